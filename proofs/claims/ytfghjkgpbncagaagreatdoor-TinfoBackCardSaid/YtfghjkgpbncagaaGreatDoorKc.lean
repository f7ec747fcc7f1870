/- Joined texts: Kc. -/
import Derived.Test.YtfghjkgpbncagaaGreatDoorKb
set_option linter.unusedVariables false
set_option maxRecDepth 100000
set_option maxHeartbeats 1000000
namespace Go.Proofs.YtfghjkgpbncagaaGreatDoor
open Go.RowKit Go.Av Go.Proofs
abbrev Ky1 : CTy := .pair (.int .i64) (.pair (.int .i64) .str)
abbrev Ty4 : Type := Int × Int × (List UInt8)
abbrev Ty1 : Type := List Ty4
abbrev Ky4 : CTy := .pair (.int .i64) (.pair .str Ky1)
abbrev Sy7 : Sh := .cell (.sl Ky4)
abbrev Sy1 : Sh := .ifc 25 (.aggL (.cons (.cell .str) (.cons (.cell .bool) (.cons (.cell (.sl Ky1)) (.cons (.cell (.sl Ky1)) (.cons (.cell (.sl Ky1)) (.cons Sy7 .nil)))))))
abbrev Ty6 : Type := Int × (List UInt8) × Int × Int × (List UInt8)
abbrev Ty2 : Type := List Ty6
abbrev Sy49 : Sh := .cons (.rs 1) (.cons (.rs 2) (.cons (.rs 3) .nil))
abbrev Sy14 : Sh := .aggL (.cons (.cell .str) (.cons (.cell .bool) (.cons (.rs 0) Sy49)))
abbrev Sy46 : Sh := .cons (.cell (.int .i64)) (.cons (.cell (.int .i64)) (.cons (.cell .str) .nil))
abbrev Sy12 : Sh := .ifc 38 (.aggL Sy46)
abbrev Sy6 : Sh := .ifc 25 (.aggL (.cons (.litS []) (.cons (.litB false) (.cons (.zs true) (.cons (.zs true) (.cons (.zs true) (.cons (.zs true) .nil)))))))
abbrev Sy10 : Sh := .ifc 38 (.cell (.sl Ky1))
abbrev Sy55 : Sh := .cons (.ifc 40 Sy7) .nil
abbrev Sy22 : Sh := .cons Sy10 (.cons Sy10 (.cons Sy10 Sy55))
abbrev Sy2 : Sh := .cons .any (.cons (.ifc 25 Sy14) (.cons Sy12 (.cons Sy6 Sy22)))
abbrev Sy11 : Sh := .cons (.cell .bool) .nil
abbrev Sy3 : Sh := .ifc 67 (.aggL (.cons (.cell (.sl (.int .u8))) (.cons (.cell (.int .i64)) Sy11)))
abbrev Sy23 : Sh := .cons (.cell (.int .i64)) .nil
abbrev Sy4 : Sh := .ifc 98 (.aggL (.cons (.cell (.int .i64)) (.cons (.cell (.int .i64)) (.cons (.cell (.int .i64)) (.cons (.cell (.int .i64)) (.cons (.cell (.int .i64)) (.cons (.cell (.int .i64)) (.cons (.cell (.int .i64)) (.cons (.cell (.int .i64)) (.cons (.cell (.int .i64)) (.cons (.cell (.int .i64)) (.cons (.cell (.int .i64)) Sy23))))))))))))
abbrev Sy5 : Sh := .agg (.pair .str (.pair .bool (.pair (.sl Ky1) (.pair (.sl Ky1) (.pair (.sl Ky1) (.sl Ky4))))))
abbrev Sy26 : Sh := .ifc 5 (.cell (.sl (.int .u8)))
abbrev Sy8 : Sh := .cons Sy26 .nil
abbrev Ty3 : Type := (List UInt8) × Bool × Ty1 × Ty1 × Ty1 × Ty2
abbrev Ky3 : CTy := .pair (.int .i64) (.int .i64)
abbrev Ky2 : CTy := .pair (.int .i64) (.pair (.int .i64) (.pair (.int .i64) Ky3))
abbrev Sy9 : Sh := .agg (.pair (.int .i64) (.pair (.int .i64) (.pair (.int .i64) (.pair (.int .i64) (.pair (.int .i64) (.pair (.int .i64) (.pair (.int .i64) Ky2)))))))
abbrev Ty5 : Type := Int × Int × Int × Int × Int × Int × Int × Int × Int × Int × Int × Int
abbrev Sy13 : Sh := .cons (.ifc 63 (.agg Ky3)) (.cons Sy3 .nil)
abbrev Sy15 : Sh := .cons (.cell (.int .i64)) (.cons .any .nil)
abbrev Sy16 : Sh := .cons (.cell .bool) (.cons .any .nil)
abbrev Sy17 : Sh := .cons (.ifc 45 (.aggL (.cons (.rs 1) Sy11))) (.cons .any Sy8)
abbrev Sy18 : Sh := .cons (.ifc 104 (.aggL (.cons (.fn 52 .nil .nil) .nil))) .nil
abbrev Sy19 : Sh := .cons .any (.cons Sy1 .nil)
abbrev Sy20 : Sh := .ifc 38 (.aggL (.cons (.lit .i64 0) (.cons (.lit .i64 0) (.cons (.litS []) .nil))))
abbrev Ty7 : Type := (Int × Int) × (List Int) × Int × Bool
abbrev Sy43 : Sh := .cons .any (.cons Sy3 .nil)
abbrev Sy21 : Sh := .cons (.cell (.int .i64)) Sy43
abbrev Ty8 : Type := (List UInt8) × Int × ((List UInt8) × Bool) × Ty4 × Ty1 × Ty1 × Ty1 × Ty2
abbrev Sy24 : Sh := .cons (.ifc 9 (.aggL (.cons (.cell .str) .nil))) .nil
abbrev Sy25 : Sh := .agg (.pair (.sl Ky1) (.pair (.sl Ky1) (.sl Ky1)))
abbrev Sy57 : Sh := .cell (.sl (.pair .str (.int .i64)))
abbrev Sy27 : Sh := .cons (.cell (.int .i64)) (.cons .any (.cons Sy3 (.cons Sy4 (.cons Sy57 Sy55))))
abbrev Sy28 : Sh := .cons (.cell .str) (.cons (.ptr 0 0) (.cons (.ptr 1 0) (.cons (.ptr 2 0) (.cons (.cell (.int .i64)) (.cons (.ptr 0 4) Sy2)))))
abbrev Sy29 : Sh := .cons (.cell .str) (.cons (.ptr 0 0) (.cons (.ptr 1 0) (.cons (.ptr 2 0) (.cons (.cell (.int .i64)) (.cons (.ptr 0 3) Sy2)))))
abbrev Sy30 : Sh := .cons (.cell .str) (.cons (.ptr 0 0) (.cons (.ptr 1 0) (.cons (.ptr 2 0) (.cons (.cell (.int .i64)) (.cons (.ptr 0 2) Sy2)))))
abbrev Sy31 : Sh := .cons (.cell (.sl Ky1)) (.cons (.cell (.sl Ky1)) (.cons (.cell (.int .i64)) (.cons (.cell (.int .i64)) (.cons .any Sy17))))
abbrev Sy32 : Sh := .cons .any (.cons (.ifc 45 (.aggL (.cons (.rs 0) Sy11))) Sy8)
abbrev Sy33 : Sh := .cons (.ptr 0 0) (.cons (.cell (.int .i64)) Sy19)
abbrev Sy34 : Sh := .cons (.cell (.sl Ky1)) (.cons .any .nil)
abbrev Sy35 : Sh := .cons .any (.cons Sy6 (.cons Sy1 .nil))
abbrev Sy36 : Sh := .cons (.cell (.int .i64)) (.cons (.cell (.int .i64)) (.cons .any (.cons Sy3 (.cons Sy4 (.cons Sy10 .nil)))))
abbrev Sy37 : Sh := .cons (.litB true) (.cons .any .nil)
abbrev Sy38 : Sh := .cons (.cell .str) (.cons .any .nil)
abbrev Sy39 : Sh := .cons (.cell (.int .i64)) (.cons .any (.cons Sy3 (.cons Sy4 .nil)))
abbrev Ty9 : Type := List ((List UInt8) × Int)
abbrev Sy40 : Sh := .ifc 3 (.cell (.sl (.int .i64)))
abbrev Sy41 : Sh := .cons .any (.cons (.ifc 45 (.aggL (.cons (.rs 2) Sy11))) (.cons .any (.cons Sy26 Sy8)))
abbrev Ty10 : Type := ((List UInt8) × Bool) × Ty1 × Ty1 × Ty1 × Ty2
abbrev Sy42 : Sh := .cons Sy5 (.cons .any .nil)
abbrev Sy44 : Sh := .cons (.cell (.int .i64)) Sy15
abbrev Sy45 : Sh := .cons (.cell (.int .i64)) (.cons .any (.cons (.ifc 9 (.cell (.sl .str))) .nil))
abbrev Sy47 : Sh := .cons .any (.cons Sy12 .nil)
abbrev Sy48 : Sh := .cons (.cell (.int .i64)) (.cons (.cell .bool) Sy19)
abbrev Ty11 : Type := (List UInt8) × (List UInt8) × (List UInt8) × (List UInt8) × (List UInt8)
abbrev Sy50 : Sh := .cons (.litB false) (.cons .any .nil)
abbrev Sy51 : Sh := .cons (.cell (.int .i64)) (.cons (.cell (.int .i64)) Sy37)
abbrev Sy52 : Sh := .cons .any (.cons Sy3 (.cons Sy6 .nil))
abbrev Sy53 : Sh := .cons (.cell (.int .i64)) (.cons .any (.cons Sy40 .nil))
abbrev Sy54 : Sh := .cons Sy26 (.cons Sy10 (.cons Sy10 (.cons Sy10 .nil)))
abbrev Sy56 : Sh := .cons (.lit .i64 1) (.cons .any .nil)
abbrev Ty12 : Type := Bool × (List UInt8) × Bool × Ty1 × Ty1 × Ty1 × Ty2
abbrev Sy58 : Sh := .cons (.ptr 0 0) (.cons (.cell (.int .i64)) Sy47)
abbrev Sy59 : Sh := .cons (.cell (.sl (.int .u8))) (.cons .any .nil)
def F_tinfo_long_1 (k : Nat) (c : Int × Int × (List UInt8)) : Option Bool :=
  some (decide ((c.2.2.length : Int) > 1000))
def I_tinfo_long_1 : Shp := ⟨[0], 0, 0, 0, (.cons (.agg Ky1) (.cons .any .nil))⟩
def E_tinfo_long_1 : Exits := [(.ret, ⟨[], 0, 0, 0, Sy11⟩)]
def C_tinfo_long_1 (k : Nat) : Con := ⟨52, I_tinfo_long_1, E_tinfo_long_1, fun z => (fun (z : Int × Int × (List UInt8)) => F_tinfo_long_1 k z) z⟩
def LH_slices_IndexFunc_Cap_1 : Shp := ⟨[0, 1, 7, 8], 0, 0, 0, (.cons (.cell (.sl Ky1)) (.cons (.fn 52 .nil .nil) Sy44))⟩
def LE_slices_IndexFunc_Cap_1 : Exits := [(.exit 0, ⟨[], 0, 0, 0, (.cons .any .nil)⟩), (.ret, ⟨[4], 0, 0, 0, Sy15⟩)]
def L_slices_IndexFunc_Cap_1 (k : Nat) : Nat → Ty1 → Int → Int → Option (Unit ⊕ Int)
  | 0, _, _, _ => none
  | n + 1, s, t7, t8 =>
    bif decide (t8 < t7) then
      bif inL t8 s.length then
        (F_tinfo_long_1 k ((s.getD (Int.toNat t8) (0, (0, []))).1, ((s.getD (Int.toNat t8) (0, (0, []))).2))).bind fun z2 =>
        bif z2 then
          some (Sum.inr t8)
        else
          bif inI (t8 + 1) then
            L_slices_IndexFunc_Cap_1 k n s t7 (t8 + 1)
          else none
      else none
    else
      some (Sum.inl ())
def F_slices_IndexFunc_Cap (k : Nat) (s : List Ty4) : Option Int :=
  (L_slices_IndexFunc_Cap_1 k k s (s.length : Int) 0).bind fun z3 =>
  either z3 (fun z3_1 =>
    some (-1))
    fun z3_2 =>
    some z3_2
def I_slices_IndexFunc_Cap : Shp := ⟨[0, 1], 0, 0, 0, (.cons (.cell (.sl Ky1)) (.cons (.fn 52 .nil .nil) (.cons .any .nil)))⟩
def E_slices_IndexFunc_Cap : Exits := [(.ret, ⟨[], 0, 0, 0, Sy23⟩)]
def C_slices_IndexFunc_Cap (k : Nat) : Con := ⟨67, I_slices_IndexFunc_Cap, E_slices_IndexFunc_Cap, fun z => (fun (z : List Ty4) => F_slices_IndexFunc_Cap k z) z⟩
def F_slices_ContainsFunc_Cap (k : Nat) (s : List Ty4) : Option Bool :=
  (F_slices_IndexFunc_Cap k s).bind fun z1 =>
  some (decide (z1 ≥ 0))
def I_slices_ContainsFunc_Cap : Shp := ⟨[0, 1], 0, 0, 0, (.cons (.cell (.sl Ky1)) (.cons (.fn 52 .nil .nil) (.cons .any .nil)))⟩
def E_slices_ContainsFunc_Cap : Exits := [(.ret, ⟨[], 0, 0, 0, Sy11⟩)]
def C_slices_ContainsFunc_Cap (k : Nat) : Con := ⟨53, I_slices_ContainsFunc_Cap, E_slices_ContainsFunc_Cap, fun z => (fun (z : List Ty4) => F_slices_ContainsFunc_Cap k z) z⟩
def F_tinfo_long_2 (k : Nat) (x : Int × (List UInt8) × Int × Int × (List UInt8)) : Option Bool :=
  ((F_tinfo_long_1 k x.2.2).bind fun z1 =>
   bif z1 then
     some true
   else
     some (decide ((x.2.1.length : Int) > 1000)) : Option (Bool)).bind fun z2 =>
  some z2
def I_tinfo_long_2 : Shp := ⟨[0, 1], 0, 1, 0, (.cons (.agg Ky4) (.cons (.ptr 0 0) (.cons .any Sy18)))⟩
def E_tinfo_long_2 : Exits := [(.ret, ⟨[], 0, 1, 0, (.cons (.cell .bool) Sy18)⟩)]
def C_tinfo_long_2 (k : Nat) : Con := ⟨55, I_tinfo_long_2, E_tinfo_long_2, fun z => (fun (z : Int × (List UInt8) × Int × Int × (List UInt8)) => F_tinfo_long_2 k z) z⟩
def LH_slices_IndexFunc_Ext_1 : Shp := ⟨[0, 1, 7, 8], 0, 1, 0, (.cons Sy7 (.cons (.fn 55 .nil (.cons (.ptr 0 0) .nil)) (.cons (.cell (.int .i64)) (.cons (.cell (.int .i64)) (.cons .any Sy18)))))⟩
def LE_slices_IndexFunc_Ext_1 : Exits := [(.exit 0, ⟨[], 0, 1, 0, (.cons .any Sy18)⟩), (.ret, ⟨[4], 0, 1, 0, (.cons (.cell (.int .i64)) (.cons .any Sy18))⟩)]
def L_slices_IndexFunc_Ext_1 (k : Nat) : Nat → Ty2 → Int → Int → Option (Unit ⊕ Int)
  | 0, _, _, _ => none
  | n + 1, s, t7, t8 =>
    bif decide (t8 < t7) then
      bif inL t8 s.length then
        (F_tinfo_long_2 k ((s.getD (Int.toNat t8) (0, ([], (0, (0, []))))).1, (((s.getD (Int.toNat t8) (0, ([], (0, (0, []))))).2).1, ((((s.getD (Int.toNat t8) (0, ([], (0, (0, []))))).2).2).1, ((((s.getD (Int.toNat t8) (0, ([], (0, (0, []))))).2).2).2))))).bind fun z2 =>
        bif z2 then
          some (Sum.inr t8)
        else
          bif inI (t8 + 1) then
            L_slices_IndexFunc_Ext_1 k n s t7 (t8 + 1)
          else none
      else none
    else
      some (Sum.inl ())
def F_slices_IndexFunc_Ext (k : Nat) (s : List Ty6) : Option Int :=
  (L_slices_IndexFunc_Ext_1 k k s (s.length : Int) 0).bind fun z3 =>
  either z3 (fun z3_1 =>
    some (-1))
    fun z3_2 =>
    some z3_2
def I_slices_IndexFunc_Ext : Shp := ⟨[0, 1], 0, 1, 0, (.cons Sy7 (.cons (.fn 55 .nil (.cons (.ptr 0 0) .nil)) (.cons .any Sy18)))⟩
def E_slices_IndexFunc_Ext : Exits := [(.ret, ⟨[], 0, 1, 0, (.cons (.cell (.int .i64)) Sy18)⟩)]
def C_slices_IndexFunc_Ext (k : Nat) : Con := ⟨61, I_slices_IndexFunc_Ext, E_slices_IndexFunc_Ext, fun z => (fun (z : List Ty6) => F_slices_IndexFunc_Ext k z) z⟩
def F_slices_ContainsFunc_Ext (k : Nat) (s : List Ty6) : Option Bool :=
  (F_slices_IndexFunc_Ext k s).bind fun z1 =>
  some (decide (z1 ≥ 0))
def I_slices_ContainsFunc_Ext : Shp := ⟨[0, 1], 0, 1, 0, (.cons Sy7 (.cons (.fn 55 .nil (.cons (.ptr 0 0) .nil)) (.cons .any Sy18)))⟩
def E_slices_ContainsFunc_Ext : Exits := [(.ret, ⟨[], 0, 1, 0, (.cons (.cell .bool) Sy18)⟩)]
def C_slices_ContainsFunc_Ext (k : Nat) : Con := ⟨54, I_slices_ContainsFunc_Ext, E_slices_ContainsFunc_Ext, fun z => (fun (z : List Ty6) => F_slices_ContainsFunc_Ext k z) z⟩
def F_tinfo_long (k : Nat) (t : (List UInt8) × Bool × Ty1 × Ty1 × Ty1 × Ty2) : Option Bool :=
  (bif decide ((t.1.length : Int) ≥ 512) then
     some true
   else
     bif decide ((t.2.2.1.length : Int) > 64) then
       some true
     else
       bif decide ((t.2.2.2.1.length : Int) > 64) then
         some true
       else
         bif decide ((t.2.2.2.2.1.length : Int) > 512) then
           some true
         else
           bif decide ((t.2.2.2.2.2.length : Int) > 256) then
             some true
           else
             (F_slices_ContainsFunc_Cap k t.2.2.1).bind fun z1 =>
             bif z1 then
               some true
             else
               (F_slices_ContainsFunc_Cap k t.2.2.2.1).bind fun z2 =>
               bif z2 then
                 some true
               else
                 (F_slices_ContainsFunc_Cap k t.2.2.2.2.1).bind fun z3 =>
                 bif z3 then
                   some true
                 else
                   (F_slices_ContainsFunc_Ext k t.2.2.2.2.2).bind fun z4 =>
                   some z4 : Option (Bool)).bind fun z5 =>
  some z5
def I_tinfo_long : Shp := ⟨[0], 0, 0, 0, Sy42⟩
def E_tinfo_long : Exits := [(.ret, ⟨[], 0, 0, 0, Sy11⟩)]
def C_tinfo_long (k : Nat) : Con := ⟨29, I_tinfo_long, E_tinfo_long, fun z => (fun (z : (List UInt8) × Bool × Ty1 × Ty1 × Ty1 × Ty2) => F_tinfo_long k z) z⟩
def F_tinfo_may (k : Nat) (c : Int × Int × (List UInt8)) (kind : Int) (wide : Bool) : Option Bool :=
  (bif wide then
     some (kind, (2147483647, c))
   else
     some (kind, (32767, c)) : Option (Int × Int × Int × Int × (List UInt8))).bind fun z1 =>
  ((bif decide (z1.2.2.1 < 0) then
      some (z1.1, (z1.2.1, (true, z1.2.2)))
    else
      some (z1.1, (z1.2.1, (decide (z1.2.2.1 > 2), z1.2.2))) : Option (Int × Int × Bool × Int × Int × (List UInt8))).bind fun z2 =>
   bif z2.2.2.1 then
     some (z2.1, (z2.2.1, (true, z2.2.2.2)))
   else
     bif z2.2.2.2.1 != 1 then
       bif z2.2.2.2.2.1 != 0 then
         some (z2.1, (z2.2.1, (true, z2.2.2.2)))
       else
         some (z2.1, (z2.2.1, (!(z2.2.2.2.2.2 == []), z2.2.2.2)))
     else
       some (z2.1, (z2.2.1, (false, z2.2.2.2))) : Option (Int × Int × Bool × Int × Int × (List UInt8))).bind fun z3 =>
  bif z3.2.2.1 then
    some false
  else
    bif z3.1 == 0 then
      (bif z3.2.2.2.2.1 == 0 then
         some (z3.2.2.2.2.2 == [])
       else
         some false : Option (Bool)).bind fun z4 =>
      some z4
    else
      bif z3.1 == 1 then
        (bif z3.2.2.2.2.2 == [] then
           bif decide (z3.2.2.2.2.1 ≥ 0) then
             some (decide (z3.2.2.2.2.1 ≤ z3.2.1))
           else
             some false
         else
           some false : Option (Bool)).bind fun z5 =>
        some z5
      else
        (bif z3.2.2.2.2.1 == 0 then
           (F_strings_Contains k z3.2.2.2.2.2 [0]).bind fun z6 =>
           some (!z6)
         else
           some false : Option (Bool)).bind fun z7 =>
        some z7
def I_tinfo_may : Shp := ⟨[0, 1, 2], 0, 0, 0, (.cons (.agg Ky1) (.cons (.cell (.int .i64)) Sy16))⟩
def E_tinfo_may : Exits := [(.ret, ⟨[], 0, 0, 0, Sy11⟩)]
def C_tinfo_may (k : Nat) : Con := ⟨31, I_tinfo_may, E_tinfo_may, fun z => (fun (z : Ty4 × Int × Bool) => F_tinfo_may k z.1 z.2.1 z.2.2) z⟩
def F_tinfo_spots (k : Nat) : Option (List ((List UInt8) × Int × Int)) :=
  some [([98, 119], (0, 0)), ([97, 109], (0, 1)), ([120, 115, 98], (0, 2)), ([120, 104, 112], (0, 3)), ([120, 101, 110, 108], (0, 4)), ([101, 111], (0, 5)), ([103, 110], (0, 6)), ([104, 99], (0, 7)), ([107, 109], (0, 8)), ([104, 115], (0, 9)), ([105, 110], (0, 10)), ([100, 97], (0, 11)), ([100, 98], (0, 12)), ([109, 105, 114], (0, 13)), ([109, 115, 103, 114], (0, 14)), ([111, 115], (0, 15)), ([99, 111, 108, 115], (1, 0)), ([105, 116], (1, 1)), ([108, 105, 110, 101, 115], (1, 2)), ([108, 109], (1, 3)), ([120, 109, 99], (1, 4)), ([112, 98], (1, 5)), ([118, 116], (1, 6)), ([119, 115, 108], (1, 7)), ([110, 108, 97, 98], (1, 8)), ([108, 104], (1, 9)), ([108, 119], (1, 10)), ([109, 97], (1, 11)), ([119, 110, 117, 109], (1, 12)), ([99, 111, 108, 111, 114, 115], (1, 13)), ([112, 97, 105, 114, 115], (1, 14)), ([110, 99, 118], (1, 15)), ([99, 98, 116], (2, 0)), ([98, 101, 108], (2, 1)), ([99, 114], (2, 2)), ([99, 115, 114], (2, 3)), ([116, 98, 99], (2, 4)), ([99, 108, 101, 97, 114], (2, 5)), ([101, 108], (2, 6)), ([101, 100], (2, 7)), ([104, 112, 97], (2, 8)), ([99, 109, 100, 99, 104], (2, 9)), ([99, 117, 112], (2, 10)), ([99, 117, 100, 49], (2, 11)), ([104, 111, 109, 101], (2, 12)), ([99, 105, 118, 105, 115], (2, 13)), ([99, 117, 98, 49], (2, 14)), ([109, 114, 99, 117, 112], (2, 15)), ([99, 110, 111, 114, 109], (2, 16)), ([99, 117, 102, 49], (2, 17)), ([108, 108], (2, 18)), ([99, 117, 117, 49], (2, 19)), ([99, 118, 118, 105, 115], (2, 20)), ([100, 99, 104, 49], (2, 21)), ([100, 108, 49], (2, 22)), ([100, 115, 108], (2, 23)), ([104, 100], (2, 24)), ([115, 109, 97, 99, 115], (2, 25)), ([98, 108, 105, 110, 107], (2, 26)), ([98, 111, 108, 100], (2, 27)), ([115, 109, 99, 117, 112], (2, 28)), ([115, 109, 100, 99], (2, 29)), ([100, 105, 109], (2, 30)), ([115, 109, 105, 114], (2, 31)), ([105, 110, 118, 105, 115], (2, 32)), ([112, 114, 111, 116], (2, 33)), ([114, 101, 118], (2, 34)), ([115, 109, 115, 111], (2, 35)), ([115, 109, 117, 108], (2, 36)), ([101, 99, 104], (2, 37)), ([114, 109, 97, 99, 115], (2, 38)), ([115, 103, 114, 48], (2, 39)), ([114, 109, 99, 117, 112], (2, 40)), ([114, 109, 100, 99], (2, 41)), ([114, 109, 105, 114], (2, 42)), ([114, 109, 115, 111], (2, 43)), ([114, 109, 117, 108], (2, 44)), ([102, 108, 97, 115, 104], (2, 45)), ([105, 99, 104, 49], (2, 52)), ([105, 108, 49], (2, 53)), ([105, 112], (2, 54)), ([107, 98, 115], (2, 55)), ([107, 100, 99, 104, 49], (2, 59)), ([107, 99, 117, 100, 49], (2, 61)), ([107, 104, 111, 109, 101], (2, 76)), ([107, 105, 99, 104, 49], (2, 77)), ([107, 99, 117, 98, 49], (2, 79)), ([107, 110, 112], (2, 81)), ([107, 112, 112], (2, 82)), ([107, 99, 117, 102, 49], (2, 83)), ([107, 99, 117, 117, 49], (2, 87)), ([114, 109, 107, 120], (2, 88)), ([115, 109, 107, 120], (2, 89)), ([110, 101, 108], (2, 103)), ([100, 99, 104], (2, 105)), ([100, 108], (2, 106)), ([99, 117, 100], (2, 107)), ([105, 99, 104], (2, 108)), ([105, 110, 100, 110], (2, 109)), ([105, 108], (2, 110)), ([99, 117, 98], (2, 111)), ([99, 117, 102], (2, 112)), ([114, 105, 110], (2, 113)), ([99, 117, 117], (2, 114)), ([114, 99], (2, 126)), ([118, 112, 97], (2, 127)), ([115, 99], (2, 128)), ([105, 110, 100], (2, 129)), ([114, 105], (2, 130)), ([115, 103, 114], (2, 131)), ([104, 116, 115], (2, 132)), ([107, 101, 110, 100], (2, 164))]
def I_tinfo_spots : Shp := ⟨[], 0, 0, 0, (.cons .any .nil)⟩
def E_tinfo_spots : Exits := [(.ret, ⟨[], 0, 0, 0, (.cons (.arr 112 (.pair .str Ky3)) .nil)⟩)]
def C_tinfo_spots (k : Nat) : Con := ⟨43, I_tinfo_spots, E_tinfo_spots, fun _ => F_tinfo_spots k⟩
def LH_tinfo_Place_1 : Shp := ⟨[0, 7, 8], 0, 0, 0, (.cons (.cell .str) (.cons (.arr 112 (.pair .str Ky3)) Sy15))⟩
def LE_tinfo_Place_1 : Exits := [(.exit 0, ⟨[], 0, 0, 0, (.cons .any .nil)⟩), (.ret, ⟨[2, 3, 4], 0, 0, 0, Sy51⟩)]
def L_tinfo_Place_1 (k : Nat) : Nat → (List UInt8) → (List ((List UInt8) × Int × Int)) → Int → Option (Unit ⊕ (Int × Int))
  | 0, _, _, _ => none
  | n + 1, name, t7, t8 =>
    bif decide (t8 < 112) then
      bif inL t8 112 && inL t8 t7.length then
        bif ((t7.getD (Int.toNat t8) ([], (0, 0))).1) == name then
          some (Sum.inr ((t7.getD (Int.toNat t8) ([], (0, 0))).2))
        else
          bif inI (t8 + 1) then
            L_tinfo_Place_1 k n name t7 (t8 + 1)
          else none
      else none
    else
      some (Sum.inl ())
def F_tinfo_Place (k : Nat) (name : List UInt8) : Option (Int × Int × Bool) :=
  (F_tinfo_spots k).bind fun z1 =>
  (L_tinfo_Place_1 k k name z1 0).bind fun z2 =>
  either z2 (fun z2_1 =>
    some (0, (0, false)))
    fun z2_2 =>
    some (z2_2.1, (z2_2.2, true))
def I_tinfo_Place : Shp := ⟨[0], 0, 0, 0, Sy38⟩
def E_tinfo_Place : Exits := [(.ret, ⟨[], 0, 0, 0, (.cons (.tupL (.cons (.cell (.int .i64)) (.cons (.cell (.int .i64)) Sy11))) .nil)⟩)]
def C_tinfo_Place (k : Nat) : Con := ⟨22, I_tinfo_Place, E_tinfo_Place, fun z => (fun (z : List UInt8) => F_tinfo_Place k z) z⟩
def LH_tinfo_Check_3 : Shp := ⟨[1, 7, 8, 51, 52, 53], 0, 2, 0, (.cons (.ptr 0 0) (.cons (.cell (.int .i64)) (.cons (.mp 1) (.cons Sy7 (.cons (.cell (.int .i64)) (.cons (.cell (.int .i64)) (.cons .any (.cons Sy1 (.cons Sy57 .nil)))))))))⟩
def LE_tinfo_Check_3 : Exits := [(.exit 4, ⟨[], 0, 0, 0, (.cons .any .nil)⟩), (.ret, ⟨[2], 0, 0, 0, Sy56⟩)]
def L_tinfo_Check_3 (k : Nat) : Nat → Int → Ty2 → Int → Int → (List UInt8) → Bool → Ty1 → Ty1 → Ty1 → Ty2 → Ty9 → Option (Unit ⊕ Unit)
  | 0, _, _, _, _, _, _, _, _, _, _, _ => none
  | n + 1, last, t51, t52, t53, b0_0, b0_1, b0_2, b0_3, b0_4, b0_5, b1 =>
    bif decide (t53 < t52) then
      bif inL t53 t51.length then
        (F_tinfo_Place k (((t51.getD (Int.toNat t53) (0, ([], (0, (0, []))))).2).1)).bind fun z15 =>
        bif inI ((sget (0 : Int) b1 (((t51.getD (Int.toNat t53) (0, ([], (0, (0, []))))).2).1)) + 1) then
          (bif decide (((t51.getD (Int.toNat t53) (0, ([], (0, (0, []))))).1) < last) then
             some (t51, (t52, (t53, (true, ((b0_0, (b0_1, (b0_2, (b0_3, (b0_4, b0_5))))), (sput b1 (((t51.getD (Int.toNat t53) (0, ([], (0, (0, []))))).2).1) ((sget (0 : Int) b1 (((t51.getD (Int.toNat t53) (0, ([], (0, (0, []))))).2).1)) + 1), ((t51.getD (Int.toNat t53) (0, ([], (0, (0, []))))).1, (((t51.getD (Int.toNat t53) (0, ([], (0, (0, []))))).2).1, ((((t51.getD (Int.toNat t53) (0, ([], (0, (0, []))))).2).2).1, ((((t51.getD (Int.toNat t53) (0, ([], (0, (0, []))))).2).2).2))))))))))
           else
             bif decide (((t51.getD (Int.toNat t53) (0, ([], (0, (0, []))))).1) > 2) then
               some (t51, (t52, (t53, (true, ((b0_0, (b0_1, (b0_2, (b0_3, (b0_4, b0_5))))), (sput b1 (((t51.getD (Int.toNat t53) (0, ([], (0, (0, []))))).2).1) ((sget (0 : Int) b1 (((t51.getD (Int.toNat t53) (0, ([], (0, (0, []))))).2).1)) + 1), ((t51.getD (Int.toNat t53) (0, ([], (0, (0, []))))).1, (((t51.getD (Int.toNat t53) (0, ([], (0, (0, []))))).2).1, ((((t51.getD (Int.toNat t53) (0, ([], (0, (0, []))))).2).2).1, ((((t51.getD (Int.toNat t53) (0, ([], (0, (0, []))))).2).2).2))))))))))
             else
               bif (((t51.getD (Int.toNat t53) (0, ([], (0, (0, []))))).2).1) == [] then
                 some (t51, (t52, (t53, (true, ((b0_0, (b0_1, (b0_2, (b0_3, (b0_4, b0_5))))), (sput b1 (((t51.getD (Int.toNat t53) (0, ([], (0, (0, []))))).2).1) ((sget (0 : Int) b1 (((t51.getD (Int.toNat t53) (0, ([], (0, (0, []))))).2).1)) + 1), ((t51.getD (Int.toNat t53) (0, ([], (0, (0, []))))).1, (((t51.getD (Int.toNat t53) (0, ([], (0, (0, []))))).2).1, ((((t51.getD (Int.toNat t53) (0, ([], (0, (0, []))))).2).2).1, ((((t51.getD (Int.toNat t53) (0, ([], (0, (0, []))))).2).2).2))))))))))
               else
                 (F_strings_Contains k (((t51.getD (Int.toNat t53) (0, ([], (0, (0, []))))).2).1) [0]).bind fun z16 =>
                 bif z16 then
                   some (t51, (t52, (t53, (true, ((b0_0, (b0_1, (b0_2, (b0_3, (b0_4, b0_5))))), (sput b1 (((t51.getD (Int.toNat t53) (0, ([], (0, (0, []))))).2).1) ((sget (0 : Int) b1 (((t51.getD (Int.toNat t53) (0, ([], (0, (0, []))))).2).1)) + 1), ((t51.getD (Int.toNat t53) (0, ([], (0, (0, []))))).1, (((t51.getD (Int.toNat t53) (0, ([], (0, (0, []))))).2).1, ((((t51.getD (Int.toNat t53) (0, ([], (0, (0, []))))).2).2).1, ((((t51.getD (Int.toNat t53) (0, ([], (0, (0, []))))).2).2).2))))))))))
                 else
                   bif decide ((sget (0 : Int) (sput b1 (((t51.getD (Int.toNat t53) (0, ([], (0, (0, []))))).2).1) ((sget (0 : Int) b1 (((t51.getD (Int.toNat t53) (0, ([], (0, (0, []))))).2).1)) + 1)) (((t51.getD (Int.toNat t53) (0, ([], (0, (0, []))))).2).1)) > 1) then
                     some (t51, (t52, (t53, (true, ((b0_0, (b0_1, (b0_2, (b0_3, (b0_4, b0_5))))), (sput b1 (((t51.getD (Int.toNat t53) (0, ([], (0, (0, []))))).2).1) ((sget (0 : Int) b1 (((t51.getD (Int.toNat t53) (0, ([], (0, (0, []))))).2).1)) + 1), ((t51.getD (Int.toNat t53) (0, ([], (0, (0, []))))).1, (((t51.getD (Int.toNat t53) (0, ([], (0, (0, []))))).2).1, ((((t51.getD (Int.toNat t53) (0, ([], (0, (0, []))))).2).2).1, ((((t51.getD (Int.toNat t53) (0, ([], (0, (0, []))))).2).2).2))))))))))
                   else
                     bif z15.2.2 then
                       some (t51, (t52, (t53, (true, ((b0_0, (b0_1, (b0_2, (b0_3, (b0_4, b0_5))))), (sput b1 (((t51.getD (Int.toNat t53) (0, ([], (0, (0, []))))).2).1) ((sget (0 : Int) b1 (((t51.getD (Int.toNat t53) (0, ([], (0, (0, []))))).2).1)) + 1), ((t51.getD (Int.toNat t53) (0, ([], (0, (0, []))))).1, (((t51.getD (Int.toNat t53) (0, ([], (0, (0, []))))).2).1, ((((t51.getD (Int.toNat t53) (0, ([], (0, (0, []))))).2).2).1, ((((t51.getD (Int.toNat t53) (0, ([], (0, (0, []))))).2).2).2))))))))))
                     else
                       (F_tinfo_may k ((((t51.getD (Int.toNat t53) (0, ([], (0, (0, []))))).2).2).1, ((((t51.getD (Int.toNat t53) (0, ([], (0, (0, []))))).2).2).2)) ((t51.getD (Int.toNat t53) (0, ([], (0, (0, []))))).1) b0_1).bind fun z17 =>
                       some (t51, (t52, (t53, (!z17, ((b0_0, (b0_1, (b0_2, (b0_3, (b0_4, b0_5))))), (sput b1 (((t51.getD (Int.toNat t53) (0, ([], (0, (0, []))))).2).1) ((sget (0 : Int) b1 (((t51.getD (Int.toNat t53) (0, ([], (0, (0, []))))).2).1)) + 1), ((t51.getD (Int.toNat t53) (0, ([], (0, (0, []))))).1, (((t51.getD (Int.toNat t53) (0, ([], (0, (0, []))))).2).1, ((((t51.getD (Int.toNat t53) (0, ([], (0, (0, []))))).2).2).1, ((((t51.getD (Int.toNat t53) (0, ([], (0, (0, []))))).2).2).2)))))))))) : Option (Ty2 × Int × Int × Bool × Ty3 × Ty9 × Int × (List UInt8) × Int × Int × (List UInt8))).bind fun z18 =>
          bif z18.2.2.2.1 then
            some (Sum.inr ())
          else
            bif inI (z18.2.2.1 + 1) then
              L_tinfo_Check_3 k n z18.2.2.2.2.2.2.1 z18.1 z18.2.1 (z18.2.2.1 + 1) z18.2.2.2.2.1.1 z18.2.2.2.2.1.2.1 z18.2.2.2.2.1.2.2.1 z18.2.2.2.2.1.2.2.2.1 z18.2.2.2.2.1.2.2.2.2.1 z18.2.2.2.2.1.2.2.2.2.2 z18.2.2.2.2.2.1
            else none
        else none
      else none
    else
      some (Sum.inl ())
def LH_tinfo_Check_2 : Shp := ⟨[1, 3, 30, 31, 35, 36, 37], 0, 1, 0, (.cons (.ptr 0 0) (.cons (.cell (.int .i64)) (.cons Sy25 (.cons (.cell (.int .i64)) (.cons (.cell (.sl Ky1)) (.cons (.cell (.int .i64)) (.cons (.cell (.int .i64)) Sy19)))))))⟩
def LE_tinfo_Check_2 : Exits := [(.exit 2, ⟨[1, 30, 31], 0, 1, 0, (.cons (.ptr 0 0) (.cons Sy25 (.cons (.cell (.int .i64)) Sy19)))⟩), (.ret, ⟨[2], 0, 0, 0, Sy56⟩)]
def L_tinfo_Check_2 (k : Nat) : Nat → Int → (Ty1 × Ty1 × Ty1) → Int → Ty1 → Int → Int → (List UInt8) → Bool → Ty1 → Ty1 → Ty1 → Ty2 → Option (((Ty1 × Ty1 × Ty1) × Int × (List UInt8) × Bool × Ty1 × Ty1 × Ty1 × Ty2) ⊕ Unit)
  | 0, _, _, _, _, _, _, _, _, _, _, _, _ => none
  | n + 1, kind, t30, t31, t35, t36, t37, b0_0, b0_1, b0_2, b0_3, b0_4, b0_5 =>
    bif decide (t37 < t36) then
      bif inL t37 t35.length then
        (F_tinfo_may k ((t35.getD (Int.toNat t37) (0, (0, []))).1, ((t35.getD (Int.toNat t37) (0, (0, []))).2)) kind b0_1).bind fun z8 =>
        bif !z8 then
          some (Sum.inr ())
        else
          bif inI (t37 + 1) then
            L_tinfo_Check_2 k n kind t30 t31 t35 t36 (t37 + 1) b0_0 b0_1 b0_2 b0_3 b0_4 b0_5
          else none
      else none
    else
      some (Sum.inl (t30, (t31, (b0_0, (b0_1, (b0_2, (b0_3, (b0_4, b0_5))))))))
def LH_tinfo_Check_1 : Shp := ⟨[1, 30, 31], 0, 1, 0, (.cons (.ptr 0 0) (.cons Sy25 (.cons (.cell (.int .i64)) Sy19)))⟩
def LE_tinfo_Check_1 : Exits := [(.exit 0, ⟨[1], 0, 1, 0, (.cons (.ptr 0 0) Sy19)⟩), (.ret, ⟨[2], 0, 0, 0, Sy56⟩)]
def L_tinfo_Check_1 (k : Nat) : Nat → (Ty1 × Ty1 × Ty1) → Int → (List UInt8) → Bool → Ty1 → Ty1 → Ty1 → Ty2 → Option (Ty3 ⊕ Unit)
  | 0, _, _, _, _, _, _, _, _ => none
  | n + 1, t30, t31, b0_0, b0_1, b0_2, b0_3, b0_4, b0_5 =>
    bif decide (t31 < 3) then
      bif inL t31 3 then
        (L_tinfo_Check_2 k k t31 t30 t31 (([t30.1, t30.2.1, t30.2.2] : List Ty1).getD (Int.toNat t31) []) ((([t30.1, t30.2.1, t30.2.2] : List Ty1).getD (Int.toNat t31) []).length : Int) 0 b0_0 b0_1 b0_2 b0_3 b0_4 b0_5).bind fun z9 =>
        either z9 (fun z9_1 =>
          bif inI (z9_1.2.1 + 1) then
            L_tinfo_Check_1 k n z9_1.1 (z9_1.2.1 + 1) z9_1.2.2.1 z9_1.2.2.2.1 z9_1.2.2.2.2.1 z9_1.2.2.2.2.2.1 z9_1.2.2.2.2.2.2.1 z9_1.2.2.2.2.2.2.2
          else none)
          fun z9_2 =>
          some (Sum.inr ())
      else none
    else
      some (Sum.inl (b0_0, (b0_1, (b0_2, (b0_3, (b0_4, b0_5))))))
def F_tinfo_Check (k : Nat) (t : (List UInt8) × Bool × Ty1 × Ty1 × Ty1 × Ty2) : Option Int :=
  (F_tinfo_long k t).bind fun z1 =>
  bif z1 then
    some 3
  else
    (bif t.1 == [] then
       some (true, t)
     else
       (F_strings_Contains k t.1 [0]).bind fun z2 =>
       some (z2, t) : Option Ty12).bind fun z3 =>
    bif z3.1 then
      some 1
    else
      (L_tinfo_Check_1 k k (z3.2.2.2.1, (z3.2.2.2.2.1, z3.2.2.2.2.2.1)) 0 z3.2.1 z3.2.2.1 z3.2.2.2.1 z3.2.2.2.2.1 z3.2.2.2.2.2.1 z3.2.2.2.2.2.2).bind fun z10 =>
      either z10 (fun z10_1 =>
        (L_tinfo_Check_3 k k 0 z10_1.2.2.2.2.2 (z10_1.2.2.2.2.2.length : Int) 0 z10_1.1 z10_1.2.1 z10_1.2.2.1 z10_1.2.2.2.1 z10_1.2.2.2.2.1 z10_1.2.2.2.2.2 ([] : List ((List UInt8) × Int))).bind fun z19 =>
        either z19 (fun z19_1 =>
          some 0)
          fun z19_2 =>
          some 1)
        fun z10_2 =>
        some 1
def I_tinfo_Check : Shp := ⟨[0], 0, 0, 0, Sy42⟩
def E_tinfo_Check : Exits := [(.ret, ⟨[], 0, 0, 0, Sy23⟩)]
def C_tinfo_Check (k : Nat) : Con := ⟨9, I_tinfo_Check, E_tinfo_Check, fun z => (fun (z : (List UInt8) × Bool × Ty1 × Ty1 × Ty1 × Ty2) => F_tinfo_Check k z) z⟩
def LH_tinfo_size_1 : Shp := ⟨[4, 5, 8, 9, 10], 0, 0, 0, (.cons (.cell (.int .i64)) (.cons (.cell (.int .i64)) (.cons (.cell (.sl Ky1)) Sy44)))⟩
def LE_tinfo_size_1 : Exits := [(.exit 0, ⟨[4, 5], 0, 0, 0, Sy44⟩)]
def L_tinfo_size_1 (k : Nat) : Nat → Int → Int → Ty1 → Int → Int → Option (Int × Int)
  | 0, _, _, _, _, _ => none
  | n + 1, n_, many, t8, t9, t10 =>
    bif decide (t10 < t9) then
      (bif inL t10 t8.length then
         bif ((t8.getD (Int.toNat t10) (0, (0, []))).1) == 1 then
           bif inI (((((t8.getD (Int.toNat t10) (0, (0, []))).2).2).length : Int) + 1) then
             bif inI (n_ + (((((t8.getD (Int.toNat t10) (0, (0, []))).2).2).length : Int) + 1)) then
               bif inI (many + 1) then
                 some (n_ + (((((t8.getD (Int.toNat t10) (0, (0, []))).2).2).length : Int) + 1), (many + 1, (t8, (t9, t10))))
               else none
             else none
           else none
         else
           some (n_, (many, (t8, (t9, t10))))
       else none : Option (Int × Int × Ty1 × Int × Int)).bind fun z2 =>
      bif inI (z2.2.2.2.2 + 1) then
        L_tinfo_size_1 k n z2.1 z2.2.1 z2.2.2.1 z2.2.2.2.1 (z2.2.2.2.2 + 1)
      else none
    else
      some (n_, many)
def F_tinfo_size (k : Nat) (l : List Ty4) : Option (Int × Int) :=
  (L_tinfo_size_1 k k 0 0 l (l.length : Int) 0).bind fun z3 =>
  some z3
def I_tinfo_size : Shp := ⟨[0], 0, 0, 0, Sy34⟩
def E_tinfo_size : Exits := [(.ret, ⟨[], 0, 0, 0, (.cons (.tupL (.cons (.cell (.int .i64)) Sy23)) .nil)⟩)]
def C_tinfo_size (k : Nat) : Con := ⟨10, I_tinfo_size, E_tinfo_size, fun z => (fun (z : List Ty4) => F_tinfo_size k z) z⟩
def LH_tinfo_writer_shorts_1 : Shp := ⟨[0, 6, 7, 8], 0, 1, 1, (.cons (.ptr 0 0) (.cons (.cell (.sl (.int .i64))) (.cons (.cell (.int .i64)) (.cons (.cell (.int .i64)) Sy32))))⟩
def LE_tinfo_writer_shorts_1 : Exits := [(.exit 0, ⟨[], 0, 1, 1, Sy32⟩)]
def L_tinfo_writer_shorts_1 (k : Nat) : Nat → (List Int) → Int → Int → Bool → (List Int) → Option (Bool × (List Int))
  | 0, _, _, _, _, _ => none
  | n + 1, t6, t7, t8, b0_1, w0 =>
    bif decide (t8 < t7) then
      bif inL t8 t6.length then
        bif room ((w0.length + ([IntKind.wrap .u8 (t6.getD (Int.toNat t8) 0), IntKind.wrap .u8 (Int.fdiv (t6.getD (Int.toNat t8) 0) (2 ^ (min (Int.toNat 8) (IntKind.bits .i64))))] : List Int).length) * 1) then
          bif inI (t8 + 1) then
            L_tinfo_writer_shorts_1 k n t6 t7 (t8 + 1) b0_1 (w0 ++ [IntKind.wrap .u8 (t6.getD (Int.toNat t8) 0), IntKind.wrap .u8 (Int.fdiv (t6.getD (Int.toNat t8) 0) (2 ^ (min (Int.toNat 8) (IntKind.bits .i64))))])
          else none
        else none
      else none
    else
      some (b0_1, w0)
def F_tinfo_writer_shorts (k : Nat) (l : List Int) (b0_1 : Bool) : Option (Bool × (List Int)) :=
  (L_tinfo_writer_shorts_1 k k l (l.length : Int) 0 b0_1 []).bind fun z1 =>
  some z1
def I_tinfo_writer_shorts : Shp := ⟨[0, 1], 0, 1, 0, (.cons (.ptr 0 0) (.cons (.cell (.sl (.int .i64))) (.cons .any (.cons (.ifc 45 (.aggL (.cons (.zs true) Sy11))) .nil))))⟩
def E_tinfo_writer_shorts : Exits := [(.ret, ⟨[], 0, 1, 1, (.cons (.tupL .nil) (.cons (.ifc 45 (.aggL (.cons (.rs 0) Sy11))) Sy8))⟩)]
def C_tinfo_writer_shorts (k : Nat) : Con := ⟨11, I_tinfo_writer_shorts, E_tinfo_writer_shorts, fun z => (fun (z : (List Int) × Bool) => F_tinfo_writer_shorts k z.1 z.2) z⟩
def F_tinfo_writer_even (k : Nat) (b0_1 : Bool) (w0 : List Int) : Option (Bool × (List Int)) :=
  bif (Int.tmod (w0.length : Int) 2) == 1 then
    bif room ((w0.length + ([0] : List Int).length) * 1) then
      some (b0_1, w0 ++ [0])
    else none
  else
    some (b0_1, w0)
def I_tinfo_writer_even : Shp := ⟨[0], 0, 1, 1, (.cons (.ptr 0 0) Sy32)⟩
def E_tinfo_writer_even : Exits := [(.ret, ⟨[], 0, 1, 2, (.cons (.tupL .nil) Sy17)⟩)]
def C_tinfo_writer_even (k : Nat) : Con := ⟨13, I_tinfo_writer_even, E_tinfo_writer_even, fun z => (fun (z : Bool × (List Int)) => F_tinfo_writer_even k z.1 z.2) z⟩
def F_tinfo_value (k : Nat) (c : Int × Int × (List UInt8)) (n_ : Int) : Option Int :=
  bif c.1 == 0 then
    some (-1)
  else
    bif c.1 == 2 then
      some (-2)
    else
      some n_
def I_tinfo_value : Shp := ⟨[0, 1], 0, 0, 0, (.cons (.agg Ky1) Sy15)⟩
def E_tinfo_value : Exits := [(.ret, ⟨[], 0, 0, 0, Sy23⟩)]
def C_tinfo_value (k : Nat) : Con := ⟨32, I_tinfo_value, E_tinfo_value, fun z => (fun (z : Ty4 × Int) => F_tinfo_value k z.1 z.2) z⟩
def LH_tinfo_writer_shorts_2_1 : Shp := ⟨[0, 6, 7, 8], 0, 1, 2, (.cons (.ptr 0 0) (.cons (.cell (.sl (.int .i64))) (.cons (.cell (.int .i64)) (.cons (.cell (.int .i64)) (.cons .any Sy17)))))⟩
def LE_tinfo_writer_shorts_2_1 : Exits := [(.exit 0, ⟨[], 0, 1, 2, (.cons .any Sy17)⟩)]
def L_tinfo_writer_shorts_2_1 (k : Nat) : Nat → (List Int) → Int → Int → Bool → (List Int) → Option (Bool × (List Int))
  | 0, _, _, _, _, _ => none
  | n + 1, t6, t7, t8, b0_1, w1 =>
    bif decide (t8 < t7) then
      bif inL t8 t6.length then
        bif room ((w1.length + ([IntKind.wrap .u8 (t6.getD (Int.toNat t8) 0), IntKind.wrap .u8 (Int.fdiv (t6.getD (Int.toNat t8) 0) (2 ^ (min (Int.toNat 8) (IntKind.bits .i64))))] : List Int).length) * 1) then
          bif inI (t8 + 1) then
            L_tinfo_writer_shorts_2_1 k n t6 t7 (t8 + 1) b0_1 (w1 ++ [IntKind.wrap .u8 (t6.getD (Int.toNat t8) 0), IntKind.wrap .u8 (Int.fdiv (t6.getD (Int.toNat t8) 0) (2 ^ (min (Int.toNat 8) (IntKind.bits .i64))))])
          else none
        else none
      else none
    else
      some (b0_1, w1)
def F_tinfo_writer_shorts_2 (k : Nat) (l : List Int) (b0_1 : Bool) (w0 : List Int) : Option (Bool × (List Int)) :=
  (L_tinfo_writer_shorts_2_1 k k l (l.length : Int) 0 b0_1 w0).bind fun z1 =>
  some z1
def I_tinfo_writer_shorts_2 : Shp := ⟨[0, 1], 0, 1, 1, (.cons (.ptr 0 0) (.cons (.cell (.sl (.int .i64))) Sy32))⟩
def E_tinfo_writer_shorts_2 : Exits := [(.ret, ⟨[], 0, 1, 2, (.cons (.tupL .nil) Sy17)⟩)]
def C_tinfo_writer_shorts_2 (k : Nat) : Con := ⟨11, I_tinfo_writer_shorts_2, E_tinfo_writer_shorts_2, fun z => (fun (z : (List Int) × Bool × (List Int)) => F_tinfo_writer_shorts_2 k z.1 z.2.1 z.2.2) z⟩
def LH_tinfo_writer_lists_3 : Shp := ⟨[0, 14, 63, 64, 65], 0, 1, 3, (.cons (.ptr 0 0) (.cons (.rs 1) (.cons (.cell (.sl Ky1)) (.cons (.cell (.int .i64)) (.cons (.cell (.int .i64)) Sy41)))))⟩
def LE_tinfo_writer_lists_3 : Exits := [(.exit 4, ⟨[14], 0, 1, 3, (.cons (.rs 1) Sy41)⟩)]
def L_tinfo_writer_lists_3 (k : Nat) : Nat → Ty1 → Int → Int → Bool → (List Int) → (List Int) → Option (Bool × (List Int) × (List Int))
  | 0, _, _, _, _, _, _ => none
  | n + 1, t63, t64, t65, b0_1, w1, w2 =>
    bif decide (t65 < t64) then
      (bif inL t65 t63.length then
         (F_tinfo_value k ((t63.getD (Int.toNat t65) (0, (0, []))).1, ((t63.getD (Int.toNat t65) (0, (0, []))).2)) (w1.length : Int)).bind fun z15 =>
         (F_tinfo_writer_shorts_2 k [z15] b0_1 w2).bind fun z16 =>
         bif ((t63.getD (Int.toNat t65) (0, (0, []))).1) == 1 then
           bif room ((w1.length + (((t63.getD (Int.toNat t65) (0, (0, []))).2).2).length) * 1) then
             bif room (((w1 ++ (sI (((t63.getD (Int.toNat t65) (0, (0, []))).2).2))).length + ([0] : List Int).length) * 1) then
               some (t63, (t64, (t65, (z16.1, ((w1 ++ (sI (((t63.getD (Int.toNat t65) (0, (0, []))).2).2))) ++ [0], z16.2)))))
             else none
           else none
         else
           some (t63, (t64, (t65, (z16.1, (w1, z16.2)))))
       else none : Option (Ty1 × Int × Int × Bool × (List Int) × (List Int))).bind fun z17 =>
      bif inI (z17.2.2.1 + 1) then
        L_tinfo_writer_lists_3 k n z17.1 z17.2.1 (z17.2.2.1 + 1) z17.2.2.2.1 z17.2.2.2.2.1 z17.2.2.2.2.2
      else none
    else
      some (b0_1, (w1, w2))
def LH_tinfo_writer_lists_2 : Shp := ⟨[0, 3, 39, 40, 41], 0, 1, 2, (.cons (.ptr 0 0) Sy31)⟩
def LE_tinfo_writer_lists_2 : Exits := [(.exit 2, ⟨[0, 3], 0, 1, 2, (.cons (.ptr 0 0) (.cons (.cell (.sl Ky1)) (.cons .any Sy17)))⟩)]
def L_tinfo_writer_lists_2 (k : Nat) : Nat → Ty1 → Ty1 → Int → Int → Bool → (List Int) → Option (Ty1 × Bool × (List Int))
  | 0, _, _, _, _, _, _ => none
  | n + 1, texts, t39, t40, t41, b0_1, w1 =>
    bif decide (t41 < t40) then
      (bif inL t41 t39.length then
         (F_tinfo_value k ((t39.getD (Int.toNat t41) (0, (0, []))).1, ((t39.getD (Int.toNat t41) (0, (0, []))).2)) (((t39.getD (Int.toNat t41) (0, (0, []))).2).1)).bind fun z7 =>
         (F_tinfo_writer_shorts_2 k [z7] b0_1 w1).bind fun z8 =>
         bif z8.1 then
           (F_tinfo_writer_shorts_2 k [Int.fdiv z7 (2 ^ (min (Int.toNat 16) (IntKind.bits .i64)))] z8.1 z8.2).bind fun z9 =>
           some (texts, (t39, (t40, (t41, z9))))
         else
           some (texts, (t39, (t40, (t41, z8))))
       else none : Option (Ty1 × Ty1 × Int × Int × Bool × (List Int))).bind fun z10 =>
      bif inI (z10.2.2.2.1 + 1) then
        L_tinfo_writer_lists_2 k n z10.1 z10.2.1 z10.2.2.1 (z10.2.2.2.1 + 1) z10.2.2.2.2.1 z10.2.2.2.2.2
      else none
    else
      some (texts, (b0_1, w1))
def LH_tinfo_writer_lists_1 : Shp := ⟨[0, 2, 3, 17, 18, 19], 0, 1, 2, (.cons (.ptr 0 0) (.cons (.cell (.sl Ky1)) Sy31))⟩
def LE_tinfo_writer_lists_1 : Exits := [(.exit 0, ⟨[0, 2, 3], 0, 1, 2, (.cons (.ptr 0 0) (.cons (.cell (.sl Ky1)) (.cons (.cell (.sl Ky1)) (.cons .any Sy17))))⟩)]
def L_tinfo_writer_lists_1 (k : Nat) : Nat → Ty1 → Ty1 → Ty1 → Int → Int → Bool → (List Int) → Option (Ty1 × Ty1 × Bool × (List Int))
  | 0, _, _, _, _, _, _, _ => none
  | n + 1, numbers, texts, t17, t18, t19, b0_1, w1 =>
    bif decide (t19 < t18) then
      bif inL t19 t17.length then
        bif inL ((t17.getD (Int.toNat t19) (0, (0, []))).1) 3 then
          bif room ((w1.length + ([([0, 1, 254] : List Int).getD (Int.toNat ((t17.getD (Int.toNat t19) (0, (0, []))).1)) 0] : List Int).length) * 1) then
            bif inI (t19 + 1) then
              L_tinfo_writer_lists_1 k n numbers texts t17 t18 (t19 + 1) b0_1 (w1 ++ [([0, 1, 254] : List Int).getD (Int.toNat ((t17.getD (Int.toNat t19) (0, (0, []))).1)) 0])
            else none
          else none
        else none
      else none
    else
      some (numbers, (texts, (b0_1, w1)))
def F_tinfo_writer_lists (k : Nat) (flags : List Ty4) (numbers : List Ty4) (texts : List Ty4) (b0_1 : Bool) (w0 : List Int) : Option ((List Int) × Bool × (List Int)) :=
  (L_tinfo_writer_lists_1 k k numbers texts flags (flags.length : Int) 0 b0_1 w0).bind fun z1 =>
  (F_tinfo_writer_even k z1.2.2.1 z1.2.2.2).bind fun z2 =>
  (L_tinfo_writer_lists_2 k k z1.2.1 z1.1 (z1.1.length : Int) 0 z2.1 z2.2).bind fun z11 =>
  (L_tinfo_writer_lists_3 k k z11.1 (z11.1.length : Int) 0 z11.2.1 [] z11.2.2).bind fun z18 =>
  some (z18.2.1, (z18.1, z18.2.2))
def I_tinfo_writer_lists : Shp := ⟨[0, 1, 2, 3], 0, 1, 1, (.cons (.ptr 0 0) (.cons (.cell (.sl Ky1)) (.cons (.cell (.sl Ky1)) (.cons (.cell (.sl Ky1)) Sy32))))⟩
def E_tinfo_writer_lists : Exits := [(.ret, ⟨[], 0, 1, 2, (.cons (.cell (.sl (.int .u8))) Sy17)⟩)]
def C_tinfo_writer_lists (k : Nat) : Con := ⟨12, I_tinfo_writer_lists, E_tinfo_writer_lists, fun z => (fun (z : Ty1 × Ty1 × Ty1 × Bool × (List Int)) => F_tinfo_writer_lists k z.1 z.2.1 z.2.2.1 z.2.2.2.1 z.2.2.2.2) z⟩
def LH_tinfo_Write_2 : Shp := ⟨[6, 13, 16, 17, 164, 165, 166], 0, 1, 2, (.cons (.rs 0) (.cons (.ptr 0 0) (.cons (.cell (.sl (.int .u8))) (.cons (.cell (.int .i64)) (.cons Sy7 (.cons (.cell (.int .i64)) (.cons (.cell (.int .i64)) (.cons .any (.cons (.ifc 45 (.aggL (.cons (.rs 1) Sy11))) (.cons Sy26 Sy8))))))))))⟩
def LE_tinfo_Write_2 : Exits := [(.exit 2, ⟨[6, 13, 16], 0, 1, 2, (.cons (.rs 0) (.cons (.ptr 0 0) (.cons (.cell (.sl (.int .u8))) (.cons .any (.cons (.ifc 45 (.aggL (.cons (.rs 1) Sy11))) (.cons Sy26 Sy8))))))⟩)]
def L_tinfo_Write_2 (k : Nat) : Nat → (List Int) → Int → Ty2 → Int → Int → Bool → (List Int) → (List Int) → Option ((List Int) × Bool × (List Int) × (List Int))
  | 0, _, _, _, _, _, _, _, _ => none
  | n + 1, texts, at_, t164, t165, t166, b0_1, w0, w1 =>
    bif decide (t166 < t165) then
      bif inL t166 t164.length then
        (F_tinfo_writer_shorts_2 k [at_] b0_1 w1).bind fun z15 =>
        bif inI (((((t164.getD (Int.toNat t166) (0, ([], (0, (0, []))))).2).1).length : Int) + 1) then
          bif inI (at_ + (((((t164.getD (Int.toNat t166) (0, ([], (0, (0, []))))).2).1).length : Int) + 1)) then
            bif inI (t166 + 1) then
              L_tinfo_Write_2 k n texts (at_ + (((((t164.getD (Int.toNat t166) (0, ([], (0, (0, []))))).2).1).length : Int) + 1)) t164 t165 (t166 + 1) z15.1 w0 z15.2
            else none
          else none
        else none
      else none
    else
      some (texts, (b0_1, (w0, w1)))
def LH_tinfo_Write_1 : Shp := ⟨[1, 5, 6, 26, 27, 28], 0, 2, 4, (.cons (.ptr 0 0) (.cons (.ptr 1 0) (.cons (.rs 0) (.cons Sy7 (.cons (.cell (.int .i64)) (.cons (.cell (.int .i64)) (.cons .any (.cons Sy1 (.cons (.ifc 36 (.aggL Sy49)) Sy54)))))))))⟩
def LE_tinfo_Write_1 : Exits := [(.exit 0, ⟨[1, 5, 6], 0, 2, 4, (.cons (.ptr 0 0) (.cons (.ptr 1 0) (.cons (.rs 0) (.cons .any (.cons Sy1 (.cons (.ifc 36 (.aggL Sy49)) Sy54))))))⟩)]
def L_tinfo_Write_1 (k : Nat) : Nat → Ty2 → Int → Int → (List UInt8) → Bool → Ty1 → Ty1 → Ty1 → Ty2 → (List Int) → Ty1 → Ty1 → Ty1 → Option (Ty3 × (List Int) × Ty1 × Ty1 × Ty1)
  | 0, _, _, _, _, _, _, _, _, _, _, _, _, _ => none
  | n + 1, t26, t27, t28, b0_0, b0_1, b0_2, b0_3, b0_4, b0_5, w0, w1, w2, w3 =>
    bif decide (t28 < t27) then
      bif inL t28 t26.length then
        (bif ((t26.getD (Int.toNat t28) (0, ([], (0, (0, []))))).1) == 0 then
           bif room ((w1.length + ([((((t26.getD (Int.toNat t28) (0, ([], (0, (0, []))))).2).2).1, ((((t26.getD (Int.toNat t28) (0, ([], (0, (0, []))))).2).2).2))] : List Ty4).length) * 32) then
             some (t26, (t27, (t28, ((b0_0, (b0_1, (b0_2, (b0_3, (b0_4, b0_5))))), ((0, (((t26.getD (Int.toNat t28) (0, ([], (0, (0, []))))).2).1, ((((t26.getD (Int.toNat t28) (0, ([], (0, (0, []))))).2).2).1, ((((t26.getD (Int.toNat t28) (0, ([], (0, (0, []))))).2).2).2)))), (w0, (w1 ++ [((((t26.getD (Int.toNat t28) (0, ([], (0, (0, []))))).2).2).1, ((((t26.getD (Int.toNat t28) (0, ([], (0, (0, []))))).2).2).2))], (w2, w3))))))))
           else none
         else
           bif ((t26.getD (Int.toNat t28) (0, ([], (0, (0, []))))).1) == 1 then
             bif room ((w2.length + ([((((t26.getD (Int.toNat t28) (0, ([], (0, (0, []))))).2).2).1, ((((t26.getD (Int.toNat t28) (0, ([], (0, (0, []))))).2).2).2))] : List Ty4).length) * 32) then
               some (t26, (t27, (t28, ((b0_0, (b0_1, (b0_2, (b0_3, (b0_4, b0_5))))), ((1, (((t26.getD (Int.toNat t28) (0, ([], (0, (0, []))))).2).1, ((((t26.getD (Int.toNat t28) (0, ([], (0, (0, []))))).2).2).1, ((((t26.getD (Int.toNat t28) (0, ([], (0, (0, []))))).2).2).2)))), (w0, (w1, (w2 ++ [((((t26.getD (Int.toNat t28) (0, ([], (0, (0, []))))).2).2).1, ((((t26.getD (Int.toNat t28) (0, ([], (0, (0, []))))).2).2).2))], w3))))))))
             else none
           else
             bif ((t26.getD (Int.toNat t28) (0, ([], (0, (0, []))))).1) == 2 then
               bif room ((w3.length + ([((((t26.getD (Int.toNat t28) (0, ([], (0, (0, []))))).2).2).1, ((((t26.getD (Int.toNat t28) (0, ([], (0, (0, []))))).2).2).2))] : List Ty4).length) * 32) then
                 some (t26, (t27, (t28, ((b0_0, (b0_1, (b0_2, (b0_3, (b0_4, b0_5))))), ((2, (((t26.getD (Int.toNat t28) (0, ([], (0, (0, []))))).2).1, ((((t26.getD (Int.toNat t28) (0, ([], (0, (0, []))))).2).2).1, ((((t26.getD (Int.toNat t28) (0, ([], (0, (0, []))))).2).2).2)))), (w0, (w1, (w2, w3 ++ [((((t26.getD (Int.toNat t28) (0, ([], (0, (0, []))))).2).2).1, ((((t26.getD (Int.toNat t28) (0, ([], (0, (0, []))))).2).2).2))]))))))))
               else none
             else
               none : Option (Ty2 × Int × Int × Ty3 × Ty6 × (List Int) × Ty1 × Ty1 × Ty1)).bind fun z3 =>
        bif room ((z3.2.2.2.2.2.1.length + z3.2.2.2.2.1.2.1.length) * 1) then
          bif room (((z3.2.2.2.2.2.1 ++ (sI z3.2.2.2.2.1.2.1)).length + ([0] : List Int).length) * 1) then
            bif inI (z3.2.2.1 + 1) then
              L_tinfo_Write_1 k n z3.1 z3.2.1 (z3.2.2.1 + 1) z3.2.2.2.1.1 z3.2.2.2.1.2.1 z3.2.2.2.1.2.2.1 z3.2.2.2.1.2.2.2.1 z3.2.2.2.1.2.2.2.2.1 z3.2.2.2.1.2.2.2.2.2 ((z3.2.2.2.2.2.1 ++ (sI z3.2.2.2.2.1.2.1)) ++ [0]) z3.2.2.2.2.2.2.1 z3.2.2.2.2.2.2.2.1 z3.2.2.2.2.2.2.2.2
            else none
          else none
        else none
      else none
    else
      some ((b0_0, (b0_1, (b0_2, (b0_3, (b0_4, b0_5))))), (w0, (w1, (w2, w3))))
def F_tinfo_Write (k : Nat) (t : (List UInt8) × Bool × Ty1 × Ty1 × Ty1 × Ty2) : Option ((List Int) × Int) :=
  (F_tinfo_Check k t).bind fun z1 =>
  bif z1 != 0 then
    some ([], z1)
  else
    (L_tinfo_Write_1 k k t.2.2.2.2.2 (t.2.2.2.2.2.length : Int) 0 t.1 t.2.1 t.2.2.1 t.2.2.2.1 t.2.2.2.2.1 t.2.2.2.2.2 [] [] [] []).bind fun z4 =>
    (F_tinfo_size k z4.1.2.2.2.2.1).bind fun z5 =>
    (F_tinfo_size k z4.2.2.2.2).bind fun z6 =>
    (bif decide (z5.1 > 32767) then
       some (z5.1, (z6.1, (z6.2, (true, (z4.1, (z4.2.2.2.2, (z4.2.1, (z4.2.2.1, z4.2.2.2.1))))))))
     else
       bif inI (z6.1 + (z4.2.1.length : Int)) then
         some (z5.1, (z6.1, (z6.2, (decide ((z6.1 + (z4.2.1.length : Int)) > 32767), (z4.1, (z4.2.2.2.2, (z4.2.1, (z4.2.2.1, z4.2.2.2.1))))))))
       else none : Option (Int × Int × Int × Bool × Ty3 × Ty1 × (List Int) × Ty1 × Ty1)).bind fun z7 =>
    bif z7.2.2.2.1 then
      some ([], 3)
    else
      (bif z7.2.2.2.2.1.2.1 then
         some (z7.1, (z7.2.1, (z7.2.2.1, (542, (z7.2.2.2.2.1, (z7.2.2.2.2.2.1, (z7.2.2.2.2.1.2.1, z7.2.2.2.2.2.2)))))))
       else
         some (z7.1, (z7.2.1, (z7.2.2.1, (282, (z7.2.2.2.2.1, (z7.2.2.2.2.2.1, (z7.2.2.2.2.1.2.1, z7.2.2.2.2.2.2))))))) : Option (Int × Int × Int × Int × Ty3 × Ty1 × Bool × (List Int) × Ty1 × Ty1)).bind fun z8 =>
      bif inI ((z8.2.2.2.2.1.1.length : Int) + 1) then
        (F_tinfo_writer_shorts k [z8.2.2.2.1, (z8.2.2.2.2.1.1.length : Int) + 1, (z8.2.2.2.2.1.2.2.1.length : Int), (z8.2.2.2.2.1.2.2.2.1.length : Int), (z8.2.2.2.2.1.2.2.2.2.1.length : Int), z8.1] z8.2.2.2.2.2.2.1).bind fun z9 =>
        bif room ((z9.2.length + z8.2.2.2.2.1.1.length) * 1) then
          bif room (((z9.2 ++ (sI z8.2.2.2.2.1.1)).length + ([0] : List Int).length) * 1) then
            (F_tinfo_writer_lists k z8.2.2.2.2.1.2.2.1 z8.2.2.2.2.1.2.2.2.1 z8.2.2.2.2.1.2.2.2.2.1 z9.1 ((z9.2 ++ (sI z8.2.2.2.2.1.1)) ++ [0])).bind fun z10 =>
            bif room ((z10.2.2.length + z10.1.length) * 1) then
              bif (z8.2.2.2.2.1.2.2.2.2.2.length : Int) == 0 then
                some (z10.2.2 ++ z10.1, 0)
              else
                (F_tinfo_writer_even k z10.2.1 (z10.2.2 ++ z10.1)).bind fun z11 =>
                bif inI (z8.2.2.1 + (z8.2.2.2.2.1.2.2.2.2.2.length : Int)) then
                  bif inI (z8.2.1 + (z8.2.2.2.2.2.2.2.1.length : Int)) then
                    (F_tinfo_writer_shorts_2 k [(z8.2.2.2.2.2.2.2.2.1.length : Int), (z8.2.2.2.2.2.2.2.2.2.length : Int), (z8.2.2.2.2.2.1.length : Int), z8.2.2.1 + (z8.2.2.2.2.1.2.2.2.2.2.length : Int), z8.2.1 + (z8.2.2.2.2.2.2.2.1.length : Int)] z11.1 z11.2).bind fun z12 =>
                    (F_tinfo_writer_lists k z8.2.2.2.2.2.2.2.2.1 z8.2.2.2.2.2.2.2.2.2 z8.2.2.2.2.2.1 z12.1 z12.2).bind fun z13 =>
                    (L_tinfo_Write_2 k k z13.1 0 z8.2.2.2.2.1.2.2.2.2.2 (z8.2.2.2.2.1.2.2.2.2.2.length : Int) 0 z13.2.1 z8.2.2.2.2.2.2.2.1 z13.2.2).bind fun z16 =>
                    bif room ((z16.2.2.2.length + z16.1.length) * 1) then
                      bif room (((z16.2.2.2 ++ z16.1).length + z16.2.2.1.length) * 1) then
                        some ((z16.2.2.2 ++ z16.1) ++ z16.2.2.1, 0)
                      else none
                    else none
                  else none
                else none
            else none
          else none
        else none
      else none
def I_tinfo_Write : Shp := ⟨[0], 0, 0, 0, Sy42⟩
def E_tinfo_Write : Exits := [(.ret, ⟨[], 0, 0, 0, (.cons (.tupL (.cons (.cell (.sl (.int .u8))) Sy23)) .nil)⟩)]
def C_tinfo_Write (k : Nat) : Con := ⟨4, I_tinfo_Write, E_tinfo_Write, fun z => (fun (z : (List UInt8) × Bool × Ty1 × Ty1 × Ty1 × Ty2) => F_tinfo_Write k z) z⟩
def LH_lanyardref03_long_4 : Shp := ⟨[1, 6], 0, 1, 0, Sy33⟩
def LE_lanyardref03_long_4 : Exits := [(.exit 6, ⟨[], 0, 0, 0, (.cons .any .nil)⟩), (.ret, ⟨[2], 0, 0, 0, Sy37⟩)]
def L_lanyardref03_long_4 (k : Nat) : Nat → Int → (List UInt8) → Bool → Ty1 → Ty1 → Ty1 → Ty2 → Option (Unit ⊕ Unit)
  | 0, _, _, _, _, _, _, _ => none
  | n + 1, i, b0_0, b0_1, b0_2, b0_3, b0_4, b0_5 =>
    bif decide (i < (b0_5.length : Int)) then
      (bif inL i b0_5.length then
         bif decide (((((((b0_5.getD (Int.toNat i) (0, ([], (0, (0, []))))).2).2).2).2).length : Int) > 1000) then
           some (i, (true, (b0_0, (b0_1, (b0_2, (b0_3, (b0_4, b0_5)))))))
         else
           bif inL i b0_5.length then
             some (i, (decide (((((b0_5.getD (Int.toNat i) (0, ([], (0, (0, []))))).2).1).length : Int) > 1000), (b0_0, (b0_1, (b0_2, (b0_3, (b0_4, b0_5)))))))
           else none
       else none : Option (Int × Bool × (List UInt8) × Bool × Ty1 × Ty1 × Ty1 × Ty2)).bind fun z6 =>
      bif z6.2.1 then
        some (Sum.inr ())
      else
        bif inI (z6.1 + 1) then
          L_lanyardref03_long_4 k n (z6.1 + 1) z6.2.2.1 z6.2.2.2.1 z6.2.2.2.2.1 z6.2.2.2.2.2.1 z6.2.2.2.2.2.2.1 z6.2.2.2.2.2.2.2
        else none
    else
      some (Sum.inl ())
def LH_lanyardref03_long_3 : Shp := ⟨[1, 5], 0, 1, 0, Sy33⟩
def LE_lanyardref03_long_3 : Exits := [(.exit 4, ⟨[1], 0, 1, 0, (.cons (.ptr 0 0) Sy19)⟩), (.ret, ⟨[2], 0, 0, 0, Sy37⟩)]
def L_lanyardref03_long_3 (k : Nat) : Nat → Int → (List UInt8) → Bool → Ty1 → Ty1 → Ty1 → Ty2 → Option (Ty3 ⊕ Unit)
  | 0, _, _, _, _, _, _, _ => none
  | n + 1, i, b0_0, b0_1, b0_2, b0_3, b0_4, b0_5 =>
    bif decide (i < (b0_3.length : Int)) then
      bif inL i b0_3.length then
        bif decide (((((b0_3.getD (Int.toNat i) (0, (0, []))).2).2).length : Int) > 1000) then
          some (Sum.inr ())
        else
          bif inI (i + 1) then
            L_lanyardref03_long_3 k n (i + 1) b0_0 b0_1 b0_2 b0_3 b0_4 b0_5
          else none
      else none
    else
      some (Sum.inl (b0_0, (b0_1, (b0_2, (b0_3, (b0_4, b0_5))))))
def LH_lanyardref03_long_2 : Shp := ⟨[1, 4], 0, 1, 0, Sy33⟩
def LE_lanyardref03_long_2 : Exits := [(.exit 2, ⟨[1], 0, 1, 0, (.cons (.ptr 0 0) Sy19)⟩), (.ret, ⟨[2], 0, 0, 0, Sy37⟩)]
def L_lanyardref03_long_2 (k : Nat) : Nat → Int → (List UInt8) → Bool → Ty1 → Ty1 → Ty1 → Ty2 → Option (Ty3 ⊕ Unit)
  | 0, _, _, _, _, _, _, _ => none
  | n + 1, i, b0_0, b0_1, b0_2, b0_3, b0_4, b0_5 =>
    bif decide (i < (b0_2.length : Int)) then
      bif inL i b0_2.length then
        bif decide (((((b0_2.getD (Int.toNat i) (0, (0, []))).2).2).length : Int) > 1000) then
          some (Sum.inr ())
        else
          bif inI (i + 1) then
            L_lanyardref03_long_2 k n (i + 1) b0_0 b0_1 b0_2 b0_3 b0_4 b0_5
          else none
      else none
    else
      some (Sum.inl (b0_0, (b0_1, (b0_2, (b0_3, (b0_4, b0_5))))))
def LH_lanyardref03_long_1 : Shp := ⟨[1, 3], 0, 1, 0, Sy33⟩
def LE_lanyardref03_long_1 : Exits := [(.exit 0, ⟨[1], 0, 1, 0, (.cons (.ptr 0 0) Sy19)⟩), (.ret, ⟨[2], 0, 0, 0, Sy37⟩)]
def L_lanyardref03_long_1 (k : Nat) : Nat → Int → (List UInt8) → Bool → Ty1 → Ty1 → Ty1 → Ty2 → Option (Ty3 ⊕ Unit)
  | 0, _, _, _, _, _, _, _ => none
  | n + 1, i, b0_0, b0_1, b0_2, b0_3, b0_4, b0_5 =>
    bif decide (i < (b0_4.length : Int)) then
      bif inL i b0_4.length then
        bif decide (((((b0_4.getD (Int.toNat i) (0, (0, []))).2).2).length : Int) > 1000) then
          some (Sum.inr ())
        else
          bif inI (i + 1) then
            L_lanyardref03_long_1 k n (i + 1) b0_0 b0_1 b0_2 b0_3 b0_4 b0_5
          else none
      else none
    else
      some (Sum.inl (b0_0, (b0_1, (b0_2, (b0_3, (b0_4, b0_5))))))
def F_lanyardref03_long (k : Nat) (t : (List UInt8) × Bool × Ty1 × Ty1 × Ty1 × Ty2) : Option Bool :=
  (bif decide ((t.1.length : Int) > 511) then
     some (true, t)
   else
     bif decide ((t.2.2.1.length : Int) > 64) then
       some (true, t)
     else
       bif decide ((t.2.2.2.1.length : Int) > 64) then
         some (true, t)
       else
         bif decide ((t.2.2.2.2.1.length : Int) > 512) then
           some (true, t)
         else
           some (decide ((t.2.2.2.2.2.length : Int) > 256), t) : Option Ty12).bind fun z1 =>
  bif z1.1 then
    some true
  else
    (L_lanyardref03_long_1 k k 0 z1.2.1 z1.2.2.1 z1.2.2.2.1 z1.2.2.2.2.1 z1.2.2.2.2.2.1 z1.2.2.2.2.2.2).bind fun z2 =>
    either z2 (fun z2_1 =>
      (L_lanyardref03_long_2 k k 0 z2_1.1 z2_1.2.1 z2_1.2.2.1 z2_1.2.2.2.1 z2_1.2.2.2.2.1 z2_1.2.2.2.2.2).bind fun z3 =>
      either z3 (fun z3_1 =>
        (L_lanyardref03_long_3 k k 0 z3_1.1 z3_1.2.1 z3_1.2.2.1 z3_1.2.2.2.1 z3_1.2.2.2.2.1 z3_1.2.2.2.2.2).bind fun z4 =>
        either z4 (fun z4_1 =>
          (L_lanyardref03_long_4 k k 0 z4_1.1 z4_1.2.1 z4_1.2.2.1 z4_1.2.2.2.1 z4_1.2.2.2.2.1 z4_1.2.2.2.2.2).bind fun z7 =>
          either z7 (fun z7_1 =>
            some false)
            fun z7_2 =>
            some true)
          fun z4_2 =>
          some true)
        fun z3_2 =>
        some true)
      fun z2_2 =>
      some true
def I_lanyardref03_long : Shp := ⟨[0], 0, 0, 0, Sy42⟩
def E_lanyardref03_long : Exits := [(.ret, ⟨[], 0, 0, 0, Sy11⟩)]
def C_lanyardref03_long (k : Nat) : Con := ⟨33, I_lanyardref03_long, E_lanyardref03_long, fun z => (fun (z : (List UInt8) × Bool × Ty1 × Ty1 × Ty1 × Ty2) => F_lanyardref03_long k z) z⟩
def F_lanyardref03_cap1 (k : Nat) (c : Int × Int × (List UInt8)) (kind : Int) (wide : Bool) : Option Bool :=
  (bif decide (c.1 < 0) then
     some (kind, (wide, (true, c)))
   else
     bif decide (c.1 > 2) then
       some (kind, (wide, (true, c)))
     else
       bif c.1 != 1 then
         bif c.2.1 != 0 then
           some (kind, (wide, (true, c)))
         else
           some (kind, (wide, (!(c.2.2 == []), c)))
       else
         some (kind, (wide, (false, c))) : Option (Int × Bool × Bool × Int × Int × (List UInt8))).bind fun z1 =>
  bif z1.2.2.1 then
    some false
  else
    (bif z1.2.1 then
       some (z1.1, (2147483647, z1.2.2.2))
     else
       some (z1.1, (32767, z1.2.2.2)) : Option (Int × Int × Int × Int × (List UInt8))).bind fun z2 =>
    bif z2.1 == 0 then
      (bif z2.2.2.2.1 == 0 then
         some (z2.2.2.2.2 == [])
       else
         some false : Option (Bool)).bind fun z3 =>
      some z3
    else
      bif z2.1 == 1 then
        (bif z2.2.2.2.2 == [] then
           bif decide (z2.2.2.2.1 ≥ 0) then
             some (decide (z2.2.2.2.1 ≤ z2.2.1))
           else
             some false
         else
           some false : Option (Bool)).bind fun z4 =>
        some z4
      else
        (bif z2.2.2.2.1 == 0 then
           (F_strings_IndexByte k z2.2.2.2.2 0).bind fun z5 =>
           some (decide (z5 < 0))
         else
           some false : Option (Bool)).bind fun z6 =>
        some z6
def I_lanyardref03_cap1 : Shp := ⟨[0, 1, 2], 0, 0, 0, (.cons (.agg Ky1) (.cons (.cell (.int .i64)) Sy16))⟩
def E_lanyardref03_cap1 : Exits := [(.ret, ⟨[], 0, 0, 0, Sy11⟩)]
def C_lanyardref03_cap1 (k : Nat) : Con := ⟨36, I_lanyardref03_cap1, E_lanyardref03_cap1, fun z => (fun (z : Ty4 × Int × Bool) => F_lanyardref03_cap1 k z.1 z.2.1 z.2.2) z⟩
def LH_lanyardref03_caps_1 : Shp := ⟨[0, 1, 2, 7], 0, 0, 0, (.cons (.cell (.sl Ky1)) (.cons (.cell (.int .i64)) (.cons (.cell .bool) Sy15)))⟩
def LE_lanyardref03_caps_1 : Exits := [(.exit 0, ⟨[], 0, 0, 0, (.cons .any .nil)⟩), (.ret, ⟨[6], 0, 0, 0, Sy50⟩)]
def L_lanyardref03_caps_1 (k : Nat) : Nat → Ty1 → Int → Bool → Int → Option (Unit ⊕ Unit)
  | 0, _, _, _, _ => none
  | n + 1, l, kind, wide, i =>
    bif decide (i < (l.length : Int)) then
      bif inL i l.length then
        (F_lanyardref03_cap1 k ((l.getD (Int.toNat i) (0, (0, []))).1, ((l.getD (Int.toNat i) (0, (0, []))).2)) kind wide).bind fun z2 =>
        bif !z2 then
          some (Sum.inr ())
        else
          bif inI (i + 1) then
            L_lanyardref03_caps_1 k n l kind wide (i + 1)
          else none
      else none
    else
      some (Sum.inl ())
def F_lanyardref03_caps (k : Nat) (l : List Ty4) (kind : Int) (wide : Bool) : Option Bool :=
  (L_lanyardref03_caps_1 k k l kind wide 0).bind fun z3 =>
  either z3 (fun z3_1 =>
    some true)
    fun z3_2 =>
    some false
def I_lanyardref03_caps : Shp := ⟨[0, 1, 2], 0, 0, 0, (.cons (.cell (.sl Ky1)) (.cons (.cell (.int .i64)) Sy16))⟩
def E_lanyardref03_caps : Exits := [(.ret, ⟨[], 0, 0, 0, Sy11⟩)]
def C_lanyardref03_caps (k : Nat) : Con := ⟨35, I_lanyardref03_caps, E_lanyardref03_caps, fun z => (fun (z : Ty1 × Int × Bool) => F_lanyardref03_caps k z.1 z.2.1 z.2.2) z⟩
def LH_lanyardref03_Place_2 : Shp := ⟨[0, 5, 6, 7, 8], 0, 0, 1, (.cons (.cell .str) (.cons (.rs 0) (.cons (.cell (.int .i64)) (.cons (.cell (.sl .str)) Sy45))))⟩
def LE_lanyardref03_Place_2 : Exits := [(.exit 2, ⟨[0, 5, 6], 0, 0, 1, (.cons (.cell .str) (.cons (.rs 0) Sy45))⟩), (.ret, ⟨[2, 3, 4], 0, 0, 0, Sy51⟩)]
def L_lanyardref03_Place_2 (k : Nat) : Nat → (List UInt8) → Int → (List (List UInt8)) → Int → (List (List UInt8)) → Option (((List UInt8) × Int × (List (List UInt8))) ⊕ (Int × Int))
  | 0, _, _, _, _, _ => none
  | n + 1, name, k_, l, i, w0 =>
    bif inI (i + 1) then
      bif decide ((i + 1) < (l.length : Int)) then
        bif inL i l.length then
          bif (l.getD (Int.toNat i) []) == name then
            bif inI (i + 1) then
              bif inL (i + 1) l.length then
                (F_strconv_Atoi k (l.getD (Int.toNat (i + 1)) [])).bind fun z7 =>
                some (Sum.inr (k_, z7))
              else none
            else none
          else
            bif inI (i + 2) then
              L_lanyardref03_Place_2 k n name k_ l (i + 2) w0
            else none
        else none
      else
        some (Sum.inl (name, (k_, w0)))
    else none
def LH_lanyardref03_Place_1 : Shp := ⟨[0, 5, 6], 0, 0, 1, (.cons (.cell .str) (.cons (.rs 0) Sy45))⟩
def LE_lanyardref03_Place_1 : Exits := [(.exit 0, ⟨[], 0, 0, 0, (.cons .any .nil)⟩), (.ret, ⟨[2, 3, 4], 0, 0, 0, Sy51⟩)]
def L_lanyardref03_Place_1 (k : Nat) : Nat → (List UInt8) → Int → (List (List UInt8)) → Option (Unit ⊕ (Int × Int))
  | 0, _, _, _ => none
  | n + 1, name, k_, w0 =>
    bif decide (k_ < 3) then
      bif inL k_ w0.length then
        (F_strings_Fields k (w0.getD (Int.toNat k_) [])).bind fun z5 =>
        (L_lanyardref03_Place_2 k k name k_ z5 0 w0).bind fun z8 =>
        either z8 (fun z8_1 =>
          bif inI (z8_1.2.1 + 1) then
            L_lanyardref03_Place_1 k n z8_1.1 (z8_1.2.1 + 1) z8_1.2.2
          else none)
          fun z8_2 =>
          some (Sum.inr z8_2)
      else none
    else
      some (Sum.inl ())
def F_lanyardref03_Place (k : Nat) (name : List UInt8) : Option (Int × Int × Bool) :=
  (L_lanyardref03_Place_1 k k name 0 [[98, 119, 32, 48, 32, 97, 109, 32, 49, 32, 120, 115, 98, 32, 50, 32, 120, 104, 112, 32, 51, 32, 120, 101, 110, 108, 32, 52, 32, 101, 111, 32, 53, 32, 103, 110, 32, 54, 32, 104, 99, 32, 55, 32, 107, 109, 32, 56, 32, 104, 115, 32, 57, 32, 105, 110, 32, 49, 48, 32, 100, 97, 32, 49, 49, 32, 100, 98, 32, 49, 50, 32, 109, 105, 114, 32, 49, 51, 32, 109, 115, 103, 114, 32, 49, 52, 32, 111, 115, 32, 49, 53], [99, 111, 108, 115, 32, 48, 32, 105, 116, 32, 49, 32, 108, 105, 110, 101, 115, 32, 50, 32, 108, 109, 32, 51, 32, 120, 109, 99, 32, 52, 32, 112, 98, 32, 53, 32, 118, 116, 32, 54, 32, 119, 115, 108, 32, 55, 32, 110, 108, 97, 98, 32, 56, 32, 108, 104, 32, 57, 32, 108, 119, 32, 49, 48, 32, 109, 97, 32, 49, 49, 32, 119, 110, 117, 109, 32, 49, 50, 32, 99, 111, 108, 111, 114, 115, 32, 49, 51, 32, 112, 97, 105, 114, 115, 32, 49, 52, 32, 110, 99, 118, 32, 49, 53], [99, 98, 116, 32, 48, 32, 98, 101, 108, 32, 49, 32, 99, 114, 32, 50, 32, 99, 115, 114, 32, 51, 32, 116, 98, 99, 32, 52, 32, 99, 108, 101, 97, 114, 32, 53, 32, 101, 108, 32, 54, 32, 101, 100, 32, 55, 32, 104, 112, 97, 32, 56, 32, 99, 109, 100, 99, 104, 32, 57, 32, 99, 117, 112, 32, 49, 48, 32, 99, 117, 100, 49, 32, 49, 49, 32, 104, 111, 109, 101, 32, 49, 50, 32, 99, 105, 118, 105, 115, 32, 49, 51, 32, 99, 117, 98, 49, 32, 49, 52, 32, 109, 114, 99, 117, 112, 32, 49, 53, 32, 99, 110, 111, 114, 109, 32, 49, 54, 32, 99, 117, 102, 49, 32, 49, 55, 32, 108, 108, 32, 49, 56, 32, 99, 117, 117, 49, 32, 49, 57, 32, 99, 118, 118, 105, 115, 32, 50, 48, 32, 100, 99, 104, 49, 32, 50, 49, 32, 100, 108, 49, 32, 50, 50, 32, 100, 115, 108, 32, 50, 51, 32, 104, 100, 32, 50, 52, 32, 115, 109, 97, 99, 115, 32, 50, 53, 32, 98, 108, 105, 110, 107, 32, 50, 54, 32, 98, 111, 108, 100, 32, 50, 55, 32, 115, 109, 99, 117, 112, 32, 50, 56, 32, 115, 109, 100, 99, 32, 50, 57, 32, 100, 105, 109, 32, 51, 48, 32, 115, 109, 105, 114, 32, 51, 49, 32, 105, 110, 118, 105, 115, 32, 51, 50, 32, 112, 114, 111, 116, 32, 51, 51, 32, 114, 101, 118, 32, 51, 52, 32, 115, 109, 115, 111, 32, 51, 53, 32, 115, 109, 117, 108, 32, 51, 54, 32, 101, 99, 104, 32, 51, 55, 32, 114, 109, 97, 99, 115, 32, 51, 56, 32, 115, 103, 114, 48, 32, 51, 57, 32, 114, 109, 99, 117, 112, 32, 52, 48, 32, 114, 109, 100, 99, 32, 52, 49, 32, 114, 109, 105, 114, 32, 52, 50, 32, 114, 109, 115, 111, 32, 52, 51, 32, 114, 109, 117, 108, 32, 52, 52, 32, 102, 108, 97, 115, 104, 32, 52, 53, 32, 105, 99, 104, 49, 32, 53, 50, 32, 105, 108, 49, 32, 53, 51, 32, 105, 112, 32, 53, 52, 32, 107, 98, 115, 32, 53, 53, 32, 107, 100, 99, 104, 49, 32, 53, 57, 32, 107, 99, 117, 100, 49, 32, 54, 49, 32, 107, 104, 111, 109, 101, 32, 55, 54, 32, 107, 105, 99, 104, 49, 32, 55, 55, 32, 107, 99, 117, 98, 49, 32, 55, 57, 32, 107, 110, 112, 32, 56, 49, 32, 107, 112, 112, 32, 56, 50, 32, 107, 99, 117, 102, 49, 32, 56, 51, 32, 107, 99, 117, 117, 49, 32, 56, 55, 32, 114, 109, 107, 120, 32, 56, 56, 32, 115, 109, 107, 120, 32, 56, 57, 32, 110, 101, 108, 32, 49, 48, 51, 32, 100, 99, 104, 32, 49, 48, 53, 32, 100, 108, 32, 49, 48, 54, 32, 99, 117, 100, 32, 49, 48, 55, 32, 105, 99, 104, 32, 49, 48, 56, 32, 105, 110, 100, 110, 32, 49, 48, 57, 32, 105, 108, 32, 49, 49, 48, 32, 99, 117, 98, 32, 49, 49, 49, 32, 99, 117, 102, 32, 49, 49, 50, 32, 114, 105, 110, 32, 49, 49, 51, 32, 99, 117, 117, 32, 49, 49, 52, 32, 114, 99, 32, 49, 50, 54, 32, 118, 112, 97, 32, 49, 50, 55, 32, 115, 99, 32, 49, 50, 56, 32, 105, 110, 100, 32, 49, 50, 57, 32, 114, 105, 32, 49, 51, 48, 32, 115, 103, 114, 32, 49, 51, 49, 32, 104, 116, 115, 32, 49, 51, 50, 32, 107, 101, 110, 100, 32, 49, 54, 52]]).bind fun z9 =>
  either z9 (fun z9_1 =>
    some (0, (0, false)))
    fun z9_2 =>
    some (z9_2.1, (z9_2.2, true))
def I_lanyardref03_Place : Shp := ⟨[0], 0, 0, 0, Sy38⟩
def E_lanyardref03_Place : Exits := [(.ret, ⟨[], 0, 0, 0, (.cons (.tupL (.cons (.cell (.int .i64)) (.cons (.cell (.int .i64)) Sy11))) .nil)⟩)]
def C_lanyardref03_Place (k : Nat) : Con := ⟨58, I_lanyardref03_Place, E_lanyardref03_Place, fun z => (fun (z : List UInt8) => F_lanyardref03_Place k z) z⟩
def LH_lanyardref03_named_1 : Shp := ⟨[0, 1, 8], 0, 0, 0, (.cons Sy7 (.cons (.cell .str) Sy15))⟩
def LE_lanyardref03_named_1 : Exits := [(.exit 0, ⟨[], 0, 0, 0, (.cons .any .nil)⟩), (.ret, ⟨[4], 0, 0, 0, Sy50⟩)]
def L_lanyardref03_named_1 (k : Nat) : Nat → Ty2 → (List UInt8) → Int → Option (Unit ⊕ Unit)
  | 0, _, _, _ => none
  | n + 1, l, name, i =>
    bif decide (i < (l.length : Int)) then
      bif inL i l.length then
        bif (((l.getD (Int.toNat i) (0, ([], (0, (0, []))))).2).1) == name then
          some (Sum.inr ())
        else
          bif inI (i + 1) then
            L_lanyardref03_named_1 k n l name (i + 1)
          else none
      else none
    else
      some (Sum.inl ())
def F_lanyardref03_named (k : Nat) (l : List Ty6) (name : List UInt8) : Option Bool :=
  (F_lanyardref03_Place k name).bind fun z1 =>
  (bif z1.2.2 then
     some (l, (name, true))
   else
     bif name == [] then
       some (l, (name, true))
     else
       (F_strings_IndexByte k name 0).bind fun z2 =>
       some (l, (name, decide (z2 ≥ 0))) : Option (Ty2 × (List UInt8) × Bool)).bind fun z3 =>
  bif z3.2.2 then
    some false
  else
    (L_lanyardref03_named_1 k k z3.1 z3.2.1 0).bind fun z4 =>
    either z4 (fun z4_1 =>
      some true)
      fun z4_2 =>
      some false
def I_lanyardref03_named : Shp := ⟨[0, 1], 0, 0, 0, (.cons Sy7 Sy38)⟩
def E_lanyardref03_named : Exits := [(.ret, ⟨[], 0, 0, 0, Sy11⟩)]
def C_lanyardref03_named (k : Nat) : Con := ⟨37, I_lanyardref03_named, E_lanyardref03_named, fun z => (fun (z : Ty2 × (List UInt8)) => F_lanyardref03_named k z.1 z.2) z⟩
def LH_lanyardref03_Check_1 : Shp := ⟨[1, 3], 0, 1, 0, Sy33⟩
def LE_lanyardref03_Check_1 : Exits := [(.exit 0, ⟨[], 0, 0, 0, (.cons .any .nil)⟩), (.ret, ⟨[2], 0, 0, 0, Sy56⟩)]
def L_lanyardref03_Check_1 (k : Nat) : Nat → Int → (List UInt8) → Bool → Ty1 → Ty1 → Ty1 → Ty2 → Option (Unit ⊕ Unit)
  | 0, _, _, _, _, _, _, _ => none
  | n + 1, i, b0_0, b0_1, b0_2, b0_3, b0_4, b0_5 =>
    bif decide (i < (b0_5.length : Int)) then
      bif inL i b0_5.length then
        (bif decide (((b0_5.getD (Int.toNat i) (0, ([], (0, (0, []))))).1) < 0) then
           some (i, (true, (b0_0, (b0_1, (b0_2, (b0_3, (b0_4, b0_5)))))))
         else
           bif decide (((b0_5.getD (Int.toNat i) (0, ([], (0, (0, []))))).1) > 2) then
             some (i, (true, (b0_0, (b0_1, (b0_2, (b0_3, (b0_4, b0_5)))))))
           else
             bif decide (i > 0) then
               bif inI (i - 1) then
                 bif inL (i - 1) b0_5.length then
                   bif decide (((b0_5.getD (Int.toNat i) (0, ([], (0, (0, []))))).1) < ((b0_5.getD (Int.toNat (i - 1)) (0, ([], (0, (0, []))))).1)) then
                     some (i, (true, (b0_0, (b0_1, (b0_2, (b0_3, (b0_4, b0_5)))))))
                   else
                     (F_lanyardref03_cap1 k ((((b0_5.getD (Int.toNat i) (0, ([], (0, (0, []))))).2).2).1, ((((b0_5.getD (Int.toNat i) (0, ([], (0, (0, []))))).2).2).2)) ((b0_5.getD (Int.toNat i) (0, ([], (0, (0, []))))).1) b0_1).bind fun z10 =>
                     bif !z10 then
                       some (i, (true, (b0_0, (b0_1, (b0_2, (b0_3, (b0_4, b0_5)))))))
                     else
                       bif inR 0 i b0_5.length then
                         (F_lanyardref03_named k (cut b0_5 0 i) (((b0_5.getD (Int.toNat i) (0, ([], (0, (0, []))))).2).1)).bind fun z11 =>
                         some (i, (!z11, (b0_0, (b0_1, (b0_2, (b0_3, (b0_4, b0_5)))))))
                       else none
                 else none
               else none
             else
               (F_lanyardref03_cap1 k ((((b0_5.getD (Int.toNat i) (0, ([], (0, (0, []))))).2).2).1, ((((b0_5.getD (Int.toNat i) (0, ([], (0, (0, []))))).2).2).2)) ((b0_5.getD (Int.toNat i) (0, ([], (0, (0, []))))).1) b0_1).bind fun z12 =>
               bif !z12 then
                 some (i, (true, (b0_0, (b0_1, (b0_2, (b0_3, (b0_4, b0_5)))))))
               else
                 bif inR 0 i b0_5.length then
                   (F_lanyardref03_named k (cut b0_5 0 i) (((b0_5.getD (Int.toNat i) (0, ([], (0, (0, []))))).2).1)).bind fun z13 =>
                   some (i, (!z13, (b0_0, (b0_1, (b0_2, (b0_3, (b0_4, b0_5)))))))
                 else none : Option (Int × Bool × (List UInt8) × Bool × Ty1 × Ty1 × Ty1 × Ty2)).bind fun z14 =>
        bif z14.2.1 then
          some (Sum.inr ())
        else
          bif inI (z14.1 + 1) then
            L_lanyardref03_Check_1 k n (z14.1 + 1) z14.2.2.1 z14.2.2.2.1 z14.2.2.2.2.1 z14.2.2.2.2.2.1 z14.2.2.2.2.2.2.1 z14.2.2.2.2.2.2.2
          else none
      else none
    else
      some (Sum.inl ())
def F_lanyardref03_Check (k : Nat) (t : (List UInt8) × Bool × Ty1 × Ty1 × Ty1 × Ty2) : Option Int :=
  (F_lanyardref03_long k t).bind fun z1 =>
  bif z1 then
    some 3
  else
    (bif t.1 == [] then
       some (true, t)
     else
       (F_strings_IndexByte k t.1 0).bind fun z2 =>
       bif decide (z2 ≥ 0) then
         some (true, t)
       else
         (F_lanyardref03_caps k t.2.2.1 0 t.2.1).bind fun z3 =>
         bif !z3 then
           some (true, t)
         else
           (F_lanyardref03_caps k t.2.2.2.1 1 t.2.1).bind fun z4 =>
           bif !z4 then
             some (true, t)
           else
             (F_lanyardref03_caps k t.2.2.2.2.1 2 t.2.1).bind fun z5 =>
             some (!z5, t) : Option Ty12).bind fun z6 =>
    bif z6.1 then
      some 1
    else
      (L_lanyardref03_Check_1 k k 0 z6.2.1 z6.2.2.1 z6.2.2.2.1 z6.2.2.2.2.1 z6.2.2.2.2.2.1 z6.2.2.2.2.2.2).bind fun z15 =>
      either z15 (fun z15_1 =>
        some 0)
        fun z15_2 =>
        some 1
def I_lanyardref03_Check : Shp := ⟨[0], 0, 0, 0, Sy42⟩
def E_lanyardref03_Check : Exits := [(.ret, ⟨[], 0, 0, 0, Sy23⟩)]
def C_lanyardref03_Check (k : Nat) : Con := ⟨14, I_lanyardref03_Check, E_lanyardref03_Check, fun z => (fun (z : (List UInt8) × Bool × Ty1 × Ty1 × Ty1 × Ty2) => F_lanyardref03_Check k z) z⟩
def LH_lanyardref03_table_1 : Shp := ⟨[0, 5, 6, 7, 8], 0, 0, 1, (.cons (.cell (.sl Ky1)) (.cons (.rs 0) (.cons (.cell .str) (.cons (.cell (.int .i64)) Sy53))))⟩
def LE_lanyardref03_table_1 : Exits := [(.exit 0, ⟨[5, 6, 7], 0, 0, 1, (.cons (.rs 0) (.cons (.cell .str) Sy53))⟩)]
def L_lanyardref03_table_1 (k : Nat) : Nat → Ty1 → (List UInt8) → Int → Int → (List Int) → Option ((List UInt8) × Int × (List Int))
  | 0, _, _, _, _, _ => none
  | n + 1, l, out, n_, i, w0 =>
    bif decide (i < (l.length : Int)) then
      (bif inL i l.length then
         bif ((l.getD (Int.toNat i) (0, (0, []))).1) == 1 then
           bif room ((w0.length + ([(out.length : Int)] : List Int).length) * 8) then
             bif inL i l.length then
               bif decide ((((l.getD (Int.toNat i) (0, (0, []))).2).2).length + ([0] : List UInt8).length ≤ 9223372036854775807) then
                 bif decide (out.length + ((((l.getD (Int.toNat i) (0, (0, []))).2).2) ++ [0]).length ≤ 9223372036854775807) then
                   bif inI (n_ + 1) then
                     some (l, (out ++ ((((l.getD (Int.toNat i) (0, (0, []))).2).2) ++ [0]), (n_ + 1, (i, w0 ++ [(out.length : Int)]))))
                   else none
                 else none
               else none
             else none
           else none
         else
           bif ((l.getD (Int.toNat i) (0, (0, []))).1) == 2 then
             bif room ((w0.length + ([(-2)] : List Int).length) * 8) then
               some (l, (out, (n_, (i, w0 ++ [(-2)]))))
             else none
           else
             bif room ((w0.length + ([(-1)] : List Int).length) * 8) then
               some (l, (out, (n_, (i, w0 ++ [(-1)]))))
             else none
       else none : Option (Ty1 × (List UInt8) × Int × Int × (List Int))).bind fun z2 =>
      bif inI (z2.2.2.2.1 + 1) then
        L_lanyardref03_table_1 k n z2.1 z2.2.1 z2.2.2.1 (z2.2.2.2.1 + 1) z2.2.2.2.2
      else none
    else
      some (out, (n_, w0))
def F_lanyardref03_table (k : Nat) (l : List Ty4) : Option (((List UInt8) × Int) × (List Int)) :=
  (L_lanyardref03_table_1 k k l [] 0 0 []).bind fun z3 =>
  some ((z3.1, z3.2.1), z3.2.2)
def I_lanyardref03_table : Shp := ⟨[0], 0, 0, 0, Sy34⟩
def E_lanyardref03_table : Exits := [(.ret, ⟨[], 0, 0, 1, (.cons (.tupL (.cons (.rs 0) (.cons (.cell .str) Sy23))) (.cons Sy40 .nil))⟩)]
def C_lanyardref03_table (k : Nat) : Con := ⟨15, I_lanyardref03_table, E_lanyardref03_table, fun z => (fun (z : List Ty4) => F_lanyardref03_table k z) z⟩
def F_lanyardref03_short (k : Nat) (n_ : Int) : Option (List Int) :=
  some [IntKind.wrap .u8 n_, IntKind.wrap .u8 (Int.fdiv n_ (2 ^ (min (Int.toNat 8) (IntKind.bits .i64))))]
def I_lanyardref03_short : Shp := ⟨[0], 0, 0, 0, Sy15⟩
def E_lanyardref03_short : Exits := [(.ret, ⟨[], 0, 0, 0, (.cons (.cell (.sl (.int .u8))) .nil)⟩)]
def C_lanyardref03_short (k : Nat) : Con := ⟨38, I_lanyardref03_short, E_lanyardref03_short, fun z => (fun (z : Int) => F_lanyardref03_short k z) z⟩
def LH_lanyardref03_shorts_1 : Shp := ⟨[0, 3, 4], 0, 0, 1, (.cons (.cell (.sl (.int .i64))) (.cons (.rs 0) (.cons (.cell (.int .i64)) (.cons .any Sy8))))⟩
def LE_lanyardref03_shorts_1 : Exits := [(.exit 0, ⟨[3], 0, 0, 1, (.cons (.rs 0) (.cons .any Sy8))⟩)]
def L_lanyardref03_shorts_1 (k : Nat) : Nat → (List Int) → Int → (List Int) → Option (List Int)
  | 0, _, _, _ => none
  | n + 1, l, i, w0 =>
    bif decide (i < (l.length : Int)) then
      bif inL i l.length then
        (F_lanyardref03_short k (l.getD (Int.toNat i) 0)).bind fun z2 =>
        bif room ((w0.length + z2.length) * 1) then
          bif inI (i + 1) then
            L_lanyardref03_shorts_1 k n l (i + 1) (w0 ++ z2)
          else none
        else none
      else none
    else
      some w0
def F_lanyardref03_shorts (k : Nat) (l : List Int) : Option (List Int) :=
  (L_lanyardref03_shorts_1 k k l 0 []).bind fun z3 =>
  some z3
def I_lanyardref03_shorts : Shp := ⟨[0], 0, 0, 0, (.cons (.cell (.sl (.int .i64))) (.cons .any .nil))⟩
def E_lanyardref03_shorts : Exits := [(.ret, ⟨[], 0, 0, 1, (.cons (.rs 0) Sy8)⟩)]
def C_lanyardref03_shorts (k : Nat) : Con := ⟨16, I_lanyardref03_shorts, E_lanyardref03_shorts, fun z => (fun (z : List Int) => F_lanyardref03_shorts k z) z⟩
def F_lanyardref03_flag (k : Nat) (c : Int × Int × (List UInt8)) : Option Int :=
  bif c.1 == 2 then
    some 254
  else
    some (IntKind.wrap .u8 c.1)
def I_lanyardref03_flag : Shp := ⟨[0], 0, 0, 0, (.cons (.agg Ky1) (.cons .any .nil))⟩
def E_lanyardref03_flag : Exits := [(.ret, ⟨[], 0, 0, 0, (.cons (.cell (.int .u8)) .nil)⟩)]
def C_lanyardref03_flag (k : Nat) : Con := ⟨39, I_lanyardref03_flag, E_lanyardref03_flag, fun z => (fun (z : Int × Int × (List UInt8)) => F_lanyardref03_flag k z) z⟩
def F_lanyardref03_even (k : Nat) (w0 : List Int) : Option (List Int) :=
  bif (Int.tmod (w0.length : Int) 2) == 1 then
    bif room ((w0.length + ([0] : List Int).length) * 1) then
      some (w0 ++ [0])
    else none
  else
    some w0
def I_lanyardref03_even : Shp := ⟨[0], 0, 0, 1, (.cons (.rs 0) (.cons .any Sy8))⟩
def E_lanyardref03_even : Exits := [(.ret, ⟨[], 0, 0, 2, (.cons (.rs 1) (.cons .any Sy8))⟩)]
def C_lanyardref03_even (k : Nat) : Con := ⟨19, I_lanyardref03_even, E_lanyardref03_even, fun z => (fun (z : List Int) => F_lanyardref03_even k z) z⟩
def F_lanyardref03_number (k : Nat) (c : Int × Int × (List UInt8)) (wide : Bool) : Option (List Int) :=
  (bif c.1 == 0 then
     some (wide, ((-1), c))
   else
     some (wide, (c.2.1, c)) : Option (Bool × Int × Int × Int × (List UInt8))).bind fun z1 =>
  (bif z1.2.2.1 == 2 then
     some (z1.1, (-2))
   else
     some (z1.1, z1.2.1) : Option (Bool × Int)).bind fun z2 =>
  bif z2.1 then
    some [IntKind.wrap .u8 z2.2, IntKind.wrap .u8 (Int.fdiv z2.2 (2 ^ (min (Int.toNat 8) (IntKind.bits .i64)))), IntKind.wrap .u8 (Int.fdiv z2.2 (2 ^ (min (Int.toNat 16) (IntKind.bits .i64)))), IntKind.wrap .u8 (Int.fdiv z2.2 (2 ^ (min (Int.toNat 24) (IntKind.bits .i64))))]
  else
    (F_lanyardref03_short k z2.2).bind fun z3 =>
    some z3
def I_lanyardref03_number : Shp := ⟨[0, 1], 0, 0, 0, (.cons (.agg Ky1) Sy16)⟩
def E_lanyardref03_number : Exits := [(.ret, ⟨[], 0, 0, 0, (.cons (.cell (.sl (.int .u8))) .nil)⟩)]
def C_lanyardref03_number (k : Nat) : Con := ⟨40, I_lanyardref03_number, E_lanyardref03_number, fun z => (fun (z : Ty4 × Bool) => F_lanyardref03_number k z.1 z.2) z⟩
def LH_lanyardref03_part_2 : Shp := ⟨[0, 2, 3, 10], 0, 0, 2, (.cons (.rs 1) (.cons (.cell (.sl Ky1)) (.cons (.cell .bool) (.cons (.cell (.int .i64)) (.cons .any (.cons .any Sy8))))))⟩
def LE_lanyardref03_part_2 : Exits := [(.exit 2, ⟨[0], 0, 0, 2, (.cons (.rs 1) (.cons .any (.cons .any Sy8)))⟩)]
def L_lanyardref03_part_2 (k : Nat) : Nat → Ty1 → Bool → Int → (List Int) → Option (List Int)
  | 0, _, _, _, _ => none
  | n + 1, nums, wide, i, w1 =>
    bif decide (i < (nums.length : Int)) then
      bif inL i nums.length then
        (F_lanyardref03_number k ((nums.getD (Int.toNat i) (0, (0, []))).1, ((nums.getD (Int.toNat i) (0, (0, []))).2)) wide).bind fun z6 =>
        bif room ((w1.length + z6.length) * 1) then
          bif inI (i + 1) then
            L_lanyardref03_part_2 k n nums wide (i + 1) (w1 ++ z6)
          else none
        else none
      else none
    else
      some w1
def LH_lanyardref03_part_1 : Shp := ⟨[0, 1, 2, 3, 9], 0, 0, 2, (.cons (.rs 1) (.cons (.cell (.sl Ky1)) (.cons (.cell (.sl Ky1)) (.cons (.cell .bool) (.cons (.cell (.int .i64)) (.cons .any (.cons .any Sy8)))))))⟩
def LE_lanyardref03_part_1 : Exits := [(.exit 0, ⟨[0, 2, 3], 0, 0, 2, (.cons (.rs 1) (.cons (.cell (.sl Ky1)) (.cons (.cell .bool) (.cons .any (.cons .any Sy8)))))⟩)]
def L_lanyardref03_part_1 (k : Nat) : Nat → Ty1 → Ty1 → Bool → Int → (List Int) → Option (Ty1 × Bool × (List Int))
  | 0, _, _, _, _, _ => none
  | n + 1, bools, nums, wide, i, w1 =>
    bif decide (i < (bools.length : Int)) then
      bif inL i bools.length then
        (F_lanyardref03_flag k ((bools.getD (Int.toNat i) (0, (0, []))).1, ((bools.getD (Int.toNat i) (0, (0, []))).2))).bind fun z2 =>
        bif room ((w1.length + ([z2] : List Int).length) * 1) then
          bif inI (i + 1) then
            L_lanyardref03_part_1 k n bools nums wide (i + 1) (w1 ++ [z2])
          else none
        else none
      else none
    else
      some (nums, (wide, w1))
def F_lanyardref03_part (k : Nat) (bools : List Ty4) (nums : List Ty4) (wide : Bool) (w0 : List Int) : Option (List Int) :=
  (L_lanyardref03_part_1 k k bools nums wide 0 w0).bind fun z3 =>
  (F_lanyardref03_even k z3.2.2).bind fun z4 =>
  (L_lanyardref03_part_2 k k z3.1 z3.2.1 0 z4).bind fun z7 =>
  some z7
def I_lanyardref03_part : Shp := ⟨[0, 1, 2, 3], 0, 0, 1, (.cons (.rs 0) (.cons (.cell (.sl Ky1)) (.cons (.cell (.sl Ky1)) (.cons (.cell .bool) (.cons .any Sy8)))))⟩
def E_lanyardref03_part : Exits := [(.ret, ⟨[], 0, 0, 2, (.cons (.rs 1) (.cons .any Sy8))⟩)]
def C_lanyardref03_part (k : Nat) : Con := ⟨17, I_lanyardref03_part, E_lanyardref03_part, fun z => (fun (z : Ty1 × Ty1 × Bool × (List Int)) => F_lanyardref03_part k z.1 z.2.1 z.2.2.1 z.2.2.2) z⟩
def LH_lanyardref03_of_1 : Shp := ⟨[0, 1, 5, 6], 0, 0, 1, (.cons Sy7 (.cons (.cell (.int .i64)) (.cons (.rs 0) (.cons (.cell (.int .i64)) (.cons .any (.cons Sy10 .nil))))))⟩
def LE_lanyardref03_of_1 : Exits := [(.exit 0, ⟨[5], 0, 0, 1, (.cons (.rs 0) (.cons .any (.cons Sy10 .nil)))⟩)]
def L_lanyardref03_of_1 (k : Nat) : Nat → Ty2 → Int → Int → Ty1 → Option Ty1
  | 0, _, _, _, _ => none
  | n + 1, l, kind, i, w0 =>
    bif decide (i < (l.length : Int)) then
      (bif inL i l.length then
         bif ((l.getD (Int.toNat i) (0, ([], (0, (0, []))))).1) == kind then
           bif inL i l.length then
             bif room ((w0.length + ([((((l.getD (Int.toNat i) (0, ([], (0, (0, []))))).2).2).1, ((((l.getD (Int.toNat i) (0, ([], (0, (0, []))))).2).2).2))] : List Ty4).length) * 32) then
               some (l, (kind, (i, w0 ++ [((((l.getD (Int.toNat i) (0, ([], (0, (0, []))))).2).2).1, ((((l.getD (Int.toNat i) (0, ([], (0, (0, []))))).2).2).2))])))
             else none
           else none
         else
           some (l, (kind, (i, w0)))
       else none : Option (Ty2 × Int × Int × Ty1)).bind fun z2 =>
      bif inI (z2.2.2.1 + 1) then
        L_lanyardref03_of_1 k n z2.1 z2.2.1 (z2.2.2.1 + 1) z2.2.2.2
      else none
    else
      some w0
def F_lanyardref03_of (k : Nat) (l : List Ty6) (kind : Int) : Option Ty1 :=
  (L_lanyardref03_of_1 k k l kind 0 []).bind fun z3 =>
  some z3
def I_lanyardref03_of : Shp := ⟨[0, 1], 0, 0, 0, (.cons Sy7 Sy15)⟩
def E_lanyardref03_of : Exits := [(.ret, ⟨[], 0, 0, 0, (.cons (.cell (.sl Ky1)) .nil)⟩)]
def C_lanyardref03_of (k : Nat) : Con := ⟨18, I_lanyardref03_of, E_lanyardref03_of, fun z => (fun (z : Ty2 × Int) => F_lanyardref03_of k z.1 z.2) z⟩
def LH_lanyardref03_Write_1 : Shp := ⟨[1, 5, 6, 9, 10, 11, 12, 13], 0, 1, 2, (.cons (.ptr 0 0) (.cons (.rs 0) (.cons (.cell .str) (.cons (.rs 1) (.cons (.cell (.sl Ky1)) (.cons (.cell (.int .i64)) (.cons (.cell .str) (.cons (.cell (.int .i64)) (.cons .any (.cons Sy1 (.cons Sy40 Sy8)))))))))))⟩
def LE_lanyardref03_Write_1 : Exits := [(.exit 0, ⟨[1, 5, 6, 9, 10, 11, 12], 0, 1, 2, (.cons (.ptr 0 0) (.cons (.rs 0) (.cons (.cell .str) (.cons (.rs 1) (.cons (.cell (.sl Ky1)) (.cons (.cell (.int .i64)) (.cons (.cell .str) (.cons .any (.cons Sy1 (.cons Sy40 Sy8))))))))))⟩)]
def L_lanyardref03_Write_1 (k : Nat) : Nat → (List UInt8) → Ty1 → Int → (List UInt8) → Int → (List UInt8) → Bool → Ty1 → Ty1 → Ty1 → Ty2 → (List Int) → (List Int) → Option ((List UInt8) × Ty1 × Int × (List UInt8) × Ty3 × (List Int) × (List Int))
  | 0, _, _, _, _, _, _, _, _, _, _, _, _, _ => none
  | n + 1, tab, strs, n_, names, i, b0_0, b0_1, b0_2, b0_3, b0_4, b0_5, w0, w1 =>
    bif decide (i < (b0_5.length : Int)) then
      bif room ((w0.length + ([(names.length : Int)] : List Int).length) * 8) then
        bif inL i b0_5.length then
          bif decide ((((b0_5.getD (Int.toNat i) (0, ([], (0, (0, []))))).2).1).length + ([0] : List UInt8).length ≤ 9223372036854775807) then
            bif decide (names.length + ((((b0_5.getD (Int.toNat i) (0, ([], (0, (0, []))))).2).1) ++ [0]).length ≤ 9223372036854775807) then
              bif inI (i + 1) then
                L_lanyardref03_Write_1 k n tab strs n_ (names ++ ((((b0_5.getD (Int.toNat i) (0, ([], (0, (0, []))))).2).1) ++ [0])) (i + 1) b0_0 b0_1 b0_2 b0_3 b0_4 b0_5 (w0 ++ [(names.length : Int)]) w1
              else none
            else none
          else none
        else none
      else none
    else
      some (tab, (strs, (n_, (names, ((b0_0, (b0_1, (b0_2, (b0_3, (b0_4, b0_5))))), (w0, w1))))))
def F_lanyardref03_Write (k : Nat) (t : (List UInt8) × Bool × Ty1 × Ty1 × Ty1 × Ty2) : Option ((List Int) × Int) :=
  (F_lanyardref03_Check k t).bind fun z1 =>
  bif z1 != 0 then
    some ([], z1)
  else
    (F_lanyardref03_table k t.2.2.2.2.1).bind fun z2 =>
    (bif t.2.1 then
       some (z2.1.1, (542, (t, z2.2)))
     else
       some (z2.1.1, (282, (t, z2.2))) : Option ((List UInt8) × Int × Ty3 × (List Int))).bind fun z3 =>
    bif inI ((z3.2.2.1.1.length : Int) + 1) then
      (F_lanyardref03_shorts k [z3.2.1, (z3.2.2.1.1.length : Int) + 1, (z3.2.2.1.2.2.1.length : Int), (z3.2.2.1.2.2.2.1.length : Int), (z3.2.2.1.2.2.2.2.1.length : Int), (z3.1.length : Int)]).bind fun z4 =>
      bif room ((z4.length + z3.2.2.1.1.length) * 1) then
        bif room (((z4 ++ (sI z3.2.2.1.1)).length + ([0] : List Int).length) * 1) then
          (F_lanyardref03_part k z3.2.2.1.2.2.1 z3.2.2.1.2.2.2.1 z3.2.2.1.2.1 ((z4 ++ (sI z3.2.2.1.1)) ++ [0])).bind fun z5 =>
          (F_lanyardref03_shorts k z3.2.2.2).bind fun z6 =>
          bif room ((z5.length + z6.length) * 1) then
            bif room (((z5 ++ z6).length + z3.1.length) * 1) then
              bif decide ((z3.1.length : Int) > 32767) then
                some ([], 3)
              else
                bif (z3.2.2.1.2.2.2.2.2.length : Int) == 0 then
                  some ((z5 ++ z6) ++ (sI z3.1), 0)
                else
                  (F_lanyardref03_of k z3.2.2.1.2.2.2.2.2 2).bind fun z7 =>
                  (F_lanyardref03_table k z7).bind fun z8 =>
                  (L_lanyardref03_Write_1 k k z8.1.1 z7 z8.1.2 [] 0 z3.2.2.1.1 z3.2.2.1.2.1 z3.2.2.1.2.2.1 z3.2.2.1.2.2.2.1 z3.2.2.1.2.2.2.2.1 z3.2.2.1.2.2.2.2.2 z8.2 ((z5 ++ z6) ++ (sI z3.1))).bind fun z9 =>
                  bif inI ((z9.1.length : Int) + (z9.2.2.2.1.length : Int)) then
                    bif decide (((z9.1.length : Int) + (z9.2.2.2.1.length : Int)) > 32767) then
                      some ([], 3)
                    else
                      (F_lanyardref03_even k z9.2.2.2.2.2.2).bind fun z10 =>
                      (F_lanyardref03_of k z9.2.2.2.2.1.2.2.2.2.2 0).bind fun z11 =>
                      (F_lanyardref03_of k z9.2.2.2.2.1.2.2.2.2.2 1).bind fun z12 =>
                      bif inI (z9.2.2.1 + (z9.2.2.2.2.1.2.2.2.2.2.length : Int)) then
                        bif inI ((z9.1.length : Int) + (z9.2.2.2.1.length : Int)) then
                          (F_lanyardref03_shorts k [(z11.length : Int), (z12.length : Int), (z9.2.1.length : Int), z9.2.2.1 + (z9.2.2.2.2.1.2.2.2.2.2.length : Int), (z9.1.length : Int) + (z9.2.2.2.1.length : Int)]).bind fun z13 =>
                          bif room ((z10.length + z13.length) * 1) then
                            (F_lanyardref03_of k z9.2.2.2.2.1.2.2.2.2.2 0).bind fun z14 =>
                            (F_lanyardref03_of k z9.2.2.2.2.1.2.2.2.2.2 1).bind fun z15 =>
                            (F_lanyardref03_part k z14 z15 z9.2.2.2.2.1.2.1 (z10 ++ z13)).bind fun z16 =>
                            (F_lanyardref03_shorts k z9.2.2.2.2.2.1).bind fun z17 =>
                            bif room ((z16.length + z17.length) * 1) then
                              bif room (((z16 ++ z17).length + z9.1.length) * 1) then
                                bif room ((((z16 ++ z17) ++ (sI z9.1)).length + z9.2.2.2.1.length) * 1) then
                                  some (((z16 ++ z17) ++ (sI z9.1)) ++ (sI z9.2.2.2.1), 0)
                                else none
                              else none
                            else none
                          else none
                        else none
                      else none
                  else none
            else none
          else none
        else none
      else none
    else none
def I_lanyardref03_Write : Shp := ⟨[0], 0, 0, 0, Sy42⟩
def E_lanyardref03_Write : Exits := [(.ret, ⟨[], 0, 0, 0, (.cons (.tupL (.cons (.cell (.sl (.int .u8))) Sy23)) .nil)⟩)]
def C_lanyardref03_Write (k : Nat) : Con := ⟨5, I_lanyardref03_Write, E_lanyardref03_Write, fun z => (fun (z : (List UInt8) × Bool × Ty1 × Ty1 × Ty1 × Ty2) => F_lanyardref03_Write k z) z⟩
def F_tinfo_list (k : Nat) (kind : Int) (b0_0 : List UInt8) (b0_1 : Bool) (b0_2 : List Ty4) (b0_3 : List Ty4) (b0_4 : List Ty4) (b0_5 : List Ty6) : Option (Ty3 ⊕ (Ty3 ⊕ Ty3)) :=
  bif kind == 0 then
    some (Sum.inl (b0_0, (b0_1, (b0_2, (b0_3, (b0_4, b0_5))))))
  else
    bif kind == 1 then
      some (Sum.inr (Sum.inl (b0_0, (b0_1, (b0_2, (b0_3, (b0_4, b0_5)))))))
    else
      bif kind == 2 then
        some (Sum.inr (Sum.inr (b0_0, (b0_1, (b0_2, (b0_3, (b0_4, b0_5)))))))
      else
        none
def I_tinfo_list : Shp := ⟨[0, 1], 0, 1, 0, Sy33⟩
def E_tinfo_list : Exits := [(.ret, ⟨[], 0, 1, 0, (.cons (.ptr 0 2) (.cons Sy1 .nil))⟩), (.ret, ⟨[], 0, 1, 0, (.cons (.ptr 0 3) (.cons Sy1 .nil))⟩), (.ret, ⟨[], 0, 1, 0, (.cons (.ptr 0 4) (.cons Sy1 .nil))⟩)]
def C_tinfo_list (k : Nat) : Con := ⟨73, I_tinfo_list, E_tinfo_list, fun z => (fun (z : Int × (List UInt8) × Bool × Ty1 × Ty1 × Ty1 × Ty2) => F_tinfo_list k z.1 z.2.1 z.2.2.1 z.2.2.2.1 z.2.2.2.2.1 z.2.2.2.2.2.1 z.2.2.2.2.2.2) z⟩
def LH_tinfo_Get_1 : Shp := ⟨[1, 4, 33, 34, 35], 0, 1, 0, (.cons (.cell .str) (.cons (.ptr 0 0) (.cons Sy7 (.cons (.cell (.int .i64)) (.cons (.cell (.int .i64)) (.cons .any (.cons Sy20 .nil)))))))⟩
def LE_tinfo_Get_1 : Exits := [(.exit 0, ⟨[4], 0, 1, 0, (.cons (.ptr 0 0) (.cons .any (.cons Sy20 .nil)))⟩), (.ret, ⟨[4, 5], 0, 1, 0, (.cons (.ptr 0 0) (.cons (.litB true) Sy47))⟩)]
def L_tinfo_Get_1 (k : Nat) : Nat → (List UInt8) → Ty2 → Int → Int → Option (Unit ⊕ Ty4)
  | 0, _, _, _, _ => none
  | n + 1, name, t33, t34, t35 =>
    bif decide (t35 < t34) then
      bif inL t35 t33.length then
        bif (((t33.getD (Int.toNat t35) (0, ([], (0, (0, []))))).2).1) == name then
          some (Sum.inr ((((t33.getD (Int.toNat t35) (0, ([], (0, (0, []))))).2).2).1, ((((t33.getD (Int.toNat t35) (0, ([], (0, (0, []))))).2).2).2)))
        else
          bif inI (t35 + 1) then
            L_tinfo_Get_1 k n name t33 t34 (t35 + 1)
          else none
      else none
    else
      some (Sum.inl ())
def F_tinfo_Get (k : Nat) (t : (List UInt8) × Bool × Ty1 × Ty1 × Ty1 × Ty2) (name : List UInt8) : Option (Ty4 × Bool) :=
  (F_tinfo_Place k name).bind fun z1 =>
  bif z1.2.2 then
    ((F_tinfo_list k z1.1 t.1 t.2.1 t.2.2.1 t.2.2.2.1 t.2.2.2.2.1 t.2.2.2.2.2).bind fun z2 =>
     either z2 (fun z2_1 =>
       some (z1.2.1, z2_1.2.2.1))
       fun z2_r1 =>
       either z2_r1 (fun z2_2 =>
         some (z1.2.1, z2_2.2.2.2.1))
         fun z2_3 =>
         some (z1.2.1, z2_3.2.2.2.2.1) : Option (Int × Ty1)).bind fun z3 =>
    bif decide (z3.1 < (z3.2.length : Int)) then
      bif inL z3.1 z3.2.length then
        some (((z3.2.getD (Int.toNat z3.1) (0, (0, []))).1, ((z3.2.getD (Int.toNat z3.1) (0, (0, []))).2)), true)
      else none
    else
      some ((0, (0, [])), true)
  else
    (L_tinfo_Get_1 k k name t.2.2.2.2.2 (t.2.2.2.2.2.length : Int) 0).bind fun z4 =>
    either z4 (fun z4_1 =>
      some ((0, (0, [])), false))
      fun z4_2 =>
      some (z4_2, true)
def I_tinfo_Get : Shp := ⟨[0, 1], 0, 0, 0, (.cons Sy5 Sy38)⟩
def E_tinfo_Get : Exits := [(.ret, ⟨[], 0, 0, 0, (.cons (.tupL (.cons (.agg Ky1) Sy11)) .nil)⟩)]
def C_tinfo_Get (k : Nat) : Con := ⟨63, I_tinfo_Get, E_tinfo_Get, fun z => (fun (z : Ty3 × (List UInt8)) => F_tinfo_Get k z.1 z.2) z⟩
def K_slices_Clone_Cap (l : List Ty4) : Option Ty1 := bif room ((0 + l.length) * 32) then some l else none
def F_slices_Clone_Cap (k : Nat) (l : List Ty4) : Option Ty1 := (K_slices_Clone_Cap l).bind fun z => some z
def I_slices_Clone_Cap : Shp := ⟨[0], 0, 0, 0, Sy34⟩
def E_slices_Clone_Cap : Exits := [(.ret, ⟨[], 0, 0, 1, (.cons (.rs 0) (.cons Sy10 .nil))⟩)]
def C_slices_Clone_Cap (k : Nat) : Con := ⟨83, I_slices_Clone_Cap, E_slices_Clone_Cap, fun z => (fun (z : List Ty4) => F_slices_Clone_Cap k z) z⟩
def EF_slices_Clone_Cap : Exits := [(.ret, ⟨[2], 0, 0, 1, (.cons (.rs 0) (.cons .any (.cons Sy10 .nil)))⟩)]
def K_slices_Clone_Ext (l : List Ty6) : Option Ty2 := bif room ((0 + l.length) * 56) then some l else none
def F_slices_Clone_Ext (k : Nat) (l : List Ty6) : Option Ty2 := (K_slices_Clone_Ext l).bind fun z => some z
def I_slices_Clone_Ext : Shp := ⟨[0], 0, 0, 0, (.cons Sy7 (.cons .any .nil))⟩
def E_slices_Clone_Ext : Exits := [(.ret, ⟨[], 0, 0, 1, (.cons (.rs 0) Sy55)⟩)]
def C_slices_Clone_Ext (k : Nat) : Con := ⟨84, I_slices_Clone_Ext, E_slices_Clone_Ext, fun z => (fun (z : List Ty6) => F_slices_Clone_Ext k z) z⟩
def EF_slices_Clone_Ext : Exits := [(.ret, ⟨[2], 0, 0, 1, (.cons (.rs 0) (.cons .any Sy55))⟩)]
def F_tinfo_twin (k : Nat) (t : (List UInt8) × Bool × Ty1 × Ty1 × Ty1 × Ty2) : Option Ty10 :=
  (F_slices_Clone_Cap k t.2.2.1).bind fun z1 =>
  (F_slices_Clone_Cap k t.2.2.2.1).bind fun z2 =>
  (F_slices_Clone_Cap k t.2.2.2.2.1).bind fun z3 =>
  (F_slices_Clone_Ext k t.2.2.2.2.2).bind fun z4 =>
  some ((t.1, t.2.1), (z1, (z2, (z3, z4))))
def I_tinfo_twin : Shp := ⟨[0], 0, 0, 0, Sy42⟩
def E_tinfo_twin : Exits := [(.ret, ⟨[], 0, 0, 4, (.cons Sy14 Sy22)⟩)]
def C_tinfo_twin (k : Nat) : Con := ⟨72, I_tinfo_twin, E_tinfo_twin, fun z => (fun (z : (List UInt8) × Bool × Ty1 × Ty1 × Ty1 × Ty2) => F_tinfo_twin k z) z⟩
def F_tinfo_list_2 (k : Nat) (kind : Int) (b0_0 : List UInt8) (b0_1 : Bool) (w0 : List Ty4) (w1 : List Ty4) (w2 : List Ty4) (w3 : List Ty6) : Option (Ty10 ⊕ (Ty10 ⊕ Ty10)) :=
  bif kind == 0 then
    some (Sum.inl ((b0_0, b0_1), (w0, (w1, (w2, w3)))))
  else
    bif kind == 1 then
      some (Sum.inr (Sum.inl ((b0_0, b0_1), (w0, (w1, (w2, w3))))))
    else
      bif kind == 2 then
        some (Sum.inr (Sum.inr ((b0_0, b0_1), (w0, (w1, (w2, w3))))))
      else
        none
def I_tinfo_list_2 : Shp := ⟨[0, 1], 0, 1, 4, (.cons (.ptr 0 0) (.cons (.cell (.int .i64)) (.cons .any (.cons (.ifc 25 Sy14) Sy22))))⟩
def E_tinfo_list_2 : Exits := [(.ret, ⟨[], 0, 1, 4, (.cons (.ptr 0 2) (.cons (.ifc 25 Sy14) Sy22))⟩), (.ret, ⟨[], 0, 1, 4, (.cons (.ptr 0 3) (.cons (.ifc 25 Sy14) Sy22))⟩), (.ret, ⟨[], 0, 1, 4, (.cons (.ptr 0 4) (.cons (.ifc 25 Sy14) Sy22))⟩)]
def C_tinfo_list_2 (k : Nat) : Con := ⟨73, I_tinfo_list_2, E_tinfo_list_2, fun z => (fun (z : Int × ((List UInt8) × Bool) × Ty1 × Ty1 × Ty1 × Ty2) => F_tinfo_list_2 k z.1 z.2.1.1 z.2.1.2 z.2.2.1 z.2.2.2.1 z.2.2.2.2.1 z.2.2.2.2.2) z⟩
def LH_tinfo_Set_4 : Shp := ⟨[1, 3, 5, 6, 58, 59], 0, 3, 4, (.cons (.cell .str) (.cons (.ptr 0 0) (.cons (.ptr 1 0) (.cons (.ptr 2 0) (.cons (.cell (.int .i64)) (.cons (.cell (.int .i64)) Sy2))))))⟩
def LE_tinfo_Set_4 : Exits := [(.exit 2, ⟨[3, 6], 0, 2, 4, (.cons (.ptr 0 0) (.cons (.ptr 1 0) (.cons .any (.cons (.ifc 25 Sy14) (.cons Sy6 Sy22)))))⟩)]
def L_tinfo_Set_4 (k : Nat) : Nat → (List UInt8) → Int → Int → (List UInt8) → Bool → Int → Int → (List UInt8) → Ty1 → Ty1 → Ty1 → Ty2 → Option Ty10
  | 0, _, _, _, _, _, _, _, _, _, _, _, _ => none
  | n + 1, name, t58, t59, b0_0, b0_1, b1_0, b1_1, b1_2, w0, w1, w2, w3 =>
    bif decide (t59 < t58) then
      (bif inL t59 w3.length then
         bif (((w3.getD (Int.toNat t59) (0, ([], (0, (0, []))))).2).1) == name then
           bif inL t59 w3.length then
             some (name, (t58, (t59, ((b0_0, b0_1), ((b1_0, (b1_1, b1_2)), (w0, (w1, (w2, w3.set (Int.toNat t59) ((w3.getD (Int.toNat t59) (0, ([], (0, (0, []))))).1, (((w3.getD (Int.toNat t59) (0, ([], (0, (0, []))))).2).1, (b1_0, (b1_1, b1_2))))))))))))
           else none
         else
           some (name, (t58, (t59, ((b0_0, b0_1), ((b1_0, (b1_1, b1_2)), (w0, (w1, (w2, w3))))))))
       else none : Option ((List UInt8) × Int × Int × ((List UInt8) × Bool) × Ty4 × Ty1 × Ty1 × Ty1 × Ty2)).bind fun z11 =>
      bif inI (z11.2.2.1 + 1) then
        L_tinfo_Set_4 k n z11.1 z11.2.1 (z11.2.2.1 + 1) z11.2.2.2.1.1 z11.2.2.2.1.2 z11.2.2.2.2.1.1 z11.2.2.2.2.1.2.1 z11.2.2.2.2.1.2.2 z11.2.2.2.2.2.1 z11.2.2.2.2.2.2.1 z11.2.2.2.2.2.2.2.1 z11.2.2.2.2.2.2.2.2
      else none
    else
      some ((b0_0, b0_1), (w0, (w1, (w2, w3))))
def LH_tinfo_Set_3 : Shp := ⟨[1, 3, 5, 6, 11, 13], 0, 3, 4, Sy28⟩
def LE_tinfo_Set_3 : Exits := [(.exit 0, ⟨[1, 3, 5, 6, 11, 13], 0, 3, 4, Sy28⟩)]
def L_tinfo_Set_3 (k : Nat) : Nat → (List UInt8) → Int → (List UInt8) → Bool → Int → Int → (List UInt8) → Ty1 → Ty1 → Ty1 → Ty2 → Option Ty8
  | 0, _, _, _, _, _, _, _, _, _, _, _ => none
  | n + 1, name, n_, b0_0, b0_1, b1_0, b1_1, b1_2, w0, w1, w2, w3 =>
    bif decide ((w2.length : Int) ≤ n_) then
      bif room ((w2.length + ([(0, (0, []))] : List Ty4).length) * 32) then
        L_tinfo_Set_3 k n name n_ b0_0 b0_1 b1_0 b1_1 b1_2 w0 w1 (w2 ++ [(0, (0, []))]) w3
      else none
    else
      some (name, (n_, ((b0_0, b0_1), ((b1_0, (b1_1, b1_2)), (w0, (w1, (w2, w3)))))))
def LH_tinfo_Set_2 : Shp := ⟨[1, 3, 5, 6, 11, 13], 0, 3, 4, Sy29⟩
def LE_tinfo_Set_2 : Exits := [(.exit 0, ⟨[1, 3, 5, 6, 11, 13], 0, 3, 4, Sy29⟩)]
def L_tinfo_Set_2 (k : Nat) : Nat → (List UInt8) → Int → (List UInt8) → Bool → Int → Int → (List UInt8) → Ty1 → Ty1 → Ty1 → Ty2 → Option Ty8
  | 0, _, _, _, _, _, _, _, _, _, _, _ => none
  | n + 1, name, n_, b0_0, b0_1, b1_0, b1_1, b1_2, w0, w1, w2, w3 =>
    bif decide ((w1.length : Int) ≤ n_) then
      bif room ((w1.length + ([(0, (0, []))] : List Ty4).length) * 32) then
        L_tinfo_Set_2 k n name n_ b0_0 b0_1 b1_0 b1_1 b1_2 w0 (w1 ++ [(0, (0, []))]) w2 w3
      else none
    else
      some (name, (n_, ((b0_0, b0_1), ((b1_0, (b1_1, b1_2)), (w0, (w1, (w2, w3)))))))
def LH_tinfo_Set_1 : Shp := ⟨[1, 3, 5, 6, 11, 13], 0, 3, 4, Sy30⟩
def LE_tinfo_Set_1 : Exits := [(.exit 0, ⟨[1, 3, 5, 6, 11, 13], 0, 3, 4, Sy30⟩)]
def L_tinfo_Set_1 (k : Nat) : Nat → (List UInt8) → Int → (List UInt8) → Bool → Int → Int → (List UInt8) → Ty1 → Ty1 → Ty1 → Ty2 → Option Ty8
  | 0, _, _, _, _, _, _, _, _, _, _, _ => none
  | n + 1, name, n_, b0_0, b0_1, b1_0, b1_1, b1_2, w0, w1, w2, w3 =>
    bif decide ((w0.length : Int) ≤ n_) then
      bif room ((w0.length + ([(0, (0, []))] : List Ty4).length) * 32) then
        L_tinfo_Set_1 k n name n_ b0_0 b0_1 b1_0 b1_1 b1_2 (w0 ++ [(0, (0, []))]) w1 w2 w3
      else none
    else
      some (name, (n_, ((b0_0, b0_1), ((b1_0, (b1_1, b1_2)), (w0, (w1, (w2, w3)))))))
def F_tinfo_Set (k : Nat) (t : (List UInt8) × Bool × Ty1 × Ty1 × Ty1 × Ty2) (name : List UInt8) (c : Int × Int × (List UInt8)) : Option (Ty3 × Int) :=
  (F_tinfo_Get k t name).bind fun z1 =>
  bif !z1.2 then
    some (([], (false, ([], ([], ([], []))))), 4)
  else
    (F_tinfo_twin k t).bind fun z2 =>
    ((F_tinfo_Place k name).bind fun z3 =>
     bif z3.2.2 then
       ((F_tinfo_list_2 k z3.1 z2.1.1 z2.1.2 z2.2.1 z2.2.2.1 z2.2.2.2.1 z2.2.2.2.2).bind fun z4 =>
        either z4 (fun z4_1 =>
          some (Sum.inl (name, (z3.2.1, (z4_1.1, (c, z4_1.2))))))
          fun z4_r1 =>
          either z4_r1 (fun z4_2 =>
            some (Sum.inr (Sum.inl (name, (z3.2.1, (z4_2.1, (c, z4_2.2)))))))
            fun z4_3 =>
            some (Sum.inr (Sum.inr (name, (z3.2.1, (z4_3.1, (c, z4_3.2)))))) : Option ((Ty8 ⊕ (Ty8 ⊕ Ty8)))).bind fun z5 =>
       either z5 (fun z5_1 =>
         (L_tinfo_Set_1 k k z5_1.1 z5_1.2.1 z5_1.2.2.1.1 z5_1.2.2.1.2 z5_1.2.2.2.1.1 z5_1.2.2.2.1.2.1 z5_1.2.2.2.1.2.2 z5_1.2.2.2.2.1 z5_1.2.2.2.2.2.1 z5_1.2.2.2.2.2.2.1 z5_1.2.2.2.2.2.2.2).bind fun z6 =>
         bif inL z6.2.1 z6.2.2.2.2.1.length then
           some (z6.1, (z6.2.2.1, (z6.2.2.2.1, (z6.2.2.2.2.1.set (Int.toNat z6.2.1) z6.2.2.2.1, z6.2.2.2.2.2))))
         else none)
         fun z5_r1 =>
         either z5_r1 (fun z5_2 =>
           (L_tinfo_Set_2 k k z5_2.1 z5_2.2.1 z5_2.2.2.1.1 z5_2.2.2.1.2 z5_2.2.2.2.1.1 z5_2.2.2.2.1.2.1 z5_2.2.2.2.1.2.2 z5_2.2.2.2.2.1 z5_2.2.2.2.2.2.1 z5_2.2.2.2.2.2.2.1 z5_2.2.2.2.2.2.2.2).bind fun z7 =>
           bif inL z7.2.1 z7.2.2.2.2.2.1.length then
             some (z7.1, (z7.2.2.1, (z7.2.2.2.1, (z7.2.2.2.2.1, (z7.2.2.2.2.2.1.set (Int.toNat z7.2.1) z7.2.2.2.1, z7.2.2.2.2.2.2)))))
           else none)
           fun z5_3 =>
           (L_tinfo_Set_3 k k z5_3.1 z5_3.2.1 z5_3.2.2.1.1 z5_3.2.2.1.2 z5_3.2.2.2.1.1 z5_3.2.2.2.1.2.1 z5_3.2.2.2.1.2.2 z5_3.2.2.2.2.1 z5_3.2.2.2.2.2.1 z5_3.2.2.2.2.2.2.1 z5_3.2.2.2.2.2.2.2).bind fun z8 =>
           bif inL z8.2.1 z8.2.2.2.2.2.2.1.length then
             some (z8.1, (z8.2.2.1, (z8.2.2.2.1, (z8.2.2.2.2.1, (z8.2.2.2.2.2.1, (z8.2.2.2.2.2.2.1.set (Int.toNat z8.2.1) z8.2.2.2.1, z8.2.2.2.2.2.2.2))))))
           else none
     else
       some (name, (z2.1, (c, z2.2))) : Option ((List UInt8) × ((List UInt8) × Bool) × Ty4 × Ty1 × Ty1 × Ty1 × Ty2)).bind fun z9 =>
    (L_tinfo_Set_4 k k z9.1 (z9.2.2.2.2.2.2.length : Int) 0 z9.2.1.1 z9.2.1.2 z9.2.2.1.1 z9.2.2.1.2.1 z9.2.2.1.2.2 z9.2.2.2.1 z9.2.2.2.2.1 z9.2.2.2.2.2.1 z9.2.2.2.2.2.2).bind fun z12 =>
    (F_tinfo_Check k (z12.1.1, (z12.1.2, z12.2))).bind fun z13 =>
    bif z13 != 0 then
      some (([], (false, ([], ([], ([], []))))), z13)
    else
      some ((z12.1.1, (z12.1.2, z12.2)), 0)
def I_tinfo_Set : Shp := ⟨[0, 1, 2], 0, 0, 0, (.cons Sy5 (.cons (.cell .str) (.cons (.agg Ky1) (.cons .any .nil))))⟩
def E_tinfo_Set : Exits := [(.ret, ⟨[], 0, 0, 0, (.cons (.tupL (.cons Sy5 Sy23)) .nil)⟩)]
def C_tinfo_Set (k : Nat) : Con := ⟨59, I_tinfo_Set, E_tinfo_Set, fun z => (fun (z : Ty3 × (List UInt8) × Int × Int × (List UInt8)) => F_tinfo_Set k z.1 z.2.1 z.2.2) z⟩
def LH_tinfo_made_3 : Shp := ⟨[8, 9, 14, 15], 0, 2, 0, (.cons (.ptr 0 0) (.cons (.ptr 1 0) (.cons (.cell (.sl .str)) (.cons (.cell (.int .i64)) Sy35))))⟩
def LE_tinfo_made_3 : Exits := [(.exit 4, ⟨[8, 9], 0, 2, 0, (.cons (.ptr 0 0) (.cons (.ptr 1 0) Sy35))⟩)]
def L_tinfo_made_3 (k : Nat) : Nat → (List (List UInt8)) → Int → (List UInt8) → Bool → Ty1 → Ty1 → Ty1 → Ty2 → Option Ty3
  | 0, _, _, _, _, _, _, _, _ => none
  | n + 1, l, i, b1_0, b1_1, b1_2, b1_3, b1_4, b1_5 =>
    bif inI (i + 1) then
      bif decide ((i + 1) < (l.length : Int)) then
        bif inL i l.length then
          bif inI (i + 1) then
            bif inL (i + 1) l.length then
              (F_tinfo_Set k (b1_0, (b1_1, (b1_2, (b1_3, (b1_4, b1_5))))) (l.getD (Int.toNat i) []) (1, (0, l.getD (Int.toNat (i + 1)) []))).bind fun z11 =>
              bif inI (i + 2) then
                L_tinfo_made_3 k n l (i + 2) z11.1.1 z11.1.2.1 z11.1.2.2.1 z11.1.2.2.2.1 z11.1.2.2.2.2.1 z11.1.2.2.2.2.2
              else none
            else none
          else none
        else none
      else
        some (b1_0, (b1_1, (b1_2, (b1_3, (b1_4, b1_5)))))
    else none
def LH_tinfo_made_2 : Shp := ⟨[1, 3, 8, 9, 32, 33], 0, 2, 0, (.cons (.cell .str) (.cons (.cell (.sl (.int .i64))) (.cons (.ptr 0 0) (.cons (.ptr 1 0) (.cons (.agg (.pair .str (.pair .str (.pair .str (.pair .str .str))))) (.cons (.cell (.int .i64)) Sy35))))))⟩
def LE_tinfo_made_2 : Exits := [(.exit 2, ⟨[1, 8, 9], 0, 2, 0, (.cons (.cell .str) (.cons (.ptr 0 0) (.cons (.ptr 1 0) Sy35)))⟩)]
def L_tinfo_made_2 (k : Nat) : Nat → (List UInt8) → (List Int) → Ty11 → Int → (List UInt8) → Bool → Ty1 → Ty1 → Ty1 → Ty2 → Option ((List UInt8) × (List UInt8) × Bool × Ty1 × Ty1 × Ty1 × Ty2)
  | 0, _, _, _, _, _, _, _, _, _, _ => none
  | n + 1, texts, numbers, t32, t33, b1_0, b1_1, b1_2, b1_3, b1_4, b1_5 =>
    bif decide (t33 < 5) then
      (bif inL t33 5 then
         bif decide (t33 < (numbers.length : Int)) then
           bif inL t33 numbers.length then
             (F_tinfo_Set k (b1_0, (b1_1, (b1_2, (b1_3, (b1_4, b1_5))))) (([t32.1, t32.2.1, t32.2.2.1, t32.2.2.2.1, t32.2.2.2.2] : List (List UInt8)).getD (Int.toNat t33) []) (1, (numbers.getD (Int.toNat t33) 0, []))).bind fun z6 =>
             some (texts, (numbers, (t32, (t33, z6.1))))
           else none
         else
           some (texts, (numbers, (t32, (t33, (b1_0, (b1_1, (b1_2, (b1_3, (b1_4, b1_5)))))))))
       else none : Option ((List UInt8) × (List Int) × Ty11 × Int × (List UInt8) × Bool × Ty1 × Ty1 × Ty1 × Ty2)).bind fun z7 =>
      bif inI (z7.2.2.2.1 + 1) then
        L_tinfo_made_2 k n z7.1 z7.2.1 z7.2.2.1 (z7.2.2.2.1 + 1) z7.2.2.2.2.1 z7.2.2.2.2.2.1 z7.2.2.2.2.2.2.1 z7.2.2.2.2.2.2.2.1 z7.2.2.2.2.2.2.2.2.1 z7.2.2.2.2.2.2.2.2.2
      else none
    else
      some (texts, (b1_0, (b1_1, (b1_2, (b1_3, (b1_4, b1_5))))))
def LH_tinfo_made_1 : Shp := ⟨[1, 3, 8, 9, 18, 19, 20], 0, 2, 0, (.cons (.cell .str) (.cons (.cell (.sl (.int .i64))) (.cons (.ptr 0 0) (.cons (.ptr 1 0) (.cons (.cell (.sl .str)) (.cons (.cell (.int .i64)) (.cons (.cell (.int .i64)) Sy35)))))))⟩
def LE_tinfo_made_1 : Exits := [(.exit 0, ⟨[1, 3, 8, 9], 0, 2, 0, (.cons (.cell .str) (.cons (.cell (.sl (.int .i64))) (.cons (.ptr 0 0) (.cons (.ptr 1 0) Sy35))))⟩)]
def L_tinfo_made_1 (k : Nat) : Nat → (List UInt8) → (List Int) → (List (List UInt8)) → Int → Int → (List UInt8) → Bool → Ty1 → Ty1 → Ty1 → Ty2 → Option ((List UInt8) × (List Int) × (List UInt8) × Bool × Ty1 × Ty1 × Ty1 × Ty2)
  | 0, _, _, _, _, _, _, _, _, _, _, _ => none
  | n + 1, texts, numbers, t18, t19, t20, b1_0, b1_1, b1_2, b1_3, b1_4, b1_5 =>
    bif decide (t20 < t19) then
      bif inL t20 t18.length then
        (F_tinfo_Set k (b1_0, (b1_1, (b1_2, (b1_3, (b1_4, b1_5))))) (t18.getD (Int.toNat t20) []) (1, (0, []))).bind fun z2 =>
        bif inI (t20 + 1) then
          L_tinfo_made_1 k n texts numbers t18 t19 (t20 + 1) z2.1.1 z2.1.2.1 z2.1.2.2.1 z2.1.2.2.2.1 z2.1.2.2.2.2.1 z2.1.2.2.2.2.2
        else none
      else none
    else
      some (texts, (numbers, (b1_0, (b1_1, (b1_2, (b1_3, (b1_4, b1_5)))))))
def F_tinfo_made (k : Nat) (names : List UInt8) (texts : List UInt8) (flags : List (List UInt8)) (numbers : List Int) : Option Ty3 :=
  (L_tinfo_made_1 k k texts numbers flags (flags.length : Int) 0 names false [] [] [] []).bind fun z3 =>
  (L_tinfo_made_2 k k z3.1 z3.2.1 ([99, 111, 108, 115], ([108, 105, 110, 101, 115], ([105, 116], ([99, 111, 108, 111, 114, 115], [112, 97, 105, 114, 115])))) 0 z3.2.2.1 z3.2.2.2.1 z3.2.2.2.2.1 z3.2.2.2.2.2.1 z3.2.2.2.2.2.2.1 z3.2.2.2.2.2.2.2).bind fun z8 =>
  (F_strings_Split k z8.1 [32]).bind fun z9 =>
  (L_tinfo_made_3 k k z9 0 z8.2.1 z8.2.2.1 z8.2.2.2.1 z8.2.2.2.2.1 z8.2.2.2.2.2.1 z8.2.2.2.2.2.2).bind fun z12 =>
  some z12
def I_tinfo_made : Shp := ⟨[0, 1, 2, 3], 0, 0, 0, (.cons (.cell .str) (.cons (.cell .str) (.cons (.cell (.sl .str)) (.cons (.cell (.sl (.int .i64))) (.cons .any .nil)))))⟩
def E_tinfo_made : Exits := [(.ret, ⟨[], 0, 0, 0, (.cons Sy5 .nil)⟩)]
def C_tinfo_made (k : Nat) : Con := ⟨41, I_tinfo_made, E_tinfo_made, fun z => (fun (z : (List UInt8) × (List UInt8) × (List (List UInt8)) × (List Int)) => F_tinfo_made k z.1 z.2.1 z.2.2.1 z.2.2.2) z⟩
def F_tinfo_Shipped (k : Nat) (name : List UInt8) : Option (Ty3 × Bool) :=
  bif name == [100, 117, 109, 98] then
    (F_tinfo_made k [100, 117, 109, 98, 124, 97, 32, 100, 117, 109, 98, 32, 116, 101, 114, 109, 105, 110, 97, 108] [98, 101, 108, 32, 7, 32, 99, 114, 32, 13, 32, 99, 117, 100, 49, 32, 10, 32, 105, 110, 100, 32, 10] [[97, 109]] [80]).bind fun z1 =>
    some (z1, true)
  else
    bif name == [118, 116, 50, 50, 48] then
      (F_tinfo_made k [118, 116, 50, 50, 48, 124, 118, 116, 50, 48, 48, 124, 97, 32, 86, 84, 50, 50, 48] [98, 101, 108, 32, 7, 32, 99, 114, 32, 13, 32, 99, 117, 100, 49, 32, 10, 32, 105, 110, 100, 32, 10, 32, 99, 117, 98, 49, 32, 8, 32, 99, 117, 102, 49, 32, 27, 91, 67, 32, 99, 117, 117, 49, 32, 27, 91, 65, 32, 104, 111, 109, 101, 32, 27, 91, 72, 32, 99, 108, 101, 97, 114, 32, 27, 91, 72, 27, 91, 74, 32, 101, 108, 32, 27, 91, 75, 32, 101, 100, 32, 27, 91, 74, 32, 99, 117, 112, 32, 27, 91, 37, 105, 37, 112, 49, 37, 100, 59, 37, 112, 50, 37, 100, 72, 32, 99, 115, 114, 32, 27, 91, 37, 105, 37, 112, 49, 37, 100, 59, 37, 112, 50, 37, 100, 114, 32, 100, 99, 104, 49, 32, 27, 91, 80, 32, 100, 99, 104, 32, 27, 91, 37, 112, 49, 37, 100, 80, 32, 100, 108, 49, 32, 27, 91, 77, 32, 100, 108, 32, 27, 91, 37, 112, 49, 37, 100, 77, 32, 105, 108, 49, 32, 27, 91, 76, 32, 105, 108, 32, 27, 91, 37, 112, 49, 37, 100, 76, 32, 105, 99, 104, 32, 27, 91, 37, 112, 49, 37, 100, 64, 32, 101, 99, 104, 32, 27, 91, 37, 112, 49, 37, 100, 88, 32, 115, 109, 105, 114, 32, 27, 91, 52, 104, 32, 114, 109, 105, 114, 32, 27, 91, 52, 108, 32, 99, 117, 117, 32, 27, 91, 37, 112, 49, 37, 100, 65, 32, 99, 117, 100, 32, 27, 91, 37, 112, 49, 37, 100, 66, 32, 99, 117, 102, 32, 27, 91, 37, 112, 49, 37, 100, 67, 32, 99, 117, 98, 32, 27, 91, 37, 112, 49, 37, 100, 68, 32, 115, 103, 114, 48, 32, 27, 91, 109, 32, 114, 101, 118, 32, 27, 91, 55, 109, 32, 98, 111, 108, 100, 32, 27, 91, 49, 109, 32, 115, 109, 117, 108, 32, 27, 91, 52, 109, 32, 114, 109, 117, 108, 32, 27, 91, 50, 52, 109, 32, 114, 105, 32, 27, 77, 32, 115, 99, 32, 27, 55, 32, 114, 99, 32, 27, 56, 32, 110, 101, 108, 32, 27, 69, 32, 99, 110, 111, 114, 109, 32, 27, 91, 63, 50, 53, 104, 32, 99, 105, 118, 105, 115, 32, 27, 91, 63, 50, 53, 108, 32, 107, 99, 117, 98, 49, 32, 27, 91, 68, 32, 107, 99, 117, 102, 49, 32, 27, 91, 67, 32, 107, 99, 117, 117, 49, 32, 27, 91, 65, 32, 107, 99, 117, 100, 49, 32, 27, 91, 66, 32, 107, 100, 99, 104, 49, 32, 27, 91, 51, 126, 32, 107, 104, 111, 109, 101, 32, 27, 91, 49, 126, 32, 107, 101, 110, 100, 32, 27, 91, 52, 126, 32, 107, 98, 115, 32, 8] [[97, 109], [109, 105, 114], [109, 115, 103, 114], [120, 101, 110, 108]] [80, 24, 8]).bind fun z2 =>
      some (z2, true)
    else
      bif name == [120, 116, 101, 114, 109] then
        (F_tinfo_made k [120, 116, 101, 114, 109, 124, 97, 110, 32, 88, 32, 116, 101, 114, 109, 105, 110, 97, 108] [98, 101, 108, 32, 7, 32, 99, 114, 32, 13, 32, 99, 117, 100, 49, 32, 10, 32, 105, 110, 100, 32, 10, 32, 99, 117, 98, 49, 32, 8, 32, 99, 117, 102, 49, 32, 27, 91, 67, 32, 99, 117, 117, 49, 32, 27, 91, 65, 32, 104, 111, 109, 101, 32, 27, 91, 72, 32, 99, 108, 101, 97, 114, 32, 27, 91, 72, 27, 91, 74, 32, 101, 108, 32, 27, 91, 75, 32, 101, 100, 32, 27, 91, 74, 32, 99, 117, 112, 32, 27, 91, 37, 105, 37, 112, 49, 37, 100, 59, 37, 112, 50, 37, 100, 72, 32, 99, 115, 114, 32, 27, 91, 37, 105, 37, 112, 49, 37, 100, 59, 37, 112, 50, 37, 100, 114, 32, 100, 99, 104, 49, 32, 27, 91, 80, 32, 100, 99, 104, 32, 27, 91, 37, 112, 49, 37, 100, 80, 32, 100, 108, 49, 32, 27, 91, 77, 32, 100, 108, 32, 27, 91, 37, 112, 49, 37, 100, 77, 32, 105, 108, 49, 32, 27, 91, 76, 32, 105, 108, 32, 27, 91, 37, 112, 49, 37, 100, 76, 32, 105, 99, 104, 32, 27, 91, 37, 112, 49, 37, 100, 64, 32, 101, 99, 104, 32, 27, 91, 37, 112, 49, 37, 100, 88, 32, 115, 109, 105, 114, 32, 27, 91, 52, 104, 32, 114, 109, 105, 114, 32, 27, 91, 52, 108, 32, 99, 117, 117, 32, 27, 91, 37, 112, 49, 37, 100, 65, 32, 99, 117, 100, 32, 27, 91, 37, 112, 49, 37, 100, 66, 32, 99, 117, 102, 32, 27, 91, 37, 112, 49, 37, 100, 67, 32, 99, 117, 98, 32, 27, 91, 37, 112, 49, 37, 100, 68, 32, 115, 103, 114, 48, 32, 27, 91, 109, 32, 114, 101, 118, 32, 27, 91, 55, 109, 32, 98, 111, 108, 100, 32, 27, 91, 49, 109, 32, 115, 109, 117, 108, 32, 27, 91, 52, 109, 32, 114, 109, 117, 108, 32, 27, 91, 50, 52, 109, 32, 114, 105, 32, 27, 77, 32, 115, 99, 32, 27, 55, 32, 114, 99, 32, 27, 56, 32, 110, 101, 108, 32, 27, 69, 32, 99, 110, 111, 114, 109, 32, 27, 91, 63, 50, 53, 104, 32, 99, 105, 118, 105, 115, 32, 27, 91, 63, 50, 53, 108, 32, 107, 99, 117, 98, 49, 32, 27, 91, 68, 32, 107, 99, 117, 102, 49, 32, 27, 91, 67, 32, 107, 99, 117, 117, 49, 32, 27, 91, 65, 32, 107, 99, 117, 100, 49, 32, 27, 91, 66, 32, 107, 100, 99, 104, 49, 32, 27, 91, 51, 126, 32, 107, 104, 111, 109, 101, 32, 27, 91, 49, 126, 32, 107, 101, 110, 100, 32, 27, 91, 52, 126, 32, 107, 98, 115, 32, 8, 32, 107, 98, 115, 32, 127, 32, 107, 104, 111, 109, 101, 32, 27, 79, 72, 32, 107, 101, 110, 100, 32, 27, 79, 70, 32, 107, 99, 117, 98, 49, 32, 27, 79, 68, 32, 107, 99, 117, 102, 49, 32, 27, 79, 67, 32, 107, 99, 117, 117, 49, 32, 27, 79, 65, 32, 107, 99, 117, 100, 49, 32, 27, 79, 66, 32, 115, 109, 107, 120, 32, 27, 91, 63, 49, 104, 27, 61, 32, 114, 109, 107, 120, 32, 27, 91, 63, 49, 108, 27, 62, 32, 104, 112, 97, 32, 27, 91, 37, 105, 37, 112, 49, 37, 100, 71, 32, 118, 112, 97, 32, 27, 91, 37, 105, 37, 112, 49, 37, 100, 100, 32, 105, 99, 104, 49, 32, 27, 91, 64, 32, 105, 110, 100, 110, 32, 27, 91, 37, 112, 49, 37, 100, 83, 32, 114, 105, 110, 32, 27, 91, 37, 112, 49, 37, 100, 84, 32, 99, 98, 116, 32, 27, 91, 90] [[97, 109], [109, 105, 114], [109, 115, 103, 114], [120, 101, 110, 108]] [80, 24, 8, 8, 64]).bind fun z3 =>
        some (z3, true)
      else
        some (([], (false, ([], ([], ([], []))))), false)
def I_tinfo_Shipped : Shp := ⟨[0], 0, 0, 0, Sy38⟩
def E_tinfo_Shipped : Exits := [(.ret, ⟨[], 0, 0, 0, (.cons (.tupL (.cons Sy5 Sy11)) .nil)⟩)]
def C_tinfo_Shipped (k : Nat) : Con := ⟨20, I_tinfo_Shipped, E_tinfo_Shipped, fun z => (fun (z : List UInt8) => F_tinfo_Shipped k z) z⟩
def F_tinfo_of_1 (k : Nat) (x : Int × (List UInt8) × Int × Int × (List UInt8)) (b0_0 : List UInt8) : Option (Bool × (List UInt8)) :=
  some (x.2.1 == b0_0, b0_0)
def I_tinfo_of_1 : Shp := ⟨[0, 1], 0, 1, 0, (.cons (.agg Ky4) (.cons (.ptr 0 0) (.cons .any Sy24)))⟩
def E_tinfo_of_1 : Exits := [(.ret, ⟨[], 0, 1, 0, (.cons (.cell .bool) Sy24)⟩)]
def C_tinfo_of_1 (k : Nat) : Con := ⟨62, I_tinfo_of_1, E_tinfo_of_1, fun z => (fun (z : Ty6 × (List UInt8)) => F_tinfo_of_1 k z.1 z.2) z⟩
def LH_slices_IndexFunc_Ext_2_1 : Shp := ⟨[0, 1, 7, 8], 0, 1, 0, (.cons Sy7 (.cons (.fn 62 .nil (.cons (.ptr 0 0) .nil)) (.cons (.cell (.int .i64)) (.cons (.cell (.int .i64)) (.cons .any Sy24)))))⟩
def LE_slices_IndexFunc_Ext_2_1 : Exits := [(.exit 0, ⟨[], 0, 1, 0, (.cons .any Sy24)⟩), (.ret, ⟨[4], 0, 1, 0, (.cons (.cell (.int .i64)) (.cons .any Sy24))⟩)]
def L_slices_IndexFunc_Ext_2_1 (k : Nat) : Nat → Ty2 → Int → Int → (List UInt8) → Option ((List UInt8) ⊕ (Int × (List UInt8)))
  | 0, _, _, _, _ => none
  | n + 1, s, t7, t8, b0_0 =>
    bif decide (t8 < t7) then
      bif inL t8 s.length then
        (F_tinfo_of_1 k ((s.getD (Int.toNat t8) (0, ([], (0, (0, []))))).1, (((s.getD (Int.toNat t8) (0, ([], (0, (0, []))))).2).1, ((((s.getD (Int.toNat t8) (0, ([], (0, (0, []))))).2).2).1, ((((s.getD (Int.toNat t8) (0, ([], (0, (0, []))))).2).2).2)))) b0_0).bind fun z2 =>
        bif z2.1 then
          some (Sum.inr (t8, z2.2))
        else
          bif inI (t8 + 1) then
            L_slices_IndexFunc_Ext_2_1 k n s t7 (t8 + 1) z2.2
          else none
      else none
    else
      some (Sum.inl b0_0)
def F_slices_IndexFunc_Ext_2 (k : Nat) (s : List Ty6) (b0_0 : List UInt8) : Option (Int × (List UInt8)) :=
  (L_slices_IndexFunc_Ext_2_1 k k s (s.length : Int) 0 b0_0).bind fun z3 =>
  either z3 (fun z3_1 =>
    some ((-1), z3_1))
    fun z3_2 =>
    some z3_2
def I_slices_IndexFunc_Ext_2 : Shp := ⟨[0, 1], 0, 1, 0, (.cons Sy7 (.cons (.fn 62 .nil (.cons (.ptr 0 0) .nil)) (.cons .any Sy24)))⟩
def E_slices_IndexFunc_Ext_2 : Exits := [(.ret, ⟨[], 0, 1, 0, (.cons (.cell (.int .i64)) Sy24)⟩)]
def C_slices_IndexFunc_Ext_2 (k : Nat) : Con := ⟨61, I_slices_IndexFunc_Ext_2, E_slices_IndexFunc_Ext_2, fun z => (fun (z : Ty2 × (List UInt8)) => F_slices_IndexFunc_Ext_2 k z.1 z.2) z⟩
def F_tinfo_of (k : Nat) (t : (List UInt8) × Bool × Ty1 × Ty1 × Ty1 × Ty2) (name : List UInt8) (kind : Int) : Option (Ty4 × Bool) :=
  (F_tinfo_Place k name).bind fun z1 =>
  (bif !z1.2.2 then
     (F_slices_IndexFunc_Ext_2 k t.2.2.2.2.2 name).bind fun z2 =>
     bif decide (z2.1 < 0) then
       some (Sum.inr ())
     else
       bif inL z2.1 t.2.2.2.2.2.length then
         some (Sum.inl (kind, ((t.2.2.2.2.2.getD (Int.toNat z2.1) (0, ([], (0, (0, []))))).1, (t, z2.2))))
       else none
   else
     some (Sum.inl (kind, (z1.1, (t, name)))) : Option (((Int × Int × Ty3 × (List UInt8)) ⊕ Unit))).bind fun z3 =>
  either z3 (fun z3_1 =>
    (F_tinfo_Get k z3_1.2.2.1 z3_1.2.2.2).bind fun z4 =>
    (bif z3_1.2.1 != z3_1.1 then
       some (true, z4.1)
     else
       some (z4.1.1 != 1, z4.1) : Option (Bool × Int × Int × (List UInt8))).bind fun z5 =>
    bif z5.1 then
      some ((0, (0, [])), false)
    else
      some (z5.2, true))
    fun z3_2 =>
    some ((0, (0, [])), false)
def I_tinfo_of : Shp := ⟨[0, 1, 2], 0, 0, 0, (.cons Sy5 (.cons (.cell .str) Sy15))⟩
def E_tinfo_of : Exits := [(.ret, ⟨[], 0, 0, 0, (.cons (.tupL (.cons (.agg Ky1) Sy11)) .nil)⟩)]
def C_tinfo_of (k : Nat) : Con := ⟨42, I_tinfo_of, E_tinfo_of, fun z => (fun (z : Ty3 × (List UInt8) × Int) => F_tinfo_of k z.1 z.2.1 z.2.2) z⟩
def F_tinfo_Text (k : Nat) (t : (List UInt8) × Bool × Ty1 × Ty1 × Ty1 × Ty2) (name : List UInt8) : Option ((List UInt8) × Bool) :=
  (F_tinfo_of k t name 2).bind fun z1 =>
  some (z1.1.2.2, z1.2)
def I_tinfo_Text : Shp := ⟨[0, 1], 0, 0, 0, (.cons Sy5 Sy38)⟩
def E_tinfo_Text : Exits := [(.ret, ⟨[], 0, 0, 0, (.cons (.tupL (.cons (.cell .str) Sy11)) .nil)⟩)]
def C_tinfo_Text (k : Nat) : Con := ⟨21, I_tinfo_Text, E_tinfo_Text, fun z => (fun (z : Ty3 × (List UInt8)) => F_tinfo_Text k z.1 z.2) z⟩
def F_tinfo_Flag (k : Nat) (t : (List UInt8) × Bool × Ty1 × Ty1 × Ty1 × Ty2) (name : List UInt8) : Option Bool :=
  (F_tinfo_of k t name 0).bind fun z1 =>
  some z1.2
def I_tinfo_Flag : Shp := ⟨[0, 1], 0, 0, 0, (.cons Sy5 Sy38)⟩
def E_tinfo_Flag : Exits := [(.ret, ⟨[], 0, 0, 0, Sy11⟩)]
def C_tinfo_Flag (k : Nat) : Con := ⟨23, I_tinfo_Flag, E_tinfo_Flag, fun z => (fun (z : Ty3 × (List UInt8)) => F_tinfo_Flag k z.1 z.2) z⟩
def LH_tinfo_bare_1 : Shp := ⟨[0], 0, 0, 0, Sy34⟩
def LE_tinfo_bare_1 : Exits := [(.exit 0, ⟨[0], 0, 0, 0, Sy34⟩)]
def L_tinfo_bare_1 (k : Nat) : Nat → Ty1 → Option Ty1
  | 0, _ => none
  | n + 1, l =>
    (bif decide ((l.length : Int) > 0) then
       bif inI ((l.length : Int) - 1) then
         bif inL ((l.length : Int) - 1) l.length then
           some (l, (((l.getD (Int.toNat ((l.length : Int) - 1)) (0, (0, []))).1) == 0) && (((((l.getD (Int.toNat ((l.length : Int) - 1)) (0, (0, []))).2).1) == 0) && ((((l.getD (Int.toNat ((l.length : Int) - 1)) (0, (0, []))).2).2) == [])))
         else none
       else none
     else
       some (l, false) : Option (Ty1 × Bool)).bind fun z1 =>
    bif z1.2 then
      bif inI ((z1.1.length : Int) - 1) then
        bif inR 0 ((z1.1.length : Int) - 1) z1.1.length then
          L_tinfo_bare_1 k n (cut z1.1 0 ((z1.1.length : Int) - 1))
        else none
      else none
    else
      some z1.1
def F_tinfo_bare (k : Nat) (l : List Ty4) : Option Ty1 :=
  (L_tinfo_bare_1 k k l).bind fun z2 =>
  some z2
def I_tinfo_bare : Shp := ⟨[0], 0, 0, 0, Sy34⟩
def E_tinfo_bare : Exits := [(.ret, ⟨[], 0, 0, 0, (.cons (.cell (.sl Ky1)) .nil)⟩)]
def C_tinfo_bare (k : Nat) : Con := ⟨27, I_tinfo_bare, E_tinfo_bare, fun z => (fun (z : List Ty4) => F_tinfo_bare k z) z⟩
def LH_slices_Equal_Cap_1 : Shp := ⟨[0, 1, 12, 13], 0, 0, 0, (.cons (.cell (.sl Ky1)) (.cons (.cell (.sl Ky1)) Sy44))⟩
def LE_slices_Equal_Cap_1 : Exits := [(.exit 0, ⟨[], 0, 0, 0, (.cons .any .nil)⟩), (.ret, ⟨[4], 0, 0, 0, Sy50⟩)]
def L_slices_Equal_Cap_1 (k : Nat) : Nat → Ty1 → Ty1 → Int → Int → Option (Unit ⊕ Unit)
  | 0, _, _, _, _ => none
  | n + 1, s1, s2, t12, t13 =>
    bif decide (t13 < t12) then
      bif inL t13 s1.length then
        bif inL t13 s2.length then
          bif !((((s1.getD (Int.toNat t13) (0, (0, []))).1) == ((s2.getD (Int.toNat t13) (0, (0, []))).1)) && (((((s1.getD (Int.toNat t13) (0, (0, []))).2).1) == (((s2.getD (Int.toNat t13) (0, (0, []))).2).1)) && ((((s1.getD (Int.toNat t13) (0, (0, []))).2).2) == (((s2.getD (Int.toNat t13) (0, (0, []))).2).2)))) then
            some (Sum.inr ())
          else
            bif inI (t13 + 1) then
              L_slices_Equal_Cap_1 k n s1 s2 t12 (t13 + 1)
            else none
        else none
      else none
    else
      some (Sum.inl ())
def F_slices_Equal_Cap (k : Nat) (s1 : List Ty4) (s2 : List Ty4) : Option Bool :=
  bif (s1.length : Int) != (s2.length : Int) then
    some false
  else
    (L_slices_Equal_Cap_1 k k s1 s2 (s1.length : Int) 0).bind fun z1 =>
    either z1 (fun z1_1 =>
      some true)
      fun z1_2 =>
      some false
def I_slices_Equal_Cap : Shp := ⟨[0, 1], 0, 0, 0, (.cons (.cell (.sl Ky1)) Sy34)⟩
def E_slices_Equal_Cap : Exits := [(.ret, ⟨[], 0, 0, 0, Sy11⟩)]
def C_slices_Equal_Cap (k : Nat) : Con := ⟨26, I_slices_Equal_Cap, E_slices_Equal_Cap, fun z => (fun (z : Ty1 × Ty1) => F_slices_Equal_Cap k z.1 z.2) z⟩
def LH_slices_Equal_Ext_1 : Shp := ⟨[0, 1, 12, 13], 0, 0, 0, (.cons Sy7 (.cons Sy7 Sy44))⟩
def LE_slices_Equal_Ext_1 : Exits := [(.exit 0, ⟨[], 0, 0, 0, (.cons .any .nil)⟩), (.ret, ⟨[4], 0, 0, 0, Sy50⟩)]
def L_slices_Equal_Ext_1 (k : Nat) : Nat → Ty2 → Ty2 → Int → Int → Option (Unit ⊕ Unit)
  | 0, _, _, _, _ => none
  | n + 1, s1, s2, t12, t13 =>
    bif decide (t13 < t12) then
      bif inL t13 s1.length then
        bif inL t13 s2.length then
          bif !((((s1.getD (Int.toNat t13) (0, ([], (0, (0, []))))).1) == ((s2.getD (Int.toNat t13) (0, ([], (0, (0, []))))).1)) && (((((s1.getD (Int.toNat t13) (0, ([], (0, (0, []))))).2).1) == (((s2.getD (Int.toNat t13) (0, ([], (0, (0, []))))).2).1)) && ((((((s1.getD (Int.toNat t13) (0, ([], (0, (0, []))))).2).2).1) == ((((s2.getD (Int.toNat t13) (0, ([], (0, (0, []))))).2).2).1)) && (((((((s1.getD (Int.toNat t13) (0, ([], (0, (0, []))))).2).2).2).1) == (((((s2.getD (Int.toNat t13) (0, ([], (0, (0, []))))).2).2).2).1)) && ((((((s1.getD (Int.toNat t13) (0, ([], (0, (0, []))))).2).2).2).2) == (((((s2.getD (Int.toNat t13) (0, ([], (0, (0, []))))).2).2).2).2)))))) then
            some (Sum.inr ())
          else
            bif inI (t13 + 1) then
              L_slices_Equal_Ext_1 k n s1 s2 t12 (t13 + 1)
            else none
        else none
      else none
    else
      some (Sum.inl ())
def F_slices_Equal_Ext (k : Nat) (s1 : List Ty6) (s2 : List Ty6) : Option Bool :=
  bif (s1.length : Int) != (s2.length : Int) then
    some false
  else
    (L_slices_Equal_Ext_1 k k s1 s2 (s1.length : Int) 0).bind fun z1 =>
    either z1 (fun z1_1 =>
      some true)
      fun z1_2 =>
      some false
def I_slices_Equal_Ext : Shp := ⟨[0, 1], 0, 0, 0, (.cons Sy7 (.cons Sy7 (.cons .any .nil)))⟩
def E_slices_Equal_Ext : Exits := [(.ret, ⟨[], 0, 0, 0, Sy11⟩)]
def C_slices_Equal_Ext (k : Nat) : Con := ⟨28, I_slices_Equal_Ext, E_slices_Equal_Ext, fun z => (fun (z : Ty2 × Ty2) => F_slices_Equal_Ext k z.1 z.2) z⟩
def F_tinfo_Same (k : Nat) (a : (List UInt8) × Bool × Ty1 × Ty1 × Ty1 × Ty2) (b : (List UInt8) × Bool × Ty1 × Ty1 × Ty1 × Ty2) : Option Bool :=
  (bif a.1 == b.1 then
     bif a.2.1 == b.2.1 then
       (F_tinfo_bare k a.2.2.1).bind fun z1 =>
       (F_tinfo_bare k b.2.2.1).bind fun z2 =>
       (F_slices_Equal_Cap k z1 z2).bind fun z3 =>
       bif z3 then
         (F_tinfo_bare k a.2.2.2.1).bind fun z4 =>
         (F_tinfo_bare k b.2.2.2.1).bind fun z5 =>
         (F_slices_Equal_Cap k z4 z5).bind fun z6 =>
         bif z6 then
           (F_tinfo_bare k a.2.2.2.2.1).bind fun z7 =>
           (F_tinfo_bare k b.2.2.2.2.1).bind fun z8 =>
           (F_slices_Equal_Cap k z7 z8).bind fun z9 =>
           bif z9 then
             (F_slices_Equal_Ext k a.2.2.2.2.2 b.2.2.2.2.2).bind fun z10 =>
             some z10
           else
             some false
         else
           some false
       else
         some false
     else
       some false
   else
     some false : Option (Bool)).bind fun z11 =>
  some z11
def I_tinfo_Same : Shp := ⟨[0, 1], 0, 0, 0, (.cons Sy5 Sy42)⟩
def E_tinfo_Same : Exits := [(.ret, ⟨[], 0, 0, 0, Sy11⟩)]
def C_tinfo_Same (k : Nat) : Con := ⟨8, I_tinfo_Same, E_tinfo_Same, fun z => (fun (z : Ty3 × (List UInt8) × Bool × Ty1 × Ty1 × Ty1 × Ty2) => F_tinfo_Same k z.1 z.2) z⟩
def F_lanyardlaw03_live (k : Nat) : Option Bool :=
  (F_tinfo_Shipped k [118, 116, 50, 50, 48]).bind fun z1 =>
  (F_tinfo_Text k z1.1 [99, 117, 112]).bind fun z2 =>
  (F_tinfo_Place k [99, 117, 112]).bind fun z3 =>
  (bif z1.2 then
     bif z2.2 then
       bif z2.1 == [27, 91, 37, 105, 37, 112, 49, 37, 100, 59, 37, 112, 50, 37, 100, 72] then
         bif z3.1 == 2 then
           bif z3.2.1 == 10 then
             bif z3.2.2 then
               (F_tinfo_Flag k z1.1 [97, 109]).bind fun z4 =>
               bif z4 then
                 (F_tinfo_Same k z1.1 z1.1).bind fun z5 =>
                 some z5
               else
                 some false
             else
               some false
           else
             some false
         else
           some false
       else
         some false
     else
       some false
   else
     some false : Option (Bool)).bind fun z6 =>
  some z6
def I_lanyardlaw03_live : Shp := ⟨[], 0, 0, 0, (.cons .any .nil)⟩
def E_lanyardlaw03_live : Exits := [(.ret, ⟨[], 0, 0, 0, Sy11⟩)]
def C_lanyardlaw03_live (k : Nat) : Con := ⟨6, I_lanyardlaw03_live, E_lanyardlaw03_live, fun _ => F_lanyardlaw03_live k⟩
def F_tinfo_give (k : Nat) (at_ : Int) (e : Int) : Option (Int × Int) :=
  some (at_, e)
def I_tinfo_give : Shp := ⟨[0, 1], 0, 0, 0, Sy44⟩
def E_tinfo_give : Exits := [(.panic, ⟨[], 0, 0, 0, (.cons (.ifc 63 (.agg Ky3)) .nil)⟩)]
def C_tinfo_give (k : Nat) : Con := ⟨46, I_tinfo_give, E_tinfo_give, fun z => (fun (z : Int × Int) => F_tinfo_give k z.1 z.2) z⟩
def F_tinfo_reader_need (k : Nat) (n_ : Int) (b0_0 : List Int) (b0_1 : Int) (b0_2 : Bool) : Option (((List Int) × Int × Bool) ⊕ Ty7) :=
  bif inI ((b0_0.length : Int) - b0_1) then
    bif decide (n_ > ((b0_0.length : Int) - b0_1)) then
      (F_tinfo_give k (b0_0.length : Int) 31).bind fun z1 =>
      some (Sum.inr (z1, (b0_0, (b0_1, b0_2))))
    else
      some (Sum.inl (b0_0, (b0_1, b0_2)))
  else none
def I_tinfo_reader_need : Shp := ⟨[0, 1], 0, 1, 0, (.cons (.ptr 0 0) Sy21)⟩
def E_tinfo_reader_need : Exits := [(.ret, ⟨[], 0, 1, 0, (.cons (.tupL .nil) (.cons Sy3 .nil))⟩), (.panic, ⟨[], 0, 1, 0, Sy13⟩)]
def C_tinfo_reader_need (k : Nat) : Con := ⟨44, I_tinfo_reader_need, E_tinfo_reader_need, fun z => (fun (z : Int × (List Int) × Int × Bool) => F_tinfo_reader_need k z.1 z.2.1 z.2.2.1 z.2.2.2) z⟩
def F_tinfo_reader_short (k : Nat) (at_ : Int) (b0_0 : List Int) (b0_1 : Int) (b0_2 : Bool) : Option (Int × (List Int) × Int × Bool) :=
  bif inL at_ b0_0.length then
    bif inI (at_ + 1) then
      bif inL (at_ + 1) b0_0.length then
        some (IntKind.wrap .i64 (IntKind.wrap .i16 (bOr .u16 (IntKind.wrap .u16 (b0_0.getD (Int.toNat at_) 0)) (IntKind.wrap .u16 (IntKind.wrap .u16 (b0_0.getD (Int.toNat (at_ + 1)) 0) * (2 ^ (min (Int.toNat 8) (IntKind.bits .u16))))))), (b0_0, (b0_1, b0_2)))
      else none
    else none
  else none
def I_tinfo_reader_short : Shp := ⟨[0, 1], 0, 1, 0, (.cons (.ptr 0 0) Sy21)⟩
def E_tinfo_reader_short : Exits := [(.ret, ⟨[], 0, 1, 0, (.cons (.cell (.int .i64)) (.cons Sy3 .nil))⟩)]
def C_tinfo_reader_short (k : Nat) : Con := ⟨45, I_tinfo_reader_short, E_tinfo_reader_short, fun z => (fun (z : Int × (List Int) × Int × Bool) => F_tinfo_reader_short k z.1 z.2.1 z.2.2.1 z.2.2.2) z⟩
def F_tinfo_reader_lay (k : Nat) (p : Int × Int × Int × Int × Int × Int × Int × Int × Int × Int × Int × Int) (names : Int) (b0_0 : List Int) (b0_1 : Int) (b0_2 : Bool) : Option ((Ty5 × (List Int) × Int × Bool) ⊕ Ty7) :=
  (bif b0_2 then
     some (names, (4, ((b0_0, (b0_1, b0_2)), p)))
   else
     some (names, (2, ((b0_0, (b0_1, b0_2)), p))) : Option (Int × Int × ((List Int) × Int × Bool) × Int × Int × Int × Int × Int × Int × Int × Int × Int × Int × Int × Int)).bind fun z1 =>
  bif inI (z1.2.2.1.2.1 + z1.1) then
    bif inI ((z1.2.2.1.2.1 + z1.1) + z1.2.2.2.2.2.2.2.2.2.2.1) then
      bif inI (((z1.2.2.1.2.1 + z1.1) + z1.2.2.2.2.2.2.2.2.2.2.1) + (Int.tmod ((z1.2.2.1.2.1 + z1.1) + z1.2.2.2.2.2.2.2.2.2.2.1) 2)) then
        bif inI (z1.2.2.2.2.2.2.2.2.2.2.2.1 * z1.2.1) then
          bif inI ((((z1.2.2.1.2.1 + z1.1) + z1.2.2.2.2.2.2.2.2.2.2.1) + (Int.tmod ((z1.2.2.1.2.1 + z1.1) + z1.2.2.2.2.2.2.2.2.2.2.1) 2)) + (z1.2.2.2.2.2.2.2.2.2.2.2.1 * z1.2.1)) then
            bif inI (z1.2.2.2.2.2.2.2.2.2.2.2.2.1 * 2) then
              bif inI (((((z1.2.2.1.2.1 + z1.1) + z1.2.2.2.2.2.2.2.2.2.2.1) + (Int.tmod ((z1.2.2.1.2.1 + z1.1) + z1.2.2.2.2.2.2.2.2.2.2.1) 2)) + (z1.2.2.2.2.2.2.2.2.2.2.2.1 * z1.2.1)) + (z1.2.2.2.2.2.2.2.2.2.2.2.2.1 * 2)) then
                bif inI (z1.2.2.2.2.2.2.2.2.2.2.2.2.2.1 * 2) then
                  bif inI ((((((z1.2.2.1.2.1 + z1.1) + z1.2.2.2.2.2.2.2.2.2.2.1) + (Int.tmod ((z1.2.2.1.2.1 + z1.1) + z1.2.2.2.2.2.2.2.2.2.2.1) 2)) + (z1.2.2.2.2.2.2.2.2.2.2.2.1 * z1.2.1)) + (z1.2.2.2.2.2.2.2.2.2.2.2.2.1 * 2)) + (z1.2.2.2.2.2.2.2.2.2.2.2.2.2.1 * 2)) then
                    bif inI (((((((z1.2.2.1.2.1 + z1.1) + z1.2.2.2.2.2.2.2.2.2.2.1) + (Int.tmod ((z1.2.2.1.2.1 + z1.1) + z1.2.2.2.2.2.2.2.2.2.2.1) 2)) + (z1.2.2.2.2.2.2.2.2.2.2.2.1 * z1.2.1)) + (z1.2.2.2.2.2.2.2.2.2.2.2.2.1 * 2)) + (z1.2.2.2.2.2.2.2.2.2.2.2.2.2.1 * 2)) + z1.2.2.2.2.2.2.2.2.2.2.2.2.2.2) then
                      bif inI ((((((((z1.2.2.1.2.1 + z1.1) + z1.2.2.2.2.2.2.2.2.2.2.1) + (Int.tmod ((z1.2.2.1.2.1 + z1.1) + z1.2.2.2.2.2.2.2.2.2.2.1) 2)) + (z1.2.2.2.2.2.2.2.2.2.2.2.1 * z1.2.1)) + (z1.2.2.2.2.2.2.2.2.2.2.2.2.1 * 2)) + (z1.2.2.2.2.2.2.2.2.2.2.2.2.2.1 * 2)) + z1.2.2.2.2.2.2.2.2.2.2.2.2.2.2) - z1.2.2.1.2.1) then
                        (F_tinfo_reader_need k ((((((((z1.2.2.1.2.1 + z1.1) + z1.2.2.2.2.2.2.2.2.2.2.1) + (Int.tmod ((z1.2.2.1.2.1 + z1.1) + z1.2.2.2.2.2.2.2.2.2.2.1) 2)) + (z1.2.2.2.2.2.2.2.2.2.2.2.1 * z1.2.1)) + (z1.2.2.2.2.2.2.2.2.2.2.2.2.1 * 2)) + (z1.2.2.2.2.2.2.2.2.2.2.2.2.2.1 * 2)) + z1.2.2.2.2.2.2.2.2.2.2.2.2.2.2) - z1.2.2.1.2.1) z1.2.2.1.1 z1.2.2.1.2.1 z1.2.2.1.2.2).bind fun z2 =>
                        either z2 (fun z2_1 =>
                          some (Sum.inl ((z1.2.2.1.2.1, (z1.2.2.1.2.1 + z1.1, (((z1.2.2.1.2.1 + z1.1) + z1.2.2.2.2.2.2.2.2.2.2.1) + (Int.tmod ((z1.2.2.1.2.1 + z1.1) + z1.2.2.2.2.2.2.2.2.2.2.1) 2), ((((z1.2.2.1.2.1 + z1.1) + z1.2.2.2.2.2.2.2.2.2.2.1) + (Int.tmod ((z1.2.2.1.2.1 + z1.1) + z1.2.2.2.2.2.2.2.2.2.2.1) 2)) + (z1.2.2.2.2.2.2.2.2.2.2.2.1 * z1.2.1), (((((z1.2.2.1.2.1 + z1.1) + z1.2.2.2.2.2.2.2.2.2.2.1) + (Int.tmod ((z1.2.2.1.2.1 + z1.1) + z1.2.2.2.2.2.2.2.2.2.2.1) 2)) + (z1.2.2.2.2.2.2.2.2.2.2.2.1 * z1.2.1)) + (z1.2.2.2.2.2.2.2.2.2.2.2.2.1 * 2), ((((((z1.2.2.1.2.1 + z1.1) + z1.2.2.2.2.2.2.2.2.2.2.1) + (Int.tmod ((z1.2.2.1.2.1 + z1.1) + z1.2.2.2.2.2.2.2.2.2.2.1) 2)) + (z1.2.2.2.2.2.2.2.2.2.2.2.1 * z1.2.1)) + (z1.2.2.2.2.2.2.2.2.2.2.2.2.1 * 2)) + (z1.2.2.2.2.2.2.2.2.2.2.2.2.2.1 * 2), (((((((z1.2.2.1.2.1 + z1.1) + z1.2.2.2.2.2.2.2.2.2.2.1) + (Int.tmod ((z1.2.2.1.2.1 + z1.1) + z1.2.2.2.2.2.2.2.2.2.2.1) 2)) + (z1.2.2.2.2.2.2.2.2.2.2.2.1 * z1.2.1)) + (z1.2.2.2.2.2.2.2.2.2.2.2.2.1 * 2)) + (z1.2.2.2.2.2.2.2.2.2.2.2.2.2.1 * 2)) + z1.2.2.2.2.2.2.2.2.2.2.2.2.2.2, z1.2.2.2.2.2.2.2.2.2.2))))))), (z2_1.1, (((((((z1.2.2.1.2.1 + z1.1) + z1.2.2.2.2.2.2.2.2.2.2.1) + (Int.tmod ((z1.2.2.1.2.1 + z1.1) + z1.2.2.2.2.2.2.2.2.2.2.1) 2)) + (z1.2.2.2.2.2.2.2.2.2.2.2.1 * z1.2.1)) + (z1.2.2.2.2.2.2.2.2.2.2.2.2.1 * 2)) + (z1.2.2.2.2.2.2.2.2.2.2.2.2.2.1 * 2)) + z1.2.2.2.2.2.2.2.2.2.2.2.2.2.2, z2_1.2.2)))))
                          fun z2_2 =>
                          some (Sum.inr z2_2)
                      else none
                    else none
                  else none
                else none
              else none
            else none
          else none
        else none
      else none
    else none
  else none
def I_tinfo_reader_lay : Shp := ⟨[0, 1, 2], 0, 1, 0, (.cons (.ptr 0 0) (.cons Sy9 Sy21))⟩
def E_tinfo_reader_lay : Exits := [(.ret, ⟨[], 0, 1, 0, (.cons Sy9 (.cons Sy3 .nil))⟩), (.panic, ⟨[], 0, 1, 0, Sy13⟩)]
def C_tinfo_reader_lay (k : Nat) : Con := ⟨47, I_tinfo_reader_lay, E_tinfo_reader_lay, fun z => (fun (z : Ty5 × Int × (List Int) × Int × Bool) => F_tinfo_reader_lay k z.1 z.2.1 z.2.2.1 z.2.2.2.1 z.2.2.2.2) z⟩
def LH_tinfo_reader_flagList_1 : Shp := ⟨[0, 3, 5, 9, 10], 0, 2, 1, (.cons (.ptr 0 0) (.cons (.ptr 1 0) (.cons (.rs 0) Sy36)))⟩
def LE_tinfo_reader_flagList_1 : Exits := [(.exit 0, ⟨[5], 0, 1, 1, (.cons (.rs 0) (.cons .any (.cons Sy3 (.cons Sy10 .nil))))⟩)]
def L_tinfo_reader_flagList_1 (k : Nat) : Nat → Int → Int → (List Int) → Int → Bool → Int → Int → Int → Int → Int → Int → Int → Int → Int → Int → Int → Int → Ty1 → Option (((List Int) × Int × Bool) × Ty1)
  | 0, _, _, _, _, _, _, _, _, _, _, _, _, _, _, _, _, _, _ => none
  | n + 1, t9, t10, b0_0, b0_1, b0_2, b1_0, b1_1, b1_2, b1_3, b1_4, b1_5, b1_6, b1_7, b1_8, b1_9, b1_10, b1_11, w0 =>
    bif decide (t10 < t9) then
      (bif inI (b1_1 + t10) then
         bif inL (b1_1 + t10) b0_0.length then
           bif (b0_0.getD (Int.toNat (b1_1 + t10)) 0) == 0 then
             some (t9, (t10, ((b0_0, (b0_1, b0_2)), ((b1_0, (b1_1, (b1_2, (b1_3, (b1_4, (b1_5, (b1_6, (b1_7, (b1_8, (b1_9, (b1_10, b1_11))))))))))), (0, w0)))))
           else
             bif (b0_0.getD (Int.toNat (b1_1 + t10)) 0) == 254 then
               some (t9, (t10, ((b0_0, (b0_1, b0_2)), ((b1_0, (b1_1, (b1_2, (b1_3, (b1_4, (b1_5, (b1_6, (b1_7, (b1_8, (b1_9, (b1_10, b1_11))))))))))), (2, w0)))))
             else
               some (t9, (t10, ((b0_0, (b0_1, b0_2)), ((b1_0, (b1_1, (b1_2, (b1_3, (b1_4, (b1_5, (b1_6, (b1_7, (b1_8, (b1_9, (b1_10, b1_11))))))))))), (1, w0)))))
         else none
       else none : Option (Int × Int × ((List Int) × Int × Bool) × Ty5 × Int × Ty1)).bind fun z2 =>
      bif room ((z2.2.2.2.2.2.length + ([(z2.2.2.2.2.1, (0, []))] : List Ty4).length) * 32) then
        bif inI (z2.2.1 + 1) then
          L_tinfo_reader_flagList_1 k n z2.1 (z2.2.1 + 1) z2.2.2.1.1 z2.2.2.1.2.1 z2.2.2.1.2.2 z2.2.2.2.1.1 z2.2.2.2.1.2.1 z2.2.2.2.1.2.2.1 z2.2.2.2.1.2.2.2.1 z2.2.2.2.1.2.2.2.2.1 z2.2.2.2.1.2.2.2.2.2.1 z2.2.2.2.1.2.2.2.2.2.2.1 z2.2.2.2.1.2.2.2.2.2.2.2.1 z2.2.2.2.1.2.2.2.2.2.2.2.2.1 z2.2.2.2.1.2.2.2.2.2.2.2.2.2.1 z2.2.2.2.1.2.2.2.2.2.2.2.2.2.2.1 z2.2.2.2.1.2.2.2.2.2.2.2.2.2.2.2 (z2.2.2.2.2.2 ++ [(z2.2.2.2.2.1, (0, []))])
        else none
      else none
    else
      some ((b0_0, (b0_1, b0_2)), w0)
def F_tinfo_reader_flagList (k : Nat) (p : Int × Int × Int × Int × Int × Int × Int × Int × Int × Int × Int × Int) (b0_0 : List Int) (b0_1 : Int) (b0_2 : Bool) : Option (Ty1 × (List Int) × Int × Bool) :=
  (L_tinfo_reader_flagList_1 k k p.2.2.2.2.2.2.2.1 0 b0_0 b0_1 b0_2 p.1 p.2.1 p.2.2.1 p.2.2.2.1 p.2.2.2.2.1 p.2.2.2.2.2.1 p.2.2.2.2.2.2.1 p.2.2.2.2.2.2.2.1 p.2.2.2.2.2.2.2.2.1 p.2.2.2.2.2.2.2.2.2.1 p.2.2.2.2.2.2.2.2.2.2.1 p.2.2.2.2.2.2.2.2.2.2.2 []).bind fun z3 =>
  some (z3.2, z3.1)
def I_tinfo_reader_flagList : Shp := ⟨[0, 1], 0, 1, 0, (.cons (.ptr 0 0) (.cons Sy9 Sy43))⟩
def E_tinfo_reader_flagList : Exits := [(.ret, ⟨[], 0, 1, 0, (.cons (.cell (.sl Ky1)) (.cons Sy3 .nil))⟩)]
def C_tinfo_reader_flagList (k : Nat) : Con := ⟨48, I_tinfo_reader_flagList, E_tinfo_reader_flagList, fun z => (fun (z : Ty5 × (List Int) × Int × Bool) => F_tinfo_reader_flagList k z.1 z.2.1 z.2.2.1 z.2.2.2) z⟩
def F_tinfo_reader_number (k : Nat) (at_ : Int) (b0_0 : List Int) (b0_1 : Int) (b0_2 : Bool) : Option (Int × (List Int) × Int × Bool) :=
  bif !b0_2 then
    (F_tinfo_reader_short k at_ b0_0 b0_1 b0_2).bind fun z1 =>
    some z1
  else
    bif inL at_ b0_0.length then
      bif inI (at_ + 1) then
        bif inL (at_ + 1) b0_0.length then
          bif inI (at_ + 2) then
            bif inL (at_ + 2) b0_0.length then
              bif inI (at_ + 3) then
                bif inL (at_ + 3) b0_0.length then
                  some (IntKind.wrap .i64 (IntKind.wrap .i32 (bOr .u32 (bOr .u32 (bOr .u32 (IntKind.wrap .u32 (b0_0.getD (Int.toNat at_) 0)) (IntKind.wrap .u32 (IntKind.wrap .u32 (b0_0.getD (Int.toNat (at_ + 1)) 0) * (2 ^ (min (Int.toNat 8) (IntKind.bits .u32)))))) (IntKind.wrap .u32 (IntKind.wrap .u32 (b0_0.getD (Int.toNat (at_ + 2)) 0) * (2 ^ (min (Int.toNat 16) (IntKind.bits .u32)))))) (IntKind.wrap .u32 (IntKind.wrap .u32 (b0_0.getD (Int.toNat (at_ + 3)) 0) * (2 ^ (min (Int.toNat 24) (IntKind.bits .u32))))))), (b0_0, (b0_1, b0_2)))
                else none
              else none
            else none
          else none
        else none
      else none
    else none
def I_tinfo_reader_number : Shp := ⟨[0, 1], 0, 1, 0, (.cons (.ptr 0 0) Sy21)⟩
def E_tinfo_reader_number : Exits := [(.ret, ⟨[], 0, 1, 0, (.cons (.cell (.int .i64)) (.cons Sy3 .nil))⟩)]
def C_tinfo_reader_number (k : Nat) : Con := ⟨64, I_tinfo_reader_number, E_tinfo_reader_number, fun z => (fun (z : Int × (List Int) × Int × Bool) => F_tinfo_reader_number k z.1 z.2.1 z.2.2.1 z.2.2.2) z⟩
def F_tinfo_state (k : Nat) (n_ : Int) : Option Int :=
  bif decide (n_ ≥ 0) then
    some 1
  else
    bif n_ == (-2) then
      some 2
    else
      some 0
def I_tinfo_state : Shp := ⟨[0], 0, 0, 0, Sy15⟩
def E_tinfo_state : Exits := [(.ret, ⟨[], 0, 0, 0, Sy23⟩)]
def C_tinfo_state (k : Nat) : Con := ⟨65, I_tinfo_state, E_tinfo_state, fun z => (fun (z : Int) => F_tinfo_state k z) z⟩
def LH_tinfo_reader_numberList_1 : Shp := ⟨[0, 3, 5, 6, 14, 15], 0, 2, 1, (.cons (.ptr 0 0) (.cons (.ptr 1 0) (.cons (.rs 0) (.cons (.cell (.int .i64)) Sy36))))⟩
def LE_tinfo_reader_numberList_1 : Exits := [(.exit 0, ⟨[5], 0, 1, 1, (.cons (.rs 0) (.cons .any (.cons Sy3 (.cons Sy10 .nil))))⟩)]
def L_tinfo_reader_numberList_1 (k : Nat) : Nat → Int → Int → Int → (List Int) → Int → Bool → Int → Int → Int → Int → Int → Int → Int → Int → Int → Int → Int → Int → Ty1 → Option (((List Int) × Int × Bool) × Ty1)
  | 0, _, _, _, _, _, _, _, _, _, _, _, _, _, _, _, _, _, _, _ => none
  | n + 1, size, t14, t15, b0_0, b0_1, b0_2, b1_0, b1_1, b1_2, b1_3, b1_4, b1_5, b1_6, b1_7, b1_8, b1_9, b1_10, b1_11, w0 =>
    bif decide (t15 < t14) then
      bif inI (t15 * size) then
        bif inI (b1_2 + (t15 * size)) then
          (F_tinfo_reader_number k (b1_2 + (t15 * size)) b0_0 b0_1 b0_2).bind fun z4 =>
          (F_tinfo_state k z4.1).bind fun z5 =>
          bif room ((w0.length + ([(z5, ((bif decide ((0 : Int) > z4.1) then (0 : Int) else z4.1), []))] : List Ty4).length) * 32) then
            bif inI (t15 + 1) then
              L_tinfo_reader_numberList_1 k n size t14 (t15 + 1) z4.2.1 z4.2.2.1 z4.2.2.2 b1_0 b1_1 b1_2 b1_3 b1_4 b1_5 b1_6 b1_7 b1_8 b1_9 b1_10 b1_11 (w0 ++ [(z5, ((bif decide ((0 : Int) > z4.1) then (0 : Int) else z4.1), []))])
            else none
          else none
        else none
      else none
    else
      some ((b0_0, (b0_1, b0_2)), w0)
def F_tinfo_reader_numberList (k : Nat) (p : Int × Int × Int × Int × Int × Int × Int × Int × Int × Int × Int × Int) (b0_0 : List Int) (b0_1 : Int) (b0_2 : Bool) : Option (Ty1 × (List Int) × Int × Bool) :=
  (bif b0_2 then
     some (4, ((b0_0, (b0_1, b0_2)), p))
   else
     some (2, ((b0_0, (b0_1, b0_2)), p)) : Option (Int × ((List Int) × Int × Bool) × Int × Int × Int × Int × Int × Int × Int × Int × Int × Int × Int × Int)).bind fun z1 =>
  (L_tinfo_reader_numberList_1 k k z1.1 z1.2.2.2.2.2.2.2.2.2.2.1 0 z1.2.1.1 z1.2.1.2.1 z1.2.1.2.2 z1.2.2.1 z1.2.2.2.1 z1.2.2.2.2.1 z1.2.2.2.2.2.1 z1.2.2.2.2.2.2.1 z1.2.2.2.2.2.2.2.1 z1.2.2.2.2.2.2.2.2.1 z1.2.2.2.2.2.2.2.2.2.1 z1.2.2.2.2.2.2.2.2.2.2.1 z1.2.2.2.2.2.2.2.2.2.2.2.1 z1.2.2.2.2.2.2.2.2.2.2.2.2.1 z1.2.2.2.2.2.2.2.2.2.2.2.2.2 []).bind fun z6 =>
  some (z6.2, z6.1)
def I_tinfo_reader_numberList : Shp := ⟨[0, 1], 0, 1, 0, (.cons (.ptr 0 0) (.cons Sy9 Sy43))⟩
def E_tinfo_reader_numberList : Exits := [(.ret, ⟨[], 0, 1, 0, (.cons (.cell (.sl Ky1)) (.cons Sy3 .nil))⟩)]
def C_tinfo_reader_numberList (k : Nat) : Con := ⟨49, I_tinfo_reader_numberList, E_tinfo_reader_numberList, fun z => (fun (z : Ty5 × (List Int) × Int × Bool) => F_tinfo_reader_numberList k z.1 z.2.1 z.2.2.1 z.2.2.2) z⟩
def F_tinfo_reader_text (k : Nat) (p : Int × Int × Int × Int × Int × Int × Int × Int × Int × Int × Int × Int) (from_ : Int) (field : Int) (b0_0 : List Int) (b0_1 : Int) (b0_2 : Bool) : Option (((List UInt8) × (List Int) × Int × Bool) ⊕ Ty7) :=
  (bif decide (from_ < 0) then
     some (from_, (field, (true, ((b0_0, (b0_1, b0_2)), p))))
   else
     some (from_, (field, (decide (from_ > p.2.2.2.2.2.2.2.2.2.2.2), ((b0_0, (b0_1, b0_2)), p)))) : Option (Int × Int × Bool × ((List Int) × Int × Bool) × Int × Int × Int × Int × Int × Int × Int × Int × Int × Int × Int × Int)).bind fun z1 =>
  bif z1.2.2.1 then
    (F_tinfo_give k z1.2.1 33).bind fun z2 =>
    some (Sum.inr (z2, z1.2.2.2.1))
  else
    bif inI (z1.2.2.2.2.2.2.2.2.2.1 + z1.1) then
      bif inR (z1.2.2.2.2.2.2.2.2.2.1 + z1.1) z1.2.2.2.2.2.2.2.2.2.2.1 z1.2.2.2.1.1.length then
        (F_bytes_IndexByte k (cut z1.2.2.2.1.1 (z1.2.2.2.2.2.2.2.2.2.1 + z1.1) z1.2.2.2.2.2.2.2.2.2.2.1) 0).bind fun z3 =>
        (bif decide (z3 < 0) then
           some (z1.2.1, (cut z1.2.2.2.1.1 (z1.2.2.2.2.2.2.2.2.2.1 + z1.1) z1.2.2.2.2.2.2.2.2.2.2.1, (z3, (true, z1.2.2.2.1))))
         else
           some (z1.2.1, (cut z1.2.2.2.1.1 (z1.2.2.2.2.2.2.2.2.2.1 + z1.1) z1.2.2.2.2.2.2.2.2.2.2.1, (z3, (decide (z3 > 1000), z1.2.2.2.1)))) : Option (Int × (List Int) × Int × Bool × (List Int) × Int × Bool)).bind fun z4 =>
        bif z4.2.2.2.1 then
          (F_tinfo_give k z4.1 33).bind fun z5 =>
          some (Sum.inr (z5, z4.2.2.2.2))
        else
          bif inR 0 z4.2.2.1 z4.2.1.length then
            some (Sum.inl (List.map (fun n : Int => UInt8.ofNat n.toNat) (cut z4.2.1 0 z4.2.2.1), z4.2.2.2.2))
          else none
      else none
    else none
def I_tinfo_reader_text : Shp := ⟨[0, 1, 2, 3], 0, 1, 0, (.cons (.ptr 0 0) (.cons Sy9 (.cons (.cell (.int .i64)) Sy21)))⟩
def E_tinfo_reader_text : Exits := [(.ret, ⟨[], 0, 1, 0, (.cons (.cell .str) (.cons Sy3 .nil))⟩), (.panic, ⟨[], 0, 1, 0, Sy13⟩)]
def C_tinfo_reader_text (k : Nat) : Con := ⟨66, I_tinfo_reader_text, E_tinfo_reader_text, fun z => (fun (z : Ty5 × Int × Int × (List Int) × Int × Bool) => F_tinfo_reader_text k z.1 z.2.1 z.2.2.1 z.2.2.2.1 z.2.2.2.2.1 z.2.2.2.2.2) z⟩
def LH_tinfo_reader_textList_1 : Shp := ⟨[0, 3, 6, 7, 8, 14, 15], 0, 2, 1, (.cons (.ptr 0 0) (.cons (.ptr 1 0) (.cons (.rs 0) (.cons (.cell (.int .i64)) (.cons (.cell (.int .i64)) Sy36)))))⟩
def LE_tinfo_reader_textList_1 : Exits := [(.exit 0, ⟨[6, 8], 0, 1, 1, (.cons (.rs 0) (.cons (.cell (.int .i64)) (.cons .any (.cons Sy3 (.cons Sy10 .nil)))))⟩), (.panic, ⟨[], 0, 1, 0, Sy13⟩)]
def L_tinfo_reader_textList_1 (k : Nat) : Nat → Int → Int → Int → Int → (List Int) → Int → Bool → Int → Int → Int → Int → Int → Int → Int → Int → Int → Int → Int → Int → Ty1 → Option ((Int × ((List Int) × Int × Bool) × Ty1) ⊕ Ty7)
  | 0, _, _, _, _, _, _, _, _, _, _, _, _, _, _, _, _, _, _, _, _ => none
  | n + 1, last, behind, t14, t15, b0_0, b0_1, b0_2, b1_0, b1_1, b1_2, b1_3, b1_4, b1_5, b1_6, b1_7, b1_8, b1_9, b1_10, b1_11, w0 =>
    bif decide (t15 < t14) then
      bif inI (t15 * 2) then
        bif inI (b1_3 + (t15 * 2)) then
          (F_tinfo_reader_short k (b1_3 + (t15 * 2)) b0_0 b0_1 b0_2).bind fun z5 =>
          (F_tinfo_state k z5.1).bind fun z6 =>
          (bif z6 == 1 then
             (F_tinfo_reader_text k (b1_0, (b1_1, (b1_2, (b1_3, (b1_4, (b1_5, (b1_6, (b1_7, (b1_8, (b1_9, (b1_10, b1_11))))))))))) z5.1 (b1_3 + (t15 * 2)) z5.2.1 z5.2.2.1 z5.2.2.2).bind fun z7 =>
             either z7 (fun z7_1 =>
               bif decide (z5.1 > last) then
                 bif inI (z5.1 + (z7_1.1.length : Int)) then
                   bif inI ((z5.1 + (z7_1.1.length : Int)) + 1) then
                     some (Sum.inl (z5.1, ((z5.1 + (z7_1.1.length : Int)) + 1, (t14, (t15, (z7_1.2, ((b1_0, (b1_1, (b1_2, (b1_3, (b1_4, (b1_5, (b1_6, (b1_7, (b1_8, (b1_9, (b1_10, b1_11))))))))))), ((z6, z7_1.1), w0))))))))
                   else none
                 else none
               else
                 some (Sum.inl (last, (behind, (t14, (t15, (z7_1.2, ((b1_0, (b1_1, (b1_2, (b1_3, (b1_4, (b1_5, (b1_6, (b1_7, (b1_8, (b1_9, (b1_10, b1_11))))))))))), ((z6, z7_1.1), w0)))))))))
               fun z7_2 =>
               some (Sum.inr z7_2)
           else
             some (Sum.inl (last, (behind, (t14, (t15, (z5.2, ((b1_0, (b1_1, (b1_2, (b1_3, (b1_4, (b1_5, (b1_6, (b1_7, (b1_8, (b1_9, (b1_10, b1_11))))))))))), ((z6, []), w0)))))))) : Option (((Int × Int × Int × Int × ((List Int) × Int × Bool) × Ty5 × (Int × (List UInt8)) × Ty1) ⊕ Ty7))).bind fun z8 =>
          either z8 (fun z8_1 =>
            bif room ((z8_1.2.2.2.2.2.2.2.length + ([(z8_1.2.2.2.2.2.2.1.1, (0, z8_1.2.2.2.2.2.2.1.2))] : List Ty4).length) * 32) then
              bif inI (z8_1.2.2.2.1 + 1) then
                L_tinfo_reader_textList_1 k n z8_1.1 z8_1.2.1 z8_1.2.2.1 (z8_1.2.2.2.1 + 1) z8_1.2.2.2.2.1.1 z8_1.2.2.2.2.1.2.1 z8_1.2.2.2.2.1.2.2 z8_1.2.2.2.2.2.1.1 z8_1.2.2.2.2.2.1.2.1 z8_1.2.2.2.2.2.1.2.2.1 z8_1.2.2.2.2.2.1.2.2.2.1 z8_1.2.2.2.2.2.1.2.2.2.2.1 z8_1.2.2.2.2.2.1.2.2.2.2.2.1 z8_1.2.2.2.2.2.1.2.2.2.2.2.2.1 z8_1.2.2.2.2.2.1.2.2.2.2.2.2.2.1 z8_1.2.2.2.2.2.1.2.2.2.2.2.2.2.2.1 z8_1.2.2.2.2.2.1.2.2.2.2.2.2.2.2.2.1 z8_1.2.2.2.2.2.1.2.2.2.2.2.2.2.2.2.2.1 z8_1.2.2.2.2.2.1.2.2.2.2.2.2.2.2.2.2.2 (z8_1.2.2.2.2.2.2.2 ++ [(z8_1.2.2.2.2.2.2.1.1, (0, z8_1.2.2.2.2.2.2.1.2))])
              else none
            else none)
            fun z8_2 =>
            some (Sum.inr z8_2)
        else none
      else none
    else
      some (Sum.inl (behind, ((b0_0, (b0_1, b0_2)), w0)))
def F_tinfo_reader_textList (k : Nat) (p : Int × Int × Int × Int × Int × Int × Int × Int × Int × Int × Int × Int) (b0_0 : List Int) (b0_1 : Int) (b0_2 : Bool) : Option (((Ty1 × Int) × (List Int) × Int × Bool) ⊕ Ty7) :=
  (L_tinfo_reader_textList_1 k k (-1) 0 p.2.2.2.2.2.2.2.2.2.1 0 b0_0 b0_1 b0_2 p.1 p.2.1 p.2.2.1 p.2.2.2.1 p.2.2.2.2.1 p.2.2.2.2.2.1 p.2.2.2.2.2.2.1 p.2.2.2.2.2.2.2.1 p.2.2.2.2.2.2.2.2.1 p.2.2.2.2.2.2.2.2.2.1 p.2.2.2.2.2.2.2.2.2.2.1 p.2.2.2.2.2.2.2.2.2.2.2 []).bind fun z9 =>
  either z9 (fun z9_1 =>
    some (Sum.inl ((z9_1.2.2, z9_1.1), z9_1.2.1)))
    fun z9_2 =>
    some (Sum.inr z9_2)
def I_tinfo_reader_textList : Shp := ⟨[0, 1], 0, 1, 0, (.cons (.ptr 0 0) (.cons Sy9 Sy43))⟩
def E_tinfo_reader_textList : Exits := [(.ret, ⟨[], 0, 1, 0, (.cons (.tupL (.cons (.cell (.sl Ky1)) Sy23)) (.cons Sy3 .nil))⟩), (.panic, ⟨[], 0, 1, 0, Sy13⟩)]
def C_tinfo_reader_textList (k : Nat) : Con := ⟨50, I_tinfo_reader_textList, E_tinfo_reader_textList, fun z => (fun (z : Ty5 × (List Int) × Int × Bool) => F_tinfo_reader_textList k z.1 z.2.1 z.2.2.1 z.2.2.2) z⟩
def LH_tinfo_reader_extended_4 : Shp := ⟨[0, 7, 13, 14, 15, 16, 130, 131, 135, 136, 137], 0, 3, 1, (.cons (.ptr 0 0) (.cons (.ptr 1 0) (.cons (.cell (.int .i64)) (.cons (.rs 0) (.cons (.mp 2) (.cons (.cell (.int .i64)) (.cons Sy25 (.cons (.cell (.int .i64)) (.cons (.cell (.sl Ky1)) (.cons (.cell (.int .i64)) Sy27))))))))))⟩
def LE_tinfo_reader_extended_4 : Exits := [(.exit 6, ⟨[0, 7, 13, 14, 15, 130, 131], 0, 3, 1, (.cons (.ptr 0 0) (.cons (.ptr 1 0) (.cons (.cell (.int .i64)) (.cons (.rs 0) (.cons (.mp 2) (.cons Sy25 Sy27))))))⟩), (.panic, ⟨[], 0, 1, 0, Sy13⟩)]
def L_tinfo_reader_extended_4 (k : Nat) : Nat → Int → Int → (Ty1 × Ty1 × Ty1) → Int → Ty1 → Int → Int → (List Int) → Int → Bool → Int → Int → Int → Int → Int → Int → Int → Int → Int → Int → Int → Int → Ty9 → Ty2 → Option ((Int × (Ty1 × Ty1 × Ty1) × Int × ((List Int) × Int × Bool) × Ty5 × Ty9 × Ty2) ⊕ Ty7)
  | 0, _, _, _, _, _, _, _, _, _, _, _, _, _, _, _, _, _, _, _, _, _, _, _, _ => none
  | n + 1, behind, kind, t130, t131, t135, t136, t137, b0_0, b0_1, b0_2, b1_0, b1_1, b1_2, b1_3, b1_4, b1_5, b1_6, b1_7, b1_8, b1_9, b1_10, b1_11, b2, w0 =>
    bif decide (t137 < t136) then
      bif inL t137 t135.length then
        bif inI (2 * (w0.length : Int)) then
          bif inI (b1_4 + (2 * (w0.length : Int))) then
            (F_tinfo_reader_short k (b1_4 + (2 * (w0.length : Int))) b0_0 b0_1 b0_2).bind fun z44 =>
            bif decide (z44.1 < 0) then
              (F_tinfo_give k (b1_4 + (2 * (w0.length : Int))) 33).bind fun z45 =>
              some (Sum.inr (z45, z44.2))
            else
              bif inI (behind + z44.1) then
                (F_tinfo_reader_text k (b1_0, (b1_1, (b1_2, (b1_3, (b1_4, (b1_5, (b1_6, (b1_7, (b1_8, (b1_9, (b1_10, b1_11))))))))))) (behind + z44.1) (b1_4 + (2 * (w0.length : Int))) z44.2.1 z44.2.2.1 z44.2.2.2).bind fun z46 =>
                either z46 (fun z46_1 =>
                  (F_tinfo_Place k z46_1.1).bind fun z47 =>
                  bif inI ((sget (0 : Int) b2 z46_1.1) + 1) then
                    (bif z46_1.1 == [] then
                       some (behind, (kind, (b1_4 + (2 * (w0.length : Int)), (z46_1.1, (t130, (t131, (t135, (t136, (t137, (true, (z46_1.2, ((b1_0, (b1_1, (b1_2, (b1_3, (b1_4, (b1_5, (b1_6, (b1_7, (b1_8, (b1_9, (b1_10, b1_11))))))))))), (sput b2 z46_1.1 ((sget (0 : Int) b2 z46_1.1) + 1), (((t135.getD (Int.toNat t137) (0, (0, []))).1, ((t135.getD (Int.toNat t137) (0, (0, []))).2)), w0))))))))))))))
                     else
                       bif decide ((sget (0 : Int) (sput b2 z46_1.1 ((sget (0 : Int) b2 z46_1.1) + 1)) z46_1.1) > 1) then
                         some (behind, (kind, (b1_4 + (2 * (w0.length : Int)), (z46_1.1, (t130, (t131, (t135, (t136, (t137, (true, (z46_1.2, ((b1_0, (b1_1, (b1_2, (b1_3, (b1_4, (b1_5, (b1_6, (b1_7, (b1_8, (b1_9, (b1_10, b1_11))))))))))), (sput b2 z46_1.1 ((sget (0 : Int) b2 z46_1.1) + 1), (((t135.getD (Int.toNat t137) (0, (0, []))).1, ((t135.getD (Int.toNat t137) (0, (0, []))).2)), w0))))))))))))))
                       else
                         some (behind, (kind, (b1_4 + (2 * (w0.length : Int)), (z46_1.1, (t130, (t131, (t135, (t136, (t137, (z47.2.2, (z46_1.2, ((b1_0, (b1_1, (b1_2, (b1_3, (b1_4, (b1_5, (b1_6, (b1_7, (b1_8, (b1_9, (b1_10, b1_11))))))))))), (sput b2 z46_1.1 ((sget (0 : Int) b2 z46_1.1) + 1), (((t135.getD (Int.toNat t137) (0, (0, []))).1, ((t135.getD (Int.toNat t137) (0, (0, []))).2)), w0)))))))))))))) : Option (Int × Int × Int × (List UInt8) × (Ty1 × Ty1 × Ty1) × Int × Ty1 × Int × Int × Bool × ((List Int) × Int × Bool) × Ty5 × Ty9 × Ty4 × Ty2)).bind fun z48 =>
                    bif z48.2.2.2.2.2.2.2.2.2.1 then
                      (F_tinfo_give k z48.2.2.1 33).bind fun z49 =>
                      some (Sum.inr (z49, z48.2.2.2.2.2.2.2.2.2.2.1))
                    else
                      bif room ((z48.2.2.2.2.2.2.2.2.2.2.2.2.2.2.length + ([(z48.2.1, (z48.2.2.2.1, z48.2.2.2.2.2.2.2.2.2.2.2.2.2.1))] : List Ty6).length) * 56) then
                        bif inI (z48.2.2.2.2.2.2.2.2.1 + 1) then
                          L_tinfo_reader_extended_4 k n z48.1 z48.2.1 z48.2.2.2.2.1 z48.2.2.2.2.2.1 z48.2.2.2.2.2.2.1 z48.2.2.2.2.2.2.2.1 (z48.2.2.2.2.2.2.2.2.1 + 1) z48.2.2.2.2.2.2.2.2.2.2.1.1 z48.2.2.2.2.2.2.2.2.2.2.1.2.1 z48.2.2.2.2.2.2.2.2.2.2.1.2.2 z48.2.2.2.2.2.2.2.2.2.2.2.1.1 z48.2.2.2.2.2.2.2.2.2.2.2.1.2.1 z48.2.2.2.2.2.2.2.2.2.2.2.1.2.2.1 z48.2.2.2.2.2.2.2.2.2.2.2.1.2.2.2.1 z48.2.2.2.2.2.2.2.2.2.2.2.1.2.2.2.2.1 z48.2.2.2.2.2.2.2.2.2.2.2.1.2.2.2.2.2.1 z48.2.2.2.2.2.2.2.2.2.2.2.1.2.2.2.2.2.2.1 z48.2.2.2.2.2.2.2.2.2.2.2.1.2.2.2.2.2.2.2.1 z48.2.2.2.2.2.2.2.2.2.2.2.1.2.2.2.2.2.2.2.2.1 z48.2.2.2.2.2.2.2.2.2.2.2.1.2.2.2.2.2.2.2.2.2.1 z48.2.2.2.2.2.2.2.2.2.2.2.1.2.2.2.2.2.2.2.2.2.2.1 z48.2.2.2.2.2.2.2.2.2.2.2.1.2.2.2.2.2.2.2.2.2.2.2 z48.2.2.2.2.2.2.2.2.2.2.2.2.1 (z48.2.2.2.2.2.2.2.2.2.2.2.2.2.2 ++ [(z48.2.1, (z48.2.2.2.1, z48.2.2.2.2.2.2.2.2.2.2.2.2.2.1))])
                        else none
                      else none
                  else none)
                  fun z46_2 =>
                  some (Sum.inr z46_2)
              else none
          else none
        else none
      else none
    else
      some (Sum.inl (behind, (t130, (t131, ((b0_0, (b0_1, b0_2)), ((b1_0, (b1_1, (b1_2, (b1_3, (b1_4, (b1_5, (b1_6, (b1_7, (b1_8, (b1_9, (b1_10, b1_11))))))))))), (b2, w0)))))))
def LH_tinfo_reader_extended_3 : Shp := ⟨[0, 7, 13, 14, 15, 130, 131], 0, 3, 1, (.cons (.ptr 0 0) (.cons (.ptr 1 0) (.cons (.cell (.int .i64)) (.cons (.rs 0) (.cons (.mp 2) (.cons Sy25 Sy27))))))⟩
def LE_tinfo_reader_extended_3 : Exits := [(.exit 4, ⟨[0, 14], 0, 1, 1, (.cons (.ptr 0 0) (.cons (.rs 0) (.cons .any (.cons Sy3 Sy55))))⟩), (.panic, ⟨[], 0, 1, 0, Sy13⟩)]
def L_tinfo_reader_extended_3 (k : Nat) : Nat → Int → (Ty1 × Ty1 × Ty1) → Int → (List Int) → Int → Bool → Int → Int → Int → Int → Int → Int → Int → Int → Int → Int → Int → Int → Ty9 → Ty2 → Option ((((List Int) × Int × Bool) × Ty2) ⊕ Ty7)
  | 0, _, _, _, _, _, _, _, _, _, _, _, _, _, _, _, _, _, _, _, _ => none
  | n + 1, behind, t130, t131, b0_0, b0_1, b0_2, b1_0, b1_1, b1_2, b1_3, b1_4, b1_5, b1_6, b1_7, b1_8, b1_9, b1_10, b1_11, b2, w0 =>
    bif decide (t131 < 3) then
      bif inL t131 3 then
        (L_tinfo_reader_extended_4 k k behind t131 t130 t131 (([t130.1, t130.2.1, t130.2.2] : List Ty1).getD (Int.toNat t131) []) ((([t130.1, t130.2.1, t130.2.2] : List Ty1).getD (Int.toNat t131) []).length : Int) 0 b0_0 b0_1 b0_2 b1_0 b1_1 b1_2 b1_3 b1_4 b1_5 b1_6 b1_7 b1_8 b1_9 b1_10 b1_11 b2 w0).bind fun z50 =>
        either z50 (fun z50_1 =>
          bif inI (z50_1.2.2.1 + 1) then
            L_tinfo_reader_extended_3 k n z50_1.1 z50_1.2.1 (z50_1.2.2.1 + 1) z50_1.2.2.2.1.1 z50_1.2.2.2.1.2.1 z50_1.2.2.2.1.2.2 z50_1.2.2.2.2.1.1 z50_1.2.2.2.2.1.2.1 z50_1.2.2.2.2.1.2.2.1 z50_1.2.2.2.2.1.2.2.2.1 z50_1.2.2.2.2.1.2.2.2.2.1 z50_1.2.2.2.2.1.2.2.2.2.2.1 z50_1.2.2.2.2.1.2.2.2.2.2.2.1 z50_1.2.2.2.2.1.2.2.2.2.2.2.2.1 z50_1.2.2.2.2.1.2.2.2.2.2.2.2.2.1 z50_1.2.2.2.2.1.2.2.2.2.2.2.2.2.2.1 z50_1.2.2.2.2.1.2.2.2.2.2.2.2.2.2.2.1 z50_1.2.2.2.2.1.2.2.2.2.2.2.2.2.2.2.2 z50_1.2.2.2.2.2.1 z50_1.2.2.2.2.2.2
          else none)
          fun z50_2 =>
          some (Sum.inr z50_2)
      else none
    else
      some (Sum.inl ((b0_0, (b0_1, b0_2)), w0))
def LH_tinfo_reader_extended_2 : Shp := ⟨[0, 3, 7, 8, 90, 91], 0, 2, 0, (.cons (.ptr 0 0) (.cons (.cell (.int .i64)) (.cons (.ptr 1 0) (.cons (.cell (.int .i64)) (.cons (.cell (.int .i64)) Sy39)))))⟩
def LE_tinfo_reader_extended_2 : Exits := [(.exit 2, ⟨[0, 3, 7, 8], 0, 2, 0, (.cons (.ptr 0 0) (.cons (.cell (.int .i64)) (.cons (.ptr 1 0) Sy39)))⟩)]
def L_tinfo_reader_extended_2 (k : Nat) : Nat → Int → Int → Int → Int → (List Int) → Int → Bool → Int → Int → Int → Int → Int → Int → Int → Int → Int → Int → Int → Int → Option (Int × Int × ((List Int) × Int × Bool) × Int × Int × Int × Int × Int × Int × Int × Int × Int × Int × Int × Int)
  | 0, _, _, _, _, _, _, _, _, _, _, _, _, _, _, _, _, _, _, _ => none
  | n + 1, from_, there, t90, t91, b0_0, b0_1, b0_2, b1_0, b1_1, b1_2, b1_3, b1_4, b1_5, b1_6, b1_7, b1_8, b1_9, b1_10, b1_11 =>
    bif decide (t91 < t90) then
      (bif inI (2 * t91) then
         bif inI (b1_3 + (2 * t91)) then
           (F_tinfo_reader_short k (b1_3 + (2 * t91)) b0_0 b0_1 b0_2).bind fun z17 =>
           bif decide (z17.1 ≥ 0) then
             bif inI (there + 1) then
               some (from_, (there + 1, (t90, (t91, (z17.2, (b1_0, (b1_1, (b1_2, (b1_3, (b1_4, (b1_5, (b1_6, (b1_7, (b1_8, (b1_9, (b1_10, b1_11))))))))))))))))
             else none
           else
             some (from_, (there, (t90, (t91, (z17.2, (b1_0, (b1_1, (b1_2, (b1_3, (b1_4, (b1_5, (b1_6, (b1_7, (b1_8, (b1_9, (b1_10, b1_11))))))))))))))))
         else none
       else none : Option (Int × Int × Int × Int × ((List Int) × Int × Bool) × Int × Int × Int × Int × Int × Int × Int × Int × Int × Int × Int × Int)).bind fun z18 =>
      bif inI (z18.2.2.2.1 + 1) then
        L_tinfo_reader_extended_2 k n z18.1 z18.2.1 z18.2.2.1 (z18.2.2.2.1 + 1) z18.2.2.2.2.1.1 z18.2.2.2.2.1.2.1 z18.2.2.2.2.1.2.2 z18.2.2.2.2.2.1 z18.2.2.2.2.2.2.1 z18.2.2.2.2.2.2.2.1 z18.2.2.2.2.2.2.2.2.1 z18.2.2.2.2.2.2.2.2.2.1 z18.2.2.2.2.2.2.2.2.2.2.1 z18.2.2.2.2.2.2.2.2.2.2.2.1 z18.2.2.2.2.2.2.2.2.2.2.2.2.1 z18.2.2.2.2.2.2.2.2.2.2.2.2.2.1 z18.2.2.2.2.2.2.2.2.2.2.2.2.2.2.1 z18.2.2.2.2.2.2.2.2.2.2.2.2.2.2.2.1 z18.2.2.2.2.2.2.2.2.2.2.2.2.2.2.2.2
      else none
    else
      some (from_, (there, ((b0_0, (b0_1, b0_2)), (b1_0, (b1_1, (b1_2, (b1_3, (b1_4, (b1_5, (b1_6, (b1_7, (b1_8, (b1_9, (b1_10, b1_11))))))))))))))
def LH_tinfo_reader_extended_1 : Shp := ⟨[0, 3, 4, 32], 0, 1, 0, (.cons (.ptr 0 0) (.cons (.cell (.int .i64)) (.cons (.cell (.int .i64)) Sy21)))⟩
def LE_tinfo_reader_extended_1 : Exits := [(.exit 0, ⟨[0, 3, 4], 0, 1, 0, (.cons (.ptr 0 0) (.cons (.cell (.int .i64)) Sy21))⟩), (.panic, ⟨[], 0, 1, 0, Sy13⟩)]
def L_tinfo_reader_extended_1 (k : Nat) : Nat → Int → Int → Int → (List Int) → Int → Bool → Option ((Int × Int × (List Int) × Int × Bool) ⊕ Ty7)
  | 0, _, _, _, _, _, _ => none
  | n + 1, from_, sum, t32, b0_0, b0_1, b0_2 =>
    bif decide (t32 < 5) then
      bif inI (2 * t32) then
        bif inI (from_ + (2 * t32)) then
          (F_tinfo_reader_short k (from_ + (2 * t32)) b0_0 b0_1 b0_2).bind fun z5 =>
          (bif decide (t32 < 3) then
             bif inI (sum + z5.1) then
               some (from_, (sum + z5.1, (t32, (z5.1, (t32, z5.2)))))
             else none
           else
             some (from_, (sum, (t32, (z5.1, (t32, z5.2))))) : Option (Int × Int × Int × Int × Int × (List Int) × Int × Bool)).bind fun z6 =>
          (bif decide (z6.2.2.2.1 < 0) then
             some (z6.1, (z6.2.1, (z6.2.2.1, (z6.2.2.2.2.1, (true, z6.2.2.2.2.2)))))
           else
             bif z6.2.2.1 == 2 then
               some (z6.1, (z6.2.1, (z6.2.2.1, (z6.2.2.2.2.1, (decide (z6.2.1 > 256), z6.2.2.2.2.2)))))
             else
               some (z6.1, (z6.2.1, (z6.2.2.1, (z6.2.2.2.2.1, (false, z6.2.2.2.2.2))))) : Option (Int × Int × Int × Int × Bool × (List Int) × Int × Bool)).bind fun z7 =>
          bif z7.2.2.2.2.1 then
            bif inI (2 * z7.2.2.1) then
              bif inI (z7.1 + (2 * z7.2.2.1)) then
                (F_tinfo_give k (z7.1 + (2 * z7.2.2.1)) 32).bind fun z8 =>
                some (Sum.inr (z8, z7.2.2.2.2.2))
              else none
            else none
          else
            bif inI (z7.2.2.2.1 + 1) then
              L_tinfo_reader_extended_1 k n z7.1 z7.2.1 (z7.2.2.2.1 + 1) z7.2.2.2.2.2.1 z7.2.2.2.2.2.2.1 z7.2.2.2.2.2.2.2
            else none
        else none
      else none
    else
      some (Sum.inl (from_, (sum, (b0_0, (b0_1, b0_2)))))
def F_tinfo_reader_extended (k : Nat) (b0_0 : List Int) (b0_1 : Int) (b0_2 : Bool) : Option ((Ty2 × (List Int) × Int × Bool) ⊕ Ty7) :=
  (F_tinfo_reader_need k 10 b0_0 b0_1 b0_2).bind fun z1 =>
  either z1 (fun z1_1 =>
    (L_tinfo_reader_extended_1 k k b0_1 0 0 z1_1.1 z1_1.2.1 z1_1.2.2).bind fun z9 =>
    either z9 (fun z9_1 =>
      bif inI (z9_1.2.2.2.1 + 10) then
        (F_tinfo_reader_short k z9_1.1 z9_1.2.2.1 (z9_1.2.2.2.1 + 10) z9_1.2.2.2.2).bind fun z10 =>
        bif inI (z9_1.1 + 2) then
          (F_tinfo_reader_short k (z9_1.1 + 2) z10.2.1 z10.2.2.1 z10.2.2.2).bind fun z11 =>
          bif inI (z9_1.1 + 4) then
            (F_tinfo_reader_short k (z9_1.1 + 4) z11.2.1 z11.2.2.1 z11.2.2.2).bind fun z12 =>
            bif inI (z9_1.1 + 8) then
              (F_tinfo_reader_short k (z9_1.1 + 8) z12.2.1 z12.2.2.1 z12.2.2.2).bind fun z13 =>
              (F_tinfo_reader_lay k (0, (0, (0, (0, (0, (0, (0, (z10.1, (z11.1, (z12.1, (z9_1.2.1, z13.1))))))))))) 0 z13.2.1 z13.2.2.1 z13.2.2.2).bind fun z14 =>
              either z14 (fun z14_1 =>
                (L_tinfo_reader_extended_2 k k z9_1.1 z9_1.2.1 z14_1.1.2.2.2.2.2.2.2.2.2.1 0 z14_1.2.1 z14_1.2.2.1 z14_1.2.2.2 z14_1.1.1 z14_1.1.2.1 z14_1.1.2.2.1 z14_1.1.2.2.2.1 z14_1.1.2.2.2.2.1 z14_1.1.2.2.2.2.2.1 z14_1.1.2.2.2.2.2.2.1 z14_1.1.2.2.2.2.2.2.2.1 z14_1.1.2.2.2.2.2.2.2.2.1 z14_1.1.2.2.2.2.2.2.2.2.2.1 z14_1.1.2.2.2.2.2.2.2.2.2.2.1 z14_1.1.2.2.2.2.2.2.2.2.2.2.2).bind fun z19 =>
                bif inI (z19.1 + 6) then
                  (F_tinfo_reader_short k (z19.1 + 6) z19.2.2.1.1 z19.2.2.1.2.1 z19.2.2.1.2.2).bind fun z20 =>
                  bif z20.1 != z19.2.1 then
                    bif inI (z19.1 + 6) then
                      (F_tinfo_give k (z19.1 + 6) 32).bind fun z21 =>
                      some (Sum.inr (z21, z20.2))
                    else none
                  else
                    (F_tinfo_reader_flagList k z19.2.2.2 z20.2.1 z20.2.2.1 z20.2.2.2).bind fun z22 =>
                    (F_tinfo_reader_numberList k z19.2.2.2 z22.2.1 z22.2.2.1 z22.2.2.2).bind fun z23 =>
                    (F_tinfo_reader_textList k z19.2.2.2 z23.2.1 z23.2.2.1 z23.2.2.2).bind fun z24 =>
                    either z24 (fun z24_1 =>
                      (L_tinfo_reader_extended_3 k k z24_1.1.2 (z22.1, (z23.1, z24_1.1.1)) 0 z24_1.2.1 z24_1.2.2.1 z24_1.2.2.2 z19.2.2.2.1 z19.2.2.2.2.1 z19.2.2.2.2.2.1 z19.2.2.2.2.2.2.1 z19.2.2.2.2.2.2.2.1 z19.2.2.2.2.2.2.2.2.1 z19.2.2.2.2.2.2.2.2.2.1 z19.2.2.2.2.2.2.2.2.2.2.1 z19.2.2.2.2.2.2.2.2.2.2.2.1 z19.2.2.2.2.2.2.2.2.2.2.2.2.1 z19.2.2.2.2.2.2.2.2.2.2.2.2.2.1 z19.2.2.2.2.2.2.2.2.2.2.2.2.2.2 ([] : List ((List UInt8) × Int)) []).bind fun z51 =>
                      either z51 (fun z51_1 =>
                        bif decide (z51_1.1.2.1 < (z51_1.1.1.length : Int)) then
                          (F_tinfo_give k z51_1.1.2.1 34).bind fun z52 =>
                          some (Sum.inr (z52, z51_1.1))
                        else
                          some (Sum.inl (z51_1.2, z51_1.1)))
                        fun z51_2 =>
                        some (Sum.inr z51_2))
                      fun z24_2 =>
                      some (Sum.inr z24_2)
                else none)
                fun z14_2 =>
                some (Sum.inr z14_2)
            else none
          else none
        else none
      else none)
      fun z9_2 =>
      some (Sum.inr z9_2))
    fun z1_2 =>
    some (Sum.inr z1_2)
def I_tinfo_reader_extended : Shp := ⟨[0], 0, 1, 0, (.cons (.ptr 0 0) Sy43)⟩
def E_tinfo_reader_extended : Exits := [(.ret, ⟨[], 0, 1, 0, (.cons Sy7 (.cons Sy3 .nil))⟩), (.panic, ⟨[], 0, 1, 0, Sy13⟩)]
def C_tinfo_reader_extended (k : Nat) : Con := ⟨51, I_tinfo_reader_extended, E_tinfo_reader_extended, fun z => (fun (z : (List Int) × Int × Bool) => F_tinfo_reader_extended k z.1 z.2.1 z.2.2) z⟩
def LH_tinfo_reader_entry_1 : Shp := ⟨[0, 2, 28, 29], 0, 2, 0, (.cons (.ptr 0 0) (.cons (.ptr 1 0) (.cons (.agg Ky2) (.cons (.cell (.int .i64)) Sy52))))⟩
def LE_tinfo_reader_entry_1 : Exits := [(.exit 0, ⟨[0, 2], 0, 2, 0, (.cons (.ptr 0 0) (.cons (.ptr 1 0) Sy52))⟩), (.panic, ⟨[], 0, 1, 0, Sy13⟩)]
def L_tinfo_reader_entry_1 (k : Nat) : Nat → (Int × Int × Int × Int × Int) → Int → (List Int) → Int → Bool → Option (((List Int) × Int × Bool) ⊕ Ty7)
  | 0, _, _, _, _, _ => none
  | n + 1, t28, t29, b0_0, b0_1, b0_2 =>
    bif decide (t29 < 5) then
      bif inL t29 5 then
        bif inI (2 * t29) then
          bif inI (2 + (2 * t29)) then
            (F_tinfo_reader_short k (2 + (2 * t29)) b0_0 b0_1 b0_2).bind fun z8 =>
            (bif decide (z8.1 < 0) then
               some (t29, (t28, (t29, (true, z8.2))))
             else
               bif decide (z8.1 > (([t28.1, t28.2.1, t28.2.2.1, t28.2.2.2.1, t28.2.2.2.2] : List Int).getD (Int.toNat t29) 0)) then
                 some (t29, (t28, (t29, (true, z8.2))))
               else
                 bif t29 == 0 then
                   some (t29, (t28, (t29, (z8.1 == 0, z8.2))))
                 else
                   some (t29, (t28, (t29, (false, z8.2)))) : Option (Int × (Int × Int × Int × Int × Int) × Int × Bool × (List Int) × Int × Bool)).bind fun z9 =>
            bif z9.2.2.2.1 then
              bif inI (2 * z9.1) then
                bif inI (2 + (2 * z9.1)) then
                  (F_tinfo_give k (2 + (2 * z9.1)) 32).bind fun z10 =>
                  some (Sum.inr (z10, z9.2.2.2.2))
                else none
              else none
            else
              bif inI (z9.2.2.1 + 1) then
                L_tinfo_reader_entry_1 k n z9.2.1 (z9.2.2.1 + 1) z9.2.2.2.2.1 z9.2.2.2.2.2.1 z9.2.2.2.2.2.2
              else none
          else none
        else none
      else none
    else
      some (Sum.inl (b0_0, (b0_1, b0_2)))
def F_tinfo_reader_entry (k : Nat) (b0_0 : List Int) (b0_1 : Int) (b0_2 : Bool) : Option ((Ty3 × (List Int) × Int × Bool) ⊕ Ty7) :=
  (F_tinfo_reader_need k 12 b0_0 b0_1 b0_2).bind fun z1 =>
  either z1 (fun z1_1 =>
    (F_tinfo_reader_short k 0 z1_1.1 z1_1.2.1 z1_1.2.2).bind fun z2 =>
    (bif z2.1 != 282 then
       some (z2.1, (z2.1 != 542, z2.2))
     else
       some (z2.1, (false, z2.2)) : Option (Int × Bool × (List Int) × Int × Bool)).bind fun z3 =>
    bif z3.2.1 then
      (F_tinfo_give k 0 30).bind fun z4 =>
      some (Sum.inr (z4, z3.2.2))
    else
      (L_tinfo_reader_entry_1 k k (512, (64, (64, (512, 32767)))) 0 z3.2.2.1 z3.2.2.2.1 (z3.1 == 542)).bind fun z11 =>
      either z11 (fun z11_1 =>
        (F_tinfo_reader_short k 2 z11_1.1 12 z11_1.2.2).bind fun z12 =>
        (F_tinfo_reader_short k 4 z12.2.1 z12.2.2.1 z12.2.2.2).bind fun z13 =>
        (F_tinfo_reader_short k 6 z13.2.1 z13.2.2.1 z13.2.2.2).bind fun z14 =>
        (F_tinfo_reader_short k 8 z14.2.1 z14.2.2.1 z14.2.2.2).bind fun z15 =>
        (F_tinfo_reader_short k 10 z15.2.1 z15.2.2.1 z15.2.2.2).bind fun z16 =>
        (F_tinfo_reader_lay k (0, (0, (0, (0, (0, (0, (0, (z13.1, (z14.1, (z15.1, (0, z16.1))))))))))) z12.1 z16.2.1 z16.2.2.1 z16.2.2.2).bind fun z17 =>
        either z17 (fun z17_1 =>
          bif inR z17_1.1.1 z17_1.1.2.1 z17_1.2.1.length then
            (bif decide (z12.1 < 2) then
               some (z12.1, (List.map (fun n : Int => UInt8.ofNat n.toNat) (cut z17_1.2.1 z17_1.1.1 z17_1.1.2.1), (true, (z17_1.2, z17_1.1))))
             else
               (F_strings_IndexByte k (List.map (fun n : Int => UInt8.ofNat n.toNat) (cut z17_1.2.1 z17_1.1.1 z17_1.1.2.1)) 0).bind fun z18 =>
               bif inI (z12.1 - 1) then
                 some (z12.1, (List.map (fun n : Int => UInt8.ofNat n.toNat) (cut z17_1.2.1 z17_1.1.1 z17_1.1.2.1), (z18 != (z12.1 - 1), (z17_1.2, z17_1.1))))
               else none : Option (Int × (List UInt8) × Bool × ((List Int) × Int × Bool) × Int × Int × Int × Int × Int × Int × Int × Int × Int × Int × Int × Int)).bind fun z19 =>
            bif z19.2.2.1 then
              (F_tinfo_give k z19.2.2.2.2.1 33).bind fun z20 =>
              some (Sum.inr (z20, z19.2.2.2.1))
            else
              bif inI (z19.1 - 1) then
                bif inR 0 (z19.1 - 1) z19.2.1.length then
                  (F_tinfo_reader_flagList k z19.2.2.2.2 z19.2.2.2.1.1 z19.2.2.2.1.2.1 z19.2.2.2.1.2.2).bind fun z21 =>
                  (F_tinfo_reader_numberList k z19.2.2.2.2 z21.2.1 z21.2.2.1 z21.2.2.2).bind fun z22 =>
                  (F_tinfo_reader_textList k z19.2.2.2.2 z22.2.1 z22.2.2.1 z22.2.2.2).bind fun z23 =>
                  either z23 (fun z23_1 =>
                    bif inI ((z23_1.2.1.length : Int) - z23_1.2.2.1) then
                      (bif ((z23_1.2.1.length : Int) - z23_1.2.2.1) == 0 then
                         some (true, (z23_1.2, (cut z19.2.1 0 (z19.1 - 1), (z19.2.2.2.1.2.2, (z21.1, (z22.1, z23_1.1.1))))))
                       else
                         bif ((z23_1.2.1.length : Int) - z23_1.2.2.1) == 1 then
                           some ((Int.tmod z23_1.2.2.1 2) == 1, (z23_1.2, (cut z19.2.1 0 (z19.1 - 1), (z19.2.2.2.1.2.2, (z21.1, (z22.1, z23_1.1.1))))))
                         else
                           some (false, (z23_1.2, (cut z19.2.1 0 (z19.1 - 1), (z19.2.2.2.1.2.2, (z21.1, (z22.1, z23_1.1.1)))))) : Option (Bool × ((List Int) × Int × Bool) × (List UInt8) × Bool × Ty1 × Ty1 × Ty1)).bind fun z24 =>
                      bif z24.1 then
                        some (Sum.inl ((z24.2.2.1, (z24.2.2.2.1, (z24.2.2.2.2.1, (z24.2.2.2.2.2.1, (z24.2.2.2.2.2.2, []))))), z24.2.1))
                      else
                        bif inI (z24.2.1.2.1 + (Int.tmod z24.2.1.2.1 2)) then
                          (F_tinfo_reader_extended k z24.2.1.1 (z24.2.1.2.1 + (Int.tmod z24.2.1.2.1 2)) z24.2.1.2.2).bind fun z25 =>
                          either z25 (fun z25_1 =>
                            some (Sum.inl ((z24.2.2.1, (z24.2.2.2.1, (z24.2.2.2.2.1, (z24.2.2.2.2.2.1, (z24.2.2.2.2.2.2, z25_1.1))))), z25_1.2)))
                            fun z25_2 =>
                            some (Sum.inr z25_2)
                        else none
                    else none)
                    fun z23_2 =>
                    some (Sum.inr z23_2)
                else none
              else none
          else none)
          fun z17_2 =>
          some (Sum.inr z17_2))
        fun z11_2 =>
        some (Sum.inr z11_2))
    fun z1_2 =>
    some (Sum.inr z1_2)
def I_tinfo_reader_entry : Shp := ⟨[0], 0, 1, 0, (.cons (.ptr 0 0) Sy43)⟩
def E_tinfo_reader_entry : Exits := [(.ret, ⟨[], 0, 1, 0, (.cons Sy5 (.cons Sy3 .nil))⟩), (.panic, ⟨[], 0, 1, 0, Sy13⟩)]
def C_tinfo_reader_entry (k : Nat) : Con := ⟨25, I_tinfo_reader_entry, E_tinfo_reader_entry, fun z => (fun (z : (List Int) × Int × Bool) => F_tinfo_reader_entry k z.1 z.2.1 z.2.2) z⟩
def F_tinfo_Read (k : Nat) (b : List Int) : Option (Ty3 × Int × Int) :=
  (F_tinfo_reader_entry k b 0 false).bind fun z1 =>
  either z1 (fun z1_1 =>
    some (z1_1.1, (0, 0)))
    fun z1_2 =>
    some (([], (false, ([], ([], ([], []))))), z1_2.1)
def I_tinfo_Read : Shp := ⟨[0], 0, 0, 0, Sy59⟩
def E_tinfo_Read : Exits := [(.ret, ⟨[], 0, 0, 0, (.cons (.tupL (.cons Sy5 (.cons (.cell (.int .i64)) Sy23))) .nil)⟩)]
def C_tinfo_Read (k : Nat) : Con := ⟨7, I_tinfo_Read, E_tinfo_Read, fun z => (fun (z : List Int) => F_tinfo_Read k z) z⟩
def F_lanyardlaw03_TinfoBack (k m : Nat) (t : (List UInt8) × Bool × Ty1 × Ty1 × Ty1 × Ty2) (b : List Int) : Option Bool :=
  (F_tinfo_Write k t).bind fun z1 =>
  (F_lanyardref03_Write k t).bind fun z2 =>
  (bif z1.2 != z2.2 then
     some (b, (z1.1, (z1.2, (true, t))))
   else
     (F_lanyardlaw03_live m).bind fun z3 =>
     some (b, (z1.1, (z1.2, (!z3, t)))) : Option ((List Int) × (List Int) × Int × Bool × (List UInt8) × Bool × Ty1 × Ty1 × Ty1 × Ty2)).bind fun z4 =>
  bif z4.2.2.2.1 then
    some false
  else
    (bif z4.2.2.1 == 0 then
       (F_tinfo_Read k z4.2.1).bind fun z5 =>
       (bif z5.2.2 != 0 then
          some (z4.1, true)
        else
          bif z5.2.1 != 0 then
            some (z4.1, true)
          else
            (F_tinfo_Same k z4.2.2.2.2 z5.1).bind fun z6 =>
            some (z4.1, !z6) : Option ((List Int) × Bool)).bind fun z7 =>
       bif z7.2 then
         some (Sum.inr ())
       else
         some (Sum.inl z7.1)
     else
       some (Sum.inl z4.1) : Option (((List Int) ⊕ Unit))).bind fun z8 =>
    either z8 (fun z8_1 =>
      (F_tinfo_Read k z8_1).bind fun z9 =>
      bif z9.2.2 != 0 then
        (F_tinfo_Same k z9.1 ([], (false, ([], ([], ([], [])))))).bind fun z10 =>
        some z10
      else
        (F_tinfo_Write k z9.1).bind fun z11 =>
        (F_lanyardref03_Write k z9.1).bind fun z12 =>
        (bif z11.2 != z12.2 then
           some (z11.1, (z11.2, (z12.2, (true, z9.1))))
         else
           some (z11.1, (z11.2, (z12.2, (z11.2 == 3, z9.1)))) : Option ((List Int) × Int × Int × Bool × (List UInt8) × Bool × Ty1 × Ty1 × Ty1 × Ty2)).bind fun z13 =>
        bif z13.2.2.2.1 then
          some (z13.2.1 == z13.2.2.1)
        else
          (F_tinfo_Read k z13.1).bind fun z14 =>
          (bif z13.2.1 == 0 then
             bif z14.2.2 == 0 then
               (F_tinfo_Same k z13.2.2.2.2 z14.1).bind fun z15 =>
               some z15
             else
               some false
           else
             some false : Option (Bool)).bind fun z16 =>
          some z16)
      fun z8_2 =>
      some false
def I_lanyardlaw03_TinfoBack : Shp := ⟨[0, 1], 0, 0, 0, (.cons Sy5 Sy59)⟩
def E_lanyardlaw03_TinfoBack : Exits := [(.ret, ⟨[], 0, 0, 0, Sy11⟩)]
def C_lanyardlaw03_TinfoBack (k m : Nat) : Con := ⟨3, I_lanyardlaw03_TinfoBack, E_lanyardlaw03_TinfoBack, fun z => (fun (z : Ty3 × (List Int)) => F_lanyardlaw03_TinfoBack k m z.1 z.2) z⟩
end Go.Proofs.YtfghjkgpbncagaaGreatDoor
