/- Joined texts: Kc. -/
import Derived.Test.YtfghjkgpbncagaaDoorKb
set_option linter.unusedVariables false
set_option maxRecDepth 100000
set_option maxHeartbeats 1000000
namespace Go.Proofs.YtfghjkgpbncagaaDoor
open Go.RowKit Go.Av Go.Proofs
abbrev Ky1 : CTy := .pair (.int .i64) (.pair (.int .i64) .str)
abbrev Ky2 : CTy := .pair (.int .i64) (.pair .str Ky1)
abbrev Sy8 : Sh := .cell (.sl Ky2)
abbrev Sy1 : Sh := .cons (.ifc 27 (.cell (.sl Ky1))) (.cons (.ifc 27 (.cell (.sl Ky1))) (.cons (.ifc 27 (.cell (.sl Ky1))) (.cons (.ifc 31 Sy8) .nil)))
abbrev Ty4 : Type := Int × Int × (List UInt8)
abbrev Ty1 : Type := List Ty4
abbrev Sy2 : Sh := .ifc 25 (.aggL (.cons (.cell .str) (.cons (.cell .bool) (.cons (.cell (.sl Ky1)) (.cons (.cell (.sl Ky1)) (.cons (.cell (.sl Ky1)) (.cons Sy8 .nil)))))))
abbrev Ty5 : Type := Int × (List UInt8) × Int × Int × (List UInt8)
abbrev Ty2 : Type := List Ty5
abbrev Sy3 : Sh := .aggL (.cons (.cell .str) (.cons (.cell .bool) (.cons (.rs 0) (.cons (.rs 1) (.cons (.rs 2) (.cons (.rs 3) .nil))))))
abbrev Sy29 : Sh := .aggL (.cons (.cell .str) (.cons (.cell .bool) (.cons (.rs 4) (.cons (.rs 5) (.cons (.rs 6) (.cons (.rs 7) .nil))))))
abbrev Sy7 : Sh := .ifc 27 (.aggL (.cons (.cell (.int .i64)) (.cons (.cell (.int .i64)) (.cons (.cell .str) .nil))))
abbrev Sy5 : Sh := .ifc 25 (.aggL (.cons (.litS []) (.cons (.litB false) (.cons (.zs true) (.cons (.zs true) (.cons (.zs true) (.cons (.zs true) .nil)))))))
abbrev Sy22 : Sh := .cons (.ifc 27 (.lit .i64 3)) (.cons (.ifc 27 (.lit .i64 3)) (.cons (.ifc 27 (.lit .i64 3)) (.cons (.ifc 31 (.lit .i64 5)) Sy1)))
abbrev Sy4 : Sh := .cons .any (.cons (.ifc 25 Sy29) (.cons Sy7 (.cons Sy5 Sy22)))
abbrev Sy6 : Sh := .agg (.pair .str (.pair .bool (.pair (.sl Ky1) (.pair (.sl Ky1) (.pair (.sl Ky1) (.sl Ky2))))))
abbrev Ty3 : Type := (List UInt8) × Bool × Ty1 × Ty1 × Ty1 × Ty2
abbrev Sy9 : Sh := .cons (.rs 0) (.cons (.rs 1) (.cons (.rs 2) .nil))
abbrev Ty6 : Type := (List UInt8) × Int × ((List UInt8) × Bool) × Ty4 × Ty1 × Ty1 × Ty1 × Ty2
abbrev Sy10 : Sh := .cons .any (.cons (.ifc 25 Sy3) (.cons Sy7 (.cons Sy5 Sy1)))
abbrev Ty7 : Type := ((List UInt8) × Bool) × Ty1 × Ty1 × Ty1 × Ty2
abbrev Sy11 : Sh := .cons .any (.cons Sy2 (.cons Sy2 (.cons (.ifc 25 Sy3) Sy1)))
abbrev Sy36 : Sh := .ifc 76 (.aggL (.cons (.fn 38 .nil .nil) .nil))
abbrev Sy12 : Sh := .cons Sy36 (.cons (.ifc 31 Sy8) .nil)
abbrev Sy13 : Sh := .cons .any (.cons (.ifc 25 Sy3) Sy1)
abbrev Sy14 : Sh := .ifc 27 (.aggL (.cons (.lit .i64 0) (.cons (.lit .i64 0) (.cons (.litS []) .nil))))
abbrev Sy15 : Sh := .cons (.ifc 27 (.cell (.sl Ky1))) .nil
abbrev Sy16 : Sh := .cons (.cell (.sl Ky1)) (.cons .any .nil)
abbrev Sy17 : Sh := .cons (.cell .bool) .nil
abbrev Ty8 : Type := Ty3 × Ty3 × ((List UInt8) × Bool) × Ty1 × Ty1 × Ty1 × Ty2
abbrev Sy18 : Sh := .cons (.ifc 9 (.aggL (.cons (.cell .str) .nil))) .nil
abbrev Sy19 : Sh := .cons .any (.cons Sy5 (.cons (.ifc 25 Sy3) Sy1))
abbrev Sy20 : Sh := .cons (.cell .bool) (.cons .any .nil)
abbrev Sy21 : Sh := .cons (.cell .str) (.cons .any .nil)
abbrev Sy23 : Sh := .cons (.cell .str) (.cons (.ptr 0 0) (.cons (.ptr 1 0) (.cons (.ptr 2 0) (.cons (.cell (.int .i64)) (.cons (.ptr 0 4) Sy10)))))
abbrev Sy24 : Sh := .cons (.cell .str) (.cons (.ptr 0 0) (.cons (.ptr 1 0) (.cons (.ptr 2 0) (.cons (.cell (.int .i64)) (.cons (.ptr 0 3) Sy10)))))
abbrev Sy25 : Sh := .cons (.cell .str) (.cons (.ptr 0 0) (.cons (.ptr 1 0) (.cons (.ptr 2 0) (.cons (.cell (.int .i64)) (.cons (.ptr 0 2) Sy10)))))
abbrev Sy26 : Sh := .cons (.cell .str) (.cons (.ptr 0 0) (.cons (.ptr 1 0) (.cons (.ptr 2 0) (.cons (.cell (.int .i64)) (.cons (.ptr 0 4) Sy4)))))
abbrev Sy27 : Sh := .cons (.cell .str) (.cons (.ptr 0 0) (.cons (.ptr 1 0) (.cons (.ptr 2 0) (.cons (.cell (.int .i64)) (.cons (.ptr 0 3) Sy4)))))
abbrev Sy28 : Sh := .cons (.cell .str) (.cons (.ptr 0 0) (.cons (.ptr 1 0) (.cons (.ptr 2 0) (.cons (.cell (.int .i64)) (.cons (.ptr 0 2) Sy4)))))
abbrev Sy30 : Sh := .cons (.cell (.int .i64)) (.cons .any .nil)
abbrev Sy31 : Sh := .cons (.cell (.int .i64)) (.cons (.cell (.int .i64)) (.cons (.litB true) (.cons .any .nil)))
abbrev Sy32 : Sh := .cons (.lit .i64 1) (.cons .any Sy1)
abbrev Sy33 : Sh := .cons (.cell (.int .i64)) (.cons .any (.cons (.ifc 9 (.cell (.sl .str))) .nil))
abbrev Sy34 : Sh := .cons (.ptr 0 0) (.cons (.ptr 1 0) (.cons .any (.cons Sy2 (.cons Sy5 .nil))))
abbrev Ty9 : Type := (List UInt8) × (List UInt8) × (List UInt8) × (List UInt8) × (List UInt8)
abbrev Sy35 : Sh := .cons (.cell (.int .i64)) Sy13
abbrev Sy37 : Sh := .cons (.cell (.int .i64)) (.cons (.cell (.int .i64)) Sy11)
abbrev Sy38 : Sh := .cons .any (.cons Sy2 (.cons Sy2 .nil))
abbrev Sy39 : Sh := .cons (.litB false) (.cons .any .nil)
abbrev Sy40 : Sh := .cons (.agg Ky1) (.cons .any .nil)
def K_slices_Clone_Cap (l : List Ty4) : Option Ty1 := bif room ((0 + l.length) * 32) then some l else none
def F_slices_Clone_Cap (k : Nat) (l : List Ty4) : Option Ty1 := (K_slices_Clone_Cap l).bind fun z => some z
def I_slices_Clone_Cap : Shp := ⟨[0], 0, 0, 0, Sy16⟩
def E_slices_Clone_Cap : Exits := [(.ret, ⟨[], 0, 0, 0, (.cons (.cell (.sl Ky1)) .nil)⟩)]
def C_slices_Clone_Cap (k : Nat) : Con := ⟨4, I_slices_Clone_Cap, E_slices_Clone_Cap, fun z => (fun (z : List Ty4) => F_slices_Clone_Cap k z) z⟩
def EF_slices_Clone_Cap : Exits := [(.ret, ⟨[2], 0, 0, 1, (.cons (.rs 0) (.cons .any Sy15))⟩)]
def K_slices_Clone_Ext (l : List Ty5) : Option Ty2 := bif room ((0 + l.length) * 56) then some l else none
def F_slices_Clone_Ext (k : Nat) (l : List Ty5) : Option Ty2 := (K_slices_Clone_Ext l).bind fun z => some z
def I_slices_Clone_Ext : Shp := ⟨[0], 0, 0, 0, (.cons Sy8 (.cons .any .nil))⟩
def E_slices_Clone_Ext : Exits := [(.ret, ⟨[], 0, 0, 0, (.cons Sy8 .nil)⟩)]
def C_slices_Clone_Ext (k : Nat) : Con := ⟨5, I_slices_Clone_Ext, E_slices_Clone_Ext, fun z => (fun (z : List Ty5) => F_slices_Clone_Ext k z) z⟩
def EF_slices_Clone_Ext : Exits := [(.ret, ⟨[2], 0, 0, 1, (.cons (.rs 0) (.cons .any (.cons (.ifc 31 Sy8) .nil)))⟩)]
def F_tinfo_spots (k : Nat) : Option (List ((List UInt8) × Int × Int)) :=
  some [([98, 119], (0, 0)), ([97, 109], (0, 1)), ([120, 115, 98], (0, 2)), ([120, 104, 112], (0, 3)), ([120, 101, 110, 108], (0, 4)), ([101, 111], (0, 5)), ([103, 110], (0, 6)), ([104, 99], (0, 7)), ([107, 109], (0, 8)), ([104, 115], (0, 9)), ([105, 110], (0, 10)), ([100, 97], (0, 11)), ([100, 98], (0, 12)), ([109, 105, 114], (0, 13)), ([109, 115, 103, 114], (0, 14)), ([111, 115], (0, 15)), ([99, 111, 108, 115], (1, 0)), ([105, 116], (1, 1)), ([108, 105, 110, 101, 115], (1, 2)), ([108, 109], (1, 3)), ([120, 109, 99], (1, 4)), ([112, 98], (1, 5)), ([118, 116], (1, 6)), ([119, 115, 108], (1, 7)), ([110, 108, 97, 98], (1, 8)), ([108, 104], (1, 9)), ([108, 119], (1, 10)), ([109, 97], (1, 11)), ([119, 110, 117, 109], (1, 12)), ([99, 111, 108, 111, 114, 115], (1, 13)), ([112, 97, 105, 114, 115], (1, 14)), ([110, 99, 118], (1, 15)), ([99, 98, 116], (2, 0)), ([98, 101, 108], (2, 1)), ([99, 114], (2, 2)), ([99, 115, 114], (2, 3)), ([116, 98, 99], (2, 4)), ([99, 108, 101, 97, 114], (2, 5)), ([101, 108], (2, 6)), ([101, 100], (2, 7)), ([104, 112, 97], (2, 8)), ([99, 109, 100, 99, 104], (2, 9)), ([99, 117, 112], (2, 10)), ([99, 117, 100, 49], (2, 11)), ([104, 111, 109, 101], (2, 12)), ([99, 105, 118, 105, 115], (2, 13)), ([99, 117, 98, 49], (2, 14)), ([109, 114, 99, 117, 112], (2, 15)), ([99, 110, 111, 114, 109], (2, 16)), ([99, 117, 102, 49], (2, 17)), ([108, 108], (2, 18)), ([99, 117, 117, 49], (2, 19)), ([99, 118, 118, 105, 115], (2, 20)), ([100, 99, 104, 49], (2, 21)), ([100, 108, 49], (2, 22)), ([100, 115, 108], (2, 23)), ([104, 100], (2, 24)), ([115, 109, 97, 99, 115], (2, 25)), ([98, 108, 105, 110, 107], (2, 26)), ([98, 111, 108, 100], (2, 27)), ([115, 109, 99, 117, 112], (2, 28)), ([115, 109, 100, 99], (2, 29)), ([100, 105, 109], (2, 30)), ([115, 109, 105, 114], (2, 31)), ([105, 110, 118, 105, 115], (2, 32)), ([112, 114, 111, 116], (2, 33)), ([114, 101, 118], (2, 34)), ([115, 109, 115, 111], (2, 35)), ([115, 109, 117, 108], (2, 36)), ([101, 99, 104], (2, 37)), ([114, 109, 97, 99, 115], (2, 38)), ([115, 103, 114, 48], (2, 39)), ([114, 109, 99, 117, 112], (2, 40)), ([114, 109, 100, 99], (2, 41)), ([114, 109, 105, 114], (2, 42)), ([114, 109, 115, 111], (2, 43)), ([114, 109, 117, 108], (2, 44)), ([102, 108, 97, 115, 104], (2, 45)), ([105, 99, 104, 49], (2, 52)), ([105, 108, 49], (2, 53)), ([105, 112], (2, 54)), ([107, 98, 115], (2, 55)), ([107, 100, 99, 104, 49], (2, 59)), ([107, 99, 117, 100, 49], (2, 61)), ([107, 104, 111, 109, 101], (2, 76)), ([107, 105, 99, 104, 49], (2, 77)), ([107, 99, 117, 98, 49], (2, 79)), ([107, 110, 112], (2, 81)), ([107, 112, 112], (2, 82)), ([107, 99, 117, 102, 49], (2, 83)), ([107, 99, 117, 117, 49], (2, 87)), ([114, 109, 107, 120], (2, 88)), ([115, 109, 107, 120], (2, 89)), ([110, 101, 108], (2, 103)), ([100, 99, 104], (2, 105)), ([100, 108], (2, 106)), ([99, 117, 100], (2, 107)), ([105, 99, 104], (2, 108)), ([105, 110, 100, 110], (2, 109)), ([105, 108], (2, 110)), ([99, 117, 98], (2, 111)), ([99, 117, 102], (2, 112)), ([114, 105, 110], (2, 113)), ([99, 117, 117], (2, 114)), ([114, 99], (2, 126)), ([118, 112, 97], (2, 127)), ([115, 99], (2, 128)), ([105, 110, 100], (2, 129)), ([114, 105], (2, 130)), ([115, 103, 114], (2, 131)), ([104, 116, 115], (2, 132)), ([107, 101, 110, 100], (2, 164))]
def I_tinfo_spots : Shp := ⟨[], 0, 0, 0, (.cons .any .nil)⟩
def E_tinfo_spots : Exits := [(.ret, ⟨[], 0, 0, 0, (.cons (.arr 112 (.pair .str (.pair (.int .i64) (.int .i64)))) .nil)⟩)]
def C_tinfo_spots (k : Nat) : Con := ⟨26, I_tinfo_spots, E_tinfo_spots, fun _ => F_tinfo_spots k⟩
def LH_tinfo_Place_1 : Shp := ⟨[0, 7, 8], 0, 0, 0, (.cons (.cell .str) (.cons (.arr 112 (.pair .str (.pair (.int .i64) (.int .i64)))) Sy30))⟩
def LE_tinfo_Place_1 : Exits := [(.exit 0, ⟨[], 0, 0, 0, (.cons .any .nil)⟩), (.ret, ⟨[2, 3, 4], 0, 0, 0, Sy31⟩)]
def L_tinfo_Place_1 (k : Nat) : Nat → (List UInt8) → (List ((List UInt8) × Int × Int)) → Int → Option (Unit ⊕ (Int × Int))
  | 0, _, _, _ => none
  | n + 1, name, t7, t8 =>
    bif decide (t8 < 112) then
      bif inL t8 112 && inL t8 t7.length then
        bif ((t7.getD (Int.toNat t8) ([], (0, 0))).1) == name then
          some (Sum.inr ((t7.getD (Int.toNat t8) ([], (0, 0))).2))
        else
          bif inI (t8 + 1) then
            L_tinfo_Place_1 k n name t7 (t8 + 1)
          else none
      else none
    else
      some (Sum.inl ())
def F_tinfo_Place (k : Nat) (name : List UInt8) : Option (Int × Int × Bool) :=
  (F_tinfo_spots k).bind fun z1 =>
  (L_tinfo_Place_1 k k name z1 0).bind fun z2 =>
  either z2 (fun z2_1 =>
    some (0, (0, false)))
    fun z2_2 =>
    some (z2_2.1, (z2_2.2, true))
def I_tinfo_Place : Shp := ⟨[0], 0, 0, 0, Sy21⟩
def E_tinfo_Place : Exits := [(.ret, ⟨[], 0, 0, 0, (.cons (.tupL (.cons (.cell (.int .i64)) (.cons (.cell (.int .i64)) Sy17))) .nil)⟩)]
def C_tinfo_Place (k : Nat) : Con := ⟨15, I_tinfo_Place, E_tinfo_Place, fun z => (fun (z : List UInt8) => F_tinfo_Place k z) z⟩
def F_tinfo_list (k : Nat) (kind : Int) (b0_0 : List UInt8) (b0_1 : Bool) (b0_2 : List Ty4) (b0_3 : List Ty4) (b0_4 : List Ty4) (b0_5 : List Ty5) : Option (Ty3 ⊕ (Ty3 ⊕ Ty3)) :=
  bif kind == 0 then
    some (Sum.inl (b0_0, (b0_1, (b0_2, (b0_3, (b0_4, b0_5))))))
  else
    bif kind == 1 then
      some (Sum.inr (Sum.inl (b0_0, (b0_1, (b0_2, (b0_3, (b0_4, b0_5)))))))
    else
      bif kind == 2 then
        some (Sum.inr (Sum.inr (b0_0, (b0_1, (b0_2, (b0_3, (b0_4, b0_5)))))))
      else
        none
def I_tinfo_list : Shp := ⟨[0, 1], 0, 1, 0, (.cons (.ptr 0 0) (.cons (.cell (.int .i64)) (.cons .any (.cons Sy2 .nil))))⟩
def E_tinfo_list : Exits := [(.ret, ⟨[], 0, 1, 0, (.cons (.ptr 0 2) (.cons Sy2 .nil))⟩), (.ret, ⟨[], 0, 1, 0, (.cons (.ptr 0 3) (.cons Sy2 .nil))⟩), (.ret, ⟨[], 0, 1, 0, (.cons (.ptr 0 4) (.cons Sy2 .nil))⟩)]
def C_tinfo_list (k : Nat) : Con := ⟨16, I_tinfo_list, E_tinfo_list, fun z => (fun (z : Int × (List UInt8) × Bool × Ty1 × Ty1 × Ty1 × Ty2) => F_tinfo_list k z.1 z.2.1 z.2.2.1 z.2.2.2.1 z.2.2.2.2.1 z.2.2.2.2.2.1 z.2.2.2.2.2.2) z⟩
def LH_tinfo_Get_1 : Shp := ⟨[1, 4, 33, 34, 35], 0, 1, 0, (.cons (.cell .str) (.cons (.ptr 0 0) (.cons Sy8 (.cons (.cell (.int .i64)) (.cons (.cell (.int .i64)) (.cons .any (.cons Sy14 .nil)))))))⟩
def LE_tinfo_Get_1 : Exits := [(.exit 0, ⟨[4], 0, 1, 0, (.cons (.ptr 0 0) (.cons .any (.cons Sy14 .nil)))⟩), (.ret, ⟨[4, 5], 0, 1, 0, (.cons (.ptr 0 0) (.cons (.litB true) (.cons .any (.cons Sy7 .nil))))⟩)]
def L_tinfo_Get_1 (k : Nat) : Nat → (List UInt8) → Ty2 → Int → Int → Option (Unit ⊕ Ty4)
  | 0, _, _, _, _ => none
  | n + 1, name, t33, t34, t35 =>
    bif decide (t35 < t34) then
      bif inL t35 t33.length then
        bif (((t33.getD (Int.toNat t35) (0, ([], (0, (0, []))))).2).1) == name then
          some (Sum.inr ((((t33.getD (Int.toNat t35) (0, ([], (0, (0, []))))).2).2).1, ((((t33.getD (Int.toNat t35) (0, ([], (0, (0, []))))).2).2).2)))
        else
          bif inI (t35 + 1) then
            L_tinfo_Get_1 k n name t33 t34 (t35 + 1)
          else none
      else none
    else
      some (Sum.inl ())
def F_tinfo_Get (k : Nat) (t : (List UInt8) × Bool × Ty1 × Ty1 × Ty1 × Ty2) (name : List UInt8) : Option (Ty4 × Bool) :=
  (F_tinfo_Place k name).bind fun z1 =>
  bif z1.2.2 then
    ((F_tinfo_list k z1.1 t.1 t.2.1 t.2.2.1 t.2.2.2.1 t.2.2.2.2.1 t.2.2.2.2.2).bind fun z2 =>
     either z2 (fun z2_1 =>
       some (z1.2.1, z2_1.2.2.1))
       fun z2_r1 =>
       either z2_r1 (fun z2_2 =>
         some (z1.2.1, z2_2.2.2.2.1))
         fun z2_3 =>
         some (z1.2.1, z2_3.2.2.2.2.1) : Option (Int × Ty1)).bind fun z3 =>
    bif decide (z3.1 < (z3.2.length : Int)) then
      bif inL z3.1 z3.2.length then
        some (((z3.2.getD (Int.toNat z3.1) (0, (0, []))).1, ((z3.2.getD (Int.toNat z3.1) (0, (0, []))).2)), true)
      else none
    else
      some ((0, (0, [])), true)
  else
    (L_tinfo_Get_1 k k name t.2.2.2.2.2 (t.2.2.2.2.2.length : Int) 0).bind fun z4 =>
    either z4 (fun z4_1 =>
      some ((0, (0, [])), false))
      fun z4_2 =>
      some (z4_2, true)
def I_tinfo_Get : Shp := ⟨[0, 1], 0, 0, 0, (.cons Sy6 Sy21)⟩
def E_tinfo_Get : Exits := [(.ret, ⟨[], 0, 0, 0, (.cons (.tupL (.cons (.agg Ky1) Sy17)) .nil)⟩)]
def C_tinfo_Get (k : Nat) : Con := ⟨13, I_tinfo_Get, E_tinfo_Get, fun z => (fun (z : Ty3 × (List UInt8)) => F_tinfo_Get k z.1 z.2) z⟩
def K_slices_Clone_Cap_2 (l : List Ty4) : Option Ty1 := bif room ((0 + l.length) * 32) then some l else none
def F_slices_Clone_Cap_2 (k : Nat) (l : List Ty4) : Option Ty1 := (K_slices_Clone_Cap_2 l).bind fun z => some z
def I_slices_Clone_Cap_2 : Shp := ⟨[0], 0, 0, 0, Sy16⟩
def E_slices_Clone_Cap_2 : Exits := [(.ret, ⟨[], 0, 0, 1, (.cons (.rs 0) Sy15)⟩)]
def C_slices_Clone_Cap_2 (k : Nat) : Con := ⟨4, I_slices_Clone_Cap_2, E_slices_Clone_Cap_2, fun z => (fun (z : List Ty4) => F_slices_Clone_Cap_2 k z) z⟩
def EF_slices_Clone_Cap_2 : Exits := [(.ret, ⟨[2], 0, 0, 1, (.cons (.rs 0) (.cons .any Sy15))⟩)]
def K_slices_Clone_Ext_2 (l : List Ty5) : Option Ty2 := bif room ((0 + l.length) * 56) then some l else none
def F_slices_Clone_Ext_2 (k : Nat) (l : List Ty5) : Option Ty2 := (K_slices_Clone_Ext_2 l).bind fun z => some z
def I_slices_Clone_Ext_2 : Shp := ⟨[0], 0, 0, 0, (.cons Sy8 (.cons .any .nil))⟩
def E_slices_Clone_Ext_2 : Exits := [(.ret, ⟨[], 0, 0, 1, (.cons (.rs 0) (.cons (.ifc 31 Sy8) .nil))⟩)]
def C_slices_Clone_Ext_2 (k : Nat) : Con := ⟨5, I_slices_Clone_Ext_2, E_slices_Clone_Ext_2, fun z => (fun (z : List Ty5) => F_slices_Clone_Ext_2 k z) z⟩
def EF_slices_Clone_Ext_2 : Exits := [(.ret, ⟨[2], 0, 0, 1, (.cons (.rs 0) (.cons .any (.cons (.ifc 31 Sy8) .nil)))⟩)]
def F_tinfo_twin (k : Nat) (t : (List UInt8) × Bool × Ty1 × Ty1 × Ty1 × Ty2) : Option Ty7 :=
  (F_slices_Clone_Cap_2 k t.2.2.1).bind fun z1 =>
  (F_slices_Clone_Cap_2 k t.2.2.2.1).bind fun z2 =>
  (F_slices_Clone_Cap_2 k t.2.2.2.2.1).bind fun z3 =>
  (F_slices_Clone_Ext_2 k t.2.2.2.2.2).bind fun z4 =>
  some ((t.1, t.2.1), (z1, (z2, (z3, z4))))
def I_tinfo_twin : Shp := ⟨[0], 0, 0, 0, (.cons Sy6 (.cons .any .nil))⟩
def E_tinfo_twin : Exits := [(.ret, ⟨[], 0, 0, 4, (.cons Sy3 Sy1)⟩)]
def C_tinfo_twin (k : Nat) : Con := ⟨14, I_tinfo_twin, E_tinfo_twin, fun z => (fun (z : (List UInt8) × Bool × Ty1 × Ty1 × Ty1 × Ty2) => F_tinfo_twin k z) z⟩
def F_tinfo_list_2 (k : Nat) (kind : Int) (b0_0 : List UInt8) (b0_1 : Bool) (w0 : List Ty4) (w1 : List Ty4) (w2 : List Ty4) (w3 : List Ty5) : Option (Ty7 ⊕ (Ty7 ⊕ Ty7)) :=
  bif kind == 0 then
    some (Sum.inl ((b0_0, b0_1), (w0, (w1, (w2, w3)))))
  else
    bif kind == 1 then
      some (Sum.inr (Sum.inl ((b0_0, b0_1), (w0, (w1, (w2, w3))))))
    else
      bif kind == 2 then
        some (Sum.inr (Sum.inr ((b0_0, b0_1), (w0, (w1, (w2, w3))))))
      else
        none
def I_tinfo_list_2 : Shp := ⟨[0, 1], 0, 1, 4, (.cons (.ptr 0 0) Sy35)⟩
def E_tinfo_list_2 : Exits := [(.ret, ⟨[], 0, 1, 4, (.cons (.ptr 0 2) (.cons (.ifc 25 Sy3) Sy1))⟩), (.ret, ⟨[], 0, 1, 4, (.cons (.ptr 0 3) (.cons (.ifc 25 Sy3) Sy1))⟩), (.ret, ⟨[], 0, 1, 4, (.cons (.ptr 0 4) (.cons (.ifc 25 Sy3) Sy1))⟩)]
def C_tinfo_list_2 (k : Nat) : Con := ⟨16, I_tinfo_list_2, E_tinfo_list_2, fun z => (fun (z : Int × ((List UInt8) × Bool) × Ty1 × Ty1 × Ty1 × Ty2) => F_tinfo_list_2 k z.1 z.2.1.1 z.2.1.2 z.2.2.1 z.2.2.2.1 z.2.2.2.2.1 z.2.2.2.2.2) z⟩
def F_tinfo_long_1 (k : Nat) (c : Int × Int × (List UInt8)) : Option Bool :=
  some (decide ((c.2.2.length : Int) > 1000))
def I_tinfo_long_1 : Shp := ⟨[0], 0, 0, 0, Sy40⟩
def E_tinfo_long_1 : Exits := [(.ret, ⟨[], 0, 0, 0, Sy17⟩)]
def C_tinfo_long_1 (k : Nat) : Con := ⟨38, I_tinfo_long_1, E_tinfo_long_1, fun z => (fun (z : Int × Int × (List UInt8)) => F_tinfo_long_1 k z) z⟩
def LH_slices_IndexFunc_Cap_1 : Shp := ⟨[0, 1, 7, 8], 0, 0, 1, (.cons (.rs 0) (.cons (.fn 38 .nil .nil) (.cons (.cell (.int .i64)) (.cons (.cell (.int .i64)) (.cons .any Sy15)))))⟩
def LE_slices_IndexFunc_Cap_1 : Exits := [(.exit 0, ⟨[], 0, 0, 1, (.cons .any Sy15)⟩), (.ret, ⟨[4], 0, 0, 1, (.cons (.cell (.int .i64)) (.cons .any Sy15))⟩)]
def L_slices_IndexFunc_Cap_1 (k : Nat) : Nat → Int → Int → Ty1 → Option (Ty1 ⊕ (Int × Ty1))
  | 0, _, _, _ => none
  | n + 1, t7, t8, w0 =>
    bif decide (t8 < t7) then
      bif inL t8 w0.length then
        (F_tinfo_long_1 k ((w0.getD (Int.toNat t8) (0, (0, []))).1, ((w0.getD (Int.toNat t8) (0, (0, []))).2))).bind fun z2 =>
        bif z2 then
          some (Sum.inr (t8, w0))
        else
          bif inI (t8 + 1) then
            L_slices_IndexFunc_Cap_1 k n t7 (t8 + 1) w0
          else none
      else none
    else
      some (Sum.inl w0)
def F_slices_IndexFunc_Cap (k : Nat) (w0 : List Ty4) : Option (Int × Ty1) :=
  (L_slices_IndexFunc_Cap_1 k k (w0.length : Int) 0 w0).bind fun z3 =>
  either z3 (fun z3_1 =>
    some ((-1), z3_1))
    fun z3_2 =>
    some z3_2
def I_slices_IndexFunc_Cap : Shp := ⟨[0, 1], 0, 0, 1, (.cons (.rs 0) (.cons (.fn 38 .nil .nil) (.cons .any Sy15)))⟩
def E_slices_IndexFunc_Cap : Exits := [(.ret, ⟨[], 0, 0, 1, (.cons (.cell (.int .i64)) Sy15)⟩)]
def C_slices_IndexFunc_Cap (k : Nat) : Con := ⟨50, I_slices_IndexFunc_Cap, E_slices_IndexFunc_Cap, fun z => (fun (z : List Ty4) => F_slices_IndexFunc_Cap k z) z⟩
def F_slices_ContainsFunc_Cap (k : Nat) (w0 : List Ty4) : Option (Bool × Ty1) :=
  (F_slices_IndexFunc_Cap k w0).bind fun z1 =>
  some (decide (z1.1 ≥ 0), z1.2)
def I_slices_ContainsFunc_Cap : Shp := ⟨[0, 1], 0, 0, 1, (.cons (.rs 0) (.cons (.fn 38 .nil .nil) (.cons .any Sy15)))⟩
def E_slices_ContainsFunc_Cap : Exits := [(.ret, ⟨[], 0, 0, 1, (.cons (.cell .bool) Sy15)⟩)]
def C_slices_ContainsFunc_Cap (k : Nat) : Con := ⟨39, I_slices_ContainsFunc_Cap, E_slices_ContainsFunc_Cap, fun z => (fun (z : List Ty4) => F_slices_ContainsFunc_Cap k z) z⟩
def F_tinfo_long_2 (k : Nat) (x : Int × (List UInt8) × Int × Int × (List UInt8)) : Option Bool :=
  ((F_tinfo_long_1 k x.2.2).bind fun z1 =>
   bif z1 then
     some true
   else
     some (decide ((x.2.1.length : Int) > 1000)) : Option (Bool)).bind fun z2 =>
  some z2
def I_tinfo_long_2 : Shp := ⟨[0, 1], 0, 1, 0, (.cons (.agg Ky2) (.cons (.ptr 0 0) (.cons .any (.cons Sy36 .nil))))⟩
def E_tinfo_long_2 : Exits := [(.ret, ⟨[], 0, 1, 0, (.cons (.cell .bool) (.cons Sy36 .nil))⟩)]
def C_tinfo_long_2 (k : Nat) : Con := ⟨41, I_tinfo_long_2, E_tinfo_long_2, fun z => (fun (z : Int × (List UInt8) × Int × Int × (List UInt8)) => F_tinfo_long_2 k z) z⟩
def LH_slices_IndexFunc_Ext_1 : Shp := ⟨[0, 1, 7, 8], 0, 1, 1, (.cons (.rs 0) (.cons (.fn 41 .nil (.cons (.ptr 0 0) .nil)) (.cons (.cell (.int .i64)) (.cons (.cell (.int .i64)) (.cons .any Sy12)))))⟩
def LE_slices_IndexFunc_Ext_1 : Exits := [(.exit 0, ⟨[], 0, 1, 1, (.cons .any Sy12)⟩), (.ret, ⟨[4], 0, 1, 1, (.cons (.cell (.int .i64)) (.cons .any Sy12))⟩)]
def L_slices_IndexFunc_Ext_1 (k : Nat) : Nat → Int → Int → Ty2 → Option (Ty2 ⊕ (Int × Ty2))
  | 0, _, _, _ => none
  | n + 1, t7, t8, w0 =>
    bif decide (t8 < t7) then
      bif inL t8 w0.length then
        (F_tinfo_long_2 k ((w0.getD (Int.toNat t8) (0, ([], (0, (0, []))))).1, (((w0.getD (Int.toNat t8) (0, ([], (0, (0, []))))).2).1, ((((w0.getD (Int.toNat t8) (0, ([], (0, (0, []))))).2).2).1, ((((w0.getD (Int.toNat t8) (0, ([], (0, (0, []))))).2).2).2))))).bind fun z2 =>
        bif z2 then
          some (Sum.inr (t8, w0))
        else
          bif inI (t8 + 1) then
            L_slices_IndexFunc_Ext_1 k n t7 (t8 + 1) w0
          else none
      else none
    else
      some (Sum.inl w0)
def F_slices_IndexFunc_Ext (k : Nat) (w0 : List Ty5) : Option (Int × Ty2) :=
  (L_slices_IndexFunc_Ext_1 k k (w0.length : Int) 0 w0).bind fun z3 =>
  either z3 (fun z3_1 =>
    some ((-1), z3_1))
    fun z3_2 =>
    some z3_2
def I_slices_IndexFunc_Ext : Shp := ⟨[0, 1], 0, 1, 1, (.cons (.rs 0) (.cons (.fn 41 .nil (.cons (.ptr 0 0) .nil)) (.cons .any Sy12)))⟩
def E_slices_IndexFunc_Ext : Exits := [(.ret, ⟨[], 0, 1, 1, (.cons (.cell (.int .i64)) Sy12)⟩)]
def C_slices_IndexFunc_Ext (k : Nat) : Con := ⟨48, I_slices_IndexFunc_Ext, E_slices_IndexFunc_Ext, fun z => (fun (z : List Ty5) => F_slices_IndexFunc_Ext k z) z⟩
def F_slices_ContainsFunc_Ext (k : Nat) (w0 : List Ty5) : Option (Bool × Ty2) :=
  (F_slices_IndexFunc_Ext k w0).bind fun z1 =>
  some (decide (z1.1 ≥ 0), z1.2)
def I_slices_ContainsFunc_Ext : Shp := ⟨[0, 1], 0, 1, 1, (.cons (.rs 0) (.cons (.fn 41 .nil (.cons (.ptr 0 0) .nil)) (.cons .any Sy12)))⟩
def E_slices_ContainsFunc_Ext : Exits := [(.ret, ⟨[], 0, 1, 1, (.cons (.cell .bool) Sy12)⟩)]
def C_slices_ContainsFunc_Ext (k : Nat) : Con := ⟨40, I_slices_ContainsFunc_Ext, E_slices_ContainsFunc_Ext, fun z => (fun (z : List Ty5) => F_slices_ContainsFunc_Ext k z) z⟩
def F_tinfo_long (k : Nat) (t_0 : List UInt8) (t_1 : Bool) (w0 : List Ty4) (w1 : List Ty4) (w2 : List Ty4) (w3 : List Ty5) : Option (Bool × Ty1 × Ty1 × Ty1 × Ty2) :=
  (bif decide ((t_0.length : Int) ≥ 512) then
     some (true, (w0, (w1, (w2, w3))))
   else
     bif decide ((w0.length : Int) > 64) then
       some (true, (w0, (w1, (w2, w3))))
     else
       bif decide ((w1.length : Int) > 64) then
         some (true, (w0, (w1, (w2, w3))))
       else
         bif decide ((w2.length : Int) > 512) then
           some (true, (w0, (w1, (w2, w3))))
         else
           bif decide ((w3.length : Int) > 256) then
             some (true, (w0, (w1, (w2, w3))))
           else
             (F_slices_ContainsFunc_Cap k w0).bind fun z1 =>
             bif z1.1 then
               some (true, (z1.2, (w1, (w2, w3))))
             else
               (F_slices_ContainsFunc_Cap k w1).bind fun z2 =>
               bif z2.1 then
                 some (true, (z1.2, (z2.2, (w2, w3))))
               else
                 (F_slices_ContainsFunc_Cap k w2).bind fun z3 =>
                 bif z3.1 then
                   some (true, (z1.2, (z2.2, (z3.2, w3))))
                 else
                   (F_slices_ContainsFunc_Ext k w3).bind fun z4 =>
                   some (z4.1, (z1.2, (z2.2, (z3.2, z4.2)))) : Option (Bool × Ty1 × Ty1 × Ty1 × Ty2)).bind fun z5 =>
  some z5
def I_tinfo_long : Shp := ⟨[0], 0, 0, 4, (.cons Sy3 (.cons .any Sy1))⟩
def E_tinfo_long : Exits := [(.ret, ⟨[], 0, 0, 4, (.cons (.cell .bool) Sy1)⟩)]
def C_tinfo_long (k : Nat) : Con := ⟨27, I_tinfo_long, E_tinfo_long, fun z => (fun (z : ((List UInt8) × Bool) × Ty1 × Ty1 × Ty1 × Ty2) => F_tinfo_long k z.1.1 z.1.2 z.2.1 z.2.2.1 z.2.2.2.1 z.2.2.2.2) z⟩
def F_tinfo_may (k : Nat) (c : Int × Int × (List UInt8)) (kind : Int) (wide : Bool) : Option Bool :=
  (bif wide then
     some (kind, (2147483647, c))
   else
     some (kind, (32767, c)) : Option (Int × Int × Int × Int × (List UInt8))).bind fun z1 =>
  ((bif decide (z1.2.2.1 < 0) then
      some (z1.1, (z1.2.1, (true, z1.2.2)))
    else
      some (z1.1, (z1.2.1, (decide (z1.2.2.1 > 2), z1.2.2))) : Option (Int × Int × Bool × Int × Int × (List UInt8))).bind fun z2 =>
   bif z2.2.2.1 then
     some (z2.1, (z2.2.1, (true, z2.2.2.2)))
   else
     bif z2.2.2.2.1 != 1 then
       bif z2.2.2.2.2.1 != 0 then
         some (z2.1, (z2.2.1, (true, z2.2.2.2)))
       else
         some (z2.1, (z2.2.1, (!(z2.2.2.2.2.2 == []), z2.2.2.2)))
     else
       some (z2.1, (z2.2.1, (false, z2.2.2.2))) : Option (Int × Int × Bool × Int × Int × (List UInt8))).bind fun z3 =>
  bif z3.2.2.1 then
    some false
  else
    bif z3.1 == 0 then
      (bif z3.2.2.2.2.1 == 0 then
         some (z3.2.2.2.2.2 == [])
       else
         some false : Option (Bool)).bind fun z4 =>
      some z4
    else
      bif z3.1 == 1 then
        (bif z3.2.2.2.2.2 == [] then
           bif decide (z3.2.2.2.2.1 ≥ 0) then
             some (decide (z3.2.2.2.2.1 ≤ z3.2.1))
           else
             some false
         else
           some false : Option (Bool)).bind fun z5 =>
        some z5
      else
        (bif z3.2.2.2.2.1 == 0 then
           (F_strings_Contains k z3.2.2.2.2.2 [0]).bind fun z6 =>
           some (!z6)
         else
           some false : Option (Bool)).bind fun z7 =>
        some z7
def I_tinfo_may : Shp := ⟨[0, 1, 2], 0, 0, 0, (.cons (.agg Ky1) (.cons (.cell (.int .i64)) Sy20))⟩
def E_tinfo_may : Exits := [(.ret, ⟨[], 0, 0, 0, Sy17⟩)]
def C_tinfo_may (k : Nat) : Con := ⟨29, I_tinfo_may, E_tinfo_may, fun z => (fun (z : Ty4 × Int × Bool) => F_tinfo_may k z.1 z.2.1 z.2.2) z⟩
def LH_tinfo_Check_5 : Shp := ⟨[1, 7, 8, 51, 52, 53], 0, 2, 4, (.cons (.ptr 0 0) (.cons (.cell (.int .i64)) (.cons (.mp 1) (.cons (.rs 3) (.cons (.cell (.int .i64)) (.cons (.cell (.int .i64)) (.cons .any (.cons (.ifc 25 Sy3) (.cons (.cell (.sl (.pair .str (.int .i64)))) Sy1)))))))))⟩
def LE_tinfo_Check_5 : Exits := [(.exit 4, ⟨[], 0, 0, 4, (.cons .any Sy1)⟩), (.ret, ⟨[2], 0, 0, 4, Sy32⟩)]
def L_tinfo_Check_5 (k : Nat) : Nat → Int → Int → Int → (List UInt8) → Bool → (List ((List UInt8) × Int)) → Ty1 → Ty1 → Ty1 → Ty2 → Option ((Ty1 × Ty1 × Ty1 × Ty2) ⊕ (Ty1 × Ty1 × Ty1 × Ty2))
  | 0, _, _, _, _, _, _, _, _, _, _ => none
  | n + 1, last, t52, t53, b0_0, b0_1, b1, w0, w1, w2, w3 =>
    bif decide (t53 < t52) then
      bif inL t53 w3.length then
        (F_tinfo_Place k (((w3.getD (Int.toNat t53) (0, ([], (0, (0, []))))).2).1)).bind fun z23 =>
        bif inI ((sget (0 : Int) b1 (((w3.getD (Int.toNat t53) (0, ([], (0, (0, []))))).2).1)) + 1) then
          (bif decide (((w3.getD (Int.toNat t53) (0, ([], (0, (0, []))))).1) < last) then
             some (t52, (t53, (true, ((b0_0, b0_1), (sput b1 (((w3.getD (Int.toNat t53) (0, ([], (0, (0, []))))).2).1) ((sget (0 : Int) b1 (((w3.getD (Int.toNat t53) (0, ([], (0, (0, []))))).2).1)) + 1), (((w3.getD (Int.toNat t53) (0, ([], (0, (0, []))))).1, (((w3.getD (Int.toNat t53) (0, ([], (0, (0, []))))).2).1, ((((w3.getD (Int.toNat t53) (0, ([], (0, (0, []))))).2).2).1, ((((w3.getD (Int.toNat t53) (0, ([], (0, (0, []))))).2).2).2)))), (w0, (w1, (w2, w3)))))))))
           else
             bif decide (((w3.getD (Int.toNat t53) (0, ([], (0, (0, []))))).1) > 2) then
               some (t52, (t53, (true, ((b0_0, b0_1), (sput b1 (((w3.getD (Int.toNat t53) (0, ([], (0, (0, []))))).2).1) ((sget (0 : Int) b1 (((w3.getD (Int.toNat t53) (0, ([], (0, (0, []))))).2).1)) + 1), (((w3.getD (Int.toNat t53) (0, ([], (0, (0, []))))).1, (((w3.getD (Int.toNat t53) (0, ([], (0, (0, []))))).2).1, ((((w3.getD (Int.toNat t53) (0, ([], (0, (0, []))))).2).2).1, ((((w3.getD (Int.toNat t53) (0, ([], (0, (0, []))))).2).2).2)))), (w0, (w1, (w2, w3)))))))))
             else
               bif (((w3.getD (Int.toNat t53) (0, ([], (0, (0, []))))).2).1) == [] then
                 some (t52, (t53, (true, ((b0_0, b0_1), (sput b1 (((w3.getD (Int.toNat t53) (0, ([], (0, (0, []))))).2).1) ((sget (0 : Int) b1 (((w3.getD (Int.toNat t53) (0, ([], (0, (0, []))))).2).1)) + 1), (((w3.getD (Int.toNat t53) (0, ([], (0, (0, []))))).1, (((w3.getD (Int.toNat t53) (0, ([], (0, (0, []))))).2).1, ((((w3.getD (Int.toNat t53) (0, ([], (0, (0, []))))).2).2).1, ((((w3.getD (Int.toNat t53) (0, ([], (0, (0, []))))).2).2).2)))), (w0, (w1, (w2, w3)))))))))
               else
                 (F_strings_Contains k (((w3.getD (Int.toNat t53) (0, ([], (0, (0, []))))).2).1) [0]).bind fun z24 =>
                 bif z24 then
                   some (t52, (t53, (true, ((b0_0, b0_1), (sput b1 (((w3.getD (Int.toNat t53) (0, ([], (0, (0, []))))).2).1) ((sget (0 : Int) b1 (((w3.getD (Int.toNat t53) (0, ([], (0, (0, []))))).2).1)) + 1), (((w3.getD (Int.toNat t53) (0, ([], (0, (0, []))))).1, (((w3.getD (Int.toNat t53) (0, ([], (0, (0, []))))).2).1, ((((w3.getD (Int.toNat t53) (0, ([], (0, (0, []))))).2).2).1, ((((w3.getD (Int.toNat t53) (0, ([], (0, (0, []))))).2).2).2)))), (w0, (w1, (w2, w3)))))))))
                 else
                   bif decide ((sget (0 : Int) (sput b1 (((w3.getD (Int.toNat t53) (0, ([], (0, (0, []))))).2).1) ((sget (0 : Int) b1 (((w3.getD (Int.toNat t53) (0, ([], (0, (0, []))))).2).1)) + 1)) (((w3.getD (Int.toNat t53) (0, ([], (0, (0, []))))).2).1)) > 1) then
                     some (t52, (t53, (true, ((b0_0, b0_1), (sput b1 (((w3.getD (Int.toNat t53) (0, ([], (0, (0, []))))).2).1) ((sget (0 : Int) b1 (((w3.getD (Int.toNat t53) (0, ([], (0, (0, []))))).2).1)) + 1), (((w3.getD (Int.toNat t53) (0, ([], (0, (0, []))))).1, (((w3.getD (Int.toNat t53) (0, ([], (0, (0, []))))).2).1, ((((w3.getD (Int.toNat t53) (0, ([], (0, (0, []))))).2).2).1, ((((w3.getD (Int.toNat t53) (0, ([], (0, (0, []))))).2).2).2)))), (w0, (w1, (w2, w3)))))))))
                   else
                     bif z23.2.2 then
                       some (t52, (t53, (true, ((b0_0, b0_1), (sput b1 (((w3.getD (Int.toNat t53) (0, ([], (0, (0, []))))).2).1) ((sget (0 : Int) b1 (((w3.getD (Int.toNat t53) (0, ([], (0, (0, []))))).2).1)) + 1), (((w3.getD (Int.toNat t53) (0, ([], (0, (0, []))))).1, (((w3.getD (Int.toNat t53) (0, ([], (0, (0, []))))).2).1, ((((w3.getD (Int.toNat t53) (0, ([], (0, (0, []))))).2).2).1, ((((w3.getD (Int.toNat t53) (0, ([], (0, (0, []))))).2).2).2)))), (w0, (w1, (w2, w3)))))))))
                     else
                       (F_tinfo_may k ((((w3.getD (Int.toNat t53) (0, ([], (0, (0, []))))).2).2).1, ((((w3.getD (Int.toNat t53) (0, ([], (0, (0, []))))).2).2).2)) ((w3.getD (Int.toNat t53) (0, ([], (0, (0, []))))).1) b0_1).bind fun z25 =>
                       some (t52, (t53, (!z25, ((b0_0, b0_1), (sput b1 (((w3.getD (Int.toNat t53) (0, ([], (0, (0, []))))).2).1) ((sget (0 : Int) b1 (((w3.getD (Int.toNat t53) (0, ([], (0, (0, []))))).2).1)) + 1), (((w3.getD (Int.toNat t53) (0, ([], (0, (0, []))))).1, (((w3.getD (Int.toNat t53) (0, ([], (0, (0, []))))).2).1, ((((w3.getD (Int.toNat t53) (0, ([], (0, (0, []))))).2).2).1, ((((w3.getD (Int.toNat t53) (0, ([], (0, (0, []))))).2).2).2)))), (w0, (w1, (w2, w3))))))))) : Option (Int × Int × Bool × ((List UInt8) × Bool) × (List ((List UInt8) × Int)) × Ty5 × Ty1 × Ty1 × Ty1 × Ty2)).bind fun z26 =>
          bif z26.2.2.1 then
            some (Sum.inr z26.2.2.2.2.2.2)
          else
            bif inI (z26.2.1 + 1) then
              L_tinfo_Check_5 k n z26.2.2.2.2.2.1.1 z26.1 (z26.2.1 + 1) z26.2.2.2.1.1 z26.2.2.2.1.2 z26.2.2.2.2.1 z26.2.2.2.2.2.2.1 z26.2.2.2.2.2.2.2.1 z26.2.2.2.2.2.2.2.2.1 z26.2.2.2.2.2.2.2.2.2
            else none
        else none
      else none
    else
      some (Sum.inl (w0, (w1, (w2, w3))))
def LH_tinfo_Check_4 : Shp := ⟨[1, 3, 30, 31, 35, 36, 37], 0, 1, 4, (.cons (.ptr 0 0) (.cons (.lit .i64 2) (.cons (.aggL Sy9) (.cons (.lit .i64 2) (.cons (.rs 2) (.cons (.cell (.int .i64)) Sy35))))))⟩
def LE_tinfo_Check_4 : Exits := [(.exit 2, ⟨[1, 30, 31], 0, 1, 4, (.cons (.ptr 0 0) (.cons (.aggL Sy9) (.cons (.lit .i64 2) Sy13)))⟩), (.ret, ⟨[2], 0, 0, 4, Sy32⟩)]
def L_tinfo_Check_4 (k : Nat) : Nat → Int → Int → (List UInt8) → Bool → Ty1 → Ty1 → Ty1 → Ty2 → Option (Ty7 ⊕ (Ty1 × Ty1 × Ty1 × Ty2))
  | 0, _, _, _, _, _, _, _, _ => none
  | n + 1, t36, t37, b0_0, b0_1, w0, w1, w2, w3 =>
    bif decide (t37 < t36) then
      bif inL t37 w2.length then
        (F_tinfo_may k ((w2.getD (Int.toNat t37) (0, (0, []))).1, ((w2.getD (Int.toNat t37) (0, (0, []))).2)) 2 b0_1).bind fun z15 =>
        bif !z15 then
          some (Sum.inr (w0, (w1, (w2, w3))))
        else
          bif inI (t37 + 1) then
            L_tinfo_Check_4 k n t36 (t37 + 1) b0_0 b0_1 w0 w1 w2 w3
          else none
      else none
    else
      some (Sum.inl ((b0_0, b0_1), (w0, (w1, (w2, w3)))))
def LH_tinfo_Check_3 : Shp := ⟨[1, 3, 30, 31, 35, 36, 37], 0, 1, 4, (.cons (.ptr 0 0) (.cons (.lit .i64 1) (.cons (.aggL Sy9) (.cons (.lit .i64 1) (.cons (.rs 1) (.cons (.cell (.int .i64)) Sy35))))))⟩
def LE_tinfo_Check_3 : Exits := [(.exit 2, ⟨[1, 30, 31], 0, 1, 4, (.cons (.ptr 0 0) (.cons (.aggL Sy9) (.cons (.lit .i64 1) Sy13)))⟩), (.ret, ⟨[2], 0, 0, 4, Sy32⟩)]
def L_tinfo_Check_3 (k : Nat) : Nat → Int → Int → (List UInt8) → Bool → Ty1 → Ty1 → Ty1 → Ty2 → Option (Ty7 ⊕ (Ty1 × Ty1 × Ty1 × Ty2))
  | 0, _, _, _, _, _, _, _, _ => none
  | n + 1, t36, t37, b0_0, b0_1, w0, w1, w2, w3 =>
    bif decide (t37 < t36) then
      bif inL t37 w1.length then
        (F_tinfo_may k ((w1.getD (Int.toNat t37) (0, (0, []))).1, ((w1.getD (Int.toNat t37) (0, (0, []))).2)) 1 b0_1).bind fun z12 =>
        bif !z12 then
          some (Sum.inr (w0, (w1, (w2, w3))))
        else
          bif inI (t37 + 1) then
            L_tinfo_Check_3 k n t36 (t37 + 1) b0_0 b0_1 w0 w1 w2 w3
          else none
      else none
    else
      some (Sum.inl ((b0_0, b0_1), (w0, (w1, (w2, w3)))))
def LH_tinfo_Check_2 : Shp := ⟨[1, 3, 30, 31, 35, 36, 37], 0, 1, 4, (.cons (.ptr 0 0) (.cons (.lit .i64 0) (.cons (.aggL Sy9) (.cons (.lit .i64 0) (.cons (.rs 0) (.cons (.cell (.int .i64)) Sy35))))))⟩
def LE_tinfo_Check_2 : Exits := [(.exit 2, ⟨[1, 30, 31], 0, 1, 4, (.cons (.ptr 0 0) (.cons (.aggL Sy9) (.cons (.lit .i64 0) Sy13)))⟩), (.ret, ⟨[2], 0, 0, 4, Sy32⟩)]
def L_tinfo_Check_2 (k : Nat) : Nat → Int → Int → (List UInt8) → Bool → Ty1 → Ty1 → Ty1 → Ty2 → Option (Ty7 ⊕ (Ty1 × Ty1 × Ty1 × Ty2))
  | 0, _, _, _, _, _, _, _, _ => none
  | n + 1, t36, t37, b0_0, b0_1, w0, w1, w2, w3 =>
    bif decide (t37 < t36) then
      bif inL t37 w0.length then
        (F_tinfo_may k ((w0.getD (Int.toNat t37) (0, (0, []))).1, ((w0.getD (Int.toNat t37) (0, (0, []))).2)) 0 b0_1).bind fun z9 =>
        bif !z9 then
          some (Sum.inr (w0, (w1, (w2, w3))))
        else
          bif inI (t37 + 1) then
            L_tinfo_Check_2 k n t36 (t37 + 1) b0_0 b0_1 w0 w1 w2 w3
          else none
      else none
    else
      some (Sum.inl ((b0_0, b0_1), (w0, (w1, (w2, w3)))))
def LH_tinfo_Check_1 : Shp := ⟨[1, 30, 31], 0, 1, 4, (.cons (.ptr 0 0) (.cons (.aggL Sy9) Sy35))⟩
def LE_tinfo_Check_1 : Exits := [(.exit 0, ⟨[1], 0, 1, 4, (.cons (.ptr 0 0) Sy13)⟩), (.ret, ⟨[2], 0, 0, 4, Sy32⟩)]
def L_tinfo_Check_1 (k : Nat) : Nat → Int → (List UInt8) → Bool → Ty1 → Ty1 → Ty1 → Ty2 → Option (Ty7 ⊕ (Ty1 × Ty1 × Ty1 × Ty2))
  | 0, _, _, _, _, _, _, _ => none
  | n + 1, t31, b0_0, b0_1, w0, w1, w2, w3 =>
    bif decide (t31 < 3) then
      ((bif t31 == 0 then
          some (Sum.inl ((b0_0, b0_1), (w0, (w1, (w2, w3)))))
        else
          bif t31 == 1 then
            some (Sum.inr (Sum.inl ((b0_0, b0_1), (w0, (w1, (w2, w3))))))
          else
            bif t31 == 2 then
              some (Sum.inr (Sum.inr ((b0_0, b0_1), (w0, (w1, (w2, w3))))))
            else
              none : Option ((Ty7 ⊕ (Ty7 ⊕ Ty7)))).bind fun z7 =>
       either z7 (fun z7_1 =>
         (L_tinfo_Check_2 k k (z7_1.2.1.length : Int) 0 z7_1.1.1 z7_1.1.2 z7_1.2.1 z7_1.2.2.1 z7_1.2.2.2.1 z7_1.2.2.2.2).bind fun z10 =>
         either z10 (fun z10_1 =>
           some (Sum.inl (0, z10_1)))
           fun z10_2 =>
           some (Sum.inr z10_2))
         fun z7_r1 =>
         either z7_r1 (fun z7_2 =>
           (L_tinfo_Check_3 k k (z7_2.2.2.1.length : Int) 0 z7_2.1.1 z7_2.1.2 z7_2.2.1 z7_2.2.2.1 z7_2.2.2.2.1 z7_2.2.2.2.2).bind fun z13 =>
           either z13 (fun z13_1 =>
             some (Sum.inl (1, z13_1)))
             fun z13_2 =>
             some (Sum.inr z13_2))
           fun z7_3 =>
           (L_tinfo_Check_4 k k (z7_3.2.2.2.1.length : Int) 0 z7_3.1.1 z7_3.1.2 z7_3.2.1 z7_3.2.2.1 z7_3.2.2.2.1 z7_3.2.2.2.2).bind fun z16 =>
           either z16 (fun z16_1 =>
             some (Sum.inl (2, z16_1)))
             fun z16_2 =>
             some (Sum.inr z16_2) : Option (((Int × ((List UInt8) × Bool) × Ty1 × Ty1 × Ty1 × Ty2) ⊕ (Ty1 × Ty1 × Ty1 × Ty2)))).bind fun z17 =>
      either z17 (fun z17_1 =>
        bif inI (z17_1.1 + 1) then
          L_tinfo_Check_1 k n (z17_1.1 + 1) z17_1.2.1.1 z17_1.2.1.2 z17_1.2.2.1 z17_1.2.2.2.1 z17_1.2.2.2.2.1 z17_1.2.2.2.2.2
        else none)
        fun z17_2 =>
        some (Sum.inr z17_2)
    else
      some (Sum.inl ((b0_0, b0_1), (w0, (w1, (w2, w3)))))
def F_tinfo_Check (k : Nat) (t_0 : List UInt8) (t_1 : Bool) (w0 : List Ty4) (w1 : List Ty4) (w2 : List Ty4) (w3 : List Ty5) : Option (Int × Ty1 × Ty1 × Ty1 × Ty2) :=
  (F_tinfo_long k t_0 t_1 w0 w1 w2 w3).bind fun z1 =>
  bif z1.1 then
    some (3, z1.2)
  else
    (bif t_0 == [] then
       some (true, ((t_0, t_1), z1.2))
     else
       (F_strings_Contains k t_0 [0]).bind fun z2 =>
       some (z2, ((t_0, t_1), z1.2)) : Option (Bool × ((List UInt8) × Bool) × Ty1 × Ty1 × Ty1 × Ty2)).bind fun z3 =>
    bif z3.1 then
      some (1, z3.2.2)
    else
      (L_tinfo_Check_1 k k 0 z3.2.1.1 z3.2.1.2 z3.2.2.1 z3.2.2.2.1 z3.2.2.2.2.1 z3.2.2.2.2.2).bind fun z18 =>
      either z18 (fun z18_1 =>
        (L_tinfo_Check_5 k k 0 (z18_1.2.2.2.2.length : Int) 0 z18_1.1.1 z18_1.1.2 ([] : List ((List UInt8) × Int)) z18_1.2.1 z18_1.2.2.1 z18_1.2.2.2.1 z18_1.2.2.2.2).bind fun z27 =>
        either z27 (fun z27_1 =>
          some (0, z27_1))
          fun z27_2 =>
          some (1, z27_2))
        fun z18_2 =>
        some (1, z18_2)
def I_tinfo_Check : Shp := ⟨[0], 0, 0, 4, (.cons Sy3 (.cons .any Sy1))⟩
def E_tinfo_Check : Exits := [(.ret, ⟨[], 0, 0, 4, (.cons (.cell (.int .i64)) Sy1)⟩)]
def C_tinfo_Check (k : Nat) : Con := ⟨17, I_tinfo_Check, E_tinfo_Check, fun z => (fun (z : ((List UInt8) × Bool) × Ty1 × Ty1 × Ty1 × Ty2) => F_tinfo_Check k z.1.1 z.1.2 z.2.1 z.2.2.1 z.2.2.2.1 z.2.2.2.2) z⟩
def LH_tinfo_Set_4 : Shp := ⟨[1, 3, 5, 6, 58, 59], 0, 3, 4, (.cons (.cell .str) (.cons (.ptr 0 0) (.cons (.ptr 1 0) (.cons (.ptr 2 0) (.cons (.cell (.int .i64)) (.cons (.cell (.int .i64)) Sy10))))))⟩
def LE_tinfo_Set_4 : Exits := [(.exit 2, ⟨[3, 6], 0, 2, 4, (.cons (.ptr 0 0) (.cons (.ptr 1 0) (.cons .any (.cons (.ifc 25 Sy3) (.cons Sy5 Sy1)))))⟩)]
def L_tinfo_Set_4 (k : Nat) : Nat → (List UInt8) → Int → Int → (List UInt8) → Bool → Int → Int → (List UInt8) → Ty1 → Ty1 → Ty1 → Ty2 → Option Ty7
  | 0, _, _, _, _, _, _, _, _, _, _, _, _ => none
  | n + 1, name, t58, t59, b0_0, b0_1, b1_0, b1_1, b1_2, w0, w1, w2, w3 =>
    bif decide (t59 < t58) then
      (bif inL t59 w3.length then
         bif (((w3.getD (Int.toNat t59) (0, ([], (0, (0, []))))).2).1) == name then
           bif inL t59 w3.length then
             some (name, (t58, (t59, ((b0_0, b0_1), ((b1_0, (b1_1, b1_2)), (w0, (w1, (w2, w3.set (Int.toNat t59) ((w3.getD (Int.toNat t59) (0, ([], (0, (0, []))))).1, (((w3.getD (Int.toNat t59) (0, ([], (0, (0, []))))).2).1, (b1_0, (b1_1, b1_2))))))))))))
           else none
         else
           some (name, (t58, (t59, ((b0_0, b0_1), ((b1_0, (b1_1, b1_2)), (w0, (w1, (w2, w3))))))))
       else none : Option ((List UInt8) × Int × Int × ((List UInt8) × Bool) × Ty4 × Ty1 × Ty1 × Ty1 × Ty2)).bind fun z11 =>
      bif inI (z11.2.2.1 + 1) then
        L_tinfo_Set_4 k n z11.1 z11.2.1 (z11.2.2.1 + 1) z11.2.2.2.1.1 z11.2.2.2.1.2 z11.2.2.2.2.1.1 z11.2.2.2.2.1.2.1 z11.2.2.2.2.1.2.2 z11.2.2.2.2.2.1 z11.2.2.2.2.2.2.1 z11.2.2.2.2.2.2.2.1 z11.2.2.2.2.2.2.2.2
      else none
    else
      some ((b0_0, b0_1), (w0, (w1, (w2, w3))))
def LH_tinfo_Set_3 : Shp := ⟨[1, 3, 5, 6, 11, 13], 0, 3, 4, Sy23⟩
def LE_tinfo_Set_3 : Exits := [(.exit 0, ⟨[1, 3, 5, 6, 11, 13], 0, 3, 4, Sy23⟩)]
def L_tinfo_Set_3 (k : Nat) : Nat → (List UInt8) → Int → (List UInt8) → Bool → Int → Int → (List UInt8) → Ty1 → Ty1 → Ty1 → Ty2 → Option Ty6
  | 0, _, _, _, _, _, _, _, _, _, _, _ => none
  | n + 1, name, n_, b0_0, b0_1, b1_0, b1_1, b1_2, w0, w1, w2, w3 =>
    bif decide ((w2.length : Int) ≤ n_) then
      bif room ((w2.length + ([(0, (0, []))] : List Ty4).length) * 32) then
        L_tinfo_Set_3 k n name n_ b0_0 b0_1 b1_0 b1_1 b1_2 w0 w1 (w2 ++ [(0, (0, []))]) w3
      else none
    else
      some (name, (n_, ((b0_0, b0_1), ((b1_0, (b1_1, b1_2)), (w0, (w1, (w2, w3)))))))
def LH_tinfo_Set_2 : Shp := ⟨[1, 3, 5, 6, 11, 13], 0, 3, 4, Sy24⟩
def LE_tinfo_Set_2 : Exits := [(.exit 0, ⟨[1, 3, 5, 6, 11, 13], 0, 3, 4, Sy24⟩)]
def L_tinfo_Set_2 (k : Nat) : Nat → (List UInt8) → Int → (List UInt8) → Bool → Int → Int → (List UInt8) → Ty1 → Ty1 → Ty1 → Ty2 → Option Ty6
  | 0, _, _, _, _, _, _, _, _, _, _, _ => none
  | n + 1, name, n_, b0_0, b0_1, b1_0, b1_1, b1_2, w0, w1, w2, w3 =>
    bif decide ((w1.length : Int) ≤ n_) then
      bif room ((w1.length + ([(0, (0, []))] : List Ty4).length) * 32) then
        L_tinfo_Set_2 k n name n_ b0_0 b0_1 b1_0 b1_1 b1_2 w0 (w1 ++ [(0, (0, []))]) w2 w3
      else none
    else
      some (name, (n_, ((b0_0, b0_1), ((b1_0, (b1_1, b1_2)), (w0, (w1, (w2, w3)))))))
def LH_tinfo_Set_1 : Shp := ⟨[1, 3, 5, 6, 11, 13], 0, 3, 4, Sy25⟩
def LE_tinfo_Set_1 : Exits := [(.exit 0, ⟨[1, 3, 5, 6, 11, 13], 0, 3, 4, Sy25⟩)]
def L_tinfo_Set_1 (k : Nat) : Nat → (List UInt8) → Int → (List UInt8) → Bool → Int → Int → (List UInt8) → Ty1 → Ty1 → Ty1 → Ty2 → Option Ty6
  | 0, _, _, _, _, _, _, _, _, _, _, _ => none
  | n + 1, name, n_, b0_0, b0_1, b1_0, b1_1, b1_2, w0, w1, w2, w3 =>
    bif decide ((w0.length : Int) ≤ n_) then
      bif room ((w0.length + ([(0, (0, []))] : List Ty4).length) * 32) then
        L_tinfo_Set_1 k n name n_ b0_0 b0_1 b1_0 b1_1 b1_2 (w0 ++ [(0, (0, []))]) w1 w2 w3
      else none
    else
      some (name, (n_, ((b0_0, b0_1), ((b1_0, (b1_1, b1_2)), (w0, (w1, (w2, w3)))))))
def F_tinfo_Set (k : Nat) (t : (List UInt8) × Bool × Ty1 × Ty1 × Ty1 × Ty2) (name : List UInt8) (c : Int × Int × (List UInt8)) : Option ((((List UInt8) × Bool) × Int) × Ty1 × Ty1 × Ty1 × Ty2) :=
  (F_tinfo_Get k t name).bind fun z1 =>
  bif !z1.2 then
    some ((([], false), 4), ([], ([], ([], []))))
  else
    (F_tinfo_twin k t).bind fun z2 =>
    ((F_tinfo_Place k name).bind fun z3 =>
     bif z3.2.2 then
       ((F_tinfo_list_2 k z3.1 z2.1.1 z2.1.2 z2.2.1 z2.2.2.1 z2.2.2.2.1 z2.2.2.2.2).bind fun z4 =>
        either z4 (fun z4_1 =>
          some (Sum.inl (name, (z3.2.1, (z4_1.1, (c, z4_1.2))))))
          fun z4_r1 =>
          either z4_r1 (fun z4_2 =>
            some (Sum.inr (Sum.inl (name, (z3.2.1, (z4_2.1, (c, z4_2.2)))))))
            fun z4_3 =>
            some (Sum.inr (Sum.inr (name, (z3.2.1, (z4_3.1, (c, z4_3.2)))))) : Option ((Ty6 ⊕ (Ty6 ⊕ Ty6)))).bind fun z5 =>
       either z5 (fun z5_1 =>
         (L_tinfo_Set_1 k k z5_1.1 z5_1.2.1 z5_1.2.2.1.1 z5_1.2.2.1.2 z5_1.2.2.2.1.1 z5_1.2.2.2.1.2.1 z5_1.2.2.2.1.2.2 z5_1.2.2.2.2.1 z5_1.2.2.2.2.2.1 z5_1.2.2.2.2.2.2.1 z5_1.2.2.2.2.2.2.2).bind fun z6 =>
         bif inL z6.2.1 z6.2.2.2.2.1.length then
           some (z6.1, (z6.2.2.1, (z6.2.2.2.1, (z6.2.2.2.2.1.set (Int.toNat z6.2.1) z6.2.2.2.1, z6.2.2.2.2.2))))
         else none)
         fun z5_r1 =>
         either z5_r1 (fun z5_2 =>
           (L_tinfo_Set_2 k k z5_2.1 z5_2.2.1 z5_2.2.2.1.1 z5_2.2.2.1.2 z5_2.2.2.2.1.1 z5_2.2.2.2.1.2.1 z5_2.2.2.2.1.2.2 z5_2.2.2.2.2.1 z5_2.2.2.2.2.2.1 z5_2.2.2.2.2.2.2.1 z5_2.2.2.2.2.2.2.2).bind fun z7 =>
           bif inL z7.2.1 z7.2.2.2.2.2.1.length then
             some (z7.1, (z7.2.2.1, (z7.2.2.2.1, (z7.2.2.2.2.1, (z7.2.2.2.2.2.1.set (Int.toNat z7.2.1) z7.2.2.2.1, z7.2.2.2.2.2.2)))))
           else none)
           fun z5_3 =>
           (L_tinfo_Set_3 k k z5_3.1 z5_3.2.1 z5_3.2.2.1.1 z5_3.2.2.1.2 z5_3.2.2.2.1.1 z5_3.2.2.2.1.2.1 z5_3.2.2.2.1.2.2 z5_3.2.2.2.2.1 z5_3.2.2.2.2.2.1 z5_3.2.2.2.2.2.2.1 z5_3.2.2.2.2.2.2.2).bind fun z8 =>
           bif inL z8.2.1 z8.2.2.2.2.2.2.1.length then
             some (z8.1, (z8.2.2.1, (z8.2.2.2.1, (z8.2.2.2.2.1, (z8.2.2.2.2.2.1, (z8.2.2.2.2.2.2.1.set (Int.toNat z8.2.1) z8.2.2.2.1, z8.2.2.2.2.2.2.2))))))
           else none
     else
       some (name, (z2.1, (c, z2.2))) : Option ((List UInt8) × ((List UInt8) × Bool) × Ty4 × Ty1 × Ty1 × Ty1 × Ty2)).bind fun z9 =>
    (L_tinfo_Set_4 k k z9.1 (z9.2.2.2.2.2.2.length : Int) 0 z9.2.1.1 z9.2.1.2 z9.2.2.1.1 z9.2.2.1.2.1 z9.2.2.1.2.2 z9.2.2.2.1 z9.2.2.2.2.1 z9.2.2.2.2.2.1 z9.2.2.2.2.2.2).bind fun z12 =>
    (F_tinfo_Check k z12.1.1 z12.1.2 z12.2.1 z12.2.2.1 z12.2.2.2.1 z12.2.2.2.2).bind fun z13 =>
    bif z13.1 != 0 then
      some ((([], false), z13.1), ([], ([], ([], []))))
    else
      some ((z12.1, 0), z13.2)
def I_tinfo_Set : Shp := ⟨[0, 1, 2], 0, 0, 0, (.cons Sy6 (.cons (.cell .str) Sy40))⟩
def E_tinfo_Set : Exits := [(.ret, ⟨[], 0, 0, 4, (.cons (.tupL (.cons Sy3 (.cons (.cell (.int .i64)) .nil))) Sy1)⟩)]
def C_tinfo_Set (k : Nat) : Con := ⟨6, I_tinfo_Set, E_tinfo_Set, fun z => (fun (z : Ty3 × (List UInt8) × Int × Int × (List UInt8)) => F_tinfo_Set k z.1 z.2.1 z.2.2) z⟩
def LH_tinfo_Set_2_4 : Shp := ⟨[1, 3, 5, 6, 58, 59], 0, 3, 8, (.cons (.cell .str) (.cons (.ptr 0 0) (.cons (.ptr 1 0) (.cons (.ptr 2 0) (.cons (.cell (.int .i64)) (.cons (.cell (.int .i64)) Sy4))))))⟩
def LE_tinfo_Set_2_4 : Exits := [(.exit 2, ⟨[3, 6], 0, 2, 8, (.cons (.ptr 0 0) (.cons (.ptr 1 0) (.cons .any (.cons (.ifc 25 Sy29) (.cons Sy5 Sy22)))))⟩)]
def L_tinfo_Set_2_4 (k : Nat) : Nat → (List UInt8) → Int → Int → (List UInt8) → Bool → Int → Int → (List UInt8) → Ty1 → Ty1 → Ty1 → Ty2 → Option Ty7
  | 0, _, _, _, _, _, _, _, _, _, _, _, _ => none
  | n + 1, name, t58, t59, b0_0, b0_1, b1_0, b1_1, b1_2, w4, w5, w6, w7 =>
    bif decide (t59 < t58) then
      (bif inL t59 w7.length then
         bif (((w7.getD (Int.toNat t59) (0, ([], (0, (0, []))))).2).1) == name then
           bif inL t59 w7.length then
             some (name, (t58, (t59, ((b0_0, b0_1), ((b1_0, (b1_1, b1_2)), (w4, (w5, (w6, w7.set (Int.toNat t59) ((w7.getD (Int.toNat t59) (0, ([], (0, (0, []))))).1, (((w7.getD (Int.toNat t59) (0, ([], (0, (0, []))))).2).1, (b1_0, (b1_1, b1_2))))))))))))
           else none
         else
           some (name, (t58, (t59, ((b0_0, b0_1), ((b1_0, (b1_1, b1_2)), (w4, (w5, (w6, w7))))))))
       else none : Option ((List UInt8) × Int × Int × ((List UInt8) × Bool) × Ty4 × Ty1 × Ty1 × Ty1 × Ty2)).bind fun z11 =>
      bif inI (z11.2.2.1 + 1) then
        L_tinfo_Set_2_4 k n z11.1 z11.2.1 (z11.2.2.1 + 1) z11.2.2.2.1.1 z11.2.2.2.1.2 z11.2.2.2.2.1.1 z11.2.2.2.2.1.2.1 z11.2.2.2.2.1.2.2 z11.2.2.2.2.2.1 z11.2.2.2.2.2.2.1 z11.2.2.2.2.2.2.2.1 z11.2.2.2.2.2.2.2.2
      else none
    else
      some ((b0_0, b0_1), (w4, (w5, (w6, w7))))
def LH_tinfo_Set_2_3 : Shp := ⟨[1, 3, 5, 6, 11, 13], 0, 3, 8, Sy26⟩
def LE_tinfo_Set_2_3 : Exits := [(.exit 0, ⟨[1, 3, 5, 6, 11, 13], 0, 3, 8, Sy26⟩)]
def L_tinfo_Set_2_3 (k : Nat) : Nat → (List UInt8) → Int → (List UInt8) → Bool → Int → Int → (List UInt8) → Ty1 → Ty1 → Ty1 → Ty2 → Option Ty6
  | 0, _, _, _, _, _, _, _, _, _, _, _ => none
  | n + 1, name, n_, b0_0, b0_1, b1_0, b1_1, b1_2, w4, w5, w6, w7 =>
    bif decide ((w6.length : Int) ≤ n_) then
      bif room ((w6.length + ([(0, (0, []))] : List Ty4).length) * 32) then
        L_tinfo_Set_2_3 k n name n_ b0_0 b0_1 b1_0 b1_1 b1_2 w4 w5 (w6 ++ [(0, (0, []))]) w7
      else none
    else
      some (name, (n_, ((b0_0, b0_1), ((b1_0, (b1_1, b1_2)), (w4, (w5, (w6, w7)))))))
def LH_tinfo_Set_2_2 : Shp := ⟨[1, 3, 5, 6, 11, 13], 0, 3, 8, Sy27⟩
def LE_tinfo_Set_2_2 : Exits := [(.exit 0, ⟨[1, 3, 5, 6, 11, 13], 0, 3, 8, Sy27⟩)]
def L_tinfo_Set_2_2 (k : Nat) : Nat → (List UInt8) → Int → (List UInt8) → Bool → Int → Int → (List UInt8) → Ty1 → Ty1 → Ty1 → Ty2 → Option Ty6
  | 0, _, _, _, _, _, _, _, _, _, _, _ => none
  | n + 1, name, n_, b0_0, b0_1, b1_0, b1_1, b1_2, w4, w5, w6, w7 =>
    bif decide ((w5.length : Int) ≤ n_) then
      bif room ((w5.length + ([(0, (0, []))] : List Ty4).length) * 32) then
        L_tinfo_Set_2_2 k n name n_ b0_0 b0_1 b1_0 b1_1 b1_2 w4 (w5 ++ [(0, (0, []))]) w6 w7
      else none
    else
      some (name, (n_, ((b0_0, b0_1), ((b1_0, (b1_1, b1_2)), (w4, (w5, (w6, w7)))))))
def LH_tinfo_Set_2_1 : Shp := ⟨[1, 3, 5, 6, 11, 13], 0, 3, 8, Sy28⟩
def LE_tinfo_Set_2_1 : Exits := [(.exit 0, ⟨[1, 3, 5, 6, 11, 13], 0, 3, 8, Sy28⟩)]
def L_tinfo_Set_2_1 (k : Nat) : Nat → (List UInt8) → Int → (List UInt8) → Bool → Int → Int → (List UInt8) → Ty1 → Ty1 → Ty1 → Ty2 → Option Ty6
  | 0, _, _, _, _, _, _, _, _, _, _, _ => none
  | n + 1, name, n_, b0_0, b0_1, b1_0, b1_1, b1_2, w4, w5, w6, w7 =>
    bif decide ((w4.length : Int) ≤ n_) then
      bif room ((w4.length + ([(0, (0, []))] : List Ty4).length) * 32) then
        L_tinfo_Set_2_1 k n name n_ b0_0 b0_1 b1_0 b1_1 b1_2 (w4 ++ [(0, (0, []))]) w5 w6 w7
      else none
    else
      some (name, (n_, ((b0_0, b0_1), ((b1_0, (b1_1, b1_2)), (w4, (w5, (w6, w7)))))))
def F_tinfo_Set_2 (k : Nat) (t_0 : List UInt8) (t_1 : Bool) (name : List UInt8) (c : Int × Int × (List UInt8)) (w0 : List Ty4) (w1 : List Ty4) (w2 : List Ty4) (w3 : List Ty5) : Option ((((List UInt8) × Bool) × Int) × Ty1 × Ty1 × Ty1 × Ty2) :=
  (F_tinfo_Get k (t_0, (t_1, (w0, (w1, (w2, w3))))) name).bind fun z1 =>
  bif !z1.2 then
    some ((([], false), 4), ([], ([], ([], []))))
  else
    (F_tinfo_twin k (t_0, (t_1, (w0, (w1, (w2, w3)))))).bind fun z2 =>
    ((F_tinfo_Place k name).bind fun z3 =>
     bif z3.2.2 then
       ((F_tinfo_list_2 k z3.1 z2.1.1 z2.1.2 z2.2.1 z2.2.2.1 z2.2.2.2.1 z2.2.2.2.2).bind fun z4 =>
        either z4 (fun z4_1 =>
          some (Sum.inl (name, (z3.2.1, (z4_1.1, (c, z4_1.2))))))
          fun z4_r1 =>
          either z4_r1 (fun z4_2 =>
            some (Sum.inr (Sum.inl (name, (z3.2.1, (z4_2.1, (c, z4_2.2)))))))
            fun z4_3 =>
            some (Sum.inr (Sum.inr (name, (z3.2.1, (z4_3.1, (c, z4_3.2)))))) : Option ((Ty6 ⊕ (Ty6 ⊕ Ty6)))).bind fun z5 =>
       either z5 (fun z5_1 =>
         (L_tinfo_Set_2_1 k k z5_1.1 z5_1.2.1 z5_1.2.2.1.1 z5_1.2.2.1.2 z5_1.2.2.2.1.1 z5_1.2.2.2.1.2.1 z5_1.2.2.2.1.2.2 z5_1.2.2.2.2.1 z5_1.2.2.2.2.2.1 z5_1.2.2.2.2.2.2.1 z5_1.2.2.2.2.2.2.2).bind fun z6 =>
         bif inL z6.2.1 z6.2.2.2.2.1.length then
           some (z6.1, (z6.2.2.1, (z6.2.2.2.1, (z6.2.2.2.2.1.set (Int.toNat z6.2.1) z6.2.2.2.1, z6.2.2.2.2.2))))
         else none)
         fun z5_r1 =>
         either z5_r1 (fun z5_2 =>
           (L_tinfo_Set_2_2 k k z5_2.1 z5_2.2.1 z5_2.2.2.1.1 z5_2.2.2.1.2 z5_2.2.2.2.1.1 z5_2.2.2.2.1.2.1 z5_2.2.2.2.1.2.2 z5_2.2.2.2.2.1 z5_2.2.2.2.2.2.1 z5_2.2.2.2.2.2.2.1 z5_2.2.2.2.2.2.2.2).bind fun z7 =>
           bif inL z7.2.1 z7.2.2.2.2.2.1.length then
             some (z7.1, (z7.2.2.1, (z7.2.2.2.1, (z7.2.2.2.2.1, (z7.2.2.2.2.2.1.set (Int.toNat z7.2.1) z7.2.2.2.1, z7.2.2.2.2.2.2)))))
           else none)
           fun z5_3 =>
           (L_tinfo_Set_2_3 k k z5_3.1 z5_3.2.1 z5_3.2.2.1.1 z5_3.2.2.1.2 z5_3.2.2.2.1.1 z5_3.2.2.2.1.2.1 z5_3.2.2.2.1.2.2 z5_3.2.2.2.2.1 z5_3.2.2.2.2.2.1 z5_3.2.2.2.2.2.2.1 z5_3.2.2.2.2.2.2.2).bind fun z8 =>
           bif inL z8.2.1 z8.2.2.2.2.2.2.1.length then
             some (z8.1, (z8.2.2.1, (z8.2.2.2.1, (z8.2.2.2.2.1, (z8.2.2.2.2.2.1, (z8.2.2.2.2.2.2.1.set (Int.toNat z8.2.1) z8.2.2.2.1, z8.2.2.2.2.2.2.2))))))
           else none
     else
       some (name, (z2.1, (c, z2.2))) : Option ((List UInt8) × ((List UInt8) × Bool) × Ty4 × Ty1 × Ty1 × Ty1 × Ty2)).bind fun z9 =>
    (L_tinfo_Set_2_4 k k z9.1 (z9.2.2.2.2.2.2.length : Int) 0 z9.2.1.1 z9.2.1.2 z9.2.2.1.1 z9.2.2.1.2.1 z9.2.2.1.2.2 z9.2.2.2.1 z9.2.2.2.2.1 z9.2.2.2.2.2.1 z9.2.2.2.2.2.2).bind fun z12 =>
    (F_tinfo_Check k z12.1.1 z12.1.2 z12.2.1 z12.2.2.1 z12.2.2.2.1 z12.2.2.2.2).bind fun z13 =>
    bif z13.1 != 0 then
      some ((([], false), z13.1), ([], ([], ([], []))))
    else
      some ((z12.1, 0), z13.2)
def I_tinfo_Set_2 : Shp := ⟨[0, 1, 2], 0, 0, 4, (.cons Sy3 (.cons (.cell .str) (.cons (.agg Ky1) (.cons .any Sy1))))⟩
def E_tinfo_Set_2 : Exits := [(.ret, ⟨[], 0, 0, 8, (.cons (.tupL (.cons Sy29 (.cons (.cell (.int .i64)) .nil))) Sy22)⟩)]
def C_tinfo_Set_2 (k : Nat) : Con := ⟨6, I_tinfo_Set_2, E_tinfo_Set_2, fun z => (fun (z : ((List UInt8) × Bool) × (List UInt8) × Ty4 × Ty1 × Ty1 × Ty1 × Ty2) => F_tinfo_Set_2 k z.1.1 z.1.2 z.2.1 z.2.2.1 z.2.2.2.1 z.2.2.2.2.1 z.2.2.2.2.2.1 z.2.2.2.2.2.2) z⟩
def LH_tinfo_made_3 : Shp := ⟨[8, 9, 14, 15], 0, 2, 4, (.cons (.ptr 0 0) (.cons (.ptr 1 0) (.cons (.cell (.sl .str)) (.cons (.cell (.int .i64)) Sy19))))⟩
def LE_tinfo_made_3 : Exits := [(.exit 4, ⟨[8, 9], 0, 2, 4, (.cons (.ptr 0 0) (.cons (.ptr 1 0) Sy19))⟩)]
def L_tinfo_made_3 (k : Nat) : Nat → (List (List UInt8)) → Int → (List UInt8) → Bool → Ty1 → Ty1 → Ty1 → Ty2 → Option Ty7
  | 0, _, _, _, _, _, _, _, _ => none
  | n + 1, l, i, b1_0, b1_1, w0, w1, w2, w3 =>
    bif inI (i + 1) then
      bif decide ((i + 1) < (l.length : Int)) then
        bif inL i l.length then
          bif inI (i + 1) then
            bif inL (i + 1) l.length then
              (F_tinfo_Set_2 k b1_0 b1_1 (l.getD (Int.toNat i) []) (1, (0, l.getD (Int.toNat (i + 1)) [])) w0 w1 w2 w3).bind fun z11 =>
              bif inI (i + 2) then
                L_tinfo_made_3 k n l (i + 2) z11.1.1.1 z11.1.1.2 z11.2.1 z11.2.2.1 z11.2.2.2.1 z11.2.2.2.2
              else none
            else none
          else none
        else none
      else
        some ((b1_0, b1_1), (w0, (w1, (w2, w3))))
    else none
def LH_tinfo_made_2 : Shp := ⟨[1, 3, 8, 9, 32, 33], 0, 2, 4, (.cons (.cell .str) (.cons (.cell (.sl (.int .i64))) (.cons (.ptr 0 0) (.cons (.ptr 1 0) (.cons (.agg (.pair .str (.pair .str (.pair .str (.pair .str .str))))) (.cons (.cell (.int .i64)) Sy19))))))⟩
def LE_tinfo_made_2 : Exits := [(.exit 2, ⟨[1, 8, 9], 0, 2, 4, (.cons (.cell .str) (.cons (.ptr 0 0) (.cons (.ptr 1 0) Sy19)))⟩)]
def L_tinfo_made_2 (k : Nat) : Nat → (List UInt8) → (List Int) → Ty9 → Int → (List UInt8) → Bool → Ty1 → Ty1 → Ty1 → Ty2 → Option ((List UInt8) × ((List UInt8) × Bool) × Ty1 × Ty1 × Ty1 × Ty2)
  | 0, _, _, _, _, _, _, _, _, _, _ => none
  | n + 1, texts, numbers, t32, t33, b1_0, b1_1, w0, w1, w2, w3 =>
    bif decide (t33 < 5) then
      (bif inL t33 5 then
         bif decide (t33 < (numbers.length : Int)) then
           bif inL t33 numbers.length then
             (F_tinfo_Set_2 k b1_0 b1_1 (([t32.1, t32.2.1, t32.2.2.1, t32.2.2.2.1, t32.2.2.2.2] : List (List UInt8)).getD (Int.toNat t33) []) (1, (numbers.getD (Int.toNat t33) 0, [])) w0 w1 w2 w3).bind fun z6 =>
             some (texts, (numbers, (t32, (t33, (z6.1.1, z6.2)))))
           else none
         else
           some (texts, (numbers, (t32, (t33, ((b1_0, b1_1), (w0, (w1, (w2, w3))))))))
       else none : Option ((List UInt8) × (List Int) × Ty9 × Int × ((List UInt8) × Bool) × Ty1 × Ty1 × Ty1 × Ty2)).bind fun z7 =>
      bif inI (z7.2.2.2.1 + 1) then
        L_tinfo_made_2 k n z7.1 z7.2.1 z7.2.2.1 (z7.2.2.2.1 + 1) z7.2.2.2.2.1.1 z7.2.2.2.2.1.2 z7.2.2.2.2.2.1 z7.2.2.2.2.2.2.1 z7.2.2.2.2.2.2.2.1 z7.2.2.2.2.2.2.2.2
      else none
    else
      some (texts, ((b1_0, b1_1), (w0, (w1, (w2, w3)))))
def LH_tinfo_made_1 : Shp := ⟨[1, 3, 8, 9, 18, 19, 20], 0, 2, 4, (.cons (.cell .str) (.cons (.cell (.sl (.int .i64))) (.cons (.ptr 0 0) (.cons (.ptr 1 0) (.cons (.cell (.sl .str)) (.cons (.cell (.int .i64)) (.cons (.cell (.int .i64)) Sy19)))))))⟩
def LE_tinfo_made_1 : Exits := [(.exit 0, ⟨[1, 3, 8, 9], 0, 2, 4, (.cons (.cell .str) (.cons (.cell (.sl (.int .i64))) (.cons (.ptr 0 0) (.cons (.ptr 1 0) Sy19))))⟩)]
def L_tinfo_made_1 (k : Nat) : Nat → (List UInt8) → (List Int) → (List (List UInt8)) → Int → Int → (List UInt8) → Bool → Ty1 → Ty1 → Ty1 → Ty2 → Option ((List UInt8) × (List Int) × ((List UInt8) × Bool) × Ty1 × Ty1 × Ty1 × Ty2)
  | 0, _, _, _, _, _, _, _, _, _, _, _ => none
  | n + 1, texts, numbers, t18, t19, t20, b1_0, b1_1, w0, w1, w2, w3 =>
    bif decide (t20 < t19) then
      bif inL t20 t18.length then
        (F_tinfo_Set_2 k b1_0 b1_1 (t18.getD (Int.toNat t20) []) (1, (0, [])) w0 w1 w2 w3).bind fun z2 =>
        bif inI (t20 + 1) then
          L_tinfo_made_1 k n texts numbers t18 t19 (t20 + 1) z2.1.1.1 z2.1.1.2 z2.2.1 z2.2.2.1 z2.2.2.2.1 z2.2.2.2.2
        else none
      else none
    else
      some (texts, (numbers, ((b1_0, b1_1), (w0, (w1, (w2, w3))))))
def F_tinfo_made (k : Nat) (names : List UInt8) (texts : List UInt8) (flags : List (List UInt8)) (numbers : List Int) : Option Ty7 :=
  (L_tinfo_made_1 k k texts numbers flags (flags.length : Int) 0 names false [] [] [] []).bind fun z3 =>
  (L_tinfo_made_2 k k z3.1 z3.2.1 ([99, 111, 108, 115], ([108, 105, 110, 101, 115], ([105, 116], ([99, 111, 108, 111, 114, 115], [112, 97, 105, 114, 115])))) 0 z3.2.2.1.1 z3.2.2.1.2 z3.2.2.2.1 z3.2.2.2.2.1 z3.2.2.2.2.2.1 z3.2.2.2.2.2.2).bind fun z8 =>
  (F_strings_Split k z8.1 [32]).bind fun z9 =>
  (L_tinfo_made_3 k k z9 0 z8.2.1.1 z8.2.1.2 z8.2.2.1 z8.2.2.2.1 z8.2.2.2.2.1 z8.2.2.2.2.2).bind fun z12 =>
  some z12
def I_tinfo_made : Shp := ⟨[0, 1, 2, 3], 0, 0, 0, (.cons (.cell .str) (.cons (.cell .str) (.cons (.cell (.sl .str)) (.cons (.cell (.sl (.int .i64))) (.cons .any .nil)))))⟩
def E_tinfo_made : Exits := [(.ret, ⟨[], 0, 0, 4, (.cons Sy3 Sy1)⟩)]
def C_tinfo_made (k : Nat) : Con := ⟨18, I_tinfo_made, E_tinfo_made, fun z => (fun (z : (List UInt8) × (List UInt8) × (List (List UInt8)) × (List Int)) => F_tinfo_made k z.1 z.2.1 z.2.2.1 z.2.2.2) z⟩
def F_tinfo_Shipped (k : Nat) (name : List UInt8) : Option ((((List UInt8) × Bool) × Bool) × Ty1 × Ty1 × Ty1 × Ty2) :=
  bif name == [100, 117, 109, 98] then
    (F_tinfo_made k [100, 117, 109, 98, 124, 97, 32, 100, 117, 109, 98, 32, 116, 101, 114, 109, 105, 110, 97, 108] [98, 101, 108, 32, 7, 32, 99, 114, 32, 13, 32, 99, 117, 100, 49, 32, 10, 32, 105, 110, 100, 32, 10] [[97, 109]] [80]).bind fun z1 =>
    some ((z1.1, true), z1.2)
  else
    bif name == [118, 116, 50, 50, 48] then
      (F_tinfo_made k [118, 116, 50, 50, 48, 124, 118, 116, 50, 48, 48, 124, 97, 32, 86, 84, 50, 50, 48] [98, 101, 108, 32, 7, 32, 99, 114, 32, 13, 32, 99, 117, 100, 49, 32, 10, 32, 105, 110, 100, 32, 10, 32, 99, 117, 98, 49, 32, 8, 32, 99, 117, 102, 49, 32, 27, 91, 67, 32, 99, 117, 117, 49, 32, 27, 91, 65, 32, 104, 111, 109, 101, 32, 27, 91, 72, 32, 99, 108, 101, 97, 114, 32, 27, 91, 72, 27, 91, 74, 32, 101, 108, 32, 27, 91, 75, 32, 101, 100, 32, 27, 91, 74, 32, 99, 117, 112, 32, 27, 91, 37, 105, 37, 112, 49, 37, 100, 59, 37, 112, 50, 37, 100, 72, 32, 99, 115, 114, 32, 27, 91, 37, 105, 37, 112, 49, 37, 100, 59, 37, 112, 50, 37, 100, 114, 32, 100, 99, 104, 49, 32, 27, 91, 80, 32, 100, 99, 104, 32, 27, 91, 37, 112, 49, 37, 100, 80, 32, 100, 108, 49, 32, 27, 91, 77, 32, 100, 108, 32, 27, 91, 37, 112, 49, 37, 100, 77, 32, 105, 108, 49, 32, 27, 91, 76, 32, 105, 108, 32, 27, 91, 37, 112, 49, 37, 100, 76, 32, 105, 99, 104, 32, 27, 91, 37, 112, 49, 37, 100, 64, 32, 101, 99, 104, 32, 27, 91, 37, 112, 49, 37, 100, 88, 32, 115, 109, 105, 114, 32, 27, 91, 52, 104, 32, 114, 109, 105, 114, 32, 27, 91, 52, 108, 32, 99, 117, 117, 32, 27, 91, 37, 112, 49, 37, 100, 65, 32, 99, 117, 100, 32, 27, 91, 37, 112, 49, 37, 100, 66, 32, 99, 117, 102, 32, 27, 91, 37, 112, 49, 37, 100, 67, 32, 99, 117, 98, 32, 27, 91, 37, 112, 49, 37, 100, 68, 32, 115, 103, 114, 48, 32, 27, 91, 109, 32, 114, 101, 118, 32, 27, 91, 55, 109, 32, 98, 111, 108, 100, 32, 27, 91, 49, 109, 32, 115, 109, 117, 108, 32, 27, 91, 52, 109, 32, 114, 109, 117, 108, 32, 27, 91, 50, 52, 109, 32, 114, 105, 32, 27, 77, 32, 115, 99, 32, 27, 55, 32, 114, 99, 32, 27, 56, 32, 110, 101, 108, 32, 27, 69, 32, 99, 110, 111, 114, 109, 32, 27, 91, 63, 50, 53, 104, 32, 99, 105, 118, 105, 115, 32, 27, 91, 63, 50, 53, 108, 32, 107, 99, 117, 98, 49, 32, 27, 91, 68, 32, 107, 99, 117, 102, 49, 32, 27, 91, 67, 32, 107, 99, 117, 117, 49, 32, 27, 91, 65, 32, 107, 99, 117, 100, 49, 32, 27, 91, 66, 32, 107, 100, 99, 104, 49, 32, 27, 91, 51, 126, 32, 107, 104, 111, 109, 101, 32, 27, 91, 49, 126, 32, 107, 101, 110, 100, 32, 27, 91, 52, 126, 32, 107, 98, 115, 32, 8] [[97, 109], [109, 105, 114], [109, 115, 103, 114], [120, 101, 110, 108]] [80, 24, 8]).bind fun z2 =>
      some ((z2.1, true), z2.2)
    else
      bif name == [120, 116, 101, 114, 109] then
        (F_tinfo_made k [120, 116, 101, 114, 109, 124, 97, 110, 32, 88, 32, 116, 101, 114, 109, 105, 110, 97, 108] [98, 101, 108, 32, 7, 32, 99, 114, 32, 13, 32, 99, 117, 100, 49, 32, 10, 32, 105, 110, 100, 32, 10, 32, 99, 117, 98, 49, 32, 8, 32, 99, 117, 102, 49, 32, 27, 91, 67, 32, 99, 117, 117, 49, 32, 27, 91, 65, 32, 104, 111, 109, 101, 32, 27, 91, 72, 32, 99, 108, 101, 97, 114, 32, 27, 91, 72, 27, 91, 74, 32, 101, 108, 32, 27, 91, 75, 32, 101, 100, 32, 27, 91, 74, 32, 99, 117, 112, 32, 27, 91, 37, 105, 37, 112, 49, 37, 100, 59, 37, 112, 50, 37, 100, 72, 32, 99, 115, 114, 32, 27, 91, 37, 105, 37, 112, 49, 37, 100, 59, 37, 112, 50, 37, 100, 114, 32, 100, 99, 104, 49, 32, 27, 91, 80, 32, 100, 99, 104, 32, 27, 91, 37, 112, 49, 37, 100, 80, 32, 100, 108, 49, 32, 27, 91, 77, 32, 100, 108, 32, 27, 91, 37, 112, 49, 37, 100, 77, 32, 105, 108, 49, 32, 27, 91, 76, 32, 105, 108, 32, 27, 91, 37, 112, 49, 37, 100, 76, 32, 105, 99, 104, 32, 27, 91, 37, 112, 49, 37, 100, 64, 32, 101, 99, 104, 32, 27, 91, 37, 112, 49, 37, 100, 88, 32, 115, 109, 105, 114, 32, 27, 91, 52, 104, 32, 114, 109, 105, 114, 32, 27, 91, 52, 108, 32, 99, 117, 117, 32, 27, 91, 37, 112, 49, 37, 100, 65, 32, 99, 117, 100, 32, 27, 91, 37, 112, 49, 37, 100, 66, 32, 99, 117, 102, 32, 27, 91, 37, 112, 49, 37, 100, 67, 32, 99, 117, 98, 32, 27, 91, 37, 112, 49, 37, 100, 68, 32, 115, 103, 114, 48, 32, 27, 91, 109, 32, 114, 101, 118, 32, 27, 91, 55, 109, 32, 98, 111, 108, 100, 32, 27, 91, 49, 109, 32, 115, 109, 117, 108, 32, 27, 91, 52, 109, 32, 114, 109, 117, 108, 32, 27, 91, 50, 52, 109, 32, 114, 105, 32, 27, 77, 32, 115, 99, 32, 27, 55, 32, 114, 99, 32, 27, 56, 32, 110, 101, 108, 32, 27, 69, 32, 99, 110, 111, 114, 109, 32, 27, 91, 63, 50, 53, 104, 32, 99, 105, 118, 105, 115, 32, 27, 91, 63, 50, 53, 108, 32, 107, 99, 117, 98, 49, 32, 27, 91, 68, 32, 107, 99, 117, 102, 49, 32, 27, 91, 67, 32, 107, 99, 117, 117, 49, 32, 27, 91, 65, 32, 107, 99, 117, 100, 49, 32, 27, 91, 66, 32, 107, 100, 99, 104, 49, 32, 27, 91, 51, 126, 32, 107, 104, 111, 109, 101, 32, 27, 91, 49, 126, 32, 107, 101, 110, 100, 32, 27, 91, 52, 126, 32, 107, 98, 115, 32, 8, 32, 107, 98, 115, 32, 127, 32, 107, 104, 111, 109, 101, 32, 27, 79, 72, 32, 107, 101, 110, 100, 32, 27, 79, 70, 32, 107, 99, 117, 98, 49, 32, 27, 79, 68, 32, 107, 99, 117, 102, 49, 32, 27, 79, 67, 32, 107, 99, 117, 117, 49, 32, 27, 79, 65, 32, 107, 99, 117, 100, 49, 32, 27, 79, 66, 32, 115, 109, 107, 120, 32, 27, 91, 63, 49, 104, 27, 61, 32, 114, 109, 107, 120, 32, 27, 91, 63, 49, 108, 27, 62, 32, 104, 112, 97, 32, 27, 91, 37, 105, 37, 112, 49, 37, 100, 71, 32, 118, 112, 97, 32, 27, 91, 37, 105, 37, 112, 49, 37, 100, 100, 32, 105, 99, 104, 49, 32, 27, 91, 64, 32, 105, 110, 100, 110, 32, 27, 91, 37, 112, 49, 37, 100, 83, 32, 114, 105, 110, 32, 27, 91, 37, 112, 49, 37, 100, 84, 32, 99, 98, 116, 32, 27, 91, 90] [[97, 109], [109, 105, 114], [109, 115, 103, 114], [120, 101, 110, 108]] [80, 24, 8, 8, 64]).bind fun z3 =>
        some ((z3.1, true), z3.2)
      else
        some ((([], false), false), ([], ([], ([], []))))
def I_tinfo_Shipped : Shp := ⟨[0], 0, 0, 0, Sy21⟩
def E_tinfo_Shipped : Exits := [(.ret, ⟨[], 0, 0, 4, (.cons (.tupL (.cons Sy3 Sy17)) Sy1)⟩)]
def C_tinfo_Shipped (k : Nat) : Con := ⟨7, I_tinfo_Shipped, E_tinfo_Shipped, fun z => (fun (z : List UInt8) => F_tinfo_Shipped k z) z⟩
def LH_lanyardref03_Place_2 : Shp := ⟨[0, 5, 6, 7, 8], 0, 0, 1, (.cons (.cell .str) (.cons (.rs 0) (.cons (.cell (.int .i64)) (.cons (.cell (.sl .str)) Sy33))))⟩
def LE_lanyardref03_Place_2 : Exits := [(.exit 2, ⟨[0, 5, 6], 0, 0, 1, (.cons (.cell .str) (.cons (.rs 0) Sy33))⟩), (.ret, ⟨[2, 3, 4], 0, 0, 0, Sy31⟩)]
def L_lanyardref03_Place_2 (k : Nat) : Nat → (List UInt8) → Int → (List (List UInt8)) → Int → (List (List UInt8)) → Option (((List UInt8) × Int × (List (List UInt8))) ⊕ (Int × Int))
  | 0, _, _, _, _, _ => none
  | n + 1, name, k_, l, i, w0 =>
    bif inI (i + 1) then
      bif decide ((i + 1) < (l.length : Int)) then
        bif inL i l.length then
          bif (l.getD (Int.toNat i) []) == name then
            bif inI (i + 1) then
              bif inL (i + 1) l.length then
                (F_strconv_Atoi k (l.getD (Int.toNat (i + 1)) [])).bind fun z7 =>
                some (Sum.inr (k_, z7))
              else none
            else none
          else
            bif inI (i + 2) then
              L_lanyardref03_Place_2 k n name k_ l (i + 2) w0
            else none
        else none
      else
        some (Sum.inl (name, (k_, w0)))
    else none
def LH_lanyardref03_Place_1 : Shp := ⟨[0, 5, 6], 0, 0, 1, (.cons (.cell .str) (.cons (.rs 0) Sy33))⟩
def LE_lanyardref03_Place_1 : Exits := [(.exit 0, ⟨[], 0, 0, 0, (.cons .any .nil)⟩), (.ret, ⟨[2, 3, 4], 0, 0, 0, Sy31⟩)]
def L_lanyardref03_Place_1 (k : Nat) : Nat → (List UInt8) → Int → (List (List UInt8)) → Option (Unit ⊕ (Int × Int))
  | 0, _, _, _ => none
  | n + 1, name, k_, w0 =>
    bif decide (k_ < 3) then
      bif inL k_ w0.length then
        (F_strings_Fields k (w0.getD (Int.toNat k_) [])).bind fun z5 =>
        (L_lanyardref03_Place_2 k k name k_ z5 0 w0).bind fun z8 =>
        either z8 (fun z8_1 =>
          bif inI (z8_1.2.1 + 1) then
            L_lanyardref03_Place_1 k n z8_1.1 (z8_1.2.1 + 1) z8_1.2.2
          else none)
          fun z8_2 =>
          some (Sum.inr z8_2)
      else none
    else
      some (Sum.inl ())
def F_lanyardref03_Place (k : Nat) (name : List UInt8) : Option (Int × Int × Bool) :=
  (L_lanyardref03_Place_1 k k name 0 [[98, 119, 32, 48, 32, 97, 109, 32, 49, 32, 120, 115, 98, 32, 50, 32, 120, 104, 112, 32, 51, 32, 120, 101, 110, 108, 32, 52, 32, 101, 111, 32, 53, 32, 103, 110, 32, 54, 32, 104, 99, 32, 55, 32, 107, 109, 32, 56, 32, 104, 115, 32, 57, 32, 105, 110, 32, 49, 48, 32, 100, 97, 32, 49, 49, 32, 100, 98, 32, 49, 50, 32, 109, 105, 114, 32, 49, 51, 32, 109, 115, 103, 114, 32, 49, 52, 32, 111, 115, 32, 49, 53], [99, 111, 108, 115, 32, 48, 32, 105, 116, 32, 49, 32, 108, 105, 110, 101, 115, 32, 50, 32, 108, 109, 32, 51, 32, 120, 109, 99, 32, 52, 32, 112, 98, 32, 53, 32, 118, 116, 32, 54, 32, 119, 115, 108, 32, 55, 32, 110, 108, 97, 98, 32, 56, 32, 108, 104, 32, 57, 32, 108, 119, 32, 49, 48, 32, 109, 97, 32, 49, 49, 32, 119, 110, 117, 109, 32, 49, 50, 32, 99, 111, 108, 111, 114, 115, 32, 49, 51, 32, 112, 97, 105, 114, 115, 32, 49, 52, 32, 110, 99, 118, 32, 49, 53], [99, 98, 116, 32, 48, 32, 98, 101, 108, 32, 49, 32, 99, 114, 32, 50, 32, 99, 115, 114, 32, 51, 32, 116, 98, 99, 32, 52, 32, 99, 108, 101, 97, 114, 32, 53, 32, 101, 108, 32, 54, 32, 101, 100, 32, 55, 32, 104, 112, 97, 32, 56, 32, 99, 109, 100, 99, 104, 32, 57, 32, 99, 117, 112, 32, 49, 48, 32, 99, 117, 100, 49, 32, 49, 49, 32, 104, 111, 109, 101, 32, 49, 50, 32, 99, 105, 118, 105, 115, 32, 49, 51, 32, 99, 117, 98, 49, 32, 49, 52, 32, 109, 114, 99, 117, 112, 32, 49, 53, 32, 99, 110, 111, 114, 109, 32, 49, 54, 32, 99, 117, 102, 49, 32, 49, 55, 32, 108, 108, 32, 49, 56, 32, 99, 117, 117, 49, 32, 49, 57, 32, 99, 118, 118, 105, 115, 32, 50, 48, 32, 100, 99, 104, 49, 32, 50, 49, 32, 100, 108, 49, 32, 50, 50, 32, 100, 115, 108, 32, 50, 51, 32, 104, 100, 32, 50, 52, 32, 115, 109, 97, 99, 115, 32, 50, 53, 32, 98, 108, 105, 110, 107, 32, 50, 54, 32, 98, 111, 108, 100, 32, 50, 55, 32, 115, 109, 99, 117, 112, 32, 50, 56, 32, 115, 109, 100, 99, 32, 50, 57, 32, 100, 105, 109, 32, 51, 48, 32, 115, 109, 105, 114, 32, 51, 49, 32, 105, 110, 118, 105, 115, 32, 51, 50, 32, 112, 114, 111, 116, 32, 51, 51, 32, 114, 101, 118, 32, 51, 52, 32, 115, 109, 115, 111, 32, 51, 53, 32, 115, 109, 117, 108, 32, 51, 54, 32, 101, 99, 104, 32, 51, 55, 32, 114, 109, 97, 99, 115, 32, 51, 56, 32, 115, 103, 114, 48, 32, 51, 57, 32, 114, 109, 99, 117, 112, 32, 52, 48, 32, 114, 109, 100, 99, 32, 52, 49, 32, 114, 109, 105, 114, 32, 52, 50, 32, 114, 109, 115, 111, 32, 52, 51, 32, 114, 109, 117, 108, 32, 52, 52, 32, 102, 108, 97, 115, 104, 32, 52, 53, 32, 105, 99, 104, 49, 32, 53, 50, 32, 105, 108, 49, 32, 53, 51, 32, 105, 112, 32, 53, 52, 32, 107, 98, 115, 32, 53, 53, 32, 107, 100, 99, 104, 49, 32, 53, 57, 32, 107, 99, 117, 100, 49, 32, 54, 49, 32, 107, 104, 111, 109, 101, 32, 55, 54, 32, 107, 105, 99, 104, 49, 32, 55, 55, 32, 107, 99, 117, 98, 49, 32, 55, 57, 32, 107, 110, 112, 32, 56, 49, 32, 107, 112, 112, 32, 56, 50, 32, 107, 99, 117, 102, 49, 32, 56, 51, 32, 107, 99, 117, 117, 49, 32, 56, 55, 32, 114, 109, 107, 120, 32, 56, 56, 32, 115, 109, 107, 120, 32, 56, 57, 32, 110, 101, 108, 32, 49, 48, 51, 32, 100, 99, 104, 32, 49, 48, 53, 32, 100, 108, 32, 49, 48, 54, 32, 99, 117, 100, 32, 49, 48, 55, 32, 105, 99, 104, 32, 49, 48, 56, 32, 105, 110, 100, 110, 32, 49, 48, 57, 32, 105, 108, 32, 49, 49, 48, 32, 99, 117, 98, 32, 49, 49, 49, 32, 99, 117, 102, 32, 49, 49, 50, 32, 114, 105, 110, 32, 49, 49, 51, 32, 99, 117, 117, 32, 49, 49, 52, 32, 114, 99, 32, 49, 50, 54, 32, 118, 112, 97, 32, 49, 50, 55, 32, 115, 99, 32, 49, 50, 56, 32, 105, 110, 100, 32, 49, 50, 57, 32, 114, 105, 32, 49, 51, 48, 32, 115, 103, 114, 32, 49, 51, 49, 32, 104, 116, 115, 32, 49, 51, 50, 32, 107, 101, 110, 100, 32, 49, 54, 52]]).bind fun z9 =>
  either z9 (fun z9_1 =>
    some (0, (0, false)))
    fun z9_2 =>
    some (z9_2.1, (z9_2.2, true))
def I_lanyardref03_Place : Shp := ⟨[0], 0, 0, 0, Sy21⟩
def E_lanyardref03_Place : Exits := [(.ret, ⟨[], 0, 0, 0, (.cons (.tupL (.cons (.cell (.int .i64)) (.cons (.cell (.int .i64)) Sy17))) .nil)⟩)]
def C_lanyardref03_Place (k : Nat) : Con := ⟨32, I_lanyardref03_Place, E_lanyardref03_Place, fun z => (fun (z : List UInt8) => F_lanyardref03_Place k z) z⟩
def LH_lanyardref03_with_1 : Shp := ⟨[1, 5, 7], 0, 1, 1, (.cons (.cell (.int .i64)) (.cons (.ptr 0 0) (.cons (.rs 0) (.cons .any (.cons Sy7 Sy15)))))⟩
def LE_lanyardref03_with_1 : Exits := [(.exit 0, ⟨[1, 5, 7], 0, 1, 1, (.cons (.cell (.int .i64)) (.cons (.ptr 0 0) (.cons (.rs 0) (.cons .any (.cons Sy7 Sy15)))))⟩)]
def L_lanyardref03_with_1 (k : Nat) : Nat → Int → Int → Int → (List UInt8) → Ty1 → Option (Int × Ty4 × Ty1)
  | 0, _, _, _, _, _ => none
  | n + 1, n_, b0_0, b0_1, b0_2, w0 =>
    bif decide ((w0.length : Int) ≤ n_) then
      bif room ((w0.length + ([(0, (0, []))] : List Ty4).length) * 32) then
        L_lanyardref03_with_1 k n n_ b0_0 b0_1 b0_2 (w0 ++ [(0, (0, []))])
      else none
    else
      some (n_, ((b0_0, (b0_1, b0_2)), w0))
def F_lanyardref03_with (k : Nat) (l : List Ty4) (n_ : Int) (c : Int × Int × (List UInt8)) : Option Ty1 :=
  bif room (l.length * 32) then
    (L_lanyardref03_with_1 k k n_ c.1 c.2.1 c.2.2 l).bind fun z1 =>
    bif inL z1.1 z1.2.2.length then
      some (z1.2.2.set (Int.toNat z1.1) z1.2.1)
    else none
  else none
def I_lanyardref03_with : Shp := ⟨[0, 1, 2], 0, 0, 0, (.cons (.cell (.sl Ky1)) (.cons (.cell (.int .i64)) Sy40))⟩
def E_lanyardref03_with : Exits := [(.ret, ⟨[], 0, 0, 0, (.cons (.cell (.sl Ky1)) .nil)⟩)]
def C_lanyardref03_with (k : Nat) : Con := ⟨33, I_lanyardref03_with, E_lanyardref03_with, fun z => (fun (z : Ty1 × Int × Int × Int × (List UInt8)) => F_lanyardref03_with k z.1 z.2.1 z.2.2) z⟩
def LH_lanyardref03_on_1 : Shp := ⟨[2, 4, 5, 6], 0, 2, 0, (.cons (.ptr 0 0) (.cons (.ptr 1 0) (.cons (.cell (.sl .str)) (.cons (.cell (.int .i64)) (.cons .any (.cons Sy2 (.cons Sy5 .nil)))))))⟩
def LE_lanyardref03_on_1 : Exits := [(.exit 0, ⟨[2, 4], 0, 2, 0, Sy34⟩)]
def L_lanyardref03_on_1 (k : Nat) : Nat → (List (List UInt8)) → Int → (List UInt8) → Bool → Ty1 → Ty1 → Ty1 → Ty2 → Option Ty3
  | 0, _, _, _, _, _, _, _, _ => none
  | n + 1, l, i, b0_0, b0_1, b0_2, b0_3, b0_4, b0_5 =>
    bif decide (i < (l.length : Int)) then
      bif inL i l.length then
        (F_lanyardref03_Place k (l.getD (Int.toNat i) [])).bind fun z4 =>
        (F_lanyardref03_with k b0_2 z4.2.1 (1, (0, []))).bind fun z5 =>
        bif inI (i + 1) then
          L_lanyardref03_on_1 k n l (i + 1) b0_0 b0_1 z5 b0_3 b0_4 b0_5
        else none
      else none
    else
      some (b0_0, (b0_1, (b0_2, (b0_3, (b0_4, b0_5)))))
def F_lanyardref03_on (k : Nat) (t : (List UInt8) × Bool × Ty1 × Ty1 × Ty1 × Ty2) (names : List UInt8) : Option Ty3 :=
  (F_strings_Fields k names).bind fun z1 =>
  (L_lanyardref03_on_1 k k z1 0 t.1 t.2.1 t.2.2.1 t.2.2.2.1 t.2.2.2.2.1 t.2.2.2.2.2).bind fun z6 =>
  some z6
def I_lanyardref03_on : Shp := ⟨[0, 1], 0, 0, 0, (.cons Sy6 Sy21)⟩
def E_lanyardref03_on : Exits := [(.ret, ⟨[], 0, 0, 0, (.cons Sy6 .nil)⟩)]
def C_lanyardref03_on (k : Nat) : Con := ⟨21, I_lanyardref03_on, E_lanyardref03_on, fun z => (fun (z : Ty3 × (List UInt8)) => F_lanyardref03_on k z.1 z.2) z⟩
def F_lanyardref03_num (k : Nat) (t : (List UInt8) × Bool × Ty1 × Ty1 × Ty1 × Ty2) (name : List UInt8) (n_ : Int) : Option Ty3 :=
  (F_lanyardref03_Place k name).bind fun z1 =>
  (F_lanyardref03_with k t.2.2.2.1 z1.2.1 (1, (n_, []))).bind fun z2 =>
  some (t.1, (t.2.1, (t.2.2.1, (z2, t.2.2.2.2))))
def I_lanyardref03_num : Shp := ⟨[0, 1, 2], 0, 0, 0, (.cons Sy6 (.cons (.cell .str) Sy30))⟩
def E_lanyardref03_num : Exits := [(.ret, ⟨[], 0, 0, 0, (.cons Sy6 .nil)⟩)]
def C_lanyardref03_num (k : Nat) : Con := ⟨20, I_lanyardref03_num, E_lanyardref03_num, fun z => (fun (z : Ty3 × (List UInt8) × Int) => F_lanyardref03_num k z.1 z.2.1 z.2.2) z⟩
def LH_lanyardref03_set_1 : Shp := ⟨[1, 2, 4], 0, 2, 0, (.cons (.cell .str) Sy34)⟩
def LE_lanyardref03_set_1 : Exits := [(.exit 0, ⟨[2, 4], 0, 2, 0, Sy34⟩)]
def L_lanyardref03_set_1 (k : Nat) : Nat → (List UInt8) → (List UInt8) → Bool → Ty1 → Ty1 → Ty1 → Ty2 → Option Ty3
  | 0, _, _, _, _, _, _, _ => none
  | n + 1, all, b0_0, b0_1, b0_2, b0_3, b0_4, b0_5 =>
    bif !(all == []) then
      ((F_strings_IndexByte k all 32).bind fun z1 =>
       bif decide (z1 ≥ 0) then
         bif inR 0 z1 all.length then
           bif inI (z1 + 1) then
             bif inR (z1 + 1) (all.length : Int) all.length then
               some (cut all 0 z1, (cut all (z1 + 1) (all.length : Int), (b0_0, (b0_1, (b0_2, (b0_3, (b0_4, b0_5)))))))
             else none
           else none
         else none
       else
         some (all, ([], (b0_0, (b0_1, (b0_2, (b0_3, (b0_4, b0_5))))))) : Option ((List UInt8) × (List UInt8) × (List UInt8) × Bool × Ty1 × Ty1 × Ty1 × Ty2)).bind fun z2 =>
      (F_strings_IndexByte k z2.1 61).bind fun z3 =>
      bif decide (z3 < 0) then
        L_lanyardref03_set_1 k n z2.2.1 z2.2.2.1 z2.2.2.2.1 z2.2.2.2.2.1 z2.2.2.2.2.2.1 z2.2.2.2.2.2.2.1 z2.2.2.2.2.2.2.2
      else
        bif inR 0 z3 z2.1.length then
          (F_lanyardref03_Place k (cut z2.1 0 z3)).bind fun z4 =>
          bif inI (z3 + 1) then
            bif inR (z3 + 1) (z2.1.length : Int) z2.1.length then
              (F_lanyardref03_with k z2.2.2.2.2.2.2.1 z4.2.1 (1, (0, cut z2.1 (z3 + 1) (z2.1.length : Int)))).bind fun z5 =>
              L_lanyardref03_set_1 k n z2.2.1 z2.2.2.1 z2.2.2.2.1 z2.2.2.2.2.1 z2.2.2.2.2.2.1 z5 z2.2.2.2.2.2.2.2
            else none
          else none
        else none
    else
      some (b0_0, (b0_1, (b0_2, (b0_3, (b0_4, b0_5)))))
def F_lanyardref03_set (k : Nat) (t : (List UInt8) × Bool × Ty1 × Ty1 × Ty1 × Ty2) (all : List UInt8) : Option Ty3 :=
  (L_lanyardref03_set_1 k k all t.1 t.2.1 t.2.2.1 t.2.2.2.1 t.2.2.2.2.1 t.2.2.2.2.2).bind fun z6 =>
  some z6
def I_lanyardref03_set : Shp := ⟨[0, 1], 0, 0, 0, (.cons Sy6 Sy21)⟩
def E_lanyardref03_set : Exits := [(.ret, ⟨[], 0, 0, 0, (.cons Sy6 .nil)⟩)]
def C_lanyardref03_set (k : Nat) : Con := ⟨19, I_lanyardref03_set, E_lanyardref03_set, fun z => (fun (z : Ty3 × (List UInt8)) => F_lanyardref03_set k z.1 z.2) z⟩
def F_lanyardref03_Shipped (k : Nat) (name : List UInt8) : Option (Ty3 × Bool) :=
  bif name == [100, 117, 109, 98] then
    (F_lanyardref03_on k ([100, 117, 109, 98, 124, 97, 32, 100, 117, 109, 98, 32, 116, 101, 114, 109, 105, 110, 97, 108], (false, ([], ([], ([], []))))) [97, 109]).bind fun z1 =>
    (F_lanyardref03_num k z1 [99, 111, 108, 115] 80).bind fun z2 =>
    (F_lanyardref03_set k z2 [98, 101, 108, 61, 7, 32, 99, 114, 61, 13, 32, 99, 117, 100, 49, 61, 10, 32, 105, 110, 100, 61, 10]).bind fun z3 =>
    some (z3, true)
  else
    (bif name == [118, 116, 50, 50, 48] then
       some (name, true)
     else
       some (name, name == [120, 116, 101, 114, 109]) : Option ((List UInt8) × Bool)).bind fun z4 =>
    bif z4.2 then
      (F_lanyardref03_on k ([118, 116, 50, 50, 48, 124, 118, 116, 50, 48, 48, 124, 97, 32, 86, 84, 50, 50, 48], (false, ([], ([], ([], []))))) [97, 109, 32, 109, 105, 114, 32, 109, 115, 103, 114, 32, 120, 101, 110, 108]).bind fun z5 =>
      (F_lanyardref03_num k z5 [99, 111, 108, 115] 80).bind fun z6 =>
      (F_lanyardref03_num k z6 [108, 105, 110, 101, 115] 24).bind fun z7 =>
      (F_lanyardref03_num k z7 [105, 116] 8).bind fun z8 =>
      (F_lanyardref03_set k z8 [98, 101, 108, 61, 7, 32, 99, 114, 61, 13, 32, 99, 117, 100, 49, 61, 10, 32, 105, 110, 100, 61, 10, 32, 99, 117, 98, 49, 61, 8, 32, 99, 117, 102, 49, 61, 27, 91, 67, 32, 99, 117, 117, 49, 61, 27, 91, 65, 32, 104, 111, 109, 101, 61, 27, 91, 72, 32, 99, 108, 101, 97, 114, 61, 27, 91, 72, 27, 91, 74, 32, 101, 108, 61, 27, 91, 75, 32, 101, 100, 61, 27, 91, 74, 32, 99, 117, 112, 61, 27, 91, 37, 105, 37, 112, 49, 37, 100, 59, 37, 112, 50, 37, 100, 72, 32, 99, 115, 114, 61, 27, 91, 37, 105, 37, 112, 49, 37, 100, 59, 37, 112, 50, 37, 100, 114, 32, 100, 99, 104, 49, 61, 27, 91, 80, 32, 100, 99, 104, 61, 27, 91, 37, 112, 49, 37, 100, 80, 32, 100, 108, 49, 61, 27, 91, 77, 32, 100, 108, 61, 27, 91, 37, 112, 49, 37, 100, 77, 32, 105, 108, 49, 61, 27, 91, 76, 32, 105, 108, 61, 27, 91, 37, 112, 49, 37, 100, 76, 32, 105, 99, 104, 61, 27, 91, 37, 112, 49, 37, 100, 64, 32, 101, 99, 104, 61, 27, 91, 37, 112, 49, 37, 100, 88, 32, 115, 109, 105, 114, 61, 27, 91, 52, 104, 32, 114, 109, 105, 114, 61, 27, 91, 52, 108, 32, 99, 117, 117, 61, 27, 91, 37, 112, 49, 37, 100, 65, 32, 99, 117, 100, 61, 27, 91, 37, 112, 49, 37, 100, 66, 32, 99, 117, 102, 61, 27, 91, 37, 112, 49, 37, 100, 67, 32, 99, 117, 98, 61, 27, 91, 37, 112, 49, 37, 100, 68, 32, 115, 103, 114, 48, 61, 27, 91, 109, 32, 114, 101, 118, 61, 27, 91, 55, 109, 32, 98, 111, 108, 100, 61, 27, 91, 49, 109, 32, 115, 109, 117, 108, 61, 27, 91, 52, 109, 32, 114, 109, 117, 108, 61, 27, 91, 50, 52, 109, 32, 114, 105, 61, 27, 77, 32, 115, 99, 61, 27, 55, 32, 114, 99, 61, 27, 56, 32, 110, 101, 108, 61, 27, 69, 32, 99, 110, 111, 114, 109, 61, 27, 91, 63, 50, 53, 104, 32, 99, 105, 118, 105, 115, 61, 27, 91, 63, 50, 53, 108, 32, 107, 99, 117, 98, 49, 61, 27, 91, 68, 32, 107, 99, 117, 102, 49, 61, 27, 91, 67, 32, 107, 99, 117, 117, 49, 61, 27, 91, 65, 32, 107, 99, 117, 100, 49, 61, 27, 91, 66, 32, 107, 100, 99, 104, 49, 61, 27, 91, 51, 126, 32, 107, 104, 111, 109, 101, 61, 27, 91, 49, 126, 32, 107, 101, 110, 100, 61, 27, 91, 52, 126, 32, 107, 98, 115, 61, 8]).bind fun z9 =>
      (bif z4.1 == [120, 116, 101, 114, 109] then
         (F_lanyardref03_num k ([120, 116, 101, 114, 109, 124, 97, 110, 32, 88, 32, 116, 101, 114, 109, 105, 110, 97, 108], z9.2) [99, 111, 108, 111, 114, 115] 8).bind fun z10 =>
         (F_lanyardref03_num k z10 [112, 97, 105, 114, 115] 64).bind fun z11 =>
         (F_lanyardref03_set k z11 [32, 107, 98, 115, 61, 127, 32, 107, 104, 111, 109, 101, 61, 27, 79, 72, 32, 107, 101, 110, 100, 61, 27, 79, 70, 32, 107, 99, 117, 98, 49, 61, 27, 79, 68, 32, 107, 99, 117, 102, 49, 61, 27, 79, 67, 32, 107, 99, 117, 117, 49, 61, 27, 79, 65, 32, 107, 99, 117, 100, 49, 61, 27, 79, 66, 32, 115, 109, 107, 120, 61, 27, 91, 63, 49, 104, 27, 61, 32, 114, 109, 107, 120, 61, 27, 91, 63, 49, 108, 27, 62, 32, 104, 112, 97, 61, 27, 91, 37, 105, 37, 112, 49, 37, 100, 71, 32, 118, 112, 97, 61, 27, 91, 37, 105, 37, 112, 49, 37, 100, 100, 32, 105, 99, 104, 49, 61, 27, 91, 64, 32, 105, 110, 100, 110, 61, 27, 91, 37, 112, 49, 37, 100, 83, 32, 114, 105, 110, 61, 27, 91, 37, 112, 49, 37, 100, 84, 32, 99, 98, 116, 61, 27, 91, 90]).bind fun z12 =>
         some z12
       else
         some z9 : Option Ty3).bind fun z13 =>
      some (z13, true)
    else
      some (([], (false, ([], ([], ([], []))))), false)
def I_lanyardref03_Shipped : Shp := ⟨[0], 0, 0, 0, Sy21⟩
def E_lanyardref03_Shipped : Exits := [(.ret, ⟨[], 0, 0, 0, (.cons (.tupL (.cons Sy6 Sy17)) .nil)⟩)]
def C_lanyardref03_Shipped (k : Nat) : Con := ⟨8, I_lanyardref03_Shipped, E_lanyardref03_Shipped, fun z => (fun (z : List UInt8) => F_lanyardref03_Shipped k z) z⟩
def F_tinfo_of_1 (k : Nat) (x : Int × (List UInt8) × Int × Int × (List UInt8)) (b0_0 : List UInt8) : Option (Bool × (List UInt8)) :=
  some (x.2.1 == b0_0, b0_0)
def I_tinfo_of_1 : Shp := ⟨[0, 1], 0, 1, 0, (.cons (.agg Ky2) (.cons (.ptr 0 0) (.cons .any Sy18)))⟩
def E_tinfo_of_1 : Exits := [(.ret, ⟨[], 0, 1, 0, (.cons (.cell .bool) Sy18)⟩)]
def C_tinfo_of_1 (k : Nat) : Con := ⟨49, I_tinfo_of_1, E_tinfo_of_1, fun z => (fun (z : Ty5 × (List UInt8)) => F_tinfo_of_1 k z.1 z.2) z⟩
def LH_slices_IndexFunc_Ext_2_1 : Shp := ⟨[0, 1, 7, 8], 0, 1, 0, (.cons Sy8 (.cons (.fn 49 .nil (.cons (.ptr 0 0) .nil)) (.cons (.cell (.int .i64)) (.cons (.cell (.int .i64)) (.cons .any Sy18)))))⟩
def LE_slices_IndexFunc_Ext_2_1 : Exits := [(.exit 0, ⟨[], 0, 1, 0, (.cons .any Sy18)⟩), (.ret, ⟨[4], 0, 1, 0, (.cons (.cell (.int .i64)) (.cons .any Sy18))⟩)]
def L_slices_IndexFunc_Ext_2_1 (k : Nat) : Nat → Ty2 → Int → Int → (List UInt8) → Option ((List UInt8) ⊕ (Int × (List UInt8)))
  | 0, _, _, _, _ => none
  | n + 1, s, t7, t8, b0_0 =>
    bif decide (t8 < t7) then
      bif inL t8 s.length then
        (F_tinfo_of_1 k ((s.getD (Int.toNat t8) (0, ([], (0, (0, []))))).1, (((s.getD (Int.toNat t8) (0, ([], (0, (0, []))))).2).1, ((((s.getD (Int.toNat t8) (0, ([], (0, (0, []))))).2).2).1, ((((s.getD (Int.toNat t8) (0, ([], (0, (0, []))))).2).2).2)))) b0_0).bind fun z2 =>
        bif z2.1 then
          some (Sum.inr (t8, z2.2))
        else
          bif inI (t8 + 1) then
            L_slices_IndexFunc_Ext_2_1 k n s t7 (t8 + 1) z2.2
          else none
      else none
    else
      some (Sum.inl b0_0)
def F_slices_IndexFunc_Ext_2 (k : Nat) (s : List Ty5) (b0_0 : List UInt8) : Option (Int × (List UInt8)) :=
  (L_slices_IndexFunc_Ext_2_1 k k s (s.length : Int) 0 b0_0).bind fun z3 =>
  either z3 (fun z3_1 =>
    some ((-1), z3_1))
    fun z3_2 =>
    some z3_2
def I_slices_IndexFunc_Ext_2 : Shp := ⟨[0, 1], 0, 1, 0, (.cons Sy8 (.cons (.fn 49 .nil (.cons (.ptr 0 0) .nil)) (.cons .any Sy18)))⟩
def E_slices_IndexFunc_Ext_2 : Exits := [(.ret, ⟨[], 0, 1, 0, (.cons (.cell (.int .i64)) Sy18)⟩)]
def C_slices_IndexFunc_Ext_2 (k : Nat) : Con := ⟨48, I_slices_IndexFunc_Ext_2, E_slices_IndexFunc_Ext_2, fun z => (fun (z : Ty2 × (List UInt8)) => F_slices_IndexFunc_Ext_2 k z.1 z.2) z⟩
def F_tinfo_of (k : Nat) (t : (List UInt8) × Bool × Ty1 × Ty1 × Ty1 × Ty2) (name : List UInt8) (kind : Int) : Option (Ty4 × Bool) :=
  (F_tinfo_Place k name).bind fun z1 =>
  (bif !z1.2.2 then
     (F_slices_IndexFunc_Ext_2 k t.2.2.2.2.2 name).bind fun z2 =>
     bif decide (z2.1 < 0) then
       some (Sum.inr ())
     else
       bif inL z2.1 t.2.2.2.2.2.length then
         some (Sum.inl (kind, ((t.2.2.2.2.2.getD (Int.toNat z2.1) (0, ([], (0, (0, []))))).1, (t, z2.2))))
       else none
   else
     some (Sum.inl (kind, (z1.1, (t, name)))) : Option (((Int × Int × Ty3 × (List UInt8)) ⊕ Unit))).bind fun z3 =>
  either z3 (fun z3_1 =>
    (F_tinfo_Get k z3_1.2.2.1 z3_1.2.2.2).bind fun z4 =>
    (bif z3_1.2.1 != z3_1.1 then
       some (true, z4.1)
     else
       some (z4.1.1 != 1, z4.1) : Option (Bool × Int × Int × (List UInt8))).bind fun z5 =>
    bif z5.1 then
      some ((0, (0, [])), false)
    else
      some (z5.2, true))
    fun z3_2 =>
    some ((0, (0, [])), false)
def I_tinfo_of : Shp := ⟨[0, 1, 2], 0, 0, 0, (.cons Sy6 (.cons (.cell .str) Sy30))⟩
def E_tinfo_of : Exits := [(.ret, ⟨[], 0, 0, 0, (.cons (.tupL (.cons (.agg Ky1) Sy17)) .nil)⟩)]
def C_tinfo_of (k : Nat) : Con := ⟨35, I_tinfo_of, E_tinfo_of, fun z => (fun (z : Ty3 × (List UInt8) × Int) => F_tinfo_of k z.1 z.2.1 z.2.2) z⟩
def F_tinfo_Text (k : Nat) (t : (List UInt8) × Bool × Ty1 × Ty1 × Ty1 × Ty2) (name : List UInt8) : Option ((List UInt8) × Bool) :=
  (F_tinfo_of k t name 2).bind fun z1 =>
  some (z1.1.2.2, z1.2)
def I_tinfo_Text : Shp := ⟨[0, 1], 0, 0, 0, (.cons Sy6 Sy21)⟩
def E_tinfo_Text : Exits := [(.ret, ⟨[], 0, 0, 0, (.cons (.tupL (.cons (.cell .str) Sy17)) .nil)⟩)]
def C_tinfo_Text (k : Nat) : Con := ⟨22, I_tinfo_Text, E_tinfo_Text, fun z => (fun (z : Ty3 × (List UInt8)) => F_tinfo_Text k z.1 z.2) z⟩
def F_tinfo_Flag (k : Nat) (t : (List UInt8) × Bool × Ty1 × Ty1 × Ty1 × Ty2) (name : List UInt8) : Option Bool :=
  (F_tinfo_of k t name 0).bind fun z1 =>
  some z1.2
def I_tinfo_Flag : Shp := ⟨[0, 1], 0, 0, 0, (.cons Sy6 Sy21)⟩
def E_tinfo_Flag : Exits := [(.ret, ⟨[], 0, 0, 0, Sy17⟩)]
def C_tinfo_Flag (k : Nat) : Con := ⟨23, I_tinfo_Flag, E_tinfo_Flag, fun z => (fun (z : Ty3 × (List UInt8)) => F_tinfo_Flag k z.1 z.2) z⟩
def LH_tinfo_bare_1 : Shp := ⟨[0], 0, 0, 0, Sy16⟩
def LE_tinfo_bare_1 : Exits := [(.exit 0, ⟨[0], 0, 0, 0, Sy16⟩)]
def L_tinfo_bare_1 (k : Nat) : Nat → Ty1 → Option Ty1
  | 0, _ => none
  | n + 1, l =>
    (bif decide ((l.length : Int) > 0) then
       bif inI ((l.length : Int) - 1) then
         bif inL ((l.length : Int) - 1) l.length then
           some (l, (((l.getD (Int.toNat ((l.length : Int) - 1)) (0, (0, []))).1) == 0) && (((((l.getD (Int.toNat ((l.length : Int) - 1)) (0, (0, []))).2).1) == 0) && ((((l.getD (Int.toNat ((l.length : Int) - 1)) (0, (0, []))).2).2) == [])))
         else none
       else none
     else
       some (l, false) : Option (Ty1 × Bool)).bind fun z1 =>
    bif z1.2 then
      bif inI ((z1.1.length : Int) - 1) then
        bif inR 0 ((z1.1.length : Int) - 1) z1.1.length then
          L_tinfo_bare_1 k n (cut z1.1 0 ((z1.1.length : Int) - 1))
        else none
      else none
    else
      some z1.1
def F_tinfo_bare (k : Nat) (l : List Ty4) : Option Ty1 :=
  (L_tinfo_bare_1 k k l).bind fun z2 =>
  some z2
def I_tinfo_bare : Shp := ⟨[0], 0, 0, 0, Sy16⟩
def E_tinfo_bare : Exits := [(.ret, ⟨[], 0, 0, 0, (.cons (.cell (.sl Ky1)) .nil)⟩)]
def C_tinfo_bare (k : Nat) : Con := ⟨36, I_tinfo_bare, E_tinfo_bare, fun z => (fun (z : List Ty4) => F_tinfo_bare k z) z⟩
def LH_slices_Equal_Cap_1 : Shp := ⟨[0, 1, 12, 13], 0, 0, 0, (.cons (.cell (.sl Ky1)) (.cons (.cell (.sl Ky1)) (.cons (.cell (.int .i64)) Sy30)))⟩
def LE_slices_Equal_Cap_1 : Exits := [(.exit 0, ⟨[], 0, 0, 0, (.cons .any .nil)⟩), (.ret, ⟨[4], 0, 0, 0, Sy39⟩)]
def L_slices_Equal_Cap_1 (k : Nat) : Nat → Ty1 → Ty1 → Int → Int → Option (Unit ⊕ Unit)
  | 0, _, _, _, _ => none
  | n + 1, s1, s2, t12, t13 =>
    bif decide (t13 < t12) then
      bif inL t13 s1.length then
        bif inL t13 s2.length then
          bif !((((s1.getD (Int.toNat t13) (0, (0, []))).1) == ((s2.getD (Int.toNat t13) (0, (0, []))).1)) && (((((s1.getD (Int.toNat t13) (0, (0, []))).2).1) == (((s2.getD (Int.toNat t13) (0, (0, []))).2).1)) && ((((s1.getD (Int.toNat t13) (0, (0, []))).2).2) == (((s2.getD (Int.toNat t13) (0, (0, []))).2).2)))) then
            some (Sum.inr ())
          else
            bif inI (t13 + 1) then
              L_slices_Equal_Cap_1 k n s1 s2 t12 (t13 + 1)
            else none
        else none
      else none
    else
      some (Sum.inl ())
def F_slices_Equal_Cap (k : Nat) (s1 : List Ty4) (s2 : List Ty4) : Option Bool :=
  bif (s1.length : Int) != (s2.length : Int) then
    some false
  else
    (L_slices_Equal_Cap_1 k k s1 s2 (s1.length : Int) 0).bind fun z1 =>
    either z1 (fun z1_1 =>
      some true)
      fun z1_2 =>
      some false
def I_slices_Equal_Cap : Shp := ⟨[0, 1], 0, 0, 0, (.cons (.cell (.sl Ky1)) Sy16)⟩
def E_slices_Equal_Cap : Exits := [(.ret, ⟨[], 0, 0, 0, Sy17⟩)]
def C_slices_Equal_Cap (k : Nat) : Con := ⟨10, I_slices_Equal_Cap, E_slices_Equal_Cap, fun z => (fun (z : Ty1 × Ty1) => F_slices_Equal_Cap k z.1 z.2) z⟩
def LH_slices_Equal_Ext_1 : Shp := ⟨[0, 1, 12, 13], 0, 0, 0, (.cons Sy8 (.cons Sy8 (.cons (.cell (.int .i64)) Sy30)))⟩
def LE_slices_Equal_Ext_1 : Exits := [(.exit 0, ⟨[], 0, 0, 0, (.cons .any .nil)⟩), (.ret, ⟨[4], 0, 0, 0, Sy39⟩)]
def L_slices_Equal_Ext_1 (k : Nat) : Nat → Ty2 → Ty2 → Int → Int → Option (Unit ⊕ Unit)
  | 0, _, _, _, _ => none
  | n + 1, s1, s2, t12, t13 =>
    bif decide (t13 < t12) then
      bif inL t13 s1.length then
        bif inL t13 s2.length then
          bif !((((s1.getD (Int.toNat t13) (0, ([], (0, (0, []))))).1) == ((s2.getD (Int.toNat t13) (0, ([], (0, (0, []))))).1)) && (((((s1.getD (Int.toNat t13) (0, ([], (0, (0, []))))).2).1) == (((s2.getD (Int.toNat t13) (0, ([], (0, (0, []))))).2).1)) && ((((((s1.getD (Int.toNat t13) (0, ([], (0, (0, []))))).2).2).1) == ((((s2.getD (Int.toNat t13) (0, ([], (0, (0, []))))).2).2).1)) && (((((((s1.getD (Int.toNat t13) (0, ([], (0, (0, []))))).2).2).2).1) == (((((s2.getD (Int.toNat t13) (0, ([], (0, (0, []))))).2).2).2).1)) && ((((((s1.getD (Int.toNat t13) (0, ([], (0, (0, []))))).2).2).2).2) == (((((s2.getD (Int.toNat t13) (0, ([], (0, (0, []))))).2).2).2).2)))))) then
            some (Sum.inr ())
          else
            bif inI (t13 + 1) then
              L_slices_Equal_Ext_1 k n s1 s2 t12 (t13 + 1)
            else none
        else none
      else none
    else
      some (Sum.inl ())
def F_slices_Equal_Ext (k : Nat) (s1 : List Ty5) (s2 : List Ty5) : Option Bool :=
  bif (s1.length : Int) != (s2.length : Int) then
    some false
  else
    (L_slices_Equal_Ext_1 k k s1 s2 (s1.length : Int) 0).bind fun z1 =>
    either z1 (fun z1_1 =>
      some true)
      fun z1_2 =>
      some false
def I_slices_Equal_Ext : Shp := ⟨[0, 1], 0, 0, 0, (.cons Sy8 (.cons Sy8 (.cons .any .nil)))⟩
def E_slices_Equal_Ext : Exits := [(.ret, ⟨[], 0, 0, 0, Sy17⟩)]
def C_slices_Equal_Ext (k : Nat) : Con := ⟨11, I_slices_Equal_Ext, E_slices_Equal_Ext, fun z => (fun (z : Ty2 × Ty2) => F_slices_Equal_Ext k z.1 z.2) z⟩
def F_tinfo_Same (k : Nat) (a : (List UInt8) × Bool × Ty1 × Ty1 × Ty1 × Ty2) (b : (List UInt8) × Bool × Ty1 × Ty1 × Ty1 × Ty2) : Option Bool :=
  (bif a.1 == b.1 then
     bif a.2.1 == b.2.1 then
       (F_tinfo_bare k a.2.2.1).bind fun z1 =>
       (F_tinfo_bare k b.2.2.1).bind fun z2 =>
       (F_slices_Equal_Cap k z1 z2).bind fun z3 =>
       bif z3 then
         (F_tinfo_bare k a.2.2.2.1).bind fun z4 =>
         (F_tinfo_bare k b.2.2.2.1).bind fun z5 =>
         (F_slices_Equal_Cap k z4 z5).bind fun z6 =>
         bif z6 then
           (F_tinfo_bare k a.2.2.2.2.1).bind fun z7 =>
           (F_tinfo_bare k b.2.2.2.2.1).bind fun z8 =>
           (F_slices_Equal_Cap k z7 z8).bind fun z9 =>
           bif z9 then
             (F_slices_Equal_Ext k a.2.2.2.2.2 b.2.2.2.2.2).bind fun z10 =>
             some z10
           else
             some false
         else
           some false
       else
         some false
     else
       some false
   else
     some false : Option (Bool)).bind fun z11 =>
  some z11
def I_tinfo_Same : Shp := ⟨[0, 1], 0, 0, 0, (.cons Sy6 (.cons Sy6 (.cons .any .nil)))⟩
def E_tinfo_Same : Exits := [(.ret, ⟨[], 0, 0, 0, Sy17⟩)]
def C_tinfo_Same (k : Nat) : Con := ⟨24, I_tinfo_Same, E_tinfo_Same, fun z => (fun (z : Ty3 × (List UInt8) × Bool × Ty1 × Ty1 × Ty1 × Ty2) => F_tinfo_Same k z.1 z.2) z⟩
def F_lanyardlaw03_live (k : Nat) : Option Bool :=
  (F_tinfo_Shipped k [118, 116, 50, 50, 48]).bind fun z1 =>
  (F_tinfo_Text k (z1.1.1.1, (z1.1.1.2, z1.2)) [99, 117, 112]).bind fun z2 =>
  (F_tinfo_Place k [99, 117, 112]).bind fun z3 =>
  (bif z1.1.2 then
     bif z2.2 then
       bif z2.1 == [27, 91, 37, 105, 37, 112, 49, 37, 100, 59, 37, 112, 50, 37, 100, 72] then
         bif z3.1 == 2 then
           bif z3.2.1 == 10 then
             bif z3.2.2 then
               (F_tinfo_Flag k (z1.1.1.1, (z1.1.1.2, z1.2)) [97, 109]).bind fun z4 =>
               bif z4 then
                 (F_tinfo_Same k (z1.1.1.1, (z1.1.1.2, z1.2)) (z1.1.1.1, (z1.1.1.2, z1.2))).bind fun z5 =>
                 some z5
               else
                 some false
             else
               some false
           else
             some false
         else
           some false
       else
         some false
     else
       some false
   else
     some false : Option (Bool)).bind fun z6 =>
  some z6
def I_lanyardlaw03_live : Shp := ⟨[], 0, 0, 0, (.cons .any .nil)⟩
def E_lanyardlaw03_live : Exits := [(.ret, ⟨[], 0, 0, 0, Sy17⟩)]
def C_lanyardlaw03_live (k : Nat) : Con := ⟨9, I_lanyardlaw03_live, E_lanyardlaw03_live, fun _ => F_lanyardlaw03_live k⟩
def LH_lanyardref03_trim_1 : Shp := ⟨[0], 0, 0, 0, Sy16⟩
def LE_lanyardref03_trim_1 : Exits := [(.exit 0, ⟨[0], 0, 0, 0, Sy16⟩)]
def L_lanyardref03_trim_1 (k : Nat) : Nat → Ty1 → Option Ty1
  | 0, _ => none
  | n + 1, l =>
    (bif decide ((l.length : Int) > 0) then
       bif inI ((l.length : Int) - 1) then
         bif inL ((l.length : Int) - 1) l.length then
           some (l, (((l.getD (Int.toNat ((l.length : Int) - 1)) (0, (0, []))).1) == 0) && (((((l.getD (Int.toNat ((l.length : Int) - 1)) (0, (0, []))).2).1) == 0) && ((((l.getD (Int.toNat ((l.length : Int) - 1)) (0, (0, []))).2).2) == [])))
         else none
       else none
     else
       some (l, false) : Option (Ty1 × Bool)).bind fun z1 =>
    bif z1.2 then
      bif inI ((z1.1.length : Int) - 1) then
        bif inR 0 ((z1.1.length : Int) - 1) z1.1.length then
          L_lanyardref03_trim_1 k n (cut z1.1 0 ((z1.1.length : Int) - 1))
        else none
      else none
    else
      some z1.1
def F_lanyardref03_trim (k : Nat) (l : List Ty4) : Option Ty1 :=
  (L_lanyardref03_trim_1 k k l).bind fun z2 =>
  some z2
def I_lanyardref03_trim : Shp := ⟨[0], 0, 0, 0, Sy16⟩
def E_lanyardref03_trim : Exits := [(.ret, ⟨[], 0, 0, 0, (.cons (.cell (.sl Ky1)) .nil)⟩)]
def C_lanyardref03_trim (k : Nat) : Con := ⟨37, I_lanyardref03_trim, E_lanyardref03_trim, fun z => (fun (z : List Ty4) => F_lanyardref03_trim k z) z⟩
def LH_lanyardref03_sameCaps_1 : Shp := ⟨[0, 1, 5], 0, 0, 0, (.cons (.cell (.sl Ky1)) (.cons (.cell (.sl Ky1)) Sy30))⟩
def LE_lanyardref03_sameCaps_1 : Exits := [(.exit 0, ⟨[], 0, 0, 0, (.cons .any .nil)⟩), (.ret, ⟨[4], 0, 0, 0, Sy39⟩)]
def L_lanyardref03_sameCaps_1 (k : Nat) : Nat → Ty1 → Ty1 → Int → Option (Unit ⊕ Unit)
  | 0, _, _, _ => none
  | n + 1, a, b, i =>
    bif decide (i < (a.length : Int)) then
      bif inL i a.length then
        bif inL i b.length then
          bif !((((a.getD (Int.toNat i) (0, (0, []))).1) == ((b.getD (Int.toNat i) (0, (0, []))).1)) && (((((a.getD (Int.toNat i) (0, (0, []))).2).1) == (((b.getD (Int.toNat i) (0, (0, []))).2).1)) && ((((a.getD (Int.toNat i) (0, (0, []))).2).2) == (((b.getD (Int.toNat i) (0, (0, []))).2).2)))) then
            some (Sum.inr ())
          else
            bif inI (i + 1) then
              L_lanyardref03_sameCaps_1 k n a b (i + 1)
            else none
        else none
      else none
    else
      some (Sum.inl ())
def F_lanyardref03_sameCaps (k : Nat) (a : List Ty4) (b : List Ty4) : Option Bool :=
  (F_lanyardref03_trim k a).bind fun z1 =>
  (F_lanyardref03_trim k b).bind fun z2 =>
  bif (z1.length : Int) != (z2.length : Int) then
    some false
  else
    (L_lanyardref03_sameCaps_1 k k z1 z2 0).bind fun z3 =>
    either z3 (fun z3_1 =>
      some true)
      fun z3_2 =>
      some false
def I_lanyardref03_sameCaps : Shp := ⟨[0, 1], 0, 0, 0, (.cons (.cell (.sl Ky1)) Sy16)⟩
def E_lanyardref03_sameCaps : Exits := [(.ret, ⟨[], 0, 0, 0, Sy17⟩)]
def C_lanyardref03_sameCaps (k : Nat) : Con := ⟨25, I_lanyardref03_sameCaps, E_lanyardref03_sameCaps, fun z => (fun (z : Ty1 × Ty1) => F_lanyardref03_sameCaps k z.1 z.2) z⟩
def LH_lanyardref03_Same_1 : Shp := ⟨[2, 3, 5], 0, 2, 0, (.cons (.ptr 0 0) (.cons (.ptr 1 0) (.cons (.cell (.int .i64)) Sy38)))⟩
def LE_lanyardref03_Same_1 : Exits := [(.exit 0, ⟨[], 0, 0, 0, (.cons .any .nil)⟩), (.ret, ⟨[4], 0, 0, 0, Sy39⟩)]
def L_lanyardref03_Same_1 (k : Nat) : Nat → Int → (List UInt8) → Bool → Ty1 → Ty1 → Ty1 → Ty2 → (List UInt8) → Bool → Ty1 → Ty1 → Ty1 → Ty2 → Option (Unit ⊕ Unit)
  | 0, _, _, _, _, _, _, _, _, _, _, _, _, _ => none
  | n + 1, i, b0_0, b0_1, b0_2, b0_3, b0_4, b0_5, b1_0, b1_1, b1_2, b1_3, b1_4, b1_5 =>
    bif decide (i < (b0_5.length : Int)) then
      bif inL i b0_5.length then
        bif inL i b1_5.length then
          bif !((((b0_5.getD (Int.toNat i) (0, ([], (0, (0, []))))).1) == ((b1_5.getD (Int.toNat i) (0, ([], (0, (0, []))))).1)) && (((((b0_5.getD (Int.toNat i) (0, ([], (0, (0, []))))).2).1) == (((b1_5.getD (Int.toNat i) (0, ([], (0, (0, []))))).2).1)) && ((((((b0_5.getD (Int.toNat i) (0, ([], (0, (0, []))))).2).2).1) == ((((b1_5.getD (Int.toNat i) (0, ([], (0, (0, []))))).2).2).1)) && (((((((b0_5.getD (Int.toNat i) (0, ([], (0, (0, []))))).2).2).2).1) == (((((b1_5.getD (Int.toNat i) (0, ([], (0, (0, []))))).2).2).2).1)) && ((((((b0_5.getD (Int.toNat i) (0, ([], (0, (0, []))))).2).2).2).2) == (((((b1_5.getD (Int.toNat i) (0, ([], (0, (0, []))))).2).2).2).2)))))) then
            some (Sum.inr ())
          else
            bif inI (i + 1) then
              L_lanyardref03_Same_1 k n (i + 1) b0_0 b0_1 b0_2 b0_3 b0_4 b0_5 b1_0 b1_1 b1_2 b1_3 b1_4 b1_5
            else none
        else none
      else none
    else
      some (Sum.inl ())
def F_lanyardref03_Same (k : Nat) (a : (List UInt8) × Bool × Ty1 × Ty1 × Ty1 × Ty2) (b : (List UInt8) × Bool × Ty1 × Ty1 × Ty1 × Ty2) : Option Bool :=
  (bif !(a.1 == b.1) then
     some (true, (a, b))
   else
     bif !(a.2.1 == b.2.1) then
       some (true, (a, b))
     else
       (F_lanyardref03_sameCaps k a.2.2.1 b.2.2.1).bind fun z1 =>
       bif !z1 then
         some (true, (a, b))
       else
         (F_lanyardref03_sameCaps k a.2.2.2.1 b.2.2.2.1).bind fun z2 =>
         bif !z2 then
           some (true, (a, b))
         else
           (F_lanyardref03_sameCaps k a.2.2.2.2.1 b.2.2.2.2.1).bind fun z3 =>
           bif !z3 then
             some (true, (a, b))
           else
             some ((a.2.2.2.2.2.length : Int) != (b.2.2.2.2.2.length : Int), (a, b)) : Option (Bool × Ty3 × (List UInt8) × Bool × Ty1 × Ty1 × Ty1 × Ty2)).bind fun z4 =>
  bif z4.1 then
    some false
  else
    (L_lanyardref03_Same_1 k k 0 z4.2.1.1 z4.2.1.2.1 z4.2.1.2.2.1 z4.2.1.2.2.2.1 z4.2.1.2.2.2.2.1 z4.2.1.2.2.2.2.2 z4.2.2.1 z4.2.2.2.1 z4.2.2.2.2.1 z4.2.2.2.2.2.1 z4.2.2.2.2.2.2.1 z4.2.2.2.2.2.2.2).bind fun z5 =>
    either z5 (fun z5_1 =>
      some true)
      fun z5_2 =>
      some false
def I_lanyardref03_Same : Shp := ⟨[0, 1], 0, 0, 0, (.cons Sy6 (.cons Sy6 (.cons .any .nil)))⟩
def E_lanyardref03_Same : Exits := [(.ret, ⟨[], 0, 0, 0, Sy17⟩)]
def C_lanyardref03_Same (k : Nat) : Con := ⟨12, I_lanyardref03_Same, E_lanyardref03_Same, fun z => (fun (z : Ty3 × (List UInt8) × Bool × Ty1 × Ty1 × Ty1 × Ty2) => F_lanyardref03_Same k z.1 z.2) z⟩
def LH_lanyardlaw03_TinfoOwn_6 : Shp := ⟨[3, 7, 14, 86, 87], 0, 3, 4, (.cons (.ptr 0 0) (.cons (.ptr 1 0) (.cons (.ptr 2 0) Sy37)))⟩
def LE_lanyardlaw03_TinfoOwn_6 : Exits := [(.exit 6, ⟨[3, 7], 0, 2, 0, (.cons (.ptr 0 0) (.cons (.ptr 1 0) Sy38))⟩)]
def L_lanyardlaw03_TinfoOwn_6 (k m : Nat) : Nat → Int → Int → (List UInt8) → Bool → Ty1 → Ty1 → Ty1 → Ty2 → (List UInt8) → Bool → Ty1 → Ty1 → Ty1 → Ty2 → (List UInt8) → Bool → Ty1 → Ty1 → Ty1 → Ty2 → Option (Ty3 × (List UInt8) × Bool × Ty1 × Ty1 × Ty1 × Ty2)
  | 0, _, _, _, _, _, _, _, _, _, _, _, _, _, _, _, _, _, _, _, _ => none
  | n + 1, t86, t87, b0_0, b0_1, b0_2, b0_3, b0_4, b0_5, b1_0, b1_1, b1_2, b1_3, b1_4, b1_5, b2_0, b2_1, w0, w1, w2, w3 =>
    bif decide (t87 < t86) then
      bif inL t87 w2.length then
        bif inI (t87 + 1) then
          L_lanyardlaw03_TinfoOwn_6 k m n t86 (t87 + 1) b0_0 b0_1 b0_2 b0_3 b0_4 b0_5 b1_0 b1_1 b1_2 b1_3 b1_4 b1_5 b2_0 b2_1 w0 w1 (w2.set (Int.toNat t87) ((w2.getD (Int.toNat t87) (0, (0, []))).1, (((w2.getD (Int.toNat t87) (0, (0, []))).2).1, [63]))) w3
        else none
      else none
    else
      some ((b0_0, (b0_1, (b0_2, (b0_3, (b0_4, b0_5))))), (b1_0, (b1_1, (b1_2, (b1_3, (b1_4, b1_5))))))
def LH_lanyardlaw03_TinfoOwn_5 : Shp := ⟨[3, 7, 8, 70, 71], 0, 3, 4, (.cons (.ptr 0 0) (.cons (.ptr 1 0) (.cons (.ptr 2 0) Sy37)))⟩
def LE_lanyardlaw03_TinfoOwn_5 : Exits := [(.exit 4, ⟨[3, 7], 0, 2, 0, (.cons (.ptr 0 0) (.cons (.ptr 1 0) Sy38))⟩)]
def L_lanyardlaw03_TinfoOwn_5 (k m : Nat) : Nat → Int → Int → (List UInt8) → Bool → Ty1 → Ty1 → Ty1 → Ty2 → (List UInt8) → Bool → Ty1 → Ty1 → Ty1 → Ty2 → (List UInt8) → Bool → Ty1 → Ty1 → Ty1 → Ty2 → Option (Ty3 × (List UInt8) × Bool × Ty1 × Ty1 × Ty1 × Ty2)
  | 0, _, _, _, _, _, _, _, _, _, _, _, _, _, _, _, _, _, _, _, _ => none
  | n + 1, t70, t71, b0_0, b0_1, b0_2, b0_3, b0_4, b0_5, b1_0, b1_1, b1_2, b1_3, b1_4, b1_5, b2_0, b2_1, w0, w1, w2, w3 =>
    bif decide (t71 < t70) then
      bif inL t71 w3.length then
        bif inI (t71 + 1) then
          L_lanyardlaw03_TinfoOwn_5 k m n t70 (t71 + 1) b0_0 b0_1 b0_2 b0_3 b0_4 b0_5 b1_0 b1_1 b1_2 b1_3 b1_4 b1_5 b2_0 b2_1 w0 w1 w2 (w3.set (Int.toNat t71) ((w3.getD (Int.toNat t71) (0, ([], (0, (0, []))))).1, ([63], ((((w3.getD (Int.toNat t71) (0, ([], (0, (0, []))))).2).2).1, ((((w3.getD (Int.toNat t71) (0, ([], (0, (0, []))))).2).2).2)))))
        else none
      else none
    else
      some ((b0_0, (b0_1, (b0_2, (b0_3, (b0_4, b0_5))))), (b1_0, (b1_1, (b1_2, (b1_3, (b1_4, b1_5))))))
def LH_lanyardlaw03_TinfoOwn_4 : Shp := ⟨[3, 7, 8, 11, 51, 52, 53, 58, 59], 0, 3, 4, (.cons (.ptr 0 0) (.cons (.ptr 1 0) (.cons (.ptr 2 0) (.cons (.rs 0) (.cons (.svL (.cons (.rs 1) (.cons (.rs 2) (.cons (.rs 0) .nil)))) (.cons (.lit .i64 3) (.cons (.lit .i64 2) (.cons (.cell (.int .i64)) (.cons (.cell (.int .i64)) (.cons .any (.cons Sy2 (.cons Sy2 (.cons (.ifc 25 (.aggL (.cons (.cell .str) (.cons (.cell .bool) (.cons (.rs 1) (.cons (.rs 2) (.cons (.rs 0) (.cons (.rs 3) .nil)))))))) Sy1)))))))))))))⟩
def LE_lanyardlaw03_TinfoOwn_4 : Exits := [(.exit 2, ⟨[3, 7, 8, 51, 52, 53], 0, 3, 4, (.cons (.ptr 0 0) (.cons (.ptr 1 0) (.cons (.ptr 2 0) (.cons (.svL Sy9) (.cons (.lit .i64 3) (.cons (.lit .i64 2) Sy11))))))⟩)]
def L_lanyardlaw03_TinfoOwn_4 (k m : Nat) : Nat → Int → Int → (List UInt8) → Bool → Ty1 → Ty1 → Ty1 → Ty2 → (List UInt8) → Bool → Ty1 → Ty1 → Ty1 → Ty2 → (List UInt8) → Bool → Ty1 → Ty1 → Ty1 → Ty2 → Option Ty8
  | 0, _, _, _, _, _, _, _, _, _, _, _, _, _, _, _, _, _, _, _, _ => none
  | n + 1, t58, t59, b0_0, b0_1, b0_2, b0_3, b0_4, b0_5, b1_0, b1_1, b1_2, b1_3, b1_4, b1_5, b2_0, b2_1, w0, w1, w2, w3 =>
    bif decide (t59 < t58) then
      bif inL t59 w0.length then
        bif inI (t59 + 1) then
          L_lanyardlaw03_TinfoOwn_4 k m n t58 (t59 + 1) b0_0 b0_1 b0_2 b0_3 b0_4 b0_5 b1_0 b1_1 b1_2 b1_3 b1_4 b1_5 b2_0 b2_1 (w0.set (Int.toNat t59) (0, ((-9), []))) w1 w2 w3
        else none
      else none
    else
      some ((b0_0, (b0_1, (b0_2, (b0_3, (b0_4, b0_5))))), ((b1_0, (b1_1, (b1_2, (b1_3, (b1_4, b1_5))))), ((b2_0, b2_1), (w1, (w2, (w0, w3))))))
def LH_lanyardlaw03_TinfoOwn_3 : Shp := ⟨[3, 7, 8, 11, 51, 52, 53, 58, 59], 0, 3, 4, (.cons (.ptr 0 0) (.cons (.ptr 1 0) (.cons (.ptr 2 0) (.cons (.rs 0) (.cons (.svL (.cons (.rs 1) (.cons (.rs 0) (.cons (.rs 2) .nil)))) (.cons (.lit .i64 3) (.cons (.lit .i64 1) (.cons (.cell (.int .i64)) (.cons (.cell (.int .i64)) (.cons .any (.cons Sy2 (.cons Sy2 (.cons (.ifc 25 (.aggL (.cons (.cell .str) (.cons (.cell .bool) (.cons (.rs 1) (.cons (.rs 0) (.cons (.rs 2) (.cons (.rs 3) .nil)))))))) Sy1)))))))))))))⟩
def LE_lanyardlaw03_TinfoOwn_3 : Exits := [(.exit 2, ⟨[3, 7, 8, 51, 52, 53], 0, 3, 4, (.cons (.ptr 0 0) (.cons (.ptr 1 0) (.cons (.ptr 2 0) (.cons (.svL Sy9) (.cons (.lit .i64 3) (.cons (.lit .i64 1) Sy11))))))⟩)]
def L_lanyardlaw03_TinfoOwn_3 (k m : Nat) : Nat → Int → Int → (List UInt8) → Bool → Ty1 → Ty1 → Ty1 → Ty2 → (List UInt8) → Bool → Ty1 → Ty1 → Ty1 → Ty2 → (List UInt8) → Bool → Ty1 → Ty1 → Ty1 → Ty2 → Option Ty8
  | 0, _, _, _, _, _, _, _, _, _, _, _, _, _, _, _, _, _, _, _, _ => none
  | n + 1, t58, t59, b0_0, b0_1, b0_2, b0_3, b0_4, b0_5, b1_0, b1_1, b1_2, b1_3, b1_4, b1_5, b2_0, b2_1, w0, w1, w2, w3 =>
    bif decide (t59 < t58) then
      bif inL t59 w0.length then
        bif inI (t59 + 1) then
          L_lanyardlaw03_TinfoOwn_3 k m n t58 (t59 + 1) b0_0 b0_1 b0_2 b0_3 b0_4 b0_5 b1_0 b1_1 b1_2 b1_3 b1_4 b1_5 b2_0 b2_1 (w0.set (Int.toNat t59) (0, ((-9), []))) w1 w2 w3
        else none
      else none
    else
      some ((b0_0, (b0_1, (b0_2, (b0_3, (b0_4, b0_5))))), ((b1_0, (b1_1, (b1_2, (b1_3, (b1_4, b1_5))))), ((b2_0, b2_1), (w1, (w0, (w2, w3))))))
def LH_lanyardlaw03_TinfoOwn_2 : Shp := ⟨[3, 7, 8, 11, 51, 52, 53, 58, 59], 0, 3, 4, (.cons (.ptr 0 0) (.cons (.ptr 1 0) (.cons (.ptr 2 0) (.cons (.rs 0) (.cons (.svL Sy9) (.cons (.lit .i64 3) (.cons (.lit .i64 0) Sy37)))))))⟩
def LE_lanyardlaw03_TinfoOwn_2 : Exits := [(.exit 2, ⟨[3, 7, 8, 51, 52, 53], 0, 3, 4, (.cons (.ptr 0 0) (.cons (.ptr 1 0) (.cons (.ptr 2 0) (.cons (.svL Sy9) (.cons (.lit .i64 3) (.cons (.lit .i64 0) Sy11))))))⟩)]
def L_lanyardlaw03_TinfoOwn_2 (k m : Nat) : Nat → Int → Int → (List UInt8) → Bool → Ty1 → Ty1 → Ty1 → Ty2 → (List UInt8) → Bool → Ty1 → Ty1 → Ty1 → Ty2 → (List UInt8) → Bool → Ty1 → Ty1 → Ty1 → Ty2 → Option Ty8
  | 0, _, _, _, _, _, _, _, _, _, _, _, _, _, _, _, _, _, _, _, _ => none
  | n + 1, t58, t59, b0_0, b0_1, b0_2, b0_3, b0_4, b0_5, b1_0, b1_1, b1_2, b1_3, b1_4, b1_5, b2_0, b2_1, w0, w1, w2, w3 =>
    bif decide (t59 < t58) then
      bif inL t59 w0.length then
        bif inI (t59 + 1) then
          L_lanyardlaw03_TinfoOwn_2 k m n t58 (t59 + 1) b0_0 b0_1 b0_2 b0_3 b0_4 b0_5 b1_0 b1_1 b1_2 b1_3 b1_4 b1_5 b2_0 b2_1 (w0.set (Int.toNat t59) (0, ((-9), []))) w1 w2 w3
        else none
      else none
    else
      some ((b0_0, (b0_1, (b0_2, (b0_3, (b0_4, b0_5))))), ((b1_0, (b1_1, (b1_2, (b1_3, (b1_4, b1_5))))), ((b2_0, b2_1), (w0, (w1, (w2, w3))))))
def LH_lanyardlaw03_TinfoOwn_1 : Shp := ⟨[3, 7, 8, 51, 52, 53], 0, 3, 4, (.cons (.ptr 0 0) (.cons (.ptr 1 0) (.cons (.ptr 2 0) (.cons (.svL Sy9) (.cons (.lit .i64 3) (.cons (.cell (.int .i64)) Sy11))))))⟩
def LE_lanyardlaw03_TinfoOwn_1 : Exits := [(.exit 0, ⟨[3, 7, 8], 0, 3, 4, (.cons (.ptr 0 0) (.cons (.ptr 1 0) (.cons (.ptr 2 0) Sy11)))⟩)]
def L_lanyardlaw03_TinfoOwn_1 (k m : Nat) : Nat → Int → (List UInt8) → Bool → Ty1 → Ty1 → Ty1 → Ty2 → (List UInt8) → Bool → Ty1 → Ty1 → Ty1 → Ty2 → (List UInt8) → Bool → Ty1 → Ty1 → Ty1 → Ty2 → Option Ty8
  | 0, _, _, _, _, _, _, _, _, _, _, _, _, _, _, _, _, _, _, _ => none
  | n + 1, t53, b0_0, b0_1, b0_2, b0_3, b0_4, b0_5, b1_0, b1_1, b1_2, b1_3, b1_4, b1_5, b2_0, b2_1, w0, w1, w2, w3 =>
    bif decide (t53 < 3) then
      ((bif t53 == 0 then
          some (Sum.inl ((b0_0, (b0_1, (b0_2, (b0_3, (b0_4, b0_5))))), ((b1_0, (b1_1, (b1_2, (b1_3, (b1_4, b1_5))))), ((b2_0, b2_1), (w0, (w1, (w2, w3)))))))
        else
          bif t53 == 1 then
            some (Sum.inr (Sum.inl ((b0_0, (b0_1, (b0_2, (b0_3, (b0_4, b0_5))))), ((b1_0, (b1_1, (b1_2, (b1_3, (b1_4, b1_5))))), ((b2_0, b2_1), (w1, (w0, (w2, w3))))))))
          else
            bif t53 == 2 then
              some (Sum.inr (Sum.inr ((b0_0, (b0_1, (b0_2, (b0_3, (b0_4, b0_5))))), ((b1_0, (b1_1, (b1_2, (b1_3, (b1_4, b1_5))))), ((b2_0, b2_1), (w2, (w0, (w1, w3))))))))
            else
              none : Option ((Ty8 ⊕ (Ty8 ⊕ Ty8)))).bind fun z7 =>
       either z7 (fun z7_1 =>
         (L_lanyardlaw03_TinfoOwn_2 k m k (z7_1.2.2.2.1.length : Int) 0 z7_1.1.1 z7_1.1.2.1 z7_1.1.2.2.1 z7_1.1.2.2.2.1 z7_1.1.2.2.2.2.1 z7_1.1.2.2.2.2.2 z7_1.2.1.1 z7_1.2.1.2.1 z7_1.2.1.2.2.1 z7_1.2.1.2.2.2.1 z7_1.2.1.2.2.2.2.1 z7_1.2.1.2.2.2.2.2 z7_1.2.2.1.1 z7_1.2.2.1.2 z7_1.2.2.2.1 z7_1.2.2.2.2.1 z7_1.2.2.2.2.2.1 z7_1.2.2.2.2.2.2).bind fun z8 =>
         some (0, z8))
         fun z7_r1 =>
         either z7_r1 (fun z7_2 =>
           (L_lanyardlaw03_TinfoOwn_3 k m k (z7_2.2.2.2.1.length : Int) 0 z7_2.1.1 z7_2.1.2.1 z7_2.1.2.2.1 z7_2.1.2.2.2.1 z7_2.1.2.2.2.2.1 z7_2.1.2.2.2.2.2 z7_2.2.1.1 z7_2.2.1.2.1 z7_2.2.1.2.2.1 z7_2.2.1.2.2.2.1 z7_2.2.1.2.2.2.2.1 z7_2.2.1.2.2.2.2.2 z7_2.2.2.1.1 z7_2.2.2.1.2 z7_2.2.2.2.1 z7_2.2.2.2.2.1 z7_2.2.2.2.2.2.1 z7_2.2.2.2.2.2.2).bind fun z9 =>
           some (1, z9))
           fun z7_3 =>
           (L_lanyardlaw03_TinfoOwn_4 k m k (z7_3.2.2.2.1.length : Int) 0 z7_3.1.1 z7_3.1.2.1 z7_3.1.2.2.1 z7_3.1.2.2.2.1 z7_3.1.2.2.2.2.1 z7_3.1.2.2.2.2.2 z7_3.2.1.1 z7_3.2.1.2.1 z7_3.2.1.2.2.1 z7_3.2.1.2.2.2.1 z7_3.2.1.2.2.2.2.1 z7_3.2.1.2.2.2.2.2 z7_3.2.2.1.1 z7_3.2.2.1.2 z7_3.2.2.2.1 z7_3.2.2.2.2.1 z7_3.2.2.2.2.2.1 z7_3.2.2.2.2.2.2).bind fun z10 =>
           some (2, z10) : Option (Int × Ty3 × Ty3 × ((List UInt8) × Bool) × Ty1 × Ty1 × Ty1 × Ty2)).bind fun z11 =>
      bif inI (z11.1 + 1) then
        L_lanyardlaw03_TinfoOwn_1 k m n (z11.1 + 1) z11.2.1.1 z11.2.1.2.1 z11.2.1.2.2.1 z11.2.1.2.2.2.1 z11.2.1.2.2.2.2.1 z11.2.1.2.2.2.2.2 z11.2.2.1.1 z11.2.2.1.2.1 z11.2.2.1.2.2.1 z11.2.2.1.2.2.2.1 z11.2.2.1.2.2.2.2.1 z11.2.2.1.2.2.2.2.2 z11.2.2.2.1.1 z11.2.2.2.1.2 z11.2.2.2.2.1 z11.2.2.2.2.2.1 z11.2.2.2.2.2.2.1 z11.2.2.2.2.2.2.2
      else none
    else
      some ((b0_0, (b0_1, (b0_2, (b0_3, (b0_4, b0_5))))), ((b1_0, (b1_1, (b1_2, (b1_3, (b1_4, b1_5))))), ((b2_0, b2_1), (w0, (w1, (w2, w3))))))
def F_lanyardlaw03_TinfoOwn (k m : Nat) (t : (List UInt8) × Bool × Ty1 × Ty1 × Ty1 × Ty2) (name : List UInt8) (c : Int × Int × (List UInt8)) : Option Bool :=
  (F_slices_Clone_Cap k t.2.2.1).bind fun z1 =>
  (F_slices_Clone_Cap k t.2.2.2.1).bind fun z2 =>
  (F_slices_Clone_Cap k t.2.2.2.2.1).bind fun z3 =>
  (F_slices_Clone_Ext k t.2.2.2.2.2).bind fun z4 =>
  (F_tinfo_Set k t name c).bind fun z5 =>
  (L_lanyardlaw03_TinfoOwn_1 k m k 0 t.1 t.2.1 t.2.2.1 t.2.2.2.1 t.2.2.2.2.1 t.2.2.2.2.2 t.1 t.2.1 z1 z2 z3 z4 z5.1.1.1 z5.1.1.2 z5.2.1 z5.2.2.1 z5.2.2.2.1 z5.2.2.2.2).bind fun z12 =>
  (L_lanyardlaw03_TinfoOwn_5 k m k (z12.2.2.2.2.2.2.length : Int) 0 z12.1.1 z12.1.2.1 z12.1.2.2.1 z12.1.2.2.2.1 z12.1.2.2.2.2.1 z12.1.2.2.2.2.2 z12.2.1.1 z12.2.1.2.1 z12.2.1.2.2.1 z12.2.1.2.2.2.1 z12.2.1.2.2.2.2.1 z12.2.1.2.2.2.2.2 z12.2.2.1.1 z12.2.2.1.2 z12.2.2.2.1 z12.2.2.2.2.1 z12.2.2.2.2.2.1 z12.2.2.2.2.2.2).bind fun z13 =>
  (F_tinfo_Shipped m [120, 116, 101, 114, 109]).bind fun z14 =>
  (L_lanyardlaw03_TinfoOwn_6 k m k (z14.2.2.2.1.length : Int) 0 z13.1.1 z13.1.2.1 z13.1.2.2.1 z13.1.2.2.2.1 z13.1.2.2.2.2.1 z13.1.2.2.2.2.2 z13.2.1 z13.2.2.1 z13.2.2.2.1 z13.2.2.2.2.1 z13.2.2.2.2.2.1 z13.2.2.2.2.2.2 z14.1.1.1 z14.1.1.2 z14.2.1 z14.2.2.1 z14.2.2.2.1 z14.2.2.2.2).bind fun z15 =>
  (F_tinfo_Shipped m [120, 116, 101, 114, 109]).bind fun z16 =>
  (F_lanyardref03_Shipped m [120, 116, 101, 114, 109]).bind fun z17 =>
  ((F_lanyardlaw03_live m).bind fun z18 =>
   bif z18 then
     (F_slices_Equal_Cap k z15.1.2.2.1 z15.2.2.2.1).bind fun z19 =>
     bif z19 then
       (F_slices_Equal_Cap k z15.1.2.2.2.1 z15.2.2.2.2.1).bind fun z20 =>
       bif z20 then
         (F_slices_Equal_Cap k z15.1.2.2.2.2.1 z15.2.2.2.2.2.1).bind fun z21 =>
         bif z21 then
           (F_slices_Equal_Ext k z15.1.2.2.2.2.2 z15.2.2.2.2.2.2).bind fun z22 =>
           bif z22 then
             (F_lanyardref03_Same m (z16.1.1.1, (z16.1.1.2, z16.2)) z17.1).bind fun z23 =>
             some z23
           else
             some false
         else
           some false
       else
         some false
     else
       some false
   else
     some false : Option (Bool)).bind fun z24 =>
  some z24
def I_lanyardlaw03_TinfoOwn : Shp := ⟨[0, 1, 2], 0, 0, 0, (.cons Sy6 (.cons (.cell .str) Sy40))⟩
def E_lanyardlaw03_TinfoOwn : Exits := [(.ret, ⟨[], 0, 0, 0, Sy17⟩)]
def C_lanyardlaw03_TinfoOwn (k m : Nat) : Con := ⟨3, I_lanyardlaw03_TinfoOwn, E_lanyardlaw03_TinfoOwn, fun z => (fun (z : Ty3 × (List UInt8) × Int × Int × (List UInt8)) => F_lanyardlaw03_TinfoOwn k m z.1 z.2.1 z.2.2) z⟩
end Go.Proofs.YtfghjkgpbncagaaDoor
