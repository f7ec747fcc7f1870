/- Joined texts: Kb. -/
import Derived.Test.YtfghjkgpbncagaaGreatDoorGf
import Derived.Lib.Split
import Derived.Lib.Fields
import Derived.Lib.Atoi
import Derived.Lib.IndexMore
import Derived.Test.YtfghjkgpbncagaaGreatDoorProg
import Derived.Test.YtfghjkgpbncagaaGreatDoorKa
import Derived.Lib.SplitLaws
set_option linter.unusedVariables false
namespace Go.Proofs.YtfghjkgpbncagaaGreatDoor
open Go.RowKit Go.Av Go.Proofs
/-- A text's bytes, as numbers. -/
def sI (s : List UInt8) : List Int := sInts s
def F_strings_Contains (k : Nat) (s sub : List UInt8) : Option Bool := bif decide (s.length < 4294967281) then some (Lib.contains s sub) else none
def F_strings_IndexByte (k : Nat) (s : List UInt8) (c : Int) : Option Int := some (Lib.indexByte s (UInt8.ofNat c.toNat))
def splitL (s sep : List UInt8) : List (List UInt8) := (Lib.splitB ⟨sep.toArray⟩ 0 (Lib.countB ⟨s.toArray⟩ ⟨sep.toArray⟩) ⟨s.toArray⟩).map fun b => b.data.toList
def F_strings_Split (k : Nat) (s sep : List UInt8) : Option (List (List UInt8)) := bif decide (s.length < 4294967281) && decide (1 ≤ sep.length) then some (splitL s sep) else none
def F_strings_Fields (k : Nat) (s : List UInt8) : Option (List (List UInt8)) := bif decide (s.length < 4294967281) && s.all (fun b => decide (b.toNat < 128)) then some (Lib.fields s) else none
def F_strconv_Atoi (k : Nat) (s : List UInt8) : Option Int := bif decide (s.length ≤ 18) then Lib.atoi s else none
def C_strings_Contains (k : Nat) : Con := ⟨30, ⟨[0, 1], 0, 0, 0, .cons (.cell .str) (.cons (.cell .str) (.cons .any .nil))⟩, [(.ret, ⟨[], 0, 0, 0, .cons (.cell .bool) .nil⟩)], fun z => (fun (z : List UInt8 × List UInt8) => F_strings_Contains k z.1 z.2) z⟩
def C_strings_IndexByte (k : Nat) : Con := ⟨34, ⟨[0, 1], 0, 0, 0, .cons (.cell .str) (.cons (.cell (.int .u8)) (.cons .any .nil))⟩, [(.ret, ⟨[], 0, 0, 0, .cons (.cell (.int .i64)) .nil⟩)], fun z => (fun (z : List UInt8 × Int) => F_strings_IndexByte k z.1 z.2) z⟩
def C_strings_Split (k : Nat) : Con := ⟨60, ⟨[0, 1], 0, 0, 0, .cons (.cell .str) (.cons (.cell .str) (.cons .any .nil))⟩, [(.ret, ⟨[], 0, 0, 0, .cons (.cell (.sl .str)) .nil⟩)], fun z => (fun (z : List UInt8 × List UInt8) => F_strings_Split k z.1 z.2) z⟩
def C_strings_Fields (k : Nat) : Con := ⟨70, ⟨[0], 0, 0, 0, .cons (.cell .str) (.cons .any .nil)⟩, [(.ret, ⟨[], 0, 0, 0, .cons (.cell (.sl .str)) .nil⟩)], fun z => (fun (z : List UInt8) => F_strings_Fields k z) z⟩
def C_strconv_Atoi (k : Nat) : Con := ⟨71, ⟨[0], 0, 0, 0, .cons (.cell .str) (.cons .any .nil)⟩, [(.ret, ⟨[], 0, 0, 0, .cons (.tupL (.cons (.cell (.int .i64)) (.cons .nili .nil))) .nil⟩)], fun z => (fun (z : List UInt8) => F_strconv_Atoi k z) z⟩
def F_bytes_IndexByte (k : Nat) (s : List Int) (c : Int) : Option Int := some (Lib.indexByte (Lib.bytesOf s) c.toNat.toUInt8)
def C_bytes_IndexByte (k : Nat) : Con := ⟨75, ⟨[0, 1], 0, 0, 0, .cons (.cell (.sl (.int .u8))) (.cons (.cell (.int .u8)) (.cons .any .nil))⟩, [(.ret, ⟨[], 0, 0, 0, .cons (.cell (.int .i64)) .nil⟩)], fun z => (fun (z : List Int × Int) => F_bytes_IndexByte k z.1 z.2) z⟩
end Go.Proofs.YtfghjkgpbncagaaGreatDoor
set_option linter.unusedVariables false
set_option maxRecDepth 100000
set_option maxHeartbeats 1000000
namespace Go.Proofs.YtfghjkgpbncagaaGreatDoor
open Go.RowKit Go.Av Go.Proofs
/-- What the tables show: internal/bytealg.MaxLen is a number, strings.asciiSpace is as it is laid. -/
instance tab : Tab where
  ok _ := True
  mono _ _ _ _ := trivial
  okF F := (∃ m t, F 0 = some (.cells #[.int .i64 m] t (0, 0))) ∧ ∃ t fr, F 1 = some (.cells ((Lib.asciiSpaceTab.map fun z => Value.int .u8 z).toArray) t fr)
def ti3 : TI := ⟨false, 1, [.int .i64 0], (.int .i64), false, .int .i64⟩
def ti4 : TI := ⟨false, 1, [.bool false], .bool, false, .bool⟩
def ti5 : TI := ⟨false, 1, [.int .u8 0], (.int .u8), false, .int .u8⟩
def ti9 : TI := ⟨false, 1, [.str []], .str, false, .str⟩
def ti20 : TI := ⟨false, 1, [.nili], .unit, false, .iface⟩
def ti21 : TI := ⟨false, 1, [.int .i32 0], (.int .i32), false, .int .i32⟩
def ti22 : TI := ⟨false, 1, [.zs true], (.sl (.pair (.int .i64) (.pair (.int .i64) .str))), false, .slice 38 32⟩
def ti23 : TI := ⟨false, 1, [.zs true], (.sl (.pair (.int .i64) (.pair .str (.pair (.int .i64) (.pair (.int .i64) .str))))), false, .slice 40 56⟩
def ti25 : TI := ⟨true, 6, [.str [], .bool false, .zs true, .zs true, .zs true, .zs true], (.pair .str (.pair .bool (.pair (.sl (.pair (.int .i64) (.pair (.int .i64) .str))) (.pair (.sl (.pair (.int .i64) (.pair (.int .i64) .str))) (.pair (.sl (.pair (.int .i64) (.pair (.int .i64) .str))) (.sl (.pair (.int .i64) (.pair .str (.pair (.int .i64) (.pair (.int .i64) .str)))))))))), false, .struct [(0, 1), (1, 1), (2, 1), (3, 1), (4, 1), (5, 1)]⟩
def ti26 : TI := ⟨false, 1, [.zs true], (.sl (.int .u8)), false, .slice 5 1⟩
def ti27 : TI := ⟨false, 1, [.int .i64 0], (.int .i64), false, .int .i64⟩
def ti36 : TI := ⟨true, 3, [.zs true, .zs true, .zs true], (.pair (.sl (.pair (.int .i64) (.pair (.int .i64) .str))) (.pair (.sl (.pair (.int .i64) (.pair (.int .i64) .str))) (.sl (.pair (.int .i64) (.pair (.int .i64) .str))))), false, .array 3 22⟩
def ti38 : TI := ⟨true, 3, [.int .i64 0, .int .i64 0, .str []], (.pair (.int .i64) (.pair (.int .i64) .str)), true, .struct [(0, 1), (1, 1), (2, 1)]⟩
def ti40 : TI := ⟨true, 5, [.int .i64 0, .str [], .int .i64 0, .int .i64 0, .str []], (.pair (.int .i64) (.pair .str (.pair (.int .i64) (.pair (.int .i64) .str)))), true, .struct [(0, 1), (1, 1), (2, 3)]⟩
def ti45 : TI := ⟨true, 2, [.zs true, .bool false], (.pair (.sl (.int .u8)) .bool), false, .struct [(0, 1), (1, 1)]⟩
def ti48 : TI := ⟨false, 1, [.zs true], (.sl (.int .i64)), false, .slice 3 8⟩
def ti63 : TI := ⟨true, 2, [.int .i64 0, .int .i64 0], (.pair (.int .i64) (.int .i64)), false, .struct [(0, 1), (1, 1)]⟩
def ti67 : TI := ⟨true, 3, [.zs true, .int .i64 0, .bool false], (.pair (.sl (.int .u8)) (.pair (.int .i64) .bool)), false, .struct [(0, 1), (1, 1), (2, 1)]⟩
def ti75 : TI := ⟨false, 1, [.nilm], .unit, false, .map 9 3⟩
def ti77 : TI := ⟨true, 3, [.int .u8 0, .int .u8 0, .int .u8 0], (.pair (.int .u8) (.pair (.int .u8) (.int .u8))), false, .array 3 5⟩
def ti85 : TI := ⟨false, 1, [.zs true], (.sl .str), false, .slice 9 16⟩
def ti90 : TI := ⟨true, 3, [.str [], .int .i64 0, .int .i64 0], (.pair .str (.pair (.int .i64) (.int .i64))), false, .struct [(0, 1), (1, 1), (2, 1)]⟩
def ti91 : TI := ⟨true, 336, [.str [], .int .i64 0, .int .i64 0, .str [], .int .i64 0, .int .i64 0, .str [], .int .i64 0, .int .i64 0, .str [], .int .i64 0, .int .i64 0, .str [], .int .i64 0, .int .i64 0, .str [], .int .i64 0, .int .i64 0, .str [], .int .i64 0, .int .i64 0, .str [], .int .i64 0, .int .i64 0, .str [], .int .i64 0, .int .i64 0, .str [], .int .i64 0, .int .i64 0, .str [], .int .i64 0, .int .i64 0, .str [], .int .i64 0, .int .i64 0, .str [], .int .i64 0, .int .i64 0, .str [], .int .i64 0, .int .i64 0, .str [], .int .i64 0, .int .i64 0, .str [], .int .i64 0, .int .i64 0, .str [], .int .i64 0, .int .i64 0, .str [], .int .i64 0, .int .i64 0, .str [], .int .i64 0, .int .i64 0, .str [], .int .i64 0, .int .i64 0, .str [], .int .i64 0, .int .i64 0, .str [], .int .i64 0, .int .i64 0, .str [], .int .i64 0, .int .i64 0, .str [], .int .i64 0, .int .i64 0, .str [], .int .i64 0, .int .i64 0, .str [], .int .i64 0, .int .i64 0, .str [], .int .i64 0, .int .i64 0, .str [], .int .i64 0, .int .i64 0, .str [], .int .i64 0, .int .i64 0, .str [], .int .i64 0, .int .i64 0, .str [], .int .i64 0, .int .i64 0, .str [], .int .i64 0, .int .i64 0, .str [], .int .i64 0, .int .i64 0, .str [], .int .i64 0, .int .i64 0, .str [], .int .i64 0, .int .i64 0, .str [], .int .i64 0, .int .i64 0, .str [], .int .i64 0, .int .i64 0, .str [], .int .i64 0, .int .i64 0, .str [], .int .i64 0, .int .i64 0, .str [], .int .i64 0, .int .i64 0, .str [], .int .i64 0, .int .i64 0, .str [], .int .i64 0, .int .i64 0, .str [], .int .i64 0, .int .i64 0, .str [], .int .i64 0, .int .i64 0, .str [], .int .i64 0, .int .i64 0, .str [], .int .i64 0, .int .i64 0, .str [], .int .i64 0, .int .i64 0, .str [], .int .i64 0, .int .i64 0, .str [], .int .i64 0, .int .i64 0, .str [], .int .i64 0, .int .i64 0, .str [], .int .i64 0, .int .i64 0, .str [], .int .i64 0, .int .i64 0, .str [], .int .i64 0, .int .i64 0, .str [], .int .i64 0, .int .i64 0, .str [], .int .i64 0, .int .i64 0, .str [], .int .i64 0, .int .i64 0, .str [], .int .i64 0, .int .i64 0, .str [], .int .i64 0, .int .i64 0, .str [], .int .i64 0, .int .i64 0, .str [], .int .i64 0, .int .i64 0, .str [], .int .i64 0, .int .i64 0, .str [], .int .i64 0, .int .i64 0, .str [], .int .i64 0, .int .i64 0, .str [], .int .i64 0, .int .i64 0, .str [], .int .i64 0, .int .i64 0, .str [], .int .i64 0, .int .i64 0, .str [], .int .i64 0, .int .i64 0, .str [], .int .i64 0, .int .i64 0, .str [], .int .i64 0, .int .i64 0, .str [], .int .i64 0, .int .i64 0, .str [], .int .i64 0, .int .i64 0, .str [], .int .i64 0, .int .i64 0, .str [], .int .i64 0, .int .i64 0, .str [], .int .i64 0, .int .i64 0, .str [], .int .i64 0, .int .i64 0, .str [], .int .i64 0, .int .i64 0, .str [], .int .i64 0, .int .i64 0, .str [], .int .i64 0, .int .i64 0, .str [], .int .i64 0, .int .i64 0, .str [], .int .i64 0, .int .i64 0, .str [], .int .i64 0, .int .i64 0, .str [], .int .i64 0, .int .i64 0, .str [], .int .i64 0, .int .i64 0, .str [], .int .i64 0, .int .i64 0, .str [], .int .i64 0, .int .i64 0, .str [], .int .i64 0, .int .i64 0, .str [], .int .i64 0, .int .i64 0, .str [], .int .i64 0, .int .i64 0, .str [], .int .i64 0, .int .i64 0, .str [], .int .i64 0, .int .i64 0, .str [], .int .i64 0, .int .i64 0, .str [], .int .i64 0, .int .i64 0, .str [], .int .i64 0, .int .i64 0, .str [], .int .i64 0, .int .i64 0, .str [], .int .i64 0, .int .i64 0, .str [], .int .i64 0, .int .i64 0, .str [], .int .i64 0, .int .i64 0, .str [], .int .i64 0, .int .i64 0, .str [], .int .i64 0, .int .i64 0, .str [], .int .i64 0, .int .i64 0, .str [], .int .i64 0, .int .i64 0, .str [], .int .i64 0, .int .i64 0, .str [], .int .i64 0, .int .i64 0, .str [], .int .i64 0, .int .i64 0, .str [], .int .i64 0, .int .i64 0, .str [], .int .i64 0, .int .i64 0, .str [], .int .i64 0, .int .i64 0, .str [], .int .i64 0, .int .i64 0, .str [], .int .i64 0, .int .i64 0, .str [], .int .i64 0, .int .i64 0, .str [], .int .i64 0, .int .i64 0, .str [], .int .i64 0, .int .i64 0], .unit, false, .array 112 90⟩
def ti96 : TI := ⟨true, 5, [.int .i64 0, .int .i64 0, .int .i64 0, .int .i64 0, .int .i64 0], (.pair (.int .i64) (.pair (.int .i64) (.pair (.int .i64) (.pair (.int .i64) (.int .i64))))), false, .array 5 3⟩
def ti98 : TI := ⟨true, 12, [.int .i64 0, .int .i64 0, .int .i64 0, .int .i64 0, .int .i64 0, .int .i64 0, .int .i64 0, .int .i64 0, .int .i64 0, .int .i64 0, .int .i64 0, .int .i64 0], (.pair (.int .i64) (.pair (.int .i64) (.pair (.int .i64) (.pair (.int .i64) (.pair (.int .i64) (.pair (.int .i64) (.pair (.int .i64) (.pair (.int .i64) (.pair (.int .i64) (.pair (.int .i64) (.pair (.int .i64) (.int .i64)))))))))))), false, .struct [(0, 1), (1, 1), (2, 1), (3, 1), (4, 1), (5, 1), (6, 1), (7, 1), (8, 1), (9, 1), (10, 1), (11, 1)]⟩
def ti104 : TI := ⟨false, 1, [.nilf], .unit, false, .fn⟩
def ti111 : TI := ⟨true, 5, [.str [], .str [], .str [], .str [], .str []], (.pair .str (.pair .str (.pair .str (.pair .str .str)))), false, .array 5 9⟩
def ti115 : TI := ⟨false, 1, [.int .i16 0], (.int .i16), false, .int .i16⟩
def ti116 : TI := ⟨false, 1, [.int .u16 0], (.int .u16), false, .int .u16⟩
def ti125 : TI := ⟨false, 1, [.nilp], .unit, false, .ptr⟩
def ti129 : TI := ⟨false, 1, [.int .u32 0], (.int .u32), false, .int .u32⟩
def ti136 : TI := ⟨true, 3, [.nilp, .nilp, .nilp], .unit, false, .array 3 125⟩
def TT : List (Nat × TI) := [(3, ti3), (4, ti4), (5, ti5), (9, ti9), (20, ti20), (21, ti21), (22, ti22), (23, ti23), (25, ti25), (26, ti26), (27, ti27), (36, ti36), (38, ti38), (40, ti40), (45, ti45), (48, ti48), (63, ti63), (67, ti67), (75, ti75), (77, ti77), (85, ti85), (90, ti90), (91, ti91), (96, ti96), (98, ti98), (104, ti104), (111, ti111), (115, ti115), (116, ti116), (125, ti125), (129, ti129), (136, ti136)]
theorem ag3 : (Tryz.prog.underlying 3).map aggD = some false := by kernel_rfl
theorem sz3 : (Tryz.prog.info? 3).map (·.size) = some 1 := by kernel_rfl
theorem ag4 : (Tryz.prog.underlying 4).map aggD = some false := by kernel_rfl
theorem sz4 : (Tryz.prog.info? 4).map (·.size) = some 1 := by kernel_rfl
theorem ag5 : (Tryz.prog.underlying 5).map aggD = some false := by kernel_rfl
theorem sz5 : (Tryz.prog.info? 5).map (·.size) = some 1 := by kernel_rfl
theorem ag9 : (Tryz.prog.underlying 9).map aggD = some false := by kernel_rfl
theorem sz9 : (Tryz.prog.info? 9).map (·.size) = some 1 := by kernel_rfl
theorem ag20 : (Tryz.prog.underlying 20).map aggD = some false := by kernel_rfl
theorem sz20 : (Tryz.prog.info? 20).map (·.size) = some 1 := by kernel_rfl
theorem ag21 : (Tryz.prog.underlying 21).map aggD = some false := by kernel_rfl
theorem sz21 : (Tryz.prog.info? 21).map (·.size) = some 1 := by kernel_rfl
theorem ag22 : (Tryz.prog.underlying 22).map aggD = some false := by kernel_rfl
theorem sz22 : (Tryz.prog.info? 22).map (·.size) = some 1 := by kernel_rfl
theorem ag23 : (Tryz.prog.underlying 23).map aggD = some false := by kernel_rfl
theorem sz23 : (Tryz.prog.info? 23).map (·.size) = some 1 := by kernel_rfl
theorem ag25 : (Tryz.prog.underlying 25).map aggD = some true := by kernel_rfl
theorem sz25 : (Tryz.prog.info? 25).map (·.size) = some 6 := by kernel_rfl
theorem un25 : Tryz.prog.underlying 25 = Tryz.prog.underlying 24 := by kernel_rfl
theorem ag26 : (Tryz.prog.underlying 26).map aggD = some false := by kernel_rfl
theorem sz26 : (Tryz.prog.info? 26).map (·.size) = some 1 := by kernel_rfl
theorem ag27 : (Tryz.prog.underlying 27).map aggD = some false := by kernel_rfl
theorem sz27 : (Tryz.prog.info? 27).map (·.size) = some 1 := by kernel_rfl
theorem un27 : Tryz.prog.underlying 27 = Tryz.prog.underlying 3 := by kernel_rfl
theorem ag36 : (Tryz.prog.underlying 36).map aggD = some true := by kernel_rfl
theorem sz36 : (Tryz.prog.info? 36).map (·.size) = some 3 := by kernel_rfl
theorem ag38 : (Tryz.prog.underlying 38).map aggD = some true := by kernel_rfl
theorem sz38 : (Tryz.prog.info? 38).map (·.size) = some 3 := by kernel_rfl
theorem un38 : Tryz.prog.underlying 38 = Tryz.prog.underlying 37 := by kernel_rfl
theorem ag40 : (Tryz.prog.underlying 40).map aggD = some true := by kernel_rfl
theorem sz40 : (Tryz.prog.info? 40).map (·.size) = some 5 := by kernel_rfl
theorem un40 : Tryz.prog.underlying 40 = Tryz.prog.underlying 39 := by kernel_rfl
theorem ag45 : (Tryz.prog.underlying 45).map aggD = some true := by kernel_rfl
theorem sz45 : (Tryz.prog.info? 45).map (·.size) = some 2 := by kernel_rfl
theorem un45 : Tryz.prog.underlying 45 = Tryz.prog.underlying 44 := by kernel_rfl
theorem ag48 : (Tryz.prog.underlying 48).map aggD = some false := by kernel_rfl
theorem sz48 : (Tryz.prog.info? 48).map (·.size) = some 1 := by kernel_rfl
theorem ag63 : (Tryz.prog.underlying 63).map aggD = some true := by kernel_rfl
theorem sz63 : (Tryz.prog.info? 63).map (·.size) = some 2 := by kernel_rfl
theorem un63 : Tryz.prog.underlying 63 = Tryz.prog.underlying 62 := by kernel_rfl
theorem ag67 : (Tryz.prog.underlying 67).map aggD = some true := by kernel_rfl
theorem sz67 : (Tryz.prog.info? 67).map (·.size) = some 3 := by kernel_rfl
theorem un67 : Tryz.prog.underlying 67 = Tryz.prog.underlying 66 := by kernel_rfl
theorem ag75 : (Tryz.prog.underlying 75).map aggD = some false := by kernel_rfl
theorem sz75 : (Tryz.prog.info? 75).map (·.size) = some 1 := by kernel_rfl
theorem ag77 : (Tryz.prog.underlying 77).map aggD = some true := by kernel_rfl
theorem sz77 : (Tryz.prog.info? 77).map (·.size) = some 3 := by kernel_rfl
theorem ag85 : (Tryz.prog.underlying 85).map aggD = some false := by kernel_rfl
theorem sz85 : (Tryz.prog.info? 85).map (·.size) = some 1 := by kernel_rfl
theorem ag90 : (Tryz.prog.underlying 90).map aggD = some true := by kernel_rfl
theorem sz90 : (Tryz.prog.info? 90).map (·.size) = some 3 := by kernel_rfl
theorem un90 : Tryz.prog.underlying 90 = Tryz.prog.underlying 89 := by kernel_rfl
theorem ag91 : (Tryz.prog.underlying 91).map aggD = some true := by kernel_rfl
theorem sz91 : (Tryz.prog.info? 91).map (·.size) = some 336 := by kernel_rfl
theorem ag96 : (Tryz.prog.underlying 96).map aggD = some true := by kernel_rfl
theorem sz96 : (Tryz.prog.info? 96).map (·.size) = some 5 := by kernel_rfl
theorem ag98 : (Tryz.prog.underlying 98).map aggD = some true := by kernel_rfl
theorem sz98 : (Tryz.prog.info? 98).map (·.size) = some 12 := by kernel_rfl
theorem un98 : Tryz.prog.underlying 98 = Tryz.prog.underlying 97 := by kernel_rfl
theorem ag104 : (Tryz.prog.underlying 104).map aggD = some false := by kernel_rfl
theorem sz104 : (Tryz.prog.info? 104).map (·.size) = some 1 := by kernel_rfl
theorem ag111 : (Tryz.prog.underlying 111).map aggD = some true := by kernel_rfl
theorem sz111 : (Tryz.prog.info? 111).map (·.size) = some 5 := by kernel_rfl
theorem ag115 : (Tryz.prog.underlying 115).map aggD = some false := by kernel_rfl
theorem sz115 : (Tryz.prog.info? 115).map (·.size) = some 1 := by kernel_rfl
theorem ag116 : (Tryz.prog.underlying 116).map aggD = some false := by kernel_rfl
theorem sz116 : (Tryz.prog.info? 116).map (·.size) = some 1 := by kernel_rfl
theorem ag125 : (Tryz.prog.underlying 125).map aggD = some false := by kernel_rfl
theorem sz125 : (Tryz.prog.info? 125).map (·.size) = some 1 := by kernel_rfl
theorem ag129 : (Tryz.prog.underlying 129).map aggD = some false := by kernel_rfl
theorem sz129 : (Tryz.prog.info? 129).map (·.size) = some 1 := by kernel_rfl
theorem ag136 : (Tryz.prog.underlying 136).map aggD = some true := by kernel_rfl
theorem sz136 : (Tryz.prog.info? 136).map (·.size) = some 3 := by kernel_rfl
theorem si38 : Tryz.prog.stoodInHeld 38 = false := by kernel_rfl
theorem fo38 : Tryz.prog.fieldsOf 38 = #[{ name := "State", type := 3, offset := 0, embedded := false, tag := "", pkgPath := "", byteOffset := 0 }, { name := "Num", type := 3, offset := 1, embedded := false, tag := "", pkgPath := "", byteOffset := 8 }, { name := "Text", type := 9, offset := 2, embedded := false, tag := "", pkgPath := "", byteOffset := 16 }] := by kernel_rfl
theorem us38 : Tryz.prog.underlying 38 = some (.struct (Tryz.prog.fieldsOf 38)) := by kernel_rfl
theorem eqc38 (d : Nat) (w : World) (a0 : Int) (a1 : Int) (a2 : List UInt8) (b0 : Int) (b1 : Int) (b2 : List UInt8) : (Op.equalIn (d + 2) 38 (.agg #[.int .i64 a0, .int .i64 a1, .string ⟨a2.toArray⟩]) (.agg #[.int .i64 b0, .int .i64 b1, .string ⟨b2.toArray⟩])).run Tryz.prog w = .ok ((a0 == b0) && ((a1 == b1) && ((a2 == b2) && true))) w := by
  rw [show d + 2 = (d + 1) + 1 from rfl, run_equalIn_struct w _ 38 _ _ us38 si38, fo38]
  refine eqF_cons (by decide) (by simp [part, run_isAgg ag3] <;> rfl) (by simp [part, run_isAgg ag3] <;> rfl) (eqI_int Tryz.underlying3) ?_
  refine eqF_cons (by decide) (by simp [part, run_isAgg ag3] <;> rfl) (by simp [part, run_isAgg ag3] <;> rfl) (eqI_int Tryz.underlying3) ?_
  refine eqF_cons (by decide) (by simp [part, run_isAgg ag9] <;> rfl) (by simp [part, run_isAgg ag9] <;> rfl) (eqI_str Tryz.underlying9) ?_
  exact eqF_nil
theorem gp38 : Tryz.prog.eqGuardType Tryz.prog.depth 38 = false := by kernel_rfl
theorem eqc38_eql (x y : Operand) (a0 : Int) (a1 : Int) (a2 : List UInt8) (b0 : Int) (b1 : Int) (b2 : List UInt8) (w : World) : (do eqGuard .eql 38 x y (.agg #[.int .i64 a0, .int .i64 a1, .string ⟨a2.toArray⟩]) (.agg #[.int .i64 b0, .int .i64 b1, .string ⟨b2.toArray⟩]); binOp .eql 38 (.agg #[.int .i64 a0, .int .i64 a1, .string ⟨a2.toArray⟩]) (.agg #[.int .i64 b0, .int .i64 b1, .string ⟨b2.toArray⟩]) : Sem Value).run Tryz.prog w = .ok (.bool (((a0 == b0) && ((a1 == b1) && ((a2 == b2) && true))))) w := by
  rw [Sem.run_bind, run_eqGuard_agg (hm := gp38), Result.andThen_ok, run_eql_struct, show (10000 : Nat) = 9998 + 2 from rfl, eqc38]
  rfl
theorem eqc38_neq (x y : Operand) (a0 : Int) (a1 : Int) (a2 : List UInt8) (b0 : Int) (b1 : Int) (b2 : List UInt8) (w : World) : (do eqGuard .neq 38 x y (.agg #[.int .i64 a0, .int .i64 a1, .string ⟨a2.toArray⟩]) (.agg #[.int .i64 b0, .int .i64 b1, .string ⟨b2.toArray⟩]); binOp .neq 38 (.agg #[.int .i64 a0, .int .i64 a1, .string ⟨a2.toArray⟩]) (.agg #[.int .i64 b0, .int .i64 b1, .string ⟨b2.toArray⟩]) : Sem Value).run Tryz.prog w = .ok (.bool (!((a0 == b0) && ((a1 == b1) && ((a2 == b2) && true))))) w := by
  rw [Sem.run_bind, run_eqGuard_agg (hm := gp38), Result.andThen_ok, run_neq_struct, show (10000 : Nat) = 9998 + 2 from rfl, eqc38]
  rfl
theorem eqo38 : EqOk Tryz.prog 38 (.pair (.int .i64) (.pair (.int .i64) .str)) := eqOk_of (fun x y u v w => by
    have h := eqc38_eql x y u.1 u.2.1 u.2.2 v.1 v.2.1 v.2.2 w
    simp only [Bool.and_true] at h
    exact h) (fun x y u v w => by
    have h := eqc38_neq x y u.1 u.2.1 u.2.2 v.1 v.2.1 v.2.2 w
    simp only [Bool.and_true] at h
    exact h)
theorem si40 : Tryz.prog.stoodInHeld 40 = false := by kernel_rfl
theorem fo40 : Tryz.prog.fieldsOf 40 = #[{ name := "Kind", type := 3, offset := 0, embedded := false, tag := "", pkgPath := "", byteOffset := 0 }, { name := "Name", type := 9, offset := 1, embedded := false, tag := "", pkgPath := "", byteOffset := 8 }, { name := "Cap", type := 38, offset := 2, embedded := false, tag := "", pkgPath := "", byteOffset := 24 }] := by kernel_rfl
theorem us40 : Tryz.prog.underlying 40 = some (.struct (Tryz.prog.fieldsOf 40)) := by kernel_rfl
theorem eqc40 (d : Nat) (w : World) (a0 : Int) (a1 : List UInt8) (a2 : Int) (a3 : Int) (a4 : List UInt8) (b0 : Int) (b1 : List UInt8) (b2 : Int) (b3 : Int) (b4 : List UInt8) : (Op.equalIn (d + 3) 40 (.agg #[.int .i64 a0, .string ⟨a1.toArray⟩, .int .i64 a2, .int .i64 a3, .string ⟨a4.toArray⟩]) (.agg #[.int .i64 b0, .string ⟨b1.toArray⟩, .int .i64 b2, .int .i64 b3, .string ⟨b4.toArray⟩])).run Tryz.prog w = .ok ((a0 == b0) && ((a1 == b1) && (((a2 == b2) && ((a3 == b3) && ((a4 == b4) && true))) && true))) w := by
  rw [show d + 3 = (d + 2) + 1 from rfl, run_equalIn_struct w _ 40 _ _ us40 si40, fo40]
  refine eqF_cons (by decide) (by simp [part, run_isAgg ag3] <;> rfl) (by simp [part, run_isAgg ag3] <;> rfl) (eqI_int Tryz.underlying3) ?_
  refine eqF_cons (by decide) (by simp [part, run_isAgg ag9] <;> rfl) (by simp [part, run_isAgg ag9] <;> rfl) (eqI_str Tryz.underlying9) ?_
  refine eqF_cons (by decide) (by simp [part, run_isAgg ag38, run_sizeOf' sz38] <;> rfl) (by simp [part, run_isAgg ag38, run_sizeOf' sz38] <;> rfl) (eqc38 _ _ _ _ _ _ _ _) ?_
  exact eqF_nil
theorem gp40 : Tryz.prog.eqGuardType Tryz.prog.depth 40 = false := by kernel_rfl
theorem eqc40_eql (x y : Operand) (a0 : Int) (a1 : List UInt8) (a2 : Int) (a3 : Int) (a4 : List UInt8) (b0 : Int) (b1 : List UInt8) (b2 : Int) (b3 : Int) (b4 : List UInt8) (w : World) : (do eqGuard .eql 40 x y (.agg #[.int .i64 a0, .string ⟨a1.toArray⟩, .int .i64 a2, .int .i64 a3, .string ⟨a4.toArray⟩]) (.agg #[.int .i64 b0, .string ⟨b1.toArray⟩, .int .i64 b2, .int .i64 b3, .string ⟨b4.toArray⟩]); binOp .eql 40 (.agg #[.int .i64 a0, .string ⟨a1.toArray⟩, .int .i64 a2, .int .i64 a3, .string ⟨a4.toArray⟩]) (.agg #[.int .i64 b0, .string ⟨b1.toArray⟩, .int .i64 b2, .int .i64 b3, .string ⟨b4.toArray⟩]) : Sem Value).run Tryz.prog w = .ok (.bool (((a0 == b0) && ((a1 == b1) && (((a2 == b2) && ((a3 == b3) && ((a4 == b4) && true))) && true))))) w := by
  rw [Sem.run_bind, run_eqGuard_agg (hm := gp40), Result.andThen_ok, run_eql_struct, show (10000 : Nat) = 9997 + 3 from rfl, eqc40]
  rfl
theorem eqc40_neq (x y : Operand) (a0 : Int) (a1 : List UInt8) (a2 : Int) (a3 : Int) (a4 : List UInt8) (b0 : Int) (b1 : List UInt8) (b2 : Int) (b3 : Int) (b4 : List UInt8) (w : World) : (do eqGuard .neq 40 x y (.agg #[.int .i64 a0, .string ⟨a1.toArray⟩, .int .i64 a2, .int .i64 a3, .string ⟨a4.toArray⟩]) (.agg #[.int .i64 b0, .string ⟨b1.toArray⟩, .int .i64 b2, .int .i64 b3, .string ⟨b4.toArray⟩]); binOp .neq 40 (.agg #[.int .i64 a0, .string ⟨a1.toArray⟩, .int .i64 a2, .int .i64 a3, .string ⟨a4.toArray⟩]) (.agg #[.int .i64 b0, .string ⟨b1.toArray⟩, .int .i64 b2, .int .i64 b3, .string ⟨b4.toArray⟩]) : Sem Value).run Tryz.prog w = .ok (.bool (!((a0 == b0) && ((a1 == b1) && (((a2 == b2) && ((a3 == b3) && ((a4 == b4) && true))) && true))))) w := by
  rw [Sem.run_bind, run_eqGuard_agg (hm := gp40), Result.andThen_ok, run_neq_struct, show (10000 : Nat) = 9997 + 3 from rfl, eqc40]
  rfl
theorem eqo40 : EqOk Tryz.prog 40 (.pair (.int .i64) (.pair .str (.pair (.int .i64) (.pair (.int .i64) .str)))) := eqOk_of (fun x y u v w => by
    have h := eqc40_eql x y u.1 u.2.1 u.2.2.1 u.2.2.2.1 u.2.2.2.2 v.1 v.2.1 v.2.2.1 v.2.2.2.1 v.2.2.2.2 w
    simp only [Bool.and_true] at h
    exact h) (fun x y u v w => by
    have h := eqc40_neq x y u.1 u.2.1 u.2.2.1 u.2.2.2.1 u.2.2.2.2 v.1 v.2.1 v.2.2.1 v.2.2.2.1 v.2.2.2.2 w
    simp only [Bool.and_true] at h
    exact h)
theorem to3 : TIOk Tryz.prog TT 3 ti3 := ⟨ag3, sz3, ⟨(.int .i64 0), by kernel_rfl, by kernel_rfl, by kernel_rfl, by kernel_rfl, (fun _ => by kernel_rfl), (fun h => nomatch h)⟩, Tryz.underlying3⟩
theorem to4 : TIOk Tryz.prog TT 4 ti4 := ⟨ag4, sz4, ⟨(.bool false), by kernel_rfl, by kernel_rfl, by kernel_rfl, by kernel_rfl, (fun _ => by kernel_rfl), (fun h => nomatch h)⟩, Tryz.underlying4⟩
theorem to5 : TIOk Tryz.prog TT 5 ti5 := ⟨ag5, sz5, ⟨(.int .u8 0), by kernel_rfl, by kernel_rfl, by kernel_rfl, by kernel_rfl, (fun _ => by kernel_rfl), (fun h => nomatch h)⟩, Tryz.underlying5⟩
theorem to9 : TIOk Tryz.prog TT 9 ti9 := ⟨ag9, sz9, ⟨(.string ⟨#[]⟩), by kernel_rfl, by kernel_rfl, by kernel_rfl, by kernel_rfl, (fun _ => by kernel_rfl), (fun h => nomatch h)⟩, Tryz.underlying9⟩
theorem to20 : TIOk Tryz.prog TT 20 ti20 := ⟨ag20, sz20, ⟨(.nilIface), by kernel_rfl, by kernel_rfl, by kernel_rfl, by kernel_rfl, (fun _ => by kernel_rfl), (fun h => nomatch h)⟩, ⟨_, Tryz.underlying20⟩⟩
theorem to21 : TIOk Tryz.prog TT 21 ti21 := ⟨ag21, sz21, ⟨(.int .i32 0), by kernel_rfl, by kernel_rfl, by kernel_rfl, by kernel_rfl, (fun _ => by kernel_rfl), (fun h => nomatch h)⟩, Tryz.underlying21⟩
theorem to22 : TIOk Tryz.prog TT 22 ti22 := ⟨ag22, sz22, ⟨(.slice none 0 0), by kernel_rfl, by kernel_rfl, by kernel_rfl, by kernel_rfl, (fun _ => by kernel_rfl), (fun h => nomatch h)⟩, ⟨Tryz.underlying22, elem_of (j0 := ti38) rfl ⟨by kernel_rfl, (.agg #[.int .i64 0, .int .i64 0, .string ⟨#[]⟩]), by kernel_rfl, by kernel_rfl⟩⟩⟩
theorem to23 : TIOk Tryz.prog TT 23 ti23 := ⟨ag23, sz23, ⟨(.slice none 0 0), by kernel_rfl, by kernel_rfl, by kernel_rfl, by kernel_rfl, (fun _ => by kernel_rfl), (fun h => nomatch h)⟩, ⟨Tryz.underlying23, elem_of (j0 := ti40) rfl ⟨by kernel_rfl, (.agg #[.int .i64 0, .string ⟨#[]⟩, .int .i64 0, .int .i64 0, .string ⟨#[]⟩]), by kernel_rfl, by kernel_rfl⟩⟩⟩
theorem to25 : TIOk Tryz.prog TT 25 ti25 := ⟨ag25, sz25, ⟨(.agg #[.string ⟨#[]⟩, .bool false, .slice none 0 0, .slice none 0 0, .slice none 0 0, .slice none 0 0]), by kernel_rfl, by kernel_rfl, by kernel_rfl, by kernel_rfl, (fun h => nomatch h), (fun _ => by kernel_rfl)⟩, ⟨[{ name := "Names", type := 9, offset := 0, embedded := false, tag := "", pkgPath := "", byteOffset := 0 }, { name := "Wide", type := 4, offset := 1, embedded := false, tag := "", pkgPath := "", byteOffset := 16 }, { name := "Bools", type := 22, offset := 2, embedded := false, tag := "", pkgPath := "", byteOffset := 24 }, { name := "Nums", type := 22, offset := 3, embedded := false, tag := "", pkgPath := "", byteOffset := 48 }, { name := "Strs", type := 22, offset := 4, embedded := false, tag := "", pkgPath := "", byteOffset := 72 }, { name := "Exts", type := 23, offset := 5, embedded := false, tag := "", pkgPath := "", byteOffset := 96 }].toArray, (un25.trans Tryz.underlying24), allF_at (P := Tryz.prog) (pl := [(0, 1), (1, 1), (2, 1), (3, 1), (4, 1), (5, 1)]) (fs := [{ name := "Names", type := 9, offset := 0, embedded := false, tag := "", pkgPath := "", byteOffset := 0 }, { name := "Wide", type := 4, offset := 1, embedded := false, tag := "", pkgPath := "", byteOffset := 16 }, { name := "Bools", type := 22, offset := 2, embedded := false, tag := "", pkgPath := "", byteOffset := 24 }, { name := "Nums", type := 22, offset := 3, embedded := false, tag := "", pkgPath := "", byteOffset := 48 }, { name := "Strs", type := 22, offset := 4, embedded := false, tag := "", pkgPath := "", byteOffset := 72 }, { name := "Exts", type := 23, offset := 5, embedded := false, tag := "", pkgPath := "", byteOffset := 96 }]) ⟨(fun a w => by simp [fieldPlace, run_sizeOf' sz9]), (fun a w => by simp [fieldPlace, run_sizeOf' sz4]), (fun a w => by simp [fieldPlace, run_sizeOf' sz22]), (fun a w => by simp [fieldPlace, run_sizeOf' sz22]), (fun a w => by simp [fieldPlace, run_sizeOf' sz22]), (fun a w => by simp [fieldPlace, run_sizeOf' sz23]), trivial⟩, fun w => by simp [run_sizeOf' sz22, run_sizeOf' sz23, run_sizeOf' sz4, run_sizeOf' sz9]⟩⟩
theorem to26 : TIOk Tryz.prog TT 26 ti26 := ⟨ag26, sz26, ⟨(.slice none 0 0), by kernel_rfl, by kernel_rfl, by kernel_rfl, by kernel_rfl, (fun _ => by kernel_rfl), (fun h => nomatch h)⟩, ⟨Tryz.underlying26, elem_of (j0 := ti5) rfl ⟨by kernel_rfl, (.int .u8 0), by kernel_rfl, by kernel_rfl⟩⟩⟩
theorem to27 : TIOk Tryz.prog TT 27 ti27 := ⟨ag27, sz27, ⟨(.int .i64 0), by kernel_rfl, by kernel_rfl, by kernel_rfl, by kernel_rfl, (fun _ => by kernel_rfl), (fun h => nomatch h)⟩, (un27.trans Tryz.underlying3)⟩
theorem to36 : TIOk Tryz.prog TT 36 ti36 := ⟨ag36, sz36, ⟨(.agg #[.slice none 0 0, .slice none 0 0, .slice none 0 0]), by kernel_rfl, by kernel_rfl, by kernel_rfl, by kernel_rfl, (fun h => nomatch h), (fun _ => by kernel_rfl)⟩, Tryz.underlying36⟩
theorem to38 : TIOk Tryz.prog TT 38 ti38 := ⟨ag38, sz38, ⟨(.agg #[.int .i64 0, .int .i64 0, .string ⟨#[]⟩]), by kernel_rfl, by kernel_rfl, by kernel_rfl, by kernel_rfl, (fun h => nomatch h), (fun _ => by kernel_rfl)⟩, ⟨[{ name := "State", type := 3, offset := 0, embedded := false, tag := "", pkgPath := "", byteOffset := 0 }, { name := "Num", type := 3, offset := 1, embedded := false, tag := "", pkgPath := "", byteOffset := 8 }, { name := "Text", type := 9, offset := 2, embedded := false, tag := "", pkgPath := "", byteOffset := 16 }].toArray, (un38.trans Tryz.underlying37), allF_at (P := Tryz.prog) (pl := [(0, 1), (1, 1), (2, 1)]) (fs := [{ name := "State", type := 3, offset := 0, embedded := false, tag := "", pkgPath := "", byteOffset := 0 }, { name := "Num", type := 3, offset := 1, embedded := false, tag := "", pkgPath := "", byteOffset := 8 }, { name := "Text", type := 9, offset := 2, embedded := false, tag := "", pkgPath := "", byteOffset := 16 }]) ⟨(fun a w => by simp [fieldPlace, run_sizeOf' sz3]), (fun a w => by simp [fieldPlace, run_sizeOf' sz3]), (fun a w => by simp [fieldPlace, run_sizeOf' sz9]), trivial⟩, fun w => by simp [run_sizeOf' sz3, run_sizeOf' sz9]⟩⟩
theorem to40 : TIOk Tryz.prog TT 40 ti40 := ⟨ag40, sz40, ⟨(.agg #[.int .i64 0, .string ⟨#[]⟩, .int .i64 0, .int .i64 0, .string ⟨#[]⟩]), by kernel_rfl, by kernel_rfl, by kernel_rfl, by kernel_rfl, (fun h => nomatch h), (fun _ => by kernel_rfl)⟩, ⟨[{ name := "Kind", type := 3, offset := 0, embedded := false, tag := "", pkgPath := "", byteOffset := 0 }, { name := "Name", type := 9, offset := 1, embedded := false, tag := "", pkgPath := "", byteOffset := 8 }, { name := "Cap", type := 38, offset := 2, embedded := false, tag := "", pkgPath := "", byteOffset := 24 }].toArray, (un40.trans Tryz.underlying39), allF_at (P := Tryz.prog) (pl := [(0, 1), (1, 1), (2, 3)]) (fs := [{ name := "Kind", type := 3, offset := 0, embedded := false, tag := "", pkgPath := "", byteOffset := 0 }, { name := "Name", type := 9, offset := 1, embedded := false, tag := "", pkgPath := "", byteOffset := 8 }, { name := "Cap", type := 38, offset := 2, embedded := false, tag := "", pkgPath := "", byteOffset := 24 }]) ⟨(fun a w => by simp [fieldPlace, run_sizeOf' sz3]), (fun a w => by simp [fieldPlace, run_sizeOf' sz9]), (fun a w => by simp [fieldPlace, run_sizeOf' sz38]), trivial⟩, fun w => by simp [run_sizeOf' sz3, run_sizeOf' sz38, run_sizeOf' sz9]⟩⟩
theorem to45 : TIOk Tryz.prog TT 45 ti45 := ⟨ag45, sz45, ⟨(.agg #[.slice none 0 0, .bool false]), by kernel_rfl, by kernel_rfl, by kernel_rfl, by kernel_rfl, (fun h => nomatch h), (fun _ => by kernel_rfl)⟩, ⟨[{ name := "b", type := 26, offset := 0, embedded := false, tag := "", pkgPath := "lanyard/tinfo", byteOffset := 0 }, { name := "wide", type := 4, offset := 1, embedded := false, tag := "", pkgPath := "lanyard/tinfo", byteOffset := 24 }].toArray, (un45.trans Tryz.underlying44), allF_at (P := Tryz.prog) (pl := [(0, 1), (1, 1)]) (fs := [{ name := "b", type := 26, offset := 0, embedded := false, tag := "", pkgPath := "lanyard/tinfo", byteOffset := 0 }, { name := "wide", type := 4, offset := 1, embedded := false, tag := "", pkgPath := "lanyard/tinfo", byteOffset := 24 }]) ⟨(fun a w => by simp [fieldPlace, run_sizeOf' sz26]), (fun a w => by simp [fieldPlace, run_sizeOf' sz4]), trivial⟩, fun w => by simp [run_sizeOf' sz26, run_sizeOf' sz4]⟩⟩
theorem to48 : TIOk Tryz.prog TT 48 ti48 := ⟨ag48, sz48, ⟨(.slice none 0 0), by kernel_rfl, by kernel_rfl, by kernel_rfl, by kernel_rfl, (fun _ => by kernel_rfl), (fun h => nomatch h)⟩, ⟨Tryz.underlying48, elem_of (j0 := ti3) rfl ⟨by kernel_rfl, (.int .i64 0), by kernel_rfl, by kernel_rfl⟩⟩⟩
theorem to63 : TIOk Tryz.prog TT 63 ti63 := ⟨ag63, sz63, ⟨(.agg #[.int .i64 0, .int .i64 0]), by kernel_rfl, by kernel_rfl, by kernel_rfl, by kernel_rfl, (fun h => nomatch h), (fun _ => by kernel_rfl)⟩, ⟨[{ name := "at", type := 3, offset := 0, embedded := false, tag := "", pkgPath := "lanyard/tinfo", byteOffset := 0 }, { name := "e", type := 27, offset := 1, embedded := false, tag := "", pkgPath := "lanyard/tinfo", byteOffset := 8 }].toArray, (un63.trans Tryz.underlying62), allF_at (P := Tryz.prog) (pl := [(0, 1), (1, 1)]) (fs := [{ name := "at", type := 3, offset := 0, embedded := false, tag := "", pkgPath := "lanyard/tinfo", byteOffset := 0 }, { name := "e", type := 27, offset := 1, embedded := false, tag := "", pkgPath := "lanyard/tinfo", byteOffset := 8 }]) ⟨(fun a w => by simp [fieldPlace, run_sizeOf' sz3]), (fun a w => by simp [fieldPlace, run_sizeOf' sz27]), trivial⟩, fun w => by simp [run_sizeOf' sz27, run_sizeOf' sz3]⟩⟩
theorem to67 : TIOk Tryz.prog TT 67 ti67 := ⟨ag67, sz67, ⟨(.agg #[.slice none 0 0, .int .i64 0, .bool false]), by kernel_rfl, by kernel_rfl, by kernel_rfl, by kernel_rfl, (fun h => nomatch h), (fun _ => by kernel_rfl)⟩, ⟨[{ name := "b", type := 26, offset := 0, embedded := false, tag := "", pkgPath := "lanyard/tinfo", byteOffset := 0 }, { name := "at", type := 3, offset := 1, embedded := false, tag := "", pkgPath := "lanyard/tinfo", byteOffset := 24 }, { name := "wide", type := 4, offset := 2, embedded := false, tag := "", pkgPath := "lanyard/tinfo", byteOffset := 32 }].toArray, (un67.trans Tryz.underlying66), allF_at (P := Tryz.prog) (pl := [(0, 1), (1, 1), (2, 1)]) (fs := [{ name := "b", type := 26, offset := 0, embedded := false, tag := "", pkgPath := "lanyard/tinfo", byteOffset := 0 }, { name := "at", type := 3, offset := 1, embedded := false, tag := "", pkgPath := "lanyard/tinfo", byteOffset := 24 }, { name := "wide", type := 4, offset := 2, embedded := false, tag := "", pkgPath := "lanyard/tinfo", byteOffset := 32 }]) ⟨(fun a w => by simp [fieldPlace, run_sizeOf' sz26]), (fun a w => by simp [fieldPlace, run_sizeOf' sz3]), (fun a w => by simp [fieldPlace, run_sizeOf' sz4]), trivial⟩, fun w => by simp [run_sizeOf' sz26, run_sizeOf' sz3, run_sizeOf' sz4]⟩⟩
theorem to75 : TIOk Tryz.prog TT 75 ti75 := ⟨ag75, sz75, ⟨(.map none), by kernel_rfl, by kernel_rfl, by kernel_rfl, by kernel_rfl, (fun _ => by kernel_rfl), (fun h => nomatch h)⟩, Tryz.underlying75⟩
theorem to77 : TIOk Tryz.prog TT 77 ti77 := ⟨ag77, sz77, ⟨(.agg #[.int .u8 0, .int .u8 0, .int .u8 0]), by kernel_rfl, by kernel_rfl, by kernel_rfl, by kernel_rfl, (fun h => nomatch h), (fun _ => by kernel_rfl)⟩, Tryz.underlying77⟩
theorem to85 : TIOk Tryz.prog TT 85 ti85 := ⟨ag85, sz85, ⟨(.slice none 0 0), by kernel_rfl, by kernel_rfl, by kernel_rfl, by kernel_rfl, (fun _ => by kernel_rfl), (fun h => nomatch h)⟩, ⟨Tryz.underlying85, elem_of (j0 := ti9) rfl ⟨by kernel_rfl, (.string ⟨#[]⟩), by kernel_rfl, by kernel_rfl⟩⟩⟩
theorem to90 : TIOk Tryz.prog TT 90 ti90 := ⟨ag90, sz90, ⟨(.agg #[.string ⟨#[]⟩, .int .i64 0, .int .i64 0]), by kernel_rfl, by kernel_rfl, by kernel_rfl, by kernel_rfl, (fun h => nomatch h), (fun _ => by kernel_rfl)⟩, ⟨[{ name := "name", type := 9, offset := 0, embedded := false, tag := "", pkgPath := "lanyard/tinfo", byteOffset := 0 }, { name := "kind", type := 3, offset := 1, embedded := false, tag := "", pkgPath := "lanyard/tinfo", byteOffset := 16 }, { name := "n", type := 3, offset := 2, embedded := false, tag := "", pkgPath := "lanyard/tinfo", byteOffset := 24 }].toArray, (un90.trans Tryz.underlying89), allF_at (P := Tryz.prog) (pl := [(0, 1), (1, 1), (2, 1)]) (fs := [{ name := "name", type := 9, offset := 0, embedded := false, tag := "", pkgPath := "lanyard/tinfo", byteOffset := 0 }, { name := "kind", type := 3, offset := 1, embedded := false, tag := "", pkgPath := "lanyard/tinfo", byteOffset := 16 }, { name := "n", type := 3, offset := 2, embedded := false, tag := "", pkgPath := "lanyard/tinfo", byteOffset := 24 }]) ⟨(fun a w => by simp [fieldPlace, run_sizeOf' sz9]), (fun a w => by simp [fieldPlace, run_sizeOf' sz3]), (fun a w => by simp [fieldPlace, run_sizeOf' sz3]), trivial⟩, fun w => by simp [run_sizeOf' sz3, run_sizeOf' sz9]⟩⟩
theorem to91 : TIOk Tryz.prog TT 91 ti91 := ⟨ag91, sz91, ⟨(.agg #[.string ⟨#[]⟩, .int .i64 0, .int .i64 0, .string ⟨#[]⟩, .int .i64 0, .int .i64 0, .string ⟨#[]⟩, .int .i64 0, .int .i64 0, .string ⟨#[]⟩, .int .i64 0, .int .i64 0, .string ⟨#[]⟩, .int .i64 0, .int .i64 0, .string ⟨#[]⟩, .int .i64 0, .int .i64 0, .string ⟨#[]⟩, .int .i64 0, .int .i64 0, .string ⟨#[]⟩, .int .i64 0, .int .i64 0, .string ⟨#[]⟩, .int .i64 0, .int .i64 0, .string ⟨#[]⟩, .int .i64 0, .int .i64 0, .string ⟨#[]⟩, .int .i64 0, .int .i64 0, .string ⟨#[]⟩, .int .i64 0, .int .i64 0, .string ⟨#[]⟩, .int .i64 0, .int .i64 0, .string ⟨#[]⟩, .int .i64 0, .int .i64 0, .string ⟨#[]⟩, .int .i64 0, .int .i64 0, .string ⟨#[]⟩, .int .i64 0, .int .i64 0, .string ⟨#[]⟩, .int .i64 0, .int .i64 0, .string ⟨#[]⟩, .int .i64 0, .int .i64 0, .string ⟨#[]⟩, .int .i64 0, .int .i64 0, .string ⟨#[]⟩, .int .i64 0, .int .i64 0, .string ⟨#[]⟩, .int .i64 0, .int .i64 0, .string ⟨#[]⟩, .int .i64 0, .int .i64 0, .string ⟨#[]⟩, .int .i64 0, .int .i64 0, .string ⟨#[]⟩, .int .i64 0, .int .i64 0, .string ⟨#[]⟩, .int .i64 0, .int .i64 0, .string ⟨#[]⟩, .int .i64 0, .int .i64 0, .string ⟨#[]⟩, .int .i64 0, .int .i64 0, .string ⟨#[]⟩, .int .i64 0, .int .i64 0, .string ⟨#[]⟩, .int .i64 0, .int .i64 0, .string ⟨#[]⟩, .int .i64 0, .int .i64 0, .string ⟨#[]⟩, .int .i64 0, .int .i64 0, .string ⟨#[]⟩, .int .i64 0, .int .i64 0, .string ⟨#[]⟩, .int .i64 0, .int .i64 0, .string ⟨#[]⟩, .int .i64 0, .int .i64 0, .string ⟨#[]⟩, .int .i64 0, .int .i64 0, .string ⟨#[]⟩, .int .i64 0, .int .i64 0, .string ⟨#[]⟩, .int .i64 0, .int .i64 0, .string ⟨#[]⟩, .int .i64 0, .int .i64 0, .string ⟨#[]⟩, .int .i64 0, .int .i64 0, .string ⟨#[]⟩, .int .i64 0, .int .i64 0, .string ⟨#[]⟩, .int .i64 0, .int .i64 0, .string ⟨#[]⟩, .int .i64 0, .int .i64 0, .string ⟨#[]⟩, .int .i64 0, .int .i64 0, .string ⟨#[]⟩, .int .i64 0, .int .i64 0, .string ⟨#[]⟩, .int .i64 0, .int .i64 0, .string ⟨#[]⟩, .int .i64 0, .int .i64 0, .string ⟨#[]⟩, .int .i64 0, .int .i64 0, .string ⟨#[]⟩, .int .i64 0, .int .i64 0, .string ⟨#[]⟩, .int .i64 0, .int .i64 0, .string ⟨#[]⟩, .int .i64 0, .int .i64 0, .string ⟨#[]⟩, .int .i64 0, .int .i64 0, .string ⟨#[]⟩, .int .i64 0, .int .i64 0, .string ⟨#[]⟩, .int .i64 0, .int .i64 0, .string ⟨#[]⟩, .int .i64 0, .int .i64 0, .string ⟨#[]⟩, .int .i64 0, .int .i64 0, .string ⟨#[]⟩, .int .i64 0, .int .i64 0, .string ⟨#[]⟩, .int .i64 0, .int .i64 0, .string ⟨#[]⟩, .int .i64 0, .int .i64 0, .string ⟨#[]⟩, .int .i64 0, .int .i64 0, .string ⟨#[]⟩, .int .i64 0, .int .i64 0, .string ⟨#[]⟩, .int .i64 0, .int .i64 0, .string ⟨#[]⟩, .int .i64 0, .int .i64 0, .string ⟨#[]⟩, .int .i64 0, .int .i64 0, .string ⟨#[]⟩, .int .i64 0, .int .i64 0, .string ⟨#[]⟩, .int .i64 0, .int .i64 0, .string ⟨#[]⟩, .int .i64 0, .int .i64 0, .string ⟨#[]⟩, .int .i64 0, .int .i64 0, .string ⟨#[]⟩, .int .i64 0, .int .i64 0, .string ⟨#[]⟩, .int .i64 0, .int .i64 0, .string ⟨#[]⟩, .int .i64 0, .int .i64 0, .string ⟨#[]⟩, .int .i64 0, .int .i64 0, .string ⟨#[]⟩, .int .i64 0, .int .i64 0, .string ⟨#[]⟩, .int .i64 0, .int .i64 0, .string ⟨#[]⟩, .int .i64 0, .int .i64 0, .string ⟨#[]⟩, .int .i64 0, .int .i64 0, .string ⟨#[]⟩, .int .i64 0, .int .i64 0, .string ⟨#[]⟩, .int .i64 0, .int .i64 0, .string ⟨#[]⟩, .int .i64 0, .int .i64 0, .string ⟨#[]⟩, .int .i64 0, .int .i64 0, .string ⟨#[]⟩, .int .i64 0, .int .i64 0, .string ⟨#[]⟩, .int .i64 0, .int .i64 0, .string ⟨#[]⟩, .int .i64 0, .int .i64 0, .string ⟨#[]⟩, .int .i64 0, .int .i64 0, .string ⟨#[]⟩, .int .i64 0, .int .i64 0, .string ⟨#[]⟩, .int .i64 0, .int .i64 0, .string ⟨#[]⟩, .int .i64 0, .int .i64 0, .string ⟨#[]⟩, .int .i64 0, .int .i64 0, .string ⟨#[]⟩, .int .i64 0, .int .i64 0, .string ⟨#[]⟩, .int .i64 0, .int .i64 0, .string ⟨#[]⟩, .int .i64 0, .int .i64 0, .string ⟨#[]⟩, .int .i64 0, .int .i64 0, .string ⟨#[]⟩, .int .i64 0, .int .i64 0, .string ⟨#[]⟩, .int .i64 0, .int .i64 0, .string ⟨#[]⟩, .int .i64 0, .int .i64 0, .string ⟨#[]⟩, .int .i64 0, .int .i64 0, .string ⟨#[]⟩, .int .i64 0, .int .i64 0, .string ⟨#[]⟩, .int .i64 0, .int .i64 0, .string ⟨#[]⟩, .int .i64 0, .int .i64 0, .string ⟨#[]⟩, .int .i64 0, .int .i64 0, .string ⟨#[]⟩, .int .i64 0, .int .i64 0, .string ⟨#[]⟩, .int .i64 0, .int .i64 0, .string ⟨#[]⟩, .int .i64 0, .int .i64 0, .string ⟨#[]⟩, .int .i64 0, .int .i64 0, .string ⟨#[]⟩, .int .i64 0, .int .i64 0, .string ⟨#[]⟩, .int .i64 0, .int .i64 0, .string ⟨#[]⟩, .int .i64 0, .int .i64 0, .string ⟨#[]⟩, .int .i64 0, .int .i64 0, .string ⟨#[]⟩, .int .i64 0, .int .i64 0, .string ⟨#[]⟩, .int .i64 0, .int .i64 0, .string ⟨#[]⟩, .int .i64 0, .int .i64 0, .string ⟨#[]⟩, .int .i64 0, .int .i64 0, .string ⟨#[]⟩, .int .i64 0, .int .i64 0]), by kernel_rfl, by kernel_rfl, by kernel_rfl, by kernel_rfl, (fun h => nomatch h), (fun _ => by kernel_rfl)⟩, Tryz.underlying91⟩
theorem to96 : TIOk Tryz.prog TT 96 ti96 := ⟨ag96, sz96, ⟨(.agg #[.int .i64 0, .int .i64 0, .int .i64 0, .int .i64 0, .int .i64 0]), by kernel_rfl, by kernel_rfl, by kernel_rfl, by kernel_rfl, (fun h => nomatch h), (fun _ => by kernel_rfl)⟩, Tryz.underlying96⟩
theorem to98 : TIOk Tryz.prog TT 98 ti98 := ⟨ag98, sz98, ⟨(.agg #[.int .i64 0, .int .i64 0, .int .i64 0, .int .i64 0, .int .i64 0, .int .i64 0, .int .i64 0, .int .i64 0, .int .i64 0, .int .i64 0, .int .i64 0, .int .i64 0]), by kernel_rfl, by kernel_rfl, by kernel_rfl, by kernel_rfl, (fun h => nomatch h), (fun _ => by kernel_rfl)⟩, ⟨[{ name := "names", type := 3, offset := 0, embedded := false, tag := "", pkgPath := "lanyard/tinfo", byteOffset := 0 }, { name := "flags", type := 3, offset := 1, embedded := false, tag := "", pkgPath := "lanyard/tinfo", byteOffset := 8 }, { name := "numbers", type := 3, offset := 2, embedded := false, tag := "", pkgPath := "lanyard/tinfo", byteOffset := 16 }, { name := "texts", type := 3, offset := 3, embedded := false, tag := "", pkgPath := "lanyard/tinfo", byteOffset := 24 }, { name := "exts", type := 3, offset := 4, embedded := false, tag := "", pkgPath := "lanyard/tinfo", byteOffset := 32 }, { name := "table", type := 3, offset := 5, embedded := false, tag := "", pkgPath := "lanyard/tinfo", byteOffset := 40 }, { name := "end", type := 3, offset := 6, embedded := false, tag := "", pkgPath := "lanyard/tinfo", byteOffset := 48 }, { name := "nf", type := 3, offset := 7, embedded := false, tag := "", pkgPath := "lanyard/tinfo", byteOffset := 56 }, { name := "nn", type := 3, offset := 8, embedded := false, tag := "", pkgPath := "lanyard/tinfo", byteOffset := 64 }, { name := "ns", type := 3, offset := 9, embedded := false, tag := "", pkgPath := "lanyard/tinfo", byteOffset := 72 }, { name := "ne", type := 3, offset := 10, embedded := false, tag := "", pkgPath := "lanyard/tinfo", byteOffset := 80 }, { name := "size", type := 3, offset := 11, embedded := false, tag := "", pkgPath := "lanyard/tinfo", byteOffset := 88 }].toArray, (un98.trans Tryz.underlying97), allF_at (P := Tryz.prog) (pl := [(0, 1), (1, 1), (2, 1), (3, 1), (4, 1), (5, 1), (6, 1), (7, 1), (8, 1), (9, 1), (10, 1), (11, 1)]) (fs := [{ name := "names", type := 3, offset := 0, embedded := false, tag := "", pkgPath := "lanyard/tinfo", byteOffset := 0 }, { name := "flags", type := 3, offset := 1, embedded := false, tag := "", pkgPath := "lanyard/tinfo", byteOffset := 8 }, { name := "numbers", type := 3, offset := 2, embedded := false, tag := "", pkgPath := "lanyard/tinfo", byteOffset := 16 }, { name := "texts", type := 3, offset := 3, embedded := false, tag := "", pkgPath := "lanyard/tinfo", byteOffset := 24 }, { name := "exts", type := 3, offset := 4, embedded := false, tag := "", pkgPath := "lanyard/tinfo", byteOffset := 32 }, { name := "table", type := 3, offset := 5, embedded := false, tag := "", pkgPath := "lanyard/tinfo", byteOffset := 40 }, { name := "end", type := 3, offset := 6, embedded := false, tag := "", pkgPath := "lanyard/tinfo", byteOffset := 48 }, { name := "nf", type := 3, offset := 7, embedded := false, tag := "", pkgPath := "lanyard/tinfo", byteOffset := 56 }, { name := "nn", type := 3, offset := 8, embedded := false, tag := "", pkgPath := "lanyard/tinfo", byteOffset := 64 }, { name := "ns", type := 3, offset := 9, embedded := false, tag := "", pkgPath := "lanyard/tinfo", byteOffset := 72 }, { name := "ne", type := 3, offset := 10, embedded := false, tag := "", pkgPath := "lanyard/tinfo", byteOffset := 80 }, { name := "size", type := 3, offset := 11, embedded := false, tag := "", pkgPath := "lanyard/tinfo", byteOffset := 88 }]) ⟨(fun a w => by simp [fieldPlace, run_sizeOf' sz3]), (fun a w => by simp [fieldPlace, run_sizeOf' sz3]), (fun a w => by simp [fieldPlace, run_sizeOf' sz3]), (fun a w => by simp [fieldPlace, run_sizeOf' sz3]), (fun a w => by simp [fieldPlace, run_sizeOf' sz3]), (fun a w => by simp [fieldPlace, run_sizeOf' sz3]), (fun a w => by simp [fieldPlace, run_sizeOf' sz3]), (fun a w => by simp [fieldPlace, run_sizeOf' sz3]), (fun a w => by simp [fieldPlace, run_sizeOf' sz3]), (fun a w => by simp [fieldPlace, run_sizeOf' sz3]), (fun a w => by simp [fieldPlace, run_sizeOf' sz3]), (fun a w => by simp [fieldPlace, run_sizeOf' sz3]), trivial⟩, fun w => by simp [run_sizeOf' sz3]⟩⟩
theorem to104 : TIOk Tryz.prog TT 104 ti104 := ⟨ag104, sz104, ⟨(.nilFunc), by kernel_rfl, by kernel_rfl, by kernel_rfl, by kernel_rfl, (fun _ => by kernel_rfl), (fun h => nomatch h)⟩, ⟨_, _, _, Tryz.underlying104⟩⟩
theorem to111 : TIOk Tryz.prog TT 111 ti111 := ⟨ag111, sz111, ⟨(.agg #[.string ⟨#[]⟩, .string ⟨#[]⟩, .string ⟨#[]⟩, .string ⟨#[]⟩, .string ⟨#[]⟩]), by kernel_rfl, by kernel_rfl, by kernel_rfl, by kernel_rfl, (fun h => nomatch h), (fun _ => by kernel_rfl)⟩, Tryz.underlying111⟩
theorem to115 : TIOk Tryz.prog TT 115 ti115 := ⟨ag115, sz115, ⟨(.int .i16 0), by kernel_rfl, by kernel_rfl, by kernel_rfl, by kernel_rfl, (fun _ => by kernel_rfl), (fun h => nomatch h)⟩, Tryz.underlying115⟩
theorem to116 : TIOk Tryz.prog TT 116 ti116 := ⟨ag116, sz116, ⟨(.int .u16 0), by kernel_rfl, by kernel_rfl, by kernel_rfl, by kernel_rfl, (fun _ => by kernel_rfl), (fun h => nomatch h)⟩, Tryz.underlying116⟩
theorem to125 : TIOk Tryz.prog TT 125 ti125 := ⟨ag125, sz125, ⟨(.pointer none), by kernel_rfl, by kernel_rfl, by kernel_rfl, by kernel_rfl, (fun _ => by kernel_rfl), (fun h => nomatch h)⟩, ⟨_, Tryz.underlying125⟩⟩
theorem to129 : TIOk Tryz.prog TT 129 ti129 := ⟨ag129, sz129, ⟨(.int .u32 0), by kernel_rfl, by kernel_rfl, by kernel_rfl, by kernel_rfl, (fun _ => by kernel_rfl), (fun h => nomatch h)⟩, Tryz.underlying129⟩
theorem to136 : TIOk Tryz.prog TT 136 ti136 := ⟨ag136, sz136, ⟨(.agg #[.pointer none, .pointer none, .pointer none]), by kernel_rfl, by kernel_rfl, by kernel_rfl, by kernel_rfl, (fun h => nomatch h), (fun _ => by kernel_rfl)⟩, Tryz.underlying136⟩
theorem tt_ok : TabOk Tryz.prog TT := tabOk_of ⟨to3, to4, to5, to9, to20, to21, to22, to23, to25, to26, to27, to36, to38, to40, to45, to48, to63, to67, to75, to77, to85, to90, to91, to96, to98, to104, to111, to115, to116, to125, to129, to136, trivial⟩ ⟨(fun h => nomatch h), (fun h => nomatch h), (fun h => nomatch h), (fun h => nomatch h), (fun h => nomatch h), (fun h => nomatch h), (fun h => nomatch h), (fun h => nomatch h), (fun h => nomatch h), (fun h => nomatch h), (fun h => nomatch h), (fun h => nomatch h), (fun _ => ⟨by kernel_rfl, eqo38⟩), (fun _ => ⟨by kernel_rfl, eqo40⟩), (fun h => nomatch h), (fun h => nomatch h), (fun h => nomatch h), (fun h => nomatch h), (fun h => nomatch h), (fun h => nomatch h), (fun h => nomatch h), (fun h => nomatch h), (fun h => nomatch h), (fun h => nomatch h), (fun h => nomatch h), (fun h => nomatch h), (fun h => nomatch h), (fun h => nomatch h), (fun h => nomatch h), (fun h => nomatch h), (fun h => nomatch h), (fun h => nomatch h), trivial⟩
theorem mixed : Tryz.prog.follows .mixedOrders = true := by kernel_rfl
theorem en10 : enterable Tryz.prog 10 = true := by kernel_rfl
theorem en11 : enterable Tryz.prog 11 = true := by kernel_rfl
theorem en12 : enterable Tryz.prog 12 = true := by kernel_rfl
theorem en13 : enterable Tryz.prog 13 = true := by kernel_rfl
theorem en14 : enterable Tryz.prog 14 = true := by kernel_rfl
theorem en15 : enterable Tryz.prog 15 = true := by kernel_rfl
theorem en16 : enterable Tryz.prog 16 = true := by kernel_rfl
theorem en17 : enterable Tryz.prog 17 = true := by kernel_rfl
theorem en18 : enterable Tryz.prog 18 = true := by kernel_rfl
theorem en19 : enterable Tryz.prog 19 = true := by kernel_rfl
theorem en20 : enterable Tryz.prog 20 = true := by kernel_rfl
theorem en21 : enterable Tryz.prog 21 = true := by kernel_rfl
theorem en22 : enterable Tryz.prog 22 = true := by kernel_rfl
theorem en23 : enterable Tryz.prog 23 = true := by kernel_rfl
theorem en24 : enterable Tryz.prog 24 = true := by kernel_rfl
theorem en25 : enterable Tryz.prog 25 = true := by kernel_rfl
theorem en26 : enterable Tryz.prog 26 = true := by kernel_rfl
theorem en27 : enterable Tryz.prog 27 = true := by kernel_rfl
theorem en28 : enterable Tryz.prog 28 = true := by kernel_rfl
theorem en29 : enterable Tryz.prog 29 = true := by kernel_rfl
theorem en3 : enterable Tryz.prog 3 = true := by kernel_rfl
theorem en31 : enterable Tryz.prog 31 = true := by kernel_rfl
theorem en32 : enterable Tryz.prog 32 = true := by kernel_rfl
theorem en33 : enterable Tryz.prog 33 = true := by kernel_rfl
theorem en35 : enterable Tryz.prog 35 = true := by kernel_rfl
theorem en36 : enterable Tryz.prog 36 = true := by kernel_rfl
theorem en37 : enterable Tryz.prog 37 = true := by kernel_rfl
theorem en38 : enterable Tryz.prog 38 = true := by kernel_rfl
theorem en39 : enterable Tryz.prog 39 = true := by kernel_rfl
theorem en4 : enterable Tryz.prog 4 = true := by kernel_rfl
theorem en40 : enterable Tryz.prog 40 = true := by kernel_rfl
theorem en41 : enterable Tryz.prog 41 = true := by kernel_rfl
theorem en42 : enterable Tryz.prog 42 = true := by kernel_rfl
theorem en43 : enterable Tryz.prog 43 = true := by kernel_rfl
theorem en44 : enterable Tryz.prog 44 = true := by kernel_rfl
theorem en45 : enterable Tryz.prog 45 = true := by kernel_rfl
theorem en46 : enterable Tryz.prog 46 = true := by kernel_rfl
theorem en47 : enterable Tryz.prog 47 = true := by kernel_rfl
theorem en48 : enterable Tryz.prog 48 = true := by kernel_rfl
theorem en49 : enterable Tryz.prog 49 = true := by kernel_rfl
theorem en5 : enterable Tryz.prog 5 = true := by kernel_rfl
theorem en50 : enterable Tryz.prog 50 = true := by kernel_rfl
theorem en51 : enterable Tryz.prog 51 = true := by kernel_rfl
theorem en52 : enterable Tryz.prog 52 = true := by kernel_rfl
theorem en53 : enterable Tryz.prog 53 = true := by kernel_rfl
theorem en54 : enterable Tryz.prog 54 = true := by kernel_rfl
theorem en55 : enterable Tryz.prog 55 = true := by kernel_rfl
theorem en58 : enterable Tryz.prog 58 = true := by kernel_rfl
theorem en59 : enterable Tryz.prog 59 = true := by kernel_rfl
theorem en6 : enterable Tryz.prog 6 = true := by kernel_rfl
theorem en61 : enterable Tryz.prog 61 = true := by kernel_rfl
theorem en62 : enterable Tryz.prog 62 = true := by kernel_rfl
theorem en63 : enterable Tryz.prog 63 = true := by kernel_rfl
theorem en64 : enterable Tryz.prog 64 = true := by kernel_rfl
theorem en65 : enterable Tryz.prog 65 = true := by kernel_rfl
theorem en66 : enterable Tryz.prog 66 = true := by kernel_rfl
theorem en67 : enterable Tryz.prog 67 = true := by kernel_rfl
theorem en7 : enterable Tryz.prog 7 = true := by kernel_rfl
theorem en72 : enterable Tryz.prog 72 = true := by kernel_rfl
theorem en73 : enterable Tryz.prog 73 = true := by kernel_rfl
theorem en8 : enterable Tryz.prog 8 = true := by kernel_rfl
theorem en83 : enterable Tryz.prog 83 = true := by kernel_rfl
theorem en84 : enterable Tryz.prog 84 = true := by kernel_rfl
theorem en9 : enterable Tryz.prog 9 = true := by kernel_rfl
end Go.Proofs.YtfghjkgpbncagaaGreatDoor
set_option linter.unusedVariables false
namespace Go.Proofs.YtfghjkgpbncagaaGreatDoor
open Go.RowKit Go.Av Go.Proofs
theorem bytes_len (s : List UInt8) : (⟨s.toArray⟩ : ByteArray).size = s.length := by simp [ByteArray.size]
theorem args1 {C : Cfg} {a : AV} {vs : List Value} (h : Reps C [a] vs) : ∃ v, vs = [v] ∧ Rep C a v := by
  obtain ⟨v, us, rfl, h1, h2⟩ := h.head
  exact ⟨v, by rw [h2.none], h1⟩
theorem args2 {C : Cfg} {a b : AV} {vs : List Value} (h : Reps C [a, b] vs) : ∃ v u, vs = [v, u] ∧ Rep C a v ∧ Rep C b u := by
  obtain ⟨v, us, rfl, h1, h2⟩ := h.head
  obtain ⟨u, rfl, h3⟩ := args1 h2
  exact ⟨v, u, rfl, h1, h3⟩
theorem lib_contains (s sub : List UInt8) (hs : s.length < 4294967281) : APure Tryz.prog 30 [.str s, .str sub] fun o => o = .ret (.bool (Lib.contains s sub)) := by
  refine pure_same fun F C w vs hT hF hv => ?_
  obtain ⟨v, u, rfl, h1, h2⟩ := args2 hv
  rw [h1.str_inv, h2.str_inv]
  obtain ⟨⟨m, t, hm⟩, _⟩ := hT
  have hc : w.cell? ⟨0, 0, none⟩ = some (.int .i64 m) := by simp [World.cell?, hF _ _ hm]
  refine (Tryz.strings_Contains ⟨s.toArray⟩ ⟨sub.toArray⟩ m w (by rw [bytes_len]; exact hs) hc).mono ?_
  rintro e w' ⟨rfl, rfl⟩
  exact ⟨rfl, _, rfl, .ret _ _ (.bool _)⟩
theorem lib_indexByte (s : List UInt8) (c : Int) : APure Tryz.prog 34 [.str s, .int .u8 c] fun o => o = .ret (.int .i64 (Lib.indexByte s (UInt8.ofNat c.toNat))) := by
  refine pure_same fun F C w vs hT hF hv => ?_
  obtain ⟨v, u, rfl, h1, h2⟩ := args2 hv
  rw [h1.str_inv, h2.int_inv]
  refine (Tryz.strings_IndexByte ⟨s.toArray⟩ c w).mono ?_
  rintro e w' ⟨rfl, rfl⟩
  exact ⟨rfl, _, rfl, .ret _ _ (.int _ _)⟩
theorem lib_split (s sep : List UInt8) (hs : s.length < 4294967281) (h1 : 1 ≤ sep.length) : APure Tryz.prog 60 [.str s, .str sep] fun o => o = .ret (.sl none 1 (((Lib.splitB ⟨sep.toArray⟩ 0 (Lib.countB ⟨s.toArray⟩ ⟨sep.toArray⟩) ⟨s.toArray⟩).map fun b => b.data.toList).map fun l => [.str l])) := by
  have hlen : (Lib.splitB ⟨sep.toArray⟩ 0 (Lib.countB ⟨s.toArray⟩ ⟨sep.toArray⟩) ⟨s.toArray⟩).length = Lib.countB ⟨s.toArray⟩ ⟨sep.toArray⟩ + 1 := Lib.splitB_all _ (by rw [bytes_len]; exact h1) 0 _ _ rfl
  refine pure_strs (ty := 9) ?_ fun F C w vs hT hF hv => ?_
  · have := Lib.countB_le ⟨sep.toArray⟩ (by rw [bytes_len]; exact h1) _ ⟨s.toArray⟩ (Nat.le_refl _)
    rw [bytes_len] at this
    rw [List.length_map, hlen]; omega
  obtain ⟨v, u, rfl, q1, q2⟩ := args2 hv
  rw [q1.str_inv, q2.str_inv]
  obtain ⟨⟨m, t, hm⟩, _⟩ := hT
  have hc : w.cell? ⟨0, 0, none⟩ = some (.int .i64 m) := by simp [World.cell?, hF _ _ hm]
  refine (Tryz.strings_Split ⟨s.toArray⟩ ⟨sep.toArray⟩ m w (by rw [bytes_len]; exact hs) hc (by rw [bytes_len]; exact h1)).mono ?_
  rintro e w' ⟨rfl, rfl⟩
  refine ⟨by rw [List.length_map, hlen], ?_⟩
  simp only [List.map_map]
  rfl
theorem cnt_le : ∀ (l : List UInt8) (ws : Bool), Lib.cntF ws l ≤ l.length
  | [], _ => Nat.le_refl _
  | b :: l, ws => by
    have := cnt_le l (Lib.isSp b)
    simp only [Lib.cntF, List.length_cons]
    split <;> omega
theorem lib_fields (s : List UInt8) (hs : s.length < 4294967281) (ha : (s.all fun b => b.toNat < 128) = true) : APure Tryz.prog 70 [.str s] fun o => o = .ret (.sl none 1 ((Lib.fields s).map fun l => [.str l])) := by
  refine pure_strs (ty := 9) ?_ fun F C w vs hT hF hv => ?_
  · rw [Lib.fields_length]
    have := cnt_le s true
    omega
  obtain ⟨v, rfl, q1⟩ := args1 hv
  rw [q1.str_inv]
  obtain ⟨_, t, fr, hm⟩ := hT
  have htab : Lib.TabIs Tryz.prog w "strings.asciiSpace" .u8 Lib.asciiSpaceTab := by
    have hg : Tryz.prog.globalNamed "strings.asciiSpace" = some 1 := by kernel_rfl
    simp [Lib.TabIs, World.var?, hg, hF _ _ hm]
  exact (Tryz.strings_Fields ⟨s.toArray⟩ w (by rw [bytes_len]; exact hs) (fun j b hb => by
    have := List.all_eq_true.1 ha b (List.mem_of_getElem? hb)
    simpa using this) htab)
theorem lib_atoi (s : List UInt8) (n : Int) (hs : s.length ≤ 18) (h : Lib.atoi s = some n) : APure Tryz.prog 71 [.str s] fun o => o = .ret (.tup [.int .i64 n, .nili]) := by
  refine pure_grow fun F C w vs hT hF hv => ?_
  obtain ⟨v, rfl, q1⟩ := args1 hv
  rw [q1.str_inv]
  refine (Tryz.strconv_Atoi ⟨s.toArray⟩ n (by rw [bytes_len]; exact hs) h w).mono ?_
  rintro e w' ⟨rfl, t, rfl⟩
  refine ⟨⟨?_, ?_, ?_, ?_, fun b hb => Lib.bytesWorld_at_old w _ t b hb⟩, _, rfl, .ret _ _ ?_⟩
  · simp [Lib.bytesWorld, World.freeze]; rfl
  · simp [Lib.bytesWorld, World.freeze]
  · simp [Lib.bytesWorld, World.freeze]; rfl
  · simp [Lib.bytesWorld, World.freeze]
  · have := Reps.cons (Rep.int (C := C) .i64 n) (Reps.cons (Rep.nili (C := C)) (Reps.nil C))
    exact .tup _ _ this.1 this.2
theorem bif_some {α : Type} {b : Bool} {x : α} {o : Option α} (h : (bif b then o else none) = some x) : b = true ∧ o = some x := by
  cases b with
  | true => exact ⟨rfl, h⟩
  | false => cases h
theorem ok_strings_Contains (k : Nat) : ConOk Tryz.prog (C_strings_Contains k) := by
  refine ⟨by kernel_rfl, fun z o ho => ?_⟩
  obtain ⟨h1, h2⟩ := bif_some (show F_strings_Contains k z.1 z.2 = some o from ho)
  injection h2 with h2
  subst h2
  exact (lib_contains _ _ (of_decide_eq_true h1) _).mono fun out m' ⟨h1, h2⟩ => ⟨.ret, _, ⟨rfl, rfl⟩, h2, .inl ⟨rfl, h1⟩⟩
theorem ok_strings_IndexByte (k : Nat) : ConOk Tryz.prog (C_strings_IndexByte k) := by
  refine ⟨by kernel_rfl, fun z o ho => ?_⟩
  have h2 : F_strings_IndexByte k z.1 z.2 = some o := ho
  injection h2 with h2
  subst h2
  exact (lib_indexByte _ _ _).mono fun out m' ⟨h1, h2⟩ => ⟨.ret, _, ⟨rfl, rfl⟩, h2, .inl ⟨rfl, h1⟩⟩
theorem ok_strings_Split (k : Nat) : ConOk Tryz.prog (C_strings_Split k) := by
  refine ⟨by kernel_rfl, fun z o ho => ?_⟩
  obtain ⟨h1, h2⟩ := bif_some (show F_strings_Split k z.1 z.2 = some o from ho)
  injection h2 with h2
  subst h2
  rw [Bool.and_eq_true] at h1
  exact (lib_split _ _ (of_decide_eq_true h1.1) (of_decide_eq_true h1.2) _).mono fun out m' ⟨h1, h2⟩ => ⟨.ret, _, ⟨rfl, rfl⟩, h2, .inl ⟨rfl, h1⟩⟩
theorem ok_strings_Fields (k : Nat) : ConOk Tryz.prog (C_strings_Fields k) := by
  refine ⟨by kernel_rfl, fun z o ho => ?_⟩
  obtain ⟨h1, h2⟩ := bif_some (show F_strings_Fields k z = some o from ho)
  injection h2 with h2
  subst h2
  rw [Bool.and_eq_true] at h1
  exact (lib_fields _ (of_decide_eq_true h1.1) h1.2 _).mono fun out m' ⟨h1, h2⟩ => ⟨.ret, _, ⟨rfl, rfl⟩, h2, .inl ⟨rfl, h1⟩⟩
theorem ok_strconv_Atoi (k : Nat) : ConOk Tryz.prog (C_strconv_Atoi k) := by
  refine ⟨by kernel_rfl, fun z o ho => ?_⟩
  obtain ⟨h1, h2⟩ := bif_some (show F_strconv_Atoi k z = some o from ho)
  exact (lib_atoi _ _ (of_decide_eq_true h1) h2 _).mono fun out m' ⟨h1, h2⟩ => ⟨.ret, _, ⟨rfl, rfl⟩, h2, .inl ⟨rfl, h1⟩⟩
theorem ok_bytes_IndexByte (k : Nat) : ConOk Tryz.prog (C_bytes_IndexByte k) := by
  refine ⟨by kernel_rfl, fun z o ho => ?_⟩
  have h2 : F_bytes_IndexByte k z.1 z.2 = some o := ho
  injection h2 with h2
  subst h2
  exact (bytesIndex_pure Tryz.lays187 none z.1 z.2 _).mono fun out m' ⟨h1, h2⟩ => ⟨.ret, _, ⟨rfl, rfl⟩, h2, .inl ⟨rfl, h1⟩⟩
end Go.Proofs.YtfghjkgpbncagaaGreatDoor
