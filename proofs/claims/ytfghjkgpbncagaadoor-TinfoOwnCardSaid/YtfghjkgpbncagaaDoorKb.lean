/- Joined texts: Kb. -/
import Derived.Test.YtfghjkgpbncagaaDoorGf
import Derived.Lib.Split
import Derived.Lib.Fields
import Derived.Lib.Atoi
import Derived.Lib.IndexMore
import Derived.Test.YtfghjkgpbncagaaDoorProg
import Derived.Test.YtfghjkgpbncagaaDoorKa
import Derived.Lib.SplitLaws
set_option linter.unusedVariables false
namespace Go.Proofs.YtfghjkgpbncagaaDoor
open Go.RowKit Go.Av Go.Proofs
def F_strings_Contains (k : Nat) (s sub : List UInt8) : Option Bool := bif decide (s.length < 4294967281) then some (Lib.contains s sub) else none
def F_strings_IndexByte (k : Nat) (s : List UInt8) (c : Int) : Option Int := some (Lib.indexByte s (UInt8.ofNat c.toNat))
def splitL (s sep : List UInt8) : List (List UInt8) := (Lib.splitB ⟨sep.toArray⟩ 0 (Lib.countB ⟨s.toArray⟩ ⟨sep.toArray⟩) ⟨s.toArray⟩).map fun b => b.data.toList
def F_strings_Split (k : Nat) (s sep : List UInt8) : Option (List (List UInt8)) := bif decide (s.length < 4294967281) && decide (1 ≤ sep.length) then some (splitL s sep) else none
def F_strings_Fields (k : Nat) (s : List UInt8) : Option (List (List UInt8)) := bif decide (s.length < 4294967281) && s.all (fun b => decide (b.toNat < 128)) then some (Lib.fields s) else none
def F_strconv_Atoi (k : Nat) (s : List UInt8) : Option Int := bif decide (s.length ≤ 18) then Lib.atoi s else none
def C_strings_Contains (k : Nat) : Con := ⟨28, ⟨[0, 1], 0, 0, 0, .cons (.cell .str) (.cons (.cell .str) (.cons .any .nil))⟩, [(.ret, ⟨[], 0, 0, 0, .cons (.cell .bool) .nil⟩)], fun z => (fun (z : List UInt8 × List UInt8) => F_strings_Contains k z.1 z.2) z⟩
def C_strings_IndexByte (k : Nat) : Con := ⟨31, ⟨[0, 1], 0, 0, 0, .cons (.cell .str) (.cons (.cell (.int .u8)) (.cons .any .nil))⟩, [(.ret, ⟨[], 0, 0, 0, .cons (.cell (.int .i64)) .nil⟩)], fun z => (fun (z : List UInt8 × Int) => F_strings_IndexByte k z.1 z.2) z⟩
def C_strings_Split (k : Nat) : Con := ⟨30, ⟨[0, 1], 0, 0, 0, .cons (.cell .str) (.cons (.cell .str) (.cons .any .nil))⟩, [(.ret, ⟨[], 0, 0, 0, .cons (.cell (.sl .str)) .nil⟩)], fun z => (fun (z : List UInt8 × List UInt8) => F_strings_Split k z.1 z.2) z⟩
def C_strings_Fields (k : Nat) : Con := ⟨34, ⟨[0], 0, 0, 0, .cons (.cell .str) (.cons .any .nil)⟩, [(.ret, ⟨[], 0, 0, 0, .cons (.cell (.sl .str)) .nil⟩)], fun z => (fun (z : List UInt8) => F_strings_Fields k z) z⟩
def C_strconv_Atoi (k : Nat) : Con := ⟨45, ⟨[0], 0, 0, 0, .cons (.cell .str) (.cons .any .nil)⟩, [(.ret, ⟨[], 0, 0, 0, .cons (.tupL (.cons (.cell (.int .i64)) (.cons .nili .nil))) .nil⟩)], fun z => (fun (z : List UInt8) => F_strconv_Atoi k z) z⟩
end Go.Proofs.YtfghjkgpbncagaaDoor
set_option linter.unusedVariables false
set_option maxRecDepth 100000
set_option maxHeartbeats 1000000
namespace Go.Proofs.YtfghjkgpbncagaaDoor
open Go.RowKit Go.Av Go.Proofs
/-- What the tables show: internal/bytealg.MaxLen is a number, strings.asciiSpace is as it is laid. -/
instance tab : Tab where
  ok _ := True
  mono _ _ _ _ := trivial
  okF F := (∃ m t, F 2 = some (.cells #[.int .i64 m] t (0, 0))) ∧ ∃ t fr, F 0 = some (.cells ((Lib.asciiSpaceTab.map fun z => Value.int .u8 z).toArray) t fr)
def ti3 : TI := ⟨false, 1, [.int .i64 0], (.int .i64), false, .int .i64⟩
def ti4 : TI := ⟨false, 1, [.bool false], .bool, false, .bool⟩
def ti9 : TI := ⟨false, 1, [.str []], .str, false, .str⟩
def ti22 : TI := ⟨false, 1, [.zs true], (.sl (.pair (.int .i64) (.pair (.int .i64) .str))), false, .slice 27 32⟩
def ti23 : TI := ⟨false, 1, [.zs true], (.sl (.pair (.int .i64) (.pair .str (.pair (.int .i64) (.pair (.int .i64) .str))))), false, .slice 31 56⟩
def ti25 : TI := ⟨true, 6, [.str [], .bool false, .zs true, .zs true, .zs true, .zs true], (.pair .str (.pair .bool (.pair (.sl (.pair (.int .i64) (.pair (.int .i64) .str))) (.pair (.sl (.pair (.int .i64) (.pair (.int .i64) .str))) (.pair (.sl (.pair (.int .i64) (.pair (.int .i64) .str))) (.sl (.pair (.int .i64) (.pair .str (.pair (.int .i64) (.pair (.int .i64) .str)))))))))), false, .struct [(0, 1), (1, 1), (2, 1), (3, 1), (4, 1), (5, 1)]⟩
def ti27 : TI := ⟨true, 3, [.int .i64 0, .int .i64 0, .str []], (.pair (.int .i64) (.pair (.int .i64) .str)), true, .struct [(0, 1), (1, 1), (2, 1)]⟩
def ti31 : TI := ⟨true, 5, [.int .i64 0, .str [], .int .i64 0, .int .i64 0, .str []], (.pair (.int .i64) (.pair .str (.pair (.int .i64) (.pair (.int .i64) .str)))), true, .struct [(0, 1), (1, 1), (2, 3)]⟩
def ti32 : TI := ⟨false, 1, [.int .i64 0], (.int .i64), false, .int .i64⟩
def ti35 : TI := ⟨false, 1, [.zs true], (.sl (.sl (.pair (.int .i64) (.pair (.int .i64) .str)))), false, .slice 22 24⟩
def ti48 : TI := ⟨false, 1, [.nilp], .unit, false, .ptr⟩
def ti52 : TI := ⟨false, 1, [.zs true], (.sl .str), false, .slice 9 16⟩
def ti60 : TI := ⟨true, 3, [.str [], .int .i64 0, .int .i64 0], (.pair .str (.pair (.int .i64) (.int .i64))), false, .struct [(0, 1), (1, 1), (2, 1)]⟩
def ti61 : TI := ⟨true, 336, [.str [], .int .i64 0, .int .i64 0, .str [], .int .i64 0, .int .i64 0, .str [], .int .i64 0, .int .i64 0, .str [], .int .i64 0, .int .i64 0, .str [], .int .i64 0, .int .i64 0, .str [], .int .i64 0, .int .i64 0, .str [], .int .i64 0, .int .i64 0, .str [], .int .i64 0, .int .i64 0, .str [], .int .i64 0, .int .i64 0, .str [], .int .i64 0, .int .i64 0, .str [], .int .i64 0, .int .i64 0, .str [], .int .i64 0, .int .i64 0, .str [], .int .i64 0, .int .i64 0, .str [], .int .i64 0, .int .i64 0, .str [], .int .i64 0, .int .i64 0, .str [], .int .i64 0, .int .i64 0, .str [], .int .i64 0, .int .i64 0, .str [], .int .i64 0, .int .i64 0, .str [], .int .i64 0, .int .i64 0, .str [], .int .i64 0, .int .i64 0, .str [], .int .i64 0, .int .i64 0, .str [], .int .i64 0, .int .i64 0, .str [], .int .i64 0, .int .i64 0, .str [], .int .i64 0, .int .i64 0, .str [], .int .i64 0, .int .i64 0, .str [], .int .i64 0, .int .i64 0, .str [], .int .i64 0, .int .i64 0, .str [], .int .i64 0, .int .i64 0, .str [], .int .i64 0, .int .i64 0, .str [], .int .i64 0, .int .i64 0, .str [], .int .i64 0, .int .i64 0, .str [], .int .i64 0, .int .i64 0, .str [], .int .i64 0, .int .i64 0, .str [], .int .i64 0, .int .i64 0, .str [], .int .i64 0, .int .i64 0, .str [], .int .i64 0, .int .i64 0, .str [], .int .i64 0, .int .i64 0, .str [], .int .i64 0, .int .i64 0, .str [], .int .i64 0, .int .i64 0, .str [], .int .i64 0, .int .i64 0, .str [], .int .i64 0, .int .i64 0, .str [], .int .i64 0, .int .i64 0, .str [], .int .i64 0, .int .i64 0, .str [], .int .i64 0, .int .i64 0, .str [], .int .i64 0, .int .i64 0, .str [], .int .i64 0, .int .i64 0, .str [], .int .i64 0, .int .i64 0, .str [], .int .i64 0, .int .i64 0, .str [], .int .i64 0, .int .i64 0, .str [], .int .i64 0, .int .i64 0, .str [], .int .i64 0, .int .i64 0, .str [], .int .i64 0, .int .i64 0, .str [], .int .i64 0, .int .i64 0, .str [], .int .i64 0, .int .i64 0, .str [], .int .i64 0, .int .i64 0, .str [], .int .i64 0, .int .i64 0, .str [], .int .i64 0, .int .i64 0, .str [], .int .i64 0, .int .i64 0, .str [], .int .i64 0, .int .i64 0, .str [], .int .i64 0, .int .i64 0, .str [], .int .i64 0, .int .i64 0, .str [], .int .i64 0, .int .i64 0, .str [], .int .i64 0, .int .i64 0, .str [], .int .i64 0, .int .i64 0, .str [], .int .i64 0, .int .i64 0, .str [], .int .i64 0, .int .i64 0, .str [], .int .i64 0, .int .i64 0, .str [], .int .i64 0, .int .i64 0, .str [], .int .i64 0, .int .i64 0, .str [], .int .i64 0, .int .i64 0, .str [], .int .i64 0, .int .i64 0, .str [], .int .i64 0, .int .i64 0, .str [], .int .i64 0, .int .i64 0, .str [], .int .i64 0, .int .i64 0, .str [], .int .i64 0, .int .i64 0, .str [], .int .i64 0, .int .i64 0, .str [], .int .i64 0, .int .i64 0, .str [], .int .i64 0, .int .i64 0, .str [], .int .i64 0, .int .i64 0, .str [], .int .i64 0, .int .i64 0, .str [], .int .i64 0, .int .i64 0, .str [], .int .i64 0, .int .i64 0, .str [], .int .i64 0, .int .i64 0, .str [], .int .i64 0, .int .i64 0, .str [], .int .i64 0, .int .i64 0, .str [], .int .i64 0, .int .i64 0, .str [], .int .i64 0, .int .i64 0, .str [], .int .i64 0, .int .i64 0, .str [], .int .i64 0, .int .i64 0, .str [], .int .i64 0, .int .i64 0, .str [], .int .i64 0, .int .i64 0, .str [], .int .i64 0, .int .i64 0, .str [], .int .i64 0, .int .i64 0, .str [], .int .i64 0, .int .i64 0, .str [], .int .i64 0, .int .i64 0, .str [], .int .i64 0, .int .i64 0, .str [], .int .i64 0, .int .i64 0, .str [], .int .i64 0, .int .i64 0, .str [], .int .i64 0, .int .i64 0, .str [], .int .i64 0, .int .i64 0, .str [], .int .i64 0, .int .i64 0, .str [], .int .i64 0, .int .i64 0, .str [], .int .i64 0, .int .i64 0, .str [], .int .i64 0, .int .i64 0, .str [], .int .i64 0, .int .i64 0, .str [], .int .i64 0, .int .i64 0, .str [], .int .i64 0, .int .i64 0, .str [], .int .i64 0, .int .i64 0, .str [], .int .i64 0, .int .i64 0, .str [], .int .i64 0, .int .i64 0, .str [], .int .i64 0, .int .i64 0, .str [], .int .i64 0, .int .i64 0], .unit, false, .array 112 60⟩
def ti63 : TI := ⟨true, 3, [.nilp, .nilp, .nilp], .unit, false, .array 3 48⟩
def ti66 : TI := ⟨true, 3, [.zs true, .zs true, .zs true], (.pair (.sl (.pair (.int .i64) (.pair (.int .i64) .str))) (.pair (.sl (.pair (.int .i64) (.pair (.int .i64) .str))) (.sl (.pair (.int .i64) (.pair (.int .i64) .str))))), false, .array 3 22⟩
def ti68 : TI := ⟨false, 1, [.nilm], .unit, false, .map 9 3⟩
def ti69 : TI := ⟨false, 1, [.zs true], (.sl (.int .i64)), false, .slice 3 8⟩
def ti70 : TI := ⟨true, 5, [.str [], .str [], .str [], .str [], .str []], (.pair .str (.pair .str (.pair .str (.pair .str .str)))), false, .array 5 9⟩
def ti76 : TI := ⟨false, 1, [.nilf], .unit, false, .fn⟩
def TT : List (Nat × TI) := [(3, ti3), (4, ti4), (9, ti9), (22, ti22), (23, ti23), (25, ti25), (27, ti27), (31, ti31), (32, ti32), (35, ti35), (48, ti48), (52, ti52), (60, ti60), (61, ti61), (63, ti63), (66, ti66), (68, ti68), (69, ti69), (70, ti70), (76, ti76)]
theorem ag3 : (Tryd.prog.underlying 3).map aggD = some false := by kernel_rfl
theorem sz3 : (Tryd.prog.info? 3).map (·.size) = some 1 := by kernel_rfl
theorem ag4 : (Tryd.prog.underlying 4).map aggD = some false := by kernel_rfl
theorem sz4 : (Tryd.prog.info? 4).map (·.size) = some 1 := by kernel_rfl
theorem ag9 : (Tryd.prog.underlying 9).map aggD = some false := by kernel_rfl
theorem sz9 : (Tryd.prog.info? 9).map (·.size) = some 1 := by kernel_rfl
theorem ag22 : (Tryd.prog.underlying 22).map aggD = some false := by kernel_rfl
theorem sz22 : (Tryd.prog.info? 22).map (·.size) = some 1 := by kernel_rfl
theorem ag23 : (Tryd.prog.underlying 23).map aggD = some false := by kernel_rfl
theorem sz23 : (Tryd.prog.info? 23).map (·.size) = some 1 := by kernel_rfl
theorem ag25 : (Tryd.prog.underlying 25).map aggD = some true := by kernel_rfl
theorem sz25 : (Tryd.prog.info? 25).map (·.size) = some 6 := by kernel_rfl
theorem un25 : Tryd.prog.underlying 25 = Tryd.prog.underlying 24 := by kernel_rfl
theorem ag27 : (Tryd.prog.underlying 27).map aggD = some true := by kernel_rfl
theorem sz27 : (Tryd.prog.info? 27).map (·.size) = some 3 := by kernel_rfl
theorem un27 : Tryd.prog.underlying 27 = Tryd.prog.underlying 26 := by kernel_rfl
theorem ag31 : (Tryd.prog.underlying 31).map aggD = some true := by kernel_rfl
theorem sz31 : (Tryd.prog.info? 31).map (·.size) = some 5 := by kernel_rfl
theorem un31 : Tryd.prog.underlying 31 = Tryd.prog.underlying 30 := by kernel_rfl
theorem ag32 : (Tryd.prog.underlying 32).map aggD = some false := by kernel_rfl
theorem sz32 : (Tryd.prog.info? 32).map (·.size) = some 1 := by kernel_rfl
theorem un32 : Tryd.prog.underlying 32 = Tryd.prog.underlying 3 := by kernel_rfl
theorem ag35 : (Tryd.prog.underlying 35).map aggD = some false := by kernel_rfl
theorem sz35 : (Tryd.prog.info? 35).map (·.size) = some 1 := by kernel_rfl
theorem ag48 : (Tryd.prog.underlying 48).map aggD = some false := by kernel_rfl
theorem sz48 : (Tryd.prog.info? 48).map (·.size) = some 1 := by kernel_rfl
theorem ag52 : (Tryd.prog.underlying 52).map aggD = some false := by kernel_rfl
theorem sz52 : (Tryd.prog.info? 52).map (·.size) = some 1 := by kernel_rfl
theorem ag60 : (Tryd.prog.underlying 60).map aggD = some true := by kernel_rfl
theorem sz60 : (Tryd.prog.info? 60).map (·.size) = some 3 := by kernel_rfl
theorem un60 : Tryd.prog.underlying 60 = Tryd.prog.underlying 59 := by kernel_rfl
theorem ag61 : (Tryd.prog.underlying 61).map aggD = some true := by kernel_rfl
theorem sz61 : (Tryd.prog.info? 61).map (·.size) = some 336 := by kernel_rfl
theorem ag63 : (Tryd.prog.underlying 63).map aggD = some true := by kernel_rfl
theorem sz63 : (Tryd.prog.info? 63).map (·.size) = some 3 := by kernel_rfl
theorem ag66 : (Tryd.prog.underlying 66).map aggD = some true := by kernel_rfl
theorem sz66 : (Tryd.prog.info? 66).map (·.size) = some 3 := by kernel_rfl
theorem ag68 : (Tryd.prog.underlying 68).map aggD = some false := by kernel_rfl
theorem sz68 : (Tryd.prog.info? 68).map (·.size) = some 1 := by kernel_rfl
theorem ag69 : (Tryd.prog.underlying 69).map aggD = some false := by kernel_rfl
theorem sz69 : (Tryd.prog.info? 69).map (·.size) = some 1 := by kernel_rfl
theorem ag70 : (Tryd.prog.underlying 70).map aggD = some true := by kernel_rfl
theorem sz70 : (Tryd.prog.info? 70).map (·.size) = some 5 := by kernel_rfl
theorem ag76 : (Tryd.prog.underlying 76).map aggD = some false := by kernel_rfl
theorem sz76 : (Tryd.prog.info? 76).map (·.size) = some 1 := by kernel_rfl
theorem si27 : Tryd.prog.stoodInHeld 27 = false := by kernel_rfl
theorem fo27 : Tryd.prog.fieldsOf 27 = #[{ name := "State", type := 3, offset := 0, embedded := false, tag := "", pkgPath := "", byteOffset := 0 }, { name := "Num", type := 3, offset := 1, embedded := false, tag := "", pkgPath := "", byteOffset := 8 }, { name := "Text", type := 9, offset := 2, embedded := false, tag := "", pkgPath := "", byteOffset := 16 }] := by kernel_rfl
theorem us27 : Tryd.prog.underlying 27 = some (.struct (Tryd.prog.fieldsOf 27)) := by kernel_rfl
theorem eqc27 (d : Nat) (w : World) (a0 : Int) (a1 : Int) (a2 : List UInt8) (b0 : Int) (b1 : Int) (b2 : List UInt8) : (Op.equalIn (d + 2) 27 (.agg #[.int .i64 a0, .int .i64 a1, .string ⟨a2.toArray⟩]) (.agg #[.int .i64 b0, .int .i64 b1, .string ⟨b2.toArray⟩])).run Tryd.prog w = .ok ((a0 == b0) && ((a1 == b1) && ((a2 == b2) && true))) w := by
  rw [show d + 2 = (d + 1) + 1 from rfl, run_equalIn_struct w _ 27 _ _ us27 si27, fo27]
  refine eqF_cons (by decide) (by simp [part, run_isAgg ag3] <;> rfl) (by simp [part, run_isAgg ag3] <;> rfl) (eqI_int Tryd.underlying3) ?_
  refine eqF_cons (by decide) (by simp [part, run_isAgg ag3] <;> rfl) (by simp [part, run_isAgg ag3] <;> rfl) (eqI_int Tryd.underlying3) ?_
  refine eqF_cons (by decide) (by simp [part, run_isAgg ag9] <;> rfl) (by simp [part, run_isAgg ag9] <;> rfl) (eqI_str Tryd.underlying9) ?_
  exact eqF_nil
theorem gp27 : Tryd.prog.eqGuardType Tryd.prog.depth 27 = false := by kernel_rfl
theorem eqc27_eql (x y : Operand) (a0 : Int) (a1 : Int) (a2 : List UInt8) (b0 : Int) (b1 : Int) (b2 : List UInt8) (w : World) : (do eqGuard .eql 27 x y (.agg #[.int .i64 a0, .int .i64 a1, .string ⟨a2.toArray⟩]) (.agg #[.int .i64 b0, .int .i64 b1, .string ⟨b2.toArray⟩]); binOp .eql 27 (.agg #[.int .i64 a0, .int .i64 a1, .string ⟨a2.toArray⟩]) (.agg #[.int .i64 b0, .int .i64 b1, .string ⟨b2.toArray⟩]) : Sem Value).run Tryd.prog w = .ok (.bool (((a0 == b0) && ((a1 == b1) && ((a2 == b2) && true))))) w := by
  rw [Sem.run_bind, run_eqGuard_agg (hm := gp27), Result.andThen_ok, run_eql_struct, show (10000 : Nat) = 9998 + 2 from rfl, eqc27]
  rfl
theorem eqc27_neq (x y : Operand) (a0 : Int) (a1 : Int) (a2 : List UInt8) (b0 : Int) (b1 : Int) (b2 : List UInt8) (w : World) : (do eqGuard .neq 27 x y (.agg #[.int .i64 a0, .int .i64 a1, .string ⟨a2.toArray⟩]) (.agg #[.int .i64 b0, .int .i64 b1, .string ⟨b2.toArray⟩]); binOp .neq 27 (.agg #[.int .i64 a0, .int .i64 a1, .string ⟨a2.toArray⟩]) (.agg #[.int .i64 b0, .int .i64 b1, .string ⟨b2.toArray⟩]) : Sem Value).run Tryd.prog w = .ok (.bool (!((a0 == b0) && ((a1 == b1) && ((a2 == b2) && true))))) w := by
  rw [Sem.run_bind, run_eqGuard_agg (hm := gp27), Result.andThen_ok, run_neq_struct, show (10000 : Nat) = 9998 + 2 from rfl, eqc27]
  rfl
theorem eqo27 : EqOk Tryd.prog 27 (.pair (.int .i64) (.pair (.int .i64) .str)) := eqOk_of (fun x y u v w => by
    have h := eqc27_eql x y u.1 u.2.1 u.2.2 v.1 v.2.1 v.2.2 w
    simp only [Bool.and_true] at h
    exact h) (fun x y u v w => by
    have h := eqc27_neq x y u.1 u.2.1 u.2.2 v.1 v.2.1 v.2.2 w
    simp only [Bool.and_true] at h
    exact h)
theorem si31 : Tryd.prog.stoodInHeld 31 = false := by kernel_rfl
theorem fo31 : Tryd.prog.fieldsOf 31 = #[{ name := "Kind", type := 3, offset := 0, embedded := false, tag := "", pkgPath := "", byteOffset := 0 }, { name := "Name", type := 9, offset := 1, embedded := false, tag := "", pkgPath := "", byteOffset := 8 }, { name := "Cap", type := 27, offset := 2, embedded := false, tag := "", pkgPath := "", byteOffset := 24 }] := by kernel_rfl
theorem us31 : Tryd.prog.underlying 31 = some (.struct (Tryd.prog.fieldsOf 31)) := by kernel_rfl
theorem eqc31 (d : Nat) (w : World) (a0 : Int) (a1 : List UInt8) (a2 : Int) (a3 : Int) (a4 : List UInt8) (b0 : Int) (b1 : List UInt8) (b2 : Int) (b3 : Int) (b4 : List UInt8) : (Op.equalIn (d + 3) 31 (.agg #[.int .i64 a0, .string ⟨a1.toArray⟩, .int .i64 a2, .int .i64 a3, .string ⟨a4.toArray⟩]) (.agg #[.int .i64 b0, .string ⟨b1.toArray⟩, .int .i64 b2, .int .i64 b3, .string ⟨b4.toArray⟩])).run Tryd.prog w = .ok ((a0 == b0) && ((a1 == b1) && (((a2 == b2) && ((a3 == b3) && ((a4 == b4) && true))) && true))) w := by
  rw [show d + 3 = (d + 2) + 1 from rfl, run_equalIn_struct w _ 31 _ _ us31 si31, fo31]
  refine eqF_cons (by decide) (by simp [part, run_isAgg ag3] <;> rfl) (by simp [part, run_isAgg ag3] <;> rfl) (eqI_int Tryd.underlying3) ?_
  refine eqF_cons (by decide) (by simp [part, run_isAgg ag9] <;> rfl) (by simp [part, run_isAgg ag9] <;> rfl) (eqI_str Tryd.underlying9) ?_
  refine eqF_cons (by decide) (by simp [part, run_isAgg ag27, run_sizeOf' sz27] <;> rfl) (by simp [part, run_isAgg ag27, run_sizeOf' sz27] <;> rfl) (eqc27 _ _ _ _ _ _ _ _) ?_
  exact eqF_nil
theorem gp31 : Tryd.prog.eqGuardType Tryd.prog.depth 31 = false := by kernel_rfl
theorem eqc31_eql (x y : Operand) (a0 : Int) (a1 : List UInt8) (a2 : Int) (a3 : Int) (a4 : List UInt8) (b0 : Int) (b1 : List UInt8) (b2 : Int) (b3 : Int) (b4 : List UInt8) (w : World) : (do eqGuard .eql 31 x y (.agg #[.int .i64 a0, .string ⟨a1.toArray⟩, .int .i64 a2, .int .i64 a3, .string ⟨a4.toArray⟩]) (.agg #[.int .i64 b0, .string ⟨b1.toArray⟩, .int .i64 b2, .int .i64 b3, .string ⟨b4.toArray⟩]); binOp .eql 31 (.agg #[.int .i64 a0, .string ⟨a1.toArray⟩, .int .i64 a2, .int .i64 a3, .string ⟨a4.toArray⟩]) (.agg #[.int .i64 b0, .string ⟨b1.toArray⟩, .int .i64 b2, .int .i64 b3, .string ⟨b4.toArray⟩]) : Sem Value).run Tryd.prog w = .ok (.bool (((a0 == b0) && ((a1 == b1) && (((a2 == b2) && ((a3 == b3) && ((a4 == b4) && true))) && true))))) w := by
  rw [Sem.run_bind, run_eqGuard_agg (hm := gp31), Result.andThen_ok, run_eql_struct, show (10000 : Nat) = 9997 + 3 from rfl, eqc31]
  rfl
theorem eqc31_neq (x y : Operand) (a0 : Int) (a1 : List UInt8) (a2 : Int) (a3 : Int) (a4 : List UInt8) (b0 : Int) (b1 : List UInt8) (b2 : Int) (b3 : Int) (b4 : List UInt8) (w : World) : (do eqGuard .neq 31 x y (.agg #[.int .i64 a0, .string ⟨a1.toArray⟩, .int .i64 a2, .int .i64 a3, .string ⟨a4.toArray⟩]) (.agg #[.int .i64 b0, .string ⟨b1.toArray⟩, .int .i64 b2, .int .i64 b3, .string ⟨b4.toArray⟩]); binOp .neq 31 (.agg #[.int .i64 a0, .string ⟨a1.toArray⟩, .int .i64 a2, .int .i64 a3, .string ⟨a4.toArray⟩]) (.agg #[.int .i64 b0, .string ⟨b1.toArray⟩, .int .i64 b2, .int .i64 b3, .string ⟨b4.toArray⟩]) : Sem Value).run Tryd.prog w = .ok (.bool (!((a0 == b0) && ((a1 == b1) && (((a2 == b2) && ((a3 == b3) && ((a4 == b4) && true))) && true))))) w := by
  rw [Sem.run_bind, run_eqGuard_agg (hm := gp31), Result.andThen_ok, run_neq_struct, show (10000 : Nat) = 9997 + 3 from rfl, eqc31]
  rfl
theorem eqo31 : EqOk Tryd.prog 31 (.pair (.int .i64) (.pair .str (.pair (.int .i64) (.pair (.int .i64) .str)))) := eqOk_of (fun x y u v w => by
    have h := eqc31_eql x y u.1 u.2.1 u.2.2.1 u.2.2.2.1 u.2.2.2.2 v.1 v.2.1 v.2.2.1 v.2.2.2.1 v.2.2.2.2 w
    simp only [Bool.and_true] at h
    exact h) (fun x y u v w => by
    have h := eqc31_neq x y u.1 u.2.1 u.2.2.1 u.2.2.2.1 u.2.2.2.2 v.1 v.2.1 v.2.2.1 v.2.2.2.1 v.2.2.2.2 w
    simp only [Bool.and_true] at h
    exact h)
theorem to3 : TIOk Tryd.prog TT 3 ti3 := ⟨ag3, sz3, ⟨(.int .i64 0), by kernel_rfl, by kernel_rfl, by kernel_rfl, by kernel_rfl, (fun _ => by kernel_rfl), (fun h => nomatch h)⟩, Tryd.underlying3⟩
theorem to4 : TIOk Tryd.prog TT 4 ti4 := ⟨ag4, sz4, ⟨(.bool false), by kernel_rfl, by kernel_rfl, by kernel_rfl, by kernel_rfl, (fun _ => by kernel_rfl), (fun h => nomatch h)⟩, Tryd.underlying4⟩
theorem to9 : TIOk Tryd.prog TT 9 ti9 := ⟨ag9, sz9, ⟨(.string ⟨#[]⟩), by kernel_rfl, by kernel_rfl, by kernel_rfl, by kernel_rfl, (fun _ => by kernel_rfl), (fun h => nomatch h)⟩, Tryd.underlying9⟩
theorem to22 : TIOk Tryd.prog TT 22 ti22 := ⟨ag22, sz22, ⟨(.slice none 0 0), by kernel_rfl, by kernel_rfl, by kernel_rfl, by kernel_rfl, (fun _ => by kernel_rfl), (fun h => nomatch h)⟩, ⟨Tryd.underlying22, elem_of (j0 := ti27) rfl ⟨by kernel_rfl, (.agg #[.int .i64 0, .int .i64 0, .string ⟨#[]⟩]), by kernel_rfl, by kernel_rfl⟩⟩⟩
theorem to23 : TIOk Tryd.prog TT 23 ti23 := ⟨ag23, sz23, ⟨(.slice none 0 0), by kernel_rfl, by kernel_rfl, by kernel_rfl, by kernel_rfl, (fun _ => by kernel_rfl), (fun h => nomatch h)⟩, ⟨Tryd.underlying23, elem_of (j0 := ti31) rfl ⟨by kernel_rfl, (.agg #[.int .i64 0, .string ⟨#[]⟩, .int .i64 0, .int .i64 0, .string ⟨#[]⟩]), by kernel_rfl, by kernel_rfl⟩⟩⟩
theorem to25 : TIOk Tryd.prog TT 25 ti25 := ⟨ag25, sz25, ⟨(.agg #[.string ⟨#[]⟩, .bool false, .slice none 0 0, .slice none 0 0, .slice none 0 0, .slice none 0 0]), by kernel_rfl, by kernel_rfl, by kernel_rfl, by kernel_rfl, (fun h => nomatch h), (fun _ => by kernel_rfl)⟩, ⟨[{ name := "Names", type := 9, offset := 0, embedded := false, tag := "", pkgPath := "", byteOffset := 0 }, { name := "Wide", type := 4, offset := 1, embedded := false, tag := "", pkgPath := "", byteOffset := 16 }, { name := "Bools", type := 22, offset := 2, embedded := false, tag := "", pkgPath := "", byteOffset := 24 }, { name := "Nums", type := 22, offset := 3, embedded := false, tag := "", pkgPath := "", byteOffset := 48 }, { name := "Strs", type := 22, offset := 4, embedded := false, tag := "", pkgPath := "", byteOffset := 72 }, { name := "Exts", type := 23, offset := 5, embedded := false, tag := "", pkgPath := "", byteOffset := 96 }].toArray, (un25.trans Tryd.underlying24), allF_at (P := Tryd.prog) (pl := [(0, 1), (1, 1), (2, 1), (3, 1), (4, 1), (5, 1)]) (fs := [{ name := "Names", type := 9, offset := 0, embedded := false, tag := "", pkgPath := "", byteOffset := 0 }, { name := "Wide", type := 4, offset := 1, embedded := false, tag := "", pkgPath := "", byteOffset := 16 }, { name := "Bools", type := 22, offset := 2, embedded := false, tag := "", pkgPath := "", byteOffset := 24 }, { name := "Nums", type := 22, offset := 3, embedded := false, tag := "", pkgPath := "", byteOffset := 48 }, { name := "Strs", type := 22, offset := 4, embedded := false, tag := "", pkgPath := "", byteOffset := 72 }, { name := "Exts", type := 23, offset := 5, embedded := false, tag := "", pkgPath := "", byteOffset := 96 }]) ⟨(fun a w => by simp [fieldPlace, run_sizeOf' sz9]), (fun a w => by simp [fieldPlace, run_sizeOf' sz4]), (fun a w => by simp [fieldPlace, run_sizeOf' sz22]), (fun a w => by simp [fieldPlace, run_sizeOf' sz22]), (fun a w => by simp [fieldPlace, run_sizeOf' sz22]), (fun a w => by simp [fieldPlace, run_sizeOf' sz23]), trivial⟩, fun w => by simp [run_sizeOf' sz22, run_sizeOf' sz23, run_sizeOf' sz4, run_sizeOf' sz9]⟩⟩
theorem to27 : TIOk Tryd.prog TT 27 ti27 := ⟨ag27, sz27, ⟨(.agg #[.int .i64 0, .int .i64 0, .string ⟨#[]⟩]), by kernel_rfl, by kernel_rfl, by kernel_rfl, by kernel_rfl, (fun h => nomatch h), (fun _ => by kernel_rfl)⟩, ⟨[{ name := "State", type := 3, offset := 0, embedded := false, tag := "", pkgPath := "", byteOffset := 0 }, { name := "Num", type := 3, offset := 1, embedded := false, tag := "", pkgPath := "", byteOffset := 8 }, { name := "Text", type := 9, offset := 2, embedded := false, tag := "", pkgPath := "", byteOffset := 16 }].toArray, (un27.trans Tryd.underlying26), allF_at (P := Tryd.prog) (pl := [(0, 1), (1, 1), (2, 1)]) (fs := [{ name := "State", type := 3, offset := 0, embedded := false, tag := "", pkgPath := "", byteOffset := 0 }, { name := "Num", type := 3, offset := 1, embedded := false, tag := "", pkgPath := "", byteOffset := 8 }, { name := "Text", type := 9, offset := 2, embedded := false, tag := "", pkgPath := "", byteOffset := 16 }]) ⟨(fun a w => by simp [fieldPlace, run_sizeOf' sz3]), (fun a w => by simp [fieldPlace, run_sizeOf' sz3]), (fun a w => by simp [fieldPlace, run_sizeOf' sz9]), trivial⟩, fun w => by simp [run_sizeOf' sz3, run_sizeOf' sz9]⟩⟩
theorem to31 : TIOk Tryd.prog TT 31 ti31 := ⟨ag31, sz31, ⟨(.agg #[.int .i64 0, .string ⟨#[]⟩, .int .i64 0, .int .i64 0, .string ⟨#[]⟩]), by kernel_rfl, by kernel_rfl, by kernel_rfl, by kernel_rfl, (fun h => nomatch h), (fun _ => by kernel_rfl)⟩, ⟨[{ name := "Kind", type := 3, offset := 0, embedded := false, tag := "", pkgPath := "", byteOffset := 0 }, { name := "Name", type := 9, offset := 1, embedded := false, tag := "", pkgPath := "", byteOffset := 8 }, { name := "Cap", type := 27, offset := 2, embedded := false, tag := "", pkgPath := "", byteOffset := 24 }].toArray, (un31.trans Tryd.underlying30), allF_at (P := Tryd.prog) (pl := [(0, 1), (1, 1), (2, 3)]) (fs := [{ name := "Kind", type := 3, offset := 0, embedded := false, tag := "", pkgPath := "", byteOffset := 0 }, { name := "Name", type := 9, offset := 1, embedded := false, tag := "", pkgPath := "", byteOffset := 8 }, { name := "Cap", type := 27, offset := 2, embedded := false, tag := "", pkgPath := "", byteOffset := 24 }]) ⟨(fun a w => by simp [fieldPlace, run_sizeOf' sz3]), (fun a w => by simp [fieldPlace, run_sizeOf' sz9]), (fun a w => by simp [fieldPlace, run_sizeOf' sz27]), trivial⟩, fun w => by simp [run_sizeOf' sz27, run_sizeOf' sz3, run_sizeOf' sz9]⟩⟩
theorem to32 : TIOk Tryd.prog TT 32 ti32 := ⟨ag32, sz32, ⟨(.int .i64 0), by kernel_rfl, by kernel_rfl, by kernel_rfl, by kernel_rfl, (fun _ => by kernel_rfl), (fun h => nomatch h)⟩, (un32.trans Tryd.underlying3)⟩
theorem to35 : TIOk Tryd.prog TT 35 ti35 := ⟨ag35, sz35, ⟨(.slice none 0 0), by kernel_rfl, by kernel_rfl, by kernel_rfl, by kernel_rfl, (fun _ => by kernel_rfl), (fun h => nomatch h)⟩, ⟨Tryd.underlying35, elem_of (j0 := ti22) rfl ⟨by kernel_rfl, (.slice none 0 0), by kernel_rfl, by kernel_rfl⟩⟩⟩
theorem to48 : TIOk Tryd.prog TT 48 ti48 := ⟨ag48, sz48, ⟨(.pointer none), by kernel_rfl, by kernel_rfl, by kernel_rfl, by kernel_rfl, (fun _ => by kernel_rfl), (fun h => nomatch h)⟩, ⟨_, Tryd.underlying48⟩⟩
theorem to52 : TIOk Tryd.prog TT 52 ti52 := ⟨ag52, sz52, ⟨(.slice none 0 0), by kernel_rfl, by kernel_rfl, by kernel_rfl, by kernel_rfl, (fun _ => by kernel_rfl), (fun h => nomatch h)⟩, ⟨Tryd.underlying52, elem_of (j0 := ti9) rfl ⟨by kernel_rfl, (.string ⟨#[]⟩), by kernel_rfl, by kernel_rfl⟩⟩⟩
theorem to60 : TIOk Tryd.prog TT 60 ti60 := ⟨ag60, sz60, ⟨(.agg #[.string ⟨#[]⟩, .int .i64 0, .int .i64 0]), by kernel_rfl, by kernel_rfl, by kernel_rfl, by kernel_rfl, (fun h => nomatch h), (fun _ => by kernel_rfl)⟩, ⟨[{ name := "name", type := 9, offset := 0, embedded := false, tag := "", pkgPath := "lanyard/tinfo", byteOffset := 0 }, { name := "kind", type := 3, offset := 1, embedded := false, tag := "", pkgPath := "lanyard/tinfo", byteOffset := 16 }, { name := "n", type := 3, offset := 2, embedded := false, tag := "", pkgPath := "lanyard/tinfo", byteOffset := 24 }].toArray, (un60.trans Tryd.underlying59), allF_at (P := Tryd.prog) (pl := [(0, 1), (1, 1), (2, 1)]) (fs := [{ name := "name", type := 9, offset := 0, embedded := false, tag := "", pkgPath := "lanyard/tinfo", byteOffset := 0 }, { name := "kind", type := 3, offset := 1, embedded := false, tag := "", pkgPath := "lanyard/tinfo", byteOffset := 16 }, { name := "n", type := 3, offset := 2, embedded := false, tag := "", pkgPath := "lanyard/tinfo", byteOffset := 24 }]) ⟨(fun a w => by simp [fieldPlace, run_sizeOf' sz9]), (fun a w => by simp [fieldPlace, run_sizeOf' sz3]), (fun a w => by simp [fieldPlace, run_sizeOf' sz3]), trivial⟩, fun w => by simp [run_sizeOf' sz3, run_sizeOf' sz9]⟩⟩
theorem to61 : TIOk Tryd.prog TT 61 ti61 := ⟨ag61, sz61, ⟨(.agg #[.string ⟨#[]⟩, .int .i64 0, .int .i64 0, .string ⟨#[]⟩, .int .i64 0, .int .i64 0, .string ⟨#[]⟩, .int .i64 0, .int .i64 0, .string ⟨#[]⟩, .int .i64 0, .int .i64 0, .string ⟨#[]⟩, .int .i64 0, .int .i64 0, .string ⟨#[]⟩, .int .i64 0, .int .i64 0, .string ⟨#[]⟩, .int .i64 0, .int .i64 0, .string ⟨#[]⟩, .int .i64 0, .int .i64 0, .string ⟨#[]⟩, .int .i64 0, .int .i64 0, .string ⟨#[]⟩, .int .i64 0, .int .i64 0, .string ⟨#[]⟩, .int .i64 0, .int .i64 0, .string ⟨#[]⟩, .int .i64 0, .int .i64 0, .string ⟨#[]⟩, .int .i64 0, .int .i64 0, .string ⟨#[]⟩, .int .i64 0, .int .i64 0, .string ⟨#[]⟩, .int .i64 0, .int .i64 0, .string ⟨#[]⟩, .int .i64 0, .int .i64 0, .string ⟨#[]⟩, .int .i64 0, .int .i64 0, .string ⟨#[]⟩, .int .i64 0, .int .i64 0, .string ⟨#[]⟩, .int .i64 0, .int .i64 0, .string ⟨#[]⟩, .int .i64 0, .int .i64 0, .string ⟨#[]⟩, .int .i64 0, .int .i64 0, .string ⟨#[]⟩, .int .i64 0, .int .i64 0, .string ⟨#[]⟩, .int .i64 0, .int .i64 0, .string ⟨#[]⟩, .int .i64 0, .int .i64 0, .string ⟨#[]⟩, .int .i64 0, .int .i64 0, .string ⟨#[]⟩, .int .i64 0, .int .i64 0, .string ⟨#[]⟩, .int .i64 0, .int .i64 0, .string ⟨#[]⟩, .int .i64 0, .int .i64 0, .string ⟨#[]⟩, .int .i64 0, .int .i64 0, .string ⟨#[]⟩, .int .i64 0, .int .i64 0, .string ⟨#[]⟩, .int .i64 0, .int .i64 0, .string ⟨#[]⟩, .int .i64 0, .int .i64 0, .string ⟨#[]⟩, .int .i64 0, .int .i64 0, .string ⟨#[]⟩, .int .i64 0, .int .i64 0, .string ⟨#[]⟩, .int .i64 0, .int .i64 0, .string ⟨#[]⟩, .int .i64 0, .int .i64 0, .string ⟨#[]⟩, .int .i64 0, .int .i64 0, .string ⟨#[]⟩, .int .i64 0, .int .i64 0, .string ⟨#[]⟩, .int .i64 0, .int .i64 0, .string ⟨#[]⟩, .int .i64 0, .int .i64 0, .string ⟨#[]⟩, .int .i64 0, .int .i64 0, .string ⟨#[]⟩, .int .i64 0, .int .i64 0, .string ⟨#[]⟩, .int .i64 0, .int .i64 0, .string ⟨#[]⟩, .int .i64 0, .int .i64 0, .string ⟨#[]⟩, .int .i64 0, .int .i64 0, .string ⟨#[]⟩, .int .i64 0, .int .i64 0, .string ⟨#[]⟩, .int .i64 0, .int .i64 0, .string ⟨#[]⟩, .int .i64 0, .int .i64 0, .string ⟨#[]⟩, .int .i64 0, .int .i64 0, .string ⟨#[]⟩, .int .i64 0, .int .i64 0, .string ⟨#[]⟩, .int .i64 0, .int .i64 0, .string ⟨#[]⟩, .int .i64 0, .int .i64 0, .string ⟨#[]⟩, .int .i64 0, .int .i64 0, .string ⟨#[]⟩, .int .i64 0, .int .i64 0, .string ⟨#[]⟩, .int .i64 0, .int .i64 0, .string ⟨#[]⟩, .int .i64 0, .int .i64 0, .string ⟨#[]⟩, .int .i64 0, .int .i64 0, .string ⟨#[]⟩, .int .i64 0, .int .i64 0, .string ⟨#[]⟩, .int .i64 0, .int .i64 0, .string ⟨#[]⟩, .int .i64 0, .int .i64 0, .string ⟨#[]⟩, .int .i64 0, .int .i64 0, .string ⟨#[]⟩, .int .i64 0, .int .i64 0, .string ⟨#[]⟩, .int .i64 0, .int .i64 0, .string ⟨#[]⟩, .int .i64 0, .int .i64 0, .string ⟨#[]⟩, .int .i64 0, .int .i64 0, .string ⟨#[]⟩, .int .i64 0, .int .i64 0, .string ⟨#[]⟩, .int .i64 0, .int .i64 0, .string ⟨#[]⟩, .int .i64 0, .int .i64 0, .string ⟨#[]⟩, .int .i64 0, .int .i64 0, .string ⟨#[]⟩, .int .i64 0, .int .i64 0, .string ⟨#[]⟩, .int .i64 0, .int .i64 0, .string ⟨#[]⟩, .int .i64 0, .int .i64 0, .string ⟨#[]⟩, .int .i64 0, .int .i64 0, .string ⟨#[]⟩, .int .i64 0, .int .i64 0, .string ⟨#[]⟩, .int .i64 0, .int .i64 0, .string ⟨#[]⟩, .int .i64 0, .int .i64 0, .string ⟨#[]⟩, .int .i64 0, .int .i64 0, .string ⟨#[]⟩, .int .i64 0, .int .i64 0, .string ⟨#[]⟩, .int .i64 0, .int .i64 0, .string ⟨#[]⟩, .int .i64 0, .int .i64 0, .string ⟨#[]⟩, .int .i64 0, .int .i64 0, .string ⟨#[]⟩, .int .i64 0, .int .i64 0, .string ⟨#[]⟩, .int .i64 0, .int .i64 0, .string ⟨#[]⟩, .int .i64 0, .int .i64 0, .string ⟨#[]⟩, .int .i64 0, .int .i64 0, .string ⟨#[]⟩, .int .i64 0, .int .i64 0, .string ⟨#[]⟩, .int .i64 0, .int .i64 0, .string ⟨#[]⟩, .int .i64 0, .int .i64 0, .string ⟨#[]⟩, .int .i64 0, .int .i64 0, .string ⟨#[]⟩, .int .i64 0, .int .i64 0, .string ⟨#[]⟩, .int .i64 0, .int .i64 0, .string ⟨#[]⟩, .int .i64 0, .int .i64 0, .string ⟨#[]⟩, .int .i64 0, .int .i64 0, .string ⟨#[]⟩, .int .i64 0, .int .i64 0, .string ⟨#[]⟩, .int .i64 0, .int .i64 0, .string ⟨#[]⟩, .int .i64 0, .int .i64 0, .string ⟨#[]⟩, .int .i64 0, .int .i64 0, .string ⟨#[]⟩, .int .i64 0, .int .i64 0, .string ⟨#[]⟩, .int .i64 0, .int .i64 0, .string ⟨#[]⟩, .int .i64 0, .int .i64 0, .string ⟨#[]⟩, .int .i64 0, .int .i64 0, .string ⟨#[]⟩, .int .i64 0, .int .i64 0, .string ⟨#[]⟩, .int .i64 0, .int .i64 0, .string ⟨#[]⟩, .int .i64 0, .int .i64 0, .string ⟨#[]⟩, .int .i64 0, .int .i64 0, .string ⟨#[]⟩, .int .i64 0, .int .i64 0, .string ⟨#[]⟩, .int .i64 0, .int .i64 0, .string ⟨#[]⟩, .int .i64 0, .int .i64 0, .string ⟨#[]⟩, .int .i64 0, .int .i64 0, .string ⟨#[]⟩, .int .i64 0, .int .i64 0, .string ⟨#[]⟩, .int .i64 0, .int .i64 0, .string ⟨#[]⟩, .int .i64 0, .int .i64 0]), by kernel_rfl, by kernel_rfl, by kernel_rfl, by kernel_rfl, (fun h => nomatch h), (fun _ => by kernel_rfl)⟩, Tryd.underlying61⟩
theorem to63 : TIOk Tryd.prog TT 63 ti63 := ⟨ag63, sz63, ⟨(.agg #[.pointer none, .pointer none, .pointer none]), by kernel_rfl, by kernel_rfl, by kernel_rfl, by kernel_rfl, (fun h => nomatch h), (fun _ => by kernel_rfl)⟩, Tryd.underlying63⟩
theorem to66 : TIOk Tryd.prog TT 66 ti66 := ⟨ag66, sz66, ⟨(.agg #[.slice none 0 0, .slice none 0 0, .slice none 0 0]), by kernel_rfl, by kernel_rfl, by kernel_rfl, by kernel_rfl, (fun h => nomatch h), (fun _ => by kernel_rfl)⟩, Tryd.underlying66⟩
theorem to68 : TIOk Tryd.prog TT 68 ti68 := ⟨ag68, sz68, ⟨(.map none), by kernel_rfl, by kernel_rfl, by kernel_rfl, by kernel_rfl, (fun _ => by kernel_rfl), (fun h => nomatch h)⟩, Tryd.underlying68⟩
theorem to69 : TIOk Tryd.prog TT 69 ti69 := ⟨ag69, sz69, ⟨(.slice none 0 0), by kernel_rfl, by kernel_rfl, by kernel_rfl, by kernel_rfl, (fun _ => by kernel_rfl), (fun h => nomatch h)⟩, ⟨Tryd.underlying69, elem_of (j0 := ti3) rfl ⟨by kernel_rfl, (.int .i64 0), by kernel_rfl, by kernel_rfl⟩⟩⟩
theorem to70 : TIOk Tryd.prog TT 70 ti70 := ⟨ag70, sz70, ⟨(.agg #[.string ⟨#[]⟩, .string ⟨#[]⟩, .string ⟨#[]⟩, .string ⟨#[]⟩, .string ⟨#[]⟩]), by kernel_rfl, by kernel_rfl, by kernel_rfl, by kernel_rfl, (fun h => nomatch h), (fun _ => by kernel_rfl)⟩, Tryd.underlying70⟩
theorem to76 : TIOk Tryd.prog TT 76 ti76 := ⟨ag76, sz76, ⟨(.nilFunc), by kernel_rfl, by kernel_rfl, by kernel_rfl, by kernel_rfl, (fun _ => by kernel_rfl), (fun h => nomatch h)⟩, ⟨_, _, _, Tryd.underlying76⟩⟩
theorem tt_ok : TabOk Tryd.prog TT := tabOk_of ⟨to3, to4, to9, to22, to23, to25, to27, to31, to32, to35, to48, to52, to60, to61, to63, to66, to68, to69, to70, to76, trivial⟩ ⟨(fun h => nomatch h), (fun h => nomatch h), (fun h => nomatch h), (fun h => nomatch h), (fun h => nomatch h), (fun h => nomatch h), (fun _ => ⟨by kernel_rfl, eqo27⟩), (fun _ => ⟨by kernel_rfl, eqo31⟩), (fun h => nomatch h), (fun h => nomatch h), (fun h => nomatch h), (fun h => nomatch h), (fun h => nomatch h), (fun h => nomatch h), (fun h => nomatch h), (fun h => nomatch h), (fun h => nomatch h), (fun h => nomatch h), (fun h => nomatch h), (fun h => nomatch h), trivial⟩
theorem mixed : Tryd.prog.follows .mixedOrders = true := by kernel_rfl
theorem en10 : enterable Tryd.prog 10 = true := by kernel_rfl
theorem en11 : enterable Tryd.prog 11 = true := by kernel_rfl
theorem en12 : enterable Tryd.prog 12 = true := by kernel_rfl
theorem en13 : enterable Tryd.prog 13 = true := by kernel_rfl
theorem en14 : enterable Tryd.prog 14 = true := by kernel_rfl
theorem en15 : enterable Tryd.prog 15 = true := by kernel_rfl
theorem en16 : enterable Tryd.prog 16 = true := by kernel_rfl
theorem en17 : enterable Tryd.prog 17 = true := by kernel_rfl
theorem en18 : enterable Tryd.prog 18 = true := by kernel_rfl
theorem en19 : enterable Tryd.prog 19 = true := by kernel_rfl
theorem en20 : enterable Tryd.prog 20 = true := by kernel_rfl
theorem en21 : enterable Tryd.prog 21 = true := by kernel_rfl
theorem en22 : enterable Tryd.prog 22 = true := by kernel_rfl
theorem en23 : enterable Tryd.prog 23 = true := by kernel_rfl
theorem en24 : enterable Tryd.prog 24 = true := by kernel_rfl
theorem en25 : enterable Tryd.prog 25 = true := by kernel_rfl
theorem en26 : enterable Tryd.prog 26 = true := by kernel_rfl
theorem en27 : enterable Tryd.prog 27 = true := by kernel_rfl
theorem en29 : enterable Tryd.prog 29 = true := by kernel_rfl
theorem en3 : enterable Tryd.prog 3 = true := by kernel_rfl
theorem en32 : enterable Tryd.prog 32 = true := by kernel_rfl
theorem en33 : enterable Tryd.prog 33 = true := by kernel_rfl
theorem en35 : enterable Tryd.prog 35 = true := by kernel_rfl
theorem en36 : enterable Tryd.prog 36 = true := by kernel_rfl
theorem en37 : enterable Tryd.prog 37 = true := by kernel_rfl
theorem en38 : enterable Tryd.prog 38 = true := by kernel_rfl
theorem en39 : enterable Tryd.prog 39 = true := by kernel_rfl
theorem en4 : enterable Tryd.prog 4 = true := by kernel_rfl
theorem en40 : enterable Tryd.prog 40 = true := by kernel_rfl
theorem en41 : enterable Tryd.prog 41 = true := by kernel_rfl
theorem en48 : enterable Tryd.prog 48 = true := by kernel_rfl
theorem en49 : enterable Tryd.prog 49 = true := by kernel_rfl
theorem en5 : enterable Tryd.prog 5 = true := by kernel_rfl
theorem en50 : enterable Tryd.prog 50 = true := by kernel_rfl
theorem en6 : enterable Tryd.prog 6 = true := by kernel_rfl
theorem en7 : enterable Tryd.prog 7 = true := by kernel_rfl
theorem en8 : enterable Tryd.prog 8 = true := by kernel_rfl
theorem en9 : enterable Tryd.prog 9 = true := by kernel_rfl
end Go.Proofs.YtfghjkgpbncagaaDoor
set_option linter.unusedVariables false
namespace Go.Proofs.YtfghjkgpbncagaaDoor
open Go.RowKit Go.Av Go.Proofs
theorem bytes_len (s : List UInt8) : (⟨s.toArray⟩ : ByteArray).size = s.length := by simp [ByteArray.size]
theorem args1 {C : Cfg} {a : AV} {vs : List Value} (h : Reps C [a] vs) : ∃ v, vs = [v] ∧ Rep C a v := by
  obtain ⟨v, us, rfl, h1, h2⟩ := h.head
  exact ⟨v, by rw [h2.none], h1⟩
theorem args2 {C : Cfg} {a b : AV} {vs : List Value} (h : Reps C [a, b] vs) : ∃ v u, vs = [v, u] ∧ Rep C a v ∧ Rep C b u := by
  obtain ⟨v, us, rfl, h1, h2⟩ := h.head
  obtain ⟨u, rfl, h3⟩ := args1 h2
  exact ⟨v, u, rfl, h1, h3⟩
theorem lib_contains (s sub : List UInt8) (hs : s.length < 4294967281) : APure Tryd.prog 28 [.str s, .str sub] fun o => o = .ret (.bool (Lib.contains s sub)) := by
  refine pure_same fun F C w vs hT hF hv => ?_
  obtain ⟨v, u, rfl, h1, h2⟩ := args2 hv
  rw [h1.str_inv, h2.str_inv]
  obtain ⟨⟨m, t, hm⟩, _⟩ := hT
  have hc : w.cell? ⟨2, 0, none⟩ = some (.int .i64 m) := by simp [World.cell?, hF _ _ hm]
  refine (Tryd.strings_Contains ⟨s.toArray⟩ ⟨sub.toArray⟩ m w (by rw [bytes_len]; exact hs) hc).mono ?_
  rintro e w' ⟨rfl, rfl⟩
  exact ⟨rfl, _, rfl, .ret _ _ (.bool _)⟩
theorem lib_indexByte (s : List UInt8) (c : Int) : APure Tryd.prog 31 [.str s, .int .u8 c] fun o => o = .ret (.int .i64 (Lib.indexByte s (UInt8.ofNat c.toNat))) := by
  refine pure_same fun F C w vs hT hF hv => ?_
  obtain ⟨v, u, rfl, h1, h2⟩ := args2 hv
  rw [h1.str_inv, h2.int_inv]
  refine (Tryd.strings_IndexByte ⟨s.toArray⟩ c w).mono ?_
  rintro e w' ⟨rfl, rfl⟩
  exact ⟨rfl, _, rfl, .ret _ _ (.int _ _)⟩
theorem lib_split (s sep : List UInt8) (hs : s.length < 4294967281) (h1 : 1 ≤ sep.length) : APure Tryd.prog 30 [.str s, .str sep] fun o => o = .ret (.sl none 1 (((Lib.splitB ⟨sep.toArray⟩ 0 (Lib.countB ⟨s.toArray⟩ ⟨sep.toArray⟩) ⟨s.toArray⟩).map fun b => b.data.toList).map fun l => [.str l])) := by
  have hlen : (Lib.splitB ⟨sep.toArray⟩ 0 (Lib.countB ⟨s.toArray⟩ ⟨sep.toArray⟩) ⟨s.toArray⟩).length = Lib.countB ⟨s.toArray⟩ ⟨sep.toArray⟩ + 1 := Lib.splitB_all _ (by rw [bytes_len]; exact h1) 0 _ _ rfl
  refine pure_strs (ty := 9) ?_ fun F C w vs hT hF hv => ?_
  · have := Lib.countB_le ⟨sep.toArray⟩ (by rw [bytes_len]; exact h1) _ ⟨s.toArray⟩ (Nat.le_refl _)
    rw [bytes_len] at this
    rw [List.length_map, hlen]; omega
  obtain ⟨v, u, rfl, q1, q2⟩ := args2 hv
  rw [q1.str_inv, q2.str_inv]
  obtain ⟨⟨m, t, hm⟩, _⟩ := hT
  have hc : w.cell? ⟨2, 0, none⟩ = some (.int .i64 m) := by simp [World.cell?, hF _ _ hm]
  refine (Tryd.strings_Split ⟨s.toArray⟩ ⟨sep.toArray⟩ m w (by rw [bytes_len]; exact hs) hc (by rw [bytes_len]; exact h1)).mono ?_
  rintro e w' ⟨rfl, rfl⟩
  refine ⟨by rw [List.length_map, hlen], ?_⟩
  simp only [List.map_map]
  rfl
theorem cnt_le : ∀ (l : List UInt8) (ws : Bool), Lib.cntF ws l ≤ l.length
  | [], _ => Nat.le_refl _
  | b :: l, ws => by
    have := cnt_le l (Lib.isSp b)
    simp only [Lib.cntF, List.length_cons]
    split <;> omega
theorem lib_fields (s : List UInt8) (hs : s.length < 4294967281) (ha : (s.all fun b => b.toNat < 128) = true) : APure Tryd.prog 34 [.str s] fun o => o = .ret (.sl none 1 ((Lib.fields s).map fun l => [.str l])) := by
  refine pure_strs (ty := 9) ?_ fun F C w vs hT hF hv => ?_
  · rw [Lib.fields_length]
    have := cnt_le s true
    omega
  obtain ⟨v, rfl, q1⟩ := args1 hv
  rw [q1.str_inv]
  obtain ⟨_, t, fr, hm⟩ := hT
  have htab : Lib.TabIs Tryd.prog w "strings.asciiSpace" .u8 Lib.asciiSpaceTab := by
    have hg : Tryd.prog.globalNamed "strings.asciiSpace" = some 0 := by kernel_rfl
    simp [Lib.TabIs, World.var?, hg, hF _ _ hm]
  exact (Tryd.strings_Fields ⟨s.toArray⟩ w (by rw [bytes_len]; exact hs) (fun j b hb => by
    have := List.all_eq_true.1 ha b (List.mem_of_getElem? hb)
    simpa using this) htab)
theorem lib_atoi (s : List UInt8) (n : Int) (hs : s.length ≤ 18) (h : Lib.atoi s = some n) : APure Tryd.prog 45 [.str s] fun o => o = .ret (.tup [.int .i64 n, .nili]) := by
  refine pure_grow fun F C w vs hT hF hv => ?_
  obtain ⟨v, rfl, q1⟩ := args1 hv
  rw [q1.str_inv]
  refine (Tryd.strconv_Atoi ⟨s.toArray⟩ n (by rw [bytes_len]; exact hs) h w).mono ?_
  rintro e w' ⟨rfl, t, rfl⟩
  refine ⟨⟨?_, ?_, ?_, ?_, fun b hb => Lib.bytesWorld_at_old w _ t b hb⟩, _, rfl, .ret _ _ ?_⟩
  · simp [Lib.bytesWorld, World.freeze]; rfl
  · simp [Lib.bytesWorld, World.freeze]
  · simp [Lib.bytesWorld, World.freeze]; rfl
  · simp [Lib.bytesWorld, World.freeze]
  · have := Reps.cons (Rep.int (C := C) .i64 n) (Reps.cons (Rep.nili (C := C)) (Reps.nil C))
    exact .tup _ _ this.1 this.2
theorem bif_some {α : Type} {b : Bool} {x : α} {o : Option α} (h : (bif b then o else none) = some x) : b = true ∧ o = some x := by
  cases b with
  | true => exact ⟨rfl, h⟩
  | false => cases h
theorem ok_strings_Contains (k : Nat) : ConOk Tryd.prog (C_strings_Contains k) := by
  refine ⟨by kernel_rfl, fun z o ho => ?_⟩
  obtain ⟨h1, h2⟩ := bif_some (show F_strings_Contains k z.1 z.2 = some o from ho)
  injection h2 with h2
  subst h2
  exact (lib_contains _ _ (of_decide_eq_true h1) _).mono fun out m' ⟨h1, h2⟩ => ⟨.ret, _, ⟨rfl, rfl⟩, h2, .inl ⟨rfl, h1⟩⟩
theorem ok_strings_IndexByte (k : Nat) : ConOk Tryd.prog (C_strings_IndexByte k) := by
  refine ⟨by kernel_rfl, fun z o ho => ?_⟩
  have h2 : F_strings_IndexByte k z.1 z.2 = some o := ho
  injection h2 with h2
  subst h2
  exact (lib_indexByte _ _ _).mono fun out m' ⟨h1, h2⟩ => ⟨.ret, _, ⟨rfl, rfl⟩, h2, .inl ⟨rfl, h1⟩⟩
theorem ok_strings_Split (k : Nat) : ConOk Tryd.prog (C_strings_Split k) := by
  refine ⟨by kernel_rfl, fun z o ho => ?_⟩
  obtain ⟨h1, h2⟩ := bif_some (show F_strings_Split k z.1 z.2 = some o from ho)
  injection h2 with h2
  subst h2
  rw [Bool.and_eq_true] at h1
  exact (lib_split _ _ (of_decide_eq_true h1.1) (of_decide_eq_true h1.2) _).mono fun out m' ⟨h1, h2⟩ => ⟨.ret, _, ⟨rfl, rfl⟩, h2, .inl ⟨rfl, h1⟩⟩
theorem ok_strings_Fields (k : Nat) : ConOk Tryd.prog (C_strings_Fields k) := by
  refine ⟨by kernel_rfl, fun z o ho => ?_⟩
  obtain ⟨h1, h2⟩ := bif_some (show F_strings_Fields k z = some o from ho)
  injection h2 with h2
  subst h2
  rw [Bool.and_eq_true] at h1
  exact (lib_fields _ (of_decide_eq_true h1.1) h1.2 _).mono fun out m' ⟨h1, h2⟩ => ⟨.ret, _, ⟨rfl, rfl⟩, h2, .inl ⟨rfl, h1⟩⟩
theorem ok_strconv_Atoi (k : Nat) : ConOk Tryd.prog (C_strconv_Atoi k) := by
  refine ⟨by kernel_rfl, fun z o ho => ?_⟩
  obtain ⟨h1, h2⟩ := bif_some (show F_strconv_Atoi k z = some o from ho)
  exact (lib_atoi _ _ (of_decide_eq_true h1) h2 _).mono fun out m' ⟨h1, h2⟩ => ⟨.ret, _, ⟨rfl, rfl⟩, h2, .inl ⟨rfl, h1⟩⟩
end Go.Proofs.YtfghjkgpbncagaaDoor
