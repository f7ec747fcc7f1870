/- Joined texts: Ra. -/
import Derived.Test.YtfghjkgpbncagaaDoorCards
import Derived.Test.YtfghjkgpbncagaaDoorTie
import Derived.Test.YtfghjkgpbncagaaDoorPd
import Derived.Test.YtfghjkgpbncagaaDoorKd
import Derived.Test.YtfghjkgpbncagaaDoorGf
import Derived.Deep.DeepWitnessRowRef
import Derived.Lay
set_option maxRecDepth 100000
set_option linter.unusedVariables false
namespace Go.Proofs.YtfghjkgpbncagaaDoor.row
open Go.ChangeShapes Go.WideShapes Go.ChangeAt Go.RowKit Go.Av
theorem own : ownKnob Tryd.prog.godebug = none := by kernel_rfl
theorem laid_tail {P : Program} {W : World} {n : String} {d : DataW Unit} {r : List (String × DataW Unit)} (h : laidMet P ((n, d) :: r) W) : laidMet P r W := by
  obtain ⟨ps, ⟨g, t, cs, fuel, p, q, _, _, _, _, hr, rfl⟩, hnd, hc⟩ := h
  exact ⟨q, hr, (List.nodup_append.1 hnd).2.1, fun b off hm => hc b off (List.mem_append_right _ hm)⟩
theorem gAscii : Tryd.prog.globalNamed "strings.asciiSpace" = some 0 := by kernel_rfl
theorem gAsciiType : (Tryd.prog.globals[0]?).map (·.type) = some 86 := by kernel_rfl
theorem ascii_is {W : World} (h : laidMetH Tryd.prog Rows.tinfoOwnRow.laid W) : Lib.TabIs Tryd.prog W "strings.asciiSpace" .u8 Lib.asciiSpaceTab := by
  have h : laidMet Tryd.prog Rows.tinfoOwnRow.laid W := h
  have h := laid_tail (laid_tail (laid_tail (laid_tail (laid_tail (laid_tail (laid_tail h))))))
  exact Lib.tabIs_of_head gAscii gAsciiType Tryd.underlying86 Tryd.underlying5 (by kernel_rfl) (by kernel_rfl) (rest := _) h
theorem max_is {W : World} (h : W.ShapedOpen Tryd.prog) : ∃ m t, W.heap[2]? = some (.cells #[.int .i64 m] t (0, 0)) := by
  obtain ⟨m, hm⟩ := int_global (g := 2) (t := 3) (zero := #[.int .i64 0]) (k := .i64) h (by decide +kernel) (by kernel_rfl) rfl (by kernel_rfl) (by kernel_rfl) Tryd.underlying3
  exact ⟨m, 3, hm⟩
theorem okF {W : World} (h : laidMetH Tryd.prog Rows.tinfoOwnRow.laid W) (hs : W.ShapedOpen Tryd.prog) : Tab.okF fun b => W.heap[b]? := by
  refine ⟨max_is hs, ?_⟩
  have := ascii_is h
  unfold Lib.TabIs World.var? at this
  rw [gAscii] at this
  obtain ⟨t, fr, hh⟩ : ∃ t fr, W.heap[0]? = some (.cells ((Lib.asciiSpaceTab.map fun z => Value.int .u8 z).toArray) t fr) := by
    simp only [Option.bind_some] at this
    split at this
    · rename_i cs t fr hc
      injection this with this
      exact ⟨t, fr, by rw [hc, this]⟩
    · cases this
  exact ⟨t, fr, hh⟩
theorem tyT9 : TyT Tryd.prog .str 9 := .str 9 (Tryd.underlying9)
theorem tyT4 : TyT Tryd.prog .bool 4 := .bool 4 (Tryd.underlying4)
theorem tyT3 : TyT Tryd.prog (.int .i64) 3 := .int .i64 3 (Tryd.underlying3)
theorem tyT27 : TyT Tryd.prog (.pair (.int .i64) (.pair (.int .i64) .str)) 27 := .struct (.pair (.int .i64) (.pair (.int .i64) .str)) 27 #[{ name := "State", type := 3, offset := 0, embedded := false, tag := "", pkgPath := "", byteOffset := 0 }, { name := "Num", type := 3, offset := 1, embedded := false, tag := "", pkgPath := "", byteOffset := 8 }, { name := "Text", type := 9, offset := 2, embedded := false, tag := "", pkgPath := "", byteOffset := 16 }] ((show Tryd.prog.underlying 27 = Tryd.prog.underlying 26 by kernel_rfl).trans Tryd.underlying26) (by kernel_rfl) (.cons (.int .i64) (.pair (.int .i64) .str) 0 _ _ rfl (by kernel_rfl) tyT3 (.cons (.int .i64) .str 1 _ _ rfl (by kernel_rfl) tyT3 (.one .str 2 _ rfl (by kernel_rfl) tyT9)))
theorem tyT22 : TyT Tryd.prog (.sl (.pair (.int .i64) (.pair (.int .i64) .str))) 22 := .sl (.pair (.int .i64) (.pair (.int .i64) .str)) 22 27 (Tryd.underlying22) (by kernel_rfl) (by decide) (by decide +kernel) (by decide +kernel) tyT27
theorem tyT31 : TyT Tryd.prog (.pair (.int .i64) (.pair .str (.pair (.int .i64) (.pair (.int .i64) .str)))) 31 := .struct (.pair (.int .i64) (.pair .str (.pair (.int .i64) (.pair (.int .i64) .str)))) 31 #[{ name := "Kind", type := 3, offset := 0, embedded := false, tag := "", pkgPath := "", byteOffset := 0 }, { name := "Name", type := 9, offset := 1, embedded := false, tag := "", pkgPath := "", byteOffset := 8 }, { name := "Cap", type := 27, offset := 2, embedded := false, tag := "", pkgPath := "", byteOffset := 24 }] ((show Tryd.prog.underlying 31 = Tryd.prog.underlying 30 by kernel_rfl).trans Tryd.underlying30) (by kernel_rfl) (.cons (.int .i64) (.pair .str (.pair (.int .i64) (.pair (.int .i64) .str))) 0 _ _ rfl (by kernel_rfl) tyT3 (.cons .str (.pair (.int .i64) (.pair (.int .i64) .str)) 1 _ _ rfl (by kernel_rfl) tyT9 (.one (.pair (.int .i64) (.pair (.int .i64) .str)) 2 _ rfl (by kernel_rfl) tyT27)))
theorem tyT23 : TyT Tryd.prog (.sl (.pair (.int .i64) (.pair .str (.pair (.int .i64) (.pair (.int .i64) .str))))) 23 := .sl (.pair (.int .i64) (.pair .str (.pair (.int .i64) (.pair (.int .i64) .str)))) 23 31 (Tryd.underlying23) (by kernel_rfl) (by decide) (by decide +kernel) (by decide +kernel) tyT31
theorem tyT25 : TyT Tryd.prog (.pair .str (.pair .bool (.pair (.sl (.pair (.int .i64) (.pair (.int .i64) .str))) (.pair (.sl (.pair (.int .i64) (.pair (.int .i64) .str))) (.pair (.sl (.pair (.int .i64) (.pair (.int .i64) .str))) (.sl (.pair (.int .i64) (.pair .str (.pair (.int .i64) (.pair (.int .i64) .str)))))))))) 25 := .struct (.pair .str (.pair .bool (.pair (.sl (.pair (.int .i64) (.pair (.int .i64) .str))) (.pair (.sl (.pair (.int .i64) (.pair (.int .i64) .str))) (.pair (.sl (.pair (.int .i64) (.pair (.int .i64) .str))) (.sl (.pair (.int .i64) (.pair .str (.pair (.int .i64) (.pair (.int .i64) .str)))))))))) 25 #[{ name := "Names", type := 9, offset := 0, embedded := false, tag := "", pkgPath := "", byteOffset := 0 }, { name := "Wide", type := 4, offset := 1, embedded := false, tag := "", pkgPath := "", byteOffset := 16 }, { name := "Bools", type := 22, offset := 2, embedded := false, tag := "", pkgPath := "", byteOffset := 24 }, { name := "Nums", type := 22, offset := 3, embedded := false, tag := "", pkgPath := "", byteOffset := 48 }, { name := "Strs", type := 22, offset := 4, embedded := false, tag := "", pkgPath := "", byteOffset := 72 }, { name := "Exts", type := 23, offset := 5, embedded := false, tag := "", pkgPath := "", byteOffset := 96 }] ((show Tryd.prog.underlying 25 = Tryd.prog.underlying 24 by kernel_rfl).trans Tryd.underlying24) (by kernel_rfl) (.cons .str (.pair .bool (.pair (.sl (.pair (.int .i64) (.pair (.int .i64) .str))) (.pair (.sl (.pair (.int .i64) (.pair (.int .i64) .str))) (.pair (.sl (.pair (.int .i64) (.pair (.int .i64) .str))) (.sl (.pair (.int .i64) (.pair .str (.pair (.int .i64) (.pair (.int .i64) .str))))))))) 0 _ _ rfl (by kernel_rfl) tyT9 (.cons .bool (.pair (.sl (.pair (.int .i64) (.pair (.int .i64) .str))) (.pair (.sl (.pair (.int .i64) (.pair (.int .i64) .str))) (.pair (.sl (.pair (.int .i64) (.pair (.int .i64) .str))) (.sl (.pair (.int .i64) (.pair .str (.pair (.int .i64) (.pair (.int .i64) .str)))))))) 1 _ _ rfl (by kernel_rfl) tyT4 (.cons (.sl (.pair (.int .i64) (.pair (.int .i64) .str))) (.pair (.sl (.pair (.int .i64) (.pair (.int .i64) .str))) (.pair (.sl (.pair (.int .i64) (.pair (.int .i64) .str))) (.sl (.pair (.int .i64) (.pair .str (.pair (.int .i64) (.pair (.int .i64) .str))))))) 2 _ _ rfl (by kernel_rfl) tyT22 (.cons (.sl (.pair (.int .i64) (.pair (.int .i64) .str))) (.pair (.sl (.pair (.int .i64) (.pair (.int .i64) .str))) (.sl (.pair (.int .i64) (.pair .str (.pair (.int .i64) (.pair (.int .i64) .str)))))) 3 _ _ rfl (by kernel_rfl) tyT22 (.cons (.sl (.pair (.int .i64) (.pair (.int .i64) .str))) (.sl (.pair (.int .i64) (.pair .str (.pair (.int .i64) (.pair (.int .i64) .str))))) 4 _ _ rfl (by kernel_rfl) tyT22 (.one (.sl (.pair (.int .i64) (.pair .str (.pair (.int .i64) (.pair (.int .i64) .str))))) 5 _ rfl (by kernel_rfl) tyT23))))))
def cA1 : CTy := (.pair .str (.pair .bool (.pair (.sl (.pair (.int .i64) (.pair (.int .i64) .str))) (.pair (.sl (.pair (.int .i64) (.pair (.int .i64) .str))) (.pair (.sl (.pair (.int .i64) (.pair (.int .i64) .str))) (.sl (.pair (.int .i64) (.pair .str (.pair (.int .i64) (.pair (.int .i64) .str))))))))))
theorem arg1 : ArgT Tryd.prog 25 cA1 true := ⟨tyT25, ⟨fun _ => ⟨_, (show Tryd.prog.underlying 25 = Tryd.prog.underlying 24 by kernel_rfl).trans Tryd.underlying24⟩, fun _ => rfl⟩, ⟨by kernel_rfl, by decide +kernel⟩⟩
def cA2 : CTy := .str
theorem arg2 : ArgT Tryd.prog 9 cA2 false := ⟨tyT9, ⟨fun h => (by cases h), fun ⟨fs, h⟩ => by rw [show Tryd.prog.underlying 9 = _ from Tryd.underlying9] at h; cases h⟩, ⟨by kernel_rfl, by decide +kernel⟩⟩
def cA3 : CTy := (.pair (.int .i64) (.pair (.int .i64) .str))
theorem arg3 : ArgT Tryd.prog 27 cA3 true := ⟨tyT27, ⟨fun _ => ⟨_, (show Tryd.prog.underlying 27 = Tryd.prog.underlying 26 by kernel_rfl).trans Tryd.underlying26⟩, fun _ => rfl⟩, ⟨by kernel_rfl, by decide +kernel⟩⟩
theorem calls (x : cA1.den) (y : cA2.den) (z : cA3.den) (hx : big 140737488355328 cA1 x) (hy : big 140737488355328 cA2 y) (hz : big 140737488355328 cA3 z) : ACalls Tryd.prog 3 [argA true cA1 x, argA false cA2 y, argA true cA3 z] ⟨[], []⟩ fun out m' => out = .ret (.bool true) := by
  obtain ⟨k, m, hk⟩ := plain_law x y z hx hy hz
  refine ((ok_lanyardlaw03_TinfoOwn k m).2 (x, y, z) true hk).mono ?_
  rintro out m' ⟨q, s, ⟨rfl, rfl⟩, _, ⟨_, rfl⟩ | ⟨h, _⟩⟩
  · rfl
  · cases h
theorem contract (H : Type) (enc : TypeId × Value → H) (W : World) (base : Nat) (args : Array Value) (ds gs : List (DataW H)) (before : List MemPlace)
    (hval : ∀ (j : Nat) t v, Tryd.f3.params[j]? = some t → args[j]? = some v → Value.okWide Tryd.prog W .any base t v)
    (hW : DataW.Whole enc Tryd.prog Tryd.f3.params.toList Rows.tinfoOwnSpec.vars false W args.toList ds gs before) (hw : (DataW.weightsEach Tryd.prog (Tryd.f3.params.toList ++ (OpenSpec.ofChange Rows.tinfoOwnSpec).bare.plain.varTypes Tryd.prog) (ds ++ gs)).all (· ≤ reachBytes) = true) (hL : laidMetH Tryd.prog Rows.tinfoOwnRow.laid W) (hS : W.ShapedOpen Tryd.prog) :
    Calls Tryd.prog 3 args W fun e W' => ∃ v, e = .returned v ∧ Rows.tinfoOwnSpec.post enc Tryd.prog Tryd.f3 false true false false W args v W' := by
  refine row3 (P := Tryd.prog) (n := 140737488355328) (c1 := cA1) (a1 := true) (t1 := 25) (c2 := cA2) (a2 := false) (t2 := 9) (c3 := cA3) (a3 := true) (t3 := 27) (tb := 4) (by kernel_rfl) Tryd.params3 (by kernel_rfl) Tryd.underlying4 rfl (fun l hl => ?_) arg1 arg2 arg3 calls trivial (okF hL hS) hval hW (fun i t d hi hd => Nat.le_trans (bulk_at (i := i) hw (by rw [List.getElem?_append_left (List.getElem?_eq_some_iff.1 hi).1]; exact hi) (by rw [List.getElem?_append_left (List.getElem?_eq_some_iff.1 hd).1]; exact hd)) (by decide +kernel))
  match l, hl with
  | [d1, d2, d3], _ => rfl
def wargs : Array Value := #[.agg #[.string ⟨#[]⟩, .bool false, .slice none 0 0, .slice none 0 0, .slice none 0 0, .slice none 0 0], .string ⟨#[]⟩, .agg #[.int .i64 0, .int .i64 0, .string ⟨#[]⟩]]
theorem laid_met (os : Os) : laidMet Tryd.prog Rows.tinfoOwnRow.laid ((World.laidAll Tryd.prog os Rows.tinfoOwnRow.laid).forCall (fun _ _ => 0) ⟨#[], wargs, []⟩).memory :=
  laidMet_laidAll wargs (by kernel_rfl) (by kernel_rfl)
theorem reads (os : Os) {H : Type} (enc : TypeId × Value → H) : ∃ places, DataW.whole enc Tryd.prog ((World.laidAll Tryd.prog os Rows.tinfoOwnRow.laid).forCall (fun _ _ => 0) ⟨#[], wargs, []⟩).memory Tryd.f3.params.toList Rows.tinfoOwnSpec.vars false wargs.toList 8 = some ([.agg [.lit (.string []), .lit (.bool false), .nil, .nil, .nil, .nil], .lit (.string []), .agg [.lit (.int .i64 0), .lit (.int .i64 0), .lit (.string [])]], [], places) :=
  ⟨[], by kernel_rfl⟩
theorem lifted (os : Os) (started : os.Started) (H : Type) (enc : TypeId × Value → H) (F : Stop.Interp) :
    ReturnsInHanded {} Tryd.checked os 3 .any ((OpenSpec.ofChange Rows.tinfoOwnSpec).preRow enc Tryd.prog Tryd.f3 Rows.tinfoOwnRow.domain false Rows.tinfoOwnRow.laid) (((OpenSpec.ofChange Rows.tinfoOwnSpec).at F).post enc Tryd.prog Tryd.f3 false true false false) := by
  obtain ⟨places, hx⟩ := reads os enc
  refine returnsInHanded_of_row (C := Tryd.checked) (s := OpenSpec.ofChange Rows.tinfoOwnSpec) own started (by kernel_rfl) Tryd.func3
    (witness_row_atRef (enc := enc) (C := Tryd.checked) false (World.laidAll Tryd.prog os Rows.tinfoOwnRow.laid) wargs (World.laidAll_os _ _ _) (by kernel_rfl) (by kernel_rfl) (by kernel_rfl)
      (OpenSpec.preRow_of_cond 8 hx (by kernel_rfl) (fun k hk => by cases hk) (by kernel_rfl) (laid_met os))) ?_
  intro W base args ds gs before hval hW _ _ hw hL hS _
  exact contract H enc W base args ds gs before hval hW hw hL hS
theorem said : Rows.TinfoOwnSaid :=
  OpenClaim.holds_of_cond 3 Tryd.f3 rfl rfl rfl rfl rfl rfl rfl ⟨rfl, rfl, rfl, rfl, rfl⟩ rfl rfl rfl rfl rfl (by kernel_rfl) Tryd.func3 (by kernel_rfl)
    (of_decide_eq_true (by kernel_rfl)) (by unfold Func.isWrapper; first | (rw [if_pos (by decide +kernel)]; kernel_rfl) | (rw [if_neg (by decide +kernel)]; exact ⟨rfl, rfl⟩))
    (fun os started H enc _ F => by rw [OpenClaim.pre_eq_preRow]; exact lifted os started H enc F)
theorem plain (f : FuncId) (fn : Func) (hf : Tryd.pinned.checked.prog.funcNamed "lanyard/lanyardlaw03.TinfoOwn" = some f) (hfn : Tryd.pinned.checked.prog.funcs[f]? = some fn) :
    true = Tryd.pinned.checked.prog.looks [] ∧ ∀ (j : Nat) t, fn.params[j]? = some t → Tryd.pinned.checked.prog.wantsStandIn t = false := by
  obtain rfl : f = 3 := Option.some.inj ((show Tryd.prog.funcNamed "lanyard/lanyardlaw03.TinfoOwn" = some 3 by kernel_rfl).symm.trans hf) |>.symm
  obtain rfl : fn = Tryd.f3 := (Option.some.inj (Tryd.func3.symm.trans hfn)).symm
  refine ⟨by kernel_rfl, fun j t ht => ?_⟩
  rw [Tryd.params3] at ht
  have ht := Array.mem_of_getElem? ht
  simp only [List.mem_toArray, List.mem_cons, List.not_mem_nil, or_false] at ht
  rcases ht with rfl | rfl | rfl
  · exact (show Tryd.prog.wantsStandIn 25 = false by kernel_rfl)
  · exact (show Tryd.prog.wantsStandIn 9 = false by kernel_rfl)
  · exact (show Tryd.prog.wantsStandIn 27 = false by kernel_rfl)
theorem card : Rows.TinfoOwnCardSaid :=
  Claim7.holds_tied_plain_at .later [] _ _ _ _ said (fun _ h => by cases h) (by kernel_rfl) (fun _ h => by cases h) tinfoOwn_row_tie rfl ⟨rfl, rfl⟩ (by kernel_rfl) rfl plain (by kernel_rfl)
end Go.Proofs.YtfghjkgpbncagaaDoor.row
