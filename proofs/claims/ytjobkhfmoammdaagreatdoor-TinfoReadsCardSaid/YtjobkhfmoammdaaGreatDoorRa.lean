/- Proved: lanyardlaw03.TinfoReads answers true whatever the input and leaves it as it reads (the given statement TinfoReadsCardSaid, whole); its conditions: none but the form's own and what the given card lists. -/
import Derived.Test.YtjobkhfmoammdaaGreatDoorCards
import Derived.Test.YtjobkhfmoammdaaGreatDoorTie
import Derived.Test.YtjobkhfmoammdaaGreatDoorPd
import Derived.Test.YtjobkhfmoammdaaGreatDoorKd
import Derived.Test.YtjobkhfmoammdaaGreatDoorGf
import Derived.Deep.DeepWitnessRowRef
import Derived.Lay
set_option maxRecDepth 100000
namespace Go.Proofs.YtjobkhfmoammdaaGreatDoor.row
open Go.ChangeShapes Go.WideShapes Go.ChangeAt Go.RowKit Go.Av
theorem own : ownKnob Tryz.prog.godebug = none := by kernel_rfl
theorem laid_tail {P : Program} {W : World} {n : String} {d : DataW Unit} {r : List (String × DataW Unit)} (h : laidMet P ((n, d) :: r) W) : laidMet P r W := by
  obtain ⟨ps, ⟨g, t, cs, fuel, p, q, _, _, _, _, hr, rfl⟩, hnd, hc⟩ := h
  exact ⟨q, hr, (List.nodup_append.1 hnd).2.1, fun b off hm => hc b off (List.mem_append_right _ hm)⟩
theorem gAscii : Tryz.prog.globalNamed "strings.asciiSpace" = some 1 := by kernel_rfl
theorem gAsciiType : (Tryz.prog.globals[1]?).map (·.type) = some 115 := by kernel_rfl
theorem ascii_is {W : World} (h : laidMetH Tryz.prog Rows.tinfoReadsRow.laid W) : Lib.TabIs Tryz.prog W "strings.asciiSpace" .u8 Lib.asciiSpaceTab := by
  have h : laidMet Tryz.prog Rows.tinfoReadsRow.laid W := h
  have h := laid_tail (laid_tail (laid_tail (laid_tail (laid_tail (laid_tail (laid_tail h))))))
  exact Lib.tabIs_of_head gAscii gAsciiType Tryz.underlying115 Tryz.underlying5 (by kernel_rfl) (by kernel_rfl) (rest := _) h
theorem max_is {W : World} (h : W.ShapedOpen Tryz.prog) : ∃ m t, W.heap[0]? = some (.cells #[.int .i64 m] t (0, 0)) := by
  obtain ⟨m, hm⟩ := int_global (g := 0) (t := 3) (zero := #[.int .i64 0]) (k := .i64) h (by decide +kernel) (by kernel_rfl) rfl (by kernel_rfl) (by kernel_rfl) Tryz.underlying3
  exact ⟨m, 3, hm⟩
theorem okF {W : World} (h : laidMetH Tryz.prog Rows.tinfoReadsRow.laid W) (hs : W.ShapedOpen Tryz.prog) : Tab.okF fun b => W.heap[b]? := by
  refine ⟨max_is hs, ?_⟩
  have := ascii_is h
  unfold Lib.TabIs World.var? at this
  rw [gAscii] at this
  obtain ⟨t, fr, hh⟩ : ∃ t fr, W.heap[1]? = some (.cells ((Lib.asciiSpaceTab.map fun z => Value.int .u8 z).toArray) t fr) := by
    simp only [Option.bind_some] at this
    split at this
    · rename_i cs t fr hc
      injection this with this
      exact ⟨t, fr, by rw [hc, this]⟩
    · cases this
  exact ⟨t, fr, hh⟩
def cA : CTy := .sl (.int .u8)
theorem tyA : TyT Tryz.prog cA 22 := .sl (.int .u8) 22 5 Tryz.underlying22 (by kernel_rfl) (by decide) (by decide +kernel) (.int .u8 5 Tryz.underlying5)
theorem calls (x : cA.den) (hx : big 140737488355328 cA x) : ACalls Tryz.prog 3 [argA false cA x] ⟨[], []⟩ fun out m' => out = .ret (.bool true) := by
  obtain ⟨k, m, hk⟩ := plain_law x hx
  refine ((ok_lanyardlaw03_TinfoReads k m).2 x true hk).mono ?_
  rintro out m' ⟨q, s, ⟨rfl, rfl⟩, _, ⟨_, rfl⟩ | ⟨h, _⟩⟩
  · rfl
  · cases h
theorem contract (H : Type) (enc : TypeId × Value → H) (W : World) (base : Nat) (args : Array Value) (ds gs : List (DataW H)) (before : List MemPlace)
    (hval : ∀ (j : Nat) t v, Tryz.f3.params[j]? = some t → args[j]? = some v → Value.okWide Tryz.prog W .any base t v)
    (hW : DataW.Whole enc Tryz.prog Tryz.f3.params.toList Rows.tinfoReadsSpec.vars false W args.toList ds gs before) (hw : (DataW.weightsEach Tryz.prog (Tryz.f3.params.toList ++ (OpenSpec.ofChange Rows.tinfoReadsSpec).bare.plain.varTypes Tryz.prog) (ds ++ gs)).all (· ≤ reachBytes) = true) (hL : laidMetH Tryz.prog Rows.tinfoReadsRow.laid W) (hS : W.ShapedOpen Tryz.prog) :
    Calls Tryz.prog 3 args W fun e W' => ∃ v, e = .returned v ∧ Rows.tinfoReadsSpec.post enc Tryz.prog Tryz.f3 false true false false W args v W' := by
  refine row1 (P := Tryz.prog) (n := 140737488355328) (c := cA) (agg := false) (t := 22) (tb := 4) (by kernel_rfl) Tryz.params3 (by kernel_rfl) ⟨by kernel_rfl, by decide +kernel⟩ Tryz.underlying4 rfl (fun l hl => ?_) tyA ⟨fun h => (by cases h), fun ⟨fs, h⟩ => by rw [Tryz.underlying22] at h; cases h⟩ calls trivial (okF hL hS) hval hW (fun i t d hi hd => Nat.le_trans (bulk_at (i := i) hw (by rw [List.getElem?_append_left (List.getElem?_eq_some_iff.1 hi).1]; exact hi) (by rw [List.getElem?_append_left (List.getElem?_eq_some_iff.1 hd).1]; exact hd)) (by decide +kernel))
  match l, hl with
  | [d], _ => rfl
def wargs : Array Value := #[.slice none 0 0]
theorem laid_met (os : Os) : laidMet Tryz.prog Rows.tinfoReadsRow.laid ((World.laidAll Tryz.prog os Rows.tinfoReadsRow.laid).forCall (fun _ _ => 0) ⟨#[], wargs, []⟩).memory :=
  laidMet_laidAll wargs (by kernel_rfl) (by kernel_rfl)
theorem reads (os : Os) {H : Type} (enc : TypeId × Value → H) : ∃ places, DataW.whole enc Tryz.prog ((World.laidAll Tryz.prog os Rows.tinfoReadsRow.laid).forCall (fun _ _ => 0) ⟨#[], wargs, []⟩).memory Tryz.f3.params.toList Rows.tinfoReadsSpec.vars false wargs.toList 8 = some ([.nil], [], places) :=
  ⟨[], by kernel_rfl⟩
theorem lifted (os : Os) (started : os.Started) (H : Type) (enc : TypeId × Value → H) (F : Stop.Interp) :
    ReturnsInHanded {} Tryz.checked os 3 .any ((OpenSpec.ofChange Rows.tinfoReadsSpec).preRow enc Tryz.prog Tryz.f3 Rows.tinfoReadsRow.domain false Rows.tinfoReadsRow.laid) (((OpenSpec.ofChange Rows.tinfoReadsSpec).at F).post enc Tryz.prog Tryz.f3 false true false false) := by
  obtain ⟨places, hx⟩ := reads os enc
  refine returnsInHanded_of_row (C := Tryz.checked) (s := OpenSpec.ofChange Rows.tinfoReadsSpec) own started (by kernel_rfl) Tryz.func3
    (witness_row_atRef (enc := enc) (C := Tryz.checked) false (World.laidAll Tryz.prog os Rows.tinfoReadsRow.laid) wargs (World.laidAll_os _ _ _) (by kernel_rfl) (by kernel_rfl) (by kernel_rfl)
      (OpenSpec.preRow_of_cond 8 hx (by kernel_rfl) (fun k hk => by cases hk) (by kernel_rfl) (laid_met os))) ?_
  intro W base args ds gs before hval hW _ _ hw hL hS _
  exact contract H enc W base args ds gs before hval hW hw hL hS
theorem said : Rows.TinfoReadsSaid :=
  OpenClaim.holds_of_cond 3 Tryz.f3 rfl rfl rfl rfl rfl rfl rfl ⟨rfl, rfl, rfl, rfl, rfl⟩ rfl rfl rfl rfl rfl (by kernel_rfl) Tryz.func3 (by kernel_rfl)
    (of_decide_eq_true (by kernel_rfl)) (by unfold Func.isWrapper; first | (rw [if_pos (by decide +kernel)]; kernel_rfl) | (rw [if_neg (by decide +kernel)]; exact ⟨rfl, rfl⟩))
    (fun os started H enc _ F => by rw [OpenClaim.pre_eq_preRow]; exact lifted os started H enc F)
theorem plain (f : FuncId) (fn : Func) (hf : Tryz.pinned.checked.prog.funcNamed "lanyard/lanyardlaw03.TinfoReads" = some f) (hfn : Tryz.pinned.checked.prog.funcs[f]? = some fn) :
    true = Tryz.pinned.checked.prog.looks [] ∧ ∀ (j : Nat) t, fn.params[j]? = some t → Tryz.pinned.checked.prog.wantsStandIn t = false := by
  obtain rfl : f = 3 := Option.some.inj ((show Tryz.prog.funcNamed "lanyard/lanyardlaw03.TinfoReads" = some 3 by kernel_rfl).symm.trans hf) |>.symm
  obtain rfl : fn = Tryz.f3 := (Option.some.inj (Tryz.func3.symm.trans hfn)).symm
  refine ⟨by kernel_rfl, fun j t ht => ?_⟩
  rw [Tryz.params3] at ht
  obtain rfl : t = 22 := by simpa using Array.mem_of_getElem? ht
  exact (show Tryz.prog.wantsStandIn 22 = false by kernel_rfl)
theorem card : Rows.TinfoReadsCardSaid :=
  Claim7.holds_tied_plain_at .later [] _ _ _ _ said (fun _ h => by cases h) (by kernel_rfl) (fun _ h => by cases h) tinfoReads_row_tie rfl ⟨rfl, rfl⟩ (by kernel_rfl) rfl plain (by kernel_rfl)
end Go.Proofs.YtjobkhfmoammdaaGreatDoor.row
