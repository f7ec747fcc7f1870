/- Joined texts: Pd. -/
import Derived.Test.YtfghjkgpbncagaaDoorPa
import Derived.Test.YtfghjkgpbncagaaDoorVc
import Derived.Test.YtfghjkgpbncagaaDoorVd
import Derived.Test.YtfghjkgpbncagaaDoorVe
import Derived.Test.YtfghjkgpbncagaaDoorGf
set_option linter.unusedVariables false
set_option linter.unusedSimpArgs false
set_option maxRecDepth 100000
set_option maxHeartbeats 1000000
namespace Go.Proofs.YtfghjkgpbncagaaDoor
open Go.RowKit Go.Av Go.Proofs
theorem same_v : F_lanyardref03_Same 300 (X.last.1, (X.last.2.1, X.last.2.2)) RX.last = some true := by kernel_rfl
theorem last_len : X.last.2.2.2.2.1.length ≤ 200 := by decide +kernel
theorem law_of {k M : Nat} (hk : 1000 ≤ k) (hM : M < k) (hM0 : 165 ≤ M) (hM' : M ≤ 4398046511104) {x : TermT} {y : Str} {z : CapT} {o r : TermT} (h0 : x.2.2.1.length * 32 ≤ 140737488355328) (h1 : x.2.2.2.1.length * 32 ≤ 140737488355328) (h2 : x.2.2.2.2.1.length * 32 ≤ 140737488355328) (h3 : x.2.2.2.2.2.length * 56 ≤ 140737488355328) (hL : LenR M x.2.2) (m : Nat)
    (hs : F_tinfo_Shipped m [120, 116, 101, 114, 109] = some (((o.1, o.2.1), true), o.2.2)) (ho : o.2.2.2.2.1.length ≤ 200) (hr : F_lanyardref03_Shipped m [120, 116, 101, 114, 109] = some (r, true)) (hl : F_lanyardlaw03_live m = some true) (he : F_lanyardref03_Same m (o.1, (o.2.1, o.2.2)) r = some true) : F_lanyardlaw03_TinfoOwn k m x y z = some true := by
  obtain ⟨l0, l1, l2, l3⟩ := id hL
  obtain ⟨z5, e5, L5⟩ := set_own hk hM hM0 hM' x y z h0 h1 h2 h3 hL
  obtain ⟨r1, e1, v, rfl, hv⟩ := wr1 (k := k) (m := m) (x := x) (y := x) (b := z5.1.1) (w := z5.2) (by omega) hM hM' L5
  obtain ⟨v0, v1, v2, v3⟩ := v
  obtain ⟨r2, e2, rfl⟩ := wr5 (k := k) (m := m) (x := x) (y := x) (b := z5.1.1) (w0 := v0) (w1 := v1) (w2 := v2) (w3 := v3) (by have := hv.2.2.2; simp only at this; omega) (by have := hv.2.2.2; simp only at this; omega)
  obtain ⟨r3, e3, rfl⟩ := wr6 (k := k) (m := m) (x := x) (y := x) (b := (o.1, o.2.1)) (w0 := o.2.2.1) (w1 := o.2.2.2.1) (w2 := o.2.2.2.2.1) (w3 := o.2.2.2.2.2) (by omega) (by omega)
  unfold F_lanyardlaw03_TinfoOwn
  simp only [F_slices_Clone_Cap, F_slices_Clone_Ext, K_slices_Clone_Cap, K_slices_Clone_Ext, Nat.zero_add, room_t h0, room_t h1, room_t h2, room_t h3, cond_true, Option.bind_some, e5, e1, e2, hs, e3, hr, hl, eqc (k := k) (l := x.2.2.1) (by omega) (by omega), eqc (k := k) (l := x.2.2.2.1) (by omega) (by omega), eqc (k := k) (l := x.2.2.2.2.1) (by omega) (by omega), eqx (k := k) (l := x.2.2.2.2.2) (by omega) (by omega), he]
theorem plain_law (x : TermT) (y : Str) (z : CapT) (hx : big 140737488355328 (.pair .str (.pair .bool (.pair (.sl (.pair (.int .i64) (.pair (.int .i64) .str))) (.pair (.sl (.pair (.int .i64) (.pair (.int .i64) .str))) (.pair (.sl (.pair (.int .i64) (.pair (.int .i64) .str))) (.sl (.pair (.int .i64) (.pair .str (.pair (.int .i64) (.pair (.int .i64) .str)))))))))) x) (hy : big 140737488355328 .str y) (hz : big 140737488355328 (.pair (.int .i64) (.pair (.int .i64) .str)) z) : ∃ k m, F_lanyardlaw03_TinfoOwn k m x y z = some true := by
  obtain ⟨_, _, ⟨_, _, h0⟩, ⟨_, _, h1⟩, ⟨_, _, h2⟩, ⟨_, _, h3⟩⟩ := hx
  have h0 : x.2.2.1.length * 32 ≤ 140737488355328 := h0
  have h1 : x.2.2.2.1.length * 32 ≤ 140737488355328 := h1
  have h2 : x.2.2.2.2.1.length * 32 ≤ 140737488355328 := h2
  have h3 : x.2.2.2.2.2.length * 56 ≤ 140737488355328 := h3
  exact ⟨4398046511105, 300, law_of (M := 4398046511104) (by omega) (by omega) (by omega) (by omega) h0 h1 h2 h3 ⟨by omega, by omega, by omega, by omega⟩ 300 X.last_v last_len RX.rship_v V.live_v same_v⟩
end Go.Proofs.YtfghjkgpbncagaaDoor
