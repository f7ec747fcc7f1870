/- Joined texts: Gf. -/
import Derived.Test.YtfghjkgpbncagaaDoorGe
import Derived.KernelRfl
import Derived.ChangeArms
import Derived.Carry
import Derived.ChangeSame
import Derived.RowKit
import Derived.Recover
import Derived.Shelf.Bytes.IndexByte
import Derived.Deep.DeepHandedRow
import Derived.OpenShut
import Derived.WideShapes
import Derived.Lib.LaidTab
set_option linter.unusedVariables false
set_option linter.unusedSectionVars false
set_option linter.unusedSimpArgs false
namespace Go.Av
open Go.RowKit
variable [Tab]
section
variable {P : Program} {fn : Func} {s : St}
inductive AllR (P : Program) (s : St) : List ResultVar → List AV → Prop
  | nil : AllR P s [] []
  | cons (r : ResultVar) (v : AV) (rs : List ResultVar) (vs : List AV) (h : ARes1 P r s v) (hs : AllR P s rs vs) : AllR P s (r :: rs) (v :: vs)
theorem run_mapM_list {f : ResultVar → Sem Value} {w : World} : ∀ {l : List ResultVar} {us : List Value}, l.length = us.length → (∀ (i : Nat) (r : ResultVar) (u : Value), l[i]? = some r → us[i]? = some u → (f r).run P w = .ok u w) → (l.mapM f).run P w = .ok us w
  | [], [], _, _ => by simp
  | r :: l, u :: us, hl, h => by
    rw [List.mapM_cons]
    have h1 := h 0 r u rfl rfl
    have h2 := run_mapM_list (l := l) (us := us) (by simpa using hl) fun i r' u' a b => h (i + 1) r' u' (by simpa using a) (by simpa using b)
    simp [h1, h2]
  | [], _ :: _, hl, _ => by simp at hl
  | _ :: _, [], hl, _ => by simp at hl
theorem allR_vals {G : Env} {C0 C : Cfg} {a : Act} {w : World} (hg : Gam G C0 C s a w) : ∀ {rs : List ResultVar} {vs : List AV}, AllR P s rs vs → ∃ us : List Value, rs.length = us.length ∧ (∀ (i : Nat) (r : ResultVar) (u : Value), rs[i]? = some r → us[i]? = some u → (rvar a.tmps r).run P w = .ok u w) ∧ Reps C vs us
  | _, _, .nil => ⟨[], rfl, fun i r u h => by simp at h, .nil C⟩
  | _, _, .cons r v rs vs h hs => by
    obtain ⟨us, h1, h2, h3⟩ := allR_vals hg hs
    obtain ⟨u, h4, h5⟩ := h G C0 C a w hg
    refine ⟨u :: us, by simp [h1], fun i r' u' a b => ?_, .cons h5 h3⟩
    cases i with
    | zero => simp at a b; subst a; subst b; exact h4
    | succ i => exact h2 i r' u' (by simpa using a) (by simpa using b)
def tupA : List AV → AV
  | [v] => v
  | vs => .tup vs
theorem ares_list {rs : List ResultVar} {vs : List AV} (h : fn.results = rs.toArray) (hr : AllR P s rs vs) : ARes P fn s (tupA vs) := by
  intro G C0 C a w hg
  obtain ⟨us, h1, h2, h3⟩ := allR_vals hg hr
  have hm := run_mapM_list (P := P) (f := rvar a.tmps) (w := w) h1 h2
  have hm' : (rs.toArray.mapM (rvar a.tmps)).run P w = .ok us.toArray w := by
    rw [List.mapM_toArray]
    generalize rvar a.tmps = f at hm ⊢
    simp [hm]
  refine ⟨if h : us.toArray.size = 1 then us.toArray[0] else .tuple us.toArray, ?_, ?_⟩
  · rw [results_rvar, h]
    generalize rvar a.tmps = f at hm' ⊢
    simp only [Sem.run_bind, hm', Result.andThen_ok]
    rfl
  · match vs, us, h3 with
    | [], [], h3 => exact .tup _ _ h3.1 h3.2
    | [v], [u], h3 => exact h3.2 0 v u rfl rfl
    | v1 :: v2 :: vs, u1 :: u2 :: us, h3 =>
      have : ¬ (u1 :: u2 :: us).toArray.size = 1 := by simp
      rw [dif_neg this]
      exact .tup _ _ h3.1 h3.2
    | [], u :: us, h3 => exact absurd h3.1 (by simp)
    | v :: vs, [], h3 => exact absurd h3.1 (by simp)
    | [v], u1 :: u2 :: us, h3 => exact absurd h3.1 (by simp)
    | v1 :: v2 :: vs, [u], h3 => exact absurd h3.1 (by simp)
theorem ares1_cell1 {t k off : Nat} {ty : TypeId} {bt : TypeId} {cs : List AV} {v : AV} (hp : look s.fr t = .ptr k off) (hk : s.m.blks[k]? = some (some (.cells bt cs))) (ht : (P.underlying ty).map aggD = some false) (hv : cs[off]? = some v) : ARes1 P (.cell t ty) s v := by
  intro G C0 C a w hg
  have hr := hg.fr t
  rw [hp] at hr
  obtain ⟨g, hgk, hptr⟩ := hr.ptr_inv
  obtain ⟨vs, h1, h2, h3⟩ := hg.block hk hgk
  obtain ⟨u, hu, hru⟩ := h2.at hv
  refine ⟨u, ?_, hru⟩
  have hc : w.cell? ⟨g, off, none⟩ = some u := by rw [cell_of_heap h1]; exact hu
  show (do loadVar ty (← asAddr (a.tmps.getD t undef)) : Sem Value).run P w = .ok u w
  rw [hptr]
  simp [asAddr, run_loadVar_one ht hc]
end
/-- A result, off the frame or a cell. -/
def resS (T : List (Nat × TI)) (s : SSt) : ResultVar → Option SV
  | .tmp t => some (slook s.fr t)
  | .cell t ty => (tfind T ty).bind fun i => match slook s.fr t with
    | .ptr k off => match nth s.m.blks k with
      | some (some (.cells _ cs)) => bif i.agg then (sub? cs off i.size).map .agg else nth cs off
      | _ => none
    | _ => none
def resL (T : List (Nat × TI)) (s : SSt) : List ResultVar → Option (List SV)
  | [] => some []
  | r :: rs => (resS T s r).bind fun v => (resL T s rs).map fun vs => v :: vs
def tupS : List SV → SV
  | [v] => v
  | vs => .tup vs
/-- The end of a function without deferred calls. -/
def finK (X : Cx) (rs : List ResultVar) (E : Exits) (q : XK) (s : SSt) : Option (outT E) :=
  bif isNilL s.dfs then
    (match q with
    | .panic => outOf X.fb X.ft E .panic ⟨[], s.m, [], s.pv⟩
    | .exit _ => none
    | _ => (resL X.T s rs).bind fun vs => outOf X.fb X.ft E .ret ⟨[], s.m, [], tupS vs⟩)
  else none
section
variable {P : Program} {G : Env} {C0 : Cfg} {X : Cx}
theorem resS_ok (hT : TabOk P X.T) {s : SSt} {r : ResultVar} {v : SV} {n : Nat} (h : resS X.T s r = some v) : ARes1 P r (s.av n) v.av := by
  cases r with
  | tmp t =>
    injection h with h
    subst h
    exact ares1_tmp (s := s.av n) (look_avF s.fr t)
  | cell t ty =>
    obtain ⟨i, hi, h⟩ := Option.bind_eq_some_iff.1 h
    have hi := hT.ok ty i hi
    have hagg := hi.agg
    split at h
    · rename_i k off hp
      split at h
      · rename_i bt cs hk
        rw [nth_eq] at hk
        have hp' : look (St.fr (s.av n)) t = .ptr k off := (look_avF s.fr t).trans (by rw [hp]; rfl)
        have hk' : (St.m (s.av n)).blks[k]? = some (some (.cells bt (SV.avL cs))) := avB_at hk
        cases hb : i.agg with
        | true =>
          rw [hb] at h hagg
          obtain ⟨ds, h1, rfl⟩ := Option.map_eq_some_iff.1 h
          obtain ⟨h2, h3⟩ := sub?_eq h1
          exact ares1_cell hp' hk' hagg hi.size h2 h3
        | false =>
          rw [hb] at h hagg
          exact ares1_cell1 hp' hk' hagg (nth_av h)
      · cases h
    · cases h
theorem resL_ok (hT : TabOk P X.T) {s : SSt} {n : Nat} : ∀ {rs : List ResultVar} {vs : List SV}, resL X.T s rs = some vs → AllR P (s.av n) rs (SV.avL vs)
  | [], vs, h => by injection h with h; subst h; exact .nil
  | r :: rs, vs, h => by
    obtain ⟨v, h1, h⟩ := Option.bind_eq_some_iff.1 h
    obtain ⟨vs', h2, h⟩ := Option.map_eq_some_iff.1 h
    subst h
    exact .cons r v.av rs (SV.avL vs') (resS_ok hT h1) (resL_ok hT h2)
theorem tupS_av : ∀ vs : List SV, (tupS vs).av = tupA (SV.avL vs)
  | [] => rfl
  | [v] => rfl
  | v1 :: v2 :: vs => rfl
theorem isNilL_eq {α : Type} {l : List α} (h : isNilL l = true) : l = [] := by
  cases l with
  | nil => rfl
  | cons a l => cases h
def argFrS (k : Nat) : List SV → List (Nat × SV)
  | [] => []
  | x :: xs => (k, x) :: argFrS (k + 1) xs
theorem argFr_av : ∀ (k : Nat) (l : List SV), avF (argFrS k l) = argFr k (SV.avL l)
  | k, [] => rfl
  | k, x :: xs => by
    rw [argFrS, avF, List.map_cons]
    have := argFr_av (k + 1) xs
    rw [avF] at this
    rw [this]; rfl
/-- A function keeps its contract: its body, run by its marks, comes to it. -/
theorem con_ok {c : Con} {fn : Func} {code : Code} {x : Ann} (hf : P.funcs[c.f]? = some fn) (hb : fn.body = some code) (he : enterable P c.f = true) (hn : c.I.slots.length + (fn.ntmps - c.I.slots.length) = X.n) (hfb : c.I.nb = X.fb) (hft : c.I.nt = X.ft)
    (hT : TabOk P X.T) (hcons : ∀ c ∈ X.cons, ConOk P c) (hmix : P.follows .mixedOrders = true) (hlen : ∀ z, lenL (c.I.all.mk z) = lenL c.I.slots + c.I.nd + 1 + c.I.nb + c.I.nt) (hann : AnnOk X x code)
    (hrun : ∀ z, exec X x (outT c.E) code ⟨argFrS 0 (conArgs c.I z), (c.I.mk' z).m, [], .any⟩ (finK X fn.results.toList c.E) = c.fn z) : ConOk P c := by
  refine ⟨he, fun z o ho => ?_⟩
  have h := hrun z
  rw [ho] at h
  have hl := hlen z
  simp only [lenL_eq] at hl
  have hargs : (SV.avL (conArgs c.I z)).length = c.I.slots.length := by rw [SV.avL_len]; unfold conArgs; rw [lenL_eq, List.length_take]; omega
  intro G C w vs hm hv
  have hX : CxOk P X G C := ⟨hT, hcons, by
    rw [hm.ρlen]
    show (avB (List.map _ _)).length = _
    rw [avB_len, List.length_map, List.length_take, List.length_drop, lenL_eq, ← hfb]; omega, by
    rw [hm.τlen]
    show (avLv (List.map _ _)).length = _
    rw [avLv_len, List.length_map, List.length_take, List.length_drop, lenL_eq, ← hft]; omega, hmix⟩
  refine calls_of_wp hf hb ?_
  have hvl : vs.length = c.I.slots.length := by rw [← hargs]; exact hv.1.symm
  have hg : Gam G C C ((SSt.mk (argFrS 0 (conArgs c.I z)) (c.I.mk' z).m [] .any).av X.n) { tmps := vs.toArray ++ Array.replicate (fn.ntmps - vs.toArray.size) undef, defers := [] } w := by
    refine ⟨.refl C, hm, ?_, fun i => ?_, .nil⟩
    · show _ = X.n
      simp only [Array.size_append, List.size_toArray, Array.size_replicate]
      rw [hvl]; exact hn
    show Rep C (look (avF (argFrS 0 (conArgs c.I z))) i) _
    rw [argFr_av, look_argFr, if_pos (Nat.zero_le _), Nat.sub_zero]
    cases hx : (SV.avL (conArgs c.I z))[i]? with
    | none => exact .any _
    | some x =>
      obtain ⟨v, hv', hr⟩ := hv.at hx
      have hlt : i < vs.length := (List.getElem?_eq_some_iff.1 hv').1
      have : (vs.toArray ++ Array.replicate (fn.ntmps - vs.toArray.size) undef).getD i undef = v := by
        rw [Array.getD_eq_getD_getElem?, Array.getElem?_append_left (by simpa using hlt)]
        simp [hv']
      rw [Option.getD_some]
      rw [this]
      exact hr
  refine wp_mono (exec_ok hX x (outT c.E) code _ _ o h hann C _ w hg) ?_
  rintro en a' w' ⟨x', st, C', ⟨q, ss, hq, hx⟩, hre, hg'⟩
  unfold finK at hq
  cases hd : isNilL ss.dfs with
  | false => rw [hd] at hq; cases hq
  | true =>
    rw [hd, cond_true] at hq
    have hd := isNilL_eq hd
    -- an answer
    have ans : ((resL X.T ss fn.results.toList).bind fun vs => outOf X.fb X.ft c.E .ret ⟨[], ss.m, [], tupS vs⟩) = some o → To G C st (ss.av X.n) → a'.defers = [] ∧ ∃ v, (results fn a'.tmps).run P w' = .ok v w' ∧ ∃ out m' C', conPost c.E o out m' ∧ RepOut C' out (.returned v) ∧ C.Le C' ∧ MemOk G C' m' w' := fun hq hto => by
      obtain ⟨rs, hrs, hq⟩ := Option.bind_eq_some_iff.1 hq
      obtain ⟨C2, hg2⟩ := hto C' a' w' hg'
      obtain ⟨u, hu, hru⟩ := ares_list (fn := fn) (by simp) (resL_ok hT (n := X.n) hrs) G C C2 a' w' hg2
      have hdf : a'.defers = [] := by
        have := hg2.dfs
        rw [show (St.dfs (ss.av X.n)) = [] by show SV.avL ss.dfs = []; rw [hd]; rfl] at this
        cases h : a'.defers with
        | nil => rfl
        | cons d ds => rw [h] at this; cases this
      obtain ⟨s', h1, h2⟩ := outOf_ok (G := G) (C0 := C) (n := X.n) hX.fb hX.ft hq
      have hg3 : Gam G C C2 ((SSt.mk [] ss.m [] (tupS rs)).av X.n) a' w' := ⟨hg2.le, hg2.mem, hg2.size, fun i => .any _, by rw [hdf]; exact .nil⟩
      obtain ⟨C3, hg4, hp⟩ := h2 C2 a' w' hg3
      refine ⟨hdf, u, hu, .ret s'.pv.av, s'.m.av, C3, ⟨_, _, h1, rfl, .inl ⟨rfl, rfl⟩⟩, .ret _ _ (hp u ?_), hg4.le, hg4.mem⟩
      show Rep C2 (tupS rs).av u
      rw [tupS_av]; exact hru
    cases q with
    | normal =>
      obtain ⟨rfl, hto⟩ := hx
      cases hre
      exact ans hq hto
    | ret =>
      obtain ⟨rfl, hto⟩ := hx
      cases hre
      exact ans hq hto
    | exit i => cases hq
    | panic =>
      obtain ⟨rfl, rfl⟩ := hx
      cases hre with
      | panic _ v hv old ho =>
        have hdf : a'.defers = [] := by
          have := hg'.dfs
          rw [show (St.dfs (ss.av X.n)) = [] by show SV.avL ss.dfs = []; rw [hd]; rfl] at this
          cases h : a'.defers with
          | nil => rfl
          | cons d ds => rw [h] at this; cases this
        obtain ⟨s', h1, h2⟩ := outOf_ok (G := G) (C0 := C) (n := X.n) hX.fb hX.ft hq
        have hg3 : Gam G C C' ((SSt.mk [] ss.m [] ss.pv).av X.n) a' w' := ⟨hg'.le, hg'.mem, hg'.size, fun i => .any _, by rw [hdf]; exact .nil⟩
        obtain ⟨C3, hg4, hp⟩ := h2 C' a' w' hg3
        exact ⟨hdf, .pan s'.pv.av, s'.m.av, C3, ⟨_, _, h1, rfl, .inr ⟨rfl, rfl⟩⟩, .pan _ _ (hp v hv) old ho, hg4.le, hg4.mem⟩
end
end Go.Av
set_option linter.unusedVariables false
set_option linter.unusedSectionVars false
set_option linter.unusedSimpArgs false
namespace Go.Av
open Go.RowKit
variable [Tab]
theorem opt_dup {α : Type} : ∀ o : Option α, (o.bind fun u => o.map fun v => (u, v)) = o.map fun o => (o, o)
  | none => rfl
  | some _ => rfl
theorem allC_nil {P : Program} : ∀ c ∈ ([] : List Con), ConOk P c := fun c h => nomatch h
theorem allC_cons {P : Program} {c : Con} {l : List Con} (h : ConOk P c) (t : ∀ d ∈ l, ConOk P d) : ∀ d ∈ c :: l, ConOk P d := fun d hd => by
  cases hd with
  | head => exact h
  | tail _ hd => exact t d hd
def AllT (P : Program) (T : List (Nat × TI)) : List (Nat × TI) → Prop
  | [] => True
  | p :: r => TIOk P T p.1 p.2 ∧ AllT P T r
theorem allT_find {P : Program} {T : List (Nat × TI)} : ∀ {l : List (Nat × TI)}, AllT P T l → ∀ t i, tfind l t = some i → TIOk P T t i
  | [], _, t, i, h => nomatch h
  | (j, v) :: r, ha, t, i, h => by
    rw [tfind] at h
    cases hb : Nat.beq j t with
    | true =>
      rw [hb, cond_true] at h
      injection h with h
      subst h
      have := Nat.eq_of_beq_eq_true hb
      subst this
      exact ha.1
    | false =>
      rw [hb, cond_false] at h
      exact allT_find ha.2 t i h
def AllE (P : Program) : List (Nat × TI) → Prop
  | [] => True
  | p :: r => (p.2.eqs = true → p.2.code.scal = true ∧ EqOk P p.1 p.2.code) ∧ AllE P r
theorem allE_find {P : Program} : ∀ {l : List (Nat × TI)}, AllE P l → ∀ t i, tfind l t = some i → i.eqs = true → i.code.scal = true ∧ EqOk P t i.code
  | [], _, t, i, h => nomatch h
  | (j, v) :: r, ha, t, i, h => by
    rw [tfind] at h
    cases hb : Nat.beq j t with
    | true =>
      rw [hb, cond_true] at h
      injection h with h
      subst h
      have := Nat.eq_of_beq_eq_true hb
      subst this
      exact ha.1
    | false =>
      rw [hb, cond_false] at h
      exact allE_find ha.2 t i h
theorem tabOk_of {P : Program} {T : List (Nat × TI)} (h : AllT P T T) (h' : AllE P T) : TabOk P T := ⟨fun t i => allT_find h t i, fun t i => allE_find h' t i⟩
theorem elem_of {P : Program} {T : List (Nat × TI)} {t e bytes : Nat} {j0 : TI} (h : tfind T e = some j0) (he : Elem P t e j0.size bytes) : ∀ j, tfind T e = some j → Elem P t e j.size bytes := fun j hj => by
  rw [h] at hj
  injection hj with hj
  subst hj
  exact he
def AllF (P : Program) : List (Nat × Nat) → List Field → Prop
  | [], _ => True
  | p :: pl, fl :: fs => (∀ (a : Addr) (w : World), (fieldPlace a fl).run P w = .ok (a.add p.1) w) ∧ AllF P pl fs
  | _, _ => False
theorem allF_at {P : Program} : ∀ {pl : List (Nat × Nat)} {fs : List Field}, AllF P pl fs → ∀ (f off sz : Nat), pl[f]? = some (off, sz) → ∃ fl, fs.toArray[f]? = some fl ∧ ∀ (a : Addr) (w : World), (fieldPlace a fl).run P w = .ok (a.add off) w
  | [], _, _, f, off, sz, h => by simp at h
  | p :: pl, [], h, _, _, _, _ => h.elim
  | p :: pl, fl :: fs, h, 0, off, sz, hq => by
    simp only [List.getElem?_cons_zero, Option.some.injEq] at hq
    subst hq
    exact ⟨fl, by simp, h.1⟩
  | p :: pl, fl :: fs, h, f + 1, off, sz, hq => by
    obtain ⟨fl', h1, h2⟩ := allF_at h.2 f off sz (by simpa using hq)
    exact ⟨fl', by simpa using h1, h2⟩
theorem eqOk_of {P : Program} {t : TypeId} {c : CTy}
    (h : ∀ (x y : Operand) (u v : c.den) (w : World), (do eqGuard .eql t x y (.agg ((c.avs u).map toV).toArray) (.agg ((c.avs v).map toV).toArray); binOp .eql t (.agg ((c.avs u).map toV).toArray) (.agg ((c.avs v).map toV).toArray) : Sem Value).run P w = .ok (.bool (c.deq u v)) w)
    (h' : ∀ (x y : Operand) (u v : c.den) (w : World), (do eqGuard .neq t x y (.agg ((c.avs u).map toV).toArray) (.agg ((c.avs v).map toV).toArray); binOp .neq t (.agg ((c.avs u).map toV).toArray) (.agg ((c.avs v).map toV).toArray) : Sem Value).run P w = .ok (.bool (!(c.deq u v))) w) : EqOk P t c := by
  intro bo x y u v r w hr
  cases bo <;> first | (cases hr; done) | skip
  · have hr : some (c.deq u v) = some r := hr
    injection hr with hr
    subst hr
    exact h x y u v w
  · have hr : some (!(c.deq u v)) = some r := hr
    injection hr with hr
    subst hr
    exact h' x y u v w
end Go.Av
set_option linter.unusedVariables false
set_option linter.unusedSectionVars false
set_option linter.unusedSimpArgs false
namespace Go.Av
open Go.RowKit
variable [Tab]
/-- Where a code's data must begin: a multiple of this. -/
def CTy.al : CTy → Nat
  | .unit => 1
  | .int k => k.bits / 8
  | .bool => 1
  | .str => 8
  | .sl _ => 8
  | .pair a b => max a.al b.al
def upTo (n m : Nat) : Nat := (n + m - 1) / m * m
/-- Where its data end that begin at `o` or behind it. -/
def CTy.ends : CTy → Nat → Nat
  | .unit, o => o
  | .int k, o => upTo o (k.bits / 8) + k.bits / 8
  | .bool, o => o + 1
  | .str, o => upTo o 8 + 16
  | .sl _, o => upTo o 8 + 24
  | .pair a b, o => b.ends (a.ends o)
/-- The bytes of one: no more than the type's. -/
def CTy.bytes (c : CTy) : Nat := upTo (c.ends 0) c.al
mutual
/-- The code is the type's. -/
inductive TyT (P : Program) : CTy → TypeId → Prop
  | int (k : IntKind) (t : TypeId) (h : P.underlying t = some (.int k)) : TyT P (.int k) t
  | bool (t : TypeId) (h : P.underlying t = some .bool) : TyT P .bool t
  | str (t : TypeId) (h : P.underlying t = some .string) : TyT P .str t
  | sl (c : CTy) (t e : TypeId) (h : P.underlying t = some (.slice e)) (hc : P.cellsOf e = c.size) (h0 : 0 < c.size) (hb : 1 ≤ P.bytesOf e) (hw : c.bytes ≤ P.bytesOf e) (he : TyT P c e) : TyT P (.sl c) t
  | struct (c : CTy) (t : TypeId) (fs : Array Field) (h : P.underlying t = some (.struct fs)) (hc : P.cellsOf t = c.size) (hf : TyF P c 0 fs.toList) : TyT P c t
inductive TyF (P : Program) : CTy → Nat → List Field → Prop
  | one (c : CTy) (off : Nat) (f : Field) (ho : f.offset = off) (hc : P.cellsOf f.type = c.size) (h : TyT P c f.type) : TyF P c off [f]
  | cons (a b : CTy) (off : Nat) (f : Field) (r : List Field) (ho : f.offset = off) (hc : P.cellsOf f.type = a.size) (h : TyT P a f.type) (hr : TyF P b (off + a.size) r) : TyF P (.pair a b) off (f :: r)
end
/-- No text and no list of it is longer; its numbers are their kinds'. -/
def big (n : Nat) : (c : CTy) → c.den → Prop
  | .int k, x => (Lit.int k (show Int from x)).wf = true
  | .str, x => List.length (show List UInt8 from x) ≤ n
  | .sl c, x => List.length (show List c.den from x) ≤ n ∧ (∀ y ∈ (show List c.den from x), big n c y) ∧ List.length (show List c.den from x) * c.bytes ≤ n
  | .pair a b, x => big n a x.1 ∧ big n b x.2
  | _, _ => True
theorem big_mono {n m : Nat} (h : n ≤ m) : ∀ (c : CTy) (x : c.den), big n c x → big m c x
  | .unit, _, _ => trivial
  | .int _, _, h => h
  | .bool, _, _ => trivial
  | .str, x, hx => Nat.le_trans hx h
  | .sl c, x, hx => ⟨Nat.le_trans hx.1 h, fun y hy => big_mono h c y (hx.2.1 y hy), Nat.le_trans hx.2.2 h⟩
  | .pair a b, x, hx => ⟨big_mono h a x.1 hx.1, big_mono h b x.2 hx.2⟩
structure Bulk {H : Type} (P : Program) (bulk : TypeId → DataW H → Nat) : Prop where
  str : ∀ t s, s.length ≤ bulk t (.lit (.string s))
  len : ∀ t e es s, P.underlying t = some (.slice e) → 1 ≤ P.bytesOf e → es.length ≤ bulk t (.slice es s)
  wt : ∀ t e es s, P.underlying t = some (.slice e) → es.length * P.bytesOf e ≤ bulk t (.slice es s)
  el : ∀ t e es s d, P.underlying t = some (.slice e) → d ∈ es → bulk e d ≤ bulk t (.slice es s)
  agg : ∀ t fs l (i : Nat) (f : Field) d, P.underlying t = some (.struct fs) → l.length = fs.size → fs[i]? = some f → l[i]? = some d → bulk f.type d ≤ bulk t (.agg l)
section
variable {H : Type} {enc : TypeId × Value → H} {P : Program} {w : World} {base : Nat} {spare : Nat → Bool} {held : Bool} {bulk : TypeId → DataW H → Nat} {C : Cfg}
theorem trod_lit {fuel : Nat} {t : TypeId} {cs : List Value} {x : DataW H × List MemPlace} (h : DataW.trod enc P w base spare held fuel t cs = some x) :
    (P.underlying t = some .bool → ∃ b, cs = [.bool b]) ∧ (∀ k, P.underlying t = some (.int k) → ∃ n, cs = [.int k n] ∧ (Lit.int k n).wf = true) ∧ (P.underlying t = some .string → ∃ s, cs = [.string s] ∧ x.1 = .lit (.string s.data.toList)) := by
  cases fuel with
  | zero => simp [DataW.trod] at h
  | succ m =>
    refine ⟨fun ht => ?_, fun k ht => ?_, fun ht => ?_⟩
    · unfold DataW.trod at h
      rw [ht] at h
      split at h <;> simp_all
    · unfold DataW.trod at h
      rw [ht] at h
      split at h <;> simp_all
    · unfold DataW.trod at h
      rw [ht] at h
      split at h <;> simp_all
      rw [← h.2]
/-- Cells that are there are the pool's. -/
def PoolHas (C : Cfg) (w : World) : Prop := ∀ b o v, w.cell? ⟨b, o, none⟩ = some v → v.oneCell' = true → C.pool b o = some v
def OpenT (enc : TypeId × Value → H) (P : Program) (w : World) (base : Nat) (spare : Nat → Bool) (held : Bool) (bulk : TypeId → DataW H → Nat) (C : Cfg) (fuel : Nat) : Prop :=
  ∀ (t : TypeId) (cs : List Value) (q : DataW H × List MemPlace) (c : CTy), TyT P c t → DataW.trod enc P w base spare held fuel t cs = some q → ∃ x : c.den, Reps C (c.avs x) cs ∧ (∀ u ∈ cs, u.oneCell' = true) ∧ big (bulk t q.1) c x
theorem open_fields {m : Nat} (ih : OpenT enc P w base spare held bulk C m) {cs : List Value} {n : Nat} : ∀ (fs : List Field) (xs : List (DataW H × List MemPlace)) (c : CTy) (off : Nat), TyF P c off fs → xs.length = fs.length → (∀ (i : Nat) (q : DataW H × List MemPlace) (f : Field), xs[i]? = some q → fs[i]? = some f → bulk f.type q.1 ≤ n) →
    (∀ (i : Nat) (f : Field), fs[i]? = some f → DataW.trod enc P w base spare held m f.type ((cs.drop f.offset).take (P.cellsOf f.type)) = xs[i]?) → ∃ x : c.den, Reps C (c.avs x) ((cs.drop off).take c.size) ∧ (∀ u ∈ (cs.drop off).take c.size, u.oneCell' = true) ∧ big n c x
  | [], xs, c, off, h, _, _, _ => nomatch h
  | f :: r, xs, c, off, h, hl, hn, hx => by
    obtain ⟨q, xs', rfl⟩ : ∃ q xs', xs = q :: xs' := by
      cases xs with
      | nil => simp at hl
      | cons q xs' => exact ⟨q, xs', rfl⟩
    have h0 := hx 0 f rfl
    cases h with
    | one c off f ho hc hf =>
      subst ho
      rw [hc] at h0
      obtain ⟨x, h1, h2, h3⟩ := ih _ _ q c hf (by simpa using h0)
      exact ⟨x, h1, h2, big_mono (hn 0 q f rfl rfl) _ _ h3⟩
    | cons a b off f r ho hc hf hr =>
      subst ho
      rw [hc] at h0
      obtain ⟨x, h1, h2, h3⟩ := ih _ _ q a hf (by simpa using h0)
      obtain ⟨y, k1, k2, k3⟩ := open_fields ih r xs' b _ hr (by simpa using hl) (fun i q g hq hg => hn (i + 1) q g (by simpa using hq) (by simpa using hg)) (fun i g hg => by simpa using hx (i + 1) g (by simpa using hg))
      have e : (cs.drop f.offset).take (CTy.pair a b).size = (cs.drop f.offset).take a.size ++ (cs.drop (f.offset + a.size)).take b.size := by
        show (cs.drop f.offset).take (a.size + b.size) = _
        rw [List.take_add, List.drop_drop]
      refine ⟨(x, y), ?_, ?_, big_mono (hn 0 q f rfl rfl) _ _ h3, k3⟩
      · rw [e]; exact h1.append k1
      · rw [e]
        intro u hu
        rcases List.mem_append.1 hu with hu | hu
        · exact h2 u hu
        · exact k2 u hu
theorem choose_list {α β : Type} {p : Nat → α → β → Prop} : ∀ (l : List α), (∀ (i : Nat) (a : α), l[i]? = some a → ∃ b, p i a b) → ∃ r : List β, r.length = l.length ∧ ∀ (i : Nat) (a : α) (b : β), l[i]? = some a → r[i]? = some b → p i a b
  | [], _ => ⟨[], rfl, fun i a b h => by simp at h⟩
  | a :: l, h => by
    obtain ⟨b, hb⟩ := h 0 a rfl
    obtain ⟨r, h1, h2⟩ := choose_list (p := fun i => p (i + 1)) l fun i x hx => h (i + 1) x (by simpa using hx)
    refine ⟨b :: r, by simp [h1], fun i x y hx hy => ?_⟩
    cases i with
    | zero => simp at hx hy; subst hx; subst hy; exact hb
    | succ i => exact h2 i x y (by simpa using hx) (by simpa using hy)
theorem cells_at {a : Addr} {i sz : Nat} {cs : List Value} (h : w.cells? base (a.add (i * sz)) sz = some cs) : cs.length = sz ∧ ∀ (j : Nat) (v : Value), cs[j]? = some v → w.cell? ⟨a.block, a.off + (i * sz + j), none⟩ = some v := by
  unfold World.cells? at h
  split at h
  · have hl := mapM_some_length h
    refine ⟨by simpa using hl, fun j v hv => ?_⟩
    have hj : j < sz := by
      have := (List.getElem?_eq_some_iff.1 hv).1
      rw [List.length_range] at hl
      omega
    have := mapM_some_get h j j (by simp [hj])
    rw [hv] at this
    have hs : ((a.add (i * sz)).add j) = ⟨a.block, a.off + (i * sz + j), none⟩ ∨ ((a.add (i * sz)).add j).spot.isSome = true := by
      unfold Addr.add
      by_cases h1 : i * sz = 0 <;> by_cases h2 : j = 0 <;> simp [h1, h2]
      · cases hsp : a.spot with
        | none => left; cases a; simp at hsp; subst hsp; rfl
        | some s => right; rfl
      · omega
    rcases hs with hs | hs
    · rw [hs] at this; exact this
    · exfalso
      unfold World.cell? at this
      split at this
      · rw [if_pos hs] at this; cases this
      · cases this
  · cases h
theorem open_t (hC : PoolHas C w) (hB : Bulk P bulk) : ∀ fuel, OpenT enc P w base spare held bulk C fuel
  | 0 => fun t cs q c _ h => by simp [DataW.trod] at h
  | fuel + 1 => fun t cs q c hc h => by
    have ih := open_t hC hB fuel
    cases hc with
    | int k t ht =>
      obtain ⟨n, rfl, hwf⟩ := (trod_lit h).2.1 k ht
      exact ⟨n, .cons (.int k n) (.nil C), fun u hu => by simp at hu; subst hu; rfl, hwf⟩
    | bool t ht =>
      obtain ⟨b, rfl⟩ := (trod_lit h).1 ht
      exact ⟨b, .cons (.bool b) (.nil C), fun u hu => by simp at hu; subst hu; rfl, trivial⟩
    | str t ht =>
      obtain ⟨s, rfl, hq⟩ := (trod_lit h).2.2 ht
      refine ⟨s.data.toList, .cons (.str s.data.toList) (.nil C), fun u hu => by simp at hu; subst hu; rfl, ?_⟩
      rw [hq]
      exact hB.str _ _
    | struct c t fs ht hcs hf =>
      obtain ⟨xs, m, hm, rfl, hl, hxl, hx⟩ := DataW.trod_struct ht h
      injection hm with hm
      subst hm
      obtain ⟨x, h1, h2, h3⟩ := open_fields (n := bulk t (.agg (xs.map (·.1)))) ih (cs := cs) fs.toList xs c 0 hf (by simpa using hxl) (fun i q f hq hf' => hB.agg t fs _ i f _ ht (by simpa using hxl) (by simpa using hf') (by simp [hq])) (fun i f hf' => hx i f (by simpa using hf'))
      have e : (cs.drop 0).take c.size = cs := by rw [List.drop_zero, ← hcs, ← hl, List.take_length]
      rw [e] at h1 h2
      exact ⟨x, h1, h2, h3⟩
    | sl c t e ht hcs h0 hbe hbw he =>
      rcases DataW.trod_slice ht h with ⟨rfl, rfl⟩ | ⟨a, len, cap, elems, rest, m, hm, rfl, rfl, hb, hlc, hcap, hlen, hel, _, _⟩
      · refine ⟨[], .cons (.sl none c.size [] none 0 0 0 0 (fun _ _ => .nilFunc) rfl (Nat.le_refl _) (by decide) (fun _ => rfl) (fun _ h => nomatch h) (fun h => absurd h (Nat.lt_irrefl _)) (fun i cs h => by simp at h) (fun i cs j x h => by simp at h) (fun i cs j x h => by simp at h)) (.nil C), fun u hu => by simp at hu; subst hu; rfl, Nat.zero_le _, (fun y hy => nomatch hy), (Nat.zero_mul _).symm ▸ Nat.zero_le _⟩
      · injection hm with hm
        subst hm
        have hone : ∀ (i : Nat) (q : DataW H × List MemPlace), elems[i]? = some q → ∃ xv : c.den × List Value, xv.2.length = c.size ∧ Reps C (c.avs xv.1) xv.2 ∧ (∀ (j : Nat) (v : Value), xv.2[j]? = some v → C.pool a.block (a.off + (i * c.size + j)) = some v) ∧ big (bulk e q.1) c xv.1 := fun i q hq => by
          have hi : i < len := by rw [← hlen]; exact (List.getElem?_eq_some_iff.1 hq).1
          have := hel i hi
          rw [hq] at this
          obtain ⟨vs, hvs, htr⟩ := Option.bind_eq_some_iff.1 this
          rw [hcs] at hvs
          obtain ⟨hl, hcell⟩ := cells_at hvs
          obtain ⟨x, h1, h2, h3⟩ := ih e vs q c he htr
          exact ⟨(x, vs), hl, h1, fun j v hv => hC _ _ _ (hcell j v hv) (h2 v (List.mem_of_getElem? hv)), h3⟩
        obtain ⟨r, hrl, hr⟩ := choose_list elems hone
        have at' : ∀ (i : Nat) (p : c.den × List Value), r[i]? = some p → ∃ q, elems[i]? = some q ∧ p.2.length = c.size ∧ Reps C (c.avs p.1) p.2 ∧ (∀ (j : Nat) (v : Value), p.2[j]? = some v → C.pool a.block (a.off + (i * c.size + j)) = some v) ∧ big (bulk e q.1) c p.1 := fun i p hp => by
          have hi : i < elems.length := by rw [← hrl]; exact (List.getElem?_eq_some_iff.1 hp).1
          exact ⟨elems[i], List.getElem?_eq_getElem hi, hr i _ p (List.getElem?_eq_getElem hi) hp⟩
        refine ⟨r.map (·.1), .cons (.sl none c.size ((r.map (·.1)).map c.avs) (some a) len cap a.block a.off (fun i j => ((r[i]?.map (·.2)).getD []).getD j .nilFunc) (by simp [hrl, hlen]) hlc (by simpa [maxLen] using hcap) (fun h => nomatch h) (fun _ h => nomatch h) (fun h => ?_) (fun i cs h => ?_) (fun i cs j x h hj => ?_) (fun i cs j x h hj => ?_)) (.nil C), fun u hu => by simp at hu; subst hu; rfl, ?_, ?_, ?_⟩
        · obtain ⟨p, hp⟩ : ∃ p, r[0]? = some p := ⟨r[0]'(by omega), List.getElem?_eq_getElem (by omega)⟩
          obtain ⟨q, hq, _⟩ := at' 0 p hp
          have := hel 0 h
          rw [hq] at this
          obtain ⟨vs, hvs, _⟩ := Option.bind_eq_some_iff.1 this
          rw [hcs, Nat.zero_mul] at hvs
          have hsp : a.spot = none := by
            cases hsp : a.spot with
            | none => rfl
            | some s =>
              exfalso
              unfold World.cells? at hvs
              split at hvs
              · have := mapM_some_get hvs 0 0 (by simp [h0])
                have hl := mapM_some_length hvs
                rw [List.getElem?_eq_getElem (by rw [hl, List.length_range]; exact h0)] at this
                unfold World.cell? at this
                split at this
                · rw [if_pos (by simp [Addr.add, hsp])] at this; cases this
                · cases this
              · cases hvs
          cases a
          simp at hsp
          subst hsp
          rfl
        · rw [List.map_map, List.getElem?_map] at h
          obtain ⟨p, hp, rfl⟩ := Option.map_eq_some_iff.1 h
          exact CTy.avs_len _ _
        · rw [List.map_map, List.getElem?_map] at h
          obtain ⟨p, hp, rfl⟩ := Option.map_eq_some_iff.1 h
          obtain ⟨q, hq, k1, k2, k3, k4⟩ := at' i p hp
          obtain ⟨v, hv, hrv⟩ := k2.at hj
          rw [hp, Option.map_some, Option.getD_some, List.getD_eq_getElem?_getD, hv, Option.getD_some]
          exact k3 j v hv
        · rw [List.map_map, List.getElem?_map] at h
          obtain ⟨p, hp, rfl⟩ := Option.map_eq_some_iff.1 h
          obtain ⟨q, hq, k1, k2, k3, k4⟩ := at' i p hp
          obtain ⟨v, hv, hrv⟩ := k2.at hj
          rw [hp, Option.map_some, Option.getD_some, List.getD_eq_getElem?_getD, hv, Option.getD_some]
          exact hrv
        · show (r.map (·.1)).length ≤ _
          rw [List.length_map, hrl, show elems.length = (elems.map (·.1)).length by simp]
          exact hB.len _ _ _ _ ht hbe
        · intro y hy
          obtain ⟨p, hp, rfl⟩ := List.mem_map.1 hy
          obtain ⟨i, hi⟩ := List.getElem?_of_mem hp
          obtain ⟨q, hq, k1, k2, k3, k4⟩ := at' i p hi
          exact big_mono (hB.el _ _ _ _ _ ht (List.mem_map.2 ⟨q, List.mem_of_getElem? hq, rfl⟩)) _ _ k4
        · show (r.map (·.1)).length * c.bytes ≤ _
          rw [List.length_map, hrl, show elems.length = (elems.map (·.1)).length by simp]
          exact Nat.le_trans (Nat.mul_le_mul_left _ hbw) (hB.wt _ _ _ _ ht)
end
end Go.Av
set_option linter.unusedVariables false
set_option linter.unusedSectionVars false
set_option linter.unusedSimpArgs false
namespace Go.Av
open Go.RowKit Go.ChangeShapes
variable [Tab]
def poolOf (W : World) (b o : Nat) : Option Value := (W.cell? ⟨b, o, none⟩).bind fun v => if v.oneCell' = true then some v else none
def cfgOf (W : World) (h : Tab.ok (poolOf W)) : Cfg := ⟨poolOf W, [], [], h⟩
theorem poolHas_of (W : World) (h : Tab.ok (poolOf W)) : PoolHas (cfgOf W h) W := fun b o v hv h1 => by
  show poolOf W b o = some v
  rw [poolOf, hv, Option.bind_some, if_pos h1]
/-- A call whose arguments are told and that answers true leaves what was there as it was. -/
theorem law_run {P : Program} {f : FuncId} {xs : List AV} (h : ACalls P f xs ⟨[], []⟩ fun out m' => out = .ret (.bool true)) {W : World} {args : Array Value} (hok : Tab.ok (poolOf W)) (hF : Tab.okF fun b => W.heap[b]?) (hR : Reps (cfgOf W hok) xs args.toList) :
    Calls P f args W fun e W' => e = .returned (.bool true) ∧ Below W.heap.size W W' := by
  have hm : MemOk { w0 := W, prot := fun b => b < W.heap.size, pool0 := poolOf W, fix := fun b => W.heap[b]?, has := hF } (cfgOf W hok) ⟨[], []⟩ W := by
    refine ⟨rfl, rfl, rfl, Nat.le_refl _, fun _ _ => rfl, fun _ h => h, fun b o v hv => ?_, rfl, rfl, fun k B g hB => by simp at hB, fun k k' B B' g hB => by simp at hB, fun t L v hL => by simp at hL, fun t t' p p' v v' g hL => by simp at hL, fun t k p B v g hL => by simp at hL, fun b o v _ hv => hv, fun b o hb => ⟨(Array.getElem?_eq_some_iff.1 hb).1, hb⟩⟩
    have hv : poolOf W b o = some v := hv
    obtain ⟨u, hu, hv⟩ := Option.bind_eq_some_iff.1 hv
    split at hv
    · rename_i h1
      injection hv with hv
      subst hv
      exact ⟨hu, h1⟩
    · cases hv
  have := h _ _ W args.toList hm hR
  rw [Array.toArray_toList] at this
  refine this.mono fun e W' ⟨o, m', C', ho, hre, hle, hm'⟩ => ?_
  subst ho
  cases hre with
  | ret _ v hv =>
    rw [hv.bool_inv]
    exact ⟨rfl, hm'.os, hm'.tape, hm'.output, hm'.size, fun k hk => hm'.kept k hk⟩
section
variable {H : Type} {enc : TypeId × Value → H} {P : Program} {W : World}
theorem stays_all (hl : laidOutB P = true) {W' : World} (hb : Below W.heap.size W W') : ∀ (ts : List TypeId) (vs : List Value) (ds : List (DataW H)) (ps : List MemPlace), (∀ t ∈ ts, P.readableRec t = true ∧ t < P.types.size) →
    DataW.TrodAll enc P W 0 (fun _ => true) true ts vs ds ps → (∀ p ∈ ps, p.block < W.heap.size) → DataW.TrodAll enc P W' 0 (fun b => decide (b < W.heap.size)) true ts vs ds ps
  | [], [], [], ps, _, h, _ => h
  | t :: ts, v :: vs, d :: ds, ps, ht, h, hp => by
    obtain ⟨p, q, h1, h2, rfl⟩ := h
    exact ⟨p, q, Below.trod hl (ht t List.mem_cons_self).1 (ht t List.mem_cons_self).2 h1 hb fun x hx => hp x (List.mem_append_left _ hx), stays_all hl hb ts vs ds q (fun t ht' => ht t (List.mem_cons_of_mem _ ht')) h2 fun x hx => hp x (List.mem_append_right _ hx), rfl⟩
  | [], _ :: _, _, _, _, h, _ => h.elim
  | [], [], _ :: _, _, _, h, _ => h.elim
  | _ :: _, [], _, _, _, h, _ => h.elim
  | _ :: _, _ :: _, [], _, _, h, _ => h.elim
/-- What a law's row asks behind the call. -/
theorem law_post {f : FuncId} {fn : Func} {s : ChangeSpec} {args : Array Value} {ds gs : List (DataW H)} {before : List MemPlace} {tb : TypeId} (hl : laidOutB P = true) (ht : ∀ t ∈ fn.params.toList, P.readableRec t = true ∧ t < P.types.size)
    (hvars : s.vars = []) (hs : ∀ l : List (DataW H), l.length = fn.params.size → s.fn H l = { results := [.lit (.bool true)], args := l }) (hrt : fn.resultTypes = #[tb]) (hb : P.underlying tb = some .bool)
    (hW : DataW.Whole enc P fn.params.toList s.vars false W args.toList ds gs before) (hrun : Calls P f args W fun e W' => e = .returned (.bool true) ∧ Below W.heap.size W W') :
    Calls P f args W fun e W' => ∃ v, e = .returned v ∧ s.post enc P fn false true false false W args v W' := by
  refine hrun.mono fun e W' ⟨he, hbl⟩ => ⟨_, he, ?_⟩
  have hW' := hW
  obtain ⟨p, q, hA, hV, hpq, hz, hn⟩ := hW
  rw [hvars] at hV
  obtain ⟨rfl, rfl⟩ := trodVars_none hV
  have hlen : ∀ (ts : List TypeId) (vs : List Value) (ds : List (DataW H)) (ps : List MemPlace), DataW.TrodAll enc P W 0 (fun _ => true) true ts vs ds ps → ds.length = ts.length := by
    intro ts
    induction ts with
    | nil => intro vs ds ps h; cases vs <;> cases ds <;> first | rfl | exact h.elim
    | cons t ts ih =>
      intro vs ds ps h
      cases vs with
      | nil => exact h.elim
      | cons v vs =>
        cases ds with
        | nil => exact h.elim
        | cons d ds =>
          obtain ⟨_, _, _, h2, _⟩ := h
          simp [ih _ _ _ h2]
  have hf := hs ds (by rw [hlen _ _ _ _ hA]; simp)
  have hlt : ∀ x ∈ p, x.block < W.heap.size := fun x hx => by
    have := hW'.lt x (by rw [hpq]; exact List.mem_append_left _ hx)
    exact this
  refine ⟨ds, [], before, [], p, [], hW', ?_, ?_, ?_, ?_, fun h => nomatch h⟩
  · rw [List.append_nil, hf, hrt]
    exact trodAll_mk1 (shut_bool hb true)
  · rw [List.append_nil, hf]
    exact stays_all hl hbl _ _ _ _ ht hA hlt
  · rw [List.append_nil, hf, hvars]
    rfl
  · exact hbl.frame _
end
end Go.Av
set_option linter.unusedVariables false
set_option linter.unusedSectionVars false
set_option linter.unusedSimpArgs false
namespace Go.Av
open Go.RowKit
variable [Tab]
def Cx.at (X : Cx) (n : Nat) (m : SMem) : Cx := ⟨X.T, X.cons, n, lenL m.blks, lenL m.lives, X.kf, X.wr, X.sv⟩
section
variable {P : Program} {X : Cx}
end
end Go.Av
set_option linter.unusedVariables false
set_option linter.unusedSectionVars false
set_option linter.unusedSimpArgs false
namespace Go.Av
open Go.RowKit Go.Proofs Go.Shelf
variable {P : Program} {ρ : Ren}
end Go.Av
set_option linter.unusedVariables false
set_option linter.unusedSectionVars false
set_option linter.unusedSimpArgs false
namespace Go.Av
open Go.RowKit Go.ChangeShapes Go.WideShapes
variable [Tab]
def maxL : List Nat → Nat
  | [] => 0
  | x :: r => max x (maxL r)
theorem le_maxL : ∀ {l : List Nat} {x : Nat}, x ∈ l → x ≤ maxL l
  | y :: r, x, h => by
    rw [maxL]
    rcases List.mem_cons.1 h with rfl | h
    · exact Nat.le_max_left _ _
    · exact Nat.le_trans (le_maxL h) (Nat.le_max_right _ _)
theorem maxL_le : ∀ {l : List Nat} {n : Nat}, (∀ x ∈ l, x ≤ n) → maxL l ≤ n
  | [], n, _ => Nat.zero_le _
  | y :: r, n, h => Nat.max_le.2 ⟨h y List.mem_cons_self, maxL_le fun x hx => h x (List.mem_cons_of_mem _ hx)⟩
section
variable {H : Type} {P : Program}
def bulkW (P : Program) (t : TypeId) (d : DataW H) : Nat := maxL (d.weights P t)
theorem bulkW_le {t : TypeId} {d : DataW H} {n : Nat} (h : ∀ x ∈ d.weights P t, x ≤ n) : bulkW P t d ≤ n := maxL_le h
theorem le_bulkW {t : TypeId} {d : DataW H} {x : Nat} (h : x ∈ d.weights P t) : x ≤ bulkW P t d := le_maxL h
theorem weightsAll_mem {e : TypeId} {x : Nat} : ∀ {l : List (DataW H)} {d : DataW H}, d ∈ l → x ∈ d.weights P e → x ∈ DataW.weightsAll P e l
  | d' :: r, d, h, hx => by
    rw [DataW.weightsAll]
    rcases List.mem_cons.1 h with rfl | h
    · exact List.mem_append_left _ hx
    · exact List.mem_append_right _ (weightsAll_mem h hx)
theorem weightsEach_mem {x : Nat} : ∀ {ts : List TypeId} {l : List (DataW H)} {i : Nat} {t : TypeId} {d : DataW H}, ts[i]? = some t → l[i]? = some d → x ∈ d.weights P t → x ∈ DataW.weightsEach P ts l
  | [], _, i, t, d, h, _, _ => by simp at h
  | _ :: _, [], i, t, d, _, h, _ => by simp at h
  | t' :: ts, d' :: l, 0, t, d, h1, h2, hx => by
    simp only [List.getElem?_cons_zero, Option.some.injEq] at h1 h2
    subst h1; subst h2
    rw [DataW.weightsEach]
    exact List.mem_append_left _ hx
  | t' :: ts, d' :: l, i + 1, t, d, h1, h2, hx => by
    rw [DataW.weightsEach]
    exact List.mem_append_right _ (weightsEach_mem (i := i) (by simpa using h1) (by simpa using h2) hx)
theorem bulk_w : Bulk (H := H) P (bulkW P) := by
  refine ⟨fun t s => le_bulkW (by simp [DataW.weights]), fun t e es s ht hb => ?_, fun t e es s ht => ?_, fun t e es s d ht hd => bulkW_le fun x hx => le_bulkW ?_, fun t fs l i f d ht hl hf hd => bulkW_le fun x hx => le_bulkW ?_⟩
  · have : (es.length + s.length) * P.bytesOf e ∈ DataW.weights P t (.slice es s) := by
      simp only [DataW.weights, ht]
      exact List.mem_cons_self
    refine Nat.le_trans ?_ (le_bulkW this)
    calc es.length ≤ es.length + s.length := Nat.le_add_right _ _
      _ = (es.length + s.length) * 1 := (Nat.mul_one _).symm
      _ ≤ _ := Nat.mul_le_mul_left _ hb
  · have : (es.length + s.length) * P.bytesOf e ∈ DataW.weights P t (.slice es s) := by
      simp only [DataW.weights, ht]
      exact List.mem_cons_self
    exact Nat.le_trans (Nat.mul_le_mul_right _ (Nat.le_add_right _ _)) (le_bulkW this)
  · simp only [DataW.weights, ht]
    exact List.mem_cons_of_mem _ (List.mem_append_left _ (weightsAll_mem hd hx))
  · simp only [DataW.weights, ht]
    exact weightsEach_mem (i := i) (by rw [List.getElem?_map, Array.getElem?_toList, hf]; rfl) hd hx
theorem bulk_at {ts : List TypeId} {ds : List (DataW H)} {n i : Nat} {t : TypeId} {d : DataW H} (h : (DataW.weightsEach P ts ds).all (· ≤ n) = true) (h1 : ts[i]? = some t) (h2 : ds[i]? = some d) : bulkW P t d ≤ n :=
  bulkW_le fun x hx => by
    have := List.all_eq_true.1 h x (weightsEach_mem h1 h2 hx)
    simpa using this
end
def argA (agg : Bool) (c : CTy) (x : c.den) : AV := bif agg then .agg (c.avs x) else (c.avs x).headD .any
section
variable {H : Type} {enc : TypeId × Value → H} {P : Program} {W : World}
theorem one_of {v : Value} (h : ∀ cs, v ≠ .agg cs) : v.cells.toList = [v] := by
  cases v <;> first | rfl | exact absurd rfl (h _)
theorem arg_open {t : TypeId} {c : CTy} {agg : Bool} (hT : TyT P c t) (hag : agg = true ↔ ∃ fs, P.underlying t = some (.struct fs)) {r : Reach} {b0 : Nat} {v : Value} {d : DataW H} {p : List MemPlace} {spare : Nat → Bool} {C : Cfg} {base : Nat} {held : Bool} (hC : PoolHas C W) (hv : Value.okWide P W r b0 t v)
    (hd : DataW.Trod enc P W base spare held t v d p) : ∃ x : c.den, Rep C (argA agg c x) v ∧ big (bulkW P t d) c x := by
  obtain ⟨fuel, hf⟩ := hd
  obtain ⟨x, h1, _, h3⟩ := open_t hC bulk_w fuel t _ _ c hT hf
  refine ⟨x, ?_, h3⟩
  have single : (∀ cs, v ≠ .agg cs) → agg = false → Rep C (argA agg c x) v := fun hn ha => by
    rw [one_of hn] at h1
    subst ha
    show Rep C ((c.avs x).headD .any) v
    obtain ⟨hl, hr⟩ := h1
    cases hx : c.avs x with
    | nil => rw [hx] at hl; simp at hl
    | cons a r => exact hr 0 a v (by rw [hx]; rfl) rfl
  have noagg : (∀ fs, P.underlying t ≠ some (.struct fs)) → agg = false := fun h => by
    cases agg with
    | false => rfl
    | true => obtain ⟨fs, hfs⟩ := hag.1 rfl; exact absurd hfs (h fs)
  cases hT with
  | int k t ht =>
    obtain ⟨n, rfl⟩ := okWide_int ht hv
    exact single (fun cs h => by cases h) (noagg fun fs h => by rw [ht] at h; cases h)
  | bool t ht =>
    obtain ⟨n, rfl⟩ := okWide_bool ht hv
    exact single (fun cs h => by cases h) (noagg fun fs h => by rw [ht] at h; cases h)
  | str t ht =>
    obtain ⟨n, rfl⟩ := okWide_string ht hv
    exact single (fun cs h => by cases h) (noagg fun fs h => by rw [ht] at h; cases h)
  | sl c t e ht hc h0 hb he =>
    obtain ⟨a, l, k, rfl⟩ := okWide_slice ht hv
    exact single (fun cs h => by cases h) (noagg fun fs h => by rw [ht] at h; cases h)
  | struct c t fs ht hc hf =>
    have ha : agg = true := hag.2 ⟨fs, ht⟩
    subst ha
    simp only [Value.okWide, ht] at hv
    obtain ⟨cs, rfl, _, _⟩ := hv
    obtain ⟨hl, hr⟩ := h1
    have := Rep.agg (C := C) (c.avs x) cs.toList (by simpa [Value.cells] using hl) (fun j y u hy hu => hr j y u hy (by simpa [Value.cells] using hu))
    simpa [argA] using this
/-- The number that a variable of the library holds. -/
theorem int_global {g : Nat} {t : TypeId} {zero : Array Value} {k : IntKind} (h : W.ShapedOpen P) (hg : g < P.globals.size) (h0 : ((begin P (fun _ _ => 0) default).world.heap[g]?).bind Obj.row? = some (zero, t)) (hz : zero.size = 1) (hb : P.buildable t = true) (hc : P.cellTypes P.depth t = some [t]) (ht : P.underlying t = some (.int k)) :
    ∃ m, W.heap[g]? = some (.cells #[.int k m] t (0, 0)) := by
  obtain ⟨cs, hh, hs, hr⟩ := h.1 g zero t hg h0
  obtain ⟨ts, h1, _, h3⟩ := hr hb
  rw [hc] at h1
  injection h1 with h1
  subst h1
  have hlt : 0 < cs.size := by omega
  obtain ⟨u, hu, hok⟩ := h3 0 cs[0] (by simp [hlt])
  simp at hu
  subst hu
  simp only [Cell.ok, ht] at hok
  have hcs : cs = #[cs[0]] := by
    apply Array.ext (by simp; omega)
    intro i h1 h2
    have : i = 0 := by simp at h2; omega
    subst this
    rfl
  cases hv : cs[0] with
  | int k' n =>
    rw [hv] at hok hcs
    obtain ⟨rfl, _⟩ := hok
    exact ⟨n, by rw [hh, hcs]⟩
  | _ => rw [hv] at hok; exact hok.elim
end
end Go.Av
set_option linter.unusedVariables false
set_option linter.unusedSectionVars false
set_option linter.unusedSimpArgs false
namespace Go.Av
open Go.RowKit Go.ChangeShapes Go.WideShapes
variable [Tab]
section
variable {H : Type} {enc : TypeId × Value → H} {P : Program} {W : World}
/-- An argument's type: its code, is it a struct? -/
structure ArgT (P : Program) (t : TypeId) (c : CTy) (agg : Bool) : Prop where
  ty : TyT P c t
  ag : agg = true ↔ ∃ fs, P.underlying t = some (.struct fs)
  rd : P.readableRec t = true ∧ t < P.types.size
/-- Three. -/
theorem row3 {f : FuncId} {fn : Func} {s : ChangeSpec} {t1 t2 t3 tb : TypeId} {c1 c2 c3 : CTy} {a1 a2 a3 : Bool} {n : Nat} (hl : laidOutB P = true) (hp : fn.params = #[t1, t2, t3]) (hrt : fn.resultTypes = #[tb]) (hb : P.underlying tb = some .bool)
    (hvars : s.vars = []) (hs : ∀ l : List (DataW H), l.length = 3 → s.fn H l = { results := [.lit (.bool true)], args := l }) (h1 : ArgT P t1 c1 a1) (h2 : ArgT P t2 c2 a2) (h3 : ArgT P t3 c3 a3)
    (h : ∀ (x : c1.den) (y : c2.den) (z : c3.den), big n c1 x → big n c2 y → big n c3 z → ACalls P f [argA a1 c1 x, argA a2 c2 y, argA a3 c3 z] ⟨[], []⟩ fun out m' => out = .ret (.bool true))
    {args : Array Value} {ds gs : List (DataW H)} {before : List MemPlace} {base : Nat} (hok : Tab.ok (poolOf W)) (hF : Tab.okF fun b => W.heap[b]?) (hval : ∀ (j : Nat) t v, fn.params[j]? = some t → args[j]? = some v → Value.okWide P W .any base t v)
    (hW : DataW.Whole enc P fn.params.toList s.vars false W args.toList ds gs before) (hw : ∀ (i : Nat) (t : TypeId) (d : DataW H), fn.params.toList[i]? = some t → ds[i]? = some d → bulkW P t d ≤ n) :
    Calls P f args W fun e W' => ∃ v, e = .returned v ∧ s.post enc P fn false true false false W args v W' := by
  have hW' := hW
  obtain ⟨p, q, hA, hV, _, _, _⟩ := hW
  have hA : DataW.TrodAll enc P W 0 (fun _ => true) true fn.params.toList args.toList ds p := hA
  rw [hp] at hA hval hw
  obtain ⟨v0, vs0, d0, ds0, p0, q0, hargs, rfl, rfl, hd0, r0⟩ := trodAll_cons hA
  obtain ⟨v1, vs1, d1, ds1, p1, q1, rfl, rfl, rfl, hd1, r1⟩ := trodAll_cons r0
  obtain ⟨v2, vs2, d2, ds2, p2, q2, rfl, rfl, rfl, hd2, r2⟩ := trodAll_cons r1
  obtain ⟨rfl, rfl, rfl⟩ := trodAll_nil r2
  obtain rfl : args = #[v0, v1, v2] := by cases args; simp_all
  obtain ⟨x, x1, x2⟩ := arg_open (agg := a1) (C := cfgOf W hok) h1.ty h1.ag (poolHas_of W hok) (hval 0 t1 v0 rfl rfl) hd0
  obtain ⟨y, y1, y2⟩ := arg_open (agg := a2) (C := cfgOf W hok) h2.ty h2.ag (poolHas_of W hok) (hval 1 t2 v1 rfl rfl) hd1
  obtain ⟨z, z1, z2⟩ := arg_open (agg := a3) (C := cfgOf W hok) h3.ty h3.ag (poolHas_of W hok) (hval 2 t3 v2 rfl rfl) hd2
  refine law_post hl (fun u hu => ?_) hvars (fun l hll => hs l (by rw [hll, hp]; rfl)) hrt hb hW' (law_run (h x y z (big_mono (hw 0 t1 d0 rfl rfl) c1 x x2) (big_mono (hw 1 t2 d1 rfl rfl) c2 y y2) (big_mono (hw 2 t3 d2 rfl rfl) c3 z z2)) hok hF (.cons x1 (.cons y1 (.cons z1 (.nil _)))))
  rw [hp] at hu
  simp at hu
  rcases hu with rfl | rfl | rfl
  · exact h1.rd
  · exact h2.rd
  · exact h3.rd
end
end Go.Av
