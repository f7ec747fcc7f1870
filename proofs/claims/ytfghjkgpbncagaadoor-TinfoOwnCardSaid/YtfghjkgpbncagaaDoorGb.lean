/- Joined texts: Gb. -/
import Derived.Test.YtfghjkgpbncagaaDoorGa
import Derived.Laws.Strings
import Derived.Laws.Cover3
import Derived.MapKept
set_option linter.unusedVariables false
set_option linter.unusedSectionVars false
set_option linter.unusedSimpArgs false
namespace Go.Av
open Go.RowKit
variable [Tab]
/-- Whatever s tells of, s' tells of too. -/
def To (G : Env) (C0 : Cfg) (s s' : St) : Prop := ∀ (C : Cfg) (a : Act) (w : World), Gam G C0 C s a w → ∃ C', Gam G C0 C' s' a w
section
variable {P : Program} {G : Env} {C0 : Cfg} {Q : AEx → St → Prop} {s s' s'' : St}
theorem To.refl (s : St) : To G C0 s s := fun C a w h => ⟨C, h⟩
theorem To.trans (h : To G C0 s s') (k : To G C0 s' s'') : To G C0 s s'' := fun C a w hg => by
  obtain ⟨C', h'⟩ := h C a w hg
  exact k C' a w h'
theorem awp_to {c : Code} (h : To G C0 s s') (k : AWp P G C0 c Q s') : AWp P G C0 c Q s := fun C a w hg => by
  obtain ⟨C', h'⟩ := h C a w hg
  exact k C' a w h'
end
def Cfg.pick (C : Cfg) (ks ts : List Nat) : Cfg := { pool := C.pool, ρ := ks.map (fun k => (C.ρ[k]?).getD 0), τ := ts.map (fun t => (C.τ[t]?).getD undef), has := C.has }
/-- What x tells y tells, by the new numbers. -/
def Rn (ks ts : List Nat) (x y : AV) : Prop := ∀ (C : Cfg) (v : Value), Rep C x v → Rep (C.pick ks ts) y v
theorem rn_ptr {ks ts : List Nat} {k j off : Nat} (h : ks[j]? = some k) : Rn ks ts (.ptr k off) (.ptr j off) := fun C v hr => by
  obtain ⟨g, hg, rfl⟩ := hr.ptr_inv
  exact .ptr j off g (by simp [Cfg.pick, h, hg])
theorem rn_sl {ks ts : List Nat} {t j sz : Nat} {els : List (List AV)} (h : ts[j]? = some t) (hc : ∀ cs ∈ els, ∀ x ∈ cs, Closed x) : Rn ks ts (.sl (some t) sz els) (.sl (some j) sz els) := fun C v hr => by
  cases hr with
  | sl _ _ _ A n c b off vals hl hcc hm hN hst hA hz hpo hh =>
    refine .sl (some j) sz els A n c b off vals hl hcc hm hN (fun t' ht => ?_) hA hz hpo fun i cs j' x h1 h2 => hc cs (List.mem_of_getElem? h1) x (List.mem_of_getElem? h2) C _ _ (fun _ _ _ h => h) (hh i cs j' x h1 h2)
    injection ht with ht
    subst ht
    simp [Cfg.pick, h, hst t rfl]
def LiveCl : Option Live → Prop
  | some (.own _ _ els) => ∀ cs ∈ els, ∀ x ∈ cs, Closed x
  | _ => True
def nodupB : List Nat → Bool
  | [] => true
  | x :: r => !r.contains x && nodupB r
theorem nodupB_inj : ∀ {l : List Nat}, nodupB l = true → ∀ {i j k : Nat}, l[i]? = some k → l[j]? = some k → i = j
  | [], _, i, j, k, h, _ => by simp at h
  | x :: r, hn, i, j, k, hi, hj => by
    simp only [nodupB, Bool.and_eq_true, Bool.not_eq_true'] at hn
    have hx : ∀ {i : Nat} {k : Nat}, r[i]? = some k → k ≠ x := fun h e => by
      have := List.mem_of_getElem? h
      subst e
      have h1 := hn.1
      simp [this] at h1
    cases i <;> cases j
    · rfl
    · simp at hi hj; subst hi; exact absurd rfl (hx hj)
    · simp at hi hj; subst hj; exact absurd rfl (hx hi)
    · simp at hi hj; rw [nodupB_inj hn.2 hi hj]
/-- A frame by the new numbers. -/
theorem rn_rs {ks ts : List Nat} {t j : Nat} (h : ts[j]? = some t) : Rn ks ts (.rs t) (.rs j) := fun C v hr => by
  cases hr with
  | rs _ A n c hg => exact .rs j A n c (by simp [Cfg.pick, h, hg])
theorem rn_mp {ks ts : List Nat} {k j : Nat} (h : ks[j]? = some k) : Rn ks ts (.mp k) (.mp j) := fun C v hr => by
  cases hr with
  | mp _ g hg => exact .mp j g (by simp [Cfg.pick, h, hg])
theorem reps_closed {C D : Cfg} (hp : ∀ b o u, C.pool b o = some u → D.pool b o = some u) {xs : List AV} {vs : List Value} (h : ∀ x ∈ xs, Closed x) (hr : Reps C xs vs) : Reps D xs vs :=
  ⟨hr.1, fun j x v hx hv => h x (List.mem_of_getElem? hx) C D v hp (hr.2 j x v hx hv)⟩
theorem StpOk.pick {G : Env} {C : Cfg} {w : World} {L : Live} {v : Value} {ks ts : List Nat} (h : StpOk G C w L v) (hc : LiveCl (some L)) : StpOk G (C.pick ks ts) w L v := by
  cases L with
  | pl e sz => exact h
  | own e sz els =>
    refine ⟨h.1, ?_⟩
    rcases h.2 with h0 | ⟨g, c, cur, ys, rfl, h1, h2, h3, h4, h5, h6, h7, h8, h9⟩
    · exact .inl h0
    · exact .inr ⟨g, c, cur, ys, rfl, h1, h2, h3, h4, h5, h6, h7, reps_closed (C := C) (D := C.pick ks ts) (fun _ _ _ x => x) (fun x hx => by
        obtain ⟨cs, hcs, hxc⟩ := List.mem_flatten.1 hx
        exact hc cs hcs x hxc) h8, h9⟩
end Go.Av
set_option linter.unusedVariables false
set_option linter.unusedSectionVars false
set_option linter.unusedSimpArgs false
namespace Go.Av
open Go.RowKit
variable [Tab]
theorem fold_set (off : Nat) : ∀ (us : List Value) (k : Nat) (cells : Array Value), off + k + us.length ≤ cells.size →
    ((us.zipIdx k).foldl (fun cs (p : Value × Nat) => cs.setIfInBounds (off + p.2) p.1) cells).toList = spliceV cells.toList (off + k) us
  | [], k, cells, h => by simp [spliceV]
  | u :: us, k, cells, h => by
    simp only [List.length_cons] at h
    rw [List.zipIdx_cons, List.foldl_cons, fold_set off us (k + 1) _ (by simp; omega)]
    apply List.ext_getElem?
    intro j
    rw [getElem?_spliceV _ _ _ (by simp; omega), getElem?_spliceV _ _ _ (by simp; omega), Array.toList_setIfInBounds, List.getElem?_set, List.length_cons]
    by_cases hj : off + (k + 1) ≤ j ∧ j < off + (k + 1) + us.length
    · rw [if_pos hj, if_pos (by omega), show j - (off + k) = (j - (off + (k + 1))) + 1 by omega, List.getElem?_cons_succ]
    · rw [if_neg hj]
      by_cases he : off + k = j
      · subst he; rw [if_pos rfl, if_pos (by simp; omega), if_pos (by omega)]; simp
      · rw [if_neg he, if_neg (by omega)]
/-- What a literal's parts make of its zero's cells. -/
def bfill (place : Nat → Option (Nat × Nat)) (cs : List AV) : List (Nat × AV) → Option (List AV)
  | [] => some cs
  | (i, v) :: r =>
    match place i with
    | none => none
    | some (off, size) => if (flat v).length = size ∧ off + size ≤ cs.length ∧ (flat v).all AV.one = true then bfill place (splice cs off (flat v)) r else none
theorem bfill_ok {C : Cfg} {place : Nat → Option (Nat × Nat)} : ∀ {ps : List (Nat × AV)} {cs ds : List AV} {vs : Array Value} {us : List (Nat × Value)}, bfill place cs ps = some ds → Reps C cs vs.toList → (∀ u ∈ vs.toList, u.oneCell' = true) → ps.length = us.length → (∀ (j : Nat) (p : Nat × AV) (q : Nat × Value), ps[j]? = some p → us[j]? = some q → p.1 = q.1 ∧ Rep C p.2 q.2) →
    ∃ ws, Instr.fill place vs us = some ws ∧ Reps C ds ws.toList ∧ ∀ u ∈ ws.toList, u.oneCell' = true
  | [], cs, ds, vs, us, h, hr, h1, hl, hp => by
    have : us = [] := List.eq_nil_of_length_eq_zero hl.symm
    subst this
    simp only [bfill, Option.some.injEq] at h
    subst h
    exact ⟨vs, rfl, hr, h1⟩
  | (i, v) :: r, cs, ds, vs, us, h, hr, h1, hl, hp => by
    match us, hl, hp with
    | (i', u) :: us, hl, hp =>
      obtain ⟨hi, hrep⟩ := hp 0 _ _ rfl rfl
      simp only at hi hrep
      subst hi
      simp only [bfill] at h
      cases hpl : place i with
      | none => rw [hpl] at h; cases h
      | some q =>
        obtain ⟨off, size⟩ := q
        rw [hpl] at h
        simp only at h
        split at h
        · rename_i hc
          obtain ⟨c1, c2, c3⟩ := hc
          obtain ⟨xs, hx1, hx2, hx3⟩ := hrep.flat c3
          have hxl : xs.length = size := by rw [← hx2.1]; exact c1
          have hvl : vs.size = cs.length := by have := hr.1; simpa using this.symm
          have hfold := fold_set off xs 0 vs (by omega)
          simp only [Nat.add_zero] at hfold
          have hspl : Reps C (splice cs off (flat v)) (xs.toArray.zipIdx.foldl (fun cs (p : Value × Nat) => cs.setIfInBounds (off + p.2) p.1) vs).toList := by
            have he : (xs.toArray.zipIdx.foldl (fun cs (p : Value × Nat) => cs.setIfInBounds (off + p.2) p.1) vs) = ((xs.zipIdx 0).foldl (fun cs (p : Value × Nat) => cs.setIfInBounds (off + p.2) p.1) vs) := by simp
            rw [he, hfold]
            exact hr.splice hx2 (by omega)
          have hone : ∀ u ∈ (xs.toArray.zipIdx.foldl (fun cs (p : Value × Nat) => cs.setIfInBounds (off + p.2) p.1) vs).toList, u.oneCell' = true := by
            have he : (xs.toArray.zipIdx.foldl (fun cs (p : Value × Nat) => cs.setIfInBounds (off + p.2) p.1) vs) = ((xs.zipIdx 0).foldl (fun cs (p : Value × Nat) => cs.setIfInBounds (off + p.2) p.1) vs) := by simp
            rw [he, hfold]
            intro u hu
            simp only [spliceV, List.mem_append] at hu
            rcases hu with (hu | hu) | hu
            · exact h1 u (List.mem_of_mem_take hu)
            · exact hx3 u hu
            · exact h1 u (List.mem_of_mem_drop hu)
          obtain ⟨ws, w1, w2, w3⟩ := bfill_ok h hspl hone (by simpa using hl) (fun j p q a b => hp (j + 1) p q (by simpa using a) (by simpa using b))
          refine ⟨ws, ?_, w2, w3⟩
          simp only [Instr.fill, hpl, hx1]
          rw [if_neg (by simp; omega)]
          exact w1
        · cases h
section
variable {P : Program} {ops : Array Oper} {o : Oper} {n : Nat} {fr : List (Nat × AV)} {m : Mem} {dfs : List AV}
theorem zips {C : Cfg} {a : Act} (he : ∀ x, Rep C (ev fr x) (a.eval x)) (parts : List (Nat × Operand)) : ∀ (j : Nat) (p : Nat × AV) (q : Nat × Value), (parts.map fun p => (p.1, ev fr p.2))[j]? = some p → (parts.map fun p => (p.1, a.eval p.2))[j]? = some q → p.1 = q.1 ∧ Rep C p.2 q.2 := by
  intro j p q hp hq
  rw [List.getElem?_map] at hp hq
  obtain ⟨x, hx, rfl⟩ := Option.map_eq_some_iff.1 hp
  rw [hx] at hq
  simp at hq
  subst hq
  exact ⟨rfl, he _⟩
/-- A struct's literal. -/
theorem w_build {d : Nat} {t : TypeId} {parts : List (Nat × Operand)} {fs : Array Field} {pl : List (Nat × Nat)} {z : Value} {ps : List (Nat × AV)} {ds zs : List AV} (hw : Wants ops o ⟨n, fr, m, dfs⟩ true) (hd : o.dst = some d) (hlt : d < n) (ho : o.op = .build t parts.toArray) (ht : P.underlying t = some (.struct fs)) (hz : (P.info? t).map (·.zero) = some (some z)) (hone : z.cells.toList.all (·.oneCell') = true)
    (hpl : ∀ w, (fs.mapM (fun f => Prod.mk f.offset <$> sizeOf f.type : Field → Sem (Nat × Nat))).run P w = .ok pl.toArray w) (hzs : zeroOf z = zs) (hps : (parts.map fun p => (p.1, ev fr p.2)) = ps) (hb : bfill (fun i => pl[i]?) zs ps = some ds) : OneOp P ops o ⟨n, fr, m, dfs⟩ (.agg ds) m := one_val hw hd hlt (aop_pure fun C a w he => by
  subst hps; subst hzs
  obtain ⟨ws, h1, h2, h3⟩ := bfill_ok (vs := z.cells) (us := parts.map fun p => (p.1, a.eval p.2)) hb (reps_zero C z) (fun u hu => List.all_eq_true.1 hone u hu) (by simp) (zips he parts)
  obtain ⟨i, hi, hzi⟩ := Option.map_eq_some_iff.1 hz
  have h1' : Instr.fill (fun i => pl.toArray[i]?) z.cells (parts.map fun p => (p.1, a.eval p.2)) = some ws := by simpa using h1
  refine ⟨.agg ws, ?_, ?_⟩
  · unfold execOp
    simp [ho, Instr.build, zeroValue, typeInfo, hi, hzi, run_underlying ht, hpl, h1]
  · have := Rep.agg ds ws.toList h2.1 h2.2
    simpa using this)
end
end Go.Av
set_option linter.unusedVariables false
set_option linter.unusedSectionVars false
set_option linter.unusedSimpArgs false
namespace Go.Av
open Go.RowKit
variable [Tab]
inductive Bd (fr : List (Nat × AV)) : Option Operand → Int → Int → Prop
  | none (d : Int) : Bd fr none d d
  | some (d v : Int) (x : Operand) (k : IntKind) (h : ev fr x = .int k v) : Bd fr (some x) d v
theorem Bd.inv {fr : List (Nat × AV)} {x : Option Operand} {d v : Int} (h : Bd fr x d v) {C : Cfg} {a : Act} (he : ∀ x, Rep C (ev fr x) (a.eval x)) : (x = Option.none ∧ v = d) ∨ ∃ y k, x = Option.some y ∧ a.eval y = .int k v := by
  match h with
  | .none _ => exact .inl ⟨rfl, rfl⟩
  | .some _ _ y k hy =>
    have := he y
    rw [hy] at this
    exact .inr ⟨y, k, rfl, this.int_inv⟩
theorem run_sliceBounds2 {P : Program} (w : World) (isSlice : Bool) (len cap : Nat) {lo hi : Option Value} {l h : Int} (hlo : lo = none ∧ l = 0 ∨ ∃ k, lo = some (.int k l)) (hhi : hi = none ∧ h = (len : Int) ∨ ∃ k, hi = some (.int k h)) (h0 : 0 ≤ l) (h1 : l ≤ h) (h2 : h ≤ cap) :
    (Instr.sliceBounds isSlice len cap lo hi none).run P w = .ok (l.toNat, h.toNat, cap) w := by
  have hb : ∀ (k : IntKind) (i : Int) (y : Nat) (code : BoundsCode), 0 ≤ i → i ≤ y → (Instr.sliceBound (.int k i) y code).run P w = .ok i.toNat w := fun k i y code a b => run_sliceBound (P := P) (w := w) k i y code a b
  have h1' : l ≤ (h.toNat : Int) := by omega
  rcases hlo with ⟨rfl, rfl⟩ | ⟨k, rfl⟩ <;> rcases hhi with ⟨rfl, rfl⟩ | ⟨k', rfl⟩
  · simp [Instr.sliceBounds]
  · simp [Instr.sliceBounds, hb k' h cap _ (by omega) h2]
  · simp [Instr.sliceBounds, hb k l len _ h0 h1]
  · simp [Instr.sliceBounds, hb k' h cap _ (by omega) h2, hb k l h.toNat _ h0 h1']
section
variable {P : Program} {ops : Array Oper} {o : Oper} {n : Nat} {fr : List (Nat × AV)} {m : Mem} {dfs : List AV}
theorem bdv {C : Cfg} {a : Act} {x : Option Operand} {d v : Int} (h : Bd fr x d v) (he : ∀ x, Rep C (ev fr x) (a.eval x)) : x.map a.eval = none ∧ v = d ∨ ∃ k, x.map a.eval = some (.int k v) := by
  rcases h.inv he with ⟨rfl, rfl⟩ | ⟨y, k, rfl, hy⟩
  · exact .inl ⟨rfl, rfl⟩
  · exact .inr ⟨k, by simp [hy]⟩
theorem w_cutStr {d : Nat} {x : Operand} {lo hi : Option Operand} {t : TypeId} {s : List UInt8} {l h : Int} (r : List UInt8) (hw : Wants ops o ⟨n, fr, m, dfs⟩ true) (hd : o.dst = some d) (hlt : d < n) (ho : o.op = .slice t x lo hi none) (ht : P.underlying t = some .string) (hx : ev fr x = .str s) (hlo : Bd fr lo 0 l) (hhi : Bd fr hi s.length h) (h0 : 0 ≤ l) (h1 : l ≤ h) (h2 : h ≤ s.length) (hr : (s.take h.toNat).drop l.toNat = r) : OneOp P ops o ⟨n, fr, m, dfs⟩ (.str r) m := one_val hw hd hlt (aop_pure fun C a w he => by
  have hxr := he x
  rw [hx] at hxr
  have hxv := hxr.str_inv
  subst hr
  have hb := run_sliceBounds2 (P := P) w false (⟨s.toArray⟩ : ByteArray).size (⟨s.toArray⟩ : ByteArray).size (bdv hlo he) (by rw [bytes_size]; exact bdv hhi he) h0 h1 (by rw [bytes_size]; exact h2)
  refine ⟨.string ⟨((s.take h.toNat).drop l.toNat).toArray⟩, ?_, .str _⟩
  have hext : (⟨s.toArray⟩ : ByteArray).extract l.toNat h.toNat = ⟨((s.take h.toNat).drop l.toNat).toArray⟩ := by
    apply ByteArray.ext
    apply Array.ext'
    simp only [ByteArray.data_extract, Array.toList_extract, List.extract_eq_take_drop, List.drop_take]
  simp only [execOp, ho, hxv, Instr.sliceAt, Instr.slice, run_underlying ht, Sem.run_bind, Result.andThen_ok, hb, Option.map_none, Option.isSome_none, Bool.false_eq_true, if_false, hext, Sem.run_pure])
theorem w_cutSl {d : Nat} {x : Operand} {lo hi : Option Operand} {t e : TypeId} {st : Option Nat} {sz : Nat} {els : List (List AV)} {l h : Int} (r : List (List AV)) (hw : Wants ops o ⟨n, fr, m, dfs⟩ true) (hd : o.dst = some d) (hlt : d < n) (ho : o.op = .slice t x lo hi none) (ht : P.underlying t = some (.slice e)) (hs : (P.info? e).map (·.size) = some sz) (hx : ev fr x = .sl st sz els) (hlo : Bd fr lo 0 l) (hhi : Bd fr hi els.length h) (h0 : 0 ≤ l) (h1 : l ≤ h) (h2 : h ≤ els.length) (hr : (els.take h.toNat).drop l.toNat = r) : OneOp P ops o ⟨n, fr, m, dfs⟩ (.sl none sz r) m := one_val hw hd hlt (aop_pure fun C a w he => by
  have hxr := he x
  rw [hx] at hxr
  obtain ⟨A, c, b, off, ys, hv, hcc, hm, hN, hst, hA, hz, hr1, hr2⟩ := hxr.sl_inv
  have hb := run_sliceBounds2 (P := P) w true els.length c (bdv hlo he) (bdv hhi he) h0 h1 (by omega)
  have hlen : r.length = h.toNat - l.toNat := by subst hr; simp; omega
  have hrz : ∀ (i : Nat) (cs : List AV), r[i]? = some cs → els[l.toNat + i]? = some cs ∧ cs.length = sz := fun i cs hi => by
    subst hr
    rw [List.getElem?_drop, List.getElem?_take] at hi
    split at hi
    · exact ⟨hi, hz _ _ hi⟩
    · cases hi
  refine ⟨.slice (if c = l.toNat then A else A.map (·.add (l.toNat * sz))) (h.toNat - l.toNat) (c - l.toNat), ?_, ?_⟩
  · simp only [execOp, ho, hv, Instr.sliceAt, Instr.slice, run_underlying ht, Sem.run_bind, Result.andThen_ok, hb, Option.map_none, run_sizeOf' hs, Sem.run_pure]
  · rw [← hlen]
    refine Rep.sl_mk (b := b) (off := off + l.toNat * sz) (ys := (ys.drop (l.toNat * sz)).take (r.length * sz)) (by omega) (by omega) (fun hAn => ?_) (fun t ht => by cases ht) (fun hp => ?_) (fun i cs hi => (hrz i cs hi).2) ⟨⟨?_, fun j y v hy hvv => ?_⟩, fun o' u hu => ?_⟩
    · cases A with
      | none => have := hN rfl; omega
      | some q => split at hAn <;> simp at hAn
    · have hAe := hA (by omega)
      subst hAe
      rw [if_neg (by omega)]
      simp [addr_add]
    · rw [flatten_length (fun i cs hi => (hrz i cs hi).2), List.length_take, List.length_drop, ← hr1.1, flatten_length hz]
      have : l.toNat * sz + r.length * sz ≤ els.length * sz := by rw [← Nat.add_mul]; exact Nat.mul_le_mul_right _ (by omega)
      omega
    · rw [List.getElem?_take] at hvv
      split at hvv
      · rw [List.getElem?_drop] at hvv
        obtain ⟨cs, c1, c2⟩ := flatten_back (fun i cs hi => (hrz i cs hi).2) hy
        have c3 := flatten_at hz (hrz _ _ c1).1 c2
        have : (l.toNat + j / sz) * sz + j % sz = l.toNat * sz + j := by
          rw [Nat.add_mul, Nat.add_assoc]; congr 1
          rw [Nat.mul_comm]; exact Nat.div_add_mod j sz
        rw [this] at c3
        exact hr1.2 _ _ _ c3 hvv
      · cases hvv
    · rw [List.getElem?_take] at hu
      split at hu
      · rw [List.getElem?_drop] at hu
        rw [Nat.add_assoc]; exact hr2 _ u hu
      · cases hu)
def toV : AV → Value
  | .int k x => .int k x
  | .bool b => .bool b
  | .str s => .string ⟨s.toArray⟩
  | _ => .tuple #[]
def scal : AV → Bool
  | .int _ _ | .bool _ | .str _ => true
  | _ => false
theorem Rep.toV {C : Cfg} {x : AV} {v : Value} (h : Rep C x v) (hs : scal x = true) : v = Av.toV x := by
  cases h <;> first | rfl | (simp [scal] at hs)
theorem Reps.toV {C : Cfg} : ∀ {xs : List AV} {vs : List Value}, Reps C xs vs → xs.all scal = true → vs = xs.map Av.toV
  | [], vs, h, _ => by rw [h.none]; rfl
  | x :: xs, vs, h, hs => by
    obtain ⟨v, us, rfl, h1, h2⟩ := h.head
    simp only [List.all_cons, Bool.and_eq_true] at hs
    rw [h1.toV hs.1, h2.toV hs.2]; rfl
theorem w_eqAgg {d : Nat} {bo : BinOp} {t t' : TypeId} {x y : Operand} {cs ds : List AV} {r : Bool} (hw : Wants ops o ⟨n, fr, m, dfs⟩ true) (hd : o.dst = some d) (hlt : d < n) (ho : o.op = .binOp bo t x y t') (hx : ev fr x = .agg cs) (hy : ev fr y = .agg ds) (hc : cs.all scal = true) (hd' : ds.all scal = true)
    (hr : ∀ w, (do eqGuard bo t x y (.agg (cs.map toV).toArray) (.agg (ds.map toV).toArray); binOp bo t (.agg (cs.map toV).toArray) (.agg (ds.map toV).toArray) : Sem Value).run P w = .ok (.bool r) w) : OneOp P ops o ⟨n, fr, m, dfs⟩ (.bool r) m := one_val hw hd hlt (aop_pure fun C a w he => by
  have h1 := he x
  rw [hx] at h1
  have h2 := he y
  rw [hy] at h2
  obtain ⟨vs, hv, hvs⟩ := h1.agg_inv
  obtain ⟨us, hu, hus⟩ := h2.agg_inv
  rw [hvs.toV hc] at hv
  rw [hus.toV hd'] at hu
  refine ⟨.bool r, ?_, .bool r⟩
  have := hr w
  unfold execOp
  simp only [ho, hv, hu]
  rw [Sem.run_bind, this]; rfl)
theorem run_eqB {w : World} {t : TypeId} (x y : Operand) {p q : Bool} (ht : P.underlying t = some .bool) : ((eqGuard .eql t x y (.bool p) (.bool q)).run P w).andThen (fun _ w => (binOp .eql t (.bool p) (.bool q)).run P w) = .ok (.bool (p == q)) w := by
  have h1 : (eqGuard .eql t x y (.bool p) (.bool q)).run P w = .ok () w := by simp [eqGuard]
  rw [h1, Result.andThen_ok]
  show ((Op.equal t (.bool p) (.bool q)).bind fun b => Sem.pure (Value.bool b)).run P w = _
  have h2 : (Op.equal t (.bool p) (.bool q)).run P w = .ok (p == q) w := run_equalIn_bool w 9999 t p q ht
  rw [Go.Sem.run_bind', h2]; rfl
theorem run_neB {w : World} {t : TypeId} (x y : Operand) {p q : Bool} (ht : P.underlying t = some .bool) : ((eqGuard .neq t x y (.bool p) (.bool q)).run P w).andThen (fun _ w => (binOp .neq t (.bool p) (.bool q)).run P w) = .ok (.bool (p != q)) w := by
  have h1 : (eqGuard .neq t x y (.bool p) (.bool q)).run P w = .ok () w := by simp [eqGuard]
  rw [h1, Result.andThen_ok]
  show ((Op.equal t (.bool p) (.bool q)).bind fun b => Sem.pure (Value.bool (!b))).run P w = _
  have h2 : (Op.equal t (.bool p) (.bool q)).run P w = .ok (p == q) w := run_equalIn_bool w 9999 t p q ht
  rw [Go.Sem.run_bind', h2]; rfl
theorem w_eqBool {d : Nat} {t t' : TypeId} {x y : Operand} {p q : Bool} (hw : Wants ops o ⟨n, fr, m, dfs⟩ true) (hd : o.dst = some d) (hlt : d < n) (ho : o.op = .binOp .eql t x y t') (ht : P.underlying t = some .bool) (hx : ev fr x = .bool p) (hy : ev fr y = .bool q) : OneOp P ops o ⟨n, fr, m, dfs⟩ (.bool (p == q)) m := one_val hw hd hlt (aop_pure fun C a w he => by
  have h1 := he x
  rw [hx] at h1
  have h2 := he y
  rw [hy] at h2
  exact ⟨.bool (p == q), by simp only [execOp, ho, h1.bool_inv, h2.bool_inv, Sem.run_bind, run_eqB (P := P) (w := w) x y ht, Result.andThen_ok, Sem.run_pure], .bool _⟩)
theorem w_neBool {d : Nat} {t t' : TypeId} {x y : Operand} {p q : Bool} (hw : Wants ops o ⟨n, fr, m, dfs⟩ true) (hd : o.dst = some d) (hlt : d < n) (ho : o.op = .binOp .neq t x y t') (ht : P.underlying t = some .bool) (hx : ev fr x = .bool p) (hy : ev fr y = .bool q) : OneOp P ops o ⟨n, fr, m, dfs⟩ (.bool (p != q)) m := one_val hw hd hlt (aop_pure fun C a w he => by
  have h1 := he x
  rw [hx] at h1
  have h2 := he y
  rw [hy] at h2
  exact ⟨.bool (p != q), by simp only [execOp, ho, h1.bool_inv, h2.bool_inv, Sem.run_bind, run_neB (P := P) (w := w) x y ht, Result.andThen_ok, Sem.run_pure], .bool _⟩)
end
section
variable {P : Program} {w : World} {d : Nat} {xs ys : Array Value} {f : Field} {fs : List Field} {a b : Value} {r s : Bool}
theorem eqF_cons (hn : (f.name == "_") = false) (ha : (part f.type xs f.offset).run P w = .ok a w) (hb : (part f.type ys f.offset).run P w = .ok b w) (he : (Op.equalIn d f.type a b).run P w = .ok r w) (hr : (Op.eqFields d xs ys fs).run P w = .ok s w) : (Op.eqFields d xs ys (f :: fs)).run P w = .ok (r && s) w := by
  have hn' : f.name ≠ "_" := by simpa using hn
  rw [Op.eqFields]
  simp only [if_pos hn', Sem.run_bind, ha, hb, he, Result.andThen_ok]
  cases r
  · simp
  · simpa using hr
theorem eqF_nil : (Op.eqFields d xs ys []).run P w = .ok true w := by simp [Op.eqFields]
theorem eqI_int {t : TypeId} {k k' : IntKind} {p q : Int} (h : P.underlying t = some (.int k')) : (Op.equalIn (d + 1) t (.int k p) (.int k q)).run P w = .ok (p == q) w := run_equalIn_int w d t k k' p q h
theorem eqI_str {t : TypeId} {p q : List UInt8} (h : P.underlying t = some .string) : (Op.equalIn (d + 1) t (.string ⟨p.toArray⟩) (.string ⟨q.toArray⟩)).run P w = .ok (p == q) w := by
  rw [run_equalIn_string w d t _ _ h]
  simp
end
end Go.Av
set_option linter.unusedVariables false
set_option linter.unusedSectionVars false
set_option linter.unusedSimpArgs false
namespace Go.Av
open Go.RowKit
variable [Tab]
theorem closed_map {α : Type} {f : α → List AV} (h : ∀ a, ∀ x ∈ f a, Closed x) {l : List α} : ∀ cs ∈ l.map f, ∀ x ∈ cs, Closed x := by
  intro cs hc x hx
  obtain ⟨a, _, rfl⟩ := List.mem_map.1 hc
  exact h a x hx
theorem weakers_refl : ∀ (xs : List AV), Weakers xs xs
  | [] => trivial
  | x :: xs => ⟨weaker_refl x, weakers_refl xs⟩
section
variable {P : Program} {G : Env} {C0 : Cfg} {Q : AEx → St → Prop} {s s' : St} {ops : Array Oper} {o : Oper}
/-- The end of a function that answers r. -/
inductive AFin (P : Program) (fn : Func) (r : AV) : AEx → St → Prop
  | normal (s : St) (h : s.dfs = []) (k : ARes P fn s r) : AFin P fn r .normal s
  | ret (s : St) (h : s.dfs = []) (k : ARes P fn s r) : AFin P fn r .ret s
theorem AFin.inv {P : Program} {fn : Func} {r : AV} {e : AEx} {s : St} (h : AFin P fn r e s) : s.dfs = [] ∧ ARes P fn s r := by cases h <;> exact ⟨‹_›, ‹_›⟩
end
end Go.Av
set_option linter.unusedVariables false
set_option linter.unusedSectionVars false
set_option linter.unusedSimpArgs false
namespace Go.Av
open Go.RowKit
variable [Tab]
theorem Rep.rs_inv {C : Cfg} {t : Nat} {v : Value} (h : Rep C (.rs t) v) : C.τ[t]? = some v ∧ ∃ A n c, v = .slice A n c := by
  cases h; exact ⟨‹_›, _, _, _, rfl⟩
theorem Rep.rp_inv {C : Cfg} {t sz j fo : Nat} {v : Value} (h : Rep C (.rp t sz j fo) v) : ∃ g n c, C.τ[t]? = some (.slice (some ⟨g, 0, none⟩) n c) ∧ v = .pointer (some ⟨g, j * sz + fo, none⟩) ∧ j < n := by
  cases h; exact ⟨_, _, _, ‹_›, rfl, ‹_›⟩
theorem splice_length {cs ys : List AV} {off : Nat} (h : off + ys.length ≤ cs.length) : (splice cs off ys).length = cs.length := by simp [splice]; omega
theorem set_rows {els : List (List AV)} {sz j : Nat} {r : List AV} (hz : ∀ (i : Nat) (cs : List AV), els[i]? = some cs → cs.length = sz) (hr : r.length = sz) : ∀ (i : Nat) (cs : List AV), (els.set j r)[i]? = some cs → cs.length = sz := by
  intro i cs h
  rw [List.getElem?_set] at h
  split at h
  · split at h
    · injection h with h; subst h; exact hr
    · cases h
  · exact hz i cs h
theorem flatten_set {sz : Nat} : ∀ {els : List (List AV)}, (∀ (i : Nat) (cs : List AV), els[i]? = some cs → cs.length = sz) → ∀ {j fo : Nat} {cs ys : List AV}, els[j]? = some cs → fo + ys.length ≤ sz → (els.set j (splice cs fo ys)).flatten = splice els.flatten (j * sz + fo) ys
  | [], _, j, fo, cs, ys, h, _ => by simp at h
  | c :: r, hz, j, fo, cs, ys, h, hle => by
    have hc := hz 0 c rfl
    cases j with
    | zero =>
      simp at h; subst h
      simp only [List.set_cons_zero, List.flatten_cons, Nat.zero_mul, Nat.zero_add, splice]
      rw [List.take_append_of_le_length (by omega), List.drop_append_of_le_length (by omega)]
      simp
    | succ j =>
      have ih := flatten_set (els := r) (fun i cs h => hz (i + 1) cs (by simpa using h)) (j := j) (fo := fo) (ys := ys) (by simpa using h) hle
      rw [List.set_cons_succ, List.flatten_cons, ih, List.flatten_cons]
      simp only [splice]
      have e1 : (j + 1) * sz + fo = c.length + (j * sz + fo) := by rw [Nat.succ_mul]; omega
      rw [e1, List.take_append, List.take_of_length_le (l := c) (by omega), Nat.add_sub_cancel_left, Nat.add_assoc c.length, List.drop_append, List.drop_of_length_le (l := c) (by omega), Nat.add_sub_cancel_left]
      simp
section
variable {P : Program} {o : Oper} {s : St}
/-- What is known of an own row. -/
theorem Gam.own {G : Env} {C0 C : Cfg} {a : Act} {w : World} (h : Gam G C0 C s a w) {t : Nat} {e : TypeId} {sz : Nat} {els : List (List AV)} {v : Value} (ht : s.m.lives[t]? = some (some (.own e sz els))) (hv : C.τ[t]? = some v) : StpOk G C w (.own e sz els) v := h.mem.stp t _ v ht hv
theorem op_own_len {x : Operand} {t et e : TypeId} {k sz : Nat} {els : List (List AV)} (ho : o.op = .call { callee := .builtin .len, args := #[x], argTypes := #[t] }) (ht : P.underlying t = some (.slice et)) (hx : ev s.fr x = .rs k) (hk : s.m.lives[k]? = some (some (.own e sz els))) : AOp P o s (.int .i64 els.length) s.m := by
  intro G C0 C a w hg
  have h1 := hg.ev x
  rw [hx] at h1
  obtain ⟨hτ, A, n, c, hv⟩ := h1.rs_inv
  have hs := hg.own hk hτ
  have hn : n = els.length := by
    rcases hs.2 with ⟨h0, h2⟩ | ⟨g, c', cur, ys, h0, _⟩
    · rw [hv] at h0; injection h0 with _ h0 _; rw [h0, h2]; rfl
    · rw [hv] at h0; injection h0 with _ h0 _
  subst hn
  exact ⟨.int .i64 els.length, C, w, len_exec ho hv (by simp [Builtin.len_, run_underlying ht, goInt]), .refl C, hg.mem, .int _ _⟩
theorem op_own_idx {x i : Operand} {t et e : TypeId} {kd : IntKind} {k sz : Nat} {els : List (List AV)} {j : Int} (ho : o.op = .indexAddr t x i) (ht : P.underlying t = some (.slice et)) (hsz : (P.info? et).map (·.size) = some sz) (hx : ev s.fr x = .rs k) (hk : s.m.lives[k]? = some (some (.own e sz els))) (hi : ev s.fr i = .int kd j) (h0 : 0 ≤ j) (h1 : j < els.length) : AOp P o s (.rp k sz j.toNat 0) s.m := by
  intro G C0 C a w hg
  have q1 := hg.ev x
  rw [hx] at q1
  have q2 := hg.ev i
  rw [hi] at q2
  have q2 := q2.int_inv
  obtain ⟨hτ, A, n, c, hv⟩ := q1.rs_inv
  have hs := hg.own hk hτ
  rcases hs.2 with ⟨h3, h2⟩ | ⟨g, c', cur, ys, h3, _⟩
  · subst h2; simp at h1; omega
  · rw [hv] at h3
    injection h3 with a1 a2 a3
    subst a1; subst a2; subst a3
    refine ⟨.pointer (some ⟨g, j.toNat * sz, none⟩), C, w, ?_, .refl C, hg.mem, ?_⟩
    · simp [execOp, ho, hv, q2, Instr.indexAt, asIntOf, run_underlying ht, run_sizeOf' hsz, h0, h1, addr_add]
    · exact .rp k sz j.toNat 0 g _ _ (by rw [hτ, hv]) (by omega)
theorem op_own_field {x : Operand} {t : TypeId} {f fo fo' k sz j : Nat} {fs : Array Field} {fl : Field} (ho : o.op = .fieldAddr t x f) (ht : P.underlying t = some (.struct fs)) (hf : fs[f]? = some fl) (hp : ∀ (a : Addr) (w : World), (fieldPlace a fl).run P w = .ok (a.add fo) w) (hx : ev s.fr x = .rp k sz j fo') : AOp P o s (.rp k sz j (fo' + fo)) s.m := by
  intro G C0 C a w hg
  have h1 := hg.ev x
  rw [hx] at h1
  obtain ⟨g, n, c, hτ, hv, hj⟩ := h1.rp_inv
  exact ⟨.pointer (some ⟨g, j * sz + (fo' + fo), none⟩), C, w, by simp [execOp, ho, hv, Instr.fieldAt, Instr.sureAddr, run_underlying ht, hf, hp, addr_add, Nat.add_assoc], .refl C, hg.mem, .rp k sz j _ g n c hτ hj⟩
theorem op_own_nilCheck {x : Operand} {k sz j fo : Nat} (ho : o.op = .nilCheck x) (hx : ev s.fr x = .rp k sz j fo) : AOp P o s (.rp k sz j fo) s.m := by
  intro G C0 C a w hg
  have h1 := hg.ev x
  rw [hx] at h1
  obtain ⟨g, n, c, hτ, hv, hj⟩ := h1.rp_inv
  exact ⟨a.eval x, C, w, by simp [execOp, ho, hv], .refl C, hg.mem, h1⟩
theorem own_cells {G : Env} {C : Cfg} {w : World} {e : TypeId} {sz : Nat} {els : List (List AV)} {g n c : Nat} (hs : StpOk G C w (.own e sz els) (.slice (some ⟨g, 0, none⟩) n c)) :
    ∃ cur ys, n = els.length ∧ w.heap[g]? = some (.cells cur e (0, 0)) ∧ els.length ≤ c ∧ c ≤ maxLen ∧ cur.size = c * sz ∧ ¬ G.prot g ∧ (∀ o, C.pool g o = none) ∧ cur.toList.take (els.length * sz) = ys ∧ Reps C els.flatten ys ∧ (∀ u ∈ ys, u.oneCell' = true) ∧ ys.length = els.length * sz ∧ ∀ (o : Nat) (u : Value), ys[o]? = some u → w.cell? ⟨g, o, none⟩ = some u := by
  rcases hs.2 with ⟨h3, h2⟩ | ⟨g', c', cur, ys, h3, a1, a2, a3, a4, a5, a6, a7, a8, a9⟩
  · cases h3
  · injection h3 with b1 b2 b3
    injection b1 with b1
    injection b1 with b1 _ _
    subst b1; subst b2; subst b3
    refine ⟨cur, ys, rfl, a1, a2, a3, a4, a5, a6, a7, a8, a9, by rw [← a8.1, flatten_length hs.1], fun o u hu => ?_⟩
    rw [← a7, List.getElem?_take] at hu
    split at hu
    · simp only [World.cell?, a1, Option.isSome_none, Bool.false_eq_true, if_false]; simpa using hu
    · cases hu
theorem op_own_load {t : TypeId} {x : Operand} {k sz j fo : Nat} {e : TypeId} {els : List (List AV)} {cs : List AV} {v : AV} (ho : o.op = .load t x) (ht : (P.underlying t).map aggD = some false) (hx : ev s.fr x = .rp k sz j fo) (hk : s.m.lives[k]? = some (some (.own e sz els))) (hc : j < els.length → els[j]? = some cs) (hv : cs[fo]? = some v) : AOp P o s v s.m := by
  intro G C0 C a w hg
  have h1 := hg.ev x
  rw [hx] at h1
  obtain ⟨g, n, c, hτ, hp, hj⟩ := h1.rp_inv
  have hs := hg.own hk hτ
  obtain ⟨cur, ys, b1, b2, b3, b4, b5, b6, b7, b8, b9, b10, b11, b12⟩ := own_cells hs
  have hc := hc (by omega)
  have hfl := flatten_at hs.1 hc hv
  obtain ⟨u, hu, hru⟩ := b9.at hfl
  exact ⟨u, C, w, by simp [execOp, ho, hp, Instr.loadAt, Instr.sureAddr, run_loadVar_one ht (b12 _ u hu)], .refl C, hg.mem, hru⟩
theorem flatten_part {sz : Nat} {els : List (List AV)} (hz : ∀ (i : Nat) (cs : List AV), els[i]? = some cs → cs.length = sz) {j fo n : Nat} {cs : List AV} (hc : els[j]? = some cs) (hle : fo + n ≤ sz) : (els.flatten.drop (j * sz + fo)).take n = (cs.drop fo).take n := by
  have h1 := flatten_elem hz hc
  rw [← h1, List.drop_take, List.drop_drop, List.take_take]
  rw [Nat.min_eq_left (by omega)]
theorem op_own_loadA {t : TypeId} {x : Operand} {k sz j fo nn : Nat} {e : TypeId} {els : List (List AV)} {cs ds : List AV} (ho : o.op = .load t x) (ht : (P.underlying t).map aggD = some true) (hn : (P.info? t).map (·.size) = some nn) (hx : ev s.fr x = .rp k sz j fo) (hk : s.m.lives[k]? = some (some (.own e sz els))) (hc : j < els.length → els[j]? = some cs) (hle : fo + nn ≤ sz) (hds : (cs.drop fo).take nn = ds) : AOp P o s (.agg ds) s.m := by
  intro G C0 C a w hg
  have h1 := hg.ev x
  rw [hx] at h1
  obtain ⟨g, n, c, hτ, hp, hj⟩ := h1.rp_inv
  have hs := hg.own hk hτ
  obtain ⟨cur, ys, b1, b2, b3, b4, b5, b6, b7, b8, b9, b10, b11, b12⟩ := own_cells hs
  have hc := hc (by omega)
  have hjl := (List.getElem?_eq_some_iff.1 hc).1
  have hle2 : j * sz + sz ≤ els.length * sz := by rw [← Nat.succ_mul]; exact Nat.mul_le_mul_right _ hjl
  have hl : ((ys.drop (j * sz + fo)).take nn).length = nn := by rw [List.length_take, List.length_drop]; omega
  have hrun := run_loadVar_agg (w := w) (g := g) (o := j * sz + fo) ht hn hl (fun i v hi => by
    rw [List.getElem?_take] at hi
    split at hi
    · rw [List.getElem?_drop] at hi; exact b12 _ v hi
    · cases hi)
  refine ⟨.agg ((ys.drop (j * sz + fo)).take nn).toArray, C, w, by simp [execOp, ho, hp, Instr.loadAt, Instr.sureAddr, hrun], .refl C, hg.mem, ?_⟩
  rw [← hds, ← flatten_part hs.1 hc hle]
  have hfl := flatten_length hs.1
  refine .agg _ _ (by simp only [List.length_take, List.length_drop]; omega) fun i x v hx' hv => ?_
  rw [List.getElem?_take] at hx' hv
  split at hx'
  · rename_i hlt
    rw [if_pos hlt] at hv
    rw [List.getElem?_drop] at hx' hv
    exact b9.2 _ _ _ hx' hv
  · cases hx'
end
end Go.Av
set_option linter.unusedVariables false
set_option linter.unusedSectionVars false
set_option linter.unusedSimpArgs false
namespace Go.Av
open Go.RowKit
variable [Tab]
/-- A stamp's row is told anew, the same stamp. -/
theorem MemOk.putL {G : Env} {C : Cfg} {m : Mem} {w : World} {k : Nat} (h : MemOk G C (m.kill k) w) {L : Live} {v : Value} (hk : k < m.lives.length) (hv : C.τ[k]? = some v) (h2 : StpOk G C w L v)
    (hb : ∀ (k' : Nat) (B : ABlk) (g : Nat), m.blks[k']? = some (some B) → C.ρ[k']? = some g → v.ownBlock ≠ some g)
    (hl : ∀ (t : Nat) (p : Live) (v' : Value) (g : Nat), t ≠ k → m.lives[t]? = some (some p) → C.τ[t]? = some v' → v'.ownBlock = some g → v.ownBlock ≠ some g) :
    MemOk G C { m with lives := m.lives.set k (some L) } w := by
  have key : ∀ {t : Nat} {p : Live}, (m.lives.set k (some L))[t]? = some (some p) → (t = k ∧ p = L) ∨ (t ≠ k ∧ m.lives[t]? = some (some p)) := by
    intro t p hh
    by_cases e : t = k
    · subst e
      rw [List.getElem?_set_self hk] at hh
      injection hh with hh
      injection hh with hh
      exact .inl ⟨rfl, hh.symm⟩
    · rw [List.getElem?_set_ne (Ne.symm e)] at hh
      exact .inr ⟨e, hh⟩
  have back : ∀ {t : Nat} {p : Live}, t ≠ k → m.lives[t]? = some (some p) → (m.kill k).lives[t]? = some (some p) := fun e hh => by
    show (m.lives.set k none)[_]? = _
    rw [List.getElem?_set_ne (Ne.symm e)]; exact hh
  refine ⟨h.os, h.tape, h.output, h.size, h.kept, h.old, h.pool, h.ρlen, ?_, h.blk, h.dist, ?_, ?_, ?_, h.ppool, h.fixed⟩
  · have := h.τlen; simpa [Mem.kill] using this
  · intro t p v' ht hv'
    rcases key ht with ⟨rfl, rfl⟩ | ⟨e, hh⟩
    · rw [hv] at hv'; injection hv' with hv'; subst hv'; exact h2
    · exact h.stp t p v' (back e hh) hv'
  · intro t t' p p' v1 v2 g a1 a2 b1 b2 c1 c2
    rcases key a1 with ⟨q1, _⟩ | ⟨e1, q1⟩ <;> rcases key a2 with ⟨q2, _⟩ | ⟨e2, q2⟩
    · exact q1.trans q2.symm
    · rw [q1, hv] at b1; injection b1 with b1; subst b1; exact absurd c1 (hl _ _ _ g e2 q2 b2 c2)
    · rw [q2, hv] at b2; injection b2 with b2; subst b2; exact absurd c2 (hl _ _ _ g e1 q1 b1 c1)
    · exact h.sdist t t' p p' v1 v2 g (back e1 q1) (back e2 q2) b1 b2 c1 c2
  · intro t k' p B v' g ht hk' hv' hg'
    rcases key ht with ⟨rfl, rfl⟩ | ⟨e, hh⟩
    · rw [hv] at hv'; injection hv' with hv'; subst hv'; exact hb k' B g hk' hg'
    · exact h.bdist t k' p B v' g (back e hh) hk' hv' hg'
section
variable {P : Program} {o : Oper} {s : St}
theorem op_own_store {t : TypeId} {p x : Operand} {k sz j fo nn : Nat} {e : TypeId} {els : List (List AV)} {cs : List AV} {y : AV} (h : o.op = .store t p x) (hn : (P.info? t).map (·.size) = some nn) (hp : ev s.fr p = .rp k sz j fo) (hx : ev s.fr x = y) (hk : s.m.lives[k]? = some (some (.own e sz els)))
    (hc : j < els.length → els[j]? = some cs) (hy : (flat y).all AV.one = true) (hyl : (flat y).length = nn) (hle : fo + nn ≤ sz) : AOpU P o s { s.m with lives := s.m.lives.set k (some (.own e sz (els.set j (splice cs fo (flat y))))) } := by
  intro G C0 C a w hg
  have h1 := hg.ev p
  rw [hp] at h1
  obtain ⟨g, n, c, hτ, hpv, hj⟩ := h1.rp_inv
  have h2 := hg.ev x
  rw [hx] at h2
  obtain ⟨us, hus, hru, hone⟩ := h2.flat hy
  have hs := hg.own hk hτ
  obtain ⟨cur, ys, b1, b2, b3, b4, b5, b6, b7, b8, b9, b10, b11, b12⟩ := own_cells hs
  subst b1
  have hc := hc hj
  have hjl := (List.getElem?_eq_some_iff.1 hc).1
  have hle2 : j * sz + sz ≤ els.length * sz := by rw [← Nat.succ_mul]; exact Nat.mul_le_mul_right _ hjl
  have hle3 : els.length * sz ≤ c * sz := Nat.mul_le_mul_right _ b3
  have hul : us.length = nn := by rw [← hru.1]; exact hyl
  have hcl : cs.length = sz := hs.1 _ _ hc
  have hcl2 : cur.toList.length = c * sz := by rw [Array.length_toList, b5]
  have hcur : w.heap[g]? = some (.cells cur.toList.toArray e (0, 0)) := by simpa using b2
  obtain ⟨w', hrun, hh', hs', hb', e1, e2, e3⟩ := run_storeCells' (P := P) g e us (j * sz + fo) 0 w cur.toList hcur (by rw [hcl2]; omega) hone
  simp only [Nat.add_zero] at hh'
  have hel : (els.set j (splice cs fo (flat y))).length = els.length := by simp
  have hsl : (splice cs fo (flat y)).length = sz := by rw [splice_length (by rw [hyl, hcl]; exact hle), hcl]
  refine ⟨C, w', ?_, .refl C, ?_⟩
  · simp [execOp, h, hpv, Instr.storeAt, Instr.sureAddr, storeVar, run_sizeOf' hn, hus, hul, hrun]
  · have hown : (Value.slice (some ⟨g, 0, none⟩) els.length c).ownBlock = some g := rfl
    have hbl : ∀ (k' : Nat) (B : ABlk) (g' : Nat), s.m.blks[k']? = some (some B) → C.ρ[k']? = some g' → (Value.slice (some ⟨g, 0, none⟩) els.length c).ownBlock ≠ some g' := fun k' B g' q1 q2 => hg.mem.bdist k k' _ B _ g' hk q1 hτ q2
    have hll : ∀ (t' : Nat) (p : Live) (v' : Value) (g' : Nat), t' ≠ k → s.m.lives[t']? = some (some p) → C.τ[t']? = some v' → v'.ownBlock = some g' → (Value.slice (some ⟨g, 0, none⟩) els.length c).ownBlock ≠ some g' := fun t' p v' g' q0 q1 q2 q3 q4 => q0 (hg.mem.sdist t' k p _ v' _ g' q1 hk q2 hτ q3 q4)
    have h0 : MemOk G C (s.m.kill k) w' := by
      refine hg.mem.turn (s.m.kill_fewer k) (.refl C) rfl rfl e1 e2 e3 (Nat.le_of_eq hs'.symm) (fun b => b = g) (fun b e => e ▸ b6) (fun b _ hx => hb' b hx) (fun b o v hpv => ?_) (fun b o v hp => .inl hp) (fun k' B g' hh hg' e => ?_) (fun t' p v g' ht hv hg' e => ?_)
      · have hne : b ≠ g := fun e => by rw [e, b7 o] at hpv; cases hpv
        exact ⟨(World.cell?_of_block (w := w) (hb' b hne)).trans (hg.mem.pool b o v hpv).1, (hg.mem.pool b o v hpv).2⟩
      · subst e; exact hbl k' B _ ((s.m.kill_fewer k).b _ _ hh) hg' rfl
      · subst e; exact hll t' p v _ (Mem.kill_not ht) ((s.m.kill_fewer k).l _ _ ht) hv hg' rfl
    refine h0.putL (List.getElem?_eq_some_iff.1 hk).1 hτ ⟨set_rows hs.1 hsl, .inr ⟨g, c, _, spliceV ys (j * sz + fo) us, by rw [hel], hh', by rw [hel]; exact b3, b4, ?_, b6, b7, ?_, ?_, ?_⟩⟩ hbl hll
    · have : (spliceV cur.toList (j * sz + fo) us).length = cur.toList.length := by simp only [spliceV, List.length_append, List.length_take, List.length_drop, hcl2]; omega
      simp only [List.size_toArray, this, hcl2]
    · rw [hel, ← b8]
      apply List.ext_getElem?
      intro i
      have hyl' : (List.take (els.length * sz) cur.toList).length = els.length * sz := by rw [List.length_take, hcl2]; omega
      rw [List.getElem?_take]
      split
      · rename_i hi
        rw [getElem?_spliceV _ _ _ (by rw [hcl2]; omega), getElem?_spliceV _ _ _ (by rw [hyl']; omega), List.getElem?_take, if_pos hi]
      · rename_i hi
        rw [List.getElem?_eq_none]
        simp only [spliceV, List.length_append, List.length_take, List.length_drop, hcl2]; omega
    · rw [flatten_set hs.1 hc (by rw [hyl]; exact hle)]
      exact b9.splice hru (by rw [hyl, flatten_length hs.1]; omega)
    · intro u hu
      simp only [spliceV, List.mem_append] at hu
      rcases hu with (hu | hu) | hu
      · exact b10 u (List.mem_of_mem_take hu)
      · exact hone u hu
      · exact b10 u (List.mem_of_mem_drop hu)
end
end Go.Av
set_option linter.unusedVariables false
set_option linter.unusedSectionVars false
set_option linter.unusedSimpArgs false
namespace Go.Av
open Go.RowKit
variable [Tab]
theorem MemOk.ownRow {G : Env} {C : Cfg} {m m' : Mem} {w w' : World} (h : MemOk G C m w) (hf : m'.Fewer m) {g e sz cap : Nat} {cur : Array Value} {ys : List Value} {els : List (List AV)}
    (os : w'.os = w.os) (tape : w'.tape = w.tape) (output : w'.output = w.output) (size : w.heap.size ≤ w'.heap.size) (keep : ∀ b, b < w.heap.size → b ≠ g → w'.heap[b]? = w.heap[b]?)
    (hh : w'.heap[g]? = some (.cells cur e (0, 0))) (h1 : els.length ≤ cap) (h2 : cap ≤ maxLen) (h3 : cur.size = cap * sz) (h4 : cur.toList.take (els.length * sz) = ys) (hr : Reps C els.flatten ys) (hz : ∀ (i : Nat) (cs : List AV), els[i]? = some cs → cs.length = sz) (hone : ∀ u ∈ ys, u.oneCell' = true) (hp : ¬ G.prot g)
    (hn : ∀ o, C.pool g o = none)
    (hb : ∀ (k : Nat) (B : ABlk), m'.blks[k]? = some (some B) → C.ρ[k]? ≠ some g) (hl : ∀ (t : Nat) (p : Live) (v : Value), m'.lives[t]? = some (some p) → C.τ[t]? = some v → v.ownBlock ≠ some g) :
    MemOk G (C.addS (.slice (some ⟨g, 0, none⟩) els.length cap)) (m'.addL (.own e sz els)) w' := by
  have h0 : MemOk G C m' w' := by
    refine h.turn hf (.refl C) rfl rfl os tape output size (fun b => b = g) (fun b e => e ▸ hp) (fun b hb hx => keep b hb hx) (fun b o v hpv => ?_) (fun b o v hpv => .inl hpv) (fun k B g' a1 a2 e => hb k B a1 (e ▸ a2)) (fun t p v g' a1 a2 a3 e => hl t p v a1 a2 (e ▸ a3))
    have hne : b ≠ g := fun e => by rw [e, hn o] at hpv; cases hpv
    exact ⟨(World.cell?_of_block (w := w) (keep b (h.poolLt hpv) hne)).trans (h.pool b o v hpv).1, (h.pool b o v hpv).2⟩
  refine h0.addL ⟨hz, .inr ⟨g, cap, cur, ys, rfl, hh, h1, h2, h3, hp, hn, h4, hr, hone⟩⟩ (fun k B g' a1 a2 a3 => ?_) (fun t p v' g' a1 a2 a3 a4 => ?_)
  · simp only [Value.ownBlock, Option.some.injEq] at a3
    exact hb k B a1 (a3 ▸ a2)
  · simp only [Value.ownBlock, Option.some.injEq] at a4
    exact hl t p v' a1 a2 (a4 ▸ a3)
section
variable {P : Program} {o : Oper} {s : St}
theorem append_core_own {G : Env} {C : Cfg} {m m' : Mem} {w : World} (hm : MemOk G C m w) {t ty e : TypeId} {sz bytes : Nat} (hE : Elem P t e sz bytes) {u : Value} {els es : List (List AV)} {ys news : List Value} {A2 : Option Addr} {c2 : Nat}
    (hv : (∃ A, u = .slice A 0 0 ∧ els.length = 0 ∧ ys = []) ∨ ∃ g cap cur, u = .slice (some ⟨g, 0, none⟩) els.length cap ∧ w.heap[g]? = some (.cells cur e (0, 0)) ∧ els.length ≤ cap ∧ cap ≤ maxLen ∧ cur.size = cap * sz ∧ cur.toList.take (els.length * sz) = ys)
    (hr : Reps C els.flatten ys) (hz : ∀ (i : Nat) (cs : List AV), els[i]? = some cs → cs.length = sz) (hone1 : ∀ u ∈ ys, u.oneCell' = true) (hf : m'.Fewer m)
    (hs : ∀ g, Spare u els.length g → ¬ G.prot g ∧ (∀ o, C.pool g o = none) ∧ (∀ (k' : Nat) (B : ABlk), m'.blks[k']? = some (some B) → C.ρ[k']? ≠ some g) ∧ ∀ (t' : Nat) (p : Live) (v2 : Value), m'.lives[t']? = some (some p) → C.τ[t']? = some v2 → v2.ownBlock ≠ some g)
    (hN2 : A2 = none → c2 = 0 ∧ es.length = 0) (hz2 : ∀ (i : Nat) (cs : List AV), es[i]? = some cs → cs.length = sz) (hr2 : Reps C es.flatten news) (hl2 : news.length = es.length * sz) (hc2 : ∀ a, A2 = some a → ∀ (j : Nat) (v : Value), news[j]? = some v → w.cell? (a.add j) = some v) (hone2 : ∀ v ∈ news, v.oneCell' = true)
    (hb : (els.length + es.length) * bytes ≤ 140737488355328) (h63 : els.length + es.length ≤ 9223372036854775807) :
    ∃ v' w', (Builtin.append_ #[t, t] ty #[u, .slice A2 es.length c2]).run P w = .ok v' w' ∧
      ((v' = u ∧ w' = w ∧ es = []) ∨ (MemOk G (C.addS v') (m'.addL (.own e sz (els ++ es))) w' ∧ Rep (C.addS v') (.rs m.lives.length) v')) := by
  obtain ⟨ht, z0, hi0, hzs⟩ := hE
  obtain ⟨i, hi, hii⟩ := Option.map_eq_some_iff.1 hi0
  simp only [Prod.mk.injEq] at hii
  obtain ⟨hiz, his, hib⟩ := hii
  have hyl : ys.length = els.length * sz := by rw [← hr.1, flatten_length hz]
  obtain ⟨v', w', hrun, hcase⟩ := run_append_three (P := P) w (ty := ty) ht hi hiz his hib hzs hv hyl hN2 hl2 hc2 hone2 hb h63
  refine ⟨v', w', hrun, ?_⟩
  rcases hcase with ⟨h1, h2, h3, h4⟩ | ⟨g, cap, cur, rfl, c1, c2', c3, c4, c5, e1, e2, e3, e4, e5, e6⟩
  · exact .inl ⟨h1, h2, List.eq_nil_of_length_eq_zero h4⟩
  refine .inr ?_
  have hzz : ∀ (i : Nat) (cs : List AV), (els ++ es)[i]? = some cs → cs.length = sz := by
    intro i cs hi
    by_cases hlt : i < els.length
    · rw [List.getElem?_append_left hlt] at hi; exact hz i cs hi
    · rw [List.getElem?_append_right (by omega)] at hi; exact hz2 _ cs hi
  have hrr : Reps C (els ++ es).flatten (ys ++ news) := by rw [List.flatten_append]; exact hr.append hr2
  have hprot : ¬ G.prot g := by
    rcases e6 with e6 | e6
    · exact (hs g e6).1
    · intro hp'; have := hm.old g hp'; have := hm.size; omega
  have hlen2 : els.length + es.length = (els ++ es).length := by simp
  rw [hlen2] at c2' c5
  have hmem := hm.ownRow hf e1 e2 e3 e4 e5 c1 c2' c3 c4 c5 hrr hzz (fun u hu => (List.mem_append.1 hu).elim (hone1 u) (hone2 u)) hprot (fun o' => by
      rcases e6 with e6 | e6
      · exact (hs g e6).2.1 o'
      · cases hc : C.pool g o' with
        | none => rfl
        | some v => have := hm.poolLt hc; omega)
    (fun k' B h1 h2 => by
      rcases e6 with e6 | e6
      · exact (hs g e6).2.2.1 k' B h1 h2
      · have := (hm.blk k' B g (hf.b _ _ h1) h2).2.1.lt; omega)
    (fun t' p v2 h1 h2 h3 => by
      rcases e6 with e6 | e6
      · exact (hs g e6).2.2.2 t' p v2 h1 h2 h3
      · have := (hm.stp t' p v2 (hf.l _ _ h1) h2).lt h3; omega)
  rw [hlen2]
  exact ⟨hmem, .rs _ _ _ _ (getElem?_last _ _ _ hm.τlen)⟩
/-- append to an own row. -/
theorem op_own_append {t e : TypeId} {sz bytes k : Nat} {x y : Operand} {els es : List (List AV)} {z : AV} (h : o.op = .call { callee := .builtin .append, args := #[x, y], argTypes := #[t, t] }) (hE : Elem P t e sz bytes)
    (hx : ev s.fr x = .rs k) (hk : s.m.lives[k]? = some (some (.own e sz els))) (hy : ev s.fr y = z) (hs : Src z sz es) (hb : (els.length + es.length) * bytes ≤ 140737488355328) (h63 : els.length + es.length ≤ 9223372036854775807) :
    AOp P o s (.rs s.m.lives.length) ((s.m.kill k).addL (.own e sz (els ++ es))) := by
  intro G C0 C a w hg
  have hxr := hg.ev x
  rw [hx] at hxr
  obtain ⟨hτ, A, n, c, hxv⟩ := hxr.rs_inv
  have hyr := hg.ev y
  rw [hy] at hyr
  obtain ⟨A2, c2, news, hyv, hN2, hz2, hr2, hl2, hc2, hone2⟩ := src_row hg.mem hyr hs
  have hstp := hg.own hk hτ
  have hbl : ∀ (k' : Nat) (B : ABlk) (g : Nat), (s.m.kill k).blks[k']? = some (some B) → C.ρ[k']? = some g → (a.eval x).ownBlock ≠ some g := fun k' B g h1 h2 => hg.mem.bdist k k' _ B _ g hk ((s.m.kill_fewer k).b _ _ h1) hτ h2
  have hll : ∀ (t' : Nat) (p : Live) (v2 : Value) (g : Nat), (s.m.kill k).lives[t']? = some (some p) → C.τ[t']? = some v2 → v2.ownBlock = some g → (a.eval x).ownBlock ≠ some g := fun t' p v2 g h1 h2 h3 h4 =>
    Mem.kill_not h1 (hg.mem.sdist t' k p _ v2 _ g ((s.m.kill_fewer k).l _ _ h1) hk h2 hτ h3 h4)
  have hrow : ∃ ys, ((∃ A, a.eval x = .slice A 0 0 ∧ els.length = 0 ∧ ys = []) ∨ ∃ g cap cur, a.eval x = .slice (some ⟨g, 0, none⟩) els.length cap ∧ w.heap[g]? = some (.cells cur e (0, 0)) ∧ els.length ≤ cap ∧ cap ≤ maxLen ∧ cur.size = cap * sz ∧ cur.toList.take (els.length * sz) = ys) ∧ Reps C els.flatten ys ∧ ∀ u ∈ ys, u.oneCell' = true := by
    rcases hstp.2 with ⟨h0, h2⟩ | ⟨g, cap, cur, ys, h0, h1, h2, h3, h4, h5, h6, h7, h8, h9⟩
    · subst h2
      exact ⟨[], .inl ⟨none, h0, rfl, rfl⟩, .nil C, fun u hu => by simp at hu⟩
    · exact ⟨ys, .inr ⟨g, cap, cur, h0, h1, h2, h3, h4, h7⟩, h8, h9⟩
  obtain ⟨ys, hv, hr, hone1⟩ := hrow
  obtain ⟨v', w', hrun, hcase⟩ := append_core_own (P := P) hg.mem (ty := o.type) hE hv hr hstp.1 hone1 (s.m.kill_fewer k) (fun g hsp => by
      obtain ⟨cap, he, hlc⟩ := hsp
      have hob : (a.eval x).ownBlock = some g := by rw [he]; rfl
      refine ⟨hstp.notProt hob, ?_, fun k' B h1 h2 => hbl k' B g h1 h2 hob, fun t' p v2 h1 h2 h3 => hll t' p v2 g h1 h2 h3 hob⟩
      rw [he] at hstp
      obtain ⟨_, _, _, _, _, _, _, _, b7, _⟩ := own_cells hstp
      exact b7) hN2 hz2 hr2 hl2 hc2 hone2 hb h63
  have hexec := append_exec (P := P) h (rfl : a.eval x = a.eval x) hyv hrun
  rcases hcase with ⟨rfl, rfl, rfl⟩ | ⟨h2, h3⟩
  · refine ⟨a.eval x, C.addS (a.eval x), w', hexec, C.le_addS _, ?_, ?_⟩
    · rw [List.append_nil]
      exact (hg.mem.turn (s.m.kill_fewer k) (.refl C) rfl rfl rfl rfl rfl (Nat.le_refl _) (fun _ => False) (fun _ h => h.elim) (fun _ _ _ => rfl) hg.mem.pool (fun _ _ _ h => .inl h) (fun _ _ _ _ _ h => h) (fun _ _ _ _ _ _ _ h => h)).addL hstp hbl hll
    · rw [hxv]
      exact .rs _ _ _ _ (by rw [← hxv]; exact getElem?_last _ _ _ hg.mem.τlen)
  · exact ⟨v', _, w', hexec, C.le_addS _, h2, h3⟩
/-- append to nil, the row its own. -/
theorem op_own_appendNil {t e : TypeId} {sz bytes : Nat} {x y : Operand} {es : List (List AV)} {z : AV} (h : o.op = .call { callee := .builtin .append, args := #[x, y], argTypes := #[t, t] }) (hE : Elem P t e sz bytes)
    (hx : ev s.fr x = .zs true) (hy : ev s.fr y = z) (hs : Src z sz es) (hb : es.length * bytes ≤ 140737488355328) (h63 : es.length ≤ 9223372036854775807) :
    AOp P o s (.rs s.m.lives.length) (s.m.addL (.own e sz es)) := by
  intro G C0 C a w hg
  have hxr := hg.ev x
  rw [hx] at hxr
  obtain ⟨A, hxv, hA⟩ := hxr.zs_inv
  have hA := hA rfl
  subst hA
  have hyr := hg.ev y
  rw [hy] at hyr
  obtain ⟨A2, c2, news, hyv, hN2, hz2, hr2, hl2, hc2, hone2⟩ := src_row hg.mem hyr hs
  obtain ⟨v', w', hrun, hcase⟩ := append_core_own (P := P) hg.mem (ty := o.type) (els := []) (ys := []) hE (.inl ⟨none, rfl, rfl, rfl⟩) (.nil C) (fun i cs h => by simp at h) (fun u hu => by simp at hu) (.refl s.m) (fun g hsp => by obtain ⟨cap, he, _⟩ := hsp; cases he) hN2 hz2 hr2 hl2 hc2 hone2 (by simpa using hb) (by simpa using h63)
  have hexec := append_exec (P := P) h hxv hyv hrun
  rcases hcase with ⟨rfl, rfl, rfl⟩ | ⟨h2, h3⟩
  · refine ⟨_, C.addS (.slice none 0 0), w', hexec, C.le_addS _, hg.mem.addL ⟨fun i cs h => by simp at h, .inl ⟨rfl, rfl⟩⟩ (fun _ _ _ _ _ => by simp [Value.ownBlock]) (fun _ _ _ _ _ _ _ => by simp [Value.ownBlock]), ?_⟩
    exact .rs _ _ _ _ (getElem?_last _ _ _ hg.mem.τlen)
  · exact ⟨v', _, w', hexec, C.le_addS _, h2, h3⟩
end
section
variable {P : Program} {ops : Array Oper} {o : Oper} {n : Nat} {fr : List (Nat × AV)} {bs : List (Option ABlk)} {ls : List (Option Live)} {dfs : List AV}
/-- A slice's literal, the row its own. -/
theorem w_own_build {d len : Nat} {t e : TypeId} {sz : Nat} {parts : List (Nat × Operand)} {z : Value} {ps : List (Nat × AV)} {zs ds : List AV} (els : List (List AV)) (hw : Wants ops o ⟨n, fr, ⟨bs, ls⟩, dfs⟩ true) (hd : o.dst = some d) (hlt : d < n) (ho : o.op = .buildSlice t len parts.toArray) (ht : P.underlying t = some (.slice e)) (hz : (P.info? e).map (fun i => (i.zero, i.size)) = some (some z, sz)) (hone : z.cells.toList.all (·.oneCell') = true) (hzl : z.cells.size = sz) (hpos : 0 < sz) (hsm : len * sz ≤ 16777216)
    (hzs : (List.range (len * sz)).map (fun j => ofV (z.cells[j % sz]!)) = zs) (hps : (parts.map fun p => (p.1, ev fr p.2)) = ps) (hb : bfill (fun i => some (i * sz, sz)) zs ps = some ds) (hel : els.flatten = ds) (hll : els.length = len) (hall : ∀ cs ∈ els, cs.length = sz) (k : Nat) (hk : ls.length = k) (ll : List (Option Live)) (hls : ls ++ [some (.own e sz els)] = ll) : OneOp P ops o ⟨n, fr, ⟨bs, ls⟩, dfs⟩ (.rs k) ⟨bs, ll⟩ := one_val hw hd hlt (by
  intro G C0 C a w hg
  subst hps; subst hzs; subst hk; subst hls; subst hll
  have he := hg.ev
  let vs : Array Value := (Array.range (els.length * sz)).map (fun j => z.cells[j % z.cells.size]!)
  have hvl : vs.toList = (List.range (els.length * sz)).map (fun j => z.cells[j % sz]!) := by simp [vs, hzl]
  have hzr : Reps C ((List.range (els.length * sz)).map (fun j => ofV (z.cells[j % sz]!))) vs.toList := by
    rw [hvl]
    refine ⟨by simp, fun j x v hx hv => ?_⟩
    rw [List.getElem?_map] at hx hv
    obtain ⟨y, hy, rfl⟩ := Option.map_eq_some_iff.1 hx
    rw [hy] at hv; simp at hv; subst hv
    exact ofV_rep C _
  have hz1 : ∀ u ∈ vs.toList, u.oneCell' = true := by
    rw [hvl]
    intro u hu
    obtain ⟨j, hj, rfl⟩ := List.mem_map.1 hu
    have hlt : j % sz < z.cells.size := by rw [hzl]; exact Nat.mod_lt _ hpos
    rw [getElem!_pos z.cells _ hlt]
    exact List.all_eq_true.1 hone _ (by simp)
  obtain ⟨ws, h1, h2, h3⟩ := bfill_ok (vs := vs) (us := parts.map fun p => (p.1, a.eval p.2)) hb hzr hz1 (by simp) (zips he parts)
  obtain ⟨i, hi, hzi⟩ := Option.map_eq_some_iff.1 hz
  simp only [Prod.mk.injEq] at hzi
  obtain ⟨hzz, hsz⟩ := hzi
  have hzf : ∀ (i : Nat) (cs : List AV), els[i]? = some cs → cs.length = sz := fun i cs h => hall cs (List.mem_of_getElem? h)
  have hwl : ws.toList.length = els.length * sz := by rw [← h2.1, ← hel, flatten_length hzf]
  have hws : ws.size = els.length * sz := by simpa using hwl
  have hnp : ¬ G.prot w.heap.size := fun hp => by have := hg.mem.old _ hp; have := hg.mem.size; omega
  have hmax : els.length ≤ maxLen := by
    unfold maxLen
    have : els.length ≤ els.length * sz := Nat.le_mul_of_pos_right _ hpos
    omega
  have hmem := hg.mem.ownRow (m' := ⟨bs, ls⟩) (w' := w.alloc (.cells ws e)) (g := w.heap.size) (e := e) (sz := sz) (els := els) (cap := els.length) (cur := ws) (ys := ws.toList) (.refl _) rfl rfl rfl (by simp) (fun b hb _ => Below.heap_alloc w _ b hb) (heap_alloc_new w _) (Nat.le_refl _) hmax hws (by rw [List.take_of_length_le (by omega)]) (hel ▸ h2) hzf h3 hnp
    (fun o' => by
      cases hc : C.pool w.heap.size o' with
      | none => rfl
      | some v => have := hg.mem.poolLt hc; omega) (fun k B h1 h2 => by have := (hg.mem.blk k B _ h1 h2).2.1.lt; omega) (fun t p v h1 h2 h3 => by
      have := (hg.mem.stp t p v h1 h2).lt h3; omega)
  refine ⟨.slice (some ⟨w.heap.size, 0, none⟩) els.length els.length, _, w.alloc (.cells ws e), ?_, C.le_addS _, hmem, ?_⟩
  · have hgt : ¬ (16777216 < els.length * sz) := by omega
    unfold execOp
    have hvs : vs = (Array.range (els.length * sz)).map (fun j => z.cells[j % z.cells.size]!) := rfl
    by_cases h0 : els.length * sz = 0
    · have hve : vs = #[] := by rw [hvs, h0]; simp
      have h0' : els.length = 0 := by rcases Nat.mul_eq_zero.1 h0 with h | h <;> omega
      have h0'' : els = [] := List.eq_nil_of_length_eq_zero h0'
      rw [hve] at h1
      have hr0 : Array.range 0 = #[] := by decide
      simp [hr0, ho, Instr.buildSlice, run_underlying ht, sizeOf, typeInfo, hi, hsz, h0'', h1, newRow, zeroValue, hzz]
    · have hel0 : ¬ els = [] := fun h => h0 (by rw [h]; simp)
      have hsz0 : ¬ sz = 0 := by omega
      rw [hvs] at h1
      simp [ho, Instr.buildSlice, run_underlying ht, sizeOf, typeInfo, hi, hsz, hgt, hel0, hsz0, newRow, zeroValue, hzz, h1]
      exact fun h => absurd h h0
  · exact .rs _ _ _ _ (getElem?_last _ _ _ hg.mem.τlen))
variable {m : Mem}
theorem w_own_len {d : Nat} {x : Operand} {t et e : TypeId} {k sz : Nat} {els : List (List AV)} (N : Nat) (hw : Wants ops o ⟨n, fr, m, dfs⟩ true) (hd : o.dst = some d) (hlt : d < n) (ho : o.op = .call { callee := .builtin .len, args := #[x], argTypes := #[t] }) (ht : P.underlying t = some (.slice et)) (hx : ev fr x = .rs k) (hk : m.lives[k]? = some (some (.own e sz els))) (hN : els.length = N) : OneOp P ops o ⟨n, fr, m, dfs⟩ (.int .i64 N) m := hN ▸ one_val hw hd hlt (op_own_len (s := ⟨n, fr, m, dfs⟩) ho ht hx hk)
theorem w_own_idx {d : Nat} {x i : Operand} {t et e : TypeId} {kd : IntKind} {k sz : Nat} {els : List (List AV)} {j : Int} (hw : Wants ops o ⟨n, fr, m, dfs⟩ true) (hd : o.dst = some d) (hlt : d < n) (ho : o.op = .indexAddr t x i) (ht : P.underlying t = some (.slice et)) (hsz : (P.info? et).map (·.size) = some sz) (hx : ev fr x = .rs k) (hk : m.lives[k]? = some (some (.own e sz els))) (hi : ev fr i = .int kd j) (h0 : 0 ≤ j) (h1 : j < els.length) : OneOp P ops o ⟨n, fr, m, dfs⟩ (.rp k sz j.toNat 0) m := one_val hw hd hlt (op_own_idx (s := ⟨n, fr, m, dfs⟩) ho ht hsz hx hk hi h0 h1)
theorem w_own_field {d : Nat} {x : Operand} {t : TypeId} {f fo fo' k sz j : Nat} {fs : Array Field} {fl : Field} (hw : Wants ops o ⟨n, fr, m, dfs⟩ true) (hd : o.dst = some d) (hlt : d < n) (ho : o.op = .fieldAddr t x f) (ht : P.underlying t = some (.struct fs)) (hf : fs[f]? = some fl) (hp : ∀ (a : Addr) (w : World), (fieldPlace a fl).run P w = .ok (a.add fo) w) (hx : ev fr x = .rp k sz j fo') : OneOp P ops o ⟨n, fr, m, dfs⟩ (.rp k sz j (fo' + fo)) m := one_val hw hd hlt (op_own_field (s := ⟨n, fr, m, dfs⟩) ho ht hf hp hx)
theorem w_own_nilCheck {d : Nat} {x : Operand} {k sz j fo : Nat} (hw : Wants ops o ⟨n, fr, m, dfs⟩ true) (hd : o.dst = some d) (hlt : d < n) (ho : o.op = .nilCheck x) (hx : ev fr x = .rp k sz j fo) : OneOp P ops o ⟨n, fr, m, dfs⟩ (.rp k sz j fo) m := one_val hw hd hlt (op_own_nilCheck (s := ⟨n, fr, m, dfs⟩) ho hx)
theorem w_own_load {d : Nat} {t : TypeId} {x : Operand} {k sz j fo : Nat} {e : TypeId} {els : List (List AV)} (cs : List AV) {v : AV} (hw : Wants ops o ⟨n, fr, m, dfs⟩ true) (hd : o.dst = some d) (hlt : d < n) (ho : o.op = .load t x) (ht : (P.underlying t).map aggD = some false) (hx : ev fr x = .rp k sz j fo) (hk : m.lives[k]? = some (some (.own e sz els))) (hc : j < els.length → els[j]? = some cs) (hv : cs[fo]? = some v) : OneOp P ops o ⟨n, fr, m, dfs⟩ v m := one_val hw hd hlt (op_own_load (s := ⟨n, fr, m, dfs⟩) ho ht hx hk hc hv)
theorem w_own_loadA {d : Nat} {t : TypeId} {x : Operand} {k sz j fo nn : Nat} {e : TypeId} {els : List (List AV)} (cs : List AV) {ds : List AV} (hw : Wants ops o ⟨n, fr, m, dfs⟩ true) (hd : o.dst = some d) (hlt : d < n) (ho : o.op = .load t x) (ht : (P.underlying t).map aggD = some true) (hn : (P.info? t).map (·.size) = some nn) (hx : ev fr x = .rp k sz j fo) (hk : m.lives[k]? = some (some (.own e sz els))) (hc : j < els.length → els[j]? = some cs) (hle : fo + nn ≤ sz) (hds : (cs.drop fo).take nn = ds) : OneOp P ops o ⟨n, fr, m, dfs⟩ (.agg ds) m := one_val hw hd hlt (op_own_loadA (s := ⟨n, fr, m, dfs⟩) ho ht hn hx hk hc hle hds)
theorem w_own_store {t : TypeId} {p x : Operand} {k sz j fo nn : Nat} {e : TypeId} {els : List (List AV)} (cs : List AV) {y v : AV} (hw : Wants ops o ⟨n, fr, ⟨bs, ls⟩, dfs⟩ true) (hd : o.dst = none) (ho : o.op = .store t p x) (hn : (P.info? t).map (·.size) = some nn) (hp : ev fr p = .rp k sz j fo) (hx : ev fr x = y) (hk : ls[k]? = some (some (.own e sz els))) (hc : j < els.length → els[j]? = some cs) (hy : (flat y).all AV.one = true) (hyl : (flat y).length = nn) (hle : fo + nn ≤ sz) (cs' : List AV) (hcs : splice cs fo (flat y) = cs') (els' : List (List AV)) (hel : els.set j cs' = els') (ll : List (Option Live)) (hll : ls.set k (some (.own e sz els')) = ll) : OneOp P ops o ⟨n, fr, ⟨bs, ls⟩, dfs⟩ v ⟨bs, ll⟩ := by
  subst hcs; subst hel; subst hll
  exact one_unit hw hd (op_own_store (s := ⟨n, fr, ⟨bs, ls⟩, dfs⟩) ho hn hp hx hk hc hy hyl hle)
theorem w_own_append {d : Nat} {t e : TypeId} {sz bytes k : Nat} {x y : Operand} {els es : List (List AV)} {z : AV} (hw : Wants ops o ⟨n, fr, ⟨bs, ls⟩, dfs⟩ true) (hd : o.dst = some d) (hlt : d < n) (ho : o.op = .call { callee := .builtin .append, args := #[x, y], argTypes := #[t, t] }) (hE : Elem P t e sz bytes)
    (hx : ev fr x = .rs k) (hk : ls[k]? = some (some (.own e sz els))) (hy : ev fr y = z) (hs : Src z sz es) (hb : (els.length + es.length) * bytes ≤ 140737488355328) (h63 : els.length + es.length ≤ 9223372036854775807) (kk : Nat) (hkk : ls.length = kk) (els' : List (List AV)) (hel : els ++ es = els') (ll : List (Option Live)) (hll : ls.set k none ++ [some (.own e sz els')] = ll) : OneOp P ops o ⟨n, fr, ⟨bs, ls⟩, dfs⟩ (.rs kk) ⟨bs, ll⟩ := by
  subst hkk; subst hel; subst hll
  exact one_val hw hd hlt (op_own_append (s := ⟨n, fr, ⟨bs, ls⟩, dfs⟩) ho hE hx hk hy hs hb h63)
theorem w_own_appendNil {d : Nat} {t e : TypeId} {sz bytes : Nat} {x y : Operand} {es : List (List AV)} {z : AV} (hw : Wants ops o ⟨n, fr, ⟨bs, ls⟩, dfs⟩ true) (hd : o.dst = some d) (hlt : d < n) (ho : o.op = .call { callee := .builtin .append, args := #[x, y], argTypes := #[t, t] }) (hE : Elem P t e sz bytes)
    (hx : ev fr x = .zs true) (hy : ev fr y = z) (hs : Src z sz es) (hb : es.length * bytes ≤ 140737488355328) (h63 : es.length ≤ 9223372036854775807) (kk : Nat) (hkk : ls.length = kk) (ll : List (Option Live)) (hll : ls ++ [some (.own e sz es)] = ll) : OneOp P ops o ⟨n, fr, ⟨bs, ls⟩, dfs⟩ (.rs kk) ⟨bs, ll⟩ := by
  subst hkk; subst hll
  exact one_val hw hd hlt (op_own_appendNil (s := ⟨n, fr, ⟨bs, ls⟩, dfs⟩) ho hE hx hy hs hb h63)
end
end Go.Av
set_option linter.unusedVariables false
set_option linter.unusedSectionVars false
set_option linter.unusedSimpArgs false
namespace Go.Av
open Go.RowKit
variable [Tab]
section
variable {P : Program} {G : Env} {C0 : Cfg} {ops : Array Oper} {Q : AEx → St → Prop} {rest : List Oper} {o : Oper} {n : Nat} {fr : List (Nat × AV)} {m : Mem} {dfs : List AV}
theorem run_eqNil {w : World} {t e : TypeId} (x y : Operand) {A : Option Addr} {l c : Nat} (ht : P.underlying t = some (.slice e)) : ((eqGuard .eql t x y (.slice A l c) (.slice none 0 0)).run P w).andThen (fun _ w => (binOp .eql t (.slice A l c) (.slice none 0 0)).run P w) = .ok (.bool A.isNone) w := by
  have h1 : (eqGuard .eql t x y (.slice A l c) (.slice none 0 0)).run P w = .ok () w := by simp [eqGuard]
  rw [h1, Result.andThen_ok]
  show ((Op.equal t (.slice A l c) (.slice none 0 0)).bind fun b => Sem.pure (Value.bool b)).run P w = _
  have h2 := _root_.Go.run_equal_slice_nil (P := P) w t e A l c ht
  rw [Go.Sem.run_bind', h2]; rfl
/-- A slice is compared with nil. -/
theorem st_eqNil {d : Nat} {t t' e : TypeId} {x : Operand} {st : Option Nat} {sz : Nat} {els : List (List AV)} (hw : Wants ops o ⟨n, fr, m, dfs⟩ true) (hd : o.dst = some d) (hlt : d < n) (ho : o.op = .binOp .eql t x (.const (.slice none 0 0)) t') (ht : P.underlying t = some (.slice e)) (hx : ev fr x = .sl st sz els)
    (hr : ∀ b, (b = true → els = []) → ALst P G C0 ops Q rest ⟨n, (d, .bool b) :: fr, m, dfs⟩) : ALst P G C0 ops Q (o :: rest) ⟨n, fr, m, dfs⟩ := by
  intro C a w hg
  have h1 := hg.ev x
  rw [show ev (St.fr ⟨n, fr, m, dfs⟩) x = .sl st sz els from hx] at h1
  obtain ⟨A, c, b, off, ys, hv, hc, hm, hN, hst, hA, hz, hrw⟩ := h1.sl_inv
  have hb : A.isNone = true → els = [] := fun h => by
    rcases Nat.eq_zero_or_pos els.length with h0 | h0
    · exact List.eq_nil_of_length_eq_zero h0
    · rw [hA h0] at h; cases h
  refine wpList_step fun K hK => ?_
  rw [if_pos (hw G C0 C a w hg)]
  unfold Oper.wp
  have hex : (execOp a.eval o).run P w = .ok (.value (.bool A.isNone)) w := by
    have hcv : a.eval (.const (.slice none 0 0)) = .slice none 0 0 := rfl
    simp only [execOp, ho, hv, hcv, Sem.run_bind, run_eqNil (P := P) (w := w) x _ ht, Result.andThen_ok, Sem.run_pure]
  rw [hex, Oper.upon_value]
  refine hK _ _ (hr A.isNone hb C _ _ ?_)
  rw [hd]
  exact hg.put hlt (.refl C) hg.mem (.bool _)
end
/-- In C the stamp t is a slice of the pool. -/
def FzP (C : Cfg) (t sz : Nat) (els : List (List AV)) : Prop := ∀ v, C.τ[t]? = some v → Rep C (.sl (some t) sz els) v
def Fz (t sz : Nat) (els : List (List AV)) (x y : AV) : Prop := ∀ (C : Cfg) (v : Value), FzP C t sz els → Rep C x v → Rep C y v
theorem fz_refl {t sz : Nat} {els : List (List AV)} (x : AV) : Fz t sz els x x := fun C v _ h => h
theorem fz_rs {t sz : Nat} {els : List (List AV)} : Fz t sz els (.rs t) (.sl (some t) sz els) := fun C v hf h => hf v h.rs_inv.1
def Fzs (t sz : Nat) (els : List (List AV)) : List AV → List AV → Prop
  | [], [] => True
  | x :: xs, y :: ys => Fz t sz els x y ∧ Fzs t sz els xs ys
  | _, _ => False
theorem Fzs.reps {t sz : Nat} {els : List (List AV)} {C : Cfg} (hf : FzP C t sz els) : ∀ {xs ys : List AV} {vs : List Value}, Fzs t sz els xs ys → Reps C xs vs → Reps C ys vs
  | [], [], vs, _, h => h
  | x :: xs, y :: ys, vs, hw, h => by
    obtain ⟨v, us, rfl, h1, h2⟩ := h.head
    exact .cons (hw.1 C v hf h1) (hw.2.reps hf h2)
  | [], _ :: _, _, h, _ => h.elim
  | _ :: _, [], _, h, _ => h.elim
theorem fz_agg {t sz : Nat} {els : List (List AV)} {xs ys : List AV} (h : Fzs t sz els xs ys) : Fz t sz els (.agg xs) (.agg ys) := fun C v hf hr => by
  obtain ⟨vs, rfl, hrs⟩ := hr.agg_inv
  have := h.reps hf hrs
  exact .agg _ _ this.1 this.2
theorem fz_tup {t sz : Nat} {els : List (List AV)} {xs ys : List AV} (h : Fzs t sz els xs ys) : Fz t sz els (.tup xs) (.tup ys) := fun C v hf hr => by
  obtain ⟨vs, rfl, hrs⟩ := hr.tup_inv
  have := h.reps hf hrs
  exact .tup _ _ this.1 this.2
def FzB (t sz : Nat) (els : List (List AV)) : List (Option ABlk) → List (Option ABlk) → Prop
  | [], [] => True
  | b :: bs, c :: cs => (match b, c with
    | some (.cells ty xs), some (.cells ty' ys) => ty = ty' ∧ Fzs t sz els xs ys
    | _, c => b = c) ∧ FzB t sz els bs cs
  | _, _ => False
theorem FzB.length {t sz : Nat} {els : List (List AV)} : ∀ {bs cs : List (Option ABlk)}, FzB t sz els bs cs → bs.length = cs.length
  | [], [], _ => rfl
  | _ :: _, _ :: _, h => by simp [h.2.length]
  | [], _ :: _, h => h.elim
  | _ :: _, [], h => h.elim
theorem FzB.at {t sz : Nat} {els : List (List AV)} : ∀ {bs cs : List (Option ABlk)}, FzB t sz els bs cs → ∀ {j : Nat} {B' : ABlk}, cs[j]? = some (some B') → ∃ B, bs[j]? = some (some B) ∧ ∀ (C : Cfg) (w : World) (g : Nat), FzP C t sz els → BlkOk C w g B → BlkOk C w g B'
  | b :: bs, c :: cs, h, j, B', hj => by
    cases j with
    | zero =>
      simp at hj; subst hj
      obtain ⟨h1, _⟩ := h
      split at h1
      · rename_i ty xs ty' ys he
        injection he with he
        obtain ⟨rfl, h1⟩ := h1
        refine ⟨_, rfl, fun C w g hf hB => ?_⟩
        subst he
        obtain ⟨vs, q1, q2, q3⟩ := hB
        exact ⟨vs, q1, h1.reps hf q2, q3⟩
      · subst h1
        exact ⟨B', rfl, fun C w g _ hB => hB⟩
    | succ j =>
      obtain ⟨B, h1, h2⟩ := h.2.at (j := j) (by simpa using hj)
      exact ⟨B, by simpa using h1, h2⟩
  | [], [], _, j, B', h => by simp at h
  | [], _ :: _, h, _, _, _ => h.elim
  | _ :: _, [], h, _, _, _ => h.elim
/-- An own row becomes the pool's: the stamp lives on. -/
theorem MemOk.freeze {G : Env} {C : Cfg} {bs : List (Option ABlk)} {ls : List (Option Live)} {w : World} (h : MemOk G C ⟨bs, ls⟩ w) {t : Nat} {e : TypeId} {sz : Nat} {els : List (List AV)} (ht : ls[t]? = some (some (.own e sz els))) :
    ∃ C', C.Le C' ∧ C'.ρ = C.ρ ∧ C'.τ = C.τ ∧ MemOk G C' ⟨bs, ls.set t (some (.pl e sz))⟩ w ∧ FzP C' t sz els := by
  have htl : t < C.τ.length := by rw [h.τlen]; exact (List.getElem?_eq_some_iff.1 ht).1
  have hτ : C.τ[t]? = some C.τ[t] := List.getElem?_eq_getElem htl
  have hs := h.stp t _ _ ht hτ
  have hlt := (List.getElem?_eq_some_iff.1 ht).1
  have hkill : ∀ {C' : Cfg}, MemOk G C' (Mem.kill ⟨bs, ls⟩ t) w → C'.τ = C.τ → C'.ρ = C.ρ → StpOk G C' w (.pl e sz) C.τ[t] → MemOk G C' ⟨bs, ls.set t (some (.pl e sz))⟩ w := fun {C'} hk e1 e2 hs' =>
    MemOk.putL (m := ⟨bs, ls⟩) hk hlt (by rw [e1]; exact hτ) hs' (fun k' B g q1 q2 => h.bdist t k' _ B _ g ht q1 hτ (by rw [← e2]; exact q2)) (fun t' p v' g q0 q1 q2 q3 q4 => q0 (h.sdist t' t p _ v' _ g q1 ht (by rw [← e1]; exact q2) hτ q3 q4))
  rcases hs.2 with ⟨h0, h2⟩ | ⟨g, c, cur, ys, h0, b2, b3, b4, b5, b6, b7, b8, b9, b10⟩
  · have hk : MemOk G C (Mem.kill ⟨bs, ls⟩ t) w := h.turn (Mem.kill_fewer _ t) (.refl C) rfl rfl rfl rfl rfl (Nat.le_refl _) (fun _ => False) (fun _ h => h.elim) (fun _ _ _ => rfl) h.pool (fun _ _ _ h => .inl h) (fun _ _ _ _ _ h => h) (fun _ _ _ _ _ _ _ h => h)
    refine ⟨C, .refl C, rfl, rfl, hkill hk rfl rfl (.inl h0), fun v hv => ?_⟩
    rw [hτ] at hv
    injection hv with hv
    subst hv; subst h2
    rw [h0] at hτ ⊢
    exact Rep.sl_mk (els := []) (b := 0) (off := 0) (ys := []) (Nat.le_refl _) (by omega) (fun _ => rfl) (fun t' ht' => by injection ht' with ht'; subst ht'; exact hτ) (fun h => by simp at h) (fun i cs h => by simp at h) ⟨.nil _, fun o u h => by simp at h⟩
  · have hs' := hs
    rw [h0] at hs'
    obtain ⟨cur2, ys2, d1, d2, d3, d4, d5, d6, d7, d8, d9, d10, d11, d12⟩ := own_cells hs'
    have hcc : ∀ o u, C.pool g o = some u → o < ys2.length → ys2[o]? = some u := fun o u ho _ => by rw [d7 o] at ho; cases ho
    have hle : C.Le (C.addRow g ys2 hcc) := C.le_addRow g ys2 hcc
    have hk : MemOk G (C.addRow g ys2 hcc) (Mem.kill ⟨bs, ls⟩ t) w := by
      refine h.turn (Mem.kill_fewer _ t) hle rfl rfl rfl rfl rfl (Nat.le_refl _) (fun b => b = g) (fun b e => e ▸ d6) (fun _ _ _ => rfl) (fun b o v hpv => ?_) (fun b o v hpv => ?_) (fun k B g' q1 q2 q3 => ?_) (fun t' p v g' q1 q2 q3 q4 => ?_)
      · simp only [Cfg.addRow] at hpv
        split at hpv
        · rename_i hh; obtain ⟨rfl, ho⟩ := hh
          exact ⟨d12 o v hpv, d10 v (List.mem_of_getElem? hpv)⟩
        · exact h.pool b o v hpv
      · simp only [Cfg.addRow] at hpv
        split at hpv
        · rename_i hh; exact .inr (.inl hh.1)
        · exact .inl hpv
      · subst q3
        exact h.bdist t k _ B _ g' ht ((Mem.kill_fewer ⟨bs, ls⟩ t).b _ _ q1) hτ q2 (by rw [h0]; rfl)
      · subst q4
        exact Mem.kill_not q1 (h.sdist t' t p _ v _ g' ((Mem.kill_fewer ⟨bs, ls⟩ t).l _ _ q1) ht q2 hτ q3 (by rw [h0]; rfl))
    refine ⟨C.addRow g ys2 hcc, hle, rfl, rfl, hkill hk rfl rfl (.inr ⟨g, els.length, c, cur, h0, b2, b3, b4, b5, b6, fun o ho => ?_⟩), fun v hv => ?_⟩
    · simp only [Cfg.addRow]
      rw [if_neg (by rw [d11]; omega)]
      exact b7 o
    · have hv : C.τ[t]? = some v := hv
      rw [hτ] at hv
      injection hv with hv
      subst hv
      have hτ' : (C.addRow g ys2 hcc).τ[t]? = some (.slice (some ⟨g, 0, none⟩) els.length c) := by rw [← h0]; exact hτ
      rw [h0]
      exact Rep.sl_mk b3 (by unfold maxLen at b4; omega) (fun h => by cases h) (fun t' ht' => by injection ht' with ht'; subst ht'; exact hτ') (fun _ => rfl) hs.1 ⟨d9.mono hle, fun o' u hu => Cfg.addRow_row C g _ _ o' u hu⟩
end Go.Av
set_option linter.unusedVariables false
set_option linter.unusedSectionVars false
set_option linter.unusedSimpArgs false
namespace Go.Av
open Go.RowKit
variable [Tab]
/-- What x tells, y tells by other numbers. -/
def Mv (rb rt : Nat → Nat → Prop) (x y : AV) : Prop := ∀ (C D : Cfg) (v : Value), (∀ b o u, C.pool b o = some u → D.pool b o = some u) → (∀ k k' g, rb k k' → C.ρ[k]? = some g → D.ρ[k']? = some g) → (∀ t t' u, rt t t' → C.τ[t]? = some u → D.τ[t']? = some u) → Rep C x v → Rep D y v
section
variable {rb rt : Nat → Nat → Prop}
theorem mv_closed {x : AV} (h : Closed x) : Mv rb rt x x := fun C D v hp _ _ hr => h C D v hp hr
theorem mv_any {x : AV} : Mv rb rt x .any := fun C D v _ _ _ _ => .any v
theorem mv_ptr {k k' off : Nat} (h : rb k k') : Mv rb rt (.ptr k off) (.ptr k' off) := fun C D v _ hb _ hr => by
  obtain ⟨g, hg, rfl⟩ := hr.ptr_inv
  exact .ptr k' off g (hb k k' g h hg)
theorem mv_mp {k k' : Nat} (h : rb k k') : Mv rb rt (.mp k) (.mp k') := fun C D v _ hb _ hr => by
  cases hr with
  | mp _ g hg => exact .mp k' g (hb k k' g h hg)
theorem mv_rs {t t' : Nat} (h : rt t t') : Mv rb rt (.rs t) (.rs t') := fun C D v _ _ ht hr => by
  cases hr with
  | rs _ A n c hg => exact .rs t' A n c (ht t t' _ h hg)
theorem mv_sl {t t' sz : Nat} {els : List (List AV)} (h : rt t t') (hc : ∀ cs ∈ els, ∀ x ∈ cs, Closed x) : Mv rb rt (.sl (some t) sz els) (.sl (some t') sz els) := fun C D v hp _ ht hr => by
  cases hr with
  | sl _ _ _ A n c b off vals hl hcc hm hN hst hA hz hpo hh =>
    refine .sl (some t') sz els A n c b off vals hl hcc hm hN (fun t2 ht2 => ?_) hA hz (fun i cs j' x h1 h2 => hp _ _ _ (hpo i cs j' x h1 h2)) fun i cs j' x h1 h2 => hc cs (List.mem_of_getElem? h1) x (List.mem_of_getElem? h2) C _ _ hp (hh i cs j' x h1 h2)
    injection ht2 with ht2
    subst ht2
    exact ht t t' _ h (hst t rfl)
def Mvs (rb rt : Nat → Nat → Prop) : List AV → List AV → Prop
  | [], [] => True
  | x :: xs, y :: ys => Mv rb rt x y ∧ Mvs rb rt xs ys
  | _, _ => False
theorem Mvs.reps {C D : Cfg} (hp : ∀ b o u, C.pool b o = some u → D.pool b o = some u) (hb : ∀ k k' g, rb k k' → C.ρ[k]? = some g → D.ρ[k']? = some g) (ht : ∀ t t' u, rt t t' → C.τ[t]? = some u → D.τ[t']? = some u) : ∀ {xs ys : List AV} {vs : List Value}, Mvs rb rt xs ys → Reps C xs vs → Reps D ys vs
  | [], [], vs, _, h => ⟨h.1, fun j x v hx => by simp at hx⟩
  | x :: xs, y :: ys, vs, hw, h => by
    obtain ⟨v, us, rfl, h1, h2⟩ := h.head
    exact .cons (hw.1 C D v hp hb ht h1) (Mvs.reps hp hb ht hw.2 h2)
  | [], _ :: _, _, h, _ => h.elim
  | _ :: _, [], _, h, _ => h.elim
theorem mv_agg {xs ys : List AV} (h : Mvs rb rt xs ys) : Mv rb rt (.agg xs) (.agg ys) := fun C D v hp hb ht hr => by
  obtain ⟨vs, rfl, hrs⟩ := hr.agg_inv
  have := h.reps hp hb ht hrs
  exact .agg _ _ this.1 this.2
theorem mv_tup {xs ys : List AV} (h : Mvs rb rt xs ys) : Mv rb rt (.tup xs) (.tup ys) := fun C D v hp hb ht hr => by
  obtain ⟨vs, rfl, hrs⟩ := hr.tup_inv
  have := h.reps hp hb ht hrs
  exact .tup _ _ this.1 this.2
theorem mv_fn {f : FuncId} {a b a' b' : List AV} (h : Mvs rb rt a a') (h' : Mvs rb rt b b') : Mv rb rt (.fn f a b) (.fn f a' b') := fun C D v hp hb ht hr => by
  cases hr with
  | fn _ _ _ vs us hl hl' hh hh' =>
    have q1 := h.reps hp hb ht ⟨hl, hh⟩
    have q2 := h'.reps hp hb ht ⟨hl', hh'⟩
    exact .fn f a' b' vs us q1.1 q2.1 q1.2 q2.2
def MvB (rb rt : Nat → Nat → Prop) : ABlk → ABlk → Prop
  | .cells t xs, .cells t' ys => t = t' ∧ Mvs rb rt xs ys
  | .iter s p, .iter s' p' => s = s' ∧ p = p'
  | .smap es, .smap es' => es = es' ∧ ∀ p ∈ es, Closed p.2
  | _, _ => False
def MvL (rb rt : Nat → Nat → Prop) : Live → Live → Prop
  | .pl e sz, .pl e' sz' => e = e' ∧ sz = sz'
  | .own e sz els, .own e' sz' els' => e = e' ∧ sz = sz' ∧ els = els' ∧ ∀ cs ∈ els, ∀ x ∈ cs, Closed x
  | _, _ => False
theorem MvB.ok {C D : Cfg} (hp : ∀ b o u, C.pool b o = some u → D.pool b o = some u) (hb : ∀ k k' g, rb k k' → C.ρ[k]? = some g → D.ρ[k']? = some g) (ht : ∀ t t' u, rt t t' → C.τ[t]? = some u → D.τ[t']? = some u) {B B' : ABlk} (h : MvB rb rt B B') {w : World} {g : Nat} (hB : BlkOk C w g B) : BlkOk D w g B' := by
  cases B <;> cases B' <;> simp only [MvB] at h
  · obtain ⟨rfl, h⟩ := h
    obtain ⟨vs, c1, c2, c3⟩ := hB
    exact ⟨vs, c1, h.reps hp hb ht c2, c3⟩
  · obtain ⟨rfl, rfl⟩ := h
    exact hB
  · obtain ⟨rfl, h⟩ := h
    obtain ⟨ms, cl, c1, c2, c3⟩ := hB
    exact ⟨ms, cl, c1, c2, reps_closed hp (fun x hx => by
      obtain ⟨p, hp', rfl⟩ := List.mem_map.1 hx
      exact h p hp') c3⟩
theorem MvL.ok {G G' : Env} {C D : Cfg} (hp : ∀ b o u, C.pool b o = some u → D.pool b o = some u) {L L' : Live} (h : MvL rb rt L L') {w w' : World} {v : Value} (hg : ∀ g, v.ownBlock = some g → w'.heap[g]? = w.heap[g]? ∧ (¬ G.prot g → ¬ G'.prot g) ∧ ∀ o, C.pool g o = none → D.pool g o = none) (hS : StpOk G C w L v) : StpOk G' D w' L' v := by
  cases L <;> cases L' <;> simp only [MvL] at h
  · obtain ⟨rfl, rfl⟩ := h
    rcases hS with rfl | ⟨g, n, c, cur, rfl, h1, h2, h3, h4, h5, h6⟩
    · exact .inl rfl
    · obtain ⟨a, b, c'⟩ := hg g rfl
      exact .inr ⟨g, n, c, cur, rfl, a.trans h1, h2, h3, h4, b h5, fun o ho => c' o (h6 o ho)⟩
  · obtain ⟨rfl, rfl, rfl, hc⟩ := h
    refine ⟨hS.1, ?_⟩
    rcases hS.2 with ⟨rfl, h1⟩ | ⟨g, c, cur, ys, rfl, h1, h2, h3, h4, h5, h6, h7, h8, h9⟩
    · exact .inl ⟨rfl, h1⟩
    · obtain ⟨a, b, c'⟩ := hg g rfl
      exact .inr ⟨g, c, cur, ys, rfl, a.trans h1, h2, h3, h4, b h5, fun o => c' o (h6 o), h7, reps_closed hp (fun x hx => by
        obtain ⟨cs, hcs, hxc⟩ := List.mem_flatten.1 hx
        exact hc cs hcs x hxc) h8, h9⟩
end
/-- Behind a call: the callee's i-th block is the caller's k-th. -/
def back (bs : List Nat) (n : Nat) (i k : Nat) : Prop := bs[i]? = some k ∨ (bs.length ≤ i ∧ k = n + (i - bs.length))
def into (bs : List Nat) (k i : Nat) : Prop := bs[i]? = some k
/-- What a call leaves of the caller's memory. -/
structure After (m m0 : Mem) (bs ts : List Nat) (m0' m' : Mem) : Prop where
  bl : m'.blks.length = m.blks.length + (m0'.blks.length - bs.length)
  ll : m'.lives.length = m.lives.length + (m0'.lives.length - ts.length)
  b : ∀ (k : Nat) (B' : ABlk), m'.blks[k]? = some (some B') → (∃ i B, back bs m.blks.length i k ∧ m0'.blks[i]? = some (some B) ∧ MvB (back bs m.blks.length) (back ts m.lives.length) B B') ∨ (k < m.blks.length ∧ k ∉ bs ∧ m.blks[k]? = some (some B'))
  l : ∀ (t : Nat) (L' : Live), m'.lives[t]? = some (some L') → (∃ i L, back ts m.lives.length i t ∧ m0'.lives[i]? = some (some L) ∧ MvL (back bs m.blks.length) (back ts m.lives.length) L L') ∨ (t < m.lives.length ∧ t ∉ ts ∧ m.lives[t]? = some (some L'))
inductive MvOut (rb rt : Nat → Nat → Prop) : AOut → AOut → Prop
  | ret (x y : AV) (h : Mv rb rt x y) : MvOut rb rt (.ret x) (.ret y)
  | pan (x y : AV) (h : Mv rb rt x y) : MvOut rb rt (.pan x) (.pan y)
end Go.Av
set_option linter.unusedVariables false
set_option linter.unusedSectionVars false
set_option linter.unusedSimpArgs false
namespace Go.Av
open Go.RowKit
variable [Tab]
section
variable {P : Program} {G : Env} {C0 : Cfg} {ops : Array Oper} {Q : AEx → St → Prop} {rest : List Oper} {o : Oper} {n : Nat} {fr : List (Nat × AV)} {m : Mem} {dfs : List AV}
end
end Go.Av
set_option linter.unusedVariables false
set_option linter.unusedSectionVars false
set_option linter.unusedSimpArgs false
namespace Go.Av
open Go.RowKit
variable [Tab]
section
variable {P : Program} {ops : Array Oper} {o : Oper} {n : Nat} {fr : List (Nat × AV)} {m : Mem} {dfs : List AV}
theorem run_part_one {t : TypeId} (ht : (P.underlying t).map aggD = some false) {w : World} {cs : Array Value} {off : Nat} {v : Value} (h : cs[off]? = some v) : (part t cs off).run P w = .ok v w := by
  simp [part, run_isAgg ht, h]
theorem run_part_agg {t : TypeId} {sz : Nat} (ht : (P.underlying t).map aggD = some true) (hn : (P.info? t).map (·.size) = some sz) {w : World} {cs : Array Value} {off : Nat} : (part t cs off).run P w = .ok (.agg (cs.extract off (off + sz))) w := by
  simp [part, run_isAgg ht, run_sizeOf' hn]
/-- An array's element, of one cell. -/
theorem w_idxArr1 {d len : Nat} {x i : Operand} {t e : TypeId} {kd : IntKind} {cs : List AV} {j : Int} {v : AV} (hw : Wants ops o ⟨n, fr, m, dfs⟩ true) (hd : o.dst = some d) (hlt : d < n) (ho : o.op = .index t x i) (ht : P.underlying t = some (.array len e)) (he : (P.underlying e).map aggD = some false) (hs : (P.info? e).map (·.size) = some 1) (hx : ev fr x = .agg cs) (hi : ev fr i = .int kd j) (h0 : 0 ≤ j) (h1 : j < len) (hv : cs[j.toNat]? = some v) : OneOp P ops o ⟨n, fr, m, dfs⟩ v m := one_val hw hd hlt (aop_pure fun C a w he' => by
  have q1 := he' x
  rw [hx] at q1
  have q2 := he' i
  rw [hi] at q2
  have q2 := q2.int_inv
  obtain ⟨vs, hv', hr⟩ := q1.agg_inv
  obtain ⟨u, hu, hru⟩ := hr.at hv
  have hp := run_part_one (P := P) he (w := w) (cs := vs.toArray) (off := j.toNat) (v := u) (by simpa using hu)
  exact ⟨u, by simp [execOp, ho, hv', q2, Instr.index, asIntOf, run_underlying ht, run_sizeOf' hs, h0, h1, hp], hru⟩)
/-- An array's element, of several cells. -/
theorem w_idxArrA {d len sz : Nat} {x i : Operand} {t e : TypeId} {kd : IntKind} {els : List (List AV)} {j : Int} {ds : List AV} (hz : ∀ (i : Nat) (cs : List AV), els[i]? = some cs → cs.length = sz) (hw : Wants ops o ⟨n, fr, m, dfs⟩ true) (hd : o.dst = some d) (hlt : d < n) (ho : o.op = .index t x i) (ht : P.underlying t = some (.array len e)) (he : (P.underlying e).map aggD = some true) (hs : (P.info? e).map (·.size) = some sz) (hx : ev fr x = .agg els.flatten) (hi : ev fr i = .int kd j) (h0 : 0 ≤ j) (h1 : j < len) (hv : els[j.toNat]? = some ds) : OneOp P ops o ⟨n, fr, m, dfs⟩ (.agg ds) m := one_val hw hd hlt (aop_pure fun C a w he' => by
  have q1 := he' x
  rw [hx] at q1
  have q2 := he' i
  rw [hi] at q2
  have q2 := q2.int_inv
  obtain ⟨vs, hv', hr⟩ := q1.agg_inv
  have hp := run_part_agg (P := P) he hs (w := w) (cs := vs.toArray) (off := j.toNat * sz)
  have hdl := hz _ _ hv
  have hjl := (List.getElem?_eq_some_iff.1 hv).1
  have hfl := flatten_length hz
  have hle : j.toNat * sz + sz ≤ els.length * sz := by rw [← Nat.succ_mul]; exact Nat.mul_le_mul_right _ hjl
  have hvl := hr.1
  refine ⟨.agg (vs.toArray.extract (j.toNat * sz) (j.toNat * sz + sz)), by simp [execOp, ho, hv', q2, Instr.index, asIntOf, run_underlying ht, run_sizeOf' hs, h0, h1, hp], ?_⟩
  have hev : vs.toArray.extract (j.toNat * sz) (j.toNat * sz + sz) = ((vs.drop (j.toNat * sz)).take sz).toArray := by
    apply Array.ext'
    simp [List.extract_eq_take_drop]
  rw [hev]
  refine .agg ds _ (by rw [List.length_take, List.length_drop]; omega) fun i' x' v' hx' hv'' => ?_
  have hfe := flatten_elem hz hv
  rw [← hfe, List.getElem?_take] at hx'
  rw [List.getElem?_take] at hv''
  split at hx'
  · rename_i hlt'
    rw [if_pos hlt'] at hv''
    rw [List.getElem?_drop] at hx' hv''
    exact hr.2 _ _ _ hx' hv''
  · cases hx')
/-- An array's literal. -/
theorem w_buildArr {d : Nat} {t e : TypeId} {len sz : Nat} {parts : List (Nat × Operand)} {z : Value} {ps : List (Nat × AV)} {zs ds : List AV} (hw : Wants ops o ⟨n, fr, m, dfs⟩ true) (hd : o.dst = some d) (hlt : d < n) (ho : o.op = .build t parts.toArray) (ht : P.underlying t = some (.array len e)) (hs : (P.info? e).map (·.size) = some sz) (hz : (P.info? t).map (·.zero) = some (some z)) (hone : z.cells.toList.all (·.oneCell') = true)
    (hzs : zeroOf z = zs) (hps : (parts.map fun p => (p.1, ev fr p.2)) = ps) (hb : bfill (fun i => some (i * sz, sz)) zs ps = some ds) : OneOp P ops o ⟨n, fr, m, dfs⟩ (.agg ds) m := one_val hw hd hlt (aop_pure fun C a w he => by
  subst hps; subst hzs
  obtain ⟨ws, h1, h2, h3⟩ := bfill_ok (vs := z.cells) (us := parts.map fun p => (p.1, a.eval p.2)) hb (reps_zero C z) (fun u hu => List.all_eq_true.1 hone u hu) (by simp) (zips he parts)
  obtain ⟨i, hi, hzi⟩ := Option.map_eq_some_iff.1 hz
  refine ⟨.agg ws, ?_, ?_⟩
  · unfold execOp
    simp [ho, Instr.build, zeroValue, typeInfo, hi, hzi, run_underlying ht, run_sizeOf' hs, h1]
  · have := Rep.agg ds ws.toList h2.1 h2.2
    simpa using this)
/-- A function value. -/
theorem w_makeFunc {d : Nat} {f : FuncId} {first caps : List Operand} {xs ys : List AV} (hw : Wants ops o ⟨n, fr, m, dfs⟩ true) (hd : o.dst = some d) (hlt : d < n) (ho : o.op = .makeFunc (.func f) first.toArray caps.toArray) (hx : first.map (ev fr) = xs) (hy : caps.map (ev fr) = ys) : OneOp P ops o ⟨n, fr, m, dfs⟩ (.fn f xs ys) m := one_val hw hd hlt (aop_pure fun C a w he => by
  subst hx; subst hy
  refine ⟨.func (.func f) (first.map a.eval).toArray (caps.map a.eval).toArray, by simp [execOp, ho, Instr.makeFunc], ?_⟩
  refine .fn f _ _ _ _ (by simp) (by simp) (fun j x v hx hv => ?_) (fun j x v hx hv => ?_)
  · rw [List.getElem?_map] at hx hv
    obtain ⟨y, hy, rfl⟩ := Option.map_eq_some_iff.1 hx
    rw [hy] at hv; simp at hv; subst hv
    exact he y
  · rw [List.getElem?_map] at hx hv
    obtain ⟨y, hy, rfl⟩ := Option.map_eq_some_iff.1 hx
    rw [hy] at hv; simp at hv; subst hv
    exact he y)
end
def mget (z : AV) : List (List UInt8 × AV) → List UInt8 → AV
  | [], _ => z
  | p :: r, x => bif p.1 == x then p.2 else mget z r x
def mput : List (List UInt8 × AV) → List UInt8 → AV → List (List UInt8 × AV)
  | [], x, v => [(x, v)]
  | p :: r, x, v => bif p.1 == x then (x, v) :: r else p :: mput r x v
def midx : List (List UInt8 × AV) → List UInt8 → Nat → Option Nat
  | [], _, _ => none
  | p :: r, x, i => bif p.1 == x then some i else midx r x (i + 1)
theorem bytes_beq' (x y : List UInt8) : ((⟨x.toArray⟩ : ByteArray) == ⟨y.toArray⟩) = (x == y) := by
  rw [Bool.eq_iff_iff, MapKept.bytes_beq]
  simp
theorem findNow_midx {x : List UInt8} : ∀ {es : List (List UInt8 × AV)} {ms : List MapEntry} (i : Nat), ms.map (·.key) = es.map (fun p => .string ⟨p.1.toArray⟩) →
    (Instr.findNow .string (.string ⟨x.toArray⟩) ms i = some none ∧ midx es x i = none ∧ (∀ z, mget z es x = z) ∧ ∀ v, mput es x v = es ++ [(x, v)]) ∨ ∃ j p e, es[j]? = some p ∧ ms[j]? = some e ∧ p.1 = x ∧ Instr.findNow .string (.string ⟨x.toArray⟩) ms i = some (some (i + j, e.val)) ∧ (∀ z, mget z es x = p.2) ∧ ∀ v, mput es x v = es.set j (x, v)
  | [], [], i, h => .inl ⟨rfl, rfl, fun _ => rfl, fun _ => rfl⟩
  | p :: es, e :: ms, i, h => by
    simp only [List.map_cons, List.cons.injEq] at h
    obtain ⟨h1, h2⟩ := h
    have hs : Instr.sameNow .string (.string ⟨x.toArray⟩) e.key = some (p.1 == x) := by
      rw [h1]
      simp only [Instr.sameNow, bytes_beq']
      rw [show (x == p.1) = (p.1 == x) from by rw [Bool.eq_iff_iff, beq_iff_eq, beq_iff_eq]; exact ⟨fun h => h.symm, fun h => h.symm⟩]
    cases hb : p.1 == x with
    | true =>
      have hx : p.1 = x := by simpa using hb
      refine .inr ⟨0, p, e, rfl, rfl, hx, ?_, fun z => by simp [mget, hb], fun v => by simp [mput, hb]⟩
      simp [Instr.findNow, hs, hb]
    | false =>
      rcases findNow_midx (x := x) (i + 1) h2 with ⟨a1, a2, a3, a4⟩ | ⟨j, q, f, a1, a2, a3, a4, a5, a6⟩
      · refine .inl ⟨?_, by simp [midx, hb, a2], fun z => by simp [mget, hb, a3], fun v => by simp [mput, hb, a4]⟩
        simp [Instr.findNow, hs, hb, a1]
      · refine .inr ⟨j + 1, q, f, by simpa using a1, by simpa using a2, a3, ?_, fun z => by simp [mget, hb, a5], fun v => by simp [mput, hb, a6]⟩
        simp [Instr.findNow, hs, hb, a4]
        omega
  | [], _ :: _, i, h => by simp at h
  | _ :: _, [], i, h => by simp at h
section
variable {P : Program} {o : Oper} {s : St}
theorem Rep.mp_inv {C : Cfg} {k : Nat} {v : Value} (h : Rep C (.mp k) v) : ∃ g, C.ρ[k]? = some g ∧ v = .map (some g) := by cases h; exact ⟨_, ‹_›, rfl⟩
theorem run_checkKeyS {t : TypeId} (ht : P.underlying t = some .string) (b : Bool) (w : World) (x : ByteArray) : (Instr.checkKey b 10000 t (.string x)).run P w = .ok () w := MapKept.run_checkKey ht (by trivial) b 9999
theorem op_makeMap {t : TypeId} (ho : o.op = .makeMap t none) : AOp P o s (.mp s.m.blks.length) (s.m.addB (.smap [])) := by
  intro G C0 C a w hg
  refine ⟨.map (some w.heap.size), _, w.alloc (.map #[] 0), by simp [execOp, ho, run_makeMap], C.le_addB _, hg.mem.alloc _ ⟨[], 0, heap_alloc_new w _, rfl, .nil _⟩, .mp _ w.heap.size ?_⟩
  show (C.ρ ++ [w.heap.size])[s.m.blks.length]? = _
  rw [← hg.mem.ρlen]; simp
theorem op_lookup {t kt et : TypeId} {x i : Operand} {k : Nat} {es : List (List UInt8 × AV)} {key : List UInt8} {z : Value} {r : AV} (ho : o.op = .lookup t x i false) (ht : P.underlying t = some (.map kt et)) (hkt : P.underlying kt = some .string) (hz : (P.info? et).map (·.zero) = some (some z)) (hx : ev s.fr x = .mp k) (hk : s.m.blks[k]? = some (some (.smap es))) (hi : ev s.fr i = .str key) (hr : mget (ofV z) es key = r) : AOp P o s r s.m := by
  intro G C0 C a w hg
  have q1 := hg.ev x
  rw [hx] at q1
  have q2 := hg.ev i
  rw [hi] at q2
  have q2 := q2.str_inv
  obtain ⟨g, hg1, hv⟩ := q1.mp_inv
  obtain ⟨_, ⟨ms, cl, b1, b2, b3⟩, _⟩ := hg.mem.blk k _ g hk hg1
  have hck : ∀ b, (Instr.checkKey b 10000 kt (.string ⟨key.toArray⟩)).run P w = .ok () w := fun b => run_checkKeyS hkt b w _
  obtain ⟨inf, hinf, hzz⟩ := Option.map_eq_some_iff.1 hz
  rcases findNow_midx (x := key) 0 b2 with ⟨c1, c2, c3, c4⟩ | ⟨j, p, e, c1, c2, c3, c4, c5, c6⟩
  · have hf := MapKept.run_findKey (P := P) (w := w) hkt c1
    refine ⟨z, C, w, ?_, .refl C, hg.mem, ?_⟩
    · simp [execOp, ho, hv, q2, Instr.lookup, run_underlying ht, MapKept.run_getObj_map b1, hck, hf, zeroValue, typeInfo, hinf, hzz]
    · rw [← hr, c3]; exact ofV_rep C z
  · have hf := MapKept.run_findKey (P := P) (w := w) hkt c4
    refine ⟨e.val, C, w, ?_, .refl C, hg.mem, ?_⟩
    · simp [execOp, ho, hv, q2, Instr.lookup, run_underlying ht, MapKept.run_getObj_map b1, hck, hf]
    · rw [← hr, c5]
      exact b3.2 j _ _ (by simp [c1]) (by simp [c2])
theorem op_lookupOk {t kt et : TypeId} {x i : Operand} {k : Nat} {es : List (List UInt8 × AV)} {key : List UInt8} {z : Value} {r : AV} {b : Bool} (ho : o.op = .lookup t x i true) (ht : P.underlying t = some (.map kt et)) (hkt : P.underlying kt = some .string) (hz : (P.info? et).map (·.zero) = some (some z)) (hx : ev s.fr x = .mp k) (hk : s.m.blks[k]? = some (some (.smap es))) (hi : ev s.fr i = .str key) (hr : mget (ofV z) es key = r) (hb : (es.any fun p => p.1 == key) = b) : AOp P o s (.tup [r, .bool b]) s.m := by
  intro G C0 C a w hg
  have q1 := hg.ev x
  rw [hx] at q1
  have q2 := hg.ev i
  rw [hi] at q2
  have q2 := q2.str_inv
  obtain ⟨g, hg1, hv⟩ := q1.mp_inv
  obtain ⟨_, ⟨ms, cl, b1, b2, b3⟩, _⟩ := hg.mem.blk k _ g hk hg1
  have hck : ∀ b, (Instr.checkKey b 10000 kt (.string ⟨key.toArray⟩)).run P w = .ok () w := fun b => run_checkKeyS hkt b w _
  obtain ⟨inf, hinf, hzz⟩ := Option.map_eq_some_iff.1 hz
  rcases findNow_midx (x := key) 0 b2 with ⟨c1, c2, c3, c4⟩ | ⟨j, p, e, c1, c2, c3, c4, c5, c6⟩
  · have hf := MapKept.run_findKey (P := P) (w := w) hkt c1
    have hbf : b = false := by
      rw [← hb]
      cases hh : es.any fun p => p.1 == key with
      | false => rfl
      | true =>
        exfalso
        have h1 := c3 (.str [])
        have h2 := c3 (.bool true)
        obtain ⟨p, hp, hpk⟩ := List.any_eq_true.1 hh
        have : ∀ (l : List (List UInt8 × AV)), p ∈ l → ∃ v, ∀ z, mget z l key = v := by
          intro l
          induction l with
          | nil => intro h; simp at h
          | cons q l ih =>
            intro h
            cases hq : q.1 == key with
            | true => exact ⟨q.2, fun z => by simp [mget, hq]⟩
            | false =>
              rcases List.mem_cons.1 h with rfl | h
              · rw [hq] at hpk; cases hpk
              · obtain ⟨v, hv⟩ := ih h
                exact ⟨v, fun z => by simp [mget, hq, hv]⟩
        obtain ⟨v, hv⟩ := this es hp
        rw [hv] at h1 h2
        rw [h1] at h2; cases h2
    subst hbf
    refine ⟨.tuple #[z, .bool false], C, w, ?_, .refl C, hg.mem, ?_⟩
    · simp [execOp, ho, hv, q2, Instr.lookup, run_underlying ht, MapKept.run_getObj_map b1, hck, hf, zeroValue, typeInfo, hinf, hzz]
    · have := Reps.cons (ofV_rep C z) (Reps.cons (Rep.bool (C := C) false) (Reps.nil C))
      rw [← hr, c3]
      exact .tup _ _ this.1 this.2
  · have hf := MapKept.run_findKey (P := P) (w := w) hkt c4
    have hbt : b = true := by
      rw [← hb]
      exact List.any_eq_true.2 ⟨p, List.mem_of_getElem? c1, by simp [c3]⟩
    subst hbt
    refine ⟨.tuple #[e.val, .bool true], C, w, ?_, .refl C, hg.mem, ?_⟩
    · simp [execOp, ho, hv, q2, Instr.lookup, run_underlying ht, MapKept.run_getObj_map b1, hck, hf]
    · have hre : Rep C r e.val := by rw [← hr, c5]; exact b3.2 j _ _ (by simp [c1]) (by simp [c2])
      have := Reps.cons hre (Reps.cons (Rep.bool (C := C) true) (Reps.nil C))
      exact .tup _ _ this.1 this.2
theorem op_mapUpdate {t kt et : TypeId} {x i y : Operand} {k : Nat} {es : List (List UInt8 × AV)} {key : List UInt8} {v : AV} (ho : o.op = .mapUpdate t x i y) (ht : P.underlying t = some (.map kt et)) (hkt : P.underlying kt = some .string) (hx : ev s.fr x = .mp k) (hk : s.m.blks[k]? = some (some (.smap es))) (hi : ev s.fr i = .str key) (hy : ev s.fr y = v) : AOpU P o s { s.m with blks := s.m.blks.set k (some (.smap (mput es key v))) } := by
  intro G C0 C a w hg
  have q1 := hg.ev x
  rw [hx] at q1
  have q2 := hg.ev i
  rw [hi] at q2
  have q2 := q2.str_inv
  have q3 := hg.ev y
  rw [hy] at q3
  obtain ⟨g, hg1, hv⟩ := q1.mp_inv
  obtain ⟨_, ⟨ms, cl, b1, b2, b3⟩, _⟩ := hg.mem.blk k _ g hk hg1
  have hck : ∀ b, (Instr.checkKey b 10000 kt (.string ⟨key.toArray⟩)).run P w = .ok () w := fun b => run_checkKeyS hkt b w _
  have hlen : ms.length = es.length := by have := congrArg List.length b2; simpa using this
  have hset : ∀ (ob : Obj), ({ w with heap := w.heap.setIfInBounds g ob } : World).heap[g]? = some ob ∧ ∀ b, b ≠ g → ({ w with heap := w.heap.setIfInBounds g ob } : World).heap[b]? = w.heap[b]? := fun ob => MapKept.heap_set b1
  rcases findNow_midx (x := key) 0 b2 with ⟨c1, c2, c3, c4⟩ | ⟨j, p, e, c1, c2, c3, c4, c5, c6⟩
  · have hf := MapKept.run_findKey (P := P) (w := w) hkt c1
    refine ⟨C, { w with heap := w.heap.setIfInBounds g (.map (ms.toArray.push { key := .string ⟨key.toArray⟩, val := a.eval y, born := cl }) (cl + 1)) }, ?_, .refl C, ?_⟩
    · simp [execOp, ho, hv, q2, Instr.mapUpdate, run_underlying ht, MapKept.run_getObj_map b1, hck, hf, MapKept.run_setObj_map _ b1]
    · refine hg.mem.write hk hg1 rfl rfl rfl (by simp) (fun b _ hb => (hset _).2 b hb) ⟨ms ++ [{ key := .string ⟨key.toArray⟩, val := a.eval y, born := cl }], cl + 1, ?_, ?_, ?_⟩
      · rw [(hset _).1]; simp
      · rw [c4]; simp [b2]
      · rw [c4]
        simp only [List.map_append, List.map_cons, List.map_nil]
        exact b3.append (.cons q3 (.nil C))
  · have hf := MapKept.run_findKey (P := P) (w := w) hkt c4
    have hjl : j < ms.length := (List.getElem?_eq_some_iff.1 c2).1
    have hek : e.key = .string ⟨key.toArray⟩ := by
      have h1 : (ms.map (·.key))[j]? = (es.map fun p => Value.string ⟨p.1.toArray⟩)[j]? := by rw [b2]
      rw [List.getElem?_map, List.getElem?_map, c2, c1] at h1
      simp only [Option.map_some, Option.some.injEq] at h1
      rw [h1, c3]
    have hks : (Instr.keyThatStays (.string ⟨key.toArray⟩) (.string ⟨key.toArray⟩)).run P w = .ok (.string ⟨key.toArray⟩) w := by
      simp [Instr.keyThatStays, Instr.sameBits, bytes_beq']
    refine ⟨C, { w with heap := w.heap.setIfInBounds g (.map (ms.toArray.modify j fun e => { e with key := .string ⟨key.toArray⟩, val := a.eval y }) cl) }, ?_, .refl C, ?_⟩
    · have hmj : (ms.toArray[0 + j]?).map (·.key) = some (.string ⟨key.toArray⟩) := by simp [c2, hek]
      simp [execOp, ho, hv, q2, Instr.mapUpdate, run_underlying ht, MapKept.run_getObj_map b1, hck, hf, c2, hek, hks, MapKept.run_setObj_map _ b1]
    · have hmod : (ms.toArray.modify j fun e => { e with key := .string ⟨key.toArray⟩, val := a.eval y }) = (ms.set j { e with key := .string ⟨key.toArray⟩, val := a.eval y }).toArray := by
        apply Array.ext'
        apply List.ext_getElem?
        intro i
        simp only [Array.getElem?_toList, Array.getElem?_modify, List.getElem?_set, List.getElem?_toArray]
        by_cases hij : j = i
        · subst hij
          rw [if_pos rfl, if_pos rfl, if_pos hjl, c2]; rfl
        · rw [if_neg hij, if_neg hij]
      refine hg.mem.write hk hg1 rfl rfl rfl (by simp) (fun b _ hb => (hset _).2 b hb) ⟨ms.set j { e with key := .string ⟨key.toArray⟩, val := a.eval y }, cl, ?_, ?_, ?_⟩
      · rw [(hset _).1, hmod]
      · rw [c6, List.map_set, List.map_set, b2]
      · rw [c6, List.map_set, List.map_set]
        refine ⟨by simp [hlen], fun i x u hx hu => ?_⟩
        rw [List.getElem?_set] at hx hu
        by_cases hij : j = i
        · rw [if_pos hij] at hx hu
          split at hx
          · split at hu
            · simp at hx hu; subst hx; subst hu; exact q3
            · cases hu
          · cases hx
        · rw [if_neg hij] at hx hu
          exact b3.2 i x u hx hu
end
section
variable {P : Program} {ops : Array Oper} {o : Oper} {n : Nat} {fr : List (Nat × AV)} {bs : List (Option ABlk)} {ls : List (Option Live)} {dfs : List AV}
theorem w_makeMap {d : Nat} {t : TypeId} (hw : Wants ops o ⟨n, fr, ⟨bs, ls⟩, dfs⟩ true) (hd : o.dst = some d) (hlt : d < n) (ho : o.op = .makeMap t none) (k : Nat) (hk : bs.length = k) (bl : List (Option ABlk)) (hbl : bs ++ [some (.smap [])] = bl) : OneOp P ops o ⟨n, fr, ⟨bs, ls⟩, dfs⟩ (.mp k) ⟨bl, ls⟩ := by
  subst hk; subst hbl
  exact one_val hw hd hlt (op_makeMap (s := ⟨n, fr, ⟨bs, ls⟩, dfs⟩) ho)
theorem w_lookup {d : Nat} {t kt et : TypeId} {x i : Operand} {k : Nat} {es : List (List UInt8 × AV)} {key : List UInt8} {z : Value} {r : AV} (hw : Wants ops o ⟨n, fr, ⟨bs, ls⟩, dfs⟩ true) (hd : o.dst = some d) (hlt : d < n) (ho : o.op = .lookup t x i false) (ht : P.underlying t = some (.map kt et)) (hkt : P.underlying kt = some .string) (hz : (P.info? et).map (·.zero) = some (some z)) (hx : ev fr x = .mp k) (hk : bs[k]? = some (some (.smap es))) (hi : ev fr i = .str key) (hr : mget (ofV z) es key = r) : OneOp P ops o ⟨n, fr, ⟨bs, ls⟩, dfs⟩ r ⟨bs, ls⟩ := one_val hw hd hlt (op_lookup (s := ⟨n, fr, ⟨bs, ls⟩, dfs⟩) ho ht hkt hz hx hk hi hr)
theorem w_lookupOk {d : Nat} {t kt et : TypeId} {x i : Operand} {k : Nat} {es : List (List UInt8 × AV)} {key : List UInt8} {z : Value} {r : AV} {b : Bool} (hw : Wants ops o ⟨n, fr, ⟨bs, ls⟩, dfs⟩ true) (hd : o.dst = some d) (hlt : d < n) (ho : o.op = .lookup t x i true) (ht : P.underlying t = some (.map kt et)) (hkt : P.underlying kt = some .string) (hz : (P.info? et).map (·.zero) = some (some z)) (hx : ev fr x = .mp k) (hk : bs[k]? = some (some (.smap es))) (hi : ev fr i = .str key) (hr : mget (ofV z) es key = r) (hb : (es.any fun p => p.1 == key) = b) : OneOp P ops o ⟨n, fr, ⟨bs, ls⟩, dfs⟩ (.tup [r, .bool b]) ⟨bs, ls⟩ := one_val hw hd hlt (op_lookupOk (s := ⟨n, fr, ⟨bs, ls⟩, dfs⟩) ho ht hkt hz hx hk hi hr hb)
theorem w_mapUpdate {t kt et : TypeId} {x i y : Operand} {k : Nat} {es : List (List UInt8 × AV)} {key : List UInt8} {v v' : AV} (hw : Wants ops o ⟨n, fr, ⟨bs, ls⟩, dfs⟩ true) (hd : o.dst = none) (ho : o.op = .mapUpdate t x i y) (ht : P.underlying t = some (.map kt et)) (hkt : P.underlying kt = some .string) (hx : ev fr x = .mp k) (hk : bs[k]? = some (some (.smap es))) (hi : ev fr i = .str key) (hy : ev fr y = v) (es' : List (List UInt8 × AV)) (hes : mput es key v = es') (bl : List (Option ABlk)) (hbl : bs.set k (some (.smap es')) = bl) : OneOp P ops o ⟨n, fr, ⟨bs, ls⟩, dfs⟩ v' ⟨bl, ls⟩ := by
  subst hes; subst hbl
  exact one_unit hw hd (op_mapUpdate (s := ⟨n, fr, ⟨bs, ls⟩, dfs⟩) ho ht hkt hx hk hi hy)
end
end Go.Av
set_option linter.unusedVariables false
set_option linter.unusedSectionVars false
set_option linter.unusedSimpArgs false
namespace Go.Av
open Go.RowKit
variable [Tab]
section
variable {k : Nat} {ds : List AV}
end
theorem pure_same {P : Program} {f : FuncId} {args : List AV} {R : AOut → Prop} (h : ∀ (F : Nat → Option Obj) (C : Cfg) (w : World) (vs : List Value), Tab.okF F → (∀ b o, F b = some o → w.heap[b]? = some o) → Reps C args vs → Calls P f vs.toArray w fun e w' => w' = w ∧ ∃ o, R o ∧ RepOut C o e) : APure P f args R := by
  intro m G C w vs hm hv
  refine (h G.fix C w vs G.has (fun b o hf => (hm.kept b (hm.fixed b o hf).1).trans (hm.fixed b o hf).2) hv).mono ?_
  rintro e w' ⟨rfl, o, hR, ho⟩
  exact ⟨o, m, C, ⟨hR, rfl⟩, ho, .refl C, hm⟩
theorem pure_grow {P : Program} {f : FuncId} {args : List AV} {R : AOut → Prop} (h : ∀ (F : Nat → Option Obj) (C : Cfg) (w : World) (vs : List Value), Tab.okF F → (∀ b o, F b = some o → w.heap[b]? = some o) → Reps C args vs → Calls P f vs.toArray w fun e w' => (w'.os = w.os ∧ w'.tape = w.tape ∧ w'.output = w.output ∧ w.heap.size ≤ w'.heap.size ∧ ∀ b, b < w.heap.size → w'.heap[b]? = w.heap[b]?) ∧ ∃ o, R o ∧ RepOut C o e) : APure P f args R := by
  intro m G C w vs hm hv
  refine (h G.fix C w vs G.has (fun b o hf => (hm.kept b (hm.fixed b o hf).1).trans (hm.fixed b o hf).2) hv).mono ?_
  rintro e w' ⟨⟨h1, h2, h3, h4, h5⟩, o, hR, ho⟩
  refine ⟨o, m, C, ⟨hR, rfl⟩, ho, .refl C, hm.turn (.refl m) (.refl C) rfl rfl h1 h2 h3 h4 (fun _ => False) (fun _ h => h.elim) (fun b hb _ => h5 b hb) (fun b o v hp => ⟨(World.cell?_of_block (w := w) (h5 b (hm.poolLt hp))).trans (hm.pool b o v hp).1, (hm.pool b o v hp).2⟩) (fun _ _ _ h => .inl h) (fun _ _ _ _ _ h => h) (fun _ _ _ _ _ _ _ h => h)⟩
theorem strs_flat (ss : List (List UInt8)) : (ss.map fun l => [AV.str l]).flatten = ss.map AV.str := by
  induction ss with
  | nil => rfl
  | cons a r ih => simp only [List.map_cons, List.flatten_cons, ih]; rfl
theorem MemOk.rowOnly {G : Env} {C : Cfg} {m : Mem} {w : World} (h : MemOk G C m w) {e : TypeId} {ys : List Value} (hone : ∀ u ∈ ys, u.oneCell' = true) :
    ∃ hcc, C.Le (C.addRow w.heap.size ys hcc) ∧ MemOk G (C.addRow w.heap.size ys hcc) m (w.alloc (.cells ys.toArray e)) := by
  have hcc : ∀ o u, C.pool w.heap.size o = some u → o < ys.length → ys[o]? = some u := fun o u hpu _ => by have := h.poolLt hpu; omega
  have hle := C.le_addRow w.heap.size ys hcc
  have hnp : ¬ G.prot w.heap.size := fun hp => by have := h.old _ hp; have := h.size; omega
  refine ⟨hcc, hle, h.turn (.refl m) hle rfl rfl rfl rfl rfl (by simp) (fun b => b = w.heap.size) (fun b e => e ▸ hnp) (fun b hb _ => Below.heap_alloc w _ b hb) (fun b o v hpv => ?_) (fun b o v hpv => ?_) (fun k B g' q1 q2 q3 => ?_) (fun t p v g' q1 q2 q3 q4 => ?_)⟩
  · simp only [Cfg.addRow] at hpv
    split at hpv
    · rename_i hh; obtain ⟨rfl, ho⟩ := hh
      exact ⟨by rw [cell_of_heap (vs := ys) (heap_alloc_new w _)]; exact hpv, hone v (List.mem_of_getElem? hpv)⟩
    · have hlt := h.poolLt hpv
      exact ⟨(World.cell?_of_block (w := w) (Below.heap_alloc w _ b hlt)).trans (h.pool b o v hpv).1, (h.pool b o v hpv).2⟩
  · simp only [Cfg.addRow] at hpv
    split at hpv
    · rename_i hh; exact .inr (.inl hh.1)
    · exact .inl hpv
  · subst q3; have := (h.blk k B _ q1 q2).2.1.lt; omega
  · subst q4; have := (h.stp t p v q1 q2).lt q3; omega
theorem pure_strs {P : Program} {f : FuncId} {args : List AV} {ty : TypeId} {ss : List (List UInt8)} (hl : ss.length ≤ 4611686018427387904) (h : ∀ (F : Nat → Option Obj) (C : Cfg) (w : World) (vs : List Value), Tab.okF F → (∀ b o, F b = some o → w.heap[b]? = some o) → Reps C args vs → Calls P f vs.toArray w fun e w' => e = .returned (.slice (some ⟨w.heap.size, 0, none⟩) ss.length ss.length) ∧ w' = w.alloc (.cells (ss.map fun l => Value.string ⟨l.toArray⟩).toArray ty)) :
    APure P f args fun o => o = .ret (.sl none 1 (ss.map fun l => [.str l])) := by
  intro m G C w vs hm hv
  refine (h G.fix C w vs G.has (fun b o hf => (hm.kept b (hm.fixed b o hf).1).trans (hm.fixed b o hf).2) hv).mono ?_
  rintro e w' ⟨rfl, rfl⟩
  have hz : ∀ (i : Nat) (cs : List AV), (ss.map fun l => [AV.str l])[i]? = some cs → cs.length = 1 := fun i cs hi => by
    rw [List.getElem?_map] at hi
    obtain ⟨x, _, rfl⟩ := Option.map_eq_some_iff.1 hi
    rfl
  have hr : ∀ D : Cfg, Reps D (ss.map AV.str) (ss.map fun l => Value.string ⟨l.toArray⟩) := fun D => ⟨by simp, fun j x v hx hv => by
    rw [List.getElem?_map] at hx hv
    obtain ⟨y, hy, rfl⟩ := Option.map_eq_some_iff.1 hx
    rw [hy] at hv; simp at hv; subst hv
    exact .str y⟩
  have hone : ∀ u ∈ (ss.map fun l => Value.string ⟨l.toArray⟩), u.oneCell' = true := fun u hu => by
    obtain ⟨l, _, rfl⟩ := List.mem_map.1 hu; rfl
  obtain ⟨hcc, hle, hmem⟩ := hm.rowOnly (e := ty) hone
  have hsl : (ss.map fun l => [AV.str l]).length = ss.length := by simp
  refine ⟨_, m, _, ⟨rfl, rfl⟩, .ret _ _ ?_, hle, hmem⟩
  have := Rep.sl_mk (C := C.addRow w.heap.size (ss.map fun l => Value.string ⟨l.toArray⟩) hcc) (st := none) (sz := 1) (els := ss.map fun l => [AV.str l]) (A := some ⟨w.heap.size, 0, none⟩) (c := ss.length) (b := w.heap.size) (off := 0) (ys := ss.map fun l => Value.string ⟨l.toArray⟩) (by rw [hsl]; omega) (by omega) (fun h => by cases h) (fun t ht => by cases ht) (fun _ => rfl) hz ⟨by rw [strs_flat]; exact hr _, fun o' u hu => Cfg.addRow_row C _ _ hcc o' u hu⟩
  rw [hsl] at this
  exact this
end Go.Av
set_option linter.unusedVariables false
set_option linter.unusedSectionVars false
set_option linter.unusedSimpArgs false
namespace Go.Av
open Go.RowKit
variable [Tab]
section
variable {P : Program} {o : Oper} {s : St}
def bAnd (k : IntKind) (x y : Int) : Int := k.wrap ((BitVec.ofInt k.bits x &&& BitVec.ofInt k.bits y).toNat)
def bOr (k : IntKind) (x y : Int) : Int := k.wrap ((BitVec.ofInt k.bits x ||| BitVec.ofInt k.bits y).toNat)
def bXor (k : IntKind) (x y : Int) : Int := k.wrap ((BitVec.ofInt k.bits x ^^^ BitVec.ofInt k.bits y).toNat)
def bClr (k : IntKind) (x y : Int) : Int := k.wrap ((BitVec.ofInt k.bits x &&& ~~~ BitVec.ofInt k.bits y).toNat)
theorem op_quo {t t' : TypeId} {x y : Operand} {k : IntKind} {m n : Int} (h : o.op = .binOp .quo t x y t') (hn : n ≠ 0) (hx : ev s.fr x = .int k m) (hy : ev s.fr y = .int k n) : AOp P o s (.int k (k.wrap (m.tdiv n))) s.m := aop_pure fun C a w he => by
  have h1 := he x
  have h2 := he y
  rw [hx] at h1; rw [hy] at h2
  exact ⟨.int k (k.wrap (m.tdiv n)), by simp [execOp, h, h1.int_inv, h2.int_inv, eqGuard, binOp, Op.intDiv, hn], .int _ _⟩
theorem op_rem {t t' : TypeId} {x y : Operand} {k : IntKind} {m n : Int} (h : o.op = .binOp .rem t x y t') (hn : n ≠ 0) (hx : ev s.fr x = .int k m) (hy : ev s.fr y = .int k n) : AOp P o s (.int k (m.tmod n)) s.m := aop_pure fun C a w he => by
  have h1 := he x
  have h2 := he y
  rw [hx] at h1; rw [hy] at h2
  exact ⟨.int k (m.tmod n), by simp [execOp, h, h1.int_inv, h2.int_inv, eqGuard, binOp, Op.intDiv, hn], .int _ _⟩
theorem op_and {t t' : TypeId} {x y : Operand} {k : IntKind} {m n : Int} (h : o.op = .binOp .and t x y t') (hx : ev s.fr x = .int k m) (hy : ev s.fr y = .int k n) : AOp P o s (.int k (bAnd k m n)) s.m := aop_pure fun C a w he => by
  have h1 := he x
  have h2 := he y
  rw [hx] at h1; rw [hy] at h2
  exact ⟨.int k (bAnd k m n), by simp [execOp, h, h1.int_inv, h2.int_inv, eqGuard, binOp, Op.intBits, bAnd], .int _ _⟩
theorem op_or {t t' : TypeId} {x y : Operand} {k : IntKind} {m n : Int} (h : o.op = .binOp .or t x y t') (hx : ev s.fr x = .int k m) (hy : ev s.fr y = .int k n) : AOp P o s (.int k (bOr k m n)) s.m := aop_pure fun C a w he => by
  have h1 := he x
  have h2 := he y
  rw [hx] at h1; rw [hy] at h2
  exact ⟨.int k (bOr k m n), by simp [execOp, h, h1.int_inv, h2.int_inv, eqGuard, binOp, Op.intBits, bOr], .int _ _⟩
theorem op_xor {t t' : TypeId} {x y : Operand} {k : IntKind} {m n : Int} (h : o.op = .binOp .xor t x y t') (hx : ev s.fr x = .int k m) (hy : ev s.fr y = .int k n) : AOp P o s (.int k (bXor k m n)) s.m := aop_pure fun C a w he => by
  have h1 := he x
  have h2 := he y
  rw [hx] at h1; rw [hy] at h2
  exact ⟨.int k (bXor k m n), by simp [execOp, h, h1.int_inv, h2.int_inv, eqGuard, binOp, Op.intBits, bXor], .int _ _⟩
theorem op_clr {t t' : TypeId} {x y : Operand} {k : IntKind} {m n : Int} (h : o.op = .binOp .andNot t x y t') (hx : ev s.fr x = .int k m) (hy : ev s.fr y = .int k n) : AOp P o s (.int k (bClr k m n)) s.m := aop_pure fun C a w he => by
  have h1 := he x
  have h2 := he y
  rw [hx] at h1; rw [hy] at h2
  exact ⟨.int k (bClr k m n), by simp [execOp, h, h1.int_inv, h2.int_inv, eqGuard, binOp, Op.intBits, bClr], .int _ _⟩
theorem op_shl {t t' : TypeId} {x y : Operand} {k k' : IntKind} {m n : Int} (h : o.op = .binOp .shl t x y t') (hn : 0 ≤ n) (hx : ev s.fr x = .int k m) (hy : ev s.fr y = .int k' n) : AOp P o s (.int k (k.wrap (m * 2 ^ (min n.toNat k.bits)))) s.m := aop_pure fun C a w he => by
  have h1 := he x
  have h2 := he y
  rw [hx] at h1; rw [hy] at h2
  exact ⟨.int k (k.wrap (m * 2 ^ (min n.toNat k.bits))), by simp [execOp, h, h1.int_inv, h2.int_inv, eqGuard, binOp, Op.shift, Int.not_lt.2 hn], .int _ _⟩
theorem op_shr {t t' : TypeId} {x y : Operand} {k k' : IntKind} {m n : Int} (h : o.op = .binOp .shr t x y t') (hn : 0 ≤ n) (hx : ev s.fr x = .int k m) (hy : ev s.fr y = .int k' n) : AOp P o s (.int k (m.fdiv (2 ^ (min n.toNat k.bits)))) s.m := aop_pure fun C a w he => by
  have h1 := he x
  have h2 := he y
  rw [hx] at h1; rw [hy] at h2
  exact ⟨.int k (m.fdiv (2 ^ (min n.toNat k.bits))), by simp [execOp, h, h1.int_inv, h2.int_inv, eqGuard, binOp, Op.shift, Int.not_lt.2 hn], .int _ _⟩
def strCmp (b : BinOp) (x y : List UInt8) : Option Bool :=
  match b with
  | .lss => some (Op.bytesLess x y)
  | .leq => some (Op.bytesLess x y || x == y)
  | .gtr => some (!(Op.bytesLess x y || x == y))
  | .geq => some (!(Op.bytesLess x y))
  | _ => none
theorem op_strCmp {b : BinOp} {t t' : TypeId} {x y : Operand} {m n : List UInt8} {r : Bool} (h : o.op = .binOp b t x y t') (hb : strCmp b m n = some r) (hx : ev s.fr x = .str m) (hy : ev s.fr y = .str n) : AOp P o s (.bool r) s.m := aop_pure fun C a w he => by
  have h1 := he x
  have h2 := he y
  rw [hx] at h1; rw [hy] at h2
  have h1 := h1.str_inv
  have h2 := h2.str_inv
  cases b <;> simp only [strCmp] at hb <;> first | contradiction | skip
  all_goals
    injection hb with hb
    subst hb
  · exact ⟨_, by simp [execOp, h, h1, h2, eqGuard, binOp, Op.stringOp], .bool _⟩
  · exact ⟨_, by simp [execOp, h, h1, h2, eqGuard, binOp, Op.stringOp], .bool _⟩
  · exact ⟨.bool (!(Op.bytesLess m n || m == n)), by simp [execOp, h, h1, h2, eqGuard, binOp, Op.stringOp], .bool _⟩
  · exact ⟨_, by simp [execOp, h, h1, h2, eqGuard, binOp, Op.stringOp], .bool _⟩
theorem op_neg {t : TypeId} {x : Operand} {k : IntKind} {n : Int} (h : o.op = .unOp .neg t x) (hx : ev s.fr x = .int k n) : AOp P o s (.int k (k.wrap (0 - n))) s.m := aop_pure fun C a w he => by
  have h1 := he x
  rw [hx] at h1
  exact ⟨.int k (k.wrap (0 - n)), by simp [execOp, h, h1.int_inv, Op.unary, Op.intArith], .int _ _⟩
theorem op_inv {t : TypeId} {x : Operand} {k : IntKind} {n : Int} (h : o.op = .unOp .xor t x) (hx : ev s.fr x = .int k n) : AOp P o s (.int k (bXor k (if k.signed then -1 else k.max) n)) s.m := aop_pure fun C a w he => by
  have h1 := he x
  rw [hx] at h1
  exact ⟨.int k (bXor k (if k.signed then -1 else k.max) n), by simp [execOp, h, h1.int_inv, Op.unary, Op.intBits, bXor], .int _ _⟩
theorem op_makeIface {t : TypeId} {x : Operand} {v : AV} {td : TypeDesc} (h : o.op = .makeInterface t x) (ht : P.underlying t = some td) (hn : ∀ ms, td ≠ .interface ms) (hx : ev s.fr x = v) : AOp P o s (.ifc t v) s.m := aop_pure fun C a w he => by
  have h1 := he x
  rw [hx] at h1
  refine ⟨.iface t (a.eval x), ?_, .ifc t v _ h1⟩
  cases td <;> first | exact absurd rfl (hn _) | simp [execOp, h, Instr.makeInterface, run_underlying ht]
theorem op_convInt {t t' : TypeId} {td : TypeDesc} {x : Operand} {k k' : IntKind} {n : Int} (h : o.op = .convert t t' x) (ht : P.underlying t = some td) (ht' : P.underlying t' = some (.int k')) (hx : ev s.fr x = .int k n) : AOp P o s (.int k' (k'.wrap n)) s.m := aop_pure fun C a w he => by
  have h1 := he x
  rw [hx] at h1
  exact ⟨.int k' (k'.wrap n), by simp [execOp, h, convert, run_underlying ht, run_underlying ht', h1.int_inv, Conv.intToInt], .int _ _⟩
theorem op_convStr {t t' : TypeId} {td : TypeDesc} {x : Operand} {n : List UInt8} (h : o.op = .convert t t' x) (ht : P.underlying t = some td) (ht' : P.underlying t' = some .string) (hx : ev s.fr x = .str n) : AOp P o s (.str n) s.m := aop_pure fun C a w he => by
  have h1 := he x
  rw [hx] at h1
  exact ⟨.string ⟨n.toArray⟩, by simp [execOp, h, convert, run_underlying ht, run_underlying ht', h1.str_inv], .str _⟩
def refV : Value → Bool
  | .pointer _ => true
  | .slice _ _ _ => true
  | .map _ => true
  | .func _ _ _ => true
  | .nilFunc => true
  | .iface _ _ => true
  | .nilIface => true
  | _ => false
theorem run_eqlRef {t : TypeId} {u v : Value} {r : Bool} {w : World} (hu : refV u = true) (hv : refV v = true) (h : (Op.equalIn 10000 t u v).run P w = .ok r w) : (binOp .eql t u v).run P w = .ok (.bool r) w := by
  have h2 : (Op.equal t u v).run P w = .ok r w := h
  have h3 : ((Op.equal t u v).bind fun b => Sem.pure (Value.bool b)).run P w = .ok (.bool r) w := by rw [Go.Sem.run_bind', h2]; rfl
  cases u <;> first | (simp [refV] at hu; done) | (cases v <;> first | (simp [refV] at hv; done) | exact h3)
theorem run_neqRef {t : TypeId} {u v : Value} {r : Bool} {w : World} (hu : refV u = true) (hv : refV v = true) (h : (Op.equalIn 10000 t u v).run P w = .ok r w) : (binOp .neq t u v).run P w = .ok (.bool (!r)) w := by
  have h2 : (Op.equal t u v).run P w = .ok r w := h
  have h3 : ((Op.equal t u v).bind fun b => Sem.pure (Value.bool (!b))).run P w = .ok (.bool (!r)) w := by rw [Go.Sem.run_bind', h2]; rfl
  cases u <;> first | (simp [refV] at hu; done) | (cases v <;> first | (simp [refV] at hv; done) | exact h3)
def eqB (b : BinOp) (r : Bool) : Option Bool :=
  match b with
  | .eql => some r
  | .neq => some (!r)
  | _ => none
theorem op_ref {b : BinOp} {t t' : TypeId} {x y : Operand} {r r' : Bool} (h : o.op = .binOp b t x y t') (hb : eqB b r = some r')
    (hq : ∀ (C : Cfg) (u v : Value) (w : World), Rep C (ev s.fr x) u → Rep C (ev s.fr y) v → refV u = true ∧ refV v = true ∧ (eqGuard b t x y u v).run P w = .ok () w ∧ ∀ d, (Op.equalIn (d + 1) t u v).run P w = .ok r w) : AOp P o s (.bool r') s.m := aop_pure fun C a w he => by
  obtain ⟨h1, h2, h3, h4⟩ := hq C _ _ w (he x) (he y)
  have h4 := h4 9999
  refine ⟨.bool r', ?_, .bool _⟩
  cases b <;> simp only [eqB] at hb <;> first | contradiction | skip
  all_goals
    injection hb with hb
    subst hb
  · simp [execOp, h, h3, run_eqlRef h1 h2 h4]
  · simp [execOp, h, h3, run_neqRef h1 h2 h4]
theorem guard_ref {b : BinOp} {t : TypeId} {x y : Operand} {u v : Value} {w : World} (hu : refV u = true) (h : u ≠ .nilIface) : (eqGuard b t x y u v).run P w = .ok () w := by
  cases u <;> first | (simp [refV] at hu; done) | exact absurd rfl h | (cases b <;> simp [eqGuard])
theorem op_nilP {b : BinOp} {t t' te : TypeId} {x y : Operand} {r r' : Bool} (h : o.op = .binOp b t x y t') (ht : P.underlying t = some (.pointer te)) (hx : ∀ (C : Cfg) (u : Value), Rep C (ev s.fr x) u → ∃ p, u = .pointer p ∧ p.isNone = r) (hy : ev s.fr y = .nilp) (hb : eqB b r = some r') : AOp P o s (.bool r') s.m := by
  refine op_ref h hb fun C u v w hu hv => ?_
  obtain ⟨p, rfl, hp⟩ := hx C u hu
  rw [hy] at hv
  rw [hv.nilp_inv]
  refine ⟨rfl, rfl, guard_ref rfl (by simp), fun d => ?_⟩
  cases p <;> (subst hp; simp [Op.equalIn, run_underlying ht])
theorem op_nilPr {b : BinOp} {t t' te : TypeId} {x y : Operand} {r r' : Bool} (h : o.op = .binOp b t x y t') (ht : P.underlying t = some (.pointer te)) (hx : ev s.fr x = .nilp) (hy : ∀ (C : Cfg) (u : Value), Rep C (ev s.fr y) u → ∃ p, u = .pointer p ∧ p.isNone = r) (hb : eqB b r = some r') : AOp P o s (.bool r') s.m := by
  refine op_ref h hb fun C u v w hu hv => ?_
  obtain ⟨p, rfl, hp⟩ := hy C v hv
  rw [hx] at hu
  rw [hu.nilp_inv]
  refine ⟨rfl, rfl, guard_ref rfl (by simp), fun d => ?_⟩
  cases p <;> (subst hp; simp [Op.equalIn, run_underlying ht])
theorem op_nilF {b : BinOp} {t t' : TypeId} {q1 q2 q3} {x y : Operand} {r r' : Bool} (h : o.op = .binOp b t x y t') (ht : P.underlying t = some (.func q1 q2 q3)) (hx : ∀ (C : Cfg) (u : Value), Rep C (ev s.fr x) u → (u = .nilFunc ∧ r = true) ∨ (∃ f a c, u = .func f a c) ∧ r = false) (hy : ev s.fr y = .nilf) (hb : eqB b r = some r') : AOp P o s (.bool r') s.m := by
  refine op_ref h hb fun C u v w hu hv => ?_
  rw [hy] at hv
  have hv : v = .nilFunc := by cases hv; rfl
  subst hv
  rcases hx C u hu with ⟨rfl, rfl⟩ | ⟨⟨f, a, c, rfl⟩, rfl⟩
  · exact ⟨rfl, rfl, guard_ref rfl (by simp), fun d => by simp [Op.equalIn, run_underlying ht]⟩
  · exact ⟨rfl, rfl, guard_ref rfl (by simp), fun d => by simp [Op.equalIn, run_underlying ht]⟩
theorem op_nilM {b : BinOp} {t t' q1 q2 : TypeId} {x y : Operand} {r r' : Bool} (h : o.op = .binOp b t x y t') (ht : P.underlying t = some (.map q1 q2)) (hx : ∀ (C : Cfg) (u : Value), Rep C (ev s.fr x) u → ∃ p, u = .map p ∧ p.isNone = r) (hy : ev s.fr y = .nilm) (hb : eqB b r = some r') : AOp P o s (.bool r') s.m := by
  refine op_ref h hb fun C u v w hu hv => ?_
  obtain ⟨p, rfl, hp⟩ := hx C u hu
  rw [hy] at hv
  have hv : v = .map none := by cases hv; rfl
  subst hv
  refine ⟨rfl, rfl, guard_ref rfl (by simp), fun d => ?_⟩
  cases p <;> (subst hp; simp [Op.equalIn, run_underlying ht])
theorem op_nilS {b : BinOp} {t t' te : TypeId} {x y : Operand} {r r' : Bool} (h : o.op = .binOp b t x y t') (ht : P.underlying t = some (.slice te)) (hx : ∀ (C : Cfg) (u : Value), Rep C (ev s.fr x) u → ∃ p l c, u = .slice p l c ∧ p.isNone = r) (hy : ev s.fr y = .zs true) (hb : eqB b r = some r') : AOp P o s (.bool r') s.m := by
  refine op_ref h hb fun C u v w hu hv => ?_
  obtain ⟨p, l, c, rfl, hp⟩ := hx C u hu
  rw [hy] at hv
  obtain ⟨A, rfl, hA⟩ := hv.zs_inv
  have hA := hA rfl
  subst hA
  refine ⟨rfl, rfl, guard_ref rfl (by simp), fun d => ?_⟩
  cases p <;> (subst hp; simp [Op.equalIn, run_underlying ht])
theorem op_nilI {b : BinOp} {t t' : TypeId} {ms} {x : Operand} {r r' : Bool} (h : o.op = .binOp b t x (.const .nilIface) t') (ht : P.underlying t = some (.interface ms)) (hx : ∀ (C : Cfg) (u : Value), Rep C (ev s.fr x) u → (u = .nilIface ∧ r = true) ∨ (∃ f a, u = .iface f a) ∧ r = false) (hb : eqB b r = some r') : AOp P o s (.bool r') s.m := by
  refine op_ref h hb fun C u v w hu hv => ?_
  have hv : v = .nilIface := by cases hv; rfl
  subst hv
  rcases hx C u hu with ⟨rfl, rfl⟩ | ⟨⟨f, a, rfl⟩, rfl⟩
  · exact ⟨rfl, rfl, by cases b <;> simp [eqGuard], fun d => by simp [Op.equalIn, run_underlying ht]⟩
  · exact ⟨rfl, rfl, guard_ref rfl (by simp), fun d => by simp [Op.equalIn, run_underlying ht]⟩
end
end Go.Av
set_option linter.unusedVariables false
set_option linter.unusedSectionVars false
set_option linter.unusedSimpArgs false
namespace Go.Av
open Go.RowKit
variable [Tab]
/-- A text's bytes, as values. -/
def sbytes (s : List UInt8) : List Value := s.map fun b => Value.int .u8 b.toNat
theorem first_str {P : Program} (w : World) (sz : Nat) (s : List UInt8) : (Builtin.firstCells sz s.length (.string ⟨s.toArray⟩)).run P w = .ok (sbytes s).toArray w := by
  simp only [Builtin.firstCells, Sem.run_pure]
  have h : (⟨s.toArray⟩ : ByteArray).extract 0 s.length = ⟨s.toArray⟩ := by
    have hs : s.length = (⟨s.toArray⟩ : ByteArray).size := by show s.length = s.toArray.size; simp
    rw [hs]
    exact ByteArray.extract_zero_size
  rw [h]
  simp [sbytes]
theorem run_append_str {P : Program} (w : World) {t t' ty e : TypeId} {i : TypeInfo} {z : Value} {bytes : Nat} (ht : P.underlying t = some (.slice e)) (ht' : P.underlying t' = some .string) (hi : P.info? e = some i) (hz : i.zero = some z)
    (hsize : i.size = 1) (hby : i.bytes = bytes) (hzs : z.cells.size = 1) {v : Value} {n : Nat} {xs : List Value}
    (hv : (v = .slice none 0 0 ∧ n = 0 ∧ xs = []) ∨ (∃ a, v = .slice (some a) 0 0 ∧ n = 0 ∧ xs = []) ∨ ∃ g cap cur, v = .slice (some ⟨g, 0, none⟩) n cap ∧ w.heap[g]? = some (.cells cur e (0, 0)) ∧ n ≤ cap ∧ cap ≤ maxLen ∧ cur.size = cap * 1 ∧ cur.toList.take (n * 1) = xs)
    (hxl : xs.length = n * 1) (s : List UInt8)
    (hbytes : (n + s.length) * bytes ≤ 140737488355328) (h63 : n + s.length ≤ 9223372036854775807) :
    ∃ v' w', (Builtin.append_ #[t, t'] ty #[v, .string ⟨s.toArray⟩]).run P w = .ok v' w' ∧
      ((v' = v ∧ w' = w ∧ s = []) ∨ ∃ g cap cur, v' = .slice (some ⟨g, 0, none⟩) (n + s.length) cap ∧ w'.heap[g]? = some (.cells cur e (0, 0)) ∧ n + s.length ≤ cap ∧ cap ≤ maxLen ∧ cur.size = cap * 1 ∧ cur.toList.take ((n + s.length) * 1) = xs ++ sbytes s ∧
        w'.os = w.os ∧ w'.tape = w.tape ∧ w'.output = w.output ∧ w.heap.size ≤ w'.heap.size ∧ (∀ b, b < w.heap.size → b ≠ g → w'.heap[b]? = w.heap[b]?) ∧ ((∃ cap', v = .slice (some ⟨g, 0, none⟩) n cap' ∧ n < cap') ∨ g = w.heap.size)) := by
  subst hby
  have hss : (⟨s.toArray⟩ : ByteArray).size = s.length := by show s.toArray.size = s.length; simp
  have hl : (sbytes s).length = s.length := by simp [sbytes]
  have hlen : (xs ++ sbytes s).length = (n + s.length) * 1 := by rw [List.length_append, hxl, hl, Nat.mul_one, Nat.mul_one]
  have h1 : ∀ u ∈ sbytes s, u.oneCell' = true := fun u hu => by
    obtain ⟨b, _, rfl⟩ := List.mem_map.1 hu
    rfl
  by_cases hm : s = []
  · subst hm
    have hfirst := first_str (P := P) w 1 []
    simp only [List.length_nil] at hfirst
    refine ⟨v, w, ?_, .inl ⟨rfl, rfl, rfl⟩⟩
    simp only [List.length_nil, Nat.add_zero] at *
    rcases hv with ⟨rfl, rfl, rfl⟩ | ⟨a, rfl, rfl, rfl⟩ | ⟨g, cap, cur, rfl, _, hnc, _⟩
    · simp [Builtin.append_, run_underlying ht, run_underlying ht', sizeOf, typeInfo, hi, hsize, Builtin.lenOf, hss, hfirst, storeCells, sbytes]
    · simp [Builtin.append_, run_underlying ht, run_underlying ht', sizeOf, typeInfo, hi, hsize, Builtin.lenOf, hss, hfirst, storeCells, sbytes]
    · simp [Builtin.append_, run_underlying ht, run_underlying ht', sizeOf, typeInfo, hi, hsize, Builtin.lenOf, hss, hfirst, hnc, storeCells, sbytes]
  · have hpos : 0 < s.length := List.length_pos_iff.2 hm
    have hmax : n + s.length ≤ maxLen := by unfold maxLen; omega
    have hf0 := first_str (P := P) w 1 s
    have hf := first_str (P := P) w.drew 1 s
    have grown : ∀ (old : Nat), old < n + s.length →
        (w.drew.alloc (.cells (xs.toArray ++ (sbytes s).toArray ++ Builtin.zeroCells z.cells (grownCap w (n + s.length) old e - (n + s.length))) e)).heap[w.heap.size]? = some (.cells (xs.toArray ++ (sbytes s).toArray ++ Builtin.zeroCells z.cells (grownCap w (n + s.length) old e - (n + s.length))) e (0, 0)) ∧ n + s.length ≤ grownCap w (n + s.length) old e ∧ grownCap w (n + s.length) old e ≤ maxLen ∧
        (xs.toArray ++ (sbytes s).toArray ++ Builtin.zeroCells z.cells (grownCap w (n + s.length) old e - (n + s.length))).size = grownCap w (n + s.length) old e * 1 ∧ (xs.toArray ++ (sbytes s).toArray ++ Builtin.zeroCells z.cells (grownCap w (n + s.length) old e - (n + s.length))).toList.take ((n + s.length) * 1) = xs ++ sbytes s := by
      intro old ho
      have hge := grownCap_ge w (n + s.length) old e
      have hcm : grownCap w (n + s.length) old e ≤ maxLen := grownCap_le_maxLen w (n + s.length) old e hmax
      refine ⟨heap_alloc_new w.drew _, hge, hcm, ?_, ?_⟩
      · simp only [Array.size_append, List.size_toArray, size_zeroCells, hzs, hxl, hl, Nat.mul_one]
        omega
      · simp only [Array.toList_append, List.append_assoc]
        rw [← List.append_assoc, ← hlen]
        exact List.take_left
    have h63' : ¬ (9223372036854775807 < ((n : Int) + (s.length : Int))) := by omega
    have goGrow : ∀ (base : Option Addr) (cap : Nat), cap < n + s.length → (Builtin.firstCells 1 n (.slice base n cap)).run P w.drew = .ok xs.toArray w.drew →
        (Builtin.append_ #[t, t'] ty #[.slice base n cap, .string ⟨s.toArray⟩]).run P w = .ok (.slice (some ⟨w.heap.size, 0, none⟩) (n + s.length) (grownCap w (n + s.length) cap e)) (w.drew.alloc (.cells (xs.toArray ++ (sbytes s).toArray ++ Builtin.zeroCells z.cells (grownCap w (n + s.length) cap e - (n + s.length))) e)) := by
      intro base cap hg hfo
      have hn : ¬ (n + s.length ≤ cap) := by omega
      have h48 := growslice_fits (bytes := i.bytes) hg hbytes
      have h48' : ¬ (281474976710656 < Builtin.nextslicecap (n + s.length) cap * i.bytes) := by omega
      simp [Builtin.append_, run_underlying ht, run_underlying ht', sizeOf, typeInfo, zeroValue, hi, hz, hsize, Builtin.lenOf, hss, hn, h63', h48', Question.forced, hf, hfo, newRow, grownCap]
      congr 2
      apply Array.ext'
      simp [List.append_assoc]
    rcases hv with ⟨rfl, rfl, rfl⟩ | ⟨a, rfl, rfl, rfl⟩ | ⟨g, cap, cur, rfl, hg, hnc, hcm, hcs, htake⟩
    · obtain ⟨g1, g2, g3, g4, g5⟩ := grown 0 (by omega)
      have hr := goGrow none 0 (by omega) (by simp [run_firstCells_none])
      exact ⟨_, _, hr, .inr ⟨_, _, _, rfl, g1, g2, g3, g4, g5, rfl, rfl, rfl, by simp, fun b hb _ => Below.heap_alloc w.drew _ b hb, .inr rfl⟩⟩
    · obtain ⟨g1, g2, g3, g4, g5⟩ := grown 0 (by omega)
      have hr := goGrow (some a) 0 (by omega) (run_firstCells_some (P := P) w.drew 1 0 a 0 0 [] (by simp) (by intro j v hj; simp at hj))
      exact ⟨_, _, hr, .inr ⟨_, _, _, rfl, g1, g2, g3, g4, g5, rfl, rfl, rfl, by simp, fun b hb _ => Below.heap_alloc w.drew _ b hb, .inr rfl⟩⟩
    · by_cases hroom : n + s.length ≤ cap
      · have hfit : n * 1 + (sbytes s).length ≤ cur.size := by rw [hl, hcs]; omega
        have hst := run_storeCells_at P g (n * 1) e (sbytes s) 0 cur w hg (by simpa using hfit) h1
        simp only [Nat.add_zero] at hst
        have hr : (Builtin.append_ #[t, t'] ty #[.slice (some ⟨g, 0, none⟩) n cap, .string ⟨s.toArray⟩]).run P w = .ok (.slice (some ⟨g, 0, none⟩) (n + s.length) cap) (w.setRow g (cur.toList.take (n * 1) ++ sbytes s ++ cur.toList.drop (n * 1 + (sbytes s).length)).toArray) := by
          simp only [Nat.mul_one] at hst ⊢
          simp [Builtin.append_, run_underlying ht, run_underlying ht', sizeOf, typeInfo, hi, hsize, Builtin.lenOf, hss, hroom, hf0, Addr.add_lit, hst]
        refine ⟨_, _, hr, .inr ⟨g, cap, _, rfl, setRow_heap w g cur _ e _ hg, hroom, hcm, ?_, ?_, rfl, rfl, rfl, by simp, fun k _ hk => setRow_other w g k _ hk, .inl ⟨cap, rfl, by omega⟩⟩⟩
        · simp only [List.size_toArray, List.length_append, List.length_take, List.length_drop, Array.length_toList]
          omega
        · rw [htake, ← hlen]
          exact List.take_left
      · have hcur : ∀ j v, xs[j]? = some v → w.drew.cell? ((⟨g, 0, none⟩ : Addr).add j) = some v := by
          intro j v hj
          rw [← htake, List.getElem?_take] at hj
          split at hj
          · rw [addr_add, Nat.zero_add]
            show w.cell? _ = _
            simp only [World.cell?, hg, Option.isSome_none, Bool.false_eq_true, if_false]
            simpa using hj
          · cases hj
        obtain ⟨g1, g2, g3, g4, g5⟩ := grown cap (by omega)
        have hr := goGrow (some ⟨g, 0, none⟩) cap (by omega) (run_firstCells_some (P := P) w.drew 1 n ⟨g, 0, none⟩ n cap xs hxl hcur)
        exact ⟨_, _, hr, .inr ⟨_, _, _, rfl, g1, g2, g3, g4, g5, rfl, rfl, rfl, by simp, fun b hb _ => Below.heap_alloc w.drew _ b hb, .inr rfl⟩⟩
/-- A text's bytes, as cells. -/
def bytesA (s : List UInt8) : List (List AV) := s.map fun b => [AV.int .u8 b.toNat]
theorem bytesA_reps (C : Cfg) : ∀ s : List UInt8, Reps C (bytesA s).flatten (sbytes s)
  | [] => .nil C
  | b :: s => .cons (.int _ _) (bytesA_reps C s)
theorem bytesA_len (s : List UInt8) : (bytesA s).length = s.length := by simp [bytesA]
theorem bytesA_sz (s : List UInt8) : ∀ (i : Nat) (cs : List AV), (bytesA s)[i]? = some cs → cs.length = 1 := fun i cs h => by
  simp only [bytesA, List.getElem?_map, Option.map_eq_some_iff] at h
  obtain ⟨_, _, rfl⟩ := h
  rfl
section
variable {P : Program} {o : Oper} {s : St}
theorem append_core_str {G : Env} {C : Cfg} {m m' : Mem} {w : World} (hm : MemOk G C m w) {t t' ty e : TypeId} {bytes : Nat} (hE : Elem P t e 1 bytes) (ht' : P.underlying t' = some .string) {u : Value} {els : List (List AV)} {ys : List Value} (tx : List UInt8)
    (hv : (∃ A, u = .slice A 0 0 ∧ els.length = 0 ∧ ys = []) ∨ ∃ g cap cur, u = .slice (some ⟨g, 0, none⟩) els.length cap ∧ w.heap[g]? = some (.cells cur e (0, 0)) ∧ els.length ≤ cap ∧ cap ≤ maxLen ∧ cur.size = cap * 1 ∧ cur.toList.take (els.length * 1) = ys)
    (hr : Reps C els.flatten ys) (hz : ∀ (i : Nat) (cs : List AV), els[i]? = some cs → cs.length = 1) (hone1 : ∀ u ∈ ys, u.oneCell' = true) (hf : m'.Fewer m)
    (hs : ∀ g, Spare u els.length g → ¬ G.prot g ∧ (∀ o, C.pool g o = none) ∧ (∀ (k' : Nat) (B : ABlk), m'.blks[k']? = some (some B) → C.ρ[k']? ≠ some g) ∧ ∀ (t' : Nat) (p : Live) (v2 : Value), m'.lives[t']? = some (some p) → C.τ[t']? = some v2 → v2.ownBlock ≠ some g)
    (hb : (els.length + tx.length) * bytes ≤ 140737488355328) (h63 : els.length + tx.length ≤ 9223372036854775807) :
    ∃ v' w', (Builtin.append_ #[t, t'] ty #[u, .string ⟨tx.toArray⟩]).run P w = .ok v' w' ∧
      ((v' = u ∧ w' = w ∧ tx = []) ∨ (MemOk G (C.addS v') (m'.addL (.own e 1 (els ++ bytesA tx))) w' ∧ Rep (C.addS v') (.rs m.lives.length) v')) := by
  obtain ⟨ht, z0, hi0, hzs⟩ := hE
  obtain ⟨i, hi, hii⟩ := Option.map_eq_some_iff.1 hi0
  simp only [Prod.mk.injEq] at hii
  obtain ⟨hiz, his, hib⟩ := hii
  have hyl : ys.length = els.length * 1 := by rw [← hr.1, flatten_length hz]
  have hl2 := bytesA_len tx
  have hz2 := bytesA_sz tx
  have hone2 : ∀ v ∈ sbytes tx, v.oneCell' = true := fun v hv => by
    obtain ⟨b, _, rfl⟩ := List.mem_map.1 hv
    rfl
  obtain ⟨v', w', hrun, hcase⟩ := run_append_str (P := P) w (ty := ty) ht ht' hi hiz his hib hzs (v := u) (n := els.length) (xs := ys) (by
    rcases hv with ⟨A, h1, h2, h3⟩ | h
    · cases A with
      | none => exact .inl ⟨h1, h2, h3⟩
      | some a => exact .inr (.inl ⟨a, h1, h2, h3⟩)
    · exact .inr (.inr h)) hyl tx hb h63
  refine ⟨v', w', hrun, ?_⟩
  rcases hcase with h | ⟨g, cap, cur, rfl, c1, c2', c3, c4, c5, e1, e2, e3, e4, e5, e6⟩
  · exact .inl h
  refine .inr ?_
  have hzz : ∀ (i : Nat) (cs : List AV), (els ++ bytesA tx)[i]? = some cs → cs.length = 1 := by
    intro i cs hi
    by_cases hlt : i < els.length
    · rw [List.getElem?_append_left hlt] at hi; exact hz i cs hi
    · rw [List.getElem?_append_right (by omega)] at hi; exact hz2 _ cs hi
  have hrr : Reps C (els ++ bytesA tx).flatten (ys ++ sbytes tx) := by rw [List.flatten_append]; exact hr.append (bytesA_reps C tx)
  have hprot : ¬ G.prot g := by
    rcases e6 with e6 | e6
    · exact (hs g e6).1
    · intro hp'; have := hm.old g hp'; have := hm.size; omega
  have hlen2 : els.length + tx.length = (els ++ bytesA tx).length := by simp [hl2]
  rw [hlen2] at c2' c5
  have hmem := hm.ownRow hf e1 e2 e3 e4 e5 c1 c2' c3 c4 c5 hrr hzz (fun u hu => (List.mem_append.1 hu).elim (hone1 u) (hone2 u)) hprot (fun o' => by
      rcases e6 with e6 | e6
      · exact (hs g e6).2.1 o'
      · cases hc : C.pool g o' with
        | none => rfl
        | some v => have := hm.poolLt hc; omega)
    (fun k' B h1 h2 => by
      rcases e6 with e6 | e6
      · exact (hs g e6).2.2.1 k' B h1 h2
      · have := (hm.blk k' B g (hf.b _ _ h1) h2).2.1.lt; omega)
    (fun t' p v2 h1 h2 h3 => by
      rcases e6 with e6 | e6
      · exact (hs g e6).2.2.2 t' p v2 h1 h2 h3
      · have := (hm.stp t' p v2 (hf.l _ _ h1) h2).lt h3; omega)
  rw [hlen2]
  exact ⟨hmem, .rs _ _ _ _ (getElem?_last _ _ _ hm.τlen)⟩
theorem append_exec_str {t t' : TypeId} {x y : Operand} {a : Act} {u v : Value} (h : o.op = .call { callee := .builtin .append, args := #[x, y], argTypes := #[t, t'] }) (hx : a.eval x = u) (hy : a.eval y = v) {w w' : World} {r : Value} (hr : (Builtin.append_ #[t, t'] o.type #[u, v]).run P w = .ok r w') :
    (execOp a.eval o).run P w = .ok (.value r) w' := by
  unfold execOp
  simp only [h, resolve, invoke, builtin, Sem.run_bind, Sem.run_pure, Result.andThen_ok, List.map_toArray, List.map_cons, List.map_nil, hx, hy, hr]
/-- A text, appended to an own row of bytes. -/
theorem op_own_append_str {t t' e : TypeId} {bytes k : Nat} {x y : Operand} {els : List (List AV)} (tx : List UInt8) (h : o.op = .call { callee := .builtin .append, args := #[x, y], argTypes := #[t, t'] }) (hE : Elem P t e 1 bytes) (ht' : P.underlying t' = some .string)
    (hx : ev s.fr x = .rs k) (hk : s.m.lives[k]? = some (some (.own e 1 els))) (hy : ev s.fr y = .str tx) (hb : (els.length + tx.length) * bytes ≤ 140737488355328) (h63 : els.length + tx.length ≤ 9223372036854775807) :
    AOp P o s (.rs s.m.lives.length) ((s.m.kill k).addL (.own e 1 (els ++ bytesA tx))) := by
  intro G C0 C a w hg
  have hxr := hg.ev x
  rw [hx] at hxr
  obtain ⟨hτ, A, n, c, hxv⟩ := hxr.rs_inv
  have hyr := hg.ev y
  rw [hy] at hyr
  have hyv := hyr.str_inv
  have hstp := hg.own hk hτ
  have hbl : ∀ (k' : Nat) (B : ABlk) (g : Nat), (s.m.kill k).blks[k']? = some (some B) → C.ρ[k']? = some g → (a.eval x).ownBlock ≠ some g := fun k' B g h1 h2 => hg.mem.bdist k k' _ B _ g hk ((s.m.kill_fewer k).b _ _ h1) hτ h2
  have hll : ∀ (t' : Nat) (p : Live) (v2 : Value) (g : Nat), (s.m.kill k).lives[t']? = some (some p) → C.τ[t']? = some v2 → v2.ownBlock = some g → (a.eval x).ownBlock ≠ some g := fun t' p v2 g h1 h2 h3 h4 =>
    Mem.kill_not h1 (hg.mem.sdist t' k p _ v2 _ g ((s.m.kill_fewer k).l _ _ h1) hk h2 hτ h3 h4)
  have hrow : ∃ ys, ((∃ A, a.eval x = .slice A 0 0 ∧ els.length = 0 ∧ ys = []) ∨ ∃ g cap cur, a.eval x = .slice (some ⟨g, 0, none⟩) els.length cap ∧ w.heap[g]? = some (.cells cur e (0, 0)) ∧ els.length ≤ cap ∧ cap ≤ maxLen ∧ cur.size = cap * 1 ∧ cur.toList.take (els.length * 1) = ys) ∧ Reps C els.flatten ys ∧ ∀ u ∈ ys, u.oneCell' = true := by
    rcases hstp.2 with ⟨h0, h2⟩ | ⟨g, cap, cur, ys, h0, h1, h2, h3, h4, h5, h6, h7, h8, h9⟩
    · subst h2
      exact ⟨[], .inl ⟨none, h0, rfl, rfl⟩, .nil C, fun u hu => by simp at hu⟩
    · exact ⟨ys, .inr ⟨g, cap, cur, h0, h1, h2, h3, h4, h7⟩, h8, h9⟩
  obtain ⟨ys, hv, hr, hone1⟩ := hrow
  obtain ⟨v', w', hrun, hcase⟩ := append_core_str (P := P) hg.mem (ty := o.type) hE ht' tx hv hr hstp.1 hone1 (s.m.kill_fewer k) (fun g hsp => by
      obtain ⟨cap, he, hlc⟩ := hsp
      have hob : (a.eval x).ownBlock = some g := by rw [he]; rfl
      refine ⟨hstp.notProt hob, ?_, fun k' B h1 h2 => hbl k' B g h1 h2 hob, fun t' p v2 h1 h2 h3 => hll t' p v2 g h1 h2 h3 hob⟩
      rw [he] at hstp
      obtain ⟨_, _, _, _, _, _, _, _, b7, _⟩ := own_cells hstp
      exact b7) hb h63
  have hexec := append_exec_str (P := P) h (rfl : a.eval x = a.eval x) hyv hrun
  rcases hcase with ⟨rfl, rfl, rfl⟩ | ⟨h2, h3⟩
  · refine ⟨a.eval x, C.addS (a.eval x), w', hexec, C.le_addS _, ?_, ?_⟩
    · rw [show bytesA [] = [] from rfl, List.append_nil]
      exact (hg.mem.turn (s.m.kill_fewer k) (.refl C) rfl rfl rfl rfl rfl (Nat.le_refl _) (fun _ => False) (fun _ h => h.elim) (fun _ _ _ => rfl) hg.mem.pool (fun _ _ _ h => .inl h) (fun _ _ _ _ _ h => h) (fun _ _ _ _ _ _ _ h => h)).addL hstp hbl hll
    · rw [hxv]
      exact .rs _ _ _ _ (by rw [← hxv]; exact getElem?_last _ _ _ hg.mem.τlen)
  · exact ⟨v', _, w', hexec, C.le_addS _, h2, h3⟩
/-- A text, appended to nil. -/
theorem op_own_appendNil_str {t t' e : TypeId} {bytes : Nat} {x y : Operand} (tx : List UInt8) (h : o.op = .call { callee := .builtin .append, args := #[x, y], argTypes := #[t, t'] }) (hE : Elem P t e 1 bytes) (ht' : P.underlying t' = some .string)
    (hx : ev s.fr x = .zs true) (hy : ev s.fr y = .str tx) (hb : tx.length * bytes ≤ 140737488355328) (h63 : tx.length ≤ 9223372036854775807) :
    AOp P o s (.rs s.m.lives.length) (s.m.addL (.own e 1 (bytesA tx))) := by
  intro G C0 C a w hg
  have hxr := hg.ev x
  rw [hx] at hxr
  obtain ⟨A, hxv, hA⟩ := hxr.zs_inv
  have hA := hA rfl
  subst hA
  have hyr := hg.ev y
  rw [hy] at hyr
  have hyv := hyr.str_inv
  obtain ⟨v', w', hrun, hcase⟩ := append_core_str (P := P) hg.mem (ty := o.type) (els := []) (ys := []) hE ht' tx (.inl ⟨none, rfl, rfl, rfl⟩) (.nil C) (fun i cs h => by simp at h) (fun u hu => by simp at hu) (.refl s.m) (fun g hsp => by obtain ⟨cap, he, _⟩ := hsp; cases he) (by simpa using hb) (by simpa using h63)
  have hexec := append_exec_str (P := P) h hxv hyv hrun
  rcases hcase with ⟨rfl, rfl, rfl⟩ | ⟨h2, h3⟩
  · refine ⟨_, C.addS (.slice none 0 0), w', hexec, C.le_addS _, hg.mem.addL ⟨fun i cs h => by simp [bytesA] at h, .inl ⟨rfl, rfl⟩⟩ (fun _ _ _ _ _ => by simp [Value.ownBlock]) (fun _ _ _ _ _ _ _ => by simp [Value.ownBlock]), ?_⟩
    exact .rs _ _ _ _ (getElem?_last _ _ _ hg.mem.τlen)
  · exact ⟨v', _, w', hexec, C.le_addS _, h2, h3⟩
end
end Go.Av
set_option linter.unusedVariables false
set_option linter.unusedSectionVars false
set_option linter.unusedSimpArgs false
namespace Go.Av
open Go.RowKit
variable [Tab]
/-- In C the stamp j is what t is. -/
def RwP (C : Cfg) (t j : Nat) : Prop := ∀ v, C.τ[t]? = some v → C.τ[j]? = some v
def Rw (t j : Nat) (x y : AV) : Prop := ∀ (C : Cfg) (v : Value), RwP C t j → Rep C x v → Rep C y v
theorem rw_refl {t j : Nat} (x : AV) : Rw t j x x := fun C v _ h => h
theorem rw_rs {t j : Nat} : Rw t j (.rs t) (.rs j) := fun C v hf h => by
  obtain ⟨h1, A, n, c, rfl⟩ := h.rs_inv
  exact .rs j A n c (hf _ h1)
def Rws (t j : Nat) : List AV → List AV → Prop
  | [], [] => True
  | x :: xs, y :: ys => Rw t j x y ∧ Rws t j xs ys
  | _, _ => False
theorem Rws.reps {t j : Nat} {C : Cfg} (hf : RwP C t j) : ∀ {xs ys : List AV} {vs : List Value}, Rws t j xs ys → Reps C xs vs → Reps C ys vs
  | [], [], vs, _, h => h
  | x :: xs, y :: ys, vs, hw, h => by
    obtain ⟨v, us, rfl, h1, h2⟩ := h.head
    exact .cons (hw.1 C v hf h1) (hw.2.reps hf h2)
  | [], _ :: _, _, h, _ => h.elim
  | _ :: _, [], _, h, _ => h.elim
theorem rw_agg {t j : Nat} {xs ys : List AV} (h : Rws t j xs ys) : Rw t j (.agg xs) (.agg ys) := fun C v hf hr => by
  obtain ⟨vs, rfl, hrs⟩ := hr.agg_inv
  have := h.reps hf hrs
  exact .agg _ _ this.1 this.2
theorem rw_tup {t j : Nat} {xs ys : List AV} (h : Rws t j xs ys) : Rw t j (.tup xs) (.tup ys) := fun C v hf hr => by
  obtain ⟨vs, rfl, hrs⟩ := hr.tup_inv
  have := h.reps hf hrs
  exact .tup _ _ this.1 this.2
def RwB (t j : Nat) : List (Option ABlk) → List (Option ABlk) → Prop
  | [], [] => True
  | b :: bs, c :: cs => (match b, c with
    | some (.cells ty xs), some (.cells ty' ys) => ty = ty' ∧ Rws t j xs ys
    | _, c => b = c) ∧ RwB t j bs cs
  | _, _ => False
theorem RwB.length {t j : Nat} : ∀ {bs cs : List (Option ABlk)}, RwB t j bs cs → bs.length = cs.length
  | [], [], _ => rfl
  | _ :: _, _ :: _, h => by simp [h.2.length]
  | [], _ :: _, h => h.elim
  | _ :: _, [], h => h.elim
theorem RwB.at {t j : Nat} : ∀ {bs cs : List (Option ABlk)}, RwB t j bs cs → ∀ {q : Nat} {B' : ABlk}, cs[q]? = some (some B') → ∃ B, bs[q]? = some (some B) ∧ ∀ (C : Cfg) (w : World) (g : Nat), RwP C t j → BlkOk C w g B → BlkOk C w g B'
  | b :: bs, c :: cs, h, q, B', hj => by
    cases q with
    | zero =>
      simp at hj; subst hj
      obtain ⟨h1, _⟩ := h
      split at h1
      · rename_i ty xs ty' ys he
        injection he with he
        obtain ⟨rfl, h1⟩ := h1
        refine ⟨_, rfl, fun C w g hf hB => ?_⟩
        subst he
        obtain ⟨vs, q1, q2, q3⟩ := hB
        exact ⟨vs, q1, h1.reps hf q2, q3⟩
      · subst h1
        exact ⟨B', rfl, fun C w g _ hB => hB⟩
    | succ q =>
      obtain ⟨B, h1, h2⟩ := h.2.at (q := q) (by simpa using hj)
      exact ⟨B, by simpa using h1, h2⟩
  | [], [], _, q, B', h => by simp at h
  | [], _ :: _, h, _, _, _ => h.elim
  | _ :: _, [], h, _, _, _ => h.elim
/-- The row is told by a new stamp; the old one is let go. -/
theorem MemOk.renew {G : Env} {C : Cfg} {bs : List (Option ABlk)} {ls : List (Option Live)} {w : World} (h : MemOk G C ⟨bs, ls⟩ w) {t : Nat} {p : Live} (ht : ls[t]? = some (some p)) :
    ∃ C', C.Le C' ∧ C'.ρ = C.ρ ∧ MemOk G C' ⟨bs, ls.set t none ++ [some p]⟩ w ∧ RwP C' t ls.length := by
  have htl : t < C.τ.length := by rw [h.τlen]; exact (List.getElem?_eq_some_iff.1 ht).1
  have hτ : C.τ[t]? = some C.τ[t] := List.getElem?_eq_getElem htl
  have hs := h.stp t _ _ ht hτ
  have hk : MemOk G C (Mem.kill ⟨bs, ls⟩ t) w := h.turn (Mem.kill_fewer _ t) (.refl C) rfl rfl rfl rfl rfl (Nat.le_refl _) (fun _ => False) (fun _ h => h.elim) (fun _ _ _ => rfl) h.pool (fun _ _ _ h => .inl h) (fun _ _ _ _ _ h => h) (fun _ _ _ _ _ _ _ h => h)
  refine ⟨C.addS C.τ[t], C.le_addS _, rfl, hk.addL hs (fun k' B g h1 h2 => h.bdist t k' _ B _ g ht ((Mem.kill_fewer ⟨bs, ls⟩ t).b _ _ h1) hτ h2) (fun t' p' v2 g h1 h2 h3 h4 => Mem.kill_not h1 (h.sdist t' t p' _ v2 _ g ((Mem.kill_fewer ⟨bs, ls⟩ t).l _ _ h1) ht h2 hτ h3 h4)), fun v hv => ?_⟩
  have hl : ls.length = C.τ.length := h.τlen.symm
  have : (C.addS C.τ[t]).τ = C.τ ++ [C.τ[t]] := rfl
  rw [this, List.getElem?_append_left htl] at hv
  rw [hτ] at hv
  rw [this, hl, List.getElem?_append_right (Nat.le_refl _), Nat.sub_self]
  exact hv
section
variable {P : Program} {ops : Array Oper} {o : Oper} {n : Nat} {fr : List (Nat × AV)} {m : Mem} {dfs : List AV}
/-- A slice's literal, of places that never change. -/
theorem w_buildSlice0 {bs : List (Option ABlk)} {ls : List (Option Live)} {d len : Nat} {t e : TypeId} {sz : Nat} {parts : List (Nat × Operand)} {z : Value} {ps : List (Nat × AV)} {zs ds : List AV} (els : List (List AV)) (hw : Wants ops o ⟨n, fr, ⟨bs, ls⟩, dfs⟩ true) (hd : o.dst = some d) (hlt : d < n) (ho : o.op = .buildSlice t len parts.toArray) (ht : P.underlying t = some (.slice e)) (hz : (P.info? e).map (fun i => (i.zero, i.size)) = some (some z, sz)) (hone : z.cells.toList.all (·.oneCell') = true) (hzl : z.cells.size = sz) (hpos : 0 < sz) (hsm : len * sz ≤ 16777216)
    (hzs : (List.range (len * sz)).map (fun j => ofV (z.cells[j % sz]!)) = zs) (hps : (parts.map fun p => (p.1, ev fr p.2)) = ps) (hb : bfill (fun i => some (i * sz, sz)) zs ps = some ds) (hel : els.flatten = ds) (hll : els.length = len) (hall : ∀ cs ∈ els, cs.length = sz) : OneOp P ops o ⟨n, fr, ⟨bs, ls⟩, dfs⟩ (.sl none sz els) ⟨bs, ls⟩ := one_val hw hd hlt (by
  intro G C0 C a w hg
  subst hps; subst hzs; subst hll
  have he := hg.ev
  let vs : Array Value := (Array.range (els.length * sz)).map (fun j => z.cells[j % z.cells.size]!)
  have hvl : vs.toList = (List.range (els.length * sz)).map (fun j => z.cells[j % sz]!) := by simp [vs, hzl]
  have hzr : Reps C ((List.range (els.length * sz)).map (fun j => ofV (z.cells[j % sz]!))) vs.toList := by
    rw [hvl]
    refine ⟨by simp, fun j x v hx hv => ?_⟩
    rw [List.getElem?_map] at hx hv
    obtain ⟨y, hy, rfl⟩ := Option.map_eq_some_iff.1 hx
    rw [hy] at hv; simp at hv; subst hv
    exact ofV_rep C _
  have hz1 : ∀ u ∈ vs.toList, u.oneCell' = true := by
    rw [hvl]
    intro u hu
    obtain ⟨j, hj, rfl⟩ := List.mem_map.1 hu
    have hlt : j % sz < z.cells.size := by rw [hzl]; exact Nat.mod_lt _ hpos
    rw [getElem!_pos z.cells _ hlt]
    exact List.all_eq_true.1 hone _ (by simp)
  obtain ⟨ws, h1, h2, h3⟩ := bfill_ok (vs := vs) (us := parts.map fun p => (p.1, a.eval p.2)) hb hzr hz1 (by simp) (zips he parts)
  obtain ⟨i, hi, hzi⟩ := Option.map_eq_some_iff.1 hz
  simp only [Prod.mk.injEq] at hzi
  obtain ⟨hzz, hsz⟩ := hzi
  have hzf : ∀ (i : Nat) (cs : List AV), els[i]? = some cs → cs.length = sz := fun i cs h => hall cs (List.mem_of_getElem? h)
  have hwl : ws.toList.length = els.length * sz := by rw [← h2.1, ← hel, flatten_length hzf]
  have hws : ws.size = els.length * sz := by simpa using hwl
  have hnp : ¬ G.prot w.heap.size := fun hp => by have := hg.mem.old _ hp; have := hg.mem.size; omega
  have hmax : els.length ≤ maxLen := by
    unfold maxLen
    have : els.length ≤ els.length * sz := Nat.le_mul_of_pos_right _ hpos
    omega
  have hone' : ∀ u ∈ ws.toList, u.oneCell' = true := h3
  obtain ⟨hcc, hle, hmem⟩ := hg.mem.rowOnly (e := e) hone'
  rw [show (ws.toList).toArray = ws by simp] at hmem
  refine ⟨.slice (some ⟨w.heap.size, 0, none⟩) els.length els.length, _, w.alloc (.cells ws e), ?_, hle, hmem, ?_⟩
  · have hgt : ¬ (16777216 < els.length * sz) := by omega
    unfold execOp
    have hvs : vs = (Array.range (els.length * sz)).map (fun j => z.cells[j % z.cells.size]!) := rfl
    by_cases h0 : els.length * sz = 0
    · have hve : vs = #[] := by rw [hvs, h0]; simp
      have h0' : els.length = 0 := by rcases Nat.mul_eq_zero.1 h0 with h | h <;> omega
      have h0'' : els = [] := List.eq_nil_of_length_eq_zero h0'
      rw [hve] at h1
      have hr0 : Array.range 0 = #[] := by decide
      simp [hr0, ho, Instr.buildSlice, run_underlying ht, sizeOf, typeInfo, hi, hsz, h0'', h1, newRow, zeroValue, hzz]
    · have hel0 : ¬ els = [] := fun h => h0 (by rw [h]; simp)
      have hsz0 : ¬ sz = 0 := by omega
      rw [hvs] at h1
      simp [ho, Instr.buildSlice, run_underlying ht, sizeOf, typeInfo, hi, hsz, hgt, hel0, hsz0, newRow, zeroValue, hzz, h1]
      exact fun h => absurd h h0
  · exact Rep.sl_mk (Nat.le_refl _) hmax (fun h => by cases h) (fun t ht => by cases ht) (fun _ => rfl) hzf ⟨(hel ▸ h2).mono hle, fun o' u hu => Cfg.addRow_row C _ _ hcc o' u hu⟩)
end
/-- Rows of one cell each. -/
def L1 (l : List AV) : List (List AV) := l.map fun x => [x]
theorem L1_len (l : List AV) : (L1 l).length = l.length := by simp [L1]
theorem L1_at {l : List AV} {i : Nat} {cs : List AV} (h : (L1 l)[i]? = some cs) : ∃ x, l[i]? = some x ∧ cs = [x] := by
  rw [L1, List.getElem?_map] at h
  obtain ⟨x, hx, rfl⟩ := Option.map_eq_some_iff.1 h
  exact ⟨x, hx, rfl⟩
theorem L1_flat : ∀ l : List AV, (L1 l).flatten = l
  | [] => rfl
  | x :: l => by
    have := L1_flat l
    unfold L1 at *
    rw [List.map_cons, List.flatten_cons, this]; rfl
theorem rep_sv {C D : Cfg} (hp : ∀ b o v, C.pool b o = some v → D.pool b o = some v) {xs ys : List AV} (hl : xs.length = ys.length) (h : ∀ (j : Nat) (y : AV), ys[j]? = some y → ∃ x, xs[j]? = some x ∧ ∀ u, Rep C x u → Rep D y u) {v : Value} (hv : Rep C (.sl none 1 (L1 xs)) v) : Rep D (.sl none 1 (L1 ys)) v := by
  cases hv with
  | sl _ _ _ A n c b off vals hl' hc hm hN hst hA hz hpo hh =>
    have key : ∀ (i : Nat) (cs : List AV) (j : Nat) (y : AV), (L1 ys)[i]? = some cs → cs[j]? = some y → ∃ x, (L1 xs)[i]? = some [x] ∧ j = 0 ∧ ∀ u, Rep C x u → Rep D y u := fun i cs j y hi hj => by
      obtain ⟨y', hy', rfl⟩ := L1_at hi
      have hj0 : j = 0 := by
        have := (List.getElem?_eq_some_iff.1 hj).1
        simp at this
        exact this
      subst hj0
      have hyy : y' = y := by simpa using hj
      subst hyy
      obtain ⟨x, hx, hr⟩ := h i y' hy'
      exact ⟨x, by rw [L1, List.getElem?_map, hx]; rfl, rfl, hr⟩
    refine .sl none 1 (L1 ys) A n c b off vals (by rw [L1_len, ← hl, ← L1_len]; exact hl') hc hm hN (fun t ht => by cases ht) hA (fun i cs hi => ?_) (fun i cs j y hi hj => ?_) (fun i cs j y hi hj => ?_)
    · obtain ⟨_, _, rfl⟩ := L1_at hi
      rfl
    · obtain ⟨x, hx, rfl, _⟩ := key i cs j y hi hj
      exact hp _ _ _ (hpo i [x] 0 x hx rfl)
    · obtain ⟨x, hx, rfl, hr⟩ := key i cs j y hi hj
      exact hr _ (hh i [x] 0 x hx rfl)
end Go.Av
