/- Joined texts: Gd. -/
import Derived.Test.YtfghjkgpbncagaaDoorGc
import Derived.Test.YtfghjkgpbncagaaDoorGb
set_option linter.unusedVariables false
set_option linter.unusedSectionVars false
set_option linter.unusedSimpArgs false
namespace Go.Av
open Go.RowKit
variable [Tab]
section
variable (k : Nat) (t : CTy) (l : List t.den)
mutual
def fzV : SV → SV
  | .rs k' => bif Nat.beq k' k then .sl (some k) t l else .rs k'
  | .agg cs => .agg (fzVL cs)
  | .tup cs => .tup (fzVL cs)
  | x => x
def fzVL : List SV → List SV
  | [] => []
  | x :: xs => fzV x :: fzVL xs
end
def fzBlk : Option SBlk → Option SBlk
  | some (.cells ty cs) => some (.cells ty (fzVL k t l cs))
  | b => b
end
def freezeS (k : Nat) (s : SSt) : SSt :=
  match nth s.m.lives k with
  | some (some (.own e t l)) => ⟨s.fr.map fun p => (p.1, fzV k t l p.2), ⟨s.m.blks.map (fzBlk k t l), s.m.lives.set k (some (.pl e t.size))⟩, s.dfs, fzV k t l s.pv⟩
  | _ => s
def freezeAll : List Nat → SSt → SSt
  | [], s => s
  | k :: r, s => freezeAll r (freezeS k s)
mutual
theorem fzV_ok (k : Nat) (t : CTy) (l : List t.den) : ∀ x : SV, Fz k t.size (l.map t.avs) x.av (fzV k t l x).av
  | .rs k' => by
    rw [fzV]
    cases h : Nat.beq k' k with
    | true =>
      have := Nat.eq_of_beq_eq_true h
      subst this
      exact fz_rs
    | false => exact fz_refl _
  | .agg cs => by
    rw [fzV]
    exact fz_agg (fzVL_ok k t l cs)
  | .tup cs => by
    rw [fzV]
    exact fz_tup (fzVL_ok k t l cs)
  | .int _ _ => fz_refl _
  | .bool _ => fz_refl _
  | .str _ => fz_refl _
  | .sl _ _ _ => fz_refl _
  | .zs _ => fz_refl _
  | .arr _ _ => fz_refl _
  | .ptr _ _ => fz_refl _
  | .pp _ => fz_refl _
  | .nilp => fz_refl _
  | .fn _ _ _ => fz_refl _
  | .nilf => fz_refl _
  | .ifc _ _ => fz_refl _
  | .nili => fz_refl _
  | .mp _ => fz_refl _
  | .nilm => fz_refl _
  | .rp _ _ _ _ => fz_refl _
  | .sv _ => fz_refl _
  | .und => fz_refl _
  | .any => fz_refl _
theorem fzVL_ok (k : Nat) (t : CTy) (l : List t.den) : ∀ xs : List SV, Fzs k t.size (l.map t.avs) (SV.avL xs) (SV.avL (fzVL k t l xs))
  | [] => trivial
  | x :: xs => ⟨fzV_ok k t l x, fzVL_ok k t l xs⟩
end
theorem fzB_ok (k : Nat) (t : CTy) (l : List t.den) : ∀ bs : List (Option SBlk), FzB k t.size (l.map t.avs) (avB bs) (avB (bs.map (fzBlk k t l)))
  | [] => trivial
  | b :: bs => by
    refine ⟨?_, fzB_ok k t l bs⟩
    cases b with
    | none => rfl
    | some b =>
      cases b with
      | cells ty cs => exact ⟨rfl, fzVL_ok k t l cs⟩
      | iter s p => rfl
      | smap t' es => rfl
theorem fzF_ok (k : Nat) (t : CTy) (l : List t.den) (fr : List (Nat × SV)) (i : Nat) : Fz k t.size (l.map t.avs) (look (avF fr) i) (look (avF (fr.map fun p => (p.1, fzV k t l p.2))) i) := by
  rw [look_avF, look_avF]
  induction fr with
  | nil => exact fz_refl _
  | cons p fr ih =>
    obtain ⟨j, v⟩ := p
    rw [List.map_cons, slook, slook]
    cases Nat.beq j i with
    | true => exact fzV_ok k t l v
    | false => exact ih
/-- Whatever s tells of, s' tells of too; so of a panic's value. -/
def ToS (G : Env) (C0 : Cfg) (n : Nat) (s s' : SSt) : Prop := ∀ (C : Cfg) (a : Act) (w : World), Gam G C0 C (s.av n) a w → ∃ C', Gam G C0 C' (s'.av n) a w ∧ ∀ v, Rep C s.pv.av v → Rep C' s'.pv.av v
theorem ToS.refl {G : Env} {C0 : Cfg} {n : Nat} (s : SSt) : ToS G C0 n s s := fun C a w h => ⟨C, h, fun _ h => h⟩
theorem ToS.trans {G : Env} {C0 : Cfg} {n : Nat} {s s' s'' : SSt} (h : ToS G C0 n s s') (k : ToS G C0 n s' s'') : ToS G C0 n s s'' := fun C a w hg => by
  obtain ⟨C', h1, h2⟩ := h C a w hg
  obtain ⟨C'', h3, h4⟩ := k C' a w h1
  exact ⟨C'', h3, fun v hv => h4 v (h2 v hv)⟩
theorem ToS.to {G : Env} {C0 : Cfg} {n : Nat} {s s' : SSt} (h : ToS G C0 n s s') : To G C0 (s.av n) (s'.av n) := fun C a w hg => by
  obtain ⟨C', h1, _⟩ := h C a w hg
  exact ⟨C', h1⟩
theorem to_freezeS {G : Env} {C0 : Cfg} (n k : Nat) (s : SSt) : ToS G C0 n s (freezeS k s) := by
  unfold freezeS
  split
  · rename_i e t l hk
    rw [nth_eq] at hk
    intro C a w hg
    have ht : (avLv s.m.lives)[k]? = some (some (.own e t.size (l.map t.avs))) := avLv_at hk
    obtain ⟨C', hle, e1, e2, hm, hf⟩ := MemOk.freeze hg.mem ht
    have hb := fzB_ok k t l s.m.blks
    refine ⟨C', ⟨hg.le.trans hle, ?_, hg.size, fun i => fzF_ok k t l s.fr i C' _ hf ((hg.fr i).mono hle), hg.dfs.mono hle⟩, fun v hv => fzV_ok k t l s.pv C' v hf (hv.mono hle)⟩
    show MemOk G C' ⟨avB (s.m.blks.map (fzBlk k t l)), avLv (s.m.lives.set k (some (.pl e t.size)))⟩ w
    rw [avLv_set]
    refine ⟨hm.os, hm.tape, hm.output, hm.size, hm.kept, hm.old, hm.pool, ?_, hm.τlen, ?_, ?_, hm.stp, hm.sdist, ?_, hm.ppool, hm.fixed⟩
    · have := hm.ρlen; rw [this]; exact hb.length
    · intro k B' g q1 q2
      obtain ⟨B, r1, r2⟩ := hb.at q1
      obtain ⟨a1, a2, a3⟩ := hm.blk k B g r1 q2
      exact ⟨a1, r2 C' w g hf a2, a3⟩
    · intro k k' B B' g q1 q2 q3 q4
      obtain ⟨B1, r1, _⟩ := hb.at q1
      obtain ⟨B2, r2, _⟩ := hb.at q2
      exact hm.dist k k' B1 B2 g r1 r2 q3 q4
    · intro t' k p B v g q1 q2 q3 q4
      obtain ⟨B1, r1, _⟩ := hb.at q2
      exact hm.bdist t' k p B1 v g q1 r1 q3 q4
  · exact ToS.refl _
theorem to_freezeAll {G : Env} {C0 : Cfg} (n : Nat) : ∀ (ks : List Nat) (s : SSt), ToS G C0 n s (freezeAll ks s)
  | [], s => ToS.refl _
  | k :: r, s => (to_freezeS n k s).trans (to_freezeAll n r (freezeS k s))
section
variable (k j : Nat)
mutual
def nwV : SV → SV
  | .rs k' => bif Nat.beq k' k then .rs j else .rs k'
  | .agg cs => .agg (nwVL cs)
  | .tup cs => .tup (nwVL cs)
  | x => x
def nwVL : List SV → List SV
  | [] => []
  | x :: xs => nwV x :: nwVL xs
end
def nwBlk : Option SBlk → Option SBlk
  | some (.cells ty cs) => some (.cells ty (nwVL k j cs))
  | b => b
end
def renewS (k : Nat) (s : SSt) : SSt :=
  match nth s.m.lives k with
  | some (some (.own e t l)) => ⟨s.fr.map fun p => (p.1, nwV k (lenL s.m.lives) p.2), ⟨s.m.blks.map (nwBlk k (lenL s.m.lives)), s.m.lives.set k none ++ [some (.own e t l)]⟩, s.dfs, nwV k (lenL s.m.lives) s.pv⟩
  | _ => s
def renewAll : List Nat → SSt → SSt
  | [], s => s
  | k :: r, s => renewAll r (renewS k s)
mutual
theorem nwV_ok (k j : Nat) : ∀ x : SV, Rw k j x.av (nwV k j x).av
  | .rs k' => by
    rw [nwV]
    cases h : Nat.beq k' k with
    | true =>
      have := Nat.eq_of_beq_eq_true h
      subst this
      exact rw_rs
    | false => exact rw_refl _
  | .agg cs => by
    rw [nwV]
    exact rw_agg (nwVL_ok k j cs)
  | .tup cs => by
    rw [nwV]
    exact rw_tup (nwVL_ok k j cs)
  | .int _ _ => rw_refl _
  | .bool _ => rw_refl _
  | .str _ => rw_refl _
  | .sl _ _ _ => rw_refl _
  | .zs _ => rw_refl _
  | .arr _ _ => rw_refl _
  | .ptr _ _ => rw_refl _
  | .pp _ => rw_refl _
  | .nilp => rw_refl _
  | .fn _ _ _ => rw_refl _
  | .nilf => rw_refl _
  | .ifc _ _ => rw_refl _
  | .nili => rw_refl _
  | .mp _ => rw_refl _
  | .nilm => rw_refl _
  | .rp _ _ _ _ => rw_refl _
  | .sv _ => rw_refl _
  | .und => rw_refl _
  | .any => rw_refl _
theorem nwVL_ok (k j : Nat) : ∀ xs : List SV, Rws k j (SV.avL xs) (SV.avL (nwVL k j xs))
  | [] => trivial
  | x :: xs => ⟨nwV_ok k j x, nwVL_ok k j xs⟩
end
theorem nwB_ok (k j : Nat) : ∀ bs : List (Option SBlk), RwB k j (avB bs) (avB (bs.map (nwBlk k j)))
  | [] => trivial
  | b :: bs => by
    refine ⟨?_, nwB_ok k j bs⟩
    cases b with
    | none => rfl
    | some b =>
      cases b with
      | cells ty cs => exact ⟨rfl, nwVL_ok k j cs⟩
      | iter s p => rfl
      | smap t' es => rfl
theorem nwF_ok (k j : Nat) (fr : List (Nat × SV)) (i : Nat) : Rw k j (look (avF fr) i) (look (avF (fr.map fun p => (p.1, nwV k j p.2))) i) := by
  rw [look_avF, look_avF]
  induction fr with
  | nil => exact rw_refl _
  | cons p fr ih =>
    obtain ⟨q, v⟩ := p
    rw [List.map_cons, slook, slook]
    cases Nat.beq q i with
    | true => exact nwV_ok k j v
    | false => exact ih
theorem to_renewS {G : Env} {C0 : Cfg} (n k : Nat) (s : SSt) : ToS G C0 n s (renewS k s) := by
  unfold renewS
  split
  · rename_i e t l hk
    rw [nth_eq] at hk
    intro C a w hg
    have ht : (avLv s.m.lives)[k]? = some (some (.own e t.size (l.map t.avs))) := avLv_at hk
    obtain ⟨C', hle, e1, hm, hf⟩ := MemOk.renew hg.mem ht
    have hlen : (avLv s.m.lives).length = lenL s.m.lives := by rw [avLv_len, lenL_eq]
    rw [hlen] at hf
    have hb := nwB_ok k (lenL s.m.lives) s.m.blks
    refine ⟨C', ⟨hg.le.trans hle, ?_, hg.size, fun i => nwF_ok k _ s.fr i C' _ hf ((hg.fr i).mono hle), hg.dfs.mono hle⟩, fun v hv => nwV_ok k _ s.pv C' v hf (hv.mono hle)⟩
    show MemOk G C' ⟨avB (s.m.blks.map (nwBlk k (lenL s.m.lives))), avLv (s.m.lives.set k none ++ [some (.own e t l)])⟩ w
    rw [avLv_snoc, avLv_setN]
    refine ⟨hm.os, hm.tape, hm.output, hm.size, hm.kept, hm.old, hm.pool, ?_, hm.τlen, ?_, ?_, hm.stp, hm.sdist, ?_, hm.ppool, hm.fixed⟩
    · have := hm.ρlen; rw [this]; exact hb.length
    · intro k B' g q1 q2
      obtain ⟨B, r1, r2⟩ := hb.at q1
      obtain ⟨a1, a2, a3⟩ := hm.blk k B g r1 q2
      exact ⟨a1, r2 C' w g hf a2, a3⟩
    · intro k k' B B' g q1 q2 q3 q4
      obtain ⟨B1, r1, _⟩ := hb.at q1
      obtain ⟨B2, r2, _⟩ := hb.at q2
      exact hm.dist k k' B1 B2 g r1 r2 q3 q4
    · intro t' k p B v g q1 q2 q3 q4
      obtain ⟨B1, r1, _⟩ := hb.at q2
      exact hm.bdist t' k p B1 v g q1 r1 q3 q4
  · exact ToS.refl _
theorem to_renewAll {G : Env} {C0 : Cfg} (n : Nat) : ∀ (ks : List Nat) (s : SSt), ToS G C0 n s (renewAll ks s)
  | [], s => ToS.refl _
  | k :: r, s => (to_renewS n k s).trans (to_renewAll n r (renewS k s))
end Go.Av
set_option linter.unusedVariables false
set_option linter.unusedSectionVars false
set_option linter.unusedSimpArgs false
namespace Go.Av
open Go.RowKit
variable [Tab]
inductive Sh where
  | cell (t : CTy)
  | agg (t : CTy)
  | pp (t : CTy)
  | lit (k : IntKind) (c : Int)
  | litB (b : Bool)
  | litS (s : List UInt8)
  | zs (b : Bool)
  | arr (n : Nat) (t : CTy)
  | nilp
  | nilf
  | nili
  | nilm
  | und
  | any
  | ptr (k off : Nat)
  | mp (k : Nat)
  | rs (k : Nat)
  | rp (k sz fo : Nat)
  | slst (k : Nat) (t : CTy)
  | aggL (l : Sh)
  | tupL (l : Sh)
  | ppL (l : Sh)
  | svL (l : Sh)
  | fn (f : FuncId) (a b : Sh)
  | ifc (t : TypeId) (v : Sh)
  | nil
  | cons (a b : Sh)
/-- Is nothing open in it? -/
def Sh.isK : Sh → Bool
  | .cell _ => false
  | .agg _ => false
  | .pp _ => false
  | .arr _ _ => false
  | .rp _ _ _ => false
  | .slst _ _ => false
  | .aggL l => l.isK
  | .tupL l => l.isK
  | .ppL l => l.isK
  | .svL l => l.isK
  | .fn _ a b => a.isK && b.isK
  | .ifc _ v => v.isK
  | .cons a b => a.isK && b.isK
  | _ => true
def dp (ka kb : Bool) (A B : Type) : Type :=
  match kb, ka with
  | true, _ => A
  | false, true => B
  | false, false => A × B
def dmk {A B : Type} : (ka kb : Bool) → A → B → dp ka kb A B
  | true, true, x, _ => x
  | false, true, x, _ => x
  | true, false, _, y => y
  | false, false, x, y => (x, y)
def d1 {A B : Type} (dA : A) : (ka kb : Bool) → dp ka kb A B → A
  | true, true, z => z
  | false, true, z => z
  | true, false, _ => dA
  | false, false, z => z.1
def d2 {A B : Type} (dB : B) : (ka kb : Bool) → dp ka kb A B → B
  | true, true, _ => dB
  | false, true, _ => dB
  | true, false, z => z
  | false, false, z => z.2
def Sh.den : Sh → Type
  | .cell t => t.den
  | .agg t => t.den
  | .pp t => t.den
  | .arr _ t => List t.den
  | .rp _ _ _ => Nat
  | .slst _ t => List t.den
  | .aggL l => l.den
  | .tupL l => l.den
  | .ppL l => l.den
  | .svL l => l.den
  | .fn _ a b => dp a.isK b.isK a.den b.den
  | .ifc _ v => v.den
  | .cons a b => dp a.isK b.isK a.den b.den
  | _ => Unit
def Sh.dflt : (s : Sh) → s.den
  | .cell t => t.dflt
  | .agg t => t.dflt
  | .pp t => t.dflt
  | .arr _ _ => []
  | .rp _ _ _ => (0 : Nat)
  | .slst _ _ => []
  | .aggL l => l.dflt
  | .tupL l => l.dflt
  | .ppL l => l.dflt
  | .svL l => l.dflt
  | .fn _ a b => dmk a.isK b.isK a.dflt b.dflt
  | .ifc _ v => v.dflt
  | .cons a b => dmk a.isK b.isK a.dflt b.dflt
  | .lit _ _ => ()
  | .litB _ => ()
  | .litS _ => ()
  | .zs _ => ()
  | .nilp => ()
  | .nilf => ()
  | .nili => ()
  | .nilm => ()
  | .und => ()
  | .any => ()
  | .ptr _ _ => ()
  | .mp _ => ()
  | .rs _ => ()
  | .nil => ()
def Sh.mk : (s : Sh) → s.den → List SV
  | .cell t, x => t.cells x
  | .agg t, x => [.agg (t.cells x)]
  | .pp t, x => [.pp (t.cells x)]
  | .arr _ t, x => [.arr t x]
  | .rp k sz fo, x => [.rp k sz x fo]
  | .slst k t, x => [.sl (some k) t x]
  | .aggL l, x => [.agg (l.mk x)]
  | .tupL l, x => [.tup (l.mk x)]
  | .ppL l, x => [.pp (l.mk x)]
  | .svL l, x => [.sv (l.mk x)]
  | .fn f a b, x => [.fn f (a.mk (d1 a.dflt a.isK b.isK x)) (b.mk (d2 b.dflt a.isK b.isK x))]
  | .ifc t v, x => [.ifc t ((v.mk x).headD .any)]
  | .cons a b, x => a.mk (d1 a.dflt a.isK b.isK x) ++ b.mk (d2 b.dflt a.isK b.isK x)
  | .lit k c, _ => [.int k c]
  | .litB b, _ => [.bool b]
  | .litS s, _ => [.str s]
  | .zs b, _ => [.zs b]
  | .nilp, _ => [.nilp]
  | .nilf, _ => [.nilf]
  | .nili, _ => [.nili]
  | .nilm, _ => [.nilm]
  | .und, _ => [.und]
  | .any, _ => [.any]
  | .ptr k off, _ => [.ptr k off]
  | .mp k, _ => [.mp k]
  | .rs k, _ => [.rs k]
  | .nil, _ => []
def isAt (l : List Nat) (j k : Nat) : Bool :=
  match nth l j with
  | some k' => Nat.beq k' k
  | none => false
def memB : Nat → List Nat → Bool
  | _, [] => false
  | k, x :: r => bif Nat.beq x k then true else memB k r
def beqS : List UInt8 → List UInt8 → Bool
  | [], [] => true
  | a :: x, b :: y => bif Nat.beq a.toNat b.toNat then beqS x y else false
  | _, _ => false
/-- A single-cell code. -/
def one1 : CTy → Bool
  | .int _ => true
  | .bool => true
  | .str => true
  | .sl _ => true
  | _ => false
/-- What is open in values that have a shape. ks, ts: the shape's blocks, stamps among the state's own; ad: stamps of nil. -/
def Sh.un (ks ts ad : List Nat) : (s : Sh) → List SV → Option s.den
  | .cell t, vs => bif one1 t then t.un vs else none
  | .agg t, vs => match vs with
    | [.agg cs] => t.un cs
    | _ => none
  | .pp t, vs => match vs with
    | [.pp cs] => t.un cs
    | _ => none
  | .arr n t, vs => match vs with
    | [.agg cs] => bif Nat.beq (lenL cs) (n * t.size) then unRows t n cs else none
    | [.arr t' l] => CTy.conv (.sl t') (.sl t) l
    | _ => none
  | .rp k sz fo, vs => match vs with
    | [.rp k' sz' j fo'] => bif isAt ts k k' && Nat.beq sz sz' && Nat.beq fo fo' then some j else none
    | _ => none
  | .slst k t, vs => match vs with
    | [.sl (some k') t' l] => bif isAt ts k k' then CTy.conv (.sl t') (.sl t) l else none
    | [.zs true] => match nth ts k with
      | some k' => bif memB k' ad then some [] else none
      | none => none
    | _ => none
  | .aggL l, vs => match vs with
    | [.agg cs] => l.un ks ts ad cs
    | _ => none
  | .tupL l, vs => match vs with
    | [.tup cs] => l.un ks ts ad cs
    | _ => none
  | .ppL l, vs => match vs with
    | [.pp cs] => l.un ks ts ad cs
    | _ => none
  | .svL l, vs => match vs with
    | [.sv cs] => l.un ks ts ad cs
    | _ => none
  | .fn f a b, vs => match vs with
    | [.fn f' xs ys] => bif Nat.beq f f' then (a.un ks ts ad xs).bind fun x => (b.un ks ts ad ys).map fun y => dmk a.isK b.isK x y else none
    | _ => none
  | .ifc t v, vs => match vs with
    | [.ifc t' x] => bif Nat.beq t t' then v.un ks ts ad [x] else none
    | _ => none
  | .cons a b, vs => match vs with
    | x :: r => (a.un ks ts ad [x]).bind fun p => (b.un ks ts ad r).map fun q => dmk a.isK b.isK p q
    | [] => none
  | .lit k c, vs => match vs with
    | [.int k' x] => bif kEq k k' && decide (x = c) then some () else none
    | _ => none
  | .litB b, vs => match vs with
    | [.bool x] => bif b == x then some () else none
    | _ => none
  | .litS s, vs => match vs with
    | [.str x] => bif beqS s x then some () else none
    | _ => none
  | .zs b, vs => match vs with
    | [.zs x] => bif b == x then some () else none
    | _ => none
  | .nilp, vs => match vs with
    | [.nilp] => some ()
    | _ => none
  | .nilf, vs => match vs with
    | [.nilf] => some ()
    | _ => none
  | .nili, vs => match vs with
    | [.nili] => some ()
    | _ => none
  | .nilm, vs => match vs with
    | [.nilm] => some ()
    | _ => none
  | .und, vs => match vs with
    | [.und] => some ()
    | _ => none
  | .any, vs => match vs with
    | [_] => some ()
    | _ => none
  | .ptr k off, vs => match vs with
    | [.ptr k' off'] => bif isAt ks k k' && Nat.beq off off' then some () else none
    | _ => none
  | .mp k, vs => match vs with
    | [.mp k'] => bif isAt ks k k' then some () else none
    | _ => none
  | .rs k, vs => match vs with
    | [.rs k'] => bif isAt ts k k' then some () else none
    | [.zs true] => match nth ts k with
      | some k' => bif memB k' ad then some () else none
      | none => none
    | _ => none
  | .nil, vs => match vs with
    | [] => some ()
    | _ => none
end Go.Av
set_option linter.unusedVariables false
set_option linter.unusedSectionVars false
set_option linter.unusedSimpArgs false
namespace Go.Av
open Go.RowKit
variable [Tab]
def RnAt (C D : Cfg) (x y : AV) : Prop := ∀ v, Rep C x v → Rep D y v
def RnAts (C D : Cfg) : List AV → List AV → Prop
  | [], [] => True
  | x :: xs, y :: ys => RnAt C D x y ∧ RnAts C D xs ys
  | _, _ => False
theorem RnAts.reps {C D : Cfg} : ∀ {xs ys : List AV} {vs : List Value}, RnAts C D xs ys → Reps C xs vs → Reps D ys vs
  | [], [], vs, _, h => ⟨h.1, fun j x v hx => by simp at hx⟩
  | x :: xs, y :: ys, vs, hw, h => by
    obtain ⟨v, us, rfl, h1, h2⟩ := h.head
    exact .cons (hw.1 v h1) (hw.2.reps h2)
  | [], _ :: _, _, h, _ => h.elim
  | _ :: _, [], _, h, _ => h.elim
theorem RnAts.app {C D : Cfg} : ∀ {a b c d : List AV}, RnAts C D a b → RnAts C D c d → RnAts C D (a ++ c) (b ++ d)
  | [], [], _, _, _, h => h
  | x :: xs, y :: ys, _, _, h, k => ⟨h.1, RnAts.app h.2 k⟩
  | [], _ :: _, _, _, h, _ => h.elim
  | _ :: _, [], _, _, h, _ => h.elim
theorem RnAts.len {C D : Cfg} : ∀ {xs ys : List AV}, RnAts C D xs ys → xs.length = ys.length
  | [], [], _ => rfl
  | x :: xs, y :: ys, h => by rw [List.length_cons, List.length_cons, h.2.len]
  | [], _ :: _, h => h.elim
  | _ :: _, [], h => h.elim
theorem rnAts_weak {C : Cfg} {ks ts : List Nat} : ∀ {xs ys : List AV}, Weakers xs ys → (∀ y ∈ ys, Closed y) → RnAts C (C.pick ks ts) xs ys
  | [], [], _, _ => trivial
  | x :: xs, y :: ys, h, hc => ⟨fun v hv => hc y List.mem_cons_self C _ v (fun _ _ _ h => h) (h.1 C v hv), rnAts_weak h.2 fun z hz => hc z (List.mem_cons_of_mem _ hz)⟩
  | [], _ :: _, h, _ => h.elim
  | _ :: _, [], h, _ => h.elim
theorem rnAt_agg {C D : Cfg} {xs ys : List AV} (h : RnAts C D xs ys) : RnAt C D (.agg xs) (.agg ys) := fun v hr => by
  obtain ⟨vs, rfl, hrs⟩ := hr.agg_inv
  have := h.reps hrs
  exact .agg _ _ this.1 this.2
theorem rnAt_tup {C D : Cfg} {xs ys : List AV} (h : RnAts C D xs ys) : RnAt C D (.tup xs) (.tup ys) := fun v hr => by
  obtain ⟨vs, rfl, hrs⟩ := hr.tup_inv
  have := h.reps hrs
  exact .tup _ _ this.1 this.2
theorem RnAts.get {C D : Cfg} : ∀ {xs ys : List AV}, RnAts C D xs ys → ∀ {j : Nat} {y : AV}, ys[j]? = some y → ∃ x, xs[j]? = some x ∧ RnAt C D x y
  | [], [], _, j, y, h => by simp at h
  | x :: xs, z :: ys, h, 0, y, hy => by simp at hy; subst hy; exact ⟨x, rfl, h.1⟩
  | x :: xs, z :: ys, h, j + 1, y, hy => by
    obtain ⟨x', h1, h2⟩ := h.2.get (j := j) (by simpa using hy)
    exact ⟨x', by simpa using h1, h2⟩
  | [], _ :: _, h, _, _, _ => h.elim
  | _ :: _, [], h, _, _, _ => h.elim
theorem rnAt_pp {C D : Cfg} (hp : ∀ b o v, C.pool b o = some v → D.pool b o = some v) {xs ys : List AV} (h : RnAts C D xs ys) : RnAt C D (.pp xs) (.pp ys) := fun v hr => by
  obtain ⟨b, off, vals, rfl, h1, h2⟩ := hr.pp_inv
  refine .pp ys b off vals (fun j y hy => ?_) fun j y hy => ?_
  · obtain ⟨x, hx, _⟩ := h.get hy
    exact hp _ _ _ (h1 j x hx)
  · obtain ⟨x, hx, hxy⟩ := h.get hy
    exact hxy _ (h2 j x hx)
theorem rnAt_sv {C D : Cfg} (hp : ∀ b o v, C.pool b o = some v → D.pool b o = some v) {xs ys : List AV} (h : RnAts C D xs ys) : RnAt C D (.sl none 1 (L1 xs)) (.sl none 1 (L1 ys)) := fun v hr =>
  rep_sv hp h.len (fun j y hy => h.get hy) hr
theorem rnAt_fn {C D : Cfg} {f : FuncId} {a b a' b' : List AV} (h : RnAts C D a a') (h' : RnAts C D b b') : RnAt C D (.fn f a b) (.fn f a' b') := fun v hr => by
  cases hr with
  | fn _ _ _ vs us hl hl' hh hh' =>
    have q1 := h.reps ⟨hl, hh⟩
    have q2 := h'.reps ⟨hl', hh'⟩
    exact .fn f a' b' vs us q1.1 q2.1 q1.2 q2.2
theorem rnAt_ifc {C D : Cfg} {t : TypeId} {x y : AV} (h : RnAt C D x y) : RnAt C D (.ifc t x) (.ifc t y) := fun v hr => by
  cases hr with
  | ifc _ _ u hu => exact .ifc t y u (h u hu)
theorem dp_uniq {A B : Type} {ka kb : Bool} (hA : ka = true → ∀ x y : A, x = y) (h : ka = true) (h' : kb = true) : ∀ x y : dp ka kb A B, x = y := by
  subst h; subst h'
  exact hA rfl
theorem Sh.uniq : ∀ (s : Sh), s.isK = true → ∀ x y : s.den, x = y
  | .cell _, h => by cases h
  | .agg _, h => by cases h
  | .pp _, h => by cases h
  | .arr _ _, h => by cases h
  | .rp _ _ _, h => by cases h
  | .slst _ _, h => by cases h
  | .aggL l, h => Sh.uniq l h
  | .tupL l, h => Sh.uniq l h
  | .ppL l, h => Sh.uniq l h
  | .svL l, h => Sh.uniq l h
  | .ifc _ v, h => Sh.uniq v h
  | .fn _ a b, h => by
    have h : (a.isK && b.isK) = true := h
    rw [Bool.and_eq_true] at h
    exact dp_uniq (fun _ => Sh.uniq a h.1) h.1 h.2
  | .cons a b, h => by
    have h : (a.isK && b.isK) = true := h
    rw [Bool.and_eq_true] at h
    exact dp_uniq (fun _ => Sh.uniq a h.1) h.1 h.2
  | .lit _ _, _ => fun _ _ => rfl
  | .litB _, _ => fun _ _ => rfl
  | .litS _, _ => fun _ _ => rfl
  | .zs _, _ => fun _ _ => rfl
  | .nilp, _ => fun _ _ => rfl
  | .nilf, _ => fun _ _ => rfl
  | .nili, _ => fun _ _ => rfl
  | .nilm, _ => fun _ _ => rfl
  | .und, _ => fun _ _ => rfl
  | .any, _ => fun _ _ => rfl
  | .ptr _ _, _ => fun _ _ => rfl
  | .mp _, _ => fun _ _ => rfl
  | .rs _, _ => fun _ _ => rfl
  | .nil, _ => fun _ _ => rfl
theorem d1_dmk {A B : Type} (dA : A) {ka kb : Bool} (x : A) (y : B) (h : ka = true → ∀ p q : A, p = q) : d1 dA ka kb (dmk ka kb x y) = x := by
  cases ka <;> cases kb
  · rfl
  · rfl
  · exact h rfl _ _
  · rfl
theorem d2_dmk {A B : Type} (dB : B) {ka kb : Bool} (x : A) (y : B) (h : kb = true → ∀ p q : B, p = q) : d2 dB ka kb (dmk ka kb x y) = y := by
  cases ka <;> cases kb
  · rfl
  · exact h rfl _ _
  · rfl
  · exact h rfl _ _
theorem isAt_eq {l : List Nat} {j k : Nat} (h : isAt l j k = true) : l[j]? = some k := by
  unfold isAt at h
  split at h
  · rename_i k' hk
    rw [nth_eq] at hk
    rw [hk, Nat.eq_of_beq_eq_true h]
  · cases h
theorem beqS_eq : ∀ {a b : List UInt8}, beqS a b = true → a = b
  | [], [], _ => rfl
  | x :: a, y :: b, h => by
    rw [beqS] at h
    cases hb : Nat.beq x.toNat y.toNat with
    | false => rw [hb] at h; cases h
    | true =>
      rw [hb, cond_true] at h
      rw [UInt8.toNat_inj.1 (Nat.eq_of_beq_eq_true hb), beqS_eq h]
  | [], _ :: _, h => by cases h
  | _ :: _, [], h => by cases h
theorem un_ok {ks ts ad : List Nat} {C : Cfg} (hAd : ∀ k, memB k ad = true → C.τ[k]? = some (.slice none 0 0)) : ∀ (s : Sh) (vs : List SV) (z : s.den), s.un ks ts ad vs = some z → RnAts C (C.pick ks ts) (SV.avL vs) (SV.avL (s.mk z))
  | .cell t, vs, z, h => by
    have h : (bif one1 t then t.un vs else none) = some z := h
    cases ho : one1 t with
    | false => rw [ho] at h; cases h
    | true =>
      rw [ho, cond_true] at h
      rw [show SV.avL ((Sh.cell t).mk z) = t.avs z from CTy.avL_cells t z]
      exact rnAts_weak (un_weak t vs z h) (closed_avs t z)
  | .agg t, vs, z, h => by
    match vs, h with
    | [.agg cs], h =>
      have h : t.un cs = some z := h
      refine ⟨?_, trivial⟩
      rw [show (SV.agg (t.cells z)).av = .agg (t.avs z) from congrArg AV.agg (CTy.avL_cells t z)]
      exact rnAt_agg (rnAts_weak (un_weak t cs z h) (closed_avs t z))
  | .pp t, vs, z, h => by
    match vs, h with
    | [.pp cs], h =>
      have h : t.un cs = some z := h
      refine ⟨?_, trivial⟩
      rw [show (SV.pp (t.cells z)).av = .pp (t.avs z) from congrArg AV.pp (CTy.avL_cells t z)]
      exact rnAt_pp (C := C) (D := C.pick ks ts) (fun _ _ _ h => h) (rnAts_weak (un_weak t cs z h) (closed_avs t z))
  | .arr n t, vs, z, h => by
    match vs, h with
    | [.agg cs], h =>
      have h : (bif Nat.beq (lenL cs) (n * t.size) then unRows t n cs else none) = some z := h
      cases hb : Nat.beq (lenL cs) (n * t.size) with
      | false => rw [hb] at h; cases h
      | true =>
        rw [hb, cond_true] at h
        have hb := Nat.eq_of_beq_eq_true hb
        rw [lenL_eq] at hb
        obtain ⟨h1, _⟩ := unRows_ok _ _ _ _ h
        have h2 := h1.flat
        rw [chunks_flat t.size n _ (by rw [SV.avL_len]; exact hb)] at h2
        refine ⟨rnAt_agg (rnAts_weak h2 fun y hy => ?_), trivial⟩
        obtain ⟨cs', hcs, hxc⟩ := List.mem_flatten.1 hy
        obtain ⟨x, _, rfl⟩ := List.mem_map.1 hcs
        exact closed_avs t x y hxc
    | [.arr t' l], h =>
      have h : CTy.conv (.sl t') (.sl t) l = some z := h
      obtain ⟨he, rfl⟩ := CTy.conv_eq h
      injection he with he
      subst he
      refine ⟨fun v hv => ?_, trivial⟩
      refine closed_agg (fun y hy => ?_) C _ v (fun _ _ _ h => h) hv
      obtain ⟨cs', hcs, hxc⟩ := List.mem_flatten.1 hy
      obtain ⟨x, _, rfl⟩ := List.mem_map.1 hcs
      exact closed_avs t' x y hxc
  | .rp k sz fo, vs, z, h => by
    match vs, h with
    | [.rp k' sz' j fo'], h =>
      have h : (bif isAt ts k k' && Nat.beq sz sz' && Nat.beq fo fo' then some j else none) = some z := h
      cases hb : (isAt ts k k' && Nat.beq sz sz' && Nat.beq fo fo') with
      | false => rw [hb] at h; cases h
      | true =>
        rw [hb, cond_true] at h
        injection h with h
        subst h
        simp only [Bool.and_eq_true] at hb
        have h1 := isAt_eq hb.1.1
        have h2 := Nat.eq_of_beq_eq_true hb.1.2
        have h3 := Nat.eq_of_beq_eq_true hb.2
        subst h2; subst h3
        refine ⟨fun v hv => ?_, trivial⟩
        cases hv with
        | rp _ _ _ _ g n c hτ hj => exact .rp k sz j fo g n c (by simp [Cfg.pick, h1, hτ]) hj
  | .slst k t, vs, z, h => by
    match vs, h with
    | [.sl (some k') t' l], h =>
      have h : (bif isAt ts k k' then CTy.conv (.sl t') (.sl t) l else none) = some z := h
      cases hb : isAt ts k k' with
      | false => rw [hb] at h; cases h
      | true =>
        rw [hb, cond_true] at h
        obtain ⟨he, rfl⟩ := CTy.conv_eq h
        injection he with he
        subst he
        exact ⟨fun v hv => rn_sl (ks := ks) (ts := ts) (isAt_eq hb) (closed_map fun a => closed_avs t' a) C v hv, trivial⟩
    | [.zs true], h =>
      have h : (match nth ts k with | some k' => bif memB k' ad then some ([] : List t.den) else none | none => none) = some z := h
      split at h
      · rename_i k' hk
        rw [nth_eq] at hk
        cases hb : memB k' ad with
        | false => rw [hb] at h; cases h
        | true =>
          rw [hb, cond_true] at h
          injection h with h
          subst h
          refine ⟨fun v hv => ?_, trivial⟩
          obtain ⟨A, rfl, hA⟩ := hv.zs_inv
          have hA := hA rfl
          subst hA
          refine Rep.sl_mk (els := []) (b := 0) (off := 0) (ys := []) (Nat.le_refl _) (by omega) (fun _ => rfl) (fun t' ht => ?_) (fun h => by simp at h) (fun i cs h => by simp at h) ⟨.nil _, fun o u h => by simp at h⟩
          injection ht with ht
          subst ht
          simp [Cfg.pick, hk, hAd k' hb]
      · cases h
  | .aggL l, vs, z, h => by
    match vs, h with
    | [.agg cs], h => exact ⟨rnAt_agg (un_ok hAd l cs z h), trivial⟩
  | .tupL l, vs, z, h => by
    match vs, h with
    | [.tup cs], h => exact ⟨rnAt_tup (un_ok hAd l cs z h), trivial⟩
  | .ppL l, vs, z, h => by
    match vs, h with
    | [.pp cs], h => exact ⟨rnAt_pp (C := C) (D := C.pick ks ts) (fun _ _ _ h => h) (un_ok hAd l cs z h), trivial⟩
  | .svL l, vs, z, h => by
    match vs, h with
    | [.sv cs], h => exact ⟨rnAt_sv (C := C) (D := C.pick ks ts) (fun _ _ _ h => h) (un_ok hAd l cs z h), trivial⟩
  | .fn f a b, vs, z, h => by
    match vs, h with
    | [.fn f' xs ys], h =>
      have hq : (bif Nat.beq f f' then (a.un ks ts ad xs).bind fun x => (b.un ks ts ad ys).map fun y => dmk a.isK b.isK x y else none) = some z := h
      clear h
      cases hb : Nat.beq f f' with
      | false => rw [hb] at hq; cases hq
      | true =>
        rw [hb, cond_true] at hq
        have := Nat.eq_of_beq_eq_true hb
        subst this
        obtain ⟨x, h1, hq⟩ := Option.bind_eq_some_iff.1 hq
        obtain ⟨y, h2, hq⟩ := Option.map_eq_some_iff.1 hq
        subst hq
        refine ⟨?_, trivial⟩
        show RnAt C _ (.fn f (SV.avL xs) (SV.avL ys)) (.fn f (SV.avL (a.mk (d1 a.dflt a.isK b.isK (dmk a.isK b.isK x y)))) (SV.avL (b.mk (d2 b.dflt a.isK b.isK (dmk a.isK b.isK x y)))))
        rw [d1_dmk a.dflt x y (Sh.uniq a), d2_dmk b.dflt x y (Sh.uniq b)]
        exact rnAt_fn (un_ok hAd a xs x h1) (un_ok hAd b ys y h2)
  | .ifc t v, vs, z, h => by
    match vs, h with
    | [.ifc t' x], h =>
      have hq : (bif Nat.beq t t' then v.un ks ts ad [x] else none) = some z := h
      clear h
      cases hb : Nat.beq t t' with
      | false => rw [hb] at hq; cases hq
      | true =>
        rw [hb, cond_true] at hq
        have := Nat.eq_of_beq_eq_true hb
        subst this
        have hu := un_ok hAd v [x] z hq
        refine ⟨?_, trivial⟩
        show RnAt C _ (.ifc t x.av) (.ifc t ((v.mk z).headD .any).av)
        revert hu
        generalize v.mk z = ys
        intro hu
        match ys, hu with
        | [y], hu => exact rnAt_ifc hu.1
  | .cons a b, vs, z, h => by
    match vs, h with
    | x :: r, h =>
      have h : ((a.un ks ts ad [x]).bind fun p => (b.un ks ts ad r).map fun q => dmk a.isK b.isK p q) = some z := h
      obtain ⟨p, h1, h⟩ := Option.bind_eq_some_iff.1 h
      obtain ⟨q, h2, h⟩ := Option.map_eq_some_iff.1 h
      subst h
      have e : SV.avL ((Sh.cons a b).mk (dmk a.isK b.isK p q)) = SV.avL (a.mk p) ++ SV.avL (b.mk q) := by
        show SV.avL (a.mk (d1 a.dflt a.isK b.isK (dmk a.isK b.isK p q)) ++ b.mk (d2 b.dflt a.isK b.isK (dmk a.isK b.isK p q))) = _
        rw [d1_dmk a.dflt p q (Sh.uniq a), d2_dmk b.dflt p q (Sh.uniq b), SV.avL_append]
      rw [e]
      exact RnAts.app (a := [x.av]) (un_ok hAd a [x] p h1) (un_ok hAd b r q h2)
  | .lit k c, vs, z, h => by
    match vs, h with
    | [.int k' x], h =>
      have h : (bif kEq k k' && decide (x = c) then some () else none) = some z := h
      cases hb : (kEq k k' && decide (x = c)) with
      | false => rw [hb] at h; cases h
      | true =>
        simp only [Bool.and_eq_true, decide_eq_true_eq] at hb
        obtain ⟨h1, h2⟩ := hb
        subst h2
        rw [← kEq_eq h1]
        exact ⟨fun v hv => closed_int _ _ C _ v (fun _ _ _ h => h) hv, trivial⟩
  | .litB b, vs, z, h => by
    match vs, h with
    | [.bool x], h =>
      have h : (bif b == x then some () else none) = some z := h
      cases hb : (b == x) with
      | false => rw [hb] at h; cases h
      | true =>
        have := eq_of_beq hb
        subst this
        exact ⟨fun v hv => closed_bool _ C _ v (fun _ _ _ h => h) hv, trivial⟩
  | .litS s, vs, z, h => by
    match vs, h with
    | [.str x], h =>
      have h : (bif beqS s x then some () else none) = some z := h
      cases hb : beqS s x with
      | false => rw [hb] at h; cases h
      | true =>
        have := beqS_eq hb
        subst this
        exact ⟨fun v hv => closed_str _ C _ v (fun _ _ _ h => h) hv, trivial⟩
  | .zs b, vs, z, h => by
    match vs, h with
    | [.zs x], h =>
      have h : (bif b == x then some () else none) = some z := h
      cases hb : (b == x) with
      | false => rw [hb] at h; cases h
      | true =>
        have := eq_of_beq hb
        subst this
        exact ⟨fun v hv => closed_zs _ C _ v (fun _ _ _ h => h) hv, trivial⟩
  | .nilp, vs, z, h => by
    match vs, h with
    | [.nilp], h => exact ⟨fun v hv => closed_nilp C _ v (fun _ _ _ h => h) hv, trivial⟩
  | .nilf, vs, z, h => by
    match vs, h with
    | [.nilf], h => exact ⟨fun v hv => closed_nilf C _ v (fun _ _ _ h => h) hv, trivial⟩
  | .nili, vs, z, h => by
    match vs, h with
    | [.nili], h => exact ⟨fun v hv => closed_nili C _ v (fun _ _ _ h => h) hv, trivial⟩
  | .nilm, vs, z, h => by
    match vs, h with
    | [.nilm], h => exact ⟨fun v hv => closed_nilm C _ v (fun _ _ _ h => h) hv, trivial⟩
  | .und, vs, z, h => by
    match vs, h with
    | [.und], h => exact ⟨fun v hv => by cases hv; exact .und, trivial⟩
  | .any, vs, z, h => by
    match vs, h with
    | [x], h => exact ⟨fun v hv => .any v, trivial⟩
  | .ptr k off, vs, z, h => by
    match vs, h with
    | [.ptr k' off'], h =>
      have h : (bif isAt ks k k' && Nat.beq off off' then some () else none) = some z := h
      cases hb : (isAt ks k k' && Nat.beq off off') with
      | false => rw [hb] at h; cases h
      | true =>
        simp only [Bool.and_eq_true] at hb
        have h2 := Nat.eq_of_beq_eq_true hb.2
        subst h2
        exact ⟨fun v hv => rn_ptr (ks := ks) (ts := ts) (isAt_eq hb.1) C v hv, trivial⟩
  | .mp k, vs, z, h => by
    match vs, h with
    | [.mp k'], h =>
      have h : (bif isAt ks k k' then some () else none) = some z := h
      cases hb : isAt ks k k' with
      | false => rw [hb] at h; cases h
      | true => exact ⟨fun v hv => rn_mp (ks := ks) (ts := ts) (isAt_eq hb) C v hv, trivial⟩
  | .rs k, vs, z, h => by
    match vs, h with
    | [.rs k'], h =>
      have h : (bif isAt ts k k' then some () else none) = some z := h
      cases hb : isAt ts k k' with
      | false => rw [hb] at h; cases h
      | true => exact ⟨fun v hv => rn_rs (ks := ks) (ts := ts) (isAt_eq hb) C v hv, trivial⟩
    | [.zs true], h =>
      have h : (match nth ts k with | some k' => bif memB k' ad then some () else none | none => none) = some z := h
      split at h
      · rename_i k' hk
        rw [nth_eq] at hk
        cases hb : memB k' ad with
        | false => rw [hb] at h; cases h
        | true =>
          refine ⟨fun v hv => ?_, trivial⟩
          obtain ⟨A, rfl, hA⟩ := hv.zs_inv
          have hA := hA rfl
          subst hA
          exact .rs k none 0 0 (by simp [Cfg.pick, hk, hAd k' hb])
      · cases h
  | .nil, vs, z, h => by
    match vs, h with
    | [], h => trivial
end Go.Av
set_option linter.unusedVariables false
set_option linter.unusedSectionVars false
set_option linter.unusedSimpArgs false
namespace Go.Av
open Go.RowKit
variable [Tab]
/-- The slots that are told; how many calls are deferred, blocks, stamps; their shapes, one behind the other (behind the deferred: a panic's value). -/
structure Shp where
  slots : List Nat
  nd : Nat
  nb : Nat
  nt : Nat
  all : Sh
abbrev Shp.den (S : Shp) : Type := S.all.den
def ofBlk : Option (Option SBlk) → SV
  | some (some (.cells ty cs)) => .ifc ty (.agg cs)
  | some (some (.iter s p)) => .tup [.str s, .int .i64 p]
  | some (some (.smap t es)) => .sl none (.pair .str t) es
  | _ => .any
def toBlk : SV → Option SBlk
  | .ifc ty (.agg cs) => some (.cells ty cs)
  | .tup [.str s, .int _ p] => some (.iter s p.toNat)
  | .sl none (.pair .str t) es => some (.smap t es)
  | _ => none
def ofLive : Option (Option SLive) → SV
  | some (some (.own e t l)) => .ifc e (.sl none t l)
  | some (some (.pl e sz)) => .ifc e (.int .i64 sz)
  | _ => .any
def toLive : SV → Option SLive
  | .ifc e (.sl none t l) => some (.own e t l)
  | .ifc e (.int _ sz) => some (.pl e sz.toNat)
  | _ => none
def zipS : List Nat → List SV → List (Nat × SV)
  | i :: r, v :: l => (i, v) :: zipS r l
  | _, _ => []
def Shp.parts (S : Shp) (l : List SV) : SSt :=
  ⟨zipS S.slots l, ⟨((l.drop (lenL S.slots + S.nd + 1)).take S.nb).map toBlk, ((l.drop (lenL S.slots + S.nd + 1 + S.nb)).take S.nt).map toLive⟩, (l.drop (lenL S.slots)).take S.nd, (l.drop (lenL S.slots + S.nd)).headD .any⟩
def Shp.mk' (S : Shp) (z : S.den) : SSt := S.parts (S.all.mk z)
def Shp.enc (S : Shp) (s : SSt) (ks ts : List Nat) : List SV :=
  (S.slots.map (slook s.fr) ++ s.dfs) ++ (s.pv :: (ks.map (fun k => ofBlk (nth s.m.blks k)) ++ ts.map (fun t => ofLive (nth s.m.lives t))))
abbrev Ids := List (Nat × Nat) × List (Nat × Nat)
def col : Sh → List SV → Ids → Ids
  | .ptr j _, vs, a => match vs with
    | [.ptr k _] => ((j, k) :: a.1, a.2)
    | _ => a
  | .mp j, vs, a => match vs with
    | [.mp k] => ((j, k) :: a.1, a.2)
    | _ => a
  | .rs j, vs, a => match vs with
    | [.rs k] => (a.1, (j, k) :: a.2)
    | _ => a
  | .rp j _ _, vs, a => match vs with
    | [.rp k _ _ _] => (a.1, (j, k) :: a.2)
    | _ => a
  | .slst j _, vs, a => match vs with
    | [.rs k] => (a.1, (j, k) :: a.2)
    | [.sl (some k) _ _] => (a.1, (j, k) :: a.2)
    | _ => a
  | .aggL l, vs, a => match vs with
    | [.agg cs] => col l cs a
    | _ => a
  | .tupL l, vs, a => match vs with
    | [.tup cs] => col l cs a
    | _ => a
  | .ppL l, vs, a => match vs with
    | [.pp cs] => col l cs a
    | _ => a
  | .svL l, vs, a => match vs with
    | [.sv cs] => col l cs a
    | _ => a
  | .fn _ x y, vs, a => match vs with
    | [.fn _ xs ys] => col y ys (col x xs a)
    | _ => a
  | .ifc _ v, vs, a => match vs with
    | [.ifc _ x] => col v [x] a
    | _ => a
  | .cons x y, vs, a => match vs with
    | v :: r => col y r (col x [v] a)
    | [] => a
  | _, _, a => a
def findN : List (Nat × Nat) → Nat → Option Nat
  | [], _ => none
  | (j, k) :: r, i => bif Nat.beq j i then some k else findN r i
def shNth : Sh → Nat → Sh
  | .cons a b, n => match n with
    | 0 => a
    | n + 1 => shNth b n
  | _, _ => .any
/-- Blocks from j on, n of them: what their cells name. -/
def colB (s : SSt) (all : Sh) (off fb : Nat) : Nat → Nat → Ids → Ids
  | 0, _, a => a
  | n + 1, j, a => match (bif Nat.blt j fb then some j else findN a.1 j) with
    | some k => colB s all off fb n (j + 1) (col (shNth all (off + j)) [ofBlk (nth s.m.blks k)] a)
    | none => colB s all off fb n (j + 1) a
def ksOf (fb : Nat) (a : Ids) : Nat → Nat → Option (List Nat)
  | 0, _ => some []
  | n + 1, j => match (bif Nat.blt j fb then some j else findN a.1 j), ksOf fb a n (j + 1) with
    | some k, some r => some (k :: r)
    | _, _ => none
def adoptOf : Sh → Option SLive
  | .ifc e (.cell (.sl t)) => some (.own e t [])
  | .ifc e (.lit _ sz) => some (.pl e sz.toNat)
  | _ => none
/-- The stamps; those that are not found stand for nil: they come new. -/
def tsOf (all : Sh) (off ft : Nat) (a : Ids) : Nat → Nat → Nat → Option (List Nat × List SLive)
  | 0, _, _ => some ([], [])
  | n + 1, j, new => match (bif Nat.blt j ft then some j else findN a.2 j) with
    | some k => (tsOf all off ft a n (j + 1) new).map fun r => (k :: r.1, r.2)
    | none => match adoptOf (shNth all (off + j)) with
      | some L => (tsOf all off ft a n (j + 1) (new + 1)).map fun r => (new :: r.1, L :: r.2)
      | none => none
def rsIn : List SV → List Nat
  | [] => []
  | .rs k :: r => k :: rsIn r
  | _ :: r => rsIn r
def fzs : Sh → List SV → List Nat
  | .cell _, vs => rsIn vs
  | .slst _ _, vs => rsIn vs
  | .agg _, vs => match vs with
    | [.agg cs] => rsIn cs
    | _ => []
  | .pp _, vs => match vs with
    | [.pp cs] => rsIn cs
    | _ => []
  | .aggL l, vs => match vs with
    | [.agg cs] => fzs l cs
    | _ => []
  | .tupL l, vs => match vs with
    | [.tup cs] => fzs l cs
    | _ => []
  | .ppL l, vs => match vs with
    | [.pp cs] => fzs l cs
    | _ => []
  | .svL l, vs => match vs with
    | [.sv cs] => fzs l cs
    | _ => []
  | .fn _ x y, vs => match vs with
    | [.fn _ xs ys] => fzs x xs ++ fzs y ys
    | _ => []
  | .ifc _ v, vs => match vs with
    | [.ifc _ x] => fzs v [x]
    | _ => []
  | .cons x y, vs => match vs with
    | v :: r => fzs x [v] ++ fzs y r
    | [] => []
  | _, _ => []
def upto (k : Nat) : Nat → List Nat
  | 0 => []
  | n + 1 => k :: upto (k + 1) n
def nodupN : List Nat → Bool
  | [] => true
  | x :: r => bif memB x r then false else nodupN r
def fixB (l : List Nat) : Nat → Nat → Bool
  | 0, _ => true
  | n + 1, j => bif isAt l j j then fixB l n (j + 1) else false
def nilLive : SLive → Bool
  | .own _ _ l => match l with
    | [] => true
    | _ => false
  | .pl _ _ => true
def allNil : List SLive → Bool
  | [] => true
  | x :: r => bif nilLive x then allNil r else false
def allFn : List SV → Bool
  | [] => true
  | .fn _ _ _ :: r => allFn r
  | _ => false
structure Unp (S : Shp) where
  st : SSt
  ks : List Nat
  ts : List Nat
  z : S.den
/-- A state that has the shape: what is open in it. fb, ft: how many blocks and stamps stay where they are. -/
def Shp.unp (S : Shp) (fb ft : Nat) (s : SSt) : Option (Unp S) :=
  let off := lenL S.slots + S.nd + 1
  let a := colB s S.all off fb S.nb 0 (col S.all (S.enc s [] []) ([], []))
  match ksOf fb a S.nb 0, tsOf S.all (off + S.nb) ft a S.nt 0 (lenL s.m.lives) with
  | some ks, some (ts, ad) =>
    let s1 := freezeAll (fzs S.all (S.enc s ks ts)) s
    let s2 : SSt := ⟨s1.fr, ⟨s1.m.blks, s1.m.lives ++ ad.map some⟩, s1.dfs, s1.pv⟩
    bif nodupN ks && nodupN ts && fixB ks fb 0 && fixB ts ft 0 && Nat.beq (lenL s1.dfs) S.nd && Nat.beq (lenL s1.m.lives) (lenL s.m.lives) && allNil ad then
      (S.all.un ks ts (upto (lenL s.m.lives) (lenL ad)) (S.enc s2 ks ts)).bind fun z => bif allFn (S.mk' z).dfs then some ⟨s2, ks, ts, z⟩ else none
    else none
  | _, _ => none
def Shp.un (S : Shp) (fb ft : Nat) (s : SSt) : Option S.den := (S.unp fb ft s).map Unp.z
end Go.Av
set_option linter.unusedVariables false
set_option linter.unusedSectionVars false
set_option linter.unusedSimpArgs false
namespace Go.Av
open Go.RowKit
variable [Tab]
def UnAt (ks ts ad : List Nat) (x y : SV) : Prop := ∃ (s : Sh) (z : s.den), s.un ks ts ad [x] = some z ∧ s.mk z = [y]
def UnAts (ks ts ad : List Nat) : List SV → List SV → Prop
  | [], [] => True
  | x :: xs, y :: ys => UnAt ks ts ad x y ∧ UnAts ks ts ad xs ys
  | _, _ => False
section
variable {ks ts ad : List Nat}
theorem UnAts.app : ∀ {a b c d : List SV}, UnAts ks ts ad a b → UnAts ks ts ad c d → UnAts ks ts ad (a ++ c) (b ++ d)
  | [], [], _, _, _, h => h
  | x :: xs, y :: ys, _, _, h, k => ⟨h.1, UnAts.app h.2 k⟩
  | [], _ :: _, _, _, h, _ => h.elim
  | _ :: _, [], _, _, h, _ => h.elim
theorem unT_one {t : CTy} (h : one1 t = true) {vs : List SV} {z : t.den} (hu : t.un vs = some z) : (∃ x, vs = [x]) ∧ ∃ y, t.cells z = [y] := by
  cases t with
  | int k => match vs, hu with | [.int k' x], _ => exact ⟨⟨_, rfl⟩, _, rfl⟩
  | bool => match vs, hu with | [.bool x], _ => exact ⟨⟨_, rfl⟩, _, rfl⟩
  | str => match vs, hu with | [.str x], _ => exact ⟨⟨_, rfl⟩, _, rfl⟩
  | sl t =>
    match vs, hu with
    | [.sl _ _ _], _ => exact ⟨⟨_, rfl⟩, _, rfl⟩
    | [.zs _], _ => exact ⟨⟨_, rfl⟩, _, rfl⟩
  | unit => cases h
  | pair a b => cases h
theorem un_one : ∀ (s : Sh) (vs : List SV) (z : s.den), s.un ks ts ad vs = some z → (∃ a b, s = .cons a b) ∨ (s = .nil ∧ vs = []) ∨ ((∃ x, vs = [x]) ∧ ∃ y, s.mk z = [y])
  | .cons a b, _, _, _ => .inl ⟨a, b, rfl⟩
  | .nil, vs, z, h => by
    match vs, h with
    | [], _ => exact .inr (.inl ⟨rfl, rfl⟩)
  | .cell t, vs, z, h => by
    have h : (bif one1 t then t.un vs else none) = some z := h
    cases ho : one1 t with
    | false => rw [ho] at h; cases h
    | true =>
      rw [ho, cond_true] at h
      exact .inr (.inr (unT_one ho h))
  | .agg t, vs, z, h => by match vs, h with | [.agg cs], _ => exact .inr (.inr ⟨⟨_, rfl⟩, _, rfl⟩)
  | .pp t, vs, z, h => by match vs, h with | [.pp cs], _ => exact .inr (.inr ⟨⟨_, rfl⟩, _, rfl⟩)
  | .rp _ _ _, vs, z, h => by match vs, h with | [.rp _ _ _ _], _ => exact .inr (.inr ⟨⟨_, rfl⟩, _, rfl⟩)
  | .arr _ _, vs, z, h => by
    match vs, h with
    | [.agg _], _ => exact .inr (.inr ⟨⟨_, rfl⟩, _, rfl⟩)
    | [.arr _ _], _ => exact .inr (.inr ⟨⟨_, rfl⟩, _, rfl⟩)
  | .slst _ _, vs, z, h => by
    match vs, h with
    | [.sl (some _) _ _], _ => exact .inr (.inr ⟨⟨_, rfl⟩, _, rfl⟩)
    | [.zs true], _ => exact .inr (.inr ⟨⟨_, rfl⟩, _, rfl⟩)
  | .aggL l, vs, z, h => by match vs, h with | [.agg cs], _ => exact .inr (.inr ⟨⟨_, rfl⟩, _, rfl⟩)
  | .tupL l, vs, z, h => by match vs, h with | [.tup cs], _ => exact .inr (.inr ⟨⟨_, rfl⟩, _, rfl⟩)
  | .ppL l, vs, z, h => by match vs, h with | [.pp cs], _ => exact .inr (.inr ⟨⟨_, rfl⟩, _, rfl⟩)
  | .svL l, vs, z, h => by match vs, h with | [.sv cs], _ => exact .inr (.inr ⟨⟨_, rfl⟩, _, rfl⟩)
  | .fn _ _ _, vs, z, h => by match vs, h with | [.fn _ _ _], _ => exact .inr (.inr ⟨⟨_, rfl⟩, _, rfl⟩)
  | .ifc _ _, vs, z, h => by match vs, h with | [.ifc _ _], _ => exact .inr (.inr ⟨⟨_, rfl⟩, _, rfl⟩)
  | .lit _ _, vs, z, h => by match vs, h with | [.int _ _], _ => exact .inr (.inr ⟨⟨_, rfl⟩, _, rfl⟩)
  | .litB _, vs, z, h => by match vs, h with | [.bool _], _ => exact .inr (.inr ⟨⟨_, rfl⟩, _, rfl⟩)
  | .litS _, vs, z, h => by match vs, h with | [.str _], _ => exact .inr (.inr ⟨⟨_, rfl⟩, _, rfl⟩)
  | .zs _, vs, z, h => by match vs, h with | [.zs _], _ => exact .inr (.inr ⟨⟨_, rfl⟩, _, rfl⟩)
  | .nilp, vs, z, h => by match vs, h with | [.nilp], _ => exact .inr (.inr ⟨⟨_, rfl⟩, _, rfl⟩)
  | .nilf, vs, z, h => by match vs, h with | [.nilf], _ => exact .inr (.inr ⟨⟨_, rfl⟩, _, rfl⟩)
  | .nili, vs, z, h => by match vs, h with | [.nili], _ => exact .inr (.inr ⟨⟨_, rfl⟩, _, rfl⟩)
  | .nilm, vs, z, h => by match vs, h with | [.nilm], _ => exact .inr (.inr ⟨⟨_, rfl⟩, _, rfl⟩)
  | .und, vs, z, h => by match vs, h with | [.und], _ => exact .inr (.inr ⟨⟨_, rfl⟩, _, rfl⟩)
  | .any, vs, z, h => by match vs, h with | [x], _ => exact .inr (.inr ⟨⟨_, rfl⟩, _, rfl⟩)
  | .ptr _ _, vs, z, h => by match vs, h with | [.ptr _ _], _ => exact .inr (.inr ⟨⟨_, rfl⟩, _, rfl⟩)
  | .mp _, vs, z, h => by match vs, h with | [.mp _], _ => exact .inr (.inr ⟨⟨_, rfl⟩, _, rfl⟩)
  | .rs _, vs, z, h => by
    match vs, h with
    | [.rs _], _ => exact .inr (.inr ⟨⟨_, rfl⟩, _, rfl⟩)
    | [.zs true], _ => exact .inr (.inr ⟨⟨_, rfl⟩, _, rfl⟩)
theorem un_ats : ∀ (s : Sh) (vs : List SV) (z : s.den), s.un ks ts ad vs = some z → UnAts ks ts ad vs (s.mk z)
  | .cons a b, vs, z, h => by
    match vs, h with
    | x :: r, h =>
      have h : ((a.un ks ts ad [x]).bind fun p => (b.un ks ts ad r).map fun q => dmk a.isK b.isK p q) = some z := h
      obtain ⟨p, h1, h⟩ := Option.bind_eq_some_iff.1 h
      obtain ⟨q, h2, h⟩ := Option.map_eq_some_iff.1 h
      subst h
      have e : (Sh.cons a b).mk (dmk a.isK b.isK p q) = a.mk p ++ b.mk q := by
        show a.mk (d1 a.dflt a.isK b.isK (dmk a.isK b.isK p q)) ++ b.mk (d2 b.dflt a.isK b.isK (dmk a.isK b.isK p q)) = _
        rw [d1_dmk a.dflt p q (Sh.uniq a), d2_dmk b.dflt p q (Sh.uniq b)]
      rw [e]
      exact UnAts.app (a := [x]) (un_ats a [x] p h1) (un_ats b r q h2)
  | s, vs, z, h => by
    rcases un_one s vs z h with ⟨a, b, hs⟩ | ⟨hs, hv⟩ | ⟨⟨x, hx⟩, y, hy⟩
    · subst hs
      match vs, h with
      | x :: r, h =>
        have h : ((a.un ks ts ad [x]).bind fun p => (b.un ks ts ad r).map fun q => dmk a.isK b.isK p q) = some z := h
        obtain ⟨p, h1, h⟩ := Option.bind_eq_some_iff.1 h
        obtain ⟨q, h2, h⟩ := Option.map_eq_some_iff.1 h
        subst h
        have e : (Sh.cons a b).mk (dmk a.isK b.isK p q) = a.mk p ++ b.mk q := by
          show a.mk (d1 a.dflt a.isK b.isK (dmk a.isK b.isK p q)) ++ b.mk (d2 b.dflt a.isK b.isK (dmk a.isK b.isK p q)) = _
          rw [d1_dmk a.dflt p q (Sh.uniq a), d2_dmk b.dflt p q (Sh.uniq b)]
        rw [e]
        exact UnAts.app (a := [x]) (un_ats a [x] p h1) (un_ats b r q h2)
    · subst hs; subst hv; trivial
    · subst hx
      rw [hy]
      exact ⟨⟨s, z, h, hy⟩, trivial⟩
theorem UnAt.rn {C : Cfg} (hAd : ∀ k, memB k ad = true → C.τ[k]? = some (.slice none 0 0)) {x y : SV} (h : UnAt ks ts ad x y) : RnAt C (C.pick ks ts) x.av y.av := by
  obtain ⟨s, z, h1, h2⟩ := h
  have := un_ok hAd s [x] z h1
  rw [h2] at this
  exact this.1
theorem UnAts.rn {C : Cfg} (hAd : ∀ k, memB k ad = true → C.τ[k]? = some (.slice none 0 0)) : ∀ {xs ys : List SV}, UnAts ks ts ad xs ys → RnAts C (C.pick ks ts) (SV.avL xs) (SV.avL ys)
  | [], [], _ => trivial
  | x :: xs, y :: ys, h => ⟨h.1.rn hAd, UnAts.rn hAd h.2⟩
  | [], _ :: _, h => h.elim
  | _ :: _, [], h => h.elim
theorem UnAts.len : ∀ {xs ys : List SV}, UnAts ks ts ad xs ys → xs.length = ys.length
  | [], [], _ => rfl
  | x :: xs, y :: ys, h => by rw [List.length_cons, List.length_cons, h.2.len]
  | [], _ :: _, h => h.elim
  | _ :: _, [], h => h.elim
theorem UnAts.get : ∀ {xs ys : List SV}, UnAts ks ts ad xs ys → ∀ {j : Nat} {y : SV}, ys[j]? = some y → ∃ x, xs[j]? = some x ∧ UnAt ks ts ad x y
  | [], [], _, j, y, h => by simp at h
  | x :: xs, z :: ys, h, 0, y, hy => by simp at hy; subst hy; exact ⟨x, rfl, h.1⟩
  | x :: xs, z :: ys, h, j + 1, y, hy => by
    obtain ⟨x', h1, h2⟩ := h.2.get (j := j) (by simpa using hy)
    exact ⟨x', by simpa using h1, h2⟩
  | [], _ :: _, h, _, _, _ => h.elim
  | _ :: _, [], h, _, _, _ => h.elim
theorem UnAts.drop : ∀ {xs ys : List SV} (n : Nat), UnAts ks ts ad xs ys → UnAts ks ts ad (xs.drop n) (ys.drop n)
  | _, _, 0, h => h
  | [], [], _ + 1, _ => trivial
  | x :: xs, y :: ys, n + 1, h => UnAts.drop n h.2
  | [], _ :: _, _ + 1, h => h.elim
  | _ :: _, [], _ + 1, h => h.elim
theorem UnAts.take : ∀ {xs ys : List SV} (n : Nat), UnAts ks ts ad xs ys → UnAts ks ts ad (xs.take n) (ys.take n)
  | _, _, 0, h => trivial
  | [], [], _ + 1, _ => trivial
  | x :: xs, y :: ys, n + 1, h => ⟨h.1, UnAts.take n h.2⟩
  | [], _ :: _, _ + 1, h => h.elim
  | _ :: _, [], _ + 1, h => h.elim
theorem un_sl {t : CTy} {l : List t.den} : ∀ (s : Sh) (z : s.den), s.un ks ts ad [.sl none t l] = some z → s.mk z = [.sl none t l] ∨ s.mk z = [.any] := by
  intro s z h
  cases s with
  | cell c =>
    have h : (bif one1 c then c.un [.sl none t l] else none) = some z := h
    cases c with
    | sl c =>
      have h : CTy.conv (.sl t) (.sl c) l = some z := h
      obtain ⟨he, rfl⟩ := CTy.conv_eq h
      injection he with he
      subst he
      exact .inl rfl
    | unit => cases h
    | int k => cases h
    | bool => cases h
    | str => cases h
    | pair a b => cases h
  | any => exact .inr rfl
  | cons a b =>
    have h : ((a.un ks ts ad [.sl none t l]).bind fun p => (b.un ks ts ad []).map fun q => dmk a.isK b.isK p q) = some z := h
    obtain ⟨p, h1, h⟩ := Option.bind_eq_some_iff.1 h
    obtain ⟨q, h2, h⟩ := Option.map_eq_some_iff.1 h
    subst h
    have e : (Sh.cons a b).mk (dmk a.isK b.isK p q) = a.mk p ++ b.mk q := by
      show a.mk (d1 a.dflt a.isK b.isK (dmk a.isK b.isK p q)) ++ b.mk (d2 b.dflt a.isK b.isK (dmk a.isK b.isK p q)) = _
      rw [d1_dmk a.dflt p q (Sh.uniq a), d2_dmk b.dflt p q (Sh.uniq b)]
    have hb := (un_ats b [] q h2).len
    have hb : b.mk q = [] := List.eq_nil_of_length_eq_zero hb.symm
    rw [e, hb, List.append_nil]
    exact un_sl a p h1
  | _ => cases h
theorem un_int {k : IntKind} {x : Int} : ∀ (s : Sh) (z : s.den), s.un ks ts ad [.int k x] = some z → s.mk z = [.int k x] ∨ s.mk z = [.any] := by
  intro s z h
  cases s with
  | cell c =>
    have h : (bif one1 c then c.un [.int k x] else none) = some z := h
    cases c with
    | int k' =>
      have h : (bif kEq k k' then some x else none) = some z := h
      cases hb : kEq k k' with
      | false => rw [hb] at h; cases h
      | true =>
        rw [hb] at h
        injection h with h
        subst h
        have := kEq_eq hb
        subst this
        exact .inl rfl
    | unit => cases h
    | sl t => cases h
    | bool => cases h
    | str => cases h
    | pair a b => cases h
  | lit k' c =>
    have h : (bif kEq k' k && decide (x = c) then some () else none) = some z := h
    cases hb : (kEq k' k && decide (x = c)) with
    | false => rw [hb] at h; cases h
    | true =>
      simp only [Bool.and_eq_true, decide_eq_true_eq] at hb
      obtain ⟨h1, h2⟩ := hb
      have := kEq_eq h1
      subst this; subst h2
      exact .inl rfl
  | any => exact .inr rfl
  | cons a b =>
    have h : ((a.un ks ts ad [.int k x]).bind fun p => (b.un ks ts ad []).map fun q => dmk a.isK b.isK p q) = some z := h
    obtain ⟨p, h1, h⟩ := Option.bind_eq_some_iff.1 h
    obtain ⟨q, h2, h⟩ := Option.map_eq_some_iff.1 h
    subst h
    have e : (Sh.cons a b).mk (dmk a.isK b.isK p q) = a.mk p ++ b.mk q := by
      show a.mk (d1 a.dflt a.isK b.isK (dmk a.isK b.isK p q)) ++ b.mk (d2 b.dflt a.isK b.isK (dmk a.isK b.isK p q)) = _
      rw [d1_dmk a.dflt p q (Sh.uniq a), d2_dmk b.dflt p q (Sh.uniq b)]
    have hb := (un_ats b [] q h2).len
    have hb : b.mk q = [] := List.eq_nil_of_length_eq_zero hb.symm
    rw [e, hb, List.append_nil]
    exact un_int a p h1
  | _ => cases h
theorem un_ifc {t : TypeId} {x : SV} : ∀ (s : Sh) (z : s.den), s.un ks ts ad [.ifc t x] = some z → (∃ (v : Sh) (z' : v.den), v.un ks ts ad [x] = some z' ∧ s.mk z = [.ifc t ((v.mk z').headD .any)]) ∨ s.mk z = [.any] := by
  intro s z h
  cases s with
  | cell c =>
    have h : (bif one1 c then c.un [.ifc t x] else none) = some z := h
    cases c <;> cases h
  | ifc t' v =>
    have hq : (bif Nat.beq t' t then v.un ks ts ad [x] else none) = some z := h
    cases hb : Nat.beq t' t with
    | false => rw [hb] at hq; cases hq
    | true =>
      rw [hb] at hq
      have := Nat.eq_of_beq_eq_true hb
      subst this
      exact .inl ⟨v, z, hq, rfl⟩
  | any => exact .inr rfl
  | cons a b =>
    have h : ((a.un ks ts ad [.ifc t x]).bind fun p => (b.un ks ts ad []).map fun q => dmk a.isK b.isK p q) = some z := h
    obtain ⟨p, h1, h⟩ := Option.bind_eq_some_iff.1 h
    obtain ⟨q, h2, h⟩ := Option.map_eq_some_iff.1 h
    subst h
    have e : (Sh.cons a b).mk (dmk a.isK b.isK p q) = a.mk p ++ b.mk q := by
      show a.mk (d1 a.dflt a.isK b.isK (dmk a.isK b.isK p q)) ++ b.mk (d2 b.dflt a.isK b.isK (dmk a.isK b.isK p q)) = _
      rw [d1_dmk a.dflt p q (Sh.uniq a), d2_dmk b.dflt p q (Sh.uniq b)]
    have hb := (un_ats b [] q h2).len
    have hb : b.mk q = [] := List.eq_nil_of_length_eq_zero hb.symm
    rw [e, hb, List.append_nil]
    exact un_ifc a p h1
  | _ => cases h
end
end Go.Av
set_option linter.unusedVariables false
set_option linter.unusedSectionVars false
set_option linter.unusedSimpArgs false
namespace Go.Av
open Go.RowKit
variable [Tab]
theorem MemOk.pick2 {G : Env} {C : Cfg} {bs bs' : List (Option ABlk)} {ls ls' : List (Option Live)} {w : World} (h : MemOk G C ⟨bs, ls⟩ w) {ks ts : List Nat} (hbl : bs'.length = ks.length) (hll : ls'.length = ts.length)
    (hb : ∀ (j : Nat) (B' : ABlk), bs'[j]? = some (some B') → ∃ k B, ks[j]? = some k ∧ bs[k]? = some (some B) ∧ ∀ g, BlkOk C w g B → BlkOk (C.pick ks ts) w g B')
    (hl : ∀ (j : Nat) (L' : Live), ls'[j]? = some (some L') → ∃ t, ts[j]? = some t ∧ ls[t]? = some (some L') ∧ LiveCl (some L')) (hk : nodupB ks = true) (ht : nodupB ts = true) : MemOk G (C.pick ks ts) ⟨bs', ls'⟩ w := by
  have hρ : ∀ {j g B'}, bs'[j]? = some (some B') → (C.pick ks ts).ρ[j]? = some g → ∃ k B, ks[j]? = some k ∧ bs[k]? = some (some B) ∧ (∀ g, BlkOk C w g B → BlkOk (C.pick ks ts) w g B') ∧ C.ρ[k]? = some g := fun {j g B'} h1 h2 => by
    obtain ⟨k, B, a1, a2, a3⟩ := hb j B' h1
    refine ⟨k, B, a1, a2, a3, ?_⟩
    have hkl : k < C.ρ.length := by rw [h.ρlen]; exact (List.getElem?_eq_some_iff.1 a2).1
    have h3 : (ks.map fun k => (C.ρ[k]?).getD 0)[j]? = some g := h2
    rw [List.getElem?_map, a1, Option.map_some, List.getElem?_eq_getElem hkl, Option.getD_some] at h3
    rw [List.getElem?_eq_getElem hkl]; exact h3
  have hτ : ∀ {j v p}, ls'[j]? = some (some p) → (C.pick ks ts).τ[j]? = some v → ∃ t, ts[j]? = some t ∧ ls[t]? = some (some p) ∧ C.τ[t]? = some v ∧ LiveCl (some p) := fun {j v p} h1 h2 => by
    obtain ⟨t, a1, a2, a0⟩ := hl j p h1
    refine ⟨t, a1, a2, ?_, a0⟩
    have htl : t < C.τ.length := by rw [h.τlen]; exact (List.getElem?_eq_some_iff.1 a2).1
    have h3 : (ts.map fun t => (C.τ[t]?).getD undef)[j]? = some v := h2
    rw [List.getElem?_map, a1, Option.map_some, List.getElem?_eq_getElem htl, Option.getD_some] at h3
    rw [List.getElem?_eq_getElem htl]; exact h3
  refine ⟨h.os, h.tape, h.output, h.size, h.kept, h.old, h.pool, ?_, ?_, ?_, ?_, ?_, ?_, ?_, h.ppool, h.fixed⟩
  · simp [Cfg.pick, hbl]
  · simp [Cfg.pick, hll]
  · intro j B' g h1 h2
    obtain ⟨k, B, a1, a2, a3, a4⟩ := hρ h1 h2
    obtain ⟨b1, b2, b3⟩ := h.blk k B g a2 a4
    exact ⟨b1, a3 g b2, b3⟩
  · intro j j' B B' g h1 h2 h3 h4
    obtain ⟨k, B1, a1, a2, a3, a4⟩ := hρ h1 h3
    obtain ⟨k', B1', a1', a2', a3', a4'⟩ := hρ h2 h4
    have := h.dist k k' B1 B1' g a2 a2' a4 a4'
    subst this
    exact nodupB_inj hk a1 a1'
  · intro j L v h1 h2
    obtain ⟨t, a1, a2, a3, a4⟩ := hτ h1 h2
    exact (h.stp t L v a2 a3).pick a4
  · intro j j' p p' v v' g h1 h2 h3 h4 h5 h6
    obtain ⟨t, a1, a2, a3, _⟩ := hτ h1 h3
    obtain ⟨t', a1', a2', a3', _⟩ := hτ h2 h4
    have := h.sdist t t' p p' v v' g a2 a2' a3 a3' h5 h6
    subst this
    exact nodupB_inj ht a1 a1'
  · intro j j' p B' v g h1 h2 h3 h4
    obtain ⟨t, a1, a2, a3, _⟩ := hτ h1 h3
    obtain ⟨k, B, b1, b2, b3, b4⟩ := hρ h2 h4
    exact h.bdist t k p B v g a2 b2 a3 b4
theorem memB_mem {k : Nat} : ∀ {l : List Nat}, memB k l = true → k ∈ l
  | [], h => by cases h
  | x :: r, h => by
    rw [memB] at h
    cases hb : Nat.beq x k with
    | true => rw [Nat.eq_of_beq_eq_true hb]; exact List.mem_cons_self
    | false => rw [hb] at h; exact List.mem_cons_of_mem _ (memB_mem h)
theorem not_memB {k : Nat} : ∀ {l : List Nat}, memB k l = false → k ∉ l
  | [], _ => by simp
  | x :: r, h => by
    rw [memB] at h
    cases hb : Nat.beq x k with
    | true => rw [hb] at h; cases h
    | false =>
      rw [hb] at h
      intro hm
      rcases List.mem_cons.1 hm with rfl | hm
      · rw [Nat.beq_refl] at hb; cases hb
      · exact not_memB h hm
theorem nodupN_B : ∀ {l : List Nat}, nodupN l = true → nodupB l = true
  | [], _ => rfl
  | x :: r, h => by
    rw [nodupN] at h
    cases hb : memB x r with
    | true => rw [hb] at h; cases h
    | false =>
      rw [hb, cond_false] at h
      have := not_memB hb
      simp only [nodupB, Bool.and_eq_true, Bool.not_eq_true']
      exact ⟨by simpa using this, nodupN_B h⟩
theorem fixB_ok {l : List Nat} : ∀ {n j : Nat}, fixB l n j = true → ∀ i, j ≤ i → i < j + n → l[i]? = some i
  | 0, j, _, i, h1, h2 => by omega
  | n + 1, j, h, i, h1, h2 => by
    rw [fixB] at h
    cases hb : isAt l j j with
    | false => rw [hb] at h; cases h
    | true =>
      rw [hb, cond_true] at h
      rcases Nat.lt_or_ge j i with hlt | hge
      · exact fixB_ok h i hlt (by omega)
      · have : i = j := by omega
        subst this
        exact isAt_eq hb
theorem upto_mem {k x : Nat} : ∀ {n : Nat}, memB x (upto k n) = true → k ≤ x ∧ x < k + n
  | 0, h => by cases h
  | n + 1, h => by
    rw [upto, memB] at h
    cases hb : Nat.beq k x with
    | true => have := Nat.eq_of_beq_eq_true hb; omega
    | false =>
      rw [hb] at h
      have := upto_mem (k := k + 1) h
      omega
theorem nilLive_ok {G : Env} {C : Cfg} {w : World} {L : SLive} (h : nilLive L = true) : StpOk G C w L.av (.slice none 0 0) := by
  cases L with
  | pl e sz => exact .inl rfl
  | own e t l =>
    cases l with
    | cons x r => cases h
    | nil => exact ⟨fun i cs h => by simp at h, .inl ⟨rfl, rfl⟩⟩
/-- Stamps of nil, new. -/
theorem adopt_ok {G : Env} {w : World} : ∀ (ad : List SLive) {C : Cfg} {bs : List (Option ABlk)} {ls : List (Option Live)}, MemOk G C ⟨bs, ls⟩ w → allNil ad = true → ∃ C', C.Le C' ∧ MemOk G C' ⟨bs, ls ++ ad.map fun L => some L.av⟩ w ∧ ∀ i, ls.length ≤ i → i < ls.length + ad.length → C'.τ[i]? = some (.slice none 0 0)
  | [], C, bs, ls, h, _ => ⟨C, .refl C, by simpa using h, fun i h1 h2 => by simp at h2; omega⟩
  | L :: ad, C, bs, ls, h, ha => by
    rw [allNil] at ha
    cases hb : nilLive L with
    | false => rw [hb] at ha; cases ha
    | true =>
      rw [hb, cond_true] at ha
      have h1 := h.addL (L := L.av) (v := .slice none 0 0) (nilLive_ok hb) (fun _ _ _ _ _ => by simp [Value.ownBlock]) (fun _ _ _ _ _ _ _ => by simp [Value.ownBlock])
      obtain ⟨C', h2, h3, h4⟩ := adopt_ok ad (ls := ls ++ [some L.av]) h1 ha
      refine ⟨C', (C.le_addS _).trans h2, by simpa using h3, fun i i1 i2 => ?_⟩
      rcases Nat.lt_or_ge ls.length i with hlt | hge
      · exact h4 i (by simp; omega) (by simp at i2 ⊢; omega)
      · have : i = ls.length := by omega
        subst this
        exact h2.τ _ _ (getElem?_last _ _ _ h.τlen)
section
variable {ks ts ad : List Nat} {C : Cfg}
theorem unF_ok (hAd : ∀ k, memB k ad = true → C.τ[k]? = some (.slice none 0 0)) (fr : List (Nat × SV)) : ∀ (slots : List Nat) (rest M : List SV), UnAts ks ts ad (slots.map (slook fr) ++ rest) M → ∀ i, RnAt C (C.pick ks ts) (look (avF fr) i) (look (avF (zipS slots M)) i)
  | [], rest, M, _, i => fun v _ => .any v
  | j :: r, rest, [], h, i => h.elim
  | j :: r, rest, y :: M, h, i => by
    rw [zipS, look_avF, look_avF, slook]
    cases hb : Nat.beq j i with
    | true =>
      have := Nat.eq_of_beq_eq_true hb
      subst this
      exact h.1.rn hAd
    | false =>
      have := unF_ok hAd fr r rest M h.2 i
      rwa [look_avF, look_avF] at this
theorem dfs_ok (hAd : ∀ k, memB k ad = true → C.τ[k]? = some (.slice none 0 0)) : ∀ (xs ys : List SV) (ds : List Deferred), UnAts ks ts ad xs ys → allFn ys = true → DfOk C (SV.avL xs) ds → DfOk (C.pick ks ts) (SV.avL ys) ds
  | [], [], ds, _, _, h => by
    cases h; exact .nil
  | x :: xs, y :: ys, ds, h, hf, hd => by
    have hx := h.1.rn hAd
    rw [SV.avL] at hd
    generalize hq : x.av = xa at hd hx
    cases y with
    | fn f' a' b' =>
      cases hd with
      | cons f first caps vs us h1 h2 _ ds' hd =>
        have := hx _ (Rep.fn f first caps vs us h1.1 h2.1 h1.2 h2.2)
        cases this with
        | fn _ _ _ _ _ hl hl' hh hh' => exact .cons f' (SV.avL a') (SV.avL b') vs us ⟨hl, hh⟩ ⟨hl', hh'⟩ (SV.avL ys) ds' (dfs_ok hAd xs ys ds' h.2 hf hd)
    | _ => cases hf
  | [], _ :: _, _, h, _, _ => h.elim
  | _ :: _, [], _, h, _, _ => h.elim
theorem blk_ok (hAd : ∀ k, memB k ad = true → C.τ[k]? = some (.slice none 0 0)) {b : Option (Option SBlk)} {y : SV} {B' : SBlk} (h : UnAt ks ts ad (ofBlk b) y) (hy : toBlk y = some B') : ∃ B, b = some (some B) ∧ ∀ (w : World) (g : Nat), BlkOk C w g B.av → BlkOk (C.pick ks ts) w g B'.av := by
  have hr := h.rn hAd
  have none_case : ∀ z : SV, UnAt ks ts ad .any y → False := fun z hz => by
    obtain ⟨s, z, h1, h2⟩ := hz
    have : s.mk z = [.any] := by
      rcases un_one s [.any] z h1 with ⟨a, b, rfl⟩ | ⟨_, hv⟩ | _
      · have h : ((a.un ks ts ad [.any]).bind fun p => (b.un ks ts ad []).map fun q => dmk a.isK b.isK p q) = some z := h1
        have key : ∀ (s : Sh) (z : s.den), s.un ks ts ad [.any] = some z → s.mk z = [.any] := by
          intro s
          induction s with
          | cons a b iha ihb =>
            intro z h
            have h : ((a.un ks ts ad [.any]).bind fun p => (b.un ks ts ad []).map fun q => dmk a.isK b.isK p q) = some z := h
            obtain ⟨p, h1, h⟩ := Option.bind_eq_some_iff.1 h
            obtain ⟨q, h2, h⟩ := Option.map_eq_some_iff.1 h
            subst h
            have e : (Sh.cons a b).mk (dmk a.isK b.isK p q) = a.mk p ++ b.mk q := by
              show a.mk (d1 a.dflt a.isK b.isK (dmk a.isK b.isK p q)) ++ b.mk (d2 b.dflt a.isK b.isK (dmk a.isK b.isK p q)) = _
              rw [d1_dmk a.dflt p q (Sh.uniq a), d2_dmk b.dflt p q (Sh.uniq b)]
            have hb := (un_ats b [] q h2).len
            have hb : b.mk q = [] := List.eq_nil_of_length_eq_zero hb.symm
            rw [e, hb, List.append_nil]
            exact iha p h1
          | any => intro z h; rfl
          | cell c =>
            intro z h
            have h : (bif one1 c then c.un [.any] else none) = some z := h
            cases c <;> cases h
          | _ => intro z h; cases h
        exact key _ z h1
      · cases hv
      · cases s with
        | cons a b =>
          rename_i hq
          have key : ∀ (s : Sh) (z : s.den), s.un ks ts ad [.any] = some z → s.mk z = [.any] := by
            intro s
            induction s with
            | cons a b iha ihb =>
              intro z h
              have h : ((a.un ks ts ad [.any]).bind fun p => (b.un ks ts ad []).map fun q => dmk a.isK b.isK p q) = some z := h
              obtain ⟨p, h1, h⟩ := Option.bind_eq_some_iff.1 h
              obtain ⟨q, h2, h⟩ := Option.map_eq_some_iff.1 h
              subst h
              have e : (Sh.cons a b).mk (dmk a.isK b.isK p q) = a.mk p ++ b.mk q := by
                show a.mk (d1 a.dflt a.isK b.isK (dmk a.isK b.isK p q)) ++ b.mk (d2 b.dflt a.isK b.isK (dmk a.isK b.isK p q)) = _
                rw [d1_dmk a.dflt p q (Sh.uniq a), d2_dmk b.dflt p q (Sh.uniq b)]
              have hb := (un_ats b [] q h2).len
              have hb : b.mk q = [] := List.eq_nil_of_length_eq_zero hb.symm
              rw [e, hb, List.append_nil]
              exact iha p h1
            | any => intro z h; rfl
            | cell c =>
              intro z h
              have h : (bif one1 c then c.un [.any] else none) = some z := h
              cases c <;> cases h
            | _ => intro z h; cases h
          exact key _ z h1
        | any => rfl
        | cell c =>
          have h : (bif one1 c then c.un [.any] else none) = some z := h1
          cases c <;> cases h
        | _ => cases h1
    rw [h2] at this
    injection this with this
    subst this
    cases hy
  cases b with
  | none => exact (none_case y h).elim
  | some b =>
    cases b with
    | none => exact (none_case y h).elim
    | some B =>
      refine ⟨B, rfl, fun w g hB => ?_⟩
      cases B with
      | cells ty cs =>
        obtain ⟨vs, c1, c2, c3⟩ := hB
        have hv := hr (.iface ty (.agg vs.toArray)) (.ifc ty _ _ (.agg _ _ c2.1 c2.2))
        cases y with
        | ifc ty' y' =>
          cases y' with
          | agg cs' =>
            injection hy with hy
            subst hy
            cases hv with
            | ifc _ _ _ hv =>
              obtain ⟨us, hu, hus⟩ := hv.agg_inv
              injection hu with hu
              have : vs = us := by simpa using congrArg Array.toList hu
              subst this
              exact ⟨vs, c1, hus, c3⟩
          | _ => cases hy
        | tup l => cases hv
        | sl st t l => cases hv
        | _ => cases hy
      | iter s p =>
        have hB : w.heap[g]? = some (.stringIter ⟨s.toArray⟩ p) := hB
        have c2 : Reps C [.str s, .int .i64 p] [.string ⟨s.toArray⟩, .int .i64 p] := .cons (.str s) (.cons (.int .i64 p) (.nil C))
        have hv := hr (.tuple #[.string ⟨s.toArray⟩, .int .i64 p]) (.tup _ [.string ⟨s.toArray⟩, .int .i64 p] c2.1 c2.2)
        cases y with
        | ifc ty' y' => cases hv
        | sl st t l => cases hv
        | tup l =>
          match l, hy with
          | [.str s', .int k p'], hy =>
            injection hy with hy
            subst hy
            obtain ⟨us, hu, hus⟩ := hv.tup_inv
            injection hu with hu
            have hu : us = [.string ⟨s.toArray⟩, .int .i64 p] := by have := congrArg Array.toList hu; simpa using this.symm
            subst hu
            have q1 := (hus.2 0 _ _ rfl rfl).str_inv
            have q2 := (hus.2 1 _ _ rfl rfl).int_inv
            injection q1 with q1
            have q1 : s = s' := by simpa using q1
            injection q2 with _ q2
            subst q1
            show w.heap[g]? = some (.stringIter ⟨s.toArray⟩ p'.toNat)
            rw [hB, ← q2]; rfl
        | _ => cases hy
      | smap t es =>
        obtain ⟨s, z, h1, h2⟩ := h
        rcases un_sl (ks := ks) (ts := ts) (ad := ad) s z h1 with h3 | h3
        · rw [h2] at h3
          injection h3 with h3
          subst h3
          injection hy with hy
          subst hy
          obtain ⟨ms, cl, c1, c2, c3⟩ := hB
          refine ⟨ms, cl, c1, c2, reps_closed (C := C) (D := C.pick ks ts) (fun _ _ _ x => x) (fun x hx => ?_) c3⟩
          obtain ⟨p, hp, rfl⟩ := List.mem_map.1 hx
          obtain ⟨q, hq, rfl⟩ := List.mem_map.1 hp
          show Closed (t.av1 q.2)
          unfold CTy.av1
          cases hc : t.avs q.2 with
          | nil => exact closed_any
          | cons a r => exact closed_avs t q.2 a (by rw [hc]; exact List.mem_cons_self)
        · rw [h2] at h3
          injection h3 with h3
          subst h3
          cases hy
theorem live_ok {b : Option (Option SLive)} {y : SV} {L' : SLive} (h : UnAt ks ts ad (ofLive b) y) (hy : toLive y = some L') : b = some (some L') := by
  obtain ⟨s, z, h1, h2⟩ := h
  have ofAny : ofLive b ≠ .any → ∃ L, b = some (some L) := fun hn => by
    cases b with
    | none => exact absurd rfl hn
    | some b =>
      cases b with
      | none => exact absurd rfl hn
      | some L => exact ⟨L, rfl⟩
  by_cases hne : ofLive b = .any
  · exfalso
    rw [hne] at h1
    have key : ∀ (s : Sh) (z : s.den), s.un ks ts ad [.any] = some z → s.mk z = [.any] := by
      intro s
      induction s with
      | cons a b iha ihb =>
        intro z h
        have h : ((a.un ks ts ad [.any]).bind fun p => (b.un ks ts ad []).map fun q => dmk a.isK b.isK p q) = some z := h
        obtain ⟨p, h1, h⟩ := Option.bind_eq_some_iff.1 h
        obtain ⟨q, h2, h⟩ := Option.map_eq_some_iff.1 h
        subst h
        have e : (Sh.cons a b).mk (dmk a.isK b.isK p q) = a.mk p ++ b.mk q := by
          show a.mk (d1 a.dflt a.isK b.isK (dmk a.isK b.isK p q)) ++ b.mk (d2 b.dflt a.isK b.isK (dmk a.isK b.isK p q)) = _
          rw [d1_dmk a.dflt p q (Sh.uniq a), d2_dmk b.dflt p q (Sh.uniq b)]
        have hb := (un_ats b [] q h2).len
        have hb : b.mk q = [] := List.eq_nil_of_length_eq_zero hb.symm
        rw [e, hb, List.append_nil]
        exact iha p h1
      | any => intro z h; rfl
      | cell c =>
        intro z h
        have h : (bif one1 c then c.un [.any] else none) = some z := h
        cases c <;> cases h
      | _ => intro z h; cases h
    have := key s z h1
    rw [h2] at this
    injection this with this
    subst this
    cases hy
  · obtain ⟨L, rfl⟩ := ofAny hne
    cases L with
    | own e t l =>
      rcases un_ifc (ks := ks) (ts := ts) (ad := ad) s z h1 with ⟨v, z', h3, h4⟩ | h3
      · rw [h2] at h4
        injection h4 with h4
        subst h4
        rcases un_sl (ks := ks) (ts := ts) (ad := ad) v z' h3 with h5 | h5
        · rw [h5] at hy
          have hy : some (SLive.own e t l) = some L' := hy
          rw [hy]
        · rw [h5] at hy; cases hy
      · rw [h2] at h3
        injection h3 with h3
        subst h3
        cases hy
    | pl e sz =>
      rcases un_ifc (ks := ks) (ts := ts) (ad := ad) s z h1 with ⟨v, z', h3, h4⟩ | h3
      · rw [h2] at h4
        injection h4 with h4
        subst h4
        rcases un_int (ks := ks) (ts := ts) (ad := ad) v z' h3 with h5 | h5
        · rw [h5] at hy
          have hy : some (SLive.pl e sz) = some L' := hy
          rw [hy]
        · rw [h5] at hy; cases hy
      · rw [h2] at h3
        injection h3 with h3
        subst h3
        cases hy
end
end Go.Av
set_option linter.unusedVariables false
set_option linter.unusedSectionVars false
set_option linter.unusedSimpArgs false
namespace Go.Av
open Go.RowKit
variable [Tab]
theorem ksOf_len {fb : Nat} {a : Ids} : ∀ {n j : Nat} {l : List Nat}, ksOf fb a n j = some l → l.length = n
  | 0, j, l, h => by injection h with h; subst h; rfl
  | n + 1, j, l, h => by
    rw [ksOf] at h
    split at h
    · rename_i k r h1 h2
      injection h with h
      subst h
      rw [List.length_cons, ksOf_len h2]
    · cases h
theorem tsOf_len {all : Sh} {off ft : Nat} {a : Ids} : ∀ {n j new : Nat} {r : List Nat × List SLive}, tsOf all off ft a n j new = some r → r.1.length = n
  | 0, j, new, r, h => by injection h with h; subst h; rfl
  | n + 1, j, new, r, h => by
    rw [tsOf] at h
    split at h
    · obtain ⟨q, h1, rfl⟩ := Option.map_eq_some_iff.1 h
      rw [List.length_cons, tsOf_len h1]
    · split at h
      · obtain ⟨q, h1, rfl⟩ := Option.map_eq_some_iff.1 h
        rw [List.length_cons, tsOf_len h1]
      · cases h
structure UnpOk (S : Shp) (fb ft : Nat) (s : SSt) (u : Unp S) (s1 : SSt) (ad : List SLive) : Prop where
  fz : ∃ l, s1 = freezeAll l s
  st : u.st = ⟨s1.fr, ⟨s1.m.blks, s1.m.lives ++ ad.map some⟩, s1.dfs, s1.pv⟩
  nil : allNil ad = true
  kn : nodupN u.ks = true
  tn : nodupN u.ts = true
  kf : fixB u.ks fb 0 = true
  tf : fixB u.ts ft 0 = true
  kl : u.ks.length = S.nb
  tl : u.ts.length = S.nt
  dl : s1.dfs.length = S.nd
  ll : s1.m.lives.length = s.m.lives.length
  un : S.all.un u.ks u.ts (upto s1.m.lives.length ad.length) (S.enc u.st u.ks u.ts) = some u.z
  fn : allFn (S.mk' u.z).dfs = true
theorem unp_spec {S : Shp} {fb ft : Nat} {s : SSt} {u : Unp S} (h : S.unp fb ft s = some u) : ∃ s1 ad, UnpOk S fb ft s u s1 ad := by
  unfold Shp.unp at h
  simp only at h
  split at h
  · rename_i ks ts ad h1 h2
    generalize hs1 : freezeAll (fzs S.all (S.enc s ks ts)) s = s1 at h
    generalize hc : (nodupN ks && nodupN ts && fixB ks fb 0 && fixB ts ft 0 && Nat.beq (lenL s1.dfs) S.nd && Nat.beq (lenL s1.m.lives) (lenL s.m.lives) && allNil ad) = c at h
    cases c with
    | false => cases h
    | true =>
      rw [cond_true] at h
      simp only [Bool.and_eq_true] at hc
      obtain ⟨⟨⟨⟨⟨⟨c1, c2⟩, c3⟩, c4⟩, c5⟩, c6⟩, c7⟩ := hc
      obtain ⟨z, h3, h4⟩ := Option.bind_eq_some_iff.1 h
      cases hf : allFn (S.mk' z).dfs with
      | false => rw [hf] at h4; cases h4
      | true =>
        rw [hf, cond_true] at h4
        injection h4 with h4
        subst h4
        have c5 := Nat.eq_of_beq_eq_true c5
        have c6 := Nat.eq_of_beq_eq_true c6
        rw [lenL_eq] at c5
        rw [lenL_eq, lenL_eq] at c6
        refine ⟨s1, ad, ⟨_, hs1.symm⟩, rfl, c7, c1, c2, c3, c4, ksOf_len h1, tsOf_len h2, c5, c6, ?_, hf⟩
        rw [lenL_eq, lenL_eq] at h3
        rw [c6]
        exact h3
  · cases h
theorem to_adoptS {G : Env} {C0 : Cfg} {n : Nat} {s : SSt} {ad : List SLive} (h : allNil ad = true) {C : Cfg} {a : Act} {w : World} (hg : Gam G C0 C (s.av n) a w) :
    ∃ C', Gam G C0 C' ((SSt.mk s.fr ⟨s.m.blks, s.m.lives ++ ad.map some⟩ s.dfs s.pv).av n) a w ∧ C.Le C' ∧ ∀ k, memB k (upto s.m.lives.length ad.length) = true → C'.τ[k]? = some (.slice none 0 0) := by
  obtain ⟨C', h1, h2, h3⟩ := adopt_ok ad hg.mem h
  refine ⟨C', ⟨hg.le.trans h1, ?_, hg.size, fun i => (hg.fr i).mono h1, hg.dfs.mono h1⟩, h1, fun k hk => ?_⟩
  · show MemOk G C' ⟨avB s.m.blks, avLv (s.m.lives ++ ad.map some)⟩ w
    rw [show avLv (s.m.lives ++ ad.map some) = avLv s.m.lives ++ ad.map fun L => some L.av by simp [avLv]]
    exact h2
  · obtain ⟨q1, q2⟩ := upto_mem hk
    exact h3 k (by rw [avLv_len]; exact q1) (by rw [avLv_len]; exact q2)
theorem drop_app {α : Type} {a b : List α} {n : Nat} (h : a.length = n) : (a ++ b).drop n = b := by subst h; simp
theorem take_app {α : Type} {a b : List α} {n : Nat} (h : a.length = n) : (a ++ b).take n = a := by subst h; simp
theorem enc_parts {S : Shp} {s : SSt} {ks ts ad : List Nat} {M : List SV} (hd : s.dfs.length = S.nd) (hk : ks.length = S.nb) (ht : ts.length = S.nt) (h : UnAts ks ts ad (S.enc s ks ts) M) :
    UnAts ks ts ad s.dfs ((M.drop (lenL S.slots)).take S.nd) ∧ UnAt ks ts ad s.pv ((M.drop (lenL S.slots + S.nd)).headD .any) ∧
    UnAts ks ts ad (ks.map fun k => ofBlk (nth s.m.blks k)) ((M.drop (lenL S.slots + S.nd + 1)).take S.nb) ∧ UnAts ks ts ad (ts.map fun t => ofLive (nth s.m.lives t)) ((M.drop (lenL S.slots + S.nd + 1 + S.nb)).take S.nt) := by
  unfold Shp.enc at h
  rw [lenL_eq]
  have hsl : (S.slots.map (slook s.fr)).length = S.slots.length := by simp
  have h1 := h.drop S.slots.length
  rw [List.append_assoc, drop_app hsl] at h1
  have h2 := h1.take S.nd
  rw [take_app hd] at h2
  have h3 := h1.drop S.nd
  rw [drop_app hd, List.drop_drop] at h3
  have h4 := h3.drop 1
  rw [List.drop_drop, List.drop_succ_cons, List.drop_zero] at h4
  have h5 := h4.take S.nb
  rw [take_app (by simpa using hk)] at h5
  have h6 := h4.drop S.nb
  rw [drop_app (by simpa using hk), List.drop_drop] at h6
  have h7 := h6.take S.nt
  rw [List.take_of_length_le (by simp [ht])] at h7
  refine ⟨h2, ?_, h5, h7⟩
  revert h3
  generalize M.drop (S.slots.length + S.nd) = X
  intro h3
  match X, h3 with
  | y :: ys, h3 => exact h3.1
theorem unp_ok {G : Env} {C0 : Cfg} {n fb ft : Nat} {S : Shp} {s : SSt} {u : Unp S} (h : S.unp fb ft s = some u) (hC : C0.ρ.length = fb) (hC' : C0.τ.length = ft) : ToS G C0 n s (S.mk' u.z) := by
  obtain ⟨s1, ad, q⟩ := unp_spec h
  obtain ⟨l, hl⟩ := q.fz
  have t1 := to_freezeAll (G := G) (C0 := C0) n l s
  rw [← hl] at t1
  refine t1.trans fun C a w hg => ?_
  obtain ⟨C1, hg1, hle, hAd⟩ := to_adoptS q.nil hg
  rw [← q.st] at hg1
  have hats := un_ats _ _ _ q.un
  obtain ⟨e1, e2, e3, e4⟩ := enc_parts (by rw [q.st]; exact q.dl) q.kl q.tl hats
  have hpv : u.st.pv = s1.pv := by rw [q.st]
  refine ⟨C1.pick u.ks u.ts, ⟨⟨hg1.le.pool, fun k g hk0 => ?_, fun t v ht0 => ?_⟩, ?_, hg1.size, fun i => ?_, ?_⟩, fun v hv => ?_⟩
  · have hlt := (List.getElem?_eq_some_iff.1 hk0).1
    have h1 := fixB_ok q.kf k (Nat.zero_le _) (by omega)
    simp [Cfg.pick, h1, hg1.le.ρ k g hk0]
  · have hlt := (List.getElem?_eq_some_iff.1 ht0).1
    have h1 := fixB_ok q.tf t (Nat.zero_le _) (by omega)
    simp [Cfg.pick, h1, hg1.le.τ t v ht0]
  · show MemOk G _ ⟨avB _, avLv _⟩ w
    have hm : MemOk G C1 ⟨avB u.st.m.blks, avLv u.st.m.lives⟩ w := hg1.mem
    have lb : (((S.all.mk u.z).drop (lenL S.slots + S.nd + 1)).take S.nb).length = S.nb := by rw [← e3.len, List.length_map, q.kl]
    have lt : (((S.all.mk u.z).drop (lenL S.slots + S.nd + 1 + S.nb)).take S.nt).length = S.nt := by rw [← e4.len, List.length_map, q.tl]
    refine hm.pick2 ?_ ?_ (fun j B' hj => ?_) (fun j L' hj => ?_) (nodupN_B q.kn) (nodupN_B q.tn)
    · rw [avB_len, q.kl]; show (List.map _ _).length = _; rw [List.length_map, lb]
    · rw [avLv_len, q.tl]; show (List.map _ _).length = _; rw [List.length_map, lt]
    · rw [avB_get] at hj
      obtain ⟨ob, ho, hb⟩ := Option.map_eq_some_iff.1 hj
      obtain ⟨B1, hB1, rfl⟩ := Option.map_eq_some_iff.1 hb
      subst hB1
      have ho : (((((S.all.mk u.z).drop (lenL S.slots + S.nd + 1)).take S.nb).map toBlk)[j]?) = some (some B1) := ho
      rw [List.getElem?_map] at ho
      obtain ⟨y, hy, hyb⟩ := Option.map_eq_some_iff.1 ho
      obtain ⟨x, hx, hxy⟩ := e3.get hy
      rw [List.getElem?_map] at hx
      obtain ⟨k, hk, rfl⟩ := Option.map_eq_some_iff.1 hx
      obtain ⟨B, hB, htr⟩ := blk_ok hAd hxy hyb
      rw [nth_eq] at hB
      exact ⟨k, B.av, hk, avB_at hB, fun g hg => htr w g hg⟩
    · rw [avLv_get] at hj
      obtain ⟨ob, ho, hb⟩ := Option.map_eq_some_iff.1 hj
      obtain ⟨B1, hB1, rfl⟩ := Option.map_eq_some_iff.1 hb
      subst hB1
      have ho : (((((S.all.mk u.z).drop (lenL S.slots + S.nd + 1 + S.nb)).take S.nt).map toLive)[j]?) = some (some B1) := ho
      rw [List.getElem?_map] at ho
      obtain ⟨y, hy, hyb⟩ := Option.map_eq_some_iff.1 ho
      obtain ⟨x, hx, hxy⟩ := e4.get hy
      rw [List.getElem?_map] at hx
      obtain ⟨k, hk, rfl⟩ := Option.map_eq_some_iff.1 hx
      have hB := live_ok hxy hyb
      rw [nth_eq] at hB
      refine ⟨k, hk, avLv_at hB, ?_⟩
      cases B1 with
      | pl e sz => trivial
      | own e t l => exact closed_map fun a => closed_avs t a
  · exact unF_ok hAd u.st.fr S.slots _ _ (by have := hats; unfold Shp.enc at this; rwa [List.append_assoc] at this) i _ (hg1.fr i)
  · exact dfs_ok hAd _ _ _ e1 q.fn hg1.dfs
  · have := e2.rn hAd
    exact this v (by rw [hpv]; exact hv.mono hle)
end Go.Av
set_option linter.unusedVariables false
set_option linter.unusedSectionVars false
set_option linter.unusedSimpArgs false
namespace Go.Av
open Go.RowKit
variable [Tab]
/-- What a call is handed of the caller's memory, at a config. -/
structure BeforeC (C : Cfg) (w : World) (m m0 : Mem) (bs ts : List Nat) : Prop where
  bl : m0.blks.length = bs.length
  ll : m0.lives.length = ts.length
  bn : nodupB bs = true
  tn : nodupB ts = true
  b : ∀ (i : Nat) (B0 : ABlk), m0.blks[i]? = some (some B0) → ∃ k B, bs[i]? = some k ∧ m.blks[k]? = some (some B) ∧ ∀ g, BlkOk C w g B → BlkOk (C.pick bs ts) w g B0
  l : ∀ (i : Nat) (L0 : Live), m0.lives[i]? = some (some L0) → ∃ t L, ts[i]? = some t ∧ m.lives[t]? = some (some L) ∧ L = L0 ∧ LiveCl (some L0)
  bi : ∀ k ∈ bs, k < m.blks.length
  ti : ∀ t ∈ ts, t < m.lives.length
theorem frame2 {P : Program} {f : FuncId} {args0 : List AV} {m m0 : Mem} {bs ts : List Nat} {Q0 : AOut → Mem → Prop} {G : Env} {C : Cfg} {w : World} {vs : List Value} (hm : MemOk G C m w) (hB : BeforeC C w m m0 bs ts) (hv : Reps (C.pick bs ts) args0 vs) (h : ACalls P f args0 m0 Q0)
    {Q : AOut → Mem → Prop} (hA : ∀ o0 m0', Q0 o0 m0' → ∃ o m', Q o m' ∧ MvOut (back bs m.blks.length) (back ts m.lives.length) o0 o ∧ After m m0 bs ts m0' m') : Calls P f vs.toArray w fun e w' => ∃ o m' C', Q o m' ∧ RepOut C' o e ∧ C.Le C' ∧ MemOk G C' m' w' := by
  -- what the callee must keep
  let pr : Nat → Prop := fun b => b < w.heap.size ∧ (∀ (i : Nat) (B0 : ABlk) (k : Nat), m0.blks[i]? = some (some B0) → bs[i]? = some k → C.ρ[k]? ≠ some b) ∧ (∀ (i : Nat) (L0 : Live) (t : Nat) (v : Value), m0.lives[i]? = some (some L0) → ts[i]? = some t → C.τ[t]? = some v → v.ownBlock ≠ some b)
  let G1 : Env := { w0 := w, prot := pr, pool0 := C.pool, fix := G.fix, has := G.has }
  let C1 : Cfg := C.pick bs ts
  have hρ1 : ∀ {i k g : Nat}, bs[i]? = some k → C.ρ[k]? = some g → C1.ρ[i]? = some g := fun {i k g} h1 h2 => by
    show (bs.map _)[i]? = _
    rw [List.getElem?_map, h1]; simp [h2]
  have hτ1 : ∀ {i t : Nat} {v : Value}, ts[i]? = some t → C.τ[t]? = some v → C1.τ[i]? = some v := fun {i t v} h1 h2 => by
    show (ts.map _)[i]? = _
    rw [List.getElem?_map, h1]; simp [h2]
  have hρ2 : ∀ {i g : Nat}, C1.ρ[i]? = some g → ∃ k, bs[i]? = some k ∧ C.ρ[k]? = some g := fun {i g} h1 => by
    have h1 : (bs.map _)[i]? = some g := h1
    rw [List.getElem?_map] at h1
    obtain ⟨k, hk, he⟩ := Option.map_eq_some_iff.1 h1
    have hkl : k < C.ρ.length := by rw [hm.ρlen]; exact hB.bi k (List.mem_of_getElem? hk)
    rw [List.getElem?_eq_getElem hkl, Option.getD_some] at he
    exact ⟨k, hk, by rw [List.getElem?_eq_getElem hkl, he]⟩
  have hτ2 : ∀ {i : Nat} {v : Value}, C1.τ[i]? = some v → ∃ t, ts[i]? = some t ∧ C.τ[t]? = some v := fun {i v} h1 => by
    have h1 : (ts.map _)[i]? = some v := h1
    rw [List.getElem?_map] at h1
    obtain ⟨t, ht, he⟩ := Option.map_eq_some_iff.1 h1
    have htl : t < C.τ.length := by rw [hm.τlen]; exact hB.ti t (List.mem_of_getElem? ht)
    rw [List.getElem?_eq_getElem htl, Option.getD_some] at he
    exact ⟨t, ht, by rw [List.getElem?_eq_getElem htl, he]⟩
  have mb : ∀ (k k' g : Nat), into bs k k' → C.ρ[k]? = some g → C1.ρ[k']? = some g := fun k k' g h1 h2 => hρ1 h1 h2
  have mt : ∀ (t t' : Nat) (u : Value), into ts t t' → C.τ[t]? = some u → C1.τ[t']? = some u := fun t t' u h1 h2 => hτ1 h1 h2
  have hprb : ∀ {i : Nat} {B0 : ABlk} {k g : Nat}, m0.blks[i]? = some (some B0) → bs[i]? = some k → C.ρ[k]? = some g → ¬ pr g := fun h1 h2 h3 hp => hp.2.1 _ _ _ h1 h2 h3
  have hprl : ∀ {i : Nat} {L0 : Live} {t : Nat} {v : Value} {g : Nat}, m0.lives[i]? = some (some L0) → ts[i]? = some t → C.τ[t]? = some v → v.ownBlock = some g → ¬ pr g := fun h1 h2 h3 h4 hp => hp.2.2 _ _ _ _ h1 h2 h3 h4
  -- blocks that the callee must keep
  have pOfG : ∀ b, G.prot b → pr b := fun b hb => ⟨Nat.lt_of_lt_of_le (hm.old b hb) hm.size, fun i B0 k h1 h2 h3 => by
    obtain ⟨k', B, b1, b2, b3⟩ := hB.b i B0 h1
    rw [h2] at b1; injection b1 with b1; subst b1
    exact (hm.blk k B b b2 h3).1 hb, fun i L0 t v h1 h2 h3 h4 => by
    obtain ⟨t', L, b1, b2, b3⟩ := hB.l i L0 h1
    rw [h2] at b1; injection b1 with b1; subst b1
    exact (hm.stp t L v b2 h3).notProt h4 hb⟩
  have hm1 : MemOk G1 C1 m0 w := by
    refine ⟨rfl, rfl, rfl, Nat.le_refl _, fun _ _ => rfl, fun b hb => hb.1, hm.pool, ?_, ?_, ?_, ?_, ?_, ?_, ?_, fun _ _ _ _ h => h, fun b o hf => ⟨pOfG b (hm.fixed b o hf).1, (hm.kept b (hm.fixed b o hf).1).trans (hm.fixed b o hf).2⟩⟩
    · show (bs.map _).length = _; simp [hB.bl]
    · show (ts.map _).length = _; simp [hB.ll]
    · intro i B0 g h1 h2
      obtain ⟨k, B, b1, b2, b3⟩ := hB.b i B0 h1
      obtain ⟨k', b4, b5⟩ := hρ2 h2
      rw [b1] at b4; injection b4 with b4; subst b4
      obtain ⟨a1, a2, a3⟩ := hm.blk k B g b2 b5
      exact ⟨hprb h1 b1 b5, b3 g a2, a3⟩
    · intro i i' B B' g h1 h2 h3 h4
      obtain ⟨k, B1, b1, b2, b3⟩ := hB.b i B h1
      obtain ⟨k1, b4, b5⟩ := hρ2 h3
      rw [b1] at b4; injection b4 with b4; subst b4
      obtain ⟨k', B1', b1', b2', b3'⟩ := hB.b i' B' h2
      obtain ⟨k1', b4', b5'⟩ := hρ2 h4
      rw [b1'] at b4'; injection b4' with b4'; subst b4'
      have := hm.dist k k' B1 B1' g b2 b2' b5 b5'
      subst this
      exact nodupB_inj hB.bn b1 b1'
    · intro i L0 v h1 h2
      obtain ⟨t, L, b1, b2, b3⟩ := hB.l i L0 h1
      obtain ⟨t', b4, b5⟩ := hτ2 h2
      rw [b1] at b4; injection b4 with b4; subst b4
      obtain ⟨rfl, hcl⟩ := b3
      exact ((hm.stp t L v b2 b5).pick (ks := bs) (ts := ts) hcl).move (fun g hg _ => hprl h1 b1 b5 hg) (.refl _) fun g _ => ⟨rfl, fun _ x => x⟩
    · intro i i' p p' v v' g h1 h2 h3 h4 h5 h6
      obtain ⟨t, L, b1, b2, b3⟩ := hB.l i p h1
      obtain ⟨t1, b4, b5⟩ := hτ2 h3
      rw [b1] at b4; injection b4 with b4; subst b4
      obtain ⟨t', L', b1', b2', b3'⟩ := hB.l i' p' h2
      obtain ⟨t1', b4', b5'⟩ := hτ2 h4
      rw [b1'] at b4'; injection b4' with b4'; subst b4'
      have := hm.sdist t t' L L' v v' g b2 b2' b5 b5' h5 h6
      subst this
      exact nodupB_inj hB.tn b1 b1'
    · intro i j p B v g h1 h2 h3 h4
      obtain ⟨t, L, b1, b2, b3⟩ := hB.l i p h1
      obtain ⟨t1, b4, b5⟩ := hτ2 h3
      rw [b1] at b4; injection b4 with b4; subst b4
      obtain ⟨k, B1, c1, c2, c3⟩ := hB.b j B h2
      obtain ⟨k1, c4, c5⟩ := hρ2 h4
      rw [c1] at c4; injection c4 with c4; subst c4
      exact hm.bdist t k L B1 v g b2 c2 b5 c5
  have hv1 : Reps C1 args0 vs := hv
  refine (h G1 C1 w vs hm1 hv1).mono ?_
  rintro e w' ⟨o0, m0', C', hQ0, hout, hle, hm'⟩
  obtain ⟨o, m', hQ, hmo, hA⟩ := hA o0 m0' hQ0
  have hC1ρ : C1.ρ.length = bs.length := by show (bs.map _).length = _; simp
  have hC1τ : C1.τ.length = ts.length := by show (ts.map _).length = _; simp
  let C2 : Cfg := { pool := C'.pool, ρ := C.ρ ++ C'.ρ.drop bs.length, τ := C.τ ++ C'.τ.drop ts.length, has := C'.has }
  have hle2 : C.Le C2 := ⟨hle.pool, fun k g hk => by
    show (C.ρ ++ _)[k]? = _
    rw [List.getElem?_append_left (List.getElem?_eq_some_iff.1 hk).1]; exact hk, fun k g hk => by
    show (C.τ ++ _)[k]? = _
    rw [List.getElem?_append_left (List.getElem?_eq_some_iff.1 hk).1]; exact hk⟩
  -- from the callee's numbers to the caller's
  have kb : ∀ (i k g : Nat), back bs m.blks.length i k → C'.ρ[i]? = some g → C2.ρ[k]? = some g := fun i k g h1 h2 => by
    rcases h1 with h1 | ⟨h1, rfl⟩
    · have hil : i < C1.ρ.length := by rw [hC1ρ]; exact (List.getElem?_eq_some_iff.1 h1).1
      have h3 := hle.ρ i _ (List.getElem?_eq_getElem hil)
      rw [h2] at h3; injection h3 with h3
      obtain ⟨k', h4, h5⟩ := hρ2 (List.getElem?_eq_getElem hil)
      rw [h1] at h4; injection h4 with h4; subst h4
      rw [← h3] at h5
      exact hle2.ρ k g h5
    · show (C.ρ ++ C'.ρ.drop bs.length)[_]? = _
      rw [List.getElem?_append_right (by rw [hm.ρlen]; omega), hm.ρlen, Nat.add_sub_cancel_left, List.getElem?_drop]
      rw [show bs.length + (i - bs.length) = i by omega]; exact h2
  have kt : ∀ (i t : Nat) (v : Value), back ts m.lives.length i t → C'.τ[i]? = some v → C2.τ[t]? = some v := fun i t v h1 h2 => by
    rcases h1 with h1 | ⟨h1, rfl⟩
    · have hil : i < C1.τ.length := by rw [hC1τ]; exact (List.getElem?_eq_some_iff.1 h1).1
      have h3 := hle.τ i _ (List.getElem?_eq_getElem hil)
      rw [h2] at h3; injection h3 with h3
      obtain ⟨k', h4, h5⟩ := hτ2 (List.getElem?_eq_getElem hil)
      rw [h1] at h4; injection h4 with h4; subst h4
      rw [← h3] at h5
      exact hle2.τ t v h5
    · show (C.τ ++ C'.τ.drop ts.length)[_]? = _
      rw [List.getElem?_append_right (by rw [hm.τlen]; omega), hm.τlen, Nat.add_sub_cancel_left, List.getElem?_drop]
      rw [show ts.length + (i - ts.length) = i by omega]; exact h2
  -- and back
  have rbk : ∀ (i k g : Nat) (B : ABlk), back bs m.blks.length i k → m0'.blks[i]? = some (some B) → C2.ρ[k]? = some g → C'.ρ[i]? = some g := fun i k g B h1 h2 h3 => by
    have hil : i < C'.ρ.length := by rw [hm'.ρlen]; exact (List.getElem?_eq_some_iff.1 h2).1
    have := kb i k _ h1 (List.getElem?_eq_getElem hil)
    rw [h3] at this; injection this with this
    rw [this]; exact List.getElem?_eq_getElem hil
  have rtk : ∀ (i t : Nat) (v : Value) (L : Live), back ts m.lives.length i t → m0'.lives[i]? = some (some L) → C2.τ[t]? = some v → C'.τ[i]? = some v := fun i t v L h1 h2 h3 => by
    have hil : i < C'.τ.length := by rw [hm'.τlen]; exact (List.getElem?_eq_some_iff.1 h2).1
    have := kt i t _ h1 (List.getElem?_eq_getElem hil)
    rw [h3] at this; injection this with this
    rw [this]; exact List.getElem?_eq_getElem hil
  have oldρ : ∀ {k g : Nat}, k < m.blks.length → C2.ρ[k]? = some g → C.ρ[k]? = some g := fun {k g} h1 h2 => by
    have h2 : (C.ρ ++ _)[k]? = some g := h2
    rw [List.getElem?_append_left (by rw [hm.ρlen]; exact h1)] at h2; exact h2
  have oldτ : ∀ {t : Nat} {v : Value}, t < m.lives.length → C2.τ[t]? = some v → C.τ[t]? = some v := fun {t v} h1 h2 => by
    have h2 : (C.τ ++ _)[t]? = some v := h2
    rw [List.getElem?_append_left (by rw [hm.τlen]; exact h1)] at h2; exact h2
  have pBlk : ∀ (k : Nat) (B : ABlk) (g : Nat), k ∉ bs → m.blks[k]? = some (some B) → C.ρ[k]? = some g → pr g := fun k B g h0 h1 h2 => ⟨(hm.blk k B g h1 h2).2.1.lt, fun i B0 k' q1 q2 q3 => by
    obtain ⟨k2, B2, b1, b2, b3⟩ := hB.b i B0 q1
    rw [q2] at b1; injection b1 with b1; subst b1
    have := hm.dist k k' B B2 g h1 b2 h2 q3
    subst this
    exact h0 (List.mem_of_getElem? q2), fun i L0 t v q1 q2 q3 q4 => by
    obtain ⟨t', L, b1, b2, b3⟩ := hB.l i L0 q1
    rw [q2] at b1; injection b1 with b1; subst b1
    exact hm.bdist t k L B v g b2 h1 q3 h2 q4⟩
  have pLiv : ∀ (t : Nat) (L : Live) (v : Value) (g : Nat), t ∉ ts → m.lives[t]? = some (some L) → C.τ[t]? = some v → v.ownBlock = some g → pr g := fun t L v g h0 h1 h2 h3 => ⟨(hm.stp t L v h1 h2).lt h3, fun i B0 k' q1 q2 q3 => by
    obtain ⟨k2, B2, b1, b2, b3⟩ := hB.b i B0 q1
    rw [q2] at b1; injection b1 with b1; subst b1
    exact hm.bdist t k' L B2 v g h1 b2 h2 q3 h3, fun i L0 t' v' q1 q2 q3 q4 => by
    obtain ⟨t2, L2, b1, b2, b3⟩ := hB.l i L0 q1
    rw [q2] at b1; injection b1 with b1; subst b1
    have := hm.sdist t t' L L2 v v' g h1 b2 h2 q3 h3 q4
    subst this
    exact h0 (List.mem_of_getElem? q2)⟩
  have hnone : ∀ g o, pr g → C.pool g o = none → C'.pool g o = none := fun g o hg hn => by
    cases hc : C'.pool g o with
    | none => rfl
    | some v => have := hm'.ppool g o v hg hc; rw [show C.pool g o = some v from this] at hn; cases hn
  have bnp : ∀ (i : Nat) (B : ABlk) (g : Nat), m0'.blks[i]? = some (some B) → C'.ρ[i]? = some g → ¬ pr g := fun i B g h1 h2 => (hm'.blk i B g h1 h2).1
  have lnp : ∀ (i : Nat) (L : Live) (v : Value) (g : Nat), m0'.lives[i]? = some (some L) → C'.τ[i]? = some v → v.ownBlock = some g → ¬ pr g := fun i L v g h1 h2 h3 => (hm'.stp i L v h1 h2).notProt h3
  refine ⟨o, m', C2, hQ, ?_, hle2, ?_⟩
  · cases hmo with
    | ret x y hxy => cases hout with
      | ret _ v hx => exact .ret _ _ (hxy C' C2 v (fun _ _ _ h => h) kb kt hx)
    | pan x y hxy => cases hout with
      | pan _ v hx old ho => exact .pan _ _ (hxy C' C2 v (fun _ _ _ h => h) kb kt hx) old ho
  · refine ⟨hm'.os.trans hm.os, hm'.tape.trans hm.tape, hm'.output.trans hm.output, Nat.le_trans hm.size hm'.size, fun b hp => (hm'.kept b (pOfG b hp)).trans (hm.kept b hp), hm.old, hm'.pool, ?_, ?_, ?_, ?_, ?_, ?_, ?_, fun b o v hp hc => hm.ppool b o v hp (hm'.ppool b o v (pOfG b hp) hc), hm.fixed⟩
    · show (C.ρ ++ C'.ρ.drop bs.length).length = _
      rw [List.length_append, List.length_drop, hm.ρlen, hm'.ρlen, hA.bl]
    · show (C.τ ++ C'.τ.drop ts.length).length = _
      rw [List.length_append, List.length_drop, hm.τlen, hm'.τlen, hA.ll]
    · intro k B' g h1 h2
      rcases hA.b k B' h1 with ⟨i, B, c1, c2, c3⟩ | ⟨c0, c1, c2⟩
      · have c4 := rbk i k g B c1 c2 h2
        obtain ⟨a1, a2, a3⟩ := hm'.blk i B g c2 c4
        exact ⟨fun hp => a1 (pOfG g hp), c3.ok (C := C') (D := C2) (fun _ _ _ h => h) kb kt a2, a3⟩
      · have c4 := oldρ c0 h2
        obtain ⟨a1, a2, a3⟩ := hm.blk k B' g c2 c4
        have hp := pBlk k B' g c1 c2 c4
        exact ⟨a1, a2.move hle2 (hm'.kept g hp), fun o => hnone g o hp (a3 o)⟩
    · intro k k' B B' g h1 h2 h3 h4
      rcases hA.b k B h1 with ⟨i, B1, c1, c2, c3⟩ | ⟨c0, c1, c2⟩ <;> rcases hA.b k' B' h2 with ⟨i', B1', d1, d2, d3⟩ | ⟨d0, d1, d2⟩
      · have e1 := rbk i k g B1 c1 c2 h3
        have e2 := rbk i' k' g B1' d1 d2 h4
        have := hm'.dist i i' B1 B1' g c2 d2 e1 e2
        subst this
        rcases c1 with c1 | ⟨c1, rfl⟩ <;> rcases d1 with d1 | ⟨d1, rfl⟩
        · rw [c1] at d1; injection d1
        · have := (List.getElem?_eq_some_iff.1 c1).1; omega
        · have := (List.getElem?_eq_some_iff.1 d1).1; omega
        · rfl
      · exact absurd (pBlk k' B' g d1 d2 (oldρ d0 h4)) (bnp i B1 g c2 (rbk i k g B1 c1 c2 h3))
      · exact absurd (pBlk k B g c1 c2 (oldρ c0 h3)) (bnp i' B1' g d2 (rbk i' k' g B1' d1 d2 h4))
      · exact hm.dist k k' B B' g c2 d2 (oldρ c0 h3) (oldρ d0 h4)
    · intro t L' v h1 h2
      rcases hA.l t L' h1 with ⟨i, L, c1, c2, c3⟩ | ⟨c0, c1, c2⟩
      · have c4 := rtk i t v L c1 c2 h2
        exact c3.ok (C := C') (D := C2) (fun _ _ _ h => h) (fun g hg => ⟨rfl, fun hn hp => hn (pOfG g hp), fun _ h => h⟩) (hm'.stp i L v c2 c4)
      · have c4 := oldτ c0 h2
        exact (hm.stp t L' v c2 c4).move (fun _ _ x => x) hle2 fun g hg => ⟨hm'.kept g (pLiv t L' v g c1 c2 c4 hg), fun o => hnone g o (pLiv t L' v g c1 c2 c4 hg)⟩
    · intro t t' p p' v v' g h1 h2 h3 h4 h5 h6
      rcases hA.l t p h1 with ⟨i, L, c1, c2, c3⟩ | ⟨c0, c1, c2⟩ <;> rcases hA.l t' p' h2 with ⟨i', L', d1, d2, d3⟩ | ⟨d0, d1, d2⟩
      · have := hm'.sdist i i' L L' v v' g c2 d2 (rtk i t v L c1 c2 h3) (rtk i' t' v' L' d1 d2 h4) h5 h6
        subst this
        rcases c1 with c1 | ⟨c1, rfl⟩ <;> rcases d1 with d1 | ⟨d1, rfl⟩
        · rw [c1] at d1; injection d1
        · have := (List.getElem?_eq_some_iff.1 c1).1; omega
        · have := (List.getElem?_eq_some_iff.1 d1).1; omega
        · rfl
      · exact absurd (pLiv t' p' v' g d1 d2 (oldτ d0 h4) h6) (lnp i L v g c2 (rtk i t v L c1 c2 h3) h5)
      · exact absurd (pLiv t p v g c1 c2 (oldτ c0 h3) h5) (lnp i' L' v' g d2 (rtk i' t' v' L' d1 d2 h4) h6)
      · exact hm.sdist t t' p p' v v' g c2 d2 (oldτ c0 h3) (oldτ d0 h4) h5 h6
    · intro t k p B v g h1 h2 h3 h4
      rcases hA.l t p h1 with ⟨i, L, c1, c2, c3⟩ | ⟨c0, c1, c2⟩ <;> rcases hA.b k B h2 with ⟨i', B1, d1, d2, d3⟩ | ⟨d0, d1, d2⟩
      · exact hm'.bdist i i' L B1 v g c2 d2 (rtk i t v L c1 c2 h3) (rbk i' k g B1 d1 d2 h4)
      · exact fun h5 => lnp i L v g c2 (rtk i t v L c1 c2 h3) h5 (pBlk k B g d1 d2 (oldρ d0 h4))
      · exact fun h5 => bnp i' B1 g d2 (rbk i' k g B1 d1 d2 h4) (pLiv t p v g c1 c2 (oldτ c0 h3) h5)
      · exact hm.bdist t k p B v g c2 d2 (oldτ c0 h3) (oldρ d0 h4)
end Go.Av
set_option linter.unusedVariables false
set_option linter.unusedSectionVars false
set_option linter.unusedSimpArgs false
namespace Go.Av
open Go.RowKit
variable [Tab]
def rnN (l : List Nat) (n i : Nat) : Nat :=
  match nth l i with
  | some k => k
  | none => n + (i - lenL l)
theorem rnN_back (l : List Nat) (n i : Nat) : back l n i (rnN l n i) := by
  unfold rnN
  split
  · rename_i k hk
    rw [nth_eq] at hk
    exact .inl hk
  · rename_i hk
    rw [nth_eq] at hk
    exact .inr ⟨List.getElem?_eq_none_iff.1 hk, by rw [lenL_eq]⟩
section
variable (bs ts : List Nat) (nb nt : Nat)
mutual
def rnV : SV → SV
  | .ptr k off => .ptr (rnN bs nb k) off
  | .mp k => .mp (rnN bs nb k)
  | .rs k => .rs (rnN ts nt k)
  | .rp k sz j fo => .rp (rnN ts nt k) sz j fo
  | .sl (some k) t l => .sl (some (rnN ts nt k)) t l
  | .agg cs => .agg (rnVL cs)
  | .tup cs => .tup (rnVL cs)
  | .pp cs => .pp (rnVL cs)
  | .sv cs => .sv (rnVL cs)
  | .fn f a b => .fn f (rnVL a) (rnVL b)
  | .ifc t v => .ifc t (rnV v)
  | x => x
def rnVL : List SV → List SV
  | [] => []
  | x :: xs => rnV x :: rnVL xs
end
def rnBlk : Option SBlk → Option SBlk
  | some (.cells ty cs) => some (.cells ty (rnVL bs ts nb nt cs))
  | b => b
end
section
variable {bs ts : List Nat} {nb nt : Nat}
theorem mv_ifc {rb rt : Nat → Nat → Prop} {t : TypeId} {x y : AV} (h : Mv rb rt x y) : Mv rb rt (.ifc t x) (.ifc t y) := fun C D v hp hb ht hr => by
  cases hr with
  | ifc _ _ u hu => exact .ifc t y u (h C D u hp hb ht hu)
theorem closed_arr (t : CTy) (l : List t.den) : Closed (.agg (l.map t.avs).flatten) := closed_agg fun x hx => by
  obtain ⟨cs, hcs, hxc⟩ := List.mem_flatten.1 hx
  obtain ⟨y, _, rfl⟩ := List.mem_map.1 hcs
  exact closed_avs t y x hxc
theorem mv_rp {rb rt : Nat → Nat → Prop} {t t' sz j fo : Nat} (h : rt t t') : Mv rb rt (.rp t sz j fo) (.rp t' sz j fo) := fun C D v _ _ ht hr => by
  cases hr with
  | rp _ _ _ _ g n c hg hj => exact .rp t' sz j fo g n c (ht t t' _ h hg) hj
theorem Mvs.get {rb rt : Nat → Nat → Prop} : ∀ {xs ys : List AV}, Mvs rb rt xs ys → ∀ {j : Nat} {y : AV}, ys[j]? = some y → ∃ x, xs[j]? = some x ∧ Mv rb rt x y
  | [], [], _, j, y, h => by simp at h
  | x :: xs, z :: ys, h, 0, y, hy => by simp at hy; subst hy; exact ⟨x, rfl, h.1⟩
  | x :: xs, z :: ys, h, j + 1, y, hy => by
    obtain ⟨x', h1, h2⟩ := h.2.get (j := j) (by simpa using hy)
    exact ⟨x', by simpa using h1, h2⟩
  | [], _ :: _, h, _, _, _ => h.elim
  | _ :: _, [], h, _, _, _ => h.elim
theorem mv_pp {rb rt : Nat → Nat → Prop} {xs ys : List AV} (h : Mvs rb rt xs ys) : Mv rb rt (.pp xs) (.pp ys) := fun C D v hp hb ht hr => by
  obtain ⟨b, off, vals, rfl, h1, h2⟩ := hr.pp_inv
  refine .pp ys b off vals (fun j y hy => ?_) fun j y hy => ?_
  · obtain ⟨x, hx, _⟩ := h.get hy
    exact hp _ _ _ (h1 j x hx)
  · obtain ⟨x, hx, hxy⟩ := h.get hy
    exact hxy C D _ hp hb ht (h2 j x hx)
theorem Mvs.len {rb rt : Nat → Nat → Prop} : ∀ {xs ys : List AV}, Mvs rb rt xs ys → xs.length = ys.length
  | [], [], _ => rfl
  | _ :: xs, _ :: ys, h => by rw [List.length_cons, List.length_cons, Mvs.len h.2]
  | [], _ :: _, h => h.elim
  | _ :: _, [], h => h.elim
theorem mv_sv {rb rt : Nat → Nat → Prop} {xs ys : List AV} (h : Mvs rb rt xs ys) : Mv rb rt (.sl none 1 (L1 xs)) (.sl none 1 (L1 ys)) := fun C D v hp hb ht hr =>
  rep_sv hp h.len (fun j y hy => by
    obtain ⟨x, hx, hxy⟩ := h.get hy
    exact ⟨x, hx, fun u hu => hxy C D u hp hb ht hu⟩) hr
mutual
theorem rnV_ok : ∀ x : SV, Mv (back bs nb) (back ts nt) x.av (rnV bs ts nb nt x).av
  | .ptr k off => mv_ptr (rnN_back bs nb k)
  | .mp k => mv_mp (rnN_back bs nb k)
  | .rs k => mv_rs (rnN_back ts nt k)
  | .rp k sz j fo => mv_rp (rnN_back ts nt k)
  | .sl (some k) t l => mv_sl (rnN_back ts nt k) (closed_map fun a => closed_avs t a)
  | .sl none t l => mv_closed (closed_sl (closed_map fun a => closed_avs t a))
  | .agg cs => mv_agg (rnVL_ok cs)
  | .tup cs => mv_tup (rnVL_ok cs)
  | .pp cs => mv_pp (rnVL_ok cs)
  | .sv cs => mv_sv (rnVL_ok cs)
  | .fn f a b => mv_fn (rnVL_ok a) (rnVL_ok b)
  | .ifc t v => mv_ifc (rnV_ok v)
  | .int _ _ => mv_closed (closed_int _ _)
  | .bool _ => mv_closed (closed_bool _)
  | .str _ => mv_closed (closed_str _)
  | .zs _ => mv_closed (closed_zs _)
  | .arr t l => mv_closed (closed_arr t l)
  | .nilp => mv_closed closed_nilp
  | .nilf => mv_closed closed_nilf
  | .nili => mv_closed closed_nili
  | .nilm => mv_closed closed_nilm
  | .und => mv_closed fun C D v _ h => by cases h; exact .und
  | .any => mv_any
theorem rnVL_ok : ∀ xs : List SV, Mvs (back bs nb) (back ts nt) (SV.avL xs) (SV.avL (rnVL bs ts nb nt xs))
  | [] => trivial
  | x :: xs => ⟨rnV_ok x, rnVL_ok xs⟩
end
theorem av1_closed (t : CTy) (x : t.den) : Closed (t.av1 x) := by
  unfold CTy.av1
  cases hc : t.avs x with
  | nil => exact closed_any
  | cons a r => exact closed_avs t x a (by rw [hc]; exact List.mem_cons_self)
theorem rnBlk_ok {b : Option SBlk} {B' : SBlk} (h : rnBlk bs ts nb nt b = some B') : ∃ B, b = some B ∧ MvB (back bs nb) (back ts nt) B.av B'.av := by
  cases b with
  | none => cases h
  | some B =>
    cases B with
    | cells ty cs => injection h with h; subst h; exact ⟨_, rfl, rfl, rnVL_ok cs⟩
    | iter s p => injection h with h; subst h; exact ⟨_, rfl, rfl, rfl⟩
    | smap t es =>
      injection h with h; subst h
      refine ⟨_, rfl, rfl, fun p hp => ?_⟩
      obtain ⟨q, _, rfl⟩ := List.mem_map.1 hp
      exact av1_closed t q.2
theorem mvl_refl (L : SLive) : MvL (back bs nb) (back ts nt) L.av L.av := by
  cases L with
  | pl e sz => exact ⟨rfl, rfl⟩
  | own e t l => exact ⟨rfl, rfl, rfl, closed_map fun a => closed_avs t a⟩
end
def setAll {α : Type} : List Nat → List α → List α → List α
  | k :: ks, b :: r, l => setAll ks r (l.set k b)
  | _, _, l => l
theorem setAll_len {α : Type} : ∀ (ks : List Nat) (r l : List α), (setAll ks r l).length = l.length
  | [], r, l => rfl
  | k :: ks, [], l => rfl
  | k :: ks, b :: r, l => by rw [setAll, setAll_len ks r, List.length_set]
theorem setAll_miss {α : Type} : ∀ (ks : List Nat) (r l : List α) (k : Nat), k ∉ ks → (setAll ks r l)[k]? = l[k]?
  | [], r, l, k, _ => rfl
  | j :: ks, [], l, k, _ => rfl
  | j :: ks, b :: r, l, k, h => by
    rw [setAll, setAll_miss ks r _ k (fun hm => h (List.mem_cons_of_mem _ hm)), List.getElem?_set_ne]
    rintro rfl
    exact h List.mem_cons_self
theorem setAll_hit {α : Type} : ∀ (ks : List Nat) (r l : List α) (i k : Nat), nodupB ks = true → ks.length ≤ r.length → ks[i]? = some k → k < l.length → (setAll ks r l)[k]? = r[i]?
  | [], r, l, i, k, _, _, h, _ => by simp at h
  | j :: ks, [], l, i, k, _, hl, _, _ => by simp at hl
  | j :: ks, b :: r, l, 0, k, hn, hl, h, hk => by
    simp only [List.getElem?_cons_zero, Option.some.injEq] at h
    subst h
    simp only [nodupB, Bool.and_eq_true, Bool.not_eq_true'] at hn
    rw [setAll, setAll_miss ks r _ j (by simpa using hn.1), List.getElem?_set_self hk]; rfl
  | j :: ks, b :: r, l, i + 1, k, hn, hl, h, hk => by
    simp only [nodupB, Bool.and_eq_true] at hn
    rw [setAll, setAll_hit ks r (l.set j b) i k hn.2 (by simpa using hl) (by simpa using h) (by simpa using hk)]
    rfl
def afterM (m m0 : SMem) (bs ts : List Nat) : SMem :=
  let b0 := m0.blks.map (rnBlk bs ts (lenL m.blks) (lenL m.lives))
  ⟨setAll bs b0 m.blks ++ b0.drop (lenL bs), setAll ts m0.lives m.lives ++ m0.lives.drop (lenL ts)⟩
theorem afterM_ok {m m0 : SMem} {mc : Mem} {bs ts : List Nat} (hb : nodupB bs = true) (ht : nodupB ts = true) (h1 : bs.length ≤ m0.blks.length) (h2 : ts.length ≤ m0.lives.length) (b1 : ∀ k ∈ bs, k < m.blks.length) (t1 : ∀ k ∈ ts, k < m.lives.length) : After m.av mc bs ts m0.av (afterM m m0 bs ts).av := by
  have eb : (afterM m m0 bs ts).blks = setAll bs (m0.blks.map (rnBlk bs ts m.blks.length m.lives.length)) m.blks ++ (m0.blks.map (rnBlk bs ts m.blks.length m.lives.length)).drop bs.length := by
    simp only [afterM, lenL_eq]
  have el : (afterM m m0 bs ts).lives = setAll ts m0.lives m.lives ++ m0.lives.drop ts.length := by simp only [afterM, lenL_eq]
  refine ⟨?_, ?_, fun k B' h => ?_, fun k L' h => ?_⟩
  · show (avB _).length = (avB _).length + ((avB _).length - _)
    rw [avB_len, avB_len, avB_len, eb, List.length_append, setAll_len, List.length_drop, List.length_map]
  · show (avLv _).length = (avLv _).length + ((avLv _).length - _)
    rw [avLv_len, avLv_len, avLv_len, el, List.length_append, setAll_len, List.length_drop]
  · have h : (avB (afterM m m0 bs ts).blks)[k]? = some (some B') := h
    rw [avB_get, eb] at h
    obtain ⟨ob, ho, hq⟩ := Option.map_eq_some_iff.1 h
    obtain ⟨B1, hB1, rfl⟩ := Option.map_eq_some_iff.1 hq
    subst hB1
    show (∃ i B, back bs (avB m.blks).length i k ∧ (avB m0.blks)[i]? = some (some B) ∧ MvB (back bs (avB m.blks).length) (back ts (avLv m.lives).length) B B1.av) ∨ (k < (avB m.blks).length ∧ k ∉ bs ∧ (avB m.blks)[k]? = some (some B1.av))
    rw [avB_len, avLv_len]
    have fromI : ∀ i, back bs m.blks.length i k → (m0.blks.map (rnBlk bs ts m.blks.length m.lives.length))[i]? = some (some B1) → ∃ i B, back bs m.blks.length i k ∧ (avB m0.blks)[i]? = some (some B) ∧ MvB (back bs m.blks.length) (back ts m.lives.length) B B1.av := fun i hi hr => by
      rw [List.getElem?_map] at hr
      obtain ⟨b, hb0, hr⟩ := Option.map_eq_some_iff.1 hr
      obtain ⟨B, rfl, hmv⟩ := rnBlk_ok hr
      exact ⟨i, B.av, hi, avB_at hb0, hmv⟩
    by_cases hk : k < m.blks.length
    · rw [List.getElem?_append_left (by rw [setAll_len]; exact hk)] at ho
      by_cases hm : k ∈ bs
      · obtain ⟨i, hi⟩ := List.getElem?_of_mem hm
        rw [setAll_hit bs _ _ i k hb (by simpa using h1) hi hk] at ho
        exact .inl (fromI i (.inl hi) ho)
      · rw [setAll_miss bs _ _ k hm] at ho
        exact .inr ⟨hk, hm, avB_at ho⟩
    · rw [List.getElem?_append_right (by rw [setAll_len]; omega), setAll_len, List.getElem?_drop] at ho
      exact .inl (fromI (bs.length + (k - m.blks.length)) (.inr ⟨by omega, by omega⟩) ho)
  · have h : (avLv (afterM m m0 bs ts).lives)[k]? = some (some L') := h
    rw [avLv_get, el] at h
    obtain ⟨ob, ho, hq⟩ := Option.map_eq_some_iff.1 h
    obtain ⟨B1, hB1, rfl⟩ := Option.map_eq_some_iff.1 hq
    subst hB1
    show (∃ i L, back ts (avLv m.lives).length i k ∧ (avLv m0.lives)[i]? = some (some L) ∧ MvL (back bs (avB m.blks).length) (back ts (avLv m.lives).length) L B1.av) ∨ (k < (avLv m.lives).length ∧ k ∉ ts ∧ (avLv m.lives)[k]? = some (some B1.av))
    rw [avB_len, avLv_len]
    by_cases hk : k < m.lives.length
    · rw [List.getElem?_append_left (by rw [setAll_len]; exact hk)] at ho
      by_cases hm : k ∈ ts
      · obtain ⟨i, hi⟩ := List.getElem?_of_mem hm
        rw [setAll_hit ts _ _ i k ht h2 hi hk] at ho
        exact .inl ⟨i, B1.av, .inl hi, avLv_at ho, mvl_refl B1⟩
      · rw [setAll_miss ts _ _ k hm] at ho
        exact .inr ⟨hk, hm, avLv_at ho⟩
    · rw [List.getElem?_append_right (by rw [setAll_len]; omega), setAll_len, List.getElem?_drop] at ho
      exact .inl ⟨ts.length + (k - m.lives.length), B1.av, .inr ⟨by omega, by omega⟩, avLv_at ho, mvl_refl B1⟩
inductive XK where
  | normal
  | exit (id : Nat)
  | ret
  | panic
def XK.beq : XK → XK → Bool
  | .normal, .normal => true
  | .exit i, .exit j => Nat.beq i j
  | .ret, .ret => true
  | .panic, .panic => true
  | _, _ => false
theorem XK.beq_eq {a b : XK} (h : a.beq b = true) : a = b := by
  cases a <;> cases b <;> first | rfl | (cases h; done) | skip
  rw [Nat.eq_of_beq_eq_true h]
abbrev Exits := List (XK × Shp)
def outT : Exits → Type
  | [] => Empty
  | e :: r => match r with
    | [] => e.2.den
    | _ :: _ => e.2.den ⊕ outT r
def either {A B R : Type} (z : A ⊕ B) (f : A → R) (g : B → R) : R :=
  match z with
  | .inl a => f a
  | .inr b => g b
def resume {R : Type} : (E : Exits) → outT E → (XK → SSt → Option R) → Option R
  | [], z, _ => nomatch z
  | [e], z, k => k e.1 (e.2.mk' z)
  | e :: e' :: r, z, k => either z (fun a => k e.1 (e.2.mk' a)) (fun b => resume (e' :: r) b k)
def Out : (E : Exits) → outT E → XK → SSt → Prop
  | [], z, _, _ => False
  | [e], z, q, s => q = e.1 ∧ s = e.2.mk' z
  | e :: e' :: r, z, q, s => match z with
    | .inl a => q = e.1 ∧ s = e.2.mk' a
    | .inr b => Out (e' :: r) b q s
theorem resume_out {R : Type} : ∀ {E : Exits} {z : outT E} {k : XK → SSt → Option R} {r : R}, resume E z k = some r → ∀ q s, Out E z q s → k q s = some r
  | [], z, k, r, h, q, s, ho => ho.elim
  | [e], z, k, r, h, q, s, ho => by
    obtain ⟨rfl, rfl⟩ := ho
    exact h
  | e :: e' :: r', z, k, r, h, q, s, ho => by
    cases z with
    | inl a =>
      obtain ⟨rfl, rfl⟩ := ho
      exact h
    | inr b => exact resume_out (E := e' :: r') (z := b) h q s ho
def outOf (fb ft : Nat) : (E : Exits) → XK → SSt → Option (outT E)
  | [], _, _ => none
  | [e], q, s => bif XK.beq e.1 q then e.2.un fb ft s else none
  | e :: e' :: r, q, s => match (bif XK.beq e.1 q then e.2.un fb ft s else none) with
    | some z => some (.inl z)
    | none => (outOf fb ft (e' :: r) q s).map .inr
theorem outOf_ok {G : Env} {C0 : Cfg} {n fb ft : Nat} (hC : C0.ρ.length = fb) (hC' : C0.τ.length = ft) : ∀ {E : Exits} {q : XK} {s : SSt} {z : outT E}, outOf fb ft E q s = some z → ∃ s', Out E z q s' ∧ ToS G C0 n s s'
  | [], q, s, z, h => by cases h
  | [e], q, s, z, h => by
    have h : (bif XK.beq e.1 q then e.2.un fb ft s else none) = some z := h
    cases hb : XK.beq e.1 q with
    | false => rw [hb] at h; cases h
    | true =>
      rw [hb, cond_true] at h
      obtain ⟨u, hu, rfl⟩ := Option.map_eq_some_iff.1 h
      exact ⟨_, ⟨(XK.beq_eq hb).symm, rfl⟩, unp_ok hu hC hC'⟩
  | e :: e' :: r, q, s, z, h => by
    have h : (match (bif XK.beq e.1 q then e.2.un fb ft s else none) with | some z => some (.inl z) | none => (outOf fb ft (e' :: r) q s).map .inr) = some z := h
    split at h
    · rename_i y hy
      injection h with h
      subst h
      cases hb : XK.beq e.1 q with
      | false => rw [hb] at hy; cases hy
      | true =>
        rw [hb, cond_true] at hy
        obtain ⟨u, hu, rfl⟩ := Option.map_eq_some_iff.1 hy
        exact ⟨_, ⟨(XK.beq_eq hb).symm, rfl⟩, unp_ok hu hC hC'⟩
    · obtain ⟨y, hy, rfl⟩ := Option.map_eq_some_iff.1 h
      obtain ⟨s', h1, h2⟩ := outOf_ok hC hC' (E := e' :: r) hy
      exact ⟨s', h1, h2⟩
/-- A function's contract: what it is handed, how it ends, what it comes to. -/
structure Con where
  f : FuncId
  I : Shp
  E : Exits
  fn : I.den → Option (outT E)
def conPost (E : Exits) (o : outT E) (out : AOut) (m' : Mem) : Prop := ∃ q s, Out E o q s ∧ m' = s.m.av ∧ ((q = .ret ∧ out = .ret s.pv.av) ∨ (q = .panic ∧ out = .pan s.pv.av))
def conArgs (I : Shp) (z : I.den) : List SV := (I.all.mk z).take (lenL I.slots)
def ConOk (P : Program) (c : Con) : Prop := enterable P c.f = true ∧ ∀ (z : c.I.den) (o : outT c.E), c.fn z = some o → ACalls P c.f (SV.avL (conArgs c.I z)) (c.I.mk' z).m.av (conPost c.E o)
end Go.Av
set_option linter.unusedVariables false
set_option linter.unusedSectionVars false
set_option linter.unusedSimpArgs false
namespace Go.Av
open Go.RowKit
variable [Tab]
def encC (xs : List SV) (m : SMem) (ks ts : List Nat) : List SV := xs ++ (.any :: (ks.map (fun k => ofBlk (nth m.blks k)) ++ ts.map (fun t => ofLive (nth m.lives t))))
def allLt (n : Nat) : List Nat → Bool
  | [] => true
  | k :: r => bif Nat.blt k n then allLt n r else false
theorem allLt_ok {n : Nat} : ∀ {l : List Nat}, allLt n l = true → ∀ k ∈ l, k < n
  | [], _, k, hk => by cases hk
  | x :: r, h, k, hk => by
    rw [allLt] at h
    cases hb : Nat.blt x n with
    | false => rw [hb] at h; cases h
    | true =>
      rw [hb] at h
      have hb : x < n := Nat.le_of_ble_eq_true hb
      rcases List.mem_cons.1 hk with rfl | hk
      · exact hb
      · exact allLt_ok h k hk
structure CallU (I : Shp) where
  st : SSt
  ks : List Nat
  ts : List Nat
  z : I.den
/-- What a call is handed: the arguments, what they lead to. -/
def callUn (I : Shp) (f : FuncId) (fo : Operand) (args : List Operand) (s : SSt) : Option (CallU I) :=
  match evS s.fr fo with
  | .fn _ first caps =>
    let xs := first ++ args.map (evS s.fr) ++ caps
    let off := lenL I.slots + 1
    let s0 : SSt := ⟨[], s.m, [], .any⟩
    let a := colB s0 I.all off 0 I.nb 0 (col I.all (encC xs s.m [] []) ([], []))
    match ksOf 0 a I.nb 0, tsOf I.all (off + I.nb) 0 a I.nt 0 (lenL s.m.lives) with
    | some ks, some (ts, ad) =>
      let s1 := freezeAll (fzs I.all (encC xs s.m ks ts)) s
      let s2 : SSt := ⟨s1.fr, ⟨s1.m.blks, s1.m.lives ++ ad.map some⟩, s1.dfs, s1.pv⟩
      match evS s2.fr fo with
      | .fn f2 first2 caps2 =>
        let xs2 := first2 ++ args.map (evS s2.fr) ++ caps2
        bif Nat.beq f2 f && Nat.beq I.nd 0 && Nat.beq (lenL xs2) (lenL I.slots) && nodupN ks && nodupN ts && allLt (lenL s2.m.blks) ks && allLt (lenL s2.m.lives) ts && Nat.beq (lenL s1.m.lives) (lenL s.m.lives) && allNil ad then
          (I.all.un ks ts (upto (lenL s.m.lives) (lenL ad)) (encC xs2 s2.m ks ts)).map fun z => ⟨s2, ks, ts, z⟩
        else none
      | _ => none
    | _, _ => none
  | _ => none
structure CallOk (I : Shp) (f : FuncId) (fo : Operand) (args : List Operand) (s : SSt) (u : CallU I) (s1 : SSt) (ad : List SLive) (first caps : List SV) : Prop where
  fz : ∃ l, s1 = freezeAll l s
  st : u.st = ⟨s1.fr, ⟨s1.m.blks, s1.m.lives ++ ad.map some⟩, s1.dfs, s1.pv⟩
  fo : evS u.st.fr fo = .fn f first caps
  nd : I.nd = 0
  xl : (first ++ args.map (evS u.st.fr) ++ caps).length = lenL I.slots
  nil : allNil ad = true
  kn : nodupN u.ks = true
  tn : nodupN u.ts = true
  kb : ∀ k ∈ u.ks, k < u.st.m.blks.length
  tb : ∀ t ∈ u.ts, t < u.st.m.lives.length
  kl : u.ks.length = I.nb
  tl : u.ts.length = I.nt
  ll : s1.m.lives.length = s.m.lives.length
  un : I.all.un u.ks u.ts (upto s1.m.lives.length ad.length) (encC (first ++ args.map (evS u.st.fr) ++ caps) u.st.m u.ks u.ts) = some u.z
theorem call_spec {I : Shp} {f : FuncId} {fo : Operand} {args : List Operand} {s : SSt} {u : CallU I} (h : callUn I f fo args s = some u) : ∃ s1 ad first caps, CallOk I f fo args s u s1 ad first caps := by
  unfold callUn at h
  split at h
  · rename_i f0 first0 caps0 hf0
    simp only at h
    split at h
    · rename_i ks ts ad h1 h2
      generalize hs1 : freezeAll (fzs I.all (encC (first0 ++ args.map (evS s.fr) ++ caps0) s.m ks ts)) s = s1 at h
      split at h
      · rename_i f2 first2 caps2 hf2
        generalize hc : (Nat.beq f2 f && Nat.beq I.nd 0 && Nat.beq (lenL (first2 ++ args.map (evS s1.fr) ++ caps2)) (lenL I.slots) && nodupN ks && nodupN ts && allLt (lenL s1.m.blks) ks && allLt (lenL (s1.m.lives ++ ad.map some)) ts && Nat.beq (lenL s1.m.lives) (lenL s.m.lives) && allNil ad) = c at h
        cases c with
        | false => cases h
        | true =>
          rw [cond_true] at h
          obtain ⟨z, h3, h4⟩ := Option.map_eq_some_iff.1 h
          subst h4
          simp only [Bool.and_eq_true] at hc
          obtain ⟨⟨⟨⟨⟨⟨⟨⟨c1, c2⟩, c3⟩, c4⟩, c5⟩, c6⟩, c7⟩, c8⟩, c9⟩ := hc
          have c1 := Nat.eq_of_beq_eq_true c1
          subst c1
          have c8 := Nat.eq_of_beq_eq_true c8
          have c3 := Nat.eq_of_beq_eq_true c3
          rw [lenL_eq] at c3 c6 c7
          rw [lenL_eq, lenL_eq] at c8
          refine ⟨s1, ad, first2, caps2, ⟨_, hs1.symm⟩, rfl, hf2, Nat.eq_of_beq_eq_true c2, c3, c9, c4, c5, allLt_ok c6, allLt_ok c7, ksOf_len h1, tsOf_len h2, c8, ?_⟩
          rw [lenL_eq, lenL_eq] at h3
          rw [c8]
          exact h3
      · cases h
    · cases h
  · cases h
/-- A call, by the first contract that fits. -/
def tryCons {R : Type} (f : FuncId) (fo : Operand) (args : List Operand) (d : Nat) (s : SSt) (k kp : SSt → Option R) : List Con → Option R
  | [] => none
  | c :: r => bif Nat.beq c.f f then
      (match callUn c.I f fo args s with
      | some u => (c.fn u.z).bind fun o => resume c.E o fun q ss =>
          bif Nat.ble (lenL u.ks) (lenL ss.m.blks) && Nat.ble (lenL u.ts) (lenL ss.m.lives) then
            (match q with
            | .ret => k ⟨(d, rnV u.ks u.ts (lenL u.st.m.blks) (lenL u.st.m.lives) ss.pv) :: u.st.fr, afterM u.st.m ss.m u.ks u.ts, u.st.dfs, u.st.pv⟩
            | .panic => kp ⟨u.st.fr, afterM u.st.m ss.m u.ks u.ts, u.st.dfs, rnV u.ks u.ts (lenL u.st.m.blks) (lenL u.st.m.lives) ss.pv⟩
            | _ => none)
          else none
      | none => tryCons f fo args d s k kp r)
    else tryCons f fo args d s k kp r
section
variable {P : Program} {G : Env} {C0 : Cfg} {ops : Array Oper} {Q : AEx → St → Prop} {rest : List Oper} {o : Oper} {n : Nat}
theorem call_ok {R : Type} {f : FuncId} {fo : Operand} {args : List Operand} {tys : Array TypeId} {d : Nat} {s : SSt} {k kp : SSt → Option R} {r : R} {cons : List Con} (hcons : ∀ c ∈ cons, ConOk P c) (h : tryCons f fo args d s k kp cons = some r)
    (hw : Wants ops o (s.av n) true) (hd : o.dst = some d) (hlt : d < n) (ho : o.op = .call { callee := .value fo, args := args.toArray, argTypes := tys })
    (hk : ∀ s', k s' = some r → ALst P G C0 ops Q rest (s'.av n)) (hkp : ∀ s', kp s' = some r → Q (.panic s'.pv.av) (s'.av n)) : ALst P G C0 ops Q (o :: rest) (s.av n) := by
  induction cons with
  | nil => cases h
  | cons c cs ih =>
    rw [tryCons] at h
    have ih' := fun h => ih (fun c hc => hcons c (List.mem_cons_of_mem _ hc)) h
    cases hb : Nat.beq c.f f with
    | false => rw [hb] at h; exact ih' h
    | true =>
      rw [hb, cond_true] at h
      split at h
      · rename_i u hu
        have hbf := Nat.eq_of_beq_eq_true hb
        obtain ⟨hent, hcon⟩ := hcons c List.mem_cons_self
        obtain ⟨out, hfn, hres⟩ := Option.bind_eq_some_iff.1 h
        obtain ⟨s1, ad, first, caps, q⟩ := call_spec hu
        have hcalls := hcon u.z out hfn
        rw [hbf] at hent hcalls
        intro C a w hg
        have hwant := hw G C0 C a w hg
        obtain ⟨l, hl⟩ := q.fz
        obtain ⟨C1, hg1, _⟩ := to_freezeAll (G := G) (C0 := C0) n l s C a w hg
        rw [← hl] at hg1
        obtain ⟨C2, hg2, _, hAd⟩ := to_adoptS q.nil hg1
        rw [← q.st] at hg2
        have hats := un_ats _ _ _ q.un
        -- the arguments
        have hfo : ev (avF u.st.fr) fo = .fn f (SV.avL first) (SV.avL caps) := by rw [ev_avF, q.fo]; rfl
        have hxs : args.map (ev (avF u.st.fr)) = SV.avL (args.map (evS u.st.fr)) := by
          rw [SV.avL_map, List.map_map]
          exact List.map_congr_left fun x _ => ev_avF u.st.fr x
        obtain ⟨vs, hex, hvs⟩ := call_exec (P := P) (w := w) (s := u.st.av n) ho hent hfo hxs hg2.ev
        have hargs : Reps (C2.pick u.ks u.ts) (SV.avL (conArgs c.I u.z)) vs := by
          have h1 := hats.take (lenL c.I.slots)
          unfold encC at h1
          rw [take_app q.xl] at h1
          refine (h1.rn hAd).reps ?_
          rw [SV.avL_append, SV.avL_append]; exact hvs
        -- memory
        have hbefore : BeforeC C2 w u.st.m.av (c.I.mk' u.z).m.av u.ks u.ts := by
          have e1 : UnAts u.ks u.ts (upto s1.m.lives.length ad.length) (u.ks.map fun k => ofBlk (nth u.st.m.blks k)) (((c.I.all.mk u.z).drop (lenL c.I.slots + c.I.nd + 1)).take c.I.nb) := by
            have h1 := hats.drop (lenL c.I.slots + 1)
            have : (encC (first ++ args.map (evS u.st.fr) ++ caps) u.st.m u.ks u.ts).drop (lenL c.I.slots + 1) = u.ks.map (fun k => ofBlk (nth u.st.m.blks k)) ++ u.ts.map (fun t => ofLive (nth u.st.m.lives t)) := by
              unfold encC
              rw [← List.drop_drop, drop_app q.xl]; rfl
            rw [this] at h1
            have h2 := h1.take c.I.nb
            rw [take_app (by simpa using q.kl)] at h2
            rw [q.nd]; exact h2
          have e2 : UnAts u.ks u.ts (upto s1.m.lives.length ad.length) (u.ts.map fun t => ofLive (nth u.st.m.lives t)) (((c.I.all.mk u.z).drop (lenL c.I.slots + c.I.nd + 1 + c.I.nb)).take c.I.nt) := by
            have h1 := hats.drop (lenL c.I.slots + 1)
            have : (encC (first ++ args.map (evS u.st.fr) ++ caps) u.st.m u.ks u.ts).drop (lenL c.I.slots + 1) = u.ks.map (fun k => ofBlk (nth u.st.m.blks k)) ++ u.ts.map (fun t => ofLive (nth u.st.m.lives t)) := by
              unfold encC
              rw [← List.drop_drop, drop_app q.xl]; rfl
            rw [this] at h1
            have h2 := h1.drop c.I.nb
            rw [drop_app (by simpa using q.kl), List.drop_drop] at h2
            have h3 := h2.take c.I.nt
            rw [List.take_of_length_le (by simp [q.tl])] at h3
            rw [q.nd]; exact h3
          have lb : (((c.I.all.mk u.z).drop (lenL c.I.slots + c.I.nd + 1)).take c.I.nb).length = c.I.nb := by rw [← e1.len, List.length_map, q.kl]
          have lt : (((c.I.all.mk u.z).drop (lenL c.I.slots + c.I.nd + 1 + c.I.nb)).take c.I.nt).length = c.I.nt := by rw [← e2.len, List.length_map, q.tl]
          refine ⟨?_, ?_, nodupN_B q.kn, nodupN_B q.tn, fun i B0 hi => ?_, fun i L0 hi => ?_, fun kk hk' => ?_, fun t ht' => ?_⟩
          · show (avB _).length = _
            rw [avB_len]; show (List.map _ _).length = _; rw [List.length_map, lb, q.kl]
          · show (avLv _).length = _
            rw [avLv_len]; show (List.map _ _).length = _; rw [List.length_map, lt, q.tl]
          · have hi : (avB (c.I.mk' u.z).m.blks)[i]? = some (some B0) := hi
            rw [avB_get] at hi
            obtain ⟨ob, ho', hb'⟩ := Option.map_eq_some_iff.1 hi
            obtain ⟨B1, hB1, rfl⟩ := Option.map_eq_some_iff.1 hb'
            subst hB1
            have ho' : (((((c.I.all.mk u.z).drop (lenL c.I.slots + c.I.nd + 1)).take c.I.nb).map toBlk)[i]?) = some (some B1) := ho'
            rw [List.getElem?_map] at ho'
            obtain ⟨y, hy, hyb⟩ := Option.map_eq_some_iff.1 ho'
            obtain ⟨x, hx, hxy⟩ := e1.get hy
            rw [List.getElem?_map] at hx
            obtain ⟨kk, hkk, rfl⟩ := Option.map_eq_some_iff.1 hx
            obtain ⟨B, hB, htr⟩ := blk_ok hAd hxy hyb
            rw [nth_eq] at hB
            exact ⟨kk, B.av, hkk, avB_at hB, fun g hg => htr w g hg⟩
          · have hi : (avLv (c.I.mk' u.z).m.lives)[i]? = some (some L0) := hi
            rw [avLv_get] at hi
            obtain ⟨ob, ho', hb'⟩ := Option.map_eq_some_iff.1 hi
            obtain ⟨B1, hB1, rfl⟩ := Option.map_eq_some_iff.1 hb'
            subst hB1
            have ho' : (((((c.I.all.mk u.z).drop (lenL c.I.slots + c.I.nd + 1 + c.I.nb)).take c.I.nt).map toLive)[i]?) = some (some B1) := ho'
            rw [List.getElem?_map] at ho'
            obtain ⟨y, hy, hyb⟩ := Option.map_eq_some_iff.1 ho'
            obtain ⟨x, hx, hxy⟩ := e2.get hy
            rw [List.getElem?_map] at hx
            obtain ⟨kk, hkk, rfl⟩ := Option.map_eq_some_iff.1 hx
            have hB := live_ok hxy hyb
            rw [nth_eq] at hB
            refine ⟨kk, B1.av, hkk, avLv_at hB, rfl, ?_⟩
            cases B1 with
            | pl e sz => trivial
            | own e t l => exact closed_map fun a => closed_avs t a
          · show kk < (avB _).length
            rw [avB_len]; exact q.kb _ hk'
          · show t < (avLv _).length
            rw [avLv_len]; exact q.tb _ ht'
        refine wpList_step fun K hK => ?_
        rw [if_pos hwant]
        unfold Oper.wp
        rw [hex, Oper.upon_enter]
        -- how it ends
        let Q2 : AOut → Mem → Prop := fun out' m' => (∃ s', k s' = some r ∧ ∃ v, out' = .ret v ∧ m' = s'.m.av ∧ s' = ⟨(d, (s'.fr.headD (0, .any)).2) :: u.st.fr, s'.m, u.st.dfs, u.st.pv⟩ ∧ v = (s'.fr.headD (0, .any)).2.av) ∨ (∃ s', kp s' = some r ∧ out' = .pan s'.pv.av ∧ m' = s'.m.av ∧ s'.fr = u.st.fr ∧ s'.dfs = u.st.dfs)
        have hfr := frame2 (Q := Q2) (G := G) hg2.mem hbefore hargs hcalls (fun o0 m0' hpost => by
          obtain ⟨qq, ss, hout, rfl, hq⟩ := hpost
          have hrs := resume_out hres qq ss hout
          cases hc : (Nat.ble (lenL u.ks) (lenL ss.m.blks) && Nat.ble (lenL u.ts) (lenL ss.m.lives)) with
          | false => rw [hc] at hrs; cases hrs
          | true =>
            rw [hc, cond_true] at hrs
            simp only [Bool.and_eq_true] at hc
            have c1 := Nat.le_of_ble_eq_true hc.1
            have c2 := Nat.le_of_ble_eq_true hc.2
            rw [lenL_eq, lenL_eq] at c1 c2
            have hA := afterM_ok (m := u.st.m) (m0 := ss.m) (mc := (c.I.mk' u.z).m.av) (nodupN_B q.kn) (nodupN_B q.tn) c1 c2 q.kb q.tb
            have e1 : (u.st.m.av).blks.length = lenL u.st.m.blks := by rw [lenL_eq]; exact avB_len _
            have e2 : (u.st.m.av).lives.length = lenL u.st.m.lives := by rw [lenL_eq]; exact avLv_len _
            rcases hq with ⟨rfl, rfl⟩ | ⟨rfl, rfl⟩
            · refine ⟨_, _, .inl ⟨_, hrs, _, rfl, rfl, rfl, rfl⟩, ?_, hA⟩
              refine .ret _ _ ?_
              have := rnV_ok (bs := u.ks) (ts := u.ts) (nb := lenL u.st.m.blks) (nt := lenL u.st.m.lives) ss.pv
              rwa [← e1, ← e2] at this ⊢
            · refine ⟨_, _, .inr ⟨_, hrs, rfl, rfl, rfl, rfl⟩, ?_, hA⟩
              refine .pan _ _ ?_
              have := rnV_ok (bs := u.ks) (ts := u.ts) (nb := lenL u.st.m.blks) (nt := lenL u.st.m.lives) ss.pv
              rwa [← e1, ← e2] at this ⊢)
        refine hfr.mono ?_
        rintro e w' ⟨out', m', C', hR, hrep, hle, hm'⟩
        rcases hR with ⟨s', hs', v, rfl, rfl, hse, rfl⟩ | ⟨s', hs', rfl, rfl, hfr', hdf'⟩
        · cases hrep with
          | ret x v hx =>
            refine hK _ _ (hk s' hs' C' _ _ ?_)
            rw [hd]
            have := hg2.put (d := d) hlt hle hm' hx
            rw [hse]
            exact this
        · cases hrep with
          | pan x v hx old ho =>
            refine ⟨_, _, C', hkp s' hs', .panic _ _ hx old ho, ?_⟩
            have := hg2.keep hle hm'
            show Gam G C0 C' ⟨n, avF s'.fr, s'.m.av, SV.avL s'.dfs⟩ a w'
            rw [hfr', hdf']
            exact this
      · exact ih' h
end
end Go.Av
