/- Joined texts: Ga. -/
import Derived.Below
import Derived.Deep.LoopGhost
import Derived.OwnWalk
import Derived.Maps.AppendAt
import Derived.WalkKit
import Derived.WalkLawsBesides
import Derived.Laws.Cells
import Derived.Laws.IdiomCopy
import Derived.Laws.Append
import Derived.Laws.Slices
import Derived.Orders
import Derived.Laws.StructEq
set_option linter.unusedVariables false
set_option linter.unusedSectionVars false
namespace Go.Av
open Go.RowKit
/-- Abstract values. Ids (of blocks, of stamps) are places in the lists of a Cfg. -/
inductive AV where
  | int (k : IntKind) (x : Int)
  | bool (b : Bool)
  | str (s : List UInt8)
  | agg (cs : List AV)
  | tup (vs : List AV)
  | sl (st : Option Nat) (sz : Nat) (els : List (List AV))
  | zs (isnil : Bool)
  | rf (k off len cap : Nat)
  | ptr (k off : Nat)
  | pp (cs : List AV)
  | nilp
  | fn (f : FuncId) (first caps : List AV)
  | nilf
  | ifc (t : TypeId) (v : AV)
  | nili
  | mp (k : Nat)
  | nilm
  | rs (t : Nat)
  | rp (t sz j fo : Nat)
  | und
  | any
  deriving Inhabited
/-- What the program's own tables show in every pool: a seat's own word. -/
class Tab where
  ok : (Nat → Nat → Option Value) → Prop
  mono : ∀ p q : Nat → Nat → Option Value, (∀ b o v, p b o = some v → q b o = some v) → ok p → ok q
  okF : (Nat → Option Obj) → Prop
variable [Tab]
/-- Where what is told lies: cells that never change; the blocks of the ids; the values of the stamps. -/
structure Cfg where
  pool : Nat → Nat → Option Value
  ρ : List Nat
  τ : List Value
  has : Tab.ok pool
structure Cfg.Le (C D : Cfg) : Prop where
  pool : ∀ b o v, C.pool b o = some v → D.pool b o = some v
  ρ : ∀ (k g : Nat), C.ρ[k]? = some g → D.ρ[k]? = some g
  τ : ∀ (k : Nat) (g : Value), C.τ[k]? = some g → D.τ[k]? = some g
theorem Cfg.Le.refl (C : Cfg) : C.Le C := ⟨fun _ _ _ h => h, fun _ _ h => h, fun _ _ h => h⟩
theorem Cfg.Le.trans {C D E : Cfg} (h : C.Le D) (k : D.Le E) : C.Le E :=
  ⟨fun _ _ _ x => k.pool _ _ _ (h.pool _ _ _ x), fun _ _ x => k.ρ _ _ (h.ρ _ _ x), fun _ _ x => k.τ _ _ (h.τ _ _ x)⟩
inductive Rep (C : Cfg) : AV → Value → Prop
  | int (k : IntKind) (x : Int) : Rep C (.int k x) (.int k x)
  | bool (b : Bool) : Rep C (.bool b) (.bool b)
  | str (s : List UInt8) : Rep C (.str s) (.string ⟨s.toArray⟩)
  | agg (cs : List AV) (vs : List Value) (hl : cs.length = vs.length) (h : ∀ (j : Nat) (x : AV) (v : Value), cs[j]? = some x → vs[j]? = some v → Rep C x v) : Rep C (.agg cs) (.agg vs.toArray)
  | tup (cs : List AV) (vs : List Value) (hl : cs.length = vs.length) (h : ∀ (j : Nat) (x : AV) (v : Value), cs[j]? = some x → vs[j]? = some v → Rep C x v) : Rep C (.tup cs) (.tuple vs.toArray)
  | sl (st : Option Nat) (sz : Nat) (els : List (List AV)) (A : Option Addr) (n c b off : Nat) (vals : Nat → Nat → Value)
      (hl : els.length = n) (hc : n ≤ c) (hm : c ≤ 9223372036854775807) (hN : A = none → c = 0) (hst : ∀ t, st = some t → C.τ[t]? = some (.slice A n c)) (hA : 0 < n → A = some ⟨b, off, none⟩)
      (hz : ∀ (i : Nat) (cs : List AV), els[i]? = some cs → cs.length = sz)
      (hp : ∀ (i : Nat) (cs : List AV) (j : Nat) (x : AV), els[i]? = some cs → cs[j]? = some x → C.pool b (off + (i * sz + j)) = some (vals i j))
      (h : ∀ (i : Nat) (cs : List AV) (j : Nat) (x : AV), els[i]? = some cs → cs[j]? = some x → Rep C x (vals i j)) : Rep C (.sl st sz els) (.slice A n c)
  | zs (isnil : Bool) (A : Option Addr) (h : isnil = true → A = none) : Rep C (.zs isnil) (.slice A 0 0)
  | rf (k off len cap g : Nat) (hk : C.ρ[k]? = some g) (hc : len ≤ cap) : Rep C (.rf k off len cap) (.slice (some ⟨g, off, none⟩) len cap)
  | ptr (k off g : Nat) (hk : C.ρ[k]? = some g) : Rep C (.ptr k off) (.pointer (some ⟨g, off, none⟩))
  | pp (cs : List AV) (b off : Nat) (vals : Nat → Value) (hp : ∀ (j : Nat) (x : AV), cs[j]? = some x → C.pool b (off + j) = some (vals j)) (h : ∀ (j : Nat) (x : AV), cs[j]? = some x → Rep C x (vals j)) : Rep C (.pp cs) (.pointer (some ⟨b, off, none⟩))
  | nilp : Rep C .nilp (.pointer none)
  | fn (f : FuncId) (first caps : List AV) (vs us : List Value) (hl : first.length = vs.length) (hl' : caps.length = us.length)
      (h : ∀ (j : Nat) (x : AV) (v : Value), first[j]? = some x → vs[j]? = some v → Rep C x v) (h' : ∀ (j : Nat) (x : AV) (v : Value), caps[j]? = some x → us[j]? = some v → Rep C x v) : Rep C (.fn f first caps) (.func (.func f) vs.toArray us.toArray)
  | nilf : Rep C .nilf .nilFunc
  | ifc (t : TypeId) (x : AV) (v : Value) (h : Rep C x v) : Rep C (.ifc t x) (.iface t v)
  | nili : Rep C .nili .nilIface
  | mp (k g : Nat) (hk : C.ρ[k]? = some g) : Rep C (.mp k) (.map (some g))
  | nilm : Rep C .nilm (.map none)
  | rs (t : Nat) (A : Option Addr) (n c : Nat) (h : C.τ[t]? = some (.slice A n c)) : Rep C (.rs t) (.slice A n c)
  | rp (t sz j fo g n c : Nat) (h : C.τ[t]? = some (.slice (some ⟨g, 0, none⟩) n c)) (hj : j < n) : Rep C (.rp t sz j fo) (.pointer (some ⟨g, j * sz + fo, none⟩))
  | und : Rep C .und undef
  | any (v : Value) : Rep C .any v
theorem Rep.mono {C D : Cfg} (hCD : C.Le D) {x : AV} {v : Value} (h : Rep C x v) : Rep D x v := by
  induction h with
  | int => exact .int _ _
  | bool => exact .bool _
  | str => exact .str _
  | agg cs vs hl _ ih => exact .agg cs vs hl ih
  | tup cs vs hl _ ih => exact .tup cs vs hl ih
  | sl st sz els A n c b off vals hl hc hm hN hst hA hz hp _ ih => exact .sl st sz els A n c b off vals hl hc hm hN (fun t ht => hCD.τ _ _ (hst t ht)) hA hz (fun i cs j x h1 h2 => hCD.pool _ _ _ (hp i cs j x h1 h2)) ih
  | zs b A h => exact .zs b A h
  | rf k off len cap g hk hc => exact .rf k off len cap g (hCD.ρ _ _ hk) hc
  | ptr k off g hk => exact .ptr k off g (hCD.ρ _ _ hk)
  | pp cs b off vals hp _ ih => exact .pp cs b off vals (fun j x h1 => hCD.pool _ _ _ (hp j x h1)) ih
  | nilp => exact .nilp
  | fn f first caps vs us hl hl' _ _ ih ih' => exact .fn f first caps vs us hl hl' ih ih'
  | nilf => exact .nilf
  | ifc t x v _ ih => exact .ifc t x v ih
  | nili => exact .nili
  | mp k g hk => exact .mp k g (hCD.ρ _ _ hk)
  | nilm => exact .nilm
  | rs t A n c h => exact .rs t A n c (hCD.τ _ _ h)
  | rp t sz j fo g n c h hj => exact .rp t sz j fo g n c (hCD.τ _ _ h) hj
  | und => exact .und
  | any v => exact .any v
/-- A list of values. -/
def Reps (C : Cfg) (xs : List AV) (vs : List Value) : Prop := xs.length = vs.length ∧ ∀ (j : Nat) (x : AV) (v : Value), xs[j]? = some x → vs[j]? = some v → Rep C x v
theorem Reps.mono {C D : Cfg} (hCD : C.Le D) {xs : List AV} {vs : List Value} (h : Reps C xs vs) : Reps D xs vs := ⟨h.1, fun j x v a b => (h.2 j x v a b).mono hCD⟩
theorem Reps.nil (C : Cfg) : Reps C [] [] := ⟨rfl, fun j x v h => by simp at h⟩
theorem Reps.cons {C : Cfg} {x : AV} {v : Value} {xs : List AV} {vs : List Value} (h : Rep C x v) (hs : Reps C xs vs) : Reps C (x :: xs) (v :: vs) := by
  refine ⟨by simp [hs.1], fun j y u hy hu => ?_⟩
  cases j with
  | zero => simp at hy hu; subst hy; subst hu; exact h
  | succ j => exact hs.2 j y u (by simpa using hy) (by simpa using hu)
theorem Reps.head {C : Cfg} {x : AV} {xs : List AV} {vs : List Value} (h : Reps C (x :: xs) vs) : ∃ v us, vs = v :: us ∧ Rep C x v ∧ Reps C xs us := by
  match vs, h with
  | [], h => exact absurd h.1 (by simp)
  | v :: us, h => exact ⟨v, us, rfl, h.2 0 x v rfl rfl, by simpa using h.1, fun j y u hy hu => h.2 (j + 1) y u (by simpa using hy) (by simpa using hu)⟩
theorem Reps.none {C : Cfg} {vs : List Value} (h : Reps C [] vs) : vs = [] := List.eq_nil_of_length_eq_zero h.1.symm
theorem Reps.at {C : Cfg} {xs : List AV} {vs : List Value} (h : Reps C xs vs) {j : Nat} {x : AV} (hx : xs[j]? = some x) : ∃ v, vs[j]? = some v ∧ Rep C x v := by
  have hj : j < vs.length := by rw [← h.1]; exact (List.getElem?_eq_some_iff.1 hx).1
  exact ⟨vs[j], List.getElem?_eq_getElem hj, h.2 j x _ hx (List.getElem?_eq_getElem hj)⟩
theorem Reps.append {C : Cfg} {xs ys : List AV} {vs us : List Value} (h : Reps C xs vs) (k : Reps C ys us) : Reps C (xs ++ ys) (vs ++ us) := by
  refine ⟨by simp [h.1, k.1], fun j x v hx hv => ?_⟩
  by_cases hj : j < xs.length
  · rw [List.getElem?_append_left hj] at hx
    rw [List.getElem?_append_left (by rw [← h.1]; exact hj)] at hv
    exact h.2 j x v hx hv
  · rw [List.getElem?_append_right (by omega)] at hx
    rw [List.getElem?_append_right (by rw [← h.1]; omega), ← h.1] at hv
    exact k.2 _ x v hx hv
inductive ABlk where
  | cells (ty : TypeId) (cs : List AV)
  | iter (s : List UInt8) (pos : Nat)
  | smap (es : List (List UInt8 × AV))
/-- What is known of a stamp: its row's spare cells are nobody's (its cells are the pool's); or all of the row is its own. -/
inductive Live where
  | pl (e : TypeId) (sz : Nat)
  | own (e : TypeId) (sz : Nat) (els : List (List AV))
structure Mem where
  blks : List (Option ABlk) := []
  lives : List (Option Live) := []
structure Env where
  w0 : World
  prot : Nat → Prop
  pool0 : Nat → Nat → Option Value
  fix : Nat → Option Obj
  has : Tab.okF fix
def BlkOk (C : Cfg) (w : World) (g : Nat) : ABlk → Prop
  | .cells ty cs => ∃ vs, w.heap[g]? = some (.cells vs.toArray ty (0, 0)) ∧ Reps C cs vs ∧ ∀ u ∈ vs, u.oneCell' = true
  | .iter s pos => w.heap[g]? = some (.stringIter ⟨s.toArray⟩ pos)
  | .smap es => ∃ (ms : List MapEntry) (clock : Nat), w.heap[g]? = some (.map ms.toArray clock) ∧ ms.map (·.key) = es.map (fun p => .string ⟨p.1.toArray⟩) ∧ Reps C (es.map (·.2)) (ms.map (·.val))
/-- A slice that may be appended to: nil, or at the head of a row whose spare cells are nobody's. -/
def StpOk (G : Env) (C : Cfg) (w : World) : Live → Value → Prop
  | .pl e sz, v => v = .slice none 0 0 ∨ ∃ g n c cur, v = .slice (some ⟨g, 0, none⟩) n c ∧ w.heap[g]? = some (.cells cur e (0, 0)) ∧ n ≤ c ∧ c ≤ maxLen ∧ cur.size = c * sz ∧ ¬ G.prot g ∧ ∀ o, n * sz ≤ o → C.pool g o = none
  | .own e sz els, v => (∀ (i : Nat) (cs : List AV), els[i]? = some cs → cs.length = sz) ∧ ((v = .slice none 0 0 ∧ els = []) ∨ ∃ g c cur ys, v = .slice (some ⟨g, 0, none⟩) els.length c ∧ w.heap[g]? = some (.cells cur e (0, 0)) ∧ els.length ≤ c ∧ c ≤ maxLen ∧ cur.size = c * sz ∧ ¬ G.prot g ∧ (∀ o, C.pool g o = none) ∧ cur.toList.take (els.length * sz) = ys ∧ Reps C els.flatten ys ∧ ∀ u ∈ ys, u.oneCell' = true)
structure MemOk (G : Env) (C : Cfg) (m : Mem) (w : World) : Prop where
  os : w.os = G.w0.os
  tape : w.tape = G.w0.tape
  output : w.output = G.w0.output
  size : G.w0.heap.size ≤ w.heap.size
  kept : ∀ b, G.prot b → w.heap[b]? = G.w0.heap[b]?
  old : ∀ b, G.prot b → b < G.w0.heap.size
  pool : ∀ b o v, C.pool b o = some v → w.cell? ⟨b, o, none⟩ = some v ∧ v.oneCell' = true
  ρlen : C.ρ.length = m.blks.length
  τlen : C.τ.length = m.lives.length
  blk : ∀ (k : Nat) (B : ABlk) (g : Nat), m.blks[k]? = some (some B) → C.ρ[k]? = some g → ¬ G.prot g ∧ BlkOk C w g B ∧ ∀ o, C.pool g o = none
  dist : ∀ (k k' : Nat) (B B' : ABlk) (g : Nat), m.blks[k]? = some (some B) → m.blks[k']? = some (some B') → C.ρ[k]? = some g → C.ρ[k']? = some g → k = k'
  stp : ∀ (t : Nat) (L : Live) (v : Value), m.lives[t]? = some (some L) → C.τ[t]? = some v → StpOk G C w L v
  sdist : ∀ (t t' : Nat) (p p' : Live) (v v' : Value) (g : Nat), m.lives[t]? = some (some p) → m.lives[t']? = some (some p') → C.τ[t]? = some v → C.τ[t']? = some v' → v.ownBlock = some g → v'.ownBlock = some g → t = t'
  bdist : ∀ (t k : Nat) (p : Live) (B : ABlk) (v : Value) (g : Nat), m.lives[t]? = some (some p) → m.blks[k]? = some (some B) → C.τ[t]? = some v → C.ρ[k]? = some g → v.ownBlock ≠ some g
  ppool : ∀ b o v, G.prot b → C.pool b o = some v → G.pool0 b o = some v
  fixed : ∀ b o, G.fix b = some o → G.prot b ∧ G.w0.heap[b]? = some o
end Go.Av
set_option linter.unusedVariables false
set_option linter.unusedSectionVars false
namespace Go.Av
open Go.RowKit
variable [Tab]
def look : List (Nat × AV) → Nat → AV
  | [], _ => .any
  | (j, v) :: r, i => bif Nat.beq j i then v else look r i
theorem look_cons (j : Nat) (v : AV) (r : List (Nat × AV)) (i : Nat) : look ((j, v) :: r) i = bif Nat.beq j i then v else look r i := rfl
theorem look_hit (v : AV) (r : List (Nat × AV)) (i : Nat) : look ((i, v) :: r) i = v := by simp [look]
theorem look_miss {j i : Nat} (v : AV) (r : List (Nat × AV)) (h : Nat.beq j i = false) : look ((j, v) :: r) i = look r i := by simp [look, h]
structure St where
  n : Nat
  fr : List (Nat × AV)
  m : Mem
  dfs : List AV := []
inductive AEx where
  | normal
  | exit (id : Nat)
  | goto (l : Nat)
  | ret
  | panic (v : AV)
inductive RepEx (C : Cfg) : AEx → Exit → Prop
  | normal : RepEx C .normal .normal
  | exit (id : Nat) : RepEx C (.exit id) (.exit id)
  | goto (l : Nat) : RepEx C (.goto l) (.goto l)
  | ret : RepEx C .ret .ret
  | panic (x : AV) (v : Value) (h : Rep C x v) (old : List PanicEntry) (ho : ∀ p ∈ old, p.goexit = false) : RepEx C (.panic x) (.panic ({ v := v, recovered := false } :: old))
inductive DfOk (C : Cfg) : List AV → List Deferred → Prop
  | nil : DfOk C [] []
  | cons (f : FuncId) (first caps : List AV) (vs us : List Value) (h : Reps C first vs) (h' : Reps C caps us) (xs : List AV) (ds : List Deferred) (hd : DfOk C xs ds) :
      DfOk C (.fn f first caps :: xs) ({ target := .fn (.func f) us.toArray, args := vs.toArray } :: ds)
theorem DfOk.mono {C D : Cfg} (hCD : C.Le D) {xs : List AV} {ds : List Deferred} (h : DfOk C xs ds) : DfOk D xs ds := by
  induction h with
  | nil => exact .nil
  | cons f first caps vs us h h' xs ds _ ih => exact .cons f first caps vs us (h.mono hCD) (h'.mono hCD) xs ds ih
structure Gam (G : Env) (C0 C : Cfg) (s : St) (a : Act) (w : World) : Prop where
  le : C0.Le C
  mem : MemOk G C s.m w
  size : a.tmps.size = s.n
  fr : ∀ i, Rep C (look s.fr i) (a.tmps.getD i undef)
  dfs : DfOk C s.dfs a.defers
def Post (G : Env) (C0 : Cfg) (Q : AEx → St → Prop) (e : Exit) (a : Act) (w : World) : Prop := ∃ x s C, Q x s ∧ RepEx C x e ∧ Gam G C0 C s a w
theorem Post.mono {G : Env} {C0 : Cfg} {Q Q' : AEx → St → Prop} (hq : ∀ x s, Q x s → Q' x s) {e : Exit} {a : Act} {w : World} (h : Post G C0 Q e a w) : Post G C0 Q' e a w := by
  obtain ⟨x, s, C, h1, h2, h3⟩ := h
  exact ⟨x, s, C, hq _ _ h1, h2, h3⟩
def AWp (P : Program) (G : Env) (C0 : Cfg) (c : Code) (Q : AEx → St → Prop) (s : St) : Prop := ∀ C a w, Gam G C0 C s a w → c.wp P (Post G C0 Q) a w
def AThen (K : St → Prop) (Q : AEx → St → Prop) : AEx → St → Prop
  | .normal, s => K s
  | x, s => Q x s
def ABlock (id : Nat) (Q : AEx → St → Prop) : AEx → St → Prop
  | .exit i, s => bif Nat.beq i id then Q .normal s else Q (.exit i) s
  | x, s => Q x s
/-- What an operand tells. -/
def ofV : Value → AV
  | .int k x => .int k x
  | .bool b => .bool b
  | .string s => .str s.data.toList
  | .pointer none => .nilp
  | .slice none 0 0 => .zs true
  | .map none => .nilm
  | .nilFunc => .nilf
  | .nilIface => .nili
  | _ => .any
theorem ofV_rep (C : Cfg) (v : Value) : Rep C (ofV v) v := by
  unfold ofV
  split <;> first | exact .int _ _ | exact .bool _ | exact .nilp | exact .zs _ _ (fun _ => rfl) | exact .nilm | exact .nilf | exact .nili | exact .any _ | skip
  rename_i s
  have h := Rep.str (C := C) s.data.toList
  have e : (⟨s.data.toList.toArray⟩ : ByteArray) = s := by cases s; simp
  rw [e] at h
  exact h
def ev (fr : List (Nat × AV)) : Operand → AV
  | .tmp t => look fr t
  | .const v => ofV v
  | .func f => .fn f [] []
  | .global _ => .any
theorem Gam.ev {G : Env} {C0 C : Cfg} {s : St} {a : Act} {w : World} (h : Gam G C0 C s a w) (x : Operand) : Rep C (ev s.fr x) (a.eval x) := by
  cases x with
  | tmp t => exact h.fr t
  | const v => exact ofV_rep C v
  | func f => exact .fn f [] [] [] [] rfl rfl (fun j x v h => by simp at h) (fun j x v h => by simp at h)
  | global g => exact .any _
theorem Rep.bool_inv {C : Cfg} {b : Bool} {v : Value} (h : Rep C (.bool b) v) : v = .bool b := by cases h; rfl
theorem Rep.int_inv {C : Cfg} {k : IntKind} {x : Int} {v : Value} (h : Rep C (.int k x) v) : v = .int k x := by cases h; rfl
theorem Rep.str_inv {C : Cfg} {s : List UInt8} {v : Value} (h : Rep C (.str s) v) : v = .string ⟨s.toArray⟩ := by cases h; rfl
theorem Rep.agg_inv {C : Cfg} {cs : List AV} {v : Value} (h : Rep C (.agg cs) v) : ∃ vs : List Value, v = .agg vs.toArray ∧ Reps C cs vs := by cases h; exact ⟨_, rfl, ‹_›, ‹_›⟩
theorem Rep.tup_inv {C : Cfg} {cs : List AV} {v : Value} (h : Rep C (.tup cs) v) : ∃ vs : List Value, v = .tuple vs.toArray ∧ Reps C cs vs := by cases h; exact ⟨_, rfl, ‹_›, ‹_›⟩
theorem Rep.ptr_inv {C : Cfg} {k off : Nat} {v : Value} (h : Rep C (.ptr k off) v) : ∃ g, C.ρ[k]? = some g ∧ v = .pointer (some ⟨g, off, none⟩) := by cases h; exact ⟨_, ‹_›, rfl⟩
theorem Rep.nilp_inv {C : Cfg} {v : Value} (h : Rep C .nilp v) : v = .pointer none := by cases h; rfl
theorem Rep.zs_inv {C : Cfg} {b : Bool} {v : Value} (h : Rep C (.zs b) v) : ∃ A, v = .slice A 0 0 ∧ (b = true → A = none) := by cases h; exact ⟨_, rfl, ‹_›⟩
section rules
variable {P : Program} {G : Env} {C0 : Cfg} {Q : AEx → St → Prop} {s : St}
theorem awp_mono {c : Code} {Q' : AEx → St → Prop} (h : AWp P G C0 c Q s) (hq : ∀ x s, Q x s → Q' x s) : AWp P G C0 c Q' s :=
  fun C a w hg => wp_mono (h C a w hg) fun _ _ _ => Post.mono hq
theorem awp_skip (h : Q .normal s) : AWp P G C0 .skip Q s := fun C a w hg => wp_skip ⟨_, _, C, h, .normal, hg⟩
theorem awp_label {l : Nat} (h : Q .normal s) : AWp P G C0 (.label l) Q s := fun C a w hg => wp_label ⟨_, _, C, h, .normal, hg⟩
theorem awp_exit {id : Nat} (h : Q (.exit id) s) : AWp P G C0 (.exit id) Q s := fun C a w hg => wp_exit ⟨_, _, C, h, .exit id, hg⟩
theorem awp_ret (h : Q .ret s) : AWp P G C0 .ret Q s := fun C a w hg => wp_ret ⟨_, _, C, h, .ret, hg⟩
theorem awp_seq {x y : Code} (h : AWp P G C0 x (AThen (fun s => AWp P G C0 y Q s) Q) s) : AWp P G C0 (.seq x y) Q s := by
  intro C a w hg
  refine wp_seq (wp_mono (h C a w hg) ?_)
  rintro e a' w' ⟨x', s', C', hq, hx, hg'⟩
  cases hx with
  | normal => exact hq C' a' w' hg'
  | exit id => exact ⟨_, _, C', hq, .exit id, hg'⟩
  | goto l => exact ⟨_, _, C', hq, .goto l, hg'⟩
  | ret => exact ⟨_, _, C', hq, .ret, hg'⟩
  | panic x v h old ho => exact ⟨_, _, C', hq, .panic x v h old ho, hg'⟩
theorem awp_block {id : Nat} {c : Code} (h : AWp P G C0 c (ABlock id Q) s) : AWp P G C0 (.block id c) Q s := by
  intro C a w hg
  refine wp_block (wp_mono (h C a w hg) ?_)
  rintro e a' w' ⟨x', s', C', hq, hx, hg'⟩
  cases hx with
  | normal => exact ⟨_, _, C', hq, .normal, hg'⟩
  | exit i =>
    simp only [ABlock] at hq
    simp only [Exit.inBlock]
    cases hb : Nat.beq i id with
    | true =>
      rw [hb] at hq
      rw [if_pos (Nat.eq_of_beq_eq_true hb)]; exact ⟨_, _, C', hq, .normal, hg'⟩
    | false =>
      rw [hb] at hq
      rw [if_neg (Nat.ne_of_beq_eq_false hb)]; exact ⟨_, _, C', hq, .exit i, hg'⟩
  | goto l => exact ⟨_, _, C', hq, .goto l, hg'⟩
  | ret => exact ⟨_, _, C', hq, .ret, hg'⟩
  | panic x v h old ho => exact ⟨_, _, C', hq, .panic x v h old ho, hg'⟩
theorem awp_cond {c : Operand} {x y : Code} {b : Bool} (hb : ev s.fr c = .bool b) (ht : b = true → AWp P G C0 x Q s) (hf : b = false → AWp P G C0 y Q s) : AWp P G C0 (.cond c x y) Q s := by
  intro C a w hg
  have h := hg.ev c
  rw [hb] at h
  have he : a.eval c = .bool b := h.bool_inv
  exact wp_cond_split he (fun h => ht h C a w hg) (fun h => hf h C a w hg)
theorem awp_loop {c : Code} (I : Nat → St → Prop) (n₀ : Nat) (h₀ : I n₀ s) (round : ∀ n s, I n s → AWp P G C0 c (AThen (fun s' => ∃ n', n' < n ∧ I n' s') Q) s) : AWp P G C0 (.loop c) Q s := by
  intro C a w hg
  refine wp_loop_ghost (fun n a w => ∃ s C, I n s ∧ Gam G C0 C s a w) n₀ ⟨s, C, h₀, hg⟩ ?_
  rintro n a w ⟨s, C, hI, hg⟩
  refine wp_mono (round n s hI C a w hg) ?_
  rintro e a' w' ⟨x', s', C', hq, hx, hg'⟩
  cases hx with
  | normal =>
    obtain ⟨n', hlt, hI'⟩ := hq
    exact ⟨n', hlt, s', C', hI', hg'⟩
  | exit id => exact ⟨_, _, C', hq, .exit id, hg'⟩
  | goto l => exact ⟨_, _, C', hq, .goto l, hg'⟩
  | ret => exact ⟨_, _, C', hq, .ret, hg'⟩
  | panic x v h old ho => exact ⟨_, _, C', hq, .panic x v h old ho, hg'⟩
end rules
inductive AOut where
  | ret (v : AV)
  | pan (v : AV)
inductive RepOut (C : Cfg) : AOut → Ending → Prop
  | ret (x : AV) (v : Value) (h : Rep C x v) : RepOut C (.ret x) (.returned v)
  | pan (x : AV) (v : Value) (h : Rep C x v) (old : List PanicEntry) (ho : ∀ p ∈ old, p.goexit = false) : RepOut C (.pan x) (.panicked ({ v := v, recovered := false } :: old))
/-- A function's contract: over any memory that is told by m. -/
def ACalls (P : Program) (f : FuncId) (args : List AV) (m : Mem) (R : AOut → Mem → Prop) : Prop :=
  ∀ (G : Env) (C : Cfg) (w : World) (vs : List Value), MemOk G C m w → Reps C args vs →
    Calls P f vs.toArray w fun e w' => ∃ o m' C', R o m' ∧ RepOut C' o e ∧ C.Le C' ∧ MemOk G C' m' w'
theorem ACalls.mono {P : Program} {f : FuncId} {args : List AV} {m : Mem} {R R' : AOut → Mem → Prop} (h : ACalls P f args m R) (hr : ∀ o m, R o m → R' o m) : ACalls P f args m R' :=
  fun G C w vs hm hv => (h G C w vs hm hv).mono fun e w' ⟨o, m', C', h1, h2⟩ => ⟨o, m', C', hr _ _ h1, h2⟩
def argFr (k : Nat) : List AV → List (Nat × AV)
  | [] => []
  | x :: xs => (k, x) :: argFr (k + 1) xs
theorem look_argFr : ∀ (xs : List AV) (k i : Nat), look (argFr k xs) i = if k ≤ i then (xs[i - k]?).getD .any else .any
  | [], k, i => by simp [argFr, look]
  | x :: xs, k, i => by
    simp only [argFr, look]
    cases hb : Nat.beq k i with
    | true =>
      have : k = i := Nat.eq_of_beq_eq_true hb
      subst this
      simp
    | false =>
      have hne : k ≠ i := Nat.ne_of_beq_eq_false hb
      rw [cond_false, look_argFr xs (k + 1) i]
      by_cases h : k ≤ i
      · rw [if_pos h, if_pos (by omega), show i - k = (i - (k + 1)) + 1 by omega, List.getElem?_cons_succ]
      · rw [if_neg h, if_neg (by omega)]
/-- What a function's results are, told off its frame. -/
def ARes (P : Program) (fn : Func) (s : St) (r : AV) : Prop :=
  ∀ (G : Env) (C0 C : Cfg) (a : Act) (w : World), Gam G C0 C s a w → ∃ u, (results fn a.tmps).run P w = .ok u w ∧ Rep C r u
end Go.Av
set_option linter.unusedVariables false
set_option linter.unusedSectionVars false
namespace Go.Av
open Go.RowKit
variable [Tab]
theorem BlkOk.move {C D : Cfg} (hCD : C.Le D) {w w' : World} {g : Nat} {B : ABlk} (h : BlkOk C w g B) (hw : w'.heap[g]? = w.heap[g]?) : BlkOk D w' g B := by
  cases B with
  | cells ty cs => obtain ⟨vs, h1, h2, h3⟩ := h; exact ⟨vs, hw.trans h1, h2.mono hCD, h3⟩
  | iter s p => exact hw.trans h
  | smap es => obtain ⟨ms, cl, h1, h2, h3⟩ := h; exact ⟨ms, cl, hw.trans h1, h2, h3.mono hCD⟩
theorem BlkOk.lt {C : Cfg} {w : World} {g : Nat} {B : ABlk} (h : BlkOk C w g B) : g < w.heap.size := by
  cases B with
  | cells ty cs => obtain ⟨vs, h1, _⟩ := h; exact (Array.getElem?_eq_some_iff.1 h1).1
  | iter s p => exact (Array.getElem?_eq_some_iff.1 h).1
  | smap es => obtain ⟨ms, cl, h1, _⟩ := h; exact (Array.getElem?_eq_some_iff.1 h1).1
theorem StpOk.lt {G : Env} {C : Cfg} {w : World} {L : Live} {v : Value} (h : StpOk G C w L v) {g : Nat} (hg : v.ownBlock = some g) : g < w.heap.size := by
  cases L with
  | pl e sz =>
    rcases h with rfl | ⟨g', n, c, cur, rfl, h1, _⟩
    · simp [Value.ownBlock] at hg
    · simp [Value.ownBlock] at hg; subst hg; exact (Array.getElem?_eq_some_iff.1 h1).1
  | own e sz els =>
    rcases h.2 with ⟨rfl, _⟩ | ⟨g', c, cur, ys, rfl, h1, _⟩
    · simp [Value.ownBlock] at hg
    · simp [Value.ownBlock] at hg; subst hg; exact (Array.getElem?_eq_some_iff.1 h1).1
theorem StpOk.notProt {G : Env} {C : Cfg} {w : World} {L : Live} {v : Value} (h : StpOk G C w L v) {g : Nat} (hg : v.ownBlock = some g) : ¬ G.prot g := by
  cases L with
  | pl e sz =>
    rcases h with rfl | ⟨g', n, c, cur, rfl, _, _, _, _, h1, _⟩
    · simp [Value.ownBlock] at hg
    · simp [Value.ownBlock] at hg; subst hg; exact h1
  | own e sz els =>
    rcases h.2 with ⟨rfl, _⟩ | ⟨g', c, cur, ys, rfl, _, _, _, _, h1, _⟩
    · simp [Value.ownBlock] at hg
    · simp [Value.ownBlock] at hg; subst hg; exact h1
theorem StpOk.move {G G' : Env} {C D : Cfg} {w w' : World} {L : Live} {v : Value} (h : StpOk G C w L v) (hp : ∀ g, v.ownBlock = some g → ¬ G.prot g → ¬ G'.prot g) (hle : C.Le D) (hw : ∀ g, v.ownBlock = some g → w'.heap[g]? = w.heap[g]? ∧ ∀ o, C.pool g o = none → D.pool g o = none) : StpOk G' D w' L v := by
  cases L with
  | pl e sz =>
    rcases h with rfl | ⟨g, n, c, cur, rfl, h1, h2, h3, h4, h5, h6⟩
    · exact .inl rfl
    · obtain ⟨a, b⟩ := hw g rfl
      exact .inr ⟨g, n, c, cur, rfl, a.trans h1, h2, h3, h4, hp g rfl h5, fun o ho => b o (h6 o ho)⟩
  | own e sz els =>
    refine ⟨h.1, ?_⟩
    rcases h.2 with ⟨rfl, h1⟩ | ⟨g, c, cur, ys, rfl, h1, h2, h3, h4, h5, h6, h7, h8, h9⟩
    · exact .inl ⟨rfl, h1⟩
    · obtain ⟨a, b⟩ := hw g rfl
      exact .inr ⟨g, c, cur, ys, rfl, a.trans h1, h2, h3, h4, hp g rfl h5, fun o => b o (h6 o), h7, h8.mono hle, h9⟩
theorem MemOk.poolLt {G : Env} {C : Cfg} {m : Mem} {w : World} (h : MemOk G C m w) {b o : Nat} {v : Value} (hp : C.pool b o = some v) : b < w.heap.size := World.block_lt_of_cell? w _ (h.pool b o v hp).1
/-- m' tells no more than m: what lives in m' lives in m, the same. -/
structure Mem.Fewer (m' m : Mem) : Prop where
  bl : m'.blks.length = m.blks.length
  ll : m'.lives.length = m.lives.length
  b : ∀ (k : Nat) (B : ABlk), m'.blks[k]? = some (some B) → m.blks[k]? = some (some B)
  l : ∀ (t : Nat) (p : Live), m'.lives[t]? = some (some p) → m.lives[t]? = some (some p)
theorem Mem.Fewer.refl (m : Mem) : m.Fewer m := ⟨rfl, rfl, fun _ _ h => h, fun _ _ h => h⟩
/-- A step that turns none but the blocks of X, and may tell more cells of X's blocks and of new ones. -/
theorem MemOk.turn {G : Env} {C C' : Cfg} {m m' : Mem} {w w' : World} (h : MemOk G C m w) (hf : m'.Fewer m) (hle : C.Le C') (hρ : C'.ρ = C.ρ) (hτ : C'.τ = C.τ)
    (os : w'.os = w.os) (tape : w'.tape = w.tape) (output : w'.output = w.output) (size : w.heap.size ≤ w'.heap.size) (X : Nat → Prop) (hX : ∀ b, X b → ¬ G.prot b)
    (keep : ∀ b, b < w.heap.size → ¬ X b → w'.heap[b]? = w.heap[b]?) (hpool : ∀ b o v, C'.pool b o = some v → w'.cell? ⟨b, o, none⟩ = some v ∧ v.oneCell' = true)
    (hnew : ∀ b o v, C'.pool b o = some v → C.pool b o = some v ∨ X b ∨ w.heap.size ≤ b)
    (hb : ∀ (k : Nat) (B : ABlk) (g : Nat), m'.blks[k]? = some (some B) → C.ρ[k]? = some g → ¬ X g)
    (hl : ∀ (t : Nat) (p : Live) (v : Value) (g : Nat), m'.lives[t]? = some (some p) → C.τ[t]? = some v → v.ownBlock = some g → ¬ X g) : MemOk G C' m' w' := by
  have hnone : ∀ g o, g < w.heap.size → ¬ X g → C.pool g o = none → C'.pool g o = none := by
    intro g o hg hx hn
    cases hc : C'.pool g o with
    | none => rfl
    | some v =>
      rcases hnew g o v hc with h1 | h1 | h1
      · rw [hn] at h1; cases h1
      · exact absurd h1 hx
      · omega
  refine ⟨os.trans h.os, tape.trans h.tape, output.trans h.output, Nat.le_trans h.size size, fun b hp => ?_, h.old, hpool, ?_, ?_, ?_, ?_, ?_, ?_, ?_, ?_, h.fixed⟩
  · exact (keep b (Nat.lt_of_lt_of_le (h.old b hp) h.size) (fun hx => hX b hx hp)).trans (h.kept b hp)
  · rw [hρ, hf.bl]; exact h.ρlen
  · rw [hτ, hf.ll]; exact h.τlen
  · intro k B g h1 h2
    rw [hρ] at h2
    obtain ⟨a1, a2, a3⟩ := h.blk k B g (hf.b k B h1) h2
    have hx := hb k B g h1 h2
    exact ⟨a1, a2.move hle (keep g a2.lt hx), fun o => hnone g o a2.lt hx (a3 o)⟩
  · intro k k' B B' g h1 h2 h3 h4
    rw [hρ] at h3 h4
    exact h.dist k k' B B' g (hf.b _ _ h1) (hf.b _ _ h2) h3 h4
  · intro t L v h1 h2
    rw [hτ] at h2
    have hs := h.stp t L v (hf.l _ _ h1) h2
    refine hs.move (fun _ _ x => x) hle fun g hg => ?_
    have hx := hl t _ v g h1 h2 hg
    exact ⟨keep g (hs.lt hg) hx, fun o => hnone g o (hs.lt hg) hx⟩
  · intro t t' p p' v v' g h1 h2 h3 h4
    rw [hτ] at h3 h4
    exact h.sdist t t' p p' v v' g (hf.l _ _ h1) (hf.l _ _ h2) h3 h4
  · intro t k p B v g h1 h2 h3 h4
    rw [hτ] at h3; rw [hρ] at h4
    exact h.bdist t k p B v g (hf.l _ _ h1) (hf.b _ _ h2) h3 h4
  · intro b o v hp hc
    rcases hnew b o v hc with h1 | h1 | h1
    · exact h.ppool b o v hp h1
    · exact absurd hp (hX b h1)
    · have := h.old b hp; have := h.size; omega
/-- The config with one more block id, with one more stamp. -/
def Cfg.addB (C : Cfg) (g : Nat) : Cfg := { C with ρ := C.ρ ++ [g] }
def Cfg.addS (C : Cfg) (v : Value) : Cfg := { C with τ := C.τ ++ [v] }
theorem Cfg.le_addB (C : Cfg) (g : Nat) : C.Le (C.addB g) := ⟨fun _ _ _ h => h, fun k x h => by
  show (C.ρ ++ [g])[k]? = some x
  rw [List.getElem?_append_left (List.getElem?_eq_some_iff.1 h).1]; exact h, fun _ _ h => h⟩
theorem Cfg.le_addS (C : Cfg) (v : Value) : C.Le (C.addS v) := ⟨fun _ _ _ h => h, fun _ _ h => h, fun k x h => by
  show (C.τ ++ [v])[k]? = some x
  rw [List.getElem?_append_left (List.getElem?_eq_some_iff.1 h).1]; exact h⟩
def Mem.addB (m : Mem) (B : ABlk) : Mem := { m with blks := m.blks ++ [some B] }
def Mem.addL (m : Mem) (L : Live) : Mem := { m with lives := m.lives ++ [some L] }
def Mem.addS (m : Mem) (e : TypeId) (sz : Nat) : Mem := m.addL (.pl e sz)
theorem getElem?_snoc {α : Type} {l : List α} {x y : α} {k : Nat} (h : (l ++ [x])[k]? = some y) : l[k]? = some y ∨ k = l.length ∧ y = x := by
  by_cases hk : k < l.length
  · rw [List.getElem?_append_left hk] at h; exact .inl h
  · have hl := (List.getElem?_eq_some_iff.1 h).1
    rw [List.length_append, List.length_singleton] at hl
    have : k = l.length := by omega
    subst this
    simp at h
    exact .inr ⟨rfl, h.symm⟩
theorem MemOk.addB {G : Env} {C : Cfg} {m : Mem} {w : World} (h : MemOk G C m w) {g : Nat} {B : ABlk} (h1 : ¬ G.prot g) (h2 : BlkOk C w g B) (h3 : ∀ o, C.pool g o = none)
    (hb : ∀ (k : Nat) (B : ABlk), m.blks[k]? = some (some B) → C.ρ[k]? ≠ some g) (hl : ∀ (t : Nat) (p : Live) (v : Value), m.lives[t]? = some (some p) → C.τ[t]? = some v → v.ownBlock ≠ some g) :
    MemOk G (C.addB g) (m.addB B) w := by
  have hle := C.le_addB g
  refine ⟨h.os, h.tape, h.output, h.size, h.kept, h.old, h.pool, ?_, h.τlen, ?_, ?_, ?_, h.sdist, ?_, h.ppool, h.fixed⟩
  · simp [Cfg.addB, Mem.addB, h.ρlen]
  · intro k B' g' hk hg
    rcases getElem?_snoc hk with hk | ⟨hk, he⟩
    · rcases getElem?_snoc hg with hg | ⟨hg, _⟩
      · obtain ⟨a1, a2, a3⟩ := h.blk k B' g' hk hg
        exact ⟨a1, a2.move hle rfl, a3⟩
      · have := (List.getElem?_eq_some_iff.1 hk).1; have := h.ρlen; omega
    · injection he with he
      subst he
      rcases getElem?_snoc hg with hg | ⟨_, rfl⟩
      · have := (List.getElem?_eq_some_iff.1 hg).1; have := h.ρlen; omega
      · exact ⟨h1, h2.move hle rfl, h3⟩
  · intro k k' B1 B2 g' k1 k2 g1 g2
    rcases getElem?_snoc k1 with q1 | ⟨q1, _⟩ <;> rcases getElem?_snoc k2 with q2 | ⟨q2, _⟩
    · rcases getElem?_snoc g1 with r1 | ⟨r1, _⟩
      · rcases getElem?_snoc g2 with r2 | ⟨r2, _⟩
        · exact h.dist k k' B1 B2 g' q1 q2 r1 r2
        · have := (List.getElem?_eq_some_iff.1 q2).1; have := h.ρlen; omega
      · have := (List.getElem?_eq_some_iff.1 q1).1; have := h.ρlen; omega
    · rcases getElem?_snoc g1 with r1 | ⟨r1, _⟩
      · rcases getElem?_snoc g2 with r2 | ⟨_, r2⟩
        · have := (List.getElem?_eq_some_iff.1 r2).1; have := h.ρlen; omega
        · exact absurd (r2 ▸ r1) (hb k B1 q1)
      · have := (List.getElem?_eq_some_iff.1 q1).1; have := h.ρlen; omega
    · rcases getElem?_snoc g2 with r2 | ⟨r2, _⟩
      · rcases getElem?_snoc g1 with r1 | ⟨_, r1⟩
        · have := (List.getElem?_eq_some_iff.1 r1).1; have := h.ρlen; omega
        · exact absurd (r1 ▸ r2) (hb k' B2 q2)
      · have := (List.getElem?_eq_some_iff.1 q2).1; have := h.ρlen; omega
    · omega
  · intro t L v h1 h2
    exact (h.stp t L v h1 h2).move (fun _ _ x => x) hle fun _ _ => ⟨rfl, fun _ x => x⟩
  · intro t k p B' v g' ht hk hv hg
    rcases getElem?_snoc hk with qk | ⟨qk, _⟩
    · rcases getElem?_snoc hg with qg | ⟨qg, _⟩
      · exact h.bdist t k p B' v g' ht qk hv qg
      · have := (List.getElem?_eq_some_iff.1 qk).1; have := h.ρlen; omega
    · rcases getElem?_snoc hg with qg | ⟨_, qg⟩
      · have := (List.getElem?_eq_some_iff.1 qg).1; have := h.ρlen; omega
      · exact qg ▸ hl t p v ht hv
theorem MemOk.addL {G : Env} {C : Cfg} {m : Mem} {w : World} (h : MemOk G C m w) {L : Live} {v : Value} (h2 : StpOk G C w L v)
    (hb : ∀ (k : Nat) (B : ABlk) (g : Nat), m.blks[k]? = some (some B) → C.ρ[k]? = some g → v.ownBlock ≠ some g)
    (hl : ∀ (t : Nat) (p : Live) (v' : Value) (g : Nat), m.lives[t]? = some (some p) → C.τ[t]? = some v' → v'.ownBlock = some g → v.ownBlock ≠ some g) :
    MemOk G (C.addS v) (m.addL L) w := by
  have hle := C.le_addS v
  refine ⟨h.os, h.tape, h.output, h.size, h.kept, h.old, h.pool, h.ρlen, ?_, ?_, h.dist, ?_, ?_, ?_, h.ppool, h.fixed⟩
  · simp [Cfg.addS, Mem.addL, h.τlen]
  · intro k B g hk hg
    obtain ⟨a1, a2, a3⟩ := h.blk k B g hk hg
    exact ⟨a1, a2.move hle rfl, a3⟩
  · intro t L' v' ht hv
    rcases getElem?_snoc ht with ht | ⟨ht, he⟩
    · rcases getElem?_snoc hv with hv | ⟨hv, _⟩
      · exact (h.stp t L' v' ht hv).move (fun _ _ x => x) hle fun _ _ => ⟨rfl, fun _ x => x⟩
      · have := (List.getElem?_eq_some_iff.1 ht).1; have := h.τlen; omega
    · injection he with he
      subst he
      rcases getElem?_snoc hv with hv | ⟨_, rfl⟩
      · have := (List.getElem?_eq_some_iff.1 hv).1; have := h.τlen; omega
      · exact h2.move (fun _ _ x => x) hle fun _ _ => ⟨rfl, fun _ x => x⟩
  · intro t t' p p' v1 v2 g ht ht' hv hv' hg hg'
    rcases getElem?_snoc ht with qt | ⟨qt, _⟩ <;> rcases getElem?_snoc ht' with qt' | ⟨qt', _⟩
    · rcases getElem?_snoc hv with qv | ⟨qv, _⟩
      · rcases getElem?_snoc hv' with qv' | ⟨qv', _⟩
        · exact h.sdist t t' p p' v1 v2 g qt qt' qv qv' hg hg'
        · have := (List.getElem?_eq_some_iff.1 qt').1; have := h.τlen; omega
      · have := (List.getElem?_eq_some_iff.1 qt).1; have := h.τlen; omega
    · rcases getElem?_snoc hv with qv | ⟨qv, _⟩
      · rcases getElem?_snoc hv' with qv' | ⟨_, qv'⟩
        · have := (List.getElem?_eq_some_iff.1 qv').1; have := h.τlen; omega
        · exact absurd (qv' ▸ hg') (hl t p v1 g qt qv hg)
      · have := (List.getElem?_eq_some_iff.1 qt).1; have := h.τlen; omega
    · rcases getElem?_snoc hv' with qv' | ⟨qv', _⟩
      · rcases getElem?_snoc hv with qv | ⟨_, qv⟩
        · have := (List.getElem?_eq_some_iff.1 qv).1; have := h.τlen; omega
        · exact absurd (qv ▸ hg) (hl t' p' v2 g qt' qv' hg')
      · have := (List.getElem?_eq_some_iff.1 qt').1; have := h.τlen; omega
    · omega
  · intro t k p B v' g ht hk hv hg
    rcases getElem?_snoc ht with ht | ⟨ht, _⟩
    · rcases getElem?_snoc hv with hv | ⟨hv, _⟩
      · exact h.bdist t k p B v' g ht hk hv hg
      · have := (List.getElem?_eq_some_iff.1 ht).1; have := h.τlen; omega
    · rcases getElem?_snoc hv with hv | ⟨_, rfl⟩
      · have := (List.getElem?_eq_some_iff.1 hv).1; have := h.τlen; omega
      · exact hb k B g hk hg
theorem MemOk.addS {G : Env} {C : Cfg} {m : Mem} {w : World} (h : MemOk G C m w) {e : TypeId} {sz : Nat} {v : Value} (h2 : StpOk G C w (.pl e sz) v)
    (hb : ∀ (k : Nat) (B : ABlk) (g : Nat), m.blks[k]? = some (some B) → C.ρ[k]? = some g → v.ownBlock ≠ some g)
    (hl : ∀ (t : Nat) (p : Live) (v' : Value) (g : Nat), m.lives[t]? = some (some p) → C.τ[t]? = some v' → v'.ownBlock = some g → v.ownBlock ≠ some g) :
    MemOk G (C.addS v) (m.addS e sz) w := h.addL h2 hb hl
/-- A block of m's own tells something else: its id lives on. -/
theorem MemOk.putB {G : Env} {C : Cfg} {m : Mem} {w : World} {k : Nat} (h : MemOk G C { m with blks := m.blks.set k none } w) {g : Nat} {B : ABlk} (hk : k < m.blks.length) (hg : C.ρ[k]? = some g) (h1 : ¬ G.prot g) (h2 : BlkOk C w g B) (h3 : ∀ o, C.pool g o = none)
    (hb : ∀ (k' : Nat) (B : ABlk), k' ≠ k → m.blks[k']? = some (some B) → C.ρ[k']? ≠ some g) (hl : ∀ (t : Nat) (p : Live) (v : Value), m.lives[t]? = some (some p) → C.τ[t]? = some v → v.ownBlock ≠ some g) :
    MemOk G C { m with blks := m.blks.set k (some B) } w := by
  have key : ∀ {k' : Nat} {B' : ABlk}, (m.blks.set k (some B))[k']? = some (some B') → (k' = k ∧ B' = B) ∨ (k' ≠ k ∧ m.blks[k']? = some (some B')) := by
    intro k' B' hh
    by_cases e : k' = k
    · subst e
      rw [List.getElem?_set_self hk] at hh
      injection hh with hh
      injection hh with hh
      exact .inl ⟨rfl, hh.symm⟩
    · rw [List.getElem?_set_ne (Ne.symm e)] at hh
      exact .inr ⟨e, hh⟩
  have back : ∀ {k' : Nat} {B' : ABlk}, k' ≠ k → m.blks[k']? = some (some B') → (m.blks.set k none)[k']? = some (some B') := fun e hh => by
    rw [List.getElem?_set_ne (Ne.symm e)]; exact hh
  refine ⟨h.os, h.tape, h.output, h.size, h.kept, h.old, h.pool, ?_, h.τlen, ?_, ?_, h.stp, h.sdist, ?_, h.ppool, h.fixed⟩
  · have := h.ρlen; simpa using this
  · intro k' B' g' hk' hg'
    rcases key hk' with ⟨rfl, rfl⟩ | ⟨e, hh⟩
    · rw [hg] at hg'; injection hg' with hg'; subst hg'; exact ⟨h1, h2, h3⟩
    · exact h.blk k' B' g' (back e hh) hg'
  · intro k1 k2 B1 B2 g' a1 a2 b1 b2
    rcases key a1 with ⟨q1, _⟩ | ⟨e1, q1⟩ <;> rcases key a2 with ⟨q2, _⟩ | ⟨e2, q2⟩
    · exact q1.trans q2.symm
    · rw [q1, hg] at b1; injection b1 with b1; exact absurd (b1 ▸ b2) (hb _ _ e2 q2)
    · rw [q2, hg] at b2; injection b2 with b2; exact absurd (b2 ▸ b1) (hb _ _ e1 q1)
    · exact h.dist k1 k2 B1 B2 g' (back e1 q1) (back e2 q2) b1 b2
  · intro t k' p B' v g' ht hk' hv hg'
    rcases key hk' with ⟨rfl, rfl⟩ | ⟨e, hh⟩
    · rw [hg] at hg'; injection hg' with hg'; subst hg'; exact hl t p v ht hv
    · exact h.bdist t k' p B' v g' ht (back e hh) hv hg'
/-- A new block, told by a new id. -/
theorem MemOk.alloc {G : Env} {C : Cfg} {m : Mem} {w : World} (h : MemOk G C m w) (o : Obj) {B : ABlk} (hB : BlkOk C (w.alloc o) w.heap.size B) : MemOk G (C.addB w.heap.size) (m.addB B) (w.alloc o) := by
  have h0 : MemOk G C m (w.alloc o) := h.turn (.refl m) (.refl C) rfl rfl rfl rfl rfl (by simp) (fun _ => False) (fun _ x => x.elim) (fun b hb _ => Below.heap_alloc w o b hb)
    (fun b o' v hp => ⟨(World.cell?_of_block (w := w) (Below.heap_alloc w o b (h.poolLt hp))).trans (h.pool b o' v hp).1, (h.pool b o' v hp).2⟩) (fun b o v hp => .inl hp) (fun _ _ _ _ _ x => x) (fun _ _ _ _ _ _ _ x => x)
  refine h0.addB (fun hp => ?_) hB (fun o' => ?_) (fun k B' hk hg => ?_) (fun t p v ht hv hg => ?_)
  · have := h.old _ hp; have := h.size; omega
  · cases hc : C.pool w.heap.size o' with
    | none => rfl
    | some v => have := h.poolLt hc; omega
  · have := (h.blk k B' _ hk hg).2.1.lt; omega
  · have := (h.stp t p v ht hv).lt hg; omega
/-- A block whose id is k is written: heap's other blocks stay. -/
theorem MemOk.write {G : Env} {C : Cfg} {m : Mem} {w w' : World} (h : MemOk G C m w) {k g : Nat} {B B' : ABlk} (hk : m.blks[k]? = some (some B)) (hg : C.ρ[k]? = some g)
    (os : w'.os = w.os) (tape : w'.tape = w.tape) (output : w'.output = w.output) (size : w.heap.size ≤ w'.heap.size) (keep : ∀ b, b < w.heap.size → b ≠ g → w'.heap[b]? = w.heap[b]?)
    (hB : BlkOk C w' g B') : MemOk G C { m with blks := m.blks.set k (some B') } w' := by
  obtain ⟨a1, a2, a3⟩ := h.blk k B g hk hg
  have hkl := (List.getElem?_eq_some_iff.1 hk).1
  have hf : Mem.Fewer { m with blks := m.blks.set k none } m := by
    refine ⟨by simp, rfl, fun k' B1 hh => ?_, fun _ _ x => x⟩
    by_cases e : k' = k
    · subst e; simp only [List.getElem?_set_self hkl] at hh; cases hh
    · simp only [List.getElem?_set_ne (Ne.symm e)] at hh; exact hh
  have h0 : MemOk G C { m with blks := m.blks.set k none } w' := by
    refine h.turn hf (.refl C) rfl rfl os tape output size (fun b => b = g) (fun b e => e ▸ a1) (fun b hb hx => keep b hb hx) (fun b o v hp => ?_) (fun b o v hp => .inl hp) (fun k' B1 g' hh hg' e => ?_) (fun t p v g' ht hv hg' e => ?_)
    · have hne : b ≠ g := fun e => by rw [e, a3 o] at hp; cases hp
      exact ⟨(World.cell?_of_block (w := w) (keep b (h.poolLt hp) hne)).trans (h.pool b o v hp).1, (h.pool b o v hp).2⟩
    · subst e
      have := h.dist k' k B1 B g' (hf.b _ _ hh) hk hg' hg
      subst this
      simp only [List.getElem?_set_self hkl] at hh; cases hh
    · subst e; exact h.bdist t k p B v g' ht hk hv hg hg'
  refine h0.putB hkl hg a1 hB a3 (fun k' B1 e hh hg' => e (h.dist k' k B1 B g hh hk hg' hg)) (fun t p v ht hv hg' => h.bdist t k p B v g ht hk hv hg hg')
end Go.Av
set_option linter.unusedVariables false
set_option linter.unusedSectionVars false
set_option linter.unusedSimpArgs false
namespace Go.Av
open Go.RowKit
variable [Tab]
def ALst (P : Program) (G : Env) (C0 : Cfg) (ops : Array Oper) (Q : AEx → St → Prop) (rest : List Oper) (s : St) : Prop := ∀ C a w, Gam G C0 C s a w → wpList P ops (Post G C0 Q) rest a w
def AOp (P : Program) (o : Oper) (s : St) (v : AV) (m' : Mem) : Prop :=
  ∀ (G : Env) (C0 C : Cfg) (a : Act) (w : World), Gam G C0 C s a w → ∃ u C' w', (execOp a.eval o).run P w = .ok (.value u) w' ∧ C.Le C' ∧ MemOk G C' m' w' ∧ Rep C' v u
def AOpU (P : Program) (o : Oper) (s : St) (m' : Mem) : Prop :=
  ∀ (G : Env) (C0 C : Cfg) (a : Act) (w : World), Gam G C0 C s a w → ∃ C' w', (execOp a.eval o).run P w = .ok .skip w' ∧ C.Le C' ∧ MemOk G C' m' w'
def Wants (ops : Array Oper) (o : Oper) (s : St) (b : Bool) : Prop := ∀ (G : Env) (C0 C : Cfg) (a : Act) (w : World), Gam G C0 C s a w → Region.wanted o (yielded ops a.tmps) = b
section
variable {P : Program} {G : Env} {C0 : Cfg} {ops : Array Oper} {Q : AEx → St → Prop} {rest : List Oper} {o : Oper} {s : St}
theorem awp_region {id : Nat} {l : List Oper} (h : ALst P G C0 l.toArray Q l s) : AWp P G C0 (.region id l.toArray false) Q s := fun C a w hg => wp_region_lit (h C a w hg)
theorem alst_nil (h : Q .normal s) : ALst P G C0 ops Q [] s := fun C a w hg => wpList_nil ⟨_, _, C, h, .normal, hg⟩
theorem wants_plain (h : o.guard = none) : Wants ops o s true := fun G C0 C a w hg => by simp [Region.wanted, h]
theorem wants_guard {j d : Nat} {b b' : Bool} (h : o.guard = some (j, b)) (hd : (ops[j]?).bind (·.dst) = some d) (hl : look s.fr d = .bool b') : Wants ops o s (b' == b) := by
  intro G C0 C a w hg
  have hr := hg.fr d
  rw [hl] at hr
  have hv := hr.bool_inv
  have hy : yielded ops a.tmps j = some b' := by
    unfold yielded
    rw [hd, Option.bind_some]
    rw [Array.getD_eq_getD_getElem?] at hv
    cases hc : a.tmps[d]? with
    | none => rw [hc] at hv; simp [undef] at hv
    | some u => rw [hc, Option.getD_some] at hv; subst hv; rfl
  simp only [Region.wanted, h, hy]
  cases b <;> cases b' <;> rfl
theorem wants_und {j d : Nat} {b : Bool} (h : o.guard = some (j, b)) (hd : (ops[j]?).bind (·.dst) = some d) (hl : look s.fr d = .und) : Wants ops o s false := by
  intro G C0 C a w hg
  have hr := hg.fr d
  rw [hl] at hr
  have hv : a.tmps.getD d undef = undef := by
    generalize hu : a.tmps.getD d undef = u at hr
    cases hr; rfl
  have hy : yielded ops a.tmps j = none := by
    unfold yielded
    rw [hd, Option.bind_some]
    rw [Array.getD_eq_getD_getElem?] at hv
    cases hc : a.tmps[d]? with
    | none => rfl
    | some u => rw [hc, Option.getD_some] at hv; subst hv; rfl
  simp [Region.wanted, h, hy]
theorem getD_put {tmps : Array Value} {d : Nat} {u : Value} (hd : d < tmps.size) (i : Nat) : (tmps.setIfInBounds d u).getD i undef = if d = i then u else tmps.getD i undef := by
  rw [Array.getD_eq_getD_getElem?, Array.getD_eq_getD_getElem?, Array.getElem?_setIfInBounds]
  by_cases h : d = i
  · subst h; simp [hd]
  · simp [h]
theorem Gam.put {C C' : Cfg} {a : Act} {w w' : World} (hg : Gam G C0 C s a w) {d : Nat} {v : AV} {u : Value} {m' : Mem} (hlt : d < s.n) (hle : C.Le C') (hm : MemOk G C' m' w') (hr : Rep C' v u) :
    Gam G C0 C' { s with fr := (d, v) :: s.fr, m := m' } (a.put (some d) u) w' := by
  refine ⟨hg.le.trans hle, hm, by simp [Act.put, hg.size], fun i => ?_, hg.dfs.mono hle⟩
  have hd : d < a.tmps.size := by rw [hg.size]; exact hlt
  simp only [Act.put]
  rw [getD_put hd, look_cons]
  cases hb : Nat.beq d i with
  | true => rw [if_pos (Nat.eq_of_beq_eq_true hb)]; exact hr
  | false => rw [if_neg (Nat.ne_of_beq_eq_false hb)]; exact (hg.fr i).mono hle
theorem Gam.keep {C C' : Cfg} {a : Act} {w w' : World} (hg : Gam G C0 C s a w) {m' : Mem} (hle : C.Le C') (hm : MemOk G C' m' w') : Gam G C0 C' { s with m := m' } a w' :=
  ⟨hg.le.trans hle, hm, hg.size, fun i => (hg.fr i).mono hle, hg.dfs.mono hle⟩
end
section
variable {P : Program} {o : Oper} {s : St}
theorem aop_pure {v : AV} (h : ∀ (C : Cfg) (a : Act) (w : World), (∀ x, Rep C (ev s.fr x) (a.eval x)) → ∃ u, (execOp a.eval o).run P w = .ok (.value u) w ∧ Rep C v u) : AOp P o s v s.m := by
  intro G C0 C a w hg
  obtain ⟨u, h1, h2⟩ := h C a w hg.ev
  exact ⟨u, C, w, h1, .refl C, hg.mem, h2⟩
theorem op_move {x : Operand} (h : o.op = .move x) : AOp P o s (ev s.fr x) s.m := aop_pure fun C a w he => ⟨_, by simp [execOp, h], he x⟩
theorem op_assign {x : Operand} (h : o.op = .assign x) : AOp P o s (ev s.fr x) s.m := aop_pure fun C a w he => ⟨_, by simp [execOp, h], he x⟩
theorem op_pick {c x y : Operand} {b : Bool} (h : o.op = .pick c x y) (hc : ev s.fr c = .bool b) : AOp P o s (bif b then ev s.fr x else ev s.fr y) s.m := aop_pure fun C a w he => by
  have h1 := he c
  rw [hc] at h1
  have h1 := h1.bool_inv
  cases b
  · exact ⟨a.eval y, by simp [execOp, h, h1, asBool], he y⟩
  · exact ⟨a.eval x, by simp [execOp, h, h1, asBool], he x⟩
theorem op_extract {x : Operand} {i : Nat} {vs : List AV} {v : AV} (h : o.op = .extract x i) (hx : ev s.fr x = .tup vs) (hv : vs[i]? = some v) : AOp P o s v s.m := aop_pure fun C a w he => by
  have h1 := he x
  rw [hx] at h1
  obtain ⟨us, hu, hr⟩ := h1.tup_inv
  obtain ⟨u, hu', hr'⟩ := hr.at hv
  exact ⟨u, by simp [execOp, h, hu, Instr.extract, hu'], hr'⟩
def arith (op : BinOp) (k : IntKind) (x y : Int) : AV :=
  match op with
  | .add => .int k (k.wrap (x + y))
  | .sub => .int k (k.wrap (x - y))
  | .mul => .int k (k.wrap (x * y))
  | .eql => .bool (x == y)
  | .neq => .bool (x != y)
  | .lss => .bool (decide (x < y))
  | .leq => .bool (decide (x ≤ y))
  | .gtr => .bool (decide (x > y))
  | .geq => .bool (decide (x ≥ y))
  | _ => .any
def plainBin : BinOp → Bool
  | .add | .sub | .mul | .eql | .neq | .lss | .leq | .gtr | .geq => true
  | _ => false
theorem op_int {b : BinOp} {t t' : TypeId} {x y : Operand} {k : IntKind} {m n : Int} (h : o.op = .binOp b t x y t') (hb : plainBin b = true) (hx : ev s.fr x = .int k m) (hy : ev s.fr y = .int k n) : AOp P o s (arith b k m n) s.m := aop_pure fun C a w he => by
  have h1 := he x
  have h2 := he y
  rw [hx] at h1; rw [hy] at h2
  have h1 := h1.int_inv
  have h2 := h2.int_inv
  cases b <;> (first | (revert hb; simp [plainBin]; done) | skip)
  · exact ⟨.int k (k.wrap (m + n)), by simp [execOp, h, h1, h2, eqGuard, binOp, Op.intArith, Op.intCmp], .int _ _⟩
  · exact ⟨.int k (k.wrap (m - n)), by simp [execOp, h, h1, h2, eqGuard, binOp, Op.intArith, Op.intCmp], .int _ _⟩
  · exact ⟨.int k (k.wrap (m * n)), by simp [execOp, h, h1, h2, eqGuard, binOp, Op.intArith, Op.intCmp], .int _ _⟩
  · exact ⟨.bool (m == n), by simp [execOp, h, h1, h2, eqGuard, binOp, Op.intArith, Op.intCmp], .bool _⟩
  · exact ⟨.bool (m != n), by simp [execOp, h, h1, h2, eqGuard, binOp, Op.intArith, Op.intCmp], .bool _⟩
  · exact ⟨.bool (decide (m < n)), by simp [execOp, h, h1, h2, eqGuard, binOp, Op.intArith, Op.intCmp], .bool _⟩
  · exact ⟨.bool (decide (m ≤ n)), by simp [execOp, h, h1, h2, eqGuard, binOp, Op.intArith, Op.intCmp], .bool _⟩
  · exact ⟨.bool (decide (m > n)), by simp [execOp, h, h1, h2, eqGuard, binOp, Op.intArith, Op.intCmp], .bool _⟩
  · exact ⟨.bool (decide (m ≥ n)), by simp [execOp, h, h1, h2, eqGuard, binOp, Op.intArith, Op.intCmp], .bool _⟩
def strBin (op : BinOp) (x y : List UInt8) : AV :=
  match op with
  | .add => .str (x ++ y)
  | .eql => .bool (x == y)
  | .neq => .bool (!(x == y))
  | _ => .any
def plainStr : BinOp → Bool
  | .add | .eql | .neq => true
  | _ => false
theorem bytes_size (x : List UInt8) : (⟨x.toArray⟩ : ByteArray).size = x.length := by simp [ByteArray.size]
theorem bytes_append (x y : List UInt8) : (⟨x.toArray⟩ : ByteArray) ++ ⟨y.toArray⟩ = ⟨(x ++ y).toArray⟩ := by
  apply ByteArray.ext
  simp
theorem op_str {b : BinOp} {t t' : TypeId} {x y : Operand} {m n : List UInt8} (h : o.op = .binOp b t x y t') (hb : plainStr b = true) (hx : ev s.fr x = .str m) (hy : ev s.fr y = .str n) (hn : b = .add → m.length + n.length ≤ maxLen) : AOp P o s (strBin b m n) s.m := aop_pure fun C a w he => by
  have h1 := he x
  have h2 := he y
  rw [hx] at h1; rw [hy] at h2
  have h1 := h1.str_inv
  have h2 := h2.str_inv
  cases b <;> (first | (revert hb; simp [plainStr]; done) | skip)
  · exact ⟨.string ⟨(m ++ n).toArray⟩, by
      have hn := hn rfl
      unfold maxLen at hn
      simp [execOp, h, h1, h2, eqGuard, binOp, Op.stringOp, bytes_append, bytes_size]
      omega, .str _⟩
  · exact ⟨.bool (m == n), by simp [execOp, h, h1, h2, eqGuard, binOp, Op.stringOp], .bool _⟩
  · exact ⟨.bool (!(m == n)), by simp [execOp, h, h1, h2, eqGuard, binOp, Op.stringOp, bne], .bool _⟩
theorem op_not {t : TypeId} {x : Operand} {b : Bool} (h : o.op = .unOp .not t x) (hx : ev s.fr x = .bool b) : AOp P o s (.bool (!b)) s.m := aop_pure fun C a w he => by
  have h1 := he x
  rw [hx] at h1
  have h1 := h1.bool_inv
  exact ⟨.bool (!b), by simp [execOp, h, h1, Op.unary], .bool _⟩
theorem op_nilCheck_ptr {x : Operand} {k off : Nat} (h : o.op = .nilCheck x) (hx : ev s.fr x = .ptr k off) : AOp P o s (.ptr k off) s.m := aop_pure fun C a w he => by
  have h1 := he x
  rw [hx] at h1
  obtain ⟨g, hg, hv⟩ := h1.ptr_inv
  exact ⟨_, by simp [execOp, h, hv], .ptr k off g hg⟩
end
end Go.Av
set_option linter.unusedVariables false
set_option linter.unusedSectionVars false
set_option linter.unusedSimpArgs false
namespace Go.Av
open Go.RowKit
variable [Tab]
def AV.one : AV → Bool
  | .agg _ | .tup _ | .any | .und => false
  | _ => true
def flat : AV → List AV
  | .agg cs => cs
  | x => [x]
theorem Rep.one {C : Cfg} {x : AV} {v : Value} (h : Rep C x v) (h1 : x.one = true) : v.oneCell' = true ∧ v.cells = #[v] := by
  cases h <;> first | exact ⟨rfl, rfl⟩ | (simp [AV.one] at h1)
theorem Rep.flat {C : Cfg} {x : AV} {v : Value} (h : Rep C x v) (h1 : (flat x).all AV.one = true) : ∃ us : List Value, v.cells = us.toArray ∧ Reps C (flat x) us ∧ ∀ u ∈ us, u.oneCell' = true := by
  by_cases hx : ∃ cs, x = .agg cs
  · obtain ⟨cs, rfl⟩ := hx
    obtain ⟨vs, rfl, hr⟩ := h.agg_inv
    refine ⟨vs, rfl, hr, fun u hu => ?_⟩
    obtain ⟨j, hj⟩ := List.getElem?_of_mem hu
    have hjl : j < cs.length := by rw [hr.1]; exact (List.getElem?_eq_some_iff.1 hj).1
    have ho : (cs[j]).one = true := List.all_eq_true.1 h1 _ (List.getElem_mem hjl)
    exact ((hr.2 j _ u (List.getElem?_eq_getElem hjl) hj).one ho).1
  · have hf : Av.flat x = [x] := by cases x <;> first | rfl | exact absurd ⟨_, rfl⟩ hx
    rw [hf] at h1 ⊢
    simp only [List.all_cons, List.all_nil, Bool.and_true] at h1
    obtain ⟨a, b⟩ := h.one h1
    exact ⟨[v], by rw [b], .cons h (.nil C), fun u hu => by simp at hu; subst hu; exact a⟩
def aggD : TypeDesc → Bool
  | .struct _ | .array _ _ => true
  | _ => false
theorem run_isAgg {P : Program} {t : TypeId} {b : Bool} (h : (P.underlying t).map aggD = some b) (w : World) : (isAgg t).run P w = .ok b w := by
  obtain ⟨d, hd, hb⟩ := Option.map_eq_some_iff.1 h
  subst hb
  cases d <;> simp [isAgg, run_underlying hd, aggD]
theorem run_sizeOf' {P : Program} {t : TypeId} {n : Nat} (h : (P.info? t).map (·.size) = some n) (w : World) : (sizeOf t).run P w = .ok n w := by
  obtain ⟨i, hi, hn⟩ := Option.map_eq_some_iff.1 h
  subst hn
  simp [sizeOf, typeInfo, hi]
theorem addr_add (b off n : Nat) : (⟨b, off, none⟩ : Addr).add n = ⟨b, off + n, none⟩ := by unfold Addr.add; split <;> simp_all
theorem cell_of_heap {w : World} {g : Nat} {vs : List Value} {ty : TypeId} (h : w.heap[g]? = some (.cells vs.toArray ty (0, 0))) (o : Nat) : w.cell? ⟨g, o, none⟩ = vs[o]? := by
  simp [World.cell?, h]
theorem frozen_of_heap {w : World} {g : Nat} {cur : Array Value} {ty : TypeId} (h : w.heap[g]? = some (.cells cur ty (0, 0))) (o : Nat) : w.frozen? ⟨g, o, none⟩ = false := by
  simp [World.frozen?, h]
/-- Loads. -/
theorem run_loadVar_one {P : Program} {t : TypeId} (ht : (P.underlying t).map aggD = some false) {w : World} {g o : Nat} {v : Value} (hc : w.cell? ⟨g, o, none⟩ = some v) : (loadVar t ⟨g, o, none⟩).run P w = .ok v w := by
  simp [loadVar, run_isAgg ht, hc]
theorem run_loadVar_agg {P : Program} {t : TypeId} {n : Nat} (ht : (P.underlying t).map aggD = some true) (hn : (P.info? t).map (·.size) = some n) {w : World} {g o : Nat} {vs : List Value} (hl : vs.length = n) (hc : ∀ j v, vs[j]? = some v → w.cell? ⟨g, o + j, none⟩ = some v) :
    (loadVar t ⟨g, o, none⟩).run P w = .ok (.agg vs.toArray) w := by
  have := run_loadCells_list (P := P) w ⟨g, o, none⟩ vs (fun j v hj => by rw [addr_add]; exact hc j v hj)
  rw [hl] at this
  simp [loadVar, run_isAgg ht, run_sizeOf' hn, this]
section
variable {P : Program} {o : Oper} {s : St}
theorem Gam.block {G : Env} {C0 C : Cfg} {a : Act} {w : World} (h : Gam G C0 C s a w) {k g : Nat} {ty : TypeId} {cs : List AV} (hk : s.m.blks[k]? = some (some (.cells ty cs))) (hg : C.ρ[k]? = some g) :
    ∃ vs : List Value, w.heap[g]? = some (.cells vs.toArray ty (0, 0)) ∧ Reps C cs vs ∧ ∀ u ∈ vs, u.oneCell' = true := (h.mem.blk k _ g hk hg).2.1
theorem op_load {t : TypeId} {x : Operand} {k off : Nat} {ty : TypeId} {cs : List AV} {v : AV} (h : o.op = .load t x) (hx : ev s.fr x = .ptr k off) (hk : s.m.blks[k]? = some (some (.cells ty cs))) (ht : (P.underlying t).map aggD = some false) (hv : cs[off]? = some v) : AOp P o s v s.m := by
  intro G C0 C a w hg
  have h1 := hg.ev x
  rw [hx] at h1
  obtain ⟨g, hρ, hp⟩ := h1.ptr_inv
  obtain ⟨vs, hh, hr, _⟩ := hg.block hk hρ
  obtain ⟨u, hu, hru⟩ := hr.at hv
  refine ⟨u, C, w, ?_, .refl C, hg.mem, hru⟩
  have hc : w.cell? ⟨g, off, none⟩ = some u := by rw [cell_of_heap hh]; exact hu
  simp [execOp, h, hp, Instr.loadAt, Instr.sureAddr, run_loadVar_one ht hc]
theorem op_load_agg {t : TypeId} {x : Operand} {k off n : Nat} {ty : TypeId} {cs ds : List AV} (h : o.op = .load t x) (hx : ev s.fr x = .ptr k off) (hk : s.m.blks[k]? = some (some (.cells ty cs))) (ht : (P.underlying t).map aggD = some true) (hn : (P.info? t).map (·.size) = some n)
    (hle : off + n ≤ cs.length) (hds : (cs.drop off).take n = ds) : AOp P o s (.agg ds) s.m := by
  intro G C0 C a w hg
  have h1 := hg.ev x
  rw [hx] at h1
  obtain ⟨g, hρ, hp⟩ := h1.ptr_inv
  obtain ⟨vs, hh, hr, _⟩ := hg.block hk hρ
  have hvl := hr.1
  have hl : ((vs.drop off).take n).length = n := by rw [List.length_take, List.length_drop]; omega
  have hrun := run_loadVar_agg (w := w) (g := g) (o := off) ht hn hl (fun j v hj => by
    rw [List.getElem?_take] at hj
    split at hj
    · rw [List.getElem?_drop] at hj
      rw [cell_of_heap hh]; exact hj
    · cases hj)
  refine ⟨.agg ((vs.drop off).take n).toArray, C, w, by simp [execOp, h, hp, Instr.loadAt, Instr.sureAddr, hrun], .refl C, hg.mem, ?_⟩
  subst hds
  refine .agg _ _ (by simp only [List.length_take, List.length_drop]; omega) fun j x v hx hv => ?_
  rw [List.getElem?_take] at hx hv
  split at hx
  · rename_i hlt
    rw [if_pos hlt] at hv
    rw [List.getElem?_drop] at hx hv
    exact hr.2 _ _ _ hx hv
  · cases hx
theorem Rep.pp_inv {C : Cfg} {cs : List AV} {v : Value} (h : Rep C (.pp cs) v) : ∃ (b off : Nat) (vals : Nat → Value), v = .pointer (some ⟨b, off, none⟩) ∧ (∀ (j : Nat) (x : AV), cs[j]? = some x → C.pool b (off + j) = some (vals j)) ∧ ∀ (j : Nat) (x : AV), cs[j]? = some x → Rep C x (vals j) := by
  cases h; exact ⟨_, _, _, rfl, ‹_›, ‹_›⟩
theorem op_load_pp {t : TypeId} {x : Operand} {cs : List AV} {v : AV} (h : o.op = .load t x) (hx : ev s.fr x = .pp cs) (ht : (P.underlying t).map aggD = some false) (hv : cs[0]? = some v) : AOp P o s v s.m := by
  intro G C0 C a w hg
  have h1 := hg.ev x
  rw [hx] at h1
  obtain ⟨b, off, vals, hp, hpool, hrep⟩ := h1.pp_inv
  have hc := (hg.mem.pool _ _ _ (hpool 0 v hv)).1
  rw [Nat.add_zero] at hc
  exact ⟨vals 0, C, w, by simp [execOp, h, hp, Instr.loadAt, Instr.sureAddr, run_loadVar_one ht hc], .refl C, hg.mem, hrep 0 v hv⟩
theorem op_load_pp_agg {t : TypeId} {x : Operand} {n : Nat} {cs ds : List AV} (h : o.op = .load t x) (hx : ev s.fr x = .pp cs) (ht : (P.underlying t).map aggD = some true) (hn : (P.info? t).map (·.size) = some n) (hle : n ≤ cs.length) (hds : cs.take n = ds) : AOp P o s (.agg ds) s.m := by
  intro G C0 C a w hg
  have h1 := hg.ev x
  rw [hx] at h1
  obtain ⟨b, off, vals, hp, hpool, hrep⟩ := h1.pp_inv
  have hget : ∀ j v, ((List.range n).map vals)[j]? = some v → j < n ∧ v = vals j := by
    intro j v hj
    rw [List.getElem?_map] at hj
    obtain ⟨i, hi, he⟩ := Option.map_eq_some_iff.1 hj
    obtain ⟨hlt, hi'⟩ := List.getElem?_eq_some_iff.1 hi
    rw [List.length_range] at hlt
    rw [List.getElem_range] at hi'
    subst hi'
    exact ⟨hlt, he.symm⟩
  have hrun := run_loadVar_agg (w := w) (g := b) (o := off) (vs := (List.range n).map vals) ht hn (by simp) (fun j v hj => by
    obtain ⟨hlt, rfl⟩ := hget j v hj
    have hjc : j < cs.length := by omega
    exact (hg.mem.pool _ _ _ (hpool j cs[j] (List.getElem?_eq_getElem hjc))).1)
  refine ⟨.agg ((List.range n).map vals).toArray, C, w, by simp only [execOp, h, hp, Instr.loadAt, Instr.sureAddr, Sem.run_bind, Sem.run_pure, Result.andThen_ok, hrun], .refl C, hg.mem, ?_⟩
  subst hds
  refine .agg _ _ (by simp; omega) fun j x v hx hv => ?_
  obtain ⟨hlt, rfl⟩ := hget j v hv
  rw [List.getElem?_take, if_pos hlt] at hx
  exact hrep j x hx
end
def splice (cs : List AV) (off : Nat) (ys : List AV) : List AV := cs.take off ++ ys ++ cs.drop (off + ys.length)
def spliceV (cs : List Value) (off : Nat) (ys : List Value) : List Value := cs.take off ++ ys ++ cs.drop (off + ys.length)
theorem getElem?_spliceV (cs ys : List Value) (off : Nat) (h : off + ys.length ≤ cs.length) (j : Nat) : (spliceV cs off ys)[j]? = if off ≤ j ∧ j < off + ys.length then ys[j - off]? else cs[j]? := by
  unfold spliceV
  by_cases h1 : j < off
  · rw [if_neg (by omega), List.append_assoc, List.getElem?_append_left (by simp; omega), List.getElem?_take, if_pos h1]
  · by_cases h2 : j < off + ys.length
    · rw [if_pos (by omega), List.append_assoc, List.getElem?_append_right (by simp; omega), List.getElem?_append_left (by simp; omega)]
      congr 1
      simp; omega
    · rw [if_neg (by omega), List.getElem?_append_right (by simp; omega), List.getElem?_drop]
      congr 1
      simp; omega
theorem getElem?_splice (cs ys : List AV) (off : Nat) (h : off + ys.length ≤ cs.length) (j : Nat) : (splice cs off ys)[j]? = if off ≤ j ∧ j < off + ys.length then ys[j - off]? else cs[j]? := by
  unfold splice
  by_cases h1 : j < off
  · rw [if_neg (by omega), List.append_assoc, List.getElem?_append_left (by simp; omega), List.getElem?_take, if_pos h1]
  · by_cases h2 : j < off + ys.length
    · rw [if_pos (by omega), List.append_assoc, List.getElem?_append_right (by simp; omega), List.getElem?_append_left (by simp; omega)]
      congr 1
      simp; omega
    · rw [if_neg (by omega), List.getElem?_append_right (by simp; omega), List.getElem?_drop]
      congr 1
      simp; omega
theorem Reps.splice {C : Cfg} {cs ys : List AV} {vs us : List Value} (h : Reps C cs vs) (k : Reps C ys us) {off : Nat} (hle : off + ys.length ≤ cs.length) : Reps C (Av.splice cs off ys) (spliceV vs off us) := by
  have hk := k.1
  have hh := h.1
  refine ⟨by simp [Av.splice, spliceV]; omega, fun j x v hx hv => ?_⟩
  rw [getElem?_splice cs ys off hle] at hx
  rw [getElem?_spliceV vs us off (by omega)] at hv
  rw [← hk] at hv
  split at hx
  · rename_i hc
    rw [if_pos hc] at hv
    exact k.2 _ _ _ hx hv
  · rename_i hc
    rw [if_neg hc] at hv
    exact h.2 _ _ _ hx hv
theorem run_storeCells' {P : Program} (g : Nat) (ty : TypeId) : ∀ (us : List Value) (off : Nat) (i : Nat) (w : World) (vs : List Value), w.heap[g]? = some (.cells vs.toArray ty (0, 0)) → off + i + us.length ≤ vs.length → (∀ u ∈ us, u.oneCell' = true) →
    ∃ w', (storeCells ⟨g, off, none⟩ us i).run P w = .ok () w' ∧ w'.heap[g]? = some (.cells (spliceV vs (off + i) us).toArray ty (0, 0)) ∧ w'.heap.size = w.heap.size ∧ (∀ b, b ≠ g → w'.heap[b]? = w.heap[b]?) ∧ w'.os = w.os ∧ w'.tape = w.tape ∧ w'.output = w.output
  | [], off, i, w, vs, hh, hl, _ => ⟨w, by simp [storeCells], by rw [hh]; simp [spliceV], rfl, fun _ _ => rfl, rfl, rfl, rfl⟩
  | u :: us, off, i, w, vs, hh, hl, h1 => by
    simp only [List.length_cons] at hl
    have hc : w.cell? ⟨g, off + i, none⟩ = some vs[off + i] := by rw [cell_of_heap hh, List.getElem?_eq_getElem (by omega)]
    have hf := frozen_of_heap hh (off + i)
    have hset : (w.setCell ⟨g, off + i, none⟩ u).heap[g]? = some (.cells (vs.set (off + i) u).toArray ty (0, 0)) := by
      simp only [World.setCell, Array.getElem?_modify, if_true, hh, Option.map_some, Option.isSome_none, Bool.false_eq_true, if_false]
      simp
    obtain ⟨w', hrun, hh', hs', hb', e1, e2, e3⟩ := run_storeCells' (P := P) g ty us off (i + 1) (w.setCell ⟨g, off + i, none⟩ u) (vs.set (off + i) u) hset (by simp; omega) (fun x hx => h1 x (List.mem_cons_of_mem _ hx))
    refine ⟨w', ?_, ?_, ?_, fun b hb => (hb' b hb).trans (Below.heap_setCell _ _ _ _ hb), e1, e2, e3⟩
    · simp only [storeCells, Sem.run_bind, addr_add, run_store P w _ u _ (h1 u List.mem_cons_self), hc, hf, Bool.false_eq_true, if_false, Result.andThen_ok, hrun]
    · rw [hh']
      congr 3
      apply List.ext_getElem?
      intro j
      rw [getElem?_spliceV _ _ _ (by simp; omega), getElem?_spliceV _ _ _ (by simp; omega), List.getElem?_set, List.length_cons]
      by_cases hj : off + (i + 1) ≤ j ∧ j < off + (i + 1) + us.length
      · rw [if_pos hj, if_pos (by omega), show j - (off + i) = (j - (off + (i + 1))) + 1 by omega, List.getElem?_cons_succ]
      · rw [if_neg hj]
        by_cases he : off + i = j
        · subst he; rw [if_pos rfl, if_pos (by omega), if_pos (by omega)]; simp
        · rw [if_neg he, if_neg (by omega)]
    · rw [hs']; simp [World.setCell]
section
variable {P : Program} {o : Oper} {s : St}
theorem op_store {t : TypeId} {p x : Operand} {k off n : Nat} {ty : TypeId} {cs : List AV} {y : AV} (h : o.op = .store t p x) (hp : ev s.fr p = .ptr k off) (hx : ev s.fr x = y) (hk : s.m.blks[k]? = some (some (.cells ty cs))) (hn : (P.info? t).map (·.size) = some n)
    (hy : (flat y).all AV.one = true) (hyl : (flat y).length = n) (hle : off + n ≤ cs.length) : AOpU P o s { s.m with blks := s.m.blks.set k (some (.cells ty (splice cs off (flat y)))) } := by
  intro G C0 C a w hg
  have h1 := hg.ev p
  rw [hp] at h1
  obtain ⟨g, hρ, hpv⟩ := h1.ptr_inv
  have h2 := hg.ev x
  rw [hx] at h2
  obtain ⟨us, hus, hru, hone⟩ := h2.flat hy
  obtain ⟨vs, hh, hr, hvone⟩ := hg.block hk hρ
  have hul : us.length = n := by rw [← hru.1]; exact hyl
  obtain ⟨w', hrun, hh', hs', hb', e1, e2, e3⟩ := run_storeCells' (P := P) g ty us off 0 w vs hh (by rw [← hr.1]; omega) hone
  refine ⟨C, w', ?_, .refl C, ?_⟩
  · simp [execOp, h, hpv, Instr.storeAt, Instr.sureAddr, storeVar, run_sizeOf' hn, hus, hul, hrun]
  · refine hg.mem.write hk hρ e1 e2 e3 (Nat.le_of_eq hs'.symm) (fun b _ hb => hb' b hb) ⟨_, hh', hr.splice hru (by rw [hyl]; exact hle), fun u hu => ?_⟩
    simp only [Nat.add_zero, spliceV, List.mem_append] at hu
    rcases hu with (hu | hu) | hu
    · exact hvone u (List.mem_of_mem_take hu)
    · exact hone u hu
    · exact hvone u (List.mem_of_mem_drop hu)
/-- A new block of cells. -/
theorem memok_box {G : Env} {C : Cfg} {m : Mem} {w : World} (h : MemOk G C m w) {ys : List AV} {us : List Value} (ty : TypeId) (hr : Reps C ys us) (hone : ∀ u ∈ us, u.oneCell' = true) :
    MemOk G (C.addB w.heap.size) (m.addB (.cells ty ys)) (w.alloc (.cells us.toArray ty)) ∧ Rep (C.addB w.heap.size) (.ptr m.blks.length 0) (.pointer (some ⟨w.heap.size, 0, none⟩)) := by
  refine ⟨h.alloc _ ⟨us, heap_alloc_new w _, hr.mono (.refl C), hone⟩, .ptr _ _ _ ?_⟩
  show (C.ρ ++ [w.heap.size])[m.blks.length]? = _
  rw [← h.ρlen]; simp
theorem op_box {t : TypeId} {x : Operand} {y : AV} (h : o.op = .box t x) (hx : ev s.fr x = y) (hy : (flat y).all AV.one = true) : AOp P o s (.ptr s.m.blks.length 0) (s.m.addB (.cells t (flat y))) := by
  intro G C0 C a w hg
  have h2 := hg.ev x
  rw [hx] at h2
  obtain ⟨us, hus, hru, hone⟩ := h2.flat hy
  obtain ⟨a1, a2⟩ := memok_box hg.mem t hru hone
  exact ⟨_, _, _, by simp [execOp, h, Instr.box, newVar, newRow, hus], C.le_addB _, a1, a2⟩
def zeroOf (z : Value) : List AV := z.cells.toList.map ofV
theorem reps_zero (C : Cfg) (z : Value) : Reps C (zeroOf z) z.cells.toList := by
  refine ⟨by simp [zeroOf], fun j x v hx hv => ?_⟩
  simp only [zeroOf, List.getElem?_map, hv, Option.map_some, Option.some.injEq] at hx
  subst hx
  exact ofV_rep C v
theorem op_alloc {t : TypeId} {z : Value} {ys : List AV} (h : o.op = .alloc t) (hz : (P.info? t).map (·.zero) = some (some z)) (hone : z.cells.toList.all (·.oneCell') = true) (hys : zeroOf z = ys) : AOp P o s (.ptr s.m.blks.length 0) (s.m.addB (.cells t ys)) := by
  intro G C0 C a w hg
  subst hys
  obtain ⟨a1, a2⟩ := memok_box hg.mem t (reps_zero C z) (fun u hu => List.all_eq_true.1 hone u hu)
  obtain ⟨i, hi, hzi⟩ := Option.map_eq_some_iff.1 hz
  refine ⟨_, _, _, ?_, C.le_addB _, a1, a2⟩
  simp [execOp, h, Instr.alloc, zeroValue, typeInfo, hi, hzi, newVar, newRow]
end
end Go.Av
set_option linter.unusedVariables false
set_option linter.unusedSectionVars false
set_option linter.unusedSimpArgs false
namespace Go.Av
open Go.RowKit
variable [Tab]
theorem flatten_at {sz : Nat} : ∀ {els : List (List AV)}, (∀ (i : Nat) (cs : List AV), els[i]? = some cs → cs.length = sz) → ∀ {i j : Nat} {cs : List AV} {x : AV}, els[i]? = some cs → cs[j]? = some x → els.flatten[i * sz + j]? = some x
  | [], _, i, j, cs, x, h, _ => by simp at h
  | c :: r, hz, i, j, cs, x, h, hj => by
    have hc := hz 0 c rfl
    cases i with
    | zero =>
      simp at h; subst h
      have := (List.getElem?_eq_some_iff.1 hj).1
      rw [List.flatten_cons, Nat.zero_mul, Nat.zero_add, List.getElem?_append_left this]
      exact hj
    | succ i =>
      have ih := flatten_at (els := r) (fun i cs h => hz (i + 1) cs (by simpa using h)) (i := i) (by simpa using h) hj
      rw [List.flatten_cons, List.getElem?_append_right (by rw [hc, Nat.succ_mul]; omega), hc, show (i + 1) * sz + j - sz = i * sz + j by rw [Nat.succ_mul]; omega]
      exact ih
theorem flatten_length {sz : Nat} : ∀ {els : List (List AV)}, (∀ (i : Nat) (cs : List AV), els[i]? = some cs → cs.length = sz) → els.flatten.length = els.length * sz
  | [], _ => by simp
  | c :: r, hz => by
    have hc := hz 0 c rfl
    have ih := flatten_length (els := r) (fun i cs h => hz (i + 1) cs (by simpa using h))
    rw [List.flatten_cons, List.length_append, hc, ih, List.length_cons, Nat.succ_mul]; omega
theorem flatten_back {sz : Nat} : ∀ {els : List (List AV)}, (∀ (i : Nat) (cs : List AV), els[i]? = some cs → cs.length = sz) → ∀ {o : Nat} {x : AV}, els.flatten[o]? = some x → ∃ cs, els[o / sz]? = some cs ∧ cs[o % sz]? = some x
  | [], _, o, x, h => by simp at h
  | c :: r, hz, o, x, h => by
    have hc := hz 0 c rfl
    have hr : ∀ (i : Nat) (cs : List AV), r[i]? = some cs → cs.length = sz := fun i cs h => hz (i + 1) cs (by simpa using h)
    rw [List.flatten_cons] at h
    by_cases ho : o < sz
    · rw [List.getElem?_append_left (by omega)] at h
      exact ⟨c, by rw [Nat.div_eq_of_lt ho]; rfl, by rw [Nat.mod_eq_of_lt ho]; exact h⟩
    · rw [List.getElem?_append_right (by omega), hc] at h
      by_cases hs : sz = 0
      · have := flatten_length hr
        rw [hs, Nat.mul_zero] at this
        have := (List.getElem?_eq_some_iff.1 h).1
        omega
      · obtain ⟨cs, h1, h2⟩ := flatten_back hr h
        refine ⟨cs, ?_, ?_⟩
        · rw [show o / sz = (o - sz) / sz + 1 by rw [← Nat.add_div_right _ (by omega)]; congr 1; omega]
          simpa using h1
        · rw [show o % sz = (o - sz) % sz by rw [← Nat.add_mod_right (o - sz) sz]; congr 1; omega]
          exact h2
/-- Cells of the pool, one behind the other. -/
def Row (C : Cfg) (b off : Nat) (cs : List AV) (ys : List Value) : Prop := Reps C cs ys ∧ ∀ (o : Nat) (u : Value), ys[o]? = some u → C.pool b (off + o) = some u
theorem Rep.sl_inv {C : Cfg} {st : Option Nat} {sz : Nat} {els : List (List AV)} {v : Value} (h : Rep C (.sl st sz els) v) :
    ∃ (A : Option Addr) (c b off : Nat) (ys : List Value), v = .slice A els.length c ∧ els.length ≤ c ∧ c ≤ 9223372036854775807 ∧ (A = none → c = 0) ∧ (∀ t, st = some t → C.τ[t]? = some v) ∧ (0 < els.length → A = some ⟨b, off, none⟩) ∧ (∀ (i : Nat) (cs : List AV), els[i]? = some cs → cs.length = sz) ∧ Row C b off els.flatten ys := by
  cases h with
  | sl _ _ _ A n c b off vals hl hc hm hN hst hA hz hp h =>
    subst hl
    refine ⟨A, c, b, off, (List.range els.flatten.length).map fun o => vals (o / sz) (o % sz), rfl, hc, hm, hN, hst, hA, hz, ⟨⟨by simp, fun j x v hx hv => ?_⟩, fun o u hu => ?_⟩⟩
    · obtain ⟨cs, h1, h2⟩ := flatten_back hz hx
      rw [List.getElem?_map] at hv
      obtain ⟨i, hi, he⟩ := Option.map_eq_some_iff.1 hv
      obtain ⟨hlt, hi'⟩ := List.getElem?_eq_some_iff.1 hi
      rw [List.getElem_range] at hi'
      subst hi'; subst he
      exact h _ _ _ _ h1 h2
    · rw [List.getElem?_map] at hu
      obtain ⟨i, hi, he⟩ := Option.map_eq_some_iff.1 hu
      obtain ⟨hlt, hi'⟩ := List.getElem?_eq_some_iff.1 hi
      rw [List.getElem_range] at hi'
      rw [List.length_range] at hlt
      subst hi'; subst he
      obtain ⟨cs, h1, h2⟩ := flatten_back hz (List.getElem?_eq_getElem hlt)
      have := hp _ _ _ _ h1 h2
      rw [← this]
      congr 2
      rw [Nat.mul_comm]; exact (Nat.div_add_mod o sz).symm
theorem Rep.sl_mk {C : Cfg} {st : Option Nat} {sz : Nat} {els : List (List AV)} {A : Option Addr} {c b off : Nat} {ys : List Value} (hc : els.length ≤ c) (hm : c ≤ 9223372036854775807) (hN : A = none → c = 0) (hst : ∀ t, st = some t → C.τ[t]? = some (.slice A els.length c)) (hA : 0 < els.length → A = some ⟨b, off, none⟩)
    (hz : ∀ (i : Nat) (cs : List AV), els[i]? = some cs → cs.length = sz) (hr : Row C b off els.flatten ys) : Rep C (.sl st sz els) (.slice A els.length c) := by
  have hlt : ∀ {i j : Nat} {cs : List AV} {x : AV}, els[i]? = some cs → cs[j]? = some x → ∃ h : i * sz + j < ys.length, Rep C x (ys[i * sz + j]'h) := fun h1 h2 => by
    have h3 := flatten_at hz h1 h2
    obtain ⟨v, hv, hrep⟩ := hr.1.at h3
    obtain ⟨hl, he⟩ := List.getElem?_eq_some_iff.1 hv
    exact ⟨hl, by rw [he]; exact hrep⟩
  refine .sl st sz els A els.length c b off (fun i j => ys.getD (i * sz + j) undef) rfl hc hm hN hst hA hz (fun i cs j x h1 h2 => ?_) (fun i cs j x h1 h2 => ?_)
  · obtain ⟨hl, _⟩ := hlt h1 h2
    have := hr.2 (i * sz + j) _ (List.getElem?_eq_getElem hl)
    rw [this, List.getD_eq_getElem?_getD, List.getElem?_eq_getElem hl]; rfl
  · obtain ⟨hl, hrep⟩ := hlt h1 h2
    show Rep C x (ys.getD (i * sz + j) undef)
    rw [List.getD_eq_getElem?_getD, List.getElem?_eq_getElem hl]; exact hrep
/-- One more row of the pool: cells of block g from 0 on. -/
theorem pool_addRow (C : Cfg) (g : Nat) (ys : List Value) (hc : ∀ o u, C.pool g o = some u → o < ys.length → ys[o]? = some u) (b o : Nat) (v : Value) (h : C.pool b o = some v) : (if b = g ∧ o < ys.length then ys[o]? else C.pool b o) = some v := by
  split
  · rename_i hh; obtain ⟨rfl, ho⟩ := hh; exact hc o v h ho
  · exact h
def Cfg.addRow (C : Cfg) (g : Nat) (ys : List Value) (hc : ∀ o u, C.pool g o = some u → o < ys.length → ys[o]? = some u) : Cfg := { C with pool := fun b o => if b = g ∧ o < ys.length then ys[o]? else C.pool b o, has := Tab.mono _ _ (pool_addRow C g ys hc) C.has }
theorem Cfg.le_addRow (C : Cfg) (g : Nat) (ys : List Value) (hc : ∀ o u, C.pool g o = some u → o < ys.length → ys[o]? = some u) : C.Le (C.addRow g ys hc) :=
  ⟨fun b o v h => by
    show (if b = g ∧ o < ys.length then ys[o]? else C.pool b o) = some v
    split
    · rename_i hh; obtain ⟨rfl, ho⟩ := hh; exact hc o v h ho
    · exact h, fun _ _ h => h, fun _ _ h => h⟩
theorem Cfg.addRow_row (C : Cfg) (g : Nat) (ys : List Value) (hc : ∀ o u, C.pool g o = some u → o < ys.length → ys[o]? = some u) (o : Nat) (u : Value) (h : ys[o]? = some u) : (C.addRow g ys hc).pool g (0 + o) = some u := by
  have := (List.getElem?_eq_some_iff.1 h).1
  show (if g = g ∧ 0 + o < ys.length then ys[0 + o]? else C.pool g (0 + o)) = some u
  rw [Nat.zero_add, if_pos ⟨rfl, this⟩]; exact h
/-- Behind an append, a make, a literal: block g holds ys at its head; g is new, or was a stamp's that has died. -/
theorem MemOk.row {G : Env} {C : Cfg} {m m' : Mem} {w w' : World} (h : MemOk G C m w) (hf : m'.Fewer m) {g e sz N cap : Nat} {cur : Array Value} {ys : List Value}
    (os : w'.os = w.os) (tape : w'.tape = w.tape) (output : w'.output = w.output) (size : w.heap.size ≤ w'.heap.size) (keep : ∀ b, b < w.heap.size → b ≠ g → w'.heap[b]? = w.heap[b]?)
    (hh : w'.heap[g]? = some (.cells cur e (0, 0))) (h1 : N ≤ cap) (h2 : cap ≤ maxLen) (h3 : cur.size = cap * sz) (h4 : cur.toList.take (N * sz) = ys) (h5 : ys.length = N * sz) (hone : ∀ u ∈ ys, u.oneCell' = true) (hp : ¬ G.prot g)
    (hin : ∀ o u, C.pool g o = some u → o < ys.length ∧ ys[o]? = some u)
    (hb : ∀ (k : Nat) (B : ABlk), m'.blks[k]? = some (some B) → C.ρ[k]? ≠ some g) (hl : ∀ (t : Nat) (p : Live) (v : Value), m'.lives[t]? = some (some p) → C.τ[t]? = some v → v.ownBlock ≠ some g) :
    C.Le ((C.addRow g ys fun o u h _ => (hin o u h).2).addS (.slice (some ⟨g, 0, none⟩) N cap)) ∧ MemOk G ((C.addRow g ys fun o u h _ => (hin o u h).2).addS (.slice (some ⟨g, 0, none⟩) N cap)) (m'.addS e sz) w' := by
  have hle : C.Le (C.addRow g ys fun o u h _ => (hin o u h).2) := C.le_addRow g ys fun o u ho _ => (hin o u ho).2
  have hcell : ∀ o u, ys[o]? = some u → w'.cell? ⟨g, o, none⟩ = some u := fun o u ho => by
    have hlt := (List.getElem?_eq_some_iff.1 ho).1
    rw [← h4, List.getElem?_take, if_pos (by omega)] at ho
    simp only [World.cell?, hh, Option.isSome_none, Bool.false_eq_true, if_false]
    simpa using ho
  have h0 : MemOk G (C.addRow g ys fun o u h _ => (hin o u h).2) m' w' := by
    refine h.turn hf hle rfl rfl os tape output size (fun b => b = g) (fun b e => e ▸ hp) (fun b hb hx => keep b hb hx) (fun b o v hpv => ?_) (fun b o v hpv => ?_) (fun k B g' a1 a2 e => hb k B a1 (e ▸ a2)) (fun t p v g' a1 a2 a3 e => hl t p v a1 a2 (e ▸ a3))
    · simp only [Cfg.addRow] at hpv
      split at hpv
      · rename_i hh'
        obtain ⟨rfl, ho⟩ := hh'
        exact ⟨hcell o v hpv, hone v (List.mem_of_getElem? hpv)⟩
      · rename_i hh'
        have hne : b ≠ g := fun e => by
          subst e
          exact hh' ⟨rfl, (hin o v hpv).1⟩
        exact ⟨(World.cell?_of_block (w := w) (keep b (h.poolLt hpv) hne)).trans (h.pool b o v hpv).1, (h.pool b o v hpv).2⟩
    · simp only [Cfg.addRow] at hpv
      split at hpv
      · rename_i hh'; exact .inr (.inl hh'.1)
      · exact .inl hpv
  refine ⟨hle.trans (Cfg.le_addS _ _), h0.addS (.inr ⟨g, N, cap, cur, rfl, hh, h1, h2, h3, hp, fun o ho => ?_⟩) (fun k B g' a1 a2 a3 => ?_) (fun t p v' g' a1 a2 a3 a4 => ?_)⟩
  · simp only [Cfg.addRow]
    rw [if_neg (by rw [h5]; omega)]
    cases hc : C.pool g o with
    | none => rfl
    | some u => have := (hin o u hc).1; omega
  · simp only [Value.ownBlock, Option.some.injEq] at a3
    exact hb k B a1 (a3 ▸ a2)
  · simp only [Value.ownBlock, Option.some.injEq] at a4
    exact hl t p v' a1 a2 (a4 ▸ a3)
theorem run_append_three {P : Program} (w : World) {t ty e : TypeId} {i : TypeInfo} {z : Value} {size bytes : Nat} (ht : P.underlying t = some (.slice e)) (hi : P.info? e = some i) (hz : i.zero = some z)
    (hsize : i.size = size) (hby : i.bytes = bytes) (hzs : z.cells.size = size) {v : Value} {n : Nat} {xs : List Value}
    (hv : (∃ A, v = .slice A 0 0 ∧ n = 0 ∧ xs = []) ∨ ∃ g cap cur, v = .slice (some ⟨g, 0, none⟩) n cap ∧ w.heap[g]? = some (.cells cur e (0, 0)) ∧ n ≤ cap ∧ cap ≤ maxLen ∧ cur.size = cap * size ∧ cur.toList.take (n * size) = xs)
    (hxl : xs.length = n * size) {A : Option Addr} {m c : Nat} {news : List Value} (hN : A = none → c = 0 ∧ m = 0) (hl : news.length = m * size) (hnews : ∀ a, A = some a → ∀ j u, news[j]? = some u → w.cell? (a.add j) = some u) (h1 : ∀ u ∈ news, u.oneCell' = true)
    (hbytes : (n + m) * bytes ≤ 140737488355328) (h63 : n + m ≤ 9223372036854775807) :
    ∃ v' w', (Builtin.append_ #[t, t] ty #[v, .slice A m c]).run P w = .ok v' w' ∧
      ((v' = v ∧ w' = w ∧ news = [] ∧ m = 0) ∨ ∃ g cap cur, v' = .slice (some ⟨g, 0, none⟩) (n + m) cap ∧ w'.heap[g]? = some (.cells cur e (0, 0)) ∧ n + m ≤ cap ∧ cap ≤ maxLen ∧ cur.size = cap * size ∧ cur.toList.take ((n + m) * size) = xs ++ news ∧
        w'.os = w.os ∧ w'.tape = w.tape ∧ w'.output = w.output ∧ w.heap.size ≤ w'.heap.size ∧ (∀ b, b < w.heap.size → b ≠ g → w'.heap[b]? = w.heap[b]?) ∧ ((∃ cap', v = .slice (some ⟨g, 0, none⟩) n cap' ∧ n < cap') ∨ g = w.heap.size)) := by
  subst hsize
  subst hby
  have hlen : (xs ++ news).length = (n + m) * i.size := by rw [List.length_append, hxl, hl, Nat.add_mul]
  by_cases hm : m = 0
  · subst hm
    have hn : news = [] := List.eq_nil_of_length_eq_zero (by simpa using hl)
    subst hn
    refine ⟨v, w, ?_, .inl ⟨rfl, rfl, rfl, rfl⟩⟩
    have hfirst : (Builtin.firstCells i.size 0 (.slice A 0 c)).run P w = .ok #[] w := by
      cases A <;> simp [Builtin.firstCells, loadCells, loadCellsFrom]
    rcases hv with ⟨A', rfl, rfl, rfl⟩ | ⟨g, cap, cur, rfl, _, hnc, _⟩
    · cases A' <;> simp [Builtin.append_, run_underlying ht, sizeOf, typeInfo, hi, Builtin.lenOf, hfirst, storeCells]
    · simp [Builtin.append_, run_underlying ht, sizeOf, typeInfo, hi, Builtin.lenOf, hfirst, hnc, storeCells]
  · obtain ⟨a, rfl⟩ : ∃ a, A = some a := by
      cases A with
      | none => exact absurd (hN rfl).2 hm
      | some a => exact ⟨a, rfl⟩
    have hnews := hnews a rfl
    have hmax : n + m ≤ maxLen := by unfold maxLen; omega
    have grown : ∀ (old : Nat), old < n + m →
        (w.drew.alloc (.cells (xs.toArray ++ news.toArray ++ Builtin.zeroCells z.cells (grownCap w (n + m) old e - (n + m))) e)).heap[w.heap.size]? = some (.cells (xs.toArray ++ news.toArray ++ Builtin.zeroCells z.cells (grownCap w (n + m) old e - (n + m))) e (0, 0)) ∧ n + m ≤ grownCap w (n + m) old e ∧ grownCap w (n + m) old e ≤ maxLen ∧
        (xs.toArray ++ news.toArray ++ Builtin.zeroCells z.cells (grownCap w (n + m) old e - (n + m))).size = grownCap w (n + m) old e * i.size ∧ (xs.toArray ++ news.toArray ++ Builtin.zeroCells z.cells (grownCap w (n + m) old e - (n + m))).toList.take ((n + m) * i.size) = xs ++ news := by
      intro old ho
      have hge := grownCap_ge w (n + m) old e
      have hcm : grownCap w (n + m) old e ≤ maxLen := grownCap_le_maxLen w (n + m) old e hmax
      refine ⟨heap_alloc_new w.drew _, hge, hcm, ?_, ?_⟩
      · simp only [Array.size_append, List.size_toArray, size_zeroCells, hzs, hxl, hl, ← Nat.add_mul]
        congr 1
        omega
      · simp only [Array.toList_append, List.append_assoc]
        rw [← List.append_assoc, ← hlen]
        exact List.take_left
    rcases hv with ⟨A', rfl, rfl, rfl⟩ | ⟨g, cap, cur, rfl, hg, hnc, hcm, hcs, htake⟩
    · simp only [Nat.zero_add, List.nil_append] at hbytes hmax grown ⊢
      obtain ⟨g1, g2, g3, g4, g5⟩ := grown 0 (by omega)
      cases A' with
      | none =>
        have hr := run_append_nil (P := P) w t ty e i z ht hi hz a m c news hl hnews (by omega) (by omega) (by omega)
        exact ⟨_, _, hr, .inr ⟨_, _, _, rfl, by simpa using g1, g2, g3, by simpa using g4, by simpa using g5, rfl, rfl, rfl, by simp, fun b hb _ => Below.heap_alloc w.drew _ b hb, .inr rfl⟩⟩
      | some b0 =>
        have hr := run_append_grow (P := P) w t ty e i z ht hi hz b0 0 0 [] (by simp) (by intro j v hj; simp at hj) a m c news hl hnews (by omega) (by omega) (growslice_fits (by omega) (by simpa using hbytes))
        simp only [Nat.zero_add] at hr
        exact ⟨_, _, hr, .inr ⟨_, _, _, rfl, by simpa using g1, g2, g3, by simpa using g4, by simpa using g5, rfl, rfl, rfl, by simp, fun b hb _ => Below.heap_alloc w.drew _ b hb, .inr rfl⟩⟩
    · by_cases hroom : n + m ≤ cap
      · have hfit : n * i.size + news.length ≤ cur.size := by rw [hl, hcs, ← Nat.add_mul]; exact Nat.mul_le_mul_right _ hroom
        have hr := run_append_room (P := P) w t ty e i ht hi g n cap cur hg a m c news hl hnews h1 hroom hfit
        refine ⟨_, _, hr, .inr ⟨g, cap, _, rfl, setRow_heap w g cur _ e _ hg, hroom, hcm, ?_, ?_, rfl, rfl, rfl, by simp, fun k _ hk => setRow_other w g k _ hk, .inl ⟨cap, rfl, by omega⟩⟩⟩
        · simp only [List.size_toArray, List.length_append, List.length_take, List.length_drop, Array.length_toList]
          omega
        · rw [htake, ← hlen]
          exact List.take_left
      · have hcur : ∀ j v, xs[j]? = some v → w.cell? ((⟨g, 0, none⟩ : Addr).add j) = some v := by
          intro j v hj
          rw [← htake, List.getElem?_take] at hj
          split at hj
          · rw [addr_add, Nat.zero_add]
            simp only [World.cell?, hg, Option.isSome_none, Bool.false_eq_true, if_false]
            simpa using hj
          · cases hj
        obtain ⟨g1, g2, g3, g4, g5⟩ := grown cap (by omega)
        have hr := run_append_grow (P := P) w t ty e i z ht hi hz ⟨g, 0, none⟩ n cap xs hxl hcur a m c news hl hnews (by omega) (by omega) (growslice_fits (by omega) hbytes)
        exact ⟨_, _, hr, .inr ⟨_, _, _, rfl, g1, g2, g3, g4, g5, rfl, rfl, rfl, by simp, fun b hb _ => Below.heap_alloc w.drew _ b hb, .inr rfl⟩⟩
end Go.Av
set_option linter.unusedVariables false
set_option linter.unusedSectionVars false
set_option linter.unusedSimpArgs false
namespace Go.Av
open Go.RowKit
variable [Tab]
/-- What append takes of the element type e: its zero, its size in cells and in bytes. -/
def Elem (P : Program) (t e : TypeId) (size bytes : Nat) : Prop := P.underlying t = some (.slice e) ∧ ∃ z, (P.info? e).map (fun i => (i.zero, i.size, i.bytes)) = some (some z, size, bytes) ∧ z.cells.size = size
def Mem.kill (m : Mem) (t : Nat) : Mem := { m with lives := m.lives.set t none }
def Mem.addDead (m : Mem) : Mem := { m with lives := m.lives ++ [none] }
theorem Mem.kill_fewer (m : Mem) (t : Nat) : (m.kill t).Fewer m := by
  refine ⟨rfl, by simp [Mem.kill], fun _ _ h => h, fun k p h => ?_⟩
  simp only [Mem.kill] at h
  by_cases e : k = t
  · subst e
    have hl := (List.getElem?_eq_some_iff.1 h).1
    rw [List.getElem?_set_self (by simpa using hl)] at h; cases h
  · rwa [List.getElem?_set_ne (Ne.symm e)] at h
theorem Mem.kill_not {m : Mem} {t k : Nat} {p : Live} (h : (m.kill t).lives[k]? = some (some p)) : k ≠ t := by
  rintro rfl
  simp only [Mem.kill] at h
  have hl := (List.getElem?_eq_some_iff.1 h).1
  rw [List.getElem?_set_self (by simpa using hl)] at h; cases h
/-- A source that is appended: its cells. -/
def Src : AV → Nat → List (List AV) → Prop
  | .sl _ sz els, n, es => n = sz ∧ es = els
  | .zs _, _, es => es = []
  | _, _, _ => False
theorem src_row {G : Env} {C : Cfg} {m : Mem} {w : World} (hm : MemOk G C m w) {x : AV} {u : Value} {sz : Nat} {els : List (List AV)} (h : Rep C x u) (hs : Src x sz els) :
    ∃ A c news, u = .slice A els.length c ∧ (A = none → c = 0 ∧ els.length = 0) ∧ (∀ (i : Nat) (cs : List AV), els[i]? = some cs → cs.length = sz) ∧ Reps C els.flatten news ∧ news.length = els.length * sz ∧ (∀ a, A = some a → ∀ (j : Nat) (v : Value), news[j]? = some v → w.cell? (a.add j) = some v) ∧ ∀ v ∈ news, v.oneCell' = true := by
  cases x <;> simp only [Src] at hs
  case sl st sz' els' =>
    obtain ⟨rfl, rfl⟩ := hs
    obtain ⟨A, c, b, off, ys, rfl, hc, hm', hN, hst, hA, hz, hr, hp⟩ := h.sl_inv
    refine ⟨A, c, ys, rfl, fun e => ⟨hN e, by have := hN e; omega⟩, hz, hr, by rw [← hr.1, flatten_length hz], fun a ha j v hv => ?_, fun v hv => ?_⟩
    · have hlt := (List.getElem?_eq_some_iff.1 hv).1
      rw [← hr.1, flatten_length hz] at hlt
      have hpos : 0 < els.length := by
        rcases Nat.eq_zero_or_pos els.length with h0 | h0
        · rw [h0, Nat.zero_mul] at hlt; omega
        · exact h0
      have := hA hpos
      rw [ha] at this
      injection this with this
      subst this
      rw [addr_add]
      exact (hm.pool _ _ _ (hp j v hv)).1
    · obtain ⟨j, hj⟩ := List.getElem?_of_mem hv
      exact (hm.pool _ _ _ (hp j v hj)).2
  case zs b =>
    subst hs
    obtain ⟨A, rfl, _⟩ := h.zs_inv
    exact ⟨A, 0, [], rfl, fun _ => ⟨rfl, rfl⟩, fun i cs h => by simp at h, .nil C, by simp, fun a _ j v hv => by simp at hv, fun v hv => by simp at hv⟩
section
variable {P : Program} {o : Oper} {s : St}
theorem append_exec {t : TypeId} {x y : Operand} {a : Act} {u v : Value} (h : o.op = .call { callee := .builtin .append, args := #[x, y], argTypes := #[t, t] }) (hx : a.eval x = u) (hy : a.eval y = v) {w w' : World} {r : Value} (hr : (Builtin.append_ #[t, t] o.type #[u, v]).run P w = .ok r w') :
    (execOp a.eval o).run P w = .ok (.value r) w' := by
  unfold execOp
  simp only [h, resolve, invoke, builtin, Sem.run_bind, Sem.run_pure, Result.andThen_ok, List.map_toArray, List.map_cons, List.map_nil, hx, hy, hr]
/-- Can g be written behind u's length? -/
def Spare (u : Value) (n g : Nat) : Prop := ∃ cap, u = .slice (some ⟨g, 0, none⟩) n cap ∧ n < cap
theorem append_core {G : Env} {C : Cfg} {m m' : Mem} {w : World} (hm : MemOk G C m w) {t ty e : TypeId} {sz bytes : Nat} (hE : Elem P t e sz bytes) {u : Value} {els es : List (List AV)} {ys news : List Value} {A2 : Option Addr} {c2 : Nat}
    (hv : (∃ A, u = .slice A 0 0 ∧ els.length = 0 ∧ ys = []) ∨ ∃ g cap cur, u = .slice (some ⟨g, 0, none⟩) els.length cap ∧ w.heap[g]? = some (.cells cur e (0, 0)) ∧ els.length ≤ cap ∧ cap ≤ maxLen ∧ cur.size = cap * sz ∧ cur.toList.take (els.length * sz) = ys)
    (hr : Reps C els.flatten ys) (hz : ∀ (i : Nat) (cs : List AV), els[i]? = some cs → cs.length = sz) (hone1 : ∀ u ∈ ys, u.oneCell' = true) (hf : m'.Fewer m)
    (hs : ∀ g, Spare u els.length g → ¬ G.prot g ∧ (∀ o v, C.pool g o = some v → o < els.length * sz) ∧ (∀ (k' : Nat) (B : ABlk), m'.blks[k']? = some (some B) → C.ρ[k']? ≠ some g) ∧ ∀ (t' : Nat) (p : Live) (v2 : Value), m'.lives[t']? = some (some p) → C.τ[t']? = some v2 → v2.ownBlock ≠ some g)
    (hN2 : A2 = none → c2 = 0 ∧ es.length = 0) (hz2 : ∀ (i : Nat) (cs : List AV), es[i]? = some cs → cs.length = sz) (hr2 : Reps C es.flatten news) (hl2 : news.length = es.length * sz) (hc2 : ∀ a, A2 = some a → ∀ (j : Nat) (v : Value), news[j]? = some v → w.cell? (a.add j) = some v) (hone2 : ∀ v ∈ news, v.oneCell' = true)
    (hb : (els.length + es.length) * bytes ≤ 140737488355328) (h63 : els.length + es.length ≤ 9223372036854775807) :
    ∃ v' w', (Builtin.append_ #[t, t] ty #[u, .slice A2 es.length c2]).run P w = .ok v' w' ∧
      ((v' = u ∧ w' = w ∧ es = []) ∨ ∃ C', C.Le C' ∧ MemOk G C' (m'.addS e sz) w' ∧ Rep C' (.sl (some m.lives.length) sz (els ++ es)) v') := by
  obtain ⟨ht, z0, hi0, hzs⟩ := hE
  obtain ⟨i, hi, hii⟩ := Option.map_eq_some_iff.1 hi0
  simp only [Prod.mk.injEq] at hii
  obtain ⟨hiz, his, hib⟩ := hii
  have hyl : ys.length = els.length * sz := by rw [← hr.1, flatten_length hz]
  obtain ⟨v', w', hrun, hcase⟩ := run_append_three (P := P) w (ty := ty) ht hi hiz his hib hzs hv hyl hN2 hl2 hc2 hone2 hb h63
  refine ⟨v', w', hrun, ?_⟩
  rcases hcase with ⟨h1, h2, h3, h4⟩ | ⟨g, cap, cur, rfl, c1, c2', c3, c4, c5, e1, e2, e3, e4, e5, e6⟩
  · exact .inl ⟨h1, h2, List.eq_nil_of_length_eq_zero h4⟩
  refine .inr ?_
  have hzz : ∀ (i : Nat) (cs : List AV), (els ++ es)[i]? = some cs → cs.length = sz := by
    intro i cs hi
    by_cases hlt : i < els.length
    · rw [List.getElem?_append_left hlt] at hi; exact hz i cs hi
    · rw [List.getElem?_append_right (by omega)] at hi; exact hz2 _ cs hi
  have hrr : Reps C (els ++ es).flatten (ys ++ news) := by rw [List.flatten_append]; exact hr.append hr2
  have hprot : ¬ G.prot g := by
    rcases e6 with e6 | e6
    · exact (hs g e6).1
    · intro hp'; have := hm.old g hp'; have := hm.size; omega
  have hNl : (ys ++ news).length = (els.length + es.length) * sz := by rw [List.length_append, hyl, hl2, Nat.add_mul]
  have hlen2 : els.length + es.length = (els ++ es).length := by simp
  rw [hlen2] at c2' c5 hNl
  have hin : ∀ o u, C.pool g o = some u → o < (ys ++ news).length ∧ (ys ++ news)[o]? = some u := fun o' v hpv => by
      rcases e6 with e6 | e6
      · have hlt := (hs g e6).2.1 o' v hpv
        refine ⟨by rw [List.length_append, hyl]; omega, ?_⟩
        rw [List.getElem?_append_left (by omega)]
        obtain ⟨cap', he, hlc⟩ := e6
        rcases hv with ⟨A', hA', _, _⟩ | ⟨g1, cap1, cur1, b1, b2, b3, b4, b5, b6⟩
        · rw [he] at hA'; injection hA' with _ h2 h3; omega
        · rw [he] at b1
          injection b1 with b11 _ _
          injection b11 with b11
          injection b11 with b11
          subst b11
          have hc1 := (hm.pool _ _ _ hpv).1
          simp only [World.cell?, b2, Option.isSome_none, Bool.false_eq_true, if_false] at hc1
          rw [← b6, List.getElem?_take, if_pos hlt, ← hc1]; simp
      · have := hm.poolLt hpv; omega
  obtain ⟨hle, hmem⟩ := hm.row hf e1 e2 e3 e4 e5 c1 c2' c3 c4 c5 hNl (fun u hu => (List.mem_append.1 hu).elim (hone1 u) (hone2 u)) hprot hin
    (fun k' B h1 h2 => by
      rcases e6 with e6 | e6
      · exact (hs g e6).2.2.1 k' B h1 h2
      · have := (hm.blk k' B g (hf.b _ _ h1) h2).2.1.lt; omega)
    (fun t' p v2 h1 h2 h3 => by
      rcases e6 with e6 | e6
      · exact (hs g e6).2.2.2 t' p v2 h1 h2 h3
      · have := (hm.stp t' p v2 (hf.l _ _ h1) h2).lt h3; omega)
  refine ⟨_, hle, hmem, ?_⟩
  rw [hlen2]
  refine Rep.sl_mk c2' c3 (fun h => by cases h) (fun t ht => ?_) (fun _ => rfl) hzz ⟨hrr.mono hle, fun o' u hu => Cfg.addRow_row C g _ (fun o u h _ => (hin o u h).2) o' u hu⟩
  injection ht with ht
  subst ht
  show (C.τ ++ [_])[m.lives.length]? = _
  rw [← hm.τlen]; simp
theorem getElem?_last {α : Type} (l : List α) (x : α) (n : Nat) (h : l.length = n) : (l ++ [x])[n]? = some x := by subst h; simp
theorem op_append {t e : TypeId} {sz bytes k : Nat} {x y : Operand} {els es : List (List AV)} {z : AV} (h : o.op = .call { callee := .builtin .append, args := #[x, y], argTypes := #[t, t] }) (hE : Elem P t e sz bytes)
    (hx : ev s.fr x = .sl (some k) sz els) (hk : s.m.lives[k]? = some (some (.pl e sz))) (hy : ev s.fr y = z) (hs : Src z sz es) (hb : (els.length + es.length) * bytes ≤ 140737488355328) (h63 : els.length + es.length ≤ 9223372036854775807) :
    AOp P o s (.sl (some s.m.lives.length) sz (els ++ es)) ((s.m.kill k).addS e sz) := by
  intro G C0 C a w hg
  have hxr := hg.ev x
  rw [hx] at hxr
  obtain ⟨A, c, b, off, ys, hxv, hc, hm', hN, hst, hA, hz, hr, hp⟩ := hxr.sl_inv
  have hyr := hg.ev y
  rw [hy] at hyr
  obtain ⟨A2, c2, news, hyv, hN2, hz2, hr2, hl2, hc2, hone2⟩ := src_row hg.mem hyr hs
  have hτ := hst k rfl
  have hstp := hg.mem.stp k _ _ hk hτ
  have hyl : ys.length = els.length * sz := by rw [← hr.1, flatten_length hz]
  have hone1 : ∀ u ∈ ys, u.oneCell' = true := fun u hu => by
    obtain ⟨j, hj⟩ := List.getElem?_of_mem hu
    exact (hg.mem.pool _ _ _ (hp j u hj)).2
  have hbl : ∀ (k' : Nat) (B : ABlk) (g : Nat), (s.m.kill k).blks[k']? = some (some B) → C.ρ[k']? = some g → (a.eval x).ownBlock ≠ some g := fun k' B g h1 h2 => hg.mem.bdist k k' _ B _ g hk ((s.m.kill_fewer k).b _ _ h1) hτ h2
  have hll : ∀ (t' : Nat) (p : Live) (v2 : Value) (g : Nat), (s.m.kill k).lives[t']? = some (some p) → C.τ[t']? = some v2 → v2.ownBlock = some g → (a.eval x).ownBlock ≠ some g := fun t' p v2 g h1 h2 h3 h4 =>
    Mem.kill_not h1 (hg.mem.sdist t' k p _ v2 _ g ((s.m.kill_fewer k).l _ _ h1) hk h2 hτ h3 h4)
  have hv : (∃ A, a.eval x = .slice A 0 0 ∧ els.length = 0 ∧ ys = []) ∨ ∃ g cap cur, a.eval x = .slice (some ⟨g, 0, none⟩) els.length cap ∧ w.heap[g]? = some (.cells cur e (0, 0)) ∧ els.length ≤ cap ∧ cap ≤ maxLen ∧ cur.size = cap * sz ∧ cur.toList.take (els.length * sz) = ys := by
    rcases hstp with h0 | ⟨g, n, cap, cur, h0, h1, h2, h3, h4, h5, h6⟩
    · rw [hxv] at h0
      injection h0 with h01 h02 h03
      subst h01; subst h03
      exact .inl ⟨none, by rw [hxv, h02], h02, List.eq_nil_of_length_eq_zero (by rw [hyl, h02, Nat.zero_mul])⟩
    · have h0' := h0
      rw [hxv] at h0'
      injection h0' with h01 h02 h03
      subst h02; subst h03
      refine .inr ⟨g, _, cur, h0, h1, h2, h3, h4, ?_⟩
      rcases Nat.eq_zero_or_pos els.length with he | he
      · rw [he, Nat.zero_mul, List.take_zero]; exact (List.eq_nil_of_length_eq_zero (by rw [hyl, he, Nat.zero_mul])).symm
      · have hb' := hA he
        rw [h01] at hb'
        injection hb' with hb'
        injection hb' with hb1 hb2
        subst hb1; subst hb2
        apply List.ext_getElem?
        intro j
        rw [List.getElem?_take]
        split
        · rename_i hj
          have hjy : j < ys.length := by omega
          have := (hg.mem.pool _ _ _ (hp j _ (List.getElem?_eq_getElem hjy))).1
          rw [Nat.zero_add] at this
          simp only [World.cell?, h1, Option.isSome_none, Bool.false_eq_true, if_false] at this
          rw [List.getElem?_eq_getElem hjy, ← this]; simp
        · rename_i hj
          rw [List.getElem?_eq_none (by omega)]
  obtain ⟨v', w', hrun, hcase⟩ := append_core (P := P) hg.mem (ty := o.type) hE hv hr hz hone1 (s.m.kill_fewer k) (fun g hsp => by
      obtain ⟨cap, he, hlc⟩ := hsp
      have hob : (a.eval x).ownBlock = some g := by rw [he]; rfl
      refine ⟨hstp.notProt hob, fun o' v hpv => ?_, fun k' B h1 h2 => hbl k' B g h1 h2 hob, fun t' p v2 h1 h2 h3 => hll t' p v2 g h1 h2 h3 hob⟩
      rcases hstp with h0 | ⟨g2, n2, cap2, cur2, h0, h1, h2, h3, h4, h5, h6⟩
      · rw [he] at h0; injection h0 with h0; cases h0
      · rw [he] at h0
        injection h0 with h01 h02 _
        injection h01 with h01
        injection h01 with h01
        subst h01; subst h02
        rcases Nat.lt_or_ge o' (els.length * sz) with hlt | hge
        · exact hlt
        · rw [h6 o' hge] at hpv; cases hpv) hN2 hz2 hr2 hl2 hc2 hone2 hb h63
  have hexec := append_exec (P := P) h (rfl : a.eval x = a.eval x) hyv hrun
  rcases hcase with ⟨rfl, rfl, rfl⟩ | ⟨C', h1, h2, h3⟩
  · refine ⟨a.eval x, C.addS (a.eval x), w', hexec, C.le_addS _, ?_, ?_⟩
    · exact (hg.mem.turn (s.m.kill_fewer k) (.refl C) rfl rfl rfl rfl rfl (Nat.le_refl _) (fun _ => False) (fun _ h => h.elim) (fun _ _ _ => rfl) hg.mem.pool (fun _ _ _ h => .inl h) (fun _ _ _ _ _ h => h) (fun _ _ _ _ _ _ _ h => h)).addS hstp hbl hll
    · rw [List.append_nil, hxv]
      refine Rep.sl_mk hc hm' hN (fun t ht => ?_) hA hz ⟨hr.mono (C.le_addS _), hp⟩
      injection ht with ht
      subst ht
      exact getElem?_last _ _ _ hg.mem.τlen
  · exact ⟨v', C', w', hexec, h1, h2, h3⟩
/-- append to a slice without length and capacity: what comes is not stamped. -/
theorem op_append_zs {t e : TypeId} {sz bytes : Nat} {x y : Operand} {es : List (List AV)} {z : AV} {nl : Bool} (h : o.op = .call { callee := .builtin .append, args := #[x, y], argTypes := #[t, t] }) (hE : Elem P t e sz bytes)
    (hx : ev s.fr x = .zs nl) (hy : ev s.fr y = z) (hs : Src z sz es) (hb : es.length * bytes ≤ 140737488355328) (h63 : es.length ≤ 9223372036854775807) :
    AOp P o s (.sl none sz es) s.m.addDead := by
  intro G C0 C a w hg
  have hxr := hg.ev x
  rw [hx] at hxr
  obtain ⟨A, hxv, hA⟩ := hxr.zs_inv
  have hyr := hg.ev y
  rw [hy] at hyr
  obtain ⟨A2, c2, news, hyv, hN2, hz2, hr2, hl2, hc2, hone2⟩ := src_row hg.mem hyr hs
  obtain ⟨v', w', hrun, hcase⟩ := append_core (P := P) hg.mem (ty := o.type) (u := .slice A 0 0) (els := []) (ys := []) hE (.inl ⟨A, rfl, rfl, rfl⟩) (.nil C) (fun i cs h => by simp at h) (fun u hu => by simp at hu) (.refl s.m) (fun g hsp => by obtain ⟨cap, he, hlt⟩ := hsp; injection he; omega) hN2 hz2 hr2 hl2 hc2 hone2 (by simpa using hb) (by simpa using h63)
  have hexec := append_exec (P := P) h hxv hyv hrun
  have hdead : ∀ {C' : Cfg} {w' : World}, MemOk G C' (s.m.addS e sz) w' → MemOk G C' s.m.addDead w' := fun {C' w'} hm =>
    hm.turn ⟨rfl, by simp [Mem.addDead, Mem.addS, Mem.addL], fun _ _ h => h, fun k p h => by
      rcases getElem?_snoc h with h | ⟨_, h⟩
      · show (s.m.lives ++ [some (.pl e sz)])[k]? = _
        rw [List.getElem?_append_left (List.getElem?_eq_some_iff.1 h).1]; exact h
      · cases h⟩ (.refl C') rfl rfl rfl rfl rfl (Nat.le_refl _) (fun _ => False) (fun _ h => h.elim) (fun _ _ _ => rfl) hm.pool (fun _ _ _ h => .inl h) (fun _ _ _ _ _ h => h) (fun _ _ _ _ _ _ _ h => h)
  rcases hcase with ⟨rfl, rfl, rfl⟩ | ⟨C', h1, h2, h3⟩
  · refine ⟨_, C.addS (.slice none 0 0), w', hexec, C.le_addS _, hdead (hg.mem.addS (.inl rfl) (fun _ _ _ _ _ => by simp [Value.ownBlock]) (fun _ _ _ _ _ _ _ => by simp [Value.ownBlock])), ?_⟩
    refine Rep.sl_mk (els := []) (b := 0) (off := 0) (ys := []) (Nat.le_refl _) (by omega) (fun _ => rfl) (fun t ht => by cases ht) (fun h => by simp at h) (fun i cs h => by simp at h) ⟨.nil _, fun o u h => by simp at h⟩
  · obtain ⟨A', c', b, off, ys, rfl, q1, q2, q3, q4, q5, q6, q7⟩ := h3.sl_inv
    simp only [List.nil_append] at q1 q5 q6 q7
    exact ⟨_, C', w', hexec, h1, hdead h2, by simpa using Rep.sl_mk (st := none) q1 q2 q3 (fun t ht => by cases ht) q5 q6 q7⟩
end
end Go.Av
set_option linter.unusedVariables false
set_option linter.unusedSectionVars false
set_option linter.unusedSimpArgs false
namespace Go.Av
open Go.RowKit
variable [Tab]
/-- It hangs on the pool alone. -/
def Closed (x : AV) : Prop := ∀ (C D : Cfg) (v : Value), (∀ b o u, C.pool b o = some u → D.pool b o = some u) → Rep C x v → Rep D x v
theorem closed_int (k : IntKind) (x : Int) : Closed (.int k x) := fun C D v _ h => by cases h; exact .int _ _
theorem closed_bool (b : Bool) : Closed (.bool b) := fun C D v _ h => by cases h; exact .bool _
theorem closed_str (s : List UInt8) : Closed (.str s) := fun C D v _ h => by cases h; exact .str _
theorem closed_zs (b : Bool) : Closed (.zs b) := fun C D v _ h => by cases h; exact .zs _ _ ‹_›
theorem closed_nilp : Closed .nilp := fun C D v _ h => by cases h; exact .nilp
theorem closed_nilf : Closed .nilf := fun C D v _ h => by cases h; exact .nilf
theorem closed_nili : Closed .nili := fun C D v _ h => by cases h; exact .nili
theorem closed_nilm : Closed .nilm := fun C D v _ h => by cases h; exact .nilm
theorem closed_any : Closed .any := fun C D v _ h => .any _
theorem closed_agg {cs : List AV} (h : ∀ x ∈ cs, Closed x) : Closed (.agg cs) := fun C D v hp hr => by
  cases hr with
  | agg _ vs hl hh => exact .agg _ _ hl fun j x v hx hv => h x (List.mem_of_getElem? hx) C D v hp (hh j x v hx hv)
theorem closed_sl {sz : Nat} {els : List (List AV)} (h : ∀ cs ∈ els, ∀ x ∈ cs, Closed x) : Closed (.sl none sz els) := fun C D v hp hr => by
  cases hr with
  | sl _ _ _ A n c b off vals hl hc hm hN hst hA hz hpo hh =>
    exact .sl none sz els A n c b off vals hl hc hm hN (fun t ht => by cases ht) hA hz (fun i cs j x h1 h2 => hp _ _ _ (hpo i cs j x h1 h2)) fun i cs j x h1 h2 => h cs (List.mem_of_getElem? h1) x (List.mem_of_getElem? h2) C D _ hp (hh i cs j x h1 h2)
/-- What tells less of the same value. -/
def Weaker (x y : AV) : Prop := ∀ (C : Cfg) (v : Value), Rep C x v → Rep C y v
theorem weaker_refl (x : AV) : Weaker x x := fun _ _ h => h
theorem weaker_sl (st : Option Nat) (sz : Nat) (els : List (List AV)) : Weaker (.sl st sz els) (.sl none sz els) := fun C v h => by
  cases h with
  | sl _ _ _ A n c b off vals hl hc hm hN hst hA hz hpo hh => exact .sl none sz els A n c b off vals hl hc hm hN (fun t ht => by cases ht) hA hz hpo hh
theorem weaker_zs (b : Bool) (sz : Nat) : Weaker (.zs b) (.sl none sz []) := fun C v h => by
  cases h with
  | zs _ A _ => exact Rep.sl_mk (els := []) (b := 0) (off := 0) (ys := []) (Nat.le_refl _) (by omega) (fun _ => rfl) (fun t ht => by cases ht) (fun h => by simp at h) (fun i cs h => by simp at h) ⟨.nil _, fun o u h => by simp at h⟩
def Weakers : List AV → List AV → Prop
  | [], [] => True
  | x :: xs, y :: ys => Weaker x y ∧ Weakers xs ys
  | _, _ => False
theorem Reps.weaken {C : Cfg} : ∀ {xs ys : List AV} {vs : List Value}, Weakers xs ys → Reps C xs vs → Reps C ys vs
  | [], [], vs, _, h => h
  | x :: xs, y :: ys, vs, hw, h => by
    obtain ⟨v, us, rfl, h1, h2⟩ := h.head
    exact .cons (hw.1 C v h1) (h2.weaken hw.2)
  | [], _ :: _, _, h, _ => h.elim
  | _ :: _, [], _, h, _ => h.elim
def APure (P : Program) (f : FuncId) (args : List AV) (R : AOut → Prop) : Prop := ∀ m, ACalls P f args m fun o m' => R o ∧ m' = m
/-- A function that can be entered. -/
def enterable (P : Program) (f : FuncId) : Bool :=
  match P.funcs[f]? with
  | some fn => fn.body.isSome && !(fn.name == "runtime.NumGoroutine")
  | none => false
theorem run_callFunc {P : Program} {f : FuncId} (h : enterable P f = true) (args : Array Value) (w : World) : (callFunc f args).run P w = .ok (.enter f args) w := by
  unfold enterable at h
  split at h
  · rename_i fn hf
    simp only [Bool.and_eq_true, Bool.not_eq_true'] at h
    obtain ⟨h1, h2⟩ := h
    have h3 : ¬ fn.body = none := by cases hb : fn.body <;> simp_all
    have h2' : ¬ fn.name = "runtime.NumGoroutine" := by simpa using h2
    simp [callFunc, hf, h2', h3]
  · cases h
section
variable {P : Program} {G : Env} {C0 : Cfg} {ops : Array Oper} {Q : AEx → St → Prop} {rest : List Oper} {o : Oper} {s : St}
/-- What is called: a function outright, or a function value. -/
theorem call_exec {f : FuncId} {fo : Operand} {args : List Operand} {ts : Array TypeId} {first caps xs : List AV} (h : o.op = .call { callee := .value fo, args := args.toArray, argTypes := ts }) (he : enterable P f = true) (hf : ev s.fr fo = .fn f first caps) (hxs : args.map (ev s.fr) = xs)
    {C : Cfg} {a : Act} {w : World} (hev : ∀ x, Rep C (ev s.fr x) (a.eval x)) : ∃ vs : List Value, (execOp a.eval o).run P w = .ok (.enter f vs.toArray) w ∧ Reps C (first ++ xs ++ caps) vs := by
  have h1 := hev fo
  rw [hf] at h1
  generalize hfv : a.eval fo = fv at h1
  cases h1 with
  | fn _ _ _ vs us hl hl' hh hh' =>
    refine ⟨vs ++ args.map a.eval ++ us, ?_, ?_⟩
    · unfold execOp
      simp only [h, resolve, hfv, Deferred.ofValue, Sem.run_bind, Sem.run_pure, Result.andThen_ok, invoke, List.map_toArray, List.append_toArray, run_callFunc he]
    · subst hxs
      exact (Reps.append ⟨hl, hh⟩ ⟨by simp, fun j x v hx hv => by
        rw [List.getElem?_map] at hx hv
        obtain ⟨y, hy, rfl⟩ := Option.map_eq_some_iff.1 hx
        rw [hy] at hv
        simp at hv
        subst hv
        exact hev y⟩).append ⟨hl', hh'⟩
end
end Go.Av
set_option linter.unusedVariables false
set_option linter.unusedSectionVars false
set_option linter.unusedSimpArgs false
namespace Go.Av
open Go.RowKit
variable [Tab]
def upd (d : Option Nat) (v : AV) (fr : List (Nat × AV)) : List (Nat × AV) :=
  match d with
  | some d => (d, v) :: fr
  | none => fr
/-- What one operation does, wherever it stands in its region. -/
def OneOp (P : Program) (ops : Array Oper) (o : Oper) (s : St) (v : AV) (m' : Mem) : Prop :=
  ∀ (G : Env) (C0 C : Cfg) (a : Act) (w : World), Gam G C0 C s a w → ∀ (K : Act → World → Prop) (Q : Exit → Act → World → Prop),
    (∀ C' a' w', Gam G C0 C' ⟨s.n, upd o.dst v s.fr, m', s.dfs⟩ a' w' → K a' w') → if Region.wanted o (yielded ops a.tmps) then o.wp P a w K Q else K (a.put o.dst undef) w
section
variable {P : Program} {G : Env} {C0 : Cfg} {ops : Array Oper} {Q : AEx → St → Prop} {rest : List Oper} {o : Oper} {s : St}
theorem alst_one {v : AV} {m' : Mem} (h : OneOp P ops o s v m') (hr : ALst P G C0 ops Q rest ⟨s.n, upd o.dst v s.fr, m', s.dfs⟩) : ALst P G C0 ops Q (o :: rest) s := by
  intro C a w hg
  exact wpList_step fun K hK => h G C0 C a w hg K _ fun C' a' w' hg' => hK _ _ (hr C' a' w' hg')
theorem one_val (hw : Wants ops o s true) {d : Nat} {v : AV} {m' : Mem} (hd : o.dst = some d) (hlt : d < s.n) (hop : AOp P o s v m') : OneOp P ops o s v m' := by
  intro G C0 C a w hg K Q hK
  obtain ⟨u, C', w', h1, h2, h3, h4⟩ := hop G C0 C a w hg
  rw [if_pos (hw G C0 C a w hg)]
  unfold Oper.wp
  rw [h1, Oper.upon_value]
  refine hK C' _ _ ?_
  rw [hd]
  exact hg.put hlt h2 h3 h4
theorem one_unit (hw : Wants ops o s true) {m' : Mem} {v : AV} (hd : o.dst = none) (hop : AOpU P o s m') : OneOp P ops o s v m' := by
  intro G C0 C a w hg K Q hK
  obtain ⟨C', w', h1, h2, h3⟩ := hop G C0 C a w hg
  rw [if_pos (hw G C0 C a w hg)]
  unfold Oper.wp
  rw [h1, Oper.upon_skip]
  refine hK C' _ _ ?_
  rw [hd]
  exact hg.keep h2 h3
theorem one_skip (hw : Wants ops o s false) {d : Nat} (hd : o.dst = some d) (hlt : d < s.n) : OneOp P ops o s .und s.m := by
  intro G C0 C a w hg K Q hK
  rw [if_neg (by rw [hw G C0 C a w hg]; exact Bool.false_ne_true)]
  refine hK C _ _ ?_
  rw [hd]
  exact hg.put hlt (.refl C) hg.mem .und
theorem one_skip0 (hw : Wants ops o s false) {v : AV} (hd : o.dst = none) : OneOp P ops o s v s.m := by
  intro G C0 C a w hg K Q hK
  rw [if_neg (by rw [hw G C0 C a w hg]; exact Bool.false_ne_true)]
  refine hK C _ _ ?_
  rw [hd]
  exact hg
end
structure DS where
  need : List (Nat × Option Nat)   -- a slot that is read: of that operation's, or as it stood ahead
  pre : List Nat                   -- what has been done for sure
  lo : Nat := 0
  hi : Nat := 0
  eff : Bool := false
def depsOf (o : Oper) : List Nat := (o.after.toList.filter (Region.binds .any)).map (·.on)
def dchk1 (ops : List Oper) (ds : List DS) (es : List Nat) (i : Nat) (o : Oper) (x : DS) : Bool :=
  (depsOf o).all (· < i) &&
  x.pre.all (fun j => (depsOf o).contains j || (depsOf o).any fun j' => ((ds[j']?).map (·.pre.contains j)).getD false) &&
  x.need.all (fun p => match p.2 with
    | some j => (((ops[j]?).map (·.dst)).getD none == some p.1) && x.pre.contains j
    | none => (List.range ops.length).all fun j => !(((ops[j]?).map (·.dst)).getD none == some p.1) || ((ds[j]?).map (·.pre.contains i)).getD false) &&
  (x.lo == 0 || ((es[x.lo - 1]?).map x.pre.contains).getD false) &&
  (decide (es.length ≤ x.hi) || ((es[x.hi]?).map fun e => e == i || ((ds[e]?).map (·.pre.contains i)).getD false).getD false) &&
  (if x.eff then es[x.lo]? == some i && x.lo == x.hi else !es.contains i)
def dchk (ops : List Oper) (ds : List DS) (es : List Nat) : Bool :=
  (ds.length == ops.length) &&
  ((List.range ops.length).all fun i => match ops[i]?, ds[i]? with
    | some o, some x => dchk1 ops ds es i o x
    | _, _ => false) &&
  ((List.range ops.length).all fun i => (List.range ops.length).all fun j => i == j || (((ops[i]?).map (·.dst)).getD none == none) || !(((ops[i]?).map (·.dst)).getD none == ((ops[j]?).map (·.dst)).getD none)) &&
  (es.all (· < ops.length)) && ((List.range es.length).all fun a => (List.range es.length).all fun b => a == b || !(es[a]? == es[b]?))
def vOf (vs : List AV) (j : Nat) : AV := (vs[j]?).getD .any
def Needs (vs : List AV) (fr0 fr : List (Nat × AV)) : List (Nat × Option Nat) → Prop
  | [] => True
  | (t, some j) :: r => look fr t = vOf vs j ∧ Needs vs fr0 fr r
  | (t, none) :: r => look fr t = look fr0 t ∧ Needs vs fr0 fr r
theorem needs_of {vs : List AV} {fr0 fr : List (Nat × AV)} : ∀ {l : List (Nat × Option Nat)}, (∀ p ∈ l, look fr p.1 = match p.2 with | some j => vOf vs j | none => look fr0 p.1) → Needs vs fr0 fr l
  | [], _ => trivial
  | (t, some j) :: r, h => ⟨h _ List.mem_cons_self, needs_of fun p hp => h p (List.mem_cons_of_mem _ hp)⟩
  | (t, none) :: r, h => ⟨h _ List.mem_cons_self, needs_of fun p hp => h p (List.mem_cons_of_mem _ hp)⟩
section
variable {P : Program} {G : Env} {C0 : Cfg} {Q : AEx → St → Prop}
def dstOf (ops : List Oper) (j : Nat) : Option Nat := ((ops[j]?).map (·.dst)).getD none
theorem nbeq_ne {d t : Nat} (h : d ≠ t) : Nat.beq d t = false := by
  cases hb : Nat.beq d t with
  | false => rfl
  | true => exact absurd (Nat.eq_of_beq_eq_true hb) h
theorem replicate_getD (n j : Nat) : (Array.replicate n false).getD j false = false := by
  rw [Array.getD_eq_getD_getElem?, Array.getElem?_replicate]
  split <;> rfl
theorem mem_all_range {n : Nat} {f : Nat → Bool} (h : (List.range n).all f = true) {i : Nat} (hi : i < n) : f i = true := List.all_eq_true.1 h i (List.mem_range.2 hi)
end
end Go.Av
set_option linter.unusedVariables false
set_option linter.unusedSectionVars false
set_option linter.unusedSimpArgs false
namespace Go.Av
open Go.RowKit
variable [Tab]
section
variable {P : Program} {G : Env} {C0 : Cfg} {ops : Array Oper} {Q : AEx → St → Prop} {rest : List Oper} {o : Oper} {n : Nat} {fr : List (Nat × AV)} {m : Mem} {dfs : List AV}
theorem w_skip {d : Nat} (hw : Wants ops o ⟨n, fr, m, dfs⟩ false) (hd : o.dst = some d) (hlt : d < n) : OneOp P ops o ⟨n, fr, m, dfs⟩ .und m := one_skip hw hd hlt
theorem w_move {d : Nat} {x : Operand} {v : AV} (hw : Wants ops o ⟨n, fr, m, dfs⟩ true) (hd : o.dst = some d) (hlt : d < n) (ho : o.op = .move x) (hv : ev fr x = v) : OneOp P ops o ⟨n, fr, m, dfs⟩ v m := one_val hw hd hlt (hv ▸ op_move (s := ⟨n, fr, m, dfs⟩) ho)
theorem w_assign {d : Nat} {x : Operand} {v : AV} (hw : Wants ops o ⟨n, fr, m, dfs⟩ true) (hd : o.dst = some d) (hlt : d < n) (ho : o.op = .assign x) (hv : ev fr x = v) : OneOp P ops o ⟨n, fr, m, dfs⟩ v m := one_val hw hd hlt (hv ▸ op_assign (s := ⟨n, fr, m, dfs⟩) ho)
theorem w_pickT {d : Nat} {c x y : Operand} {v : AV} (hw : Wants ops o ⟨n, fr, m, dfs⟩ true) (hd : o.dst = some d) (hlt : d < n) (ho : o.op = .pick c x y) (hc : ev fr c = .bool true) (hv : ev fr x = v) : OneOp P ops o ⟨n, fr, m, dfs⟩ v m := one_val hw hd hlt (hv ▸ op_pick (s := ⟨n, fr, m, dfs⟩) ho hc)
theorem w_pickF {d : Nat} {c x y : Operand} {v : AV} (hw : Wants ops o ⟨n, fr, m, dfs⟩ true) (hd : o.dst = some d) (hlt : d < n) (ho : o.op = .pick c x y) (hc : ev fr c = .bool false) (hv : ev fr y = v) : OneOp P ops o ⟨n, fr, m, dfs⟩ v m := one_val hw hd hlt (hv ▸ op_pick (s := ⟨n, fr, m, dfs⟩) ho hc)
theorem w_extract {d : Nat} {x : Operand} {i : Nat} {vs : List AV} {v : AV} (hw : Wants ops o ⟨n, fr, m, dfs⟩ true) (hd : o.dst = some d) (hlt : d < n) (ho : o.op = .extract x i) (hx : ev fr x = .tup vs) (hv : vs[i]? = some v) : OneOp P ops o ⟨n, fr, m, dfs⟩ v m := one_val hw hd hlt (op_extract ho hx hv)
theorem w_int {d : Nat} {b : BinOp} {t t' : TypeId} {x y : Operand} {k : IntKind} {p q : Int} {v : AV} (hw : Wants ops o ⟨n, fr, m, dfs⟩ true) (hd : o.dst = some d) (hlt : d < n) (ho : o.op = .binOp b t x y t') (hb : plainBin b = true) (hx : ev fr x = .int k p) (hy : ev fr y = .int k q) (hv : arith b k p q = v) : OneOp P ops o ⟨n, fr, m, dfs⟩ v m := one_val hw hd hlt (hv ▸ op_int (s := ⟨n, fr, m, dfs⟩) ho hb hx hy)
theorem w_str {d : Nat} {b : BinOp} {t t' : TypeId} {x y : Operand} {p q : List UInt8} {v : AV} (hw : Wants ops o ⟨n, fr, m, dfs⟩ true) (hd : o.dst = some d) (hlt : d < n) (ho : o.op = .binOp b t x y t') (hb : plainStr b = true) (hx : ev fr x = .str p) (hy : ev fr y = .str q) (hn : b = .add → p.length + q.length ≤ maxLen) (hv : strBin b p q = v) : OneOp P ops o ⟨n, fr, m, dfs⟩ v m := one_val hw hd hlt (hv ▸ op_str (s := ⟨n, fr, m, dfs⟩) ho hb hx hy hn)
theorem w_not {d : Nat} {t : TypeId} {x : Operand} {b : Bool} (hw : Wants ops o ⟨n, fr, m, dfs⟩ true) (hd : o.dst = some d) (hlt : d < n) (ho : o.op = .unOp .not t x) (hx : ev fr x = .bool b) : OneOp P ops o ⟨n, fr, m, dfs⟩ (.bool (!b)) m := one_val hw hd hlt (op_not (s := ⟨n, fr, m, dfs⟩) ho hx)
theorem w_nilCheck {d : Nat} {x : Operand} {k off : Nat} (hw : Wants ops o ⟨n, fr, m, dfs⟩ true) (hd : o.dst = some d) (hlt : d < n) (ho : o.op = .nilCheck x) (hx : ev fr x = .ptr k off) : OneOp P ops o ⟨n, fr, m, dfs⟩ (.ptr k off) m := one_val hw hd hlt (op_nilCheck_ptr (s := ⟨n, fr, m, dfs⟩) ho hx)
theorem w_nilCheck_pp {d : Nat} {x : Operand} {cs : List AV} (hw : Wants ops o ⟨n, fr, m, dfs⟩ true) (hd : o.dst = some d) (hlt : d < n) (ho : o.op = .nilCheck x) (hx : ev fr x = .pp cs) : OneOp P ops o ⟨n, fr, m, dfs⟩ (.pp cs) m := one_val hw hd hlt (aop_pure fun C a w he => by
  have h1 := he x
  rw [hx] at h1
  obtain ⟨b, off, vals, hv, _, _⟩ := h1.pp_inv
  exact ⟨a.eval x, by simp [execOp, ho, hv], h1⟩)
theorem len_exec {x : Operand} {t : TypeId} {a : Act} {u : Value} {w : World} {r : Value} (ho : o.op = .call { callee := .builtin .len, args := #[x], argTypes := #[t] }) (hx : a.eval x = u) (hr : (Builtin.len_ #[t] o.type #[u]).run P w = .ok r w) : (execOp a.eval o).run P w = .ok (.value r) w := by
  unfold execOp
  simp only [ho, resolve, invoke, builtin, Sem.run_bind, Sem.run_pure, Result.andThen_ok, List.map_toArray, List.map_cons, List.map_nil, hx, hr]
theorem w_len_str {d : Nat} {x : Operand} {t : TypeId} {l : List UInt8} (hw : Wants ops o ⟨n, fr, m, dfs⟩ true) (hd : o.dst = some d) (hlt : d < n) (ho : o.op = .call { callee := .builtin .len, args := #[x], argTypes := #[t] }) (ht : P.underlying t = some .string) (hx : ev fr x = .str l) : OneOp P ops o ⟨n, fr, m, dfs⟩ (.int .i64 l.length) m := one_val hw hd hlt (aop_pure fun C a w he => by
  have h1 := he x
  rw [hx] at h1
  exact ⟨.int .i64 l.length, len_exec ho h1.str_inv (by simp [Builtin.len_, run_underlying ht, goInt, bytes_size]), .int _ _⟩)
theorem w_len_sl {d : Nat} {x : Operand} {t e : TypeId} {st : Option Nat} {sz : Nat} {els : List (List AV)} (N : Nat) (hw : Wants ops o ⟨n, fr, m, dfs⟩ true) (hd : o.dst = some d) (hlt : d < n) (ho : o.op = .call { callee := .builtin .len, args := #[x], argTypes := #[t] }) (ht : P.underlying t = some (.slice e)) (hx : ev fr x = .sl st sz els) (hN : els.length = N) : OneOp P ops o ⟨n, fr, m, dfs⟩ (.int .i64 N) m := one_val hw hd hlt (aop_pure fun C a w he => by
  subst hN
  have h1 := he x
  rw [hx] at h1
  obtain ⟨A, c, b, off, ys, hv, _⟩ := h1.sl_inv
  exact ⟨.int .i64 els.length, len_exec ho hv (by simp [Builtin.len_, run_underlying ht, goInt]), .int _ _⟩)
theorem w_len_zs {d : Nat} {x : Operand} {t e : TypeId} {z : Bool} (hw : Wants ops o ⟨n, fr, m, dfs⟩ true) (hd : o.dst = some d) (hlt : d < n) (ho : o.op = .call { callee := .builtin .len, args := #[x], argTypes := #[t] }) (ht : P.underlying t = some (.slice e)) (hx : ev fr x = .zs z) : OneOp P ops o ⟨n, fr, m, dfs⟩ (.int .i64 0) m := one_val hw hd hlt (aop_pure fun C a w he => by
  have h1 := he x
  rw [hx] at h1
  obtain ⟨A, hv, _⟩ := h1.zs_inv
  exact ⟨.int .i64 0, len_exec ho hv (by simp [Builtin.len_, run_underlying ht, goInt]), .int _ _⟩)
theorem w_idxStr {d : Nat} {x i : Operand} {t : TypeId} {k : IntKind} {l : List UInt8} {j : Int} (c : UInt8) (hw : Wants ops o ⟨n, fr, m, dfs⟩ true) (hd : o.dst = some d) (hlt : d < n) (ho : o.op = .index t x i) (ht : P.underlying t = some .string) (hx : ev fr x = .str l) (hi : ev fr i = .int k j) (h0 : 0 ≤ j) (hc : l[j.toNat]? = some c) : OneOp P ops o ⟨n, fr, m, dfs⟩ (.int .u8 c.toNat) m := one_val hw hd hlt (aop_pure fun C a w he => by
  have h1 := he x
  rw [hx] at h1
  have h2 := he i
  rw [hi] at h2
  have h1 := h1.str_inv
  have h2 := h2.int_inv
  have hlt' := (List.getElem?_eq_some_iff.1 hc).1
  have hb : (⟨l.toArray⟩ : ByteArray)[j.toNat]? = some c := by
    have hsz : j.toNat < (⟨l.toArray⟩ : ByteArray).size := by rw [bytes_size]; exact hlt'
    rw [getElem?_pos (⟨l.toArray⟩ : ByteArray) j.toNat hsz]
    have := (List.getElem?_eq_some_iff.1 hc).2
    simp [← this]; rfl
  exact ⟨.int .u8 c.toNat, by simp [execOp, ho, h1, h2, Instr.index, asIntOf, run_underlying ht, h0, hb], .int _ _⟩)
theorem Row.pp {C : Cfg} {b off : Nat} {cs : List AV} {ys : List Value} (h : Row C b off cs ys) {j len : Nat} (hj : j + len ≤ cs.length) : Rep C (.pp ((cs.drop j).take len)) (.pointer (some ⟨b, off + j, none⟩)) := by
  have hl := h.1.1
  refine .pp _ b (off + j) (fun i => ys.getD (j + i) undef) (fun i x hx => ?_) (fun i x hx => ?_)
  · rw [List.getElem?_take] at hx
    split at hx
    · rw [List.getElem?_drop] at hx
      have hlt : j + i < ys.length := by rw [← hl]; exact (List.getElem?_eq_some_iff.1 hx).1
      rw [Nat.add_assoc, h.2 (j + i) _ (List.getElem?_eq_getElem hlt), List.getD_eq_getElem?_getD, List.getElem?_eq_getElem hlt]; rfl
    · cases hx
  · rw [List.getElem?_take] at hx
    split at hx
    · rw [List.getElem?_drop] at hx
      have hlt : j + i < ys.length := by rw [← hl]; exact (List.getElem?_eq_some_iff.1 hx).1
      rw [List.getD_eq_getElem?_getD, List.getElem?_eq_getElem hlt]
      exact h.1.2 (j + i) _ _ hx (List.getElem?_eq_getElem hlt)
    · cases hx
theorem flatten_elem {sz : Nat} : ∀ {els : List (List AV)}, (∀ (i : Nat) (cs : List AV), els[i]? = some cs → cs.length = sz) → ∀ {i : Nat} {cs : List AV}, els[i]? = some cs → (els.flatten.drop (i * sz)).take sz = cs
  | [], _, i, cs, h => by simp at h
  | c :: r, hz, i, cs, h => by
    have hc := hz 0 c rfl
    cases i with
    | zero =>
      simp at h; subst h
      rw [Nat.zero_mul, List.drop_zero, List.flatten_cons, ← hc, List.take_left]
    | succ i =>
      have ih := flatten_elem (els := r) (fun i cs h => hz (i + 1) cs (by simpa using h)) (i := i) (by simpa using h)
      rw [List.flatten_cons, Nat.succ_mul, Nat.add_comm, ← List.drop_drop, ← hc, List.drop_left, hc]
      exact ih
theorem w_idxAddr {d : Nat} {x i : Operand} {t e : TypeId} {k : IntKind} {st : Option Nat} {sz : Nat} {els : List (List AV)} {j : Int} (cs : List AV) (hw : Wants ops o ⟨n, fr, m, dfs⟩ true) (hd : o.dst = some d) (hlt : d < n) (ho : o.op = .indexAddr t x i) (ht : P.underlying t = some (.slice e)) (hs : (P.info? e).map (·.size) = some sz) (hx : ev fr x = .sl st sz els) (hi : ev fr i = .int k j) (h0 : 0 ≤ j) (hc : els[j.toNat]? = some cs) : OneOp P ops o ⟨n, fr, m, dfs⟩ (.pp cs) m := one_val hw hd hlt (aop_pure fun C a w he => by
  have h1 := he x
  rw [hx] at h1
  have h2 := he i
  rw [hi] at h2
  have h2 := h2.int_inv
  obtain ⟨A, c, b, off, ys, hv, hcc, hm, hN, hst, hA, hz, hr⟩ := h1.sl_inv
  have hjl := (List.getElem?_eq_some_iff.1 hc).1
  have hAe := hA (by omega)
  have hcl : cs.length = sz := hz _ _ hc
  have hfl := flatten_length hz
  have hle : j.toNat * sz + sz ≤ els.flatten.length := by
    rw [hfl, ← Nat.succ_mul]
    exact Nat.mul_le_mul_right _ hjl
  refine ⟨.pointer (some ⟨b, off + j.toNat * sz, none⟩), ?_, ?_⟩
  · have hjl' : j < (els.length : Int) := by omega
    simp [execOp, ho, hv, h2, hAe, Instr.indexAt, asIntOf, run_underlying ht, run_sizeOf' hs, h0, hjl', addr_add]
  · have := hr.pp hle
    rwa [flatten_elem hz hc] at this)
theorem w_field {d : Nat} {x : Operand} {t : TypeId} {f k off fo : Nat} {fs : Array Field} {fl : Field} (hw : Wants ops o ⟨n, fr, m, dfs⟩ true) (hd : o.dst = some d) (hlt : d < n) (ho : o.op = .fieldAddr t x f) (ht : P.underlying t = some (.struct fs)) (hf : fs[f]? = some fl) (hp : ∀ (a : Addr) (w : World), (fieldPlace a fl).run P w = .ok (a.add fo) w) (hx : ev fr x = .ptr k off) : OneOp P ops o ⟨n, fr, m, dfs⟩ (.ptr k (off + fo)) m := one_val hw hd hlt (aop_pure fun C a w he => by
  have h1 := he x
  rw [hx] at h1
  obtain ⟨g, hg, hv⟩ := h1.ptr_inv
  exact ⟨.pointer (some ⟨g, off + fo, none⟩), by simp [execOp, ho, hv, Instr.fieldAt, Instr.sureAddr, run_underlying ht, hf, hp, addr_add], .ptr _ _ g hg⟩)
theorem w_field_pp {d : Nat} {x : Operand} {t : TypeId} {f fo : Nat} {fs : Array Field} {fl : Field} {cs ds : List AV} (hw : Wants ops o ⟨n, fr, m, dfs⟩ true) (hd : o.dst = some d) (hlt : d < n) (ho : o.op = .fieldAddr t x f) (ht : P.underlying t = some (.struct fs)) (hf : fs[f]? = some fl) (hp : ∀ (a : Addr) (w : World), (fieldPlace a fl).run P w = .ok (a.add fo) w) (hx : ev fr x = .pp cs) (hds : cs.drop fo = ds) : OneOp P ops o ⟨n, fr, m, dfs⟩ (.pp ds) m := one_val hw hd hlt (aop_pure fun C a w he => by
  have h1 := he x
  rw [hx] at h1
  subst hds
  obtain ⟨b, off, vals, hv, hpool, hrep⟩ := h1.pp_inv
  refine ⟨.pointer (some ⟨b, off + fo, none⟩), by simp [execOp, ho, hv, Instr.fieldAt, Instr.sureAddr, run_underlying ht, hf, hp, addr_add], ?_⟩
  refine .pp _ b (off + fo) (fun j => vals (fo + j)) (fun j x hx => ?_) (fun j x hx => ?_)
  · rw [List.getElem?_drop] at hx
    rw [Nat.add_assoc]; exact hpool _ x hx
  · rw [List.getElem?_drop] at hx
    exact hrep _ x hx)
theorem w_load {d : Nat} {t : TypeId} {x : Operand} {k off : Nat} {ty : TypeId} {cs : List AV} {v : AV} (hw : Wants ops o ⟨n, fr, m, dfs⟩ true) (hd : o.dst = some d) (hlt : d < n) (ho : o.op = .load t x) (ht : (P.underlying t).map aggD = some false) (hx : ev fr x = .ptr k off) (hk : m.blks[k]? = some (some (.cells ty cs))) (hv : cs[off]? = some v) : OneOp P ops o ⟨n, fr, m, dfs⟩ v m := one_val hw hd hlt (op_load (s := ⟨n, fr, m, dfs⟩) ho hx hk ht hv)
theorem w_loadA {d : Nat} {t : TypeId} {x : Operand} {k off sz : Nat} {ty : TypeId} {cs ds : List AV} (hw : Wants ops o ⟨n, fr, m, dfs⟩ true) (hd : o.dst = some d) (hlt : d < n) (ho : o.op = .load t x) (ht : (P.underlying t).map aggD = some true) (hn : (P.info? t).map (·.size) = some sz) (hx : ev fr x = .ptr k off) (hk : m.blks[k]? = some (some (.cells ty cs))) (hle : off + sz ≤ cs.length) (hds : (cs.drop off).take sz = ds) : OneOp P ops o ⟨n, fr, m, dfs⟩ (.agg ds) m := one_val hw hd hlt (op_load_agg (s := ⟨n, fr, m, dfs⟩) ho hx hk ht hn hle hds)
theorem w_loadP {d : Nat} {t : TypeId} {x : Operand} {cs : List AV} {v : AV} (hw : Wants ops o ⟨n, fr, m, dfs⟩ true) (hd : o.dst = some d) (hlt : d < n) (ho : o.op = .load t x) (ht : (P.underlying t).map aggD = some false) (hx : ev fr x = .pp cs) (hv : cs[0]? = some v) : OneOp P ops o ⟨n, fr, m, dfs⟩ v m := one_val hw hd hlt (op_load_pp (s := ⟨n, fr, m, dfs⟩) ho hx ht hv)
theorem w_loadPA {d : Nat} {t : TypeId} {x : Operand} {sz : Nat} {cs ds : List AV} (hw : Wants ops o ⟨n, fr, m, dfs⟩ true) (hd : o.dst = some d) (hlt : d < n) (ho : o.op = .load t x) (ht : (P.underlying t).map aggD = some true) (hn : (P.info? t).map (·.size) = some sz) (hx : ev fr x = .pp cs) (hle : sz ≤ cs.length) (hds : cs.take sz = ds) : OneOp P ops o ⟨n, fr, m, dfs⟩ (.agg ds) m := one_val hw hd hlt (op_load_pp_agg (s := ⟨n, fr, m, dfs⟩) ho hx ht hn hle hds)
theorem w_store {bs : List (Option ABlk)} {ls : List (Option Live)} {t : TypeId} {p x : Operand} {k off sz : Nat} {ty : TypeId} {cs : List AV} {y v : AV} (hw : Wants ops o ⟨n, fr, ⟨bs, ls⟩, dfs⟩ true) (hd : o.dst = none) (ho : o.op = .store t p x) (hn : (P.info? t).map (·.size) = some sz) (hp : ev fr p = .ptr k off) (hx : ev fr x = y) (hk : bs[k]? = some (some (.cells ty cs))) (hy : (flat y).all AV.one = true) (hyl : (flat y).length = sz) (hle : off + sz ≤ cs.length) (bl : List (Option ABlk)) (hbl : bs.set k (some (.cells ty (splice cs off (flat y)))) = bl) : OneOp P ops o ⟨n, fr, ⟨bs, ls⟩, dfs⟩ v ⟨bl, ls⟩ := one_unit hw hd (hbl ▸ op_store (s := ⟨n, fr, ⟨bs, ls⟩, dfs⟩) ho hp hx hk hn hy hyl hle)
theorem w_box {bs : List (Option ABlk)} {ls : List (Option Live)} {d : Nat} {t : TypeId} {x : Operand} {y : AV} (hw : Wants ops o ⟨n, fr, ⟨bs, ls⟩, dfs⟩ true) (hd : o.dst = some d) (hlt : d < n) (ho : o.op = .box t x) (hx : ev fr x = y) (hy : (flat y).all AV.one = true) (k : Nat) (hk : bs.length = k) (bl : List (Option ABlk)) (hbl : bs ++ [some (.cells t (flat y))] = bl) : OneOp P ops o ⟨n, fr, ⟨bs, ls⟩, dfs⟩ (.ptr k 0) ⟨bl, ls⟩ := one_val hw hd hlt (hk ▸ hbl ▸ op_box (s := ⟨n, fr, ⟨bs, ls⟩, dfs⟩) ho hx hy)
theorem w_alloc {bs : List (Option ABlk)} {ls : List (Option Live)} {d : Nat} {t : TypeId} {z : Value} {ys : List AV} (hw : Wants ops o ⟨n, fr, ⟨bs, ls⟩, dfs⟩ true) (hd : o.dst = some d) (hlt : d < n) (ho : o.op = .alloc t) (hz : (P.info? t).map (·.zero) = some (some z)) (hone : z.cells.toList.all (·.oneCell') = true) (hys : zeroOf z = ys) (k : Nat) (hk : bs.length = k) (bl : List (Option ABlk)) (hbl : bs ++ [some (.cells t ys)] = bl) : OneOp P ops o ⟨n, fr, ⟨bs, ls⟩, dfs⟩ (.ptr k 0) ⟨bl, ls⟩ := one_val hw hd hlt (hk ▸ hbl ▸ op_alloc (s := ⟨n, fr, ⟨bs, ls⟩, dfs⟩) ho hz hone hys)
theorem w_append {bs : List (Option ABlk)} {ls : List (Option Live)} {d : Nat} {t e : TypeId} {sz bytes k k' : Nat} {x y : Operand} {els es : List (List AV)} {z : AV} (hw : Wants ops o ⟨n, fr, ⟨bs, ls⟩, dfs⟩ true) (hd : o.dst = some d) (hlt : d < n) (ho : o.op = .call { callee := .builtin .append, args := #[x, y], argTypes := #[t, t] }) (hE : Elem P t e sz bytes)
    (hx : ev fr x = .sl (some k) sz els) (hk : ls[k]? = some (some (.pl e sz))) (hy : ev fr y = z) (hs : Src z sz es) (hb : (els.length + es.length) * bytes ≤ 140737488355328) (h63 : els.length + es.length ≤ 9223372036854775807) (hk' : ls.length = k') (ll : List (Option Live)) (hll : ls.set k none ++ [some (.pl e sz)] = ll) (rs : List (List AV)) (hrs : els ++ es = rs) :
    OneOp P ops o ⟨n, fr, ⟨bs, ls⟩, dfs⟩ (.sl (some k') sz rs) ⟨bs, ll⟩ := one_val hw hd hlt (hk' ▸ hll ▸ hrs ▸ op_append (s := ⟨n, fr, ⟨bs, ls⟩, dfs⟩) ho hE hx hk hy hs hb h63)
theorem w_append_zs {bs : List (Option ABlk)} {ls : List (Option Live)} {d : Nat} {t e : TypeId} {sz bytes : Nat} {x y : Operand} {es : List (List AV)} {z : AV} {nl : Bool} (hw : Wants ops o ⟨n, fr, ⟨bs, ls⟩, dfs⟩ true) (hd : o.dst = some d) (hlt : d < n) (ho : o.op = .call { callee := .builtin .append, args := #[x, y], argTypes := #[t, t] }) (hE : Elem P t e sz bytes)
    (hx : ev fr x = .zs nl) (hy : ev fr y = z) (hs : Src z sz es) (hb : es.length * bytes ≤ 140737488355328) (h63 : es.length ≤ 9223372036854775807) (ll : List (Option Live)) (hll : ls ++ [none] = ll) :
    OneOp P ops o ⟨n, fr, ⟨bs, ls⟩, dfs⟩ (.sl none sz es) ⟨bs, ll⟩ := one_val hw hd hlt (hll ▸ op_append_zs (s := ⟨n, fr, ⟨bs, ls⟩, dfs⟩) ho hE hx hy hs hb h63)
end
section
variable {P : Program} {G : Env} {C0 : Cfg} {ops : Array Oper} {Q : AEx → St → Prop} {s : St}
end
section
variable {P : Program} {fn : Func} {s : St}
theorem ares_cell {t k off : Nat} {ty : TypeId} {sz : Nat} {bt : TypeId} {cs ds : List AV} (h : fn.results = #[.cell t ty]) (hp : look s.fr t = .ptr k off) (hk : s.m.blks[k]? = some (some (.cells bt cs))) (ht : (P.underlying ty).map aggD = some true) (hn : (P.info? ty).map (·.size) = some sz) (hle : off + sz ≤ cs.length) (hds : (cs.drop off).take sz = ds) : ARes P fn s (.agg ds) := by
  intro G C0 C a w hg
  have h1 := hg.fr t
  rw [hp] at h1
  obtain ⟨g, hρ, hv⟩ := h1.ptr_inv
  obtain ⟨vs, hh, hr, _⟩ := hg.block hk hρ
  have hvl := hr.1
  have hl : ((vs.drop off).take sz).length = sz := by rw [List.length_take, List.length_drop]; omega
  have hrun := run_loadVar_agg (w := w) (g := g) (o := off) ht hn hl (fun j v hj => by
    rw [List.getElem?_take] at hj
    split at hj
    · rw [List.getElem?_drop] at hj
      rw [cell_of_heap hh]; exact hj
    · cases hj)
  refine ⟨.agg ((vs.drop off).take sz).toArray, ?_, ?_⟩
  · rw [Array.getD_eq_getD_getElem?] at hv
    simp [results, h, asAddr, hv, hrun]
  · subst hds
    refine .agg _ _ (by simp only [List.length_take, List.length_drop]; omega) fun j x v hx hv => ?_
    rw [List.getElem?_take] at hx hv
    split at hx
    · rename_i hlt
      rw [if_pos hlt] at hv
      rw [List.getElem?_drop] at hx hv
      exact hr.2 _ _ _ hx hv
    · cases hx
/-- One result of several. -/
def rvar (tmps : Array Value) : ResultVar → Sem Value
  | .tmp t => pure (tmps.getD t undef)
  | .cell x t => do loadVar t (← asAddr (tmps.getD x undef))
theorem results_rvar (fn : Func) (tmps : Array Value) : results fn tmps = (do
  let vs ← fn.results.mapM (rvar tmps)
  pure (if h : vs.size = 1 then vs[0] else .tuple vs)) := by
  rfl
def ARes1 (P : Program) (r : ResultVar) (s : St) (v : AV) : Prop :=
  ∀ (G : Env) (C0 C : Cfg) (a : Act) (w : World), Gam G C0 C s a w → ∃ u, (rvar a.tmps r).run P w = .ok u w ∧ Rep C v u
theorem ares1_tmp {t : Nat} {v : AV} (hv : look s.fr t = v) : ARes1 P (.tmp t) s v := fun G C0 C a w hg => ⟨_, rfl, hv ▸ hg.fr t⟩
theorem ares1_cell {t k off : Nat} {ty : TypeId} {sz : Nat} {bt : TypeId} {cs ds : List AV} (hp : look s.fr t = .ptr k off) (hk : s.m.blks[k]? = some (some (.cells bt cs))) (ht : (P.underlying ty).map aggD = some true) (hn : (P.info? ty).map (·.size) = some sz) (hle : off + sz ≤ cs.length) (hds : (cs.drop off).take sz = ds) : ARes1 P (.cell t ty) s (.agg ds) := by
  intro G C0 C a w hg
  let fn' : Func := { (default : Func) with results := #[.cell t ty] }
  obtain ⟨u, h1, h2⟩ := ares_cell (fn := fn') rfl hp hk ht hn hle hds G C0 C a w hg
  refine ⟨u, ?_, h2⟩
  rw [results_rvar] at h1
  generalize rvar a.tmps = f at h1 ⊢
  simp only [fn'] at h1
  simp at h1
  cases hr : (f (.cell t ty)).run P w with
  | ok x w1 => rw [hr] at h1; simpa using h1
  | halt x w1 => rw [hr] at h1; simp at h1
end
end Go.Av
