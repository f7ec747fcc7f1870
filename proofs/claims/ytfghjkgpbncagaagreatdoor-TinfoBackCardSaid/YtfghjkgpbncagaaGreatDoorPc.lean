/- Joined texts: Pc. -/
import Derived.Test.YtfghjkgpbncagaaGreatDoorPa
import Derived.Test.YtfghjkgpbncagaaGreatDoorPb
set_option linter.unusedVariables false
set_option linter.unusedSimpArgs false
set_option maxRecDepth 100000
namespace Go.Proofs.YtfghjkgpbncagaaGreatDoor
open Go.RowKit Go.Av Go.Proofs
/-- A loop over a list that folds. -/
theorem fold_at {α S R : Type} {l : List α} {d : α} {f : S → α → S} {L : Nat → Int → S → Option R} {r : S → Option R} {Inv : List α → S → Prop}
    (h1 : ∀ (m : Nat) (i : Int) (s : S) (x : α) (rest : List α), 0 ≤ i → i < l.length → l.getD i.toNat d = x → Inv (x :: rest) s → L (m + 1) i s = L m (i + 1) (f s x) ∧ Inv rest (f s x)) (h2 : ∀ (m : Nat) (s : S), L (m + 1) (l.length : Int) s = r s) :
    ∀ (rest : List α) (m i : Nat) (s : S), l.drop i = rest → i ≤ l.length → rest.length < m → Inv rest s → L m (i : Int) s = r (rest.foldl f s)
  | [], m, i, s, hd, hi, hm, _ => by
    obtain ⟨m, rfl⟩ : ∃ q, m = q + 1 := ⟨m - 1, by simp at hm; omega⟩
    have : l.length ≤ i := by simpa using hd
    obtain rfl : i = l.length := by omega
    exact h2 m s
  | x :: rest, m, i, s, hd, hi, hm, hs => by
    obtain ⟨m, rfl⟩ : ∃ q, m = q + 1 := ⟨m - 1, by simp at hm; omega⟩
    have hlt : i < l.length := by
      rcases Nat.lt_or_ge i l.length with h | h
      · exact h
      · rw [List.drop_eq_nil_of_le h] at hd; cases hd
    have hx : l.getD (Int.toNat (i : Int)) d = x := by
      rw [Int.toNat_natCast, List.getD_eq_getElem?_getD]
      have := List.getElem?_drop (xs := l) (i := i) (j := 0)
      rw [hd] at this
      simp at this
      simp [← this]
    have hd' : l.drop (i + 1) = rest := by
      rw [← List.drop_drop, hd]; rfl
    have hs' := h1 m (i : Int) s x rest (by omega) (by omega) hx hs
    have := fold_at h1 h2 rest m (i + 1) (f s x) hd' (by omega) (by simp at hm; omega) hs'.2
    rw [hs'.1, List.foldl_cons]
    simpa using this
theorem fold_loop {α S R : Type} {l : List α} {d : α} {f : S → α → S} {L : Nat → Int → S → Option R} {r : S → Option R} (Inv : List α → S → Prop)
    (h1 : ∀ (m : Nat) (i : Int) (s : S) (x : α) (rest : List α), 0 ≤ i → i < l.length → l.getD i.toNat d = x → Inv (x :: rest) s → L (m + 1) i s = L m (i + 1) (f s x) ∧ Inv rest (f s x)) (h2 : ∀ (m : Nat) (s : S), L (m + 1) (l.length : Int) s = r s)
    {k : Nat} (hk : l.length < k) {s : S} (hs : Inv l s) : L k 0 s = r (l.foldl f s) := fold_at h1 h2 l k 0 s rfl (Nat.zero_le _) hk hs
theorem foldl_app {α β : Type} (g : α → List β) : ∀ (l : List α) (w : List β), l.foldl (fun w x => w ++ g x) w = w ++ l.flatMap g
  | [], w => by simp
  | x :: l, w => by rw [List.foldl_cons, foldl_app g l, List.flatMap_cons, List.append_assoc]
/-- A short's two bytes. -/
def sb (n : Int) : List Int := [IntKind.wrap .u8 n, IntKind.wrap .u8 (Int.fdiv n (2 ^ (min (Int.toNat 8) (IntKind.bits .i64))))]
theorem sb_len (n : Int) : (sb n).length = 2 := rfl
theorem sI_len (s : Str) : (sI s).length = s.length := List.length_map ..
theorem sbs_len (l : List Int) : (l.flatMap sb).length = 2 * l.length := by
  induction l with
  | nil => rfl
  | cons a l ih => rw [List.flatMap_cons, List.length_append, ih, sb_len, List.length_cons]; omega
/-- So many bytes are still to come: there is room. -/
def Fits (W : Nat) {α β : Type} (g : α → List β) (rest : List α) (w : List β) : Prop := w.length + (rest.flatMap g).length ≤ W
theorem Fits.cons {W : Nat} {α β : Type} {g : α → List β} {x : α} {rest : List α} {w : List β} (h : Fits W g (x :: rest) w) : w.length + (g x).length ≤ W ∧ Fits W g rest (w ++ g x) := by
  unfold Fits at h ⊢
  rw [List.flatMap_cons, List.length_append] at h
  rw [List.length_append]
  omega
theorem room1 {n : Nat} (h : n ≤ 10000000) : room (n * 1) = true := by rw [Nat.mul_one]; exact room_t (by omega)
theorem shorts_ok {k : Nat} {l : List Int} (hk : l.length < k) (hl : l.length ≤ 1000000) (w : Bool) : F_tinfo_writer_shorts k l w = some (w, l.flatMap sb) := by
  have h := fold_loop (l := l) (d := 0) (f := fun w x => w ++ sb x) (L := fun n i v => L_tinfo_writer_shorts_1 k n l (l.length : Int) i w v) (r := fun v => some (w, v)) (Fits 2000000 sb) (fun m i v x rest h0 h1 hx hf => by
    obtain ⟨f1, f2⟩ := hf.cons
    refine ⟨?_, f2⟩
    simp only [L_tinfo_writer_shorts_1, inI_J, lt_t h1, inL_t h0 h1, inJ_t (x := i + 1) (by omega) (by omega), cond_true, hx]
    rw [show ([IntKind.wrap .u8 x, IntKind.wrap .u8 (Int.fdiv x (2 ^ (min (Int.toNat 8) (IntKind.bits .i64))))] : List Int) = sb x from rfl, room1 (by omega), cond_true]) (fun m v => by simp only [L_tinfo_writer_shorts_1, inI_J, not_lt_self, cond_false]) (k := k) hk (s := []) (by unfold Fits; rw [sbs_len]; simp; omega)
  rw [F_tinfo_writer_shorts, h, foldl_app]
  rfl
theorem shorts2_ok {k : Nat} {l : List Int} (hk : l.length < k) (w : Bool) {v : List Int} (hl : v.length + 2 * l.length ≤ 2000000) : F_tinfo_writer_shorts_2 k l w v = some (w, v ++ l.flatMap sb) := by
  have h := fold_loop (l := l) (d := 0) (f := fun w x => w ++ sb x) (L := fun n i v => L_tinfo_writer_shorts_2_1 k n l (l.length : Int) i w v) (r := fun v => some (w, v)) (Fits 2000000 sb) (fun m i v x rest h0 h1 hx hf => by
    obtain ⟨f1, f2⟩ := hf.cons
    refine ⟨?_, f2⟩
    simp only [L_tinfo_writer_shorts_2_1, inI_J, lt_t h1, inL_t h0 h1, inJ_t (x := i + 1) (by omega) (by omega), cond_true, hx]
    rw [show ([IntKind.wrap .u8 x, IntKind.wrap .u8 (Int.fdiv x (2 ^ (min (Int.toNat 8) (IntKind.bits .i64))))] : List Int) = sb x from rfl, room1 (by omega), cond_true]) (fun m v => by simp only [L_tinfo_writer_shorts_2_1, inI_J, not_lt_self, cond_false]) (k := k) hk (s := v) (by unfold Fits; rw [sbs_len]; omega)
  rw [F_tinfo_writer_shorts_2, h, foldl_app]
  rfl
theorem short1_ok {k : Nat} (hk : 1 < k) (w : Bool) (n : Int) {v : List Int} (hl : v.length + 2 ≤ 2000000) : F_tinfo_writer_shorts_2 k [n] w v = some (w, v ++ sb n) := by
  rw [shorts2_ok (l := [n]) (by simpa using hk) w (by simpa using hl)]
  rfl
/-- A byte, if there is an odd number. -/
def pad (n : Nat) : List Int := bif (n : Int) % 2 == 1 then [0] else []
theorem pad_len (n : Nat) : ((pad n).length : Int) = (n : Int) % 2 := by
  unfold pad
  cases h : (n : Int) % 2 == 1 with
  | true => have := eq_of_beq h; rw [this]; rfl
  | false =>
    have : (n : Int) % 2 ≠ 1 := by simpa using h
    have : (n : Int) % 2 = 0 := by omega
    rw [this]; rfl
theorem pad_le (n : Nat) : (pad n).length ≤ 1 := by
  have := pad_len n
  omega
theorem tmod2 (n : Nat) : Int.tmod (n : Int) 2 = (n : Int) % 2 := Int.tmod_eq_emod_of_nonneg (by omega)
theorem even_ok (k : Nat) (w : Bool) {v : List Int} (hl : v.length + 1 ≤ 2000000) : F_tinfo_writer_even k w v = some (w, v ++ pad v.length) := by
  unfold F_tinfo_writer_even pad
  rw [tmod2, room1 (by simp; omega)]
  cases (v.length : Int) % 2 == 1 <;> simp
def fb (c : CapT) : Int := ([0, 1, 254] : List Int).getD (Int.toNat c.1) 0
def vl (c : CapT) (n : Int) : Int := bif c.1 == 0 then -1 else bif c.1 == 2 then -2 else n
def nb (w : Bool) (c : CapT) : List Int := sb (vl c c.2.1) ++ (bif w then sb (Int.fdiv (vl c c.2.1) (2 ^ (min (Int.toNat 16) (IntKind.bits .i64)))) else [])
def tb (c : CapT) : List Int := bif c.1 == 1 then sI c.2.2 ++ [0] else []
def offB : Nat → List CapT → List Int
  | _, [] => []
  | n, c :: r => sb (vl c n) ++ offB (n + (tb c).length) r
theorem offB_len : ∀ (l : List CapT) (n : Nat), (offB n l).length = 2 * l.length
  | [], _ => rfl
  | c :: r, n => by rw [offB, List.length_append, offB_len r, sb_len, List.length_cons]; omega
theorem nb_le (w : Bool) (c : CapT) : (nb w c).length ≤ 4 := by cases w <;> simp [nb, sb_len]
theorem value_ok (k : Nat) (c : CapT) (n : Int) : F_tinfo_value k c n = some (vl c n) := by
  unfold F_tinfo_value vl
  cases c.1 == 0 <;> cases c.1 == 2 <;> rfl
theorem flatMap_le {α β : Type} {g : α → List β} {n : Nat} (h : ∀ x, (g x).length ≤ n) : ∀ l : List α, (l.flatMap g).length ≤ n * l.length
  | [] => by simp
  | x :: l => by
    have := h x
    have := flatMap_le h l
    rw [List.flatMap_cons, List.length_append, List.length_cons, Nat.mul_add]; omega
theorem flatMap_one {α β : Type} (g : α → β) : ∀ l : List α, l.flatMap (fun x => [g x]) = l.map g
  | [] => rfl
  | x :: l => by rw [List.flatMap_cons, flatMap_one g l]; rfl
theorem lists1_ok {k : Nat} {l : List CapT} (hk : l.length < k) (hc : ∀ c ∈ l, 0 ≤ c.1 ∧ c.1 ≤ 2) (nu te : List CapT) (w : Bool) {v : List Int} (hl : v.length + l.length ≤ 2000000) :
    L_tinfo_writer_lists_1 k k nu te l (l.length : Int) 0 w v = some (nu, (te, (w, v ++ l.map fb))) := by
  have h := fold_loop (l := l) (d := (0, (0, []))) (f := fun w x => w ++ [fb x]) (L := fun n i v => L_tinfo_writer_lists_1 k n nu te l (l.length : Int) i w v) (r := fun v => some (nu, (te, (w, v)))) (fun rest v => v.length + rest.length ≤ 2000000 ∧ ∀ c ∈ rest, 0 ≤ c.1 ∧ c.1 ≤ 2) (fun m i v x rest h0 h1 hx hf => by
    obtain ⟨f1, f2⟩ := hf
    have hx2 := f2 x (by simp)
    refine ⟨?_, by simp at f1 ⊢; omega, fun c hc => f2 c (by simp [hc])⟩
    simp only [L_tinfo_writer_lists_1, inI_J, lt_t h1, inL_t h0 h1, inJ_t (x := i + 1) (by omega) (by omega), cond_true, hx]
    rw [inL_t (i := x.1) (n := 3) hx2.1 (by omega), room1 (by simp at f1 ⊢; omega), cond_true, cond_true]
    rfl) (fun m v => by simp only [L_tinfo_writer_lists_1, inI_J, not_lt_self, cond_false]) (k := k) hk (s := v) ⟨by omega, hc⟩
  rw [h, foldl_app, flatMap_one]
theorem lists2_ok {k : Nat} {l : List CapT} (hk : l.length < k) (hk1 : 1 < k) (te : List CapT) (w : Bool) {v : List Int} (hl : v.length + 4 * l.length ≤ 1000000) :
    L_tinfo_writer_lists_2 k k te l (l.length : Int) 0 w v = some (te, (w, v ++ l.flatMap (nb w))) := by
  have h := fold_loop (l := l) (d := (0, (0, []))) (f := fun v x => v ++ nb w x) (L := fun n i v => L_tinfo_writer_lists_2 k n te l (l.length : Int) i w v) (r := fun v => some (te, (w, v))) (Fits 1000000 (nb w)) (fun m i v x rest h0 h1 hx hf => by
    obtain ⟨f1, f2⟩ := hf.cons
    refine ⟨?_, f2⟩
    have hv : v.length ≤ 1000000 := by omega
    simp only [L_tinfo_writer_lists_2, inI_J, lt_t h1, inL_t h0 h1, cond_true, hx]
    rw [value_ok]
    simp only [Option.bind_some]
    rw [short1_ok hk1 w _ (by omega)]
    simp only [Option.bind_some]
    cases w with
    | false =>
      simp only [cond_false, Option.bind_some, inJ_t (x := i + 1) (by omega) (by omega), cond_true]
      simp [nb]
    | true =>
      simp only [cond_true]
      rw [short1_ok hk1 true _ (by rw [List.length_append, sb_len]; omega)]
      simp only [Option.bind_some, inJ_t (x := i + 1) (by omega) (by omega), cond_true, List.append_assoc]
      rfl) (fun m v => by simp only [L_tinfo_writer_lists_2, inI_J, not_lt_self, cond_false]) (k := k) hk (s := v) (by
      unfold Fits
      have := flatMap_le (g := nb w) (nb_le w) l
      omega)
  rw [h, foldl_app]
theorem tabs_fold : ∀ (l : List CapT) (p : List Int × List Int), l.foldl (fun (s : List Int × List Int) c => (s.1 ++ tb c, s.2 ++ sb (vl c s.1.length))) p = (p.1 ++ l.flatMap tb, p.2 ++ offB p.1.length l)
  | [], p => by simp [offB]
  | c :: l, p => by
    rw [List.foldl_cons, tabs_fold l]
    simp [offB, List.flatMap_cons, List.append_assoc]
theorem lists3_ok {k : Nat} {l : List CapT} (hk : l.length < k) (hk1 : 1 < k) (w : Bool) {v : List Int} (hl : v.length + 2 * l.length ≤ 1000000) (ht : (l.flatMap tb).length ≤ 1000000) :
    L_tinfo_writer_lists_3 k k l (l.length : Int) 0 w [] v = some (w, (l.flatMap tb, v ++ offB 0 l)) := by
  have h := fold_loop (l := l) (d := (0, (0, []))) (f := fun (s : List Int × List Int) c => (s.1 ++ tb c, s.2 ++ sb (vl c s.1.length))) (L := fun n i s => L_tinfo_writer_lists_3 k n l (l.length : Int) i w s.1 s.2) (r := fun s => some (w, s)) (fun rest s => s.1.length + (rest.flatMap tb).length ≤ 1000000 ∧ s.2.length + 2 * rest.length ≤ 1000000) (fun m i v x rest h0 h1 hx hf => by
    obtain ⟨f1, f2⟩ := hf
    rw [List.flatMap_cons, List.length_append] at f1
    rw [List.length_cons] at f2
    refine ⟨?_, by rw [List.length_append]; omega, by rw [List.length_append, sb_len]; omega⟩
    simp only [L_tinfo_writer_lists_3, inI_J, lt_t h1, inL_t h0 h1, cond_true, hx]
    rw [show (x.1, x.2) = x from rfl, value_ok]
    simp only [Option.bind_some]
    rw [short1_ok hk1 w _ (by omega)]
    simp only [Option.bind_some]
    have htb : (tb x).length = bif x.1 == 1 then x.2.2.length + 1 else 0 := by
      unfold tb
      cases x.1 == 1 <;> simp [sI_len]
    cases hs : x.1 == 1 with
    | false =>
      simp only [cond_false, Option.bind_some, inJ_t (x := i + 1) (by omega) (by omega), cond_true]
      simp [tb, hs]
    | true =>
      rw [hs, cond_true] at htb
      simp only [cond_true]
      rw [room1 (by omega), room1 (by rw [List.length_append, sI_len]; simp; omega)]
      simp only [Option.bind_some, inJ_t (x := i + 1) (by omega) (by omega), cond_true]
      simp [tb, hs]) (fun m v => by simp only [L_tinfo_writer_lists_3, inI_J, not_lt_self, cond_false]) (k := k) hk (s := ([], v)) ⟨by simpa using ht, by simpa using hl⟩
  rw [tabs_fold] at h
  simpa using h
/-- Flags, numbers and texts' places. -/
theorem lists_ok {k : Nat} (hk : 1000 ≤ k) {fl nu te : List CapT} (h1 : fl.length ≤ 300) (h2 : nu.length ≤ 300) (h3 : te.length ≤ 600) (hc : ∀ c ∈ fl, 0 ≤ c.1 ∧ c.1 ≤ 2) (ht : (te.flatMap tb).length ≤ 1000000) (w : Bool) {v : List Int} (hv : v.length ≤ 900000) :
    F_tinfo_writer_lists k fl nu te w v = some (te.flatMap tb, (w, v ++ fl.map fb ++ pad (v.length + fl.length) ++ nu.flatMap (nb w) ++ offB 0 te)) := by
  have hp := pad_le (v.length + fl.length)
  have hn := flatMap_le (g := nb w) (nb_le w) nu
  unfold F_tinfo_writer_lists
  rw [lists1_ok (by omega) hc nu te w (by omega)]
  simp only [Option.bind_some]
  rw [even_ok k w (by rw [List.length_append, List.length_map]; omega)]
  simp only [Option.bind_some]
  rw [List.length_append, List.length_map, lists2_ok (by omega) (by omega) te w (by rw [List.length_append, List.length_append, List.length_map]; omega)]
  simp only [Option.bind_some]
  rw [lists3_ok (by omega) (by omega) w (by simp only [List.length_append, List.length_map]; omega) ht]
  rfl
theorem size_at {k : Nat} {l : List CapT} (hk : l.length < k) (ht : (l.flatMap tb).length ≤ 1000000000) (hl : l.length ≤ 1000000) :
    F_tinfo_size k l = some (((l.flatMap tb).length : Int), ((l.filter fun c => c.1 == 1).length : Int)) := by
  have h := fold_loop (l := l) (d := (0, (0, []))) (f := fun (s : Int × Int) c => (s.1 + ((tb c).length : Int), s.2 + (bif c.1 == 1 then 1 else 0))) (L := fun n i s => L_tinfo_size_1 k n s.1 s.2 l (l.length : Int) i) (r := fun s => some s) (fun rest s => 0 ≤ s.1 ∧ s.1 + ((rest.flatMap tb).length : Int) ≤ 1000000000 ∧ 0 ≤ s.2 ∧ s.2 + (rest.length : Int) ≤ 1000000) (fun m i v x rest h0 h1 hx hf => by
    obtain ⟨f0, f1, f2, f3⟩ := hf
    rw [List.flatMap_cons, List.length_append] at f1
    rw [List.length_cons] at f3
    have htb : (tb x).length = bif x.1 == 1 then x.2.2.length + 1 else 0 := by
      unfold tb
      cases x.1 == 1 <;> simp [sI_len]
    simp only [L_tinfo_size_1, inI_J, lt_t h1, inL_t h0 h1, cond_true, hx]
    cases hs : x.1 == 1 with
    | false =>
      rw [hs, cond_false] at htb
      simp only [cond_false, Option.bind_some, inJ_t (x := i + 1) (by omega) (by omega), cond_true, htb]
      refine ⟨by simp, by omega, by omega, by omega, by omega⟩
    | true =>
      rw [hs, cond_true] at htb
      simp only [cond_true]
      rw [inJ_t (x := (x.2.2.length : Int) + 1) (by omega) (by omega), inJ_t (x := v.1 + ((x.2.2.length : Int) + 1)) (by omega) (by omega), inJ_t (x := v.2 + 1) (by omega) (by omega)]
      simp only [Option.bind_some, inJ_t (x := i + 1) (by omega) (by omega), cond_true, htb]
      refine ⟨by push_cast; rfl, by omega, by omega, by omega, by omega⟩) (fun m v => by simp only [L_tinfo_size_1, inI_J, not_lt_self, cond_false]) (k := k) hk (s := (0, 0)) ⟨by omega, by show (0 : Int) + _ ≤ _; omega, by omega, by show (0 : Int) + _ ≤ _; omega⟩
  have e : ∀ (l : List CapT) (p : Int × Int), l.foldl (fun (s : Int × Int) c => (s.1 + ((tb c).length : Int), s.2 + (bif c.1 == 1 then 1 else 0))) p = (p.1 + ((l.flatMap tb).length : Int), p.2 + ((l.filter fun c => c.1 == 1).length : Int)) := by
    intro l
    induction l with
    | nil => intro p; simp
    | cons c l ih =>
      intro p
      rw [List.foldl_cons, ih, List.flatMap_cons, List.length_append, List.filter_cons]
      cases c.1 == 1 <;> simp <;> omega
  rw [F_tinfo_size, h, e]
  simp
end Go.Proofs.YtfghjkgpbncagaaGreatDoor
set_option linter.unusedVariables false
set_option linter.unusedSimpArgs false
set_option maxRecDepth 100000
namespace Go.Proofs.YtfghjkgpbncagaaGreatDoor
open Go.RowKit Go.Av Go.Proofs
theorem ixNul_ge (x : Str) : decide (Lib.indexByte x 0 ≥ 0) = nul x := by
  have := indexByte_nul x
  rw [← Bool.not_not (nul x), ← this, ← decide_not, decide_eq_decide]
  omega
def namedT (l : List ExtT) (x : Str) : Bool := !(placeT x).2.2 && (!(x == []) && (!nul x && !(l.any fun e => e.2.1 == x)))
section
variable {k : Nat} (hk : 1000 ≤ k)
include hk
theorem rnamed_ok {l : List ExtT} (hl : l.length < 900) (x : Str) : F_lanyardref03_named k l x = some (namedT l x) := by
  have h : L_lanyardref03_named_1 k k l x 0 = some (bif l.any (fun e => e.2.1 == x) then .inr () else .inl ()) := by
    rw [← search_any (fun e : ExtT => e.2.1 == x) () () l 0]
    exact search_loop (l := l) (0, ([], (0, (0, [])))) (fun e : ExtT => e.2.1 == x) (fun _ i => ()) () (fun n i => L_lanyardref03_named_1 k n l x i) (fun n i h0 h1 => by
      simp only [L_lanyardref03_named_1, inI_J, lt_t h1, inL_t h0 h1, inJ_t (x := i + 1) (by omega) (by omega), cond_true]) (fun n => by
      simp only [L_lanyardref03_named_1, not_lt_self, cond_false]) (n := k) (by omega)
  unfold F_lanyardref03_named namedT
  rw [rplace_ok hk, Option.bind_some]
  cases (placeT x).2.2 with
  | true => rfl
  | false =>
    cases hx : x == [] with
    | true => rfl
    | false =>
      simp only [cond_false]
      rw [ixNul, Option.bind_some, Option.bind_some, ixNul_ge]
      cases nul x with
      | true => rfl
      | false =>
        simp only [cond_false, h, Option.bind_some]
        cases l.any (fun e => e.2.1 == x) <;> rfl
theorem rcaps_ok {l : List CapT} (hl : l.length ≤ 900) (kind : Int) (w : Bool) : F_lanyardref03_caps k l kind w = some (!capBad kind w l) := by
  have h : L_lanyardref03_caps_1 k k l kind w 0 = some (bif l.any (fun c => !capOk c kind w) then .inr () else .inl ()) := by
    rw [← search_any (fun c : CapT => !capOk c kind w) () () l 0]
    exact search_loop (l := l) (0, (0, [])) (fun c : CapT => !capOk c kind w) (fun _ i => ()) () (fun n i => L_lanyardref03_caps_1 k n l kind w i) (fun n i h0 h1 => by
      simp only [L_lanyardref03_caps_1, inI_J, lt_t h1, inL_t h0 h1, inJ_t (x := i + 1) (by omega) (by omega), cond_true]
      rw [show ((l.getD i.toNat (0, (0, []))).1, (l.getD i.toNat (0, (0, []))).2) = l.getD i.toNat (0, (0, [])) from rfl, cap1_ok, Option.bind_some]) (fun n => by
      simp only [L_lanyardref03_caps_1, not_lt_self, cond_false]) (n := k) (by omega)
  unfold F_lanyardref03_caps capBad
  rw [h, Option.bind_some]
  cases l.any (fun c => !capOk c kind w) <;> rfl
theorem rcheck_at {b0 : Str} {w : Bool} {l2 l3 l4 : List CapT} {l : List ExtT} (hl : l.length < 900) : ∀ (rest : List ExtT) (m i : Nat) (last : Int) (seen : List Str), l.drop i = rest → i ≤ l.length → rest.length < m → 0 ≤ last → (i = 0 → last = 0) → (∀ j : Nat, i = j + 1 → (l.getD j (0, ([], (0, (0, []))))).1 = last) → (∀ n, seen.contains n = (l.take i).any (fun e => e.2.1 == n)) →
    L_lanyardref03_Check_1 k m i b0 w l2 l3 l4 l = some (bif extsBad w last seen rest then .inr () else .inl ()) := by
  intro rest
  induction rest with
  | nil =>
    intro m i last seen hd hi hm h0 h1 h2 h3
    obtain ⟨m, rfl⟩ : ∃ q, m = q + 1 := ⟨m - 1, by simp at hm; omega⟩
    have : l.length ≤ i := by simpa using hd
    obtain rfl : i = l.length := by omega
    simp only [L_lanyardref03_Check_1, not_lt_self, cond_false]
    rfl
  | cons x rest ih =>
    intro m i last seen hd hi hm h0 h1 h2 h3
    obtain ⟨m, rfl⟩ : ∃ q, m = q + 1 := ⟨m - 1, by simp at hm; omega⟩
    have hlt : i < l.length := by
      rcases Nat.lt_or_ge i l.length with h | h
      · exact h
      · rw [List.drop_eq_nil_of_le h] at hd; cases hd
    have hx? : l[i]? = some x := by
      have := List.getElem?_drop (xs := l) (i := i) (j := 0)
      rw [hd] at this
      simpa using this.symm
    have hx : l.getD (Int.toNat (i : Int)) (0, ([], (0, (0, [])))) = x := by
      rw [Int.toNat_natCast, List.getD_eq_getElem?_getD, hx?]; rfl
    have hx' : l.getD i (0, ([], (0, (0, [])))) = x := by
      rw [List.getD_eq_getElem?_getD, hx?]; rfl
    have hd' : l.drop (i + 1) = rest := by
      rw [← List.drop_drop, hd]; rfl
    have hcut : cut l 0 (i : Int) = l.take i := by simp [cut]
    have hn := rnamed_ok hk (l := l.take i) (by simp; omega) x.2.1
    have hin : (l.take i).any (fun e => e.2.1 == x.2.1) = seen.contains x.2.1 := (h3 _).symm
    have hnamed : namedT (l.take i) x.2.1 = !((x.2.1 == []) || (nul x.2.1 || (seen.contains x.2.1 || (placeT x.2.1).2.2))) := by
      unfold namedT
      rw [hin]
      cases (placeT x.2.1).2.2 <;> cases x.2.1 == [] <;> cases nul x.2.1 <;> cases seen.contains x.2.1 <;> rfl
    have hstep : L_lanyardref03_Check_1 k (m + 1) i b0 w l2 l3 l4 l = bif extBad w last (seen.contains x.2.1) x then some (.inr ()) else L_lanyardref03_Check_1 k m ((i : Int) + 1) b0 w l2 l3 l4 l := by
      have hc := cap1_ok (k := k) (c := x.2.2) (kind := x.1) (wide := w)
      simp only [L_lanyardref03_Check_1, inI_J, lt_t (show (i : Int) < l.length by omega), inL_t (show (0 : Int) ≤ i by omega) (show (i : Int) < l.length by omega), cond_true, hx]
      rw [show (x.2.2.1, x.2.2.2) = x.2.2 from rfl, hc]
      simp only [Option.bind_some]
      rw [inR_t (l := 0) (h := (i : Int)) (n := l.length) (by omega) (by omega) (by omega), hcut, hn, hnamed]
      simp only [Option.bind_some, inJ_t (x := (i : Int) + 1) (by omega) (by omega), cond_true]
      have hprev : (bif decide ((i : Int) > 0) then decide (x.1 < (l.getD (Int.toNat ((i : Int) - 1)) (0, ([], (0, (0, []))))).1) else false) = (bif decide (x.1 < 0) then decide ((i : Int) > 0) && decide (x.1 < last) else decide (x.1 < last)) := by
        cases i with
        | zero =>
          rw [h1 rfl]
          cases decide (x.1 < 0) <;> rfl
        | succ j =>
          have := h2 j rfl
          rw [show (((j + 1 : Nat) : Int) - 1).toNat = j by omega, this, decide_eq_true (show ((j + 1 : Nat) : Int) > 0 by omega)]
          cases decide (x.1 < 0) <;> simp
      unfold extBad
      cases hneg : decide (x.1 < 0) with
      | true =>
        have := of_decide_eq_true hneg
        rw [decide_eq_true (show x.1 < last by omega)]
        rfl
      | false =>
        rw [hneg, cond_false] at hprev
        rw [← hprev]
        cases hbig : decide (x.1 > 2) with
        | true => simp
        | false =>
          cases hi0 : decide ((i : Int) > 0) with
          | true =>
            have hi0' := of_decide_eq_true hi0
            simp only [cond_true, cond_false]
            rw [inJ_t (x := (i : Int) - 1) (by omega) (by omega), inL_t (i := (i : Int) - 1) (by omega) (by omega), cond_true, cond_true]
            cases decide (x.1 < (l.getD (Int.toNat ((i : Int) - 1)) (0, ([], (0, (0, []))))).1) with
            | true => rfl
            | false =>
              cases capOk x.2.2 x.1 w <;> cases x.2.1 == [] <;> cases nul x.2.1 <;> cases seen.contains x.2.1 <;> cases (placeT x.2.1).2.2 <;> first | rfl | simp only [Bool.or_false, Bool.or_true, Bool.true_or, Bool.false_or, Bool.not_false, Bool.not_true, cond_false, cond_true, Option.bind_some, inJ_t (x := (i : Int) + 1) (by omega) (by omega)]
          | false =>
            simp only [cond_true, cond_false]
            cases capOk x.2.2 x.1 w <;> cases x.2.1 == [] <;> cases nul x.2.1 <;> cases seen.contains x.2.1 <;> cases (placeT x.2.1).2.2 <;> first | rfl | simp only [Bool.or_false, Bool.or_true, Bool.true_or, Bool.false_or, Bool.not_false, Bool.not_true, cond_false, cond_true, Option.bind_some, inJ_t (x := (i : Int) + 1) (by omega) (by omega)]
    rw [hstep, extsBad]
    cases hb : extBad w last (seen.contains x.2.1) x with
    | true => rfl
    | false =>
      rw [cond_false, Bool.false_or]
      have hlast : ¬ x.1 < last := by
        unfold extBad at hb
        rw [Bool.or_eq_false_iff] at hb
        exact of_decide_eq_false hb.1
      have := ih m (i + 1) x.1 (x.2.1 :: seen) hd' (by omega) (by simp at hm; omega) (by omega) (fun h => by omega) (fun j hj => by
        obtain rfl : j = i := by omega
        rw [hx']) (fun n => by
        rw [List.contains_cons, h3 n, List.take_add_one, hx?, List.any_append]
        have e : (n == x.2.1) = (x.2.1 == n) := by rw [Bool.eq_iff_iff, beq_iff_eq, beq_iff_eq]; exact ⟨fun h => h.symm, fun h => h.symm⟩
        simp [e, Bool.or_comm])
      simpa using this
theorem rcheck_ok (t : TermT) : F_lanyardref03_Check k t = some (checkT t) := by
  obtain ⟨b0, w, l2, l3, l4, l5⟩ := t
  unfold F_lanyardref03_Check checkT
  rw [rlong_ok hk, Option.bind_some]
  cases hL : longT (b0, w, l2, l3, l4, l5) with
  | true => rfl
  | false =>
    have ht := small_of hL
    have s2 := ht.bools; have s3 := ht.nums; have s4 := ht.strs; have s5 := ht.exts
    simp only at s2 s3 s4 s5
    have hc := rcheck_at hk (b0 := b0) (w := w) (l2 := l2) (l3 := l3) (l4 := l4) (l := l5) (by
      unfold longT at hL
      simp only [Bool.or_eq_false_iff, decide_eq_false_iff_not] at hL
      omega) l5 k 0 0 [] rfl (by omega) (by omega) (by omega) (fun _ => rfl) (fun j h => by omega) (fun n => rfl)
    have hc : L_lanyardref03_Check_1 k k 0 b0 w l2 l3 l4 l5 = _ := hc
    simp only [cond_false]
    rw [ixNul]
    simp only [Option.bind_some, ixNul_ge, rcaps_ok hk s2, rcaps_ok hk s3, rcaps_ok hk s4]
    cases b0 == [] <;> cases nul b0 <;> cases capBad 0 w l2 <;> cases capBad 1 w l3 <;> cases capBad 2 w l4 <;> first | rfl | (
      simp only [cond_true, cond_false, Option.bind_some, Bool.not_true, Bool.not_false, hc]
      cases extsBad w 0 [] l5 <;> rfl)
end
end Go.Proofs.YtfghjkgpbncagaaGreatDoor
set_option linter.unusedVariables false
set_option linter.unusedSimpArgs false
set_option maxRecDepth 100000
namespace Go.Proofs.YtfghjkgpbncagaaGreatDoor
open Go.RowKit Go.Av Go.Proofs
/-- The capabilities of a kind. -/
def exK (l : List ExtT) (kd : Int) : List CapT := (l.filter fun x => x.1 == kd).map fun x => x.2.2
def nmB (l : List ExtT) : List Int := l.flatMap fun x => sI x.2.1 ++ [0]
def nOff : Nat → List ExtT → List Int
  | _, [] => []
  | n, x :: r => sb n ++ nOff (n + (x.2.1.length + 1)) r
theorem nOff_len : ∀ (l : List ExtT) (n : Nat), (nOff n l).length = 2 * l.length
  | [], _ => rfl
  | c :: r, n => by rw [nOff, List.length_append, nOff_len r, sb_len, List.length_cons]; omega
def magicT (w : Bool) : Int := bif w then 542 else 282
def cntS (l : List CapT) : Nat := (l.filter fun c => c.1 == 1).length
def headB (t : TermT) : List Int := ([magicT t.2.1, (t.1.length : Int) + 1, (t.2.2.1.length : Int), (t.2.2.2.1.length : Int), (t.2.2.2.2.1.length : Int), ((t.2.2.2.2.1.flatMap tb).length : Int)] : List Int).flatMap sb
/-- The first part's bytes. -/
def firstB (t : TermT) : List Int := headB t ++ sI t.1 ++ [0] ++ t.2.2.1.map fb ++ pad (12 + t.1.length + 1 + t.2.2.1.length) ++ t.2.2.2.1.flatMap (nb t.2.1) ++ offB 0 t.2.2.2.2.1 ++ t.2.2.2.2.1.flatMap tb
def extHeadB (l : List ExtT) : List Int := ([((exK l 0).length : Int), ((exK l 1).length : Int), ((exK l 2).length : Int), (cntS (exK l 2) : Int) + (l.length : Int), (((exK l 2).flatMap tb).length : Int) + ((nmB l).length : Int)] : List Int).flatMap sb
/-- The second part's, at a place. -/
def secondB (w : Bool) (at_ : Nat) (l : List ExtT) : List Int := extHeadB l ++ (exK l 0).map fb ++ pad (at_ + 10 + (exK l 0).length) ++ (exK l 1).flatMap (nb w) ++ offB 0 (exK l 2) ++ nOff 0 l ++ (exK l 2).flatMap tb ++ nmB l
def bytesT (t : TermT) : List Int := bif t.2.2.2.2.2 == [] then firstB t else firstB t ++ pad (firstB t).length ++ secondB t.2.1 ((firstB t).length + (pad (firstB t).length).length) t.2.2.2.2.2
def bigT (t : TermT) : Bool := decide (((t.2.2.2.2.1.flatMap tb).length : Int) > 32767) || decide ((((exK t.2.2.2.2.2 2).flatMap tb).length : Int) + ((nmB t.2.2.2.2.2).length : Int) > 32767)
def writeV (t : TermT) : List Int × Int := bif checkT t != 0 then ([], checkT t) else bif bigT t then ([], 3) else (bytesT t, 0)
theorem exK_cons (x : ExtT) (l : List ExtT) (kd : Int) : exK (x :: l) kd = bif x.1 == kd then x.2.2 :: exK l kd else exK l kd := by
  unfold exK
  rw [List.filter_cons]
  cases x.1 == kd <;> rfl
theorem exK_le (l : List ExtT) (kd : Int) : (exK l kd).length ≤ l.length := by
  unfold exK
  rw [List.length_map]
  exact List.length_filter_le _ _
theorem write1_ok {k : Nat} {l : List ExtT} (hk : l.length < k) (hl : l.length ≤ 300) (hc : ∀ x ∈ l, 0 ≤ x.1 ∧ x.1 ≤ 2 ∧ x.2.1.length ≤ 1000) (b0 : Str) (w : Bool) (l2 l3 l4 : List CapT) :
    L_tinfo_Write_1 k k l (l.length : Int) 0 b0 w l2 l3 l4 l [] [] [] [] = some ((b0, (w, (l2, (l3, (l4, l))))), (nmB l, (exK l 0, (exK l 1, exK l 2)))) := by
  have h := fold_loop (l := l) (d := (0, ([], (0, (0, []))))) (f := fun (s : List Int × List CapT × List CapT × List CapT) (x : ExtT) => (s.1 ++ sI x.2.1 ++ [0], s.2.1 ++ exK [x] 0, s.2.2.1 ++ exK [x] 1, s.2.2.2 ++ exK [x] 2)) (L := fun n i s => L_tinfo_Write_1 k n l (l.length : Int) i b0 w l2 l3 l4 l s.1 s.2.1 s.2.2.1 s.2.2.2) (r := fun s => some ((b0, (w, (l2, (l3, (l4, l))))), s)) (fun rest s => s.1.length + 1001 * rest.length ≤ 1000000 ∧ s.2.1.length + rest.length ≤ 1000 ∧ s.2.2.1.length + rest.length ≤ 1000 ∧ s.2.2.2.length + rest.length ≤ 1000 ∧ ∀ x ∈ rest, 0 ≤ x.1 ∧ x.1 ≤ 2 ∧ x.2.1.length ≤ 1000) (fun m i s x rest h0 h1 hx hf => by
    obtain ⟨f1, f2, f3, f4, f5⟩ := hf
    have hx2 := f5 x (by simp)
    rw [List.length_cons] at f1 f2 f3 f4
    have q0 := exK_le [x] 0
    have q1 := exK_le [x] 1
    have q2 := exK_le [x] 2
    simp only [List.length_singleton] at q0 q1 q2
    refine ⟨?_, by simp only [List.length_append, sI_len, List.length_singleton]; omega, by simp only [List.length_append]; omega, by simp only [List.length_append]; omega, by simp only [List.length_append]; omega, fun c hc => f5 c (by simp [hc])⟩
    simp only [L_tinfo_Write_1, inI_J, lt_t h1, inL_t h0 h1, cond_true, hx]
    have hr : ∀ (n : Nat), n ≤ 1000 → ∀ c : CapT, room ((n + ([c] : List CapT).length) * 32) = true := fun n hn c => room_t (by simp; omega)
    have r1 : room ((s.1.length + x.2.1.length) * 1) = true := room1 (by omega)
    have r2 : room (((s.1 ++ sI x.2.1).length + ([0] : List Int).length) * 1) = true := room1 (by rw [List.length_append, sI_len]; simp; omega)
    rw [hr _ (by omega), hr _ (by omega), hr _ (by omega)]
    rw [exK_cons, exK_cons, exK_cons]
    cases e0 : x.1 == 0 with
    | true =>
      have e0 := eq_of_beq e0
      rw [e0]
      simp only [cond_true, Option.bind_some, r1, r2, inJ_t (x := i + 1) (by omega) (by omega)]
      rw [← e0]
      simp [exK, e0]
    | false =>
      cases e1 : x.1 == 1 with
      | true =>
        have e1 := eq_of_beq e1
        rw [e1]
        simp only [cond_true, cond_false, Option.bind_some, r1, r2, inJ_t (x := i + 1) (by omega) (by omega)]
        simp [exK]
      | false =>
        have e2 : x.1 = 2 := by
          have : x.1 ≠ 0 := by simpa using e0
          have : x.1 ≠ 1 := by simpa using e1
          omega
        rw [e2]
        simp only [cond_true, cond_false, Option.bind_some, r1, r2, inJ_t (x := i + 1) (by omega) (by omega), beq_self_eq_true]
        simp [exK]) (fun m s => by simp only [L_tinfo_Write_1, not_lt_self, cond_false]) (k := k) hk (s := ([], ([], ([], [])))) ⟨by simp; omega, by simp; omega, by simp; omega, by simp; omega, hc⟩
  have e : ∀ (l : List ExtT) (p : List Int × List CapT × List CapT × List CapT), l.foldl (fun (s : List Int × List CapT × List CapT × List CapT) (x : ExtT) => (s.1 ++ sI x.2.1 ++ [0], s.2.1 ++ exK [x] 0, s.2.2.1 ++ exK [x] 1, s.2.2.2 ++ exK [x] 2)) p = (p.1 ++ nmB l, (p.2.1 ++ exK l 0, (p.2.2.1 ++ exK l 1, p.2.2.2 ++ exK l 2))) := by
    intro l
    induction l with
    | nil => intro p; simp [nmB, exK]
    | cons x l ih =>
      intro p
      rw [List.foldl_cons, ih]
      have c : ∀ kd, exK (x :: l) kd = exK [x] kd ++ exK l kd := fun kd => by
        rw [exK_cons, exK_cons]
        cases x.1 == kd <;> simp [exK]
      rw [c 0, c 1, c 2]
      simp [nmB, List.append_assoc]
  rw [h, e]
  simp
theorem write2_ok {k : Nat} {l : List ExtT} (hk : l.length < k) (hk1 : 1 < k) (hl : l.length ≤ 300) (hc : ∀ x ∈ l, x.2.1.length ≤ 1000) (te : List Int) (w : Bool) (nm v : List Int) (hv : v.length ≤ 900000) :
    L_tinfo_Write_2 k k te 0 l (l.length : Int) 0 w nm v = some (te, (w, (nm, v ++ nOff 0 l))) := by
  have h := fold_loop (l := l) (d := (0, ([], (0, (0, []))))) (f := fun (s : Nat × List Int) (x : ExtT) => (s.1 + (x.2.1.length + 1), s.2 ++ sb s.1)) (L := fun n i s => L_tinfo_Write_2 k n te (s.1 : Int) l (l.length : Int) i w nm s.2) (r := fun s => some (te, (w, (nm, s.2)))) (fun rest s => s.1 + 1001 * rest.length ≤ 1000000 ∧ s.2.length + 2 * rest.length ≤ 1000000 ∧ ∀ x ∈ rest, x.2.1.length ≤ 1000) (fun m i s x rest h0 h1 hx hf => by
    obtain ⟨f1, f2, f5⟩ := hf
    have hx2 := f5 x (by simp)
    rw [List.length_cons] at f1 f2
    refine ⟨?_, by show s.1 + (x.2.1.length + 1) + _ ≤ _; omega, by simp only [List.length_append, sb_len]; omega, fun c hc => f5 c (by simp [hc])⟩
    simp only [L_tinfo_Write_2, inI_J, lt_t h1, inL_t h0 h1, cond_true, hx]
    rw [short1_ok hk1 w _ (by omega)]
    simp only [Option.bind_some]
    rw [inJ_t (x := (x.2.1.length : Int) + 1) (by omega) (by omega), inJ_t (x := (s.1 : Int) + ((x.2.1.length : Int) + 1)) (by omega) (by omega), inJ_t (x := i + 1) (by omega) (by omega)]
    simp only [cond_true]
    rw [show (s.1 : Int) + ((x.2.1.length : Int) + 1) = ((s.1 + (x.2.1.length + 1) : Nat) : Int) by omega]) (fun m s => by simp only [L_tinfo_Write_2, not_lt_self, cond_false]) (k := k) hk (s := (0, v)) ⟨by simp; omega, by simp; omega, hc⟩
  have e : ∀ (l : List ExtT) (p : Nat × List Int), (l.foldl (fun (s : Nat × List Int) (x : ExtT) => (s.1 + (x.2.1.length + 1), s.2 ++ sb s.1)) p).2 = p.2 ++ nOff p.1 l := by
    intro l
    induction l with
    | nil => intro p; simp [nOff]
    | cons x l ih =>
      intro p
      rw [List.foldl_cons, ih, nOff, List.append_assoc]
  have h : L_tinfo_Write_2 k k te 0 l (l.length : Int) 0 w nm v = _ := h
  rw [h, e]
/-- What a checked Term keeps to. -/
structure Good (t : TermT) : Prop where
  names : t.1.length ≤ 511
  bools : t.2.2.1.length ≤ 64
  nums : t.2.2.2.1.length ≤ 64
  strs : t.2.2.2.2.1.length ≤ 512
  exts : t.2.2.2.2.2.length ≤ 256
  name1 : t.1 ≠ []
  name0 : nul t.1 = false
  b : ∀ c ∈ t.2.2.1, capOk c 0 t.2.1 = true
  n : ∀ c ∈ t.2.2.2.1, capOk c 1 t.2.1 = true
  s : ∀ c ∈ t.2.2.2.2.1, capOk c 2 t.2.1 = true ∧ c.2.2.length ≤ 1000
  x : extsBad t.2.1 0 [] t.2.2.2.2.2 = false
  xl : ∀ x ∈ t.2.2.2.2.2, x.2.2.2.2.length ≤ 1000 ∧ x.2.1.length ≤ 1000
theorem capBad_all {kd : Int} {w : Bool} {l : List CapT} (h : capBad kd w l = false) : ∀ c ∈ l, capOk c kd w = true := fun c hc => by
  have := List.any_eq_false.1 h c hc
  simpa using this
theorem good_of {t : TermT} (h : checkT t = 0) : Good t := by
  unfold checkT at h
  cases hL : longT t with
  | true => rw [hL] at h; cases h
  | false =>
    rw [hL, cond_false] at h
    cases hB : (t.1 == [] || nul t.1) || (capBad 0 t.2.1 t.2.2.1 || (capBad 1 t.2.1 t.2.2.2.1 || (capBad 2 t.2.1 t.2.2.2.2.1 || extsBad t.2.1 0 [] t.2.2.2.2.2))) with
    | true => rw [hB] at h; cases h
    | false =>
      unfold longT at hL
      simp only [Bool.or_eq_false_iff, decide_eq_false_iff_not] at hL hB
      obtain ⟨h0, h1, h2, h3, h4, h5, h6, h7, h8⟩ := hL
      obtain ⟨⟨a0, a1⟩, a2, a3, a4, a5⟩ := hB
      refine ⟨by omega, by omega, by omega, by omega, by omega, by simpa using a0, a1, capBad_all a2, capBad_all a3, fun c hc => ⟨capBad_all a4 c hc, any_le h7 c hc⟩, a5, fun x hx => ?_⟩
      have := List.any_eq_false.1 h8 x hx
      have hx' : overX x = false := by simpa using this
      unfold overX at hx'
      rw [Bool.or_eq_false_iff] at hx'
      have h9 := over_le hx'.1
      have h10 := of_decide_eq_false hx'.2
      omega
theorem capOk_st {c : CapT} {kd : Int} {w : Bool} (h : capOk c kd w = true) : 0 ≤ c.1 ∧ c.1 ≤ 2 := by
  unfold capOk at h
  rw [Bool.and_eq_true, Bool.not_eq_true'] at h
  have h := h.1
  simp only [Bool.or_eq_false_iff, decide_eq_false_iff_not] at h
  omega
theorem exts_kinds {w : Bool} : ∀ {l : List ExtT} {last : Int} {seen : List Str}, 0 ≤ last → extsBad w last seen l = false → ∀ x ∈ l, 0 ≤ x.1 ∧ x.1 ≤ 2 ∧ capOk x.2.2 x.1 w = true
  | [], _, _, _, _, x, hx => by cases hx
  | y :: l, last, seen, h0, h, x, hx => by
    rw [extsBad, Bool.or_eq_false_iff] at h
    have h1 := h.1
    unfold extBad at h1
    simp only [Bool.or_eq_false_iff, decide_eq_false_iff_not, Bool.not_eq_false'] at h1
    rcases List.mem_cons.1 hx with rfl | hx
    · exact ⟨by omega, by omega, h1.2.2.2.2.2.2⟩
    · exact exts_kinds (by omega) h.2 x hx
theorem tb_le (c : CapT) (h : c.2.2.length ≤ 1000) : (tb c).length ≤ 1001 := by
  unfold tb
  cases c.1 == 1 <;> simp [sI_len]
  omega
theorem tabs_le : ∀ {l : List CapT}, (∀ c ∈ l, c.2.2.length ≤ 1000) → (l.flatMap tb).length ≤ 1001 * l.length
  | [], _ => by simp
  | c :: l, h => by
    have := tb_le c (h c (by simp))
    have := tabs_le (l := l) fun c hc => h c (by simp [hc])
    rw [List.flatMap_cons, List.length_append, List.length_cons]; omega
theorem exK_mem {l : List ExtT} {kd : Int} {c : CapT} (h : c ∈ exK l kd) : ∃ x ∈ l, x.1 = kd ∧ x.2.2 = c := by
  unfold exK at h
  obtain ⟨x, hx, rfl⟩ := List.mem_map.1 h
  rw [List.mem_filter] at hx
  exact ⟨x, hx.1, eq_of_beq hx.2, rfl⟩
theorem nmB_le : ∀ {l : List ExtT}, (∀ x ∈ l, x.2.1.length ≤ 1000) → (nmB l).length ≤ 1001 * l.length
  | [], _ => by simp [nmB]
  | c :: l, h => by
    have := h c (by simp)
    have := nmB_le (l := l) fun c hc => h c (by simp [hc])
    rw [nmB, List.flatMap_cons, List.length_append, List.length_append, sI_len]
    simp only [List.length_cons, List.length_nil]
    unfold nmB at this
    omega
theorem headB_len (t : TermT) : (headB t).length = 12 := rfl
theorem extHeadB_len (l : List ExtT) : (extHeadB l).length = 10 := rfl
theorem write_ok {k : Nat} (hk : 1000 ≤ k) (t : TermT) : F_tinfo_Write k t = some (writeV t) := by
  unfold F_tinfo_Write writeV
  rw [check_ok hk, Option.bind_some]
  cases hc : checkT t != 0 with
  | true => rfl
  | false =>
    have hg := good_of (t := t) (by simpa using hc)
    obtain ⟨b0, w, l2, l3, l4, l5⟩ := t
    have g1 := hg.names; have g2 := hg.bools; have g3 := hg.nums; have g4 := hg.strs; have g5 := hg.exts; have gx := hg.x; have gl := hg.xl; have gb := hg.b; have gs := hg.s
    simp only at g1 g2 g3 g4 g5 gx gl gb gs
    have hkd := exts_kinds (Int.le_refl 0) gx
    have hx0 := exK_le l5 0
    have hx1 := exK_le l5 1
    have hx2 := exK_le l5 2
    have ht4 := tabs_le (l := l4) fun c hc => (gs c hc).2
    have ht2 := tabs_le (l := exK l5 2) fun c hc => by
      obtain ⟨x, hx, _, rfl⟩ := exK_mem hc
      exact (gl x hx).1
    have hnm := nmB_le (l := l5) fun x hx => (gl x hx).2
    have hn3 := flatMap_le (g := nb w) (nb_le w) l3
    have hn1 := flatMap_le (g := nb w) (nb_le w) (exK l5 1)
    simp only [cond_false]
    rw [write1_ok (by omega) (by omega) (fun x hx => ⟨(hkd x hx).1, (hkd x hx).2.1, (gl x hx).2⟩) b0 w l2 l3 l4]
    simp only [Option.bind_some]
    rw [size_at (by omega) (by omega) (by omega), Option.bind_some, size_at (by omega) (by omega) (by omega), Option.bind_some, inI_J]
    have hbig : ∀ {A : Type} (x y z : Int) (q : A), (bif decide (((l4.flatMap tb).length : Int) > 32767) then some (x, (y, (z, (true, q)))) else bif inJ ((((exK l5 2).flatMap tb).length : Int) + ((nmB l5).length : Int)) then some (x, (y, (z, (decide ((((exK l5 2).flatMap tb).length : Int) + ((nmB l5).length : Int) > 32767), q)))) else none) = some (x, (y, (z, (bigT (b0, (w, (l2, (l3, (l4, l5))))), q)))) := fun x y z q => by
      unfold bigT
      rw [inJ_t (by omega) (by omega)]
      cases decide (((l4.flatMap tb).length : Int) > 32767) <;> rfl
    simp only [hbig, Option.bind_some]
    cases bigT (b0, (w, (l2, (l3, (l4, l5))))) with
    | true => rfl
    | false =>
      have hmag : ∀ {A B C D E F : Type} (x : A) (y : B) (z : C) (u : D) (v : E) (q : F), (bif w then some (x, (y, (z, ((542 : Int), (u, (v, (w, q))))))) else some (x, (y, (z, ((282 : Int), (u, (v, (w, q)))))))) = some (x, (y, (z, (magicT w, (u, (v, (w, q))))))) := fun x y z u v q => by cases w <;> rfl
      simp only [cond_false, hmag, Option.bind_some, inJ_t (x := (b0.length : Int) + 1) (by omega) (by omega), cond_true]
      rw [shorts_ok (by simp; omega) (by simp), Option.bind_some]
      have hb : (([magicT w, (b0.length : Int) + 1, (l2.length : Int), (l3.length : Int), (l4.length : Int), ((l4.flatMap tb).length : Int)] : List Int).flatMap sb) = headB (b0, (w, (l2, (l3, (l4, l5))))) := rfl
      simp only [hb]
      have hhl : (headB (b0, (w, (l2, (l3, (l4, l5)))))).length = 12 := rfl
      have hvl : (headB (b0, (w, (l2, (l3, (l4, l5))))) ++ sI b0 ++ [0]).length = 12 + b0.length + 1 := by
        rw [List.length_append, List.length_append, sI_len, hhl, List.length_singleton]
      rw [room1 (by omega), room1 (by rw [List.length_append, sI_len]; simp; omega)]
      simp only [cond_true]
      rw [lists_ok hk (by omega) (by omega) (by omega) (fun c hc => capOk_st (gb c hc)) (by omega) w (by omega), Option.bind_some]
      simp only [hvl]
      have hp := pad_le (12 + b0.length + 1 + l2.length)
      have ho := offB_len l4 0
      have hfl : (firstB (b0, (w, (l2, (l3, (l4, l5)))))).length ≤ 700000 := by
        simp only [firstB, List.length_append, List.length_map, sI_len, hhl, ho, List.length_singleton]
        omega
      have hfirst : headB (b0, (w, (l2, (l3, (l4, l5))))) ++ sI b0 ++ [0] ++ l2.map fb ++ pad (12 + b0.length + 1 + l2.length) ++ l3.flatMap (nb w) ++ offB 0 l4 ++ l4.flatMap tb = firstB (b0, (w, (l2, (l3, (l4, l5))))) := rfl
      rw [room1 (by simp only [List.length_append, List.length_map, sI_len, hhl, ho, List.length_singleton]; omega)]
      simp only [cond_true, hfirst]
      unfold bytesT
      cases l5 with
      | nil => rfl
      | cons x5 r5 =>
        generalize hl5 : x5 :: r5 = l5 at *
        have hne : ((l5.length : Int) == 0) = false := by
          rw [← hl5]
          simp
          omega
        have hne2 : (l5 == []) = false := by
          rw [← hl5]
          rfl
        rw [hne, hne2]
        simp only [cond_false]
        generalize hA : firstB (b0, (w, (l2, (l3, (l4, l5))))) = A at *
        have hpA := pad_le A.length
        rw [even_ok k w (by omega), Option.bind_some]
        have hcnt : cntS (exK l5 2) ≤ 256 := Nat.le_trans (List.length_filter_le _ _) (by omega)
        simp only [show ((exK l5 2).filter fun c => c.1 == 1).length = cntS (exK l5 2) from rfl]
        rw [inJ_t (by omega) (by omega), inJ_t (by omega) (by omega)]
        simp only [cond_true]
        rw [shorts2_ok (by simp; omega) w (by rw [List.length_append]; simp; omega), Option.bind_some]
        have hb : (([((exK l5 0).length : Int), ((exK l5 1).length : Int), ((exK l5 2).length : Int), (cntS (exK l5 2) : Int) + (l5.length : Int), (((exK l5 2).flatMap tb).length : Int) + ((nmB l5).length : Int)] : List Int).flatMap sb) = extHeadB l5 := rfl
        simp only [hb]
        have hvl2 : (A ++ pad A.length ++ extHeadB l5).length = A.length + (pad A.length).length + 10 := by
          rw [List.length_append, List.length_append, extHeadB_len]
        rw [lists_ok hk (by omega) (by omega) (by omega) (fun c hc => by
          obtain ⟨x, hx, _, rfl⟩ := exK_mem hc
          exact capOk_st (hkd x hx).2.2) (by omega) w (by omega), Option.bind_some]
        simp only [hvl2]
        have ho2 := offB_len (exK l5 2) 0
        have hp2 := pad_le (A.length + (pad A.length).length + 10 + (exK l5 0).length)
        rw [write2_ok (by omega) (by omega) (by omega) (fun x hx => (gl x hx).2) _ w _ _ (by simp only [List.length_append, List.length_map, extHeadB_len, ho2]; omega), Option.bind_some]
        have hno := nOff_len l5 0
        simp only
        rw [room1 (by simp only [List.length_append, List.length_map, extHeadB_len, ho2, hno]; omega), room1 (by simp only [List.length_append, List.length_map, extHeadB_len, ho2, hno]; omega)]
        simp only [cond_true, secondB, List.append_assoc]
end Go.Proofs.YtfghjkgpbncagaaGreatDoor
set_option linter.unusedVariables false
set_option linter.unusedSimpArgs false
set_option maxRecDepth 100000
namespace Go.Proofs.YtfghjkgpbncagaaGreatDoor
open Go.RowKit Go.Av Go.Proofs
theorem rshort_is (k : Nat) (n : Int) : F_lanyardref03_short k n = some (sb n) := rfl
theorem rshorts_ok {k : Nat} {l : List Int} (hk : l.length < k) (hl : l.length ≤ 1000000) : F_lanyardref03_shorts k l = some (l.flatMap sb) := by
  have h := fold_loop (l := l) (d := 0) (f := fun w x => w ++ sb x) (L := fun n i v => L_lanyardref03_shorts_1 k n l i v) (r := fun v => some v) (Fits 2000000 sb) (fun m i v x rest h0 h1 hx hf => by
    obtain ⟨f1, f2⟩ := hf.cons
    refine ⟨?_, f2⟩
    simp only [L_lanyardref03_shorts_1, inI_J, lt_t h1, inL_t h0 h1, inJ_t (x := i + 1) (by omega) (by omega), cond_true, hx, rshort_is, Option.bind_some]
    rw [room1 (by omega), cond_true]) (fun m v => by simp only [L_lanyardref03_shorts_1, not_lt_self, cond_false]) (k := k) hk (s := []) (by unfold Fits; rw [sbs_len]; simp; omega)
  rw [F_lanyardref03_shorts, h, foldl_app]
  rfl
def tbS (c : CapT) : Str := bif c.1 == 1 then c.2.2 ++ [0] else []
theorem tbS_len (c : CapT) : (tbS c).length = (tb c).length := by
  unfold tbS tb
  cases c.1 == 1 <;> simp [sI_len]
theorem tbSs_len (l : List CapT) : (l.flatMap tbS).length = (l.flatMap tb).length := by
  induction l with
  | nil => rfl
  | cons c l ih => rw [List.flatMap_cons, List.flatMap_cons, List.length_append, List.length_append, ih, tbS_len]
theorem room8 {n : Nat} (h : n ≤ 10000000) : room (n * 8) = true := room_t (by omega)
def rv (c : CapT) (n : Int) : Int := bif c.1 == 1 then n else bif c.1 == 2 then -2 else -1
theorem cnt_fold (l : List CapT) : ∀ (p : Str × Int × List Int), ∃ at_ : List Int, at_.length = p.2.2.length + l.length ∧ l.foldl (fun (s : Str × Int × List Int) c => (s.1 ++ tbS c, s.2.1 + (bif c.1 == 1 then 1 else 0), s.2.2 ++ [rv c (s.1.length : Int)])) p = (p.1 ++ l.flatMap tbS, p.2.1 + (cntS l : Int), at_) := by
  induction l with
  | nil => intro p; exact ⟨p.2.2, by simp, by simp [cntS]⟩
  | cons c l ih =>
    intro p
    obtain ⟨a, h1, h2⟩ := ih (p.1 ++ tbS c, p.2.1 + (bif c.1 == 1 then 1 else 0), p.2.2 ++ [rv c (p.1.length : Int)])
    refine ⟨a, by simp at h1 ⊢; omega, ?_⟩
    rw [List.foldl_cons, h2]
    have : (cntS (c :: l) : Int) = (bif c.1 == 1 then 1 else 0) + (cntS l : Int) := by
      unfold cntS
      rw [List.filter_cons]
      cases c.1 == 1 <;> simp
      omega
    simp [this, List.flatMap_cons, Int.add_assoc]
theorem rtable_ok {k : Nat} {l : List CapT} (hk : l.length < k) (hl : l.length ≤ 1000) (ht : (l.flatMap tb).length ≤ 1000000000) : ∃ at_ : List Int, at_.length = l.length ∧ F_lanyardref03_table k l = some ((l.flatMap tbS, (cntS l : Int)), at_) := by
  have h := fold_loop (l := l) (d := (0, (0, []))) (f := fun (s : Str × Int × List Int) c => (s.1 ++ tbS c, s.2.1 + (bif c.1 == 1 then 1 else 0), s.2.2 ++ [rv c (s.1.length : Int)])) (L := fun n i s => L_lanyardref03_table_1 k n l s.1 s.2.1 i s.2.2) (r := fun s => some s) (fun rest s => s.1.length + (rest.flatMap tb).length ≤ 1000000000 ∧ 0 ≤ s.2.1 ∧ s.2.1 + rest.length ≤ 1000 ∧ s.2.2.length + rest.length ≤ 1000) (fun m i v x rest h0 h1 hx hf => by
    obtain ⟨f1, f2, f3, f4⟩ := hf
    rw [List.flatMap_cons, List.length_append] at f1
    rw [List.length_cons] at f3 f4
    have hxl := tbS_len x
    have htb : (tb x).length = bif x.1 == 1 then x.2.2.length + 1 else 0 := by
      unfold tb
      cases x.1 == 1 <;> simp [sI_len]
    simp only [L_lanyardref03_table_1, inI_J, lt_t h1, inL_t h0 h1, cond_true, hx]
    have hr : ∀ z : Int, room ((v.2.2.length + ([z] : List Int).length) * 8) = true := fun z => room8 (by simp; omega)
    rw [hr, hr, hr]
    cases hs : x.1 == 1 with
    | true =>
      rw [hs, cond_true] at htb
      rw [decide_eq_true (show x.2.2.length + ([0] : Str).length ≤ 9223372036854775807 by simp; omega), decide_eq_true (show v.1.length + (x.2.2 ++ ([0] : Str)).length ≤ 9223372036854775807 by simp; omega), inJ_t (x := v.2.1 + 1) (by omega) (by omega)]
      simp only [cond_true, Option.bind_some, inJ_t (x := i + 1) (by omega) (by omega), tbS, hs, rv]
      refine ⟨trivial, by simp only [List.length_append, List.length_cons, List.length_nil]; omega, by omega, by omega, by simp only [List.length_append, List.length_cons, List.length_nil]; omega⟩
    | false =>
      rw [hs, cond_false] at htb
      have hst : tbS x = [] := by unfold tbS; rw [hs]; rfl
      cases h2 : x.1 == 2 with
      | true =>
        simp only [cond_true, cond_false, Option.bind_some, inJ_t (x := i + 1) (by omega) (by omega), hst, rv, hs, h2, List.append_nil, Int.add_zero]
        refine ⟨trivial, by omega, by omega, by omega, by simp; omega⟩
      | false =>
        simp only [cond_true, cond_false, Option.bind_some, inJ_t (x := i + 1) (by omega) (by omega), hst, rv, hs, h2, List.append_nil, Int.add_zero]
        refine ⟨trivial, by omega, by omega, by omega, by simp; omega⟩) (fun m s => by simp only [L_lanyardref03_table_1, not_lt_self, cond_false]) (k := k) hk (s := ([], (0, []))) ⟨by simpa using ht, by show (0 : Int) ≤ 0; omega, by simp; omega, by simp; omega⟩
  obtain ⟨a, h1, h2⟩ := cnt_fold l ([], (0, []))
  have h : L_lanyardref03_table_1 k k l [] 0 0 [] = _ := h
  refine ⟨a, by simpa using h1, ?_⟩
  rw [F_lanyardref03_table, h, h2]
  simp
theorem reven_ok (k : Nat) {v : List Int} (hl : v.length + 1 ≤ 2000000) : F_lanyardref03_even k v = some (v ++ pad v.length) := by
  unfold F_lanyardref03_even pad
  rw [tmod2, room1 (by simp; omega)]
  cases (v.length : Int) % 2 == 1 <;> simp
def rfl_ (c : CapT) : Int := bif c.1 == 2 then 254 else IntKind.wrap .u8 c.1
theorem rflag_is (k : Nat) (c : CapT) : F_lanyardref03_flag k c = some (rfl_ c) := by
  unfold F_lanyardref03_flag rfl_
  cases c.1 == 2 <;> rfl
def rnum (w : Bool) (c : CapT) : List Int := (F_lanyardref03_number 0 c w).getD []
theorem rnum_is (k : Nat) (c : CapT) (w : Bool) : F_lanyardref03_number k c w = some (rnum w c) ∧ (rnum w c).length ≤ 4 := by
  unfold rnum F_lanyardref03_number
  cases c.1 == 0 <;> simp only [cond_true, cond_false, Option.bind_some] <;> cases c.1 == 2 <;> simp only [cond_true, cond_false, Option.bind_some] <;> cases w <;> simp [rshort_is, sb_len]
theorem rpart_ok {k : Nat} {bo nu : List CapT} (h1 : bo.length < k) (h2 : nu.length < k) (h3 : bo.length ≤ 1000) (h4 : nu.length ≤ 1000) (w : Bool) {v : List Int} (hv : v.length ≤ 900000) : ∃ v' : List Int, v'.length ≤ v.length + 5001 ∧ F_lanyardref03_part k bo nu w v = some v' := by
  have a1 := fold_loop (l := bo) (d := (0, (0, []))) (f := fun w x => w ++ [rfl_ x]) (L := fun n i v => L_lanyardref03_part_1 k n bo nu w i v) (r := fun v => some (nu, (w, v))) (fun rest v => v.length + rest.length ≤ 2000000) (fun m i v x rest h0 h1 hx hf => by
    rw [List.length_cons] at hf
    refine ⟨?_, by simp; omega⟩
    simp only [L_lanyardref03_part_1, inI_J, lt_t h1, inL_t h0 h1, inJ_t (x := i + 1) (by omega) (by omega), cond_true, hx]
    rw [show (x.1, x.2) = x from rfl, rflag_is, Option.bind_some, room1 (by simp; omega), cond_true]) (fun m v => by simp only [L_lanyardref03_part_1, not_lt_self, cond_false]) (k := k) h1 (s := v) (by omega)
  rw [foldl_app, flatMap_one] at a1
  have hm := pad_le (v ++ bo.map rfl_).length
  have hm' := pad_le (v.length + bo.length)
  have hf := flatMap_le (g := rnum w) (fun x => (rnum_is k x w).2) nu
  have a2 := fold_loop (l := nu) (d := (0, (0, []))) (f := fun v x => v ++ rnum w x) (L := fun n i v => L_lanyardref03_part_2 k n nu w i v) (r := fun v => some v) (Fits 2000000 (rnum w)) (fun m i v x rest h0 h1 hx hf => by
    obtain ⟨f1, f2⟩ := hf.cons
    refine ⟨?_, f2⟩
    simp only [L_lanyardref03_part_2, inI_J, lt_t h1, inL_t h0 h1, inJ_t (x := i + 1) (by omega) (by omega), cond_true, hx]
    rw [show (x.1, x.2) = x from rfl, (rnum_is k x w).1, Option.bind_some, room1 (by omega), cond_true]) (fun m v => by simp only [L_lanyardref03_part_2, not_lt_self, cond_false]) (k := k) h2 (s := v ++ bo.map rfl_ ++ pad (v ++ bo.map rfl_).length) (by
      unfold Fits
      rw [List.length_append, List.length_append, List.length_map]
      omega)
  rw [foldl_app] at a2
  refine ⟨v ++ bo.map rfl_ ++ pad (v ++ bo.map rfl_).length ++ nu.flatMap (rnum w), by simp only [List.length_append, List.length_map] at hm ⊢; omega, ?_⟩
  unfold F_lanyardref03_part
  rw [a1]
  simp only [Option.bind_some]
  rw [reven_ok k (by rw [List.length_append, List.length_map]; omega), Option.bind_some, a2]
  rfl
theorem rof_ok {k : Nat} {l : List ExtT} (hk : l.length < k) (hl : l.length ≤ 1000) (kd : Int) : F_lanyardref03_of k l kd = some (exK l kd) := by
  have h := fold_loop (l := l) (d := (0, ([], (0, (0, []))))) (f := fun (w : List CapT) (x : ExtT) => w ++ exK [x] kd) (L := fun n i v => L_lanyardref03_of_1 k n l kd i v) (r := fun v => some v) (fun rest v => v.length + rest.length ≤ 1000) (fun m i v x rest h0 h1 hx hf => by
    rw [List.length_cons] at hf
    have := exK_le [x] kd
    simp only [List.length_singleton] at this
    refine ⟨?_, by rw [List.length_append]; omega⟩
    simp only [L_lanyardref03_of_1, inI_J, lt_t h1, inL_t h0 h1, cond_true, hx]
    rw [show ∀ c : CapT, room ((v.length + ([c] : List CapT).length) * 32) = true from fun c => room_t (by simp; omega), exK_cons]
    cases x.1 == kd <;> simp only [cond_true, cond_false, Option.bind_some, inJ_t (x := i + 1) (by omega) (by omega)] <;> simp [exK]) (fun m v => by simp only [L_lanyardref03_of_1, not_lt_self, cond_false]) (k := k) hk (s := []) (by simp; omega)
  have e : ∀ (l : List ExtT) (p : List CapT), l.foldl (fun (w : List CapT) (x : ExtT) => w ++ exK [x] kd) p = p ++ exK l kd := by
    intro l
    induction l with
    | nil => intro p; simp [exK]
    | cons x l ih =>
      intro p
      have c : exK (x :: l) kd = exK [x] kd ++ exK l kd := by
        rw [exK_cons, exK_cons]
        cases x.1 == kd <;> simp [exK]
      rw [List.foldl_cons, ih, c, List.append_assoc]
  rw [F_lanyardref03_of, h, e]
  simp
theorem rwrite1_ok {k : Nat} {l : List ExtT} (hk : l.length < k) (hl : l.length ≤ 300) (hc : ∀ x ∈ l, x.2.1.length ≤ 1000) (tab : Str) (te : List CapT) (n : Int) (b0 : Str) (w : Bool) (l2 l3 l4 : List CapT) (a v : List Int) (ha : a.length ≤ 1000) :
    ∃ a' : List Int, ∃ nm : Str, a'.length = a.length + l.length ∧ nm.length = (nmB l).length ∧ L_lanyardref03_Write_1 k k tab te n [] 0 b0 w l2 l3 l4 l a v = some (tab, (te, (n, (nm, ((b0, (w, (l2, (l3, (l4, l))))), (a', v)))))) := by
  have h := fold_loop (l := l) (d := (0, ([], (0, (0, []))))) (f := fun (s : Str × List Int) (x : ExtT) => (s.1 ++ (x.2.1 ++ [0]), s.2 ++ [(s.1.length : Int)])) (L := fun m i s => L_lanyardref03_Write_1 k m tab te n s.1 i b0 w l2 l3 l4 l s.2 v) (r := fun s => some (tab, (te, (n, (s.1, ((b0, (w, (l2, (l3, (l4, l))))), (s.2, v))))))) (fun rest s => s.1.length + 1001 * rest.length ≤ 1000000 ∧ s.2.length + rest.length ≤ 2000 ∧ ∀ x ∈ rest, x.2.1.length ≤ 1000) (fun m i s x rest h0 h1 hx hf => by
    obtain ⟨f1, f2, f5⟩ := hf
    have hx2 := f5 x (by simp)
    rw [List.length_cons] at f1 f2
    refine ⟨?_, by simp; omega, by simp; omega, fun c hc => f5 c (by simp [hc])⟩
    simp only [L_lanyardref03_Write_1, inI_J, lt_t h1, inL_t h0 h1, cond_true, hx]
    rw [show ∀ z : Int, room ((s.2.length + ([z] : List Int).length) * 8) = true from fun z => room8 (by simp; omega), decide_eq_true (show x.2.1.length + ([0] : Str).length ≤ 9223372036854775807 by simp; omega), decide_eq_true (show s.1.length + (x.2.1 ++ ([0] : Str)).length ≤ 9223372036854775807 by simp; omega), inJ_t (x := i + 1) (by omega) (by omega)]
    rfl) (fun m s => by simp only [L_lanyardref03_Write_1, not_lt_self, cond_false]) (k := k) hk (s := ([], a)) ⟨by simp; omega, by simp; omega, hc⟩
  have e : ∀ (l : List ExtT) (p : Str × List Int), (l.foldl (fun (s : Str × List Int) (x : ExtT) => (s.1 ++ (x.2.1 ++ [0]), s.2 ++ [(s.1.length : Int)])) p).1.length = p.1.length + (nmB l).length ∧ (l.foldl (fun (s : Str × List Int) (x : ExtT) => (s.1 ++ (x.2.1 ++ [0]), s.2 ++ [(s.1.length : Int)])) p).2.length = p.2.length + l.length := by
    intro l
    induction l with
    | nil => intro p; simp [nmB]
    | cons x l ih =>
      intro p
      rw [List.foldl_cons]
      obtain ⟨i1, i2⟩ := ih (p.1 ++ (x.2.1 ++ [0]), p.2 ++ [(p.1.length : Int)])
      rw [i1, i2]
      have : (nmB (x :: l)).length = x.2.1.length + 1 + (nmB l).length := by
        rw [nmB, List.flatMap_cons, List.length_append, List.length_append, sI_len]
        rfl
      rw [this]
      simp only [List.length_append, List.length_cons, List.length_nil]
      omega
  obtain ⟨e1, e2⟩ := e l ([], a)
  exact ⟨_, _, by simpa using e2, by simpa using e1, h⟩
theorem rwrite_ok {k : Nat} (hk : 1000 ≤ k) (t : TermT) : ∃ c, F_lanyardref03_Write k t = some (c, (writeV t).2) := by
  unfold F_lanyardref03_Write writeV
  rw [rcheck_ok hk, Option.bind_some]
  cases hc : checkT t != 0 with
  | true => exact ⟨_, rfl⟩
  | false =>
    have hg := good_of (t := t) (by simpa using hc)
    obtain ⟨b0, w, l2, l3, l4, l5⟩ := t
    have g1 := hg.names; have g2 := hg.bools; have g3 := hg.nums; have g4 := hg.strs; have g5 := hg.exts; have gl := hg.xl; have gs := hg.s
    simp only at g1 g2 g3 g4 g5 gl gs
    have hx0 := exK_le l5 0
    have hx1 := exK_le l5 1
    have hx2 := exK_le l5 2
    have ht4 := tabs_le (l := l4) fun c hc => (gs c hc).2
    have ht2 := tabs_le (l := exK l5 2) fun c hc => by
      obtain ⟨x, hx, _, rfl⟩ := exK_mem hc
      exact (gl x hx).1
    have hnm := nmB_le (l := l5) fun x hx => (gl x hx).2
    have hs4 := tbSs_len l4
    have hs2 := tbSs_len (exK l5 2)
    have hc2 : cntS (exK l5 2) ≤ 256 := Nat.le_trans (List.length_filter_le _ _) (by omega)
    obtain ⟨at4, ha4, htab⟩ := rtable_ok (k := k) (l := l4) (by omega) (by omega) (by omega)
    simp only [cond_false]
    rw [htab, Option.bind_some]
    have hmag : ∀ {A B C : Type} (x : A) (u : B) (v : C), (bif w then some (x, ((542 : Int), (u, v))) else some (x, ((282 : Int), (u, v)))) = some (x, (magicT w, (u, v))) := fun x u v => by cases w <;> rfl
    rw [inI_J]
    simp only [hmag, Option.bind_some, inJ_t (x := (b0.length : Int) + 1) (by omega) (by omega), cond_true]
    rw [rshorts_ok (by simp; omega) (by simp), Option.bind_some]
    have hsl := sbs_len ([magicT w, (b0.length : Int) + 1, (l2.length : Int), (l3.length : Int), (l4.length : Int), ((l4.flatMap tbS).length : Int)] : List Int)
    generalize (([magicT w, (b0.length : Int) + 1, (l2.length : Int), (l3.length : Int), (l4.length : Int), ((l4.flatMap tbS).length : Int)] : List Int).flatMap sb) = hd at *
    simp only [List.length_cons, List.length_nil] at hsl
    rw [room1 (by omega), room1 (by rw [List.length_append, sI_len]; simp; omega)]
    simp only [cond_true]
    obtain ⟨v5, h5, hpart⟩ := rpart_ok (k := k) (bo := l2) (nu := l3) (by omega) (by omega) (by omega) (by omega) w (v := hd ++ sI b0 ++ [0]) (by simp only [List.length_append, sI_len, List.length_singleton]; omega)
    simp only [List.length_append, sI_len, List.length_singleton] at h5
    rw [hpart, Option.bind_some, rshorts_ok (l := at4) (by omega) (by omega), Option.bind_some]
    have hsa := sbs_len at4
    rw [room1 (by omega), room1 (by rw [List.length_append]; omega)]
    simp only [cond_true]
    unfold bigT
    simp only [hs4]
    cases hb : decide (((l4.flatMap tb).length : Int) > 32767) with
    | true => exact ⟨_, rfl⟩
    | false =>
      have hb := of_decide_eq_false hb
      simp only [cond_false, Bool.false_or]
      cases l5 with
      | nil => exact ⟨_, rfl⟩
      | cons x5 r5 =>
        generalize hl5 : x5 :: r5 = l5 at *
        have hne : ((l5.length : Int) == 0) = false := by
          rw [← hl5]
          simp
          omega
        rw [hne]
        simp only [cond_false]
        rw [rof_ok (by omega) (by omega), Option.bind_some]
        obtain ⟨at2, ha2, htab2⟩ := rtable_ok (k := k) (l := exK l5 2) (by omega) (by omega) (by omega)
        rw [htab2, Option.bind_some]
        obtain ⟨a', nm, hl1, hl2, hw1⟩ := rwrite1_ok (k := k) (l := l5) (by omega) (by omega) (fun x hx => (gl x hx).2) ((exK l5 2).flatMap tbS) (exK l5 2) (cntS (exK l5 2) : Int) b0 w l2 l3 l4 at2 (v5 ++ at4.flatMap sb ++ sI (l4.flatMap tbS)) (by omega)
        simp only
        rw [hw1, Option.bind_some]
        simp only [hs2, hl2]
        rw [inJ_t (by omega) (by omega)]
        simp only [cond_true]
        cases hbig : decide ((((exK l5 2).flatMap tb).length : Int) + ((nmB l5).length : Int) > 32767) with
        | true => exact ⟨_, rfl⟩
        | false =>
          have hbig := of_decide_eq_false hbig
          simp only [cond_false]
          have hA : (v5 ++ at4.flatMap sb ++ sI (l4.flatMap tbS)).length ≤ 100000 := by
            simp only [List.length_append, sI_len]
            omega
          generalize v5 ++ at4.flatMap sb ++ sI (l4.flatMap tbS) = A at *
          have hpA := pad_le A.length
          rw [reven_ok k (by omega), Option.bind_some, rof_ok (by omega) (by omega), Option.bind_some, rof_ok (by omega) (by omega), Option.bind_some]
          rw [inJ_t (by omega) (by omega)]
          simp only [cond_true]
          rw [rshorts_ok (by simp; omega) (by simp), Option.bind_some]
          have hsl2 := sbs_len ([((exK l5 0).length : Int), ((exK l5 1).length : Int), ((exK l5 2).length : Int), (cntS (exK l5 2) : Int) + (l5.length : Int), (((exK l5 2).flatMap tb).length : Int) + ((nmB l5).length : Int)] : List Int)
          generalize (([((exK l5 0).length : Int), ((exK l5 1).length : Int), ((exK l5 2).length : Int), (cntS (exK l5 2) : Int) + (l5.length : Int), (((exK l5 2).flatMap tb).length : Int) + ((nmB l5).length : Int)] : List Int).flatMap sb) = hd2 at *
          simp only [List.length_cons, List.length_nil] at hsl2
          rw [room1 (by rw [List.length_append]; omega)]
          simp only [cond_true, Option.bind_some]
          obtain ⟨v6, h6, hpart2⟩ := rpart_ok (k := k) (bo := exK l5 0) (nu := exK l5 1) (by omega) (by omega) (by omega) (by omega) w (v := A ++ pad A.length ++ hd2) (by simp only [List.length_append]; omega)
          simp only [List.length_append] at h6
          rw [hpart2, Option.bind_some, rshorts_ok (l := a') (by omega) (by omega), Option.bind_some]
          have hsa2 := sbs_len a'
          rw [room1 (by omega), room1 (by rw [List.length_append]; omega), room1 (by rw [List.length_append, List.length_append, sI_len]; omega)]
          exact ⟨_, rfl⟩
end Go.Proofs.YtfghjkgpbncagaaGreatDoor
set_option linter.unusedVariables false
set_option linter.unusedSimpArgs false
set_option linter.unusedSectionVars false
set_option maxRecDepth 100000
namespace Go.Proofs.YtfghjkgpbncagaaGreatDoor
open Go.RowKit Go.Av Go.Proofs
/-- These stand at a place. -/
def At (b : List Int) (o : Nat) (s : List Int) : Prop := ∃ p q, b = p ++ s ++ q ∧ p.length = o
theorem At.app {b : List Int} {o : Nat} {s t : List Int} (h : At b o (s ++ t)) : At b o s ∧ At b (o + s.length) t := by
  obtain ⟨p, q, h1, h2⟩ := h
  exact ⟨⟨p, t ++ q, by rw [h1]; simp, h2⟩, ⟨p ++ s, q, by rw [h1]; simp, by rw [List.length_append, h2]⟩⟩
theorem At.len {b : List Int} {o : Nat} {s : List Int} (h : At b o s) : o + s.length ≤ b.length := by
  obtain ⟨p, q, rfl, rfl⟩ := h
  simp
theorem At.get {b : List Int} {o : Nat} {s : List Int} (h : At b o s) {i : Nat} (hi : i < s.length) : b.getD (o + i) 0 = s.getD i 0 := by
  obtain ⟨p, q, rfl, rfl⟩ := h
  rw [List.getD_eq_getElem?_getD, List.getD_eq_getElem?_getD, List.append_assoc, List.getElem?_append_right (by omega), Nat.add_sub_cancel_left, List.getElem?_append_left hi]
theorem At.by_ {b : List Int} {o : Nat} {s : List Int} (h : At b o s) {i : Nat} (hi : i < s.length) {a : Int} (ha : a = (o : Int) + (i : Int)) : by_ b a = s.getD i 0 := by
  unfold Proofs.YtfghjkgpbncagaaGreatDoor.by_
  rw [ha, show ((o : Int) + (i : Int)).toNat = o + i by omega]
  exact h.get hi
theorem At.cut {b : List Int} {o : Nat} {s : List Int} (h : At b o s) {l u : Int} (hl : l = (o : Int)) (hu : u = (o : Int) + (s.length : Int)) : cut b l u = s := by
  obtain ⟨p, q, rfl, rfl⟩ := h
  unfold Av.cut
  rw [hl, hu, show ((p.length : Int) + (s.length : Int)).toNat = (p ++ s).length by simp; omega, List.take_left, Int.toNat_natCast, List.drop_left]
theorem at_of {b p s q : List Int} {o : Nat} (h : b = p ++ s ++ q) (ho : p.length = o) : At b o s := ⟨p, q, h, ho⟩
def isB (l : List Int) : Prop := ∀ x ∈ l, 0 ≤ x ∧ x ≤ 255
theorem isB_nil : isB [] := fun x h => by cases h
theorem isB_app {a b : List Int} (h1 : isB a) (h2 : isB b) : isB (a ++ b) := fun x h => (List.mem_append.1 h).elim (h1 x) (h2 x)
theorem isB_flat {α : Type} {g : α → List Int} (h : ∀ x, isB (g x)) (l : List α) : isB (l.flatMap g) := fun x hx => by
  obtain ⟨y, _, hy⟩ := List.mem_flatMap.1 hx
  exact h y x hy
theorem wrap_u8 (x : Int) : IntKind.wrap .u8 x = x % 256 := by simp [IntKind.wrap, IntKind.bits, IntKind.signed]
theorem sb_eq (n : Int) : sb n = [n % 256, n / 256 % 256] := by
  unfold sb
  rw [wrap_u8, wrap_u8, show (2 : Int) ^ (min (Int.toNat 8) (IntKind.bits .i64)) = 256 from rfl, Int.fdiv_eq_ediv_of_nonneg _ (by omega)]
theorem isB_sb (n : Int) : isB (sb n) := by
  rw [sb_eq]
  intro x hx
  simp at hx
  omega
theorem isB_sI (s : Str) : isB (sI s) := fun x hx => by
  obtain ⟨u, _, rfl⟩ := List.mem_map.1 hx
  have := u.toNat_lt
  omega
theorem isB_zero : isB [0] := fun x hx => by simp at hx; omega
theorem isB_tb (c : CapT) : isB (tb c) := by
  unfold tb
  cases c.1 == 1 with
  | true => exact isB_app (isB_sI _) isB_zero
  | false => exact isB_nil
theorem isB_pad (n : Nat) : isB (pad n) := by
  unfold pad
  cases (n : Int) % 2 == 1 with
  | true => exact isB_zero
  | false => exact isB_nil
theorem isB_nb (w : Bool) (c : CapT) : isB (nb w c) := by
  unfold nb
  cases w with
  | true => exact isB_app (isB_sb _) (isB_sb _)
  | false => exact isB_app (isB_sb _) isB_nil
theorem isB_offB : ∀ (l : List CapT) (n : Nat), isB (offB n l)
  | [], _ => isB_nil
  | c :: r, n => isB_app (isB_sb _) (isB_offB r _)
theorem isB_nOff : ∀ (l : List ExtT) (n : Nat), isB (nOff n l)
  | [], _ => isB_nil
  | c :: r, n => isB_app (isB_sb _) (isB_nOff r _)
theorem isB_fb (l : List CapT) : isB (l.map fb) := fun x hx => by
  obtain ⟨c, _, rfl⟩ := List.mem_map.1 hx
  unfold fb
  match Int.toNat c.1 with
  | 0 => exact ⟨by decide, by decide⟩
  | 1 => exact ⟨by decide, by decide⟩
  | 2 => exact ⟨by decide, by decide⟩
  | n + 3 => exact ⟨by simp, by simp⟩
theorem isB_first (t : TermT) : isB (firstB t) := by
  unfold firstB
  exact isB_app (isB_app (isB_app (isB_app (isB_app (isB_app (isB_app (isB_flat isB_sb _) (isB_sI _)) isB_zero) (isB_fb _)) (isB_pad _)) (isB_flat (isB_nb _) _)) (isB_offB _ _)) (isB_flat isB_tb _)
theorem isB_nmB (l : List ExtT) : isB (nmB l) := isB_flat (fun x => isB_app (isB_sI _) isB_zero) l
theorem isB_second (w : Bool) (n : Nat) (l : List ExtT) : isB (secondB w n l) := by
  unfold secondB
  exact isB_app (isB_app (isB_app (isB_app (isB_app (isB_app (isB_app (isB_flat isB_sb _) (isB_fb _)) (isB_pad _)) (isB_flat (isB_nb _) _)) (isB_offB _ _)) (isB_nOff _ _)) (isB_flat isB_tb _)) (isB_nmB _)
theorem isB_bytes (t : TermT) : isB (bytesT t) := by
  unfold bytesT
  cases t.2.2.2.2.2 == [] with
  | true => exact isB_first t
  | false => exact isB_app (isB_app (isB_first t) (isB_pad _)) (isB_second _ _ _)
theorem bok_of {b : List Int} (h : isB b) (hl : (b.length : Int) ≤ 140737488355328) : BOk b := ⟨hl, fun i => by
  rw [List.getD_eq_getElem?_getD]
  cases hx : b[i]? with
  | none => exact ⟨by decide, by decide⟩
  | some y => exact h y (List.mem_of_getElem? hx)⟩
theorem capOk0 {c : CapT} {w : Bool} (h : capOk c 0 w = true) : c.2 = (0, []) := by
  unfold capOk at h
  rw [Bool.and_eq_true] at h
  have h := h.2
  simp at h
  exact Prod.ext h.1 h.2
theorem capOk1 {c : CapT} {w : Bool} (h : capOk c 1 w = true) : c.2.2 = [] ∧ 0 ≤ c.2.1 ∧ c.2.1 ≤ (bif w then 2147483647 else 32767) ∧ (c.1 ≠ 1 → c.2.1 = 0) := by
  unfold capOk at h
  rw [Bool.and_eq_true] at h
  obtain ⟨h1, h2⟩ := h
  have e : ((1 : Int) == 0) = false := rfl
  simp only [e, cond_false, beq_self_eq_true, cond_true, Bool.and_eq_true, decide_eq_true_eq, beq_iff_eq] at h2
  refine ⟨h2.1, h2.2.1, h2.2.2, fun hc => ?_⟩
  have hc' : (c.1 == 1) = false := by simpa using hc
  rw [hc'] at h1
  simp only [Bool.not_eq_true', Bool.or_eq_false_iff, Bool.not_false, Bool.true_and] at h1
  simpa using h1.2.2.1
theorem capOk2 {c : CapT} {w : Bool} (h : capOk c 2 w = true) : c.2.1 = 0 ∧ nul c.2.2 = false ∧ (c.1 ≠ 1 → c.2.2 = []) := by
  unfold capOk at h
  rw [Bool.and_eq_true] at h
  obtain ⟨h1, h2⟩ := h
  have e : ((2 : Int) == 0) = false := rfl
  have e' : ((2 : Int) == 1) = false := rfl
  simp only [e, e', cond_false, Bool.and_eq_true, Bool.not_eq_true', beq_iff_eq] at h2
  refine ⟨h2.1, h2.2, fun hc => ?_⟩
  have hc' : (c.1 == 1) = false := by simpa using hc
  rw [hc'] at h1
  simp only [Bool.not_eq_true', Bool.or_eq_false_iff, Bool.not_false, Bool.true_and] at h1
  simpa using h1.2.2.2
theorem range_succ_map {α : Type} (f : Nat → α) (n : Nat) : (List.range (n + 1)).map f = f 0 :: (List.range n).map fun i => f (i + 1) := by
  rw [List.range_succ_eq_map, List.map_cons, List.map_map]; rfl
theorem st_cases {c : CapT} {kd : Int} {w : Bool} (h : capOk c kd w = true) : c.1 = 0 ∨ c.1 = 1 ∨ c.1 = 2 := by
  have := capOk_st h
  omega
theorem fl_fb {c : CapT} {w : Bool} (h : capOk c 0 w = true) : fl (fb c) = c := by
  have h2 := capOk0 h
  have h3 := st_cases h
  obtain ⟨st, r⟩ := c
  simp only at h2 h3
  subst h2
  rcases h3 with rfl | rfl | rfl <;> rfl
theorem flagsS_at {w : Bool} {b : List Int} : ∀ (l : List CapT) (o : Nat), At b o (l.map fb) → (∀ c ∈ l, capOk c 0 w = true) → flagsS b o l.length = l
  | [], o, _, _ => rfl
  | c :: l, o, h, hc => by
    have h2 : At b (o + 1) (l.map fb) := (At.app (s := [fb c]) (t := l.map fb) h).2
    have ih := flagsS_at l (o + 1) h2 fun c hc' => hc c (by simp [hc'])
    have h0 : Proofs.YtfghjkgpbncagaaGreatDoor.by_ b ((o : Int) + ((0 : Nat) : Int)) = fb c := h.by_ (i := 0) (by simp) rfl
    unfold flagsS at ih ⊢
    rw [List.length_cons, range_succ_map, h0, fl_fb (hc c (by simp))]
    congr 1
    refine Eq.trans (List.map_congr_left fun i _ => ?_) ih
    rw [show (o : Int) + ((i + 1 : Nat) : Int) = ((o + 1 : Nat) : Int) + (i : Int) by omega]
theorem cN_vl {c : CapT} {w : Bool} (h : capOk c 1 w = true) : cN (vl c c.2.1) = c := by
  obtain ⟨h1, h2, _, h4⟩ := capOk1 h
  have h3 := st_cases h
  obtain ⟨st, num, text⟩ := c
  simp only at h1 h2 h3 h4
  subst h1
  rcases h3 with rfl | rfl | rfl
  · rw [h4 (by decide)]; rfl
  · show cN num = _
    unfold cN stN
    rw [decide_eq_true h2, decide_eq_false (show ¬ (0 : Int) > num by omega)]
    rfl
  · rw [h4 (by decide)]; rfl
section
variable {b : List Int} (hb : BOk b)
include hb
theorem sh_sb {o : Nat} {n a : Int} (h : At b o (sb n)) (h0 : -32768 ≤ n) (h1 : n ≤ 32767) (ha : a = (o : Int)) : sh b a = n := by
  rw [sb_eq] at h
  have e0 := h.by_ (i := 0) (by simp) (a := a) (by omega)
  have e1 := h.by_ (i := 1) (by simp) (a := a + 1) (by omega)
  rw [sh_eq hb, e0, e1]
  show (if n % 256 + n / 256 % 256 * 256 < 32768 then n % 256 + n / 256 % 256 * 256 else n % 256 + n / 256 % 256 * 256 - 65536) = n
  split <;> omega
theorem nm_at {w : Bool} {o : Nat} {c : CapT} (h : At b o (nb w c)) (hc : capOk c 1 w = true) {a : Int} (ha : a = (o : Int)) : nm w b a = vl c c.2.1 := by
  obtain ⟨_, c2, c3, c4⟩ := capOk1 hc
  have hv : -2 ≤ vl c c.2.1 ∧ vl c c.2.1 ≤ (bif w then 2147483647 else 32767) := by
    unfold vl
    cases c.1 == 0 <;> cases c.1 == 2 <;> cases w <;> simp at c3 ⊢ <;> omega
  unfold nb at h
  generalize vl c c.2.1 = n at *
  cases w with
  | false =>
    have hv2 : n ≤ 32767 := hv.2
    exact sh_sb hb h.app.1 (by omega) hv2 ha
  | true =>
    have hv2 : n ≤ 2147483647 := hv.2
    have h : At b o (sb n ++ sb (Int.fdiv n (2 ^ (min (Int.toNat 16) (IntKind.bits .i64))))) := h
    rw [show (2 : Int) ^ (min (Int.toNat 16) (IntKind.bits .i64)) = 65536 from rfl, Int.fdiv_eq_ediv_of_nonneg _ (by omega), sb_eq, sb_eq] at h
    have e0 := h.by_ (i := 0) (by simp) (a := a) (by omega)
    have e1 := h.by_ (i := 1) (by simp) (a := a + 1) (by omega)
    have e2 := h.by_ (i := 2) (by simp) (a := a + 2) (by omega)
    have e3 := h.by_ (i := 3) (by simp) (a := a + 3) (by omega)
    show lg b a = n
    unfold lg
    rw [e0, e1, e2, e3]
    show IntKind.wrap .i64 (IntKind.wrap .i32 (n % 256 + n / 256 % 256 * 256 + n / 65536 % 256 * 65536 + n / 65536 / 256 % 256 * 16777216)) = n
    have hsum : n % 256 + n / 256 % 256 * 256 + n / 65536 % 256 * 65536 + n / 65536 / 256 % 256 * 16777216 = if 0 ≤ n then n else n + 4294967296 := by
      split <;> omega
    rw [hsum]
    split
    · rw [wrap_i32 (by omega) (by omega), if_pos (by omega)]
      exact wrap_i64 (by omega) (by omega)
    · rw [wrap_i32 (by omega) (by omega), if_neg (by omega), show n + 4294967296 - 4294967296 = n by omega]
      exact wrap_i64 (by omega) (by omega)
theorem numsS_at {w : Bool} : ∀ (l : List CapT) (o : Nat), At b o (l.flatMap (nb w)) → (∀ c ∈ l, capOk c 1 w = true) → numsS w b o l.length = l
  | [], o, _, _ => rfl
  | c :: l, o, h, hc => by
    rw [List.flatMap_cons] at h
    obtain ⟨h1, h2⟩ := h.app
    have hl : ((nb w c).length : Int) = sz w := by cases w <;> rfl
    have ih := numsS_at l (o + (nb w c).length) h2 fun c hc' => hc c (by simp [hc'])
    have h0 := nm_at hb h1 (hc c (by simp)) (a := (o : Int) + ((0 : Nat) : Int) * sz w) (by simp)
    unfold numsS at ih ⊢
    rw [List.length_cons, range_succ_map, h0, cN_vl (hc c (by simp))]
    congr 1
    refine Eq.trans (List.map_congr_left fun i _ => ?_) ih
    have e1 : ((o + (nb w c).length : Nat) : Int) = (o : Int) + sz w := by rw [← hl]; omega
    rw [show (o : Int) + ((i + 1 : Nat) : Int) * sz w = ((o + (nb w c).length : Nat) : Int) + (i : Int) * sz w by
      rw [e1, Int.natCast_succ, Int.add_mul]; omega]
omit hb in
theorem ib_app : ∀ (s q : Str), nul s = false → Lib.indexByte (s ++ 0 :: q) 0 = (s.length : Int)
  | [], q, _ => rfl
  | u :: s, q, h => by
    have hu : u ≠ 0 := by
      intro hu
      subst hu
      simp [nul] at h
    have hs : nul s = false := by
      simp [nul] at h ⊢
      exact h.2
    have ih := ib_app s q hs
    have h1 : (u == 0) = false := by simpa using hu
    rw [List.cons_append, Lib.indexByte, h1, ih]
    have h2 : (((s.length : Nat) : Int) == -1) = false := by
      rw [beq_eq_false_iff_ne]; omega
    rw [h2]
    simp
omit hb in
theorem txAt_app {P s Q : Str} {from_ : Int} (hf : from_ = (P.length : Int)) (hs : nul s = false) (hl : s.length ≤ 1000) : txAt (P ++ (s ++ 0 :: Q)) from_ = some s := by
  unfold txAt tx
  rw [hf, Int.toNat_natCast, List.drop_left, ib_app s Q hs, decide_eq_false (show ¬ (P.length : Int) > ((P ++ (s ++ 0 :: Q)).length : Int) by simp; omega), decide_eq_false (show ¬ (s.length : Int) < 0 by omega), decide_eq_false (show ¬ (s.length : Int) > 1000 by omega)]
  simp
/-- The texts of a table. -/
def tbS' (c : CapT) : Str := bif c.1 == 1 then c.2.2 ++ [0] else []
omit hb in
theorem tbS'_len (c : CapT) : (tbS' c).length = (tb c).length := by
  unfold tbS' tb
  cases c.1 == 1 <;> simp [sI_len]
theorem tx_run {T : Str} {to_ : Int} {w : Bool} : ∀ (rest : List CapT) (i : Nat) (s : TxS) (P Q : Str) (o : Nat), (∀ c ∈ rest, capOk c 2 w = true ∧ c.2.2.length ≤ 1000) → (o : Int) = to_ + (i : Int) * 2 → At b o (offB P.length rest) → T = P ++ (rest.flatMap tbS' ++ Q) → s.2.1 = (P.length : Int) → s.1 < s.2.1 → P.length + (rest.flatMap tb).length ≤ 32767 →
    ∃ l', runE (txStep T b to_) rest.length i s = .inr (l', (((P.length + (rest.flatMap tb).length : Nat) : Int), s.2.2 ++ rest)) ∧ l' < ((P.length + (rest.flatMap tb).length : Nat) : Int)
  | [], i, s, P, Q, o, _, _, _, _, h1, h2, _ => ⟨s.1, by simp [runE, ← h1], by simp; omega⟩
  | c :: rest, i, s, P, Q, o, hc, ho, hat, hT, h1, h2, hmax => by
    rw [offB] at hat
    obtain ⟨ha1, ha2⟩ := hat.app
    obtain ⟨k1, k2⟩ := hc c (by simp)
    obtain ⟨c1, c2, c3⟩ := capOk2 k1
    have hst := st_cases k1
    rw [List.flatMap_cons, List.length_append] at hmax
    have hv : -2 ≤ vl c (P.length : Int) ∧ vl c (P.length : Int) ≤ 32767 := by
      unfold vl
      cases c.1 == 0 <;> cases c.1 == 2 <;> simp <;> omega
    have hsh : sh b (to_ + (i : Int) * 2) = vl c (P.length : Int) := sh_sb hb ha1 (by omega) hv.2 ho.symm
    obtain ⟨st, num, text⟩ := c
    simp only at c1 c2 c3 hst k2
    subst c1
    have hlen := tbS'_len (st, ((0 : Int), text))
    have key : ∃ s' : TxS, txStep T b to_ i s = .inr s' ∧ s'.2.1 = ((P ++ tbS' (st, (0, text))).length : Int) ∧ s'.1 < s'.2.1 ∧ s'.2.2 = s.2.2 ++ [(st, (0, text))] := by
      unfold txStep
      rw [hsh]
      rcases hst with rfl | rfl | rfl
      · refine ⟨_, rfl, ?_, h2, ?_⟩
        · show s.2.1 = _
          rw [h1]; simp [tbS']
        · rw [c3 (by decide)]; rfl
      · have hv1 : vl (1, (0, text)) (P.length : Int) = (P.length : Int) := rfl
        rw [hv1, decide_eq_true (show (P.length : Int) ≥ 0 by omega), cond_true, hT]
        have htx : txAt (P ++ (((1, (0, text)) :: rest : List CapT).flatMap tbS' ++ Q)) (P.length : Int) = some text := by
          rw [List.flatMap_cons]
          have : tbS' (1, (0, text)) = text ++ [0] := rfl
          rw [this]
          have := txAt_app (P := P) (s := text) (Q := rest.flatMap tbS' ++ Q) (from_ := (P.length : Int)) rfl c2 k2
          simpa using this
        rw [htx]
        rw [decide_eq_true (show (P.length : Int) > s.1 by omega)]
        refine ⟨_, rfl, ?_, ?_, rfl⟩
        · show (P.length : Int) + _ + 1 = _
          simp [tbS']; omega
        · show (P.length : Int) < (P.length : Int) + _ + 1
          omega
      · refine ⟨_, rfl, ?_, h2, ?_⟩
        · show s.2.1 = _
          rw [h1]; simp [tbS']
        · rw [c3 (by decide)]; rfl
    obtain ⟨s', k3, k4, k5, k6⟩ := key
    obtain ⟨l', r1, r2⟩ := tx_run (T := T) (to_ := to_) (w := w) rest (i + 1) s' (P ++ tbS' (st, (0, text))) Q (o + (sb (vl (st, (0, text)) (P.length : Int))).length) (fun c hc' => hc c (by simp [hc'])) (by rw [sb_len]; omega) (by rw [List.length_append, hlen]; exact ha2) (by rw [hT, List.flatMap_cons]; simp) k4 k5 (by rw [List.length_append, hlen]; omega)
    refine ⟨l', ?_, ?_⟩
    · rw [List.length_cons, runE, k3]
      simp only
      rw [r1, k6, List.flatMap_cons, List.length_append, List.length_append, hlen]
      simp [Nat.add_assoc]
    · rw [List.flatMap_cons, List.length_append]
      rw [List.length_append, hlen] at r2
      omega
theorem thr_at {to_ : Int} {w : Bool} : ∀ (rest : List CapT) (i n o : Nat), (∀ c ∈ rest, capOk c 2 w = true) → (o : Int) = to_ + 2 * (i : Int) → At b o (offB n rest) → n + (rest.flatMap tb).length ≤ 32767 → thrN b to_ rest.length i = (cntS rest : Int)
  | [], i, n, o, _, _, _, _ => rfl
  | c :: rest, i, n, o, hc, ho, hat, hmax => by
    rw [offB] at hat
    obtain ⟨ha1, ha2⟩ := hat.app
    have k1 := hc c (by simp)
    have hst := st_cases k1
    rw [List.flatMap_cons, List.length_append] at hmax
    have hv : -2 ≤ vl c (n : Int) ∧ vl c (n : Int) ≤ 32767 := by
      unfold vl
      cases c.1 == 0 <;> cases c.1 == 2 <;> simp <;> omega
    have hsh : sh b (to_ + 2 * (i : Int)) = vl c (n : Int) := sh_sb hb ha1 (by omega) hv.2 ho.symm
    have ih := thr_at (to_ := to_) (w := w) rest (i + 1) (n + (tb c).length) (o + (sb (vl c (n : Int))).length) (fun c hc' => hc c (by simp [hc'])) (by rw [sb_len]; omega) ha2 (by omega)
    have hcnt : (cntS (c :: rest) : Int) = (bif c.1 == 1 then 1 else 0) + (cntS rest : Int) := by
      unfold cntS
      rw [List.filter_cons]
      cases c.1 == 1 <;> simp
      omega
    rw [List.length_cons, thrN, hsh, ih, hcnt]
    congr 1
    unfold vl
    rcases hst with h | h | h <;> rw [h]
    · rfl
    · rw [show (bif (1 : Int) == 0 then (-1 : Int) else bif (1 : Int) == 2 then -2 else (n : Int)) = (n : Int) from rfl, decide_eq_true (show (n : Int) ≥ 0 by omega)]; rfl
    · rfl
def nmS (l : List ExtT) : Str := l.flatMap fun x => x.2.1 ++ [0]
omit hb in
theorem nmS_cons (x : ExtT) (l : List ExtT) : nmS (x :: l) = x.2.1 ++ (0 :: nmS l) := by simp [nmS]
theorem nm_run {T : Str} {eo beh kd : Int} {l : List CapT} : ∀ (rest : List ExtT) (i : Nat) (out : List ExtT) (P Q : Str) (o n : Nat), (∀ x ∈ rest, x.1 = kd ∧ nul x.2.1 = false ∧ x.2.1.length ≤ 1000) → (∀ (p q : List ExtT) (x : ExtT), rest = p ++ x :: q → okName (out ++ p) x.2.1 = true) → l.drop i = rest.map (fun x => x.2.2) → (o : Int) = eo + 2 * (out.length : Int) → At b o (nOff n rest) → T = P ++ (nmS rest ++ Q) → (P.length : Int) = beh + (n : Int) → n + (nmS rest).length ≤ 32767 →
    runE (nmStep T b eo beh kd l) rest.length i out = .inr (out ++ rest)
  | [], i, out, P, Q, o, n, _, _, _, _, _, _, _, _ => by simp [runE]
  | x :: rest, i, out, P, Q, o, n, hx, hok, hl, ho, hat, hT, hP, hmax => by
    rw [nOff] at hat
    obtain ⟨ha1, ha2⟩ := hat.app
    obtain ⟨x1, x2, x3⟩ := hx x (by simp)
    rw [nmS_cons, List.length_append, List.length_cons] at hmax
    have hsh : sh b (eo + 2 * (out.length : Int)) = (n : Int) := sh_sb hb ha1 (by omega) (by omega) ho.symm
    have htx : txAt T (beh + (n : Int)) = some x.2.1 := by
      rw [hT, nmS_cons]
      have := txAt_app (P := P) (s := x.2.1) (Q := nmS rest ++ Q) (from_ := beh + (n : Int)) hP.symm x2 x3
      simpa using this
    have hk := hok [] rest x rfl
    rw [List.append_nil] at hk
    have hget : l.getD i (0, (0, [])) = x.2.2 := by
      have := List.getElem?_drop (xs := l) (i := i) (j := 0)
      rw [hl] at this
      rw [List.getD_eq_getElem?_getD]
      simp at this
      rw [← this]; rfl
    have hstep : nmStep T b eo beh kd l i out = .inr (out ++ [x]) := by
      unfold nmStep
      rw [hsh, decide_eq_false (show ¬ (n : Int) < 0 by omega), cond_false, htx]
      simp only [hk, cond_true, hget, ← x1]
    have ih := nm_run (T := T) (eo := eo) (beh := beh) (kd := kd) (l := l) rest (i + 1) (out ++ [x]) (P ++ (x.2.1 ++ [0])) Q (o + (sb (n : Int)).length) (n + (x.2.1.length + 1)) (fun y hy => hx y (by simp [hy])) (fun p q y hy => by
      have := hok (x :: p) q y (by rw [hy]; rfl)
      simpa using this) (by
      rw [← List.drop_drop, hl]; rfl) (by rw [sb_len, List.length_append, List.length_singleton]; omega) ha2 (by rw [hT, nmS_cons]; simp) (by rw [List.length_append, List.length_append, List.length_singleton]; omega) (by omega)
    rw [List.length_cons, runE, hstep]
    simp only
    rw [ih, List.append_assoc]
    rfl
end
end Go.Proofs.YtfghjkgpbncagaaGreatDoor
