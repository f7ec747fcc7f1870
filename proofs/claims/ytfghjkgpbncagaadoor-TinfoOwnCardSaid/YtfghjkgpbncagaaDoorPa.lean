/- Joined texts: Pa. -/
import Derived.Test.YtfghjkgpbncagaaDoorGf
import Derived.Test.YtfghjkgpbncagaaDoorKc
import Derived.Lib.Bytealg
import Derived.Lib.IndexMore
import Derived.Lib.IndexAny
import Derived.Lib.IndexBytes
set_option linter.unusedVariables false
set_option linter.unusedSectionVars false
namespace Go.Av
theorem inI_t {x : Int} (h1 : -9223372036854775808 ≤ x) (h2 : x ≤ 9223372036854775807) : inI x = true := (inI_iff x).2 ⟨h1, h2⟩
theorem inL_t {i : Int} {n : Nat} (h1 : 0 ≤ i) (h2 : i < n) : inL i n = true := by simp [inL, h1, h2]
theorem lt_t {i j : Int} (h : i < j) : decide (i < j) = true := decide_eq_true h
theorem lt_f {i j : Int} (h : ¬ i < j) : decide (i < j) = false := decide_eq_false h
theorem room_t {n : Nat} (h : n ≤ 140737488355328) : room n = true := by simp [room, h]
def scan {α S R : Type} (f : α → Int → S → (S → Option R) → Option R) (e : S → Option R) : List α → Int → S → Option R
  | [], _, s => e s
  | x :: r, i, s => f x i s (fun s' => scan f e r (i + 1) s')
theorem scan_at {α S R : Type} {l : List α} {d : α} {f : α → Int → S → (S → Option R) → Option R} {e : S → Option R} {L : Nat → Int → S → Option R}
    (h1 : ∀ (n : Nat) (i : Int) (s : S), 0 ≤ i → i < l.length → L (n + 1) i s = f (l.getD i.toNat d) i s (fun s' => L n (i + 1) s'))
    (h2 : ∀ (n : Nat) (s : S), L (n + 1) (l.length : Int) s = e s) : ∀ (n j : Nat) (s : S), j ≤ l.length → l.length - j < n → L n (j : Int) s = scan f e (l.drop j) j s
  | 0, j, s, hj, hn => by omega
  | n + 1, j, s, hj, hn => by
    rcases Nat.lt_or_ge j l.length with h | h
    · rw [h1 n j s (by omega) (by omega), List.drop_eq_getElem_cons h, scan]
      have hx : l.getD (Int.toNat (j : Int)) d = l[j] := by rw [Int.toNat_natCast, List.getD_eq_getElem?_getD, List.getElem?_eq_getElem h]; rfl
      rw [hx]
      congr 1
      funext s'
      have := scan_at h1 h2 n (j + 1) s' (by omega) (by omega)
      exact this
    · have : j = l.length := by omega
      subst this
      rw [h2, List.drop_length]; rfl
theorem scan_loop {α S R : Type} {l : List α} {d : α} {f : α → Int → S → (S → Option R) → Option R} {e : S → Option R} {L : Nat → Int → S → Option R}
    (h1 : ∀ (n : Nat) (i : Int) (s : S), 0 ≤ i → i < l.length → L (n + 1) i s = f (l.getD i.toNat d) i s (fun s' => L n (i + 1) s'))
    (h2 : ∀ (n : Nat) (s : S), L (n + 1) (l.length : Int) s = e s) (n : Nat) (s : S) (hn : l.length < n) : L n 0 s = scan f e l 0 s := scan_at h1 h2 n 0 s (by omega) (by omega)
/-- two at a time -/
def scan2 {α S R : Type} (f : α → α → Int → S → (S → Option R) → Option R) (e : S → Option R) : List α → Int → S → Option R
  | x :: y :: r, i, s => f x y i s (fun s' => scan2 f e r (i + 2) s')
  | _, _, s => e s
theorem scan2_at {α S R : Type} {l : List α} {d : α} {f : α → α → Int → S → (S → Option R) → Option R} {e : S → Option R} {L : Nat → Int → S → Option R}
    (h1 : ∀ (n : Nat) (i : Int) (s : S), 0 ≤ i → i + 1 < l.length → L (n + 1) i s = f (l.getD i.toNat d) (l.getD (i + 1).toNat d) i s (fun s' => L n (i + 2) s'))
    (h2 : ∀ (n : Nat) (i : Int) (s : S), 0 ≤ i → ¬ i + 1 < l.length → i ≤ l.length → L (n + 1) i s = e s) : ∀ (n j : Nat) (s : S), j ≤ l.length → l.length - j < n → L n (j : Int) s = scan2 f e (l.drop j) j s
  | 0, j, s, hj, hn => by omega
  | n + 1, j, s, hj, hn => by
    rcases Nat.lt_or_ge (j + 1) l.length with h | h
    · rw [h1 n j s (by omega) (by omega), List.drop_eq_getElem_cons (by omega : j < l.length), List.drop_eq_getElem_cons h, scan2]
      have hx : l.getD (Int.toNat (j : Int)) d = l[j] := by rw [Int.toNat_natCast, List.getD_eq_getElem?_getD, List.getElem?_eq_getElem (by omega)]; rfl
      have hy : l.getD (Int.toNat ((j : Int) + 1)) d = l[j + 1] := by
        rw [show Int.toNat ((j : Int) + 1) = j + 1 by omega, List.getD_eq_getElem?_getD, List.getElem?_eq_getElem h]; rfl
      rw [hx, hy]
      congr 1
      funext s'
      have := scan2_at h1 h2 n (j + 1 + 1) s' (by omega) (by omega)
      exact this
    · rw [h2 n j s (by omega) (by omega) (by omega)]
      have : (l.drop j).length ≤ 1 := by rw [List.length_drop]; omega
      match hd : l.drop j, this with
      | [], _ => rfl
      | [x], _ => rfl
theorem scan2_loop {α S R : Type} {l : List α} {d : α} {f : α → α → Int → S → (S → Option R) → Option R} {e : S → Option R} {L : Nat → Int → S → Option R}
    (h1 : ∀ (n : Nat) (i : Int) (s : S), 0 ≤ i → i + 1 < l.length → L (n + 1) i s = f (l.getD i.toNat d) (l.getD (i + 1).toNat d) i s (fun s' => L n (i + 2) s'))
    (h2 : ∀ (n : Nat) (i : Int) (s : S), 0 ≤ i → ¬ i + 1 < l.length → i ≤ l.length → L (n + 1) i s = e s) (n : Nat) (s : S) (hn : l.length < n) : L n 0 s = scan2 f e l 0 s := scan2_at h1 h2 n 0 s (by omega) (by omega)
def pairsOf {α : Type} : List α → List (α × α)
  | x :: y :: r => (x, y) :: pairsOf r
  | _ => []
/-- The first that is so. -/
def search {α A B : Type} (p : α → Bool) (g : α → Int → B) (e : A) : List α → Int → A ⊕ B
  | [], _ => .inl e
  | x :: r, i => bif p x then .inr (g x i) else search p g e r (i + 1)
theorem search_any {α A B : Type} (p : α → Bool) (b : B) (e : A) : ∀ (l : List α) (i : Int), search p (fun _ _ => b) e l i = bif l.any p then .inr b else .inl e
  | [], i => rfl
  | x :: r, i => by
    rw [search, List.any_cons, search_any p b e r]
    cases p x <;> rfl
theorem search_scan {α A B : Type} (p : α → Bool) (g : α → Int → B) (e : A) : ∀ (l : List α) (i : Int), scan (fun x i (_ : Unit) c => bif p x then some (.inr (g x i)) else c ()) (fun _ => some (.inl e)) l i () = some (search p g e l i)
  | [], i => rfl
  | x :: r, i => by
    rw [scan, search]
    show (bif p x then some (Sum.inr (g x i)) else scan _ _ r (i + 1) ()) = _
    rw [search_scan p g e r]
    cases p x <;> rfl
theorem search_loop {α A B : Type} {l : List α} (d : α) (p : α → Bool) (g : α → Int → B) (e : A) (L : Nat → Int → Option (A ⊕ B))
    (h1 : ∀ (n : Nat) (i : Int), 0 ≤ i → i < l.length → L (n + 1) i = bif p (l.getD i.toNat d) then some (.inr (g (l.getD i.toNat d) i)) else L n (i + 1))
    (h2 : ∀ (n : Nat), L (n + 1) (l.length : Int) = some (.inl e)) {n : Nat} (hn : l.length < n) : L n 0 = some (search p g e l 0) := by
  rw [← search_scan]
  exact scan_loop (d := d) (L := fun n i (_ : Unit) => L n i) (fun n i s => h1 n i) (fun n s => h2 n) n () hn
theorem not_lt_self (n : Nat) : decide ((n : Int) < (n : Int)) = false := decide_eq_false (by omega)
end Go.Av
set_option maxRecDepth 100000
namespace Go.Proofs.YtfghjkgpbncagaaDoor
open Go.RowKit Go.Av Go.Proofs
abbrev Str := List UInt8
abbrev CapT := Int × Int × Str
abbrev ExtT := Int × Str × CapT
abbrev TermT := Str × Bool × List CapT × List CapT × List CapT × List ExtT
def spotsT : List (Str × Int × Int) := ((F_tinfo_spots 0).getD [])
theorem spots_eq (k : Nat) : F_tinfo_spots k = some spotsT := by kernel_rfl
theorem spots_len : spotsT.length = 112 := by decide +kernel
theorem place_loop {k : Nat} (hk : 112 < k) (x : Str) : L_tinfo_Place_1 k k x spotsT 0 = some ((spotsT.find? (fun s => s.1 == x)).elim (.inl ()) fun s => .inr s.2) := by
  have h := scan_loop (l := spotsT) (d := ([], (0, 0))) (S := Unit) (R := Unit ⊕ (Int × Int)) (L := fun n i _ => L_tinfo_Place_1 k n x spotsT i) (e := fun _ => some (.inl ()))
    (f := fun s i _ c => bif s.1 == x then some (.inr s.2) else c ()) (fun n i s h0 h1 => by
      rw [spots_len] at h1
      simp only [L_tinfo_Place_1, lt_t (show i < 112 from h1), inL_t (n := 112) h0 h1, inL_t (n := spotsT.length) h0 (by rw [spots_len]; exact h1), inI_t (x := i + 1) (by omega) (by omega), cond_true, Bool.and_self]) (fun n s => by
      rw [spots_len]
      rfl) k () (by rw [spots_len]; exact hk)
  refine h.trans ?_
  generalize (0 : Int) = i
  induction spotsT generalizing i with
  | nil => rfl
  | cons a l ih =>
    rw [scan, List.find?_cons]
    cases a.1 == x with
    | true => rfl
    | false => exact ih _
def placeT (x : Str) : Int × Int × Bool := (spotsT.find? (fun s => s.1 == x)).elim (0, 0, false) fun s => (s.2.1, s.2.2, true)
theorem place_ok {k : Nat} (hk : 112 < k) (x : Str) : F_tinfo_Place k x = some (placeT x) := by
  rw [F_tinfo_Place, spots_eq, Option.bind_some, place_loop hk, placeT]
  cases spotsT.find? (fun s => s.1 == x) <;> rfl
def tabs3 : List Str := [[98, 119, 32, 48, 32, 97, 109, 32, 49, 32, 120, 115, 98, 32, 50, 32, 120, 104, 112, 32, 51, 32, 120, 101, 110, 108, 32, 52, 32, 101, 111, 32, 53, 32, 103, 110, 32, 54, 32, 104, 99, 32, 55, 32, 107, 109, 32, 56, 32, 104, 115, 32, 57, 32, 105, 110, 32, 49, 48, 32, 100, 97, 32, 49, 49, 32, 100, 98, 32, 49, 50, 32, 109, 105, 114, 32, 49, 51, 32, 109, 115, 103, 114, 32, 49, 52, 32, 111, 115, 32, 49, 53], [99, 111, 108, 115, 32, 48, 32, 105, 116, 32, 49, 32, 108, 105, 110, 101, 115, 32, 50, 32, 108, 109, 32, 51, 32, 120, 109, 99, 32, 52, 32, 112, 98, 32, 53, 32, 118, 116, 32, 54, 32, 119, 115, 108, 32, 55, 32, 110, 108, 97, 98, 32, 56, 32, 108, 104, 32, 57, 32, 108, 119, 32, 49, 48, 32, 109, 97, 32, 49, 49, 32, 119, 110, 117, 109, 32, 49, 50, 32, 99, 111, 108, 111, 114, 115, 32, 49, 51, 32, 112, 97, 105, 114, 115, 32, 49, 52, 32, 110, 99, 118, 32, 49, 53], [99, 98, 116, 32, 48, 32, 98, 101, 108, 32, 49, 32, 99, 114, 32, 50, 32, 99, 115, 114, 32, 51, 32, 116, 98, 99, 32, 52, 32, 99, 108, 101, 97, 114, 32, 53, 32, 101, 108, 32, 54, 32, 101, 100, 32, 55, 32, 104, 112, 97, 32, 56, 32, 99, 109, 100, 99, 104, 32, 57, 32, 99, 117, 112, 32, 49, 48, 32, 99, 117, 100, 49, 32, 49, 49, 32, 104, 111, 109, 101, 32, 49, 50, 32, 99, 105, 118, 105, 115, 32, 49, 51, 32, 99, 117, 98, 49, 32, 49, 52, 32, 109, 114, 99, 117, 112, 32, 49, 53, 32, 99, 110, 111, 114, 109, 32, 49, 54, 32, 99, 117, 102, 49, 32, 49, 55, 32, 108, 108, 32, 49, 56, 32, 99, 117, 117, 49, 32, 49, 57, 32, 99, 118, 118, 105, 115, 32, 50, 48, 32, 100, 99, 104, 49, 32, 50, 49, 32, 100, 108, 49, 32, 50, 50, 32, 100, 115, 108, 32, 50, 51, 32, 104, 100, 32, 50, 52, 32, 115, 109, 97, 99, 115, 32, 50, 53, 32, 98, 108, 105, 110, 107, 32, 50, 54, 32, 98, 111, 108, 100, 32, 50, 55, 32, 115, 109, 99, 117, 112, 32, 50, 56, 32, 115, 109, 100, 99, 32, 50, 57, 32, 100, 105, 109, 32, 51, 48, 32, 115, 109, 105, 114, 32, 51, 49, 32, 105, 110, 118, 105, 115, 32, 51, 50, 32, 112, 114, 111, 116, 32, 51, 51, 32, 114, 101, 118, 32, 51, 52, 32, 115, 109, 115, 111, 32, 51, 53, 32, 115, 109, 117, 108, 32, 51, 54, 32, 101, 99, 104, 32, 51, 55, 32, 114, 109, 97, 99, 115, 32, 51, 56, 32, 115, 103, 114, 48, 32, 51, 57, 32, 114, 109, 99, 117, 112, 32, 52, 48, 32, 114, 109, 100, 99, 32, 52, 49, 32, 114, 109, 105, 114, 32, 52, 50, 32, 114, 109, 115, 111, 32, 52, 51, 32, 114, 109, 117, 108, 32, 52, 52, 32, 102, 108, 97, 115, 104, 32, 52, 53, 32, 105, 99, 104, 49, 32, 53, 50, 32, 105, 108, 49, 32, 53, 51, 32, 105, 112, 32, 53, 52, 32, 107, 98, 115, 32, 53, 53, 32, 107, 100, 99, 104, 49, 32, 53, 57, 32, 107, 99, 117, 100, 49, 32, 54, 49, 32, 107, 104, 111, 109, 101, 32, 55, 54, 32, 107, 105, 99, 104, 49, 32, 55, 55, 32, 107, 99, 117, 98, 49, 32, 55, 57, 32, 107, 110, 112, 32, 56, 49, 32, 107, 112, 112, 32, 56, 50, 32, 107, 99, 117, 102, 49, 32, 56, 51, 32, 107, 99, 117, 117, 49, 32, 56, 55, 32, 114, 109, 107, 120, 32, 56, 56, 32, 115, 109, 107, 120, 32, 56, 57, 32, 110, 101, 108, 32, 49, 48, 51, 32, 100, 99, 104, 32, 49, 48, 53, 32, 100, 108, 32, 49, 48, 54, 32, 99, 117, 100, 32, 49, 48, 55, 32, 105, 99, 104, 32, 49, 48, 56, 32, 105, 110, 100, 110, 32, 49, 48, 57, 32, 105, 108, 32, 49, 49, 48, 32, 99, 117, 98, 32, 49, 49, 49, 32, 99, 117, 102, 32, 49, 49, 50, 32, 114, 105, 110, 32, 49, 49, 51, 32, 99, 117, 117, 32, 49, 49, 52, 32, 114, 99, 32, 49, 50, 54, 32, 118, 112, 97, 32, 49, 50, 55, 32, 115, 99, 32, 49, 50, 56, 32, 105, 110, 100, 32, 49, 50, 57, 32, 114, 105, 32, 49, 51, 48, 32, 115, 103, 114, 32, 49, 51, 49, 32, 104, 116, 115, 32, 49, 51, 50, 32, 107, 101, 110, 100, 32, 49, 54, 52]]
def fieldsT (i : Nat) : List Str := Lib.fields (tabs3.getD i [])
def numT (s : Str) : Int := (Lib.atoi s).getD 0
def row (j : Int) (p : Str × Str) : Str × Int × Int := (p.1, j, numT p.2)
theorem tabs_len : tabs3.length = 3 := by decide +kernel
theorem tabs_ok : ((List.range 3).all fun i => decide ((tabs3.getD i []).length < 4294967281) && (tabs3.getD i []).all (fun b => decide (b.toNat < 128)) && decide ((fieldsT i).length < 290) && (pairsOf (fieldsT i)).all fun p => decide (p.2.length ≤ 18) && (Lib.atoi p.2).isSome) = true := by decide +kernel
theorem rows_ok : spotsT = (pairsOf (fieldsT 0)).map (row 0) ++ ((pairsOf (fieldsT 1)).map (row 1) ++ (pairsOf (fieldsT 2)).map (row 2)) := by decide +kernel
theorem fields_ok {i : Nat} (hi : i < 3) (k : Nat) : F_strings_Fields k (tabs3.getD i []) = some (fieldsT i) ∧ (fieldsT i).length < 290 ∧ ∀ p ∈ pairsOf (fieldsT i), F_strconv_Atoi k p.2 = some (numT p.2) := by
  have h := List.all_eq_true.1 tabs_ok i (List.mem_range.2 hi)
  simp only [Bool.and_eq_true] at h
  obtain ⟨⟨⟨h1, h2⟩, h3⟩, h4⟩ := h
  refine ⟨?_, of_decide_eq_true h3, fun p hp => ?_⟩
  · rw [F_strings_Fields, h1, h2]; rfl
  · have := List.all_eq_true.1 h4 p hp
    rw [Bool.and_eq_true] at this
    rw [F_strconv_Atoi, this.1, cond_true, numT]
    obtain ⟨n, hn⟩ := Option.isSome_iff_exists.1 this.2
    rw [hn]; rfl
theorem rplace2 {k : Nat} (x : Str) (j : Int) (w : List Str) {l : List Str} (hl : l.length < 290) (hk : 290 ≤ k) (ha : ∀ p ∈ pairsOf l, F_strconv_Atoi k p.2 = some (numT p.2)) :
    L_lanyardref03_Place_2 k k x j l 0 w = some (((pairsOf l).find? (fun p => p.1 == x)).elim (.inl (x, j, w)) fun p => .inr (j, numT p.2)) := by
  have h := scan2_loop (l := l) (d := []) (S := Unit) (L := fun n i _ => L_lanyardref03_Place_2 k n x j l i w) (e := fun _ => some (.inl (x, j, w)))
    (f := fun a b i _ c => bif a == x then (F_strconv_Atoi k b).bind fun z => some (.inr (j, z)) else c ()) (fun n i s h0 h1 => by
      simp only [L_lanyardref03_Place_2, lt_t h1, inL_t (i := i) h0 (by omega : i < l.length), inL_t (i := i + 1) (by omega) h1, inI_t (x := i + 1) (by omega) (by omega), inI_t (x := i + 2) (by omega) (by omega), cond_true]) (fun n i s h0 h1 h2 => by
      simp only [L_lanyardref03_Place_2, lt_f h1, inI_t (x := i + 1) (by omega) (by omega), cond_true, cond_false]) k () (by omega)
  refine h.trans ?_
  clear h hl
  generalize (0 : Int) = i
  suffices H : ∀ (m : Nat) (l : List Str) (i : Int), l.length ≤ m → (∀ p ∈ pairsOf l, F_strconv_Atoi k p.2 = some (numT p.2)) → scan2 (fun a b (i : Int) (_ : Unit) c => bif a == x then (F_strconv_Atoi k b).bind fun z => some (.inr (j, z)) else c ()) (fun _ => some (.inl (x, j, w))) l i () = some (((pairsOf l).find? (fun p => p.1 == x)).elim (Sum.inl (x, j, w)) fun p => .inr (j, numT p.2)) from H l.length l i (Nat.le_refl _) ha
  intro m
  induction m with
  | zero =>
    intro l i hl ha
    have : l = [] := List.eq_nil_of_length_eq_zero (by omega)
    subst this; rfl
  | succ m ih =>
    intro l i hl ha
    match l, hl, ha with
    | [], _, _ => rfl
    | [a], _, _ => rfl
    | a :: b :: r, hl, ha =>
      rw [scan2, pairsOf, List.find?_cons]
      cases hb : a == x with
      | true => rw [cond_true, ha (a, b) (by simp [pairsOf])]; rfl
      | false => rw [cond_false]; exact ih r _ (by simp at hl; omega) fun p hp => ha p (by simp [pairsOf, hp])
theorem find_row (x : Str) (j : Int) (l : List (Str × Str)) : (l.map (row j)).find? (fun s => s.1 == x) = (l.find? (fun p => p.1 == x)).map (row j) := by
  rw [List.find?_map]; rfl
theorem rplace_is (k : Nat) (x : Str) : F_lanyardref03_Place k x = (L_lanyardref03_Place_1 k k x 0 tabs3).bind fun z9 => either z9 (fun _ => some (0, 0, false)) fun z => some (z.1, z.2, true) := rfl
theorem rplace_fin (k : Nat) (i : Int) (n : Nat) (x : Str) (h0 : 0 ≤ i) (h1 : i < 3) {s : Str} {l w : List Str} {o : Option (Str × Str)} (f1 : F_strings_Fields k s = some l)
    (hp : L_lanyardref03_Place_2 k k x i l 0 w = some (o.elim (.inl (x, i, w)) fun p => .inr (i, numT p.2))) :
    ((F_strings_Fields k s).bind fun z5 => (L_lanyardref03_Place_2 k k x i z5 0 w).bind fun z8 => either z8 (fun z8_1 => bif inI (z8_1.2.1 + 1) then L_lanyardref03_Place_1 k n z8_1.1 (z8_1.2.1 + 1) z8_1.2.2 else none) fun z8_2 => some (Sum.inr z8_2)) =
      o.elim (L_lanyardref03_Place_1 k n x (i + 1) w) fun p => some (.inr (i, numT p.2)) := by
  rw [f1, Option.bind_some, hp, Option.bind_some]
  cases o with
  | some p => rfl
  | none =>
    show (bif inI (i + 1) then L_lanyardref03_Place_1 k n x (i + 1) w else none) = L_lanyardref03_Place_1 k n x (i + 1) w
    rw [inI_t (x := i + 1) (by omega) (by omega), cond_true]
theorem rplace_st {k : Nat} (hk : 290 ≤ k) (x : Str) (i n : Nat) (hi : i < 3) : L_lanyardref03_Place_1 k (n + 1) x (i : Int) tabs3 = ((pairsOf (fieldsT i)).find? (fun p => p.1 == x)).elim (L_lanyardref03_Place_1 k n x ((i : Int) + 1) tabs3) fun p => some (.inr ((i : Int), numT p.2)) := by
  obtain ⟨f1, f2, f3⟩ := fields_ok hi k
  have h3 : inL (i : Int) tabs3.length = true := inL_t (by omega) (by rw [tabs_len]; omega)
  have hp := rplace2 x (i : Int) tabs3 f2 hk f3
  have ht : Int.toNat (i : Int) = i := Int.toNat_natCast i
  rw [L_lanyardref03_Place_1, lt_t (show (i : Int) < 3 by omega), h3, cond_true, cond_true, ht]
  exact rplace_fin k (i : Int) n x (by omega) (by omega) f1 hp
theorem rplace_end (k n : Nat) (x : Str) : L_lanyardref03_Place_1 k (n + 1) x 3 tabs3 = some (.inl ()) := by
  rw [L_lanyardref03_Place_1, lt_f (show ¬ (3 : Int) < 3 by omega), cond_false]
theorem rplace_all {k : Nat} (hk : 290 ≤ k) (x : Str) (n : Nat) : L_lanyardref03_Place_1 k (n + 1 + 1 + 1 + 1) x 0 tabs3 = some ((spotsT.find? (fun s => s.1 == x)).elim (.inl ()) fun s => .inr s.2) := by
  have s0 := rplace_st hk x 0 (n + 1 + 1 + 1) (by omega)
  have s1 := rplace_st hk x 1 (n + 1 + 1) (by omega)
  have s2 := rplace_st hk x 2 (n + 1) (by omega)
  have e := rplace_end k n x
  rw [show ((0 : Nat) : Int) = 0 from rfl, show (0 : Int) + 1 = 1 from rfl] at s0
  rw [show ((1 : Nat) : Int) = 1 from rfl, show (1 : Int) + 1 = 2 from rfl] at s1
  rw [show ((2 : Nat) : Int) = 2 from rfl, show (2 : Int) + 1 = 3 from rfl, e] at s2
  rw [s0, s1, s2, rows_ok, List.find?_append, List.find?_append, find_row, find_row, find_row]
  generalize (pairsOf (fieldsT 0)).find? (fun p => p.1 == x) = o0
  generalize (pairsOf (fieldsT 1)).find? (fun p => p.1 == x) = o1
  generalize (pairsOf (fieldsT 2)).find? (fun p => p.1 == x) = o2
  cases o0 <;> cases o1 <;> cases o2 <;> rfl
theorem rplace_low {k : Nat} (hk : 290 ≤ k) (x : Str) : F_lanyardref03_Place k x = some (placeT x) := by
  obtain ⟨m, hm⟩ : ∃ m, k = m + 1 + 1 + 1 + 1 := ⟨k - 4, by omega⟩
  have h := rplace_all hk x m
  rw [← hm] at h
  rw [rplace_is, h, Option.bind_some, placeT]
  generalize spotsT.find? (fun s => s.1 == x) = o
  cases o <;> rfl
end Go.Proofs.YtfghjkgpbncagaaDoor
set_option linter.unusedVariables false
set_option linter.unusedSimpArgs false
set_option maxRecDepth 100000
set_option maxHeartbeats 1000000
namespace Go.Proofs.YtfghjkgpbncagaaDoor
open Go.RowKit Go.Av Go.Proofs
/-- A loop that comes to its end. -/
theorem ex_at {S R : Type} {N : Nat} {L : Nat → Int → S → Option R} (Inv : S → Prop) (P : R → Prop)
    (step : ∀ (n : Nat) (i : Int) (s : S), 0 ≤ i → i < N → Inv s → (∃ r, L (n + 1) i s = some r ∧ P r) ∨ ∃ s', Inv s' ∧ L (n + 1) i s = L n (i + 1) s')
    (stop : ∀ (n : Nat) (s : S), Inv s → ∃ r, L (n + 1) (N : Int) s = some r ∧ P r) : ∀ (c m i : Nat) (s : S), i + c = N → c < m → Inv s → ∃ r, L m (i : Int) s = some r ∧ P r
  | 0, m, i, s, h, hm, hs => by
    obtain ⟨m, rfl⟩ : ∃ q, m = q + 1 := ⟨m - 1, by omega⟩
    obtain rfl : i = N := by omega
    exact stop m s hs
  | c + 1, m, i, s, h, hm, hs => by
    obtain ⟨m, rfl⟩ : ∃ q, m = q + 1 := ⟨m - 1, by omega⟩
    rcases step m i s (by omega) (by omega) hs with h' | ⟨s', h1, h2⟩
    · exact h'
    · obtain ⟨r, h3, h4⟩ := ex_at Inv P step stop c m (i + 1) s' (by omega) (by omega) h1
      exact ⟨r, h2.trans (by simpa using h3), h4⟩
theorem ex_loop {S R : Type} {N : Nat} {L : Nat → Int → S → Option R} (Inv : S → Prop) (P : R → Prop)
    (step : ∀ (n : Nat) (i : Int) (s : S), 0 ≤ i → i < N → Inv s → (∃ r, L (n + 1) i s = some r ∧ P r) ∨ ∃ s', Inv s' ∧ L (n + 1) i s = L n (i + 1) s')
    (stop : ∀ (n : Nat) (s : S), Inv s → ∃ r, L (n + 1) (N : Int) s = some r ∧ P r) {k : Nat} (hk : N < k) {s : S} (hs : Inv s) : ∃ r, L k 0 s = some r ∧ P r :=
  ex_at Inv P step stop N k 0 s (by omega) hk hs
theorem search_own {α A : Type} (p : α → Bool) (w : A) : ∀ (l : List α) (i : Int), search p (fun _ i => (i, w)) w l i = bif l.any p then .inr (i + (l.findIdx p : Nat), w) else .inl w
  | [], i => rfl
  | x :: r, i => by
    rw [search, List.any_cons, List.findIdx_cons, search_own p w r]
    cases p x with
    | true => simp
    | false =>
      simp only [cond_false, Bool.false_or]
      cases r.any p with
      | true => simp only [cond_true]; congr 2; omega
      | false => rfl
theorem bif_or (a b : Bool) : (bif a then some true else some b) = some (a || b) := by cases a <;> rfl
def over (c : CapT) : Bool := decide ((c.2.2.length : Int) > 1000)
def overX (x : ExtT) : Bool := over x.2.2 || decide ((x.2.1.length : Int) > 1000)
theorem over_le {c : CapT} (h : over c = false) : c.2.2.length ≤ 1000 := by
  unfold over at h
  have := of_decide_eq_false h
  omega
theorem any_le {l : List CapT} (h : l.any over = false) : ∀ c ∈ l, c.2.2.length ≤ 1000 := fun c hc => over_le (by
  have := List.any_eq_false.1 h c hc
  simpa using this)
theorem anyX_le {l : List ExtT} (h : l.any overX = false) : ∀ x ∈ l, x.2.2.2.2.length ≤ 1000 ∧ x.2.1.length ≤ 1000 := fun x hx => by
  have := List.any_eq_false.1 h x hx
  have hx' : overX x = false := by simpa using this
  unfold overX at hx'
  rw [Bool.or_eq_false_iff] at hx'
  have h9 := over_le hx'.1
  have h10 := of_decide_eq_false hx'.2
  omega
/-- No list and no text is too long. -/
structure SmallR (t0 : Str) (w0 w1 w2 : List CapT) (w3 : List ExtT) : Prop where
  names : t0.length ≤ 1000
  bools : w0.length ≤ 900
  nums : w1.length ≤ 900
  strs : w2.length ≤ 900
  exts : w3.length ≤ 900
  btext : ∀ c ∈ w0, c.2.2.length ≤ 1000
  ntext : ∀ c ∈ w1, c.2.2.length ≤ 1000
  stext : ∀ c ∈ w2, c.2.2.length ≤ 1000
  etext : ∀ x ∈ w3, x.2.2.2.2.length ≤ 1000 ∧ x.2.1.length ≤ 1000
section
variable {k : Nat} (hk : 1000 ≤ k)
include hk
theorem anyCap {l : List CapT} (hl : l.length ≤ 900) : F_slices_ContainsFunc_Cap k l = some (l.any over, l) := by
  have h := search_loop (l := l) (0, (0, [])) over (fun _ i => (i, l)) l (fun n i => L_slices_IndexFunc_Cap_1 k n (l.length : Int) i l) (fun n i h0 h1 => by
    simp only [L_slices_IndexFunc_Cap_1, lt_t h1, inL_t h0 h1, inI_t (x := i + 1) (by omega) (by omega), cond_true, F_tinfo_long_1, Option.bind_some]; rfl) (fun n => by
    simp only [L_slices_IndexFunc_Cap_1, not_lt_self, cond_false]) (n := k) (by omega)
  rw [F_slices_ContainsFunc_Cap, F_slices_IndexFunc_Cap, h, Option.bind_some, search_own]
  cases l.any over with
  | true => simp [either]
  | false => rfl
theorem anyExt {l : List ExtT} (hl : l.length ≤ 900) : F_slices_ContainsFunc_Ext k l = some (l.any overX, l) := by
  have h := search_loop (l := l) (0, ([], (0, (0, [])))) overX (fun _ i => (i, l)) l (fun n i => L_slices_IndexFunc_Ext_1 k n (l.length : Int) i l) (fun n i h0 h1 => by
    simp only [L_slices_IndexFunc_Ext_1, lt_t h1, inL_t h0 h1, inI_t (x := i + 1) (by omega) (by omega), cond_true, F_tinfo_long_2, F_tinfo_long_1, Option.bind_some, bif_or]; rfl) (fun n => by
    simp only [L_slices_IndexFunc_Ext_1, not_lt_self, cond_false]) (n := k) (by omega)
  rw [F_slices_ContainsFunc_Ext, F_slices_IndexFunc_Ext, h, Option.bind_some, search_own]
  cases l.any overX with
  | true => simp [either]
  | false => rfl
theorem long_own (t0 : Str) (t1 : Bool) (w0 w1 w2 : List CapT) (w3 : List ExtT) : ∃ b, F_tinfo_long k t0 t1 w0 w1 w2 w3 = some (b, (w0, (w1, (w2, w3)))) ∧ (b = false → SmallR t0 w0 w1 w2 w3) := by
  unfold F_tinfo_long
  cases h0 : decide ((t0.length : Int) ≥ 512) with
  | true => exact ⟨true, rfl, fun h => nomatch h⟩
  | false =>
  cases h1 : decide ((w0.length : Int) > 64) with
  | true => exact ⟨true, rfl, fun h => nomatch h⟩
  | false =>
  cases h2 : decide ((w1.length : Int) > 64) with
  | true => exact ⟨true, rfl, fun h => nomatch h⟩
  | false =>
  cases h3 : decide ((w2.length : Int) > 512) with
  | true => exact ⟨true, rfl, fun h => nomatch h⟩
  | false =>
  cases h4 : decide ((w3.length : Int) > 256) with
  | true => exact ⟨true, rfl, fun h => nomatch h⟩
  | false =>
  have h0 := of_decide_eq_false h0
  have h1 := of_decide_eq_false h1
  have h2 := of_decide_eq_false h2
  have h3 := of_decide_eq_false h3
  have h4 := of_decide_eq_false h4
  simp only [cond_false, anyCap hk (l := w0) (by omega), anyCap hk (l := w1) (by omega), anyCap hk (l := w2) (by omega), anyExt hk (l := w3) (by omega), Option.bind_some]
  cases h5 : w0.any over with
  | true => exact ⟨true, rfl, fun h => nomatch h⟩
  | false =>
  cases h6 : w1.any over with
  | true => exact ⟨true, rfl, fun h => nomatch h⟩
  | false =>
  cases h7 : w2.any over with
  | true => exact ⟨true, rfl, fun h => nomatch h⟩
  | false =>
  exact ⟨w3.any overX, rfl, fun h8 => ⟨by omega, by omega, by omega, by omega, by omega, any_le h5, any_le h6, any_le h7, anyX_le h8⟩⟩
end
def nul (s : Str) : Bool := Lib.contains s [0]
theorem contains_nul {k : Nat} {s : Str} (h : s.length ≤ 1000) : F_strings_Contains k s [0] = some (nul s) := by
  rw [F_strings_Contains, decide_eq_true (by omega), cond_true, nul]
theorem may_own {k : Nat} {c : CapT} {kind : Int} {wide : Bool} (h : c.2.2.length ≤ 1000) : ∃ b, F_tinfo_may k c kind wide = some b := by
  obtain ⟨st, num, text⟩ := c
  simp only at h
  simp only [F_tinfo_may, bne]
  cases wide <;> cases h1 : decide (st < 0) <;> cases h2 : decide (st > 2) <;> cases h3 : st == 1 <;> cases h4 : num == 0 <;> cases h5 : text == [] <;> simp only [cond_true, cond_false, Option.bind_some, h1, h2, h3, h4, h5, Bool.not_true, Bool.not_false, contains_nul h] <;> first | exact ⟨_, rfl⟩ | (cases kind == 0 <;> cases kind == 1 <;> first | exact ⟨_, rfl⟩ | (simp only [cond_true, cond_false, Option.bind_some] <;> first | exact ⟨_, rfl⟩ | (cases decide (num ≥ 0) <;> exact ⟨_, rfl⟩)))
end Go.Proofs.YtfghjkgpbncagaaDoor
set_option linter.unusedVariables false
set_option linter.unusedSimpArgs false
set_option maxRecDepth 100000
set_option maxHeartbeats 1000000
namespace Go.Proofs.YtfghjkgpbncagaaDoor
open Go.RowKit Go.Av Go.Proofs
theorem getD_mem {α : Type} {l : List α} {d : α} {i : Int} (h0 : 0 ≤ i) (h1 : i < l.length) : l.getD i.toNat d ∈ l := by
  have : i.toNat < l.length := by omega
  rw [List.getD_eq_getElem?_getD, List.getElem?_eq_getElem this]
  exact List.getElem_mem this
theorem sget_sputQ (z v : Int) (x y : Str) : ∀ es : List (Str × Int), sget z (sput es x v) y = bif x == y then v else sget z es y
  | [] => by simp [sput, sget]
  | p :: r => by
    simp only [sput]
    cases h : p.1 == x with
    | true =>
      have hx : p.1 = x := by simpa using h
      simp only [cond_true, sget, hx]
      cases h2 : x == y <;> rfl
    | false =>
      simp only [cond_false, sget, sget_sputQ z v x y r]
      cases h2 : p.1 == y with
      | true =>
        have hy : p.1 = y := by simpa using h2
        have : (x == y) = false := by
          cases h3 : x == y with
          | false => rfl
          | true => have : x = y := by simpa using h3
                    subst this; rw [← hy] at h; simp at h
        rw [this]; rfl
      | false => rfl
section
variable {k : Nat} (hk : 1000 ≤ k) {b0 : Str} {b1 : Bool} {w0 w1 w2 : List CapT} {w3 : List ExtT}
include hk
theorem chk2 (hl : w0.length ≤ 900) (ht : ∀ c ∈ w0, c.2.2.length ≤ 1000) : ∃ r, L_tinfo_Check_2 k k (w0.length : Int) 0 b0 b1 w0 w1 w2 w3 = some r ∧ (r = .inl ((b0, b1), (w0, (w1, (w2, w3)))) ∨ r = .inr (w0, (w1, (w2, w3)))) :=
  ex_loop (N := w0.length) (L := fun n i (_ : Unit) => L_tinfo_Check_2 k n (w0.length : Int) i b0 b1 w0 w1 w2 w3) (fun _ => True) (fun r => r = .inl ((b0, b1), (w0, (w1, (w2, w3)))) ∨ r = .inr (w0, (w1, (w2, w3)))) (fun n i s h0 h1 _ => by
    obtain ⟨b, hb⟩ := may_own (k := k) (kind := 0) (wide := b1) (ht _ (getD_mem (d := (0, (0, []))) h0 h1))
    simp only [L_tinfo_Check_2, lt_t h1, inL_t h0 h1, inI_t (x := i + 1) (by omega) (by omega), cond_true, hb, Option.bind_some]
    cases b with
    | false => exact .inl ⟨_, rfl, .inr rfl⟩
    | true => exact .inr ⟨(), trivial, rfl⟩) (fun n s _ => by
    simp only [L_tinfo_Check_2, not_lt_self, cond_false]; exact ⟨_, rfl, .inl rfl⟩) (by omega) (s := ()) trivial
theorem chk3 (hl : w1.length ≤ 900) (ht : ∀ c ∈ w1, c.2.2.length ≤ 1000) : ∃ r, L_tinfo_Check_3 k k (w1.length : Int) 0 b0 b1 w0 w1 w2 w3 = some r ∧ (r = .inl ((b0, b1), (w0, (w1, (w2, w3)))) ∨ r = .inr (w0, (w1, (w2, w3)))) :=
  ex_loop (N := w1.length) (L := fun n i (_ : Unit) => L_tinfo_Check_3 k n (w1.length : Int) i b0 b1 w0 w1 w2 w3) (fun _ => True) (fun r => r = .inl ((b0, b1), (w0, (w1, (w2, w3)))) ∨ r = .inr (w0, (w1, (w2, w3)))) (fun n i s h0 h1 _ => by
    obtain ⟨b, hb⟩ := may_own (k := k) (kind := 1) (wide := b1) (ht _ (getD_mem (d := (0, (0, []))) h0 h1))
    simp only [L_tinfo_Check_3, lt_t h1, inL_t h0 h1, inI_t (x := i + 1) (by omega) (by omega), cond_true, hb, Option.bind_some]
    cases b with
    | false => exact .inl ⟨_, rfl, .inr rfl⟩
    | true => exact .inr ⟨(), trivial, rfl⟩) (fun n s _ => by
    simp only [L_tinfo_Check_3, not_lt_self, cond_false]; exact ⟨_, rfl, .inl rfl⟩) (by omega) (s := ()) trivial
theorem chk4 (hl : w2.length ≤ 900) (ht : ∀ c ∈ w2, c.2.2.length ≤ 1000) : ∃ r, L_tinfo_Check_4 k k (w2.length : Int) 0 b0 b1 w0 w1 w2 w3 = some r ∧ (r = .inl ((b0, b1), (w0, (w1, (w2, w3)))) ∨ r = .inr (w0, (w1, (w2, w3)))) :=
  ex_loop (N := w2.length) (L := fun n i (_ : Unit) => L_tinfo_Check_4 k n (w2.length : Int) i b0 b1 w0 w1 w2 w3) (fun _ => True) (fun r => r = .inl ((b0, b1), (w0, (w1, (w2, w3)))) ∨ r = .inr (w0, (w1, (w2, w3)))) (fun n i s h0 h1 _ => by
    obtain ⟨b, hb⟩ := may_own (k := k) (kind := 2) (wide := b1) (ht _ (getD_mem (d := (0, (0, []))) h0 h1))
    simp only [L_tinfo_Check_4, lt_t h1, inL_t h0 h1, inI_t (x := i + 1) (by omega) (by omega), cond_true, hb, Option.bind_some]
    cases b with
    | false => exact .inl ⟨_, rfl, .inr rfl⟩
    | true => exact .inr ⟨(), trivial, rfl⟩) (fun n s _ => by
    simp only [L_tinfo_Check_4, not_lt_self, cond_false]; exact ⟨_, rfl, .inl rfl⟩) (by omega) (s := ()) trivial
theorem chk5 (hl : w3.length ≤ 900) (ht : ∀ x ∈ w3, x.2.2.2.2.length ≤ 1000 ∧ x.2.1.length ≤ 1000) : ∃ r, L_tinfo_Check_5 k k 0 (w3.length : Int) 0 b0 b1 [] w0 w1 w2 w3 = some r ∧ (r = .inl (w0, (w1, (w2, w3))) ∨ r = .inr (w0, (w1, (w2, w3)))) :=
  ex_loop (N := w3.length) (L := fun n i (s : Int × List (Str × Int)) => L_tinfo_Check_5 k n s.1 (w3.length : Int) i b0 b1 s.2 w0 w1 w2 w3) (fun s => ∀ n, 0 ≤ sget 0 s.2 n ∧ sget 0 s.2 n ≤ 1) (fun r => r = .inl (w0, (w1, (w2, w3))) ∨ r = .inr (w0, (w1, (w2, w3)))) (fun n i s h0 h1 hs => by
    obtain ⟨last, m⟩ := s
    simp only at hs
    have hm := ht _ (getD_mem (d := (0, ([], (0, (0, []))))) h0 h1)
    generalize hx : w3.getD i.toNat (0, ([], (0, (0, [])))) = x at hm
    obtain ⟨kd, name, c⟩ := x
    simp only at hm
    obtain ⟨b, hb⟩ := may_own (k := k) (c := c) (kind := kd) (wide := b1) hm.1
    have m2 := contains_nul (k := k) hm.2
    have hg := hs name
    simp only [L_tinfo_Check_5, lt_t h1, inL_t h0 h1, inI_t (x := i + 1) (by omega) (by omega), inI_t (x := sget 0 m name + 1) (by omega) (by omega), cond_true, hx, place_ok (show 112 < k by omega), Option.bind_some, m2]
    cases decide (kd < last) with
    | true => exact .inl ⟨_, rfl, .inr rfl⟩
    | false =>
    cases decide (kd > 2) with
    | true => exact .inl ⟨_, rfl, .inr rfl⟩
    | false =>
    cases name == [] with
    | true => exact .inl ⟨_, rfl, .inr rfl⟩
    | false =>
    cases nul name with
    | true => exact .inl ⟨_, rfl, .inr rfl⟩
    | false =>
    cases hc : decide (sget (0 : Int) (sput m name (sget 0 m name + 1)) name > 1) with
    | true => exact .inl ⟨_, rfl, .inr rfl⟩
    | false =>
    cases (placeT name).2.2 with
    | true => exact .inl ⟨_, rfl, .inr rfl⟩
    | false =>
    simp only [cond_false, hb, Option.bind_some]
    cases b with
    | false => exact .inl ⟨_, rfl, .inr rfl⟩
    | true =>
    refine .inr ⟨(kd, sput m name (sget 0 m name + 1)), fun y => ?_, by simp only [Bool.not_true, cond_false, inI_t (x := i + 1) (by omega) (by omega), cond_true]⟩
    have hc := of_decide_eq_false hc
    simp only [sget_sputQ] at hc ⊢
    rw [beq_self_eq_true, cond_true] at hc
    cases name == y with
    | true => simp only [cond_true]; omega
    | false => exact hs y) (fun n s _ => by
    simp only [L_tinfo_Check_5, not_lt_self, cond_false]; exact ⟨_, rfl, .inl rfl⟩) (by omega) (s := (0, [])) (fun n => ⟨Int.le_refl _, by show (0 : Int) ≤ 1; omega⟩)
theorem check_own (t0 : Str) (t1 : Bool) : ∃ e, F_tinfo_Check k t0 t1 w0 w1 w2 w3 = some (e, (w0, (w1, (w2, w3)))) := by
  obtain ⟨b, hb, hs⟩ := long_own hk t0 t1 w0 w1 w2 w3
  unfold F_tinfo_Check
  rw [hb, Option.bind_some]
  cases b with
  | true => exact ⟨_, rfl⟩
  | false =>
  have ht := hs rfl
  have hn := contains_nul (k := k) (s := t0) ht.names
  simp only [cond_false, hn, Option.bind_some]
  obtain ⟨r2, e2, h2⟩ := chk2 hk (b0 := t0) (b1 := t1) (w1 := w1) (w2 := w2) (w3 := w3) ht.bools ht.btext
  obtain ⟨r3, e3, h3⟩ := chk3 hk (b0 := t0) (b1 := t1) (w0 := w0) (w2 := w2) (w3 := w3) ht.nums ht.ntext
  obtain ⟨r4, e4, h4⟩ := chk4 hk (b0 := t0) (b1 := t1) (w0 := w0) (w1 := w1) (w3 := w3) ht.strs ht.stext
  obtain ⟨r5, e5, h5⟩ := chk5 hk (b0 := t0) (b1 := t1) (w0 := w0) (w1 := w1) (w2 := w2) ht.exts ht.etext
  have e1 : ∃ r, L_tinfo_Check_1 k k 0 t0 t1 w0 w1 w2 w3 = some r ∧ (r = .inl ((t0, t1), (w0, (w1, (w2, w3)))) ∨ r = .inr (w0, (w1, (w2, w3)))) := by
    have s0 : ∀ n, (L_tinfo_Check_1 k (n + 1) 0 t0 t1 w0 w1 w2 w3 = some (.inr (w0, (w1, (w2, w3))))) ∨ L_tinfo_Check_1 k (n + 1) 0 t0 t1 w0 w1 w2 w3 = L_tinfo_Check_1 k n 1 t0 t1 w0 w1 w2 w3 := fun n => by
      rw [L_tinfo_Check_1]
      show ((L_tinfo_Check_2 k k (w0.length : Int) 0 t0 t1 w0 w1 w2 w3).bind _).bind _ = _ ∨ ((L_tinfo_Check_2 k k (w0.length : Int) 0 t0 t1 w0 w1 w2 w3).bind _).bind _ = _
      rw [e2]
      rcases h2 with rfl | rfl
      · right; rfl
      · left; rfl
    have s1 : ∀ n, (L_tinfo_Check_1 k (n + 1) 1 t0 t1 w0 w1 w2 w3 = some (.inr (w0, (w1, (w2, w3))))) ∨ L_tinfo_Check_1 k (n + 1) 1 t0 t1 w0 w1 w2 w3 = L_tinfo_Check_1 k n 2 t0 t1 w0 w1 w2 w3 := fun n => by
      rw [L_tinfo_Check_1]
      show ((L_tinfo_Check_3 k k (w1.length : Int) 0 t0 t1 w0 w1 w2 w3).bind _).bind _ = _ ∨ ((L_tinfo_Check_3 k k (w1.length : Int) 0 t0 t1 w0 w1 w2 w3).bind _).bind _ = _
      rw [e3]
      rcases h3 with rfl | rfl
      · right; rfl
      · left; rfl
    have s2 : ∀ n, (L_tinfo_Check_1 k (n + 1) 2 t0 t1 w0 w1 w2 w3 = some (.inr (w0, (w1, (w2, w3))))) ∨ L_tinfo_Check_1 k (n + 1) 2 t0 t1 w0 w1 w2 w3 = L_tinfo_Check_1 k n 3 t0 t1 w0 w1 w2 w3 := fun n => by
      rw [L_tinfo_Check_1]
      show ((L_tinfo_Check_4 k k (w2.length : Int) 0 t0 t1 w0 w1 w2 w3).bind _).bind _ = _ ∨ ((L_tinfo_Check_4 k k (w2.length : Int) 0 t0 t1 w0 w1 w2 w3).bind _).bind _ = _
      rw [e4]
      rcases h4 with rfl | rfl
      · right; rfl
      · left; rfl
    have s3 : ∀ n, L_tinfo_Check_1 k (n + 1) 3 t0 t1 w0 w1 w2 w3 = some (.inl ((t0, t1), (w0, (w1, (w2, w3))))) := fun n => by
      rw [L_tinfo_Check_1]; rfl
    obtain ⟨m, hm⟩ : ∃ m, k = m + 1 + 1 + 1 + 1 := ⟨k - 4, by omega⟩
    have f0 := s0 (m + 1 + 1 + 1)
    rw [← hm] at f0
    rcases f0 with h | h <;> rw [h]
    · exact ⟨_, rfl, .inr rfl⟩
    rcases s1 (m + 1 + 1) with h | h <;> rw [h]
    · exact ⟨_, rfl, .inr rfl⟩
    rcases s2 (m + 1) with h | h <;> rw [h]
    · exact ⟨_, rfl, .inr rfl⟩
    exact ⟨_, s3 m, .inl rfl⟩
  obtain ⟨r1, e1, h1⟩ := e1
  have fin : ∃ e, ((L_tinfo_Check_1 k k 0 t0 t1 w0 w1 w2 w3).bind fun z18 =>
      either z18 (fun z18_1 =>
        (L_tinfo_Check_5 k k 0 (z18_1.2.2.2.2.length : Int) 0 z18_1.1.1 z18_1.1.2 ([] : List (Str × Int)) z18_1.2.1 z18_1.2.2.1 z18_1.2.2.2.1 z18_1.2.2.2.2).bind fun z27 =>
        either z27 (fun z27_1 => some ((0 : Int), z27_1)) fun z27_2 => some (1, z27_2))
        fun z18_2 => some (1, z18_2)) = some (e, (w0, (w1, (w2, w3)))) := by
    rw [e1, Option.bind_some]
    rcases h1 with rfl | rfl
    · show ∃ e, (L_tinfo_Check_5 k k 0 (w3.length : Int) 0 t0 t1 [] w0 w1 w2 w3).bind _ = _
      rw [e5, Option.bind_some]
      rcases h5 with rfl | rfl
      · exact ⟨_, rfl⟩
      · exact ⟨_, rfl⟩
    · exact ⟨_, rfl⟩
  cases t0 == [] with
  | true => exact ⟨_, rfl⟩
  | false =>
    simp only [cond_false, Option.bind_some]
    cases nul t0 with
    | true => exact ⟨_, rfl⟩
    | false => exact fin
end
end Go.Proofs.YtfghjkgpbncagaaDoor
set_option linter.unusedVariables false
set_option linter.unusedSimpArgs false
set_option maxRecDepth 100000
set_option maxHeartbeats 1000000
namespace Go.Proofs.YtfghjkgpbncagaaDoor
open Go.RowKit Go.Av Go.Proofs
theorem spots_rng : (spotsT.all fun s => (s.2.1 == 0 || (s.2.1 == 1 || s.2.1 == 2)) && (decide (0 ≤ s.2.2) && decide (s.2.2 ≤ 164))) = true := by decide +kernel
theorem place_rng {x : Str} (h : (placeT x).2.2 = true) : ((placeT x).1 = 0 ∨ (placeT x).1 = 1 ∨ (placeT x).1 = 2) ∧ 0 ≤ (placeT x).2.1 ∧ (placeT x).2.1 ≤ 164 := by
  unfold placeT at h ⊢
  cases hf : spotsT.find? (fun s => s.1 == x) with
  | none => rw [hf] at h; cases h
  | some s =>
    have := List.all_eq_true.1 spots_rng s (List.mem_of_find?_eq_some hf)
    simp only [Bool.and_eq_true, Bool.or_eq_true, beq_iff_eq, decide_eq_true_eq] at this
    exact this
section
variable {k : Nat} (hk : 1000 ≤ k)
include hk
theorem get_own (t : TermT) (name : Str) (hl : t.2.2.2.2.2.length < k) (hl' : t.2.2.2.2.2.length ≤ 4398046511104) : ∃ z, F_tinfo_Get k t name = some z := by
  obtain ⟨b0, b1, w0, w1, w2, w3⟩ := t
  simp only at hl hl'
  unfold F_tinfo_Get
  rw [place_ok (show 112 < k by omega), Option.bind_some]
  cases hp : (placeT name).2.2 with
  | true =>
    obtain ⟨h1, h2, h3⟩ := place_rng hp
    have fin : ∀ (l : List CapT), ∃ z, (bif decide ((placeT name).2.1 < (l.length : Int)) then bif inL (placeT name).2.1 l.length then some (((l.getD (Int.toNat (placeT name).2.1) (0, (0, []))).1, (l.getD (Int.toNat (placeT name).2.1) (0, (0, []))).2), true) else none else some ((0, (0, [])), true)) = some z := fun l => by
      by_cases h : (placeT name).2.1 < (l.length : Int)
      · rw [lt_t h, inL_t h2 h]; exact ⟨_, rfl⟩
      · rw [lt_f h]; exact ⟨_, rfl⟩
    rw [cond_true]
    rcases h1 with h1 | h1 | h1
    · have e : F_tinfo_list k (placeT name).1 b0 b1 w0 w1 w2 w3 = some (.inl (b0, (b1, (w0, (w1, (w2, w3)))))) := by rw [h1]; rfl
      simp only [e, Option.bind_some, either]
      exact fin w0
    · have e : F_tinfo_list k (placeT name).1 b0 b1 w0 w1 w2 w3 = some (.inr (.inl (b0, (b1, (w0, (w1, (w2, w3))))))) := by rw [h1]; rfl
      simp only [e, Option.bind_some, either]
      exact fin w1
    · have e : F_tinfo_list k (placeT name).1 b0 b1 w0 w1 w2 w3 = some (.inr (.inr (b0, (b1, (w0, (w1, (w2, w3))))))) := by rw [h1]; rfl
      simp only [e, Option.bind_some, either]
      exact fin w2
  | false =>
    rw [cond_false]
    obtain ⟨r, h, _⟩ := ex_loop (N := w3.length) (L := fun n i (_ : Unit) => L_tinfo_Get_1 k n name w3 (w3.length : Int) i) (fun _ => True) (fun _ => True) (fun n i s h0 h1 _ => by
      simp only [L_tinfo_Get_1, lt_t h1, inL_t h0 h1, inI_t (x := i + 1) (by omega) (by omega), cond_true]
      cases (w3.getD i.toNat (0, ([], (0, (0, []))))).2.1 == name with
      | true => exact .inl ⟨_, rfl, trivial⟩
      | false => exact .inr ⟨(), trivial, rfl⟩) (fun n s _ => by
      simp only [L_tinfo_Get_1, not_lt_self, cond_false]; exact ⟨_, rfl, trivial⟩) hl (s := ()) trivial
    simp only [h, Option.bind_some]
    cases r with
    | inl _ => exact ⟨_, rfl⟩
    | inr _ => exact ⟨_, rfl⟩
omit hk in
theorem twin_own {k : Nat} (t : TermT) (h0 : t.2.2.1.length * 32 ≤ 140737488355328) (h1 : t.2.2.2.1.length * 32 ≤ 140737488355328) (h2 : t.2.2.2.2.1.length * 32 ≤ 140737488355328) (h3 : t.2.2.2.2.2.length * 56 ≤ 140737488355328) :
    F_tinfo_twin k t = some ((t.1, t.2.1), (t.2.2.1, (t.2.2.2.1, (t.2.2.2.2.1, t.2.2.2.2.2)))) := by
  rw [F_tinfo_twin]
  simp only [F_slices_Clone_Cap_2, F_slices_Clone_Ext_2, K_slices_Clone_Cap_2, K_slices_Clone_Ext_2, Nat.zero_add, room_t h0, room_t h1, room_t h2, room_t h3, cond_true, Option.bind_some]
omit hk in
theorem grow1 {k : Nat} {name : Str} {b0 : Str} {b1 : Bool} {c0 c1 : Int} {c2 : Str} {w1 w2 : List CapT} {w3 : List ExtT} {p : Int} (hp : p ≤ 164) : ∀ (d m : Nat) (w0 : List CapT), p + 1 ≤ w0.length + d → d < m →
    ∃ v : List CapT, L_tinfo_Set_1 k m name p b0 b1 c0 c1 c2 w0 w1 w2 w3 = some (name, (p, ((b0, b1), ((c0, (c1, c2)), (v, (w1, (w2, w3))))))) ∧ p < v.length ∧ (v.length ≤ w0.length ∨ v.length ≤ 165) := by
  intro d
  induction d with
  | zero =>
    intro m w0 h hm
    obtain ⟨m, rfl⟩ : ∃ q, m = q + 1 := ⟨m - 1, by omega⟩
    refine ⟨w0, ?_, by omega, .inl (Nat.le_refl _)⟩
    rw [L_tinfo_Set_1, decide_eq_false (by omega), cond_false]
  | succ d ih =>
    intro m w0 h hm
    obtain ⟨m, rfl⟩ : ∃ q, m = q + 1 := ⟨m - 1, by omega⟩
    by_cases hl : (w0.length : Int) ≤ p
    · obtain ⟨v, h1, h2, h3⟩ := ih m (w0 ++ [(0, (0, []))]) (by simp; omega) (by omega)
      refine ⟨v, ?_, h2, .inr ?_⟩
      · rw [L_tinfo_Set_1, decide_eq_true hl, cond_true, room_t (by simp; omega), cond_true]; exact h1
      · rw [List.length_append] at h3; simp at h3; omega
    · refine ⟨w0, ?_, by omega, .inl (Nat.le_refl _)⟩
      rw [L_tinfo_Set_1, decide_eq_false hl, cond_false]
omit hk in
theorem grow2 {k : Nat} {name : Str} {b0 : Str} {b1 : Bool} {c0 c1 : Int} {c2 : Str} {w0 w2 : List CapT} {w3 : List ExtT} {p : Int} (hp : p ≤ 164) : ∀ (d m : Nat) (w1 : List CapT), p + 1 ≤ w1.length + d → d < m →
    ∃ v : List CapT, L_tinfo_Set_2 k m name p b0 b1 c0 c1 c2 w0 w1 w2 w3 = some (name, (p, ((b0, b1), ((c0, (c1, c2)), (w0, (v, (w2, w3))))))) ∧ p < v.length ∧ (v.length ≤ w1.length ∨ v.length ≤ 165) := by
  intro d
  induction d with
  | zero =>
    intro m w1 h hm
    obtain ⟨m, rfl⟩ : ∃ q, m = q + 1 := ⟨m - 1, by omega⟩
    refine ⟨w1, ?_, by omega, .inl (Nat.le_refl _)⟩
    rw [L_tinfo_Set_2, decide_eq_false (by omega), cond_false]
  | succ d ih =>
    intro m w1 h hm
    obtain ⟨m, rfl⟩ : ∃ q, m = q + 1 := ⟨m - 1, by omega⟩
    by_cases hl : (w1.length : Int) ≤ p
    · obtain ⟨v, h1, h2, h3⟩ := ih m (w1 ++ [(0, (0, []))]) (by simp; omega) (by omega)
      refine ⟨v, ?_, h2, .inr ?_⟩
      · rw [L_tinfo_Set_2, decide_eq_true hl, cond_true, room_t (by simp; omega), cond_true]; exact h1
      · rw [List.length_append] at h3; simp at h3; omega
    · refine ⟨w1, ?_, by omega, .inl (Nat.le_refl _)⟩
      rw [L_tinfo_Set_2, decide_eq_false hl, cond_false]
omit hk in
theorem grow3 {k : Nat} {name : Str} {b0 : Str} {b1 : Bool} {c0 c1 : Int} {c2 : Str} {w0 w1 : List CapT} {w3 : List ExtT} {p : Int} (hp : p ≤ 164) : ∀ (d m : Nat) (w2 : List CapT), p + 1 ≤ w2.length + d → d < m →
    ∃ v : List CapT, L_tinfo_Set_3 k m name p b0 b1 c0 c1 c2 w0 w1 w2 w3 = some (name, (p, ((b0, b1), ((c0, (c1, c2)), (w0, (w1, (v, w3))))))) ∧ p < v.length ∧ (v.length ≤ w2.length ∨ v.length ≤ 165) := by
  intro d
  induction d with
  | zero =>
    intro m w2 h hm
    obtain ⟨m, rfl⟩ : ∃ q, m = q + 1 := ⟨m - 1, by omega⟩
    refine ⟨w2, ?_, by omega, .inl (Nat.le_refl _)⟩
    rw [L_tinfo_Set_3, decide_eq_false (by omega), cond_false]
  | succ d ih =>
    intro m w2 h hm
    obtain ⟨m, rfl⟩ : ∃ q, m = q + 1 := ⟨m - 1, by omega⟩
    by_cases hl : (w2.length : Int) ≤ p
    · obtain ⟨v, h1, h2, h3⟩ := ih m (w2 ++ [(0, (0, []))]) (by simp; omega) (by omega)
      refine ⟨v, ?_, h2, .inr ?_⟩
      · rw [L_tinfo_Set_3, decide_eq_true hl, cond_true, room_t (by simp; omega), cond_true]; exact h1
      · rw [List.length_append] at h3; simp at h3; omega
    · refine ⟨w2, ?_, by omega, .inl (Nat.le_refl _)⟩
      rw [L_tinfo_Set_3, decide_eq_false hl, cond_false]
omit hk in
theorem ext_own {k : Nat} {name : Str} {b0 : Str} {b1 : Bool} {c0 c1 : Int} {c2 : Str} {w0 w1 w2 : List CapT} {w3 : List ExtT} (hl : w3.length < k) (hl' : w3.length ≤ 4398046511104) :
    ∃ r, L_tinfo_Set_4 k k name (w3.length : Int) 0 b0 b1 c0 c1 c2 w0 w1 w2 w3 = some r ∧ ∃ v, r = ((b0, b1), (w0, (w1, (w2, v)))) ∧ v.length = w3.length :=
  ex_loop (N := w3.length) (L := fun n i (v : List ExtT) => L_tinfo_Set_4 k n name (w3.length : Int) i b0 b1 c0 c1 c2 w0 w1 w2 v) (fun v => v.length = w3.length) (fun r => ∃ v, r = ((b0, b1), (w0, (w1, (w2, v)))) ∧ v.length = w3.length) (fun n i v h0 h1 hv => by
    simp only [L_tinfo_Set_4, lt_t h1, inL_t h0 (show i < v.length by omega), cond_true]
    cases (v.getD i.toNat (0, ([], (0, (0, []))))).2.1 == name with
    | true =>
      refine .inr ⟨v.set i.toNat ((v.getD i.toNat (0, ([], (0, (0, []))))).1, ((v.getD i.toNat (0, ([], (0, (0, []))))).2.1, (c0, (c1, c2)))), by rw [List.length_set]; exact hv, ?_⟩
      simp only [cond_true, Option.bind_some, inI_t (x := i + 1) (by omega) (by omega)]
    | false =>
      refine .inr ⟨v, hv, ?_⟩
      simp only [cond_false, Option.bind_some, inI_t (x := i + 1) (by omega) (by omega), cond_true]) (fun n v hv => by
    simp only [L_tinfo_Set_4, not_lt_self, cond_false]; exact ⟨_, rfl, v, rfl, hv⟩) hl (s := w3) rfl
/-- No list is longer. -/
def LenR (M : Nat) (w : List CapT × List CapT × List CapT × List ExtT) : Prop := w.1.length ≤ M ∧ w.2.1.length ≤ M ∧ w.2.2.1.length ≤ M ∧ w.2.2.2.length ≤ M
theorem set_tail {M : Nat} (hM : M < k) (hM' : M ≤ 4398046511104) (q : Option (Str × (Str × Bool) × CapT × (List CapT) × (List CapT) × (List CapT) × (List ExtT))) (hq : ∃ z, q = some z ∧ LenR M z.2.2.2) :
    ∃ z, (q.bind fun z9 =>
    (L_tinfo_Set_4 k k z9.1 (z9.2.2.2.2.2.2.length : Int) 0 z9.2.1.1 z9.2.1.2 z9.2.2.1.1 z9.2.2.1.2.1 z9.2.2.1.2.2 z9.2.2.2.1 z9.2.2.2.2.1 z9.2.2.2.2.2.1 z9.2.2.2.2.2.2).bind fun z12 =>
    (F_tinfo_Check k z12.1.1 z12.1.2 z12.2.1 z12.2.2.1 z12.2.2.2.1 z12.2.2.2.2).bind fun z13 =>
    bif z13.1 != 0 then
      some ((([], false), z13.1), ([], ([], ([], []))))
    else
      some ((z12.1, 0), z13.2)) = some z ∧ LenR M z.2 := by
  obtain ⟨⟨nm, b, c, v0, v1, v2, v3⟩, rfl, h0, h1, h2, h3⟩ := hq
  simp only at h0 h1 h2 h3
  rw [Option.bind_some]
  obtain ⟨r, e, v, rfl, hv⟩ := ext_own (k := k) (name := nm) (b0 := b.1) (b1 := b.2) (c0 := c.1) (c1 := c.2.1) (c2 := c.2.2) (w0 := v0) (w1 := v1) (w2 := v2) (w3 := v3) (by omega) (by omega)
  rw [e, Option.bind_some]
  obtain ⟨err, e⟩ := check_own hk (w0 := v0) (w1 := v1) (w2 := v2) (w3 := v) b.1 b.2
  simp only [e, Option.bind_some]
  cases err != 0 with
  | true => exact ⟨_, rfl, Nat.zero_le _, Nat.zero_le _, Nat.zero_le _, Nat.zero_le _⟩
  | false => exact ⟨_, rfl, h0, h1, h2, by show v.length ≤ M; omega⟩
theorem set_own {M : Nat} (hM : M < k) (hM0 : 165 ≤ M) (hM' : M ≤ 4398046511104) (t : TermT) (name : Str) (c : CapT) (h0 : t.2.2.1.length * 32 ≤ 140737488355328) (h1 : t.2.2.2.1.length * 32 ≤ 140737488355328) (h2 : t.2.2.2.2.1.length * 32 ≤ 140737488355328) (h3 : t.2.2.2.2.2.length * 56 ≤ 140737488355328) (hL : LenR M t.2.2) :
    ∃ z, F_tinfo_Set k t name c = some z ∧ LenR M z.2 := by
  obtain ⟨l0, l1, l2, l3⟩ := hL
  obtain ⟨⟨g, b⟩, hg⟩ := get_own hk t name (by omega) (by omega)
  unfold F_tinfo_Set
  rw [hg, Option.bind_some]
  cases b with
  | false => exact ⟨_, rfl, Nat.zero_le _, Nat.zero_le _, Nat.zero_le _, Nat.zero_le _⟩
  | true =>
  simp only [Bool.not_true, cond_false]
  rw [twin_own t h0 h1 h2 h3, Option.bind_some]
  refine set_tail hk hM hM' _ ?_
  rw [place_ok (show 112 < k by omega), Option.bind_some]
  obtain ⟨b0, b1, w0, w1, w2, w3⟩ := t
  simp only at l0 l1 l2 l3
  cases hp : (placeT name).2.2 with
  | false => exact ⟨_, rfl, l0, l1, l2, l3⟩
  | true =>
    obtain ⟨k1, k2, k3⟩ := place_rng hp
    rw [cond_true]
    rcases k1 with k1 | k1 | k1
    · have e : F_tinfo_list_2 k (placeT name).1 b0 b1 w0 w1 w2 w3 = some (.inl ((b0, b1), (w0, (w1, (w2, w3))))) := by rw [k1]; rfl
      obtain ⟨v, e2, q1, q2⟩ := grow1 (k := k) (name := name) (b0 := b0) (b1 := b1) (c0 := c.1) (c1 := c.2.1) (c2 := c.2.2) (w1 := w1) (w2 := w2) (w3 := w3) k3 165 k w0 (by omega) (by omega)
      simp only [e, Option.bind_some, either, e2, inL_t k2 q1, cond_true]
      exact ⟨_, rfl, by show (v.set _ _).length ≤ M; rw [List.length_set]; omega, l1, l2, l3⟩
    · have e : F_tinfo_list_2 k (placeT name).1 b0 b1 w0 w1 w2 w3 = some (.inr (.inl ((b0, b1), (w0, (w1, (w2, w3)))))) := by rw [k1]; rfl
      obtain ⟨v, e2, q1, q2⟩ := grow2 (k := k) (name := name) (b0 := b0) (b1 := b1) (c0 := c.1) (c1 := c.2.1) (c2 := c.2.2) (w0 := w0) (w2 := w2) (w3 := w3) k3 165 k w1 (by omega) (by omega)
      simp only [e, Option.bind_some, either, e2, inL_t k2 q1, cond_true]
      exact ⟨_, rfl, l0, by show (v.set _ _).length ≤ M; rw [List.length_set]; omega, l2, l3⟩
    · have e : F_tinfo_list_2 k (placeT name).1 b0 b1 w0 w1 w2 w3 = some (.inr (.inr ((b0, b1), (w0, (w1, (w2, w3)))))) := by rw [k1]; rfl
      obtain ⟨v, e2, q1, q2⟩ := grow3 (k := k) (name := name) (b0 := b0) (b1 := b1) (c0 := c.1) (c1 := c.2.1) (c2 := c.2.2) (w0 := w0) (w1 := w1) (w3 := w3) k3 165 k w2 (by omega) (by omega)
      simp only [e, Option.bind_some, either, e2, inL_t k2 q1, cond_true]
      exact ⟨_, rfl, l0, l1, by show (v.set _ _).length ≤ M; rw [List.length_set]; omega, l3⟩
end
end Go.Proofs.YtfghjkgpbncagaaDoor
set_option linter.unusedVariables false
set_option linter.unusedSimpArgs false
set_option maxRecDepth 100000
set_option maxHeartbeats 1000000
namespace Go.Proofs.YtfghjkgpbncagaaDoor
open Go.RowKit Go.Av Go.Proofs
section
variable {k m : Nat} {x y : TermT} {b : Str × Bool} {w1 w2 : List CapT} {w3 : List ExtT}
theorem wr2 {w0 : List CapT} (hl : w0.length < k) (hl' : w0.length ≤ 4398046511104) : ∃ r, L_lanyardlaw03_TinfoOwn_2 k m k (w0.length : Int) 0 x.1 x.2.1 x.2.2.1 x.2.2.2.1 x.2.2.2.2.1 x.2.2.2.2.2 y.1 y.2.1 y.2.2.1 y.2.2.2.1 y.2.2.2.2.1 y.2.2.2.2.2 b.1 b.2 w0 w1 w2 w3 = some r ∧ ∃ v, r = (x, (y, (b, (v, (w1, (w2, w3)))))) ∧ v.length = w0.length :=
  ex_loop (N := w0.length) (L := fun n i (v : List CapT) => L_lanyardlaw03_TinfoOwn_2 k m n (w0.length : Int) i x.1 x.2.1 x.2.2.1 x.2.2.2.1 x.2.2.2.2.1 x.2.2.2.2.2 y.1 y.2.1 y.2.2.1 y.2.2.2.1 y.2.2.2.2.1 y.2.2.2.2.2 b.1 b.2 v w1 w2 w3) (fun v => v.length = w0.length) (fun r => ∃ v, r = (x, (y, (b, (v, (w1, (w2, w3)))))) ∧ v.length = w0.length) (fun n i v h0 h1 hv => by
    simp only [L_lanyardlaw03_TinfoOwn_2, lt_t h1, inL_t h0 (show i < v.length by omega), inI_t (x := i + 1) (by omega) (by omega), cond_true]
    exact .inr ⟨_, by rw [List.length_set]; exact hv, rfl⟩) (fun n v hv => by
    simp only [L_lanyardlaw03_TinfoOwn_2, not_lt_self, cond_false]; exact ⟨_, rfl, v, rfl, hv⟩) hl (s := w0) rfl
theorem wr3 {w0 : List CapT} (hl : w0.length < k) (hl' : w0.length ≤ 4398046511104) : ∃ r, L_lanyardlaw03_TinfoOwn_3 k m k (w0.length : Int) 0 x.1 x.2.1 x.2.2.1 x.2.2.2.1 x.2.2.2.2.1 x.2.2.2.2.2 y.1 y.2.1 y.2.2.1 y.2.2.2.1 y.2.2.2.2.1 y.2.2.2.2.2 b.1 b.2 w0 w1 w2 w3 = some r ∧ ∃ v, r = (x, (y, (b, (w1, (v, (w2, w3)))))) ∧ v.length = w0.length :=
  ex_loop (N := w0.length) (L := fun n i (v : List CapT) => L_lanyardlaw03_TinfoOwn_3 k m n (w0.length : Int) i x.1 x.2.1 x.2.2.1 x.2.2.2.1 x.2.2.2.2.1 x.2.2.2.2.2 y.1 y.2.1 y.2.2.1 y.2.2.2.1 y.2.2.2.2.1 y.2.2.2.2.2 b.1 b.2 v w1 w2 w3) (fun v => v.length = w0.length) (fun r => ∃ v, r = (x, (y, (b, (w1, (v, (w2, w3)))))) ∧ v.length = w0.length) (fun n i v h0 h1 hv => by
    simp only [L_lanyardlaw03_TinfoOwn_3, lt_t h1, inL_t h0 (show i < v.length by omega), inI_t (x := i + 1) (by omega) (by omega), cond_true]
    exact .inr ⟨_, by rw [List.length_set]; exact hv, rfl⟩) (fun n v hv => by
    simp only [L_lanyardlaw03_TinfoOwn_3, not_lt_self, cond_false]; exact ⟨_, rfl, v, rfl, hv⟩) hl (s := w0) rfl
theorem wr4 {w0 : List CapT} (hl : w0.length < k) (hl' : w0.length ≤ 4398046511104) : ∃ r, L_lanyardlaw03_TinfoOwn_4 k m k (w0.length : Int) 0 x.1 x.2.1 x.2.2.1 x.2.2.2.1 x.2.2.2.2.1 x.2.2.2.2.2 y.1 y.2.1 y.2.2.1 y.2.2.2.1 y.2.2.2.2.1 y.2.2.2.2.2 b.1 b.2 w0 w1 w2 w3 = some r ∧ ∃ v, r = (x, (y, (b, (w1, (w2, (v, w3)))))) ∧ v.length = w0.length :=
  ex_loop (N := w0.length) (L := fun n i (v : List CapT) => L_lanyardlaw03_TinfoOwn_4 k m n (w0.length : Int) i x.1 x.2.1 x.2.2.1 x.2.2.2.1 x.2.2.2.2.1 x.2.2.2.2.2 y.1 y.2.1 y.2.2.1 y.2.2.2.1 y.2.2.2.2.1 y.2.2.2.2.2 b.1 b.2 v w1 w2 w3) (fun v => v.length = w0.length) (fun r => ∃ v, r = (x, (y, (b, (w1, (w2, (v, w3)))))) ∧ v.length = w0.length) (fun n i v h0 h1 hv => by
    simp only [L_lanyardlaw03_TinfoOwn_4, lt_t h1, inL_t h0 (show i < v.length by omega), inI_t (x := i + 1) (by omega) (by omega), cond_true]
    exact .inr ⟨_, by rw [List.length_set]; exact hv, rfl⟩) (fun n v hv => by
    simp only [L_lanyardlaw03_TinfoOwn_4, not_lt_self, cond_false]; exact ⟨_, rfl, v, rfl, hv⟩) hl (s := w0) rfl
theorem wr1 {M : Nat} (hk : 4 ≤ k) (hM : M < k) (hM' : M ≤ 4398046511104) {w : List CapT × List CapT × List CapT × List ExtT} (hw : LenR M w) : ∃ r, L_lanyardlaw03_TinfoOwn_1 k m k 0 x.1 x.2.1 x.2.2.1 x.2.2.2.1 x.2.2.2.2.1 x.2.2.2.2.2 y.1 y.2.1 y.2.2.1 y.2.2.2.1 y.2.2.2.2.1 y.2.2.2.2.2 b.1 b.2 w.1 w.2.1 w.2.2.1 w.2.2.2 = some r ∧ ∃ v, r = (x, (y, (b, v))) ∧ LenR M v :=
  ex_loop (N := 3) (L := fun n i (w : List CapT × List CapT × List CapT × List ExtT) => L_lanyardlaw03_TinfoOwn_1 k m n i x.1 x.2.1 x.2.2.1 x.2.2.2.1 x.2.2.2.2.1 x.2.2.2.2.2 y.1 y.2.1 y.2.2.1 y.2.2.2.1 y.2.2.2.2.1 y.2.2.2.2.2 b.1 b.2 w.1 w.2.1 w.2.2.1 w.2.2.2) (fun w => LenR M w) (fun r => ∃ v, r = (x, (y, (b, v))) ∧ LenR M v) (fun n i w h0 h1 hw => by
    obtain ⟨v0, v1, v2, v3⟩ := w
    obtain ⟨l0, l1, l2, l3⟩ := hw
    simp only at l0 l1 l2 l3
    have hi : i = 0 ∨ i = 1 ∨ i = 2 := by omega
    right
    rcases hi with rfl | rfl | rfl
    · obtain ⟨r, e, v, rfl, hv⟩ := wr2 (k := k) (m := m) (x := x) (y := y) (b := b) (w0 := v0) (w1 := v1) (w2 := v2) (w3 := v3) (by omega) (by omega)
      refine ⟨(v, (v1, (v2, v3))), ⟨by show v.length ≤ M; omega, l1, l2, l3⟩, ?_⟩
      rw [L_lanyardlaw03_TinfoOwn_1]
      show ((L_lanyardlaw03_TinfoOwn_2 k m k (v0.length : Int) 0 x.1 x.2.1 x.2.2.1 x.2.2.2.1 x.2.2.2.2.1 x.2.2.2.2.2 y.1 y.2.1 y.2.2.1 y.2.2.2.1 y.2.2.2.2.1 y.2.2.2.2.2 b.1 b.2 v0 v1 v2 v3).bind _).bind _ = _
      rw [e]; rfl
    · obtain ⟨r, e, v, rfl, hv⟩ := wr3 (k := k) (m := m) (x := x) (y := y) (b := b) (w0 := v1) (w1 := v0) (w2 := v2) (w3 := v3) (by omega) (by omega)
      refine ⟨(v0, (v, (v2, v3))), ⟨l0, by show v.length ≤ M; omega, l2, l3⟩, ?_⟩
      rw [L_lanyardlaw03_TinfoOwn_1]
      show ((L_lanyardlaw03_TinfoOwn_3 k m k (v1.length : Int) 0 x.1 x.2.1 x.2.2.1 x.2.2.2.1 x.2.2.2.2.1 x.2.2.2.2.2 y.1 y.2.1 y.2.2.1 y.2.2.2.1 y.2.2.2.2.1 y.2.2.2.2.2 b.1 b.2 v1 v0 v2 v3).bind _).bind _ = _
      rw [e]; rfl
    · obtain ⟨r, e, v, rfl, hv⟩ := wr4 (k := k) (m := m) (x := x) (y := y) (b := b) (w0 := v2) (w1 := v0) (w2 := v1) (w3 := v3) (by omega) (by omega)
      refine ⟨(v0, (v1, (v, v3))), ⟨l0, l1, by show v.length ≤ M; omega, l3⟩, ?_⟩
      rw [L_lanyardlaw03_TinfoOwn_1]
      show ((L_lanyardlaw03_TinfoOwn_4 k m k (v2.length : Int) 0 x.1 x.2.1 x.2.2.1 x.2.2.2.1 x.2.2.2.2.1 x.2.2.2.2.2 y.1 y.2.1 y.2.2.1 y.2.2.2.1 y.2.2.2.2.1 y.2.2.2.2.2 b.1 b.2 v2 v0 v1 v3).bind _).bind _ = _
      rw [e]; rfl) (fun n w hw => by
    rw [L_lanyardlaw03_TinfoOwn_1]
    exact ⟨_, rfl, w, rfl, hw⟩) (by omega) (s := w) hw
theorem wr5 {w0 : List CapT} (hl : w3.length < k) (hl' : w3.length ≤ 4398046511104) : ∃ r, L_lanyardlaw03_TinfoOwn_5 k m k (w3.length : Int) 0 x.1 x.2.1 x.2.2.1 x.2.2.2.1 x.2.2.2.2.1 x.2.2.2.2.2 y.1 y.2.1 y.2.2.1 y.2.2.2.1 y.2.2.2.2.1 y.2.2.2.2.2 b.1 b.2 w0 w1 w2 w3 = some r ∧ r = (x, y) :=
  ex_loop (N := w3.length) (L := fun n i (v : List ExtT) => L_lanyardlaw03_TinfoOwn_5 k m n (w3.length : Int) i x.1 x.2.1 x.2.2.1 x.2.2.2.1 x.2.2.2.2.1 x.2.2.2.2.2 y.1 y.2.1 y.2.2.1 y.2.2.2.1 y.2.2.2.2.1 y.2.2.2.2.2 b.1 b.2 w0 w1 w2 v) (fun v => v.length = w3.length) (fun r => r = (x, y)) (fun n i v h0 h1 hv => by
    simp only [L_lanyardlaw03_TinfoOwn_5, lt_t h1, inL_t h0 (show i < v.length by omega), inI_t (x := i + 1) (by omega) (by omega), cond_true]
    exact .inr ⟨_, by rw [List.length_set]; exact hv, rfl⟩) (fun n v hv => by
    simp only [L_lanyardlaw03_TinfoOwn_5, not_lt_self, cond_false]; exact ⟨_, rfl, rfl⟩) hl (s := w3) rfl
theorem wr6 {w0 : List CapT} (hl : w2.length < k) (hl' : w2.length ≤ 4398046511104) : ∃ r, L_lanyardlaw03_TinfoOwn_6 k m k (w2.length : Int) 0 x.1 x.2.1 x.2.2.1 x.2.2.2.1 x.2.2.2.2.1 x.2.2.2.2.2 y.1 y.2.1 y.2.2.1 y.2.2.2.1 y.2.2.2.2.1 y.2.2.2.2.2 b.1 b.2 w0 w1 w2 w3 = some r ∧ r = (x, y) :=
  ex_loop (N := w2.length) (L := fun n i (v : List CapT) => L_lanyardlaw03_TinfoOwn_6 k m n (w2.length : Int) i x.1 x.2.1 x.2.2.1 x.2.2.2.1 x.2.2.2.2.1 x.2.2.2.2.2 y.1 y.2.1 y.2.2.1 y.2.2.2.1 y.2.2.2.2.1 y.2.2.2.2.2 b.1 b.2 w0 w1 v w3) (fun v => v.length = w2.length) (fun r => r = (x, y)) (fun n i v h0 h1 hv => by
    simp only [L_lanyardlaw03_TinfoOwn_6, lt_t h1, inL_t h0 (show i < v.length by omega), inI_t (x := i + 1) (by omega) (by omega), cond_true]
    exact .inr ⟨_, by rw [List.length_set]; exact hv, rfl⟩) (fun n v hv => by
    simp only [L_lanyardlaw03_TinfoOwn_6, not_lt_self, cond_false]; exact ⟨_, rfl, rfl⟩) hl (s := w2) rfl
end
theorem eqc {k : Nat} {l : List CapT} (hl : l.length < k) (hl' : l.length ≤ 4398046511104) : F_slices_Equal_Cap k l l = some true := by
  obtain ⟨r, e, rfl⟩ := ex_loop (N := l.length) (L := fun n i (_ : Unit) => L_slices_Equal_Cap_1 k n l l (l.length : Int) i) (fun _ => True) (fun r => r = .inl ()) (fun n i s h0 h1 _ => by
    refine .inr ⟨(), trivial, ?_⟩
    simp only [L_slices_Equal_Cap_1, lt_t h1, inL_t h0 h1, inI_t (x := i + 1) (by omega) (by omega), cond_true, beq_self_eq_true, Bool.and_self, Bool.not_true, cond_false]) (fun n s _ => by
    simp only [L_slices_Equal_Cap_1, not_lt_self, cond_false]; exact ⟨_, rfl, rfl⟩) hl (s := ()) trivial
  unfold F_slices_Equal_Cap
  simp only [bne_self_eq_false, cond_false]
  have e : L_slices_Equal_Cap_1 k k l l (l.length : Int) 0 = some (.inl ()) := e
  rw [e]; rfl
theorem eqx {k : Nat} {l : List ExtT} (hl : l.length < k) (hl' : l.length ≤ 4398046511104) : F_slices_Equal_Ext k l l = some true := by
  obtain ⟨r, e, rfl⟩ := ex_loop (N := l.length) (L := fun n i (_ : Unit) => L_slices_Equal_Ext_1 k n l l (l.length : Int) i) (fun _ => True) (fun r => r = .inl ()) (fun n i s h0 h1 _ => by
    refine .inr ⟨(), trivial, ?_⟩
    simp only [L_slices_Equal_Ext_1, lt_t h1, inL_t h0 h1, inI_t (x := i + 1) (by omega) (by omega), cond_true, beq_self_eq_true, Bool.and_self, Bool.not_true, cond_false]) (fun n s _ => by
    simp only [L_slices_Equal_Ext_1, not_lt_self, cond_false]; exact ⟨_, rfl, rfl⟩) hl (s := ()) trivial
  unfold F_slices_Equal_Ext
  simp only [bne_self_eq_false, cond_false]
  have e : L_slices_Equal_Ext_1 k k l l (l.length : Int) 0 = some (.inl ()) := e
  rw [e]; rfl
end Go.Proofs.YtfghjkgpbncagaaDoor
