/- Joined texts: Pa. -/
import Derived.Test.YtfghjkgpbncagaaGreatDoorGf
import Derived.Test.YtfghjkgpbncagaaGreatDoorKc
import Derived.Lib.Bytealg
import Derived.Lib.IndexMore
import Derived.Lib.IndexAny
import Derived.Lib.IndexBytes
set_option linter.unusedVariables false
set_option linter.unusedSectionVars false
namespace Go.Av
theorem inI_t {x : Int} (h1 : -9223372036854775808 ≤ x) (h2 : x ≤ 9223372036854775807) : inI x = true := (inI_iff x).2 ⟨h1, h2⟩
theorem inL_t {i : Int} {n : Nat} (h1 : 0 ≤ i) (h2 : i < n) : inL i n = true := by simp [inL, h1, h2]
theorem lt_t {i j : Int} (h : i < j) : decide (i < j) = true := decide_eq_true h
theorem lt_f {i j : Int} (h : ¬ i < j) : decide (i < j) = false := decide_eq_false h
theorem room_t {n : Nat} (h : n ≤ 140737488355328) : room n = true := by simp [room, h]
def scan {α S R : Type} (f : α → Int → S → (S → Option R) → Option R) (e : S → Option R) : List α → Int → S → Option R
  | [], _, s => e s
  | x :: r, i, s => f x i s (fun s' => scan f e r (i + 1) s')
theorem scan_at {α S R : Type} {l : List α} {d : α} {f : α → Int → S → (S → Option R) → Option R} {e : S → Option R} {L : Nat → Int → S → Option R}
    (h1 : ∀ (n : Nat) (i : Int) (s : S), 0 ≤ i → i < l.length → L (n + 1) i s = f (l.getD i.toNat d) i s (fun s' => L n (i + 1) s'))
    (h2 : ∀ (n : Nat) (s : S), L (n + 1) (l.length : Int) s = e s) : ∀ (n j : Nat) (s : S), j ≤ l.length → l.length - j < n → L n (j : Int) s = scan f e (l.drop j) j s
  | 0, j, s, hj, hn => by omega
  | n + 1, j, s, hj, hn => by
    rcases Nat.lt_or_ge j l.length with h | h
    · rw [h1 n j s (by omega) (by omega), List.drop_eq_getElem_cons h, scan]
      have hx : l.getD (Int.toNat (j : Int)) d = l[j] := by rw [Int.toNat_natCast, List.getD_eq_getElem?_getD, List.getElem?_eq_getElem h]; rfl
      rw [hx]
      congr 1
      funext s'
      have := scan_at h1 h2 n (j + 1) s' (by omega) (by omega)
      exact this
    · have : j = l.length := by omega
      subst this
      rw [h2, List.drop_length]; rfl
theorem scan_loop {α S R : Type} {l : List α} {d : α} {f : α → Int → S → (S → Option R) → Option R} {e : S → Option R} {L : Nat → Int → S → Option R}
    (h1 : ∀ (n : Nat) (i : Int) (s : S), 0 ≤ i → i < l.length → L (n + 1) i s = f (l.getD i.toNat d) i s (fun s' => L n (i + 1) s'))
    (h2 : ∀ (n : Nat) (s : S), L (n + 1) (l.length : Int) s = e s) (n : Nat) (s : S) (hn : l.length < n) : L n 0 s = scan f e l 0 s := scan_at h1 h2 n 0 s (by omega) (by omega)
/-- two at a time -/
def scan2 {α S R : Type} (f : α → α → Int → S → (S → Option R) → Option R) (e : S → Option R) : List α → Int → S → Option R
  | x :: y :: r, i, s => f x y i s (fun s' => scan2 f e r (i + 2) s')
  | _, _, s => e s
theorem scan2_at {α S R : Type} {l : List α} {d : α} {f : α → α → Int → S → (S → Option R) → Option R} {e : S → Option R} {L : Nat → Int → S → Option R}
    (h1 : ∀ (n : Nat) (i : Int) (s : S), 0 ≤ i → i + 1 < l.length → L (n + 1) i s = f (l.getD i.toNat d) (l.getD (i + 1).toNat d) i s (fun s' => L n (i + 2) s'))
    (h2 : ∀ (n : Nat) (i : Int) (s : S), 0 ≤ i → ¬ i + 1 < l.length → i ≤ l.length → L (n + 1) i s = e s) : ∀ (n j : Nat) (s : S), j ≤ l.length → l.length - j < n → L n (j : Int) s = scan2 f e (l.drop j) j s
  | 0, j, s, hj, hn => by omega
  | n + 1, j, s, hj, hn => by
    rcases Nat.lt_or_ge (j + 1) l.length with h | h
    · rw [h1 n j s (by omega) (by omega), List.drop_eq_getElem_cons (by omega : j < l.length), List.drop_eq_getElem_cons h, scan2]
      have hx : l.getD (Int.toNat (j : Int)) d = l[j] := by rw [Int.toNat_natCast, List.getD_eq_getElem?_getD, List.getElem?_eq_getElem (by omega)]; rfl
      have hy : l.getD (Int.toNat ((j : Int) + 1)) d = l[j + 1] := by
        rw [show Int.toNat ((j : Int) + 1) = j + 1 by omega, List.getD_eq_getElem?_getD, List.getElem?_eq_getElem h]; rfl
      rw [hx, hy]
      congr 1
      funext s'
      have := scan2_at h1 h2 n (j + 1 + 1) s' (by omega) (by omega)
      exact this
    · rw [h2 n j s (by omega) (by omega) (by omega)]
      have : (l.drop j).length ≤ 1 := by rw [List.length_drop]; omega
      match hd : l.drop j, this with
      | [], _ => rfl
      | [x], _ => rfl
theorem scan2_loop {α S R : Type} {l : List α} {d : α} {f : α → α → Int → S → (S → Option R) → Option R} {e : S → Option R} {L : Nat → Int → S → Option R}
    (h1 : ∀ (n : Nat) (i : Int) (s : S), 0 ≤ i → i + 1 < l.length → L (n + 1) i s = f (l.getD i.toNat d) (l.getD (i + 1).toNat d) i s (fun s' => L n (i + 2) s'))
    (h2 : ∀ (n : Nat) (i : Int) (s : S), 0 ≤ i → ¬ i + 1 < l.length → i ≤ l.length → L (n + 1) i s = e s) (n : Nat) (s : S) (hn : l.length < n) : L n 0 s = scan2 f e l 0 s := scan2_at h1 h2 n 0 s (by omega) (by omega)
def pairsOf {α : Type} : List α → List (α × α)
  | x :: y :: r => (x, y) :: pairsOf r
  | _ => []
/-- The first that is so. -/
def search {α A B : Type} (p : α → Bool) (g : α → Int → B) (e : A) : List α → Int → A ⊕ B
  | [], _ => .inl e
  | x :: r, i => bif p x then .inr (g x i) else search p g e r (i + 1)
theorem search_any {α A B : Type} (p : α → Bool) (b : B) (e : A) : ∀ (l : List α) (i : Int), search p (fun _ _ => b) e l i = bif l.any p then .inr b else .inl e
  | [], i => rfl
  | x :: r, i => by
    rw [search, List.any_cons, search_any p b e r]
    cases p x <;> rfl
theorem search_idx {α A : Type} (p : α → Bool) (e : A) : ∀ (l : List α) (i : Int), search p (fun _ i => i) e l i = bif l.any p then .inr (i + (l.findIdx p : Nat)) else .inl e
  | [], i => rfl
  | x :: r, i => by
    rw [search, List.any_cons, List.findIdx_cons, search_idx p e r]
    cases p x with
    | true => simp
    | false =>
      simp only [cond_false, Bool.false_or]
      cases r.any p with
      | true => simp only [cond_true]; congr 1; omega
      | false => rfl
theorem search_scan {α A B : Type} (p : α → Bool) (g : α → Int → B) (e : A) : ∀ (l : List α) (i : Int), scan (fun x i (_ : Unit) c => bif p x then some (.inr (g x i)) else c ()) (fun _ => some (.inl e)) l i () = some (search p g e l i)
  | [], i => rfl
  | x :: r, i => by
    rw [scan, search]
    show (bif p x then some (Sum.inr (g x i)) else scan _ _ r (i + 1) ()) = _
    rw [search_scan p g e r]
    cases p x <;> rfl
theorem search_loop {α A B : Type} {l : List α} (d : α) (p : α → Bool) (g : α → Int → B) (e : A) (L : Nat → Int → Option (A ⊕ B))
    (h1 : ∀ (n : Nat) (i : Int), 0 ≤ i → i < l.length → L (n + 1) i = bif p (l.getD i.toNat d) then some (.inr (g (l.getD i.toNat d) i)) else L n (i + 1))
    (h2 : ∀ (n : Nat), L (n + 1) (l.length : Int) = some (.inl e)) {n : Nat} (hn : l.length < n) : L n 0 = some (search p g e l 0) := by
  rw [← search_scan]
  exact scan_loop (d := d) (L := fun n i (_ : Unit) => L n i) (fun n i s => h1 n i) (fun n s => h2 n) n () hn
theorem not_lt_self (n : Nat) : decide ((n : Int) < (n : Int)) = false := decide_eq_false (by omega)
end Go.Av
set_option maxRecDepth 100000
namespace Go.Proofs.YtfghjkgpbncagaaGreatDoor
open Go.RowKit Go.Av Go.Proofs
abbrev Str := List UInt8
abbrev CapT := Int × Int × Str
abbrev ExtT := Int × Str × CapT
abbrev TermT := Str × Bool × List CapT × List CapT × List CapT × List ExtT
def spotsT : List (Str × Int × Int) := ((F_tinfo_spots 0).getD [])
theorem spots_eq (k : Nat) : F_tinfo_spots k = some spotsT := by kernel_rfl
theorem spots_len : spotsT.length = 112 := by decide +kernel
theorem place_loop {k : Nat} (hk : 112 < k) (x : Str) : L_tinfo_Place_1 k k x spotsT 0 = some ((spotsT.find? (fun s => s.1 == x)).elim (.inl ()) fun s => .inr s.2) := by
  have h := scan_loop (l := spotsT) (d := ([], (0, 0))) (S := Unit) (R := Unit ⊕ (Int × Int)) (L := fun n i _ => L_tinfo_Place_1 k n x spotsT i) (e := fun _ => some (.inl ()))
    (f := fun s i _ c => bif s.1 == x then some (.inr s.2) else c ()) (fun n i s h0 h1 => by
      rw [spots_len] at h1
      simp only [L_tinfo_Place_1, lt_t (show i < 112 from h1), inL_t (n := 112) h0 h1, inL_t (n := spotsT.length) h0 (by rw [spots_len]; exact h1), inI_t (x := i + 1) (by omega) (by omega), cond_true, Bool.and_self]) (fun n s => by
      rw [spots_len]
      rfl) k () (by rw [spots_len]; exact hk)
  refine h.trans ?_
  generalize (0 : Int) = i
  induction spotsT generalizing i with
  | nil => rfl
  | cons a l ih =>
    rw [scan, List.find?_cons]
    cases a.1 == x with
    | true => rfl
    | false => exact ih _
def placeT (x : Str) : Int × Int × Bool := (spotsT.find? (fun s => s.1 == x)).elim (0, 0, false) fun s => (s.2.1, s.2.2, true)
theorem place_ok {k : Nat} (hk : 112 < k) (x : Str) : F_tinfo_Place k x = some (placeT x) := by
  rw [F_tinfo_Place, spots_eq, Option.bind_some, place_loop hk, placeT]
  cases spotsT.find? (fun s => s.1 == x) <;> rfl
def tabs3 : List Str := [[98, 119, 32, 48, 32, 97, 109, 32, 49, 32, 120, 115, 98, 32, 50, 32, 120, 104, 112, 32, 51, 32, 120, 101, 110, 108, 32, 52, 32, 101, 111, 32, 53, 32, 103, 110, 32, 54, 32, 104, 99, 32, 55, 32, 107, 109, 32, 56, 32, 104, 115, 32, 57, 32, 105, 110, 32, 49, 48, 32, 100, 97, 32, 49, 49, 32, 100, 98, 32, 49, 50, 32, 109, 105, 114, 32, 49, 51, 32, 109, 115, 103, 114, 32, 49, 52, 32, 111, 115, 32, 49, 53], [99, 111, 108, 115, 32, 48, 32, 105, 116, 32, 49, 32, 108, 105, 110, 101, 115, 32, 50, 32, 108, 109, 32, 51, 32, 120, 109, 99, 32, 52, 32, 112, 98, 32, 53, 32, 118, 116, 32, 54, 32, 119, 115, 108, 32, 55, 32, 110, 108, 97, 98, 32, 56, 32, 108, 104, 32, 57, 32, 108, 119, 32, 49, 48, 32, 109, 97, 32, 49, 49, 32, 119, 110, 117, 109, 32, 49, 50, 32, 99, 111, 108, 111, 114, 115, 32, 49, 51, 32, 112, 97, 105, 114, 115, 32, 49, 52, 32, 110, 99, 118, 32, 49, 53], [99, 98, 116, 32, 48, 32, 98, 101, 108, 32, 49, 32, 99, 114, 32, 50, 32, 99, 115, 114, 32, 51, 32, 116, 98, 99, 32, 52, 32, 99, 108, 101, 97, 114, 32, 53, 32, 101, 108, 32, 54, 32, 101, 100, 32, 55, 32, 104, 112, 97, 32, 56, 32, 99, 109, 100, 99, 104, 32, 57, 32, 99, 117, 112, 32, 49, 48, 32, 99, 117, 100, 49, 32, 49, 49, 32, 104, 111, 109, 101, 32, 49, 50, 32, 99, 105, 118, 105, 115, 32, 49, 51, 32, 99, 117, 98, 49, 32, 49, 52, 32, 109, 114, 99, 117, 112, 32, 49, 53, 32, 99, 110, 111, 114, 109, 32, 49, 54, 32, 99, 117, 102, 49, 32, 49, 55, 32, 108, 108, 32, 49, 56, 32, 99, 117, 117, 49, 32, 49, 57, 32, 99, 118, 118, 105, 115, 32, 50, 48, 32, 100, 99, 104, 49, 32, 50, 49, 32, 100, 108, 49, 32, 50, 50, 32, 100, 115, 108, 32, 50, 51, 32, 104, 100, 32, 50, 52, 32, 115, 109, 97, 99, 115, 32, 50, 53, 32, 98, 108, 105, 110, 107, 32, 50, 54, 32, 98, 111, 108, 100, 32, 50, 55, 32, 115, 109, 99, 117, 112, 32, 50, 56, 32, 115, 109, 100, 99, 32, 50, 57, 32, 100, 105, 109, 32, 51, 48, 32, 115, 109, 105, 114, 32, 51, 49, 32, 105, 110, 118, 105, 115, 32, 51, 50, 32, 112, 114, 111, 116, 32, 51, 51, 32, 114, 101, 118, 32, 51, 52, 32, 115, 109, 115, 111, 32, 51, 53, 32, 115, 109, 117, 108, 32, 51, 54, 32, 101, 99, 104, 32, 51, 55, 32, 114, 109, 97, 99, 115, 32, 51, 56, 32, 115, 103, 114, 48, 32, 51, 57, 32, 114, 109, 99, 117, 112, 32, 52, 48, 32, 114, 109, 100, 99, 32, 52, 49, 32, 114, 109, 105, 114, 32, 52, 50, 32, 114, 109, 115, 111, 32, 52, 51, 32, 114, 109, 117, 108, 32, 52, 52, 32, 102, 108, 97, 115, 104, 32, 52, 53, 32, 105, 99, 104, 49, 32, 53, 50, 32, 105, 108, 49, 32, 53, 51, 32, 105, 112, 32, 53, 52, 32, 107, 98, 115, 32, 53, 53, 32, 107, 100, 99, 104, 49, 32, 53, 57, 32, 107, 99, 117, 100, 49, 32, 54, 49, 32, 107, 104, 111, 109, 101, 32, 55, 54, 32, 107, 105, 99, 104, 49, 32, 55, 55, 32, 107, 99, 117, 98, 49, 32, 55, 57, 32, 107, 110, 112, 32, 56, 49, 32, 107, 112, 112, 32, 56, 50, 32, 107, 99, 117, 102, 49, 32, 56, 51, 32, 107, 99, 117, 117, 49, 32, 56, 55, 32, 114, 109, 107, 120, 32, 56, 56, 32, 115, 109, 107, 120, 32, 56, 57, 32, 110, 101, 108, 32, 49, 48, 51, 32, 100, 99, 104, 32, 49, 48, 53, 32, 100, 108, 32, 49, 48, 54, 32, 99, 117, 100, 32, 49, 48, 55, 32, 105, 99, 104, 32, 49, 48, 56, 32, 105, 110, 100, 110, 32, 49, 48, 57, 32, 105, 108, 32, 49, 49, 48, 32, 99, 117, 98, 32, 49, 49, 49, 32, 99, 117, 102, 32, 49, 49, 50, 32, 114, 105, 110, 32, 49, 49, 51, 32, 99, 117, 117, 32, 49, 49, 52, 32, 114, 99, 32, 49, 50, 54, 32, 118, 112, 97, 32, 49, 50, 55, 32, 115, 99, 32, 49, 50, 56, 32, 105, 110, 100, 32, 49, 50, 57, 32, 114, 105, 32, 49, 51, 48, 32, 115, 103, 114, 32, 49, 51, 49, 32, 104, 116, 115, 32, 49, 51, 50, 32, 107, 101, 110, 100, 32, 49, 54, 52]]
def fieldsT (i : Nat) : List Str := Lib.fields (tabs3.getD i [])
def numT (s : Str) : Int := (Lib.atoi s).getD 0
def row (j : Int) (p : Str × Str) : Str × Int × Int := (p.1, j, numT p.2)
theorem tabs_len : tabs3.length = 3 := by decide +kernel
theorem tabs_ok : ((List.range 3).all fun i => decide ((tabs3.getD i []).length < 4294967281) && (tabs3.getD i []).all (fun b => decide (b.toNat < 128)) && decide ((fieldsT i).length < 1000) && (pairsOf (fieldsT i)).all fun p => decide (p.2.length ≤ 18) && (Lib.atoi p.2).isSome) = true := by decide +kernel
theorem rows_ok : spotsT = (pairsOf (fieldsT 0)).map (row 0) ++ ((pairsOf (fieldsT 1)).map (row 1) ++ (pairsOf (fieldsT 2)).map (row 2)) := by decide +kernel
theorem fields_ok {i : Nat} (hi : i < 3) (k : Nat) : F_strings_Fields k (tabs3.getD i []) = some (fieldsT i) ∧ (fieldsT i).length < 1000 ∧ ∀ p ∈ pairsOf (fieldsT i), F_strconv_Atoi k p.2 = some (numT p.2) := by
  have h := List.all_eq_true.1 tabs_ok i (List.mem_range.2 hi)
  simp only [Bool.and_eq_true] at h
  obtain ⟨⟨⟨h1, h2⟩, h3⟩, h4⟩ := h
  refine ⟨?_, of_decide_eq_true h3, fun p hp => ?_⟩
  · rw [F_strings_Fields, h1, h2]; rfl
  · have := List.all_eq_true.1 h4 p hp
    rw [Bool.and_eq_true] at this
    rw [F_strconv_Atoi, this.1, cond_true, numT]
    obtain ⟨n, hn⟩ := Option.isSome_iff_exists.1 this.2
    rw [hn]; rfl
theorem rplace2 {k : Nat} (x : Str) (j : Int) (w : List Str) {l : List Str} (hl : l.length < 1000) (hk : 1000 ≤ k) (ha : ∀ p ∈ pairsOf l, F_strconv_Atoi k p.2 = some (numT p.2)) :
    L_lanyardref03_Place_2 k k x j l 0 w = some (((pairsOf l).find? (fun p => p.1 == x)).elim (.inl (x, j, w)) fun p => .inr (j, numT p.2)) := by
  have h := scan2_loop (l := l) (d := []) (S := Unit) (L := fun n i _ => L_lanyardref03_Place_2 k n x j l i w) (e := fun _ => some (.inl (x, j, w)))
    (f := fun a b i _ c => bif a == x then (F_strconv_Atoi k b).bind fun z => some (.inr (j, z)) else c ()) (fun n i s h0 h1 => by
      simp only [L_lanyardref03_Place_2, lt_t h1, inL_t (i := i) h0 (by omega : i < l.length), inL_t (i := i + 1) (by omega) h1, inI_t (x := i + 1) (by omega) (by omega), inI_t (x := i + 2) (by omega) (by omega), cond_true]) (fun n i s h0 h1 h2 => by
      simp only [L_lanyardref03_Place_2, lt_f h1, inI_t (x := i + 1) (by omega) (by omega), cond_true, cond_false]) k () (by omega)
  refine h.trans ?_
  clear h hl
  generalize (0 : Int) = i
  suffices H : ∀ (m : Nat) (l : List Str) (i : Int), l.length ≤ m → (∀ p ∈ pairsOf l, F_strconv_Atoi k p.2 = some (numT p.2)) → scan2 (fun a b (i : Int) (_ : Unit) c => bif a == x then (F_strconv_Atoi k b).bind fun z => some (.inr (j, z)) else c ()) (fun _ => some (.inl (x, j, w))) l i () = some (((pairsOf l).find? (fun p => p.1 == x)).elim (Sum.inl (x, j, w)) fun p => .inr (j, numT p.2)) from H l.length l i (Nat.le_refl _) ha
  intro m
  induction m with
  | zero =>
    intro l i hl ha
    have : l = [] := List.eq_nil_of_length_eq_zero (by omega)
    subst this; rfl
  | succ m ih =>
    intro l i hl ha
    match l, hl, ha with
    | [], _, _ => rfl
    | [a], _, _ => rfl
    | a :: b :: r, hl, ha =>
      rw [scan2, pairsOf, List.find?_cons]
      cases hb : a == x with
      | true => rw [cond_true, ha (a, b) (by simp [pairsOf])]; rfl
      | false => rw [cond_false]; exact ih r _ (by simp at hl; omega) fun p hp => ha p (by simp [pairsOf, hp])
theorem find_row (x : Str) (j : Int) (l : List (Str × Str)) : (l.map (row j)).find? (fun s => s.1 == x) = (l.find? (fun p => p.1 == x)).map (row j) := by
  rw [List.find?_map]; rfl
theorem rplace_is (k : Nat) (x : Str) : F_lanyardref03_Place k x = (L_lanyardref03_Place_1 k k x 0 tabs3).bind fun z9 => either z9 (fun _ => some (0, 0, false)) fun z => some (z.1, z.2, true) := rfl
theorem rplace_fin (k : Nat) (i : Int) (n : Nat) (x : Str) (h0 : 0 ≤ i) (h1 : i < 3) {s : Str} {l w : List Str} {o : Option (Str × Str)} (f1 : F_strings_Fields k s = some l)
    (hp : L_lanyardref03_Place_2 k k x i l 0 w = some (o.elim (.inl (x, i, w)) fun p => .inr (i, numT p.2))) :
    ((F_strings_Fields k s).bind fun z5 => (L_lanyardref03_Place_2 k k x i z5 0 w).bind fun z8 => either z8 (fun z8_1 => bif inI (z8_1.2.1 + 1) then L_lanyardref03_Place_1 k n z8_1.1 (z8_1.2.1 + 1) z8_1.2.2 else none) fun z8_2 => some (Sum.inr z8_2)) =
      o.elim (L_lanyardref03_Place_1 k n x (i + 1) w) fun p => some (.inr (i, numT p.2)) := by
  rw [f1, Option.bind_some, hp, Option.bind_some]
  cases o with
  | some p => rfl
  | none =>
    show (bif inI (i + 1) then L_lanyardref03_Place_1 k n x (i + 1) w else none) = L_lanyardref03_Place_1 k n x (i + 1) w
    rw [inI_t (x := i + 1) (by omega) (by omega), cond_true]
theorem rplace_st {k : Nat} (hk : 1000 ≤ k) (x : Str) (i n : Nat) (hi : i < 3) : L_lanyardref03_Place_1 k (n + 1) x (i : Int) tabs3 = ((pairsOf (fieldsT i)).find? (fun p => p.1 == x)).elim (L_lanyardref03_Place_1 k n x ((i : Int) + 1) tabs3) fun p => some (.inr ((i : Int), numT p.2)) := by
  obtain ⟨f1, f2, f3⟩ := fields_ok hi k
  have h3 : inL (i : Int) tabs3.length = true := inL_t (by omega) (by rw [tabs_len]; omega)
  have hp := rplace2 x (i : Int) tabs3 f2 hk f3
  have ht : Int.toNat (i : Int) = i := Int.toNat_natCast i
  rw [L_lanyardref03_Place_1, lt_t (show (i : Int) < 3 by omega), h3, cond_true, cond_true, ht]
  exact rplace_fin k (i : Int) n x (by omega) (by omega) f1 hp
theorem rplace_end (k n : Nat) (x : Str) : L_lanyardref03_Place_1 k (n + 1) x 3 tabs3 = some (.inl ()) := by
  rw [L_lanyardref03_Place_1, lt_f (show ¬ (3 : Int) < 3 by omega), cond_false]
theorem rplace_all {k : Nat} (hk : 1000 ≤ k) (x : Str) (n : Nat) : L_lanyardref03_Place_1 k (n + 1 + 1 + 1 + 1) x 0 tabs3 = some ((spotsT.find? (fun s => s.1 == x)).elim (.inl ()) fun s => .inr s.2) := by
  have s0 := rplace_st hk x 0 (n + 1 + 1 + 1) (by omega)
  have s1 := rplace_st hk x 1 (n + 1 + 1) (by omega)
  have s2 := rplace_st hk x 2 (n + 1) (by omega)
  have e := rplace_end k n x
  rw [show ((0 : Nat) : Int) = 0 from rfl, show (0 : Int) + 1 = 1 from rfl] at s0
  rw [show ((1 : Nat) : Int) = 1 from rfl, show (1 : Int) + 1 = 2 from rfl] at s1
  rw [show ((2 : Nat) : Int) = 2 from rfl, show (2 : Int) + 1 = 3 from rfl, e] at s2
  rw [s0, s1, s2, rows_ok, List.find?_append, List.find?_append, find_row, find_row, find_row]
  generalize (pairsOf (fieldsT 0)).find? (fun p => p.1 == x) = o0
  generalize (pairsOf (fieldsT 1)).find? (fun p => p.1 == x) = o1
  generalize (pairsOf (fieldsT 2)).find? (fun p => p.1 == x) = o2
  cases o0 <;> cases o1 <;> cases o2 <;> rfl
theorem rplace_ok {k : Nat} (hk : 1000 ≤ k) (x : Str) : F_lanyardref03_Place k x = some (placeT x) := by
  obtain ⟨m, hm⟩ : ∃ m, k = m + 1 + 1 + 1 + 1 := ⟨k - 4, by omega⟩
  have h := rplace_all hk x m
  rw [← hm] at h
  rw [rplace_is, h, Option.bind_some, placeT]
  generalize spotsT.find? (fun s => s.1 == x) = o
  cases o <;> rfl
end Go.Proofs.YtfghjkgpbncagaaGreatDoor
set_option linter.unusedVariables false
set_option linter.unusedSimpArgs false
set_option maxRecDepth 100000
set_option maxHeartbeats 1000000
namespace Go.Proofs.YtfghjkgpbncagaaGreatDoor
open Go.RowKit Go.Av Go.Proofs
theorem bif_or (a b : Bool) : (bif a then some true else some b) = some (a || b) := by cases a <;> rfl
theorem bif_pr {T : Type} (a b : Bool) (t : T) : (bif a then some (true, t) else some (b, t)) = some (a || b, t) := by cases a <;> rfl
def over (c : CapT) : Bool := decide ((c.2.2.length : Int) > 1000)
def overX (x : ExtT) : Bool := over x.2.2 || decide ((x.2.1.length : Int) > 1000)
def longT (t : TermT) : Bool := decide ((t.1.length : Int) ≥ 512) || (decide ((t.2.2.1.length : Int) > 64) || (decide ((t.2.2.2.1.length : Int) > 64) || (decide ((t.2.2.2.2.1.length : Int) > 512) || (decide ((t.2.2.2.2.2.length : Int) > 256) || (t.2.2.1.any over || (t.2.2.2.1.any over || (t.2.2.2.2.1.any over || t.2.2.2.2.2.any overX)))))))
/-- No list and no text of it is too long. -/
structure Small (t : TermT) : Prop where
  names : t.1.length ≤ 2000000
  bools : t.2.2.1.length ≤ 900
  nums : t.2.2.2.1.length ≤ 900
  strs : t.2.2.2.2.1.length ≤ 900
  exts : t.2.2.2.2.2.length ≤ 900
  btext : ∀ c ∈ t.2.2.1, c.2.2.length ≤ 2000000
  ntext : ∀ c ∈ t.2.2.2.1, c.2.2.length ≤ 2000000
  stext : ∀ c ∈ t.2.2.2.2.1, c.2.2.length ≤ 2000000
  etext : ∀ x ∈ t.2.2.2.2.2, x.2.2.2.2.length ≤ 2000000 ∧ x.2.1.length ≤ 2000000
theorem over_le {c : CapT} (h : over c = false) : c.2.2.length ≤ 1000 := by
  unfold over at h
  have := of_decide_eq_false h
  omega
theorem any_le {l : List CapT} (h : l.any over = false) : ∀ c ∈ l, c.2.2.length ≤ 1000 := fun c hc => over_le (by
  have := List.any_eq_false.1 h c hc
  simpa using this)
theorem small_of {t : TermT} (h : longT t = false) : Small t := by
  unfold longT at h
  simp only [Bool.or_eq_false_iff, decide_eq_false_iff_not] at h
  obtain ⟨h0, h1, h2, h3, h4, h5, h6, h7, h8⟩ := h
  refine ⟨by omega, by omega, by omega, by omega, by omega, fun c hc => by have := any_le h5 c hc; omega, fun c hc => by have := any_le h6 c hc; omega, fun c hc => by have := any_le h7 c hc; omega, fun x hx => ?_⟩
  have := List.any_eq_false.1 h8 x hx
  have hx' : overX x = false := by simpa using this
  unfold overX at hx'
  rw [Bool.or_eq_false_iff] at hx'
  have h9 := over_le hx'.1
  have h10 := of_decide_eq_false hx'.2
  omega
section
variable {k : Nat} (hk : 1000 ≤ k)
include hk
theorem anyCap {l : List CapT} (hl : l.length ≤ 900) : F_slices_ContainsFunc_Cap k l = some (l.any over) := by
  have h := search_loop (l := l) (0, (0, [])) over (fun _ i => i) () (fun n i => L_slices_IndexFunc_Cap_1 k n l (l.length : Int) i) (fun n i h0 h1 => by
    simp only [L_slices_IndexFunc_Cap_1, lt_t h1, inL_t h0 h1, inI_t (x := i + 1) (by omega) (by omega), cond_true, F_tinfo_long_1, Option.bind_some]; rfl) (fun n => by
    simp only [L_slices_IndexFunc_Cap_1, not_lt_self, cond_false]) (n := k) (by omega)
  rw [F_slices_ContainsFunc_Cap, F_slices_IndexFunc_Cap, h, Option.bind_some, search_idx]
  cases l.any over with
  | true => simp [either]
  | false => rfl
theorem anyExt {l : List ExtT} (hl : l.length ≤ 900) : F_slices_ContainsFunc_Ext k l = some (l.any overX) := by
  have h := search_loop (l := l) (0, ([], (0, (0, [])))) overX (fun _ i => i) () (fun n i => L_slices_IndexFunc_Ext_1 k n l (l.length : Int) i) (fun n i h0 h1 => by
    simp only [L_slices_IndexFunc_Ext_1, lt_t h1, inL_t h0 h1, inI_t (x := i + 1) (by omega) (by omega), cond_true, F_tinfo_long_2, F_tinfo_long_1, Option.bind_some, bif_or]; rfl) (fun n => by
    simp only [L_slices_IndexFunc_Ext_1, not_lt_self, cond_false]) (n := k) (by omega)
  rw [F_slices_ContainsFunc_Ext, F_slices_IndexFunc_Ext, h, Option.bind_some, search_idx]
  cases l.any overX with
  | true => simp [either]
  | false => rfl
theorem long_ok (t : TermT) : F_tinfo_long k t = some (longT t) := by
  unfold F_tinfo_long longT
  cases h0 : decide ((t.1.length : Int) ≥ 512) with
  | true => rfl
  | false =>
  cases h1 : decide ((t.2.2.1.length : Int) > 64) with
  | true => rfl
  | false =>
  cases h2 : decide ((t.2.2.2.1.length : Int) > 64) with
  | true => rfl
  | false =>
  cases h3 : decide ((t.2.2.2.2.1.length : Int) > 512) with
  | true => rfl
  | false =>
  cases h4 : decide ((t.2.2.2.2.2.length : Int) > 256) with
  | true => rfl
  | false =>
  have h1 := of_decide_eq_false h1
  have h2 := of_decide_eq_false h2
  have h3 := of_decide_eq_false h3
  have h4 := of_decide_eq_false h4
  simp only [cond_false, anyCap hk (l := t.2.2.1) (by omega), anyCap hk (l := t.2.2.2.1) (by omega), anyCap hk (l := t.2.2.2.2.1) (by omega), anyExt hk (l := t.2.2.2.2.2) (by omega), Option.bind_some, bif_or, Bool.false_or]
theorem rlong1 {b0 : Str} {b1 : Bool} {l2 l3 l4 : List CapT} {l5 : List ExtT} (hl : l4.length ≤ 900) : L_lanyardref03_long_1 k k 0 b0 b1 l2 l3 l4 l5 = some (bif l4.any over then .inr () else .inl (b0, b1, l2, l3, l4, l5)) := by
  rw [← search_any over () (b0, b1, l2, l3, l4, l5) l4 0]
  exact search_loop (l := l4) (0, (0, [])) over (fun _ i => ()) (b0, b1, l2, l3, l4, l5) (fun n i => L_lanyardref03_long_1 k n i b0 b1 l2 l3 l4 l5) (fun n i h0 h1 => by
    simp only [L_lanyardref03_long_1, lt_t h1, inL_t h0 h1, inI_t (x := i + 1) (by omega) (by omega), cond_true]; rfl) (fun n => by
    simp only [L_lanyardref03_long_1, not_lt_self, cond_false]) (n := k) (by omega)
theorem rlong2 {b0 : Str} {b1 : Bool} {l2 l3 l4 : List CapT} {l5 : List ExtT} (hl : l2.length ≤ 900) : L_lanyardref03_long_2 k k 0 b0 b1 l2 l3 l4 l5 = some (bif l2.any over then .inr () else .inl (b0, b1, l2, l3, l4, l5)) := by
  rw [← search_any over () (b0, b1, l2, l3, l4, l5) l2 0]
  exact search_loop (l := l2) (0, (0, [])) over (fun _ i => ()) (b0, b1, l2, l3, l4, l5) (fun n i => L_lanyardref03_long_2 k n i b0 b1 l2 l3 l4 l5) (fun n i h0 h1 => by
    simp only [L_lanyardref03_long_2, lt_t h1, inL_t h0 h1, inI_t (x := i + 1) (by omega) (by omega), cond_true]; rfl) (fun n => by
    simp only [L_lanyardref03_long_2, not_lt_self, cond_false]) (n := k) (by omega)
theorem rlong3 {b0 : Str} {b1 : Bool} {l2 l3 l4 : List CapT} {l5 : List ExtT} (hl : l3.length ≤ 900) : L_lanyardref03_long_3 k k 0 b0 b1 l2 l3 l4 l5 = some (bif l3.any over then .inr () else .inl (b0, b1, l2, l3, l4, l5)) := by
  rw [← search_any over () (b0, b1, l2, l3, l4, l5) l3 0]
  exact search_loop (l := l3) (0, (0, [])) over (fun _ i => ()) (b0, b1, l2, l3, l4, l5) (fun n i => L_lanyardref03_long_3 k n i b0 b1 l2 l3 l4 l5) (fun n i h0 h1 => by
    simp only [L_lanyardref03_long_3, lt_t h1, inL_t h0 h1, inI_t (x := i + 1) (by omega) (by omega), cond_true]; rfl) (fun n => by
    simp only [L_lanyardref03_long_3, not_lt_self, cond_false]) (n := k) (by omega)
theorem rlong4 {b0 : Str} {b1 : Bool} {l2 l3 l4 : List CapT} {l5 : List ExtT} (hl : l5.length ≤ 900) : L_lanyardref03_long_4 k k 0 b0 b1 l2 l3 l4 l5 = some (bif l5.any overX then .inr () else .inl ()) := by
  rw [← search_any overX () () l5 0]
  exact search_loop (l := l5) (0, ([], (0, (0, [])))) overX (fun _ i => ()) () (fun n i => L_lanyardref03_long_4 k n i b0 b1 l2 l3 l4 l5) (fun n i h0 h1 => by
    simp only [L_lanyardref03_long_4, lt_t h1, inL_t h0 h1, inI_t (x := i + 1) (by omega) (by omega), cond_true]
    show (Option.bind (bif over (l5.getD i.toNat (0, ([], (0, (0, []))))).2.2 then _ else _) _) = _
    rw [overX]
    cases over (l5.getD i.toNat (0, ([], (0, (0, []))))).2.2 with
    | true => rfl
    | false =>
      simp only [cond_false, Bool.false_or, Option.bind_some, inI_t (x := i + 1) (by omega) (by omega), cond_true]) (fun n => by
    simp only [L_lanyardref03_long_4, not_lt_self, cond_false]) (n := k) (by omega)
theorem rlong_ok (t : TermT) : F_lanyardref03_long k t = some (longT t) := by
  obtain ⟨t0, t1, t2, t3, t4, t5⟩ := t
  have e : decide ((t0.length : Int) > 511) = decide ((t0.length : Int) ≥ 512) := by
    rw [decide_eq_decide]; omega
  unfold F_lanyardref03_long longT
  simp only [e]
  cases h0 : decide ((t0.length : Int) ≥ 512) with
  | true => rfl
  | false =>
  cases h1 : decide ((t2.length : Int) > 64) with
  | true => rfl
  | false =>
  cases h2 : decide ((t3.length : Int) > 64) with
  | true => rfl
  | false =>
  cases h3 : decide ((t4.length : Int) > 512) with
  | true => rfl
  | false =>
  cases h4 : decide ((t5.length : Int) > 256) with
  | true => rfl
  | false =>
  have b := of_decide_eq_false h1
  have n := of_decide_eq_false h2
  have s := of_decide_eq_false h3
  have x := of_decide_eq_false h4
  simp only [cond_false, Option.bind_some, rlong1 hk (l4 := t4) (by omega), Bool.false_or]
  cases h4 : t4.any over <;> cases h2 : t2.any over <;> cases h3 : t3.any over <;> cases h5 : t5.any overX <;> simp only [either, cond_true, cond_false, Option.bind_some, rlong2 hk (l2 := t2) (by omega), rlong3 hk (l3 := t3) (by omega), rlong4 hk (l5 := t5) (by omega), h2, h3, h5] <;> rfl
end
def nul (s : Str) : Bool := s.contains 0
def capOk (c : CapT) (kind : Int) (wide : Bool) : Bool :=
  !(decide (c.1 < 0) || (decide (c.1 > 2) || (!(c.1 == 1) && (!(c.2.1 == 0) || !(c.2.2 == []))))) &&
  (bif kind == 0 then c.2.1 == 0 && c.2.2 == [] else bif kind == 1 then c.2.2 == [] && (decide (c.2.1 ≥ 0) && decide (c.2.1 ≤ (bif wide then 2147483647 else 32767))) else c.2.1 == 0 && !nul c.2.2)
theorem contains_nul {k : Nat} {s : Str} (h : s.length ≤ 2000000) : F_strings_Contains k s [0] = some (nul s) := by
  rw [F_strings_Contains, decide_eq_true (by omega), cond_true, nul, Lib.contains_iff_indexByte, Lib.contains, Lib.index_one]
theorem indexByte_nul (s : Str) : decide (Lib.indexByte s 0 < 0) = !nul s := by
  induction s with
  | nil => rfl
  | cons b r ih =>
    have hg := Lib.indexByte_ge r 0
    unfold Lib.indexByte
    by_cases hb : b = 0
    · subst hb; simp [nul]
    · have h1 : (b == 0) = false := by simpa using hb
      have h2 : nul (b :: r) = nul r := by simp [nul, Ne.symm hb]
      rw [h1, h2, ← ih]
      simp only [Bool.false_eq_true, if_false]
      rw [decide_eq_decide]
      split
      · rename_i h; have := eq_of_beq h; omega
      · rename_i h
        have : Lib.indexByte r 0 ≠ -1 := by simpa using h
        omega
theorem ixNul (k : Nat) (s : Str) : F_strings_IndexByte k s 0 = some (Lib.indexByte s 0) := rfl
theorem may_ok {k : Nat} {c : CapT} {kind : Int} {wide : Bool} (h : c.2.2.length ≤ 2000000) : F_tinfo_may k c kind wide = some (capOk c kind wide) := by
  obtain ⟨st, num, text⟩ := c
  simp only at h
  simp only [F_tinfo_may, capOk, bne]
  cases wide <;> cases h1 : decide (st < 0) <;> cases h2 : decide (st > 2) <;> cases h3 : st == 1 <;> cases h4 : num == 0 <;> cases h5 : text == [] <;> simp only [cond_true, cond_false, Option.bind_some, h1, h2, h3, h4, h5, Bool.not_true, Bool.not_false, contains_nul h] <;> first | rfl | (cases kind == 0 <;> cases kind == 1 <;> first | rfl | (simp only [cond_true, cond_false, Option.bind_some] <;> first | rfl | (cases decide (num ≥ 0) <;> rfl)))
theorem cap1_ok {k : Nat} {c : CapT} {kind : Int} {wide : Bool} : F_lanyardref03_cap1 k c kind wide = some (capOk c kind wide) := by
  obtain ⟨st, num, text⟩ := c
  have h6 := indexByte_nul text
  simp only [F_lanyardref03_cap1, capOk, bne, ixNul]
  cases wide <;> cases h1 : decide (st < 0) <;> cases h2 : decide (st > 2) <;> cases h3 : st == 1 <;> cases h4 : num == 0 <;> cases h5 : text == [] <;> simp only [cond_true, cond_false, Option.bind_some, h1, h2, h3, h4, h5, Bool.not_true, Bool.not_false, h6] <;> first | rfl | (cases kind == 0 <;> cases kind == 1 <;> first | rfl | (simp only [cond_true, cond_false, Option.bind_some] <;> first | rfl | (cases decide (num ≥ 0) <;> rfl)))
end Go.Proofs.YtfghjkgpbncagaaGreatDoor
set_option linter.unusedVariables false
set_option linter.unusedSimpArgs false
set_option maxRecDepth 100000
set_option maxHeartbeats 1000000
namespace Go.Proofs.YtfghjkgpbncagaaGreatDoor
open Go.RowKit Go.Av Go.Proofs
theorem getD_mem {α : Type} {l : List α} {d : α} {i : Int} (h0 : 0 ≤ i) (h1 : i < l.length) : l.getD i.toNat d ∈ l := by
  have : i.toNat < l.length := by omega
  rw [List.getD_eq_getElem?_getD, List.getElem?_eq_getElem this]
  exact List.getElem_mem this
def capBad (kind : Int) (wide : Bool) (l : List CapT) : Bool := l.any fun c => !capOk c kind wide
def extBad (wide : Bool) (last : Int) (seen : Bool) (x : ExtT) : Bool :=
  decide (x.1 < last) || (decide (x.1 > 2) || ((x.2.1 == []) || (nul x.2.1 || (seen || ((placeT x.2.1).2.2 || !capOk x.2.2 x.1 wide)))))
def extsBad (wide : Bool) : Int → List Str → List ExtT → Bool
  | _, _, [] => false
  | last, seen, x :: r => extBad wide last (seen.contains x.2.1) x || extsBad wide x.1 (x.2.1 :: seen) r
def checkT (t : TermT) : Int :=
  bif longT t then 3 else bif (t.1 == [] || nul t.1) || (capBad 0 t.2.1 t.2.2.1 || (capBad 1 t.2.1 t.2.2.2.1 || (capBad 2 t.2.1 t.2.2.2.2.1 || extsBad t.2.1 0 [] t.2.2.2.2.2))) then 1 else 0
theorem sget_sputQ (z v : Int) (x y : Str) : ∀ es : List (Str × Int), sget z (sput es x v) y = bif x == y then v else sget z es y
  | [] => by simp [sput, sget]
  | p :: r => by
    simp only [sput]
    cases h : p.1 == x with
    | true =>
      have hx : p.1 = x := by simpa using h
      simp only [cond_true, sget, hx]
      cases h2 : x == y <;> rfl
    | false =>
      simp only [cond_false, sget, sget_sputQ z v x y r]
      cases h2 : p.1 == y with
      | true =>
        have hy : p.1 = y := by simpa using h2
        have : (x == y) = false := by
          cases h3 : x == y with
          | false => rfl
          | true => have : x = y := by simpa using h3
                    subst this; rw [← hy] at h; simp at h
        rw [this]; rfl
      | false => rfl
theorem bif_fl {A B C R : Type} (a b : Bool) (x : A) (y : B) (z : C) (r : R) : (bif a then some (x, (y, (z, (true, r)))) else some (x, (y, (z, (b, r))))) = some (x, (y, (z, (a || b, r)))) := by cases a <;> rfl
section
variable {k : Nat} (hk : 1000 ≤ k)
include hk
theorem check2 {kind j : Int} {T : List CapT × List CapT × List CapT} {b0 : Str} {w : Bool} {l2 l3 l4 : List CapT} {l5 : List ExtT} {l : List CapT} (hl : l.length ≤ 900) (ht : ∀ c ∈ l, c.2.2.length ≤ 2000000) :
    L_tinfo_Check_2 k k kind T j l (l.length : Int) 0 b0 w l2 l3 l4 l5 = some (bif capBad kind w l then .inr () else .inl (T, (j, (b0, w, l2, l3, l4, l5)))) := by
  rw [capBad, ← search_any (fun c => !capOk c kind w) () (T, (j, (b0, w, l2, l3, l4, l5))) l 0]
  exact search_loop (l := l) (0, (0, [])) (fun c => !capOk c kind w) (fun _ i => ()) (T, (j, (b0, w, l2, l3, l4, l5))) (fun n i => L_tinfo_Check_2 k n kind T j l (l.length : Int) i b0 w l2 l3 l4 l5) (fun n i h0 h1 => by
    have hm := ht _ (getD_mem (d := (0, (0, []))) h0 h1)
    have := may_ok (k := k) (kind := kind) (wide := w) hm
    simp only [L_tinfo_Check_2, lt_t h1, inL_t h0 h1, inI_t (x := i + 1) (by omega) (by omega), cond_true]
    rw [this, Option.bind_some]) (fun n => by
    simp only [L_tinfo_Check_2, not_lt_self, cond_false]) (n := k) (by omega)
theorem check1_st {n : Nat} {j : Int} {b0 : Str} {w : Bool} {l2 l3 l4 : List CapT} {l5 : List ExtT} {l : List CapT} (h0 : 0 ≤ j) (h1 : j < 3) (he : ([l2, l3, l4] : List (List CapT)).getD (Int.toNat j) [] = l) (hl : l.length ≤ 900) (ht : ∀ c ∈ l, c.2.2.length ≤ 2000000) :
    L_tinfo_Check_1 k (n + 1) (l2, (l3, l4)) j b0 w l2 l3 l4 l5 = bif capBad j w l then some (.inr ()) else L_tinfo_Check_1 k n (l2, (l3, l4)) (j + 1) b0 w l2 l3 l4 l5 := by
  rw [L_tinfo_Check_1, lt_t h1, inL_t (n := 3) h0 h1, cond_true, cond_true, he, check2 hk hl ht, Option.bind_some]
  cases capBad j w l with
  | true => rfl
  | false =>
    show (bif inI (j + 1) then _ else none) = _
    rw [inI_t (x := j + 1) (by omega) (by omega)]; rfl
theorem check1 {n : Nat} {b0 : Str} {w : Bool} {l2 l3 l4 : List CapT} {l5 : List ExtT} (ht : Small (b0, w, l2, l3, l4, l5)) :
    L_tinfo_Check_1 k (n + 1 + 1 + 1 + 1) (l2, (l3, l4)) 0 b0 w l2 l3 l4 l5 = some (bif capBad 0 w l2 || (capBad 1 w l3 || capBad 2 w l4) then .inr () else .inl (b0, w, l2, l3, l4, l5)) := by
  rw [check1_st hk (j := 0) (l := l2) (by omega) (by omega) rfl ht.bools ht.btext, show (0 : Int) + 1 = 1 from rfl, check1_st hk (j := 1) (l := l3) (by omega) (by omega) rfl ht.nums ht.ntext, show (1 : Int) + 1 = 2 from rfl, check1_st hk (j := 2) (l := l4) (by omega) (by omega) rfl ht.strs ht.stext, show (2 : Int) + 1 = 3 from rfl, L_tinfo_Check_1, lt_f (show ¬ (3 : Int) < 3 by omega), cond_false]
  cases capBad 0 w l2 <;> cases capBad 1 w l3 <;> cases capBad 2 w l4 <;> rfl
theorem check3 {b0 : Str} {w : Bool} {l2 l3 l4 : List CapT} {l5 : List ExtT} (hl : l5.length ≤ 900) (ht : ∀ x ∈ l5, x.2.2.2.2.length ≤ 2000000 ∧ x.2.1.length ≤ 2000000) :
    L_tinfo_Check_3 k k 0 l5 (l5.length : Int) 0 b0 w l2 l3 l4 l5 [] = some (bif extsBad w 0 [] l5 then .inr () else .inl ()) := by
  have h := scan_loop (l := l5) (d := (0, ([], (0, (0, []))))) (S := Int × List (Str × Int)) (R := Unit ⊕ Unit) (L := fun n i s => L_tinfo_Check_3 k n s.1 l5 (l5.length : Int) i b0 w l2 l3 l4 l5 s.2) (e := fun _ => some (.inl ()))
    (f := fun x i s c => bif inI (sget (0 : Int) s.2 x.2.1 + 1) then (bif extBad w s.1 (decide (sget (0 : Int) (sput s.2 x.2.1 (sget (0 : Int) s.2 x.2.1 + 1)) x.2.1 > 1)) x then some (.inr ()) else c (x.1, sput s.2 x.2.1 (sget (0 : Int) s.2 x.2.1 + 1))) else none) (fun n i s h0 h1 => by
      have hm := ht _ (getD_mem (d := (0, ([], (0, (0, []))))) h0 h1)
      generalize hx : l5.getD i.toNat (0, ([], (0, (0, [])))) = x at hm
      obtain ⟨kd, name, c⟩ := x
      have m1 := may_ok (k := k) (c := c) (kind := kd) (wide := w) hm.1
      have m2 := contains_nul (k := k) hm.2
      simp only at m2
      simp only [L_tinfo_Check_3, lt_t h1, inL_t h0 h1, inI_t (x := i + 1) (by omega) (by omega), cond_true, hx, place_ok (show 112 < k by omega), Option.bind_some, m2, bif_fl]
      rw [m1]
      simp only [Option.bind_some, bif_fl, inI_t (x := i + 1) (by omega) (by omega), cond_true]
      rfl) (fun n s => by simp only [L_tinfo_Check_3, not_lt_self, cond_false]) k (0, []) (by omega)
  refine h.trans ?_
  clear h ht
  have H : ∀ (l : List ExtT) (i last : Int) (seen : List Str) (m : List (Str × Int)), (∀ n, sget 0 m n = bif seen.contains n then 1 else 0) →
      scan (fun (x : ExtT) (i : Int) (s : Int × List (Str × Int)) (c : Int × List (Str × Int) → Option (Unit ⊕ Unit)) => bif inI (sget (0 : Int) s.2 x.2.1 + 1) then (bif extBad w s.1 (decide (sget (0 : Int) (sput s.2 x.2.1 (sget (0 : Int) s.2 x.2.1 + 1)) x.2.1 > 1)) x then some (.inr ()) else c (x.1, sput s.2 x.2.1 (sget (0 : Int) s.2 x.2.1 + 1))) else none) (fun _ => some (.inl ())) l i (last, m) = some (bif extsBad w last seen l then .inr () else .inl ()) := by
    intro l
    induction l with
    | nil => intros; rfl
    | cons x r ih =>
      intro i last seen m hm
      rw [scan, extsBad]
      have hc := hm x.2.1
      have hs : sget (0 : Int) (sput m x.2.1 (sget (0 : Int) m x.2.1 + 1)) x.2.1 = sget (0 : Int) m x.2.1 + 1 := by rw [sget_sputQ, beq_self_eq_true, cond_true]
      simp only [hs]
      have hd : decide (sget (0 : Int) m x.2.1 + 1 > 1) = seen.contains x.2.1 := by
        rw [hc]
        cases seen.contains x.2.1 <;> rfl
      have hi : inI (sget (0 : Int) m x.2.1 + 1) = true := by
        rw [hc]
        cases seen.contains x.2.1 <;> rfl
      rw [hi, cond_true, hd]
      cases hb : extBad w last (seen.contains x.2.1) x with
      | true => rfl
      | false =>
        rw [cond_false, Bool.false_or]
        have hsn : seen.contains x.2.1 = false := by
          cases h : seen.contains x.2.1 with
          | false => rfl
          | true => rw [h] at hb; simp [extBad] at hb
        rw [hsn] at hc
        refine ih _ _ _ _ fun n => ?_
        rw [sget_sputQ, hc, hm n]
        rw [List.contains_cons]
        have e : (n == x.2.1) = (x.2.1 == n) := by rw [Bool.eq_iff_iff, beq_iff_eq, beq_iff_eq]; exact ⟨fun h => h.symm, fun h => h.symm⟩
        rw [e]
        cases x.2.1 == n <;> rfl
  exact H l5 0 0 [] [] fun n => rfl
theorem check_ok (t : TermT) : F_tinfo_Check k t = some (checkT t) := by
  obtain ⟨m, rfl⟩ : ∃ m, k = m + 1 + 1 + 1 + 1 := ⟨k - 4, by omega⟩
  obtain ⟨b0, w, l2, l3, l4, l5⟩ := t
  unfold F_tinfo_Check
  rw [long_ok hk, Option.bind_some]
  unfold checkT
  cases hL : longT (b0, w, l2, l3, l4, l5) with
  | true => rfl
  | false =>
    have ht := small_of hL
    have hn := contains_nul (k := m + 1 + 1 + 1 + 1) (s := b0) ht.names
    have h1 := check1 hk (n := m) ht
    have h3 := check3 hk (b0 := b0) (w := w) (l2 := l2) (l3 := l3) (l4 := l4) ht.exts ht.etext
    simp only [Option.bind_some, hn, bif_pr, cond_false]
    cases (b0 == []) || nul b0 with
    | true => rfl
    | false =>
      simp only [cond_false, h1, Option.bind_some, Bool.false_or]
      cases hb : capBad 0 w l2 || (capBad 1 w l3 || capBad 2 w l4) with
      | true =>
        have : (capBad 0 w l2 || (capBad 1 w l3 || (capBad 2 w l4 || extsBad w 0 [] l5))) = true := by
          revert hb
          cases capBad 0 w l2 <;> cases capBad 1 w l3 <;> cases capBad 2 w l4 <;> simp
        rw [this]; rfl
      | false =>
        have : (capBad 0 w l2 || (capBad 1 w l3 || (capBad 2 w l4 || extsBad w 0 [] l5))) = extsBad w 0 [] l5 := by
          revert hb
          cases capBad 0 w l2 <;> cases capBad 1 w l3 <;> cases capBad 2 w l4 <;> simp
        rw [this]
        simp only [cond_false, either]
        show ((L_tinfo_Check_3 _ _ 0 l5 _ 0 b0 w l2 l3 l4 l5 []).bind _) = _
        rw [h3, Option.bind_some]
        cases extsBad w 0 [] l5 <;> rfl
end
end Go.Proofs.YtfghjkgpbncagaaGreatDoor
set_option linter.unusedVariables false
set_option linter.unusedSimpArgs false
set_option maxRecDepth 100000
namespace Go.Proofs.YtfghjkgpbncagaaGreatDoor
open Go.RowKit Go.Av Go.Proofs
structure BOk (b : List Int) : Prop where
  len : (b.length : Int) ≤ 140737488355328
  rng : ∀ i, 0 ≤ b.getD i 0 ∧ b.getD i 0 ≤ 255
def by_ (b : List Int) (at_ : Int) : Int := b.getD (Int.toNat at_) 0
def sh (b : List Int) (at_ : Int) : Int := IntKind.wrap .i64 (IntKind.wrap .i16 (bOr .u16 (IntKind.wrap .u16 (b.getD (Int.toNat at_) 0)) (IntKind.wrap .u16 (IntKind.wrap .u16 (b.getD (Int.toNat (at_ + 1)) 0) * (2 ^ (min (Int.toNat 8) (IntKind.bits .u16)))))))
theorem wrap_i16' (x : Int) : IntKind.wrap .i16 x = if x % 65536 ≥ 32768 then x % 65536 - 65536 else x % 65536 := by
  simp [IntKind.wrap, IntKind.bits, IntKind.signed]
theorem wrap_i32' (x : Int) : IntKind.wrap .i32 x = if x % 4294967296 ≥ 2147483648 then x % 4294967296 - 4294967296 else x % 4294967296 := by
  simp [IntKind.wrap, IntKind.bits, IntKind.signed]
theorem wrap_i16 {x : Int} (h0 : 0 ≤ x) (h1 : x < 65536) : IntKind.wrap .i16 x = if x < 32768 then x else x - 65536 := by
  rw [wrap_i16']
  split <;> split <;> omega
theorem wrap_i32 {x : Int} (h0 : 0 ≤ x) (h1 : x < 4294967296) : IntKind.wrap .i32 x = if x < 2147483648 then x else x - 4294967296 := by
  rw [wrap_i32']
  split <;> split <;> omega
theorem wrap_i64 {x : Int} (h0 : -9223372036854775808 ≤ x) (h1 : x ≤ 9223372036854775807) : IntKind.wrap .i64 x = x := IntWalk.i64_in _ ⟨h0, h1⟩
theorem wrap_u {k : IntKind} {x : Int} (hs : k.signed = false) (h0 : 0 ≤ x) (h1 : x < 2 ^ k.bits) : IntKind.wrap k x = x := by
  unfold IntKind.wrap
  simp only [hs, Bool.false_and, Bool.false_eq_true, if_false]
  exact Int.emod_eq_of_lt h0 h1
theorem wrap_u16 {x : Int} (h0 : 0 ≤ x) (h1 : x < 65536) : IntKind.wrap .u16 x = x := wrap_u rfl h0 h1
theorem wrap_u32 {x : Int} (h0 : 0 ≤ x) (h1 : x < 4294967296) : IntKind.wrap .u32 x = x := wrap_u rfl h0 h1
theorem bOr_add {k : IntKind} (hs : k.signed = false) {x y : Int} {n : Nat} (h0 : 0 ≤ x) (h1 : x < 2 ^ n) (h2 : 0 ≤ y) (h3 : x + y * 2 ^ n < 2 ^ k.bits) : bOr k x (y * 2 ^ n) = x + y * 2 ^ n := by
  obtain ⟨a, rfl⟩ := Int.eq_ofNat_of_zero_le h0
  obtain ⟨c, rfl⟩ := Int.eq_ofNat_of_zero_le h2
  have e1 : ((c : Int) * 2 ^ n) = ((c * 2 ^ n : Nat) : Int) := by rw [Int.natCast_mul, Int.natCast_pow]; rfl
  have ek : (2 : Int) ^ k.bits = ((2 ^ k.bits : Nat) : Int) := by rw [Int.natCast_pow]; rfl
  have en : (2 : Int) ^ n = ((2 ^ n : Nat) : Int) := by rw [Int.natCast_pow]; rfl
  rw [en] at h1
  rw [e1, ek] at h3
  have hlt : a < 2 ^ n := by omega
  have h3' : a + c * 2 ^ n < 2 ^ k.bits := by omega
  unfold bOr
  rw [e1]
  have hof : ∀ m : Nat, m < 2 ^ k.bits → (BitVec.ofInt k.bits (m : Int)).toNat = m := fun m hm => by
    rw [BitVec.ofInt_natCast, BitVec.toNat_ofNat, Nat.mod_eq_of_lt hm]
  rw [BitVec.toNat_or, hof a (by omega), hof (c * 2 ^ n) (by omega)]
  have : (a ||| c * 2 ^ n) = a + c * 2 ^ n := by
    have := Nat.two_pow_add_eq_or_of_lt hlt c
    rw [Nat.or_comm, Nat.mul_comm c, ← this]; omega
  rw [this, wrap_u hs (by omega) (by rw [ek]; omega)]
  omega
section
variable {b : List Int} (hb : BOk b)
include hb
theorem sh_eq (a : Int) : sh b a = if by_ b a + by_ b (a + 1) * 256 < 32768 then by_ b a + by_ b (a + 1) * 256 else by_ b a + by_ b (a + 1) * 256 - 65536 := by
  have h0 := hb.rng (Int.toNat a)
  have h1 := hb.rng (Int.toNat (a + 1))
  unfold sh
  have e0 : IntKind.wrap .u16 (b.getD (Int.toNat a) 0) = by_ b a := wrap_u16 h0.1 (by omega)
  have e1 : IntKind.wrap .u16 (b.getD (Int.toNat (a + 1)) 0) = by_ b (a + 1) := wrap_u16 h1.1 (by omega)
  have hh0 : 0 ≤ by_ b a ∧ by_ b a ≤ 255 := h0
  have hh1 : 0 ≤ by_ b (a + 1) ∧ by_ b (a + 1) ≤ 255 := h1
  rw [e0, e1]
  have e2 : (min (Int.toNat 8) (IntKind.bits .u16)) = 8 := by decide
  rw [e2]
  rw [wrap_u16 (by omega) (by omega), bOr_add (k := .u16) rfl hh0.1 (by omega) hh1.1 (by show _ < (65536 : Int); omega)]
  rw [wrap_i16 (by omega) (by omega)]
  simp only [show (2 : Int) ^ 8 = 256 from rfl]
  split <;> exact wrap_i64 (by omega) (by omega)
theorem sh_rng (a : Int) : -32768 ≤ sh b a ∧ sh b a ≤ 32767 := by
  have h0 := hb.rng (Int.toNat a)
  have h1 := hb.rng (Int.toNat (a + 1))
  have hh0 : 0 ≤ by_ b a ∧ by_ b a ≤ 255 := h0
  have hh1 : 0 ≤ by_ b (a + 1) ∧ by_ b (a + 1) ≤ 255 := h1
  rw [sh_eq hb]
  split <;> omega
theorem short_ok (k : Nat) {a : Int} (h0 : 0 ≤ a) (h1 : a + 1 < b.length) (at_ : Int) (w : Bool) : F_tinfo_reader_short k a b at_ w = some (sh b a, (b, (at_, w))) := by
  have hl := hb.len
  unfold F_tinfo_reader_short
  rw [inL_t h0 (by omega), inI_t (by omega) (by omega), inL_t (by omega) h1]
  rfl
def lg (b : List Int) (a : Int) : Int := IntKind.wrap .i64 (IntKind.wrap .i32 (by_ b a + by_ b (a + 1) * 256 + by_ b (a + 2) * 65536 + by_ b (a + 3) * 16777216))
def nm (w : Bool) (b : List Int) (a : Int) : Int := bif w then lg b a else sh b a
theorem nm_rng (w : Bool) (a : Int) : -2147483648 ≤ nm w b a ∧ nm w b a ≤ 2147483647 := by
  cases w with
  | false => have := sh_rng hb a; simp only [nm, cond_false]; omega
  | true =>
    have h0 : 0 ≤ by_ b a ∧ by_ b a ≤ 255 := hb.rng _
    have h1 : 0 ≤ by_ b (a + 1) ∧ by_ b (a + 1) ≤ 255 := hb.rng _
    have h2 : 0 ≤ by_ b (a + 2) ∧ by_ b (a + 2) ≤ 255 := hb.rng _
    have h3 : 0 ≤ by_ b (a + 3) ∧ by_ b (a + 3) ≤ 255 := hb.rng _
    simp only [nm, cond_true, lg]
    rw [wrap_i32 (by omega) (by omega)]
    split
    · rw [wrap_i64 (by omega) (by omega)]; omega
    · rw [wrap_i64 (by omega) (by omega)]; omega
theorem number_ok (k : Nat) {a : Int} {w : Bool} (h0 : 0 ≤ a) (h1 : a + (bif w then 4 else 2) ≤ b.length) (at_ : Int) : F_tinfo_reader_number k a b at_ w = some (nm w b a, (b, (at_, w))) := by
  have hl := hb.len
  cases w with
  | false =>
    simp only [cond_false] at h1
    unfold F_tinfo_reader_number
    rw [short_ok hb k h0 (by omega)]
    rfl
  | true =>
    simp only [cond_true] at h1
    unfold F_tinfo_reader_number
    rw [inL_t h0 (by omega), inI_t (x := a + 1) (by omega) (by omega), inL_t (i := a + 1) (by omega) (by omega), inI_t (x := a + 2) (by omega) (by omega), inL_t (i := a + 2) (by omega) (by omega), inI_t (x := a + 3) (by omega) (by omega), inL_t (i := a + 3) (by omega) (by omega)]
    simp only [Bool.not_true, cond_false, cond_true, nm]
    have h0 : 0 ≤ by_ b a ∧ by_ b a ≤ 255 := hb.rng _
    have h1 : 0 ≤ by_ b (a + 1) ∧ by_ b (a + 1) ≤ 255 := hb.rng _
    have h2 : 0 ≤ by_ b (a + 2) ∧ by_ b (a + 2) ≤ 255 := hb.rng _
    have h3 : 0 ≤ by_ b (a + 3) ∧ by_ b (a + 3) ≤ 255 := hb.rng _
    have m8 : (min (Int.toNat 8) (IntKind.bits .u32)) = 8 := by decide
    have m16 : (min (Int.toNat 16) (IntKind.bits .u32)) = 16 := by decide
    have m24 : (min (Int.toNat 24) (IntKind.bits .u32)) = 24 := by decide
    rw [m8, m16, m24]
    have u : ∀ x : Int, 0 ≤ x → x < 4294967296 → IntKind.wrap .u32 x = x := fun x p q => wrap_u32 p q
    rw [show b.getD (Int.toNat a) 0 = by_ b a from rfl, show b.getD (Int.toNat (a + 1)) 0 = by_ b (a + 1) from rfl, show b.getD (Int.toNat (a + 2)) 0 = by_ b (a + 2) from rfl, show b.getD (Int.toNat (a + 3)) 0 = by_ b (a + 3) from rfl]
    rw [u (by_ b a) (by omega) (by omega), u (by_ b (a + 1)) (by omega) (by omega), u (by_ b (a + 2)) (by omega) (by omega), u (by_ b (a + 3)) (by omega) (by omega)]
    rw [u (by_ b (a + 1) * 2 ^ 8) (by omega) (by omega), u (by_ b (a + 2) * 2 ^ 16) (by omega) (by omega), u (by_ b (a + 3) * 2 ^ 24) (by omega) (by omega)]
    rw [bOr_add (k := .u32) rfl h0.1 (by omega) h1.1 (by show _ < (4294967296 : Int); omega), bOr_add (k := .u32) rfl (by omega) (by omega) h2.1 (by show _ < (4294967296 : Int); omega), bOr_add (k := .u32) rfl (by omega) (by omega) h3.1 (by show _ < (4294967296 : Int); omega)]
    rfl
end
end Go.Proofs.YtfghjkgpbncagaaGreatDoor
set_option linter.unusedVariables false
set_option linter.unusedSimpArgs false
set_option maxRecDepth 100000
namespace Go.Proofs.YtfghjkgpbncagaaGreatDoor
open Go.RowKit Go.Av Go.Proofs
theorem acc_at {α R : Type} {n : Nat} {f : Nat → α} {L : Nat → Int → List α → Option R} {r : List α → Option R}
    (h1 : ∀ (m i : Nat) (w : List α), i < n → w.length = i → L (m + 1) (i : Int) w = L m ((i : Int) + 1) (w ++ [f i])) (h2 : ∀ (m : Nat) (w : List α), w.length = n → L (m + 1) (n : Int) w = r w) :
    ∀ (m j : Nat), j ≤ n → n - j < m → L m (j : Int) ((List.range j).map f) = r ((List.range n).map f)
  | 0, j, _, h => absurd h (by omega)
  | m + 1, j, hj, h => by
    rcases Nat.lt_or_ge j n with hlt | hge
    · rw [h1 m j _ hlt (by simp)]
      have := acc_at h1 h2 m (j + 1) hlt (by omega)
      rw [List.range_succ, List.map_append] at this
      exact this
    · have : j = n := by omega
      subst this
      exact h2 m _ (by simp)
theorem acc_loop {α R : Type} {n : Nat} {f : Nat → α} {L : Nat → Int → List α → Option R} {r : List α → Option R}
    (h1 : ∀ (m i : Nat) (w : List α), i < n → w.length = i → L (m + 1) (i : Int) w = L m ((i : Int) + 1) (w ++ [f i])) (h2 : ∀ (m : Nat) (w : List α), w.length = n → L (m + 1) (n : Int) w = r w) {m : Nat} (hm : n < m) : L m 0 [] = r ((List.range n).map f) := acc_at h1 h2 m 0 (Nat.zero_le _) (by omega)
/-- A loop of n rounds that may give up: its state, and what it gives up with. -/
def runE {S R : Type} (f : Nat → S → R ⊕ S) : Nat → Nat → S → R ⊕ S
  | 0, _, s => .inr s
  | c + 1, i, s => match f i s with
    | .inl r => .inl r
    | .inr s' => runE f c (i + 1) s'
theorem runE_at {S R Z : Type} {n : Nat} {f : Nat → S → R ⊕ S} {Inv : Nat → S → Prop} {L : Nat → Int → S → Option Z} {X : R → Option Z → Prop} {Y : S → Option Z}
    (h1 : ∀ (m i : Nat) (s : S), i < n → Inv i s → (match f i s with | .inl r => X r (L (m + 1) (i : Int) s) | .inr s' => Inv (i + 1) s' ∧ L (m + 1) (i : Int) s = L m ((i : Int) + 1) s')) (h2 : ∀ (m : Nat) (s : S), Inv n s → L (m + 1) (n : Int) s = Y s) :
    ∀ (m j : Nat) (s : S), j ≤ n → n - j < m → Inv j s → (match runE f (n - j) j s with | .inl r => X r (L m (j : Int) s) | .inr s' => L m (j : Int) s = Y s' ∧ Inv n s')
  | 0, j, s, _, h, _ => absurd h (by omega)
  | m + 1, j, s, hj, h, hi => by
    rcases Nat.lt_or_ge j n with hlt | hge
    · obtain ⟨c, hc⟩ : ∃ c, n - j = c + 1 := ⟨n - j - 1, by omega⟩
      have hs := h1 m j s hlt hi
      rw [hc, runE]
      cases hf : f j s with
      | inl r =>
        rw [hf] at hs
        exact hs
      | inr s' =>
        rw [hf] at hs
        have ih := runE_at h1 h2 m (j + 1) s' hlt (by omega) hs.1
        rw [show n - (j + 1) = c by omega] at ih
        simp only
        rw [hs.2]
        exact ih
    · have : j = n := by omega
      subst this
      rw [Nat.sub_self, runE]
      exact ⟨h2 m s hi, hi⟩
theorem runE_loop {S R Z : Type} {n : Nat} {f : Nat → S → R ⊕ S} {Inv : Nat → S → Prop} {L : Nat → Int → S → Option Z} {X : R → Option Z → Prop} {Y : S → Option Z}
    (h1 : ∀ (m i : Nat) (s : S), i < n → Inv i s → (match f i s with | .inl r => X r (L (m + 1) (i : Int) s) | .inr s' => Inv (i + 1) s' ∧ L (m + 1) (i : Int) s = L m ((i : Int) + 1) s')) (h2 : ∀ (m : Nat) (s : S), Inv n s → L (m + 1) (n : Int) s = Y s) {m : Nat} (hm : n < m) {s : S} (hi : Inv 0 s) :
    (match runE f n 0 s with | .inl r => X r (L m 0 s) | .inr s' => L m 0 s = Y s' ∧ Inv n s') := runE_at h1 h2 m 0 s (Nat.zero_le _) (by omega) hi
def fl (x : Int) : CapT := (bif x == 0 then 0 else bif x == 254 then 2 else 1, (0, []))
def flagsS (b : List Int) (o : Int) (n : Nat) : List CapT := (List.range n).map fun (i : Nat) => fl (by_ b (o + (i : Int)))
def stN (x : Int) : Int := bif decide (x ≥ 0) then 1 else bif x == (-2) then 2 else 0
def cN (x : Int) : CapT := (stN x, (bif decide ((0 : Int) > x) then 0 else x, []))
def sz (w : Bool) : Int := bif w then 4 else 2
def numsS (w : Bool) (b : List Int) (o : Int) (n : Nat) : List CapT := (List.range n).map fun (i : Nat) => cN (nm w b (o + (i : Int) * sz w))
theorem sz_le (w : Bool) : 2 ≤ sz w ∧ sz w ≤ 4 := by cases w <;> simp [sz]
section
variable {b : List Int} (hb : BOk b)
include hb
theorem flag_ok {k n : Nat} (hk : n < k) (hn : n ≤ 100000) {o : Int} (ho : 0 ≤ o) (hl : o + n ≤ b.length) (a : Int) (w : Bool) (p0 p2 p3 p4 p5 p6 p8 p9 p10 p11 : Int) :
    F_tinfo_reader_flagList k (p0, (o, (p2, (p3, (p4, (p5, (p6, ((n : Int), (p8, (p9, (p10, p11))))))))))) b a w = some (flagsS b o n, (b, (a, w))) := by
  have hlen := hb.len
  have h := acc_loop (n := n) (f := fun i => fl (by_ b (o + (i : Int)))) (L := fun m i s => L_tinfo_reader_flagList_1 k m n i b a w p0 o p2 p3 p4 p5 p6 n p8 p9 p10 p11 s) (r := fun s => some ((b, (a, w)), s)) (fun m i s hi hs => by
      have hr : ∀ x : CapT, room ((s.length + ([x] : List CapT).length) * 32) = true := fun x => room_t (by simp; omega)
      simp only [L_tinfo_reader_flagList_1, lt_t (show (i : Int) < (n : Int) by omega), inI_t (x := o + (i : Int)) (by omega) (by omega), inL_t (i := o + (i : Int)) (n := b.length) (by omega) (by omega), inI_t (x := (i : Int) + 1) (by omega) (by omega), cond_true]
      rw [show b.getD (Int.toNat (o + (i : Int))) 0 = by_ b (o + (i : Int)) from rfl, fl]
      cases by_ b (o + (i : Int)) == 0 with
      | true => simp only [cond_true, Option.bind_some, hr, inI_t (x := (i : Int) + 1) (by omega) (by omega)]
      | false =>
        cases by_ b (o + (i : Int)) == 254 <;> simp only [cond_true, cond_false, Option.bind_some, hr, inI_t (x := (i : Int) + 1) (by omega) (by omega)]) (fun m s hs => by
      simp only [L_tinfo_reader_flagList_1, not_lt_self, cond_false]) hk
  unfold F_tinfo_reader_flagList
  have h' : L_tinfo_reader_flagList_1 k k (n : Int) 0 b a w p0 o p2 p3 p4 p5 p6 n p8 p9 p10 p11 [] = _ := h
  rw [h', Option.bind_some]
  rfl
theorem number_list_ok {k n : Nat} (hk : n < k) (hn : n ≤ 100000) {w : Bool} {o : Int} (ho : 0 ≤ o) (hl : o + n * sz w ≤ b.length) (a : Int) (p0 p1 p3 p4 p5 p6 p7 p9 p10 p11 : Int) :
    F_tinfo_reader_numberList k (p0, (p1, (o, (p3, (p4, (p5, (p6, (p7, ((n : Int), (p9, (p10, p11))))))))))) b a w = some (numsS w b o n, (b, (a, w))) := by
  have hlen := hb.len
  have hsz := sz_le w
  have h := acc_loop (n := n) (f := fun i => cN (nm w b (o + (i : Int) * sz w))) (L := fun m i s => L_tinfo_reader_numberList_1 k m (sz w) n i b a w p0 p1 o p3 p4 p5 p6 p7 n p9 p10 p11 s) (r := fun s => some ((b, (a, w)), s)) (fun m i s hi hs => by
      have hr : ∀ x : CapT, room ((s.length + ([x] : List CapT).length) * 32) = true := fun x => room_t (by simp; omega)
      have hi0 : 0 ≤ (i : Int) * sz w := Int.mul_nonneg (by omega) (by omega)
      have hi1 : (i : Int) * sz w + sz w ≤ (n : Int) * sz w := by
        have : ((i : Int) + 1) * sz w ≤ (n : Int) * sz w := Int.mul_le_mul_of_nonneg_right (by omega) (by omega)
        rw [Int.add_mul, Int.one_mul] at this
        exact this
      have hst : ∀ x : Int, F_tinfo_state k x = some (stN x) := fun x => by
        unfold F_tinfo_state stN
        cases decide (x ≥ 0) <;> cases x == (-2) <;> rfl
      have hwz : (bif w then (4 : Int) else 2) = sz w := rfl
      simp only [L_tinfo_reader_numberList_1, lt_t (show (i : Int) < (n : Int) by omega), inI_t (x := (i : Int) * sz w) (by omega) (by omega), inI_t (x := o + (i : Int) * sz w) (by omega) (by omega), cond_true]
      rw [number_ok hb k (a := o + (i : Int) * sz w) (w := w) (by omega) (by rw [hwz]; omega) a]
      simp only [Option.bind_some, hst, hr, inI_t (x := (i : Int) + 1) (by omega) (by omega), cond_true]
      rfl) (fun m s hs => by
      simp only [L_tinfo_reader_numberList_1, not_lt_self, cond_false]) hk
  unfold F_tinfo_reader_numberList
  have h' : L_tinfo_reader_numberList_1 k k (sz w) (n : Int) 0 b a w p0 p1 o p3 p4 p5 p6 p7 n p9 p10 p11 [] = _ := h
  cases w with
  | true =>
    simp only [cond_true, Option.bind_some]
    rw [show (4 : Int) = sz true from rfl, h', Option.bind_some]
    rfl
  | false =>
    simp only [cond_false, Option.bind_some]
    rw [show (2 : Int) = sz false from rfl, h', Option.bind_some]
    rfl
end
end Go.Proofs.YtfghjkgpbncagaaGreatDoor
set_option linter.unusedVariables false
set_option linter.unusedSimpArgs false
set_option linter.unusedSectionVars false
set_option maxRecDepth 100000
namespace Go.Proofs.YtfghjkgpbncagaaGreatDoor
open Go.RowKit Go.Av Go.Proofs
def str (s : List Int) : Str := List.map (fun n : Int => UInt8.ofNat n.toNat) s
def tx (t : Str) : Option Str := bif decide (Lib.indexByte t 0 < 0) || decide (Lib.indexByte t 0 > 1000) then none else some (t.take (Lib.indexByte t 0).toNat)
def txAt (T : Str) (from_ : Int) : Option Str := bif decide (from_ > (T.length : Int)) then none else tx (T.drop from_.toNat)
theorem ib_lt : ∀ (t : Str), Lib.indexByte t 0 < (t.length : Int) ∨ t = []
  | [] => .inr rfl
  | x :: r => by
    left
    have hg := Lib.indexByte_ge r 0
    unfold Lib.indexByte
    split
    · simp
    · split
      · simp; omega
      · rcases ib_lt r with h | h
        · simp; omega
        · subst h
          rename_i h1 h2
          exact absurd rfl h2
theorem ib_le (t : Str) : Lib.indexByte t 0 < 0 ∨ Lib.indexByte t 0 < (t.length : Int) := by
  rcases ib_lt t with h | h
  · exact .inr h
  · subst h; exact .inl (by decide)
theorem tx_len {t s : Str} (h : tx t = some s) : s.length + 1 ≤ t.length ∧ s.length ≤ 1000 := by
  unfold tx at h
  cases hc : decide (Lib.indexByte t 0 < 0) || decide (Lib.indexByte t 0 > 1000) with
  | true => rw [hc] at h; cases h
  | false =>
    rw [hc, cond_false] at h
    injection h with h
    simp only [Bool.or_eq_false_iff, decide_eq_false_iff_not] at hc
    have := ib_le t
    subst h
    rw [List.length_take]
    omega
theorem txAt_len {T s : Str} {x : Int} (hx : 0 ≤ x) (h : txAt T x = some s) : x + s.length + 1 ≤ (T.length : Int) ∧ s.length ≤ 1000 := by
  unfold txAt at h
  cases hc : decide (x > (T.length : Int)) with
  | true => rw [hc] at h; cases h
  | false =>
    rw [hc, cond_false] at h
    have hc := of_decide_eq_false hc
    have := tx_len h
    rw [List.length_drop] at this
    omega
theorem cut_len {α : Type} (x : List α) {l h : Int} (h0 : 0 ≤ l) (h1 : l ≤ h) (h2 : h ≤ x.length) : ((cut x l h).length : Int) = h - l := by
  unfold cut
  rw [List.length_drop, List.length_take]
  omega
theorem cut_drop {α : Type} (x : List α) {l h d : Int} (h0 : 0 ≤ l) (hd : 0 ≤ d) : cut x (l + d) h = (cut x l h).drop d.toNat := by
  unfold cut
  rw [List.drop_drop]
  congr 1
  omega
theorem cut_from {α : Type} (x : List α) {h : Int} : cut x 0 h = x.take h.toNat := by
  unfold cut
  rfl
theorem inR_t {l h : Int} {n : Nat} (h0 : 0 ≤ l) (h1 : l ≤ h) (h2 : h ≤ n) : inR l h n = true := by simp [inR, h0, h1, h2]
theorem str_len (x : List Int) : (str x).length = x.length := by simp [str]
section
variable {b : List Int} (hb : BOk b)
include hb
theorem tneed_ok (k : Nat) {n a : Int} (ha : 0 ≤ a) (ha' : a ≤ b.length) (w : Bool) : F_tinfo_reader_need k n b a w = some (bif decide (n > (b.length : Int) - a) then Sum.inr (((b.length : Int), 31), (b, (a, w))) else Sum.inl (b, (a, w))) := by
  have hlen := hb.len
  simp only [F_tinfo_reader_need, inI_t (x := (b.length : Int) - a) (by omega) (by omega), cond_true, F_tinfo_give, Option.bind_some]
  cases decide (n > (b.length : Int) - a) <;> rfl
def tbl (b : List Int) (ta size : Int) : Str := str (cut b ta (ta + size))
theorem tab_len {ta size : Int} (h0 : 0 ≤ ta) (h1 : 0 ≤ size) (h2 : ta + size ≤ b.length) : ((tbl b ta size).length : Int) = size := by
  unfold tbl
  rw [str_len, cut_len b h0 (by omega) h2]
  omega
/-- The program's text. -/
theorem text_ok (k : Nat) {ta size from_ : Int} (field a : Int) (w : Bool) (h0 : 0 ≤ ta) (h1 : 0 ≤ size) (h2 : ta + size ≤ b.length) (hf : 0 ≤ from_) (hf' : from_ ≤ 10000000) (p0 p1 p2 p3 p4 p7 p8 p9 p10 : Int) :
    F_tinfo_reader_text k (p0, (p1, (p2, (p3, (p4, (ta, (ta + size, (p7, (p8, (p9, (p10, size))))))))))) from_ field b a w = some (match txAt (tbl b ta size) from_ with | none => Sum.inr ((field, 33), (b, (a, w))) | some t => Sum.inl (t, (b, (a, w)))) := by
  have hlen := hb.len
  have htl := tab_len hb h0 h1 h2
  simp only [F_tinfo_reader_text, lt_f (show ¬ from_ < 0 by omega), cond_false, Option.bind_some, F_tinfo_give]
  unfold txAt
  rw [htl]
  cases hd : decide (from_ > size) with
  | true => rfl
  | false =>
    have hd := of_decide_eq_false hd
    have he : cut b (ta + from_) (ta + size) = (cut b ta (ta + size)).drop from_.toNat := cut_drop b h0 hf
    have hbo : Lib.bytesOf ((cut b ta (ta + size)).drop from_.toNat) = (tbl b ta size).drop from_.toNat := by
      unfold tbl str Lib.bytesOf
      rw [List.map_drop]
    simp only [cond_false, inI_t (x := ta + from_) (by omega) (by omega), inR_t (l := ta + from_) (h := ta + size) (n := b.length) (by omega) (by omega) h2, cond_true, he, F_bytes_IndexByte, Option.bind_some, hbo]
    rw [show (Int.toNat 0).toUInt8 = (0 : UInt8) from rfl]
    unfold tx
    have hle := ib_le ((tbl b ta size).drop from_.toNat)
    rw [List.length_drop] at hle
    generalize Lib.indexByte ((tbl b ta size).drop from_.toNat) 0 = ix at hle
    cases h3 : decide (ix < 0) with
    | true => rfl
    | false =>
      have h3 := of_decide_eq_false h3
      cases h4 : decide (ix > 1000) with
      | true => rfl
      | false =>
        have h4 := of_decide_eq_false h4
        have hcl : ((((cut b ta (ta + size)).drop from_.toNat).length : Nat) : Int) = size - from_ := by
          rw [List.length_drop]
          have := cut_len b h0 (by omega) h2 (h := ta + size)
          omega
        simp only [cond_false, Option.bind_some, Bool.or_self, inR_t (l := 0) (h := ix) (n := ((cut b ta (ta + size)).drop from_.toNat).length) (by omega) (by omega) (by omega), cond_true]
        rw [cut_from]
        unfold tbl str
        rw [List.map_take, List.map_drop]
abbrev TxS := Int × Int × List CapT
/-- One text of a list, by its short. -/
def txStep (T : Str) (b : List Int) (to_ : Int) (i : Nat) (s : TxS) : Nat ⊕ TxS :=
  bif decide (sh b (to_ + (i : Int) * 2) ≥ 0) then
    match txAt T (sh b (to_ + (i : Int) * 2)) with
    | none => .inl i
    | some t => .inr (bif decide (sh b (to_ + (i : Int) * 2) > s.1) then (sh b (to_ + (i : Int) * 2), (sh b (to_ + (i : Int) * 2) + t.length + 1, s.2.2 ++ [(1, (0, t))])) else (s.1, (s.2.1, s.2.2 ++ [(1, (0, t))])))
  else .inr (s.1, (s.2.1, s.2.2 ++ [(stN (sh b (to_ + (i : Int) * 2)), (0, []))]))
def TxInv (T : Str) (i : Nat) (s : TxS) : Prop := s.2.2.length = i ∧ 0 ≤ s.2.1 ∧ s.2.1 ≤ (T.length : Int)
theorem txStep_inv {T : Str} {to_ : Int} {i : Nat} {s s' : TxS} (hi : TxInv T i s) (h : txStep T b to_ i s = .inr s') : TxInv T (i + 1) s' := by
  obtain ⟨h1, h2, h3⟩ := hi
  unfold txStep at h
  cases hd : decide (sh b (to_ + (i : Int) * 2) ≥ 0) with
  | false =>
    rw [hd, cond_false] at h
    injection h with h
    subst h
    exact ⟨by simp [h1], h2, h3⟩
  | true =>
    have hd' := of_decide_eq_true hd
    rw [hd, cond_true] at h
    cases ht : txAt T (sh b (to_ + (i : Int) * 2)) with
    | none => rw [ht] at h; cases h
    | some t =>
      rw [ht] at h
      have hl := txAt_len hd' ht
      injection h with h
      subst h
      cases decide (sh b (to_ + (i : Int) * 2) > s.1) with
      | true => exact ⟨by simp [h1], by show 0 ≤ _ + _ + _; omega, by show _ + _ + _ ≤ _; omega⟩
      | false => exact ⟨by simp [h1], h2, h3⟩
theorem text_list_ok {k n : Nat} (hk : n < k) (hn : n ≤ 100000) {ta size to_ : Int} (h0 : 0 ≤ ta) (h1 : 0 ≤ size) (h2 : ta + size ≤ b.length) (hto : 0 ≤ to_) (hto' : to_ + n * 2 ≤ b.length) (a : Int) (w : Bool) (p0 p1 p2 p4 p7 p8 p10 : Int) :
    F_tinfo_reader_textList k (p0, (p1, (p2, (to_, (p4, (ta, (ta + size, (p7, (p8, ((n : Int), (p10, size))))))))))) b a w =
      some (match runE (txStep (tbl b ta size) b to_) n 0 (-1, (0, [])) with | .inl i => Sum.inr ((to_ + (i : Int) * 2, 33), (b, (a, w))) | .inr s => Sum.inl ((s.2.2, s.2.1), (b, (a, w)))) ∧
    ∀ s, runE (txStep (tbl b ta size) b to_) n 0 (-1, (0, [])) = .inr s → TxInv (tbl b ta size) n s := by
  have hlen := hb.len
  have hst : ∀ x : Int, F_tinfo_state k x = some (stN x) := fun x => by
    unfold F_tinfo_state stN
    cases decide (x ≥ 0) <;> cases x == (-2) <;> rfl
  have h := runE_loop (n := n) (f := txStep (tbl b ta size) b to_) (Inv := TxInv (tbl b ta size)) (L := fun m i s => L_tinfo_reader_textList_1 k m s.1 s.2.1 n i b a w p0 p1 p2 to_ p4 ta (ta + size) p7 p8 n p10 size s.2.2)
    (X := fun i o => o = some (Sum.inr ((to_ + (i : Int) * 2, 33), (b, (a, w))))) (Y := fun s => some (Sum.inl (s.2.1, ((b, (a, w)), s.2.2)))) (fun m i s hi hinv => by
      obtain ⟨last, beh, ws⟩ := s
      have hinv' := hinv
      obtain ⟨q1, q2, q3⟩ := hinv
      have hr : ∀ x : CapT, room ((ws.length + ([x] : List CapT).length) * 32) = true := fun x => room_t (by simp at q1 ⊢; omega)
      have hrng := sh_rng hb (to_ + (i : Int) * 2)
      have hstep : L_tinfo_reader_textList_1 k (m + 1) last beh n (i : Int) b a w p0 p1 p2 to_ p4 ta (ta + size) p7 p8 n p10 size ws = (match txStep (tbl b ta size) b to_ i (last, (beh, ws)) with | .inl i => some (Sum.inr ((to_ + (i : Int) * 2, 33), (b, (a, w)))) | .inr s => L_tinfo_reader_textList_1 k m s.1 s.2.1 n ((i : Int) + 1) b a w p0 p1 p2 to_ p4 ta (ta + size) p7 p8 n p10 size s.2.2) := by
        simp only [L_tinfo_reader_textList_1, lt_t (show (i : Int) < (n : Int) by omega), inI_t (x := (i : Int) * 2) (by omega) (by omega), inI_t (x := to_ + (i : Int) * 2) (by omega) (by omega), cond_true]
        rw [short_ok hb k (a := to_ + (i : Int) * 2) (by omega) (by omega)]
        simp only [Option.bind_some, hst]
        unfold txStep
        generalize hx : sh b (to_ + (i : Int) * 2) = x at hrng
        cases hd : decide (x ≥ 0) with
        | false =>
          have hd' := of_decide_eq_false hd
          have e1 : (stN x == 1) = false := by
            unfold stN
            rw [hd, cond_false]
            cases x == (-2) <;> rfl
          simp only [e1, cond_false, Option.bind_some, hr, inI_t (x := (i : Int) + 1) (by omega) (by omega), cond_true, either]
        | true =>
          have hd' := of_decide_eq_true hd
          have e0 : stN x = 1 := by unfold stN; rw [hd]; rfl
          simp only [e0, BEq.rfl, cond_true]
          rw [text_ok hb k (from_ := x) (to_ + (i : Int) * 2) a w h0 h1 h2 hd' (by omega)]
          cases ht : txAt (tbl b ta size) x with
          | none => simp only [Option.bind_some, either]
          | some t =>
            have hl := txAt_len hd' ht
            simp only [Option.bind_some, either]
            cases decide (x > last) with
            | true => simp only [cond_true, inI_t (x := x + (t.length : Int)) (by omega) (by omega), inI_t (x := x + (t.length : Int) + 1) (by omega) (by omega), Option.bind_some, hr, inI_t (x := (i : Int) + 1) (by omega) (by omega)]
            | false => simp only [cond_false, cond_true, Option.bind_some, hr, inI_t (x := (i : Int) + 1) (by omega) (by omega)]
      simp only
      cases hf : txStep (tbl b ta size) b to_ i (last, (beh, ws)) with
      | inl r =>
        rw [hf] at hstep
        exact hstep
      | inr s' =>
        rw [hf] at hstep
        exact ⟨txStep_inv hb hinv' hf, hstep⟩) (fun m s hinv => by
      simp only [L_tinfo_reader_textList_1, not_lt_self, cond_false]) hk (s := (-1, (0, []))) ⟨rfl, Int.le_refl _, Int.natCast_nonneg _⟩
  unfold F_tinfo_reader_textList
  cases hR : runE (txStep (tbl b ta size) b to_) n 0 (-1, (0, [])) with
  | inl i =>
    rw [hR] at h
    have h : L_tinfo_reader_textList_1 k k (-1) 0 n 0 b a w p0 p1 p2 to_ p4 ta (ta + size) p7 p8 n p10 size [] = _ := h
    exact ⟨by rw [h, Option.bind_some]; rfl, fun s hs => by cases hs⟩
  | inr s =>
    rw [hR] at h
    obtain ⟨h, hi⟩ := h
    have h : L_tinfo_reader_textList_1 k k (-1) 0 n 0 b a w p0 p1 p2 to_ p4 ta (ta + size) p7 p8 n p10 size [] = _ := h
    exact ⟨by rw [h, Option.bind_some]; rfl, fun s' hs => by injection hs with hs; subst hs; exact hi⟩
end
end Go.Proofs.YtfghjkgpbncagaaGreatDoor
set_option linter.unusedVariables false
set_option linter.unusedSimpArgs false
set_option linter.unusedSectionVars false
set_option maxRecDepth 100000
namespace Go.Proofs.YtfghjkgpbncagaaGreatDoor
open Go.RowKit Go.Av Go.Proofs
/-- The first number at which something is so. -/
def fbad (p : Nat → Bool) : Nat → Nat → Option Nat
  | 0, _ => none
  | c + 1, i => bif p i then some i else fbad p c (i + 1)
section
variable {b : List Int} (hb : BOk b)
include hb
def cnt5 (b : List Int) (a : Int) : List Int := [sh b a, sh b (a + 2), sh b (a + 4), sh b (a + 6), sh b (a + 8)]
end
end Go.Proofs.YtfghjkgpbncagaaGreatDoor
set_option linter.unusedVariables false
set_option linter.unusedSimpArgs false
set_option linter.unusedSectionVars false
set_option maxRecDepth 100000
namespace Go.Proofs.YtfghjkgpbncagaaGreatDoor
open Go.RowKit Go.Av Go.Proofs
/-- As inI, but never reckoned. -/
noncomputable def inJ (x : Int) : Bool := Classical.choose (⟨inI x, rfl⟩ : ∃ y, y = inI x)
theorem inI_J : inI = inJ := by
  funext x
  exact (Classical.choose_spec (⟨inI x, rfl⟩ : ∃ y, y = inI x)).symm
theorem inJ_t {x : Int} (h1 : -9223372036854775808 ≤ x) (h2 : x ≤ 9223372036854775807) : inJ x = true := by rw [← inI_J]; exact inI_t h1 h2
def most5 : List Int := [512, 64, 64, 512, 32767]
def bad1 (b : List Int) (i : Nat) : Bool := decide (sh b (2 + 2 * (i : Int)) < 0) || (decide (sh b (2 + 2 * (i : Int)) > most5.getD i 0) || (((i : Int) == 0) && (sh b (2 + 2 * (i : Int)) == 0)))
def sum3 (b : List Int) (o : Int) : Int := sh b o + sh b (o + 2) + sh b (o + 4)
def bad2 (b : List Int) (o : Int) (i : Nat) : Bool := decide (sh b (o + 2 * (i : Int)) < 0) || (((i : Int) == 2) && decide (sum3 b o > 256))
theorem cnt5_get {b : List Int} {o : Int} {i : Nat} (hi : i < 5) : (cnt5 b o).getD (Int.toNat (i : Int)) 0 = sh b (o + 2 * (i : Int)) := by
  rw [Int.toNat_natCast]
  match i, hi with
  | 0, _ => simp [cnt5]
  | 1, _ => simp [cnt5]
  | 2, _ => simp [cnt5]
  | 3, _ => simp [cnt5]
  | 4, _ => simp [cnt5]
theorem fbad_lt {p : Nat → Bool} : ∀ {c i j : Nat}, fbad p c i = some j → i ≤ j ∧ j < i + c
  | 0, i, j, h => by cases h
  | c + 1, i, j, h => by
    rw [fbad] at h
    cases hp : p i with
    | true => rw [hp] at h; injection h with h; omega
    | false => rw [hp] at h; have := fbad_lt (c := c) h; omega
theorem fbad_none {p : Nat → Bool} : ∀ {c i : Nat}, fbad p c i = none → ∀ j, i ≤ j → j < i + c → p j = false
  | 0, i, _, j, h1, h2 => by omega
  | c + 1, i, h, j, h1, h2 => by
    rw [fbad] at h
    cases hp : p i with
    | true => rw [hp] at h; cases h
    | false =>
      rw [hp] at h
      rcases Nat.eq_or_lt_of_le h1 with rfl | h1
      · exact hp
      · exact fbad_none (c := c) h j h1 (by omega)
section
variable {b : List Int} (hb : BOk b)
include hb
theorem entry1_at (hl : 12 ≤ (b.length : Int)) (k : Nat) (a : Int) (w : Bool) : ∀ (c m i : Nat), i + c = 5 → c < m →
    L_tinfo_reader_entry_1 k m (512, (64, (64, (512, 32767)))) i b a w = some (match fbad (bad1 b) c i with | none => Sum.inl (b, (a, w)) | some j => Sum.inr ((2 + 2 * (j : Int), 32), (b, (a, w))))
  | 0, m + 1, i, h1, _ => by
    have : i = 5 := by omega
    subst this
    rw [L_tinfo_reader_entry_1, lt_f (show ¬ ((5 : Nat) : Int) < 5 by omega), cond_false, fbad]
  | c + 1, m + 1, i, h1, h2 => by
    have ih := entry1_at hl k a w c m (i + 1) (by omega) (by omega)
    rw [show ((i + 1 : Nat) : Int) = (i : Int) + 1 from rfl] at ih
    have hlen := hb.len
    rw [L_tinfo_reader_entry_1, inI_J, lt_t (show (i : Int) < 5 by omega), inL_t (i := (i : Int)) (n := 5) (by omega) (by omega), inJ_t (x := 2 * (i : Int)) (by omega) (by omega), inJ_t (x := 2 + 2 * (i : Int)) (by omega) (by omega)]
    simp only [cond_true]
    rw [short_ok hb k (a := 2 + 2 * (i : Int)) (by omega) (by omega)]
    simp only [Option.bind_some]
    rw [fbad]
    unfold bad1
    rw [show (([512, 64, 64, 512, 32767] : List Int).getD (Int.toNat (i : Int)) 0) = most5.getD i 0 by rw [Int.toNat_natCast]; rfl]
    generalize sh b (2 + 2 * (i : Int)) = x
    have hI : inJ ((i : Int) + 1) = true := inJ_t (by omega) (by omega)
    have hI2 : inJ (2 * (i : Int)) = true := inJ_t (by omega) (by omega)
    have hI3 : inJ (2 + 2 * (i : Int)) = true := inJ_t (by omega) (by omega)
    cases decide (x < 0) with
    | true => simp only [cond_true, Option.bind_some, hI2, hI3, F_tinfo_give, Bool.true_or]
    | false =>
      cases decide (x > most5.getD i 0) with
      | true => simp only [cond_true, cond_false, Option.bind_some, hI2, hI3, F_tinfo_give, Bool.true_or, Bool.or_true]
      | false =>
        cases (i : Int) == 0 with
        | false => simp only [cond_true, cond_false, Option.bind_some, hI, Bool.false_and, Bool.or_self]; exact ih
        | true =>
          cases x == 0 with
          | true => simp only [cond_true, cond_false, Option.bind_some, hI2, hI3, F_tinfo_give, Bool.true_and, Bool.or_true]
          | false => simp only [cond_true, cond_false, Option.bind_some, hI, Bool.and_false, Bool.or_self]; exact ih
def psum (b : List Int) (o : Int) (i : Nat) : Int := ([0, sh b o, sh b o + sh b (o + 2), sum3 b o, sum3 b o, sum3 b o] : List Int).getD i 0
theorem psum_rng (o : Int) (i : Nat) (hi : i ≤ 5) : -100000 ≤ psum b o i ∧ psum b o i ≤ 100000 := by
  have h0 := sh_rng hb o
  have h1 := sh_rng hb (o + 2)
  have h2 := sh_rng hb (o + 4)
  match i, hi with
  | 0, _ => simp [psum]
  | 1, _ => simp [psum]; omega
  | 2, _ => simp [psum]; omega
  | 3, _ => simp [psum, sum3]; omega
  | 4, _ => simp [psum, sum3]; omega
  | 5, _ => simp [psum, sum3]; omega
theorem psum_next (o : Int) {i : Nat} (hi : i < 5) : (bif decide ((i : Int) < 3) then psum b o i + sh b (o + 2 * (i : Int)) else psum b o i) = psum b o (i + 1) := by
  match i, hi with
  | 0, _ => simp [psum]
  | 1, _ => simp [psum]
  | 2, _ => simp [psum, sum3]
  | 3, _ => simp [psum]
  | 4, _ => simp [psum]
theorem psum_two (o : Int) {i : Nat} (h : ((i : Int) == 2) = true) : psum b o (i + 1) = sum3 b o := by
  have : i = 2 := by have := eq_of_beq h; omega
  subst this
  simp [psum]
theorem ext1_at {o : Int} (ho : 0 ≤ o) (hl : o + 10 ≤ (b.length : Int)) (k : Nat) (a : Int) (w : Bool) : ∀ (c m i : Nat), i + c = 5 → c < m →
    L_tinfo_reader_extended_1 k m o (psum b o i) i b a w = some (match fbad (bad2 b o) c i with | none => Sum.inl (o, (sum3 b o, (b, (a, w)))) | some j => Sum.inr ((o + 2 * (j : Int), 32), (b, (a, w))))
  | 0, m + 1, i, h1, _ => by
    have : i = 5 := by omega
    subst this
    have : psum b o 5 = sum3 b o := by simp [psum]
    rw [L_tinfo_reader_extended_1, lt_f (show ¬ ((5 : Nat) : Int) < 5 by omega), cond_false, fbad, this]
  | c + 1, m + 1, i, h1, h2 => by
    have ih := ext1_at ho hl k a w c m (i + 1) (by omega) (by omega)
    rw [show ((i + 1 : Nat) : Int) = (i : Int) + 1 from rfl] at ih
    have hlen := hb.len
    have hp := psum_rng hb o i (by omega)
    have hs := sh_rng hb (o + 2 * (i : Int))
    have hp1 := psum_rng hb o (i + 1) (by omega)
    have hI6 : inJ (psum b o (i + 1)) = true := inJ_t (by omega) (by omega)
    have hI : inJ ((i : Int) + 1) = true := inJ_t (by omega) (by omega)
    have hI2 : inJ (2 * (i : Int)) = true := inJ_t (by omega) (by omega)
    have hI3 : inJ (o + 2 * (i : Int)) = true := inJ_t (by omega) (by omega)
    have e : L_tinfo_reader_extended_1 k (m + 1) o (psum b o i) i b a w = (bif decide (sh b (o + 2 * (i : Int)) < 0) || (((i : Int) == 2) && decide (psum b o (i + 1) > 256)) then some (Sum.inr ((o + 2 * (i : Int), 32), (b, (a, w)))) else L_tinfo_reader_extended_1 k m o (psum b o (i + 1)) ((i : Int) + 1) b a w) := by
      rw [L_tinfo_reader_extended_1, inI_J, lt_t (show (i : Int) < 5 by omega), hI2, hI3]
      simp only [cond_true]
      rw [short_ok hb k (a := o + 2 * (i : Int)) (by omega) (by omega)]
      simp only [Option.bind_some]
      have hnx := psum_next hb o (i := i) (by omega)
      cases h3 : decide ((i : Int) < 3) with
      | true =>
        rw [h3, cond_true] at hnx
        simp only [cond_true, hnx, hI6, Option.bind_some]
        cases decide (sh b (o + 2 * (i : Int)) < 0) with
        | true => simp only [cond_true, Option.bind_some, hI2, hI3, F_tinfo_give, Bool.true_or]
        | false =>
          cases (i : Int) == 2 with
          | false => simp only [cond_true, cond_false, Option.bind_some, hI, Bool.false_and, Bool.or_self]
          | true => cases decide (psum b o (i + 1) > 256) <;> simp only [cond_true, cond_false, Option.bind_some, hI, hI2, hI3, F_tinfo_give, Bool.true_and, Bool.or_self, Bool.or_true]
      | false =>
        rw [h3, cond_false] at hnx
        simp only [cond_false, Option.bind_some, hnx]
        cases decide (sh b (o + 2 * (i : Int)) < 0) with
        | true => simp only [cond_true, Option.bind_some, hI2, hI3, F_tinfo_give, Bool.true_or]
        | false =>
          cases (i : Int) == 2 with
          | false => simp only [cond_true, cond_false, Option.bind_some, hI, Bool.false_and, Bool.or_self]
          | true => cases decide (psum b o (i + 1) > 256) <;> simp only [cond_true, cond_false, Option.bind_some, hI, hI2, hI3, F_tinfo_give, Bool.true_and, Bool.or_self, Bool.or_true]
    rw [e, fbad]
    have hbd : (decide (sh b (o + 2 * (i : Int)) < 0) || (((i : Int) == 2) && decide (psum b o (i + 1) > 256))) = bad2 b o i := by
      unfold bad2
      cases h2 : (i : Int) == 2 with
      | false => rfl
      | true => rw [psum_two hb o h2]
    rw [hbd]
    cases bad2 b o i with
    | true => rfl
    | false => exact ih
theorem lay_ok (k : Nat) {a nf nn ns ne size names : Int} {w : Bool} (ha : 0 ≤ a) (ha' : a ≤ b.length) (h1 : 0 ≤ nf ∧ nf ≤ 100000) (h2 : 0 ≤ nn ∧ nn ≤ 100000) (h3 : 0 ≤ ns ∧ ns ≤ 100000) (h4 : 0 ≤ ne ∧ ne ≤ 100000) (h5 : 0 ≤ size ∧ size ≤ 100000) (h6 : 0 ≤ names ∧ names ≤ 100000)
    {fo no to_ eo ta : Int} (e1 : fo = a + names) (e2 : no = fo + nf + (fo + nf) % 2) (e3 : to_ = no + nn * sz w) (e4 : eo = to_ + ns * 2) (e5 : ta = eo + ne * 2) (q0 q1 q2 q3 q4 q5 q6 : Int) :
    F_tinfo_reader_lay k (q0, (q1, (q2, (q3, (q4, (q5, (q6, (nf, (nn, (ns, (ne, size))))))))))) names b a w = some (bif decide (ta + size > (b.length : Int)) then Sum.inr (((b.length : Int), 31), (b, (a, w))) else Sum.inl ((a, (fo, (no, (to_, (eo, (ta, (ta + size, (nf, (nn, (ns, (ne, size))))))))))), (b, (ta + size, w)))) := by
  have hlen := hb.len
  have hsz := sz_le w
  have hm0 : 0 ≤ nn * sz w := Int.mul_nonneg h2.1 (by omega)
  have hm1 : nn * sz w ≤ 400000 := by
    have : nn * sz w ≤ 100000 * sz w := Int.mul_le_mul_of_nonneg_right h2.2 (by omega)
    omega
  have hmod : Int.tmod (fo + nf) 2 = (fo + nf) % 2 := Int.tmod_eq_emod_of_nonneg (by omega)
  have hmr : 0 ≤ (fo + nf) % 2 ∧ (fo + nf) % 2 ≤ 1 := by omega
  unfold F_tinfo_reader_lay
  rw [inI_J]
  have e0 : (bif w then some (names, ((4 : Int), ((b, (a, w)), (q0, (q1, (q2, (q3, (q4, (q5, (q6, (nf, (nn, (ns, (ne, size))))))))))))))
     else some (names, ((2 : Int), ((b, (a, w)), (q0, (q1, (q2, (q3, (q4, (q5, (q6, (nf, (nn, (ns, (ne, size)))))))))))))) : Option (Int × Int × ((List Int) × Int × Bool) × (Int × Int × Int × Int × Int × Int × Int × Int × Int × Int × Int × Int))) = some (names, (sz w, ((b, (a, w)), (q0, (q1, (q2, (q3, (q4, (q5, (q6, (nf, (nn, (ns, (ne, size)))))))))))))) := by cases w <;> rfl
  rw [e0, Option.bind_some]
  simp only [← e1, hmod, ← e2, ← e3, ← e4, ← e5]
  rw [inJ_t (x := fo) (by omega) (by omega), inJ_t (x := fo + nf) (by omega) (by omega), inJ_t (x := no) (by omega) (by omega), inJ_t (x := nn * sz w) (by omega) (by omega), inJ_t (x := to_) (by omega) (by omega), inJ_t (x := ns * 2) (by omega) (by omega), inJ_t (x := eo) (by omega) (by omega), inJ_t (x := ne * 2) (by omega) (by omega), inJ_t (x := ta) (by omega) (by omega), inJ_t (x := ta + size) (by omega) (by omega), inJ_t (x := ta + size - a) (by omega) (by omega)]
  simp only [cond_true]
  rw [tneed_ok hb k ha ha' w, Option.bind_some]
  by_cases h : ta + size > (b.length : Int)
  · rw [decide_eq_true h, decide_eq_true (show ta + size - a > (b.length : Int) - a by omega)]; rfl
  · rw [decide_eq_false h, decide_eq_false (show ¬ ta + size - a > (b.length : Int) - a by omega)]; rfl
end
end Go.Proofs.YtfghjkgpbncagaaGreatDoor
