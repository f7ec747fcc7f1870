/- Joined texts: Pb. -/
import Derived.Test.YtjobkhfmoammdaaGreatDoorPa
set_option linter.unusedVariables false
set_option linter.unusedSimpArgs false
set_option linter.unusedSectionVars false
set_option maxRecDepth 100000
namespace Go.Proofs.YtjobkhfmoammdaaGreatDoor
open Go.RowKit Go.Av Go.Proofs
def thrN (b : List Int) (to_ : Int) : Nat → Nat → Int
  | 0, _ => 0
  | c + 1, i => (bif decide (sh b (to_ + 2 * (i : Int)) ≥ 0) then 1 else 0) + thrN b to_ c (i + 1)
theorem thrN_rng (b : List Int) (to_ : Int) : ∀ c i, 0 ≤ thrN b to_ c i ∧ thrN b to_ c i ≤ (c : Int)
  | 0, i => ⟨Int.le_refl _, Int.le_refl _⟩
  | c + 1, i => by
    have ih := thrN_rng b to_ c (i + 1)
    rw [thrN]
    cases decide (sh b (to_ + 2 * (i : Int)) ≥ 0) <;> simp only [cond_true, cond_false] <;> omega
theorem ib_take : ∀ (t : Str), 0 ≤ Lib.indexByte t 0 → Lib.indexByte (t.take (Lib.indexByte t 0).toNat) 0 = -1
  | [], h => by exact absurd h (by decide)
  | x :: r, h => by
    have ih := ib_take r
    have hg := Lib.indexByte_ge r 0
    have hE : ∀ l : Str, Lib.indexByte (x :: l) 0 = if x == 0 then 0 else if Lib.indexByte l 0 == -1 then -1 else Lib.indexByte l 0 + 1 := fun _ => rfl
    have hR := hE r
    cases hx : x == 0 with
    | true =>
      rw [hx, if_pos rfl] at hR
      rw [hR]
      rfl
    | false =>
      rw [hx, if_neg (by decide)] at hR
      cases hr : Lib.indexByte r 0 == -1 with
      | true =>
        rw [hr, if_pos rfl] at hR
        rw [hR] at h
        exact absurd h (by decide)
      | false =>
        rw [hr, if_neg (by decide)] at hR
        have h0 : 0 ≤ Lib.indexByte r 0 := by
          have : Lib.indexByte r 0 ≠ -1 := by simpa using hr
          omega
        have e : (Lib.indexByte r 0 + 1).toNat = (Lib.indexByte r 0).toNat + 1 := by omega
        rw [hR, e, List.take_succ_cons, hE, hx, if_neg (by decide), ih h0]
        rfl
theorem tx_nul {t s : Str} (h : tx t = some s) : Lib.indexByte s 0 = -1 := by
  unfold tx at h
  cases hc : decide (Lib.indexByte t 0 < 0) || decide (Lib.indexByte t 0 > 1000) with
  | true => rw [hc] at h; cases h
  | false =>
    rw [hc, cond_false] at h
    injection h with h
    simp only [Bool.or_eq_false_iff, decide_eq_false_iff_not] at hc
    subst h
    exact ib_take t (by omega)
theorem txAt_nul {T s : Str} {x : Int} (h : txAt T x = some s) : Lib.indexByte s 0 = -1 := by
  unfold txAt at h
  cases hc : decide (x > (T.length : Int)) with
  | true => rw [hc] at h; cases h
  | false => rw [hc, cond_false] at h; exact tx_nul h
theorem txAt_drop {T : Str} {e n : Int} (he : 0 ≤ e) (he' : e ≤ (T.length : Int)) (hn : 0 ≤ n) : txAt (T.drop e.toNat) n = txAt T (e + n) := by
  unfold txAt
  rw [List.length_drop, List.drop_drop]
  have e1 : decide (n > ((T.length - e.toNat : Nat) : Int)) = decide (e + n > (T.length : Int)) := by
    apply decide_eq_decide.2
    omega
  rw [e1, show e.toNat + n.toNat = (e + n).toNat by omega]
def okName (out : List ExtT) (x : Str) : Bool := !(placeT x).2.2 && (!(x == []) && !(out.any fun e => e.2.1 == x))
def nmStep (T : Str) (b : List Int) (eo beh kind : Int) (l : List CapT) (i : Nat) (out : List ExtT) : Int ⊕ List ExtT :=
  bif decide (sh b (eo + 2 * (out.length : Int)) < 0) then .inl (eo + 2 * (out.length : Int)) else
    match txAt T (beh + sh b (eo + 2 * (out.length : Int))) with
    | none => .inl (eo + 2 * (out.length : Int))
    | some x => bif okName out x then .inr (out ++ [(kind, (x, l.getD i (0, (0, []))))]) else .inl (eo + 2 * (out.length : Int))
theorem nmStep_len {T : Str} {b : List Int} {eo beh kind : Int} {l : List CapT} {i : Nat} {out out' : List ExtT} (h : nmStep T b eo beh kind l i out = .inr out') : out'.length = out.length + 1 := by
  unfold nmStep at h
  cases hd : decide (sh b (eo + 2 * (out.length : Int)) < 0) with
  | true => rw [hd] at h; cases h
  | false =>
    rw [hd, cond_false] at h
    split at h
    · cases h
    · rename_i x hx
      cases hk : okName out x with
      | false => rw [hk] at h; cases h
      | true => rw [hk] at h; injection h with h; subst h; simp
theorem sget_sput (z : Int) : ∀ (m : List (Str × Int)) (x y : Str) (v : Int), sget z (sput m x v) y = bif x == y then v else sget z m y
  | [], x, y, v => rfl
  | p :: r, x, y, v => by
    rw [sput]
    cases hpx : p.1 == x with
    | true =>
      have : p.1 = x := eq_of_beq hpx
      rw [cond_true, sget, sget, this]
      cases x == y <;> rfl
    | false =>
      rw [cond_false, sget, sget_sput z r x y v, sget]
      cases hpy : p.1 == y with
      | false => rfl
      | true =>
        have : p.1 = y := eq_of_beq hpy
        have hxy : (x == y) = false := by
          rw [← this]
          cases h : x == p.1 with
          | false => rfl
          | true => rw [eq_of_beq h, BEq.rfl] at hpx; cases hpx
        rw [hxy]; rfl
def Seen (m : List (Str × Int)) (out : List ExtT) : Prop := ∀ x, sget 0 m x = bif out.any (fun e => e.2.1 == x) then 1 else 0
theorem seen_put {m : List (Str × Int)} {out : List ExtT} {x : Str} {kind : Int} {c : CapT} (h : Seen m out) (hx : out.any (fun e => e.2.1 == x) = false) : Seen (sput m x 1) (out ++ [(kind, (x, c))]) := fun y => by
  rw [sget_sput, h y, List.any_append]
  cases hxy : x == y with
  | true =>
    simp [hxy]
  | false =>
    simp [hxy]
section
variable {b : List Int} (hb : BOk b)
include hb
theorem ext2_at {k n : Nat} (hn : n ≤ 100000) {o to_ : Int} (hto : 0 ≤ to_) (hto' : to_ + n * 2 ≤ b.length) (a : Int) (w : Bool) (p0 p1 p2 p4 p5 p6 p7 p8 p10 p11 : Int) : ∀ (c m i : Nat) (s : Int), i + c = n → c < m → 0 ≤ s → s ≤ 1000000 + i →
    L_tinfo_reader_extended_2 k m o s n i b a w p0 p1 p2 to_ p4 p5 p6 p7 p8 n p10 p11 = some (o, (s + thrN b to_ c i, ((b, (a, w)), (p0, (p1, (p2, (to_, (p4, (p5, (p6, (p7, (p8, ((n : Int), (p10, p11))))))))))))))
  | 0, m + 1, i, s, h1, _, _, _ => by
    have : i = n := by omega
    subst this
    rw [L_tinfo_reader_extended_2, not_lt_self, cond_false, thrN, Int.add_zero]
  | c + 1, m + 1, i, s, h1, h2, h3, h4 => by
    have hlen := hb.len
    rw [L_tinfo_reader_extended_2, inI_J, lt_t (show (i : Int) < (n : Int) by omega), inJ_t (x := 2 * (i : Int)) (by omega) (by omega), inJ_t (x := to_ + 2 * (i : Int)) (by omega) (by omega)]
    simp only [cond_true]
    rw [short_ok hb k (a := to_ + 2 * (i : Int)) (by omega) (by omega)]
    simp only [Option.bind_some]
    rw [thrN]
    have hI : inJ ((i : Int) + 1) = true := inJ_t (by omega) (by omega)
    cases decide (sh b (to_ + 2 * (i : Int)) ≥ 0) with
    | true =>
      have ih := ext2_at hn hto hto' a w p0 p1 p2 p4 p5 p6 p7 p8 p10 p11 c m (i + 1) (s + 1) (by omega) (by omega) (by omega) (by omega) (k := k) (o := o)
      simp only [cond_true, inJ_t (x := s + 1) (by omega) (by omega), Option.bind_some, hI]
      rw [show s + (1 + thrN b to_ c (i + 1)) = s + 1 + thrN b to_ c (i + 1) by omega]
      exact ih
    | false =>
      have ih := ext2_at hn hto hto' a w p0 p1 p2 p4 p5 p6 p7 p8 p10 p11 c m (i + 1) s (by omega) (by omega) (by omega) (by omega) (k := k) (o := o)
      simp only [cond_false, cond_true, Option.bind_some, hI]
      rw [Int.zero_add]
      exact ih
theorem rsecond2_at {k n : Nat} (hn : n ≤ 100000) {o to_ : Int} (hc : sh b (o + 4) = n) (hto : 0 ≤ to_) (hto' : to_ + n * 2 ≤ b.length) (all : Int) (bo nu : List CapT) (no ta a e bad : Int) (w : Bool) : ∀ (c m i : Nat) (s : Int), i + c = n → c < m → 0 ≤ s → s ≤ 1000000 + i →
    L_lanyardref03_reader_second_2 k m (cnt5 b o) o all bo nu to_ no ta s i b a e bad w = some (cnt5 b o, (o, (all, (bo, (nu, (to_, (no, (ta, (s + thrN b to_ c i, (b, (a, (e, (bad, w)))))))))))))
  | 0, m + 1, i, s, h1, _, _, _ => by
    have : i = n := by omega
    subst this
    have c2 : (cnt5 b o).getD (Int.toNat 2) 0 = sh b (o + 4) := rfl
    have hL2 : inL 2 (cnt5 b o).length = true := rfl
    rw [L_lanyardref03_reader_second_2, hL2, cond_true, c2, hc, not_lt_self, cond_false, thrN, Int.add_zero]
  | c + 1, m + 1, i, s, h1, h2, h3, h4 => by
    have hlen := hb.len
    have c2 : (cnt5 b o).getD (Int.toNat 2) 0 = sh b (o + 4) := rfl
    have hL2 : inL 2 (cnt5 b o).length = true := rfl
    rw [L_lanyardref03_reader_second_2, inI_J, hL2, cond_true, c2, hc, lt_t (show (i : Int) < (n : Int) by omega), inJ_t (x := 2 * (i : Int)) (by omega) (by omega), inJ_t (x := to_ + 2 * (i : Int)) (by omega) (by omega)]
    simp only [cond_true]
    rw [peek_ok hb k (a := to_ + 2 * (i : Int)) (by omega) (by omega)]
    simp only [Option.bind_some]
    rw [thrN]
    have hI : inJ ((i : Int) + 1) = true := inJ_t (by omega) (by omega)
    cases decide (sh b (to_ + 2 * (i : Int)) ≥ 0) with
    | true =>
      have ih := rsecond2_at hn hc hto hto' all bo nu no ta a e bad w c m (i + 1) (s + 1) (by omega) (by omega) (by omega) (by omega) (k := k)
      simp only [cond_true, inJ_t (x := s + 1) (by omega) (by omega), Option.bind_some, hI]
      rw [show s + (1 + thrN b to_ c (i + 1)) = s + 1 + thrN b to_ c (i + 1) by omega]
      exact ih
    | false =>
      have ih := rsecond2_at hn hc hto hto' all bo nu no ta a e bad w c m (i + 1) s (by omega) (by omega) (by omega) (by omega) (k := k)
      simp only [cond_false, cond_true, Option.bind_some, hI]
      rw [Int.zero_add]
      exact ih
theorem named_ok {k : Nat} (hk : 1000 ≤ k) {out : List ExtT} (ho : out.length < 900) {x : Str} (hx : Lib.indexByte x 0 = -1) : F_lanyardref03_named k out x = some (okName out x) := by
  unfold F_lanyardref03_named okName
  rw [rplace_ok hk, Option.bind_some]
  have hs := search_loop (l := out) (0, ([], (0, (0, [])))) (fun e : ExtT => e.2.1 == x) (fun _ _ => ()) () (fun n i => L_lanyardref03_named_1 k n out x i) (fun n i h0 h1 => by
      simp only [L_lanyardref03_named_1, lt_t h1, inL_t (i := i) (n := out.length) h0 h1, inI_t (x := i + 1) (by omega) (by omega), cond_true]) (fun n => by
      simp only [L_lanyardref03_named_1, not_lt_self, cond_false]) (n := k) (by omega)
  rw [search_any] at hs
  have hib : ∀ k, F_strings_IndexByte k x 0 = some (-1) := fun k => by
    show some (Lib.indexByte x 0) = _
    rw [hx]
  cases (placeT x).2.2 with
  | true => rfl
  | false =>
    cases x == [] with
    | true => rfl
    | false =>
      simp only [cond_false, hib, Option.bind_some, show decide ((-1 : Int) ≥ 0) = false from rfl]
      rw [hs]
      cases out.any (fun e => e.2.1 == x) <;> rfl
end
end Go.Proofs.YtjobkhfmoammdaaGreatDoor
set_option linter.unusedVariables false
set_option linter.unusedSimpArgs false
set_option linter.unusedSectionVars false
set_option maxRecDepth 100000
namespace Go.Proofs.YtjobkhfmoammdaaGreatDoor
open Go.RowKit Go.Av Go.Proofs
def nm3 (T : Str) (b : List Int) (eo beh : Int) (l0 l1 l2 : List CapT) : Int ⊕ List ExtT :=
  match runE (nmStep T b eo beh 0 l0) l0.length 0 [] with
  | .inl o => .inl o
  | .inr out0 => match runE (nmStep T b eo beh 1 l1) l1.length 0 out0 with
    | .inl o => .inl o
    | .inr out1 => runE (nmStep T b eo beh 2 l2) l2.length 0 out1
abbrev PartsT := Int × Int × Int × Int × Int × Int × Int × Int × Int × Int × Int × Int
section
variable {b : List Int} (hb : BOk b)
include hb
theorem ext4_at {k : Nat} (hk : 1000 ≤ k) {ta size eo beh kind : Int} (h0 : 0 ≤ ta) (h1 : 0 ≤ size) (h2 : ta + size ≤ b.length) (hs : size ≤ 1000000) (heo : 0 ≤ eo) (hbh : 0 ≤ beh) (hbh' : beh ≤ 1000000) {l : List CapT} {base : Nat} (hbase : base + l.length ≤ 300) (hroom : eo + 2 * ((base + l.length : Nat) : Int) ≤ b.length) (t130 : List CapT × List CapT × List CapT) (t131 a : Int) (w : Bool) (p0 p1 p2 p3 p7 p8 p9 p10 : Int) :
    ∀ (c m i : Nat) (mp : List (Str × Int)) (out : List ExtT), i + c = l.length → c < m → Seen mp out → out.length = base + i →
    (match runE (nmStep (tbl b ta size) b eo beh kind l) c i out with
      | .inl off => L_tinfo_reader_extended_4 k m beh kind t130 t131 l l.length i b a w p0 p1 p2 p3 eo ta (ta + size) p7 p8 p9 p10 size mp out = some (Sum.inr ((off, 33), (b, (a, w))))
      | .inr out' => out'.length = base + l.length ∧ ∃ mp', Seen mp' out' ∧ L_tinfo_reader_extended_4 k m beh kind t130 t131 l l.length i b a w p0 p1 p2 p3 eo ta (ta + size) p7 p8 p9 p10 size mp out = some (Sum.inl (beh, (t130, (t131, ((b, (a, w)), ((p0, (p1, (p2, (p3, (eo, (ta, (ta + size, (p7, (p8, (p9, (p10, size))))))))))), (mp', out'))))))))
  | 0, m + 1, i, mp, out, e1, _, hsn, ho => by
    have : i = l.length := by omega
    rw [runE]
    refine ⟨by omega, mp, hsn, ?_⟩
    rw [L_tinfo_reader_extended_4, this, not_lt_self, cond_false]
  | c + 1, m + 1, i, mp, out, e1, e2, hsn, ho => by
    have hlen := hb.len
    have hoff : inJ (eo + 2 * (out.length : Int)) = true := inJ_t (by omega) (by omega)
    have hI : inJ ((i : Int) + 1) = true := inJ_t (by omega) (by omega)
    have hr : ∀ x : ExtT, room ((out.length + ([x] : List ExtT).length) * 56) = true := fun x => room_t (by simp; omega)
    have hrng := sh_rng hb (eo + 2 * (out.length : Int))
    have hx0 : L_tinfo_reader_extended_4 k (m + 1) beh kind t130 t131 l l.length i b a w p0 p1 p2 p3 eo ta (ta + size) p7 p8 p9 p10 size mp out = (match nmStep (tbl b ta size) b eo beh kind l i out with
        | .inl off => some (Sum.inr ((off, 33), (b, (a, w))))
        | .inr out' => L_tinfo_reader_extended_4 k m beh kind t130 t131 l l.length ((i : Int) + 1) b a w p0 p1 p2 p3 eo ta (ta + size) p7 p8 p9 p10 size (sput mp ((out'.getLast?.map (·.2.1)).getD []) 1) out') := by
      rw [L_tinfo_reader_extended_4, inI_J, lt_t (show (i : Int) < (l.length : Int) by omega), inL_t (i := (i : Int)) (n := l.length) (by omega) (by omega), inJ_t (x := 2 * (out.length : Int)) (by omega) (by omega), hoff]
      simp only [cond_true]
      rw [short_ok hb k (a := eo + 2 * (out.length : Int)) (by omega) (by omega)]
      simp only [Option.bind_some]
      unfold nmStep
      generalize sh b (eo + 2 * (out.length : Int)) = x0 at hrng
      cases hd : decide (x0 < 0) with
      | true => simp only [cond_true, F_tinfo_give, Option.bind_some]
      | false =>
        have hd := of_decide_eq_false hd
        simp only [cond_false, inJ_t (x := beh + x0) (by omega) (by omega), cond_true]
        rw [text_ok hb k (from_ := beh + x0) (eo + 2 * (out.length : Int)) a w h0 h1 h2 (by omega) (by omega)]
        cases ht : txAt (tbl b ta size) (beh + x0) with
        | none => simp only [Option.bind_some, either]
        | some x =>
          simp only [Option.bind_some, either]
          rw [place_ok (by omega)]
          have hsx := hsn x
          have hrs : inJ (sget 0 mp x + 1) = true := by
            rw [hsx]
            cases out.any (fun e => e.2.1 == x) <;> exact inJ_t (by decide) (by decide)
          simp only [Option.bind_some, hrs, cond_true]
          rw [sget_sput, BEq.rfl, cond_true]
          unfold okName
          cases x == [] with
          | true => simp only [cond_true, cond_false, Option.bind_some, F_tinfo_give, Bool.not_true, Bool.false_and, Bool.and_false]
          | false =>
            cases hany : out.any (fun e => e.2.1 == x) with
            | true =>
              rw [hany] at hsx
              rw [hsx]
              simp only [cond_true, cond_false, Option.bind_some, F_tinfo_give, Bool.not_true, Bool.not_false, Bool.and_false, show decide ((1 : Int) + 1 > 1) = true from rfl]
            | false =>
              rw [hany] at hsx
              rw [hsx]
              cases (placeT x).2.2 with
              | true => simp only [cond_true, cond_false, Option.bind_some, F_tinfo_give, Bool.not_true, Bool.not_false, Bool.and_true, show decide ((0 : Int) + 1 > 1) = false from rfl]
              | false =>
                simp only [cond_true, cond_false, Option.bind_some, Bool.not_false, Bool.and_true, show decide ((0 : Int) + 1 > 1) = false from rfl, hr, hI, Int.toNat_natCast, List.getLast?_append, List.getLast?_singleton, Option.some_or, Option.map_some, Option.getD_some, Int.zero_add, show decide ((1 : Int) > 1) = false from rfl]
    rw [hx0, runE]
    cases hn : nmStep (tbl b ta size) b eo beh kind l i out with
    | inl off => rfl
    | inr out' =>
      have hlo := nmStep_len hn
      have hsn' : Seen (sput mp ((out'.getLast?.map (·.2.1)).getD []) 1) out' := by
        unfold nmStep at hn
        cases hd : decide (sh b (eo + 2 * (out.length : Int)) < 0) with
        | true => rw [hd] at hn; cases hn
        | false =>
          rw [hd, cond_false] at hn
          split at hn
          · cases hn
          · rename_i x hx
            cases hkk : okName out x with
            | false => rw [hkk] at hn; cases hn
            | true =>
              rw [hkk, cond_true] at hn
              injection hn with hn
              subst hn
              have hany : out.any (fun e => e.2.1 == x) = false := by
                unfold okName at hkk
                simp only [Bool.and_eq_true, Bool.not_eq_true'] at hkk
                exact hkk.2.2
              simp only [List.getLast?_append, List.getLast?_singleton, Option.some_or, Option.map_some, Option.getD_some]
              exact seen_put hsn hany
      have ih := ext4_at hk h0 h1 h2 hs heo hbh hbh' hbase hroom t130 t131 a w p0 p1 p2 p3 p7 p8 p9 p10 c m (i + 1) _ out' (by omega) (by omega) hsn' (by omega) (kind := kind)
      exact ih
theorem ext3_ok {k q : Nat} (hk : 1000 ≤ k) {ta size eo beh : Int} (h0 : 0 ≤ ta) (h1 : 0 ≤ size) (h2 : ta + size ≤ b.length) (hs : size ≤ 1000000) (heo : 0 ≤ eo) (hbh : 0 ≤ beh) (hbh' : beh ≤ 1000000) {l0 l1 l2 : List CapT} (hn : l0.length + l1.length + l2.length ≤ 300) (hroom : eo + 2 * ((l0.length + l1.length + l2.length : Nat) : Int) ≤ b.length) (a : Int) (w : Bool) (p0 p1 p2 p3 p7 p8 p9 p10 : Int) :
    L_tinfo_reader_extended_3 k (q + 1 + 1 + 1 + 1) beh (l0, (l1, l2)) 0 b a w p0 p1 p2 p3 eo ta (ta + size) p7 p8 p9 p10 size [] [] = some (match nm3 (tbl b ta size) b eo beh l0 l1 l2 with | .inl off => Sum.inr ((off, 33), (b, (a, w))) | .inr out => Sum.inl ((b, (a, w)), out)) := by
  have i0 : inL 0 3 = true := rfl
  have i1 : inL 1 3 = true := rfl
  have i2 : inL 2 3 = true := rfl
  have j0 : inJ 1 = true := inJ_t (by decide) (by decide)
  have j1 : inJ 2 = true := inJ_t (by decide) (by decide)
  have j2 : inJ 3 = true := inJ_t (by decide) (by decide)
  have d0 : decide ((0 : Int) < 3) = true := rfl
  have d1 : decide ((1 : Int) < 3) = true := rfl
  have d2 : decide ((2 : Int) < 3) = true := rfl
  have d3 : decide ((3 : Int) < 3) = false := rfl
  have s0 := ext4_at hb hk h0 h1 h2 hs heo hbh hbh' (l := l0) (base := 0) (by omega) (by omega) (l0, (l1, l2)) 0 a w p0 p1 p2 p3 p7 p8 p9 p10 l0.length k 0 [] [] (by omega) (by omega) (fun _ => rfl) rfl (kind := 0)
  unfold nm3
  rw [L_tinfo_reader_extended_3, inI_J, d0, i0]
  simp only [cond_true, show ([l0, l1, l2] : List (List CapT)).getD (Int.toNat 0) [] = l0 from rfl]
  cases hr0 : runE (nmStep (tbl b ta size) b eo beh 0 l0) l0.length 0 [] with
  | inl off =>
    rw [hr0] at s0
    have s0 : L_tinfo_reader_extended_4 k k beh 0 (l0, (l1, l2)) 0 l0 l0.length 0 b a w p0 p1 p2 p3 eo ta (ta + size) p7 p8 p9 p10 size [] [] = _ := s0
    rw [s0]
    simp only [Option.bind_some, either]
  | inr out0 =>
    rw [hr0] at s0
    obtain ⟨n0, mp0, hsn0, s0⟩ := s0
    have s0 : L_tinfo_reader_extended_4 k k beh 0 (l0, (l1, l2)) 0 l0 l0.length 0 b a w p0 p1 p2 p3 eo ta (ta + size) p7 p8 p9 p10 size [] [] = _ := s0
    rw [s0]
    simp only [Option.bind_some, either, show (0 : Int) + 1 = 1 from rfl, j0, cond_true]
    have s1 := ext4_at hb hk h0 h1 h2 hs heo hbh hbh' (l := l1) (base := l0.length) (by omega) (by omega) (l0, (l1, l2)) 1 a w p0 p1 p2 p3 p7 p8 p9 p10 l1.length k 0 mp0 out0 (by omega) (by omega) hsn0 (by omega) (kind := 1)
    rw [L_tinfo_reader_extended_3, inI_J, d1, i1]
    simp only [cond_true, show ([l0, l1, l2] : List (List CapT)).getD (Int.toNat 1) [] = l1 from rfl]
    cases hr1 : runE (nmStep (tbl b ta size) b eo beh 1 l1) l1.length 0 out0 with
    | inl off =>
      rw [hr1] at s1
      have s1 : L_tinfo_reader_extended_4 k k beh 1 (l0, (l1, l2)) 1 l1 l1.length 0 b a w p0 p1 p2 p3 eo ta (ta + size) p7 p8 p9 p10 size mp0 out0 = _ := s1
      rw [s1]
      simp only [Option.bind_some, either]
    | inr out1 =>
      rw [hr1] at s1
      obtain ⟨n1, mp1, hsn1, s1⟩ := s1
      have s1 : L_tinfo_reader_extended_4 k k beh 1 (l0, (l1, l2)) 1 l1 l1.length 0 b a w p0 p1 p2 p3 eo ta (ta + size) p7 p8 p9 p10 size mp0 out0 = _ := s1
      rw [s1]
      simp only [Option.bind_some, either, show (1 : Int) + 1 = 2 from rfl, j1, cond_true]
      have s2 := ext4_at hb hk h0 h1 h2 hs heo hbh hbh' (l := l2) (base := l0.length + l1.length) (by omega) (by omega) (l0, (l1, l2)) 2 a w p0 p1 p2 p3 p7 p8 p9 p10 l2.length k 0 mp1 out1 (by omega) (by omega) hsn1 (by omega) (kind := 2)
      rw [L_tinfo_reader_extended_3, inI_J, d2, i2]
      simp only [cond_true, show ([l0, l1, l2] : List (List CapT)).getD (Int.toNat 2) [] = l2 from rfl]
      cases hr2 : runE (nmStep (tbl b ta size) b eo beh 2 l2) l2.length 0 out1 with
      | inl off =>
        rw [hr2] at s2
        have s2 : L_tinfo_reader_extended_4 k k beh 2 (l0, (l1, l2)) 2 l2 l2.length 0 b a w p0 p1 p2 p3 eo ta (ta + size) p7 p8 p9 p10 size mp1 out1 = _ := s2
        rw [s2]
        simp only [Option.bind_some, either]
      | inr out2 =>
        rw [hr2] at s2
        obtain ⟨n2, mp2, hsn2, s2⟩ := s2
        have s2 : L_tinfo_reader_extended_4 k k beh 2 (l0, (l1, l2)) 2 l2 l2.length 0 b a w p0 p1 p2 p3 eo ta (ta + size) p7 p8 p9 p10 size mp1 out1 = _ := s2
        rw [s2]
        simp only [Option.bind_some, either, show (2 : Int) + 1 = 3 from rfl, j2, cond_true]
        rw [L_tinfo_reader_extended_3, d3, cond_false]
theorem second4_bad (k m : Nat) (no end_ kd i a e bad : Int) (T : Str) (w : Bool) (out : List ExtT) {ls : List (List CapT)} (hkd : inL kd ls.length = true) (he : e ≠ 0) : L_lanyardref03_reader_second_4 k (m + 1) no T end_ out kd i b a e bad w ls = some (no, (T, (end_, (out, (kd, ((b, (a, (e, (bad, w)))), ls)))))) := by
  have h0 : (e == 0) = false := by simpa using he
  rw [L_lanyardref03_reader_second_4, hkd]
  simp only [cond_true, h0]
  cases decide (i < ((ls.getD (Int.toNat kd) []).length : Int)) <;> simp only [cond_true, cond_false, Option.bind_some]
theorem second4_at {k : Nat} (hk : 1000 ≤ k) {T : Str} (hT : (T.length : Int) ≤ 1000000) {no beh kd : Int} (hno : 0 ≤ no) (hbh : 0 ≤ beh) (hbh' : beh ≤ (T.length : Int)) {l : List CapT} {ls : List (List CapT)} (hkd : inL kd ls.length = true) (hl : ls.getD (Int.toNat kd) [] = l) {base : Nat} (hbase : base + l.length ≤ 300) (hroom : no + 2 * ((base + l.length : Nat) : Int) ≤ b.length) (a bad : Int) (w : Bool) :
    ∀ (c m i : Nat) (out : List ExtT), i + c = l.length → c + 1 < m → out.length = base + i →
    (match runE (nmStep T b no beh kd l) c i out with
      | .inl off => ∃ g, L_lanyardref03_reader_second_4 k m no T beh out kd i b a 0 bad w ls = some (no, (T, (beh, (g, (kd, ((b, (a, (33, (off, w)))), ls))))))
      | .inr out' => out'.length = base + l.length ∧ L_lanyardref03_reader_second_4 k m no T beh out kd i b a 0 bad w ls = some (no, (T, (beh, (out', (kd, ((b, (a, (0, (bad, w)))), ls)))))))
  | 0, m + 1, i, out, e1, _, ho => by
    have : i = l.length := by omega
    rw [runE]
    refine ⟨by omega, ?_⟩
    rw [L_lanyardref03_reader_second_4, hkd, hl, this, not_lt_self]
    simp only [cond_true, cond_false, Option.bind_some]
  | c + 1, m + 1, i, out, e1, e2, ho => by
    have hlen := hb.len
    have hoff : inJ (no + 2 * (out.length : Int)) = true := inJ_t (by omega) (by omega)
    have hI : inJ ((i : Int) + 1) = true := inJ_t (by omega) (by omega)
    have hr : ∀ x : ExtT, room ((out.length + ([x] : List ExtT).length) * 56) = true := fun x => room_t (by simp; omega)
    have hrng := sh_rng hb (no + 2 * (out.length : Int))
    have hiL : inL (i : Int) l.length = true := inL_t (by omega) (by omega)
    have hmin : (bif decide ((T.length : Int) < beh) then (T.length : Int) else beh) = beh := by rw [lt_f (show ¬ (T.length : Int) < beh by omega), cond_false]
    have hinR : inR beh (T.length : Int) T.length = true := inR_t hbh hbh' (Int.le_refl _)
    have hend : ∀ (x : Str) (out : List ExtT) (off : Int), L_lanyardref03_reader_second_4 k m no T beh out kd ((i : Int) + 1) b a 33 off w ls = some (no, (T, (beh, (out, (kd, ((b, (a, (33, (off, w)))), ls)))))) := fun x out off => by
      obtain ⟨m', rfl⟩ : ∃ m', m = m' + 1 := ⟨m - 1, by omega⟩
      exact second4_bad hb k m' no beh kd _ a 33 off T w out hkd (by decide)
    have hx0 : (match nmStep T b no beh kd l i out with
        | .inl off => ∃ g, L_lanyardref03_reader_second_4 k (m + 1) no T beh out kd i b a 0 bad w ls = some (no, (T, (beh, (g, (kd, ((b, (a, (33, (off, w)))), ls))))))
        | .inr out' => L_lanyardref03_reader_second_4 k (m + 1) no T beh out kd i b a 0 bad w ls = L_lanyardref03_reader_second_4 k m no T beh out' kd ((i : Int) + 1) b a 0 bad w ls) := by
      have e : L_lanyardref03_reader_second_4 k (m + 1) no T beh out kd i b a 0 bad w ls = (match nmStep T b no beh kd l i out with
        | .inl off => L_lanyardref03_reader_second_4 k m no T beh (out ++ [(kd, ((bif decide (sh b (no + 2 * (out.length : Int)) < 0) then [] else (txAt T (beh + sh b (no + 2 * (out.length : Int)))).getD []), l.getD i (0, (0, []))))]) kd ((i : Int) + 1) b a 33 off w ls
        | .inr out' => L_lanyardref03_reader_second_4 k m no T beh out' kd ((i : Int) + 1) b a 0 bad w ls) := by
        rw [L_lanyardref03_reader_second_4, inI_J, hkd, hl, lt_t (show (i : Int) < (l.length : Int) by omega)]
        simp only [cond_true, Option.bind_some, BEq.rfl, inJ_t (x := 2 * (out.length : Int)) (by omega) (by omega), hoff, hmin, hinR]
        rw [peek_ok hb k (a := no + 2 * (out.length : Int)) (by omega) (by omega), cut_to_end]
        simp only [Option.bind_some]
        unfold nmStep
        generalize sh b (no + 2 * (out.length : Int)) = x0 at hrng
        have hfail : F_lanyardref03_reader_fail k 33 (no + 2 * (out.length : Int)) b a 0 bad w = some (b, (a, (33, (no + 2 * (out.length : Int), w)))) := rfl
        by_cases hd : x0 < 0
        · rw [decide_eq_true hd, decide_eq_false (show ¬ x0 ≥ 0 by omega)]
          simp only [cond_false, cond_true, Option.bind_some, Bool.not_false, hfail, hkd, hl, hiL, hr, hI, Int.toNat_natCast]
        · rw [decide_eq_false hd, decide_eq_true (show x0 ≥ 0 by omega)]
          simp only [cond_false, cond_true]
          rw [rtext_ok hb k (by rw [List.length_drop]; omega) (by omega), txAt_drop hbh hbh' (by omega)]
          cases ht : txAt T (beh + x0) with
          | none => simp only [cond_false, cond_true, Option.bind_some, Bool.not_false, hfail, hkd, hl, hiL, hr, hI, Int.toNat_natCast, Option.getD_none]
          | some x =>
            have hnul := txAt_nul ht
            simp only [cond_false, cond_true, Option.bind_some, Bool.not_true]
            rw [named_ok hb hk (by omega) hnul]
            cases okName out x with
            | true => simp only [cond_false, cond_true, Option.bind_some, Bool.not_true, hkd, hl, hiL, hr, hI, Int.toNat_natCast]
            | false => simp only [cond_false, cond_true, Option.bind_some, Bool.not_false, hfail, hkd, hl, hiL, hr, hI, Int.toNat_natCast, Option.getD_some]
      rw [e]
      cases hn : nmStep T b no beh kd l i out with
      | inl off =>
        simp only
        rw [hend []]
        exact ⟨_, rfl⟩
      | inr out' => rfl
    rw [runE]
    cases hn : nmStep T b no beh kd l i out with
    | inl off =>
      rw [hn] at hx0
      exact hx0
    | inr out' =>
      rw [hn] at hx0
      have hlo := nmStep_len hn
      have ih := second4_at hk hT hno hbh hbh' hkd hl hbase hroom a bad w c m (i + 1) out' (by omega) (by omega) (by omega)
      simp only
      rw [show L_lanyardref03_reader_second_4 k (m + 1) no T beh out kd i b a 0 bad w ls = L_lanyardref03_reader_second_4 k m no T beh out' kd ((i + 1 : Nat) : Int) b a 0 bad w ls from hx0]
      exact ih
end
end Go.Proofs.YtjobkhfmoammdaaGreatDoor
set_option linter.unusedVariables false
set_option linter.unusedSimpArgs false
set_option linter.unusedSectionVars false
set_option maxRecDepth 100000
namespace Go.Proofs.YtjobkhfmoammdaaGreatDoor
open Go.RowKit Go.Av Go.Proofs
section
variable {b : List Int} (hb : BOk b)
include hb
theorem second3_bstep {k : Nat} (hk : 1000 ≤ k) (m : Nat) (no end_ a e bad : Int) (T : Str) (w : Bool) (out : List ExtT) (l0 l1 l2 : List CapT) {kd : Nat} (hkd : kd < 3) (he : e ≠ 0) : L_lanyardref03_reader_second_3 k (m + 1) no T end_ out kd b a e bad w [l0, l1, l2] = L_lanyardref03_reader_second_3 k m no T end_ out ((kd : Int) + 1) b a e bad w [l0, l1, l2] := by
  obtain ⟨k', rfl⟩ : ∃ k', k = k' + 1 := ⟨k - 1, by omega⟩
  rw [L_lanyardref03_reader_second_3, inI_J, lt_t (show (kd : Int) < 3 by omega), cond_true, second4_bad hb (k' + 1) k' no end_ kd 0 a e bad T w out (ls := [l0, l1, l2]) (inL_t (by omega) (by show (kd : Int) < ((3 : Nat) : Int); omega)) he]
  simp only [Option.bind_some, inJ_t (x := (kd : Int) + 1) (by omega) (by omega), cond_true]
theorem second3_end (k m : Nat) (no end_ a e bad : Int) (T : Str) (w : Bool) (out : List ExtT) (ls : List (List CapT)) : L_lanyardref03_reader_second_3 k (m + 1) no T end_ out 3 b a e bad w ls = some (out, (b, (a, (e, (bad, w))))) := by
  rw [L_lanyardref03_reader_second_3, show decide ((3 : Int) < 3) = false from rfl, cond_false]
theorem second3_step {k : Nat} (m : Nat) (no end_ a bad : Int) (T : Str) (w : Bool) (out out' : List ExtT) (l0 l1 l2 : List CapT) {kd e bad' : Int} (hkd : kd < 3) (h0 : 0 ≤ kd) (h : L_lanyardref03_reader_second_4 k k no T end_ out kd 0 b a 0 bad w [l0, l1, l2] = some (no, (T, (end_, (out', (kd, ((b, (a, (e, (bad', w)))), [l0, l1, l2]))))))) : L_lanyardref03_reader_second_3 k (m + 1) no T end_ out kd b a 0 bad w [l0, l1, l2] = L_lanyardref03_reader_second_3 k m no T end_ out' (kd + 1) b a e bad' w [l0, l1, l2] := by
  rw [L_lanyardref03_reader_second_3, inI_J, lt_t (show kd < 3 by omega), cond_true, h]
  simp only [Option.bind_some, inJ_t (x := kd + 1) (by omega) (by omega), cond_true]
theorem second3_ok {k q : Nat} (hk : 1000 ≤ k) {T : Str} (hT : (T.length : Int) ≤ 1000000) {no beh : Int} (hno : 0 ≤ no) (hbh : 0 ≤ beh) (hbh' : beh ≤ (T.length : Int)) {l0 l1 l2 : List CapT} (hn : l0.length + l1.length + l2.length ≤ 300) (hroom : no + 2 * ((l0.length + l1.length + l2.length : Nat) : Int) ≤ b.length) (a bad : Int) (w : Bool) :
    (match nm3 T b no beh l0 l1 l2 with
      | .inl off => ∃ g, L_lanyardref03_reader_second_3 k (q + 1 + 1 + 1 + 1) no T beh [] 0 b a 0 bad w [l0, l1, l2] = some (g, (b, (a, (33, (off, w)))))
      | .inr out => out.length = l0.length + l1.length + l2.length ∧ L_lanyardref03_reader_second_3 k (q + 1 + 1 + 1 + 1) no T beh [] 0 b a 0 bad w [l0, l1, l2] = some (out, (b, (a, (0, (bad, w)))))) := by
  have b1 := fun (m : Nat) (off : Int) out => second3_bstep hb hk m no beh a 33 off T w out l0 l1 l2 (kd := 1) (by omega) (by decide)
  have b2 := fun (m : Nat) (off : Int) out => second3_bstep hb hk m no beh a 33 off T w out l0 l1 l2 (kd := 2) (by omega) (by decide)
  have s0 := second4_at hb hk hT hno hbh hbh' (kd := 0) (l := l0) (ls := [l0, l1, l2]) rfl rfl (base := 0) (by omega) (by omega) a bad w l0.length k 0 [] (by omega) (by omega) rfl
  unfold nm3
  cases hr0 : runE (nmStep T b no beh 0 l0) l0.length 0 [] with
  | inl off =>
    rw [hr0] at s0
    obtain ⟨g, s0⟩ := s0
    refine ⟨g, ?_⟩
    rw [second3_step hb _ no _ a bad T w [] g l0 l1 l2 (by decide) (by decide) s0]
    exact (b1 _ off g).trans ((b2 _ off g).trans (second3_end hb k q no beh a 33 off T w g _))
  | inr out0 =>
    rw [hr0] at s0
    obtain ⟨n0, s0⟩ := s0
    have s1 := second4_at hb hk hT hno hbh hbh' (kd := 1) (l := l1) (ls := [l0, l1, l2]) rfl rfl (base := l0.length) (by omega) (by omega) a bad w l1.length k 0 out0 (by omega) (by omega) (by omega)
    simp only
    rw [second3_step hb _ no _ a bad T w [] out0 l0 l1 l2 (by decide) (by decide) s0, show (0 : Int) + 1 = 1 from rfl]
    cases hr1 : runE (nmStep T b no beh 1 l1) l1.length 0 out0 with
    | inl off =>
      rw [hr1] at s1
      obtain ⟨g, s1⟩ := s1
      refine ⟨g, ?_⟩
      rw [second3_step hb _ no _ a bad T w out0 g l0 l1 l2 (by decide) (by decide) s1]
      exact (b2 _ off g).trans (second3_end hb k q no beh a 33 off T w g _)
    | inr out1 =>
      rw [hr1] at s1
      obtain ⟨n1, s1⟩ := s1
      have s2 := second4_at hb hk hT hno hbh hbh' (kd := 2) (l := l2) (ls := [l0, l1, l2]) rfl rfl (base := l0.length + l1.length) (by omega) (by omega) a bad w l2.length k 0 out1 (by omega) (by omega) (by omega)
      simp only
      rw [second3_step hb _ no _ a bad T w out0 out1 l0 l1 l2 (by decide) (by decide) s1, show (1 : Int) + 1 = 2 from rfl]
      cases hr2 : runE (nmStep T b no beh 2 l2) l2.length 0 out1 with
      | inl off =>
        rw [hr2] at s2
        obtain ⟨g, s2⟩ := s2
        refine ⟨g, ?_⟩
        rw [second3_step hb _ no _ a bad T w out1 g l0 l1 l2 (by decide) (by decide) s2]
        exact second3_end hb k q no beh a 33 off T w g _
      | inr out2 =>
        rw [hr2] at s2
        obtain ⟨n2, s2⟩ := s2
        refine ⟨by omega, ?_⟩
        rw [second3_step hb _ no _ a bad T w out1 out2 l0 l1 l2 (by decide) (by decide) s2]
        exact second3_end hb k q no beh a 0 bad T w out2 _
theorem flagsS_len (o : Int) (n : Nat) : (flagsS b o n).length = n := by simp [flagsS]
theorem numsS_len (w : Bool) (o : Int) (n : Nat) : (numsS w b o n).length = n := by simp [numsS]
/-- What either makes of the second part. -/
structure Ext (k : Nat) (b : List Int) (o bad : Int) (w : Bool) (r : (Int × Int) ⊕ (List ExtT × Int)) : Prop where
  bad_ : ∀ at_ e, r = .inl (at_, e) → e ≠ 0 ∧ 0 ≤ at_ ∧ at_ ≤ b.length ∧ (∃ a', F_tinfo_reader_extended k b o w = some (Sum.inr ((at_, e), (b, (a', w))))) ∧ ∃ g a', F_lanyardref03_reader_second k b o 0 bad w = some (g, (b, (a', (e, (at_, w)))))
  ok_ : ∀ out en, r = .inr (out, en) → out.length ≤ 256 ∧ 0 ≤ en ∧ en ≤ b.length ∧ F_tinfo_reader_extended k b o w = some (bif decide (en < (b.length : Int)) then Sum.inr ((en, 34), (b, (en, w))) else Sum.inl (out, (b, (en, w)))) ∧ F_lanyardref03_reader_second k b o 0 bad w = some (out, (b, (en, (0, (bad, w)))))
theorem ext_bad {k : Nat} {o bad at_ e : Int} {w : Bool} (he : e ≠ 0) (h0 : 0 ≤ at_) (h1 : at_ ≤ b.length) (h2 : ∃ a', F_tinfo_reader_extended k b o w = some (Sum.inr ((at_, e), (b, (a', w))))) (h3 : ∃ g a', F_lanyardref03_reader_second k b o 0 bad w = some (g, (b, (a', (e, (at_, w)))))) : ∃ r, Ext k b o bad w r :=
  ⟨.inl (at_, e), fun a' e' h => by injection h with h; injection h with e1 e2; subst e1; subst e2; exact ⟨he, h0, h1, h2, h3⟩, fun _ _ h => by cases h⟩
/-- The program's, where the counts may be. -/
theorem ext_prog {k : Nat} (hk : 1000 ≤ k) {o : Int} {w : Bool} (ho : 0 ≤ o) (h10 : o + 10 ≤ b.length) (hfb : fbad (bad2 b o) 5 0 = none) {m0 m1 m2 m4 : Nat} (e0 : sh b o = m0) (e1 : sh b (o + 2) = m1) (e2 : sh b (o + 4) = m2) (e4 : sh b (o + 8) = m4) (hs : m0 + m1 + m2 ≤ 256) (h4 : m4 ≤ 32767)
    {no to_ eo ta : Int} (q1 : no = o + 10 + m0 + (o + 10 + m0) % 2) (q2 : to_ = no + m1 * sz w) (q3 : eo = to_ + m2 * 2) (q4 : ta = eo + ((m0 + m1 + m2 : Nat) : Int) * 2) :
    F_tinfo_reader_extended k b o w = (bif decide (ta + m4 > (b.length : Int)) then (some (Sum.inr (((b.length : Int), (31 : Int)), (b, (o + 10, w)))) : Option ((List ExtT × List Int × Int × Bool) ⊕ ((Int × Int) × List Int × Int × Bool))) else
      bif sh b (o + 6) != ((m0 + m1 + m2 : Nat) : Int) + thrN b to_ m2 0 then some (Sum.inr ((o + 6, 32), (b, (ta + m4, w)))) else
      match runE (txStep (tbl b ta m4) b to_) m2 0 (-1, (0, [])) with
      | .inl i => some (Sum.inr ((to_ + (i : Int) * 2, 33), (b, (ta + m4, w))))
      | .inr s => match nm3 (tbl b ta m4) b eo s.2.1 (flagsS b (o + 10) m0) (numsS w b no m1) s.2.2 with
        | .inl off => some (Sum.inr ((off, 33), (b, (ta + m4, w))))
        | .inr out => some (bif decide (ta + m4 < (b.length : Int)) then Sum.inr ((ta + m4, 34), (b, (ta + m4, w))) else Sum.inl (out, (b, (ta + m4, w))))) := by
  have hlen := hb.len
  have hsz := sz_le w
  have hm0 : 0 ≤ (m1 : Int) * sz w := Int.mul_nonneg (by omega) (by omega)
  have hm1 : (m1 : Int) * sz w ≤ 400000 := by
    have : (m1 : Int) * sz w ≤ 100000 * sz w := Int.mul_le_mul_of_nonneg_right (by omega) (by omega)
    omega
  have h3s : sum3 b o = ((m0 + m1 + m2 : Nat) : Int) := by unfold sum3; omega
  have hx := ext1_at hb ho h10 k o w 5 k 0 rfl (by omega)
  rw [hfb, h3s] at hx
  have hx : L_tinfo_reader_extended_1 k k o 0 0 b o w = _ := hx
  unfold F_tinfo_reader_extended
  rw [inI_J, tneed_ok hb k ho (by omega) w, decide_eq_false (show ¬ (10 : Int) > (b.length : Int) - o by omega)]
  simp only [cond_false, Option.bind_some, either]
  rw [hx]
  simp only [Option.bind_some, inJ_t (x := o + 10) (by omega) (by omega), cond_true]
  rw [short_ok hb k (a := o) ho (by omega), e0]
  simp only [Option.bind_some, inJ_t (x := o + 2) (by omega) (by omega), cond_true]
  rw [short_ok hb k (a := o + 2) (by omega) (by omega), e1]
  simp only [Option.bind_some, inJ_t (x := o + 4) (by omega) (by omega), cond_true]
  rw [short_ok hb k (a := o + 4) (by omega) (by omega), e2]
  simp only [Option.bind_some, inJ_t (x := o + 8) (by omega) (by omega), cond_true]
  rw [short_ok hb k (a := o + 8) (by omega) (by omega), e4]
  simp only [Option.bind_some]
  rw [lay_ok hb k (a := o + 10) (nf := m0) (nn := m1) (ns := m2) (ne := ((m0 + m1 + m2 : Nat) : Int)) (size := m4) (names := 0) (by omega) h10 (by omega) (by omega) (by omega) (by omega) (by omega) (by omega) (fo := o + 10) (by omega) q1 q2 q3 q4]
  by_cases hen : ta + m4 > (b.length : Int)
  · rw [decide_eq_true hen]; rfl
  · rw [decide_eq_false hen]
    simp only [cond_false, Option.bind_some]
    have h2 := ext2_at hb (k := k) (n := m2) (by omega) (o := o) (to_ := to_) (by omega) (by omega) (ta + m4) w (o + 10) (o + 10) no eo ta (ta + m4) m0 m1 ((m0 + m1 + m2 : Nat) : Int) m4 m2 k 0 ((m0 + m1 + m2 : Nat) : Int) (by omega) (by omega) (by omega) (by omega)
    have h2 : L_tinfo_reader_extended_2 k k o ((m0 + m1 + m2 : Nat) : Int) m2 0 b (ta + m4) w (o + 10) (o + 10) no to_ eo ta (ta + m4) m0 m1 m2 ((m0 + m1 + m2 : Nat) : Int) m4 = _ := h2
    rw [h2]
    simp only [Option.bind_some, inJ_t (x := o + 6) (by omega) (by omega), cond_true]
    rw [short_ok hb k (a := o + 6) (by omega) (by omega)]
    simp only [Option.bind_some]
    cases hne : sh b (o + 6) != ((m0 + m1 + m2 : Nat) : Int) + thrN b to_ m2 0 with
    | true => simp only [cond_true, F_tinfo_give, Option.bind_some]
    | false =>
      simp only [cond_false]
      rw [flag_ok hb (k := k) (n := m0) (by omega) (by omega) (o := o + 10) (by omega) (by omega)]
      simp only [Option.bind_some]
      rw [number_list_ok hb (k := k) (n := m1) (by omega) (by omega) (o := no) (by omega) (by omega)]
      simp only [Option.bind_some]
      have htl := text_list_ok hb (k := k) (n := m2) (by omega) (by omega) (ta := ta) (size := m4) (to_ := to_) (by omega) (by omega) (by omega) (by omega) (by omega) (ta + m4) w (o + 10) (o + 10) no eo m0 m1 ((m0 + m1 + m2 : Nat) : Int)
      rw [htl.1]
      cases hR : runE (txStep (tbl b ta m4) b to_) m2 0 (-1, (0, [])) with
      | inl i => simp only [Option.bind_some]
      | inr s =>
        obtain ⟨i1, i2, i3⟩ := htl.2 s hR
        have hTl := tab_len hb (ta := ta) (size := m4) (by omega) (by omega) (by omega)
        simp only [Option.bind_some]
        obtain ⟨q, hq⟩ : ∃ q, k = q + 1 + 1 + 1 + 1 := ⟨k - 4, by omega⟩
        have h3 := ext3_ok hb (k := k) (q := q) hk (ta := ta) (size := m4) (eo := eo) (beh := s.2.1) (by omega) (by omega) (by omega) (by omega) (by omega) i2 (by omega) (l0 := flagsS b (o + 10) m0) (l1 := numsS w b no m1) (l2 := s.2.2) (by rw [flagsS_len hb, numsS_len hb, i1]; omega) (by rw [flagsS_len hb, numsS_len hb, i1]; omega) (ta + m4) w (o + 10) (o + 10) no to_ m0 m1 m2 ((m0 + m1 + m2 : Nat) : Int)
        rw [← hq] at h3
        rw [h3]
        cases nm3 (tbl b ta m4) b eo s.2.1 (flagsS b (o + 10) m0) (numsS w b no m1) s.2.2 with
        | inl off => simp only [Option.bind_some]
        | inr out =>
          simp only [Option.bind_some, F_tinfo_give]
          cases decide (ta + m4 < (b.length : Int)) <;> rfl
end
end Go.Proofs.YtjobkhfmoammdaaGreatDoor
set_option linter.unusedVariables false
set_option linter.unusedSimpArgs false
set_option linter.unusedSectionVars false
set_option maxRecDepth 100000
namespace Go.Proofs.YtjobkhfmoammdaaGreatDoor
open Go.RowKit Go.Av Go.Proofs
theorem bind_id {α : Type} (o : Option α) : (o.bind fun z => some z) = o := by cases o <;> rfl
section
variable {b : List Int} (hb : BOk b)
include hb
theorem ref_end {k : Nat} (hk : 1000 ≤ k) {o bad : Int} {w : Bool} (ho : 0 ≤ o) (ho' : o ≤ b.length) (h10 : ¬ o + 10 ≤ b.length) : ∃ a', F_lanyardref03_reader_second k b o 0 bad w = some ([], (b, (a', (31, ((b.length : Int), w))))) := by
  obtain ⟨l, a', h⟩ := head_end hb (k := k) (by omega) ho ho' h10 bad w
  refine ⟨a', ?_⟩
  unfold F_lanyardref03_reader_second
  rw [h]
  rfl
/-- The reference's second part behind the counts. -/
noncomputable def refBody (k : Nat) (b : List Int) (o bad : Int) (w : Bool) (m0 m1 m2 m4 : Nat) : Option ((List ExtT) × (List Int) × Int × Int × Int × Bool) :=
  (F_lanyardref03_reader_flags k m0 b (o + 10) 0 bad w).bind fun z9 =>
  (F_lanyardref03_reader_even k z9.2.1 z9.2.2.1 z9.2.2.2.1 z9.2.2.2.2.1 z9.2.2.2.2.2).bind fun z10 =>
  (F_lanyardref03_reader_numbers k m1 z10.1 z10.2.1 z10.2.2.1 z10.2.2.2.1 z10.2.2.2.2).bind fun z11 =>
  (F_lanyardref03_reader_skip k (2 * (m2 : Int)) z11.2.1 z11.2.2.1 z11.2.2.2.1 z11.2.2.2.2.1 z11.2.2.2.2.2).bind fun z12 =>
  (F_lanyardref03_reader_skip k (2 * ((m0 + m1 + m2 : Nat) : Int)) z12.2.1 z12.2.2.1 z12.2.2.2.1 z12.2.2.2.2.1 z12.2.2.2.2.2).bind fun z13 =>
  (F_lanyardref03_reader_skip k m4 z13.2.1 z13.2.2.1 z13.2.2.2.1 z13.2.2.2.2.1 z13.2.2.2.2.2).bind fun z14 =>
  bif z14.2.2.2.1 != 0 then some ([], z14.2) else
  (L_lanyardref03_reader_second_2 k k (cnt5 b o) o ((m0 + m1 + m2 : Nat) : Int) z9.1 z11.1 z12.1 z13.1 z14.1 0 0 z14.2.1 z14.2.2.1 z14.2.2.2.1 z14.2.2.2.2.1 z14.2.2.2.2.2).bind fun z19 =>
  bif inL 3 z19.1.length then
    bif inJ (z19.2.2.2.2.2.2.2.2.1 + z19.2.2.1) then
      bif (z19.1.getD (Int.toNat 3) 0) != (z19.2.2.2.2.2.2.2.2.1 + z19.2.2.1) then
        bif inJ (z19.2.1 + 6) then
          (F_lanyardref03_reader_fail k 32 (z19.2.1 + 6) z19.2.2.2.2.2.2.2.2.2.1 z19.2.2.2.2.2.2.2.2.2.2.1 z19.2.2.2.2.2.2.2.2.2.2.2.1 z19.2.2.2.2.2.2.2.2.2.2.2.2.1 z19.2.2.2.2.2.2.2.2.2.2.2.2.2).bind fun z20 =>
          some ([], z20)
        else none
      else
        bif inL 4 z19.1.length then
          bif inJ (z19.2.2.2.2.2.2.2.1 + (z19.1.getD (Int.toNat 4) 0)) then
            bif inR z19.2.2.2.2.2.2.2.1 (z19.2.2.2.2.2.2.2.1 + (z19.1.getD (Int.toNat 4) 0)) z19.2.2.2.2.2.2.2.2.2.1.length then
              bif inL 2 z19.1.length then
                (F_lanyardref03_reader_taken k (str (cut z19.2.2.2.2.2.2.2.2.2.1 z19.2.2.2.2.2.2.2.1 (z19.2.2.2.2.2.2.2.1 + (z19.1.getD (Int.toNat 4) 0)))) z19.2.2.2.2.2.1 (z19.1.getD (Int.toNat 2) 0) z19.2.2.2.2.2.2.2.2.2.1 z19.2.2.2.2.2.2.2.2.2.2.1 z19.2.2.2.2.2.2.2.2.2.2.2.1 z19.2.2.2.2.2.2.2.2.2.2.2.2.1 z19.2.2.2.2.2.2.2.2.2.2.2.2.2).bind fun z21 =>
                (L_lanyardref03_reader_second_3 k k z19.2.2.2.2.2.2.1 (str (cut z19.2.2.2.2.2.2.2.2.2.1 z19.2.2.2.2.2.2.2.1 (z19.2.2.2.2.2.2.2.1 + (z19.1.getD (Int.toNat 4) 0)))) z21.1.2 [] 0 z21.2.1 z21.2.2.1 z21.2.2.2.1 z21.2.2.2.2.1 z21.2.2.2.2.2 [z19.2.2.2.1, z19.2.2.2.2.1, z21.1.1]).bind fun z64 =>
                some z64
              else none
            else none
          else none
        else none
    else none
  else none
theorem ref_counts {k : Nat} (hk : 1000 ≤ k) {o bad : Int} {w : Bool} (ho : 0 ≤ o) (h10 : o + 10 ≤ b.length) {j : Nat} (hfb : fbad (bad2 b o) 5 0 = some j) : ∃ a', F_lanyardref03_reader_second k b o 0 bad w = some ([], (b, (a', (32, (o + 2 * (j : Int), w))))) := by
  have hlen := hb.len
  have h0 := sh_rng hb o
  have h1 := sh_rng hb (o + 2)
  have h2 := sh_rng hb (o + 4)
  have hs := rsecond1_at hb ho h10 k (o + 10) bad w 5 k 0 rfl (by omega)
  rw [hfb] at hs
  have hs : L_lanyardref03_reader_second_1 k k (cnt5 b o) o 0 b (o + 10) 0 bad w = _ := hs
  have g0 : (cnt5 b o).getD (Int.toNat 0) 0 = sh b o := rfl
  have g1 : (cnt5 b o).getD (Int.toNat 1) 0 = sh b (o + 2) := rfl
  have g2 : (cnt5 b o).getD (Int.toNat 2) 0 = sh b (o + 4) := rfl
  have L0 : inL 0 (cnt5 b o).length = true := rfl
  have L1 : inL 1 (cnt5 b o).length = true := rfl
  have L2 : inL 2 (cnt5 b o).length = true := rfl
  have L4 : inL 4 (cnt5 b o).length = true := rfl
  refine ⟨o + 10, ?_⟩
  unfold F_lanyardref03_reader_second
  rw [inI_J, head_ok hb (by omega) ho h10 bad w]
  simp only [Option.bind_some, show ((0 : Int) != 0) = false from rfl, cond_false]
  rw [hs]
  simp only [Option.bind_some, L0, L1, L2, L4, cond_true, g0, g1, g2, inJ_t (x := sh b o + sh b (o + 2)) (by omega) (by omega), inJ_t (x := sh b o + sh b (o + 2) + sh b (o + 4)) (by omega) (by omega), inJ_t (x := 2 * sh b (o + 4)) (by omega) (by omega), inJ_t (x := 2 * (sh b o + sh b (o + 2) + sh b (o + 4))) (by omega) (by omega)]
  rw [rflags_bad hb k _ _ 32 _ w (by decide)]
  simp only [Option.bind_some]
  rw [reven_bad hb k _ 32 _ w (by decide)]
  simp only [Option.bind_some]
  rw [rnumbers_bad hb k h1 _ 32 _ w (by decide)]
  simp only [Option.bind_some]
  rw [rskip_bad hb k _ _ 32 _ w (by decide)]
  simp only [Option.bind_some]
  rw [rskip_bad hb k _ _ 32 _ w (by decide)]
  simp only [Option.bind_some]
  rw [rskip_bad hb k _ _ 32 _ w (by decide)]
  simp only [Option.bind_some, show ((32 : Int) != 0) = true from rfl, cond_true]
theorem ref_body {k : Nat} (hk : 1000 ≤ k) {o bad : Int} {w : Bool} (ho : 0 ≤ o) (h10 : o + 10 ≤ b.length) (hfb : fbad (bad2 b o) 5 0 = none) {m0 m1 m2 m4 : Nat} (e0 : sh b o = m0) (e1 : sh b (o + 2) = m1) (e2 : sh b (o + 4) = m2) (e4 : sh b (o + 8) = m4) (hs : m0 + m1 + m2 ≤ 256) (h4 : m4 ≤ 32767) :
    F_lanyardref03_reader_second k b o 0 bad w = refBody k b o bad w m0 m1 m2 m4 := by
  have hlen := hb.len
  have hs' := rsecond1_at hb ho h10 k (o + 10) bad w 5 k 0 rfl (by omega)
  rw [hfb] at hs'
  have hs' : L_lanyardref03_reader_second_1 k k (cnt5 b o) o 0 b (o + 10) 0 bad w = _ := hs'
  have g0 : (cnt5 b o).getD (Int.toNat 0) 0 = sh b o := rfl
  have g1 : (cnt5 b o).getD (Int.toNat 1) 0 = sh b (o + 2) := rfl
  have g2 : (cnt5 b o).getD (Int.toNat 2) 0 = sh b (o + 4) := rfl
  have g4 : (cnt5 b o).getD (Int.toNat 4) 0 = sh b (o + 8) := rfl
  have L0 : inL 0 (cnt5 b o).length = true := rfl
  have L1 : inL 1 (cnt5 b o).length = true := rfl
  have L2 : inL 2 (cnt5 b o).length = true := rfl
  have L4 : inL 4 (cnt5 b o).length = true := rfl
  have esum : (m0 : Int) + (m1 : Int) + (m2 : Int) = ((m0 + m1 + m2 : Nat) : Int) := by omega
  unfold F_lanyardref03_reader_second
  rw [inI_J, head_ok hb (by omega) ho h10 bad w]
  simp only [Option.bind_some, show ((0 : Int) != 0) = false from rfl, cond_false]
  rw [hs']
  simp only [Option.bind_some, L0, L1, L2, L4, cond_true, g0, g1, g2, g4, e0, e1, e2, e4, inJ_t (x := (m0 : Int) + (m1 : Int)) (by omega) (by omega), esum, inJ_t (x := ((m0 + m1 + m2 : Nat) : Int)) (by omega) (by omega), inJ_t (x := 2 * (m2 : Int)) (by omega) (by omega), inJ_t (x := 2 * ((m0 + m1 + m2 : Nat) : Int)) (by omega) (by omega)]
  rfl
theorem ref_short {k : Nat} (hk : 1000 ≤ k) {o bad : Int} {w : Bool} (ho : 0 ≤ o) (h10 : o + 10 ≤ b.length) {m0 m1 m2 m4 : Nat} (hs : m0 + m1 + m2 ≤ 256) (h4 : m4 ≤ 32767) {no to_ eo ta : Int} (q1 : no = o + 10 + m0 + (o + 10 + m0) % 2) (q2 : to_ = no + m1 * sz w) (q3 : eo = to_ + m2 * 2) (q4 : ta = eo + ((m0 + m1 + m2 : Nat) : Int) * 2) (hen : ta + m4 > (b.length : Int)) :
    ∃ a', refBody k b o bad w m0 m1 m2 m4 = some ([], (b, (a', (31, ((b.length : Int), w))))) := by
  have hlen := hb.len
  have hsz := sz_le w
  have hm0 : 0 ≤ (m1 : Int) * sz w := Int.mul_nonneg (by omega) (by omega)
  have d31 : ((31 : Int) != 0) = true := rfl
  have fe := fun a => reven_bad hb k a 31 (b.length : Int) w (by decide)
  have fn := fun a => rnumbers_bad hb k (n := (m1 : Int)) (by omega) a 31 (b.length : Int) w (by decide)
  have fs := fun n a => rskip_bad hb k n a 31 (b.length : Int) w (by decide)
  unfold refBody
  rw [rflags_ok hb (n := m0) (by omega) (by omega) (a := o + 10) (by omega) (by omega) bad w]
  by_cases hA : (m0 : Int) > (b.length : Int) - (o + 10)
  · rw [decide_eq_true hA]
    simp only [cond_true, Option.bind_some, fe, fn, fs, d31]
    exact ⟨_, rfl⟩
  rw [decide_eq_false hA]
  simp only [cond_false, Option.bind_some]
  rw [reven_ok hb k (a := o + 10 + m0) (by omega) (by omega) bad w]
  by_cases hB : (o + 10 + (m0 : Int)) % 2 > (b.length : Int) - (o + 10 + m0)
  · rw [decide_eq_true hB]
    simp only [cond_true, Option.bind_some, fe, fn, fs, d31]
    exact ⟨_, rfl⟩
  rw [decide_eq_false hB]
  simp only [cond_false, Option.bind_some, ← q1]
  rw [rnumbers_ok hb (n := m1) (by omega) (by omega) (a := no) (by omega) (by omega) bad w]
  by_cases hC : (m1 : Int) * sz w > (b.length : Int) - no
  · rw [decide_eq_true hC]
    simp only [cond_true, Option.bind_some, fe, fn, fs, d31]
    exact ⟨_, rfl⟩
  rw [decide_eq_false hC]
  simp only [cond_false, Option.bind_some, ← q2]
  rw [rskip_ok hb k (n := 2 * (m2 : Int)) (a := to_) (by omega) (by omega) (by omega) bad w]
  by_cases hD : 2 * (m2 : Int) > (b.length : Int) - to_
  · rw [decide_eq_true hD]
    simp only [cond_true, Option.bind_some, fe, fn, fs, d31]
    exact ⟨_, rfl⟩
  rw [decide_eq_false hD]
  simp only [cond_false, Option.bind_some]
  rw [rskip_ok hb k (n := 2 * ((m0 + m1 + m2 : Nat) : Int)) (a := to_ + 2 * (m2 : Int)) (by omega) (by omega) (by omega) bad w]
  by_cases hE : 2 * ((m0 + m1 + m2 : Nat) : Int) > (b.length : Int) - (to_ + 2 * (m2 : Int))
  · rw [decide_eq_true hE]
    simp only [cond_true, Option.bind_some, fe, fn, fs, d31]
    exact ⟨_, rfl⟩
  rw [decide_eq_false hE]
  simp only [cond_false, Option.bind_some]
  rw [rskip_ok hb k (n := (m4 : Int)) (a := to_ + 2 * (m2 : Int) + 2 * ((m0 + m1 + m2 : Nat) : Int)) (by omega) (by omega) (by omega) bad w]
  rw [decide_eq_true (show (m4 : Int) > (b.length : Int) - (to_ + 2 * (m2 : Int) + 2 * ((m0 + m1 + m2 : Nat) : Int)) by omega)]
  simp only [cond_true, Option.bind_some, d31]
  exact ⟨_, rfl⟩
theorem ref_all {k : Nat} (hk : 1000 ≤ k) {o bad : Int} {w : Bool} (ho : 0 ≤ o) (h10 : o + 10 ≤ b.length) {m0 m1 m2 m4 : Nat} (e2 : sh b (o + 4) = m2) (e4 : sh b (o + 8) = m4) (hs : m0 + m1 + m2 ≤ 256) (h4 : m4 ≤ 32767) {no to_ eo ta : Int} (q1 : no = o + 10 + m0 + (o + 10 + m0) % 2) (q2 : to_ = no + m1 * sz w) (q3 : eo = to_ + m2 * 2) (q4 : ta = eo + ((m0 + m1 + m2 : Nat) : Int) * 2) (hen : ¬ ta + m4 > (b.length : Int)) :
    if (sh b (o + 6) != ((m0 + m1 + m2 : Nat) : Int) + thrN b to_ m2 0) = true then refBody k b o bad w m0 m1 m2 m4 = some ([], (b, (ta + m4, (32, (o + 6, w))))) else
      match runE (txStep (tbl b ta m4) b to_) m2 0 (-1, (0, [])) with
      | .inl i => ∃ g, refBody k b o bad w m0 m1 m2 m4 = some (g, (b, (ta + m4, (33, (to_ + (i : Int) * 2, w)))))
      | .inr s => match nm3 (tbl b ta m4) b eo s.2.1 (flagsS b (o + 10) m0) (numsS w b no m1) s.2.2 with
        | .inl off => ∃ g, refBody k b o bad w m0 m1 m2 m4 = some (g, (b, (ta + m4, (33, (off, w)))))
        | .inr out => out.length = m0 + m1 + m2 ∧ refBody k b o bad w m0 m1 m2 m4 = some (out, (b, (ta + m4, (0, (bad, w))))) := by
  have hlen := hb.len
  have hsz := sz_le w
  have hm0 : 0 ≤ (m1 : Int) * sz w := Int.mul_nonneg (by omega) (by omega)
  have g2 : (cnt5 b o).getD (Int.toNat 2) 0 = sh b (o + 4) := rfl
  have g3 : (cnt5 b o).getD (Int.toNat 3) 0 = sh b (o + 6) := rfl
  have g4 : (cnt5 b o).getD (Int.toNat 4) 0 = sh b (o + 8) := rfl
  have L2 : inL 2 (cnt5 b o).length = true := rfl
  have L3 : inL 3 (cnt5 b o).length = true := rfl
  have L4 : inL 4 (cnt5 b o).length = true := rfl
  have ht := thrN_rng b to_ m2 0
  have htl := tab_len hb (ta := ta) (size := m4) (by omega) (by omega) (by omega)
  have hbody : refBody k b o bad w m0 m1 m2 m4 = (bif sh b (o + 6) != ((m0 + m1 + m2 : Nat) : Int) + thrN b to_ m2 0 then some ([], (b, (ta + m4, (32, (o + 6, w))))) else
      (F_lanyardref03_reader_taken k (tbl b ta m4) to_ m2 b (ta + m4) 0 bad w).bind fun z21 =>
                L_lanyardref03_reader_second_3 k k eo (tbl b ta m4) z21.1.2 [] 0 z21.2.1 z21.2.2.1 z21.2.2.2.1 z21.2.2.2.2.1 z21.2.2.2.2.2 [flagsS b (o + 10) m0, numsS w b no m1, z21.1.1]) := by
    unfold refBody
    rw [rflags_ok hb (n := m0) (by omega) (by omega) (a := o + 10) (by omega) (by omega) bad w, decide_eq_false (show ¬ (m0 : Int) > (b.length : Int) - (o + 10) by omega)]
    simp only [cond_false, Option.bind_some]
    rw [reven_ok hb k (a := o + 10 + m0) (by omega) (by omega) bad w, decide_eq_false (show ¬ (o + 10 + (m0 : Int)) % 2 > (b.length : Int) - (o + 10 + m0) by omega)]
    simp only [cond_false, Option.bind_some, ← q1]
    rw [rnumbers_ok hb (n := m1) (by omega) (by omega) (a := no) (by omega) (by omega) bad w, decide_eq_false (show ¬ (m1 : Int) * sz w > (b.length : Int) - no by omega)]
    simp only [cond_false, Option.bind_some, ← q2]
    rw [rskip_ok hb k (n := 2 * (m2 : Int)) (a := to_) (by omega) (by omega) (by omega) bad w, decide_eq_false (show ¬ 2 * (m2 : Int) > (b.length : Int) - to_ by omega)]
    simp only [cond_false, Option.bind_some]
    rw [show to_ + 2 * (m2 : Int) = eo by omega, rskip_ok hb k (n := 2 * ((m0 + m1 + m2 : Nat) : Int)) (a := eo) (by omega) (by omega) (by omega) bad w, decide_eq_false (show ¬ 2 * ((m0 + m1 + m2 : Nat) : Int) > (b.length : Int) - eo by omega)]
    simp only [cond_false, Option.bind_some]
    rw [show eo + 2 * ((m0 + m1 + m2 : Nat) : Int) = ta by omega, rskip_ok hb k (n := (m4 : Int)) (a := ta) (by omega) (by omega) (by omega) bad w, decide_eq_false (show ¬ (m4 : Int) > (b.length : Int) - ta by omega)]
    simp only [cond_false, Option.bind_some, show ((0 : Int) != 0) = false from rfl]
    have h2 := rsecond2_at hb (k := k) (n := m2) (by omega) (o := o) (to_ := to_) e2 (by omega) (by omega) ((m0 + m1 + m2 : Nat) : Int) (flagsS b (o + 10) m0) (numsS w b no m1) eo ta (ta + m4) 0 bad w m2 k 0 0 (by omega) (by omega) (by omega) (by omega)
    have h2 : L_lanyardref03_reader_second_2 k k (cnt5 b o) o ((m0 + m1 + m2 : Nat) : Int) (flagsS b (o + 10) m0) (numsS w b no m1) to_ eo ta 0 0 b (ta + m4) 0 bad w = _ := h2
    rw [h2]
    simp only [Option.bind_some, L3, g3, L4, g4, L2, g2, e4, e2, cond_true, Int.zero_add, inJ_t (x := thrN b to_ m2 0 + ((m0 + m1 + m2 : Nat) : Int)) (by omega) (by omega), inJ_t (x := o + 6) (by omega) (by omega), inJ_t (x := ta + (m4 : Int)) (by omega) (by omega), inR_t (l := ta) (h := ta + (m4 : Int)) (n := b.length) (by omega) (by omega) (by omega)]
    rw [Int.add_comm (thrN b to_ m2 0)]
    cases sh b (o + 6) != ((m0 + m1 + m2 : Nat) : Int) + thrN b to_ m2 0 with
    | true => rfl
    | false =>
      simp only [cond_false]
      show _ = Option.bind _ _
      congr 1
      funext z
      exact bind_id _
  rw [hbody]
  cases hne : sh b (o + 6) != ((m0 + m1 + m2 : Nat) : Int) + thrN b to_ m2 0 with
  | true => rw [if_pos rfl]; rfl
  | false =>
    rw [if_neg (by decide), cond_false]
    have hto := taken_ok hb (k := k) (n := m2) (by omega) (by omega) (T := tbl b ta m4) (by omega) (to_ := to_) (by omega) (by omega) (ta + m4) bad w
    have htp := text_list_ok hb (k := k) (n := m2) (by omega) (by omega) (ta := ta) (size := m4) (to_ := to_) (by omega) (by omega) (by omega) (by omega) (by omega) (ta + m4) w 0 0 0 0 0 0 0
    obtain ⟨q, hq⟩ : ∃ q, k = q + 1 + 1 + 1 + 1 := ⟨k - 4, by omega⟩
    cases hR : runE (txStep (tbl b ta m4) b to_) m2 0 (-1, (0, [])) with
    | inl i =>
      rw [hR] at hto
      obtain ⟨g, hto⟩ := hto
      refine ⟨[], ?_⟩
      rw [hto, Option.bind_some]
      have b0 := second3_bstep hb hk (q + 1 + 1 + 1) eo g.2 (ta + m4) 33 (to_ + (i : Int) * 2) (tbl b ta m4) w [] (flagsS b (o + 10) m0) (numsS w b no m1) g.1 (kd := 0) (by omega) (by decide)
      have b1 := second3_bstep hb hk (q + 1 + 1) eo g.2 (ta + m4) 33 (to_ + (i : Int) * 2) (tbl b ta m4) w [] (flagsS b (o + 10) m0) (numsS w b no m1) g.1 (kd := 1) (by omega) (by decide)
      have b2 := second3_bstep hb hk (q + 1) eo g.2 (ta + m4) 33 (to_ + (i : Int) * 2) (tbl b ta m4) w [] (flagsS b (o + 10) m0) (numsS w b no m1) g.1 (kd := 2) (by omega) (by decide)
      have b3 := second3_end hb k q eo g.2 (ta + m4) 33 (to_ + (i : Int) * 2) (tbl b ta m4) w [] [flagsS b (o + 10) m0, numsS w b no m1, g.1]
      rw [← hq] at b0
      exact b0.trans (b1.trans (b2.trans b3))
    | inr s =>
      rw [hR] at hto
      obtain ⟨i1, i2, i3⟩ := htp.2 s hR
      simp only
      rw [hto, Option.bind_some]
      have h3 := second3_ok hb (k := k) (q := q) hk (T := tbl b ta m4) (by omega) (no := eo) (beh := s.2.1) (by omega) i2 (by omega) (l0 := flagsS b (o + 10) m0) (l1 := numsS w b no m1) (l2 := s.2.2) (by rw [flagsS_len hb, numsS_len hb, i1]; omega) (by rw [flagsS_len hb, numsS_len hb, i1]; omega) (ta + m4) bad w
      rw [← hq] at h3
      cases hN : nm3 (tbl b ta m4) b eo s.2.1 (flagsS b (o + 10) m0) (numsS w b no m1) s.2.2 with
      | inl off => rw [hN] at h3; exact h3
      | inr out =>
        rw [hN] at h3
        refine ⟨?_, h3.2⟩
        have := h3.1
        rw [flagsS_len hb, numsS_len hb, i1] at this
        exact this
end
end Go.Proofs.YtjobkhfmoammdaaGreatDoor
