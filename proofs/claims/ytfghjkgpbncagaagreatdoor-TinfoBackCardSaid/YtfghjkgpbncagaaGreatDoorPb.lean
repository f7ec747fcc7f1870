/- Joined texts: Pb. -/
import Derived.Test.YtfghjkgpbncagaaGreatDoorPa
set_option linter.unusedVariables false
set_option linter.unusedSimpArgs false
set_option linter.unusedSectionVars false
set_option maxRecDepth 100000
namespace Go.Proofs.YtfghjkgpbncagaaGreatDoor
open Go.RowKit Go.Av Go.Proofs
def thrN (b : List Int) (to_ : Int) : Nat → Nat → Int
  | 0, _ => 0
  | c + 1, i => (bif decide (sh b (to_ + 2 * (i : Int)) ≥ 0) then 1 else 0) + thrN b to_ c (i + 1)
theorem ib_take : ∀ (t : Str), 0 ≤ Lib.indexByte t 0 → Lib.indexByte (t.take (Lib.indexByte t 0).toNat) 0 = -1
  | [], h => by exact absurd h (by decide)
  | x :: r, h => by
    have ih := ib_take r
    have hg := Lib.indexByte_ge r 0
    have hE : ∀ l : Str, Lib.indexByte (x :: l) 0 = if x == 0 then 0 else if Lib.indexByte l 0 == -1 then -1 else Lib.indexByte l 0 + 1 := fun _ => rfl
    have hR := hE r
    cases hx : x == 0 with
    | true =>
      rw [hx, if_pos rfl] at hR
      rw [hR]
      rfl
    | false =>
      rw [hx, if_neg (by decide)] at hR
      cases hr : Lib.indexByte r 0 == -1 with
      | true =>
        rw [hr, if_pos rfl] at hR
        rw [hR] at h
        exact absurd h (by decide)
      | false =>
        rw [hr, if_neg (by decide)] at hR
        have h0 : 0 ≤ Lib.indexByte r 0 := by
          have : Lib.indexByte r 0 ≠ -1 := by simpa using hr
          omega
        have e : (Lib.indexByte r 0 + 1).toNat = (Lib.indexByte r 0).toNat + 1 := by omega
        rw [hR, e, List.take_succ_cons, hE, hx, if_neg (by decide), ih h0]
        rfl
theorem tx_nul {t s : Str} (h : tx t = some s) : Lib.indexByte s 0 = -1 := by
  unfold tx at h
  cases hc : decide (Lib.indexByte t 0 < 0) || decide (Lib.indexByte t 0 > 1000) with
  | true => rw [hc] at h; cases h
  | false =>
    rw [hc, cond_false] at h
    injection h with h
    simp only [Bool.or_eq_false_iff, decide_eq_false_iff_not] at hc
    subst h
    exact ib_take t (by omega)
theorem txAt_nul {T s : Str} {x : Int} (h : txAt T x = some s) : Lib.indexByte s 0 = -1 := by
  unfold txAt at h
  cases hc : decide (x > (T.length : Int)) with
  | true => rw [hc] at h; cases h
  | false => rw [hc, cond_false] at h; exact tx_nul h
def okName (out : List ExtT) (x : Str) : Bool := !(placeT x).2.2 && (!(x == []) && !(out.any fun e => e.2.1 == x))
def nmStep (T : Str) (b : List Int) (eo beh kind : Int) (l : List CapT) (i : Nat) (out : List ExtT) : Int ⊕ List ExtT :=
  bif decide (sh b (eo + 2 * (out.length : Int)) < 0) then .inl (eo + 2 * (out.length : Int)) else
    match txAt T (beh + sh b (eo + 2 * (out.length : Int))) with
    | none => .inl (eo + 2 * (out.length : Int))
    | some x => bif okName out x then .inr (out ++ [(kind, (x, l.getD i (0, (0, []))))]) else .inl (eo + 2 * (out.length : Int))
theorem nmStep_len {T : Str} {b : List Int} {eo beh kind : Int} {l : List CapT} {i : Nat} {out out' : List ExtT} (h : nmStep T b eo beh kind l i out = .inr out') : out'.length = out.length + 1 := by
  unfold nmStep at h
  cases hd : decide (sh b (eo + 2 * (out.length : Int)) < 0) with
  | true => rw [hd] at h; cases h
  | false =>
    rw [hd, cond_false] at h
    split at h
    · cases h
    · rename_i x hx
      cases hk : okName out x with
      | false => rw [hk] at h; cases h
      | true => rw [hk] at h; injection h with h; subst h; simp
theorem sget_sput (z : Int) : ∀ (m : List (Str × Int)) (x y : Str) (v : Int), sget z (sput m x v) y = bif x == y then v else sget z m y
  | [], x, y, v => rfl
  | p :: r, x, y, v => by
    rw [sput]
    cases hpx : p.1 == x with
    | true =>
      have : p.1 = x := eq_of_beq hpx
      rw [cond_true, sget, sget, this]
      cases x == y <;> rfl
    | false =>
      rw [cond_false, sget, sget_sput z r x y v, sget]
      cases hpy : p.1 == y with
      | false => rfl
      | true =>
        have : p.1 = y := eq_of_beq hpy
        have hxy : (x == y) = false := by
          rw [← this]
          cases h : x == p.1 with
          | false => rfl
          | true => rw [eq_of_beq h, BEq.rfl] at hpx; cases hpx
        rw [hxy]; rfl
def Seen (m : List (Str × Int)) (out : List ExtT) : Prop := ∀ x, sget 0 m x = bif out.any (fun e => e.2.1 == x) then 1 else 0
theorem seen_put {m : List (Str × Int)} {out : List ExtT} {x : Str} {kind : Int} {c : CapT} (h : Seen m out) (hx : out.any (fun e => e.2.1 == x) = false) : Seen (sput m x 1) (out ++ [(kind, (x, c))]) := fun y => by
  rw [sget_sput, h y, List.any_append]
  cases hxy : x == y with
  | true =>
    simp [hxy]
  | false =>
    simp [hxy]
section
variable {b : List Int} (hb : BOk b)
include hb
theorem ext2_at {k n : Nat} (hn : n ≤ 100000) {o to_ : Int} (hto : 0 ≤ to_) (hto' : to_ + n * 2 ≤ b.length) (a : Int) (w : Bool) (p0 p1 p2 p4 p5 p6 p7 p8 p10 p11 : Int) : ∀ (c m i : Nat) (s : Int), i + c = n → c < m → 0 ≤ s → s ≤ 1000000 + i →
    L_tinfo_reader_extended_2 k m o s n i b a w p0 p1 p2 to_ p4 p5 p6 p7 p8 n p10 p11 = some (o, (s + thrN b to_ c i, ((b, (a, w)), (p0, (p1, (p2, (to_, (p4, (p5, (p6, (p7, (p8, ((n : Int), (p10, p11))))))))))))))
  | 0, m + 1, i, s, h1, _, _, _ => by
    have : i = n := by omega
    subst this
    rw [L_tinfo_reader_extended_2, not_lt_self, cond_false, thrN, Int.add_zero]
  | c + 1, m + 1, i, s, h1, h2, h3, h4 => by
    have hlen := hb.len
    rw [L_tinfo_reader_extended_2, inI_J, lt_t (show (i : Int) < (n : Int) by omega), inJ_t (x := 2 * (i : Int)) (by omega) (by omega), inJ_t (x := to_ + 2 * (i : Int)) (by omega) (by omega)]
    simp only [cond_true]
    rw [short_ok hb k (a := to_ + 2 * (i : Int)) (by omega) (by omega)]
    simp only [Option.bind_some]
    rw [thrN]
    have hI : inJ ((i : Int) + 1) = true := inJ_t (by omega) (by omega)
    cases decide (sh b (to_ + 2 * (i : Int)) ≥ 0) with
    | true =>
      have ih := ext2_at hn hto hto' a w p0 p1 p2 p4 p5 p6 p7 p8 p10 p11 c m (i + 1) (s + 1) (by omega) (by omega) (by omega) (by omega) (k := k) (o := o)
      simp only [cond_true, inJ_t (x := s + 1) (by omega) (by omega), Option.bind_some, hI]
      rw [show s + (1 + thrN b to_ c (i + 1)) = s + 1 + thrN b to_ c (i + 1) by omega]
      exact ih
    | false =>
      have ih := ext2_at hn hto hto' a w p0 p1 p2 p4 p5 p6 p7 p8 p10 p11 c m (i + 1) s (by omega) (by omega) (by omega) (by omega) (k := k) (o := o)
      simp only [cond_false, cond_true, Option.bind_some, hI]
      rw [Int.zero_add]
      exact ih
end
end Go.Proofs.YtfghjkgpbncagaaGreatDoor
set_option linter.unusedVariables false
set_option linter.unusedSimpArgs false
set_option linter.unusedSectionVars false
set_option maxRecDepth 100000
namespace Go.Proofs.YtfghjkgpbncagaaGreatDoor
open Go.RowKit Go.Av Go.Proofs
def nm3 (T : Str) (b : List Int) (eo beh : Int) (l0 l1 l2 : List CapT) : Int ⊕ List ExtT :=
  match runE (nmStep T b eo beh 0 l0) l0.length 0 [] with
  | .inl o => .inl o
  | .inr out0 => match runE (nmStep T b eo beh 1 l1) l1.length 0 out0 with
    | .inl o => .inl o
    | .inr out1 => runE (nmStep T b eo beh 2 l2) l2.length 0 out1
abbrev PartsT := Int × Int × Int × Int × Int × Int × Int × Int × Int × Int × Int × Int
section
variable {b : List Int} (hb : BOk b)
include hb
theorem ext4_at {k : Nat} (hk : 1000 ≤ k) {ta size eo beh kind : Int} (h0 : 0 ≤ ta) (h1 : 0 ≤ size) (h2 : ta + size ≤ b.length) (hs : size ≤ 1000000) (heo : 0 ≤ eo) (hbh : 0 ≤ beh) (hbh' : beh ≤ 1000000) {l : List CapT} {base : Nat} (hbase : base + l.length ≤ 300) (hroom : eo + 2 * ((base + l.length : Nat) : Int) ≤ b.length) (t130 : List CapT × List CapT × List CapT) (t131 a : Int) (w : Bool) (p0 p1 p2 p3 p7 p8 p9 p10 : Int) :
    ∀ (c m i : Nat) (mp : List (Str × Int)) (out : List ExtT), i + c = l.length → c < m → Seen mp out → out.length = base + i →
    (match runE (nmStep (tbl b ta size) b eo beh kind l) c i out with
      | .inl off => L_tinfo_reader_extended_4 k m beh kind t130 t131 l l.length i b a w p0 p1 p2 p3 eo ta (ta + size) p7 p8 p9 p10 size mp out = some (Sum.inr ((off, 33), (b, (a, w))))
      | .inr out' => out'.length = base + l.length ∧ ∃ mp', Seen mp' out' ∧ L_tinfo_reader_extended_4 k m beh kind t130 t131 l l.length i b a w p0 p1 p2 p3 eo ta (ta + size) p7 p8 p9 p10 size mp out = some (Sum.inl (beh, (t130, (t131, ((b, (a, w)), ((p0, (p1, (p2, (p3, (eo, (ta, (ta + size, (p7, (p8, (p9, (p10, size))))))))))), (mp', out'))))))))
  | 0, m + 1, i, mp, out, e1, _, hsn, ho => by
    have : i = l.length := by omega
    rw [runE]
    refine ⟨by omega, mp, hsn, ?_⟩
    rw [L_tinfo_reader_extended_4, this, not_lt_self, cond_false]
  | c + 1, m + 1, i, mp, out, e1, e2, hsn, ho => by
    have hlen := hb.len
    have hoff : inJ (eo + 2 * (out.length : Int)) = true := inJ_t (by omega) (by omega)
    have hI : inJ ((i : Int) + 1) = true := inJ_t (by omega) (by omega)
    have hr : ∀ x : ExtT, room ((out.length + ([x] : List ExtT).length) * 56) = true := fun x => room_t (by simp; omega)
    have hrng := sh_rng hb (eo + 2 * (out.length : Int))
    have hx0 : L_tinfo_reader_extended_4 k (m + 1) beh kind t130 t131 l l.length i b a w p0 p1 p2 p3 eo ta (ta + size) p7 p8 p9 p10 size mp out = (match nmStep (tbl b ta size) b eo beh kind l i out with
        | .inl off => some (Sum.inr ((off, 33), (b, (a, w))))
        | .inr out' => L_tinfo_reader_extended_4 k m beh kind t130 t131 l l.length ((i : Int) + 1) b a w p0 p1 p2 p3 eo ta (ta + size) p7 p8 p9 p10 size (sput mp ((out'.getLast?.map (·.2.1)).getD []) 1) out') := by
      rw [L_tinfo_reader_extended_4, inI_J, lt_t (show (i : Int) < (l.length : Int) by omega), inL_t (i := (i : Int)) (n := l.length) (by omega) (by omega), inJ_t (x := 2 * (out.length : Int)) (by omega) (by omega), hoff]
      simp only [cond_true]
      rw [short_ok hb k (a := eo + 2 * (out.length : Int)) (by omega) (by omega)]
      simp only [Option.bind_some]
      unfold nmStep
      generalize sh b (eo + 2 * (out.length : Int)) = x0 at hrng
      cases hd : decide (x0 < 0) with
      | true => simp only [cond_true, F_tinfo_give, Option.bind_some]
      | false =>
        have hd := of_decide_eq_false hd
        simp only [cond_false, inJ_t (x := beh + x0) (by omega) (by omega), cond_true]
        rw [text_ok hb k (from_ := beh + x0) (eo + 2 * (out.length : Int)) a w h0 h1 h2 (by omega) (by omega)]
        cases ht : txAt (tbl b ta size) (beh + x0) with
        | none => simp only [Option.bind_some, either]
        | some x =>
          simp only [Option.bind_some, either]
          rw [place_ok (by omega)]
          have hsx := hsn x
          have hrs : inJ (sget 0 mp x + 1) = true := by
            rw [hsx]
            cases out.any (fun e => e.2.1 == x) <;> exact inJ_t (by decide) (by decide)
          simp only [Option.bind_some, hrs, cond_true]
          rw [sget_sput, BEq.rfl, cond_true]
          unfold okName
          cases x == [] with
          | true => simp only [cond_true, cond_false, Option.bind_some, F_tinfo_give, Bool.not_true, Bool.false_and, Bool.and_false]
          | false =>
            cases hany : out.any (fun e => e.2.1 == x) with
            | true =>
              rw [hany] at hsx
              rw [hsx]
              simp only [cond_true, cond_false, Option.bind_some, F_tinfo_give, Bool.not_true, Bool.not_false, Bool.and_false, show decide ((1 : Int) + 1 > 1) = true from rfl]
            | false =>
              rw [hany] at hsx
              rw [hsx]
              cases (placeT x).2.2 with
              | true => simp only [cond_true, cond_false, Option.bind_some, F_tinfo_give, Bool.not_true, Bool.not_false, Bool.and_true, show decide ((0 : Int) + 1 > 1) = false from rfl]
              | false =>
                simp only [cond_true, cond_false, Option.bind_some, Bool.not_false, Bool.and_true, show decide ((0 : Int) + 1 > 1) = false from rfl, hr, hI, Int.toNat_natCast, List.getLast?_append, List.getLast?_singleton, Option.some_or, Option.map_some, Option.getD_some, Int.zero_add, show decide ((1 : Int) > 1) = false from rfl]
    rw [hx0, runE]
    cases hn : nmStep (tbl b ta size) b eo beh kind l i out with
    | inl off => rfl
    | inr out' =>
      have hlo := nmStep_len hn
      have hsn' : Seen (sput mp ((out'.getLast?.map (·.2.1)).getD []) 1) out' := by
        unfold nmStep at hn
        cases hd : decide (sh b (eo + 2 * (out.length : Int)) < 0) with
        | true => rw [hd] at hn; cases hn
        | false =>
          rw [hd, cond_false] at hn
          split at hn
          · cases hn
          · rename_i x hx
            cases hkk : okName out x with
            | false => rw [hkk] at hn; cases hn
            | true =>
              rw [hkk, cond_true] at hn
              injection hn with hn
              subst hn
              have hany : out.any (fun e => e.2.1 == x) = false := by
                unfold okName at hkk
                simp only [Bool.and_eq_true, Bool.not_eq_true'] at hkk
                exact hkk.2.2
              simp only [List.getLast?_append, List.getLast?_singleton, Option.some_or, Option.map_some, Option.getD_some]
              exact seen_put hsn hany
      have ih := ext4_at hk h0 h1 h2 hs heo hbh hbh' hbase hroom t130 t131 a w p0 p1 p2 p3 p7 p8 p9 p10 c m (i + 1) _ out' (by omega) (by omega) hsn' (by omega) (kind := kind)
      exact ih
theorem ext3_ok {k q : Nat} (hk : 1000 ≤ k) {ta size eo beh : Int} (h0 : 0 ≤ ta) (h1 : 0 ≤ size) (h2 : ta + size ≤ b.length) (hs : size ≤ 1000000) (heo : 0 ≤ eo) (hbh : 0 ≤ beh) (hbh' : beh ≤ 1000000) {l0 l1 l2 : List CapT} (hn : l0.length + l1.length + l2.length ≤ 300) (hroom : eo + 2 * ((l0.length + l1.length + l2.length : Nat) : Int) ≤ b.length) (a : Int) (w : Bool) (p0 p1 p2 p3 p7 p8 p9 p10 : Int) :
    L_tinfo_reader_extended_3 k (q + 1 + 1 + 1 + 1) beh (l0, (l1, l2)) 0 b a w p0 p1 p2 p3 eo ta (ta + size) p7 p8 p9 p10 size [] [] = some (match nm3 (tbl b ta size) b eo beh l0 l1 l2 with | .inl off => Sum.inr ((off, 33), (b, (a, w))) | .inr out => Sum.inl ((b, (a, w)), out)) := by
  have i0 : inL 0 3 = true := rfl
  have i1 : inL 1 3 = true := rfl
  have i2 : inL 2 3 = true := rfl
  have j0 : inJ 1 = true := inJ_t (by decide) (by decide)
  have j1 : inJ 2 = true := inJ_t (by decide) (by decide)
  have j2 : inJ 3 = true := inJ_t (by decide) (by decide)
  have d0 : decide ((0 : Int) < 3) = true := rfl
  have d1 : decide ((1 : Int) < 3) = true := rfl
  have d2 : decide ((2 : Int) < 3) = true := rfl
  have d3 : decide ((3 : Int) < 3) = false := rfl
  have s0 := ext4_at hb hk h0 h1 h2 hs heo hbh hbh' (l := l0) (base := 0) (by omega) (by omega) (l0, (l1, l2)) 0 a w p0 p1 p2 p3 p7 p8 p9 p10 l0.length k 0 [] [] (by omega) (by omega) (fun _ => rfl) rfl (kind := 0)
  unfold nm3
  rw [L_tinfo_reader_extended_3, inI_J, d0, i0]
  simp only [cond_true, show ([l0, l1, l2] : List (List CapT)).getD (Int.toNat 0) [] = l0 from rfl]
  cases hr0 : runE (nmStep (tbl b ta size) b eo beh 0 l0) l0.length 0 [] with
  | inl off =>
    rw [hr0] at s0
    have s0 : L_tinfo_reader_extended_4 k k beh 0 (l0, (l1, l2)) 0 l0 l0.length 0 b a w p0 p1 p2 p3 eo ta (ta + size) p7 p8 p9 p10 size [] [] = _ := s0
    rw [s0]
    simp only [Option.bind_some, either]
  | inr out0 =>
    rw [hr0] at s0
    obtain ⟨n0, mp0, hsn0, s0⟩ := s0
    have s0 : L_tinfo_reader_extended_4 k k beh 0 (l0, (l1, l2)) 0 l0 l0.length 0 b a w p0 p1 p2 p3 eo ta (ta + size) p7 p8 p9 p10 size [] [] = _ := s0
    rw [s0]
    simp only [Option.bind_some, either, show (0 : Int) + 1 = 1 from rfl, j0, cond_true]
    have s1 := ext4_at hb hk h0 h1 h2 hs heo hbh hbh' (l := l1) (base := l0.length) (by omega) (by omega) (l0, (l1, l2)) 1 a w p0 p1 p2 p3 p7 p8 p9 p10 l1.length k 0 mp0 out0 (by omega) (by omega) hsn0 (by omega) (kind := 1)
    rw [L_tinfo_reader_extended_3, inI_J, d1, i1]
    simp only [cond_true, show ([l0, l1, l2] : List (List CapT)).getD (Int.toNat 1) [] = l1 from rfl]
    cases hr1 : runE (nmStep (tbl b ta size) b eo beh 1 l1) l1.length 0 out0 with
    | inl off =>
      rw [hr1] at s1
      have s1 : L_tinfo_reader_extended_4 k k beh 1 (l0, (l1, l2)) 1 l1 l1.length 0 b a w p0 p1 p2 p3 eo ta (ta + size) p7 p8 p9 p10 size mp0 out0 = _ := s1
      rw [s1]
      simp only [Option.bind_some, either]
    | inr out1 =>
      rw [hr1] at s1
      obtain ⟨n1, mp1, hsn1, s1⟩ := s1
      have s1 : L_tinfo_reader_extended_4 k k beh 1 (l0, (l1, l2)) 1 l1 l1.length 0 b a w p0 p1 p2 p3 eo ta (ta + size) p7 p8 p9 p10 size mp0 out0 = _ := s1
      rw [s1]
      simp only [Option.bind_some, either, show (1 : Int) + 1 = 2 from rfl, j1, cond_true]
      have s2 := ext4_at hb hk h0 h1 h2 hs heo hbh hbh' (l := l2) (base := l0.length + l1.length) (by omega) (by omega) (l0, (l1, l2)) 2 a w p0 p1 p2 p3 p7 p8 p9 p10 l2.length k 0 mp1 out1 (by omega) (by omega) hsn1 (by omega) (kind := 2)
      rw [L_tinfo_reader_extended_3, inI_J, d2, i2]
      simp only [cond_true, show ([l0, l1, l2] : List (List CapT)).getD (Int.toNat 2) [] = l2 from rfl]
      cases hr2 : runE (nmStep (tbl b ta size) b eo beh 2 l2) l2.length 0 out1 with
      | inl off =>
        rw [hr2] at s2
        have s2 : L_tinfo_reader_extended_4 k k beh 2 (l0, (l1, l2)) 2 l2 l2.length 0 b a w p0 p1 p2 p3 eo ta (ta + size) p7 p8 p9 p10 size mp1 out1 = _ := s2
        rw [s2]
        simp only [Option.bind_some, either]
      | inr out2 =>
        rw [hr2] at s2
        obtain ⟨n2, mp2, hsn2, s2⟩ := s2
        have s2 : L_tinfo_reader_extended_4 k k beh 2 (l0, (l1, l2)) 2 l2 l2.length 0 b a w p0 p1 p2 p3 eo ta (ta + size) p7 p8 p9 p10 size mp1 out1 = _ := s2
        rw [s2]
        simp only [Option.bind_some, either, show (2 : Int) + 1 = 3 from rfl, j2, cond_true]
        rw [L_tinfo_reader_extended_3, d3, cond_false]
end
end Go.Proofs.YtfghjkgpbncagaaGreatDoor
set_option linter.unusedVariables false
set_option linter.unusedSimpArgs false
set_option linter.unusedSectionVars false
set_option maxRecDepth 100000
namespace Go.Proofs.YtfghjkgpbncagaaGreatDoor
open Go.RowKit Go.Av Go.Proofs
section
variable {b : List Int} (hb : BOk b)
include hb
theorem flagsS_len (o : Int) (n : Nat) : (flagsS b o n).length = n := by simp [flagsS]
theorem numsS_len (w : Bool) (o : Int) (n : Nat) : (numsS w b o n).length = n := by simp [numsS]
/-- The program's, where the counts may be. -/
theorem ext_prog {k : Nat} (hk : 1000 ≤ k) {o : Int} {w : Bool} (ho : 0 ≤ o) (h10 : o + 10 ≤ b.length) (hfb : fbad (bad2 b o) 5 0 = none) {m0 m1 m2 m4 : Nat} (e0 : sh b o = m0) (e1 : sh b (o + 2) = m1) (e2 : sh b (o + 4) = m2) (e4 : sh b (o + 8) = m4) (hs : m0 + m1 + m2 ≤ 256) (h4 : m4 ≤ 32767)
    {no to_ eo ta : Int} (q1 : no = o + 10 + m0 + (o + 10 + m0) % 2) (q2 : to_ = no + m1 * sz w) (q3 : eo = to_ + m2 * 2) (q4 : ta = eo + ((m0 + m1 + m2 : Nat) : Int) * 2) :
    F_tinfo_reader_extended k b o w = (bif decide (ta + m4 > (b.length : Int)) then (some (Sum.inr (((b.length : Int), (31 : Int)), (b, (o + 10, w)))) : Option ((List ExtT × List Int × Int × Bool) ⊕ ((Int × Int) × List Int × Int × Bool))) else
      bif sh b (o + 6) != ((m0 + m1 + m2 : Nat) : Int) + thrN b to_ m2 0 then some (Sum.inr ((o + 6, 32), (b, (ta + m4, w)))) else
      match runE (txStep (tbl b ta m4) b to_) m2 0 (-1, (0, [])) with
      | .inl i => some (Sum.inr ((to_ + (i : Int) * 2, 33), (b, (ta + m4, w))))
      | .inr s => match nm3 (tbl b ta m4) b eo s.2.1 (flagsS b (o + 10) m0) (numsS w b no m1) s.2.2 with
        | .inl off => some (Sum.inr ((off, 33), (b, (ta + m4, w))))
        | .inr out => some (bif decide (ta + m4 < (b.length : Int)) then Sum.inr ((ta + m4, 34), (b, (ta + m4, w))) else Sum.inl (out, (b, (ta + m4, w))))) := by
  have hlen := hb.len
  have hsz := sz_le w
  have hm0 : 0 ≤ (m1 : Int) * sz w := Int.mul_nonneg (by omega) (by omega)
  have hm1 : (m1 : Int) * sz w ≤ 400000 := by
    have : (m1 : Int) * sz w ≤ 100000 * sz w := Int.mul_le_mul_of_nonneg_right (by omega) (by omega)
    omega
  have h3s : sum3 b o = ((m0 + m1 + m2 : Nat) : Int) := by unfold sum3; omega
  have hx := ext1_at hb ho h10 k o w 5 k 0 rfl (by omega)
  rw [hfb, h3s] at hx
  have hx : L_tinfo_reader_extended_1 k k o 0 0 b o w = _ := hx
  unfold F_tinfo_reader_extended
  rw [inI_J, tneed_ok hb k ho (by omega) w, decide_eq_false (show ¬ (10 : Int) > (b.length : Int) - o by omega)]
  simp only [cond_false, Option.bind_some, either]
  rw [hx]
  simp only [Option.bind_some, inJ_t (x := o + 10) (by omega) (by omega), cond_true]
  rw [short_ok hb k (a := o) ho (by omega), e0]
  simp only [Option.bind_some, inJ_t (x := o + 2) (by omega) (by omega), cond_true]
  rw [short_ok hb k (a := o + 2) (by omega) (by omega), e1]
  simp only [Option.bind_some, inJ_t (x := o + 4) (by omega) (by omega), cond_true]
  rw [short_ok hb k (a := o + 4) (by omega) (by omega), e2]
  simp only [Option.bind_some, inJ_t (x := o + 8) (by omega) (by omega), cond_true]
  rw [short_ok hb k (a := o + 8) (by omega) (by omega), e4]
  simp only [Option.bind_some]
  rw [lay_ok hb k (a := o + 10) (nf := m0) (nn := m1) (ns := m2) (ne := ((m0 + m1 + m2 : Nat) : Int)) (size := m4) (names := 0) (by omega) h10 (by omega) (by omega) (by omega) (by omega) (by omega) (by omega) (fo := o + 10) (by omega) q1 q2 q3 q4]
  by_cases hen : ta + m4 > (b.length : Int)
  · rw [decide_eq_true hen]; rfl
  · rw [decide_eq_false hen]
    simp only [cond_false, Option.bind_some]
    have h2 := ext2_at hb (k := k) (n := m2) (by omega) (o := o) (to_ := to_) (by omega) (by omega) (ta + m4) w (o + 10) (o + 10) no eo ta (ta + m4) m0 m1 ((m0 + m1 + m2 : Nat) : Int) m4 m2 k 0 ((m0 + m1 + m2 : Nat) : Int) (by omega) (by omega) (by omega) (by omega)
    have h2 : L_tinfo_reader_extended_2 k k o ((m0 + m1 + m2 : Nat) : Int) m2 0 b (ta + m4) w (o + 10) (o + 10) no to_ eo ta (ta + m4) m0 m1 m2 ((m0 + m1 + m2 : Nat) : Int) m4 = _ := h2
    rw [h2]
    simp only [Option.bind_some, inJ_t (x := o + 6) (by omega) (by omega), cond_true]
    rw [short_ok hb k (a := o + 6) (by omega) (by omega)]
    simp only [Option.bind_some]
    cases hne : sh b (o + 6) != ((m0 + m1 + m2 : Nat) : Int) + thrN b to_ m2 0 with
    | true => simp only [cond_true, F_tinfo_give, Option.bind_some]
    | false =>
      simp only [cond_false]
      rw [flag_ok hb (k := k) (n := m0) (by omega) (by omega) (o := o + 10) (by omega) (by omega)]
      simp only [Option.bind_some]
      rw [number_list_ok hb (k := k) (n := m1) (by omega) (by omega) (o := no) (by omega) (by omega)]
      simp only [Option.bind_some]
      have htl := text_list_ok hb (k := k) (n := m2) (by omega) (by omega) (ta := ta) (size := m4) (to_ := to_) (by omega) (by omega) (by omega) (by omega) (by omega) (ta + m4) w (o + 10) (o + 10) no eo m0 m1 ((m0 + m1 + m2 : Nat) : Int)
      rw [htl.1]
      cases hR : runE (txStep (tbl b ta m4) b to_) m2 0 (-1, (0, [])) with
      | inl i => simp only [Option.bind_some]
      | inr s =>
        obtain ⟨i1, i2, i3⟩ := htl.2 s hR
        have hTl := tab_len hb (ta := ta) (size := m4) (by omega) (by omega) (by omega)
        simp only [Option.bind_some]
        obtain ⟨q, hq⟩ : ∃ q, k = q + 1 + 1 + 1 + 1 := ⟨k - 4, by omega⟩
        have h3 := ext3_ok hb (k := k) (q := q) hk (ta := ta) (size := m4) (eo := eo) (beh := s.2.1) (by omega) (by omega) (by omega) (by omega) (by omega) i2 (by omega) (l0 := flagsS b (o + 10) m0) (l1 := numsS w b no m1) (l2 := s.2.2) (by rw [flagsS_len hb, numsS_len hb, i1]; omega) (by rw [flagsS_len hb, numsS_len hb, i1]; omega) (ta + m4) w (o + 10) (o + 10) no to_ m0 m1 m2 ((m0 + m1 + m2 : Nat) : Int)
        rw [← hq] at h3
        rw [h3]
        cases nm3 (tbl b ta m4) b eo s.2.1 (flagsS b (o + 10) m0) (numsS w b no m1) s.2.2 with
        | inl off => simp only [Option.bind_some]
        | inr out =>
          simp only [Option.bind_some, F_tinfo_give]
          cases decide (ta + m4 < (b.length : Int)) <;> rfl
end
end Go.Proofs.YtfghjkgpbncagaaGreatDoor
set_option linter.unusedVariables false
set_option linter.unusedSimpArgs false
set_option linter.unusedSectionVars false
set_option maxRecDepth 100000
namespace Go.Proofs.YtfghjkgpbncagaaGreatDoor
open Go.RowKit Go.Av Go.Proofs
def nameS (b : List Int) (N : Nat) : Str := str (cut b 12 (12 + (N : Int)))
def nameBad (b : List Int) (N : Nat) : Bool := decide ((N : Int) < 2) || (Lib.indexByte (nameS b N) 0 != (N : Int) - 1)
section
variable {b : List Int} (hb : BOk b)
include hb
theorem nameS_len {N : Nat} (h : 12 + (N : Int) ≤ b.length) : (nameS b N).length = N := by
  have := cut_len b (l := 12) (h := 12 + (N : Int)) (by omega) (by omega) h
  unfold nameS
  rw [str_len]
  omega
abbrev EntT := Option ((TermT × List Int × Int × Bool) ⊕ ((Int × Int) × List Int × Int × Bool))
/-- What follows the first part. -/
def tailOf (k : Nat) (b : List Int) (w : Bool) (en : Int) (nm : Str) (bo nu st : List CapT) : EntT :=
  bif (bif (b.length : Int) - en == 0 then true else bif (b.length : Int) - en == 1 then en % 2 == 1 else false) then some (Sum.inl ((nm, (w, (bo, (nu, (st, []))))), (b, (en, w)))) else
    (F_tinfo_reader_extended k b (en + en % 2) w).bind fun z25 =>
      either z25 (fun z25_1 => some (Sum.inl ((nm, (w, (bo, (nu, (st, z25_1.1))))), z25_1.2))) fun z25_2 => some (Sum.inr z25_2)
theorem entry_prog {k : Nat} (hk : 1000 ≤ k) (hl : 12 ≤ (b.length : Int)) {w : Bool} (hm : (bif sh b 0 != 282 then sh b 0 != 542 else false) = false) (hw : w = (sh b 0 == 542)) (hfb : fbad (bad1 b) 5 0 = none) {N m0 m1 m2 m4 : Nat} (eN : sh b 2 = N) (e0 : sh b 4 = m0) (e1 : sh b 6 = m1) (e2 : sh b 8 = m2) (e4 : sh b 10 = m4) (hN : 1 ≤ N ∧ N ≤ 512) (h0 : m0 ≤ 64) (h1 : m1 ≤ 64) (h2 : m2 ≤ 512) (h4 : m4 ≤ 32767)
    {fo no to_ ta : Int} (q0 : fo = 12 + (N : Int)) (q1 : no = fo + m0 + (fo + m0) % 2) (q2 : to_ = no + m1 * sz w) (q3 : ta = to_ + m2 * 2) :
    F_tinfo_reader_entry k b 0 false = (bif decide (ta + m4 > (b.length : Int)) then (some (Sum.inr (((b.length : Int), (31 : Int)), (b, (12, w)))) : EntT) else
      bif nameBad b N then some (Sum.inr ((12, 33), (b, (ta + m4, w)))) else
      match runE (txStep (tbl b ta m4) b to_) m2 0 (-1, (0, [])) with
      | .inl i => some (Sum.inr ((to_ + (i : Int) * 2, 33), (b, (ta + m4, w))))
      | .inr s => tailOf k b w (ta + m4) (cut (nameS b N) 0 ((N : Int) - 1)) (flagsS b fo m0) (numsS w b no m1) s.2.2) := by
  have hlen := hb.len
  have hsz := sz_le w
  have hm0 : 0 ≤ (m1 : Int) * sz w := Int.mul_nonneg (by omega) (by omega)
  have hm1 : (m1 : Int) * sz w ≤ 400000 := by
    have : (m1 : Int) * sz w ≤ 100000 * sz w := Int.mul_le_mul_of_nonneg_right (by omega) (by omega)
    omega
  have hx := entry1_at hb hl k 0 w 5 k 0 rfl (by omega)
  rw [hfb] at hx
  have hx : L_tinfo_reader_entry_1 k k (512, (64, (64, (512, 32767)))) 0 b 0 w = _ := hx
  have hmag : ((bif sh b 0 != 282 then some (sh b 0, (sh b 0 != 542, (b, ((0 : Int), false)))) else some (sh b 0, (false, (b, ((0 : Int), false)))) : Option (Int × Bool × (List Int) × Int × Bool))) = some (sh b 0, (false, (b, ((0 : Int), false)))) := by
    cases h1 : sh b 0 != 282 with
    | false => rfl
    | true => rw [h1, cond_true] at hm; rw [cond_true, hm]
  unfold F_tinfo_reader_entry
  rw [inI_J, tneed_ok hb k (n := 12) (a := 0) (by omega) (by omega) false, decide_eq_false (show ¬ (12 : Int) > (b.length : Int) - 0 by omega)]
  simp only [cond_false, Option.bind_some, either]
  rw [short_ok hb k (a := 0) (by omega) (by omega)]
  simp only [Option.bind_some]
  rw [hmag]
  simp only [Option.bind_some, cond_false, ← hw]
  rw [hx]
  simp only [Option.bind_some]
  rw [short_ok hb k (a := 2) (by omega) (by omega), eN]
  simp only [Option.bind_some]
  rw [short_ok hb k (a := 4) (by omega) (by omega), e0]
  simp only [Option.bind_some]
  rw [short_ok hb k (a := 6) (by omega) (by omega), e1]
  simp only [Option.bind_some]
  rw [short_ok hb k (a := 8) (by omega) (by omega), e2]
  simp only [Option.bind_some]
  rw [short_ok hb k (a := 10) (by omega) (by omega), e4]
  simp only [Option.bind_some]
  rw [lay_ok hb k (a := 12) (nf := m0) (nn := m1) (ns := m2) (ne := 0) (size := m4) (names := N) (by omega) (by omega) (by omega) (by omega) (by omega) (by omega) (by omega) (by omega) q0 q1 q2 (eo := ta) q3 (ta := ta) (by omega)]
  by_cases hen : ta + m4 > (b.length : Int)
  · rw [decide_eq_true hen]; rfl
  · rw [decide_eq_false hen]
    have hnl := nameS_len hb (N := N) (by omega)
    have hS : List.map (fun n : Int => UInt8.ofNat n.toNat) (cut b 12 fo) = nameS b N := by rw [q0]; rfl
    simp only [cond_false, Option.bind_some, inR_t (l := 12) (h := fo) (n := b.length) (by omega) (by omega) (by omega), cond_true, hS]
    have hmid : ((bif decide ((N : Int) < 2) then some ((N : Int), (nameS b N, (true, ((b, (ta + (m4 : Int), w)), ((12 : Int), (fo, (no, (to_, (ta, (ta, (ta + (m4 : Int), ((m0 : Int), ((m1 : Int), ((m2 : Int), ((0 : Int), (m4 : Int))))))))))))))))
        else (F_strings_IndexByte k (nameS b N) 0).bind fun z18 => bif inJ ((N : Int) - 1) then some ((N : Int), (nameS b N, (z18 != (N : Int) - 1, ((b, (ta + (m4 : Int), w)), ((12 : Int), (fo, (no, (to_, (ta, (ta, (ta + (m4 : Int), ((m0 : Int), ((m1 : Int), ((m2 : Int), ((0 : Int), (m4 : Int)))))))))))))))) else none : Option (Int × (List UInt8) × Bool × ((List Int) × Int × Bool) × PartsT)))
        = some ((N : Int), (nameS b N, (nameBad b N, ((b, (ta + (m4 : Int), w)), ((12 : Int), (fo, (no, (to_, (ta, (ta, (ta + (m4 : Int), ((m0 : Int), ((m1 : Int), ((m2 : Int), ((0 : Int), (m4 : Int)))))))))))))))) := by
      unfold nameBad
      have hI : inJ ((N : Int) - 1) = true := inJ_t (by omega) (by omega)
      cases decide ((N : Int) < 2) with
      | true => rfl
      | false =>
        rw [cond_false]
        show Option.bind (some (Lib.indexByte (nameS b N) 0)) _ = _
        rw [Option.bind_some, hI, cond_true, Bool.false_or]
    rw [hmid]
    simp only [Option.bind_some]
    cases hnb : nameBad b N with
    | true => simp only [cond_true, F_tinfo_give, Option.bind_some]
    | false =>
      simp only [cond_false, inJ_t (x := (N : Int) - 1) (by omega) (by omega), inR_t (l := 0) (h := (N : Int) - 1) (n := (nameS b N).length) (by omega) (by omega) (by omega), cond_true]
      rw [flag_ok hb (k := k) (n := m0) (by omega) (by omega) (o := fo) (by omega) (by omega)]
      simp only [Option.bind_some]
      rw [number_list_ok hb (k := k) (n := m1) (by omega) (by omega) (o := no) (by omega) (by omega)]
      simp only [Option.bind_some]
      have htl := text_list_ok hb (k := k) (n := m2) (by omega) (by omega) (ta := ta) (size := m4) (to_ := to_) (by omega) (by omega) (by omega) (by omega) (by omega) (ta + m4) w 12 fo no ta m0 m1 0
      rw [htl.1]
      cases hR : runE (txStep (tbl b ta m4) b to_) m2 0 (-1, (0, [])) with
      | inl i => simp only [Option.bind_some]
      | inr s =>
        have hmod : Int.tmod (ta + (m4 : Int)) 2 = (ta + (m4 : Int)) % 2 := Int.tmod_eq_emod_of_nonneg (by omega)
        have hev : inJ (ta + (m4 : Int) + (ta + (m4 : Int)) % 2) = true := inJ_t (by omega) (by omega)
        simp only [Option.bind_some, inJ_t (x := (b.length : Int) - (ta + (m4 : Int))) (by omega) (by omega), cond_true, hmod]
        unfold tailOf
        cases (b.length : Int) - (ta + (m4 : Int)) == 0 with
        | true => simp only [cond_true, Option.bind_some]
        | false =>
          cases (b.length : Int) - (ta + (m4 : Int)) == 1 with
          | true =>
            cases (ta + (m4 : Int)) % 2 == 1 with
            | true => simp only [cond_true, cond_false, Option.bind_some]
            | false => simp only [cond_true, cond_false, Option.bind_some, hmod, hev, either]
          | false => simp only [cond_true, cond_false, Option.bind_some, hmod, hev, either]
end
end Go.Proofs.YtfghjkgpbncagaaGreatDoor
