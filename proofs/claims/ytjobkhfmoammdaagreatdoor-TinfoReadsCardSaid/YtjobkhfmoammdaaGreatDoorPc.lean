/- Joined texts: Pc. -/
import Derived.Test.YtjobkhfmoammdaaGreatDoorPb
set_option linter.unusedVariables false
set_option linter.unusedSimpArgs false
set_option linter.unusedSectionVars false
set_option maxRecDepth 100000
namespace Go.Proofs.YtjobkhfmoammdaaGreatDoor
open Go.RowKit Go.Av Go.Proofs
def nameS (b : List Int) (N : Nat) : Str := str (cut b 12 (12 + (N : Int)))
def nameBad (b : List Int) (N : Nat) : Bool := decide ((N : Int) < 2) || (Lib.indexByte (nameS b N) 0 != (N : Int) - 1)
section
variable {b : List Int} (hb : BOk b)
include hb
theorem nameS_len {N : Nat} (h : 12 + (N : Int) ≤ b.length) : (nameS b N).length = N := by
  have := cut_len b (l := 12) (h := 12 + (N : Int)) (by omega) (by omega) h
  unfold nameS
  rw [str_len]
  omega
abbrev EntT := Option ((TermT × List Int × Int × Bool) ⊕ ((Int × Int) × List Int × Int × Bool))
/-- What follows the first part. -/
def tailOf (k : Nat) (b : List Int) (w : Bool) (en : Int) (nm : Str) (bo nu st : List CapT) : EntT :=
  bif (bif (b.length : Int) - en == 0 then true else bif (b.length : Int) - en == 1 then en % 2 == 1 else false) then some (Sum.inl ((nm, (w, (bo, (nu, (st, []))))), (b, (en, w)))) else
    (F_tinfo_reader_extended k b (en + en % 2) w).bind fun z25 =>
      either z25 (fun z25_1 => some (Sum.inl ((nm, (w, (bo, (nu, (st, z25_1.1))))), z25_1.2))) fun z25_2 => some (Sum.inr z25_2)
theorem entry_prog {k : Nat} (hk : 1000 ≤ k) (hl : 12 ≤ (b.length : Int)) {w : Bool} (hm : (bif sh b 0 != 282 then sh b 0 != 542 else false) = false) (hw : w = (sh b 0 == 542)) (hfb : fbad (bad1 b) 5 0 = none) {N m0 m1 m2 m4 : Nat} (eN : sh b 2 = N) (e0 : sh b 4 = m0) (e1 : sh b 6 = m1) (e2 : sh b 8 = m2) (e4 : sh b 10 = m4) (hN : 1 ≤ N ∧ N ≤ 512) (h0 : m0 ≤ 64) (h1 : m1 ≤ 64) (h2 : m2 ≤ 512) (h4 : m4 ≤ 32767)
    {fo no to_ ta : Int} (q0 : fo = 12 + (N : Int)) (q1 : no = fo + m0 + (fo + m0) % 2) (q2 : to_ = no + m1 * sz w) (q3 : ta = to_ + m2 * 2) :
    F_tinfo_reader_entry k b 0 false = (bif decide (ta + m4 > (b.length : Int)) then (some (Sum.inr (((b.length : Int), (31 : Int)), (b, (12, w)))) : EntT) else
      bif nameBad b N then some (Sum.inr ((12, 33), (b, (ta + m4, w)))) else
      match runE (txStep (tbl b ta m4) b to_) m2 0 (-1, (0, [])) with
      | .inl i => some (Sum.inr ((to_ + (i : Int) * 2, 33), (b, (ta + m4, w))))
      | .inr s => tailOf k b w (ta + m4) (cut (nameS b N) 0 ((N : Int) - 1)) (flagsS b fo m0) (numsS w b no m1) s.2.2) := by
  have hlen := hb.len
  have hsz := sz_le w
  have hm0 : 0 ≤ (m1 : Int) * sz w := Int.mul_nonneg (by omega) (by omega)
  have hm1 : (m1 : Int) * sz w ≤ 400000 := by
    have : (m1 : Int) * sz w ≤ 100000 * sz w := Int.mul_le_mul_of_nonneg_right (by omega) (by omega)
    omega
  have hx := entry1_at hb hl k 0 w 5 k 0 rfl (by omega)
  rw [hfb] at hx
  have hx : L_tinfo_reader_entry_1 k k (512, (64, (64, (512, 32767)))) 0 b 0 w = _ := hx
  have hmag : ((bif sh b 0 != 282 then some (sh b 0, (sh b 0 != 542, (b, ((0 : Int), false)))) else some (sh b 0, (false, (b, ((0 : Int), false)))) : Option (Int × Bool × (List Int) × Int × Bool))) = some (sh b 0, (false, (b, ((0 : Int), false)))) := by
    cases h1 : sh b 0 != 282 with
    | false => rfl
    | true => rw [h1, cond_true] at hm; rw [cond_true, hm]
  unfold F_tinfo_reader_entry
  rw [inI_J, tneed_ok hb k (n := 12) (a := 0) (by omega) (by omega) false, decide_eq_false (show ¬ (12 : Int) > (b.length : Int) - 0 by omega)]
  simp only [cond_false, Option.bind_some, either]
  rw [short_ok hb k (a := 0) (by omega) (by omega)]
  simp only [Option.bind_some]
  rw [hmag]
  simp only [Option.bind_some, cond_false, ← hw]
  rw [hx]
  simp only [Option.bind_some]
  rw [short_ok hb k (a := 2) (by omega) (by omega), eN]
  simp only [Option.bind_some]
  rw [short_ok hb k (a := 4) (by omega) (by omega), e0]
  simp only [Option.bind_some]
  rw [short_ok hb k (a := 6) (by omega) (by omega), e1]
  simp only [Option.bind_some]
  rw [short_ok hb k (a := 8) (by omega) (by omega), e2]
  simp only [Option.bind_some]
  rw [short_ok hb k (a := 10) (by omega) (by omega), e4]
  simp only [Option.bind_some]
  rw [lay_ok hb k (a := 12) (nf := m0) (nn := m1) (ns := m2) (ne := 0) (size := m4) (names := N) (by omega) (by omega) (by omega) (by omega) (by omega) (by omega) (by omega) (by omega) q0 q1 q2 (eo := ta) q3 (ta := ta) (by omega)]
  by_cases hen : ta + m4 > (b.length : Int)
  · rw [decide_eq_true hen]; rfl
  · rw [decide_eq_false hen]
    have hnl := nameS_len hb (N := N) (by omega)
    have hS : List.map (fun n : Int => UInt8.ofNat n.toNat) (cut b 12 fo) = nameS b N := by rw [q0]; rfl
    simp only [cond_false, Option.bind_some, inR_t (l := 12) (h := fo) (n := b.length) (by omega) (by omega) (by omega), cond_true, hS]
    have hmid : ((bif decide ((N : Int) < 2) then some ((N : Int), (nameS b N, (true, ((b, (ta + (m4 : Int), w)), ((12 : Int), (fo, (no, (to_, (ta, (ta, (ta + (m4 : Int), ((m0 : Int), ((m1 : Int), ((m2 : Int), ((0 : Int), (m4 : Int))))))))))))))))
        else (F_strings_IndexByte k (nameS b N) 0).bind fun z18 => bif inJ ((N : Int) - 1) then some ((N : Int), (nameS b N, (z18 != (N : Int) - 1, ((b, (ta + (m4 : Int), w)), ((12 : Int), (fo, (no, (to_, (ta, (ta, (ta + (m4 : Int), ((m0 : Int), ((m1 : Int), ((m2 : Int), ((0 : Int), (m4 : Int)))))))))))))))) else none : Option (Int × (List UInt8) × Bool × ((List Int) × Int × Bool) × PartsT)))
        = some ((N : Int), (nameS b N, (nameBad b N, ((b, (ta + (m4 : Int), w)), ((12 : Int), (fo, (no, (to_, (ta, (ta, (ta + (m4 : Int), ((m0 : Int), ((m1 : Int), ((m2 : Int), ((0 : Int), (m4 : Int)))))))))))))))) := by
      unfold nameBad
      have hI : inJ ((N : Int) - 1) = true := inJ_t (by omega) (by omega)
      cases decide ((N : Int) < 2) with
      | true => rfl
      | false =>
        rw [cond_false]
        show Option.bind (some (Lib.indexByte (nameS b N) 0)) _ = _
        rw [Option.bind_some, hI, cond_true, Bool.false_or]
    rw [hmid]
    simp only [Option.bind_some]
    cases hnb : nameBad b N with
    | true => simp only [cond_true, F_tinfo_give, Option.bind_some]
    | false =>
      simp only [cond_false, inJ_t (x := (N : Int) - 1) (by omega) (by omega), inR_t (l := 0) (h := (N : Int) - 1) (n := (nameS b N).length) (by omega) (by omega) (by omega), cond_true]
      rw [flag_ok hb (k := k) (n := m0) (by omega) (by omega) (o := fo) (by omega) (by omega)]
      simp only [Option.bind_some]
      rw [number_list_ok hb (k := k) (n := m1) (by omega) (by omega) (o := no) (by omega) (by omega)]
      simp only [Option.bind_some]
      have htl := text_list_ok hb (k := k) (n := m2) (by omega) (by omega) (ta := ta) (size := m4) (to_ := to_) (by omega) (by omega) (by omega) (by omega) (by omega) (ta + m4) w 12 fo no ta m0 m1 0
      rw [htl.1]
      cases hR : runE (txStep (tbl b ta m4) b to_) m2 0 (-1, (0, [])) with
      | inl i => simp only [Option.bind_some]
      | inr s =>
        have hmod : Int.tmod (ta + (m4 : Int)) 2 = (ta + (m4 : Int)) % 2 := Int.tmod_eq_emod_of_nonneg (by omega)
        have hev : inJ (ta + (m4 : Int) + (ta + (m4 : Int)) % 2) = true := inJ_t (by omega) (by omega)
        simp only [Option.bind_some, inJ_t (x := (b.length : Int) - (ta + (m4 : Int))) (by omega) (by omega), cond_true, hmod]
        unfold tailOf
        cases (b.length : Int) - (ta + (m4 : Int)) == 0 with
        | true => simp only [cond_true, Option.bind_some]
        | false =>
          cases (b.length : Int) - (ta + (m4 : Int)) == 1 with
          | true =>
            cases (ta + (m4 : Int)) % 2 == 1 with
            | true => simp only [cond_true, cond_false, Option.bind_some]
            | false => simp only [cond_true, cond_false, Option.bind_some, hmod, hev, either]
          | false => simp only [cond_true, cond_false, Option.bind_some, hmod, hev, either]
end
end Go.Proofs.YtjobkhfmoammdaaGreatDoor
set_option linter.unusedVariables false
set_option linter.unusedSimpArgs false
set_option linter.unusedSectionVars false
set_option maxRecDepth 100000
namespace Go.Proofs.YtjobkhfmoammdaaGreatDoor
open Go.RowKit Go.Av Go.Proofs
abbrev RefT := Option (TermT × (List Int) × Int × Int × Int × Bool)
/-- The reference's first part behind the counts. -/
noncomputable def fstBody (k : Nat) (b : List Int) (w : Bool) (N m0 m1 m2 m4 : Nat) : RefT :=
  (F_lanyardref03_reader_skip k N b 12 0 0 w).bind fun z13 =>
  (F_lanyardref03_reader_flags k m0 z13.2.1 z13.2.2.1 z13.2.2.2.1 z13.2.2.2.2.1 z13.2.2.2.2.2).bind fun z14 =>
  (F_lanyardref03_reader_even k z14.2.1 z14.2.2.1 z14.2.2.2.1 z14.2.2.2.2.1 z14.2.2.2.2.2).bind fun z15 =>
  (F_lanyardref03_reader_numbers k m1 z15.1 z15.2.1 z15.2.2.1 z15.2.2.2.1 z15.2.2.2.2).bind fun z16 =>
  (F_lanyardref03_reader_skip k (2 * (m2 : Int)) z16.2.1 z16.2.2.1 z16.2.2.2.1 z16.2.2.2.2.1 z16.2.2.2.2.2).bind fun z17 =>
  (F_lanyardref03_reader_skip k m4 z17.2.1 z17.2.2.1 z17.2.2.2.1 z17.2.2.2.2.1 z17.2.2.2.2.2).bind fun z18 =>
  bif z18.2.2.2.1 != 0 then some (([], (w, ([], ([], ([], []))))), z18.2) else
  bif inJ (z13.1 + (N : Int)) then
    bif inR z13.1 (z13.1 + (N : Int)) z18.2.1.length then
      ((F_strings_IndexByte k (str (cut z18.2.1 z13.1 (z13.1 + (N : Int)))) 0).bind fun z19 =>
       bif inJ (((str (cut z18.2.1 z13.1 (z13.1 + (N : Int)))).length : Int) - 1) then
         bif z19 != (((str (cut z18.2.1 z13.1 (z13.1 + (N : Int)))).length : Int) - 1) then
           some (cnt5 b 2, (z13.1, (z14.1, (z16.1, (z17.1, (z18.1, (str (cut z18.2.1 z13.1 (z13.1 + (N : Int))), (true, (z18.2, w)))))))))
         else
           some (cnt5 b 2, (z13.1, (z14.1, (z16.1, (z17.1, (z18.1, (str (cut z18.2.1 z13.1 (z13.1 + (N : Int))), (((str (cut z18.2.1 z13.1 (z13.1 + (N : Int)))).length : Int) == 1, (z18.2, w)))))))))
       else none : Option ((List Int) × Int × (List CapT) × (List CapT) × Int × Int × (List UInt8) × Bool × ((List Int) × Int × Int × Int × Bool) × Bool)).bind fun z20 =>
      bif z20.2.2.2.2.2.2.2.1 then
        (F_lanyardref03_reader_fail k 33 z20.2.1 z20.2.2.2.2.2.2.2.2.1.1 z20.2.2.2.2.2.2.2.2.1.2.1 z20.2.2.2.2.2.2.2.2.1.2.2.1 z20.2.2.2.2.2.2.2.2.1.2.2.2.1 z20.2.2.2.2.2.2.2.2.1.2.2.2.2).bind fun z21 =>
        some (([], (z20.2.2.2.2.2.2.2.2.2, ([], ([], ([], []))))), z21)
      else
        bif inJ ((z20.2.2.2.2.2.2.1.length : Int) - 1) then
          bif inR 0 ((z20.2.2.2.2.2.2.1.length : Int) - 1) z20.2.2.2.2.2.2.1.length then
            bif inL 4 z20.1.length then
              bif inJ (z20.2.2.2.2.2.1 + (z20.1.getD (Int.toNat 4) 0)) then
                bif inR z20.2.2.2.2.2.1 (z20.2.2.2.2.2.1 + (z20.1.getD (Int.toNat 4) 0)) z20.2.2.2.2.2.2.2.2.1.1.length then
                  bif inL 3 z20.1.length then
                    (F_lanyardref03_reader_taken k (str (cut z20.2.2.2.2.2.2.2.2.1.1 z20.2.2.2.2.2.1 (z20.2.2.2.2.2.1 + (z20.1.getD (Int.toNat 4) 0)))) z20.2.2.2.2.1 (z20.1.getD (Int.toNat 3) 0) z20.2.2.2.2.2.2.2.2.1.1 z20.2.2.2.2.2.2.2.2.1.2.1 z20.2.2.2.2.2.2.2.2.1.2.2.1 z20.2.2.2.2.2.2.2.2.1.2.2.2.1 z20.2.2.2.2.2.2.2.2.1.2.2.2.2).bind fun z22 =>
                    some ((cut z20.2.2.2.2.2.2.1 0 ((z20.2.2.2.2.2.2.1.length : Int) - 1), (z20.2.2.2.2.2.2.2.2.2, (z20.2.2.1, (z20.2.2.2.1, (z22.1.1, []))))), z22.2)
                  else none
                else none
              else none
            else none
          else none
        else none
    else none
  else none
section
variable {b : List Int} (hb : BOk b)
include hb
theorem most5_is : ([512, 64, 64, 512, 32767] : List Int) = most5 := rfl
theorem fst_counts {k : Nat} (hk : 1000 ≤ k) (hl : 12 ≤ (b.length : Int)) {w : Bool} (hm : (bif sh b 0 != 282 then sh b 0 != 542 else false) = false) (hw : w = (sh b 0 == 542)) {j : Nat} (hfb : fbad (bad1 b) 5 0 = some j) : ∃ t, F_lanyardref03_reader_first k b 0 0 0 false = some (t, (b, (12, (32, (2 + 2 * (j : Int), w))))) := by
  have hlen := hb.len
  have h1 := sh_rng hb (2 + 4)
  have h3 := sh_rng hb (2 + 6)
  have hs := rfirst1_at hb k 12 0 w w 5 k 0 rfl (by omega)
  rw [hfb] at hs
  have hs : L_lanyardref03_reader_first_1 k k (cnt5 b 2) 2 0 b 12 0 0 w w most5 = _ := hs
  have g0 : (cnt5 b 2).getD (Int.toNat 0) 0 = sh b 2 := rfl
  have g1 : (cnt5 b 2).getD (Int.toNat 1) 0 = sh b (2 + 2) := rfl
  have g2 : (cnt5 b 2).getD (Int.toNat 2) 0 = sh b (2 + 4) := rfl
  have g3 : (cnt5 b 2).getD (Int.toNat 3) 0 = sh b (2 + 6) := rfl
  have L0 : inL 0 (cnt5 b 2).length = true := rfl
  have L1 : inL 1 (cnt5 b 2).length = true := rfl
  have L2 : inL 2 (cnt5 b 2).length = true := rfl
  have L3 : inL 3 (cnt5 b 2).length = true := rfl
  have L4 : inL 4 (cnt5 b 2).length = true := rfl
  have hmag : ((bif sh b 0 != 282 then some (sh b 0, (sh b 0 != 542, (b, ((0 : Int) + 2, ((0 : Int), ((0 : Int), false)))))) else some (sh b 0, (false, (b, ((0 : Int) + 2, ((0 : Int), ((0 : Int), false)))))) : Option (Int × Bool × (List Int) × Int × Int × Int × Bool))) = some (sh b 0, (false, (b, ((0 : Int) + 2, ((0 : Int), ((0 : Int), false)))))) := by
    cases h1 : sh b 0 != 282 with
    | false => rfl
    | true => rw [h1, cond_true] at hm; rw [cond_true, hm]
  unfold F_lanyardref03_reader_first
  rw [inI_J, lt_f (show ¬ (b.length : Int) < 12 by omega), cond_false, rshort_ok hb k (a := 0) (by omega) (by omega)]
  simp only [Option.bind_some]
  rw [hmag]
  simp only [Option.bind_some, cond_false, ← hw, show (0 : Int) + 2 = 2 from rfl]
  rw [head_ok hb (k := k) (by omega) (a := 2) (by omega) (by omega) 0 w]
  simp only [Option.bind_some, most5_is hb, show (2 : Int) + 10 = 12 from rfl]
  rw [hs]
  simp only [Option.bind_some, L0, L1, L2, L3, L4, cond_true, g0, g1, g2, g3, inJ_t (x := 2 * sh b (2 + 6)) (by omega) (by omega)]
  rw [rskip_bad hb k _ _ 32 _ w (by decide)]
  simp only [Option.bind_some]
  rw [rflags_bad hb k _ _ 32 _ w (by decide)]
  simp only [Option.bind_some]
  rw [reven_bad hb k _ 32 _ w (by decide)]
  simp only [Option.bind_some]
  rw [rnumbers_bad hb k h1 _ 32 _ w (by decide)]
  simp only [Option.bind_some]
  rw [rskip_bad hb k _ _ 32 _ w (by decide)]
  simp only [Option.bind_some]
  rw [rskip_bad hb k _ _ 32 _ w (by decide)]
  simp only [Option.bind_some, show ((32 : Int) != 0) = true from rfl, cond_true]
  exact ⟨_, rfl⟩
theorem fst_body {k : Nat} (hk : 1000 ≤ k) (hl : 12 ≤ (b.length : Int)) {w : Bool} (hm : (bif sh b 0 != 282 then sh b 0 != 542 else false) = false) (hw : w = (sh b 0 == 542)) (hfb : fbad (bad1 b) 5 0 = none) {N m0 m1 m2 m4 : Nat} (eN : sh b 2 = N) (e0 : sh b 4 = m0) (e1 : sh b 6 = m1) (e2 : sh b 8 = m2) (e4 : sh b 10 = m4) (h2 : m2 ≤ 512) : F_lanyardref03_reader_first k b 0 0 0 false = fstBody k b w N m0 m1 m2 m4 := by
  have hlen := hb.len
  have hs := rfirst1_at hb k 12 0 w w 5 k 0 rfl (by omega)
  rw [hfb] at hs
  have hs : L_lanyardref03_reader_first_1 k k (cnt5 b 2) 2 0 b 12 0 0 w w most5 = _ := hs
  have g0 : (cnt5 b 2).getD (Int.toNat 0) 0 = sh b 2 := rfl
  have g1 : (cnt5 b 2).getD (Int.toNat 1) 0 = sh b 4 := rfl
  have g2 : (cnt5 b 2).getD (Int.toNat 2) 0 = sh b 6 := rfl
  have g3 : (cnt5 b 2).getD (Int.toNat 3) 0 = sh b 8 := rfl
  have g4 : (cnt5 b 2).getD (Int.toNat 4) 0 = sh b 10 := rfl
  have L0 : inL 0 (cnt5 b 2).length = true := rfl
  have L1 : inL 1 (cnt5 b 2).length = true := rfl
  have L2 : inL 2 (cnt5 b 2).length = true := rfl
  have L3 : inL 3 (cnt5 b 2).length = true := rfl
  have L4 : inL 4 (cnt5 b 2).length = true := rfl
  have hmag : ((bif sh b 0 != 282 then some (sh b 0, (sh b 0 != 542, (b, ((0 : Int) + 2, ((0 : Int), ((0 : Int), false)))))) else some (sh b 0, (false, (b, ((0 : Int) + 2, ((0 : Int), ((0 : Int), false)))))) : Option (Int × Bool × (List Int) × Int × Int × Int × Bool))) = some (sh b 0, (false, (b, ((0 : Int) + 2, ((0 : Int), ((0 : Int), false)))))) := by
    cases h1 : sh b 0 != 282 with
    | false => rfl
    | true => rw [h1, cond_true] at hm; rw [cond_true, hm]
  unfold F_lanyardref03_reader_first
  rw [inI_J, lt_f (show ¬ (b.length : Int) < 12 by omega), cond_false, rshort_ok hb k (a := 0) (by omega) (by omega)]
  simp only [Option.bind_some]
  rw [hmag]
  simp only [Option.bind_some, cond_false, ← hw, show (0 : Int) + 2 = 2 from rfl]
  rw [head_ok hb (k := k) (by omega) (a := 2) (by omega) (by omega) 0 w]
  simp only [Option.bind_some, most5_is hb, show (2 : Int) + 10 = 12 from rfl]
  rw [hs]
  simp only [Option.bind_some, L0, L1, L2, L3, L4, cond_true, g0, g1, g2, g3, g4, eN, e0, e1, e2, e4, inJ_t (x := 2 * (m2 : Int)) (by omega) (by omega)]
  rfl
theorem fst_short {k : Nat} (hk : 1000 ≤ k) (hl : 12 ≤ (b.length : Int)) {w : Bool} {N m0 m1 m2 m4 : Nat} (hN : 1 ≤ N ∧ N ≤ 512) (h0 : m0 ≤ 64) (h1 : m1 ≤ 64) (h2 : m2 ≤ 512) (h4 : m4 ≤ 32767) {fo no to_ ta : Int} (q0 : fo = 12 + (N : Int)) (q1 : no = fo + m0 + (fo + m0) % 2) (q2 : to_ = no + m1 * sz w) (q3 : ta = to_ + m2 * 2) (hen : ta + m4 > (b.length : Int)) :
    ∃ (t : TermT) (a' : Int), 0 ≤ a' ∧ a' ≤ b.length ∧ fstBody k b w N m0 m1 m2 m4 = some (t, (b, (a', (31, ((b.length : Int), w))))) := by
  have hlen := hb.len
  have hsz := sz_le w
  have hm0 : 0 ≤ (m1 : Int) * sz w := Int.mul_nonneg (by omega) (by omega)
  have d31 : ((31 : Int) != 0) = true := rfl
  have ff := fun n a => rflags_bad hb k n a 31 (b.length : Int) w (by decide)
  have fe := fun a => reven_bad hb k a 31 (b.length : Int) w (by decide)
  have fn := fun a => rnumbers_bad hb k (n := (m1 : Int)) (by omega) a 31 (b.length : Int) w (by decide)
  have fs := fun n a => rskip_bad hb k n a 31 (b.length : Int) w (by decide)
  unfold fstBody
  rw [rskip_ok hb k (n := (N : Int)) (a := 12) (by omega) (by omega) (by omega) 0 w]
  by_cases hZ : (N : Int) > (b.length : Int) - 12
  · rw [decide_eq_true hZ]
    simp only [cond_true, Option.bind_some, ff, fe, fn, fs, d31]
    exact ⟨_, 12, by omega, by omega, rfl⟩
  rw [decide_eq_false hZ]
  simp only [cond_false, Option.bind_some, ← q0]
  rw [rflags_ok hb (n := m0) (by omega) (by omega) (a := fo) (by omega) (by omega) 0 w]
  by_cases hA : (m0 : Int) > (b.length : Int) - fo
  · rw [decide_eq_true hA]
    simp only [cond_true, Option.bind_some, fe, fn, fs, d31]
    exact ⟨_, fo, by omega, by omega, rfl⟩
  rw [decide_eq_false hA]
  simp only [cond_false, Option.bind_some]
  rw [reven_ok hb k (a := fo + m0) (by omega) (by omega) 0 w]
  by_cases hB : (fo + (m0 : Int)) % 2 > (b.length : Int) - (fo + m0)
  · rw [decide_eq_true hB]
    simp only [cond_true, Option.bind_some, fe, fn, fs, d31]
    exact ⟨_, fo + m0, by omega, by omega, rfl⟩
  rw [decide_eq_false hB]
  simp only [cond_false, Option.bind_some, ← q1]
  rw [rnumbers_ok hb (n := m1) (by omega) (by omega) (a := no) (by omega) (by omega) 0 w]
  by_cases hC : (m1 : Int) * sz w > (b.length : Int) - no
  · rw [decide_eq_true hC]
    simp only [cond_true, Option.bind_some, fe, fn, fs, d31]
    exact ⟨_, no, by omega, by omega, rfl⟩
  rw [decide_eq_false hC]
  simp only [cond_false, Option.bind_some, ← q2]
  rw [rskip_ok hb k (n := 2 * (m2 : Int)) (a := to_) (by omega) (by omega) (by omega) 0 w]
  by_cases hD : 2 * (m2 : Int) > (b.length : Int) - to_
  · rw [decide_eq_true hD]
    simp only [cond_true, Option.bind_some, fe, fn, fs, d31]
    exact ⟨_, to_, by omega, by omega, rfl⟩
  rw [decide_eq_false hD]
  simp only [cond_false, Option.bind_some]
  rw [rskip_ok hb k (n := (m4 : Int)) (a := to_ + 2 * (m2 : Int)) (by omega) (by omega) (by omega) 0 w]
  rw [decide_eq_true (show (m4 : Int) > (b.length : Int) - (to_ + 2 * (m2 : Int)) by omega)]
  simp only [cond_true, Option.bind_some, d31]
  exact ⟨_, to_ + 2 * (m2 : Int), by omega, by omega, rfl⟩
theorem fst_all {k : Nat} (hk : 1000 ≤ k) (hl : 12 ≤ (b.length : Int)) {w : Bool} {N m0 m1 m2 m4 : Nat} (e2 : sh b 8 = m2) (e4 : sh b 10 = m4) (hN : 1 ≤ N ∧ N ≤ 512) (h0 : m0 ≤ 64) (h1 : m1 ≤ 64) (h2 : m2 ≤ 512) (h4 : m4 ≤ 32767) {fo no to_ ta : Int} (q0 : fo = 12 + (N : Int)) (q1 : no = fo + m0 + (fo + m0) % 2) (q2 : to_ = no + m1 * sz w) (q3 : ta = to_ + m2 * 2) (hen : ¬ ta + m4 > (b.length : Int)) :
    if nameBad b N = true then ∃ t, fstBody k b w N m0 m1 m2 m4 = some (t, (b, (ta + m4, (33, (12, w))))) else
      match runE (txStep (tbl b ta m4) b to_) m2 0 (-1, (0, [])) with
      | .inl i => ∃ t, fstBody k b w N m0 m1 m2 m4 = some (t, (b, (ta + m4, (33, (to_ + (i : Int) * 2, w)))))
      | .inr s => s.2.2.length = m2 ∧ fstBody k b w N m0 m1 m2 m4 = some ((cut (nameS b N) 0 ((N : Int) - 1), (w, (flagsS b fo m0, (numsS w b no m1, (s.2.2, []))))), (b, (ta + m4, (0, (0, w))))) := by
  have hlen := hb.len
  have hsz := sz_le w
  have hm0 : 0 ≤ (m1 : Int) * sz w := Int.mul_nonneg (by omega) (by omega)
  have g3 : (cnt5 b 2).getD (Int.toNat 3) 0 = sh b 8 := rfl
  have g4 : (cnt5 b 2).getD (Int.toNat 4) 0 = sh b 10 := rfl
  have L3 : inL 3 (cnt5 b 2).length = true := rfl
  have L4 : inL 4 (cnt5 b 2).length = true := rfl
  have htl := tab_len hb (ta := ta) (size := m4) (by omega) (by omega) (by omega)
  have hnl := nameS_len hb (N := N) (by omega)
  have hS : str (cut b 12 fo) = nameS b N := by rw [q0]; rfl
  have hbody : fstBody k b w N m0 m1 m2 m4 = (bif nameBad b N then some (([], (w, ([], ([], ([], []))))), (b, (ta + m4, (33, (12, w))))) else
      (F_lanyardref03_reader_taken k (tbl b ta m4) to_ m2 b (ta + m4) 0 0 w).bind fun z22 =>
                    some ((cut (nameS b N) 0 ((N : Int) - 1), (w, (flagsS b fo m0, (numsS w b no m1, (z22.1.1, []))))), z22.2)) := by
    unfold fstBody
    rw [rskip_ok hb k (n := (N : Int)) (a := 12) (by omega) (by omega) (by omega) 0 w, decide_eq_false (show ¬ (N : Int) > (b.length : Int) - 12 by omega)]
    simp only [cond_false, Option.bind_some, ← q0]
    rw [rflags_ok hb (n := m0) (by omega) (by omega) (a := fo) (by omega) (by omega) 0 w, decide_eq_false (show ¬ (m0 : Int) > (b.length : Int) - fo by omega)]
    simp only [cond_false, Option.bind_some]
    rw [reven_ok hb k (a := fo + m0) (by omega) (by omega) 0 w, decide_eq_false (show ¬ (fo + (m0 : Int)) % 2 > (b.length : Int) - (fo + m0) by omega)]
    simp only [cond_false, Option.bind_some, ← q1]
    rw [rnumbers_ok hb (n := m1) (by omega) (by omega) (a := no) (by omega) (by omega) 0 w, decide_eq_false (show ¬ (m1 : Int) * sz w > (b.length : Int) - no by omega)]
    simp only [cond_false, Option.bind_some, ← q2]
    rw [rskip_ok hb k (n := 2 * (m2 : Int)) (a := to_) (by omega) (by omega) (by omega) 0 w, decide_eq_false (show ¬ 2 * (m2 : Int) > (b.length : Int) - to_ by omega)]
    simp only [cond_false, Option.bind_some]
    rw [show to_ + 2 * (m2 : Int) = ta by omega, rskip_ok hb k (n := (m4 : Int)) (a := ta) (by omega) (by omega) (by omega) 0 w, decide_eq_false (show ¬ (m4 : Int) > (b.length : Int) - ta by omega)]
    simp only [cond_false, Option.bind_some, show ((0 : Int) != 0) = false from rfl, inJ_t (x := fo) (by omega) (by omega), cond_true, inR_t (l := 12) (h := fo) (n := b.length) (by omega) (by omega) (by omega), hS, hnl]
    have hib : F_strings_IndexByte k (nameS b N) 0 = some (Lib.indexByte (nameS b N) 0) := rfl
    simp only [hib, Option.bind_some, inJ_t (x := (N : Int) - 1) (by omega) (by omega), cond_true]
    unfold nameBad
    have hN2 : decide ((N : Int) < 2) = ((N : Int) == 1) := by
      cases h : (N : Int) == 1 with
      | true => have := eq_of_beq h; exact decide_eq_true (by omega)
      | false =>
        have : (N : Int) ≠ 1 := by simpa using h
        exact decide_eq_false (by omega)
    rw [hN2]
    have hfail : F_lanyardref03_reader_fail k 33 12 b (ta + m4) 0 0 w = some (b, (ta + m4, (33, (12, w)))) := rfl
    cases hx : Lib.indexByte (nameS b N) 0 != (N : Int) - 1 with
    | true => simp only [cond_true, Option.bind_some, hfail, Bool.or_true]
    | false =>
      cases hy : (N : Int) == 1 with
      | true => simp only [cond_true, cond_false, Option.bind_some, hfail, Bool.true_or]
      | false =>
        simp only [cond_true, cond_false, Option.bind_some, Bool.or_self, hnl, inJ_t (x := (N : Int) - 1) (by omega) (by omega), inR_t (l := 0) (h := (N : Int) - 1) (n := N) (by omega) (by omega) (by omega), L4, L3, g3, g4, e2, e4, inJ_t (x := ta + (m4 : Int)) (by omega) (by omega), inR_t (l := ta) (h := ta + (m4 : Int)) (n := b.length) (by omega) (by omega) (by omega)]
        rfl
  rw [hbody]
  cases hne : nameBad b N with
  | true => rw [if_pos rfl]; exact ⟨_, rfl⟩
  | false =>
    rw [if_neg (by decide), cond_false]
    have hto := taken_ok hb (k := k) (n := m2) (by omega) (by omega) (T := tbl b ta m4) (by omega) (to_ := to_) (by omega) (by omega) (ta + m4) 0 w
    have htp := text_list_ok hb (k := k) (n := m2) (by omega) (by omega) (ta := ta) (size := m4) (to_ := to_) (by omega) (by omega) (by omega) (by omega) (by omega) (ta + m4) w 0 0 0 0 0 0 0
    cases hR : runE (txStep (tbl b ta m4) b to_) m2 0 (-1, (0, [])) with
    | inl i =>
      rw [hR] at hto
      obtain ⟨g, hto⟩ := hto
      rw [hto, Option.bind_some]
      exact ⟨_, rfl⟩
    | inr s =>
      rw [hR] at hto
      obtain ⟨i1, i2, i3⟩ := htp.2 s hR
      simp only
      rw [hto, Option.bind_some]
      exact ⟨i1, rfl⟩
end
end Go.Proofs.YtjobkhfmoammdaaGreatDoor
