/- Joined texts: Pd. -/
import Derived.Test.YtjobkhfmoammdaaGreatDoorPc
import Derived.Test.YtjobkhfmoammdaaGreatDoorVb
set_option linter.unusedVariables false
set_option linter.unusedSimpArgs false
set_option linter.unusedSectionVars false
set_option maxRecDepth 100000
namespace Go.Proofs.YtjobkhfmoammdaaGreatDoor
open Go.RowKit Go.Av Go.Proofs
theorem trim_ok (k : Nat) : ∀ (n : Nat) (l : List CapT), l.length < n → l.length ≤ 1000000 → ∃ r, L_lanyardref03_trim_1 k n l = some r ∧ r.length ≤ l.length
  | 0, l, h, _ => absurd h (Nat.not_lt_zero _)
  | n + 1, l, h, hl => by
    rw [L_lanyardref03_trim_1, inI_J]
    by_cases h0 : (l.length : Int) > 0
    · rw [decide_eq_true h0]
      simp only [cond_true, inJ_t (x := (l.length : Int) - 1) (by omega) (by omega), inL_t (i := (l.length : Int) - 1) (n := l.length) (by omega) (by omega), Option.bind_some]
      generalize (((l.getD (Int.toNat ((l.length : Int) - 1)) (0, (0, []))).1 == 0) && (((l.getD (Int.toNat ((l.length : Int) - 1)) (0, (0, []))).2.1 == 0) && ((l.getD (Int.toNat ((l.length : Int) - 1)) (0, (0, []))).2.2 == []))) = c
      cases c with
      | false => exact ⟨l, rfl, Nat.le_refl _⟩
      | true =>
        have hc := cut_len l (l := 0) (h := (l.length : Int) - 1) (by omega) (by omega) (by omega)
        obtain ⟨r, h1, h2⟩ := trim_ok k n (cut l 0 ((l.length : Int) - 1)) (by omega) (by omega)
        simp only [cond_true, inR_t (l := 0) (h := (l.length : Int) - 1) (n := l.length) (by omega) (by omega) (by omega)]
        exact ⟨r, h1, by omega⟩
    · rw [decide_eq_false h0]
      exact ⟨l, rfl, Nat.le_refl _⟩
theorem scaps_at (k : Nat) (l : List CapT) (hl : l.length ≤ 1000000) : ∀ (c m i : Nat), i + c = l.length → c < m → L_lanyardref03_sameCaps_1 k m l l i = some (Sum.inl ())
  | 0, m + 1, i, h, _ => by
    have : i = l.length := by omega
    rw [L_lanyardref03_sameCaps_1, this, not_lt_self, cond_false]
  | c + 1, m + 1, i, h, h2 => by
    have ih := scaps_at k l hl c m (i + 1) (by omega) (by omega)
    rw [L_lanyardref03_sameCaps_1, inI_J, lt_t (show (i : Int) < (l.length : Int) by omega), inL_t (i := (i : Int)) (n := l.length) (by omega) (by omega)]
    simp only [cond_true, BEq.rfl, Bool.and_self, Bool.not_true, cond_false, inJ_t (x := (i : Int) + 1) (by omega) (by omega)]
    exact ih
theorem scaps_ok {k : Nat} {l : List CapT} (hl : l.length ≤ 1000) (hk : 1000 < k) : F_lanyardref03_sameCaps k l l = some true := by
  obtain ⟨r, h1, h2⟩ := trim_ok k k l (by omega) (by omega)
  have h := scaps_at k r (by omega) r.length k 0 (by omega) (by omega)
  have h : L_lanyardref03_sameCaps_1 k k r r 0 = _ := h
  unfold F_lanyardref03_sameCaps F_lanyardref03_trim
  rw [h1]
  simp only [Option.bind_some, bne_self_eq_false, cond_false]
  rw [h]
  rfl
theorem same1_at (k : Nat) (n1 : Str) (w1 : Bool) (a1 a2 a3 : List CapT) (l : List ExtT) (hl : l.length ≤ 1000000) : ∀ (c m i : Nat), i + c = l.length → c < m → L_lanyardref03_Same_1 k m i n1 w1 a1 a2 a3 l n1 w1 a1 a2 a3 l = some (Sum.inl ())
  | 0, m + 1, i, h, _ => by
    have : i = l.length := by omega
    rw [L_lanyardref03_Same_1, this, not_lt_self, cond_false]
  | c + 1, m + 1, i, h, h2 => by
    have ih := same1_at k n1 w1 a1 a2 a3 l hl c m (i + 1) (by omega) (by omega)
    rw [L_lanyardref03_Same_1, inI_J, lt_t (show (i : Int) < (l.length : Int) by omega), inL_t (i := (i : Int)) (n := l.length) (by omega) (by omega)]
    simp only [cond_true, BEq.rfl, Bool.and_self, Bool.not_true, cond_false, inJ_t (x := (i : Int) + 1) (by omega) (by omega)]
    exact ih
theorem runE_lt {S R : Type} {f : Nat → S → R ⊕ S} {g : R → Nat} (h : ∀ i s r, f i s = .inl r → g r = i) : ∀ {c i : Nat} {s : S} {r : R}, runE f c i s = .inl r → i ≤ g r ∧ g r < i + c
  | 0, i, s, r, hr => by cases hr
  | c + 1, i, s, r, hr => by
    rw [runE] at hr
    cases hf : f i s with
    | inl r' =>
      rw [hf] at hr
      injection hr with hr
      subst hr
      have := h i s r' hf
      omega
    | inr s' =>
      rw [hf] at hr
      have := runE_lt h (c := c) (i := i + 1) (s := s') (r := r) hr
      omega
theorem txStep_inl (T : Str) (b : List Int) (to_ : Int) : ∀ (i : Nat) (s : TxS) (r : Nat), txStep T b to_ i s = .inl r → id r = i := fun i s r hf => by
  unfold txStep at hf
  cases hd : decide (sh b (to_ + (i : Int) * 2) ≥ 0) with
  | false => rw [hd] at hf; cases hf
  | true =>
    rw [hd, cond_true] at hf
    split at hf
    · injection hf with hf; exact hf.symm
    · cases hf
theorem nm_run {T : Str} {b : List Int} {eo beh kind : Int} {l : List CapT} : ∀ {c i : Nat} {out : List ExtT}, (∀ off, runE (nmStep T b eo beh kind l) c i out = .inl off → eo + 2 * (out.length : Int) ≤ off ∧ off < eo + 2 * ((out.length + c : Nat) : Int)) ∧ ∀ out', runE (nmStep T b eo beh kind l) c i out = .inr out' → out'.length = out.length + c
  | 0, i, out => ⟨fun off h => (by cases h), fun out' h => by injection h with h; subst h; rfl⟩
  | c + 1, i, out => by
    rw [runE]
    cases hf : nmStep T b eo beh kind l i out with
    | inl r =>
      refine ⟨fun off h => ?_, fun _ h => by cases h⟩
      injection h with h
      subst h
      have : r = eo + 2 * (out.length : Int) := by
        unfold nmStep at hf
        cases hd : decide (sh b (eo + 2 * (out.length : Int)) < 0) with
        | true => rw [hd] at hf; injection hf with hf; exact hf.symm
        | false =>
          rw [hd, cond_false] at hf
          split at hf
          · injection hf with hf; exact hf.symm
          · rename_i x hx
            cases hk : okName out x with
            | true => rw [hk] at hf; cases hf
            | false => rw [hk] at hf; injection hf with hf; exact hf.symm
      omega
    | inr out1 =>
      have hl := nmStep_len hf
      have ih := nm_run (T := T) (b := b) (eo := eo) (beh := beh) (kind := kind) (l := l) (c := c) (i := i + 1) (out := out1)
      refine ⟨fun off h => ?_, fun out' h => ?_⟩
      · have := ih.1 off h; omega
      · have := ih.2 out' h; omega
theorem nm3_off {T : Str} {b : List Int} {eo beh off : Int} {l0 l1 l2 : List CapT} (h : nm3 T b eo beh l0 l1 l2 = .inl off) : eo ≤ off ∧ off < eo + 2 * ((l0.length + l1.length + l2.length : Nat) : Int) := by
  unfold nm3 at h
  have r0 := nm_run (T := T) (b := b) (eo := eo) (beh := beh) (kind := 0) (l := l0) (c := l0.length) (i := 0) (out := [])
  cases h0 : runE (nmStep T b eo beh 0 l0) l0.length 0 [] with
  | inl o =>
    rw [h0] at h
    injection h with h
    subst h
    have := r0.1 o h0
    simp at this
    omega
  | inr out0 =>
    rw [h0] at h
    have n0 := r0.2 out0 h0
    have r1 := nm_run (T := T) (b := b) (eo := eo) (beh := beh) (kind := 1) (l := l1) (c := l1.length) (i := 0) (out := out0)
    simp only at h
    cases h1 : runE (nmStep T b eo beh 1 l1) l1.length 0 out0 with
    | inl o =>
      rw [h1] at h
      injection h with h
      subst h
      have := r1.1 o h1
      simp at n0
      omega
    | inr out1 =>
      rw [h1] at h
      have n1 := r1.2 out1 h1
      have r2 := nm_run (T := T) (b := b) (eo := eo) (beh := beh) (kind := 2) (l := l2) (c := l2.length) (i := 0) (out := out1)
      have := r2.1 off h
      simp at n0
      omega
def SmallT (t : TermT) : Prop := t.2.2.1.length ≤ 1000 ∧ t.2.2.2.1.length ≤ 1000 ∧ t.2.2.2.2.1.length ≤ 1000 ∧ t.2.2.2.2.2.length ≤ 1000
theorem same_refl {k : Nat} (hk : 1000 < k) {t : TermT} (h : SmallT t) : F_lanyardref03_Same k t t = some true := by
  obtain ⟨h1, h2, h3, h4⟩ := h
  have hx := same1_at k t.1 t.2.1 t.2.2.1 t.2.2.2.1 t.2.2.2.2.1 t.2.2.2.2.2 (by omega) t.2.2.2.2.2.length k 0 (by omega) (by omega)
  have hx : L_lanyardref03_Same_1 k k 0 t.1 t.2.1 t.2.2.1 t.2.2.2.1 t.2.2.2.2.1 t.2.2.2.2.2 t.1 t.2.1 t.2.2.1 t.2.2.2.1 t.2.2.2.2.1 t.2.2.2.2.2 = _ := hx
  unfold F_lanyardref03_Same
  simp only [BEq.rfl, Bool.not_true, cond_false, scaps_ok h1 hk, scaps_ok h2 hk, scaps_ok h3 hk, Option.bind_some, bne_self_eq_false]
  rw [hx]
  rfl
def t0T : TermT := ([], (false, ([], ([], ([], [])))))
theorem t0_small : SmallT t0T := ⟨Nat.zero_le _, Nat.zero_le _, Nat.zero_le _, Nat.zero_le _⟩
section
variable {b : List Int} (hb : BOk b)
include hb
theorem nat_of {x : Int} (h : 0 ≤ x) : ∃ n : Nat, x = n := Int.eq_ofNat_of_zero_le h
theorem ext_both {k : Nat} (hk : 1000 ≤ k) {o bad : Int} {w : Bool} (ho : 0 ≤ o) (ho' : o ≤ b.length) : ∃ r, Ext k b o bad w r := by
  have hlen := hb.len
  by_cases h10 : o + 10 ≤ b.length
  · cases hfb : fbad (bad2 b o) 5 0 with
    | some j =>
      have hj := fbad_lt hfb
      have hx := ext1_at hb ho h10 k o w 5 k 0 rfl (by omega)
      rw [hfb] at hx
      have hx : L_tinfo_reader_extended_1 k k o 0 0 b o w = _ := hx
      obtain ⟨a', h2⟩ := ref_counts hb (bad := bad) (w := w) hk ho h10 hfb
      refine ext_bad hb (at_ := o + 2 * (j : Int)) (e := 32) (by decide) (by omega) (by omega) ⟨o, ?_⟩ ⟨_, _, h2⟩
      unfold F_tinfo_reader_extended
      rw [tneed_ok hb k ho (by omega) w, decide_eq_false (show ¬ (10 : Int) > (b.length : Int) - o by omega)]
      simp only [cond_false, Option.bind_some, either]
      rw [hx]
      rfl
    | none =>
      have hbd := fbad_none hfb
      have z0 : 0 ≤ sh b o := by
        have := hbd 0 (by omega) (by omega)
        unfold bad2 at this
        simp only [Bool.or_eq_false_iff, decide_eq_false_iff_not] at this
        have := this.1
        simp at this
        omega
      have z1 : 0 ≤ sh b (o + 2) := by
        have := hbd 1 (by omega) (by omega)
        unfold bad2 at this
        simp only [Bool.or_eq_false_iff, decide_eq_false_iff_not] at this
        have := this.1
        simp at this
        omega
      have z2 : 0 ≤ sh b (o + 4) ∧ sum3 b o ≤ 256 := by
        have := hbd 2 (by omega) (by omega)
        unfold bad2 at this
        simp only [Bool.or_eq_false_iff, decide_eq_false_iff_not] at this
        obtain ⟨p, q⟩ := this
        simp at p q
        omega
      have z4 : 0 ≤ sh b (o + 8) := by
        have := hbd 4 (by omega) (by omega)
        unfold bad2 at this
        simp only [Bool.or_eq_false_iff, decide_eq_false_iff_not] at this
        have := this.1
        simp at this
        omega
      obtain ⟨m0, e0⟩ := nat_of hb z0
      obtain ⟨m1, e1⟩ := nat_of hb z1
      obtain ⟨m2, e2⟩ := nat_of hb z2.1
      obtain ⟨m4, e4⟩ := nat_of hb z4
      have hs : m0 + m1 + m2 ≤ 256 := by have := z2.2; unfold sum3 at this; omega
      have h4 : m4 ≤ 32767 := by have := sh_rng hb (o + 8); omega
      obtain ⟨no, q1⟩ : ∃ no, no = o + 10 + (m0 : Int) + (o + 10 + m0) % 2 := ⟨_, rfl⟩
      obtain ⟨to_, q2⟩ : ∃ t, t = no + (m1 : Int) * sz w := ⟨_, rfl⟩
      obtain ⟨eo, q3⟩ : ∃ t, t = to_ + (m2 : Int) * 2 := ⟨_, rfl⟩
      obtain ⟨ta, q4⟩ : ∃ t, t = eo + ((m0 + m1 + m2 : Nat) : Int) * 2 := ⟨_, rfl⟩
      have hsz := sz_le w
      have hm0 : 0 ≤ (m1 : Int) * sz w := Int.mul_nonneg (by omega) (by omega)
      have hp := ext_prog hb hk ho h10 hfb e0 e1 e2 e4 hs h4 q1 q2 q3 q4
      have hr := ref_body hb (bad := bad) (w := w) hk ho h10 hfb e0 e1 e2 e4 hs h4
      by_cases hen : ta + m4 > (b.length : Int)
      · rw [decide_eq_true hen, cond_true] at hp
        obtain ⟨a', h2⟩ := ref_short hb (bad := bad) hk ho h10 hs h4 q1 q2 q3 q4 hen
        exact ext_bad hb (at_ := b.length) (e := 31) (by decide) (by omega) (by omega) ⟨_, hp⟩ ⟨_, _, hr.trans h2⟩
      · rw [decide_eq_false hen, cond_false] at hp
        have ha := ref_all hb (bad := bad) hk ho h10 e2 e4 hs h4 q1 q2 q3 q4 hen
        cases hne : sh b (o + 6) != ((m0 + m1 + m2 : Nat) : Int) + thrN b to_ m2 0 with
        | true =>
          rw [hne, if_pos rfl] at ha
          rw [hne, cond_true] at hp
          exact ext_bad hb (at_ := o + 6) (e := 32) (by decide) (by omega) (by omega) ⟨_, hp⟩ ⟨_, _, hr.trans ha⟩
        | false =>
          rw [hne, if_neg (by decide)] at ha
          rw [hne, cond_false] at hp
          have htp := text_list_ok hb (k := k) (n := m2) (by omega) (by omega) (ta := ta) (size := m4) (to_ := to_) (by omega) (by omega) (by omega) (by omega) (by omega) (ta + m4) w 0 0 0 0 0 0 0
          cases hR : runE (txStep (tbl b ta m4) b to_) m2 0 (-1, (0, [])) with
          | inl i =>
            rw [hR] at ha hp
            obtain ⟨g, ha⟩ := ha
            have hi : 0 ≤ i ∧ i < 0 + m2 := runE_lt (txStep_inl (tbl b ta m4) b to_) hR
            exact ext_bad hb (at_ := to_ + (i : Int) * 2) (e := 33) (by decide) (by omega) (by omega) ⟨_, hp⟩ ⟨_, _, hr.trans ha⟩
          | inr s =>
            rw [hR] at ha hp
            simp only at ha hp
            obtain ⟨i1, i2, i3⟩ := htp.2 s hR
            cases hN : nm3 (tbl b ta m4) b eo s.2.1 (flagsS b (o + 10) m0) (numsS w b no m1) s.2.2 with
            | inl off =>
              rw [hN] at ha hp
              obtain ⟨g, ha⟩ := ha
              have hoff := nm3_off hN
              rw [flagsS_len hb, numsS_len hb, i1] at hoff
              exact ext_bad hb (at_ := off) (e := 33) (by decide) (by omega) (by omega) ⟨_, hp⟩ ⟨_, _, hr.trans ha⟩
            | inr out =>
              rw [hN] at ha hp
              refine ⟨.inr (out, ta + m4), ⟨fun _ _ h => (by cases h), fun out' en' h => ?_⟩⟩
              injection h with h
              injection h with p q
              subst p; subst q
              refine ⟨by have := ha.1; omega, by omega, by omega, ?_, hr.trans ha.2⟩
              rw [hp]
  · obtain ⟨a', h2⟩ := ref_end hb (bad := bad) (w := w) hk ho ho' h10
    refine ext_bad hb (at_ := b.length) (e := 31) (by decide) (by omega) (by omega) ⟨o, ?_⟩ ⟨_, _, h2⟩
    unfold F_tinfo_reader_extended
    rw [tneed_ok hb k ho ho' w, decide_eq_true (show (10 : Int) > (b.length : Int) - o by omega)]
    rfl
theorem read_err {k : Nat} {at_ e : Int} {st : List Int × Int × Bool} (h : F_tinfo_reader_entry k b 0 false = some (Sum.inr ((at_, e), st))) : F_tinfo_Read k b = some (t0T, (at_, e)) := by
  unfold F_tinfo_Read
  rw [h]
  rfl
theorem rread_err {k : Nat} {a' e at_ : Int} {t : TermT} {w : Bool} (he : e ≠ 0) (h0 : 0 ≤ a') (h1 : a' ≤ b.length) (h : F_lanyardref03_reader_first k b 0 0 0 false = some (t, (b, (a', (e, (at_, w)))))) : F_lanyardref03_Read k b = some (t0T, (at_, e)) := by
  have hlen := hb.len
  have e0 : (e == 0) = false := by simpa using he
  have e1 : (e != 0) = true := by simpa using he
  unfold F_lanyardref03_Read
  rw [inI_J, h]
  simp only [Option.bind_some, inJ_t (x := (b.length : Int) - a') (by omega) (by omega), cond_true, e0, cond_false, e1]
  rfl
/-- Behind the first part. -/
theorem tail_both {k : Nat} (hk : 1000 ≤ k) {w : Bool} {en : Int} (h0 : 0 ≤ en) (h1 : en ≤ b.length) {nm : Str} {bo nu st : List CapT} (s1 : bo.length ≤ 1000) (s2 : nu.length ≤ 1000) (s3 : st.length ≤ 1000) (hp : F_tinfo_reader_entry k b 0 false = tailOf k b w en nm bo nu st) (hr : F_lanyardref03_reader_first k b 0 0 0 false = some ((nm, (w, (bo, (nu, (st, []))))), (b, (en, (0, (0, w)))))) :
    ∃ r : TermT × Int × Int, F_tinfo_Read k b = some r ∧ F_lanyardref03_Read k b = some r ∧ 0 ≤ r.2.1 ∧ r.2.1 ≤ b.length ∧ SmallT r.1 := by
  have hlen := hb.len
  have hmod : Int.tmod en 2 = en % 2 := Int.tmod_eq_emod_of_nonneg h0
  have hI : inJ ((b.length : Int) - en) = true := inJ_t (by omega) (by omega)
  cases hc : (bif (b.length : Int) - en == 0 then true else bif (b.length : Int) - en == 1 then en % 2 == 1 else false) with
  | true =>
    unfold tailOf at hp
    rw [hc, cond_true] at hp
    refine ⟨((nm, (w, (bo, (nu, (st, []))))), (0, 0)), ?_, ?_, Int.le_refl 0, by show (0 : Int) ≤ _; omega, ⟨s1, s2, s3, Nat.zero_le _⟩⟩
    · unfold F_tinfo_Read
      rw [hp]
      rfl
    · unfold F_lanyardref03_Read
      rw [inI_J, hr]
      simp only [Option.bind_some, hI, cond_true, BEq.rfl, hmod]
      cases hz : (b.length : Int) - en == 0 with
      | true =>
        have hz := eq_of_beq hz
        rw [decide_eq_false (show ¬ (b.length : Int) - en > 0 by omega)]
        rfl
      | false =>
        have hz' : (b.length : Int) - en ≠ 0 := by simpa using hz
        rw [hz, cond_false] at hc
        rw [decide_eq_true (show (b.length : Int) - en > 0 by omega)]
        cases ho : (b.length : Int) - en == 1 with
        | false => rw [ho] at hc; cases hc
        | true =>
          rw [ho, cond_true] at hc
          rw [hc]
          rfl
  | false =>
    unfold tailOf at hp
    rw [hc, cond_false] at hp
    have hz : ((b.length : Int) - en == 0) = false := by
      cases hz : (b.length : Int) - en == 0 with
      | false => rfl
      | true => rw [hz] at hc; cases hc
    have hz' : (b.length : Int) - en ≠ 0 := by simpa using hz
    rw [hz, cond_false] at hc
    have hfit : ¬ en % 2 > (b.length : Int) - en := by
      cases ho : (b.length : Int) - en == 1 with
      | false =>
        have : (b.length : Int) - en ≠ 1 := by simpa using ho
        omega
      | true =>
        rw [ho, cond_true] at hc
        have hc : en % 2 ≠ 1 := by simpa using hc
        omega
    have hgo : (bif (b.length : Int) - en == 1 then some (b, (!(en % 2 == 1), ((b, (en, ((0 : Int), ((0 : Int), w)))), (nm, (w, (bo, (nu, (st, ([] : List ExtT))))))))) else some (b, (true, ((b, (en, ((0 : Int), ((0 : Int), w)))), (nm, (w, (bo, (nu, (st, [])))))))) : Option ((List Int) × Bool × ((List Int) × Int × Int × Int × Bool) × TermT)) = some (b, (true, ((b, (en, ((0 : Int), ((0 : Int), w)))), (nm, (w, (bo, (nu, (st, [])))))))) := by
      cases ho : (b.length : Int) - en == 1 with
      | false => rfl
      | true => rw [ho, cond_true] at hc; rw [hc]; rfl
    obtain ⟨r, hE⟩ := ext_both hb (bad := 0) (w := w) hk (o := en + en % 2) (by omega) (by omega)
    have href : F_lanyardref03_Read k b = (F_lanyardref03_reader_second k b (en + en % 2) 0 0 w).bind fun z4 =>
       ((bif z4.2.2.2.1 == 0 then some (decide (z4.2.2.1 < (b.length : Int)), (z4.2, (nm, (w, (bo, (nu, (st, z4.1))))))) else some (false, (z4.2, (nm, (w, (bo, (nu, (st, z4.1))))))) : Option (Bool × ((List Int) × Int × Int × Int × Bool) × TermT)).bind fun z5 =>
        (bif z5.1 then (F_lanyardref03_reader_fail k 34 z5.2.1.2.1 z5.2.1.1 z5.2.1.2.1 z5.2.1.2.2.1 z5.2.1.2.2.2.1 z5.2.1.2.2.2.2).bind fun z6 => some (z6, z5.2.2) else some z5.2)).bind fun z7 =>
          bif z7.1.2.2.1 != 0 then some (t0T, (z7.1.2.2.2.1, z7.1.2.2.1)) else some (z7.2, (0, 0)) := by
      unfold F_lanyardref03_Read
      rw [inI_J, hr]
      simp only [Option.bind_some, hI, cond_true, BEq.rfl, hmod]
      rw [decide_eq_true (show (b.length : Int) - en > 0 by omega), cond_true, hgo]
      simp only [Option.bind_some, cond_true]
      rw [reven_ok hb k h0 h1 0 w, decide_eq_false hfit]
      simp only [cond_false, Option.bind_some]
      cases F_lanyardref03_reader_second k b (en + en % 2) 0 0 w <;> rfl
    cases r with
    | inl p =>
      obtain ⟨at_, e⟩ := p
      obtain ⟨he, b0, b1, ⟨a', h2⟩, g, a2, h3⟩ := hE.bad_ at_ e rfl
      rw [h2] at hp
      have e0 : (e == 0) = false := by simpa using he
      have e1 : (e != 0) = true := by simpa using he
      refine ⟨(t0T, (at_, e)), read_err hb (st := (b, (a', w))) hp, ?_, b0, b1, t0_small⟩
      rw [href, h3]
      simp only [Option.bind_some, e0, e1, cond_false, cond_true]
    | inr p =>
      obtain ⟨out, en'⟩ := p
      obtain ⟨hl, b0, b1, h2, h3⟩ := hE.ok_ out en' rfl
      rw [h2] at hp
      rw [h3] at href
      cases hd : decide (en' < (b.length : Int)) with
      | true =>
        rw [hd] at hp
        refine ⟨(t0T, (en', 34)), read_err hb (st := (b, (en', w))) hp, ?_, b0, b1, t0_small⟩
        rw [href]
        simp only [Option.bind_some, BEq.rfl, cond_true, hd]
        rfl
      | false =>
        rw [hd] at hp
        refine ⟨((nm, (w, (bo, (nu, (st, out))))), (0, 0)), ?_, ?_, Int.le_refl 0, by show (0 : Int) ≤ _; omega, ⟨s1, s2, s3, by show out.length ≤ _; omega⟩⟩
        · unfold F_tinfo_Read
          rw [hp]
          rfl
        · rw [href]
          simp only [Option.bind_some, BEq.rfl, cond_true, hd]
          rfl
theorem read_both {k : Nat} (hk : 1000 ≤ k) : ∃ r : TermT × Int × Int, F_tinfo_Read k b = some r ∧ F_lanyardref03_Read k b = some r ∧ 0 ≤ r.2.1 ∧ r.2.1 ≤ b.length ∧ SmallT r.1 := by
  have hlen := hb.len
  by_cases hl : 12 ≤ (b.length : Int)
  · cases hm : (bif sh b 0 != 282 then sh b 0 != 542 else false) with
    | true =>
      have h282 : (sh b 0 != 282) = true := by
        cases h : sh b 0 != 282 with
        | true => rfl
        | false => rw [h] at hm; cases hm
      rw [h282, cond_true] at hm
      refine ⟨(t0T, (0, 30)), read_err hb (st := (b, (0, false))) ?_, rread_err hb (e := 30) (a' := 2) (t := t0T) (w := false) (by decide) (by decide) (by omega) ?_, by decide, by show (0 : Int) ≤ _; omega, t0_small⟩
      · unfold F_tinfo_reader_entry
        rw [tneed_ok hb k (n := 12) (a := 0) (by omega) (by omega) false, decide_eq_false (show ¬ (12 : Int) > (b.length : Int) - 0 by omega)]
        simp only [cond_false, Option.bind_some, either]
        rw [short_ok hb k (a := 0) (by omega) (by omega)]
        simp only [Option.bind_some, h282, hm, cond_true]
        rfl
      · unfold F_lanyardref03_reader_first
        rw [lt_f (show ¬ (b.length : Int) < 12 by omega), cond_false, rshort_ok hb k (a := 0) (by omega) (by omega)]
        simp only [Option.bind_some, h282, hm, cond_true]
        rfl
    | false =>
      obtain ⟨w, hw⟩ : ∃ w, w = (sh b 0 == 542) := ⟨_, rfl⟩
      cases hfb : fbad (bad1 b) 5 0 with
      | some j =>
        have hj := fbad_lt hfb
        have hx := entry1_at hb hl k 0 w 5 k 0 rfl (by omega)
        rw [hfb] at hx
        have hx : L_tinfo_reader_entry_1 k k (512, (64, (64, (512, 32767)))) 0 b 0 w = _ := hx
        obtain ⟨t, h2⟩ := fst_counts hb hk hl hm hw hfb
        refine ⟨(t0T, (2 + 2 * (j : Int), 32)), read_err hb (st := (b, (0, w))) ?_, rread_err hb (e := 32) (a' := 12) (by decide) (by decide) (by omega) h2, by show 0 ≤ 2 + 2 * (j : Int); omega, by show 2 + 2 * (j : Int) ≤ _; omega, t0_small⟩
        have hmag : ((bif sh b 0 != 282 then some (sh b 0, (sh b 0 != 542, (b, ((0 : Int), false)))) else some (sh b 0, (false, (b, ((0 : Int), false)))) : Option (Int × Bool × (List Int) × Int × Bool))) = some (sh b 0, (false, (b, ((0 : Int), false)))) := by
          cases h1 : sh b 0 != 282 with
          | false => rfl
          | true => rw [h1, cond_true] at hm; rw [cond_true, hm]
        unfold F_tinfo_reader_entry
        rw [tneed_ok hb k (n := 12) (a := 0) (by omega) (by omega) false, decide_eq_false (show ¬ (12 : Int) > (b.length : Int) - 0 by omega)]
        simp only [cond_false, Option.bind_some, either]
        rw [short_ok hb k (a := 0) (by omega) (by omega)]
        simp only [Option.bind_some]
        rw [hmag]
        simp only [Option.bind_some, cond_false, ← hw]
        rw [hx]
        rfl
      | none =>
        have hbd := fbad_none hfb
        have zN : 1 ≤ sh b 2 ∧ sh b 2 ≤ 512 := by
          have := hbd 0 (by omega) (by omega)
          unfold bad1 at this
          simp only [Bool.or_eq_false_iff, decide_eq_false_iff_not] at this
          obtain ⟨p, q, r⟩ := this
          simp [most5] at p q r
          omega
        have z0 : 0 ≤ sh b 4 ∧ sh b 4 ≤ 64 := by
          have := hbd 1 (by omega) (by omega)
          unfold bad1 at this
          simp only [Bool.or_eq_false_iff, decide_eq_false_iff_not] at this
          obtain ⟨p, q, r⟩ := this
          simp [most5] at p q
          omega
        have z1 : 0 ≤ sh b 6 ∧ sh b 6 ≤ 64 := by
          have := hbd 2 (by omega) (by omega)
          unfold bad1 at this
          simp only [Bool.or_eq_false_iff, decide_eq_false_iff_not] at this
          obtain ⟨p, q, r⟩ := this
          simp [most5] at p q
          omega
        have z2 : 0 ≤ sh b 8 ∧ sh b 8 ≤ 512 := by
          have := hbd 3 (by omega) (by omega)
          unfold bad1 at this
          simp only [Bool.or_eq_false_iff, decide_eq_false_iff_not] at this
          obtain ⟨p, q, r⟩ := this
          simp [most5] at p q
          omega
        have z4 : 0 ≤ sh b 10 ∧ sh b 10 ≤ 32767 := by
          have := hbd 4 (by omega) (by omega)
          unfold bad1 at this
          simp only [Bool.or_eq_false_iff, decide_eq_false_iff_not] at this
          obtain ⟨p, q, r⟩ := this
          simp [most5] at p q
          omega
        obtain ⟨N, eN⟩ := nat_of hb (show 0 ≤ sh b 2 by omega)
        obtain ⟨m0, e0⟩ := nat_of hb z0.1
        obtain ⟨m1, e1⟩ := nat_of hb z1.1
        obtain ⟨m2, e2⟩ := nat_of hb z2.1
        obtain ⟨m4, e4⟩ := nat_of hb z4.1
        have hN : 1 ≤ N ∧ N ≤ 512 := by omega
        have l0 : m0 ≤ 64 := by omega
        have l1 : m1 ≤ 64 := by omega
        have l2 : m2 ≤ 512 := by omega
        have l4 : m4 ≤ 32767 := by omega
        obtain ⟨fo, q0⟩ : ∃ t, t = 12 + (N : Int) := ⟨_, rfl⟩
        obtain ⟨no, q1⟩ : ∃ t, t = fo + (m0 : Int) + (fo + m0) % 2 := ⟨_, rfl⟩
        obtain ⟨to_, q2⟩ : ∃ t, t = no + (m1 : Int) * sz w := ⟨_, rfl⟩
        obtain ⟨ta, q3⟩ : ∃ t, t = to_ + (m2 : Int) * 2 := ⟨_, rfl⟩
        have hsz := sz_le w
        have hm0 : 0 ≤ (m1 : Int) * sz w := Int.mul_nonneg (by omega) (by omega)
        have hp := entry_prog hb hk hl hm hw hfb eN e0 e1 e2 e4 hN l0 l1 l2 l4 q0 q1 q2 q3
        have hr := fst_body hb hk hl hm hw hfb eN e0 e1 e2 e4 l2
        by_cases hen : ta + m4 > (b.length : Int)
        · rw [decide_eq_true hen, cond_true] at hp
          obtain ⟨t, a', c0, c1, h2⟩ := fst_short hb hk hl hN l0 l1 l2 l4 q0 q1 q2 q3 hen
          exact ⟨(t0T, ((b.length : Int), 31)), read_err hb hp, rread_err hb (by decide) c0 c1 (hr.trans h2), by show 0 ≤ (b.length : Int); omega, Int.le_refl _, t0_small⟩
        · rw [decide_eq_false hen, cond_false] at hp
          have ha := fst_all hb hk hl (w := w) e2 e4 hN l0 l1 l2 l4 q0 q1 q2 q3 hen
          cases hne : nameBad b N with
          | true =>
            rw [hne, if_pos rfl] at ha
            rw [hne, cond_true] at hp
            obtain ⟨t, h2⟩ := ha
            exact ⟨(t0T, (12, 33)), read_err hb hp, rread_err hb (by decide) (by omega) (by omega) (hr.trans h2), by decide, by show (12 : Int) ≤ _; omega, t0_small⟩
          | false =>
            rw [hne, if_neg (by decide)] at ha
            rw [hne, cond_false] at hp
            cases hR : runE (txStep (tbl b ta m4) b to_) m2 0 (-1, (0, [])) with
            | inl i =>
              rw [hR] at ha hp
              obtain ⟨t, h2⟩ := ha
              have hi : 0 ≤ i ∧ i < 0 + m2 := runE_lt (txStep_inl (tbl b ta m4) b to_) hR
              exact ⟨(t0T, (to_ + (i : Int) * 2, 33)), read_err hb hp, rread_err hb (by decide) (by omega) (by omega) (hr.trans h2), by show 0 ≤ to_ + (i : Int) * 2; omega, by show to_ + (i : Int) * 2 ≤ _; omega, t0_small⟩
            | inr s =>
              rw [hR] at ha hp
              obtain ⟨i1, ha⟩ := ha
              exact tail_both hb hk (by omega) (by omega) (by rw [flagsS_len hb]; omega) (by rw [numsS_len hb]; omega) (by omega) hp (hr.trans ha)
  · refine ⟨(t0T, ((b.length : Int), 31)), read_err hb (st := (b, (0, false))) ?_, rread_err hb (e := 31) (a' := 0) (t := t0T) (w := false) (by decide) (by decide) (by omega) ?_, by show 0 ≤ (b.length : Int); omega, Int.le_refl _, t0_small⟩
    · unfold F_tinfo_reader_entry
      rw [tneed_ok hb k (n := 12) (a := 0) (by omega) (by omega) false, decide_eq_true (show (12 : Int) > (b.length : Int) - 0 by omega)]
      rfl
    · unfold F_lanyardref03_reader_first
      rw [lt_t (show (b.length : Int) < 12 by omega)]
      rfl
end
theorem law_true {b : List Int} (hb : BOk b) : F_lanyardlaw03_TinfoReads 2000 300 b = some true := by
  obtain ⟨r, h1, h2, h3, h4, h5⟩ := read_both hb (k := 2000) (by omega)
  unfold F_lanyardlaw03_TinfoReads
  rw [h1, Option.bind_some, h2, Option.bind_some, live_v, Option.bind_some]
  simp only [cond_true, BEq.rfl, same_refl (k := 2000) (by omega) h5, Option.bind_some, decide_eq_true (show r.2.1 ≥ 0 from h3), decide_eq_true h4]
theorem plain_law (x : List Int) (hx : big 140737488355328 (.sl (.int .u8)) x) : ∃ k m, F_lanyardlaw03_TinfoReads k m x = some true := by
  obtain ⟨h1, h2⟩ := hx
  refine ⟨2000, 300, law_true ⟨by have h1 : x.length ≤ 140737488355328 := h1; omega, fun i => ?_⟩⟩
  rw [List.getD_eq_getElem?_getD]
  cases h : x[i]? with
  | none => exact ⟨by decide, by decide⟩
  | some y =>
    have := h2 y (List.mem_of_getElem? h)
    have : (Lit.int .u8 y).wf = true := this
    simp [Lit.wf, IntKind.min, IntKind.max, IntKind.signed, IntKind.bits] at this
    show 0 ≤ y ∧ y ≤ 255
    omega
end Go.Proofs.YtjobkhfmoammdaaGreatDoor
