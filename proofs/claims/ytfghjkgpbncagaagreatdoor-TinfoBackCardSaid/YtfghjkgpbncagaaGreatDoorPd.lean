/- Joined texts: Pd. -/
import Derived.Test.YtfghjkgpbncagaaGreatDoorPc
import Derived.Test.YtfghjkgpbncagaaGreatDoorVb
import Derived.Test.YtfghjkgpbncagaaGreatDoorGf
set_option linter.unusedVariables false
set_option linter.unusedSimpArgs false
set_option linter.unusedSectionVars false
set_option maxRecDepth 100000
namespace Go.Proofs.YtfghjkgpbncagaaGreatDoor
open Go.RowKit Go.Av Go.Proofs
theorem str_app (a b : List Int) : str (a ++ b) = str a ++ str b := List.map_append ..
theorem str_sI (s : Str) : str (sI s) = s := by
  show List.map (fun n : Int => UInt8.ofNat n.toNat) (List.map (fun u : UInt8 => (u.toNat : Int)) s) = s
  rw [List.map_map]
  refine (List.map_congr_left fun u _ => ?_).trans (List.map_id s)
  show UInt8.ofNat ((u.toNat : Int).toNat) = u
  rw [Int.toNat_natCast]
  exact UInt8.ofNat_toNat
theorem str_zero : str [0] = [0] := rfl
theorem str_tabs (l : List CapT) : str (l.flatMap tb) = l.flatMap tbS' := by
  induction l with
  | nil => rfl
  | cons c l ih =>
    rw [List.flatMap_cons, List.flatMap_cons, str_app, ih]
    congr 1
    unfold tb tbS'
    cases c.1 == 1 with
    | true => exact (str_app _ _).trans (by rw [str_sI, str_zero]; rfl)
    | false => rfl
theorem str_nmB (l : List ExtT) : str (nmB l) = nmS l := by
  induction l with
  | nil => rfl
  | cons c l ih =>
    unfold nmB nmS at *
    rw [List.flatMap_cons, List.flatMap_cons, str_app, ih, str_app, str_sI, str_zero]
theorem nmS_len (l : List ExtT) : (nmS l).length = (nmB l).length := by rw [← str_nmB]; simp [str]
theorem nums_len (w : Bool) (l : List CapT) : ((l.flatMap (nb w)).length : Int) = (l.length : Int) * sz w := by
  induction l with
  | nil => simp
  | cons c l ih =>
    have hl : ((nb w c).length : Int) = sz w := by cases w <;> rfl
    rw [List.flatMap_cons, List.length_append, Int.natCast_add, ih, hl, List.length_cons, Int.natCast_succ, Int.add_mul]
    omega
theorem fbad_of {p : Nat → Bool} : ∀ {c i : Nat}, (∀ j, i ≤ j → j < i + c → p j = false) → fbad p c i = none
  | 0, i, _ => rfl
  | c + 1, i, h => by
    rw [fbad, h i (Nat.le_refl _) (by omega), cond_false]
    exact fbad_of fun j h1 h2 => h j (by omega) (by omega)
def fil (kd : Int) (l : List ExtT) : List ExtT := l.filter fun x => x.1 == kd
theorem fil_cons (kd : Int) (x : ExtT) (l : List ExtT) : fil kd (x :: l) = bif x.1 == kd then x :: fil kd l else fil kd l := by
  unfold fil
  rw [List.filter_cons]
  cases x.1 == kd <;> rfl
theorem exK_fil (l : List ExtT) (kd : Int) : exK l kd = (fil kd l).map fun x => x.2.2 := rfl
theorem srt {w : Bool} : ∀ (l : List ExtT) (last : Int) (seen : List Str), 0 ≤ last → extsBad w last seen l = false → (1 ≤ last → fil 0 l = []) ∧ (2 ≤ last → fil 1 l = []) ∧ l = fil 0 l ++ (fil 1 l ++ fil 2 l)
  | [], _, _, _, _ => ⟨fun _ => rfl, fun _ => rfl, rfl⟩
  | x :: l, last, seen, h0, h => by
    rw [extsBad, Bool.or_eq_false_iff] at h
    have h1 := h.1
    unfold extBad at h1
    simp only [Bool.or_eq_false_iff, decide_eq_false_iff_not] at h1
    obtain ⟨i1, i2, i3⟩ := srt l x.1 (x.2.1 :: seen) (by omega) h.2
    rw [fil_cons, fil_cons, fil_cons]
    have : x.1 = 0 ∨ x.1 = 1 ∨ x.1 = 2 := by omega
    rcases this with h | h | h
    · rw [show (x.1 == 0) = true by rw [h]; rfl, show (x.1 == 1) = false by rw [h]; rfl, show (x.1 == 2) = false by rw [h]; rfl]
      refine ⟨fun hl => by omega, fun hl => by omega, ?_⟩
      simp only [cond_true, cond_false, List.cons_append]
      rw [← i3]
    · rw [show (x.1 == 0) = false by rw [h]; rfl, show (x.1 == 1) = true by rw [h]; rfl, show (x.1 == 2) = false by rw [h]; rfl]
      rw [i1 (by omega)] at i3 ⊢
      refine ⟨fun hl => rfl, fun hl => by omega, ?_⟩
      simp only [cond_true, cond_false, List.nil_append, List.cons_append] at i3 ⊢
      rw [← i3]
    · rw [show (x.1 == 0) = false by rw [h]; rfl, show (x.1 == 1) = false by rw [h]; rfl, show (x.1 == 2) = true by rw [h]; rfl]
      rw [i1 (by omega), i2 (by omega)] at i3 ⊢
      refine ⟨fun hl => rfl, fun hl => rfl, ?_⟩
      simp only [cond_true, cond_false, List.nil_append] at i3 ⊢
      rw [← i3]
theorem ext_ok {w : Bool} : ∀ (l : List ExtT) (last : Int) (seen : List Str), extsBad w last seen l = false → ∀ (p q : List ExtT) (x : ExtT), l = p ++ x :: q → (placeT x.2.1).2.2 = false ∧ (x.2.1 == []) = false ∧ nul x.2.1 = false ∧ seen.contains x.2.1 = false ∧ (p.any fun e => e.2.1 == x.2.1) = false
  | [], _, _, _, p, q, x, h => by cases p <;> cases h
  | y :: l, last, seen, h, p, q, x, he => by
    rw [extsBad, Bool.or_eq_false_iff] at h
    cases p with
    | nil =>
      injection he with e1 e2
      subst e1
      have h1 := h.1
      unfold extBad at h1
      simp only [Bool.or_eq_false_iff] at h1
      exact ⟨h1.2.2.2.2.2.1, h1.2.2.1, h1.2.2.2.1, h1.2.2.2.2.1, rfl⟩
    | cons z p =>
      injection he with e1 e2
      subst e1
      obtain ⟨a1, a2, a3, a4, a5⟩ := ext_ok l y.1 (y.2.1 :: seen) h.2 p q x e2
      rw [List.contains_cons, Bool.or_eq_false_iff] at a4
      refine ⟨a1, a2, a3, a4.2, ?_⟩
      rw [List.any_cons, a5, Bool.or_false]
      have := a4.1
      rw [beq_eq_false_iff_ne] at this ⊢
      exact fun h => this h.symm
theorem okName_of {w : Bool} {l : List ExtT} (h : extsBad w 0 [] l = false) {p q : List ExtT} {x : ExtT} (he : l = p ++ x :: q) : okName p x.2.1 = true := by
  obtain ⟨a1, a2, a3, a4, a5⟩ := ext_ok l 0 [] h p q x he
  unfold okName
  rw [a1, a2, a5]; rfl
theorem nOff_app : ∀ (a b : List ExtT) (n : Nat), nOff n (a ++ b) = nOff n a ++ nOff (n + (nmS a).length) b
  | [], b, n => by simp [nOff, nmS]
  | x :: a, b, n => by
    rw [List.cons_append, nOff, nOff, nOff_app a b, nmS_cons, List.append_assoc]
    congr 3
    simp; omega
theorem nmS_app (a b : List ExtT) : nmS (a ++ b) = nmS a ++ nmS b := by unfold nmS; rw [List.flatMap_append]
section
variable {b : List Int} (hb : BOk b)
include hb
/-- The extensions' names. -/
theorem nm3_at {w : Bool} {l : List ExtT} {T P : Str} {eo beh : Int} {o : Nat} (hx : extsBad w 0 [] l = false) (hl : ∀ x ∈ l, x.2.1.length ≤ 1000) (ho : (o : Int) = eo) (hat : At b o (nOff 0 l)) (hT : T = P ++ nmS l) (hP : (P.length : Int) = beh) (hmax : (nmS l).length ≤ 32767) :
    nm3 T b eo beh (exK l 0) (exK l 1) (exK l 2) = .inr l := by
  obtain ⟨_, _, hs⟩ := srt l 0 [] (Int.le_refl 0) hx
  have hnul : ∀ x ∈ l, nul x.2.1 = false := fun x hm => by
    obtain ⟨p, q, he⟩ := List.append_of_mem hm
    exact (ext_ok l 0 [] hx p q x he).2.2.1
  have hsub : ∀ kd, ∀ x ∈ fil kd l, x.1 = kd ∧ nul x.2.1 = false ∧ x.2.1.length ≤ 1000 := fun kd x hm => by
    unfold fil at hm
    rw [List.mem_filter] at hm
    exact ⟨eq_of_beq hm.2, hnul x hm.1, hl x hm.1⟩
  have hok : ∀ (p q : List ExtT) (x : ExtT), l = p ++ x :: q → okName p x.2.1 = true := fun p q x he => okName_of hx he
  obtain ⟨l0, h0⟩ : ∃ l0, l0 = fil 0 l := ⟨_, rfl⟩
  obtain ⟨l1, h1⟩ : ∃ l1, l1 = fil 1 l := ⟨_, rfl⟩
  obtain ⟨l2, h2⟩ : ∃ l2, l2 = fil 2 l := ⟨_, rfl⟩
  rw [exK_fil, exK_fil, exK_fil]
  have s0 := hsub 0; have s1 := hsub 1; have s2 := hsub 2
  rw [← h0] at s0 hs ⊢
  rw [← h1] at s1 hs ⊢
  rw [← h2] at s2 hs ⊢
  rw [hs, nOff_app, nOff_app] at hat
  rw [hs, nmS_app, nmS_app] at hT hmax
  rw [List.length_append, List.length_append] at hmax
  obtain ⟨a0, a12⟩ := hat.app
  obtain ⟨a1, a2⟩ := a12.app
  rw [nOff_len] at a1 a2
  rw [nOff_len] at a2
  have r0 := nm_run hb (T := T) (eo := eo) (beh := beh) (kd := 0) (l := l0.map fun x => x.2.2) l0 0 [] P (nmS l1 ++ nmS l2) o 0 s0 (fun p q x he => by
    rw [List.nil_append]
    exact hok p (q ++ (l1 ++ l2)) x (by rw [hs, he]; simp)) rfl (by simpa using ho) a0 hT (by omega) (by omega)
  have r1 := nm_run hb (T := T) (eo := eo) (beh := beh) (kd := 1) (l := l1.map fun x => x.2.2) l1 0 l0 (P ++ nmS l0) (nmS l2) (o + 2 * l0.length) (0 + (nmS l0).length) s1 (fun p q x he => hok (l0 ++ p) (q ++ l2) x (by rw [hs, he]; simp)) rfl (by omega) a1 (by rw [hT]; simp) (by rw [List.length_append]; omega) (by omega)
  have r2 := nm_run hb (T := T) (eo := eo) (beh := beh) (kd := 2) (l := l2.map fun x => x.2.2) l2 0 (l0 ++ l1) (P ++ (nmS l0 ++ nmS l1)) [] (o + 2 * l0.length + 2 * l1.length) (0 + (nmS l0).length + (nmS l1).length) s2 (fun p q x he => hok (l0 ++ l1 ++ p) q x (by rw [hs, he]; simp)) rfl (by rw [List.length_append]; omega) a2 (by rw [hT]; simp) (by rw [List.length_append, List.length_append]; omega) (by omega)
  unfold nm3
  rw [List.length_map, r0]
  simp only [List.nil_append]
  rw [List.length_map, r1]
  simp only
  rw [List.length_map, r2, List.append_assoc, ← hs]
end
theorem Good.kinds {t : TermT} (h : Good t) : ∀ x ∈ t.2.2.2.2.2, 0 ≤ x.1 ∧ x.1 ≤ 2 ∧ capOk x.2.2 x.1 t.2.1 = true := exts_kinds (Int.le_refl 0) h.x
theorem exK_ok {t : TermT} (h : Good t) {kd : Int} : ∀ c ∈ exK t.2.2.2.2.2 kd, capOk c kd t.2.1 = true ∧ c.2.2.length ≤ 1000 := fun c hc => by
  obtain ⟨x, hx, rfl, rfl⟩ := exK_mem hc
  exact ⟨(h.kinds x hx).2.2, (h.xl x hx).1⟩
theorem first_len (t : TermT) : ((firstB t).length : Int) = 12 + ((t.1.length : Int) + 1) + (t.2.2.1.length : Int) + (12 + ((t.1.length : Int) + 1) + (t.2.2.1.length : Int)) % 2 + (t.2.2.2.1.length : Int) * sz t.2.1 + (t.2.2.2.2.1.length : Int) * 2 + ((t.2.2.2.2.1.flatMap tb).length : Int) := by
  have h1 := pad_len (12 + t.1.length + 1 + t.2.2.1.length)
  have h2 := nums_len t.2.1 t.2.2.2.1
  have h3 := offB_len t.2.2.2.2.1 0
  have h4 := headB_len t
  unfold firstB
  simp only [List.length_append, List.length_map, sI_len, List.length_singleton, h3, h4]
  rw [show 12 + ((t.1.length : Int) + 1) + (t.2.2.1.length : Int) = ((12 + t.1.length + 1 + t.2.2.1.length : Nat) : Int) by omega, ← h1, ← h2]
  omega
theorem second_len (w : Bool) (n : Nat) (l : List ExtT) : ((secondB w n l).length : Int) = 10 + ((exK l 0).length : Int) + ((n : Int) + 10 + ((exK l 0).length : Int)) % 2 + ((exK l 1).length : Int) * sz w + ((exK l 2).length : Int) * 2 + (l.length : Int) * 2 + (((exK l 2).flatMap tb).length : Int) + ((nmB l).length : Int) := by
  have h1 := pad_len (n + 10 + (exK l 0).length)
  have h2 := nums_len w (exK l 1)
  have h3 := offB_len (exK l 2) 0
  have h4 := extHeadB_len l
  have h5 := nOff_len l 0
  unfold secondB
  simp only [List.length_append, List.length_map, h3, h4, h5]
  rw [show (n : Int) + 10 + ((exK l 0).length : Int) = ((n + 10 + (exK l 0).length : Nat) : Int) by omega, ← h1, ← h2]
  omega
theorem exK_sum {t : TermT} (h : Good t) : (exK t.2.2.2.2.2 0).length + (exK t.2.2.2.2.2 1).length + (exK t.2.2.2.2.2 2).length = t.2.2.2.2.2.length := by
  obtain ⟨_, _, hs⟩ := srt t.2.2.2.2.2 0 [] (Int.le_refl 0) h.x
  rw [exK_fil, exK_fil, exK_fil, List.length_map, List.length_map, List.length_map]
  have := congrArg List.length hs
  rw [List.length_append, List.length_append] at this
  omega
/-- The second part is read as it was written. -/
theorem ext_back {k : Nat} (hk : 1000 ≤ k) {t : TermT} (hg : Good t) (hbig : bigT t = false) {p b : List Int} (hb : BOk b) (he : b = p ++ secondB t.2.1 p.length t.2.2.2.2.2) : F_tinfo_reader_extended k b (p.length : Int) t.2.1 = some (Sum.inl (t.2.2.2.2.2, (b, ((b.length : Int), t.2.1)))) := by
  have hsum := exK_sum hg
  have hxl := hg.exts
  have h0 := fun c hc => (exK_ok hg (kd := 0) c hc).1
  have h1 := fun c hc => (exK_ok hg (kd := 1) c hc).1
  have h2 := exK_ok hg (kd := 2)
  unfold bigT at hbig
  rw [Bool.or_eq_false_iff] at hbig
  have hbig := of_decide_eq_false hbig.2
  have hx := hg.x
  have hnl := hg.xl
  obtain ⟨t0, w, t2, t3, t4, l⟩ := t
  simp only at hx hnl hbig h0 h1 h2 hsum hxl he ⊢
  clear hg
  have hlen := congrArg (fun l : List Int => (l.length : Int)) he
  simp only [List.length_append, Int.natCast_add] at hlen
  have hsl := second_len w p.length l
  have hat : At b p.length (secondB w p.length l) := at_of (q := []) (by rw [he, List.append_nil]) rfl
  unfold secondB at hat
  obtain ⟨hat, aN⟩ := hat.app
  obtain ⟨hat, aT⟩ := hat.app
  obtain ⟨hat, aO⟩ := hat.app
  obtain ⟨hat, aX⟩ := hat.app
  obtain ⟨hat, aM⟩ := hat.app
  obtain ⟨hat, aP⟩ := hat.app
  obtain ⟨aH, aF⟩ := hat.app
  have c0 := cntS (exK l 2)
  have hcnt : cntS (exK l 2) ≤ 256 := Nat.le_trans (List.length_filter_le _ _) (by omega)
  unfold extHeadB at aH
  simp only [List.flatMap_cons, List.flatMap_nil] at aH
  obtain ⟨b0, aH⟩ := aH.app
  obtain ⟨b1, aH⟩ := aH.app
  obtain ⟨b2, aH⟩ := aH.app
  obtain ⟨b3, aH⟩ := aH.app
  obtain ⟨b4, aH⟩ := aH.app
  simp only [sb_len] at b1 b2 b3 b4
  have e0 := sh_sb hb b0 (by omega) (by omega) (a := (p.length : Int)) rfl
  have e1 := sh_sb hb b1 (by omega) (by omega) (a := (p.length : Int) + 2) (by omega)
  have e2 := sh_sb hb b2 (by omega) (by omega) (a := (p.length : Int) + 4) (by omega)
  have e3 := sh_sb hb b3 (by omega) (by omega) (a := (p.length : Int) + 6) (by omega)
  have e4 := sh_sb hb b4 (by omega) (by omega) (a := (p.length : Int) + 8) (by omega)
  have hbad : fbad (bad2 b (p.length : Int)) 5 0 = none := fbad_of fun j _ hj => by
    unfold bad2 sum3
    match j, hj with
    | 0, _ => rw [show (p.length : Int) + 2 * ((0 : Nat) : Int) = p.length by omega, e0, decide_eq_false (by omega)]; rfl
    | 1, _ => rw [show (p.length : Int) + 2 * ((1 : Nat) : Int) = p.length + 2 by omega, e1, decide_eq_false (by omega)]; rfl
    | 2, _ =>
      rw [show (p.length : Int) + 2 * ((2 : Nat) : Int) = p.length + 4 by omega, e0, e1, e2, decide_eq_false (by omega), decide_eq_false (by omega)]; rfl
    | 3, _ => rw [show (p.length : Int) + 2 * ((3 : Nat) : Int) = p.length + 6 by omega, e3, decide_eq_false (by omega)]; rfl
    | 4, _ => rw [show (p.length : Int) + 2 * ((4 : Nat) : Int) = p.length + 8 by omega, e4, decide_eq_false (by omega)]; rfl
  have lf : ((exK l 0).map fb).length = (exK l 0).length := List.length_map ..
  have lp := pad_len (p.length + 10 + (exK l 0).length)
  have ln := nums_len w (exK l 1)
  have lo := offB_len (exK l 2) 0
  have lno := nOff_len l 0
  have lh := extHeadB_len l
  simp only [List.length_append, lf, lh, lo, lno] at aF aP aM aX aO aT aN
  have hsz := sz_le w
  obtain ⟨no, q1⟩ : ∃ no, no = (p.length : Int) + 10 + ((exK l 0).length : Int) + ((p.length : Int) + 10 + ((exK l 0).length : Int)) % 2 := ⟨_, rfl⟩
  obtain ⟨to_, q2⟩ : ∃ to_, to_ = no + ((exK l 1).length : Int) * sz w := ⟨_, rfl⟩
  obtain ⟨eo, q3⟩ : ∃ eo, eo = to_ + ((exK l 2).length : Int) * 2 := ⟨_, rfl⟩
  obtain ⟨ta, q4⟩ : ∃ ta, ta = eo + (((exK l 0).length + (exK l 1).length + (exK l 2).length : Nat) : Int) * 2 := ⟨_, rfl⟩
  obtain ⟨m4, hm4⟩ : ∃ m4 : Nat, m4 = ((exK l 2).flatMap tb).length + (nmB l).length := ⟨_, rfl⟩
  have lp' : ((pad (p.length + 10 + (exK l 0).length)).length : Int) = ((p.length : Int) + 10 + ((exK l 0).length : Int)) % 2 := by
    rw [lp, show ((p.length + 10 + (exK l 0).length : Nat) : Int) = (p.length : Int) + 10 + ((exK l 0).length : Int) by omega]
  have hend : ta + (m4 : Int) = (b.length : Int) := by omega
  have hp := ext_prog hb hk (o := (p.length : Int)) (w := w) (by omega) (by omega) hbad e0 e1 e2 (m4 := m4) (by rw [e4, hm4]; omega) (by omega) (by omega) q1 q2 q3 q4
  have hthr := thr_at hb (to_ := to_) (w := w) (exK l 2) 0 0 _ (fun c hc => (h2 c hc).1) (by omega) aX (by omega)
  have hT : tbl b ta m4 = (exK l 2).flatMap tbS' ++ nmS l := by
    unfold tbl
    have hj : At b (p.length + (10 + (exK l 0).length + (pad (p.length + 10 + (exK l 0).length)).length + ((exK l 1).flatMap (nb w)).length + 2 * (exK l 2).length + 2 * l.length)) ((exK l 2).flatMap tb ++ nmB l) := by
      refine at_of (p := p ++ (extHeadB l ++ (exK l 0).map fb ++ pad (p.length + 10 + (exK l 0).length) ++ (exK l 1).flatMap (nb w) ++ offB 0 (exK l 2) ++ nOff 0 l)) (q := []) ?_ ?_
      · rw [he]
        unfold secondB
        simp only [List.append_assoc, List.append_nil]
      · simp only [List.length_append, lf, lh, lo, lno]
    rw [hj.cut (by omega) (by rw [List.length_append]; omega), str_app, str_tabs, str_nmB]
  obtain ⟨l', hr, _⟩ := tx_run hb (T := tbl b ta m4) (to_ := to_) (w := w) (exK l 2) 0 (-1, (0, [])) [] (nmS l) _ h2 (by omega) aX (by rw [hT]; rfl) rfl (by show (-1 : Int) < 0; omega) (by simp only [List.length_nil]; omega)
  have hsl2 := tbS'_len
  have hnl2 := nmS_len l
  have htl : (((exK l 2).flatMap tbS').length : Int) = (((exK l 2).flatMap tb).length : Int) := by
    rw [← str_tabs]; simp [str]
  have h3 := nm3_at hb (w := w) (l := l) (T := tbl b ta m4) (P := (exK l 2).flatMap tbS') (eo := eo) (beh := (((([] : Str).length + ((exK l 2).flatMap tb).length : Nat)) : Int)) hx (fun x hm => (hnl x hm).2) (by omega) aO hT (by simp only [List.length_nil]; omega) (by omega)
  rw [hp, decide_eq_false (by omega), cond_false, e3, hthr, show ((cntS (exK l 2) : Int) + (l.length : Int) != (((exK l 0).length + (exK l 1).length + (exK l 2).length : Nat) : Int) + (cntS (exK l 2) : Int)) = false by
    rw [bne_eq_false_iff_eq]; omega, cond_false, hr]
  simp only [List.nil_append]
  have hfl := flagsS_at (w := w) (b := b) (exK l 0) (p.length + 10) (by rw [show p.length + 10 = p.length + 10 from rfl]; exact aF) h0
  have hnu := numsS_at hb (w := w) (exK l 1) _ aM h1
  rw [show ((p.length + 10 : Nat) : Int) = (p.length : Int) + 10 by omega] at hfl
  rw [show ((p.length + (10 + (exK l 0).length + (pad (p.length + 10 + (exK l 0).length)).length) : Nat) : Int) = no by omega] at hnu
  rw [hfl, hnu, h3, decide_eq_false (by omega), hend]
  rfl
end Go.Proofs.YtfghjkgpbncagaaGreatDoor
set_option linter.unusedVariables false
set_option linter.unusedSimpArgs false
set_option linter.unusedSectionVars false
set_option maxRecDepth 100000
namespace Go.Proofs.YtfghjkgpbncagaaGreatDoor
open Go.RowKit Go.Av Go.Proofs
theorem bytes_le {t : TermT} (hg : Good t) (hbig : bigT t = false) : ((bytesT t).length : Int) ≤ 1000000 := by
  have h1 := first_len t
  have h2 := second_len t.2.1 ((firstB t).length + (pad (firstB t).length).length) t.2.2.2.2.2
  have h3 := pad_le (firstB t).length
  have hs := exK_sum hg
  have g1 := hg.names; have g2 := hg.bools; have g3 := hg.nums; have g4 := hg.strs; have g5 := hg.exts
  have hsz := sz_le t.2.1
  unfold bigT at hbig
  rw [Bool.or_eq_false_iff] at hbig
  have b1 := of_decide_eq_false hbig.1
  have b2 := of_decide_eq_false hbig.2
  have m1 : (t.2.2.2.1.length : Int) * sz t.2.1 ≤ 64 * 4 := Int.mul_le_mul (by omega) hsz.2 (by omega) (by omega)
  have m2 : ((exK t.2.2.2.2.2 1).length : Int) * sz t.2.1 ≤ 256 * 4 := Int.mul_le_mul (by omega) hsz.2 (by omega) (by omega)
  unfold bytesT
  cases t.2.2.2.2.2 == [] with
  | true => simp only [cond_true]; omega
  | false =>
    simp only [cond_false, List.length_append]
    omega
theorem ib_of {s : Str} (h : nul s = false) : Lib.indexByte (s ++ [0]) 0 = (s.length : Int) := ib_app s [] h
theorem back {k : Nat} (hk : 1000 ≤ k) {t : TermT} (hc : checkT t = 0) (hbig : bigT t = false) : F_tinfo_Read k (bytesT t) = some (t, (0, 0)) := by
  have hg := good_of hc
  have hlen := bytes_le hg hbig
  have hb : BOk (bytesT t) := bok_of (isB_bytes t) (by omega)
  obtain ⟨b, hbt⟩ : ∃ b, b = bytesT t := ⟨_, rfl⟩
  rw [← hbt] at hlen hb ⊢
  have hfst := first_len t
  have hat : At b 0 (firstB t) := by
    rw [hbt]
    unfold bytesT
    cases t.2.2.2.2.2 == [] with
    | true => exact at_of (p := []) (q := []) (by simp) rfl
    | false => exact at_of (p := []) (q := pad (firstB t).length ++ secondB t.2.1 ((firstB t).length + (pad (firstB t).length).length) t.2.2.2.2.2) (by simp) rfl
  have hfl0 := hat.len
  have hbig' := hbig
  unfold bigT at hbig'
  rw [Bool.or_eq_false_iff] at hbig'
  have b1 := of_decide_eq_false hbig'.1
  have hx2 : ∀ k, 1000 ≤ k → t.2.2.2.2.2 ≠ [] → F_tinfo_reader_extended k b ((((firstB t) ++ pad (firstB t).length).length : Nat) : Int) t.2.1 = some (Sum.inl (t.2.2.2.2.2, (b, ((b.length : Int), t.2.1)))) := fun k hk hne => ext_back hk hg hbig hb (by
    rw [hbt]
    unfold bytesT
    have : (t.2.2.2.2.2 == []) = false := by
      cases h : t.2.2.2.2.2 with
      | nil => exact absurd h hne
      | cons a r => rfl
    rw [this, cond_false, List.length_append])
  have hxe : t.2.2.2.2.2 = [] → b = firstB t := fun h => by
    rw [hbt]
    unfold bytesT
    rw [h]; rfl
  have hxl : t.2.2.2.2.2 ≠ [] → (b.length : Int) ≥ (firstB t).length + 10 := fun hne => by
    have h2 := second_len t.2.1 ((firstB t).length + (pad (firstB t).length).length) t.2.2.2.2.2
    have hsz := sz_le t.2.1
    have hm : 0 ≤ ((exK t.2.2.2.2.2 1).length : Int) * sz t.2.1 := Int.mul_nonneg (by omega) (by omega)
    rw [hbt]
    unfold bytesT
    have : (t.2.2.2.2.2 == []) = false := by
      cases h : t.2.2.2.2.2 with
      | nil => exact absurd h hne
      | cons a r => rfl
    rw [this, cond_false]
    simp only [List.length_append]
    omega
  have g1 := hg.names; have g2 := hg.bools; have g3 := hg.nums; have g4 := hg.strs; have gb := hg.b; have gn := hg.n; have gs := hg.s; have n1 := hg.name1; have n0 := hg.name0
  obtain ⟨fe, hfe⟩ : ∃ fe : Nat, fe = (firstB t).length := ⟨_, rfl⟩
  have hpf := pad_len (firstB t).length
  obtain ⟨nm, w, l2, l3, l4, l5⟩ := t
  simp only at g1 g2 g3 g4 gb gn gs n1 n0 hfst hx2 hxe hxl b1
  rw [← hfe] at hfst hfl0 hpf
  unfold firstB at hat
  simp only at hat
  obtain ⟨hat, aT⟩ := hat.app
  obtain ⟨hat, aX⟩ := hat.app
  obtain ⟨hat, aM⟩ := hat.app
  obtain ⟨hat, aP⟩ := hat.app
  obtain ⟨hat, aF⟩ := hat.app
  have hatZ := hat
  obtain ⟨hat, aZ⟩ := hat.app
  obtain ⟨aH, aN⟩ := hat.app
  unfold headB at aH
  simp only [List.flatMap_cons, List.flatMap_nil] at aH
  obtain ⟨c0, aH⟩ := aH.app
  obtain ⟨c1, aH⟩ := aH.app
  obtain ⟨c2, aH⟩ := aH.app
  obtain ⟨c3, aH⟩ := aH.app
  obtain ⟨c4, aH⟩ := aH.app
  obtain ⟨c5, aH⟩ := aH.app
  simp only [sb_len] at c1 c2 c3 c4 c5
  have hmag : magicT w = 282 ∨ magicT w = 542 := by cases w <;> simp [magicT]
  have e0 := sh_sb hb c0 (by omega) (by omega) (a := 0) rfl
  have e1 := sh_sb hb c1 (by omega) (by omega) (a := 2) rfl
  have e2 := sh_sb hb c2 (by omega) (by omega) (a := 4) rfl
  have e3 := sh_sb hb c3 (by omega) (by omega) (a := 6) rfl
  have e4 := sh_sb hb c4 (by omega) (by omega) (a := 8) rfl
  have e5 := sh_sb hb c5 (by omega) (by omega) (a := 10) rfl
  have hN : nm.length ≥ 1 := by
    cases nm with
    | nil => exact absurd rfl n1
    | cons a r => simp
  have hw : w = (sh b 0 == 542) := by
    rw [e0]
    cases w <;> rfl
  have hm : (bif sh b 0 != 282 then sh b 0 != 542 else false) = false := by
    rw [e0]
    cases w <;> rfl
  have hbad : fbad (bad1 b) 5 0 = none := fbad_of fun j _ hj => by
    unfold bad1 most5
    match j, hj with
    | 0, _ =>
      rw [show (2 : Int) + 2 * ((0 : Nat) : Int) = 2 by omega, e1, decide_eq_false (show ¬ (nm.length : Int) + 1 < 0 by omega), decide_eq_false (show ¬ (nm.length : Int) + 1 > ([512, 64, 64, 512, 32767] : List Int).getD 0 0 by show ¬ (nm.length : Int) + 1 > 512; omega)]
      have : ((nm.length : Int) + 1 == 0) = false := by rw [beq_eq_false_iff_ne]; omega
      rw [this]; rfl
    | 1, _ => rw [show (2 : Int) + 2 * ((1 : Nat) : Int) = 4 by omega, e2, decide_eq_false (show ¬ (l2.length : Int) < 0 by omega), decide_eq_false (show ¬ (l2.length : Int) > ([512, 64, 64, 512, 32767] : List Int).getD 1 0 by show ¬ (l2.length : Int) > 64; omega)]; rfl
    | 2, _ => rw [show (2 : Int) + 2 * ((2 : Nat) : Int) = 6 by omega, e3, decide_eq_false (show ¬ (l3.length : Int) < 0 by omega), decide_eq_false (show ¬ (l3.length : Int) > ([512, 64, 64, 512, 32767] : List Int).getD 2 0 by show ¬ (l3.length : Int) > 64; omega)]; rfl
    | 3, _ => rw [show (2 : Int) + 2 * ((3 : Nat) : Int) = 8 by omega, e4, decide_eq_false (show ¬ (l4.length : Int) < 0 by omega), decide_eq_false (show ¬ (l4.length : Int) > ([512, 64, 64, 512, 32767] : List Int).getD 3 0 by show ¬ (l4.length : Int) > 512; omega)]; rfl
    | 4, _ => rw [show (2 : Int) + 2 * ((4 : Nat) : Int) = 10 by omega, e5, decide_eq_false (show ¬ ((l4.flatMap tb).length : Int) < 0 by omega), decide_eq_false (show ¬ ((l4.flatMap tb).length : Int) > ([512, 64, 64, 512, 32767] : List Int).getD 4 0 by show ¬ ((l4.flatMap tb).length : Int) > 32767; omega)]; rfl
  have lf : (l2.map fb).length = l2.length := List.length_map ..
  have lp := pad_len (12 + nm.length + 1 + l2.length)
  have ln := nums_len w l3
  have lo := offB_len l4 0
  have lh : (headB (nm, (w, (l2, (l3, (l4, l5)))))).length = 12 := rfl
  have ls := sI_len nm
  simp only [List.length_append, lf, lh, lo, ls, List.length_singleton] at aN aZ aF aP aM aX aT
  have hsz := sz_le w
  have hm0 : 0 ≤ (l3.length : Int) * sz w := Int.mul_nonneg (by omega) (by omega)
  have lp' : ((pad (12 + nm.length + 1 + l2.length)).length : Int) = (12 + ((nm.length : Int) + 1) + (l2.length : Int)) % 2 := by
    rw [lp, show ((12 + nm.length + 1 + l2.length : Nat) : Int) = 12 + ((nm.length : Int) + 1) + (l2.length : Int) by omega]
  obtain ⟨fo, q0⟩ : ∃ fo, fo = 12 + ((nm.length + 1 : Nat) : Int) := ⟨_, rfl⟩
  obtain ⟨no, q1⟩ : ∃ no, no = fo + (l2.length : Int) + (fo + (l2.length : Int)) % 2 := ⟨_, rfl⟩
  obtain ⟨to_, q2⟩ : ∃ to_, to_ = no + (l3.length : Int) * sz w := ⟨_, rfl⟩
  obtain ⟨ta, q3⟩ : ∃ ta, ta = to_ + (l4.length : Int) * 2 := ⟨_, rfl⟩
  have hfo : fo = 12 + ((nm.length : Int) + 1) := by omega
  rw [hfo] at q1
  have hend : ta + ((l4.flatMap tb).length : Int) = (fe : Int) := by omega
  have hp := entry_prog hb hk (by omega) hm hw hbad (N := nm.length + 1) (m0 := l2.length) (m1 := l3.length) (m2 := l4.length) (m4 := (l4.flatMap tb).length) (by rw [e1]; omega) e2 e3 e4 e5 (by omega) (by omega) (by omega) (by omega) (by omega) q0 (no := no) (by rw [hfo]; exact q1) q2 q3
  have hS : nameS b (nm.length + 1) = nm ++ [0] := by
    unfold nameS
    have hj : At b (0 + (headB (nm, (w, (l2, (l3, (l4, l5)))))).length) (sI nm ++ [0]) := (At.app (by rw [← List.append_assoc]; exact hatZ)).2
    rw [lh] at hj
    rw [hj.cut (l := 12) (by omega) (by rw [List.length_append, sI_len, List.length_singleton]; omega), str_app, str_sI, str_zero]
  have hnb : nameBad b (nm.length + 1) = false := by
    unfold nameBad
    rw [hS, ib_of n0, decide_eq_false (by omega), Bool.false_or, bne_eq_false_iff_eq]
    omega
  have hT : tbl b ta ((l4.flatMap tb).length : Int) = l4.flatMap tbS' := by
    unfold tbl
    rw [aT.cut (by omega) (by omega), str_tabs]
  obtain ⟨l', hr, _⟩ := tx_run hb (T := tbl b ta ((l4.flatMap tb).length : Int)) (to_ := to_) (w := w) l4 0 (-1, (0, [])) [] [] _ gs (by omega) aX (by rw [hT, List.append_nil]; rfl) rfl (by show (-1 : Int) < 0; omega) (by simp only [List.length_nil]; omega)
  have hfl := flagsS_at (w := w) (b := b) l2 _ aF gb
  have hnu := numsS_at hb (w := w) l3 _ aM gn
  rw [show ((0 + (12 + nm.length + 1) : Nat) : Int) = fo by omega] at hfl
  rw [show ((0 + (12 + nm.length + 1 + l2.length + (pad (12 + nm.length + 1 + l2.length)).length) : Nat) : Int) = no by omega] at hnu
  have hcn : cut (nm ++ [0]) 0 (((nm.length + 1 : Nat) : Int) - 1) = nm := by
    unfold cut
    rw [show ((((nm.length + 1 : Nat) : Int) - 1).toNat) = nm.length by omega, List.take_left]
    rfl
  rw [decide_eq_false (by omega), hnb, hr, hS, hcn, hfl, hnu, hend] at hp
  simp only [cond_false, List.nil_append] at hp
  unfold tailOf at hp
  cases l5 with
  | nil =>
    have hbe := hxe rfl
    have hbl : (b.length : Int) = (fe : Int) := by rw [hbe, hfe]
    rw [hbl, Int.sub_self] at hp
    unfold F_tinfo_Read
    rw [hp]
    rfl
  | cons x5 r5 =>
    have h1 := hxl (by simp)
    have h2 := hx2 k hk (by simp)
    rw [show ((b.length : Int) - (fe : Int) == 0) = false by rw [beq_eq_false_iff_ne]; omega, show ((b.length : Int) - (fe : Int) == 1) = false by rw [beq_eq_false_iff_ne]; omega] at hp
    rw [show (fe : Int) + (fe : Int) % 2 = ((((firstB (nm, (w, (l2, (l3, (l4, x5 :: r5)))))) ++ pad (firstB (nm, (w, (l2, (l3, (l4, x5 :: r5)))))).length).length : Nat) : Int) by
      rw [← hfe, List.length_append, ← hfe]; omega, h2] at hp
    unfold F_tinfo_Read
    rw [hp]
    rfl
end Go.Proofs.YtfghjkgpbncagaaGreatDoor
set_option linter.unusedVariables false
set_option linter.unusedSimpArgs false
set_option linter.unusedSectionVars false
set_option maxRecDepth 100000
namespace Go.Proofs.YtfghjkgpbncagaaGreatDoor
open Go.RowKit Go.Av Go.Proofs
theorem runE_inv {S R : Type} {f : Nat → S → R ⊕ S} {n : Nat} {Inv : S → Prop} (h : ∀ i s s', i < n → Inv s → f i s = .inr s' → Inv s') : ∀ {c i : Nat} {s s' : S}, i + c ≤ n → Inv s → runE f c i s = .inr s' → Inv s'
  | 0, i, s, s', _, hs, he => by
    rw [runE] at he
    injection he with he
    subst he; exact hs
  | c + 1, i, s, s', hn, hs, he => by
    rw [runE] at he
    cases hf : f i s with
    | inl r => rw [hf] at he; cases he
    | inr s1 =>
      rw [hf] at he
      exact runE_inv h (by omega) (h i s s1 (by omega) hs hf) he
theorem nul_of_ib {s : Str} (h : Lib.indexByte s 0 = -1) : nul s = false := by
  have := indexByte_nul s
  rw [h] at this
  have : true = !nul s := this
  cases hn : nul s with
  | false => rfl
  | true => rw [hn] at this; cases this
def CapT2 (w : Bool) (c : CapT) : Prop := capOk c 2 w = true ∧ c.2.2.length ≤ 1000
theorem capOk_text {w : Bool} {t : Str} (h : nul t = false) : capOk (1, (0, t)) 2 w = true := by
  unfold capOk
  show (true && (bif (2 : Int) == 0 then _ else bif (2 : Int) == 1 then _ else (true && !nul t))) = true
  rw [h]; rfl
theorem capOk_none {w : Bool} {x : Int} (h : ¬ x ≥ 0) : capOk (stN x, (0, [])) 2 w = true := by
  unfold stN
  rw [decide_eq_false h, cond_false]
  cases x == -2 <;> rfl
theorem tx_good {T : Str} {b : List Int} {to_ : Int} {w : Bool} {c : Nat} {s s' : TxS} (h : runE (txStep T b to_) c 0 s = .inr s') (hs : ∀ c ∈ s.2.2, CapT2 w c) : ∀ c ∈ s'.2.2, CapT2 w c := by
  refine runE_inv (n := c) (Inv := fun s => ∀ c ∈ s.2.2, CapT2 w c) (fun i s s' _ hs hf => ?_) (Nat.le_of_eq (Nat.zero_add _)) hs h
  unfold txStep at hf
  cases hd : decide (sh b (to_ + (i : Int) * 2) ≥ 0) with
  | false =>
    rw [hd, cond_false] at hf
    injection hf with hf
    subst hf
    intro c hc
    rcases List.mem_append.1 hc with hc | hc
    · exact hs c hc
    · rw [List.mem_singleton] at hc
      subst hc
      exact ⟨capOk_none (of_decide_eq_false hd), Nat.zero_le _⟩
  | true =>
    rw [hd, cond_true] at hf
    cases ht : txAt T (sh b (to_ + (i : Int) * 2)) with
    | none => rw [ht] at hf; cases hf
    | some t =>
      rw [ht] at hf
      have h1 := txAt_len (of_decide_eq_true hd) ht
      have h2 : CapT2 w (1, (0, t)) := ⟨capOk_text (nul_of_ib (txAt_nul ht)), h1.2⟩
      injection hf with hf
      subst hf
      intro c hc
      cases hb : decide (sh b (to_ + (i : Int) * 2) > s.1) with
      | true =>
        rw [hb] at hc
        rcases List.mem_append.1 hc with hc | hc
        · exact hs c hc
        · rw [List.mem_singleton] at hc
          subst hc; exact h2
      | false =>
        rw [hb] at hc
        rcases List.mem_append.1 hc with hc | hc
        · exact hs c hc
        · rw [List.mem_singleton] at hc
          subst hc; exact h2
theorem capOk_fl (w : Bool) (x : Int) : capOk (fl x) 0 w = true := by
  unfold fl
  cases x == 0 <;> cases x == 254 <;> rfl
theorem flags_good (w : Bool) (b : List Int) (o : Int) (n : Nat) : ∀ c ∈ flagsS b o n, capOk c 0 w = true ∧ c.2.2.length ≤ 1000 := fun c hc => by
  obtain ⟨i, _, rfl⟩ := List.mem_map.1 hc
  exact ⟨capOk_fl w _, Nat.zero_le _⟩
theorem capOk_cN {w : Bool} {x : Int} (h : x ≤ (bif w then 2147483647 else 32767)) : capOk (cN x) 1 w = true := by
  unfold cN stN capOk
  by_cases hx : x ≥ 0
  · rw [decide_eq_true hx, decide_eq_false (show ¬ (0 : Int) > x by omega)]
    show (true && (bif (1 : Int) == 0 then _ else bif (1 : Int) == 1 then (true && (decide (x ≥ 0) && decide (x ≤ (bif w then 2147483647 else 32767)))) else _)) = true
    rw [decide_eq_true hx, decide_eq_true h]; rfl
  · rw [decide_eq_false hx, decide_eq_true (show (0 : Int) > x by omega)]
    cases x == -2 <;> cases w <;> rfl
theorem extsBad_snoc {w : Bool} {x : ExtT} : ∀ (l : List ExtT) (last : Int) (seen : List Str), extsBad w last seen (l ++ [x]) = (extsBad w last seen l || extBad w (l.foldl (fun _ y => y.1) last) (seen.contains x.2.1 || l.any (fun e => e.2.1 == x.2.1)) x)
  | [], last, seen => by simp [extsBad]
  | y :: l, last, seen => by
    have e : (x.2.1 == y.2.1) = (y.2.1 == x.2.1) := by rw [Bool.eq_iff_iff, beq_iff_eq, beq_iff_eq]; exact ⟨fun h => h.symm, fun h => h.symm⟩
    have harg : ((y.2.1 :: seen).contains x.2.1 || l.any (fun e => e.2.1 == x.2.1)) = (seen.contains x.2.1 || (y :: l).any (fun e => e.2.1 == x.2.1)) := by
      rw [List.any_cons, List.contains_cons, e]
      cases y.2.1 == x.2.1 <;> cases seen.contains x.2.1 <;> cases l.any (fun e => e.2.1 == x.2.1) <;> rfl
    show (extBad w last (seen.contains y.2.1) y || extsBad w y.1 (y.2.1 :: seen) (l ++ [x])) = ((extBad w last (seen.contains y.2.1) y || extsBad w y.1 (y.2.1 :: seen) l) || extBad w ((y :: l).foldl (fun _ y => y.1) last) (seen.contains x.2.1 || (y :: l).any (fun e => e.2.1 == x.2.1)) x)
    rw [extsBad_snoc l, harg, Bool.or_assoc]
    rfl
def ExG (w : Bool) (kd : Int) (out : List ExtT) : Prop := extsBad w 0 [] out = false ∧ out.foldl (fun _ y => y.1) 0 ≤ kd ∧ ∀ x ∈ out, x.2.2.2.2.length ≤ 1000 ∧ x.2.1.length ≤ 1000
theorem nm_good {T : Str} {b : List Int} {eo beh kd : Int} {w : Bool} {l : List CapT} {out out' : List ExtT} (hk : 0 ≤ kd ∧ kd ≤ 2) (hbeh : 0 ≤ beh) (hl : ∀ c ∈ l, capOk c kd w = true ∧ c.2.2.length ≤ 1000) (h : runE (nmStep T b eo beh kd l) l.length 0 out = .inr out') (hs : ExG w kd out) : ExG w kd out' := by
  refine runE_inv (n := l.length) (Inv := ExG w kd) (fun i s s' hi hs hf => ?_) (Nat.le_of_eq (Nat.zero_add _)) hs h
  unfold nmStep at hf
  cases hd : decide (sh b (eo + 2 * (s.length : Int)) < 0) with
  | true => rw [hd, cond_true] at hf; cases hf
  | false =>
    rw [hd, cond_false] at hf
    have hd := of_decide_eq_false hd
    cases ht : txAt T (beh + sh b (eo + 2 * (s.length : Int))) with
    | none => rw [ht] at hf; cases hf
    | some t =>
      rw [ht] at hf
      simp only at hf
      have h1 := txAt_len (by omega) ht
      have h2 := nul_of_ib (txAt_nul ht)
      cases ho : okName s t with
      | false => rw [ho, cond_false] at hf; cases hf
      | true =>
        rw [ho, cond_true] at hf
        injection hf with hf
        subst hf
        have hc := hl (l.getD i (0, (0, []))) (by
          rw [List.getD_eq_getElem?_getD, List.getElem?_eq_getElem hi]
          exact List.getElem_mem hi)
        generalize l.getD i (0, (0, [])) = c at hc
        obtain ⟨g1, g2, g3⟩ := hs
        unfold okName at ho
        simp only [Bool.and_eq_true, Bool.not_eq_true'] at ho
        obtain ⟨o1, o2, o3⟩ := ho
        refine ⟨?_, ?_, fun x hx => ?_⟩
        · rw [extsBad_snoc, g1, Bool.false_or]
          unfold extBad
          simp only [o1, o2, o3, h2, hc.1, decide_eq_false (show ¬ kd < s.foldl (fun _ y => y.1) 0 by omega), decide_eq_false (show ¬ kd > 2 by omega)]
          rfl
        · rw [List.foldl_append]
          exact Int.le_refl _
        · rcases List.mem_append.1 hx with hx | hx
          · exact g3 x hx
          · rw [List.mem_singleton] at hx
            subst hx
            exact ⟨hc.2, h1.2⟩
theorem nm_len {T : Str} {b : List Int} {eo beh kd : Int} {l : List CapT} : ∀ {c i : Nat} {out out' : List ExtT}, runE (nmStep T b eo beh kd l) c i out = .inr out' → out'.length = out.length + c
  | 0, i, out, out', h => by
    rw [runE] at h
    injection h with h
    subst h; rfl
  | c + 1, i, out, out', h => by
    rw [runE] at h
    cases hf : nmStep T b eo beh kd l i out with
    | inl r => rw [hf] at h; cases h
    | inr s1 =>
      rw [hf] at h
      have h1 := nmStep_len hf
      have h2 := nm_len h
      omega
theorem nm3_good {T : Str} {b : List Int} {eo beh : Int} {w : Bool} {l0 l1 l2 : List CapT} {out : List ExtT} (hbeh : 0 ≤ beh) (h0 : ∀ c ∈ l0, capOk c 0 w = true ∧ c.2.2.length ≤ 1000) (h1 : ∀ c ∈ l1, capOk c 1 w = true ∧ c.2.2.length ≤ 1000) (h2 : ∀ c ∈ l2, capOk c 2 w = true ∧ c.2.2.length ≤ 1000) (h : nm3 T b eo beh l0 l1 l2 = .inr out) : ExG w 2 out ∧ out.length = l0.length + l1.length + l2.length := by
  unfold nm3 at h
  cases r0 : runE (nmStep T b eo beh 0 l0) l0.length 0 [] with
  | inl o => rw [r0] at h; cases h
  | inr out0 =>
    rw [r0] at h
    simp only at h
    have g0 := nm_good ⟨by omega, by omega⟩ hbeh h0 r0 ⟨rfl, Int.le_refl _, fun x hx => by cases hx⟩
    have n0 := nm_len r0
    cases r1 : runE (nmStep T b eo beh 1 l1) l1.length 0 out0 with
    | inl o => rw [r1] at h; cases h
    | inr out1 =>
      rw [r1] at h
      simp only at h
      have g1 := nm_good ⟨by omega, by omega⟩ hbeh h1 r1 ⟨g0.1, by have := g0.2.1; omega, g0.2.2⟩
      have n1 := nm_len r1
      have g2 := nm_good ⟨by omega, by omega⟩ hbeh h2 h ⟨g1.1, by have := g1.2.1; omega, g1.2.2⟩
      have n2 := nm_len h
      exact ⟨g2, by rw [n2, n1, n0]; simp⟩
end Go.Proofs.YtfghjkgpbncagaaGreatDoor
set_option linter.unusedVariables false
set_option linter.unusedSimpArgs false
set_option linter.unusedSectionVars false
set_option maxRecDepth 100000
namespace Go.Proofs.YtfghjkgpbncagaaGreatDoor
open Go.RowKit Go.Av Go.Proofs
theorem bare_ok (k : Nat) : ∀ (n : Nat) (l : List CapT), l.length < n → l.length ≤ 1000000 → ∃ r, L_tinfo_bare_1 k n l = some r ∧ r.length ≤ l.length
  | 0, l, h, _ => absurd h (Nat.not_lt_zero _)
  | n + 1, l, h, hl => by
    rw [L_tinfo_bare_1, inI_J]
    by_cases h0 : (l.length : Int) > 0
    · rw [decide_eq_true h0]
      simp only [cond_true, inJ_t (x := (l.length : Int) - 1) (by omega) (by omega), inL_t (i := (l.length : Int) - 1) (n := l.length) (by omega) (by omega), Option.bind_some]
      generalize (((l.getD (Int.toNat ((l.length : Int) - 1)) (0, (0, []))).1 == 0) && (((l.getD (Int.toNat ((l.length : Int) - 1)) (0, (0, []))).2.1 == 0) && ((l.getD (Int.toNat ((l.length : Int) - 1)) (0, (0, []))).2.2 == []))) = c
      cases c with
      | false => exact ⟨l, rfl, Nat.le_refl _⟩
      | true =>
        have hc := cut_len l (l := 0) (h := (l.length : Int) - 1) (by omega) (by omega) (by omega)
        obtain ⟨r, h1, h2⟩ := bare_ok k n (cut l 0 ((l.length : Int) - 1)) (by omega) (by omega)
        simp only [cond_true, inR_t (l := 0) (h := (l.length : Int) - 1) (n := l.length) (by omega) (by omega) (by omega)]
        exact ⟨r, h1, by omega⟩
    · rw [decide_eq_false h0]
      exact ⟨l, rfl, Nat.le_refl _⟩
theorem eqc_at (k : Nat) (l : List CapT) (hl : l.length ≤ 1000000) : ∀ (c m i : Nat), i + c = l.length → c < m → L_slices_Equal_Cap_1 k m l l (l.length : Int) i = some (Sum.inl ())
  | 0, m + 1, i, h, _ => by
    have : i = l.length := by omega
    rw [L_slices_Equal_Cap_1, this, not_lt_self, cond_false]
  | c + 1, m + 1, i, h, h2 => by
    have ih := eqc_at k l hl c m (i + 1) (by omega) (by omega)
    rw [L_slices_Equal_Cap_1, inI_J, lt_t (show (i : Int) < (l.length : Int) by omega), inL_t (i := (i : Int)) (n := l.length) (by omega) (by omega)]
    simp only [cond_true, BEq.rfl, Bool.and_self, Bool.not_true, cond_false, inJ_t (x := (i : Int) + 1) (by omega) (by omega)]
    exact ih
theorem eqc_ok {k : Nat} {l : List CapT} (hl : l.length ≤ 900) (hk : 1000 ≤ k) : F_slices_Equal_Cap k l l = some true := by
  unfold F_slices_Equal_Cap
  have h := eqc_at k l (by omega) l.length k 0 (by omega) (by omega)
  have h : L_slices_Equal_Cap_1 k k l l (l.length : Int) 0 = _ := h
  rw [h, show ((l.length : Int) != (l.length : Int)) = false by simp]
  rfl
theorem eqx_at (k : Nat) (l : List ExtT) (hl : l.length ≤ 1000000) : ∀ (c m i : Nat), i + c = l.length → c < m → L_slices_Equal_Ext_1 k m l l (l.length : Int) i = some (Sum.inl ())
  | 0, m + 1, i, h, _ => by
    have : i = l.length := by omega
    rw [L_slices_Equal_Ext_1, this, not_lt_self, cond_false]
  | c + 1, m + 1, i, h, h2 => by
    have ih := eqx_at k l hl c m (i + 1) (by omega) (by omega)
    rw [L_slices_Equal_Ext_1, inI_J, lt_t (show (i : Int) < (l.length : Int) by omega), inL_t (i := (i : Int)) (n := l.length) (by omega) (by omega)]
    simp only [cond_true, BEq.rfl, Bool.and_self, Bool.not_true, cond_false, inJ_t (x := (i : Int) + 1) (by omega) (by omega)]
    exact ih
theorem eqx_ok {k : Nat} {l : List ExtT} (hl : l.length ≤ 900) (hk : 1000 ≤ k) : F_slices_Equal_Ext k l l = some true := by
  unfold F_slices_Equal_Ext
  have h := eqx_at k l (by omega) l.length k 0 (by omega) (by omega)
  have h : L_slices_Equal_Ext_1 k k l l (l.length : Int) 0 = _ := h
  rw [h, show ((l.length : Int) != (l.length : Int)) = false by simp]
  rfl
theorem bareF {k : Nat} (hk : 1000 ≤ k) {l : List CapT} (hl : l.length ≤ 900) : ∃ r : List CapT, r.length ≤ 900 ∧ F_tinfo_bare k l = some r := by
  obtain ⟨r, h1, h2⟩ := bare_ok k k l (by omega) (by omega)
  exact ⟨r, by omega, by rw [F_tinfo_bare, h1]; rfl⟩
theorem tsame_refl {k : Nat} (hk : 1000 ≤ k) {t : TermT} (h1 : t.2.2.1.length ≤ 900) (h2 : t.2.2.2.1.length ≤ 900) (h3 : t.2.2.2.2.1.length ≤ 900) (h4 : t.2.2.2.2.2.length ≤ 900) : F_tinfo_Same k t t = some true := by
  obtain ⟨r1, l1, e1⟩ := bareF hk h1
  obtain ⟨r2, l2, e2⟩ := bareF hk h2
  obtain ⟨r3, l3, e3⟩ := bareF hk h3
  unfold F_tinfo_Same
  simp only [BEq.rfl, cond_true, e1, e2, e3, Option.bind_some, eqc_ok l1 hk, eqc_ok l2 hk, eqc_ok l3 hk, eqx_ok h4 hk]
def t0T : TermT := ([], (false, ([], ([], ([], [])))))
theorem check_good {nm : Str} {w : Bool} {l2 l3 l4 : List CapT} {l5 : List ExtT} (h1 : nm.length ≤ 511) (h2 : l2.length ≤ 64) (h3 : l3.length ≤ 64) (h4 : l4.length ≤ 512) (h5 : l5.length ≤ 256) (n1 : nm ≠ []) (n0 : nul nm = false) (c0 : ∀ c ∈ l2, capOk c 0 w = true ∧ c.2.2.length ≤ 1000) (c1 : ∀ c ∈ l3, capOk c 1 w = true ∧ c.2.2.length ≤ 1000) (c2 : ∀ c ∈ l4, capOk c 2 w = true ∧ c.2.2.length ≤ 1000) (x : ExG w 2 l5) : checkT (nm, (w, (l2, (l3, (l4, l5))))) = 0 := by
  have ov : ∀ l : List CapT, (∀ c ∈ l, c.2.2.length ≤ 1000) → l.any over = false := fun l h => List.any_eq_false.2 fun c hc => by
    have := h c hc
    unfold over
    simp; omega
  have ox : l5.any overX = false := List.any_eq_false.2 fun c hc => by
    have := x.2.2 c hc
    unfold overX over
    simp; omega
  have cb : ∀ (kd : Int) (l : List CapT), (∀ c ∈ l, capOk c kd w = true) → capBad kd w l = false := fun kd l h => List.any_eq_false.2 fun c hc => by
    rw [h c hc]; simp
  unfold checkT longT
  simp only [ov l2 (fun c hc => (c0 c hc).2), ov l3 (fun c hc => (c1 c hc).2), ov l4 (fun c hc => (c2 c hc).2), ox, cb 0 l2 (fun c hc => (c0 c hc).1), cb 1 l3 (fun c hc => (c1 c hc).1), cb 2 l4 (fun c hc => (c2 c hc).1), x.1, n0, decide_eq_false (show ¬ (nm.length : Int) ≥ 512 by omega), decide_eq_false (show ¬ (l2.length : Int) > 64 by omega), decide_eq_false (show ¬ (l3.length : Int) > 64 by omega), decide_eq_false (show ¬ (l4.length : Int) > 512 by omega), decide_eq_false (show ¬ (l5.length : Int) > 256 by omega)]
  have : (nm == []) = false := by
    cases nm with
    | nil => exact absurd rfl n1
    | cons a r => rfl
  rw [this]
  rfl
section
variable {b : List Int} (hb : BOk b)
include hb
omit hb in
theorem nat_of {x : Int} (h : 0 ≤ x) : ∃ n : Nat, x = n := Int.eq_ofNat_of_zero_le h
theorem nums_good (w : Bool) (o : Int) (n : Nat) : ∀ c ∈ numsS w b o n, capOk c 1 w = true ∧ c.2.2.length ≤ 1000 := fun c hc => by
  obtain ⟨i, _, rfl⟩ := List.mem_map.1 hc
  refine ⟨capOk_cN ?_, Nat.zero_le _⟩
  cases w with
  | true => exact (nm_rng hb true _).2
  | false => exact (sh_rng hb _).2
theorem name_good {N : Nat} (h : 12 + (N : Int) ≤ b.length) (hne : nameBad b N = false) : (cut (nameS b N) 0 ((N : Int) - 1)).length = N - 1 ∧ N ≥ 2 ∧ nul (cut (nameS b N) 0 ((N : Int) - 1)) = false := by
  have hl := nameS_len hb h
  unfold nameBad at hne
  rw [Bool.or_eq_false_iff] at hne
  have h1 := of_decide_eq_false hne.1
  have h2 : Lib.indexByte (nameS b N) 0 = (N : Int) - 1 := by simpa using hne.2
  have hc := cut_len (nameS b N) (l := 0) (h := (N : Int) - 1) (by omega) (by omega) (by omega)
  refine ⟨by omega, by omega, nul_of_ib ?_⟩
  have := ib_take (nameS b N) (by omega)
  rw [h2] at this
  rw [cut_from]
  exact this
/-- What the program makes of the second part. -/
theorem ext_says {k : Nat} (hk : 1000 ≤ k) {o : Int} {w : Bool} (ho : 0 ≤ o) (ho' : o ≤ b.length) : (∃ at_ e st, e ≠ 0 ∧ F_tinfo_reader_extended k b o w = some (Sum.inr ((at_, e), st))) ∨ ∃ out st, ExG w 2 out ∧ out.length ≤ 256 ∧ F_tinfo_reader_extended k b o w = some (Sum.inl (out, st)) := by
  have hlen := hb.len
  by_cases h10 : o + 10 ≤ b.length
  · cases hfb : fbad (bad2 b o) 5 0 with
    | some j =>
      have hj := fbad_lt hfb
      have hx := ext1_at hb ho h10 k o w 5 k 0 rfl (by omega)
      rw [hfb] at hx
      have hx : L_tinfo_reader_extended_1 k k o 0 0 b o w = _ := hx
      refine .inl ⟨o + 2 * (j : Int), 32, (b, (o, w)), by decide, ?_⟩
      unfold F_tinfo_reader_extended
      rw [tneed_ok hb k ho (by omega) w, decide_eq_false (show ¬ (10 : Int) > (b.length : Int) - o by omega)]
      simp only [cond_false, Option.bind_some, either]
      rw [hx]
      rfl
    | none =>
      have hbd := fbad_none hfb
      have z0 : 0 ≤ sh b o := by
        have := hbd 0 (by omega) (by omega)
        unfold bad2 at this
        simp only [Bool.or_eq_false_iff, decide_eq_false_iff_not] at this
        have := this.1
        simp at this
        omega
      have z1 : 0 ≤ sh b (o + 2) := by
        have := hbd 1 (by omega) (by omega)
        unfold bad2 at this
        simp only [Bool.or_eq_false_iff, decide_eq_false_iff_not] at this
        have := this.1
        simp at this
        omega
      have z2 : 0 ≤ sh b (o + 4) ∧ sum3 b o ≤ 256 := by
        have := hbd 2 (by omega) (by omega)
        unfold bad2 at this
        simp only [Bool.or_eq_false_iff, decide_eq_false_iff_not] at this
        obtain ⟨p, q⟩ := this
        simp at p q
        omega
      have z4 : 0 ≤ sh b (o + 8) := by
        have := hbd 4 (by omega) (by omega)
        unfold bad2 at this
        simp only [Bool.or_eq_false_iff, decide_eq_false_iff_not] at this
        have := this.1
        simp at this
        omega
      obtain ⟨m0, e0⟩ := nat_of z0
      obtain ⟨m1, e1⟩ := nat_of z1
      obtain ⟨m2, e2⟩ := nat_of z2.1
      obtain ⟨m4, e4⟩ := nat_of z4
      have hs : m0 + m1 + m2 ≤ 256 := by have := z2.2; unfold sum3 at this; omega
      have h4 : m4 ≤ 32767 := by have := sh_rng hb (o + 8); omega
      obtain ⟨no, q1⟩ : ∃ no, no = o + 10 + (m0 : Int) + (o + 10 + m0) % 2 := ⟨_, rfl⟩
      obtain ⟨to_, q2⟩ : ∃ t, t = no + (m1 : Int) * sz w := ⟨_, rfl⟩
      obtain ⟨eo, q3⟩ : ∃ t, t = to_ + (m2 : Int) * 2 := ⟨_, rfl⟩
      obtain ⟨ta, q4⟩ : ∃ t, t = eo + ((m0 + m1 + m2 : Nat) : Int) * 2 := ⟨_, rfl⟩
      have hsz := sz_le w
      have hm0 : 0 ≤ (m1 : Int) * sz w := Int.mul_nonneg (by omega) (by omega)
      have hp := ext_prog hb hk ho h10 hfb e0 e1 e2 e4 hs h4 q1 q2 q3 q4
      by_cases hen : ta + m4 > (b.length : Int)
      · rw [decide_eq_true hen, cond_true] at hp
        exact .inl ⟨_, _, _, by decide, hp⟩
      · rw [decide_eq_false hen, cond_false] at hp
        cases hne : sh b (o + 6) != ((m0 + m1 + m2 : Nat) : Int) + thrN b to_ m2 0 with
        | true =>
          rw [hne, cond_true] at hp
          exact .inl ⟨_, _, _, by decide, hp⟩
        | false =>
          rw [hne, cond_false] at hp
          have htp := text_list_ok hb (k := k) (n := m2) (by omega) (by omega) (ta := ta) (size := m4) (to_ := to_) (by omega) (by omega) (by omega) (by omega) (by omega) (ta + m4) w 0 0 0 0 0 0 0
          cases hR : runE (txStep (tbl b ta m4) b to_) m2 0 (-1, (0, [])) with
          | inl i =>
            rw [hR] at hp
            exact .inl ⟨_, _, _, by decide, hp⟩
          | inr s =>
            rw [hR] at hp
            simp only at hp
            obtain ⟨i1, i2, i3⟩ := htp.2 s hR
            cases hN : nm3 (tbl b ta m4) b eo s.2.1 (flagsS b (o + 10) m0) (numsS w b no m1) s.2.2 with
            | inl off =>
              rw [hN] at hp
              exact .inl ⟨_, _, _, by decide, hp⟩
            | inr out =>
              rw [hN] at hp
              simp only at hp
              have hg := nm3_good i2 (flags_good w b (o + 10) m0) (nums_good hb w no m1) (tx_good (w := w) hR fun c hc => by cases hc) hN
              rw [flagsS_len hb, numsS_len hb, i1] at hg
              cases hd : decide (ta + m4 < (b.length : Int)) with
              | true =>
                rw [hd] at hp
                exact .inl ⟨_, _, _, by decide, hp⟩
              | false =>
                rw [hd] at hp
                exact .inr ⟨out, _, hg.1, by omega, hp⟩
  · refine .inl ⟨(b.length : Int), 31, (b, (o, w)), by decide, ?_⟩
    unfold F_tinfo_reader_extended
    rw [tneed_ok hb k ho ho' w, decide_eq_true (show (10 : Int) > (b.length : Int) - o by omega)]
    rfl
theorem read_err {k : Nat} {at_ e : Int} {st : List Int × Int × Bool} (h : F_tinfo_reader_entry k b 0 false = some (Sum.inr ((at_, e), st))) : F_tinfo_Read k b = some (t0T, (at_, e)) := by
  unfold F_tinfo_Read
  rw [h]
  rfl
theorem read_inl {k : Nat} {t : TermT} {st : List Int × Int × Bool} (h : F_tinfo_reader_entry k b 0 false = some (Sum.inl (t, st))) : F_tinfo_Read k b = some (t, (0, 0)) := by
  unfold F_tinfo_Read
  rw [h]
  rfl
/-- What is read is good, or nothing. -/
theorem read_says {k : Nat} (hk : 1000 ≤ k) : (∃ at_ e, e ≠ 0 ∧ F_tinfo_Read k b = some (t0T, (at_, e))) ∨ ∃ u : TermT, checkT u = 0 ∧ F_tinfo_Read k b = some (u, (0, 0)) := by
  have hlen := hb.len
  by_cases hl : 12 ≤ (b.length : Int)
  · cases hm : (bif sh b 0 != 282 then sh b 0 != 542 else false) with
    | true =>
      have h282 : (sh b 0 != 282) = true := by
        cases h : sh b 0 != 282 with
        | true => rfl
        | false => rw [h] at hm; cases hm
      rw [h282, cond_true] at hm
      refine .inl ⟨0, 30, by decide, read_err hb (st := (b, (0, false))) ?_⟩
      unfold F_tinfo_reader_entry
      rw [tneed_ok hb k (n := 12) (a := 0) (by omega) (by omega) false, decide_eq_false (show ¬ (12 : Int) > (b.length : Int) - 0 by omega)]
      simp only [cond_false, Option.bind_some, either]
      rw [short_ok hb k (a := 0) (by omega) (by omega)]
      simp only [Option.bind_some, h282, hm, cond_true]
      rfl
    | false =>
      obtain ⟨w, hw⟩ : ∃ w, w = (sh b 0 == 542) := ⟨_, rfl⟩
      cases hfb : fbad (bad1 b) 5 0 with
      | some j =>
        have hj := fbad_lt hfb
        have hx := entry1_at hb hl k 0 w 5 k 0 rfl (by omega)
        rw [hfb] at hx
        have hx : L_tinfo_reader_entry_1 k k (512, (64, (64, (512, 32767)))) 0 b 0 w = _ := hx
        refine .inl ⟨2 + 2 * (j : Int), 32, by decide, read_err hb (st := (b, (0, w))) ?_⟩
        have hmag : ((bif sh b 0 != 282 then some (sh b 0, (sh b 0 != 542, (b, ((0 : Int), false)))) else some (sh b 0, (false, (b, ((0 : Int), false)))) : Option (Int × Bool × (List Int) × Int × Bool))) = some (sh b 0, (false, (b, ((0 : Int), false)))) := by
          cases h1 : sh b 0 != 282 with
          | false => rfl
          | true => rw [h1, cond_true] at hm; rw [cond_true, hm]
        unfold F_tinfo_reader_entry
        rw [tneed_ok hb k (n := 12) (a := 0) (by omega) (by omega) false, decide_eq_false (show ¬ (12 : Int) > (b.length : Int) - 0 by omega)]
        simp only [cond_false, Option.bind_some, either]
        rw [short_ok hb k (a := 0) (by omega) (by omega)]
        simp only [Option.bind_some]
        rw [hmag]
        simp only [Option.bind_some, cond_false, ← hw]
        rw [hx]
        rfl
      | none =>
        have hbd := fbad_none hfb
        have zN : 1 ≤ sh b 2 ∧ sh b 2 ≤ 512 := by
          have := hbd 0 (by omega) (by omega)
          unfold bad1 at this
          simp only [Bool.or_eq_false_iff, decide_eq_false_iff_not] at this
          obtain ⟨p, q, r⟩ := this
          simp [most5] at p q r
          omega
        have z0 : 0 ≤ sh b 4 ∧ sh b 4 ≤ 64 := by
          have := hbd 1 (by omega) (by omega)
          unfold bad1 at this
          simp only [Bool.or_eq_false_iff, decide_eq_false_iff_not] at this
          obtain ⟨p, q, r⟩ := this
          simp [most5] at p q
          omega
        have z1 : 0 ≤ sh b 6 ∧ sh b 6 ≤ 64 := by
          have := hbd 2 (by omega) (by omega)
          unfold bad1 at this
          simp only [Bool.or_eq_false_iff, decide_eq_false_iff_not] at this
          obtain ⟨p, q, r⟩ := this
          simp [most5] at p q
          omega
        have z2 : 0 ≤ sh b 8 ∧ sh b 8 ≤ 512 := by
          have := hbd 3 (by omega) (by omega)
          unfold bad1 at this
          simp only [Bool.or_eq_false_iff, decide_eq_false_iff_not] at this
          obtain ⟨p, q, r⟩ := this
          simp [most5] at p q
          omega
        have z4 : 0 ≤ sh b 10 ∧ sh b 10 ≤ 32767 := by
          have := hbd 4 (by omega) (by omega)
          unfold bad1 at this
          simp only [Bool.or_eq_false_iff, decide_eq_false_iff_not] at this
          obtain ⟨p, q, r⟩ := this
          simp [most5] at p q
          omega
        obtain ⟨N, eN⟩ := nat_of (show 0 ≤ sh b 2 by omega)
        obtain ⟨m0, e0⟩ := nat_of z0.1
        obtain ⟨m1, e1⟩ := nat_of z1.1
        obtain ⟨m2, e2⟩ := nat_of z2.1
        obtain ⟨m4, e4⟩ := nat_of z4.1
        have hN : 1 ≤ N ∧ N ≤ 512 := by omega
        have l0 : m0 ≤ 64 := by omega
        have l1 : m1 ≤ 64 := by omega
        have l2 : m2 ≤ 512 := by omega
        have l4 : m4 ≤ 32767 := by omega
        obtain ⟨fo, q0⟩ : ∃ t, t = 12 + (N : Int) := ⟨_, rfl⟩
        obtain ⟨no, q1⟩ : ∃ t, t = fo + (m0 : Int) + (fo + m0) % 2 := ⟨_, rfl⟩
        obtain ⟨to_, q2⟩ : ∃ t, t = no + (m1 : Int) * sz w := ⟨_, rfl⟩
        obtain ⟨ta, q3⟩ : ∃ t, t = to_ + (m2 : Int) * 2 := ⟨_, rfl⟩
        have hsz := sz_le w
        have hm0 : 0 ≤ (m1 : Int) * sz w := Int.mul_nonneg (by omega) (by omega)
        have hp := entry_prog hb hk hl hm hw hfb eN e0 e1 e2 e4 hN l0 l1 l2 l4 q0 q1 q2 q3
        by_cases hen : ta + m4 > (b.length : Int)
        · rw [decide_eq_true hen, cond_true] at hp
          exact .inl ⟨_, _, by decide, read_err hb hp⟩
        · rw [decide_eq_false hen, cond_false] at hp
          cases hne : nameBad b N with
          | true =>
            rw [hne, cond_true] at hp
            exact .inl ⟨_, _, by decide, read_err hb hp⟩
          | false =>
            rw [hne, cond_false] at hp
            have htp := text_list_ok hb (k := k) (n := m2) (by omega) (by omega) (ta := ta) (size := m4) (to_ := to_) (by omega) (by omega) (by omega) (by omega) (by omega) (ta + m4) w 0 0 0 0 0 0 0
            cases hR : runE (txStep (tbl b ta m4) b to_) m2 0 (-1, (0, [])) with
            | inl i =>
              rw [hR] at hp
              exact .inl ⟨_, _, by decide, read_err hb hp⟩
            | inr s =>
              rw [hR] at hp
              simp only at hp
              obtain ⟨i1, i2, i3⟩ := htp.2 s hR
              have hs := tx_good (w := w) hR fun c hc => by cases hc
              have hname := name_good hb (N := N) (by omega) hne
              have hgood : ∀ out : List ExtT, ExG w 2 out → out.length ≤ 256 → checkT (cut (nameS b N) 0 ((N : Int) - 1), (w, (flagsS b fo m0, (numsS w b no m1, (s.2.2, out))))) = 0 := fun out ho hlo =>
                check_good (by rw [hname.1]; omega) (by rw [flagsS_len hb]; omega) (by rw [numsS_len hb]; omega) (by rw [i1]; omega) hlo (by
                  intro h
                  have := hname.1
                  rw [h] at this
                  have := hname.2.1
                  simp at *
                  omega) hname.2.2 (flags_good w b fo m0) (nums_good hb w no m1) hs ho
              unfold tailOf at hp
              cases hc : (bif (b.length : Int) - (ta + (m4 : Int)) == 0 then true else bif (b.length : Int) - (ta + (m4 : Int)) == 1 then (ta + (m4 : Int)) % 2 == 1 else false) with
              | true =>
                rw [hc, cond_true] at hp
                exact .inr ⟨_, hgood [] ⟨rfl, by decide, fun x hx => by cases hx⟩ (by simp), read_inl hb hp⟩
              | false =>
                rw [hc, cond_false] at hp
                have hz : ((b.length : Int) - (ta + (m4 : Int)) == 0) = false := by
                  cases hz : (b.length : Int) - (ta + (m4 : Int)) == 0 with
                  | false => rfl
                  | true => rw [hz] at hc; cases hc
                have hz' : (b.length : Int) - (ta + (m4 : Int)) ≠ 0 := by simpa using hz
                rw [hz, cond_false] at hc
                have hfit : ¬ (ta + (m4 : Int)) % 2 > (b.length : Int) - (ta + (m4 : Int)) := by
                  cases ho : (b.length : Int) - (ta + (m4 : Int)) == 1 with
                  | false =>
                    have : (b.length : Int) - (ta + (m4 : Int)) ≠ 1 := by simpa using ho
                    omega
                  | true =>
                    rw [ho, cond_true] at hc
                    have hc : (ta + (m4 : Int)) % 2 ≠ 1 := by simpa using hc
                    omega
                rcases ext_says hb hk (w := w) (o := (ta + (m4 : Int)) + (ta + (m4 : Int)) % 2) (by omega) (by omega) with ⟨at_, e, st, he, h⟩ | ⟨out, st, ho, hlo, h⟩
                · rw [h] at hp
                  exact .inl ⟨at_, e, he, read_err hb hp⟩
                · rw [h] at hp
                  exact .inr ⟨_, hgood out ho hlo, read_inl hb hp⟩
  · refine .inl ⟨(b.length : Int), 31, by decide, read_err hb (st := (b, (0, false))) ?_⟩
    unfold F_tinfo_reader_entry
    rw [tneed_ok hb k (n := 12) (a := 0) (by omega) (by omega) false, decide_eq_true (show (12 : Int) > (b.length : Int) - 0 by omega)]
    rfl
end
theorem law_true {t : TermT} {b : List Int} (hb : BOk b) : F_lanyardlaw03_TinfoBack 2000 300 t b = some true := by
  have hk : 1000 ≤ 2000 := by omega
  generalize hkk : 2000 = k at hk
  obtain ⟨c, hr⟩ := rwrite_ok hk t
  unfold F_lanyardlaw03_TinfoBack
  rw [write_ok hk, Option.bind_some, hr, Option.bind_some, live_v]
  simp only [bne_self_eq_false, cond_false, Option.bind_some, Bool.not_true]
  have h1 : ((bif (writeV t).2 == 0 then (F_tinfo_Read k (writeV t).1).bind fun z5 => ((bif z5.2.2 != 0 then some (b, true) else bif z5.2.1 != 0 then some (b, true) else (F_tinfo_Same k t z5.1).bind fun z6 => some (b, !z6) : Option ((List Int) × Bool)).bind fun z7 => bif z7.2 then some (Sum.inr ()) else some (Sum.inl z7.1)) else some (Sum.inl b)) : Option (List Int ⊕ Unit)) = some (Sum.inl b) := by
    cases he : (writeV t).2 == 0 with
    | false => rfl
    | true =>
      have he := eq_of_beq he
      unfold writeV at he ⊢
      cases hc : checkT t != 0 with
      | true =>
        rw [hc, cond_true] at he
        simp at hc he
        exact absurd he hc
      | false =>
        have hc' : checkT t = 0 := by simpa using hc
        rw [hc, cond_false] at he
        cases hbig : bigT t with
        | true => rw [hbig] at he; cases he
        | false =>
          have hg := good_of hc'
          have g2 := hg.bools; have g3 := hg.nums; have g4 := hg.strs; have g5 := hg.exts
          simp only [cond_true, cond_false]
          rw [back hk hc' hbig]
          simp only [Option.bind_some, bne_self_eq_false, cond_false]
          rw [tsame_refl hk (by omega) (by omega) (by omega) (by omega)]
          rfl
  rw [h1]
  simp only [Option.bind_some, either]
  rcases read_says hb hk with ⟨at_, e, he, h⟩ | ⟨u, hu, h⟩
  · rw [h]
    have he : (e != 0) = true := by simpa using he
    simp only [Option.bind_some, he, cond_true]
    have := tsame_refl hk (t := t0T) (by decide) (by decide) (by decide) (by decide)
    unfold t0T at *
    rw [this]
    rfl
  · rw [h]
    obtain ⟨c2, hr2⟩ := rwrite_ok hk u
    simp only [Option.bind_some, bne_self_eq_false, cond_false]
    rw [write_ok hk, Option.bind_some, hr2]
    simp only [Option.bind_some, bne_self_eq_false, cond_false]
    have hwu : writeV u = bif bigT u then ([], 3) else (bytesT u, 0) := by
      unfold writeV
      rw [hu]; rfl
    rw [hwu]
    cases hbig : bigT u with
    | true => rfl
    | false =>
      have hg := good_of hu
      have g2 := hg.bools; have g3 := hg.nums; have g4 := hg.strs; have g5 := hg.exts
      simp only [cond_false]
      show (bif (0 : Int) == 3 then _ else _) = _
      rw [show ((0 : Int) == 3) = false from rfl, cond_false, back hk hu hbig]
      simp only [Option.bind_some, BEq.rfl, cond_true]
      rw [tsame_refl hk (by omega) (by omega) (by omega) (by omega)]
      rfl
theorem plain_law (x : TermT) (y : List Int) (hy : big 140737488355328 (.sl (.int .u8)) y) : ∃ k m, F_lanyardlaw03_TinfoBack k m x y = some true := by
  obtain ⟨h1, h2⟩ := hy
  refine ⟨2000, 300, law_true ⟨by have h1 : y.length ≤ 140737488355328 := h1; omega, fun i => ?_⟩⟩
  rw [List.getD_eq_getElem?_getD]
  cases h : y[i]? with
  | none => exact ⟨by decide, by decide⟩
  | some u =>
    have := h2 u (List.mem_of_getElem? h)
    have : (Lit.int .u8 u).wf = true := this
    simp [Lit.wf, IntKind.min, IntKind.max, IntKind.signed, IntKind.bits] at this
    show 0 ≤ u ∧ u ≤ 255
    omega
end Go.Proofs.YtfghjkgpbncagaaGreatDoor
