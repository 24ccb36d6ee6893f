/- ChannelProven: the walk of the law, and what it comes to. -/
import Derived.Test.YtdmdahafiiggiaaGreatDoorLChannelProven
set_option linter.unusedVariables false
set_option linter.unusedSimpArgs false
section
namespace Go.Proofs.YtdmdahafiiggiaaGreatDoor.K
open Go.RowKit Go.Proofs.YtdmdahafiiggiaaGreatDoorW.PrintWords Go.Proofs.YtdmdahafiiggiaaGreatDoorW.PrintLast Go.Proofs.YtdmdahafiiggiaaGreatDoorW.PrintMore
set_option linter.unusedVariables false
set_option linter.unusedSimpArgs false
variable {A0 A1 A2 : Option Addr} {c0 c1 c2 : Nat} {sp : List Int} {st : List S32} {notes : List S68} {n : Int} {w : World}
def notesB (notes : List S68) : Bool := notes.all noteB && decide (notes.length ≤ 8)
theorem noteR_f (x : S68) : quinariaref02_Note.f x.f0 x.f1.f0 x.f1.f1 = some (noteB x) := by
  unfold quinariaref02_Note.f quinariaref02_Age.f quinariaref02_between.f noteB isSpanB
  simp only [inR_f, Option.bind_some]
  cases h1 : inB x.f0 0 200 with
  | false => simp
  | true =>
    rw [if_pos rfl]
    unfold inB
    by_cases e1 : 0 ≤ x.f1.f0 <;> by_cases e2 : x.f1.f0 ≤ 10000000 <;> by_cases e3 : 0 ≤ x.f1.f1 <;> by_cases e4 : x.f1.f1 ≤ 10000000 <;> by_cases e5 : x.f1.f0 ≤ x.f1.f1 <;> simp [e1, e2, e3, e4, e5] <;> omega
theorem rdNote_eq {l : List S68} (j : Nat) : rd_T68 l (j : Int) = l.getD j z68 := by simp [rd_T68]
theorem notesR_from (hl : notes.length ≤ 1000) : ∀ (d j K : Nat), j + d = notes.length → d < K → quinariaref02_Notes.l0 K notes (j : Int) = some ((notes.drop j).all noteB && decide (notes.length ≤ 8))
  | 0, j, K + 1, hj, hK => by
    unfold quinariaref02_Notes.l0
    rw [if_neg (by omega), List.drop_eq_nil_of_le (by omega)]
    simp only [List.all_nil, Bool.true_and]
    congr 1
    exact decide_eq_decide.2 (by omega)
  | d + 1, j, K + 1, hj, hK => by
    unfold quinariaref02_Notes.l0
    rw [if_pos (by omega), if_pos (by omega), noteR_f, Option.bind_some, IntWalk.wrap64_in _ (by omega), all_drop _ z68 _ _ (by omega), rdNote_eq]
    have ih := notesR_from hl d (j + 1) K (by omega) (by omega)
    cases h1 : noteB (notes.getD j z68) with
    | true => simpa using ih
    | false => simp
def agB (sp : List Int) (st : List S32) (n r : Int) (x : S68) : Bool := inB (cupsN sp st n x.f0 r) x.f1.f0 x.f1.f1
def agreesB (sp : List Int) (st : List S32) (n : Int) (notes : List S68) (r : Int) : Bool := notes.all (agB sp st n r)
theorem note_age {x : S68} (h : noteB x = true) : inB x.f0 0 200 = true := by simp [noteB] at h; exact h.1
theorem agreeR_from (h1 : isLineB sp st = true) (h2 : numB st n = true) (hl : notes.length ≤ 1000) (hn : notes.all noteB = true) {r : Int} (r0 : 0 ≤ r) (r1 : r ≤ 100) : ∀ (d j K : Nat), j + d = notes.length → d < K → quinariaref02_Agrees.l0 K n notes r (j : Int) sp st = some ((notes.drop j).all (agB sp st n r))
  | 0, j, K + 1, hj, hK => by
    unfold quinariaref02_Agrees.l0
    rw [if_neg (by omega), List.drop_eq_nil_of_le (by omega)]
    rfl
  | d + 1, j, K + 1, hj, hK => by
    unfold quinariaref02_Agrees.l0
    have hlt : j < notes.length := by omega
    have hx : noteB (notes.getD j z68) = true := by
      have := List.all_eq_true.1 hn _ (List.getElem_mem hlt)
      simpa [List.getD, List.getElem?_eq_getElem hlt] using this
    rw [if_pos (by omega), if_pos (by omega), rdNote_eq, cupsR_f h1 h2 (note_age hx) r0 r1, Option.bind_some, inR_f, Option.bind_some, IntWalk.wrap64_in _ (by omega), all_drop _ z68 _ _ hlt]
    have ih := agreeR_from h1 h2 hl hn r0 r1 d (j + 1) K (by omega) (by omega)
    change (if agB sp st n r (notes.getD j z68) = true then _ else _) = _
    cases h3 : agB sp st n r (notes.getD j z68) with
    | true => simpa using ih
    | false => simp
theorem agreesR_f (h1 : isLineB sp st = true) (h2 : numB st n = true) (hn : notesB notes = true) {r : Int} (r0 : 0 ≤ r) (r1 : r ≤ 100) (K : Nat) (hK : 9 < K) : quinariaref02_Agrees.f K sp st n notes r = some (agreesB sp st n notes r) := by
  simp only [notesB, Bool.and_eq_true, decide_eq_true_eq] at hn
  have := agreeR_from h1 h2 (by omega) hn.1 r0 r1 notes.length 0 K (by omega) (by omega)
  simpa [quinariaref02_Agrees.f, agreesB] using this
def fromI (a : Int) : Nat → List Int
  | 0 => []
  | k + 1 => a :: fromI (a + 1) k
theorem mem_fromI : ∀ {k : Nat} {a x : Int}, x ∈ fromI a k ↔ a ≤ x ∧ x < a + k
  | 0, a, x => by simp [fromI]
  | k + 1, a, x => by rw [fromI, List.mem_cons, mem_fromI]; omega
def limesL (sp : List Int) (st : List S32) (n : Int) (notes : List S68) (k : Nat) (a : Int) : List Int := (fromI a k).filter (agreesB sp st n notes)
def loN (st : List S32) (n : Int) : Int := (rd_T32 st n).f3.f0
def hiN (st : List S32) (n : Int) : Int := (rd_T32 st n).f3.f1
def limes (sp : List Int) (st : List S32) (n : Int) (notes : List S68) : List Int := limesL sp st n notes (hiN st n + 1 - loN st n).toNat (loN st n)
theorem lo_hi (h1 : isLineB sp st = true) (h2 : numB st n = true) : 0 ≤ loN st n ∧ loN st n ≤ hiN st n ∧ hiN st n ≤ 100 := by
  have hn := num_range h2
  have hs := line_at h1 hn.1 hn.2
  exact ⟨hs.l0, hs.lh, hs.h1⟩
theorem mem_limes {r : Int} : r ∈ limes sp st n notes ↔ (loN st n ≤ r ∧ r ≤ hiN st n) ∧ agreesB sp st n notes r = true := by
  unfold limes limesL
  rw [List.mem_filter, mem_fromI]
  constructor
  · rintro ⟨h, h2⟩; exact ⟨by omega, h2⟩
  · rintro ⟨h, h2⟩; exact ⟨by omega, h2⟩
theorem carF_eq (h1 : isLineB sp st = true) (h2 : numB st n = true) {age r : Int} (h3 : inB age 0 200 = true) (r0 : 0 ≤ r) (r1 : r ≤ 100) : carF sp st n age r = some (cupsN sp st n age r) := by
  have hn := num_range h2
  have ha := age_range h3
  have hs := line_at h1 hn.1 hn.2
  unfold carF
  rw [aging_ok h1 hn.1 hn.2, Option.bind_some]
  rw [cups_f _ _ _ _ _ _ _ _ (by have := hs.b0; omega) (by have := hs.b1; omega) (by have := hs.d0; omega) hs.d1 ha.1 ha.2 (by have := hs.s0; omega) hs.s1 r0 r1]
  rfl
theorem agreeF_eq (h1 : isLineB sp st = true) (h2 : numB st n = true) {r : Int} (r0 : 0 ≤ r) (r1 : r ≤ 100) : ∀ notes : List S68, notes.all noteB = true → agreeF sp st n r notes = some (agreesB sp st n notes r)
  | [], _ => rfl
  | x :: l, h => by
    rw [List.all_cons, Bool.and_eq_true] at h
    have ih := agreeF_eq h1 h2 r0 r1 l h.2
    rw [agreeF, carF_eq h1 h2 (note_age h.1) r0 r1, Option.bind_some, ih]
    unfold agreesB
    rw [List.all_cons]
    change (if agB sp st n r x = true then _ else _) = _
    cases agB sp st n r x <;> simp
theorem ratesL_eq (h1 : isLineB sp st = true) (h2 : numB st n = true) (hn : notes.all noteB = true) : ∀ (k : Nat) (r : Int), 0 ≤ r → r + k ≤ 101 → ratesL sp st n notes k r = some (limesL sp st n notes k r)
  | 0, r, _, _ => rfl
  | k + 1, r, h3, h4 => by
    rw [ratesL, agreeF_eq h1 h2 h3 (by omega) notes hn, Option.bind_some, ratesL_eq h1 h2 hn k (r + 1) (by omega) (by omega), Option.bind_some]
    unfold limesL
    rw [fromI, List.filter_cons]
def lastR (L : List Int) : Int := rd L ((L.length : Int) - 1)
theorem limeB_eq : limeB sp st n notes = (isLineB sp st && numB st n && notesB notes) := by
  unfold limeB numB notesB
  cases isLineB sp st <;> cases inB n 0 ((st.length : Int) - 1) <;> cases decide (notes.length ≤ 8) <;> cases notes.all noteB <;> rfl
theorem last_cons {r : Int} {M : List Int} (h : M ≠ []) : lastR (r :: M) = lastR M := by
  unfold lastR
  have : 0 < M.length := List.length_pos_iff.2 h
  simp only [rd, List.length_cons]
  rw [show (((M.length + 1 : Nat) : Int) - 1).toNat = ((M.length : Int) - 1).toNat + 1 by omega]
  rfl
theorem first_mem {L : List Int} (h : ¬ L = []) : rd L 0 ∈ L := by
  cases L with
  | nil => exact absurd rfl h
  | cons r M => simp [rd]
theorem last_mem {L : List Int} (h : ¬ L = []) : lastR L ∈ L := by
  have : 0 < L.length := List.length_pos_iff.2 h
  obtain ⟨hk, e⟩ := rd_getElem (l := L) (k := (L.length : Int) - 1) (by omega) (by omega)
  unfold lastR
  rw [e]
  exact List.getElem_mem hk
end Go.Proofs.YtdmdahafiiggiaaGreatDoor.K
end
section
namespace Go.Proofs.YtdmdahafiiggiaaGreatDoor.K
open Go.RowKit Go.Proofs.YtdmdahafiiggiaaGreatDoorW.PrintWords Go.Proofs.YtdmdahafiiggiaaGreatDoorW.PrintLast Go.Proofs.YtdmdahafiiggiaaGreatDoorW.PrintMore
set_option linter.unusedVariables false
set_option linter.unusedSimpArgs false
variable {sp : List Int} {st : List S32} {notes : List S68} {n : Int}
theorem fromI_sorted : ∀ (k : Nat) (a : Int), (fromI a k).Pairwise (· < ·)
  | 0, a => List.Pairwise.nil
  | k + 1, a => List.Pairwise.cons (fun x hx => by have := mem_fromI.1 hx; omega) (fromI_sorted k (a + 1))
theorem limes_sorted : (limes sp st n notes).Pairwise (· < ·) := (fromI_sorted _ _).filter _
theorem first_le : ∀ {L : List Int}, L.Pairwise (· < ·) → ∀ x ∈ L, rd L 0 ≤ x
  | [], _, x, hx => by simp at hx
  | r :: M, h, x, hx => by
    rw [List.pairwise_cons] at h
    rcases List.mem_cons.1 hx with rfl | hx
    · exact Int.le_refl _
    · have := h.1 x hx
      change r ≤ x
      omega
theorem le_last : ∀ {L : List Int}, L.Pairwise (· < ·) → ∀ x ∈ L, x ≤ lastR L
  | [], _, x, hx => by simp at hx
  | r :: M, h, x, hx => by
    rw [List.pairwise_cons] at h
    by_cases hM : M = []
    · subst hM
      rcases List.mem_cons.1 hx with rfl | hx
      · exact Int.le_refl _
      · simp at hx
    · rw [last_cons hM]
      rcases List.mem_cons.1 hx with rfl | hx
      · have := h.1 _ (last_mem hM); omega
      · exact le_last h.2 x hx
theorem ag_between (h1 : isLineB sp st = true) (h2 : numB st n = true) {x : S68} (hx : noteB x = true) {r1 r r2 : Int} (r0 : 0 ≤ r1) (hr1 : r1 ≤ r) (hr2 : r ≤ r2) (a1 : agB sp st n r1 x = true) (a2 : agB sp st n r2 x = true) : agB sp st n r x = true := by
  have ha := age_range (note_age hx)
  unfold agB inB at *
  simp only [Bool.and_eq_true, decide_eq_true_eq] at *
  have e1 := cupsN_anti h1 h2 ha.1 (Int.le_refl _) r0 hr1
  have e2 := cupsN_anti h1 h2 ha.1 (Int.le_refl _) (by omega : 0 ≤ r) hr2
  exact ⟨by omega, by omega⟩
theorem agrees_between (h1 : isLineB sp st = true) (h2 : numB st n = true) (hn : notesB notes = true) {r1 r r2 : Int} (r0 : 0 ≤ r1) (hr1 : r1 ≤ r) (hr2 : r ≤ r2) (a1 : agreesB sp st n notes r1 = true) (a2 : agreesB sp st n notes r2 = true) : agreesB sp st n notes r = true := by
  unfold agreesB at *
  simp only [notesB, Bool.and_eq_true] at hn
  rw [List.all_eq_true] at *
  exact fun x hx => ag_between h1 h2 (hn.1 x hx) r0 hr1 hr2 (a1 x hx) (a2 x hx)
theorem agrees_cut {more : List S68} {r : Int} (h : agreesB sp st n (notes ++ more) r = true) : agreesB sp st n notes r = true := by
  unfold agreesB at *
  rw [List.all_append, Bool.and_eq_true] at h
  exact h.1
theorem none_agrees (hm : limes sp st n notes = []) {r : Int} (h2 : decide (r < loN st n) = false) (h3 : decide (hiN st n < r) = false) : agreesB sp st n notes r = false := by
  simp only [decide_eq_false_iff_not, Int.not_lt] at h2 h3
  cases h : agreesB sp st n notes r with
  | false => rfl
  | true =>
    have := mem_limes.2 ⟨⟨h2, h3⟩, h⟩
    rw [hm] at this
    simp at this
theorem proven_facts (h1 : isLineB sp st = true) (h2 : numB st n = true) (hn : notesB notes = true) (hm : ¬ limes sp st n notes = []) {a b r : Int} (ha : rd (limes sp st n notes) 0 = a) (hb : lastR (limes sp st n notes) = b) (h3 : decide (r < loN st n) = false) (h4 : decide (hiN st n < r) = false) :
    (0 ≤ a ∧ a ≤ 100 ∧ 0 ≤ b ∧ b ≤ 100 ∧ 0 ≤ r ∧ r ≤ 100) ∧ decide (a < loN st n) = false ∧ decide (hiN st n < b) = false ∧ decide (b < a) = false ∧ agreesB sp st n notes a = true ∧ agreesB sp st n notes b = true ∧ agreesB sp st n notes r = (decide (a ≤ r) && decide (r ≤ b)) := by
  simp only [decide_eq_false_iff_not, Int.not_lt] at h3 h4
  have hlh := lo_hi h1 h2
  have fa := first_mem hm
  have fb := last_mem hm
  have fab := first_le limes_sorted _ fb
  rw [ha] at fa fab
  rw [hb] at fb fab
  have ma := mem_limes.1 fa
  have mb := mem_limes.1 fb
  refine ⟨⟨by omega, by omega, by omega, by omega, by omega, by omega⟩, decide_eq_false (by omega), decide_eq_false (by omega), decide_eq_false (by omega), ma.2, mb.2, ?_⟩
  cases h : agreesB sp st n notes r with
  | true =>
    have hr := mem_limes.2 ⟨⟨h3, h4⟩, h⟩
    have e1 := first_le limes_sorted _ hr
    have e2 := le_last limes_sorted _ hr
    rw [ha] at e1
    rw [hb] at e2
    simp [e1, e2]
  | false =>
    by_cases e1 : a ≤ r
    · by_cases e2 : r ≤ b
      · have := agrees_between h1 h2 hn (by omega) e1 e2 ma.2 mb.2
        rw [this] at h
        cases h
      · simp [e2]
    · simp [e1]
theorem more_facts {all : List S68} {s : S68} (hall : all = notes ++ [s]) (hm : ¬ limes sp st n notes = []) {a b r : Int} (ha : rd (limes sp st n notes) 0 = a) (hb : lastR (limes sp st n notes) = b) (h3 : decide (r < loN st n) = false) (h4 : decide (hiN st n < r) = false) (hr : agreesB sp st n all r = true) :
    ¬ limes sp st n all = [] ∧ ∀ a' b', rd (limes sp st n all) 0 = a' → lastR (limes sp st n all) = b' → decide (a ≤ a') = true ∧ decide (b' ≤ b) = true ∧ decide (a' ≤ r) = true ∧ decide (r ≤ b') = true := by
  subst hall
  simp only [decide_eq_false_iff_not, Int.not_lt] at h3 h4
  have mr := mem_limes.2 ⟨⟨h3, h4⟩, hr⟩
  have hm' : ¬ limes sp st n (notes ++ [s]) = [] := fun e => by rw [e] at mr; simp at mr
  refine ⟨hm', fun a' b' e1 e2 => ?_⟩
  have ma := mem_limes.1 (first_mem hm')
  have mb := mem_limes.1 (last_mem hm')
  rw [e1] at ma
  rw [e2] at mb
  have f1 := first_le limes_sorted _ (mem_limes.2 ⟨ma.1, agrees_cut ma.2⟩)
  have f2 := le_last limes_sorted _ (mem_limes.2 ⟨mb.1, agrees_cut mb.2⟩)
  have f3 := first_le limes_sorted _ mr
  have f4 := le_last limes_sorted _ mr
  rw [ha] at f1
  rw [hb] at f2
  rw [e1] at f3
  rw [e2] at f4
  exact ⟨decide_eq_true f1, decide_eq_true f2, decide_eq_true f3, decide_eq_true f4⟩
end Go.Proofs.YtdmdahafiiggiaaGreatDoor.K
end
section
namespace Go.Proofs.YtdmdahafiiggiaaGreatDoor.K
open Go.RowKit Go.Proofs.YtdmdahafiiggiaaGreatDoorW.PrintWords Go.Proofs.YtdmdahafiiggiaaGreatDoorW.PrintLast Go.Proofs.YtdmdahafiiggiaaGreatDoorW.PrintMore
attribute [local go_sem] max2_int min2_int max_two min_two max_three min_three max_four min_four
set_option linter.unusedVariables false
set_option linter.unusedSimpArgs false
def quinariaref02_Carries.l0 : Nat → Int → Int → Int → List Int → List (S32) → Int → Int → Option (Int × Int)
 | 0, _, _, _, _, _, _, _ => none
 | k + 1, x1, x2, x8, x625000, x625001, x627000, x627001 => if 0 ≤ x1 then (if x1 < (x625001.length : Int) then (if x8 ≤ ((rd_T32 x625001 x1).f3.f1) then ((quinariaref02_Cups.f x625000 x625001 x1 x2 x8).bind fun t629 => (quinariaref02_Carries.l0 k x1 x2 (wrap64 (x8 + 1)) x625000 x625001 (mn x627000 t629) (mx x627001 t629))) else (some (x627000, x627001))) else (none)) else (none)
def quinariaref02_Carries.f (k : Nat) (l0_0 : List Int) (l0_1 : List (S32)) (a1 : Int) (a2 : Int) : Option (Int × Int) := if 0 ≤ a1 then (if a1 < (l0_1.length : Int) then (quinariaref02_Carries.l0 k a1 a2 ((rd_T32 l0_1 a1).f3.f0) l0_0 l0_1 10000001 (-1)) else (none)) else (none)
end Go.Proofs.YtdmdahafiiggiaaGreatDoor.K
end
section
namespace Go.Proofs.YtdmdahafiiggiaaGreatDoor.K
open Go.RowKit Go.Proofs.YtdmdahafiiggiaaGreatDoorW.PrintWords Go.Proofs.YtdmdahafiiggiaaGreatDoorW.PrintLast Go.Proofs.YtdmdahafiiggiaaGreatDoorW.PrintMore
attribute [local go_sem] max2_int min2_int max_two min_two max_three min_three max_four min_four
set_option linter.unusedVariables false
set_option linter.unusedSimpArgs false
def quinariaref02_Line.l0 : Nat → List Int → Int → List Int → List (S32) → Int → Int → Option (Int × Int)
 | 0, _, _, _, _, _, _ => none
 | k + 1, x1, x6, x631000, x631001, x633000, x633001 => if x6 < (x631001.length : Int) then (if 0 ≤ x6 then (if x6 < (x1.length : Int) then ((quinariaref02_Carries.f k x631000 x631001 x6 (rd x1 x6)).bind fun bt634 => (quinariaref02_Line.l0 k x1 (wrap64 (x6 + 1)) x631000 x631001 (mn x633000 bt634.1) (mn x633001 bt634.2))) else (none)) else (none)) else (some (x633000, x633001))
def quinariaref02_Line.f (k : Nat) (l0_0 : List Int) (l0_1 : List (S32)) (l1 : List Int) : Option (Int × Int) := quinariaref02_Line.l0 k l1 0 l0_0 l0_1 10000001 10000001
end Go.Proofs.YtdmdahafiiggiaaGreatDoor.K
end
section
namespace Go.Proofs.YtdmdahafiiggiaaGreatDoor.K
open Go.RowKit Go.Proofs.YtdmdahafiiggiaaGreatDoorW.PrintWords Go.Proofs.YtdmdahafiiggiaaGreatDoorW.PrintLast Go.Proofs.YtdmdahafiiggiaaGreatDoorW.PrintMore
attribute [local go_sem] max2_int min2_int max_two min_two max_three min_three max_four min_four
set_option linter.unusedVariables false
set_option linter.unusedSimpArgs false
mutual
def quinariaref02_Narrowest.l0 : Nat → List Int → List Int → Int → List Int → List (S32) → Option (List Int)
 | 0, _, _, _, _, _ => none
 | k + 1, x1, x5, x6, x638000, x638001 => if x6 < (x638001.length : Int) then (if 0 ≤ x6 then (if x6 < (x1.length : Int) then ((quinariaref02_Carries.f k x638000 x638001 x6 (rd x1 x6)).bind fun bt639 => (quinariaref02_Narrowest.l1 k x1 x5 x6 bt639.1 true 0 x638000 x638001)) else (none)) else (none)) else (some x5)
def quinariaref02_Narrowest.l1 : Nat → List Int → List Int → Int → Int → Bool → Int → List Int → List (S32) → Option (List Int)
 | 0, _, _, _, _, _, _, _, _ => none
 | k + 1, x1, x5, x6, x7, x8, x9, x638000, x638001 => if x9 < (x638001.length : Int) then (if x8 = true then (if x9 = x6 then (quinariaref02_Narrowest.l1 k x1 x5 x6 x7 true (wrap64 (x9 + 1)) x638000 x638001) else (if 0 ≤ x9 then (if x9 < (x1.length : Int) then ((quinariaref02_Carries.f k x638000 x638001 x9 (rd x1 x9)).bind fun bt642 => (quinariaref02_Narrowest.l1 k x1 x5 x6 x7 (decide (x7 ≤ bt642.2)) (wrap64 (x9 + 1)) x638000 x638001)) else (none)) else (none))) else (quinariaref02_Narrowest.l1 k x1 x5 x6 x7 false (wrap64 (x9 + 1)) x638000 x638001)) else (if x8 = true then (if x5.length < 17592186044416 then (quinariaref02_Narrowest.l0 k x1 (x5 ++ [x6]) (wrap64 (x6 + 1)) x638000 x638001) else (none)) else (quinariaref02_Narrowest.l0 k x1 x5 (wrap64 (x6 + 1)) x638000 x638001))
end
def quinariaref02_Narrowest.f (k : Nat) (l0_0 : List Int) (l0_1 : List (S32)) (l1 : List Int) : Option (List Int) := quinariaref02_Narrowest.l0 k l1 ([] : List Int) 0 l0_0 l0_1
end Go.Proofs.YtdmdahafiiggiaaGreatDoor.K
end
section
namespace Go.Proofs.YtdmdahafiiggiaaGreatDoor.K
open Go.RowKit Go.Proofs.YtdmdahafiiggiaaGreatDoorW.PrintWords Go.Proofs.YtdmdahafiiggiaaGreatDoorW.PrintLast Go.Proofs.YtdmdahafiiggiaaGreatDoorW.PrintMore
attribute [local go_sem] max2_int min2_int max_two min_two max_three min_three max_four min_four
set_option linter.unusedVariables false
set_option linter.unusedSimpArgs false
def quinariaref02_Ages.l0 : Nat → List Int → Int → List Int → List (S32) → Option (Bool)
 | 0, _, _, _, _ => none
 | k + 1, x1, x5, x622000, x622001 => if x5 < (x1.length : Int) then (if 0 ≤ x5 then ((quinariaref02_Age.f (rd x1 x5)).bind fun t623 => (if t623 = true then (quinariaref02_Ages.l0 k x1 (wrap64 (x5 + 1)) x622000 x622001) else (some false))) else (none)) else (some ((x1.length : Int) == (x622001.length : Int)))
def quinariaref02_Ages.f (k : Nat) (l0_0 : List Int) (l0_1 : List (S32)) (l1 : List Int) : Option (Bool) := quinariaref02_Ages.l0 k l1 0 l0_0 l0_1
end Go.Proofs.YtdmdahafiiggiaaGreatDoor.K
end
section
namespace Go.Proofs.YtdmdahafiiggiaaGreatDoor.K
open Go.RowKit Go.Proofs.YtdmdahafiiggiaaGreatDoorW.PrintWords Go.Proofs.YtdmdahafiiggiaaGreatDoorW.PrintLast Go.Proofs.YtdmdahafiiggiaaGreatDoorW.PrintMore
set_option linter.unusedVariables false
set_option linter.unusedSimpArgs false
abbrev ST := S32
variable {sp : List Int} {st : List ST}
theorem w1 {x : Int} (h0 : -1 ≤ x) (h : x < 9223372036854775807) : wrap64 (x + 1) = x + 1 := IntWalk.wrap64_in _ (by omega)
theorem short_f (sp : List Int) (st : List ST) : quinarialaw02_short.f sp st = some (shortB sp st) := by
  unfold quinarialaw02_short.f shortB
  by_cases h1 : sp.length ≤ 13
  · rw [if_pos (by omega)]
    by_cases h2 : st.length ≤ 10
    · simp [h1, h2]; omega
    · simp [h1, h2]; omega
  · rw [if_neg (by omega)]; simp [h1]
end Go.Proofs.YtdmdahafiiggiaaGreatDoor.K
end
section
namespace Go.Proofs.YtdmdahafiiggiaaGreatDoor.K
open Go.RowKit Go.Proofs.YtdmdahafiiggiaaGreatDoorW.PrintWords Go.Proofs.YtdmdahafiiggiaaGreatDoorW.PrintLast Go.Proofs.YtdmdahafiiggiaaGreatDoorW.PrintMore
set_option linter.unusedVariables false
set_option linter.unusedSimpArgs false
abbrev NOT := S68
variable {sp : List Int} {st : List ST} {n : Int} {notes : List NOT}
theorem numR_f (hs : st.length ≤ 1000000) (n : Int) : quinariaref02_Number.f sp st n = some (numB st n) := by
  unfold quinariaref02_Number.f numB
  rw [IntWalk.wrap64_in _ (by omega), inR_f, Option.bind_some]
theorem notesR_f (hl : notes.length ≤ 1000) (K : Nat) (hK : notes.length < K) : quinariaref02_Notes.f K notes = some (notesB notes) := by
  unfold quinariaref02_Notes.f notesB
  have := notesR_from hl notes.length 0 K (by omega) hK
  simpa using this
theorem lime_g (h1 : isLineB sp st = true) (h2 : numB st n = true) (hn : notesB notes = true) :
    channel_Lime.f sp st n notes = some (if limes sp st n notes = [] then (0, 0, 7) else (rd (limes sp st n notes) 0, lastR (limes sp st n notes), 0)) := by
  have hb : limeB sp st n notes = true := by rw [limeB_eq, h1, h2, hn]; rfl
  have hlh := lo_hi h1 h2
  have hll := line_lens h1
  simp only [notesB, Bool.and_eq_true, decide_eq_true_eq] at hn
  unfold channel_Lime.f
  rw [if_pos ⟨by omega, by omega, by omega⟩, if_pos hb]
  have e := ratesL_eq h1 h2 hn.1 (hiN st n + 1 - loN st n).toNat (loN st n) hlh.1 (by omega)
  unfold hiN loN at e
  rw [e, Option.bind_some]
  rfl
theorem proven_j2 (h1 : isLineB sp st = true) (h2 : numB st n = true) {all : List NOT} {s : NOT} (hall : all = notes ++ [s]) (hn : notesB all = true) (hm : ¬ limes sp st n notes = []) {r : Int} (h3 : decide (r < loN st n) = false) (h4 : decide (hiN st n < r) = false) (hr : agreesB sp st n all r = true) (K : Nat) :
    quinarialaw02_ChannelProven.j2 (K + 1) n r all false sp st (rd (limes sp st n notes) 0) (lastR (limes sp st n notes)) = some true := by
  obtain ⟨hm', hf⟩ := more_facts hall hm rfl rfl h3 h4 hr
  obtain ⟨f1, f2, f3, f4⟩ := hf _ _ rfl rfl
  simp only [decide_eq_true_eq] at f1 f2 f3 f4
  rw [quinarialaw02_ChannelProven.j2]
  rw [if_neg (by simp), lime_g h1 h2 hn, Option.bind_some, if_neg hm']
  simp only [if_true]
  rw [if_pos f1, if_pos f2, if_pos f3, if_pos f4]
  rfl
theorem proven_j1 (h1 : isLineB sp st = true) (h2 : numB st n = true) (hn : notesB notes = true) (hm : ¬ limes sp st n notes = []) {r : Int} (h3 : decide (r < loN st n) = false) (h4 : decide (hiN st n < r) = false) (r0 : 0 ≤ r) (r1 : r ≤ 100) (s0 s1 s2 : Int) :
    quinarialaw02_ChannelProven.j1 (300 + 1 + 1) n notes r false sp st s0 s1 s2 (rd (limes sp st n notes) 0) (lastR (limes sp st n notes)) = some true := by
  have hl : notes.length ≤ 8 := by simp [notesB] at hn; omega
  obtain ⟨all, hall⟩ : ∃ l, l = notes ++ [(⟨s0, ⟨s1, s2⟩⟩ : NOT)] := ⟨_, rfl⟩
  have hal : all.length ≤ 9 := by rw [hall]; simp; omega
  rw [quinarialaw02_ChannelProven.j1]
  rw [if_neg (by simp), if_pos (by simp; omega), Option.bind_some, Option.bind_some, if_pos (by simp; omega), Option.bind_some, List.nil_append]
  rw [show notes ++ [({ f0 := s0, f1 := { f0 := s1, f1 := s2 } } : NOT)] = all from hall.symm, notesR_f (by omega) _ (by omega), Option.bind_some]
  have hk : ∀ K, quinarialaw02_ChannelProven.j2 (K + 1) n r all true sp st (rd (limes sp st n notes) 0) (lastR (limes sp st n notes)) = some true := fun K => by
    rw [quinarialaw02_ChannelProven.j2]
    rw [if_pos rfl]
    rfl
  cases hN : notesB all with
  | false => rw [if_neg (by simp)]; exact hk _
  | true =>
    rw [if_pos rfl, agreesR_f h1 h2 hN r0 r1 _ (by omega), Option.bind_some]
    cases hA : agreesB sp st n all r with
    | false => exact hk _
    | true => exact proven_j2 h1 h2 hall hN hm h3 h4 hA _
theorem ChannelProven_pure (sp : List Int) (st : List ST) (n : Int) (notes : List NOT) (r s0 s1 s2 : Int) : quinarialaw02_ChannelProven.f (300 + 1 + 1 + 1) sp st n notes r s0 s1 s2 = some true := by
  have hk : quinarialaw02_ChannelProven.j0 (300 + 1 + 1 + 1) n notes r true sp st s0 s1 s2 = some true := by
    rw [quinarialaw02_ChannelProven.j0]
    rw [if_pos rfl]
    rfl
  unfold quinarialaw02_ChannelProven.f
  rw [short_f, Option.bind_some]
  cases hs : shortB sp st with
  | false => rw [if_neg (by simp)]; exact hk
  | true =>
    have hl := short_lens hs
    rw [if_pos rfl]
    by_cases h11 : (notes.length : Int) > 11
    · rw [if_pos h11]; exact hk
    rw [if_neg h11, right_f (by omega) (by omega) _ (by omega), Option.bind_some]
    cases h1 : isLineB sp st with
    | false => rw [if_neg (by simp)]; exact hk
    | true =>
    rw [if_pos rfl, numR_f (by omega), Option.bind_some]
    cases h2 : numB st n with
    | false => rw [if_neg (by simp)]; exact hk
    | true =>
    rw [if_pos rfl, notesR_f (by omega) _ (by omega), Option.bind_some]
    cases hn : notesB notes with
    | false => rw [if_neg (by simp)]; exact hk
    | true =>
    have hn' := num_range h2
    rw [if_pos rfl, if_pos hn'.1, if_pos hn'.2]
    by_cases h3 : r < (rd_T32 st n).f3.f0
    · rw [if_pos h3]; exact hk
    rw [if_neg h3]
    by_cases h4 : r > (rd_T32 st n).f3.f1
    · rw [decide_eq_true h4]; exact hk
    rw [decide_eq_false h4]
    have h3' : decide (r < loN st n) = false := decide_eq_false h3
    have h4' : decide (hiN st n < r) = false := decide_eq_false h4
    have hlh := lo_hi h1 h2
    have r0 : 0 ≤ r := by unfold loN at hlh; omega
    have r1 : r ≤ 100 := by unfold hiN at hlh; omega
    rw [quinarialaw02_ChannelProven.j0]
    rw [if_neg (by simp), lime_g h1 h2 hn, Option.bind_some, agreesR_f h1 h2 hn r0 r1 _ (by omega), Option.bind_some]
    by_cases hm : limes sp st n notes = []
    · rw [if_pos hm, none_agrees hm h3' h4']
      rfl
    · obtain ⟨⟨a0, a1, b0, b1, -, -⟩, g1, g2, g3, g4, g5, g6⟩ := proven_facts h1 h2 hn hm (r := r) rfl rfl h3' h4'
      have hj := proven_j1 h1 h2 hn hm h3' h4' r0 r1 s0 s1 s2
      rw [if_neg hm]
      simp only [decide_eq_false_iff_not] at g1 g2 g3
      unfold loN at g1
      unfold hiN at g2
      generalize rd (limes sp st n notes) 0 = a at *
      generalize lastR (limes sp st n notes) = b at *
      simp only [if_true]
      rw [if_pos hn'.1, if_pos hn'.2, if_neg (by omega), if_neg (by omega), if_neg (by omega), agreesR_f h1 h2 hn a0 a1 _ (by omega), Option.bind_some, g4, if_pos rfl, agreesR_f h1 h2 hn b0 b1 _ (by omega), Option.bind_some, g5, if_pos rfl, g6]
      by_cases ha : r ≥ a
      · rw [if_pos ha, decide_eq_true (show a ≤ r from ha), Bool.true_and, bne_self_eq_false]
        exact hj
      · rw [if_neg ha, decide_eq_false (show ¬ a ≤ r from ha), Bool.false_and]
        exact hj
theorem ChannelProven_law (A0 A1 : Option Addr) (c0 c1 : Nat) (sp : List Int) (st : List ST) (n : Int) (A3 : Option Addr) (c3 : Nat) (notes : List NOT) (r : Int) (s : NOT) (w : World) (hT : TabW w) (h0 : At' (Kd.int .i64) w A0 sp.length c0 sp) (h1 : At' k32 w A1 st.length c1 st) (h3 : At' k68 w A3 notes.length c3 notes) :
    Calls Tryz.prog 12 #[.agg #[.slice A0 sp.length c0, .slice A1 st.length c1], .int .i64 n, .slice A3 notes.length c3, .int .i64 r, .agg #[.int .i64 s.f0, .int .i64 s.f1.f0, .int .i64 s.f1.f1]] w fun e w' => e = .returned (.bool true) ∧ Below w.heap.size w w' :=
  quinarialaw02_ChannelProven.calls _ A0 c0 sp A1 c1 st n A3 c3 notes r s.f0 s.f1.f0 s.f1.f1 true w h0.c h0.le h1.c h1.le h3.c h3.le hT (ChannelProven_pure sp st n notes r _ _ _)
end Go.Proofs.YtdmdahafiiggiaaGreatDoor.K
end
