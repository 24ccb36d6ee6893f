/- ChannelPlans: the walk of the law, and what it comes to. -/
import Derived.Test.YtdmdahafiiggiaaGreatDoorLChannelPlans
set_option linter.unusedVariables false
set_option linter.unusedSimpArgs false
section
namespace Go.Proofs.YtdmdahafiiggiaaGreatDoor.K
open Go.RowKit Go.Proofs.YtdmdahafiiggiaaGreatDoorW.PrintWords Go.Proofs.YtdmdahafiiggiaaGreatDoorW.PrintLast Go.Proofs.YtdmdahafiiggiaaGreatDoorW.PrintMore
set_option linter.unusedVariables false
set_option linter.unusedSimpArgs false
variable {sp : List Int} {st : List ST}
theorem ok_perm {a : Int} {l L L' : List Int} {y : Int} (h : Pl.Ok a l L y) (hp : L.Perm L') : Pl.Ok a l L' y := ⟨hp.subset h.1, h.2.1, Pl.fills_perm h.2.2 (List.Perm.refl _) (hp.erase y)⟩
theorem least_uniq {l L p : List Int} (h : Pl.Least l L p) : ∀ {L' p' : List Int}, L.Perm L' → Pl.Least l L' p' → p = p' := by
  induction h with
  | nil L => intro L' p' _ h'; cases h'; rfl
  | @cons a y l L p h hm hp ih =>
    intro L' p' hpe h'
    cases h' with
    | @cons a y' l L' p' h2 hm2 hp2 =>
      have e1 := hm y' (ok_perm h2 hpe.symm)
      have e2 := hm2 y (ok_perm h hpe)
      have e : y = y' := Int.le_antisymm e1 e2
      subst e
      rw [ih (hpe.erase y) hp2]
section
variable (L a : Nat → Int) (untl : Int)
def dueB (i : Nat) : Bool := decide (L i < 200) && decide (L i - a i < untl)
def rank : Nat → Nat
  | 0 => 0
  | k + 1 => rank k + if dueB L a untl k then 1 else 0
def planL (n : Nat) (p : List Int) : List Int := (List.range n).map fun x => if dueB L a untl x then p.getD (rank L a untl x) 0 else -1
theorem rank_mono : ∀ {i j : Nat}, i ≤ j → rank L a untl i ≤ rank L a untl j
  | i, 0, h => by obtain rfl : i = 0 := by omega
                  exact Nat.le_refl _
  | i, j + 1, h => by
    by_cases e : i = j + 1
    · subst e; exact Nat.le_refl _
    · have := rank_mono (show i ≤ j by omega)
      show _ ≤ rank L a untl j + _
      omega
theorem rank_lt {i j : Nat} (h : i < j) (hd : dueB L a untl i = true) : rank L a untl i < rank L a untl j := by
  have := rank_mono L a untl (show i + 1 ≤ j by omega)
  have e : rank L a untl (i + 1) = rank L a untl i + if dueB L a untl i then 1 else 0 := rfl
  rw [e, hd, if_pos rfl] at this
  omega
theorem rank_has {i : Nat} : ∀ {m : Nat}, i < rank L a untl m → ∃ z, z < m ∧ dueB L a untl z = true ∧ rank L a untl z = i
  | 0, h => absurd h (Nat.not_lt_zero _)
  | m + 1, h => by
    by_cases h2 : i < rank L a untl m
    · obtain ⟨z, a, b, c⟩ := rank_has h2
      exact ⟨z, by omega, b, c⟩
    · have e3 : rank L a untl (m + 1) = rank L a untl m + if dueB L a untl m then 1 else 0 := rfl
      cases hdm : dueB L a untl m with
      | false => rw [hdm] at e3; simp at e3; omega
      | true => rw [hdm, if_pos rfl] at e3; exact ⟨m, by omega, hdm, by omega⟩
theorem rank_zero : rank L a untl 0 = 0 := rfl
theorem planL_zero (p : List Int) : planL L a untl 0 p = [] := rfl
theorem rank_succ (k : Nat) : rank L a untl (k + 1) = rank L a untl k + if dueB L a untl k then 1 else 0 := rfl
theorem rank_le : ∀ m, rank L a untl m ≤ m
  | 0 => Nat.le_refl _
  | m + 1 => by
    have := rank_le m
    show rank L a untl m + _ ≤ m + 1
    split <;> omega
theorem planL_len (n : Nat) (p : List Int) : (planL L a untl n p).length = n := by simp [planL]
theorem planL_get {n : Nat} (p : List Int) {x : Nat} (h : x < n) (h2 : x < (planL L a untl n p).length) : (planL L a untl n p)[x] = if dueB L a untl x = true then p.getD (rank L a untl x) 0 else -1 := by simp [planL]
theorem planL_no {n : Nat} (p : List Int) (h : dueB L a untl n = false) : planL L a untl (n + 1) p = planL L a untl n p ++ [-1] := by
  simp [planL, List.range_succ, h]
theorem planL_yes {n : Nat} (p : List Int) (y : Int) (h : dueB L a untl n = true) (hp : p.length = rank L a untl n) : planL L a untl (n + 1) (p ++ [y]) = planL L a untl n p ++ [y] := by
  unfold planL
  rw [List.range_succ, List.map_append]
  congr 1
  · apply List.map_congr_left
    intro x hx
    rw [List.mem_range] at hx
    by_cases hd : dueB L a untl x = true
    · rw [if_pos hd, if_pos hd]
      have := rank_lt L a untl hx hd
      simp [List.getD, List.getElem?_append_left (show rank L a untl x < p.length by omega)]
    · rw [if_neg hd, if_neg hd]
  · simp [h, List.getD, ← hp]
end
variable {L : Int → Int} {ages : List Int} {untl : Int}
abbrev Ln (L : Int → Int) : Nat → Int := fun i => L (i : Int)
abbrev an (ages : List Int) : Nat → Int := fun i => ages.getD i 0
theorem dueF_spec : ∀ {k : Nat} {due last : List Int}, dueF L ages untl k = some (due, last) → due.length = rank (Ln L) (an ages) untl k ∧ last.length = due.length ∧ (∀ i, i < k → 0 ≤ L (i : Int)) ∧ ∀ i, i < k → dueB (Ln L) (an ages) untl i = true → due.getD (rank (Ln L) (an ages) untl i) 0 = (i : Int) ∧ last.getD (rank (Ln L) (an ages) untl i) 0 = L (i : Int) - ages.getD i 0
  | 0, due, last, h => by
    obtain ⟨rfl, rfl⟩ := Prod.mk.inj (Option.some.inj h)
    exact ⟨rfl, rfl, fun i hi => by omega, fun i hi => by omega⟩
  | k + 1, due, last, h => by
    obtain ⟨s, hs, h⟩ := Option.bind_eq_some_iff.mp h
    by_cases hneg : L k < 0
    · rw [if_pos hneg] at h; cases h
    rw [if_neg hneg] at h
    have h := Option.some.inj h
    obtain ⟨due0, last0⟩ := s
    obtain ⟨h1, h2, h3, h4⟩ := dueF_spec hs
    unfold stepDue at h
    have hr : rd ages (k : Int) = ages.getD k 0 := rd_at ages k
    rw [hr] at h
    have hrank : rank (Ln L) (an ages) untl (k + 1) = rank (Ln L) (an ages) untl k + if dueB (Ln L) (an ages) untl k then 1 else 0 := rfl
    by_cases hd : L (k : Int) < 200 ∧ L (k : Int) - ages.getD k 0 < untl
    · rw [if_pos hd] at h
      obtain ⟨rfl, rfl⟩ := Prod.mk.inj h
      have hdb : dueB (Ln L) (an ages) untl k = true := by unfold dueB; rw [Bool.and_eq_true, decide_eq_true_iff, decide_eq_true_iff]; exact hd
      rw [hdb, if_pos rfl] at hrank
      refine ⟨by simp; omega, by simp; omega, fun i hi => ?_, fun i hi hdi => ?_⟩
      · by_cases e : i = k
        · subst e; omega
        · exact h3 i (by omega)
      · by_cases e : i = k
        · subst e
          rw [← h1]
          exact ⟨by simp [List.getD], by rw [← h2]; simp [List.getD]⟩
        · have hlt := rank_lt (Ln L) (an ages) untl (show i < k by omega) hdi
          have := h4 i (by omega) hdi
          simp only [List.getD] at this ⊢
          rw [List.getElem?_append_left (by omega), List.getElem?_append_left (by omega)]
          exact this
    · rw [if_neg hd] at h
      obtain ⟨rfl, rfl⟩ := Prod.mk.inj h
      have hdb : dueB (Ln L) (an ages) untl k = false := by
        cases e : dueB (Ln L) (an ages) untl k with
        | false => rfl
        | true => exact absurd (by unfold dueB at e; rw [Bool.and_eq_true, decide_eq_true_iff, decide_eq_true_iff] at e; exact e) hd
      rw [hdb] at hrank
      refine ⟨by simpa [hrank] using h1, h2, fun i hi => ?_, fun i hi hdi => ?_⟩
      · by_cases e : i = k
        · subst e; omega
        · exact h3 i (by omega)
      · by_cases e : i = k
        · subst e; rw [hdb] at hdi; cases hdi
        · exact h4 i (by omega) hdi
theorem leftL_snoc {ys T : List Int} {y : Int} (hn : ys.Nodup) : leftL ys (T ++ [y]) = (leftL ys T).erase y := by
  unfold leftL
  rw [List.Nodup.erase_eq_filter (hn.filter _), List.filter_filter]
  apply List.filter_congr
  intro x hx
  by_cases e : x = y
  · subst e; simp
  · by_cases e2 : x ∈ T <;> simp [e, e2]
theorem find_least {p : Int → Bool} : ∀ {l : List Int} {y : Int}, l.Pairwise (· ≤ ·) → l.find? p = some y → p y = true ∧ y ∈ l ∧ ∀ z ∈ l, p z = true → y ≤ z
  | [], y, _, h => by cases h
  | x :: l, y, hs, h => by
    rw [List.find?_cons] at h
    cases hp : p x with
    | true =>
      rw [hp] at h
      obtain rfl := Option.some.inj h
      refine ⟨hp, List.mem_cons_self .., fun z hz _ => ?_⟩
      rcases List.mem_cons.mp hz with rfl | hz
      · exact Int.le_refl _
      · exact (List.pairwise_cons.mp hs).1 z hz
    | false =>
      rw [hp] at h
      obtain ⟨h1, h2, h3⟩ := find_least (List.pairwise_cons.mp hs).2 h
      refine ⟨h1, List.mem_cons_of_mem _ h2, fun z hz hpz => ?_⟩
      rcases List.mem_cons.mp hz with rfl | hz
      · rw [hp] at hpz; cases hpz
      · exact h3 z hz hpz
theorem fitB_iff {last years : List Int} (h : last.length = years.length) : fitB last years = true ↔ Pl.Fills last years := by
  have e1 : Pl.Fills last years ↔ Pl.Fills (sortL last) (sortL years) := ⟨fun h => Pl.fills_perm h (sortL_perm _).symm (sortL_perm _).symm, fun h => Pl.fills_perm h (sortL_perm _) (sortL_perm _)⟩
  rw [e1, Pl.fills_sorted (by rw [sortL_length, sortL_length, h]) (sortL_sorted _) (sortL_sorted _)]
  unfold fitB
  rw [List.all_eq_true]
  have hl1 := sortL_length last
  have hl2 := sortL_length years
  constructor
  · intro h3 i hi
    have := h3 i (List.mem_range.mpr (by omega))
    rw [rd_at, rd_at, List.getD, List.getD, List.getElem?_eq_getElem (by omega), List.getElem?_eq_getElem (by omega)] at this
    simpa using this
  · intro h3 i hi
    have hi := List.mem_range.mp hi
    have := h3 i (by omega)
    rw [rd_at, rd_at, List.getD, List.getD, List.getElem?_eq_getElem (by omega), List.getElem?_eq_getElem (by omega)]
    simpa using this
structure PickAt (ys last : List Int) (i : Nat) (T : List Int) : Prop where
  len : T.length = i
  left : (leftL ys T).length = (last.drop i).length
  fills : Pl.Fills (last.drop i) (leftL ys T)
  go : ∀ p', Pl.Least (last.drop i) (leftL ys T) p' → Pl.Least last ys (T ++ p')
theorem pick_step {ys last T : List Int} {i : Nat} (hn : ys.Nodup) (hs : ys.Pairwise (· ≤ ·)) (hi : i < last.length) (h : PickAt ys last i T) : ∃ y, pickF ys last i T = some y ∧ PickAt ys last (i + 1) (T ++ [y]) := by
  have hd : last.drop i = last[i] :: last.drop (i + 1) := List.drop_eq_getElem_cons hi
  have hrd : rd last (i : Int) = last[i] := by rw [rd_at, List.getD, List.getElem?_eq_getElem hi]; rfl
  have hlen := h.left
  rw [hd] at hlen
  have hsub : (leftL ys T).Pairwise (· ≤ ·) := hs.filter _
  have hok : ∀ z ∈ leftL ys T, (okY ys last i T z = true ↔ Pl.Ok last[i] (last.drop (i + 1)) (leftL ys T) z) := fun z hz => by
    have hle : (last.drop (i + 1)).length = ((leftL ys T).erase z).length := by rw [List.length_erase_of_mem hz, hlen]; rfl
    unfold okY Pl.Ok
    rw [Bool.and_eq_true, leftL_snoc hn, fitB_iff hle, hrd, decide_eq_true_iff]
    exact ⟨fun ⟨a, b⟩ => ⟨hz, a, b⟩, fun ⟨_, a, b⟩ => ⟨a, b⟩⟩
  have hf := h.fills
  rw [hd] at hf
  obtain ⟨z, hz⟩ := Pl.ok_some hf
  unfold pickF
  cases hp : (leftL ys T).find? (okY ys last i T) with
  | none =>
    rw [List.find?_eq_none] at hp
    exact absurd ((hok z hz.1).mpr hz) (hp z hz.1)
  | some y =>
    obtain ⟨h1, h2, h3⟩ := find_least hsub hp
    have hoy := (hok y h2).mp h1
    refine ⟨y, rfl, ⟨by simp [h.len], ?_, ?_, fun p' hp' => ?_⟩⟩
    · rw [leftL_snoc hn, List.length_erase_of_mem h2, hlen]; rfl
    · rw [leftL_snoc hn]; exact hoy.2.2
    · rw [leftL_snoc hn] at hp'
      have := h.go (y :: p') (by rw [hd]; exact Pl.Least.cons hoy (fun z hz => h3 z hz.1 ((hok z hz.1).mpr hz)) hp')
      rwa [List.append_assoc, List.singleton_append]
theorem stepPick_some {ys last due : List Int} {i : Nat} {s : List Int × List Int} {y : Int} (h : pickF ys last i s.1 = some y) : stepPick ys last due i s = (s.1 ++ [y], s.2.set (rd due i).toNat y) := by unfold stepPick; rw [h]
theorem picks_at {ys last due plan : List Int} (hn : ys.Nodup) (hs : ys.Pairwise (· ≤ ·)) (hl : ys.length = last.length) (hf : Pl.Fills last ys) : ∀ i, i ≤ last.length → PickAt ys last i (picks2 i (stepPick ys last due) ([], plan)).1
  | 0, _ => by
    have e : leftL ys [] = ys := by simp [leftL]
    exact ⟨rfl, by rw [picks2, e, List.drop_zero, hl], by rw [picks2, e]; exact hf, fun p' hp' => by rw [picks2, e] at hp'; simpa [picks2] using hp'⟩
  | i + 1, hi => by
    have ih := picks_at (due := due) (plan := plan) hn hs hl hf i (by omega)
    obtain ⟨y, hy, h⟩ := pick_step hn hs (by omega) ih
    rw [picks2, stepPick_some hy]
    exact h
theorem picks_plan {ys last due : List Int} {n : Nat} (hn : ys.Nodup) (hs : ys.Pairwise (· ≤ ·)) (hl : ys.length = last.length) (hf : Pl.Fills last ys) (hd : dueF L ages untl n = some (due, last)) : ∀ i, i ≤ last.length →
    (picks2 i (stepPick ys last due) ([], List.replicate n (-1))).2.length = n ∧ ∀ x, x < n → (picks2 i (stepPick ys last due) ([], List.replicate n (-1))).2.getD x 0 = if dueB (Ln L) (an ages) untl x = true ∧ rank (Ln L) (an ages) untl x < i then (picks2 i (stepPick ys last due) ([], List.replicate n (-1))).1.getD (rank (Ln L) (an ages) untl x) 0 else -1
  | 0, _ => ⟨by simp [picks2], fun x hx => by simp [picks2, List.getD, hx]⟩
  | i + 1, hi => by
    obtain ⟨d1, d2, d3, d4⟩ := dueF_spec hd
    obtain ⟨ih1, ih2⟩ := picks_plan hn hs hl hf hd i (by omega)
    have hat := picks_at (due := due) (plan := List.replicate n (-1)) hn hs hl hf i (by omega)
    obtain ⟨y, hy, -⟩ := pick_step hn hs (by omega) hat
    have hT := hat.len
    rw [picks2, stepPick_some hy]
    clear hy
    generalize picks2 i (stepPick ys last due) ([], List.replicate n (-1)) = s at *
    refine ⟨by simpa using ih1, fun x hx => ?_⟩
    by_cases hdx : dueB (Ln L) (an ages) untl x = true
    · obtain ⟨e1, -⟩ := d4 x hx hdx
      by_cases er : rank (Ln L) (an ages) untl x = i
      · rw [er] at e1
        rw [if_pos ⟨hdx, by omega⟩, er, rd_at, e1, Int.toNat_natCast]
        simp [List.getD, ih1, hx, ← hT]
      · have hne : due.getD i 0 ≠ (x : Int) := by
          intro e
          have hri : i < rank (Ln L) (an ages) untl n := by omega
          obtain ⟨z, z1, z2, z3⟩ := rank_has (Ln L) (an ages) untl hri
          obtain ⟨e4, -⟩ := d4 z z1 z2
          rw [z3, e] at e4
          have : x = z := by omega
          subst this
          exact er z3
        have e5 : (s.2.set (rd due (i : Int)).toNat y).getD x 0 = s.2.getD x 0 := by
          rw [rd_at]
          by_cases hneg : (due.getD i 0).toNat = x
          · 
            exfalso
            have hri : i < rank (Ln L) (an ages) untl n := by omega
            obtain ⟨z, z1, z2, z3⟩ := rank_has (Ln L) (an ages) untl hri
            obtain ⟨e4, -⟩ := d4 z z1 z2
            rw [z3] at e4
            exact hne (by rw [e4] at hneg ⊢; omega)
          · generalize (due.getD i 0).toNat = q at hneg ⊢
            simp [List.getD, List.getElem?_set, hneg]
        rw [e5, ih2 x hx]
        by_cases hlt : rank (Ln L) (an ages) untl x < i
        · rw [if_pos ⟨hdx, hlt⟩, if_pos ⟨hdx, by omega⟩]
          simp [List.getD, List.getElem?_append_left (show rank (Ln L) (an ages) untl x < s.1.length by omega)]
        · rw [if_neg (fun h => hlt h.2), if_neg (fun h => by have := h.2; omega)]
    · have hri : i < rank (Ln L) (an ages) untl n := by omega
      obtain ⟨z, z1, z2, z3⟩ := rank_has (Ln L) (an ages) untl hri
      obtain ⟨e4, -⟩ := d4 z z1 z2
      rw [z3] at e4
      have hzx : z ≠ x := by intro e; subst e; exact hdx z2
      have e5 : (s.2.set (rd due (i : Int)).toNat y).getD x 0 = s.2.getD x 0 := by
        rw [rd_at, e4, Int.toNat_natCast]
        simp [List.getD, List.getElem?_set, hzx]
      rw [e5, ih2 x hx, if_neg (fun h => hdx h.1), if_neg (fun h => hdx h.1)]
attribute [local irreducible] latN rank planL Pl.cnt
theorem least_permL {l L p : List Int} (h : Pl.Least l L p) : ∀ {L' : List Int}, L.Perm L' → Pl.Least l L' p := by
  induction h with
  | nil L => intro L' _; exact Pl.Least.nil L'
  | @cons a y l L p h hm hp ih => intro L' hpe; exact Pl.Least.cons (ok_perm h hpe) (fun z hz => hm z (ok_perm hz hpe.symm)) (ih (hpe.erase y))
theorem grN_nodup (last : List Int) : (grN last).Nodup := gr_eq last ▸ Pl.gr_nodup last
theorem grN_range (last : List Int) : ∀ x ∈ grN last, 0 ≤ x ∧ x ≤ 40 := gr_eq last ▸ Pl.gr_range last
theorem grN_fills {last : List Int} (h : (grN last).length = last.length) : Pl.Fills last (grN last) := by
  rw [← gr_eq] at h ⊢
  exact Pl.gr_fills h
def NoPlan (sp : List Int) (st : List ST) (ages : List Int) (need untl : Int) : Prop :=
  dueF (fun n => latN sp st n need) ages untl ages.length = none ∨ ∃ due last, dueF (fun n => latN sp st n need) ages untl ages.length = some (due, last) ∧ (grN last).length ≠ last.length
structure BestP (sp : List Int) (st : List ST) (ages : List Int) (need untl : Int) (due last p : List Int) : Prop where
  due : dueF (fun n => latN sp st n need) ages untl ages.length = some (due, last)
  len : (grN last).length = last.length
  least : Pl.Least last (grN last) p
def theL (sp : List Int) (st : List ST) (need : Int) : Nat → Int := fun i => latN sp st (i : Int) need
theorem plan_code {ages : List Int} {need untl : Int} (hb : planB sp st ages need untl = true) :
    NoPlan sp st ages need untl ∧ planF sp st ages need untl = ([], 5) ∨ ∃ due last p, BestP sp st ages need untl due last p ∧ planF sp st ages need untl = (planL (theL sp st need) (an ages) untl ages.length p, 0) := by
  unfold planF
  rw [if_pos hb]
  cases hd : dueF (fun n => latN sp st n need) ages untl ages.length with
  | none => exact .inl ⟨.inl hd, rfl⟩
  | some s =>
    obtain ⟨due, last⟩ := s
    by_cases hl : (grN last).length = last.length
    · right
      obtain ⟨d1, d2, d3, d4⟩ := dueF_spec hd
      have hn : (sortL (grN last)).Nodup := (sortL_perm _).nodup_iff.mpr (grN_nodup last)
      have hf : Pl.Fills last (sortL (grN last)) := Pl.fills_perm (grN_fills hl) (List.Perm.refl _) (sortL_perm _).symm
      have hs := sortL_sorted (grN last)
      have hl' : (sortL (grN last)).length = last.length := by rw [sortL_length, hl]
      obtain ⟨p1, p2⟩ := picks_plan hn hs hl' hf hd last.length (Nat.le_refl _)
      have hat := picks_at (due := due) (plan := List.replicate ages.length (-1)) hn hs hl' hf last.length (Nat.le_refl _)
      have hle := hat.go [] (by rw [List.drop_length]; exact Pl.Least.nil _)
      rw [List.append_nil] at hle
      refine ⟨due, last, _, ⟨hd, hl, least_permL hle (sortL_perm _)⟩, ?_⟩
      simp only [if_pos hl]
      unfold picksF
      rw [← d2]
      congr 1
      apply List.ext_getElem
      · rw [p1, planL_len]
      · intro x h1 h2
        rw [p1] at h1
        have := p2 x h1
        rw [List.getD, List.getElem?_eq_getElem (by rw [p1]; exact h1)] at this
        simp only [Option.getD_some] at this
        rw [this, planL_get _ _ _ _ h1 h2]
        show _ = if dueB (Ln fun n => latN sp st n need) (an ages) untl x = true then (picks2 last.length (stepPick (sortL (grN last)) last due) ([], List.replicate ages.length (-1))).1.getD (rank (Ln fun n => latN sp st n need) (an ages) untl x) 0 else -1
        by_cases hdx : dueB (Ln fun n => latN sp st n need) (an ages) untl x = true
        · have := rank_lt (Ln fun n => latN sp st n need) (an ages) untl h1 hdx
          rw [if_pos ⟨hdx, by omega⟩, if_pos hdx]
        · rw [if_neg (fun h => hdx h.1), if_neg hdx]
    · left
      exact ⟨.inr ⟨due, last, hd, hl⟩, by simp only [if_neg hl]⟩
theorem erase_perm {L : List Int} {k : Nat} (hk : k < L.length) : (L.eraseIdx k).Perm (L.erase L[k]) :=
  (List.perm_cons L[k]).mp ((perm_eraseIdx hk).trans (List.perm_cons_erase (List.getElem_mem hk)))
theorem ok_at {own : Int} {rest L : List Int} {k : Nat} (hk : k < L.length) : Pl.Ok own rest L L[k] ↔ L[k] ≤ own ∧ Pl.Fills rest (L.eraseIdx k) :=
  ⟨fun h => ⟨h.2.1, Pl.fills_perm h.2.2 (List.Perm.refl _) (erase_perm hk).symm⟩, fun h => ⟨List.getElem_mem hk, h.1, Pl.fills_perm h.2 (List.Perm.refl _) (erase_perm hk)⟩⟩
section
variable {need : Int}
theorem plan_l2 (rest left out : List Int) (own i : Int) (hl : rest.length + 1 = left.length) (hl2 : left.length ≤ 20) (ho : out.length ≤ 1000) (hr : ∀ x ∈ rest, 0 ≤ x) (hL : ∀ x ∈ left, 0 ≤ x ∧ x ≤ 40) (hex : ∃ z, Pl.Ok own rest left z) (B : Nat) (hB : 1001 ≤ B) (R : List Int × Bool)
    (hc : ∀ k, (hk : k < left.length) → Pl.Ok own rest left left[k] → (∀ z, Pl.Ok own rest left z → left[k] ≤ z) → ∀ K, B ≤ K → quinariaref02_Plan.l1 K ages need untl rest (left.eraseIdx k) (out ++ [left[k]]) (wrap64 (i + 1)) sp st = some R) :
    ∀ (d j K : Nat) (at_ : Int), j + d = left.length → B + d < K →
      ((at_ = -1 ∧ ∀ k, (hk : k < left.length) → k < j → ¬ Pl.Ok own rest left left[k]) ∨ ∃ k, ∃ hk : k < left.length, at_ = (k : Int) ∧ Pl.Ok own rest left left[k] ∧ ∀ m, (hm : m < left.length) → m < j → Pl.Ok own rest left left[m] → left[k] ≤ left[m]) →
      quinariaref02_Plan.l2 K ages need untl rest left out i own at_ (j : Int) sp st = some R := by
  intro d
  induction d with
  | zero =>
    intro j K at_ hj hK hat
    obtain ⟨K, rfl⟩ : ∃ k, K = k + 1 := ⟨K - 1, by omega⟩
    rw [quinariaref02_Plan.l2, if_neg (by omega)]
    rcases hat with ⟨rfl, hno⟩ | ⟨k, hk, rfl, hok, hmin⟩
    · obtain ⟨z, hz⟩ := hex
      obtain ⟨k, hk, rfl⟩ := List.mem_iff_getElem.mp hz.1
      exact absurd hz (hno k hk (by omega))
    · have e1 : rd left (k : Int) = left[k] := by rw [rd_at, List.getD, List.getElem?_eq_getElem hk]; rfl
      rw [if_pos (by omega), if_pos (by omega), if_pos (by omega), without_f left (by omega) k hk, Option.bind_some, e1]
      refine hc k hk hok (fun z hz => ?_) K (by omega)
      obtain ⟨m, hm, rfl⟩ := List.mem_iff_getElem.mp hz.1
      exact hmin m hm (by omega) hz
  | succ d ih =>
    intro j K at_ hj hK hat
    obtain ⟨K, rfl⟩ : ∃ k, K = k + 1 := ⟨K - 1, by omega⟩
    have hj' : j < left.length := by omega
    have e0 : rd left (j : Int) = left[j] := by rw [rd_at, List.getD, List.getElem?_eq_getElem hj']; rfl
    have e1 : wrap64 ((j : Int) + 1) = ((j + 1 : Nat) : Int) := w1n j (by omega)
    have ih := fun at2 => ih (j + 1) K at2 (by omega) (by omega)
    have hlen : rest.length = (left.eraseIdx j).length := by rw [List.length_eraseIdx_of_lt hj']; omega
    obtain ⟨b, hb, hbf⟩ := fills_f rest (left.eraseIdx j) hlen (by omega) hr (fun x hx => hL x (List.mem_of_mem_eraseIdx hx)) K (by omega)
    have hw := without_f left (by omega) j hj'
    
    have take : Pl.Ok own rest left left[j] → (∀ m, (hm : m < left.length) → m < j → Pl.Ok own rest left left[m] → left[j] ≤ left[m]) → quinariaref02_Plan.l2 K ages need untl rest left out i own (j : Int) ((j + 1 : Nat) : Int) sp st = some R := fun hok hmin =>
      ih (j : Int) (.inr ⟨j, hj', rfl, hok, fun m hm hmj ho => by
        by_cases e : m = j
        · subst e; exact Int.le_refl _
        · exact hmin m hm (by omega) ho⟩)
    have leave : (¬ Pl.Ok own rest left left[j] ∨ ∃ k, ∃ hk : k < left.length, at_ = (k : Int) ∧ left[k] ≤ left[j]) → quinariaref02_Plan.l2 K ages need untl rest left out i own at_ ((j + 1 : Nat) : Int) sp st = some R := fun hno => by
      refine ih at_ ?_
      rcases hat with ⟨rfl, hn⟩ | ⟨k, hk, rfl, hok, hmin⟩
      · rcases hno with hno | ⟨k, hk, e, _⟩
        · exact .inl ⟨rfl, fun k hk hkj => by
            by_cases e : k = j
            · subst e; exact hno
            · exact hn k hk (by omega)⟩
        · omega
      · refine .inr ⟨k, hk, rfl, hok, fun m hm hmj ho => ?_⟩
        by_cases e : m = j
        · subst e
          rcases hno with hno | ⟨k', hk', e, hle⟩
          · exact absurd ho hno
          · have : k = k' := by omega
            subst this; exact hle
        · exact hmin m hm (by omega) ho
    rw [quinariaref02_Plan.l2, if_pos (by omega), if_pos (by omega), e0, e1]
    by_cases ho1 : left[j] ≤ own
    · rw [if_pos ho1]
      rcases hat with ⟨rfl, hno⟩ | ⟨k, hk, rfl, hok, hmin⟩
      · rw [if_pos (by omega), hw, Option.bind_some, hb, Option.bind_some]
        cases b with
        | true => rw [if_pos rfl]; exact take ((ok_at hj').mpr ⟨ho1, hbf.mp rfl⟩) (fun m hm hmj ho => absurd ho (hno m hm hmj))
        | false => rw [if_neg (by simp)]; exact leave (.inl fun h => by have := hbf.mpr ((ok_at hj').mp h).2; cases this)
      · have ek : rd left (k : Int) = left[k] := by rw [rd_at, List.getD, List.getElem?_eq_getElem hk]; rfl
        rw [if_neg (by omega), if_pos (by omega), if_pos (by omega), ek]
        by_cases hlt : left[j] < left[k]
        · rw [if_pos hlt, hw, Option.bind_some, hb, Option.bind_some]
          cases b with
          | true => rw [if_pos rfl]; exact take ((ok_at hj').mpr ⟨ho1, hbf.mp rfl⟩) (fun m hm hmj ho => by have := hmin m hm hmj ho; omega)
          | false => rw [if_neg (by simp)]; exact leave (.inl fun h => by have := hbf.mpr ((ok_at hj').mp h).2; cases this)
        · rw [if_neg hlt]
          exact leave (.inr ⟨k, hk, rfl, by omega⟩)
    · rw [if_neg ho1]
      exact leave (.inl fun h => ho1 ((ok_at hj').mp h).1)
theorem lastV_due {x a u : Int} (h1 : 0 ≤ x) (h2 : x ≤ 200) (hu : u ≤ 40) : (lastV x a u = 1000 ↔ ¬ (x < 200 ∧ x - a < u)) ∧ ((x < 200 ∧ x - a < u) → lastV x a u = x - a) := by
  unfold lastV
  constructor
  · split
    · simp; omega
    · split
      · simp; omega
      · constructor
        · intro h; omega
        · intro h; omega
  · rintro ⟨h3, h4⟩
    rw [if_neg (by omega), if_neg (by omega)]
theorem plan_ar {ages : List Int} {d j : Nat} (hj : j + (d + 1) = ages.length) (hal : ages.length = st.length) (hl : st.length ≤ 8) :
    j < ages.length ∧ j < st.length ∧ j < 17592186044416 ∧ j + 1 + d = ages.length ∧ (0 : Int) ≤ (j : Int) ∧ (j : Int) < (ages.length : Int) ∧ (j : Int) < (st.length : Int) ∧ Aside0 (wrap64 ((j : Int) + 1) = ((j + 1 : Nat) : Int)) :=
  ⟨by omega, by omega, by omega, by omega, by omega, by omega, by omega, ⟨w1n j (by omega)⟩⟩
theorem plan_l1 (h : isLineB sp st = true) {ages : List Int} (hg : areAgesB st.length ages = true) (hu : untl ≤ 40) {due last : List Int} (hd : dueF (fun n => latN sp st n need) ages untl ages.length = some (due, last)) (hfull : (grN last).length = last.length) (hpos : ∀ x ∈ last, 0 ≤ x) :
    ∀ (d j : Nat) (left T : List Int), j + d = ages.length → T.length = rank (theL sp st need) (an ages) untl j → left.length = (last.drop (rank (theL sp st need) (an ages) untl j)).length → Pl.Fills (last.drop (rank (theL sp st need) (an ages) untl j)) left → (∀ x ∈ left, 0 ≤ x ∧ x ≤ 40) →
      (∀ p', Pl.Least (last.drop (rank (theL sp st need) (an ages) untl j)) left p' → Pl.Least last (grN last) (T ++ p')) → left.Nodup →
      ∃ p, Pl.Least last (grN last) p ∧ ∀ K, d * 40 + 1100 < K → quinariaref02_Plan.l1 K ages need untl (last.drop (rank (theL sp st need) (an ages) untl j)) left (planL (theL sp st need) (an ages) untl j T) (j : Int) sp st = some (planL (theL sp st need) (an ages) untl ages.length p, true) := by
  obtain ⟨d1, d2, d3, d4⟩ := dueF_spec hd
  obtain ⟨hal, hall⟩ := ages_all hg
  have hlen := line_lens h
  intro d
  induction d with
  | zero =>
    intro j left T hj hT hl hf hL hgo hnl
    have e : j = ages.length := by omega
    subst e
    have hrk : last.length = rank (theL sp st need) (an ages) untl ages.length := by rw [d2]; exact d1
    have hd0 : last.drop (rank (theL sp st need) (an ages) untl ages.length) = [] := List.drop_eq_nil_of_le (by omega)
    refine ⟨T, ?_, fun K hK => ?_⟩
    · have := hgo [] (by rw [hd0]; exact Pl.Least.nil _)
      rwa [List.append_nil] at this
    · obtain ⟨K, rfl⟩ : ∃ k, K = k + 1 := ⟨K - 1, by omega⟩
      rw [quinariaref02_Plan.l1, if_neg (by omega)]
  | succ d ih =>
    intro j left T hj hT hl hf hL hgo hnl
    obtain ⟨hjn, hjs, hjb, hnx, i0, i1, i2, ew⟩ := plan_ar hj hal hlen.2.2.2
    have hna := numB_of hjs
    have haa := age_range (hall _ (getD_mem 0 hjn))
    have hlr := latN_range sp st (j : Int) need
    have hx0 : 0 ≤ latN sp st (j : Int) need := d3 j hjn
    obtain ⟨v1, v2⟩ := lastV_due (a := ages.getD j 0) hx0 hlr.2 hu
    clear v2
    have hrk1 : rank (theL sp st need) (an ages) untl (j + 1) = rank (theL sp st need) (an ages) untl j + if dueB (theL sp st need) (an ages) untl j then 1 else 0 := rank_succ ..
    have hrle := rank_mono (theL sp st need) (an ages) untl (show j + 1 ≤ ages.length from hjn)
    have hrk : last.length = rank (theL sp st need) (an ages) untl ages.length := by rw [d2]; exact d1
    have hpl : (planL (theL sp st need) (an ages) untl j T).length < 17592186044416 := by rw [planL_len]; exact hjb
    have hstep : ∀ K, 310 < K → quinariaref02_Plan.l1 (K + 1) ages need untl (last.drop (rank (theL sp st need) (an ages) untl j)) left (planL (theL sp st need) (an ages) untl j T) (j : Int) sp st = (if lastV (latN sp st (j : Int) need) (ages.getD j 0) untl = 1000 then (if (planL (theL sp st need) (an ages) untl j T).length < 17592186044416 then (quinariaref02_Plan.l1 K ages need untl (last.drop (rank (theL sp st need) (an ages) untl j)) left ((planL (theL sp st need) (an ages) untl j T) ++ [(-1)]) (wrap64 ((j : Int) + 1)) sp st) else (none)) else (if 0 < ((last.drop (rank (theL sp st need) (an ages) untl j)).length : Int) then (if 1 ≤ ((last.drop (rank (theL sp st need) (an ages) untl j)).length : Int) then (quinariaref02_Plan.l2 K ages need untl ((last.drop (rank (theL sp st need) (an ages) untl j)).drop (1 : Int).toNat) left (planL (theL sp st need) (an ages) untl j T) (j : Int) (rd (last.drop (rank (theL sp st need) (an ages) untl j)) 0) (-1) 0 sp st) else (none)) else (none))) := fun K hK => by
      rw [quinariaref02_Plan.l1, if_pos i2, if_pos i0, if_pos i1, rd_at, rlast_f h hna need _ untl haa.1 haa.2 K hK, Option.bind_some]
    cases hdu : dueB (theL sp st need) (an ages) untl j with
    | false =>
      have hnot : ¬ (latN sp st (j : Int) need < 200 ∧ latN sp st (j : Int) need - ages.getD j 0 < untl) := fun hh => by
        have : dueB (theL sp st need) (an ages) untl j = true := by unfold dueB; rw [Bool.and_eq_true, decide_eq_true_iff, decide_eq_true_iff]; exact hh
        rw [hdu] at this; cases this
      rw [hdu] at hrk1
      simp only [Bool.false_eq_true, if_false, Nat.add_zero] at hrk1
      obtain ⟨p, hp, hrun⟩ := ih (j + 1) left T hnx (by rw [hT, hrk1]) (by rw [hrk1]; exact hl) (by rw [hrk1]; exact hf) hL (by rw [hrk1]; exact hgo) hnl
      refine ⟨p, hp, fun K hK => ?_⟩
      obtain ⟨K, rfl⟩ : ∃ k, K = k + 1 := ⟨K - 1, by omega⟩
      rw [hstep K (by omega), if_pos (v1.mpr hnot), if_pos hpl, ew.out, ← planL_no _ _ _ _ hdu, ← hrk1]
      exact hrun K (by omega)
    | true =>
      have hyes : latN sp st (j : Int) need < 200 ∧ latN sp st (j : Int) need - ages.getD j 0 < untl := by unfold dueB at hdu; rw [Bool.and_eq_true, decide_eq_true_iff, decide_eq_true_iff] at hdu; exact hdu
      rw [hdu, if_pos rfl] at hrk1
      have hi : rank (theL sp st need) (an ages) untl j < last.length := by omega
      have hdr : last.drop (rank (theL sp st need) (an ages) untl j) = last[rank (theL sp st need) (an ages) untl j] :: last.drop (rank (theL sp st need) (an ages) untl j + 1) := List.drop_eq_getElem_cons hi
      rw [hdr] at hl hf hgo hstep
      generalize hr : rank (theL sp st need) (an ages) untl j = r at *
      have hrest : (last.drop (r + 1)).length + 1 = left.length := by rw [hl]; rfl
      have hll : last.length ≤ ages.length := by
        rw [hrk]
        exact rank_le _ _ _ _
      have hleft : left.length ≤ 20 := by rw [hl]; simp; omega
      have hmem : ∀ x ∈ last.drop (r + 1), 0 ≤ x := fun x hx => hpos x (List.mem_of_mem_drop hx)
      have hcons : ((last[r] :: last.drop (r + 1)).length : Int) > 0 := by simp; omega
      have e1 : rd (last[r] :: last.drop (r + 1)) 0 = last[r] := rfl
      have e2 : (last[r] :: last.drop (r + 1)).drop (1 : Int).toNat = last.drop (r + 1) := rfl
      obtain ⟨z, hz⟩ := Pl.ok_some hf
      obtain ⟨kz, hkz, hzmin⟩ : ∃ k, ∃ hk : k < left.length, Pl.Ok last[r] (last.drop (r + 1)) left left[k] ∧ ∀ z, Pl.Ok last[r] (last.drop (r + 1)) left z → left[k] ≤ z := by
        classical
        
        have : ∀ l : List Int, (∃ z ∈ l, Pl.Ok last[r] (last.drop (r + 1)) left z) → ∃ y ∈ l, Pl.Ok last[r] (last.drop (r + 1)) left y ∧ ∀ z ∈ l, Pl.Ok last[r] (last.drop (r + 1)) left z → y ≤ z := by
          intro l
          induction l with
          | nil => rintro ⟨z, hz, _⟩; cases hz
          | cons a l ihl =>
            intro hex
            by_cases ht : ∃ z ∈ l, Pl.Ok last[r] (last.drop (r + 1)) left z
            · obtain ⟨y, hy, hoy, hmy⟩ := ihl ht
              by_cases ha : Pl.Ok last[r] (last.drop (r + 1)) left a ∧ a < y
              · refine ⟨a, List.mem_cons_self .., ha.1, fun z hz hoz => ?_⟩
                rcases List.mem_cons.mp hz with rfl | hz
                · exact Int.le_refl _
                · have := hmy z hz hoz; omega
              · refine ⟨y, List.mem_cons_of_mem _ hy, hoy, fun z hz hoz => ?_⟩
                rcases List.mem_cons.mp hz with rfl | hz
                · have : ¬ z < y := fun hlt => ha ⟨hoz, hlt⟩
                  omega
                · exact hmy z hz hoz
            · obtain ⟨z, hz, hoz⟩ := hex
              rcases List.mem_cons.mp hz with rfl | hz
              · refine ⟨z, List.mem_cons_self .., hoz, fun w hw how => ?_⟩
                rcases List.mem_cons.mp hw with rfl | hw
                · exact Int.le_refl _
                · exact absurd ⟨w, hw, how⟩ ht
              · exact absurd ⟨z, hz, hoz⟩ ht
        obtain ⟨y, hy, hoy, hmy⟩ := this left ⟨z, hz.1, hz⟩
        obtain ⟨k, hk, rfl⟩ := List.mem_iff_getElem.mp hy
        exact ⟨k, hk, hoy, fun z hz => hmy z hz.1 hz⟩
      have hpe := erase_perm hkz
      have hT1 : (T ++ [left[kz]]).length = r + 1 := by simp [hT]
      have ihk := ih (j + 1) (left.eraseIdx kz) (T ++ [left[kz]])
      rw [hrk1] at ihk
      obtain ⟨p, hp, hrun⟩ := ihk (by omega) hT1 (by rw [List.length_eraseIdx_of_lt hkz]; omega) (Pl.fills_perm hzmin.1.2.2 (List.Perm.refl _) hpe.symm) (fun x hx => hL x (List.mem_of_mem_eraseIdx hx)) (fun p' hp' => by
        have := hgo (left[kz] :: p') (Pl.Least.cons hzmin.1 hzmin.2 (least_permL hp' hpe))
        rwa [List.append_assoc, List.singleton_append]) (hnl.eraseIdx _)
      refine ⟨p, hp, fun K hK => ?_⟩
      obtain ⟨K, rfl⟩ : ∃ k, K = k + 1 := ⟨K - 1, by omega⟩
      rw [hdr, hstep K (by omega), if_neg (fun hh => (v1.mp hh) hyes), if_pos hcons, if_pos (by omega), e1, e2]
      have hnd : ∀ k, (hk : k < left.length) → left[k] = left[kz] → k = kz := fun k hk e => (List.getElem_inj hnl).mp e
      refine plan_l2 (last.drop (r + 1)) left _ last[r] (j : Int) hrest hleft (by rw [planL_len]; omega) hmem hL ⟨z, hz⟩ (d * 40 + 1101) (by omega) _ (fun k hk hok hmin K' hK' => ?_) left.length 0 K (-1) (by omega) (by omega) (.inl ⟨rfl, fun k hk h => by omega⟩)
      obtain rfl := hnd k hk (Int.le_antisymm (hmin _ hzmin.1) (hzmin.2 _ hok))
      rw [ew.out, ← planL_yes _ _ _ _ _ hdu (by rw [hT, hr])]
      exact hrun K' (by omega)
end
end Go.Proofs.YtdmdahafiiggiaaGreatDoor.K
end
section
namespace Go.Proofs.YtdmdahafiiggiaaGreatDoor.K
open Go.RowKit Go.Proofs.YtdmdahafiiggiaaGreatDoorW.PrintWords Go.Proofs.YtdmdahafiiggiaaGreatDoorW.PrintLast Go.Proofs.YtdmdahafiiggiaaGreatDoorW.PrintMore
set_option linter.unusedVariables false
set_option linter.unusedSimpArgs false
variable {sp : List Int} {st : List ST} {ages : List Int} {need untl : Int}
attribute [local irreducible] latN rank planL Pl.cnt
theorem last_pos {last : List Int} (h : (grN last).length = last.length) : ∀ x ∈ last, 0 ≤ x := fun x hx => by
  have h1 := grN_fills h (-1)
  have h2 : Pl.cnt (grN last) (-1) = 0 := by
    unfold Pl.cnt
    rw [List.countP_eq_zero]
    intro y hy
    have := (grN_range last y hy).1
    simp only [decide_eq_true_eq]
    omega
  have := Pl.cnt_eq_zero (l := last) (t := -1) (by rw [h2] at h1; exact Nat.le_zero.mp h1) x hx
  omega
theorem planB_parts (hb : planB sp st ages need untl = true) : isLineB sp st = true ∧ areAgesB st.length ages = true ∧ inB need 1 10000000 = true ∧ inB untl 0 40 = true := by
  simp only [planB, Bool.and_eq_true] at hb
  exact ⟨hb.1.1.1, hb.1.1.2, hb.1.2, hb.2⟩
theorem dueF_le {L : Int → Int} {k : Nat} {due last : List Int} (h : dueF L ages untl k = some (due, last)) : last.length ≤ k := by
  obtain ⟨d1, d2, -, -⟩ := dueF_spec h
  rw [d2, d1]
  exact rank_le _ _ _ _
theorem plan_l0 (hb : planB sp st ages need untl = true) : ∀ (d j : Nat) (due last : List Int), j + d = ages.length → dueF (fun n => latN sp st n need) ages untl j = some (due, last) →
    (NoPlan sp st ages need untl ∧ ∀ K, d + 2000 < K → quinariaref02_Plan.l0 K ages need untl last (j : Int) sp st = some ([], false)) ∨ ∃ due' last' p, BestP sp st ages need untl due' last' p ∧ ∀ K, d + 2000 < K → quinariaref02_Plan.l0 K ages need untl last (j : Int) sp st = some (planL (theL sp st need) (an ages) untl ages.length p, true) := by
  obtain ⟨h, hg, hn, hu⟩ := planB_parts hb
  obtain ⟨hal, hall⟩ := ages_all hg
  have hlen := line_lens h
  have hu' : untl ≤ 40 := by simp [inB] at hu; omega
  intro d
  induction d with
  | zero =>
    intro j due last hj hd
    have e : j = ages.length := by omega
    subst e
    have hll := dueF_le hd
    by_cases hl : (grN last).length = last.length
    · right
      obtain ⟨p, hp, hrun⟩ := plan_l1 h hg hu' hd hl (last_pos hl) ages.length 0 (grN last) [] (by omega) (rank_zero ..).symm (by simp [rank_zero, hl]) (by simpa [rank_zero] using grN_fills hl) (grN_range last) (fun p' hp' => by simpa [rank_zero] using hp') (grN_nodup last)
      refine ⟨due, last, p, ⟨hd, hl, hp⟩, fun K hK => ?_⟩
      obtain ⟨K, rfl⟩ : ∃ k, K = k + 1 := ⟨K - 1, by omega⟩
      rw [quinariaref02_Plan.l0, if_neg (by omega), years_f last (by omega) K (by omega), Option.bind_some]
      simp only [hl, beq_self_eq_true, if_true]
      have := hrun K (by omega)
      simpa [rank_zero, planL_zero] using this
    · left
      refine ⟨.inr ⟨due, last, hd, hl⟩, fun K hK => ?_⟩
      obtain ⟨K, rfl⟩ : ∃ k, K = k + 1 := ⟨K - 1, by omega⟩
      rw [quinariaref02_Plan.l0, if_neg (by omega), years_f last (by omega) K (by omega), Option.bind_some]
      simp only [beq_eq_false_iff_ne.mpr hl, Bool.false_eq_true, if_false]
  | succ d ih =>
    intro j due last hj hd
    obtain ⟨hjn, hjs, hjb, hnx, i0, i1, i2, ew⟩ := plan_ar hj hal hlen.2.2.2
    have hna := numB_of hjs
    have haa := age_range (hall _ (getD_mem 0 hjn))
    have hlr := latN_range sp st (j : Int) need
    have hd1 : dueF (fun n => latN sp st n need) ages untl (j + 1) = if latN sp st (j : Int) need < 0 then none else some (stepDue (latN sp st (j : Int) need) (rd ages (j : Int)) untl j (due, last)) := by
      show (dueF (fun n => latN sp st n need) ages untl j).bind _ = _
      rw [hd]; rfl
    by_cases hneg : latN sp st (j : Int) need < 0
    · left
      rw [if_pos hneg] at hd1
      have := dueF_none hd1 d
      rw [hnx] at this
      refine ⟨.inl this, fun K hK => ?_⟩
      obtain ⟨K, rfl⟩ : ∃ k, K = k + 1 := ⟨K - 1, by omega⟩
      rw [quinariaref02_Plan.l0, if_pos i2, rlat_f h hna need K (by omega), Option.bind_some, if_pos hneg]
    · rw [if_neg hneg, rd_at] at hd1
      obtain ⟨v1, v2⟩ := lastV_due (a := ages.getD j 0) (show 0 ≤ latN sp st (j : Int) need by omega) hlr.2 hu'
      have hstep : ∀ K, 400 < K → quinariaref02_Plan.l0 (K + 1) ages need untl last (j : Int) sp st = (if lastV (latN sp st (j : Int) need) (ages.getD j 0) untl = 1000 then (quinariaref02_Plan.l0 K ages need untl last (wrap64 ((j : Int) + 1)) sp st) else (if last.length < 17592186044416 then (quinariaref02_Plan.l0 K ages need untl (last ++ [lastV (latN sp st (j : Int) need) (ages.getD j 0) untl]) (wrap64 ((j : Int) + 1)) sp st) else (none))) := fun K hK => by
        rw [quinariaref02_Plan.l0, if_pos i2, rlat_f h hna need K (by omega), Option.bind_some, if_neg hneg, if_pos i0, if_pos i1, rd_at, rlast_f h hna need _ untl haa.1 haa.2 K (by omega), Option.bind_some]
      have hll := dueF_le hd
      have hlb : last.length < 17592186044416 := Nat.lt_of_le_of_lt hll hjb
      unfold stepDue at hd1
      by_cases hyes : latN sp st (j : Int) need < 200 ∧ latN sp st (j : Int) need - ages.getD j 0 < untl
      · rw [if_pos hyes] at hd1
        have e := v2 hyes
        have hne : ¬ lastV (latN sp st (j : Int) need) (ages.getD j 0) untl = 1000 := fun hh => v1.mp hh hyes
        rw [← e] at hd1
        rcases ih (j + 1) _ _ hnx hd1 with ⟨hno, hrun⟩ | ⟨due', last', p, hp, hrun⟩
        · refine .inl ⟨hno, fun K hK => ?_⟩
          obtain ⟨K, rfl⟩ : ∃ k, K = k + 1 := ⟨K - 1, by omega⟩
          rw [hstep K (by omega), if_neg hne, if_pos hlb, ew.out]
          exact hrun K (by omega)
        · refine .inr ⟨due', last', p, hp, fun K hK => ?_⟩
          obtain ⟨K, rfl⟩ : ∃ k, K = k + 1 := ⟨K - 1, by omega⟩
          rw [hstep K (by omega), if_neg hne, if_pos hlb, ew.out]
          exact hrun K (by omega)
      · rw [if_neg hyes] at hd1
        rcases ih (j + 1) _ _ hnx hd1 with ⟨hno, hrun⟩ | ⟨due', last', p, hp, hrun⟩
        · refine .inl ⟨hno, fun K hK => ?_⟩
          obtain ⟨K, rfl⟩ : ∃ k, K = k + 1 := ⟨K - 1, by omega⟩
          rw [hstep K (by omega), if_pos (v1.mpr hyes), ew.out]
          exact hrun K (by omega)
        · refine .inr ⟨due', last', p, hp, fun K hK => ?_⟩
          obtain ⟨K, rfl⟩ : ∃ k, K = k + 1 := ⟨K - 1, by omega⟩
          rw [hstep K (by omega), if_pos (v1.mpr hyes), ew.out]
          exact hrun K (by omega)
theorem plan_ref (hb : planB sp st ages need untl = true) : (NoPlan sp st ages need untl ∧ ∀ K, 2100 < K → quinariaref02_Plan.f K sp st ages need untl = some ([], false)) ∨ ∃ due last p, BestP sp st ages need untl due last p ∧ ∀ K, 2100 < K → quinariaref02_Plan.f K sp st ages need untl = some (planL (theL sp st need) (an ages) untl ages.length p, true) := by
  obtain ⟨h, hg, hn, hu⟩ := planB_parts hb
  obtain ⟨hal, -⟩ := ages_all hg
  have hlen := line_lens h
  unfold quinariaref02_Plan.f
  rcases plan_l0 hb ages.length 0 [] [] (by omega) rfl with ⟨h1, h2⟩ | ⟨due, last, p, h1, h2⟩
  · exact .inl ⟨h1, fun K hK => h2 K (by omega)⟩
  · exact .inr ⟨due, last, p, h1, fun K hK => h2 K (by omega)⟩
theorem best_uniq {due last p due' last' p' : List Int} (h : BestP sp st ages need untl due last p) (h' : BestP sp st ages need untl due' last' p') : p = p' := by
  have := h.due.symm.trans h'.due
  obtain ⟨rfl, rfl⟩ := Prod.mk.inj (Option.some.inj this)
  exact least_uniq h.least (List.Perm.refl _) h'.least
theorem best_not {due last p : List Int} (h : BestP sp st ages need untl due last p) : ¬ NoPlan sp st ages need untl := by
  rintro (h1 | ⟨due', last', h1, h2⟩)
  · rw [h.due] at h1; cases h1
  · rw [h.due] at h1
    obtain ⟨rfl, rfl⟩ := Prod.mk.inj (Option.some.inj h1)
    exact h2 h.len
theorem plan_both (hb : planB sp st ages need untl = true) : (planF sp st ages need untl = ([], 5) ∧ ∀ K, 2100 < K → quinariaref02_Plan.f K sp st ages need untl = some ([], false)) ∨ ∃ l, planF sp st ages need untl = (l, 0) ∧ l.length = ages.length ∧ ∀ K, 2100 < K → quinariaref02_Plan.f K sp st ages need untl = some (l, true) := by
  rcases plan_code hb with ⟨h1, h2⟩ | ⟨due, last, p, h1, h2⟩
  · rcases plan_ref hb with ⟨h3, h4⟩ | ⟨due', last', p', h3, h4⟩
    · exact .inl ⟨h2, h4⟩
    · exact absurd h1 (best_not h3)
  · rcases plan_ref hb with ⟨h3, h4⟩ | ⟨due', last', p', h3, h4⟩
    · exact absurd h3 (best_not h1)
    · obtain rfl := best_uniq h1 h3
      exact .inr ⟨_, h2, planL_len .., h4⟩
end Go.Proofs.YtdmdahafiiggiaaGreatDoor.K
end
section
namespace Go.Proofs.YtdmdahafiiggiaaGreatDoor.K
open Go.RowKit Go.Proofs.YtdmdahafiiggiaaGreatDoorW.PrintWords Go.Proofs.YtdmdahafiiggiaaGreatDoorW.PrintLast Go.Proofs.YtdmdahafiiggiaaGreatDoorW.PrintMore
set_option linter.unusedVariables false
set_option linter.unusedSimpArgs false
variable {sp : List Int} {st : List ST} {ages : List Int} {need untl : Int}
theorem needR_f (n : Int) : quinariaref02_Need.f n = some (inB n 1 10000000) := by unfold quinariaref02_Need.f; rw [inR_f, Option.bind_some]
theorem untilR_f (n : Int) : quinariaref02_Until.f n = some (inB n 0 40) := by unfold quinariaref02_Until.f; rw [inR_f, Option.bind_some]
theorem planC_f (h1 : sp.length ≤ 1000000) (h2 : st.length ≤ 1000000) (h3 : ages.length ≤ 1000000) : channel_Plan.f sp st ages need untl = some (planF sp st ages need untl) := by
  unfold channel_Plan.f
  rw [if_pos ⟨by omega, by omega, by omega⟩]
theorem plans_bad (hb : planB sp st ages need untl = false) (K : Nat) : quinarialaw02_ChannelPlans.j1 (K + 1) ages need untl (planF sp st ages need untl).1 (planF sp st ages need untl).2 true sp st = some true := by
  have e : planF sp st ages need untl = ([], 2) := by unfold planF; rw [hb]; rfl
  rw [e, quinarialaw02_ChannelPlans.j1, if_pos rfl]
  rfl
theorem ChannelPlans_pure (sp : List Int) (st : List ST) (ages : List Int) (need untl : Int) : quinarialaw02_ChannelPlans.f (3000 + 1 + 1) sp st ages need untl = some true := by
  have hk : quinarialaw02_ChannelPlans.j0 (3000 + 1 + 1) ages need untl true sp st = some true := by
    rw [quinarialaw02_ChannelPlans.j0, if_pos rfl]
    rfl
  unfold quinarialaw02_ChannelPlans.f
  rw [short_f, Option.bind_some]
  cases hs : shortB sp st with
  | false => exact hk
  | true =>
    have hl := short_lens hs
    rw [if_pos rfl]
    by_cases h10 : (ages.length : Int) > 10
    · rw [decide_eq_true h10]; exact hk
    rw [decide_eq_false h10, quinarialaw02_ChannelPlans.j0, if_neg (by simp), planC_f (by omega) (by omega) (by omega), Option.bind_some, right_f (by omega) (by omega) _ (by omega), Option.bind_some]
    have hbad := fun hb => plans_bad (sp := sp) (st := st) (ages := ages) (need := need) (untl := untl) hb 3000
    cases h1 : isLineB sp st with
    | false => rw [if_neg (by simp)]; exact hbad (by simp [planB, h1])
    | true =>
    rw [if_pos rfl, ages_f ages (by omega) (by omega) _ (by omega), Option.bind_some]
    cases h2 : areAgesB st.length ages with
    | false => rw [if_neg (by simp)]; exact hbad (by simp [planB, h2])
    | true =>
    rw [if_pos rfl, needR_f, Option.bind_some]
    cases h3 : inB need 1 10000000 with
    | false => rw [if_neg (by simp)]; exact hbad (by simp [planB, h3])
    | true =>
    rw [if_pos rfl, untilR_f, Option.bind_some]
    cases h4 : inB untl 0 40 with
    | false => exact hbad (by simp [planB, h4])
    | true =>
    rw [Bool.not_true, quinarialaw02_ChannelPlans.j1, if_neg (by simp)]
    rcases plan_both (sp := sp) (st := st) (ages := ages) (need := need) (untl := untl) (by simp [planB, h1, h2, h3, h4]) with ⟨e1, e2⟩ | ⟨l, e1, e3, e2⟩
    · rw [e1, e2 _ (by omega), Option.bind_some]
      rfl
    · rw [e1, e2 _ (by omega), Option.bind_some]
      simp only [if_true]
      rw [same_f l (by omega) _ (by omega), Option.bind_some, if_pos rfl]
      rfl
theorem ChannelPlans_law (A0 A1 : Option Addr) (c0 c1 : Nat) (sp : List Int) (st : List ST) (A3 : Option Addr) (c3 : Nat) (ages : List Int) (need untl : Int) (w : World) (hT : TabW w) (h0 : At' (Kd.int .i64) w A0 sp.length c0 sp) (h1 : At' k32 w A1 st.length c1 st) (h3 : At' (Kd.int .i64) w A3 ages.length c3 ages) :
    Calls Tryz.prog 9 #[.agg #[.slice A0 sp.length c0, .slice A1 st.length c1], .slice A3 ages.length c3, .int .i64 need, .int .i64 untl] w fun e w' => e = .returned (.bool true) ∧ Below w.heap.size w w' :=
  quinarialaw02_ChannelPlans.calls _ A0 c0 sp A1 c1 st A3 c3 ages need untl true w h0.c h0.le h1.c h1.le h3.c h3.le hT (ChannelPlans_pure sp st ages need untl)
end Go.Proofs.YtdmdahafiiggiaaGreatDoor.K
end
