/- ChannelBorne: the walk of the law, and what it comes to. -/
import Derived.Test.YtdmdahafiiggiabGreatDoorLChannelBorne1
set_option linter.unusedVariables false
set_option linter.unusedSimpArgs false
section
namespace Go.Proofs.YtdmdahafiiggiabGreatDoor.K
open Go.RowKit Go.Proofs.YtdmdahafiiggiabGreatDoorW.PrintWords Go.Proofs.YtdmdahafiiggiabGreatDoorW.PrintLast Go.Proofs.YtdmdahafiiggiabGreatDoorW.PrintMore
attribute [local go_sem] max2_int min2_int max_two min_two max_three min_three max_four min_four
def quinariaref02_Carries.l0 : Nat → Int → Int → Int → List Int → List (S66) → Int → Int → Option (Int × Int)
 | 0, _, _, _, _, _, _, _ => none
 | k + 1, x1, x2, x8, x915000, x915001, x917000, x917001 => if 0 ≤ x1 then (if x1 < (x915001.length : Int) then (if x8 ≤ ((rd_T66 x915001 x1).f3.f1) then ((quinariaref02_Cups.f x915000 x915001 x1 x2 x8).bind fun t919 => (quinariaref02_Carries.l0 k x1 x2 (wrap64 (x8 + 1)) x915000 x915001 (mn x917000 t919) (mx x917001 t919))) else (some (x917000, x917001))) else (none)) else (none)
def quinariaref02_Carries.f (k : Nat) (l0_0 : List Int) (l0_1 : List (S66)) (a1 : Int) (a2 : Int) : Option (Int × Int) := if 0 ≤ a1 then (if a1 < (l0_1.length : Int) then (quinariaref02_Carries.l0 k a1 a2 ((rd_T66 l0_1 a1).f3.f0) l0_0 l0_1 10000001 (-1)) else (none)) else (none)
end Go.Proofs.YtdmdahafiiggiabGreatDoor.K
end
section
namespace Go.Proofs.YtdmdahafiiggiabGreatDoor.K
open Go.RowKit Go.Proofs.YtdmdahafiiggiabGreatDoorW.PrintWords Go.Proofs.YtdmdahafiiggiabGreatDoorW.PrintLast Go.Proofs.YtdmdahafiiggiabGreatDoorW.PrintMore
abbrev ST := S66
variable {sp : List Int} {st : List ST}
theorem w1 {x : Int} (h0 : -1 ≤ x) (h : x < 9223372036854775807) : wrap64 (x + 1) = x + 1 := IntWalk.wrap64_in _ (by omega)
theorem drop_get {α : Type} {l : List α} {j : Nat} {a : α} {r : List α} (h : l.drop j = a :: r) : j < l.length ∧ l.drop (j + 1) = r ∧ ∀ d, l.getD j d = a := by
  have hj : j < l.length := by
    rcases Nat.lt_or_ge j l.length with h1 | h1
    · exact h1
    · rw [List.drop_eq_nil_of_le h1] at h; cases h
  rw [List.drop_eq_getElem_cons hj] at h; injection h with h1 h2; exact ⟨hj, h2, fun d => by simp [List.getD, List.getElem?_eq_getElem hj, h1]⟩
theorem rd_drop {l : List Int} {j : Nat} {a : Int} {r : List Int} (h : l.drop j = a :: r) : rd l (j : Int) = a := by simp only [rd, Int.toNat_natCast]; exact (drop_get h).2.2 0
theorem rd_at (l : List Int) (j : Nat) : rd l (j : Int) = l.getD j 0 := by simp [rd]
theorem getD_mem {α : Type} {l : List α} {j : Nat} (d : α) (h : j < l.length) : l.getD j d ∈ l := by
  rw [List.getD, List.getElem?_eq_getElem h]; exact List.getElem_mem h
end Go.Proofs.YtdmdahafiiggiabGreatDoor.K
end
section
namespace Go.Proofs.YtdmdahafiiggiabGreatDoor.K
open Go.RowKit Go.Proofs.YtdmdahafiiggiabGreatDoorW.PrintWords Go.Proofs.YtdmdahafiiggiabGreatDoorW.PrintLast Go.Proofs.YtdmdahafiiggiabGreatDoorW.PrintMore
attribute [local go_sem] max2_int min2_int max_two min_two max_three min_three max_four min_four
def quinariaref02_Pressures.l0 : Nat → List (S23) → Int → Int → Int → List (S23) → List Int → Option ((List (S23)))
 | 0, _, _, _, _, _, _ => none
 | k + 1, x3, x4, x589000, x589001, x589002, x589003 => if x4 < (x589003.length : Int) then (if 0 ≤ x4 then (if x4 < (x589002.length : Int) then (if 0 ≤ (wrap64 (x4 + 1)) then (if (wrap64 (x4 + 1)) < (x589002.length : Int) then ((quinariaref02_Pressure.f x589000 ((rd_T23 x589002 x4).f1) ((rd_T23 x589002 (wrap64 (x4 + 1))).f1)).bind fun t593 => ((quinariaref02_Pressure.f x589001 ((rd_T23 x589002 x4).f0) ((rd_T23 x589002 (wrap64 (x4 + 1))).f0)).bind fun t594 => (if x3.length < 8796093022208 then (quinariaref02_Pressures.l0 k (x3 ++ [(⟨t593, t594⟩ : S23)]) (wrap64 (x4 + 1)) x589000 x589001 x589002 x589003) else (none)))) else (none)) else (none)) else (none)) else (none)) else (some x3)
def quinariaref02_Pressures.f (k : Nat) (a0_0 : Int) (a0_1 : Int) (l0_2 : List (S23)) (l0_3 : List Int) : Option ((List (S23))) := quinariaref02_Pressures.l0 k ([] : List (S23)) 0 a0_0 a0_1 l0_2 l0_3
end Go.Proofs.YtdmdahafiiggiabGreatDoor.K
end
section
namespace Go.Proofs.YtdmdahafiiggiabGreatDoor.K
open Go.RowKit Go.Proofs.YtdmdahafiiggiabGreatDoorW.PrintWords Go.Proofs.YtdmdahafiiggiabGreatDoorW.PrintLast Go.Proofs.YtdmdahafiiggiabGreatDoorW.PrintMore
attribute [local go_sem] max2_int min2_int max_two min_two max_three min_three max_four min_four
def quinariaref02_Flows.f (a0_0 : Int) (a0_1 : Int) (l0_2 : List (S23)) (l0_3 : List Int) : Option (Int) := if 0 ≤ (wrap64 ((l0_2.length : Int) - 1)) then (if (wrap64 ((l0_2.length : Int) - 1)) < (l0_2.length : Int) then (if a0_0 > ((rd_T23 l0_2 (wrap64 ((l0_2.length : Int) - 1))).f1) then (some 3) else (if a0_1 ≤ ((rd_T23 l0_2 (wrap64 ((l0_2.length : Int) - 1))).f0) then (some 1) else (some 2))) else (none)) else (none)
end Go.Proofs.YtdmdahafiiggiabGreatDoor.K
end
section
namespace Go.Proofs.YtdmdahafiiggiabGreatDoor.K
open Go.RowKit Go.Proofs.YtdmdahafiiggiabGreatDoorW.PrintWords Go.Proofs.YtdmdahafiiggiabGreatDoorW.PrintLast Go.Proofs.YtdmdahafiiggiabGreatDoorW.PrintMore
attribute [local go_sem] max2_int min2_int max_two min_two max_three min_three max_four min_four
def quinariaref02_Bursts.l0 : Nat → List (S53) → List Int → List (S23) → List Int → Int → Option (List Int)
 | 0, _, _, _, _, _ => none
 | k + 1, x1, x2, x7, x8, x9 => if x9 < (x2.length : Int) then (if 0 ≤ x9 then (if x9 < (x7.length : Int) then (if 0 ≤ (rd x2 x9) then (if (rd x2 x9) < (x1.length : Int) then (if ((rd_T23 x7 x9).f1) > ((rd_T53 x1 (rd x2 x9)).f0) then (if x8.length < 17592186044416 then (quinariaref02_Bursts.l0 k x1 x2 x7 (x8 ++ [x9]) (wrap64 (x9 + 1))) else (none)) else (quinariaref02_Bursts.l0 k x1 x2 x7 x8 (wrap64 (x9 + 1)))) else (none)) else (none)) else (none)) else (none)) else (some x8)
def quinariaref02_Bursts.f (k : Nat) (a0_0 : Int) (a0_1 : Int) (l0_2 : List (S23)) (l0_3 : List Int) (l1 : List (S53)) (l2 : List Int) : Option (List Int) := (quinariaref02_Pressures.f k a0_0 a0_1 l0_2 l0_3).bind fun t664 => (quinariaref02_Bursts.l0 k l1 l2 t664 ([] : List Int) 0)
end Go.Proofs.YtdmdahafiiggiabGreatDoor.K
end
section
namespace Go.Proofs.YtdmdahafiiggiabGreatDoor.K
open Go.RowKit Go.Proofs.YtdmdahafiiggiabGreatDoorW.PrintWords Go.Proofs.YtdmdahafiiggiabGreatDoorW.PrintLast Go.Proofs.YtdmdahafiiggiabGreatDoorW.PrintMore
abbrev SPA := S23
abbrev CLA := S53
variable {a b : Int} {pts : List SPA} {lens : List Int} {cl : List CLA} {ch : List Int}
def slimB (pts : List SPA) (lens : List Int) (cl : List CLA) : Bool := decide (pts.length ≤ 10) && decide (lens.length ≤ 10) && decide (cl.length ≤ 6)
theorem slim_f (a b : Int) : quinarialaw02_slim.f a b pts lens cl = some (slimB pts lens cl) := by
  unfold quinarialaw02_slim.f slimB
  by_cases h1 : pts.length ≤ 10
  · rw [if_pos (by omega)]
    by_cases h2 : lens.length ≤ 10
    · rw [if_pos (by omega)]
      by_cases h3 : cl.length ≤ 6
      · simp [h1, h2, h3]; omega
      · simp [h1, h2, h3]; omega
    · rw [if_neg (by omega)]; simp [h1, h2]
  · rw [if_neg (by omega)]; simp [h1]
theorem slim_lens (h : slimB pts lens cl = true) : pts.length ≤ 10 ∧ lens.length ≤ 10 ∧ cl.length ≤ 6 := by
  simp only [slimB, Bool.and_eq_true, decide_eq_true_eq] at h; exact ⟨h.1.1, h.1.2, h.2⟩
theorem heightR_f (p q : Int) : quinariaref02_height.f p q = some (isSpanB p q 0 1000) := by
  unfold quinariaref02_height.f quinariaref02_between.f isSpanB; simp only [inR_f, Option.bind_some]; unfold inB
  by_cases e1 : 0 ≤ p <;> by_cases e2 : p ≤ 1000 <;> by_cases e3 : 0 ≤ q <;> by_cases e4 : q ≤ 1000 <;> by_cases e5 : p ≤ q <;> simp [e1, e2, e3, e4, e5] <;> omega
theorem rdSpa_at (l : List SPA) (j : Nat) : rd_T23 l (j : Int) = l.getD j z23 := by simp [rd_T23]
theorem rdCla_at (l : List CLA) (j : Nat) : rd_T53 l (j : Int) = l.getD j z53 := by simp [rd_T53]
theorem siphR1 (hl : lens.length ≤ 100) (hp : pts.length ≤ 100) : ∀ (d j K : Nat), j + d = lens.length → d < K → quinariaref02_Siphon.l1 K (j : Int) a b pts lens = some ((lens.drop j).all (fun x => inB x 1 100) && (isSpanB a b 0 1000 && inB pts.length 2 8 && decide ((lens.length : Int) = (pts.length : Int) - 1)))
  | 0, j, K + 1, hj, hK => by
    rw [quinariaref02_Siphon.l1, if_neg (by omega), List.drop_eq_nil_of_le (by omega), heightR_f, Option.bind_some, inR_f, Option.bind_some, IntWalk.wrap64_in _ (by omega)]
    cases isSpanB a b 0 1000 <;> cases inB (pts.length : Int) 2 8 <;> first | (simp; done) | (simp; rfl)
  | d + 1, j, K + 1, hj, hK => by
    have ih := siphR1 hl hp d (j + 1) K (by omega) (by omega); rw [quinariaref02_Siphon.l1, if_pos (by omega), if_pos (by omega), rd_at, inR_f, Option.bind_some, w1 (by omega) (by omega), all_drop _ 0 _ _ (by omega)]; rw [show ((j + 1 : Nat) : Int) = (j : Int) + 1 by omega] at ih
    cases inB (lens.getD j 0) 1 100 with
    | true => simpa using ih
    | false => simp
theorem siphR0 (hl : lens.length ≤ 100) (hp : pts.length ≤ 100) : ∀ (d j K : Nat), j + d = pts.length → d + lens.length + 1 < K → quinariaref02_Siphon.l0 K (j : Int) a b pts lens = some ((pts.drop j).all (fun x => isSpanB x.f0 x.f1 0 1000) && (lens.all (fun x => inB x 1 100) && (isSpanB a b 0 1000 && inB pts.length 2 8 && decide ((lens.length : Int) = (pts.length : Int) - 1))))
  | 0, j, K + 1, hj, hK => by
    rw [quinariaref02_Siphon.l0, if_neg (by omega), List.drop_eq_nil_of_le (by omega)]; have := siphR1 (a := a) (b := b) hl hp lens.length 0 K (by omega) (by omega)
    simpa using this
  | d + 1, j, K + 1, hj, hK => by
    have ih := siphR0 hl hp d (j + 1) K (by omega) (by omega); rw [quinariaref02_Siphon.l0, if_pos (by omega), if_pos (by omega), rdSpa_at, heightR_f, Option.bind_some, w1 (by omega) (by omega), all_drop _ z23 _ _ (by omega)]; rw [show ((j + 1 : Nat) : Int) = (j : Int) + 1 by omega] at ih
    cases isSpanB (pts.getD j z23).f0 (pts.getD j z23).f1 0 1000 with
    | true => simpa using ih
    | false => simp
theorem siphonR_f (hl : lens.length ≤ 100) (hp : pts.length ≤ 100) (K : Nat) (hK : pts.length + lens.length + 1 < K) : quinariaref02_Siphon.f K a b pts lens = some (isSiphonB a b pts lens) := by
  unfold quinariaref02_Siphon.f; have := siphR0 (a := a) (b := b) hl hp pts.length 0 K (by omega) hK; rw [show ((0 : Nat) : Int) = 0 from rfl] at this; rw [this]; unfold isSiphonB; rw [List.drop_zero]
  congr 1
  cases isSpanB a b 0 1000 <;> cases inB (pts.length : Int) 2 8 <;> cases decide ((lens.length : Int) = (pts.length : Int) - 1) <;> cases pts.all (fun x => isSpanB x.f0 x.f1 0 1000) <;> cases lens.all (fun x => inB x 1 100) <;> rfl
theorem pressR {a x y : Int} (h : -10000 ≤ a ∧ a ≤ 10000 ∧ -10000 ≤ x ∧ x ≤ 10000 ∧ -10000 ≤ y ∧ y ≤ 10000) : quinariaref02_Pressure.f a x y = some (mx 0 (a - mn x y)) := by
  obtain ⟨h1, h2, h3, h4, h5, h6⟩ := h; unfold quinariaref02_Pressure.f; rw [IntWalk.wrap64_in _ (by omega), IntWalk.wrap64_in _ (by omega)]
  congr 1
  unfold mx mn
  split <;> split <;> split <;> omega
theorem classR_from (hl : cl.length ≤ 100) : ∀ (d j K : Nat), j + d = cl.length → d < K → quinariaref02_Classes.l0 K cl (j : Int) = some ((cl.drop j).all classB && inB cl.length 1 4)
  | 0, j, K + 1, hj, hK => by
    unfold quinariaref02_Classes.l0; rw [if_neg (by omega), List.drop_eq_nil_of_le (by omega), inR_f, Option.bind_some]; simp
  | d + 1, j, K + 1, hj, hK => by
    have ih := classR_from hl d (j + 1) K (by omega) (by omega); unfold quinariaref02_Classes.l0; rw [if_pos (by omega), if_pos (by omega), rdCla_at, all_drop _ z53 _ _ (by omega), w1 (by omega) (by omega)]; rw [show ((j + 1 : Nat) : Int) = (j : Int) + 1 by omega] at ih; simp only [inR_f, Option.bind_some, classB]
    cases inB (cl.getD j z53).f0 1 1000 <;> cases inB (cl.getD j z53).f1 0 100 <;> cases inB (cl.getD j z53).f2 0 1000 <;> simp
    simpa using ih
theorem classesR_f (hl : cl.length ≤ 100) (K : Nat) (hK : cl.length < K) : quinariaref02_Classes.f K cl = some (areClassesB cl) := by
  unfold quinariaref02_Classes.f areClassesB; have := classR_from hl cl.length 0 K (by omega) hK; rw [show ((0 : Nat) : Int) = 0 from rfl] at this; rw [this, List.drop_zero, Bool.and_comm]
def chosenB (lens : List Int) (cl : List CLA) (ch : List Int) : Bool := ch.all (fun c => inB c 0 ((cl.length : Int) - 1)) && (ch.length == lens.length)
theorem chosenR_from (hl : ch.length ≤ 100) (hc : cl.length ≤ 100) : ∀ (d j K : Nat), j + d = ch.length → d < K → quinariaref02_Chosen.l0 K cl ch (j : Int) a b pts lens = some ((ch.drop j).all (fun c => inB c 0 ((cl.length : Int) - 1)) && (ch.length == lens.length))
  | 0, j, K + 1, hj, hK => by
    unfold quinariaref02_Chosen.l0; rw [if_neg (by omega), List.drop_eq_nil_of_le (by omega), beq_cast]
    by_cases e : ch.length = lens.length <;> simp [e]
  | d + 1, j, K + 1, hj, hK => by
    have ih := chosenR_from hl hc d (j + 1) K (by omega) (by omega); unfold quinariaref02_Chosen.l0; rw [if_pos (by omega), if_pos (by omega), rd_at, IntWalk.wrap64_in ((cl.length : Int) - 1) (by omega), inR_f, Option.bind_some, w1 (by omega) (by omega), all_drop _ 0 _ _ (by omega)]; rw [show ((j + 1 : Nat) : Int) = (j : Int) + 1 by omega] at ih
    cases inB (ch.getD j 0) 0 ((cl.length : Int) - 1) with
    | true => simpa using ih
    | false => simp
theorem chosenR_f (hl : ch.length ≤ 100) (hc : cl.length ≤ 100) (K : Nat) (hK : ch.length < K) : quinariaref02_Chosen.f K a b pts lens cl ch = some (chosenB lens cl ch) := by
  unfold quinariaref02_Chosen.f chosenB; exact chosenR_from hl hc ch.length 0 K (by omega) hK
theorem chosen_spec (h : chosenB lens cl ch = true) : ch.length = lens.length ∧ ∀ k : Int, 0 ≤ k → k < ch.length → 0 ≤ rd ch k ∧ rd ch k < cl.length := by
  simp only [chosenB, Bool.and_eq_true, beq_iff_eq] at h; refine ⟨h.2, fun k h0 h1 => ?_⟩; obtain ⟨j, rfl⟩ : ∃ j : Nat, k = (j : Int) := ⟨k.toNat, by omega⟩; have := List.all_eq_true.mp h.1 _ (getD_mem 0 (show j < ch.length by omega)); rw [rd_at]; simp only [inB, Bool.and_eq_true, decide_eq_true_eq] at this
  omega
theorem choice_eq : choiceB a b pts lens cl ch = (isSiphonB a b pts lens && areClassesB cl && chosenB lens cl ch) := by
  unfold choiceB chosenB; have : decide (ch.length = lens.length) = (ch.length == lens.length) := by by_cases e : ch.length = lens.length <;> simp [e]
  rw [this]
  cases isSiphonB a b pts lens <;> cases areClassesB cl <;> cases (ch.length == lens.length) <;> cases ch.all (fun c => inB c 0 ((cl.length : Int) - 1)) <;> rfl
theorem burstsC_f (h1 : pts.length ≤ 1000000) (h2 : lens.length ≤ 1000000) (h3 : cl.length ≤ 1000000) (h4 : ch.length ≤ 1000000) : channel_Bursts.f a b pts lens cl ch = some (if choiceB a b pts lens cl ch = true then (burstL a b pts cl ch lens.length, 0) else ([], 2)) := by
  unfold channel_Bursts.f; rw [if_pos ⟨by omega, by omega, by omega, by omega⟩]
  cases e : choiceB a b pts lens cl ch with
  | false => rfl
  | true =>
    have e2 := e; rw [choice_eq, Bool.and_eq_true, Bool.and_eq_true] at e2; have hs := siphon_ok e2.1.1; obtain ⟨c1, c2⟩ := chosen_spec e2.2; rw [if_pos rfl, if_pos rfl, bursts_eq hs c1 c2 100 (by have := hs.ln; have := hs.n1; omega), Option.bind_some]
end Go.Proofs.YtdmdahafiiggiabGreatDoor.K
end
section
namespace Go.Proofs.YtdmdahafiiggiabGreatDoor.K
open Go.RowKit Go.Proofs.YtdmdahafiiggiabGreatDoorW.PrintWords Go.Proofs.YtdmdahafiiggiabGreatDoorW.PrintLast Go.Proofs.YtdmdahafiiggiabGreatDoorW.PrintMore
variable {a b : Int} {pts : List SPA} {lens : List Int}
structure High (a b : Int) (pts : List SPA) (x : Int) (hs : List Int) : Prop where
  x0 : a ≤ x
  x1 : x ≤ b
  len : hs.length = pts.length
  at_ : ∀ k : Int, 0 ≤ k → k < pts.length → (rd_T23 pts k).f0 ≤ rd hs k ∧ rd hs k ≤ (rd_T23 pts k).f1
theorem heights_from {hs : List Int} (hl : hs.length = pts.length) (hp : pts.length ≤ 100) : ∀ (d j K : Nat), j + d = hs.length → d < K → ∃ r, quinarialaw02_heights.l0 K hs (j : Int) a b pts lens = some r ∧ (r = true → ∀ k : Int, (j : Int) ≤ k → k < pts.length → (rd_T23 pts k).f0 ≤ rd hs k ∧ rd hs k ≤ (rd_T23 pts k).f1)
  | 0, j, K + 1, hj, hK => by
    rw [quinarialaw02_heights.l0, if_neg (by omega)]; exact ⟨true, rfl, fun _ k h1 h2 => by omega⟩
  | d + 1, j, K + 1, hj, hK => by
    obtain ⟨r, hr, hrs⟩ := heights_from hl hp d (j + 1) K (by omega) (by omega); rw [quinarialaw02_heights.l0, if_pos (by omega), if_pos (by omega), if_pos (by omega), w1 (by omega) (by omega)]; rw [show ((j + 1 : Nat) : Int) = (j : Int) + 1 by omega] at hr hrs
    by_cases e1 : rd hs (j : Int) < (rd_T23 pts (j : Int)).f0
    · rw [if_pos e1]; exact ⟨false, rfl, fun h => by cases h⟩
    · rw [if_neg e1]
      by_cases e2 : rd hs (j : Int) > (rd_T23 pts (j : Int)).f1
      · rw [if_pos e2]; exact ⟨false, rfl, fun h => by cases h⟩
      · rw [if_neg e2]; refine ⟨r, hr, fun h k h1 h2 => ?_⟩
        by_cases e : k = (j : Int)
        · subst e; omega
        · exact hrs h k (by omega) h2
theorem heights_f (hp : pts.length ≤ 100) (x : Int) (hs : List Int) (K : Nat) (hK : 200 < K) : ∃ r, quinarialaw02_heights.f K a b pts lens x hs = some r ∧ (r = true → High a b pts x hs) := by
  obtain ⟨K, rfl⟩ : ∃ k, K = k + 1 := ⟨K - 1, by omega⟩; have hno : quinarialaw02_heights.j0 (K + 1) hs true a b pts lens = some false := by rw [quinarialaw02_heights.j0, if_pos rfl]
  unfold quinarialaw02_heights.f
  by_cases e1 : x < a
  · rw [if_pos e1]; exact ⟨false, hno, fun h => by cases h⟩
  rw [if_neg e1]
  by_cases e2 : x > b
  · rw [if_pos e2]; exact ⟨false, hno, fun h => by cases h⟩
  rw [if_neg e2]
  by_cases e3 : hs.length = pts.length
  · obtain ⟨r, hr, hrs⟩ := heights_from (a := a) (b := b) (lens := lens) e3 hp hs.length 0 K (by omega) (by omega); have : ((hs.length : Int) != (pts.length : Int)) = false := by simp [e3]
    rw [this, quinarialaw02_heights.j0, if_neg (by simp)]; exact ⟨r, hr, fun h => ⟨by omega, by omega, e3, fun k h0 h1 => hrs h k h0 h1⟩⟩
  · have : ((hs.length : Int) != (pts.length : Int)) = true := by simp [bne]; omega
    rw [this]; exact ⟨false, hno, fun h => by cases h⟩
theorem mxn_le {a a' x x' y y' : Int} (h1 : a ≤ a') (h2 : x' ≤ x) (h3 : y' ≤ y) : mx 0 (a - mn x y) ≤ mx 0 (a' - mn x' y') := by unfold mx mn; split <;> split <;> split <;> split <;> omega
end Go.Proofs.YtdmdahafiiggiabGreatDoor.K
end
section
namespace Go.Proofs.YtdmdahafiiggiabGreatDoor.K
open Go.RowKit Go.Proofs.YtdmdahafiiggiabGreatDoorW.PrintWords Go.Proofs.YtdmdahafiiggiabGreatDoorW.PrintLast Go.Proofs.YtdmdahafiiggiabGreatDoorW.PrintMore
variable {a b : Int} {pts : List SPA} {lens : List Int} {cl : List CLA} {ch : List Int}
theorem foldP_mem : ∀ {l : List (List Int × Int)} {o : Option (List Int × Int)} {y : List Int × Int}, l.foldl stepP o = some y → o = some y ∨ y ∈ l
  | [], o, y, h => .inl h
  | x :: l, o, y, h => by
    rw [List.foldl_cons] at h
    rcases foldP_mem h with h1 | h1
    · unfold stepP at h1
      split at h1
      · obtain rfl := Option.some.inj h1; exact .inr (List.mem_cons_self ..)
      · split at h1
        · obtain rfl := Option.some.inj h1; exact .inr (List.mem_cons_self ..)
        · exact .inl h1
    · exact .inr (List.mem_cons_of_mem _ h1)
theorem bestP_mem {l : List (List Int × Int)} {y : List Int × Int} (h : bestP l = some y) : y ∈ l := by
  rcases foldP_mem h with h1 | h1
  · cases h1
  · exact h1
theorem chosen_tails {m : Nat} {z : List Int} (hm : m = lens.length) (h : z ∈ tails cl.length m) : chosenB lens cl z = true := by
  obtain ⟨h1, h2⟩ := (mem_tails cl.length m z).mp h; unfold chosenB; rw [Bool.and_eq_true, List.all_eq_true, beq_iff_eq]; refine ⟨fun c hc => ?_, by omega⟩; have := h2 c hc; simp only [inB, Bool.and_eq_true, decide_eq_true_eq]
  omega
theorem pipes_cases (h1 : isSiphonB a b pts lens = true) (h2 : areClassesB cl = true) : pipesF a b pts lens cl = ([], 0, 5) ∨ ∃ z p, pipesF a b pts lens cl = (z, p, 0) ∧ chosenB lens cl z = true ∧ suffB a b pts lens cl z = true := by
  unfold pipesF; rw [if_pos ⟨h1, h2⟩]
  cases e : bestP (filtP a b pts lens cl (tails cl.length lens.length)) with
  | none => exact .inl rfl
  | some y =>
    right
    have hm := bestP_mem e; unfold filtP at hm; obtain ⟨z, hz, rfl⟩ := List.mem_map.mp hm; obtain ⟨hz1, hz2⟩ := List.mem_filter.mp hz; exact ⟨z, _, rfl, chosen_tails rfl hz1, hz2⟩
theorem pipesC_f (h1 : pts.length ≤ 1000000) (h2 : lens.length ≤ 1000000) (h3 : cl.length ≤ 1000000) : channel_Pipes.f a b pts lens cl = some (pipesF a b pts lens cl) := by
  unfold channel_Pipes.f; rw [if_pos ⟨by omega, by omega, by omega⟩]
def burstAt (a b : Int) (pts : List SPA) (cl : List CLA) (ch : List Int) (k : Nat) : Prop := (rd_T53 cl (rd ch (k : Int))).f0 < (pressN a b pts (k : Int)).f1
theorem burst_mem {n : Nat} {x : Int} : x ∈ burstL a b pts cl ch n ↔ ∃ k : Nat, x = (k : Int) ∧ k < n ∧ burstAt a b pts cl ch k := by
  unfold burstL burstAt; simp only [List.mem_map, List.mem_filter, List.mem_range, decide_eq_true_eq]
  constructor
  · rintro ⟨k, ⟨h1, h2⟩, rfl⟩; exact ⟨k, rfl, h1, h2⟩
  · rintro ⟨k, rfl, h1, h2⟩; exact ⟨k, ⟨h1, h2⟩, rfl⟩
theorem burst_sorted (n : Nat) : (burstL a b pts cl ch n).Pairwise (· < ·) := by
  unfold burstL; refine List.Pairwise.map (fun k : Nat => (k : Int)) (R := fun x y : Nat => x < y) (fun x y h => by omega) ?_; exact (List.pairwise_lt_range (n := n)).filter _
theorem suff_no {z : List Int} (h : suffB a b pts lens cl z = true) {k : Nat} (hk : k < lens.length) : ¬ burstAt a b pts cl z k := fun hb => by
  simp only [suffB, Bool.and_eq_true, List.isEmpty_iff] at h; have : (k : Int) ∈ burstL a b pts cl z lens.length := burst_mem.mpr ⟨k, rfl, hk, hb⟩; rw [h.2] at this
  cases this
section
variable {x : Int} {hs z : List Int} {code : Int}
theorem borne_l1 (h : SiOk a b pts lens) (H : High a b pts x hs) (hc : chosenB lens cl ch = true) (hz : code = 0 → chosenB lens cl z = true ∧ suffB a b pts lens cl z = true) (met : List Bool) (hm : met.length = ch.length) (hmet : ∀ k : Nat, k < ch.length → (met.getD k false = true ↔ burstAt a b pts cl ch k)) :
    ∀ (d j K : Nat), j + d = ch.length → d < K → quinarialaw02_ChannelBorne.l1 K cl ch x hs z code met (j : Int) a b pts lens = some true := by
  obtain ⟨a0, ab, b1, n0, n1, ln, pt, le⟩ := h; obtain ⟨x0, x1, hl, ha⟩ := H; obtain ⟨hcl, hcr⟩ := chosen_spec hc; intro d
  induction d with
  | zero =>
    intro j K hj hK; obtain ⟨K, rfl⟩ : ∃ k, K = k + 1 := ⟨K - 1, by omega⟩; rw [quinarialaw02_ChannelBorne.l1, if_neg (by omega)]
    rfl
  | succ d ih =>
    intro j K hj hK; obtain ⟨K, rfl⟩ : ∃ k, K = k + 1 := ⟨K - 1, by omega⟩; have ih := ih (j + 1) K (by omega) (by omega); rw [show ((j + 1 : Nat) : Int) = (j : Int) + 1 by omega] at ih; have p1 := pt (j : Int) (by omega) (by omega); have p2 := pt ((j : Int) + 1) (by omega) (by omega); have q1 := ha (j : Int) (by omega) (by omega); have q2 := ha ((j : Int) + 1) (by omega) (by omega); have e1 := mxn_le (a := x) (a' := b) x1 q1.1 q2.1; have c1 := hcr (j : Int) (by omega) (by omega); have hmj := hmet j (by omega); have ew : pressN a b pts (j : Int) = ⟨mx 0 (a - mn (rd_T23 pts (j : Int)).f1 (rd_T23 pts ((j : Int) + 1)).f1), mx 0 (b - mn (rd_T23 pts (j : Int)).f0 (rd_T23 pts ((j : Int) + 1)).f0)⟩ := rfl; have hb1 : burstAt a b pts cl ch j ↔ (rd_T53 cl (rd ch (j : Int))).f0 < mx 0 (b - mn (rd_T23 pts (j : Int)).f0 (rd_T23 pts ((j : Int) + 1)).f0) := by unfold burstAt; rw [ew]
    have hbz : code = 0 → 0 ≤ rd z (j : Int) ∧ rd z (j : Int) < cl.length ∧ z.length = ch.length ∧ mx 0 (b - mn (rd_T23 pts (j : Int)).f0 (rd_T23 pts ((j : Int) + 1)).f0) ≤ (rd_T53 cl (rd z (j : Int))).f0 := fun hc0 => by
      obtain ⟨z1, z2⟩ := hz hc0; obtain ⟨z3, z4⟩ := chosen_spec z1; have z5 := z4 (j : Int) (by omega) (by omega); have z6 := suff_no z2 (show j < lens.length by omega); unfold burstAt at z6; rw [ew] at z6; exact ⟨z5.1, z5.2, by omega, Int.not_lt.mp z6⟩
    rw [quinarialaw02_ChannelBorne.l1, w1 (by omega) (by omega), if_pos (by omega), if_pos (by omega), if_pos (by omega), if_pos (by omega), if_pos (by omega), pressR (by omega), Option.bind_some, if_pos (by omega), if_pos (by omega), pressR (by omega), Option.bind_some, if_pos c1.1, if_pos c1.2]; rw [hb1] at hmj; have hrd : rdOf false met (j : Int) = met.getD j false := by simp [rdOf]
    rw [hrd]; generalize mx 0 (b - mn (rd_T23 pts (j : Int)).f0 (rd_T23 pts ((j : Int) + 1)).f0) = W at *; generalize mx 0 (x - mn (rd hs (j : Int)) (rd hs ((j : Int) + 1))) = P at *; generalize (rd_T53 cl (rd ch (j : Int))).f0 = C at *
    have hX : (if code = 0 then (if (j : Int) < (z.length : Int) then (if 0 ≤ (rd z (j : Int)) then (if (rd z (j : Int)) < (cl.length : Int) then (if P > ((rd_T53 cl (rd z (j : Int))).f0) then (some false) else (quinarialaw02_ChannelBorne.l1 K cl ch x hs z code met ((j : Int) + 1) a b pts lens)) else (none)) else (none)) else (none)) else (quinarialaw02_ChannelBorne.l1 K cl ch x hs z code met ((j : Int) + 1) a b pts lens)) = some true := by
      by_cases hc0 : code = 0
      · obtain ⟨z1, z2, z3, z4⟩ := hbz hc0; rw [if_pos hc0, if_pos (by omega), if_pos z1, if_pos z2, if_neg (by omega)]; exact ih
      · rw [if_neg hc0]; exact ih
    by_cases hW : C < W
    · have hmt := hmj.mpr hW
      by_cases hP : P > C
      · rw [if_pos hP, if_pos (by omega), if_pos hmt, if_neg (by omega)]; exact hX
      · rw [if_neg hP, if_pos (by omega), if_pos hmt, if_neg (by omega)]; exact hX
    · rw [if_neg (show ¬ P > C by omega), if_pos (by omega), if_neg (fun hh => hW (hmj.mp hh))]; exact hX
theorem borne_l0 (h : SiOk a b pts lens) (H : High a b pts x hs) (hc : chosenB lens cl ch = true) (hz : code = 0 → chosenB lens cl z = true ∧ suffB a b pts lens cl z = true) :
    ∀ (rest : List Int) (j : Nat) (met : List Bool) (K : Nat), (burstL a b pts cl ch lens.length).drop j = rest → met.length = ch.length → (∀ k : Nat, k < ch.length → (met.getD k false = true ↔ (k : Int) ∈ (burstL a b pts cl ch lens.length).take j)) → rest.length + ch.length + 1 < K →
      quinarialaw02_ChannelBorne.l0 K cl ch x hs (burstL a b pts cl ch lens.length) z code met (j : Int) a b pts lens = some true
  | [], j, met, K + 1, hd, hm, hin, hK => by
    have hle : (burstL a b pts cl ch lens.length).length ≤ j := by simpa using hd
    obtain ⟨hcl, -⟩ := chosen_spec hc; rw [quinarialaw02_ChannelBorne.l0, if_neg (by omega)]; refine borne_l1 h H hc hz met hm (fun k hk => ?_) ch.length 0 K (by omega) (by simp at hK; omega); rw [hin k hk, List.take_of_length_le hle, burst_mem]
    constructor
    · rintro ⟨k', e, -, hb⟩; have : k = k' := by omega
      subst this; exact hb
    · intro hb; exact ⟨k, rfl, by omega, hb⟩
  | y :: rest, j, met, K + 1, hd, hm, hin, hK => by
    obtain ⟨hj, hd1, hget⟩ := drop_get hd; obtain ⟨hcl, -⟩ := chosen_spec hc; have hln := h.ln; have hn1 := h.n1; have hbl := burstL_len a b pts cl ch lens.length; have hmem : y ∈ burstL a b pts cl ch lens.length := by rw [← hget 0]; exact getD_mem 0 hj
    obtain ⟨i, rfl, hi, hb⟩ := burst_mem.mp hmem; have hrd : rd (burstL a b pts cl ch lens.length) (j : Int) = (i : Int) := rd_drop hd
    have hyj : (burstL a b pts cl ch lens.length)[j]'hj = (i : Int) := by
      have := hget 0
      rwa [List.getD, List.getElem?_eq_getElem hj] at this
    have ih := borne_l0 h H hc hz rest (j + 1) (met.set i true) K hd1 (by simpa using hm) (fun k hk => by
      rw [List.take_add_one, List.mem_append, List.getElem?_eq_getElem hj, hyj]
      by_cases e : k = i
      · subst e; simp [List.getD, List.getElem?_set, hm, hk]
      · have := hin k hk; simp only [List.getD] at this ⊢; rw [List.getElem?_set, if_neg (Ne.symm e), this]; simp
        omega) (by simp at hK; omega)
    rw [show ((j + 1 : Nat) : Int) = (j : Int) + 1 by omega] at ih; rw [quinarialaw02_ChannelBorne.l0, if_pos (by omega), if_pos (by omega), hrd, if_neg (by omega), if_neg (by omega), Int.toNat_natCast, w1 (by omega) (by omega)]
    by_cases e : (j : Int) > 0
    · obtain ⟨j', rfl⟩ : ∃ k, j = k + 1 := ⟨j - 1, by omega⟩; have hs' : (burstL a b pts cl ch lens.length)[j']'(by omega) < (burstL a b pts cl ch lens.length)[j' + 1]'hj := List.pairwise_iff_getElem.mp (burst_sorted lens.length) j' (j' + 1) (by omega) hj (by omega); have e2 : rd (burstL a b pts cl ch lens.length) (j' : Int) = (burstL a b pts cl ch lens.length)[j']'(by omega) := by rw [rd_at, List.getD, List.getElem?_eq_getElem (show j' < (burstL a b pts cl ch lens.length).length by omega)]; rfl
      rw [if_pos e, show wrap64 (((j' + 1 : Nat) : Int) - 1) = (j' : Int) by rw [IntWalk.wrap64_in _ (by omega)]; omega, if_pos (by omega), if_pos (by omega), if_neg (by rw [e2]; omega), if_pos (by omega), if_pos (by omega)]; exact ih
    · rw [if_neg e, if_pos (by omega), if_pos (by omega)]; exact ih
end
theorem borne_go (h1 : isSiphonB a b pts lens = true) (h2 : areClassesB cl = true) (h3 : chosenB lens cl ch = true) {x : Int} {hs : List Int} (H : High a b pts x hs) (hl : cl.length ≤ 100) : quinarialaw02_ChannelBorne.j0 (300 + 1 + 1) cl ch x hs false a b pts lens = some true := by
  have h := siphon_ok h1; have hln := h.ln; have hn1 := h.n1; obtain ⟨c1, c2⟩ := chosen_spec h3; have hbl := burstL_len a b pts cl ch lens.length
  have hj1 : ∀ (z : List Int) (code : Int), (code = 0 → chosenB lens cl z = true ∧ suffB a b pts lens cl z = true) → quinarialaw02_ChannelBorne.j1 (300 + 1) cl ch x hs (burstL a b pts cl ch lens.length) z code false a b pts lens = some true := fun z code hz => by
    rw [quinarialaw02_ChannelBorne.j1, if_neg (by simp), if_pos (by omega), if_pos (by omega), Int.toNat_natCast]; exact borne_l0 h H h3 hz _ 0 (List.replicate ch.length false) 300 rfl (by simp) (fun k hk => by simp [List.getD, hk]) (by simp; omega)
  rw [quinarialaw02_ChannelBorne.j0, if_neg (by simp), burstsC_f (by omega) (by omega) (by omega) (by omega), Option.bind_some, pipesC_f (by omega) (by omega) (by omega), Option.bind_some, show choiceB a b pts lens cl ch = true by rw [choice_eq, h1, h2, h3]; rfl]; simp only [if_true]; rw [if_neg (by omega)]
  rcases pipes_cases (a := a) (b := b) (pts := pts) (lens := lens) (cl := cl) h1 h2 with e | ⟨z, p, e, hz1, hz2⟩
  · rw [e]; exact hj1 [] 5 (fun hh => by cases hh)
  · rw [e]; obtain ⟨z3, -⟩ := chosen_spec hz1; simp only [if_true]; rw [chosenR_f (by omega) hl _ (by omega), Option.bind_some, hz1, Bool.not_true]; exact hj1 z 0 (fun _ => ⟨hz1, hz2⟩)
theorem ChannelBorne_pure (a b : Int) (pts : List SPA) (lens : List Int) (cl : List CLA) (ch : List Int) (x : Int) (hs : List Int) : quinarialaw02_ChannelBorne.f (300 + 1 + 1) a b pts lens cl ch x hs = some true := by
  have hk : quinarialaw02_ChannelBorne.j0 (300 + 1 + 1) cl ch x hs true a b pts lens = some true := by
    rw [quinarialaw02_ChannelBorne.j0, if_pos rfl]
    rfl
  unfold quinarialaw02_ChannelBorne.f; rw [slim_f, Option.bind_some]
  cases h0 : slimB pts lens cl with
  | false => rw [if_neg (by simp)]; exact hk
  | true =>
    have hl := slim_lens h0; rw [if_pos rfl]
    by_cases h10 : (ch.length : Int) > 10
    · rw [if_pos h10]; exact hk
    rw [if_neg h10, siphonR_f (by omega) (by omega) _ (by omega), Option.bind_some]
    cases h1 : isSiphonB a b pts lens with
    | false => rw [if_neg (by simp)]; exact hk
    | true =>
    rw [if_pos rfl, classesR_f (by omega) _ (by omega), Option.bind_some]
    cases h2 : areClassesB cl with
    | false => rw [if_neg (by simp)]; exact hk
    | true =>
    rw [if_pos rfl, chosenR_f (by omega) (by omega) _ (by omega), Option.bind_some]
    cases h3 : chosenB lens cl ch with
    | false => rw [if_neg (by simp)]; exact hk
    | true =>
      obtain ⟨r, hr, hrs⟩ := heights_f (a := a) (b := b) (pts := pts) (lens := lens) (by omega) x hs (300 + 1 + 1) (by omega); rw [if_pos rfl, hr, Option.bind_some]
      cases r with
      | false => exact hk
      | true => exact borne_go h1 h2 h3 (hrs rfl) (by omega)
theorem ChannelBorne_law (a b : Int) (A0 A1 : Option Addr) (c0 c1 : Nat) (pts : List SPA) (lens : List Int) (A2 : Option Addr) (c2 : Nat) (cl : List CLA) (A3 : Option Addr) (c3 : Nat) (ch : List Int) (x : Int) (A5 : Option Addr) (c5 : Nat) (hs : List Int) (w : World) (hT : TabW w) (h0 : At' k23 w A0 pts.length c0 pts) (h1 : At' (Kd.int .i64) w A1 lens.length c1 lens) (h2 : At' k53 w A2 cl.length c2 cl) (h3 : At' (Kd.int .i64) w A3 ch.length c3 ch) (h5 : At' (Kd.int .i64) w A5 hs.length c5 hs) :
    Calls Tryz.prog 6 #[.agg #[.int .i64 a, .int .i64 b, .slice A0 pts.length c0, .slice A1 lens.length c1], .slice A2 cl.length c2, .slice A3 ch.length c3, .int .i64 x, .slice A5 hs.length c5] w fun e w' => e = .returned (.bool true) ∧ Below w.heap.size w w' :=
  quinarialaw02_ChannelBorne.calls _ a b A0 c0 pts A1 c1 lens A2 c2 cl A3 c3 ch x A5 c5 hs true w h0.c h0.le h1.c h1.le h2.c h2.le h3.c h3.le h5.c h5.le hT (ChannelBorne_pure a b pts lens cl ch x hs)
end Go.Proofs.YtdmdahafiiggiabGreatDoor.K
end
