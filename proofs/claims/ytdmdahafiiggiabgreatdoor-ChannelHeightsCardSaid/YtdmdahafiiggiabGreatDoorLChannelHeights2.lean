/- ChannelHeights: the walk of the law, and what it comes to. -/
import Derived.Test.YtdmdahafiiggiabGreatDoorLChannelHeights1
set_option linter.unusedVariables false
set_option linter.unusedSimpArgs false
section
namespace Go.Proofs.YtdmdahafiiggiabGreatDoor.K
open Go.RowKit Go.Proofs.YtdmdahafiiggiabGreatDoorW.PrintWords Go.Proofs.YtdmdahafiiggiabGreatDoorW.PrintLast Go.Proofs.YtdmdahafiiggiabGreatDoorW.PrintMore
abbrev SPA := S23
abbrev CLA := S53
variable {a b : Int} {pts : List SPA} {lens : List Int} {cl : List CLA} {ch : List Int}
def slimB (pts : List SPA) (lens : List Int) (cl : List CLA) : Bool := decide (pts.length ≤ 10) && decide (lens.length ≤ 10) && decide (cl.length ≤ 6)
theorem slim_f (a b : Int) : quinarialaw02_slim.f a b pts lens cl = some (slimB pts lens cl) := by
  unfold quinarialaw02_slim.f slimB
  by_cases h1 : pts.length ≤ 10
  · rw [if_pos (by omega)]
    by_cases h2 : lens.length ≤ 10
    · rw [if_pos (by omega)]
      by_cases h3 : cl.length ≤ 6
      · simp [h1, h2, h3]; omega
      · simp [h1, h2, h3]; omega
    · rw [if_neg (by omega)]; simp [h1, h2]
  · rw [if_neg (by omega)]; simp [h1]
theorem slim_lens (h : slimB pts lens cl = true) : pts.length ≤ 10 ∧ lens.length ≤ 10 ∧ cl.length ≤ 6 := by
  simp only [slimB, Bool.and_eq_true, decide_eq_true_eq] at h
  exact ⟨h.1.1, h.1.2, h.2⟩
theorem heightR_f (p q : Int) : quinariaref02_height.f p q = some (isSpanB p q 0 1000) := by
  unfold quinariaref02_height.f quinariaref02_between.f isSpanB
  simp only [inR_f, Option.bind_some]
  unfold inB
  by_cases e1 : 0 ≤ p <;> by_cases e2 : p ≤ 1000 <;> by_cases e3 : 0 ≤ q <;> by_cases e4 : q ≤ 1000 <;> by_cases e5 : p ≤ q <;> simp [e1, e2, e3, e4, e5] <;> omega
theorem rdSpa_at (l : List SPA) (j : Nat) : rd_T23 l (j : Int) = l.getD j z23 := by simp [rd_T23]
theorem siphR1 (hl : lens.length ≤ 100) (hp : pts.length ≤ 100) : ∀ (d j K : Nat), j + d = lens.length → d < K → quinariaref02_Siphon.l1 K (j : Int) a b pts lens = some ((lens.drop j).all (fun x => inB x 1 100) && (isSpanB a b 0 1000 && inB pts.length 2 8 && decide ((lens.length : Int) = (pts.length : Int) - 1)))
  | 0, j, K + 1, hj, hK => by
    rw [quinariaref02_Siphon.l1, if_neg (by omega), List.drop_eq_nil_of_le (by omega), heightR_f, Option.bind_some, inR_f, Option.bind_some, IntWalk.wrap64_in _ (by omega)]
    cases isSpanB a b 0 1000 <;> cases inB (pts.length : Int) 2 8 <;> first | (simp; done) | (simp; rfl)
  | d + 1, j, K + 1, hj, hK => by
    have ih := siphR1 hl hp d (j + 1) K (by omega) (by omega)
    rw [quinariaref02_Siphon.l1, if_pos (by omega), if_pos (by omega), rd_at, inR_f, Option.bind_some, w1 (by omega) (by omega), all_drop _ 0 _ _ (by omega)]
    rw [show ((j + 1 : Nat) : Int) = (j : Int) + 1 by omega] at ih
    cases inB (lens.getD j 0) 1 100 with
    | true => simpa using ih
    | false => simp
theorem siphR0 (hl : lens.length ≤ 100) (hp : pts.length ≤ 100) : ∀ (d j K : Nat), j + d = pts.length → d + lens.length + 1 < K → quinariaref02_Siphon.l0 K (j : Int) a b pts lens = some ((pts.drop j).all (fun x => isSpanB x.f0 x.f1 0 1000) && (lens.all (fun x => inB x 1 100) && (isSpanB a b 0 1000 && inB pts.length 2 8 && decide ((lens.length : Int) = (pts.length : Int) - 1))))
  | 0, j, K + 1, hj, hK => by
    rw [quinariaref02_Siphon.l0, if_neg (by omega), List.drop_eq_nil_of_le (by omega)]
    have := siphR1 (a := a) (b := b) hl hp lens.length 0 K (by omega) (by omega)
    simpa using this
  | d + 1, j, K + 1, hj, hK => by
    have ih := siphR0 hl hp d (j + 1) K (by omega) (by omega)
    rw [quinariaref02_Siphon.l0, if_pos (by omega), if_pos (by omega), rdSpa_at, heightR_f, Option.bind_some, w1 (by omega) (by omega), all_drop _ z23 _ _ (by omega)]
    rw [show ((j + 1 : Nat) : Int) = (j : Int) + 1 by omega] at ih
    cases isSpanB (pts.getD j z23).f0 (pts.getD j z23).f1 0 1000 with
    | true => simpa using ih
    | false => simp
theorem siphonR_f (hl : lens.length ≤ 100) (hp : pts.length ≤ 100) (K : Nat) (hK : pts.length + lens.length + 1 < K) : quinariaref02_Siphon.f K a b pts lens = some (isSiphonB a b pts lens) := by
  unfold quinariaref02_Siphon.f
  have := siphR0 (a := a) (b := b) hl hp pts.length 0 K (by omega) hK
  rw [show ((0 : Nat) : Int) = 0 from rfl] at this
  rw [this]
  unfold isSiphonB
  rw [List.drop_zero]
  congr 1
  cases isSpanB a b 0 1000 <;> cases inB (pts.length : Int) 2 8 <;> cases decide ((lens.length : Int) = (pts.length : Int) - 1) <;> cases pts.all (fun x => isSpanB x.f0 x.f1 0 1000) <;> cases lens.all (fun x => inB x 1 100) <;> rfl
theorem pressR {a x y : Int} (h : -10000 ≤ a ∧ a ≤ 10000 ∧ -10000 ≤ x ∧ x ≤ 10000 ∧ -10000 ≤ y ∧ y ≤ 10000) : quinariaref02_Pressure.f a x y = some (mx 0 (a - mn x y)) := by
  obtain ⟨h1, h2, h3, h4, h5, h6⟩ := h
  unfold quinariaref02_Pressure.f
  rw [IntWalk.wrap64_in _ (by omega), IntWalk.wrap64_in _ (by omega)]
  congr 1
  unfold mx mn
  split <;> split <;> split <;> omega
theorem isSiphonC_f (h1 : pts.length ≤ 1000000) (h2 : lens.length ≤ 1000000) : channel_isSiphon.f a b pts lens = some (isSiphonB a b pts lens) := by unfold channel_isSiphon.f; rw [if_pos ⟨by omega, by omega⟩]
theorem pressuresC_f (h1 : pts.length ≤ 1000000) (h2 : lens.length ≤ 1000000) (K : Nat) (hK : 20 < K) : channel_Pressures.f K a b pts lens = some (if isSiphonB a b pts lens = true then (pressL a b pts lens.length, 0) else ([], 2)) := by
  unfold channel_Pressures.f
  rw [isSiphonC_f h1 h2, Option.bind_some]
  cases e : isSiphonB a b pts lens with
  | false => rfl
  | true =>
    have hs := siphon_ok e
    rw [if_pos rfl, if_pos rfl, press_eq hs K (by have := hs.ln; have := hs.n1; omega), Option.bind_some]
def flowsN (a b : Int) (pts : List SPA) : Int := if a > (rd_T23 pts ((pts.length : Int) - 1)).f1 then 3 else if b > (rd_T23 pts ((pts.length : Int) - 1)).f0 then 2 else 1
theorem flowsC_f (h1 : pts.length ≤ 1000000) (h2 : lens.length ≤ 1000000) : channel_Flows.f a b pts lens = some (if isSiphonB a b pts lens = true then (flowsN a b pts, 0) else (0, 2)) := by
  unfold channel_Flows.f
  rw [isSiphonC_f h1 h2, Option.bind_some]
  cases e : isSiphonB a b pts lens with
  | false => rfl
  | true =>
    have hs := siphon_ok e
    have := hs.n0
    rw [if_pos rfl, if_pos rfl, IntWalk.wrap64_in _ (by omega), if_pos (by omega), if_pos (by omega)]
    unfold flowsN
    split
    · rfl
    · split <;> rfl
end Go.Proofs.YtdmdahafiiggiabGreatDoor.K
end
section
namespace Go.Proofs.YtdmdahafiiggiabGreatDoor.K
open Go.RowKit Go.Proofs.YtdmdahafiiggiabGreatDoorW.PrintWords Go.Proofs.YtdmdahafiiggiabGreatDoorW.PrintLast Go.Proofs.YtdmdahafiiggiabGreatDoorW.PrintMore
variable {a b : Int} {pts : List SPA} {lens : List Int}
structure High (a b : Int) (pts : List SPA) (x : Int) (hs : List Int) : Prop where
  x0 : a ≤ x
  x1 : x ≤ b
  len : hs.length = pts.length
  at_ : ∀ k : Int, 0 ≤ k → k < pts.length → (rd_T23 pts k).f0 ≤ rd hs k ∧ rd hs k ≤ (rd_T23 pts k).f1
theorem heights_from {hs : List Int} (hl : hs.length = pts.length) (hp : pts.length ≤ 100) : ∀ (d j K : Nat), j + d = hs.length → d < K → ∃ r, quinarialaw02_heights.l0 K hs (j : Int) a b pts lens = some r ∧ (r = true → ∀ k : Int, (j : Int) ≤ k → k < pts.length → (rd_T23 pts k).f0 ≤ rd hs k ∧ rd hs k ≤ (rd_T23 pts k).f1)
  | 0, j, K + 1, hj, hK => by
    rw [quinarialaw02_heights.l0, if_neg (by omega)]
    exact ⟨true, rfl, fun _ k h1 h2 => by omega⟩
  | d + 1, j, K + 1, hj, hK => by
    obtain ⟨r, hr, hrs⟩ := heights_from hl hp d (j + 1) K (by omega) (by omega)
    rw [quinarialaw02_heights.l0, if_pos (by omega), if_pos (by omega), if_pos (by omega), w1 (by omega) (by omega)]
    rw [show ((j + 1 : Nat) : Int) = (j : Int) + 1 by omega] at hr hrs
    by_cases e1 : rd hs (j : Int) < (rd_T23 pts (j : Int)).f0
    · rw [if_pos e1]; exact ⟨false, rfl, fun h => by cases h⟩
    · rw [if_neg e1]
      by_cases e2 : rd hs (j : Int) > (rd_T23 pts (j : Int)).f1
      · rw [if_pos e2]; exact ⟨false, rfl, fun h => by cases h⟩
      · rw [if_neg e2]
        refine ⟨r, hr, fun h k h1 h2 => ?_⟩
        by_cases e : k = (j : Int)
        · subst e; omega
        · exact hrs h k (by omega) h2
theorem heights_f (hp : pts.length ≤ 100) (x : Int) (hs : List Int) (K : Nat) (hK : 200 < K) : ∃ r, quinarialaw02_heights.f K a b pts lens x hs = some r ∧ (r = true → High a b pts x hs) := by
  obtain ⟨K, rfl⟩ : ∃ k, K = k + 1 := ⟨K - 1, by omega⟩
  have hno : quinarialaw02_heights.j0 (K + 1) hs true a b pts lens = some false := by rw [quinarialaw02_heights.j0, if_pos rfl]
  unfold quinarialaw02_heights.f
  by_cases e1 : x < a
  · rw [if_pos e1]; exact ⟨false, hno, fun h => by cases h⟩
  rw [if_neg e1]
  by_cases e2 : x > b
  · rw [if_pos e2]; exact ⟨false, hno, fun h => by cases h⟩
  rw [if_neg e2]
  by_cases e3 : hs.length = pts.length
  · obtain ⟨r, hr, hrs⟩ := heights_from (a := a) (b := b) (lens := lens) e3 hp hs.length 0 K (by omega) (by omega)
    have : ((hs.length : Int) != (pts.length : Int)) = false := by simp [e3]
    rw [this, quinarialaw02_heights.j0, if_neg (by simp)]
    exact ⟨r, hr, fun h => ⟨by omega, by omega, e3, fun k h0 h1 => hrs h k h0 h1⟩⟩
  · have : ((hs.length : Int) != (pts.length : Int)) = true := by simp [bne]; omega
    rw [this]
    exact ⟨false, hno, fun h => by cases h⟩
theorem mxn_le {a a' x x' y y' : Int} (h1 : a ≤ a') (h2 : x' ≤ x) (h3 : y' ≤ y) : mx 0 (a - mn x y) ≤ mx 0 (a' - mn x' y') := by unfold mx mn; split <;> split <;> split <;> split <;> omega
end Go.Proofs.YtdmdahafiiggiabGreatDoor.K
end
section
namespace Go.Proofs.YtdmdahafiiggiabGreatDoor.K
open Go.RowKit Go.Proofs.YtdmdahafiiggiabGreatDoorW.PrintWords Go.Proofs.YtdmdahafiiggiabGreatDoorW.PrintLast Go.Proofs.YtdmdahafiiggiabGreatDoorW.PrintMore
variable {a b : Int} {pts : List SPA} {lens : List Int}
theorem heights_l0 (h : SiOk a b pts lens) {x : Int} {hs : List Int} (H : High a b pts x hs) : ∀ (d j K : Nat), j + d = lens.length → d + 1 < K → quinarialaw02_ChannelHeights.l0 K x hs (pressL a b pts lens.length) (flowsN a b pts) (j : Int) a b pts lens = some true := by
  obtain ⟨a0, ab, b1, n0, n1, ln, pt, le⟩ := h
  obtain ⟨x0, x1, hl, ha⟩ := H
  intro d
  induction d with
  | zero =>
    intro j K hj hK
    obtain ⟨K, rfl⟩ : ∃ k, K = k + 1 := ⟨K - 1, by omega⟩
    have hlast := ha ((pts.length : Int) - 1) (by omega) (by omega)
    rw [quinarialaw02_ChannelHeights.l0, if_neg (by rw [pressL_length]; omega), IntWalk.wrap64_in ((hs.length : Int) - 1) (by omega), if_pos (by omega), if_pos (by omega), if_pos (by omega), show (hs.length : Int) - 1 = (pts.length : Int) - 1 by omega]
    unfold flowsN
    generalize rd_T23 pts ((pts.length : Int) - 1) = p at *
    generalize rd hs ((pts.length : Int) - 1) = q at *
    by_cases e1 : a > p.f1
    · rw [if_pos e1]
      have : decide (x > q) = true := decide_eq_true (by omega)
      simp [this, quinarialaw02_known.f]
    · rw [if_neg e1]
      by_cases e2 : b > p.f0
      · rw [if_pos e2]
        simp [e1, e2, quinarialaw02_known.f]
      · rw [if_neg e2]
        have : decide (x > q) = false := decide_eq_false (by omega)
        simp [this, quinarialaw02_known.f]
  | succ d ih =>
    intro j K hj hK
    obtain ⟨K, rfl⟩ : ∃ k, K = k + 1 := ⟨K - 1, by omega⟩
    have ih := ih (j + 1) K (by omega) (by omega)
    rw [show ((j + 1 : Nat) : Int) = (j : Int) + 1 by omega] at ih
    have p1 := pt (j : Int) (by omega) (by omega)
    have p2 := pt ((j : Int) + 1) (by omega) (by omega)
    have q1 := ha (j : Int) (by omega) (by omega)
    have q2 := ha ((j : Int) + 1) (by omega) (by omega)
    have e1 := mxn_le (a := x) (a' := b) x1 q1.1 q2.1
    have e2 := mxn_le (a := a) (a' := x) x0 q1.2 q2.2
    rw [quinarialaw02_ChannelHeights.l0, w1 (by omega) (by omega), if_pos (by rw [pressL_length]; omega), if_pos (by omega), if_pos (by omega), if_pos (by omega), if_pos (by omega), if_pos (by omega), if_pos (by omega), pressR (by omega), Option.bind_some, pressL_at a b pts (by omega) (by omega), pressR (by omega), Option.bind_some, pressR (by omega), Option.bind_some]
    have e3 : (pressN a b pts (j : Int)).f0 ≤ mx 0 (x - mn (rd hs (j : Int)) (rd hs ((j : Int) + 1))) := e2
    have e4 : mx 0 (x - mn (rd hs (j : Int)) (rd hs ((j : Int) + 1))) ≤ (pressN a b pts (j : Int)).f1 := e1
    rw [if_neg (Int.not_lt.mpr e3), if_neg (Int.not_lt.mpr e4), if_pos (show (pressN a b pts (j : Int)).f1 = mx 0 (b - mn (rd_T23 pts (j : Int)).f0 (rd_T23 pts ((j : Int) + 1)).f0) from rfl), if_pos (show (pressN a b pts (j : Int)).f0 = mx 0 (a - mn (rd_T23 pts (j : Int)).f1 (rd_T23 pts ((j : Int) + 1)).f1) from rfl)]
    exact ih
theorem ChannelHeights_pure (a b : Int) (pts : List SPA) (lens : List Int) (x : Int) (hs : List Int) : quinarialaw02_ChannelHeights.f (300 + 1 + 1) a b pts lens x hs = some true := by
  have hk : quinarialaw02_ChannelHeights.j0 (300 + 1 + 1) x hs true a b pts lens = some true := by
    rw [quinarialaw02_ChannelHeights.j0, if_pos rfl]
    rfl
  unfold quinarialaw02_ChannelHeights.f
  rw [slim_f, Option.bind_some]
  cases h1 : slimB pts lens [] with
  | false => rw [if_neg (by simp)]; exact hk
  | true =>
    have hl := slim_lens h1
    rw [if_pos rfl, siphonR_f (by omega) (by omega) _ (by omega), Option.bind_some]
    cases e : isSiphonB a b pts lens with
    | false => rw [if_neg (by simp)]; exact hk
    | true =>
      obtain ⟨r, hr, hrs⟩ := heights_f (a := a) (b := b) (pts := pts) (lens := lens) (by omega) x hs (300 + 1 + 1) (by omega)
      rw [if_pos rfl, hr, Option.bind_some]
      cases r with
      | false => exact hk
      | true =>
        have h := siphon_ok e
        have hfin := heights_l0 h (hrs rfl) lens.length 0 300 (by omega) (by omega)
        rw [Bool.not_true, quinarialaw02_ChannelHeights.j0, if_neg (by simp), pressuresC_f (by omega) (by omega) _ (by omega), Option.bind_some, flowsC_f (by omega) (by omega), Option.bind_some, e]
        simp only [if_true]
        rw [if_pos (by rw [pressL_length]), bne_self_eq_false, quinarialaw02_ChannelHeights.j1, if_neg (by simp)]
        exact hfin
theorem ChannelHeights_law (a b : Int) (A0 A1 : Option Addr) (c0 c1 : Nat) (pts : List SPA) (lens : List Int) (x : Int) (A3 : Option Addr) (c3 : Nat) (hs : List Int) (w : World) (hT : TabW w) (h0 : At' k23 w A0 pts.length c0 pts) (h1 : At' (Kd.int .i64) w A1 lens.length c1 lens) (h3 : At' (Kd.int .i64) w A3 hs.length c3 hs) :
    Calls Tryz.prog 4 #[.agg #[.int .i64 a, .int .i64 b, .slice A0 pts.length c0, .slice A1 lens.length c1], .int .i64 x, .slice A3 hs.length c3] w fun e w' => e = .returned (.bool true) ∧ Below w.heap.size w w' :=
  quinarialaw02_ChannelHeights.calls _ a b A0 c0 pts A1 c1 lens x A3 c3 hs true w h0.c h0.le h1.c h1.le h3.c h3.le hT (ChannelHeights_pure a b pts lens x hs)
end Go.Proofs.YtdmdahafiiggiabGreatDoor.K
end
