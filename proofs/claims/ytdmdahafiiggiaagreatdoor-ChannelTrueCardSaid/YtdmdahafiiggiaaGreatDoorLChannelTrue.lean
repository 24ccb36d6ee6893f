/- ChannelTrue: the walk of the law, and what it comes to. -/
import Derived.Outline
import Derived.BigQuiet
import Derived.Test.YtdmdahafiiggiaaGreatDoorB6
set_option linter.unusedVariables false
set_option linter.unusedSimpArgs false
section
namespace Go.Proofs.YtdmdahafiiggiaaGreatDoor.K
open Go.RowKit Go.Shelf Go.Proofs.YtdmdahafiiggiaaGreatDoorW.PrintWords Go.Proofs.YtdmdahafiiggiaaGreatDoorW.PrintLast Go.Proofs.YtdmdahafiiggiaaGreatDoorW.PrintMore
set_option linter.unusedVariables false
set_option linter.unusedSimpArgs false
attribute [local simp] clsA
set_option maxRecDepth 100000 in
set_option maxHeartbeats 4000000 in
theorem ChannelTrue_law (A0 A1 : Option Addr) (c0 c1 : Nat) (sp : List Int) (st : List S32) (n1 : Int) (n2 : Int) (n3 : Int) (n4 : Int) (w : World) (hT : TabW w) (h0 : At' (Kd.int .i64) w A0 sp.length c0 sp) (h1 : At' k32 w A1 st.length c1 st) :
    Calls Tryz.prog 3 #[.agg #[.slice A0 sp.length c0, .slice A1 st.length c1], .int .i64 n1, .int .i64 n2, .int .i64 n3, .int .i64 n4] w fun e w' => e = .returned (.bool true) ∧ Below w.heap.size w w' := by
  have hu25 := Tryz.underlying25
  have hu32 := Tryz.underlying32
  have hu30 := Tryz.underlying30
  have HT := Aside0.mk hT
  have HB := Aside0.mk (Below.refl w.heap.size w)
  clear hT
  have HL := Aside0.mk (LnAt.mk h0 h1)
  clear h0 h1
  go_enter Tryz.func3, Tryz.ntmps3
  go_upto_region 1 with (fail)
  obtain ⟨wm, hwn⟩ : ∃ wm, w.alloc (.cells #[.slice A0 sp.length c0, .slice A1 st.length c1] 25) = wm := ⟨_, rfl⟩
  have hb : Below w.heap.size w wm := by rw [← hwn]; exact ((Below.refl _ _).alloc (Nat.le_refl _) _)
  have XL : Aside0 (wm.heap[w.heap.size]? = some (.cells #[.slice A0 sp.length c0, .slice A1 st.length c1] 25 (0, 0))) := ⟨by rw [← hwn]; exact blk_new _ _⟩
  replace HT := Aside0.mk (HT.out.below hb)
  replace HB := Aside0.mk (below_step HB.out hb)
  replace HL := Aside0.mk (HL.out.below hb)
  try rw [hwn]
  clear hb hwn
  generalize w.heap.size = XL_b at XL ⊢
  rename World => wn
  have XLc0 := (blk_cell XL.out 0).trans rfl
  have XLc1 := (blk_cell XL.out 1).trans rfl
  cases hs : shortB sp st
  · go_wp2_with (first | (go_at_call 13; refine (short_any HL.out).mono ?_; rintro e wn ⟨rfl, hb⟩; replace HT := Aside0.mk (HT.out.below hb); replace HB := Aside0.mk (below_step HB.out hb); replace HL := Aside0.mk (HL.out.below hb); replace XL := Aside0.mk (blk_below XL.out hb); replace XLc0 := (blk_cell XL.out 0).trans rfl; replace XLc1 := (blk_cell XL.out 1).trans rfl; clear hb) | (go_at_call 14; refine (right_any hs HL.out).mono ?_; rintro e wn ⟨rfl, hb⟩; replace HT := Aside0.mk (HT.out.below hb); replace HB := Aside0.mk (below_step HB.out hb); replace HL := Aside0.mk (HL.out.below hb); replace XL := Aside0.mk (blk_below XL.out hb); replace XLc0 := (blk_cell XL.out 0).trans rfl; replace XLc1 := (blk_cell XL.out 1).trans rfl; clear hb) | (go_at_call 15; refine (number_any hs _ HL.out).mono ?_; rintro e wn ⟨rfl, hb⟩; replace HT := Aside0.mk (HT.out.below hb); replace HB := Aside0.mk (below_step HB.out hb); replace HL := Aside0.mk (HL.out.below hb); replace XL := Aside0.mk (blk_below XL.out hb); replace XLc0 := (blk_cell XL.out 0).trans rfl; replace XLc1 := (blk_cell XL.out 1).trans rfl; clear hb) | (go_at_call 16; refine (age_any _ _).mono ?_; rintro e wn ⟨rfl, hb⟩; replace HT := Aside0.mk (HT.out.below hb); replace HB := Aside0.mk (below_step HB.out hb); replace HL := Aside0.mk (HL.out.below hb); replace XL := Aside0.mk (blk_below XL.out hb); replace XLc0 := (blk_cell XL.out 0).trans rfl; replace XLc1 := (blk_cell XL.out 1).trans rfl; try (obtain ⟨y0, y1, y2, y3, y4⟩ := st_cells HL.out hn); clear hb) | (go_at_call 17; refine (known_any _ HT.out).mono ?_; rintro e wn ⟨rfl, hb⟩; replace HT := Aside0.mk (HT.out.below hb); replace HB := Aside0.mk (below_step HB.out hb); replace HL := Aside0.mk (HL.out.below hb); replace XL := Aside0.mk (blk_below XL.out hb); replace XLc0 := (blk_cell XL.out 0).trans rfl; replace XLc1 := (blk_cell XL.out 1).trans rfl; clear hb))
    go_ret
    exact ⟨rfl, HB.out⟩
  cases hr : isLineB sp st
  · go_wp2_with (first | (go_at_call 13; refine (short_any HL.out).mono ?_; rintro e wn ⟨rfl, hb⟩; replace HT := Aside0.mk (HT.out.below hb); replace HB := Aside0.mk (below_step HB.out hb); replace HL := Aside0.mk (HL.out.below hb); replace XL := Aside0.mk (blk_below XL.out hb); replace XLc0 := (blk_cell XL.out 0).trans rfl; replace XLc1 := (blk_cell XL.out 1).trans rfl; clear hb) | (go_at_call 14; refine (right_any hs HL.out).mono ?_; rintro e wn ⟨rfl, hb⟩; replace HT := Aside0.mk (HT.out.below hb); replace HB := Aside0.mk (below_step HB.out hb); replace HL := Aside0.mk (HL.out.below hb); replace XL := Aside0.mk (blk_below XL.out hb); replace XLc0 := (blk_cell XL.out 0).trans rfl; replace XLc1 := (blk_cell XL.out 1).trans rfl; clear hb) | (go_at_call 15; refine (number_any hs _ HL.out).mono ?_; rintro e wn ⟨rfl, hb⟩; replace HT := Aside0.mk (HT.out.below hb); replace HB := Aside0.mk (below_step HB.out hb); replace HL := Aside0.mk (HL.out.below hb); replace XL := Aside0.mk (blk_below XL.out hb); replace XLc0 := (blk_cell XL.out 0).trans rfl; replace XLc1 := (blk_cell XL.out 1).trans rfl; clear hb) | (go_at_call 16; refine (age_any _ _).mono ?_; rintro e wn ⟨rfl, hb⟩; replace HT := Aside0.mk (HT.out.below hb); replace HB := Aside0.mk (below_step HB.out hb); replace HL := Aside0.mk (HL.out.below hb); replace XL := Aside0.mk (blk_below XL.out hb); replace XLc0 := (blk_cell XL.out 0).trans rfl; replace XLc1 := (blk_cell XL.out 1).trans rfl; try (obtain ⟨y0, y1, y2, y3, y4⟩ := st_cells HL.out hn); clear hb) | (go_at_call 17; refine (known_any _ HT.out).mono ?_; rintro e wn ⟨rfl, hb⟩; replace HT := Aside0.mk (HT.out.below hb); replace HB := Aside0.mk (below_step HB.out hb); replace HL := Aside0.mk (HL.out.below hb); replace XL := Aside0.mk (blk_below XL.out hb); replace XLc0 := (blk_cell XL.out 0).trans rfl; replace XLc1 := (blk_cell XL.out 1).trans rfl; clear hb))
    go_ret
    exact ⟨rfl, HB.out⟩
  cases hn : numB st n1
  · go_wp2_with (first | (go_at_call 13; refine (short_any HL.out).mono ?_; rintro e wn ⟨rfl, hb⟩; replace HT := Aside0.mk (HT.out.below hb); replace HB := Aside0.mk (below_step HB.out hb); replace HL := Aside0.mk (HL.out.below hb); replace XL := Aside0.mk (blk_below XL.out hb); replace XLc0 := (blk_cell XL.out 0).trans rfl; replace XLc1 := (blk_cell XL.out 1).trans rfl; clear hb) | (go_at_call 14; refine (right_any hs HL.out).mono ?_; rintro e wn ⟨rfl, hb⟩; replace HT := Aside0.mk (HT.out.below hb); replace HB := Aside0.mk (below_step HB.out hb); replace HL := Aside0.mk (HL.out.below hb); replace XL := Aside0.mk (blk_below XL.out hb); replace XLc0 := (blk_cell XL.out 0).trans rfl; replace XLc1 := (blk_cell XL.out 1).trans rfl; clear hb) | (go_at_call 15; refine (number_any hs _ HL.out).mono ?_; rintro e wn ⟨rfl, hb⟩; replace HT := Aside0.mk (HT.out.below hb); replace HB := Aside0.mk (below_step HB.out hb); replace HL := Aside0.mk (HL.out.below hb); replace XL := Aside0.mk (blk_below XL.out hb); replace XLc0 := (blk_cell XL.out 0).trans rfl; replace XLc1 := (blk_cell XL.out 1).trans rfl; clear hb) | (go_at_call 16; refine (age_any _ _).mono ?_; rintro e wn ⟨rfl, hb⟩; replace HT := Aside0.mk (HT.out.below hb); replace HB := Aside0.mk (below_step HB.out hb); replace HL := Aside0.mk (HL.out.below hb); replace XL := Aside0.mk (blk_below XL.out hb); replace XLc0 := (blk_cell XL.out 0).trans rfl; replace XLc1 := (blk_cell XL.out 1).trans rfl; try (obtain ⟨y0, y1, y2, y3, y4⟩ := st_cells HL.out hn); clear hb) | (go_at_call 17; refine (known_any _ HT.out).mono ?_; rintro e wn ⟨rfl, hb⟩; replace HT := Aside0.mk (HT.out.below hb); replace HB := Aside0.mk (below_step HB.out hb); replace HL := Aside0.mk (HL.out.below hb); replace XL := Aside0.mk (blk_below XL.out hb); replace XLc0 := (blk_cell XL.out 0).trans rfl; replace XLc1 := (blk_cell XL.out 1).trans rfl; clear hb))
    go_ret
    exact ⟨rfl, HB.out⟩
  obtain ⟨ad, rfl⟩ := st_some HL.out hn
  obtain ⟨hn0, hn1, hn2⟩ := numB_dec hn
  cases ha : inB n2 0 200
  · go_wp2_with (first | (go_at_call 13; refine (short_any HL.out).mono ?_; rintro e wn ⟨rfl, hb⟩; replace HT := Aside0.mk (HT.out.below hb); replace HB := Aside0.mk (below_step HB.out hb); replace HL := Aside0.mk (HL.out.below hb); replace XL := Aside0.mk (blk_below XL.out hb); replace XLc0 := (blk_cell XL.out 0).trans rfl; replace XLc1 := (blk_cell XL.out 1).trans rfl; clear hb) | (go_at_call 14; refine (right_any hs HL.out).mono ?_; rintro e wn ⟨rfl, hb⟩; replace HT := Aside0.mk (HT.out.below hb); replace HB := Aside0.mk (below_step HB.out hb); replace HL := Aside0.mk (HL.out.below hb); replace XL := Aside0.mk (blk_below XL.out hb); replace XLc0 := (blk_cell XL.out 0).trans rfl; replace XLc1 := (blk_cell XL.out 1).trans rfl; clear hb) | (go_at_call 15; refine (number_any hs _ HL.out).mono ?_; rintro e wn ⟨rfl, hb⟩; replace HT := Aside0.mk (HT.out.below hb); replace HB := Aside0.mk (below_step HB.out hb); replace HL := Aside0.mk (HL.out.below hb); replace XL := Aside0.mk (blk_below XL.out hb); replace XLc0 := (blk_cell XL.out 0).trans rfl; replace XLc1 := (blk_cell XL.out 1).trans rfl; clear hb) | (go_at_call 16; refine (age_any _ _).mono ?_; rintro e wn ⟨rfl, hb⟩; replace HT := Aside0.mk (HT.out.below hb); replace HB := Aside0.mk (below_step HB.out hb); replace HL := Aside0.mk (HL.out.below hb); replace XL := Aside0.mk (blk_below XL.out hb); replace XLc0 := (blk_cell XL.out 0).trans rfl; replace XLc1 := (blk_cell XL.out 1).trans rfl; try (obtain ⟨y0, y1, y2, y3, y4⟩ := st_cells HL.out hn); clear hb) | (go_at_call 17; refine (known_any _ HT.out).mono ?_; rintro e wn ⟨rfl, hb⟩; replace HT := Aside0.mk (HT.out.below hb); replace HB := Aside0.mk (below_step HB.out hb); replace HL := Aside0.mk (HL.out.below hb); replace XL := Aside0.mk (blk_below XL.out hb); replace XLc0 := (blk_cell XL.out 0).trans rfl; replace XLc1 := (blk_cell XL.out 1).trans rfl; clear hb))
    go_ret
    exact ⟨rfl, HB.out⟩
  cases hl : inB n4 0 200
  · go_wp2_with (first | (go_at_call 13; refine (short_any HL.out).mono ?_; rintro e wn ⟨rfl, hb⟩; replace HT := Aside0.mk (HT.out.below hb); replace HB := Aside0.mk (below_step HB.out hb); replace HL := Aside0.mk (HL.out.below hb); replace XL := Aside0.mk (blk_below XL.out hb); replace XLc0 := (blk_cell XL.out 0).trans rfl; replace XLc1 := (blk_cell XL.out 1).trans rfl; clear hb) | (go_at_call 14; refine (right_any hs HL.out).mono ?_; rintro e wn ⟨rfl, hb⟩; replace HT := Aside0.mk (HT.out.below hb); replace HB := Aside0.mk (below_step HB.out hb); replace HL := Aside0.mk (HL.out.below hb); replace XL := Aside0.mk (blk_below XL.out hb); replace XLc0 := (blk_cell XL.out 0).trans rfl; replace XLc1 := (blk_cell XL.out 1).trans rfl; clear hb) | (go_at_call 15; refine (number_any hs _ HL.out).mono ?_; rintro e wn ⟨rfl, hb⟩; replace HT := Aside0.mk (HT.out.below hb); replace HB := Aside0.mk (below_step HB.out hb); replace HL := Aside0.mk (HL.out.below hb); replace XL := Aside0.mk (blk_below XL.out hb); replace XLc0 := (blk_cell XL.out 0).trans rfl; replace XLc1 := (blk_cell XL.out 1).trans rfl; clear hb) | (go_at_call 16; refine (age_any _ _).mono ?_; rintro e wn ⟨rfl, hb⟩; replace HT := Aside0.mk (HT.out.below hb); replace HB := Aside0.mk (below_step HB.out hb); replace HL := Aside0.mk (HL.out.below hb); replace XL := Aside0.mk (blk_below XL.out hb); replace XLc0 := (blk_cell XL.out 0).trans rfl; replace XLc1 := (blk_cell XL.out 1).trans rfl; try (obtain ⟨y0, y1, y2, y3, y4⟩ := st_cells HL.out hn); clear hb) | (go_at_call 17; refine (known_any _ HT.out).mono ?_; rintro e wn ⟨rfl, hb⟩; replace HT := Aside0.mk (HT.out.below hb); replace HB := Aside0.mk (below_step HB.out hb); replace HL := Aside0.mk (HL.out.below hb); replace XL := Aside0.mk (blk_below XL.out hb); replace XLc0 := (blk_cell XL.out 0).trans rfl; replace XLc1 := (blk_cell XL.out 1).trans rfl; clear hb))
    go_ret
    exact ⟨rfl, HB.out⟩
  cases h42 : decide (n4 < n2)
  rotate_left
  · go_wp2_with (first | (go_at_call 13; refine (short_any HL.out).mono ?_; rintro e wn ⟨rfl, hb⟩; replace HT := Aside0.mk (HT.out.below hb); replace HB := Aside0.mk (below_step HB.out hb); replace HL := Aside0.mk (HL.out.below hb); replace XL := Aside0.mk (blk_below XL.out hb); replace XLc0 := (blk_cell XL.out 0).trans rfl; replace XLc1 := (blk_cell XL.out 1).trans rfl; clear hb) | (go_at_call 14; refine (right_any hs HL.out).mono ?_; rintro e wn ⟨rfl, hb⟩; replace HT := Aside0.mk (HT.out.below hb); replace HB := Aside0.mk (below_step HB.out hb); replace HL := Aside0.mk (HL.out.below hb); replace XL := Aside0.mk (blk_below XL.out hb); replace XLc0 := (blk_cell XL.out 0).trans rfl; replace XLc1 := (blk_cell XL.out 1).trans rfl; clear hb) | (go_at_call 15; refine (number_any hs _ HL.out).mono ?_; rintro e wn ⟨rfl, hb⟩; replace HT := Aside0.mk (HT.out.below hb); replace HB := Aside0.mk (below_step HB.out hb); replace HL := Aside0.mk (HL.out.below hb); replace XL := Aside0.mk (blk_below XL.out hb); replace XLc0 := (blk_cell XL.out 0).trans rfl; replace XLc1 := (blk_cell XL.out 1).trans rfl; clear hb) | (go_at_call 16; refine (age_any _ _).mono ?_; rintro e wn ⟨rfl, hb⟩; replace HT := Aside0.mk (HT.out.below hb); replace HB := Aside0.mk (below_step HB.out hb); replace HL := Aside0.mk (HL.out.below hb); replace XL := Aside0.mk (blk_below XL.out hb); replace XLc0 := (blk_cell XL.out 0).trans rfl; replace XLc1 := (blk_cell XL.out 1).trans rfl; try (obtain ⟨y0, y1, y2, y3, y4⟩ := st_cells HL.out hn); clear hb) | (go_at_call 17; refine (known_any _ HT.out).mono ?_; rintro e wn ⟨rfl, hb⟩; replace HT := Aside0.mk (HT.out.below hb); replace HB := Aside0.mk (below_step HB.out hb); replace HL := Aside0.mk (HL.out.below hb); replace XL := Aside0.mk (blk_below XL.out hb); replace XLc0 := (blk_cell XL.out 0).trans rfl; replace XLc1 := (blk_cell XL.out 1).trans rfl; clear hb))
    go_ret
    exact ⟨rfl, HB.out⟩
  cases hlo : decide (n3 < (rd_T32 st n1).f3.f0)
  rotate_left
  · go_wp2_with (first | (go_at_call 13; refine (short_any HL.out).mono ?_; rintro e wn ⟨rfl, hb⟩; replace HT := Aside0.mk (HT.out.below hb); replace HB := Aside0.mk (below_step HB.out hb); replace HL := Aside0.mk (HL.out.below hb); replace XL := Aside0.mk (blk_below XL.out hb); replace XLc0 := (blk_cell XL.out 0).trans rfl; replace XLc1 := (blk_cell XL.out 1).trans rfl; clear hb) | (go_at_call 14; refine (right_any hs HL.out).mono ?_; rintro e wn ⟨rfl, hb⟩; replace HT := Aside0.mk (HT.out.below hb); replace HB := Aside0.mk (below_step HB.out hb); replace HL := Aside0.mk (HL.out.below hb); replace XL := Aside0.mk (blk_below XL.out hb); replace XLc0 := (blk_cell XL.out 0).trans rfl; replace XLc1 := (blk_cell XL.out 1).trans rfl; clear hb) | (go_at_call 15; refine (number_any hs _ HL.out).mono ?_; rintro e wn ⟨rfl, hb⟩; replace HT := Aside0.mk (HT.out.below hb); replace HB := Aside0.mk (below_step HB.out hb); replace HL := Aside0.mk (HL.out.below hb); replace XL := Aside0.mk (blk_below XL.out hb); replace XLc0 := (blk_cell XL.out 0).trans rfl; replace XLc1 := (blk_cell XL.out 1).trans rfl; clear hb) | (go_at_call 16; refine (age_any _ _).mono ?_; rintro e wn ⟨rfl, hb⟩; replace HT := Aside0.mk (HT.out.below hb); replace HB := Aside0.mk (below_step HB.out hb); replace HL := Aside0.mk (HL.out.below hb); replace XL := Aside0.mk (blk_below XL.out hb); replace XLc0 := (blk_cell XL.out 0).trans rfl; replace XLc1 := (blk_cell XL.out 1).trans rfl; try (obtain ⟨y0, y1, y2, y3, y4⟩ := st_cells HL.out hn); clear hb) | (go_at_call 17; refine (known_any _ HT.out).mono ?_; rintro e wn ⟨rfl, hb⟩; replace HT := Aside0.mk (HT.out.below hb); replace HB := Aside0.mk (below_step HB.out hb); replace HL := Aside0.mk (HL.out.below hb); replace XL := Aside0.mk (blk_below XL.out hb); replace XLc0 := (blk_cell XL.out 0).trans rfl; replace XLc1 := (blk_cell XL.out 1).trans rfl; clear hb))
    go_ret
    exact ⟨rfl, HB.out⟩
  cases hhi : decide ((rd_T32 st n1).f3.f1 < n3)
  rotate_left
  · go_wp2_with (first | (go_at_call 13; refine (short_any HL.out).mono ?_; rintro e wn ⟨rfl, hb⟩; replace HT := Aside0.mk (HT.out.below hb); replace HB := Aside0.mk (below_step HB.out hb); replace HL := Aside0.mk (HL.out.below hb); replace XL := Aside0.mk (blk_below XL.out hb); replace XLc0 := (blk_cell XL.out 0).trans rfl; replace XLc1 := (blk_cell XL.out 1).trans rfl; clear hb) | (go_at_call 14; refine (right_any hs HL.out).mono ?_; rintro e wn ⟨rfl, hb⟩; replace HT := Aside0.mk (HT.out.below hb); replace HB := Aside0.mk (below_step HB.out hb); replace HL := Aside0.mk (HL.out.below hb); replace XL := Aside0.mk (blk_below XL.out hb); replace XLc0 := (blk_cell XL.out 0).trans rfl; replace XLc1 := (blk_cell XL.out 1).trans rfl; clear hb) | (go_at_call 15; refine (number_any hs _ HL.out).mono ?_; rintro e wn ⟨rfl, hb⟩; replace HT := Aside0.mk (HT.out.below hb); replace HB := Aside0.mk (below_step HB.out hb); replace HL := Aside0.mk (HL.out.below hb); replace XL := Aside0.mk (blk_below XL.out hb); replace XLc0 := (blk_cell XL.out 0).trans rfl; replace XLc1 := (blk_cell XL.out 1).trans rfl; clear hb) | (go_at_call 16; refine (age_any _ _).mono ?_; rintro e wn ⟨rfl, hb⟩; replace HT := Aside0.mk (HT.out.below hb); replace HB := Aside0.mk (below_step HB.out hb); replace HL := Aside0.mk (HL.out.below hb); replace XL := Aside0.mk (blk_below XL.out hb); replace XLc0 := (blk_cell XL.out 0).trans rfl; replace XLc1 := (blk_cell XL.out 1).trans rfl; try (obtain ⟨y0, y1, y2, y3, y4⟩ := st_cells HL.out hn); clear hb) | (go_at_call 17; refine (known_any _ HT.out).mono ?_; rintro e wn ⟨rfl, hb⟩; replace HT := Aside0.mk (HT.out.below hb); replace HB := Aside0.mk (below_step HB.out hb); replace HL := Aside0.mk (HL.out.below hb); replace XL := Aside0.mk (blk_below XL.out hb); replace XLc0 := (blk_cell XL.out 0).trans rfl; replace XLc1 := (blk_cell XL.out 1).trans rfl; clear hb))
    go_ret
    exact ⟨rfl, HB.out⟩
  have hc : ∀ a, inB a 0 200 = true → cupsN sp st n1 a (rd_T32 st n1).f3.f1 = leastN sp st n1 a ∧ True := fun _ _ => ⟨rfl, trivial⟩
  clear hc
  obtain ⟨q1, q2, q3, q4, r0, r1, r2, r3, r4, r5⟩ := true_facts hr hn ha hl h42 hlo hhi
  replace q1 := Aside0.mk q1
  replace q2 := Aside0.mk q2
  replace q3 := Aside0.mk q3
  replace q4 := Aside0.mk q4
  go_upto_region 4 with (first | (go_at_call 13; refine (short_any HL.out).mono ?_; rintro e wn ⟨rfl, hb⟩; replace HT := Aside0.mk (HT.out.below hb); replace HB := Aside0.mk (below_step HB.out hb); replace HL := Aside0.mk (HL.out.below hb); replace XL := Aside0.mk (blk_below XL.out hb); replace XLc0 := (blk_cell XL.out 0).trans rfl; replace XLc1 := (blk_cell XL.out 1).trans rfl; clear hb) | (go_at_call 14; refine (right_any hs HL.out).mono ?_; rintro e wn ⟨rfl, hb⟩; replace HT := Aside0.mk (HT.out.below hb); replace HB := Aside0.mk (below_step HB.out hb); replace HL := Aside0.mk (HL.out.below hb); replace XL := Aside0.mk (blk_below XL.out hb); replace XLc0 := (blk_cell XL.out 0).trans rfl; replace XLc1 := (blk_cell XL.out 1).trans rfl; clear hb) | (go_at_call 15; refine (number_any hs _ HL.out).mono ?_; rintro e wn ⟨rfl, hb⟩; replace HT := Aside0.mk (HT.out.below hb); replace HB := Aside0.mk (below_step HB.out hb); replace HL := Aside0.mk (HL.out.below hb); replace XL := Aside0.mk (blk_below XL.out hb); replace XLc0 := (blk_cell XL.out 0).trans rfl; replace XLc1 := (blk_cell XL.out 1).trans rfl; clear hb) | (go_at_call 16; refine (age_any _ _).mono ?_; rintro e wn ⟨rfl, hb⟩; replace HT := Aside0.mk (HT.out.below hb); replace HB := Aside0.mk (below_step HB.out hb); replace HL := Aside0.mk (HL.out.below hb); replace XL := Aside0.mk (blk_below XL.out hb); replace XLc0 := (blk_cell XL.out 0).trans rfl; replace XLc1 := (blk_cell XL.out 1).trans rfl; try (obtain ⟨y0, y1, y2, y3, y4⟩ := st_cells HL.out hn); clear hb) | (go_at_call 18; refine (carries_cups HL.out hr hn ha).mono ?_; rintro e wn ⟨rfl, hb⟩; replace HT := Aside0.mk (HT.out.below hb); replace HB := Aside0.mk (below_step HB.out hb); replace HL := Aside0.mk (HL.out.below hb); replace XL := Aside0.mk (blk_below XL.out hb); replace XLc0 := (blk_cell XL.out 0).trans rfl; replace XLc1 := (blk_cell XL.out 1).trans rfl; clear hb))
  obtain ⟨wm, hwn⟩ : ∃ wm, wn.alloc (.cells #[.int .i64 (cupsN sp st n1 n2 (rd_T32 st n1).f3.f1), .int .i64 (cupsN sp st n1 n2 (rd_T32 st n1).f3.f0)] 30) = wm := ⟨_, rfl⟩
  have hb : Below wn.heap.size wn wm := by rw [← hwn]; exact ((Below.refl _ _).alloc (Nat.le_refl _) _)
  have XS : Aside0 (wm.heap[wn.heap.size]? = some (.cells #[.int .i64 (cupsN sp st n1 n2 (rd_T32 st n1).f3.f1), .int .i64 (cupsN sp st n1 n2 (rd_T32 st n1).f3.f0)] 30 (0, 0))) := ⟨by rw [← hwn]; exact blk_new _ _⟩
  replace HT := Aside0.mk (HT.out.below hb)
  replace HB := Aside0.mk (below_step HB.out hb)
  replace HL := Aside0.mk (HL.out.below hb)
  replace XL := Aside0.mk (blk_below XL.out hb)
  replace XLc0 := (blk_cell XL.out 0).trans rfl
  replace XLc1 := (blk_cell XL.out 1).trans rfl
  try rw [hwn]
  clear hb hwn
  generalize wn.heap.size = XS_b at XS ⊢
  rename World => wn
  have XSc0 := (blk_cell XS.out 0).trans rfl
  have XSc1 := (blk_cell XS.out 1).trans rfl
  go_upto_region 5 with (first | (go_at_call 18; refine (carries_cups HL.out hr hn hl).mono ?_; rintro e wn ⟨rfl, hb⟩; replace HT := Aside0.mk (HT.out.below hb); replace HB := Aside0.mk (below_step HB.out hb); replace HL := Aside0.mk (HL.out.below hb); replace XL := Aside0.mk (blk_below XL.out hb); replace XLc0 := (blk_cell XL.out 0).trans rfl; replace XLc1 := (blk_cell XL.out 1).trans rfl; replace XS := Aside0.mk (blk_below XS.out hb); replace XSc0 := (blk_cell XS.out 0).trans rfl; replace XSc1 := (blk_cell XS.out 1).trans rfl; clear hb))
  obtain ⟨wm, hwn⟩ : ∃ wm, wn.alloc (.cells #[.int .i64 (cupsN sp st n1 n4 (rd_T32 st n1).f3.f1), .int .i64 (cupsN sp st n1 n4 (rd_T32 st n1).f3.f0)] 30) = wm := ⟨_, rfl⟩
  have hb : Below wn.heap.size wn wm := by rw [← hwn]; exact ((Below.refl _ _).alloc (Nat.le_refl _) _)
  have XT : Aside0 (wm.heap[wn.heap.size]? = some (.cells #[.int .i64 (cupsN sp st n1 n4 (rd_T32 st n1).f3.f1), .int .i64 (cupsN sp st n1 n4 (rd_T32 st n1).f3.f0)] 30 (0, 0))) := ⟨by rw [← hwn]; exact blk_new _ _⟩
  replace HT := Aside0.mk (HT.out.below hb)
  replace HB := Aside0.mk (below_step HB.out hb)
  replace HL := Aside0.mk (HL.out.below hb)
  replace XL := Aside0.mk (blk_below XL.out hb)
  replace XLc0 := (blk_cell XL.out 0).trans rfl
  replace XLc1 := (blk_cell XL.out 1).trans rfl
  replace XS := Aside0.mk (blk_below XS.out hb)
  replace XSc0 := (blk_cell XS.out 0).trans rfl
  replace XSc1 := (blk_cell XS.out 1).trans rfl
  try rw [hwn]
  clear hb hwn
  generalize wn.heap.size = XT_b at XT ⊢
  rename World => wn
  have XTc0 := (blk_cell XT.out 0).trans rfl
  have XTc1 := (blk_cell XT.out 1).trans rfl
  obtain ⟨y0, y1, y2, y3, y4⟩ := st_cells HL.out hn
  go_upto_region 6 with (first | fail)
  clear y0 y1 y2 y3 y4
  obtain ⟨wm, hwn⟩ : ∃ wm, wn.alloc (.cells #[.int .i64 (rd_T32 st n1).f3.f0, .int .i64 (rd_T32 st n1).f3.f1] 30) = wm := ⟨_, rfl⟩
  have hb : Below wn.heap.size wn wm := by rw [← hwn]; exact ((Below.refl _ _).alloc (Nat.le_refl _) _)
  have XM : Aside0 (wm.heap[wn.heap.size]? = some (.cells #[.int .i64 (rd_T32 st n1).f3.f0, .int .i64 (rd_T32 st n1).f3.f1] 30 (0, 0))) := ⟨by rw [← hwn]; exact blk_new _ _⟩
  replace HT := Aside0.mk (HT.out.below hb)
  replace HB := Aside0.mk (below_step HB.out hb)
  replace HL := Aside0.mk (HL.out.below hb)
  replace XL := Aside0.mk (blk_below XL.out hb)
  replace XLc0 := (blk_cell XL.out 0).trans rfl
  replace XLc1 := (blk_cell XL.out 1).trans rfl
  replace XS := Aside0.mk (blk_below XS.out hb)
  replace XSc0 := (blk_cell XS.out 0).trans rfl
  replace XSc1 := (blk_cell XS.out 1).trans rfl
  replace XT := Aside0.mk (blk_below XT.out hb)
  replace XTc0 := (blk_cell XT.out 0).trans rfl
  replace XTc1 := (blk_cell XT.out 1).trans rfl
  try rw [hwn]
  clear hb hwn
  generalize wn.heap.size = XM_b at XM ⊢
  rename World => wn
  have XMc0 := (blk_cell XM.out 0).trans rfl
  have XMc1 := (blk_cell XM.out 1).trans rfl
  go_upto_region 7 with (first | (go_at_call 19; refine (cups_any HL.out hr hn ha r0 r1).mono ?_; rintro e wn ⟨rfl, hb⟩; replace HT := Aside0.mk (HT.out.below hb); replace HB := Aside0.mk (below_step HB.out hb); replace HL := Aside0.mk (HL.out.below hb); replace XL := Aside0.mk (blk_below XL.out hb); replace XLc0 := (blk_cell XL.out 0).trans rfl; replace XLc1 := (blk_cell XL.out 1).trans rfl; replace XS := Aside0.mk (blk_below XS.out hb); replace XSc0 := (blk_cell XS.out 0).trans rfl; replace XSc1 := (blk_cell XS.out 1).trans rfl; replace XT := Aside0.mk (blk_below XT.out hb); replace XTc0 := (blk_cell XT.out 0).trans rfl; replace XTc1 := (blk_cell XT.out 1).trans rfl; replace XM := Aside0.mk (blk_below XM.out hb); replace XMc0 := (blk_cell XM.out 0).trans rfl; replace XMc1 := (blk_cell XM.out 1).trans rfl; clear hb))
  replace q1 := q1.out
  replace q2 := q2.out
  replace XLc0 := fun X : After wn => X.cell XLc0
  replace XLc1 := fun X : After wn => X.cell XLc1
  replace XSc0 := fun X : After wn => X.cell XSc0
  replace XSc1 := fun X : After wn => X.cell XSc1
  replace XTc0 := fun X : After wn => X.cell XTc0
  replace XTc1 := fun X : After wn => X.cell XTc1
  replace XMc0 := fun X : After wn => X.cell XMc0
  replace XMc1 := fun X : After wn => X.cell XMc1
  have hcu : Aside0 (∀ X : After wn, ∀ r, 0 ≤ r → r ≤ 100 → Calls Tryz.prog 19 #[.agg #[.slice A0 sp.length c0, .slice (some ad) st.length c1], .int .i64 n1, .int .i64 n2, .int .i64 r] X.W fun e w' => e = .returned (.int .i64 (cupsN sp st n1 n2 r)) ∧ Below X.W.heap.size X.W w') := ⟨fun X r a b => cups_any (HL.out.below X.hb) hr hn ha a b⟩
  refine wp_region_after (by kernel_rfl) (by kernel_rfl) ?_
  repeat (go_big_quiet_step (first | (go_at_call 19; exact Calls.after (hcu.out _ _ (by assumption) (by assumption)))))
  refine wpQuiet_nil ?_
  intro X
  clear XLc0
  clear XLc1
  clear XSc0
  clear XSc1
  clear XTc0
  clear XTc1
  clear XMc0
  clear XMc1
  replace HT := Aside0.mk (HT.out.below X.hb)
  replace HB := Aside0.mk (below_step HB.out X.hb)
  replace HL := Aside0.mk (HL.out.below X.hb)
  replace XL := Aside0.mk (blk_below XL.out X.hb)
  replace XS := Aside0.mk (blk_below XS.out X.hb)
  replace XT := Aside0.mk (blk_below XT.out X.hb)
  replace XM := Aside0.mk (blk_below XM.out X.hb)
  obtain ⟨wn, hwn⟩ : ∃ wn, wn = X.W := ⟨_, rfl⟩
  rw [← hwn] at HT HB HL XL XS XT XM ⊢
  clear hcu
  clear hwn X
  have XLc0 := (blk_cell XL.out 0).trans rfl
  have XLc1 := (blk_cell XL.out 1).trans rfl
  have XSc0 := (blk_cell XS.out 0).trans rfl
  have XSc1 := (blk_cell XS.out 1).trans rfl
  have XTc0 := (blk_cell XT.out 0).trans rfl
  have XTc1 := (blk_cell XT.out 1).trans rfl
  have XMc0 := (blk_cell XM.out 0).trans rfl
  have XMc1 := (blk_cell XM.out 1).trans rfl
  clear q1 q2
  replace q3 := q3.out
  replace q4 := q4.out
  go_wp2_with (first | (go_at_call 17; refine (known_any _ HT.out).mono ?_; rintro e wn ⟨rfl, hb⟩; replace HT := Aside0.mk (HT.out.below hb); replace HB := Aside0.mk (below_step HB.out hb); replace HL := Aside0.mk (HL.out.below hb); replace XL := Aside0.mk (blk_below XL.out hb); replace XLc0 := (blk_cell XL.out 0).trans rfl; replace XLc1 := (blk_cell XL.out 1).trans rfl; clear hb))
  go_ret
  exact ⟨rfl, HB.out⟩
end Go.Proofs.YtdmdahafiiggiaaGreatDoor.K
end
