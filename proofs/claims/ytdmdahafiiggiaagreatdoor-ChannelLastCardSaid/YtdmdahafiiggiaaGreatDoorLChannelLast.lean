/- ChannelLast: the walk of the law, and what it comes to. -/
import Derived.Outline
import Derived.BigQuiet
import Derived.Test.YtdmdahafiiggiaaGreatDoorB6
set_option linter.unusedVariables false
set_option linter.unusedSimpArgs false
section
namespace Go.Proofs.YtdmdahafiiggiaaGreatDoor.K
open Go.RowKit Go.Proofs.YtdmdahafiiggiaaGreatDoorW.PrintWords Go.Proofs.YtdmdahafiiggiaaGreatDoorW.PrintLast Go.Proofs.YtdmdahafiiggiaaGreatDoorW.PrintMore
attribute [local go_sem] max2_int min2_int max_two min_two max_three min_three max_four min_four
set_option linter.unusedVariables false
set_option linter.unusedSimpArgs false
def quinariaref02_Need.f (a0 : Int) : Option (Bool) := (quinariaref02_in.f a0 1 10000000).bind fun t714 => (some t714)
set_option maxHeartbeats 8000000 in
set_option maxRecDepth 100000 in
theorem quinariaref02_Need.calls (a0 : Int) (r : Bool) (w : World) (h : quinariaref02_Need.f a0 = some r) :
    Calls Tryz.prog 29 #[.int .i64 a0] w fun e w' => e = .returned (.bool r) ∧ Drawn0 w w' := by
  have H : ((quinariaref02_in.f a0 1 10000000).bind fun t714 => (some t714)) = some r := h
  clear h
  replace H := Option.bind_eq_some_iff.mp H
  obtain ⟨t714, A20, H⟩ := H
  replace H : (some t714) = some r := H
  have A2 := Aside0.mk A20
  clear A20
  obtain rfl := Option.some.inj H
  go_enter Tryz.func29, Tryz.ntmps29
  go_wp2_with (first | ((with_reducible refine gate_callee (f := 42) rfl ?_); refine goesL_ (some 4) rfl rfl Tryz.func42 (by kernel_rfl) rfl #[.int .i64 a0, .int .i64 1, .int .i64 10000000] rfl (by (try simp only [List.map_toArray, List.map_cons, List.map_nil]); first | done | rfl | (simp only [List.length_drop, List.length_take]; rfl)) ?_; (with_reducible refine (quinariaref02_in.calls a0 1 10000000 t714 _ A2.out).mono ?_); rintro e w' ⟨rfl, ⟨nd, rfl⟩⟩; refine ⟨_, rfl, ?_⟩))
  go_ret
  exact ⟨by first | rfl | (simp; done) | (simp [*]; done), by repeat (first | exact Drawn0.refl _ | apply Drawn0.step)⟩
end Go.Proofs.YtdmdahafiiggiaaGreatDoor.K
end
section
namespace Go.Proofs.YtdmdahafiiggiaaGreatDoor.K
open Go.RowKit Go.Proofs.YtdmdahafiiggiaaGreatDoorW.PrintWords Go.Proofs.YtdmdahafiiggiaaGreatDoorW.PrintLast Go.Proofs.YtdmdahafiiggiaaGreatDoorW.PrintMore
set_option linter.unusedVariables false
set_option linter.unusedSimpArgs false
variable {A0 A1 : Option Addr} {c0 c1 : Nat} {sp : List Int} {st : List S32} {w : World}
theorem need_any (n : Int) (w : World) : Calls Tryz.prog 29 #[.int .i64 n] w fun e w' => e = .returned (.bool (inB n 1 10000000)) ∧ Below w.heap.size w w' :=
  (quinariaref02_Need.calls n _ w (by unfold quinariaref02_Need.f; rw [inR_f, Option.bind_some])).mono fun e w' ⟨he, hd⟩ => ⟨he, hd.below⟩
theorem lat_spec {need n : Int} (hm : ∀ a b : Int, 0 ≤ a → a ≤ b → leastN sp st n b ≤ leastN sp st n a) : ∀ (k : Nat) (a : Int), 0 ≤ a →
    (∀ b, a ≤ b → b ≤ latFrom sp st n need k a → need ≤ leastN sp st n b) ∧ (latFrom sp st n need k a < a - 1 + k → leastN sp st n (latFrom sp st n need k a + 1) < need)
  | 0, a, ha => ⟨fun b h1 h2 => by simp only [latFrom] at h2; omega, fun h => by simp only [latFrom] at h; omega⟩
  | k + 1, a, ha => by
    simp only [latFrom]
    by_cases hc : leastN sp st n a < need
    · rw [if_pos hc]
      exact ⟨fun b h1 h2 => by omega, fun _ => by rw [show a - 1 + 1 = a by omega]; exact hc⟩
    · rw [if_neg hc]
      have ih := lat_spec (need := need) hm k (a + 1) (by omega)
      refine ⟨fun b h1 h2 => ?_, fun h => ih.2 (by omega)⟩
      by_cases hb : b = a
      · subst hb; omega
      · exact ih.1 b (by omega) h2
theorem least_anti (h : isLineB sp st = true) {n : Int} (hn : numB st n = true) {a b : Int} (ha : 0 ≤ a) (hb : a ≤ b) : leastN sp st n b ≤ leastN sp st n a := by
  have hn' := num_range hn
  have hs := line_at h hn'.1 hn'.2
  exact cupsN_anti h hn ha hb (by have := hs.l0; have := hs.lh; omega) (Int.le_refl _)
theorem latN_iff (h : isLineB sp st = true) {n : Int} (hn : numB st n = true) (need : Int) {a : Int} (a0 : 0 ≤ a) (a1 : a ≤ 200) : need ≤ leastN sp st n a ↔ a ≤ latN sp st n need := by
  have hm : ∀ a b : Int, 0 ≤ a → a ≤ b → leastN sp st n b ≤ leastN sp st n a := fun a b h1 h2 => least_anti h hn h1 h2
  have hl := lat_spec (need := need) hm 201 0 (by omega)
  have hr := latN_range sp st n need
  change (∀ b, 0 ≤ b → b ≤ latN sp st n need → need ≤ leastN sp st n b) ∧ (latN sp st n need < 0 - 1 + ((201 : Nat) : Int) → leastN sp st n (latN sp st n need + 1) < need) at hl
  refine ⟨fun hc => ?_, fun hc => hl.1 a a0 hc⟩
  by_cases hx : a ≤ latN sp st n need
  · exact hx
  · have h1 := hl.2 (by omega)
    have h2 := hm (latN sp st n need + 1) a (by omega) (by omega)
    omega
theorem isStretch_f (hs : st.length ≤ 9223372036854775807) (n : Int) : channel_isStretch.f sp st n = some (numB st n) := by
  unfold channel_isStretch.f numB
  rw [IntWalk.wrap64_in _ (by omega), inC_f, Option.bind_some]
theorem isNeed_f (n : Int) : channel_isNeed.f n = some (inB n 1 10000000) := by
  unfold channel_isNeed.f
  rw [inC_f, Option.bind_some]
def latestF (sp : List Int) (st : List S32) (n need : Int) : Int × Int := if isLineB sp st = true ∧ numB st n = true ∧ inB need 1 10000000 = true then (if latN sp st n need < 0 then (0, 5) else (latN sp st n need, 0)) else (0, 2)
theorem latest_f (hs1 : sp.length ≤ 9223372036854775807) (hs2 : st.length ≤ 9223372036854775807) (n need : Int) (K : Nat) (hK : 203 < K) : channel_Latest.f K sp st n need = some (latestF sp st n need) := by
  unfold channel_Latest.f latestF channel_isLine.f
  rw [if_pos ⟨hs1, hs2⟩]
  obtain ⟨K, rfl⟩ : ∃ k, K = k + 1 := ⟨K - 1, by omega⟩
  have hbad : channel_Latest.j0 (K + 1) n need true sp st = some (0, 2) := by simp [channel_Latest.j0]
  simp only [Option.bind_some, isStretch_f hs2, isNeed_f]
  cases h1 : isLineB sp st with
  | false => simp [hbad]
  | true =>
    cases h2 : numB st n with
    | false => simp [hbad]
    | true =>
      cases h3 : inB need 1 10000000 with
      | false => simp [hbad]
      | true =>
        have hn := num_range h2
        have e : channel_Latest.j0 (K + 1) n need false sp st = some (if latN sp st n need < 0 then (0, 5) else (latN sp st n need, 0)) := by
          simp only [channel_Latest.j0, latest_eq h1 hn.1 hn.2 need K (by omega), Option.bind_some]
          rw [if_neg (by simp)]
          by_cases hc : latN sp st n need < 0
          · rw [if_pos hc, if_pos hc]
          · rw [if_neg hc, if_neg hc]
        simpa using e
theorem latest_any (n need : Int) (h : LnAt w A0 A1 c0 c1 sp st) : Calls Tryz.prog 27 #[.agg #[.slice A0 sp.length c0, .slice A1 st.length c1], .int .i64 n, .int .i64 need] w fun e w' => e = .returned (.tuple #[.int .i64 (latestF sp st n need).1, .int .i64 (latestF sp st n need).2]) ∧ Below w.heap.size w w' :=
  channel_Latest.calls 204 A0 c0 sp A1 c1 st n need _ _ w h.a.c h.a.le h.b.c h.b.le (latest_f h.lens.1 h.lens.2 n need 204 (by omega))
theorem latest_no {n need : Int} (h : LnAt w A0 A1 c0 c1 sp st) (h1 : isLineB sp st = true) (h2 : numB st n = true) (h3 : inB need 1 10000000 = true) (h4 : latN sp st n need < 0) : Calls Tryz.prog 27 #[.agg #[.slice A0 sp.length c0, .slice A1 st.length c1], .int .i64 n, .int .i64 need] w fun e w' => e = .returned (.tuple #[.int .i64 0, .int .i64 5]) ∧ Below w.heap.size w w' := by
  have := latest_any n need h
  unfold latestF at this
  rw [if_pos ⟨h1, h2, h3⟩, if_pos h4] at this
  exact this
theorem latest_some {n need m : Int} (h : LnAt w A0 A1 c0 c1 sp st) (h1 : isLineB sp st = true) (h2 : numB st n = true) (h3 : inB need 1 10000000 = true) (h4 : latN sp st n need = m) (h5 : 0 ≤ m) : Calls Tryz.prog 27 #[.agg #[.slice A0 sp.length c0, .slice A1 st.length c1], .int .i64 n, .int .i64 need] w fun e w' => e = .returned (.tuple #[.int .i64 m, .int .i64 0]) ∧ Below w.heap.size w w' := by
  have := latest_any n need h
  unfold latestF at this
  rw [if_pos ⟨h1, h2, h3⟩, if_neg (by omega), h4] at this
  exact this
theorem last_facts {n need a : Int} (h : isLineB sp st = true) (hn : numB st n = true) (ha : inB a 0 200 = true) :
    (latN sp st n need < 0 → decide (leastN sp st n a < need) = true) ∧
    (0 ≤ latN sp st n need → inB (latN sp st n need) 0 200 = true ∧ decide (need ≤ leastN sp st n a) = decide (a ≤ latN sp st n need) ∧ decide (leastN sp st n (latN sp st n need) < need) = false ∧ (¬ latN sp st n need = 200 → inB (latN sp st n need + 1) 0 200 = true ∧ wrap64 (latN sp st n need + 1) = latN sp st n need + 1 ∧ decide (leastN sp st n (latN sp st n need + 1) < need) = true) ∧ True) := by
  have ha := age_range ha
  have hr := latN_range sp st n need
  have hi := latN_iff h hn need ha.1 ha.2
  refine ⟨fun h0 => decide_eq_true (by omega), fun h0 => ⟨by simp [inB]; omega, decide_eq_decide.2 hi, decide_eq_false (by have := (latN_iff h hn need h0 hr.2).2 (Int.le_refl _); omega), fun h2 => ⟨by simp [inB]; omega, IntWalk.wrap64_in _ (by omega), decide_eq_true (by have := latN_iff h hn need (a := latN sp st n need + 1) (by omega) (by omega); omega)⟩, trivial⟩⟩
end Go.Proofs.YtdmdahafiiggiaaGreatDoor.K
end
section
namespace Go.Proofs.YtdmdahafiiggiaaGreatDoor.K
open Go.RowKit Go.Shelf Go.Proofs.YtdmdahafiiggiaaGreatDoorW.PrintWords Go.Proofs.YtdmdahafiiggiaaGreatDoorW.PrintLast Go.Proofs.YtdmdahafiiggiaaGreatDoorW.PrintMore
set_option linter.unusedVariables false
set_option linter.unusedSimpArgs false
set_option maxRecDepth 100000 in
set_option maxHeartbeats 4000000 in
theorem ChannelLast_law (A0 A1 : Option Addr) (c0 c1 : Nat) (sp : List Int) (st : List S32) (n1 : Int) (n2 : Int) (n3 : Int) (w : World) (hT : TabW w) (h0 : At' (Kd.int .i64) w A0 sp.length c0 sp) (h1 : At' k32 w A1 st.length c1 st) :
    Calls Tryz.prog 7 #[.agg #[.slice A0 sp.length c0, .slice A1 st.length c1], .int .i64 n1, .int .i64 n2, .int .i64 n3] w fun e w' => e = .returned (.bool true) ∧ Below w.heap.size w w' := by
  have hu25 := Tryz.underlying25
  have hu32 := Tryz.underlying32
  have hu30 := Tryz.underlying30
  have HT := Aside0.mk hT
  have HB := Aside0.mk (Below.refl w.heap.size w)
  clear hT
  have HL := Aside0.mk (LnAt.mk h0 h1)
  clear h0 h1
  go_enter Tryz.func7, Tryz.ntmps7
  go_upto_region 1 with (fail)
  obtain ⟨wm, hwn⟩ : ∃ wm, w.alloc (.cells #[.slice A0 sp.length c0, .slice A1 st.length c1] 25) = wm := ⟨_, rfl⟩
  have hb : Below w.heap.size w wm := by rw [← hwn]; exact ((Below.refl _ _).alloc (Nat.le_refl _) _)
  have XL : Aside0 (wm.heap[w.heap.size]? = some (.cells #[.slice A0 sp.length c0, .slice A1 st.length c1] 25 (0, 0))) := ⟨by rw [← hwn]; exact blk_new _ _⟩
  replace HT := Aside0.mk (HT.out.below hb)
  replace HB := Aside0.mk (below_step HB.out hb)
  replace HL := Aside0.mk (HL.out.below hb)
  try rw [hwn]
  clear hb hwn
  generalize w.heap.size = XL_b at XL ⊢
  rename World => wn
  have XLc0 := (blk_cell XL.out 0).trans rfl
  have XLc1 := (blk_cell XL.out 1).trans rfl
  cases hs : shortB sp st
  · go_wp2_with (first | (go_at_call 13; refine (short_any HL.out).mono ?_; rintro e wn ⟨rfl, hb⟩; replace HT := Aside0.mk (HT.out.below hb); replace HB := Aside0.mk (below_step HB.out hb); replace HL := Aside0.mk (HL.out.below hb); replace XL := Aside0.mk (blk_below XL.out hb); replace XLc0 := (blk_cell XL.out 0).trans rfl; replace XLc1 := (blk_cell XL.out 1).trans rfl; clear hb) | (go_at_call 14; refine (right_any hs HL.out).mono ?_; rintro e wn ⟨rfl, hb⟩; replace HT := Aside0.mk (HT.out.below hb); replace HB := Aside0.mk (below_step HB.out hb); replace HL := Aside0.mk (HL.out.below hb); replace XL := Aside0.mk (blk_below XL.out hb); replace XLc0 := (blk_cell XL.out 0).trans rfl; replace XLc1 := (blk_cell XL.out 1).trans rfl; clear hb) | (go_at_call 15; refine (number_any hs _ HL.out).mono ?_; rintro e wn ⟨rfl, hb⟩; replace HT := Aside0.mk (HT.out.below hb); replace HB := Aside0.mk (below_step HB.out hb); replace HL := Aside0.mk (HL.out.below hb); replace XL := Aside0.mk (blk_below XL.out hb); replace XLc0 := (blk_cell XL.out 0).trans rfl; replace XLc1 := (blk_cell XL.out 1).trans rfl; clear hb) | (go_at_call 16; refine (age_any _ _).mono ?_; rintro e wn ⟨rfl, hb⟩; replace HT := Aside0.mk (HT.out.below hb); replace HB := Aside0.mk (below_step HB.out hb); replace HL := Aside0.mk (HL.out.below hb); replace XL := Aside0.mk (blk_below XL.out hb); replace XLc0 := (blk_cell XL.out 0).trans rfl; replace XLc1 := (blk_cell XL.out 1).trans rfl; clear hb) | (go_at_call 29; refine (need_any _ _).mono ?_; rintro e wn ⟨rfl, hb⟩; replace HT := Aside0.mk (HT.out.below hb); replace HB := Aside0.mk (below_step HB.out hb); replace HL := Aside0.mk (HL.out.below hb); replace XL := Aside0.mk (blk_below XL.out hb); replace XLc0 := (blk_cell XL.out 0).trans rfl; replace XLc1 := (blk_cell XL.out 1).trans rfl; clear hb) | (go_at_call 17; refine (known_any _ HT.out).mono ?_; rintro e wn ⟨rfl, hb⟩; replace HT := Aside0.mk (HT.out.below hb); replace HB := Aside0.mk (below_step HB.out hb); replace HL := Aside0.mk (HL.out.below hb); replace XL := Aside0.mk (blk_below XL.out hb); replace XLc0 := (blk_cell XL.out 0).trans rfl; replace XLc1 := (blk_cell XL.out 1).trans rfl; clear hb))
    go_ret
    exact ⟨rfl, HB.out⟩
  cases hr : isLineB sp st
  · go_wp2_with (first | (go_at_call 13; refine (short_any HL.out).mono ?_; rintro e wn ⟨rfl, hb⟩; replace HT := Aside0.mk (HT.out.below hb); replace HB := Aside0.mk (below_step HB.out hb); replace HL := Aside0.mk (HL.out.below hb); replace XL := Aside0.mk (blk_below XL.out hb); replace XLc0 := (blk_cell XL.out 0).trans rfl; replace XLc1 := (blk_cell XL.out 1).trans rfl; clear hb) | (go_at_call 14; refine (right_any hs HL.out).mono ?_; rintro e wn ⟨rfl, hb⟩; replace HT := Aside0.mk (HT.out.below hb); replace HB := Aside0.mk (below_step HB.out hb); replace HL := Aside0.mk (HL.out.below hb); replace XL := Aside0.mk (blk_below XL.out hb); replace XLc0 := (blk_cell XL.out 0).trans rfl; replace XLc1 := (blk_cell XL.out 1).trans rfl; clear hb) | (go_at_call 15; refine (number_any hs _ HL.out).mono ?_; rintro e wn ⟨rfl, hb⟩; replace HT := Aside0.mk (HT.out.below hb); replace HB := Aside0.mk (below_step HB.out hb); replace HL := Aside0.mk (HL.out.below hb); replace XL := Aside0.mk (blk_below XL.out hb); replace XLc0 := (blk_cell XL.out 0).trans rfl; replace XLc1 := (blk_cell XL.out 1).trans rfl; clear hb) | (go_at_call 16; refine (age_any _ _).mono ?_; rintro e wn ⟨rfl, hb⟩; replace HT := Aside0.mk (HT.out.below hb); replace HB := Aside0.mk (below_step HB.out hb); replace HL := Aside0.mk (HL.out.below hb); replace XL := Aside0.mk (blk_below XL.out hb); replace XLc0 := (blk_cell XL.out 0).trans rfl; replace XLc1 := (blk_cell XL.out 1).trans rfl; clear hb) | (go_at_call 29; refine (need_any _ _).mono ?_; rintro e wn ⟨rfl, hb⟩; replace HT := Aside0.mk (HT.out.below hb); replace HB := Aside0.mk (below_step HB.out hb); replace HL := Aside0.mk (HL.out.below hb); replace XL := Aside0.mk (blk_below XL.out hb); replace XLc0 := (blk_cell XL.out 0).trans rfl; replace XLc1 := (blk_cell XL.out 1).trans rfl; clear hb) | (go_at_call 17; refine (known_any _ HT.out).mono ?_; rintro e wn ⟨rfl, hb⟩; replace HT := Aside0.mk (HT.out.below hb); replace HB := Aside0.mk (below_step HB.out hb); replace HL := Aside0.mk (HL.out.below hb); replace XL := Aside0.mk (blk_below XL.out hb); replace XLc0 := (blk_cell XL.out 0).trans rfl; replace XLc1 := (blk_cell XL.out 1).trans rfl; clear hb))
    go_ret
    exact ⟨rfl, HB.out⟩
  cases hn : numB st n1
  · go_wp2_with (first | (go_at_call 13; refine (short_any HL.out).mono ?_; rintro e wn ⟨rfl, hb⟩; replace HT := Aside0.mk (HT.out.below hb); replace HB := Aside0.mk (below_step HB.out hb); replace HL := Aside0.mk (HL.out.below hb); replace XL := Aside0.mk (blk_below XL.out hb); replace XLc0 := (blk_cell XL.out 0).trans rfl; replace XLc1 := (blk_cell XL.out 1).trans rfl; clear hb) | (go_at_call 14; refine (right_any hs HL.out).mono ?_; rintro e wn ⟨rfl, hb⟩; replace HT := Aside0.mk (HT.out.below hb); replace HB := Aside0.mk (below_step HB.out hb); replace HL := Aside0.mk (HL.out.below hb); replace XL := Aside0.mk (blk_below XL.out hb); replace XLc0 := (blk_cell XL.out 0).trans rfl; replace XLc1 := (blk_cell XL.out 1).trans rfl; clear hb) | (go_at_call 15; refine (number_any hs _ HL.out).mono ?_; rintro e wn ⟨rfl, hb⟩; replace HT := Aside0.mk (HT.out.below hb); replace HB := Aside0.mk (below_step HB.out hb); replace HL := Aside0.mk (HL.out.below hb); replace XL := Aside0.mk (blk_below XL.out hb); replace XLc0 := (blk_cell XL.out 0).trans rfl; replace XLc1 := (blk_cell XL.out 1).trans rfl; clear hb) | (go_at_call 16; refine (age_any _ _).mono ?_; rintro e wn ⟨rfl, hb⟩; replace HT := Aside0.mk (HT.out.below hb); replace HB := Aside0.mk (below_step HB.out hb); replace HL := Aside0.mk (HL.out.below hb); replace XL := Aside0.mk (blk_below XL.out hb); replace XLc0 := (blk_cell XL.out 0).trans rfl; replace XLc1 := (blk_cell XL.out 1).trans rfl; clear hb) | (go_at_call 29; refine (need_any _ _).mono ?_; rintro e wn ⟨rfl, hb⟩; replace HT := Aside0.mk (HT.out.below hb); replace HB := Aside0.mk (below_step HB.out hb); replace HL := Aside0.mk (HL.out.below hb); replace XL := Aside0.mk (blk_below XL.out hb); replace XLc0 := (blk_cell XL.out 0).trans rfl; replace XLc1 := (blk_cell XL.out 1).trans rfl; clear hb) | (go_at_call 17; refine (known_any _ HT.out).mono ?_; rintro e wn ⟨rfl, hb⟩; replace HT := Aside0.mk (HT.out.below hb); replace HB := Aside0.mk (below_step HB.out hb); replace HL := Aside0.mk (HL.out.below hb); replace XL := Aside0.mk (blk_below XL.out hb); replace XLc0 := (blk_cell XL.out 0).trans rfl; replace XLc1 := (blk_cell XL.out 1).trans rfl; clear hb))
    go_ret
    exact ⟨rfl, HB.out⟩
  cases hd : inB n2 1 10000000
  · go_wp2_with (first | (go_at_call 13; refine (short_any HL.out).mono ?_; rintro e wn ⟨rfl, hb⟩; replace HT := Aside0.mk (HT.out.below hb); replace HB := Aside0.mk (below_step HB.out hb); replace HL := Aside0.mk (HL.out.below hb); replace XL := Aside0.mk (blk_below XL.out hb); replace XLc0 := (blk_cell XL.out 0).trans rfl; replace XLc1 := (blk_cell XL.out 1).trans rfl; clear hb) | (go_at_call 14; refine (right_any hs HL.out).mono ?_; rintro e wn ⟨rfl, hb⟩; replace HT := Aside0.mk (HT.out.below hb); replace HB := Aside0.mk (below_step HB.out hb); replace HL := Aside0.mk (HL.out.below hb); replace XL := Aside0.mk (blk_below XL.out hb); replace XLc0 := (blk_cell XL.out 0).trans rfl; replace XLc1 := (blk_cell XL.out 1).trans rfl; clear hb) | (go_at_call 15; refine (number_any hs _ HL.out).mono ?_; rintro e wn ⟨rfl, hb⟩; replace HT := Aside0.mk (HT.out.below hb); replace HB := Aside0.mk (below_step HB.out hb); replace HL := Aside0.mk (HL.out.below hb); replace XL := Aside0.mk (blk_below XL.out hb); replace XLc0 := (blk_cell XL.out 0).trans rfl; replace XLc1 := (blk_cell XL.out 1).trans rfl; clear hb) | (go_at_call 16; refine (age_any _ _).mono ?_; rintro e wn ⟨rfl, hb⟩; replace HT := Aside0.mk (HT.out.below hb); replace HB := Aside0.mk (below_step HB.out hb); replace HL := Aside0.mk (HL.out.below hb); replace XL := Aside0.mk (blk_below XL.out hb); replace XLc0 := (blk_cell XL.out 0).trans rfl; replace XLc1 := (blk_cell XL.out 1).trans rfl; clear hb) | (go_at_call 29; refine (need_any _ _).mono ?_; rintro e wn ⟨rfl, hb⟩; replace HT := Aside0.mk (HT.out.below hb); replace HB := Aside0.mk (below_step HB.out hb); replace HL := Aside0.mk (HL.out.below hb); replace XL := Aside0.mk (blk_below XL.out hb); replace XLc0 := (blk_cell XL.out 0).trans rfl; replace XLc1 := (blk_cell XL.out 1).trans rfl; clear hb) | (go_at_call 17; refine (known_any _ HT.out).mono ?_; rintro e wn ⟨rfl, hb⟩; replace HT := Aside0.mk (HT.out.below hb); replace HB := Aside0.mk (below_step HB.out hb); replace HL := Aside0.mk (HL.out.below hb); replace XL := Aside0.mk (blk_below XL.out hb); replace XLc0 := (blk_cell XL.out 0).trans rfl; replace XLc1 := (blk_cell XL.out 1).trans rfl; clear hb))
    go_ret
    exact ⟨rfl, HB.out⟩
  cases ha : inB n3 0 200
  · go_wp2_with (first | (go_at_call 13; refine (short_any HL.out).mono ?_; rintro e wn ⟨rfl, hb⟩; replace HT := Aside0.mk (HT.out.below hb); replace HB := Aside0.mk (below_step HB.out hb); replace HL := Aside0.mk (HL.out.below hb); replace XL := Aside0.mk (blk_below XL.out hb); replace XLc0 := (blk_cell XL.out 0).trans rfl; replace XLc1 := (blk_cell XL.out 1).trans rfl; clear hb) | (go_at_call 14; refine (right_any hs HL.out).mono ?_; rintro e wn ⟨rfl, hb⟩; replace HT := Aside0.mk (HT.out.below hb); replace HB := Aside0.mk (below_step HB.out hb); replace HL := Aside0.mk (HL.out.below hb); replace XL := Aside0.mk (blk_below XL.out hb); replace XLc0 := (blk_cell XL.out 0).trans rfl; replace XLc1 := (blk_cell XL.out 1).trans rfl; clear hb) | (go_at_call 15; refine (number_any hs _ HL.out).mono ?_; rintro e wn ⟨rfl, hb⟩; replace HT := Aside0.mk (HT.out.below hb); replace HB := Aside0.mk (below_step HB.out hb); replace HL := Aside0.mk (HL.out.below hb); replace XL := Aside0.mk (blk_below XL.out hb); replace XLc0 := (blk_cell XL.out 0).trans rfl; replace XLc1 := (blk_cell XL.out 1).trans rfl; clear hb) | (go_at_call 16; refine (age_any _ _).mono ?_; rintro e wn ⟨rfl, hb⟩; replace HT := Aside0.mk (HT.out.below hb); replace HB := Aside0.mk (below_step HB.out hb); replace HL := Aside0.mk (HL.out.below hb); replace XL := Aside0.mk (blk_below XL.out hb); replace XLc0 := (blk_cell XL.out 0).trans rfl; replace XLc1 := (blk_cell XL.out 1).trans rfl; clear hb) | (go_at_call 29; refine (need_any _ _).mono ?_; rintro e wn ⟨rfl, hb⟩; replace HT := Aside0.mk (HT.out.below hb); replace HB := Aside0.mk (below_step HB.out hb); replace HL := Aside0.mk (HL.out.below hb); replace XL := Aside0.mk (blk_below XL.out hb); replace XLc0 := (blk_cell XL.out 0).trans rfl; replace XLc1 := (blk_cell XL.out 1).trans rfl; clear hb) | (go_at_call 17; refine (known_any _ HT.out).mono ?_; rintro e wn ⟨rfl, hb⟩; replace HT := Aside0.mk (HT.out.below hb); replace HB := Aside0.mk (below_step HB.out hb); replace HL := Aside0.mk (HL.out.below hb); replace XL := Aside0.mk (blk_below XL.out hb); replace XLc0 := (blk_cell XL.out 0).trans rfl; replace XLc1 := (blk_cell XL.out 1).trans rfl; clear hb))
    go_ret
    exact ⟨rfl, HB.out⟩
  obtain ⟨p0, p1⟩ := last_facts (n := n1) (need := n2) hr hn ha
  obtain ⟨m, hm⟩ : ∃ m, latN sp st n1 n2 = m := ⟨_, rfl⟩
  replace p0 := Aside0.mk p0
  replace p1 := Aside0.mk p1
  by_cases hm0 : m < 0
  ·
    have p2 := p0.out (by rw [hm]; exact hm0)
    go_upto_region 5 with (first | (go_at_call 13; refine (short_any HL.out).mono ?_; rintro e wn ⟨rfl, hb⟩; replace HT := Aside0.mk (HT.out.below hb); replace HB := Aside0.mk (below_step HB.out hb); replace HL := Aside0.mk (HL.out.below hb); replace XL := Aside0.mk (blk_below XL.out hb); replace XLc0 := (blk_cell XL.out 0).trans rfl; replace XLc1 := (blk_cell XL.out 1).trans rfl; clear hb) | (go_at_call 14; refine (right_any hs HL.out).mono ?_; rintro e wn ⟨rfl, hb⟩; replace HT := Aside0.mk (HT.out.below hb); replace HB := Aside0.mk (below_step HB.out hb); replace HL := Aside0.mk (HL.out.below hb); replace XL := Aside0.mk (blk_below XL.out hb); replace XLc0 := (blk_cell XL.out 0).trans rfl; replace XLc1 := (blk_cell XL.out 1).trans rfl; clear hb) | (go_at_call 15; refine (number_any hs _ HL.out).mono ?_; rintro e wn ⟨rfl, hb⟩; replace HT := Aside0.mk (HT.out.below hb); replace HB := Aside0.mk (below_step HB.out hb); replace HL := Aside0.mk (HL.out.below hb); replace XL := Aside0.mk (blk_below XL.out hb); replace XLc0 := (blk_cell XL.out 0).trans rfl; replace XLc1 := (blk_cell XL.out 1).trans rfl; clear hb) | (go_at_call 16; refine (age_any _ _).mono ?_; rintro e wn ⟨rfl, hb⟩; replace HT := Aside0.mk (HT.out.below hb); replace HB := Aside0.mk (below_step HB.out hb); replace HL := Aside0.mk (HL.out.below hb); replace XL := Aside0.mk (blk_below XL.out hb); replace XLc0 := (blk_cell XL.out 0).trans rfl; replace XLc1 := (blk_cell XL.out 1).trans rfl; clear hb) | (go_at_call 29; refine (need_any _ _).mono ?_; rintro e wn ⟨rfl, hb⟩; replace HT := Aside0.mk (HT.out.below hb); replace HB := Aside0.mk (below_step HB.out hb); replace HL := Aside0.mk (HL.out.below hb); replace XL := Aside0.mk (blk_below XL.out hb); replace XLc0 := (blk_cell XL.out 0).trans rfl; replace XLc1 := (blk_cell XL.out 1).trans rfl; clear hb) | (go_at_call 27; refine (latest_no HL.out hr hn hd (by rw [hm]; exact hm0)).mono ?_; rintro e wn ⟨rfl, hb⟩; replace HT := Aside0.mk (HT.out.below hb); replace HB := Aside0.mk (below_step HB.out hb); replace HL := Aside0.mk (HL.out.below hb); replace XL := Aside0.mk (blk_below XL.out hb); replace XLc0 := (blk_cell XL.out 0).trans rfl; replace XLc1 := (blk_cell XL.out 1).trans rfl; clear hb) | (go_at_call 18; refine (carries_good _ _ HL.out hr hn (by assumption)).mono ?_; rintro e wn ⟨rfl, hb⟩; replace HT := Aside0.mk (HT.out.below hb); replace HB := Aside0.mk (below_step HB.out hb); replace HL := Aside0.mk (HL.out.below hb); replace XL := Aside0.mk (blk_below XL.out hb); replace XLc0 := (blk_cell XL.out 0).trans rfl; replace XLc1 := (blk_cell XL.out 1).trans rfl; clear hb))
    obtain ⟨wm, hwn⟩ : ∃ wm, wn.alloc (.cells #[.int .i64 (leastN sp st n1 n3), .int .i64 (mostN sp st n1 n3)] 30) = wm := ⟨_, rfl⟩
    have hb : Below wn.heap.size wn wm := by rw [← hwn]; exact ((Below.refl _ _).alloc (Nat.le_refl _) _)
    have XS : Aside0 (wm.heap[wn.heap.size]? = some (.cells #[.int .i64 (leastN sp st n1 n3), .int .i64 (mostN sp st n1 n3)] 30 (0, 0))) := ⟨by rw [← hwn]; exact blk_new _ _⟩
    replace HT := Aside0.mk (HT.out.below hb)
    replace HB := Aside0.mk (below_step HB.out hb)
    replace HL := Aside0.mk (HL.out.below hb)
    replace XL := Aside0.mk (blk_below XL.out hb)
    replace XLc0 := (blk_cell XL.out 0).trans rfl
    replace XLc1 := (blk_cell XL.out 1).trans rfl
    try rw [hwn]
    clear hb hwn
    generalize wn.heap.size = XS_b at XS ⊢
    rename World => wn
    have XSc0 := (blk_cell XS.out 0).trans rfl
    have XSc1 := (blk_cell XS.out 1).trans rfl
    go_wp2_with (first | (go_at_call 17; refine (known_any _ HT.out).mono ?_; rintro e wn ⟨rfl, hb⟩; replace HT := Aside0.mk (HT.out.below hb); replace HB := Aside0.mk (below_step HB.out hb); replace HL := Aside0.mk (HL.out.below hb); replace XL := Aside0.mk (blk_below XL.out hb); replace XLc0 := (blk_cell XL.out 0).trans rfl; replace XLc1 := (blk_cell XL.out 1).trans rfl; replace XS := Aside0.mk (blk_below XS.out hb); replace XSc0 := (blk_cell XS.out 0).trans rfl; replace XSc1 := (blk_cell XS.out 1).trans rfl; clear hb))
    go_ret
    exact ⟨rfl, HB.out⟩
  obtain ⟨p2, p3, p4, p5, -⟩ := p1.out (by rw [hm]; omega)
  rw [hm] at p2 p3 p4 p5
  replace p3 := Aside0.mk p3
  replace p4 := Aside0.mk p4
  replace p5 := Aside0.mk p5
  clear p0 p1
  go_upto_region 5 with (first | (go_at_call 13; refine (short_any HL.out).mono ?_; rintro e wn ⟨rfl, hb⟩; replace HT := Aside0.mk (HT.out.below hb); replace HB := Aside0.mk (below_step HB.out hb); replace HL := Aside0.mk (HL.out.below hb); replace XL := Aside0.mk (blk_below XL.out hb); replace XLc0 := (blk_cell XL.out 0).trans rfl; replace XLc1 := (blk_cell XL.out 1).trans rfl; clear hb) | (go_at_call 14; refine (right_any hs HL.out).mono ?_; rintro e wn ⟨rfl, hb⟩; replace HT := Aside0.mk (HT.out.below hb); replace HB := Aside0.mk (below_step HB.out hb); replace HL := Aside0.mk (HL.out.below hb); replace XL := Aside0.mk (blk_below XL.out hb); replace XLc0 := (blk_cell XL.out 0).trans rfl; replace XLc1 := (blk_cell XL.out 1).trans rfl; clear hb) | (go_at_call 15; refine (number_any hs _ HL.out).mono ?_; rintro e wn ⟨rfl, hb⟩; replace HT := Aside0.mk (HT.out.below hb); replace HB := Aside0.mk (below_step HB.out hb); replace HL := Aside0.mk (HL.out.below hb); replace XL := Aside0.mk (blk_below XL.out hb); replace XLc0 := (blk_cell XL.out 0).trans rfl; replace XLc1 := (blk_cell XL.out 1).trans rfl; clear hb) | (go_at_call 16; refine (age_any _ _).mono ?_; rintro e wn ⟨rfl, hb⟩; replace HT := Aside0.mk (HT.out.below hb); replace HB := Aside0.mk (below_step HB.out hb); replace HL := Aside0.mk (HL.out.below hb); replace XL := Aside0.mk (blk_below XL.out hb); replace XLc0 := (blk_cell XL.out 0).trans rfl; replace XLc1 := (blk_cell XL.out 1).trans rfl; clear hb) | (go_at_call 29; refine (need_any _ _).mono ?_; rintro e wn ⟨rfl, hb⟩; replace HT := Aside0.mk (HT.out.below hb); replace HB := Aside0.mk (below_step HB.out hb); replace HL := Aside0.mk (HL.out.below hb); replace XL := Aside0.mk (blk_below XL.out hb); replace XLc0 := (blk_cell XL.out 0).trans rfl; replace XLc1 := (blk_cell XL.out 1).trans rfl; clear hb) | (go_at_call 27; refine (latest_some HL.out hr hn hd hm (by omega)).mono ?_; rintro e wn ⟨rfl, hb⟩; replace HT := Aside0.mk (HT.out.below hb); replace HB := Aside0.mk (below_step HB.out hb); replace HL := Aside0.mk (HL.out.below hb); replace XL := Aside0.mk (blk_below XL.out hb); replace XLc0 := (blk_cell XL.out 0).trans rfl; replace XLc1 := (blk_cell XL.out 1).trans rfl; clear hb) | (go_at_call 18; refine (carries_good _ _ HL.out hr hn (by assumption)).mono ?_; rintro e wn ⟨rfl, hb⟩; replace HT := Aside0.mk (HT.out.below hb); replace HB := Aside0.mk (below_step HB.out hb); replace HL := Aside0.mk (HL.out.below hb); replace XL := Aside0.mk (blk_below XL.out hb); replace XLc0 := (blk_cell XL.out 0).trans rfl; replace XLc1 := (blk_cell XL.out 1).trans rfl; clear hb))
  obtain ⟨wm, hwn⟩ : ∃ wm, wn.alloc (.cells #[.int .i64 (leastN sp st n1 n3), .int .i64 (mostN sp st n1 n3)] 30) = wm := ⟨_, rfl⟩
  have hb : Below wn.heap.size wn wm := by rw [← hwn]; exact ((Below.refl _ _).alloc (Nat.le_refl _) _)
  have XS : Aside0 (wm.heap[wn.heap.size]? = some (.cells #[.int .i64 (leastN sp st n1 n3), .int .i64 (mostN sp st n1 n3)] 30 (0, 0))) := ⟨by rw [← hwn]; exact blk_new _ _⟩
  replace HT := Aside0.mk (HT.out.below hb)
  replace HB := Aside0.mk (below_step HB.out hb)
  replace HL := Aside0.mk (HL.out.below hb)
  replace XL := Aside0.mk (blk_below XL.out hb)
  replace XLc0 := (blk_cell XL.out 0).trans rfl
  replace XLc1 := (blk_cell XL.out 1).trans rfl
  try rw [hwn]
  clear hb hwn
  generalize wn.heap.size = XS_b at XS ⊢
  rename World => wn
  have XSc0 := (blk_cell XS.out 0).trans rfl
  have XSc1 := (blk_cell XS.out 1).trans rfl
  replace p3 := p3.out
  go_upto_region 12 with (first | (go_at_call 13; refine (short_any HL.out).mono ?_; rintro e wn ⟨rfl, hb⟩; replace HT := Aside0.mk (HT.out.below hb); replace HB := Aside0.mk (below_step HB.out hb); replace HL := Aside0.mk (HL.out.below hb); replace XL := Aside0.mk (blk_below XL.out hb); replace XLc0 := (blk_cell XL.out 0).trans rfl; replace XLc1 := (blk_cell XL.out 1).trans rfl; replace XS := Aside0.mk (blk_below XS.out hb); replace XSc0 := (blk_cell XS.out 0).trans rfl; replace XSc1 := (blk_cell XS.out 1).trans rfl; clear hb) | (go_at_call 14; refine (right_any hs HL.out).mono ?_; rintro e wn ⟨rfl, hb⟩; replace HT := Aside0.mk (HT.out.below hb); replace HB := Aside0.mk (below_step HB.out hb); replace HL := Aside0.mk (HL.out.below hb); replace XL := Aside0.mk (blk_below XL.out hb); replace XLc0 := (blk_cell XL.out 0).trans rfl; replace XLc1 := (blk_cell XL.out 1).trans rfl; replace XS := Aside0.mk (blk_below XS.out hb); replace XSc0 := (blk_cell XS.out 0).trans rfl; replace XSc1 := (blk_cell XS.out 1).trans rfl; clear hb) | (go_at_call 15; refine (number_any hs _ HL.out).mono ?_; rintro e wn ⟨rfl, hb⟩; replace HT := Aside0.mk (HT.out.below hb); replace HB := Aside0.mk (below_step HB.out hb); replace HL := Aside0.mk (HL.out.below hb); replace XL := Aside0.mk (blk_below XL.out hb); replace XLc0 := (blk_cell XL.out 0).trans rfl; replace XLc1 := (blk_cell XL.out 1).trans rfl; replace XS := Aside0.mk (blk_below XS.out hb); replace XSc0 := (blk_cell XS.out 0).trans rfl; replace XSc1 := (blk_cell XS.out 1).trans rfl; clear hb) | (go_at_call 16; refine (age_any _ _).mono ?_; rintro e wn ⟨rfl, hb⟩; replace HT := Aside0.mk (HT.out.below hb); replace HB := Aside0.mk (below_step HB.out hb); replace HL := Aside0.mk (HL.out.below hb); replace XL := Aside0.mk (blk_below XL.out hb); replace XLc0 := (blk_cell XL.out 0).trans rfl; replace XLc1 := (blk_cell XL.out 1).trans rfl; replace XS := Aside0.mk (blk_below XS.out hb); replace XSc0 := (blk_cell XS.out 0).trans rfl; replace XSc1 := (blk_cell XS.out 1).trans rfl; clear hb) | (go_at_call 29; refine (need_any _ _).mono ?_; rintro e wn ⟨rfl, hb⟩; replace HT := Aside0.mk (HT.out.below hb); replace HB := Aside0.mk (below_step HB.out hb); replace HL := Aside0.mk (HL.out.below hb); replace XL := Aside0.mk (blk_below XL.out hb); replace XLc0 := (blk_cell XL.out 0).trans rfl; replace XLc1 := (blk_cell XL.out 1).trans rfl; replace XS := Aside0.mk (blk_below XS.out hb); replace XSc0 := (blk_cell XS.out 0).trans rfl; replace XSc1 := (blk_cell XS.out 1).trans rfl; clear hb) | (go_at_call 18; refine (carries_good _ _ HL.out hr hn (by assumption)).mono ?_; rintro e wn ⟨rfl, hb⟩; replace HT := Aside0.mk (HT.out.below hb); replace HB := Aside0.mk (below_step HB.out hb); replace HL := Aside0.mk (HL.out.below hb); replace XL := Aside0.mk (blk_below XL.out hb); replace XLc0 := (blk_cell XL.out 0).trans rfl; replace XLc1 := (blk_cell XL.out 1).trans rfl; replace XS := Aside0.mk (blk_below XS.out hb); replace XSc0 := (blk_cell XS.out 0).trans rfl; replace XSc1 := (blk_cell XS.out 1).trans rfl; clear hb))
  clear p3
  replace p4 := p4.out
  obtain ⟨wm, hwn⟩ : ∃ wm, wn.alloc (.cells #[.int .i64 (leastN sp st n1 m), .int .i64 (mostN sp st n1 m)] 30) = wm := ⟨_, rfl⟩
  have hb : Below wn.heap.size wn wm := by rw [← hwn]; exact ((Below.refl _ _).alloc (Nat.le_refl _) _)
  have XT : Aside0 (wm.heap[wn.heap.size]? = some (.cells #[.int .i64 (leastN sp st n1 m), .int .i64 (mostN sp st n1 m)] 30 (0, 0))) := ⟨by rw [← hwn]; exact blk_new _ _⟩
  replace HT := Aside0.mk (HT.out.below hb)
  replace HB := Aside0.mk (below_step HB.out hb)
  replace HL := Aside0.mk (HL.out.below hb)
  replace XL := Aside0.mk (blk_below XL.out hb)
  replace XLc0 := (blk_cell XL.out 0).trans rfl
  replace XLc1 := (blk_cell XL.out 1).trans rfl
  replace XS := Aside0.mk (blk_below XS.out hb)
  replace XSc0 := (blk_cell XS.out 0).trans rfl
  replace XSc1 := (blk_cell XS.out 1).trans rfl
  try rw [hwn]
  clear hb hwn
  generalize wn.heap.size = XT_b at XT ⊢
  rename World => wn
  have XTc0 := (blk_cell XT.out 0).trans rfl
  have XTc1 := (blk_cell XT.out 1).trans rfl
  go_upto_region 14 with (fail)
  clear p4
  cases h2 : (m == 200)
  rotate_left
  · go_wp2_with (first | (go_at_call 17; refine (known_any _ HT.out).mono ?_; rintro e wn ⟨rfl, hb⟩; replace HT := Aside0.mk (HT.out.below hb); replace HB := Aside0.mk (below_step HB.out hb); replace HL := Aside0.mk (HL.out.below hb); replace XL := Aside0.mk (blk_below XL.out hb); replace XLc0 := (blk_cell XL.out 0).trans rfl; replace XLc1 := (blk_cell XL.out 1).trans rfl; replace XS := Aside0.mk (blk_below XS.out hb); replace XSc0 := (blk_cell XS.out 0).trans rfl; replace XSc1 := (blk_cell XS.out 1).trans rfl; replace XT := Aside0.mk (blk_below XT.out hb); replace XTc0 := (blk_cell XT.out 0).trans rfl; replace XTc1 := (blk_cell XT.out 1).trans rfl; clear hb))
    go_ret
    exact ⟨rfl, HB.out⟩
  obtain ⟨p7, p8, p9⟩ := p5.out (by simpa using h2)
  replace p9 := Aside0.mk p9
  go_upto_region 17 with (first | (go_at_call 18; rw [p8]; refine (carries_good _ _ HL.out hr hn (by assumption)).mono ?_; rintro e wn ⟨rfl, hb⟩; replace HT := Aside0.mk (HT.out.below hb); replace HB := Aside0.mk (below_step HB.out hb); replace HL := Aside0.mk (HL.out.below hb); replace XL := Aside0.mk (blk_below XL.out hb); replace XLc0 := (blk_cell XL.out 0).trans rfl; replace XLc1 := (blk_cell XL.out 1).trans rfl; replace XS := Aside0.mk (blk_below XS.out hb); replace XSc0 := (blk_cell XS.out 0).trans rfl; replace XSc1 := (blk_cell XS.out 1).trans rfl; replace XT := Aside0.mk (blk_below XT.out hb); replace XTc0 := (blk_cell XT.out 0).trans rfl; replace XTc1 := (blk_cell XT.out 1).trans rfl; clear hb))
  obtain ⟨wm, hwn⟩ : ∃ wm, wn.alloc (.cells #[.int .i64 (leastN sp st n1 (m + 1)), .int .i64 (mostN sp st n1 (m + 1))] 30) = wm := ⟨_, rfl⟩
  have hb : Below wn.heap.size wn wm := by rw [← hwn]; exact ((Below.refl _ _).alloc (Nat.le_refl _) _)
  have XU : Aside0 (wm.heap[wn.heap.size]? = some (.cells #[.int .i64 (leastN sp st n1 (m + 1)), .int .i64 (mostN sp st n1 (m + 1))] 30 (0, 0))) := ⟨by rw [← hwn]; exact blk_new _ _⟩
  replace HT := Aside0.mk (HT.out.below hb)
  replace HB := Aside0.mk (below_step HB.out hb)
  replace HL := Aside0.mk (HL.out.below hb)
  replace XL := Aside0.mk (blk_below XL.out hb)
  replace XLc0 := (blk_cell XL.out 0).trans rfl
  replace XLc1 := (blk_cell XL.out 1).trans rfl
  replace XS := Aside0.mk (blk_below XS.out hb)
  replace XSc0 := (blk_cell XS.out 0).trans rfl
  replace XSc1 := (blk_cell XS.out 1).trans rfl
  replace XT := Aside0.mk (blk_below XT.out hb)
  replace XTc0 := (blk_cell XT.out 0).trans rfl
  replace XTc1 := (blk_cell XT.out 1).trans rfl
  try rw [hwn]
  clear hb hwn
  generalize wn.heap.size = XU_b at XU ⊢
  rename World => wn
  have XUc0 := (blk_cell XU.out 0).trans rfl
  have XUc1 := (blk_cell XU.out 1).trans rfl
  replace p9 := p9.out
  go_wp2_with (first | (go_at_call 17; refine (known_any _ HT.out).mono ?_; rintro e wn ⟨rfl, hb⟩; replace HT := Aside0.mk (HT.out.below hb); replace HB := Aside0.mk (below_step HB.out hb); replace HL := Aside0.mk (HL.out.below hb); replace XL := Aside0.mk (blk_below XL.out hb); replace XLc0 := (blk_cell XL.out 0).trans rfl; replace XLc1 := (blk_cell XL.out 1).trans rfl; replace XS := Aside0.mk (blk_below XS.out hb); replace XSc0 := (blk_cell XS.out 0).trans rfl; replace XSc1 := (blk_cell XS.out 1).trans rfl; replace XT := Aside0.mk (blk_below XT.out hb); replace XTc0 := (blk_cell XT.out 0).trans rfl; replace XTc1 := (blk_cell XT.out 1).trans rfl; replace XU := Aside0.mk (blk_below XU.out hb); replace XUc0 := (blk_cell XU.out 0).trans rfl; replace XUc1 := (blk_cell XU.out 1).trans rfl; clear hb))
  go_ret
  exact ⟨rfl, HB.out⟩
end Go.Proofs.YtdmdahafiiggiaaGreatDoor.K
end
