/- The walks of the functions that the laws of this seat call, and what they compute; joined out of smaller texts, part 5. -/
import Derived.WalkMore
import Derived.Outline
import Derived.Test.YtdmdahafiiggiaaGreatDoorI4
set_option linter.unusedVariables false
set_option linter.unusedSimpArgs false
section
namespace Go.Proofs.YtdmdahafiiggiaaGreatDoor.K
open Go.RowKit Go.Proofs.YtdmdahafiiggiaaGreatDoorW.PrintWords Go.Proofs.YtdmdahafiiggiaaGreatDoorW.PrintLast Go.Proofs.YtdmdahafiiggiaaGreatDoorW.PrintMore
attribute [local go_sem] max2_int min2_int max_two min_two max_three min_three max_four min_four
mutual
def channel_Narrowest.j0 : Nat → List Int → Bool → List Int → List (S32) → Option (List Int × Int)
 | 0, _, _, _, _ => none
 | k + 1, x1, x20, x186000, x186001 => if x20 = true then (some (([] : List Int), 2)) else ((channel_spans.f k x186000 x186001 x1).bind fun t188 => (channel_Narrowest.l0 k t188 ([] : List Int) t188 (t188.length : Int) 0))
def channel_Narrowest.l0 : Nat → List (S30) → List Int → List (S30) → Int → Int → Option (List Int × Int)
 | 0, _, _, _, _, _ => none
 | k + 1, x6, x7, x24, x25, x26 => if x26 < x25 then (if 0 ≤ x26 then (if x26 < (x24.length : Int) then (channel_Narrowest.l1 k x6 x7 x26 x24 x25 x26 x6 (x6.length : Int) 0 ((rd_T30 x24 x26).f0) ((rd_T30 x24 x26).f1)) else (none)) else (none)) else (some (x7, 0))
def channel_Narrowest.l1 : Nat → List (S30) → List Int → Int → List (S30) → Int → Int → List (S30) → Int → Int → Int → Int → Option (List Int × Int)
 | 0, _, _, _, _, _, _, _, _, _, _, _ => none
 | k + 1, x6, x7, x8, x24, x25, x26, x31, x32, x33, x193000, x193001 => if x33 < x32 then (if 0 ≤ x33 then (if x33 < (x31.length : Int) then (if x33 = x8 then (channel_Narrowest.l1 k x6 x7 x8 x24 x25 x26 x31 x32 (wrap64 (x33 + 1)) x193000 x193001) else (if x193000 > ((rd_T30 x31 x33).f1) then (channel_Narrowest.l0 k x6 x7 x24 x25 (wrap64 (x26 + 1))) else (channel_Narrowest.l1 k x6 x7 x8 x24 x25 x26 x31 x32 (wrap64 (x33 + 1)) x193000 x193001))) else (none)) else (none)) else (if x7.length < 17592186044416 then (channel_Narrowest.l0 k x6 (x7 ++ [x8]) x24 x25 (wrap64 (x26 + 1))) else (none))
end
def channel_Narrowest.f (k : Nat) (l0_0 : List Int) (l0_1 : List (S32)) (l1 : List Int) : Option (List Int × Int) := (channel_isLine.f l0_0 l0_1).bind fun t186 => (if t186 = true then ((channel_areAges.f l0_0 l0_1 l1).bind fun t187 => (channel_Narrowest.j0 k l1 (!t187) l0_0 l0_1)) else (channel_Narrowest.j0 k l1 true l0_0 l0_1))
set_option maxHeartbeats 8000000 in
set_option maxRecDepth 100000 in
theorem channel_Narrowest.calls (k : Nat) (A0_0 : Option Addr) (c0_0 : Nat) (l0_0 : List Int) (A0_1 : Option Addr) (c0_1 : Nat) (l0_1 : List (S32)) (A1 : Option Addr) (c1 : Nat) (l1 : List Int) (r1 : List Int) (r2 : Int) (w : World) (hr0_0 : Kd.C (Kd.int .i64) w A0_0 l0_0.length l0_0) (hc0_0 : l0_0.length ≤ c0_0) (hr0_1 : Kd.C k32 w A0_1 l0_1.length l0_1) (hc0_1 : l0_1.length ≤ c0_1) (hr1 : Kd.C (Kd.int .i64) w A1 l1.length l1) (hc1 : l1.length ≤ c1) (h : channel_Narrowest.f k l0_0 l0_1 l1 = some (r1, r2)) :
  Calls Tryz.prog 21 #[.agg #[.slice A0_0 l0_0.length c0_0, .slice A0_1 l0_1.length c0_1], .slice A1 l1.length c1] w fun e w' => ∃ v0_ : Value, e = .returned (.tuple #[v0_, .int .i64 r2]) ∧ Kd.R (Kd.int .i64) 3 w' w.heap.size (fun _ => True) v0_ r1 ∧ Below w.heap.size w w' := by
 have hu25 := Tryz.underlying25; have hu30 := Tryz.underlying30; have HR0_0 := Aside0.mk hr0_0; have HC0_0 := Aside0.mk hc0_0; clear hr0_0 hc0_0; have HR0_1 := Aside0.mk hr0_1; have HC0_1 := Aside0.mk hc0_1; clear hr0_1 hc0_1; have HR1 := Aside0.mk hr1; have HC1 := Aside0.mk hc1; clear hr1 hc1; have HB := Aside0.mk (Below.refl w.heap.size w); have H : ((channel_isLine.f l0_0 l0_1).bind fun t186 => (if t186 = true then ((channel_areAges.f l0_0 l0_1 l1).bind fun t187 => (channel_Narrowest.j0 k l1 (!t187) l0_0 l0_1)) else (channel_Narrowest.j0 k l1 true l0_0 l0_1))) = some (r1, r2) := h; clear h; have HC3 := Aside0.mk H; clear H
 go_enter Tryz.func21, Tryz.ntmps21
 go_upto_region 1 with (first | ((with_reducible refine gate_dst (N := 2) rfl ?_); refine bxe 2 #[.slice A0_0 l0_0.length c0_0, .slice A0_1 l0_1.length c0_1] 25 ?_; intro gb185 hg w4 hbox hb; have GW185 := gw hg; have GE185 := GW185; have BK185 := Aside0.mk (hbox); replace HB := Aside0.mk (below_step HB.out hb); clear hb hbox hg))
 (try simp only [Act.put, List.setIfInBounds_toArray, List.set_cons_zero, List.set_cons_succ])
 go_step3
 go_upto_region 1 with (fail)
 go_cut [20] (fun v20 wc => ∃ (kq : Nat) (x20_2 : Bool), v20 = .bool x20_2 ∧ Aside0 (channel_Narrowest.j0 kq l1 x20_2 l0_0 l0_1 = some (r1, r2)) ∧ Aside0 (kq ≤ k) ∧ Aside0 (wc.heap[gb185]? = some (.cells #[(.slice A0_0 l0_0.length c0_0), (.slice A0_1 l0_1.length c0_1)] 25 (0, 0))) ∧ Aside0 (Below w.heap.size w wc))
 case first =>
  have H := HC3.out; clear HC3; replace H := Option.bind_eq_some_iff.mp H; obtain ⟨t186, A50, H⟩ := H; replace H : (if t186 = true then ((channel_areAges.f l0_0 l0_1 l1).bind fun t187 => (channel_Narrowest.j0 k l1 (!t187) l0_0 l0_1)) else (channel_Narrowest.j0 k l1 true l0_0 l0_1)) = some (r1, r2) := H; have A5 := Aside0.mk A50; clear A50
  by_cases c6 : t186 = true
  ·subst c6; have H1 : ((channel_areAges.f l0_0 l0_1 l1).bind fun t187 => (channel_Narrowest.j0 k l1 (!t187) l0_0 l0_1)) = some (r1, r2) := by rw [if_pos rfl] at H; exact H
   clear H; have H := H1; clear H1; replace H := Option.bind_eq_some_iff.mp H; obtain ⟨t187, A70, H⟩ := H; replace H : (channel_Narrowest.j0 k l1 (!t187) l0_0 l0_1) = some (r1, r2) := H; have A7 := Aside0.mk A70; clear A70; have H' := Aside0.mk H; clear H; obtain ⟨hcz8_0, hcz8_1⟩ := cz2 BK185.out; obtain ⟨hfz8_0, hfz8_1⟩ := fz2 BK185.out
   go_wp2_with (first | ((with_reducible refine gate_callee (f := 54) rfl ?_); refine goesL_ (some 13) rfl rfl Tryz.func54 (by kernel_rfl) rfl #[.agg #[.slice A0_0 l0_0.length c0_0, .slice A0_1 l0_1.length c0_1]] rfl uM ?_; (with_reducible refine (channel_isLine.calls _ _ l0_0 _ _ l0_1 true _ ?side1 ?side2 ?side3 ?side4 A5.out).mono ?_); (case side1 => exact Kd.C_below HR0_0.out HB.out); (case side2 => exact HC0_0.out); (case side3 => exact Kd.C_below HR0_1.out HB.out); (case side4 => exact HC0_1.out); rintro e w9 ⟨rfl, hb⟩; refine ⟨_, rfl, ?_⟩; replace BK185 := Aside0.mk (blk_below BK185.out hb); replace HB := Aside0.mk (below_step HB.out hb); (try clear hb); obtain ⟨hcz10_0, hcz10_1⟩ := cz2 BK185.out; obtain ⟨hfz10_0, hfz10_1⟩ := fz2 BK185.out) | (go_at_call 59; (with_reducible refine (channel_areAges.calls _ _ l0_0 _ _ l0_1 _ _ l1 t187 _ ?side1 ?side2 ?side3 ?side4 ?side5 ?side6 A7.out).mono ?_); (case side1 => exact Kd.C_below HR0_0.out HB.out); (case side2 => exact HC0_0.out); (case side3 => exact Kd.C_below HR0_1.out HB.out); (case side4 => exact HC0_1.out); (case side5 => exact Kd.C_below HR1.out HB.out); (case side6 => exact HC1.out); rintro e w11 ⟨rfl, hb⟩; replace BK185 := Aside0.mk (blk_below BK185.out hb); replace HB := Aside0.mk (below_step HB.out hb); (try clear hb)))
   go_meet
   case rel => exact ⟨_, (!t187), u0, H', ⟨u1⟩, ⟨uK BK185.out⟩, ⟨uB⟩⟩
  ·replace c6 := Bool.eq_false_iff.mpr c6; subst c6; have H1 : (channel_Narrowest.j0 k l1 true l0_0 l0_1) = some (r1, r2) := by rw [if_neg (show ¬ (false = true) by decide)] at H; exact H
   clear H; have H := H1; clear H1; have H' := Aside0.mk H; clear H; obtain ⟨hcz12_0, hcz12_1⟩ := cz2 BK185.out; obtain ⟨hfz12_0, hfz12_1⟩ := fz2 BK185.out
   go_wp2_with (first | ((with_reducible refine gate_callee (f := 54) rfl ?_); refine goesL_ (some 13) rfl rfl Tryz.func54 (by kernel_rfl) rfl #[.agg #[.slice A0_0 l0_0.length c0_0, .slice A0_1 l0_1.length c0_1]] rfl uM ?_; (with_reducible refine (channel_isLine.calls _ _ l0_0 _ _ l0_1 false _ ?side1 ?side2 ?side3 ?side4 A5.out).mono ?_); (case side1 => exact Kd.C_below HR0_0.out HB.out); (case side2 => exact HC0_0.out); (case side3 => exact Kd.C_below HR0_1.out HB.out); (case side4 => exact HC0_1.out); rintro e w13 ⟨rfl, hb⟩; refine ⟨_, rfl, ?_⟩; replace BK185 := Aside0.mk (blk_below BK185.out hb); replace HB := Aside0.mk (below_step HB.out hb); (try clear hb)))
   go_meet
   case rel => exact ⟨_, (true), u0, H', ⟨u1⟩, ⟨uK BK185.out⟩, ⟨uB⟩⟩
 case rest =>
  clear HC3; try clear c1; try clear c2; try clear p2; try clear c5; try clear c6; try clear hcz10_0; try clear hcz10_1; try clear hcz12_0; try clear hcz12_1; try clear hcz8_0; try clear hcz8_1; try clear hfz10_0; try clear hfz10_1; try clear hfz12_0; try clear hfz12_1; try clear hfz8_0; try clear hfz8_1
  obtain ⟨kq, x20_2, rfl, HA, HJ2, BK185, HB⟩ := hcut
  cases kq with
  | zero => exact absurd HA.out (by simp [channel_Narrowest.j0])
  | succ kj2 =>
   have H := HA.out; clear HA; simp only [channel_Narrowest.j0] at H
   by_cases c14 : x20_2 = true
   ·subst c14; have H1 : (some (([] : List Int), 2)) = some (r1, r2) := by rw [if_pos rfl] at H; exact H
    clear H; have H := H1; clear H1; simp only [Option.some.injEq, Prod.mk.injEq] at H; obtain ⟨rfl, rfl⟩ := H; go_wp2; try rw [Exit.noGoto_ret]
    go_ret2
    exact ⟨_, uE, uN, uB⟩
   ·replace c14 := Bool.eq_false_iff.mpr c14; subst c14; have H1 : ((channel_spans.f kj2 l0_0 l0_1 l1).bind fun t188 => (channel_Narrowest.l0 kj2 t188 ([] : List Int) t188 (t188.length : Int) 0)) = some (r1, r2) := by rw [if_neg (show ¬ (false = true) by decide)] at H; exact H
    clear H; have H := H1; clear H1; replace H := Option.bind_eq_some_iff.mp H; obtain ⟨t188, A150, H⟩ := H; replace H : (channel_Narrowest.l0 kj2 t188 ([] : List Int) t188 (t188.length : Int) 0) = some (r1, r2) := H; have A15 := Aside0.mk A150; clear A150; have H' := Aside0.mk H; clear H; obtain ⟨hcz16_0, hcz16_1⟩ := cz2 BK185.out; obtain ⟨hfz16_0, hfz16_1⟩ := fz2 BK185.out
    go_wp2_with (first | ((with_reducible refine gate_callee (f := 60) rfl ?_); refine goesL_ (some 23) rfl rfl Tryz.func60 (by kernel_rfl) rfl #[.agg #[.slice A0_0 l0_0.length c0_0, .slice A0_1 l0_1.length c0_1], .slice A1 l1.length c1] rfl uM ?_; (with_reducible refine (channel_spans.calls kj2 _ _ l0_0 _ _ l0_1 _ _ l1 t188 _ ?side1 ?side2 ?side3 ?side4 ?side5 ?side6 A15.out).mono ?_); (case side1 => exact Kd.C_below HR0_0.out HB.out); (case side2 => exact HC0_0.out); (case side3 => exact Kd.C_below HR0_1.out HB.out); (case side4 => exact HC0_1.out); (case side5 => exact Kd.C_below HR1.out HB.out); (case side6 => exact HC1.out); rintro e w17 ⟨v189, rfl, ho0, hb⟩; refine ⟨_, rfl, ?_⟩; have HO190 := Aside0.mk (Kd.R_lower ho0 (below_size HB.out)); replace BK185 := Aside0.mk (blk_below BK185.out hb); replace HB := Aside0.mk (below_step HB.out hb); (try clear hb); (try clear ho0); obtain ⟨Ao18, co18, eo18⟩ := Kd.R_slice HO190.out; subst eo18))
    go_step3
    go_wp2
    go_loopg [7, 26] kj2 (fun kq v7 v26 w' => ∃ (x7_2 : List Int) (x26_2 : Int), v26 = .int .i64 x26_2 ∧ Aside0 (channel_Narrowest.l0 kq t188 x7_2 t188 (t188.length : Int) x26_2 = some (r1, r2)) ∧ Aside0 (kq ≤ kj2) ∧ Aside0 (Kd.R k30 30 w' w.heap.size (fun _ => True) (.slice Ao18 t188.length co18) t188) ∧ Aside0 (Kd.R (Kd.int .i64) 3 w' w.heap.size (fun _ => True) v7 x7_2) ∧ Aside0 (Kd.R k30 30 w' w.heap.size (fun _ => True) (.slice Ao18 t188.length co18) t188) ∧ Aside0 (w'.heap[gb185]? = some (.cells #[(.slice A0_0 l0_0.length c0_0), (.slice A0_1 l0_1.length c0_1)] 25 (0, 0))) ∧ Aside0 (Below w.heap.size w w'))
    case atStart => exact ⟨(([] : List Int)), (0), u0, H', ⟨Nat.le_refl _⟩, ⟨uR HO190.out⟩, ⟨uN⟩, ⟨uR HO190.out⟩, ⟨uK BK185.out⟩, ⟨uB⟩⟩
    case round =>
     clear H'; try clear c1; try clear c2; try clear p2; try clear c5; try clear c6; try clear c14; try clear hcz10_0; try clear hcz10_1; try clear hcz12_0; try clear hcz12_1; try clear hcz16_0; try clear hcz16_1; try clear hcz8_0; try clear hcz8_1; try clear hfz10_0; try clear hfz10_1; try clear hfz12_0; try clear hfz12_1; try clear hfz16_0; try clear hfz16_1; try clear hfz8_0; try clear hfz8_1; try clear p2
     obtain ⟨x7_2, x26_2, rfl, HA, HK2, HO_6, HO_7, HO_24, BK185, HB⟩ := hrel
     cases gk with
     | zero => exact absurd HA.out (by simp [channel_Narrowest.l0])
     | succ k2 =>
      have H := HA.out; clear HA; simp only [channel_Narrowest.l0] at H
      by_cases c19 : x26_2 < (t188.length : Int)
      ·rw [if_pos c19] at H; replace c19 := decide_eq_true c19; obtain ⟨c20, H⟩ := ifs H; replace c20 := decide_eq_true c20; obtain ⟨c21, H⟩ := ifs H; replace c21 := decide_eq_true c21; have H' := Aside0.mk H; clear H; have p191 : 0 ≤ (x26_2 : Int) := of_decide_eq_true (by assumption); have q191 : x26_2 < (t188.length : Int) := of_decide_eq_true (by assumption); obtain ⟨ad191, e191, hx191_0, hx191_1⟩ := at_T30 (Kd.R_reads' HO_24.out).2.2 x26_2 p191 q191
       cases e191
       replace p191 := eq_true p191; replace q191 := eq_true q191
       go_wp2_with (first | ((with_reducible refine gate_dst (N := 9) rfl ?_); refine bxe 9 #[.int .i64 0, .int .i64 0] 30 ?_; intro gb192 hg w22 hbox hb; have GW192 := gw hg; have GE192 := GW192; have NB185_192 := nb BK185 hg; have NB192_185 := nc BK185 hg; replace HO_6 := rE HO_6 hg hb; replace HO_7 := Aside0.mk (Kd.R_below (uR HO_7.out) hb); replace HO_24 := rE HO_24 hg hb; replace BK185 := Aside0.mk (blk_below BK185.out hb); have BK192 := Aside0.mk (hbox); replace HB := Aside0.mk (below_step HB.out hb); clear hb hbox hg; have hnb23 := NB192_185.out; have hnc23 := NB185_192.out; obtain ⟨hcz24_0, hcz24_1⟩ := cz2 BK192.out; obtain ⟨hfz24_0, hfz24_1⟩ := fz2 BK192.out))
       go_loopg [33] k2 (fun kq v33 w' => ∃ (x33_3 : Int), v33 = .int .i64 x33_3 ∧ Aside0 (channel_Narrowest.l1 kq t188 x7_2 x26_2 t188 (t188.length : Int) x26_2 t188 (t188.length : Int) x33_3 ((rd_T30 t188 x26_2).f0) ((rd_T30 t188 x26_2).f1) = some (r1, r2)) ∧ Aside0 (kq ≤ k2) ∧ Aside0 (Kd.R k30 30 w' w.heap.size (fun k_ => k_ ≠ gb192) (.slice (some ad191) t188.length co18) t188) ∧ Aside0 (Kd.R (Kd.int .i64) 3 w' w.heap.size (fun _ => True) u7 x7_2) ∧ Aside0 (Kd.R k30 30 w' w.heap.size (fun k_ => k_ ≠ gb192) (.slice (some ad191) t188.length co18) t188) ∧ Aside0 (Kd.R k30 30 w' w.heap.size (fun k_ => k_ ≠ gb192) (.slice (some ad191) t188.length co18) t188) ∧ Aside0 (w'.heap[gb185]? = some (.cells #[(.slice A0_0 l0_0.length c0_0), (.slice A0_1 l0_1.length c0_1)] 25 (0, 0))) ∧ Aside0 (w'.heap[gb192]? = some (.cells #[.int .i64 ((rd_T30 t188 x26_2).f0), .int .i64 ((rd_T30 t188 x26_2).f1)] 30 (0, 0))) ∧ Aside0 (Below w.heap.size w w'))
       case atStart => exact ⟨(0), u0, H', ⟨Nat.le_refl _⟩, ⟨by refine uR ?_; exact Kd.R_mono (Kd.R_far (p := ⟨gb192, 1, none⟩) (Kd.R_far (p := ⟨gb192, 0, none⟩) (Kd.R_mono HO_6.out (fun k_ hk => (⟨hk, hk.2⟩ : _ ∧ k_ ≠ gb192))) (fun _ hk => hk.2) (.int .i64 ((rd_T30 t188 x26_2).f0))) (fun _ hk => hk.2) (.int .i64 ((rd_T30 t188 x26_2).f1))) (fun _ hk => hk.1.2)⟩, ⟨by refine uR ?_; exact Kd.R_mono (Kd.R_far (p := ⟨gb192, 1, none⟩) (Kd.R_far (p := ⟨gb192, 0, none⟩) (Kd.R_types HO_7.out BK192.out (by decide)) (fun _ hk => hk.2) (.int .i64 ((rd_T30 t188 x26_2).f0))) (fun _ hk => hk.2) (.int .i64 ((rd_T30 t188 x26_2).f1))) (fun _ hk => trivial)⟩, ⟨by refine uR ?_; exact Kd.R_mono (Kd.R_far (p := ⟨gb192, 1, none⟩) (Kd.R_far (p := ⟨gb192, 0, none⟩) (Kd.R_mono HO_24.out (fun k_ hk => (⟨hk, hk.2⟩ : _ ∧ k_ ≠ gb192))) (fun _ hk => hk.2) (.int .i64 ((rd_T30 t188 x26_2).f0))) (fun _ hk => hk.2) (.int .i64 ((rd_T30 t188 x26_2).f1))) (fun _ hk => hk.1.2)⟩, ⟨by refine uR ?_; exact Kd.R_mono (Kd.R_far (p := ⟨gb192, 1, none⟩) (Kd.R_far (p := ⟨gb192, 0, none⟩) (Kd.R_mono HO_6.out (fun k_ hk => (⟨hk, hk.2⟩ : _ ∧ k_ ≠ gb192))) (fun _ hk => hk.2) (.int .i64 ((rd_T30 t188 x26_2).f0))) (fun _ hk => hk.2) (.int .i64 ((rd_T30 t188 x26_2).f1))) (fun _ hk => hk.1.2)⟩, ⟨by refine uK ?_; refine blk_far ?_ NB185_192.out _; refine uK ?_; refine blk_far ?_ NB185_192.out _; refine uK ?_; exact BK185.out⟩, ⟨by refine uK ?_; refine blk_put (cs := #[.int .i64 ((rd_T30 t188 x26_2).f0), .int .i64 0]) ?_ 1 _ rfl; refine uK ?_; refine blk_put (cs := #[.int .i64 0, .int .i64 0]) ?_ 0 _ rfl; refine uK ?_; exact BK192.out⟩, ⟨uB⟩⟩
       case round =>
        clear H'; try clear c1; try clear p1; try clear q1; try clear hx1; try clear c2; try clear p2; try clear c5; try clear c6; try clear c14; try clear c19; try clear c19b0; try clear p19; try clear q19; try clear hx19; try clear c20; try clear c20b0; try clear c21; try clear c21b0; try clear c23; try clear hcz10_0; try clear hcz10_1; try clear hcz12_0; try clear hcz12_1; try clear hcz16_0; try clear hcz16_1; try clear hcz24_0; try clear hcz24_1; try clear hcz8_0; try clear hcz8_1; try clear hfz10_0; try clear hfz10_1; try clear hfz12_0; try clear hfz12_1; try clear hfz16_0; try clear hfz16_1; try clear hfz24_0; try clear hfz24_1; try clear hfz8_0; try clear hfz8_1; try clear hx191_0; try clear hx191_1; try clear p191; try clear p2; try clear q191
        obtain ⟨x33_3, rfl, HA, HK3, HO_6, HO_7, HO_24, HO_31, BK185, BK192, HB⟩ := hrel
        cases gk with
        | zero => exact absurd HA.out (by simp [channel_Narrowest.l1])
        | succ k3 =>
         have H := HA.out; clear HA; simp only [channel_Narrowest.l1] at H
         by_cases c25 : x33_3 < (t188.length : Int)
         ·rw [if_pos c25] at H; replace c25 := decide_eq_true c25; obtain ⟨c26, H⟩ := ifs H; replace c26 := decide_eq_true c26; obtain ⟨c27, H⟩ := ifs H; replace c27 := decide_eq_true c27
          by_cases c28 : x33_3 = x26_2
          ·rw [if_pos c28] at H; have c28b0 : (x33_3 == x26_2) = true := beq_iff_eq.mpr c28; have c28b1 : (x33_3 != x26_2) = false := bne_eq_false_iff_eq.mpr c28; clear c28; have H' := Aside0.mk H; clear H; have p193 : 0 ≤ (x33_3 : Int) := of_decide_eq_true (by assumption); have q193 : x33_3 < (t188.length : Int) := of_decide_eq_true (by assumption); obtain ⟨ad193, e193, hx193_0, hx193_1⟩ := at_T30 (Kd.R_reads' HO_31.out).2.2 x33_3 p193 q193; obtain rfl : ad191 = ad193 := (by injection e193); replace p193 := eq_true p193; replace q193 := eq_true q193
           go_wp2_with (first | ((with_reducible refine gate_dst (N := 11) rfl ?_); refine bxe 11 #[.int .i64 0, .int .i64 0] 30 ?_; intro gb194 hg w29 hbox hb; have GW194 := gw hg; have GE194 := GW194; have NB185_194 := nb BK185 hg; have NB194_185 := nc BK185 hg; have NB192_194 := nb BK192 hg; have NB194_192 := nc BK192 hg; replace HO_6 := rE HO_6 hg hb; replace HO_7 := Aside0.mk (Kd.R_below (uR HO_7.out) hb); replace HO_24 := rE HO_24 hg hb; replace HO_31 := rE HO_31 hg hb; replace BK185 := Aside0.mk (blk_below BK185.out hb); replace BK192 := Aside0.mk (blk_below BK192.out hb); have BK194 := Aside0.mk (hbox); replace HB := Aside0.mk (below_step HB.out hb); clear hb hbox hg; have hnb30 := NB194_185.out; have hnc30 := NB185_194.out; have hnb31 := NB194_192.out; have hnc31 := NB192_194.out; obtain ⟨hcz32_0, hcz32_1⟩ := cz2 BK194.out; obtain ⟨hfz32_0, hfz32_1⟩ := fz2 BK194.out))
           go_roundg k3
           case measure => have := HJ2.out; have := HK2.out; have := HK3.out; omega
           case rel => exact ⟨(wrap64 (x33_3 + 1)), u0, H', ⟨by have := HJ2.out; have := HK2.out; have := HK3.out; omega⟩, ⟨by refine uR ?_; exact Kd.R_mono (Kd.R_far (p := ⟨gb194, 1, none⟩) (Kd.R_far (p := ⟨gb194, 0, none⟩) (Kd.R_mono HO_6.out (fun k_ hk => (⟨hk, hk.2⟩ : _ ∧ k_ ≠ gb194))) (fun _ hk => hk.2) (.int .i64 ((rd_T30 t188 x33_3).f0))) (fun _ hk => hk.2) (.int .i64 ((rd_T30 t188 x33_3).f1))) (fun _ hk => hk.1.1)⟩, ⟨by refine uR ?_; exact Kd.R_mono (Kd.R_far (p := ⟨gb194, 1, none⟩) (Kd.R_far (p := ⟨gb194, 0, none⟩) (Kd.R_types HO_7.out BK194.out (by decide)) (fun _ hk => hk.2) (.int .i64 ((rd_T30 t188 x33_3).f0))) (fun _ hk => hk.2) (.int .i64 ((rd_T30 t188 x33_3).f1))) (fun _ hk => trivial)⟩, ⟨by refine uR ?_; exact Kd.R_mono (Kd.R_far (p := ⟨gb194, 1, none⟩) (Kd.R_far (p := ⟨gb194, 0, none⟩) (Kd.R_mono HO_24.out (fun k_ hk => (⟨hk, hk.2⟩ : _ ∧ k_ ≠ gb194))) (fun _ hk => hk.2) (.int .i64 ((rd_T30 t188 x33_3).f0))) (fun _ hk => hk.2) (.int .i64 ((rd_T30 t188 x33_3).f1))) (fun _ hk => hk.1.1)⟩, ⟨by refine uR ?_; exact Kd.R_mono (Kd.R_far (p := ⟨gb194, 1, none⟩) (Kd.R_far (p := ⟨gb194, 0, none⟩) (Kd.R_mono HO_31.out (fun k_ hk => (⟨hk, hk.2⟩ : _ ∧ k_ ≠ gb194))) (fun _ hk => hk.2) (.int .i64 ((rd_T30 t188 x33_3).f0))) (fun _ hk => hk.2) (.int .i64 ((rd_T30 t188 x33_3).f1))) (fun _ hk => hk.1.1)⟩, ⟨by refine uK ?_; refine blk_far ?_ NB185_194.out _; refine uK ?_; refine blk_far ?_ NB185_194.out _; refine uK ?_; exact BK185.out⟩, ⟨by refine uK ?_; refine blk_far ?_ NB192_194.out _; refine uK ?_; refine blk_far ?_ NB192_194.out _; refine uK ?_; exact BK192.out⟩, ⟨uB⟩⟩
          ·rw [if_neg c28] at H; have c28b0 : (x33_3 == x26_2) = false := beq_eq_false_iff_ne.mpr c28; have c28b1 : (x33_3 != x26_2) = true := bne_iff_ne.mpr c28
           by_cases c33 : ((rd_T30 t188 x26_2).f0) > ((rd_T30 t188 x33_3).f1)
           ·rw [if_pos c33] at H; replace c33 := decide_eq_true c33; have H' := Aside0.mk H; clear H; have p193 : 0 ≤ (x33_3 : Int) := of_decide_eq_true (by assumption); have q193 : x33_3 < (t188.length : Int) := of_decide_eq_true (by assumption); obtain ⟨ad193, e193, hx193_0, hx193_1⟩ := at_T30 (Kd.R_reads' HO_31.out).2.2 x33_3 p193 q193; obtain rfl : ad191 = ad193 := (by injection e193); replace p193 := eq_true p193; replace q193 := eq_true q193
            go_wp2_with (first | ((with_reducible refine gate_dst (N := 11) rfl ?_); refine bxe 11 #[.int .i64 0, .int .i64 0] 30 ?_; intro gb194 hg w34 hbox hb; have GW194 := gw hg; have GE194 := GW194; have NB185_194 := nb BK185 hg; have NB194_185 := nc BK185 hg; have NB192_194 := nb BK192 hg; have NB194_192 := nc BK192 hg; replace HO_6 := rE HO_6 hg hb; replace HO_7 := Aside0.mk (Kd.R_below (uR HO_7.out) hb); replace HO_24 := rE HO_24 hg hb; replace HO_31 := rE HO_31 hg hb; replace BK185 := Aside0.mk (blk_below BK185.out hb); replace BK192 := Aside0.mk (blk_below BK192.out hb); have BK194 := Aside0.mk (hbox); replace HB := Aside0.mk (below_step HB.out hb); clear hb hbox hg; have hnb35 := NB194_185.out; have hnc35 := NB185_194.out; have hnb36 := NB194_192.out; have hnc36 := NB192_194.out; obtain ⟨hcz37_0, hcz37_1⟩ := cz2 BK194.out; obtain ⟨hfz37_0, hfz37_1⟩ := fz2 BK194.out; have hnb38 := NB192_185.out; have hnc38 := NB185_192.out; obtain ⟨hcz39_0, hcz39_1⟩ := cz2 BK192.out; obtain ⟨hfz39_0, hfz39_1⟩ := fz2 BK192.out))
            go_roundg k3
            case measure => have := HJ2.out; have := HK2.out; have := HK3.out; omega
            case rel => exact ⟨(x7_2), (wrap64 (x26_2 + 1)), u0, H', ⟨by have := HJ2.out; have := HK2.out; have := HK3.out; omega⟩, ⟨by refine uR ?_; exact Kd.R_mono (Kd.R_far (p := ⟨gb194, 1, none⟩) (Kd.R_far (p := ⟨gb194, 0, none⟩) (Kd.R_mono HO_6.out (fun k_ hk => (⟨hk, hk.2⟩ : _ ∧ k_ ≠ gb194))) (fun _ hk => hk.2) (.int .i64 ((rd_T30 t188 x33_3).f0))) (fun _ hk => hk.2) (.int .i64 ((rd_T30 t188 x33_3).f1))) (fun _ hk => trivial)⟩, ⟨by refine uR ?_; exact Kd.R_mono (Kd.R_far (p := ⟨gb194, 1, none⟩) (Kd.R_far (p := ⟨gb194, 0, none⟩) (Kd.R_types HO_7.out BK194.out (by decide)) (fun _ hk => hk.2) (.int .i64 ((rd_T30 t188 x33_3).f0))) (fun _ hk => hk.2) (.int .i64 ((rd_T30 t188 x33_3).f1))) (fun _ hk => trivial)⟩, ⟨by refine uR ?_; exact Kd.R_mono (Kd.R_far (p := ⟨gb194, 1, none⟩) (Kd.R_far (p := ⟨gb194, 0, none⟩) (Kd.R_mono HO_24.out (fun k_ hk => (⟨hk, hk.2⟩ : _ ∧ k_ ≠ gb194))) (fun _ hk => hk.2) (.int .i64 ((rd_T30 t188 x33_3).f0))) (fun _ hk => hk.2) (.int .i64 ((rd_T30 t188 x33_3).f1))) (fun _ hk => trivial)⟩, ⟨by refine uK ?_; refine blk_far ?_ NB185_194.out _; refine uK ?_; refine blk_far ?_ NB185_194.out _; refine uK ?_; exact BK185.out⟩, ⟨uB⟩⟩
           ·rw [if_neg c33] at H; replace c33 := decide_eq_false c33; have H' := Aside0.mk H; clear H; have p193 : 0 ≤ (x33_3 : Int) := of_decide_eq_true (by assumption); have q193 : x33_3 < (t188.length : Int) := of_decide_eq_true (by assumption); obtain ⟨ad193, e193, hx193_0, hx193_1⟩ := at_T30 (Kd.R_reads' HO_31.out).2.2 x33_3 p193 q193; obtain rfl : ad191 = ad193 := (by injection e193); replace p193 := eq_true p193; replace q193 := eq_true q193
            go_wp2_with (first | ((with_reducible refine gate_dst (N := 11) rfl ?_); refine bxe 11 #[.int .i64 0, .int .i64 0] 30 ?_; intro gb194 hg w40 hbox hb; have GW194 := gw hg; have GE194 := GW194; have NB185_194 := nb BK185 hg; have NB194_185 := nc BK185 hg; have NB192_194 := nb BK192 hg; have NB194_192 := nc BK192 hg; replace HO_6 := rE HO_6 hg hb; replace HO_7 := Aside0.mk (Kd.R_below (uR HO_7.out) hb); replace HO_24 := rE HO_24 hg hb; replace HO_31 := rE HO_31 hg hb; replace BK185 := Aside0.mk (blk_below BK185.out hb); replace BK192 := Aside0.mk (blk_below BK192.out hb); have BK194 := Aside0.mk (hbox); replace HB := Aside0.mk (below_step HB.out hb); clear hb hbox hg; have hnb41 := NB194_185.out; have hnc41 := NB185_194.out; have hnb42 := NB194_192.out; have hnc42 := NB192_194.out; obtain ⟨hcz43_0, hcz43_1⟩ := cz2 BK194.out; obtain ⟨hfz43_0, hfz43_1⟩ := fz2 BK194.out; have hnb44 := NB192_185.out; have hnc44 := NB185_192.out; obtain ⟨hcz45_0, hcz45_1⟩ := cz2 BK192.out; obtain ⟨hfz45_0, hfz45_1⟩ := fz2 BK192.out))
            go_roundg k3
            case measure => have := HJ2.out; have := HK2.out; have := HK3.out; omega
            case rel => exact ⟨(wrap64 (x33_3 + 1)), u0, H', ⟨by have := HJ2.out; have := HK2.out; have := HK3.out; omega⟩, ⟨by refine uR ?_; exact Kd.R_mono (Kd.R_far (p := ⟨gb194, 1, none⟩) (Kd.R_far (p := ⟨gb194, 0, none⟩) (Kd.R_mono HO_6.out (fun k_ hk => (⟨hk, hk.2⟩ : _ ∧ k_ ≠ gb194))) (fun _ hk => hk.2) (.int .i64 ((rd_T30 t188 x33_3).f0))) (fun _ hk => hk.2) (.int .i64 ((rd_T30 t188 x33_3).f1))) (fun _ hk => hk.1.1)⟩, ⟨by refine uR ?_; exact Kd.R_mono (Kd.R_far (p := ⟨gb194, 1, none⟩) (Kd.R_far (p := ⟨gb194, 0, none⟩) (Kd.R_types HO_7.out BK194.out (by decide)) (fun _ hk => hk.2) (.int .i64 ((rd_T30 t188 x33_3).f0))) (fun _ hk => hk.2) (.int .i64 ((rd_T30 t188 x33_3).f1))) (fun _ hk => trivial)⟩, ⟨by refine uR ?_; exact Kd.R_mono (Kd.R_far (p := ⟨gb194, 1, none⟩) (Kd.R_far (p := ⟨gb194, 0, none⟩) (Kd.R_mono HO_24.out (fun k_ hk => (⟨hk, hk.2⟩ : _ ∧ k_ ≠ gb194))) (fun _ hk => hk.2) (.int .i64 ((rd_T30 t188 x33_3).f0))) (fun _ hk => hk.2) (.int .i64 ((rd_T30 t188 x33_3).f1))) (fun _ hk => hk.1.1)⟩, ⟨by refine uR ?_; exact Kd.R_mono (Kd.R_far (p := ⟨gb194, 1, none⟩) (Kd.R_far (p := ⟨gb194, 0, none⟩) (Kd.R_mono HO_31.out (fun k_ hk => (⟨hk, hk.2⟩ : _ ∧ k_ ≠ gb194))) (fun _ hk => hk.2) (.int .i64 ((rd_T30 t188 x33_3).f0))) (fun _ hk => hk.2) (.int .i64 ((rd_T30 t188 x33_3).f1))) (fun _ hk => hk.1.1)⟩, ⟨by refine uK ?_; refine blk_far ?_ NB185_194.out _; refine uK ?_; refine blk_far ?_ NB185_194.out _; refine uK ?_; exact BK185.out⟩, ⟨by refine uK ?_; refine blk_far ?_ NB192_194.out _; refine uK ?_; refine blk_far ?_ NB192_194.out _; refine uK ?_; exact BK192.out⟩, ⟨uB⟩⟩
         ·rw [if_neg c25] at H; replace c25 := decide_eq_false c25; obtain ⟨c46, H⟩ := ifs H; have LMc46 := Aside0.mk c46; clear c46; obtain ⟨y195, hy195⟩ : ∃ y_ : List Int, y_ = (x7_2 ++ [x26_2]) := ⟨_, rfl⟩; rw [← hy195] at H; have Ny195 := Aside0.mk hy195; clear hy195; have H' := Aside0.mk H; clear H
          go_wp2_with (first | ((with_reducible refine gate_builtin (b := .append) (xs := #[.tmp 49, .tmp 51]) rfl ?_); at_builtin; refine Kd.R_append (Kd.int .i64) (w0 := w) w.heap.size rfl (.tmp 49) (.tmp 51) 22 3 (.int .i64 0) 8 rfl Tryz.underlying22 info3 rfl (by decide) (by omega) u7 x7_2 x26_2 [.int .i64 x26_2] (fun _ => True) (fun _ => False) rfl rfl ?aP (fun _ hk => hk.elim) ?aF ?aO ?aB ?aS ?aL ?_; (case aP => exact rfl); (case aB => exact HB.out); (case aF => exact (fun _ _ => trivial)); (case aO => exact (uR HO_7.out)); (case aS => exact (below_size HB.out)); (case aL => have := LMc46.out; omega); intro v196 w47 ho hb hg hat; rw [← Ny195.out] at ho; replace HO_6 := Aside0.mk (Kd.R_over' (uR HO_6.out) (Kd.R_typed (uR HO_7.out)) (by decide) hg); replace HO_24 := Aside0.mk (Kd.R_over' (uR HO_24.out) (Kd.R_typed (uR HO_7.out)) (by decide) hg); replace HO_31 := Aside0.mk (Kd.R_over' (uR HO_31.out) (Kd.R_typed (uR HO_7.out)) (by decide) hg); replace BK185 := Aside0.mk (blk_grown BK185.out hg (Kd.R_ne HO_7.out BK185.out (by decide))); replace BK192 := Aside0.mk (blk_grown BK192.out hg (Kd.R_ne HO_7.out BK192.out (by decide))); have HO197 := Aside0.mk (ho); replace HB := Aside0.mk (hb); clear HO_7; clear ho hb hg hat))
          go_roundg k3
          case measure => have := HJ2.out; have := HK2.out; have := HK3.out; omega
          case rel => exact ⟨(y195), (wrap64 (x26_2 + 1)), u0, H', ⟨by have := HJ2.out; have := HK2.out; have := HK3.out; omega⟩, ⟨by refine uR ?_; exact Kd.R_mono HO_6.out (fun _ hk => trivial)⟩, ⟨uR HO197.out⟩, ⟨by refine uR ?_; exact Kd.R_mono HO_24.out (fun _ hk => trivial)⟩, ⟨uK BK185.out⟩, ⟨uB⟩⟩
      ·rw [if_neg c19] at H; replace c19 := decide_eq_false c19; simp only [Option.some.injEq, Prod.mk.injEq] at H; obtain ⟨rfl, rfl⟩ := H; go_wp2; try rw [Exit.noGoto_ret]
       go_ret2
       exact ⟨_, uE, uR HO_7.out, uB⟩
end Go.Proofs.YtdmdahafiiggiaaGreatDoor.K
end
section
namespace Go.Proofs.YtdmdahafiiggiaaGreatDoor.K
open Go.RowKit Go.Proofs.YtdmdahafiiggiaaGreatDoorW.PrintWords Go.Proofs.YtdmdahafiiggiaaGreatDoorW.PrintLast Go.Proofs.YtdmdahafiiggiaaGreatDoorW.PrintMore
attribute [local go_sem] max2_int min2_int max_two min_two max_three min_three max_four min_four
def channel_Latest.j0 : Nat → Int → Int → Bool → List Int → List (S32) → Option (Int × Int)
 | 0, _, _, _, _, _ => none
 | k + 1, x1, x2, x22, x213000, x213001 => if x22 = true then (some (0, 2)) else ((channel_latest.f k x213000 x213001 x1 x2).bind fun t216 => (if t216 < 0 then (some (0, 5)) else (some (t216, 0))))
def channel_Latest.f (k : Nat) (l0_0 : List Int) (l0_1 : List (S32)) (a1 : Int) (a2 : Int) : Option (Int × Int) := (channel_isLine.f l0_0 l0_1).bind fun t213 => (if t213 = true then ((channel_isStretch.f l0_0 l0_1 a1).bind fun t214 => (if t214 = true then ((channel_isNeed.f a2).bind fun t215 => (channel_Latest.j0 k a1 a2 (!t215) l0_0 l0_1)) else (channel_Latest.j0 k a1 a2 true l0_0 l0_1))) else (channel_Latest.j0 k a1 a2 true l0_0 l0_1))
set_option maxHeartbeats 8000000 in
set_option maxRecDepth 100000 in
theorem channel_Latest.calls (k : Nat) (A0_0 : Option Addr) (c0_0 : Nat) (l0_0 : List Int) (A0_1 : Option Addr) (c0_1 : Nat) (l0_1 : List (S32)) (a1 : Int) (a2 : Int) (r1 : Int) (r2 : Int) (w : World) (hr0_0 : Kd.C (Kd.int .i64) w A0_0 l0_0.length l0_0) (hc0_0 : l0_0.length ≤ c0_0) (hr0_1 : Kd.C k32 w A0_1 l0_1.length l0_1) (hc0_1 : l0_1.length ≤ c0_1) (h : channel_Latest.f k l0_0 l0_1 a1 a2 = some (r1, r2)) :
  Calls Tryz.prog 27 #[.agg #[.slice A0_0 l0_0.length c0_0, .slice A0_1 l0_1.length c0_1], .int .i64 a1, .int .i64 a2] w fun e w' => e = .returned (.tuple #[.int .i64 r1, .int .i64 r2]) ∧ Below w.heap.size w w' := by
 have hu25 := Tryz.underlying25; have HR0_0 := Aside0.mk hr0_0; have HC0_0 := Aside0.mk hc0_0; clear hr0_0 hc0_0; have HR0_1 := Aside0.mk hr0_1; have HC0_1 := Aside0.mk hc0_1; clear hr0_1 hc0_1; have HB := Aside0.mk (Below.refl w.heap.size w); have H : ((channel_isLine.f l0_0 l0_1).bind fun t213 => (if t213 = true then ((channel_isStretch.f l0_0 l0_1 a1).bind fun t214 => (if t214 = true then ((channel_isNeed.f a2).bind fun t215 => (channel_Latest.j0 k a1 a2 (!t215) l0_0 l0_1)) else (channel_Latest.j0 k a1 a2 true l0_0 l0_1))) else (channel_Latest.j0 k a1 a2 true l0_0 l0_1))) = some (r1, r2) := h; clear h; have HC4 := Aside0.mk H; clear H
 go_enter Tryz.func27, Tryz.ntmps27
 go_upto_region 1 with (first | ((with_reducible refine gate_dst (N := 3) rfl ?_); refine bxe 3 #[.slice A0_0 l0_0.length c0_0, .slice A0_1 l0_1.length c0_1] 25 ?_; intro gb212 hg w5 hbox hb; have n0_ := Aside0.mk (below_step HB.out hb); have n1_ := Aside0.mk (hbox); have n2_ := gw hg; have n3_ := n2_; clear HB; have HB := n0_; have BK212 := n1_; have GW212 := n2_; have GE212 := n3_; clear n0_ n1_ n2_ n3_; clear hb hbox hg))
 (try simp only [Act.put, List.setIfInBounds_toArray, List.set_cons_zero, List.set_cons_succ])
 go_cut [22] (fun v22 wc => ∃ (kq : Nat) (x22_3 : Bool), v22 = .bool x22_3 ∧ Aside0 (channel_Latest.j0 kq a1 a2 x22_3 l0_0 l0_1 = some (r1, r2)) ∧ Aside0 (kq ≤ k) ∧ Aside0 (wc.heap[gb212]? = some (.cells #[(.slice A0_0 l0_0.length c0_0), (.slice A0_1 l0_1.length c0_1)] 25 (0, 0))) ∧ Aside0 (Below w.heap.size w wc))
 case first =>
  have H := HC4.out; clear HC4; replace H := Option.bind_eq_some_iff.mp H; obtain ⟨t213, A60, H⟩ := H; replace H : (if t213 = true then ((channel_isStretch.f l0_0 l0_1 a1).bind fun t214 => (if t214 = true then ((channel_isNeed.f a2).bind fun t215 => (channel_Latest.j0 k a1 a2 (!t215) l0_0 l0_1)) else (channel_Latest.j0 k a1 a2 true l0_0 l0_1))) else (channel_Latest.j0 k a1 a2 true l0_0 l0_1)) = some (r1, r2) := H; have A6 := Aside0.mk A60; clear A60
  by_cases c7 : t213 = true
  ·subst c7; have H1 : ((channel_isStretch.f l0_0 l0_1 a1).bind fun t214 => (if t214 = true then ((channel_isNeed.f a2).bind fun t215 => (channel_Latest.j0 k a1 a2 (!t215) l0_0 l0_1)) else (channel_Latest.j0 k a1 a2 true l0_0 l0_1))) = some (r1, r2) := by rw [if_pos rfl] at H; exact H
   clear H; have H := H1; clear H1; replace H := Option.bind_eq_some_iff.mp H; obtain ⟨t214, A80, H⟩ := H; replace H : (if t214 = true then ((channel_isNeed.f a2).bind fun t215 => (channel_Latest.j0 k a1 a2 (!t215) l0_0 l0_1)) else (channel_Latest.j0 k a1 a2 true l0_0 l0_1)) = some (r1, r2) := H; have A8 := Aside0.mk A80; clear A80
   by_cases c9 : t214 = true
   ·subst c9; have H1 : ((channel_isNeed.f a2).bind fun t215 => (channel_Latest.j0 k a1 a2 (!t215) l0_0 l0_1)) = some (r1, r2) := by rw [if_pos rfl] at H; exact H
    clear H; have H := H1; clear H1; replace H := Option.bind_eq_some_iff.mp H; obtain ⟨t215, A100, H⟩ := H; replace H : (channel_Latest.j0 k a1 a2 (!t215) l0_0 l0_1) = some (r1, r2) := H; have A10 := Aside0.mk A100; clear A100; have H' := Aside0.mk H; clear H; obtain ⟨hcz11_0, hcz11_1⟩ := cz2 BK212.out; obtain ⟨hfz11_0, hfz11_1⟩ := fz2 BK212.out
    go_wp2_with (first | ((with_reducible refine gate_callee (f := 54) rfl ?_); refine goesL_ (some 10) rfl rfl Tryz.func54 (by kernel_rfl) rfl #[.agg #[.slice A0_0 l0_0.length c0_0, .slice A0_1 l0_1.length c0_1]] rfl uM ?_; (with_reducible refine (channel_isLine.calls _ _ l0_0 _ _ l0_1 true _ ?side1 ?side2 ?side3 ?side4 A6.out).mono ?_); (case side1 => exact Kd.C_below HR0_0.out HB.out); (case side2 => exact HC0_0.out); (case side3 => exact Kd.C_below HR0_1.out HB.out); (case side4 => exact HC0_1.out); rintro e w12 ⟨rfl, hb⟩; refine ⟨_, rfl, ?_⟩; replace BK212 := Aside0.mk (blk_below BK212.out hb); replace HB := Aside0.mk (below_step HB.out hb); (try clear hb); obtain ⟨hcz13_0, hcz13_1⟩ := cz2 BK212.out; obtain ⟨hfz13_0, hfz13_1⟩ := fz2 BK212.out) | (go_at_call 55; (with_reducible refine (channel_isStretch.calls _ _ l0_0 _ _ l0_1 a1 true _ ?side1 ?side2 ?side3 ?side4 A8.out).mono ?_); (case side1 => exact Kd.C_below HR0_0.out HB.out); (case side2 => exact HC0_0.out); (case side3 => exact Kd.C_below HR0_1.out HB.out); (case side4 => exact HC0_1.out); rintro e w14 ⟨rfl, hb⟩; replace BK212 := Aside0.mk (blk_below BK212.out hb); replace HB := Aside0.mk (below_step HB.out hb); (try clear hb)) | (go_at_call 63; (with_reducible refine (channel_isNeed.calls a2 t215 _ A10.out).mono ?_); rintro e w' ⟨rfl, ⟨nd, rfl⟩⟩))
    go_meet
    case rel => exact ⟨_, (!t215), u0, H', ⟨u1⟩, ⟨uK BK212.out⟩, ⟨uB⟩⟩
   ·replace c9 := Bool.eq_false_iff.mpr c9; subst c9; have H1 : (channel_Latest.j0 k a1 a2 true l0_0 l0_1) = some (r1, r2) := by rw [if_neg (show ¬ (false = true) by decide)] at H; exact H
    clear H; have H := H1; clear H1; have H' := Aside0.mk H; clear H; obtain ⟨hcz15_0, hcz15_1⟩ := cz2 BK212.out; obtain ⟨hfz15_0, hfz15_1⟩ := fz2 BK212.out
    go_wp2_with (first | ((with_reducible refine gate_callee (f := 54) rfl ?_); refine goesL_ (some 10) rfl rfl Tryz.func54 (by kernel_rfl) rfl #[.agg #[.slice A0_0 l0_0.length c0_0, .slice A0_1 l0_1.length c0_1]] rfl uM ?_; (with_reducible refine (channel_isLine.calls _ _ l0_0 _ _ l0_1 true _ ?side1 ?side2 ?side3 ?side4 A6.out).mono ?_); (case side1 => exact Kd.C_below HR0_0.out HB.out); (case side2 => exact HC0_0.out); (case side3 => exact Kd.C_below HR0_1.out HB.out); (case side4 => exact HC0_1.out); rintro e w16 ⟨rfl, hb⟩; refine ⟨_, rfl, ?_⟩; replace BK212 := Aside0.mk (blk_below BK212.out hb); replace HB := Aside0.mk (below_step HB.out hb); (try clear hb); obtain ⟨hcz17_0, hcz17_1⟩ := cz2 BK212.out; obtain ⟨hfz17_0, hfz17_1⟩ := fz2 BK212.out) | (go_at_call 55; (with_reducible refine (channel_isStretch.calls _ _ l0_0 _ _ l0_1 a1 false _ ?side1 ?side2 ?side3 ?side4 A8.out).mono ?_); (case side1 => exact Kd.C_below HR0_0.out HB.out); (case side2 => exact HC0_0.out); (case side3 => exact Kd.C_below HR0_1.out HB.out); (case side4 => exact HC0_1.out); rintro e w18 ⟨rfl, hb⟩; replace BK212 := Aside0.mk (blk_below BK212.out hb); replace HB := Aside0.mk (below_step HB.out hb); (try clear hb)))
    go_meet
    case rel => exact ⟨_, (true), u0, H', ⟨u1⟩, ⟨uK BK212.out⟩, ⟨uB⟩⟩
  ·replace c7 := Bool.eq_false_iff.mpr c7; subst c7; have H1 : (channel_Latest.j0 k a1 a2 true l0_0 l0_1) = some (r1, r2) := by rw [if_neg (show ¬ (false = true) by decide)] at H; exact H
   clear H; have H := H1; clear H1; have H' := Aside0.mk H; clear H; obtain ⟨hcz19_0, hcz19_1⟩ := cz2 BK212.out; obtain ⟨hfz19_0, hfz19_1⟩ := fz2 BK212.out
   go_wp2_with (first | ((with_reducible refine gate_callee (f := 54) rfl ?_); refine goesL_ (some 10) rfl rfl Tryz.func54 (by kernel_rfl) rfl #[.agg #[.slice A0_0 l0_0.length c0_0, .slice A0_1 l0_1.length c0_1]] rfl uM ?_; (with_reducible refine (channel_isLine.calls _ _ l0_0 _ _ l0_1 false _ ?side1 ?side2 ?side3 ?side4 A6.out).mono ?_); (case side1 => exact Kd.C_below HR0_0.out HB.out); (case side2 => exact HC0_0.out); (case side3 => exact Kd.C_below HR0_1.out HB.out); (case side4 => exact HC0_1.out); rintro e w20 ⟨rfl, hb⟩; refine ⟨_, rfl, ?_⟩; replace BK212 := Aside0.mk (blk_below BK212.out hb); replace HB := Aside0.mk (below_step HB.out hb); (try clear hb)))
   go_meet
   case rel => exact ⟨_, (true), u0, H', ⟨u1⟩, ⟨uK BK212.out⟩, ⟨uB⟩⟩
 case rest =>
  clear HC4; try clear c2; try clear p2; try clear c5; try clear c7; try clear c9; try clear hcz11_0; try clear hcz11_1; try clear hcz13_0; try clear hcz13_1; try clear hcz15_0; try clear hcz15_1; try clear hcz17_0; try clear hcz17_1; try clear hcz19_0; try clear hcz19_1; try clear hfz11_0; try clear hfz11_1; try clear hfz13_0; try clear hfz13_1; try clear hfz15_0; try clear hfz15_1; try clear hfz17_0; try clear hfz17_1; try clear hfz19_0; try clear hfz19_1
  obtain ⟨kq, x22_3, rfl, HA, HJ3, BK212, HB⟩ := hcut
  cases kq with
  | zero => exact absurd HA.out (by simp [channel_Latest.j0])
  | succ kj3 =>
   have H := HA.out; clear HA; simp only [channel_Latest.j0] at H
   by_cases c21 : x22_3 = true
   ·subst c21; have H1 : (some (0, 2)) = some (r1, r2) := by rw [if_pos rfl] at H; exact H
    clear H; have H := H1; clear H1; simp only [Option.some.injEq, Prod.mk.injEq] at H; obtain ⟨rfl, rfl⟩ := H; go_wp2
    go_ret2
    exact ⟨uE, uB⟩
   ·replace c21 := Bool.eq_false_iff.mpr c21; subst c21; have H1 : ((channel_latest.f kj3 l0_0 l0_1 a1 a2).bind fun t216 => (if t216 < 0 then (some (0, 5)) else (some (t216, 0)))) = some (r1, r2) := by rw [if_neg (show ¬ (false = true) by decide)] at H; exact H
    clear H; have H := H1; clear H1; replace H := Option.bind_eq_some_iff.mp H; obtain ⟨t216, A220, H⟩ := H; replace H : (if t216 < 0 then (some (0, 5)) else (some (t216, 0))) = some (r1, r2) := H; have A22 := Aside0.mk A220; clear A220
    by_cases c23 : t216 < 0
    ·rw [if_pos c23] at H; replace c23 := decide_eq_true c23; simp only [Option.some.injEq, Prod.mk.injEq] at H; obtain ⟨rfl, rfl⟩ := H; obtain ⟨hcz24_0, hcz24_1⟩ := cz2 BK212.out; obtain ⟨hfz24_0, hfz24_1⟩ := fz2 BK212.out
     go_wp2_with (first | ((with_reducible refine gate_callee (f := 64) rfl ?_); refine goesL_ (some 26) rfl rfl Tryz.func64 (by kernel_rfl) rfl #[.agg #[.slice A0_0 l0_0.length c0_0, .slice A0_1 l0_1.length c0_1], .int .i64 a1, .int .i64 a2] rfl uM ?_; (with_reducible refine (channel_latest.calls kj3 _ _ l0_0 _ _ l0_1 a1 a2 t216 _ ?side1 ?side2 ?side3 ?side4 A22.out).mono ?_); (case side1 => exact Kd.C_below HR0_0.out HB.out); (case side2 => exact HC0_0.out); (case side3 => exact Kd.C_below HR0_1.out HB.out); (case side4 => exact HC0_1.out); rintro e w25 ⟨rfl, hb⟩; refine ⟨_, rfl, ?_⟩; replace BK212 := Aside0.mk (blk_below BK212.out hb); replace HB := Aside0.mk (below_step HB.out hb); (try clear hb)))
     go_ret2
     exact ⟨uE, uB⟩
    ·rw [if_neg c23] at H; replace c23 := decide_eq_false c23; simp only [Option.some.injEq, Prod.mk.injEq] at H; obtain ⟨rfl, rfl⟩ := H; obtain ⟨hcz26_0, hcz26_1⟩ := cz2 BK212.out; obtain ⟨hfz26_0, hfz26_1⟩ := fz2 BK212.out
     go_wp2_with (first | ((with_reducible refine gate_callee (f := 64) rfl ?_); refine goesL_ (some 26) rfl rfl Tryz.func64 (by kernel_rfl) rfl #[.agg #[.slice A0_0 l0_0.length c0_0, .slice A0_1 l0_1.length c0_1], .int .i64 a1, .int .i64 a2] rfl uM ?_; (with_reducible refine (channel_latest.calls kj3 _ _ l0_0 _ _ l0_1 a1 a2 t216 _ ?side1 ?side2 ?side3 ?side4 A22.out).mono ?_); (case side1 => exact Kd.C_below HR0_0.out HB.out); (case side2 => exact HC0_0.out); (case side3 => exact Kd.C_below HR0_1.out HB.out); (case side4 => exact HC0_1.out); rintro e w27 ⟨rfl, hb⟩; refine ⟨_, rfl, ?_⟩; replace BK212 := Aside0.mk (blk_below BK212.out hb); replace HB := Aside0.mk (below_step HB.out hb); (try clear hb)))
     go_ret2
     exact ⟨uE, uB⟩
end Go.Proofs.YtdmdahafiiggiaaGreatDoor.K
end
section
namespace Go.Proofs.YtdmdahafiiggiaaGreatDoor.K
open Go.RowKit Go.Proofs.YtdmdahafiiggiaaGreatDoorW.PrintWords Go.Proofs.YtdmdahafiiggiaaGreatDoorW.PrintLast Go.Proofs.YtdmdahafiiggiaaGreatDoorW.PrintMore
attribute [local go_sem] max2_int min2_int max_two min_two max_three min_three max_four min_four
mutual
def channel_Widen.j0 : Nat → List Int → Int → Bool → List Int → List (S32) → Option (List Int × Int)
 | 0, _, _, _, _, _ => none
 | k + 1, x1, x2, x25, x218000, x218001 => if x25 = true then (some (([] : List Int), 2)) else (channel_Widen.l0 k x2 ([] : List Int) x1 (x1.length : Int) 0 x218000 x218001)
def channel_Widen.l0 : Nat → Int → List Int → List Int → Int → Int → List Int → List (S32) → Option (List Int × Int)
 | 0, _, _, _, _, _, _, _ => none
 | k + 1, x2, x8, x26, x27, x28, x218000, x218001 => if x28 < x27 then (if 0 ≤ x28 then (if x28 < (x26.length : Int) then ((channel_aging.f x218000 x218001 x28 (rd x26 x28)).bind fun bt222 => (channel_Widen.l1 k x2 x8 x26 x27 x28 x218000 x218001 bt222.1 bt222.2.1 bt222.2.2.1 bt222.2.2.2.1 bt222.2.2.2.2.1 bt222.2.2.2.2.2.1 bt222.2.2.2.2.2.2)) else (none)) else (none)) else (some (x8, 0))
def channel_Widen.l1 : Nat → Int → List Int → List Int → Int → Int → List Int → List (S32) → Int → Int → Int → Int → Int → Int → Int → Option (List Int × Int)
 | 0, _, _, _, _, _, _, _, _, _, _, _, _, _, _ => none
 | k + 1, x2, x8, x26, x27, x28, x218000, x218001, x230000, x230001, x230002, x230003, x230004, x230005, x230006 => if x230000 ≤ 100 then ((channel_aged_least.f x230000 x230001 x230002 x230003 x230004 x230005 x230006).bind fun t230 => (if t230 < x2 then (channel_Widen.l1 k x2 x8 x26 x27 x28 x218000 x218001 (wrap64 (x230000 + 1)) x230001 x230002 x230003 x230004 x230005 x230006) else (if x230000 > 100 then (some (([] : List Int), 5)) else (if x8.length < 17592186044416 then (channel_Widen.l0 k x2 (x8 ++ [x230000]) x26 x27 (wrap64 (x28 + 1)) x218000 x218001) else (none))))) else (if x230000 > 100 then (some (([] : List Int), 5)) else (if x8.length < 17592186044416 then (channel_Widen.l0 k x2 (x8 ++ [x230000]) x26 x27 (wrap64 (x28 + 1)) x218000 x218001) else (none)))
end
def channel_Widen.f (k : Nat) (l0_0 : List Int) (l0_1 : List (S32)) (l1 : List Int) (a2 : Int) : Option (List Int × Int) := (channel_isLine.f l0_0 l0_1).bind fun t218 => (if t218 = true then ((channel_areAges.f l0_0 l0_1 l1).bind fun t219 => (if t219 = true then ((channel_isNeed.f a2).bind fun t220 => (channel_Widen.j0 k l1 a2 (!t220) l0_0 l0_1)) else (channel_Widen.j0 k l1 a2 true l0_0 l0_1))) else (channel_Widen.j0 k l1 a2 true l0_0 l0_1))
set_option maxHeartbeats 8000000 in
set_option maxRecDepth 100000 in
theorem channel_Widen.calls (k : Nat) (A0_0 : Option Addr) (c0_0 : Nat) (l0_0 : List Int) (A0_1 : Option Addr) (c0_1 : Nat) (l0_1 : List (S32)) (A1 : Option Addr) (c1 : Nat) (l1 : List Int) (a2 : Int) (r1 : List Int) (r2 : Int) (w : World) (hr0_0 : Kd.C (Kd.int .i64) w A0_0 l0_0.length l0_0) (hc0_0 : l0_0.length ≤ c0_0) (hr0_1 : Kd.C k32 w A0_1 l0_1.length l0_1) (hc0_1 : l0_1.length ≤ c0_1) (hr1 : Kd.C (Kd.int .i64) w A1 l1.length l1) (hc1 : l1.length ≤ c1) (h : channel_Widen.f k l0_0 l0_1 l1 a2 = some (r1, r2)) :
  Calls Tryz.prog 28 #[.agg #[.slice A0_0 l0_0.length c0_0, .slice A0_1 l0_1.length c0_1], .slice A1 l1.length c1, .int .i64 a2] w fun e w' => ∃ v0_ : Value, e = .returned (.tuple #[v0_, .int .i64 r2]) ∧ Kd.R (Kd.int .i64) 3 w' w.heap.size (fun _ => True) v0_ r1 ∧ Below w.heap.size w w' := by
 have hu25 := Tryz.underlying25; have hu93 := Tryz.underlying93; have HR0_0 := Aside0.mk hr0_0; have HC0_0 := Aside0.mk hc0_0; clear hr0_0 hc0_0; have HR0_1 := Aside0.mk hr0_1; have HC0_1 := Aside0.mk hc0_1; clear hr0_1 hc0_1; have HR1 := Aside0.mk hr1; have HC1 := Aside0.mk hc1; clear hr1 hc1; have HB := Aside0.mk (Below.refl w.heap.size w); have H : ((channel_isLine.f l0_0 l0_1).bind fun t218 => (if t218 = true then ((channel_areAges.f l0_0 l0_1 l1).bind fun t219 => (if t219 = true then ((channel_isNeed.f a2).bind fun t220 => (channel_Widen.j0 k l1 a2 (!t220) l0_0 l0_1)) else (channel_Widen.j0 k l1 a2 true l0_0 l0_1))) else (channel_Widen.j0 k l1 a2 true l0_0 l0_1))) = some (r1, r2) := h; clear h; have HC4 := Aside0.mk H; clear H
 go_enter Tryz.func28, Tryz.ntmps28
 go_upto_region 1 with (first | ((with_reducible refine gate_dst (N := 3) rfl ?_); refine bxe 3 #[.slice A0_0 l0_0.length c0_0, .slice A0_1 l0_1.length c0_1] 25 ?_; intro gb217 hg w5 hbox hb; have GW217 := gw hg; have GE217 := GW217; have BK217 := Aside0.mk (hbox); replace HB := Aside0.mk (below_step HB.out hb); clear hb hbox hg))
 (try simp only [Act.put, List.setIfInBounds_toArray, List.set_cons_zero, List.set_cons_succ])
 go_cut [25] (fun v25 wc => ∃ (kq : Nat) (x25_3 : Bool), v25 = .bool x25_3 ∧ Aside0 (channel_Widen.j0 kq l1 a2 x25_3 l0_0 l0_1 = some (r1, r2)) ∧ Aside0 (kq ≤ k) ∧ Aside0 (wc.heap[gb217]? = some (.cells #[(.slice A0_0 l0_0.length c0_0), (.slice A0_1 l0_1.length c0_1)] 25 (0, 0))) ∧ Aside0 (Below w.heap.size w wc))
 case first =>
  have H := HC4.out; clear HC4; replace H := Option.bind_eq_some_iff.mp H; obtain ⟨t218, A60, H⟩ := H; replace H : (if t218 = true then ((channel_areAges.f l0_0 l0_1 l1).bind fun t219 => (if t219 = true then ((channel_isNeed.f a2).bind fun t220 => (channel_Widen.j0 k l1 a2 (!t220) l0_0 l0_1)) else (channel_Widen.j0 k l1 a2 true l0_0 l0_1))) else (channel_Widen.j0 k l1 a2 true l0_0 l0_1)) = some (r1, r2) := H; have A6 := Aside0.mk A60; clear A60
  by_cases c7 : t218 = true
  ·subst c7; have H1 : ((channel_areAges.f l0_0 l0_1 l1).bind fun t219 => (if t219 = true then ((channel_isNeed.f a2).bind fun t220 => (channel_Widen.j0 k l1 a2 (!t220) l0_0 l0_1)) else (channel_Widen.j0 k l1 a2 true l0_0 l0_1))) = some (r1, r2) := by rw [if_pos rfl] at H; exact H
   clear H; have H := H1; clear H1; replace H := Option.bind_eq_some_iff.mp H; obtain ⟨t219, A80, H⟩ := H; replace H : (if t219 = true then ((channel_isNeed.f a2).bind fun t220 => (channel_Widen.j0 k l1 a2 (!t220) l0_0 l0_1)) else (channel_Widen.j0 k l1 a2 true l0_0 l0_1)) = some (r1, r2) := H; have A8 := Aside0.mk A80; clear A80
   by_cases c9 : t219 = true
   ·subst c9; have H1 : ((channel_isNeed.f a2).bind fun t220 => (channel_Widen.j0 k l1 a2 (!t220) l0_0 l0_1)) = some (r1, r2) := by rw [if_pos rfl] at H; exact H
    clear H; have H := H1; clear H1; replace H := Option.bind_eq_some_iff.mp H; obtain ⟨t220, A100, H⟩ := H; replace H : (channel_Widen.j0 k l1 a2 (!t220) l0_0 l0_1) = some (r1, r2) := H; have A10 := Aside0.mk A100; clear A100; have H' := Aside0.mk H; clear H; obtain ⟨hcz11_0, hcz11_1⟩ := cz2 BK217.out; obtain ⟨hfz11_0, hfz11_1⟩ := fz2 BK217.out
    go_wp2_with (first | ((with_reducible refine gate_callee (f := 54) rfl ?_); refine goesL_ (some 13) rfl rfl Tryz.func54 (by kernel_rfl) rfl #[.agg #[.slice A0_0 l0_0.length c0_0, .slice A0_1 l0_1.length c0_1]] rfl uM ?_; (with_reducible refine (channel_isLine.calls _ _ l0_0 _ _ l0_1 true _ ?side1 ?side2 ?side3 ?side4 A6.out).mono ?_); (case side1 => exact Kd.C_below HR0_0.out HB.out); (case side2 => exact HC0_0.out); (case side3 => exact Kd.C_below HR0_1.out HB.out); (case side4 => exact HC0_1.out); rintro e w12 ⟨rfl, hb⟩; refine ⟨_, rfl, ?_⟩; replace BK217 := Aside0.mk (blk_below BK217.out hb); replace HB := Aside0.mk (below_step HB.out hb); (try clear hb); obtain ⟨hcz13_0, hcz13_1⟩ := cz2 BK217.out; obtain ⟨hfz13_0, hfz13_1⟩ := fz2 BK217.out) | (go_at_call 59; (with_reducible refine (channel_areAges.calls _ _ l0_0 _ _ l0_1 _ _ l1 true _ ?side1 ?side2 ?side3 ?side4 ?side5 ?side6 A8.out).mono ?_); (case side1 => exact Kd.C_below HR0_0.out HB.out); (case side2 => exact HC0_0.out); (case side3 => exact Kd.C_below HR0_1.out HB.out); (case side4 => exact HC0_1.out); (case side5 => exact Kd.C_below HR1.out HB.out); (case side6 => exact HC1.out); rintro e w14 ⟨rfl, hb⟩; replace BK217 := Aside0.mk (blk_below BK217.out hb); replace HB := Aside0.mk (below_step HB.out hb); (try clear hb)) | (go_at_call 63; (with_reducible refine (channel_isNeed.calls a2 t220 _ A10.out).mono ?_); rintro e w' ⟨rfl, ⟨nd, rfl⟩⟩))
    go_meet
    case rel => exact ⟨_, (!t220), u0, H', ⟨u1⟩, ⟨uK BK217.out⟩, ⟨uB⟩⟩
   ·replace c9 := Bool.eq_false_iff.mpr c9; subst c9; have H1 : (channel_Widen.j0 k l1 a2 true l0_0 l0_1) = some (r1, r2) := by rw [if_neg (show ¬ (false = true) by decide)] at H; exact H
    clear H; have H := H1; clear H1; have H' := Aside0.mk H; clear H; obtain ⟨hcz15_0, hcz15_1⟩ := cz2 BK217.out; obtain ⟨hfz15_0, hfz15_1⟩ := fz2 BK217.out
    go_wp2_with (first | ((with_reducible refine gate_callee (f := 54) rfl ?_); refine goesL_ (some 13) rfl rfl Tryz.func54 (by kernel_rfl) rfl #[.agg #[.slice A0_0 l0_0.length c0_0, .slice A0_1 l0_1.length c0_1]] rfl uM ?_; (with_reducible refine (channel_isLine.calls _ _ l0_0 _ _ l0_1 true _ ?side1 ?side2 ?side3 ?side4 A6.out).mono ?_); (case side1 => exact Kd.C_below HR0_0.out HB.out); (case side2 => exact HC0_0.out); (case side3 => exact Kd.C_below HR0_1.out HB.out); (case side4 => exact HC0_1.out); rintro e w16 ⟨rfl, hb⟩; refine ⟨_, rfl, ?_⟩; replace BK217 := Aside0.mk (blk_below BK217.out hb); replace HB := Aside0.mk (below_step HB.out hb); (try clear hb); obtain ⟨hcz17_0, hcz17_1⟩ := cz2 BK217.out; obtain ⟨hfz17_0, hfz17_1⟩ := fz2 BK217.out) | (go_at_call 59; (with_reducible refine (channel_areAges.calls _ _ l0_0 _ _ l0_1 _ _ l1 false _ ?side1 ?side2 ?side3 ?side4 ?side5 ?side6 A8.out).mono ?_); (case side1 => exact Kd.C_below HR0_0.out HB.out); (case side2 => exact HC0_0.out); (case side3 => exact Kd.C_below HR0_1.out HB.out); (case side4 => exact HC0_1.out); (case side5 => exact Kd.C_below HR1.out HB.out); (case side6 => exact HC1.out); rintro e w18 ⟨rfl, hb⟩; replace BK217 := Aside0.mk (blk_below BK217.out hb); replace HB := Aside0.mk (below_step HB.out hb); (try clear hb)))
    go_meet
    case rel => exact ⟨_, (true), u0, H', ⟨u1⟩, ⟨uK BK217.out⟩, ⟨uB⟩⟩
  ·replace c7 := Bool.eq_false_iff.mpr c7; subst c7; have H1 : (channel_Widen.j0 k l1 a2 true l0_0 l0_1) = some (r1, r2) := by rw [if_neg (show ¬ (false = true) by decide)] at H; exact H
   clear H; have H := H1; clear H1; have H' := Aside0.mk H; clear H; obtain ⟨hcz19_0, hcz19_1⟩ := cz2 BK217.out; obtain ⟨hfz19_0, hfz19_1⟩ := fz2 BK217.out
   go_wp2_with (first | ((with_reducible refine gate_callee (f := 54) rfl ?_); refine goesL_ (some 13) rfl rfl Tryz.func54 (by kernel_rfl) rfl #[.agg #[.slice A0_0 l0_0.length c0_0, .slice A0_1 l0_1.length c0_1]] rfl uM ?_; (with_reducible refine (channel_isLine.calls _ _ l0_0 _ _ l0_1 false _ ?side1 ?side2 ?side3 ?side4 A6.out).mono ?_); (case side1 => exact Kd.C_below HR0_0.out HB.out); (case side2 => exact HC0_0.out); (case side3 => exact Kd.C_below HR0_1.out HB.out); (case side4 => exact HC0_1.out); rintro e w20 ⟨rfl, hb⟩; refine ⟨_, rfl, ?_⟩; replace BK217 := Aside0.mk (blk_below BK217.out hb); replace HB := Aside0.mk (below_step HB.out hb); (try clear hb)))
   go_meet
   case rel => exact ⟨_, (true), u0, H', ⟨u1⟩, ⟨uK BK217.out⟩, ⟨uB⟩⟩
 case rest =>
  clear HC4; try clear c1; try clear c2; try clear p2; try clear c5; try clear c7; try clear c9; try clear hcz11_0; try clear hcz11_1; try clear hcz13_0; try clear hcz13_1; try clear hcz15_0; try clear hcz15_1; try clear hcz17_0; try clear hcz17_1; try clear hcz19_0; try clear hcz19_1; try clear hfz11_0; try clear hfz11_1; try clear hfz13_0; try clear hfz13_1; try clear hfz15_0; try clear hfz15_1; try clear hfz17_0; try clear hfz17_1; try clear hfz19_0; try clear hfz19_1
  obtain ⟨kq, x25_3, rfl, HA, HJ3, BK217, HB⟩ := hcut
  cases kq with
  | zero => exact absurd HA.out (by simp [channel_Widen.j0])
  | succ kj3 =>
   have H := HA.out; clear HA; simp only [channel_Widen.j0] at H
   by_cases c21 : x25_3 = true
   ·subst c21; have H1 : (some (([] : List Int), 2)) = some (r1, r2) := by rw [if_pos rfl] at H; exact H
    clear H; have H := H1; clear H1; simp only [Option.some.injEq, Prod.mk.injEq] at H; obtain ⟨rfl, rfl⟩ := H; go_wp2
    go_ret2
    exact ⟨_, uE, uN, uB⟩
   ·replace c21 := Bool.eq_false_iff.mpr c21; subst c21; have H1 : (channel_Widen.l0 kj3 a2 ([] : List Int) l1 (l1.length : Int) 0 l0_0 l0_1) = some (r1, r2) := by rw [if_neg (show ¬ (false = true) by decide)] at H; exact H
    clear H; have H := H1; clear H1; have H' := Aside0.mk H; clear H; go_wp2
    go_loopg [8, 28] kj3 (fun kq v8 v28 w' => ∃ (x8_2 : List Int) (x28_2 : Int), v28 = .int .i64 x28_2 ∧ Aside0 (channel_Widen.l0 kq a2 x8_2 l1 (l1.length : Int) x28_2 l0_0 l0_1 = some (r1, r2)) ∧ Aside0 (kq ≤ kj3) ∧ Aside0 (Kd.R (Kd.int .i64) 3 w' w.heap.size (fun _ => True) v8 x8_2) ∧ Aside0 (w'.heap[gb217]? = some (.cells #[(.slice A0_0 l0_0.length c0_0), (.slice A0_1 l0_1.length c0_1)] 25 (0, 0))) ∧ Aside0 (Below w.heap.size w w'))
    case atStart => exact ⟨(([] : List Int)), (0), u0, H', ⟨Nat.le_refl _⟩, ⟨uN⟩, ⟨uK BK217.out⟩, ⟨uB⟩⟩
    case round =>
     clear H'; try clear c1; try clear c2; try clear p2; try clear c5; try clear c7; try clear c9; try clear c21; try clear hcz11_0; try clear hcz11_1; try clear hcz13_0; try clear hcz13_1; try clear hcz15_0; try clear hcz15_1; try clear hcz17_0; try clear hcz17_1; try clear hcz19_0; try clear hcz19_1; try clear hfz11_0; try clear hfz11_1; try clear hfz13_0; try clear hfz13_1; try clear hfz15_0; try clear hfz15_1; try clear hfz17_0; try clear hfz17_1; try clear hfz19_0; try clear hfz19_1; try clear p2
     obtain ⟨x8_2, x28_2, rfl, HA, HK2, HO_8, BK217, HB⟩ := hrel
     cases gk with
     | zero => exact absurd HA.out (by simp [channel_Widen.l0])
     | succ k2 =>
      have H := HA.out; clear HA; simp only [channel_Widen.l0] at H
      by_cases c22 : x28_2 < (l1.length : Int)
      ·rw [if_pos c22] at H; replace c22 := decide_eq_true c22; obtain ⟨c23, H⟩ := ifs H; replace c23 := decide_eq_true c23; obtain ⟨c24, H⟩ := ifs H; replace c24 := decide_eq_true c24; replace H := Option.bind_eq_some_iff.mp H; obtain ⟨⟨t222, t223, t224, t225, t226, t227, t228⟩, A250, H⟩ := H; replace H : (channel_Widen.l1 k2 a2 x8_2 l1 (l1.length : Int) x28_2 l0_0 l0_1 t222 t223 t224 t225 t226 t227 t228) = some (r1, r2) := H; have A25 := Aside0.mk A250; clear A250; have H' := Aside0.mk H; clear H; have p221 : 0 ≤ (x28_2 : Int) := of_decide_eq_true (by assumption); have q221 : x28_2 < (l1.length : Int) := of_decide_eq_true (by assumption); obtain ⟨ad221, e221, hx221_0⟩ := Kd.at_int HR1.out x28_2 p221 q221
       cases e221
       replace hx221_0 := hcell HB.out hx221_0; replace p221 := eq_true p221; replace q221 := eq_true q221; obtain ⟨hcz26_0, hcz26_1⟩ := cz2 BK217.out; obtain ⟨hfz26_0, hfz26_1⟩ := fz2 BK217.out
       go_wp2_with (first | ((with_reducible refine gate_callee (f := 57) rfl ?_); refine goesL_ (some 36) rfl rfl Tryz.func57 (by kernel_rfl) rfl #[.agg #[.slice A0_0 l0_0.length c0_0, .slice A0_1 l0_1.length c0_1], .int .i64 x28_2, .int .i64 (rd l1 x28_2)] rfl uM ?_; (with_reducible refine (channel_aging.calls _ _ l0_0 _ _ l0_1 x28_2 (rd l1 x28_2) t222 t223 t224 t225 t226 t227 t228 _ ?side1 ?side2 ?side3 ?side4 A25.out).mono ?_); (case side1 => exact Kd.C_below HR0_0.out HB.out); (case side2 => exact HC0_0.out); (case side3 => exact Kd.C_below HR0_1.out HB.out); (case side4 => exact HC0_1.out); rintro e w27 ⟨rfl, hb⟩; refine ⟨_, rfl, ?_⟩; replace HO_8 := Aside0.mk (Kd.R_below (uR HO_8.out) hb); replace BK217 := Aside0.mk (blk_below BK217.out hb); replace HB := Aside0.mk (below_step HB.out hb); (try clear hb)) | ((with_reducible refine gate_dst (N := 11) rfl ?_); refine bxe 11 #[.int .i64 0, .int .i64 0, .int .i64 0, .int .i64 0, .int .i64 0, .int .i64 0, .int .i64 0] 93 ?_; intro gb229 hg w28 hbox hb; have GW229 := gw hg; have GE229 := GW229; have NB217_229 := nb BK217 hg; have NB229_217 := nc BK217 hg; replace HO_8 := Aside0.mk (Kd.R_below (uR HO_8.out) hb); replace BK217 := Aside0.mk (blk_below BK217.out hb); have BK229 := Aside0.mk (hbox); replace HB := Aside0.mk (below_step HB.out hb); clear hb hbox hg; have hnb29 := NB229_217.out; have hnc29 := NB217_229.out; obtain ⟨hcz30_0, hcz30_1, hcz30_2, hcz30_3, hcz30_4, hcz30_5, hcz30_6⟩ := cz7 BK229.out; obtain ⟨hfz30_0, hfz30_1, hfz30_2, hfz30_3, hfz30_4, hfz30_5, hfz30_6⟩ := fz7 BK229.out))
       go_loopg [] k2 (fun kq w' => ∃ (x230000_3 : Int), Aside0 (channel_Widen.l1 kq a2 x8_2 l1 (l1.length : Int) x28_2 l0_0 l0_1 x230000_3 t223 t224 t225 t226 t227 t228 = some (r1, r2)) ∧ Aside0 (kq ≤ k2) ∧ Aside0 (Kd.R (Kd.int .i64) 3 w' w.heap.size (fun _ => True) u8 x8_2) ∧ Aside0 (w'.heap[gb217]? = some (.cells #[(.slice A0_0 l0_0.length c0_0), (.slice A0_1 l0_1.length c0_1)] 25 (0, 0))) ∧ Aside0 (w'.heap[gb229]? = some (.cells #[.int .i64 x230000_3, .int .i64 t223, .int .i64 t224, .int .i64 t225, .int .i64 t226, .int .i64 t227, .int .i64 t228] 93 (0, 0))) ∧ Aside0 (Below w.heap.size w w'))
       case atStart => exact ⟨(t222), H', ⟨Nat.le_refl _⟩, ⟨by refine uR ?_; exact Kd.R_mono (Kd.R_far (p := ⟨gb229, 6, none⟩) (Kd.R_far (p := ⟨gb229, 5, none⟩) (Kd.R_far (p := ⟨gb229, 4, none⟩) (Kd.R_far (p := ⟨gb229, 3, none⟩) (Kd.R_far (p := ⟨gb229, 2, none⟩) (Kd.R_far (p := ⟨gb229, 1, none⟩) (Kd.R_far (p := ⟨gb229, 0, none⟩) (Kd.R_types HO_8.out BK229.out (by decide)) (fun _ hk => hk.2) (.int .i64 t222)) (fun _ hk => hk.2) (.int .i64 t223)) (fun _ hk => hk.2) (.int .i64 t224)) (fun _ hk => hk.2) (.int .i64 t225)) (fun _ hk => hk.2) (.int .i64 t226)) (fun _ hk => hk.2) (.int .i64 t227)) (fun _ hk => hk.2) (.int .i64 t228)) (fun _ hk => trivial)⟩, ⟨by refine uK ?_; refine blk_far ?_ NB217_229.out _; refine uK ?_; refine blk_far ?_ NB217_229.out _; refine uK ?_; refine blk_far ?_ NB217_229.out _; refine uK ?_; refine blk_far ?_ NB217_229.out _; refine uK ?_; refine blk_far ?_ NB217_229.out _; refine uK ?_; refine blk_far ?_ NB217_229.out _; refine uK ?_; refine blk_far ?_ NB217_229.out _; refine uK ?_; exact BK217.out⟩, ⟨by refine uK ?_; refine blk_put (cs := #[.int .i64 t222, .int .i64 t223, .int .i64 t224, .int .i64 t225, .int .i64 t226, .int .i64 t227, .int .i64 0]) ?_ 6 _ rfl; refine uK ?_; refine blk_put (cs := #[.int .i64 t222, .int .i64 t223, .int .i64 t224, .int .i64 t225, .int .i64 t226, .int .i64 0, .int .i64 0]) ?_ 5 _ rfl; refine uK ?_; refine blk_put (cs := #[.int .i64 t222, .int .i64 t223, .int .i64 t224, .int .i64 t225, .int .i64 0, .int .i64 0, .int .i64 0]) ?_ 4 _ rfl; refine uK ?_; refine blk_put (cs := #[.int .i64 t222, .int .i64 t223, .int .i64 t224, .int .i64 0, .int .i64 0, .int .i64 0, .int .i64 0]) ?_ 3 _ rfl; refine uK ?_; refine blk_put (cs := #[.int .i64 t222, .int .i64 t223, .int .i64 0, .int .i64 0, .int .i64 0, .int .i64 0, .int .i64 0]) ?_ 2 _ rfl; refine uK ?_; refine blk_put (cs := #[.int .i64 t222, .int .i64 0, .int .i64 0, .int .i64 0, .int .i64 0, .int .i64 0, .int .i64 0]) ?_ 1 _ rfl; refine uK ?_; refine blk_put (cs := #[.int .i64 0, .int .i64 0, .int .i64 0, .int .i64 0, .int .i64 0, .int .i64 0, .int .i64 0]) ?_ 0 _ rfl; refine uK ?_; exact BK229.out⟩, ⟨uB⟩⟩
       case round =>
        clear H'; try clear c1; try clear c2; try clear p2; try clear q2; try clear hx2; try clear c5; try clear c7; try clear c9; try clear c21; try clear c22; try clear c22b0; try clear p22; try clear q22; try clear hx22; try clear c23; try clear c23b0; try clear c24; try clear c24b0; try clear c28; try clear c29; try clear hcz11_0; try clear hcz11_1; try clear hcz13_0; try clear hcz13_1; try clear hcz15_0; try clear hcz15_1; try clear hcz17_0; try clear hcz17_1; try clear hcz19_0; try clear hcz19_1; try clear hcz26_0; try clear hcz26_1; try clear hcz30_0; try clear hcz30_1; try clear hcz30_2; try clear hcz30_3; try clear hcz30_4; try clear hcz30_5; try clear hcz30_6; try clear hfz11_0; try clear hfz11_1; try clear hfz13_0; try clear hfz13_1; try clear hfz15_0; try clear hfz15_1; try clear hfz17_0; try clear hfz17_1; try clear hfz19_0; try clear hfz19_1; try clear hfz26_0; try clear hfz26_1; try clear hfz30_0; try clear hfz30_1; try clear hfz30_2; try clear hfz30_3; try clear hfz30_4; try clear hfz30_5; try clear hfz30_6; try clear hx221_0; try clear p2; try clear p221; try clear q221
        obtain ⟨x230000_3, HA, HK3, HO_8, BK217, BK229, HB⟩ := hrel
        cases gk with
        | zero => exact absurd HA.out (by simp [channel_Widen.l1])
        | succ k3 =>
         have H := HA.out; clear HA; simp only [channel_Widen.l1] at H
         by_cases c31 : x230000_3 ≤ 100
         ·rw [if_pos c31] at H; replace c31 := decide_eq_true c31; replace H := Option.bind_eq_some_iff.mp H; obtain ⟨t230, A320, H⟩ := H; replace H : (if t230 < a2 then (channel_Widen.l1 k3 a2 x8_2 l1 (l1.length : Int) x28_2 l0_0 l0_1 (wrap64 (x230000_3 + 1)) t223 t224 t225 t226 t227 t228) else (if x230000_3 > 100 then (some (([] : List Int), 5)) else (if x8_2.length < 17592186044416 then (channel_Widen.l0 k3 a2 (x8_2 ++ [x230000_3]) l1 (l1.length : Int) (wrap64 (x28_2 + 1)) l0_0 l0_1) else (none)))) = some (r1, r2) := H; have A32 := Aside0.mk A320; clear A320
          by_cases c33 : t230 < a2
          ·rw [if_pos c33] at H; replace c33 := decide_eq_true c33; have H' := Aside0.mk H; clear H; have hnb34 := NB229_217.out; have hnc34 := NB217_229.out; obtain ⟨hcz35_0, hcz35_1, hcz35_2, hcz35_3, hcz35_4, hcz35_5, hcz35_6⟩ := cz7 BK229.out; obtain ⟨hfz35_0, hfz35_1, hfz35_2, hfz35_3, hfz35_4, hfz35_5, hfz35_6⟩ := fz7 BK229.out
           go_wp2_with (first | (go_at_call 65; (with_reducible refine (channel_aged_least.calls x230000_3 t223 t224 t225 t226 t227 t228 t230 _ A32.out).mono ?_); rintro e w36 ⟨rfl, hb⟩; replace HO_8 := Aside0.mk (Kd.R_below (uR HO_8.out) hb); replace BK217 := Aside0.mk (blk_below BK217.out hb); replace BK229 := Aside0.mk (blk_below BK229.out hb); replace HB := Aside0.mk (below_step HB.out hb); (try clear hb); obtain ⟨hcz37_0, hcz37_1, hcz37_2, hcz37_3, hcz37_4, hcz37_5, hcz37_6⟩ := cz7 BK229.out; obtain ⟨hfz37_0, hfz37_1, hfz37_2, hfz37_3, hfz37_4, hfz37_5, hfz37_6⟩ := fz7 BK229.out))
           go_roundg k3
           case measure => have := HJ3.out; have := HK2.out; have := HK3.out; omega
           case rel => exact ⟨(wrap64 (x230000_3 + 1)), H', ⟨by have := HJ3.out; have := HK2.out; have := HK3.out; omega⟩, ⟨by refine uR ?_; exact Kd.R_mono (Kd.R_far (p := ⟨gb229, 0, none⟩) (Kd.R_types HO_8.out BK229.out (by decide)) (fun _ hk => hk.2) (.int .i64 (wrap64 (x230000_3 + 1)))) (fun _ hk => trivial)⟩, ⟨by refine uK ?_; refine blk_far ?_ NB217_229.out _; refine uK ?_; exact BK217.out⟩, ⟨by refine uK ?_; refine blk_put (cs := #[.int .i64 x230000_3, .int .i64 t223, .int .i64 t224, .int .i64 t225, .int .i64 t226, .int .i64 t227, .int .i64 t228]) ?_ 0 _ rfl; refine uK ?_; exact BK229.out⟩, ⟨uB⟩⟩
          ·rw [if_neg c33] at H; replace c33 := decide_eq_false c33
           by_cases c38 : x230000_3 > 100
           ·rw [if_pos c38] at H; replace c38 := decide_eq_true c38; simp only [Option.some.injEq, Prod.mk.injEq] at H; obtain ⟨rfl, rfl⟩ := H; have hnb39 := NB229_217.out; have hnc39 := NB217_229.out; obtain ⟨hcz40_0, hcz40_1, hcz40_2, hcz40_3, hcz40_4, hcz40_5, hcz40_6⟩ := cz7 BK229.out; obtain ⟨hfz40_0, hfz40_1, hfz40_2, hfz40_3, hfz40_4, hfz40_5, hfz40_6⟩ := fz7 BK229.out
            go_wp2_with (first | (go_at_call 65; (with_reducible refine (channel_aged_least.calls x230000_3 t223 t224 t225 t226 t227 t228 t230 _ A32.out).mono ?_); rintro e w41 ⟨rfl, hb⟩; replace HO_8 := Aside0.mk (Kd.R_below (uR HO_8.out) hb); replace BK217 := Aside0.mk (blk_below BK217.out hb); replace BK229 := Aside0.mk (blk_below BK229.out hb); replace HB := Aside0.mk (below_step HB.out hb); (try clear hb); obtain ⟨hcz42_0, hcz42_1, hcz42_2, hcz42_3, hcz42_4, hcz42_5, hcz42_6⟩ := cz7 BK229.out; obtain ⟨hfz42_0, hfz42_1, hfz42_2, hfz42_3, hfz42_4, hfz42_5, hfz42_6⟩ := fz7 BK229.out))
            go_ret2
            exact ⟨_, uE, uN, uB⟩
           ·rw [if_neg c38] at H; replace c38 := decide_eq_false c38; obtain ⟨c43, H⟩ := ifs H; have LMc43 := Aside0.mk c43; clear c43; obtain ⟨y231, hy231⟩ : ∃ y_ : List Int, y_ = (x8_2 ++ [x230000_3]) := ⟨_, rfl⟩; rw [← hy231] at H; have Ny231 := Aside0.mk hy231; clear hy231; have H' := Aside0.mk H; clear H; have hnb44 := NB229_217.out; have hnc44 := NB217_229.out; obtain ⟨hcz45_0, hcz45_1, hcz45_2, hcz45_3, hcz45_4, hcz45_5, hcz45_6⟩ := cz7 BK229.out; obtain ⟨hfz45_0, hfz45_1, hfz45_2, hfz45_3, hfz45_4, hfz45_5, hfz45_6⟩ := fz7 BK229.out
            go_wp2_with (first | (go_at_call 65; (with_reducible refine (channel_aged_least.calls x230000_3 t223 t224 t225 t226 t227 t228 t230 _ A32.out).mono ?_); rintro e w46 ⟨rfl, hb⟩; replace HO_8 := Aside0.mk (Kd.R_below (uR HO_8.out) hb); replace BK217 := Aside0.mk (blk_below BK217.out hb); replace BK229 := Aside0.mk (blk_below BK229.out hb); replace HB := Aside0.mk (below_step HB.out hb); (try clear hb); obtain ⟨hcz47_0, hcz47_1, hcz47_2, hcz47_3, hcz47_4, hcz47_5, hcz47_6⟩ := cz7 BK229.out; obtain ⟨hfz47_0, hfz47_1, hfz47_2, hfz47_3, hfz47_4, hfz47_5, hfz47_6⟩ := fz7 BK229.out) | ((with_reducible refine gate_builtin (b := .append) (xs := #[.tmp 57, .tmp 61]) rfl ?_); at_builtin; refine Kd.R_append (Kd.int .i64) (w0 := w) w.heap.size rfl (.tmp 57) (.tmp 61) 22 3 (.int .i64 0) 8 rfl Tryz.underlying22 info3 rfl (by decide) (by omega) u8 x8_2 x230000_3 [.int .i64 x230000_3] (fun _ => True) (fun _ => False) rfl rfl ?aP (fun _ hk => hk.elim) ?aF ?aO ?aB ?aS ?aL ?_; (case aP => exact rfl); (case aB => exact HB.out); (case aF => exact (fun _ _ => trivial)); (case aO => exact (uR HO_8.out)); (case aS => exact (below_size HB.out)); (case aL => have := LMc43.out; omega); intro v232 w48 ho hb hg hat; rw [← Ny231.out] at ho; replace BK217 := Aside0.mk (blk_grown BK217.out hg (Kd.R_ne HO_8.out BK217.out (by decide))); replace BK229 := Aside0.mk (blk_grown BK229.out hg (Kd.R_ne HO_8.out BK229.out (by decide))); have HO233 := Aside0.mk (ho); replace HB := Aside0.mk (hb); clear HO_8; clear ho hb hg hat))
            go_roundg k3
            case measure => have := HJ3.out; have := HK2.out; have := HK3.out; omega
            case rel => exact ⟨(y231), (wrap64 (x28_2 + 1)), u0, H', ⟨by have := HJ3.out; have := HK2.out; have := HK3.out; omega⟩, ⟨uR HO233.out⟩, ⟨uK BK217.out⟩, ⟨uB⟩⟩
         ·rw [if_neg c31] at H; replace c31 := decide_eq_false c31
          by_cases c49 : x230000_3 > 100
          ·rw [if_pos c49] at H; replace c49 := decide_eq_true c49; simp only [Option.some.injEq, Prod.mk.injEq] at H; obtain ⟨rfl, rfl⟩ := H; have hnb50 := NB229_217.out; have hnc50 := NB217_229.out; obtain ⟨hcz51_0, hcz51_1, hcz51_2, hcz51_3, hcz51_4, hcz51_5, hcz51_6⟩ := cz7 BK229.out; obtain ⟨hfz51_0, hfz51_1, hfz51_2, hfz51_3, hfz51_4, hfz51_5, hfz51_6⟩ := fz7 BK229.out; go_wp2
           go_ret2
           exact ⟨_, uE, uN, uB⟩
          ·rw [if_neg c49] at H; replace c49 := decide_eq_false c49; obtain ⟨c52, H⟩ := ifs H; have LMc52 := Aside0.mk c52; clear c52; obtain ⟨y234, hy234⟩ : ∃ y_ : List Int, y_ = (x8_2 ++ [x230000_3]) := ⟨_, rfl⟩; rw [← hy234] at H; have Ny234 := Aside0.mk hy234; clear hy234; have H' := Aside0.mk H; clear H; have hnb53 := NB229_217.out; have hnc53 := NB217_229.out; obtain ⟨hcz54_0, hcz54_1, hcz54_2, hcz54_3, hcz54_4, hcz54_5, hcz54_6⟩ := cz7 BK229.out; obtain ⟨hfz54_0, hfz54_1, hfz54_2, hfz54_3, hfz54_4, hfz54_5, hfz54_6⟩ := fz7 BK229.out
           go_wp2_with (first | ((with_reducible refine gate_builtin (b := .append) (xs := #[.tmp 57, .tmp 61]) rfl ?_); at_builtin; refine Kd.R_append (Kd.int .i64) (w0 := w) w.heap.size rfl (.tmp 57) (.tmp 61) 22 3 (.int .i64 0) 8 rfl Tryz.underlying22 info3 rfl (by decide) (by omega) u8 x8_2 x230000_3 [.int .i64 x230000_3] (fun _ => True) (fun _ => False) rfl rfl ?aP (fun _ hk => hk.elim) ?aF ?aO ?aB ?aS ?aL ?_; (case aP => exact rfl); (case aB => exact HB.out); (case aF => exact (fun _ _ => trivial)); (case aO => exact (uR HO_8.out)); (case aS => exact (below_size HB.out)); (case aL => have := LMc52.out; omega); intro v235 w55 ho hb hg hat; rw [← Ny234.out] at ho; replace BK217 := Aside0.mk (blk_grown BK217.out hg (Kd.R_ne HO_8.out BK217.out (by decide))); replace BK229 := Aside0.mk (blk_grown BK229.out hg (Kd.R_ne HO_8.out BK229.out (by decide))); have HO236 := Aside0.mk (ho); replace HB := Aside0.mk (hb); clear HO_8; clear ho hb hg hat))
           go_roundg k3
           case measure => have := HJ3.out; have := HK2.out; have := HK3.out; omega
           case rel => exact ⟨(y234), (wrap64 (x28_2 + 1)), u0, H', ⟨by have := HJ3.out; have := HK2.out; have := HK3.out; omega⟩, ⟨uR HO236.out⟩, ⟨uK BK217.out⟩, ⟨uB⟩⟩
      ·rw [if_neg c22] at H; replace c22 := decide_eq_false c22; simp only [Option.some.injEq, Prod.mk.injEq] at H; obtain ⟨rfl, rfl⟩ := H; go_wp2
       go_ret2
       exact ⟨_, uE, uR HO_8.out, uB⟩
end Go.Proofs.YtdmdahafiiggiaaGreatDoor.K
end
section
namespace Go.Proofs.YtdmdahafiiggiaaGreatDoor.K
open Go.RowKit Go.Proofs.YtdmdahafiiggiaaGreatDoorW.PrintWords Go.Proofs.YtdmdahafiiggiaaGreatDoorW.PrintLast Go.Proofs.YtdmdahafiiggiaaGreatDoorW.PrintMore
attribute [local go_sem] max2_int min2_int max_two min_two max_three min_three max_four min_four
def channel_Pressures.f (k : Nat) (a0_0 : Int) (a0_1 : Int) (l0_2 : List (S30)) (l0_3 : List Int) : Option ((List (S30)) × Int) := (channel_isSiphon.f a0_0 a0_1 l0_2 l0_3).bind fun t380 => (if t380 = true then ((channel_pressures.f k a0_0 a0_1 l0_2 l0_3).bind fun t381 => (some (t381, 0))) else (some (([] : List (S30)), 2)))
set_option maxHeartbeats 8000000 in
set_option maxRecDepth 100000 in
theorem channel_Pressures.calls (k : Nat) (a0_0 : Int) (a0_1 : Int) (A0_2 : Option Addr) (c0_2 : Nat) (l0_2 : List (S30)) (A0_3 : Option Addr) (c0_3 : Nat) (l0_3 : List Int) (r1 : List (S30)) (r2 : Int) (w : World) (hr0_2 : Kd.C k30 w A0_2 l0_2.length l0_2) (hc0_2 : l0_2.length ≤ c0_2) (hr0_3 : Kd.C (Kd.int .i64) w A0_3 l0_3.length l0_3) (hc0_3 : l0_3.length ≤ c0_3) (h : channel_Pressures.f k a0_0 a0_1 l0_2 l0_3 = some (r1, r2)) :
  Calls Tryz.prog 45 #[.agg #[.int .i64 a0_0, .int .i64 a0_1, .slice A0_2 l0_2.length c0_2, .slice A0_3 l0_3.length c0_3]] w fun e w' => ∃ v0_ : Value, e = .returned (.tuple #[v0_, .int .i64 r2]) ∧ Kd.R k30 30 w' w.heap.size (fun _ => True) v0_ r1 ∧ Below w.heap.size w w' := by
 have hu78 := Tryz.underlying78; have HR0_2 := Aside0.mk hr0_2; have HC0_2 := Aside0.mk hc0_2; clear hr0_2 hc0_2; have HR0_3 := Aside0.mk hr0_3; have HC0_3 := Aside0.mk hc0_3; clear hr0_3 hc0_3; have HB := Aside0.mk (Below.refl w.heap.size w); have H : ((channel_isSiphon.f a0_0 a0_1 l0_2 l0_3).bind fun t380 => (if t380 = true then ((channel_pressures.f k a0_0 a0_1 l0_2 l0_3).bind fun t381 => (some (t381, 0))) else (some (([] : List (S30)), 2)))) = some (r1, r2) := h; clear h; replace H := Option.bind_eq_some_iff.mp H; obtain ⟨t380, A20, H⟩ := H; replace H : (if t380 = true then ((channel_pressures.f k a0_0 a0_1 l0_2 l0_3).bind fun t381 => (some (t381, 0))) else (some (([] : List (S30)), 2))) = some (r1, r2) := H; have A2 := Aside0.mk A20; clear A20
 by_cases c3 : t380 = true
 ·subst c3; have H1 : ((channel_pressures.f k a0_0 a0_1 l0_2 l0_3).bind fun t381 => (some (t381, 0))) = some (r1, r2) := by rw [if_pos rfl] at H; exact H
  clear H; have H := H1; clear H1; replace H := Option.bind_eq_some_iff.mp H; obtain ⟨t381, A40, H⟩ := H; replace H : (some (t381, 0)) = some (r1, r2) := H; have A4 := Aside0.mk A40; clear A40; simp only [Option.some.injEq, Prod.mk.injEq] at H; obtain ⟨rfl, rfl⟩ := H
  go_enter Tryz.func45, Tryz.ntmps45
  go_wp2_with (first | ((with_reducible refine gate_dst (N := 1) rfl ?_); refine bxe 1 #[.int .i64 a0_0, .int .i64 a0_1, .slice A0_2 l0_2.length c0_2, .slice A0_3 l0_3.length c0_3] 78 ?_; intro gb379 hg w5 hbox hb; have n0_ := Aside0.mk (below_step HB.out hb); have n1_ := Aside0.mk (hbox); have n2_ := gw hg; have n3_ := n2_; clear HB; have HB := n0_; have BK379 := n1_; have GW379 := n2_; have GE379 := n3_; clear n0_ n1_ n2_ n3_; clear hb hbox hg; obtain ⟨hcz6_0, hcz6_1, hcz6_2, hcz6_3⟩ := cz4 BK379.out) | ((with_reducible refine gate_callee (f := 87) rfl ?_); refine goesL_ (some 5) rfl rfl Tryz.func87 (by kernel_rfl) rfl #[.agg #[.int .i64 a0_0, .int .i64 a0_1, .slice A0_2 l0_2.length c0_2, .slice A0_3 l0_3.length c0_3]] rfl uM ?_; (with_reducible refine (channel_isSiphon.calls a0_0 a0_1 _ _ l0_2 _ _ l0_3 true _ ?side1 ?side2 ?side3 ?side4 A2.out).mono ?_); (case side1 => exact Kd.C_below HR0_2.out HB.out); (case side2 => exact HC0_2.out); (case side3 => exact Kd.C_below HR0_3.out HB.out); (case side4 => exact HC0_3.out); rintro e w7 ⟨rfl, hb⟩; refine ⟨_, rfl, ?_⟩; replace BK379 := Aside0.mk (blk_below BK379.out hb); replace HB := Aside0.mk (below_step HB.out hb); (try clear hb); obtain ⟨hcz8_0, hcz8_1, hcz8_2, hcz8_3⟩ := cz4 BK379.out) | ((with_reducible refine gate_callee (f := 88) rfl ?_); refine goesL_ (some 8) rfl rfl Tryz.func88 (by kernel_rfl) rfl #[.agg #[.int .i64 a0_0, .int .i64 a0_1, .slice A0_2 l0_2.length c0_2, .slice A0_3 l0_3.length c0_3]] rfl uM ?_; (with_reducible refine (channel_pressures.calls k a0_0 a0_1 _ _ l0_2 _ _ l0_3 t381 _ ?side1 ?side2 ?side3 ?side4 A4.out).mono ?_); (case side1 => exact Kd.C_below HR0_2.out HB.out); (case side2 => exact HC0_2.out); (case side3 => exact Kd.C_below HR0_3.out HB.out); (case side4 => exact HC0_3.out); rintro e w9 ⟨v382, rfl, ho0, hb⟩; refine ⟨_, rfl, ?_⟩; have HO383 := Aside0.mk (Kd.R_lower ho0 (below_size HB.out)); replace BK379 := Aside0.mk (blk_below BK379.out hb); replace HB := Aside0.mk (below_step HB.out hb); (try clear hb); (try clear ho0)))
  go_ret2
  exact ⟨_, uE, uR HO383.out, uB⟩
 ·replace c3 := Bool.eq_false_iff.mpr c3; subst c3; have H1 : (some (([] : List (S30)), 2)) = some (r1, r2) := by rw [if_neg (show ¬ (false = true) by decide)] at H; exact H
  clear H; have H := H1; clear H1; simp only [Option.some.injEq, Prod.mk.injEq] at H; obtain ⟨rfl, rfl⟩ := H
  go_enter Tryz.func45, Tryz.ntmps45
  go_wp2_with (first | ((with_reducible refine gate_dst (N := 1) rfl ?_); refine bxe 1 #[.int .i64 a0_0, .int .i64 a0_1, .slice A0_2 l0_2.length c0_2, .slice A0_3 l0_3.length c0_3] 78 ?_; intro gb379 hg w10 hbox hb; have n0_ := Aside0.mk (below_step HB.out hb); have n1_ := Aside0.mk (hbox); have n2_ := gw hg; have n3_ := n2_; clear HB; have HB := n0_; have BK379 := n1_; have GW379 := n2_; have GE379 := n3_; clear n0_ n1_ n2_ n3_; clear hb hbox hg; obtain ⟨hcz11_0, hcz11_1, hcz11_2, hcz11_3⟩ := cz4 BK379.out) | ((with_reducible refine gate_callee (f := 87) rfl ?_); refine goesL_ (some 5) rfl rfl Tryz.func87 (by kernel_rfl) rfl #[.agg #[.int .i64 a0_0, .int .i64 a0_1, .slice A0_2 l0_2.length c0_2, .slice A0_3 l0_3.length c0_3]] rfl uM ?_; (with_reducible refine (channel_isSiphon.calls a0_0 a0_1 _ _ l0_2 _ _ l0_3 false _ ?side1 ?side2 ?side3 ?side4 A2.out).mono ?_); (case side1 => exact Kd.C_below HR0_2.out HB.out); (case side2 => exact HC0_2.out); (case side3 => exact Kd.C_below HR0_3.out HB.out); (case side4 => exact HC0_3.out); rintro e w12 ⟨rfl, hb⟩; refine ⟨_, rfl, ?_⟩; replace BK379 := Aside0.mk (blk_below BK379.out hb); replace HB := Aside0.mk (below_step HB.out hb); (try clear hb)))
  go_ret2
  exact ⟨_, uE, uN, uB⟩
end Go.Proofs.YtdmdahafiiggiaaGreatDoor.K
end
section
namespace Go.Proofs.YtdmdahafiiggiaaGreatDoor.K
open Go.RowKit Go.Proofs.YtdmdahafiiggiaaGreatDoorW.PrintWords Go.Proofs.YtdmdahafiiggiaaGreatDoorW.PrintLast Go.Proofs.YtdmdahafiiggiaaGreatDoorW.PrintMore
attribute [local go_sem] max2_int min2_int max_two min_two max_three min_three max_four min_four
def channel_Flows.f (a0_0 : Int) (a0_1 : Int) (l0_2 : List (S30)) (l0_3 : List Int) : Option (Int × Int) := (channel_isSiphon.f a0_0 a0_1 l0_2 l0_3).bind fun t392 => (if t392 = true then (if 0 ≤ (wrap64 ((l0_2.length : Int) - 1)) then (if (wrap64 ((l0_2.length : Int) - 1)) < (l0_2.length : Int) then (if a0_0 > ((rd_T30 l0_2 (wrap64 ((l0_2.length : Int) - 1))).f1) then (some (3, 0)) else (if a0_1 > ((rd_T30 l0_2 (wrap64 ((l0_2.length : Int) - 1))).f0) then (some (2, 0)) else (some (1, 0)))) else (none)) else (none)) else (some (0, 2)))
set_option maxHeartbeats 8000000 in
set_option maxRecDepth 100000 in
theorem channel_Flows.calls (a0_0 : Int) (a0_1 : Int) (A0_2 : Option Addr) (c0_2 : Nat) (l0_2 : List (S30)) (A0_3 : Option Addr) (c0_3 : Nat) (l0_3 : List Int) (r1 : Int) (r2 : Int) (w : World) (hr0_2 : Kd.C k30 w A0_2 l0_2.length l0_2) (hc0_2 : l0_2.length ≤ c0_2) (hr0_3 : Kd.C (Kd.int .i64) w A0_3 l0_3.length l0_3) (hc0_3 : l0_3.length ≤ c0_3) (h : channel_Flows.f a0_0 a0_1 l0_2 l0_3 = some (r1, r2)) :
  Calls Tryz.prog 47 #[.agg #[.int .i64 a0_0, .int .i64 a0_1, .slice A0_2 l0_2.length c0_2, .slice A0_3 l0_3.length c0_3]] w fun e w' => e = .returned (.tuple #[.int .i64 r1, .int .i64 r2]) ∧ Below w.heap.size w w' := by
 have hu78 := Tryz.underlying78; have hu30 := Tryz.underlying30; have HR0_2 := Aside0.mk hr0_2; have HC0_2 := Aside0.mk hc0_2; clear hr0_2 hc0_2; have HR0_3 := Aside0.mk hr0_3; have HC0_3 := Aside0.mk hc0_3; clear hr0_3 hc0_3; have HB := Aside0.mk (Below.refl w.heap.size w); have H : ((channel_isSiphon.f a0_0 a0_1 l0_2 l0_3).bind fun t392 => (if t392 = true then (if 0 ≤ (wrap64 ((l0_2.length : Int) - 1)) then (if (wrap64 ((l0_2.length : Int) - 1)) < (l0_2.length : Int) then (if a0_0 > ((rd_T30 l0_2 (wrap64 ((l0_2.length : Int) - 1))).f1) then (some (3, 0)) else (if a0_1 > ((rd_T30 l0_2 (wrap64 ((l0_2.length : Int) - 1))).f0) then (some (2, 0)) else (some (1, 0)))) else (none)) else (none)) else (some (0, 2)))) = some (r1, r2) := h; clear h; replace H := Option.bind_eq_some_iff.mp H; obtain ⟨t392, A20, H⟩ := H; replace H : (if t392 = true then (if 0 ≤ (wrap64 ((l0_2.length : Int) - 1)) then (if (wrap64 ((l0_2.length : Int) - 1)) < (l0_2.length : Int) then (if a0_0 > ((rd_T30 l0_2 (wrap64 ((l0_2.length : Int) - 1))).f1) then (some (3, 0)) else (if a0_1 > ((rd_T30 l0_2 (wrap64 ((l0_2.length : Int) - 1))).f0) then (some (2, 0)) else (some (1, 0)))) else (none)) else (none)) else (some (0, 2))) = some (r1, r2) := H; have A2 := Aside0.mk A20; clear A20
 by_cases c3 : t392 = true
 ·subst c3; have H1 : (if 0 ≤ (wrap64 ((l0_2.length : Int) - 1)) then (if (wrap64 ((l0_2.length : Int) - 1)) < (l0_2.length : Int) then (if a0_0 > ((rd_T30 l0_2 (wrap64 ((l0_2.length : Int) - 1))).f1) then (some (3, 0)) else (if a0_1 > ((rd_T30 l0_2 (wrap64 ((l0_2.length : Int) - 1))).f0) then (some (2, 0)) else (some (1, 0)))) else (none)) else (none)) = some (r1, r2) := by rw [if_pos rfl] at H; exact H
  clear H; have H := H1; clear H1; obtain ⟨ji4, hji4⟩ : ∃ j_ : Int, (wrap64 ((l0_2.length : Int) - 1)) = j_ := ⟨_, rfl⟩; rw [hji4] at H; (try rw [hji4] at A2); have hji4w : (IntKind.i64.wrap ((l0_2.length : Int) - 1)) = ji4 := (i64_w _).trans hji4; obtain ⟨c5, H⟩ := ifs H; replace c5 := decide_eq_true c5; obtain ⟨c6, H⟩ := ifs H; replace c6 := decide_eq_true c6
  by_cases c7 : a0_0 > ((rd_T30 l0_2 (ji4)).f1)
  ·rw [if_pos c7] at H; replace c7 := decide_eq_true c7; simp only [Option.some.injEq, Prod.mk.injEq] at H; obtain ⟨rfl, rfl⟩ := H
   go_enter Tryz.func47, Tryz.ntmps47
   go_wp2_with (first | ((with_reducible refine gate_dst (N := 1) rfl ?_); refine bxe 1 #[.int .i64 a0_0, .int .i64 a0_1, .slice A0_2 l0_2.length c0_2, .slice A0_3 l0_3.length c0_3] 78 ?_; intro gb391 hg w8 hbox hb; have n0_ := Aside0.mk (below_step HB.out hb); have n1_ := Aside0.mk (hbox); have n2_ := gw hg; have n3_ := n2_; clear HB; have HB := n0_; have BK391 := n1_; have GW391 := n2_; have GE391 := n3_; clear n0_ n1_ n2_ n3_; clear hb hbox hg; obtain ⟨hcz9_0, hcz9_1, hcz9_2, hcz9_3⟩ := cz4 BK391.out; obtain ⟨hfz9_0, hfz9_1, hfz9_2, hfz9_3⟩ := fz4 BK391.out) | ((with_reducible refine gate_callee (f := 87) rfl ?_); refine goesL_ (some 6) rfl rfl Tryz.func87 (by kernel_rfl) rfl #[.agg #[.int .i64 a0_0, .int .i64 a0_1, .slice A0_2 l0_2.length c0_2, .slice A0_3 l0_3.length c0_3]] rfl uM ?_; (with_reducible refine (channel_isSiphon.calls a0_0 a0_1 _ _ l0_2 _ _ l0_3 true _ ?side1 ?side2 ?side3 ?side4 A2.out).mono ?_); (case side1 => exact Kd.C_below HR0_2.out HB.out); (case side2 => exact HC0_2.out); (case side3 => exact Kd.C_below HR0_3.out HB.out); (case side4 => exact HC0_3.out); rintro e w10 ⟨rfl, hb⟩; refine ⟨_, rfl, ?_⟩; replace BK391 := Aside0.mk (blk_below BK391.out hb); replace HB := Aside0.mk (below_step HB.out hb); (try clear hb); obtain ⟨hcz11_0, hcz11_1, hcz11_2, hcz11_3⟩ := cz4 BK391.out; obtain ⟨hfz11_0, hfz11_1, hfz11_2, hfz11_3⟩ := fz4 BK391.out; have p393 : 0 ≤ ((ji4) : Int) := of_decide_eq_true (by assumption); have q393 : (ji4) < (l0_2.length : Int) := of_decide_eq_true (by assumption); obtain ⟨ad393, e393, hx393_0, hx393_1⟩ := at_T30 HR0_2.out (ji4) p393 q393; cases e393; replace hx393_0 := hcell HB.out hx393_0; replace hx393_1 := hcell HB.out hx393_1; replace p393 := eq_true p393; replace q393 := eq_true q393) | ((with_reducible refine gate_dst (N := 4) rfl ?_); refine bxe 4 #[.int .i64 0, .int .i64 0] 30 ?_; intro gb394 hg w12 hbox hb; have n0_ := Aside0.mk (blk_below BK391.out hb); have n1_ := Aside0.mk (below_step HB.out hb); have n2_ := Aside0.mk (hbox); have n3_ := gw hg; have n4_ := n3_; have n5_ := nb BK391 hg; have n6_ := nc BK391 hg; clear BK391; clear HB; have BK391 := n0_; have HB := n1_; have BK394 := n2_; have GW394 := n3_; have GE394 := n4_; have NB391_394 := n5_; have NB394_391 := n6_; clear n0_ n1_ n2_ n3_ n4_ n5_ n6_; clear hb hbox hg; have hnb13 := NB394_391.out; have hnc13 := NB391_394.out; obtain ⟨hcz14_0, hcz14_1⟩ := cz2 BK394.out; obtain ⟨hfz14_0, hfz14_1⟩ := fz2 BK394.out; obtain ⟨hcz15_0, hcz15_1, hcz15_2, hcz15_3⟩ := cz4 BK391.out; obtain ⟨hfz15_0, hfz15_1, hfz15_2, hfz15_3⟩ := fz4 BK391.out))
   go_ret2
   exact ⟨by first | rfl | (simp [errW_none, errW_some] <;> rfl) | (simp only [← hji4]; first | rfl | (simp [errW_none, errW_some] <;> rfl)) | (simp [*, errW_none, errW_some] <;> rfl), uB⟩
  ·rw [if_neg c7] at H; replace c7 := decide_eq_false c7
   by_cases c16 : a0_1 > ((rd_T30 l0_2 (ji4)).f0)
   ·rw [if_pos c16] at H; replace c16 := decide_eq_true c16; simp only [Option.some.injEq, Prod.mk.injEq] at H; obtain ⟨rfl, rfl⟩ := H
    go_enter Tryz.func47, Tryz.ntmps47
    go_wp2_with (first | ((with_reducible refine gate_dst (N := 1) rfl ?_); refine bxe 1 #[.int .i64 a0_0, .int .i64 a0_1, .slice A0_2 l0_2.length c0_2, .slice A0_3 l0_3.length c0_3] 78 ?_; intro gb391 hg w17 hbox hb; have n0_ := Aside0.mk (below_step HB.out hb); have n1_ := Aside0.mk (hbox); have n2_ := gw hg; have n3_ := n2_; clear HB; have HB := n0_; have BK391 := n1_; have GW391 := n2_; have GE391 := n3_; clear n0_ n1_ n2_ n3_; clear hb hbox hg; obtain ⟨hcz18_0, hcz18_1, hcz18_2, hcz18_3⟩ := cz4 BK391.out; obtain ⟨hfz18_0, hfz18_1, hfz18_2, hfz18_3⟩ := fz4 BK391.out) | ((with_reducible refine gate_callee (f := 87) rfl ?_); refine goesL_ (some 6) rfl rfl Tryz.func87 (by kernel_rfl) rfl #[.agg #[.int .i64 a0_0, .int .i64 a0_1, .slice A0_2 l0_2.length c0_2, .slice A0_3 l0_3.length c0_3]] rfl uM ?_; (with_reducible refine (channel_isSiphon.calls a0_0 a0_1 _ _ l0_2 _ _ l0_3 true _ ?side1 ?side2 ?side3 ?side4 A2.out).mono ?_); (case side1 => exact Kd.C_below HR0_2.out HB.out); (case side2 => exact HC0_2.out); (case side3 => exact Kd.C_below HR0_3.out HB.out); (case side4 => exact HC0_3.out); rintro e w19 ⟨rfl, hb⟩; refine ⟨_, rfl, ?_⟩; replace BK391 := Aside0.mk (blk_below BK391.out hb); replace HB := Aside0.mk (below_step HB.out hb); (try clear hb); obtain ⟨hcz20_0, hcz20_1, hcz20_2, hcz20_3⟩ := cz4 BK391.out; obtain ⟨hfz20_0, hfz20_1, hfz20_2, hfz20_3⟩ := fz4 BK391.out; have p393 : 0 ≤ ((ji4) : Int) := of_decide_eq_true (by assumption); have q393 : (ji4) < (l0_2.length : Int) := of_decide_eq_true (by assumption); obtain ⟨ad393, e393, hx393_0, hx393_1⟩ := at_T30 HR0_2.out (ji4) p393 q393; cases e393; replace hx393_0 := hcell HB.out hx393_0; replace hx393_1 := hcell HB.out hx393_1; replace p393 := eq_true p393; replace q393 := eq_true q393) | ((with_reducible refine gate_dst (N := 4) rfl ?_); refine bxe 4 #[.int .i64 0, .int .i64 0] 30 ?_; intro gb394 hg w21 hbox hb; have n0_ := Aside0.mk (blk_below BK391.out hb); have n1_ := Aside0.mk (below_step HB.out hb); have n2_ := Aside0.mk (hbox); have n3_ := gw hg; have n4_ := n3_; have n5_ := nb BK391 hg; have n6_ := nc BK391 hg; clear BK391; clear HB; have BK391 := n0_; have HB := n1_; have BK394 := n2_; have GW394 := n3_; have GE394 := n4_; have NB391_394 := n5_; have NB394_391 := n6_; clear n0_ n1_ n2_ n3_ n4_ n5_ n6_; clear hb hbox hg; have hnb22 := NB394_391.out; have hnc22 := NB391_394.out; obtain ⟨hcz23_0, hcz23_1⟩ := cz2 BK394.out; obtain ⟨hfz23_0, hfz23_1⟩ := fz2 BK394.out; obtain ⟨hcz24_0, hcz24_1, hcz24_2, hcz24_3⟩ := cz4 BK391.out; obtain ⟨hfz24_0, hfz24_1, hfz24_2, hfz24_3⟩ := fz4 BK391.out))
    go_ret2
    exact ⟨by first | rfl | (simp [errW_none, errW_some] <;> rfl) | (simp only [← hji4]; first | rfl | (simp [errW_none, errW_some] <;> rfl)) | (simp [*, errW_none, errW_some] <;> rfl), uB⟩
   ·rw [if_neg c16] at H; replace c16 := decide_eq_false c16; simp only [Option.some.injEq, Prod.mk.injEq] at H; obtain ⟨rfl, rfl⟩ := H
    go_enter Tryz.func47, Tryz.ntmps47
    go_wp2_with (first | ((with_reducible refine gate_dst (N := 1) rfl ?_); refine bxe 1 #[.int .i64 a0_0, .int .i64 a0_1, .slice A0_2 l0_2.length c0_2, .slice A0_3 l0_3.length c0_3] 78 ?_; intro gb391 hg w25 hbox hb; have n0_ := Aside0.mk (below_step HB.out hb); have n1_ := Aside0.mk (hbox); have n2_ := gw hg; have n3_ := n2_; clear HB; have HB := n0_; have BK391 := n1_; have GW391 := n2_; have GE391 := n3_; clear n0_ n1_ n2_ n3_; clear hb hbox hg; obtain ⟨hcz26_0, hcz26_1, hcz26_2, hcz26_3⟩ := cz4 BK391.out; obtain ⟨hfz26_0, hfz26_1, hfz26_2, hfz26_3⟩ := fz4 BK391.out) | ((with_reducible refine gate_callee (f := 87) rfl ?_); refine goesL_ (some 6) rfl rfl Tryz.func87 (by kernel_rfl) rfl #[.agg #[.int .i64 a0_0, .int .i64 a0_1, .slice A0_2 l0_2.length c0_2, .slice A0_3 l0_3.length c0_3]] rfl uM ?_; (with_reducible refine (channel_isSiphon.calls a0_0 a0_1 _ _ l0_2 _ _ l0_3 true _ ?side1 ?side2 ?side3 ?side4 A2.out).mono ?_); (case side1 => exact Kd.C_below HR0_2.out HB.out); (case side2 => exact HC0_2.out); (case side3 => exact Kd.C_below HR0_3.out HB.out); (case side4 => exact HC0_3.out); rintro e w27 ⟨rfl, hb⟩; refine ⟨_, rfl, ?_⟩; replace BK391 := Aside0.mk (blk_below BK391.out hb); replace HB := Aside0.mk (below_step HB.out hb); (try clear hb); obtain ⟨hcz28_0, hcz28_1, hcz28_2, hcz28_3⟩ := cz4 BK391.out; obtain ⟨hfz28_0, hfz28_1, hfz28_2, hfz28_3⟩ := fz4 BK391.out; have p393 : 0 ≤ ((ji4) : Int) := of_decide_eq_true (by assumption); have q393 : (ji4) < (l0_2.length : Int) := of_decide_eq_true (by assumption); obtain ⟨ad393, e393, hx393_0, hx393_1⟩ := at_T30 HR0_2.out (ji4) p393 q393; cases e393; replace hx393_0 := hcell HB.out hx393_0; replace hx393_1 := hcell HB.out hx393_1; replace p393 := eq_true p393; replace q393 := eq_true q393) | ((with_reducible refine gate_dst (N := 4) rfl ?_); refine bxe 4 #[.int .i64 0, .int .i64 0] 30 ?_; intro gb394 hg w29 hbox hb; have n0_ := Aside0.mk (blk_below BK391.out hb); have n1_ := Aside0.mk (below_step HB.out hb); have n2_ := Aside0.mk (hbox); have n3_ := gw hg; have n4_ := n3_; have n5_ := nb BK391 hg; have n6_ := nc BK391 hg; clear BK391; clear HB; have BK391 := n0_; have HB := n1_; have BK394 := n2_; have GW394 := n3_; have GE394 := n4_; have NB391_394 := n5_; have NB394_391 := n6_; clear n0_ n1_ n2_ n3_ n4_ n5_ n6_; clear hb hbox hg; have hnb30 := NB394_391.out; have hnc30 := NB391_394.out; obtain ⟨hcz31_0, hcz31_1⟩ := cz2 BK394.out; obtain ⟨hfz31_0, hfz31_1⟩ := fz2 BK394.out; obtain ⟨hcz32_0, hcz32_1, hcz32_2, hcz32_3⟩ := cz4 BK391.out; obtain ⟨hfz32_0, hfz32_1, hfz32_2, hfz32_3⟩ := fz4 BK391.out))
    go_ret2
    exact ⟨by first | rfl | (simp [errW_none, errW_some] <;> rfl) | (simp only [← hji4]; first | rfl | (simp [errW_none, errW_some] <;> rfl)) | (simp [*, errW_none, errW_some] <;> rfl), uB⟩
 ·replace c3 := Bool.eq_false_iff.mpr c3; subst c3; have H1 : (some (0, 2)) = some (r1, r2) := by rw [if_neg (show ¬ (false = true) by decide)] at H; exact H
  clear H; have H := H1; clear H1; simp only [Option.some.injEq, Prod.mk.injEq] at H; obtain ⟨rfl, rfl⟩ := H
  go_enter Tryz.func47, Tryz.ntmps47
  go_wp2_with (first | ((with_reducible refine gate_dst (N := 1) rfl ?_); refine bxe 1 #[.int .i64 a0_0, .int .i64 a0_1, .slice A0_2 l0_2.length c0_2, .slice A0_3 l0_3.length c0_3] 78 ?_; intro gb391 hg w33 hbox hb; have n0_ := Aside0.mk (below_step HB.out hb); have n1_ := Aside0.mk (hbox); have n2_ := gw hg; have n3_ := n2_; clear HB; have HB := n0_; have BK391 := n1_; have GW391 := n2_; have GE391 := n3_; clear n0_ n1_ n2_ n3_; clear hb hbox hg; obtain ⟨hcz34_0, hcz34_1, hcz34_2, hcz34_3⟩ := cz4 BK391.out; obtain ⟨hfz34_0, hfz34_1, hfz34_2, hfz34_3⟩ := fz4 BK391.out) | ((with_reducible refine gate_callee (f := 87) rfl ?_); refine goesL_ (some 6) rfl rfl Tryz.func87 (by kernel_rfl) rfl #[.agg #[.int .i64 a0_0, .int .i64 a0_1, .slice A0_2 l0_2.length c0_2, .slice A0_3 l0_3.length c0_3]] rfl uM ?_; (with_reducible refine (channel_isSiphon.calls a0_0 a0_1 _ _ l0_2 _ _ l0_3 false _ ?side1 ?side2 ?side3 ?side4 A2.out).mono ?_); (case side1 => exact Kd.C_below HR0_2.out HB.out); (case side2 => exact HC0_2.out); (case side3 => exact Kd.C_below HR0_3.out HB.out); (case side4 => exact HC0_3.out); rintro e w35 ⟨rfl, hb⟩; refine ⟨_, rfl, ?_⟩; replace BK391 := Aside0.mk (blk_below BK391.out hb); replace HB := Aside0.mk (below_step HB.out hb); (try clear hb)))
  go_ret2
  exact ⟨uE, uB⟩
end Go.Proofs.YtdmdahafiiggiaaGreatDoor.K
end
section
namespace Go.Proofs.YtdmdahafiiggiaaGreatDoor.K
open Go.RowKit Go.Proofs.YtdmdahafiiggiaaGreatDoorW.PrintWords Go.Proofs.YtdmdahafiiggiaaGreatDoorW.PrintLast Go.Proofs.YtdmdahafiiggiaaGreatDoorW.PrintMore
attribute [local go_sem] max2_int min2_int max_two min_two max_three min_three max_four min_four
def quinariaref02_Same.l0 : Nat → List Int → List Int → Int → Option (Bool)
 | 0, _, _, _ => none
 | k + 1, x0, x1, x5 => if x5 < (x0.length : Int) then (if 0 ≤ x5 then (if x5 < (x1.length : Int) then (if (rd x0 x5) = (rd x1 x5) then (quinariaref02_Same.l0 k x0 x1 (wrap64 (x5 + 1))) else (some false)) else (none)) else (none)) else (some true)
def quinariaref02_Same.f (k : Nat) (l0 : List Int) (l1 : List Int) : Option (Bool) := if (l0.length : Int) = (l1.length : Int) then (quinariaref02_Same.l0 k l0 l1 0) else (some false)
set_option maxHeartbeats 8000000 in
set_option maxRecDepth 100000 in
theorem quinariaref02_Same.calls (k : Nat) (A0 : Option Addr) (c0 : Nat) (l0 : List Int) (A1 : Option Addr) (c1 : Nat) (l1 : List Int) (r : Bool) (w : World) (hr0 : Kd.C (Kd.int .i64) w A0 l0.length l0) (hc0 : l0.length ≤ c0) (hr1 : Kd.C (Kd.int .i64) w A1 l1.length l1) (hc1 : l1.length ≤ c1) (h : quinariaref02_Same.f k l0 l1 = some r) :
  Calls Tryz.prog 24 #[.slice A0 l0.length c0, .slice A1 l1.length c1] w fun e w' => e = .returned (.bool r) ∧ Drawn0 w w' := by
 have HR0 := Aside0.mk hr0; have HC0 := Aside0.mk hc0; clear hr0 hc0; have HR1 := Aside0.mk hr1; have HC1 := Aside0.mk hc1; clear hr1 hc1; have H : (if (l0.length : Int) = (l1.length : Int) then (quinariaref02_Same.l0 k l0 l1 0) else (some false)) = some r := h; clear h
 by_cases c3 : (l0.length : Int) = (l1.length : Int)
 ·rw [if_pos c3] at H; have c3b0 : ((l0.length : Int) == (l1.length : Int)) = true := beq_iff_eq.mpr c3; have c3b1 : ((l0.length : Int) != (l1.length : Int)) = false := bne_eq_false_iff_eq.mpr c3; have c3b2 : (l0.length == l1.length) = true := by first | simpa using c3 | (simp at c3 ⊢; omega)
  clear c3; have H' := Aside0.mk H; clear H
  go_enter Tryz.func24, Tryz.ntmps24
  go_wp2; repeat (go_quiet (fail); try go_wp2)
  go_loopg [5] k (fun kq v5 w' => ∃ (x5_1 : Int), v5 = .int .i64 x5_1 ∧ Aside0 (quinariaref02_Same.l0 kq l0 l1 x5_1 = some r) ∧ Aside0 (kq ≤ k) ∧ Drawn0 w w')
  case atStart => exact ⟨(0), u0, H', ⟨Nat.le_refl _⟩, by repeat (first | exact Drawn0.refl _ | apply Drawn0.step)⟩
  case round =>
   clear H'; try clear c1; try clear c2; try clear p2; try clear c3; try clear c3b0; try clear c3b1; try clear c3b2
   obtain ⟨x5_1, rfl, HA, HK1, ⟨m1, rfl⟩⟩ := hrel
   cases gk with
   | zero => exact absurd HA.out (by simp [quinariaref02_Same.l0])
   | succ k1 =>
    have H := HA.out; clear HA; simp only [quinariaref02_Same.l0] at H
    by_cases c4 : x5_1 < (l0.length : Int)
    ·rw [if_pos c4] at H; replace c4 := decide_eq_true c4; obtain ⟨c5, H⟩ := ifs H; replace c5 := decide_eq_true c5; obtain ⟨c6, H⟩ := ifs H; replace c6 := decide_eq_true c6
     by_cases c7 : (rd l0 x5_1) = (rd l1 x5_1)
     ·rw [if_pos c7] at H; have c7b0 : ((rd l0 x5_1) == (rd l1 x5_1)) = true := beq_iff_eq.mpr c7; have c7b1 : ((rd l0 x5_1) != (rd l1 x5_1)) = false := bne_eq_false_iff_eq.mpr c7; clear c7; have H' := Aside0.mk H; clear H; have p198 : 0 ≤ (x5_1 : Int) := of_decide_eq_true (by assumption); have q198 : x5_1 < (l0.length : Int) := of_decide_eq_true (by assumption); obtain ⟨ad198, e198, hx198_0⟩ := Kd.at_int HR0.out x5_1 p198 q198
      cases e198
      replace p198 := eq_true p198; replace q198 := eq_true q198; have p199 : 0 ≤ (x5_1 : Int) := of_decide_eq_true (by assumption); have q199 : x5_1 < (l1.length : Int) := of_decide_eq_true (by assumption); obtain ⟨ad199, e199, hx199_0⟩ := Kd.at_int HR1.out x5_1 p199 q199
      cases e199
      replace p199 := eq_true p199; replace q199 := eq_true q199; go_wp2; repeat (go_quiet (fail); try go_wp2)
      go_roundg k1
      case measure => have := HK1.out; omega
      case rel => exact ⟨(wrap64 (x5_1 + 1)), u0, H', ⟨by have := HK1.out; omega⟩, by repeat (first | exact Drawn0.refl _ | apply Drawn0.step)⟩
     ·rw [if_neg c7] at H; have c7b0 : ((rd l0 x5_1) == (rd l1 x5_1)) = false := beq_eq_false_iff_ne.mpr c7; have c7b1 : ((rd l0 x5_1) != (rd l1 x5_1)) = true := bne_iff_ne.mpr c7; obtain rfl := Option.some.inj H; have p198 : 0 ≤ (x5_1 : Int) := of_decide_eq_true (by assumption); have q198 : x5_1 < (l0.length : Int) := of_decide_eq_true (by assumption); obtain ⟨ad198, e198, hx198_0⟩ := Kd.at_int HR0.out x5_1 p198 q198
      cases e198
      replace p198 := eq_true p198; replace q198 := eq_true q198; have p199 : 0 ≤ (x5_1 : Int) := of_decide_eq_true (by assumption); have q199 : x5_1 < (l1.length : Int) := of_decide_eq_true (by assumption); obtain ⟨ad199, e199, hx199_0⟩ := Kd.at_int HR1.out x5_1 p199 q199
      cases e199
      replace p199 := eq_true p199; replace q199 := eq_true q199; go_wp2; (repeat (go_quiet (fail); try go_wp2)); go_ret; exact ⟨u0, by repeat (first | exact Drawn0.refl _ | apply Drawn0.step)⟩
    ·rw [if_neg c4] at H; replace c4 := decide_eq_false c4; obtain rfl := Option.some.inj H; go_wp2; (repeat (go_quiet (fail); try go_wp2)); go_ret; exact ⟨u0, by repeat (first | exact Drawn0.refl _ | apply Drawn0.step)⟩
 ·rw [if_neg c3] at H; have c3b0 : ((l0.length : Int) == (l1.length : Int)) = false := beq_eq_false_iff_ne.mpr c3; have c3b1 : ((l0.length : Int) != (l1.length : Int)) = true := bne_iff_ne.mpr c3; have c3b2 : (l0.length == l1.length) = false := by first | simpa using c3 | (simp at c3 ⊢; omega)
  obtain rfl := Option.some.inj H
  go_enter Tryz.func24, Tryz.ntmps24
  go_wp2; (repeat (go_quiet (fail); try go_wp2)); go_ret; exact ⟨u0, by repeat (first | exact Drawn0.refl _ | apply Drawn0.step)⟩
end Go.Proofs.YtdmdahafiiggiaaGreatDoor.K
end
section
namespace Go.Proofs.YtdmdahafiiggiaaGreatDoor.K
open Go.RowKit Go.Proofs.YtdmdahafiiggiaaGreatDoorW.PrintWords Go.Proofs.YtdmdahafiiggiaaGreatDoorW.PrintLast Go.Proofs.YtdmdahafiiggiaaGreatDoorW.PrintMore
attribute [local go_sem] max2_int min2_int max_two min_two max_three min_three max_four min_four
attribute [local go_sem high] eqA30
def quinariaref02_SameSpans.l0 : Nat → List (S30) → List (S30) → Int → Option (Bool)
 | 0, _, _, _ => none
 | k + 1, x0, x1, x5 => if x5 < (x0.length : Int) then (if 0 ≤ x5 then (if x5 < (x1.length : Int) then (if (!(((rd_T30 x0 x5).f0) == ((rd_T30 x1 x5).f0)) || (!(((rd_T30 x0 x5).f1) == ((rd_T30 x1 x5).f1)))) = true then (some false) else (quinariaref02_SameSpans.l0 k x0 x1 (wrap64 (x5 + 1)))) else (none)) else (none)) else (some true)
def quinariaref02_SameSpans.f (k : Nat) (l0 : List (S30)) (l1 : List (S30)) : Option (Bool) := if (l0.length : Int) = (l1.length : Int) then (quinariaref02_SameSpans.l0 k l0 l1 0) else (some false)
set_option maxHeartbeats 8000000 in
set_option maxRecDepth 100000 in
theorem quinariaref02_SameSpans.calls (k : Nat) (A0 : Option Addr) (c0 : Nat) (l0 : List (S30)) (A1 : Option Addr) (c1 : Nat) (l1 : List (S30)) (r : Bool) (w : World) (hr0 : Kd.C k30 w A0 l0.length l0) (hc0 : l0.length ≤ c0) (hr1 : Kd.C k30 w A1 l1.length l1) (hc1 : l1.length ≤ c1) (h : quinariaref02_SameSpans.f k l0 l1 = some r) :
  Calls Tryz.prog 52 #[.slice A0 l0.length c0, .slice A1 l1.length c1] w fun e w' => e = .returned (.bool r) ∧ Drawn0 w w' := by
 have hu30 := Tryz.underlying30; have HR0 := Aside0.mk hr0; have HC0 := Aside0.mk hc0; clear hr0 hc0; have HR1 := Aside0.mk hr1; have HC1 := Aside0.mk hc1; clear hr1 hc1; have H : (if (l0.length : Int) = (l1.length : Int) then (quinariaref02_SameSpans.l0 k l0 l1 0) else (some false)) = some r := h; clear h
 by_cases c3 : (l0.length : Int) = (l1.length : Int)
 ·rw [if_pos c3] at H; have c3b0 : ((l0.length : Int) == (l1.length : Int)) = true := beq_iff_eq.mpr c3; have c3b1 : ((l0.length : Int) != (l1.length : Int)) = false := bne_eq_false_iff_eq.mpr c3; have c3b2 : (l0.length == l1.length) = true := by first | simpa using c3 | (simp at c3 ⊢; omega)
  clear c3; have H' := Aside0.mk H; clear H
  go_enter Tryz.func52, Tryz.ntmps52
  go_wp2; repeat (go_quiet (fail); try go_wp2)
  go_loopg [5] k (fun kq v5 w' => ∃ (x5_1 : Int), v5 = .int .i64 x5_1 ∧ Aside0 (quinariaref02_SameSpans.l0 kq l0 l1 x5_1 = some r) ∧ Aside0 (kq ≤ k) ∧ Drawn0 w w')
  case atStart => exact ⟨(0), u0, H', ⟨Nat.le_refl _⟩, by repeat (first | exact Drawn0.refl _ | apply Drawn0.step)⟩
  case round =>
   clear H'; try clear c1; try clear p2; try clear c3; try clear c3b0; try clear c3b1; try clear c3b2
   obtain ⟨x5_1, rfl, HA, HK1, ⟨m1, rfl⟩⟩ := hrel
   cases gk with
   | zero => exact absurd HA.out (by simp [quinariaref02_SameSpans.l0])
   | succ k1 =>
    have H := HA.out; clear HA; simp only [quinariaref02_SameSpans.l0] at H
    by_cases c4 : x5_1 < (l0.length : Int)
    ·rw [if_pos c4] at H; replace c4 := decide_eq_true c4; obtain ⟨c5, H⟩ := ifs H; replace c5 := decide_eq_true c5; obtain ⟨c6, H⟩ := ifs H; replace c6 := decide_eq_true c6
     by_cases c7 : (!(((rd_T30 l0 x5_1).f0) == ((rd_T30 l1 x5_1).f0)) || (!(((rd_T30 l0 x5_1).f1) == ((rd_T30 l1 x5_1).f1)))) = true
     ·rw [if_pos c7] at H; have c7b0 : (!(((rd_T30 l0 x5_1).f0) == ((rd_T30 l1 x5_1).f0)) || (!(((rd_T30 l0 x5_1).f1) == ((rd_T30 l1 x5_1).f1)))) = true := c7; clear c7; obtain rfl := Option.some.inj H; have p409 : 0 ≤ (x5_1 : Int) := of_decide_eq_true (by assumption); have q409 : x5_1 < (l0.length : Int) := of_decide_eq_true (by assumption); obtain ⟨ad409, e409, hx409_0, hx409_1⟩ := at_T30 HR0.out x5_1 p409 q409
      cases e409
      replace p409 := eq_true p409; replace q409 := eq_true q409; have p410 : 0 ≤ (x5_1 : Int) := of_decide_eq_true (by assumption); have q410 : x5_1 < (l1.length : Int) := of_decide_eq_true (by assumption); obtain ⟨ad410, e410, hx410_0, hx410_1⟩ := at_T30 HR1.out x5_1 p410 q410
      cases e410
      replace p410 := eq_true p410; replace q410 := eq_true q410; go_wp2; (repeat (go_quiet (fail); try go_wp2)); go_ret; exact ⟨u0, by repeat (first | exact Drawn0.refl _ | apply Drawn0.step)⟩
     ·rw [if_neg c7] at H; have c7b0 : (!(((rd_T30 l0 x5_1).f0) == ((rd_T30 l1 x5_1).f0)) || (!(((rd_T30 l0 x5_1).f1) == ((rd_T30 l1 x5_1).f1)))) = false := by simpa using c7
      clear c7; have H' := Aside0.mk H; clear H; have p409 : 0 ≤ (x5_1 : Int) := of_decide_eq_true (by assumption); have q409 : x5_1 < (l0.length : Int) := of_decide_eq_true (by assumption); obtain ⟨ad409, e409, hx409_0, hx409_1⟩ := at_T30 HR0.out x5_1 p409 q409
      cases e409
      replace p409 := eq_true p409; replace q409 := eq_true q409; have p410 : 0 ≤ (x5_1 : Int) := of_decide_eq_true (by assumption); have q410 : x5_1 < (l1.length : Int) := of_decide_eq_true (by assumption); obtain ⟨ad410, e410, hx410_0, hx410_1⟩ := at_T30 HR1.out x5_1 p410 q410
      cases e410
      replace p410 := eq_true p410; replace q410 := eq_true q410; go_wp2; repeat (go_quiet (fail); try go_wp2)
      go_roundg k1
      case measure => have := HK1.out; omega
      case rel => exact ⟨(wrap64 (x5_1 + 1)), u0, H', ⟨by have := HK1.out; omega⟩, by repeat (first | exact Drawn0.refl _ | apply Drawn0.step)⟩
    ·rw [if_neg c4] at H; replace c4 := decide_eq_false c4; obtain rfl := Option.some.inj H; go_wp2; (repeat (go_quiet (fail); try go_wp2)); go_ret; exact ⟨u0, by repeat (first | exact Drawn0.refl _ | apply Drawn0.step)⟩
 ·rw [if_neg c3] at H; have c3b0 : ((l0.length : Int) == (l1.length : Int)) = false := beq_eq_false_iff_ne.mpr c3; have c3b1 : ((l0.length : Int) != (l1.length : Int)) = true := bne_iff_ne.mpr c3; have c3b2 : (l0.length == l1.length) = false := by first | simpa using c3 | (simp at c3 ⊢; omega)
  obtain rfl := Option.some.inj H
  go_enter Tryz.func52, Tryz.ntmps52
  go_wp2; (repeat (go_quiet (fail); try go_wp2)); go_ret; exact ⟨u0, by repeat (first | exact Drawn0.refl _ | apply Drawn0.step)⟩
end Go.Proofs.YtdmdahafiiggiaaGreatDoor.K
end
section
namespace Go.Proofs.YtdmdahafiiggiaaGreatDoor.K
open Go.RowKit Go.Proofs.YtdmdahafiiggiaaGreatDoorW.PrintWords Go.Proofs.YtdmdahafiiggiaaGreatDoorW.PrintLast Go.Proofs.YtdmdahafiiggiaaGreatDoorW.PrintMore
attribute [local go_sem] max2_int min2_int max_two min_two max_three min_three max_four min_four
theorem eqA32 (d : Nat) (w : World) (x0 y0 : Int) (x1 y1 : Int) (x2 y2 : Int) (x3 y3 : Int) (x4 y4 : Int) :
  (Op.equalIn (d + 3) 32 (.agg #[.int .i64 x0, .int .i64 x1, .int .i64 x2, .int .i64 x3, .int .i64 x4]) (.agg #[.int .i64 y0, .int .i64 y1, .int .i64 y2, .int .i64 y3, .int .i64 y4])).run Tryz.prog w = .ok (x0 == y0 && (x1 == y1 && (x2 == y2 && ((x3 == y3 && (x4 == y4)))))) w := by
 refine eqA_of Tryz.underlying32 (by kernel_rfl) ?_; refine eqf_cons (by rfl) (by go_simp; rfl) (by go_simp; rfl) (by go_simp) ?_; refine eqf_cons (by rfl) (by go_simp; rfl) (by go_simp; rfl) (by go_simp) ?_; refine eqf_cons (by rfl) (by go_simp; rfl) (by go_simp; rfl) (by go_simp) ?_; exact eqf_last (by rfl) (by go_simp) (by go_simp) (eqA30 (d + 0) w _ _ _ _)
end Go.Proofs.YtdmdahafiiggiaaGreatDoor.K
end
section
namespace Go.Proofs.YtdmdahafiiggiaaGreatDoor.K
open Go.RowKit Go.Proofs.YtdmdahafiiggiaaGreatDoorW.PrintWords Go.Proofs.YtdmdahafiiggiaaGreatDoorW.PrintLast Go.Proofs.YtdmdahafiiggiaaGreatDoorW.PrintMore
attribute [local go_sem] max2_int min2_int max_two min_two max_three min_three max_four min_four
attribute [local go_sem high] eqA32
mutual
def quinariaref02_SameLines.j0 : Nat → Bool → List Int → List (S32) → List Int → List (S32) → Option (Bool)
 | 0, _, _, _, _, _ => none
 | k + 1, x20, x412000, x412001, x413000, x413001 => if x20 = true then (some false) else (quinariaref02_SameLines.l0 k 0 x412000 x412001 x413000 x413001)
def quinariaref02_SameLines.l0 : Nat → Int → List Int → List (S32) → List Int → List (S32) → Option (Bool)
 | 0, _, _, _, _, _ => none
 | k + 1, x5, x412000, x412001, x413000, x413001 => if x5 < (x412001.length : Int) then (if 0 ≤ x5 then (if x5 < (x413001.length : Int) then (if (!(((rd_T32 x412001 x5).f0) == ((rd_T32 x413001 x5).f0)) || (!(((rd_T32 x412001 x5).f1) == ((rd_T32 x413001 x5).f1)) || (!(((rd_T32 x412001 x5).f2) == ((rd_T32 x413001 x5).f2)) || ((!(((rd_T32 x412001 x5).f3.f0) == ((rd_T32 x413001 x5).f3.f0)) || (!(((rd_T32 x412001 x5).f3.f1) == ((rd_T32 x413001 x5).f3.f1)))))))) = true then (some false) else (quinariaref02_SameLines.l0 k (wrap64 (x5 + 1)) x412000 x412001 x413000 x413001)) else (none)) else (none)) else (some true)
end
def quinariaref02_SameLines.f (k : Nat) (l0_0 : List Int) (l0_1 : List (S32)) (l1_0 : List Int) (l1_1 : List (S32)) : Option (Bool) := (quinariaref02_Same.f k l0_0 l1_0).bind fun t413 => (if t413 = true then (quinariaref02_SameLines.j0 k ((l0_1.length : Int) != (l1_1.length : Int)) l0_0 l0_1 l1_0 l1_1) else (quinariaref02_SameLines.j0 k true l0_0 l0_1 l1_0 l1_1))
set_option maxHeartbeats 8000000 in
set_option maxRecDepth 100000 in
theorem quinariaref02_SameLines.calls (k : Nat) (A0_0 : Option Addr) (c0_0 : Nat) (l0_0 : List Int) (A0_1 : Option Addr) (c0_1 : Nat) (l0_1 : List (S32)) (A1_0 : Option Addr) (c1_0 : Nat) (l1_0 : List Int) (A1_1 : Option Addr) (c1_1 : Nat) (l1_1 : List (S32)) (r : Bool) (w : World) (hr0_0 : Kd.C (Kd.int .i64) w A0_0 l0_0.length l0_0) (hc0_0 : l0_0.length ≤ c0_0) (hr0_1 : Kd.C k32 w A0_1 l0_1.length l0_1) (hc0_1 : l0_1.length ≤ c0_1) (hr1_0 : Kd.C (Kd.int .i64) w A1_0 l1_0.length l1_0) (hc1_0 : l1_0.length ≤ c1_0) (hr1_1 : Kd.C k32 w A1_1 l1_1.length l1_1) (hc1_1 : l1_1.length ≤ c1_1) (h : quinariaref02_SameLines.f k l0_0 l0_1 l1_0 l1_1 = some r) :
  Calls Tryz.prog 53 #[.agg #[.slice A0_0 l0_0.length c0_0, .slice A0_1 l0_1.length c0_1], .agg #[.slice A1_0 l1_0.length c1_0, .slice A1_1 l1_1.length c1_1]] w fun e w' => e = .returned (.bool r) ∧ Below w.heap.size w w' := by
 have hu25 := Tryz.underlying25; have hu32 := Tryz.underlying32; have HR0_0 := Aside0.mk hr0_0; have HC0_0 := Aside0.mk hc0_0; clear hr0_0 hc0_0; have HR0_1 := Aside0.mk hr0_1; have HC0_1 := Aside0.mk hc0_1; clear hr0_1 hc0_1; have HR1_0 := Aside0.mk hr1_0; have HC1_0 := Aside0.mk hc1_0; clear hr1_0 hc1_0; have HR1_1 := Aside0.mk hr1_1; have HC1_1 := Aside0.mk hc1_1; clear hr1_1 hc1_1; have HB := Aside0.mk (Below.refl w.heap.size w); have H : ((quinariaref02_Same.f k l0_0 l1_0).bind fun t413 => (if t413 = true then (quinariaref02_SameLines.j0 k ((l0_1.length : Int) != (l1_1.length : Int)) l0_0 l0_1 l1_0 l1_1) else (quinariaref02_SameLines.j0 k true l0_0 l0_1 l1_0 l1_1))) = some r := h; clear h; have HC3 := Aside0.mk H; clear H
 go_enter Tryz.func53, Tryz.ntmps53
 go_upto_region 1 with (first | ((with_reducible refine gate_dst (N := 2) rfl ?_); (try (refine gate_guard (by rfl) ?_; dsimp only)); refine bxe 2 #[.slice A0_0 l0_0.length c0_0, .slice A0_1 l0_1.length c0_1] 25 ?_; intro gb411 hg w4 hbox hb; have n0_ := Aside0.mk (below_step HB.out hb); have n1_ := Aside0.mk (hbox); have n2_ := gw hg; have n3_ := n2_; clear HB; have HB := n0_; have BK411 := n1_; have GW411 := n2_; have GE411 := n3_; clear n0_ n1_ n2_ n3_; clear hb hbox hg) | ((with_reducible refine gate_dst (N := 3) rfl ?_); (try (refine gate_guard (by rfl) ?_; dsimp only)); refine bxe 3 #[.slice A1_0 l1_0.length c1_0, .slice A1_1 l1_1.length c1_1] 25 ?_; intro gb412 hg w5 hbox hb; have n0_ := Aside0.mk (blk_below BK411.out hb); have n1_ := Aside0.mk (below_step HB.out hb); have n2_ := Aside0.mk (hbox); have n3_ := gw hg; have n4_ := n3_; have n5_ := nb BK411 hg; have n6_ := nc BK411 hg; clear BK411; clear HB; have BK411 := n0_; have HB := n1_; have BK412 := n2_; have GW412 := n3_; have GE412 := n4_; have NB411_412 := n5_; have NB412_411 := n6_; clear n0_ n1_ n2_ n3_ n4_ n5_ n6_; clear hb hbox hg))
 (try simp only [Act.put, List.setIfInBounds_toArray, List.set_cons_zero, List.set_cons_succ])
 go_cut [20] (fun v20 wc => ∃ (kq : Nat) (x20_2 : Bool), v20 = .bool x20_2 ∧ Aside0 (quinariaref02_SameLines.j0 kq x20_2 l0_0 l0_1 l1_0 l1_1 = some r) ∧ Aside0 (kq ≤ k) ∧ Aside0 (wc.heap[gb411]? = some (.cells #[(.slice A0_0 l0_0.length c0_0), (.slice A0_1 l0_1.length c0_1)] 25 (0, 0))) ∧ Aside0 (wc.heap[gb412]? = some (.cells #[(.slice A1_0 l1_0.length c1_0), (.slice A1_1 l1_1.length c1_1)] 25 (0, 0))) ∧ Aside0 (Below w.heap.size w wc))
 case first =>
  have H := HC3.out; clear HC3; replace H := Option.bind_eq_some_iff.mp H; obtain ⟨t413, A60, H⟩ := H; replace H : (if t413 = true then (quinariaref02_SameLines.j0 k ((l0_1.length : Int) != (l1_1.length : Int)) l0_0 l0_1 l1_0 l1_1) else (quinariaref02_SameLines.j0 k true l0_0 l0_1 l1_0 l1_1)) = some r := H; have A6 := Aside0.mk A60; clear A60
  by_cases c7 : t413 = true
  ·subst c7; have H1 : (quinariaref02_SameLines.j0 k ((l0_1.length : Int) != (l1_1.length : Int)) l0_0 l0_1 l1_0 l1_1) = some r := by rw [if_pos rfl] at H; exact H
   clear H; have H := H1; clear H1; have H' := Aside0.mk H; clear H; have hnb8 := NB411_412.out; have hnc8 := NB412_411.out; obtain ⟨hcz9_0, hcz9_1⟩ := cz2 BK411.out; obtain ⟨hfz9_0, hfz9_1⟩ := fz2 BK411.out; obtain ⟨hcz10_0, hcz10_1⟩ := cz2 BK412.out; obtain ⟨hfz10_0, hfz10_1⟩ := fz2 BK412.out
   go_wp2_with (first | (go_at_call 24; (with_reducible refine (quinariaref02_Same.calls k _ _ l0_0 _ _ l1_0 true _ ?side1 ?side2 ?side3 ?side4 A6.out).mono ?_); (case side1 => exact Kd.C_below HR0_0.out HB.out); (case side2 => exact HC0_0.out); (case side3 => exact Kd.C_below HR1_0.out HB.out); (case side4 => exact HC1_0.out); rintro e w' ⟨rfl, ⟨nd, rfl⟩⟩; (try first | exact ⟨rfl, _, World.drewN_drewN _ _ _⟩ | exact ⟨rfl, _, Eq.trans (World.drewN_drewN _ _ _) (congrArg (World.drewN _) (Nat.add_assoc _ _ _))⟩)))
   go_meet
   case rel => exact ⟨_, (((l0_1.length : Int) != (l1_1.length : Int))), u0, H', ⟨u1⟩, ⟨uK BK411.out⟩, ⟨uK BK412.out⟩, ⟨uB⟩⟩
  ·replace c7 := Bool.eq_false_iff.mpr c7; subst c7; have H1 : (quinariaref02_SameLines.j0 k true l0_0 l0_1 l1_0 l1_1) = some r := by rw [if_neg (show ¬ (false = true) by decide)] at H; exact H
   clear H; have H := H1; clear H1; have H' := Aside0.mk H; clear H; have hnb11 := NB411_412.out; have hnc11 := NB412_411.out; obtain ⟨hcz12_0, hcz12_1⟩ := cz2 BK411.out; obtain ⟨hfz12_0, hfz12_1⟩ := fz2 BK411.out; obtain ⟨hcz13_0, hcz13_1⟩ := cz2 BK412.out; obtain ⟨hfz13_0, hfz13_1⟩ := fz2 BK412.out
   go_wp2_with (first | (go_at_call 24; (with_reducible refine (quinariaref02_Same.calls k _ _ l0_0 _ _ l1_0 false _ ?side1 ?side2 ?side3 ?side4 A6.out).mono ?_); (case side1 => exact Kd.C_below HR0_0.out HB.out); (case side2 => exact HC0_0.out); (case side3 => exact Kd.C_below HR1_0.out HB.out); (case side4 => exact HC1_0.out); rintro e w' ⟨rfl, ⟨nd, rfl⟩⟩; (try first | exact ⟨rfl, _, World.drewN_drewN _ _ _⟩ | exact ⟨rfl, _, Eq.trans (World.drewN_drewN _ _ _) (congrArg (World.drewN _) (Nat.add_assoc _ _ _))⟩)))
   go_meet
   case rel => exact ⟨_, (true), u0, H', ⟨u1⟩, ⟨uK BK411.out⟩, ⟨uK BK412.out⟩, ⟨uB⟩⟩
 case rest =>
  clear HC3; try clear c1; try clear p2; try clear c5; try clear c7; try clear c8; try clear c11; try clear hcz10_0; try clear hcz10_1; try clear hcz12_0; try clear hcz12_1; try clear hcz13_0; try clear hcz13_1; try clear hcz9_0; try clear hcz9_1; try clear hfz10_0; try clear hfz10_1; try clear hfz12_0; try clear hfz12_1; try clear hfz13_0; try clear hfz13_1; try clear hfz9_0; try clear hfz9_1
  obtain ⟨kq, x20_2, rfl, HA, HJ2, BK411, BK412, HB⟩ := hcut
  cases kq with
  | zero => exact absurd HA.out (by simp [quinariaref02_SameLines.j0])
  | succ kj2 =>
   have H := HA.out; clear HA; simp only [quinariaref02_SameLines.j0] at H
   by_cases c14 : x20_2 = true
   ·subst c14; have H1 : (some false) = some r := by rw [if_pos rfl] at H; exact H
    clear H; have H := H1; clear H1; obtain rfl := Option.some.inj H; go_wp2; (repeat (go_quiet (fail); try go_wp2)); go_ret; exact ⟨uE, uB⟩
   ·replace c14 := Bool.eq_false_iff.mpr c14; subst c14; have H1 : (quinariaref02_SameLines.l0 kj2 0 l0_0 l0_1 l1_0 l1_1) = some r := by rw [if_neg (show ¬ (false = true) by decide)] at H; exact H
    clear H; have H := H1; clear H1; have H' := Aside0.mk H; clear H; go_wp2; repeat (go_quiet (fail); try go_wp2)
    go_loopg [5] kj2 (fun kq v5 w' => ∃ (x5_2 : Int), v5 = .int .i64 x5_2 ∧ Aside0 (quinariaref02_SameLines.l0 kq x5_2 l0_0 l0_1 l1_0 l1_1 = some r) ∧ Aside0 (kq ≤ kj2) ∧ Aside0 (w'.heap[gb411]? = some (.cells #[(.slice A0_0 l0_0.length c0_0), (.slice A0_1 l0_1.length c0_1)] 25 (0, 0))) ∧ Aside0 (w'.heap[gb412]? = some (.cells #[(.slice A1_0 l1_0.length c1_0), (.slice A1_1 l1_1.length c1_1)] 25 (0, 0))) ∧ Aside0 (Below w.heap.size w w'))
    case atStart => exact ⟨(0), u0, H', ⟨Nat.le_refl _⟩, ⟨uK BK411.out⟩, ⟨uK BK412.out⟩, ⟨uB⟩⟩
    case round =>
     clear H'; try clear c1; try clear p2; try clear c5; try clear c7; try clear c8; try clear c11; try clear c14; try clear hcz10_0; try clear hcz10_1; try clear hcz12_0; try clear hcz12_1; try clear hcz13_0; try clear hcz13_1; try clear hcz9_0; try clear hcz9_1; try clear hfz10_0; try clear hfz10_1; try clear hfz12_0; try clear hfz12_1; try clear hfz13_0; try clear hfz13_1; try clear hfz9_0; try clear hfz9_1; try clear p2
     obtain ⟨x5_2, rfl, HA, HK2, BK411, BK412, HB⟩ := hrel
     cases gk with
     | zero => exact absurd HA.out (by simp [quinariaref02_SameLines.l0])
     | succ k2 =>
      have H := HA.out; clear HA; simp only [quinariaref02_SameLines.l0] at H
      by_cases c15 : x5_2 < (l0_1.length : Int)
      ·rw [if_pos c15] at H; replace c15 := decide_eq_true c15; obtain ⟨c16, H⟩ := ifs H; replace c16 := decide_eq_true c16; obtain ⟨c17, H⟩ := ifs H; replace c17 := decide_eq_true c17
       by_cases c18 : (!(((rd_T32 l0_1 x5_2).f0) == ((rd_T32 l1_1 x5_2).f0)) || (!(((rd_T32 l0_1 x5_2).f1) == ((rd_T32 l1_1 x5_2).f1)) || (!(((rd_T32 l0_1 x5_2).f2) == ((rd_T32 l1_1 x5_2).f2)) || ((!(((rd_T32 l0_1 x5_2).f3.f0) == ((rd_T32 l1_1 x5_2).f3.f0)) || (!(((rd_T32 l0_1 x5_2).f3.f1) == ((rd_T32 l1_1 x5_2).f3.f1)))))))) = true
       ·rw [if_pos c18] at H; have c18b0 : (!(((rd_T32 l0_1 x5_2).f0) == ((rd_T32 l1_1 x5_2).f0)) || (!(((rd_T32 l0_1 x5_2).f1) == ((rd_T32 l1_1 x5_2).f1)) || (!(((rd_T32 l0_1 x5_2).f2) == ((rd_T32 l1_1 x5_2).f2)) || ((!(((rd_T32 l0_1 x5_2).f3.f0) == ((rd_T32 l1_1 x5_2).f3.f0)) || (!(((rd_T32 l0_1 x5_2).f3.f1) == ((rd_T32 l1_1 x5_2).f3.f1)))))))) = true := c18; clear c18; obtain rfl := Option.some.inj H; have hnb19 := NB411_412.out; have hnc19 := NB412_411.out; obtain ⟨hcz20_0, hcz20_1⟩ := cz2 BK411.out; obtain ⟨hfz20_0, hfz20_1⟩ := fz2 BK411.out; have p414 : 0 ≤ (x5_2 : Int) := of_decide_eq_true (by assumption); have q414 : x5_2 < (l0_1.length : Int) := of_decide_eq_true (by assumption); obtain ⟨ad414, e414, hx414_0, hx414_1, hx414_2, hx414_3, hx414_4⟩ := at_T32 HR0_1.out x5_2 p414 q414
        cases e414
        replace hx414_0 := hcell HB.out hx414_0; replace hx414_1 := hcell HB.out hx414_1; replace hx414_2 := hcell HB.out hx414_2; replace hx414_3 := hcell HB.out hx414_3; replace hx414_4 := hcell HB.out hx414_4; replace p414 := eq_true p414; replace q414 := eq_true q414; obtain ⟨hcz21_0, hcz21_1⟩ := cz2 BK412.out; obtain ⟨hfz21_0, hfz21_1⟩ := fz2 BK412.out; have p415 : 0 ≤ (x5_2 : Int) := of_decide_eq_true (by assumption); have q415 : x5_2 < (l1_1.length : Int) := of_decide_eq_true (by assumption); obtain ⟨ad415, e415, hx415_0, hx415_1, hx415_2, hx415_3, hx415_4⟩ := at_T32 HR1_1.out x5_2 p415 q415
        cases e415
        replace hx415_0 := hcell HB.out hx415_0; replace hx415_1 := hcell HB.out hx415_1; replace hx415_2 := hcell HB.out hx415_2; replace hx415_3 := hcell HB.out hx415_3; replace hx415_4 := hcell HB.out hx415_4; replace p415 := eq_true p415; replace q415 := eq_true q415; go_wp2; (repeat (go_quiet (fail); try go_wp2)); go_ret; exact ⟨uE, uB⟩
       ·rw [if_neg c18] at H; have c18b0 : (!(((rd_T32 l0_1 x5_2).f0) == ((rd_T32 l1_1 x5_2).f0)) || (!(((rd_T32 l0_1 x5_2).f1) == ((rd_T32 l1_1 x5_2).f1)) || (!(((rd_T32 l0_1 x5_2).f2) == ((rd_T32 l1_1 x5_2).f2)) || ((!(((rd_T32 l0_1 x5_2).f3.f0) == ((rd_T32 l1_1 x5_2).f3.f0)) || (!(((rd_T32 l0_1 x5_2).f3.f1) == ((rd_T32 l1_1 x5_2).f3.f1)))))))) = false := by simpa using c18
        clear c18; have H' := Aside0.mk H; clear H; have hnb22 := NB411_412.out; have hnc22 := NB412_411.out; obtain ⟨hcz23_0, hcz23_1⟩ := cz2 BK411.out; obtain ⟨hfz23_0, hfz23_1⟩ := fz2 BK411.out; have p414 : 0 ≤ (x5_2 : Int) := of_decide_eq_true (by assumption); have q414 : x5_2 < (l0_1.length : Int) := of_decide_eq_true (by assumption); obtain ⟨ad414, e414, hx414_0, hx414_1, hx414_2, hx414_3, hx414_4⟩ := at_T32 HR0_1.out x5_2 p414 q414
        cases e414
        replace hx414_0 := hcell HB.out hx414_0; replace hx414_1 := hcell HB.out hx414_1; replace hx414_2 := hcell HB.out hx414_2; replace hx414_3 := hcell HB.out hx414_3; replace hx414_4 := hcell HB.out hx414_4; replace p414 := eq_true p414; replace q414 := eq_true q414; obtain ⟨hcz24_0, hcz24_1⟩ := cz2 BK412.out; obtain ⟨hfz24_0, hfz24_1⟩ := fz2 BK412.out; have p415 : 0 ≤ (x5_2 : Int) := of_decide_eq_true (by assumption); have q415 : x5_2 < (l1_1.length : Int) := of_decide_eq_true (by assumption); obtain ⟨ad415, e415, hx415_0, hx415_1, hx415_2, hx415_3, hx415_4⟩ := at_T32 HR1_1.out x5_2 p415 q415
        cases e415
        replace hx415_0 := hcell HB.out hx415_0; replace hx415_1 := hcell HB.out hx415_1; replace hx415_2 := hcell HB.out hx415_2; replace hx415_3 := hcell HB.out hx415_3; replace hx415_4 := hcell HB.out hx415_4; replace p415 := eq_true p415; replace q415 := eq_true q415; go_wp2; repeat (go_quiet (fail); try go_wp2)
        go_roundg k2
        case measure => have := HJ2.out; have := HK2.out; omega
        case rel => exact ⟨(wrap64 (x5_2 + 1)), u0, H', ⟨by have := HJ2.out; have := HK2.out; omega⟩, ⟨uK BK411.out⟩, ⟨uK BK412.out⟩, ⟨uB⟩⟩
      ·rw [if_neg c15] at H; replace c15 := decide_eq_false c15; obtain rfl := Option.some.inj H; have hnb25 := NB411_412.out; have hnc25 := NB412_411.out; obtain ⟨hcz26_0, hcz26_1⟩ := cz2 BK411.out; obtain ⟨hfz26_0, hfz26_1⟩ := fz2 BK411.out; go_wp2; (repeat (go_quiet (fail); try go_wp2)); go_ret; exact ⟨uE, uB⟩
end Go.Proofs.YtdmdahafiiggiaaGreatDoor.K
end
section
namespace Go.Proofs.YtdmdahafiiggiaaGreatDoor.K
open Go.RowKit Go.Shelf Go.Proofs.YtdmdahafiiggiaaGreatDoorW.PrintWords Go.Proofs.YtdmdahafiiggiaaGreatDoorW.PrintLast Go.Proofs.YtdmdahafiiggiaaGreatDoorW.PrintMore
theorem flat_at {α : Type} (enc : α → List Value) (n : Nat) (hn : ∀ x, (enc x).length = n) : ∀ (xs : List α) (j i : Nat) (p : α) (u : Value), xs[j]? = some p → (enc p)[i]? = some u → (xs.flatMap enc)[j * n + i]? = some u
  | [], j, i, p, u, h, _ => by simp at h
  | x :: xs, 0, i, p, u, h, hu => by
    obtain rfl : x = p := by simpa using h
    rw [List.flatMap_cons, Nat.zero_mul, Nat.zero_add, List.getElem?_append_left (List.getElem?_eq_some_iff.1 hu).1]; exact hu
  | x :: xs, j + 1, i, p, u, h, hu => by
    rw [List.flatMap_cons, List.getElem?_append_right (by rw [hn, Nat.succ_mul]; omega), hn, show (j + 1) * n + i - n = j * n + i by rw [Nat.succ_mul]; omega]; exact flat_at enc n hn xs j i p u (by simpa using h) hu
theorem C_new {α : Type} (d : Kd α) (W : World) (e : TypeId) (enc : α → List Value) (xs : List α) (hn : ∀ x, (enc x).length = d.sz) (hK : ∀ w x, d.K w x (enc x)) (hl : xs.length ≤ 9223372036854775807) : Kd.C d (W.alloc (.cells (xs.flatMap enc).toArray e)) (some ⟨W.heap.size, 0, none⟩) xs.length xs := by
  refine ⟨rfl, hl, fun _ => ⟨_, rfl, fun j p hj => ⟨enc p, hn p, hK _ p, fun i u hi => ?_⟩⟩⟩; have h1 := flat_at enc d.sz hn xs j i p u hj hi
  have h2 : (⟨W.heap.size, 0, none⟩ : Addr).add (j * d.sz + i) = ⟨W.heap.size, j * d.sz + i, none⟩ := by
    simp [Addr.add]; intro h1 h2
    omega
  rw [h2, blk_cell (blk_new W _)]
  simpa using h1
theorem C_ints (W : World) (e : TypeId) (xs : List Int) (hl : xs.length ≤ 9223372036854775807) : Kd.C (Kd.int .i64) (W.alloc (.cells (xs.flatMap fun x => [Value.int .i64 x]).toArray e)) (some ⟨W.heap.size, 0, none⟩) xs.length xs :=
  C_new (Kd.int .i64) W e (fun x => [Value.int .i64 x]) xs (fun _ => rfl) (fun _ _ => rfl) hl
def ins (x : Int) : List Int → List Int
  | [] => [x]
  | y :: l => if x ≤ y then x :: y :: l else y :: ins x l
def isort : List Int → List Int
  | [] => []
  | x :: l => ins x (isort l)
theorem ins_perm (x : Int) : ∀ l : List Int, (ins x l).Perm (x :: l)
  | [] => List.Perm.refl _
  | y :: l => by
    unfold ins
    split
    · exact List.Perm.refl _
    · exact ((ins_perm x l).cons y).trans (List.Perm.swap x y l)
theorem isort_perm : ∀ l : List Int, (isort l).Perm l
  | [] => List.Perm.refl _
  | x :: l => (ins_perm x _).trans ((isort_perm l).cons x)
theorem ins_sorted (x : Int) : ∀ l : List Int, l.Pairwise (· ≤ ·) → (ins x l).Pairwise (· ≤ ·)
  | [], _ => by simp [ins]
  | y :: l, h => by
    rw [List.pairwise_cons] at h; unfold ins
    split
    · rename_i hxy
      refine List.Pairwise.cons (fun a ha => ?_) (List.Pairwise.cons h.1 h.2)
      rcases List.mem_cons.1 ha with rfl | ha
      · exact hxy
      · exact Int.le_trans hxy (h.1 a ha)
    · rename_i hxy
      refine List.Pairwise.cons (fun a ha => ?_) (ins_sorted x l h.2)
      rcases List.mem_cons.1 ((ins_perm x l).subset ha) with rfl | ha
      · omega
      · exact h.1 a ha
theorem isort_sorted : ∀ l : List Int, (isort l).Pairwise (· ≤ ·)
  | [] => List.Pairwise.nil
  | x :: l => ins_sorted x _ (isort_sorted l)
theorem sortL_sorted (l : List Int) : (sortL l).Pairwise (· ≤ ·) := by
  have := List.pairwise_mergeSort (le := fun x y : Int => decide (x ≤ y)) (by intro a b c; simp; omega) (by intro a b; simp; omega) l; exact this.imp (fun h => by simpa using h)
theorem sortL_perm (l : List Int) : (sortL l).Perm l := List.mergeSort_perm l _
theorem sorted_eq {l m : List Int} (hl : l.Pairwise (· ≤ ·)) (hm : m.Pairwise (· ≤ ·)) (h : l.Perm m) : l = m :=
  List.Perm.eq_of_pairwise (le := fun x y : Int => x ≤ y) (fun a b _ _ h1 h2 => Int.le_antisymm h1 h2) hl hm h
theorem sortL_is : sortL = isort := funext fun l => sorted_eq (sortL_sorted l) (isort_sorted l) ((sortL_perm l).trans (isort_perm l).symm)
def PSt : List S32 := [⟨20, 30, 1, ⟨4, 10⟩⟩, ⟨24, 25, 0, ⟨0, 5⟩⟩, ⟨10, 20, 2, ⟨10, 10⟩⟩]
def SPts : List S30 := [⟨98, 100⟩, ⟨60, 62⟩, ⟨40, 41⟩, ⟨70, 72⟩, ⟨95, 96⟩]
def CCl : List S123 := [⟨30, 1, 1000⟩, ⟨50, 3, 15⟩, ⟨70, 5, 50⟩]
theorem P_any (w : World) : Calls Tryz.prog 44 #[] w fun e w' => ∃ A c A' c', e = .returned (.agg #[.slice A 3 c, .slice A' 3 c']) ∧ Aside0 (At' (Kd.int .i64) w' A 3 c [10, 20, 30] ∧ At' k32 w' A' 3 c' PSt) ∧ Below w.heap.size w w' := by
  refine (quinarialaw02_P.calls [10, 20, 30] PSt w (by kernel_rfl)).mono ?_; rintro e w' ⟨v0, v1, rfl, h0, h1, hb⟩; obtain ⟨A, c, rfl, ha⟩ := At'.of_R h0; obtain ⟨A', c', rfl, ha'⟩ := At'.of_R h1; exact ⟨A, c, A', c', rfl, ⟨ha, ha'⟩, hb⟩
theorem S_any (w : World) : Calls Tryz.prog 46 #[] w fun e w' => ∃ A c A' c', e = .returned (.agg #[.int .i64 100, .int .i64 104, .slice A 5 c, .slice A' 4 c']) ∧ Aside0 (At' k30 w' A 5 c SPts ∧ At' (Kd.int .i64) w' A' 4 c' [10, 20, 20, 10]) ∧ Below w.heap.size w w' := by
  refine (quinarialaw02_S.calls 100 104 SPts [10, 20, 20, 10] w (by kernel_rfl)).mono ?_; rintro e w' ⟨v0, v1, rfl, h0, h1, hb⟩; obtain ⟨A, c, rfl, ha⟩ := At'.of_R h0; obtain ⟨A', c', rfl, ha'⟩ := At'.of_R h1; exact ⟨A, c, A', c', rfl, ⟨ha, ha'⟩, hb⟩
theorem C_any (w : World) : Calls Tryz.prog 49 #[] w fun e w' => ∃ A c, e = .returned (.slice A 3 c) ∧ Aside0 (At' k123 w' A 3 c CCl) ∧ Below w.heap.size w w' := by
  refine (quinarialaw02_C.calls CCl w (by kernel_rfl)).mono ?_; rintro e w' ⟨v0, rfl, h0, hb⟩; obtain ⟨A, c, rfl, ha⟩ := At'.of_R h0; exact ⟨A, c, rfl, ⟨ha⟩, hb⟩
theorem carries_P (A A' : Option Addr) (c c' : Nat) (w : World) (h : At' (Kd.int .i64) w A 3 c [10, 20, 30] ∧ At' k32 w A' 3 c' PSt) : Calls Tryz.prog 18 #[.agg #[.slice A 3 c, .slice A' 3 c'], .int .i64 0, .int .i64 50] w fun e w' => e = .returned (.tuple #[.agg #[.int .i64 5000, .int .i64 8960], .int .i64 0]) ∧ Below w.heap.size w w' :=
  channel_Carries.calls 1000 A c [10, 20, 30] A' c' PSt 0 50 5000 8960 0 w h.1.c h.1.le h.2.c h.2.le (by kernel_rfl)
theorem latest_P (A A' : Option Addr) (c c' : Nat) (w : World) (h : At' (Kd.int .i64) w A 3 c [10, 20, 30] ∧ At' k32 w A' 3 c' PSt) : Calls Tryz.prog 27 #[.agg #[.slice A 3 c, .slice A' 3 c'], .int .i64 0, .int .i64 5000] w fun e w' => e = .returned (.tuple #[.int .i64 59, .int .i64 0]) ∧ Below w.heap.size w w' :=
  channel_Latest.calls 1000 A c [10, 20, 30] A' c' PSt 0 5000 59 0 w h.1.c h.1.le h.2.c h.2.le (by kernel_rfl)
theorem plan_is : channel_Plan.f [10, 20, 30] PSt [50, 0, 0] 5000 40 = some ([8, 39, 9], 0) := by
  delta channel_Plan.f planF picksF stepPick pickF okY fitB
  rw [sortL_is]
  kernel_rfl
theorem line_P (A A' : Option Addr) (c c' : Nat) (w : World) (h : At' (Kd.int .i64) w A 3 c [10, 20, 30] ∧ At' k32 w A' 3 c' PSt) : Calls Tryz.prog 20 #[.agg #[.slice A 3 c, .slice A' 3 c'], .slice (some ⟨w.heap.size, 0, none⟩) 3 3] (w.alloc (.cells #[.int .i64 50, .int .i64 50, .int .i64 0] 3)) fun e w' => e = .returned (.tuple #[.agg #[.int .i64 4600, .int .i64 6000], .int .i64 0]) ∧ Below w.heap.size w w' := by
  have hB : Below w.heap.size w (w.alloc (.cells #[.int .i64 50, .int .i64 50, .int .i64 0] 3)) := (Below.refl _ _).alloc (Nat.le_refl _) _; refine (channel_Line.calls 1000 A c [10, 20, 30] A' c' PSt (some ⟨w.heap.size, 0, none⟩) 3 [50, 50, 0] 4600 6000 0 (w.alloc (.cells #[.int .i64 50, .int .i64 50, .int .i64 0] 3)) (h.1.below hB).c h.1.le (h.2.below hB).c h.2.le (C_ints w _ [50, 50, 0] (by decide)) (Nat.le_refl _) (by kernel_rfl)).mono ?_; rintro e w' ⟨rfl, hb⟩; exact ⟨rfl, below_then hB hB.size hb⟩
theorem narrowest_P (A A' : Option Addr) (c c' : Nat) (w : World) (h : At' (Kd.int .i64) w A 3 c [10, 20, 30] ∧ At' k32 w A' 3 c' PSt) : Calls Tryz.prog 21 #[.agg #[.slice A 3 c, .slice A' 3 c'], .slice (some ⟨w.heap.size, 0, none⟩) 3 3] (w.alloc (.cells #[.int .i64 0, .int .i64 50, .int .i64 0] 3)) fun e w' => ∃ B d, e = .returned (.tuple #[.slice B 2 d, .int .i64 0]) ∧ Aside0 (At' (Kd.int .i64) w' B 2 d [1, 2]) ∧ Below w.heap.size w w' := by
  have hB : Below w.heap.size w (w.alloc (.cells #[.int .i64 0, .int .i64 50, .int .i64 0] 3)) := (Below.refl _ _).alloc (Nat.le_refl _) _; refine (channel_Narrowest.calls 1000 A c [10, 20, 30] A' c' PSt (some ⟨w.heap.size, 0, none⟩) 3 [0, 50, 0] [1, 2] 0 (w.alloc (.cells #[.int .i64 0, .int .i64 50, .int .i64 0] 3)) (h.1.below hB).c h.1.le (h.2.below hB).c h.2.le (C_ints w _ [0, 50, 0] (by decide)) (Nat.le_refl _) (by kernel_rfl)).mono ?_; rintro e w' ⟨v0, rfl, h0, hb⟩; obtain ⟨B, d, rfl, ha⟩ := At'.of_R h0; exact ⟨B, d, rfl, ⟨ha⟩, below_then hB hB.size hb⟩
theorem widen_P (A A' : Option Addr) (c c' : Nat) (w : World) (h : At' (Kd.int .i64) w A 3 c [10, 20, 30] ∧ At' k32 w A' 3 c' PSt) : Calls Tryz.prog 28 #[.agg #[.slice A 3 c, .slice A' 3 c'], .slice (some ⟨w.heap.size, 0, none⟩) 3 3, .int .i64 6000] (w.alloc (.cells #[.int .i64 50, .int .i64 50, .int .i64 0] 3)) fun e w' => ∃ B d, e = .returned (.tuple #[.slice B 3 d, .int .i64 0]) ∧ Aside0 (At' (Kd.int .i64) w' B 3 d [22, 31, 10]) ∧ Below w.heap.size w w' := by
  have hB : Below w.heap.size w (w.alloc (.cells #[.int .i64 50, .int .i64 50, .int .i64 0] 3)) := (Below.refl _ _).alloc (Nat.le_refl _) _; refine (channel_Widen.calls 1000 A c [10, 20, 30] A' c' PSt (some ⟨w.heap.size, 0, none⟩) 3 [50, 50, 0] 6000 [22, 31, 10] 0 (w.alloc (.cells #[.int .i64 50, .int .i64 50, .int .i64 0] 3)) (h.1.below hB).c h.1.le (h.2.below hB).c h.2.le (C_ints w _ [50, 50, 0] (by decide)) (Nat.le_refl _) (by kernel_rfl)).mono ?_; rintro e w' ⟨v0, rfl, h0, hb⟩; obtain ⟨B, d, rfl, ha⟩ := At'.of_R h0; exact ⟨B, d, rfl, ⟨ha⟩, below_then hB hB.size hb⟩
theorem plan_P (A A' : Option Addr) (c c' : Nat) (w : World) (h : At' (Kd.int .i64) w A 3 c [10, 20, 30] ∧ At' k32 w A' 3 c' PSt) : Calls Tryz.prog 32 #[.agg #[.slice A 3 c, .slice A' 3 c'], .slice (some ⟨w.heap.size, 0, none⟩) 3 3, .int .i64 5000, .int .i64 40] (w.alloc (.cells #[.int .i64 50, .int .i64 0, .int .i64 0] 3)) fun e w' => ∃ B d, e = .returned (.tuple #[.slice B 3 d, .int .i64 0]) ∧ Aside0 (At' (Kd.int .i64) w' B 3 d [8, 39, 9]) ∧ Below w.heap.size w w' := by
  have hB : Below w.heap.size w (w.alloc (.cells #[.int .i64 50, .int .i64 0, .int .i64 0] 3)) := (Below.refl _ _).alloc (Nat.le_refl _) _; refine (channel_Plan.calls A c [10, 20, 30] A' c' PSt (some ⟨w.heap.size, 0, none⟩) 3 [50, 0, 0] 5000 40 [8, 39, 9] 0 (w.alloc (.cells #[.int .i64 50, .int .i64 0, .int .i64 0] 3)) (h.1.below hB).c h.1.le (h.2.below hB).c h.2.le (C_ints w _ [50, 0, 0] (by decide)) (Nat.le_refl _) plan_is).mono ?_; rintro e w' ⟨v0, rfl, h0, hb⟩; obtain ⟨B, d, rfl, ha⟩ := At'.of_R h0; exact ⟨B, d, rfl, ⟨ha⟩, below_then hB hB.size hb⟩
def LNotes : List S68 := [⟨50, ⟨5000, 8000⟩⟩]
theorem lime_P (A A' : Option Addr) (c c' : Nat) (w : World) (h : At' (Kd.int .i64) w A 3 c [10, 20, 30] ∧ At' k32 w A' 3 c' PSt) : Calls Tryz.prog 38 #[.agg #[.slice A 3 c, .slice A' 3 c'], .int .i64 0, .slice (some ⟨w.heap.size, 0, none⟩) 1 1] (w.alloc (.cells #[.int .i64 50, .int .i64 5000, .int .i64 8000] 68)) fun e w' => e = .returned (.tuple #[.agg #[.int .i64 6, .int .i64 10], .int .i64 0]) ∧ Below w.heap.size w w' := by
  have hB : Below w.heap.size w (w.alloc (.cells #[.int .i64 50, .int .i64 5000, .int .i64 8000] 68)) := (Below.refl _ _).alloc (Nat.le_refl _) _; refine (channel_Lime.calls A c [10, 20, 30] A' c' PSt 0 (some ⟨w.heap.size, 0, none⟩) 1 LNotes 6 10 0 _ (h.1.below hB).c h.1.le (h.2.below hB).c h.2.le (C_new k68 w _ (fun x => [.int .i64 x.f0, .int .i64 x.f1.f0, .int .i64 x.f1.f1]) LNotes (fun _ => rfl) (fun w x => k68_mk w x) (by decide)) (Nat.le_refl _) (by kernel_rfl)).mono ?_; rintro e w' ⟨rfl, hb⟩; exact ⟨rfl, below_then hB hB.size hb⟩
theorem pressures_S (A A' : Option Addr) (c c' : Nat) (w : World) (h : At' k30 w A 5 c SPts ∧ At' (Kd.int .i64) w A' 4 c' [10, 20, 20, 10]) : Calls Tryz.prog 45 #[.agg #[.int .i64 100, .int .i64 104, .slice A 5 c, .slice A' 4 c']] w fun e w' => ∃ B d, e = .returned (.tuple #[.slice B 4 d, .int .i64 0]) ∧ Aside0 (At' k30 w' B 4 d [⟨38, 44⟩, ⟨59, 64⟩, ⟨59, 64⟩, ⟨28, 34⟩]) ∧ Below w.heap.size w w' := by
  refine (channel_Pressures.calls 1000 100 104 A c SPts A' c' [10, 20, 20, 10] [⟨38, 44⟩, ⟨59, 64⟩, ⟨59, 64⟩, ⟨28, 34⟩] 0 w h.1.c h.1.le h.2.c h.2.le (by kernel_rfl)).mono ?_; rintro e w' ⟨v0, rfl, h0, hb⟩; obtain ⟨B, d, rfl, ha⟩ := At'.of_R h0; exact ⟨B, d, rfl, ⟨ha⟩, hb⟩
theorem flows_S (A A' : Option Addr) (c c' : Nat) (w : World) (h : At' k30 w A 5 c SPts ∧ At' (Kd.int .i64) w A' 4 c' [10, 20, 20, 10]) : Calls Tryz.prog 47 #[.agg #[.int .i64 100, .int .i64 104, .slice A 5 c, .slice A' 4 c']] w fun e w' => e = .returned (.tuple #[.int .i64 3, .int .i64 0]) ∧ Below w.heap.size w w' :=
  channel_Flows.calls 100 104 A c SPts A' c' [10, 20, 20, 10] 3 0 w h.1.c h.1.le h.2.c h.2.le (by kernel_rfl)
theorem bursts_S (A A' : Option Addr) (c c' : Nat) (w : World) (h : At' k30 w A 5 c SPts ∧ At' (Kd.int .i64) w A' 4 c' [10, 20, 20, 10]) (A2 : Option Addr) (c2 : Nat) (h2 : At' k123 w A2 3 c2 CCl) : Calls Tryz.prog 48 #[.agg #[.int .i64 100, .int .i64 104, .slice A 5 c, .slice A' 4 c'], .slice A2 3 c2, .slice (some ⟨w.heap.size, 0, none⟩) 4 4] (w.alloc (.cells #[.int .i64 0, .int .i64 2, .int .i64 2, .int .i64 1] 3)) fun e w' => ∃ B d, e = .returned (.tuple #[.slice B 1 d, .int .i64 0]) ∧ Aside0 (At' (Kd.int .i64) w' B 1 d [0]) ∧ Below w.heap.size w w' := by
  have hB : Below w.heap.size w (w.alloc (.cells #[.int .i64 0, .int .i64 2, .int .i64 2, .int .i64 1] 3)) := (Below.refl _ _).alloc (Nat.le_refl _) _; refine (channel_Bursts.calls 100 104 A c SPts A' c' [10, 20, 20, 10] A2 c2 CCl (some ⟨w.heap.size, 0, none⟩) 4 [0, 2, 2, 1] [0] 0 _ (h.1.below hB).c h.1.le (h.2.below hB).c h.2.le (h2.below hB).c h2.le (C_ints w _ [0, 2, 2, 1] (by decide)) (Nat.le_refl _) (by kernel_rfl)).mono ?_; rintro e w' ⟨v0, rfl, h0, hb⟩; obtain ⟨B, d, rfl, ha⟩ := At'.of_R h0; exact ⟨B, d, rfl, ⟨ha⟩, below_then hB hB.size hb⟩
theorem pipes_S (A A' : Option Addr) (c c' : Nat) (w : World) (h : At' k30 w A 5 c SPts ∧ At' (Kd.int .i64) w A' 4 c' [10, 20, 20, 10]) (A2 : Option Addr) (c2 : Nat) (h2 : At' k123 w A2 3 c2 CCl) : Calls Tryz.prog 50 #[.agg #[.int .i64 100, .int .i64 104, .slice A 5 c, .slice A' 4 c'], .slice A2 3 c2] w fun e w' => ∃ B d, e = .returned (.tuple #[.slice B 4 d, .int .i64 280, .int .i64 0]) ∧ Aside0 (At' (Kd.int .i64) w' B 4 d [1, 2, 2, 2]) ∧ Below w.heap.size w w' := by
  refine (channel_Pipes.calls 100 104 A c SPts A' c' [10, 20, 20, 10] A2 c2 CCl [1, 2, 2, 2] 280 0 w h.1.c h.1.le h.2.c h.2.le h2.c h2.le (by kernel_rfl)).mono ?_; rintro e w' ⟨v0, rfl, h0, hb⟩; obtain ⟨B, d, rfl, ha⟩ := At'.of_R h0; exact ⟨B, d, rfl, ⟨ha⟩, hb⟩
end Go.Proofs.YtdmdahafiiggiaaGreatDoor.K
end
section
namespace Go.Proofs.YtdmdahafiiggiaaGreatDoor.K
open Go.RowKit Go.Shelf Go.Proofs.YtdmdahafiiggiaaGreatDoorW.PrintWords Go.Proofs.YtdmdahafiiggiaaGreatDoorW.PrintLast Go.Proofs.YtdmdahafiiggiaaGreatDoorW.PrintMore
attribute [local go_sem high] eqA30
def knownText : ByteArray := ⟨#[115, 112, 101, 101, 100, 115, 32, 55, 10, 115, 116, 114, 101, 116, 99, 104, 32, 49, 48, 32, 50, 48, 32, 48, 32, 48, 32, 53, 10, 101, 110, 100, 32, 48, 51, 54, 10]⟩
theorem read_knownText : readF knownText = ([7], [⟨10, 20, 0, ⟨0, 5⟩⟩], 0) := by kernel_rfl
theorem read_K (w : World) (hT : TabW w) : Calls Tryz.prog 51 #[.string knownText] w fun e w' => ∃ A c A' c', e = .returned (.tuple #[.agg #[.slice A 1 c, .slice A' 1 c'], .int .i64 0]) ∧ Aside0 (At' (Kd.int .i64) w' A 1 c [7] ∧ At' k32 w' A' 1 c' [⟨10, 20, 0, ⟨0, 5⟩⟩]) ∧ Below w.heap.size w w' := by
  refine (read_any knownText w (.inl hT) (by decide)).mono ?_; rintro e w' ⟨hb, A, c, A', c', he, h0, h1⟩; rw [read_knownText] at he h0 h1; exact ⟨A, c, A', c', he, ⟨⟨(Kd.R_reads' h0).2.2, (Kd.R_reads' h0).2.1⟩, ⟨(Kd.R_reads' h1).2.2, (Kd.R_reads' h1).2.1⟩⟩, hb⟩
theorem same_any (A B : Option Addr) (c d n m : Nat) (xs ys : List Int) (w : World) (hA : At' (Kd.int .i64) w A n c xs) (hB : At' (Kd.int .i64) w B m d ys) (r : Bool) (h : quinariaref02_Same.f 1000 xs ys = some r) :
    Calls Tryz.prog 24 #[.slice A n c, .slice B m d] w fun e w' => e = .returned (.bool r) ∧ Below w.heap.size w w' := by
  obtain rfl := hA.c.1; obtain rfl := hB.c.1; exact (quinariaref02_Same.calls 1000 A c xs B d ys r w hA.c hA.le hB.c hB.le h).mono fun e w' ⟨he, hd⟩ => ⟨he, hd.below⟩
theorem sameSpans_any (B : Option Addr) (d : Nat) (w : World) (h : At' k30 (w.alloc (.cells #[.int .i64 38, .int .i64 44, .int .i64 59, .int .i64 64, .int .i64 59, .int .i64 64, .int .i64 28, .int .i64 34] 30)) B 4 d [⟨38, 44⟩, ⟨59, 64⟩, ⟨59, 64⟩, ⟨28, 34⟩]) :
    Calls Tryz.prog 52 #[.slice B 4 d, .slice (some ⟨w.heap.size, 0, none⟩) 4 4] (w.alloc (.cells #[.int .i64 38, .int .i64 44, .int .i64 59, .int .i64 64, .int .i64 59, .int .i64 64, .int .i64 28, .int .i64 34] 30)) fun e w' => e = .returned (.bool true) ∧ Below (w.alloc (.cells #[.int .i64 38, .int .i64 44, .int .i64 59, .int .i64 64, .int .i64 59, .int .i64 64, .int .i64 28, .int .i64 34] 30)).heap.size (w.alloc (.cells #[.int .i64 38, .int .i64 44, .int .i64 59, .int .i64 64, .int .i64 59, .int .i64 64, .int .i64 28, .int .i64 34] 30)) w' :=
  (quinariaref02_SameSpans.calls 1000 B d [⟨38, 44⟩, ⟨59, 64⟩, ⟨59, 64⟩, ⟨28, 34⟩] (some ⟨w.heap.size, 0, none⟩) 4 [⟨38, 44⟩, ⟨59, 64⟩, ⟨59, 64⟩, ⟨28, 34⟩] true _ h.c h.le (C_new k30 w _ (fun x => [.int .i64 x.f0, .int .i64 x.f1]) [⟨38, 44⟩, ⟨59, 64⟩, ⟨59, 64⟩, ⟨28, 34⟩] (fun _ => rfl) (fun w x => k30_mk w x) (by decide)) (Nat.le_refl _) (by kernel_rfl)).mono fun e w' ⟨he, hd⟩ => ⟨he, hd.below⟩
theorem sameLines_any (B B' : Option Addr) (d d' : Nat) (w : World) (h : At' (Kd.int .i64) w B 1 d [7]) (h' : At' k32 w B' 1 d' [⟨10, 20, 0, ⟨0, 5⟩⟩]) :
    Calls Tryz.prog 53 #[.agg #[.slice B 1 d, .slice B' 1 d'], .agg #[.slice (some ⟨w.heap.size, 0, none⟩) 1 1, .slice (some ⟨w.heap.size + 1, 0, none⟩) 1 1]] ((w.alloc (.cells #[.int .i64 7] 3)).alloc (.cells #[.int .i64 10, .int .i64 20, .int .i64 0, .int .i64 0, .int .i64 5] 32)) fun e w' => e = .returned (.bool true) ∧ Below w.heap.size w w' := by
  have hB : Below w.heap.size w ((w.alloc (.cells #[.int .i64 7] 3)).alloc (.cells #[.int .i64 10, .int .i64 20, .int .i64 0, .int .i64 0, .int .i64 5] 32)) := ((Below.refl _ _).alloc (Nat.le_refl _) _).alloc (by simp) _; have c1 : Kd.C (Kd.int .i64) ((w.alloc (.cells #[.int .i64 7] 3)).alloc (.cells #[.int .i64 10, .int .i64 20, .int .i64 0, .int .i64 0, .int .i64 5] 32)) (some ⟨w.heap.size, 0, none⟩) 1 [7] := Kd.C_alloc (C_ints w _ [7] (by decide)) _; have c2 := C_new k32 (w.alloc (.cells #[.int .i64 7] 3)) 32 (fun x => [.int .i64 x.f0, .int .i64 x.f1, .int .i64 x.f2, .int .i64 x.f3.f0, .int .i64 x.f3.f1]) [⟨10, 20, 0, ⟨0, 5⟩⟩] (fun _ => rfl) (fun w x => k32_mk w x) (by decide); rw [World.size_alloc] at c2; refine (quinariaref02_SameLines.calls 1000 B d [7] B' d' [⟨10, 20, 0, ⟨0, 5⟩⟩] (some ⟨w.heap.size, 0, none⟩) 1 [7] (some ⟨w.heap.size + 1, 0, none⟩) 1 [⟨10, 20, 0, ⟨0, 5⟩⟩] true _ (h.below hB).c h.le (h'.below hB).c h'.le c1 (Nat.le_refl _) c2 (Nat.le_refl _) (by kernel_rfl)).mono ?_; rintro e w' ⟨he, hd⟩; exact ⟨he, below_then hB hB.size hd⟩
set_option maxRecDepth 100000 in
set_option maxHeartbeats 4000000 in
theorem known_any (w0 : World) (hT : TabW w0) : Calls Tryz.prog 17 #[] w0 fun e w' => e = .returned (.bool true) ∧ Below w0.heap.size w0 w' := by
  have hu30 := Tryz.underlying30; have hu68 := Tryz.underlying68; have hu25 := Tryz.underlying25; have hu32 := Tryz.underlying32; have HT := Aside0.mk hT; clear hT
  go_enter Tryz.func17, Tryz.ntmps17
  go_upto_region 2 with (first | (go_at_call 44; refine (P_any _).mono ?_; rintro e wp ⟨A, c, A', c', rfl, HP, hbp⟩) | (go_at_call 18; refine (carries_P A A' c c' _ HP.out).mono ?_; rintro e wf ⟨rfl, hbf⟩))
  obtain ⟨w1, hw1⟩ : ∃ w1, wf.alloc (.cells #[.int .i64 5000, .int .i64 8960] 30) = w1 := ⟨_, rfl⟩; have X1 : Aside0 (w1.heap[wf.heap.size]? = some (.cells #[.int .i64 5000, .int .i64 8960] 30 (0, 0))) := ⟨by rw [← hw1]; exact blk_new _ _⟩; have HB1 : Aside0 (Below w0.heap.size w0 w1) := ⟨by rw [← hw1]; exact below_step (below_step hbp hbf) ((Below.refl _ _).alloc (Nat.le_refl _) _)⟩; (try rw [hw1]); generalize wf.heap.size = b1 at X1 ⊢; clear hw1; clear hbp hbf HP
  go_upto_region 3 with (first | (go_at_call 44; refine (P_any _).mono ?_; rintro e wp ⟨A, c, A', c', rfl, HP, hbp⟩) | (go_at_call 20; refine (line_P A A' c c' _ HP.out).mono ?_; rintro e wf ⟨rfl, hbf⟩))
  obtain ⟨w2, hw2⟩ : ∃ w2, wf.alloc (.cells #[.int .i64 4600, .int .i64 6000] 30) = w2 := ⟨_, rfl⟩; have X2 : Aside0 (w2.heap[wf.heap.size]? = some (.cells #[.int .i64 4600, .int .i64 6000] 30 (0, 0))) := ⟨by rw [← hw2]; exact blk_new _ _⟩; have HB2 : Aside0 (Below w1.heap.size w1 w2) := ⟨by rw [← hw2]; exact below_step (below_step hbp hbf) ((Below.refl _ _).alloc (Nat.le_refl _) _)⟩; (try rw [hw2]); generalize wf.heap.size = b2 at X2 ⊢; clear hw2; clear hbp hbf HP
  go_upto_region 4 with (first | (go_at_call 44; refine (P_any _).mono ?_; rintro e wp ⟨A, c, A', c', rfl, HP, hbp⟩) | (go_at_call 21; refine (narrowest_P A A' c c' _ HP.out).mono ?_; rintro e wf ⟨B3, d3, rfl, H3, hbf⟩))
  have HB3 : Aside0 (Below w2.heap.size w2 wf) := ⟨below_step hbp hbf⟩; obtain ⟨w3, hw3⟩ : ∃ w3, wf = w3 := ⟨_, rfl⟩; rw [hw3] at HB3 H3 ⊢; clear hw3; clear hbp hbf HP
  go_upto_region 5 with (first | (go_at_call 44; refine (P_any _).mono ?_; rintro e wp ⟨A, c, A', c', rfl, HP, hbp⟩) | (go_at_call 27; refine (latest_P A A' c c' _ HP.out).mono ?_; rintro e wf ⟨rfl, hbf⟩))
  have HB4 : Aside0 (Below w3.heap.size w3 wf) := ⟨below_step hbp hbf⟩; obtain ⟨w4, hw4⟩ : ∃ w4, wf = w4 := ⟨_, rfl⟩; rw [hw4] at HB4 ⊢; clear hw4; clear hbp hbf HP
  go_upto_region 6 with (first | (go_at_call 44; refine (P_any _).mono ?_; rintro e wp ⟨A, c, A', c', rfl, HP, hbp⟩) | (go_at_call 28; refine (widen_P A A' c c' _ HP.out).mono ?_; rintro e wf ⟨B5, d5, rfl, H5, hbf⟩))
  have HB5 : Aside0 (Below w4.heap.size w4 wf) := ⟨below_step hbp hbf⟩; obtain ⟨w5, hw5⟩ : ∃ w5, wf = w5 := ⟨_, rfl⟩; rw [hw5] at HB5 H5 ⊢; clear hw5; clear hbp hbf HP
  go_upto_region 7 with (first | (go_at_call 44; refine (P_any _).mono ?_; rintro e wp ⟨A, c, A', c', rfl, HP, hbp⟩) | (go_at_call 32; refine (plan_P A A' c c' _ HP.out).mono ?_; rintro e wf ⟨B6, d6, rfl, H6, hbf⟩))
  have HB6 : Aside0 (Below w5.heap.size w5 wf) := ⟨below_step hbp hbf⟩; obtain ⟨w6, hw6⟩ : ∃ w6, wf = w6 := ⟨_, rfl⟩; rw [hw6] at HB6 H6 ⊢; clear hw6; clear hbp hbf HP
  go_upto_region 8 with (first | (go_at_call 44; refine (P_any _).mono ?_; rintro e wp ⟨A, c, A', c', rfl, HP, hbp⟩) | (go_at_call 38; refine (lime_P A A' c c' _ HP.out).mono ?_; rintro e wf ⟨rfl, hbf⟩))
  obtain ⟨w7, hw7⟩ : ∃ w7, wf.alloc (.cells #[.int .i64 6, .int .i64 10] 30) = w7 := ⟨_, rfl⟩; have X7 : Aside0 (w7.heap[wf.heap.size]? = some (.cells #[.int .i64 6, .int .i64 10] 30 (0, 0))) := ⟨by rw [← hw7]; exact blk_new _ _⟩; have HB7 : Aside0 (Below w6.heap.size w6 w7) := ⟨by rw [← hw7]; exact below_step (below_step hbp hbf) ((Below.refl _ _).alloc (Nat.le_refl _) _)⟩; (try rw [hw7]); generalize wf.heap.size = b7 at X7 ⊢; clear hw7; clear hbp hbf HP
  go_upto_region 9 with (first | (go_at_call 46; refine (S_any _).mono ?_; rintro e wp ⟨A, c, A', c', rfl, HP, hbp⟩) | (go_at_call 45; refine (pressures_S A A' c c' _ HP.out).mono ?_; rintro e wf ⟨B8, d8, rfl, H8, hbf⟩))
  have HB8 : Aside0 (Below w7.heap.size w7 wf) := ⟨below_step hbp hbf⟩; obtain ⟨w8, hw8⟩ : ∃ w8, wf = w8 := ⟨_, rfl⟩; rw [hw8] at HB8 H8 ⊢; clear hw8; clear hbp hbf HP
  go_upto_region 10 with (first | (go_at_call 46; refine (S_any _).mono ?_; rintro e wp ⟨A, c, A', c', rfl, HP, hbp⟩) | (go_at_call 47; refine (flows_S A A' c c' _ HP.out).mono ?_; rintro e wf ⟨rfl, hbf⟩))
  have HB9 : Aside0 (Below w8.heap.size w8 wf) := ⟨below_step hbp hbf⟩; obtain ⟨w9, hw9⟩ : ∃ w9, wf = w9 := ⟨_, rfl⟩; rw [hw9] at HB9 ⊢; clear hw9; clear hbp hbf HP
  go_upto_region 11 with (first | (go_at_call 46; refine (S_any _).mono ?_; rintro e wp ⟨A, c, A', c', rfl, HP, hbp⟩) | (go_at_call 49; refine (C_any _).mono ?_; rintro e wc ⟨A2, c2, rfl, HC, hbc⟩) | (go_at_call 48; refine (bursts_S A A' c c' _ ⟨HP.out.1.below hbc, HP.out.2.below hbc⟩ A2 c2 HC.out).mono ?_; rintro e wf ⟨B10, d10, rfl, H10, hbf⟩))
  have HB10 : Aside0 (Below w9.heap.size w9 wf) := ⟨below_step hbp (below_step hbc hbf)⟩; obtain ⟨w10, hw10⟩ : ∃ w10, wf = w10 := ⟨_, rfl⟩; rw [hw10] at HB10 H10 ⊢; clear hw10; clear hbp hbf HP hbc HC
  go_upto_region 12 with (first | (go_at_call 46; refine (S_any _).mono ?_; rintro e wp ⟨A, c, A', c', rfl, HP, hbp⟩) | (go_at_call 49; refine (C_any _).mono ?_; rintro e wc ⟨A2, c2, rfl, HC, hbc⟩) | (go_at_call 50; refine (pipes_S A A' c c' _ ⟨HP.out.1.below hbc, HP.out.2.below hbc⟩ A2 c2 HC.out).mono ?_; rintro e wf ⟨B11, d11, rfl, H11, hbf⟩))
  have HB11 : Aside0 (Below w10.heap.size w10 wf) := ⟨below_step hbp (below_step hbc hbf)⟩; obtain ⟨w11, hw11⟩ : ∃ w11, wf = w11 := ⟨_, rfl⟩; rw [hw11] at HB11 H11 ⊢; clear hw11; clear hbp hbf HP hbc HC; have HT11 := Aside0.mk (HT.out.below (below_step HB1.out (below_step HB2.out (below_step HB3.out (below_step HB4.out (below_step HB5.out (below_step HB6.out (below_step HB7.out (below_step HB8.out (below_step HB9.out (below_step HB10.out (HB11.out))))))))))))
  go_upto_region 13 with (first | (go_at_call 51; refine (read_K _ HT11.out).mono ?_; rintro e wf ⟨B12, d12, B12', d12', rfl, H12, hbf⟩))
  obtain ⟨w12, hw12⟩ : ∃ w12, wf.alloc (.cells #[.slice B12 1 d12, .slice B12' 1 d12'] 25) = w12 := ⟨_, rfl⟩; have X12 : Aside0 (w12.heap[wf.heap.size]? = some (.cells #[.slice B12 1 d12, .slice B12' 1 d12'] 25 (0, 0))) := ⟨by rw [← hw12]; exact blk_new _ _⟩; have Y12 : Aside0 (At' (Kd.int .i64) w12 B12 1 d12 [7] ∧ At' k32 w12 B12' 1 d12' [⟨10, 20, 0, ⟨0, 5⟩⟩]) := ⟨by rw [← hw12]; exact ⟨H12.out.1.below ((Below.refl _ _).alloc (Nat.le_refl _) _), H12.out.2.below ((Below.refl _ _).alloc (Nat.le_refl _) _)⟩⟩; have HB12 : Aside0 (Below w11.heap.size w11 w12) := ⟨by rw [← hw12]; exact below_step hbf ((Below.refl _ _).alloc (Nat.le_refl _) _)⟩; (try rw [hw12]); generalize wf.heap.size = b12 at X12 ⊢; clear hw12 hbf H12 HT11 HT; have L11 := HB12.out; have L10 := below_step HB11.out L11; have L9 := below_step HB10.out L10; have L8 := below_step HB9.out L9; have L7 := below_step HB8.out L8; have L6 := below_step HB7.out L7; have L5 := below_step HB6.out L6; have L4 := below_step HB5.out L5; have L3 := below_step HB4.out L4; have L2 := below_step HB3.out L3; have L1 := below_step HB2.out L2; have L0 := below_step HB1.out L1; have Y3 := Aside0.mk (H3.out.below L3); have Y5 := Aside0.mk (H5.out.below L5); have Y6 := Aside0.mk (H6.out.below L6); have Y8 := Aside0.mk (H8.out.below L8); have Y10 := Aside0.mk (H10.out.below L10); have Y11 := Aside0.mk (H11.out.below L11); have Z1 := blk_below X1.out L1; have Z2 := blk_below X2.out L2; have Z7 := blk_below X7.out L7; have z10 := (blk_cell Z1 0).trans rfl; have z11 := (blk_cell Z1 1).trans rfl; have z20 := (blk_cell Z2 0).trans rfl; have z21 := (blk_cell Z2 1).trans rfl; have HL0 := Aside0.mk L0; have HZ7 := Aside0.mk Z7; clear L0 L1 L2 L3 L4 L5 L6 L7 L8 L9 L10 L11 Z1 Z2 Z7 H3 H5 H6 H8 H10 H11 HB1 HB2 HB3 HB4 HB5 HB6 HB7 HB8 HB9 HB10 HB11 HB12 X1 X2 X7
  go_wp2_with (first | (go_at_call 24; (with_reducible refine (same_any B3 (some ⟨w12.heap.size, 0, none⟩) d3 2 2 2 [1, 2] [1, 2] _ (Y3.out.below ((Below.refl _ _).alloc (Nat.le_refl _) _)) ⟨C_ints w12 _ [1, 2] (by decide), Nat.le_refl _⟩ true (by kernel_rfl)).mono ?_); rintro e w13 ⟨rfl, hb⟩; have HC13 : Aside0 (Below w12.heap.size w12 w13) := ⟨below_then ((Below.refl _ _).alloc (Nat.le_refl _) _) (by simp) hb⟩; clear hb) | (go_at_call 24; (with_reducible refine (same_any B5 (some ⟨w13.heap.size, 0, none⟩) d5 3 3 3 [22, 31, 10] [22, 31, 10] _ (Y5.out.below (below_step HC13.out ((Below.refl _ _).alloc (Nat.le_refl _) _))) ⟨C_ints w13 _ [22, 31, 10] (by decide), Nat.le_refl _⟩ true (by kernel_rfl)).mono ?_); rintro e w14 ⟨rfl, hb⟩; have HC14 : Aside0 (Below w12.heap.size w12 w14) := ⟨below_step HC13.out (below_then ((Below.refl _ _).alloc (Nat.le_refl _) _) (by simp) hb)⟩; clear hb) | (go_at_call 24; (with_reducible refine (same_any B6 (some ⟨w14.heap.size, 0, none⟩) d6 3 3 3 [8, 39, 9] [8, 39, 9] _ (Y6.out.below (below_step HC14.out ((Below.refl _ _).alloc (Nat.le_refl _) _))) ⟨C_ints w14 _ [8, 39, 9] (by decide), Nat.le_refl _⟩ true (by kernel_rfl)).mono ?_); rintro e w15 ⟨rfl, hb⟩; have HC15 : Aside0 (Below w12.heap.size w12 w15) := ⟨below_step HC14.out (below_then ((Below.refl _ _).alloc (Nat.le_refl _) _) (by simp) hb)⟩; clear hb; have hz7 := blk_below HZ7.out HC15.out; have z70 := (blk_cell hz7 0).trans rfl; have z71 := (blk_cell hz7 1).trans rfl; clear hz7) | (go_at_call 52; refine (sameSpans_any B8 d8 w15 (Y8.out.below (below_step HC15.out ((Below.refl _ _).alloc (Nat.le_refl _) _)))).mono ?_; rintro e w16 ⟨rfl, hb⟩; have HC16 : Aside0 (Below w12.heap.size w12 w16) := ⟨below_step HC15.out (below_then ((Below.refl _ _).alloc (Nat.le_refl _) _) (by simp) hb)⟩; clear hb) | (go_at_call 24; (with_reducible refine (same_any B10 (some ⟨w16.heap.size, 0, none⟩) d10 1 1 1 [0] [0] _ (Y10.out.below (below_step HC16.out ((Below.refl _ _).alloc (Nat.le_refl _) _))) ⟨C_ints w16 _ [0] (by decide), Nat.le_refl _⟩ true (by kernel_rfl)).mono ?_); rintro e w17 ⟨rfl, hb⟩; have HC17 : Aside0 (Below w12.heap.size w12 w17) := ⟨below_step HC16.out (below_then ((Below.refl _ _).alloc (Nat.le_refl _) _) (by simp) hb)⟩; clear hb) | (go_at_call 24; (with_reducible refine (same_any B11 (some ⟨w17.heap.size, 0, none⟩) d11 4 4 4 [1, 2, 2, 2] [1, 2, 2, 2] _ (Y11.out.below (below_step HC17.out ((Below.refl _ _).alloc (Nat.le_refl _) _))) ⟨C_ints w17 _ [1, 2, 2, 2] (by decide), Nat.le_refl _⟩ true (by kernel_rfl)).mono ?_); rintro e w18 ⟨rfl, hb⟩; have HC18 : Aside0 (Below w12.heap.size w12 w18) := ⟨below_step HC17.out (below_then ((Below.refl _ _).alloc (Nat.le_refl _) _) (by simp) hb)⟩; clear hb; have hx12 := blk_below X12.out HC18.out; have z120 := (blk_cell hx12 0).trans rfl; have z121 := (blk_cell hx12 1).trans rfl; clear hx12))
  refine (sameLines_any B12 B12' d12 d12' w18 (Y12.out.1.below HC18.out) (Y12.out.2.below HC18.out)).mono ?_; rintro e w19 ⟨rfl, hb⟩; go_wp2; go_ret; exact ⟨rfl, below_step HL0.out (below_step HC18.out hb)⟩
end Go.Proofs.YtdmdahafiiggiaaGreatDoor.K
end
section
namespace Go.Proofs.YtdmdahafiiggiaaGreatDoor.K
open Go.RowKit Go.Proofs.YtdmdahafiiggiaaGreatDoorW.PrintWords Go.Proofs.YtdmdahafiiggiaaGreatDoorW.PrintLast Go.Proofs.YtdmdahafiiggiaaGreatDoorW.PrintMore
attribute [local go_sem] max2_int min2_int max_two min_two max_three min_three max_four min_four
def quinariaref02_Age.f (a0 : Int) : Option (Bool) := (quinariaref02_in.f a0 0 200).bind fun t122 => (some t122)
set_option maxHeartbeats 8000000 in
set_option maxRecDepth 100000 in
theorem quinariaref02_Age.calls (a0 : Int) (r : Bool) (w : World) (h : quinariaref02_Age.f a0 = some r) :
  Calls Tryz.prog 16 #[.int .i64 a0] w fun e w' => e = .returned (.bool r) ∧ Drawn0 w w' := by
 have H : ((quinariaref02_in.f a0 0 200).bind fun t122 => (some t122)) = some r := h; clear h; replace H := Option.bind_eq_some_iff.mp H; obtain ⟨t122, A20, H⟩ := H; replace H : (some t122) = some r := H; have A2 := Aside0.mk A20; clear A20; obtain rfl := Option.some.inj H
 go_enter Tryz.func16, Tryz.ntmps16
 go_wp2_with (first | ((with_reducible refine gate_callee (f := 42) rfl ?_); refine goesL_ (some 4) rfl rfl Tryz.func42 (by kernel_rfl) rfl #[.int .i64 a0, .int .i64 0, .int .i64 200] rfl uM ?_; (with_reducible refine (quinariaref02_in.calls a0 0 200 t122 _ A2.out).mono ?_); rintro e w' ⟨rfl, ⟨nd, rfl⟩⟩; refine ⟨_, rfl, ?_⟩))
 go_ret; exact ⟨u0, by repeat (first | exact Drawn0.refl _ | apply Drawn0.step)⟩
end Go.Proofs.YtdmdahafiiggiaaGreatDoor.K
end
section
namespace Go.Proofs.YtdmdahafiiggiaaGreatDoor.K
open Go.RowKit Go.Proofs.YtdmdahafiiggiaaGreatDoorW.PrintWords Go.Proofs.YtdmdahafiiggiaaGreatDoorW.PrintLast Go.Proofs.YtdmdahafiiggiaaGreatDoorW.PrintMore
attribute [local go_sem] max2_int min2_int max_two min_two max_three min_three max_four min_four
def quinariaref02_Cups.f (l0_0 : List Int) (l0_1 : List (S32)) (a1 : Int) (a2 : Int) (a3 : Int) : Option (Int) := if 0 ≤ a1 then (if a1 < (l0_1.length : Int) then (if 0 ≤ ((rd_T32 l0_1 a1).f2) then (if ((rd_T32 l0_1 a1).f2) < (l0_0.length : Int) then (some (wrap64 ((wrap64 ((mx 0 (wrap64 (((rd_T32 l0_1 a1).f0) - (wrap64 (2 * (wrap64 (Int.tdiv (wrap64 (a3 * a2)) 100))))))) * (mx 0 (wrap64 (((rd_T32 l0_1 a1).f1) - (wrap64 (Int.tdiv (wrap64 (a3 * a2)) 100))))))) * (rd l0_0 ((rd_T32 l0_1 a1).f2))))) else (none)) else (none)) else (none)) else (none)
end Go.Proofs.YtdmdahafiiggiaaGreatDoor.K
end
section
namespace Go.Proofs.YtdmdahafiiggiaaGreatDoor.K
open Go.RowKit Go.Proofs.YtdmdahafiiggiaaGreatDoorW.PrintWords Go.Proofs.YtdmdahafiiggiaaGreatDoorW.PrintLast Go.Proofs.YtdmdahafiiggiaaGreatDoorW.PrintMore
structure LnAt (w : World) (A0 A1 : Option Addr) (c0 c1 : Nat) (sp : List Int) (st : List S32) : Prop where
  a : At' (Kd.int .i64) w A0 sp.length c0 sp
  b : At' k32 w A1 st.length c1 st
def shortB (sp : List Int) (st : List S32) : Bool := decide (sp.length ≤ 13) && decide (st.length ≤ 10)
theorem short_lens {sp : List Int} {st : List S32} (h : shortB sp st = true) : sp.length ≤ 13 ∧ st.length ≤ 10 := by simpa [shortB] using h
variable {A0 A1 : Option Addr} {c0 c1 : Nat} {sp : List Int} {st : List S32} {w : World}
theorem inR_f (x lo hi : Int) : quinariaref02_in.f x lo hi = some (inB x lo hi) := by
  unfold quinariaref02_in.f inB
  by_cases h : lo ≤ x
  · rw [if_pos h]; simp [h]
  · rw [if_neg h]; simp [h]
theorem stretchR_f (n : Nat) (hn : n ≤ 1000000) (s : S32) : quinariaref02_stretch.f s.f0 s.f1 s.f2 s.f3.f0 s.f3.f1 (n : Int) = some (stretchB n s) := by
  unfold quinariaref02_stretch.f quinariaref02_between.f stretchB; simp only [inR_f, Option.bind_some]; rw [IntWalk.wrap64_in _ (by omega)]
  cases h1 : inB s.f0 1 100 <;> cases h2 : inB s.f1 1 100 <;> cases h3 : inB s.f2 0 ((n : Int) - 1) <;> simp
  simp only [isSpanB, inB]
  by_cases e1 : 0 ≤ s.f3.f0 <;> by_cases e2 : s.f3.f0 ≤ 100 <;> by_cases e3 : 0 ≤ s.f3.f1 <;> by_cases e4 : s.f3.f1 ≤ 100 <;> by_cases e5 : s.f3.f0 ≤ s.f3.f1 <;> simp [e1, e2, e3, e4, e5] <;> omega
theorem all_drop {α : Type} (p : α → Bool) (d : α) (l : List α) (j : Nat) (hj : j < l.length) : (l.drop j).all p = (p (l.getD j d) && (l.drop (j + 1)).all p) := by
  rw [List.drop_eq_getElem_cons hj, List.all_cons]; simp [List.getD, List.getElem?_eq_getElem hj]
theorem right1_from (hs1 : sp.length ≤ 1000) (hs2 : st.length ≤ 1000) : ∀ (d j K : Nat), j + d = st.length → d < K → quinariaref02_Right.l1 K (j : Int) sp st = some ((st.drop j).all (stretchB sp.length) && (inB sp.length 1 10 && inB st.length 1 8))
  | 0, j, K + 1, hj, hK => by
    unfold quinariaref02_Right.l1; rw [if_neg (by omega), List.drop_eq_nil_of_le (by omega)]; simp only [inR_f, Option.bind_some, List.all_nil, Bool.true_and]
    cases inB (sp.length : Int) 1 10 <;> simp
  | d + 1, j, K + 1, hj, hK => by
    unfold quinariaref02_Right.l1; rw [if_pos (by omega), if_pos (by omega), stretchR_f _ (by omega), Option.bind_some, IntWalk.wrap64_in _ (by omega), all_drop _ z32 _ _ (by omega)]; have e : rd_T32 st (j : Int) = st.getD j z32 := by simp [rd_T32]
    rw [e]; have ih := right1_from hs1 hs2 d (j + 1) K (by omega) (by omega)
    cases h1 : stretchB sp.length (st.getD j z32) with
    | true => simpa using ih
    | false => simp
theorem right0_from (hs1 : sp.length ≤ 1000) (hs2 : st.length ≤ 1000) : ∀ (d j K : Nat), j + d = sp.length → d + st.length + 1 < K → quinariaref02_Right.l0 K (j : Int) sp st = some ((sp.drop j).all (fun x => inB x 1 1000) && (st.all (stretchB sp.length) && (inB sp.length 1 10 && inB st.length 1 8)))
  | 0, j, K + 1, hj, hK => by
    unfold quinariaref02_Right.l0; rw [if_neg (by omega), List.drop_eq_nil_of_le (by omega)]; have := right1_from hs1 hs2 st.length 0 K (by omega) (by omega)
    simpa using this
  | d + 1, j, K + 1, hj, hK => by
    unfold quinariaref02_Right.l0; rw [if_pos (by omega), if_pos (by omega), inR_f, Option.bind_some, IntWalk.wrap64_in _ (by omega), all_drop _ 0 _ _ (by omega)]; have e : rd sp (j : Int) = sp.getD j 0 := by simp [rd]
    rw [e]; have ih := right0_from hs1 hs2 d (j + 1) K (by omega) (by omega)
    cases h1 : inB (sp.getD j 0) 1 1000 with
    | true => simpa using ih
    | false => simp
theorem right_f (hs1 : sp.length ≤ 1000) (hs2 : st.length ≤ 1000) (K : Nat) (hK : sp.length + st.length + 1 < K) : quinariaref02_Right.f K sp st = some (isLineB sp st) := by
  unfold quinariaref02_Right.f; have := right0_from hs1 hs2 sp.length 0 K (by omega) hK; rw [show ((0 : Nat) : Int) = 0 from rfl] at this; rw [this]; unfold isLineB
  congr 1
  cases inB (sp.length : Int) 1 10 <;> cases inB (st.length : Int) 1 8 <;> cases st.all (stretchB sp.length) <;> simp
def numB (st : List S32) (n : Int) : Bool := inB n 0 ((st.length : Int) - 1)
def carriesF (sp : List Int) (st : List S32) (n age : Int) : Int × Int × Int := if isLineB sp st = true ∧ numB st n = true ∧ inB age 0 200 = true then (leastN sp st n age, mostN sp st n age, 0) else (0, 0, 2)
theorem inC_f (x lo hi : Int) : channel_in.f x lo hi = some (inB x lo hi) := by
  unfold channel_in.f inB
  by_cases h : lo ≤ x
  · rw [if_pos h]; simp [h]
  · rw [if_neg h]; simp [h]
theorem most_ok (h : isLineB sp st = true) {n : Int} (h0 : 0 ≤ n) (h1 : n < st.length) {age : Int} (a0 : 0 ≤ age) (a1 : age ≤ 200) :
    channel_aged_greatest.f (rd_T32 st n).f0 (rd_T32 st n).f1 (rd_T32 st n).f2 (rd_T32 st n).f3.f0 (rd_T32 st n).f3.f1 age (rd sp (rd_T32 st n).f2) = some (mostN sp st n age) := by
  have hs := line_at h h0 h1; unfold channel_aged_greatest.f; rw [cups_f _ _ _ _ _ _ _ _ (by have := hs.b0; omega) (by have := hs.b1; omega) (by have := hs.d0; omega) hs.d1 a0 a1 (by have := hs.s0; omega) hs.s1 hs.l0 (by have := hs.lh; have := hs.h1; omega)]
  rfl
theorem num_range {n : Int} (h : numB st n = true) : 0 ≤ n ∧ n < st.length := by simp [numB, inB] at h; omega
theorem age_range {n : Int} (h : inB n 0 200 = true) : 0 ≤ n ∧ n ≤ 200 := by simp [inB] at h; omega
theorem carries_f (hs1 : sp.length ≤ 9223372036854775807) (hs2 : st.length ≤ 9223372036854775807) (n age : Int) (K : Nat) (hK : 0 < K) : channel_Carries.f K sp st n age = some (carriesF sp st n age) := by
  unfold channel_Carries.f carriesF channel_isLine.f channel_isStretch.f channel_isAge.f; rw [if_pos ⟨hs1, hs2⟩]; obtain ⟨K, rfl⟩ : ∃ k, K = k + 1 := ⟨K - 1, by omega⟩; have hbad : channel_Carries.j0 (K + 1) n age true sp st = some (0, 0, 2) := by simp [channel_Carries.j0]
  simp only [Option.bind_some, inC_f]; rw [show wrap64 ((st.length : Int) - 1) = (st.length : Int) - 1 from IntWalk.wrap64_in _ (by omega)]
  cases h1 : isLineB sp st with
  | false => simp [hbad]
  | true =>
    cases h2 : inB n 0 ((st.length : Int) - 1) with
    | false => simp [numB, h2, hbad]
    | true =>
      cases h3 : inB age 0 200 with
      | false => simp [numB, h2, hbad]
      | true =>
        have hn := num_range (st := st) (n := n) h2; have ha := age_range h3; rw [if_pos rfl, if_pos rfl, if_pos ⟨rfl, h2, rfl⟩]
        have e : channel_Carries.j0 (K + 1) n age false sp st = some (leastN sp st n age, mostN sp st n age, 0) := by
          have e1 := least_ok h1 hn.1 hn.2 ha.1 ha.2; have e2 := most_ok h1 hn.1 hn.2 ha.1 ha.2; simp [channel_Carries.j0, aging_ok h1 hn.1 hn.2, channel_aged_span.f, e1, e2]
        simpa using e
end Go.Proofs.YtdmdahafiiggiaaGreatDoor.K
end
