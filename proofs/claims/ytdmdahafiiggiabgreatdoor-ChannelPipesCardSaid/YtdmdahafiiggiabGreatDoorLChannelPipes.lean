/- ChannelPipes: the walk of the law, and what it comes to. -/
import Derived.Test.YtdmdahafiiggiabGreatDoorF6
set_option linter.unusedVariables false
set_option linter.unusedSimpArgs false
section
namespace Go.Proofs.YtdmdahafiiggiabGreatDoor.K
open Go.RowKit Go.Proofs.YtdmdahafiiggiabGreatDoorW.PrintWords Go.Proofs.YtdmdahafiiggiabGreatDoorW.PrintLast Go.Proofs.YtdmdahafiiggiabGreatDoorW.PrintMore
attribute [local go_sem] max2_int min2_int max_two min_two max_three min_three max_four min_four
mutual
def quinariaref02_choices.l0 : Nat → Int → List (List Int) → List (List Int) → Int → Option ((List (List Int)))
 | 0, _, _, _, _ => none
 | k + 1, x1, x5, x6, x7 => if x7 < x1 then (quinariaref02_choices.l1 k x1 x5 x6 x7 0) else (some x6)
def quinariaref02_choices.l1 : Nat → Int → List (List Int) → List (List Int) → Int → Int → Option ((List (List Int)))
 | 0, _, _, _, _, _ => none
 | k + 1, x1, x5, x6, x7, x8 => if x8 < (x5.length : Int) then ((some (([x7] : List Int) : List Int)).bind fun y756 => (if 0 ≤ x8 then (if y756.length + (rd_L4 x5 x8).length < 17592186044416 then (if x6.length < 5864062014805 then (quinariaref02_choices.l1 k x1 x5 (x6 ++ [(y756 ++ (rd_L4 x5 x8))]) x7 (wrap64 (x8 + 1))) else (none)) else (none)) else (none))) else (quinariaref02_choices.l0 k x1 x5 x6 (wrap64 (x7 + 1)))
def quinariaref02_choices.f : Nat → Int → Int → Option ((List (List Int)))
 | 0, _, _ => none
 | k + 1, a0, a1 => if a0 = 0 then (some (([[]] : List (List Int)))) else ((quinariaref02_choices.f k (wrap64 (a0 - 1)) a1).bind fun t753 => (quinariaref02_choices.l0 k a1 t753 ([] : List (List Int)) 0))
end
set_option maxHeartbeats 8000000 in
set_option maxRecDepth 100000 in
theorem quinariaref02_choices.calls (k : Nat) : ∀ (a0 : Int) (a1 : Int) (r : List (List Int)) (w : World) (h : quinariaref02_choices.f k a0 a1 = some r),
  Calls Tryz.prog 67 #[.int .i64 a0, .int .i64 a1] w fun e w' => ∃ v0_ : Value, e = .returned (v0_) ∧ Kd.S (Kd.slice 3 (Kd.int .i64)) 25 w' w.heap.size (fun _ => True) v0_ r ∧ Below w.heap.size w w' := by
 induction k using Nat.strongRecOn with
 | _ k ih =>
 intro a0 a1 r w h
 cases k with
 | zero => exact absurd h (by simp [quinariaref02_choices.f])
 | succ k =>
 simp only [quinariaref02_choices.f] at h
 have HB := Aside0.mk (Below.refl w.heap.size w)
 have H : (if a0 = 0 then (some (([[]] : List (List Int)))) else ((quinariaref02_choices.f k (wrap64 (a0 - 1)) a1).bind fun t753 => (quinariaref02_choices.l0 k a1 t753 ([] : List (List Int)) 0))) = some r := h
 clear h
 by_cases c3 : a0 = 0
 ·rw [if_pos c3] at H
  have c3b0 : (a0 == 0) = true := beq_iff_eq.mpr c3
  have c3b1 : (a0 != 0) = false := bne_eq_false_iff_eq.mpr c3
  clear c3
  obtain ⟨y750, hy750⟩ : ∃ y_ : List (List Int), y_ = (([[]] : List (List Int))) := ⟨_, rfl⟩
  rw [← hy750] at H; (try replace H := (Option.bind_some _ _).symm.trans H)
  have Ny750 := Aside0.mk hy750
  clear hy750
  obtain rfl := Option.some.inj H
  go_enter Tryz.func67, Tryz.ntmps67
  go_wp2_with (first | ((with_reducible refine gate_dst (N := 11) rfl ?_); refine Kd.S_lit (Kd.slice 3 (Kd.int .i64)) _ 25 ?hg (N := 11) ?hd (xs := ([[]] : List (List Int))) (inner := [.slice none 0 0]) (ok := fun _ => True) (okp := fun _ => True) ?hr ?hp (fun _ hk => hk) trivial (Below.refl _ _) (Nat.le_refl _) (by simp) ?_; (case hd => rfl); (case hg => rfl); (case hr => first | (go_simp; done) | (go_simp; rfl)); (case hp => exact (Reps.one (show Kd.M (Kd.slice 3 (Kd.int .i64)) _ _ _ [] [.slice none 0 0] from ⟨_, rfl, Kd.R_nil _ _ _ _ _⟩) (Reps.none _ _))); intro v751 w4 ho5 hb hg_ hnew_; clear hg_ hnew_; (first | rw [← Ny750.out] at ho5 | (simp only [Int.reduceToNat] at ho5; rw [← Ny750.out] at ho5)); have HO752 := Aside0.mk (Kd.S_lower ho5 (below_size uB)); replace HB := Aside0.mk (below_step uB hb); clear hb ho5))
  go_ret
  exact ⟨_, uE, by (with_reducible repeat (first | apply Kd.S_alloc | apply Kd.S_drewN | apply Kd.S_drew)); exact HO752.out, uB⟩
 ·rw [if_neg c3] at H
  have c3b0 : (a0 == 0) = false := beq_eq_false_iff_ne.mpr c3
  have c3b1 : (a0 != 0) = true := bne_iff_ne.mpr c3
  replace H := Option.bind_eq_some_iff.mp H
  obtain ⟨t753, A60, H⟩ := H
  replace H : (quinariaref02_choices.l0 k a1 t753 ([] : List (List Int)) 0) = some r := H
  have A6 := Aside0.mk A60
  clear A60
  have H' := Aside0.mk H
  clear H
  go_enter Tryz.func67, Tryz.ntmps67
  go_wp2_with (first | ((with_reducible refine gate_callee (f := 67) rfl ?_); refine goesL_ (some 15) rfl rfl Tryz.func67 (by kernel_rfl) rfl #[.int .i64 (wrap64 (a0 - 1)), .int .i64 a1] rfl uM ?_; (with_reducible refine (ih k (by omega) (wrap64 (a0 - 1)) a1 t753 _ A6.out).mono ?_); rintro e w7 ⟨v754, rfl, ho0, hb⟩; refine ⟨_, rfl, ?_⟩; have HO755 := Aside0.mk (Kd.S_lower ho0 (below_size uB)); replace HB := Aside0.mk (below_step uB hb); (try clear hb); (try clear hb2); (try clear hk); (try clear hi); (try clear ho0)))
  go_loopg [6, 7] k (fun kq v6 v7 w' => ∃ (x6_1 : List (List Int)) (x7_1 : Int), v7 = .int .i64 x7_1 ∧ Aside0 (quinariaref02_choices.l0 kq a1 t753 x6_1 x7_1 = some r) ∧ Aside0 (kq ≤ k) ∧ Aside0 (Kd.S (Kd.slice 3 (Kd.int .i64)) 25 w' w.heap.size (fun k_ => some k_ ≠ (v6 : Value).ownBlock) v754 t753) ∧ Aside0 (Kd.S (Kd.slice 3 (Kd.int .i64)) 25 w' w.heap.size (fun k_ => some k_ ≠ (v754 : Value).ownBlock) v6 x6_1) ∧ Aside0 (Below w.heap.size w w'))
  case atStart => exact ⟨(([] : List (List Int))), (0), u0, H', ⟨Nat.le_refl _⟩, ⟨by (with_reducible repeat (first | apply Kd.S_alloc | apply Kd.S_drewN | apply Kd.S_drew)); exact Kd.S_mono HO755.out (fun _ hk => (by simp [Value.ownBlock]))⟩, ⟨by first | exact Kd.S_nil _ _ _ _ _ | exact Kd.N_nil _ _ _ _ _ | exact Kd.V_nil _ _ _ _ _ | exact Kd.Q_nil _ _ _ _ _ | exact Kd.R_nil _ _ _ _ _⟩, ⟨uB⟩⟩
  case round =>
   clear H'
   try clear p2; try clear c3; try clear c3b0; try clear c3b1; try clear c6; try clear p6
   obtain ⟨x6_1, x7_1, rfl, HA, HK1, HO_5, HO_6, HB⟩ := hrel
   cases gk with
   | zero => exact absurd HA.out (by simp [quinariaref02_choices.l0])
   | succ k1 =>
    have H := HA.out
    clear HA
    simp only [quinariaref02_choices.l0] at H
    by_cases c8 : x7_1 < a1
    ·rw [if_pos c8] at H
     replace c8 := decide_eq_true c8
     have H' := Aside0.mk H
     clear H
     go_wp2
     go_loopg [6, 8] k1 (fun kq v6 v8 w' => ∃ (x6_2 : List (List Int)) (x8_2 : Int), v8 = .int .i64 x8_2 ∧ Aside0 (quinariaref02_choices.l1 kq a1 t753 x6_2 x7_1 x8_2 = some r) ∧ Aside0 (kq ≤ k1) ∧ Aside0 (Kd.S (Kd.slice 3 (Kd.int .i64)) 25 w' w.heap.size (fun k_ => some k_ ≠ (v6 : Value).ownBlock) v754 t753) ∧ Aside0 (Kd.S (Kd.slice 3 (Kd.int .i64)) 25 w' w.heap.size (fun k_ => some k_ ≠ (v754 : Value).ownBlock) v6 x6_2) ∧ Aside0 (Below w.heap.size w w'))
     case atStart => exact ⟨(x6_1), (0), u0, H', ⟨Nat.le_refl _⟩, ⟨by (with_reducible repeat (first | apply Kd.S_alloc | apply Kd.S_drewN | apply Kd.S_drew)); exact HO_5.out⟩, ⟨by (with_reducible repeat (first | apply Kd.S_alloc | apply Kd.S_drewN | apply Kd.S_drew)); exact HO_6.out⟩, ⟨uB⟩⟩
     case round =>
      clear H'
      try clear p2; try clear c3; try clear c3b0; try clear c3b1; try clear c6; try clear p6; try clear c8; try clear c8b0; try clear p2; try clear p6
      obtain ⟨x6_2, x8_2, rfl, HA, HK2, HO_5, HO_6, HB⟩ := hrel
      cases gk with
      | zero => exact absurd HA.out (by simp [quinariaref02_choices.l1])
      | succ k2 =>
       have H := HA.out
       clear HA
       simp only [quinariaref02_choices.l1] at H
       by_cases c9 : x8_2 < (t753.length : Int)
       ·rw [if_pos c9] at H
        replace c9 := decide_eq_true c9
        obtain ⟨y756, hy756⟩ : ∃ y_ : List Int, y_ = (([x7_1] : List Int)) := ⟨_, rfl⟩
        rw [← hy756] at H; (try replace H := (Option.bind_some _ _).symm.trans H)
        have Ny756 := Aside0.mk hy756
        clear hy756
        obtain ⟨c10, H⟩ := ifs H
        replace c10 := decide_eq_true c10
        obtain ⟨c11, H⟩ := ifs H
        have LMc11 := Aside0.mk c11
        clear c11
        obtain ⟨y760, hy760⟩ : ∃ y_ : List Int, y_ = (y756 ++ (rd_L4 t753 x8_2)) := ⟨_, rfl⟩
        rw [← hy760] at H; (try replace H := (Option.bind_some _ _).symm.trans H)
        have Ny760 := Aside0.mk hy760
        clear hy760
        obtain ⟨c12, H⟩ := ifs H
        have LMc12 := Aside0.mk c12
        clear c12
        obtain ⟨y763, hy763⟩ : ∃ y_ : List (List Int), y_ = (x6_2 ++ [y760]) := ⟨_, rfl⟩
        rw [← hy763] at H; (try replace H := (Option.bind_some _ _).symm.trans H)
        have Ny763 := Aside0.mk hy763
        clear hy763
        have H' := Aside0.mk H
        clear H
        obtain ⟨Ao13, co13, eo13⟩ := Kd.S_slice HO_5.out
        subst eo13
        go_wp2_with (first | ((with_reducible refine gate_dst (N := 29) rfl ?_); refine Kd.R_lit (Kd.int .i64) _ 3 ?hg (N := 29) ?hd (xs := ([x7_1] : List Int)) (inner := [.int .i64 x7_1]) (ok := fun _ => True) (okp := fun _ => True) ?hr ?hp (fun _ hk => hk) trivial (Below.refl _ _) (Nat.le_refl _) (by simp) ?_; (case hd => rfl); (case hg => rfl); (case hr => first | (go_simp; done) | (go_simp; rfl)); (case hp => exact (Reps.one (show Kd.M (Kd.int .i64) _ _ _ x7_1 [.int .i64 x7_1] from rfl) (Reps.none _ _))); intro v757 w14 ho15 hb hg_ hnew_; clear hg_ hnew_; (first | rw [← Ny756.out] at ho15 | (simp only [Int.reduceToNat] at ho15; rw [← Ny756.out] at ho15)); replace HO_5 := Aside0.mk (Kd.S_elder' (by (with_reducible repeat (first | apply Kd.S_alloc | apply Kd.S_drewN | apply Kd.S_drew)); exact HO_5.out) (Kd.R_base ho15) hb); replace HO_6 := Aside0.mk (Kd.S_elder' (by (with_reducible repeat (first | apply Kd.S_alloc | apply Kd.S_drewN | apply Kd.S_drew)); exact HO_6.out) (Kd.R_base ho15) hb); have HO758 := Aside0.mk (Kd.R_lower ho15 (below_size uB)); replace HB := Aside0.mk (below_step uB hb); clear hb ho15; have p759 : 0 ≤ (x8_2 : Int) := of_decide_eq_true (by first | (with_reducible assumption) | assumption); have q759 : x8_2 < (t753.length : Int) := of_decide_eq_true (by first | (with_reducible assumption) | assumption); obtain ⟨ad759, A759_0, c759_0, e759, hx759_0, hl759_0, hi759_0⟩ := at_L4 (Kd.S_reads' HO_5.out).2.2 x8_2 p759 q759; cases e759; obtain ⟨ce759, hce759, hMe759, hcc759⟩ := Kd.S_get HO_5.out [] x8_2 p759 (by first | exact q759 | exact of_decide_eq_true (by first | (with_reducible assumption) | assumption) | (have e_ := (Kd.S_reads' HO_5.out).1; omega)); obtain ⟨ve759_0, rfl, ge759_0⟩ := hMe759; have hv759_0 := hcc759 0 _ rfl; rw [Nat.add_zero, show ((Kd.slice 3 (Kd.int .i64))).sz = 1 from rfl, Nat.mul_one] at hv759_0; replace hv759_0 := Option.some.inj (hv759_0.symm.trans hx759_0); rw [hv759_0] at ge759_0; have HL759_0 := Aside0.mk (show Kd.R (Kd.int .i64) 3 _ _ _ _ (rd_L4 t753 x8_2) from ge759_0); clear hv759_0 ge759_0; clear hcc759 hce759; have HR759_0 := Aside0.mk hi759_0; have HC759_0 := Aside0.mk hl759_0; clear hi759_0 hl759_0; replace p759 := eq_true p759; replace q759 := eq_true q759) | ((with_reducible refine gate_builtin (b := .append) (xs := #[.tmp 29, .tmp 33]) rfl ?_); at_builtin; refine Kd.R_append_rows (Kd.int .i64) (w0 := w) w.heap.size rfl (.tmp 29) (.tmp 33) 25 3 (.int .i64 0) 8 rfl Tryz.underlying25 info3 rfl (by decide) (by omega) v757 y756 (rd_L4 t753 x8_2) _ _ _ (fun _ => True) (fun _ => False) rfl rfl ?aO ?aR (fun _ _ h => h) (fun _ h => h.elim) ?aF ?aB ?aS ?aL ?_; (case aR => repeat (first | exact (by repeat (first | (with_reducible exact HR759_0.out) | (with_reducible refine Kd.C_alloc ?_ _) | (with_reducible refine Kd.C_drewN ?_ _) | (with_reducible refine Kd.C_drew ?_) | exact HR759_0.out)) | (with_reducible refine Kd.C_alloc ?_ _) | (with_reducible refine Kd.C_drewN ?_ _) | (with_reducible refine Kd.C_drew ?_))); (case aB => exact uB); (case aF => exact (fun _ _ => trivial)); (case aO => exact (uR HO758.out)); (case aS => exact (below_size uB)); (case aL => have := LMc11.out; omega); intro v761 w16 ho hb hg hat; rw [← Ny760.out] at ho; replace HO_5 := Aside0.mk (Kd.S_after (ok := (fun k_ => some k_ ≠ (u6 : Value).ownBlock)) (by (with_reducible repeat (first | apply Kd.S_alloc | apply Kd.S_drewN | apply Kd.S_drew)); exact HO_5.out) hg hat); replace HO_6 := Aside0.mk (Kd.S_after (ok := (fun k_ => some k_ ≠ (.slice (some ad759) t753.length co13 : Value).ownBlock)) (by (with_reducible repeat (first | apply Kd.S_alloc | apply Kd.S_drewN | apply Kd.S_drew)); exact HO_6.out) hg hat); replace HL759_0 := Aside0.mk (Kd.R_after (ok := (fun k_ => some k_ ≠ (.slice (some ad759) t753.length co13 : Value).ownBlock ∧ some k_ ≠ (u6 : Value).ownBlock)) (by refine uR ?_; exact Kd.R_mono HL759_0.out (fun _ hk => ⟨⟨hk.2, hk.1.1⟩, hk.1.2⟩)) hg hat); have HO762 := Aside0.mk (ho); replace HB := Aside0.mk (hb); clear HO758; clear ho hb hg hat; obtain ⟨Ao18, co18, eo18⟩ := Kd.R_slice HO762.out; subst eo18) | ((with_reducible refine gate_builtin (b := .append) (xs := #[.tmp 27, .tmp 35]) rfl ?_); at_builtin; refine Kd.S_append (Kd.slice 3 (Kd.int .i64)) (w0 := w) w.heap.size rfl (.tmp 27) (.tmp 35) 104 25 (.slice none 0 0) 24 rfl Tryz.underlying104 info25 rfl (by decide) (by omega) u6 x6_2 y760 [.slice Ao18 y760.length co18] (fun k_ => some k_ ≠ (.slice (some ad759) t753.length co13 : Value).ownBlock) (fun k_ => some k_ = (.slice Ao18 y760.length co18 : Value).ownBlock) rfl rfl ?aP (fun k_ hk_ => ((Kd.R_mono (ok' := fun k_ => ((fun k_ => some k_ ≠ (.slice (some ad759) t753.length co13 : Value).ownBlock)) k_ ∧ some k_ ≠ (u6 : Value).ownBlock) (Kd.R_apart' (Kd.R_apart' (HO762.out) (Kd.S_typed HO_5.out) (by decide)) (Kd.S_typed HO_6.out) (by decide)) (fun k_ hk => ⟨hk.1.2, hk.2⟩))).1 k_ hk_.symm) ?aF ?aO ?aB ?aS ?aL ?_; (case aP => exact Kd.M_row (Kd.R_mono (Kd.R_tight rfl (Kd.R_mono (ok' := fun k_ => ((fun k_ => some k_ ≠ (.slice (some ad759) t753.length co13 : Value).ownBlock)) k_ ∧ some k_ ≠ (u6 : Value).ownBlock) (Kd.R_apart' (Kd.R_apart' (HO762.out) (Kd.S_typed HO_5.out) (by decide)) (Kd.S_typed HO_6.out) (by decide)) (fun k_ hk => ⟨hk.1.2, hk.2⟩))) (fun _ h_ => h_))); (case aB => exact uB); (case aF => exact (fun k_ hk => Kd.fresh' (Kd.S_lt (by (with_reducible repeat (first | apply Kd.S_alloc | apply Kd.S_drewN | apply Kd.S_drew)); exact HO_5.out)) k_ hk)); (case aO => exact (by (with_reducible repeat (first | apply Kd.S_alloc | apply Kd.S_drewN | apply Kd.S_drew)); exact Kd.S_mono HO_6.out (fun k_ hk => ⟨hk.1, fun e_ => hk.2 e_⟩))); (case aS => exact (below_size uB)); (case aL => have := LMc12.out; omega); intro v764 w17 ho hb hg hat; rw [← Ny763.out] at ho; replace HO_5 := Aside0.mk (Kd.S_after (ok := (fun k_ => some k_ ≠ (.slice Ao18 y760.length co18 : Value).ownBlock)) (by (with_reducible repeat (first | apply Kd.S_alloc | apply Kd.S_drewN | apply Kd.S_drew)); exact Kd.S_mono HO_5.out (fun _ hk => ⟨hk.2, hk.1⟩)) hg hat); replace HL759_0 := Aside0.mk (Kd.R_after (ok := (fun k_ => some k_ ≠ (.slice (some ad759) t753.length co13 : Value).ownBlock ∧ some k_ ≠ (.slice Ao18 y760.length co18 : Value).ownBlock)) (by refine uR ?_; exact Kd.R_mono HL759_0.out (fun _ hk => ⟨⟨hk.1.1, hk.2⟩, hk.1.2⟩)) hg hat); have HO765 := Aside0.mk (ho); replace HB := Aside0.mk (hb); clear HO_6 HO762; clear ho hb hg hat))
        go_roundg k2
        case measure => have := HK1.out; have := HK2.out; omega
        case rel => exact ⟨(y763), (wrap64 (x8_2 + 1)), u0, H', ⟨by have := HK1.out; have := HK2.out; omega⟩, ⟨by (with_reducible repeat (first | apply Kd.S_alloc | apply Kd.S_drewN | apply Kd.S_drew)); exact Kd.S_mono HO_5.out (fun _ hk => hk.2)⟩, ⟨by (with_reducible repeat (first | apply Kd.S_alloc | apply Kd.S_drewN | apply Kd.S_drew)); exact HO765.out⟩, ⟨uB⟩⟩
       ·rw [if_neg c9] at H
        replace c9 := decide_eq_false c9
        have H' := Aside0.mk H
        clear H
        obtain ⟨Ao19, co19, eo19⟩ := Kd.S_slice HO_5.out
        subst eo19
        go_wp2
        go_roundg k2
        case measure => have := HK1.out; have := HK2.out; omega
        case rel => exact ⟨(x6_2), (wrap64 (x7_1 + 1)), u0, H', ⟨by have := HK1.out; have := HK2.out; omega⟩, ⟨by (with_reducible repeat (first | apply Kd.S_alloc | apply Kd.S_drewN | apply Kd.S_drew)); exact HO_5.out⟩, ⟨by (with_reducible repeat (first | apply Kd.S_alloc | apply Kd.S_drewN | apply Kd.S_drew)); exact HO_6.out⟩, ⟨uB⟩⟩
    ·rw [if_neg c8] at H
     replace c8 := decide_eq_false c8
     obtain rfl := Option.some.inj H
     go_wp2
     go_ret
     exact ⟨_, uE, by (with_reducible repeat (first | apply Kd.S_alloc | apply Kd.S_drewN | apply Kd.S_drew)); exact Kd.S_mono HO_6.out (fun _ hk => trivial), uB⟩
end Go.Proofs.YtdmdahafiiggiabGreatDoor.K
end
section
namespace Go.Proofs.YtdmdahafiiggiabGreatDoor.K
open Go.RowKit Go.Proofs.YtdmdahafiiggiabGreatDoorW.PrintWords Go.Proofs.YtdmdahafiiggiabGreatDoorW.PrintLast Go.Proofs.YtdmdahafiiggiabGreatDoorW.PrintMore
attribute [local go_sem] max2_int min2_int max_two min_two max_three min_three max_four min_four
def quinariaref02_Pipes.l0 : Nat → List (S53) → List (List Int) → Int → Int → Int → Int → List (S23) → List Int → Option (List Int × Bool)
 | 0, _, _, _, _, _, _, _, _ => none
 | k + 1, x1, x6, x7, x8, x767000, x767001, x767002, x767003 => if x8 < (x6.length : Int) then (if 0 ≤ x8 then ((quinariaref02_Suffices.f k x767000 x767001 x767002 x767003 x1 (rd_L4 x6 x8)).bind fun t772 => (if t772 = true then (if x7 < 0 then (quinariaref02_Pipes.l0 k x1 x6 x8 (wrap64 (x8 + 1)) x767000 x767001 x767002 x767003) else ((quinariaref02_Price.f k x767000 x767001 x767002 x767003 x1 (rd_L4 x6 x8)).bind fun t774 => (if 0 ≤ x7 then (if x7 < (x6.length : Int) then ((quinariaref02_Price.f k x767000 x767001 x767002 x767003 x1 (rd_L4 x6 x7)).bind fun t776 => (if t774 < t776 then (quinariaref02_Pipes.l0 k x1 x6 x8 (wrap64 (x8 + 1)) x767000 x767001 x767002 x767003) else (quinariaref02_Pipes.l0 k x1 x6 x7 (wrap64 (x8 + 1)) x767000 x767001 x767002 x767003))) else (none)) else (none)))) else (quinariaref02_Pipes.l0 k x1 x6 x7 (wrap64 (x8 + 1)) x767000 x767001 x767002 x767003))) else (none)) else (if x7 < 0 then (some (([] : List Int), false)) else (if 0 ≤ x7 then (if x7 < (x6.length : Int) then (some (rd_L4 x6 x7, true)) else (none)) else (none)))
def quinariaref02_Pipes.f (k : Nat) (a0_0 : Int) (a0_1 : Int) (l0_2 : List (S23)) (l0_3 : List Int) (l1 : List (S53)) : Option (List Int × Bool) := (quinariaref02_choices.f k (l0_3.length : Int) (l1.length : Int)).bind fun t767 => (quinariaref02_Pipes.l0 k l1 t767 (-1) 0 a0_0 a0_1 l0_2 l0_3)
def quinariaref02_Pipes.T6 : Bool × List (List Nat × List Nat) := (true, [([], []), ([], []), ([], []), ([], []), ([2, 3], [2, 3]), ([4], [4]), ([0, 1, 5], [0, 1, 5]), ([6, 6], [6]), ([7], [7]), ([8, 7], [7, 8]), ([9, 7, 7], [7, 9]), ([10], [10]), ([10], [10]), ([10], [10]), ([10], [10]), ([13, 14, 10], [10, 13, 14]), ([15, 10], [10, 15]), ([11, 12, 16, 10, 10], [10, 11, 12, 16]), ([10], [10]), ([10], [10]), ([10], [10]), ([10], [10]), ([20, 21, 10], [10, 20, 21]), ([22, 10], [10, 22]), ([18, 19, 23, 17, 10], [10, 18, 19, 23]), ([17, 24, 10], [10, 17, 24]), ([10, 25, 7], [7, 10, 25]), ([7, 26], [7, 26])])
def quinariaref02_Pipes.B6 : List Nat := [0, 0, 0, 0, 12, 28, 63, 127, 255, 511, 1023, 2047, 2047, 2047, 2047, 26623, 59391, 131071, 2047, 2047, 2047, 2047, 3147775, 7342079, 16777215, 33554431, 67108863, 134217727]
theorem quinariaref02_Pipes.tab6 : rtab .any (opsOf Tryz.f29 6) = quinariaref02_Pipes.T6 := by kernel_rfl
theorem quinariaref02_Pipes.bits6 : waitsOk quinariaref02_Pipes.T6.2 quinariaref02_Pipes.B6 = true := by kernel_rfl
set_option maxHeartbeats 8000000 in
set_option maxRecDepth 100000 in
theorem quinariaref02_Pipes.calls (k : Nat) (a0_0 : Int) (a0_1 : Int) (A0_2 : Option Addr) (c0_2 : Nat) (l0_2 : List (S23)) (A0_3 : Option Addr) (c0_3 : Nat) (l0_3 : List Int) (A1 : Option Addr) (c1 : Nat) (l1 : List (S53)) (r1 : List Int) (r2 : Bool) (w : World) (hr0_2 : Kd.C k23 w A0_2 l0_2.length l0_2) (hc0_2 : l0_2.length ≤ c0_2) (hr0_3 : Kd.C (Kd.int .i64) w A0_3 l0_3.length l0_3) (hc0_3 : l0_3.length ≤ c0_3) (hr1 : Kd.C k53 w A1 l1.length l1) (hc1 : l1.length ≤ c1) (h : quinariaref02_Pipes.f k a0_0 a0_1 l0_2 l0_3 l1 = some (r1, r2)) :
  Calls Tryz.prog 29 #[.agg #[.int .i64 a0_0, .int .i64 a0_1, .slice A0_2 l0_2.length c0_2, .slice A0_3 l0_3.length c0_3], .slice A1 l1.length c1] w fun e w' => ∃ v0_ : Value, e = .returned (.tuple #[v0_, .bool r2]) ∧ Kd.R (Kd.int .i64) 3 w' w.heap.size (fun _ => True) v0_ r1 ∧ Below w.heap.size w w' := by
 have hu27 := Tryz.underlying27
 have HR0_2 := Aside0.mk hr0_2
 have HC0_2 := Aside0.mk hc0_2
 clear hr0_2 hc0_2
 have HR0_3 := Aside0.mk hr0_3
 have HC0_3 := Aside0.mk hc0_3
 clear hr0_3 hc0_3
 have HR1 := Aside0.mk hr1
 have HC1 := Aside0.mk hc1
 clear hr1 hc1
 have HB := Aside0.mk (Below.refl w.heap.size w)
 have H : ((quinariaref02_choices.f k (l0_3.length : Int) (l1.length : Int)).bind fun t767 => (quinariaref02_Pipes.l0 k l1 t767 (-1) 0 a0_0 a0_1 l0_2 l0_3)) = some (r1, r2) := h
 clear h
 replace H := Option.bind_eq_some_iff.mp H
 obtain ⟨t767, A30, H⟩ := H
 replace H : (quinariaref02_Pipes.l0 k l1 t767 (-1) 0 a0_0 a0_1 l0_2 l0_3) = some (r1, r2) := H
 have A3 := Aside0.mk A30
 clear A30
 have H' := Aside0.mk H
 clear H
 go_enter Tryz.func29, Tryz.ntmps29
 go_wp2_with (first | ((with_reducible refine gate_dst (N := 2) rfl ?_); refine bxe 2 #[.int .i64 a0_0, .int .i64 a0_1, .slice A0_2 l0_2.length c0_2, .slice A0_3 l0_3.length c0_3] 27 ?_; intro gb766 hg w4 hbox hb; have n0_ := Aside0.mk (below_step uB hb); have n1_ := Aside0.mk (hbox); have n2_ := gw hg; have n3_ := gw hg; clear HB; have HB := n0_; have BK766 := n1_; have GW766 := n2_; have GE766 := n3_; clear n0_ n1_ n2_ n3_; clear hb hbox hg; obtain ⟨hcz5_0, hcz5_1, hcz5_2, hcz5_3⟩ := cz4 BK766.out; obtain ⟨hfz5_0, hfz5_1, hfz5_2, hfz5_3⟩ := fz4 BK766.out) | ((with_reducible refine gate_callee (f := 67) rfl ?_); refine goesL_ (some 14) rfl rfl Tryz.func67 (by kernel_rfl) rfl #[.int .i64 (l0_3.length : Int), .int .i64 (l1.length : Int)] rfl uM ?_; (with_reducible refine (quinariaref02_choices.calls k (l0_3.length : Int) (l1.length : Int) t767 _ A3.out).mono ?_); rintro e w6 ⟨v768, rfl, ho0, hb⟩; refine ⟨_, rfl, ?_⟩; have HO769 := Aside0.mk (Kd.S_lower ho0 (below_size uB)); replace BK766 := Aside0.mk (blk_below (uK BK766.out) hb); replace HB := Aside0.mk (below_step uB hb); (try clear hb); (try clear hb2); (try clear hk); (try clear hi); (try clear ho0)))
 go_loopg [7, 8] k (fun kq v7 v8 w' => ∃ (x7_1 : Int) (x8_1 : Int), v7 = .int .i64 x7_1 ∧ v8 = .int .i64 x8_1 ∧ Aside0 (quinariaref02_Pipes.l0 kq l1 t767 x7_1 x8_1 a0_0 a0_1 l0_2 l0_3 = some (r1, r2)) ∧ Aside0 (kq ≤ k) ∧ Aside0 (Kd.S (Kd.slice 3 (Kd.int .i64)) 25 w' w.heap.size (fun _ => True) v768 t767) ∧ Aside0 (w'.heap[gb766]? = some (.cells #[.int .i64 a0_0, .int .i64 a0_1, (.slice A0_2 l0_2.length c0_2), (.slice A0_3 l0_3.length c0_3)] 27 (0, 0))) ∧ Aside0 (Below w.heap.size w w'))
 case atStart => exact ⟨((-1)), (0), u0, u0, H', ⟨Nat.le_refl _⟩, ⟨by (with_reducible repeat (first | apply Kd.S_alloc | apply Kd.S_drewN | apply Kd.S_drew)); exact HO769.out⟩, ⟨uK BK766.out⟩, ⟨uB⟩⟩
 case round =>
  clear H'
  try clear c1; try clear c2; try clear p2; try clear c6; try clear hcz5_0; try clear hcz5_1; try clear hcz5_2; try clear hcz5_3; try clear hfz5_0; try clear hfz5_1; try clear hfz5_2; try clear hfz5_3
  obtain ⟨x7_1, x8_1, rfl, rfl, HA, HK1, HO_6, BK766, HB⟩ := hrel
  cases gk with
  | zero => exact absurd HA.out (by simp [quinariaref02_Pipes.l0])
  | succ k1 =>
   have H := HA.out
   clear HA
   simp only [quinariaref02_Pipes.l0] at H
   by_cases c7 : x8_1 < (t767.length : Int)
   ·rw [if_pos c7] at H
    replace c7 := decide_eq_true c7
    obtain ⟨c8, H⟩ := ifs H
    replace c8 := decide_eq_true c8
    replace H := Option.bind_eq_some_iff.mp H
    obtain ⟨t772, A90, H⟩ := H
    replace H : (if t772 = true then (if x7_1 < 0 then (quinariaref02_Pipes.l0 k1 l1 t767 x8_1 (wrap64 (x8_1 + 1)) a0_0 a0_1 l0_2 l0_3) else ((quinariaref02_Price.f k1 a0_0 a0_1 l0_2 l0_3 l1 (rd_L4 t767 x8_1)).bind fun t774 => (if 0 ≤ x7_1 then (if x7_1 < (t767.length : Int) then ((quinariaref02_Price.f k1 a0_0 a0_1 l0_2 l0_3 l1 (rd_L4 t767 x7_1)).bind fun t776 => (if t774 < t776 then (quinariaref02_Pipes.l0 k1 l1 t767 x8_1 (wrap64 (x8_1 + 1)) a0_0 a0_1 l0_2 l0_3) else (quinariaref02_Pipes.l0 k1 l1 t767 x7_1 (wrap64 (x8_1 + 1)) a0_0 a0_1 l0_2 l0_3))) else (none)) else (none)))) else (quinariaref02_Pipes.l0 k1 l1 t767 x7_1 (wrap64 (x8_1 + 1)) a0_0 a0_1 l0_2 l0_3)) = some (r1, r2) := H
    have A9 := Aside0.mk A90
    clear A90
    by_cases c10 : t772 = true
    ·subst c10
     have H1 : (if x7_1 < 0 then (quinariaref02_Pipes.l0 k1 l1 t767 x8_1 (wrap64 (x8_1 + 1)) a0_0 a0_1 l0_2 l0_3) else ((quinariaref02_Price.f k1 a0_0 a0_1 l0_2 l0_3 l1 (rd_L4 t767 x8_1)).bind fun t774 => (if 0 ≤ x7_1 then (if x7_1 < (t767.length : Int) then ((quinariaref02_Price.f k1 a0_0 a0_1 l0_2 l0_3 l1 (rd_L4 t767 x7_1)).bind fun t776 => (if t774 < t776 then (quinariaref02_Pipes.l0 k1 l1 t767 x8_1 (wrap64 (x8_1 + 1)) a0_0 a0_1 l0_2 l0_3) else (quinariaref02_Pipes.l0 k1 l1 t767 x7_1 (wrap64 (x8_1 + 1)) a0_0 a0_1 l0_2 l0_3))) else (none)) else (none)))) = some (r1, r2) := by rw [if_pos rfl] at H; exact H
     clear H
     have H := H1
     clear H1
     by_cases c11 : x7_1 < 0
     ·rw [if_pos c11] at H
      replace c11 := decide_eq_true c11
      have H' := Aside0.mk H
      clear H
      obtain ⟨Ao12, co12, eo12⟩ := Kd.S_slice HO_6.out
      subst eo12
      try go_wp2
      replace HO_6 := Aside0.mk (Kd.S_drew HO_6.out)
      replace BK766 := Aside0.mk (blk_drew BK766.out)
      replace HB := Aside0.mk (below_drew1 HB.out)
      have p771 : 0 ≤ (x8_1 : Int) := of_decide_eq_true (by first | (with_reducible assumption) | assumption)
      have q771 : x8_1 < (t767.length : Int) := of_decide_eq_true (by first | (with_reducible assumption) | assumption)
      obtain ⟨ad771, A771_0, c771_0, e771, hx771_0, hl771_0, hi771_0⟩ := at_L4 (Kd.S_reads' HO_6.out).2.2 x8_1 p771 q771
      cases e771
      obtain ⟨ce771, hce771, hMe771, hcc771⟩ := Kd.S_get HO_6.out [] x8_1 p771 (by first | exact q771 | exact of_decide_eq_true (by first | (with_reducible assumption) | assumption) | (have e_ := (Kd.S_reads' HO_6.out).1; omega))
      obtain ⟨ve771_0, rfl, ge771_0⟩ := hMe771
      have hv771_0 := hcc771 0 _ rfl
      rw [Nat.add_zero, show ((Kd.slice 3 (Kd.int .i64))).sz = 1 from rfl, Nat.mul_one] at hv771_0
      replace hv771_0 := Option.some.inj (hv771_0.symm.trans hx771_0)
      rw [hv771_0] at ge771_0
      have HL771_0 := Aside0.mk (show Kd.R (Kd.int .i64) 3 _ _ _ _ (rd_L4 t767 x8_1) from ge771_0)
      clear hv771_0 ge771_0
      clear hcc771 hce771
      have HR771_0 := Aside0.mk hi771_0
      have HC771_0 := Aside0.mk hl771_0
      clear hi771_0 hl771_0
      replace p771 := eq_true p771
      replace q771 := eq_true q771
      refine start_ (n := 28) (S := fun w' => w'.cell? ⟨gb766, 0, none⟩ = some (.int .i64 a0_0) ∧ w'.cell? ⟨gb766, 1, none⟩ = some (.int .i64 a0_1) ∧ w'.cell? ⟨gb766, 2, none⟩ = some (.slice A0_2 l0_2.length c0_2) ∧ w'.cell? ⟨gb766, 3, none⟩ = some (.slice A0_3 l0_3.length c0_3) ∧ w'.cell? (ad771.add (x8_1).toNat) = some (.slice A771_0 (rd_L4 t767 x8_1).length c771_0)) (ds := []) (bl 28 0) (by kernel_rfl) rfl rfl ⟨(blk_cell BK766.out 0).trans rfl, (blk_cell BK766.out 1).trans rfl, (blk_cell BK766.out 2).trans rfl, (blk_cell BK766.out 3).trans rfl, hx771_0⟩ (fun hHeld => ?_); refine with_tabW quinariaref02_Pipes.tab6 quinariaref02_Pipes.bits6 (fun HT_ HW_ => ?_)
      generalize wr.drew = w13 at HO_6 BK766 HB HL771_0 HR771_0 hx771_0 hHeld ⊢
      refine pu 1 22 28 2 ?_
      refine pu 2 23 28 6 ?_
      refine pu 3 24 28 14 ?_
      refine pu 4 25 28 30 ?_
      refine tk5 0 21 28 31 hHeld ?_
      refine tk5 5 26 28 63 hHeld ?_
      refine one_ (i := 6) (N := some 27) (bl 28 127) rfl rfl (one_of HT_.out (by kernel_rfl)) (by decide) (fun K hK => ?_)
      refine goes_ Tryz.func31 (by kernel_rfl) rfl #[.agg #[.int .i64 a0_0, .int .i64 a0_1, .slice A0_2 l0_2.length c0_2, .slice A0_3 l0_3.length c0_3], .slice A1 l1.length c1, .slice A771_0 (rd_L4 t767 x8_1).length c771_0] (by rfl) rfl rfl uM ?_
      with_reducible refine (quinariaref02_Suffices.calls k1 a0_0 a0_1 _ _ l0_2 _ _ l0_3 _ _ l1 _ _ (rd_L4 t767 x8_1) true _ ?side1 ?side2 ?side3 ?side4 ?side5 ?side6 ?side7 ?side8 A9.out).mono ?_
      (case side1 => repeat (first | exact (Kd.C_below HR0_2.out HB.out) | (with_reducible refine Kd.C_alloc ?_ _) | (with_reducible refine Kd.C_drewN ?_ _) | (with_reducible refine Kd.C_drew ?_)))
      (case side2 => exact HC0_2.out)
      (case side3 => repeat (first | exact (Kd.C_below HR0_3.out HB.out) | (with_reducible refine Kd.C_alloc ?_ _) | (with_reducible refine Kd.C_drewN ?_ _) | (with_reducible refine Kd.C_drew ?_)))
      (case side4 => exact HC0_3.out)
      (case side5 => repeat (first | exact (Kd.C_below HR1.out HB.out) | (with_reducible refine Kd.C_alloc ?_ _) | (with_reducible refine Kd.C_drewN ?_ _) | (with_reducible refine Kd.C_drew ?_)))
      (case side6 => exact HC1.out)
      (case side7 => repeat (first | exact (by repeat (first | (with_reducible exact HR771_0.out) | (with_reducible refine Kd.C_alloc ?_ _) | (with_reducible refine Kd.C_drewN ?_ _) | (with_reducible refine Kd.C_drew ?_) | exact HR771_0.out)) | (with_reducible refine Kd.C_alloc ?_ _) | (with_reducible refine Kd.C_drewN ?_ _) | (with_reducible refine Kd.C_drew ?_)))
      (case side8 => exact HC771_0.out)
      rintro e w14 ⟨rfl, hb⟩
      have HS4_ := (hb.cell (World.block_lt_of_cell? _ _ (hHeld.2.2.2.2))).trans (hHeld.2.2.2.2)
      refine ⟨_, rfl, ?_⟩
      replace HO_6 := Aside0.mk (Kd.S_below (by (with_reducible repeat (first | apply Kd.S_alloc | apply Kd.S_drewN | apply Kd.S_drew)); exact HO_6.out) hb)
      replace HL771_0 := Aside0.mk (Kd.R_below (uR HL771_0.out) hb)
      replace BK766 := Aside0.mk (blk_below (uK BK766.out) hb)
      replace HR771_0 := Aside0.mk (Kd.C_below (by repeat (first | (with_reducible exact HR771_0.out) | (with_reducible refine Kd.C_alloc ?_ _) | (with_reducible refine Kd.C_drewN ?_ _) | (with_reducible refine Kd.C_drew ?_) | exact HR771_0.out)) hb)
      replace HB := Aside0.mk (below_step uB hb)
      (try clear hb)
      (try clear hb2)
      (try clear hk)
      (try clear hi)
      refine hK.out _ _ ⟨(blk_cell BK766.out 0).trans rfl, (blk_cell BK766.out 1).trans rfl, (blk_cell BK766.out 2).trans rfl, (blk_cell BK766.out 3).trans rfl, HS4_⟩ (fun hHeld => ?_)
      clear hK K
      refine nm ?_
      refine pu 7 28 28 255 ?_
      refine pu 8 29 28 511 ?_
      refine pu 9 30 28 1023 ?_
      refine pu 10 31 28 2047 ?_
      refine pure_ (i := 11) (N := some 32) (v := undef) (a' := ?_) (bl 28 4095) rfl rfl (any_of HT_.out (by kernel_rfl)) (fun _ _ _ h => h) (Or.inr ⟨by rfl, rfl⟩) ?_ ?_
      rotate_left
      ·simp only [Act.put, List.setIfInBounds_toArray, List.set_cons_zero, List.set_cons_succ, i64_w, i32_w]
       rfl
      refine pure_ (i := 12) (N := some 33) (v := undef) (a' := ?_) (bl 28 8191) rfl rfl (any_of HT_.out (by kernel_rfl)) (fun _ _ _ h => h) (Or.inr ⟨by rfl, rfl⟩) ?_ ?_
      rotate_left
      ·simp only [Act.put, List.setIfInBounds_toArray, List.set_cons_zero, List.set_cons_succ, i64_w, i32_w]
       rfl
      refine pure_ (i := 13) (N := some 34) (v := undef) (a' := ?_) (bl 28 16383) rfl rfl (any_of HT_.out (by kernel_rfl)) (fun _ _ _ h => h) (Or.inr ⟨by rfl, rfl⟩) ?_ ?_
      rotate_left
      ·simp only [Act.put, List.setIfInBounds_toArray, List.set_cons_zero, List.set_cons_succ, i64_w, i32_w]
       rfl
      refine pure_ (i := 14) (N := some 35) (v := undef) (a' := ?_) (bl 28 32767) rfl rfl (any_of HT_.out (by kernel_rfl)) (fun _ _ _ h => h) (Or.inr ⟨by rfl, rfl⟩) ?_ ?_
      rotate_left
      ·simp only [Act.put, List.setIfInBounds_toArray, List.set_cons_zero, List.set_cons_succ, i64_w, i32_w]
       rfl
      refine pure_ (i := 15) (N := some 36) (v := undef) (a' := ?_) (bl 28 65535) rfl rfl (any_of HT_.out (by kernel_rfl)) (fun _ _ _ h => h) (Or.inr ⟨by rfl, rfl⟩) ?_ ?_
      rotate_left
      ·simp only [Act.put, List.setIfInBounds_toArray, List.set_cons_zero, List.set_cons_succ, i64_w, i32_w]
       rfl
      refine pure_ (i := 16) (N := some 37) (v := undef) (a' := ?_) (bl 28 131071) rfl rfl (any_of HT_.out (by kernel_rfl)) (fun _ _ _ h => h) (Or.inr ⟨by rfl, rfl⟩) ?_ ?_
      rotate_left
      ·simp only [Act.put, List.setIfInBounds_toArray, List.set_cons_zero, List.set_cons_succ, i64_w, i32_w]
       rfl
      refine pure_ (i := 17) (N := some 38) (v := undef) (a' := ?_) (bl 28 262143) rfl rfl (any_of HT_.out (by kernel_rfl)) (fun _ _ _ h => h) (Or.inr ⟨by rfl, rfl⟩) ?_ ?_
      rotate_left
      ·simp only [Act.put, List.setIfInBounds_toArray, List.set_cons_zero, List.set_cons_succ, i64_w, i32_w]
       rfl
      refine pure_ (i := 18) (N := some 39) (v := undef) (a' := ?_) (bl 28 524287) rfl rfl (any_of HT_.out (by kernel_rfl)) (fun _ _ _ h => h) (Or.inr ⟨by rfl, rfl⟩) ?_ ?_
      rotate_left
      ·simp only [Act.put, List.setIfInBounds_toArray, List.set_cons_zero, List.set_cons_succ, i64_w, i32_w]
       rfl
      refine pure_ (i := 19) (N := some 40) (v := undef) (a' := ?_) (bl 28 1048575) rfl rfl (any_of HT_.out (by kernel_rfl)) (fun _ _ _ h => h) (Or.inr ⟨by rfl, rfl⟩) ?_ ?_
      rotate_left
      ·simp only [Act.put, List.setIfInBounds_toArray, List.set_cons_zero, List.set_cons_succ, i64_w, i32_w]
       rfl
      refine pure_ (i := 20) (N := some 41) (v := undef) (a' := ?_) (bl 28 2097151) rfl rfl (any_of HT_.out (by kernel_rfl)) (fun _ _ _ h => h) (Or.inr ⟨by rfl, rfl⟩) ?_ ?_
      rotate_left
      ·simp only [Act.put, List.setIfInBounds_toArray, List.set_cons_zero, List.set_cons_succ, i64_w, i32_w]
       rfl
      refine pure_ (i := 21) (N := some 42) (v := undef) (a' := ?_) (bl 28 4194303) rfl rfl (any_of HT_.out (by kernel_rfl)) (fun _ _ _ h => h) (Or.inr ⟨by rfl, rfl⟩) ?_ ?_
      rotate_left
      ·simp only [Act.put, List.setIfInBounds_toArray, List.set_cons_zero, List.set_cons_succ, i64_w, i32_w]
       rfl
      refine pure_ (i := 22) (N := some 43) (v := undef) (a' := ?_) (bl 28 8388607) rfl rfl (any_of HT_.out (by kernel_rfl)) (fun _ _ _ h => h) (Or.inr ⟨by rfl, rfl⟩) ?_ ?_
      rotate_left
      ·simp only [Act.put, List.setIfInBounds_toArray, List.set_cons_zero, List.set_cons_succ, i64_w, i32_w]
       rfl
      refine pure_ (i := 23) (N := some 44) (v := undef) (a' := ?_) (bl 28 16777215) rfl rfl (any_of HT_.out (by kernel_rfl)) (fun _ _ _ h => h) (Or.inr ⟨by rfl, rfl⟩) ?_ ?_
      rotate_left
      ·simp only [Act.put, List.setIfInBounds_toArray, List.set_cons_zero, List.set_cons_succ, i64_w, i32_w]
       rfl
      refine pure_ (i := 24) (N := some 45) (v := undef) (a' := ?_) (bl 28 33554431) rfl rfl (any_of HT_.out (by kernel_rfl)) (fun _ _ _ h => h) (Or.inr ⟨by rfl, rfl⟩) ?_ ?_
      rotate_left
      ·simp only [Act.put, List.setIfInBounds_toArray, List.set_cons_zero, List.set_cons_succ, i64_w, i32_w]
       rfl
      refine pure_ (i := 25) (N := some 46) (v := undef) (a' := ?_) (bl 28 67108863) rfl rfl (any_of HT_.out (by kernel_rfl)) (fun _ _ _ h => h) (Or.inr ⟨by rfl, rfl⟩) ?_ ?_
      rotate_left
      ·simp only [Act.put, List.setIfInBounds_toArray, List.set_cons_zero, List.set_cons_succ, i64_w, i32_w]
       rfl
      refine pu 26 47 28 134217727 ?_
      refine pu 27 48 28 268435455 ?_
      refine done_ (done_of HT_.out (by kernel_rfl)) ?_
      try go_wp2
      go_roundg k1
      case measure => have := HK1.out; omega
      case rel => exact ⟨(x8_1), (wrap64 (x8_1 + 1)), u0, u0, H', ⟨by have := HK1.out; omega⟩, ⟨by (with_reducible repeat (first | apply Kd.S_alloc | apply Kd.S_drewN | apply Kd.S_drew)); exact HO_6.out⟩, ⟨uK BK766.out⟩, ⟨uB⟩⟩
     ·rw [if_neg c11] at H
      replace c11 := decide_eq_false c11
      replace H := Option.bind_eq_some_iff.mp H
      obtain ⟨t774, A150, H⟩ := H
      replace H : (if 0 ≤ x7_1 then (if x7_1 < (t767.length : Int) then ((quinariaref02_Price.f k1 a0_0 a0_1 l0_2 l0_3 l1 (rd_L4 t767 x7_1)).bind fun t776 => (if t774 < t776 then (quinariaref02_Pipes.l0 k1 l1 t767 x8_1 (wrap64 (x8_1 + 1)) a0_0 a0_1 l0_2 l0_3) else (quinariaref02_Pipes.l0 k1 l1 t767 x7_1 (wrap64 (x8_1 + 1)) a0_0 a0_1 l0_2 l0_3))) else (none)) else (none)) = some (r1, r2) := H
      have A15 := Aside0.mk A150
      clear A150
      obtain ⟨c16, H⟩ := ifs H
      replace c16 := decide_eq_true c16
      obtain ⟨c17, H⟩ := ifs H
      replace c17 := decide_eq_true c17
      replace H := Option.bind_eq_some_iff.mp H
      obtain ⟨t776, A180, H⟩ := H
      replace H : (if t774 < t776 then (quinariaref02_Pipes.l0 k1 l1 t767 x8_1 (wrap64 (x8_1 + 1)) a0_0 a0_1 l0_2 l0_3) else (quinariaref02_Pipes.l0 k1 l1 t767 x7_1 (wrap64 (x8_1 + 1)) a0_0 a0_1 l0_2 l0_3)) = some (r1, r2) := H
      have A18 := Aside0.mk A180
      clear A180
      by_cases c19 : t774 < t776
      ·rw [if_pos c19] at H
       replace c19 := decide_eq_true c19
       have H' := Aside0.mk H
       clear H
       obtain ⟨Ao20, co20, eo20⟩ := Kd.S_slice HO_6.out
       subst eo20
       try go_wp2
       replace HO_6 := Aside0.mk (Kd.S_drew HO_6.out)
       replace BK766 := Aside0.mk (blk_drew BK766.out)
       replace HB := Aside0.mk (below_drew1 HB.out)
       have p771 : 0 ≤ (x8_1 : Int) := of_decide_eq_true (by first | (with_reducible assumption) | assumption)
       have q771 : x8_1 < (t767.length : Int) := of_decide_eq_true (by first | (with_reducible assumption) | assumption)
       obtain ⟨ad771, A771_0, c771_0, e771, hx771_0, hl771_0, hi771_0⟩ := at_L4 (Kd.S_reads' HO_6.out).2.2 x8_1 p771 q771
       cases e771
       obtain ⟨ce771, hce771, hMe771, hcc771⟩ := Kd.S_get HO_6.out [] x8_1 p771 (by first | exact q771 | exact of_decide_eq_true (by first | (with_reducible assumption) | assumption) | (have e_ := (Kd.S_reads' HO_6.out).1; omega))
       obtain ⟨ve771_0, rfl, ge771_0⟩ := hMe771
       have hv771_0 := hcc771 0 _ rfl
       rw [Nat.add_zero, show ((Kd.slice 3 (Kd.int .i64))).sz = 1 from rfl, Nat.mul_one] at hv771_0
       replace hv771_0 := Option.some.inj (hv771_0.symm.trans hx771_0)
       rw [hv771_0] at ge771_0
       have HL771_0 := Aside0.mk (show Kd.R (Kd.int .i64) 3 _ _ _ _ (rd_L4 t767 x8_1) from ge771_0)
       clear hv771_0 ge771_0
       clear hcc771 hce771
       have HR771_0 := Aside0.mk hi771_0
       have HC771_0 := Aside0.mk hl771_0
       clear hi771_0 hl771_0
       replace p771 := eq_true p771
       replace q771 := eq_true q771
       have p773 : 0 ≤ (x8_1 : Int) := of_decide_eq_true (by first | (with_reducible assumption) | assumption)
       have q773 : x8_1 < (t767.length : Int) := of_decide_eq_true (by first | (with_reducible assumption) | assumption)
       obtain ⟨ad773, A773_0, c773_0, e773, hx773_0, hl773_0, hi773_0⟩ := at_L4 (Kd.S_reads' HO_6.out).2.2 x8_1 p773 q773
       obtain rfl : ad771 = ad773 := (by injection e773)
       obtain ⟨ce773, hce773, hMe773, hcc773⟩ := Kd.S_get HO_6.out [] x8_1 p773 (by first | exact q773 | exact of_decide_eq_true (by first | (with_reducible assumption) | assumption) | (have e_ := (Kd.S_reads' HO_6.out).1; omega))
       obtain ⟨ve773_0, rfl, ge773_0⟩ := hMe773
       have hv773_0 := hcc773 0 _ rfl
       rw [Nat.add_zero, show ((Kd.slice 3 (Kd.int .i64))).sz = 1 from rfl, Nat.mul_one] at hv773_0
       replace hv773_0 := Option.some.inj (hv773_0.symm.trans hx773_0)
       rw [hv773_0] at ge773_0
       have HL773_0 := Aside0.mk (show Kd.R (Kd.int .i64) 3 _ _ _ _ (rd_L4 t767 x8_1) from ge773_0)
       clear hv773_0 ge773_0
       clear hcc773 hce773
       have HR773_0 := Aside0.mk hi773_0
       have HC773_0 := Aside0.mk hl773_0
       clear hi773_0 hl773_0
       replace p773 := eq_true p773
       replace q773 := eq_true q773
       have p775 : 0 ≤ (x7_1 : Int) := of_decide_eq_true (by first | (with_reducible assumption) | assumption)
       have q775 : x7_1 < (t767.length : Int) := of_decide_eq_true (by first | (with_reducible assumption) | assumption)
       obtain ⟨ad775, A775_0, c775_0, e775, hx775_0, hl775_0, hi775_0⟩ := at_L4 (Kd.S_reads' HO_6.out).2.2 x7_1 p775 q775
       obtain rfl : ad771 = ad775 := (by injection e775)
       obtain ⟨ce775, hce775, hMe775, hcc775⟩ := Kd.S_get HO_6.out [] x7_1 p775 (by first | exact q775 | exact of_decide_eq_true (by first | (with_reducible assumption) | assumption) | (have e_ := (Kd.S_reads' HO_6.out).1; omega))
       obtain ⟨ve775_0, rfl, ge775_0⟩ := hMe775
       have hv775_0 := hcc775 0 _ rfl
       rw [Nat.add_zero, show ((Kd.slice 3 (Kd.int .i64))).sz = 1 from rfl, Nat.mul_one] at hv775_0
       replace hv775_0 := Option.some.inj (hv775_0.symm.trans hx775_0)
       rw [hv775_0] at ge775_0
       have HL775_0 := Aside0.mk (show Kd.R (Kd.int .i64) 3 _ _ _ _ (rd_L4 t767 x7_1) from ge775_0)
       clear hv775_0 ge775_0
       clear hcc775 hce775
       have HR775_0 := Aside0.mk hi775_0
       have HC775_0 := Aside0.mk hl775_0
       clear hi775_0 hl775_0
       replace p775 := eq_true p775
       replace q775 := eq_true q775
       obtain ⟨hA_, hc_⟩ : A771_0 = A773_0 ∧ c771_0 = c773_0 := by have e_ := Option.some.inj (hx771_0.symm.trans hx773_0); injection e_ with e1_ e2_ e3_; exact ⟨e1_, e3_⟩
       subst hA_
       subst hc_
       refine start_ (n := 28) (S := fun w' => w'.cell? ⟨gb766, 0, none⟩ = some (.int .i64 a0_0) ∧ w'.cell? ⟨gb766, 1, none⟩ = some (.int .i64 a0_1) ∧ w'.cell? ⟨gb766, 2, none⟩ = some (.slice A0_2 l0_2.length c0_2) ∧ w'.cell? ⟨gb766, 3, none⟩ = some (.slice A0_3 l0_3.length c0_3) ∧ w'.cell? (ad771.add (x8_1).toNat) = some (.slice A771_0 (rd_L4 t767 x8_1).length c771_0) ∧ w'.cell? (ad771.add (x8_1).toNat) = some (.slice A771_0 (rd_L4 t767 x8_1).length c771_0) ∧ w'.cell? (ad771.add (x7_1).toNat) = some (.slice A775_0 (rd_L4 t767 x7_1).length c775_0)) (ds := []) (bl 28 0) (by kernel_rfl) rfl rfl ⟨(blk_cell BK766.out 0).trans rfl, (blk_cell BK766.out 1).trans rfl, (blk_cell BK766.out 2).trans rfl, (blk_cell BK766.out 3).trans rfl, hx771_0, hx773_0, hx775_0⟩ (fun hHeld => ?_); refine with_tabW quinariaref02_Pipes.tab6 quinariaref02_Pipes.bits6 (fun HT_ HW_ => ?_)
       generalize wr.drew = w21 at HO_6 BK766 HB HL771_0 HL773_0 HL775_0 HR771_0 HR773_0 HR775_0 hx771_0 hx773_0 hx775_0 hHeld ⊢
       refine pu 1 22 28 2 ?_
       refine pu 2 23 28 6 ?_
       refine pu 3 24 28 14 ?_
       refine pu 4 25 28 30 ?_
       refine tk7 0 21 28 31 hHeld ?_
       refine tk7 5 26 28 63 hHeld ?_
       refine one_ (i := 6) (N := some 27) (bl 28 127) rfl rfl (one_of HT_.out (by kernel_rfl)) (by decide) (fun K hK => ?_)
       refine goes_ Tryz.func31 (by kernel_rfl) rfl #[.agg #[.int .i64 a0_0, .int .i64 a0_1, .slice A0_2 l0_2.length c0_2, .slice A0_3 l0_3.length c0_3], .slice A1 l1.length c1, .slice A771_0 (rd_L4 t767 x8_1).length c771_0] (by rfl) rfl rfl uM ?_
       with_reducible refine (quinariaref02_Suffices.calls k1 a0_0 a0_1 _ _ l0_2 _ _ l0_3 _ _ l1 _ _ (rd_L4 t767 x8_1) true _ ?side1 ?side2 ?side3 ?side4 ?side5 ?side6 ?side7 ?side8 A9.out).mono ?_
       (case side1 => repeat (first | exact (Kd.C_below HR0_2.out HB.out) | (with_reducible refine Kd.C_alloc ?_ _) | (with_reducible refine Kd.C_drewN ?_ _) | (with_reducible refine Kd.C_drew ?_)))
       (case side2 => exact HC0_2.out)
       (case side3 => repeat (first | exact (Kd.C_below HR0_3.out HB.out) | (with_reducible refine Kd.C_alloc ?_ _) | (with_reducible refine Kd.C_drewN ?_ _) | (with_reducible refine Kd.C_drew ?_)))
       (case side4 => exact HC0_3.out)
       (case side5 => repeat (first | exact (Kd.C_below HR1.out HB.out) | (with_reducible refine Kd.C_alloc ?_ _) | (with_reducible refine Kd.C_drewN ?_ _) | (with_reducible refine Kd.C_drew ?_)))
       (case side6 => exact HC1.out)
       (case side7 => repeat (first | exact (by repeat (first | (with_reducible exact HR771_0.out) | (with_reducible refine Kd.C_alloc ?_ _) | (with_reducible refine Kd.C_drewN ?_ _) | (with_reducible refine Kd.C_drew ?_) | exact HR771_0.out)) | (with_reducible refine Kd.C_alloc ?_ _) | (with_reducible refine Kd.C_drewN ?_ _) | (with_reducible refine Kd.C_drew ?_)))
       (case side8 => exact HC771_0.out)
       rintro e w22 ⟨rfl, hb⟩
       have HS4_ := (hb.cell (World.block_lt_of_cell? _ _ (hHeld.2.2.2.2.1))).trans (hHeld.2.2.2.2.1)
       have HS5_ := (hb.cell (World.block_lt_of_cell? _ _ (hHeld.2.2.2.2.2.1))).trans (hHeld.2.2.2.2.2.1)
       have HS6_ := (hb.cell (World.block_lt_of_cell? _ _ (hHeld.2.2.2.2.2.2))).trans (hHeld.2.2.2.2.2.2)
       refine ⟨_, rfl, ?_⟩
       replace HO_6 := Aside0.mk (Kd.S_below (by (with_reducible repeat (first | apply Kd.S_alloc | apply Kd.S_drewN | apply Kd.S_drew)); exact HO_6.out) hb)
       replace HL775_0 := Aside0.mk (Kd.R_below (uR HL775_0.out) hb)
       replace HL771_0 := Aside0.mk (Kd.R_below (uR HL771_0.out) hb)
       replace BK766 := Aside0.mk (blk_below (uK BK766.out) hb)
       replace HR775_0 := Aside0.mk (Kd.C_below (by repeat (first | (with_reducible exact HR775_0.out) | (with_reducible refine Kd.C_alloc ?_ _) | (with_reducible refine Kd.C_drewN ?_ _) | (with_reducible refine Kd.C_drew ?_) | exact HR775_0.out)) hb)
       replace HR771_0 := Aside0.mk (Kd.C_below (by repeat (first | (with_reducible exact HR771_0.out) | (with_reducible refine Kd.C_alloc ?_ _) | (with_reducible refine Kd.C_drewN ?_ _) | (with_reducible refine Kd.C_drew ?_) | exact HR771_0.out)) hb)
       replace HB := Aside0.mk (below_step uB hb)
       (try clear hb)
       (try clear hb2)
       (try clear hk)
       (try clear hi)
       refine hK.out _ _ ⟨(blk_cell BK766.out 0).trans rfl, (blk_cell BK766.out 1).trans rfl, (blk_cell BK766.out 2).trans rfl, (blk_cell BK766.out 3).trans rfl, HS4_, HS5_, HS6_⟩ (fun hHeld => ?_)
       clear hK K
       refine nm ?_
       refine pu 7 28 28 255 ?_
       refine pu 8 29 28 511 ?_
       refine pu 9 30 28 1023 ?_
       refine pu 10 31 28 2047 ?_
       refine pu 12 33 28 6143 ?_
       refine pu 13 34 28 14335 ?_
       refine pu 14 35 28 30719 ?_
       refine pu 15 36 28 63487 ?_
       refine pu 19 40 28 587775 ?_
       refine pu 20 41 28 1636351 ?_
       refine pu 21 42 28 3733503 ?_
       refine pu 22 43 28 7927807 ?_
       refine tk7 11 32 28 7929855 hHeld ?_
       refine tk7 16 37 28 7995391 hHeld ?_
       refine tk7 18 39 28 8257535 hHeld ?_
       refine tk7 23 44 28 16646143 hHeld ?_
       refine one_ (i := 17) (N := some 38) (bl 28 16777215) rfl rfl (one_of HT_.out (by kernel_rfl)) (by decide) (fun K hK => ?_)
       refine goes_ Tryz.func30 (by kernel_rfl) rfl #[.agg #[.int .i64 a0_0, .int .i64 a0_1, .slice A0_2 l0_2.length c0_2, .slice A0_3 l0_3.length c0_3], .slice A1 l1.length c1, .slice A771_0 (rd_L4 t767 x8_1).length c771_0] (by rfl) rfl rfl uM ?_
       with_reducible refine (quinariaref02_Price.calls k1 a0_0 a0_1 _ _ l0_2 _ _ l0_3 _ _ l1 _ _ (rd_L4 t767 x8_1) t774 _ ?side1 ?side2 ?side3 ?side4 ?side5 ?side6 ?side7 ?side8 A15.out).mono ?_
       (case side1 => repeat (first | exact (Kd.C_below HR0_2.out HB.out) | (with_reducible refine Kd.C_alloc ?_ _) | (with_reducible refine Kd.C_drewN ?_ _) | (with_reducible refine Kd.C_drew ?_)))
       (case side2 => exact HC0_2.out)
       (case side3 => repeat (first | exact (Kd.C_below HR0_3.out HB.out) | (with_reducible refine Kd.C_alloc ?_ _) | (with_reducible refine Kd.C_drewN ?_ _) | (with_reducible refine Kd.C_drew ?_)))
       (case side4 => exact HC0_3.out)
       (case side5 => repeat (first | exact (Kd.C_below HR1.out HB.out) | (with_reducible refine Kd.C_alloc ?_ _) | (with_reducible refine Kd.C_drewN ?_ _) | (with_reducible refine Kd.C_drew ?_)))
       (case side6 => exact HC1.out)
       (case side7 => repeat (first | exact (by repeat (first | (with_reducible exact HR771_0.out) | (with_reducible refine Kd.C_alloc ?_ _) | (with_reducible refine Kd.C_drewN ?_ _) | (with_reducible refine Kd.C_drew ?_) | exact HR771_0.out)) | (with_reducible refine Kd.C_alloc ?_ _) | (with_reducible refine Kd.C_drewN ?_ _) | (with_reducible refine Kd.C_drew ?_)))
       (case side8 => exact HC771_0.out)
       rintro e w23 ⟨rfl, hb⟩
       have HS4_ := (hb.cell (World.block_lt_of_cell? _ _ (hHeld.2.2.2.2.1))).trans (hHeld.2.2.2.2.1)
       have HS5_ := (hb.cell (World.block_lt_of_cell? _ _ (hHeld.2.2.2.2.2.1))).trans (hHeld.2.2.2.2.2.1)
       have HS6_ := (hb.cell (World.block_lt_of_cell? _ _ (hHeld.2.2.2.2.2.2))).trans (hHeld.2.2.2.2.2.2)
       refine ⟨_, rfl, ?_⟩
       replace HO_6 := Aside0.mk (Kd.S_below (by (with_reducible repeat (first | apply Kd.S_alloc | apply Kd.S_drewN | apply Kd.S_drew)); exact HO_6.out) hb)
       replace HL775_0 := Aside0.mk (Kd.R_below (uR HL775_0.out) hb)
       replace HL771_0 := Aside0.mk (Kd.R_below (uR HL771_0.out) hb)
       replace BK766 := Aside0.mk (blk_below (uK BK766.out) hb)
       replace HR775_0 := Aside0.mk (Kd.C_below (by repeat (first | (with_reducible exact HR775_0.out) | (with_reducible refine Kd.C_alloc ?_ _) | (with_reducible refine Kd.C_drewN ?_ _) | (with_reducible refine Kd.C_drew ?_) | exact HR775_0.out)) hb)
       replace HR771_0 := Aside0.mk (Kd.C_below (by repeat (first | (with_reducible exact HR771_0.out) | (with_reducible refine Kd.C_alloc ?_ _) | (with_reducible refine Kd.C_drewN ?_ _) | (with_reducible refine Kd.C_drew ?_) | exact HR771_0.out)) hb)
       replace HB := Aside0.mk (below_step uB hb)
       (try clear hb)
       (try clear hb2)
       (try clear hk)
       (try clear hi)
       refine hK.out _ _ ⟨(blk_cell BK766.out 0).trans rfl, (blk_cell BK766.out 1).trans rfl, (blk_cell BK766.out 2).trans rfl, (blk_cell BK766.out 3).trans rfl, HS4_, HS5_, HS6_⟩ (fun hHeld => ?_)
       clear hK K
       refine nm ?_
       refine one_ (i := 24) (N := some 45) (bl 28 33554431) rfl rfl (one_of HT_.out (by kernel_rfl)) (by decide) (fun K hK => ?_)
       refine goes_ Tryz.func30 (by kernel_rfl) rfl #[.agg #[.int .i64 a0_0, .int .i64 a0_1, .slice A0_2 l0_2.length c0_2, .slice A0_3 l0_3.length c0_3], .slice A1 l1.length c1, .slice A775_0 (rd_L4 t767 x7_1).length c775_0] (by rfl) rfl rfl uM ?_
       with_reducible refine (quinariaref02_Price.calls k1 a0_0 a0_1 _ _ l0_2 _ _ l0_3 _ _ l1 _ _ (rd_L4 t767 x7_1) t776 _ ?side1 ?side2 ?side3 ?side4 ?side5 ?side6 ?side7 ?side8 A18.out).mono ?_
       (case side1 => repeat (first | exact (Kd.C_below HR0_2.out HB.out) | (with_reducible refine Kd.C_alloc ?_ _) | (with_reducible refine Kd.C_drewN ?_ _) | (with_reducible refine Kd.C_drew ?_)))
       (case side2 => exact HC0_2.out)
       (case side3 => repeat (first | exact (Kd.C_below HR0_3.out HB.out) | (with_reducible refine Kd.C_alloc ?_ _) | (with_reducible refine Kd.C_drewN ?_ _) | (with_reducible refine Kd.C_drew ?_)))
       (case side4 => exact HC0_3.out)
       (case side5 => repeat (first | exact (Kd.C_below HR1.out HB.out) | (with_reducible refine Kd.C_alloc ?_ _) | (with_reducible refine Kd.C_drewN ?_ _) | (with_reducible refine Kd.C_drew ?_)))
       (case side6 => exact HC1.out)
       (case side7 => repeat (first | exact (by repeat (first | (with_reducible exact HR775_0.out) | (with_reducible refine Kd.C_alloc ?_ _) | (with_reducible refine Kd.C_drewN ?_ _) | (with_reducible refine Kd.C_drew ?_) | exact HR775_0.out)) | (with_reducible refine Kd.C_alloc ?_ _) | (with_reducible refine Kd.C_drewN ?_ _) | (with_reducible refine Kd.C_drew ?_)))
       (case side8 => exact HC775_0.out)
       rintro e w24 ⟨rfl, hb⟩
       have HS4_ := (hb.cell (World.block_lt_of_cell? _ _ (hHeld.2.2.2.2.1))).trans (hHeld.2.2.2.2.1)
       have HS5_ := (hb.cell (World.block_lt_of_cell? _ _ (hHeld.2.2.2.2.2.1))).trans (hHeld.2.2.2.2.2.1)
       have HS6_ := (hb.cell (World.block_lt_of_cell? _ _ (hHeld.2.2.2.2.2.2))).trans (hHeld.2.2.2.2.2.2)
       refine ⟨_, rfl, ?_⟩
       replace HO_6 := Aside0.mk (Kd.S_below (by (with_reducible repeat (first | apply Kd.S_alloc | apply Kd.S_drewN | apply Kd.S_drew)); exact HO_6.out) hb)
       replace HL771_0 := Aside0.mk (Kd.R_below (uR HL771_0.out) hb)
       replace HL775_0 := Aside0.mk (Kd.R_below (uR HL775_0.out) hb)
       replace BK766 := Aside0.mk (blk_below (uK BK766.out) hb)
       replace HR771_0 := Aside0.mk (Kd.C_below (by repeat (first | (with_reducible exact HR771_0.out) | (with_reducible refine Kd.C_alloc ?_ _) | (with_reducible refine Kd.C_drewN ?_ _) | (with_reducible refine Kd.C_drew ?_) | exact HR771_0.out)) hb)
       replace HR775_0 := Aside0.mk (Kd.C_below (by repeat (first | (with_reducible exact HR775_0.out) | (with_reducible refine Kd.C_alloc ?_ _) | (with_reducible refine Kd.C_drewN ?_ _) | (with_reducible refine Kd.C_drew ?_) | exact HR775_0.out)) hb)
       replace HB := Aside0.mk (below_step uB hb)
       (try clear hb)
       (try clear hb2)
       (try clear hk)
       (try clear hi)
       refine hK.out _ _ ⟨(blk_cell BK766.out 0).trans rfl, (blk_cell BK766.out 1).trans rfl, (blk_cell BK766.out 2).trans rfl, (blk_cell BK766.out 3).trans rfl, HS4_, HS5_, HS6_⟩ (fun hHeld => ?_)
       clear hK K
       refine nm ?_
       refine pu 25 46 28 67108863 ?_
       refine pu 26 47 28 134217727 ?_
       refine pu 27 48 28 268435455 ?_
       refine done_ (done_of HT_.out (by kernel_rfl)) ?_
       try go_wp2
       go_roundg k1
       case measure => have := HK1.out; omega
       case rel => exact ⟨(x8_1), (wrap64 (x8_1 + 1)), u0, u0, H', ⟨by have := HK1.out; omega⟩, ⟨by (with_reducible repeat (first | apply Kd.S_alloc | apply Kd.S_drewN | apply Kd.S_drew)); exact HO_6.out⟩, ⟨uK BK766.out⟩, ⟨uB⟩⟩
      ·rw [if_neg c19] at H
       replace c19 := decide_eq_false c19
       have H' := Aside0.mk H
       clear H
       obtain ⟨Ao25, co25, eo25⟩ := Kd.S_slice HO_6.out
       subst eo25
       try go_wp2
       replace HO_6 := Aside0.mk (Kd.S_drew HO_6.out)
       replace BK766 := Aside0.mk (blk_drew BK766.out)
       replace HB := Aside0.mk (below_drew1 HB.out)
       have p771 : 0 ≤ (x8_1 : Int) := of_decide_eq_true (by first | (with_reducible assumption) | assumption)
       have q771 : x8_1 < (t767.length : Int) := of_decide_eq_true (by first | (with_reducible assumption) | assumption)
       obtain ⟨ad771, A771_0, c771_0, e771, hx771_0, hl771_0, hi771_0⟩ := at_L4 (Kd.S_reads' HO_6.out).2.2 x8_1 p771 q771
       cases e771
       obtain ⟨ce771, hce771, hMe771, hcc771⟩ := Kd.S_get HO_6.out [] x8_1 p771 (by first | exact q771 | exact of_decide_eq_true (by first | (with_reducible assumption) | assumption) | (have e_ := (Kd.S_reads' HO_6.out).1; omega))
       obtain ⟨ve771_0, rfl, ge771_0⟩ := hMe771
       have hv771_0 := hcc771 0 _ rfl
       rw [Nat.add_zero, show ((Kd.slice 3 (Kd.int .i64))).sz = 1 from rfl, Nat.mul_one] at hv771_0
       replace hv771_0 := Option.some.inj (hv771_0.symm.trans hx771_0)
       rw [hv771_0] at ge771_0
       have HL771_0 := Aside0.mk (show Kd.R (Kd.int .i64) 3 _ _ _ _ (rd_L4 t767 x8_1) from ge771_0)
       clear hv771_0 ge771_0
       clear hcc771 hce771
       have HR771_0 := Aside0.mk hi771_0
       have HC771_0 := Aside0.mk hl771_0
       clear hi771_0 hl771_0
       replace p771 := eq_true p771
       replace q771 := eq_true q771
       have p773 : 0 ≤ (x8_1 : Int) := of_decide_eq_true (by first | (with_reducible assumption) | assumption)
       have q773 : x8_1 < (t767.length : Int) := of_decide_eq_true (by first | (with_reducible assumption) | assumption)
       obtain ⟨ad773, A773_0, c773_0, e773, hx773_0, hl773_0, hi773_0⟩ := at_L4 (Kd.S_reads' HO_6.out).2.2 x8_1 p773 q773
       obtain rfl : ad771 = ad773 := (by injection e773)
       obtain ⟨ce773, hce773, hMe773, hcc773⟩ := Kd.S_get HO_6.out [] x8_1 p773 (by first | exact q773 | exact of_decide_eq_true (by first | (with_reducible assumption) | assumption) | (have e_ := (Kd.S_reads' HO_6.out).1; omega))
       obtain ⟨ve773_0, rfl, ge773_0⟩ := hMe773
       have hv773_0 := hcc773 0 _ rfl
       rw [Nat.add_zero, show ((Kd.slice 3 (Kd.int .i64))).sz = 1 from rfl, Nat.mul_one] at hv773_0
       replace hv773_0 := Option.some.inj (hv773_0.symm.trans hx773_0)
       rw [hv773_0] at ge773_0
       have HL773_0 := Aside0.mk (show Kd.R (Kd.int .i64) 3 _ _ _ _ (rd_L4 t767 x8_1) from ge773_0)
       clear hv773_0 ge773_0
       clear hcc773 hce773
       have HR773_0 := Aside0.mk hi773_0
       have HC773_0 := Aside0.mk hl773_0
       clear hi773_0 hl773_0
       replace p773 := eq_true p773
       replace q773 := eq_true q773
       have p775 : 0 ≤ (x7_1 : Int) := of_decide_eq_true (by first | (with_reducible assumption) | assumption)
       have q775 : x7_1 < (t767.length : Int) := of_decide_eq_true (by first | (with_reducible assumption) | assumption)
       obtain ⟨ad775, A775_0, c775_0, e775, hx775_0, hl775_0, hi775_0⟩ := at_L4 (Kd.S_reads' HO_6.out).2.2 x7_1 p775 q775
       obtain rfl : ad771 = ad775 := (by injection e775)
       obtain ⟨ce775, hce775, hMe775, hcc775⟩ := Kd.S_get HO_6.out [] x7_1 p775 (by first | exact q775 | exact of_decide_eq_true (by first | (with_reducible assumption) | assumption) | (have e_ := (Kd.S_reads' HO_6.out).1; omega))
       obtain ⟨ve775_0, rfl, ge775_0⟩ := hMe775
       have hv775_0 := hcc775 0 _ rfl
       rw [Nat.add_zero, show ((Kd.slice 3 (Kd.int .i64))).sz = 1 from rfl, Nat.mul_one] at hv775_0
       replace hv775_0 := Option.some.inj (hv775_0.symm.trans hx775_0)
       rw [hv775_0] at ge775_0
       have HL775_0 := Aside0.mk (show Kd.R (Kd.int .i64) 3 _ _ _ _ (rd_L4 t767 x7_1) from ge775_0)
       clear hv775_0 ge775_0
       clear hcc775 hce775
       have HR775_0 := Aside0.mk hi775_0
       have HC775_0 := Aside0.mk hl775_0
       clear hi775_0 hl775_0
       replace p775 := eq_true p775
       replace q775 := eq_true q775
       obtain ⟨hA_, hc_⟩ : A771_0 = A773_0 ∧ c771_0 = c773_0 := by have e_ := Option.some.inj (hx771_0.symm.trans hx773_0); injection e_ with e1_ e2_ e3_; exact ⟨e1_, e3_⟩
       subst hA_
       subst hc_
       refine start_ (n := 28) (S := fun w' => w'.cell? ⟨gb766, 0, none⟩ = some (.int .i64 a0_0) ∧ w'.cell? ⟨gb766, 1, none⟩ = some (.int .i64 a0_1) ∧ w'.cell? ⟨gb766, 2, none⟩ = some (.slice A0_2 l0_2.length c0_2) ∧ w'.cell? ⟨gb766, 3, none⟩ = some (.slice A0_3 l0_3.length c0_3) ∧ w'.cell? (ad771.add (x8_1).toNat) = some (.slice A771_0 (rd_L4 t767 x8_1).length c771_0) ∧ w'.cell? (ad771.add (x8_1).toNat) = some (.slice A771_0 (rd_L4 t767 x8_1).length c771_0) ∧ w'.cell? (ad771.add (x7_1).toNat) = some (.slice A775_0 (rd_L4 t767 x7_1).length c775_0)) (ds := []) (bl 28 0) (by kernel_rfl) rfl rfl ⟨(blk_cell BK766.out 0).trans rfl, (blk_cell BK766.out 1).trans rfl, (blk_cell BK766.out 2).trans rfl, (blk_cell BK766.out 3).trans rfl, hx771_0, hx773_0, hx775_0⟩ (fun hHeld => ?_); refine with_tabW quinariaref02_Pipes.tab6 quinariaref02_Pipes.bits6 (fun HT_ HW_ => ?_)
       generalize wr.drew = w26 at HO_6 BK766 HB HL771_0 HL773_0 HL775_0 HR771_0 HR773_0 HR775_0 hx771_0 hx773_0 hx775_0 hHeld ⊢
       refine pu 1 22 28 2 ?_
       refine pu 2 23 28 6 ?_
       refine pu 3 24 28 14 ?_
       refine pu 4 25 28 30 ?_
       refine tk7 0 21 28 31 hHeld ?_
       refine tk7 5 26 28 63 hHeld ?_
       refine one_ (i := 6) (N := some 27) (bl 28 127) rfl rfl (one_of HT_.out (by kernel_rfl)) (by decide) (fun K hK => ?_)
       refine goes_ Tryz.func31 (by kernel_rfl) rfl #[.agg #[.int .i64 a0_0, .int .i64 a0_1, .slice A0_2 l0_2.length c0_2, .slice A0_3 l0_3.length c0_3], .slice A1 l1.length c1, .slice A771_0 (rd_L4 t767 x8_1).length c771_0] (by rfl) rfl rfl uM ?_
       with_reducible refine (quinariaref02_Suffices.calls k1 a0_0 a0_1 _ _ l0_2 _ _ l0_3 _ _ l1 _ _ (rd_L4 t767 x8_1) true _ ?side1 ?side2 ?side3 ?side4 ?side5 ?side6 ?side7 ?side8 A9.out).mono ?_
       (case side1 => repeat (first | exact (Kd.C_below HR0_2.out HB.out) | (with_reducible refine Kd.C_alloc ?_ _) | (with_reducible refine Kd.C_drewN ?_ _) | (with_reducible refine Kd.C_drew ?_)))
       (case side2 => exact HC0_2.out)
       (case side3 => repeat (first | exact (Kd.C_below HR0_3.out HB.out) | (with_reducible refine Kd.C_alloc ?_ _) | (with_reducible refine Kd.C_drewN ?_ _) | (with_reducible refine Kd.C_drew ?_)))
       (case side4 => exact HC0_3.out)
       (case side5 => repeat (first | exact (Kd.C_below HR1.out HB.out) | (with_reducible refine Kd.C_alloc ?_ _) | (with_reducible refine Kd.C_drewN ?_ _) | (with_reducible refine Kd.C_drew ?_)))
       (case side6 => exact HC1.out)
       (case side7 => repeat (first | exact (by repeat (first | (with_reducible exact HR771_0.out) | (with_reducible refine Kd.C_alloc ?_ _) | (with_reducible refine Kd.C_drewN ?_ _) | (with_reducible refine Kd.C_drew ?_) | exact HR771_0.out)) | (with_reducible refine Kd.C_alloc ?_ _) | (with_reducible refine Kd.C_drewN ?_ _) | (with_reducible refine Kd.C_drew ?_)))
       (case side8 => exact HC771_0.out)
       rintro e w27 ⟨rfl, hb⟩
       have HS4_ := (hb.cell (World.block_lt_of_cell? _ _ (hHeld.2.2.2.2.1))).trans (hHeld.2.2.2.2.1)
       have HS5_ := (hb.cell (World.block_lt_of_cell? _ _ (hHeld.2.2.2.2.2.1))).trans (hHeld.2.2.2.2.2.1)
       have HS6_ := (hb.cell (World.block_lt_of_cell? _ _ (hHeld.2.2.2.2.2.2))).trans (hHeld.2.2.2.2.2.2)
       refine ⟨_, rfl, ?_⟩
       replace HO_6 := Aside0.mk (Kd.S_below (by (with_reducible repeat (first | apply Kd.S_alloc | apply Kd.S_drewN | apply Kd.S_drew)); exact HO_6.out) hb)
       replace HL775_0 := Aside0.mk (Kd.R_below (uR HL775_0.out) hb)
       replace HL771_0 := Aside0.mk (Kd.R_below (uR HL771_0.out) hb)
       replace BK766 := Aside0.mk (blk_below (uK BK766.out) hb)
       replace HR775_0 := Aside0.mk (Kd.C_below (by repeat (first | (with_reducible exact HR775_0.out) | (with_reducible refine Kd.C_alloc ?_ _) | (with_reducible refine Kd.C_drewN ?_ _) | (with_reducible refine Kd.C_drew ?_) | exact HR775_0.out)) hb)
       replace HR771_0 := Aside0.mk (Kd.C_below (by repeat (first | (with_reducible exact HR771_0.out) | (with_reducible refine Kd.C_alloc ?_ _) | (with_reducible refine Kd.C_drewN ?_ _) | (with_reducible refine Kd.C_drew ?_) | exact HR771_0.out)) hb)
       replace HB := Aside0.mk (below_step uB hb)
       (try clear hb)
       (try clear hb2)
       (try clear hk)
       (try clear hi)
       refine hK.out _ _ ⟨(blk_cell BK766.out 0).trans rfl, (blk_cell BK766.out 1).trans rfl, (blk_cell BK766.out 2).trans rfl, (blk_cell BK766.out 3).trans rfl, HS4_, HS5_, HS6_⟩ (fun hHeld => ?_)
       clear hK K
       refine nm ?_
       refine pu 7 28 28 255 ?_
       refine pu 8 29 28 511 ?_
       refine pu 9 30 28 1023 ?_
       refine pu 10 31 28 2047 ?_
       refine pu 12 33 28 6143 ?_
       refine pu 13 34 28 14335 ?_
       refine pu 14 35 28 30719 ?_
       refine pu 15 36 28 63487 ?_
       refine pu 19 40 28 587775 ?_
       refine pu 20 41 28 1636351 ?_
       refine pu 21 42 28 3733503 ?_
       refine pu 22 43 28 7927807 ?_
       refine tk7 11 32 28 7929855 hHeld ?_
       refine tk7 16 37 28 7995391 hHeld ?_
       refine tk7 18 39 28 8257535 hHeld ?_
       refine tk7 23 44 28 16646143 hHeld ?_
       refine one_ (i := 17) (N := some 38) (bl 28 16777215) rfl rfl (one_of HT_.out (by kernel_rfl)) (by decide) (fun K hK => ?_)
       refine goes_ Tryz.func30 (by kernel_rfl) rfl #[.agg #[.int .i64 a0_0, .int .i64 a0_1, .slice A0_2 l0_2.length c0_2, .slice A0_3 l0_3.length c0_3], .slice A1 l1.length c1, .slice A771_0 (rd_L4 t767 x8_1).length c771_0] (by rfl) rfl rfl uM ?_
       with_reducible refine (quinariaref02_Price.calls k1 a0_0 a0_1 _ _ l0_2 _ _ l0_3 _ _ l1 _ _ (rd_L4 t767 x8_1) t774 _ ?side1 ?side2 ?side3 ?side4 ?side5 ?side6 ?side7 ?side8 A15.out).mono ?_
       (case side1 => repeat (first | exact (Kd.C_below HR0_2.out HB.out) | (with_reducible refine Kd.C_alloc ?_ _) | (with_reducible refine Kd.C_drewN ?_ _) | (with_reducible refine Kd.C_drew ?_)))
       (case side2 => exact HC0_2.out)
       (case side3 => repeat (first | exact (Kd.C_below HR0_3.out HB.out) | (with_reducible refine Kd.C_alloc ?_ _) | (with_reducible refine Kd.C_drewN ?_ _) | (with_reducible refine Kd.C_drew ?_)))
       (case side4 => exact HC0_3.out)
       (case side5 => repeat (first | exact (Kd.C_below HR1.out HB.out) | (with_reducible refine Kd.C_alloc ?_ _) | (with_reducible refine Kd.C_drewN ?_ _) | (with_reducible refine Kd.C_drew ?_)))
       (case side6 => exact HC1.out)
       (case side7 => repeat (first | exact (by repeat (first | (with_reducible exact HR771_0.out) | (with_reducible refine Kd.C_alloc ?_ _) | (with_reducible refine Kd.C_drewN ?_ _) | (with_reducible refine Kd.C_drew ?_) | exact HR771_0.out)) | (with_reducible refine Kd.C_alloc ?_ _) | (with_reducible refine Kd.C_drewN ?_ _) | (with_reducible refine Kd.C_drew ?_)))
       (case side8 => exact HC771_0.out)
       rintro e w28 ⟨rfl, hb⟩
       have HS4_ := (hb.cell (World.block_lt_of_cell? _ _ (hHeld.2.2.2.2.1))).trans (hHeld.2.2.2.2.1)
       have HS5_ := (hb.cell (World.block_lt_of_cell? _ _ (hHeld.2.2.2.2.2.1))).trans (hHeld.2.2.2.2.2.1)
       have HS6_ := (hb.cell (World.block_lt_of_cell? _ _ (hHeld.2.2.2.2.2.2))).trans (hHeld.2.2.2.2.2.2)
       refine ⟨_, rfl, ?_⟩
       replace HO_6 := Aside0.mk (Kd.S_below (by (with_reducible repeat (first | apply Kd.S_alloc | apply Kd.S_drewN | apply Kd.S_drew)); exact HO_6.out) hb)
       replace HL775_0 := Aside0.mk (Kd.R_below (uR HL775_0.out) hb)
       replace HL771_0 := Aside0.mk (Kd.R_below (uR HL771_0.out) hb)
       replace BK766 := Aside0.mk (blk_below (uK BK766.out) hb)
       replace HR775_0 := Aside0.mk (Kd.C_below (by repeat (first | (with_reducible exact HR775_0.out) | (with_reducible refine Kd.C_alloc ?_ _) | (with_reducible refine Kd.C_drewN ?_ _) | (with_reducible refine Kd.C_drew ?_) | exact HR775_0.out)) hb)
       replace HR771_0 := Aside0.mk (Kd.C_below (by repeat (first | (with_reducible exact HR771_0.out) | (with_reducible refine Kd.C_alloc ?_ _) | (with_reducible refine Kd.C_drewN ?_ _) | (with_reducible refine Kd.C_drew ?_) | exact HR771_0.out)) hb)
       replace HB := Aside0.mk (below_step uB hb)
       (try clear hb)
       (try clear hb2)
       (try clear hk)
       (try clear hi)
       refine hK.out _ _ ⟨(blk_cell BK766.out 0).trans rfl, (blk_cell BK766.out 1).trans rfl, (blk_cell BK766.out 2).trans rfl, (blk_cell BK766.out 3).trans rfl, HS4_, HS5_, HS6_⟩ (fun hHeld => ?_)
       clear hK K
       refine nm ?_
       refine one_ (i := 24) (N := some 45) (bl 28 33554431) rfl rfl (one_of HT_.out (by kernel_rfl)) (by decide) (fun K hK => ?_)
       refine goes_ Tryz.func30 (by kernel_rfl) rfl #[.agg #[.int .i64 a0_0, .int .i64 a0_1, .slice A0_2 l0_2.length c0_2, .slice A0_3 l0_3.length c0_3], .slice A1 l1.length c1, .slice A775_0 (rd_L4 t767 x7_1).length c775_0] (by rfl) rfl rfl uM ?_
       with_reducible refine (quinariaref02_Price.calls k1 a0_0 a0_1 _ _ l0_2 _ _ l0_3 _ _ l1 _ _ (rd_L4 t767 x7_1) t776 _ ?side1 ?side2 ?side3 ?side4 ?side5 ?side6 ?side7 ?side8 A18.out).mono ?_
       (case side1 => repeat (first | exact (Kd.C_below HR0_2.out HB.out) | (with_reducible refine Kd.C_alloc ?_ _) | (with_reducible refine Kd.C_drewN ?_ _) | (with_reducible refine Kd.C_drew ?_)))
       (case side2 => exact HC0_2.out)
       (case side3 => repeat (first | exact (Kd.C_below HR0_3.out HB.out) | (with_reducible refine Kd.C_alloc ?_ _) | (with_reducible refine Kd.C_drewN ?_ _) | (with_reducible refine Kd.C_drew ?_)))
       (case side4 => exact HC0_3.out)
       (case side5 => repeat (first | exact (Kd.C_below HR1.out HB.out) | (with_reducible refine Kd.C_alloc ?_ _) | (with_reducible refine Kd.C_drewN ?_ _) | (with_reducible refine Kd.C_drew ?_)))
       (case side6 => exact HC1.out)
       (case side7 => repeat (first | exact (by repeat (first | (with_reducible exact HR775_0.out) | (with_reducible refine Kd.C_alloc ?_ _) | (with_reducible refine Kd.C_drewN ?_ _) | (with_reducible refine Kd.C_drew ?_) | exact HR775_0.out)) | (with_reducible refine Kd.C_alloc ?_ _) | (with_reducible refine Kd.C_drewN ?_ _) | (with_reducible refine Kd.C_drew ?_)))
       (case side8 => exact HC775_0.out)
       rintro e w29 ⟨rfl, hb⟩
       have HS4_ := (hb.cell (World.block_lt_of_cell? _ _ (hHeld.2.2.2.2.1))).trans (hHeld.2.2.2.2.1)
       have HS5_ := (hb.cell (World.block_lt_of_cell? _ _ (hHeld.2.2.2.2.2.1))).trans (hHeld.2.2.2.2.2.1)
       have HS6_ := (hb.cell (World.block_lt_of_cell? _ _ (hHeld.2.2.2.2.2.2))).trans (hHeld.2.2.2.2.2.2)
       refine ⟨_, rfl, ?_⟩
       replace HO_6 := Aside0.mk (Kd.S_below (by (with_reducible repeat (first | apply Kd.S_alloc | apply Kd.S_drewN | apply Kd.S_drew)); exact HO_6.out) hb)
       replace HL771_0 := Aside0.mk (Kd.R_below (uR HL771_0.out) hb)
       replace HL775_0 := Aside0.mk (Kd.R_below (uR HL775_0.out) hb)
       replace BK766 := Aside0.mk (blk_below (uK BK766.out) hb)
       replace HR771_0 := Aside0.mk (Kd.C_below (by repeat (first | (with_reducible exact HR771_0.out) | (with_reducible refine Kd.C_alloc ?_ _) | (with_reducible refine Kd.C_drewN ?_ _) | (with_reducible refine Kd.C_drew ?_) | exact HR771_0.out)) hb)
       replace HR775_0 := Aside0.mk (Kd.C_below (by repeat (first | (with_reducible exact HR775_0.out) | (with_reducible refine Kd.C_alloc ?_ _) | (with_reducible refine Kd.C_drewN ?_ _) | (with_reducible refine Kd.C_drew ?_) | exact HR775_0.out)) hb)
       replace HB := Aside0.mk (below_step uB hb)
       (try clear hb)
       (try clear hb2)
       (try clear hk)
       (try clear hi)
       refine hK.out _ _ ⟨(blk_cell BK766.out 0).trans rfl, (blk_cell BK766.out 1).trans rfl, (blk_cell BK766.out 2).trans rfl, (blk_cell BK766.out 3).trans rfl, HS4_, HS5_, HS6_⟩ (fun hHeld => ?_)
       clear hK K
       refine nm ?_
       refine pu 25 46 28 67108863 ?_
       refine pu 26 47 28 134217727 ?_
       refine pu 27 48 28 268435455 ?_
       refine done_ (done_of HT_.out (by kernel_rfl)) ?_
       try go_wp2
       go_roundg k1
       case measure => have := HK1.out; omega
       case rel => exact ⟨(x7_1), (wrap64 (x8_1 + 1)), u0, u0, H', ⟨by have := HK1.out; omega⟩, ⟨by (with_reducible repeat (first | apply Kd.S_alloc | apply Kd.S_drewN | apply Kd.S_drew)); exact HO_6.out⟩, ⟨uK BK766.out⟩, ⟨uB⟩⟩
    ·replace c10 := Bool.eq_false_iff.mpr c10
     subst c10
     have H1 : (quinariaref02_Pipes.l0 k1 l1 t767 x7_1 (wrap64 (x8_1 + 1)) a0_0 a0_1 l0_2 l0_3) = some (r1, r2) := by rw [if_neg (show ¬ (false = true) by decide)] at H; exact H
     clear H
     have H := H1
     clear H1
     have H' := Aside0.mk H
     clear H
     obtain ⟨Ao30, co30, eo30⟩ := Kd.S_slice HO_6.out
     subst eo30
     try go_wp2
     replace HO_6 := Aside0.mk (Kd.S_drew HO_6.out)
     replace BK766 := Aside0.mk (blk_drew BK766.out)
     replace HB := Aside0.mk (below_drew1 HB.out)
     have p771 : 0 ≤ (x8_1 : Int) := of_decide_eq_true (by first | (with_reducible assumption) | assumption)
     have q771 : x8_1 < (t767.length : Int) := of_decide_eq_true (by first | (with_reducible assumption) | assumption)
     obtain ⟨ad771, A771_0, c771_0, e771, hx771_0, hl771_0, hi771_0⟩ := at_L4 (Kd.S_reads' HO_6.out).2.2 x8_1 p771 q771
     cases e771
     obtain ⟨ce771, hce771, hMe771, hcc771⟩ := Kd.S_get HO_6.out [] x8_1 p771 (by first | exact q771 | exact of_decide_eq_true (by first | (with_reducible assumption) | assumption) | (have e_ := (Kd.S_reads' HO_6.out).1; omega))
     obtain ⟨ve771_0, rfl, ge771_0⟩ := hMe771
     have hv771_0 := hcc771 0 _ rfl
     rw [Nat.add_zero, show ((Kd.slice 3 (Kd.int .i64))).sz = 1 from rfl, Nat.mul_one] at hv771_0
     replace hv771_0 := Option.some.inj (hv771_0.symm.trans hx771_0)
     rw [hv771_0] at ge771_0
     have HL771_0 := Aside0.mk (show Kd.R (Kd.int .i64) 3 _ _ _ _ (rd_L4 t767 x8_1) from ge771_0)
     clear hv771_0 ge771_0
     clear hcc771 hce771
     have HR771_0 := Aside0.mk hi771_0
     have HC771_0 := Aside0.mk hl771_0
     clear hi771_0 hl771_0
     replace p771 := eq_true p771
     replace q771 := eq_true q771
     refine start_ (n := 28) (S := fun w' => w'.cell? ⟨gb766, 0, none⟩ = some (.int .i64 a0_0) ∧ w'.cell? ⟨gb766, 1, none⟩ = some (.int .i64 a0_1) ∧ w'.cell? ⟨gb766, 2, none⟩ = some (.slice A0_2 l0_2.length c0_2) ∧ w'.cell? ⟨gb766, 3, none⟩ = some (.slice A0_3 l0_3.length c0_3) ∧ w'.cell? (ad771.add (x8_1).toNat) = some (.slice A771_0 (rd_L4 t767 x8_1).length c771_0)) (ds := []) (bl 28 0) (by kernel_rfl) rfl rfl ⟨(blk_cell BK766.out 0).trans rfl, (blk_cell BK766.out 1).trans rfl, (blk_cell BK766.out 2).trans rfl, (blk_cell BK766.out 3).trans rfl, hx771_0⟩ (fun hHeld => ?_); refine with_tabW quinariaref02_Pipes.tab6 quinariaref02_Pipes.bits6 (fun HT_ HW_ => ?_)
     generalize wr.drew = w31 at HO_6 BK766 HB HL771_0 HR771_0 hx771_0 hHeld ⊢
     refine pu 1 22 28 2 ?_
     refine pu 2 23 28 6 ?_
     refine pu 3 24 28 14 ?_
     refine pu 4 25 28 30 ?_
     refine tk5 0 21 28 31 hHeld ?_
     refine tk5 5 26 28 63 hHeld ?_
     refine one_ (i := 6) (N := some 27) (bl 28 127) rfl rfl (one_of HT_.out (by kernel_rfl)) (by decide) (fun K hK => ?_)
     refine goes_ Tryz.func31 (by kernel_rfl) rfl #[.agg #[.int .i64 a0_0, .int .i64 a0_1, .slice A0_2 l0_2.length c0_2, .slice A0_3 l0_3.length c0_3], .slice A1 l1.length c1, .slice A771_0 (rd_L4 t767 x8_1).length c771_0] (by rfl) rfl rfl uM ?_
     with_reducible refine (quinariaref02_Suffices.calls k1 a0_0 a0_1 _ _ l0_2 _ _ l0_3 _ _ l1 _ _ (rd_L4 t767 x8_1) false _ ?side1 ?side2 ?side3 ?side4 ?side5 ?side6 ?side7 ?side8 A9.out).mono ?_
     (case side1 => repeat (first | exact (Kd.C_below HR0_2.out HB.out) | (with_reducible refine Kd.C_alloc ?_ _) | (with_reducible refine Kd.C_drewN ?_ _) | (with_reducible refine Kd.C_drew ?_)))
     (case side2 => exact HC0_2.out)
     (case side3 => repeat (first | exact (Kd.C_below HR0_3.out HB.out) | (with_reducible refine Kd.C_alloc ?_ _) | (with_reducible refine Kd.C_drewN ?_ _) | (with_reducible refine Kd.C_drew ?_)))
     (case side4 => exact HC0_3.out)
     (case side5 => repeat (first | exact (Kd.C_below HR1.out HB.out) | (with_reducible refine Kd.C_alloc ?_ _) | (with_reducible refine Kd.C_drewN ?_ _) | (with_reducible refine Kd.C_drew ?_)))
     (case side6 => exact HC1.out)
     (case side7 => repeat (first | exact (by repeat (first | (with_reducible exact HR771_0.out) | (with_reducible refine Kd.C_alloc ?_ _) | (with_reducible refine Kd.C_drewN ?_ _) | (with_reducible refine Kd.C_drew ?_) | exact HR771_0.out)) | (with_reducible refine Kd.C_alloc ?_ _) | (with_reducible refine Kd.C_drewN ?_ _) | (with_reducible refine Kd.C_drew ?_)))
     (case side8 => exact HC771_0.out)
     rintro e w32 ⟨rfl, hb⟩
     have HS4_ := (hb.cell (World.block_lt_of_cell? _ _ (hHeld.2.2.2.2))).trans (hHeld.2.2.2.2)
     refine ⟨_, rfl, ?_⟩
     replace HO_6 := Aside0.mk (Kd.S_below (by (with_reducible repeat (first | apply Kd.S_alloc | apply Kd.S_drewN | apply Kd.S_drew)); exact HO_6.out) hb)
     replace HL771_0 := Aside0.mk (Kd.R_below (uR HL771_0.out) hb)
     replace BK766 := Aside0.mk (blk_below (uK BK766.out) hb)
     replace HR771_0 := Aside0.mk (Kd.C_below (by repeat (first | (with_reducible exact HR771_0.out) | (with_reducible refine Kd.C_alloc ?_ _) | (with_reducible refine Kd.C_drewN ?_ _) | (with_reducible refine Kd.C_drew ?_) | exact HR771_0.out)) hb)
     replace HB := Aside0.mk (below_step uB hb)
     (try clear hb)
     (try clear hb2)
     (try clear hk)
     (try clear hi)
     refine hK.out _ _ ⟨(blk_cell BK766.out 0).trans rfl, (blk_cell BK766.out 1).trans rfl, (blk_cell BK766.out 2).trans rfl, (blk_cell BK766.out 3).trans rfl, HS4_⟩ (fun hHeld => ?_)
     clear hK K
     refine nm ?_
     refine pu 7 28 28 255 ?_
     refine pure_ (i := 8) (N := some 29) (v := undef) (a' := ?_) (bl 28 511) rfl rfl (any_of HT_.out (by kernel_rfl)) (fun _ _ _ h => h) (Or.inr ⟨by rfl, rfl⟩) ?_ ?_
     rotate_left
     ·simp only [Act.put, List.setIfInBounds_toArray, List.set_cons_zero, List.set_cons_succ, i64_w, i32_w]
      rfl
     refine pure_ (i := 9) (N := some 30) (v := undef) (a' := ?_) (bl 28 1023) rfl rfl (any_of HT_.out (by kernel_rfl)) (fun _ _ _ h => h) (Or.inr ⟨by rfl, rfl⟩) ?_ ?_
     rotate_left
     ·simp only [Act.put, List.setIfInBounds_toArray, List.set_cons_zero, List.set_cons_succ, i64_w, i32_w]
      rfl
     refine pure_ (i := 10) (N := some 31) (v := undef) (a' := ?_) (bl 28 2047) rfl rfl (any_of HT_.out (by kernel_rfl)) (fun _ _ _ h => h) (Or.inr ⟨by rfl, rfl⟩) ?_ ?_
     rotate_left
     ·simp only [Act.put, List.setIfInBounds_toArray, List.set_cons_zero, List.set_cons_succ, i64_w, i32_w]
      rfl
     refine pure_ (i := 11) (N := some 32) (v := undef) (a' := ?_) (bl 28 4095) rfl rfl (any_of HT_.out (by kernel_rfl)) (fun _ _ _ h => h) (Or.inr ⟨by rfl, rfl⟩) ?_ ?_
     rotate_left
     ·simp only [Act.put, List.setIfInBounds_toArray, List.set_cons_zero, List.set_cons_succ, i64_w, i32_w]
      rfl
     refine pure_ (i := 12) (N := some 33) (v := undef) (a' := ?_) (bl 28 8191) rfl rfl (any_of HT_.out (by kernel_rfl)) (fun _ _ _ h => h) (Or.inr ⟨by rfl, rfl⟩) ?_ ?_
     rotate_left
     ·simp only [Act.put, List.setIfInBounds_toArray, List.set_cons_zero, List.set_cons_succ, i64_w, i32_w]
      rfl
     refine pure_ (i := 13) (N := some 34) (v := undef) (a' := ?_) (bl 28 16383) rfl rfl (any_of HT_.out (by kernel_rfl)) (fun _ _ _ h => h) (Or.inr ⟨by rfl, rfl⟩) ?_ ?_
     rotate_left
     ·simp only [Act.put, List.setIfInBounds_toArray, List.set_cons_zero, List.set_cons_succ, i64_w, i32_w]
      rfl
     refine pure_ (i := 14) (N := some 35) (v := undef) (a' := ?_) (bl 28 32767) rfl rfl (any_of HT_.out (by kernel_rfl)) (fun _ _ _ h => h) (Or.inr ⟨by rfl, rfl⟩) ?_ ?_
     rotate_left
     ·simp only [Act.put, List.setIfInBounds_toArray, List.set_cons_zero, List.set_cons_succ, i64_w, i32_w]
      rfl
     refine pure_ (i := 15) (N := some 36) (v := undef) (a' := ?_) (bl 28 65535) rfl rfl (any_of HT_.out (by kernel_rfl)) (fun _ _ _ h => h) (Or.inr ⟨by rfl, rfl⟩) ?_ ?_
     rotate_left
     ·simp only [Act.put, List.setIfInBounds_toArray, List.set_cons_zero, List.set_cons_succ, i64_w, i32_w]
      rfl
     refine pure_ (i := 16) (N := some 37) (v := undef) (a' := ?_) (bl 28 131071) rfl rfl (any_of HT_.out (by kernel_rfl)) (fun _ _ _ h => h) (Or.inr ⟨by rfl, rfl⟩) ?_ ?_
     rotate_left
     ·simp only [Act.put, List.setIfInBounds_toArray, List.set_cons_zero, List.set_cons_succ, i64_w, i32_w]
      rfl
     refine pure_ (i := 17) (N := some 38) (v := undef) (a' := ?_) (bl 28 262143) rfl rfl (any_of HT_.out (by kernel_rfl)) (fun _ _ _ h => h) (Or.inr ⟨by rfl, rfl⟩) ?_ ?_
     rotate_left
     ·simp only [Act.put, List.setIfInBounds_toArray, List.set_cons_zero, List.set_cons_succ, i64_w, i32_w]
      rfl
     refine pure_ (i := 18) (N := some 39) (v := undef) (a' := ?_) (bl 28 524287) rfl rfl (any_of HT_.out (by kernel_rfl)) (fun _ _ _ h => h) (Or.inr ⟨by rfl, rfl⟩) ?_ ?_
     rotate_left
     ·simp only [Act.put, List.setIfInBounds_toArray, List.set_cons_zero, List.set_cons_succ, i64_w, i32_w]
      rfl
     refine pure_ (i := 19) (N := some 40) (v := undef) (a' := ?_) (bl 28 1048575) rfl rfl (any_of HT_.out (by kernel_rfl)) (fun _ _ _ h => h) (Or.inr ⟨by rfl, rfl⟩) ?_ ?_
     rotate_left
     ·simp only [Act.put, List.setIfInBounds_toArray, List.set_cons_zero, List.set_cons_succ, i64_w, i32_w]
      rfl
     refine pure_ (i := 20) (N := some 41) (v := undef) (a' := ?_) (bl 28 2097151) rfl rfl (any_of HT_.out (by kernel_rfl)) (fun _ _ _ h => h) (Or.inr ⟨by rfl, rfl⟩) ?_ ?_
     rotate_left
     ·simp only [Act.put, List.setIfInBounds_toArray, List.set_cons_zero, List.set_cons_succ, i64_w, i32_w]
      rfl
     refine pure_ (i := 21) (N := some 42) (v := undef) (a' := ?_) (bl 28 4194303) rfl rfl (any_of HT_.out (by kernel_rfl)) (fun _ _ _ h => h) (Or.inr ⟨by rfl, rfl⟩) ?_ ?_
     rotate_left
     ·simp only [Act.put, List.setIfInBounds_toArray, List.set_cons_zero, List.set_cons_succ, i64_w, i32_w]
      rfl
     refine pure_ (i := 22) (N := some 43) (v := undef) (a' := ?_) (bl 28 8388607) rfl rfl (any_of HT_.out (by kernel_rfl)) (fun _ _ _ h => h) (Or.inr ⟨by rfl, rfl⟩) ?_ ?_
     rotate_left
     ·simp only [Act.put, List.setIfInBounds_toArray, List.set_cons_zero, List.set_cons_succ, i64_w, i32_w]
      rfl
     refine pure_ (i := 23) (N := some 44) (v := undef) (a' := ?_) (bl 28 16777215) rfl rfl (any_of HT_.out (by kernel_rfl)) (fun _ _ _ h => h) (Or.inr ⟨by rfl, rfl⟩) ?_ ?_
     rotate_left
     ·simp only [Act.put, List.setIfInBounds_toArray, List.set_cons_zero, List.set_cons_succ, i64_w, i32_w]
      rfl
     refine pure_ (i := 24) (N := some 45) (v := undef) (a' := ?_) (bl 28 33554431) rfl rfl (any_of HT_.out (by kernel_rfl)) (fun _ _ _ h => h) (Or.inr ⟨by rfl, rfl⟩) ?_ ?_
     rotate_left
     ·simp only [Act.put, List.setIfInBounds_toArray, List.set_cons_zero, List.set_cons_succ, i64_w, i32_w]
      rfl
     refine pure_ (i := 25) (N := some 46) (v := undef) (a' := ?_) (bl 28 67108863) rfl rfl (any_of HT_.out (by kernel_rfl)) (fun _ _ _ h => h) (Or.inr ⟨by rfl, rfl⟩) ?_ ?_
     rotate_left
     ·simp only [Act.put, List.setIfInBounds_toArray, List.set_cons_zero, List.set_cons_succ, i64_w, i32_w]
      rfl
     refine pure_ (i := 26) (N := some 47) (v := undef) (a' := ?_) (bl 28 134217727) rfl rfl (any_of HT_.out (by kernel_rfl)) (fun _ _ _ h => h) (Or.inr ⟨by rfl, rfl⟩) ?_ ?_
     rotate_left
     ·simp only [Act.put, List.setIfInBounds_toArray, List.set_cons_zero, List.set_cons_succ, i64_w, i32_w]
      rfl
     refine pu 27 48 28 268435455 ?_
     refine done_ (done_of HT_.out (by kernel_rfl)) ?_
     try go_wp2
     go_roundg k1
     case measure => have := HK1.out; omega
     case rel => exact ⟨(x7_1), (wrap64 (x8_1 + 1)), u0, u0, H', ⟨by have := HK1.out; omega⟩, ⟨by (with_reducible repeat (first | apply Kd.S_alloc | apply Kd.S_drewN | apply Kd.S_drew)); exact HO_6.out⟩, ⟨uK BK766.out⟩, ⟨uB⟩⟩
   ·rw [if_neg c7] at H
    replace c7 := decide_eq_false c7
    by_cases c33 : x7_1 < 0
    ·rw [if_pos c33] at H
     replace c33 := decide_eq_true c33
     simp only [Option.some.injEq, Prod.mk.injEq] at H
     obtain ⟨rfl, rfl⟩ := H
     obtain ⟨Ao34, co34, eo34⟩ := Kd.S_slice HO_6.out
     subst eo34
     go_wp2
     go_ret2
     exact ⟨_, uE, uN, uB⟩
    ·rw [if_neg c33] at H
     replace c33 := decide_eq_false c33
     obtain ⟨c35, H⟩ := ifs H
     replace c35 := decide_eq_true c35
     obtain ⟨c36, H⟩ := ifs H
     replace c36 := decide_eq_true c36
     simp only [Option.some.injEq, Prod.mk.injEq] at H
     obtain ⟨rfl, rfl⟩ := H
     obtain ⟨Ao37, co37, eo37⟩ := Kd.S_slice HO_6.out
     subst eo37
     have p770 : 0 ≤ (x7_1 : Int) := of_decide_eq_true (by first | (with_reducible assumption) | assumption)
     have q770 : x7_1 < (t767.length : Int) := of_decide_eq_true (by first | (with_reducible assumption) | assumption)
     obtain ⟨ad770, A770_0, c770_0, e770, hx770_0, hl770_0, hi770_0⟩ := at_L4 (Kd.S_reads' HO_6.out).2.2 x7_1 p770 q770
     cases e770
     obtain ⟨ce770, hce770, hMe770, hcc770⟩ := Kd.S_get HO_6.out [] x7_1 p770 (by first | exact q770 | exact of_decide_eq_true (by first | (with_reducible assumption) | assumption) | (have e_ := (Kd.S_reads' HO_6.out).1; omega))
     obtain ⟨ve770_0, rfl, ge770_0⟩ := hMe770
     have hv770_0 := hcc770 0 _ rfl
     rw [Nat.add_zero, show ((Kd.slice 3 (Kd.int .i64))).sz = 1 from rfl, Nat.mul_one] at hv770_0
     replace hv770_0 := Option.some.inj (hv770_0.symm.trans hx770_0)
     rw [hv770_0] at ge770_0
     have HL770_0 := Aside0.mk (show Kd.R (Kd.int .i64) 3 _ _ _ _ (rd_L4 t767 x7_1) from ge770_0)
     clear hv770_0 ge770_0
     clear hcc770 hce770
     have HR770_0 := Aside0.mk hi770_0
     have HC770_0 := Aside0.mk hl770_0
     clear hi770_0 hl770_0
     replace p770 := eq_true p770
     replace q770 := eq_true q770
     go_wp2
     go_ret2
     exact ⟨_, uE, by refine uR ?_; exact Kd.R_mono HL770_0.out (fun _ hk => trivial), uB⟩
end Go.Proofs.YtdmdahafiiggiabGreatDoor.K
end
section
namespace Go.Proofs.YtdmdahafiiggiabGreatDoor.K
open Go.RowKit Go.Proofs.YtdmdahafiiggiabGreatDoorW.PrintWords Go.Proofs.YtdmdahafiiggiabGreatDoorW.PrintLast Go.Proofs.YtdmdahafiiggiabGreatDoorW.PrintMore
attribute [local go_sem] max2_int min2_int max_two min_two max_three min_three max_four min_four
def quinarialaw02_ChannelPipes.j0 : Nat → List (S53) → List Int → Int → Int → Bool → Int → Int → List (S23) → List Int → Option (Bool)
 | 0, _, _, _, _, _, _, _, _, _ => none
 | k + 1, x1, x5, x6, x7, x29, x778000, x778001, x778002, x778003 => if x29 = true then (if x7 = 2 then (if (x5.length : Int) = 0 then (if x6 = 0 then ((quinarialaw02_known.f k).bind fun t787 => (some t787)) else (some false)) else (some false)) else (some false)) else ((quinariaref02_Pipes.f k x778000 x778001 x778002 x778003 x1).bind fun bt788 => (if bt788.2 = true then (if x7 = 0 then ((quinariaref02_Same.f k x5 bt788.1).bind fun t792 => (if t792 = true then ((quinariaref02_Price.f k x778000 x778001 x778002 x778003 x1 bt788.1).bind fun t793 => (if x6 = t793 then ((quinarialaw02_known.f k).bind fun t794 => (some t794)) else (some false))) else (some false))) else (some false)) else (if x7 = 5 then (if (x5.length : Int) = 0 then (if x6 = 0 then ((quinarialaw02_known.f k).bind fun t795 => (some t795)) else (some false)) else (some false)) else (some false))))
def quinarialaw02_ChannelPipes.f (k : Nat) (a0_0 : Int) (a0_1 : Int) (l0_2 : List (S23)) (l0_3 : List Int) (l1 : List (S53)) : Option (Bool) := (quinarialaw02_slim.f a0_0 a0_1 l0_2 l0_3 l1).bind fun t778 => (if t778 = true then ((channel_Pipes.f a0_0 a0_1 l0_2 l0_3 l1).bind fun bt780 => ((quinariaref02_Siphon.f k a0_0 a0_1 l0_2 l0_3).bind fun t785 => (if t785 = true then ((quinariaref02_Classes.f k l1).bind fun t786 => (quinarialaw02_ChannelPipes.j0 k l1 bt780.1 bt780.2.1 bt780.2.2 (!t786) a0_0 a0_1 l0_2 l0_3)) else (quinarialaw02_ChannelPipes.j0 k l1 bt780.1 bt780.2.1 bt780.2.2 true a0_0 a0_1 l0_2 l0_3)))) else ((quinarialaw02_known.f k).bind fun t779 => (some t779)))
set_option maxHeartbeats 8000000 in
set_option maxRecDepth 100000 in
theorem quinarialaw02_ChannelPipes.calls (k : Nat) (a0_0 : Int) (a0_1 : Int) (A0_2 : Option Addr) (c0_2 : Nat) (l0_2 : List (S23)) (A0_3 : Option Addr) (c0_3 : Nat) (l0_3 : List Int) (A1 : Option Addr) (c1 : Nat) (l1 : List (S53)) (r : Bool) (w : World) (hr0_2 : Kd.C k23 w A0_2 l0_2.length l0_2) (hc0_2 : l0_2.length ≤ c0_2) (hr0_3 : Kd.C (Kd.int .i64) w A0_3 l0_3.length l0_3) (hc0_3 : l0_3.length ≤ c0_3) (hr1 : Kd.C k53 w A1 l1.length l1) (hc1 : l1.length ≤ c1) (hT : TabW w) (h : quinarialaw02_ChannelPipes.f k a0_0 a0_1 l0_2 l0_3 l1 = some r) :
  Calls Tryz.prog 7 #[.agg #[.int .i64 a0_0, .int .i64 a0_1, .slice A0_2 l0_2.length c0_2, .slice A0_3 l0_3.length c0_3], .slice A1 l1.length c1] w fun e w' => e = .returned (.bool r) ∧ Below w.heap.size w w' := by
 have HT := Aside0.mk hT
 clear hT
 have hu27 := Tryz.underlying27
 have HR0_2 := Aside0.mk hr0_2
 have HC0_2 := Aside0.mk hc0_2
 clear hr0_2 hc0_2
 have HR0_3 := Aside0.mk hr0_3
 have HC0_3 := Aside0.mk hc0_3
 clear hr0_3 hc0_3
 have HR1 := Aside0.mk hr1
 have HC1 := Aside0.mk hc1
 clear hr1 hc1
 have HB := Aside0.mk (Below.refl w.heap.size w)
 have H : ((quinarialaw02_slim.f a0_0 a0_1 l0_2 l0_3 l1).bind fun t778 => (if t778 = true then ((channel_Pipes.f a0_0 a0_1 l0_2 l0_3 l1).bind fun bt780 => ((quinariaref02_Siphon.f k a0_0 a0_1 l0_2 l0_3).bind fun t785 => (if t785 = true then ((quinariaref02_Classes.f k l1).bind fun t786 => (quinarialaw02_ChannelPipes.j0 k l1 bt780.1 bt780.2.1 bt780.2.2 (!t786) a0_0 a0_1 l0_2 l0_3)) else (quinarialaw02_ChannelPipes.j0 k l1 bt780.1 bt780.2.1 bt780.2.2 true a0_0 a0_1 l0_2 l0_3)))) else ((quinarialaw02_known.f k).bind fun t779 => (some t779)))) = some r := h
 clear h
 replace H := Option.bind_eq_some_iff.mp H
 obtain ⟨t778, A30, H⟩ := H
 replace H : (if t778 = true then ((channel_Pipes.f a0_0 a0_1 l0_2 l0_3 l1).bind fun bt780 => ((quinariaref02_Siphon.f k a0_0 a0_1 l0_2 l0_3).bind fun t785 => (if t785 = true then ((quinariaref02_Classes.f k l1).bind fun t786 => (quinarialaw02_ChannelPipes.j0 k l1 bt780.1 bt780.2.1 bt780.2.2 (!t786) a0_0 a0_1 l0_2 l0_3)) else (quinarialaw02_ChannelPipes.j0 k l1 bt780.1 bt780.2.1 bt780.2.2 true a0_0 a0_1 l0_2 l0_3)))) else ((quinarialaw02_known.f k).bind fun t779 => (some t779))) = some r := H
 have A3 := Aside0.mk A30
 clear A30
 by_cases c4 : t778 = true
 ·as_aux_lemma =>
   subst c4
   have H1 : ((channel_Pipes.f a0_0 a0_1 l0_2 l0_3 l1).bind fun bt780 => ((quinariaref02_Siphon.f k a0_0 a0_1 l0_2 l0_3).bind fun t785 => (if t785 = true then ((quinariaref02_Classes.f k l1).bind fun t786 => (quinarialaw02_ChannelPipes.j0 k l1 bt780.1 bt780.2.1 bt780.2.2 (!t786) a0_0 a0_1 l0_2 l0_3)) else (quinarialaw02_ChannelPipes.j0 k l1 bt780.1 bt780.2.1 bt780.2.2 true a0_0 a0_1 l0_2 l0_3)))) = some r := by rw [if_pos rfl] at H; exact H
   clear H
   have H := H1
   clear H1
   replace H := Option.bind_eq_some_iff.mp H
   obtain ⟨⟨t780, t783, t784⟩, A50, H⟩ := H
   replace H : ((quinariaref02_Siphon.f k a0_0 a0_1 l0_2 l0_3).bind fun t785 => (if t785 = true then ((quinariaref02_Classes.f k l1).bind fun t786 => (quinarialaw02_ChannelPipes.j0 k l1 t780 t783 t784 (!t786) a0_0 a0_1 l0_2 l0_3)) else (quinarialaw02_ChannelPipes.j0 k l1 t780 t783 t784 true a0_0 a0_1 l0_2 l0_3))) = some r := H
   have A5 := Aside0.mk A50
   clear A50
   have HC6 := Aside0.mk H
   clear H
   go_enter Tryz.func7, Tryz.ntmps7
   go_upto_region 4 with (first | ((with_reducible refine gate_dst (N := 2) rfl ?_); (try (refine gate_guard (by rfl) ?_; dsimp only)); refine bxe 2 #[.int .i64 a0_0, .int .i64 a0_1, .slice A0_2 l0_2.length c0_2, .slice A0_3 l0_3.length c0_3] 27 ?_; intro gb777 hg w7 hbox hb; have n0_ := Aside0.mk (below_step uB hb); have n1_ := Aside0.mk (hbox); have n2_ := gw hg; have n3_ := gw hg; clear HB; have HB := n0_; have BK777 := n1_; have GW777 := n2_; have GE777 := n3_; clear n0_ n1_ n2_ n3_; clear hb hbox hg; obtain ⟨hcz8_0, hcz8_1, hcz8_2, hcz8_3⟩ := cz4 BK777.out; obtain ⟨hfz8_0, hfz8_1, hfz8_2, hfz8_3⟩ := fz4 BK777.out) | ((with_reducible refine gate_callee (f := 13) rfl ?_); refine goesL_ (some 12) rfl rfl Tryz.func13 (by kernel_rfl) rfl #[.agg #[.int .i64 a0_0, .int .i64 a0_1, .slice A0_2 l0_2.length c0_2, .slice A0_3 l0_3.length c0_3], .slice A1 l1.length c1] rfl uM ?_; (with_reducible refine (quinarialaw02_slim.calls a0_0 a0_1 _ _ l0_2 _ _ l0_3 _ _ l1 true _ ?side1 ?side2 ?side3 ?side4 ?side5 ?side6 A3.out).mono ?_); (case side1 => repeat (first | exact (Kd.C_below HR0_2.out HB.out) | (with_reducible refine Kd.C_alloc ?_ _) | (with_reducible refine Kd.C_drewN ?_ _) | (with_reducible refine Kd.C_drew ?_))); (case side2 => exact HC0_2.out); (case side3 => repeat (first | exact (Kd.C_below HR0_3.out HB.out) | (with_reducible refine Kd.C_alloc ?_ _) | (with_reducible refine Kd.C_drewN ?_ _) | (with_reducible refine Kd.C_drew ?_))); (case side4 => exact HC0_3.out); (case side5 => repeat (first | exact (Kd.C_below HR1.out HB.out) | (with_reducible refine Kd.C_alloc ?_ _) | (with_reducible refine Kd.C_drewN ?_ _) | (with_reducible refine Kd.C_drew ?_))); (case side6 => exact HC1.out); rintro e w9 ⟨rfl, hb⟩; refine ⟨_, rfl, ?_⟩; replace BK777 := Aside0.mk (blk_below (uK BK777.out) hb); replace HB := Aside0.mk (below_step uB hb); (try clear hb); (try clear hb2); (try clear hk); (try clear hi); obtain ⟨hcz10_0, hcz10_1, hcz10_2, hcz10_3⟩ := cz4 BK777.out; obtain ⟨hfz10_0, hfz10_1, hfz10_2, hfz10_3⟩ := fz4 BK777.out) | ((with_reducible refine gate_callee (f := 28) rfl ?_); refine goesL_ (some 18) rfl rfl Tryz.func28 (by kernel_rfl) rfl #[.agg #[.int .i64 a0_0, .int .i64 a0_1, .slice A0_2 l0_2.length c0_2, .slice A0_3 l0_3.length c0_3], .slice A1 l1.length c1] rfl uM ?_; (with_reducible refine (channel_Pipes.calls a0_0 a0_1 _ _ l0_2 _ _ l0_3 _ _ l1 t780 t783 t784 _ ?side1 ?side2 ?side3 ?side4 ?side5 ?side6 A5.out).mono ?_); (case side1 => repeat (first | exact (Kd.C_below HR0_2.out HB.out) | (with_reducible refine Kd.C_alloc ?_ _) | (with_reducible refine Kd.C_drewN ?_ _) | (with_reducible refine Kd.C_drew ?_))); (case side2 => exact HC0_2.out); (case side3 => repeat (first | exact (Kd.C_below HR0_3.out HB.out) | (with_reducible refine Kd.C_alloc ?_ _) | (with_reducible refine Kd.C_drewN ?_ _) | (with_reducible refine Kd.C_drew ?_))); (case side4 => exact HC0_3.out); (case side5 => repeat (first | exact (Kd.C_below HR1.out HB.out) | (with_reducible refine Kd.C_alloc ?_ _) | (with_reducible refine Kd.C_drewN ?_ _) | (with_reducible refine Kd.C_drew ?_))); (case side6 => exact HC1.out); rintro e w11 ⟨v781, rfl, ho0, hb⟩; refine ⟨_, rfl, ?_⟩; have HO782 := Aside0.mk (Kd.R_lower ho0 (below_size uB)); replace BK777 := Aside0.mk (blk_below (uK BK777.out) hb); replace HB := Aside0.mk (below_step uB hb); (try clear hb); (try clear hb2); (try clear hk); (try clear hi); (try clear ho0)))
   (try simp only [Act.put, List.setIfInBounds_toArray, List.set_cons_zero, List.set_cons_succ])
   go_cut [29] (fun v29 wc => ∃ (kq : Nat) (x29_5 : Bool), v29 = .bool x29_5 ∧ Aside0 (quinarialaw02_ChannelPipes.j0 kq l1 t780 t783 t784 x29_5 a0_0 a0_1 l0_2 l0_3 = some r) ∧ Aside0 (kq ≤ k) ∧ Aside0 (Kd.R (Kd.int .i64) 3 wc w.heap.size (fun _ => True) v781 t780) ∧ Aside0 (wc.heap[gb777]? = some (.cells #[.int .i64 a0_0, .int .i64 a0_1, (.slice A0_2 l0_2.length c0_2), (.slice A0_3 l0_3.length c0_3)] 27 (0, 0))) ∧ Aside0 (Below w.heap.size w wc))
   case first =>
    as_aux_lemma =>
     have H := HC6.out
     clear HC6
     replace H := Option.bind_eq_some_iff.mp H
     obtain ⟨t785, A120, H⟩ := H
     replace H : (if t785 = true then ((quinariaref02_Classes.f k l1).bind fun t786 => (quinarialaw02_ChannelPipes.j0 k l1 t780 t783 t784 (!t786) a0_0 a0_1 l0_2 l0_3)) else (quinarialaw02_ChannelPipes.j0 k l1 t780 t783 t784 true a0_0 a0_1 l0_2 l0_3)) = some r := H
     have A12 := Aside0.mk A120
     clear A120
     by_cases c13 : t785 = true
     ·subst c13
      have H1 : ((quinariaref02_Classes.f k l1).bind fun t786 => (quinarialaw02_ChannelPipes.j0 k l1 t780 t783 t784 (!t786) a0_0 a0_1 l0_2 l0_3)) = some r := by rw [if_pos rfl] at H; exact H
      clear H
      have H := H1
      clear H1
      replace H := Option.bind_eq_some_iff.mp H
      obtain ⟨t786, A140, H⟩ := H
      replace H : (quinarialaw02_ChannelPipes.j0 k l1 t780 t783 t784 (!t786) a0_0 a0_1 l0_2 l0_3) = some r := H
      have A14 := Aside0.mk A140
      clear A140
      have H' := Aside0.mk H
      clear H
      obtain ⟨hcz15_0, hcz15_1, hcz15_2, hcz15_3⟩ := cz4 BK777.out
      obtain ⟨hfz15_0, hfz15_1, hfz15_2, hfz15_3⟩ := fz4 BK777.out
      go_wp2_with (first | ((with_reducible refine gate_callee (f := 17) rfl ?_); refine goesL_ (some 23) rfl rfl Tryz.func17 (by kernel_rfl) rfl #[.agg #[.int .i64 a0_0, .int .i64 a0_1, .slice A0_2 l0_2.length c0_2, .slice A0_3 l0_3.length c0_3]] rfl uM ?_; (with_reducible refine (quinariaref02_Siphon.calls k a0_0 a0_1 _ _ l0_2 _ _ l0_3 true _ ?side1 ?side2 ?side3 ?side4 A12.out).mono ?_); (case side1 => repeat (first | exact (Kd.C_below HR0_2.out HB.out) | (with_reducible refine Kd.C_alloc ?_ _) | (with_reducible refine Kd.C_drewN ?_ _) | (with_reducible refine Kd.C_drew ?_))); (case side2 => exact HC0_2.out); (case side3 => repeat (first | exact (Kd.C_below HR0_3.out HB.out) | (with_reducible refine Kd.C_alloc ?_ _) | (with_reducible refine Kd.C_drewN ?_ _) | (with_reducible refine Kd.C_drew ?_))); (case side4 => exact HC0_3.out); rintro e w16 ⟨rfl, hb⟩; refine ⟨_, rfl, ?_⟩; replace HO782 := Aside0.mk (Kd.R_below (uR HO782.out) hb); replace BK777 := Aside0.mk (blk_below (uK BK777.out) hb); replace HB := Aside0.mk (below_step uB hb); (try clear hb); (try clear hb2); (try clear hk); (try clear hi)) | (go_at_call 24; (with_reducible refine (quinariaref02_Classes.calls k _ _ l1 t786 _ ?side1 ?side2 A14.out).mono ?_); (case side1 => repeat (first | exact (Kd.C_below HR1.out HB.out) | (with_reducible refine Kd.C_alloc ?_ _) | (with_reducible refine Kd.C_drewN ?_ _) | (with_reducible refine Kd.C_drew ?_))); (case side2 => exact HC1.out); rintro e w' ⟨rfl, ⟨nd, rfl⟩⟩))
      go_meet
      case rel => exact ⟨_, (!t786), u0, H', ⟨u1⟩, ⟨uR HO782.out⟩, ⟨uK BK777.out⟩, ⟨uB⟩⟩
     ·replace c13 := Bool.eq_false_iff.mpr c13
      subst c13
      have H1 : (quinarialaw02_ChannelPipes.j0 k l1 t780 t783 t784 true a0_0 a0_1 l0_2 l0_3) = some r := by rw [if_neg (show ¬ (false = true) by decide)] at H; exact H
      clear H
      have H := H1
      clear H1
      have H' := Aside0.mk H
      clear H
      obtain ⟨hcz17_0, hcz17_1, hcz17_2, hcz17_3⟩ := cz4 BK777.out
      obtain ⟨hfz17_0, hfz17_1, hfz17_2, hfz17_3⟩ := fz4 BK777.out
      go_wp2_with (first | ((with_reducible refine gate_callee (f := 17) rfl ?_); refine goesL_ (some 23) rfl rfl Tryz.func17 (by kernel_rfl) rfl #[.agg #[.int .i64 a0_0, .int .i64 a0_1, .slice A0_2 l0_2.length c0_2, .slice A0_3 l0_3.length c0_3]] rfl uM ?_; (with_reducible refine (quinariaref02_Siphon.calls k a0_0 a0_1 _ _ l0_2 _ _ l0_3 false _ ?side1 ?side2 ?side3 ?side4 A12.out).mono ?_); (case side1 => repeat (first | exact (Kd.C_below HR0_2.out HB.out) | (with_reducible refine Kd.C_alloc ?_ _) | (with_reducible refine Kd.C_drewN ?_ _) | (with_reducible refine Kd.C_drew ?_))); (case side2 => exact HC0_2.out); (case side3 => repeat (first | exact (Kd.C_below HR0_3.out HB.out) | (with_reducible refine Kd.C_alloc ?_ _) | (with_reducible refine Kd.C_drewN ?_ _) | (with_reducible refine Kd.C_drew ?_))); (case side4 => exact HC0_3.out); rintro e w18 ⟨rfl, hb⟩; refine ⟨_, rfl, ?_⟩; replace HO782 := Aside0.mk (Kd.R_below (uR HO782.out) hb); replace BK777 := Aside0.mk (blk_below (uK BK777.out) hb); replace HB := Aside0.mk (below_step uB hb); (try clear hb); (try clear hb2); (try clear hk); (try clear hi)))
      go_meet
      case rel => exact ⟨_, (true), u0, H', ⟨u1⟩, ⟨uR HO782.out⟩, ⟨uK BK777.out⟩, ⟨uB⟩⟩
   case rest =>
    as_aux_lemma =>
     clear HC6; try clear c1; try clear c2; try clear p2; try clear c4; try clear c7; try clear c13; try clear c17; try clear hcz10_0; try clear hcz10_1; try clear hcz10_2; try clear hcz10_3; try clear hcz15_0; try clear hcz15_1; try clear hcz15_2; try clear hcz15_3; try clear hcz17_0; try clear hcz17_1; try clear hcz17_2; try clear hcz17_3; try clear hcz8_0; try clear hcz8_1; try clear hcz8_2; try clear hcz8_3; try clear hfz10_0; try clear hfz10_1; try clear hfz10_2; try clear hfz10_3; try clear hfz15_0; try clear hfz15_1; try clear hfz15_2; try clear hfz15_3; try clear hfz17_0; try clear hfz17_1; try clear hfz17_2; try clear hfz17_3; try clear hfz8_0; try clear hfz8_1; try clear hfz8_2; try clear hfz8_3
     obtain ⟨kq, x29_5, rfl, HA, HJ5, HO_5, BK777, HB⟩ := hcut
     cases kq with
     | zero => exact absurd HA.out (by simp [quinarialaw02_ChannelPipes.j0])
     | succ kj5 =>
      have H := HA.out
      clear HA
      simp only [quinarialaw02_ChannelPipes.j0] at H
      by_cases c19 : x29_5 = true
      ·subst c19
       have H1 : (if t784 = 2 then (if (t780.length : Int) = 0 then (if t783 = 0 then ((quinarialaw02_known.f kj5).bind fun t787 => (some t787)) else (some false)) else (some false)) else (some false)) = some r := by rw [if_pos rfl] at H; exact H
       clear H
       have H := H1
       clear H1
       by_cases c20 : t784 = 2
       ·rw [if_pos c20] at H
        have c20b0 : (t784 == 2) = true := beq_iff_eq.mpr c20
        have c20b1 : (t784 != 2) = false := bne_eq_false_iff_eq.mpr c20
        clear c20
        by_cases c21 : (t780.length : Int) = 0
        ·rw [if_pos c21] at H
         have c21b0 : ((t780.length : Int) == 0) = true := beq_iff_eq.mpr c21
         have c21b1 : ((t780.length : Int) != 0) = false := bne_eq_false_iff_eq.mpr c21
         clear c21
         by_cases c22 : t783 = 0
         ·rw [if_pos c22] at H
          have c22b0 : (t783 == 0) = true := beq_iff_eq.mpr c22
          have c22b1 : (t783 != 0) = false := bne_eq_false_iff_eq.mpr c22
          clear c22
          replace H := Option.bind_eq_some_iff.mp H
          obtain ⟨t787, A230, H⟩ := H
          replace H : (some t787) = some r := H
          have A23 := Aside0.mk A230
          clear A230
          obtain rfl := Option.some.inj H
          obtain ⟨Ao24, co24, eo24⟩ := Kd.R_slice HO_5.out
          subst eo24
          go_wp2_with (first | (go_at_call 14; (with_reducible refine (quinarialaw02_known.calls kj5  t787 _ ?sideT A23.out).mono ?_); (case sideT => exact HT.out.below uB); rintro e w25 ⟨rfl, hb⟩; replace HO_5 := Aside0.mk (Kd.R_below (uR HO_5.out) hb); replace BK777 := Aside0.mk (blk_below (uK BK777.out) hb); replace HB := Aside0.mk (below_step uB hb); (try clear hb); (try clear hb2); (try clear hk); (try clear hi)))
          go_ret
          exact ⟨uE, uB⟩
         ·rw [if_neg c22] at H
          have c22b0 : (t783 == 0) = false := beq_eq_false_iff_ne.mpr c22
          have c22b1 : (t783 != 0) = true := bne_iff_ne.mpr c22
          obtain rfl := Option.some.inj H
          obtain ⟨Ao26, co26, eo26⟩ := Kd.R_slice HO_5.out
          subst eo26
          go_wp2
          go_ret
          exact ⟨uE, uB⟩
        ·rw [if_neg c21] at H
         have c21b0 : ((t780.length : Int) == 0) = false := beq_eq_false_iff_ne.mpr c21
         have c21b1 : ((t780.length : Int) != 0) = true := bne_iff_ne.mpr c21
         have c21b2 : ¬ (t780 = []) := fun h_ => c21 (by rw [h_]; rfl)
         obtain rfl := Option.some.inj H
         obtain ⟨Ao27, co27, eo27⟩ := Kd.R_slice HO_5.out
         subst eo27
         go_wp2
         go_ret
         exact ⟨uE, uB⟩
       ·rw [if_neg c20] at H
        have c20b0 : (t784 == 2) = false := beq_eq_false_iff_ne.mpr c20
        have c20b1 : (t784 != 2) = true := bne_iff_ne.mpr c20
        obtain rfl := Option.some.inj H
        go_wp2
        go_ret
        exact ⟨uE, uB⟩
      ·replace c19 := Bool.eq_false_iff.mpr c19
       subst c19
       have H1 : ((quinariaref02_Pipes.f kj5 a0_0 a0_1 l0_2 l0_3 l1).bind fun bt788 => (if bt788.2 = true then (if t784 = 0 then ((quinariaref02_Same.f kj5 t780 bt788.1).bind fun t792 => (if t792 = true then ((quinariaref02_Price.f kj5 a0_0 a0_1 l0_2 l0_3 l1 bt788.1).bind fun t793 => (if t783 = t793 then ((quinarialaw02_known.f kj5).bind fun t794 => (some t794)) else (some false))) else (some false))) else (some false)) else (if t784 = 5 then (if (t780.length : Int) = 0 then (if t783 = 0 then ((quinarialaw02_known.f kj5).bind fun t795 => (some t795)) else (some false)) else (some false)) else (some false)))) = some r := by rw [if_neg (show ¬ (false = true) by decide)] at H; exact H
       clear H
       have H := H1
       clear H1
       replace H := Option.bind_eq_some_iff.mp H
       obtain ⟨⟨t788, t791⟩, A280, H⟩ := H
       replace H : (if t791 = true then (if t784 = 0 then ((quinariaref02_Same.f kj5 t780 t788).bind fun t792 => (if t792 = true then ((quinariaref02_Price.f kj5 a0_0 a0_1 l0_2 l0_3 l1 t788).bind fun t793 => (if t783 = t793 then ((quinarialaw02_known.f kj5).bind fun t794 => (some t794)) else (some false))) else (some false))) else (some false)) else (if t784 = 5 then (if (t780.length : Int) = 0 then (if t783 = 0 then ((quinarialaw02_known.f kj5).bind fun t795 => (some t795)) else (some false)) else (some false)) else (some false))) = some r := H
       have A28 := Aside0.mk A280
       clear A280
       by_cases c29 : t791 = true
       ·subst c29
        have H1 : (if t784 = 0 then ((quinariaref02_Same.f kj5 t780 t788).bind fun t792 => (if t792 = true then ((quinariaref02_Price.f kj5 a0_0 a0_1 l0_2 l0_3 l1 t788).bind fun t793 => (if t783 = t793 then ((quinarialaw02_known.f kj5).bind fun t794 => (some t794)) else (some false))) else (some false))) else (some false)) = some r := by rw [if_pos rfl] at H; exact H
        clear H
        have H := H1
        clear H1
        by_cases c30 : t784 = 0
        ·rw [if_pos c30] at H
         have c30b0 : (t784 == 0) = true := beq_iff_eq.mpr c30
         have c30b1 : (t784 != 0) = false := bne_eq_false_iff_eq.mpr c30
         clear c30
         replace H := Option.bind_eq_some_iff.mp H
         obtain ⟨t792, A310, H⟩ := H
         replace H : (if t792 = true then ((quinariaref02_Price.f kj5 a0_0 a0_1 l0_2 l0_3 l1 t788).bind fun t793 => (if t783 = t793 then ((quinarialaw02_known.f kj5).bind fun t794 => (some t794)) else (some false))) else (some false)) = some r := H
         have A31 := Aside0.mk A310
         clear A310
         by_cases c32 : t792 = true
         ·subst c32
          have H1 : ((quinariaref02_Price.f kj5 a0_0 a0_1 l0_2 l0_3 l1 t788).bind fun t793 => (if t783 = t793 then ((quinarialaw02_known.f kj5).bind fun t794 => (some t794)) else (some false))) = some r := by rw [if_pos rfl] at H; exact H
          clear H
          have H := H1
          clear H1
          replace H := Option.bind_eq_some_iff.mp H
          obtain ⟨t793, A330, H⟩ := H
          replace H : (if t783 = t793 then ((quinarialaw02_known.f kj5).bind fun t794 => (some t794)) else (some false)) = some r := H
          have A33 := Aside0.mk A330
          clear A330
          by_cases c34 : t783 = t793
          ·rw [if_pos c34] at H
           have c34b0 : (t783 == t793) = true := beq_iff_eq.mpr c34
           have c34b1 : (t783 != t793) = false := bne_eq_false_iff_eq.mpr c34
           clear c34
           replace H := Option.bind_eq_some_iff.mp H
           obtain ⟨t794, A350, H⟩ := H
           replace H : (some t794) = some r := H
           have A35 := Aside0.mk A350
           clear A350
           obtain rfl := Option.some.inj H
           obtain ⟨hcz36_0, hcz36_1, hcz36_2, hcz36_3⟩ := cz4 BK777.out
           obtain ⟨hfz36_0, hfz36_1, hfz36_2, hfz36_3⟩ := fz4 BK777.out
           go_wp2_with (first | ((with_reducible refine gate_callee (f := 29) rfl ?_); refine goesL_ (some 47) rfl rfl Tryz.func29 (by kernel_rfl) rfl #[.agg #[.int .i64 a0_0, .int .i64 a0_1, .slice A0_2 l0_2.length c0_2, .slice A0_3 l0_3.length c0_3], .slice A1 l1.length c1] rfl uM ?_; (with_reducible refine (quinariaref02_Pipes.calls kj5 a0_0 a0_1 _ _ l0_2 _ _ l0_3 _ _ l1 t788 true _ ?side1 ?side2 ?side3 ?side4 ?side5 ?side6 A28.out).mono ?_); (case side1 => repeat (first | exact (Kd.C_below HR0_2.out HB.out) | (with_reducible refine Kd.C_alloc ?_ _) | (with_reducible refine Kd.C_drewN ?_ _) | (with_reducible refine Kd.C_drew ?_))); (case side2 => exact HC0_2.out); (case side3 => repeat (first | exact (Kd.C_below HR0_3.out HB.out) | (with_reducible refine Kd.C_alloc ?_ _) | (with_reducible refine Kd.C_drewN ?_ _) | (with_reducible refine Kd.C_drew ?_))); (case side4 => exact HC0_3.out); (case side5 => repeat (first | exact (Kd.C_below HR1.out HB.out) | (with_reducible refine Kd.C_alloc ?_ _) | (with_reducible refine Kd.C_drewN ?_ _) | (with_reducible refine Kd.C_drew ?_))); (case side6 => exact HC1.out); rintro e w37 ⟨v789, rfl, ho0, hb⟩; refine ⟨_, rfl, ?_⟩; have n0_ := Aside0.mk (Kd.R_elder' (uR HO_5.out) (Kd.R_base ho0) hb); have n1_ := Aside0.mk (Kd.R_lower (Kd.R_new' ho0 (Kd.R_lt (uR HO_5.out))) (below_size uB)); have n2_ := Aside0.mk (blk_below (uK BK777.out) hb); have n3_ := Aside0.mk (below_step uB hb); clear HO_5; clear BK777; clear HB; have HO_5 := n0_; have HO790 := n1_; have BK777 := n2_; have HB := n3_; clear n0_ n1_ n2_ n3_; (try clear hb); (try clear hb2); (try clear hk); (try clear hi); (try clear ho0); obtain ⟨Ao38, co38, eo38⟩ := Kd.R_slice HO_5.out; subst eo38; obtain ⟨Ao39, co39, eo39⟩ := Kd.R_slice HO790.out; subst eo39) | (go_at_call 26; (with_reducible refine (quinariaref02_Same.calls kj5 _ _ t780 _ _ t788 true _ ?side1 ?side2 ?side3 ?side4 A31.out).mono ?_); (case side1 => repeat (first | exact (Kd.R_reads' HO_5.out).2.2 | (with_reducible refine Kd.C_alloc ?_ _) | (with_reducible refine Kd.C_drewN ?_ _) | (with_reducible refine Kd.C_drew ?_))); (case side2 => exact (Kd.R_reads' HO_5.out).2.1); (case side3 => repeat (first | exact (Kd.R_reads' HO790.out).2.2 | (with_reducible refine Kd.C_alloc ?_ _) | (with_reducible refine Kd.C_drewN ?_ _) | (with_reducible refine Kd.C_drew ?_))); (case side4 => exact (Kd.R_reads' HO790.out).2.1); rintro e w' ⟨rfl, ⟨nd, rfl⟩⟩; obtain ⟨hcz40_0, hcz40_1, hcz40_2, hcz40_3⟩ := cz4 BK777.out; obtain ⟨hfz40_0, hfz40_1, hfz40_2, hfz40_3⟩ := fz4 BK777.out) | (go_at_call 30; (with_reducible refine (quinariaref02_Price.calls kj5 a0_0 a0_1 _ _ l0_2 _ _ l0_3 _ _ l1 _ _ t788 t793 _ ?side1 ?side2 ?side3 ?side4 ?side5 ?side6 ?side7 ?side8 A33.out).mono ?_); (case side1 => repeat (first | exact (Kd.C_below HR0_2.out uB) | (with_reducible refine Kd.C_alloc ?_ _) | (with_reducible refine Kd.C_drewN ?_ _) | (with_reducible refine Kd.C_drew ?_))); (case side2 => exact HC0_2.out); (case side3 => repeat (first | exact (Kd.C_below HR0_3.out uB) | (with_reducible refine Kd.C_alloc ?_ _) | (with_reducible refine Kd.C_drewN ?_ _) | (with_reducible refine Kd.C_drew ?_))); (case side4 => exact HC0_3.out); (case side5 => repeat (first | exact (Kd.C_below HR1.out uB) | (with_reducible refine Kd.C_alloc ?_ _) | (with_reducible refine Kd.C_drewN ?_ _) | (with_reducible refine Kd.C_drew ?_))); (case side6 => exact HC1.out); (case side7 => repeat (first | exact (Kd.R_reads' HO790.out).2.2 | (with_reducible refine Kd.C_alloc ?_ _) | (with_reducible refine Kd.C_drewN ?_ _) | (with_reducible refine Kd.C_drew ?_))); (case side8 => exact (Kd.R_reads' HO790.out).2.1); rintro e w41 ⟨rfl, hb⟩; replace HO_5 := Aside0.mk (Kd.R_below (uR HO_5.out) hb); replace HO790 := Aside0.mk (Kd.R_below (uR HO790.out) hb); replace BK777 := Aside0.mk (blk_below (uK BK777.out) hb); replace HB := Aside0.mk (below_step uB hb); (try clear hb); (try clear hb2); (try clear hk); (try clear hi)) | (go_at_call 14; (with_reducible refine (quinarialaw02_known.calls kj5  t794 _ ?sideT A35.out).mono ?_); (case sideT => exact HT.out.below uB); rintro e w42 ⟨rfl, hb⟩; replace HO_5 := Aside0.mk (Kd.R_below (uR HO_5.out) hb); replace HO790 := Aside0.mk (Kd.R_below (uR HO790.out) hb); replace BK777 := Aside0.mk (blk_below (uK BK777.out) hb); replace HB := Aside0.mk (below_step uB hb); (try clear hb); (try clear hb2); (try clear hk); (try clear hi)))
           go_ret
           exact ⟨uE, uB⟩
          ·rw [if_neg c34] at H
           have c34b0 : (t783 == t793) = false := beq_eq_false_iff_ne.mpr c34
           have c34b1 : (t783 != t793) = true := bne_iff_ne.mpr c34
           obtain rfl := Option.some.inj H
           obtain ⟨hcz43_0, hcz43_1, hcz43_2, hcz43_3⟩ := cz4 BK777.out
           obtain ⟨hfz43_0, hfz43_1, hfz43_2, hfz43_3⟩ := fz4 BK777.out
           go_wp2_with (first | ((with_reducible refine gate_callee (f := 29) rfl ?_); refine goesL_ (some 47) rfl rfl Tryz.func29 (by kernel_rfl) rfl #[.agg #[.int .i64 a0_0, .int .i64 a0_1, .slice A0_2 l0_2.length c0_2, .slice A0_3 l0_3.length c0_3], .slice A1 l1.length c1] rfl uM ?_; (with_reducible refine (quinariaref02_Pipes.calls kj5 a0_0 a0_1 _ _ l0_2 _ _ l0_3 _ _ l1 t788 true _ ?side1 ?side2 ?side3 ?side4 ?side5 ?side6 A28.out).mono ?_); (case side1 => repeat (first | exact (Kd.C_below HR0_2.out HB.out) | (with_reducible refine Kd.C_alloc ?_ _) | (with_reducible refine Kd.C_drewN ?_ _) | (with_reducible refine Kd.C_drew ?_))); (case side2 => exact HC0_2.out); (case side3 => repeat (first | exact (Kd.C_below HR0_3.out HB.out) | (with_reducible refine Kd.C_alloc ?_ _) | (with_reducible refine Kd.C_drewN ?_ _) | (with_reducible refine Kd.C_drew ?_))); (case side4 => exact HC0_3.out); (case side5 => repeat (first | exact (Kd.C_below HR1.out HB.out) | (with_reducible refine Kd.C_alloc ?_ _) | (with_reducible refine Kd.C_drewN ?_ _) | (with_reducible refine Kd.C_drew ?_))); (case side6 => exact HC1.out); rintro e w44 ⟨v789, rfl, ho0, hb⟩; refine ⟨_, rfl, ?_⟩; have n0_ := Aside0.mk (Kd.R_elder' (uR HO_5.out) (Kd.R_base ho0) hb); have n1_ := Aside0.mk (Kd.R_lower (Kd.R_new' ho0 (Kd.R_lt (uR HO_5.out))) (below_size uB)); have n2_ := Aside0.mk (blk_below (uK BK777.out) hb); have n3_ := Aside0.mk (below_step uB hb); clear HO_5; clear BK777; clear HB; have HO_5 := n0_; have HO790 := n1_; have BK777 := n2_; have HB := n3_; clear n0_ n1_ n2_ n3_; (try clear hb); (try clear hb2); (try clear hk); (try clear hi); (try clear ho0); obtain ⟨Ao45, co45, eo45⟩ := Kd.R_slice HO_5.out; subst eo45; obtain ⟨Ao46, co46, eo46⟩ := Kd.R_slice HO790.out; subst eo46) | (go_at_call 26; (with_reducible refine (quinariaref02_Same.calls kj5 _ _ t780 _ _ t788 true _ ?side1 ?side2 ?side3 ?side4 A31.out).mono ?_); (case side1 => repeat (first | exact (Kd.R_reads' HO_5.out).2.2 | (with_reducible refine Kd.C_alloc ?_ _) | (with_reducible refine Kd.C_drewN ?_ _) | (with_reducible refine Kd.C_drew ?_))); (case side2 => exact (Kd.R_reads' HO_5.out).2.1); (case side3 => repeat (first | exact (Kd.R_reads' HO790.out).2.2 | (with_reducible refine Kd.C_alloc ?_ _) | (with_reducible refine Kd.C_drewN ?_ _) | (with_reducible refine Kd.C_drew ?_))); (case side4 => exact (Kd.R_reads' HO790.out).2.1); rintro e w' ⟨rfl, ⟨nd, rfl⟩⟩; obtain ⟨hcz47_0, hcz47_1, hcz47_2, hcz47_3⟩ := cz4 BK777.out; obtain ⟨hfz47_0, hfz47_1, hfz47_2, hfz47_3⟩ := fz4 BK777.out) | (go_at_call 30; (with_reducible refine (quinariaref02_Price.calls kj5 a0_0 a0_1 _ _ l0_2 _ _ l0_3 _ _ l1 _ _ t788 t793 _ ?side1 ?side2 ?side3 ?side4 ?side5 ?side6 ?side7 ?side8 A33.out).mono ?_); (case side1 => repeat (first | exact (Kd.C_below HR0_2.out uB) | (with_reducible refine Kd.C_alloc ?_ _) | (with_reducible refine Kd.C_drewN ?_ _) | (with_reducible refine Kd.C_drew ?_))); (case side2 => exact HC0_2.out); (case side3 => repeat (first | exact (Kd.C_below HR0_3.out uB) | (with_reducible refine Kd.C_alloc ?_ _) | (with_reducible refine Kd.C_drewN ?_ _) | (with_reducible refine Kd.C_drew ?_))); (case side4 => exact HC0_3.out); (case side5 => repeat (first | exact (Kd.C_below HR1.out uB) | (with_reducible refine Kd.C_alloc ?_ _) | (with_reducible refine Kd.C_drewN ?_ _) | (with_reducible refine Kd.C_drew ?_))); (case side6 => exact HC1.out); (case side7 => repeat (first | exact (Kd.R_reads' HO790.out).2.2 | (with_reducible refine Kd.C_alloc ?_ _) | (with_reducible refine Kd.C_drewN ?_ _) | (with_reducible refine Kd.C_drew ?_))); (case side8 => exact (Kd.R_reads' HO790.out).2.1); rintro e w48 ⟨rfl, hb⟩; replace HO_5 := Aside0.mk (Kd.R_below (uR HO_5.out) hb); replace HO790 := Aside0.mk (Kd.R_below (uR HO790.out) hb); replace BK777 := Aside0.mk (blk_below (uK BK777.out) hb); replace HB := Aside0.mk (below_step uB hb); (try clear hb); (try clear hb2); (try clear hk); (try clear hi)))
           go_ret
           exact ⟨uE, uB⟩
         ·replace c32 := Bool.eq_false_iff.mpr c32
          subst c32
          have H1 : (some false) = some r := by rw [if_neg (show ¬ (false = true) by decide)] at H; exact H
          clear H
          have H := H1
          clear H1
          obtain rfl := Option.some.inj H
          obtain ⟨hcz49_0, hcz49_1, hcz49_2, hcz49_3⟩ := cz4 BK777.out
          obtain ⟨hfz49_0, hfz49_1, hfz49_2, hfz49_3⟩ := fz4 BK777.out
          go_wp2_with (first | ((with_reducible refine gate_callee (f := 29) rfl ?_); refine goesL_ (some 47) rfl rfl Tryz.func29 (by kernel_rfl) rfl #[.agg #[.int .i64 a0_0, .int .i64 a0_1, .slice A0_2 l0_2.length c0_2, .slice A0_3 l0_3.length c0_3], .slice A1 l1.length c1] rfl uM ?_; (with_reducible refine (quinariaref02_Pipes.calls kj5 a0_0 a0_1 _ _ l0_2 _ _ l0_3 _ _ l1 t788 true _ ?side1 ?side2 ?side3 ?side4 ?side5 ?side6 A28.out).mono ?_); (case side1 => repeat (first | exact (Kd.C_below HR0_2.out HB.out) | (with_reducible refine Kd.C_alloc ?_ _) | (with_reducible refine Kd.C_drewN ?_ _) | (with_reducible refine Kd.C_drew ?_))); (case side2 => exact HC0_2.out); (case side3 => repeat (first | exact (Kd.C_below HR0_3.out HB.out) | (with_reducible refine Kd.C_alloc ?_ _) | (with_reducible refine Kd.C_drewN ?_ _) | (with_reducible refine Kd.C_drew ?_))); (case side4 => exact HC0_3.out); (case side5 => repeat (first | exact (Kd.C_below HR1.out HB.out) | (with_reducible refine Kd.C_alloc ?_ _) | (with_reducible refine Kd.C_drewN ?_ _) | (with_reducible refine Kd.C_drew ?_))); (case side6 => exact HC1.out); rintro e w50 ⟨v789, rfl, ho0, hb⟩; refine ⟨_, rfl, ?_⟩; have n0_ := Aside0.mk (Kd.R_elder' (uR HO_5.out) (Kd.R_base ho0) hb); have n1_ := Aside0.mk (Kd.R_lower (Kd.R_new' ho0 (Kd.R_lt (uR HO_5.out))) (below_size uB)); have n2_ := Aside0.mk (blk_below (uK BK777.out) hb); have n3_ := Aside0.mk (below_step uB hb); clear HO_5; clear BK777; clear HB; have HO_5 := n0_; have HO790 := n1_; have BK777 := n2_; have HB := n3_; clear n0_ n1_ n2_ n3_; (try clear hb); (try clear hb2); (try clear hk); (try clear hi); (try clear ho0); obtain ⟨Ao51, co51, eo51⟩ := Kd.R_slice HO_5.out; subst eo51; obtain ⟨Ao52, co52, eo52⟩ := Kd.R_slice HO790.out; subst eo52) | (go_at_call 26; (with_reducible refine (quinariaref02_Same.calls kj5 _ _ t780 _ _ t788 false _ ?side1 ?side2 ?side3 ?side4 A31.out).mono ?_); (case side1 => repeat (first | exact (Kd.R_reads' HO_5.out).2.2 | (with_reducible refine Kd.C_alloc ?_ _) | (with_reducible refine Kd.C_drewN ?_ _) | (with_reducible refine Kd.C_drew ?_))); (case side2 => exact (Kd.R_reads' HO_5.out).2.1); (case side3 => repeat (first | exact (Kd.R_reads' HO790.out).2.2 | (with_reducible refine Kd.C_alloc ?_ _) | (with_reducible refine Kd.C_drewN ?_ _) | (with_reducible refine Kd.C_drew ?_))); (case side4 => exact (Kd.R_reads' HO790.out).2.1); rintro e w' ⟨rfl, ⟨nd, rfl⟩⟩))
          go_ret
          exact ⟨uE, uB⟩
        ·rw [if_neg c30] at H
         have c30b0 : (t784 == 0) = false := beq_eq_false_iff_ne.mpr c30
         have c30b1 : (t784 != 0) = true := bne_iff_ne.mpr c30
         obtain rfl := Option.some.inj H
         obtain ⟨hcz53_0, hcz53_1, hcz53_2, hcz53_3⟩ := cz4 BK777.out
         obtain ⟨hfz53_0, hfz53_1, hfz53_2, hfz53_3⟩ := fz4 BK777.out
         go_wp2_with (first | ((with_reducible refine gate_callee (f := 29) rfl ?_); refine goesL_ (some 47) rfl rfl Tryz.func29 (by kernel_rfl) rfl #[.agg #[.int .i64 a0_0, .int .i64 a0_1, .slice A0_2 l0_2.length c0_2, .slice A0_3 l0_3.length c0_3], .slice A1 l1.length c1] rfl uM ?_; (with_reducible refine (quinariaref02_Pipes.calls kj5 a0_0 a0_1 _ _ l0_2 _ _ l0_3 _ _ l1 t788 true _ ?side1 ?side2 ?side3 ?side4 ?side5 ?side6 A28.out).mono ?_); (case side1 => repeat (first | exact (Kd.C_below HR0_2.out HB.out) | (with_reducible refine Kd.C_alloc ?_ _) | (with_reducible refine Kd.C_drewN ?_ _) | (with_reducible refine Kd.C_drew ?_))); (case side2 => exact HC0_2.out); (case side3 => repeat (first | exact (Kd.C_below HR0_3.out HB.out) | (with_reducible refine Kd.C_alloc ?_ _) | (with_reducible refine Kd.C_drewN ?_ _) | (with_reducible refine Kd.C_drew ?_))); (case side4 => exact HC0_3.out); (case side5 => repeat (first | exact (Kd.C_below HR1.out HB.out) | (with_reducible refine Kd.C_alloc ?_ _) | (with_reducible refine Kd.C_drewN ?_ _) | (with_reducible refine Kd.C_drew ?_))); (case side6 => exact HC1.out); rintro e w54 ⟨v789, rfl, ho0, hb⟩; refine ⟨_, rfl, ?_⟩; have n0_ := Aside0.mk (Kd.R_elder' (uR HO_5.out) (Kd.R_base ho0) hb); have n1_ := Aside0.mk (Kd.R_lower (Kd.R_new' ho0 (Kd.R_lt (uR HO_5.out))) (below_size uB)); have n2_ := Aside0.mk (blk_below (uK BK777.out) hb); have n3_ := Aside0.mk (below_step uB hb); clear HO_5; clear BK777; clear HB; have HO_5 := n0_; have HO790 := n1_; have BK777 := n2_; have HB := n3_; clear n0_ n1_ n2_ n3_; (try clear hb); (try clear hb2); (try clear hk); (try clear hi); (try clear ho0)))
         go_ret
         exact ⟨uE, uB⟩
       ·replace c29 := Bool.eq_false_iff.mpr c29
        subst c29
        have H1 : (if t784 = 5 then (if (t780.length : Int) = 0 then (if t783 = 0 then ((quinarialaw02_known.f kj5).bind fun t795 => (some t795)) else (some false)) else (some false)) else (some false)) = some r := by rw [if_neg (show ¬ (false = true) by decide)] at H; exact H
        clear H
        have H := H1
        clear H1
        by_cases c55 : t784 = 5
        ·rw [if_pos c55] at H
         have c55b0 : (t784 == 5) = true := beq_iff_eq.mpr c55
         have c55b1 : (t784 != 5) = false := bne_eq_false_iff_eq.mpr c55
         clear c55
         by_cases c56 : (t780.length : Int) = 0
         ·rw [if_pos c56] at H
          have c56b0 : ((t780.length : Int) == 0) = true := beq_iff_eq.mpr c56
          have c56b1 : ((t780.length : Int) != 0) = false := bne_eq_false_iff_eq.mpr c56
          clear c56
          by_cases c57 : t783 = 0
          ·rw [if_pos c57] at H
           have c57b0 : (t783 == 0) = true := beq_iff_eq.mpr c57
           have c57b1 : (t783 != 0) = false := bne_eq_false_iff_eq.mpr c57
           clear c57
           replace H := Option.bind_eq_some_iff.mp H
           obtain ⟨t795, A580, H⟩ := H
           replace H : (some t795) = some r := H
           have A58 := Aside0.mk A580
           clear A580
           obtain rfl := Option.some.inj H
           obtain ⟨hcz59_0, hcz59_1, hcz59_2, hcz59_3⟩ := cz4 BK777.out
           obtain ⟨hfz59_0, hfz59_1, hfz59_2, hfz59_3⟩ := fz4 BK777.out
           go_wp2_with (first | ((with_reducible refine gate_callee (f := 29) rfl ?_); refine goesL_ (some 47) rfl rfl Tryz.func29 (by kernel_rfl) rfl #[.agg #[.int .i64 a0_0, .int .i64 a0_1, .slice A0_2 l0_2.length c0_2, .slice A0_3 l0_3.length c0_3], .slice A1 l1.length c1] rfl uM ?_; (with_reducible refine (quinariaref02_Pipes.calls kj5 a0_0 a0_1 _ _ l0_2 _ _ l0_3 _ _ l1 t788 false _ ?side1 ?side2 ?side3 ?side4 ?side5 ?side6 A28.out).mono ?_); (case side1 => repeat (first | exact (Kd.C_below HR0_2.out HB.out) | (with_reducible refine Kd.C_alloc ?_ _) | (with_reducible refine Kd.C_drewN ?_ _) | (with_reducible refine Kd.C_drew ?_))); (case side2 => exact HC0_2.out); (case side3 => repeat (first | exact (Kd.C_below HR0_3.out HB.out) | (with_reducible refine Kd.C_alloc ?_ _) | (with_reducible refine Kd.C_drewN ?_ _) | (with_reducible refine Kd.C_drew ?_))); (case side4 => exact HC0_3.out); (case side5 => repeat (first | exact (Kd.C_below HR1.out HB.out) | (with_reducible refine Kd.C_alloc ?_ _) | (with_reducible refine Kd.C_drewN ?_ _) | (with_reducible refine Kd.C_drew ?_))); (case side6 => exact HC1.out); rintro e w60 ⟨v789, rfl, ho0, hb⟩; refine ⟨_, rfl, ?_⟩; have n0_ := Aside0.mk (Kd.R_elder' (uR HO_5.out) (Kd.R_base ho0) hb); have n1_ := Aside0.mk (Kd.R_lower (Kd.R_new' ho0 (Kd.R_lt (uR HO_5.out))) (below_size uB)); have n2_ := Aside0.mk (blk_below (uK BK777.out) hb); have n3_ := Aside0.mk (below_step uB hb); clear HO_5; clear BK777; clear HB; have HO_5 := n0_; have HO790 := n1_; have BK777 := n2_; have HB := n3_; clear n0_ n1_ n2_ n3_; (try clear hb); (try clear hb2); (try clear hk); (try clear hi); (try clear ho0); obtain ⟨Ao61, co61, eo61⟩ := Kd.R_slice HO_5.out; subst eo61) | (go_at_call 14; (with_reducible refine (quinarialaw02_known.calls kj5  t795 _ ?sideT A58.out).mono ?_); (case sideT => exact HT.out.below uB); rintro e w62 ⟨rfl, hb⟩; replace HO_5 := Aside0.mk (Kd.R_below (uR HO_5.out) hb); replace HO790 := Aside0.mk (Kd.R_below (uR HO790.out) hb); replace BK777 := Aside0.mk (blk_below (uK BK777.out) hb); replace HB := Aside0.mk (below_step uB hb); (try clear hb); (try clear hb2); (try clear hk); (try clear hi)))
           go_ret
           exact ⟨uE, uB⟩
          ·rw [if_neg c57] at H
           have c57b0 : (t783 == 0) = false := beq_eq_false_iff_ne.mpr c57
           have c57b1 : (t783 != 0) = true := bne_iff_ne.mpr c57
           obtain rfl := Option.some.inj H
           obtain ⟨hcz63_0, hcz63_1, hcz63_2, hcz63_3⟩ := cz4 BK777.out
           obtain ⟨hfz63_0, hfz63_1, hfz63_2, hfz63_3⟩ := fz4 BK777.out
           go_wp2_with (first | ((with_reducible refine gate_callee (f := 29) rfl ?_); refine goesL_ (some 47) rfl rfl Tryz.func29 (by kernel_rfl) rfl #[.agg #[.int .i64 a0_0, .int .i64 a0_1, .slice A0_2 l0_2.length c0_2, .slice A0_3 l0_3.length c0_3], .slice A1 l1.length c1] rfl uM ?_; (with_reducible refine (quinariaref02_Pipes.calls kj5 a0_0 a0_1 _ _ l0_2 _ _ l0_3 _ _ l1 t788 false _ ?side1 ?side2 ?side3 ?side4 ?side5 ?side6 A28.out).mono ?_); (case side1 => repeat (first | exact (Kd.C_below HR0_2.out HB.out) | (with_reducible refine Kd.C_alloc ?_ _) | (with_reducible refine Kd.C_drewN ?_ _) | (with_reducible refine Kd.C_drew ?_))); (case side2 => exact HC0_2.out); (case side3 => repeat (first | exact (Kd.C_below HR0_3.out HB.out) | (with_reducible refine Kd.C_alloc ?_ _) | (with_reducible refine Kd.C_drewN ?_ _) | (with_reducible refine Kd.C_drew ?_))); (case side4 => exact HC0_3.out); (case side5 => repeat (first | exact (Kd.C_below HR1.out HB.out) | (with_reducible refine Kd.C_alloc ?_ _) | (with_reducible refine Kd.C_drewN ?_ _) | (with_reducible refine Kd.C_drew ?_))); (case side6 => exact HC1.out); rintro e w64 ⟨v789, rfl, ho0, hb⟩; refine ⟨_, rfl, ?_⟩; have n0_ := Aside0.mk (Kd.R_elder' (uR HO_5.out) (Kd.R_base ho0) hb); have n1_ := Aside0.mk (Kd.R_lower (Kd.R_new' ho0 (Kd.R_lt (uR HO_5.out))) (below_size uB)); have n2_ := Aside0.mk (blk_below (uK BK777.out) hb); have n3_ := Aside0.mk (below_step uB hb); clear HO_5; clear BK777; clear HB; have HO_5 := n0_; have HO790 := n1_; have BK777 := n2_; have HB := n3_; clear n0_ n1_ n2_ n3_; (try clear hb); (try clear hb2); (try clear hk); (try clear hi); (try clear ho0); obtain ⟨Ao65, co65, eo65⟩ := Kd.R_slice HO_5.out; subst eo65))
           go_ret
           exact ⟨uE, uB⟩
         ·rw [if_neg c56] at H
          have c56b0 : ((t780.length : Int) == 0) = false := beq_eq_false_iff_ne.mpr c56
          have c56b1 : ((t780.length : Int) != 0) = true := bne_iff_ne.mpr c56
          have c56b2 : ¬ (t780 = []) := fun h_ => c56 (by rw [h_]; rfl)
          obtain rfl := Option.some.inj H
          obtain ⟨hcz66_0, hcz66_1, hcz66_2, hcz66_3⟩ := cz4 BK777.out
          obtain ⟨hfz66_0, hfz66_1, hfz66_2, hfz66_3⟩ := fz4 BK777.out
          go_wp2_with (first | ((with_reducible refine gate_callee (f := 29) rfl ?_); refine goesL_ (some 47) rfl rfl Tryz.func29 (by kernel_rfl) rfl #[.agg #[.int .i64 a0_0, .int .i64 a0_1, .slice A0_2 l0_2.length c0_2, .slice A0_3 l0_3.length c0_3], .slice A1 l1.length c1] rfl uM ?_; (with_reducible refine (quinariaref02_Pipes.calls kj5 a0_0 a0_1 _ _ l0_2 _ _ l0_3 _ _ l1 t788 false _ ?side1 ?side2 ?side3 ?side4 ?side5 ?side6 A28.out).mono ?_); (case side1 => repeat (first | exact (Kd.C_below HR0_2.out HB.out) | (with_reducible refine Kd.C_alloc ?_ _) | (with_reducible refine Kd.C_drewN ?_ _) | (with_reducible refine Kd.C_drew ?_))); (case side2 => exact HC0_2.out); (case side3 => repeat (first | exact (Kd.C_below HR0_3.out HB.out) | (with_reducible refine Kd.C_alloc ?_ _) | (with_reducible refine Kd.C_drewN ?_ _) | (with_reducible refine Kd.C_drew ?_))); (case side4 => exact HC0_3.out); (case side5 => repeat (first | exact (Kd.C_below HR1.out HB.out) | (with_reducible refine Kd.C_alloc ?_ _) | (with_reducible refine Kd.C_drewN ?_ _) | (with_reducible refine Kd.C_drew ?_))); (case side6 => exact HC1.out); rintro e w67 ⟨v789, rfl, ho0, hb⟩; refine ⟨_, rfl, ?_⟩; have n0_ := Aside0.mk (Kd.R_elder' (uR HO_5.out) (Kd.R_base ho0) hb); have n1_ := Aside0.mk (Kd.R_lower (Kd.R_new' ho0 (Kd.R_lt (uR HO_5.out))) (below_size uB)); have n2_ := Aside0.mk (blk_below (uK BK777.out) hb); have n3_ := Aside0.mk (below_step uB hb); clear HO_5; clear BK777; clear HB; have HO_5 := n0_; have HO790 := n1_; have BK777 := n2_; have HB := n3_; clear n0_ n1_ n2_ n3_; (try clear hb); (try clear hb2); (try clear hk); (try clear hi); (try clear ho0); obtain ⟨Ao68, co68, eo68⟩ := Kd.R_slice HO_5.out; subst eo68))
          go_ret
          exact ⟨uE, uB⟩
        ·rw [if_neg c55] at H
         have c55b0 : (t784 == 5) = false := beq_eq_false_iff_ne.mpr c55
         have c55b1 : (t784 != 5) = true := bne_iff_ne.mpr c55
         obtain rfl := Option.some.inj H
         obtain ⟨hcz69_0, hcz69_1, hcz69_2, hcz69_3⟩ := cz4 BK777.out
         obtain ⟨hfz69_0, hfz69_1, hfz69_2, hfz69_3⟩ := fz4 BK777.out
         go_wp2_with (first | ((with_reducible refine gate_callee (f := 29) rfl ?_); refine goesL_ (some 47) rfl rfl Tryz.func29 (by kernel_rfl) rfl #[.agg #[.int .i64 a0_0, .int .i64 a0_1, .slice A0_2 l0_2.length c0_2, .slice A0_3 l0_3.length c0_3], .slice A1 l1.length c1] rfl uM ?_; (with_reducible refine (quinariaref02_Pipes.calls kj5 a0_0 a0_1 _ _ l0_2 _ _ l0_3 _ _ l1 t788 false _ ?side1 ?side2 ?side3 ?side4 ?side5 ?side6 A28.out).mono ?_); (case side1 => repeat (first | exact (Kd.C_below HR0_2.out HB.out) | (with_reducible refine Kd.C_alloc ?_ _) | (with_reducible refine Kd.C_drewN ?_ _) | (with_reducible refine Kd.C_drew ?_))); (case side2 => exact HC0_2.out); (case side3 => repeat (first | exact (Kd.C_below HR0_3.out HB.out) | (with_reducible refine Kd.C_alloc ?_ _) | (with_reducible refine Kd.C_drewN ?_ _) | (with_reducible refine Kd.C_drew ?_))); (case side4 => exact HC0_3.out); (case side5 => repeat (first | exact (Kd.C_below HR1.out HB.out) | (with_reducible refine Kd.C_alloc ?_ _) | (with_reducible refine Kd.C_drewN ?_ _) | (with_reducible refine Kd.C_drew ?_))); (case side6 => exact HC1.out); rintro e w70 ⟨v789, rfl, ho0, hb⟩; refine ⟨_, rfl, ?_⟩; have n0_ := Aside0.mk (Kd.R_elder' (uR HO_5.out) (Kd.R_base ho0) hb); have n1_ := Aside0.mk (Kd.R_lower (Kd.R_new' ho0 (Kd.R_lt (uR HO_5.out))) (below_size uB)); have n2_ := Aside0.mk (blk_below (uK BK777.out) hb); have n3_ := Aside0.mk (below_step uB hb); clear HO_5; clear BK777; clear HB; have HO_5 := n0_; have HO790 := n1_; have BK777 := n2_; have HB := n3_; clear n0_ n1_ n2_ n3_; (try clear hb); (try clear hb2); (try clear hk); (try clear hi); (try clear ho0)))
         go_ret
         exact ⟨uE, uB⟩
 ·replace c4 := Bool.eq_false_iff.mpr c4
  subst c4
  have H1 : ((quinarialaw02_known.f k).bind fun t779 => (some t779)) = some r := by rw [if_neg (show ¬ (false = true) by decide)] at H; exact H
  clear H
  have H := H1
  clear H1
  replace H := Option.bind_eq_some_iff.mp H
  obtain ⟨t779, A710, H⟩ := H
  replace H : (some t779) = some r := H
  have A71 := Aside0.mk A710
  clear A710
  obtain rfl := Option.some.inj H
  go_enter Tryz.func7, Tryz.ntmps7
  go_wp2_with (first | ((with_reducible refine gate_dst (N := 2) rfl ?_); (try (refine gate_guard (by rfl) ?_; dsimp only)); refine bxe 2 #[.int .i64 a0_0, .int .i64 a0_1, .slice A0_2 l0_2.length c0_2, .slice A0_3 l0_3.length c0_3] 27 ?_; intro gb777 hg w72 hbox hb; have n0_ := Aside0.mk (below_step uB hb); have n1_ := Aside0.mk (hbox); have n2_ := gw hg; have n3_ := gw hg; clear HB; have HB := n0_; have BK777 := n1_; have GW777 := n2_; have GE777 := n3_; clear n0_ n1_ n2_ n3_; clear hb hbox hg; obtain ⟨hcz73_0, hcz73_1, hcz73_2, hcz73_3⟩ := cz4 BK777.out; obtain ⟨hfz73_0, hfz73_1, hfz73_2, hfz73_3⟩ := fz4 BK777.out) | ((with_reducible refine gate_callee (f := 13) rfl ?_); refine goesL_ (some 12) rfl rfl Tryz.func13 (by kernel_rfl) rfl #[.agg #[.int .i64 a0_0, .int .i64 a0_1, .slice A0_2 l0_2.length c0_2, .slice A0_3 l0_3.length c0_3], .slice A1 l1.length c1] rfl uM ?_; (with_reducible refine (quinarialaw02_slim.calls a0_0 a0_1 _ _ l0_2 _ _ l0_3 _ _ l1 false _ ?side1 ?side2 ?side3 ?side4 ?side5 ?side6 A3.out).mono ?_); (case side1 => repeat (first | exact (Kd.C_below HR0_2.out HB.out) | (with_reducible refine Kd.C_alloc ?_ _) | (with_reducible refine Kd.C_drewN ?_ _) | (with_reducible refine Kd.C_drew ?_))); (case side2 => exact HC0_2.out); (case side3 => repeat (first | exact (Kd.C_below HR0_3.out HB.out) | (with_reducible refine Kd.C_alloc ?_ _) | (with_reducible refine Kd.C_drewN ?_ _) | (with_reducible refine Kd.C_drew ?_))); (case side4 => exact HC0_3.out); (case side5 => repeat (first | exact (Kd.C_below HR1.out HB.out) | (with_reducible refine Kd.C_alloc ?_ _) | (with_reducible refine Kd.C_drewN ?_ _) | (with_reducible refine Kd.C_drew ?_))); (case side6 => exact HC1.out); rintro e w74 ⟨rfl, hb⟩; refine ⟨_, rfl, ?_⟩; replace BK777 := Aside0.mk (blk_below (uK BK777.out) hb); replace HB := Aside0.mk (below_step uB hb); (try clear hb); (try clear hb2); (try clear hk); (try clear hi)) | ((with_reducible refine gate_callee (f := 14) rfl ?_); refine goesL_ (some 14) rfl rfl Tryz.func14 (by kernel_rfl) rfl #[] rfl uM ?_; (with_reducible refine (quinarialaw02_known.calls k  t779 _ ?sideT A71.out).mono ?_); (case sideT => exact HT.out.below uB); rintro e w75 ⟨rfl, hb⟩; refine ⟨_, rfl, ?_⟩; replace BK777 := Aside0.mk (blk_below (uK BK777.out) hb); replace HB := Aside0.mk (below_step uB hb); (try clear hb); (try clear hb2); (try clear hk); (try clear hi)))
  go_ret
  exact ⟨uE, uB⟩
end Go.Proofs.YtdmdahafiiggiabGreatDoor.K
end
section
namespace Go.Proofs.YtdmdahafiiggiabGreatDoor.K
open Go.RowKit Go.Proofs.YtdmdahafiiggiabGreatDoorW.PrintWords Go.Proofs.YtdmdahafiiggiabGreatDoorW.PrintLast Go.Proofs.YtdmdahafiiggiabGreatDoorW.PrintMore
variable {a b : Int} {pts : List SPA} {lens : List Int} {cl : List CLA} {ch : List Int}
theorem tails_len (c : Nat) : ∀ m : Nat, (tails c m).length = c ^ m
  | 0 => rfl
  | m + 1 => by
    rw [tails, List.length_flatMap]
    simp only [List.length_map, tails_len c m]
    rw [List.map_const', List.sum_replicate_nat, List.length_range, Nat.pow_succ, Nat.mul_comm]
theorem tails_small {c m : Nat} (hc : c ≤ 4) (hm : m ≤ 9) : (tails c m).length ≤ 262144 := by
  rw [tails_len]
  have h1 : c ^ m ≤ 4 ^ m := Nat.pow_le_pow_left hc m
  have h2 : 4 ^ m ≤ 4 ^ 9 := Nat.pow_le_pow_right (by omega) hm
  have h3 : (4 : Nat) ^ 9 = 262144 := by decide
  omega
theorem rdL_at {l : List (List Int)} {j : Nat} (h : j < l.length) : rd_L4 l (j : Int) = l[j] := by
  unfold rd_L4
  rw [Int.toNat_natCast, List.getD, List.getElem?_eq_getElem h]
  rfl
theorem wr1 (j : Nat) (h : j ≤ 100000000) : wrap64 ((j : Int) + 1) = ((j + 1 : Nat) : Int) := by rw [IntWalk.wrap64_in _ (by omega)]; omega
theorem choices_l1 {l : List (List Int)} (hl : l.length ≤ 1000000) (hs : ∀ x ∈ l, x.length ≤ 100) {c : Int} {e : Nat} (he : e ≤ 100) : ∀ (d j K : Nat) (out : List (List Int)), j + d = l.length → out.length + d ≤ 10000000 → d < K → quinariaref02_choices.l1 K c l out (e : Int) (j : Int) = quinariaref02_choices.l0 (K - d - 1) c l (out ++ (l.drop j).map (fun r => (e : Int) :: r)) ((e + 1 : Nat) : Int) := by
  intro d
  induction d with
  | zero =>
    intro j K out hj ho hK
    obtain ⟨K, rfl⟩ : ∃ k, K = k + 1 := ⟨K - 1, by omega⟩
    rw [quinariaref02_choices.l1, if_neg (by omega), List.drop_eq_nil_of_le (by omega), List.map_nil, List.append_nil, wr1 e (by omega)]
    rfl
  | succ d ih =>
    intro j K out hj ho hK
    obtain ⟨K, rfl⟩ : ∃ k, K = k + 1 := ⟨K - 1, by omega⟩
    have hjl : j < l.length := by omega
    have hsj := hs l[j] (List.getElem_mem hjl)
    have ih := ih (j + 1) K (out ++ [(e : Int) :: l[j]]) (by omega) (by rw [List.length_append, List.length_singleton]; omega) (by omega)
    rw [show K + 1 - (d + 1) - 1 = K - d - 1 by omega, quinariaref02_choices.l1, if_pos (by omega), Option.bind_some, if_pos (by omega), rdL_at hjl, if_pos (by rw [List.length_singleton]; omega), if_pos (by omega), wr1 j (by omega), List.drop_eq_getElem_cons hjl, List.map_cons]
    rw [List.append_assoc] at ih
    exact ih
theorem choices_l0 {l : List (List Int)} (hl : l.length ≤ 1000000) (hs : ∀ x ∈ l, x.length ≤ 100) {c : Nat} (hc : c ≤ 4) : ∀ (d e K : Nat) (out : List (List Int)), e + d = c → out.length + d * l.length ≤ 10000000 → d * (l.length + 2) < K → quinariaref02_choices.l0 K (c : Int) l out (e : Int) = some (out ++ (List.range' e d).flatMap (fun (x : Nat) => l.map (fun r => (x : Int) :: r))) := by
  intro d
  induction d with
  | zero =>
    intro e K out he ho hK
    obtain ⟨K, rfl⟩ : ∃ k, K = k + 1 := ⟨K - 1, by omega⟩
    rw [quinariaref02_choices.l0, if_neg (by omega)]
    simp
  | succ d ih =>
    intro e K out he ho hK
    rw [Nat.succ_mul] at ho hK
    obtain ⟨K, rfl⟩ : ∃ k, K = k + 1 := ⟨K - 1, by omega⟩
    have h1 := choices_l1 hl hs (c := (c : Int)) (e := e) (by omega) l.length 0 K out (by omega) (by omega) (by omega)
    rw [show ((0 : Nat) : Int) = 0 from rfl, List.drop_zero] at h1
    rw [quinariaref02_choices.l0, if_pos (by omega), h1, ih (e + 1) (K - l.length - 1) _ (by omega) (by rw [List.length_append, List.length_map]; omega) (by omega), List.range'_succ, List.flatMap_cons, List.append_assoc]
theorem choicesR_f {c : Nat} (hc : c ≤ 4) : ∀ (m K : Nat), m ≤ 9 → 2000000 + m < K → quinariaref02_choices.f K (m : Int) (c : Int) = some (tails c m)
  | 0, K + 1, hm, hK => by
    rw [quinariaref02_choices.f, if_pos (by omega)]
    rfl
  | m + 1, K + 1, hm, hK => by
    have ih := choicesR_f hc m K (by omega) (by omega)
    have hl := tails_small hc (m := m) (by omega)
    have hb : c * (tails c m).length ≤ 4 * 262144 := Nat.mul_le_mul hc hl
    have hb2 : c * ((tails c m).length + 2) ≤ 4 * 262146 := Nat.mul_le_mul hc (by omega)
    have h0 := choices_l0 (l := tails c m) (by omega) (fun x hx => by have := ((mem_tails c m x).mp hx).1; omega) hc c 0 K [] (by omega) (by simp; omega) (by omega)
    rw [show ((0 : Nat) : Int) = 0 from rfl] at h0
    rw [quinariaref02_choices.f, if_neg (by omega), show wrap64 (((m + 1 : Nat) : Int) - 1) = (m : Int) by rw [IntWalk.wrap64_in _ (by omega)]; omega, ih, Option.bind_some, h0, List.nil_append, tails, List.range_eq_range']
theorem filtP_take (l : List (List Int)) {j : Nat} (h : j < l.length) : filtP a b pts lens cl (l.take (j + 1)) = filtP a b pts lens cl (l.take j) ++ (if suffB a b pts lens cl l[j] = true then [(l[j], priceN lens cl l[j] l[j].length)] else []) := by
  unfold filtP
  rw [List.take_succ_eq_append_getElem h, List.filter_append, List.map_append]
  by_cases e : suffB a b pts lens cl l[j] = true
  · rw [if_pos e]; simp [e]
  · rw [if_neg e]; simp [e]
def Found (a b : Int) (pts : List SPA) (lens : List Int) (cl : List CLA) (l : List (List Int)) (j : Nat) (at_ : Int) : Prop :=
  (at_ = -1 ∧ bestP (filtP a b pts lens cl (l.take j)) = none) ∨ ∃ p : Nat, at_ = (p : Int) ∧ p < j ∧ bestP (filtP a b pts lens cl (l.take j)) = some (rd_L4 l (p : Int), priceN lens cl (rd_L4 l (p : Int)) (rd_L4 l (p : Int)).length)
def outP (o : Option (List Int × Int)) : List Int × Bool := match o with
  | none => ([], false)
  | some y => (y.1, true)
theorem pipes_l0 (h : SiOk a b pts lens) (hk : ClOk cl) {l : List (List Int)} (hl : l.length ≤ 1000000) (hg : ∀ x ∈ l, x.length = lens.length ∧ ∀ k : Int, 0 ≤ k → k < x.length → 0 ≤ rd x k ∧ rd x k < cl.length) : ∀ (d j K : Nat) (at_ : Int), j + d = l.length → Found a b pts lens cl l j at_ → d + 300 < K → quinariaref02_Pipes.l0 K cl l at_ (j : Int) a b pts lens = some (outP (bestP (filtP a b pts lens cl l))) := by
  intro d
  induction d with
  | zero =>
    intro j K at_ hj hf hK
    obtain ⟨K, rfl⟩ : ∃ k, K = k + 1 := ⟨K - 1, by omega⟩
    rw [quinariaref02_Pipes.l0, if_neg (by omega)]
    unfold Found at hf
    rw [List.take_of_length_le (by omega)] at hf
    rcases hf with ⟨rfl, e⟩ | ⟨p, rfl, hp, e⟩
    · rw [if_pos (by omega), e]
      rfl
    · rw [if_neg (by omega), if_pos (by omega), if_pos (by omega), e]
      rfl
  | succ d ih =>
    intro j K at_ hj hf hK
    obtain ⟨K, rfl⟩ : ∃ k, K = k + 1 := ⟨K - 1, by omega⟩
    have hjl : j < l.length := by omega
    obtain ⟨g1, g2⟩ := hg l[j] (List.getElem_mem hjl)
    have ih := fun at' hf' => ih (j + 1) K at' (by omega) hf' (by omega)
    have hft := filtP_take (a := a) (b := b) (pts := pts) (lens := lens) (cl := cl) l hjl
    rw [quinariaref02_Pipes.l0, if_pos (by omega), if_pos (by omega), rdL_at hjl, suffR_f h hk g1 g2 K (by omega), Option.bind_some, wr1 j (by omega)]
    by_cases hs : suffB a b pts lens cl l[j] = true
    · rw [if_pos hs] at hft ⊢
      have hbj : bestP (filtP a b pts lens cl (l.take (j + 1))) = stepP (bestP (filtP a b pts lens cl (l.take j))) (l[j], priceN lens cl l[j] l[j].length) := by rw [hft, bestP_snoc]
      rcases hf with ⟨rfl, e⟩ | ⟨p, rfl, hp, e⟩
      · rw [if_pos (by omega)]
        refine ih _ (.inr ⟨j, rfl, by omega, ?_⟩)
        rw [hbj, e, rdL_at hjl]
        rfl
      · have hpl : p < l.length := by omega
        obtain ⟨q1, q2⟩ := hg l[p] (List.getElem_mem hpl)
        rw [rdL_at hpl] at e
        rw [if_neg (by omega), priceR_f h hk g1 g2 K (by omega), Option.bind_some, if_pos (by omega), if_pos (by omega), rdL_at hpl, priceR_f h hk q1 q2 K (by omega), Option.bind_some]
        by_cases hlt : priceN lens cl l[j] l[j].length < priceN lens cl l[p] l[p].length
        · rw [if_pos hlt]
          refine ih _ (.inr ⟨j, rfl, by omega, ?_⟩)
          rw [hbj, e, rdL_at hjl]
          simp only [stepP]
          rw [if_pos hlt]
        · rw [if_neg hlt]
          refine ih _ (.inr ⟨p, rfl, by omega, ?_⟩)
          rw [hbj, e, rdL_at hpl]
          simp only [stepP]
          rw [if_neg hlt]
    · rw [if_neg hs] at hft ⊢
      rw [List.append_nil] at hft
      refine ih _ ?_
      rcases hf with ⟨rfl, e⟩ | ⟨p, rfl, hp, e⟩
      · exact .inl ⟨rfl, by rw [hft, e]⟩
      · exact .inr ⟨p, rfl, by omega, by rw [hft, e]⟩
theorem pipesR_f (h : SiOk a b pts lens) (hk : ClOk cl) (K : Nat) (hK : 3000000 < K) : quinariaref02_Pipes.f K a b pts lens cl = some (outP (bestP (filtP a b pts lens cl (tails cl.length lens.length)))) := by
  have hn1 := h.n1
  have hln := h.ln
  have hk1 := hk.n1
  have hl := tails_small (c := cl.length) (m := lens.length) hk1 (by omega)
  unfold quinariaref02_Pipes.f
  rw [choicesR_f hk1 lens.length K (by omega) (by omega), Option.bind_some]
  exact pipes_l0 h hk (by omega) (fun x hx => by
    obtain ⟨h1, h2⟩ := tails_at hx
    exact ⟨h1, h2⟩) (tails cl.length lens.length).length 0 K (-1) (by omega) (.inl ⟨rfl, rfl⟩) (by omega)
theorem pipes_go (h1 : isSiphonB a b pts lens = true) (h2 : areClassesB cl = true) (K : Nat) (hK : 3000000 < K) : quinarialaw02_ChannelPipes.j0 (K + 1) cl (pipesF a b pts lens cl).1 (pipesF a b pts lens cl).2.1 (pipesF a b pts lens cl).2.2 false a b pts lens = some true := by
  have h := siphon_ok h1
  have hk := classes_ok h2
  have hln := h.ln
  have hn1 := h.n1
  rw [quinarialaw02_ChannelPipes.j0, if_neg (by simp), pipesR_f h hk K hK, Option.bind_some]
  have hp : pipesF a b pts lens cl = match bestP (filtP a b pts lens cl (tails cl.length lens.length)) with
    | none => ([], 0, 5)
    | some y => (y.1, y.2, 0) := by
    unfold pipesF
    exact if_pos ⟨h1, h2⟩
  rw [hp]
  cases e : bestP (filtP a b pts lens cl (tails cl.length lens.length)) with
  | none => rfl
  | some y =>
    have hm := bestQ_mem e
    unfold filtP at hm
    obtain ⟨z, hz, rfl⟩ := List.mem_map.mp hm
    obtain ⟨hz1, hz2⟩ := List.mem_filter.mp hz
    obtain ⟨z3, z4⟩ := tails_at hz1
    show (if (true : Bool) = true then (if (0 : Int) = 0 then ((quinariaref02_Same.f K z z).bind fun t792 => (if t792 = true then ((quinariaref02_Price.f K a b pts lens cl z).bind fun t793 => (if priceN lens cl z z.length = t793 then ((quinarialaw02_known.f K).bind fun t794 => (some t794)) else (some false))) else (some false))) else (some false)) else _) = _
    rw [if_pos rfl, if_pos rfl]
    rw [same_f z (by omega) K (by omega), Option.bind_some, if_pos rfl]
    rw [priceR_f h hk z3 z4 K (by omega), Option.bind_some, if_pos rfl]
    rfl
theorem ChannelPipes_pure (a b : Int) (pts : List SPA) (lens : List Int) (cl : List CLA) (K : Nat) (hK : 3000000 < K) : quinarialaw02_ChannelPipes.f (K + 1) a b pts lens cl = some true := by
  have hbad : ¬ (isSiphonB a b pts lens = true ∧ areClassesB cl = true) → quinarialaw02_ChannelPipes.j0 (K + 1) cl (pipesF a b pts lens cl).1 (pipesF a b pts lens cl).2.1 (pipesF a b pts lens cl).2.2 true a b pts lens = some true := fun hn => by
    have hp : pipesF a b pts lens cl = ([], 0, 2) := by unfold pipesF; exact if_neg hn
    rw [hp, quinarialaw02_ChannelPipes.j0, if_pos rfl]
    rfl
  unfold quinarialaw02_ChannelPipes.f
  rw [slim_f, Option.bind_some]
  cases h0 : slimB pts lens cl with
  | false => rw [if_neg (by simp)]; rfl
  | true =>
    have hl := slim_lens h0
    rw [if_pos rfl, pipesQ_f (by omega) (by omega) (by omega), Option.bind_some, siphonR_f (by omega) (by omega) _ (by omega), Option.bind_some]
    cases h1 : isSiphonB a b pts lens with
    | false => rw [if_neg (by simp)]; exact hbad (fun hh => by rw [h1] at hh; cases hh.1)
    | true =>
    rw [if_pos rfl, classesR_f (by omega) _ (by omega), Option.bind_some]
    cases h2 : areClassesB cl with
    | false => exact hbad (fun hh => by rw [h2] at hh; cases hh.2)
    | true => exact pipes_go h1 h2 K hK
theorem ChannelPipes_law (a b : Int) (A0 A1 : Option Addr) (c0 c1 : Nat) (pts : List SPA) (lens : List Int) (A2 : Option Addr) (c2 : Nat) (cl : List CLA) (w : World) (hT : TabW w) (h0 : At' k23 w A0 pts.length c0 pts) (h1 : At' (Kd.int .i64) w A1 lens.length c1 lens) (h2 : At' k53 w A2 cl.length c2 cl) :
    Calls Tryz.prog 7 #[.agg #[.int .i64 a, .int .i64 b, .slice A0 pts.length c0, .slice A1 lens.length c1], .slice A2 cl.length c2] w fun e w' => e = .returned (.bool true) ∧ Below w.heap.size w w' :=
  quinarialaw02_ChannelPipes.calls _ a b A0 c0 pts A1 c1 lens A2 c2 cl true w h0.c h0.le h1.c h1.le h2.c h2.le hT (ChannelPipes_pure a b pts lens cl 3000001 (by omega))
end Go.Proofs.YtdmdahafiiggiabGreatDoor.K
end
