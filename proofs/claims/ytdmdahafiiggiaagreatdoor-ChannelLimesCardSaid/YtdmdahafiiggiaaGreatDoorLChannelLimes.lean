/- ChannelLimes: the walk of the law, and what it comes to. -/
import Derived.Outline
import Derived.BigQuiet
import Derived.Test.YtdmdahafiiggiaaGreatDoorB5
set_option linter.unusedVariables false
set_option linter.unusedSimpArgs false
section
namespace Go.Proofs.YtdmdahafiiggiaaGreatDoor.K
open Go.RowKit Go.Proofs.YtdmdahafiiggiaaGreatDoorW.PrintWords Go.Proofs.YtdmdahafiiggiaaGreatDoorW.PrintLast Go.Proofs.YtdmdahafiiggiaaGreatDoorW.PrintMore
attribute [local go_sem] max2_int min2_int max_two min_two max_three min_three max_four min_four
set_option linter.unusedVariables false
set_option linter.unusedSimpArgs false
def quinariaref02_Note.f (a0_0 : Int) (a0_1 : Int) (a0_2 : Int) : Option (Bool) := (quinariaref02_Age.f a0_0).bind fun t954 => (if t954 = true then ((quinariaref02_between.f a0_1 a0_2 0 10000000).bind fun t955 => (some t955)) else (some false))
set_option maxHeartbeats 8000000 in
set_option maxRecDepth 100000 in
theorem quinariaref02_Note.calls (a0_0 : Int) (a0_1 : Int) (a0_2 : Int) (r : Bool) (w : World) (h : quinariaref02_Note.f a0_0 a0_1 a0_2 = some r) :
  Calls Tryz.prog 85 #[.agg #[.int .i64 a0_0, .int .i64 a0_1, .int .i64 a0_2]] w fun e w' => e = .returned (.bool r) ∧ Below w.heap.size w w' := by
 have hu68 := Tryz.underlying68
 have hu30 := Tryz.underlying30
 have HB := Aside0.mk (Below.refl w.heap.size w)
 have H : ((quinariaref02_Age.f a0_0).bind fun t954 => (if t954 = true then ((quinariaref02_between.f a0_1 a0_2 0 10000000).bind fun t955 => (some t955)) else (some false))) = some r := h
 clear h
 replace H := Option.bind_eq_some_iff.mp H
 obtain ⟨t954, A20, H⟩ := H
 replace H : (if t954 = true then ((quinariaref02_between.f a0_1 a0_2 0 10000000).bind fun t955 => (some t955)) else (some false)) = some r := H
 have A2 := Aside0.mk A20
 clear A20
 by_cases c3 : t954 = true
 ·subst c3
  have H1 : ((quinariaref02_between.f a0_1 a0_2 0 10000000).bind fun t955 => (some t955)) = some r := by rw [if_pos rfl] at H; exact H
  clear H
  have H := H1
  clear H1
  replace H := Option.bind_eq_some_iff.mp H
  obtain ⟨t955, A40, H⟩ := H
  replace H : (some t955) = some r := H
  have A4 := Aside0.mk A40
  clear A40
  obtain rfl := Option.some.inj H
  go_enter Tryz.func85, Tryz.ntmps85
  go_wp2_with (first | ((with_reducible refine gate_dst (N := 1) rfl ?_); refine bxe 1 #[.int .i64 a0_0, .int .i64 a0_1, .int .i64 a0_2] 68 ?_; intro gb953 hg w5 hbox hb; have n0_ := Aside0.mk (below_step uB hb); have n1_ := Aside0.mk (hbox); have n2_ := gw hg; have n3_ := gw hg; clear HB; have HB := n0_; have BK953 := n1_; have GW953 := n2_; have GE953 := n3_; clear n0_ n1_ n2_ n3_; clear hb hbox hg; obtain ⟨hcz6_0, hcz6_1, hcz6_2⟩ := cz3 BK953.out; obtain ⟨hfz6_0, hfz6_1, hfz6_2⟩ := fz3 BK953.out) | ((with_reducible refine gate_callee (f := 16) rfl ?_); refine goesL_ (some 5) rfl rfl Tryz.func16 (by kernel_rfl) rfl #[.int .i64 a0_0] rfl uM ?_; (with_reducible refine (quinariaref02_Age.calls a0_0 true _ A2.out).mono ?_); rintro e w' ⟨rfl, ⟨nd, rfl⟩⟩; refine ⟨_, rfl, ?_⟩) | (go_at_call 86; (with_reducible refine (quinariaref02_between.calls a0_1 a0_2 0 10000000 t955 _ A4.out).mono ?_); rintro e w7 ⟨rfl, hb⟩; replace BK953 := Aside0.mk (blk_below (uK BK953.out) hb); replace HB := Aside0.mk (below_step uB hb); (try clear hb); (try clear hb2); (try clear hk); (try clear hi)))
  go_ret
  exact ⟨uE, uB⟩
 ·replace c3 := Bool.eq_false_iff.mpr c3
  subst c3
  have H1 : (some false) = some r := by rw [if_neg (show ¬ (false = true) by decide)] at H; exact H
  clear H
  have H := H1
  clear H1
  obtain rfl := Option.some.inj H
  go_enter Tryz.func85, Tryz.ntmps85
  go_wp2_with (first | ((with_reducible refine gate_dst (N := 1) rfl ?_); refine bxe 1 #[.int .i64 a0_0, .int .i64 a0_1, .int .i64 a0_2] 68 ?_; intro gb953 hg w8 hbox hb; have n0_ := Aside0.mk (below_step uB hb); have n1_ := Aside0.mk (hbox); have n2_ := gw hg; have n3_ := gw hg; clear HB; have HB := n0_; have BK953 := n1_; have GW953 := n2_; have GE953 := n3_; clear n0_ n1_ n2_ n3_; clear hb hbox hg; obtain ⟨hcz9_0, hcz9_1, hcz9_2⟩ := cz3 BK953.out; obtain ⟨hfz9_0, hfz9_1, hfz9_2⟩ := fz3 BK953.out) | ((with_reducible refine gate_callee (f := 16) rfl ?_); refine goesL_ (some 5) rfl rfl Tryz.func16 (by kernel_rfl) rfl #[.int .i64 a0_0] rfl uM ?_; (with_reducible refine (quinariaref02_Age.calls a0_0 false _ A2.out).mono ?_); rintro e w' ⟨rfl, ⟨nd, rfl⟩⟩; refine ⟨_, rfl, ?_⟩))
  go_ret
  exact ⟨uE, uB⟩
end Go.Proofs.YtdmdahafiiggiaaGreatDoor.K
end
section
namespace Go.Proofs.YtdmdahafiiggiaaGreatDoor.K
open Go.RowKit Go.Proofs.YtdmdahafiiggiaaGreatDoorW.PrintWords Go.Proofs.YtdmdahafiiggiaaGreatDoorW.PrintLast Go.Proofs.YtdmdahafiiggiaaGreatDoorW.PrintMore
attribute [local go_sem] max2_int min2_int max_two min_two max_three min_three max_four min_four
set_option linter.unusedVariables false
set_option linter.unusedSimpArgs false
def quinariaref02_Notes.l0 : Nat → List (S68) → Int → Option (Bool)
 | 0, _, _ => none
 | k + 1, x0, x3 => if x3 < (x0.length : Int) then (if 0 ≤ x3 then ((quinariaref02_Note.f ((rd_T68 x0 x3).f0) ((rd_T68 x0 x3).f1.f0) ((rd_T68 x0 x3).f1.f1)).bind fun t957 => (if t957 = true then (quinariaref02_Notes.l0 k x0 (wrap64 (x3 + 1))) else (some false))) else (none)) else (some (decide ((x0.length : Int) ≤ 8)))
def quinariaref02_Notes.f (k : Nat) (l0 : List (S68)) : Option (Bool) := quinariaref02_Notes.l0 k l0 0
set_option maxHeartbeats 8000000 in
set_option maxRecDepth 100000 in
theorem quinariaref02_Notes.calls (k : Nat) (A0 : Option Addr) (c0 : Nat) (l0 : List (S68)) (r : Bool) (w : World) (hr0 : Kd.C k68 w A0 l0.length l0) (hc0 : l0.length ≤ c0) (h : quinariaref02_Notes.f k l0 = some r) :
  Calls Tryz.prog 39 #[.slice A0 l0.length c0] w fun e w' => e = .returned (.bool r) ∧ Below w.heap.size w w' := by
 have hu68 := Tryz.underlying68
 have HR0 := Aside0.mk hr0
 have HC0 := Aside0.mk hc0
 clear hr0 hc0
 have HB := Aside0.mk (Below.refl w.heap.size w)
 have H : (quinariaref02_Notes.l0 k l0 0) = some r := h
 clear h
 have H' := Aside0.mk H
 clear H
 go_enter Tryz.func39, Tryz.ntmps39
 go_wp2
 go_loopg [3] k (fun kq v3 w' => ∃ (x3_1 : Int), v3 = .int .i64 x3_1 ∧ Aside0 (quinariaref02_Notes.l0 kq l0 x3_1 = some r) ∧ Aside0 (kq ≤ k) ∧ Aside0 (Below w.heap.size w w'))
 case atStart => exact ⟨(0), u0, H', ⟨Nat.le_refl _⟩, ⟨uB⟩⟩
 case round =>
  clear H'
  obtain ⟨x3_1, rfl, HA, HK1, HB⟩ := hrel
  cases gk with
  | zero => exact absurd HA.out (by simp [quinariaref02_Notes.l0])
  | succ k1 =>
   have H := HA.out
   clear HA
   simp only [quinariaref02_Notes.l0] at H
   by_cases c2 : x3_1 < (l0.length : Int)
   ·rw [if_pos c2] at H
    replace c2 := decide_eq_true c2
    obtain ⟨c3, H⟩ := ifs H
    replace c3 := decide_eq_true c3
    replace H := Option.bind_eq_some_iff.mp H
    obtain ⟨t957, A40, H⟩ := H
    replace H : (if t957 = true then (quinariaref02_Notes.l0 k1 l0 (wrap64 (x3_1 + 1))) else (some false)) = some r := H
    have A4 := Aside0.mk A40
    clear A40
    by_cases c5 : t957 = true
    ·subst c5
     have H1 : (quinariaref02_Notes.l0 k1 l0 (wrap64 (x3_1 + 1))) = some r := by rw [if_pos rfl] at H; exact H
     clear H
     have H := H1
     clear H1
     have H' := Aside0.mk H
     clear H
     have p956 : 0 ≤ (x3_1 : Int) := of_decide_eq_true (by first | (with_reducible assumption) | assumption)
     have q956 : x3_1 < (l0.length : Int) := of_decide_eq_true (by first | (with_reducible assumption) | assumption)
     obtain ⟨ad956, e956, hx956_0, hx956_1, hx956_2⟩ := at_T68 HR0.out x3_1 p956 q956
     cases e956
     replace hx956_0 := hcell HB.out hx956_0
     replace hx956_1 := hcell HB.out hx956_1
     replace hx956_2 := hcell HB.out hx956_2
     replace p956 := eq_true p956
     replace q956 := eq_true q956
     go_wp2_with (first | ((with_reducible refine gate_callee (f := 85) rfl ?_); refine goesL_ (some 14) rfl rfl Tryz.func85 (by kernel_rfl) rfl #[.agg #[.int .i64 ((rd_T68 l0 x3_1).f0), .int .i64 ((rd_T68 l0 x3_1).f1.f0), .int .i64 ((rd_T68 l0 x3_1).f1.f1)]] rfl uM ?_; (with_reducible refine (quinariaref02_Note.calls ((rd_T68 l0 x3_1).f0) ((rd_T68 l0 x3_1).f1.f0) ((rd_T68 l0 x3_1).f1.f1) true _ A4.out).mono ?_); rintro e w6 ⟨rfl, hb⟩; refine ⟨_, rfl, ?_⟩; replace HB := Aside0.mk (below_step uB hb); (try clear hb); (try clear hb2); (try clear hk); (try clear hi)))
     go_roundg k1
     case measure => have := HK1.out; omega
     case rel => exact ⟨(wrap64 (x3_1 + 1)), u0, H', ⟨by have := HK1.out; omega⟩, ⟨uB⟩⟩
    ·replace c5 := Bool.eq_false_iff.mpr c5
     subst c5
     have H1 : (some false) = some r := by rw [if_neg (show ¬ (false = true) by decide)] at H; exact H
     clear H
     have H := H1
     clear H1
     obtain rfl := Option.some.inj H
     have p956 : 0 ≤ (x3_1 : Int) := of_decide_eq_true (by first | (with_reducible assumption) | assumption)
     have q956 : x3_1 < (l0.length : Int) := of_decide_eq_true (by first | (with_reducible assumption) | assumption)
     obtain ⟨ad956, e956, hx956_0, hx956_1, hx956_2⟩ := at_T68 HR0.out x3_1 p956 q956
     cases e956
     replace hx956_0 := hcell HB.out hx956_0
     replace hx956_1 := hcell HB.out hx956_1
     replace hx956_2 := hcell HB.out hx956_2
     replace p956 := eq_true p956
     replace q956 := eq_true q956
     go_wp2_with (first | ((with_reducible refine gate_callee (f := 85) rfl ?_); refine goesL_ (some 14) rfl rfl Tryz.func85 (by kernel_rfl) rfl #[.agg #[.int .i64 ((rd_T68 l0 x3_1).f0), .int .i64 ((rd_T68 l0 x3_1).f1.f0), .int .i64 ((rd_T68 l0 x3_1).f1.f1)]] rfl uM ?_; (with_reducible refine (quinariaref02_Note.calls ((rd_T68 l0 x3_1).f0) ((rd_T68 l0 x3_1).f1.f0) ((rd_T68 l0 x3_1).f1.f1) false _ A4.out).mono ?_); rintro e w7 ⟨rfl, hb⟩; refine ⟨_, rfl, ?_⟩; replace HB := Aside0.mk (below_step uB hb); (try clear hb); (try clear hb2); (try clear hk); (try clear hi)))
     go_ret
     exact ⟨uE, uB⟩
   ·rw [if_neg c2] at H
    replace c2 := decide_eq_false c2
    obtain rfl := Option.some.inj H
    go_wp2
    go_ret
    exact ⟨uE, uB⟩
end Go.Proofs.YtdmdahafiiggiaaGreatDoor.K
end
section
namespace Go.Proofs.YtdmdahafiiggiaaGreatDoor.K
open Go.RowKit Go.Proofs.YtdmdahafiiggiaaGreatDoorW.PrintWords Go.Proofs.YtdmdahafiiggiaaGreatDoorW.PrintLast Go.Proofs.YtdmdahafiiggiaaGreatDoorW.PrintMore
attribute [local go_sem] max2_int min2_int max_two min_two max_three min_three max_four min_four
set_option linter.unusedVariables false
set_option linter.unusedSimpArgs false
def quinariaref02_Agrees.l0 : Nat → Int → List (S68) → Int → Int → List Int → List (S32) → Option (Bool)
 | 0, _, _, _, _, _, _ => none
 | k + 1, x1, x2, x3, x9, x959000, x959001 => if x9 < (x2.length : Int) then (if 0 ≤ x9 then ((quinariaref02_Cups.f x959000 x959001 x1 ((rd_T68 x2 x9).f0) x3).bind fun t960 => ((quinariaref02_in.f t960 ((rd_T68 x2 x9).f1.f0) ((rd_T68 x2 x9).f1.f1)).bind fun t963 => (if t963 = true then (quinariaref02_Agrees.l0 k x1 x2 x3 (wrap64 (x9 + 1)) x959000 x959001) else (some false)))) else (none)) else (some true)
def quinariaref02_Agrees.f (k : Nat) (l0_0 : List Int) (l0_1 : List (S32)) (a1 : Int) (l2 : List (S68)) (a3 : Int) : Option (Bool) := quinariaref02_Agrees.l0 k a1 l2 a3 0 l0_0 l0_1
def quinariaref02_Agrees.T4 : Bool × List (List Nat × List Nat) := (true, [([], []), ([], []), ([], []), ([], []), ([2, 3], [2, 3]), ([4], [4]), ([5], [5]), ([], []), ([0, 1, 6, 7], [0, 1, 6, 7]), ([], []), ([], []), ([9, 10], [9, 10]), ([11], [11]), ([12], [12]), ([13], [13]), ([], []), ([], []), ([15, 16], [15, 16]), ([17], [17]), ([18], [18]), ([19], [19]), ([8, 14, 20, 8], [8, 14, 20]), ([21], [21])])
def quinariaref02_Agrees.B4 : List Nat := [0, 0, 0, 0, 12, 28, 60, 0, 255, 0, 0, 1536, 3584, 7680, 15872, 0, 0, 98304, 229376, 491520, 1015808, 2097151, 4194303]
theorem quinariaref02_Agrees.tab4 : rtab .any (opsOf Tryz.f41 4) = quinariaref02_Agrees.T4 := by kernel_rfl
theorem quinariaref02_Agrees.bits4 : waitsOk quinariaref02_Agrees.T4.2 quinariaref02_Agrees.B4 = true := by kernel_rfl
set_option maxHeartbeats 8000000 in
set_option maxRecDepth 100000 in
theorem quinariaref02_Agrees.calls (k : Nat) (A0_0 : Option Addr) (c0_0 : Nat) (l0_0 : List Int) (A0_1 : Option Addr) (c0_1 : Nat) (l0_1 : List (S32)) (a1 : Int) (A2 : Option Addr) (c2 : Nat) (l2 : List (S68)) (a3 : Int) (r : Bool) (w : World) (hr0_0 : Kd.C (Kd.int .i64) w A0_0 l0_0.length l0_0) (hc0_0 : l0_0.length ≤ c0_0) (hr0_1 : Kd.C k32 w A0_1 l0_1.length l0_1) (hc0_1 : l0_1.length ≤ c0_1) (hr2 : Kd.C k68 w A2 l2.length l2) (hc2 : l2.length ≤ c2) (h : quinariaref02_Agrees.f k l0_0 l0_1 a1 l2 a3 = some r) :
  Calls Tryz.prog 41 #[.agg #[.slice A0_0 l0_0.length c0_0, .slice A0_1 l0_1.length c0_1], .int .i64 a1, .slice A2 l2.length c2, .int .i64 a3] w fun e w' => e = .returned (.bool r) ∧ Below w.heap.size w w' := by
 have hu25 := Tryz.underlying25
 have HR0_0 := Aside0.mk hr0_0
 have HC0_0 := Aside0.mk hc0_0
 clear hr0_0 hc0_0
 have HR0_1 := Aside0.mk hr0_1
 have HC0_1 := Aside0.mk hc0_1
 clear hr0_1 hc0_1
 have HR2 := Aside0.mk hr2
 have HC2 := Aside0.mk hc2
 clear hr2 hc2
 have HB := Aside0.mk (Below.refl w.heap.size w)
 have H : (quinariaref02_Agrees.l0 k a1 l2 a3 0 l0_0 l0_1) = some r := h
 clear h
 have H' := Aside0.mk H
 clear H
 go_enter Tryz.func41, Tryz.ntmps41
 go_wp2_with (first | ((with_reducible refine gate_dst (N := 4) rfl ?_); refine bxe 4 #[.slice A0_0 l0_0.length c0_0, .slice A0_1 l0_1.length c0_1] 25 ?_; intro gb958 hg w5 hbox hb; have GW958 := gw hg; have GE958 := GW958; have BK958 := Aside0.mk (hbox); replace HB := Aside0.mk (below_step HB.out hb); clear hb hbox hg))
 go_loopg [9] k (fun kq v9 w' => ∃ (x9_1 : Int), v9 = .int .i64 x9_1 ∧ Aside0 (quinariaref02_Agrees.l0 kq a1 l2 a3 x9_1 l0_0 l0_1 = some r) ∧ Aside0 (kq ≤ k) ∧ Aside0 (w'.heap[gb958]? = some (.cells #[(.slice A0_0 l0_0.length c0_0), (.slice A0_1 l0_1.length c0_1)] 25 (0, 0))) ∧ Aside0 (Below w.heap.size w w'))
 case atStart => exact ⟨(0), u0, H', ⟨Nat.le_refl _⟩, ⟨uK BK958.out⟩, ⟨uB⟩⟩
 case round =>
  clear H'
  try clear c2; try clear p2; try clear c4
  obtain ⟨x9_1, rfl, HA, HK1, BK958, HB⟩ := hrel
  cases gk with
  | zero => exact absurd HA.out (by simp [quinariaref02_Agrees.l0])
  | succ k1 =>
   have H := HA.out
   clear HA
   simp only [quinariaref02_Agrees.l0] at H
   by_cases c6 : x9_1 < (l2.length : Int)
   ·rw [if_pos c6] at H
    replace c6 := decide_eq_true c6
    obtain ⟨c7, H⟩ := ifs H
    replace c7 := decide_eq_true c7
    replace H := Option.bind_eq_some_iff.mp H
    obtain ⟨t960, A80, H⟩ := H
    replace H : ((quinariaref02_in.f t960 ((rd_T68 l2 x9_1).f1.f0) ((rd_T68 l2 x9_1).f1.f1)).bind fun t963 => (if t963 = true then (quinariaref02_Agrees.l0 k1 a1 l2 a3 (wrap64 (x9_1 + 1)) l0_0 l0_1) else (some false))) = some r := H
    have A8 := Aside0.mk A80
    clear A80
    replace H := Option.bind_eq_some_iff.mp H
    obtain ⟨t963, A90, H⟩ := H
    replace H : (if t963 = true then (quinariaref02_Agrees.l0 k1 a1 l2 a3 (wrap64 (x9_1 + 1)) l0_0 l0_1) else (some false)) = some r := H
    have A9 := Aside0.mk A90
    clear A90
    by_cases c10 : t963 = true
    ·subst c10
     have H1 : (quinariaref02_Agrees.l0 k1 a1 l2 a3 (wrap64 (x9_1 + 1)) l0_0 l0_1) = some r := by rw [if_pos rfl] at H; exact H
     clear H
     have H := H1
     clear H1
     have H' := Aside0.mk H
     clear H
     try go_wp2
     replace BK958 := Aside0.mk (blk_drew BK958.out)
     replace HB := Aside0.mk (below_drew1 HB.out)
     have p959 : 0 ≤ (x9_1 : Int) := of_decide_eq_true (by assumption)
     have q959 : x9_1 < (l2.length : Int) := of_decide_eq_true (by assumption)
     obtain ⟨ad959, e959, hx959_0, hx959_1, hx959_2⟩ := at_T68 HR2.out x9_1 p959 q959
     have hw959_2 := hx959_2
     have hw959_1 := hx959_1
     have hw959_0 := hx959_0
     cases e959
     replace hx959_0 := (HB.out.cell (World.block_lt_of_cell? w _ hx959_0)).trans hx959_0
     replace hx959_1 := (HB.out.cell (World.block_lt_of_cell? w _ hx959_1)).trans hx959_1
     replace hx959_2 := (HB.out.cell (World.block_lt_of_cell? w _ hx959_2)).trans hx959_2
     replace p959 := eq_true p959
     replace q959 := eq_true q959
     have p961 : 0 ≤ (x9_1 : Int) := of_decide_eq_true (by assumption)
     have q961 : x9_1 < (l2.length : Int) := of_decide_eq_true (by assumption)
     obtain ⟨ad961, e961, hx961_0, hx961_1, hx961_2⟩ := at_T68 HR2.out x9_1 p961 q961
     have hw961_2 := hx961_2
     have hw961_1 := hx961_1
     have hw961_0 := hx961_0
     obtain rfl : ad959 = ad961 := (by injection e961)
     replace hx961_0 := (HB.out.cell (World.block_lt_of_cell? w _ hx961_0)).trans hx961_0
     replace hx961_1 := (HB.out.cell (World.block_lt_of_cell? w _ hx961_1)).trans hx961_1
     replace hx961_2 := (HB.out.cell (World.block_lt_of_cell? w _ hx961_2)).trans hx961_2
     replace p961 := eq_true p961
     replace q961 := eq_true q961
     have p962 : 0 ≤ (x9_1 : Int) := of_decide_eq_true (by assumption)
     have q962 : x9_1 < (l2.length : Int) := of_decide_eq_true (by assumption)
     obtain ⟨ad962, e962, hx962_0, hx962_1, hx962_2⟩ := at_T68 HR2.out x9_1 p962 q962
     have hw962_2 := hx962_2
     have hw962_1 := hx962_1
     have hw962_0 := hx962_0
     obtain rfl : ad959 = ad962 := (by injection e962)
     replace hx962_0 := (HB.out.cell (World.block_lt_of_cell? w _ hx962_0)).trans hx962_0
     replace hx962_1 := (HB.out.cell (World.block_lt_of_cell? w _ hx962_1)).trans hx962_1
     replace hx962_2 := (HB.out.cell (World.block_lt_of_cell? w _ hx962_2)).trans hx962_2
     replace p962 := eq_true p962
     replace q962 := eq_true q962
     refine start_ (n := 23) (S := fun w' => w'.cell? ⟨gb958, 0, none⟩ = some (.slice A0_0 l0_0.length c0_0) ∧ w'.cell? ⟨gb958, 1, none⟩ = some (.slice A0_1 l0_1.length c0_1) ∧ w'.cell? (ad959.add ((x9_1).toNat * 3)) = some (.int .i64 ((rd_T68 l2 x9_1).f0)) ∧ w'.cell? ⟨(ad959.add ((x9_1).toNat * 3)).block, (ad959.add ((x9_1).toNat * 3)).off + 1, none⟩ = some (.int .i64 ((rd_T68 l2 x9_1).f1.f0)) ∧ w'.cell? ⟨(ad959.add ((x9_1).toNat * 3)).block, (ad959.add ((x9_1).toNat * 3)).off + 2, none⟩ = some (.int .i64 ((rd_T68 l2 x9_1).f1.f1)) ∧ w'.cell? (ad959.add ((x9_1).toNat * 3)) = some (.int .i64 ((rd_T68 l2 x9_1).f0)) ∧ w'.cell? ⟨(ad959.add ((x9_1).toNat * 3)).block, (ad959.add ((x9_1).toNat * 3)).off + 1, none⟩ = some (.int .i64 ((rd_T68 l2 x9_1).f1.f0)) ∧ w'.cell? ⟨(ad959.add ((x9_1).toNat * 3)).block, (ad959.add ((x9_1).toNat * 3)).off + 2, none⟩ = some (.int .i64 ((rd_T68 l2 x9_1).f1.f1)) ∧ w'.cell? (ad959.add ((x9_1).toNat * 3)) = some (.int .i64 ((rd_T68 l2 x9_1).f0)) ∧ w'.cell? ⟨(ad959.add ((x9_1).toNat * 3)).block, (ad959.add ((x9_1).toNat * 3)).off + 1, none⟩ = some (.int .i64 ((rd_T68 l2 x9_1).f1.f0)) ∧ w'.cell? ⟨(ad959.add ((x9_1).toNat * 3)).block, (ad959.add ((x9_1).toNat * 3)).off + 2, none⟩ = some (.int .i64 ((rd_T68 l2 x9_1).f1.f1))) (ds := []) (bl 23 0) (by kernel_rfl) rfl rfl ⟨(blk_cell BK958.out 0).trans rfl, (blk_cell BK958.out 1).trans rfl, ((HB.out.cell (World.block_lt_of_cell? w _ hw959_0)).trans hw959_0), ((HB.out.cell (World.block_lt_of_cell? w _ hw959_1)).trans hw959_1), ((HB.out.cell (World.block_lt_of_cell? w _ hw959_2)).trans hw959_2), ((HB.out.cell (World.block_lt_of_cell? w _ hw961_0)).trans hw961_0), ((HB.out.cell (World.block_lt_of_cell? w _ hw961_1)).trans hw961_1), ((HB.out.cell (World.block_lt_of_cell? w _ hw961_2)).trans hw961_2), ((HB.out.cell (World.block_lt_of_cell? w _ hw962_0)).trans hw962_0), ((HB.out.cell (World.block_lt_of_cell? w _ hw962_1)).trans hw962_1), ((HB.out.cell (World.block_lt_of_cell? w _ hw962_2)).trans hw962_2)⟩ (fun hHeld => ?_); refine with_tabW quinariaref02_Agrees.tab4 quinariaref02_Agrees.bits4 (fun HT_ HW_ => ?_)
     generalize wr.drew = w11 at BK958 HB hx959_0 hx959_1 hx959_2 hx961_0 hx961_1 hx961_2 hx962_0 hx962_1 hx962_2 hHeld ⊢
     refine pu 1 17 23 2 ?_
     refine pu 2 18 23 6 ?_
     refine pu 3 19 23 14 ?_
     refine pu 4 20 23 30 ?_
     refine pu 5 21 23 62 ?_
     refine pu 7 23 23 190 ?_
     refine pu 9 25 23 702 ?_
     refine pu 10 26 23 1726 ?_
     refine pu 11 27 23 3774 ?_
     refine pu 12 28 23 7870 ?_
     refine pu 13 29 23 16062 ?_
     refine pu 15 31 23 48830 ?_
     refine pu 16 32 23 114366 ?_
     refine pu 17 33 23 245438 ?_
     refine pu 18 34 23 507582 ?_
     refine pu 19 35 23 1031870 ?_
     refine tk11 0 16 23 1031871 hHeld ?_
     refine tk11 6 22 23 1031935 hHeld ?_
     refine tk11 14 30 23 1048319 hHeld ?_
     refine tk11 20 36 23 2096895 hHeld ?_
     refine one_ (i := 8) (N := some 24) (bl 23 2097151) rfl rfl (one_of HT_.out (by kernel_rfl)) (by decide) (fun K hK => ?_)
     refine goes_ Tryz.func19 (by kernel_rfl) rfl #[.agg #[.slice A0_0 l0_0.length c0_0, .slice A0_1 l0_1.length c0_1], .int .i64 a1, .int .i64 ((rd_T68 l2 x9_1).f0), .int .i64 a3] (by rfl) rfl rfl uM ?_
     with_reducible refine (quinariaref02_Cups.calls _ _ l0_0 _ _ l0_1 a1 ((rd_T68 l2 x9_1).f0) a3 t960 _ ?side1 ?side2 ?side3 ?side4 A8.out).mono ?_
     (case side1 => exact Kd.C_below HR0_0.out HB.out)
     (case side2 => exact HC0_0.out)
     (case side3 => exact Kd.C_below HR0_1.out HB.out)
     (case side4 => exact HC0_1.out)
     rintro e w12 ⟨rfl, hb⟩
     refine ⟨_, rfl, ?_⟩
     replace BK958 := Aside0.mk (blk_below BK958.out hb)
     replace HB := Aside0.mk (below_step HB.out hb)
     (try clear hb)
     (try clear hb2)
     (try clear hk)
     (try clear hi)
     refine hK.out _ _ ⟨(blk_cell BK958.out 0).trans rfl, (blk_cell BK958.out 1).trans rfl, ((HB.out.cell (World.block_lt_of_cell? w _ hw959_0)).trans hw959_0), ((HB.out.cell (World.block_lt_of_cell? w _ hw959_1)).trans hw959_1), ((HB.out.cell (World.block_lt_of_cell? w _ hw959_2)).trans hw959_2), ((HB.out.cell (World.block_lt_of_cell? w _ hw961_0)).trans hw961_0), ((HB.out.cell (World.block_lt_of_cell? w _ hw961_1)).trans hw961_1), ((HB.out.cell (World.block_lt_of_cell? w _ hw961_2)).trans hw961_2), ((HB.out.cell (World.block_lt_of_cell? w _ hw962_0)).trans hw962_0), ((HB.out.cell (World.block_lt_of_cell? w _ hw962_1)).trans hw962_1), ((HB.out.cell (World.block_lt_of_cell? w _ hw962_2)).trans hw962_2)⟩ (fun hHeld => ?_)
     clear hK K
     refine nm ?_
     refine one_ (i := 21) (N := some 37) (bl 23 4194303) rfl rfl (one_of HT_.out (by kernel_rfl)) (by decide) (fun K hK => ?_)
     refine goes_ Tryz.func42 (by kernel_rfl) rfl #[.int .i64 t960, .int .i64 ((rd_T68 l2 x9_1).f1.f0), .int .i64 ((rd_T68 l2 x9_1).f1.f1)] (by rfl) rfl rfl uM ?_
     with_reducible refine (quinariaref02_in.calls t960 ((rd_T68 l2 x9_1).f1.f0) ((rd_T68 l2 x9_1).f1.f1) true _ A9.out).mono ?_
     rintro e w' ⟨rfl, ⟨nd, rfl⟩⟩
     refine ⟨_, rfl, ?_⟩
     refine hK.out _ _ ⟨(blk_cell BK958.out 0).trans rfl, (blk_cell BK958.out 1).trans rfl, ((HB.out.cell (World.block_lt_of_cell? w _ hw959_0)).trans hw959_0), ((HB.out.cell (World.block_lt_of_cell? w _ hw959_1)).trans hw959_1), ((HB.out.cell (World.block_lt_of_cell? w _ hw959_2)).trans hw959_2), ((HB.out.cell (World.block_lt_of_cell? w _ hw961_0)).trans hw961_0), ((HB.out.cell (World.block_lt_of_cell? w _ hw961_1)).trans hw961_1), ((HB.out.cell (World.block_lt_of_cell? w _ hw961_2)).trans hw961_2), ((HB.out.cell (World.block_lt_of_cell? w _ hw962_0)).trans hw962_0), ((HB.out.cell (World.block_lt_of_cell? w _ hw962_1)).trans hw962_1), ((HB.out.cell (World.block_lt_of_cell? w _ hw962_2)).trans hw962_2)⟩ (fun hHeld => ?_)
     clear hK K
     refine nm ?_
     refine pu 22 38 23 8388607 ?_
     refine done_ (done_of HT_.out (by kernel_rfl)) ?_
     try go_wp2
     go_roundg k1
     case measure => have := HK1.out; omega
     case rel => exact ⟨(wrap64 (x9_1 + 1)), u0, H', ⟨by have := HK1.out; omega⟩, ⟨uK BK958.out⟩, ⟨uB⟩⟩
    ·replace c10 := Bool.eq_false_iff.mpr c10
     subst c10
     have H1 : (some false) = some r := by rw [if_neg (show ¬ (false = true) by decide)] at H; exact H
     clear H
     have H := H1
     clear H1
     obtain rfl := Option.some.inj H
     try go_wp2
     replace BK958 := Aside0.mk (blk_drew BK958.out)
     replace HB := Aside0.mk (below_drew1 HB.out)
     have p959 : 0 ≤ (x9_1 : Int) := of_decide_eq_true (by assumption)
     have q959 : x9_1 < (l2.length : Int) := of_decide_eq_true (by assumption)
     obtain ⟨ad959, e959, hx959_0, hx959_1, hx959_2⟩ := at_T68 HR2.out x9_1 p959 q959
     have hw959_2 := hx959_2
     have hw959_1 := hx959_1
     have hw959_0 := hx959_0
     cases e959
     replace hx959_0 := (HB.out.cell (World.block_lt_of_cell? w _ hx959_0)).trans hx959_0
     replace hx959_1 := (HB.out.cell (World.block_lt_of_cell? w _ hx959_1)).trans hx959_1
     replace hx959_2 := (HB.out.cell (World.block_lt_of_cell? w _ hx959_2)).trans hx959_2
     replace p959 := eq_true p959
     replace q959 := eq_true q959
     have p961 : 0 ≤ (x9_1 : Int) := of_decide_eq_true (by assumption)
     have q961 : x9_1 < (l2.length : Int) := of_decide_eq_true (by assumption)
     obtain ⟨ad961, e961, hx961_0, hx961_1, hx961_2⟩ := at_T68 HR2.out x9_1 p961 q961
     have hw961_2 := hx961_2
     have hw961_1 := hx961_1
     have hw961_0 := hx961_0
     obtain rfl : ad959 = ad961 := (by injection e961)
     replace hx961_0 := (HB.out.cell (World.block_lt_of_cell? w _ hx961_0)).trans hx961_0
     replace hx961_1 := (HB.out.cell (World.block_lt_of_cell? w _ hx961_1)).trans hx961_1
     replace hx961_2 := (HB.out.cell (World.block_lt_of_cell? w _ hx961_2)).trans hx961_2
     replace p961 := eq_true p961
     replace q961 := eq_true q961
     have p962 : 0 ≤ (x9_1 : Int) := of_decide_eq_true (by assumption)
     have q962 : x9_1 < (l2.length : Int) := of_decide_eq_true (by assumption)
     obtain ⟨ad962, e962, hx962_0, hx962_1, hx962_2⟩ := at_T68 HR2.out x9_1 p962 q962
     have hw962_2 := hx962_2
     have hw962_1 := hx962_1
     have hw962_0 := hx962_0
     obtain rfl : ad959 = ad962 := (by injection e962)
     replace hx962_0 := (HB.out.cell (World.block_lt_of_cell? w _ hx962_0)).trans hx962_0
     replace hx962_1 := (HB.out.cell (World.block_lt_of_cell? w _ hx962_1)).trans hx962_1
     replace hx962_2 := (HB.out.cell (World.block_lt_of_cell? w _ hx962_2)).trans hx962_2
     replace p962 := eq_true p962
     replace q962 := eq_true q962
     refine start_ (n := 23) (S := fun w' => w'.cell? ⟨gb958, 0, none⟩ = some (.slice A0_0 l0_0.length c0_0) ∧ w'.cell? ⟨gb958, 1, none⟩ = some (.slice A0_1 l0_1.length c0_1) ∧ w'.cell? (ad959.add ((x9_1).toNat * 3)) = some (.int .i64 ((rd_T68 l2 x9_1).f0)) ∧ w'.cell? ⟨(ad959.add ((x9_1).toNat * 3)).block, (ad959.add ((x9_1).toNat * 3)).off + 1, none⟩ = some (.int .i64 ((rd_T68 l2 x9_1).f1.f0)) ∧ w'.cell? ⟨(ad959.add ((x9_1).toNat * 3)).block, (ad959.add ((x9_1).toNat * 3)).off + 2, none⟩ = some (.int .i64 ((rd_T68 l2 x9_1).f1.f1)) ∧ w'.cell? (ad959.add ((x9_1).toNat * 3)) = some (.int .i64 ((rd_T68 l2 x9_1).f0)) ∧ w'.cell? ⟨(ad959.add ((x9_1).toNat * 3)).block, (ad959.add ((x9_1).toNat * 3)).off + 1, none⟩ = some (.int .i64 ((rd_T68 l2 x9_1).f1.f0)) ∧ w'.cell? ⟨(ad959.add ((x9_1).toNat * 3)).block, (ad959.add ((x9_1).toNat * 3)).off + 2, none⟩ = some (.int .i64 ((rd_T68 l2 x9_1).f1.f1)) ∧ w'.cell? (ad959.add ((x9_1).toNat * 3)) = some (.int .i64 ((rd_T68 l2 x9_1).f0)) ∧ w'.cell? ⟨(ad959.add ((x9_1).toNat * 3)).block, (ad959.add ((x9_1).toNat * 3)).off + 1, none⟩ = some (.int .i64 ((rd_T68 l2 x9_1).f1.f0)) ∧ w'.cell? ⟨(ad959.add ((x9_1).toNat * 3)).block, (ad959.add ((x9_1).toNat * 3)).off + 2, none⟩ = some (.int .i64 ((rd_T68 l2 x9_1).f1.f1))) (ds := []) (bl 23 0) (by kernel_rfl) rfl rfl ⟨(blk_cell BK958.out 0).trans rfl, (blk_cell BK958.out 1).trans rfl, ((HB.out.cell (World.block_lt_of_cell? w _ hw959_0)).trans hw959_0), ((HB.out.cell (World.block_lt_of_cell? w _ hw959_1)).trans hw959_1), ((HB.out.cell (World.block_lt_of_cell? w _ hw959_2)).trans hw959_2), ((HB.out.cell (World.block_lt_of_cell? w _ hw961_0)).trans hw961_0), ((HB.out.cell (World.block_lt_of_cell? w _ hw961_1)).trans hw961_1), ((HB.out.cell (World.block_lt_of_cell? w _ hw961_2)).trans hw961_2), ((HB.out.cell (World.block_lt_of_cell? w _ hw962_0)).trans hw962_0), ((HB.out.cell (World.block_lt_of_cell? w _ hw962_1)).trans hw962_1), ((HB.out.cell (World.block_lt_of_cell? w _ hw962_2)).trans hw962_2)⟩ (fun hHeld => ?_); refine with_tabW quinariaref02_Agrees.tab4 quinariaref02_Agrees.bits4 (fun HT_ HW_ => ?_)
     generalize wr.drew = w13 at BK958 HB hx959_0 hx959_1 hx959_2 hx961_0 hx961_1 hx961_2 hx962_0 hx962_1 hx962_2 hHeld ⊢
     refine pu 1 17 23 2 ?_
     refine pu 2 18 23 6 ?_
     refine pu 3 19 23 14 ?_
     refine pu 4 20 23 30 ?_
     refine pu 5 21 23 62 ?_
     refine pu 7 23 23 190 ?_
     refine pu 9 25 23 702 ?_
     refine pu 10 26 23 1726 ?_
     refine pu 11 27 23 3774 ?_
     refine pu 12 28 23 7870 ?_
     refine pu 13 29 23 16062 ?_
     refine pu 15 31 23 48830 ?_
     refine pu 16 32 23 114366 ?_
     refine pu 17 33 23 245438 ?_
     refine pu 18 34 23 507582 ?_
     refine pu 19 35 23 1031870 ?_
     refine tk11 0 16 23 1031871 hHeld ?_
     refine tk11 6 22 23 1031935 hHeld ?_
     refine tk11 14 30 23 1048319 hHeld ?_
     refine tk11 20 36 23 2096895 hHeld ?_
     refine one_ (i := 8) (N := some 24) (bl 23 2097151) rfl rfl (one_of HT_.out (by kernel_rfl)) (by decide) (fun K hK => ?_)
     refine goes_ Tryz.func19 (by kernel_rfl) rfl #[.agg #[.slice A0_0 l0_0.length c0_0, .slice A0_1 l0_1.length c0_1], .int .i64 a1, .int .i64 ((rd_T68 l2 x9_1).f0), .int .i64 a3] (by rfl) rfl rfl uM ?_
     with_reducible refine (quinariaref02_Cups.calls _ _ l0_0 _ _ l0_1 a1 ((rd_T68 l2 x9_1).f0) a3 t960 _ ?side1 ?side2 ?side3 ?side4 A8.out).mono ?_
     (case side1 => exact Kd.C_below HR0_0.out HB.out)
     (case side2 => exact HC0_0.out)
     (case side3 => exact Kd.C_below HR0_1.out HB.out)
     (case side4 => exact HC0_1.out)
     rintro e w14 ⟨rfl, hb⟩
     refine ⟨_, rfl, ?_⟩
     replace BK958 := Aside0.mk (blk_below BK958.out hb)
     replace HB := Aside0.mk (below_step HB.out hb)
     (try clear hb)
     (try clear hb2)
     (try clear hk)
     (try clear hi)
     refine hK.out _ _ ⟨(blk_cell BK958.out 0).trans rfl, (blk_cell BK958.out 1).trans rfl, ((HB.out.cell (World.block_lt_of_cell? w _ hw959_0)).trans hw959_0), ((HB.out.cell (World.block_lt_of_cell? w _ hw959_1)).trans hw959_1), ((HB.out.cell (World.block_lt_of_cell? w _ hw959_2)).trans hw959_2), ((HB.out.cell (World.block_lt_of_cell? w _ hw961_0)).trans hw961_0), ((HB.out.cell (World.block_lt_of_cell? w _ hw961_1)).trans hw961_1), ((HB.out.cell (World.block_lt_of_cell? w _ hw961_2)).trans hw961_2), ((HB.out.cell (World.block_lt_of_cell? w _ hw962_0)).trans hw962_0), ((HB.out.cell (World.block_lt_of_cell? w _ hw962_1)).trans hw962_1), ((HB.out.cell (World.block_lt_of_cell? w _ hw962_2)).trans hw962_2)⟩ (fun hHeld => ?_)
     clear hK K
     refine nm ?_
     refine one_ (i := 21) (N := some 37) (bl 23 4194303) rfl rfl (one_of HT_.out (by kernel_rfl)) (by decide) (fun K hK => ?_)
     refine goes_ Tryz.func42 (by kernel_rfl) rfl #[.int .i64 t960, .int .i64 ((rd_T68 l2 x9_1).f1.f0), .int .i64 ((rd_T68 l2 x9_1).f1.f1)] (by rfl) rfl rfl uM ?_
     with_reducible refine (quinariaref02_in.calls t960 ((rd_T68 l2 x9_1).f1.f0) ((rd_T68 l2 x9_1).f1.f1) false _ A9.out).mono ?_
     rintro e w' ⟨rfl, ⟨nd, rfl⟩⟩
     refine ⟨_, rfl, ?_⟩
     refine hK.out _ _ ⟨(blk_cell BK958.out 0).trans rfl, (blk_cell BK958.out 1).trans rfl, ((HB.out.cell (World.block_lt_of_cell? w _ hw959_0)).trans hw959_0), ((HB.out.cell (World.block_lt_of_cell? w _ hw959_1)).trans hw959_1), ((HB.out.cell (World.block_lt_of_cell? w _ hw959_2)).trans hw959_2), ((HB.out.cell (World.block_lt_of_cell? w _ hw961_0)).trans hw961_0), ((HB.out.cell (World.block_lt_of_cell? w _ hw961_1)).trans hw961_1), ((HB.out.cell (World.block_lt_of_cell? w _ hw961_2)).trans hw961_2), ((HB.out.cell (World.block_lt_of_cell? w _ hw962_0)).trans hw962_0), ((HB.out.cell (World.block_lt_of_cell? w _ hw962_1)).trans hw962_1), ((HB.out.cell (World.block_lt_of_cell? w _ hw962_2)).trans hw962_2)⟩ (fun hHeld => ?_)
     clear hK K
     refine nm ?_
     refine pu 22 38 23 8388607 ?_
     refine done_ (done_of HT_.out (by kernel_rfl)) ?_
     try go_wp2
     go_ret
     exact ⟨uE, uB⟩
   ·rw [if_neg c6] at H
    replace c6 := decide_eq_false c6
    obtain rfl := Option.some.inj H
    go_wp2
    go_ret
    exact ⟨uE, uB⟩
end Go.Proofs.YtdmdahafiiggiaaGreatDoor.K
end
section
namespace Go.Proofs.YtdmdahafiiggiaaGreatDoor.K
open Go.RowKit Go.Proofs.YtdmdahafiiggiaaGreatDoorW.PrintWords Go.Proofs.YtdmdahafiiggiaaGreatDoorW.PrintLast Go.Proofs.YtdmdahafiiggiaaGreatDoorW.PrintMore
attribute [local go_sem] max2_int min2_int max_two min_two max_three min_three max_four min_four
set_option linter.unusedVariables false
set_option linter.unusedSimpArgs false
def quinariaref02_Lime.l0 : Nat → Int → List (S68) → Int → List Int → List (S32) → Int → Int → Option (Int × Int)
 | 0, _, _, _, _, _, _, _ => none
 | k + 1, x1, x2, x8, x965000, x965001, x967000, x967001 => if 0 ≤ x1 then (if x1 < (x965001.length : Int) then (if x8 ≤ ((rd_T32 x965001 x1).f3.f1) then ((quinariaref02_Agrees.f k x965000 x965001 x1 x2 x8).bind fun t969 => (if t969 = true then (if x967000 < 0 then (quinariaref02_Lime.l0 k x1 x2 (wrap64 (x8 + 1)) x965000 x965001 x8 x8) else (quinariaref02_Lime.l0 k x1 x2 (wrap64 (x8 + 1)) x965000 x965001 x967000 x8)) else (quinariaref02_Lime.l0 k x1 x2 (wrap64 (x8 + 1)) x965000 x965001 x967000 x967001))) else (some (x967000, x967001))) else (none)) else (none)
def quinariaref02_Lime.f (k : Nat) (l0_0 : List Int) (l0_1 : List (S32)) (a1 : Int) (l2 : List (S68)) : Option (Int × Int) := if 0 ≤ a1 then (if a1 < (l0_1.length : Int) then (quinariaref02_Lime.l0 k a1 l2 ((rd_T32 l0_1 a1).f3.f0) l0_0 l0_1 (-1) (-1)) else (none)) else (none)
set_option maxHeartbeats 8000000 in
set_option maxRecDepth 100000 in
theorem quinariaref02_Lime.calls (k : Nat) (A0_0 : Option Addr) (c0_0 : Nat) (l0_0 : List Int) (A0_1 : Option Addr) (c0_1 : Nat) (l0_1 : List (S32)) (a1 : Int) (A2 : Option Addr) (c2 : Nat) (l2 : List (S68)) (r1 : Int) (r2 : Int) (w : World) (hr0_0 : Kd.C (Kd.int .i64) w A0_0 l0_0.length l0_0) (hc0_0 : l0_0.length ≤ c0_0) (hr0_1 : Kd.C k32 w A0_1 l0_1.length l0_1) (hc0_1 : l0_1.length ≤ c0_1) (hr2 : Kd.C k68 w A2 l2.length l2) (hc2 : l2.length ≤ c2) (h : quinariaref02_Lime.f k l0_0 l0_1 a1 l2 = some (r1, r2)) :
  Calls Tryz.prog 40 #[.agg #[.slice A0_0 l0_0.length c0_0, .slice A0_1 l0_1.length c0_1], .int .i64 a1, .slice A2 l2.length c2] w fun e w' => e = .returned (.agg #[.int .i64 r1, .int .i64 r2]) ∧ Below w.heap.size w w' := by
 have hu25 := Tryz.underlying25
 have hu30 := Tryz.underlying30
 have HR0_0 := Aside0.mk hr0_0
 have HC0_0 := Aside0.mk hc0_0
 clear hr0_0 hc0_0
 have HR0_1 := Aside0.mk hr0_1
 have HC0_1 := Aside0.mk hc0_1
 clear hr0_1 hc0_1
 have HR2 := Aside0.mk hr2
 have HC2 := Aside0.mk hc2
 clear hr2 hc2
 have HB := Aside0.mk (Below.refl w.heap.size w)
 have H : (if 0 ≤ a1 then (if a1 < (l0_1.length : Int) then (quinariaref02_Lime.l0 k a1 l2 ((rd_T32 l0_1 a1).f3.f0) l0_0 l0_1 (-1) (-1)) else (none)) else (none)) = some (r1, r2) := h
 clear h
 obtain ⟨c4, H⟩ := ifs H
 replace c4 := decide_eq_true c4
 obtain ⟨c5, H⟩ := ifs H
 replace c5 := decide_eq_true c5
 have H' := Aside0.mk H
 clear H
 go_enter Tryz.func40, Tryz.ntmps40
 go_wp2_with (first | ((with_reducible refine gate_dst (N := 3) rfl ?_); refine bxe 3 #[.slice A0_0 l0_0.length c0_0, .slice A0_1 l0_1.length c0_1] 25 ?_; intro gb964 hg w6 hbox hb; have GW964 := gw hg; have GE964 := GW964; have BK964 := Aside0.mk (hbox); replace HB := Aside0.mk (below_step HB.out hb); clear hb hbox hg) | ((with_reducible refine gate_dst (N := 6) rfl ?_); refine bxe 6 #[.int .i64 0, .int .i64 0] 30 ?_; intro gb965 hg w7 hbox hb; have GW965 := gw hg; have GE965 := GW965; have NB964_965 := nb BK964 hg; have NB965_964 := nc BK964 hg; replace BK964 := Aside0.mk (blk_below BK964.out hb); have BK965 := Aside0.mk (hbox); replace HB := Aside0.mk (below_step HB.out hb); clear hb hbox hg) | ((with_reducible refine gate_dst (N := 7) rfl ?_); refine bxe 7 #[.int .i64 0, .int .i64 0] 30 ?_; intro gb966 hg w8 hbox hb; have GW966 := gw hg; have GE966 := GW966; have NB964_966 := nb BK964 hg; have NB966_964 := nc BK964 hg; have NB965_966 := nb BK965 hg; have NB966_965 := nc BK965 hg; replace BK964 := Aside0.mk (blk_below BK964.out hb); replace BK965 := Aside0.mk (blk_below BK965.out hb); have BK966 := Aside0.mk (hbox); replace HB := Aside0.mk (below_step HB.out hb); clear hb hbox hg; have hnb9 := NB966_964.out; have hnc9 := NB964_966.out; have hnb10 := NB966_965.out; have hnc10 := NB965_966.out; obtain ⟨hcz11_0, hcz11_1⟩ := cz2 BK966.out; obtain ⟨hfz11_0, hfz11_1⟩ := fz2 BK966.out; have hnb12 := NB964_965.out; have hnc12 := NB965_964.out; obtain ⟨hcz13_0, hcz13_1⟩ := cz2 BK964.out; obtain ⟨hfz13_0, hfz13_1⟩ := fz2 BK964.out; have p967 : 0 ≤ (a1 : Int) := of_decide_eq_true (by assumption); have q967 : a1 < (l0_1.length : Int) := of_decide_eq_true (by assumption); obtain ⟨ad967, e967, hx967_0, hx967_1, hx967_2, hx967_3, hx967_4⟩ := at_T32 HR0_1.out a1 p967 q967; cases e967; have hn967_0 : ad967.block ≠ gb966 := Nat.ne_of_lt (Nat.lt_of_lt_of_le (bl1 hx967_0) GW966.out); have hn967_1 : ad967.block ≠ gb966 := Nat.ne_of_lt (Nat.lt_of_lt_of_le (bl1 hx967_0) GW966.out); replace hx967_0 := hcell HB.out hx967_0; replace hx967_1 := hcell HB.out hx967_1; replace hx967_2 := hcell HB.out hx967_2; replace hx967_3 := hcell HB.out hx967_3; replace hx967_4 := hcell HB.out hx967_4; replace hx967_0 := (cell_far (p := ⟨gb966, 0, none⟩) (fx hn967_0) (.int .i64 (-1))).trans hx967_0; replace hx967_1 := (cell_far (p := ⟨gb966, 0, none⟩) (fx hn967_0) (.int .i64 (-1))).trans hx967_1; replace hx967_2 := (cell_far (p := ⟨gb966, 0, none⟩) (fx hn967_0) (.int .i64 (-1))).trans hx967_2; replace hx967_3 := (cell_far (p := ⟨gb966, 0, none⟩) (fx hn967_0) (.int .i64 (-1))).trans hx967_3; replace hx967_4 := (cell_far (p := ⟨gb966, 0, none⟩) (fx hn967_0) (.int .i64 (-1))).trans hx967_4; replace hx967_0 := (cell_far (p := ⟨gb966, 1, none⟩) (fx hn967_1) (.int .i64 (-1))).trans hx967_0; replace hx967_1 := (cell_far (p := ⟨gb966, 1, none⟩) (fx hn967_1) (.int .i64 (-1))).trans hx967_1; replace hx967_2 := (cell_far (p := ⟨gb966, 1, none⟩) (fx hn967_1) (.int .i64 (-1))).trans hx967_2; replace hx967_3 := (cell_far (p := ⟨gb966, 1, none⟩) (fx hn967_1) (.int .i64 (-1))).trans hx967_3; replace hx967_4 := (cell_far (p := ⟨gb966, 1, none⟩) (fx hn967_1) (.int .i64 (-1))).trans hx967_4; clear hn967_0; clear hn967_1; replace p967 := eq_true p967; replace q967 := eq_true q967))
 go_loopg [8] k (fun kq v8 w' => ∃ (x8_1 : Int) (x967000_1 : Int) (x967001_1 : Int), v8 = .int .i64 x8_1 ∧ Aside0 (quinariaref02_Lime.l0 kq a1 l2 x8_1 l0_0 l0_1 x967000_1 x967001_1 = some (r1, r2)) ∧ Aside0 (kq ≤ k) ∧ Aside0 (w'.heap[gb964]? = some (.cells #[(.slice A0_0 l0_0.length c0_0), (.slice (some ad967) l0_1.length c0_1)] 25 (0, 0))) ∧ Aside0 (w'.heap[gb965]? = some (.cells #[.int .i64 0, .int .i64 0] 30 (0, 0))) ∧ Aside0 (w'.heap[gb966]? = some (.cells #[.int .i64 x967000_1, .int .i64 x967001_1] 30 (0, 0))) ∧ Aside0 (Below w.heap.size w w'))
 case atStart => exact ⟨((rd_T32 l0_1 a1).f3.f0), ((-1)), ((-1)), u0, H', ⟨Nat.le_refl _⟩, ⟨by refine uK ?_; refine blk_far ?_ NB964_966.out _; refine uK ?_; refine blk_far ?_ NB964_966.out _; refine uK ?_; exact BK964.out⟩, ⟨by refine uK ?_; refine blk_far ?_ NB965_966.out _; refine uK ?_; refine blk_far ?_ NB965_966.out _; refine uK ?_; exact BK965.out⟩, ⟨by refine uK ?_; refine blk_put (cs := #[.int .i64 (-1), .int .i64 0]) ?_ 1 _ rfl; refine uK ?_; refine blk_put (cs := #[.int .i64 0, .int .i64 0]) ?_ 0 _ rfl; refine uK ?_; exact BK966.out⟩, ⟨uB⟩⟩
 case round =>
  clear H'
  try clear c1; try clear c2; try clear p2; try clear c4; try clear c4b0; try clear c5; try clear c5b0; try clear c9; try clear p9; try clear q9; try clear hx9; try clear c10; try clear c12; try clear hcz11_0; try clear hcz11_1; try clear hcz13_0; try clear hcz13_1; try clear hfz11_0; try clear hfz11_1; try clear hfz13_0; try clear hfz13_1; try clear hx967_0; try clear hx967_1; try clear hx967_2; try clear hx967_3; try clear hx967_4; try clear p967; try clear q967
  obtain ⟨x8_1, x967000_1, x967001_1, rfl, HA, HK1, BK964, BK965, BK966, HB⟩ := hrel
  cases gk with
  | zero => exact absurd HA.out (by simp [quinariaref02_Lime.l0])
  | succ k1 =>
   have H := HA.out
   clear HA
   simp only [quinariaref02_Lime.l0] at H
   obtain ⟨c14, H⟩ := ifs H
   replace c14 := decide_eq_true c14
   obtain ⟨c15, H⟩ := ifs H
   replace c15 := decide_eq_true c15
   by_cases c16 : x8_1 ≤ ((rd_T32 l0_1 a1).f3.f1)
   ·rw [if_pos c16] at H
    replace c16 := decide_eq_true c16
    replace H := Option.bind_eq_some_iff.mp H
    obtain ⟨t969, A170, H⟩ := H
    replace H : (if t969 = true then (if x967000_1 < 0 then (quinariaref02_Lime.l0 k1 a1 l2 (wrap64 (x8_1 + 1)) l0_0 l0_1 x8_1 x8_1) else (quinariaref02_Lime.l0 k1 a1 l2 (wrap64 (x8_1 + 1)) l0_0 l0_1 x967000_1 x8_1)) else (quinariaref02_Lime.l0 k1 a1 l2 (wrap64 (x8_1 + 1)) l0_0 l0_1 x967000_1 x967001_1)) = some (r1, r2) := H
    have A17 := Aside0.mk A170
    clear A170
    by_cases c18 : t969 = true
    ·subst c18
     have H1 : (if x967000_1 < 0 then (quinariaref02_Lime.l0 k1 a1 l2 (wrap64 (x8_1 + 1)) l0_0 l0_1 x8_1 x8_1) else (quinariaref02_Lime.l0 k1 a1 l2 (wrap64 (x8_1 + 1)) l0_0 l0_1 x967000_1 x8_1)) = some (r1, r2) := by rw [if_pos rfl] at H; exact H
     clear H
     have H := H1
     clear H1
     by_cases c19 : x967000_1 < 0
     ·rw [if_pos c19] at H
      replace c19 := decide_eq_true c19
      have H' := Aside0.mk H
      clear H
      have hnb20 := NB964_965.out
      have hnc20 := NB965_964.out
      have hnb21 := NB964_966.out
      have hnc21 := NB966_964.out
      obtain ⟨hcz22_0, hcz22_1⟩ := cz2 BK964.out
      obtain ⟨hfz22_0, hfz22_1⟩ := fz2 BK964.out
      have p968 : 0 ≤ (a1 : Int) := of_decide_eq_true (by assumption)
      have q968 : a1 < (l0_1.length : Int) := of_decide_eq_true (by assumption)
      obtain ⟨ad968, e968, hx968_0, hx968_1, hx968_2, hx968_3, hx968_4⟩ := at_T32 HR0_1.out a1 p968 q968
      obtain rfl : ad967 = ad968 := (by injection e968)
      replace hx968_0 := hcell HB.out hx968_0
      replace hx968_1 := hcell HB.out hx968_1
      replace hx968_2 := hcell HB.out hx968_2
      replace hx968_3 := hcell HB.out hx968_3
      replace hx968_4 := hcell HB.out hx968_4
      replace p968 := eq_true p968
      replace q968 := eq_true q968
      go_wp2_with (first | ((with_reducible refine gate_callee (f := 41) rfl ?_); refine goesL_ (some 32) rfl rfl Tryz.func41 (by kernel_rfl) rfl #[.agg #[.slice A0_0 l0_0.length c0_0, .slice (some ad967) l0_1.length c0_1], .int .i64 a1, .slice A2 l2.length c2, .int .i64 x8_1] rfl uM ?_; (with_reducible refine (quinariaref02_Agrees.calls k1 _ _ l0_0 _ _ l0_1 a1 _ _ l2 x8_1 true _ ?side1 ?side2 ?side3 ?side4 ?side5 ?side6 A17.out).mono ?_); (case side1 => exact Kd.C_below HR0_0.out HB.out); (case side2 => exact HC0_0.out); (case side3 => exact Kd.C_below HR0_1.out HB.out); (case side4 => exact HC0_1.out); (case side5 => exact Kd.C_below HR2.out HB.out); (case side6 => exact HC2.out); rintro e w23 ⟨rfl, hb⟩; refine ⟨_, rfl, ?_⟩; replace BK964 := Aside0.mk (blk_below BK964.out hb); replace BK965 := Aside0.mk (blk_below BK965.out hb); replace BK966 := Aside0.mk (blk_below BK966.out hb); replace HB := Aside0.mk (below_step HB.out hb); (try clear hb); have hnb24 := NB966_965.out; have hnc24 := NB965_966.out; obtain ⟨hcz25_0, hcz25_1⟩ := cz2 BK966.out; obtain ⟨hfz25_0, hfz25_1⟩ := fz2 BK966.out))
      go_roundg k1
      case measure => have := HK1.out; omega
      case rel => exact ⟨(wrap64 (x8_1 + 1)), (x8_1), (x8_1), u0, H', ⟨by have := HK1.out; omega⟩, ⟨by refine uK ?_; refine blk_far ?_ NB964_966.out _; refine uK ?_; refine blk_far ?_ NB964_966.out _; refine uK ?_; exact BK964.out⟩, ⟨by refine uK ?_; refine blk_far ?_ NB965_966.out _; refine uK ?_; refine blk_far ?_ NB965_966.out _; refine uK ?_; exact BK965.out⟩, ⟨by refine uK ?_; refine blk_put (cs := #[.int .i64 x8_1, .int .i64 x967001_1]) ?_ 1 _ rfl; refine uK ?_; refine blk_put (cs := #[.int .i64 x967000_1, .int .i64 x967001_1]) ?_ 0 _ rfl; refine uK ?_; exact BK966.out⟩, ⟨uB⟩⟩
     ·rw [if_neg c19] at H
      replace c19 := decide_eq_false c19
      have H' := Aside0.mk H
      clear H
      have hnb26 := NB964_965.out
      have hnc26 := NB965_964.out
      have hnb27 := NB964_966.out
      have hnc27 := NB966_964.out
      obtain ⟨hcz28_0, hcz28_1⟩ := cz2 BK964.out
      obtain ⟨hfz28_0, hfz28_1⟩ := fz2 BK964.out
      have p968 : 0 ≤ (a1 : Int) := of_decide_eq_true (by assumption)
      have q968 : a1 < (l0_1.length : Int) := of_decide_eq_true (by assumption)
      obtain ⟨ad968, e968, hx968_0, hx968_1, hx968_2, hx968_3, hx968_4⟩ := at_T32 HR0_1.out a1 p968 q968
      obtain rfl : ad967 = ad968 := (by injection e968)
      replace hx968_0 := hcell HB.out hx968_0
      replace hx968_1 := hcell HB.out hx968_1
      replace hx968_2 := hcell HB.out hx968_2
      replace hx968_3 := hcell HB.out hx968_3
      replace hx968_4 := hcell HB.out hx968_4
      replace p968 := eq_true p968
      replace q968 := eq_true q968
      go_wp2_with (first | ((with_reducible refine gate_callee (f := 41) rfl ?_); refine goesL_ (some 32) rfl rfl Tryz.func41 (by kernel_rfl) rfl #[.agg #[.slice A0_0 l0_0.length c0_0, .slice (some ad967) l0_1.length c0_1], .int .i64 a1, .slice A2 l2.length c2, .int .i64 x8_1] rfl uM ?_; (with_reducible refine (quinariaref02_Agrees.calls k1 _ _ l0_0 _ _ l0_1 a1 _ _ l2 x8_1 true _ ?side1 ?side2 ?side3 ?side4 ?side5 ?side6 A17.out).mono ?_); (case side1 => exact Kd.C_below HR0_0.out HB.out); (case side2 => exact HC0_0.out); (case side3 => exact Kd.C_below HR0_1.out HB.out); (case side4 => exact HC0_1.out); (case side5 => exact Kd.C_below HR2.out HB.out); (case side6 => exact HC2.out); rintro e w29 ⟨rfl, hb⟩; refine ⟨_, rfl, ?_⟩; replace BK964 := Aside0.mk (blk_below BK964.out hb); replace BK965 := Aside0.mk (blk_below BK965.out hb); replace BK966 := Aside0.mk (blk_below BK966.out hb); replace HB := Aside0.mk (below_step HB.out hb); (try clear hb); have hnb30 := NB966_965.out; have hnc30 := NB965_966.out; obtain ⟨hcz31_0, hcz31_1⟩ := cz2 BK966.out; obtain ⟨hfz31_0, hfz31_1⟩ := fz2 BK966.out))
      go_roundg k1
      case measure => have := HK1.out; omega
      case rel => exact ⟨(wrap64 (x8_1 + 1)), (x967000_1), (x8_1), u0, H', ⟨by have := HK1.out; omega⟩, ⟨by refine uK ?_; refine blk_far ?_ NB964_966.out _; refine uK ?_; exact BK964.out⟩, ⟨by refine uK ?_; refine blk_far ?_ NB965_966.out _; refine uK ?_; exact BK965.out⟩, ⟨by refine uK ?_; refine blk_put (cs := #[.int .i64 x967000_1, .int .i64 x967001_1]) ?_ 1 _ rfl; refine uK ?_; exact BK966.out⟩, ⟨uB⟩⟩
    ·replace c18 := Bool.eq_false_iff.mpr c18
     subst c18
     have H1 : (quinariaref02_Lime.l0 k1 a1 l2 (wrap64 (x8_1 + 1)) l0_0 l0_1 x967000_1 x967001_1) = some (r1, r2) := by rw [if_neg (show ¬ (false = true) by decide)] at H; exact H
     clear H
     have H := H1
     clear H1
     have H' := Aside0.mk H
     clear H
     have hnb32 := NB964_965.out
     have hnc32 := NB965_964.out
     have hnb33 := NB964_966.out
     have hnc33 := NB966_964.out
     obtain ⟨hcz34_0, hcz34_1⟩ := cz2 BK964.out
     obtain ⟨hfz34_0, hfz34_1⟩ := fz2 BK964.out
     have p968 : 0 ≤ (a1 : Int) := of_decide_eq_true (by assumption)
     have q968 : a1 < (l0_1.length : Int) := of_decide_eq_true (by assumption)
     obtain ⟨ad968, e968, hx968_0, hx968_1, hx968_2, hx968_3, hx968_4⟩ := at_T32 HR0_1.out a1 p968 q968
     obtain rfl : ad967 = ad968 := (by injection e968)
     replace hx968_0 := hcell HB.out hx968_0
     replace hx968_1 := hcell HB.out hx968_1
     replace hx968_2 := hcell HB.out hx968_2
     replace hx968_3 := hcell HB.out hx968_3
     replace hx968_4 := hcell HB.out hx968_4
     replace p968 := eq_true p968
     replace q968 := eq_true q968
     go_wp2_with (first | ((with_reducible refine gate_callee (f := 41) rfl ?_); refine goesL_ (some 32) rfl rfl Tryz.func41 (by kernel_rfl) rfl #[.agg #[.slice A0_0 l0_0.length c0_0, .slice (some ad967) l0_1.length c0_1], .int .i64 a1, .slice A2 l2.length c2, .int .i64 x8_1] rfl uM ?_; (with_reducible refine (quinariaref02_Agrees.calls k1 _ _ l0_0 _ _ l0_1 a1 _ _ l2 x8_1 false _ ?side1 ?side2 ?side3 ?side4 ?side5 ?side6 A17.out).mono ?_); (case side1 => exact Kd.C_below HR0_0.out HB.out); (case side2 => exact HC0_0.out); (case side3 => exact Kd.C_below HR0_1.out HB.out); (case side4 => exact HC0_1.out); (case side5 => exact Kd.C_below HR2.out HB.out); (case side6 => exact HC2.out); rintro e w35 ⟨rfl, hb⟩; refine ⟨_, rfl, ?_⟩; replace BK964 := Aside0.mk (blk_below BK964.out hb); replace BK965 := Aside0.mk (blk_below BK965.out hb); replace BK966 := Aside0.mk (blk_below BK966.out hb); replace HB := Aside0.mk (below_step HB.out hb); (try clear hb)))
     go_roundg k1
     case measure => have := HK1.out; omega
     case rel => exact ⟨(wrap64 (x8_1 + 1)), (x967000_1), (x967001_1), u0, H', ⟨by have := HK1.out; omega⟩, ⟨uK BK964.out⟩, ⟨uK BK965.out⟩, ⟨uK BK966.out⟩, ⟨uB⟩⟩
   ·rw [if_neg c16] at H
    replace c16 := decide_eq_false c16
    simp only [Option.some.injEq, Prod.mk.injEq] at H
    obtain ⟨rfl, rfl⟩ := H
    have hnb36 := NB964_965.out
    have hnc36 := NB965_964.out
    have hnb37 := NB964_966.out
    have hnc37 := NB966_964.out
    obtain ⟨hcz38_0, hcz38_1⟩ := cz2 BK964.out
    obtain ⟨hfz38_0, hfz38_1⟩ := fz2 BK964.out
    have p968 : 0 ≤ (a1 : Int) := of_decide_eq_true (by assumption)
    have q968 : a1 < (l0_1.length : Int) := of_decide_eq_true (by assumption)
    obtain ⟨ad968, e968, hx968_0, hx968_1, hx968_2, hx968_3, hx968_4⟩ := at_T32 HR0_1.out a1 p968 q968
    obtain rfl : ad967 = ad968 := (by injection e968)
    replace hx968_0 := hcell HB.out hx968_0
    replace hx968_1 := hcell HB.out hx968_1
    replace hx968_2 := hcell HB.out hx968_2
    replace hx968_3 := hcell HB.out hx968_3
    replace hx968_4 := hcell HB.out hx968_4
    replace p968 := eq_true p968
    replace q968 := eq_true q968
    have hnb39 := NB966_965.out
    have hnc39 := NB965_966.out
    obtain ⟨hcz40_0, hcz40_1⟩ := cz2 BK966.out
    obtain ⟨hfz40_0, hfz40_1⟩ := fz2 BK966.out
    obtain ⟨hcz41_0, hcz41_1⟩ := cz2 BK965.out
    obtain ⟨hfz41_0, hfz41_1⟩ := fz2 BK965.out
    go_wp2
    refine bodyPost_ret (results_cell_row rfl _ _ gb965 30 #[.int .i64 x967000_1, .int .i64 x967001_1] (0, 0) _ rfl (by refine uK ?_; refine blk_put (cs := #[.int .i64 x967000_1, .int .i64 0]) ?_ 1 _ rfl; refine uK ?_; refine blk_put (cs := #[.int .i64 0, .int .i64 0]) ?_ 0 _ rfl; refine uK ?_; exact BK965.out) Tryz.underlying30 rfl (by kernel_rfl)) rfl ?_
    exact ⟨uE, uB⟩
end Go.Proofs.YtdmdahafiiggiaaGreatDoor.K
end
section
namespace Go.Proofs.YtdmdahafiiggiaaGreatDoor.K
open Go.RowKit Go.Proofs.YtdmdahafiiggiaaGreatDoorW.PrintWords Go.Proofs.YtdmdahafiiggiaaGreatDoorW.PrintLast Go.Proofs.YtdmdahafiiggiaaGreatDoorW.PrintMore
set_option linter.unusedVariables false
set_option linter.unusedSimpArgs false
variable {A0 A1 A2 : Option Addr} {c0 c1 c2 : Nat} {sp : List Int} {st : List S32} {notes : List S68} {n : Int} {w : World}
def notesB (notes : List S68) : Bool := notes.all noteB && decide (notes.length ≤ 8)
theorem noteR_f (x : S68) : quinariaref02_Note.f x.f0 x.f1.f0 x.f1.f1 = some (noteB x) := by
  unfold quinariaref02_Note.f quinariaref02_Age.f quinariaref02_between.f noteB isSpanB
  simp only [inR_f, Option.bind_some]
  cases h1 : inB x.f0 0 200 with
  | false => simp
  | true =>
    rw [if_pos rfl]
    unfold inB
    by_cases e1 : 0 ≤ x.f1.f0 <;> by_cases e2 : x.f1.f0 ≤ 10000000 <;> by_cases e3 : 0 ≤ x.f1.f1 <;> by_cases e4 : x.f1.f1 ≤ 10000000 <;> by_cases e5 : x.f1.f0 ≤ x.f1.f1 <;> simp [e1, e2, e3, e4, e5] <;> omega
theorem rdNote_eq {l : List S68} (j : Nat) : rd_T68 l (j : Int) = l.getD j z68 := by simp [rd_T68]
theorem notesR_from (hl : notes.length ≤ 1000) : ∀ (d j K : Nat), j + d = notes.length → d < K → quinariaref02_Notes.l0 K notes (j : Int) = some ((notes.drop j).all noteB && decide (notes.length ≤ 8))
  | 0, j, K + 1, hj, hK => by
    unfold quinariaref02_Notes.l0
    rw [if_neg (by omega), List.drop_eq_nil_of_le (by omega)]
    simp only [List.all_nil, Bool.true_and]
    congr 1
    exact decide_eq_decide.2 (by omega)
  | d + 1, j, K + 1, hj, hK => by
    unfold quinariaref02_Notes.l0
    rw [if_pos (by omega), if_pos (by omega), noteR_f, Option.bind_some, IntWalk.wrap64_in _ (by omega), all_drop _ z68 _ _ (by omega), rdNote_eq]
    have ih := notesR_from hl d (j + 1) K (by omega) (by omega)
    cases h1 : noteB (notes.getD j z68) with
    | true => simpa using ih
    | false => simp
theorem notesR_any (hl : notes.length ≤ 99) (h : At' k68 w A2 notes.length c2 notes) : Calls Tryz.prog 39 #[.slice A2 notes.length c2] w fun e w' => e = .returned (.bool (notesB notes)) ∧ Below w.heap.size w w' :=
  (quinariaref02_Notes.calls 100 A2 c2 notes _ w h.c h.le (by
    have := notesR_from (notes := notes) (by omega) notes.length 0 100 (by omega) (by omega)
    simpa [quinariaref02_Notes.f, notesB] using this))
def agB (sp : List Int) (st : List S32) (n r : Int) (x : S68) : Bool := inB (cupsN sp st n x.f0 r) x.f1.f0 x.f1.f1
def agreesB (sp : List Int) (st : List S32) (n : Int) (notes : List S68) (r : Int) : Bool := notes.all (agB sp st n r)
theorem note_age {x : S68} (h : noteB x = true) : inB x.f0 0 200 = true := by simp [noteB] at h; exact h.1
theorem agreeR_from (h1 : isLineB sp st = true) (h2 : numB st n = true) (hl : notes.length ≤ 1000) (hn : notes.all noteB = true) {r : Int} (r0 : 0 ≤ r) (r1 : r ≤ 100) : ∀ (d j K : Nat), j + d = notes.length → d < K → quinariaref02_Agrees.l0 K n notes r (j : Int) sp st = some ((notes.drop j).all (agB sp st n r))
  | 0, j, K + 1, hj, hK => by
    unfold quinariaref02_Agrees.l0
    rw [if_neg (by omega), List.drop_eq_nil_of_le (by omega)]
    rfl
  | d + 1, j, K + 1, hj, hK => by
    unfold quinariaref02_Agrees.l0
    have hlt : j < notes.length := by omega
    have hx : noteB (notes.getD j z68) = true := by
      have := List.all_eq_true.1 hn _ (List.getElem_mem hlt)
      simpa [List.getD, List.getElem?_eq_getElem hlt] using this
    rw [if_pos (by omega), if_pos (by omega), rdNote_eq, cupsR_f h1 h2 (note_age hx) r0 r1, Option.bind_some, inR_f, Option.bind_some, IntWalk.wrap64_in _ (by omega), all_drop _ z68 _ _ hlt]
    have ih := agreeR_from h1 h2 hl hn r0 r1 d (j + 1) K (by omega) (by omega)
    change (if agB sp st n r (notes.getD j z68) = true then _ else _) = _
    cases h3 : agB sp st n r (notes.getD j z68) with
    | true => simpa using ih
    | false => simp
theorem agreesR_f (h1 : isLineB sp st = true) (h2 : numB st n = true) (hn : notesB notes = true) {r : Int} (r0 : 0 ≤ r) (r1 : r ≤ 100) (K : Nat) (hK : 9 < K) : quinariaref02_Agrees.f K sp st n notes r = some (agreesB sp st n notes r) := by
  simp only [notesB, Bool.and_eq_true, decide_eq_true_eq] at hn
  have := agreeR_from h1 h2 (by omega) hn.1 r0 r1 notes.length 0 K (by omega) (by omega)
  simpa [quinariaref02_Agrees.f, agreesB] using this
def fromI (a : Int) : Nat → List Int
  | 0 => []
  | k + 1 => a :: fromI (a + 1) k
theorem mem_fromI : ∀ {k : Nat} {a x : Int}, x ∈ fromI a k ↔ a ≤ x ∧ x < a + k
  | 0, a, x => by simp [fromI]
  | k + 1, a, x => by rw [fromI, List.mem_cons, mem_fromI]; omega
def limesL (sp : List Int) (st : List S32) (n : Int) (notes : List S68) (k : Nat) (a : Int) : List Int := (fromI a k).filter (agreesB sp st n notes)
def loN (st : List S32) (n : Int) : Int := (rd_T32 st n).f3.f0
def hiN (st : List S32) (n : Int) : Int := (rd_T32 st n).f3.f1
def limes (sp : List Int) (st : List S32) (n : Int) (notes : List S68) : List Int := limesL sp st n notes (hiN st n + 1 - loN st n).toNat (loN st n)
theorem lo_hi (h1 : isLineB sp st = true) (h2 : numB st n = true) : 0 ≤ loN st n ∧ loN st n ≤ hiN st n ∧ hiN st n ≤ 100 := by
  have hn := num_range h2
  have hs := line_at h1 hn.1 hn.2
  exact ⟨hs.l0, hs.lh, hs.h1⟩
theorem mem_limes {r : Int} : r ∈ limes sp st n notes ↔ (loN st n ≤ r ∧ r ≤ hiN st n) ∧ agreesB sp st n notes r = true := by
  unfold limes limesL
  rw [List.mem_filter, mem_fromI]
  constructor
  · rintro ⟨h, h2⟩; exact ⟨by omega, h2⟩
  · rintro ⟨h, h2⟩; exact ⟨by omega, h2⟩
theorem carF_eq (h1 : isLineB sp st = true) (h2 : numB st n = true) {age r : Int} (h3 : inB age 0 200 = true) (r0 : 0 ≤ r) (r1 : r ≤ 100) : carF sp st n age r = some (cupsN sp st n age r) := by
  have hn := num_range h2
  have ha := age_range h3
  have hs := line_at h1 hn.1 hn.2
  unfold carF
  rw [aging_ok h1 hn.1 hn.2, Option.bind_some]
  rw [cups_f _ _ _ _ _ _ _ _ (by have := hs.b0; omega) (by have := hs.b1; omega) (by have := hs.d0; omega) hs.d1 ha.1 ha.2 (by have := hs.s0; omega) hs.s1 r0 r1]
  rfl
theorem agreeF_eq (h1 : isLineB sp st = true) (h2 : numB st n = true) {r : Int} (r0 : 0 ≤ r) (r1 : r ≤ 100) : ∀ notes : List S68, notes.all noteB = true → agreeF sp st n r notes = some (agreesB sp st n notes r)
  | [], _ => rfl
  | x :: l, h => by
    rw [List.all_cons, Bool.and_eq_true] at h
    have ih := agreeF_eq h1 h2 r0 r1 l h.2
    rw [agreeF, carF_eq h1 h2 (note_age h.1) r0 r1, Option.bind_some, ih]
    unfold agreesB
    rw [List.all_cons]
    change (if agB sp st n r x = true then _ else _) = _
    cases agB sp st n r x <;> simp
theorem ratesL_eq (h1 : isLineB sp st = true) (h2 : numB st n = true) (hn : notes.all noteB = true) : ∀ (k : Nat) (r : Int), 0 ≤ r → r + k ≤ 101 → ratesL sp st n notes k r = some (limesL sp st n notes k r)
  | 0, r, _, _ => rfl
  | k + 1, r, h3, h4 => by
    rw [ratesL, agreeF_eq h1 h2 h3 (by omega) notes hn, Option.bind_some, ratesL_eq h1 h2 hn k (r + 1) (by omega) (by omega), Option.bind_some]
    unfold limesL
    rw [fromI, List.filter_cons]
def lastR (L : List Int) : Int := rd L ((L.length : Int) - 1)
theorem limeB_eq : limeB sp st n notes = (isLineB sp st && numB st n && notesB notes) := by
  unfold limeB numB notesB
  cases isLineB sp st <;> cases inB n 0 ((st.length : Int) - 1) <;> cases decide (notes.length ≤ 8) <;> cases notes.all noteB <;> rfl
theorem lime_f (h : LnAt w A0 A1 c0 c1 sp st) (hA : At' k68 w A2 notes.length c2 notes) (h1 : isLineB sp st = true) (h2 : numB st n = true) (hn : notesB notes = true) :
    channel_Lime.f sp st n notes = some (if limes sp st n notes = [] then (0, 0, 7) else (rd (limes sp st n notes) 0, lastR (limes sp st n notes), 0)) := by
  have hb : limeB sp st n notes = true := by rw [limeB_eq, h1, h2, hn]; rfl
  have hlh := lo_hi h1 h2
  simp only [notesB, Bool.and_eq_true, decide_eq_true_eq] at hn
  unfold channel_Lime.f
  rw [if_pos ⟨h.lens.1, h.lens.2, hA.c.2.1⟩, if_pos hb]
  have e := ratesL_eq h1 h2 hn.1 (hiN st n + 1 - loN st n).toNat (loN st n) hlh.1 (by omega)
  unfold hiN loN at e
  rw [e, Option.bind_some]
  rfl
theorem lime_wrong (h : LnAt w A0 A1 c0 c1 sp st) (hA : At' k68 w A2 notes.length c2 notes) (hb : (isLineB sp st && numB st n && notesB notes) = false) :
    Calls Tryz.prog 38 #[.agg #[.slice A0 sp.length c0, .slice A1 st.length c1], .int .i64 n, .slice A2 notes.length c2] w fun e w' => e = .returned (.tuple #[.agg #[.int .i64 0, .int .i64 0], .int .i64 2]) ∧ Below w.heap.size w w' :=
  channel_Lime.calls A0 c0 sp A1 c1 st n A2 c2 notes 0 0 2 w h.a.c h.a.le h.b.c h.b.le hA.c hA.le (by
    unfold channel_Lime.f
    rw [if_pos ⟨h.lens.1, h.lens.2, hA.c.2.1⟩, limeB_eq, hb]
    rfl)
theorem lime_none (h : LnAt w A0 A1 c0 c1 sp st) (hA : At' k68 w A2 notes.length c2 notes) (h1 : isLineB sp st = true) (h2 : numB st n = true) (hn : notesB notes = true) (he : limes sp st n notes = []) :
    Calls Tryz.prog 38 #[.agg #[.slice A0 sp.length c0, .slice A1 st.length c1], .int .i64 n, .slice A2 notes.length c2] w fun e w' => e = .returned (.tuple #[.agg #[.int .i64 0, .int .i64 0], .int .i64 7]) ∧ Below w.heap.size w w' :=
  channel_Lime.calls A0 c0 sp A1 c1 st n A2 c2 notes 0 0 7 w h.a.c h.a.le h.b.c h.b.le hA.c hA.le (by rw [lime_f h hA h1 h2 hn, if_pos he])
theorem lime_some (h : LnAt w A0 A1 c0 c1 sp st) (hA : At' k68 w A2 notes.length c2 notes) (h1 : isLineB sp st = true) (h2 : numB st n = true) (hn : notesB notes = true) {a b : Int} (he : ¬ limes sp st n notes = []) (ha : rd (limes sp st n notes) 0 = a) (hb : lastR (limes sp st n notes) = b) :
    Calls Tryz.prog 38 #[.agg #[.slice A0 sp.length c0, .slice A1 st.length c1], .int .i64 n, .slice A2 notes.length c2] w fun e w' => e = .returned (.tuple #[.agg #[.int .i64 a, .int .i64 b], .int .i64 0]) ∧ Below w.heap.size w w' :=
  channel_Lime.calls A0 c0 sp A1 c1 st n A2 c2 notes a b 0 w h.a.c h.a.le h.b.c h.b.le hA.c hA.le (by rw [lime_f h hA h1 h2 hn, if_neg he, ha, hb])
def ends : List Int → Int → Int → Int × Int
  | [], a, b => (a, b)
  | r :: M, a, b => if a < 0 then ends M r r else ends M a r
theorem limeR_from (h1 : isLineB sp st = true) (h2 : numB st n = true) (hn : notesB notes = true) : ∀ (d : Nat) (r a b : Int) (K : Nat), loN st n ≤ r → r + d = hiN st n + 1 → d + 10 < K → quinariaref02_Lime.l0 K n notes r sp st a b = some (ends (limesL sp st n notes d r) a b)
  | 0, r, a, b, K + 1, h3, h4, hK => by
    have hn' := num_range h2
    unfold quinariaref02_Lime.l0
    rw [if_pos hn'.1, if_pos hn'.2, if_neg (by unfold hiN at h4; omega)]
    rfl
  | d + 1, r, a, b, K + 1, h3, h4, hK => by
    have hn' := num_range h2
    have hlh := lo_hi h1 h2
    unfold quinariaref02_Lime.l0
    rw [if_pos hn'.1, if_pos hn'.2, if_pos (by unfold hiN at h4; omega), agreesR_f h1 h2 hn (by omega) (by omega) K (by omega), Option.bind_some, IntWalk.wrap64_in _ (by omega)]
    have ih := fun a b => limeR_from h1 h2 hn d (r + 1) a b K (by omega) (by omega) (by omega)
    unfold limesL at ih ⊢
    rw [fromI, List.filter_cons]
    cases h5 : agreesB sp st n notes r with
    | true =>
      rw [if_pos rfl, if_pos rfl, ends]
      by_cases ha : a < 0
      · rw [if_pos ha, if_pos ha]; exact ih _ _
      · rw [if_neg ha, if_neg ha]; exact ih _ _
    | false =>
      rw [if_neg (by simp), if_neg (by simp)]
      exact ih _ _
theorem last_cons {r : Int} {M : List Int} (h : M ≠ []) : lastR (r :: M) = lastR M := by
  unfold lastR
  have : 0 < M.length := List.length_pos_iff.2 h
  simp only [rd, List.length_cons]
  rw [show (((M.length + 1 : Nat) : Int) - 1).toNat = ((M.length : Int) - 1).toNat + 1 by omega]
  rfl
theorem ends_pos : ∀ (M : List Int) (a b : Int), 0 ≤ a → ends M a b = (a, if M = [] then b else lastR M)
  | [], a, b, h => rfl
  | r :: M, a, b, h => by
    rw [ends, if_neg (by omega), ends_pos M a r h, if_neg (List.cons_ne_nil r M)]
    by_cases hM : M = []
    · subst hM; rfl
    · rw [if_neg hM, last_cons hM]
theorem ends_eq (M : List Int) (h : ∀ x ∈ M, 0 ≤ x) : ends M (-1) (-1) = if M = [] then (-1, -1) else (rd M 0, lastR M) := by
  cases M with
  | nil => rfl
  | cons r M =>
    rw [ends, if_pos (by omega), ends_pos M r r (h r (List.mem_cons_self)), if_neg (List.cons_ne_nil r M)]
    by_cases hM : M = []
    · subst hM; rfl
    · rw [if_neg hM, last_cons hM]; rfl
theorem limeR_f (h1 : isLineB sp st = true) (h2 : numB st n = true) (hn : notesB notes = true) : quinariaref02_Lime.f 200 sp st n notes = some (if limes sp st n notes = [] then (-1, -1) else (rd (limes sp st n notes) 0, lastR (limes sp st n notes))) := by
  have hn' := num_range h2
  have hlh := lo_hi h1 h2
  unfold quinariaref02_Lime.f
  rw [if_pos hn'.1, if_pos hn'.2]
  have := limeR_from h1 h2 hn (hiN st n + 1 - loN st n).toNat (loN st n) (-1) (-1) 200 (Int.le_refl _) (by omega) (by omega)
  unfold loN at this
  rw [this, ← ends_eq _ (fun x hx => by have := mem_limes.1 hx; omega)]
  rfl
theorem limeR_none (h : LnAt w A0 A1 c0 c1 sp st) (hA : At' k68 w A2 notes.length c2 notes) (h1 : isLineB sp st = true) (h2 : numB st n = true) (hn : notesB notes = true) (he : limes sp st n notes = []) :
    Calls Tryz.prog 40 #[.agg #[.slice A0 sp.length c0, .slice A1 st.length c1], .int .i64 n, .slice A2 notes.length c2] w fun e w' => e = .returned (.agg #[.int .i64 (-1), .int .i64 (-1)]) ∧ Below w.heap.size w w' :=
  quinariaref02_Lime.calls 200 A0 c0 sp A1 c1 st n A2 c2 notes (-1) (-1) w h.a.c h.a.le h.b.c h.b.le hA.c hA.le (by rw [limeR_f h1 h2 hn, if_pos he])
theorem limeR_some (h : LnAt w A0 A1 c0 c1 sp st) (hA : At' k68 w A2 notes.length c2 notes) (h1 : isLineB sp st = true) (h2 : numB st n = true) (hn : notesB notes = true) {a b : Int} (he : ¬ limes sp st n notes = []) (ha : rd (limes sp st n notes) 0 = a) (hb : lastR (limes sp st n notes) = b) :
    Calls Tryz.prog 40 #[.agg #[.slice A0 sp.length c0, .slice A1 st.length c1], .int .i64 n, .slice A2 notes.length c2] w fun e w' => e = .returned (.agg #[.int .i64 a, .int .i64 b]) ∧ Below w.heap.size w w' :=
  quinariaref02_Lime.calls 200 A0 c0 sp A1 c1 st n A2 c2 notes a b w h.a.c h.a.le h.b.c h.b.le hA.c hA.le (by rw [limeR_f h1 h2 hn, if_neg he, ha, hb])
theorem first_mem {L : List Int} (h : ¬ L = []) : rd L 0 ∈ L := by
  cases L with
  | nil => exact absurd rfl h
  | cons r M => simp [rd]
theorem lime_first (h1 : isLineB sp st = true) (h2 : numB st n = true) (hm : ¬ limes sp st n notes = []) {a : Int} (ha : rd (limes sp st n notes) 0 = a) : decide (a < 0) = false := by
  have := mem_limes.1 (first_mem hm)
  have := lo_hi h1 h2
  exact decide_eq_false (by omega)
end Go.Proofs.YtdmdahafiiggiaaGreatDoor.K
end
section
namespace Go.Proofs.YtdmdahafiiggiaaGreatDoor.K
open Go.RowKit Go.Shelf Go.Proofs.YtdmdahafiiggiaaGreatDoorW.PrintWords Go.Proofs.YtdmdahafiiggiaaGreatDoorW.PrintLast Go.Proofs.YtdmdahafiiggiaaGreatDoorW.PrintMore
set_option linter.unusedVariables false
set_option linter.unusedSimpArgs false
attribute [local go_sem high] eqA30
set_option maxRecDepth 100000 in
set_option maxHeartbeats 4000000 in
theorem ChannelLimes_law (A0 A1 : Option Addr) (c0 c1 : Nat) (sp : List Int) (st : List S32) (n1 : Int) (A4 : Option Addr) (c4 : Nat) (xs4 : List S68) (w : World) (hT : TabW w) (h0 : At' (Kd.int .i64) w A0 sp.length c0 sp) (h1 : At' k32 w A1 st.length c1 st) (g4 : At' k68 w A4 xs4.length c4 xs4) :
    Calls Tryz.prog 11 #[.agg #[.slice A0 sp.length c0, .slice A1 st.length c1], .int .i64 n1, .slice A4 xs4.length c4] w fun e w' => e = .returned (.bool true) ∧ Below w.heap.size w w' := by
  have hu25 := Tryz.underlying25
  have hu32 := Tryz.underlying32
  have hu68 := Tryz.underlying68
  have hu30 := Tryz.underlying30
  have HT := Aside0.mk hT
  have HB := Aside0.mk (Below.refl w.heap.size w)
  clear hT
  have GN := Aside0.mk g4
  clear g4
  have HL := Aside0.mk (LnAt.mk h0 h1)
  clear h0 h1
  go_enter Tryz.func11, Tryz.ntmps11
  go_upto_region 1 with (fail)
  obtain ⟨wm, hwn⟩ : ∃ wm, w.alloc (.cells #[.slice A0 sp.length c0, .slice A1 st.length c1] 25) = wm := ⟨_, rfl⟩
  have hb : Below w.heap.size w wm := by rw [← hwn]; exact ((Below.refl _ _).alloc (Nat.le_refl _) _)
  have XL : Aside0 (wm.heap[w.heap.size]? = some (.cells #[.slice A0 sp.length c0, .slice A1 st.length c1] 25 (0, 0))) := ⟨by rw [← hwn]; exact blk_new _ _⟩
  replace HT := Aside0.mk (HT.out.below hb)
  replace HB := Aside0.mk (below_step HB.out hb)
  replace GN := Aside0.mk (GN.out.below hb)
  replace HL := Aside0.mk (HL.out.below hb)
  try rw [hwn]
  clear hb hwn
  generalize w.heap.size = XL_b at XL ⊢
  rename World => wn
  have XLc0 := (blk_cell XL.out 0).trans rfl
  have XLc1 := (blk_cell XL.out 1).trans rfl
  cases hs : shortB sp st
  · go_wp2_with (first | (go_at_call 13; refine (short_any HL.out).mono ?_; rintro e wn ⟨rfl, hb⟩; replace HT := Aside0.mk (HT.out.below hb); replace HB := Aside0.mk (below_step HB.out hb); replace GN := Aside0.mk (GN.out.below hb); replace HL := Aside0.mk (HL.out.below hb); replace XL := Aside0.mk (blk_below XL.out hb); replace XLc0 := (blk_cell XL.out 0).trans rfl; replace XLc1 := (blk_cell XL.out 1).trans rfl; clear hb) | (go_at_call 14; refine (right_any hs HL.out).mono ?_; rintro e wn ⟨rfl, hb⟩; replace HT := Aside0.mk (HT.out.below hb); replace HB := Aside0.mk (below_step HB.out hb); replace GN := Aside0.mk (GN.out.below hb); replace HL := Aside0.mk (HL.out.below hb); replace XL := Aside0.mk (blk_below XL.out hb); replace XLc0 := (blk_cell XL.out 0).trans rfl; replace XLc1 := (blk_cell XL.out 1).trans rfl; clear hb) | (go_at_call 15; refine (number_any hs _ HL.out).mono ?_; rintro e wn ⟨rfl, hb⟩; replace HT := Aside0.mk (HT.out.below hb); replace HB := Aside0.mk (below_step HB.out hb); replace GN := Aside0.mk (GN.out.below hb); replace HL := Aside0.mk (HL.out.below hb); replace XL := Aside0.mk (blk_below XL.out hb); replace XLc0 := (blk_cell XL.out 0).trans rfl; replace XLc1 := (blk_cell XL.out 1).trans rfl; clear hb) | (go_at_call 16; refine (age_any _ _).mono ?_; rintro e wn ⟨rfl, hb⟩; replace HT := Aside0.mk (HT.out.below hb); replace HB := Aside0.mk (below_step HB.out hb); replace GN := Aside0.mk (GN.out.below hb); replace HL := Aside0.mk (HL.out.below hb); replace XL := Aside0.mk (blk_below XL.out hb); replace XLc0 := (blk_cell XL.out 0).trans rfl; replace XLc1 := (blk_cell XL.out 1).trans rfl; clear hb) | (go_at_call 29; refine (need_any _ _).mono ?_; rintro e wn ⟨rfl, hb⟩; replace HT := Aside0.mk (HT.out.below hb); replace HB := Aside0.mk (below_step HB.out hb); replace GN := Aside0.mk (GN.out.below hb); replace HL := Aside0.mk (HL.out.below hb); replace XL := Aside0.mk (blk_below XL.out hb); replace XLc0 := (blk_cell XL.out 0).trans rfl; replace XLc1 := (blk_cell XL.out 1).trans rfl; clear hb) | (go_at_call 17; refine (known_any _ HT.out).mono ?_; rintro e wn ⟨rfl, hb⟩; replace HT := Aside0.mk (HT.out.below hb); replace HB := Aside0.mk (below_step HB.out hb); replace GN := Aside0.mk (GN.out.below hb); replace HL := Aside0.mk (HL.out.below hb); replace XL := Aside0.mk (blk_below XL.out hb); replace XLc0 := (blk_cell XL.out 0).trans rfl; replace XLc1 := (blk_cell XL.out 1).trans rfl; clear hb))
    go_ret
    exact ⟨rfl, HB.out⟩
  cases hk : decide ((11 : Int) < (xs4.length : Int))
  rotate_left
  · go_wp2_with (first | (go_at_call 13; refine (short_any HL.out).mono ?_; rintro e wn ⟨rfl, hb⟩; replace HT := Aside0.mk (HT.out.below hb); replace HB := Aside0.mk (below_step HB.out hb); replace GN := Aside0.mk (GN.out.below hb); replace HL := Aside0.mk (HL.out.below hb); replace XL := Aside0.mk (blk_below XL.out hb); replace XLc0 := (blk_cell XL.out 0).trans rfl; replace XLc1 := (blk_cell XL.out 1).trans rfl; clear hb) | (go_at_call 14; refine (right_any hs HL.out).mono ?_; rintro e wn ⟨rfl, hb⟩; replace HT := Aside0.mk (HT.out.below hb); replace HB := Aside0.mk (below_step HB.out hb); replace GN := Aside0.mk (GN.out.below hb); replace HL := Aside0.mk (HL.out.below hb); replace XL := Aside0.mk (blk_below XL.out hb); replace XLc0 := (blk_cell XL.out 0).trans rfl; replace XLc1 := (blk_cell XL.out 1).trans rfl; clear hb) | (go_at_call 15; refine (number_any hs _ HL.out).mono ?_; rintro e wn ⟨rfl, hb⟩; replace HT := Aside0.mk (HT.out.below hb); replace HB := Aside0.mk (below_step HB.out hb); replace GN := Aside0.mk (GN.out.below hb); replace HL := Aside0.mk (HL.out.below hb); replace XL := Aside0.mk (blk_below XL.out hb); replace XLc0 := (blk_cell XL.out 0).trans rfl; replace XLc1 := (blk_cell XL.out 1).trans rfl; clear hb) | (go_at_call 16; refine (age_any _ _).mono ?_; rintro e wn ⟨rfl, hb⟩; replace HT := Aside0.mk (HT.out.below hb); replace HB := Aside0.mk (below_step HB.out hb); replace GN := Aside0.mk (GN.out.below hb); replace HL := Aside0.mk (HL.out.below hb); replace XL := Aside0.mk (blk_below XL.out hb); replace XLc0 := (blk_cell XL.out 0).trans rfl; replace XLc1 := (blk_cell XL.out 1).trans rfl; clear hb) | (go_at_call 29; refine (need_any _ _).mono ?_; rintro e wn ⟨rfl, hb⟩; replace HT := Aside0.mk (HT.out.below hb); replace HB := Aside0.mk (below_step HB.out hb); replace GN := Aside0.mk (GN.out.below hb); replace HL := Aside0.mk (HL.out.below hb); replace XL := Aside0.mk (blk_below XL.out hb); replace XLc0 := (blk_cell XL.out 0).trans rfl; replace XLc1 := (blk_cell XL.out 1).trans rfl; clear hb) | (go_at_call 17; refine (known_any _ HT.out).mono ?_; rintro e wn ⟨rfl, hb⟩; replace HT := Aside0.mk (HT.out.below hb); replace HB := Aside0.mk (below_step HB.out hb); replace GN := Aside0.mk (GN.out.below hb); replace HL := Aside0.mk (HL.out.below hb); replace XL := Aside0.mk (blk_below XL.out hb); replace XLc0 := (blk_cell XL.out 0).trans rfl; replace XLc1 := (blk_cell XL.out 1).trans rfl; clear hb))
    go_ret
    exact ⟨rfl, HB.out⟩
  have hk' : xs4.length ≤ 99 := by simp at hk; omega
  cases hr : isLineB sp st
  ·
    go_upto_region 4 with (first | (go_at_call 13; refine (short_any HL.out).mono ?_; rintro e wn ⟨rfl, hb⟩; replace HT := Aside0.mk (HT.out.below hb); replace HB := Aside0.mk (below_step HB.out hb); replace GN := Aside0.mk (GN.out.below hb); replace HL := Aside0.mk (HL.out.below hb); replace XL := Aside0.mk (blk_below XL.out hb); replace XLc0 := (blk_cell XL.out 0).trans rfl; replace XLc1 := (blk_cell XL.out 1).trans rfl; clear hb) | (go_at_call 14; refine (right_any hs HL.out).mono ?_; rintro e wn ⟨rfl, hb⟩; replace HT := Aside0.mk (HT.out.below hb); replace HB := Aside0.mk (below_step HB.out hb); replace GN := Aside0.mk (GN.out.below hb); replace HL := Aside0.mk (HL.out.below hb); replace XL := Aside0.mk (blk_below XL.out hb); replace XLc0 := (blk_cell XL.out 0).trans rfl; replace XLc1 := (blk_cell XL.out 1).trans rfl; clear hb) | (go_at_call 15; refine (number_any hs _ HL.out).mono ?_; rintro e wn ⟨rfl, hb⟩; replace HT := Aside0.mk (HT.out.below hb); replace HB := Aside0.mk (below_step HB.out hb); replace GN := Aside0.mk (GN.out.below hb); replace HL := Aside0.mk (HL.out.below hb); replace XL := Aside0.mk (blk_below XL.out hb); replace XLc0 := (blk_cell XL.out 0).trans rfl; replace XLc1 := (blk_cell XL.out 1).trans rfl; clear hb) | (go_at_call 16; refine (age_any _ _).mono ?_; rintro e wn ⟨rfl, hb⟩; replace HT := Aside0.mk (HT.out.below hb); replace HB := Aside0.mk (below_step HB.out hb); replace GN := Aside0.mk (GN.out.below hb); replace HL := Aside0.mk (HL.out.below hb); replace XL := Aside0.mk (blk_below XL.out hb); replace XLc0 := (blk_cell XL.out 0).trans rfl; replace XLc1 := (blk_cell XL.out 1).trans rfl; clear hb) | (go_at_call 29; refine (need_any _ _).mono ?_; rintro e wn ⟨rfl, hb⟩; replace HT := Aside0.mk (HT.out.below hb); replace HB := Aside0.mk (below_step HB.out hb); replace GN := Aside0.mk (GN.out.below hb); replace HL := Aside0.mk (HL.out.below hb); replace XL := Aside0.mk (blk_below XL.out hb); replace XLc0 := (blk_cell XL.out 0).trans rfl; replace XLc1 := (blk_cell XL.out 1).trans rfl; clear hb) | (go_at_call 38; refine (lime_wrong HL.out GN.out (by rw [hr]; rfl)).mono ?_; rintro e wn ⟨rfl, hb⟩; replace HT := Aside0.mk (HT.out.below hb); replace HB := Aside0.mk (below_step HB.out hb); replace GN := Aside0.mk (GN.out.below hb); replace HL := Aside0.mk (HL.out.below hb); replace XL := Aside0.mk (blk_below XL.out hb); replace XLc0 := (blk_cell XL.out 0).trans rfl; replace XLc1 := (blk_cell XL.out 1).trans rfl; clear hb))
    obtain ⟨wm, hwn⟩ : ∃ wm, wn.alloc (.cells #[.int .i64 0, .int .i64 0] 30) = wm := ⟨_, rfl⟩
    have hb : Below wn.heap.size wn wm := by rw [← hwn]; exact ((Below.refl _ _).alloc (Nat.le_refl _) _)
    have XS : Aside0 (wm.heap[wn.heap.size]? = some (.cells #[.int .i64 0, .int .i64 0] 30 (0, 0))) := ⟨by rw [← hwn]; exact blk_new _ _⟩
    replace HT := Aside0.mk (HT.out.below hb)
    replace HB := Aside0.mk (below_step HB.out hb)
    replace GN := Aside0.mk (GN.out.below hb)
    replace HL := Aside0.mk (HL.out.below hb)
    replace XL := Aside0.mk (blk_below XL.out hb)
    replace XLc0 := (blk_cell XL.out 0).trans rfl
    replace XLc1 := (blk_cell XL.out 1).trans rfl
    try rw [hwn]
    clear hb hwn
    generalize wn.heap.size = XS_b at XS ⊢
    rename World => wn
    have XSc0 := (blk_cell XS.out 0).trans rfl
    have XSc1 := (blk_cell XS.out 1).trans rfl
    go_wp2_with (first | (go_at_call 13; refine (short_any HL.out).mono ?_; rintro e wn ⟨rfl, hb⟩; replace HT := Aside0.mk (HT.out.below hb); replace HB := Aside0.mk (below_step HB.out hb); replace GN := Aside0.mk (GN.out.below hb); replace HL := Aside0.mk (HL.out.below hb); replace XL := Aside0.mk (blk_below XL.out hb); replace XLc0 := (blk_cell XL.out 0).trans rfl; replace XLc1 := (blk_cell XL.out 1).trans rfl; replace XS := Aside0.mk (blk_below XS.out hb); replace XSc0 := (blk_cell XS.out 0).trans rfl; replace XSc1 := (blk_cell XS.out 1).trans rfl; clear hb) | (go_at_call 14; refine (right_any hs HL.out).mono ?_; rintro e wn ⟨rfl, hb⟩; replace HT := Aside0.mk (HT.out.below hb); replace HB := Aside0.mk (below_step HB.out hb); replace GN := Aside0.mk (GN.out.below hb); replace HL := Aside0.mk (HL.out.below hb); replace XL := Aside0.mk (blk_below XL.out hb); replace XLc0 := (blk_cell XL.out 0).trans rfl; replace XLc1 := (blk_cell XL.out 1).trans rfl; replace XS := Aside0.mk (blk_below XS.out hb); replace XSc0 := (blk_cell XS.out 0).trans rfl; replace XSc1 := (blk_cell XS.out 1).trans rfl; clear hb) | (go_at_call 15; refine (number_any hs _ HL.out).mono ?_; rintro e wn ⟨rfl, hb⟩; replace HT := Aside0.mk (HT.out.below hb); replace HB := Aside0.mk (below_step HB.out hb); replace GN := Aside0.mk (GN.out.below hb); replace HL := Aside0.mk (HL.out.below hb); replace XL := Aside0.mk (blk_below XL.out hb); replace XLc0 := (blk_cell XL.out 0).trans rfl; replace XLc1 := (blk_cell XL.out 1).trans rfl; replace XS := Aside0.mk (blk_below XS.out hb); replace XSc0 := (blk_cell XS.out 0).trans rfl; replace XSc1 := (blk_cell XS.out 1).trans rfl; clear hb) | (go_at_call 16; refine (age_any _ _).mono ?_; rintro e wn ⟨rfl, hb⟩; replace HT := Aside0.mk (HT.out.below hb); replace HB := Aside0.mk (below_step HB.out hb); replace GN := Aside0.mk (GN.out.below hb); replace HL := Aside0.mk (HL.out.below hb); replace XL := Aside0.mk (blk_below XL.out hb); replace XLc0 := (blk_cell XL.out 0).trans rfl; replace XLc1 := (blk_cell XL.out 1).trans rfl; replace XS := Aside0.mk (blk_below XS.out hb); replace XSc0 := (blk_cell XS.out 0).trans rfl; replace XSc1 := (blk_cell XS.out 1).trans rfl; clear hb) | (go_at_call 29; refine (need_any _ _).mono ?_; rintro e wn ⟨rfl, hb⟩; replace HT := Aside0.mk (HT.out.below hb); replace HB := Aside0.mk (below_step HB.out hb); replace GN := Aside0.mk (GN.out.below hb); replace HL := Aside0.mk (HL.out.below hb); replace XL := Aside0.mk (blk_below XL.out hb); replace XLc0 := (blk_cell XL.out 0).trans rfl; replace XLc1 := (blk_cell XL.out 1).trans rfl; replace XS := Aside0.mk (blk_below XS.out hb); replace XSc0 := (blk_cell XS.out 0).trans rfl; replace XSc1 := (blk_cell XS.out 1).trans rfl; clear hb) | (go_at_call 39; refine (notesR_any hk' GN.out).mono ?_; rintro e wn ⟨rfl, hb⟩; replace HT := Aside0.mk (HT.out.below hb); replace HB := Aside0.mk (below_step HB.out hb); replace GN := Aside0.mk (GN.out.below hb); replace HL := Aside0.mk (HL.out.below hb); replace XL := Aside0.mk (blk_below XL.out hb); replace XLc0 := (blk_cell XL.out 0).trans rfl; replace XLc1 := (blk_cell XL.out 1).trans rfl; replace XS := Aside0.mk (blk_below XS.out hb); replace XSc0 := (blk_cell XS.out 0).trans rfl; replace XSc1 := (blk_cell XS.out 1).trans rfl; clear hb) | (go_at_call 17; refine (known_any _ HT.out).mono ?_; rintro e wn ⟨rfl, hb⟩; replace HT := Aside0.mk (HT.out.below hb); replace HB := Aside0.mk (below_step HB.out hb); replace GN := Aside0.mk (GN.out.below hb); replace HL := Aside0.mk (HL.out.below hb); replace XL := Aside0.mk (blk_below XL.out hb); replace XLc0 := (blk_cell XL.out 0).trans rfl; replace XLc1 := (blk_cell XL.out 1).trans rfl; replace XS := Aside0.mk (blk_below XS.out hb); replace XSc0 := (blk_cell XS.out 0).trans rfl; replace XSc1 := (blk_cell XS.out 1).trans rfl; clear hb))
    go_ret
    exact ⟨rfl, HB.out⟩
  cases hn : numB st n1
  ·
    go_upto_region 4 with (first | (go_at_call 13; refine (short_any HL.out).mono ?_; rintro e wn ⟨rfl, hb⟩; replace HT := Aside0.mk (HT.out.below hb); replace HB := Aside0.mk (below_step HB.out hb); replace GN := Aside0.mk (GN.out.below hb); replace HL := Aside0.mk (HL.out.below hb); replace XL := Aside0.mk (blk_below XL.out hb); replace XLc0 := (blk_cell XL.out 0).trans rfl; replace XLc1 := (blk_cell XL.out 1).trans rfl; clear hb) | (go_at_call 14; refine (right_any hs HL.out).mono ?_; rintro e wn ⟨rfl, hb⟩; replace HT := Aside0.mk (HT.out.below hb); replace HB := Aside0.mk (below_step HB.out hb); replace GN := Aside0.mk (GN.out.below hb); replace HL := Aside0.mk (HL.out.below hb); replace XL := Aside0.mk (blk_below XL.out hb); replace XLc0 := (blk_cell XL.out 0).trans rfl; replace XLc1 := (blk_cell XL.out 1).trans rfl; clear hb) | (go_at_call 15; refine (number_any hs _ HL.out).mono ?_; rintro e wn ⟨rfl, hb⟩; replace HT := Aside0.mk (HT.out.below hb); replace HB := Aside0.mk (below_step HB.out hb); replace GN := Aside0.mk (GN.out.below hb); replace HL := Aside0.mk (HL.out.below hb); replace XL := Aside0.mk (blk_below XL.out hb); replace XLc0 := (blk_cell XL.out 0).trans rfl; replace XLc1 := (blk_cell XL.out 1).trans rfl; clear hb) | (go_at_call 16; refine (age_any _ _).mono ?_; rintro e wn ⟨rfl, hb⟩; replace HT := Aside0.mk (HT.out.below hb); replace HB := Aside0.mk (below_step HB.out hb); replace GN := Aside0.mk (GN.out.below hb); replace HL := Aside0.mk (HL.out.below hb); replace XL := Aside0.mk (blk_below XL.out hb); replace XLc0 := (blk_cell XL.out 0).trans rfl; replace XLc1 := (blk_cell XL.out 1).trans rfl; clear hb) | (go_at_call 29; refine (need_any _ _).mono ?_; rintro e wn ⟨rfl, hb⟩; replace HT := Aside0.mk (HT.out.below hb); replace HB := Aside0.mk (below_step HB.out hb); replace GN := Aside0.mk (GN.out.below hb); replace HL := Aside0.mk (HL.out.below hb); replace XL := Aside0.mk (blk_below XL.out hb); replace XLc0 := (blk_cell XL.out 0).trans rfl; replace XLc1 := (blk_cell XL.out 1).trans rfl; clear hb) | (go_at_call 38; refine (lime_wrong HL.out GN.out (by rw [hr, hn]; rfl)).mono ?_; rintro e wn ⟨rfl, hb⟩; replace HT := Aside0.mk (HT.out.below hb); replace HB := Aside0.mk (below_step HB.out hb); replace GN := Aside0.mk (GN.out.below hb); replace HL := Aside0.mk (HL.out.below hb); replace XL := Aside0.mk (blk_below XL.out hb); replace XLc0 := (blk_cell XL.out 0).trans rfl; replace XLc1 := (blk_cell XL.out 1).trans rfl; clear hb))
    obtain ⟨wm, hwn⟩ : ∃ wm, wn.alloc (.cells #[.int .i64 0, .int .i64 0] 30) = wm := ⟨_, rfl⟩
    have hb : Below wn.heap.size wn wm := by rw [← hwn]; exact ((Below.refl _ _).alloc (Nat.le_refl _) _)
    have XS : Aside0 (wm.heap[wn.heap.size]? = some (.cells #[.int .i64 0, .int .i64 0] 30 (0, 0))) := ⟨by rw [← hwn]; exact blk_new _ _⟩
    replace HT := Aside0.mk (HT.out.below hb)
    replace HB := Aside0.mk (below_step HB.out hb)
    replace GN := Aside0.mk (GN.out.below hb)
    replace HL := Aside0.mk (HL.out.below hb)
    replace XL := Aside0.mk (blk_below XL.out hb)
    replace XLc0 := (blk_cell XL.out 0).trans rfl
    replace XLc1 := (blk_cell XL.out 1).trans rfl
    try rw [hwn]
    clear hb hwn
    generalize wn.heap.size = XS_b at XS ⊢
    rename World => wn
    have XSc0 := (blk_cell XS.out 0).trans rfl
    have XSc1 := (blk_cell XS.out 1).trans rfl
    go_wp2_with (first | (go_at_call 13; refine (short_any HL.out).mono ?_; rintro e wn ⟨rfl, hb⟩; replace HT := Aside0.mk (HT.out.below hb); replace HB := Aside0.mk (below_step HB.out hb); replace GN := Aside0.mk (GN.out.below hb); replace HL := Aside0.mk (HL.out.below hb); replace XL := Aside0.mk (blk_below XL.out hb); replace XLc0 := (blk_cell XL.out 0).trans rfl; replace XLc1 := (blk_cell XL.out 1).trans rfl; replace XS := Aside0.mk (blk_below XS.out hb); replace XSc0 := (blk_cell XS.out 0).trans rfl; replace XSc1 := (blk_cell XS.out 1).trans rfl; clear hb) | (go_at_call 14; refine (right_any hs HL.out).mono ?_; rintro e wn ⟨rfl, hb⟩; replace HT := Aside0.mk (HT.out.below hb); replace HB := Aside0.mk (below_step HB.out hb); replace GN := Aside0.mk (GN.out.below hb); replace HL := Aside0.mk (HL.out.below hb); replace XL := Aside0.mk (blk_below XL.out hb); replace XLc0 := (blk_cell XL.out 0).trans rfl; replace XLc1 := (blk_cell XL.out 1).trans rfl; replace XS := Aside0.mk (blk_below XS.out hb); replace XSc0 := (blk_cell XS.out 0).trans rfl; replace XSc1 := (blk_cell XS.out 1).trans rfl; clear hb) | (go_at_call 15; refine (number_any hs _ HL.out).mono ?_; rintro e wn ⟨rfl, hb⟩; replace HT := Aside0.mk (HT.out.below hb); replace HB := Aside0.mk (below_step HB.out hb); replace GN := Aside0.mk (GN.out.below hb); replace HL := Aside0.mk (HL.out.below hb); replace XL := Aside0.mk (blk_below XL.out hb); replace XLc0 := (blk_cell XL.out 0).trans rfl; replace XLc1 := (blk_cell XL.out 1).trans rfl; replace XS := Aside0.mk (blk_below XS.out hb); replace XSc0 := (blk_cell XS.out 0).trans rfl; replace XSc1 := (blk_cell XS.out 1).trans rfl; clear hb) | (go_at_call 16; refine (age_any _ _).mono ?_; rintro e wn ⟨rfl, hb⟩; replace HT := Aside0.mk (HT.out.below hb); replace HB := Aside0.mk (below_step HB.out hb); replace GN := Aside0.mk (GN.out.below hb); replace HL := Aside0.mk (HL.out.below hb); replace XL := Aside0.mk (blk_below XL.out hb); replace XLc0 := (blk_cell XL.out 0).trans rfl; replace XLc1 := (blk_cell XL.out 1).trans rfl; replace XS := Aside0.mk (blk_below XS.out hb); replace XSc0 := (blk_cell XS.out 0).trans rfl; replace XSc1 := (blk_cell XS.out 1).trans rfl; clear hb) | (go_at_call 29; refine (need_any _ _).mono ?_; rintro e wn ⟨rfl, hb⟩; replace HT := Aside0.mk (HT.out.below hb); replace HB := Aside0.mk (below_step HB.out hb); replace GN := Aside0.mk (GN.out.below hb); replace HL := Aside0.mk (HL.out.below hb); replace XL := Aside0.mk (blk_below XL.out hb); replace XLc0 := (blk_cell XL.out 0).trans rfl; replace XLc1 := (blk_cell XL.out 1).trans rfl; replace XS := Aside0.mk (blk_below XS.out hb); replace XSc0 := (blk_cell XS.out 0).trans rfl; replace XSc1 := (blk_cell XS.out 1).trans rfl; clear hb) | (go_at_call 39; refine (notesR_any hk' GN.out).mono ?_; rintro e wn ⟨rfl, hb⟩; replace HT := Aside0.mk (HT.out.below hb); replace HB := Aside0.mk (below_step HB.out hb); replace GN := Aside0.mk (GN.out.below hb); replace HL := Aside0.mk (HL.out.below hb); replace XL := Aside0.mk (blk_below XL.out hb); replace XLc0 := (blk_cell XL.out 0).trans rfl; replace XLc1 := (blk_cell XL.out 1).trans rfl; replace XS := Aside0.mk (blk_below XS.out hb); replace XSc0 := (blk_cell XS.out 0).trans rfl; replace XSc1 := (blk_cell XS.out 1).trans rfl; clear hb) | (go_at_call 17; refine (known_any _ HT.out).mono ?_; rintro e wn ⟨rfl, hb⟩; replace HT := Aside0.mk (HT.out.below hb); replace HB := Aside0.mk (below_step HB.out hb); replace GN := Aside0.mk (GN.out.below hb); replace HL := Aside0.mk (HL.out.below hb); replace XL := Aside0.mk (blk_below XL.out hb); replace XLc0 := (blk_cell XL.out 0).trans rfl; replace XLc1 := (blk_cell XL.out 1).trans rfl; replace XS := Aside0.mk (blk_below XS.out hb); replace XSc0 := (blk_cell XS.out 0).trans rfl; replace XSc1 := (blk_cell XS.out 1).trans rfl; clear hb))
    go_ret
    exact ⟨rfl, HB.out⟩
  cases hq : notesB xs4
  ·
    go_upto_region 4 with (first | (go_at_call 13; refine (short_any HL.out).mono ?_; rintro e wn ⟨rfl, hb⟩; replace HT := Aside0.mk (HT.out.below hb); replace HB := Aside0.mk (below_step HB.out hb); replace GN := Aside0.mk (GN.out.below hb); replace HL := Aside0.mk (HL.out.below hb); replace XL := Aside0.mk (blk_below XL.out hb); replace XLc0 := (blk_cell XL.out 0).trans rfl; replace XLc1 := (blk_cell XL.out 1).trans rfl; clear hb) | (go_at_call 14; refine (right_any hs HL.out).mono ?_; rintro e wn ⟨rfl, hb⟩; replace HT := Aside0.mk (HT.out.below hb); replace HB := Aside0.mk (below_step HB.out hb); replace GN := Aside0.mk (GN.out.below hb); replace HL := Aside0.mk (HL.out.below hb); replace XL := Aside0.mk (blk_below XL.out hb); replace XLc0 := (blk_cell XL.out 0).trans rfl; replace XLc1 := (blk_cell XL.out 1).trans rfl; clear hb) | (go_at_call 15; refine (number_any hs _ HL.out).mono ?_; rintro e wn ⟨rfl, hb⟩; replace HT := Aside0.mk (HT.out.below hb); replace HB := Aside0.mk (below_step HB.out hb); replace GN := Aside0.mk (GN.out.below hb); replace HL := Aside0.mk (HL.out.below hb); replace XL := Aside0.mk (blk_below XL.out hb); replace XLc0 := (blk_cell XL.out 0).trans rfl; replace XLc1 := (blk_cell XL.out 1).trans rfl; clear hb) | (go_at_call 16; refine (age_any _ _).mono ?_; rintro e wn ⟨rfl, hb⟩; replace HT := Aside0.mk (HT.out.below hb); replace HB := Aside0.mk (below_step HB.out hb); replace GN := Aside0.mk (GN.out.below hb); replace HL := Aside0.mk (HL.out.below hb); replace XL := Aside0.mk (blk_below XL.out hb); replace XLc0 := (blk_cell XL.out 0).trans rfl; replace XLc1 := (blk_cell XL.out 1).trans rfl; clear hb) | (go_at_call 29; refine (need_any _ _).mono ?_; rintro e wn ⟨rfl, hb⟩; replace HT := Aside0.mk (HT.out.below hb); replace HB := Aside0.mk (below_step HB.out hb); replace GN := Aside0.mk (GN.out.below hb); replace HL := Aside0.mk (HL.out.below hb); replace XL := Aside0.mk (blk_below XL.out hb); replace XLc0 := (blk_cell XL.out 0).trans rfl; replace XLc1 := (blk_cell XL.out 1).trans rfl; clear hb) | (go_at_call 38; refine (lime_wrong HL.out GN.out (by rw [hr, hn, hq]; rfl)).mono ?_; rintro e wn ⟨rfl, hb⟩; replace HT := Aside0.mk (HT.out.below hb); replace HB := Aside0.mk (below_step HB.out hb); replace GN := Aside0.mk (GN.out.below hb); replace HL := Aside0.mk (HL.out.below hb); replace XL := Aside0.mk (blk_below XL.out hb); replace XLc0 := (blk_cell XL.out 0).trans rfl; replace XLc1 := (blk_cell XL.out 1).trans rfl; clear hb))
    obtain ⟨wm, hwn⟩ : ∃ wm, wn.alloc (.cells #[.int .i64 0, .int .i64 0] 30) = wm := ⟨_, rfl⟩
    have hb : Below wn.heap.size wn wm := by rw [← hwn]; exact ((Below.refl _ _).alloc (Nat.le_refl _) _)
    have XS : Aside0 (wm.heap[wn.heap.size]? = some (.cells #[.int .i64 0, .int .i64 0] 30 (0, 0))) := ⟨by rw [← hwn]; exact blk_new _ _⟩
    replace HT := Aside0.mk (HT.out.below hb)
    replace HB := Aside0.mk (below_step HB.out hb)
    replace GN := Aside0.mk (GN.out.below hb)
    replace HL := Aside0.mk (HL.out.below hb)
    replace XL := Aside0.mk (blk_below XL.out hb)
    replace XLc0 := (blk_cell XL.out 0).trans rfl
    replace XLc1 := (blk_cell XL.out 1).trans rfl
    try rw [hwn]
    clear hb hwn
    generalize wn.heap.size = XS_b at XS ⊢
    rename World => wn
    have XSc0 := (blk_cell XS.out 0).trans rfl
    have XSc1 := (blk_cell XS.out 1).trans rfl
    go_wp2_with (first | (go_at_call 13; refine (short_any HL.out).mono ?_; rintro e wn ⟨rfl, hb⟩; replace HT := Aside0.mk (HT.out.below hb); replace HB := Aside0.mk (below_step HB.out hb); replace GN := Aside0.mk (GN.out.below hb); replace HL := Aside0.mk (HL.out.below hb); replace XL := Aside0.mk (blk_below XL.out hb); replace XLc0 := (blk_cell XL.out 0).trans rfl; replace XLc1 := (blk_cell XL.out 1).trans rfl; replace XS := Aside0.mk (blk_below XS.out hb); replace XSc0 := (blk_cell XS.out 0).trans rfl; replace XSc1 := (blk_cell XS.out 1).trans rfl; clear hb) | (go_at_call 14; refine (right_any hs HL.out).mono ?_; rintro e wn ⟨rfl, hb⟩; replace HT := Aside0.mk (HT.out.below hb); replace HB := Aside0.mk (below_step HB.out hb); replace GN := Aside0.mk (GN.out.below hb); replace HL := Aside0.mk (HL.out.below hb); replace XL := Aside0.mk (blk_below XL.out hb); replace XLc0 := (blk_cell XL.out 0).trans rfl; replace XLc1 := (blk_cell XL.out 1).trans rfl; replace XS := Aside0.mk (blk_below XS.out hb); replace XSc0 := (blk_cell XS.out 0).trans rfl; replace XSc1 := (blk_cell XS.out 1).trans rfl; clear hb) | (go_at_call 15; refine (number_any hs _ HL.out).mono ?_; rintro e wn ⟨rfl, hb⟩; replace HT := Aside0.mk (HT.out.below hb); replace HB := Aside0.mk (below_step HB.out hb); replace GN := Aside0.mk (GN.out.below hb); replace HL := Aside0.mk (HL.out.below hb); replace XL := Aside0.mk (blk_below XL.out hb); replace XLc0 := (blk_cell XL.out 0).trans rfl; replace XLc1 := (blk_cell XL.out 1).trans rfl; replace XS := Aside0.mk (blk_below XS.out hb); replace XSc0 := (blk_cell XS.out 0).trans rfl; replace XSc1 := (blk_cell XS.out 1).trans rfl; clear hb) | (go_at_call 16; refine (age_any _ _).mono ?_; rintro e wn ⟨rfl, hb⟩; replace HT := Aside0.mk (HT.out.below hb); replace HB := Aside0.mk (below_step HB.out hb); replace GN := Aside0.mk (GN.out.below hb); replace HL := Aside0.mk (HL.out.below hb); replace XL := Aside0.mk (blk_below XL.out hb); replace XLc0 := (blk_cell XL.out 0).trans rfl; replace XLc1 := (blk_cell XL.out 1).trans rfl; replace XS := Aside0.mk (blk_below XS.out hb); replace XSc0 := (blk_cell XS.out 0).trans rfl; replace XSc1 := (blk_cell XS.out 1).trans rfl; clear hb) | (go_at_call 29; refine (need_any _ _).mono ?_; rintro e wn ⟨rfl, hb⟩; replace HT := Aside0.mk (HT.out.below hb); replace HB := Aside0.mk (below_step HB.out hb); replace GN := Aside0.mk (GN.out.below hb); replace HL := Aside0.mk (HL.out.below hb); replace XL := Aside0.mk (blk_below XL.out hb); replace XLc0 := (blk_cell XL.out 0).trans rfl; replace XLc1 := (blk_cell XL.out 1).trans rfl; replace XS := Aside0.mk (blk_below XS.out hb); replace XSc0 := (blk_cell XS.out 0).trans rfl; replace XSc1 := (blk_cell XS.out 1).trans rfl; clear hb) | (go_at_call 39; refine (notesR_any hk' GN.out).mono ?_; rintro e wn ⟨rfl, hb⟩; replace HT := Aside0.mk (HT.out.below hb); replace HB := Aside0.mk (below_step HB.out hb); replace GN := Aside0.mk (GN.out.below hb); replace HL := Aside0.mk (HL.out.below hb); replace XL := Aside0.mk (blk_below XL.out hb); replace XLc0 := (blk_cell XL.out 0).trans rfl; replace XLc1 := (blk_cell XL.out 1).trans rfl; replace XS := Aside0.mk (blk_below XS.out hb); replace XSc0 := (blk_cell XS.out 0).trans rfl; replace XSc1 := (blk_cell XS.out 1).trans rfl; clear hb) | (go_at_call 17; refine (known_any _ HT.out).mono ?_; rintro e wn ⟨rfl, hb⟩; replace HT := Aside0.mk (HT.out.below hb); replace HB := Aside0.mk (below_step HB.out hb); replace GN := Aside0.mk (GN.out.below hb); replace HL := Aside0.mk (HL.out.below hb); replace XL := Aside0.mk (blk_below XL.out hb); replace XLc0 := (blk_cell XL.out 0).trans rfl; replace XLc1 := (blk_cell XL.out 1).trans rfl; replace XS := Aside0.mk (blk_below XS.out hb); replace XSc0 := (blk_cell XS.out 0).trans rfl; replace XSc1 := (blk_cell XS.out 1).trans rfl; clear hb))
    go_ret
    exact ⟨rfl, HB.out⟩
  by_cases hm : limes sp st n1 xs4 = []
  ·
    go_upto_region 4 with (first | (go_at_call 13; refine (short_any HL.out).mono ?_; rintro e wn ⟨rfl, hb⟩; replace HT := Aside0.mk (HT.out.below hb); replace HB := Aside0.mk (below_step HB.out hb); replace GN := Aside0.mk (GN.out.below hb); replace HL := Aside0.mk (HL.out.below hb); replace XL := Aside0.mk (blk_below XL.out hb); replace XLc0 := (blk_cell XL.out 0).trans rfl; replace XLc1 := (blk_cell XL.out 1).trans rfl; clear hb) | (go_at_call 14; refine (right_any hs HL.out).mono ?_; rintro e wn ⟨rfl, hb⟩; replace HT := Aside0.mk (HT.out.below hb); replace HB := Aside0.mk (below_step HB.out hb); replace GN := Aside0.mk (GN.out.below hb); replace HL := Aside0.mk (HL.out.below hb); replace XL := Aside0.mk (blk_below XL.out hb); replace XLc0 := (blk_cell XL.out 0).trans rfl; replace XLc1 := (blk_cell XL.out 1).trans rfl; clear hb) | (go_at_call 15; refine (number_any hs _ HL.out).mono ?_; rintro e wn ⟨rfl, hb⟩; replace HT := Aside0.mk (HT.out.below hb); replace HB := Aside0.mk (below_step HB.out hb); replace GN := Aside0.mk (GN.out.below hb); replace HL := Aside0.mk (HL.out.below hb); replace XL := Aside0.mk (blk_below XL.out hb); replace XLc0 := (blk_cell XL.out 0).trans rfl; replace XLc1 := (blk_cell XL.out 1).trans rfl; clear hb) | (go_at_call 16; refine (age_any _ _).mono ?_; rintro e wn ⟨rfl, hb⟩; replace HT := Aside0.mk (HT.out.below hb); replace HB := Aside0.mk (below_step HB.out hb); replace GN := Aside0.mk (GN.out.below hb); replace HL := Aside0.mk (HL.out.below hb); replace XL := Aside0.mk (blk_below XL.out hb); replace XLc0 := (blk_cell XL.out 0).trans rfl; replace XLc1 := (blk_cell XL.out 1).trans rfl; clear hb) | (go_at_call 29; refine (need_any _ _).mono ?_; rintro e wn ⟨rfl, hb⟩; replace HT := Aside0.mk (HT.out.below hb); replace HB := Aside0.mk (below_step HB.out hb); replace GN := Aside0.mk (GN.out.below hb); replace HL := Aside0.mk (HL.out.below hb); replace XL := Aside0.mk (blk_below XL.out hb); replace XLc0 := (blk_cell XL.out 0).trans rfl; replace XLc1 := (blk_cell XL.out 1).trans rfl; clear hb) | (go_at_call 38; refine (lime_none HL.out GN.out hr hn hq hm).mono ?_; rintro e wn ⟨rfl, hb⟩; replace HT := Aside0.mk (HT.out.below hb); replace HB := Aside0.mk (below_step HB.out hb); replace GN := Aside0.mk (GN.out.below hb); replace HL := Aside0.mk (HL.out.below hb); replace XL := Aside0.mk (blk_below XL.out hb); replace XLc0 := (blk_cell XL.out 0).trans rfl; replace XLc1 := (blk_cell XL.out 1).trans rfl; clear hb))
    obtain ⟨wm, hwn⟩ : ∃ wm, wn.alloc (.cells #[.int .i64 0, .int .i64 0] 30) = wm := ⟨_, rfl⟩
    have hb : Below wn.heap.size wn wm := by rw [← hwn]; exact ((Below.refl _ _).alloc (Nat.le_refl _) _)
    have XS : Aside0 (wm.heap[wn.heap.size]? = some (.cells #[.int .i64 0, .int .i64 0] 30 (0, 0))) := ⟨by rw [← hwn]; exact blk_new _ _⟩
    replace HT := Aside0.mk (HT.out.below hb)
    replace HB := Aside0.mk (below_step HB.out hb)
    replace GN := Aside0.mk (GN.out.below hb)
    replace HL := Aside0.mk (HL.out.below hb)
    replace XL := Aside0.mk (blk_below XL.out hb)
    replace XLc0 := (blk_cell XL.out 0).trans rfl
    replace XLc1 := (blk_cell XL.out 1).trans rfl
    try rw [hwn]
    clear hb hwn
    generalize wn.heap.size = XS_b at XS ⊢
    rename World => wn
    have XSc0 := (blk_cell XS.out 0).trans rfl
    have XSc1 := (blk_cell XS.out 1).trans rfl
    go_upto_region 7 with (first | (go_at_call 13; refine (short_any HL.out).mono ?_; rintro e wn ⟨rfl, hb⟩; replace HT := Aside0.mk (HT.out.below hb); replace HB := Aside0.mk (below_step HB.out hb); replace GN := Aside0.mk (GN.out.below hb); replace HL := Aside0.mk (HL.out.below hb); replace XL := Aside0.mk (blk_below XL.out hb); replace XLc0 := (blk_cell XL.out 0).trans rfl; replace XLc1 := (blk_cell XL.out 1).trans rfl; replace XS := Aside0.mk (blk_below XS.out hb); replace XSc0 := (blk_cell XS.out 0).trans rfl; replace XSc1 := (blk_cell XS.out 1).trans rfl; clear hb) | (go_at_call 14; refine (right_any hs HL.out).mono ?_; rintro e wn ⟨rfl, hb⟩; replace HT := Aside0.mk (HT.out.below hb); replace HB := Aside0.mk (below_step HB.out hb); replace GN := Aside0.mk (GN.out.below hb); replace HL := Aside0.mk (HL.out.below hb); replace XL := Aside0.mk (blk_below XL.out hb); replace XLc0 := (blk_cell XL.out 0).trans rfl; replace XLc1 := (blk_cell XL.out 1).trans rfl; replace XS := Aside0.mk (blk_below XS.out hb); replace XSc0 := (blk_cell XS.out 0).trans rfl; replace XSc1 := (blk_cell XS.out 1).trans rfl; clear hb) | (go_at_call 15; refine (number_any hs _ HL.out).mono ?_; rintro e wn ⟨rfl, hb⟩; replace HT := Aside0.mk (HT.out.below hb); replace HB := Aside0.mk (below_step HB.out hb); replace GN := Aside0.mk (GN.out.below hb); replace HL := Aside0.mk (HL.out.below hb); replace XL := Aside0.mk (blk_below XL.out hb); replace XLc0 := (blk_cell XL.out 0).trans rfl; replace XLc1 := (blk_cell XL.out 1).trans rfl; replace XS := Aside0.mk (blk_below XS.out hb); replace XSc0 := (blk_cell XS.out 0).trans rfl; replace XSc1 := (blk_cell XS.out 1).trans rfl; clear hb) | (go_at_call 16; refine (age_any _ _).mono ?_; rintro e wn ⟨rfl, hb⟩; replace HT := Aside0.mk (HT.out.below hb); replace HB := Aside0.mk (below_step HB.out hb); replace GN := Aside0.mk (GN.out.below hb); replace HL := Aside0.mk (HL.out.below hb); replace XL := Aside0.mk (blk_below XL.out hb); replace XLc0 := (blk_cell XL.out 0).trans rfl; replace XLc1 := (blk_cell XL.out 1).trans rfl; replace XS := Aside0.mk (blk_below XS.out hb); replace XSc0 := (blk_cell XS.out 0).trans rfl; replace XSc1 := (blk_cell XS.out 1).trans rfl; clear hb) | (go_at_call 29; refine (need_any _ _).mono ?_; rintro e wn ⟨rfl, hb⟩; replace HT := Aside0.mk (HT.out.below hb); replace HB := Aside0.mk (below_step HB.out hb); replace GN := Aside0.mk (GN.out.below hb); replace HL := Aside0.mk (HL.out.below hb); replace XL := Aside0.mk (blk_below XL.out hb); replace XLc0 := (blk_cell XL.out 0).trans rfl; replace XLc1 := (blk_cell XL.out 1).trans rfl; replace XS := Aside0.mk (blk_below XS.out hb); replace XSc0 := (blk_cell XS.out 0).trans rfl; replace XSc1 := (blk_cell XS.out 1).trans rfl; clear hb) | (go_at_call 39; refine (notesR_any hk' GN.out).mono ?_; rintro e wn ⟨rfl, hb⟩; replace HT := Aside0.mk (HT.out.below hb); replace HB := Aside0.mk (below_step HB.out hb); replace GN := Aside0.mk (GN.out.below hb); replace HL := Aside0.mk (HL.out.below hb); replace XL := Aside0.mk (blk_below XL.out hb); replace XLc0 := (blk_cell XL.out 0).trans rfl; replace XLc1 := (blk_cell XL.out 1).trans rfl; replace XS := Aside0.mk (blk_below XS.out hb); replace XSc0 := (blk_cell XS.out 0).trans rfl; replace XSc1 := (blk_cell XS.out 1).trans rfl; clear hb) | (go_at_call 40; refine (limeR_none HL.out GN.out hr hn hq hm).mono ?_; rintro e wn ⟨rfl, hb⟩; replace HT := Aside0.mk (HT.out.below hb); replace HB := Aside0.mk (below_step HB.out hb); replace GN := Aside0.mk (GN.out.below hb); replace HL := Aside0.mk (HL.out.below hb); replace XL := Aside0.mk (blk_below XL.out hb); replace XLc0 := (blk_cell XL.out 0).trans rfl; replace XLc1 := (blk_cell XL.out 1).trans rfl; replace XS := Aside0.mk (blk_below XS.out hb); replace XSc0 := (blk_cell XS.out 0).trans rfl; replace XSc1 := (blk_cell XS.out 1).trans rfl; clear hb))
    obtain ⟨wm, hwn⟩ : ∃ wm, wn.alloc (.cells #[.int .i64 (-1), .int .i64 (-1)] 30) = wm := ⟨_, rfl⟩
    have hb : Below wn.heap.size wn wm := by rw [← hwn]; exact ((Below.refl _ _).alloc (Nat.le_refl _) _)
    have XT : Aside0 (wm.heap[wn.heap.size]? = some (.cells #[.int .i64 (-1), .int .i64 (-1)] 30 (0, 0))) := ⟨by rw [← hwn]; exact blk_new _ _⟩
    replace HT := Aside0.mk (HT.out.below hb)
    replace HB := Aside0.mk (below_step HB.out hb)
    replace GN := Aside0.mk (GN.out.below hb)
    replace HL := Aside0.mk (HL.out.below hb)
    replace XL := Aside0.mk (blk_below XL.out hb)
    replace XLc0 := (blk_cell XL.out 0).trans rfl
    replace XLc1 := (blk_cell XL.out 1).trans rfl
    replace XS := Aside0.mk (blk_below XS.out hb)
    replace XSc0 := (blk_cell XS.out 0).trans rfl
    replace XSc1 := (blk_cell XS.out 1).trans rfl
    try rw [hwn]
    clear hb hwn
    generalize wn.heap.size = XT_b at XT ⊢
    rename World => wn
    have XTc0 := (blk_cell XT.out 0).trans rfl
    have XTc1 := (blk_cell XT.out 1).trans rfl
    go_wp2_with (first | (go_at_call 17; refine (known_any _ HT.out).mono ?_; rintro e wn ⟨rfl, hb⟩; replace HT := Aside0.mk (HT.out.below hb); replace HB := Aside0.mk (below_step HB.out hb); replace GN := Aside0.mk (GN.out.below hb); replace HL := Aside0.mk (HL.out.below hb); replace XL := Aside0.mk (blk_below XL.out hb); replace XLc0 := (blk_cell XL.out 0).trans rfl; replace XLc1 := (blk_cell XL.out 1).trans rfl; replace XS := Aside0.mk (blk_below XS.out hb); replace XSc0 := (blk_cell XS.out 0).trans rfl; replace XSc1 := (blk_cell XS.out 1).trans rfl; replace XT := Aside0.mk (blk_below XT.out hb); replace XTc0 := (blk_cell XT.out 0).trans rfl; replace XTc1 := (blk_cell XT.out 1).trans rfl; clear hb))
    go_ret
    exact ⟨rfl, HB.out⟩
  obtain ⟨a, ha⟩ : ∃ a, rd (limes sp st n1 xs4) 0 = a := ⟨_, rfl⟩
  obtain ⟨b, hb⟩ : ∃ b, lastR (limes sp st n1 xs4) = b := ⟨_, rfl⟩
  have q0 : decide (a < 0) = false := lime_first hr hn hm ha
  replace ha := Aside0.mk ha
  replace hb := Aside0.mk hb
  have q1 := Aside0.mk q0
  clear q0
  go_upto_region 4 with (first | (go_at_call 13; refine (short_any HL.out).mono ?_; rintro e wn ⟨rfl, hb⟩; replace HT := Aside0.mk (HT.out.below hb); replace HB := Aside0.mk (below_step HB.out hb); replace GN := Aside0.mk (GN.out.below hb); replace HL := Aside0.mk (HL.out.below hb); replace XL := Aside0.mk (blk_below XL.out hb); replace XLc0 := (blk_cell XL.out 0).trans rfl; replace XLc1 := (blk_cell XL.out 1).trans rfl; clear hb) | (go_at_call 14; refine (right_any hs HL.out).mono ?_; rintro e wn ⟨rfl, hb⟩; replace HT := Aside0.mk (HT.out.below hb); replace HB := Aside0.mk (below_step HB.out hb); replace GN := Aside0.mk (GN.out.below hb); replace HL := Aside0.mk (HL.out.below hb); replace XL := Aside0.mk (blk_below XL.out hb); replace XLc0 := (blk_cell XL.out 0).trans rfl; replace XLc1 := (blk_cell XL.out 1).trans rfl; clear hb) | (go_at_call 15; refine (number_any hs _ HL.out).mono ?_; rintro e wn ⟨rfl, hb⟩; replace HT := Aside0.mk (HT.out.below hb); replace HB := Aside0.mk (below_step HB.out hb); replace GN := Aside0.mk (GN.out.below hb); replace HL := Aside0.mk (HL.out.below hb); replace XL := Aside0.mk (blk_below XL.out hb); replace XLc0 := (blk_cell XL.out 0).trans rfl; replace XLc1 := (blk_cell XL.out 1).trans rfl; clear hb) | (go_at_call 16; refine (age_any _ _).mono ?_; rintro e wn ⟨rfl, hb⟩; replace HT := Aside0.mk (HT.out.below hb); replace HB := Aside0.mk (below_step HB.out hb); replace GN := Aside0.mk (GN.out.below hb); replace HL := Aside0.mk (HL.out.below hb); replace XL := Aside0.mk (blk_below XL.out hb); replace XLc0 := (blk_cell XL.out 0).trans rfl; replace XLc1 := (blk_cell XL.out 1).trans rfl; clear hb) | (go_at_call 29; refine (need_any _ _).mono ?_; rintro e wn ⟨rfl, hb⟩; replace HT := Aside0.mk (HT.out.below hb); replace HB := Aside0.mk (below_step HB.out hb); replace GN := Aside0.mk (GN.out.below hb); replace HL := Aside0.mk (HL.out.below hb); replace XL := Aside0.mk (blk_below XL.out hb); replace XLc0 := (blk_cell XL.out 0).trans rfl; replace XLc1 := (blk_cell XL.out 1).trans rfl; clear hb) | (go_at_call 38; refine (lime_some HL.out GN.out hr hn hq hm ha.out hb.out).mono ?_; rintro e wn ⟨rfl, hb⟩; replace HT := Aside0.mk (HT.out.below hb); replace HB := Aside0.mk (below_step HB.out hb); replace GN := Aside0.mk (GN.out.below hb); replace HL := Aside0.mk (HL.out.below hb); replace XL := Aside0.mk (blk_below XL.out hb); replace XLc0 := (blk_cell XL.out 0).trans rfl; replace XLc1 := (blk_cell XL.out 1).trans rfl; clear hb))
  obtain ⟨wm, hwn⟩ : ∃ wm, wn.alloc (.cells #[.int .i64 a, .int .i64 b] 30) = wm := ⟨_, rfl⟩
  have hb : Below wn.heap.size wn wm := by rw [← hwn]; exact ((Below.refl _ _).alloc (Nat.le_refl _) _)
  have XS : Aside0 (wm.heap[wn.heap.size]? = some (.cells #[.int .i64 a, .int .i64 b] 30 (0, 0))) := ⟨by rw [← hwn]; exact blk_new _ _⟩
  replace HT := Aside0.mk (HT.out.below hb)
  replace HB := Aside0.mk (below_step HB.out hb)
  replace GN := Aside0.mk (GN.out.below hb)
  replace HL := Aside0.mk (HL.out.below hb)
  replace XL := Aside0.mk (blk_below XL.out hb)
  replace XLc0 := (blk_cell XL.out 0).trans rfl
  replace XLc1 := (blk_cell XL.out 1).trans rfl
  try rw [hwn]
  clear hb hwn
  generalize wn.heap.size = XS_b at XS ⊢
  rename World => wn
  have XSc0 := (blk_cell XS.out 0).trans rfl
  have XSc1 := (blk_cell XS.out 1).trans rfl
  go_upto_region 7 with (first | (go_at_call 13; refine (short_any HL.out).mono ?_; rintro e wn ⟨rfl, hb⟩; replace HT := Aside0.mk (HT.out.below hb); replace HB := Aside0.mk (below_step HB.out hb); replace GN := Aside0.mk (GN.out.below hb); replace HL := Aside0.mk (HL.out.below hb); replace XL := Aside0.mk (blk_below XL.out hb); replace XLc0 := (blk_cell XL.out 0).trans rfl; replace XLc1 := (blk_cell XL.out 1).trans rfl; replace XS := Aside0.mk (blk_below XS.out hb); replace XSc0 := (blk_cell XS.out 0).trans rfl; replace XSc1 := (blk_cell XS.out 1).trans rfl; clear hb) | (go_at_call 14; refine (right_any hs HL.out).mono ?_; rintro e wn ⟨rfl, hb⟩; replace HT := Aside0.mk (HT.out.below hb); replace HB := Aside0.mk (below_step HB.out hb); replace GN := Aside0.mk (GN.out.below hb); replace HL := Aside0.mk (HL.out.below hb); replace XL := Aside0.mk (blk_below XL.out hb); replace XLc0 := (blk_cell XL.out 0).trans rfl; replace XLc1 := (blk_cell XL.out 1).trans rfl; replace XS := Aside0.mk (blk_below XS.out hb); replace XSc0 := (blk_cell XS.out 0).trans rfl; replace XSc1 := (blk_cell XS.out 1).trans rfl; clear hb) | (go_at_call 15; refine (number_any hs _ HL.out).mono ?_; rintro e wn ⟨rfl, hb⟩; replace HT := Aside0.mk (HT.out.below hb); replace HB := Aside0.mk (below_step HB.out hb); replace GN := Aside0.mk (GN.out.below hb); replace HL := Aside0.mk (HL.out.below hb); replace XL := Aside0.mk (blk_below XL.out hb); replace XLc0 := (blk_cell XL.out 0).trans rfl; replace XLc1 := (blk_cell XL.out 1).trans rfl; replace XS := Aside0.mk (blk_below XS.out hb); replace XSc0 := (blk_cell XS.out 0).trans rfl; replace XSc1 := (blk_cell XS.out 1).trans rfl; clear hb) | (go_at_call 16; refine (age_any _ _).mono ?_; rintro e wn ⟨rfl, hb⟩; replace HT := Aside0.mk (HT.out.below hb); replace HB := Aside0.mk (below_step HB.out hb); replace GN := Aside0.mk (GN.out.below hb); replace HL := Aside0.mk (HL.out.below hb); replace XL := Aside0.mk (blk_below XL.out hb); replace XLc0 := (blk_cell XL.out 0).trans rfl; replace XLc1 := (blk_cell XL.out 1).trans rfl; replace XS := Aside0.mk (blk_below XS.out hb); replace XSc0 := (blk_cell XS.out 0).trans rfl; replace XSc1 := (blk_cell XS.out 1).trans rfl; clear hb) | (go_at_call 29; refine (need_any _ _).mono ?_; rintro e wn ⟨rfl, hb⟩; replace HT := Aside0.mk (HT.out.below hb); replace HB := Aside0.mk (below_step HB.out hb); replace GN := Aside0.mk (GN.out.below hb); replace HL := Aside0.mk (HL.out.below hb); replace XL := Aside0.mk (blk_below XL.out hb); replace XLc0 := (blk_cell XL.out 0).trans rfl; replace XLc1 := (blk_cell XL.out 1).trans rfl; replace XS := Aside0.mk (blk_below XS.out hb); replace XSc0 := (blk_cell XS.out 0).trans rfl; replace XSc1 := (blk_cell XS.out 1).trans rfl; clear hb) | (go_at_call 39; refine (notesR_any hk' GN.out).mono ?_; rintro e wn ⟨rfl, hb⟩; replace HT := Aside0.mk (HT.out.below hb); replace HB := Aside0.mk (below_step HB.out hb); replace GN := Aside0.mk (GN.out.below hb); replace HL := Aside0.mk (HL.out.below hb); replace XL := Aside0.mk (blk_below XL.out hb); replace XLc0 := (blk_cell XL.out 0).trans rfl; replace XLc1 := (blk_cell XL.out 1).trans rfl; replace XS := Aside0.mk (blk_below XS.out hb); replace XSc0 := (blk_cell XS.out 0).trans rfl; replace XSc1 := (blk_cell XS.out 1).trans rfl; clear hb) | (go_at_call 40; refine (limeR_some HL.out GN.out hr hn hq hm ha.out hb.out).mono ?_; rintro e wn ⟨rfl, hb⟩; replace HT := Aside0.mk (HT.out.below hb); replace HB := Aside0.mk (below_step HB.out hb); replace GN := Aside0.mk (GN.out.below hb); replace HL := Aside0.mk (HL.out.below hb); replace XL := Aside0.mk (blk_below XL.out hb); replace XLc0 := (blk_cell XL.out 0).trans rfl; replace XLc1 := (blk_cell XL.out 1).trans rfl; replace XS := Aside0.mk (blk_below XS.out hb); replace XSc0 := (blk_cell XS.out 0).trans rfl; replace XSc1 := (blk_cell XS.out 1).trans rfl; clear hb))
  obtain ⟨wm, hwn⟩ : ∃ wm, wn.alloc (.cells #[.int .i64 a, .int .i64 b] 30) = wm := ⟨_, rfl⟩
  have hb : Below wn.heap.size wn wm := by rw [← hwn]; exact ((Below.refl _ _).alloc (Nat.le_refl _) _)
  have XT : Aside0 (wm.heap[wn.heap.size]? = some (.cells #[.int .i64 a, .int .i64 b] 30 (0, 0))) := ⟨by rw [← hwn]; exact blk_new _ _⟩
  replace HT := Aside0.mk (HT.out.below hb)
  replace HB := Aside0.mk (below_step HB.out hb)
  replace GN := Aside0.mk (GN.out.below hb)
  replace HL := Aside0.mk (HL.out.below hb)
  replace XL := Aside0.mk (blk_below XL.out hb)
  replace XLc0 := (blk_cell XL.out 0).trans rfl
  replace XLc1 := (blk_cell XL.out 1).trans rfl
  replace XS := Aside0.mk (blk_below XS.out hb)
  replace XSc0 := (blk_cell XS.out 0).trans rfl
  replace XSc1 := (blk_cell XS.out 1).trans rfl
  try rw [hwn]
  clear hb hwn
  generalize wn.heap.size = XT_b at XT ⊢
  rename World => wn
  have XTc0 := (blk_cell XT.out 0).trans rfl
  have XTc1 := (blk_cell XT.out 1).trans rfl
  replace q1 := q1.out
  go_wp2_with (first | (go_at_call 17; refine (known_any _ HT.out).mono ?_; rintro e wn ⟨rfl, hb⟩; replace HT := Aside0.mk (HT.out.below hb); replace HB := Aside0.mk (below_step HB.out hb); replace GN := Aside0.mk (GN.out.below hb); replace HL := Aside0.mk (HL.out.below hb); replace XL := Aside0.mk (blk_below XL.out hb); replace XLc0 := (blk_cell XL.out 0).trans rfl; replace XLc1 := (blk_cell XL.out 1).trans rfl; replace XS := Aside0.mk (blk_below XS.out hb); replace XSc0 := (blk_cell XS.out 0).trans rfl; replace XSc1 := (blk_cell XS.out 1).trans rfl; replace XT := Aside0.mk (blk_below XT.out hb); replace XTc0 := (blk_cell XT.out 0).trans rfl; replace XTc1 := (blk_cell XT.out 1).trans rfl; clear hb))
  go_ret
  exact ⟨rfl, HB.out⟩
end Go.Proofs.YtdmdahafiiggiaaGreatDoor.K
end
