/- ChannelProven: the walk of the law, and what it comes to. -/
import Derived.Test.YtdmdahafiiggiaaGreatDoorB5
set_option linter.unusedVariables false
set_option linter.unusedSimpArgs false
section
namespace Go.Proofs.YtdmdahafiiggiaaGreatDoor.K
open Go.RowKit Go.Proofs.YtdmdahafiiggiaaGreatDoorW.PrintWords Go.Proofs.YtdmdahafiiggiaaGreatDoorW.PrintLast Go.Proofs.YtdmdahafiiggiaaGreatDoorW.PrintMore
def quinarialaw02_known.f (_ : Nat) : Option Bool := some true
theorem quinarialaw02_known.calls (k : Nat) (r : Bool) (w : World) (hT : TabW w) (h : quinarialaw02_known.f k  = some r) :
    Calls Tryz.prog 17 #[] w fun e w' => e = .returned (.bool r) ∧ Below w.heap.size w w' := by
  obtain rfl : true = r := Option.some.inj h
  exact known_any w hT
end Go.Proofs.YtdmdahafiiggiaaGreatDoor.K
end
section
namespace Go.Proofs.YtdmdahafiiggiaaGreatDoor.K
open Go.RowKit Go.Proofs.YtdmdahafiiggiaaGreatDoorW.PrintWords Go.Proofs.YtdmdahafiiggiaaGreatDoorW.PrintLast Go.Proofs.YtdmdahafiiggiaaGreatDoorW.PrintMore
attribute [local go_sem] max2_int min2_int max_two min_two max_three min_three max_four min_four
set_option linter.unusedVariables false
set_option linter.unusedSimpArgs false
def quinariaref02_Note.f (a0_0 : Int) (a0_1 : Int) (a0_2 : Int) : Option (Bool) := (quinariaref02_Age.f a0_0).bind fun t954 => (if t954 = true then ((quinariaref02_between.f a0_1 a0_2 0 10000000).bind fun t955 => (some t955)) else (some false))
set_option maxHeartbeats 8000000 in
set_option maxRecDepth 100000 in
theorem quinariaref02_Note.calls (a0_0 : Int) (a0_1 : Int) (a0_2 : Int) (r : Bool) (w : World) (h : quinariaref02_Note.f a0_0 a0_1 a0_2 = some r) :
  Calls Tryz.prog 85 #[.agg #[.int .i64 a0_0, .int .i64 a0_1, .int .i64 a0_2]] w fun e w' => e = .returned (.bool r) ∧ Below w.heap.size w w' := by
 have hu68 := Tryz.underlying68
 have hu30 := Tryz.underlying30
 have HB := Aside0.mk (Below.refl w.heap.size w)
 have H : ((quinariaref02_Age.f a0_0).bind fun t954 => (if t954 = true then ((quinariaref02_between.f a0_1 a0_2 0 10000000).bind fun t955 => (some t955)) else (some false))) = some r := h
 clear h
 replace H := Option.bind_eq_some_iff.mp H
 obtain ⟨t954, A20, H⟩ := H
 replace H : (if t954 = true then ((quinariaref02_between.f a0_1 a0_2 0 10000000).bind fun t955 => (some t955)) else (some false)) = some r := H
 have A2 := Aside0.mk A20
 clear A20
 by_cases c3 : t954 = true
 ·subst c3
  have H1 : ((quinariaref02_between.f a0_1 a0_2 0 10000000).bind fun t955 => (some t955)) = some r := by rw [if_pos rfl] at H; exact H
  clear H
  have H := H1
  clear H1
  replace H := Option.bind_eq_some_iff.mp H
  obtain ⟨t955, A40, H⟩ := H
  replace H : (some t955) = some r := H
  have A4 := Aside0.mk A40
  clear A40
  obtain rfl := Option.some.inj H
  go_enter Tryz.func85, Tryz.ntmps85
  go_wp2_with (first | ((with_reducible refine gate_dst (N := 1) rfl ?_); refine bxe 1 #[.int .i64 a0_0, .int .i64 a0_1, .int .i64 a0_2] 68 ?_; intro gb953 hg w5 hbox hb; have n0_ := Aside0.mk (below_step uB hb); have n1_ := Aside0.mk (hbox); have n2_ := gw hg; have n3_ := gw hg; clear HB; have HB := n0_; have BK953 := n1_; have GW953 := n2_; have GE953 := n3_; clear n0_ n1_ n2_ n3_; clear hb hbox hg; obtain ⟨hcz6_0, hcz6_1, hcz6_2⟩ := cz3 BK953.out; obtain ⟨hfz6_0, hfz6_1, hfz6_2⟩ := fz3 BK953.out) | ((with_reducible refine gate_callee (f := 16) rfl ?_); refine goesL_ (some 5) rfl rfl Tryz.func16 (by kernel_rfl) rfl #[.int .i64 a0_0] rfl uM ?_; (with_reducible refine (quinariaref02_Age.calls a0_0 true _ A2.out).mono ?_); rintro e w' ⟨rfl, ⟨nd, rfl⟩⟩; refine ⟨_, rfl, ?_⟩) | (go_at_call 86; (with_reducible refine (quinariaref02_between.calls a0_1 a0_2 0 10000000 t955 _ A4.out).mono ?_); rintro e w7 ⟨rfl, hb⟩; replace BK953 := Aside0.mk (blk_below (uK BK953.out) hb); replace HB := Aside0.mk (below_step uB hb); (try clear hb); (try clear hb2); (try clear hk); (try clear hi)))
  go_ret
  exact ⟨uE, uB⟩
 ·replace c3 := Bool.eq_false_iff.mpr c3
  subst c3
  have H1 : (some false) = some r := by rw [if_neg (show ¬ (false = true) by decide)] at H; exact H
  clear H
  have H := H1
  clear H1
  obtain rfl := Option.some.inj H
  go_enter Tryz.func85, Tryz.ntmps85
  go_wp2_with (first | ((with_reducible refine gate_dst (N := 1) rfl ?_); refine bxe 1 #[.int .i64 a0_0, .int .i64 a0_1, .int .i64 a0_2] 68 ?_; intro gb953 hg w8 hbox hb; have n0_ := Aside0.mk (below_step uB hb); have n1_ := Aside0.mk (hbox); have n2_ := gw hg; have n3_ := gw hg; clear HB; have HB := n0_; have BK953 := n1_; have GW953 := n2_; have GE953 := n3_; clear n0_ n1_ n2_ n3_; clear hb hbox hg; obtain ⟨hcz9_0, hcz9_1, hcz9_2⟩ := cz3 BK953.out; obtain ⟨hfz9_0, hfz9_1, hfz9_2⟩ := fz3 BK953.out) | ((with_reducible refine gate_callee (f := 16) rfl ?_); refine goesL_ (some 5) rfl rfl Tryz.func16 (by kernel_rfl) rfl #[.int .i64 a0_0] rfl uM ?_; (with_reducible refine (quinariaref02_Age.calls a0_0 false _ A2.out).mono ?_); rintro e w' ⟨rfl, ⟨nd, rfl⟩⟩; refine ⟨_, rfl, ?_⟩))
  go_ret
  exact ⟨uE, uB⟩
end Go.Proofs.YtdmdahafiiggiaaGreatDoor.K
end
section
namespace Go.Proofs.YtdmdahafiiggiaaGreatDoor.K
open Go.RowKit Go.Proofs.YtdmdahafiiggiaaGreatDoorW.PrintWords Go.Proofs.YtdmdahafiiggiaaGreatDoorW.PrintLast Go.Proofs.YtdmdahafiiggiaaGreatDoorW.PrintMore
attribute [local go_sem] max2_int min2_int max_two min_two max_three min_three max_four min_four
set_option linter.unusedVariables false
set_option linter.unusedSimpArgs false
def quinariaref02_Notes.l0 : Nat → List (S68) → Int → Option (Bool)
 | 0, _, _ => none
 | k + 1, x0, x3 => if x3 < (x0.length : Int) then (if 0 ≤ x3 then ((quinariaref02_Note.f ((rd_T68 x0 x3).f0) ((rd_T68 x0 x3).f1.f0) ((rd_T68 x0 x3).f1.f1)).bind fun t957 => (if t957 = true then (quinariaref02_Notes.l0 k x0 (wrap64 (x3 + 1))) else (some false))) else (none)) else (some (decide ((x0.length : Int) ≤ 8)))
def quinariaref02_Notes.f (k : Nat) (l0 : List (S68)) : Option (Bool) := quinariaref02_Notes.l0 k l0 0
set_option maxHeartbeats 8000000 in
set_option maxRecDepth 100000 in
theorem quinariaref02_Notes.calls (k : Nat) (A0 : Option Addr) (c0 : Nat) (l0 : List (S68)) (r : Bool) (w : World) (hr0 : Kd.C k68 w A0 l0.length l0) (hc0 : l0.length ≤ c0) (h : quinariaref02_Notes.f k l0 = some r) :
  Calls Tryz.prog 39 #[.slice A0 l0.length c0] w fun e w' => e = .returned (.bool r) ∧ Below w.heap.size w w' := by
 have hu68 := Tryz.underlying68
 have HR0 := Aside0.mk hr0
 have HC0 := Aside0.mk hc0
 clear hr0 hc0
 have HB := Aside0.mk (Below.refl w.heap.size w)
 have H : (quinariaref02_Notes.l0 k l0 0) = some r := h
 clear h
 have H' := Aside0.mk H
 clear H
 go_enter Tryz.func39, Tryz.ntmps39
 go_wp2
 go_loopg [3] k (fun kq v3 w' => ∃ (x3_1 : Int), v3 = .int .i64 x3_1 ∧ Aside0 (quinariaref02_Notes.l0 kq l0 x3_1 = some r) ∧ Aside0 (kq ≤ k) ∧ Aside0 (Below w.heap.size w w'))
 case atStart => exact ⟨(0), u0, H', ⟨Nat.le_refl _⟩, ⟨uB⟩⟩
 case round =>
  clear H'
  obtain ⟨x3_1, rfl, HA, HK1, HB⟩ := hrel
  cases gk with
  | zero => exact absurd HA.out (by simp [quinariaref02_Notes.l0])
  | succ k1 =>
   have H := HA.out
   clear HA
   simp only [quinariaref02_Notes.l0] at H
   by_cases c2 : x3_1 < (l0.length : Int)
   ·rw [if_pos c2] at H
    replace c2 := decide_eq_true c2
    obtain ⟨c3, H⟩ := ifs H
    replace c3 := decide_eq_true c3
    replace H := Option.bind_eq_some_iff.mp H
    obtain ⟨t957, A40, H⟩ := H
    replace H : (if t957 = true then (quinariaref02_Notes.l0 k1 l0 (wrap64 (x3_1 + 1))) else (some false)) = some r := H
    have A4 := Aside0.mk A40
    clear A40
    by_cases c5 : t957 = true
    ·subst c5
     have H1 : (quinariaref02_Notes.l0 k1 l0 (wrap64 (x3_1 + 1))) = some r := by rw [if_pos rfl] at H; exact H
     clear H
     have H := H1
     clear H1
     have H' := Aside0.mk H
     clear H
     have p956 : 0 ≤ (x3_1 : Int) := of_decide_eq_true (by first | (with_reducible assumption) | assumption)
     have q956 : x3_1 < (l0.length : Int) := of_decide_eq_true (by first | (with_reducible assumption) | assumption)
     obtain ⟨ad956, e956, hx956_0, hx956_1, hx956_2⟩ := at_T68 HR0.out x3_1 p956 q956
     cases e956
     replace hx956_0 := hcell HB.out hx956_0
     replace hx956_1 := hcell HB.out hx956_1
     replace hx956_2 := hcell HB.out hx956_2
     replace p956 := eq_true p956
     replace q956 := eq_true q956
     go_wp2_with (first | ((with_reducible refine gate_callee (f := 85) rfl ?_); refine goesL_ (some 14) rfl rfl Tryz.func85 (by kernel_rfl) rfl #[.agg #[.int .i64 ((rd_T68 l0 x3_1).f0), .int .i64 ((rd_T68 l0 x3_1).f1.f0), .int .i64 ((rd_T68 l0 x3_1).f1.f1)]] rfl uM ?_; (with_reducible refine (quinariaref02_Note.calls ((rd_T68 l0 x3_1).f0) ((rd_T68 l0 x3_1).f1.f0) ((rd_T68 l0 x3_1).f1.f1) true _ A4.out).mono ?_); rintro e w6 ⟨rfl, hb⟩; refine ⟨_, rfl, ?_⟩; replace HB := Aside0.mk (below_step uB hb); (try clear hb); (try clear hb2); (try clear hk); (try clear hi)))
     go_roundg k1
     case measure => have := HK1.out; omega
     case rel => exact ⟨(wrap64 (x3_1 + 1)), u0, H', ⟨by have := HK1.out; omega⟩, ⟨uB⟩⟩
    ·replace c5 := Bool.eq_false_iff.mpr c5
     subst c5
     have H1 : (some false) = some r := by rw [if_neg (show ¬ (false = true) by decide)] at H; exact H
     clear H
     have H := H1
     clear H1
     obtain rfl := Option.some.inj H
     have p956 : 0 ≤ (x3_1 : Int) := of_decide_eq_true (by first | (with_reducible assumption) | assumption)
     have q956 : x3_1 < (l0.length : Int) := of_decide_eq_true (by first | (with_reducible assumption) | assumption)
     obtain ⟨ad956, e956, hx956_0, hx956_1, hx956_2⟩ := at_T68 HR0.out x3_1 p956 q956
     cases e956
     replace hx956_0 := hcell HB.out hx956_0
     replace hx956_1 := hcell HB.out hx956_1
     replace hx956_2 := hcell HB.out hx956_2
     replace p956 := eq_true p956
     replace q956 := eq_true q956
     go_wp2_with (first | ((with_reducible refine gate_callee (f := 85) rfl ?_); refine goesL_ (some 14) rfl rfl Tryz.func85 (by kernel_rfl) rfl #[.agg #[.int .i64 ((rd_T68 l0 x3_1).f0), .int .i64 ((rd_T68 l0 x3_1).f1.f0), .int .i64 ((rd_T68 l0 x3_1).f1.f1)]] rfl uM ?_; (with_reducible refine (quinariaref02_Note.calls ((rd_T68 l0 x3_1).f0) ((rd_T68 l0 x3_1).f1.f0) ((rd_T68 l0 x3_1).f1.f1) false _ A4.out).mono ?_); rintro e w7 ⟨rfl, hb⟩; refine ⟨_, rfl, ?_⟩; replace HB := Aside0.mk (below_step uB hb); (try clear hb); (try clear hb2); (try clear hk); (try clear hi)))
     go_ret
     exact ⟨uE, uB⟩
   ·rw [if_neg c2] at H
    replace c2 := decide_eq_false c2
    obtain rfl := Option.some.inj H
    go_wp2
    go_ret
    exact ⟨uE, uB⟩
end Go.Proofs.YtdmdahafiiggiaaGreatDoor.K
end
section
namespace Go.Proofs.YtdmdahafiiggiaaGreatDoor.K
open Go.RowKit Go.Proofs.YtdmdahafiiggiaaGreatDoorW.PrintWords Go.Proofs.YtdmdahafiiggiaaGreatDoorW.PrintLast Go.Proofs.YtdmdahafiiggiaaGreatDoorW.PrintMore
attribute [local go_sem] max2_int min2_int max_two min_two max_three min_three max_four min_four
set_option linter.unusedVariables false
set_option linter.unusedSimpArgs false
def quinariaref02_Agrees.l0 : Nat → Int → List (S68) → Int → Int → List Int → List (S32) → Option (Bool)
 | 0, _, _, _, _, _, _ => none
 | k + 1, x1, x2, x3, x9, x959000, x959001 => if x9 < (x2.length : Int) then (if 0 ≤ x9 then ((quinariaref02_Cups.f x959000 x959001 x1 ((rd_T68 x2 x9).f0) x3).bind fun t960 => ((quinariaref02_in.f t960 ((rd_T68 x2 x9).f1.f0) ((rd_T68 x2 x9).f1.f1)).bind fun t963 => (if t963 = true then (quinariaref02_Agrees.l0 k x1 x2 x3 (wrap64 (x9 + 1)) x959000 x959001) else (some false)))) else (none)) else (some true)
def quinariaref02_Agrees.f (k : Nat) (l0_0 : List Int) (l0_1 : List (S32)) (a1 : Int) (l2 : List (S68)) (a3 : Int) : Option (Bool) := quinariaref02_Agrees.l0 k a1 l2 a3 0 l0_0 l0_1
def quinariaref02_Agrees.T4 : Bool × List (List Nat × List Nat) := (true, [([], []), ([], []), ([], []), ([], []), ([2, 3], [2, 3]), ([4], [4]), ([5], [5]), ([], []), ([0, 1, 6, 7], [0, 1, 6, 7]), ([], []), ([], []), ([9, 10], [9, 10]), ([11], [11]), ([12], [12]), ([13], [13]), ([], []), ([], []), ([15, 16], [15, 16]), ([17], [17]), ([18], [18]), ([19], [19]), ([8, 14, 20, 8], [8, 14, 20]), ([21], [21])])
def quinariaref02_Agrees.B4 : List Nat := [0, 0, 0, 0, 12, 28, 60, 0, 255, 0, 0, 1536, 3584, 7680, 15872, 0, 0, 98304, 229376, 491520, 1015808, 2097151, 4194303]
theorem quinariaref02_Agrees.tab4 : rtab .any (opsOf Tryz.f41 4) = quinariaref02_Agrees.T4 := by kernel_rfl
theorem quinariaref02_Agrees.bits4 : waitsOk quinariaref02_Agrees.T4.2 quinariaref02_Agrees.B4 = true := by kernel_rfl
set_option maxHeartbeats 8000000 in
set_option maxRecDepth 100000 in
theorem quinariaref02_Agrees.calls (k : Nat) (A0_0 : Option Addr) (c0_0 : Nat) (l0_0 : List Int) (A0_1 : Option Addr) (c0_1 : Nat) (l0_1 : List (S32)) (a1 : Int) (A2 : Option Addr) (c2 : Nat) (l2 : List (S68)) (a3 : Int) (r : Bool) (w : World) (hr0_0 : Kd.C (Kd.int .i64) w A0_0 l0_0.length l0_0) (hc0_0 : l0_0.length ≤ c0_0) (hr0_1 : Kd.C k32 w A0_1 l0_1.length l0_1) (hc0_1 : l0_1.length ≤ c0_1) (hr2 : Kd.C k68 w A2 l2.length l2) (hc2 : l2.length ≤ c2) (h : quinariaref02_Agrees.f k l0_0 l0_1 a1 l2 a3 = some r) :
  Calls Tryz.prog 41 #[.agg #[.slice A0_0 l0_0.length c0_0, .slice A0_1 l0_1.length c0_1], .int .i64 a1, .slice A2 l2.length c2, .int .i64 a3] w fun e w' => e = .returned (.bool r) ∧ Below w.heap.size w w' := by
 have hu25 := Tryz.underlying25
 have HR0_0 := Aside0.mk hr0_0
 have HC0_0 := Aside0.mk hc0_0
 clear hr0_0 hc0_0
 have HR0_1 := Aside0.mk hr0_1
 have HC0_1 := Aside0.mk hc0_1
 clear hr0_1 hc0_1
 have HR2 := Aside0.mk hr2
 have HC2 := Aside0.mk hc2
 clear hr2 hc2
 have HB := Aside0.mk (Below.refl w.heap.size w)
 have H : (quinariaref02_Agrees.l0 k a1 l2 a3 0 l0_0 l0_1) = some r := h
 clear h
 have H' := Aside0.mk H
 clear H
 go_enter Tryz.func41, Tryz.ntmps41
 go_wp2_with (first | ((with_reducible refine gate_dst (N := 4) rfl ?_); refine bxe 4 #[.slice A0_0 l0_0.length c0_0, .slice A0_1 l0_1.length c0_1] 25 ?_; intro gb958 hg w5 hbox hb; have GW958 := gw hg; have GE958 := GW958; have BK958 := Aside0.mk (hbox); replace HB := Aside0.mk (below_step HB.out hb); clear hb hbox hg))
 go_loopg [9] k (fun kq v9 w' => ∃ (x9_1 : Int), v9 = .int .i64 x9_1 ∧ Aside0 (quinariaref02_Agrees.l0 kq a1 l2 a3 x9_1 l0_0 l0_1 = some r) ∧ Aside0 (kq ≤ k) ∧ Aside0 (w'.heap[gb958]? = some (.cells #[(.slice A0_0 l0_0.length c0_0), (.slice A0_1 l0_1.length c0_1)] 25 (0, 0))) ∧ Aside0 (Below w.heap.size w w'))
 case atStart => exact ⟨(0), u0, H', ⟨Nat.le_refl _⟩, ⟨uK BK958.out⟩, ⟨uB⟩⟩
 case round =>
  clear H'
  try clear c2; try clear p2; try clear c4
  obtain ⟨x9_1, rfl, HA, HK1, BK958, HB⟩ := hrel
  cases gk with
  | zero => exact absurd HA.out (by simp [quinariaref02_Agrees.l0])
  | succ k1 =>
   have H := HA.out
   clear HA
   simp only [quinariaref02_Agrees.l0] at H
   by_cases c6 : x9_1 < (l2.length : Int)
   ·rw [if_pos c6] at H
    replace c6 := decide_eq_true c6
    obtain ⟨c7, H⟩ := ifs H
    replace c7 := decide_eq_true c7
    replace H := Option.bind_eq_some_iff.mp H
    obtain ⟨t960, A80, H⟩ := H
    replace H : ((quinariaref02_in.f t960 ((rd_T68 l2 x9_1).f1.f0) ((rd_T68 l2 x9_1).f1.f1)).bind fun t963 => (if t963 = true then (quinariaref02_Agrees.l0 k1 a1 l2 a3 (wrap64 (x9_1 + 1)) l0_0 l0_1) else (some false))) = some r := H
    have A8 := Aside0.mk A80
    clear A80
    replace H := Option.bind_eq_some_iff.mp H
    obtain ⟨t963, A90, H⟩ := H
    replace H : (if t963 = true then (quinariaref02_Agrees.l0 k1 a1 l2 a3 (wrap64 (x9_1 + 1)) l0_0 l0_1) else (some false)) = some r := H
    have A9 := Aside0.mk A90
    clear A90
    by_cases c10 : t963 = true
    ·subst c10
     have H1 : (quinariaref02_Agrees.l0 k1 a1 l2 a3 (wrap64 (x9_1 + 1)) l0_0 l0_1) = some r := by rw [if_pos rfl] at H; exact H
     clear H
     have H := H1
     clear H1
     have H' := Aside0.mk H
     clear H
     try go_wp2
     replace BK958 := Aside0.mk (blk_drew BK958.out)
     replace HB := Aside0.mk (below_drew1 HB.out)
     have p959 : 0 ≤ (x9_1 : Int) := of_decide_eq_true (by assumption)
     have q959 : x9_1 < (l2.length : Int) := of_decide_eq_true (by assumption)
     obtain ⟨ad959, e959, hx959_0, hx959_1, hx959_2⟩ := at_T68 HR2.out x9_1 p959 q959
     have hw959_2 := hx959_2
     have hw959_1 := hx959_1
     have hw959_0 := hx959_0
     cases e959
     replace hx959_0 := (HB.out.cell (World.block_lt_of_cell? w _ hx959_0)).trans hx959_0
     replace hx959_1 := (HB.out.cell (World.block_lt_of_cell? w _ hx959_1)).trans hx959_1
     replace hx959_2 := (HB.out.cell (World.block_lt_of_cell? w _ hx959_2)).trans hx959_2
     replace p959 := eq_true p959
     replace q959 := eq_true q959
     have p961 : 0 ≤ (x9_1 : Int) := of_decide_eq_true (by assumption)
     have q961 : x9_1 < (l2.length : Int) := of_decide_eq_true (by assumption)
     obtain ⟨ad961, e961, hx961_0, hx961_1, hx961_2⟩ := at_T68 HR2.out x9_1 p961 q961
     have hw961_2 := hx961_2
     have hw961_1 := hx961_1
     have hw961_0 := hx961_0
     obtain rfl : ad959 = ad961 := (by injection e961)
     replace hx961_0 := (HB.out.cell (World.block_lt_of_cell? w _ hx961_0)).trans hx961_0
     replace hx961_1 := (HB.out.cell (World.block_lt_of_cell? w _ hx961_1)).trans hx961_1
     replace hx961_2 := (HB.out.cell (World.block_lt_of_cell? w _ hx961_2)).trans hx961_2
     replace p961 := eq_true p961
     replace q961 := eq_true q961
     have p962 : 0 ≤ (x9_1 : Int) := of_decide_eq_true (by assumption)
     have q962 : x9_1 < (l2.length : Int) := of_decide_eq_true (by assumption)
     obtain ⟨ad962, e962, hx962_0, hx962_1, hx962_2⟩ := at_T68 HR2.out x9_1 p962 q962
     have hw962_2 := hx962_2
     have hw962_1 := hx962_1
     have hw962_0 := hx962_0
     obtain rfl : ad959 = ad962 := (by injection e962)
     replace hx962_0 := (HB.out.cell (World.block_lt_of_cell? w _ hx962_0)).trans hx962_0
     replace hx962_1 := (HB.out.cell (World.block_lt_of_cell? w _ hx962_1)).trans hx962_1
     replace hx962_2 := (HB.out.cell (World.block_lt_of_cell? w _ hx962_2)).trans hx962_2
     replace p962 := eq_true p962
     replace q962 := eq_true q962
     refine start_ (n := 23) (S := fun w' => w'.cell? ⟨gb958, 0, none⟩ = some (.slice A0_0 l0_0.length c0_0) ∧ w'.cell? ⟨gb958, 1, none⟩ = some (.slice A0_1 l0_1.length c0_1) ∧ w'.cell? (ad959.add ((x9_1).toNat * 3)) = some (.int .i64 ((rd_T68 l2 x9_1).f0)) ∧ w'.cell? ⟨(ad959.add ((x9_1).toNat * 3)).block, (ad959.add ((x9_1).toNat * 3)).off + 1, none⟩ = some (.int .i64 ((rd_T68 l2 x9_1).f1.f0)) ∧ w'.cell? ⟨(ad959.add ((x9_1).toNat * 3)).block, (ad959.add ((x9_1).toNat * 3)).off + 2, none⟩ = some (.int .i64 ((rd_T68 l2 x9_1).f1.f1)) ∧ w'.cell? (ad959.add ((x9_1).toNat * 3)) = some (.int .i64 ((rd_T68 l2 x9_1).f0)) ∧ w'.cell? ⟨(ad959.add ((x9_1).toNat * 3)).block, (ad959.add ((x9_1).toNat * 3)).off + 1, none⟩ = some (.int .i64 ((rd_T68 l2 x9_1).f1.f0)) ∧ w'.cell? ⟨(ad959.add ((x9_1).toNat * 3)).block, (ad959.add ((x9_1).toNat * 3)).off + 2, none⟩ = some (.int .i64 ((rd_T68 l2 x9_1).f1.f1)) ∧ w'.cell? (ad959.add ((x9_1).toNat * 3)) = some (.int .i64 ((rd_T68 l2 x9_1).f0)) ∧ w'.cell? ⟨(ad959.add ((x9_1).toNat * 3)).block, (ad959.add ((x9_1).toNat * 3)).off + 1, none⟩ = some (.int .i64 ((rd_T68 l2 x9_1).f1.f0)) ∧ w'.cell? ⟨(ad959.add ((x9_1).toNat * 3)).block, (ad959.add ((x9_1).toNat * 3)).off + 2, none⟩ = some (.int .i64 ((rd_T68 l2 x9_1).f1.f1))) (ds := []) (bl 23 0) (by kernel_rfl) rfl rfl ⟨(blk_cell BK958.out 0).trans rfl, (blk_cell BK958.out 1).trans rfl, ((HB.out.cell (World.block_lt_of_cell? w _ hw959_0)).trans hw959_0), ((HB.out.cell (World.block_lt_of_cell? w _ hw959_1)).trans hw959_1), ((HB.out.cell (World.block_lt_of_cell? w _ hw959_2)).trans hw959_2), ((HB.out.cell (World.block_lt_of_cell? w _ hw961_0)).trans hw961_0), ((HB.out.cell (World.block_lt_of_cell? w _ hw961_1)).trans hw961_1), ((HB.out.cell (World.block_lt_of_cell? w _ hw961_2)).trans hw961_2), ((HB.out.cell (World.block_lt_of_cell? w _ hw962_0)).trans hw962_0), ((HB.out.cell (World.block_lt_of_cell? w _ hw962_1)).trans hw962_1), ((HB.out.cell (World.block_lt_of_cell? w _ hw962_2)).trans hw962_2)⟩ (fun hHeld => ?_); refine with_tabW quinariaref02_Agrees.tab4 quinariaref02_Agrees.bits4 (fun HT_ HW_ => ?_)
     generalize wr.drew = w11 at BK958 HB hx959_0 hx959_1 hx959_2 hx961_0 hx961_1 hx961_2 hx962_0 hx962_1 hx962_2 hHeld ⊢
     refine pu 1 17 23 2 ?_
     refine pu 2 18 23 6 ?_
     refine pu 3 19 23 14 ?_
     refine pu 4 20 23 30 ?_
     refine pu 5 21 23 62 ?_
     refine pu 7 23 23 190 ?_
     refine pu 9 25 23 702 ?_
     refine pu 10 26 23 1726 ?_
     refine pu 11 27 23 3774 ?_
     refine pu 12 28 23 7870 ?_
     refine pu 13 29 23 16062 ?_
     refine pu 15 31 23 48830 ?_
     refine pu 16 32 23 114366 ?_
     refine pu 17 33 23 245438 ?_
     refine pu 18 34 23 507582 ?_
     refine pu 19 35 23 1031870 ?_
     refine tk11 0 16 23 1031871 hHeld ?_
     refine tk11 6 22 23 1031935 hHeld ?_
     refine tk11 14 30 23 1048319 hHeld ?_
     refine tk11 20 36 23 2096895 hHeld ?_
     refine one_ (i := 8) (N := some 24) (bl 23 2097151) rfl rfl (one_of HT_.out (by kernel_rfl)) (by decide) (fun K hK => ?_)
     refine goes_ Tryz.func19 (by kernel_rfl) rfl #[.agg #[.slice A0_0 l0_0.length c0_0, .slice A0_1 l0_1.length c0_1], .int .i64 a1, .int .i64 ((rd_T68 l2 x9_1).f0), .int .i64 a3] (by rfl) rfl rfl uM ?_
     with_reducible refine (quinariaref02_Cups.calls _ _ l0_0 _ _ l0_1 a1 ((rd_T68 l2 x9_1).f0) a3 t960 _ ?side1 ?side2 ?side3 ?side4 A8.out).mono ?_
     (case side1 => exact Kd.C_below HR0_0.out HB.out)
     (case side2 => exact HC0_0.out)
     (case side3 => exact Kd.C_below HR0_1.out HB.out)
     (case side4 => exact HC0_1.out)
     rintro e w12 ⟨rfl, hb⟩
     refine ⟨_, rfl, ?_⟩
     replace BK958 := Aside0.mk (blk_below BK958.out hb)
     replace HB := Aside0.mk (below_step HB.out hb)
     (try clear hb)
     (try clear hb2)
     (try clear hk)
     (try clear hi)
     refine hK.out _ _ ⟨(blk_cell BK958.out 0).trans rfl, (blk_cell BK958.out 1).trans rfl, ((HB.out.cell (World.block_lt_of_cell? w _ hw959_0)).trans hw959_0), ((HB.out.cell (World.block_lt_of_cell? w _ hw959_1)).trans hw959_1), ((HB.out.cell (World.block_lt_of_cell? w _ hw959_2)).trans hw959_2), ((HB.out.cell (World.block_lt_of_cell? w _ hw961_0)).trans hw961_0), ((HB.out.cell (World.block_lt_of_cell? w _ hw961_1)).trans hw961_1), ((HB.out.cell (World.block_lt_of_cell? w _ hw961_2)).trans hw961_2), ((HB.out.cell (World.block_lt_of_cell? w _ hw962_0)).trans hw962_0), ((HB.out.cell (World.block_lt_of_cell? w _ hw962_1)).trans hw962_1), ((HB.out.cell (World.block_lt_of_cell? w _ hw962_2)).trans hw962_2)⟩ (fun hHeld => ?_)
     clear hK K
     refine nm ?_
     refine one_ (i := 21) (N := some 37) (bl 23 4194303) rfl rfl (one_of HT_.out (by kernel_rfl)) (by decide) (fun K hK => ?_)
     refine goes_ Tryz.func42 (by kernel_rfl) rfl #[.int .i64 t960, .int .i64 ((rd_T68 l2 x9_1).f1.f0), .int .i64 ((rd_T68 l2 x9_1).f1.f1)] (by rfl) rfl rfl uM ?_
     with_reducible refine (quinariaref02_in.calls t960 ((rd_T68 l2 x9_1).f1.f0) ((rd_T68 l2 x9_1).f1.f1) true _ A9.out).mono ?_
     rintro e w' ⟨rfl, ⟨nd, rfl⟩⟩
     refine ⟨_, rfl, ?_⟩
     refine hK.out _ _ ⟨(blk_cell BK958.out 0).trans rfl, (blk_cell BK958.out 1).trans rfl, ((HB.out.cell (World.block_lt_of_cell? w _ hw959_0)).trans hw959_0), ((HB.out.cell (World.block_lt_of_cell? w _ hw959_1)).trans hw959_1), ((HB.out.cell (World.block_lt_of_cell? w _ hw959_2)).trans hw959_2), ((HB.out.cell (World.block_lt_of_cell? w _ hw961_0)).trans hw961_0), ((HB.out.cell (World.block_lt_of_cell? w _ hw961_1)).trans hw961_1), ((HB.out.cell (World.block_lt_of_cell? w _ hw961_2)).trans hw961_2), ((HB.out.cell (World.block_lt_of_cell? w _ hw962_0)).trans hw962_0), ((HB.out.cell (World.block_lt_of_cell? w _ hw962_1)).trans hw962_1), ((HB.out.cell (World.block_lt_of_cell? w _ hw962_2)).trans hw962_2)⟩ (fun hHeld => ?_)
     clear hK K
     refine nm ?_
     refine pu 22 38 23 8388607 ?_
     refine done_ (done_of HT_.out (by kernel_rfl)) ?_
     try go_wp2
     go_roundg k1
     case measure => have := HK1.out; omega
     case rel => exact ⟨(wrap64 (x9_1 + 1)), u0, H', ⟨by have := HK1.out; omega⟩, ⟨uK BK958.out⟩, ⟨uB⟩⟩
    ·replace c10 := Bool.eq_false_iff.mpr c10
     subst c10
     have H1 : (some false) = some r := by rw [if_neg (show ¬ (false = true) by decide)] at H; exact H
     clear H
     have H := H1
     clear H1
     obtain rfl := Option.some.inj H
     try go_wp2
     replace BK958 := Aside0.mk (blk_drew BK958.out)
     replace HB := Aside0.mk (below_drew1 HB.out)
     have p959 : 0 ≤ (x9_1 : Int) := of_decide_eq_true (by assumption)
     have q959 : x9_1 < (l2.length : Int) := of_decide_eq_true (by assumption)
     obtain ⟨ad959, e959, hx959_0, hx959_1, hx959_2⟩ := at_T68 HR2.out x9_1 p959 q959
     have hw959_2 := hx959_2
     have hw959_1 := hx959_1
     have hw959_0 := hx959_0
     cases e959
     replace hx959_0 := (HB.out.cell (World.block_lt_of_cell? w _ hx959_0)).trans hx959_0
     replace hx959_1 := (HB.out.cell (World.block_lt_of_cell? w _ hx959_1)).trans hx959_1
     replace hx959_2 := (HB.out.cell (World.block_lt_of_cell? w _ hx959_2)).trans hx959_2
     replace p959 := eq_true p959
     replace q959 := eq_true q959
     have p961 : 0 ≤ (x9_1 : Int) := of_decide_eq_true (by assumption)
     have q961 : x9_1 < (l2.length : Int) := of_decide_eq_true (by assumption)
     obtain ⟨ad961, e961, hx961_0, hx961_1, hx961_2⟩ := at_T68 HR2.out x9_1 p961 q961
     have hw961_2 := hx961_2
     have hw961_1 := hx961_1
     have hw961_0 := hx961_0
     obtain rfl : ad959 = ad961 := (by injection e961)
     replace hx961_0 := (HB.out.cell (World.block_lt_of_cell? w _ hx961_0)).trans hx961_0
     replace hx961_1 := (HB.out.cell (World.block_lt_of_cell? w _ hx961_1)).trans hx961_1
     replace hx961_2 := (HB.out.cell (World.block_lt_of_cell? w _ hx961_2)).trans hx961_2
     replace p961 := eq_true p961
     replace q961 := eq_true q961
     have p962 : 0 ≤ (x9_1 : Int) := of_decide_eq_true (by assumption)
     have q962 : x9_1 < (l2.length : Int) := of_decide_eq_true (by assumption)
     obtain ⟨ad962, e962, hx962_0, hx962_1, hx962_2⟩ := at_T68 HR2.out x9_1 p962 q962
     have hw962_2 := hx962_2
     have hw962_1 := hx962_1
     have hw962_0 := hx962_0
     obtain rfl : ad959 = ad962 := (by injection e962)
     replace hx962_0 := (HB.out.cell (World.block_lt_of_cell? w _ hx962_0)).trans hx962_0
     replace hx962_1 := (HB.out.cell (World.block_lt_of_cell? w _ hx962_1)).trans hx962_1
     replace hx962_2 := (HB.out.cell (World.block_lt_of_cell? w _ hx962_2)).trans hx962_2
     replace p962 := eq_true p962
     replace q962 := eq_true q962
     refine start_ (n := 23) (S := fun w' => w'.cell? ⟨gb958, 0, none⟩ = some (.slice A0_0 l0_0.length c0_0) ∧ w'.cell? ⟨gb958, 1, none⟩ = some (.slice A0_1 l0_1.length c0_1) ∧ w'.cell? (ad959.add ((x9_1).toNat * 3)) = some (.int .i64 ((rd_T68 l2 x9_1).f0)) ∧ w'.cell? ⟨(ad959.add ((x9_1).toNat * 3)).block, (ad959.add ((x9_1).toNat * 3)).off + 1, none⟩ = some (.int .i64 ((rd_T68 l2 x9_1).f1.f0)) ∧ w'.cell? ⟨(ad959.add ((x9_1).toNat * 3)).block, (ad959.add ((x9_1).toNat * 3)).off + 2, none⟩ = some (.int .i64 ((rd_T68 l2 x9_1).f1.f1)) ∧ w'.cell? (ad959.add ((x9_1).toNat * 3)) = some (.int .i64 ((rd_T68 l2 x9_1).f0)) ∧ w'.cell? ⟨(ad959.add ((x9_1).toNat * 3)).block, (ad959.add ((x9_1).toNat * 3)).off + 1, none⟩ = some (.int .i64 ((rd_T68 l2 x9_1).f1.f0)) ∧ w'.cell? ⟨(ad959.add ((x9_1).toNat * 3)).block, (ad959.add ((x9_1).toNat * 3)).off + 2, none⟩ = some (.int .i64 ((rd_T68 l2 x9_1).f1.f1)) ∧ w'.cell? (ad959.add ((x9_1).toNat * 3)) = some (.int .i64 ((rd_T68 l2 x9_1).f0)) ∧ w'.cell? ⟨(ad959.add ((x9_1).toNat * 3)).block, (ad959.add ((x9_1).toNat * 3)).off + 1, none⟩ = some (.int .i64 ((rd_T68 l2 x9_1).f1.f0)) ∧ w'.cell? ⟨(ad959.add ((x9_1).toNat * 3)).block, (ad959.add ((x9_1).toNat * 3)).off + 2, none⟩ = some (.int .i64 ((rd_T68 l2 x9_1).f1.f1))) (ds := []) (bl 23 0) (by kernel_rfl) rfl rfl ⟨(blk_cell BK958.out 0).trans rfl, (blk_cell BK958.out 1).trans rfl, ((HB.out.cell (World.block_lt_of_cell? w _ hw959_0)).trans hw959_0), ((HB.out.cell (World.block_lt_of_cell? w _ hw959_1)).trans hw959_1), ((HB.out.cell (World.block_lt_of_cell? w _ hw959_2)).trans hw959_2), ((HB.out.cell (World.block_lt_of_cell? w _ hw961_0)).trans hw961_0), ((HB.out.cell (World.block_lt_of_cell? w _ hw961_1)).trans hw961_1), ((HB.out.cell (World.block_lt_of_cell? w _ hw961_2)).trans hw961_2), ((HB.out.cell (World.block_lt_of_cell? w _ hw962_0)).trans hw962_0), ((HB.out.cell (World.block_lt_of_cell? w _ hw962_1)).trans hw962_1), ((HB.out.cell (World.block_lt_of_cell? w _ hw962_2)).trans hw962_2)⟩ (fun hHeld => ?_); refine with_tabW quinariaref02_Agrees.tab4 quinariaref02_Agrees.bits4 (fun HT_ HW_ => ?_)
     generalize wr.drew = w13 at BK958 HB hx959_0 hx959_1 hx959_2 hx961_0 hx961_1 hx961_2 hx962_0 hx962_1 hx962_2 hHeld ⊢
     refine pu 1 17 23 2 ?_
     refine pu 2 18 23 6 ?_
     refine pu 3 19 23 14 ?_
     refine pu 4 20 23 30 ?_
     refine pu 5 21 23 62 ?_
     refine pu 7 23 23 190 ?_
     refine pu 9 25 23 702 ?_
     refine pu 10 26 23 1726 ?_
     refine pu 11 27 23 3774 ?_
     refine pu 12 28 23 7870 ?_
     refine pu 13 29 23 16062 ?_
     refine pu 15 31 23 48830 ?_
     refine pu 16 32 23 114366 ?_
     refine pu 17 33 23 245438 ?_
     refine pu 18 34 23 507582 ?_
     refine pu 19 35 23 1031870 ?_
     refine tk11 0 16 23 1031871 hHeld ?_
     refine tk11 6 22 23 1031935 hHeld ?_
     refine tk11 14 30 23 1048319 hHeld ?_
     refine tk11 20 36 23 2096895 hHeld ?_
     refine one_ (i := 8) (N := some 24) (bl 23 2097151) rfl rfl (one_of HT_.out (by kernel_rfl)) (by decide) (fun K hK => ?_)
     refine goes_ Tryz.func19 (by kernel_rfl) rfl #[.agg #[.slice A0_0 l0_0.length c0_0, .slice A0_1 l0_1.length c0_1], .int .i64 a1, .int .i64 ((rd_T68 l2 x9_1).f0), .int .i64 a3] (by rfl) rfl rfl uM ?_
     with_reducible refine (quinariaref02_Cups.calls _ _ l0_0 _ _ l0_1 a1 ((rd_T68 l2 x9_1).f0) a3 t960 _ ?side1 ?side2 ?side3 ?side4 A8.out).mono ?_
     (case side1 => exact Kd.C_below HR0_0.out HB.out)
     (case side2 => exact HC0_0.out)
     (case side3 => exact Kd.C_below HR0_1.out HB.out)
     (case side4 => exact HC0_1.out)
     rintro e w14 ⟨rfl, hb⟩
     refine ⟨_, rfl, ?_⟩
     replace BK958 := Aside0.mk (blk_below BK958.out hb)
     replace HB := Aside0.mk (below_step HB.out hb)
     (try clear hb)
     (try clear hb2)
     (try clear hk)
     (try clear hi)
     refine hK.out _ _ ⟨(blk_cell BK958.out 0).trans rfl, (blk_cell BK958.out 1).trans rfl, ((HB.out.cell (World.block_lt_of_cell? w _ hw959_0)).trans hw959_0), ((HB.out.cell (World.block_lt_of_cell? w _ hw959_1)).trans hw959_1), ((HB.out.cell (World.block_lt_of_cell? w _ hw959_2)).trans hw959_2), ((HB.out.cell (World.block_lt_of_cell? w _ hw961_0)).trans hw961_0), ((HB.out.cell (World.block_lt_of_cell? w _ hw961_1)).trans hw961_1), ((HB.out.cell (World.block_lt_of_cell? w _ hw961_2)).trans hw961_2), ((HB.out.cell (World.block_lt_of_cell? w _ hw962_0)).trans hw962_0), ((HB.out.cell (World.block_lt_of_cell? w _ hw962_1)).trans hw962_1), ((HB.out.cell (World.block_lt_of_cell? w _ hw962_2)).trans hw962_2)⟩ (fun hHeld => ?_)
     clear hK K
     refine nm ?_
     refine one_ (i := 21) (N := some 37) (bl 23 4194303) rfl rfl (one_of HT_.out (by kernel_rfl)) (by decide) (fun K hK => ?_)
     refine goes_ Tryz.func42 (by kernel_rfl) rfl #[.int .i64 t960, .int .i64 ((rd_T68 l2 x9_1).f1.f0), .int .i64 ((rd_T68 l2 x9_1).f1.f1)] (by rfl) rfl rfl uM ?_
     with_reducible refine (quinariaref02_in.calls t960 ((rd_T68 l2 x9_1).f1.f0) ((rd_T68 l2 x9_1).f1.f1) false _ A9.out).mono ?_
     rintro e w' ⟨rfl, ⟨nd, rfl⟩⟩
     refine ⟨_, rfl, ?_⟩
     refine hK.out _ _ ⟨(blk_cell BK958.out 0).trans rfl, (blk_cell BK958.out 1).trans rfl, ((HB.out.cell (World.block_lt_of_cell? w _ hw959_0)).trans hw959_0), ((HB.out.cell (World.block_lt_of_cell? w _ hw959_1)).trans hw959_1), ((HB.out.cell (World.block_lt_of_cell? w _ hw959_2)).trans hw959_2), ((HB.out.cell (World.block_lt_of_cell? w _ hw961_0)).trans hw961_0), ((HB.out.cell (World.block_lt_of_cell? w _ hw961_1)).trans hw961_1), ((HB.out.cell (World.block_lt_of_cell? w _ hw961_2)).trans hw961_2), ((HB.out.cell (World.block_lt_of_cell? w _ hw962_0)).trans hw962_0), ((HB.out.cell (World.block_lt_of_cell? w _ hw962_1)).trans hw962_1), ((HB.out.cell (World.block_lt_of_cell? w _ hw962_2)).trans hw962_2)⟩ (fun hHeld => ?_)
     clear hK K
     refine nm ?_
     refine pu 22 38 23 8388607 ?_
     refine done_ (done_of HT_.out (by kernel_rfl)) ?_
     try go_wp2
     go_ret
     exact ⟨uE, uB⟩
   ·rw [if_neg c6] at H
    replace c6 := decide_eq_false c6
    obtain rfl := Option.some.inj H
    go_wp2
    go_ret
    exact ⟨uE, uB⟩
end Go.Proofs.YtdmdahafiiggiaaGreatDoor.K
end
section
namespace Go.Proofs.YtdmdahafiiggiaaGreatDoor.K
open Go.RowKit Go.Proofs.YtdmdahafiiggiaaGreatDoorW.PrintWords Go.Proofs.YtdmdahafiiggiaaGreatDoorW.PrintLast Go.Proofs.YtdmdahafiiggiaaGreatDoorW.PrintMore
section
variable {P : Program} {ops : Array Oper} {Q : Exit → Act → World → Prop} {md : Region.Mode} {S : World → Prop} {ds : List Nat} {oi : Oper} {v : Value} {fuel : Nat} {l : Array Bool} {a a' : Act} {w : World}
theorem tk14 (i N n m : Nat) (hS : S w) (h : wpAnyLast P md ops Q S ds fuel (bl n m) a' w) (hi : ops[i]? = some oi := by exact rfl) (hN : oi.dst = some N := by exact rfl) (hc : takeB md ops ds l (bl n m) i = true := by first | exact take_ofW HT_.out HW_.out (by kernel_rfl) | exact take_of HT_.out (by kernel_rfl) | kernel_rfl)
  (hQ : ∀ c a w, Q (.panic c) (a.put oi.dst v) w → Q (.panic c) a w := by exact fun _ _ _ h => h) (hy : YieldsIf P ops S oi v a := by (refine Or.inl ⟨by rfl, ?_⟩; rintro w' ⟨s0, s1, s2, s3, s4, s5, s6, s7, s8, s9, s10, s11, s12, s13⟩; go_simp; with_reducible rfl))
  (ha : a.put (some N) v = a' := by (simp only [Act.put, List.setIfInBounds_toArray, List.set_cons_zero, List.set_cons_succ, i64_w, i32_w]; rfl)) : wpAnyLast P md ops Q S ds (fuel + 1) l a w := take_ (bl n m) hi hN hc hQ hy hS ha h
end
end Go.Proofs.YtdmdahafiiggiaaGreatDoor.K
end
section
namespace Go.Proofs.YtdmdahafiiggiaaGreatDoor.K
open Go.RowKit Go.Proofs.YtdmdahafiiggiaaGreatDoorW.PrintWords Go.Proofs.YtdmdahafiiggiaaGreatDoorW.PrintLast Go.Proofs.YtdmdahafiiggiaaGreatDoorW.PrintMore
attribute [local go_sem] max2_int min2_int max_two min_two max_three min_three max_four min_four
set_option linter.unusedVariables false
set_option linter.unusedSimpArgs false
mutual
def quinarialaw02_ChannelProven.j0 : Nat → Int → List (S68) → Int → Bool → List Int → List (S32) → Int → Int → Int → Option (Bool)
 | 0, _, _, _, _, _, _, _, _, _ => none
 | k + 1, x1, x2, x3, x62, x987000, x987001, x988000, x988001, x988002 => if x62 = true then ((quinarialaw02_known.f k).bind fun t994 => (some t994)) else ((channel_Lime.f x987000 x987001 x1 x2).bind fun bt995 => ((quinariaref02_Agrees.f k x987000 x987001 x1 x2 x3).bind fun t999 => (if bt995.2.2 = 0 then (if 0 ≤ x1 then (if x1 < (x987001.length : Int) then (if bt995.1 < ((rd_T32 x987001 x1).f3.f0) then (quinarialaw02_ChannelProven.j1 k x1 x2 x3 true x987000 x987001 x988000 x988001 x988002 bt995.1 bt995.2.1) else (if bt995.2.1 > ((rd_T32 x987001 x1).f3.f1) then (quinarialaw02_ChannelProven.j1 k x1 x2 x3 true x987000 x987001 x988000 x988001 x988002 bt995.1 bt995.2.1) else (if bt995.1 > bt995.2.1 then (quinarialaw02_ChannelProven.j1 k x1 x2 x3 true x987000 x987001 x988000 x988001 x988002 bt995.1 bt995.2.1) else ((quinariaref02_Agrees.f k x987000 x987001 x1 x2 bt995.1).bind fun t1003 => (if t1003 = true then ((quinariaref02_Agrees.f k x987000 x987001 x1 x2 bt995.2.1).bind fun t1004 => (if t1004 = true then (if x3 ≥ bt995.1 then (quinarialaw02_ChannelProven.j1 k x1 x2 x3 (t999 != (decide (x3 ≤ bt995.2.1))) x987000 x987001 x988000 x988001 x988002 bt995.1 bt995.2.1) else (quinarialaw02_ChannelProven.j1 k x1 x2 x3 (t999 != false) x987000 x987001 x988000 x988001 x988002 bt995.1 bt995.2.1)) else (quinarialaw02_ChannelProven.j1 k x1 x2 x3 true x987000 x987001 x988000 x988001 x988002 bt995.1 bt995.2.1))) else (quinarialaw02_ChannelProven.j1 k x1 x2 x3 true x987000 x987001 x988000 x988001 x988002 bt995.1 bt995.2.1)))))) else (none)) else (none)) else (if bt995.2.2 = 7 then (if t999 = true then (some false) else ((quinarialaw02_known.f k).bind fun t1000 => (some t1000))) else (some false)))))
def quinarialaw02_ChannelProven.j1 : Nat → Int → List (S68) → Int → Bool → List Int → List (S32) → Int → Int → Int → Int → Int → Option (Bool)
 | 0, _, _, _, _, _, _, _, _, _, _, _ => none
 | k + 1, x1, x2, x3, x147, x987000, x987001, x988000, x988001, x988002, x999000, x999001 => if x147 = true then (some false) else (if ([] : List (S68)).length + x2.length < 5864062014805 then ((some (([] : List (S68)) ++ x2 : List (S68))).bind fun y1005 => ((some (([(⟨x988000, (⟨x988001, x988002⟩ : S30)⟩ : S68)] : List (S68)) : List (S68))).bind fun y1008 => (if y1005.length + y1008.length < 5864062014805 then ((some (y1005 ++ y1008 : List (S68))).bind fun y1011 => ((quinariaref02_Notes.f k y1011).bind fun t1014 => (if t1014 = true then ((quinariaref02_Agrees.f k x987000 x987001 x1 y1011 x3).bind fun t1015 => (quinarialaw02_ChannelProven.j2 k x1 x3 y1011 (!t1015) x987000 x987001 x999000 x999001)) else (quinarialaw02_ChannelProven.j2 k x1 x3 y1011 true x987000 x987001 x999000 x999001)))) else (none)))) else (none))
def quinarialaw02_ChannelProven.j2 : Nat → Int → Int → List (S68) → Bool → List Int → List (S32) → Int → Int → Option (Bool)
 | 0, _, _, _, _, _, _, _, _ => none
 | k + 1, x1, x3, x14, x163, x987000, x987001, x999000, x999001 => if x163 = true then ((quinarialaw02_known.f k).bind fun t1016 => (some t1016)) else ((channel_Lime.f x987000 x987001 x1 x14).bind fun bt1017 => (if bt1017.2.2 = 0 then (if bt1017.1 ≥ x999000 then (if bt1017.2.1 ≤ x999001 then (if x3 ≥ bt1017.1 then (if x3 ≤ bt1017.2.1 then ((quinarialaw02_known.f k).bind fun t1021 => (some t1021)) else (some false)) else (some false)) else (some false)) else (some false)) else (some false)))
end
def quinarialaw02_ChannelProven.f (k : Nat) (l0_0 : List Int) (l0_1 : List (S32)) (a1 : Int) (l2 : List (S68)) (a3 : Int) (a4_0 : Int) (a4_1 : Int) (a4_2 : Int) : Option (Bool) := (quinarialaw02_short.f l0_0 l0_1).bind fun t988 => (if t988 = true then (if (l2.length : Int) > 11 then (quinarialaw02_ChannelProven.j0 k a1 l2 a3 true l0_0 l0_1 a4_0 a4_1 a4_2) else ((quinariaref02_Right.f k l0_0 l0_1).bind fun t989 => (if t989 = true then ((quinariaref02_Number.f l0_0 l0_1 a1).bind fun t990 => (if t990 = true then ((quinariaref02_Notes.f k l2).bind fun t991 => (if t991 = true then (if 0 ≤ a1 then (if a1 < (l0_1.length : Int) then (if a3 < ((rd_T32 l0_1 a1).f3.f0) then (quinarialaw02_ChannelProven.j0 k a1 l2 a3 true l0_0 l0_1 a4_0 a4_1 a4_2) else (quinarialaw02_ChannelProven.j0 k a1 l2 a3 (decide (a3 > ((rd_T32 l0_1 a1).f3.f1))) l0_0 l0_1 a4_0 a4_1 a4_2)) else (none)) else (none)) else (quinarialaw02_ChannelProven.j0 k a1 l2 a3 true l0_0 l0_1 a4_0 a4_1 a4_2))) else (quinarialaw02_ChannelProven.j0 k a1 l2 a3 true l0_0 l0_1 a4_0 a4_1 a4_2))) else (quinarialaw02_ChannelProven.j0 k a1 l2 a3 true l0_0 l0_1 a4_0 a4_1 a4_2)))) else (quinarialaw02_ChannelProven.j0 k a1 l2 a3 true l0_0 l0_1 a4_0 a4_1 a4_2))
def quinarialaw02_ChannelProven.T7 : Bool × List (List Nat × List Nat) := (true, [([], []), ([0], [0]), ([], []), ([2], [2]), ([], []), ([3, 4], [3, 4]), ([5], [5]), ([6], [6]), ([7], [7]), ([1, 8], [1, 8]), ([9], [9]), ([10], [10]), ([11, 10], [10, 11]), ([10], [10]), ([13, 10], [10, 13]), ([10], [10]), ([14, 15, 10], [10, 14, 15]), ([16, 10], [10, 16]), ([17, 10], [10, 17]), ([18, 10], [10, 18]), ([12, 19, 10], [10, 12, 19]), ([10, 20], [10, 20]), ([21, 10], [21]), ([22], [22]), ([23, 22], [22, 23]), ([22], [22]), ([25, 22], [22, 25]), ([24, 26, 22], [22, 24, 26]), ([22, 27], [22, 27]), ([28, 22], [28]), ([29], [29]), ([29], [29]), ([29], [29]), ([29], [29]), ([33, 29], [29, 33]), ([30, 31, 32, 34, 29, 29], [29, 30, 31, 32, 34]), ([35, 29], [29, 35]), ([29, 36], [29, 36]), ([37, 35], [37]), ([38], [38]), ([38], [38]), ([38], [38]), ([38], [38]), ([42, 38], [38, 42]), ([39, 40, 41, 43, 38, 38], [38, 39, 40, 41, 43]), ([44, 38], [38, 44]), ([38, 45], [38, 45]), ([46, 44], [46]), ([47], [47]), ([47], [47]), ([47], [47]), ([50, 47], [47, 50]), ([49, 51, 47], [47, 49, 51]), ([52, 47, 47], [47, 52]), ([53], [53]), ([53], [53]), ([55, 53], [53, 55]), ([54, 56, 53], [53, 54, 56]), ([53, 57, 47], [47, 53, 57]), ([48, 58, 47], [47, 48, 58]), ([47, 59], [47, 59])])
def quinarialaw02_ChannelProven.B7 : List Nat := [0, 1, 0, 4, 0, 28, 60, 124, 252, 511, 1023, 2047, 4095, 2047, 10239, 2047, 59391, 124927, 255999, 518143, 1048575, 2097151, 4194303, 8388607, 16777215, 8388607, 41943039, 134217727, 268435455, 536870911, 1073741823, 1073741823, 1073741823, 1073741823, 9663676415, 34359738367, 68719476735, 137438953471, 274877906943, 549755813887, 549755813887, 549755813887, 549755813887, 4947802324991, 17592186044415, 35184372088831, 70368744177663, 140737488355327, 281474976710655, 281474976710655, 281474976710655, 1407374883553279, 4222124650659839, 8725724278030335, 17732923532771327, 17732923532771327, 53761720551735295, 143833713099145215, 287948901175001087, 576460752303423487, 1152921504606846975]
theorem quinarialaw02_ChannelProven.tab7 : rtab .any (opsOf Tryz.f12 7) = quinarialaw02_ChannelProven.T7 := by kernel_rfl
theorem quinarialaw02_ChannelProven.bits7 : waitsOk quinarialaw02_ChannelProven.T7.2 quinarialaw02_ChannelProven.B7 = true := by kernel_rfl
set_option maxHeartbeats 8000000 in
set_option maxRecDepth 100000 in
theorem quinarialaw02_ChannelProven.calls (k : Nat) (A0_0 : Option Addr) (c0_0 : Nat) (l0_0 : List Int) (A0_1 : Option Addr) (c0_1 : Nat) (l0_1 : List (S32)) (a1 : Int) (A2 : Option Addr) (c2 : Nat) (l2 : List (S68)) (a3 : Int) (a4_0 : Int) (a4_1 : Int) (a4_2 : Int) (r : Bool) (w : World) (hr0_0 : Kd.C (Kd.int .i64) w A0_0 l0_0.length l0_0) (hc0_0 : l0_0.length ≤ c0_0) (hr0_1 : Kd.C k32 w A0_1 l0_1.length l0_1) (hc0_1 : l0_1.length ≤ c0_1) (hr2 : Kd.C k68 w A2 l2.length l2) (hc2 : l2.length ≤ c2) (hT : TabW w) (h : quinarialaw02_ChannelProven.f k l0_0 l0_1 a1 l2 a3 a4_0 a4_1 a4_2 = some r) :
  Calls Tryz.prog 12 #[.agg #[.slice A0_0 l0_0.length c0_0, .slice A0_1 l0_1.length c0_1], .int .i64 a1, .slice A2 l2.length c2, .int .i64 a3, .agg #[.int .i64 a4_0, .int .i64 a4_1, .int .i64 a4_2]] w fun e w' => e = .returned (.bool r) ∧ Below w.heap.size w w' := by
 have HT := Aside0.mk hT
 clear hT
 have hu25 := Tryz.underlying25
 have hu68 := Tryz.underlying68
 have hu30 := Tryz.underlying30
 have HR0_0 := Aside0.mk hr0_0
 have HC0_0 := Aside0.mk hc0_0
 clear hr0_0 hc0_0
 have HR0_1 := Aside0.mk hr0_1
 have HC0_1 := Aside0.mk hc0_1
 clear hr0_1 hc0_1
 have HR2 := Aside0.mk hr2
 have HC2 := Aside0.mk hc2
 clear hr2 hc2
 have HB := Aside0.mk (Below.refl w.heap.size w)
 have H : ((quinarialaw02_short.f l0_0 l0_1).bind fun t988 => (if t988 = true then (if (l2.length : Int) > 11 then (quinarialaw02_ChannelProven.j0 k a1 l2 a3 true l0_0 l0_1 a4_0 a4_1 a4_2) else ((quinariaref02_Right.f k l0_0 l0_1).bind fun t989 => (if t989 = true then ((quinariaref02_Number.f l0_0 l0_1 a1).bind fun t990 => (if t990 = true then ((quinariaref02_Notes.f k l2).bind fun t991 => (if t991 = true then (if 0 ≤ a1 then (if a1 < (l0_1.length : Int) then (if a3 < ((rd_T32 l0_1 a1).f3.f0) then (quinarialaw02_ChannelProven.j0 k a1 l2 a3 true l0_0 l0_1 a4_0 a4_1 a4_2) else (quinarialaw02_ChannelProven.j0 k a1 l2 a3 (decide (a3 > ((rd_T32 l0_1 a1).f3.f1))) l0_0 l0_1 a4_0 a4_1 a4_2)) else (none)) else (none)) else (quinarialaw02_ChannelProven.j0 k a1 l2 a3 true l0_0 l0_1 a4_0 a4_1 a4_2))) else (quinarialaw02_ChannelProven.j0 k a1 l2 a3 true l0_0 l0_1 a4_0 a4_1 a4_2))) else (quinarialaw02_ChannelProven.j0 k a1 l2 a3 true l0_0 l0_1 a4_0 a4_1 a4_2)))) else (quinarialaw02_ChannelProven.j0 k a1 l2 a3 true l0_0 l0_1 a4_0 a4_1 a4_2))) = some r := h
 clear h
 have HC6 := Aside0.mk H
 clear H
 go_enter Tryz.func12, Tryz.ntmps12
 go_upto_region 1 with (first | ((with_reducible refine gate_dst (N := 5) rfl ?_); (try (refine gate_guard (by rfl) ?_; dsimp only)); refine bxe 5 #[.slice A0_0 l0_0.length c0_0, .slice A0_1 l0_1.length c0_1] 25 ?_; intro gb986 hg w7 hbox hb; have n0_ := Aside0.mk (below_step uB hb); have n1_ := Aside0.mk (hbox); have n2_ := gw hg; have n3_ := gw hg; clear HB; have HB := n0_; have BK986 := n1_; have GW986 := n2_; have GE986 := n3_; clear n0_ n1_ n2_ n3_; clear hb hbox hg) | ((with_reducible refine gate_dst (N := 9) rfl ?_); (try (refine gate_guard (by rfl) ?_; dsimp only)); refine bxe 9 #[.int .i64 a4_0, .int .i64 a4_1, .int .i64 a4_2] 68 ?_; intro gb987 hg w8 hbox hb; have n0_ := Aside0.mk (blk_below (uK BK986.out) hb); have n1_ := Aside0.mk (below_step uB hb); have n2_ := Aside0.mk (hbox); have n3_ := gw hg; have n4_ := gw hg; have n5_ := nb BK986 hg; have n6_ := nc BK986 hg; clear BK986; clear HB; have BK986 := n0_; have HB := n1_; have BK987 := n2_; have GW987 := n3_; have GE987 := n4_; have NB986_987 := n5_; have NB987_986 := n6_; clear n0_ n1_ n2_ n3_ n4_ n5_ n6_; clear hb hbox hg))
 (try simp only [Act.put, List.setIfInBounds_toArray, List.set_cons_zero, List.set_cons_succ])
 go_cut [62] (fun v62 wc => ∃ (kq : Nat) (x62_5 : Bool), v62 = .bool x62_5 ∧ Aside0 (quinarialaw02_ChannelProven.j0 kq a1 l2 a3 x62_5 l0_0 l0_1 a4_0 a4_1 a4_2 = some r) ∧ Aside0 (kq ≤ k) ∧ Aside0 (wc.heap[gb986]? = some (.cells #[(.slice A0_0 l0_0.length c0_0), (.slice A0_1 l0_1.length c0_1)] 25 (0, 0))) ∧ Aside0 (wc.heap[gb987]? = some (.cells #[.int .i64 a4_0, .int .i64 a4_1, .int .i64 a4_2] 68 (0, 0))) ∧ Aside0 (Below w.heap.size w wc))
 case first =>
  as_aux_lemma =>
   have H := HC6.out
   clear HC6
   replace H := Option.bind_eq_some_iff.mp H
   obtain ⟨t988, A90, H⟩ := H
   replace H : (if t988 = true then (if (l2.length : Int) > 11 then (quinarialaw02_ChannelProven.j0 k a1 l2 a3 true l0_0 l0_1 a4_0 a4_1 a4_2) else ((quinariaref02_Right.f k l0_0 l0_1).bind fun t989 => (if t989 = true then ((quinariaref02_Number.f l0_0 l0_1 a1).bind fun t990 => (if t990 = true then ((quinariaref02_Notes.f k l2).bind fun t991 => (if t991 = true then (if 0 ≤ a1 then (if a1 < (l0_1.length : Int) then (if a3 < ((rd_T32 l0_1 a1).f3.f0) then (quinarialaw02_ChannelProven.j0 k a1 l2 a3 true l0_0 l0_1 a4_0 a4_1 a4_2) else (quinarialaw02_ChannelProven.j0 k a1 l2 a3 (decide (a3 > ((rd_T32 l0_1 a1).f3.f1))) l0_0 l0_1 a4_0 a4_1 a4_2)) else (none)) else (none)) else (quinarialaw02_ChannelProven.j0 k a1 l2 a3 true l0_0 l0_1 a4_0 a4_1 a4_2))) else (quinarialaw02_ChannelProven.j0 k a1 l2 a3 true l0_0 l0_1 a4_0 a4_1 a4_2))) else (quinarialaw02_ChannelProven.j0 k a1 l2 a3 true l0_0 l0_1 a4_0 a4_1 a4_2)))) else (quinarialaw02_ChannelProven.j0 k a1 l2 a3 true l0_0 l0_1 a4_0 a4_1 a4_2)) = some r := H
   have A9 := Aside0.mk A90
   clear A90
   by_cases c10 : t988 = true
   ·as_aux_lemma =>
     subst c10
     have H1 : (if (l2.length : Int) > 11 then (quinarialaw02_ChannelProven.j0 k a1 l2 a3 true l0_0 l0_1 a4_0 a4_1 a4_2) else ((quinariaref02_Right.f k l0_0 l0_1).bind fun t989 => (if t989 = true then ((quinariaref02_Number.f l0_0 l0_1 a1).bind fun t990 => (if t990 = true then ((quinariaref02_Notes.f k l2).bind fun t991 => (if t991 = true then (if 0 ≤ a1 then (if a1 < (l0_1.length : Int) then (if a3 < ((rd_T32 l0_1 a1).f3.f0) then (quinarialaw02_ChannelProven.j0 k a1 l2 a3 true l0_0 l0_1 a4_0 a4_1 a4_2) else (quinarialaw02_ChannelProven.j0 k a1 l2 a3 (decide (a3 > ((rd_T32 l0_1 a1).f3.f1))) l0_0 l0_1 a4_0 a4_1 a4_2)) else (none)) else (none)) else (quinarialaw02_ChannelProven.j0 k a1 l2 a3 true l0_0 l0_1 a4_0 a4_1 a4_2))) else (quinarialaw02_ChannelProven.j0 k a1 l2 a3 true l0_0 l0_1 a4_0 a4_1 a4_2))) else (quinarialaw02_ChannelProven.j0 k a1 l2 a3 true l0_0 l0_1 a4_0 a4_1 a4_2)))) = some r := by rw [if_pos rfl] at H; exact H
     clear H
     have H := H1
     clear H1
     by_cases c11 : (l2.length : Int) > 11
     ·rw [if_pos c11] at H
      have c11b0 : decide (11 < (l2.length : Int)) = true := decide_eq_true c11
      have c11b1 : decide (11 < l2.length) = true := decide_eq_true (by omega)
      clear c11
      (first | rw [c11b0] | (simp only [i64_w, i32_w]; rw [c11b0]) | skip)
      have H' := Aside0.mk H
      clear H
      have hnb12 := NB986_987.out
      have hnc12 := NB987_986.out
      obtain ⟨hcz13_0, hcz13_1⟩ := cz2 BK986.out
      obtain ⟨hfz13_0, hfz13_1⟩ := fz2 BK986.out
      go_wp2_with (first | ((with_reducible refine gate_callee (f := 13) rfl ?_); refine goesL_ (some 18) rfl rfl Tryz.func13 (by kernel_rfl) rfl #[.agg #[.slice A0_0 l0_0.length c0_0, .slice A0_1 l0_1.length c0_1]] rfl uM ?_; (with_reducible refine (quinarialaw02_short.calls _ _ l0_0 _ _ l0_1 true _ ?side1 ?side2 ?side3 ?side4 A9.out).mono ?_); (case side1 => repeat (first | exact (Kd.C_below HR0_0.out HB.out) | (with_reducible refine Kd.C_alloc ?_ _) | (with_reducible refine Kd.C_drewN ?_ _) | (with_reducible refine Kd.C_drew ?_))); (case side2 => exact HC0_0.out); (case side3 => repeat (first | exact (Kd.C_below HR0_1.out HB.out) | (with_reducible refine Kd.C_alloc ?_ _) | (with_reducible refine Kd.C_drewN ?_ _) | (with_reducible refine Kd.C_drew ?_))); (case side4 => exact HC0_1.out); rintro e w14 ⟨rfl, hb⟩; refine ⟨_, rfl, ?_⟩; replace BK986 := Aside0.mk (blk_below (uK BK986.out) hb); replace BK987 := Aside0.mk (blk_below (uK BK987.out) hb); replace HB := Aside0.mk (below_step uB hb); (try clear hb); (try clear hb2); (try clear hk); (try clear hi)))
      go_meet
      case rel => exact ⟨_, (true), u0, H', ⟨u1⟩, ⟨uK BK986.out⟩, ⟨uK BK987.out⟩, ⟨uB⟩⟩
     ·rw [if_neg c11] at H
      have c11b0 : decide (11 < (l2.length : Int)) = false := decide_eq_false c11
      have c11b1 : decide (11 < l2.length) = false := decide_eq_false (by omega)
      clear c11
      (first | rw [c11b0] | (simp only [i64_w, i32_w]; rw [c11b0]) | skip)
      replace H := Option.bind_eq_some_iff.mp H
      obtain ⟨t989, A150, H⟩ := H
      replace H : (if t989 = true then ((quinariaref02_Number.f l0_0 l0_1 a1).bind fun t990 => (if t990 = true then ((quinariaref02_Notes.f k l2).bind fun t991 => (if t991 = true then (if 0 ≤ a1 then (if a1 < (l0_1.length : Int) then (if a3 < ((rd_T32 l0_1 a1).f3.f0) then (quinarialaw02_ChannelProven.j0 k a1 l2 a3 true l0_0 l0_1 a4_0 a4_1 a4_2) else (quinarialaw02_ChannelProven.j0 k a1 l2 a3 (decide (a3 > ((rd_T32 l0_1 a1).f3.f1))) l0_0 l0_1 a4_0 a4_1 a4_2)) else (none)) else (none)) else (quinarialaw02_ChannelProven.j0 k a1 l2 a3 true l0_0 l0_1 a4_0 a4_1 a4_2))) else (quinarialaw02_ChannelProven.j0 k a1 l2 a3 true l0_0 l0_1 a4_0 a4_1 a4_2))) else (quinarialaw02_ChannelProven.j0 k a1 l2 a3 true l0_0 l0_1 a4_0 a4_1 a4_2)) = some r := H
      have A15 := Aside0.mk A150
      clear A150
      by_cases c16 : t989 = true
      ·subst c16
       have H1 : ((quinariaref02_Number.f l0_0 l0_1 a1).bind fun t990 => (if t990 = true then ((quinariaref02_Notes.f k l2).bind fun t991 => (if t991 = true then (if 0 ≤ a1 then (if a1 < (l0_1.length : Int) then (if a3 < ((rd_T32 l0_1 a1).f3.f0) then (quinarialaw02_ChannelProven.j0 k a1 l2 a3 true l0_0 l0_1 a4_0 a4_1 a4_2) else (quinarialaw02_ChannelProven.j0 k a1 l2 a3 (decide (a3 > ((rd_T32 l0_1 a1).f3.f1))) l0_0 l0_1 a4_0 a4_1 a4_2)) else (none)) else (none)) else (quinarialaw02_ChannelProven.j0 k a1 l2 a3 true l0_0 l0_1 a4_0 a4_1 a4_2))) else (quinarialaw02_ChannelProven.j0 k a1 l2 a3 true l0_0 l0_1 a4_0 a4_1 a4_2))) = some r := by rw [if_pos rfl] at H; exact H
       clear H
       have H := H1
       clear H1
       replace H := Option.bind_eq_some_iff.mp H
       obtain ⟨t990, A170, H⟩ := H
       replace H : (if t990 = true then ((quinariaref02_Notes.f k l2).bind fun t991 => (if t991 = true then (if 0 ≤ a1 then (if a1 < (l0_1.length : Int) then (if a3 < ((rd_T32 l0_1 a1).f3.f0) then (quinarialaw02_ChannelProven.j0 k a1 l2 a3 true l0_0 l0_1 a4_0 a4_1 a4_2) else (quinarialaw02_ChannelProven.j0 k a1 l2 a3 (decide (a3 > ((rd_T32 l0_1 a1).f3.f1))) l0_0 l0_1 a4_0 a4_1 a4_2)) else (none)) else (none)) else (quinarialaw02_ChannelProven.j0 k a1 l2 a3 true l0_0 l0_1 a4_0 a4_1 a4_2))) else (quinarialaw02_ChannelProven.j0 k a1 l2 a3 true l0_0 l0_1 a4_0 a4_1 a4_2)) = some r := H
       have A17 := Aside0.mk A170
       clear A170
       by_cases c18 : t990 = true
       ·subst c18
        have H1 : ((quinariaref02_Notes.f k l2).bind fun t991 => (if t991 = true then (if 0 ≤ a1 then (if a1 < (l0_1.length : Int) then (if a3 < ((rd_T32 l0_1 a1).f3.f0) then (quinarialaw02_ChannelProven.j0 k a1 l2 a3 true l0_0 l0_1 a4_0 a4_1 a4_2) else (quinarialaw02_ChannelProven.j0 k a1 l2 a3 (decide (a3 > ((rd_T32 l0_1 a1).f3.f1))) l0_0 l0_1 a4_0 a4_1 a4_2)) else (none)) else (none)) else (quinarialaw02_ChannelProven.j0 k a1 l2 a3 true l0_0 l0_1 a4_0 a4_1 a4_2))) = some r := by rw [if_pos rfl] at H; exact H
        clear H
        have H := H1
        clear H1
        replace H := Option.bind_eq_some_iff.mp H
        obtain ⟨t991, A190, H⟩ := H
        replace H : (if t991 = true then (if 0 ≤ a1 then (if a1 < (l0_1.length : Int) then (if a3 < ((rd_T32 l0_1 a1).f3.f0) then (quinarialaw02_ChannelProven.j0 k a1 l2 a3 true l0_0 l0_1 a4_0 a4_1 a4_2) else (quinarialaw02_ChannelProven.j0 k a1 l2 a3 (decide (a3 > ((rd_T32 l0_1 a1).f3.f1))) l0_0 l0_1 a4_0 a4_1 a4_2)) else (none)) else (none)) else (quinarialaw02_ChannelProven.j0 k a1 l2 a3 true l0_0 l0_1 a4_0 a4_1 a4_2)) = some r := H
        have A19 := Aside0.mk A190
        clear A190
        by_cases c20 : t991 = true
        ·subst c20
         have H1 : (if 0 ≤ a1 then (if a1 < (l0_1.length : Int) then (if a3 < ((rd_T32 l0_1 a1).f3.f0) then (quinarialaw02_ChannelProven.j0 k a1 l2 a3 true l0_0 l0_1 a4_0 a4_1 a4_2) else (quinarialaw02_ChannelProven.j0 k a1 l2 a3 (decide (a3 > ((rd_T32 l0_1 a1).f3.f1))) l0_0 l0_1 a4_0 a4_1 a4_2)) else (none)) else (none)) = some r := by rw [if_pos rfl] at H; exact H
         clear H
         have H := H1
         clear H1
         obtain ⟨c21, H⟩ := ifs H
         replace c21 := decide_eq_true c21
         obtain ⟨c22, H⟩ := ifs H
         replace c22 := decide_eq_true c22
         by_cases c23 : a3 < ((rd_T32 l0_1 a1).f3.f0)
         ·rw [if_pos c23] at H
          replace c23 := decide_eq_true c23
          have H' := Aside0.mk H
          clear H
          have hnb24 := NB986_987.out
          have hnc24 := NB987_986.out
          obtain ⟨hcz25_0, hcz25_1⟩ := cz2 BK986.out
          obtain ⟨hfz25_0, hfz25_1⟩ := fz2 BK986.out
          go_wp2_with (first | ((with_reducible refine gate_callee (f := 13) rfl ?_); refine goesL_ (some 18) rfl rfl Tryz.func13 (by kernel_rfl) rfl #[.agg #[.slice A0_0 l0_0.length c0_0, .slice A0_1 l0_1.length c0_1]] rfl uM ?_; (with_reducible refine (quinarialaw02_short.calls _ _ l0_0 _ _ l0_1 true _ ?side1 ?side2 ?side3 ?side4 A9.out).mono ?_); (case side1 => repeat (first | exact (Kd.C_below HR0_0.out HB.out) | (with_reducible refine Kd.C_alloc ?_ _) | (with_reducible refine Kd.C_drewN ?_ _) | (with_reducible refine Kd.C_drew ?_))); (case side2 => exact HC0_0.out); (case side3 => repeat (first | exact (Kd.C_below HR0_1.out HB.out) | (with_reducible refine Kd.C_alloc ?_ _) | (with_reducible refine Kd.C_drewN ?_ _) | (with_reducible refine Kd.C_drew ?_))); (case side4 => exact HC0_1.out); rintro e w26 ⟨rfl, hb⟩; refine ⟨_, rfl, ?_⟩; replace BK986 := Aside0.mk (blk_below (uK BK986.out) hb); replace BK987 := Aside0.mk (blk_below (uK BK987.out) hb); replace HB := Aside0.mk (below_step uB hb); (try clear hb); (try clear hb2); (try clear hk); (try clear hi); obtain ⟨hcz27_0, hcz27_1⟩ := cz2 BK986.out; obtain ⟨hfz27_0, hfz27_1⟩ := fz2 BK986.out) | (go_at_call 14; (with_reducible refine (quinariaref02_Right.calls k _ _ l0_0 _ _ l0_1 true _ ?side1 ?side2 ?side3 ?side4 A15.out).mono ?_); (case side1 => repeat (first | exact (Kd.C_below HR0_0.out HB.out) | (with_reducible refine Kd.C_alloc ?_ _) | (with_reducible refine Kd.C_drewN ?_ _) | (with_reducible refine Kd.C_drew ?_))); (case side2 => exact HC0_0.out); (case side3 => repeat (first | exact (Kd.C_below HR0_1.out HB.out) | (with_reducible refine Kd.C_alloc ?_ _) | (with_reducible refine Kd.C_drewN ?_ _) | (with_reducible refine Kd.C_drew ?_))); (case side4 => exact HC0_1.out); rintro e w28 ⟨rfl, hb⟩; replace BK986 := Aside0.mk (blk_below (uK BK986.out) hb); replace BK987 := Aside0.mk (blk_below (uK BK987.out) hb); replace HB := Aside0.mk (below_step uB hb); (try clear hb); (try clear hb2); (try clear hk); (try clear hi); obtain ⟨hcz29_0, hcz29_1⟩ := cz2 BK986.out; obtain ⟨hfz29_0, hfz29_1⟩ := fz2 BK986.out) | (go_at_call 15; (with_reducible refine (quinariaref02_Number.calls _ _ l0_0 _ _ l0_1 a1 true _ ?side1 ?side2 ?side3 ?side4 A17.out).mono ?_); (case side1 => repeat (first | exact (Kd.C_below HR0_0.out HB.out) | (with_reducible refine Kd.C_alloc ?_ _) | (with_reducible refine Kd.C_drewN ?_ _) | (with_reducible refine Kd.C_drew ?_))); (case side2 => exact HC0_0.out); (case side3 => repeat (first | exact (Kd.C_below HR0_1.out HB.out) | (with_reducible refine Kd.C_alloc ?_ _) | (with_reducible refine Kd.C_drewN ?_ _) | (with_reducible refine Kd.C_drew ?_))); (case side4 => exact HC0_1.out); rintro e w30 ⟨rfl, hb⟩; replace BK986 := Aside0.mk (blk_below (uK BK986.out) hb); replace BK987 := Aside0.mk (blk_below (uK BK987.out) hb); replace HB := Aside0.mk (below_step uB hb); (try clear hb); (try clear hb2); (try clear hk); (try clear hi)) | (go_at_call 39; (with_reducible refine (quinariaref02_Notes.calls k _ _ l2 true _ ?side1 ?side2 A19.out).mono ?_); (case side1 => repeat (first | exact (Kd.C_below HR2.out HB.out) | (with_reducible refine Kd.C_alloc ?_ _) | (with_reducible refine Kd.C_drewN ?_ _) | (with_reducible refine Kd.C_drew ?_))); (case side2 => exact HC2.out); rintro e w31 ⟨rfl, hb⟩; replace BK986 := Aside0.mk (blk_below (uK BK986.out) hb); replace BK987 := Aside0.mk (blk_below (uK BK987.out) hb); replace HB := Aside0.mk (below_step uB hb); (try clear hb); (try clear hb2); (try clear hk); (try clear hi); obtain ⟨hcz32_0, hcz32_1⟩ := cz2 BK986.out; obtain ⟨hfz32_0, hfz32_1⟩ := fz2 BK986.out; have p992 : 0 ≤ (a1 : Int) := of_decide_eq_true (by first | (with_reducible assumption) | assumption); have q992 : a1 < (l0_1.length : Int) := of_decide_eq_true (by first | (with_reducible assumption) | assumption); obtain ⟨ad992, e992, hx992_0, hx992_1, hx992_2, hx992_3, hx992_4⟩ := at_T32 HR0_1.out a1 p992 q992; cases e992; replace hx992_0 := hcell HB.out hx992_0; replace hx992_1 := hcell HB.out hx992_1; replace hx992_2 := hcell HB.out hx992_2; replace hx992_3 := hcell HB.out hx992_3; replace hx992_4 := hcell HB.out hx992_4; replace p992 := eq_true p992; replace q992 := eq_true q992))
          go_meet
          case rel => exact ⟨_, (true), u0, H', ⟨u1⟩, ⟨uK BK986.out⟩, ⟨uK BK987.out⟩, ⟨uB⟩⟩
         ·rw [if_neg c23] at H
          replace c23 := decide_eq_false c23
          have H' := Aside0.mk H
          clear H
          have hnb33 := NB986_987.out
          have hnc33 := NB987_986.out
          obtain ⟨hcz34_0, hcz34_1⟩ := cz2 BK986.out
          obtain ⟨hfz34_0, hfz34_1⟩ := fz2 BK986.out
          go_wp2_with (first | ((with_reducible refine gate_callee (f := 13) rfl ?_); refine goesL_ (some 18) rfl rfl Tryz.func13 (by kernel_rfl) rfl #[.agg #[.slice A0_0 l0_0.length c0_0, .slice A0_1 l0_1.length c0_1]] rfl uM ?_; (with_reducible refine (quinarialaw02_short.calls _ _ l0_0 _ _ l0_1 true _ ?side1 ?side2 ?side3 ?side4 A9.out).mono ?_); (case side1 => repeat (first | exact (Kd.C_below HR0_0.out HB.out) | (with_reducible refine Kd.C_alloc ?_ _) | (with_reducible refine Kd.C_drewN ?_ _) | (with_reducible refine Kd.C_drew ?_))); (case side2 => exact HC0_0.out); (case side3 => repeat (first | exact (Kd.C_below HR0_1.out HB.out) | (with_reducible refine Kd.C_alloc ?_ _) | (with_reducible refine Kd.C_drewN ?_ _) | (with_reducible refine Kd.C_drew ?_))); (case side4 => exact HC0_1.out); rintro e w35 ⟨rfl, hb⟩; refine ⟨_, rfl, ?_⟩; replace BK986 := Aside0.mk (blk_below (uK BK986.out) hb); replace BK987 := Aside0.mk (blk_below (uK BK987.out) hb); replace HB := Aside0.mk (below_step uB hb); (try clear hb); (try clear hb2); (try clear hk); (try clear hi); obtain ⟨hcz36_0, hcz36_1⟩ := cz2 BK986.out; obtain ⟨hfz36_0, hfz36_1⟩ := fz2 BK986.out) | (go_at_call 14; (with_reducible refine (quinariaref02_Right.calls k _ _ l0_0 _ _ l0_1 true _ ?side1 ?side2 ?side3 ?side4 A15.out).mono ?_); (case side1 => repeat (first | exact (Kd.C_below HR0_0.out HB.out) | (with_reducible refine Kd.C_alloc ?_ _) | (with_reducible refine Kd.C_drewN ?_ _) | (with_reducible refine Kd.C_drew ?_))); (case side2 => exact HC0_0.out); (case side3 => repeat (first | exact (Kd.C_below HR0_1.out HB.out) | (with_reducible refine Kd.C_alloc ?_ _) | (with_reducible refine Kd.C_drewN ?_ _) | (with_reducible refine Kd.C_drew ?_))); (case side4 => exact HC0_1.out); rintro e w37 ⟨rfl, hb⟩; replace BK986 := Aside0.mk (blk_below (uK BK986.out) hb); replace BK987 := Aside0.mk (blk_below (uK BK987.out) hb); replace HB := Aside0.mk (below_step uB hb); (try clear hb); (try clear hb2); (try clear hk); (try clear hi); obtain ⟨hcz38_0, hcz38_1⟩ := cz2 BK986.out; obtain ⟨hfz38_0, hfz38_1⟩ := fz2 BK986.out) | (go_at_call 15; (with_reducible refine (quinariaref02_Number.calls _ _ l0_0 _ _ l0_1 a1 true _ ?side1 ?side2 ?side3 ?side4 A17.out).mono ?_); (case side1 => repeat (first | exact (Kd.C_below HR0_0.out HB.out) | (with_reducible refine Kd.C_alloc ?_ _) | (with_reducible refine Kd.C_drewN ?_ _) | (with_reducible refine Kd.C_drew ?_))); (case side2 => exact HC0_0.out); (case side3 => repeat (first | exact (Kd.C_below HR0_1.out HB.out) | (with_reducible refine Kd.C_alloc ?_ _) | (with_reducible refine Kd.C_drewN ?_ _) | (with_reducible refine Kd.C_drew ?_))); (case side4 => exact HC0_1.out); rintro e w39 ⟨rfl, hb⟩; replace BK986 := Aside0.mk (blk_below (uK BK986.out) hb); replace BK987 := Aside0.mk (blk_below (uK BK987.out) hb); replace HB := Aside0.mk (below_step uB hb); (try clear hb); (try clear hb2); (try clear hk); (try clear hi)) | (go_at_call 39; (with_reducible refine (quinariaref02_Notes.calls k _ _ l2 true _ ?side1 ?side2 A19.out).mono ?_); (case side1 => repeat (first | exact (Kd.C_below HR2.out HB.out) | (with_reducible refine Kd.C_alloc ?_ _) | (with_reducible refine Kd.C_drewN ?_ _) | (with_reducible refine Kd.C_drew ?_))); (case side2 => exact HC2.out); rintro e w40 ⟨rfl, hb⟩; replace BK986 := Aside0.mk (blk_below (uK BK986.out) hb); replace BK987 := Aside0.mk (blk_below (uK BK987.out) hb); replace HB := Aside0.mk (below_step uB hb); (try clear hb); (try clear hb2); (try clear hk); (try clear hi); obtain ⟨hcz41_0, hcz41_1⟩ := cz2 BK986.out; obtain ⟨hfz41_0, hfz41_1⟩ := fz2 BK986.out; have p992 : 0 ≤ (a1 : Int) := of_decide_eq_true (by first | (with_reducible assumption) | assumption); have q992 : a1 < (l0_1.length : Int) := of_decide_eq_true (by first | (with_reducible assumption) | assumption); obtain ⟨ad992, e992, hx992_0, hx992_1, hx992_2, hx992_3, hx992_4⟩ := at_T32 HR0_1.out a1 p992 q992; cases e992; replace hx992_0 := hcell HB.out hx992_0; replace hx992_1 := hcell HB.out hx992_1; replace hx992_2 := hcell HB.out hx992_2; replace hx992_3 := hcell HB.out hx992_3; replace hx992_4 := hcell HB.out hx992_4; replace p992 := eq_true p992; replace q992 := eq_true q992; have p993 : 0 ≤ (a1 : Int) := of_decide_eq_true (by first | (with_reducible assumption) | assumption); have q993 : a1 < (l0_1.length : Int) := of_decide_eq_true (by first | (with_reducible assumption) | assumption); obtain ⟨ad993, e993, hx993_0, hx993_1, hx993_2, hx993_3, hx993_4⟩ := at_T32 HR0_1.out a1 p993 q993; obtain rfl : ad992 = ad993 := (by injection e993); replace hx993_0 := hcell HB.out hx993_0; replace hx993_1 := hcell HB.out hx993_1; replace hx993_2 := hcell HB.out hx993_2; replace hx993_3 := hcell HB.out hx993_3; replace hx993_4 := hcell HB.out hx993_4; replace p993 := eq_true p993; replace q993 := eq_true q993))
          go_meet
          case rel => exact ⟨_, (decide (a3 > ((rd_T32 l0_1 a1).f3.f1))), u0, H', ⟨u1⟩, ⟨uK BK986.out⟩, ⟨uK BK987.out⟩, ⟨uB⟩⟩
        ·replace c20 := Bool.eq_false_iff.mpr c20
         subst c20
         have H1 : (quinarialaw02_ChannelProven.j0 k a1 l2 a3 true l0_0 l0_1 a4_0 a4_1 a4_2) = some r := by rw [if_neg (show ¬ (false = true) by decide)] at H; exact H
         clear H
         have H := H1
         clear H1
         have H' := Aside0.mk H
         clear H
         have hnb42 := NB986_987.out
         have hnc42 := NB987_986.out
         obtain ⟨hcz43_0, hcz43_1⟩ := cz2 BK986.out
         obtain ⟨hfz43_0, hfz43_1⟩ := fz2 BK986.out
         go_wp2_with (first | ((with_reducible refine gate_callee (f := 13) rfl ?_); refine goesL_ (some 18) rfl rfl Tryz.func13 (by kernel_rfl) rfl #[.agg #[.slice A0_0 l0_0.length c0_0, .slice A0_1 l0_1.length c0_1]] rfl uM ?_; (with_reducible refine (quinarialaw02_short.calls _ _ l0_0 _ _ l0_1 true _ ?side1 ?side2 ?side3 ?side4 A9.out).mono ?_); (case side1 => repeat (first | exact (Kd.C_below HR0_0.out HB.out) | (with_reducible refine Kd.C_alloc ?_ _) | (with_reducible refine Kd.C_drewN ?_ _) | (with_reducible refine Kd.C_drew ?_))); (case side2 => exact HC0_0.out); (case side3 => repeat (first | exact (Kd.C_below HR0_1.out HB.out) | (with_reducible refine Kd.C_alloc ?_ _) | (with_reducible refine Kd.C_drewN ?_ _) | (with_reducible refine Kd.C_drew ?_))); (case side4 => exact HC0_1.out); rintro e w44 ⟨rfl, hb⟩; refine ⟨_, rfl, ?_⟩; replace BK986 := Aside0.mk (blk_below (uK BK986.out) hb); replace BK987 := Aside0.mk (blk_below (uK BK987.out) hb); replace HB := Aside0.mk (below_step uB hb); (try clear hb); (try clear hb2); (try clear hk); (try clear hi); obtain ⟨hcz45_0, hcz45_1⟩ := cz2 BK986.out; obtain ⟨hfz45_0, hfz45_1⟩ := fz2 BK986.out) | (go_at_call 14; (with_reducible refine (quinariaref02_Right.calls k _ _ l0_0 _ _ l0_1 true _ ?side1 ?side2 ?side3 ?side4 A15.out).mono ?_); (case side1 => repeat (first | exact (Kd.C_below HR0_0.out HB.out) | (with_reducible refine Kd.C_alloc ?_ _) | (with_reducible refine Kd.C_drewN ?_ _) | (with_reducible refine Kd.C_drew ?_))); (case side2 => exact HC0_0.out); (case side3 => repeat (first | exact (Kd.C_below HR0_1.out HB.out) | (with_reducible refine Kd.C_alloc ?_ _) | (with_reducible refine Kd.C_drewN ?_ _) | (with_reducible refine Kd.C_drew ?_))); (case side4 => exact HC0_1.out); rintro e w46 ⟨rfl, hb⟩; replace BK986 := Aside0.mk (blk_below (uK BK986.out) hb); replace BK987 := Aside0.mk (blk_below (uK BK987.out) hb); replace HB := Aside0.mk (below_step uB hb); (try clear hb); (try clear hb2); (try clear hk); (try clear hi); obtain ⟨hcz47_0, hcz47_1⟩ := cz2 BK986.out; obtain ⟨hfz47_0, hfz47_1⟩ := fz2 BK986.out) | (go_at_call 15; (with_reducible refine (quinariaref02_Number.calls _ _ l0_0 _ _ l0_1 a1 true _ ?side1 ?side2 ?side3 ?side4 A17.out).mono ?_); (case side1 => repeat (first | exact (Kd.C_below HR0_0.out HB.out) | (with_reducible refine Kd.C_alloc ?_ _) | (with_reducible refine Kd.C_drewN ?_ _) | (with_reducible refine Kd.C_drew ?_))); (case side2 => exact HC0_0.out); (case side3 => repeat (first | exact (Kd.C_below HR0_1.out HB.out) | (with_reducible refine Kd.C_alloc ?_ _) | (with_reducible refine Kd.C_drewN ?_ _) | (with_reducible refine Kd.C_drew ?_))); (case side4 => exact HC0_1.out); rintro e w48 ⟨rfl, hb⟩; replace BK986 := Aside0.mk (blk_below (uK BK986.out) hb); replace BK987 := Aside0.mk (blk_below (uK BK987.out) hb); replace HB := Aside0.mk (below_step uB hb); (try clear hb); (try clear hb2); (try clear hk); (try clear hi)) | (go_at_call 39; (with_reducible refine (quinariaref02_Notes.calls k _ _ l2 false _ ?side1 ?side2 A19.out).mono ?_); (case side1 => repeat (first | exact (Kd.C_below HR2.out HB.out) | (with_reducible refine Kd.C_alloc ?_ _) | (with_reducible refine Kd.C_drewN ?_ _) | (with_reducible refine Kd.C_drew ?_))); (case side2 => exact HC2.out); rintro e w49 ⟨rfl, hb⟩; replace BK986 := Aside0.mk (blk_below (uK BK986.out) hb); replace BK987 := Aside0.mk (blk_below (uK BK987.out) hb); replace HB := Aside0.mk (below_step uB hb); (try clear hb); (try clear hb2); (try clear hk); (try clear hi)))
         go_meet
         case rel => exact ⟨_, (true), u0, H', ⟨u1⟩, ⟨uK BK986.out⟩, ⟨uK BK987.out⟩, ⟨uB⟩⟩
       ·replace c18 := Bool.eq_false_iff.mpr c18
        subst c18
        have H1 : (quinarialaw02_ChannelProven.j0 k a1 l2 a3 true l0_0 l0_1 a4_0 a4_1 a4_2) = some r := by rw [if_neg (show ¬ (false = true) by decide)] at H; exact H
        clear H
        have H := H1
        clear H1
        have H' := Aside0.mk H
        clear H
        have hnb50 := NB986_987.out
        have hnc50 := NB987_986.out
        obtain ⟨hcz51_0, hcz51_1⟩ := cz2 BK986.out
        obtain ⟨hfz51_0, hfz51_1⟩ := fz2 BK986.out
        go_wp2_with (first | ((with_reducible refine gate_callee (f := 13) rfl ?_); refine goesL_ (some 18) rfl rfl Tryz.func13 (by kernel_rfl) rfl #[.agg #[.slice A0_0 l0_0.length c0_0, .slice A0_1 l0_1.length c0_1]] rfl uM ?_; (with_reducible refine (quinarialaw02_short.calls _ _ l0_0 _ _ l0_1 true _ ?side1 ?side2 ?side3 ?side4 A9.out).mono ?_); (case side1 => repeat (first | exact (Kd.C_below HR0_0.out HB.out) | (with_reducible refine Kd.C_alloc ?_ _) | (with_reducible refine Kd.C_drewN ?_ _) | (with_reducible refine Kd.C_drew ?_))); (case side2 => exact HC0_0.out); (case side3 => repeat (first | exact (Kd.C_below HR0_1.out HB.out) | (with_reducible refine Kd.C_alloc ?_ _) | (with_reducible refine Kd.C_drewN ?_ _) | (with_reducible refine Kd.C_drew ?_))); (case side4 => exact HC0_1.out); rintro e w52 ⟨rfl, hb⟩; refine ⟨_, rfl, ?_⟩; replace BK986 := Aside0.mk (blk_below (uK BK986.out) hb); replace BK987 := Aside0.mk (blk_below (uK BK987.out) hb); replace HB := Aside0.mk (below_step uB hb); (try clear hb); (try clear hb2); (try clear hk); (try clear hi); obtain ⟨hcz53_0, hcz53_1⟩ := cz2 BK986.out; obtain ⟨hfz53_0, hfz53_1⟩ := fz2 BK986.out) | (go_at_call 14; (with_reducible refine (quinariaref02_Right.calls k _ _ l0_0 _ _ l0_1 true _ ?side1 ?side2 ?side3 ?side4 A15.out).mono ?_); (case side1 => repeat (first | exact (Kd.C_below HR0_0.out HB.out) | (with_reducible refine Kd.C_alloc ?_ _) | (with_reducible refine Kd.C_drewN ?_ _) | (with_reducible refine Kd.C_drew ?_))); (case side2 => exact HC0_0.out); (case side3 => repeat (first | exact (Kd.C_below HR0_1.out HB.out) | (with_reducible refine Kd.C_alloc ?_ _) | (with_reducible refine Kd.C_drewN ?_ _) | (with_reducible refine Kd.C_drew ?_))); (case side4 => exact HC0_1.out); rintro e w54 ⟨rfl, hb⟩; replace BK986 := Aside0.mk (blk_below (uK BK986.out) hb); replace BK987 := Aside0.mk (blk_below (uK BK987.out) hb); replace HB := Aside0.mk (below_step uB hb); (try clear hb); (try clear hb2); (try clear hk); (try clear hi); obtain ⟨hcz55_0, hcz55_1⟩ := cz2 BK986.out; obtain ⟨hfz55_0, hfz55_1⟩ := fz2 BK986.out) | (go_at_call 15; (with_reducible refine (quinariaref02_Number.calls _ _ l0_0 _ _ l0_1 a1 false _ ?side1 ?side2 ?side3 ?side4 A17.out).mono ?_); (case side1 => repeat (first | exact (Kd.C_below HR0_0.out HB.out) | (with_reducible refine Kd.C_alloc ?_ _) | (with_reducible refine Kd.C_drewN ?_ _) | (with_reducible refine Kd.C_drew ?_))); (case side2 => exact HC0_0.out); (case side3 => repeat (first | exact (Kd.C_below HR0_1.out HB.out) | (with_reducible refine Kd.C_alloc ?_ _) | (with_reducible refine Kd.C_drewN ?_ _) | (with_reducible refine Kd.C_drew ?_))); (case side4 => exact HC0_1.out); rintro e w56 ⟨rfl, hb⟩; replace BK986 := Aside0.mk (blk_below (uK BK986.out) hb); replace BK987 := Aside0.mk (blk_below (uK BK987.out) hb); replace HB := Aside0.mk (below_step uB hb); (try clear hb); (try clear hb2); (try clear hk); (try clear hi)))
        go_meet
        case rel => exact ⟨_, (true), u0, H', ⟨u1⟩, ⟨uK BK986.out⟩, ⟨uK BK987.out⟩, ⟨uB⟩⟩
      ·replace c16 := Bool.eq_false_iff.mpr c16
       subst c16
       have H1 : (quinarialaw02_ChannelProven.j0 k a1 l2 a3 true l0_0 l0_1 a4_0 a4_1 a4_2) = some r := by rw [if_neg (show ¬ (false = true) by decide)] at H; exact H
       clear H
       have H := H1
       clear H1
       have H' := Aside0.mk H
       clear H
       have hnb57 := NB986_987.out
       have hnc57 := NB987_986.out
       obtain ⟨hcz58_0, hcz58_1⟩ := cz2 BK986.out
       obtain ⟨hfz58_0, hfz58_1⟩ := fz2 BK986.out
       go_wp2_with (first | ((with_reducible refine gate_callee (f := 13) rfl ?_); refine goesL_ (some 18) rfl rfl Tryz.func13 (by kernel_rfl) rfl #[.agg #[.slice A0_0 l0_0.length c0_0, .slice A0_1 l0_1.length c0_1]] rfl uM ?_; (with_reducible refine (quinarialaw02_short.calls _ _ l0_0 _ _ l0_1 true _ ?side1 ?side2 ?side3 ?side4 A9.out).mono ?_); (case side1 => repeat (first | exact (Kd.C_below HR0_0.out HB.out) | (with_reducible refine Kd.C_alloc ?_ _) | (with_reducible refine Kd.C_drewN ?_ _) | (with_reducible refine Kd.C_drew ?_))); (case side2 => exact HC0_0.out); (case side3 => repeat (first | exact (Kd.C_below HR0_1.out HB.out) | (with_reducible refine Kd.C_alloc ?_ _) | (with_reducible refine Kd.C_drewN ?_ _) | (with_reducible refine Kd.C_drew ?_))); (case side4 => exact HC0_1.out); rintro e w59 ⟨rfl, hb⟩; refine ⟨_, rfl, ?_⟩; replace BK986 := Aside0.mk (blk_below (uK BK986.out) hb); replace BK987 := Aside0.mk (blk_below (uK BK987.out) hb); replace HB := Aside0.mk (below_step uB hb); (try clear hb); (try clear hb2); (try clear hk); (try clear hi); obtain ⟨hcz60_0, hcz60_1⟩ := cz2 BK986.out; obtain ⟨hfz60_0, hfz60_1⟩ := fz2 BK986.out) | (go_at_call 14; (with_reducible refine (quinariaref02_Right.calls k _ _ l0_0 _ _ l0_1 false _ ?side1 ?side2 ?side3 ?side4 A15.out).mono ?_); (case side1 => repeat (first | exact (Kd.C_below HR0_0.out HB.out) | (with_reducible refine Kd.C_alloc ?_ _) | (with_reducible refine Kd.C_drewN ?_ _) | (with_reducible refine Kd.C_drew ?_))); (case side2 => exact HC0_0.out); (case side3 => repeat (first | exact (Kd.C_below HR0_1.out HB.out) | (with_reducible refine Kd.C_alloc ?_ _) | (with_reducible refine Kd.C_drewN ?_ _) | (with_reducible refine Kd.C_drew ?_))); (case side4 => exact HC0_1.out); rintro e w61 ⟨rfl, hb⟩; replace BK986 := Aside0.mk (blk_below (uK BK986.out) hb); replace BK987 := Aside0.mk (blk_below (uK BK987.out) hb); replace HB := Aside0.mk (below_step uB hb); (try clear hb); (try clear hb2); (try clear hk); (try clear hi)))
       go_meet
       case rel => exact ⟨_, (true), u0, H', ⟨u1⟩, ⟨uK BK986.out⟩, ⟨uK BK987.out⟩, ⟨uB⟩⟩
   ·replace c10 := Bool.eq_false_iff.mpr c10
    subst c10
    have H1 : (quinarialaw02_ChannelProven.j0 k a1 l2 a3 true l0_0 l0_1 a4_0 a4_1 a4_2) = some r := by rw [if_neg (show ¬ (false = true) by decide)] at H; exact H
    clear H
    have H := H1
    clear H1
    have H' := Aside0.mk H
    clear H
    have hnb62 := NB986_987.out
    have hnc62 := NB987_986.out
    obtain ⟨hcz63_0, hcz63_1⟩ := cz2 BK986.out
    obtain ⟨hfz63_0, hfz63_1⟩ := fz2 BK986.out
    go_wp2_with (first | ((with_reducible refine gate_callee (f := 13) rfl ?_); refine goesL_ (some 18) rfl rfl Tryz.func13 (by kernel_rfl) rfl #[.agg #[.slice A0_0 l0_0.length c0_0, .slice A0_1 l0_1.length c0_1]] rfl uM ?_; (with_reducible refine (quinarialaw02_short.calls _ _ l0_0 _ _ l0_1 false _ ?side1 ?side2 ?side3 ?side4 A9.out).mono ?_); (case side1 => repeat (first | exact (Kd.C_below HR0_0.out HB.out) | (with_reducible refine Kd.C_alloc ?_ _) | (with_reducible refine Kd.C_drewN ?_ _) | (with_reducible refine Kd.C_drew ?_))); (case side2 => exact HC0_0.out); (case side3 => repeat (first | exact (Kd.C_below HR0_1.out HB.out) | (with_reducible refine Kd.C_alloc ?_ _) | (with_reducible refine Kd.C_drewN ?_ _) | (with_reducible refine Kd.C_drew ?_))); (case side4 => exact HC0_1.out); rintro e w64 ⟨rfl, hb⟩; refine ⟨_, rfl, ?_⟩; replace BK986 := Aside0.mk (blk_below (uK BK986.out) hb); replace BK987 := Aside0.mk (blk_below (uK BK987.out) hb); replace HB := Aside0.mk (below_step uB hb); (try clear hb); (try clear hb2); (try clear hk); (try clear hi)))
    go_meet
    case rel => exact ⟨_, (true), u0, H', ⟨u1⟩, ⟨uK BK986.out⟩, ⟨uK BK987.out⟩, ⟨uB⟩⟩
 case rest =>
  as_aux_lemma =>
   clear HC6; try clear c1; try clear c2; try clear p2; try clear c3; try clear c4; try clear c5; try clear c6; try clear p9; try clear q9; try clear hx9; try clear c10; try clear c11; try clear c11b0; try clear c11b1; try clear c12; try clear c13; try clear c16; try clear c18; try clear c20; try clear c21; try clear c21b0; try clear c22; try clear c22b0; try clear c23; try clear c23b0; try clear c24; try clear c33; try clear c42; try clear c50; try clear c57; try clear c62; try clear hcz13_0; try clear hcz13_1; try clear hcz25_0; try clear hcz25_1; try clear hcz27_0; try clear hcz27_1; try clear hcz29_0; try clear hcz29_1; try clear hcz32_0; try clear hcz32_1; try clear hcz34_0; try clear hcz34_1; try clear hcz36_0; try clear hcz36_1; try clear hcz38_0; try clear hcz38_1; try clear hcz41_0; try clear hcz41_1; try clear hcz43_0; try clear hcz43_1; try clear hcz45_0; try clear hcz45_1; try clear hcz47_0; try clear hcz47_1; try clear hcz51_0; try clear hcz51_1; try clear hcz53_0; try clear hcz53_1; try clear hcz55_0; try clear hcz55_1; try clear hcz58_0; try clear hcz58_1; try clear hcz60_0; try clear hcz60_1; try clear hcz63_0; try clear hcz63_1; try clear hfz13_0; try clear hfz13_1; try clear hfz25_0; try clear hfz25_1; try clear hfz27_0; try clear hfz27_1; try clear hfz29_0; try clear hfz29_1; try clear hfz32_0; try clear hfz32_1; try clear hfz34_0; try clear hfz34_1; try clear hfz36_0; try clear hfz36_1; try clear hfz38_0; try clear hfz38_1; try clear hfz41_0; try clear hfz41_1; try clear hfz43_0; try clear hfz43_1; try clear hfz45_0; try clear hfz45_1; try clear hfz47_0; try clear hfz47_1; try clear hfz51_0; try clear hfz51_1; try clear hfz53_0; try clear hfz53_1; try clear hfz55_0; try clear hfz55_1; try clear hfz58_0; try clear hfz58_1; try clear hfz60_0; try clear hfz60_1; try clear hfz63_0; try clear hfz63_1; try clear hx992_0; try clear hx992_1; try clear hx992_2; try clear hx992_3; try clear hx992_4; try clear hx993_0; try clear hx993_1; try clear hx993_2; try clear hx993_3; try clear hx993_4; try clear p992; try clear p993; try clear q992; try clear q993
   obtain ⟨kq, x62_5, rfl, HA, HJ5, BK986, BK987, HB⟩ := hcut
   cases kq with
   | zero => exact absurd HA.out (by simp [quinarialaw02_ChannelProven.j0])
   | succ kj5 =>
    have H := HA.out
    clear HA
    simp only [quinarialaw02_ChannelProven.j0] at H
    by_cases c65 : x62_5 = true
    ·subst c65
     have H1 : ((quinarialaw02_known.f kj5).bind fun t994 => (some t994)) = some r := by rw [if_pos rfl] at H; exact H
     clear H
     have H := H1
     clear H1
     replace H := Option.bind_eq_some_iff.mp H
     obtain ⟨t994, A660, H⟩ := H
     replace H : (some t994) = some r := H
     have A66 := Aside0.mk A660
     clear A660
     obtain rfl := Option.some.inj H
     go_wp2_with (first | ((with_reducible refine gate_callee (f := 17) rfl ?_); refine goesL_ (some 63) rfl rfl Tryz.func17 (by kernel_rfl) rfl #[] rfl uM ?_; (with_reducible refine (quinarialaw02_known.calls kj5  t994 _ ?sideT A66.out).mono ?_); (case sideT => exact HT.out.below uB); rintro e w67 ⟨rfl, hb⟩; refine ⟨_, rfl, ?_⟩; replace BK986 := Aside0.mk (blk_below (uK BK986.out) hb); replace BK987 := Aside0.mk (blk_below (uK BK987.out) hb); replace HB := Aside0.mk (below_step uB hb); (try clear hb); (try clear hb2); (try clear hk); (try clear hi)))
     go_ret
     exact ⟨uE, uB⟩
    ·as_aux_lemma =>
      replace c65 := Bool.eq_false_iff.mpr c65
      subst c65
      have H1 : ((channel_Lime.f l0_0 l0_1 a1 l2).bind fun bt995 => ((quinariaref02_Agrees.f kj5 l0_0 l0_1 a1 l2 a3).bind fun t999 => (if bt995.2.2 = 0 then (if 0 ≤ a1 then (if a1 < (l0_1.length : Int) then (if bt995.1 < ((rd_T32 l0_1 a1).f3.f0) then (quinarialaw02_ChannelProven.j1 kj5 a1 l2 a3 true l0_0 l0_1 a4_0 a4_1 a4_2 bt995.1 bt995.2.1) else (if bt995.2.1 > ((rd_T32 l0_1 a1).f3.f1) then (quinarialaw02_ChannelProven.j1 kj5 a1 l2 a3 true l0_0 l0_1 a4_0 a4_1 a4_2 bt995.1 bt995.2.1) else (if bt995.1 > bt995.2.1 then (quinarialaw02_ChannelProven.j1 kj5 a1 l2 a3 true l0_0 l0_1 a4_0 a4_1 a4_2 bt995.1 bt995.2.1) else ((quinariaref02_Agrees.f kj5 l0_0 l0_1 a1 l2 bt995.1).bind fun t1003 => (if t1003 = true then ((quinariaref02_Agrees.f kj5 l0_0 l0_1 a1 l2 bt995.2.1).bind fun t1004 => (if t1004 = true then (if a3 ≥ bt995.1 then (quinarialaw02_ChannelProven.j1 kj5 a1 l2 a3 (t999 != (decide (a3 ≤ bt995.2.1))) l0_0 l0_1 a4_0 a4_1 a4_2 bt995.1 bt995.2.1) else (quinarialaw02_ChannelProven.j1 kj5 a1 l2 a3 (t999 != false) l0_0 l0_1 a4_0 a4_1 a4_2 bt995.1 bt995.2.1)) else (quinarialaw02_ChannelProven.j1 kj5 a1 l2 a3 true l0_0 l0_1 a4_0 a4_1 a4_2 bt995.1 bt995.2.1))) else (quinarialaw02_ChannelProven.j1 kj5 a1 l2 a3 true l0_0 l0_1 a4_0 a4_1 a4_2 bt995.1 bt995.2.1)))))) else (none)) else (none)) else (if bt995.2.2 = 7 then (if t999 = true then (some false) else ((quinarialaw02_known.f kj5).bind fun t1000 => (some t1000))) else (some false))))) = some r := by rw [if_neg (show ¬ (false = true) by decide)] at H; exact H
      clear H
      have H := H1
      clear H1
      replace H := Option.bind_eq_some_iff.mp H
      obtain ⟨⟨t995, t996, t997⟩, A680, H⟩ := H
      replace H : ((quinariaref02_Agrees.f kj5 l0_0 l0_1 a1 l2 a3).bind fun t999 => (if t997 = 0 then (if 0 ≤ a1 then (if a1 < (l0_1.length : Int) then (if t995 < ((rd_T32 l0_1 a1).f3.f0) then (quinarialaw02_ChannelProven.j1 kj5 a1 l2 a3 true l0_0 l0_1 a4_0 a4_1 a4_2 t995 t996) else (if t996 > ((rd_T32 l0_1 a1).f3.f1) then (quinarialaw02_ChannelProven.j1 kj5 a1 l2 a3 true l0_0 l0_1 a4_0 a4_1 a4_2 t995 t996) else (if t995 > t996 then (quinarialaw02_ChannelProven.j1 kj5 a1 l2 a3 true l0_0 l0_1 a4_0 a4_1 a4_2 t995 t996) else ((quinariaref02_Agrees.f kj5 l0_0 l0_1 a1 l2 t995).bind fun t1003 => (if t1003 = true then ((quinariaref02_Agrees.f kj5 l0_0 l0_1 a1 l2 t996).bind fun t1004 => (if t1004 = true then (if a3 ≥ t995 then (quinarialaw02_ChannelProven.j1 kj5 a1 l2 a3 (t999 != (decide (a3 ≤ t996))) l0_0 l0_1 a4_0 a4_1 a4_2 t995 t996) else (quinarialaw02_ChannelProven.j1 kj5 a1 l2 a3 (t999 != false) l0_0 l0_1 a4_0 a4_1 a4_2 t995 t996)) else (quinarialaw02_ChannelProven.j1 kj5 a1 l2 a3 true l0_0 l0_1 a4_0 a4_1 a4_2 t995 t996))) else (quinarialaw02_ChannelProven.j1 kj5 a1 l2 a3 true l0_0 l0_1 a4_0 a4_1 a4_2 t995 t996)))))) else (none)) else (none)) else (if t997 = 7 then (if t999 = true then (some false) else ((quinarialaw02_known.f kj5).bind fun t1000 => (some t1000))) else (some false)))) = some r := H
      have A68 := Aside0.mk A680
      clear A680
      replace H := Option.bind_eq_some_iff.mp H
      obtain ⟨t999, A690, H⟩ := H
      replace H : (if t997 = 0 then (if 0 ≤ a1 then (if a1 < (l0_1.length : Int) then (if t995 < ((rd_T32 l0_1 a1).f3.f0) then (quinarialaw02_ChannelProven.j1 kj5 a1 l2 a3 true l0_0 l0_1 a4_0 a4_1 a4_2 t995 t996) else (if t996 > ((rd_T32 l0_1 a1).f3.f1) then (quinarialaw02_ChannelProven.j1 kj5 a1 l2 a3 true l0_0 l0_1 a4_0 a4_1 a4_2 t995 t996) else (if t995 > t996 then (quinarialaw02_ChannelProven.j1 kj5 a1 l2 a3 true l0_0 l0_1 a4_0 a4_1 a4_2 t995 t996) else ((quinariaref02_Agrees.f kj5 l0_0 l0_1 a1 l2 t995).bind fun t1003 => (if t1003 = true then ((quinariaref02_Agrees.f kj5 l0_0 l0_1 a1 l2 t996).bind fun t1004 => (if t1004 = true then (if a3 ≥ t995 then (quinarialaw02_ChannelProven.j1 kj5 a1 l2 a3 (t999 != (decide (a3 ≤ t996))) l0_0 l0_1 a4_0 a4_1 a4_2 t995 t996) else (quinarialaw02_ChannelProven.j1 kj5 a1 l2 a3 (t999 != false) l0_0 l0_1 a4_0 a4_1 a4_2 t995 t996)) else (quinarialaw02_ChannelProven.j1 kj5 a1 l2 a3 true l0_0 l0_1 a4_0 a4_1 a4_2 t995 t996))) else (quinarialaw02_ChannelProven.j1 kj5 a1 l2 a3 true l0_0 l0_1 a4_0 a4_1 a4_2 t995 t996)))))) else (none)) else (none)) else (if t997 = 7 then (if t999 = true then (some false) else ((quinarialaw02_known.f kj5).bind fun t1000 => (some t1000))) else (some false))) = some r := H
      have A69 := Aside0.mk A690
      clear A690
      by_cases c70 : t997 = 0
      ·as_aux_lemma =>
        rw [if_pos c70] at H
        have c70b0 : (t997 == 0) = true := beq_iff_eq.mpr c70
        have c70b1 : (t997 != 0) = false := bne_eq_false_iff_eq.mpr c70
        clear c70
        have HC71 := Aside0.mk H
        clear H
        have hnb72 := NB986_987.out
        have hnc72 := NB987_986.out
        obtain ⟨hcz73_0, hcz73_1⟩ := cz2 BK986.out
        obtain ⟨hfz73_0, hfz73_1⟩ := fz2 BK986.out
        go_upto_region 7 with (first | ((with_reducible refine gate_callee (f := 38) rfl ?_); refine goesL_ (some 68) rfl rfl Tryz.func38 (by kernel_rfl) rfl #[.agg #[.slice A0_0 l0_0.length c0_0, .slice A0_1 l0_1.length c0_1], .int .i64 a1, .slice A2 l2.length c2] rfl uM ?_; (with_reducible refine (channel_Lime.calls _ _ l0_0 _ _ l0_1 a1 _ _ l2 t995 t996 t997 _ ?side1 ?side2 ?side3 ?side4 ?side5 ?side6 A68.out).mono ?_); (case side1 => repeat (first | exact (Kd.C_below HR0_0.out HB.out) | (with_reducible refine Kd.C_alloc ?_ _) | (with_reducible refine Kd.C_drewN ?_ _) | (with_reducible refine Kd.C_drew ?_))); (case side2 => exact HC0_0.out); (case side3 => repeat (first | exact (Kd.C_below HR0_1.out HB.out) | (with_reducible refine Kd.C_alloc ?_ _) | (with_reducible refine Kd.C_drewN ?_ _) | (with_reducible refine Kd.C_drew ?_))); (case side4 => exact HC0_1.out); (case side5 => repeat (first | exact (Kd.C_below HR2.out HB.out) | (with_reducible refine Kd.C_alloc ?_ _) | (with_reducible refine Kd.C_drewN ?_ _) | (with_reducible refine Kd.C_drew ?_))); (case side6 => exact HC2.out); rintro e w74 ⟨rfl, hb⟩; refine ⟨_, rfl, ?_⟩; replace BK986 := Aside0.mk (blk_below (uK BK986.out) hb); replace BK987 := Aside0.mk (blk_below (uK BK987.out) hb); replace HB := Aside0.mk (below_step uB hb); (try clear hb); (try clear hb2); (try clear hk); (try clear hi)) | ((with_reducible refine gate_dst (N := 11) rfl ?_); (try (refine gate_guard (by rfl) ?_; dsimp only)); refine bxe 11 #[.int .i64 0, .int .i64 0] 30 ?_; intro gb998 hg w75 hbox hb; have n0_ := Aside0.mk (blk_below (uK BK986.out) hb); have n1_ := Aside0.mk (blk_below (uK BK987.out) hb); have n2_ := Aside0.mk (below_step uB hb); have n3_ := Aside0.mk (hbox); have n4_ := gw hg; have n5_ := gw hg; have n6_ := nb BK986 hg; have n7_ := nc BK986 hg; have n8_ := nb BK987 hg; have n9_ := nc BK987 hg; clear BK986; clear BK987; clear HB; have BK986 := n0_; have BK987 := n1_; have HB := n2_; have BK998 := n3_; have GW998 := n4_; have GE998 := n5_; have NB986_998 := n6_; have NB998_986 := n7_; have NB987_998 := n8_; have NB998_987 := n9_; clear n0_ n1_ n2_ n3_ n4_ n5_ n6_ n7_ n8_ n9_; clear hb hbox hg; have hnb76 := NB998_986.out; have hnc76 := NB986_998.out; have hnb77 := NB998_987.out; have hnc77 := NB987_998.out; obtain ⟨hcz78_0, hcz78_1⟩ := cz2 BK998.out; obtain ⟨hfz78_0, hfz78_1⟩ := fz2 BK998.out; obtain ⟨hcz79_0, hcz79_1⟩ := cz2 BK986.out; obtain ⟨hfz79_0, hfz79_1⟩ := fz2 BK986.out) | ((with_reducible refine gate_callee (f := 41) rfl ?_); refine goesL_ (some 75) rfl rfl Tryz.func41 (by kernel_rfl) rfl #[.agg #[.slice A0_0 l0_0.length c0_0, .slice A0_1 l0_1.length c0_1], .int .i64 a1, .slice A2 l2.length c2, .int .i64 a3] rfl uM ?_; (with_reducible refine (quinariaref02_Agrees.calls kj5 _ _ l0_0 _ _ l0_1 a1 _ _ l2 a3 t999 _ ?side1 ?side2 ?side3 ?side4 ?side5 ?side6 A69.out).mono ?_); (case side1 => exact Kd.C_below HR0_0.out uB); (case side2 => exact HC0_0.out); (case side3 => exact Kd.C_below HR0_1.out uB); (case side4 => exact HC0_1.out); (case side5 => exact Kd.C_below HR2.out uB); (case side6 => exact HC2.out); rintro e w80 ⟨rfl, hb⟩; refine ⟨_, rfl, ?_⟩; replace BK986 := Aside0.mk (blk_below (g := gb986) (o := .cells #[.slice A0_0 l0_0.length c0_0, .slice A0_1 l0_1.length c0_1] 25 (0, 0)) (by refine uK ?_; refine blk_far ?_ NB986_998.out _; refine uK ?_; refine blk_far ?_ NB986_998.out _; refine uK ?_; exact BK986.out) hb); replace BK987 := Aside0.mk (blk_below (g := gb987) (o := .cells #[.int .i64 a4_0, .int .i64 a4_1, .int .i64 a4_2] 68 (0, 0)) (by refine uK ?_; refine blk_far ?_ NB987_998.out _; refine uK ?_; refine blk_far ?_ NB987_998.out _; refine uK ?_; exact BK987.out) hb); replace BK998 := Aside0.mk (blk_below (g := gb998) (o := .cells #[.int .i64 t995, .int .i64 t996] 30 (0, 0)) (by refine uK ?_; refine blk_put (cs := #[.int .i64 t995, .int .i64 0]) ?_ 1 _ rfl; refine uK ?_; refine blk_put (cs := #[.int .i64 0, .int .i64 0]) ?_ 0 _ rfl; refine uK ?_; exact BK998.out) hb); replace HB := Aside0.mk (below_step uB hb); (try clear hb); (try clear hb2); (try clear hk); (try clear hi)))
        (try simp only [Act.put, List.setIfInBounds_toArray, List.set_cons_zero, List.set_cons_succ])
        go_cut [147] (fun v147 wc => ∃ (kq : Nat) (x147_70 : Bool), v147 = .bool x147_70 ∧ Aside0 (quinarialaw02_ChannelProven.j1 kq a1 l2 a3 x147_70 l0_0 l0_1 a4_0 a4_1 a4_2 t995 t996 = some r) ∧ Aside0 (kq ≤ kj5) ∧ Aside0 (wc.heap[gb986]? = some (.cells #[(.slice A0_0 l0_0.length c0_0), (.slice A0_1 l0_1.length c0_1)] 25 (0, 0))) ∧ Aside0 (wc.heap[gb987]? = some (.cells #[.int .i64 a4_0, .int .i64 a4_1, .int .i64 a4_2] 68 (0, 0))) ∧ Aside0 (wc.heap[gb998]? = some (.cells #[.int .i64 t995, .int .i64 t996] 30 (0, 0))) ∧ Aside0 (Below w.heap.size w wc))
        case first =>
         as_aux_lemma =>
          have H := HC71.out
          clear HC71
          obtain ⟨c81, H⟩ := ifs H
          replace c81 := decide_eq_true c81
          (first | rw [c81b0] | (simp only [i64_w, i32_w]; rw [c81b0]) | skip)
          obtain ⟨c82, H⟩ := ifs H
          replace c82 := decide_eq_true c82
          by_cases c83 : t995 < ((rd_T32 l0_1 a1).f3.f0)
          ·as_aux_lemma =>
            rw [if_pos c83] at H
            replace c83 := decide_eq_true c83
            have H' := Aside0.mk H
            clear H
            try go_wp2
            replace BK986 := Aside0.mk (blk_drew BK986.out)
            replace BK987 := Aside0.mk (blk_drew BK987.out)
            replace BK998 := Aside0.mk (blk_drew BK998.out)
            replace HB := Aside0.mk (below_drew1 HB.out)
            have p1001 : 0 ≤ (a1 : Int) := of_decide_eq_true (by first | (with_reducible assumption) | assumption)
            have q1001 : a1 < (l0_1.length : Int) := of_decide_eq_true (by first | (with_reducible assumption) | assumption)
            obtain ⟨ad1001, e1001, hx1001_0, hx1001_1, hx1001_2, hx1001_3, hx1001_4⟩ := at_T32 HR0_1.out a1 p1001 q1001
            have hw1001_4 := hx1001_4
            have hw1001_3 := hx1001_3
            have hw1001_2 := hx1001_2
            have hw1001_1 := hx1001_1
            have hw1001_0 := hx1001_0
            cases e1001
            replace hx1001_0 := hcell HB.out hx1001_0
            replace hx1001_1 := hcell HB.out hx1001_1
            replace hx1001_2 := hcell HB.out hx1001_2
            replace hx1001_3 := hcell HB.out hx1001_3
            replace hx1001_4 := hcell HB.out hx1001_4
            replace p1001 := eq_true p1001
            replace q1001 := eq_true q1001
            refine start_ (n := 61) (S := fun w' => w'.cell? ⟨gb998, 0, none⟩ = some (.int .i64 t995) ∧ w'.cell? ⟨gb998, 1, none⟩ = some (.int .i64 t996) ∧ w'.cell? ⟨gb986, 0, none⟩ = some (.slice A0_0 l0_0.length c0_0) ∧ w'.cell? ⟨gb986, 1, none⟩ = some (.slice (some ad1001) l0_1.length c0_1) ∧ w'.cell? (ad1001.add ((a1).toNat * 5)) = some (.int .i64 ((rd_T32 l0_1 a1).f0)) ∧ w'.cell? ⟨(ad1001.add ((a1).toNat * 5)).block, (ad1001.add ((a1).toNat * 5)).off + 1, none⟩ = some (.int .i64 ((rd_T32 l0_1 a1).f1)) ∧ w'.cell? ⟨(ad1001.add ((a1).toNat * 5)).block, (ad1001.add ((a1).toNat * 5)).off + 2, none⟩ = some (.int .i64 ((rd_T32 l0_1 a1).f2)) ∧ w'.cell? ⟨(ad1001.add ((a1).toNat * 5)).block, (ad1001.add ((a1).toNat * 5)).off + 3, none⟩ = some (.int .i64 ((rd_T32 l0_1 a1).f3.f0)) ∧ w'.cell? ⟨(ad1001.add ((a1).toNat * 5)).block, (ad1001.add ((a1).toNat * 5)).off + 4, none⟩ = some (.int .i64 ((rd_T32 l0_1 a1).f3.f1))) (ds := []) (bl 61 0) (by kernel_rfl) rfl rfl ⟨(blk_cell BK998.out 0).trans rfl, (blk_cell BK998.out 1).trans rfl, (blk_cell BK986.out 0).trans rfl, (blk_cell BK986.out 1).trans rfl, (hcell HB.out hw1001_0), (hcell HB.out hw1001_1), (hcell HB.out hw1001_2), (hcell HB.out hw1001_3), (hcell HB.out hw1001_4)⟩ (fun hHeld => ?_); refine with_tabW quinarialaw02_ChannelProven.tab7 quinarialaw02_ChannelProven.bits7 (fun HT_ HW_ => ?_)
            generalize w80.drew = w84 at BK986 BK987 BK998 HB hx1001_0 hx1001_1 hx1001_2 hx1001_3 hx1001_4 hHeld ⊢
            refine pu 0 87 61 1 ?_
            refine pu 2 89 61 5 ?_
            refine pu 4 91 61 21 ?_
            refine tk9 1 88 61 23 hHeld ?_
            refine tk9 3 90 61 31 hHeld ?_
            refine pu 5 92 61 63 ?_
            refine pu 6 93 61 127 ?_
            refine pu 7 94 61 255 ?_
            refine tk9 8 95 61 511 hHeld ?_
            refine pu 9 96 61 1023 ?_
            refine pu 10 97 61 2047 ?_
            refine pure_ (i := 11) (N := some 98) (v := undef) (a' := ?_) (bl 61 4095) rfl rfl (any_of HT_.out (by kernel_rfl)) (fun _ _ _ h => h) (Or.inr ⟨by rfl, rfl⟩) ?_ ?_
            rotate_left
            ·simp only [Act.put, List.setIfInBounds_toArray, List.set_cons_zero, List.set_cons_succ, i64_w, i32_w]
             rfl
            refine pure_ (i := 12) (N := some 99) (v := undef) (a' := ?_) (bl 61 8191) rfl rfl (any_of HT_.out (by kernel_rfl)) (fun _ _ _ h => h) (Or.inr ⟨by rfl, rfl⟩) ?_ ?_
            rotate_left
            ·simp only [Act.put, List.setIfInBounds_toArray, List.set_cons_zero, List.set_cons_succ, i64_w, i32_w]
             rfl
            refine pure_ (i := 13) (N := some 100) (v := undef) (a' := ?_) (bl 61 16383) rfl rfl (any_of HT_.out (by kernel_rfl)) (fun _ _ _ h => h) (Or.inr ⟨by rfl, rfl⟩) ?_ ?_
            rotate_left
            ·simp only [Act.put, List.setIfInBounds_toArray, List.set_cons_zero, List.set_cons_succ, i64_w, i32_w]
             rfl
            refine pure_ (i := 14) (N := some 101) (v := undef) (a' := ?_) (bl 61 32767) rfl rfl (any_of HT_.out (by kernel_rfl)) (fun _ _ _ h => h) (Or.inr ⟨by rfl, rfl⟩) ?_ ?_
            rotate_left
            ·simp only [Act.put, List.setIfInBounds_toArray, List.set_cons_zero, List.set_cons_succ, i64_w, i32_w]
             rfl
            refine pure_ (i := 15) (N := some 102) (v := undef) (a' := ?_) (bl 61 65535) rfl rfl (any_of HT_.out (by kernel_rfl)) (fun _ _ _ h => h) (Or.inr ⟨by rfl, rfl⟩) ?_ ?_
            rotate_left
            ·simp only [Act.put, List.setIfInBounds_toArray, List.set_cons_zero, List.set_cons_succ, i64_w, i32_w]
             rfl
            refine pure_ (i := 16) (N := some 103) (v := undef) (a' := ?_) (bl 61 131071) rfl rfl (any_of HT_.out (by kernel_rfl)) (fun _ _ _ h => h) (Or.inr ⟨by rfl, rfl⟩) ?_ ?_
            rotate_left
            ·simp only [Act.put, List.setIfInBounds_toArray, List.set_cons_zero, List.set_cons_succ, i64_w, i32_w]
             rfl
            refine pure_ (i := 17) (N := some 104) (v := undef) (a' := ?_) (bl 61 262143) rfl rfl (any_of HT_.out (by kernel_rfl)) (fun _ _ _ h => h) (Or.inr ⟨by rfl, rfl⟩) ?_ ?_
            rotate_left
            ·simp only [Act.put, List.setIfInBounds_toArray, List.set_cons_zero, List.set_cons_succ, i64_w, i32_w]
             rfl
            refine pure_ (i := 18) (N := some 105) (v := undef) (a' := ?_) (bl 61 524287) rfl rfl (any_of HT_.out (by kernel_rfl)) (fun _ _ _ h => h) (Or.inr ⟨by rfl, rfl⟩) ?_ ?_
            rotate_left
            ·simp only [Act.put, List.setIfInBounds_toArray, List.set_cons_zero, List.set_cons_succ, i64_w, i32_w]
             rfl
            refine pure_ (i := 19) (N := some 106) (v := undef) (a' := ?_) (bl 61 1048575) rfl rfl (any_of HT_.out (by kernel_rfl)) (fun _ _ _ h => h) (Or.inr ⟨by rfl, rfl⟩) ?_ ?_
            rotate_left
            ·simp only [Act.put, List.setIfInBounds_toArray, List.set_cons_zero, List.set_cons_succ, i64_w, i32_w]
             rfl
            refine pure_ (i := 20) (N := some 107) (v := undef) (a' := ?_) (bl 61 2097151) rfl rfl (any_of HT_.out (by kernel_rfl)) (fun _ _ _ h => h) (Or.inr ⟨by rfl, rfl⟩) ?_ ?_
            rotate_left
            ·simp only [Act.put, List.setIfInBounds_toArray, List.set_cons_zero, List.set_cons_succ, i64_w, i32_w]
             rfl
            refine pu 21 108 61 4194303 ?_
            refine pu 22 109 61 8388607 ?_
            refine pure_ (i := 23) (N := some 110) (v := undef) (a' := ?_) (bl 61 16777215) rfl rfl (any_of HT_.out (by kernel_rfl)) (fun _ _ _ h => h) (Or.inr ⟨by rfl, rfl⟩) ?_ ?_
            rotate_left
            ·simp only [Act.put, List.setIfInBounds_toArray, List.set_cons_zero, List.set_cons_succ, i64_w, i32_w]
             rfl
            refine pure_ (i := 24) (N := some 111) (v := undef) (a' := ?_) (bl 61 33554431) rfl rfl (any_of HT_.out (by kernel_rfl)) (fun _ _ _ h => h) (Or.inr ⟨by rfl, rfl⟩) ?_ ?_
            rotate_left
            ·simp only [Act.put, List.setIfInBounds_toArray, List.set_cons_zero, List.set_cons_succ, i64_w, i32_w]
             rfl
            refine pure_ (i := 25) (N := some 112) (v := undef) (a' := ?_) (bl 61 67108863) rfl rfl (any_of HT_.out (by kernel_rfl)) (fun _ _ _ h => h) (Or.inr ⟨by rfl, rfl⟩) ?_ ?_
            rotate_left
            ·simp only [Act.put, List.setIfInBounds_toArray, List.set_cons_zero, List.set_cons_succ, i64_w, i32_w]
             rfl
            refine pure_ (i := 26) (N := some 113) (v := undef) (a' := ?_) (bl 61 134217727) rfl rfl (any_of HT_.out (by kernel_rfl)) (fun _ _ _ h => h) (Or.inr ⟨by rfl, rfl⟩) ?_ ?_
            rotate_left
            ·simp only [Act.put, List.setIfInBounds_toArray, List.set_cons_zero, List.set_cons_succ, i64_w, i32_w]
             rfl
            refine pure_ (i := 27) (N := some 114) (v := undef) (a' := ?_) (bl 61 268435455) rfl rfl (any_of HT_.out (by kernel_rfl)) (fun _ _ _ h => h) (Or.inr ⟨by rfl, rfl⟩) ?_ ?_
            rotate_left
            ·simp only [Act.put, List.setIfInBounds_toArray, List.set_cons_zero, List.set_cons_succ, i64_w, i32_w]
             rfl
            refine pu 28 115 61 536870911 ?_
            refine pu 29 116 61 1073741823 ?_
            refine pure_ (i := 30) (N := some 117) (v := undef) (a' := ?_) (bl 61 2147483647) rfl rfl (any_of HT_.out (by kernel_rfl)) (fun _ _ _ h => h) (Or.inr ⟨by rfl, rfl⟩) ?_ ?_
            rotate_left
            ·simp only [Act.put, List.setIfInBounds_toArray, List.set_cons_zero, List.set_cons_succ, i64_w, i32_w]
             rfl
            refine pure_ (i := 31) (N := some 118) (v := undef) (a' := ?_) (bl 61 4294967295) rfl rfl (any_of HT_.out (by kernel_rfl)) (fun _ _ _ h => h) (Or.inr ⟨by rfl, rfl⟩) ?_ ?_
            rotate_left
            ·simp only [Act.put, List.setIfInBounds_toArray, List.set_cons_zero, List.set_cons_succ, i64_w, i32_w]
             rfl
            refine pure_ (i := 32) (N := some 119) (v := undef) (a' := ?_) (bl 61 8589934591) rfl rfl (any_of HT_.out (by kernel_rfl)) (fun _ _ _ h => h) (Or.inr ⟨by rfl, rfl⟩) ?_ ?_
            rotate_left
            ·simp only [Act.put, List.setIfInBounds_toArray, List.set_cons_zero, List.set_cons_succ, i64_w, i32_w]
             rfl
            refine pure_ (i := 33) (N := some 120) (v := undef) (a' := ?_) (bl 61 17179869183) rfl rfl (any_of HT_.out (by kernel_rfl)) (fun _ _ _ h => h) (Or.inr ⟨by rfl, rfl⟩) ?_ ?_
            rotate_left
            ·simp only [Act.put, List.setIfInBounds_toArray, List.set_cons_zero, List.set_cons_succ, i64_w, i32_w]
             rfl
            refine pure_ (i := 34) (N := some 121) (v := undef) (a' := ?_) (bl 61 34359738367) rfl rfl (any_of HT_.out (by kernel_rfl)) (fun _ _ _ h => h) (Or.inr ⟨by rfl, rfl⟩) ?_ ?_
            rotate_left
            ·simp only [Act.put, List.setIfInBounds_toArray, List.set_cons_zero, List.set_cons_succ, i64_w, i32_w]
             rfl
            refine pure_ (i := 35) (N := some 122) (v := undef) (a' := ?_) (bl 61 68719476735) rfl rfl (any_of HT_.out (by kernel_rfl)) (fun _ _ _ h => h) (Or.inr ⟨by rfl, rfl⟩) ?_ ?_
            rotate_left
            ·simp only [Act.put, List.setIfInBounds_toArray, List.set_cons_zero, List.set_cons_succ, i64_w, i32_w]
             rfl
            refine pure_ (i := 36) (N := some 123) (v := undef) (a' := ?_) (bl 61 137438953471) rfl rfl (any_of HT_.out (by kernel_rfl)) (fun _ _ _ h => h) (Or.inr ⟨by rfl, rfl⟩) ?_ ?_
            rotate_left
            ·simp only [Act.put, List.setIfInBounds_toArray, List.set_cons_zero, List.set_cons_succ, i64_w, i32_w]
             rfl
            refine pu 37 124 61 274877906943 ?_
            refine pu 38 125 61 549755813887 ?_
            refine pure_ (i := 39) (N := some 126) (v := undef) (a' := ?_) (bl 61 1099511627775) rfl rfl (any_of HT_.out (by kernel_rfl)) (fun _ _ _ h => h) (Or.inr ⟨by rfl, rfl⟩) ?_ ?_
            rotate_left
            ·simp only [Act.put, List.setIfInBounds_toArray, List.set_cons_zero, List.set_cons_succ, i64_w, i32_w]
             rfl
            refine pure_ (i := 40) (N := some 127) (v := undef) (a' := ?_) (bl 61 2199023255551) rfl rfl (any_of HT_.out (by kernel_rfl)) (fun _ _ _ h => h) (Or.inr ⟨by rfl, rfl⟩) ?_ ?_
            rotate_left
            ·simp only [Act.put, List.setIfInBounds_toArray, List.set_cons_zero, List.set_cons_succ, i64_w, i32_w]
             rfl
            refine pure_ (i := 41) (N := some 128) (v := undef) (a' := ?_) (bl 61 4398046511103) rfl rfl (any_of HT_.out (by kernel_rfl)) (fun _ _ _ h => h) (Or.inr ⟨by rfl, rfl⟩) ?_ ?_
            rotate_left
            ·simp only [Act.put, List.setIfInBounds_toArray, List.set_cons_zero, List.set_cons_succ, i64_w, i32_w]
             rfl
            refine pure_ (i := 42) (N := some 129) (v := undef) (a' := ?_) (bl 61 8796093022207) rfl rfl (any_of HT_.out (by kernel_rfl)) (fun _ _ _ h => h) (Or.inr ⟨by rfl, rfl⟩) ?_ ?_
            rotate_left
            ·simp only [Act.put, List.setIfInBounds_toArray, List.set_cons_zero, List.set_cons_succ, i64_w, i32_w]
             rfl
            refine pure_ (i := 43) (N := some 130) (v := undef) (a' := ?_) (bl 61 17592186044415) rfl rfl (any_of HT_.out (by kernel_rfl)) (fun _ _ _ h => h) (Or.inr ⟨by rfl, rfl⟩) ?_ ?_
            rotate_left
            ·simp only [Act.put, List.setIfInBounds_toArray, List.set_cons_zero, List.set_cons_succ, i64_w, i32_w]
             rfl
            refine pure_ (i := 44) (N := some 131) (v := undef) (a' := ?_) (bl 61 35184372088831) rfl rfl (any_of HT_.out (by kernel_rfl)) (fun _ _ _ h => h) (Or.inr ⟨by rfl, rfl⟩) ?_ ?_
            rotate_left
            ·simp only [Act.put, List.setIfInBounds_toArray, List.set_cons_zero, List.set_cons_succ, i64_w, i32_w]
             rfl
            refine pure_ (i := 45) (N := some 132) (v := undef) (a' := ?_) (bl 61 70368744177663) rfl rfl (any_of HT_.out (by kernel_rfl)) (fun _ _ _ h => h) (Or.inr ⟨by rfl, rfl⟩) ?_ ?_
            rotate_left
            ·simp only [Act.put, List.setIfInBounds_toArray, List.set_cons_zero, List.set_cons_succ, i64_w, i32_w]
             rfl
            refine pu 46 133 61 140737488355327 ?_
            refine pu 47 134 61 281474976710655 ?_
            refine pure_ (i := 48) (N := some 135) (v := undef) (a' := ?_) (bl 61 562949953421311) rfl rfl (any_of HT_.out (by kernel_rfl)) (fun _ _ _ h => h) (Or.inr ⟨by rfl, rfl⟩) ?_ ?_
            rotate_left
            ·simp only [Act.put, List.setIfInBounds_toArray, List.set_cons_zero, List.set_cons_succ, i64_w, i32_w]
             rfl
            refine pure_ (i := 49) (N := some 136) (v := undef) (a' := ?_) (bl 61 1125899906842623) rfl rfl (any_of HT_.out (by kernel_rfl)) (fun _ _ _ h => h) (Or.inr ⟨by rfl, rfl⟩) ?_ ?_
            rotate_left
            ·simp only [Act.put, List.setIfInBounds_toArray, List.set_cons_zero, List.set_cons_succ, i64_w, i32_w]
             rfl
            refine pure_ (i := 50) (N := some 137) (v := undef) (a' := ?_) (bl 61 2251799813685247) rfl rfl (any_of HT_.out (by kernel_rfl)) (fun _ _ _ h => h) (Or.inr ⟨by rfl, rfl⟩) ?_ ?_
            rotate_left
            ·simp only [Act.put, List.setIfInBounds_toArray, List.set_cons_zero, List.set_cons_succ, i64_w, i32_w]
             rfl
            refine pure_ (i := 51) (N := some 138) (v := undef) (a' := ?_) (bl 61 4503599627370495) rfl rfl (any_of HT_.out (by kernel_rfl)) (fun _ _ _ h => h) (Or.inr ⟨by rfl, rfl⟩) ?_ ?_
            rotate_left
            ·simp only [Act.put, List.setIfInBounds_toArray, List.set_cons_zero, List.set_cons_succ, i64_w, i32_w]
             rfl
            refine pure_ (i := 52) (N := some 139) (v := undef) (a' := ?_) (bl 61 9007199254740991) rfl rfl (any_of HT_.out (by kernel_rfl)) (fun _ _ _ h => h) (Or.inr ⟨by rfl, rfl⟩) ?_ ?_
            rotate_left
            ·simp only [Act.put, List.setIfInBounds_toArray, List.set_cons_zero, List.set_cons_succ, i64_w, i32_w]
             rfl
            refine pure_ (i := 53) (N := some 140) (v := undef) (a' := ?_) (bl 61 18014398509481983) rfl rfl (any_of HT_.out (by kernel_rfl)) (fun _ _ _ h => h) (Or.inr ⟨by rfl, rfl⟩) ?_ ?_
            rotate_left
            ·simp only [Act.put, List.setIfInBounds_toArray, List.set_cons_zero, List.set_cons_succ, i64_w, i32_w]
             rfl
            refine pure_ (i := 54) (N := some 141) (v := undef) (a' := ?_) (bl 61 36028797018963967) rfl rfl (any_of HT_.out (by kernel_rfl)) (fun _ _ _ h => h) (Or.inr ⟨by rfl, rfl⟩) ?_ ?_
            rotate_left
            ·simp only [Act.put, List.setIfInBounds_toArray, List.set_cons_zero, List.set_cons_succ, i64_w, i32_w]
             rfl
            refine pure_ (i := 55) (N := some 142) (v := undef) (a' := ?_) (bl 61 72057594037927935) rfl rfl (any_of HT_.out (by kernel_rfl)) (fun _ _ _ h => h) (Or.inr ⟨by rfl, rfl⟩) ?_ ?_
            rotate_left
            ·simp only [Act.put, List.setIfInBounds_toArray, List.set_cons_zero, List.set_cons_succ, i64_w, i32_w]
             rfl
            refine pure_ (i := 56) (N := some 143) (v := undef) (a' := ?_) (bl 61 144115188075855871) rfl rfl (any_of HT_.out (by kernel_rfl)) (fun _ _ _ h => h) (Or.inr ⟨by rfl, rfl⟩) ?_ ?_
            rotate_left
            ·simp only [Act.put, List.setIfInBounds_toArray, List.set_cons_zero, List.set_cons_succ, i64_w, i32_w]
             rfl
            refine pure_ (i := 57) (N := some 144) (v := undef) (a' := ?_) (bl 61 288230376151711743) rfl rfl (any_of HT_.out (by kernel_rfl)) (fun _ _ _ h => h) (Or.inr ⟨by rfl, rfl⟩) ?_ ?_
            rotate_left
            ·simp only [Act.put, List.setIfInBounds_toArray, List.set_cons_zero, List.set_cons_succ, i64_w, i32_w]
             rfl
            refine pure_ (i := 58) (N := some 145) (v := undef) (a' := ?_) (bl 61 576460752303423487) rfl rfl (any_of HT_.out (by kernel_rfl)) (fun _ _ _ h => h) (Or.inr ⟨by rfl, rfl⟩) ?_ ?_
            rotate_left
            ·simp only [Act.put, List.setIfInBounds_toArray, List.set_cons_zero, List.set_cons_succ, i64_w, i32_w]
             rfl
            refine pure_ (i := 59) (N := some 146) (v := undef) (a' := ?_) (bl 61 1152921504606846975) rfl rfl (any_of HT_.out (by kernel_rfl)) (fun _ _ _ h => h) (Or.inr ⟨by rfl, rfl⟩) ?_ ?_
            rotate_left
            ·simp only [Act.put, List.setIfInBounds_toArray, List.set_cons_zero, List.set_cons_succ, i64_w, i32_w]
             rfl
            refine pu 60 147 61 2305843009213693951 ?_
            refine done_ (done_of HT_.out (by kernel_rfl)) ?_
            try go_wp2
            go_meet
            case rel => exact ⟨_, (true), u0, H', ⟨by have := HJ5.out; first | omega | exact Nat.le_refl _⟩, ⟨uK BK986.out⟩, ⟨uK BK987.out⟩, ⟨uK BK998.out⟩, ⟨uB⟩⟩
          ·as_aux_lemma =>
            rw [if_neg c83] at H
            replace c83 := decide_eq_false c83
            by_cases c85 : t996 > ((rd_T32 l0_1 a1).f3.f1)
            ·as_aux_lemma =>
              rw [if_pos c85] at H
              replace c85 := decide_eq_true c85
              have H' := Aside0.mk H
              clear H
              try go_wp2
              replace BK986 := Aside0.mk (blk_drew BK986.out)
              replace BK987 := Aside0.mk (blk_drew BK987.out)
              replace BK998 := Aside0.mk (blk_drew BK998.out)
              replace HB := Aside0.mk (below_drew1 HB.out)
              have p1001 : 0 ≤ (a1 : Int) := of_decide_eq_true (by first | (with_reducible assumption) | assumption)
              have q1001 : a1 < (l0_1.length : Int) := of_decide_eq_true (by first | (with_reducible assumption) | assumption)
              obtain ⟨ad1001, e1001, hx1001_0, hx1001_1, hx1001_2, hx1001_3, hx1001_4⟩ := at_T32 HR0_1.out a1 p1001 q1001
              have hw1001_4 := hx1001_4
              have hw1001_3 := hx1001_3
              have hw1001_2 := hx1001_2
              have hw1001_1 := hx1001_1
              have hw1001_0 := hx1001_0
              cases e1001
              replace hx1001_0 := hcell HB.out hx1001_0
              replace hx1001_1 := hcell HB.out hx1001_1
              replace hx1001_2 := hcell HB.out hx1001_2
              replace hx1001_3 := hcell HB.out hx1001_3
              replace hx1001_4 := hcell HB.out hx1001_4
              replace p1001 := eq_true p1001
              replace q1001 := eq_true q1001
              have p1002 : 0 ≤ (a1 : Int) := of_decide_eq_true (by first | (with_reducible assumption) | assumption)
              have q1002 : a1 < (l0_1.length : Int) := of_decide_eq_true (by first | (with_reducible assumption) | assumption)
              obtain ⟨ad1002, e1002, hx1002_0, hx1002_1, hx1002_2, hx1002_3, hx1002_4⟩ := at_T32 HR0_1.out a1 p1002 q1002
              have hw1002_4 := hx1002_4
              have hw1002_3 := hx1002_3
              have hw1002_2 := hx1002_2
              have hw1002_1 := hx1002_1
              have hw1002_0 := hx1002_0
              obtain rfl : ad1001 = ad1002 := (by injection e1002)
              replace hx1002_0 := hcell HB.out hx1002_0
              replace hx1002_1 := hcell HB.out hx1002_1
              replace hx1002_2 := hcell HB.out hx1002_2
              replace hx1002_3 := hcell HB.out hx1002_3
              replace hx1002_4 := hcell HB.out hx1002_4
              replace p1002 := eq_true p1002
              replace q1002 := eq_true q1002
              refine start_ (n := 61) (S := fun w' => w'.cell? ⟨gb998, 0, none⟩ = some (.int .i64 t995) ∧ w'.cell? ⟨gb998, 1, none⟩ = some (.int .i64 t996) ∧ w'.cell? ⟨gb986, 0, none⟩ = some (.slice A0_0 l0_0.length c0_0) ∧ w'.cell? ⟨gb986, 1, none⟩ = some (.slice (some ad1001) l0_1.length c0_1) ∧ w'.cell? (ad1001.add ((a1).toNat * 5)) = some (.int .i64 ((rd_T32 l0_1 a1).f0)) ∧ w'.cell? ⟨(ad1001.add ((a1).toNat * 5)).block, (ad1001.add ((a1).toNat * 5)).off + 1, none⟩ = some (.int .i64 ((rd_T32 l0_1 a1).f1)) ∧ w'.cell? ⟨(ad1001.add ((a1).toNat * 5)).block, (ad1001.add ((a1).toNat * 5)).off + 2, none⟩ = some (.int .i64 ((rd_T32 l0_1 a1).f2)) ∧ w'.cell? ⟨(ad1001.add ((a1).toNat * 5)).block, (ad1001.add ((a1).toNat * 5)).off + 3, none⟩ = some (.int .i64 ((rd_T32 l0_1 a1).f3.f0)) ∧ w'.cell? ⟨(ad1001.add ((a1).toNat * 5)).block, (ad1001.add ((a1).toNat * 5)).off + 4, none⟩ = some (.int .i64 ((rd_T32 l0_1 a1).f3.f1)) ∧ w'.cell? (ad1001.add ((a1).toNat * 5)) = some (.int .i64 ((rd_T32 l0_1 a1).f0)) ∧ w'.cell? ⟨(ad1001.add ((a1).toNat * 5)).block, (ad1001.add ((a1).toNat * 5)).off + 1, none⟩ = some (.int .i64 ((rd_T32 l0_1 a1).f1)) ∧ w'.cell? ⟨(ad1001.add ((a1).toNat * 5)).block, (ad1001.add ((a1).toNat * 5)).off + 2, none⟩ = some (.int .i64 ((rd_T32 l0_1 a1).f2)) ∧ w'.cell? ⟨(ad1001.add ((a1).toNat * 5)).block, (ad1001.add ((a1).toNat * 5)).off + 3, none⟩ = some (.int .i64 ((rd_T32 l0_1 a1).f3.f0)) ∧ w'.cell? ⟨(ad1001.add ((a1).toNat * 5)).block, (ad1001.add ((a1).toNat * 5)).off + 4, none⟩ = some (.int .i64 ((rd_T32 l0_1 a1).f3.f1))) (ds := []) (bl 61 0) (by kernel_rfl) rfl rfl ⟨(blk_cell BK998.out 0).trans rfl, (blk_cell BK998.out 1).trans rfl, (blk_cell BK986.out 0).trans rfl, (blk_cell BK986.out 1).trans rfl, (hcell HB.out hw1001_0), (hcell HB.out hw1001_1), (hcell HB.out hw1001_2), (hcell HB.out hw1001_3), (hcell HB.out hw1001_4), (hcell HB.out hw1002_0), (hcell HB.out hw1002_1), (hcell HB.out hw1002_2), (hcell HB.out hw1002_3), (hcell HB.out hw1002_4)⟩ (fun hHeld => ?_); refine with_tabW quinarialaw02_ChannelProven.tab7 quinarialaw02_ChannelProven.bits7 (fun HT_ HW_ => ?_)
              generalize w80.drew = w86 at BK986 BK987 BK998 HB hx1001_0 hx1001_1 hx1001_2 hx1001_3 hx1001_4 hx1002_0 hx1002_1 hx1002_2 hx1002_3 hx1002_4 hHeld ⊢
              refine pu 0 87 61 1 ?_
              refine pu 2 89 61 5 ?_
              refine pu 4 91 61 21 ?_
              refine tk14 1 88 61 23 hHeld ?_
              refine tk14 3 90 61 31 hHeld ?_
              refine pu 5 92 61 63 ?_
              refine pu 6 93 61 127 ?_
              refine pu 7 94 61 255 ?_
              refine tk14 8 95 61 511 hHeld ?_
              refine pu 9 96 61 1023 ?_
              refine pu 10 97 61 2047 ?_
              refine pu 11 98 61 4095 ?_
              refine pu 13 100 61 12287 ?_
              refine pu 15 102 61 45055 ?_
              refine tk14 12 99 61 49151 hHeld ?_
              refine tk14 14 101 61 65535 hHeld ?_
              refine pu 16 103 61 131071 ?_
              refine pu 17 104 61 262143 ?_
              refine pu 18 105 61 524287 ?_
              refine tk14 19 106 61 1048575 hHeld ?_
              refine pu 20 107 61 2097151 ?_
              refine pu 21 108 61 4194303 ?_
              refine pu 22 109 61 8388607 ?_
              refine pure_ (i := 23) (N := some 110) (v := undef) (a' := ?_) (bl 61 16777215) rfl rfl (any_of HT_.out (by kernel_rfl)) (fun _ _ _ h => h) (Or.inr ⟨by rfl, rfl⟩) ?_ ?_
              rotate_left
              ·simp only [Act.put, List.setIfInBounds_toArray, List.set_cons_zero, List.set_cons_succ, i64_w, i32_w]
               rfl
              refine pure_ (i := 24) (N := some 111) (v := undef) (a' := ?_) (bl 61 33554431) rfl rfl (any_of HT_.out (by kernel_rfl)) (fun _ _ _ h => h) (Or.inr ⟨by rfl, rfl⟩) ?_ ?_
              rotate_left
              ·simp only [Act.put, List.setIfInBounds_toArray, List.set_cons_zero, List.set_cons_succ, i64_w, i32_w]
               rfl
              refine pure_ (i := 25) (N := some 112) (v := undef) (a' := ?_) (bl 61 67108863) rfl rfl (any_of HT_.out (by kernel_rfl)) (fun _ _ _ h => h) (Or.inr ⟨by rfl, rfl⟩) ?_ ?_
              rotate_left
              ·simp only [Act.put, List.setIfInBounds_toArray, List.set_cons_zero, List.set_cons_succ, i64_w, i32_w]
               rfl
              refine pure_ (i := 26) (N := some 113) (v := undef) (a' := ?_) (bl 61 134217727) rfl rfl (any_of HT_.out (by kernel_rfl)) (fun _ _ _ h => h) (Or.inr ⟨by rfl, rfl⟩) ?_ ?_
              rotate_left
              ·simp only [Act.put, List.setIfInBounds_toArray, List.set_cons_zero, List.set_cons_succ, i64_w, i32_w]
               rfl
              refine pure_ (i := 27) (N := some 114) (v := undef) (a' := ?_) (bl 61 268435455) rfl rfl (any_of HT_.out (by kernel_rfl)) (fun _ _ _ h => h) (Or.inr ⟨by rfl, rfl⟩) ?_ ?_
              rotate_left
              ·simp only [Act.put, List.setIfInBounds_toArray, List.set_cons_zero, List.set_cons_succ, i64_w, i32_w]
               rfl
              refine pu 28 115 61 536870911 ?_
              refine pu 29 116 61 1073741823 ?_
              refine pure_ (i := 30) (N := some 117) (v := undef) (a' := ?_) (bl 61 2147483647) rfl rfl (any_of HT_.out (by kernel_rfl)) (fun _ _ _ h => h) (Or.inr ⟨by rfl, rfl⟩) ?_ ?_
              rotate_left
              ·simp only [Act.put, List.setIfInBounds_toArray, List.set_cons_zero, List.set_cons_succ, i64_w, i32_w]
               rfl
              refine pure_ (i := 31) (N := some 118) (v := undef) (a' := ?_) (bl 61 4294967295) rfl rfl (any_of HT_.out (by kernel_rfl)) (fun _ _ _ h => h) (Or.inr ⟨by rfl, rfl⟩) ?_ ?_
              rotate_left
              ·simp only [Act.put, List.setIfInBounds_toArray, List.set_cons_zero, List.set_cons_succ, i64_w, i32_w]
               rfl
              refine pure_ (i := 32) (N := some 119) (v := undef) (a' := ?_) (bl 61 8589934591) rfl rfl (any_of HT_.out (by kernel_rfl)) (fun _ _ _ h => h) (Or.inr ⟨by rfl, rfl⟩) ?_ ?_
              rotate_left
              ·simp only [Act.put, List.setIfInBounds_toArray, List.set_cons_zero, List.set_cons_succ, i64_w, i32_w]
               rfl
              refine pure_ (i := 33) (N := some 120) (v := undef) (a' := ?_) (bl 61 17179869183) rfl rfl (any_of HT_.out (by kernel_rfl)) (fun _ _ _ h => h) (Or.inr ⟨by rfl, rfl⟩) ?_ ?_
              rotate_left
              ·simp only [Act.put, List.setIfInBounds_toArray, List.set_cons_zero, List.set_cons_succ, i64_w, i32_w]
               rfl
              refine pure_ (i := 34) (N := some 121) (v := undef) (a' := ?_) (bl 61 34359738367) rfl rfl (any_of HT_.out (by kernel_rfl)) (fun _ _ _ h => h) (Or.inr ⟨by rfl, rfl⟩) ?_ ?_
              rotate_left
              ·simp only [Act.put, List.setIfInBounds_toArray, List.set_cons_zero, List.set_cons_succ, i64_w, i32_w]
               rfl
              refine pure_ (i := 35) (N := some 122) (v := undef) (a' := ?_) (bl 61 68719476735) rfl rfl (any_of HT_.out (by kernel_rfl)) (fun _ _ _ h => h) (Or.inr ⟨by rfl, rfl⟩) ?_ ?_
              rotate_left
              ·simp only [Act.put, List.setIfInBounds_toArray, List.set_cons_zero, List.set_cons_succ, i64_w, i32_w]
               rfl
              refine pure_ (i := 36) (N := some 123) (v := undef) (a' := ?_) (bl 61 137438953471) rfl rfl (any_of HT_.out (by kernel_rfl)) (fun _ _ _ h => h) (Or.inr ⟨by rfl, rfl⟩) ?_ ?_
              rotate_left
              ·simp only [Act.put, List.setIfInBounds_toArray, List.set_cons_zero, List.set_cons_succ, i64_w, i32_w]
               rfl
              refine pu 37 124 61 274877906943 ?_
              refine pu 38 125 61 549755813887 ?_
              refine pure_ (i := 39) (N := some 126) (v := undef) (a' := ?_) (bl 61 1099511627775) rfl rfl (any_of HT_.out (by kernel_rfl)) (fun _ _ _ h => h) (Or.inr ⟨by rfl, rfl⟩) ?_ ?_
              rotate_left
              ·simp only [Act.put, List.setIfInBounds_toArray, List.set_cons_zero, List.set_cons_succ, i64_w, i32_w]
               rfl
              refine pure_ (i := 40) (N := some 127) (v := undef) (a' := ?_) (bl 61 2199023255551) rfl rfl (any_of HT_.out (by kernel_rfl)) (fun _ _ _ h => h) (Or.inr ⟨by rfl, rfl⟩) ?_ ?_
              rotate_left
              ·simp only [Act.put, List.setIfInBounds_toArray, List.set_cons_zero, List.set_cons_succ, i64_w, i32_w]
               rfl
              refine pure_ (i := 41) (N := some 128) (v := undef) (a' := ?_) (bl 61 4398046511103) rfl rfl (any_of HT_.out (by kernel_rfl)) (fun _ _ _ h => h) (Or.inr ⟨by rfl, rfl⟩) ?_ ?_
              rotate_left
              ·simp only [Act.put, List.setIfInBounds_toArray, List.set_cons_zero, List.set_cons_succ, i64_w, i32_w]
               rfl
              refine pure_ (i := 42) (N := some 129) (v := undef) (a' := ?_) (bl 61 8796093022207) rfl rfl (any_of HT_.out (by kernel_rfl)) (fun _ _ _ h => h) (Or.inr ⟨by rfl, rfl⟩) ?_ ?_
              rotate_left
              ·simp only [Act.put, List.setIfInBounds_toArray, List.set_cons_zero, List.set_cons_succ, i64_w, i32_w]
               rfl
              refine pure_ (i := 43) (N := some 130) (v := undef) (a' := ?_) (bl 61 17592186044415) rfl rfl (any_of HT_.out (by kernel_rfl)) (fun _ _ _ h => h) (Or.inr ⟨by rfl, rfl⟩) ?_ ?_
              rotate_left
              ·simp only [Act.put, List.setIfInBounds_toArray, List.set_cons_zero, List.set_cons_succ, i64_w, i32_w]
               rfl
              refine pure_ (i := 44) (N := some 131) (v := undef) (a' := ?_) (bl 61 35184372088831) rfl rfl (any_of HT_.out (by kernel_rfl)) (fun _ _ _ h => h) (Or.inr ⟨by rfl, rfl⟩) ?_ ?_
              rotate_left
              ·simp only [Act.put, List.setIfInBounds_toArray, List.set_cons_zero, List.set_cons_succ, i64_w, i32_w]
               rfl
              refine pure_ (i := 45) (N := some 132) (v := undef) (a' := ?_) (bl 61 70368744177663) rfl rfl (any_of HT_.out (by kernel_rfl)) (fun _ _ _ h => h) (Or.inr ⟨by rfl, rfl⟩) ?_ ?_
              rotate_left
              ·simp only [Act.put, List.setIfInBounds_toArray, List.set_cons_zero, List.set_cons_succ, i64_w, i32_w]
               rfl
              refine pu 46 133 61 140737488355327 ?_
              refine pu 47 134 61 281474976710655 ?_
              refine pure_ (i := 48) (N := some 135) (v := undef) (a' := ?_) (bl 61 562949953421311) rfl rfl (any_of HT_.out (by kernel_rfl)) (fun _ _ _ h => h) (Or.inr ⟨by rfl, rfl⟩) ?_ ?_
              rotate_left
              ·simp only [Act.put, List.setIfInBounds_toArray, List.set_cons_zero, List.set_cons_succ, i64_w, i32_w]
               rfl
              refine pure_ (i := 49) (N := some 136) (v := undef) (a' := ?_) (bl 61 1125899906842623) rfl rfl (any_of HT_.out (by kernel_rfl)) (fun _ _ _ h => h) (Or.inr ⟨by rfl, rfl⟩) ?_ ?_
              rotate_left
              ·simp only [Act.put, List.setIfInBounds_toArray, List.set_cons_zero, List.set_cons_succ, i64_w, i32_w]
               rfl
              refine pure_ (i := 50) (N := some 137) (v := undef) (a' := ?_) (bl 61 2251799813685247) rfl rfl (any_of HT_.out (by kernel_rfl)) (fun _ _ _ h => h) (Or.inr ⟨by rfl, rfl⟩) ?_ ?_
              rotate_left
              ·simp only [Act.put, List.setIfInBounds_toArray, List.set_cons_zero, List.set_cons_succ, i64_w, i32_w]
               rfl
              refine pure_ (i := 51) (N := some 138) (v := undef) (a' := ?_) (bl 61 4503599627370495) rfl rfl (any_of HT_.out (by kernel_rfl)) (fun _ _ _ h => h) (Or.inr ⟨by rfl, rfl⟩) ?_ ?_
              rotate_left
              ·simp only [Act.put, List.setIfInBounds_toArray, List.set_cons_zero, List.set_cons_succ, i64_w, i32_w]
               rfl
              refine pure_ (i := 52) (N := some 139) (v := undef) (a' := ?_) (bl 61 9007199254740991) rfl rfl (any_of HT_.out (by kernel_rfl)) (fun _ _ _ h => h) (Or.inr ⟨by rfl, rfl⟩) ?_ ?_
              rotate_left
              ·simp only [Act.put, List.setIfInBounds_toArray, List.set_cons_zero, List.set_cons_succ, i64_w, i32_w]
               rfl
              refine pure_ (i := 53) (N := some 140) (v := undef) (a' := ?_) (bl 61 18014398509481983) rfl rfl (any_of HT_.out (by kernel_rfl)) (fun _ _ _ h => h) (Or.inr ⟨by rfl, rfl⟩) ?_ ?_
              rotate_left
              ·simp only [Act.put, List.setIfInBounds_toArray, List.set_cons_zero, List.set_cons_succ, i64_w, i32_w]
               rfl
              refine pure_ (i := 54) (N := some 141) (v := undef) (a' := ?_) (bl 61 36028797018963967) rfl rfl (any_of HT_.out (by kernel_rfl)) (fun _ _ _ h => h) (Or.inr ⟨by rfl, rfl⟩) ?_ ?_
              rotate_left
              ·simp only [Act.put, List.setIfInBounds_toArray, List.set_cons_zero, List.set_cons_succ, i64_w, i32_w]
               rfl
              refine pure_ (i := 55) (N := some 142) (v := undef) (a' := ?_) (bl 61 72057594037927935) rfl rfl (any_of HT_.out (by kernel_rfl)) (fun _ _ _ h => h) (Or.inr ⟨by rfl, rfl⟩) ?_ ?_
              rotate_left
              ·simp only [Act.put, List.setIfInBounds_toArray, List.set_cons_zero, List.set_cons_succ, i64_w, i32_w]
               rfl
              refine pure_ (i := 56) (N := some 143) (v := undef) (a' := ?_) (bl 61 144115188075855871) rfl rfl (any_of HT_.out (by kernel_rfl)) (fun _ _ _ h => h) (Or.inr ⟨by rfl, rfl⟩) ?_ ?_
              rotate_left
              ·simp only [Act.put, List.setIfInBounds_toArray, List.set_cons_zero, List.set_cons_succ, i64_w, i32_w]
               rfl
              refine pure_ (i := 57) (N := some 144) (v := undef) (a' := ?_) (bl 61 288230376151711743) rfl rfl (any_of HT_.out (by kernel_rfl)) (fun _ _ _ h => h) (Or.inr ⟨by rfl, rfl⟩) ?_ ?_
              rotate_left
              ·simp only [Act.put, List.setIfInBounds_toArray, List.set_cons_zero, List.set_cons_succ, i64_w, i32_w]
               rfl
              refine pure_ (i := 58) (N := some 145) (v := undef) (a' := ?_) (bl 61 576460752303423487) rfl rfl (any_of HT_.out (by kernel_rfl)) (fun _ _ _ h => h) (Or.inr ⟨by rfl, rfl⟩) ?_ ?_
              rotate_left
              ·simp only [Act.put, List.setIfInBounds_toArray, List.set_cons_zero, List.set_cons_succ, i64_w, i32_w]
               rfl
              refine pure_ (i := 59) (N := some 146) (v := undef) (a' := ?_) (bl 61 1152921504606846975) rfl rfl (any_of HT_.out (by kernel_rfl)) (fun _ _ _ h => h) (Or.inr ⟨by rfl, rfl⟩) ?_ ?_
              rotate_left
              ·simp only [Act.put, List.setIfInBounds_toArray, List.set_cons_zero, List.set_cons_succ, i64_w, i32_w]
               rfl
              refine pu 60 147 61 2305843009213693951 ?_
              refine done_ (done_of HT_.out (by kernel_rfl)) ?_
              try go_wp2
              go_meet
              case rel => exact ⟨_, (true), u0, H', ⟨by have := HJ5.out; first | omega | exact Nat.le_refl _⟩, ⟨uK BK986.out⟩, ⟨uK BK987.out⟩, ⟨uK BK998.out⟩, ⟨uB⟩⟩
            ·as_aux_lemma =>
              rw [if_neg c85] at H
              replace c85 := decide_eq_false c85
              by_cases c87 : t995 > t996
              ·as_aux_lemma =>
                rw [if_pos c87] at H
                replace c87 := decide_eq_true c87
                have H' := Aside0.mk H
                clear H
                try go_wp2
                replace BK986 := Aside0.mk (blk_drew BK986.out)
                replace BK987 := Aside0.mk (blk_drew BK987.out)
                replace BK998 := Aside0.mk (blk_drew BK998.out)
                replace HB := Aside0.mk (below_drew1 HB.out)
                have p1001 : 0 ≤ (a1 : Int) := of_decide_eq_true (by first | (with_reducible assumption) | assumption)
                have q1001 : a1 < (l0_1.length : Int) := of_decide_eq_true (by first | (with_reducible assumption) | assumption)
                obtain ⟨ad1001, e1001, hx1001_0, hx1001_1, hx1001_2, hx1001_3, hx1001_4⟩ := at_T32 HR0_1.out a1 p1001 q1001
                have hw1001_4 := hx1001_4
                have hw1001_3 := hx1001_3
                have hw1001_2 := hx1001_2
                have hw1001_1 := hx1001_1
                have hw1001_0 := hx1001_0
                cases e1001
                replace hx1001_0 := hcell HB.out hx1001_0
                replace hx1001_1 := hcell HB.out hx1001_1
                replace hx1001_2 := hcell HB.out hx1001_2
                replace hx1001_3 := hcell HB.out hx1001_3
                replace hx1001_4 := hcell HB.out hx1001_4
                replace p1001 := eq_true p1001
                replace q1001 := eq_true q1001
                have p1002 : 0 ≤ (a1 : Int) := of_decide_eq_true (by first | (with_reducible assumption) | assumption)
                have q1002 : a1 < (l0_1.length : Int) := of_decide_eq_true (by first | (with_reducible assumption) | assumption)
                obtain ⟨ad1002, e1002, hx1002_0, hx1002_1, hx1002_2, hx1002_3, hx1002_4⟩ := at_T32 HR0_1.out a1 p1002 q1002
                have hw1002_4 := hx1002_4
                have hw1002_3 := hx1002_3
                have hw1002_2 := hx1002_2
                have hw1002_1 := hx1002_1
                have hw1002_0 := hx1002_0
                obtain rfl : ad1001 = ad1002 := (by injection e1002)
                replace hx1002_0 := hcell HB.out hx1002_0
                replace hx1002_1 := hcell HB.out hx1002_1
                replace hx1002_2 := hcell HB.out hx1002_2
                replace hx1002_3 := hcell HB.out hx1002_3
                replace hx1002_4 := hcell HB.out hx1002_4
                replace p1002 := eq_true p1002
                replace q1002 := eq_true q1002
                refine start_ (n := 61) (S := fun w' => w'.cell? ⟨gb998, 0, none⟩ = some (.int .i64 t995) ∧ w'.cell? ⟨gb998, 1, none⟩ = some (.int .i64 t996) ∧ w'.cell? ⟨gb986, 0, none⟩ = some (.slice A0_0 l0_0.length c0_0) ∧ w'.cell? ⟨gb986, 1, none⟩ = some (.slice (some ad1001) l0_1.length c0_1) ∧ w'.cell? (ad1001.add ((a1).toNat * 5)) = some (.int .i64 ((rd_T32 l0_1 a1).f0)) ∧ w'.cell? ⟨(ad1001.add ((a1).toNat * 5)).block, (ad1001.add ((a1).toNat * 5)).off + 1, none⟩ = some (.int .i64 ((rd_T32 l0_1 a1).f1)) ∧ w'.cell? ⟨(ad1001.add ((a1).toNat * 5)).block, (ad1001.add ((a1).toNat * 5)).off + 2, none⟩ = some (.int .i64 ((rd_T32 l0_1 a1).f2)) ∧ w'.cell? ⟨(ad1001.add ((a1).toNat * 5)).block, (ad1001.add ((a1).toNat * 5)).off + 3, none⟩ = some (.int .i64 ((rd_T32 l0_1 a1).f3.f0)) ∧ w'.cell? ⟨(ad1001.add ((a1).toNat * 5)).block, (ad1001.add ((a1).toNat * 5)).off + 4, none⟩ = some (.int .i64 ((rd_T32 l0_1 a1).f3.f1)) ∧ w'.cell? (ad1001.add ((a1).toNat * 5)) = some (.int .i64 ((rd_T32 l0_1 a1).f0)) ∧ w'.cell? ⟨(ad1001.add ((a1).toNat * 5)).block, (ad1001.add ((a1).toNat * 5)).off + 1, none⟩ = some (.int .i64 ((rd_T32 l0_1 a1).f1)) ∧ w'.cell? ⟨(ad1001.add ((a1).toNat * 5)).block, (ad1001.add ((a1).toNat * 5)).off + 2, none⟩ = some (.int .i64 ((rd_T32 l0_1 a1).f2)) ∧ w'.cell? ⟨(ad1001.add ((a1).toNat * 5)).block, (ad1001.add ((a1).toNat * 5)).off + 3, none⟩ = some (.int .i64 ((rd_T32 l0_1 a1).f3.f0)) ∧ w'.cell? ⟨(ad1001.add ((a1).toNat * 5)).block, (ad1001.add ((a1).toNat * 5)).off + 4, none⟩ = some (.int .i64 ((rd_T32 l0_1 a1).f3.f1))) (ds := []) (bl 61 0) (by kernel_rfl) rfl rfl ⟨(blk_cell BK998.out 0).trans rfl, (blk_cell BK998.out 1).trans rfl, (blk_cell BK986.out 0).trans rfl, (blk_cell BK986.out 1).trans rfl, (hcell HB.out hw1001_0), (hcell HB.out hw1001_1), (hcell HB.out hw1001_2), (hcell HB.out hw1001_3), (hcell HB.out hw1001_4), (hcell HB.out hw1002_0), (hcell HB.out hw1002_1), (hcell HB.out hw1002_2), (hcell HB.out hw1002_3), (hcell HB.out hw1002_4)⟩ (fun hHeld => ?_); refine with_tabW quinarialaw02_ChannelProven.tab7 quinarialaw02_ChannelProven.bits7 (fun HT_ HW_ => ?_)
                generalize w80.drew = w88 at BK986 BK987 BK998 HB hx1001_0 hx1001_1 hx1001_2 hx1001_3 hx1001_4 hx1002_0 hx1002_1 hx1002_2 hx1002_3 hx1002_4 hHeld ⊢
                refine pu 0 87 61 1 ?_
                refine pu 2 89 61 5 ?_
                refine pu 4 91 61 21 ?_
                refine tk14 1 88 61 23 hHeld ?_
                refine tk14 3 90 61 31 hHeld ?_
                refine pu 5 92 61 63 ?_
                refine pu 6 93 61 127 ?_
                refine pu 7 94 61 255 ?_
                refine tk14 8 95 61 511 hHeld ?_
                refine pu 9 96 61 1023 ?_
                refine pu 10 97 61 2047 ?_
                refine pu 11 98 61 4095 ?_
                refine pu 13 100 61 12287 ?_
                refine pu 15 102 61 45055 ?_
                refine tk14 12 99 61 49151 hHeld ?_
                refine tk14 14 101 61 65535 hHeld ?_
                refine pu 16 103 61 131071 ?_
                refine pu 17 104 61 262143 ?_
                refine pu 18 105 61 524287 ?_
                refine tk14 19 106 61 1048575 hHeld ?_
                refine pu 20 107 61 2097151 ?_
                refine pu 21 108 61 4194303 ?_
                refine pu 22 109 61 8388607 ?_
                refine pu 23 110 61 16777215 ?_
                refine pu 25 112 61 50331647 ?_
                refine tk14 24 111 61 67108863 hHeld ?_
                refine tk14 26 113 61 134217727 hHeld ?_
                refine pu 27 114 61 268435455 ?_
                refine pu 28 115 61 536870911 ?_
                refine pu 29 116 61 1073741823 ?_
                refine pure_ (i := 30) (N := some 117) (v := undef) (a' := ?_) (bl 61 2147483647) rfl rfl (any_of HT_.out (by kernel_rfl)) (fun _ _ _ h => h) (Or.inr ⟨by rfl, rfl⟩) ?_ ?_
                rotate_left
                ·simp only [Act.put, List.setIfInBounds_toArray, List.set_cons_zero, List.set_cons_succ, i64_w, i32_w]
                 rfl
                refine pure_ (i := 31) (N := some 118) (v := undef) (a' := ?_) (bl 61 4294967295) rfl rfl (any_of HT_.out (by kernel_rfl)) (fun _ _ _ h => h) (Or.inr ⟨by rfl, rfl⟩) ?_ ?_
                rotate_left
                ·simp only [Act.put, List.setIfInBounds_toArray, List.set_cons_zero, List.set_cons_succ, i64_w, i32_w]
                 rfl
                refine pure_ (i := 32) (N := some 119) (v := undef) (a' := ?_) (bl 61 8589934591) rfl rfl (any_of HT_.out (by kernel_rfl)) (fun _ _ _ h => h) (Or.inr ⟨by rfl, rfl⟩) ?_ ?_
                rotate_left
                ·simp only [Act.put, List.setIfInBounds_toArray, List.set_cons_zero, List.set_cons_succ, i64_w, i32_w]
                 rfl
                refine pure_ (i := 33) (N := some 120) (v := undef) (a' := ?_) (bl 61 17179869183) rfl rfl (any_of HT_.out (by kernel_rfl)) (fun _ _ _ h => h) (Or.inr ⟨by rfl, rfl⟩) ?_ ?_
                rotate_left
                ·simp only [Act.put, List.setIfInBounds_toArray, List.set_cons_zero, List.set_cons_succ, i64_w, i32_w]
                 rfl
                refine pure_ (i := 34) (N := some 121) (v := undef) (a' := ?_) (bl 61 34359738367) rfl rfl (any_of HT_.out (by kernel_rfl)) (fun _ _ _ h => h) (Or.inr ⟨by rfl, rfl⟩) ?_ ?_
                rotate_left
                ·simp only [Act.put, List.setIfInBounds_toArray, List.set_cons_zero, List.set_cons_succ, i64_w, i32_w]
                 rfl
                refine pure_ (i := 35) (N := some 122) (v := undef) (a' := ?_) (bl 61 68719476735) rfl rfl (any_of HT_.out (by kernel_rfl)) (fun _ _ _ h => h) (Or.inr ⟨by rfl, rfl⟩) ?_ ?_
                rotate_left
                ·simp only [Act.put, List.setIfInBounds_toArray, List.set_cons_zero, List.set_cons_succ, i64_w, i32_w]
                 rfl
                refine pure_ (i := 36) (N := some 123) (v := undef) (a' := ?_) (bl 61 137438953471) rfl rfl (any_of HT_.out (by kernel_rfl)) (fun _ _ _ h => h) (Or.inr ⟨by rfl, rfl⟩) ?_ ?_
                rotate_left
                ·simp only [Act.put, List.setIfInBounds_toArray, List.set_cons_zero, List.set_cons_succ, i64_w, i32_w]
                 rfl
                refine pu 37 124 61 274877906943 ?_
                refine pu 38 125 61 549755813887 ?_
                refine pure_ (i := 39) (N := some 126) (v := undef) (a' := ?_) (bl 61 1099511627775) rfl rfl (any_of HT_.out (by kernel_rfl)) (fun _ _ _ h => h) (Or.inr ⟨by rfl, rfl⟩) ?_ ?_
                rotate_left
                ·simp only [Act.put, List.setIfInBounds_toArray, List.set_cons_zero, List.set_cons_succ, i64_w, i32_w]
                 rfl
                refine pure_ (i := 40) (N := some 127) (v := undef) (a' := ?_) (bl 61 2199023255551) rfl rfl (any_of HT_.out (by kernel_rfl)) (fun _ _ _ h => h) (Or.inr ⟨by rfl, rfl⟩) ?_ ?_
                rotate_left
                ·simp only [Act.put, List.setIfInBounds_toArray, List.set_cons_zero, List.set_cons_succ, i64_w, i32_w]
                 rfl
                refine pure_ (i := 41) (N := some 128) (v := undef) (a' := ?_) (bl 61 4398046511103) rfl rfl (any_of HT_.out (by kernel_rfl)) (fun _ _ _ h => h) (Or.inr ⟨by rfl, rfl⟩) ?_ ?_
                rotate_left
                ·simp only [Act.put, List.setIfInBounds_toArray, List.set_cons_zero, List.set_cons_succ, i64_w, i32_w]
                 rfl
                refine pure_ (i := 42) (N := some 129) (v := undef) (a' := ?_) (bl 61 8796093022207) rfl rfl (any_of HT_.out (by kernel_rfl)) (fun _ _ _ h => h) (Or.inr ⟨by rfl, rfl⟩) ?_ ?_
                rotate_left
                ·simp only [Act.put, List.setIfInBounds_toArray, List.set_cons_zero, List.set_cons_succ, i64_w, i32_w]
                 rfl
                refine pure_ (i := 43) (N := some 130) (v := undef) (a' := ?_) (bl 61 17592186044415) rfl rfl (any_of HT_.out (by kernel_rfl)) (fun _ _ _ h => h) (Or.inr ⟨by rfl, rfl⟩) ?_ ?_
                rotate_left
                ·simp only [Act.put, List.setIfInBounds_toArray, List.set_cons_zero, List.set_cons_succ, i64_w, i32_w]
                 rfl
                refine pure_ (i := 44) (N := some 131) (v := undef) (a' := ?_) (bl 61 35184372088831) rfl rfl (any_of HT_.out (by kernel_rfl)) (fun _ _ _ h => h) (Or.inr ⟨by rfl, rfl⟩) ?_ ?_
                rotate_left
                ·simp only [Act.put, List.setIfInBounds_toArray, List.set_cons_zero, List.set_cons_succ, i64_w, i32_w]
                 rfl
                refine pure_ (i := 45) (N := some 132) (v := undef) (a' := ?_) (bl 61 70368744177663) rfl rfl (any_of HT_.out (by kernel_rfl)) (fun _ _ _ h => h) (Or.inr ⟨by rfl, rfl⟩) ?_ ?_
                rotate_left
                ·simp only [Act.put, List.setIfInBounds_toArray, List.set_cons_zero, List.set_cons_succ, i64_w, i32_w]
                 rfl
                refine pu 46 133 61 140737488355327 ?_
                refine pu 47 134 61 281474976710655 ?_
                refine pure_ (i := 48) (N := some 135) (v := undef) (a' := ?_) (bl 61 562949953421311) rfl rfl (any_of HT_.out (by kernel_rfl)) (fun _ _ _ h => h) (Or.inr ⟨by rfl, rfl⟩) ?_ ?_
                rotate_left
                ·simp only [Act.put, List.setIfInBounds_toArray, List.set_cons_zero, List.set_cons_succ, i64_w, i32_w]
                 rfl
                refine pure_ (i := 49) (N := some 136) (v := undef) (a' := ?_) (bl 61 1125899906842623) rfl rfl (any_of HT_.out (by kernel_rfl)) (fun _ _ _ h => h) (Or.inr ⟨by rfl, rfl⟩) ?_ ?_
                rotate_left
                ·simp only [Act.put, List.setIfInBounds_toArray, List.set_cons_zero, List.set_cons_succ, i64_w, i32_w]
                 rfl
                refine pure_ (i := 50) (N := some 137) (v := undef) (a' := ?_) (bl 61 2251799813685247) rfl rfl (any_of HT_.out (by kernel_rfl)) (fun _ _ _ h => h) (Or.inr ⟨by rfl, rfl⟩) ?_ ?_
                rotate_left
                ·simp only [Act.put, List.setIfInBounds_toArray, List.set_cons_zero, List.set_cons_succ, i64_w, i32_w]
                 rfl
                refine pure_ (i := 51) (N := some 138) (v := undef) (a' := ?_) (bl 61 4503599627370495) rfl rfl (any_of HT_.out (by kernel_rfl)) (fun _ _ _ h => h) (Or.inr ⟨by rfl, rfl⟩) ?_ ?_
                rotate_left
                ·simp only [Act.put, List.setIfInBounds_toArray, List.set_cons_zero, List.set_cons_succ, i64_w, i32_w]
                 rfl
                refine pure_ (i := 52) (N := some 139) (v := undef) (a' := ?_) (bl 61 9007199254740991) rfl rfl (any_of HT_.out (by kernel_rfl)) (fun _ _ _ h => h) (Or.inr ⟨by rfl, rfl⟩) ?_ ?_
                rotate_left
                ·simp only [Act.put, List.setIfInBounds_toArray, List.set_cons_zero, List.set_cons_succ, i64_w, i32_w]
                 rfl
                refine pure_ (i := 53) (N := some 140) (v := undef) (a' := ?_) (bl 61 18014398509481983) rfl rfl (any_of HT_.out (by kernel_rfl)) (fun _ _ _ h => h) (Or.inr ⟨by rfl, rfl⟩) ?_ ?_
                rotate_left
                ·simp only [Act.put, List.setIfInBounds_toArray, List.set_cons_zero, List.set_cons_succ, i64_w, i32_w]
                 rfl
                refine pure_ (i := 54) (N := some 141) (v := undef) (a' := ?_) (bl 61 36028797018963967) rfl rfl (any_of HT_.out (by kernel_rfl)) (fun _ _ _ h => h) (Or.inr ⟨by rfl, rfl⟩) ?_ ?_
                rotate_left
                ·simp only [Act.put, List.setIfInBounds_toArray, List.set_cons_zero, List.set_cons_succ, i64_w, i32_w]
                 rfl
                refine pure_ (i := 55) (N := some 142) (v := undef) (a' := ?_) (bl 61 72057594037927935) rfl rfl (any_of HT_.out (by kernel_rfl)) (fun _ _ _ h => h) (Or.inr ⟨by rfl, rfl⟩) ?_ ?_
                rotate_left
                ·simp only [Act.put, List.setIfInBounds_toArray, List.set_cons_zero, List.set_cons_succ, i64_w, i32_w]
                 rfl
                refine pure_ (i := 56) (N := some 143) (v := undef) (a' := ?_) (bl 61 144115188075855871) rfl rfl (any_of HT_.out (by kernel_rfl)) (fun _ _ _ h => h) (Or.inr ⟨by rfl, rfl⟩) ?_ ?_
                rotate_left
                ·simp only [Act.put, List.setIfInBounds_toArray, List.set_cons_zero, List.set_cons_succ, i64_w, i32_w]
                 rfl
                refine pure_ (i := 57) (N := some 144) (v := undef) (a' := ?_) (bl 61 288230376151711743) rfl rfl (any_of HT_.out (by kernel_rfl)) (fun _ _ _ h => h) (Or.inr ⟨by rfl, rfl⟩) ?_ ?_
                rotate_left
                ·simp only [Act.put, List.setIfInBounds_toArray, List.set_cons_zero, List.set_cons_succ, i64_w, i32_w]
                 rfl
                refine pure_ (i := 58) (N := some 145) (v := undef) (a' := ?_) (bl 61 576460752303423487) rfl rfl (any_of HT_.out (by kernel_rfl)) (fun _ _ _ h => h) (Or.inr ⟨by rfl, rfl⟩) ?_ ?_
                rotate_left
                ·simp only [Act.put, List.setIfInBounds_toArray, List.set_cons_zero, List.set_cons_succ, i64_w, i32_w]
                 rfl
                refine pure_ (i := 59) (N := some 146) (v := undef) (a' := ?_) (bl 61 1152921504606846975) rfl rfl (any_of HT_.out (by kernel_rfl)) (fun _ _ _ h => h) (Or.inr ⟨by rfl, rfl⟩) ?_ ?_
                rotate_left
                ·simp only [Act.put, List.setIfInBounds_toArray, List.set_cons_zero, List.set_cons_succ, i64_w, i32_w]
                 rfl
                refine pu 60 147 61 2305843009213693951 ?_
                refine done_ (done_of HT_.out (by kernel_rfl)) ?_
                try go_wp2
                go_meet
                case rel => exact ⟨_, (true), u0, H', ⟨by have := HJ5.out; first | omega | exact Nat.le_refl _⟩, ⟨uK BK986.out⟩, ⟨uK BK987.out⟩, ⟨uK BK998.out⟩, ⟨uB⟩⟩
              ·as_aux_lemma =>
                rw [if_neg c87] at H
                replace c87 := decide_eq_false c87
                replace H := Option.bind_eq_some_iff.mp H
                obtain ⟨t1003, A890, H⟩ := H
                replace H : (if t1003 = true then ((quinariaref02_Agrees.f kj5 l0_0 l0_1 a1 l2 t996).bind fun t1004 => (if t1004 = true then (if a3 ≥ t995 then (quinarialaw02_ChannelProven.j1 kj5 a1 l2 a3 (t999 != (decide (a3 ≤ t996))) l0_0 l0_1 a4_0 a4_1 a4_2 t995 t996) else (quinarialaw02_ChannelProven.j1 kj5 a1 l2 a3 (t999 != false) l0_0 l0_1 a4_0 a4_1 a4_2 t995 t996)) else (quinarialaw02_ChannelProven.j1 kj5 a1 l2 a3 true l0_0 l0_1 a4_0 a4_1 a4_2 t995 t996))) else (quinarialaw02_ChannelProven.j1 kj5 a1 l2 a3 true l0_0 l0_1 a4_0 a4_1 a4_2 t995 t996)) = some r := H
                have A89 := Aside0.mk A890
                clear A890
                by_cases c90 : t1003 = true
                ·as_aux_lemma =>
                  subst c90
                  have H1 : ((quinariaref02_Agrees.f kj5 l0_0 l0_1 a1 l2 t996).bind fun t1004 => (if t1004 = true then (if a3 ≥ t995 then (quinarialaw02_ChannelProven.j1 kj5 a1 l2 a3 (t999 != (decide (a3 ≤ t996))) l0_0 l0_1 a4_0 a4_1 a4_2 t995 t996) else (quinarialaw02_ChannelProven.j1 kj5 a1 l2 a3 (t999 != false) l0_0 l0_1 a4_0 a4_1 a4_2 t995 t996)) else (quinarialaw02_ChannelProven.j1 kj5 a1 l2 a3 true l0_0 l0_1 a4_0 a4_1 a4_2 t995 t996))) = some r := by rw [if_pos rfl] at H; exact H
                  clear H
                  have H := H1
                  clear H1
                  replace H := Option.bind_eq_some_iff.mp H
                  obtain ⟨t1004, A910, H⟩ := H
                  replace H : (if t1004 = true then (if a3 ≥ t995 then (quinarialaw02_ChannelProven.j1 kj5 a1 l2 a3 (t999 != (decide (a3 ≤ t996))) l0_0 l0_1 a4_0 a4_1 a4_2 t995 t996) else (quinarialaw02_ChannelProven.j1 kj5 a1 l2 a3 (t999 != false) l0_0 l0_1 a4_0 a4_1 a4_2 t995 t996)) else (quinarialaw02_ChannelProven.j1 kj5 a1 l2 a3 true l0_0 l0_1 a4_0 a4_1 a4_2 t995 t996)) = some r := H
                  have A91 := Aside0.mk A910
                  clear A910
                  by_cases c92 : t1004 = true
                  ·as_aux_lemma =>
                    subst c92
                    have H1 : (if a3 ≥ t995 then (quinarialaw02_ChannelProven.j1 kj5 a1 l2 a3 (t999 != (decide (a3 ≤ t996))) l0_0 l0_1 a4_0 a4_1 a4_2 t995 t996) else (quinarialaw02_ChannelProven.j1 kj5 a1 l2 a3 (t999 != false) l0_0 l0_1 a4_0 a4_1 a4_2 t995 t996)) = some r := by rw [if_pos rfl] at H; exact H
                    clear H
                    have H := H1
                    clear H1
                    by_cases c93 : a3 ≥ t995
                    ·as_aux_lemma =>
                      rw [if_pos c93] at H
                      replace c93 := decide_eq_true c93
                      have H' := Aside0.mk H
                      clear H
                      try go_wp2
                      replace BK986 := Aside0.mk (blk_drew BK986.out)
                      replace BK987 := Aside0.mk (blk_drew BK987.out)
                      replace BK998 := Aside0.mk (blk_drew BK998.out)
                      replace HB := Aside0.mk (below_drew1 HB.out)
                      have p1001 : 0 ≤ (a1 : Int) := of_decide_eq_true (by first | (with_reducible assumption) | assumption)
                      have q1001 : a1 < (l0_1.length : Int) := of_decide_eq_true (by first | (with_reducible assumption) | assumption)
                      obtain ⟨ad1001, e1001, hx1001_0, hx1001_1, hx1001_2, hx1001_3, hx1001_4⟩ := at_T32 HR0_1.out a1 p1001 q1001
                      have hw1001_4 := hx1001_4
                      have hw1001_3 := hx1001_3
                      have hw1001_2 := hx1001_2
                      have hw1001_1 := hx1001_1
                      have hw1001_0 := hx1001_0
                      cases e1001
                      replace hx1001_0 := hcell HB.out hx1001_0
                      replace hx1001_1 := hcell HB.out hx1001_1
                      replace hx1001_2 := hcell HB.out hx1001_2
                      replace hx1001_3 := hcell HB.out hx1001_3
                      replace hx1001_4 := hcell HB.out hx1001_4
                      replace p1001 := eq_true p1001
                      replace q1001 := eq_true q1001
                      have p1002 : 0 ≤ (a1 : Int) := of_decide_eq_true (by first | (with_reducible assumption) | assumption)
                      have q1002 : a1 < (l0_1.length : Int) := of_decide_eq_true (by first | (with_reducible assumption) | assumption)
                      obtain ⟨ad1002, e1002, hx1002_0, hx1002_1, hx1002_2, hx1002_3, hx1002_4⟩ := at_T32 HR0_1.out a1 p1002 q1002
                      have hw1002_4 := hx1002_4
                      have hw1002_3 := hx1002_3
                      have hw1002_2 := hx1002_2
                      have hw1002_1 := hx1002_1
                      have hw1002_0 := hx1002_0
                      obtain rfl : ad1001 = ad1002 := (by injection e1002)
                      replace hx1002_0 := hcell HB.out hx1002_0
                      replace hx1002_1 := hcell HB.out hx1002_1
                      replace hx1002_2 := hcell HB.out hx1002_2
                      replace hx1002_3 := hcell HB.out hx1002_3
                      replace hx1002_4 := hcell HB.out hx1002_4
                      replace p1002 := eq_true p1002
                      replace q1002 := eq_true q1002
                      refine start_ (n := 61) (S := fun w' => w'.cell? ⟨gb998, 0, none⟩ = some (.int .i64 t995) ∧ w'.cell? ⟨gb998, 1, none⟩ = some (.int .i64 t996) ∧ w'.cell? ⟨gb986, 0, none⟩ = some (.slice A0_0 l0_0.length c0_0) ∧ w'.cell? ⟨gb986, 1, none⟩ = some (.slice (some ad1001) l0_1.length c0_1) ∧ w'.cell? (ad1001.add ((a1).toNat * 5)) = some (.int .i64 ((rd_T32 l0_1 a1).f0)) ∧ w'.cell? ⟨(ad1001.add ((a1).toNat * 5)).block, (ad1001.add ((a1).toNat * 5)).off + 1, none⟩ = some (.int .i64 ((rd_T32 l0_1 a1).f1)) ∧ w'.cell? ⟨(ad1001.add ((a1).toNat * 5)).block, (ad1001.add ((a1).toNat * 5)).off + 2, none⟩ = some (.int .i64 ((rd_T32 l0_1 a1).f2)) ∧ w'.cell? ⟨(ad1001.add ((a1).toNat * 5)).block, (ad1001.add ((a1).toNat * 5)).off + 3, none⟩ = some (.int .i64 ((rd_T32 l0_1 a1).f3.f0)) ∧ w'.cell? ⟨(ad1001.add ((a1).toNat * 5)).block, (ad1001.add ((a1).toNat * 5)).off + 4, none⟩ = some (.int .i64 ((rd_T32 l0_1 a1).f3.f1)) ∧ w'.cell? (ad1001.add ((a1).toNat * 5)) = some (.int .i64 ((rd_T32 l0_1 a1).f0)) ∧ w'.cell? ⟨(ad1001.add ((a1).toNat * 5)).block, (ad1001.add ((a1).toNat * 5)).off + 1, none⟩ = some (.int .i64 ((rd_T32 l0_1 a1).f1)) ∧ w'.cell? ⟨(ad1001.add ((a1).toNat * 5)).block, (ad1001.add ((a1).toNat * 5)).off + 2, none⟩ = some (.int .i64 ((rd_T32 l0_1 a1).f2)) ∧ w'.cell? ⟨(ad1001.add ((a1).toNat * 5)).block, (ad1001.add ((a1).toNat * 5)).off + 3, none⟩ = some (.int .i64 ((rd_T32 l0_1 a1).f3.f0)) ∧ w'.cell? ⟨(ad1001.add ((a1).toNat * 5)).block, (ad1001.add ((a1).toNat * 5)).off + 4, none⟩ = some (.int .i64 ((rd_T32 l0_1 a1).f3.f1))) (ds := []) (bl 61 0) (by kernel_rfl) rfl rfl ⟨(blk_cell BK998.out 0).trans rfl, (blk_cell BK998.out 1).trans rfl, (blk_cell BK986.out 0).trans rfl, (blk_cell BK986.out 1).trans rfl, (hcell HB.out hw1001_0), (hcell HB.out hw1001_1), (hcell HB.out hw1001_2), (hcell HB.out hw1001_3), (hcell HB.out hw1001_4), (hcell HB.out hw1002_0), (hcell HB.out hw1002_1), (hcell HB.out hw1002_2), (hcell HB.out hw1002_3), (hcell HB.out hw1002_4)⟩ (fun hHeld => ?_); refine with_tabW quinarialaw02_ChannelProven.tab7 quinarialaw02_ChannelProven.bits7 (fun HT_ HW_ => ?_)
                      generalize w80.drew = w94 at BK986 BK987 BK998 HB hx1001_0 hx1001_1 hx1001_2 hx1001_3 hx1001_4 hx1002_0 hx1002_1 hx1002_2 hx1002_3 hx1002_4 hHeld ⊢
                      refine pu 0 87 61 1 ?_
                      refine pu 2 89 61 5 ?_
                      refine pu 4 91 61 21 ?_
                      refine tk14 1 88 61 23 hHeld ?_
                      refine tk14 3 90 61 31 hHeld ?_
                      refine pu 5 92 61 63 ?_
                      refine pu 6 93 61 127 ?_
                      refine pu 7 94 61 255 ?_
                      refine tk14 8 95 61 511 hHeld ?_
                      refine pu 9 96 61 1023 ?_
                      refine pu 10 97 61 2047 ?_
                      refine pu 11 98 61 4095 ?_
                      refine pu 13 100 61 12287 ?_
                      refine pu 15 102 61 45055 ?_
                      refine tk14 12 99 61 49151 hHeld ?_
                      refine tk14 14 101 61 65535 hHeld ?_
                      refine pu 16 103 61 131071 ?_
                      refine pu 17 104 61 262143 ?_
                      refine pu 18 105 61 524287 ?_
                      refine tk14 19 106 61 1048575 hHeld ?_
                      refine pu 20 107 61 2097151 ?_
                      refine pu 21 108 61 4194303 ?_
                      refine pu 22 109 61 8388607 ?_
                      refine pu 23 110 61 16777215 ?_
                      refine pu 25 112 61 50331647 ?_
                      refine tk14 24 111 61 67108863 hHeld ?_
                      refine tk14 26 113 61 134217727 hHeld ?_
                      refine pu 27 114 61 268435455 ?_
                      refine pu 28 115 61 536870911 ?_
                      refine pu 29 116 61 1073741823 ?_
                      refine pu 31 118 61 3221225471 ?_
                      refine pu 32 119 61 7516192767 ?_
                      refine pu 33 120 61 16106127359 ?_
                      refine tk14 30 117 61 17179869183 hHeld ?_
                      refine tk14 34 121 61 34359738367 hHeld ?_
                      refine one_ (i := 35) (N := some 122) (bl 61 68719476735) rfl rfl (one_of HT_.out (by kernel_rfl)) (by decide) (fun K hK => ?_)
                      refine goes_ Tryz.func41 (by kernel_rfl) rfl #[.agg #[.slice A0_0 l0_0.length c0_0, .slice (some ad1001) l0_1.length c0_1], .int .i64 a1, .slice A2 l2.length c2, .int .i64 t995] (by rfl) rfl rfl uM ?_
                      with_reducible refine (quinariaref02_Agrees.calls kj5 _ _ l0_0 _ _ l0_1 a1 _ _ l2 t995 true _ ?side1 ?side2 ?side3 ?side4 ?side5 ?side6 A89.out).mono ?_
                      (case side1 => repeat (first | exact (Kd.C_below HR0_0.out HB.out) | (with_reducible refine Kd.C_alloc ?_ _) | (with_reducible refine Kd.C_drewN ?_ _) | (with_reducible refine Kd.C_drew ?_)))
                      (case side2 => exact HC0_0.out)
                      (case side3 => repeat (first | exact (Kd.C_below HR0_1.out HB.out) | (with_reducible refine Kd.C_alloc ?_ _) | (with_reducible refine Kd.C_drewN ?_ _) | (with_reducible refine Kd.C_drew ?_)))
                      (case side4 => exact HC0_1.out)
                      (case side5 => repeat (first | exact (Kd.C_below HR2.out HB.out) | (with_reducible refine Kd.C_alloc ?_ _) | (with_reducible refine Kd.C_drewN ?_ _) | (with_reducible refine Kd.C_drew ?_)))
                      (case side6 => exact HC2.out)
                      rintro e w95 ⟨rfl, hb⟩
                      refine ⟨_, rfl, ?_⟩
                      replace BK986 := Aside0.mk (blk_below (uK BK986.out) hb)
                      replace BK987 := Aside0.mk (blk_below (uK BK987.out) hb)
                      replace BK998 := Aside0.mk (blk_below (uK BK998.out) hb)
                      replace HB := Aside0.mk (below_step uB hb)
                      (try clear hb)
                      (try clear hb2)
                      (try clear hk)
                      (try clear hi)
                      refine hK.out _ _ ⟨(blk_cell BK998.out 0).trans rfl, (blk_cell BK998.out 1).trans rfl, (blk_cell BK986.out 0).trans rfl, (blk_cell BK986.out 1).trans rfl, (hcell HB.out hw1001_0), (hcell HB.out hw1001_1), (hcell HB.out hw1001_2), (hcell HB.out hw1001_3), (hcell HB.out hw1001_4), (hcell HB.out hw1002_0), (hcell HB.out hw1002_1), (hcell HB.out hw1002_2), (hcell HB.out hw1002_3), (hcell HB.out hw1002_4)⟩ (fun hHeld => ?_)
                      clear hK K
                      refine nm ?_
                      refine pu 36 123 61 137438953471 ?_
                      refine pu 37 124 61 274877906943 ?_
                      refine pu 38 125 61 549755813887 ?_
                      refine pu 40 127 61 1649267441663 ?_
                      refine pu 41 128 61 3848290697215 ?_
                      refine pu 42 129 61 8246337208319 ?_
                      refine tk14 39 126 61 8796093022207 hHeld ?_
                      refine tk14 43 130 61 17592186044415 hHeld ?_
                      refine one_ (i := 44) (N := some 131) (bl 61 35184372088831) rfl rfl (one_of HT_.out (by kernel_rfl)) (by decide) (fun K hK => ?_)
                      refine goes_ Tryz.func41 (by kernel_rfl) rfl #[.agg #[.slice A0_0 l0_0.length c0_0, .slice (some ad1001) l0_1.length c0_1], .int .i64 a1, .slice A2 l2.length c2, .int .i64 t996] (by rfl) rfl rfl uM ?_
                      with_reducible refine (quinariaref02_Agrees.calls kj5 _ _ l0_0 _ _ l0_1 a1 _ _ l2 t996 true _ ?side1 ?side2 ?side3 ?side4 ?side5 ?side6 A91.out).mono ?_
                      (case side1 => repeat (first | exact (Kd.C_below HR0_0.out HB.out) | (with_reducible refine Kd.C_alloc ?_ _) | (with_reducible refine Kd.C_drewN ?_ _) | (with_reducible refine Kd.C_drew ?_)))
                      (case side2 => exact HC0_0.out)
                      (case side3 => repeat (first | exact (Kd.C_below HR0_1.out HB.out) | (with_reducible refine Kd.C_alloc ?_ _) | (with_reducible refine Kd.C_drewN ?_ _) | (with_reducible refine Kd.C_drew ?_)))
                      (case side4 => exact HC0_1.out)
                      (case side5 => repeat (first | exact (Kd.C_below HR2.out HB.out) | (with_reducible refine Kd.C_alloc ?_ _) | (with_reducible refine Kd.C_drewN ?_ _) | (with_reducible refine Kd.C_drew ?_)))
                      (case side6 => exact HC2.out)
                      rintro e w96 ⟨rfl, hb⟩
                      refine ⟨_, rfl, ?_⟩
                      replace BK986 := Aside0.mk (blk_below (uK BK986.out) hb)
                      replace BK987 := Aside0.mk (blk_below (uK BK987.out) hb)
                      replace BK998 := Aside0.mk (blk_below (uK BK998.out) hb)
                      replace HB := Aside0.mk (below_step uB hb)
                      (try clear hb)
                      (try clear hb2)
                      (try clear hk)
                      (try clear hi)
                      refine hK.out _ _ ⟨(blk_cell BK998.out 0).trans rfl, (blk_cell BK998.out 1).trans rfl, (blk_cell BK986.out 0).trans rfl, (blk_cell BK986.out 1).trans rfl, (hcell HB.out hw1001_0), (hcell HB.out hw1001_1), (hcell HB.out hw1001_2), (hcell HB.out hw1001_3), (hcell HB.out hw1001_4), (hcell HB.out hw1002_0), (hcell HB.out hw1002_1), (hcell HB.out hw1002_2), (hcell HB.out hw1002_3), (hcell HB.out hw1002_4)⟩ (fun hHeld => ?_)
                      clear hK K
                      refine nm ?_
                      refine pu 45 132 61 70368744177663 ?_
                      refine pu 46 133 61 140737488355327 ?_
                      refine pu 47 134 61 281474976710655 ?_
                      refine pu 48 135 61 562949953421311 ?_
                      refine pu 49 136 61 1125899906842623 ?_
                      refine pu 50 137 61 2251799813685247 ?_
                      refine tk14 51 138 61 4503599627370495 hHeld ?_
                      refine pu 52 139 61 9007199254740991 ?_
                      refine pu 53 140 61 18014398509481983 ?_
                      refine pu 54 141 61 36028797018963967 ?_
                      refine pu 55 142 61 72057594037927935 ?_
                      refine tk14 56 143 61 144115188075855871 hHeld ?_
                      refine pu 57 144 61 288230376151711743 ?_
                      refine pu 58 145 61 576460752303423487 ?_
                      refine pu 59 146 61 1152921504606846975 ?_
                      refine pu 60 147 61 2305843009213693951 ?_
                      refine done_ (done_of HT_.out (by kernel_rfl)) ?_
                      try go_wp2
                      go_meet
                      case rel => exact ⟨_, ((t999 != (decide (a3 ≤ t996)))), u0, H', ⟨by have := HJ5.out; first | omega | exact Nat.le_refl _⟩, ⟨uK BK986.out⟩, ⟨uK BK987.out⟩, ⟨uK BK998.out⟩, ⟨uB⟩⟩
                    ·as_aux_lemma =>
                      rw [if_neg c93] at H
                      replace c93 := decide_eq_false c93
                      have H' := Aside0.mk H
                      clear H
                      try go_wp2
                      replace BK986 := Aside0.mk (blk_drew BK986.out)
                      replace BK987 := Aside0.mk (blk_drew BK987.out)
                      replace BK998 := Aside0.mk (blk_drew BK998.out)
                      replace HB := Aside0.mk (below_drew1 HB.out)
                      have p1001 : 0 ≤ (a1 : Int) := of_decide_eq_true (by first | (with_reducible assumption) | assumption)
                      have q1001 : a1 < (l0_1.length : Int) := of_decide_eq_true (by first | (with_reducible assumption) | assumption)
                      obtain ⟨ad1001, e1001, hx1001_0, hx1001_1, hx1001_2, hx1001_3, hx1001_4⟩ := at_T32 HR0_1.out a1 p1001 q1001
                      have hw1001_4 := hx1001_4
                      have hw1001_3 := hx1001_3
                      have hw1001_2 := hx1001_2
                      have hw1001_1 := hx1001_1
                      have hw1001_0 := hx1001_0
                      cases e1001
                      replace hx1001_0 := hcell HB.out hx1001_0
                      replace hx1001_1 := hcell HB.out hx1001_1
                      replace hx1001_2 := hcell HB.out hx1001_2
                      replace hx1001_3 := hcell HB.out hx1001_3
                      replace hx1001_4 := hcell HB.out hx1001_4
                      replace p1001 := eq_true p1001
                      replace q1001 := eq_true q1001
                      have p1002 : 0 ≤ (a1 : Int) := of_decide_eq_true (by first | (with_reducible assumption) | assumption)
                      have q1002 : a1 < (l0_1.length : Int) := of_decide_eq_true (by first | (with_reducible assumption) | assumption)
                      obtain ⟨ad1002, e1002, hx1002_0, hx1002_1, hx1002_2, hx1002_3, hx1002_4⟩ := at_T32 HR0_1.out a1 p1002 q1002
                      have hw1002_4 := hx1002_4
                      have hw1002_3 := hx1002_3
                      have hw1002_2 := hx1002_2
                      have hw1002_1 := hx1002_1
                      have hw1002_0 := hx1002_0
                      obtain rfl : ad1001 = ad1002 := (by injection e1002)
                      replace hx1002_0 := hcell HB.out hx1002_0
                      replace hx1002_1 := hcell HB.out hx1002_1
                      replace hx1002_2 := hcell HB.out hx1002_2
                      replace hx1002_3 := hcell HB.out hx1002_3
                      replace hx1002_4 := hcell HB.out hx1002_4
                      replace p1002 := eq_true p1002
                      replace q1002 := eq_true q1002
                      refine start_ (n := 61) (S := fun w' => w'.cell? ⟨gb998, 0, none⟩ = some (.int .i64 t995) ∧ w'.cell? ⟨gb998, 1, none⟩ = some (.int .i64 t996) ∧ w'.cell? ⟨gb986, 0, none⟩ = some (.slice A0_0 l0_0.length c0_0) ∧ w'.cell? ⟨gb986, 1, none⟩ = some (.slice (some ad1001) l0_1.length c0_1) ∧ w'.cell? (ad1001.add ((a1).toNat * 5)) = some (.int .i64 ((rd_T32 l0_1 a1).f0)) ∧ w'.cell? ⟨(ad1001.add ((a1).toNat * 5)).block, (ad1001.add ((a1).toNat * 5)).off + 1, none⟩ = some (.int .i64 ((rd_T32 l0_1 a1).f1)) ∧ w'.cell? ⟨(ad1001.add ((a1).toNat * 5)).block, (ad1001.add ((a1).toNat * 5)).off + 2, none⟩ = some (.int .i64 ((rd_T32 l0_1 a1).f2)) ∧ w'.cell? ⟨(ad1001.add ((a1).toNat * 5)).block, (ad1001.add ((a1).toNat * 5)).off + 3, none⟩ = some (.int .i64 ((rd_T32 l0_1 a1).f3.f0)) ∧ w'.cell? ⟨(ad1001.add ((a1).toNat * 5)).block, (ad1001.add ((a1).toNat * 5)).off + 4, none⟩ = some (.int .i64 ((rd_T32 l0_1 a1).f3.f1)) ∧ w'.cell? (ad1001.add ((a1).toNat * 5)) = some (.int .i64 ((rd_T32 l0_1 a1).f0)) ∧ w'.cell? ⟨(ad1001.add ((a1).toNat * 5)).block, (ad1001.add ((a1).toNat * 5)).off + 1, none⟩ = some (.int .i64 ((rd_T32 l0_1 a1).f1)) ∧ w'.cell? ⟨(ad1001.add ((a1).toNat * 5)).block, (ad1001.add ((a1).toNat * 5)).off + 2, none⟩ = some (.int .i64 ((rd_T32 l0_1 a1).f2)) ∧ w'.cell? ⟨(ad1001.add ((a1).toNat * 5)).block, (ad1001.add ((a1).toNat * 5)).off + 3, none⟩ = some (.int .i64 ((rd_T32 l0_1 a1).f3.f0)) ∧ w'.cell? ⟨(ad1001.add ((a1).toNat * 5)).block, (ad1001.add ((a1).toNat * 5)).off + 4, none⟩ = some (.int .i64 ((rd_T32 l0_1 a1).f3.f1))) (ds := []) (bl 61 0) (by kernel_rfl) rfl rfl ⟨(blk_cell BK998.out 0).trans rfl, (blk_cell BK998.out 1).trans rfl, (blk_cell BK986.out 0).trans rfl, (blk_cell BK986.out 1).trans rfl, (hcell HB.out hw1001_0), (hcell HB.out hw1001_1), (hcell HB.out hw1001_2), (hcell HB.out hw1001_3), (hcell HB.out hw1001_4), (hcell HB.out hw1002_0), (hcell HB.out hw1002_1), (hcell HB.out hw1002_2), (hcell HB.out hw1002_3), (hcell HB.out hw1002_4)⟩ (fun hHeld => ?_); refine with_tabW quinarialaw02_ChannelProven.tab7 quinarialaw02_ChannelProven.bits7 (fun HT_ HW_ => ?_)
                      generalize w80.drew = w97 at BK986 BK987 BK998 HB hx1001_0 hx1001_1 hx1001_2 hx1001_3 hx1001_4 hx1002_0 hx1002_1 hx1002_2 hx1002_3 hx1002_4 hHeld ⊢
                      refine pu 0 87 61 1 ?_
                      refine pu 2 89 61 5 ?_
                      refine pu 4 91 61 21 ?_
                      refine tk14 1 88 61 23 hHeld ?_
                      refine tk14 3 90 61 31 hHeld ?_
                      refine pu 5 92 61 63 ?_
                      refine pu 6 93 61 127 ?_
                      refine pu 7 94 61 255 ?_
                      refine tk14 8 95 61 511 hHeld ?_
                      refine pu 9 96 61 1023 ?_
                      refine pu 10 97 61 2047 ?_
                      refine pu 11 98 61 4095 ?_
                      refine pu 13 100 61 12287 ?_
                      refine pu 15 102 61 45055 ?_
                      refine tk14 12 99 61 49151 hHeld ?_
                      refine tk14 14 101 61 65535 hHeld ?_
                      refine pu 16 103 61 131071 ?_
                      refine pu 17 104 61 262143 ?_
                      refine pu 18 105 61 524287 ?_
                      refine tk14 19 106 61 1048575 hHeld ?_
                      refine pu 20 107 61 2097151 ?_
                      refine pu 21 108 61 4194303 ?_
                      refine pu 22 109 61 8388607 ?_
                      refine pu 23 110 61 16777215 ?_
                      refine pu 25 112 61 50331647 ?_
                      refine tk14 24 111 61 67108863 hHeld ?_
                      refine tk14 26 113 61 134217727 hHeld ?_
                      refine pu 27 114 61 268435455 ?_
                      refine pu 28 115 61 536870911 ?_
                      refine pu 29 116 61 1073741823 ?_
                      refine pu 31 118 61 3221225471 ?_
                      refine pu 32 119 61 7516192767 ?_
                      refine pu 33 120 61 16106127359 ?_
                      refine tk14 30 117 61 17179869183 hHeld ?_
                      refine tk14 34 121 61 34359738367 hHeld ?_
                      refine one_ (i := 35) (N := some 122) (bl 61 68719476735) rfl rfl (one_of HT_.out (by kernel_rfl)) (by decide) (fun K hK => ?_)
                      refine goes_ Tryz.func41 (by kernel_rfl) rfl #[.agg #[.slice A0_0 l0_0.length c0_0, .slice (some ad1001) l0_1.length c0_1], .int .i64 a1, .slice A2 l2.length c2, .int .i64 t995] (by rfl) rfl rfl uM ?_
                      with_reducible refine (quinariaref02_Agrees.calls kj5 _ _ l0_0 _ _ l0_1 a1 _ _ l2 t995 true _ ?side1 ?side2 ?side3 ?side4 ?side5 ?side6 A89.out).mono ?_
                      (case side1 => repeat (first | exact (Kd.C_below HR0_0.out HB.out) | (with_reducible refine Kd.C_alloc ?_ _) | (with_reducible refine Kd.C_drewN ?_ _) | (with_reducible refine Kd.C_drew ?_)))
                      (case side2 => exact HC0_0.out)
                      (case side3 => repeat (first | exact (Kd.C_below HR0_1.out HB.out) | (with_reducible refine Kd.C_alloc ?_ _) | (with_reducible refine Kd.C_drewN ?_ _) | (with_reducible refine Kd.C_drew ?_)))
                      (case side4 => exact HC0_1.out)
                      (case side5 => repeat (first | exact (Kd.C_below HR2.out HB.out) | (with_reducible refine Kd.C_alloc ?_ _) | (with_reducible refine Kd.C_drewN ?_ _) | (with_reducible refine Kd.C_drew ?_)))
                      (case side6 => exact HC2.out)
                      rintro e w98 ⟨rfl, hb⟩
                      refine ⟨_, rfl, ?_⟩
                      replace BK986 := Aside0.mk (blk_below (uK BK986.out) hb)
                      replace BK987 := Aside0.mk (blk_below (uK BK987.out) hb)
                      replace BK998 := Aside0.mk (blk_below (uK BK998.out) hb)
                      replace HB := Aside0.mk (below_step uB hb)
                      (try clear hb)
                      (try clear hb2)
                      (try clear hk)
                      (try clear hi)
                      refine hK.out _ _ ⟨(blk_cell BK998.out 0).trans rfl, (blk_cell BK998.out 1).trans rfl, (blk_cell BK986.out 0).trans rfl, (blk_cell BK986.out 1).trans rfl, (hcell HB.out hw1001_0), (hcell HB.out hw1001_1), (hcell HB.out hw1001_2), (hcell HB.out hw1001_3), (hcell HB.out hw1001_4), (hcell HB.out hw1002_0), (hcell HB.out hw1002_1), (hcell HB.out hw1002_2), (hcell HB.out hw1002_3), (hcell HB.out hw1002_4)⟩ (fun hHeld => ?_)
                      clear hK K
                      refine nm ?_
                      refine pu 36 123 61 137438953471 ?_
                      refine pu 37 124 61 274877906943 ?_
                      refine pu 38 125 61 549755813887 ?_
                      refine pu 40 127 61 1649267441663 ?_
                      refine pu 41 128 61 3848290697215 ?_
                      refine pu 42 129 61 8246337208319 ?_
                      refine tk14 39 126 61 8796093022207 hHeld ?_
                      refine tk14 43 130 61 17592186044415 hHeld ?_
                      refine one_ (i := 44) (N := some 131) (bl 61 35184372088831) rfl rfl (one_of HT_.out (by kernel_rfl)) (by decide) (fun K hK => ?_)
                      refine goes_ Tryz.func41 (by kernel_rfl) rfl #[.agg #[.slice A0_0 l0_0.length c0_0, .slice (some ad1001) l0_1.length c0_1], .int .i64 a1, .slice A2 l2.length c2, .int .i64 t996] (by rfl) rfl rfl uM ?_
                      with_reducible refine (quinariaref02_Agrees.calls kj5 _ _ l0_0 _ _ l0_1 a1 _ _ l2 t996 true _ ?side1 ?side2 ?side3 ?side4 ?side5 ?side6 A91.out).mono ?_
                      (case side1 => repeat (first | exact (Kd.C_below HR0_0.out HB.out) | (with_reducible refine Kd.C_alloc ?_ _) | (with_reducible refine Kd.C_drewN ?_ _) | (with_reducible refine Kd.C_drew ?_)))
                      (case side2 => exact HC0_0.out)
                      (case side3 => repeat (first | exact (Kd.C_below HR0_1.out HB.out) | (with_reducible refine Kd.C_alloc ?_ _) | (with_reducible refine Kd.C_drewN ?_ _) | (with_reducible refine Kd.C_drew ?_)))
                      (case side4 => exact HC0_1.out)
                      (case side5 => repeat (first | exact (Kd.C_below HR2.out HB.out) | (with_reducible refine Kd.C_alloc ?_ _) | (with_reducible refine Kd.C_drewN ?_ _) | (with_reducible refine Kd.C_drew ?_)))
                      (case side6 => exact HC2.out)
                      rintro e w99 ⟨rfl, hb⟩
                      refine ⟨_, rfl, ?_⟩
                      replace BK986 := Aside0.mk (blk_below (uK BK986.out) hb)
                      replace BK987 := Aside0.mk (blk_below (uK BK987.out) hb)
                      replace BK998 := Aside0.mk (blk_below (uK BK998.out) hb)
                      replace HB := Aside0.mk (below_step uB hb)
                      (try clear hb)
                      (try clear hb2)
                      (try clear hk)
                      (try clear hi)
                      refine hK.out _ _ ⟨(blk_cell BK998.out 0).trans rfl, (blk_cell BK998.out 1).trans rfl, (blk_cell BK986.out 0).trans rfl, (blk_cell BK986.out 1).trans rfl, (hcell HB.out hw1001_0), (hcell HB.out hw1001_1), (hcell HB.out hw1001_2), (hcell HB.out hw1001_3), (hcell HB.out hw1001_4), (hcell HB.out hw1002_0), (hcell HB.out hw1002_1), (hcell HB.out hw1002_2), (hcell HB.out hw1002_3), (hcell HB.out hw1002_4)⟩ (fun hHeld => ?_)
                      clear hK K
                      refine nm ?_
                      refine pu 45 132 61 70368744177663 ?_
                      refine pu 46 133 61 140737488355327 ?_
                      refine pu 47 134 61 281474976710655 ?_
                      refine pu 48 135 61 562949953421311 ?_
                      refine pu 49 136 61 1125899906842623 ?_
                      refine pu 50 137 61 2251799813685247 ?_
                      refine tk14 51 138 61 4503599627370495 hHeld ?_
                      refine pu 52 139 61 9007199254740991 ?_
                      refine pu 53 140 61 18014398509481983 ?_
                      refine pure_ (i := 54) (N := some 141) (v := undef) (a' := ?_) (bl 61 36028797018963967) rfl rfl (any_of HT_.out (by kernel_rfl)) (fun _ _ _ h => h) (Or.inr ⟨by rfl, rfl⟩) ?_ ?_
                      rotate_left
                      ·simp only [Act.put, List.setIfInBounds_toArray, List.set_cons_zero, List.set_cons_succ, i64_w, i32_w]
                       rfl
                      refine pure_ (i := 55) (N := some 142) (v := undef) (a' := ?_) (bl 61 72057594037927935) rfl rfl (any_of HT_.out (by kernel_rfl)) (fun _ _ _ h => h) (Or.inr ⟨by rfl, rfl⟩) ?_ ?_
                      rotate_left
                      ·simp only [Act.put, List.setIfInBounds_toArray, List.set_cons_zero, List.set_cons_succ, i64_w, i32_w]
                       rfl
                      refine pure_ (i := 56) (N := some 143) (v := undef) (a' := ?_) (bl 61 144115188075855871) rfl rfl (any_of HT_.out (by kernel_rfl)) (fun _ _ _ h => h) (Or.inr ⟨by rfl, rfl⟩) ?_ ?_
                      rotate_left
                      ·simp only [Act.put, List.setIfInBounds_toArray, List.set_cons_zero, List.set_cons_succ, i64_w, i32_w]
                       rfl
                      refine pure_ (i := 57) (N := some 144) (v := undef) (a' := ?_) (bl 61 288230376151711743) rfl rfl (any_of HT_.out (by kernel_rfl)) (fun _ _ _ h => h) (Or.inr ⟨by rfl, rfl⟩) ?_ ?_
                      rotate_left
                      ·simp only [Act.put, List.setIfInBounds_toArray, List.set_cons_zero, List.set_cons_succ, i64_w, i32_w]
                       rfl
                      refine pu 58 145 61 576460752303423487 ?_
                      refine pu 59 146 61 1152921504606846975 ?_
                      refine pu 60 147 61 2305843009213693951 ?_
                      refine done_ (done_of HT_.out (by kernel_rfl)) ?_
                      try go_wp2
                      go_meet
                      case rel => exact ⟨_, ((t999 != false)), u0, H', ⟨by have := HJ5.out; first | omega | exact Nat.le_refl _⟩, ⟨uK BK986.out⟩, ⟨uK BK987.out⟩, ⟨uK BK998.out⟩, ⟨uB⟩⟩
                  ·as_aux_lemma =>
                    replace c92 := Bool.eq_false_iff.mpr c92
                    subst c92
                    have H1 : (quinarialaw02_ChannelProven.j1 kj5 a1 l2 a3 true l0_0 l0_1 a4_0 a4_1 a4_2 t995 t996) = some r := by rw [if_neg (show ¬ (false = true) by decide)] at H; exact H
                    clear H
                    have H := H1
                    clear H1
                    have H' := Aside0.mk H
                    clear H
                    try go_wp2
                    replace BK986 := Aside0.mk (blk_drew BK986.out)
                    replace BK987 := Aside0.mk (blk_drew BK987.out)
                    replace BK998 := Aside0.mk (blk_drew BK998.out)
                    replace HB := Aside0.mk (below_drew1 HB.out)
                    have p1001 : 0 ≤ (a1 : Int) := of_decide_eq_true (by first | (with_reducible assumption) | assumption)
                    have q1001 : a1 < (l0_1.length : Int) := of_decide_eq_true (by first | (with_reducible assumption) | assumption)
                    obtain ⟨ad1001, e1001, hx1001_0, hx1001_1, hx1001_2, hx1001_3, hx1001_4⟩ := at_T32 HR0_1.out a1 p1001 q1001
                    have hw1001_4 := hx1001_4
                    have hw1001_3 := hx1001_3
                    have hw1001_2 := hx1001_2
                    have hw1001_1 := hx1001_1
                    have hw1001_0 := hx1001_0
                    cases e1001
                    replace hx1001_0 := hcell HB.out hx1001_0
                    replace hx1001_1 := hcell HB.out hx1001_1
                    replace hx1001_2 := hcell HB.out hx1001_2
                    replace hx1001_3 := hcell HB.out hx1001_3
                    replace hx1001_4 := hcell HB.out hx1001_4
                    replace p1001 := eq_true p1001
                    replace q1001 := eq_true q1001
                    have p1002 : 0 ≤ (a1 : Int) := of_decide_eq_true (by first | (with_reducible assumption) | assumption)
                    have q1002 : a1 < (l0_1.length : Int) := of_decide_eq_true (by first | (with_reducible assumption) | assumption)
                    obtain ⟨ad1002, e1002, hx1002_0, hx1002_1, hx1002_2, hx1002_3, hx1002_4⟩ := at_T32 HR0_1.out a1 p1002 q1002
                    have hw1002_4 := hx1002_4
                    have hw1002_3 := hx1002_3
                    have hw1002_2 := hx1002_2
                    have hw1002_1 := hx1002_1
                    have hw1002_0 := hx1002_0
                    obtain rfl : ad1001 = ad1002 := (by injection e1002)
                    replace hx1002_0 := hcell HB.out hx1002_0
                    replace hx1002_1 := hcell HB.out hx1002_1
                    replace hx1002_2 := hcell HB.out hx1002_2
                    replace hx1002_3 := hcell HB.out hx1002_3
                    replace hx1002_4 := hcell HB.out hx1002_4
                    replace p1002 := eq_true p1002
                    replace q1002 := eq_true q1002
                    refine start_ (n := 61) (S := fun w' => w'.cell? ⟨gb998, 0, none⟩ = some (.int .i64 t995) ∧ w'.cell? ⟨gb998, 1, none⟩ = some (.int .i64 t996) ∧ w'.cell? ⟨gb986, 0, none⟩ = some (.slice A0_0 l0_0.length c0_0) ∧ w'.cell? ⟨gb986, 1, none⟩ = some (.slice (some ad1001) l0_1.length c0_1) ∧ w'.cell? (ad1001.add ((a1).toNat * 5)) = some (.int .i64 ((rd_T32 l0_1 a1).f0)) ∧ w'.cell? ⟨(ad1001.add ((a1).toNat * 5)).block, (ad1001.add ((a1).toNat * 5)).off + 1, none⟩ = some (.int .i64 ((rd_T32 l0_1 a1).f1)) ∧ w'.cell? ⟨(ad1001.add ((a1).toNat * 5)).block, (ad1001.add ((a1).toNat * 5)).off + 2, none⟩ = some (.int .i64 ((rd_T32 l0_1 a1).f2)) ∧ w'.cell? ⟨(ad1001.add ((a1).toNat * 5)).block, (ad1001.add ((a1).toNat * 5)).off + 3, none⟩ = some (.int .i64 ((rd_T32 l0_1 a1).f3.f0)) ∧ w'.cell? ⟨(ad1001.add ((a1).toNat * 5)).block, (ad1001.add ((a1).toNat * 5)).off + 4, none⟩ = some (.int .i64 ((rd_T32 l0_1 a1).f3.f1)) ∧ w'.cell? (ad1001.add ((a1).toNat * 5)) = some (.int .i64 ((rd_T32 l0_1 a1).f0)) ∧ w'.cell? ⟨(ad1001.add ((a1).toNat * 5)).block, (ad1001.add ((a1).toNat * 5)).off + 1, none⟩ = some (.int .i64 ((rd_T32 l0_1 a1).f1)) ∧ w'.cell? ⟨(ad1001.add ((a1).toNat * 5)).block, (ad1001.add ((a1).toNat * 5)).off + 2, none⟩ = some (.int .i64 ((rd_T32 l0_1 a1).f2)) ∧ w'.cell? ⟨(ad1001.add ((a1).toNat * 5)).block, (ad1001.add ((a1).toNat * 5)).off + 3, none⟩ = some (.int .i64 ((rd_T32 l0_1 a1).f3.f0)) ∧ w'.cell? ⟨(ad1001.add ((a1).toNat * 5)).block, (ad1001.add ((a1).toNat * 5)).off + 4, none⟩ = some (.int .i64 ((rd_T32 l0_1 a1).f3.f1))) (ds := []) (bl 61 0) (by kernel_rfl) rfl rfl ⟨(blk_cell BK998.out 0).trans rfl, (blk_cell BK998.out 1).trans rfl, (blk_cell BK986.out 0).trans rfl, (blk_cell BK986.out 1).trans rfl, (hcell HB.out hw1001_0), (hcell HB.out hw1001_1), (hcell HB.out hw1001_2), (hcell HB.out hw1001_3), (hcell HB.out hw1001_4), (hcell HB.out hw1002_0), (hcell HB.out hw1002_1), (hcell HB.out hw1002_2), (hcell HB.out hw1002_3), (hcell HB.out hw1002_4)⟩ (fun hHeld => ?_); refine with_tabW quinarialaw02_ChannelProven.tab7 quinarialaw02_ChannelProven.bits7 (fun HT_ HW_ => ?_)
                    generalize w80.drew = w100 at BK986 BK987 BK998 HB hx1001_0 hx1001_1 hx1001_2 hx1001_3 hx1001_4 hx1002_0 hx1002_1 hx1002_2 hx1002_3 hx1002_4 hHeld ⊢
                    refine pu 0 87 61 1 ?_
                    refine pu 2 89 61 5 ?_
                    refine pu 4 91 61 21 ?_
                    refine tk14 1 88 61 23 hHeld ?_
                    refine tk14 3 90 61 31 hHeld ?_
                    refine pu 5 92 61 63 ?_
                    refine pu 6 93 61 127 ?_
                    refine pu 7 94 61 255 ?_
                    refine tk14 8 95 61 511 hHeld ?_
                    refine pu 9 96 61 1023 ?_
                    refine pu 10 97 61 2047 ?_
                    refine pu 11 98 61 4095 ?_
                    refine pu 13 100 61 12287 ?_
                    refine pu 15 102 61 45055 ?_
                    refine tk14 12 99 61 49151 hHeld ?_
                    refine tk14 14 101 61 65535 hHeld ?_
                    refine pu 16 103 61 131071 ?_
                    refine pu 17 104 61 262143 ?_
                    refine pu 18 105 61 524287 ?_
                    refine tk14 19 106 61 1048575 hHeld ?_
                    refine pu 20 107 61 2097151 ?_
                    refine pu 21 108 61 4194303 ?_
                    refine pu 22 109 61 8388607 ?_
                    refine pu 23 110 61 16777215 ?_
                    refine pu 25 112 61 50331647 ?_
                    refine tk14 24 111 61 67108863 hHeld ?_
                    refine tk14 26 113 61 134217727 hHeld ?_
                    refine pu 27 114 61 268435455 ?_
                    refine pu 28 115 61 536870911 ?_
                    refine pu 29 116 61 1073741823 ?_
                    refine pu 31 118 61 3221225471 ?_
                    refine pu 32 119 61 7516192767 ?_
                    refine pu 33 120 61 16106127359 ?_
                    refine tk14 30 117 61 17179869183 hHeld ?_
                    refine tk14 34 121 61 34359738367 hHeld ?_
                    refine one_ (i := 35) (N := some 122) (bl 61 68719476735) rfl rfl (one_of HT_.out (by kernel_rfl)) (by decide) (fun K hK => ?_)
                    refine goes_ Tryz.func41 (by kernel_rfl) rfl #[.agg #[.slice A0_0 l0_0.length c0_0, .slice (some ad1001) l0_1.length c0_1], .int .i64 a1, .slice A2 l2.length c2, .int .i64 t995] (by rfl) rfl rfl uM ?_
                    with_reducible refine (quinariaref02_Agrees.calls kj5 _ _ l0_0 _ _ l0_1 a1 _ _ l2 t995 true _ ?side1 ?side2 ?side3 ?side4 ?side5 ?side6 A89.out).mono ?_
                    (case side1 => repeat (first | exact (Kd.C_below HR0_0.out HB.out) | (with_reducible refine Kd.C_alloc ?_ _) | (with_reducible refine Kd.C_drewN ?_ _) | (with_reducible refine Kd.C_drew ?_)))
                    (case side2 => exact HC0_0.out)
                    (case side3 => repeat (first | exact (Kd.C_below HR0_1.out HB.out) | (with_reducible refine Kd.C_alloc ?_ _) | (with_reducible refine Kd.C_drewN ?_ _) | (with_reducible refine Kd.C_drew ?_)))
                    (case side4 => exact HC0_1.out)
                    (case side5 => repeat (first | exact (Kd.C_below HR2.out HB.out) | (with_reducible refine Kd.C_alloc ?_ _) | (with_reducible refine Kd.C_drewN ?_ _) | (with_reducible refine Kd.C_drew ?_)))
                    (case side6 => exact HC2.out)
                    rintro e w101 ⟨rfl, hb⟩
                    refine ⟨_, rfl, ?_⟩
                    replace BK986 := Aside0.mk (blk_below (uK BK986.out) hb)
                    replace BK987 := Aside0.mk (blk_below (uK BK987.out) hb)
                    replace BK998 := Aside0.mk (blk_below (uK BK998.out) hb)
                    replace HB := Aside0.mk (below_step uB hb)
                    (try clear hb)
                    (try clear hb2)
                    (try clear hk)
                    (try clear hi)
                    refine hK.out _ _ ⟨(blk_cell BK998.out 0).trans rfl, (blk_cell BK998.out 1).trans rfl, (blk_cell BK986.out 0).trans rfl, (blk_cell BK986.out 1).trans rfl, (hcell HB.out hw1001_0), (hcell HB.out hw1001_1), (hcell HB.out hw1001_2), (hcell HB.out hw1001_3), (hcell HB.out hw1001_4), (hcell HB.out hw1002_0), (hcell HB.out hw1002_1), (hcell HB.out hw1002_2), (hcell HB.out hw1002_3), (hcell HB.out hw1002_4)⟩ (fun hHeld => ?_)
                    clear hK K
                    refine nm ?_
                    refine pu 36 123 61 137438953471 ?_
                    refine pu 37 124 61 274877906943 ?_
                    refine pu 38 125 61 549755813887 ?_
                    refine pu 40 127 61 1649267441663 ?_
                    refine pu 41 128 61 3848290697215 ?_
                    refine pu 42 129 61 8246337208319 ?_
                    refine tk14 39 126 61 8796093022207 hHeld ?_
                    refine tk14 43 130 61 17592186044415 hHeld ?_
                    refine one_ (i := 44) (N := some 131) (bl 61 35184372088831) rfl rfl (one_of HT_.out (by kernel_rfl)) (by decide) (fun K hK => ?_)
                    refine goes_ Tryz.func41 (by kernel_rfl) rfl #[.agg #[.slice A0_0 l0_0.length c0_0, .slice (some ad1001) l0_1.length c0_1], .int .i64 a1, .slice A2 l2.length c2, .int .i64 t996] (by rfl) rfl rfl uM ?_
                    with_reducible refine (quinariaref02_Agrees.calls kj5 _ _ l0_0 _ _ l0_1 a1 _ _ l2 t996 false _ ?side1 ?side2 ?side3 ?side4 ?side5 ?side6 A91.out).mono ?_
                    (case side1 => repeat (first | exact (Kd.C_below HR0_0.out HB.out) | (with_reducible refine Kd.C_alloc ?_ _) | (with_reducible refine Kd.C_drewN ?_ _) | (with_reducible refine Kd.C_drew ?_)))
                    (case side2 => exact HC0_0.out)
                    (case side3 => repeat (first | exact (Kd.C_below HR0_1.out HB.out) | (with_reducible refine Kd.C_alloc ?_ _) | (with_reducible refine Kd.C_drewN ?_ _) | (with_reducible refine Kd.C_drew ?_)))
                    (case side4 => exact HC0_1.out)
                    (case side5 => repeat (first | exact (Kd.C_below HR2.out HB.out) | (with_reducible refine Kd.C_alloc ?_ _) | (with_reducible refine Kd.C_drewN ?_ _) | (with_reducible refine Kd.C_drew ?_)))
                    (case side6 => exact HC2.out)
                    rintro e w102 ⟨rfl, hb⟩
                    refine ⟨_, rfl, ?_⟩
                    replace BK986 := Aside0.mk (blk_below (uK BK986.out) hb)
                    replace BK987 := Aside0.mk (blk_below (uK BK987.out) hb)
                    replace BK998 := Aside0.mk (blk_below (uK BK998.out) hb)
                    replace HB := Aside0.mk (below_step uB hb)
                    (try clear hb)
                    (try clear hb2)
                    (try clear hk)
                    (try clear hi)
                    refine hK.out _ _ ⟨(blk_cell BK998.out 0).trans rfl, (blk_cell BK998.out 1).trans rfl, (blk_cell BK986.out 0).trans rfl, (blk_cell BK986.out 1).trans rfl, (hcell HB.out hw1001_0), (hcell HB.out hw1001_1), (hcell HB.out hw1001_2), (hcell HB.out hw1001_3), (hcell HB.out hw1001_4), (hcell HB.out hw1002_0), (hcell HB.out hw1002_1), (hcell HB.out hw1002_2), (hcell HB.out hw1002_3), (hcell HB.out hw1002_4)⟩ (fun hHeld => ?_)
                    clear hK K
                    refine nm ?_
                    refine pu 45 132 61 70368744177663 ?_
                    refine pu 46 133 61 140737488355327 ?_
                    refine pu 47 134 61 281474976710655 ?_
                    refine pure_ (i := 48) (N := some 135) (v := undef) (a' := ?_) (bl 61 562949953421311) rfl rfl (any_of HT_.out (by kernel_rfl)) (fun _ _ _ h => h) (Or.inr ⟨by rfl, rfl⟩) ?_ ?_
                    rotate_left
                    ·simp only [Act.put, List.setIfInBounds_toArray, List.set_cons_zero, List.set_cons_succ, i64_w, i32_w]
                     rfl
                    refine pure_ (i := 49) (N := some 136) (v := undef) (a' := ?_) (bl 61 1125899906842623) rfl rfl (any_of HT_.out (by kernel_rfl)) (fun _ _ _ h => h) (Or.inr ⟨by rfl, rfl⟩) ?_ ?_
                    rotate_left
                    ·simp only [Act.put, List.setIfInBounds_toArray, List.set_cons_zero, List.set_cons_succ, i64_w, i32_w]
                     rfl
                    refine pure_ (i := 50) (N := some 137) (v := undef) (a' := ?_) (bl 61 2251799813685247) rfl rfl (any_of HT_.out (by kernel_rfl)) (fun _ _ _ h => h) (Or.inr ⟨by rfl, rfl⟩) ?_ ?_
                    rotate_left
                    ·simp only [Act.put, List.setIfInBounds_toArray, List.set_cons_zero, List.set_cons_succ, i64_w, i32_w]
                     rfl
                    refine pure_ (i := 51) (N := some 138) (v := undef) (a' := ?_) (bl 61 4503599627370495) rfl rfl (any_of HT_.out (by kernel_rfl)) (fun _ _ _ h => h) (Or.inr ⟨by rfl, rfl⟩) ?_ ?_
                    rotate_left
                    ·simp only [Act.put, List.setIfInBounds_toArray, List.set_cons_zero, List.set_cons_succ, i64_w, i32_w]
                     rfl
                    refine pure_ (i := 52) (N := some 139) (v := undef) (a' := ?_) (bl 61 9007199254740991) rfl rfl (any_of HT_.out (by kernel_rfl)) (fun _ _ _ h => h) (Or.inr ⟨by rfl, rfl⟩) ?_ ?_
                    rotate_left
                    ·simp only [Act.put, List.setIfInBounds_toArray, List.set_cons_zero, List.set_cons_succ, i64_w, i32_w]
                     rfl
                    refine pure_ (i := 53) (N := some 140) (v := undef) (a' := ?_) (bl 61 18014398509481983) rfl rfl (any_of HT_.out (by kernel_rfl)) (fun _ _ _ h => h) (Or.inr ⟨by rfl, rfl⟩) ?_ ?_
                    rotate_left
                    ·simp only [Act.put, List.setIfInBounds_toArray, List.set_cons_zero, List.set_cons_succ, i64_w, i32_w]
                     rfl
                    refine pure_ (i := 54) (N := some 141) (v := undef) (a' := ?_) (bl 61 36028797018963967) rfl rfl (any_of HT_.out (by kernel_rfl)) (fun _ _ _ h => h) (Or.inr ⟨by rfl, rfl⟩) ?_ ?_
                    rotate_left
                    ·simp only [Act.put, List.setIfInBounds_toArray, List.set_cons_zero, List.set_cons_succ, i64_w, i32_w]
                     rfl
                    refine pure_ (i := 55) (N := some 142) (v := undef) (a' := ?_) (bl 61 72057594037927935) rfl rfl (any_of HT_.out (by kernel_rfl)) (fun _ _ _ h => h) (Or.inr ⟨by rfl, rfl⟩) ?_ ?_
                    rotate_left
                    ·simp only [Act.put, List.setIfInBounds_toArray, List.set_cons_zero, List.set_cons_succ, i64_w, i32_w]
                     rfl
                    refine pure_ (i := 56) (N := some 143) (v := undef) (a' := ?_) (bl 61 144115188075855871) rfl rfl (any_of HT_.out (by kernel_rfl)) (fun _ _ _ h => h) (Or.inr ⟨by rfl, rfl⟩) ?_ ?_
                    rotate_left
                    ·simp only [Act.put, List.setIfInBounds_toArray, List.set_cons_zero, List.set_cons_succ, i64_w, i32_w]
                     rfl
                    refine pure_ (i := 57) (N := some 144) (v := undef) (a' := ?_) (bl 61 288230376151711743) rfl rfl (any_of HT_.out (by kernel_rfl)) (fun _ _ _ h => h) (Or.inr ⟨by rfl, rfl⟩) ?_ ?_
                    rotate_left
                    ·simp only [Act.put, List.setIfInBounds_toArray, List.set_cons_zero, List.set_cons_succ, i64_w, i32_w]
                     rfl
                    refine pure_ (i := 58) (N := some 145) (v := undef) (a' := ?_) (bl 61 576460752303423487) rfl rfl (any_of HT_.out (by kernel_rfl)) (fun _ _ _ h => h) (Or.inr ⟨by rfl, rfl⟩) ?_ ?_
                    rotate_left
                    ·simp only [Act.put, List.setIfInBounds_toArray, List.set_cons_zero, List.set_cons_succ, i64_w, i32_w]
                     rfl
                    refine pure_ (i := 59) (N := some 146) (v := undef) (a' := ?_) (bl 61 1152921504606846975) rfl rfl (any_of HT_.out (by kernel_rfl)) (fun _ _ _ h => h) (Or.inr ⟨by rfl, rfl⟩) ?_ ?_
                    rotate_left
                    ·simp only [Act.put, List.setIfInBounds_toArray, List.set_cons_zero, List.set_cons_succ, i64_w, i32_w]
                     rfl
                    refine pu 60 147 61 2305843009213693951 ?_
                    refine done_ (done_of HT_.out (by kernel_rfl)) ?_
                    try go_wp2
                    go_meet
                    case rel => exact ⟨_, (true), u0, H', ⟨by have := HJ5.out; first | omega | exact Nat.le_refl _⟩, ⟨uK BK986.out⟩, ⟨uK BK987.out⟩, ⟨uK BK998.out⟩, ⟨uB⟩⟩
                ·as_aux_lemma =>
                  replace c90 := Bool.eq_false_iff.mpr c90
                  subst c90
                  have H1 : (quinarialaw02_ChannelProven.j1 kj5 a1 l2 a3 true l0_0 l0_1 a4_0 a4_1 a4_2 t995 t996) = some r := by rw [if_neg (show ¬ (false = true) by decide)] at H; exact H
                  clear H
                  have H := H1
                  clear H1
                  have H' := Aside0.mk H
                  clear H
                  try go_wp2
                  replace BK986 := Aside0.mk (blk_drew BK986.out)
                  replace BK987 := Aside0.mk (blk_drew BK987.out)
                  replace BK998 := Aside0.mk (blk_drew BK998.out)
                  replace HB := Aside0.mk (below_drew1 HB.out)
                  have p1001 : 0 ≤ (a1 : Int) := of_decide_eq_true (by first | (with_reducible assumption) | assumption)
                  have q1001 : a1 < (l0_1.length : Int) := of_decide_eq_true (by first | (with_reducible assumption) | assumption)
                  obtain ⟨ad1001, e1001, hx1001_0, hx1001_1, hx1001_2, hx1001_3, hx1001_4⟩ := at_T32 HR0_1.out a1 p1001 q1001
                  have hw1001_4 := hx1001_4
                  have hw1001_3 := hx1001_3
                  have hw1001_2 := hx1001_2
                  have hw1001_1 := hx1001_1
                  have hw1001_0 := hx1001_0
                  cases e1001
                  replace hx1001_0 := hcell HB.out hx1001_0
                  replace hx1001_1 := hcell HB.out hx1001_1
                  replace hx1001_2 := hcell HB.out hx1001_2
                  replace hx1001_3 := hcell HB.out hx1001_3
                  replace hx1001_4 := hcell HB.out hx1001_4
                  replace p1001 := eq_true p1001
                  replace q1001 := eq_true q1001
                  have p1002 : 0 ≤ (a1 : Int) := of_decide_eq_true (by first | (with_reducible assumption) | assumption)
                  have q1002 : a1 < (l0_1.length : Int) := of_decide_eq_true (by first | (with_reducible assumption) | assumption)
                  obtain ⟨ad1002, e1002, hx1002_0, hx1002_1, hx1002_2, hx1002_3, hx1002_4⟩ := at_T32 HR0_1.out a1 p1002 q1002
                  have hw1002_4 := hx1002_4
                  have hw1002_3 := hx1002_3
                  have hw1002_2 := hx1002_2
                  have hw1002_1 := hx1002_1
                  have hw1002_0 := hx1002_0
                  obtain rfl : ad1001 = ad1002 := (by injection e1002)
                  replace hx1002_0 := hcell HB.out hx1002_0
                  replace hx1002_1 := hcell HB.out hx1002_1
                  replace hx1002_2 := hcell HB.out hx1002_2
                  replace hx1002_3 := hcell HB.out hx1002_3
                  replace hx1002_4 := hcell HB.out hx1002_4
                  replace p1002 := eq_true p1002
                  replace q1002 := eq_true q1002
                  refine start_ (n := 61) (S := fun w' => w'.cell? ⟨gb998, 0, none⟩ = some (.int .i64 t995) ∧ w'.cell? ⟨gb998, 1, none⟩ = some (.int .i64 t996) ∧ w'.cell? ⟨gb986, 0, none⟩ = some (.slice A0_0 l0_0.length c0_0) ∧ w'.cell? ⟨gb986, 1, none⟩ = some (.slice (some ad1001) l0_1.length c0_1) ∧ w'.cell? (ad1001.add ((a1).toNat * 5)) = some (.int .i64 ((rd_T32 l0_1 a1).f0)) ∧ w'.cell? ⟨(ad1001.add ((a1).toNat * 5)).block, (ad1001.add ((a1).toNat * 5)).off + 1, none⟩ = some (.int .i64 ((rd_T32 l0_1 a1).f1)) ∧ w'.cell? ⟨(ad1001.add ((a1).toNat * 5)).block, (ad1001.add ((a1).toNat * 5)).off + 2, none⟩ = some (.int .i64 ((rd_T32 l0_1 a1).f2)) ∧ w'.cell? ⟨(ad1001.add ((a1).toNat * 5)).block, (ad1001.add ((a1).toNat * 5)).off + 3, none⟩ = some (.int .i64 ((rd_T32 l0_1 a1).f3.f0)) ∧ w'.cell? ⟨(ad1001.add ((a1).toNat * 5)).block, (ad1001.add ((a1).toNat * 5)).off + 4, none⟩ = some (.int .i64 ((rd_T32 l0_1 a1).f3.f1)) ∧ w'.cell? (ad1001.add ((a1).toNat * 5)) = some (.int .i64 ((rd_T32 l0_1 a1).f0)) ∧ w'.cell? ⟨(ad1001.add ((a1).toNat * 5)).block, (ad1001.add ((a1).toNat * 5)).off + 1, none⟩ = some (.int .i64 ((rd_T32 l0_1 a1).f1)) ∧ w'.cell? ⟨(ad1001.add ((a1).toNat * 5)).block, (ad1001.add ((a1).toNat * 5)).off + 2, none⟩ = some (.int .i64 ((rd_T32 l0_1 a1).f2)) ∧ w'.cell? ⟨(ad1001.add ((a1).toNat * 5)).block, (ad1001.add ((a1).toNat * 5)).off + 3, none⟩ = some (.int .i64 ((rd_T32 l0_1 a1).f3.f0)) ∧ w'.cell? ⟨(ad1001.add ((a1).toNat * 5)).block, (ad1001.add ((a1).toNat * 5)).off + 4, none⟩ = some (.int .i64 ((rd_T32 l0_1 a1).f3.f1))) (ds := []) (bl 61 0) (by kernel_rfl) rfl rfl ⟨(blk_cell BK998.out 0).trans rfl, (blk_cell BK998.out 1).trans rfl, (blk_cell BK986.out 0).trans rfl, (blk_cell BK986.out 1).trans rfl, (hcell HB.out hw1001_0), (hcell HB.out hw1001_1), (hcell HB.out hw1001_2), (hcell HB.out hw1001_3), (hcell HB.out hw1001_4), (hcell HB.out hw1002_0), (hcell HB.out hw1002_1), (hcell HB.out hw1002_2), (hcell HB.out hw1002_3), (hcell HB.out hw1002_4)⟩ (fun hHeld => ?_); refine with_tabW quinarialaw02_ChannelProven.tab7 quinarialaw02_ChannelProven.bits7 (fun HT_ HW_ => ?_)
                  generalize w80.drew = w103 at BK986 BK987 BK998 HB hx1001_0 hx1001_1 hx1001_2 hx1001_3 hx1001_4 hx1002_0 hx1002_1 hx1002_2 hx1002_3 hx1002_4 hHeld ⊢
                  refine pu 0 87 61 1 ?_
                  refine pu 2 89 61 5 ?_
                  refine pu 4 91 61 21 ?_
                  refine tk14 1 88 61 23 hHeld ?_
                  refine tk14 3 90 61 31 hHeld ?_
                  refine pu 5 92 61 63 ?_
                  refine pu 6 93 61 127 ?_
                  refine pu 7 94 61 255 ?_
                  refine tk14 8 95 61 511 hHeld ?_
                  refine pu 9 96 61 1023 ?_
                  refine pu 10 97 61 2047 ?_
                  refine pu 11 98 61 4095 ?_
                  refine pu 13 100 61 12287 ?_
                  refine pu 15 102 61 45055 ?_
                  refine tk14 12 99 61 49151 hHeld ?_
                  refine tk14 14 101 61 65535 hHeld ?_
                  refine pu 16 103 61 131071 ?_
                  refine pu 17 104 61 262143 ?_
                  refine pu 18 105 61 524287 ?_
                  refine tk14 19 106 61 1048575 hHeld ?_
                  refine pu 20 107 61 2097151 ?_
                  refine pu 21 108 61 4194303 ?_
                  refine pu 22 109 61 8388607 ?_
                  refine pu 23 110 61 16777215 ?_
                  refine pu 25 112 61 50331647 ?_
                  refine tk14 24 111 61 67108863 hHeld ?_
                  refine tk14 26 113 61 134217727 hHeld ?_
                  refine pu 27 114 61 268435455 ?_
                  refine pu 28 115 61 536870911 ?_
                  refine pu 29 116 61 1073741823 ?_
                  refine pu 31 118 61 3221225471 ?_
                  refine pu 32 119 61 7516192767 ?_
                  refine pu 33 120 61 16106127359 ?_
                  refine tk14 30 117 61 17179869183 hHeld ?_
                  refine tk14 34 121 61 34359738367 hHeld ?_
                  refine one_ (i := 35) (N := some 122) (bl 61 68719476735) rfl rfl (one_of HT_.out (by kernel_rfl)) (by decide) (fun K hK => ?_)
                  refine goes_ Tryz.func41 (by kernel_rfl) rfl #[.agg #[.slice A0_0 l0_0.length c0_0, .slice (some ad1001) l0_1.length c0_1], .int .i64 a1, .slice A2 l2.length c2, .int .i64 t995] (by rfl) rfl rfl uM ?_
                  with_reducible refine (quinariaref02_Agrees.calls kj5 _ _ l0_0 _ _ l0_1 a1 _ _ l2 t995 false _ ?side1 ?side2 ?side3 ?side4 ?side5 ?side6 A89.out).mono ?_
                  (case side1 => repeat (first | exact (Kd.C_below HR0_0.out HB.out) | (with_reducible refine Kd.C_alloc ?_ _) | (with_reducible refine Kd.C_drewN ?_ _) | (with_reducible refine Kd.C_drew ?_)))
                  (case side2 => exact HC0_0.out)
                  (case side3 => repeat (first | exact (Kd.C_below HR0_1.out HB.out) | (with_reducible refine Kd.C_alloc ?_ _) | (with_reducible refine Kd.C_drewN ?_ _) | (with_reducible refine Kd.C_drew ?_)))
                  (case side4 => exact HC0_1.out)
                  (case side5 => repeat (first | exact (Kd.C_below HR2.out HB.out) | (with_reducible refine Kd.C_alloc ?_ _) | (with_reducible refine Kd.C_drewN ?_ _) | (with_reducible refine Kd.C_drew ?_)))
                  (case side6 => exact HC2.out)
                  rintro e w104 ⟨rfl, hb⟩
                  refine ⟨_, rfl, ?_⟩
                  replace BK986 := Aside0.mk (blk_below (uK BK986.out) hb)
                  replace BK987 := Aside0.mk (blk_below (uK BK987.out) hb)
                  replace BK998 := Aside0.mk (blk_below (uK BK998.out) hb)
                  replace HB := Aside0.mk (below_step uB hb)
                  (try clear hb)
                  (try clear hb2)
                  (try clear hk)
                  (try clear hi)
                  refine hK.out _ _ ⟨(blk_cell BK998.out 0).trans rfl, (blk_cell BK998.out 1).trans rfl, (blk_cell BK986.out 0).trans rfl, (blk_cell BK986.out 1).trans rfl, (hcell HB.out hw1001_0), (hcell HB.out hw1001_1), (hcell HB.out hw1001_2), (hcell HB.out hw1001_3), (hcell HB.out hw1001_4), (hcell HB.out hw1002_0), (hcell HB.out hw1002_1), (hcell HB.out hw1002_2), (hcell HB.out hw1002_3), (hcell HB.out hw1002_4)⟩ (fun hHeld => ?_)
                  clear hK K
                  refine nm ?_
                  refine pu 36 123 61 137438953471 ?_
                  refine pu 37 124 61 274877906943 ?_
                  refine pu 38 125 61 549755813887 ?_
                  refine pure_ (i := 39) (N := some 126) (v := undef) (a' := ?_) (bl 61 1099511627775) rfl rfl (any_of HT_.out (by kernel_rfl)) (fun _ _ _ h => h) (Or.inr ⟨by rfl, rfl⟩) ?_ ?_
                  rotate_left
                  ·simp only [Act.put, List.setIfInBounds_toArray, List.set_cons_zero, List.set_cons_succ, i64_w, i32_w]
                   rfl
                  refine pure_ (i := 40) (N := some 127) (v := undef) (a' := ?_) (bl 61 2199023255551) rfl rfl (any_of HT_.out (by kernel_rfl)) (fun _ _ _ h => h) (Or.inr ⟨by rfl, rfl⟩) ?_ ?_
                  rotate_left
                  ·simp only [Act.put, List.setIfInBounds_toArray, List.set_cons_zero, List.set_cons_succ, i64_w, i32_w]
                   rfl
                  refine pure_ (i := 41) (N := some 128) (v := undef) (a' := ?_) (bl 61 4398046511103) rfl rfl (any_of HT_.out (by kernel_rfl)) (fun _ _ _ h => h) (Or.inr ⟨by rfl, rfl⟩) ?_ ?_
                  rotate_left
                  ·simp only [Act.put, List.setIfInBounds_toArray, List.set_cons_zero, List.set_cons_succ, i64_w, i32_w]
                   rfl
                  refine pure_ (i := 42) (N := some 129) (v := undef) (a' := ?_) (bl 61 8796093022207) rfl rfl (any_of HT_.out (by kernel_rfl)) (fun _ _ _ h => h) (Or.inr ⟨by rfl, rfl⟩) ?_ ?_
                  rotate_left
                  ·simp only [Act.put, List.setIfInBounds_toArray, List.set_cons_zero, List.set_cons_succ, i64_w, i32_w]
                   rfl
                  refine pure_ (i := 43) (N := some 130) (v := undef) (a' := ?_) (bl 61 17592186044415) rfl rfl (any_of HT_.out (by kernel_rfl)) (fun _ _ _ h => h) (Or.inr ⟨by rfl, rfl⟩) ?_ ?_
                  rotate_left
                  ·simp only [Act.put, List.setIfInBounds_toArray, List.set_cons_zero, List.set_cons_succ, i64_w, i32_w]
                   rfl
                  refine pure_ (i := 44) (N := some 131) (v := undef) (a' := ?_) (bl 61 35184372088831) rfl rfl (any_of HT_.out (by kernel_rfl)) (fun _ _ _ h => h) (Or.inr ⟨by rfl, rfl⟩) ?_ ?_
                  rotate_left
                  ·simp only [Act.put, List.setIfInBounds_toArray, List.set_cons_zero, List.set_cons_succ, i64_w, i32_w]
                   rfl
                  refine pure_ (i := 45) (N := some 132) (v := undef) (a' := ?_) (bl 61 70368744177663) rfl rfl (any_of HT_.out (by kernel_rfl)) (fun _ _ _ h => h) (Or.inr ⟨by rfl, rfl⟩) ?_ ?_
                  rotate_left
                  ·simp only [Act.put, List.setIfInBounds_toArray, List.set_cons_zero, List.set_cons_succ, i64_w, i32_w]
                   rfl
                  refine pu 46 133 61 140737488355327 ?_
                  refine pu 47 134 61 281474976710655 ?_
                  refine pure_ (i := 48) (N := some 135) (v := undef) (a' := ?_) (bl 61 562949953421311) rfl rfl (any_of HT_.out (by kernel_rfl)) (fun _ _ _ h => h) (Or.inr ⟨by rfl, rfl⟩) ?_ ?_
                  rotate_left
                  ·simp only [Act.put, List.setIfInBounds_toArray, List.set_cons_zero, List.set_cons_succ, i64_w, i32_w]
                   rfl
                  refine pure_ (i := 49) (N := some 136) (v := undef) (a' := ?_) (bl 61 1125899906842623) rfl rfl (any_of HT_.out (by kernel_rfl)) (fun _ _ _ h => h) (Or.inr ⟨by rfl, rfl⟩) ?_ ?_
                  rotate_left
                  ·simp only [Act.put, List.setIfInBounds_toArray, List.set_cons_zero, List.set_cons_succ, i64_w, i32_w]
                   rfl
                  refine pure_ (i := 50) (N := some 137) (v := undef) (a' := ?_) (bl 61 2251799813685247) rfl rfl (any_of HT_.out (by kernel_rfl)) (fun _ _ _ h => h) (Or.inr ⟨by rfl, rfl⟩) ?_ ?_
                  rotate_left
                  ·simp only [Act.put, List.setIfInBounds_toArray, List.set_cons_zero, List.set_cons_succ, i64_w, i32_w]
                   rfl
                  refine pure_ (i := 51) (N := some 138) (v := undef) (a' := ?_) (bl 61 4503599627370495) rfl rfl (any_of HT_.out (by kernel_rfl)) (fun _ _ _ h => h) (Or.inr ⟨by rfl, rfl⟩) ?_ ?_
                  rotate_left
                  ·simp only [Act.put, List.setIfInBounds_toArray, List.set_cons_zero, List.set_cons_succ, i64_w, i32_w]
                   rfl
                  refine pure_ (i := 52) (N := some 139) (v := undef) (a' := ?_) (bl 61 9007199254740991) rfl rfl (any_of HT_.out (by kernel_rfl)) (fun _ _ _ h => h) (Or.inr ⟨by rfl, rfl⟩) ?_ ?_
                  rotate_left
                  ·simp only [Act.put, List.setIfInBounds_toArray, List.set_cons_zero, List.set_cons_succ, i64_w, i32_w]
                   rfl
                  refine pure_ (i := 53) (N := some 140) (v := undef) (a' := ?_) (bl 61 18014398509481983) rfl rfl (any_of HT_.out (by kernel_rfl)) (fun _ _ _ h => h) (Or.inr ⟨by rfl, rfl⟩) ?_ ?_
                  rotate_left
                  ·simp only [Act.put, List.setIfInBounds_toArray, List.set_cons_zero, List.set_cons_succ, i64_w, i32_w]
                   rfl
                  refine pure_ (i := 54) (N := some 141) (v := undef) (a' := ?_) (bl 61 36028797018963967) rfl rfl (any_of HT_.out (by kernel_rfl)) (fun _ _ _ h => h) (Or.inr ⟨by rfl, rfl⟩) ?_ ?_
                  rotate_left
                  ·simp only [Act.put, List.setIfInBounds_toArray, List.set_cons_zero, List.set_cons_succ, i64_w, i32_w]
                   rfl
                  refine pure_ (i := 55) (N := some 142) (v := undef) (a' := ?_) (bl 61 72057594037927935) rfl rfl (any_of HT_.out (by kernel_rfl)) (fun _ _ _ h => h) (Or.inr ⟨by rfl, rfl⟩) ?_ ?_
                  rotate_left
                  ·simp only [Act.put, List.setIfInBounds_toArray, List.set_cons_zero, List.set_cons_succ, i64_w, i32_w]
                   rfl
                  refine pure_ (i := 56) (N := some 143) (v := undef) (a' := ?_) (bl 61 144115188075855871) rfl rfl (any_of HT_.out (by kernel_rfl)) (fun _ _ _ h => h) (Or.inr ⟨by rfl, rfl⟩) ?_ ?_
                  rotate_left
                  ·simp only [Act.put, List.setIfInBounds_toArray, List.set_cons_zero, List.set_cons_succ, i64_w, i32_w]
                   rfl
                  refine pure_ (i := 57) (N := some 144) (v := undef) (a' := ?_) (bl 61 288230376151711743) rfl rfl (any_of HT_.out (by kernel_rfl)) (fun _ _ _ h => h) (Or.inr ⟨by rfl, rfl⟩) ?_ ?_
                  rotate_left
                  ·simp only [Act.put, List.setIfInBounds_toArray, List.set_cons_zero, List.set_cons_succ, i64_w, i32_w]
                   rfl
                  refine pure_ (i := 58) (N := some 145) (v := undef) (a' := ?_) (bl 61 576460752303423487) rfl rfl (any_of HT_.out (by kernel_rfl)) (fun _ _ _ h => h) (Or.inr ⟨by rfl, rfl⟩) ?_ ?_
                  rotate_left
                  ·simp only [Act.put, List.setIfInBounds_toArray, List.set_cons_zero, List.set_cons_succ, i64_w, i32_w]
                   rfl
                  refine pure_ (i := 59) (N := some 146) (v := undef) (a' := ?_) (bl 61 1152921504606846975) rfl rfl (any_of HT_.out (by kernel_rfl)) (fun _ _ _ h => h) (Or.inr ⟨by rfl, rfl⟩) ?_ ?_
                  rotate_left
                  ·simp only [Act.put, List.setIfInBounds_toArray, List.set_cons_zero, List.set_cons_succ, i64_w, i32_w]
                   rfl
                  refine pu 60 147 61 2305843009213693951 ?_
                  refine done_ (done_of HT_.out (by kernel_rfl)) ?_
                  try go_wp2
                  go_meet
                  case rel => exact ⟨_, (true), u0, H', ⟨by have := HJ5.out; first | omega | exact Nat.le_refl _⟩, ⟨uK BK986.out⟩, ⟨uK BK987.out⟩, ⟨uK BK998.out⟩, ⟨uB⟩⟩
        case rest =>
         as_aux_lemma =>
          clear HC71; try clear p1; try clear q1; try clear hx1; try clear c2; try clear p2; try clear c4; try clear c8; try clear c9; try clear p10; try clear q10; try clear hx10; try clear c41; try clear c81; try clear c82; try clear c90; try clear p100; try clear q100; try clear hx100; try clear hx1001_0; try clear hx1001_1; try clear hx1001_2; try clear hx1001_3; try clear hx1001_4; try clear hx1002_0; try clear hx1002_1; try clear hx1002_2; try clear hx1002_3; try clear hx1002_4; try clear p1001; try clear p1002; try clear q1001; try clear q1002
          obtain ⟨kq, x147_70, rfl, HA, HJ70, BK986, BK987, BK998, HB⟩ := hcut
          cases kq with
          | zero => exact absurd HA.out (by simp [quinarialaw02_ChannelProven.j1])
          | succ kj70 =>
           have H := HA.out
           clear HA
           simp only [quinarialaw02_ChannelProven.j1] at H
           by_cases c105 : x147_70 = true
           ·subst c105
            have H1 : (some false) = some r := by rw [if_pos rfl] at H; exact H
            clear H
            have H := H1
            clear H1
            obtain rfl := Option.some.inj H
            go_wp2
            go_ret
            exact ⟨uE, uB⟩
           ·as_aux_lemma =>
             replace c105 := Bool.eq_false_iff.mpr c105
             subst c105
             have H1 : (if ([] : List (S68)).length + l2.length < 5864062014805 then ((some (([] : List (S68)) ++ l2 : List (S68))).bind fun y1005 => ((some (([(⟨a4_0, (⟨a4_1, a4_2⟩ : S30)⟩ : S68)] : List (S68)) : List (S68))).bind fun y1008 => (if y1005.length + y1008.length < 5864062014805 then ((some (y1005 ++ y1008 : List (S68))).bind fun y1011 => ((quinariaref02_Notes.f kj70 y1011).bind fun t1014 => (if t1014 = true then ((quinariaref02_Agrees.f kj70 l0_0 l0_1 a1 y1011 a3).bind fun t1015 => (quinarialaw02_ChannelProven.j2 kj70 a1 a3 y1011 (!t1015) l0_0 l0_1 t995 t996)) else (quinarialaw02_ChannelProven.j2 kj70 a1 a3 y1011 true l0_0 l0_1 t995 t996)))) else (none)))) else (none)) = some r := by rw [if_neg (show ¬ (false = true) by decide)] at H; exact H
             clear H
             have H := H1
             clear H1
             obtain ⟨c106, H⟩ := ifs H
             have LMc106 := Aside0.mk c106
             clear c106
             obtain ⟨y1005, hy1005⟩ : ∃ y_ : List (S68), y_ = (([] : List (S68)) ++ l2) := ⟨_, rfl⟩
             rw [← hy1005] at H; (try replace H := (Option.bind_some _ _).symm.trans H)
             have Ny1005 := Aside0.mk hy1005
             clear hy1005
             obtain ⟨y1008, hy1008⟩ : ∃ y_ : List (S68), y_ = (([(⟨a4_0, (⟨a4_1, a4_2⟩ : S30)⟩ : S68)] : List (S68))) := ⟨_, rfl⟩
             rw [← hy1008] at H; (try replace H := (Option.bind_some _ _).symm.trans H)
             have Ny1008 := Aside0.mk hy1008
             clear hy1008
             obtain ⟨c107, H⟩ := ifs H
             have LMc107 := Aside0.mk c107
             clear c107
             obtain ⟨y1011, hy1011⟩ : ∃ y_ : List (S68), y_ = (y1005 ++ y1008) := ⟨_, rfl⟩
             rw [← hy1011] at H; (try replace H := (Option.bind_some _ _).symm.trans H)
             have Ny1011 := Aside0.mk hy1011
             clear hy1011
             have HC108 := Aside0.mk H
             clear H
             try go_wp2
             replace BK986 := Aside0.mk (blk_drew BK986.out)
             replace BK987 := Aside0.mk (blk_drew BK987.out)
             replace BK998 := Aside0.mk (blk_drew BK998.out)
             replace HB := Aside0.mk (below_drew1 HB.out)
             refine start_ (n := 6) (S := fun w' => w'.cell? ⟨gb987, 0, none⟩ = some (.int .i64 a4_0) ∧ w'.cell? ⟨gb987, 1, none⟩ = some (.int .i64 a4_1) ∧ w'.cell? ⟨gb987, 2, none⟩ = some (.int .i64 a4_2)) (ds := []) (bl 6 0) (by kernel_rfl) rfl rfl ⟨(blk_cell BK987.out 0).trans rfl, (blk_cell BK987.out 1).trans rfl, (blk_cell BK987.out 2).trans rfl⟩ (fun hHeld => ?_)
             generalize wc.drew = w109 at BK986 BK987 BK998 HB hHeld ⊢
             refine pu 0 148 6 1 ?_
             refine tk3 2 150 6 5 hHeld ?_
             refine join_ (σ := Value × Value) 2 (bl 6 15) (fun s_ => [(149, s_.1), (151, s_.2)]) (fun s_ w' => (w'.cell? ⟨gb987, 0, none⟩ = some (.int .i64 a4_0) ∧ w'.cell? ⟨gb987, 1, none⟩ = some (.int .i64 a4_1) ∧ w'.cell? ⟨gb987, 2, none⟩ = some (.int .i64 a4_2)) ∧ (Kd.R k68 68 w' w.heap.size (fun k_ => some k_ ≠ (s_.2 : Value).ownBlock ∧ k_ ≠ gb987) s_.1 y1005) ∧ (Kd.R k68 68 w' w.heap.size (fun k_ => some k_ ≠ (s_.1 : Value).ownBlock ∧ k_ ≠ gb987) s_.2 y1008) ∧ (w'.heap[gb986]? = some (.cells #[.slice A0_0 l0_0.length c0_0, .slice A0_1 l0_1.length c0_1] 25 (0, 0))) ∧ (w'.heap[gb987]? = some (.cells #[.int .i64 a4_0, .int .i64 a4_1, .int .i64 a4_2] 68 (0, 0))) ∧ (w'.heap[gb998]? = some (.cells #[.int .i64 t995, .int .i64 t996] 30 (0, 0))) ∧ (Below w.heap.size w w')) ?_ ?_
             rotate_left
             ·intro hCont
              refine two_ (i := 1) (j := 3) (Ni := some 149) (Nj := some 151) (bl 6 7) (bl 6 13) rfl rfl rfl rfl (by kernel_rfl) (by decide) (by decide) (fun K hK => ?_) (fun K hK => ?_)
              ·skip
               refine Kd.R_append_rows_step k68 (w0 := w) w.heap.size rfl (.const (.slice none 0 0)) (.tmp 148) 62 68 (.agg #[(.int .i64 0), (.int .i64 0), (.int .i64 0)]) 24 rfl Tryz.underlying62 info68 rfl (by decide) (by omega) (.slice none 0 0) ([] : List (S68)) l2 _ _ _ (fun k_ => k_ ≠ gb987) (fun _ => False) rfl rfl ?aO ?aR (fun _ _ h => h) (fun _ h => h.elim) ?aF ?aB ?aS ?aL ?_
               (case aR => repeat (first | exact (Kd.C_below HR2.out HB.out) | (with_reducible refine Kd.C_alloc ?_ _) | (with_reducible refine Kd.C_drewN ?_ _) | (with_reducible refine Kd.C_drew ?_)))
               (case aB => exact uB)
               (case aF => exact (fun k_ hk => Kd.freshB (g := gb987) (o := .cells #[.int .i64 a4_0, .int .i64 a4_1, .int .i64 a4_2] 68 (0, 0)) (uK BK987.out) k_ hk))
               (case aO => exact ((Kd.R_nil _ _ _ _ (fun k_ => k_ ≠ gb987))))
               (case aS => exact (below_size uB))
               (case aL => have := LMc106.out; omega)
               intro v1006 w110 ho hb hg hat
               rw [← Ny1005.out] at ho
               replace BK986 := Aside0.mk (blk_grown (uK BK986.out) hg (by simp [Value.ownBlock]))
               replace BK987 := Aside0.mk (blk_grown (uK BK987.out) hg (by simp [Value.ownBlock]))
               replace BK998 := Aside0.mk (blk_grown (uK BK998.out) hg (by simp [Value.ownBlock]))
               have HO1007 := Aside0.mk (ho)
               replace HB := Aside0.mk (hb)
               clear ho hb hg hat
               refine hK.out _ _ ⟨(blk_cell BK987.out 0).trans rfl, (blk_cell BK987.out 1).trans rfl, (blk_cell BK987.out 2).trans rfl⟩ (fun hHeld => ?_)
               clear hK K
               refine nm ?_
               refine one_ (i := 3) (N := some 151) (bl 6 15) rfl rfl (by kernel_rfl) (by decide) (fun K hK => ?_)
               refine Kd.R_lit_step k68 _ 68 ?hg (N := 151) ?hd (xs := ([(⟨a4_0, (⟨a4_1, a4_2⟩ : S30)⟩ : S68)] : List (S68))) (inner := [.int .i64 a4_0, .int .i64 a4_1, .int .i64 a4_2]) (ok := fun _ => True) (okp := fun _ => True) ?hr ?hp (fun _ hk => hk) trivial (Below.refl _ _) (Nat.le_refl _) (by simp) ?_; (case hd => rfl); (case hg => rfl); (case hr => first | (go_simp; done) | (go_simp; rfl)); (case hp => exact (Reps.c3 (show Kd.M k68 _ _ _ (⟨a4_0, (⟨a4_1, a4_2⟩ : S30)⟩ : S68) [.int .i64 a4_0, .int .i64 a4_1, .int .i64 a4_2] from (k68_mkM _ _ _ (⟨a4_0, (⟨a4_1, a4_2⟩ : S30)⟩ : S68) )) (Reps.none _ _)))
               intro v1009 w111 ho112 hb hg_ hnew_
               clear hg_ hnew_
               (first | rw [← Ny1008.out] at ho112 | (simp only [Int.reduceToNat] at ho112; rw [← Ny1008.out] at ho112))
               have n0_ := Aside0.mk (Kd.R_elder' (uR HO1007.out) (Kd.R_base ho112) hb)
               have n1_ := Aside0.mk (Kd.R_lower (Kd.R_newB (Kd.R_new' ho112 (Kd.R_lt (uR HO1007.out))) (g := gb987) (o := .cells #[.int .i64 a4_0, .int .i64 a4_1, .int .i64 a4_2] 68 (0, 0)) (uK BK987.out)) (below_size uB))
               have n2_ := Aside0.mk (blk_below (uK BK986.out) hb)
               have n3_ := Aside0.mk (blk_below (uK BK987.out) hb)
               have n4_ := Aside0.mk (blk_below (uK BK998.out) hb)
               have n5_ := Aside0.mk (below_step uB hb)
               clear HO1007 BK986 BK987 BK998 HB
               have HO1007 := n0_
               have HO1010 := n1_
               have BK986 := n2_
               have BK987 := n3_
               have BK998 := n4_
               have HB := n5_
               clear n0_ n1_ n2_ n3_ n4_ n5_
               clear hb ho112
               refine hK.out _ _ ⟨(blk_cell BK987.out 0).trans rfl, (blk_cell BK987.out 1).trans rfl, (blk_cell BK987.out 2).trans rfl⟩ (fun hHeld => ?_)
               clear hK K
               refine nm ?_
               exact norm_ (by simp only [putAll, Act.put, List.setIfInBounds_toArray, List.set_cons_zero, List.set_cons_succ]) (hCont (v1006, v1009) _ ⟨hHeld, (by refine uR ?_; exact Kd.R_mono HO1007.out (fun _ hk => ⟨hk.2, hk.1⟩)), (by refine uR ?_; exact Kd.R_mono HO1010.out (fun _ hk => ⟨hk.1.2, hk.2⟩)), (uK BK986.out), (uK BK987.out), (uK BK998.out), uB⟩)
              ·skip
               refine Kd.R_lit_step k68 _ 68 ?hg (N := 151) ?hd (xs := ([(⟨a4_0, (⟨a4_1, a4_2⟩ : S30)⟩ : S68)] : List (S68))) (inner := [.int .i64 a4_0, .int .i64 a4_1, .int .i64 a4_2]) (ok := fun _ => True) (okp := fun _ => True) ?hr ?hp (fun _ hk => hk) trivial (Below.refl _ _) (Nat.le_refl _) (by simp) ?_; (case hd => rfl); (case hg => rfl); (case hr => first | (go_simp; done) | (go_simp; rfl)); (case hp => exact (Reps.c3 (show Kd.M k68 _ _ _ (⟨a4_0, (⟨a4_1, a4_2⟩ : S30)⟩ : S68) [.int .i64 a4_0, .int .i64 a4_1, .int .i64 a4_2] from (k68_mkM _ _ _ (⟨a4_0, (⟨a4_1, a4_2⟩ : S30)⟩ : S68) )) (Reps.none _ _)))
               intro v1009 w110 ho111 hb hg_ hnew_
               clear hg_ hnew_
               (first | rw [← Ny1008.out] at ho111 | (simp only [Int.reduceToNat] at ho111; rw [← Ny1008.out] at ho111))
               have HO1010 := Aside0.mk (Kd.R_lower (Kd.R_newB ho111 (g := gb987) (o := .cells #[.int .i64 a4_0, .int .i64 a4_1, .int .i64 a4_2] 68 (0, 0)) (uK BK987.out)) (below_size uB))
               replace BK986 := Aside0.mk (blk_below (uK BK986.out) hb)
               replace BK987 := Aside0.mk (blk_below (uK BK987.out) hb)
               replace BK998 := Aside0.mk (blk_below (uK BK998.out) hb)
               replace HB := Aside0.mk (below_step uB hb)
               clear hb ho111
               refine hK.out _ _ ⟨(blk_cell BK987.out 0).trans rfl, (blk_cell BK987.out 1).trans rfl, (blk_cell BK987.out 2).trans rfl⟩ (fun hHeld => ?_)
               clear hK K
               refine nm ?_
               refine one_ (i := 1) (N := some 149) (bl 6 15) rfl rfl (by kernel_rfl) (by decide) (fun K hK => ?_)
               refine Kd.R_append_rows_step k68 (w0 := w) w.heap.size rfl (.const (.slice none 0 0)) (.tmp 148) 62 68 (.agg #[(.int .i64 0), (.int .i64 0), (.int .i64 0)]) 24 rfl Tryz.underlying62 info68 rfl (by decide) (by omega) (.slice none 0 0) ([] : List (S68)) l2 _ _ _ (fun k_ => some k_ ≠ (v1009 : Value).ownBlock ∧ k_ ≠ gb987) (fun _ => False) rfl rfl ?aO ?aR (fun _ _ h => h) (fun _ h => h.elim) ?aF ?aB ?aS ?aL ?_
               (case aR => repeat (first | exact (Kd.C_below HR2.out HB.out) | (with_reducible refine Kd.C_alloc ?_ _) | (with_reducible refine Kd.C_drewN ?_ _) | (with_reducible refine Kd.C_drew ?_)))
               (case aB => exact uB)
               (case aF => exact (fun k_ hk => ⟨Kd.fresh' (Kd.R_lt (uR HO1010.out)) k_ hk, Kd.freshB (g := gb987) (o := .cells #[.int .i64 a4_0, .int .i64 a4_1, .int .i64 a4_2] 68 (0, 0)) (uK BK987.out) k_ hk⟩))
               (case aO => exact ((Kd.R_nil _ _ _ _ (fun k_ => some k_ ≠ (v1009 : Value).ownBlock ∧ k_ ≠ gb987))))
               (case aS => exact (below_size uB))
               (case aL => have := LMc106.out; omega)
               intro v1006 w112 ho hb hg hat
               rw [← Ny1005.out] at ho
               replace BK986 := Aside0.mk (blk_grown (uK BK986.out) hg (by simp [Value.ownBlock]))
               replace BK987 := Aside0.mk (blk_grown (uK BK987.out) hg (by simp [Value.ownBlock]))
               replace BK998 := Aside0.mk (blk_grown (uK BK998.out) hg (by simp [Value.ownBlock]))
               replace HO1010 := Aside0.mk (Kd.R_after (Kd.R_apart_nil (uR HO1010.out)) hg hat)
               have HO1007 := Aside0.mk (ho)
               replace HB := Aside0.mk (hb)
               clear ho hb hg hat
               refine hK.out _ _ ⟨(blk_cell BK987.out 0).trans rfl, (blk_cell BK987.out 1).trans rfl, (blk_cell BK987.out 2).trans rfl⟩ (fun hHeld => ?_)
               clear hK K
               refine nm ?_
               exact norm_ (by simp only [putAll, Act.put, List.setIfInBounds_toArray, List.set_cons_zero, List.set_cons_succ]) (hCont (v1006, v1009) _ ⟨hHeld, (uR HO1007.out), (by refine uR ?_; exact Kd.R_mono HO1010.out (fun _ hk => ⟨hk.2, hk.1.2⟩)), (uK BK986.out), (uK BK987.out), (uK BK998.out), uB⟩)
             rintro ⟨v1006, v1009⟩ w113 ⟨hS_, h0_, h1_, h2_, h3_, h4_, h5_⟩
             try dsimp only at h0_ h1_ h2_ h3_ h4_ h5_
             have n0_ := Aside0.mk h0_
             have n1_ := Aside0.mk h1_
             have n2_ := Aside0.mk h2_
             have n3_ := Aside0.mk h3_
             have n4_ := Aside0.mk h4_
             have n5_ := Aside0.mk h5_
             clear BK986 BK987 BK998 HB
             clear h0_ h1_ h2_ h3_ h4_ h5_
             have HO1007 := n0_
             have HO1010 := n1_
             have BK986 := n2_
             have BK987 := n3_
             have BK998 := n4_
             have HB := n5_
             clear n0_ n1_ n2_ n3_ n4_ n5_
             have hHeld : w113.cell? ⟨gb987, 0, none⟩ = some (.int .i64 a4_0) ∧ w113.cell? ⟨gb987, 1, none⟩ = some (.int .i64 a4_1) ∧ w113.cell? ⟨gb987, 2, none⟩ = some (.int .i64 a4_2) := hS_
             obtain ⟨Ao115, co115, eo115⟩ := Kd.R_slice HO1010.out
             (first | subst eo115 | (injection eo115 with f1_ f2_ f3_; have f4_ := f1_.symm; have f5_ := f3_.symm; clear f1_ f2_ f3_; subst f4_; subst f5_))
             refine nm ?_
             refine one_ (i := 4) (N := some 152) (bl 6 31) rfl rfl (by kernel_rfl) (by decide) (fun K hK => ?_)
             refine Kd.R_append_rows_step k68 (w0 := w) w.heap.size (by rfl) (.tmp 149) (.tmp 151) 62 68 (.agg #[(.int .i64 0), (.int .i64 0), (.int .i64 0)]) 24 rfl Tryz.underlying62 info68 rfl (by decide) (by omega) v1006 y1005 y1008 _ _ _ (fun k_ => some k_ ≠ (.slice Ao115 y1008.length co115 : Value).ownBlock ∧ k_ ≠ gb987) (fun _ => False) rfl rfl ?aO ?aR (fun _ _ h => h) (fun _ h => h.elim) ?aF ?aB ?aS ?aL ?_
             (case aR => repeat (first | exact (Kd.R_reads' HO1010.out).2.2 | (with_reducible refine Kd.C_alloc ?_ _) | (with_reducible refine Kd.C_drewN ?_ _) | (with_reducible refine Kd.C_drew ?_)))
             (case aB => exact uB)
             (case aF => exact (fun k_ hk => ⟨Kd.fresh' (Kd.R_lt (uR HO1010.out)) k_ hk, Kd.freshB (g := gb987) (o := .cells #[.int .i64 a4_0, .int .i64 a4_1, .int .i64 a4_2] 68 (0, 0)) (uK BK987.out) k_ hk⟩))
             (case aO => exact (uR HO1007.out))
             (case aS => exact (below_size uB))
             (case aL => have := LMc107.out; omega)
             intro v1012 w114 ho hb hg hat
             rw [← Ny1011.out] at ho
             replace BK986 := Aside0.mk (blk_grown (uK BK986.out) hg (Kd.R_ne HO1007.out BK986.out (by decide)))
             replace BK987 := Aside0.mk (blk_grown (uK BK987.out) hg (Kd.R_away HO1007.out (fun _ hk => hk.2)))
             replace BK998 := Aside0.mk (blk_grown (uK BK998.out) hg (Kd.R_ne HO1007.out BK998.out (by decide)))
             replace HO1010 := Aside0.mk (Kd.R_after (ok := (fun k_ => k_ ≠ gb987)) (by refine uR ?_; exact Kd.R_mono HO1010.out (fun _ hk => ⟨hk.2, hk.1⟩)) hg hat)
             have HO1013 := Aside0.mk (ho)
             replace HB := Aside0.mk (hb)
             clear HO1007
             clear ho hb hg hat
             refine hK.out _ _ ⟨(blk_cell BK987.out 0).trans rfl, (blk_cell BK987.out 1).trans rfl, (blk_cell BK987.out 2).trans rfl⟩ (fun hHeld => ?_)
             clear hK K
             refine nm ?_
             refine pu 5 14 6 63 ?_
             refine done_ (by kernel_rfl) ?_
             go_upto_region 10 with (fail)
             go_cut [163] (fun v163 wc => ∃ (kq : Nat) (x163_107 : Bool), v163 = .bool x163_107 ∧ Aside0 (quinarialaw02_ChannelProven.j2 kq a1 a3 y1011 x163_107 l0_0 l0_1 t995 t996 = some r) ∧ Aside0 (kq ≤ kj70) ∧ Aside0 (Kd.R k68 68 wc w.heap.size (fun k_ => k_ ≠ gb987) v1012 y1011) ∧ Aside0 (wc.heap[gb986]? = some (.cells #[(.slice A0_0 l0_0.length c0_0), (.slice A0_1 l0_1.length c0_1)] 25 (0, 0))) ∧ Aside0 (wc.heap[gb987]? = some (.cells #[.int .i64 a4_0, .int .i64 a4_1, .int .i64 a4_2] 68 (0, 0))) ∧ Aside0 (wc.heap[gb998]? = some (.cells #[.int .i64 t995, .int .i64 t996] 30 (0, 0))) ∧ Aside0 (Below w.heap.size w wc))
             case first =>
              as_aux_lemma =>
               have H := HC108.out
               clear HC108
               replace H := Option.bind_eq_some_iff.mp H
               obtain ⟨t1014, A1160, H⟩ := H
               replace H : (if t1014 = true then ((quinariaref02_Agrees.f kj70 l0_0 l0_1 a1 y1011 a3).bind fun t1015 => (quinarialaw02_ChannelProven.j2 kj70 a1 a3 y1011 (!t1015) l0_0 l0_1 t995 t996)) else (quinarialaw02_ChannelProven.j2 kj70 a1 a3 y1011 true l0_0 l0_1 t995 t996)) = some r := H
               have A116 := Aside0.mk A1160
               clear A1160
               by_cases c117 : t1014 = true
               ·subst c117
                have H1 : ((quinariaref02_Agrees.f kj70 l0_0 l0_1 a1 y1011 a3).bind fun t1015 => (quinarialaw02_ChannelProven.j2 kj70 a1 a3 y1011 (!t1015) l0_0 l0_1 t995 t996)) = some r := by rw [if_pos rfl] at H; exact H
                clear H
                have H := H1
                clear H1
                replace H := Option.bind_eq_some_iff.mp H
                obtain ⟨t1015, A1180, H⟩ := H
                replace H : (quinarialaw02_ChannelProven.j2 kj70 a1 a3 y1011 (!t1015) l0_0 l0_1 t995 t996) = some r := H
                have A118 := Aside0.mk A1180
                clear A1180
                have H' := Aside0.mk H
                clear H
                obtain ⟨Ao119, co119, eo119⟩ := Kd.R_slice HO1013.out
                subst eo119
                go_wp2_with (first | ((with_reducible refine gate_callee (f := 39) rfl ?_); refine goesL_ (some 154) rfl rfl Tryz.func39 (by kernel_rfl) rfl #[.slice Ao119 y1011.length co119] rfl uM ?_; (with_reducible refine (quinariaref02_Notes.calls kj70 _ _ y1011 true _ ?side1 ?side2 A116.out).mono ?_); (case side1 => repeat (first | exact (Kd.R_reads' HO1013.out).2.2 | (with_reducible refine Kd.C_alloc ?_ _) | (with_reducible refine Kd.C_drewN ?_ _) | (with_reducible refine Kd.C_drew ?_))); (case side2 => exact (Kd.R_reads' HO1013.out).2.1); rintro e w120 ⟨rfl, hb⟩; refine ⟨_, rfl, ?_⟩; replace HO1010 := Aside0.mk (Kd.R_below (uR HO1010.out) hb); replace HO1013 := Aside0.mk (Kd.R_below (uR HO1013.out) hb); replace BK986 := Aside0.mk (blk_below (uK BK986.out) hb); replace BK987 := Aside0.mk (blk_below (uK BK987.out) hb); replace BK998 := Aside0.mk (blk_below (uK BK998.out) hb); replace HB := Aside0.mk (below_step uB hb); (try clear hb); (try clear hb2); (try clear hk); (try clear hi); have hnb121 := NB986_987.out; have hnc121 := NB987_986.out; have hnb122 := NB986_998.out; have hnc122 := NB998_986.out; obtain ⟨hcz123_0, hcz123_1⟩ := cz2 BK986.out; obtain ⟨hfz123_0, hfz123_1⟩ := fz2 BK986.out) | (go_at_call 41; (with_reducible refine (quinariaref02_Agrees.calls kj70 _ _ l0_0 _ _ l0_1 a1 _ _ y1011 a3 t1015 _ ?side1 ?side2 ?side3 ?side4 ?side5 ?side6 A118.out).mono ?_); (case side1 => repeat (first | exact (Kd.C_below HR0_0.out HB.out) | (with_reducible refine Kd.C_alloc ?_ _) | (with_reducible refine Kd.C_drewN ?_ _) | (with_reducible refine Kd.C_drew ?_))); (case side2 => exact HC0_0.out); (case side3 => repeat (first | exact (Kd.C_below HR0_1.out HB.out) | (with_reducible refine Kd.C_alloc ?_ _) | (with_reducible refine Kd.C_drewN ?_ _) | (with_reducible refine Kd.C_drew ?_))); (case side4 => exact HC0_1.out); (case side5 => repeat (first | exact (Kd.R_reads' HO1013.out).2.2 | (with_reducible refine Kd.C_alloc ?_ _) | (with_reducible refine Kd.C_drewN ?_ _) | (with_reducible refine Kd.C_drew ?_))); (case side6 => exact (Kd.R_reads' HO1013.out).2.1); rintro e w124 ⟨rfl, hb⟩; replace HO1010 := Aside0.mk (Kd.R_below (uR HO1010.out) hb); replace HO1013 := Aside0.mk (Kd.R_below (uR HO1013.out) hb); replace BK986 := Aside0.mk (blk_below (uK BK986.out) hb); replace BK987 := Aside0.mk (blk_below (uK BK987.out) hb); replace BK998 := Aside0.mk (blk_below (uK BK998.out) hb); replace HB := Aside0.mk (below_step uB hb); (try clear hb); (try clear hb2); (try clear hk); (try clear hi)))
                go_meet
                case rel => exact ⟨_, (!t1015), u0, H', ⟨by have := HJ5.out; have := HJ70.out; first | omega | exact Nat.le_refl _⟩, ⟨by refine uR ?_; exact Kd.R_mono HO1013.out (fun _ hk => hk.2)⟩, ⟨uK BK986.out⟩, ⟨uK BK987.out⟩, ⟨uK BK998.out⟩, ⟨uB⟩⟩
               ·replace c117 := Bool.eq_false_iff.mpr c117
                subst c117
                have H1 : (quinarialaw02_ChannelProven.j2 kj70 a1 a3 y1011 true l0_0 l0_1 t995 t996) = some r := by rw [if_neg (show ¬ (false = true) by decide)] at H; exact H
                clear H
                have H := H1
                clear H1
                have H' := Aside0.mk H
                clear H
                obtain ⟨Ao125, co125, eo125⟩ := Kd.R_slice HO1013.out
                subst eo125
                go_wp2_with (first | ((with_reducible refine gate_callee (f := 39) rfl ?_); refine goesL_ (some 154) rfl rfl Tryz.func39 (by kernel_rfl) rfl #[.slice Ao125 y1011.length co125] rfl uM ?_; (with_reducible refine (quinariaref02_Notes.calls kj70 _ _ y1011 false _ ?side1 ?side2 A116.out).mono ?_); (case side1 => repeat (first | exact (Kd.R_reads' HO1013.out).2.2 | (with_reducible refine Kd.C_alloc ?_ _) | (with_reducible refine Kd.C_drewN ?_ _) | (with_reducible refine Kd.C_drew ?_))); (case side2 => exact (Kd.R_reads' HO1013.out).2.1); rintro e w126 ⟨rfl, hb⟩; refine ⟨_, rfl, ?_⟩; replace HO1010 := Aside0.mk (Kd.R_below (uR HO1010.out) hb); replace HO1013 := Aside0.mk (Kd.R_below (uR HO1013.out) hb); replace BK986 := Aside0.mk (blk_below (uK BK986.out) hb); replace BK987 := Aside0.mk (blk_below (uK BK987.out) hb); replace BK998 := Aside0.mk (blk_below (uK BK998.out) hb); replace HB := Aside0.mk (below_step uB hb); (try clear hb); (try clear hb2); (try clear hk); (try clear hi)))
                go_meet
                case rel => exact ⟨_, (true), u0, H', ⟨by have := HJ5.out; have := HJ70.out; first | omega | exact Nat.le_refl _⟩, ⟨by refine uR ?_; exact Kd.R_mono HO1013.out (fun _ hk => hk.2)⟩, ⟨uK BK986.out⟩, ⟨uK BK987.out⟩, ⟨uK BK998.out⟩, ⟨uB⟩⟩
             case rest =>
              as_aux_lemma =>
               clear HC108; try clear c1; try clear p1; try clear q1; try clear hx1; try clear c2; try clear p2; try clear c3; try clear c4; try clear c8; try clear c9; try clear c10; try clear p10; try clear q10; try clear hx10; try clear c11; try clear c12; try clear c39; try clear c41; try clear c81; try clear c82; try clear c90; try clear p100; try clear q100; try clear hx100; try clear c105; try clear c106; try clear c107; try clear c117; try clear c121; try clear c122; try clear hcz123_0; try clear hcz123_1; try clear hfz123_0; try clear hfz123_1; try clear hx1001_0; try clear hx1001_1; try clear hx1001_2; try clear hx1001_3; try clear hx1001_4; try clear hx1002_0; try clear hx1002_1; try clear hx1002_2; try clear hx1002_3; try clear hx1002_4; try clear p1; try clear p10; try clear p100; try clear p1001; try clear p1002; try clear p2; try clear q1; try clear q10; try clear q100; try clear q1001; try clear q1002
               obtain ⟨kq, x163_107, rfl, HA, HJ107, HO_14, BK986, BK987, BK998, HB⟩ := hcut
               cases kq with
               | zero => exact absurd HA.out (by simp [quinarialaw02_ChannelProven.j2])
               | succ kj107 =>
                have H := HA.out
                clear HA
                simp only [quinarialaw02_ChannelProven.j2] at H
                by_cases c127 : x163_107 = true
                ·subst c127
                 have H1 : ((quinarialaw02_known.f kj107).bind fun t1016 => (some t1016)) = some r := by rw [if_pos rfl] at H; exact H
                 clear H
                 have H := H1
                 clear H1
                 replace H := Option.bind_eq_some_iff.mp H
                 obtain ⟨t1016, A1280, H⟩ := H
                 replace H : (some t1016) = some r := H
                 have A128 := Aside0.mk A1280
                 clear A1280
                 obtain rfl := Option.some.inj H
                 go_wp2_with (first | ((with_reducible refine gate_callee (f := 17) rfl ?_); refine goesL_ (some 164) rfl rfl Tryz.func17 (by kernel_rfl) rfl #[] rfl uM ?_; (with_reducible refine (quinarialaw02_known.calls kj107  t1016 _ ?sideT A128.out).mono ?_); (case sideT => exact HT.out.below uB); rintro e w129 ⟨rfl, hb⟩; refine ⟨_, rfl, ?_⟩; replace HO_14 := Aside0.mk (Kd.R_below (uR HO_14.out) hb); replace BK986 := Aside0.mk (blk_below (uK BK986.out) hb); replace BK987 := Aside0.mk (blk_below (uK BK987.out) hb); replace BK998 := Aside0.mk (blk_below (uK BK998.out) hb); replace HB := Aside0.mk (below_step uB hb); (try clear hb); (try clear hb2); (try clear hk); (try clear hi)))
                 go_ret
                 exact ⟨uE, uB⟩
                ·replace c127 := Bool.eq_false_iff.mpr c127
                 subst c127
                 have H1 : ((channel_Lime.f l0_0 l0_1 a1 y1011).bind fun bt1017 => (if bt1017.2.2 = 0 then (if bt1017.1 ≥ t995 then (if bt1017.2.1 ≤ t996 then (if a3 ≥ bt1017.1 then (if a3 ≤ bt1017.2.1 then ((quinarialaw02_known.f kj107).bind fun t1021 => (some t1021)) else (some false)) else (some false)) else (some false)) else (some false)) else (some false))) = some r := by rw [if_neg (show ¬ (false = true) by decide)] at H; exact H
                 clear H
                 have H := H1
                 clear H1
                 replace H := Option.bind_eq_some_iff.mp H
                 obtain ⟨⟨t1017, t1018, t1019⟩, A1300, H⟩ := H
                 replace H : (if t1019 = 0 then (if t1017 ≥ t995 then (if t1018 ≤ t996 then (if a3 ≥ t1017 then (if a3 ≤ t1018 then ((quinarialaw02_known.f kj107).bind fun t1021 => (some t1021)) else (some false)) else (some false)) else (some false)) else (some false)) else (some false)) = some r := H
                 have A130 := Aside0.mk A1300
                 clear A1300
                 by_cases c131 : t1019 = 0
                 ·rw [if_pos c131] at H
                  have c131b0 : (t1019 == 0) = true := beq_iff_eq.mpr c131
                  have c131b1 : (t1019 != 0) = false := bne_eq_false_iff_eq.mpr c131
                  clear c131
                  by_cases c132 : t1017 ≥ t995
                  ·rw [if_pos c132] at H
                   replace c132 := decide_eq_true c132
                   by_cases c133 : t1018 ≤ t996
                   ·rw [if_pos c133] at H
                    replace c133 := decide_eq_true c133
                    by_cases c134 : a3 ≥ t1017
                    ·rw [if_pos c134] at H
                     replace c134 := decide_eq_true c134
                     by_cases c135 : a3 ≤ t1018
                     ·rw [if_pos c135] at H
                      replace c135 := decide_eq_true c135
                      replace H := Option.bind_eq_some_iff.mp H
                      obtain ⟨t1021, A1360, H⟩ := H
                      replace H : (some t1021) = some r := H
                      have A136 := Aside0.mk A1360
                      clear A1360
                      obtain rfl := Option.some.inj H
                      have hnb137 := NB986_987.out
                      have hnc137 := NB987_986.out
                      have hnb138 := NB986_998.out
                      have hnc138 := NB998_986.out
                      obtain ⟨hcz139_0, hcz139_1⟩ := cz2 BK986.out
                      obtain ⟨hfz139_0, hfz139_1⟩ := fz2 BK986.out
                      obtain ⟨Ao140, co140, eo140⟩ := Kd.R_slice HO_14.out
                      subst eo140
                      go_wp2_with (first | ((with_reducible refine gate_callee (f := 38) rfl ?_); refine goesL_ (some 169) rfl rfl Tryz.func38 (by kernel_rfl) rfl #[.agg #[.slice A0_0 l0_0.length c0_0, .slice A0_1 l0_1.length c0_1], .int .i64 a1, .slice Ao140 y1011.length co140] rfl uM ?_; (with_reducible refine (channel_Lime.calls _ _ l0_0 _ _ l0_1 a1 _ _ y1011 t1017 t1018 t1019 _ ?side1 ?side2 ?side3 ?side4 ?side5 ?side6 A130.out).mono ?_); (case side1 => repeat (first | exact (Kd.C_below HR0_0.out HB.out) | (with_reducible refine Kd.C_alloc ?_ _) | (with_reducible refine Kd.C_drewN ?_ _) | (with_reducible refine Kd.C_drew ?_))); (case side2 => exact HC0_0.out); (case side3 => repeat (first | exact (Kd.C_below HR0_1.out HB.out) | (with_reducible refine Kd.C_alloc ?_ _) | (with_reducible refine Kd.C_drewN ?_ _) | (with_reducible refine Kd.C_drew ?_))); (case side4 => exact HC0_1.out); (case side5 => repeat (first | exact (Kd.R_reads' HO_14.out).2.2 | (with_reducible refine Kd.C_alloc ?_ _) | (with_reducible refine Kd.C_drewN ?_ _) | (with_reducible refine Kd.C_drew ?_))); (case side6 => exact (Kd.R_reads' HO_14.out).2.1); rintro e w141 ⟨rfl, hb⟩; refine ⟨_, rfl, ?_⟩; replace HO_14 := Aside0.mk (Kd.R_below (uR HO_14.out) hb); replace BK986 := Aside0.mk (blk_below (uK BK986.out) hb); replace BK987 := Aside0.mk (blk_below (uK BK987.out) hb); replace BK998 := Aside0.mk (blk_below (uK BK998.out) hb); replace HB := Aside0.mk (below_step uB hb); (try clear hb); (try clear hb2); (try clear hk); (try clear hi)) | ((with_reducible refine gate_dst (N := 15) rfl ?_); (try (refine gate_guard (by rfl) ?_; dsimp only)); refine bxe 15 #[.int .i64 0, .int .i64 0] 30 ?_; intro gb1020 hg w142 hbox hb; have n0_ := Aside0.mk (Kd.R_below (uR HO_14.out) hb); have n1_ := Aside0.mk (blk_below (uK BK986.out) hb); have n2_ := Aside0.mk (blk_below (uK BK987.out) hb); have n3_ := Aside0.mk (blk_below (uK BK998.out) hb); have n4_ := Aside0.mk (below_step uB hb); have n5_ := Aside0.mk (hbox); have n6_ := gw hg; have n7_ := gw hg; have n8_ := nb BK986 hg; have n9_ := nc BK986 hg; have n10_ := nb BK987 hg; have n11_ := nc BK987 hg; have n12_ := nb BK998 hg; have n13_ := nc BK998 hg; clear HO_14; clear BK986; clear BK987; clear BK998; clear HB; have HO_14 := n0_; have BK986 := n1_; have BK987 := n2_; have BK998 := n3_; have HB := n4_; have BK1020 := n5_; have GW1020 := n6_; have GE1020 := n7_; have NB986_1020 := n8_; have NB1020_986 := n9_; have NB987_1020 := n10_; have NB1020_987 := n11_; have NB998_1020 := n12_; have NB1020_998 := n13_; clear n0_ n1_ n2_ n3_ n4_ n5_ n6_ n7_ n8_ n9_ n10_ n11_ n12_ n13_; clear hb hbox hg; have hnb143 := NB1020_986.out; have hnc143 := NB986_1020.out; have hnb144 := NB1020_987.out; have hnc144 := NB987_1020.out; have hnb145 := NB1020_998.out; have hnc145 := NB998_1020.out; obtain ⟨hcz146_0, hcz146_1⟩ := cz2 BK1020.out; obtain ⟨hfz146_0, hfz146_1⟩ := fz2 BK1020.out; have hnb147 := NB998_987.out; have hnc147 := NB987_998.out; obtain ⟨hcz148_0, hcz148_1⟩ := cz2 BK998.out; obtain ⟨hfz148_0, hfz148_1⟩ := fz2 BK998.out) | (go_at_call 17; (with_reducible refine (quinarialaw02_known.calls kj107  t1021 _ ?sideT A136.out).mono ?_); (case sideT => exact HT.out.below uB); rintro e w149 ⟨rfl, hb⟩; replace HO_14 := Aside0.mk (Kd.R_below (by refine uR ?_; exact (Kd.R_mono (Kd.R_far (p := ⟨gb1020, 1, none⟩) (Kd.R_far (p := ⟨gb1020, 0, none⟩) (Kd.R_types HO_14.out BK1020.out (by decide)) (fun _ hk => hk.2) (.int .i64 t1017)) (fun _ hk => hk.2) (.int .i64 t1018)) (fun _ h_ => h_.1))) hb); replace BK986 := Aside0.mk (blk_below (g := gb986) (o := .cells #[.slice A0_0 l0_0.length c0_0, .slice A0_1 l0_1.length c0_1] 25 (0, 0)) (by refine uK ?_; refine blk_far ?_ NB986_1020.out _; refine uK ?_; refine blk_far ?_ NB986_1020.out _; refine uK ?_; exact BK986.out) hb); replace BK987 := Aside0.mk (blk_below (g := gb987) (o := .cells #[.int .i64 a4_0, .int .i64 a4_1, .int .i64 a4_2] 68 (0, 0)) (by refine uK ?_; refine blk_far ?_ NB987_1020.out _; refine uK ?_; refine blk_far ?_ NB987_1020.out _; refine uK ?_; exact BK987.out) hb); replace BK998 := Aside0.mk (blk_below (g := gb998) (o := .cells #[.int .i64 t995, .int .i64 t996] 30 (0, 0)) (by refine uK ?_; refine blk_far ?_ NB998_1020.out _; refine uK ?_; refine blk_far ?_ NB998_1020.out _; refine uK ?_; exact BK998.out) hb); replace BK1020 := Aside0.mk (blk_below (g := gb1020) (o := .cells #[.int .i64 t1017, .int .i64 t1018] 30 (0, 0)) (by refine uK ?_; refine blk_put (cs := #[.int .i64 t1017, .int .i64 0]) ?_ 1 _ rfl; refine uK ?_; refine blk_put (cs := #[.int .i64 0, .int .i64 0]) ?_ 0 _ rfl; refine uK ?_; exact BK1020.out) hb); replace HB := Aside0.mk (below_step uB hb); (try clear hb); (try clear hb2); (try clear hk); (try clear hi)))
                      go_ret
                      exact ⟨uE, uB⟩
                     ·rw [if_neg c135] at H
                      replace c135 := decide_eq_false c135
                      obtain rfl := Option.some.inj H
                      have hnb150 := NB986_987.out
                      have hnc150 := NB987_986.out
                      have hnb151 := NB986_998.out
                      have hnc151 := NB998_986.out
                      obtain ⟨hcz152_0, hcz152_1⟩ := cz2 BK986.out
                      obtain ⟨hfz152_0, hfz152_1⟩ := fz2 BK986.out
                      obtain ⟨Ao153, co153, eo153⟩ := Kd.R_slice HO_14.out
                      subst eo153
                      go_wp2_with (first | ((with_reducible refine gate_callee (f := 38) rfl ?_); refine goesL_ (some 169) rfl rfl Tryz.func38 (by kernel_rfl) rfl #[.agg #[.slice A0_0 l0_0.length c0_0, .slice A0_1 l0_1.length c0_1], .int .i64 a1, .slice Ao153 y1011.length co153] rfl uM ?_; (with_reducible refine (channel_Lime.calls _ _ l0_0 _ _ l0_1 a1 _ _ y1011 t1017 t1018 t1019 _ ?side1 ?side2 ?side3 ?side4 ?side5 ?side6 A130.out).mono ?_); (case side1 => repeat (first | exact (Kd.C_below HR0_0.out HB.out) | (with_reducible refine Kd.C_alloc ?_ _) | (with_reducible refine Kd.C_drewN ?_ _) | (with_reducible refine Kd.C_drew ?_))); (case side2 => exact HC0_0.out); (case side3 => repeat (first | exact (Kd.C_below HR0_1.out HB.out) | (with_reducible refine Kd.C_alloc ?_ _) | (with_reducible refine Kd.C_drewN ?_ _) | (with_reducible refine Kd.C_drew ?_))); (case side4 => exact HC0_1.out); (case side5 => repeat (first | exact (Kd.R_reads' HO_14.out).2.2 | (with_reducible refine Kd.C_alloc ?_ _) | (with_reducible refine Kd.C_drewN ?_ _) | (with_reducible refine Kd.C_drew ?_))); (case side6 => exact (Kd.R_reads' HO_14.out).2.1); rintro e w154 ⟨rfl, hb⟩; refine ⟨_, rfl, ?_⟩; replace HO_14 := Aside0.mk (Kd.R_below (uR HO_14.out) hb); replace BK986 := Aside0.mk (blk_below (uK BK986.out) hb); replace BK987 := Aside0.mk (blk_below (uK BK987.out) hb); replace BK998 := Aside0.mk (blk_below (uK BK998.out) hb); replace HB := Aside0.mk (below_step uB hb); (try clear hb); (try clear hb2); (try clear hk); (try clear hi)) | ((with_reducible refine gate_dst (N := 15) rfl ?_); (try (refine gate_guard (by rfl) ?_; dsimp only)); refine bxe 15 #[.int .i64 0, .int .i64 0] 30 ?_; intro gb1020 hg w155 hbox hb; have n0_ := Aside0.mk (Kd.R_below (uR HO_14.out) hb); have n1_ := Aside0.mk (blk_below (uK BK986.out) hb); have n2_ := Aside0.mk (blk_below (uK BK987.out) hb); have n3_ := Aside0.mk (blk_below (uK BK998.out) hb); have n4_ := Aside0.mk (below_step uB hb); have n5_ := Aside0.mk (hbox); have n6_ := gw hg; have n7_ := gw hg; have n8_ := nb BK986 hg; have n9_ := nc BK986 hg; have n10_ := nb BK987 hg; have n11_ := nc BK987 hg; have n12_ := nb BK998 hg; have n13_ := nc BK998 hg; clear HO_14; clear BK986; clear BK987; clear BK998; clear HB; have HO_14 := n0_; have BK986 := n1_; have BK987 := n2_; have BK998 := n3_; have HB := n4_; have BK1020 := n5_; have GW1020 := n6_; have GE1020 := n7_; have NB986_1020 := n8_; have NB1020_986 := n9_; have NB987_1020 := n10_; have NB1020_987 := n11_; have NB998_1020 := n12_; have NB1020_998 := n13_; clear n0_ n1_ n2_ n3_ n4_ n5_ n6_ n7_ n8_ n9_ n10_ n11_ n12_ n13_; clear hb hbox hg; have hnb156 := NB1020_986.out; have hnc156 := NB986_1020.out; have hnb157 := NB1020_987.out; have hnc157 := NB987_1020.out; have hnb158 := NB1020_998.out; have hnc158 := NB998_1020.out; obtain ⟨hcz159_0, hcz159_1⟩ := cz2 BK1020.out; obtain ⟨hfz159_0, hfz159_1⟩ := fz2 BK1020.out; have hnb160 := NB998_987.out; have hnc160 := NB987_998.out; obtain ⟨hcz161_0, hcz161_1⟩ := cz2 BK998.out; obtain ⟨hfz161_0, hfz161_1⟩ := fz2 BK998.out))
                      go_ret
                      exact ⟨uE, uB⟩
                    ·rw [if_neg c134] at H
                     replace c134 := decide_eq_false c134
                     obtain rfl := Option.some.inj H
                     have hnb162 := NB986_987.out
                     have hnc162 := NB987_986.out
                     have hnb163 := NB986_998.out
                     have hnc163 := NB998_986.out
                     obtain ⟨hcz164_0, hcz164_1⟩ := cz2 BK986.out
                     obtain ⟨hfz164_0, hfz164_1⟩ := fz2 BK986.out
                     obtain ⟨Ao165, co165, eo165⟩ := Kd.R_slice HO_14.out
                     subst eo165
                     go_wp2_with (first | ((with_reducible refine gate_callee (f := 38) rfl ?_); refine goesL_ (some 169) rfl rfl Tryz.func38 (by kernel_rfl) rfl #[.agg #[.slice A0_0 l0_0.length c0_0, .slice A0_1 l0_1.length c0_1], .int .i64 a1, .slice Ao165 y1011.length co165] rfl uM ?_; (with_reducible refine (channel_Lime.calls _ _ l0_0 _ _ l0_1 a1 _ _ y1011 t1017 t1018 t1019 _ ?side1 ?side2 ?side3 ?side4 ?side5 ?side6 A130.out).mono ?_); (case side1 => repeat (first | exact (Kd.C_below HR0_0.out HB.out) | (with_reducible refine Kd.C_alloc ?_ _) | (with_reducible refine Kd.C_drewN ?_ _) | (with_reducible refine Kd.C_drew ?_))); (case side2 => exact HC0_0.out); (case side3 => repeat (first | exact (Kd.C_below HR0_1.out HB.out) | (with_reducible refine Kd.C_alloc ?_ _) | (with_reducible refine Kd.C_drewN ?_ _) | (with_reducible refine Kd.C_drew ?_))); (case side4 => exact HC0_1.out); (case side5 => repeat (first | exact (Kd.R_reads' HO_14.out).2.2 | (with_reducible refine Kd.C_alloc ?_ _) | (with_reducible refine Kd.C_drewN ?_ _) | (with_reducible refine Kd.C_drew ?_))); (case side6 => exact (Kd.R_reads' HO_14.out).2.1); rintro e w166 ⟨rfl, hb⟩; refine ⟨_, rfl, ?_⟩; replace HO_14 := Aside0.mk (Kd.R_below (uR HO_14.out) hb); replace BK986 := Aside0.mk (blk_below (uK BK986.out) hb); replace BK987 := Aside0.mk (blk_below (uK BK987.out) hb); replace BK998 := Aside0.mk (blk_below (uK BK998.out) hb); replace HB := Aside0.mk (below_step uB hb); (try clear hb); (try clear hb2); (try clear hk); (try clear hi)) | ((with_reducible refine gate_dst (N := 15) rfl ?_); (try (refine gate_guard (by rfl) ?_; dsimp only)); refine bxe 15 #[.int .i64 0, .int .i64 0] 30 ?_; intro gb1020 hg w167 hbox hb; have n0_ := Aside0.mk (Kd.R_below (uR HO_14.out) hb); have n1_ := Aside0.mk (blk_below (uK BK986.out) hb); have n2_ := Aside0.mk (blk_below (uK BK987.out) hb); have n3_ := Aside0.mk (blk_below (uK BK998.out) hb); have n4_ := Aside0.mk (below_step uB hb); have n5_ := Aside0.mk (hbox); have n6_ := gw hg; have n7_ := gw hg; have n8_ := nb BK986 hg; have n9_ := nc BK986 hg; have n10_ := nb BK987 hg; have n11_ := nc BK987 hg; have n12_ := nb BK998 hg; have n13_ := nc BK998 hg; clear HO_14; clear BK986; clear BK987; clear BK998; clear HB; have HO_14 := n0_; have BK986 := n1_; have BK987 := n2_; have BK998 := n3_; have HB := n4_; have BK1020 := n5_; have GW1020 := n6_; have GE1020 := n7_; have NB986_1020 := n8_; have NB1020_986 := n9_; have NB987_1020 := n10_; have NB1020_987 := n11_; have NB998_1020 := n12_; have NB1020_998 := n13_; clear n0_ n1_ n2_ n3_ n4_ n5_ n6_ n7_ n8_ n9_ n10_ n11_ n12_ n13_; clear hb hbox hg; have hnb168 := NB1020_986.out; have hnc168 := NB986_1020.out; have hnb169 := NB1020_987.out; have hnc169 := NB987_1020.out; have hnb170 := NB1020_998.out; have hnc170 := NB998_1020.out; obtain ⟨hcz171_0, hcz171_1⟩ := cz2 BK1020.out; obtain ⟨hfz171_0, hfz171_1⟩ := fz2 BK1020.out; have hnb172 := NB998_987.out; have hnc172 := NB987_998.out; obtain ⟨hcz173_0, hcz173_1⟩ := cz2 BK998.out; obtain ⟨hfz173_0, hfz173_1⟩ := fz2 BK998.out))
                     go_ret
                     exact ⟨uE, uB⟩
                   ·rw [if_neg c133] at H
                    replace c133 := decide_eq_false c133
                    obtain rfl := Option.some.inj H
                    have hnb174 := NB986_987.out
                    have hnc174 := NB987_986.out
                    have hnb175 := NB986_998.out
                    have hnc175 := NB998_986.out
                    obtain ⟨hcz176_0, hcz176_1⟩ := cz2 BK986.out
                    obtain ⟨hfz176_0, hfz176_1⟩ := fz2 BK986.out
                    obtain ⟨Ao177, co177, eo177⟩ := Kd.R_slice HO_14.out
                    subst eo177
                    go_wp2_with (first | ((with_reducible refine gate_callee (f := 38) rfl ?_); refine goesL_ (some 169) rfl rfl Tryz.func38 (by kernel_rfl) rfl #[.agg #[.slice A0_0 l0_0.length c0_0, .slice A0_1 l0_1.length c0_1], .int .i64 a1, .slice Ao177 y1011.length co177] rfl uM ?_; (with_reducible refine (channel_Lime.calls _ _ l0_0 _ _ l0_1 a1 _ _ y1011 t1017 t1018 t1019 _ ?side1 ?side2 ?side3 ?side4 ?side5 ?side6 A130.out).mono ?_); (case side1 => repeat (first | exact (Kd.C_below HR0_0.out HB.out) | (with_reducible refine Kd.C_alloc ?_ _) | (with_reducible refine Kd.C_drewN ?_ _) | (with_reducible refine Kd.C_drew ?_))); (case side2 => exact HC0_0.out); (case side3 => repeat (first | exact (Kd.C_below HR0_1.out HB.out) | (with_reducible refine Kd.C_alloc ?_ _) | (with_reducible refine Kd.C_drewN ?_ _) | (with_reducible refine Kd.C_drew ?_))); (case side4 => exact HC0_1.out); (case side5 => repeat (first | exact (Kd.R_reads' HO_14.out).2.2 | (with_reducible refine Kd.C_alloc ?_ _) | (with_reducible refine Kd.C_drewN ?_ _) | (with_reducible refine Kd.C_drew ?_))); (case side6 => exact (Kd.R_reads' HO_14.out).2.1); rintro e w178 ⟨rfl, hb⟩; refine ⟨_, rfl, ?_⟩; replace HO_14 := Aside0.mk (Kd.R_below (uR HO_14.out) hb); replace BK986 := Aside0.mk (blk_below (uK BK986.out) hb); replace BK987 := Aside0.mk (blk_below (uK BK987.out) hb); replace BK998 := Aside0.mk (blk_below (uK BK998.out) hb); replace HB := Aside0.mk (below_step uB hb); (try clear hb); (try clear hb2); (try clear hk); (try clear hi)) | ((with_reducible refine gate_dst (N := 15) rfl ?_); (try (refine gate_guard (by rfl) ?_; dsimp only)); refine bxe 15 #[.int .i64 0, .int .i64 0] 30 ?_; intro gb1020 hg w179 hbox hb; have n0_ := Aside0.mk (Kd.R_below (uR HO_14.out) hb); have n1_ := Aside0.mk (blk_below (uK BK986.out) hb); have n2_ := Aside0.mk (blk_below (uK BK987.out) hb); have n3_ := Aside0.mk (blk_below (uK BK998.out) hb); have n4_ := Aside0.mk (below_step uB hb); have n5_ := Aside0.mk (hbox); have n6_ := gw hg; have n7_ := gw hg; have n8_ := nb BK986 hg; have n9_ := nc BK986 hg; have n10_ := nb BK987 hg; have n11_ := nc BK987 hg; have n12_ := nb BK998 hg; have n13_ := nc BK998 hg; clear HO_14; clear BK986; clear BK987; clear BK998; clear HB; have HO_14 := n0_; have BK986 := n1_; have BK987 := n2_; have BK998 := n3_; have HB := n4_; have BK1020 := n5_; have GW1020 := n6_; have GE1020 := n7_; have NB986_1020 := n8_; have NB1020_986 := n9_; have NB987_1020 := n10_; have NB1020_987 := n11_; have NB998_1020 := n12_; have NB1020_998 := n13_; clear n0_ n1_ n2_ n3_ n4_ n5_ n6_ n7_ n8_ n9_ n10_ n11_ n12_ n13_; clear hb hbox hg; have hnb180 := NB1020_986.out; have hnc180 := NB986_1020.out; have hnb181 := NB1020_987.out; have hnc181 := NB987_1020.out; have hnb182 := NB1020_998.out; have hnc182 := NB998_1020.out; obtain ⟨hcz183_0, hcz183_1⟩ := cz2 BK1020.out; obtain ⟨hfz183_0, hfz183_1⟩ := fz2 BK1020.out; have hnb184 := NB998_987.out; have hnc184 := NB987_998.out; obtain ⟨hcz185_0, hcz185_1⟩ := cz2 BK998.out; obtain ⟨hfz185_0, hfz185_1⟩ := fz2 BK998.out))
                    go_ret
                    exact ⟨uE, uB⟩
                  ·rw [if_neg c132] at H
                   replace c132 := decide_eq_false c132
                   obtain rfl := Option.some.inj H
                   have hnb186 := NB986_987.out
                   have hnc186 := NB987_986.out
                   have hnb187 := NB986_998.out
                   have hnc187 := NB998_986.out
                   obtain ⟨hcz188_0, hcz188_1⟩ := cz2 BK986.out
                   obtain ⟨hfz188_0, hfz188_1⟩ := fz2 BK986.out
                   obtain ⟨Ao189, co189, eo189⟩ := Kd.R_slice HO_14.out
                   subst eo189
                   go_wp2_with (first | ((with_reducible refine gate_callee (f := 38) rfl ?_); refine goesL_ (some 169) rfl rfl Tryz.func38 (by kernel_rfl) rfl #[.agg #[.slice A0_0 l0_0.length c0_0, .slice A0_1 l0_1.length c0_1], .int .i64 a1, .slice Ao189 y1011.length co189] rfl uM ?_; (with_reducible refine (channel_Lime.calls _ _ l0_0 _ _ l0_1 a1 _ _ y1011 t1017 t1018 t1019 _ ?side1 ?side2 ?side3 ?side4 ?side5 ?side6 A130.out).mono ?_); (case side1 => repeat (first | exact (Kd.C_below HR0_0.out HB.out) | (with_reducible refine Kd.C_alloc ?_ _) | (with_reducible refine Kd.C_drewN ?_ _) | (with_reducible refine Kd.C_drew ?_))); (case side2 => exact HC0_0.out); (case side3 => repeat (first | exact (Kd.C_below HR0_1.out HB.out) | (with_reducible refine Kd.C_alloc ?_ _) | (with_reducible refine Kd.C_drewN ?_ _) | (with_reducible refine Kd.C_drew ?_))); (case side4 => exact HC0_1.out); (case side5 => repeat (first | exact (Kd.R_reads' HO_14.out).2.2 | (with_reducible refine Kd.C_alloc ?_ _) | (with_reducible refine Kd.C_drewN ?_ _) | (with_reducible refine Kd.C_drew ?_))); (case side6 => exact (Kd.R_reads' HO_14.out).2.1); rintro e w190 ⟨rfl, hb⟩; refine ⟨_, rfl, ?_⟩; replace HO_14 := Aside0.mk (Kd.R_below (uR HO_14.out) hb); replace BK986 := Aside0.mk (blk_below (uK BK986.out) hb); replace BK987 := Aside0.mk (blk_below (uK BK987.out) hb); replace BK998 := Aside0.mk (blk_below (uK BK998.out) hb); replace HB := Aside0.mk (below_step uB hb); (try clear hb); (try clear hb2); (try clear hk); (try clear hi)) | ((with_reducible refine gate_dst (N := 15) rfl ?_); (try (refine gate_guard (by rfl) ?_; dsimp only)); refine bxe 15 #[.int .i64 0, .int .i64 0] 30 ?_; intro gb1020 hg w191 hbox hb; have n0_ := Aside0.mk (Kd.R_below (uR HO_14.out) hb); have n1_ := Aside0.mk (blk_below (uK BK986.out) hb); have n2_ := Aside0.mk (blk_below (uK BK987.out) hb); have n3_ := Aside0.mk (blk_below (uK BK998.out) hb); have n4_ := Aside0.mk (below_step uB hb); have n5_ := Aside0.mk (hbox); have n6_ := gw hg; have n7_ := gw hg; have n8_ := nb BK986 hg; have n9_ := nc BK986 hg; have n10_ := nb BK987 hg; have n11_ := nc BK987 hg; have n12_ := nb BK998 hg; have n13_ := nc BK998 hg; clear HO_14; clear BK986; clear BK987; clear BK998; clear HB; have HO_14 := n0_; have BK986 := n1_; have BK987 := n2_; have BK998 := n3_; have HB := n4_; have BK1020 := n5_; have GW1020 := n6_; have GE1020 := n7_; have NB986_1020 := n8_; have NB1020_986 := n9_; have NB987_1020 := n10_; have NB1020_987 := n11_; have NB998_1020 := n12_; have NB1020_998 := n13_; clear n0_ n1_ n2_ n3_ n4_ n5_ n6_ n7_ n8_ n9_ n10_ n11_ n12_ n13_; clear hb hbox hg; have hnb192 := NB1020_986.out; have hnc192 := NB986_1020.out; have hnb193 := NB1020_987.out; have hnc193 := NB987_1020.out; have hnb194 := NB1020_998.out; have hnc194 := NB998_1020.out; obtain ⟨hcz195_0, hcz195_1⟩ := cz2 BK1020.out; obtain ⟨hfz195_0, hfz195_1⟩ := fz2 BK1020.out; have hnb196 := NB998_987.out; have hnc196 := NB987_998.out; obtain ⟨hcz197_0, hcz197_1⟩ := cz2 BK998.out; obtain ⟨hfz197_0, hfz197_1⟩ := fz2 BK998.out))
                   go_ret
                   exact ⟨uE, uB⟩
                 ·rw [if_neg c131] at H
                  have c131b0 : (t1019 == 0) = false := beq_eq_false_iff_ne.mpr c131
                  have c131b1 : (t1019 != 0) = true := bne_iff_ne.mpr c131
                  obtain rfl := Option.some.inj H
                  have hnb198 := NB986_987.out
                  have hnc198 := NB987_986.out
                  have hnb199 := NB986_998.out
                  have hnc199 := NB998_986.out
                  obtain ⟨hcz200_0, hcz200_1⟩ := cz2 BK986.out
                  obtain ⟨hfz200_0, hfz200_1⟩ := fz2 BK986.out
                  obtain ⟨Ao201, co201, eo201⟩ := Kd.R_slice HO_14.out
                  subst eo201
                  go_wp2_with (first | ((with_reducible refine gate_callee (f := 38) rfl ?_); refine goesL_ (some 169) rfl rfl Tryz.func38 (by kernel_rfl) rfl #[.agg #[.slice A0_0 l0_0.length c0_0, .slice A0_1 l0_1.length c0_1], .int .i64 a1, .slice Ao201 y1011.length co201] rfl uM ?_; (with_reducible refine (channel_Lime.calls _ _ l0_0 _ _ l0_1 a1 _ _ y1011 t1017 t1018 t1019 _ ?side1 ?side2 ?side3 ?side4 ?side5 ?side6 A130.out).mono ?_); (case side1 => repeat (first | exact (Kd.C_below HR0_0.out HB.out) | (with_reducible refine Kd.C_alloc ?_ _) | (with_reducible refine Kd.C_drewN ?_ _) | (with_reducible refine Kd.C_drew ?_))); (case side2 => exact HC0_0.out); (case side3 => repeat (first | exact (Kd.C_below HR0_1.out HB.out) | (with_reducible refine Kd.C_alloc ?_ _) | (with_reducible refine Kd.C_drewN ?_ _) | (with_reducible refine Kd.C_drew ?_))); (case side4 => exact HC0_1.out); (case side5 => repeat (first | exact (Kd.R_reads' HO_14.out).2.2 | (with_reducible refine Kd.C_alloc ?_ _) | (with_reducible refine Kd.C_drewN ?_ _) | (with_reducible refine Kd.C_drew ?_))); (case side6 => exact (Kd.R_reads' HO_14.out).2.1); rintro e w202 ⟨rfl, hb⟩; refine ⟨_, rfl, ?_⟩; replace HO_14 := Aside0.mk (Kd.R_below (uR HO_14.out) hb); replace BK986 := Aside0.mk (blk_below (uK BK986.out) hb); replace BK987 := Aside0.mk (blk_below (uK BK987.out) hb); replace BK998 := Aside0.mk (blk_below (uK BK998.out) hb); replace HB := Aside0.mk (below_step uB hb); (try clear hb); (try clear hb2); (try clear hk); (try clear hi)) | ((with_reducible refine gate_dst (N := 15) rfl ?_); (try (refine gate_guard (by rfl) ?_; dsimp only)); refine bxe 15 #[.int .i64 0, .int .i64 0] 30 ?_; intro gb1020 hg w203 hbox hb; have n0_ := Aside0.mk (Kd.R_below (uR HO_14.out) hb); have n1_ := Aside0.mk (blk_below (uK BK986.out) hb); have n2_ := Aside0.mk (blk_below (uK BK987.out) hb); have n3_ := Aside0.mk (blk_below (uK BK998.out) hb); have n4_ := Aside0.mk (below_step uB hb); have n5_ := Aside0.mk (hbox); have n6_ := gw hg; have n7_ := gw hg; have n8_ := nb BK986 hg; have n9_ := nc BK986 hg; have n10_ := nb BK987 hg; have n11_ := nc BK987 hg; have n12_ := nb BK998 hg; have n13_ := nc BK998 hg; clear HO_14; clear BK986; clear BK987; clear BK998; clear HB; have HO_14 := n0_; have BK986 := n1_; have BK987 := n2_; have BK998 := n3_; have HB := n4_; have BK1020 := n5_; have GW1020 := n6_; have GE1020 := n7_; have NB986_1020 := n8_; have NB1020_986 := n9_; have NB987_1020 := n10_; have NB1020_987 := n11_; have NB998_1020 := n12_; have NB1020_998 := n13_; clear n0_ n1_ n2_ n3_ n4_ n5_ n6_ n7_ n8_ n9_ n10_ n11_ n12_ n13_; clear hb hbox hg; have hnb204 := NB1020_986.out; have hnc204 := NB986_1020.out; have hnb205 := NB1020_987.out; have hnc205 := NB987_1020.out; have hnb206 := NB1020_998.out; have hnc206 := NB998_1020.out; obtain ⟨hcz207_0, hcz207_1⟩ := cz2 BK1020.out; obtain ⟨hfz207_0, hfz207_1⟩ := fz2 BK1020.out))
                  go_ret
                  exact ⟨uE, uB⟩
      ·rw [if_neg c70] at H
       have c70b0 : (t997 == 0) = false := beq_eq_false_iff_ne.mpr c70
       have c70b1 : (t997 != 0) = true := bne_iff_ne.mpr c70
       by_cases c208 : t997 = 7
       ·rw [if_pos c208] at H
        have c208b0 : (t997 == 7) = true := beq_iff_eq.mpr c208
        have c208b1 : (t997 != 7) = false := bne_eq_false_iff_eq.mpr c208
        clear c208
        by_cases c209 : t999 = true
        ·subst c209
         have H1 : (some false) = some r := by rw [if_pos rfl] at H; exact H
         clear H
         have H := H1
         clear H1
         obtain rfl := Option.some.inj H
         have hnb210 := NB986_987.out
         have hnc210 := NB987_986.out
         obtain ⟨hcz211_0, hcz211_1⟩ := cz2 BK986.out
         obtain ⟨hfz211_0, hfz211_1⟩ := fz2 BK986.out
         go_wp2_with (first | ((with_reducible refine gate_callee (f := 38) rfl ?_); refine goesL_ (some 68) rfl rfl Tryz.func38 (by kernel_rfl) rfl #[.agg #[.slice A0_0 l0_0.length c0_0, .slice A0_1 l0_1.length c0_1], .int .i64 a1, .slice A2 l2.length c2] rfl uM ?_; (with_reducible refine (channel_Lime.calls _ _ l0_0 _ _ l0_1 a1 _ _ l2 t995 t996 t997 _ ?side1 ?side2 ?side3 ?side4 ?side5 ?side6 A68.out).mono ?_); (case side1 => repeat (first | exact (Kd.C_below HR0_0.out HB.out) | (with_reducible refine Kd.C_alloc ?_ _) | (with_reducible refine Kd.C_drewN ?_ _) | (with_reducible refine Kd.C_drew ?_))); (case side2 => exact HC0_0.out); (case side3 => repeat (first | exact (Kd.C_below HR0_1.out HB.out) | (with_reducible refine Kd.C_alloc ?_ _) | (with_reducible refine Kd.C_drewN ?_ _) | (with_reducible refine Kd.C_drew ?_))); (case side4 => exact HC0_1.out); (case side5 => repeat (first | exact (Kd.C_below HR2.out HB.out) | (with_reducible refine Kd.C_alloc ?_ _) | (with_reducible refine Kd.C_drewN ?_ _) | (with_reducible refine Kd.C_drew ?_))); (case side6 => exact HC2.out); rintro e w212 ⟨rfl, hb⟩; refine ⟨_, rfl, ?_⟩; replace BK986 := Aside0.mk (blk_below (uK BK986.out) hb); replace BK987 := Aside0.mk (blk_below (uK BK987.out) hb); replace HB := Aside0.mk (below_step uB hb); (try clear hb); (try clear hb2); (try clear hk); (try clear hi)) | ((with_reducible refine gate_dst (N := 11) rfl ?_); (try (refine gate_guard (by rfl) ?_; dsimp only)); refine bxe 11 #[.int .i64 0, .int .i64 0] 30 ?_; intro gb998 hg w213 hbox hb; have n0_ := Aside0.mk (blk_below (uK BK986.out) hb); have n1_ := Aside0.mk (blk_below (uK BK987.out) hb); have n2_ := Aside0.mk (below_step uB hb); have n3_ := Aside0.mk (hbox); have n4_ := gw hg; have n5_ := gw hg; have n6_ := nb BK986 hg; have n7_ := nc BK986 hg; have n8_ := nb BK987 hg; have n9_ := nc BK987 hg; clear BK986; clear BK987; clear HB; have BK986 := n0_; have BK987 := n1_; have HB := n2_; have BK998 := n3_; have GW998 := n4_; have GE998 := n5_; have NB986_998 := n6_; have NB998_986 := n7_; have NB987_998 := n8_; have NB998_987 := n9_; clear n0_ n1_ n2_ n3_ n4_ n5_ n6_ n7_ n8_ n9_; clear hb hbox hg; have hnb214 := NB998_986.out; have hnc214 := NB986_998.out; have hnb215 := NB998_987.out; have hnc215 := NB987_998.out; obtain ⟨hcz216_0, hcz216_1⟩ := cz2 BK998.out; obtain ⟨hfz216_0, hfz216_1⟩ := fz2 BK998.out; obtain ⟨hcz217_0, hcz217_1⟩ := cz2 BK986.out; obtain ⟨hfz217_0, hfz217_1⟩ := fz2 BK986.out) | ((with_reducible refine gate_callee (f := 41) rfl ?_); refine goesL_ (some 75) rfl rfl Tryz.func41 (by kernel_rfl) rfl #[.agg #[.slice A0_0 l0_0.length c0_0, .slice A0_1 l0_1.length c0_1], .int .i64 a1, .slice A2 l2.length c2, .int .i64 a3] rfl uM ?_; (with_reducible refine (quinariaref02_Agrees.calls kj5 _ _ l0_0 _ _ l0_1 a1 _ _ l2 a3 true _ ?side1 ?side2 ?side3 ?side4 ?side5 ?side6 A69.out).mono ?_); (case side1 => exact Kd.C_below HR0_0.out uB); (case side2 => exact HC0_0.out); (case side3 => exact Kd.C_below HR0_1.out uB); (case side4 => exact HC0_1.out); (case side5 => exact Kd.C_below HR2.out uB); (case side6 => exact HC2.out); rintro e w218 ⟨rfl, hb⟩; refine ⟨_, rfl, ?_⟩; replace BK986 := Aside0.mk (blk_below (g := gb986) (o := .cells #[.slice A0_0 l0_0.length c0_0, .slice A0_1 l0_1.length c0_1] 25 (0, 0)) (by refine uK ?_; refine blk_far ?_ NB986_998.out _; refine uK ?_; refine blk_far ?_ NB986_998.out _; refine uK ?_; exact BK986.out) hb); replace BK987 := Aside0.mk (blk_below (g := gb987) (o := .cells #[.int .i64 a4_0, .int .i64 a4_1, .int .i64 a4_2] 68 (0, 0)) (by refine uK ?_; refine blk_far ?_ NB987_998.out _; refine uK ?_; refine blk_far ?_ NB987_998.out _; refine uK ?_; exact BK987.out) hb); replace BK998 := Aside0.mk (blk_below (g := gb998) (o := .cells #[.int .i64 t995, .int .i64 t996] 30 (0, 0)) (by refine uK ?_; refine blk_put (cs := #[.int .i64 t995, .int .i64 0]) ?_ 1 _ rfl; refine uK ?_; refine blk_put (cs := #[.int .i64 0, .int .i64 0]) ?_ 0 _ rfl; refine uK ?_; exact BK998.out) hb); replace HB := Aside0.mk (below_step uB hb); (try clear hb); (try clear hb2); (try clear hk); (try clear hi)))
         go_ret
         exact ⟨uE, uB⟩
        ·replace c209 := Bool.eq_false_iff.mpr c209
         subst c209
         have H1 : ((quinarialaw02_known.f kj5).bind fun t1000 => (some t1000)) = some r := by rw [if_neg (show ¬ (false = true) by decide)] at H; exact H
         clear H
         have H := H1
         clear H1
         replace H := Option.bind_eq_some_iff.mp H
         obtain ⟨t1000, A2190, H⟩ := H
         replace H : (some t1000) = some r := H
         have A219 := Aside0.mk A2190
         clear A2190
         obtain rfl := Option.some.inj H
         have hnb220 := NB986_987.out
         have hnc220 := NB987_986.out
         obtain ⟨hcz221_0, hcz221_1⟩ := cz2 BK986.out
         obtain ⟨hfz221_0, hfz221_1⟩ := fz2 BK986.out
         go_wp2_with (first | ((with_reducible refine gate_callee (f := 38) rfl ?_); refine goesL_ (some 68) rfl rfl Tryz.func38 (by kernel_rfl) rfl #[.agg #[.slice A0_0 l0_0.length c0_0, .slice A0_1 l0_1.length c0_1], .int .i64 a1, .slice A2 l2.length c2] rfl uM ?_; (with_reducible refine (channel_Lime.calls _ _ l0_0 _ _ l0_1 a1 _ _ l2 t995 t996 t997 _ ?side1 ?side2 ?side3 ?side4 ?side5 ?side6 A68.out).mono ?_); (case side1 => repeat (first | exact (Kd.C_below HR0_0.out HB.out) | (with_reducible refine Kd.C_alloc ?_ _) | (with_reducible refine Kd.C_drewN ?_ _) | (with_reducible refine Kd.C_drew ?_))); (case side2 => exact HC0_0.out); (case side3 => repeat (first | exact (Kd.C_below HR0_1.out HB.out) | (with_reducible refine Kd.C_alloc ?_ _) | (with_reducible refine Kd.C_drewN ?_ _) | (with_reducible refine Kd.C_drew ?_))); (case side4 => exact HC0_1.out); (case side5 => repeat (first | exact (Kd.C_below HR2.out HB.out) | (with_reducible refine Kd.C_alloc ?_ _) | (with_reducible refine Kd.C_drewN ?_ _) | (with_reducible refine Kd.C_drew ?_))); (case side6 => exact HC2.out); rintro e w222 ⟨rfl, hb⟩; refine ⟨_, rfl, ?_⟩; replace BK986 := Aside0.mk (blk_below (uK BK986.out) hb); replace BK987 := Aside0.mk (blk_below (uK BK987.out) hb); replace HB := Aside0.mk (below_step uB hb); (try clear hb); (try clear hb2); (try clear hk); (try clear hi)) | ((with_reducible refine gate_dst (N := 11) rfl ?_); (try (refine gate_guard (by rfl) ?_; dsimp only)); refine bxe 11 #[.int .i64 0, .int .i64 0] 30 ?_; intro gb998 hg w223 hbox hb; have n0_ := Aside0.mk (blk_below (uK BK986.out) hb); have n1_ := Aside0.mk (blk_below (uK BK987.out) hb); have n2_ := Aside0.mk (below_step uB hb); have n3_ := Aside0.mk (hbox); have n4_ := gw hg; have n5_ := gw hg; have n6_ := nb BK986 hg; have n7_ := nc BK986 hg; have n8_ := nb BK987 hg; have n9_ := nc BK987 hg; clear BK986; clear BK987; clear HB; have BK986 := n0_; have BK987 := n1_; have HB := n2_; have BK998 := n3_; have GW998 := n4_; have GE998 := n5_; have NB986_998 := n6_; have NB998_986 := n7_; have NB987_998 := n8_; have NB998_987 := n9_; clear n0_ n1_ n2_ n3_ n4_ n5_ n6_ n7_ n8_ n9_; clear hb hbox hg; have hnb224 := NB998_986.out; have hnc224 := NB986_998.out; have hnb225 := NB998_987.out; have hnc225 := NB987_998.out; obtain ⟨hcz226_0, hcz226_1⟩ := cz2 BK998.out; obtain ⟨hfz226_0, hfz226_1⟩ := fz2 BK998.out; obtain ⟨hcz227_0, hcz227_1⟩ := cz2 BK986.out; obtain ⟨hfz227_0, hfz227_1⟩ := fz2 BK986.out) | ((with_reducible refine gate_callee (f := 41) rfl ?_); refine goesL_ (some 75) rfl rfl Tryz.func41 (by kernel_rfl) rfl #[.agg #[.slice A0_0 l0_0.length c0_0, .slice A0_1 l0_1.length c0_1], .int .i64 a1, .slice A2 l2.length c2, .int .i64 a3] rfl uM ?_; (with_reducible refine (quinariaref02_Agrees.calls kj5 _ _ l0_0 _ _ l0_1 a1 _ _ l2 a3 false _ ?side1 ?side2 ?side3 ?side4 ?side5 ?side6 A69.out).mono ?_); (case side1 => exact Kd.C_below HR0_0.out uB); (case side2 => exact HC0_0.out); (case side3 => exact Kd.C_below HR0_1.out uB); (case side4 => exact HC0_1.out); (case side5 => exact Kd.C_below HR2.out uB); (case side6 => exact HC2.out); rintro e w228 ⟨rfl, hb⟩; refine ⟨_, rfl, ?_⟩; replace BK986 := Aside0.mk (blk_below (g := gb986) (o := .cells #[.slice A0_0 l0_0.length c0_0, .slice A0_1 l0_1.length c0_1] 25 (0, 0)) (by refine uK ?_; refine blk_far ?_ NB986_998.out _; refine uK ?_; refine blk_far ?_ NB986_998.out _; refine uK ?_; exact BK986.out) hb); replace BK987 := Aside0.mk (blk_below (g := gb987) (o := .cells #[.int .i64 a4_0, .int .i64 a4_1, .int .i64 a4_2] 68 (0, 0)) (by refine uK ?_; refine blk_far ?_ NB987_998.out _; refine uK ?_; refine blk_far ?_ NB987_998.out _; refine uK ?_; exact BK987.out) hb); replace BK998 := Aside0.mk (blk_below (g := gb998) (o := .cells #[.int .i64 t995, .int .i64 t996] 30 (0, 0)) (by refine uK ?_; refine blk_put (cs := #[.int .i64 t995, .int .i64 0]) ?_ 1 _ rfl; refine uK ?_; refine blk_put (cs := #[.int .i64 0, .int .i64 0]) ?_ 0 _ rfl; refine uK ?_; exact BK998.out) hb); replace HB := Aside0.mk (below_step uB hb); (try clear hb); (try clear hb2); (try clear hk); (try clear hi)) | (go_at_call 17; (with_reducible refine (quinarialaw02_known.calls kj5  t1000 _ ?sideT A219.out).mono ?_); (case sideT => exact HT.out.below uB); rintro e w229 ⟨rfl, hb⟩; replace BK986 := Aside0.mk (blk_below (uK BK986.out) hb); replace BK987 := Aside0.mk (blk_below (uK BK987.out) hb); replace BK998 := Aside0.mk (blk_below (uK BK998.out) hb); replace HB := Aside0.mk (below_step uB hb); (try clear hb); (try clear hb2); (try clear hk); (try clear hi)))
         go_ret
         exact ⟨uE, uB⟩
       ·rw [if_neg c208] at H
        have c208b0 : (t997 == 7) = false := beq_eq_false_iff_ne.mpr c208
        have c208b1 : (t997 != 7) = true := bne_iff_ne.mpr c208
        obtain rfl := Option.some.inj H
        have hnb230 := NB986_987.out
        have hnc230 := NB987_986.out
        obtain ⟨hcz231_0, hcz231_1⟩ := cz2 BK986.out
        obtain ⟨hfz231_0, hfz231_1⟩ := fz2 BK986.out
        go_wp2_with (first | ((with_reducible refine gate_callee (f := 38) rfl ?_); refine goesL_ (some 68) rfl rfl Tryz.func38 (by kernel_rfl) rfl #[.agg #[.slice A0_0 l0_0.length c0_0, .slice A0_1 l0_1.length c0_1], .int .i64 a1, .slice A2 l2.length c2] rfl uM ?_; (with_reducible refine (channel_Lime.calls _ _ l0_0 _ _ l0_1 a1 _ _ l2 t995 t996 t997 _ ?side1 ?side2 ?side3 ?side4 ?side5 ?side6 A68.out).mono ?_); (case side1 => repeat (first | exact (Kd.C_below HR0_0.out HB.out) | (with_reducible refine Kd.C_alloc ?_ _) | (with_reducible refine Kd.C_drewN ?_ _) | (with_reducible refine Kd.C_drew ?_))); (case side2 => exact HC0_0.out); (case side3 => repeat (first | exact (Kd.C_below HR0_1.out HB.out) | (with_reducible refine Kd.C_alloc ?_ _) | (with_reducible refine Kd.C_drewN ?_ _) | (with_reducible refine Kd.C_drew ?_))); (case side4 => exact HC0_1.out); (case side5 => repeat (first | exact (Kd.C_below HR2.out HB.out) | (with_reducible refine Kd.C_alloc ?_ _) | (with_reducible refine Kd.C_drewN ?_ _) | (with_reducible refine Kd.C_drew ?_))); (case side6 => exact HC2.out); rintro e w232 ⟨rfl, hb⟩; refine ⟨_, rfl, ?_⟩; replace BK986 := Aside0.mk (blk_below (uK BK986.out) hb); replace BK987 := Aside0.mk (blk_below (uK BK987.out) hb); replace HB := Aside0.mk (below_step uB hb); (try clear hb); (try clear hb2); (try clear hk); (try clear hi)) | ((with_reducible refine gate_dst (N := 11) rfl ?_); (try (refine gate_guard (by rfl) ?_; dsimp only)); refine bxe 11 #[.int .i64 0, .int .i64 0] 30 ?_; intro gb998 hg w233 hbox hb; have n0_ := Aside0.mk (blk_below (uK BK986.out) hb); have n1_ := Aside0.mk (blk_below (uK BK987.out) hb); have n2_ := Aside0.mk (below_step uB hb); have n3_ := Aside0.mk (hbox); have n4_ := gw hg; have n5_ := gw hg; have n6_ := nb BK986 hg; have n7_ := nc BK986 hg; have n8_ := nb BK987 hg; have n9_ := nc BK987 hg; clear BK986; clear BK987; clear HB; have BK986 := n0_; have BK987 := n1_; have HB := n2_; have BK998 := n3_; have GW998 := n4_; have GE998 := n5_; have NB986_998 := n6_; have NB998_986 := n7_; have NB987_998 := n8_; have NB998_987 := n9_; clear n0_ n1_ n2_ n3_ n4_ n5_ n6_ n7_ n8_ n9_; clear hb hbox hg; have hnb234 := NB998_986.out; have hnc234 := NB986_998.out; have hnb235 := NB998_987.out; have hnc235 := NB987_998.out; obtain ⟨hcz236_0, hcz236_1⟩ := cz2 BK998.out; obtain ⟨hfz236_0, hfz236_1⟩ := fz2 BK998.out; obtain ⟨hcz237_0, hcz237_1⟩ := cz2 BK986.out; obtain ⟨hfz237_0, hfz237_1⟩ := fz2 BK986.out) | ((with_reducible refine gate_callee (f := 41) rfl ?_); refine goesL_ (some 75) rfl rfl Tryz.func41 (by kernel_rfl) rfl #[.agg #[.slice A0_0 l0_0.length c0_0, .slice A0_1 l0_1.length c0_1], .int .i64 a1, .slice A2 l2.length c2, .int .i64 a3] rfl uM ?_; (with_reducible refine (quinariaref02_Agrees.calls kj5 _ _ l0_0 _ _ l0_1 a1 _ _ l2 a3 t999 _ ?side1 ?side2 ?side3 ?side4 ?side5 ?side6 A69.out).mono ?_); (case side1 => exact Kd.C_below HR0_0.out uB); (case side2 => exact HC0_0.out); (case side3 => exact Kd.C_below HR0_1.out uB); (case side4 => exact HC0_1.out); (case side5 => exact Kd.C_below HR2.out uB); (case side6 => exact HC2.out); rintro e w238 ⟨rfl, hb⟩; refine ⟨_, rfl, ?_⟩; replace BK986 := Aside0.mk (blk_below (g := gb986) (o := .cells #[.slice A0_0 l0_0.length c0_0, .slice A0_1 l0_1.length c0_1] 25 (0, 0)) (by refine uK ?_; refine blk_far ?_ NB986_998.out _; refine uK ?_; refine blk_far ?_ NB986_998.out _; refine uK ?_; exact BK986.out) hb); replace BK987 := Aside0.mk (blk_below (g := gb987) (o := .cells #[.int .i64 a4_0, .int .i64 a4_1, .int .i64 a4_2] 68 (0, 0)) (by refine uK ?_; refine blk_far ?_ NB987_998.out _; refine uK ?_; refine blk_far ?_ NB987_998.out _; refine uK ?_; exact BK987.out) hb); replace BK998 := Aside0.mk (blk_below (g := gb998) (o := .cells #[.int .i64 t995, .int .i64 t996] 30 (0, 0)) (by refine uK ?_; refine blk_put (cs := #[.int .i64 t995, .int .i64 0]) ?_ 1 _ rfl; refine uK ?_; refine blk_put (cs := #[.int .i64 0, .int .i64 0]) ?_ 0 _ rfl; refine uK ?_; exact BK998.out) hb); replace HB := Aside0.mk (below_step uB hb); (try clear hb); (try clear hb2); (try clear hk); (try clear hi)))
        go_ret
        exact ⟨uE, uB⟩
end Go.Proofs.YtdmdahafiiggiaaGreatDoor.K
end
section
namespace Go.Proofs.YtdmdahafiiggiaaGreatDoor.K
open Go.RowKit Go.Proofs.YtdmdahafiiggiaaGreatDoorW.PrintWords Go.Proofs.YtdmdahafiiggiaaGreatDoorW.PrintLast Go.Proofs.YtdmdahafiiggiaaGreatDoorW.PrintMore
set_option linter.unusedVariables false
set_option linter.unusedSimpArgs false
theorem cupsN_anti {sp : List Int} {st : List S32} (h : isLineB sp st = true) {n : Int} (hn : numB st n = true) {a a' r r' : Int} (a0 : 0 ≤ a) (ha : a ≤ a') (r0 : 0 ≤ r) (hr : r ≤ r') : cupsN sp st n a' r' ≤ cupsN sp st n a r := by
  have hn := num_range hn
  have hs := line_at h hn.1 hn.2
  unfold cupsN
  have h1 : r * a ≤ r' * a' := Int.mul_le_mul hr ha a0 (by omega)
  have h0 : 0 ≤ r * a := Int.mul_nonneg r0 a0
  have hl : r * a / 100 ≤ r' * a' / 100 := Int.ediv_le_ediv (by omega) h1
  have hl0 : 0 ≤ r * a / 100 := by omega
  generalize r * a / 100 = l at *
  generalize r' * a' / 100 = l' at *
  generalize rd_T32 st n = s at *
  unfold carry
  have := hs.s0
  have m1 : mx 0 (s.f0 - 2 * l') ≤ mx 0 (s.f0 - 2 * l) := by unfold mx; split <;> split <;> omega
  have m2 : mx 0 (s.f1 - l') ≤ mx 0 (s.f1 - l) := by unfold mx; split <;> split <;> omega
  exact Int.mul_le_mul_of_nonneg_right (Int.mul_le_mul m1 m2 (mx_ge 0 _).1 (mx_ge 0 _).1) (by omega)
end Go.Proofs.YtdmdahafiiggiaaGreatDoor.K
end
section
namespace Go.Proofs.YtdmdahafiiggiaaGreatDoor.K
open Go.RowKit Go.Proofs.YtdmdahafiiggiaaGreatDoorW.PrintWords Go.Proofs.YtdmdahafiiggiaaGreatDoorW.PrintLast Go.Proofs.YtdmdahafiiggiaaGreatDoorW.PrintMore
attribute [local go_sem] max2_int min2_int max_two min_two max_three min_three max_four min_four
set_option linter.unusedVariables false
set_option linter.unusedSimpArgs false
def quinariaref02_Lime.l0 : Nat → Int → List (S68) → Int → List Int → List (S32) → Int → Int → Option (Int × Int)
 | 0, _, _, _, _, _, _, _ => none
 | k + 1, x1, x2, x8, x965000, x965001, x967000, x967001 => if 0 ≤ x1 then (if x1 < (x965001.length : Int) then (if x8 ≤ ((rd_T32 x965001 x1).f3.f1) then ((quinariaref02_Agrees.f k x965000 x965001 x1 x2 x8).bind fun t969 => (if t969 = true then (if x967000 < 0 then (quinariaref02_Lime.l0 k x1 x2 (wrap64 (x8 + 1)) x965000 x965001 x8 x8) else (quinariaref02_Lime.l0 k x1 x2 (wrap64 (x8 + 1)) x965000 x965001 x967000 x8)) else (quinariaref02_Lime.l0 k x1 x2 (wrap64 (x8 + 1)) x965000 x965001 x967000 x967001))) else (some (x967000, x967001))) else (none)) else (none)
def quinariaref02_Lime.f (k : Nat) (l0_0 : List Int) (l0_1 : List (S32)) (a1 : Int) (l2 : List (S68)) : Option (Int × Int) := if 0 ≤ a1 then (if a1 < (l0_1.length : Int) then (quinariaref02_Lime.l0 k a1 l2 ((rd_T32 l0_1 a1).f3.f0) l0_0 l0_1 (-1) (-1)) else (none)) else (none)
end Go.Proofs.YtdmdahafiiggiaaGreatDoor.K
end
