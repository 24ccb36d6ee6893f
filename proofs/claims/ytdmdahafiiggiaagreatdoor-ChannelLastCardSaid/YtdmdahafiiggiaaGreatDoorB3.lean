/- The walks of the functions that the laws of this seat call, and what they compute; joined out of smaller texts, part 3. -/
import Derived.IntWalk
import Derived.Scope
import Derived.Deep.QuietTactic
import Derived.BigQuiet
import Derived.Test.YtdmdahafiiggiaaGreatDoorB2
set_option linter.unusedVariables false
set_option linter.unusedSimpArgs false
section
namespace Go.Proofs.YtdmdahafiiggiaaGreatDoor.K
open Go.RowKit Go.Shelf Go.Proofs.YtdmdahafiiggiaaGreatDoorW.PrintWords Go.Proofs.YtdmdahafiiggiaaGreatDoorW.PrintLast Go.Proofs.YtdmdahafiiggiaaGreatDoorW.PrintMore
attribute [local go_sem] Oper.semAt_some
set_option linter.unusedVariables false
set_option linter.unusedSimpArgs false
theorem RoundIn.any_n {m m' : Nat} {P : Program} {l : Nat} {f : FuncId} {tmps : Array Value} {assign body : Code} {w : World} {R : Ending → World → Prop} (h : RoundIn Fence.wide m P l f tmps assign body w R) : RoundIn Fence.wide m' P l f tmps assign body w R := ⟨h.1, fun c cs _ => h.2 c cs (room_wide _)⟩
def tails (c : Nat) : Nat → List (List Int)
  | 0 => [[]]
  | m + 1 => (List.range c).flatMap fun (d : Nat) => (tails c m).map fun r => (d : Int) :: r
structure FW (s0 s1 B s c l : Nat) (now : List Int) (W : World) : Prop where
  seg : W.heap[s0]? = some (.cells #[.int .i64 (s : Int)] 3 (0, 0))
  cls : W.heap[s1]? = some (.cells #[.int .i64 (c : Int)] 3 (0, 0))
  yb : W.heap[B]? = some (.cells #[.func (.yield l) #[] #[]] 179 (0, 0))
  row : OwnI W B (.slice (some ⟨B + 1, 0, none⟩) s s) now
  nb : W.heap[B + 2]? = some (.cells #[.slice (some ⟨B + 1, 0, none⟩) s s] 22 (0, 0))
  fb : W.heap[B + 3]? = some (.cells #[.func (.func 140) #[] #[.pointer (some ⟨s0, 0, none⟩), .pointer (some ⟨B, 0, none⟩), .pointer (some ⟨B + 2, 0, none⟩), .pointer (some ⟨s1, 0, none⟩), .pointer (some ⟨B + 3, 0, none⟩)]] 28 (0, 0))
  lt : s0 < B ∧ s1 < B
theorem FW.kb {s0 s1 B s c l : Nat} {now : List Int} {W W1 : World} {M : Nat → Prop} (h : FW s0 s1 B s c l now W) (hk : KB M W W1) (hM : ∀ k, M k → k < B ∧ k ≠ s0 ∧ k ≠ s1) : FW s0 s1 B s c l now W1 where
  seg := hk.at h.seg fun e => (hM _ e).2.1 rfl
  cls := hk.at h.cls fun e => (hM _ e).2.2 rfl
  yb := hk.at h.yb fun e => by have := (hM _ e).1; omega
  row := by
    have hlt := (OwnI.blk h.row (k := B + 1) rfl).2
    exact Kd.R_of_own (own_move (Kd.own_of_R h.row) (fun k e => by have e2 : k = B + 1 := (Option.some.inj e).symm; rw [e2]; exact hk.block _ hlt (fun e => by have := (hM _ e).1; omega))) (fun _ _ => trivial)
  nb := hk.at h.nb fun e => by have := (hM _ e).1; omega
  fb := hk.at h.fb fun e => by have := (hM _ e).1; omega
  lt := h.lt
theorem FW.put {s0 s1 B s c l : Nat} {now : List Int} {W : World} (h : FW s0 s1 B s c l now W) (i x : Int) : FW s0 s1 B s c l (now.set i.toNat x) (W.setCell ⟨B + 1, i.toNat, none⟩ (.int .i64 x)) := by
  have hg := grown_setP W ⟨B + 1, i.toNat, none⟩ (.int .i64 x)
  have hlt := h.lt
  exact {
    seg := blk_grown h.seg hg (by intro e; have e2 : s0 = B + 1 := Option.some.inj e; omega)
    cls := blk_grown h.cls hg (by intro e; have e2 : s1 = B + 1 := Option.some.inj e; omega)
    yb := blk_grown h.yb hg (by intro e; have e2 : B = B + 1 := Option.some.inj e; omega)
    row := Kd.R_putn h.row i x
    nb := blk_grown h.nb hg (by intro e; have e2 : B + 2 = B + 1 := Option.some.inj e; omega)
    fb := blk_grown h.fb hg (by intro e; have e2 : B + 3 = B + 1 := Option.some.inj e; omega)
    lt := h.lt }
theorem tails_map (c m : Nat) (p : List Int) : (tails c (m + 1)).map (p ++ ·) = (List.range c).flatMap fun (d : Nat) => (tails c m).map fun r => p ++ (d : Int) :: r := by
  simp [tails, List.map_flatMap, Function.comp_def]
theorem tails_step (c m k : Nat) (p : List Int) (pre : List (List Int)) : (pre ++ (List.range k).flatMap fun (d : Nat) => (tails c m).map fun r => p ++ (d : Int) :: r) ++ (tails c m).map ((p ++ [(k : Int)]) ++ ·) = pre ++ (List.range (k + 1)).flatMap fun (d : Nat) => (tails c m).map fun r => p ++ (d : Int) :: r := by
  rw [List.range_succ, List.flatMap_append, List.append_assoc]
  simp
theorem tails_rest (c m k : Nat) (h : k < c) (p : List Int) (pre : List (List Int)) (xs : List (List Int)) (hx : ∃ rest, xs = pre ++ (tails c (m + 1)).map (p ++ ·) ++ rest) :
    ∃ rest, xs = (pre ++ (List.range k).flatMap fun (d : Nat) => (tails c m).map fun r => p ++ (d : Int) :: r) ++ (tails c m).map ((p ++ [(k : Int)]) ++ ·) ++ rest := by
  obtain ⟨rest, hx⟩ := hx
  rw [tails_step, hx, tails_map]
  obtain ⟨d, rfl⟩ : ∃ d, c = k + 1 + d := ⟨c - (k + 1), by omega⟩
  refine ⟨((List.range' (k + 1) d).flatMap fun (e : Nat) => (tails (k + 1 + d) m).map fun r => p ++ (e : Int) :: r) ++ rest, ?_⟩
  rw [show List.range (k + 1 + d) = List.range (k + 1) ++ List.range' (k + 1) d by rw [List.range_eq_range', List.range_eq_range', ← List.range'_append]; simp, List.flatMap_append]
  simp only [List.append_assoc]
theorem take_set {l p : List Int} {i : Nat} {x : Int} (h : l.take i = p) (hi : i < l.length) : (l.set i x).take (i + 1) = p ++ [x] := by
  rw [List.take_add_one, List.take_set_of_le (Nat.le_refl i), h]
  simp [hi]
set_option maxRecDepth 100000 in
set_option maxHeartbeats 2000000 in
theorem fill_in (s0 s1 B s c l : Nat) (hs : s ≤ 1000) (hcl : c ≤ 1000) (M : Nat → Prop) (hM : ∀ k, M k → k < B ∧ k ≠ s0 ∧ k ≠ s1) (J : List (List Int) → World → Prop) (xs : List (List Int))
    (hJ : ∀ pre A A', J pre A → B ≤ A.heap.size → KB (fun k => B ≤ k ∧ k < B + 4) A A' → J pre A')
    (hY : ∀ (n : Nat) pre x v W1, J pre W1 → B + 4 ≤ W1.heap.size → OwnI W1 (B + 4) v x → (∃ rest, xs = pre ++ x :: rest) →
      YieldAt Fence.wide n Tryz.prog l #[v] W1 fun e W' => e = .returned (.bool true) ∧ J (pre ++ [x]) W' ∧ KB M W1 W') :
    ∀ (m n i : Nat) (p : List Int) (pre : List (List Int)) (now : List Int) (W : World), i + m = s → p.length = i → now.length = s → now.take i = p → FW s0 s1 B s c l now W → B + 4 ≤ W.heap.size → J pre W → (∃ rest, xs = pre ++ (tails c m).map (p ++ ·) ++ rest) →
      CallsIn Fence.wide n Tryz.prog 140 #[.int .i64 (i : Int), .pointer (some ⟨s0, 0, none⟩), .pointer (some ⟨B, 0, none⟩), .pointer (some ⟨B + 2, 0, none⟩), .pointer (some ⟨s1, 0, none⟩), .pointer (some ⟨B + 3, 0, none⟩)] W fun e W' => e = .returned (.bool true) ∧
        (∃ now', now'.length = s ∧ now'.take i = p ∧ FW s0 s1 B s c l now' W') ∧ J (pre ++ (tails c m).map (p ++ ·)) W' ∧ KB (fun k => M k ∨ (B ≤ k ∧ k < B + 4)) W W' := by
  intro m
  induction m with
  | zero =>
    intro n i p pre now W him hp hn ht hF hB hj hrest
    obtain rfl : i = s := by omega
    have hnow : now = p := by rw [← ht, List.take_of_length_le (by omega)]
    subst hnow
    have y1 : W.cell? ⟨s0, 0, none⟩ = some (.int .i64 (i : Int)) := (blk_cell hF.seg 0).trans rfl
    have y2 : W.cell? ⟨B, 0, none⟩ = some (.func (.yield l) #[] #[]) := (blk_cell hF.yb 0).trans rfl
    have y3 : W.cell? ⟨B + 2, 0, none⟩ = some (.slice (some ⟨B + 1, 0, none⟩) i i) := (blk_cell hF.nb 0).trans rfl
    have hCl : Aside0 (∀ W', Below W.heap.size W W' → Calls Tryz.prog 72 #[.slice (some ⟨B + 1, 0, none⟩) i i] W' fun e w' => ∃ v, e = .returned v ∧ Aside0 (Kd.R (Kd.int .i64) 3 w' W'.heap.size (fun _ => True) v now) ∧ Below W'.heap.size W' w') := ⟨fun W' hb => by
      have hC := (Kd.R_reads' (Kd.R_below hF.row hb)).2.2
      have := clone_any (some ⟨B + 1, 0, none⟩) i now W' hC (by omega)
      rwa [hp] at this⟩
    refine callsIn_of_wp Tryz.func140 rfl trivial ?_ rfl
    simp only [Tryz.ntmps140, List.size_toArray, List.length_cons, List.length_nil, Nat.reduceAdd, Nat.reduceSub, Array.replicate_succ, Array.replicate_zero, List.push_toArray, List.append_toArray, List.nil_append, List.cons_append]
    gi_wp2
    have HF := Aside0.mk hF
    have HJW : Aside0 (J pre W.drew) := ⟨hJ _ _ _ hj (by omega) (KB.of_below (below_drew1 (Below.refl _ _)))⟩
    have HB := Aside0.mk hB
    have HR := Aside0.mk hrest
    clear hF hj hB hrest
    have hmix : Tryz.prog.follows .mixedOrders = true := by kernel_rfl
    gi_region_with_o (first | ((refine ⟨trivial, fun h => absurd h (by decide), ?_⟩); gi_at_call 72; refine (callsIn_wide.2 (hCl.out _ (below_drew1 (Below.refl _ _)))).mono ?_; rintro e w1 ⟨v, rfl, hv, hb⟩; have y2 : w1.cell? ⟨B, 0, none⟩ = some (.func (.yield l) #[] #[]) := (blk_cell (blk_below HF.out.yb (below_step (below_drew1 (Below.refl _ _)) hb)) 0).trans rfl; obtain ⟨fn_, tmps_, assign_, body_, hy_, hR_⟩ := hY n pre now v w1 (hJ _ _ _ HJW.out (Nat.le_trans (by omega) HB.out) (KB.of_below hb)) (Nat.le_trans HB.out hb.size) (OwnI.weak hv.out HB.out) (by obtain ⟨r, e⟩ := HR.out; exact ⟨r, by simpa [tails] using e⟩)) | ((refine ⟨fun h => absurd h (by decide), ?_⟩); refine (RoundIn.any_n hR_).mono ?_; rintro e w2 ⟨rfl, hJ2, hk2⟩))
    all_goals
      gi_wp2
      go_ret
      have hkA : KB M W w1 := (KB.of_below (below_drew1 (Below.refl _ _))).trans (KB.of_below hb)
      exact ⟨rfl, ⟨now, hn, ht, HF.out.kb (hkA.trans hk2) hM⟩, by simpa [tails] using hJ2, (hkA.trans hk2).mono fun k _ h => .inl h⟩
  | succ m ih =>
    intro n i p pre now W him hp hn ht hF hB hj hrest
    have y1 : W.cell? ⟨s0, 0, none⟩ = some (.int .i64 (s : Int)) := (blk_cell hF.seg 0).trans rfl
    have y4 : W.cell? ⟨s1, 0, none⟩ = some (.int .i64 (c : Int)) := (blk_cell hF.cls 0).trans rfl
    have HIS : Aside0 (i < s) := ⟨by omega⟩
    have he1 : ((i : Int) == (s : Int)) = false := by rw [beq_eq_false_iff_ne]; omega
    have he2 : (i == s) = false := by rw [beq_eq_false_iff_ne]; omega
    have he3 : ((i : Int) = (s : Int)) = False := eq_false (by omega)
    have he4 : ¬ (i = s) := by omega
    have H0 := Aside0.mk (And.intro hF (And.intro hB hj))
    have HR := Aside0.mk hrest
    have HN := Aside0.mk (And.intro hn ht)
    have HP := Aside0.mk (And.intro hp him)
    have IH := Aside0.mk ih
    clear hF hB hj hrest hn ht hp him ih
    refine callsIn_of_wp Tryz.func140 rfl trivial ?_ rfl
    simp only [Tryz.ntmps140, List.size_toArray, List.length_cons, List.length_nil, Nat.reduceAdd, Nat.reduceSub, Array.replicate_succ, Array.replicate_zero, List.push_toArray, List.append_toArray, List.nil_append, List.cons_append]
    gi_wp2
    clear y1 y4 he1 he2 he3 he4
    gi_loopw [17] (fun v17 wr => ∃ (k : Nat) (now1 : List Int), v17 = .int .i64 (k : Int) ∧ Aside0 (k ≤ c ∧ now1.length = s ∧ now1.take i = p) ∧ Aside0 (FW s0 s1 B s c l now1 wr) ∧ Aside0 (J (pre ++ (List.range k).flatMap fun (d : Nat) => (tails c m).map fun r => p ++ (d : Int) :: r) wr) ∧ Aside0 (KB (fun k => M k ∨ (B ≤ k ∧ k < B + 4)) W wr))
      (fun v _ => c - (intOf v).toNat)
    case atStart => exact ⟨0, now, rfl, ⟨Nat.zero_le _, HN.out.1, HN.out.2⟩, ⟨H0.out.1⟩, ⟨by simpa using H0.out.2.2⟩, ⟨KB.refl _ _⟩⟩
    case round =>
      obtain ⟨k, now1, rfl, HK, HF, HJ, HKB⟩ := hrel
      by_cases hk : k < c
      · have c3 : decide ((k : Int) < (c : Int)) = true := decide_eq_true (by omega)
        have z1 : wr.cell? ⟨B + 2, 0, none⟩ = some (.slice (some ⟨B + 1, 0, none⟩) s s) := (blk_cell HF.out.nb 0).trans rfl
        have HFP := Aside0.mk (HF.out.put (i : Int) (k : Int))
        rw [Int.toNat_natCast] at HFP
        have z2 : (wr.setCell ⟨B + 1, i, none⟩ (.int .i64 (k : Int))).cell? ⟨B + 3, 0, none⟩ = some (.func (.func 140) #[] #[.pointer (some ⟨s0, 0, none⟩), .pointer (some ⟨B, 0, none⟩), .pointer (some ⟨B + 2, 0, none⟩), .pointer (some ⟨s1, 0, none⟩), .pointer (some ⟨B + 3, 0, none⟩)]) := (blk_cell HFP.out.fb 0).trans rfl
        have p1 : (0 : Int) ≤ (i : Int) := by omega
        have p2 : (i : Int) < (s : Int) := by have := HIS.out; omega
        obtain ⟨hpc, hpf⟩ := Kd.R_celln (0 : Int) HF.out.row (i : Int) p1 p2
        rw [Int.toNat_natCast] at hpc hpf
        have hKS : KB (fun k => M k ∨ (B ≤ k ∧ k < B + 4)) wr (wr.setCell ⟨B + 1, i, none⟩ (.int .i64 (k : Int))) := KB.setCell _ _ _ (.inr ⟨by show B ≤ B + 1; omega, by show B + 1 < B + 4; omega⟩)
        have hKO : KB (fun k => B ≤ k ∧ k < B + 4) wr (wr.setCell ⟨B + 1, i, none⟩ (.int .i64 (k : Int))) := KB.setCell _ _ _ ⟨by show B ≤ B + 1; omega, by show B + 1 < B + 4; omega⟩
        have hBr : B + 4 ≤ wr.heap.size := Nat.le_trans H0.out.2.1 HKB.out.size
        have HIH := Aside0.mk (fun n' => IH.out n' (i + 1) (p ++ [(k : Int)]) _ (now1.set i (k : Int)) _ (by have := HP.out.2; omega) (by simp [HP.out.1]) (by simp [HK.out.2.1]) (take_set HK.out.2.2 (by rw [HK.out.2.1]; exact HIS.out)) HFP.out (Nat.le_trans hBr hKS.size) (hJ _ _ _ HJ.out (by omega) hKO) (tails_rest c m k hk p pre xs HR.out))
        have HKS := Aside0.mk hKS
        clear hKS hKO hBr
        have q1 := eq_true p1
        have q2 := eq_true p2
        have HW1 : Aside0 (wrap64 ((i : Int) + 1) = ((i + 1 : Nat) : Int)) := ⟨by rw [IntWalk.wrap64_in _ (by have := HIS.out; omega), Int.natCast_add, Int.natCast_one]⟩
        have hw1 := HW1.out
        gi_wp2_with ((refine ⟨trivial, fun h => absurd h (by decide), ?_⟩); gi_at_call 140; refine (HIH.out _).mono ?_; rintro e w2 ⟨rfl, ⟨now2, hn2, ht2, hF2⟩, hJ2, hK2⟩)
        clear hw1 q1 q2
        go_roundw
        case rel => exact ⟨k + 1, now2, (by rw [Int.natCast_add, Int.natCast_one]), ⟨by omega, hn2, by
          have h : (now2.take (i + 1)).take i = (p ++ [(k : Int)]).take i := congrArg _ ht2
          rw [List.take_take, Nat.min_eq_left (Nat.le_succ i)] at h
          rw [h, ← HP.out.1]
          simp⟩, ⟨hF2⟩, ⟨by rw [tails_step] at hJ2; exact hJ2⟩, ⟨HKB.out.trans (HKS.out.trans hK2)⟩⟩
        case measure => simp [intOf]; omega
      · obtain rfl : k = c := by have := HK.out.1; omega
        have c3 : decide ((k : Int) < (k : Int)) = false := decide_eq_false (by omega)
        gi_wp2
        go_ret
        exact ⟨rfl, ⟨now1, HK.out.2.1, HK.out.2.2, HF.out⟩, by rw [tails_map]; exact HJ.out, HKB.out⟩
def AtI (B : Nat) (W : World) (x : List Int) (v : Array Value) : Prop := ∃ sl, v = #[sl] ∧ OwnI W B sl x
theorem store_func {P : Program} {w : World} {a : Addr} {m : Mode} (f : Fn) (x y : Array Value) : (store a (.func f x y) m).run P w = stored P w a (.func f x y) m := run_store P w a _ m rfl
attribute [local go_sem] store_func
set_option maxRecDepth 100000 in
set_option maxHeartbeats 2000000 in
theorem choices1_seq (n s0 s1 s c : Nat) (hs : s ≤ 1000) (hcl : c ≤ 1000) (w : World) (hseg : w.heap[s0]? = some (.cells #[.int .i64 (s : Int)] 3 (0, 0))) (hcls : w.heap[s1]? = some (.cells #[.int .i64 (c : Int)] 3 (0, 0))) :
    SeqM Fence.wide n Tryz.prog 139 #[.pointer (some ⟨s0, 0, none⟩), .pointer (some ⟨s1, 0, none⟩)] 4 (fun k => k = s0 ∨ k = s1) AtI (tails c s) w := by
  intro l M J W hkw hC0 hM hJ hY h0
  have hC : ∀ k, (k = s0 ∨ k = s1) → W.heap[k]? = w.heap[k]? := fun k h => hkw.block k (hC0 k h) (fun hn => hn h)
  have HS : Aside0 (W.heap[s0]? = some (.cells #[.int .i64 (s : Int)] 3 (0, 0))) := ⟨(hC s0 (.inl rfl)).trans hseg⟩
  have HC : Aside0 (W.heap[s1]? = some (.cells #[.int .i64 (c : Int)] 3 (0, 0))) := ⟨(hC s1 (.inr rfl)).trans hcls⟩
  have hmk := print_make (P := Tryz.prog) 22 3 .i64 8 Tryz.underlying22 info3 (by omega) s (by omega)
  have hmf : ∀ (fn : Fn) (first cap : Array Value) (w : World), (Instr.makeFunc fn first cap).run Tryz.prog w = .ok (.func fn first cap) w := fun _ _ _ _ => rfl
  have y1 : W.cell? ⟨s0, 0, none⟩ = some (.int .i64 (s : Int)) := (blk_cell HS.out 0).trans rfl
  have y2 : (W.alloc (.cells #[.func (.yield l) #[] #[]] 179)).cell? ⟨s0, 0, none⟩ = some (.int .i64 (s : Int)) := (blk_cell (blk_alloc HS.out _) 0).trans rfl
  have z3 : ((((W.alloc (.cells #[.func (.yield l) #[] #[]] 179)).alloc (.cells (madeCells #[Value.int .i64 0] s) 3)).alloc (.cells #[.slice (some ⟨W.heap.size + 1, 0, none⟩) s s] 22)).alloc (.cells #[.nilFunc] 28)).cell? ⟨W.heap.size + 1 + 1 + 1, 0, none⟩ = some .nilFunc := by simp [go_sem]
  have z4 : ((((W.alloc (.cells #[.func (.yield l) #[] #[]] 179)).alloc (.cells (madeCells #[Value.int .i64 0] s) 3)).alloc (.cells #[.slice (some ⟨W.heap.size + 1, 0, none⟩) s s] 22)).alloc (.cells #[.nilFunc] 28)).frozen? ⟨W.heap.size + 1 + 1 + 1, 0, none⟩ = false := by simp [go_sem]
  have z5 : (((((W.alloc (.cells #[.func (.yield l) #[] #[]] 179)).alloc (.cells (madeCells #[Value.int .i64 0] s) 3)).alloc (.cells #[.slice (some ⟨W.heap.size + 1, 0, none⟩) s s] 22)).alloc (.cells #[.nilFunc] 28)).setCell ⟨W.heap.size + 1 + 1 + 1, 0, none⟩ (.func (.func 140) #[] #[.pointer (some ⟨s0, 0, none⟩), .pointer (some ⟨W.heap.size, 0, none⟩), .pointer (some ⟨W.heap.size + 1 + 1, 0, none⟩), .pointer (some ⟨s1, 0, none⟩), .pointer (some ⟨W.heap.size + 1 + 1 + 1, 0, none⟩)])).cell? ⟨W.heap.size + 1 + 1 + 1, 0, none⟩ = some (.func (.func 140) #[] #[.pointer (some ⟨s0, 0, none⟩), .pointer (some ⟨W.heap.size, 0, none⟩), .pointer (some ⟨W.heap.size + 1 + 1, 0, none⟩), .pointer (some ⟨s1, 0, none⟩), .pointer (some ⟨W.heap.size + 1 + 1 + 1, 0, none⟩)]) := World.cell?_setCell_same' _ _ _ (by rw [z3]; rfl)
  have H0 := Aside0.mk h0
  clear h0
  refine callsIn_of_wp Tryz.func139 rfl trivial ?_ rfl
  simp only [Tryz.ntmps139, List.size_toArray, List.length_cons, List.length_nil, Nat.reduceAdd, Nat.reduceSub, Array.replicate_succ, Array.replicate_zero, List.push_toArray, List.append_toArray, List.nil_append, List.cons_append]
  gi_wp2
  clear z3 z4 z5 y1 y2 hmk
  refine ⟨trivial, fun h => absurd h (by decide), ?_⟩
  have e2 : (W.alloc (.cells #[.func (.yield l) #[] #[]] 179)).heap.size = W.heap.size + 1 := World.size_alloc _ _
  generalize hW5 : World.alloc (World.alloc (World.alloc (World.alloc W _) _) _) _ = W5
  have HFW : FW s0 s1 W.heap.size s c l (List.replicate s 0) W5 := by
    rw [← hW5]
    have hlt0 := blk_lt HS.out
    have hlt1 := blk_lt HC.out
    have hr := own_made (W.alloc (.cells #[.func (.yield l) #[] #[]] 179)) W.heap.size 3 .i64 s (by simp) (by omega)
    rw [World.size_alloc] at hr
    exact {
      seg := blk_alloc (blk_alloc (blk_alloc (blk_alloc HS.out _) _) _) _
      cls := blk_alloc (blk_alloc (blk_alloc (blk_alloc HC.out _) _) _) _
      yb := blk_alloc (blk_alloc (blk_alloc (blk_new _ _) _) _) _
      row := Kd.R_of_own (by rw [List.length_replicate]; exact own_alloc (own_alloc hr _) _) (fun _ _ => trivial)
      nb := by
        have := blk_new ((W.alloc (.cells #[.func (.yield l) #[] #[]] 179)).alloc (.cells (madeCells #[Value.int .i64 0] s) 3)) (.cells #[.slice (some ⟨W.heap.size + 1, 0, none⟩) s s] 22)
        rw [World.size_alloc, World.size_alloc] at this
        exact blk_alloc this _
      fb := by
        have h := fun o => blk_new (((W.alloc (.cells #[.func (.yield l) #[] #[]] 179)).alloc (.cells (madeCells #[Value.int .i64 0] s) 3)).alloc (.cells #[.slice (some ⟨W.heap.size + 1, 0, none⟩) s s] 22)) o
        simp only [World.size_alloc] at h
        exact h _
      lt := ⟨hlt0, hlt1⟩ }
  have hk5 : ∀ N : Nat → Prop, KB N W W5 := fun N => by rw [← hW5]; exact ((KB.alloc _ _).trans (KB.alloc _ _)).trans ((KB.alloc _ _).trans (KB.alloc _ _))
  have hs5 : W5.heap.size = W.heap.size + 4 := by rw [← hW5]; simp
  have hMM : ∀ k, M k → k < W.heap.size ∧ k ≠ s0 ∧ k ≠ s1 := fun k hk => ⟨(hM k hk).1, fun e => (hM k hk).2 (.inl e), fun e => (hM k hk).2 (.inr e)⟩
  refine (fill_in s0 s1 W.heap.size s c l hs hcl M hMM J (tails c s) hJ (fun n' pre x v W1 hj hsz ho hr => by
    obtain ⟨fn, tmps, assign, body, hy, hR⟩ := hY pre x #[v] W1 hj hsz ⟨v, rfl, ho⟩ hr
    exact ⟨fn, tmps, assign, body, hy, RoundIn.any_n hR⟩) s (n - 1) 0 [] [] (List.replicate s 0) W5 (by omega) rfl (by simp) (by simp) HFW (by omega) (hJ _ _ _ H0.out (Nat.le_refl _) (hk5 _)) ⟨[], by simp⟩).mono ?_
  rintro e w2 ⟨rfl, _, hJ2, hk2⟩
  gi_wp2
  go_end0
  exact ⟨⟨_, rfl⟩, by simpa using hJ2, ((hk5 _).trans hk2).mono fun k hk h => by
    rcases h with h | h
    · exact h
    · omega⟩
end Go.Proofs.YtdmdahafiiggiaaGreatDoor.K
end
section
namespace Go.Proofs.YtdmdahafiiggiaaGreatDoor.K
open Go.RowKit Go.Proofs.YtdmdahafiiggiaaGreatDoorW.PrintWords Go.Proofs.YtdmdahafiiggiaaGreatDoorW.PrintLast Go.Proofs.YtdmdahafiiggiaaGreatDoorW.PrintMore
attribute [local go_sem] max2_int min2_int max_two min_two max_three min_three max_four min_four
set_option linter.unusedVariables false
set_option linter.unusedSimpArgs false
def channel_isHeight.f (a0_0 : Int) (a0_1 : Int) : Option (Bool) := (channel_isSpan.f a0_0 a0_1 0 1000).bind fun t370 => (some t370)
set_option maxHeartbeats 8000000 in
set_option maxRecDepth 100000 in
theorem channel_isHeight.calls (a0_0 : Int) (a0_1 : Int) (r : Bool) (w : World) (h : channel_isHeight.f a0_0 a0_1 = some r) :
    Calls Tryz.prog 111 #[.agg #[.int .i64 a0_0, .int .i64 a0_1]] w fun e w' => e = .returned (.bool r) ∧ Below w.heap.size w w' := by
  have hu30 := Tryz.underlying30
  have HB := Aside0.mk (Below.refl w.heap.size w)
  have H : ((channel_isSpan.f a0_0 a0_1 0 1000).bind fun t370 => (some t370)) = some r := h
  clear h
  replace H := Option.bind_eq_some_iff.mp H
  obtain ⟨t370, A20, H⟩ := H
  replace H : (some t370) = some r := H
  have A2 := Aside0.mk A20
  clear A20
  obtain rfl := Option.some.inj H
  go_enter Tryz.func111, Tryz.ntmps111
  go_wp2_with (first | ((with_reducible refine gate_dst (N := 1) rfl ?_); refine box_event ?hg (N := 1) ?hd (cs := #[.int .i64 a0_0, .int .i64 a0_1]) (t := 30) ?hr ?_; (case hd => rfl); (case hg => rfl); (case hr => first | (go_simp; done) | (go_simp; rfl)); intro gb369 hg w3 hbox hb; have n0_ := Aside0.mk (below_step (by repeat (first | (with_reducible first | exact HB.out | apply below_alloc | apply pw_below_drewN | apply below_drew1) | exact HB.out)) hb); have n1_ := Aside0.mk (hbox); have n2_ := Aside0.mk ((by rw [hg]; exact (below_size (by repeat (first | (with_reducible first | exact HB.out | apply below_alloc | apply pw_below_drewN | apply below_drew1) | exact HB.out))) : w.heap.size ≤ gb369)); have n3_ := Aside0.mk ((by rw [hg]; exact (below_size (by repeat (first | (with_reducible first | exact HB.out | apply below_alloc | apply pw_below_drewN | apply below_drew1) | exact HB.out))) : w.heap.size ≤ gb369)); clear HB; have HB := n0_; have BK369 := n1_; have GW369 := n2_; have GE369 := n3_; clear n0_ n1_ n2_ n3_; clear hb hbox hg; have hcz4_0 : w3.cell? ⟨gb369, 0, none⟩ = some (.int .i64 a0_0) := (blk_cell BK369.out 0).trans rfl; have hcz4_1 : w3.cell? ⟨gb369, 1, none⟩ = some (.int .i64 a0_1) := (blk_cell BK369.out 1).trans rfl; have hfz4_0 := blk_frozen BK369.out 0; have hfz4_1 := blk_frozen BK369.out 1) | ((with_reducible refine gate_callee (f := 80) rfl ?_); refine goesL_ (some 4) rfl rfl Tryz.func80 (by kernel_rfl) rfl #[.agg #[.int .i64 a0_0, .int .i64 a0_1], .int .i64 0, .int .i64 1000] rfl (by (try simp only [List.map_toArray, List.map_cons, List.map_nil]); first | done | rfl | (simp only [List.length_drop, List.length_take]; rfl)) ?_; (with_reducible refine (channel_isSpan.calls a0_0 a0_1 0 1000 t370 _ A2.out).mono ?_); rintro e w5 ⟨rfl, hb⟩; refine ⟨_, rfl, ?_⟩; have n0_ := Aside0.mk (blk_below (g := gb369) (o := .cells #[.int .i64 a0_0, .int .i64 a0_1] 30 (0, 0)) (by (with_reducible repeat (first | refine blk_drewN ?_ _ | refine blk_drew ?_ | refine blk_alloc ?_ _)); exact BK369.out) hb); have n1_ := Aside0.mk (below_step (by repeat (first | (with_reducible first | exact HB.out | apply below_alloc | apply pw_below_drewN | apply below_drew1 | refine below_set ?_ GE369.out) | exact HB.out)) hb); clear BK369; clear HB; have BK369 := n0_; have HB := n1_; clear n0_ n1_; (try clear hb); (try clear hb2); (try clear hk); (try clear hi)))
  go_ret
  exact ⟨by first | rfl | (simp [errW_none, errW_some] <;> rfl) | (simp [*, errW_none, errW_some] <;> rfl), by repeat (first | (with_reducible first | exact HB.out | apply below_alloc | apply pw_below_drewN | apply below_drew1 | refine below_set ?_ GE369.out) | exact HB.out)⟩
end Go.Proofs.YtdmdahafiiggiaaGreatDoor.K
end
section
namespace Go.Proofs.YtdmdahafiiggiaaGreatDoor.K
open Go.RowKit Go.Proofs.YtdmdahafiiggiaaGreatDoorW.PrintWords Go.Proofs.YtdmdahafiiggiaaGreatDoorW.PrintLast Go.Proofs.YtdmdahafiiggiaaGreatDoorW.PrintMore
attribute [local go_sem] max2_int min2_int max_two min_two max_three min_three max_four min_four
set_option linter.unusedVariables false
set_option linter.unusedSimpArgs false
def channel_pressures.l0 : Nat → List (S30) → Int → Int → Int → Int → List (S30) → List Int → Option ((List (S30)))
  | 0, _, _, _, _, _, _, _ => none
  | k + 1, x3, x9, x10, x372000, x372001, x372002, x372003 => if x10 < x9 then (if 0 ≤ x10 then (if x10 < (x372002.length : Int) then (if 0 ≤ (wrap64 (x10 + 1)) then (if (wrap64 (x10 + 1)) < (x372002.length : Int) then (if x3.length < 8796093022208 then (channel_pressures.l0 k (x3 ++ [(⟨mx 0 (wrap64 (x372000 - (mn ((rd_T30 x372002 x10).f1) ((rd_T30 x372002 (wrap64 (x10 + 1))).f1)))), mx 0 (wrap64 (x372001 - (mn ((rd_T30 x372002 x10).f0) ((rd_T30 x372002 (wrap64 (x10 + 1))).f0))))⟩ : S30)]) x9 (wrap64 (x10 + 1)) x372000 x372001 x372002 x372003) else (none)) else (none)) else (none)) else (none)) else (none)) else (some x3)
def channel_pressures.f (k : Nat) (a0_0 : Int) (a0_1 : Int) (l0_2 : List (S30)) (l0_3 : List Int) : Option ((List (S30))) := channel_pressures.l0 k ([] : List (S30)) (l0_3.length : Int) 0 a0_0 a0_1 l0_2 l0_3
def channel_pressures.T5 : Bool × List (List Nat × List Nat) := (true, [([], []), ([0], [0]), ([], []), ([1, 2], [1, 2]), ([3], [3]), ([], []), ([5], [5]), ([], []), ([7], [7]), ([6, 8], [6, 8]), ([9], [9]), ([], []), ([], []), ([11, 4, 0, 1, 2, 3, 4, 11, 12], [4, 11]), ([12, 10, 13, 0, 1, 2, 3, 4, 5, 6, 7, 8, 9, 10, 11, 12, 13], [10, 12])])
def channel_pressures.B5 : List Nat := [0, 1, 0, 7, 15, 0, 32, 0, 128, 480, 992, 0, 0, 6175, 16383]
theorem channel_pressures.tab5 : rtab .any (opsOf Tryz.f88 5) = channel_pressures.T5 := by kernel_rfl
theorem channel_pressures.bits5 : waitsOk channel_pressures.T5.2 channel_pressures.B5 = true := by kernel_rfl
set_option maxHeartbeats 8000000 in
set_option maxRecDepth 100000 in
theorem channel_pressures.calls (k : Nat) (a0_0 : Int) (a0_1 : Int) (A0_2 : Option Addr) (c0_2 : Nat) (l0_2 : List (S30)) (A0_3 : Option Addr) (c0_3 : Nat) (l0_3 : List Int) (r : List (S30)) (w : World) (hr0_2 : Kd.C k30 w A0_2 l0_2.length l0_2) (hc0_2 : l0_2.length ≤ c0_2) (hr0_3 : Kd.C (Kd.int .i64) w A0_3 l0_3.length l0_3) (hc0_3 : l0_3.length ≤ c0_3) (h : channel_pressures.f k a0_0 a0_1 l0_2 l0_3 = some r) :
    Calls Tryz.prog 88 #[.agg #[.int .i64 a0_0, .int .i64 a0_1, .slice A0_2 l0_2.length c0_2, .slice A0_3 l0_3.length c0_3]] w fun e w' => ∃ v0_ : Value, e = .returned (v0_) ∧ Kd.R k30 30 w' w.heap.size (fun _ => True) v0_ r ∧ Below w.heap.size w w' := by
  have hu78 := Tryz.underlying78
  have hu30 := Tryz.underlying30
  have HR0_2 := Aside0.mk hr0_2
  have HC0_2 := Aside0.mk hc0_2
  clear hr0_2 hc0_2
  have HR0_3 := Aside0.mk hr0_3
  have HC0_3 := Aside0.mk hc0_3
  clear hr0_3 hc0_3
  have HB := Aside0.mk (Below.refl w.heap.size w)
  have H : (channel_pressures.l0 k ([] : List (S30)) (l0_3.length : Int) 0 a0_0 a0_1 l0_2 l0_3) = some r := h
  clear h
  have H' := Aside0.mk H
  clear H
  go_enter Tryz.func88, Tryz.ntmps88
  go_wp2_with (first | ((with_reducible refine gate_dst (N := 1) rfl ?_); refine box_event ?hg (N := 1) ?hd (cs := #[.int .i64 a0_0, .int .i64 a0_1, .slice A0_2 l0_2.length c0_2, .slice A0_3 l0_3.length c0_3]) (t := 78) ?hr ?_; (case hd => rfl); (case hg => rfl); (case hr => first | (go_simp; done) | (go_simp; rfl)); intro gb371 hg w2 hbox hb; have n0_ := Aside0.mk (below_step (by repeat (first | (with_reducible first | exact HB.out | apply below_alloc | apply pw_below_drewN | apply below_drew1) | exact HB.out)) hb); have n1_ := Aside0.mk (hbox); have n2_ := Aside0.mk ((by rw [hg]; exact (below_size (by repeat (first | (with_reducible first | exact HB.out | apply below_alloc | apply pw_below_drewN | apply below_drew1) | exact HB.out))) : w.heap.size ≤ gb371)); have n3_ := Aside0.mk ((by rw [hg]; exact (below_size (by repeat (first | (with_reducible first | exact HB.out | apply below_alloc | apply pw_below_drewN | apply below_drew1) | exact HB.out))) : w.heap.size ≤ gb371)); clear HB; have HB := n0_; have BK371 := n1_; have GW371 := n2_; have GE371 := n3_; clear n0_ n1_ n2_ n3_; clear hb hbox hg; have hcz3_0 := (blk_cell BK371.out 0).trans rfl; have hcz3_1 := (blk_cell BK371.out 1).trans rfl; have hcz3_2 := (blk_cell BK371.out 2).trans rfl; have hcz3_3 := (blk_cell BK371.out 3).trans rfl; have hfz3_0 := blk_frozen BK371.out 0; have hfz3_1 := blk_frozen BK371.out 1; have hfz3_2 := blk_frozen BK371.out 2; have hfz3_3 := blk_frozen BK371.out 3))
  go_loopg [3, 10] k (fun kq v3 v10 w' => ∃ (x3_1 : List (S30)) (x10_1 : Int), v10 = .int .i64 x10_1 ∧ Aside0 (channel_pressures.l0 kq x3_1 (l0_3.length : Int) x10_1 a0_0 a0_1 l0_2 l0_3 = some r) ∧ Aside0 (kq ≤ k) ∧ Aside0 (Kd.R k30 30 w' w.heap.size (fun _ => True) v3 x3_1) ∧ Aside0 (w'.heap[gb371]? = some (.cells #[.int .i64 a0_0, .int .i64 a0_1, (.slice A0_2 l0_2.length c0_2), (.slice A0_3 l0_3.length c0_3)] 78 (0, 0))) ∧ Aside0 (Below w.heap.size w w'))
  case atStart => exact ⟨(([] : List (S30))), (0), (by first | rfl | (simp; done) | (simp [*]; done)), H', ⟨Nat.le_refl _⟩, ⟨by first | exact Kd.R_nil _ _ _ _ _ | exact Kd.N_nil _ _ _ _ _ | exact Kd.V_nil _ _ _ _ _ | exact Kd.Q_nil _ _ _ _ _ | exact Kd.S_nil _ _ _ _ _⟩, ⟨by (with_reducible repeat (first | refine blk_drewN ?_ _ | refine blk_drew ?_ | refine blk_alloc ?_ _)); exact BK371.out⟩, ⟨by repeat (first | (with_reducible first | exact HB.out | apply below_alloc | apply pw_below_drewN | apply below_drew1 | refine below_set ?_ GE371.out) | exact HB.out)⟩⟩
  case round =>
    clear H'
    try clear p2
    try clear hcz3_0
    try clear hcz3_1
    try clear hcz3_2
    try clear hcz3_3
    try clear hfz3_0
    try clear hfz3_1
    try clear hfz3_2
    try clear hfz3_3
    obtain ⟨x3_1, x10_1, rfl, HA, HK1, HO_3, BK371, HB⟩ := hrel
    cases gk with
    | zero => exact absurd HA.out (by simp [channel_pressures.l0])
    | succ k1 =>
      have H := HA.out
      clear HA
      simp only [channel_pressures.l0] at H
      by_cases c4 : x10_1 < (l0_3.length : Int)
      · rw [if_pos c4] at H
        have c4b0 : decide (x10_1 < (l0_3.length : Int)) = true := decide_eq_true c4
        clear c4
        by_cases c5 : 0 ≤ x10_1
        · rw [if_pos c5] at H
          have c5b0 : decide (0 ≤ x10_1) = true := decide_eq_true c5
          clear c5
          by_cases c6 : x10_1 < (l0_2.length : Int)
          · rw [if_pos c6] at H
            have c6b0 : decide (x10_1 < (l0_2.length : Int)) = true := decide_eq_true c6
            clear c6
            obtain ⟨ji7, hji7⟩ : ∃ j_ : Int, (wrap64 (x10_1 + 1)) = j_ := ⟨_, rfl⟩
            rw [hji7] at H
            have hji7w : (IntKind.i64.wrap (x10_1 + 1)) = ji7 := (i64_w _).trans hji7
            by_cases c8 : 0 ≤ (ji7)
            · rw [if_pos c8] at H
              have c8b0 : decide (0 ≤ (ji7)) = true := decide_eq_true c8
              clear c8
              by_cases c9 : (ji7) < (l0_2.length : Int)
              · rw [if_pos c9] at H
                have c9b0 : decide ((ji7) < (l0_2.length : Int)) = true := decide_eq_true c9
                clear c9
                obtain ⟨ji10, hji10⟩ : ∃ j_ : Int, (mn ((rd_T30 l0_2 x10_1).f1) ((rd_T30 l0_2 (ji7)).f1)) = j_ := ⟨_, rfl⟩
                rw [hji10] at H
                have hji10_ : (if ((rd_T30 l0_2 (ji7)).f1) < ((rd_T30 l0_2 x10_1).f1) then ((rd_T30 l0_2 (ji7)).f1) else ((rd_T30 l0_2 x10_1).f1)) = ji10 := hji10
                obtain ⟨ji11, hji11⟩ : ∃ j_ : Int, (mx 0 (wrap64 (a0_0 - (ji10)))) = j_ := ⟨_, rfl⟩
                rw [hji11] at H
                have hji11_ : (if 0 < (wrap64 (a0_0 - (ji10))) then (wrap64 (a0_0 - (ji10))) else 0) = ji11 := hji11
                obtain ⟨ji12, hji12⟩ : ∃ j_ : Int, (mn ((rd_T30 l0_2 x10_1).f0) ((rd_T30 l0_2 (ji7)).f0)) = j_ := ⟨_, rfl⟩
                rw [hji12] at H
                have hji12_ : (if ((rd_T30 l0_2 (ji7)).f0) < ((rd_T30 l0_2 x10_1).f0) then ((rd_T30 l0_2 (ji7)).f0) else ((rd_T30 l0_2 x10_1).f0)) = ji12 := hji12
                obtain ⟨ji13, hji13⟩ : ∃ j_ : Int, (mx 0 (wrap64 (a0_1 - (ji12)))) = j_ := ⟨_, rfl⟩
                rw [hji13] at H
                have hji13_ : (if 0 < (wrap64 (a0_1 - (ji12))) then (wrap64 (a0_1 - (ji12))) else 0) = ji13 := hji13
                by_cases c14 : x3_1.length < 8796093022208
                · rw [if_pos c14] at H
                  have LMc14 := Aside0.mk c14
                  clear c14
                  obtain ⟨y376, hy376⟩ : ∃ y_ : List (S30), y_ = (x3_1 ++ [(⟨ji11, ji13⟩ : S30)]) := ⟨_, rfl⟩
                  replace H : (channel_pressures.l0 k1 y376 (l0_3.length : Int) ji7 a0_0 a0_1 l0_2 l0_3) = some r := by first | (rw [hy376]; with_reducible exact H) | (have H2_ := (Option.bind_some _ _).symm.trans H; rw [hy376]; with_reducible exact H2_) | (have H2_ := (Option.bind_some _ _).symm.trans H; with_reducible exact H2_) | with_reducible exact H | (rw [hy376]; exact H) | exact H
                  have Ny376 := Aside0.mk hy376
                  clear hy376
                  have H' := Aside0.mk H
                  clear H
                  try go_wp2
                  have n0_ := Aside0.mk (Kd.R_drew HO_3.out)
                  have n1_ := Aside0.mk (blk_drew BK371.out)
                  have n2_ := Aside0.mk (below_drew1 HB.out)
                  clear HO_3
                  clear BK371
                  clear HB
                  have HO_3 := n0_
                  have BK371 := n1_
                  have HB := n2_
                  clear n0_ n1_ n2_
                  have p372 : 0 ≤ (x10_1 : Int) := of_decide_eq_true (by assumption)
                  have q372 : x10_1 < (l0_2.length : Int) := of_decide_eq_true (by assumption)
                  obtain ⟨ad372, e372, hx372_0, hx372_1⟩ := at_T30 HR0_2.out x10_1 p372 q372
                  have hw372_1 := hx372_1
                  have hw372_0 := hx372_0
                  cases e372
                  replace hx372_0 := (HB.out.cell (World.block_lt_of_cell? w _ hx372_0)).trans hx372_0
                  replace hx372_1 := (HB.out.cell (World.block_lt_of_cell? w _ hx372_1)).trans hx372_1
                  replace p372 := eq_true p372
                  replace q372 := eq_true q372
                  have p373 : 0 ≤ ((ji7) : Int) := of_decide_eq_true (by assumption)
                  have q373 : (ji7) < (l0_2.length : Int) := of_decide_eq_true (by assumption)
                  obtain ⟨ad373, e373, hx373_0, hx373_1⟩ := at_T30 HR0_2.out (ji7) p373 q373
                  have hw373_1 := hx373_1
                  have hw373_0 := hx373_0
                  obtain rfl : ad372 = ad373 := (by injection e373)
                  replace hx373_0 := (HB.out.cell (World.block_lt_of_cell? w _ hx373_0)).trans hx373_0
                  replace hx373_1 := (HB.out.cell (World.block_lt_of_cell? w _ hx373_1)).trans hx373_1
                  replace p373 := eq_true p373
                  replace q373 := eq_true q373
                  refine start_ (n := 15) (S := fun w' => w'.cell? ⟨gb371, 0, none⟩ = some (.int .i64 a0_0) ∧ w'.cell? ⟨gb371, 1, none⟩ = some (.int .i64 a0_1) ∧ w'.cell? ⟨gb371, 2, none⟩ = some (.slice (some ad372) l0_2.length c0_2) ∧ w'.cell? ⟨gb371, 3, none⟩ = some (.slice A0_3 l0_3.length c0_3) ∧ w'.cell? (ad372.add ((x10_1).toNat * 2)) = some (.int .i64 ((rd_T30 l0_2 x10_1).f0)) ∧ w'.cell? ⟨(ad372.add ((x10_1).toNat * 2)).block, (ad372.add ((x10_1).toNat * 2)).off + 1, none⟩ = some (.int .i64 ((rd_T30 l0_2 x10_1).f1)) ∧ w'.cell? (ad372.add (((ji7)).toNat * 2)) = some (.int .i64 ((rd_T30 l0_2 (ji7)).f0)) ∧ w'.cell? ⟨(ad372.add (((ji7)).toNat * 2)).block, (ad372.add (((ji7)).toNat * 2)).off + 1, none⟩ = some (.int .i64 ((rd_T30 l0_2 (ji7)).f1))) (ds := []) #[false, false, false, false, false, false, false, false, false, false, false, false, false, false, false] (by kernel_rfl) rfl rfl ⟨(blk_cell BK371.out 0).trans rfl, (blk_cell BK371.out 1).trans rfl, (blk_cell BK371.out 2).trans rfl, (blk_cell BK371.out 3).trans rfl, ((HB.out.cell (World.block_lt_of_cell? w _ hw372_0)).trans hw372_0), ((HB.out.cell (World.block_lt_of_cell? w _ hw372_1)).trans hw372_1), ((HB.out.cell (World.block_lt_of_cell? w _ hw373_0)).trans hw373_0), ((HB.out.cell (World.block_lt_of_cell? w _ hw373_1)).trans hw373_1)⟩ (fun hHeld => ?_); refine with_tabW channel_pressures.tab5 channel_pressures.bits5 (fun HT_ HW_ => ?_)
                  generalize wr.drew = w15 at HO_3 BK371 HB hx372_0 hx372_1 hx373_0 hx373_1 hHeld ⊢
                  refine pure_ (i := 0) (N := some 13) (v := ?_) (a' := ?_) #[true, false, false, false, false, false, false, false, false, false, false, false, false, false, false] rfl rfl (any_of HT_.out (by kernel_rfl)) (fun _ _ _ h => h) (Or.inl ⟨by rfl, ?_⟩) ?_ ?_
                  rotate_left
                  · intro w'
                    go_simp
                    with_reducible rfl
                  rotate_left
                  · simp only [Act.put, List.setIfInBounds_toArray, List.set_cons_zero, List.set_cons_succ, i64_w, i32_w]
                    rfl
                  refine pure_ (i := 2) (N := some 15) (v := ?_) (a' := ?_) #[true, false, true, false, false, false, false, false, false, false, false, false, false, false, false] rfl rfl (any_of HT_.out (by kernel_rfl)) (fun _ _ _ h => h) (Or.inl ⟨by rfl, ?_⟩) ?_ ?_
                  rotate_left
                  · intro w'
                    go_simp
                    with_reducible rfl
                  rotate_left
                  · simp only [Act.put, List.setIfInBounds_toArray, List.set_cons_zero, List.set_cons_succ, i64_w, i32_w]
                    rfl
                  refine pure_ (i := 5) (N := some 18) (v := ?_) (a' := ?_) #[true, false, true, false, false, true, false, false, false, false, false, false, false, false, false] rfl rfl (any_of HT_.out (by kernel_rfl)) (fun _ _ _ h => h) (Or.inl ⟨by rfl, ?_⟩) ?_ ?_
                  rotate_left
                  · intro w'
                    go_simp
                    with_reducible rfl
                  rotate_left
                  · simp only [Act.put, List.setIfInBounds_toArray, List.set_cons_zero, List.set_cons_succ, i64_w, i32_w]
                    rfl
                  refine pure_ (i := 7) (N := some 20) (v := ?_) (a' := ?_) #[true, false, true, false, false, true, false, true, false, false, false, false, false, false, false] rfl rfl (any_of HT_.out (by kernel_rfl)) (fun _ _ _ h => h) (Or.inl ⟨by rfl, ?_⟩) ?_ ?_
                  rotate_left
                  · intro w'
                    go_simp
                    with_reducible rfl
                  rotate_left
                  · simp only [Act.put, List.setIfInBounds_toArray, List.set_cons_zero, List.set_cons_succ, i64_w, i32_w]
                    rfl
                  refine pure_ (i := 8) (N := some 21) (v := ?_) (a' := ?_) #[true, false, true, false, false, true, false, true, true, false, false, false, false, false, false] rfl rfl (any_of HT_.out (by kernel_rfl)) (fun _ _ _ h => h) (Or.inl ⟨by rfl, ?_⟩) ?_ ?_
                  rotate_left
                  · intro w'
                    go_simp
                    with_reducible rfl
                  rotate_left
                  · simp only [Act.put, List.setIfInBounds_toArray, List.set_cons_zero, List.set_cons_succ, i64_w, i32_w]
                    rfl
                  refine take_ (i := 1) (N := some 14) (v := ?_) (a' := ?_) #[true, true, true, false, false, true, false, true, true, false, false, false, false, false, false] rfl rfl (take_ofW HT_.out HW_.out (by kernel_rfl)) (fun _ _ _ h => h) (Or.inl ⟨by rfl, ?_⟩) hHeld ?_ ?_
                  rotate_left
                  · rintro w' ⟨s0, s1, s2, s3, s4, s5, s6, s7⟩
                    go_simp
                    with_reducible rfl
                  rotate_left
                  · simp only [Act.put, List.setIfInBounds_toArray, List.set_cons_zero, List.set_cons_succ, i64_w, i32_w]
                    rfl
                  refine pure_ (i := 3) (N := some 16) (v := ?_) (a' := ?_) #[true, true, true, true, false, true, false, true, true, false, false, false, false, false, false] rfl rfl (any_of HT_.out (by kernel_rfl)) (fun _ _ _ h => h) (Or.inl ⟨by rfl, ?_⟩) ?_ ?_
                  rotate_left
                  · intro w'
                    go_simp
                    with_reducible rfl
                  rotate_left
                  · simp only [Act.put, List.setIfInBounds_toArray, List.set_cons_zero, List.set_cons_succ, i64_w, i32_w]
                    rfl
                  refine take_ (i := 4) (N := some 17) (v := ?_) (a' := ?_) #[true, true, true, true, true, true, false, true, true, false, false, false, false, false, false] rfl rfl (take_ofW HT_.out HW_.out (by kernel_rfl)) (fun _ _ _ h => h) (Or.inl ⟨by rfl, ?_⟩) hHeld ?_ ?_
                  rotate_left
                  · rintro w' ⟨s0, s1, s2, s3, s4, s5, s6, s7⟩
                    go_simp
                    with_reducible rfl
                  rotate_left
                  · simp only [Act.put, List.setIfInBounds_toArray, List.set_cons_zero, List.set_cons_succ, i64_w, i32_w]
                    rfl
                  refine take_ (i := 6) (N := some 19) (v := ?_) (a' := ?_) #[true, true, true, true, true, true, true, true, true, false, false, false, false, false, false] rfl rfl (take_ofW HT_.out HW_.out (by kernel_rfl)) (fun _ _ _ h => h) (Or.inl ⟨by rfl, ?_⟩) hHeld ?_ ?_
                  rotate_left
                  · rintro w' ⟨s0, s1, s2, s3, s4, s5, s6, s7⟩
                    go_simp
                    with_reducible rfl
                  rotate_left
                  · simp only [Act.put, List.setIfInBounds_toArray, List.set_cons_zero, List.set_cons_succ, i64_w, i32_w]
                    rfl
                  refine pure_ (i := 9) (N := some 22) (v := ?_) (a' := ?_) #[true, true, true, true, true, true, true, true, true, true, false, false, false, false, false] rfl rfl (any_of HT_.out (by kernel_rfl)) (fun _ _ _ h => h) (Or.inl ⟨by rfl, ?_⟩) ?_ ?_
                  rotate_left
                  · intro w'
                    go_simp
                    with_reducible rfl
                  rotate_left
                  · simp only [Act.put, List.setIfInBounds_toArray, List.set_cons_zero, List.set_cons_succ, i64_w, i32_w]
                    rfl
                  refine take_ (i := 10) (N := some 23) (v := ?_) (a' := ?_) #[true, true, true, true, true, true, true, true, true, true, true, false, false, false, false] rfl rfl (take_ofW HT_.out HW_.out (by kernel_rfl)) (fun _ _ _ h => h) (Or.inl ⟨by rfl, ?_⟩) hHeld ?_ ?_
                  rotate_left
                  · rintro w' ⟨s0, s1, s2, s3, s4, s5, s6, s7⟩
                    go_simp
                    with_reducible rfl
                  rotate_left
                  · simp only [Act.put, List.setIfInBounds_toArray, List.set_cons_zero, List.set_cons_succ, i64_w, i32_w]
                    rfl
                  refine join_ (σ := Nat × Nat) 2 #[true, true, true, true, true, true, true, true, true, true, true, true, true, false, false] (fun s_ => [(5, .pointer (some ⟨s_.1, 0, none⟩)), (6, .pointer (some ⟨s_.2, 0, none⟩))]) (fun s_ w' => (w'.cell? ⟨gb371, 0, none⟩ = some (.int .i64 a0_0) ∧ w'.cell? ⟨gb371, 1, none⟩ = some (.int .i64 a0_1) ∧ w'.cell? ⟨gb371, 2, none⟩ = some (.slice (some ad372) l0_2.length c0_2) ∧ w'.cell? ⟨gb371, 3, none⟩ = some (.slice A0_3 l0_3.length c0_3) ∧ w'.cell? (ad372.add ((x10_1).toNat * 2)) = some (.int .i64 ((rd_T30 l0_2 x10_1).f0)) ∧ w'.cell? ⟨(ad372.add ((x10_1).toNat * 2)).block, (ad372.add ((x10_1).toNat * 2)).off + 1, none⟩ = some (.int .i64 ((rd_T30 l0_2 x10_1).f1)) ∧ w'.cell? (ad372.add (((ji7)).toNat * 2)) = some (.int .i64 ((rd_T30 l0_2 (ji7)).f0)) ∧ w'.cell? ⟨(ad372.add (((ji7)).toNat * 2)).block, (ad372.add (((ji7)).toNat * 2)).off + 1, none⟩ = some (.int .i64 ((rd_T30 l0_2 (ji7)).f1))) ∧ (Kd.R k30 30 w' w.heap.size (fun k_ => k_ ≠ s_.1 ∧ k_ ≠ s_.2) u3 x3_1) ∧ (w'.heap[gb371]? = some (.cells #[.int .i64 a0_0, .int .i64 a0_1, .slice (some ad372) l0_2.length c0_2, .slice A0_3 l0_3.length c0_3] 78 (0, 0))) ∧ (w'.heap[s_.1]? = some (.cells #[.int .i64 0, .int .i64 0] 30 (0, 0))) ∧ (w'.heap[s_.2]? = some (.cells #[.int .i64 0, .int .i64 0] 30 (0, 0))) ∧ (w.heap.size ≤ s_.1) ∧ (w.heap.size ≤ s_.1) ∧ (gb371 ≠ s_.1) ∧ (s_.1 ≠ gb371) ∧ (s_.2 ≠ s_.1) ∧ (s_.1 ≠ s_.2) ∧ (w.heap.size ≤ s_.2) ∧ (w.heap.size ≤ s_.2) ∧ (gb371 ≠ s_.2) ∧ (s_.2 ≠ gb371) ∧ (Below w.heap.size w w')) ?_ ?_
                  rotate_left
                  · intro hCont
                    refine two_ (i := 11) (j := 12) (Ni := some 5) (Nj := some 6) #[true, true, true, true, true, true, true, true, true, true, true, true, false, false, false] #[true, true, true, true, true, true, true, true, true, true, true, false, true, false, false] rfl rfl rfl rfl (two_of HT_.out (by kernel_rfl)) (by decide) (by decide) (fun K hK => ?_) (fun K hK => ?_)
                    · skip
                      refine box_step ?hg (N := 5) ?hd (cs := #[.int .i64 0, .int .i64 0]) (t := 30) ?hr ?_; (case hd => rfl); (case hg => rfl); (case hr => first | (go_simp; done) | (go_simp; rfl))
                      intro gb374 hg w16 hbox hb
                      have n0_ := Aside0.mk (Kd.R_below (Kd.R_elderB (by (with_reducible repeat (first | apply Kd.R_alloc | apply Kd.R_drewN | apply Kd.R_drew)); exact HO_3.out) gb374 (Nat.le_of_eq hg.symm)) hb)
                      have n1_ := Aside0.mk (blk_below (g := gb371) (o := .cells #[.int .i64 a0_0, .int .i64 a0_1, .slice (some ad372) l0_2.length c0_2, .slice A0_3 l0_3.length c0_3] 78 (0, 0)) (by (with_reducible repeat (first | refine blk_drewN ?_ _ | refine blk_drew ?_ | refine blk_alloc ?_ _)); exact BK371.out) hb)
                      have n2_ := Aside0.mk (below_step (by repeat (first | (with_reducible first | exact HB.out | apply below_alloc | apply pw_below_drewN | apply below_drew1 | refine below_set ?_ GE371.out) | exact HB.out)) hb)
                      have n3_ := Aside0.mk (hbox)
                      have n4_ := Aside0.mk ((by rw [hg]; exact (below_size (by repeat (first | (with_reducible first | exact HB.out | apply below_alloc | apply pw_below_drewN | apply below_drew1 | refine below_set ?_ GE371.out) | exact HB.out))) : w.heap.size ≤ gb374))
                      have n5_ := Aside0.mk ((by rw [hg]; exact (below_size (by repeat (first | (with_reducible first | exact HB.out | apply below_alloc | apply pw_below_drewN | apply below_drew1 | refine below_set ?_ GE371.out) | exact HB.out))) : w.heap.size ≤ gb374))
                      have n6_ := Aside0.mk ((by rw [hg]; exact Nat.ne_of_lt (blk_lt (g := gb371) (o := .cells #[.int .i64 a0_0, .int .i64 a0_1, .slice (some ad372) l0_2.length c0_2, .slice A0_3 l0_3.length c0_3] 78 (0, 0)) (by (with_reducible repeat (first | refine blk_drewN ?_ _ | refine blk_drew ?_ | refine blk_alloc ?_ _)); exact BK371.out)) : gb371 ≠ gb374))
                      have n7_ := Aside0.mk ((by rw [hg]; exact Nat.ne_of_gt (blk_lt (g := gb371) (o := .cells #[.int .i64 a0_0, .int .i64 a0_1, .slice (some ad372) l0_2.length c0_2, .slice A0_3 l0_3.length c0_3] 78 (0, 0)) (by (with_reducible repeat (first | refine blk_drewN ?_ _ | refine blk_drew ?_ | refine blk_alloc ?_ _)); exact BK371.out)) : gb374 ≠ gb371))
                      clear HO_3
                      clear BK371
                      clear HB
                      have HO_3 := n0_
                      have BK371 := n1_
                      have HB := n2_
                      have BK374 := n3_
                      have GW374 := n4_
                      have GE374 := n5_
                      have NB371_374 := n6_
                      have NB374_371 := n7_
                      clear n0_ n1_ n2_ n3_ n4_ n5_ n6_ n7_
                      clear hb hbox hg
                      refine hK.out _ _ ⟨(blk_cell BK371.out 0).trans rfl, (blk_cell BK371.out 1).trans rfl, (blk_cell BK371.out 2).trans rfl, (blk_cell BK371.out 3).trans rfl, ((HB.out.cell (World.block_lt_of_cell? w _ hw372_0)).trans hw372_0), ((HB.out.cell (World.block_lt_of_cell? w _ hw372_1)).trans hw372_1), ((HB.out.cell (World.block_lt_of_cell? w _ hw373_0)).trans hw373_0), ((HB.out.cell (World.block_lt_of_cell? w _ hw373_1)).trans hw373_1)⟩ (fun hHeld => ?_)
                      clear hK K
                      refine norm_ (a' := ?_) ?_ ?_
                      rotate_left
                      · show Act.put _ (some 5) _ = _
                        simp only [Act.put, List.setIfInBounds_toArray, List.set_cons_zero, List.set_cons_succ, i64_w, i32_w]
                        rfl
                      refine one_ (i := 12) (N := some 6) #[true, true, true, true, true, true, true, true, true, true, true, true, true, false, false] rfl rfl (one_of HT_.out (by kernel_rfl)) (by decide) (fun K hK => ?_)
                      refine box_step ?hg (N := 6) ?hd (cs := #[.int .i64 0, .int .i64 0]) (t := 30) ?hr ?_; (case hd => rfl); (case hg => rfl); (case hr => first | (go_simp; done) | (go_simp; rfl))
                      intro gb375 hg w17 hbox hb
                      have n0_ := Aside0.mk (Kd.R_below (Kd.R_elderB (by (with_reducible repeat (first | apply Kd.R_alloc | apply Kd.R_drewN | apply Kd.R_drew)); exact HO_3.out) gb375 (Nat.le_of_eq hg.symm)) hb)
                      have n1_ := Aside0.mk (blk_below (g := gb371) (o := .cells #[.int .i64 a0_0, .int .i64 a0_1, .slice (some ad372) l0_2.length c0_2, .slice A0_3 l0_3.length c0_3] 78 (0, 0)) (by (with_reducible repeat (first | refine blk_drewN ?_ _ | refine blk_drew ?_ | refine blk_alloc ?_ _)); exact BK371.out) hb)
                      have n2_ := Aside0.mk (blk_below (g := gb374) (o := .cells #[.int .i64 0, .int .i64 0] 30 (0, 0)) (by (with_reducible repeat (first | refine blk_drewN ?_ _ | refine blk_drew ?_ | refine blk_alloc ?_ _)); exact BK374.out) hb)
                      have n3_ := Aside0.mk (below_step (by repeat (first | (with_reducible first | exact HB.out | apply below_alloc | apply pw_below_drewN | apply below_drew1 | refine below_set ?_ GE371.out | refine below_set ?_ GE374.out) | exact HB.out)) hb)
                      have n4_ := Aside0.mk (hbox)
                      have n5_ := Aside0.mk ((by rw [hg]; exact (below_size (by repeat (first | (with_reducible first | exact HB.out | apply below_alloc | apply pw_below_drewN | apply below_drew1 | refine below_set ?_ GE371.out | refine below_set ?_ GE374.out) | exact HB.out))) : w.heap.size ≤ gb375))
                      have n6_ := Aside0.mk ((by rw [hg]; exact (below_size (by repeat (first | (with_reducible first | exact HB.out | apply below_alloc | apply pw_below_drewN | apply below_drew1 | refine below_set ?_ GE371.out | refine below_set ?_ GE374.out) | exact HB.out))) : w.heap.size ≤ gb375))
                      have n7_ := Aside0.mk ((by rw [hg]; exact Nat.ne_of_lt (blk_lt (g := gb371) (o := .cells #[.int .i64 a0_0, .int .i64 a0_1, .slice (some ad372) l0_2.length c0_2, .slice A0_3 l0_3.length c0_3] 78 (0, 0)) (by (with_reducible repeat (first | refine blk_drewN ?_ _ | refine blk_drew ?_ | refine blk_alloc ?_ _)); exact BK371.out)) : gb371 ≠ gb375))
                      have n8_ := Aside0.mk ((by rw [hg]; exact Nat.ne_of_gt (blk_lt (g := gb371) (o := .cells #[.int .i64 a0_0, .int .i64 a0_1, .slice (some ad372) l0_2.length c0_2, .slice A0_3 l0_3.length c0_3] 78 (0, 0)) (by (with_reducible repeat (first | refine blk_drewN ?_ _ | refine blk_drew ?_ | refine blk_alloc ?_ _)); exact BK371.out)) : gb375 ≠ gb371))
                      have n9_ := Aside0.mk ((by rw [hg]; exact Nat.ne_of_lt (blk_lt (g := gb374) (o := .cells #[.int .i64 0, .int .i64 0] 30 (0, 0)) (by (with_reducible repeat (first | refine blk_drewN ?_ _ | refine blk_drew ?_ | refine blk_alloc ?_ _)); exact BK374.out)) : gb374 ≠ gb375))
                      have n10_ := Aside0.mk ((by rw [hg]; exact Nat.ne_of_gt (blk_lt (g := gb374) (o := .cells #[.int .i64 0, .int .i64 0] 30 (0, 0)) (by (with_reducible repeat (first | refine blk_drewN ?_ _ | refine blk_drew ?_ | refine blk_alloc ?_ _)); exact BK374.out)) : gb375 ≠ gb374))
                      clear HO_3
                      clear BK371
                      clear BK374
                      clear HB
                      have HO_3 := n0_
                      have BK371 := n1_
                      have BK374 := n2_
                      have HB := n3_
                      have BK375 := n4_
                      have GW375 := n5_
                      have GE375 := n6_
                      have NB371_375 := n7_
                      have NB375_371 := n8_
                      have NB374_375 := n9_
                      have NB375_374 := n10_
                      clear n0_ n1_ n2_ n3_ n4_ n5_ n6_ n7_ n8_ n9_ n10_
                      clear hb hbox hg
                      refine hK.out _ _ ⟨(blk_cell BK371.out 0).trans rfl, (blk_cell BK371.out 1).trans rfl, (blk_cell BK371.out 2).trans rfl, (blk_cell BK371.out 3).trans rfl, ((HB.out.cell (World.block_lt_of_cell? w _ hw372_0)).trans hw372_0), ((HB.out.cell (World.block_lt_of_cell? w _ hw372_1)).trans hw372_1), ((HB.out.cell (World.block_lt_of_cell? w _ hw373_0)).trans hw373_0), ((HB.out.cell (World.block_lt_of_cell? w _ hw373_1)).trans hw373_1)⟩ (fun hHeld => ?_)
                      clear hK K
                      refine norm_ (a' := ?_) ?_ ?_
                      rotate_left
                      · show Act.put _ (some 6) _ = _
                        simp only [Act.put, List.setIfInBounds_toArray, List.set_cons_zero, List.set_cons_succ, i64_w, i32_w]
                        rfl
                      exact norm_ (by simp only [putAll, Act.put, List.setIfInBounds_toArray, List.set_cons_zero, List.set_cons_succ]) (hCont (gb374, gb375) _ ⟨hHeld, (by (with_reducible repeat (first | apply Kd.R_alloc | apply Kd.R_drewN | apply Kd.R_drew)); exact Kd.R_mono HO_3.out (fun _ hk => ⟨hk.1.2, hk.2⟩)), (by (with_reducible repeat (first | refine blk_drewN ?_ _ | refine blk_drew ?_ | refine blk_alloc ?_ _)); exact BK371.out), (by (with_reducible repeat (first | refine blk_drewN ?_ _ | refine blk_drew ?_ | refine blk_alloc ?_ _)); exact BK374.out), (by (with_reducible repeat (first | refine blk_drewN ?_ _ | refine blk_drew ?_ | refine blk_alloc ?_ _)); exact BK375.out), GW374.out, GE374.out, NB371_374.out, NB374_371.out, NB375_374.out, NB374_375.out, GW375.out, GE375.out, NB371_375.out, NB375_371.out, (by repeat (first | (with_reducible first | exact HB.out | apply below_alloc | apply pw_below_drewN | apply below_drew1 | refine below_set ?_ GE371.out | refine below_set ?_ GE374.out | refine below_set ?_ GE375.out) | exact HB.out))⟩)
                    · skip
                      refine box_step ?hg (N := 6) ?hd (cs := #[.int .i64 0, .int .i64 0]) (t := 30) ?hr ?_; (case hd => rfl); (case hg => rfl); (case hr => first | (go_simp; done) | (go_simp; rfl))
                      intro gb375 hg w16 hbox hb
                      have n0_ := Aside0.mk (Kd.R_below (Kd.R_elderB (by (with_reducible repeat (first | apply Kd.R_alloc | apply Kd.R_drewN | apply Kd.R_drew)); exact HO_3.out) gb375 (Nat.le_of_eq hg.symm)) hb)
                      have n1_ := Aside0.mk (blk_below (g := gb371) (o := .cells #[.int .i64 a0_0, .int .i64 a0_1, .slice (some ad372) l0_2.length c0_2, .slice A0_3 l0_3.length c0_3] 78 (0, 0)) (by (with_reducible repeat (first | refine blk_drewN ?_ _ | refine blk_drew ?_ | refine blk_alloc ?_ _)); exact BK371.out) hb)
                      have n2_ := Aside0.mk (below_step (by repeat (first | (with_reducible first | exact HB.out | apply below_alloc | apply pw_below_drewN | apply below_drew1 | refine below_set ?_ GE371.out) | exact HB.out)) hb)
                      have n3_ := Aside0.mk (hbox)
                      have n4_ := Aside0.mk ((by rw [hg]; exact (below_size (by repeat (first | (with_reducible first | exact HB.out | apply below_alloc | apply pw_below_drewN | apply below_drew1 | refine below_set ?_ GE371.out) | exact HB.out))) : w.heap.size ≤ gb375))
                      have n5_ := Aside0.mk ((by rw [hg]; exact (below_size (by repeat (first | (with_reducible first | exact HB.out | apply below_alloc | apply pw_below_drewN | apply below_drew1 | refine below_set ?_ GE371.out) | exact HB.out))) : w.heap.size ≤ gb375))
                      have n6_ := Aside0.mk ((by rw [hg]; exact Nat.ne_of_lt (blk_lt (g := gb371) (o := .cells #[.int .i64 a0_0, .int .i64 a0_1, .slice (some ad372) l0_2.length c0_2, .slice A0_3 l0_3.length c0_3] 78 (0, 0)) (by (with_reducible repeat (first | refine blk_drewN ?_ _ | refine blk_drew ?_ | refine blk_alloc ?_ _)); exact BK371.out)) : gb371 ≠ gb375))
                      have n7_ := Aside0.mk ((by rw [hg]; exact Nat.ne_of_gt (blk_lt (g := gb371) (o := .cells #[.int .i64 a0_0, .int .i64 a0_1, .slice (some ad372) l0_2.length c0_2, .slice A0_3 l0_3.length c0_3] 78 (0, 0)) (by (with_reducible repeat (first | refine blk_drewN ?_ _ | refine blk_drew ?_ | refine blk_alloc ?_ _)); exact BK371.out)) : gb375 ≠ gb371))
                      clear HO_3
                      clear BK371
                      clear HB
                      have HO_3 := n0_
                      have BK371 := n1_
                      have HB := n2_
                      have BK375 := n3_
                      have GW375 := n4_
                      have GE375 := n5_
                      have NB371_375 := n6_
                      have NB375_371 := n7_
                      clear n0_ n1_ n2_ n3_ n4_ n5_ n6_ n7_
                      clear hb hbox hg
                      refine hK.out _ _ ⟨(blk_cell BK371.out 0).trans rfl, (blk_cell BK371.out 1).trans rfl, (blk_cell BK371.out 2).trans rfl, (blk_cell BK371.out 3).trans rfl, ((HB.out.cell (World.block_lt_of_cell? w _ hw372_0)).trans hw372_0), ((HB.out.cell (World.block_lt_of_cell? w _ hw372_1)).trans hw372_1), ((HB.out.cell (World.block_lt_of_cell? w _ hw373_0)).trans hw373_0), ((HB.out.cell (World.block_lt_of_cell? w _ hw373_1)).trans hw373_1)⟩ (fun hHeld => ?_)
                      clear hK K
                      refine norm_ (a' := ?_) ?_ ?_
                      rotate_left
                      · show Act.put _ (some 6) _ = _
                        simp only [Act.put, List.setIfInBounds_toArray, List.set_cons_zero, List.set_cons_succ, i64_w, i32_w]
                        rfl
                      refine one_ (i := 11) (N := some 5) #[true, true, true, true, true, true, true, true, true, true, true, true, true, false, false] rfl rfl (one_of HT_.out (by kernel_rfl)) (by decide) (fun K hK => ?_)
                      refine box_step ?hg (N := 5) ?hd (cs := #[.int .i64 0, .int .i64 0]) (t := 30) ?hr ?_; (case hd => rfl); (case hg => rfl); (case hr => first | (go_simp; done) | (go_simp; rfl))
                      intro gb374 hg w17 hbox hb
                      have n0_ := Aside0.mk (Kd.R_below (Kd.R_elderB (by (with_reducible repeat (first | apply Kd.R_alloc | apply Kd.R_drewN | apply Kd.R_drew)); exact HO_3.out) gb374 (Nat.le_of_eq hg.symm)) hb)
                      have n1_ := Aside0.mk (blk_below (g := gb371) (o := .cells #[.int .i64 a0_0, .int .i64 a0_1, .slice (some ad372) l0_2.length c0_2, .slice A0_3 l0_3.length c0_3] 78 (0, 0)) (by (with_reducible repeat (first | refine blk_drewN ?_ _ | refine blk_drew ?_ | refine blk_alloc ?_ _)); exact BK371.out) hb)
                      have n2_ := Aside0.mk (blk_below (g := gb375) (o := .cells #[.int .i64 0, .int .i64 0] 30 (0, 0)) (by (with_reducible repeat (first | refine blk_drewN ?_ _ | refine blk_drew ?_ | refine blk_alloc ?_ _)); exact BK375.out) hb)
                      have n3_ := Aside0.mk (below_step (by repeat (first | (with_reducible first | exact HB.out | apply below_alloc | apply pw_below_drewN | apply below_drew1 | refine below_set ?_ GE371.out | refine below_set ?_ GE375.out) | exact HB.out)) hb)
                      have n4_ := Aside0.mk (hbox)
                      have n5_ := Aside0.mk ((by rw [hg]; exact (below_size (by repeat (first | (with_reducible first | exact HB.out | apply below_alloc | apply pw_below_drewN | apply below_drew1 | refine below_set ?_ GE371.out | refine below_set ?_ GE375.out) | exact HB.out))) : w.heap.size ≤ gb374))
                      have n6_ := Aside0.mk ((by rw [hg]; exact (below_size (by repeat (first | (with_reducible first | exact HB.out | apply below_alloc | apply pw_below_drewN | apply below_drew1 | refine below_set ?_ GE371.out | refine below_set ?_ GE375.out) | exact HB.out))) : w.heap.size ≤ gb374))
                      have n7_ := Aside0.mk ((by rw [hg]; exact Nat.ne_of_lt (blk_lt (g := gb371) (o := .cells #[.int .i64 a0_0, .int .i64 a0_1, .slice (some ad372) l0_2.length c0_2, .slice A0_3 l0_3.length c0_3] 78 (0, 0)) (by (with_reducible repeat (first | refine blk_drewN ?_ _ | refine blk_drew ?_ | refine blk_alloc ?_ _)); exact BK371.out)) : gb371 ≠ gb374))
                      have n8_ := Aside0.mk ((by rw [hg]; exact Nat.ne_of_gt (blk_lt (g := gb371) (o := .cells #[.int .i64 a0_0, .int .i64 a0_1, .slice (some ad372) l0_2.length c0_2, .slice A0_3 l0_3.length c0_3] 78 (0, 0)) (by (with_reducible repeat (first | refine blk_drewN ?_ _ | refine blk_drew ?_ | refine blk_alloc ?_ _)); exact BK371.out)) : gb374 ≠ gb371))
                      have n9_ := Aside0.mk ((by rw [hg]; exact Nat.ne_of_lt (blk_lt (g := gb375) (o := .cells #[.int .i64 0, .int .i64 0] 30 (0, 0)) (by (with_reducible repeat (first | refine blk_drewN ?_ _ | refine blk_drew ?_ | refine blk_alloc ?_ _)); exact BK375.out)) : gb375 ≠ gb374))
                      have n10_ := Aside0.mk ((by rw [hg]; exact Nat.ne_of_gt (blk_lt (g := gb375) (o := .cells #[.int .i64 0, .int .i64 0] 30 (0, 0)) (by (with_reducible repeat (first | refine blk_drewN ?_ _ | refine blk_drew ?_ | refine blk_alloc ?_ _)); exact BK375.out)) : gb374 ≠ gb375))
                      clear HO_3
                      clear BK371
                      clear BK375
                      clear HB
                      have HO_3 := n0_
                      have BK371 := n1_
                      have BK375 := n2_
                      have HB := n3_
                      have BK374 := n4_
                      have GW374 := n5_
                      have GE374 := n6_
                      have NB371_374 := n7_
                      have NB374_371 := n8_
                      have NB375_374 := n9_
                      have NB374_375 := n10_
                      clear n0_ n1_ n2_ n3_ n4_ n5_ n6_ n7_ n8_ n9_ n10_
                      clear hb hbox hg
                      refine hK.out _ _ ⟨(blk_cell BK371.out 0).trans rfl, (blk_cell BK371.out 1).trans rfl, (blk_cell BK371.out 2).trans rfl, (blk_cell BK371.out 3).trans rfl, ((HB.out.cell (World.block_lt_of_cell? w _ hw372_0)).trans hw372_0), ((HB.out.cell (World.block_lt_of_cell? w _ hw372_1)).trans hw372_1), ((HB.out.cell (World.block_lt_of_cell? w _ hw373_0)).trans hw373_0), ((HB.out.cell (World.block_lt_of_cell? w _ hw373_1)).trans hw373_1)⟩ (fun hHeld => ?_)
                      clear hK K
                      refine norm_ (a' := ?_) ?_ ?_
                      rotate_left
                      · show Act.put _ (some 5) _ = _
                        simp only [Act.put, List.setIfInBounds_toArray, List.set_cons_zero, List.set_cons_succ, i64_w, i32_w]
                        rfl
                      exact norm_ (by simp only [putAll, Act.put, List.setIfInBounds_toArray, List.set_cons_zero, List.set_cons_succ]) (hCont (gb374, gb375) _ ⟨hHeld, (by (with_reducible repeat (first | apply Kd.R_alloc | apply Kd.R_drewN | apply Kd.R_drew)); exact Kd.R_mono HO_3.out (fun _ hk => ⟨hk.2, hk.1.2⟩)), (by (with_reducible repeat (first | refine blk_drewN ?_ _ | refine blk_drew ?_ | refine blk_alloc ?_ _)); exact BK371.out), (by (with_reducible repeat (first | refine blk_drewN ?_ _ | refine blk_drew ?_ | refine blk_alloc ?_ _)); exact BK374.out), (by (with_reducible repeat (first | refine blk_drewN ?_ _ | refine blk_drew ?_ | refine blk_alloc ?_ _)); exact BK375.out), GW374.out, GE374.out, NB371_374.out, NB374_371.out, NB375_374.out, NB374_375.out, GW375.out, GE375.out, NB371_375.out, NB375_371.out, (by repeat (first | (with_reducible first | exact HB.out | apply below_alloc | apply pw_below_drewN | apply below_drew1 | refine below_set ?_ GE371.out | refine below_set ?_ GE375.out | refine below_set ?_ GE374.out) | exact HB.out))⟩)
                  rintro ⟨gb374, gb375⟩ w18 ⟨hS_, h0_, h1_, h2_, h3_, h4_, h5_, h6_, h7_, h8_, h9_, h10_, h11_, h12_, h13_, h14_⟩
                  have n0_ : Aside0 (Kd.R k30 30 w18 w.heap.size (fun k_ => k_ ≠ gb374 ∧ k_ ≠ gb375) u3 x3_1) := ⟨h0_⟩
                  have n1_ : Aside0 (w18.heap[gb371]? = some (.cells #[.int .i64 a0_0, .int .i64 a0_1, .slice (some ad372) l0_2.length c0_2, .slice A0_3 l0_3.length c0_3] 78 (0, 0))) := ⟨h1_⟩
                  have n2_ : Aside0 (w18.heap[gb374]? = some (.cells #[.int .i64 0, .int .i64 0] 30 (0, 0))) := ⟨h2_⟩
                  have n3_ : Aside0 (w18.heap[gb375]? = some (.cells #[.int .i64 0, .int .i64 0] 30 (0, 0))) := ⟨h3_⟩
                  have n4_ : Aside0 (w.heap.size ≤ gb374) := ⟨h4_⟩
                  have n5_ : Aside0 (w.heap.size ≤ gb374) := ⟨h5_⟩
                  have n6_ : Aside0 (gb371 ≠ gb374) := ⟨h6_⟩
                  have n7_ : Aside0 (gb374 ≠ gb371) := ⟨h7_⟩
                  have n8_ : Aside0 (gb375 ≠ gb374) := ⟨h8_⟩
                  have n9_ : Aside0 (gb374 ≠ gb375) := ⟨h9_⟩
                  have n10_ : Aside0 (w.heap.size ≤ gb375) := ⟨h10_⟩
                  have n11_ : Aside0 (w.heap.size ≤ gb375) := ⟨h11_⟩
                  have n12_ : Aside0 (gb371 ≠ gb375) := ⟨h12_⟩
                  have n13_ : Aside0 (gb375 ≠ gb371) := ⟨h13_⟩
                  have n14_ : Aside0 (Below w.heap.size w w18) := ⟨h14_⟩
                  clear HO_3
                  clear BK371
                  clear HB
                  clear h0_ h1_ h2_ h3_ h4_ h5_ h6_ h7_ h8_ h9_ h10_ h11_ h12_ h13_ h14_
                  have HO_3 := n0_
                  have BK371 := n1_
                  have BK374 := n2_
                  have BK375 := n3_
                  have GW374 := n4_
                  have GE374 := n5_
                  have NB371_374 := n6_
                  have NB374_371 := n7_
                  have NB375_374 := n8_
                  have NB374_375 := n9_
                  have GW375 := n10_
                  have GE375 := n11_
                  have NB371_375 := n12_
                  have NB375_371 := n13_
                  have HB := n14_
                  clear n0_ n1_ n2_ n3_ n4_ n5_ n6_ n7_ n8_ n9_ n10_ n11_ n12_ n13_ n14_
                  have hHeld : w18.cell? ⟨gb371, 0, none⟩ = some (.int .i64 a0_0) ∧ w18.cell? ⟨gb371, 1, none⟩ = some (.int .i64 a0_1) ∧ w18.cell? ⟨gb371, 2, none⟩ = some (.slice (some ad372) l0_2.length c0_2) ∧ w18.cell? ⟨gb371, 3, none⟩ = some (.slice A0_3 l0_3.length c0_3) ∧ w18.cell? (ad372.add ((x10_1).toNat * 2)) = some (.int .i64 ((rd_T30 l0_2 x10_1).f0)) ∧ w18.cell? ⟨(ad372.add ((x10_1).toNat * 2)).block, (ad372.add ((x10_1).toNat * 2)).off + 1, none⟩ = some (.int .i64 ((rd_T30 l0_2 x10_1).f1)) ∧ w18.cell? (ad372.add (((ji7)).toNat * 2)) = some (.int .i64 ((rd_T30 l0_2 (ji7)).f0)) ∧ w18.cell? ⟨(ad372.add (((ji7)).toNat * 2)).block, (ad372.add (((ji7)).toNat * 2)).off + 1, none⟩ = some (.int .i64 ((rd_T30 l0_2 (ji7)).f1)) := hS_
                  refine norm_ (a' := ?_) ?_ ?_
                  rotate_left
                  · simp only [putAll, Act.put, List.setIfInBounds_toArray, List.set_cons_zero, List.set_cons_succ]
                    rfl
                  refine one_ (i := 13) (N := none) #[true, true, true, true, true, true, true, true, true, true, true, true, true, true, false] rfl rfl (one_of HT_.out (by kernel_rfl)) (by decide) (fun K hK => ?_)
                  have hs19 : w18.cell? ⟨gb374, 0, none⟩ = some (.int .i64 0) := (blk_cell BK374.out 0).trans rfl
                  have hfs19 := blk_frozen BK374.out 0
                  have hns19_0 := NB371_374.out
                  have hns19_2 := NB375_374.out
                  have hms19_0 := NB374_371.out
                  have hms19_2 := NB374_375.out
                  have hs20 : w18.cell? ⟨gb374, 1, none⟩ = some (.int .i64 0) := (blk_cell BK374.out 1).trans rfl
                  have hfs20 := blk_frozen BK374.out 1
                  have hns20_0 := NB371_374.out
                  have hns20_2 := NB375_374.out
                  have hms20_0 := NB374_371.out
                  have hms20_2 := NB374_375.out
                  refine skip_ (w1 := ?_) (by rfl) rfl ?_ ?_
                  rotate_left
                  · go_simp
                    rfl
                  refine hK.out _ _ ⟨((cell_far (p := ⟨gb374, _, none⟩) NB371_374.out _).trans (((cell_far (p := ⟨gb374, _, none⟩) NB371_374.out _).trans (hHeld.1)))), ((cell_far (p := ⟨gb374, _, none⟩) NB371_374.out _).trans (((cell_far (p := ⟨gb374, _, none⟩) NB371_374.out _).trans (hHeld.2.1)))), ((cell_far (p := ⟨gb374, _, none⟩) NB371_374.out _).trans (((cell_far (p := ⟨gb374, _, none⟩) NB371_374.out _).trans (hHeld.2.2.1)))), ((cell_far (p := ⟨gb374, _, none⟩) NB371_374.out _).trans (((cell_far (p := ⟨gb374, _, none⟩) NB371_374.out _).trans (hHeld.2.2.2.1)))), ((cell_far (p := ⟨gb374, _, none⟩) (by first | exact Nat.ne_of_lt (Nat.lt_of_lt_of_le (by have := World.block_lt_of_cell? _ _ hw372_0; first | rwa [add_block] at this | exact this) GW374.out) | (rw [add_block]; exact Nat.ne_of_lt (Nat.lt_of_lt_of_le (by have := World.block_lt_of_cell? _ _ hw372_0; first | rwa [add_block] at this | exact this) GW374.out)) | (show (Addr.add _ _).block ≠ _; rw [add_block]; exact Nat.ne_of_lt (Nat.lt_of_lt_of_le (by have := World.block_lt_of_cell? _ _ hw372_0; first | rwa [add_block] at this | exact this) GW374.out)) | (dsimp only; exact Nat.ne_of_lt (Nat.lt_of_lt_of_le (by have := World.block_lt_of_cell? _ _ hw372_0; first | rwa [add_block] at this | exact this) GW374.out))) _).trans (((cell_far (p := ⟨gb374, _, none⟩) (by first | exact Nat.ne_of_lt (Nat.lt_of_lt_of_le (by have := World.block_lt_of_cell? _ _ hw372_0; first | rwa [add_block] at this | exact this) GW374.out) | (rw [add_block]; exact Nat.ne_of_lt (Nat.lt_of_lt_of_le (by have := World.block_lt_of_cell? _ _ hw372_0; first | rwa [add_block] at this | exact this) GW374.out)) | (show (Addr.add _ _).block ≠ _; rw [add_block]; exact Nat.ne_of_lt (Nat.lt_of_lt_of_le (by have := World.block_lt_of_cell? _ _ hw372_0; first | rwa [add_block] at this | exact this) GW374.out)) | (dsimp only; exact Nat.ne_of_lt (Nat.lt_of_lt_of_le (by have := World.block_lt_of_cell? _ _ hw372_0; first | rwa [add_block] at this | exact this) GW374.out))) _).trans (hHeld.2.2.2.2.1)))), ((cell_far (p := ⟨gb374, _, none⟩) (by first | exact Nat.ne_of_lt (Nat.lt_of_lt_of_le (by have := World.block_lt_of_cell? _ _ hw372_1; first | rwa [add_block] at this | exact this) GW374.out) | (rw [add_block]; exact Nat.ne_of_lt (Nat.lt_of_lt_of_le (by have := World.block_lt_of_cell? _ _ hw372_1; first | rwa [add_block] at this | exact this) GW374.out)) | (show (Addr.add _ _).block ≠ _; rw [add_block]; exact Nat.ne_of_lt (Nat.lt_of_lt_of_le (by have := World.block_lt_of_cell? _ _ hw372_1; first | rwa [add_block] at this | exact this) GW374.out)) | (dsimp only; exact Nat.ne_of_lt (Nat.lt_of_lt_of_le (by have := World.block_lt_of_cell? _ _ hw372_1; first | rwa [add_block] at this | exact this) GW374.out))) _).trans (((cell_far (p := ⟨gb374, _, none⟩) (by first | exact Nat.ne_of_lt (Nat.lt_of_lt_of_le (by have := World.block_lt_of_cell? _ _ hw372_1; first | rwa [add_block] at this | exact this) GW374.out) | (rw [add_block]; exact Nat.ne_of_lt (Nat.lt_of_lt_of_le (by have := World.block_lt_of_cell? _ _ hw372_1; first | rwa [add_block] at this | exact this) GW374.out)) | (show (Addr.add _ _).block ≠ _; rw [add_block]; exact Nat.ne_of_lt (Nat.lt_of_lt_of_le (by have := World.block_lt_of_cell? _ _ hw372_1; first | rwa [add_block] at this | exact this) GW374.out)) | (dsimp only; exact Nat.ne_of_lt (Nat.lt_of_lt_of_le (by have := World.block_lt_of_cell? _ _ hw372_1; first | rwa [add_block] at this | exact this) GW374.out))) _).trans (hHeld.2.2.2.2.2.1)))), ((cell_far (p := ⟨gb374, _, none⟩) (by first | exact Nat.ne_of_lt (Nat.lt_of_lt_of_le (by have := World.block_lt_of_cell? _ _ hw373_0; first | rwa [add_block] at this | exact this) GW374.out) | (rw [add_block]; exact Nat.ne_of_lt (Nat.lt_of_lt_of_le (by have := World.block_lt_of_cell? _ _ hw373_0; first | rwa [add_block] at this | exact this) GW374.out)) | (show (Addr.add _ _).block ≠ _; rw [add_block]; exact Nat.ne_of_lt (Nat.lt_of_lt_of_le (by have := World.block_lt_of_cell? _ _ hw373_0; first | rwa [add_block] at this | exact this) GW374.out)) | (dsimp only; exact Nat.ne_of_lt (Nat.lt_of_lt_of_le (by have := World.block_lt_of_cell? _ _ hw373_0; first | rwa [add_block] at this | exact this) GW374.out))) _).trans (((cell_far (p := ⟨gb374, _, none⟩) (by first | exact Nat.ne_of_lt (Nat.lt_of_lt_of_le (by have := World.block_lt_of_cell? _ _ hw373_0; first | rwa [add_block] at this | exact this) GW374.out) | (rw [add_block]; exact Nat.ne_of_lt (Nat.lt_of_lt_of_le (by have := World.block_lt_of_cell? _ _ hw373_0; first | rwa [add_block] at this | exact this) GW374.out)) | (show (Addr.add _ _).block ≠ _; rw [add_block]; exact Nat.ne_of_lt (Nat.lt_of_lt_of_le (by have := World.block_lt_of_cell? _ _ hw373_0; first | rwa [add_block] at this | exact this) GW374.out)) | (dsimp only; exact Nat.ne_of_lt (Nat.lt_of_lt_of_le (by have := World.block_lt_of_cell? _ _ hw373_0; first | rwa [add_block] at this | exact this) GW374.out))) _).trans (hHeld.2.2.2.2.2.2.1)))), ((cell_far (p := ⟨gb374, _, none⟩) (by first | exact Nat.ne_of_lt (Nat.lt_of_lt_of_le (by have := World.block_lt_of_cell? _ _ hw373_1; first | rwa [add_block] at this | exact this) GW374.out) | (rw [add_block]; exact Nat.ne_of_lt (Nat.lt_of_lt_of_le (by have := World.block_lt_of_cell? _ _ hw373_1; first | rwa [add_block] at this | exact this) GW374.out)) | (show (Addr.add _ _).block ≠ _; rw [add_block]; exact Nat.ne_of_lt (Nat.lt_of_lt_of_le (by have := World.block_lt_of_cell? _ _ hw373_1; first | rwa [add_block] at this | exact this) GW374.out)) | (dsimp only; exact Nat.ne_of_lt (Nat.lt_of_lt_of_le (by have := World.block_lt_of_cell? _ _ hw373_1; first | rwa [add_block] at this | exact this) GW374.out))) _).trans (((cell_far (p := ⟨gb374, _, none⟩) (by first | exact Nat.ne_of_lt (Nat.lt_of_lt_of_le (by have := World.block_lt_of_cell? _ _ hw373_1; first | rwa [add_block] at this | exact this) GW374.out) | (rw [add_block]; exact Nat.ne_of_lt (Nat.lt_of_lt_of_le (by have := World.block_lt_of_cell? _ _ hw373_1; first | rwa [add_block] at this | exact this) GW374.out)) | (show (Addr.add _ _).block ≠ _; rw [add_block]; exact Nat.ne_of_lt (Nat.lt_of_lt_of_le (by have := World.block_lt_of_cell? _ _ hw373_1; first | rwa [add_block] at this | exact this) GW374.out)) | (dsimp only; exact Nat.ne_of_lt (Nat.lt_of_lt_of_le (by have := World.block_lt_of_cell? _ _ hw373_1; first | rwa [add_block] at this | exact this) GW374.out))) _).trans (hHeld.2.2.2.2.2.2.2))))⟩ (fun hHeld => ?_)
                  clear hK K
                  refine one_ (i := 14) (N := none) #[true, true, true, true, true, true, true, true, true, true, true, true, true, true, true] rfl rfl (one_of HT_.out (by kernel_rfl)) (by decide) (fun K hK => ?_)
                  have hs21 : w18.cell? ⟨gb375, 0, none⟩ = some (.int .i64 0) := (blk_cell BK375.out 0).trans rfl
                  have hfs21 := blk_frozen BK375.out 0
                  have hns21_0 := NB371_375.out
                  have hns21_1 := NB374_375.out
                  have hms21_0 := NB375_371.out
                  have hms21_1 := NB375_374.out
                  have hs22 : w18.cell? ⟨gb375, 1, none⟩ = some (.int .i64 0) := (blk_cell BK375.out 1).trans rfl
                  have hfs22 := blk_frozen BK375.out 1
                  have hns22_0 := NB371_375.out
                  have hns22_1 := NB374_375.out
                  have hms22_0 := NB375_371.out
                  have hms22_1 := NB375_374.out
                  refine skip_ (w1 := ?_) (by rfl) rfl ?_ ?_
                  rotate_left
                  · go_simp
                    rfl
                  refine hK.out _ _ ⟨((cell_far (p := ⟨gb375, _, none⟩) NB371_375.out _).trans (((cell_far (p := ⟨gb375, _, none⟩) NB371_375.out _).trans (hHeld.1)))), ((cell_far (p := ⟨gb375, _, none⟩) NB371_375.out _).trans (((cell_far (p := ⟨gb375, _, none⟩) NB371_375.out _).trans (hHeld.2.1)))), ((cell_far (p := ⟨gb375, _, none⟩) NB371_375.out _).trans (((cell_far (p := ⟨gb375, _, none⟩) NB371_375.out _).trans (hHeld.2.2.1)))), ((cell_far (p := ⟨gb375, _, none⟩) NB371_375.out _).trans (((cell_far (p := ⟨gb375, _, none⟩) NB371_375.out _).trans (hHeld.2.2.2.1)))), ((cell_far (p := ⟨gb375, _, none⟩) (by first | exact Nat.ne_of_lt (Nat.lt_of_lt_of_le (by have := World.block_lt_of_cell? _ _ hw372_0; first | rwa [add_block] at this | exact this) GW375.out) | (rw [add_block]; exact Nat.ne_of_lt (Nat.lt_of_lt_of_le (by have := World.block_lt_of_cell? _ _ hw372_0; first | rwa [add_block] at this | exact this) GW375.out)) | (show (Addr.add _ _).block ≠ _; rw [add_block]; exact Nat.ne_of_lt (Nat.lt_of_lt_of_le (by have := World.block_lt_of_cell? _ _ hw372_0; first | rwa [add_block] at this | exact this) GW375.out)) | (dsimp only; exact Nat.ne_of_lt (Nat.lt_of_lt_of_le (by have := World.block_lt_of_cell? _ _ hw372_0; first | rwa [add_block] at this | exact this) GW375.out))) _).trans (((cell_far (p := ⟨gb375, _, none⟩) (by first | exact Nat.ne_of_lt (Nat.lt_of_lt_of_le (by have := World.block_lt_of_cell? _ _ hw372_0; first | rwa [add_block] at this | exact this) GW375.out) | (rw [add_block]; exact Nat.ne_of_lt (Nat.lt_of_lt_of_le (by have := World.block_lt_of_cell? _ _ hw372_0; first | rwa [add_block] at this | exact this) GW375.out)) | (show (Addr.add _ _).block ≠ _; rw [add_block]; exact Nat.ne_of_lt (Nat.lt_of_lt_of_le (by have := World.block_lt_of_cell? _ _ hw372_0; first | rwa [add_block] at this | exact this) GW375.out)) | (dsimp only; exact Nat.ne_of_lt (Nat.lt_of_lt_of_le (by have := World.block_lt_of_cell? _ _ hw372_0; first | rwa [add_block] at this | exact this) GW375.out))) _).trans (hHeld.2.2.2.2.1)))), ((cell_far (p := ⟨gb375, _, none⟩) (by first | exact Nat.ne_of_lt (Nat.lt_of_lt_of_le (by have := World.block_lt_of_cell? _ _ hw372_1; first | rwa [add_block] at this | exact this) GW375.out) | (rw [add_block]; exact Nat.ne_of_lt (Nat.lt_of_lt_of_le (by have := World.block_lt_of_cell? _ _ hw372_1; first | rwa [add_block] at this | exact this) GW375.out)) | (show (Addr.add _ _).block ≠ _; rw [add_block]; exact Nat.ne_of_lt (Nat.lt_of_lt_of_le (by have := World.block_lt_of_cell? _ _ hw372_1; first | rwa [add_block] at this | exact this) GW375.out)) | (dsimp only; exact Nat.ne_of_lt (Nat.lt_of_lt_of_le (by have := World.block_lt_of_cell? _ _ hw372_1; first | rwa [add_block] at this | exact this) GW375.out))) _).trans (((cell_far (p := ⟨gb375, _, none⟩) (by first | exact Nat.ne_of_lt (Nat.lt_of_lt_of_le (by have := World.block_lt_of_cell? _ _ hw372_1; first | rwa [add_block] at this | exact this) GW375.out) | (rw [add_block]; exact Nat.ne_of_lt (Nat.lt_of_lt_of_le (by have := World.block_lt_of_cell? _ _ hw372_1; first | rwa [add_block] at this | exact this) GW375.out)) | (show (Addr.add _ _).block ≠ _; rw [add_block]; exact Nat.ne_of_lt (Nat.lt_of_lt_of_le (by have := World.block_lt_of_cell? _ _ hw372_1; first | rwa [add_block] at this | exact this) GW375.out)) | (dsimp only; exact Nat.ne_of_lt (Nat.lt_of_lt_of_le (by have := World.block_lt_of_cell? _ _ hw372_1; first | rwa [add_block] at this | exact this) GW375.out))) _).trans (hHeld.2.2.2.2.2.1)))), ((cell_far (p := ⟨gb375, _, none⟩) (by first | exact Nat.ne_of_lt (Nat.lt_of_lt_of_le (by have := World.block_lt_of_cell? _ _ hw373_0; first | rwa [add_block] at this | exact this) GW375.out) | (rw [add_block]; exact Nat.ne_of_lt (Nat.lt_of_lt_of_le (by have := World.block_lt_of_cell? _ _ hw373_0; first | rwa [add_block] at this | exact this) GW375.out)) | (show (Addr.add _ _).block ≠ _; rw [add_block]; exact Nat.ne_of_lt (Nat.lt_of_lt_of_le (by have := World.block_lt_of_cell? _ _ hw373_0; first | rwa [add_block] at this | exact this) GW375.out)) | (dsimp only; exact Nat.ne_of_lt (Nat.lt_of_lt_of_le (by have := World.block_lt_of_cell? _ _ hw373_0; first | rwa [add_block] at this | exact this) GW375.out))) _).trans (((cell_far (p := ⟨gb375, _, none⟩) (by first | exact Nat.ne_of_lt (Nat.lt_of_lt_of_le (by have := World.block_lt_of_cell? _ _ hw373_0; first | rwa [add_block] at this | exact this) GW375.out) | (rw [add_block]; exact Nat.ne_of_lt (Nat.lt_of_lt_of_le (by have := World.block_lt_of_cell? _ _ hw373_0; first | rwa [add_block] at this | exact this) GW375.out)) | (show (Addr.add _ _).block ≠ _; rw [add_block]; exact Nat.ne_of_lt (Nat.lt_of_lt_of_le (by have := World.block_lt_of_cell? _ _ hw373_0; first | rwa [add_block] at this | exact this) GW375.out)) | (dsimp only; exact Nat.ne_of_lt (Nat.lt_of_lt_of_le (by have := World.block_lt_of_cell? _ _ hw373_0; first | rwa [add_block] at this | exact this) GW375.out))) _).trans (hHeld.2.2.2.2.2.2.1)))), ((cell_far (p := ⟨gb375, _, none⟩) (by first | exact Nat.ne_of_lt (Nat.lt_of_lt_of_le (by have := World.block_lt_of_cell? _ _ hw373_1; first | rwa [add_block] at this | exact this) GW375.out) | (rw [add_block]; exact Nat.ne_of_lt (Nat.lt_of_lt_of_le (by have := World.block_lt_of_cell? _ _ hw373_1; first | rwa [add_block] at this | exact this) GW375.out)) | (show (Addr.add _ _).block ≠ _; rw [add_block]; exact Nat.ne_of_lt (Nat.lt_of_lt_of_le (by have := World.block_lt_of_cell? _ _ hw373_1; first | rwa [add_block] at this | exact this) GW375.out)) | (dsimp only; exact Nat.ne_of_lt (Nat.lt_of_lt_of_le (by have := World.block_lt_of_cell? _ _ hw373_1; first | rwa [add_block] at this | exact this) GW375.out))) _).trans (((cell_far (p := ⟨gb375, _, none⟩) (by first | exact Nat.ne_of_lt (Nat.lt_of_lt_of_le (by have := World.block_lt_of_cell? _ _ hw373_1; first | rwa [add_block] at this | exact this) GW375.out) | (rw [add_block]; exact Nat.ne_of_lt (Nat.lt_of_lt_of_le (by have := World.block_lt_of_cell? _ _ hw373_1; first | rwa [add_block] at this | exact this) GW375.out)) | (show (Addr.add _ _).block ≠ _; rw [add_block]; exact Nat.ne_of_lt (Nat.lt_of_lt_of_le (by have := World.block_lt_of_cell? _ _ hw373_1; first | rwa [add_block] at this | exact this) GW375.out)) | (dsimp only; exact Nat.ne_of_lt (Nat.lt_of_lt_of_le (by have := World.block_lt_of_cell? _ _ hw373_1; first | rwa [add_block] at this | exact this) GW375.out))) _).trans (hHeld.2.2.2.2.2.2.2))))⟩ (fun hHeld => ?_)
                  clear hK K
                  refine done_ (done_of HT_.out (by kernel_rfl)) ?_
                  have hnb23 := NB371_374.out
                  have hnc23 := NB374_371.out
                  have hnb24 := NB371_375.out
                  have hnc24 := NB375_371.out
                  have hcz25_0 := (blk_cell BK371.out 0).trans rfl
                  have hcz25_1 := (blk_cell BK371.out 1).trans rfl
                  have hcz25_2 := (blk_cell BK371.out 2).trans rfl
                  have hcz25_3 := (blk_cell BK371.out 3).trans rfl
                  have hfz25_0 := blk_frozen BK371.out 0
                  have hfz25_1 := blk_frozen BK371.out 1
                  have hfz25_2 := blk_frozen BK371.out 2
                  have hfz25_3 := blk_frozen BK371.out 3
                  have hnb26 := NB374_375.out
                  have hnc26 := NB375_374.out
                  have hcz27_0 := (blk_cell BK374.out 0).trans rfl
                  have hcz27_1 := (blk_cell BK374.out 1).trans rfl
                  have hfz27_0 := blk_frozen BK374.out 0
                  have hfz27_1 := blk_frozen BK374.out 1
                  have hcz28_0 := (blk_cell BK375.out 0).trans rfl
                  have hcz28_1 := (blk_cell BK375.out 1).trans rfl
                  have hfz28_0 := blk_frozen BK375.out 0
                  have hfz28_1 := blk_frozen BK375.out 1
                  try go_wp2_with (first | ((with_reducible refine gate_builtin (b := .append) (xs := #[.tmp 24, .tmp 46]) rfl ?_); at_builtin; refine Kd.R_append k30 (w0 := w) w.heap.size rfl (.tmp 24) (.tmp 46) 74 30 (.agg #[(.int .i64 0), (.int .i64 0)]) 16 rfl Tryz.underlying74 info30 rfl (by decide) (by omega) u3 x3_1 (⟨ji11, ji13⟩ : S30) [.int .i64 ji11, .int .i64 ji13] (fun k_ => k_ ≠ gb374 ∧ k_ ≠ gb375) (fun _ => False) rfl (by first | (go_simp; done) | (go_simp; rfl)) ?aP (fun _ hk => hk.elim) ?aF ?aO ?aB ?aS ?aL ?_; (case aP => exact k30_mkM _ _ _ (⟨ji11, ji13⟩ : S30)); (case aB => exact (by repeat (first | (with_reducible first | exact HB.out | apply below_alloc | apply pw_below_drewN | apply below_drew1 | refine below_set ?_ GE371.out | refine below_set ?_ GE374.out | refine below_set ?_ GE375.out) | exact HB.out))); (case aF => exact (fun k_ hk => ⟨Kd.freshB (g := gb374) (o := .cells #[.int .i64 ((rd_T30 l0_2 x10_1).f0), .int .i64 ((rd_T30 l0_2 x10_1).f1)] 30 (0, 0)) (by (with_reducible repeat (first | refine blk_drewN ?_ _ | refine blk_drew ?_ | refine blk_alloc ?_ _)); refine blk_far ?_ NB374_375.out _; (with_reducible repeat (first | refine blk_drewN ?_ _ | refine blk_drew ?_ | refine blk_alloc ?_ _)); refine blk_far ?_ NB374_375.out _; (with_reducible repeat (first | refine blk_drewN ?_ _ | refine blk_drew ?_ | refine blk_alloc ?_ _)); refine blk_put (cs := #[.int .i64 ((rd_T30 l0_2 x10_1).f0), .int .i64 0]) ?_ 1 _ rfl; (with_reducible repeat (first | refine blk_drewN ?_ _ | refine blk_drew ?_ | refine blk_alloc ?_ _)); refine blk_put (cs := #[.int .i64 0, .int .i64 0]) ?_ 0 _ rfl; (with_reducible repeat (first | refine blk_drewN ?_ _ | refine blk_drew ?_ | refine blk_alloc ?_ _)); exact BK374.out) k_ hk, Kd.freshB (g := gb375) (o := .cells #[.int .i64 ((rd_T30 l0_2 (ji7)).f0), .int .i64 ((rd_T30 l0_2 (ji7)).f1)] 30 (0, 0)) (by (with_reducible repeat (first | refine blk_drewN ?_ _ | refine blk_drew ?_ | refine blk_alloc ?_ _)); refine blk_put (cs := #[.int .i64 ((rd_T30 l0_2 (ji7)).f0), .int .i64 0]) ?_ 1 _ rfl; (with_reducible repeat (first | refine blk_drewN ?_ _ | refine blk_drew ?_ | refine blk_alloc ?_ _)); refine blk_put (cs := #[.int .i64 0, .int .i64 0]) ?_ 0 _ rfl; (with_reducible repeat (first | refine blk_drewN ?_ _ | refine blk_drew ?_ | refine blk_alloc ?_ _)); refine blk_far ?_ NB375_374.out _; (with_reducible repeat (first | refine blk_drewN ?_ _ | refine blk_drew ?_ | refine blk_alloc ?_ _)); refine blk_far ?_ NB375_374.out _; (with_reducible repeat (first | refine blk_drewN ?_ _ | refine blk_drew ?_ | refine blk_alloc ?_ _)); exact BK375.out) k_ hk⟩)); (case aO => exact (by (with_reducible repeat (first | apply Kd.R_alloc | apply Kd.R_drewN | apply Kd.R_drew)); exact Kd.R_mono (Kd.R_far (p := ⟨gb375, 1, none⟩) (Kd.R_far (p := ⟨gb375, 0, none⟩) (Kd.R_far (p := ⟨gb374, 1, none⟩) (Kd.R_far (p := ⟨gb374, 0, none⟩) (Kd.R_mono (Kd.R_mono HO_3.out (fun k_ hk => (⟨hk, hk.1⟩ : _ ∧ k_ ≠ gb374))) (fun k_ hk => (⟨hk, hk.1.2⟩ : _ ∧ k_ ≠ gb375))) (fun _ hk => hk.1.2) (.int .i64 ((rd_T30 l0_2 x10_1).f0))) (fun _ hk => hk.1.2) (.int .i64 ((rd_T30 l0_2 x10_1).f1))) (fun _ hk => hk.2) (.int .i64 ((rd_T30 l0_2 (ji7)).f0))) (fun _ hk => hk.2) (.int .i64 ((rd_T30 l0_2 (ji7)).f1))) (fun _ hk => ⟨hk.1.1.1, hk.1.1.2⟩))); (case aS => exact (below_size (by repeat (first | (with_reducible first | exact HB.out | apply below_alloc | apply pw_below_drewN | apply below_drew1 | refine below_set ?_ GE371.out | refine below_set ?_ GE374.out | refine below_set ?_ GE375.out) | exact HB.out)))); (case aL => have := LMc14.out; omega); intro v377 w29 ho hb hg hat; rw [← Ny376.out] at ho; have n0_ := Aside0.mk (blk_grown (g := gb371) (o := .cells #[.int .i64 a0_0, .int .i64 a0_1, .slice (some ad372) l0_2.length c0_2, .slice A0_3 l0_3.length c0_3] 78 (0, 0)) (by (with_reducible repeat (first | refine blk_drewN ?_ _ | refine blk_drew ?_ | refine blk_alloc ?_ _)); refine blk_far ?_ NB371_375.out _; (with_reducible repeat (first | refine blk_drewN ?_ _ | refine blk_drew ?_ | refine blk_alloc ?_ _)); refine blk_far ?_ NB371_375.out _; (with_reducible repeat (first | refine blk_drewN ?_ _ | refine blk_drew ?_ | refine blk_alloc ?_ _)); refine blk_far ?_ NB371_374.out _; (with_reducible repeat (first | refine blk_drewN ?_ _ | refine blk_drew ?_ | refine blk_alloc ?_ _)); refine blk_far ?_ NB371_374.out _; (with_reducible repeat (first | refine blk_drewN ?_ _ | refine blk_drew ?_ | refine blk_alloc ?_ _)); exact BK371.out) hg (Kd.R_ne HO_3.out BK371.out (by decide))); have n1_ := Aside0.mk (blk_grown (g := gb374) (o := .cells #[.int .i64 ((rd_T30 l0_2 x10_1).f0), .int .i64 ((rd_T30 l0_2 x10_1).f1)] 30 (0, 0)) (by (with_reducible repeat (first | refine blk_drewN ?_ _ | refine blk_drew ?_ | refine blk_alloc ?_ _)); refine blk_far ?_ NB374_375.out _; (with_reducible repeat (first | refine blk_drewN ?_ _ | refine blk_drew ?_ | refine blk_alloc ?_ _)); refine blk_far ?_ NB374_375.out _; (with_reducible repeat (first | refine blk_drewN ?_ _ | refine blk_drew ?_ | refine blk_alloc ?_ _)); refine blk_put (cs := #[.int .i64 ((rd_T30 l0_2 x10_1).f0), .int .i64 0]) ?_ 1 _ rfl; (with_reducible repeat (first | refine blk_drewN ?_ _ | refine blk_drew ?_ | refine blk_alloc ?_ _)); refine blk_put (cs := #[.int .i64 0, .int .i64 0]) ?_ 0 _ rfl; (with_reducible repeat (first | refine blk_drewN ?_ _ | refine blk_drew ?_ | refine blk_alloc ?_ _)); exact BK374.out) hg (Kd.R_away HO_3.out (fun _ hk => hk.1))); have n2_ := Aside0.mk (blk_grown (g := gb375) (o := .cells #[.int .i64 ((rd_T30 l0_2 (ji7)).f0), .int .i64 ((rd_T30 l0_2 (ji7)).f1)] 30 (0, 0)) (by (with_reducible repeat (first | refine blk_drewN ?_ _ | refine blk_drew ?_ | refine blk_alloc ?_ _)); refine blk_put (cs := #[.int .i64 ((rd_T30 l0_2 (ji7)).f0), .int .i64 0]) ?_ 1 _ rfl; (with_reducible repeat (first | refine blk_drewN ?_ _ | refine blk_drew ?_ | refine blk_alloc ?_ _)); refine blk_put (cs := #[.int .i64 0, .int .i64 0]) ?_ 0 _ rfl; (with_reducible repeat (first | refine blk_drewN ?_ _ | refine blk_drew ?_ | refine blk_alloc ?_ _)); refine blk_far ?_ NB375_374.out _; (with_reducible repeat (first | refine blk_drewN ?_ _ | refine blk_drew ?_ | refine blk_alloc ?_ _)); refine blk_far ?_ NB375_374.out _; (with_reducible repeat (first | refine blk_drewN ?_ _ | refine blk_drew ?_ | refine blk_alloc ?_ _)); exact BK375.out) hg (Kd.R_away HO_3.out (fun _ hk => hk.2))); have n3_ := Aside0.mk (hb); have n4_ := Aside0.mk (ho); clear BK371; clear BK374; clear BK375; clear HB; clear HO_3; have BK371 := n0_; have BK374 := n1_; have BK375 := n2_; have HB := n3_; have HO378 := n4_; clear n0_ n1_ n2_ n3_ n4_; clear ho hb hg hat))
                  go_roundg k1
                  case measure => have := HK1.out; omega
                  case rel => exact ⟨(y376), (ji7), (by first | rfl | (simp; done) | (simp only [← hji7] <;> (first | rfl | simp)) | (simp [*]; done)), H', ⟨by have := HK1.out; omega⟩, ⟨by (with_reducible repeat (first | apply Kd.R_alloc | apply Kd.R_drewN | apply Kd.R_drew)); exact Kd.R_mono HO378.out (fun _ hk => trivial)⟩, ⟨by (with_reducible repeat (first | refine blk_drewN ?_ _ | refine blk_drew ?_ | refine blk_alloc ?_ _)); exact BK371.out⟩, ⟨by repeat (first | (with_reducible first | exact HB.out | apply below_alloc | apply pw_below_drewN | apply below_drew1 | refine below_set ?_ GE371.out | refine below_set ?_ GE374.out | refine below_set ?_ GE375.out) | exact HB.out)⟩⟩
                · rw [if_neg c14] at H
                  exact absurd H (by simp)
              · rw [if_neg c9] at H
                exact absurd H (by simp)
            · rw [if_neg c8] at H
              exact absurd H (by simp)
          · rw [if_neg c6] at H
            exact absurd H (by simp)
        · rw [if_neg c5] at H
          exact absurd H (by simp)
      · rw [if_neg c4] at H
        have c4b0 : decide (x10_1 < (l0_3.length : Int)) = false := decide_eq_false c4
        clear c4
        obtain rfl := Option.some.inj H
        go_wp2
        go_ret
        exact ⟨_, by first | rfl | (simp [errW_none, errW_some] <;> rfl) | (simp [*, errW_none, errW_some] <;> rfl), by (with_reducible repeat (first | apply Kd.R_alloc | apply Kd.R_drewN | apply Kd.R_drew)); exact HO_3.out, by repeat (first | (with_reducible first | exact HB.out | apply below_alloc | apply pw_below_drewN | apply below_drew1 | refine below_set ?_ GE371.out) | exact HB.out)⟩
end Go.Proofs.YtdmdahafiiggiaaGreatDoor.K
end
section
namespace Go.Proofs.YtdmdahafiiggiaaGreatDoor.K
open Go.RowKit Go.Proofs.YtdmdahafiiggiaaGreatDoorW.PrintWords Go.Proofs.YtdmdahafiiggiaaGreatDoorW.PrintLast Go.Proofs.YtdmdahafiiggiaaGreatDoorW.PrintMore
attribute [local go_sem] max2_int min2_int max_two min_two max_three min_three max_four min_four
set_option linter.unusedVariables false
set_option linter.unusedSimpArgs false
def channel_bursts.l0 : Nat → List (S123) → List Int → List Int → List (S30) → Int → Int → Option (List Int)
  | 0, _, _, _, _, _, _ => none
  | k + 1, x1, x2, x7, x11, x12, x13 => if x13 < x12 then (if 0 ≤ x13 then (if x13 < (x11.length : Int) then (if x13 < (x2.length : Int) then (if 0 ≤ (rd x2 x13) then (if (rd x2 x13) < (x1.length : Int) then (if ((rd_T30 x11 x13).f1) > ((rd_T123 x1 (rd x2 x13)).f0) then (if x7.length < 17592186044416 then (channel_bursts.l0 k x1 x2 (x7 ++ [x13]) x11 x12 (wrap64 (x13 + 1))) else (none)) else (channel_bursts.l0 k x1 x2 x7 x11 x12 (wrap64 (x13 + 1)))) else (none)) else (none)) else (none)) else (none)) else (none)) else (some x7)
def channel_bursts.f (k : Nat) (a0_0 : Int) (a0_1 : Int) (l0_2 : List (S30)) (l0_3 : List Int) (l1 : List (S123)) (l2 : List Int) : Option (List Int) := (channel_pressures.f k a0_0 a0_1 l0_2 l0_3).bind fun t396 => (channel_bursts.l0 k l1 l2 ([] : List Int) t396 (t396.length : Int) 0)
set_option maxHeartbeats 8000000 in
set_option maxRecDepth 100000 in
theorem channel_bursts.calls (k : Nat) (a0_0 : Int) (a0_1 : Int) (A0_2 : Option Addr) (c0_2 : Nat) (l0_2 : List (S30)) (A0_3 : Option Addr) (c0_3 : Nat) (l0_3 : List Int) (A1 : Option Addr) (c1 : Nat) (l1 : List (S123)) (A2 : Option Addr) (c2 : Nat) (l2 : List Int) (r : List Int) (w : World) (hr0_2 : Kd.C k30 w A0_2 l0_2.length l0_2) (hc0_2 : l0_2.length ≤ c0_2) (hr0_3 : Kd.C (Kd.int .i64) w A0_3 l0_3.length l0_3) (hc0_3 : l0_3.length ≤ c0_3) (hr1 : Kd.C k123 w A1 l1.length l1) (hc1 : l1.length ≤ c1) (hr2 : Kd.C (Kd.int .i64) w A2 l2.length l2) (hc2 : l2.length ≤ c2) (h : channel_bursts.f k a0_0 a0_1 l0_2 l0_3 l1 l2 = some r) :
    Calls Tryz.prog 92 #[.agg #[.int .i64 a0_0, .int .i64 a0_1, .slice A0_2 l0_2.length c0_2, .slice A0_3 l0_3.length c0_3], .slice A1 l1.length c1, .slice A2 l2.length c2] w fun e w' => ∃ v0_ : Value, e = .returned (v0_) ∧ Kd.R (Kd.int .i64) 3 w' w.heap.size (fun _ => True) v0_ r ∧ Below w.heap.size w w' := by
  have hu78 := Tryz.underlying78
  have hu30 := Tryz.underlying30
  have HR0_2 := Aside0.mk hr0_2
  have HC0_2 := Aside0.mk hc0_2
  clear hr0_2 hc0_2
  have HR0_3 := Aside0.mk hr0_3
  have HC0_3 := Aside0.mk hc0_3
  clear hr0_3 hc0_3
  have HR1 := Aside0.mk hr1
  have HC1 := Aside0.mk hc1
  clear hr1 hc1
  have HR2 := Aside0.mk hr2
  have HC2 := Aside0.mk hc2
  clear hr2 hc2
  have HB := Aside0.mk (Below.refl w.heap.size w)
  have H : ((channel_pressures.f k a0_0 a0_1 l0_2 l0_3).bind fun t396 => (channel_bursts.l0 k l1 l2 ([] : List Int) t396 (t396.length : Int) 0)) = some r := h
  clear h
  replace H := Option.bind_eq_some_iff.mp H
  obtain ⟨t396, A40, H⟩ := H
  replace H : (channel_bursts.l0 k l1 l2 ([] : List Int) t396 (t396.length : Int) 0) = some r := H
  have A4 := Aside0.mk A40
  clear A40
  have H' := Aside0.mk H
  clear H
  go_enter Tryz.func92, Tryz.ntmps92
  go_wp2_with (first | ((with_reducible refine gate_dst (N := 3) rfl ?_); refine box_event ?hg (N := 3) ?hd (cs := #[.int .i64 a0_0, .int .i64 a0_1, .slice A0_2 l0_2.length c0_2, .slice A0_3 l0_3.length c0_3]) (t := 78) ?hr ?_; (case hd => rfl); (case hg => rfl); (case hr => first | (go_simp; done) | (go_simp; rfl)); intro gb395 hg w5 hbox hb; have GW395 := Aside0.mk ((by rw [hg]; exact (below_size (by repeat (first | (with_reducible first | exact HB.out | apply below_alloc | apply pw_below_drewN | apply below_drew1) | exact HB.out))) : w.heap.size ≤ gb395)); have GE395 := Aside0.mk ((by rw [hg]; exact (below_size (by repeat (first | (with_reducible first | exact HB.out | apply below_alloc | apply pw_below_drewN | apply below_drew1) | exact HB.out))) : w.heap.size ≤ gb395)); have BK395 := Aside0.mk (hbox); replace HB := Aside0.mk (below_step (by repeat (first | (with_reducible first | exact HB.out | apply below_alloc | apply pw_below_drewN | apply below_drew1) | exact HB.out)) hb); clear hb hbox hg; have hcz6_0 := (blk_cell BK395.out 0).trans rfl; have hcz6_1 := (blk_cell BK395.out 1).trans rfl; have hcz6_2 := (blk_cell BK395.out 2).trans rfl; have hcz6_3 := (blk_cell BK395.out 3).trans rfl; have hfz6_0 := blk_frozen BK395.out 0; have hfz6_1 := blk_frozen BK395.out 1; have hfz6_2 := blk_frozen BK395.out 2; have hfz6_3 := blk_frozen BK395.out 3) | (go_at_call 88; (with_reducible refine (channel_pressures.calls k a0_0 a0_1 _ _ l0_2 _ _ l0_3 t396 _ ?side1 ?side2 ?side3 ?side4 A4.out).mono ?_); (case side1 => repeat (first | exact (Kd.C_below HR0_2.out HB.out) | (with_reducible refine Kd.C_alloc ?_ _) | (with_reducible refine Kd.C_drewN ?_ _) | (with_reducible refine Kd.C_drew ?_))); (case side2 => exact HC0_2.out); (case side3 => repeat (first | exact (Kd.C_below HR0_3.out HB.out) | (with_reducible refine Kd.C_alloc ?_ _) | (with_reducible refine Kd.C_drewN ?_ _) | (with_reducible refine Kd.C_drew ?_))); (case side4 => exact HC0_3.out); rintro e w7 ⟨v397, rfl, ho0, hb⟩; have HO398 := Aside0.mk (Kd.R_lower ho0 (below_size (by repeat (first | (with_reducible first | exact HB.out | apply below_alloc | apply pw_below_drewN | apply below_drew1 | refine below_set ?_ GE395.out) | exact HB.out)))); replace BK395 := Aside0.mk (blk_below (g := gb395) (o := .cells #[.int .i64 a0_0, .int .i64 a0_1, .slice A0_2 l0_2.length c0_2, .slice A0_3 l0_3.length c0_3] 78 (0, 0)) (by (with_reducible repeat (first | refine blk_drewN ?_ _ | refine blk_drew ?_ | refine blk_alloc ?_ _)); exact BK395.out) hb); replace HB := Aside0.mk (below_step (by repeat (first | (with_reducible first | exact HB.out | apply below_alloc | apply pw_below_drewN | apply below_drew1 | refine below_set ?_ GE395.out) | exact HB.out)) hb); (try clear hb); (try clear ho0); obtain ⟨Ao8, co8, eo8⟩ := Kd.R_slice HO398.out; subst eo8))
  go_loopg [7, 13] k (fun kq v7 v13 w' => ∃ (x7_1 : List Int) (x13_1 : Int), v13 = .int .i64 x13_1 ∧ Aside0 (channel_bursts.l0 kq l1 l2 x7_1 t396 (t396.length : Int) x13_1 = some r) ∧ Aside0 (kq ≤ k) ∧ Aside0 (Kd.R (Kd.int .i64) 3 w' w.heap.size (fun _ => True) v7 x7_1) ∧ Aside0 (Kd.R k30 30 w' w.heap.size (fun _ => True) (.slice Ao8 t396.length co8) t396) ∧ Aside0 (w'.heap[gb395]? = some (.cells #[.int .i64 a0_0, .int .i64 a0_1, (.slice A0_2 l0_2.length c0_2), (.slice A0_3 l0_3.length c0_3)] 78 (0, 0))) ∧ Aside0 (Below w.heap.size w w'))
  case atStart => exact ⟨(([] : List Int)), (0), (by first | rfl | (simp; done) | (simp [*]; done)), H', ⟨Nat.le_refl _⟩, ⟨by first | exact Kd.R_nil _ _ _ _ _ | exact Kd.N_nil _ _ _ _ _ | exact Kd.V_nil _ _ _ _ _ | exact Kd.Q_nil _ _ _ _ _ | exact Kd.S_nil _ _ _ _ _⟩, ⟨by (with_reducible repeat (first | apply Kd.R_alloc | apply Kd.R_drewN | apply Kd.R_drew)); exact HO398.out⟩, ⟨by (with_reducible repeat (first | refine blk_drewN ?_ _ | refine blk_drew ?_ | refine blk_alloc ?_ _)); exact BK395.out⟩, ⟨by repeat (first | (with_reducible first | exact HB.out | apply below_alloc | apply pw_below_drewN | apply below_drew1 | refine below_set ?_ GE395.out) | exact HB.out)⟩⟩
  case round =>
    clear H'
    try clear c1
    try clear c2
    try clear p2
    try clear hcz6_0
    try clear hcz6_1
    try clear hcz6_2
    try clear hcz6_3
    try clear hfz6_0
    try clear hfz6_1
    try clear hfz6_2
    try clear hfz6_3
    obtain ⟨x7_1, x13_1, rfl, HA, HK1, HO_7, HO_11, BK395, HB⟩ := hrel
    cases gk with
    | zero => exact absurd HA.out (by simp [channel_bursts.l0])
    | succ k1 =>
      have H := HA.out
      clear HA
      simp only [channel_bursts.l0] at H
      by_cases c9 : x13_1 < (t396.length : Int)
      · rw [if_pos c9] at H
        have c9b0 : decide (x13_1 < (t396.length : Int)) = true := decide_eq_true c9
        clear c9
        by_cases c10 : 0 ≤ x13_1
        · rw [if_pos c10] at H
          have c10b0 : decide (0 ≤ x13_1) = true := decide_eq_true c10
          clear c10
          by_cases c11 : x13_1 < (t396.length : Int)
          · rw [if_pos c11] at H
            have c11b0 : decide (x13_1 < (t396.length : Int)) = true := decide_eq_true c11
            clear c11
            by_cases c12 : x13_1 < (l2.length : Int)
            · rw [if_pos c12] at H
              have c12b0 : decide (x13_1 < (l2.length : Int)) = true := decide_eq_true c12
              clear c12
              by_cases c13 : 0 ≤ (rd l2 x13_1)
              · rw [if_pos c13] at H
                have c13b0 : decide (0 ≤ (rd l2 x13_1)) = true := decide_eq_true c13
                clear c13
                by_cases c14 : (rd l2 x13_1) < (l1.length : Int)
                · rw [if_pos c14] at H
                  have c14b0 : decide ((rd l2 x13_1) < (l1.length : Int)) = true := decide_eq_true c14
                  clear c14
                  by_cases c15 : ((rd_T30 t396 x13_1).f1) > ((rd_T123 l1 (rd l2 x13_1)).f0)
                  · rw [if_pos c15] at H
                    have c15b0 : decide (((rd_T123 l1 (rd l2 x13_1)).f0) < ((rd_T30 t396 x13_1).f1)) = true := decide_eq_true c15
                    clear c15
                    by_cases c16 : x7_1.length < 17592186044416
                    · rw [if_pos c16] at H
                      have LMc16 := Aside0.mk c16
                      clear c16
                      obtain ⟨y403, hy403⟩ : ∃ y_ : List Int, y_ = (x7_1 ++ [x13_1]) := ⟨_, rfl⟩
                      replace H : (channel_bursts.l0 k1 l1 l2 y403 t396 (t396.length : Int) (wrap64 (x13_1 + 1))) = some r := by first | (rw [hy403]; with_reducible exact H) | (have H2_ := (Option.bind_some _ _).symm.trans H; rw [hy403]; with_reducible exact H2_) | (have H2_ := (Option.bind_some _ _).symm.trans H; with_reducible exact H2_) | with_reducible exact H | (rw [hy403]; exact H) | exact H
                      have Ny403 := Aside0.mk hy403
                      clear hy403
                      have H' := Aside0.mk H
                      clear H
                      have p399 : 0 ≤ (x13_1 : Int) := of_decide_eq_true (by assumption)
                      have q399 : x13_1 < (t396.length : Int) := of_decide_eq_true (by assumption)
                      obtain ⟨ad399, e399, hx399_0, hx399_1⟩ := at_T30 (Kd.R_reads' HO_11.out).2.2 x13_1 p399 q399
                      cases e399
                      replace p399 := eq_true p399
                      replace q399 := eq_true q399
                      go_wp2_with (first | ((with_reducible refine gate_dst (N := 9) rfl ?_); refine box_event ?hg (N := 9) ?hd (cs := #[.int .i64 0, .int .i64 0]) (t := 30) ?hr ?_; (case hd => rfl); (case hg => rfl); (case hr => first | (go_simp; done) | (go_simp; rfl)); intro gb400 hg w17 hbox hb; have GW400 := Aside0.mk ((by rw [hg]; exact (below_size (by repeat (first | (with_reducible first | exact HB.out | apply below_alloc | apply pw_below_drewN | apply below_drew1 | refine below_set ?_ GE395.out) | exact HB.out))) : w.heap.size ≤ gb400)); have GE400 := Aside0.mk ((by rw [hg]; exact (below_size (by repeat (first | (with_reducible first | exact HB.out | apply below_alloc | apply pw_below_drewN | apply below_drew1 | refine below_set ?_ GE395.out) | exact HB.out))) : w.heap.size ≤ gb400)); have NB395_400 := Aside0.mk ((by rw [hg]; exact Nat.ne_of_lt (blk_lt (g := gb395) (o := .cells #[.int .i64 a0_0, .int .i64 a0_1, .slice A0_2 l0_2.length c0_2, .slice A0_3 l0_3.length c0_3] 78 (0, 0)) (by (with_reducible repeat (first | refine blk_drewN ?_ _ | refine blk_drew ?_ | refine blk_alloc ?_ _)); exact BK395.out)) : gb395 ≠ gb400)); have NB400_395 := Aside0.mk ((by rw [hg]; exact Nat.ne_of_gt (blk_lt (g := gb395) (o := .cells #[.int .i64 a0_0, .int .i64 a0_1, .slice A0_2 l0_2.length c0_2, .slice A0_3 l0_3.length c0_3] 78 (0, 0)) (by (with_reducible repeat (first | refine blk_drewN ?_ _ | refine blk_drew ?_ | refine blk_alloc ?_ _)); exact BK395.out)) : gb400 ≠ gb395)); replace HO_7 := Aside0.mk (Kd.R_below (by (with_reducible repeat (first | apply Kd.R_alloc | apply Kd.R_drewN | apply Kd.R_drew)); exact HO_7.out) hb); replace HO_11 := Aside0.mk (Kd.R_below (Kd.R_elderB (by (with_reducible repeat (first | apply Kd.R_alloc | apply Kd.R_drewN | apply Kd.R_drew)); exact HO_11.out) gb400 (Nat.le_of_eq hg.symm)) hb); replace BK395 := Aside0.mk (blk_below (g := gb395) (o := .cells #[.int .i64 a0_0, .int .i64 a0_1, .slice A0_2 l0_2.length c0_2, .slice A0_3 l0_3.length c0_3] 78 (0, 0)) (by (with_reducible repeat (first | refine blk_drewN ?_ _ | refine blk_drew ?_ | refine blk_alloc ?_ _)); exact BK395.out) hb); have BK400 := Aside0.mk (hbox); replace HB := Aside0.mk (below_step (by repeat (first | (with_reducible first | exact HB.out | apply below_alloc | apply pw_below_drewN | apply below_drew1 | refine below_set ?_ GE395.out) | exact HB.out)) hb); clear hb hbox hg; have hnb18 := NB400_395.out; have hnc18 := NB395_400.out; have hcz19_0 := (blk_cell BK400.out 0).trans rfl; have hcz19_1 := (blk_cell BK400.out 1).trans rfl; have hfz19_0 := blk_frozen BK400.out 0; have hfz19_1 := blk_frozen BK400.out 1; have p401 : 0 ≤ (x13_1 : Int) := of_decide_eq_true (by assumption); have q401 : x13_1 < (l2.length : Int) := of_decide_eq_true (by assumption); obtain ⟨ad401, e401, hx401_0⟩ := Kd.at_int HR2.out x13_1 p401 q401; cases e401; have hn401_0 : ad401.block ≠ gb400 := Nat.ne_of_lt (Nat.lt_of_lt_of_le (by have := World.block_lt_of_cell? _ _ hx401_0; first | rwa [add_block] at this | exact this) GW400.out); have hn401_1 : ad401.block ≠ gb400 := Nat.ne_of_lt (Nat.lt_of_lt_of_le (by have := World.block_lt_of_cell? _ _ hx401_0; first | rwa [add_block] at this | exact this) GW400.out); replace hx401_0 := (HB.out.cell (World.block_lt_of_cell? w _ hx401_0)).trans hx401_0; replace hx401_0 := (cell_far (p := ⟨gb400, 0, none⟩) (by first | (rw [add_block]; exact hn401_0) | (show (Addr.add _ _).block ≠ _; rw [add_block]; exact hn401_0) | exact hn401_0) (.int .i64 ((rd_T30 t396 x13_1).f0))).trans hx401_0; replace hx401_0 := (cell_far (p := ⟨gb400, 1, none⟩) (by first | (rw [add_block]; exact hn401_1) | (show (Addr.add _ _).block ≠ _; rw [add_block]; exact hn401_1) | exact hn401_1) (.int .i64 ((rd_T30 t396 x13_1).f1))).trans hx401_0; (try have hy401_0 := fun (n_ : Nat) => (show ((((w17.drewN n_).setCell ⟨gb400, 0, none⟩ (.int .i64 ((rd_T30 t396 x13_1).f0))).setCell ⟨gb400, 1, none⟩ (.int .i64 ((rd_T30 t396 x13_1).f1)))).cell? _ = some _ from hx401_0)); clear hn401_0; clear hn401_1; replace p401 := eq_true p401; replace q401 := eq_true q401; have p402 : 0 ≤ ((rd l2 x13_1) : Int) := of_decide_eq_true (by assumption); have q402 : (rd l2 x13_1) < (l1.length : Int) := of_decide_eq_true (by assumption); obtain ⟨ad402, e402, hx402_0, hx402_1, hx402_2⟩ := at_T123 HR1.out (rd l2 x13_1) p402 q402; cases e402; have hn402_0 : ad402.block ≠ gb400 := Nat.ne_of_lt (Nat.lt_of_lt_of_le (by have := World.block_lt_of_cell? _ _ hx402_0; first | rwa [add_block] at this | exact this) GW400.out); have hn402_1 : ad402.block ≠ gb400 := Nat.ne_of_lt (Nat.lt_of_lt_of_le (by have := World.block_lt_of_cell? _ _ hx402_0; first | rwa [add_block] at this | exact this) GW400.out); replace hx402_0 := (HB.out.cell (World.block_lt_of_cell? w _ hx402_0)).trans hx402_0; replace hx402_1 := (HB.out.cell (World.block_lt_of_cell? w _ hx402_1)).trans hx402_1; replace hx402_2 := (HB.out.cell (World.block_lt_of_cell? w _ hx402_2)).trans hx402_2; replace hx402_0 := (cell_far (p := ⟨gb400, 0, none⟩) (by first | (rw [add_block]; exact hn402_0) | (show (Addr.add _ _).block ≠ _; rw [add_block]; exact hn402_0) | exact hn402_0) (.int .i64 ((rd_T30 t396 x13_1).f0))).trans hx402_0; replace hx402_1 := (cell_far (p := ⟨gb400, 0, none⟩) (by first | (rw [add_block]; exact hn402_0) | (show (Addr.add _ _).block ≠ _; rw [add_block]; exact hn402_0) | exact hn402_0) (.int .i64 ((rd_T30 t396 x13_1).f0))).trans hx402_1; replace hx402_2 := (cell_far (p := ⟨gb400, 0, none⟩) (by first | (rw [add_block]; exact hn402_0) | (show (Addr.add _ _).block ≠ _; rw [add_block]; exact hn402_0) | exact hn402_0) (.int .i64 ((rd_T30 t396 x13_1).f0))).trans hx402_2; replace hx402_0 := (cell_far (p := ⟨gb400, 1, none⟩) (by first | (rw [add_block]; exact hn402_1) | (show (Addr.add _ _).block ≠ _; rw [add_block]; exact hn402_1) | exact hn402_1) (.int .i64 ((rd_T30 t396 x13_1).f1))).trans hx402_0; replace hx402_1 := (cell_far (p := ⟨gb400, 1, none⟩) (by first | (rw [add_block]; exact hn402_1) | (show (Addr.add _ _).block ≠ _; rw [add_block]; exact hn402_1) | exact hn402_1) (.int .i64 ((rd_T30 t396 x13_1).f1))).trans hx402_1; replace hx402_2 := (cell_far (p := ⟨gb400, 1, none⟩) (by first | (rw [add_block]; exact hn402_1) | (show (Addr.add _ _).block ≠ _; rw [add_block]; exact hn402_1) | exact hn402_1) (.int .i64 ((rd_T30 t396 x13_1).f1))).trans hx402_2; (try have hy402_0 := fun (n_ : Nat) => (show ((((w17.drewN n_).setCell ⟨gb400, 0, none⟩ (.int .i64 ((rd_T30 t396 x13_1).f0))).setCell ⟨gb400, 1, none⟩ (.int .i64 ((rd_T30 t396 x13_1).f1)))).cell? _ = some _ from hx402_0)); (try have hy402_1 := fun (n_ : Nat) => (show ((((w17.drewN n_).setCell ⟨gb400, 0, none⟩ (.int .i64 ((rd_T30 t396 x13_1).f0))).setCell ⟨gb400, 1, none⟩ (.int .i64 ((rd_T30 t396 x13_1).f1)))).cell? _ = some _ from hx402_1)); (try have hy402_2 := fun (n_ : Nat) => (show ((((w17.drewN n_).setCell ⟨gb400, 0, none⟩ (.int .i64 ((rd_T30 t396 x13_1).f0))).setCell ⟨gb400, 1, none⟩ (.int .i64 ((rd_T30 t396 x13_1).f1)))).cell? _ = some _ from hx402_2)); clear hn402_0; clear hn402_1; replace p402 := eq_true p402; replace q402 := eq_true q402) | ((with_reducible refine gate_builtin (b := .append) (xs := #[.tmp 29, .tmp 31]) rfl ?_); at_builtin; refine Kd.R_append (Kd.int .i64) (w0 := w) w.heap.size rfl (.tmp 29) (.tmp 31) 22 3 (.int .i64 0) 8 rfl Tryz.underlying22 info3 rfl (by decide) (by omega) u7 x7_1 x13_1 [.int .i64 x13_1] (fun _ => True) (fun _ => False) rfl (by first | (go_simp; done) | (go_simp; rfl)) ?aP (fun _ hk => hk.elim) ?aF ?aO ?aB ?aS ?aL ?_; (case aP => exact rfl); (case aB => exact (by repeat (first | (with_reducible first | exact HB.out | apply below_alloc | apply pw_below_drewN | apply below_drew1 | refine below_set ?_ GE395.out | refine below_set ?_ GE400.out) | exact HB.out))); (case aF => exact (fun _ _ => trivial)); (case aO => exact (by (with_reducible repeat (first | apply Kd.R_alloc | apply Kd.R_drewN | apply Kd.R_drew)); exact Kd.R_mono (Kd.R_far (p := ⟨gb400, 1, none⟩) (Kd.R_far (p := ⟨gb400, 0, none⟩) (Kd.R_types HO_7.out BK400.out (by decide)) (fun _ hk => hk.2) (.int .i64 ((rd_T30 t396 x13_1).f0))) (fun _ hk => hk.2) (.int .i64 ((rd_T30 t396 x13_1).f1))) (fun _ hk => trivial))); (case aS => exact (below_size (by repeat (first | (with_reducible first | exact HB.out | apply below_alloc | apply pw_below_drewN | apply below_drew1 | refine below_set ?_ GE395.out | refine below_set ?_ GE400.out) | exact HB.out)))); (case aL => have := LMc16.out; omega); intro v404 w20 ho hb hg hat; rw [← Ny403.out] at ho; replace HO_11 := Aside0.mk (Kd.R_over' (by (with_reducible repeat (first | apply Kd.R_alloc | apply Kd.R_drewN | apply Kd.R_drew)); exact (Kd.R_mono (Kd.R_far (p := ⟨gb400, 1, none⟩) (Kd.R_far (p := ⟨gb400, 0, none⟩) (Kd.R_mono HO_11.out (fun k_ hk => (⟨hk, hk.2⟩ : _ ∧ k_ ≠ gb400))) (fun _ hk => hk.2) (.int .i64 ((rd_T30 t396 x13_1).f0))) (fun _ hk => hk.2) (.int .i64 ((rd_T30 t396 x13_1).f1))) (fun _ h_ => h_.1))) (Kd.R_typed (by (with_reducible repeat (first | apply Kd.R_alloc | apply Kd.R_drewN | apply Kd.R_drew)); exact (Kd.R_mono (Kd.R_far (p := ⟨gb400, 1, none⟩) (Kd.R_far (p := ⟨gb400, 0, none⟩) (Kd.R_types HO_7.out BK400.out (by decide)) (fun _ hk => hk.2) (.int .i64 ((rd_T30 t396 x13_1).f0))) (fun _ hk => hk.2) (.int .i64 ((rd_T30 t396 x13_1).f1))) (fun _ h_ => h_.1)))) (by decide) hg); replace BK395 := Aside0.mk (blk_grown (g := gb395) (o := .cells #[.int .i64 a0_0, .int .i64 a0_1, .slice A0_2 l0_2.length c0_2, .slice A0_3 l0_3.length c0_3] 78 (0, 0)) (by (with_reducible repeat (first | refine blk_drewN ?_ _ | refine blk_drew ?_ | refine blk_alloc ?_ _)); refine blk_far ?_ NB395_400.out _; (with_reducible repeat (first | refine blk_drewN ?_ _ | refine blk_drew ?_ | refine blk_alloc ?_ _)); refine blk_far ?_ NB395_400.out _; (with_reducible repeat (first | refine blk_drewN ?_ _ | refine blk_drew ?_ | refine blk_alloc ?_ _)); exact BK395.out) hg (Kd.R_ne HO_7.out BK395.out (by decide))); replace BK400 := Aside0.mk (blk_grown (g := gb400) (o := .cells #[.int .i64 ((rd_T30 t396 x13_1).f0), .int .i64 ((rd_T30 t396 x13_1).f1)] 30 (0, 0)) (by (with_reducible repeat (first | refine blk_drewN ?_ _ | refine blk_drew ?_ | refine blk_alloc ?_ _)); refine blk_put (cs := #[.int .i64 ((rd_T30 t396 x13_1).f0), .int .i64 0]) ?_ 1 _ rfl; (with_reducible repeat (first | refine blk_drewN ?_ _ | refine blk_drew ?_ | refine blk_alloc ?_ _)); refine blk_put (cs := #[.int .i64 0, .int .i64 0]) ?_ 0 _ rfl; (with_reducible repeat (first | refine blk_drewN ?_ _ | refine blk_drew ?_ | refine blk_alloc ?_ _)); exact BK400.out) hg (Kd.R_ne HO_7.out BK400.out (by decide))); have HO405 := Aside0.mk (ho); replace HB := Aside0.mk (hb); clear HO_7; clear ho hb hg hat))
                      repeat (go_quiet (first | ((with_reducible refine gate_dst (N := 9) rfl ?_); refine box_event ?hg (N := 9) ?hd (cs := #[.int .i64 0, .int .i64 0]) (t := 30) ?hr ?_; (case hd => rfl); (case hg => rfl); (case hr => first | (go_simp; done) | (go_simp; rfl)); intro gb400 hg w17 hbox hb; have GW400 := Aside0.mk ((by rw [hg]; exact (below_size (by repeat (first | (with_reducible first | exact HB.out | apply below_alloc | apply pw_below_drewN | apply below_drew1 | refine below_set ?_ GE395.out) | exact HB.out))) : w.heap.size ≤ gb400)); have GE400 := Aside0.mk ((by rw [hg]; exact (below_size (by repeat (first | (with_reducible first | exact HB.out | apply below_alloc | apply pw_below_drewN | apply below_drew1 | refine below_set ?_ GE395.out) | exact HB.out))) : w.heap.size ≤ gb400)); have NB395_400 := Aside0.mk ((by rw [hg]; exact Nat.ne_of_lt (blk_lt (g := gb395) (o := .cells #[.int .i64 a0_0, .int .i64 a0_1, .slice A0_2 l0_2.length c0_2, .slice A0_3 l0_3.length c0_3] 78 (0, 0)) (by (with_reducible repeat (first | refine blk_drewN ?_ _ | refine blk_drew ?_ | refine blk_alloc ?_ _)); exact BK395.out)) : gb395 ≠ gb400)); have NB400_395 := Aside0.mk ((by rw [hg]; exact Nat.ne_of_gt (blk_lt (g := gb395) (o := .cells #[.int .i64 a0_0, .int .i64 a0_1, .slice A0_2 l0_2.length c0_2, .slice A0_3 l0_3.length c0_3] 78 (0, 0)) (by (with_reducible repeat (first | refine blk_drewN ?_ _ | refine blk_drew ?_ | refine blk_alloc ?_ _)); exact BK395.out)) : gb400 ≠ gb395)); replace HO_7 := Aside0.mk (Kd.R_below (by (with_reducible repeat (first | apply Kd.R_alloc | apply Kd.R_drewN | apply Kd.R_drew)); exact HO_7.out) hb); replace HO_11 := Aside0.mk (Kd.R_below (Kd.R_elderB (by (with_reducible repeat (first | apply Kd.R_alloc | apply Kd.R_drewN | apply Kd.R_drew)); exact HO_11.out) gb400 (Nat.le_of_eq hg.symm)) hb); replace BK395 := Aside0.mk (blk_below (g := gb395) (o := .cells #[.int .i64 a0_0, .int .i64 a0_1, .slice A0_2 l0_2.length c0_2, .slice A0_3 l0_3.length c0_3] 78 (0, 0)) (by (with_reducible repeat (first | refine blk_drewN ?_ _ | refine blk_drew ?_ | refine blk_alloc ?_ _)); exact BK395.out) hb); have BK400 := Aside0.mk (hbox); replace HB := Aside0.mk (below_step (by repeat (first | (with_reducible first | exact HB.out | apply below_alloc | apply pw_below_drewN | apply below_drew1 | refine below_set ?_ GE395.out) | exact HB.out)) hb); clear hb hbox hg; have hnb18 := NB400_395.out; have hnc18 := NB395_400.out; have hcz19_0 := (blk_cell BK400.out 0).trans rfl; have hcz19_1 := (blk_cell BK400.out 1).trans rfl; have hfz19_0 := blk_frozen BK400.out 0; have hfz19_1 := blk_frozen BK400.out 1; have p401 : 0 ≤ (x13_1 : Int) := of_decide_eq_true (by assumption); have q401 : x13_1 < (l2.length : Int) := of_decide_eq_true (by assumption); obtain ⟨ad401, e401, hx401_0⟩ := Kd.at_int HR2.out x13_1 p401 q401; cases e401; have hn401_0 : ad401.block ≠ gb400 := Nat.ne_of_lt (Nat.lt_of_lt_of_le (by have := World.block_lt_of_cell? _ _ hx401_0; first | rwa [add_block] at this | exact this) GW400.out); have hn401_1 : ad401.block ≠ gb400 := Nat.ne_of_lt (Nat.lt_of_lt_of_le (by have := World.block_lt_of_cell? _ _ hx401_0; first | rwa [add_block] at this | exact this) GW400.out); replace hx401_0 := (HB.out.cell (World.block_lt_of_cell? w _ hx401_0)).trans hx401_0; replace hx401_0 := (cell_far (p := ⟨gb400, 0, none⟩) (by first | (rw [add_block]; exact hn401_0) | (show (Addr.add _ _).block ≠ _; rw [add_block]; exact hn401_0) | exact hn401_0) (.int .i64 ((rd_T30 t396 x13_1).f0))).trans hx401_0; replace hx401_0 := (cell_far (p := ⟨gb400, 1, none⟩) (by first | (rw [add_block]; exact hn401_1) | (show (Addr.add _ _).block ≠ _; rw [add_block]; exact hn401_1) | exact hn401_1) (.int .i64 ((rd_T30 t396 x13_1).f1))).trans hx401_0; (try have hy401_0 := fun (n_ : Nat) => (show ((((w17.drewN n_).setCell ⟨gb400, 0, none⟩ (.int .i64 ((rd_T30 t396 x13_1).f0))).setCell ⟨gb400, 1, none⟩ (.int .i64 ((rd_T30 t396 x13_1).f1)))).cell? _ = some _ from hx401_0)); clear hn401_0; clear hn401_1; replace p401 := eq_true p401; replace q401 := eq_true q401; have p402 : 0 ≤ ((rd l2 x13_1) : Int) := of_decide_eq_true (by assumption); have q402 : (rd l2 x13_1) < (l1.length : Int) := of_decide_eq_true (by assumption); obtain ⟨ad402, e402, hx402_0, hx402_1, hx402_2⟩ := at_T123 HR1.out (rd l2 x13_1) p402 q402; cases e402; have hn402_0 : ad402.block ≠ gb400 := Nat.ne_of_lt (Nat.lt_of_lt_of_le (by have := World.block_lt_of_cell? _ _ hx402_0; first | rwa [add_block] at this | exact this) GW400.out); have hn402_1 : ad402.block ≠ gb400 := Nat.ne_of_lt (Nat.lt_of_lt_of_le (by have := World.block_lt_of_cell? _ _ hx402_0; first | rwa [add_block] at this | exact this) GW400.out); replace hx402_0 := (HB.out.cell (World.block_lt_of_cell? w _ hx402_0)).trans hx402_0; replace hx402_1 := (HB.out.cell (World.block_lt_of_cell? w _ hx402_1)).trans hx402_1; replace hx402_2 := (HB.out.cell (World.block_lt_of_cell? w _ hx402_2)).trans hx402_2; replace hx402_0 := (cell_far (p := ⟨gb400, 0, none⟩) (by first | (rw [add_block]; exact hn402_0) | (show (Addr.add _ _).block ≠ _; rw [add_block]; exact hn402_0) | exact hn402_0) (.int .i64 ((rd_T30 t396 x13_1).f0))).trans hx402_0; replace hx402_1 := (cell_far (p := ⟨gb400, 0, none⟩) (by first | (rw [add_block]; exact hn402_0) | (show (Addr.add _ _).block ≠ _; rw [add_block]; exact hn402_0) | exact hn402_0) (.int .i64 ((rd_T30 t396 x13_1).f0))).trans hx402_1; replace hx402_2 := (cell_far (p := ⟨gb400, 0, none⟩) (by first | (rw [add_block]; exact hn402_0) | (show (Addr.add _ _).block ≠ _; rw [add_block]; exact hn402_0) | exact hn402_0) (.int .i64 ((rd_T30 t396 x13_1).f0))).trans hx402_2; replace hx402_0 := (cell_far (p := ⟨gb400, 1, none⟩) (by first | (rw [add_block]; exact hn402_1) | (show (Addr.add _ _).block ≠ _; rw [add_block]; exact hn402_1) | exact hn402_1) (.int .i64 ((rd_T30 t396 x13_1).f1))).trans hx402_0; replace hx402_1 := (cell_far (p := ⟨gb400, 1, none⟩) (by first | (rw [add_block]; exact hn402_1) | (show (Addr.add _ _).block ≠ _; rw [add_block]; exact hn402_1) | exact hn402_1) (.int .i64 ((rd_T30 t396 x13_1).f1))).trans hx402_1; replace hx402_2 := (cell_far (p := ⟨gb400, 1, none⟩) (by first | (rw [add_block]; exact hn402_1) | (show (Addr.add _ _).block ≠ _; rw [add_block]; exact hn402_1) | exact hn402_1) (.int .i64 ((rd_T30 t396 x13_1).f1))).trans hx402_2; (try have hy402_0 := fun (n_ : Nat) => (show ((((w17.drewN n_).setCell ⟨gb400, 0, none⟩ (.int .i64 ((rd_T30 t396 x13_1).f0))).setCell ⟨gb400, 1, none⟩ (.int .i64 ((rd_T30 t396 x13_1).f1)))).cell? _ = some _ from hx402_0)); (try have hy402_1 := fun (n_ : Nat) => (show ((((w17.drewN n_).setCell ⟨gb400, 0, none⟩ (.int .i64 ((rd_T30 t396 x13_1).f0))).setCell ⟨gb400, 1, none⟩ (.int .i64 ((rd_T30 t396 x13_1).f1)))).cell? _ = some _ from hx402_1)); (try have hy402_2 := fun (n_ : Nat) => (show ((((w17.drewN n_).setCell ⟨gb400, 0, none⟩ (.int .i64 ((rd_T30 t396 x13_1).f0))).setCell ⟨gb400, 1, none⟩ (.int .i64 ((rd_T30 t396 x13_1).f1)))).cell? _ = some _ from hx402_2)); clear hn402_0; clear hn402_1; replace p402 := eq_true p402; replace q402 := eq_true q402) | ((with_reducible refine gate_builtin (b := .append) (xs := #[.tmp 29, .tmp 31]) rfl ?_); at_builtin; refine Kd.R_append (Kd.int .i64) (w0 := w) w.heap.size rfl (.tmp 29) (.tmp 31) 22 3 (.int .i64 0) 8 rfl Tryz.underlying22 info3 rfl (by decide) (by omega) u7 x7_1 x13_1 [.int .i64 x13_1] (fun _ => True) (fun _ => False) rfl (by first | (go_simp; done) | (go_simp; rfl)) ?aP (fun _ hk => hk.elim) ?aF ?aO ?aB ?aS ?aL ?_; (case aP => exact rfl); (case aB => exact (by repeat (first | (with_reducible first | exact HB.out | apply below_alloc | apply pw_below_drewN | apply below_drew1 | refine below_set ?_ GE395.out | refine below_set ?_ GE400.out) | exact HB.out))); (case aF => exact (fun _ _ => trivial)); (case aO => exact (by (with_reducible repeat (first | apply Kd.R_alloc | apply Kd.R_drewN | apply Kd.R_drew)); exact Kd.R_mono (Kd.R_far (p := ⟨gb400, 1, none⟩) (Kd.R_far (p := ⟨gb400, 0, none⟩) (Kd.R_types HO_7.out BK400.out (by decide)) (fun _ hk => hk.2) (.int .i64 ((rd_T30 t396 x13_1).f0))) (fun _ hk => hk.2) (.int .i64 ((rd_T30 t396 x13_1).f1))) (fun _ hk => trivial))); (case aS => exact (below_size (by repeat (first | (with_reducible first | exact HB.out | apply below_alloc | apply pw_below_drewN | apply below_drew1 | refine below_set ?_ GE395.out | refine below_set ?_ GE400.out) | exact HB.out)))); (case aL => have := LMc16.out; omega); intro v404 w20 ho hb hg hat; rw [← Ny403.out] at ho; replace HO_11 := Aside0.mk (Kd.R_over' (by (with_reducible repeat (first | apply Kd.R_alloc | apply Kd.R_drewN | apply Kd.R_drew)); exact (Kd.R_mono (Kd.R_far (p := ⟨gb400, 1, none⟩) (Kd.R_far (p := ⟨gb400, 0, none⟩) (Kd.R_mono HO_11.out (fun k_ hk => (⟨hk, hk.2⟩ : _ ∧ k_ ≠ gb400))) (fun _ hk => hk.2) (.int .i64 ((rd_T30 t396 x13_1).f0))) (fun _ hk => hk.2) (.int .i64 ((rd_T30 t396 x13_1).f1))) (fun _ h_ => h_.1))) (Kd.R_typed (by (with_reducible repeat (first | apply Kd.R_alloc | apply Kd.R_drewN | apply Kd.R_drew)); exact (Kd.R_mono (Kd.R_far (p := ⟨gb400, 1, none⟩) (Kd.R_far (p := ⟨gb400, 0, none⟩) (Kd.R_types HO_7.out BK400.out (by decide)) (fun _ hk => hk.2) (.int .i64 ((rd_T30 t396 x13_1).f0))) (fun _ hk => hk.2) (.int .i64 ((rd_T30 t396 x13_1).f1))) (fun _ h_ => h_.1)))) (by decide) hg); replace BK395 := Aside0.mk (blk_grown (g := gb395) (o := .cells #[.int .i64 a0_0, .int .i64 a0_1, .slice A0_2 l0_2.length c0_2, .slice A0_3 l0_3.length c0_3] 78 (0, 0)) (by (with_reducible repeat (first | refine blk_drewN ?_ _ | refine blk_drew ?_ | refine blk_alloc ?_ _)); refine blk_far ?_ NB395_400.out _; (with_reducible repeat (first | refine blk_drewN ?_ _ | refine blk_drew ?_ | refine blk_alloc ?_ _)); refine blk_far ?_ NB395_400.out _; (with_reducible repeat (first | refine blk_drewN ?_ _ | refine blk_drew ?_ | refine blk_alloc ?_ _)); exact BK395.out) hg (Kd.R_ne HO_7.out BK395.out (by decide))); replace BK400 := Aside0.mk (blk_grown (g := gb400) (o := .cells #[.int .i64 ((rd_T30 t396 x13_1).f0), .int .i64 ((rd_T30 t396 x13_1).f1)] 30 (0, 0)) (by (with_reducible repeat (first | refine blk_drewN ?_ _ | refine blk_drew ?_ | refine blk_alloc ?_ _)); refine blk_put (cs := #[.int .i64 ((rd_T30 t396 x13_1).f0), .int .i64 0]) ?_ 1 _ rfl; (with_reducible repeat (first | refine blk_drewN ?_ _ | refine blk_drew ?_ | refine blk_alloc ?_ _)); refine blk_put (cs := #[.int .i64 0, .int .i64 0]) ?_ 0 _ rfl; (with_reducible repeat (first | refine blk_drewN ?_ _ | refine blk_drew ?_ | refine blk_alloc ?_ _)); exact BK400.out) hg (Kd.R_ne HO_7.out BK400.out (by decide))); have HO405 := Aside0.mk (ho); replace HB := Aside0.mk (hb); clear HO_7; clear ho hb hg hat)); try go_wp2_with (first | ((with_reducible refine gate_dst (N := 9) rfl ?_); refine box_event ?hg (N := 9) ?hd (cs := #[.int .i64 0, .int .i64 0]) (t := 30) ?hr ?_; (case hd => rfl); (case hg => rfl); (case hr => first | (go_simp; done) | (go_simp; rfl)); intro gb400 hg w17 hbox hb; have GW400 := Aside0.mk ((by rw [hg]; exact (below_size (by repeat (first | (with_reducible first | exact HB.out | apply below_alloc | apply pw_below_drewN | apply below_drew1 | refine below_set ?_ GE395.out) | exact HB.out))) : w.heap.size ≤ gb400)); have GE400 := Aside0.mk ((by rw [hg]; exact (below_size (by repeat (first | (with_reducible first | exact HB.out | apply below_alloc | apply pw_below_drewN | apply below_drew1 | refine below_set ?_ GE395.out) | exact HB.out))) : w.heap.size ≤ gb400)); have NB395_400 := Aside0.mk ((by rw [hg]; exact Nat.ne_of_lt (blk_lt (g := gb395) (o := .cells #[.int .i64 a0_0, .int .i64 a0_1, .slice A0_2 l0_2.length c0_2, .slice A0_3 l0_3.length c0_3] 78 (0, 0)) (by (with_reducible repeat (first | refine blk_drewN ?_ _ | refine blk_drew ?_ | refine blk_alloc ?_ _)); exact BK395.out)) : gb395 ≠ gb400)); have NB400_395 := Aside0.mk ((by rw [hg]; exact Nat.ne_of_gt (blk_lt (g := gb395) (o := .cells #[.int .i64 a0_0, .int .i64 a0_1, .slice A0_2 l0_2.length c0_2, .slice A0_3 l0_3.length c0_3] 78 (0, 0)) (by (with_reducible repeat (first | refine blk_drewN ?_ _ | refine blk_drew ?_ | refine blk_alloc ?_ _)); exact BK395.out)) : gb400 ≠ gb395)); replace HO_7 := Aside0.mk (Kd.R_below (by (with_reducible repeat (first | apply Kd.R_alloc | apply Kd.R_drewN | apply Kd.R_drew)); exact HO_7.out) hb); replace HO_11 := Aside0.mk (Kd.R_below (Kd.R_elderB (by (with_reducible repeat (first | apply Kd.R_alloc | apply Kd.R_drewN | apply Kd.R_drew)); exact HO_11.out) gb400 (Nat.le_of_eq hg.symm)) hb); replace BK395 := Aside0.mk (blk_below (g := gb395) (o := .cells #[.int .i64 a0_0, .int .i64 a0_1, .slice A0_2 l0_2.length c0_2, .slice A0_3 l0_3.length c0_3] 78 (0, 0)) (by (with_reducible repeat (first | refine blk_drewN ?_ _ | refine blk_drew ?_ | refine blk_alloc ?_ _)); exact BK395.out) hb); have BK400 := Aside0.mk (hbox); replace HB := Aside0.mk (below_step (by repeat (first | (with_reducible first | exact HB.out | apply below_alloc | apply pw_below_drewN | apply below_drew1 | refine below_set ?_ GE395.out) | exact HB.out)) hb); clear hb hbox hg; have hnb18 := NB400_395.out; have hnc18 := NB395_400.out; have hcz19_0 := (blk_cell BK400.out 0).trans rfl; have hcz19_1 := (blk_cell BK400.out 1).trans rfl; have hfz19_0 := blk_frozen BK400.out 0; have hfz19_1 := blk_frozen BK400.out 1; have p401 : 0 ≤ (x13_1 : Int) := of_decide_eq_true (by assumption); have q401 : x13_1 < (l2.length : Int) := of_decide_eq_true (by assumption); obtain ⟨ad401, e401, hx401_0⟩ := Kd.at_int HR2.out x13_1 p401 q401; cases e401; have hn401_0 : ad401.block ≠ gb400 := Nat.ne_of_lt (Nat.lt_of_lt_of_le (by have := World.block_lt_of_cell? _ _ hx401_0; first | rwa [add_block] at this | exact this) GW400.out); have hn401_1 : ad401.block ≠ gb400 := Nat.ne_of_lt (Nat.lt_of_lt_of_le (by have := World.block_lt_of_cell? _ _ hx401_0; first | rwa [add_block] at this | exact this) GW400.out); replace hx401_0 := (HB.out.cell (World.block_lt_of_cell? w _ hx401_0)).trans hx401_0; replace hx401_0 := (cell_far (p := ⟨gb400, 0, none⟩) (by first | (rw [add_block]; exact hn401_0) | (show (Addr.add _ _).block ≠ _; rw [add_block]; exact hn401_0) | exact hn401_0) (.int .i64 ((rd_T30 t396 x13_1).f0))).trans hx401_0; replace hx401_0 := (cell_far (p := ⟨gb400, 1, none⟩) (by first | (rw [add_block]; exact hn401_1) | (show (Addr.add _ _).block ≠ _; rw [add_block]; exact hn401_1) | exact hn401_1) (.int .i64 ((rd_T30 t396 x13_1).f1))).trans hx401_0; (try have hy401_0 := fun (n_ : Nat) => (show ((((w17.drewN n_).setCell ⟨gb400, 0, none⟩ (.int .i64 ((rd_T30 t396 x13_1).f0))).setCell ⟨gb400, 1, none⟩ (.int .i64 ((rd_T30 t396 x13_1).f1)))).cell? _ = some _ from hx401_0)); clear hn401_0; clear hn401_1; replace p401 := eq_true p401; replace q401 := eq_true q401; have p402 : 0 ≤ ((rd l2 x13_1) : Int) := of_decide_eq_true (by assumption); have q402 : (rd l2 x13_1) < (l1.length : Int) := of_decide_eq_true (by assumption); obtain ⟨ad402, e402, hx402_0, hx402_1, hx402_2⟩ := at_T123 HR1.out (rd l2 x13_1) p402 q402; cases e402; have hn402_0 : ad402.block ≠ gb400 := Nat.ne_of_lt (Nat.lt_of_lt_of_le (by have := World.block_lt_of_cell? _ _ hx402_0; first | rwa [add_block] at this | exact this) GW400.out); have hn402_1 : ad402.block ≠ gb400 := Nat.ne_of_lt (Nat.lt_of_lt_of_le (by have := World.block_lt_of_cell? _ _ hx402_0; first | rwa [add_block] at this | exact this) GW400.out); replace hx402_0 := (HB.out.cell (World.block_lt_of_cell? w _ hx402_0)).trans hx402_0; replace hx402_1 := (HB.out.cell (World.block_lt_of_cell? w _ hx402_1)).trans hx402_1; replace hx402_2 := (HB.out.cell (World.block_lt_of_cell? w _ hx402_2)).trans hx402_2; replace hx402_0 := (cell_far (p := ⟨gb400, 0, none⟩) (by first | (rw [add_block]; exact hn402_0) | (show (Addr.add _ _).block ≠ _; rw [add_block]; exact hn402_0) | exact hn402_0) (.int .i64 ((rd_T30 t396 x13_1).f0))).trans hx402_0; replace hx402_1 := (cell_far (p := ⟨gb400, 0, none⟩) (by first | (rw [add_block]; exact hn402_0) | (show (Addr.add _ _).block ≠ _; rw [add_block]; exact hn402_0) | exact hn402_0) (.int .i64 ((rd_T30 t396 x13_1).f0))).trans hx402_1; replace hx402_2 := (cell_far (p := ⟨gb400, 0, none⟩) (by first | (rw [add_block]; exact hn402_0) | (show (Addr.add _ _).block ≠ _; rw [add_block]; exact hn402_0) | exact hn402_0) (.int .i64 ((rd_T30 t396 x13_1).f0))).trans hx402_2; replace hx402_0 := (cell_far (p := ⟨gb400, 1, none⟩) (by first | (rw [add_block]; exact hn402_1) | (show (Addr.add _ _).block ≠ _; rw [add_block]; exact hn402_1) | exact hn402_1) (.int .i64 ((rd_T30 t396 x13_1).f1))).trans hx402_0; replace hx402_1 := (cell_far (p := ⟨gb400, 1, none⟩) (by first | (rw [add_block]; exact hn402_1) | (show (Addr.add _ _).block ≠ _; rw [add_block]; exact hn402_1) | exact hn402_1) (.int .i64 ((rd_T30 t396 x13_1).f1))).trans hx402_1; replace hx402_2 := (cell_far (p := ⟨gb400, 1, none⟩) (by first | (rw [add_block]; exact hn402_1) | (show (Addr.add _ _).block ≠ _; rw [add_block]; exact hn402_1) | exact hn402_1) (.int .i64 ((rd_T30 t396 x13_1).f1))).trans hx402_2; (try have hy402_0 := fun (n_ : Nat) => (show ((((w17.drewN n_).setCell ⟨gb400, 0, none⟩ (.int .i64 ((rd_T30 t396 x13_1).f0))).setCell ⟨gb400, 1, none⟩ (.int .i64 ((rd_T30 t396 x13_1).f1)))).cell? _ = some _ from hx402_0)); (try have hy402_1 := fun (n_ : Nat) => (show ((((w17.drewN n_).setCell ⟨gb400, 0, none⟩ (.int .i64 ((rd_T30 t396 x13_1).f0))).setCell ⟨gb400, 1, none⟩ (.int .i64 ((rd_T30 t396 x13_1).f1)))).cell? _ = some _ from hx402_1)); (try have hy402_2 := fun (n_ : Nat) => (show ((((w17.drewN n_).setCell ⟨gb400, 0, none⟩ (.int .i64 ((rd_T30 t396 x13_1).f0))).setCell ⟨gb400, 1, none⟩ (.int .i64 ((rd_T30 t396 x13_1).f1)))).cell? _ = some _ from hx402_2)); clear hn402_0; clear hn402_1; replace p402 := eq_true p402; replace q402 := eq_true q402) | ((with_reducible refine gate_builtin (b := .append) (xs := #[.tmp 29, .tmp 31]) rfl ?_); at_builtin; refine Kd.R_append (Kd.int .i64) (w0 := w) w.heap.size rfl (.tmp 29) (.tmp 31) 22 3 (.int .i64 0) 8 rfl Tryz.underlying22 info3 rfl (by decide) (by omega) u7 x7_1 x13_1 [.int .i64 x13_1] (fun _ => True) (fun _ => False) rfl (by first | (go_simp; done) | (go_simp; rfl)) ?aP (fun _ hk => hk.elim) ?aF ?aO ?aB ?aS ?aL ?_; (case aP => exact rfl); (case aB => exact (by repeat (first | (with_reducible first | exact HB.out | apply below_alloc | apply pw_below_drewN | apply below_drew1 | refine below_set ?_ GE395.out | refine below_set ?_ GE400.out) | exact HB.out))); (case aF => exact (fun _ _ => trivial)); (case aO => exact (by (with_reducible repeat (first | apply Kd.R_alloc | apply Kd.R_drewN | apply Kd.R_drew)); exact Kd.R_mono (Kd.R_far (p := ⟨gb400, 1, none⟩) (Kd.R_far (p := ⟨gb400, 0, none⟩) (Kd.R_types HO_7.out BK400.out (by decide)) (fun _ hk => hk.2) (.int .i64 ((rd_T30 t396 x13_1).f0))) (fun _ hk => hk.2) (.int .i64 ((rd_T30 t396 x13_1).f1))) (fun _ hk => trivial))); (case aS => exact (below_size (by repeat (first | (with_reducible first | exact HB.out | apply below_alloc | apply pw_below_drewN | apply below_drew1 | refine below_set ?_ GE395.out | refine below_set ?_ GE400.out) | exact HB.out)))); (case aL => have := LMc16.out; omega); intro v404 w20 ho hb hg hat; rw [← Ny403.out] at ho; replace HO_11 := Aside0.mk (Kd.R_over' (by (with_reducible repeat (first | apply Kd.R_alloc | apply Kd.R_drewN | apply Kd.R_drew)); exact (Kd.R_mono (Kd.R_far (p := ⟨gb400, 1, none⟩) (Kd.R_far (p := ⟨gb400, 0, none⟩) (Kd.R_mono HO_11.out (fun k_ hk => (⟨hk, hk.2⟩ : _ ∧ k_ ≠ gb400))) (fun _ hk => hk.2) (.int .i64 ((rd_T30 t396 x13_1).f0))) (fun _ hk => hk.2) (.int .i64 ((rd_T30 t396 x13_1).f1))) (fun _ h_ => h_.1))) (Kd.R_typed (by (with_reducible repeat (first | apply Kd.R_alloc | apply Kd.R_drewN | apply Kd.R_drew)); exact (Kd.R_mono (Kd.R_far (p := ⟨gb400, 1, none⟩) (Kd.R_far (p := ⟨gb400, 0, none⟩) (Kd.R_types HO_7.out BK400.out (by decide)) (fun _ hk => hk.2) (.int .i64 ((rd_T30 t396 x13_1).f0))) (fun _ hk => hk.2) (.int .i64 ((rd_T30 t396 x13_1).f1))) (fun _ h_ => h_.1)))) (by decide) hg); replace BK395 := Aside0.mk (blk_grown (g := gb395) (o := .cells #[.int .i64 a0_0, .int .i64 a0_1, .slice A0_2 l0_2.length c0_2, .slice A0_3 l0_3.length c0_3] 78 (0, 0)) (by (with_reducible repeat (first | refine blk_drewN ?_ _ | refine blk_drew ?_ | refine blk_alloc ?_ _)); refine blk_far ?_ NB395_400.out _; (with_reducible repeat (first | refine blk_drewN ?_ _ | refine blk_drew ?_ | refine blk_alloc ?_ _)); refine blk_far ?_ NB395_400.out _; (with_reducible repeat (first | refine blk_drewN ?_ _ | refine blk_drew ?_ | refine blk_alloc ?_ _)); exact BK395.out) hg (Kd.R_ne HO_7.out BK395.out (by decide))); replace BK400 := Aside0.mk (blk_grown (g := gb400) (o := .cells #[.int .i64 ((rd_T30 t396 x13_1).f0), .int .i64 ((rd_T30 t396 x13_1).f1)] 30 (0, 0)) (by (with_reducible repeat (first | refine blk_drewN ?_ _ | refine blk_drew ?_ | refine blk_alloc ?_ _)); refine blk_put (cs := #[.int .i64 ((rd_T30 t396 x13_1).f0), .int .i64 0]) ?_ 1 _ rfl; (with_reducible repeat (first | refine blk_drewN ?_ _ | refine blk_drew ?_ | refine blk_alloc ?_ _)); refine blk_put (cs := #[.int .i64 0, .int .i64 0]) ?_ 0 _ rfl; (with_reducible repeat (first | refine blk_drewN ?_ _ | refine blk_drew ?_ | refine blk_alloc ?_ _)); exact BK400.out) hg (Kd.R_ne HO_7.out BK400.out (by decide))); have HO405 := Aside0.mk (ho); replace HB := Aside0.mk (hb); clear HO_7; clear ho hb hg hat)))
                      go_roundg k1
                      case measure => have := HK1.out; omega
                      case rel => exact ⟨(y403), (wrap64 (x13_1 + 1)), (by first | rfl | (simp; done) | (simp [*]; done)), H', ⟨by have := HK1.out; omega⟩, ⟨by (with_reducible repeat (first | apply Kd.R_alloc | apply Kd.R_drewN | apply Kd.R_drew)); exact HO405.out⟩, ⟨by (with_reducible repeat (first | apply Kd.R_alloc | apply Kd.R_drewN | apply Kd.R_drew)); exact Kd.R_mono HO_11.out (fun _ hk => trivial)⟩, ⟨by (with_reducible repeat (first | refine blk_drewN ?_ _ | refine blk_drew ?_ | refine blk_alloc ?_ _)); exact BK395.out⟩, ⟨by repeat (first | (with_reducible first | exact HB.out | apply below_alloc | apply pw_below_drewN | apply below_drew1 | refine below_set ?_ GE395.out | refine below_set ?_ GE400.out) | exact HB.out)⟩⟩
                    · rw [if_neg c16] at H
                      exact absurd H (by simp)
                  · rw [if_neg c15] at H
                    have c15b0 : decide (((rd_T123 l1 (rd l2 x13_1)).f0) < ((rd_T30 t396 x13_1).f1)) = false := decide_eq_false c15
                    clear c15
                    have H' := Aside0.mk H
                    clear H
                    have p399 : 0 ≤ (x13_1 : Int) := of_decide_eq_true (by assumption)
                    have q399 : x13_1 < (t396.length : Int) := of_decide_eq_true (by assumption)
                    obtain ⟨ad399, e399, hx399_0, hx399_1⟩ := at_T30 (Kd.R_reads' HO_11.out).2.2 x13_1 p399 q399
                    cases e399
                    replace p399 := eq_true p399
                    replace q399 := eq_true q399
                    go_wp2_with (first | ((with_reducible refine gate_dst (N := 9) rfl ?_); refine box_event ?hg (N := 9) ?hd (cs := #[.int .i64 0, .int .i64 0]) (t := 30) ?hr ?_; (case hd => rfl); (case hg => rfl); (case hr => first | (go_simp; done) | (go_simp; rfl)); intro gb400 hg w21 hbox hb; have GW400 := Aside0.mk ((by rw [hg]; exact (below_size (by repeat (first | (with_reducible first | exact HB.out | apply below_alloc | apply pw_below_drewN | apply below_drew1 | refine below_set ?_ GE395.out) | exact HB.out))) : w.heap.size ≤ gb400)); have GE400 := Aside0.mk ((by rw [hg]; exact (below_size (by repeat (first | (with_reducible first | exact HB.out | apply below_alloc | apply pw_below_drewN | apply below_drew1 | refine below_set ?_ GE395.out) | exact HB.out))) : w.heap.size ≤ gb400)); have NB395_400 := Aside0.mk ((by rw [hg]; exact Nat.ne_of_lt (blk_lt (g := gb395) (o := .cells #[.int .i64 a0_0, .int .i64 a0_1, .slice A0_2 l0_2.length c0_2, .slice A0_3 l0_3.length c0_3] 78 (0, 0)) (by (with_reducible repeat (first | refine blk_drewN ?_ _ | refine blk_drew ?_ | refine blk_alloc ?_ _)); exact BK395.out)) : gb395 ≠ gb400)); have NB400_395 := Aside0.mk ((by rw [hg]; exact Nat.ne_of_gt (blk_lt (g := gb395) (o := .cells #[.int .i64 a0_0, .int .i64 a0_1, .slice A0_2 l0_2.length c0_2, .slice A0_3 l0_3.length c0_3] 78 (0, 0)) (by (with_reducible repeat (first | refine blk_drewN ?_ _ | refine blk_drew ?_ | refine blk_alloc ?_ _)); exact BK395.out)) : gb400 ≠ gb395)); replace HO_7 := Aside0.mk (Kd.R_below (by (with_reducible repeat (first | apply Kd.R_alloc | apply Kd.R_drewN | apply Kd.R_drew)); exact HO_7.out) hb); replace HO_11 := Aside0.mk (Kd.R_below (Kd.R_elderB (by (with_reducible repeat (first | apply Kd.R_alloc | apply Kd.R_drewN | apply Kd.R_drew)); exact HO_11.out) gb400 (Nat.le_of_eq hg.symm)) hb); replace BK395 := Aside0.mk (blk_below (g := gb395) (o := .cells #[.int .i64 a0_0, .int .i64 a0_1, .slice A0_2 l0_2.length c0_2, .slice A0_3 l0_3.length c0_3] 78 (0, 0)) (by (with_reducible repeat (first | refine blk_drewN ?_ _ | refine blk_drew ?_ | refine blk_alloc ?_ _)); exact BK395.out) hb); have BK400 := Aside0.mk (hbox); replace HB := Aside0.mk (below_step (by repeat (first | (with_reducible first | exact HB.out | apply below_alloc | apply pw_below_drewN | apply below_drew1 | refine below_set ?_ GE395.out) | exact HB.out)) hb); clear hb hbox hg; have hnb22 := NB400_395.out; have hnc22 := NB395_400.out; have hcz23_0 := (blk_cell BK400.out 0).trans rfl; have hcz23_1 := (blk_cell BK400.out 1).trans rfl; have hfz23_0 := blk_frozen BK400.out 0; have hfz23_1 := blk_frozen BK400.out 1; have p401 : 0 ≤ (x13_1 : Int) := of_decide_eq_true (by assumption); have q401 : x13_1 < (l2.length : Int) := of_decide_eq_true (by assumption); obtain ⟨ad401, e401, hx401_0⟩ := Kd.at_int HR2.out x13_1 p401 q401; cases e401; have hn401_0 : ad401.block ≠ gb400 := Nat.ne_of_lt (Nat.lt_of_lt_of_le (by have := World.block_lt_of_cell? _ _ hx401_0; first | rwa [add_block] at this | exact this) GW400.out); have hn401_1 : ad401.block ≠ gb400 := Nat.ne_of_lt (Nat.lt_of_lt_of_le (by have := World.block_lt_of_cell? _ _ hx401_0; first | rwa [add_block] at this | exact this) GW400.out); replace hx401_0 := (HB.out.cell (World.block_lt_of_cell? w _ hx401_0)).trans hx401_0; replace hx401_0 := (cell_far (p := ⟨gb400, 0, none⟩) (by first | (rw [add_block]; exact hn401_0) | (show (Addr.add _ _).block ≠ _; rw [add_block]; exact hn401_0) | exact hn401_0) (.int .i64 ((rd_T30 t396 x13_1).f0))).trans hx401_0; replace hx401_0 := (cell_far (p := ⟨gb400, 1, none⟩) (by first | (rw [add_block]; exact hn401_1) | (show (Addr.add _ _).block ≠ _; rw [add_block]; exact hn401_1) | exact hn401_1) (.int .i64 ((rd_T30 t396 x13_1).f1))).trans hx401_0; (try have hy401_0 := fun (n_ : Nat) => (show ((((w21.drewN n_).setCell ⟨gb400, 0, none⟩ (.int .i64 ((rd_T30 t396 x13_1).f0))).setCell ⟨gb400, 1, none⟩ (.int .i64 ((rd_T30 t396 x13_1).f1)))).cell? _ = some _ from hx401_0)); clear hn401_0; clear hn401_1; replace p401 := eq_true p401; replace q401 := eq_true q401; have p402 : 0 ≤ ((rd l2 x13_1) : Int) := of_decide_eq_true (by assumption); have q402 : (rd l2 x13_1) < (l1.length : Int) := of_decide_eq_true (by assumption); obtain ⟨ad402, e402, hx402_0, hx402_1, hx402_2⟩ := at_T123 HR1.out (rd l2 x13_1) p402 q402; cases e402; have hn402_0 : ad402.block ≠ gb400 := Nat.ne_of_lt (Nat.lt_of_lt_of_le (by have := World.block_lt_of_cell? _ _ hx402_0; first | rwa [add_block] at this | exact this) GW400.out); have hn402_1 : ad402.block ≠ gb400 := Nat.ne_of_lt (Nat.lt_of_lt_of_le (by have := World.block_lt_of_cell? _ _ hx402_0; first | rwa [add_block] at this | exact this) GW400.out); replace hx402_0 := (HB.out.cell (World.block_lt_of_cell? w _ hx402_0)).trans hx402_0; replace hx402_1 := (HB.out.cell (World.block_lt_of_cell? w _ hx402_1)).trans hx402_1; replace hx402_2 := (HB.out.cell (World.block_lt_of_cell? w _ hx402_2)).trans hx402_2; replace hx402_0 := (cell_far (p := ⟨gb400, 0, none⟩) (by first | (rw [add_block]; exact hn402_0) | (show (Addr.add _ _).block ≠ _; rw [add_block]; exact hn402_0) | exact hn402_0) (.int .i64 ((rd_T30 t396 x13_1).f0))).trans hx402_0; replace hx402_1 := (cell_far (p := ⟨gb400, 0, none⟩) (by first | (rw [add_block]; exact hn402_0) | (show (Addr.add _ _).block ≠ _; rw [add_block]; exact hn402_0) | exact hn402_0) (.int .i64 ((rd_T30 t396 x13_1).f0))).trans hx402_1; replace hx402_2 := (cell_far (p := ⟨gb400, 0, none⟩) (by first | (rw [add_block]; exact hn402_0) | (show (Addr.add _ _).block ≠ _; rw [add_block]; exact hn402_0) | exact hn402_0) (.int .i64 ((rd_T30 t396 x13_1).f0))).trans hx402_2; replace hx402_0 := (cell_far (p := ⟨gb400, 1, none⟩) (by first | (rw [add_block]; exact hn402_1) | (show (Addr.add _ _).block ≠ _; rw [add_block]; exact hn402_1) | exact hn402_1) (.int .i64 ((rd_T30 t396 x13_1).f1))).trans hx402_0; replace hx402_1 := (cell_far (p := ⟨gb400, 1, none⟩) (by first | (rw [add_block]; exact hn402_1) | (show (Addr.add _ _).block ≠ _; rw [add_block]; exact hn402_1) | exact hn402_1) (.int .i64 ((rd_T30 t396 x13_1).f1))).trans hx402_1; replace hx402_2 := (cell_far (p := ⟨gb400, 1, none⟩) (by first | (rw [add_block]; exact hn402_1) | (show (Addr.add _ _).block ≠ _; rw [add_block]; exact hn402_1) | exact hn402_1) (.int .i64 ((rd_T30 t396 x13_1).f1))).trans hx402_2; (try have hy402_0 := fun (n_ : Nat) => (show ((((w21.drewN n_).setCell ⟨gb400, 0, none⟩ (.int .i64 ((rd_T30 t396 x13_1).f0))).setCell ⟨gb400, 1, none⟩ (.int .i64 ((rd_T30 t396 x13_1).f1)))).cell? _ = some _ from hx402_0)); (try have hy402_1 := fun (n_ : Nat) => (show ((((w21.drewN n_).setCell ⟨gb400, 0, none⟩ (.int .i64 ((rd_T30 t396 x13_1).f0))).setCell ⟨gb400, 1, none⟩ (.int .i64 ((rd_T30 t396 x13_1).f1)))).cell? _ = some _ from hx402_1)); (try have hy402_2 := fun (n_ : Nat) => (show ((((w21.drewN n_).setCell ⟨gb400, 0, none⟩ (.int .i64 ((rd_T30 t396 x13_1).f0))).setCell ⟨gb400, 1, none⟩ (.int .i64 ((rd_T30 t396 x13_1).f1)))).cell? _ = some _ from hx402_2)); clear hn402_0; clear hn402_1; replace p402 := eq_true p402; replace q402 := eq_true q402))
                    repeat (go_quiet (first | ((with_reducible refine gate_dst (N := 9) rfl ?_); refine box_event ?hg (N := 9) ?hd (cs := #[.int .i64 0, .int .i64 0]) (t := 30) ?hr ?_; (case hd => rfl); (case hg => rfl); (case hr => first | (go_simp; done) | (go_simp; rfl)); intro gb400 hg w21 hbox hb; have GW400 := Aside0.mk ((by rw [hg]; exact (below_size (by repeat (first | (with_reducible first | exact HB.out | apply below_alloc | apply pw_below_drewN | apply below_drew1 | refine below_set ?_ GE395.out) | exact HB.out))) : w.heap.size ≤ gb400)); have GE400 := Aside0.mk ((by rw [hg]; exact (below_size (by repeat (first | (with_reducible first | exact HB.out | apply below_alloc | apply pw_below_drewN | apply below_drew1 | refine below_set ?_ GE395.out) | exact HB.out))) : w.heap.size ≤ gb400)); have NB395_400 := Aside0.mk ((by rw [hg]; exact Nat.ne_of_lt (blk_lt (g := gb395) (o := .cells #[.int .i64 a0_0, .int .i64 a0_1, .slice A0_2 l0_2.length c0_2, .slice A0_3 l0_3.length c0_3] 78 (0, 0)) (by (with_reducible repeat (first | refine blk_drewN ?_ _ | refine blk_drew ?_ | refine blk_alloc ?_ _)); exact BK395.out)) : gb395 ≠ gb400)); have NB400_395 := Aside0.mk ((by rw [hg]; exact Nat.ne_of_gt (blk_lt (g := gb395) (o := .cells #[.int .i64 a0_0, .int .i64 a0_1, .slice A0_2 l0_2.length c0_2, .slice A0_3 l0_3.length c0_3] 78 (0, 0)) (by (with_reducible repeat (first | refine blk_drewN ?_ _ | refine blk_drew ?_ | refine blk_alloc ?_ _)); exact BK395.out)) : gb400 ≠ gb395)); replace HO_7 := Aside0.mk (Kd.R_below (by (with_reducible repeat (first | apply Kd.R_alloc | apply Kd.R_drewN | apply Kd.R_drew)); exact HO_7.out) hb); replace HO_11 := Aside0.mk (Kd.R_below (Kd.R_elderB (by (with_reducible repeat (first | apply Kd.R_alloc | apply Kd.R_drewN | apply Kd.R_drew)); exact HO_11.out) gb400 (Nat.le_of_eq hg.symm)) hb); replace BK395 := Aside0.mk (blk_below (g := gb395) (o := .cells #[.int .i64 a0_0, .int .i64 a0_1, .slice A0_2 l0_2.length c0_2, .slice A0_3 l0_3.length c0_3] 78 (0, 0)) (by (with_reducible repeat (first | refine blk_drewN ?_ _ | refine blk_drew ?_ | refine blk_alloc ?_ _)); exact BK395.out) hb); have BK400 := Aside0.mk (hbox); replace HB := Aside0.mk (below_step (by repeat (first | (with_reducible first | exact HB.out | apply below_alloc | apply pw_below_drewN | apply below_drew1 | refine below_set ?_ GE395.out) | exact HB.out)) hb); clear hb hbox hg; have hnb22 := NB400_395.out; have hnc22 := NB395_400.out; have hcz23_0 := (blk_cell BK400.out 0).trans rfl; have hcz23_1 := (blk_cell BK400.out 1).trans rfl; have hfz23_0 := blk_frozen BK400.out 0; have hfz23_1 := blk_frozen BK400.out 1; have p401 : 0 ≤ (x13_1 : Int) := of_decide_eq_true (by assumption); have q401 : x13_1 < (l2.length : Int) := of_decide_eq_true (by assumption); obtain ⟨ad401, e401, hx401_0⟩ := Kd.at_int HR2.out x13_1 p401 q401; cases e401; have hn401_0 : ad401.block ≠ gb400 := Nat.ne_of_lt (Nat.lt_of_lt_of_le (by have := World.block_lt_of_cell? _ _ hx401_0; first | rwa [add_block] at this | exact this) GW400.out); have hn401_1 : ad401.block ≠ gb400 := Nat.ne_of_lt (Nat.lt_of_lt_of_le (by have := World.block_lt_of_cell? _ _ hx401_0; first | rwa [add_block] at this | exact this) GW400.out); replace hx401_0 := (HB.out.cell (World.block_lt_of_cell? w _ hx401_0)).trans hx401_0; replace hx401_0 := (cell_far (p := ⟨gb400, 0, none⟩) (by first | (rw [add_block]; exact hn401_0) | (show (Addr.add _ _).block ≠ _; rw [add_block]; exact hn401_0) | exact hn401_0) (.int .i64 ((rd_T30 t396 x13_1).f0))).trans hx401_0; replace hx401_0 := (cell_far (p := ⟨gb400, 1, none⟩) (by first | (rw [add_block]; exact hn401_1) | (show (Addr.add _ _).block ≠ _; rw [add_block]; exact hn401_1) | exact hn401_1) (.int .i64 ((rd_T30 t396 x13_1).f1))).trans hx401_0; (try have hy401_0 := fun (n_ : Nat) => (show ((((w21.drewN n_).setCell ⟨gb400, 0, none⟩ (.int .i64 ((rd_T30 t396 x13_1).f0))).setCell ⟨gb400, 1, none⟩ (.int .i64 ((rd_T30 t396 x13_1).f1)))).cell? _ = some _ from hx401_0)); clear hn401_0; clear hn401_1; replace p401 := eq_true p401; replace q401 := eq_true q401; have p402 : 0 ≤ ((rd l2 x13_1) : Int) := of_decide_eq_true (by assumption); have q402 : (rd l2 x13_1) < (l1.length : Int) := of_decide_eq_true (by assumption); obtain ⟨ad402, e402, hx402_0, hx402_1, hx402_2⟩ := at_T123 HR1.out (rd l2 x13_1) p402 q402; cases e402; have hn402_0 : ad402.block ≠ gb400 := Nat.ne_of_lt (Nat.lt_of_lt_of_le (by have := World.block_lt_of_cell? _ _ hx402_0; first | rwa [add_block] at this | exact this) GW400.out); have hn402_1 : ad402.block ≠ gb400 := Nat.ne_of_lt (Nat.lt_of_lt_of_le (by have := World.block_lt_of_cell? _ _ hx402_0; first | rwa [add_block] at this | exact this) GW400.out); replace hx402_0 := (HB.out.cell (World.block_lt_of_cell? w _ hx402_0)).trans hx402_0; replace hx402_1 := (HB.out.cell (World.block_lt_of_cell? w _ hx402_1)).trans hx402_1; replace hx402_2 := (HB.out.cell (World.block_lt_of_cell? w _ hx402_2)).trans hx402_2; replace hx402_0 := (cell_far (p := ⟨gb400, 0, none⟩) (by first | (rw [add_block]; exact hn402_0) | (show (Addr.add _ _).block ≠ _; rw [add_block]; exact hn402_0) | exact hn402_0) (.int .i64 ((rd_T30 t396 x13_1).f0))).trans hx402_0; replace hx402_1 := (cell_far (p := ⟨gb400, 0, none⟩) (by first | (rw [add_block]; exact hn402_0) | (show (Addr.add _ _).block ≠ _; rw [add_block]; exact hn402_0) | exact hn402_0) (.int .i64 ((rd_T30 t396 x13_1).f0))).trans hx402_1; replace hx402_2 := (cell_far (p := ⟨gb400, 0, none⟩) (by first | (rw [add_block]; exact hn402_0) | (show (Addr.add _ _).block ≠ _; rw [add_block]; exact hn402_0) | exact hn402_0) (.int .i64 ((rd_T30 t396 x13_1).f0))).trans hx402_2; replace hx402_0 := (cell_far (p := ⟨gb400, 1, none⟩) (by first | (rw [add_block]; exact hn402_1) | (show (Addr.add _ _).block ≠ _; rw [add_block]; exact hn402_1) | exact hn402_1) (.int .i64 ((rd_T30 t396 x13_1).f1))).trans hx402_0; replace hx402_1 := (cell_far (p := ⟨gb400, 1, none⟩) (by first | (rw [add_block]; exact hn402_1) | (show (Addr.add _ _).block ≠ _; rw [add_block]; exact hn402_1) | exact hn402_1) (.int .i64 ((rd_T30 t396 x13_1).f1))).trans hx402_1; replace hx402_2 := (cell_far (p := ⟨gb400, 1, none⟩) (by first | (rw [add_block]; exact hn402_1) | (show (Addr.add _ _).block ≠ _; rw [add_block]; exact hn402_1) | exact hn402_1) (.int .i64 ((rd_T30 t396 x13_1).f1))).trans hx402_2; (try have hy402_0 := fun (n_ : Nat) => (show ((((w21.drewN n_).setCell ⟨gb400, 0, none⟩ (.int .i64 ((rd_T30 t396 x13_1).f0))).setCell ⟨gb400, 1, none⟩ (.int .i64 ((rd_T30 t396 x13_1).f1)))).cell? _ = some _ from hx402_0)); (try have hy402_1 := fun (n_ : Nat) => (show ((((w21.drewN n_).setCell ⟨gb400, 0, none⟩ (.int .i64 ((rd_T30 t396 x13_1).f0))).setCell ⟨gb400, 1, none⟩ (.int .i64 ((rd_T30 t396 x13_1).f1)))).cell? _ = some _ from hx402_1)); (try have hy402_2 := fun (n_ : Nat) => (show ((((w21.drewN n_).setCell ⟨gb400, 0, none⟩ (.int .i64 ((rd_T30 t396 x13_1).f0))).setCell ⟨gb400, 1, none⟩ (.int .i64 ((rd_T30 t396 x13_1).f1)))).cell? _ = some _ from hx402_2)); clear hn402_0; clear hn402_1; replace p402 := eq_true p402; replace q402 := eq_true q402)); try go_wp2_with (first | ((with_reducible refine gate_dst (N := 9) rfl ?_); refine box_event ?hg (N := 9) ?hd (cs := #[.int .i64 0, .int .i64 0]) (t := 30) ?hr ?_; (case hd => rfl); (case hg => rfl); (case hr => first | (go_simp; done) | (go_simp; rfl)); intro gb400 hg w21 hbox hb; have GW400 := Aside0.mk ((by rw [hg]; exact (below_size (by repeat (first | (with_reducible first | exact HB.out | apply below_alloc | apply pw_below_drewN | apply below_drew1 | refine below_set ?_ GE395.out) | exact HB.out))) : w.heap.size ≤ gb400)); have GE400 := Aside0.mk ((by rw [hg]; exact (below_size (by repeat (first | (with_reducible first | exact HB.out | apply below_alloc | apply pw_below_drewN | apply below_drew1 | refine below_set ?_ GE395.out) | exact HB.out))) : w.heap.size ≤ gb400)); have NB395_400 := Aside0.mk ((by rw [hg]; exact Nat.ne_of_lt (blk_lt (g := gb395) (o := .cells #[.int .i64 a0_0, .int .i64 a0_1, .slice A0_2 l0_2.length c0_2, .slice A0_3 l0_3.length c0_3] 78 (0, 0)) (by (with_reducible repeat (first | refine blk_drewN ?_ _ | refine blk_drew ?_ | refine blk_alloc ?_ _)); exact BK395.out)) : gb395 ≠ gb400)); have NB400_395 := Aside0.mk ((by rw [hg]; exact Nat.ne_of_gt (blk_lt (g := gb395) (o := .cells #[.int .i64 a0_0, .int .i64 a0_1, .slice A0_2 l0_2.length c0_2, .slice A0_3 l0_3.length c0_3] 78 (0, 0)) (by (with_reducible repeat (first | refine blk_drewN ?_ _ | refine blk_drew ?_ | refine blk_alloc ?_ _)); exact BK395.out)) : gb400 ≠ gb395)); replace HO_7 := Aside0.mk (Kd.R_below (by (with_reducible repeat (first | apply Kd.R_alloc | apply Kd.R_drewN | apply Kd.R_drew)); exact HO_7.out) hb); replace HO_11 := Aside0.mk (Kd.R_below (Kd.R_elderB (by (with_reducible repeat (first | apply Kd.R_alloc | apply Kd.R_drewN | apply Kd.R_drew)); exact HO_11.out) gb400 (Nat.le_of_eq hg.symm)) hb); replace BK395 := Aside0.mk (blk_below (g := gb395) (o := .cells #[.int .i64 a0_0, .int .i64 a0_1, .slice A0_2 l0_2.length c0_2, .slice A0_3 l0_3.length c0_3] 78 (0, 0)) (by (with_reducible repeat (first | refine blk_drewN ?_ _ | refine blk_drew ?_ | refine blk_alloc ?_ _)); exact BK395.out) hb); have BK400 := Aside0.mk (hbox); replace HB := Aside0.mk (below_step (by repeat (first | (with_reducible first | exact HB.out | apply below_alloc | apply pw_below_drewN | apply below_drew1 | refine below_set ?_ GE395.out) | exact HB.out)) hb); clear hb hbox hg; have hnb22 := NB400_395.out; have hnc22 := NB395_400.out; have hcz23_0 := (blk_cell BK400.out 0).trans rfl; have hcz23_1 := (blk_cell BK400.out 1).trans rfl; have hfz23_0 := blk_frozen BK400.out 0; have hfz23_1 := blk_frozen BK400.out 1; have p401 : 0 ≤ (x13_1 : Int) := of_decide_eq_true (by assumption); have q401 : x13_1 < (l2.length : Int) := of_decide_eq_true (by assumption); obtain ⟨ad401, e401, hx401_0⟩ := Kd.at_int HR2.out x13_1 p401 q401; cases e401; have hn401_0 : ad401.block ≠ gb400 := Nat.ne_of_lt (Nat.lt_of_lt_of_le (by have := World.block_lt_of_cell? _ _ hx401_0; first | rwa [add_block] at this | exact this) GW400.out); have hn401_1 : ad401.block ≠ gb400 := Nat.ne_of_lt (Nat.lt_of_lt_of_le (by have := World.block_lt_of_cell? _ _ hx401_0; first | rwa [add_block] at this | exact this) GW400.out); replace hx401_0 := (HB.out.cell (World.block_lt_of_cell? w _ hx401_0)).trans hx401_0; replace hx401_0 := (cell_far (p := ⟨gb400, 0, none⟩) (by first | (rw [add_block]; exact hn401_0) | (show (Addr.add _ _).block ≠ _; rw [add_block]; exact hn401_0) | exact hn401_0) (.int .i64 ((rd_T30 t396 x13_1).f0))).trans hx401_0; replace hx401_0 := (cell_far (p := ⟨gb400, 1, none⟩) (by first | (rw [add_block]; exact hn401_1) | (show (Addr.add _ _).block ≠ _; rw [add_block]; exact hn401_1) | exact hn401_1) (.int .i64 ((rd_T30 t396 x13_1).f1))).trans hx401_0; (try have hy401_0 := fun (n_ : Nat) => (show ((((w21.drewN n_).setCell ⟨gb400, 0, none⟩ (.int .i64 ((rd_T30 t396 x13_1).f0))).setCell ⟨gb400, 1, none⟩ (.int .i64 ((rd_T30 t396 x13_1).f1)))).cell? _ = some _ from hx401_0)); clear hn401_0; clear hn401_1; replace p401 := eq_true p401; replace q401 := eq_true q401; have p402 : 0 ≤ ((rd l2 x13_1) : Int) := of_decide_eq_true (by assumption); have q402 : (rd l2 x13_1) < (l1.length : Int) := of_decide_eq_true (by assumption); obtain ⟨ad402, e402, hx402_0, hx402_1, hx402_2⟩ := at_T123 HR1.out (rd l2 x13_1) p402 q402; cases e402; have hn402_0 : ad402.block ≠ gb400 := Nat.ne_of_lt (Nat.lt_of_lt_of_le (by have := World.block_lt_of_cell? _ _ hx402_0; first | rwa [add_block] at this | exact this) GW400.out); have hn402_1 : ad402.block ≠ gb400 := Nat.ne_of_lt (Nat.lt_of_lt_of_le (by have := World.block_lt_of_cell? _ _ hx402_0; first | rwa [add_block] at this | exact this) GW400.out); replace hx402_0 := (HB.out.cell (World.block_lt_of_cell? w _ hx402_0)).trans hx402_0; replace hx402_1 := (HB.out.cell (World.block_lt_of_cell? w _ hx402_1)).trans hx402_1; replace hx402_2 := (HB.out.cell (World.block_lt_of_cell? w _ hx402_2)).trans hx402_2; replace hx402_0 := (cell_far (p := ⟨gb400, 0, none⟩) (by first | (rw [add_block]; exact hn402_0) | (show (Addr.add _ _).block ≠ _; rw [add_block]; exact hn402_0) | exact hn402_0) (.int .i64 ((rd_T30 t396 x13_1).f0))).trans hx402_0; replace hx402_1 := (cell_far (p := ⟨gb400, 0, none⟩) (by first | (rw [add_block]; exact hn402_0) | (show (Addr.add _ _).block ≠ _; rw [add_block]; exact hn402_0) | exact hn402_0) (.int .i64 ((rd_T30 t396 x13_1).f0))).trans hx402_1; replace hx402_2 := (cell_far (p := ⟨gb400, 0, none⟩) (by first | (rw [add_block]; exact hn402_0) | (show (Addr.add _ _).block ≠ _; rw [add_block]; exact hn402_0) | exact hn402_0) (.int .i64 ((rd_T30 t396 x13_1).f0))).trans hx402_2; replace hx402_0 := (cell_far (p := ⟨gb400, 1, none⟩) (by first | (rw [add_block]; exact hn402_1) | (show (Addr.add _ _).block ≠ _; rw [add_block]; exact hn402_1) | exact hn402_1) (.int .i64 ((rd_T30 t396 x13_1).f1))).trans hx402_0; replace hx402_1 := (cell_far (p := ⟨gb400, 1, none⟩) (by first | (rw [add_block]; exact hn402_1) | (show (Addr.add _ _).block ≠ _; rw [add_block]; exact hn402_1) | exact hn402_1) (.int .i64 ((rd_T30 t396 x13_1).f1))).trans hx402_1; replace hx402_2 := (cell_far (p := ⟨gb400, 1, none⟩) (by first | (rw [add_block]; exact hn402_1) | (show (Addr.add _ _).block ≠ _; rw [add_block]; exact hn402_1) | exact hn402_1) (.int .i64 ((rd_T30 t396 x13_1).f1))).trans hx402_2; (try have hy402_0 := fun (n_ : Nat) => (show ((((w21.drewN n_).setCell ⟨gb400, 0, none⟩ (.int .i64 ((rd_T30 t396 x13_1).f0))).setCell ⟨gb400, 1, none⟩ (.int .i64 ((rd_T30 t396 x13_1).f1)))).cell? _ = some _ from hx402_0)); (try have hy402_1 := fun (n_ : Nat) => (show ((((w21.drewN n_).setCell ⟨gb400, 0, none⟩ (.int .i64 ((rd_T30 t396 x13_1).f0))).setCell ⟨gb400, 1, none⟩ (.int .i64 ((rd_T30 t396 x13_1).f1)))).cell? _ = some _ from hx402_1)); (try have hy402_2 := fun (n_ : Nat) => (show ((((w21.drewN n_).setCell ⟨gb400, 0, none⟩ (.int .i64 ((rd_T30 t396 x13_1).f0))).setCell ⟨gb400, 1, none⟩ (.int .i64 ((rd_T30 t396 x13_1).f1)))).cell? _ = some _ from hx402_2)); clear hn402_0; clear hn402_1; replace p402 := eq_true p402; replace q402 := eq_true q402)))
                    go_roundg k1
                    case measure => have := HK1.out; omega
                    case rel => exact ⟨(x7_1), (wrap64 (x13_1 + 1)), (by first | rfl | (simp; done) | (simp [*]; done)), H', ⟨by have := HK1.out; omega⟩, ⟨by (with_reducible repeat (first | apply Kd.R_alloc | apply Kd.R_drewN | apply Kd.R_drew)); exact Kd.R_mono (Kd.R_far (p := ⟨gb400, 1, none⟩) (Kd.R_far (p := ⟨gb400, 0, none⟩) (Kd.R_types HO_7.out BK400.out (by decide)) (fun _ hk => hk.2) (.int .i64 ((rd_T30 t396 x13_1).f0))) (fun _ hk => hk.2) (.int .i64 ((rd_T30 t396 x13_1).f1))) (fun _ hk => trivial)⟩, ⟨by (with_reducible repeat (first | apply Kd.R_alloc | apply Kd.R_drewN | apply Kd.R_drew)); exact Kd.R_mono (Kd.R_far (p := ⟨gb400, 1, none⟩) (Kd.R_far (p := ⟨gb400, 0, none⟩) (Kd.R_mono HO_11.out (fun k_ hk => (⟨hk, hk.2⟩ : _ ∧ k_ ≠ gb400))) (fun _ hk => hk.2) (.int .i64 ((rd_T30 t396 x13_1).f0))) (fun _ hk => hk.2) (.int .i64 ((rd_T30 t396 x13_1).f1))) (fun _ hk => trivial)⟩, ⟨by (with_reducible repeat (first | refine blk_drewN ?_ _ | refine blk_drew ?_ | refine blk_alloc ?_ _)); refine blk_far ?_ NB395_400.out _; (with_reducible repeat (first | refine blk_drewN ?_ _ | refine blk_drew ?_ | refine blk_alloc ?_ _)); refine blk_far ?_ NB395_400.out _; (with_reducible repeat (first | refine blk_drewN ?_ _ | refine blk_drew ?_ | refine blk_alloc ?_ _)); exact BK395.out⟩, ⟨by repeat (first | (with_reducible first | exact HB.out | apply below_alloc | apply pw_below_drewN | apply below_drew1 | refine below_set ?_ GE395.out | refine below_set ?_ GE400.out) | exact HB.out)⟩⟩
                · rw [if_neg c14] at H
                  exact absurd H (by simp)
              · rw [if_neg c13] at H
                exact absurd H (by simp)
            · rw [if_neg c12] at H
              exact absurd H (by simp)
          · rw [if_neg c11] at H
            exact absurd H (by simp)
        · rw [if_neg c10] at H
          exact absurd H (by simp)
      · rw [if_neg c9] at H
        have c9b0 : decide (x13_1 < (t396.length : Int)) = false := decide_eq_false c9
        clear c9
        obtain rfl := Option.some.inj H
        go_wp2
        repeat (go_quiet (fail); try go_wp2)
        go_ret
        exact ⟨_, by first | rfl | (simp [errW_none, errW_some] <;> rfl) | (simp [*, errW_none, errW_some] <;> rfl), by (with_reducible repeat (first | apply Kd.R_alloc | apply Kd.R_drewN | apply Kd.R_drew)); exact HO_7.out, by repeat (first | (with_reducible first | exact HB.out | apply below_alloc | apply pw_below_drewN | apply below_drew1 | refine below_set ?_ GE395.out) | exact HB.out)⟩
end Go.Proofs.YtdmdahafiiggiaaGreatDoor.K
end
section
namespace Go.Proofs.YtdmdahafiiggiaaGreatDoor.K
open Go.RowKit Go.Proofs.YtdmdahafiiggiaaGreatDoorW.PrintWords Go.Proofs.YtdmdahafiiggiaaGreatDoorW.PrintLast Go.Proofs.YtdmdahafiiggiaaGreatDoorW.PrintMore
set_option linter.unusedVariables false
set_option linter.unusedSimpArgs false
theorem isHeight_any (a b : Int) (w : World) : Calls Tryz.prog 111 #[.agg #[.int .i64 a, .int .i64 b]] w fun e w' => e = .returned (.bool (isSpanB a b 0 1000)) ∧ Below w.heap.size w w' :=
  channel_isHeight.calls a b _ w (by simp [channel_isHeight.f, isSpan_f])
theorem isSiphon1_any (x : S30) (w : World) : Calls Tryz.prog 113 #[.agg #[.int .i64 x.f0, .int .i64 x.f1]] w fun e w' => e = .returned (.bool (!isSpanB x.f0 x.f1 0 1000)) ∧ Below w.heap.size w w' := by
  have hu2 := Tryz.underlying30
  go_enter Tryz.func113, Tryz.ntmps113
  go_wp2_with (go_at_call 111; refine (isHeight_any _ _ _).mono ?_; rintro e w' ⟨rfl, hb⟩)
  go_ret
  exact ⟨rfl, below_then ((Below.refl _ _).alloc (Nat.le_refl _) _) (by simp) hb⟩
theorem isSiphon2_any (x : Int) (w : World) : Calls Tryz.prog 114 #[.int .i64 x] w fun e w' => e = .returned (.bool (!inB x 1 100)) ∧ w = w' := by
  go_enter Tryz.func114, Tryz.ntmps114
  go_wp2_with (go_at_call 67; refine (in_any _ _ _ _).mono ?_; rintro e w' ⟨rfl, rfl⟩)
  go_ret
  exact ⟨rfl, rfl⟩
def isSiphonB (a b : Int) (pts : List S30) (lens : List Int) : Bool := isSpanB a b 0 1000 && inB pts.length 2 8 && decide ((lens.length : Int) = (pts.length : Int) - 1) && pts.all (fun x => isSpanB x.f0 x.f1 0 1000) && lens.all (fun x => inB x 1 100)
def channel_isSiphon.f (a b : Int) (pts : List S30) (lens : List Int) : Option Bool := if pts.length ≤ 9223372036854775807 ∧ lens.length ≤ 9223372036854775807 then some (isSiphonB a b pts lens) else none
set_option maxRecDepth 100000 in
set_option maxHeartbeats 1000000 in
theorem channel_isSiphon.calls (a0_0 : Int) (a0_1 : Int) (A0_2 : Option Addr) (c0_2 : Nat) (l0_2 : List S30) (A0_3 : Option Addr) (c0_3 : Nat) (l0_3 : List Int) (r : Bool) (w : World) (hr0_2 : Kd.C k30 w A0_2 l0_2.length l0_2) (hc0_2 : l0_2.length ≤ c0_2) (hr0_3 : Kd.C (Kd.int .i64) w A0_3 l0_3.length l0_3) (hc0_3 : l0_3.length ≤ c0_3) (h : channel_isSiphon.f a0_0 a0_1 l0_2 l0_3 = some r) :
    Calls Tryz.prog 87 #[.agg #[.int .i64 a0_0, .int .i64 a0_1, .slice A0_2 l0_2.length c0_2, .slice A0_3 l0_3.length c0_3]] w fun e w' => e = .returned (.bool r) ∧ Below w.heap.size w w' := by
  unfold channel_isSiphon.f at h
  by_cases hl : l0_2.length ≤ 9223372036854775807 ∧ l0_3.length ≤ 9223372036854775807
  case neg => rw [if_neg hl] at h; cases h
  rw [if_pos hl] at h
  obtain rfl := Option.some.inj h
  clear h
  obtain ⟨hl2, hl3⟩ := hl
  have hu1 := Tryz.underlying78
  have hu2 := Tryz.underlying30
  have hmf : ∀ (fn : Fn) (first cap : Array Value) (w : World), (Instr.makeFunc fn first cap).run Tryz.prog w = .ok (.func fn first cap) w := fun _ _ _ _ => rfl
  obtain ⟨w1, hw1⟩ : ∃ w1, w.alloc (.cells #[.int .i64 a0_0, .int .i64 a0_1, .slice A0_2 l0_2.length c0_2, .slice A0_3 l0_3.length c0_3] 78) = w1 := ⟨_, rfl⟩
  have hB1 : Below w.heap.size w w1 := by rw [← hw1]; exact (Below.refl _ _).alloc (Nat.le_refl _) _
  have hlt : w.heap.size < w1.heap.size := by rw [← hw1]; simp
  have x0 : w1.cell? ⟨w.heap.size, 0, none⟩ = some (.int .i64 a0_0) := by rw [← hw1]; simp [go_sem]
  have x1 : w1.cell? ⟨w.heap.size, 1, none⟩ = some (.int .i64 a0_1) := by rw [← hw1]; simp [go_sem]
  have x2 : w1.cell? ⟨w.heap.size, 2, none⟩ = some (.slice A0_2 l0_2.length c0_2) := by rw [← hw1]; simp [go_sem]
  have x3 : w1.cell? ⟨w.heap.size, 3, none⟩ = some (.slice A0_3 l0_3.length c0_3) := by rw [← hw1]; simp [go_sem]
  have CP : Aside0 (∀ W, Below w1.heap.size w1 W → Calls Tryz.prog 112 #[.slice A0_2 l0_2.length c0_2, .func (.func 113) #[] #[]] W fun e w' => e = .returned (.bool (!l0_2.all (fun x => isSpanB x.f0 x.f1 0 1000))) ∧ Below W.heap.size W w') := ⟨fun W hW => by
    have := contFuncSpan A0_2 c0_2 l0_2 113 #[] (fun x => !isSpanB x.f0 x.f1 0 1000) W (Kd.C_below hr0_2 (below_then hB1 hB1.size hW)) hc0_2 hl2 (enters_of Tryz.func113 (by kernel_rfl) rfl) (fun W' x _ => isSiphon1_any x W')
    rwa [any_not_all] at this⟩
  have CI : Aside0 (∀ W, Below w1.heap.size w1 W → Calls Tryz.prog 90 #[.slice A0_3 l0_3.length c0_3, .func (.func 114) #[] #[]] W fun e w' => e = .returned (.bool (!l0_3.all (fun x => inB x 1 100))) ∧ Below W.heap.size W w') := ⟨fun W hW => by
    have := contFuncInt A0_3 c0_3 l0_3 114 #[] (fun x => !inB x 1 100) W (Kd.C_below hr0_3 (below_then hB1 hB1.size hW)) hc0_3 hl3 (enters_of Tryz.func114 (by kernel_rfl) rfl) (fun W' x _ => (isSiphon2_any x W').mono fun e w' ⟨he, hw⟩ => ⟨he, hw ▸ Below.refl _ _⟩)
    rwa [any_not_all] at this⟩
  clear hr0_2 hr0_3
  have n0 : (0 : Int) ≤ (l0_2.length : Int) := by omega
  have n1 : (l0_2.length : Int) ≤ 9223372036854775807 := by omega
  have hcase : isSpanB a0_0 a0_1 0 1000 = false ∨ (isSpanB a0_0 a0_1 0 1000 = true ∧ inB l0_2.length 2 8 = false) ∨ (isSpanB a0_0 a0_1 0 1000 = true ∧ inB l0_2.length 2 8 = true ∧ ¬ ((l0_3.length : Int) = (l0_2.length : Int) - 1)) ∨ (isSpanB a0_0 a0_1 0 1000 = true ∧ inB l0_2.length 2 8 = true ∧ ((l0_3.length : Int) = (l0_2.length : Int) - 1) ∧ l0_2.all (fun x => isSpanB x.f0 x.f1 0 1000) = false) ∨ (isSpanB a0_0 a0_1 0 1000 = true ∧ inB l0_2.length 2 8 = true ∧ ((l0_3.length : Int) = (l0_2.length : Int) - 1) ∧ l0_2.all (fun x => isSpanB x.f0 x.f1 0 1000) = true) := by
    cases isSpanB a0_0 a0_1 0 1000 <;> cases inB l0_2.length 2 8 <;> by_cases h3 : (l0_3.length : Int) = (l0_2.length : Int) - 1 <;> cases l0_2.all (fun x => isSpanB x.f0 x.f1 0 1000) <;> simp [h3]
  have HW1 := Aside0.mk hw1
  rcases hcase with h1 | ⟨h1, h2⟩ | ⟨h1, h2, h3⟩ | ⟨h1, h2, h3, h4⟩ | ⟨h1, h2, h3, h4⟩
  all_goals (try have h3' : ((l0_3.length : Int) == (l0_2.length : Int) - 1) = true := by rw [h3]; simp)
  all_goals (try have h3' : ((l0_3.length : Int) == (l0_2.length : Int) - 1) = false := by rw [beq_eq_false_iff_ne]; exact h3)
  all_goals (try have h3'' : decide ((l0_3.length : Int) = (l0_2.length : Int) - 1) = true := decide_eq_true h3)
  all_goals (try have h3'' : decide ((l0_3.length : Int) = (l0_2.length : Int) - 1) = false := decide_eq_false h3)
  all_goals (try have h3w : wrap64 ((l0_2.length : Int) - 1) = (l0_2.length : Int) - 1 := IntWalk.wrap64_in _ (by omega))
  all_goals
    try rw [h4] at CP
    go_enter Tryz.func87, Tryz.ntmps87
    go_upto_region 1 with (fail)
    try rw [hw1]
    go_wp2_with (first | (go_at_call 111; refine (isHeight_any _ _ _).mono ?_; rintro e w2 ⟨rfl, hb2⟩; have y2 := (hb2.cell (p := ⟨w.heap.size, 2, none⟩) hlt).trans x2; have y3 := (hb2.cell (p := ⟨w.heap.size, 3, none⟩) hlt).trans x3) | (go_at_call 67; refine (in_any _ _ _ _).mono ?_; rintro e w' ⟨rfl, rfl⟩) | (go_at_call 112; refine (CP.out _ hb2).mono ?_; rintro e w3 ⟨rfl, hb3⟩; have z3 := (hb3.cell (p := ⟨w.heap.size, 3, none⟩) (Nat.lt_of_lt_of_le hlt hb2.size)).trans y3) | (go_at_call 90; refine (CI.out _ (below_step hb2 hb3)).mono ?_; rintro e w4 ⟨rfl, hb4⟩))
    go_ret
    first
      | exact ⟨by simp [isSiphonB, *], below_step hB1 (below_step hb2 (below_step hb3 hb4))⟩
      | exact ⟨by simp [isSiphonB, *], below_step hB1 (below_step hb2 hb3)⟩
      | exact ⟨by simp [isSiphonB, *], below_step hB1 hb2⟩
def classB (c : S123) : Bool := inB c.f0 1 1000 && inB c.f1 0 100 && inB c.f2 0 1000
theorem areClasses1_any (x : S123) (w : World) : Calls Tryz.prog 115 #[.agg #[.int .i64 x.f0, .int .i64 x.f1, .int .i64 x.f2]] w fun e w' => e = .returned (.bool (!classB x)) ∧ Below w.heap.size w w' := by
  have hu2 := Tryz.underlying123
  obtain ⟨f0, f1, f2⟩ := x
  dsimp only
  have hcase : inB f0 1 1000 = false ∨ (inB f0 1 1000 = true ∧ inB f1 0 100 = false) ∨ (inB f0 1 1000 = true ∧ inB f1 0 100 = true) := by
    cases inB f0 1 1000 <;> cases inB f1 0 100 <;> simp
  rcases hcase with h1 | ⟨h1, h2⟩ | ⟨h1, h2⟩
  all_goals
    go_enter Tryz.func115, Tryz.ntmps115
    go_wp2_with (go_at_call 67; refine (in_any _ _ _ _).mono ?_; rintro e w' ⟨rfl, rfl⟩)
    go_ret
    exact ⟨by simp [classB, *], (Below.refl _ _).alloc (Nat.le_refl _) _⟩
def areClassesB (l : List S123) : Bool := inB l.length 1 4 && l.all classB
def channel_areClasses.f (l : List S123) : Option Bool := if l.length ≤ 9223372036854775807 then some (areClassesB l) else none
theorem channel_areClasses.calls (A0 : Option Addr) (c0 : Nat) (l0 : List S123) (r : Bool) (w : World) (hr0 : Kd.C k123 w A0 l0.length l0) (hc0 : l0.length ≤ c0) (h : channel_areClasses.f l0 = some r) :
    Calls Tryz.prog 89 #[.slice A0 l0.length c0] w fun e w' => e = .returned (.bool r) ∧ Below w.heap.size w w' := by
  unfold channel_areClasses.f at h
  by_cases hl : l0.length ≤ 9223372036854775807
  case neg => rw [if_neg hl] at h; cases h
  rw [if_pos hl] at h
  obtain rfl := Option.some.inj h
  clear h
  have hmf : ∀ (fn : Fn) (first cap : Array Value) (w : World), (Instr.makeFunc fn first cap).run Tryz.prog w = .ok (.func fn first cap) w := fun _ _ _ _ => rfl
  have CP := contFuncClass A0 c0 l0 115 #[] (fun x => !classB x) w hr0 hc0 hl (enters_of Tryz.func115 (by kernel_rfl) rfl) (fun W' x _ => areClasses1_any x W')
  rw [any_not_all] at CP
  clear hr0
  cases h1 : inB l0.length 1 4
  all_goals
    go_enter Tryz.func89, Tryz.ntmps89
    go_wp2_with (first | (go_at_call 67; refine (in_any _ _ _ _).mono ?_; rintro e w' ⟨rfl, rfl⟩) | (go_at_call 116; refine CP.mono ?_; rintro e w3 ⟨rfl, hb3⟩))
    go_ret
    first
      | exact ⟨by simp [areClassesB, *], hb3⟩
      | exact ⟨by simp [areClassesB, *], Below.refl _ _⟩
theorem Bursts1_any (x : Int) (B : Nat) (A : Option Addr) (n c : Nat) (hn : n ≤ 4) (W : World) (hcell : W.cell? ⟨B, 0, none⟩ = some (.slice A n c)) :
    Calls Tryz.prog 91 #[.int .i64 x, .pointer (some ⟨B, 0, none⟩)] W fun e w' => e = .returned (.bool (!inB x 0 ((n : Int) - 1))) ∧ W = w' := by
  go_enter Tryz.func91, Tryz.ntmps91
  go_wp2_with (go_at_call 67; refine (in_any _ _ _ _).mono ?_; rintro e w' ⟨rfl, rfl⟩)
  go_ret
  exact ⟨rfl, rfl⟩
def choiceB (a b : Int) (pts : List S30) (lens : List Int) (cl : List S123) (ch : List Int) : Bool := isSiphonB a b pts lens && areClassesB cl && decide (ch.length = lens.length) && ch.all (fun c => inB c 0 ((cl.length : Int) - 1))
def channel_Bursts.f (a b : Int) (pts : List S30) (lens : List Int) (cl : List S123) (ch : List Int) : Option (List Int × Int) :=
  if pts.length ≤ 9223372036854775807 ∧ lens.length ≤ 9223372036854775807 ∧ cl.length ≤ 9223372036854775807 ∧ ch.length ≤ 9223372036854775807 then
    if choiceB a b pts lens cl ch = true then (channel_bursts.f 100 a b pts lens cl ch).bind fun l => some (l, 0) else some ([], 2)
  else none
set_option maxRecDepth 100000 in
set_option maxHeartbeats 1000000 in
theorem channel_Bursts.calls (a0_0 : Int) (a0_1 : Int) (A0_2 : Option Addr) (c0_2 : Nat) (l0_2 : List S30) (A0_3 : Option Addr) (c0_3 : Nat) (l0_3 : List Int) (A1 : Option Addr) (c1 : Nat) (l1 : List S123) (A2 : Option Addr) (c2 : Nat) (l2 : List Int) (r1 : List Int) (r2 : Int) (w : World) (hr0_2 : Kd.C k30 w A0_2 l0_2.length l0_2) (hc0_2 : l0_2.length ≤ c0_2) (hr0_3 : Kd.C (Kd.int .i64) w A0_3 l0_3.length l0_3) (hc0_3 : l0_3.length ≤ c0_3) (hr1 : Kd.C k123 w A1 l1.length l1) (hc1 : l1.length ≤ c1) (hr2 : Kd.C (Kd.int .i64) w A2 l2.length l2) (hc2 : l2.length ≤ c2) (h : channel_Bursts.f a0_0 a0_1 l0_2 l0_3 l1 l2 = some (r1, r2)) :
    Calls Tryz.prog 48 #[.agg #[.int .i64 a0_0, .int .i64 a0_1, .slice A0_2 l0_2.length c0_2, .slice A0_3 l0_3.length c0_3], .slice A1 l1.length c1, .slice A2 l2.length c2] w fun e w' => ∃ v0_ : Value, e = .returned (.tuple #[v0_, .int .i64 r2]) ∧ Kd.R (Kd.int .i64) 3 w' w.heap.size (fun _ => True) v0_ r1 ∧ Below w.heap.size w w' := by
  unfold channel_Bursts.f at h
  by_cases hl : l0_2.length ≤ 9223372036854775807 ∧ l0_3.length ≤ 9223372036854775807 ∧ l1.length ≤ 9223372036854775807 ∧ l2.length ≤ 9223372036854775807
  case neg => rw [if_neg hl] at h; cases h
  rw [if_pos hl] at h
  have hu1 := Tryz.underlying78
  have hmf : ∀ (fn : Fn) (first cap : Array Value) (w : World), (Instr.makeFunc fn first cap).run Tryz.prog w = .ok (.func fn first cap) w := fun _ _ _ _ => rfl
  obtain ⟨w1, hw1⟩ : ∃ w1, (w.alloc (.cells #[.int .i64 a0_0, .int .i64 a0_1, .slice A0_2 l0_2.length c0_2, .slice A0_3 l0_3.length c0_3] 78)).alloc (.cells #[.slice A1 l1.length c1] 84) = w1 := ⟨_, rfl⟩
  have hB1 : Below w.heap.size w w1 := by rw [← hw1]; exact ((Below.refl _ _).alloc (Nat.le_refl _) _).alloc (by simp) _
  have hlt : w.heap.size + 1 < w1.heap.size := by rw [← hw1]; simp
  have x0 : w1.cell? ⟨w.heap.size, 0, none⟩ = some (.int .i64 a0_0) := by rw [← hw1]; simp [go_sem]
  have x1 : w1.cell? ⟨w.heap.size, 1, none⟩ = some (.int .i64 a0_1) := by rw [← hw1]; simp [go_sem]
  have x2 : w1.cell? ⟨w.heap.size, 2, none⟩ = some (.slice A0_2 l0_2.length c0_2) := by rw [← hw1]; simp [go_sem]
  have x3 : w1.cell? ⟨w.heap.size, 3, none⟩ = some (.slice A0_3 l0_3.length c0_3) := by rw [← hw1]; simp [go_sem]
  have x4 : w1.cell? ⟨w.heap.size + 1, 0, none⟩ = some (.slice A1 l1.length c1) := by rw [← hw1]; simp [go_sem]
  have CS : Aside0 (∀ W, Below w.heap.size w W → Calls Tryz.prog 87 #[.agg #[.int .i64 a0_0, .int .i64 a0_1, .slice A0_2 l0_2.length c0_2, .slice A0_3 l0_3.length c0_3]] W fun e w' => e = .returned (.bool (isSiphonB a0_0 a0_1 l0_2 l0_3)) ∧ Below W.heap.size W w') :=
    ⟨fun W hW => channel_isSiphon.calls a0_0 a0_1 A0_2 c0_2 l0_2 A0_3 c0_3 l0_3 _ W (Kd.C_below hr0_2 hW) hc0_2 (Kd.C_below hr0_3 hW) hc0_3 (by unfold channel_isSiphon.f; rw [if_pos ⟨hl.1, hl.2.1⟩])⟩
  have CC : Aside0 (∀ W, Below w.heap.size w W → Calls Tryz.prog 89 #[.slice A1 l1.length c1] W fun e w' => e = .returned (.bool (areClassesB l1)) ∧ Below W.heap.size W w') :=
    ⟨fun W hW => channel_areClasses.calls A1 c1 l1 _ W (Kd.C_below hr1 hW) hc1 (by unfold channel_areClasses.f; rw [if_pos hl.2.2.1])⟩
  have CI : Aside0 (areClassesB l1 = true → ∀ W, Below w.heap.size w W → W.cell? ⟨w.heap.size + 1, 0, none⟩ = some (.slice A1 l1.length c1) → w.heap.size + 1 < W.heap.size → Calls Tryz.prog 90 #[.slice A2 l2.length c2, .func (.func 91) #[] #[.pointer (some ⟨w.heap.size + 1, 0, none⟩)]] W fun e w' => e = .returned (.bool (!l2.all (fun c => inB c 0 ((l1.length : Int) - 1)))) ∧ Below W.heap.size W w') := ⟨fun hcl W hW hcell hsz => by
    have := contFuncInt A2 c2 l2 91 #[.pointer (some ⟨w.heap.size + 1, 0, none⟩)] (fun c => !inB c 0 ((l1.length : Int) - 1)) W (Kd.C_below hr2 hW) hc2 hl.2.2.2 (enters_of Tryz.func91 (by kernel_rfl) rfl)
      (fun W' x hW' => (Bursts1_any x (w.heap.size + 1) A1 l1.length c1 (by simp [areClassesB, inB] at hcl; omega) W' ((hW'.cell (p := ⟨w.heap.size + 1, 0, none⟩) hsz).trans hcell)).mono fun e w' ⟨he, hw⟩ => ⟨he, hw ▸ Below.refl _ _⟩)
    rwa [any_not_all] at this⟩
  have CB : Aside0 (∀ W l, Below w.heap.size w W → channel_bursts.f 100 a0_0 a0_1 l0_2 l0_3 l1 l2 = some l → Calls Tryz.prog 92 #[.agg #[.int .i64 a0_0, .int .i64 a0_1, .slice A0_2 l0_2.length c0_2, .slice A0_3 l0_3.length c0_3], .slice A1 l1.length c1, .slice A2 l2.length c2] W fun e w' => ∃ v0_ : Value, e = .returned v0_ ∧ Kd.R (Kd.int .i64) 3 w' W.heap.size (fun _ => True) v0_ l ∧ Below W.heap.size W w') :=
    ⟨fun W l hW hl => channel_bursts.calls 100 a0_0 a0_1 A0_2 c0_2 l0_2 A0_3 c0_3 l0_3 A1 c1 l1 A2 c2 l2 l W (Kd.C_below hr0_2 hW) hc0_2 (Kd.C_below hr0_3 hW) hc0_3 (Kd.C_below hr1 hW) hc1 (Kd.C_below hr2 hW) hc2 hl⟩
  clear hr0_2 hr0_3 hr1 hr2
  have HW1 := Aside0.mk hw1
  have hcase : (isSiphonB a0_0 a0_1 l0_2 l0_3 = false) ∨ (isSiphonB a0_0 a0_1 l0_2 l0_3 = true ∧ areClassesB l1 = false) ∨ (isSiphonB a0_0 a0_1 l0_2 l0_3 = true ∧ areClassesB l1 = true ∧ ¬ l2.length = l0_3.length) ∨ (isSiphonB a0_0 a0_1 l0_2 l0_3 = true ∧ areClassesB l1 = true ∧ l2.length = l0_3.length ∧ l2.all (fun c => inB c 0 ((l1.length : Int) - 1)) = false) ∨ (isSiphonB a0_0 a0_1 l0_2 l0_3 = true ∧ areClassesB l1 = true ∧ l2.length = l0_3.length ∧ l2.all (fun c => inB c 0 ((l1.length : Int) - 1)) = true) := by
    cases isSiphonB a0_0 a0_1 l0_2 l0_3 <;> cases areClassesB l1 <;> by_cases h3 : l2.length = l0_3.length <;> cases l2.all (fun c => inB c 0 ((l1.length : Int) - 1)) <;> simp [h3]
  have hcb : ∀ (p : Prop), choiceB a0_0 a0_1 l0_2 l0_3 l1 l2 = (isSiphonB a0_0 a0_1 l0_2 l0_3 && areClassesB l1 && decide (l2.length = l0_3.length) && l2.all (fun c => inB c 0 ((l1.length : Int) - 1))) := fun _ => rfl
  have HH := Aside0.mk h
  clear h
  rcases hcase with h1 | ⟨h1, h2⟩ | ⟨h1, h2, h3⟩ | ⟨h1, h2, h3, h4⟩ | ⟨h1, h2, h3, h4⟩
  all_goals (try have h3' : ((l2.length : Int) == (l0_3.length : Int)) = true := by rw [h3]; simp)
  all_goals (try have h3' : ((l2.length : Int) == (l0_3.length : Int)) = false := by rw [beq_eq_false_iff_ne]; omega)
  all_goals (try have h3e : ((l2.length : Int) = (l0_3.length : Int)) = True := eq_true (by omega))
  all_goals (try have h3e : ((l2.length : Int) = (l0_3.length : Int)) = False := eq_false (by omega))
  all_goals (try have h3'' : (l2.length == l0_3.length) = true := by rw [h3]; simp)
  all_goals (try have h3'' : (l2.length == l0_3.length) = false := by rw [beq_eq_false_iff_ne]; exact h3)
  case inr.inr.inr.inr =>
    have h := HH.out
    rw [if_pos (by simp [choiceB, h1, h2, h3, h4])] at h
    obtain ⟨l, hl1, h⟩ := Option.bind_eq_some_iff.mp h
    obtain ⟨rfl, rfl⟩ := Prod.mk.inj (Option.some.inj h)
    have HL := Aside0.mk hl1
    clear hl1 h
    rw [h1] at CS
    rw [h2] at CC
    rw [h4] at CI
    have H3 := Aside0.mk h3
    clear h3
    go_enter Tryz.func48, Tryz.ntmps48
    go_upto_region 1 with (fail)
    try rw [hw1]
    go_wp2_with (first | (go_at_call 87; refine (CS.out _ hB1).mono ?_; rintro e w2 ⟨rfl, hb2⟩; have y4 := (hb2.cell (p := ⟨w.heap.size + 1, 0, none⟩) hlt).trans x4) | (go_at_call 89; refine (CC.out _ (below_step hB1 hb2)).mono ?_; rintro e w3 ⟨rfl, hb3⟩; have hb13 := below_step hb2 hb3; have z0 := (hb13.cell (p := ⟨w.heap.size, 0, none⟩) (by simp; omega)).trans x0; have z1 := (hb13.cell (p := ⟨w.heap.size, 1, none⟩) (by simp; omega)).trans x1; have z2 := (hb13.cell (p := ⟨w.heap.size, 2, none⟩) (by simp; omega)).trans x2; have z3 := (hb13.cell (p := ⟨w.heap.size, 3, none⟩) (by simp; omega)).trans x3; have z4 := (hb13.cell (p := ⟨w.heap.size + 1, 0, none⟩) hlt).trans x4; have hsz3 := hb13.size) | (go_at_call 90; refine (CI.out h2 _ (below_step hB1 hb13) z4 (by omega)).mono ?_; rintro e w4 ⟨rfl, hb4⟩; have hb14 := below_step hb13 hb4; have u0 := (hb14.cell (p := ⟨w.heap.size, 0, none⟩) (by simp; omega)).trans x0; have u1 := (hb14.cell (p := ⟨w.heap.size, 1, none⟩) (by simp; omega)).trans x1; have u2 := (hb14.cell (p := ⟨w.heap.size, 2, none⟩) (by simp; omega)).trans x2; have u3 := (hb14.cell (p := ⟨w.heap.size, 3, none⟩) (by simp; omega)).trans x3; have u4 := (hb14.cell (p := ⟨w.heap.size + 1, 0, none⟩) hlt).trans x4) | (go_at_call 92; refine (CB.out _ _ (below_step hB1 hb14) HL.out).mono ?_; rintro e w5 ⟨v5, rfl, hR5, hb5⟩))
    go_ret2
    have hbA := below_step hB1 hb14
    exact ⟨_, rfl, Kd.R_lower hR5 hbA.size, below_step hbA hb5⟩
  all_goals
    have h := HH.out
    rw [if_neg (by simp [choiceB, *])] at h
    obtain ⟨rfl, rfl⟩ := Prod.mk.inj (Option.some.inj h)
    clear h HH
    try rw [h4] at CI
    try (have H3 := Aside0.mk h3; clear h3)
    go_enter Tryz.func48, Tryz.ntmps48
    go_upto_region 1 with (fail)
    try rw [hw1]
    go_wp2_with (first | (go_at_call 87; refine (CS.out _ hB1).mono ?_; rintro e w2 ⟨rfl, hb2⟩; have y4 := (hb2.cell (p := ⟨w.heap.size + 1, 0, none⟩) hlt).trans x4) | (go_at_call 89; refine (CC.out _ (below_step hB1 hb2)).mono ?_; rintro e w3 ⟨rfl, hb3⟩; have hb13 := below_step hb2 hb3; have z2 := (hb13.cell (p := ⟨w.heap.size, 2, none⟩) (by simp; omega)).trans x2; have z3 := (hb13.cell (p := ⟨w.heap.size, 3, none⟩) (by simp; omega)).trans x3; have z4 := (hb13.cell (p := ⟨w.heap.size + 1, 0, none⟩) hlt).trans x4; have hsz3 := hb13.size) | (go_at_call 90; refine (CI.out h2 _ (below_step hB1 hb13) z4 (by omega)).mono ?_; rintro e w4 ⟨rfl, hb4⟩; have hb14 := below_step hb13 hb4))
    go_ret2
    first
      | exact ⟨_, rfl, Kd.R_nil _ _ _ _ _, below_step hB1 hb14⟩
      | exact ⟨_, rfl, Kd.R_nil _ _ _ _ _, below_step hB1 hb13⟩
      | exact ⟨_, rfl, Kd.R_nil _ _ _ _ _, below_step hB1 hb2⟩
end Go.Proofs.YtdmdahafiiggiaaGreatDoor.K
end
section
namespace Go.Proofs.YtdmdahafiiggiaaGreatDoor.K
open Go.RowKit Go.Proofs.YtdmdahafiiggiaaGreatDoorW.PrintWords Go.Proofs.YtdmdahafiiggiaaGreatDoorW.PrintLast Go.Proofs.YtdmdahafiiggiaaGreatDoorW.PrintMore
set_option linter.unusedVariables false
set_option linter.unusedSimpArgs false
structure SiOk (a b : Int) (pts : List S30) (lens : List Int) : Prop where
  a0 : 0 ≤ a
  ab : a ≤ b
  b1 : b ≤ 1000
  n0 : 2 ≤ pts.length
  n1 : pts.length ≤ 8
  ln : lens.length + 1 = pts.length
  pt : ∀ k : Int, 0 ≤ k → k < pts.length → 0 ≤ (rd_T30 pts k).f0 ∧ (rd_T30 pts k).f0 ≤ (rd_T30 pts k).f1 ∧ (rd_T30 pts k).f1 ≤ 1000
  le : ∀ k : Int, 0 ≤ k → k < lens.length → 1 ≤ rd lens k ∧ rd lens k ≤ 100
theorem rd_getElem {l : List Int} {k : Int} (h0 : 0 ≤ k) (h1 : k < l.length) : ∃ h : k.toNat < l.length, rd l k = l[k.toNat] := ⟨by omega, by simp [rd, List.getD, List.getElem?_eq_getElem (show k.toNat < l.length by omega)]⟩
theorem rdSpan_getElem {l : List S30} {k : Int} (h0 : 0 ≤ k) (h1 : k < l.length) : ∃ h : k.toNat < l.length, rd_T30 l k = l[k.toNat] := ⟨by omega, by simp [rd_T30, List.getD, List.getElem?_eq_getElem (show k.toNat < l.length by omega)]⟩
theorem rdClass_getElem {l : List S123} {k : Int} (h0 : 0 ≤ k) (h1 : k < l.length) : ∃ h : k.toNat < l.length, rd_T123 l k = l[k.toNat] := ⟨by omega, by simp [rd_T123, List.getD, List.getElem?_eq_getElem (show k.toNat < l.length by omega)]⟩
theorem siphon_ok {a b : Int} {pts : List S30} {lens : List Int} (h : isSiphonB a b pts lens = true) : SiOk a b pts lens := by
  simp only [isSiphonB, isSpanB, inB, Bool.and_eq_true, decide_eq_true_eq] at h
  refine ⟨by omega, by omega, by omega, by omega, by omega, by omega, fun k h0 h1 => ?_, fun k h0 h1 => ?_⟩
  · obtain ⟨hk, e⟩ := rdSpan_getElem h0 h1
    have := List.all_eq_true.mp h.1.2 _ (List.getElem_mem hk)
    rw [← e] at this
    simp only [Bool.and_eq_true, decide_eq_true_eq] at this
    omega
  · obtain ⟨hk, e⟩ := rd_getElem h0 h1
    have := List.all_eq_true.mp h.2 _ (List.getElem_mem hk)
    rw [← e] at this
    simp only [Bool.and_eq_true, decide_eq_true_eq] at this
    omega
structure ClOk (cl : List S123) : Prop where
  n0 : 1 ≤ cl.length
  n1 : cl.length ≤ 4
  at_ : ∀ k : Int, 0 ≤ k → k < cl.length → 1 ≤ (rd_T123 cl k).f0 ∧ (rd_T123 cl k).f0 ≤ 1000 ∧ 0 ≤ (rd_T123 cl k).f1 ∧ (rd_T123 cl k).f1 ≤ 100 ∧ 0 ≤ (rd_T123 cl k).f2 ∧ (rd_T123 cl k).f2 ≤ 1000
theorem classes_ok {cl : List S123} (h : areClassesB cl = true) : ClOk cl := by
  simp only [areClassesB, inB, Bool.and_eq_true, decide_eq_true_eq] at h
  refine ⟨by omega, by omega, fun k h0 h1 => ?_⟩
  obtain ⟨hk, e⟩ := rdClass_getElem h0 h1
  have := List.all_eq_true.mp h.2 _ (List.getElem_mem hk)
  rw [← e] at this
  simp only [classB, inB, Bool.and_eq_true, decide_eq_true_eq] at this
  omega
def pressN (a b : Int) (pts : List S30) (k : Int) : S30 := ⟨mx 0 (a - mn (rd_T30 pts k).f1 (rd_T30 pts (k + 1)).f1), mx 0 (b - mn (rd_T30 pts k).f0 (rd_T30 pts (k + 1)).f0)⟩
def pressL (a b : Int) (pts : List S30) (n : Nat) : List S30 := (List.range n).map fun (k : Nat) => pressN a b pts (k : Int)
theorem pressL_succ (a b : Int) (pts : List S30) (n : Nat) : pressL a b pts (n + 1) = pressL a b pts n ++ [pressN a b pts (n : Int)] := by simp [pressL, List.range_succ]
theorem pressL_length (a b : Int) (pts : List S30) (n : Nat) : (pressL a b pts n).length = n := by simp [pressL]
theorem pressL_at (a b : Int) (pts : List S30) {n : Nat} {k : Int} (h0 : 0 ≤ k) (h1 : k < n) : rd_T30 (pressL a b pts n) k = pressN a b pts k := by
  obtain ⟨h, e⟩ := rdSpan_getElem (l := pressL a b pts n) h0 (by rw [pressL_length]; exact h1)
  rw [e]; simp [pressL]; congr 1; omega
theorem mn_le (a b : Int) : mn a b ≤ a ∧ mn a b ≤ b ∧ (mn a b = a ∨ mn a b = b) := by unfold mn; split <;> omega
theorem press_from {a b : Int} {pts : List S30} {lens : List Int} (h : SiOk a b pts lens) : ∀ (d j K : Nat), j + d = lens.length → d < K →
    channel_pressures.l0 K (pressL a b pts j) (lens.length : Int) (j : Int) a b pts lens = some (pressL a b pts lens.length)
  | 0, j, K + 1, hj, hK => by
    unfold channel_pressures.l0
    rw [if_neg (by omega)]
    rw [show j = lens.length by omega]
  | d + 1, j, K + 1, hj, hK => by
    have hn := h.n1; have hl := h.ln
    unfold channel_pressures.l0
    have hw : wrap64 ((j : Int) + 1) = (j : Int) + 1 := IntWalk.wrap64_in _ (by omega)
    rw [hw, if_pos (by omega), if_pos (by omega), if_pos (by omega), if_pos (by omega), if_pos (by omega), if_pos (by rw [pressL_length]; omega)]
    have p1 := h.pt (j : Int) (by omega) (by omega)
    have p2 := h.pt ((j : Int) + 1) (by omega) (by omega)
    have m1 := mn_le (rd_T30 pts (j : Int)).f1 (rd_T30 pts ((j : Int) + 1)).f1
    have m2 := mn_le (rd_T30 pts (j : Int)).f0 (rd_T30 pts ((j : Int) + 1)).f0
    have ha := h.a0; have hb := h.b1; have hab := h.ab
    rw [IntWalk.wrap64_in (a - _) (by omega), IntWalk.wrap64_in (b - _) (by omega)]
    have := press_from h d (j + 1) K (by omega) (by omega)
    rw [pressL_succ] at this
    simpa [pressN] using this
theorem press_eq {a b : Int} {pts : List S30} {lens : List Int} (h : SiOk a b pts lens) (K : Nat) (hK : lens.length < K) : channel_pressures.f K a b pts lens = some (pressL a b pts lens.length) := by
  have := press_from h lens.length 0 K (by omega) hK
  simpa [channel_pressures.f, pressL] using this
def burstL (a b : Int) (pts : List S30) (cl : List S123) (x : List Int) (n : Nat) : List Int := ((List.range n).filter fun (k : Nat) => decide ((rd_T123 cl (rd x (k : Int))).f0 < (pressN a b pts (k : Int)).f1)).map fun (k : Nat) => (k : Int)
theorem burstL_succ (a b : Int) (pts : List S30) (cl : List S123) (x : List Int) (n : Nat) : burstL a b pts cl x (n + 1) = burstL a b pts cl x n ++ (if (rd_T123 cl (rd x (n : Int))).f0 < (pressN a b pts (n : Int)).f1 then [(n : Int)] else []) := by
  unfold burstL
  rw [List.range_succ, List.filter_append, List.map_append]
  by_cases h : (rd_T123 cl (rd x (n : Int))).f0 < (pressN a b pts (n : Int)).f1 <;> simp [h]
theorem burstL_len (a b : Int) (pts : List S30) (cl : List S123) (x : List Int) (n : Nat) : (burstL a b pts cl x n).length ≤ n := by
  unfold burstL; rw [List.length_map]; have := List.length_filter_le (fun (k : Nat) => decide ((rd_T123 cl (rd x (k : Int))).f0 < (pressN a b pts (k : Int)).f1)) (List.range n); simpa using this
theorem burst_from {a b : Int} {pts : List S30} {lens : List Int} (h : SiOk a b pts lens) {cl : List S123} {x : List Int} (hx : x.length = lens.length) (hc : ∀ k : Int, 0 ≤ k → k < x.length → 0 ≤ rd x k ∧ rd x k < cl.length) : ∀ (d j K : Nat), j + d = lens.length → d < K →
    channel_bursts.l0 K cl x (burstL a b pts cl x j) (pressL a b pts lens.length) (lens.length : Int) (j : Int) = some (burstL a b pts cl x lens.length)
  | 0, j, K + 1, hj, hK => by
    unfold channel_bursts.l0
    rw [if_neg (by omega), show j = lens.length by omega]
  | d + 1, j, K + 1, hj, hK => by
    have hn := h.n1; have hl := h.ln
    have hcj := hc (j : Int) (by omega) (by omega)
    have hbl := burstL_len a b pts cl x j
    unfold channel_bursts.l0
    rw [pressL_at a b pts (by omega) (by omega), pressL_length, IntWalk.wrap64_in ((j : Int) + 1) (by omega), if_pos (by omega), if_pos (by omega), if_pos (by omega), if_pos (by omega), if_pos hcj.1, if_pos hcj.2]
    have hs := burstL_succ a b pts cl x j
    have ih := burst_from h hx hc d (j + 1) K (by omega) (by omega)
    rw [hs] at ih
    by_cases hb : (rd_T123 cl (rd x (j : Int))).f0 < (pressN a b pts (j : Int)).f1
    · rw [if_pos hb, if_pos (by omega)]
      rw [if_pos hb] at ih
      simpa using ih
    · rw [if_neg hb]
      rw [if_neg hb] at ih
      simpa using ih
theorem bursts_eq {a b : Int} {pts : List S30} {lens : List Int} (h : SiOk a b pts lens) {cl : List S123} {x : List Int} (hx : x.length = lens.length) (hc : ∀ k : Int, 0 ≤ k → k < x.length → 0 ≤ rd x k ∧ rd x k < cl.length) (K : Nat) (hK : lens.length < K) :
    channel_bursts.f K a b pts lens cl x = some (burstL a b pts cl x lens.length) := by
  unfold channel_bursts.f
  rw [press_eq h K hK]
  have := burst_from h hx hc lens.length 0 K (by omega) hK
  rw [Option.bind_some, pressL_length]
  simpa [burstL] using this
def usedN (lens x : List Int) (c : Int) : Nat → Int
  | 0 => 0
  | k + 1 => if rd x (k : Int) = c then usedN lens x c k + rd lens (k : Int) else usedN lens x c k
def priceN (lens : List Int) (cl : List S123) (x : List Int) : Nat → Int
  | 0 => 0
  | k + 1 => priceN lens cl x k + rd lens (k : Int) * (rd_T123 cl (rd x (k : Int))).f1
def usedL (lens x : List Int) (c n : Nat) : List Int := (List.range c).map fun (d : Nat) => usedN lens x (d : Int) n
def stockB (lens : List Int) (cl : List S123) (x : List Int) : Bool := (List.range cl.length).all fun (d : Nat) => decide (usedN lens x (d : Int) x.length ≤ (rd_T123 cl (d : Int)).f2)
def suffB (a b : Int) (pts : List S30) (lens : List Int) (cl : List S123) (x : List Int) : Bool := stockB lens cl x && (burstL a b pts cl x lens.length).isEmpty
theorem used_range {a b : Int} {pts : List S30} {lens : List Int} (h : SiOk a b pts lens) (x : List Int) (c : Int) : ∀ n : Nat, n ≤ lens.length → 0 ≤ usedN lens x c n ∧ usedN lens x c n ≤ 100 * n
  | 0, _ => by simp [usedN]
  | n + 1, hn => by
    have ih := used_range h x c n (by omega)
    have := h.le (n : Int) (by omega) (by omega)
    unfold usedN
    split <;> omega
theorem price_range {a b : Int} {pts : List S30} {lens : List Int} (h : SiOk a b pts lens) {cl : List S123} (hcl : ClOk cl) {x : List Int} (hx : x.length = lens.length) (hc : ∀ k : Int, 0 ≤ k → k < x.length → 0 ≤ rd x k ∧ rd x k < cl.length) : ∀ n : Nat, n ≤ lens.length → 0 ≤ priceN lens cl x n ∧ priceN lens cl x n ≤ 10000 * n
  | 0, _ => by simp [priceN]
  | n + 1, hn => by
    have ih := price_range h hcl hx hc n (by omega)
    have h1 := h.le (n : Int) (by omega) (by omega)
    have h2 := hc (n : Int) (by omega) (by omega)
    have h3 := hcl.at_ _ h2.1 h2.2
    unfold priceN
    have h4 : 0 ≤ rd lens (n : Int) * (rd_T123 cl (rd x (n : Int))).f1 := Int.mul_nonneg (by omega) (by omega)
    have h5 : rd lens (n : Int) * (rd_T123 cl (rd x (n : Int))).f1 ≤ 100 * 100 := Int.mul_le_mul (by omega) (by omega) (by omega) (by omega)
    omega
theorem usedL_zero (lens x : List Int) (c : Nat) : usedL lens x c 0 = List.replicate c 0 := by
  apply List.ext_getElem
  · simp [usedL]
  · intro i h1 h2; simp [usedL, usedN]
theorem usedL_length (lens x : List Int) (c n : Nat) : (usedL lens x c n).length = c := by simp [usedL]
theorem usedL_at (lens x : List Int) (c n : Nat) {d : Int} (h0 : 0 ≤ d) (h1 : d < c) : rd (usedL lens x c n) d = usedN lens x d n := by
  obtain ⟨h, e⟩ := rd_getElem (l := usedL lens x c n) h0 (by rw [usedL_length]; exact h1)
  rw [e]; simp [usedL]; congr 1; omega
theorem usedL_succ (lens x : List Int) (c n : Nat) (h0 : 0 ≤ rd x (n : Int)) (h1 : rd x (n : Int) < c) : usedL lens x c (n + 1) = (usedL lens x c n).set (rd x (n : Int)).toNat (usedN lens x (rd x (n : Int)) n + rd lens (n : Int)) := by
  apply List.ext_getElem
  · simp [usedL]
  · intro i h2 h3
    rw [List.getElem_set]
    simp only [usedL, List.getElem_map, List.getElem_range, usedN]
    by_cases e : rd x (n : Int) = (i : Int)
    · rw [if_pos e, if_pos (by omega), e]
    · rw [if_neg e, if_neg (by omega)]
end Go.Proofs.YtdmdahafiiggiaaGreatDoor.K
end
section
namespace Go.Proofs.YtdmdahafiiggiaaGreatDoor.K
open Go.RowKit Go.Shelf Go.Proofs.YtdmdahafiiggiaaGreatDoorW.PrintWords Go.Proofs.YtdmdahafiiggiaaGreatDoorW.PrintLast Go.Proofs.YtdmdahafiiggiaaGreatDoorW.PrintMore
set_option linter.unusedVariables false
set_option linter.unusedSimpArgs false
def onlyN (Q : Exit → Act → World → Prop) : Exit → Act → World → Prop
  | .normal, a, w => Q .normal a w
  | _, _, _ => False
def noDefer (ops : Array Oper) : Bool := ops.all fun o => match o.op with
  | .defer _ => false
  | _ => true
theorem noDefer_at {ops : Array Oper} (h : noDefer ops = true) {i : Nat} {o : Oper} (ho : ops[i]? = some o) : ∀ c, o.op ≠ .defer c := by
  intro c hc
  have := (Array.all_eq_true_iff_forall_mem.1 h) o (Array.mem_of_getElem? ho)
  rw [hc] at this
  cases this
theorem callsIn_wide_r {l n : Nat} {P : Program} {f : FuncId} {args : Array Value} {w : World} {R : Ending → World → Prop} (h : Calls P f args w R) : CallsIn (Fence.wide.inRound l) n P f args w R := CallsIn.inRound l (callsIn_wide.2 h)
theorem rowsIn_wide_r {l n : Nat} {P : Program} {row : String} {args : Array Value} {w : World} {R : Value → World → Prop} (h : Rows P row args w R) : RowsIn (Fence.wide.inRound l) n P row args w R :=
  fun c cs _ => let ⟨v, w', r, s⟩ := h c cs; ⟨v, w', r, (stepsIn_wide (P := P)).2 s⟩
theorem wpOpIn_of_wpOp {l n : Nat} {P : Program} {ops : Array Oper} (hd : noDefer ops = true) {Q : Exit → Act → World → Prop} (hQ : ∀ a w, ¬ Q .outgrown a w) {i : Nat} {K : Act → World → Prop} {a : Act} {w : World} (h : wpOp P ops Q i K a w) : wpOpIn (Fence.wide.inRound l) n P ops Q i K a w := by
  unfold wpOp at h
  unfold wpOpIn
  split
  · rename_i he; rw [he] at h; exact h
  · rename_i o ho
    rw [ho] at h
    simp only at h
    split
    · rename_i hw
      rw [if_pos hw] at h
      have h := h.resolve_right (fun hn => by obtain ⟨a, w, hx⟩ := hn.2; exact hQ a w hx)
      unfold Oper.wp at h
      unfold Oper.wpIn
      refine ⟨fun _ _ => trivial, ?_⟩
      rw [Oper.semAt_eq _ _ _ (noDefer_at hd ho)]
      generalize (execOp a.eval o).run P w = r at h ⊢
      cases r with
      | ok x w' =>
        cases x <;> simp only [Oper.upon, Oper.uponIn] at h ⊢ <;>
          first
            | exact h
            | exact ⟨fun h0 => (by cases h0), (callsIn_wide_r h).mono fun e w he => by cases e <;> exact he⟩
            | exact ⟨fun h0 => (by cases h0), rowsIn_wide_r h⟩
            | exact h.elim
      | halt x w' => cases x <;> simp only [Oper.upon, Oper.uponIn] at h ⊢ <;> exact h
    · rename_i hw
      rw [if_neg hw] at h
      exact ⟨fun _ _ => trivial, h⟩
theorem wpAnyIn_of_wpAny {l n : Nat} {P : Program} {md : Region.Mode} {ops : Array Oper} (hd : noDefer ops = true) {Q : Exit → Act → World → Prop} (hQ : ∀ a w, ¬ Q .outgrown a w) : ∀ (fuel : Nat) (listed : Array Bool) (a : Act) (w : World), wpAny P md ops Q fuel listed a w → wpAnyIn (Fence.wide.inRound l) n P md ops Q fuel listed a w
  | 0, _, _, _, h => h
  | fuel + 1, listed, a, w, h => ⟨h.1, fun i hi => wpOpIn_mono (fun a w => wpAnyIn_of_wpAny hd hQ fuel _ a w) (wpOpIn_of_wpOp hd hQ (h.2 i hi))⟩
theorem startR_ {l id n m : Nat} {P : Program} {ops : Array Oper} {Q : Exit → Act → World → Prop} {S : World → Prop} {ds : List Nat} {a : Act} {w : World} (lst : Array Bool) (hm : P.follows .mixedOrders = true) (hd : noDefer ops = true) (hn : ops.size = m) (hl : Array.replicate m false = lst) (hS : S w.drew)
    (h : S w.drew → wpAnyLast P .any ops (onlyN Q) S ds m lst a w.drew) : (Code.region id ops true).wpIn (Fence.wide.inRound l) n P Q a w := by
  subst hn
  subst hl
  refine wpIn_mono (wpIn_region_any hm (wpAnyIn_of_wpAny hd (Q := onlyN Q) (fun _ _ h => h) _ _ _ _ (wpAny_of_last _ _ _ _ (h hS)))) ?_
  intro e a w h
  cases e with
  | normal => exact h
  | _ => exact h.elim
theorem startN_ {id n m : Nat} {P : Program} {ops : Array Oper} {Q : Exit → Act → World → Prop} {S : World → Prop} {ds : List Nat} {a : Act} {w : World} (lst : Array Bool) (hm : P.follows .mixedOrders = true) (hn : ops.size = m) (hl : Array.replicate m false = lst) (hS : S w.drew)
    (h : S w.drew → wpAnyLast P .any ops (onlyN Q) S ds m lst a w.drew) : (Code.region id ops true).wpIn Fence.wide n P Q a w := by
  refine wpIn_mono (wpIn_wide.2 (start_ (Q := onlyN Q) lst hm hn hl hS h)) ?_
  intro e a w h
  cases e with
  | normal => exact h
  | _ => exact h.elim
end Go.Proofs.YtdmdahafiiggiaaGreatDoor.K
end
section
namespace Go.Proofs.YtdmdahafiiggiaaGreatDoor.K
open Go.RowKit Go.Shelf Go.Proofs.YtdmdahafiiggiaaGreatDoorW.PrintWords Go.Proofs.YtdmdahafiiggiaaGreatDoorW.PrintLast Go.Proofs.YtdmdahafiiggiaaGreatDoorW.PrintMore
attribute [local go_sem] Oper.semAt_some
set_option linter.unusedVariables false
set_option linter.unusedSimpArgs false
set_option maxHeartbeats 1000000 in
theorem choices_any (s c : Int) (w : World) :
    Calls Tryz.prog 118 #[.int .i64 s, .int .i64 c] w fun e w' => e = .returned (.func (.func 139) #[] #[.pointer (some ⟨w.heap.size, 0, none⟩), .pointer (some ⟨w.heap.size + 1, 0, none⟩)]) ∧ w' = (w.alloc (.cells #[.int .i64 s] 3)).alloc (.cells #[.int .i64 c] 3) := by
  have hmf : ∀ (fn : Fn) (first cap : Array Value) (w : World), (Instr.makeFunc fn first cap).run Tryz.prog w = .ok (.func fn first cap) w := fun _ _ _ _ => rfl
  go_enter Tryz.func118, Tryz.ntmps118
  go_wp2
  go_ret
  exact ⟨rfl, rfl⟩
set_option maxRecDepth 100000 in
set_option maxHeartbeats 1000000 in
theorem enough_any (a b : Int) (A2 A3 A1 : Option Addr) (n2 n3 n1 c2 c3 c1 : Nat) (w : World) :
    Calls Tryz.prog 94 #[.agg #[.int .i64 a, .int .i64 b, .slice A2 n2 c2, .slice A3 n3 c3], .slice A1 n1 c1] w fun e w' => e = .returned (.func (.func 117) #[] #[.pointer (some ⟨w.heap.size, 0, none⟩), .pointer (some ⟨w.heap.size + 1, 0, none⟩)]) ∧ w' = (w.alloc (.cells #[.int .i64 a, .int .i64 b, .slice A2 n2 c2, .slice A3 n3 c3] 78)).alloc (.cells #[.slice A1 n1 c1] 84) := by
  have hu1 := Tryz.underlying78
  have hmf : ∀ (fn : Fn) (first cap : Array Value) (w : World), (Instr.makeFunc fn first cap).run Tryz.prog w = .ok (.func fn first cap) w := fun _ _ _ _ => rfl
  go_enter Tryz.func94, Tryz.ntmps94
  go_wp2
  go_ret
  exact ⟨rfl, rfl⟩
def AtP (B : Nat) (W : World) (x : List Int × Int) (v : Array Value) : Prop := ∃ sl, v = #[.agg #[sl, .int .i64 x.2]] ∧ OwnI W B sl x.1
def filtP (a b : Int) (pts : List S30) (lens : List Int) (cl : List S123) (l : List (List Int)) : List (List Int × Int) := (l.filter (suffB a b pts lens cl)).map fun x => (x, priceN lens cl x x.length)
theorem filtP_snoc (a b : Int) (pts : List S30) (lens : List Int) (cl : List S123) (l : List (List Int)) (x : List Int) : filtP a b pts lens cl (l ++ [x]) = filtP a b pts lens cl l ++ if suffB a b pts lens cl x = true then [(x, priceN lens cl x x.length)] else [] := by
  unfold filtP; rw [List.filter_append, List.map_append]; by_cases h : suffB a b pts lens cl x = true <;> simp [h]
theorem filtP_rest {a b : Int} {pts : List S30} {lens : List Int} {cl : List S123} {l pre : List (List Int)} {x : List Int} (h : ∃ rest, l = pre ++ x :: rest) (hs : suffB a b pts lens cl x = true) : ∃ rest, filtP a b pts lens cl l = filtP a b pts lens cl pre ++ (x, priceN lens cl x x.length) :: rest := by
  obtain ⟨rest, rfl⟩ := h
  refine ⟨filtP a b pts lens cl rest, ?_⟩
  unfold filtP; rw [List.filter_append, List.map_append, List.filter_cons, if_pos hs]; rfl
theorem OwnI.kb {W W1 : World} {base : Nat} {v : Value} {xs : List Int} {M : Nat → Prop} (h : OwnI W base v xs) (hk : KB M W W1) (hM : ∀ k, M k → k < base) : OwnI W1 base v xs :=
  Kd.R_of_own (own_move (Kd.own_of_R h) (fun k e => by have := OwnI.blk h e; exact hk.block _ this.2 (fun e2 => by have := hM _ e2; omega))) (fun _ _ => trivial)
theorem KB.step {M N : Nat → Prop} {A B C : World} (h : KB M A B) (k : KB N B C) (hN : ∀ i, i < A.heap.size → N i → M i) : KB M A C :=
  ⟨k.os.trans h.os, k.tape.trans h.tape, k.output.trans h.output, Nat.le_trans h.size k.size, fun i hi hm => (k.block i (Nat.lt_of_lt_of_le hi h.size) (fun hn => hm (hN i hi hn))).trans (h.block i hi hm)⟩
theorem mem_tails (c : Nat) : ∀ (m : Nat) (x : List Int), x ∈ tails c m ↔ x.length = m ∧ ∀ a ∈ x, 0 ≤ a ∧ a < c
  | 0, x => by
    simp only [tails, List.mem_singleton]
    constructor
    · rintro rfl; simp
    · intro h; exact List.eq_nil_of_length_eq_zero h.1
  | m + 1, x => by
    simp only [tails, List.mem_flatMap, List.mem_range, List.mem_map]
    constructor
    · rintro ⟨d, hd, r, hr, rfl⟩
      obtain ⟨h1, h2⟩ := (mem_tails c m r).1 hr
      refine ⟨by simp [h1], fun a ha => ?_⟩
      rcases List.mem_cons.1 ha with rfl | ha
      · omega
      · exact h2 a ha
    · rintro ⟨h1, h2⟩
      cases x with
      | nil => simp at h1
      | cons a x =>
        have ha := h2 a List.mem_cons_self
        refine ⟨a.toNat, by omega, x, (mem_tails c m x).2 ⟨by simpa using h1, fun b hb => h2 b (List.mem_cons_of_mem _ hb)⟩, ?_⟩
        rw [Int.toNat_of_nonneg ha.1]
theorem tails_at {c m : Nat} {x : List Int} (h : x ∈ tails c m) : x.length = m ∧ ∀ k : Int, 0 ≤ k → k < x.length → 0 ≤ rd x k ∧ rd x k < c := by
  obtain ⟨h1, h2⟩ := (mem_tails c m x).1 h
  refine ⟨h1, fun k h0 hk => ?_⟩
  obtain ⟨hk', e⟩ := rd_getElem h0 hk
  rw [e]; exact h2 _ (List.getElem_mem hk')
set_option maxRecDepth 100000 in
set_option maxHeartbeats 2000000 in
theorem enough1_seq (n : Nat) (h1 : 1 ≤ n) (S0 C0 : Nat) (a b : Int) (A2 A3 A1 : Option Addr) (c2 c3 c1 : Nat) (pts : List S30) (lens : List Int) (cl : List S123) (w : World) (hsi : isSiphonB a b pts lens = true) (hcl : areClassesB cl = true)
    (hS : w.heap[S0]? = some (.cells #[.int .i64 a, .int .i64 b, .slice A2 pts.length c2, .slice A3 lens.length c3] 78 (0, 0))) (hC : w.heap[C0]? = some (.cells #[.slice A1 cl.length c1] 84 (0, 0)))
    (hr2 : Kd.C k30 w A2 pts.length pts) (hc2 : pts.length ≤ c2) (hr3 : Kd.C (Kd.int .i64) w A3 lens.length lens) (hc3 : lens.length ≤ c3) (hr1 : Kd.C k123 w A1 cl.length cl) (hc1 : cl.length ≤ c1) :
    SeqM Fence.wide n Tryz.prog 117 #[.pointer (some ⟨S0, 0, none⟩), .pointer (some ⟨C0, 0, none⟩)] 9 (fun k => k < w.heap.size) AtP (filtP a b pts lens cl (tails cl.length lens.length)) w := by
  intro l M J W hkw hC0 hM hJ hY h0
  have hB : Below w.heap.size w W := hkw.below (Nat.le_refl _) (fun k hk hn => hn hk)
  have hlS := blk_lt hS
  have hlC := blk_lt hC
  have hSW : W.heap[S0]? = some (.cells #[.int .i64 a, .int .i64 b, .slice A2 pts.length c2, .slice A3 lens.length c3] 78 (0, 0)) := (hB.block _ hlS).trans hS
  have hCW : W.heap[C0]? = some (.cells #[.slice A1 cl.length c1] 84 (0, 0)) := (hB.block _ hlC).trans hC
  have si := siphon_ok hsi
  have ck := classes_ok hcl
  have hu1 := Tryz.underlying78
  obtain ⟨W1, hW1⟩ : ∃ W1, W.alloc (.cells #[.func (.yield l) #[] #[]] 154) = W1 := ⟨_, rfl⟩
  have hS1 := blk_alloc hSW (.cells #[.func (.yield l) #[] #[]] 154)
  have hC1 := blk_alloc hCW (.cells #[.func (.yield l) #[] #[]] 154)
  have hz1 : W1.heap.size = W.heap.size + 1 := by rw [← hW1]; exact World.size_alloc _ _
  rw [hW1] at hS1 hC1
  have y0 : W1.cell? ⟨S0, 2, none⟩ = some (.slice A2 pts.length c2) := (blk_cell hS1 2).trans rfl
  have y1 : W1.cell? ⟨S0, 3, none⟩ = some (.slice A3 lens.length c3) := (blk_cell hS1 3).trans rfl
  have y2 : W1.cell? ⟨C0, 0, none⟩ = some (.slice A1 cl.length c1) := (blk_cell hC1 0).trans rfl
  have H0 := Aside0.mk (And.intro h0 (And.intro hB (And.intro hS1 hC1)))
  clear h0 hB hS1 hC1 hSW hCW
  refine callsIn_of_wp_marks Tryz.func117 rfl trivial ?_ rfl
  simp only [Tryz.ntmps117, List.size_toArray, List.length_cons, List.length_nil, Nat.reduceAdd, Nat.reduceSub, Array.replicate_succ, Array.replicate_zero, List.push_toArray, List.append_toArray, List.nil_append, List.cons_append]
  gi_wp2
  refine wpIn_wide.2 (wp_scope_straight ((wpIn_wide (n := n)).1 ?_))
  refine wpIn_seq (wpIn_label ?_)
  try rw [hW1]
  gi_wp2
  refine ⟨trivial, ?_⟩
  refine (callsIn_wide.2 (choices_any _ _ _)).mono ?_
  rintro e w2 ⟨rfl, rfl⟩
  gi_wp2
  obtain ⟨W3, hW3⟩ : ∃ W3, (W1.alloc (.cells #[.int .i64 lens.length] 3)).alloc (.cells #[.int .i64 cl.length] 3) = W3 := ⟨_, rfl⟩
  rw [hW3]
  have hz3 : W3.heap.size = W.heap.size + 3 := by rw [← hW3]; simp [hz1]
  have hk3 : ∀ N : Nat → Prop, KB N W W3 := fun N => by rw [← hW3, ← hW1]; exact ((KB.alloc W _).trans (KB.alloc _ _)).trans (KB.alloc _ _)
  have hseg : W3.heap[W.heap.size + 1]? = some (.cells #[.int .i64 lens.length] 3 (0, 0)) := by
    rw [← hW3, ← hz1]; exact blk_alloc (blk_new _ _) _
  have hcls : W3.heap[W.heap.size + 1 + 1]? = some (.cells #[.int .i64 cl.length] 3 (0, 0)) := by
    have := blk_new (W1.alloc (.cells #[.int .i64 lens.length] 3)) (.cells #[.int .i64 cl.length] 3)
    rw [World.size_alloc, hz1, hW3] at this; exact this
  have hyb : W3.heap[W.heap.size]? = some (.cells #[.func (.yield l) #[] #[]] 154 (0, 0)) := by
    rw [← hW3, ← hW1]; exact blk_alloc (blk_alloc (blk_new _ _) _) _
  clear y0 y1 y2
  have hsz := H0.out.2.1.size
  have n0 := si.n0; have n1 := si.n1; have n2 := si.ln; have n3 := ck.n0; have n4 := ck.n1
  have hseq := choices1_seq (n - 1) (W.heap.size + 1) (W.heap.size + 1 + 1) lens.length cl.length (by omega) (by omega) W3 hseg hcls
  refine wpIn_rangeM rfl h1 (gf := 139) rfl trivial (enters_of Tryz.func139 (by kernel_rfl) rfl) hseq M (KB.refl _ _) (fun k hk => by rcases hk with rfl | rfl <;> omega) (fun k hk => ⟨by have := (hM k hk).1; omega, fun e => by have := (hM k hk).1; omega⟩) (fun B W x v h => by obtain ⟨sl, rfl, _⟩ := h; rfl)
    (fun pre W' => J (filtP a b pts lens cl pre) W' ∧ W'.heap[W.heap.size]? = some (.cells #[.func (.yield l) #[] #[]] 154 (0, 0)) ∧ Below w.heap.size w W')
    (fun pre x a₁ W' => (J (filtP a b pts lens cl pre) W' ∧ W'.heap[W.heap.size]? = some (.cells #[.func (.yield l) #[] #[]] 154 (0, 0)) ∧ Below w.heap.size w W') ∧ ∃ sl, a₁ = { tmps := #[.func (.yield l) #[] #[], .pointer (some ⟨S0, 0, none⟩), .pointer (some ⟨C0, 0, none⟩), .pointer (some ⟨W.heap.size, 0, none⟩), sl, undef, undef, undef, undef, undef, undef, .pointer (some ⟨S0, 3, none⟩), .slice A3 lens.length c3, .int .i64 lens.length, .slice A1 cl.length c1, .int .i64 cl.length, .func (.func 139) #[] #[.pointer (some ⟨W.heap.size + 1, 0, none⟩), .pointer (some ⟨W.heap.size + 1 + 1, 0, none⟩)], sl, undef, undef, undef, undef, undef, undef, undef, undef, undef, undef, undef, undef, undef, undef, undef, undef, undef, undef, undef, undef, undef, undef, undef, undef, undef, undef, undef, undef, undef, undef, undef, undef, undef, undef, undef, undef, undef, undef, undef, undef, undef, undef, undef, undef, undef, undef, undef, undef, undef, undef, undef, undef, undef, undef, undef, undef, undef, undef, undef, undef, undef, undef, undef, undef], defers := [] } ∧ OwnI W' (W.heap.size + 9) sl x)
    ?sI ?sM ?h0 ?assign ?body ?done
  case sI =>
    rintro pre A A' ⟨hj, hy, hb⟩ hs hk
    exact ⟨hJ _ _ _ hj (by omega) (hk.mono fun k _ h => ⟨by omega, by omega⟩), hk.at hy (by omega), hb.trans (hk.below (by omega) (fun k hkk h => by omega))⟩
  case sM =>
    rintro pre x a1 A A' ⟨⟨hj, hy, hb⟩, sl, rfl, ho⟩ hs hk
    exact ⟨⟨hJ _ _ _ hj (by omega) (hk.mono fun k _ h => ⟨by omega, by omega⟩), hk.at hy (by omega), hb.trans (hk.below (by omega) (fun k hkk h => by omega))⟩, sl, rfl, ho.kb hk (fun k h => by omega)⟩
  case h0 =>
    exact ⟨hJ _ _ _ H0.out.1 (Nat.le_refl _) (hk3 _), hyb, H0.out.2.1.trans ((hk3 (fun _ => False)).below (by omega) (fun k hkk h => h))⟩
  case assign =>
    rintro l' pre x v W' hI hs ⟨sl, rfl, ho⟩ hrest
    gi_wp2
    refine ⟨KB.refl _ _, hI, sl, rfl, ?_⟩
    rw [hz3] at ho
    exact ho
  case done =>
    rintro W' ⟨hj, hy, hb⟩ hk hD
    gi_wp2
    refine ⟨by simp, .inl ⟨_, _, rfl, run_takeDeferred hD, ?_⟩⟩
    exact ⟨_, results_none rfl _ _ _, ⟨_, rfl⟩, hJ _ _ _ hj (Nat.le_trans (by omega) hk.size) (KB.putObj _ _ _ fun _ => ⟨by omega, by omega⟩), KB.step ((hk3 M).trans hk) (KB.putObj (M := fun k => k = W3.heap.size) _ _ _ fun _ => rfl) (fun i hi e => by omega)⟩
  case body =>
    rintro l' pre x a1 Wb ⟨⟨hj, hy, hb⟩, sl, rfl, ho⟩ hs hrest
    have hmem : x ∈ tails cl.length lens.length := by obtain ⟨r, e⟩ := hrest; rw [e]; simp
    obtain ⟨hxl, hxr⟩ := tails_at hmem
    obtain ⟨g, cx, rfl, hg1, hg2, hg3⟩ := own_form ho (by omega)
    have hSb := (hb.block _ hlS).trans hS
    have hCb := (hb.block _ hlC).trans hC
    have y2 : Wb.cell? ⟨C0, 0, none⟩ = some (.slice A1 cl.length c1) := (blk_cell hCb 0).trans rfl
    have hmk := print_make (P := Tryz.prog) 22 3 .i64 8 Tryz.underlying22 info3 (by omega) cl.length (by omega)
    obtain ⟨Wu, hWu⟩ : ∃ Wu, Wb.alloc (.cells (madeCells #[Value.int .i64 0] cl.length) 3) = Wu := ⟨_, rfl⟩
    have HOU : Aside0 (OwnI Wu Wb.heap.size (.slice (some ⟨Wb.heap.size, 0, none⟩) cl.length cl.length) (usedL lens x cl.length 0)) := ⟨by
      rw [← hWu, usedL_zero]
      have hr := own_made Wb Wb.heap.size 3 .i64 cl.length (by simp) (by omega)
      exact Kd.R_of_own (by rw [List.length_replicate]; exact hr) (fun _ _ => trivial)⟩
    have HKU : Aside0 (KB (fun _ => False) Wb Wu) := ⟨by rw [← hWu]; exact KB.alloc _ _⟩
    have HEnd : Aside0 (∀ wz, KB (fun _ => False) Wb wz → suffB a b pts lens cl x = false → KB M Wb wz ∧ J (filtP a b pts lens cl (pre ++ [x])) wz ∧ wz.heap[W.heap.size]? = some (.cells #[.func (.yield l) #[] #[]] 154 (0, 0)) ∧ Below w.heap.size w wz) := ⟨fun wz hkz hsf => by
      have hwz : W.heap.size ≤ Wb.heap.size := by omega
      have e : filtP a b pts lens cl (pre ++ [x]) = filtP a b pts lens cl pre := by rw [filtP_snoc, hsf]; simp
      rw [e]
      exact ⟨hkz.mono (fun k _ h => h.elim), hJ _ _ _ hj hwz (hkz.mono (fun k _ h => h.elim)), hkz.at hy id, hb.trans (hkz.below hb.size (fun _ _ h => h))⟩⟩
    have HX := Aside0.mk (And.intro hxl (And.intro hg1 (And.intro hg2 hg3)))
    have HXR := Aside0.mk hxr
    have HB := Aside0.mk (And.intro hb (And.intro hSb hCb))
    have HJ := Aside0.mk (And.intro hj (And.intro hy ho))
    have HS := Aside0.mk (And.intro hs (And.intro hrest hmem))
    clear hj hy hb ho hs hrest hmem hxl hxr hSb hCb hg1 hg2 hg3
    gi_wp2
    gi_loopw [6, 23] (fun v6 v23 wr => ∃ k : Nat, v6 = .int .i64 (priceN lens cl x k) ∧ v23 = .int .i64 (k : Int) ∧ Aside0 (k ≤ x.length) ∧ Aside0 (OwnI wr Wb.heap.size (.slice (some ⟨Wb.heap.size, 0, none⟩) cl.length cl.length) (usedL lens x cl.length k)) ∧ Aside0 (KB (fun _ => False) Wb wr))
      (fun _ v _ => x.length - (intOf v).toNat)
    case atStart => exact ⟨0, rfl, rfl, ⟨Nat.zero_le _⟩, HOU, HKU⟩
    case round =>
      obtain ⟨k, rfl, rfl, HK, HO, HKB⟩ := hrel
      by_cases hk : k < x.length
      · have hkr := HKB.out
        have hwb : w.heap.size ≤ Wb.heap.size := HB.out.1.size
        have hbr : Below w.heap.size w wr := HB.out.1.trans (hkr.below hwb (fun _ _ h => h))
        have z2 : wr.cell? ⟨S0, 3, none⟩ = some (.slice A3 lens.length c3) := (blk_cell ((hbr.block _ hlS).trans hS) 3).trans rfl
        have z3 : wr.cell? ⟨C0, 0, none⟩ = some (.slice A1 cl.length c1) := (blk_cell ((hbr.block _ hlC).trans hC) 0).trans rfl
        have p1 : (0 : Int) ≤ (k : Int) := by omega
        have p2 : (k : Int) < (x.length : Int) := by omega
        have p3 : (k : Int) < (lens.length : Int) := by have := HX.out.1; omega
        have hdr := HXR.out (k : Int) p1 p2
        obtain ⟨z1, -⟩ := Kd.R_celln (0 : Int) (HJ.out.2.2.kb hkr (fun _ h => h.elim)) (k : Int) p1 p2
        obtain ⟨ad3, e3, z4⟩ := Kd.at_int (Kd.C_below hr3 hbr) (k : Int) p1 p3
        have hdd : rdOf (0 : Int) x (k : Int) = rd x (k : Int) := rfl
        rw [hdd] at z1
        obtain ⟨d, hd⟩ : ∃ d, rd x (k : Int) = d := ⟨_, rfl⟩
        rw [hd] at z1 hdr
        obtain ⟨adc, ec, -, z5, -⟩ := at_T123 (Kd.C_below hr1 hbr) d hdr.1 hdr.2
        obtain ⟨z6, z6f⟩ := Kd.R_celln (0 : Int) HO.out d hdr.1 hdr.2
        rw [show rdOf (0 : Int) (usedL lens x cl.length k) d = usedN lens x d k from usedL_at lens x cl.length k hdr.1 hdr.2] at z6
        rw [Int.toNat_natCast] at z1 z4
        have hu := used_range si x d k (by have := HX.out.1; omega)
        have hle := si.le (k : Int) p1 p3
        have HD := Aside0.mk hd
        clear hd hdd
        have cc3 : decide ((k : Int) < (x.length : Int)) = true := decide_eq_true p2
        have q1 := eq_true p1
        have q2 := eq_true p2
        have q3 := eq_true p3
        have q4 := eq_true hdr.1
        have q5 := eq_true hdr.2
        subst e3 ec
        have hmix : Tryz.prog.follows .mixedOrders = true := by kernel_rfl
        gi_wp2
        refine startR_ (m := 12) (S := fun w' => w'.cell? ⟨Wb.heap.size, d.toNat, none⟩ = some (.int .i64 (usedN lens x d k)) ∧ w'.cell? ⟨S0, 3, none⟩ = some (.slice (some ad3) lens.length c3) ∧ w'.cell? (ad3.add k) = some (.int .i64 (rd lens k))) (ds := [11]) #[false, false, false, false, false, false, false, false, false, false, false, false] hmix (by kernel_rfl) rfl rfl ⟨z6, z2, z4⟩ (fun hHeld => ?_)
        refine pure_ (i := 0) (N := (some 28)) (v := ?_) (a' := ?_) #[true, false, false, false, false, false, false, false, false, false, false, false] rfl rfl (by kernel_rfl) (fun _ _ _ h => h) (Or.inl ⟨by rfl, ?_⟩) ?_ ?_
        rotate_left
        · intro w'
          go_simp
          with_reducible rfl
        rotate_left
        · simp only [Act.put, List.setIfInBounds_toArray, List.set_cons_zero, List.set_cons_succ, i64_w, i32_w]
          rfl
        refine pure_ (i := 1) (N := (some 29)) (v := ?_) (a' := ?_) #[true, true, false, false, false, false, false, false, false, false, false, false] rfl rfl (by kernel_rfl) (fun _ _ _ h => h) (Or.inl ⟨by rfl, ?_⟩) ?_ ?_
        rotate_left
        · intro w'
          go_simp
          with_reducible rfl
        rotate_left
        · simp only [Act.put, List.setIfInBounds_toArray, List.set_cons_zero, List.set_cons_succ, i64_w, i32_w]
          rfl
        refine pure_ (i := 2) (N := (some 30)) (v := ?_) (a' := ?_) #[true, true, true, false, false, false, false, false, false, false, false, false] rfl rfl (by kernel_rfl) (fun _ _ _ h => h) (Or.inl ⟨by rfl, ?_⟩) ?_ ?_
        rotate_left
        · intro w'
          go_simp
          with_reducible rfl
        rotate_left
        · simp only [Act.put, List.setIfInBounds_toArray, List.set_cons_zero, List.set_cons_succ, i64_w, i32_w]
          rfl
        refine take_ (i := 3) (N := (some 31)) (v := ?_) (a' := ?_) #[true, true, true, true, false, false, false, false, false, false, false, false] rfl rfl (by kernel_rfl) (fun _ _ _ h => h) (Or.inl ⟨by rfl, ?_⟩) hHeld ?_ ?_
        rotate_left
        · rintro w' ⟨s0, s1, s2⟩
          go_simp
          with_reducible rfl
        rotate_left
        · simp only [Act.put, List.setIfInBounds_toArray, List.set_cons_zero, List.set_cons_succ, i64_w, i32_w]
          rfl
        refine pure_ (i := 4) (N := (some 32)) (v := ?_) (a' := ?_) #[true, true, true, true, true, false, false, false, false, false, false, false] rfl rfl (by kernel_rfl) (fun _ _ _ h => h) (Or.inl ⟨by rfl, ?_⟩) ?_ ?_
        rotate_left
        · intro w'
          go_simp
          with_reducible rfl
        rotate_left
        · simp only [Act.put, List.setIfInBounds_toArray, List.set_cons_zero, List.set_cons_succ, i64_w, i32_w]
          rfl
        refine take_ (i := 5) (N := (some 33)) (v := ?_) (a' := ?_) #[true, true, true, true, true, true, false, false, false, false, false, false] rfl rfl (by kernel_rfl) (fun _ _ _ h => h) (Or.inl ⟨by rfl, ?_⟩) hHeld ?_ ?_
        rotate_left
        · rintro w' ⟨s0, s1, s2⟩
          go_simp
          with_reducible rfl
        rotate_left
        · simp only [Act.put, List.setIfInBounds_toArray, List.set_cons_zero, List.set_cons_succ, i64_w, i32_w]
          rfl
        refine pure_ (i := 6) (N := (some 34)) (v := ?_) (a' := ?_) #[true, true, true, true, true, true, true, false, false, false, false, false] rfl rfl (by kernel_rfl) (fun _ _ _ h => h) (Or.inl ⟨by rfl, ?_⟩) ?_ ?_
        rotate_left
        · intro w'
          go_simp
          with_reducible rfl
        rotate_left
        · simp only [Act.put, List.setIfInBounds_toArray, List.set_cons_zero, List.set_cons_succ, i64_w, i32_w]
          rfl
        refine pure_ (i := 7) (N := (some 35)) (v := ?_) (a' := ?_) #[true, true, true, true, true, true, true, true, false, false, false, false] rfl rfl (by kernel_rfl) (fun _ _ _ h => h) (Or.inl ⟨by rfl, ?_⟩) ?_ ?_
        rotate_left
        · intro w'
          go_simp
          with_reducible rfl
        rotate_left
        · simp only [Act.put, List.setIfInBounds_toArray, List.set_cons_zero, List.set_cons_succ, i64_w, i32_w]
          rfl
        refine take_ (i := 8) (N := (some 36)) (v := ?_) (a' := ?_) #[true, true, true, true, true, true, true, true, true, false, false, false] rfl rfl (by kernel_rfl) (fun _ _ _ h => h) (Or.inl ⟨by rfl, ?_⟩) hHeld ?_ ?_
        rotate_left
        · rintro w' ⟨s0, s1, s2⟩
          go_simp
          with_reducible rfl
        rotate_left
        · simp only [Act.put, List.setIfInBounds_toArray, List.set_cons_zero, List.set_cons_succ, i64_w, i32_w]
          rfl
        refine pure_ (i := 9) (N := (some 37)) (v := ?_) (a' := ?_) #[true, true, true, true, true, true, true, true, true, true, false, false] rfl rfl (by kernel_rfl) (fun _ _ _ h => h) (Or.inl ⟨by rfl, ?_⟩) ?_ ?_
        rotate_left
        · intro w'
          go_simp
          with_reducible rfl
        rotate_left
        · simp only [Act.put, List.setIfInBounds_toArray, List.set_cons_zero, List.set_cons_succ, i64_w, i32_w]
          rfl
        refine pure_ (i := 10) (N := (some 38)) (v := ?_) (a' := ?_) #[true, true, true, true, true, true, true, true, true, true, true, false] rfl rfl (by kernel_rfl) (fun _ _ _ h => h) (Or.inl ⟨by rfl, ?_⟩) ?_ ?_
        rotate_left
        · intro w'
          go_simp
          with_reducible rfl
        rotate_left
        · simp only [Act.put, List.setIfInBounds_toArray, List.set_cons_zero, List.set_cons_succ, i64_w, i32_w]
          rfl
        have hw8 : wrap64 (usedN lens x d k + rd lens (k : Int)) = usedN lens x d k + rd lens (k : Int) := IntWalk.wrap64_in _ (by have := HX.out.1; omega)
        rw [hw8]
        clear hw8
        obtain ⟨v8, hv8⟩ : ∃ v8, usedN lens x d k + rd lens (k : Int) = v8 := ⟨_, rfl⟩
        rw [hv8]
        have HO8 := Aside0.mk (Kd.R_putn (Kd.R_below HO.out (below_drew1 (Below.refl _ _))) d v8)
        have HK8 : Aside0 (KB (fun _ => False) Wb (wr.drew.setCell ⟨Wb.heap.size, d.toNat, none⟩ (.int .i64 v8))) := ⟨KB.step (hkr.trans (KB.of_below (below_drew1 (Below.refl _ _)))) (KB.setCell (M := fun k => k = Wb.heap.size) _ _ _ rfl) (fun i hi e => by omega)⟩
        have HV8 := Aside0.mk hv8
        have hf8 : wr.drew.frozen? ⟨Wb.heap.size, d.toNat, none⟩ = false := z6f
        clear hkr hv8
        refine last_ (i := 11) (N := none) #[true, true, true, true, true, true, true, true, true, true, true, true] rfl rfl (by kernel_rfl) (by decide) (fun K hK => ?_)
        refine skip_ (w1 := wr.drew.setCell ⟨Wb.heap.size, d.toNat, none⟩ (.int .i64 v8)) (by rfl) rfl ?_ ?_
        · go_simp
        refine hK.out _ _ ?_
        clear hK K
        refine done_ (by kernel_rfl) ?_
        simp only [onlyN]
        generalize hw8 : wr.drew.setCell ⟨Wb.heap.size, d.toNat, none⟩ (.int .i64 v8) = w8 at HO8 HK8 ⊢
        clear hw8 hHeld z1 z2 z3 z4 z5 z6 z6f hf8
        have hb8 : Below w.heap.size w w8 := HB.out.1.trans (HK8.out.below hwb (fun _ _ h => h))
        have z2 : w8.cell? ⟨S0, 3, none⟩ = some (.slice (some ad3) lens.length c3) := (blk_cell ((hb8.block _ hlS).trans hS) 3).trans rfl
        have z3 : w8.cell? ⟨C0, 0, none⟩ = some (.slice (some adc) cl.length c1) := (blk_cell ((hb8.block _ hlC).trans hC) 0).trans rfl
        obtain ⟨ad3', e3', z4⟩ := Kd.at_int (Kd.C_below hr3 hb8) (k : Int) p1 p3
        obtain ⟨adc', ec', -, z5, -⟩ := at_T123 (Kd.C_below hr1 hb8) d hdr.1 hdr.2
        cases e3'
        cases ec'
        rw [Int.toNat_natCast] at z4
        gi_wp2
        refine startR_ (m := 14) (S := fun w' => w'.cell? ⟨S0, 3, none⟩ = some (.slice (some ad3) lens.length c3) ∧ w'.cell? (ad3.add k) = some (.int .i64 (rd lens k)) ∧ w'.cell? ⟨C0, 0, none⟩ = some (.slice (some adc) cl.length c1) ∧ w'.cell? ⟨(adc.add (d.toNat * 3)).block, (adc.add (d.toNat * 3)).off + 1, none⟩ = some (.int .i64 (rd_T123 cl d).f1)) (ds := []) #[false, false, false, false, false, false, false, false, false, false, false, false, false, false] hmix (by kernel_rfl) rfl rfl ⟨z2, z4, z3, z5⟩ (fun hHeld => ?_)
        refine pure_ (i := 0) (N := (some 39)) (v := ?_) (a' := ?_) #[true, false, false, false, false, false, false, false, false, false, false, false, false, false] rfl rfl (by kernel_rfl) (fun _ _ _ h => h) (Or.inl ⟨by rfl, ?_⟩) ?_ ?_
        rotate_left
        · intro w'
          go_simp
          with_reducible rfl
        rotate_left
        · simp only [Act.put, List.setIfInBounds_toArray, List.set_cons_zero, List.set_cons_succ, i64_w, i32_w]
          rfl
        refine pure_ (i := 1) (N := (some 40)) (v := ?_) (a' := ?_) #[true, true, false, false, false, false, false, false, false, false, false, false, false, false] rfl rfl (by kernel_rfl) (fun _ _ _ h => h) (Or.inl ⟨by rfl, ?_⟩) ?_ ?_
        rotate_left
        · intro w'
          go_simp
          with_reducible rfl
        rotate_left
        · simp only [Act.put, List.setIfInBounds_toArray, List.set_cons_zero, List.set_cons_succ, i64_w, i32_w]
          rfl
        refine take_ (i := 2) (N := (some 41)) (v := ?_) (a' := ?_) #[true, true, true, false, false, false, false, false, false, false, false, false, false, false] rfl rfl (by kernel_rfl) (fun _ _ _ h => h) (Or.inl ⟨by rfl, ?_⟩) hHeld ?_ ?_
        rotate_left
        · rintro w' ⟨s0, s1, s2, s3⟩
          go_simp
          with_reducible rfl
        rotate_left
        · simp only [Act.put, List.setIfInBounds_toArray, List.set_cons_zero, List.set_cons_succ, i64_w, i32_w]
          rfl
        refine pure_ (i := 3) (N := (some 42)) (v := ?_) (a' := ?_) #[true, true, true, true, false, false, false, false, false, false, false, false, false, false] rfl rfl (by kernel_rfl) (fun _ _ _ h => h) (Or.inl ⟨by rfl, ?_⟩) ?_ ?_
        rotate_left
        · intro w'
          go_simp
          with_reducible rfl
        rotate_left
        · simp only [Act.put, List.setIfInBounds_toArray, List.set_cons_zero, List.set_cons_succ, i64_w, i32_w]
          rfl
        refine pure_ (i := 4) (N := (some 43)) (v := ?_) (a' := ?_) #[true, true, true, true, true, false, false, false, false, false, false, false, false, false] rfl rfl (by kernel_rfl) (fun _ _ _ h => h) (Or.inl ⟨by rfl, ?_⟩) ?_ ?_
        rotate_left
        · intro w'
          go_simp
          with_reducible rfl
        rotate_left
        · simp only [Act.put, List.setIfInBounds_toArray, List.set_cons_zero, List.set_cons_succ, i64_w, i32_w]
          rfl
        refine take_ (i := 5) (N := (some 44)) (v := ?_) (a' := ?_) #[true, true, true, true, true, true, false, false, false, false, false, false, false, false] rfl rfl (by kernel_rfl) (fun _ _ _ h => h) (Or.inl ⟨by rfl, ?_⟩) hHeld ?_ ?_
        rotate_left
        · rintro w' ⟨s0, s1, s2, s3⟩
          go_simp
          with_reducible rfl
        rotate_left
        · simp only [Act.put, List.setIfInBounds_toArray, List.set_cons_zero, List.set_cons_succ, i64_w, i32_w]
          rfl
        refine take_ (i := 6) (N := (some 45)) (v := ?_) (a' := ?_) #[true, true, true, true, true, true, true, false, false, false, false, false, false, false] rfl rfl (by kernel_rfl) (fun _ _ _ h => h) (Or.inl ⟨by rfl, ?_⟩) hHeld ?_ ?_
        rotate_left
        · rintro w' ⟨s0, s1, s2, s3⟩
          go_simp
          with_reducible rfl
        rotate_left
        · simp only [Act.put, List.setIfInBounds_toArray, List.set_cons_zero, List.set_cons_succ, i64_w, i32_w]
          rfl
        refine pure_ (i := 7) (N := (some 46)) (v := ?_) (a' := ?_) #[true, true, true, true, true, true, true, true, false, false, false, false, false, false] rfl rfl (by kernel_rfl) (fun _ _ _ h => h) (Or.inl ⟨by rfl, ?_⟩) ?_ ?_
        rotate_left
        · intro w'
          go_simp
          with_reducible rfl
        rotate_left
        · simp only [Act.put, List.setIfInBounds_toArray, List.set_cons_zero, List.set_cons_succ, i64_w, i32_w]
          rfl
        refine pure_ (i := 8) (N := (some 47)) (v := ?_) (a' := ?_) #[true, true, true, true, true, true, true, true, true, false, false, false, false, false] rfl rfl (by kernel_rfl) (fun _ _ _ h => h) (Or.inl ⟨by rfl, ?_⟩) ?_ ?_
        rotate_left
        · intro w'
          go_simp
          with_reducible rfl
        rotate_left
        · simp only [Act.put, List.setIfInBounds_toArray, List.set_cons_zero, List.set_cons_succ, i64_w, i32_w]
          rfl
        refine pure_ (i := 9) (N := (some 48)) (v := ?_) (a' := ?_) #[true, true, true, true, true, true, true, true, true, true, false, false, false, false] rfl rfl (by kernel_rfl) (fun _ _ _ h => h) (Or.inl ⟨by rfl, ?_⟩) ?_ ?_
        rotate_left
        · intro w'
          go_simp
          with_reducible rfl
        rotate_left
        · simp only [Act.put, List.setIfInBounds_toArray, List.set_cons_zero, List.set_cons_succ, i64_w, i32_w]
          rfl
        refine take_ (i := 10) (N := (some 49)) (v := ?_) (a' := ?_) #[true, true, true, true, true, true, true, true, true, true, true, false, false, false] rfl rfl (by kernel_rfl) (fun _ _ _ h => h) (Or.inl ⟨by rfl, ?_⟩) hHeld ?_ ?_
        rotate_left
        · rintro w' ⟨s0, s1, s2, s3⟩
          go_simp
          with_reducible rfl
        rotate_left
        · simp only [Act.put, List.setIfInBounds_toArray, List.set_cons_zero, List.set_cons_succ, i64_w, i32_w]
          rfl
        refine pure_ (i := 11) (N := (some 50)) (v := ?_) (a' := ?_) #[true, true, true, true, true, true, true, true, true, true, true, true, false, false] rfl rfl (by kernel_rfl) (fun _ _ _ h => h) (Or.inl ⟨by rfl, ?_⟩) ?_ ?_
        rotate_left
        · intro w'
          go_simp
          with_reducible rfl
        rotate_left
        · simp only [Act.put, List.setIfInBounds_toArray, List.set_cons_zero, List.set_cons_succ, i64_w, i32_w]
          rfl
        refine pure_ (i := 12) (N := (some 51)) (v := ?_) (a' := ?_) #[true, true, true, true, true, true, true, true, true, true, true, true, true, false] rfl rfl (by kernel_rfl) (fun _ _ _ h => h) (Or.inl ⟨by rfl, ?_⟩) ?_ ?_
        rotate_left
        · intro w'
          go_simp
          with_reducible rfl
        rotate_left
        · simp only [Act.put, List.setIfInBounds_toArray, List.set_cons_zero, List.set_cons_succ, i64_w, i32_w]
          rfl
        refine pure_ (i := 13) (N := (some 6)) (v := ?_) (a' := ?_) #[true, true, true, true, true, true, true, true, true, true, true, true, true, true] rfl rfl (by kernel_rfl) (fun _ _ _ h => h) (Or.inl ⟨by rfl, ?_⟩) ?_ ?_
        rotate_left
        · intro w'
          go_simp
          with_reducible rfl
        rotate_left
        · simp only [Act.put, List.setIfInBounds_toArray, List.set_cons_zero, List.set_cons_succ, i64_w, i32_w]
          rfl
        refine done_ (by kernel_rfl) ?_
        simp only [onlyN]
        have HP9 : Aside0 (wrap64 (priceN lens cl x k + wrap64 (rd lens (k : Int) * (rd_T123 cl d).f1)) = priceN lens cl x (k + 1)) := ⟨by
          have h3 := ck.at_ d hdr.1 hdr.2
          have h4 : 0 ≤ rd lens (k : Int) * (rd_T123 cl d).f1 := Int.mul_nonneg (by omega) (by omega)
          have h5 : rd lens (k : Int) * (rd_T123 cl d).f1 ≤ 100 * 100 := Int.mul_le_mul (by omega) (by omega) (by omega) (by omega)
          have h6 := price_range si ck HX.out.1 HXR.out k (by have := HX.out.1; omega)
          have := HX.out.1
          rw [IntWalk.wrap64_in (rd lens (k : Int) * _) (by omega), IntWalk.wrap64_in _ (by omega)]
          show _ = priceN lens cl x k + rd lens (k : Int) * (rd_T123 cl (rd x (k : Int))).f1
          rw [HD.out]⟩
        rw [HP9.out]
        generalize hw9 : w8.drew = w9
        have HO9 : Aside0 (OwnI w9 Wb.heap.size (.slice (some ⟨Wb.heap.size, 0, none⟩) cl.length cl.length) (usedL lens x cl.length (k + 1))) := ⟨by
          rw [← hw9, usedL_succ lens x cl.length k (by rw [HD.out]; exact hdr.1) (by rw [HD.out]; exact hdr.2), HD.out, HV8.out]
          exact Kd.R_below HO8.out (below_drew1 (Below.refl _ _))⟩
        have HK9 : Aside0 (KB (fun _ => False) Wb w9) := ⟨by rw [← hw9]; exact HK8.out.trans (KB.of_below (below_drew1 (Below.refl _ _)))⟩
        clear hw9 hHeld
        gi_wp2
        go_roundw
        case rel => exact ⟨k + 1, rfl, (by rw [Int.natCast_add, Int.natCast_one]), ⟨by omega⟩, HO9, HK9⟩
        case measure => simp [intOf]; omega
      · obtain rfl : k = x.length := by have := HK.out; omega
        have cc3 : decide ((x.length : Int) < (x.length : Int)) = false := decide_eq_false (by omega)
        have hkr := HKB.out
        have hwb : w.heap.size ≤ Wb.heap.size := HB.out.1.size
        have HBR : Aside0 (Below w.heap.size w wr) := ⟨HB.out.1.trans (hkr.below hwb (fun _ _ h => h))⟩
        clear hkr hwb
        have z3 : wr.cell? ⟨C0, 0, none⟩ = some (.slice A1 cl.length c1) := (blk_cell ((HBR.out.block _ hlC).trans hC) 0).trans rfl
        gi_wp2
        gi_loop [55] (fun v55 => ∃ j : Nat, v55 = .int .i64 (j : Int) ∧ Aside0 (j ≤ cl.length) ∧ Aside0 (∀ i : Nat, i < j → usedN lens x (i : Int) x.length ≤ (rd_T123 cl (i : Int)).f2)) (fun v => cl.length - (intOf v).toNat)
        case atStart => exact ⟨0, rfl, ⟨Nat.zero_le _⟩, ⟨fun i hi => absurd hi (by omega)⟩⟩
        case round =>
          obtain ⟨j, rfl, HJ2, HSt⟩ := hrel
          clear cc3
          by_cases hj : j < cl.length
          · have p1 : (0 : Int) ≤ (j : Int) := by omega
            have p2 : (j : Int) < (cl.length : Int) := by omega
            obtain ⟨zu, -⟩ := Kd.R_celln (0 : Int) HO.out (j : Int) p1 p2
            rw [show rdOf (0 : Int) (usedL lens x cl.length x.length) (j : Int) = usedN lens x (j : Int) x.length from usedL_at lens x cl.length x.length p1 p2, Int.toNat_natCast] at zu
            obtain ⟨adc, ec, -, -, zs⟩ := at_T123 (Kd.C_below hr1 HBR.out) (j : Int) p1 p2
            rw [Int.toNat_natCast] at zs
            subst ec
            have q1 := eq_true p1
            have q2 := eq_true p2
            have cc4 : decide ((j : Int) < (cl.length : Int)) = true := decide_eq_true p2
            by_cases hst : (rd_T123 cl (j : Int)).f2 < usedN lens x (j : Int) x.length
            · have cc5 : decide ((rd_T123 cl (j : Int)).f2 < usedN lens x (j : Int) x.length) = true := decide_eq_true hst
              have HNS : Aside0 (suffB a b pts lens cl x = false) := ⟨by
                have : stockB lens cl x = false := by
                  unfold stockB
                  rw [List.all_eq_false]
                  exact ⟨j, List.mem_range.2 hj, by simp; omega⟩
                unfold suffB; rw [this]; rfl⟩
              gi_wp2
              exact HEnd.out _ HKB.out HNS.out
            · have cc5 : decide ((rd_T123 cl (j : Int)).f2 < usedN lens x (j : Int) x.length) = false := decide_eq_false hst
              gi_wp2
              go_round
              case rel => exact ⟨j + 1, (by rw [Int.natCast_add, Int.natCast_one]), ⟨by omega⟩, ⟨fun i hi => by
                by_cases e : i = j
                · subst e; omega
                · exact HSt.out i (by omega)⟩⟩
              case measure => simp [intOf]; omega
          · obtain rfl : j = cl.length := by have := HJ2.out; omega
            have cc4 : decide ((cl.length : Int) < (cl.length : Int)) = false := decide_eq_false (by omega)
            have HStk : Aside0 (stockB lens cl x = true) := ⟨by
              unfold stockB
              rw [List.all_eq_true]
              intro i hi
              rw [decide_eq_true_eq]
              exact HSt.out i (List.mem_range.1 hi)⟩
            have hSr := (HBR.out.block _ hlS).trans hS
            have x0 : wr.cell? ⟨S0, 0, none⟩ = some (.int .i64 a) := (blk_cell hSr 0).trans rfl
            have x1 : wr.cell? ⟨S0, 1, none⟩ = some (.int .i64 b) := (blk_cell hSr 1).trans rfl
            have x2 : wr.cell? ⟨S0, 2, none⟩ = some (.slice A2 pts.length c2) := (blk_cell hSr 2).trans rfl
            have x3 : wr.cell? ⟨S0, 3, none⟩ = some (.slice A3 lens.length c3) := (blk_cell hSr 3).trans rfl
            have HOX : Aside0 (OwnI wr (W.heap.size + 9) (.slice (some ⟨g, 0, none⟩) x.length cx) x) := ⟨HJ.out.2.2.kb HKB.out (fun _ h => h.elim)⟩
            have hL := bursts_eq si HX.out.1 HXR.out 100 (by omega)
            have CB := channel_bursts.calls 100 a b A2 c2 pts A3 c3 lens A1 c1 cl (some ⟨g, 0, none⟩) cx x _ wr (Kd.C_below hr2 HBR.out) hc2 (Kd.C_below hr3 HBR.out) hc3 (Kd.C_below hr1 HBR.out) hc1 (Kd.R_reads' HOX.out).2.2 HX.out.2.2.2 hL
            have HYR : Aside0 (wr.heap[W.heap.size]? = some (.cells #[.func (.yield l) #[] #[]] 154 (0, 0))) := ⟨HKB.out.at HJ.out.2.1 id⟩
            have HJR : Aside0 (J (filtP a b pts lens cl pre) wr) := ⟨hJ _ _ _ HJ.out.1 (by have := HS.out.1; omega) (HKB.out.mono (fun _ _ h => h.elim))⟩
            clear hL hSr
            by_cases hbe : burstL a b pts cl x lens.length = []
            · have HSF : Aside0 (suffB a b pts lens cl x = true) := ⟨by unfold suffB; rw [HStk.out, hbe]; rfl⟩
              rw [hbe] at CB
              clear hbe
              gi_wp2
              refine ⟨trivial, (fun h => by cases h), ?_⟩
              refine (callsIn_wide_r CB).mono ?_
              rintro e w5 ⟨v0, rfl, hR5, hb5⟩
              obtain ⟨Av, cv, ev⟩ := Kd.R_slice hR5
              subst ev
              have hk5 : KB (fun _ => False) wr w5 := KB.of_below hb5
              have zy : w5.cell? ⟨W.heap.size, 0, none⟩ = some (.func (.yield l) #[] #[]) := (blk_cell (hk5.at HYR.out id) 0).trans rfl
              obtain ⟨fn_, tmps_, assign_, body_, hy_, hR_⟩ := hY (filtP a b pts lens cl pre) (x, priceN lens cl x x.length) #[.agg #[.slice (some ⟨g, 0, none⟩) x.length cx, .int .i64 (priceN lens cl x x.length)]] w5 (hJ _ _ _ HJR.out (by have := HS.out.1; have := HKB.out.size; omega) (hk5.mono (fun _ _ h => h.elim))) (by have := HS.out.1; have := HKB.out.size; have := hk5.size; omega) ⟨_, rfl, HOX.out.kb hk5 (fun _ h => h.elim)⟩ (filtP_rest HS.out.2.1 HSF.out)
              have H5 := Aside0.mk hk5
              clear hk5 hb5 hR5 CB
              gi_wp2
              refine ⟨(fun h => by cases h), ?_⟩
              refine RoundIn.mono (show RoundIn (Fence.wide.inRound l') _ _ _ _ _ _ _ _ _ from RoundIn.any_n hR_) ?_
              rintro e w6 ⟨rfl, hJ6, hk6⟩
              gi_wp2
              have hk56 : KB M Wb w6 := ((HKB.out.trans H5.out).mono (fun _ _ h => h.elim)).trans hk6
              have e : filtP a b pts lens cl (pre ++ [x]) = filtP a b pts lens cl pre ++ [(x, priceN lens cl x x.length)] := by rw [filtP_snoc, if_pos HSF.out]
              refine ⟨hk56, ?_, hk56.at HJ.out.2.1 (fun h => by have := (hM _ h).1; omega), HB.out.1.trans (hk56.below HB.out.1.size (fun k hk h => (hM k h).2 hk))⟩
              rw [e]
              exact hJ6
            · have HSF : Aside0 (suffB a b pts lens cl x = false) := ⟨by
                unfold suffB
                rw [HStk.out, Bool.true_and]
                cases hbl : burstL a b pts cl x lens.length with
                | nil => exact absurd hbl hbe
                | cons => rfl⟩
              gi_wp2
              refine ⟨trivial, (fun h => by cases h), ?_⟩
              refine (callsIn_wide_r CB).mono ?_
              rintro e w5 ⟨v0, rfl, hR5, hb5⟩
              obtain ⟨Av, cv, ev⟩ := Kd.R_slice hR5
              subst ev
              have hlen : ¬ (burstL a b pts cl x lens.length).length = 0 := fun h => hbe (List.eq_nil_of_length_eq_zero h)
              generalize (burstL a b pts cl x lens.length).length = m5 at hlen hR5 ⊢
              have h3' : ((m5 : Int) == 0) = false := by rw [beq_eq_false_iff_ne]; omega
              have h3e : ((m5 : Int) = 0) = False := eq_false (by omega)
              have h3n : (m5 = 0) = False := eq_false hlen
              have H5 : Aside0 (KB (fun _ => False) wr w5) := ⟨KB.of_below hb5⟩
              clear hb5 hR5 CB hbe hlen
              gi_wp2
              repeat (refine ⟨(fun f h => by cases h), ?_⟩; gi_wp2)
              exact HEnd.out _ (HKB.out.trans H5.out) HSF.out
end Go.Proofs.YtdmdahafiiggiaaGreatDoor.K
end
section
namespace Go.Proofs.YtdmdahafiiggiaaGreatDoor.K
open Go.RowKit Go.Shelf Go.Proofs.YtdmdahafiiggiaaGreatDoorW.PrintWords Go.Proofs.YtdmdahafiiggiaaGreatDoorW.PrintLast Go.Proofs.YtdmdahafiiggiaaGreatDoorW.PrintMore
attribute [local go_sem] Oper.semAt_some
set_option linter.unusedVariables false
set_option linter.unusedSimpArgs false
set_option maxRecDepth 100000 in
set_option maxHeartbeats 1000000 in
theorem Pipes1_any (A B : Option Addr) (n m c d : Nat) (p q : Int) (w : World) :
    Calls Tryz.prog 95 #[.agg #[.slice A n c, .int .i64 p], .agg #[.slice B m d, .int .i64 q]] w fun e w' => e = .returned (.bool (decide (p < q))) ∧ Below w.heap.size w w' := by
  have hu1 := Tryz.underlying125
  go_enter Tryz.func95, Tryz.ntmps95
  go_wp2
  go_ret
  exact ⟨rfl, ((Below.refl _ _).alloc (Nat.le_refl _) _).alloc (by simp) _⟩
def stepP (o : Option (List Int × Int)) (x : List Int × Int) : Option (List Int × Int) := match o with
  | none => some x
  | some y => if x.2 < y.2 then some x else some y
def bestP (l : List (List Int × Int)) : Option (List Int × Int) := l.foldl stepP none
theorem bestP_snoc (l : List (List Int × Int)) (x : List Int × Int) : bestP (l ++ [x]) = stepP (bestP l) x := by simp [bestP, List.foldl_append]
def BestIs (o : Option (List Int × Int)) (w w' : World) (A : Option Addr) (n c : Nat) (p : Int) (m : Bool) : Prop := match o with
  | none => m = false
  | some y => m = true ∧ n = y.1.length ∧ p = y.2 ∧ OwnI w' w.heap.size (.slice A n c) y.1
def BestPost (o : Option (List Int × Int)) (w : World) (e : Ending) (w' : World) : Prop :=
  (∃ A n c p m, e = .returned (.tuple #[.agg #[.slice A n c, .int .i64 p], .bool m]) ∧ BestIs o w w' A n c p m) ∧ Below w.heap.size w w'
structure BestI (w : World) (B b : Nat) (pre : List (List Int × Int)) (W : World) : Prop where
  f : W.heap[B]? = some (.cells #[.func (.func 95) #[] #[]] 131 (0, 0))
  r : W.heap[B + 1]? = some (.cells #[.slice none 0 0, .int .i64 0] 125 (0, 0))
  no : bestP pre = none → W.heap[B + 2]? = some (.cells #[.slice none 0 0, .int .i64 0] 125 (0, 0)) ∧ W.heap[B + 3]? = some (.cells #[.bool false] 4 (0, 0))
  yes : ∀ y, bestP pre = some y → W.heap[B + 3]? = some (.cells #[.bool true] 4 (0, 0)) ∧ ∃ A c, W.heap[B + 2]? = some (.cells #[.slice A y.1.length c, .int .i64 y.2] 125 (0, 0)) ∧ OwnI W b (.slice A y.1.length c) y.1
  bel : Below w.heap.size w W
theorem BestI.kb {w W W1 : World} {B b : Nat} {pre : List (List Int × Int)} {M : Nat → Prop} (h : BestI w B b pre W) (hk : KB M W W1) (hw : w.heap.size ≤ B) (hM : ∀ k, M k → B + 4 ≤ k ∧ k < b) : BestI w B b pre W1 where
  f := hk.at h.f fun e => by have := (hM _ e).1; omega
  r := hk.at h.r fun e => by have := (hM _ e).1; omega
  no e := ⟨hk.at (h.no e).1 fun e => by have := (hM _ e).1; omega, hk.at (h.no e).2 fun e => by have := (hM _ e).1; omega⟩
  yes y e := by
    obtain ⟨h1, A, c, h2, h3⟩ := h.yes y e
    exact ⟨hk.at h1 fun e => by have := (hM _ e).1; omega, A, c, hk.at h2 fun e => by have := (hM _ e).1; omega, h3.kb hk fun k e => (hM k e).2⟩
  bel := h.bel.trans (hk.below h.bel.size fun k hkk e => by have := (hM _ e).1; omega)
theorem BestI.put {w W : World} {B b : Nat} {pre : List (List Int × Int)} {x : List Int × Int} {A : Option Addr} {c : Nat} (h : BestI w B b pre W) (hw : w.heap.size ≤ B) (hb : B + 4 ≤ b) (hs : stepP (bestP pre) x = some x) (ho : OwnI W b (.slice A x.1.length c) x.1)
    (v2 v3 : Value) (s0 : Value) (h2 : W.heap[B + 2]? = some (.cells #[v2, v3] 125 (0, 0))) (h3 : W.heap[B + 3]? = some (.cells #[s0] 4 (0, 0))) :
    BestI w B b (pre ++ [x]) (((W.setCell ⟨B + 2, 0, none⟩ (.slice A x.1.length c)).setCell ⟨B + 2, 1, none⟩ (.int .i64 x.2)).setCell ⟨B + 3, 0, none⟩ (.bool true)) ∧ KB (fun k => k = B + 2 ∨ k = B + 3) W (((W.setCell ⟨B + 2, 0, none⟩ (.slice A x.1.length c)).setCell ⟨B + 2, 1, none⟩ (.int .i64 x.2)).setCell ⟨B + 3, 0, none⟩ (.bool true)) := by
  have hk : KB (fun k => k = B + 2 ∨ k = B + 3) W (((W.setCell ⟨B + 2, 0, none⟩ (.slice A x.1.length c)).setCell ⟨B + 2, 1, none⟩ (.int .i64 x.2)).setCell ⟨B + 3, 0, none⟩ (.bool true)) :=
    ((KB.setCell _ _ _ (.inl rfl)).trans (KB.setCell _ _ _ (.inl rfl))).trans (KB.setCell _ _ _ (.inr rfl))
  refine ⟨{ f := hk.at h.f (fun e => by omega), r := hk.at h.r (fun e => by omega), no := fun e => (by rw [bestP_snoc, hs] at e; cases e), yes := fun y e => ?_, bel := h.bel.trans (hk.below h.bel.size fun k hkk e => by omega) }, hk⟩
  rw [bestP_snoc, hs] at e
  obtain rfl := Option.some.inj e
  refine ⟨blk_put (blk_far (blk_far h3 (by show B + 3 ≠ B + 2; omega) _) (by show B + 3 ≠ B + 2; omega) _) 0 _ rfl, A, c, blk_far (blk_put (blk_put h2 0 _ rfl) 1 _ rfl) (by show B + 2 ≠ B + 3; omega) _, ho.kb hk (fun k e => by omega)⟩
theorem BestI.same {w W : World} {B b : Nat} {pre : List (List Int × Int)} {x : List Int × Int} (h : BestI w B b pre W) (hs : stepP (bestP pre) x = bestP pre) : BestI w B b (pre ++ [x]) W where
  f := h.f
  r := h.r
  no e := h.no (by rw [bestP_snoc, hs] at e; exact e)
  yes y e := h.yes y (by rw [bestP_snoc, hs] at e; exact e)
  bel := h.bel
set_option maxRecDepth 100000 in
set_option maxHeartbeats 2000000 in
theorem best_any (S0 C0 : Nat) (a b : Int) (A2 A3 A1 : Option Addr) (c2 c3 c1 : Nat) (pts : List S30) (lens : List Int) (cl : List S123) (w : World) (hsi : isSiphonB a b pts lens = true) (hcl : areClassesB cl = true)
    (hS : w.heap[S0]? = some (.cells #[.int .i64 a, .int .i64 b, .slice A2 pts.length c2, .slice A3 lens.length c3] 78 (0, 0))) (hC : w.heap[C0]? = some (.cells #[.slice A1 cl.length c1] 84 (0, 0)))
    (hr2 : Kd.C k30 w A2 pts.length pts) (hc2 : pts.length ≤ c2) (hr3 : Kd.C (Kd.int .i64) w A3 lens.length lens) (hc3 : lens.length ≤ c3) (hr1 : Kd.C k123 w A1 cl.length cl) (hc1 : cl.length ≤ c1) :
    Calls Tryz.prog 93 #[.func (.func 117) #[] #[.pointer (some ⟨S0, 0, none⟩), .pointer (some ⟨C0, 0, none⟩)], .func (.func 95) #[] #[]] w fun e w' =>
      BestPost (bestP (filtP a b pts lens cl (tails cl.length lens.length))) w e w' := by
  refine (callsIn_wide (n := 5)).1 ?_
  have hu1 := Tryz.underlying125
  refine callsIn_of_wp_marks Tryz.func93 rfl trivial ?_ rfl
  simp only [Tryz.ntmps93, List.size_toArray, List.length_cons, List.length_nil, Nat.reduceAdd, Nat.reduceSub, Array.replicate_succ, Array.replicate_zero, List.push_toArray, List.append_toArray, List.nil_append, List.cons_append]
  gi_wp2
  generalize hW4 : World.alloc (World.alloc (World.alloc (World.alloc w _) _) _) _ = W4
  have hk4 : ∀ N : Nat → Prop, KB N w W4 := fun N => by rw [← hW4]; exact ((KB.alloc w _).trans (KB.alloc _ _)).trans ((KB.alloc _ _).trans (KB.alloc _ _))
  have hz4 : W4.heap.size = w.heap.size + 4 := by rw [← hW4]; simp
  have hB4 : Below w.heap.size w W4 := (hk4 (fun _ => False)).below (Nat.le_refl _) (fun _ _ h => h)
  have h0 : BestI w w.heap.size (w.heap.size + 15) [] W4 := by
    have n0 := blk_new w (.cells #[.func (.func 95) #[] #[]] 131)
    have n1 := blk_new (w.alloc (.cells #[.func (.func 95) #[] #[]] 131)) (.cells #[.slice none 0 0, .int .i64 0] 125)
    have n2 := blk_new ((w.alloc (.cells #[.func (.func 95) #[] #[]] 131)).alloc (.cells #[.slice none 0 0, .int .i64 0] 125)) (.cells #[.slice none 0 0, .int .i64 0] 125)
    have n3 := blk_new (((w.alloc (.cells #[.func (.func 95) #[] #[]] 131)).alloc (.cells #[.slice none 0 0, .int .i64 0] 125)).alloc (.cells #[.slice none 0 0, .int .i64 0] 125)) (.cells #[.bool false] 4)
    simp only [World.size_alloc] at n0 n1 n2 n3
    rw [← hW4]
    exact {
      f := blk_alloc (blk_alloc (blk_alloc n0 _) _) _
      r := blk_alloc (blk_alloc n1 _) _
      no := fun _ => ⟨blk_alloc n2 _, n3⟩
      yes := fun y e => by cases e
      bel := by rw [hW4]; exact hB4 }
  clear hW4
  have hseq := enough1_seq 4 (by omega) S0 C0 a b A2 A3 A1 c2 c3 c1 pts lens cl w hsi hcl hS hC hr2 hc2 hr3 hc3 hr1 hc1
  refine wpIn_rangeM rfl (by omega) (gf := 117) rfl trivial (enters_of Tryz.func117 (by kernel_rfl) rfl) hseq (fun k => k = w.heap.size + 2 ∨ k = w.heap.size + 3) (hk4 _) (fun k hk => hk) (fun k hk => ⟨by rcases hk with rfl | rfl <;> omega, by rcases hk with rfl | rfl <;> omega⟩) (fun B W x v h => by obtain ⟨sl, rfl, _⟩ := h; rfl)
    (fun pre W' => BestI w w.heap.size (w.heap.size + 15) pre W')
    (fun pre x a₁ W' => BestI w w.heap.size (w.heap.size + 15) pre W' ∧ ∃ A c X, a₁ = { tmps := #[.func (.func 117) #[] #[.pointer (some ⟨S0, 0, none⟩), .pointer (some ⟨C0, 0, none⟩)], .func (.func 95) #[] #[], undef, .pointer (some ⟨w.heap.size, 0, none⟩), .pointer (some ⟨w.heap.size + 1, 0, none⟩), .bool false, .pointer (some ⟨w.heap.size + 1 + 1, 0, none⟩), .pointer (some ⟨w.heap.size + 1 + 1 + 1, 0, none⟩), .pointer (some ⟨X, 0, none⟩), .func (.func 117) #[] #[.pointer (some ⟨S0, 0, none⟩), .pointer (some ⟨C0, 0, none⟩)], .agg #[.slice A x.1.length c, .int .i64 x.2], undef, undef, undef, undef, undef, undef, undef, undef, undef, undef, undef], defers := [] } ∧ OwnI W' (w.heap.size + 15) (.slice A x.1.length c) x.1 ∧ W'.heap[X]? = some (.cells #[.slice A x.1.length c, .int .i64 x.2] 125 (0, 0)) ∧ w.heap.size + 15 ≤ X)
    ?sI ?sM h0 ?assign ?body ?done
  case sI =>
    intro pre A A' hI hs hk
    exact hI.kb hk (Nat.le_refl _) (fun k h => ⟨by omega, by omega⟩)
  case sM =>
    rintro pre x a1 A A' ⟨hI, Ax, c, X, rfl, ho, hX, hXl⟩ hs hk
    exact ⟨hI.kb hk (Nat.le_refl _) (fun k h => ⟨by omega, by omega⟩), Ax, c, X, rfl, ho.kb hk (fun k h => by omega), hk.at hX (fun h => by omega), hXl⟩
  case assign =>
    rintro l' pre x v W' hI hs ⟨sl, rfl, ho⟩ hrest
    obtain ⟨Ax, c, rfl⟩ := Kd.R_slice ho
    rw [hz4] at ho hs
    gi_wp2
    exact ⟨KB.alloc _ _, hI.kb (KB.alloc (M := fun _ => False) _ _) (Nat.le_refl _) (fun _ h => h.elim), Ax, c, _, rfl, Kd.R_alloc ho _, blk_new _ _, by omega⟩
  case done =>
    rintro W' hI hk hD
    obtain ⟨A, m5, c, p5, b5, h2, h3, hm5⟩ : ∃ A m5 c p5 b5, W'.heap[w.heap.size + 2]? = some (.cells #[.slice A m5 c, .int .i64 p5] 125 (0, 0)) ∧ W'.heap[w.heap.size + 3]? = some (.cells #[.bool b5] 4 (0, 0)) ∧
        (match bestP (filtP a b pts lens cl (tails cl.length lens.length)) with
        | none => b5 = false
        | some y => b5 = true ∧ m5 = y.1.length ∧ p5 = y.2 ∧ OwnI W' (w.heap.size + 15) (.slice A m5 c) y.1) := by
      cases hbp : bestP (filtP a b pts lens cl (tails cl.length lens.length)) with
      | none =>
        obtain ⟨h2, h3⟩ := hI.no hbp
        exact ⟨none, 0, 0, 0, false, h2, h3, rfl⟩
      | some y =>
        obtain ⟨h3, Ay, cy, h2, hoy⟩ := hI.yes y hbp
        exact ⟨Ay, y.1.length, cy, y.2, true, h2, h3, rfl, rfl, rfl, hoy⟩
    have x0 : W'.cell? ⟨w.heap.size + 1 + 1, 0, none⟩ = some (.slice A m5 c) := (blk_cell h2 0).trans rfl
    have x1 : W'.cell? ⟨w.heap.size + 1 + 1, 1, none⟩ = some (.int .i64 p5) := (blk_cell h2 1).trans rfl
    have x2 : W'.cell? ⟨w.heap.size + 1 + 1 + 1, 0, none⟩ = some (.bool b5) := (blk_cell h3 0).trans rfl
    have HR := Aside0.mk hI.r
    have HBel := Aside0.mk hI.bel
    have HM5 := Aside0.mk hm5
    have HD := Aside0.mk (And.intro hD hk)
    have H23 := Aside0.mk (And.intro h2 h3)
    clear hI hk hD h2 h3 hm5
    gi_wp2
    refine startN_ (m := 4) (S := fun w' => w'.cell? ⟨w.heap.size + 1 + 1, 0, none⟩ = some (.slice A m5 c) ∧ w'.cell? ⟨w.heap.size + 1 + 1, 1, none⟩ = some (.int .i64 p5) ∧ w'.cell? ⟨w.heap.size + 1 + 1 + 1, 0, none⟩ = some (.bool b5)) (ds := []) #[false, false, false, false] (by kernel_rfl) rfl rfl ⟨x0, x1, x2⟩ (fun hHeld => ?_)
    refine take_ (i := 0) (N := (some 20)) (v := ?_) (a' := ?_) #[true, false, false, false] rfl rfl (by kernel_rfl) (fun _ _ _ h => h) (Or.inl ⟨by rfl, ?_⟩) hHeld ?_ ?_
    rotate_left
    · rintro w' ⟨s0, s1, s2⟩
      go_simp
      with_reducible rfl
    rotate_left
    · simp only [Act.put, List.setIfInBounds_toArray, List.set_cons_zero, List.set_cons_succ, i64_w, i32_w]
      rfl
    refine take_ (i := 1) (N := (some 21)) (v := ?_) (a' := ?_) #[true, true, false, false] rfl rfl (by kernel_rfl) (fun _ _ _ h => h) (Or.inl ⟨by rfl, ?_⟩) hHeld ?_ ?_
    rotate_left
    · rintro w' ⟨s0, s1, s2⟩
      go_simp
      with_reducible rfl
    rotate_left
    · simp only [Act.put, List.setIfInBounds_toArray, List.set_cons_zero, List.set_cons_succ, i64_w, i32_w]
      rfl
    have hDr : W'.drew.heap[W4.heap.size]? = some (.deferred (some [])) := HD.out.1
    have hBd : Below w.heap.size w W'.drew := HBel.out.trans ((below_drew1 (Below.refl w.heap.size W')))
    have hMd : (match bestP (filtP a b pts lens cl (tails cl.length lens.length)) with
        | none => b5 = false
        | some y => b5 = true ∧ m5 = y.1.length ∧ p5 = y.2 ∧ OwnI W'.drew (w.heap.size + 15) (.slice A m5 c) y.1) := by
      have h := HM5.out
      revert h
      cases bestP (filtP a b pts lens cl (tails cl.length lens.length)) with
      | none => exact id
      | some y => exact fun h => ⟨h.1, h.2.1, h.2.2.1, Kd.R_drew h.2.2.2⟩
    have h23 : W'.drew.heap[w.heap.size + 2]? = some (.cells #[.slice A m5 c, .int .i64 p5] 125 (0, 0)) ∧ W'.drew.heap[w.heap.size + 3]? = some (.cells #[.bool b5] 4 (0, 0)) := H23.out
    have hRd : W'.drew.heap[w.heap.size + 1]? = some (.cells #[.slice none 0 0, .int .i64 0] 125 (0, 0)) := HR.out
    generalize W'.drew = wd at hDr hBd hMd hRd h23 hHeld ⊢
    have zr0 : wd.cell? ⟨w.heap.size + 1, 0, none⟩ = some (.slice none 0 0) := (blk_cell hRd 0).trans rfl
    have zr1 : wd.cell? ⟨w.heap.size + 1, 1, none⟩ = some (.int .i64 0) := (blk_cell hRd 1).trans rfl
    have zg0 : wd.frozen? ⟨w.heap.size + 1, 0, none⟩ = false := blk_frozen hRd 0
    have zg1 : wd.frozen? ⟨w.heap.size + 1, 1, none⟩ = false := blk_frozen hRd 1
    have HF := Aside0.mk (And.intro hDr (And.intro hBd (And.intro hMd (And.intro hRd h23))))
    clear hDr hBd hMd hRd h23
    have hB1 : w.heap.size + 1 < W4.heap.size := by omega
    refine one_ (i := 2) (N := none) #[true, true, true, false] rfl rfl (by kernel_rfl) (by decide) (fun K hK => ?_)
    refine skip_ (w1 := (wd.setCell ⟨w.heap.size + 1, 0, none⟩ (.slice A m5 c)).setCell ⟨w.heap.size + 1, 1, none⟩ (.int .i64 p5)) (by rfl) rfl ?_ ?_
    · go_simp
    have hkS : KB (fun k => k = w.heap.size + 1) wd ((wd.setCell ⟨w.heap.size + 1, 0, none⟩ (.slice A m5 c)).setCell ⟨w.heap.size + 1, 1, none⟩ (.int .i64 p5)) := (KB.setCell (M := fun k => k = w.heap.size + 1) _ ⟨w.heap.size + 1, 0, none⟩ _ rfl).trans (KB.setCell (M := fun k => k = w.heap.size + 1) _ ⟨w.heap.size + 1, 1, none⟩ _ rfl)
    refine hK.out _ _ ⟨(blk_cell (hkS.at HF.out.2.2.2.2.1 (fun e => by omega)) 0).trans rfl, (blk_cell (hkS.at HF.out.2.2.2.2.1 (fun e => by omega)) 1).trans rfl, (blk_cell (hkS.at HF.out.2.2.2.2.2 (fun e => by omega)) 0).trans rfl⟩ (fun _ => ?_)
    clear hkS hK K
    refine pure_ (i := 3) (N := (some 5)) (v := ?_) (a' := ?_) #[true, true, true, true] rfl rfl (by kernel_rfl) (fun _ _ _ h => h) (Or.inl ⟨by rfl, ?_⟩) ?_ ?_
    rotate_left
    · intro w'
      go_simp
      with_reducible rfl
    rotate_left
    · simp only [Act.put, List.setIfInBounds_toArray, List.set_cons_zero, List.set_cons_succ, i64_w, i32_w]
      rfl
    refine done_ (by kernel_rfl) ?_
    simp only [onlyN]
    obtain ⟨hDr, hBd, hMd, hRd, -⟩ := HF.out
    have hk6 : KB (fun k => k = w.heap.size + 1) wd ((wd.setCell ⟨w.heap.size + 1, 0, none⟩ (.slice A m5 c)).setCell ⟨w.heap.size + 1, 1, none⟩ (.int .i64 p5)) := (KB.setCell (M := fun k => k = w.heap.size + 1) _ ⟨w.heap.size + 1, 0, none⟩ _ rfl).trans (KB.setCell (M := fun k => k = w.heap.size + 1) _ ⟨w.heap.size + 1, 1, none⟩ _ rfl)
    have hR6 := blk_put (blk_put hRd 0 (.slice A m5 c) rfl) 1 (.int .i64 p5) rfl
    generalize (wd.setCell ⟨w.heap.size + 1, 0, none⟩ (.slice A m5 c)).setCell ⟨w.heap.size + 1, 1, none⟩ (.int .i64 p5) = w6 at hk6 hR6 ⊢
    have hD6 : w6.heap[W4.heap.size]? = some (.deferred (some [])) := hk6.at hDr (fun e => by omega)
    clear zr0 zr1 zg0 zg1 hHeld x0 x1 x2
    gi_wp2
    refine ⟨by simp, .inl ⟨_, _, rfl, run_takeDeferred hD6, ?_⟩⟩
    have hk7 : KB (fun k => k = w.heap.size + 1 ∨ k = W4.heap.size) wd (w6.putObj W4.heap.size (.deferred none)) := (hk6.mono (fun k _ h => .inl h)).trans (KB.putObj _ _ _ fun _ => .inr rfl)
    have hR7 : (w6.putObj W4.heap.size (.deferred none)).heap[w.heap.size + 1]? = some (.cells #[.slice A m5 c, .int .i64 p5] 125 (0, 0)) := (World.putObj_heap_other (by omega)).trans hR6
    generalize w6.putObj W4.heap.size (.deferred none) = w7 at hk7 hR7 ⊢
    have zq0 : w7.cell? ⟨w.heap.size + 1, 0, none⟩ = some (.slice A m5 c) := (blk_cell hR7 0).trans rfl
    have zq1 : w7.cell? ⟨w.heap.size + 1, 1, none⟩ = some (.int .i64 p5) := (blk_cell hR7 1).trans rfl
    refine ⟨.tuple #[.agg #[.slice A m5 c, .int .i64 p5], .bool b5], (by simp [results, Tryz.results93, go_sem, zq0, zq1]), ⟨A, m5, c, p5, b5, rfl, ?_⟩, hBd.trans (hk7.below hBd.size (fun k hk h => by omega))⟩
    unfold BestIs
    revert hMd
    cases bestP (filtP a b pts lens cl (tails cl.length lens.length)) with
    | none => exact id
    | some y => exact fun h => ⟨h.1, h.2.1, h.2.2.1, (h.2.2.2.kb hk7 (fun k e => by omega)).weak (by omega)⟩
  case body =>
    rintro l' pre x a1 W' ⟨hI, Ax, c, X, rfl, ho, hX, hXl⟩ hs hrest
    have hw15 : w.heap.size + 4 ≤ w.heap.size + 15 := by omega
    have zx0 : W'.cell? ⟨X, 0, none⟩ = some (.slice Ax x.1.length c) := (blk_cell hX 0).trans rfl
    have zx1 : W'.cell? ⟨X, 1, none⟩ = some (.int .i64 x.2) := (blk_cell hX 1).trans rfl
    cases hbp : bestP pre with
    | none =>
      obtain ⟨h2, h3⟩ := hI.no hbp
      have zm : W'.cell? ⟨w.heap.size + 1 + 1 + 1, 0, none⟩ = some (.bool false) := (blk_cell h3 0).trans rfl
      have zo0 : W'.cell? ⟨w.heap.size + 1 + 1, 0, none⟩ = some (.slice none 0 0) := (blk_cell h2 0).trans rfl
      have zo1 : W'.cell? ⟨w.heap.size + 1 + 1, 1, none⟩ = some (.int .i64 0) := (blk_cell h2 1).trans rfl
      have zf2 : W'.frozen? ⟨w.heap.size + 1 + 1, 0, none⟩ = false := blk_frozen h2 0
      have zf3 : W'.frozen? ⟨w.heap.size + 1 + 1, 1, none⟩ = false := blk_frozen h2 1
      have zf4 : W'.frozen? ⟨w.heap.size + 1 + 1 + 1, 0, none⟩ = false := blk_frozen h3 0
      have HP := Aside0.mk (hI.put (Nat.le_refl _) hw15 (by rw [hbp]; rfl) ho _ _ _ h2 h3)
      clear hI h2 h3 ho hX hbp
      gi_wp2
      repeat (refine ⟨(fun f h => by cases h), ?_⟩; gi_wp2)
      exact ⟨HP.out.2, HP.out.1⟩
    | some y =>
      obtain ⟨h3, Ay, cy, h2, hoy⟩ := hI.yes y hbp
      have zm : W'.cell? ⟨w.heap.size + 1 + 1 + 1, 0, none⟩ = some (.bool true) := (blk_cell h3 0).trans rfl
      have zo0 : W'.cell? ⟨w.heap.size + 1 + 1, 0, none⟩ = some (.slice Ay y.1.length cy) := (blk_cell h2 0).trans rfl
      have zo1 : W'.cell? ⟨w.heap.size + 1 + 1, 1, none⟩ = some (.int .i64 y.2) := (blk_cell h2 1).trans rfl
      have zb : W'.cell? ⟨w.heap.size, 0, none⟩ = some (.func (.func 95) #[] #[]) := (blk_cell hI.f 0).trans rfl
      have HI := Aside0.mk (And.intro hI (And.intro ho (And.intro hX hbp)))
      have zf2 : W'.frozen? ⟨w.heap.size + 1 + 1, 0, none⟩ = false := blk_frozen h2 0
      clear zf2 hI h2 h3 ho hX hbp hoy
      gi_wp2
      refine ⟨trivial, ?_⟩
      refine (callsIn_wide_r (Pipes1_any Ax Ay x.1.length y.1.length c cy x.2 y.2 W')).mono ?_
      rintro e w5 ⟨rfl, hb5⟩
      have hk5 : KB (fun _ => False) W' w5 := KB.of_below hb5
      have hI := HI.out.1.kb hk5 (Nat.le_refl _) (fun _ h => h.elim)
      have ho := HI.out.2.1.kb hk5 (fun _ h => h.elim)
      have hX := hk5.at HI.out.2.2.1 id
      obtain ⟨h3, Ay', cy', h2, hoy⟩ := hI.yes y HI.out.2.2.2
      by_cases hlt : x.2 < y.2
      · have zz0 : w5.cell? ⟨X, 0, none⟩ = some (.slice Ax x.1.length c) := (blk_cell hX 0).trans rfl
        have zz1 : w5.cell? ⟨X, 1, none⟩ = some (.int .i64 x.2) := (blk_cell hX 1).trans rfl
        have zm5 : w5.cell? ⟨w.heap.size + 1 + 1 + 1, 0, none⟩ = some (.bool true) := (blk_cell h3 0).trans rfl
        have zo5 : w5.cell? ⟨w.heap.size + 1 + 1, 0, none⟩ = some (.slice Ay' y.1.length cy') := (blk_cell h2 0).trans rfl
        have zp5 : w5.cell? ⟨w.heap.size + 1 + 1, 1, none⟩ = some (.int .i64 y.2) := (blk_cell h2 1).trans rfl
        have zf2 : w5.frozen? ⟨w.heap.size + 1 + 1, 0, none⟩ = false := blk_frozen h2 0
        have zf3 : w5.frozen? ⟨w.heap.size + 1 + 1, 1, none⟩ = false := blk_frozen h2 1
        have zf4 : w5.frozen? ⟨w.heap.size + 1 + 1 + 1, 0, none⟩ = false := blk_frozen h3 0
        have HP := Aside0.mk (hI.put (Nat.le_refl _) hw15 (by rw [HI.out.2.2.2]; simp [stepP, hlt]) ho _ _ _ h2 h3)
        have HK5 := Aside0.mk (hk5.mono (M' := fun k => k = w.heap.size + 2 ∨ k = w.heap.size + 3) (fun _ _ h => h.elim))
        have cc : decide (x.2 < y.2) = true := decide_eq_true hlt
        clear hI ho hX h2 h3 hoy hk5 hb5 hlt
        gi_wp2
        exact ⟨HK5.out.trans HP.out.2, HP.out.1⟩
      · have HS := Aside0.mk (hI.same (x := x) (by rw [HI.out.2.2.2]; simp [stepP, hlt]))
        have HK5 := Aside0.mk (hk5.mono (M' := fun k => k = w.heap.size + 2 ∨ k = w.heap.size + 3) (fun _ _ h => h.elim))
        have cc : decide (x.2 < y.2) = false := decide_eq_false hlt
        clear hI ho hX h2 h3 hoy hk5 hb5 hlt
        gi_wp2
        exact ⟨HK5.out, HS.out⟩
end Go.Proofs.YtdmdahafiiggiaaGreatDoor.K
end
section
namespace Go.Proofs.YtdmdahafiiggiaaGreatDoor.K
open Go.RowKit Go.Shelf Go.Proofs.YtdmdahafiiggiaaGreatDoorW.PrintWords Go.Proofs.YtdmdahafiiggiaaGreatDoorW.PrintLast Go.Proofs.YtdmdahafiiggiaaGreatDoorW.PrintMore
set_option linter.unusedVariables false
set_option linter.unusedSimpArgs false
def pipesF (a b : Int) (pts : List S30) (lens : List Int) (cl : List S123) : List Int × Int × Int :=
  if isSiphonB a b pts lens = true ∧ areClassesB cl = true then
    match bestP (filtP a b pts lens cl (tails cl.length lens.length)) with
    | none => ([], 0, 5)
    | some y => (y.1, y.2, 0)
  else ([], 0, 2)
def PipesPost (r : List Int × Int × Int) (w : World) (e : Ending) (w' : World) : Prop :=
  ∃ v0_ : Value, e = .returned (.tuple #[v0_, .int .i64 r.2.1, .int .i64 r.2.2]) ∧ Kd.R (Kd.int .i64) 3 w' w.heap.size (fun _ => True) v0_ r.1 ∧ Below w.heap.size w w'
theorem PipesPost.mk {r : List Int × Int × Int} {w w' : World} {A : Option Addr} {n c : Nat} {p q : Int} (h : OwnI w' w.heap.size (.slice A n c) r.1) (hp : p = r.2.1) (hq : q = r.2.2) (hb : Below w.heap.size w w') : PipesPost r w (.returned (.tuple #[.slice A n c, .int .i64 p, .int .i64 q])) w' := by
  subst hp hq
  exact ⟨_, rfl, h, hb⟩
set_option maxRecDepth 100000 in
set_option maxHeartbeats 2000000 in
theorem pipes_any (a b : Int) (A2 A3 A1 : Option Addr) (c2 c3 c1 : Nat) (pts : List S30) (lens : List Int) (cl : List S123) (w : World) (hl2 : pts.length ≤ 9223372036854775807) (hl3 : lens.length ≤ 9223372036854775807) (hl1 : cl.length ≤ 9223372036854775807)
    (hr2 : Kd.C k30 w A2 pts.length pts) (hc2 : pts.length ≤ c2) (hr3 : Kd.C (Kd.int .i64) w A3 lens.length lens) (hc3 : lens.length ≤ c3) (hr1 : Kd.C k123 w A1 cl.length cl) (hc1 : cl.length ≤ c1) :
    Calls Tryz.prog 50 #[.agg #[.int .i64 a, .int .i64 b, .slice A2 pts.length c2, .slice A3 lens.length c3], .slice A1 cl.length c1] w fun e w' => PipesPost (pipesF a b pts lens cl) w e w' := by
  have hu1 := Tryz.underlying78
  have hu2 := Tryz.underlying125
  have hmf : ∀ (fn : Fn) (first cap : Array Value) (w : World), (Instr.makeFunc fn first cap).run Tryz.prog w = .ok (.func fn first cap) w := fun _ _ _ _ => rfl
  obtain ⟨w1, hw1⟩ : ∃ w1, w.alloc (.cells #[.int .i64 a, .int .i64 b, .slice A2 pts.length c2, .slice A3 lens.length c3] 78) = w1 := ⟨_, rfl⟩
  have hB1 : Below w.heap.size w w1 := by rw [← hw1]; exact (Below.refl _ _).alloc (Nat.le_refl _) _
  have hbk : w1.heap[w.heap.size]? = some (.cells #[.int .i64 a, .int .i64 b, .slice A2 pts.length c2, .slice A3 lens.length c3] 78 (0, 0)) := by rw [← hw1]; exact blk_new _ _
  have CS : Aside0 (∀ W, Below w.heap.size w W → Calls Tryz.prog 87 #[.agg #[.int .i64 a, .int .i64 b, .slice A2 pts.length c2, .slice A3 lens.length c3]] W fun e w' => e = .returned (.bool (isSiphonB a b pts lens)) ∧ Below W.heap.size W w') :=
    ⟨fun W hW => channel_isSiphon.calls a b A2 c2 pts A3 c3 lens _ W (Kd.C_below hr2 hW) hc2 (Kd.C_below hr3 hW) hc3 (by unfold channel_isSiphon.f; rw [if_pos ⟨hl2, hl3⟩])⟩
  have CC : Aside0 (∀ W, Below w.heap.size w W → Calls Tryz.prog 89 #[.slice A1 cl.length c1] W fun e w' => e = .returned (.bool (areClassesB cl)) ∧ Below W.heap.size W w') :=
    ⟨fun W hW => channel_areClasses.calls A1 c1 cl _ W (Kd.C_below hr1 hW) hc1 (by unfold channel_areClasses.f; rw [if_pos hl1])⟩
  have x0 : w1.cell? ⟨w.heap.size, 0, none⟩ = some (.int .i64 a) := (blk_cell hbk 0).trans rfl
  have x1 : w1.cell? ⟨w.heap.size, 1, none⟩ = some (.int .i64 b) := (blk_cell hbk 1).trans rfl
  have x2 : w1.cell? ⟨w.heap.size, 2, none⟩ = some (.slice A2 pts.length c2) := (blk_cell hbk 2).trans rfl
  have x3 : w1.cell? ⟨w.heap.size, 3, none⟩ = some (.slice A3 lens.length c3) := (blk_cell hbk 3).trans rfl
  have HBK := Aside0.mk hbk
  clear hbk
  have hcase : isSiphonB a b pts lens = false ∨ (isSiphonB a b pts lens = true ∧ areClassesB cl = false) ∨ (isSiphonB a b pts lens = true ∧ areClassesB cl = true) := by
    cases isSiphonB a b pts lens <;> cases areClassesB cl <;> simp
  rcases hcase with h1 | ⟨h1, h2⟩ | ⟨h1, h2⟩
  case inr.inr =>
    have HG : Aside0 (∀ S0 C0 W, Below w.heap.size w W → W.heap[S0]? = some (.cells #[.int .i64 a, .int .i64 b, .slice A2 pts.length c2, .slice A3 lens.length c3] 78 (0, 0)) → W.heap[C0]? = some (.cells #[.slice A1 cl.length c1] 84 (0, 0)) →
        Calls Tryz.prog 93 #[.func (.func 117) #[] #[.pointer (some ⟨S0, 0, none⟩), .pointer (some ⟨C0, 0, none⟩)], .func (.func 95) #[] #[]] W fun e w' => BestPost (bestP (filtP a b pts lens cl (tails cl.length lens.length))) W e w') :=
      ⟨fun S0 C0 W hW hS hC => best_any S0 C0 a b A2 A3 A1 c2 c3 c1 pts lens cl W h1 h2 hS hC (Kd.C_below hr2 hW) hc2 (Kd.C_below hr3 hW) hc3 (Kd.C_below hr1 hW) hc1⟩
    have HPF : Aside0 (pipesF a b pts lens cl = match bestP (filtP a b pts lens cl (tails cl.length lens.length)) with
      | none => ([], 0, 5)
      | some y => (y.1, y.2, 0)) := ⟨by unfold pipesF; rw [if_pos ⟨h1, h2⟩]⟩
    rw [h1] at CS
    rw [h2] at CC
    obtain ⟨PF, hPF⟩ : ∃ PF, pipesF a b pts lens cl = PF := ⟨_, rfl⟩
    rw [hPF] at HPF ⊢
    generalize hbo : bestP (filtP a b pts lens cl (tails cl.length lens.length)) = bo at HG HPF
    clear hr1 hr2 hr3 h1 h2 hPF hbo
    go_enter Tryz.func50, Tryz.ntmps50
    go_upto_region 1 with (fail)
    try rw [hw1]
    go_wp2_with (first | (go_at_call 87; refine (CS.out _ hB1).mono ?_; rintro e w2 ⟨rfl, hb2⟩) | (go_at_call 89; refine (CC.out _ (below_step hB1 hb2)).mono ?_; rintro e w3 ⟨rfl, hb3⟩; have hb13 := below_step hb2 hb3; have hbk3 := blk_below HBK.out hb13; have z0 : w3.cell? ⟨w.heap.size, 0, none⟩ = some (.int .i64 a) := (blk_cell hbk3 0).trans rfl; have z1 : w3.cell? ⟨w.heap.size, 1, none⟩ = some (.int .i64 b) := (blk_cell hbk3 1).trans rfl; have z2 : w3.cell? ⟨w.heap.size, 2, none⟩ = some (.slice A2 pts.length c2) := (blk_cell hbk3 2).trans rfl; have z3 : w3.cell? ⟨w.heap.size, 3, none⟩ = some (.slice A3 lens.length c3) := (blk_cell hbk3 3).trans rfl))
    refine (enough_any _ _ _ _ _ _ _ _ _ _ _ _).mono ?_
    rintro e w4 ⟨rfl, rfl⟩
    obtain ⟨w4, hw4⟩ : ∃ w4, (w3.alloc (.cells #[.int .i64 a, .int .i64 b, .slice A2 pts.length c2, .slice A3 lens.length c3] 78)).alloc (.cells #[.slice A1 cl.length c1] 84) = w4 := ⟨_, rfl⟩
    have hB3 : Below w.heap.size w w3 := below_step hB1 hb13
    have hB4 : Below w3.heap.size w3 w4 := by rw [← hw4]; exact ((Below.refl _ _).alloc (Nat.le_refl _) _).alloc (by simp) _
    have hS4 : w4.heap[w3.heap.size]? = some (.cells #[.int .i64 a, .int .i64 b, .slice A2 pts.length c2, .slice A3 lens.length c3] 78 (0, 0)) := by rw [← hw4]; exact blk_alloc (blk_new _ _) _
    have hC4 : w4.heap[w3.heap.size + 1]? = some (.cells #[.slice A1 cl.length c1] 84 (0, 0)) := by
      have := blk_new (w3.alloc (.cells #[.int .i64 a, .int .i64 b, .slice A2 pts.length c2, .slice A3 lens.length c3] 78)) (.cells #[.slice A1 cl.length c1] 84)
      rw [World.size_alloc, hw4] at this; exact this
    rw [hw4]
    have CBest := Aside0.mk (HG.out _ _ w4 (below_step hB3 hB4) hS4 hC4)
    have HB4 := Aside0.mk (below_step hB3 hB4)
    clear hw4 hS4 hC4 hB3 hB4 z0 z1 z2 z3 hb2 hb3 hb13 hbk3 hw1 x0 x1 x2 x3
    go_wp2_with (fail)
    refine CBest.out.mono ?_
    rintro e w5 ⟨⟨A, n, c, p, m, rfl, hbi⟩, hb5⟩
    have HB5 := Aside0.mk (below_step HB4.out hb5)
    cases bo with
    | none =>
      have hm : m = false := hbi
      subst hm
      have HPF2 : Aside0 (PF = ([], 0, 5)) := ⟨HPF.out⟩
      clear hbi hb5
      go_wp2
      refine bodyPost_ret (v := .tuple #[.slice none 0 0, .int .i64 0, .int .i64 5]) (by simp [results, Tryz.results50, go_sem]) rfl ?_
      rw [HPF2.out]
      exact PipesPost.mk (Kd.R_nil _ _ _ _ _) rfl rfl (HB5.out.alloc HB5.out.size _)
    | some y =>
      obtain ⟨rfl, rfl, rfl, ho⟩ := hbi
      have HPF2 : Aside0 (PF = (y.1, y.2, 0)) := ⟨HPF.out⟩
      have HO5 := Aside0.mk (ho.weak HB4.out.size)
      clear ho hb5
      go_wp2
      obtain ⟨w6, hw6⟩ : ∃ w6, w5.alloc (.cells #[.slice A y.1.length c, .int .i64 y.2] 125) = w6 := ⟨_, rfl⟩
      have hb6 : w6.heap[w5.heap.size]? = some (.cells #[.slice A y.1.length c, .int .i64 y.2] 125 (0, 0)) := by rw [← hw6]; exact blk_new _ _
      have HO6 : Aside0 (OwnI w6 w.heap.size (.slice A y.1.length c) y.1) := ⟨by rw [← hw6]; exact Kd.R_alloc HO5.out _⟩
      have HB6 : Aside0 (Below w.heap.size w w6) := ⟨by rw [← hw6]; exact HB5.out.alloc HB5.out.size _⟩
      rw [hw6]
      have y0 : w6.cell? ⟨w5.heap.size, 0, none⟩ = some (.slice A y.1.length c) := (blk_cell hb6 0).trans rfl
      have y1 : w6.cell? ⟨w5.heap.size, 1, none⟩ = some (.int .i64 y.2) := (blk_cell hb6 1).trans rfl
      clear hw6 hb6
      go_quiet (fail)
      go_wp2
      refine bodyPost_ret (v := .tuple #[.slice A y.1.length c, .int .i64 y.2, .int .i64 0]) (by simp [results, Tryz.results50, go_sem]) rfl ?_
      rw [HPF2.out]
      exact PipesPost.mk (Kd.R_drewN HO6.out _) rfl rfl (pw_below_drewN HB6.out _)
  all_goals
    have HPF : Aside0 (pipesF a b pts lens cl = ([], 0, 2)) := ⟨by unfold pipesF; rw [if_neg (by simp [*])]⟩
    rw [h1] at CS
    try rw [h2] at CC
    clear hr1 hr2 hr3
    go_enter Tryz.func50, Tryz.ntmps50
    go_upto_region 1 with (fail)
    try rw [hw1]
    go_wp2_with (first | (go_at_call 87; refine (CS.out _ hB1).mono ?_; rintro e w2 ⟨rfl, hb2⟩) | (go_at_call 89; refine (CC.out _ (below_step hB1 hb2)).mono ?_; rintro e w3 ⟨rfl, hb3⟩))
    refine bodyPost_ret (v := .tuple #[.slice none 0 0, .int .i64 0, .int .i64 2]) (by simp [results, Tryz.results50, go_sem]) rfl ?_
    rw [HPF.out]
    first
      | exact PipesPost.mk (Kd.R_nil _ _ _ _ _) rfl rfl (below_step hB1 (below_step hb2 hb3))
      | exact PipesPost.mk (Kd.R_nil _ _ _ _ _) rfl rfl (below_step hB1 hb2)
def channel_Pipes.f (a b : Int) (pts : List S30) (lens : List Int) (cl : List S123) : Option (List Int × Int × Int) :=
  if pts.length ≤ 9223372036854775807 ∧ lens.length ≤ 9223372036854775807 ∧ cl.length ≤ 9223372036854775807 then some (pipesF a b pts lens cl) else none
theorem channel_Pipes.calls (a0_0 : Int) (a0_1 : Int) (A0_2 : Option Addr) (c0_2 : Nat) (l0_2 : List S30) (A0_3 : Option Addr) (c0_3 : Nat) (l0_3 : List Int) (A1 : Option Addr) (c1 : Nat) (l1 : List S123) (r1 : List Int) (r2 : Int) (r3 : Int) (w : World) (hr0_2 : Kd.C k30 w A0_2 l0_2.length l0_2) (hc0_2 : l0_2.length ≤ c0_2) (hr0_3 : Kd.C (Kd.int .i64) w A0_3 l0_3.length l0_3) (hc0_3 : l0_3.length ≤ c0_3) (hr1 : Kd.C k123 w A1 l1.length l1) (hc1 : l1.length ≤ c1) (h : channel_Pipes.f a0_0 a0_1 l0_2 l0_3 l1 = some (r1, r2, r3)) :
    Calls Tryz.prog 50 #[.agg #[.int .i64 a0_0, .int .i64 a0_1, .slice A0_2 l0_2.length c0_2, .slice A0_3 l0_3.length c0_3], .slice A1 l1.length c1] w fun e w' => ∃ v0_ : Value, e = .returned (.tuple #[v0_, .int .i64 r2, .int .i64 r3]) ∧ Kd.R (Kd.int .i64) 3 w' w.heap.size (fun _ => True) v0_ r1 ∧ Below w.heap.size w w' := by
  unfold channel_Pipes.f at h
  by_cases hl : l0_2.length ≤ 9223372036854775807 ∧ l0_3.length ≤ 9223372036854775807 ∧ l1.length ≤ 9223372036854775807
  case neg => rw [if_neg hl] at h; cases h
  rw [if_pos hl] at h
  have h := Option.some.inj h
  have := pipes_any a0_0 a0_1 A0_2 A0_3 A1 c0_2 c0_3 c1 l0_2 l0_3 l1 w hl.1 hl.2.1 hl.2.2 hr0_2 hc0_2 hr0_3 hc0_3 hr1 hc1
  rw [h] at this
  exact this
end Go.Proofs.YtdmdahafiiggiaaGreatDoor.K
end
