/- The walks of the functions that the laws of this seat call, and what they compute; joined out of smaller texts, part 4. -/
import Derived.Defers
import Derived.Recover
import Derived.Laws.Pointers
import Derived.WalkMore
import Derived.WalkLawsBesides
import Derived.Outline
import Derived.BigQuiet
import Derived.Deep.RegionWith
import Derived.Laws.EntriesVeiled
import Derived.Test.YtdmdahafiiggiabGreatDoorH3
set_option linter.unusedVariables false
set_option linter.unusedSimpArgs false
section
namespace Go.Proofs.YtdmdahafiiggiabGreatDoor.K
open Go.RowKit Go.Proofs.YtdmdahafiiggiabGreatDoorW.PrintWords Go.Proofs.YtdmdahafiiggiabGreatDoorW.PrintLast Go.Proofs.YtdmdahafiiggiabGreatDoorW.PrintMore
theorem splitB_size (sep : ByteArray) : ∀ (k : Nat) (s x : ByteArray), x ∈ Lib.splitB sep 0 k s → x.size ≤ s.size
  | 0, s, x, h => by
    simp [Lib.splitB] at h; rw [h]; exact Nat.le_refl _
  | k + 1, s, x, h => by
    unfold Lib.splitB at h
    split at h
    · simp at h; rw [h]; exact Nat.le_refl _
    · rcases List.mem_cons.1 h with rfl | h
      · rw [ByteArray.size_extract]; omega
      · have := splitB_size sep k _ x h; rw [ByteArray.size_extract] at this
        omega
theorem parts_size {s x : ByteArray} {c : UInt8} (h : x ∈ partsF s c) : x.size ≤ s.size := splitB_size _ _ _ _ h
theorem parts_many (s : ByteArray) (c : UInt8) : (partsF s c).length ≤ s.size + 1 := by
  have := Lib.splitB_all ⟨#[c]⟩ (Nat.le_refl 1) 0 _ s rfl; have hle := Lib.countB_le ⟨#[c]⟩ (Nat.le_refl 1) s.size s (Nat.le_refl _); unfold partsF
  omega
theorem num_good_of {w : World} {x : ByteArray} {n : Int} (h : numF x = some n) (hq : TabW w ∨ valF x x.size < 100) : Good w n := by
  unfold numF at h
  split at h
  · rename_i hk
    obtain rfl := Option.some.inj h; simp only [numOk, Bool.and_eq_true, decide_eq_true_eq] at hk; have := val_small hk.1.1.1 hk.1.1.2; exact ⟨this.1, hq.elim (fun ht => .inr ⟨by omega, ht⟩) .inl⟩
  · cases h
theorem nums_good {w : World} : ∀ {l : List ByteArray} {ns : List Int}, numsF l = some ns → (TabW w ∨ ∀ x ∈ l, valF x x.size < 100) → ∀ n ∈ ns, Good w n
  | [], ns, h, _, n, hn => by obtain rfl : [] = ns := Option.some.inj h; cases hn
  | y :: l, ns, h, hq, n, hn => by
    simp only [numsF] at h; obtain ⟨m, hm, h⟩ := Option.bind_eq_some_iff.1 h; obtain ⟨ms, hms, rfl⟩ := Option.map_eq_some_iff.1 h
    rcases List.mem_cons.1 hn with rfl | hn
    · exact num_good_of hm (hq.imp id fun h => h y (List.mem_cons_self ..))
    · exact nums_good hms (hq.imp id fun h x hx => h x (List.mem_cons_of_mem _ hx)) n hn
theorem told_good {w : World} {line word : ByteArray} {ns : List Int} (h : toldF line word = some ns) (hq : TabW w ∨ ∀ x ∈ partsF line 32, valF x x.size < 100) : (∀ n ∈ ns, Good w n) ∧ ns.length ≤ line.size := by
  unfold toldF at h
  split at h
  · refine ⟨nums_good h (hq.imp id fun h x hx => h x (List.mem_of_mem_drop hx)), ?_⟩; rw [nums_len h, List.length_drop]; have := parts_many line 32
    omega
  · cases h
def mkPart (ns : List Int) : S66 := ⟨rd ns 0, rd ns 1, rd ns 2, ⟨rd ns 3, rd ns 4⟩⟩
def strF : List ByteArray → Option (List S66)
  | [] => some []
  | x :: l => (toldF x wStretch).bind fun ns => if ns.length = 5 then (strF l).map fun st => mkPart ns :: st else none
theorem str_snoc (x : ByteArray) : ∀ (l : List ByteArray) (st : List S66), strF l = some st → strF (l ++ [x]) = (toldF x wStretch).bind fun ns => if ns.length = 5 then some (st ++ [mkPart ns]) else none
  | [], st, h => by
    obtain rfl : [] = st := Option.some.inj h
    cases hx : toldF x wStretch with
    | none => simp [strF, hx]
    | some ns => simp [strF, hx]
  | y :: l, st, h => by
    simp only [strF, List.cons_append] at h ⊢; obtain ⟨n, hn, h⟩ := Option.bind_eq_some_iff.1 h
    split at h
    · rename_i h5
      obtain ⟨ms, hm, rfl⟩ := Option.map_eq_some_iff.1 h; rw [hn, str_snoc x l ms hm]
      cases hx : toldF x wStretch with
      | none => simp [h5]
      | some ns => by_cases h6 : ns.length = 5 <;> simp [h5, h6]
    · cases h
theorem str_bad {x : ByteArray} (hx : toldF x wStretch = none ∨ ∃ ns, toldF x wStretch = some ns ∧ ns.length ≠ 5) : ∀ {l : List ByteArray}, x ∈ l → strF l = none
  | y :: l, h => by
    simp only [strF]
    rcases List.mem_cons.1 h with rfl | h
    · rcases hx with hx | ⟨ns, hx, h5⟩
      · rw [hx]; rfl
      · rw [hx]; simp [h5]
    · rw [str_bad hx h]
      cases toldF y wStretch with
      | none => rfl
      | some ns => simp
theorem str_len : ∀ {l : List ByteArray} {st : List S66}, strF l = some st → st.length = l.length
  | [], st, h => by obtain rfl : [] = st := Option.some.inj h; rfl
  | y :: l, st, h => by
    simp only [strF] at h; obtain ⟨n, hn, h⟩ := Option.bind_eq_some_iff.1 h
    split at h
    · obtain ⟨ms, hm, rfl⟩ := Option.map_eq_some_iff.1 h; simp [str_len hm]
    · cases h
theorem str_good {w : World} : ∀ {l : List ByteArray} {st : List S66}, strF l = some st → (TabW w ∨ ∀ y ∈ l, ∀ x ∈ partsF y 32, valF x x.size < 100) → ∀ s ∈ st, ∀ n ∈ partN s, Good w n
  | [], st, h, _, s, hs => by obtain rfl : [] = st := Option.some.inj h; cases hs
  | y :: l, st, h, hq, s, hs => by
    simp only [strF] at h; obtain ⟨ns, hn, h⟩ := Option.bind_eq_some_iff.1 h
    split at h
    · rename_i h5
      obtain ⟨ms, hm, rfl⟩ := Option.map_eq_some_iff.1 h
      rcases List.mem_cons.1 hs with rfl | hs
      · have := (told_good hn (hq.imp id fun h => h y (List.mem_cons_self ..))).1
        obtain ⟨a, b, c, d, e, rfl⟩ : ∃ a b c d e, ns = [a, b, c, d, e] := by
          match ns, h5 with
          | [a, b, c, d, e], _ => exact ⟨a, b, c, d, e, rfl⟩
        exact this
      · exact str_good hm (hq.imp id fun h z hz => h z (List.mem_cons_of_mem _ hz)) s hs
    · cases h
def parsedF (s : ByteArray) : Option (List Int × List S66) :=
  if 3 ≤ (partsF s 10).length then (toldF (rdOf ByteArray.empty (partsF s 10) 0) wSpeeds).bind fun sp => (strF (((partsF s 10).take ((partsF s 10).length - 2)).drop 1)).bind fun st => if textF sp st = s then some (sp, st) else none
  else none
def ParsedPost (s : ByteArray) (w : World) (e : Ending) (w' : World) : Prop :=
  Below w.heap.size w w' ∧ ((parsedF s = none ∧ gaveUp e) ∨ ∃ sp st A0 c0 A1 c1, parsedF s = some (sp, st) ∧ e = .returned (.agg #[.slice A0 (List.length sp) c0, .slice A1 (List.length st) c1]) ∧ Kd.R (Kd.int .i64) 3 w' w.heap.size (fun _ => True) (.slice A0 sp.length c0) sp ∧ Kd.R k66 66 w' w.heap.size (fun _ => True) (.slice A1 st.length c1) st)
theorem R_set {α : Type} {d : Kd α} {e base : Nat} {W : World} {v : Value} {xs : List α} (h : d.R e W base (fun _ => True) v xs) {p : Addr} (hp : p.block < base) (u : Value) : d.R e (W.setCell p u) base (fun _ => True) v xs :=
  Kd.R_mono (Kd.R_step (Kd.R_bound h) (fun k hk _ => Below.heap_setCell _ _ _ _ (by have := hk.2.1; omega))) (fun _ _ => trivial)
set_option maxRecDepth 100000 in
set_option maxHeartbeats 2000000 in
theorem parsed_any (s : ByteArray) (w : World) (hs : s.size ≤ 300) (hq : TabW w ∨ ∀ y ∈ partsF s 10, ∀ x ∈ partsF y 32, valF x x.size < 100) :
    Calls Tryz.prog 83 #[.string s] w (ParsedPost s w) := by
  have hu1 := Tryz.underlying60; have hu2 := Tryz.underlying66; have hu3 := Tryz.underlying23; obtain ⟨ls, hls⟩ : ∃ ls, partsF s 10 = ls := ⟨_, rfl⟩; have CS : Aside0 (∀ W, Calls Tryz.prog 117 #[.string s, .string ⟨#[10]⟩] W fun e w' => ∃ A cc, e = .returned (.slice A ls.length cc) ∧ Aside0 (Kd.C Kd.string w' A ls.length ls ∧ ls.length ≤ cc) ∧ Below W.heap.size W w') := ⟨fun W => by have := split_one s 10 W (by omega); rwa [hls] at this⟩; have CT : Aside0 (∀ W x word, Below w.heap.size w W → x ∈ ls → Calls Tryz.prog 119 #[.string x, .string word] W (ToldPost x word W)) := ⟨fun W x word hb hx => told_any x word W (by have := parts_size (c := 10) (s := s) (x := x) (hls ▸ hx); omega) (hq.imp (fun h => h.below hb) fun h => h x (hls ▸ hx))⟩; obtain ⟨i9, hi9, hz0, hz1, hz2⟩ := info_parts infoStr; have HLM : Aside0 (ls.length ≤ 301) := ⟨by have := parts_many s 10; rw [hls] at this; omega⟩; have HQ : Aside0 (TabW w ∨ ∀ y ∈ ls, ∀ x ∈ partsF y 32, valF x x.size < 100) := ⟨hls ▸ hq⟩; have HSS : Aside0 (∀ x ∈ ls, x.size ≤ 300) := ⟨fun x hx => Nat.le_trans (parts_size (c := 10) (hls ▸ hx)) hs⟩; have HP := Aside0.mk hls; have HS := Aside0.mk hs; clear hls hq hs
  go_enter Tryz.func83, Tryz.ntmps83
  go_wp2_with fail
  generalize hW0 : World.alloc w _ = w0; have HB0 : Aside0 (Below w.heap.size w w0 ∧ w.heap.size < w0.heap.size) := ⟨by rw [← hW0]; exact ⟨(Below.refl _ _).alloc (Nat.le_refl _) _, by simp⟩⟩; have HR0 : Aside0 (w0.heap[w.heap.size]? = some (.cells #[.slice none 0 0, .slice none 0 0] 60 (0, 0))) := ⟨by rw [← hW0]; exact blk_new _ _⟩; clear hW0; refine (CS.out _).mono ?_; rintro e w1 ⟨A, cc, rfl, HC, hb1⟩; have HB1 := Aside0.mk (below_step HB0.out.1 hb1); have HR1 := Aside0.mk (blk_below HR0.out hb1); clear HR0 hb1
  by_cases h3 : 3 ≤ ls.length
  case neg =>
    have c0 : decide ((3 : Int) ≤ (ls.length : Int)) = false := decide_eq_false (by omega)
    go_wp2_with (first | (go_at_call 118; (with_reducible refine (sure_yes _ _).mono ?_); rintro e w' ⟨rfl, rfl⟩) | (go_at_call 118; (with_reducible refine (sure_no _ _).mono ?_); rintro e w' ⟨rfl, rfl⟩))
    exact ⟨rfl, HB1.out, .inl ⟨by unfold parsedF; rw [HP.out, if_neg h3], _, rfl⟩⟩
  case pos =>
  have c0 : decide ((3 : Int) ≤ (ls.length : Int)) = true := decide_eq_true (by omega); have c0' : (0 : Int) < (ls.length : Int) := by omega
  have c1 : (0 < ls.length) = True := eq_true (by omega); obtain ⟨ad, ea, x0⟩ := Kd.at_string HC.out.1 0 (by omega) (by omega)
  cases ea
  obtain ⟨p0, hp0⟩ : ∃ p0, rdOf ByteArray.empty ls 0 = p0 := ⟨_, rfl⟩; rw [hp0] at x0; replace x0 : w1.cell? ad = some (.string p0) := x0
  have HM0 : Aside0 (p0 ∈ ls) := ⟨by
    rw [← hp0]
    simp [rdOf, List.getD, List.getElem?_eq_getElem (show 0 < ls.length by omega)]⟩
  have HPP := Aside0.mk hp0; clear hp0
  go_wp2_with (first | (go_at_call 118; (with_reducible refine (sure_yes _ _).mono ?_); rintro e w' ⟨rfl, rfl⟩) | (go_at_call 118; (with_reducible refine (sure_no _ _).mono ?_); rintro e w' ⟨rfl, rfl⟩))
  refine (CT.out w1 p0 _ HB1.out HM0.out).mono ?_; rintro e w2 ⟨hb2, ⟨hn, why, rfl⟩ | ⟨sp, v, hsp, rfl, hRs⟩⟩
  · go_wp2; exact ⟨rfl, below_step HB1.out hb2, .inl ⟨by unfold parsedF; rw [HP.out, if_pos h3, HPP.out]; show (toldF p0 wSpeeds).bind _ = none; rw [show toldF p0 wSpeeds = none from hn]; rfl, _, rfl⟩⟩
  replace hsp : toldF p0 wSpeeds = some sp := hsp; obtain ⟨A0, cs0, es⟩ := Kd.R_slice hRs; subst es; have HC2 := Aside0.mk (Kd.C_below HC.out.1 hb2); have HCC := Aside0.mk HC.out.2; have HR2 := Aside0.mk (blk_below HR1.out hb2); have HB2 := Aside0.mk (below_step HB1.out hb2); have HRS := Aside0.mk hRs; have HW1 : Aside0 (w.heap.size < w1.heap.size) := ⟨by have := HB0.out.2; have := HB1.out.size; have := blk_lt HR1.out; omega⟩; have HW12 : Aside0 (w1.heap.size ≤ w2.heap.size) := ⟨hb2.size⟩; have HSP := Aside0.mk hsp; have HPF : Aside0 (parsedF s = (strF ((ls.take (ls.length - 2)).drop 1)).bind fun st => if textF sp st = s then some (sp, st) else none) := ⟨by unfold parsedF; rw [HP.out, if_pos h3, HPP.out, hsp]; rfl⟩; have HT : Aside0 (Kd.C Kd.string w2 (if cc = 1 then some ad else (some ad).map (·.add (1 * 1))) ((ls.take (ls.length - 2)).drop 1).length ((ls.take (ls.length - 2)).drop 1)) := ⟨Kd.C_mid HC2.out (by omega) (by omega) HCC.out⟩; have htlen : ((ls.take (ls.length - 2)).drop 1).length = ls.length - 2 - 1 := by rw [List.length_drop, List.length_take]; omega
  generalize hA1 : (if cc = 1 then some ad else (some ad).map (·.add (1 * 1))) = A1 at HT; obtain ⟨tl, htl⟩ : ∃ tl, (ls.take (ls.length - 2)).drop 1 = tl := ⟨_, rfl⟩; have hw2 : wrap64 ((ls.length : Int) - 2) = (ls.length : Int) - 2 := IntWalk.wrap64_in _ (by have := HLM.out; omega)
  have hcut : ∀ W : World, (Instr.slice 117 (.slice (some ad) ls.length cc) (some (.int .i64 1)) (some (.int .i64 ((ls.length : Int) - 2))) none).run Tryz.prog W = .ok (.slice A1 tl.length (cc - 1)) W := fun W => by
    have := cut_mid (P := Tryz.prog) 117 9 .i64 .i64 Tryz.underlying117 hi9 1 hz1 (some ad) ls.length cc 1 ((ls.length : Int) - 2) (by omega) (by omega) (by omega) HCC.out W; rw [this, ← hA1, ← htl, htlen]
    congr 2
    omega
  rw [htl] at HT HPF; have HTM : Aside0 ((∀ x ∈ tl, x ∈ ls) ∧ tl.length ≤ 300) := ⟨by rw [← htl]; exact ⟨fun x hx => List.mem_of_mem_take (List.mem_of_mem_drop hx), by rw [htlen]; have := HLM.out; omega⟩⟩; have HL3 := Aside0.mk h3; have HW2 := Aside0.mk hw2; clear hw2 hA1 htl htlen h3 c0 c1 hsp hRs hb2 x0
  go_upto_region 4 with (fail)
  generalize hWL : World.alloc w2 _ = wL; have HBK : Aside0 (wL.heap[w2.heap.size]? = some (.cells #[.slice A0 sp.length cs0, .slice none 0 0] 60 (0, 0))) := ⟨by rw [← hWL]; exact blk_new _ _⟩; have HBL : Aside0 (Below w2.heap.size w2 wL) := ⟨by rw [← hWL]; exact (Below.refl _ _).alloc (Nat.le_refl _) _⟩; clear hWL; have hw2 := HW2.out; go_wp2; clear hw2 hcut
  go_loopg [26] tl.length (fun kq v26 w' => ∃ (j : Nat) (st : List S66) (v1 : Value), v26 = .int .i64 (j : Int) ∧ Aside0 (j + kq = tl.length) ∧ Aside0 (strF (tl.take j) = some st ∧ Kd.R k66 66 w' (w2.heap.size + 1) (fun _ => True) v1 st) ∧ Aside0 (Below w2.heap.size w2 w' ∧ w'.heap[w2.heap.size]? = some (.cells #[.slice A0 sp.length cs0, v1] 60 (0, 0))))
  case atStart => exact ⟨0, [], _, rfl, ⟨by omega⟩, ⟨rfl, Kd.R_nil _ _ _ _ _⟩, ⟨HBL.out, HBK.out⟩⟩
  case round =>
    obtain ⟨j, st, v1, rfl, HJ, HA, HW⟩ := hrel; obtain ⟨A1o, c1o, eo⟩ := Kd.R_slice HA.out.2; subst eo
    cases gk with
    | zero =>
      have c3 : decide ((j : Int) < (tl.length : Int)) = false := decide_eq_false (by have := HJ.out; omega); have c4 : ¬ (j < tl.length) := by have := HJ.out; omega
      have HST : Aside0 (strF tl = some st) := ⟨by have := HA.out.1; rwa [List.take_of_length_le (by have := HJ.out; omega)] at this⟩; have HBw : Aside0 (Below w.heap.size w wr) := ⟨below_then HB2.out HB2.out.size HW.out.1⟩; have HRSw := Aside0.mk (Kd.R_below HRS.out HW.out.1)
      have HTX : Aside0 (Calls Tryz.prog 80 #[.agg #[.slice A0 sp.length cs0, .slice A1o st.length c1o]] wr fun e w' => e = .returned (.string (textF sp st)) ∧ Below wr.heap.size wr w') := ⟨by
        obtain ⟨_, _, e0, hl0, hC0⟩ := Kd.R_reads HRSw.out
        cases e0
        obtain ⟨_, _, e1, hl1, hC1⟩ := Kd.R_reads HA.out.2
        cases e1
        have g0 := told_good HSP.out (HQ.out.imp id fun h => h p0 HM0.out); have g1 := str_good HST.out (HQ.out.imp id fun h y hy => h y (HTM.out.1 y hy))
        exact text_any A0 A1o cs0 c1o sp st wr hC0 hl0 hC1 hl1 (by have := g0.2; have := HSS.out p0 HM0.out; omega) (by have := str_len HST.out; have := HTM.out.2; omega) (fun x hx => (g0.1 x hx).below HBw.out) (fun s hs x hx => (g1 s hs x hx).below HBw.out)⟩
      have x0 : wr.cell? ⟨w2.heap.size, 0, none⟩ = some (.slice A0 sp.length cs0) := (blk_cell HW.out.2 0).trans rfl; have x1 : wr.cell? ⟨w2.heap.size, 1, none⟩ = some (.slice A1o st.length c1o) := (blk_cell HW.out.2 1).trans rfl; have HRB := Aside0.mk (blk_below HR2.out HW.out.1)
      go_wp2_with (fail)
      refine HTX.out.mono ?_; rintro e w5 ⟨rfl, hb5⟩; have HB5 := Aside0.mk hb5; have HBK5 := Aside0.mk (blk_below HW.out.2 hb5); have HRB5 := Aside0.mk (blk_below HRB.out hb5); clear hb5 x0 x1
      by_cases hq : textF sp st = s
      case neg =>
        have hne := str_ne hq; have HQN := Aside0.mk hq; clear hq
        go_wp2_with (first | (go_at_call 118; (with_reducible refine (sure_yes _ _).mono ?_); rintro e w' ⟨rfl, rfl⟩) | (go_at_call 118; (with_reducible refine (sure_no _ _).mono ?_); rintro e w' ⟨rfl, rfl⟩))
        exact ⟨rfl, below_step HBw.out HB5.out, .inl ⟨HPF.out.trans (by rw [HST.out]; show (if textF sp st = s then _ else _) = _; rw [if_neg HQN.out]), _, rfl⟩⟩
      case pos =>
        have hee : ((textF sp st).toList == s.toList) = true := by rw [hq]; simp
        have HQN := Aside0.mk hq; clear hq; have x0 : w5.cell? ⟨w2.heap.size, 0, none⟩ = some (.slice A0 sp.length cs0) := (blk_cell HBK5.out 0).trans rfl; have x1 : w5.cell? ⟨w2.heap.size, 1, none⟩ = some (.slice A1o st.length c1o) := (blk_cell HBK5.out 1).trans rfl; have y0 : w5.cell? ⟨w.heap.size, 0, none⟩ = some (.slice none 0 0) := (blk_cell HRB5.out 0).trans rfl; have y1 : w5.cell? ⟨w.heap.size, 1, none⟩ = some (.slice none 0 0) := (blk_cell HRB5.out 1).trans rfl; have f0 : w5.frozen? ⟨w.heap.size, 0, none⟩ = false := blk_frozen HRB5.out 0; have f1 : w5.frozen? ⟨w.heap.size, 1, none⟩ = false := blk_frozen HRB5.out 1
        go_wp2_with (first | (go_at_call 118; (with_reducible refine (sure_yes _ _).mono ?_); rintro e w' ⟨rfl, rfl⟩) | (go_at_call 118; (with_reducible refine (sure_no _ _).mono ?_); rintro e w' ⟨rfl, rfl⟩))
        refine bodyPost_ret (v := .agg #[.slice A0 sp.length cs0, .slice A1o st.length c1o]) (by simp [results, Tryz.results83, go_sem, *]) rfl ?_; have hRs := Kd.R_below HRSw.out HB5.out; have hRt := Kd.R_below HA.out.2 HB5.out; have hlt := HW1.out; have hlt2 := HW12.out; refine ⟨?_, .inr ⟨sp, st, A0, cs0, A1o, c1o, HPF.out.trans (by rw [HST.out]; show (if textF sp st = s then _ else _) = _; rw [if_pos HQN.out]), rfl, ?_, ?_⟩⟩
        · exact ((below_step HBw.out HB5.out).setCell (Nat.le_refl _) _).setCell (Nat.le_refl _) _
        · exact Kd.R_lower (R_set (R_set hRs (by exact hlt) _) (by exact hlt) _) (by omega)
        · exact Kd.R_lower (R_set (R_set hRt (by simp; omega) _) (by simp; omega) _) (by omega)
    | succ k2 =>
      have c3 : decide ((j : Int) < (tl.length : Int)) = true := decide_eq_true (by have := HJ.out; omega); have p1 : (0 : Int) ≤ (j : Int) := by omega
      have p2 : (j : Int) < (tl.length : Int) := by have := HJ.out; omega
      obtain ⟨ad2, ea2, x0⟩ := Kd.at_string HT.out j p1 p2
      cases ea2
      rw [Int.toNat_natCast] at x0; replace x0 := (HW.out.1.cell (World.block_lt_of_cell? _ _ x0)).trans x0; obtain ⟨x, hx⟩ : ∃ x, rdOf ByteArray.empty tl (j : Int) = x := ⟨_, rfl⟩; rw [hx] at x0
      have hget : tl[j]? = some x := by
        have hj : j < tl.length := by omega
        rw [List.getElem?_eq_getElem hj, ← hx]; simp [rdOf, List.getD, List.getElem?_eq_getElem hj]
      have HX := Aside0.mk hget; have HXL : Aside0 (x ∈ ls) := ⟨HTM.out.1 x (List.mem_of_getElem? hget)⟩; clear hx hget; have q1 := eq_true p1; have q2 := eq_true p2; have HBw : Aside0 (Below w.heap.size w wr) := ⟨below_then HB2.out HB2.out.size HW.out.1⟩
      go_wp2_with (fail)
      clear x0; refine (CT.out wr x _ HBw.out HXL.out).mono ?_; rintro e w3 ⟨hb3, ⟨hn, why, rfl⟩ | ⟨ns, v, hns, rfl, hRn⟩⟩
      · go_wp2; exact ⟨rfl, below_step HBw.out hb3, .inl ⟨HPF.out.trans (by rw [str_bad (.inl hn) (List.mem_of_getElem? HX.out)]; rfl), _, rfl⟩⟩
      obtain ⟨An, cn, hen, hln, hCn⟩ := Kd.R_reads hRn; subst hen; replace hns : toldF x wStretch = some ns := hns; have HNS := Aside0.mk hns; have HB3 := Aside0.mk hb3; have HCN := Aside0.mk hCn; clear hns hb3 hCn hRn
      by_cases h5 : ns.length = 5
      case neg =>
        have c5 : ((ns.length : Int) == 5) = false := by rw [beq_eq_false_iff_ne]; omega
        have c6 : decide ((ns.length : Int) = 5) = false := decide_eq_false (by omega); have c7 : (ns.length == 5) = false := by rw [beq_eq_false_iff_ne]; omega
        have H5 := Aside0.mk h5; clear h5
        go_wp2_with (first | (go_at_call 118; (with_reducible refine (sure_yes _ _).mono ?_); rintro e w' ⟨rfl, rfl⟩) | (go_at_call 118; (with_reducible refine (sure_no _ _).mono ?_); rintro e w' ⟨rfl, rfl⟩))
        exact ⟨rfl, below_step HBw.out HB3.out, .inl ⟨HPF.out.trans (by rw [str_bad (.inr ⟨ns, HNS.out, H5.out⟩) (List.mem_of_getElem? HX.out)]; rfl), _, rfl⟩⟩
      case pos =>
        obtain ⟨n0, n1, n2, n3, n4, rfl⟩ : ∃ a b c d e, ns = [a, b, c, d, e] := by
          match ns, h5 with
          | [a, b, c, d, e], _ => exact ⟨a, b, c, d, e, rfl⟩
        clear h5; obtain ⟨an, ea, y0⟩ := Kd.at_int HCN.out 0 (by omega) (by simp)
        cases ea
        obtain ⟨_, ea, y1⟩ := Kd.at_int HCN.out 1 (by omega) (by simp)
        cases ea
        obtain ⟨_, ea, y2⟩ := Kd.at_int HCN.out 2 (by omega) (by simp)
        cases ea
        obtain ⟨_, ea, y3⟩ := Kd.at_int HCN.out 3 (by omega) (by simp)
        cases ea
        obtain ⟨_, ea, y4⟩ := Kd.at_int HCN.out 4 (by omega) (by simp)
        cases ea
        replace y0 : w3.cell? an = some (.int .i64 n0) := y0; replace y1 : w3.cell? ⟨an.block, an.off + 1, none⟩ = some (.int .i64 n1) := y1; replace y2 : w3.cell? ⟨an.block, an.off + 2, none⟩ = some (.int .i64 n2) := y2; replace y3 : w3.cell? ⟨an.block, an.off + 3, none⟩ = some (.int .i64 n3) := y3; replace y4 : w3.cell? ⟨an.block, an.off + 4, none⟩ = some (.int .i64 n4) := y4; have HBK3 := Aside0.mk (blk_below HW.out.2 HB3.out); have y5 : w3.cell? ⟨w2.heap.size, 1, none⟩ = some (.slice A1o st.length c1o) := (blk_cell HBK3.out 1).trans rfl
        go_upto_region 9 with (first | (go_at_call 118; (with_reducible refine (sure_yes _ _).mono ?_); rintro e w' ⟨rfl, rfl⟩) | (go_at_call 118; (with_reducible refine (sure_no _ _).mono ?_); rintro e w' ⟨rfl, rfl⟩))
        have HRD := Aside0.mk (Kd.R_below HA.out.2 HB3.out); have HB2D := Aside0.mk (below_then HW.out.1 HW.out.1.size HB3.out); have HLT := Aside0.mk (Nat.lt_of_lt_of_le (blk_lt HW.out.2) HB3.out.size); refine start_ (n := 23) (S := fun w' => w'.cell? ⟨w2.heap.size, 1, none⟩ = some (.slice A1o st.length c1o) ∧ w'.cell? an = some (.int .i64 n0) ∧ w'.cell? ⟨an.block, an.off + 1, none⟩ = some (.int .i64 n1) ∧ w'.cell? ⟨an.block, an.off + 2, none⟩ = some (.int .i64 n2) ∧ w'.cell? ⟨an.block, an.off + 3, none⟩ = some (.int .i64 n3) ∧ w'.cell? ⟨an.block, an.off + 4, none⟩ = some (.int .i64 n4)) (ds := [20, 22]) #[false, false, false, false, false, false, false, false, false, false, false, false, false, false, false, false, false, false, false, false, false, false, false] (by kernel_rfl) rfl rfl ⟨y5, y0, y1, y2, y3, y4⟩ (fun hHeld => ?_); have HDR : Aside0 (Below w3.heap.size w3 w3.drew) := ⟨below_drew1 (Below.refl _ _)⟩; generalize w3.drew = wd at HDR hHeld ⊢; have HBKD := Aside0.mk (blk_below HBK3.out HDR.out); replace HRD := Aside0.mk (Kd.R_below HRD.out HDR.out); replace HB2D := Aside0.mk (below_then HB2D.out HB2D.out.size HDR.out); have hBLs : w2.heap.size < wd.heap.size := blk_lt HBKD.out; clear y0 y1 y2 y3 y4 y5; refine pure_ (i := 0) (N := (some 37)) (v := ?_) (a' := ?_) #[true, false, false, false, false, false, false, false, false, false, false, false, false, false, false, false, false, false, false, false, false, false, false] rfl rfl (by kernel_rfl) (fun _ _ _ h => h) (Or.inl ⟨by rfl, ?_⟩) ?_ ?_; rotate_left
        · intro w'
          go_simp
          with_reducible rfl
        rotate_left
        · simp only [Act.put, List.setIfInBounds_toArray, List.set_cons_zero, List.set_cons_succ, i64_w, i32_w]
          rfl
        refine pure_ (i := 2) (N := (some 39)) (v := ?_) (a' := ?_) #[true, false, true, false, false, false, false, false, false, false, false, false, false, false, false, false, false, false, false, false, false, false, false] rfl rfl (by kernel_rfl) (fun _ _ _ h => h) (Or.inl ⟨by rfl, ?_⟩) ?_ ?_; rotate_left
        · intro w'
          go_simp
          with_reducible rfl
        rotate_left
        · simp only [Act.put, List.setIfInBounds_toArray, List.set_cons_zero, List.set_cons_succ, i64_w, i32_w]
          rfl
        refine pure_ (i := 5) (N := (some 42)) (v := ?_) (a' := ?_) #[true, false, true, false, false, true, false, false, false, false, false, false, false, false, false, false, false, false, false, false, false, false, false] rfl rfl (by kernel_rfl) (fun _ _ _ h => h) (Or.inl ⟨by rfl, ?_⟩) ?_ ?_; rotate_left
        · intro w'
          go_simp
          with_reducible rfl
        rotate_left
        · simp only [Act.put, List.setIfInBounds_toArray, List.set_cons_zero, List.set_cons_succ, i64_w, i32_w]
          rfl
        refine pure_ (i := 8) (N := (some 45)) (v := ?_) (a' := ?_) #[true, false, true, false, false, true, false, false, true, false, false, false, false, false, false, false, false, false, false, false, false, false, false] rfl rfl (by kernel_rfl) (fun _ _ _ h => h) (Or.inl ⟨by rfl, ?_⟩) ?_ ?_; rotate_left
        · intro w'
          go_simp
          with_reducible rfl
        rotate_left
        · simp only [Act.put, List.setIfInBounds_toArray, List.set_cons_zero, List.set_cons_succ, i64_w, i32_w]
          rfl
        refine pure_ (i := 11) (N := (some 48)) (v := ?_) (a' := ?_) #[true, false, true, false, false, true, false, false, true, false, false, true, false, false, false, false, false, false, false, false, false, false, false] rfl rfl (by kernel_rfl) (fun _ _ _ h => h) (Or.inl ⟨by rfl, ?_⟩) ?_ ?_; rotate_left
        · intro w'
          go_simp
          with_reducible rfl
        rotate_left
        · simp only [Act.put, List.setIfInBounds_toArray, List.set_cons_zero, List.set_cons_succ, i64_w, i32_w]
          rfl
        refine pure_ (i := 14) (N := (some 51)) (v := ?_) (a' := ?_) #[true, false, true, false, false, true, false, false, true, false, false, true, false, false, true, false, false, false, false, false, false, false, false] rfl rfl (by kernel_rfl) (fun _ _ _ h => h) (Or.inl ⟨by rfl, ?_⟩) ?_ ?_; rotate_left
        · intro w'
          go_simp
          with_reducible rfl
        rotate_left
        · simp only [Act.put, List.setIfInBounds_toArray, List.set_cons_zero, List.set_cons_succ, i64_w, i32_w]
          rfl
        refine pure_ (i := 3) (N := (some 40)) (v := ?_) (a' := ?_) #[true, false, true, true, false, true, false, false, true, false, false, true, false, false, true, false, false, false, false, false, false, false, false] rfl rfl (by kernel_rfl) (fun _ _ _ h => h) (Or.inl ⟨by rfl, ?_⟩) ?_ ?_; rotate_left
        · intro w'
          go_simp
          with_reducible rfl
        rotate_left
        · simp only [Act.put, List.setIfInBounds_toArray, List.set_cons_zero, List.set_cons_succ, i64_w, i32_w]
          rfl
        refine pure_ (i := 6) (N := (some 43)) (v := ?_) (a' := ?_) #[true, false, true, true, false, true, true, false, true, false, false, true, false, false, true, false, false, false, false, false, false, false, false] rfl rfl (by kernel_rfl) (fun _ _ _ h => h) (Or.inl ⟨by rfl, ?_⟩) ?_ ?_; rotate_left
        · intro w'
          go_simp
          with_reducible rfl
        rotate_left
        · simp only [Act.put, List.setIfInBounds_toArray, List.set_cons_zero, List.set_cons_succ, i64_w, i32_w]
          rfl
        refine pure_ (i := 9) (N := (some 46)) (v := ?_) (a' := ?_) #[true, false, true, true, false, true, true, false, true, true, false, true, false, false, true, false, false, false, false, false, false, false, false] rfl rfl (by kernel_rfl) (fun _ _ _ h => h) (Or.inl ⟨by rfl, ?_⟩) ?_ ?_; rotate_left
        · intro w'
          go_simp
          with_reducible rfl
        rotate_left
        · simp only [Act.put, List.setIfInBounds_toArray, List.set_cons_zero, List.set_cons_succ, i64_w, i32_w]
          rfl
        refine pure_ (i := 12) (N := (some 49)) (v := ?_) (a' := ?_) #[true, false, true, true, false, true, true, false, true, true, false, true, true, false, true, false, false, false, false, false, false, false, false] rfl rfl (by kernel_rfl) (fun _ _ _ h => h) (Or.inl ⟨by rfl, ?_⟩) ?_ ?_; rotate_left
        · intro w'
          go_simp
          with_reducible rfl
        rotate_left
        · simp only [Act.put, List.setIfInBounds_toArray, List.set_cons_zero, List.set_cons_succ, i64_w, i32_w]
          rfl
        refine pure_ (i := 15) (N := (some 52)) (v := ?_) (a' := ?_) #[true, false, true, true, false, true, true, false, true, true, false, true, true, false, true, true, false, false, false, false, false, false, false] rfl rfl (by kernel_rfl) (fun _ _ _ h => h) (Or.inl ⟨by rfl, ?_⟩) ?_ ?_; rotate_left
        · intro w'
          go_simp
          with_reducible rfl
        rotate_left
        · simp only [Act.put, List.setIfInBounds_toArray, List.set_cons_zero, List.set_cons_succ, i64_w, i32_w]
          rfl
        refine take_ (i := 1) (N := (some 38)) (v := ?_) (a' := ?_) #[true, true, true, true, false, true, true, false, true, true, false, true, true, false, true, true, false, false, false, false, false, false, false] rfl rfl (by kernel_rfl) (fun _ _ _ h => h) (Or.inl ⟨by rfl, ?_⟩) hHeld ?_ ?_; rotate_left
        · rintro w' ⟨s0, s1, s2, s3, s4, s5⟩
          go_simp
          with_reducible rfl
        rotate_left
        · simp only [Act.put, List.setIfInBounds_toArray, List.set_cons_zero, List.set_cons_succ, i64_w, i32_w]
          rfl
        refine take_ (i := 4) (N := (some 41)) (v := ?_) (a' := ?_) #[true, true, true, true, true, true, true, false, true, true, false, true, true, false, true, true, false, false, false, false, false, false, false] rfl rfl (by kernel_rfl) (fun _ _ _ h => h) (Or.inl ⟨by rfl, ?_⟩) hHeld ?_ ?_; rotate_left
        · rintro w' ⟨s0, s1, s2, s3, s4, s5⟩
          go_simp
          with_reducible rfl
        rotate_left
        · simp only [Act.put, List.setIfInBounds_toArray, List.set_cons_zero, List.set_cons_succ, i64_w, i32_w]
          rfl
        refine take_ (i := 7) (N := (some 44)) (v := ?_) (a' := ?_) #[true, true, true, true, true, true, true, true, true, true, false, true, true, false, true, true, false, false, false, false, false, false, false] rfl rfl (by kernel_rfl) (fun _ _ _ h => h) (Or.inl ⟨by rfl, ?_⟩) hHeld ?_ ?_; rotate_left
        · rintro w' ⟨s0, s1, s2, s3, s4, s5⟩
          go_simp
          with_reducible rfl
        rotate_left
        · simp only [Act.put, List.setIfInBounds_toArray, List.set_cons_zero, List.set_cons_succ, i64_w, i32_w]
          rfl
        refine take_ (i := 10) (N := (some 47)) (v := ?_) (a' := ?_) #[true, true, true, true, true, true, true, true, true, true, true, true, true, false, true, true, false, false, false, false, false, false, false] rfl rfl (by kernel_rfl) (fun _ _ _ h => h) (Or.inl ⟨by rfl, ?_⟩) hHeld ?_ ?_; rotate_left
        · rintro w' ⟨s0, s1, s2, s3, s4, s5⟩
          go_simp
          with_reducible rfl
        rotate_left
        · simp only [Act.put, List.setIfInBounds_toArray, List.set_cons_zero, List.set_cons_succ, i64_w, i32_w]
          rfl
        refine take_ (i := 13) (N := (some 50)) (v := ?_) (a' := ?_) #[true, true, true, true, true, true, true, true, true, true, true, true, true, true, true, true, false, false, false, false, false, false, false] rfl rfl (by kernel_rfl) (fun _ _ _ h => h) (Or.inl ⟨by rfl, ?_⟩) hHeld ?_ ?_; rotate_left
        · rintro w' ⟨s0, s1, s2, s3, s4, s5⟩
          go_simp
          with_reducible rfl
        rotate_left
        · simp only [Act.put, List.setIfInBounds_toArray, List.set_cons_zero, List.set_cons_succ, i64_w, i32_w]
          rfl
        refine take_ (i := 16) (N := (some 53)) (v := ?_) (a' := ?_) #[true, true, true, true, true, true, true, true, true, true, true, true, true, true, true, true, true, false, false, false, false, false, false] rfl rfl (by kernel_rfl) (fun _ _ _ h => h) (Or.inl ⟨by rfl, ?_⟩) hHeld ?_ ?_; rotate_left
        · rintro w' ⟨s0, s1, s2, s3, s4, s5⟩
          go_simp
          with_reducible rfl
        rotate_left
        · simp only [Act.put, List.setIfInBounds_toArray, List.set_cons_zero, List.set_cons_succ, i64_w, i32_w]
          rfl
        refine pure_ (i := 17) (N := (some 54)) (v := ?_) (a' := ?_) #[true, true, true, true, true, true, true, true, true, true, true, true, true, true, true, true, true, true, false, false, false, false, false] rfl rfl (by kernel_rfl) (fun _ _ _ h => h) (Or.inl ⟨by rfl, ?_⟩) ?_ ?_; rotate_left
        · intro w'
          go_simp
          with_reducible rfl
        rotate_left
        · simp only [Act.put, List.setIfInBounds_toArray, List.set_cons_zero, List.set_cons_succ, i64_w, i32_w]
          rfl
        refine pure_ (i := 18) (N := (some 55)) (v := ?_) (a' := ?_) #[true, true, true, true, true, true, true, true, true, true, true, true, true, true, true, true, true, true, true, false, false, false, false] rfl rfl (by kernel_rfl) (fun _ _ _ h => h) (Or.inl ⟨by rfl, ?_⟩) ?_ ?_; rotate_left
        · intro w'
          go_simp
          with_reducible rfl
        rotate_left
        · simp only [Act.put, List.setIfInBounds_toArray, List.set_cons_zero, List.set_cons_succ, i64_w, i32_w]
          rfl
        refine one_ (i := 19) (N := some 56) #[true, true, true, true, true, true, true, true, true, true, true, true, true, true, true, true, true, true, true, true, false, false, false] rfl rfl (by kernel_rfl) (by decide) (fun K hK => ?_); refine value_ (v := .slice (some ⟨wd.heap.size, 0, none⟩) 1 1) (w1 := wd.alloc (.cells #[.int .i64 n0, .int .i64 n1, .int .i64 n2, .int .i64 n3, .int .i64 n4] 66)) (by rfl) rfl ?_ ?_
        · go_simp
        refine hK.out _ _ ⟨(World.cell?_alloc_old _ _ _ (Nat.ne_of_lt (World.block_lt_of_cell? _ _ hHeld.1))).trans hHeld.1, (World.cell?_alloc_old _ _ _ (Nat.ne_of_lt (World.block_lt_of_cell? _ _ hHeld.2.1))).trans hHeld.2.1, (World.cell?_alloc_old _ _ _ (Nat.ne_of_lt (World.block_lt_of_cell? _ _ hHeld.2.2.1))).trans hHeld.2.2.1, (World.cell?_alloc_old _ _ _ (Nat.ne_of_lt (World.block_lt_of_cell? _ _ hHeld.2.2.2.1))).trans hHeld.2.2.2.1, (World.cell?_alloc_old _ _ _ (Nat.ne_of_lt (World.block_lt_of_cell? _ _ hHeld.2.2.2.2.1))).trans hHeld.2.2.2.2.1, (World.cell?_alloc_old _ _ _ (Nat.ne_of_lt (World.block_lt_of_cell? _ _ hHeld.2.2.2.2.2))).trans hHeld.2.2.2.2.2⟩ (fun hHeldA => ?_); clear hK K; refine norm_ (a' := ?_) ?_ ?_; rotate_left
        · show Act.put _ (some 56) _ = _
          simp only [Act.put, List.setIfInBounds_toArray, List.set_cons_zero, List.set_cons_succ, i64_w, i32_w]
          rfl
        refine last_ (i := 20) (N := some 57) #[true, true, true, true, true, true, true, true, true, true, true, true, true, true, true, true, true, true, true, true, true, false, false] rfl rfl (by kernel_rfl) (by decide) (fun K hK => ?_); refine Kd.R_append_step k66 (w0 := wd) (w2.heap.size + 1) (by rfl) (.tmp 38) (.tmp 56) 58 66 (.agg #[.int .i64 0, .int .i64 0, .int .i64 0, .int .i64 0, .int .i64 0]) 40 rfl Tryz.underlying58 info66 rfl (by decide) (by omega) (.slice A1o st.length c1o) st (mkPart [n0, n1, n2, n3, n4]) [.int .i64 n0, .int .i64 n1, .int .i64 n2, .int .i64 n3, .int .i64 n4] (fun _ => True) (fun _ => False) rfl rfl ?aP (fun _ hk => hk.elim) (fun _ _ => trivial) HRD.out (Below.refl _ _) (by omega) (by have := str_len HA.out.1; have := HTM.out.2; rw [List.length_take] at *; omega) ?_
        case aP => exact k66_mkM _ _ _ _
        intro vA wA ho hbA hgA hatA; obtain ⟨AA, cA, eA⟩ := Kd.R_slice ho; subst eA; have HBKA : wA.heap[w2.heap.size]? = some (.cells #[.slice A0 sp.length cs0, .slice A1o st.length c1o] 60 (0, 0)) := (hbA.block _ (by omega)).trans HBKD.out; have z1 : wA.cell? ⟨w2.heap.size, 1, none⟩ = some (.slice A1o st.length c1o) := (blk_cell HBKA 1).trans rfl; have zf : wA.frozen? ⟨w2.heap.size, 1, none⟩ = false := blk_frozen HBKA 1; have HBKA' := Aside0.mk HBKA; clear HBKA; refine hK.out _ _ ?_; clear hK K; refine norm_ (a' := ?_) ?_ ?_; rotate_left
        · show Act.put _ (some 57) _ = _
          simp only [Act.put, List.setIfInBounds_toArray, List.set_cons_zero, List.set_cons_succ, i64_w, i32_w]
          rfl
        refine pure_ (i := 21) (N := some 58) (v := ?_) (a' := ?_) #[true, true, true, true, true, true, true, true, true, true, true, true, true, true, true, true, true, true, true, true, true, true, false] rfl rfl (by kernel_rfl) (fun _ _ _ h => h) (Or.inl ⟨by rfl, ?_⟩) ?_ ?_; rotate_left
        · intro w'
          go_simp
          with_reducible rfl
        rotate_left
        · simp only [Act.put, List.setIfInBounds_toArray, List.set_cons_zero, List.set_cons_succ, i64_w, i32_w]
          rfl
        refine last_ (i := 22) (N := none) #[true, true, true, true, true, true, true, true, true, true, true, true, true, true, true, true, true, true, true, true, true, true, true] rfl rfl (by kernel_rfl) (by decide) (fun K hK => ?_); refine skip_ (w1 := wA.setCell ⟨w2.heap.size, 1, none⟩ (.slice AA (st ++ [mkPart [n0, n1, n2, n3, n4]]).length cA)) (by rfl) rfl ?_ ?_
        · go_simp
        refine hK.out _ _ ?_; clear hK K; refine done_ (by kernel_rfl) ?_; go_wp2
        go_roundg k2
        case measure => omega
        case rel => exact ⟨j + 1, st ++ [mkPart [n0, n1, n2, n3, n4]], _, (by rw [IntWalk.wrap64_in _ (by have := HTM.out.2; have := HJ.out; omega), Int.natCast_add, Int.natCast_one]), ⟨by have := HJ.out; omega⟩, ⟨by rw [List.take_add_one, HX.out]; show strF (tl.take j ++ [x]) = _; rw [str_snoc x _ _ HA.out.1, HNS.out]; rfl, R_set ho (by simp) _⟩, ⟨(HB2D.out.trans (hbA.mono (by omega))).setCell (Nat.le_refl _) _, by have := blk_set HBKA'.out 1 (.slice AA (st ++ [mkPart [n0, n1, n2, n3, n4]]).length cA); simpa using this⟩⟩
end Go.Proofs.YtdmdahafiiggiabGreatDoor.K
end
section
namespace Go.Proofs.YtdmdahafiiggiabGreatDoor.K
open Go.RowKit Go.Proofs.YtdmdahafiiggiabGreatDoorW.PrintWords Go.Proofs.YtdmdahafiiggiabGreatDoorW.PrintLast Go.Proofs.YtdmdahafiiggiabGreatDoorW.PrintMore
theorem catch_idle (p : Addr) (w : World) :
    CallsD Tryz.prog 116 #[.pointer (some p)] .returning w fun e u' w' => e = .returned (.tuple #[]) ∧ u' = .returning ∧ w' = w := by
  refine callsD_of_wpS Tryz.func116 rfl fun c₀ cs hu => ?_; apply wpS_seq; apply wpS_region; simp [wpOpsS, go_sem, recoverD, hu, Tryz.ntmps116, Exit.thenS, Array.replicate_succ, Array.replicate_zero]; refine wpS_of_wp ?_; go_wp2
  cases c₀
  simp_all [bodyPostS, results, Tryz.results116]
theorem tas1 (v : Value) (W : World) : (Instr.typeAssert (.iface 155 (.agg #[v])) 20 155 true).run Tryz.prog W = .ok (.tuple #[.agg #[v], .bool true]) W := by kernel_rfl
theorem tas2 (v : Value) (W : World) : (Instr.typeAssert (.iface 157 (.agg #[v])) 20 155 true).run Tryz.prog W = .ok (.tuple #[.agg #[.int .i64 0], .bool false]) W := by kernel_rfl
theorem tas3 (v : Value) (W : World) : (Instr.typeAssert (.iface 157 (.agg #[v])) 20 157 true).run Tryz.prog W = .ok (.tuple #[.agg #[v], .bool true]) W := by kernel_rfl
theorem grown_alloc_set (w : World) (o : Obj) (p : Addr) (v : Value) : w.grownBy ((w.alloc o).setCell p v) (some p.block) :=
  ⟨rfl, rfl, rfl, by simp, fun i hi hne => (Below.heap_setCell _ p v i (fun e => hne (by rw [e]))).trans (Below.heap_alloc w o i hi)⟩
theorem grown_set (w : World) (p : Addr) (v : Value) : w.grownBy (w.setCell p v) (some p.block) :=
  ⟨rfl, rfl, rfl, by simp, fun i hi hne => Below.heap_setCell _ p v i (fun e => hne (by rw [e]))⟩
theorem cell_alloc_set (w : World) (o : Obj) (p : Addr) (v : Value) {u : Value} (hb : p.block < w.heap.size) (hc : w.cell? p = some u) : ((w.alloc o).setCell p v).cell? p = some v :=
  World.cell?_setCell_same' _ _ _ (by rw [World.cell?_alloc_lt w o p hb, hc]; rfl)
set_option maxRecDepth 100000 in
theorem catch_rate (p : Addr) (x : Int) (u : Int) (w : World) (hc : w.cell? p = some (.int .i64 x)) (hz : w.frozen? p = false) (hb : p.block < w.heap.size) :
    CallsD Tryz.prog 116 #[.pointer (some p)] (.panicking [{ v := .iface 155 (.agg #[.int .i64 u]), recovered := false }]) w fun e u' w' =>
      e = .returned (.tuple #[]) ∧ u' = .panicking [{ v := .iface 155 (.agg #[.int .i64 u]), recovered := true }] ∧ w.grownBy w' (some p.block) ∧ w'.cell? p = some (.int .i64 7) := by
  refine callsD_of_wpS Tryz.func116 rfl fun c₀ cs hu => ?_; have h1 := tas1; have hu1 := Tryz.underlying155; have hne : ¬ p.block = w.heap.size := by omega
  have hz' : ∀ o, (w.alloc o).frozen? p = false := fun o => (World.frozen?_alloc_old w o p hne).trans hz; apply wpS_seq; apply wpS_region; simp [wpOpsS, go_sem, recoverD, hu, Tryz.ntmps116, Exit.thenS, Array.replicate_succ, Array.replicate_zero]; refine wpS_of_wp ?_; go_wp2; exact ⟨rfl, _, rfl, _, results_none rfl _ _ _, rfl, rfl, grown_alloc_set _ _ _ _, cell_alloc_set _ _ _ _ hb hc⟩
set_option maxRecDepth 100000 in
theorem catch_text (p : Addr) (x : Int) (u : ByteArray) (w : World) (hc : w.cell? p = some (.int .i64 x)) (hz : w.frozen? p = false) (hb : p.block < w.heap.size) :
    CallsD Tryz.prog 116 #[.pointer (some p)] (.panicking [{ v := .iface 157 (.agg #[.string u]), recovered := false }]) w fun e u' w' =>
      e = .returned (.tuple #[]) ∧ u' = .panicking [{ v := .iface 157 (.agg #[.string u]), recovered := true }] ∧ w.grownBy w' (some p.block) ∧ w'.cell? p = some (.int .i64 4) := by
  refine callsD_of_wpS Tryz.func116 rfl fun c₀ cs hu => ?_; have h2 := tas2; have h3 := tas3; have hu1 := Tryz.underlying157; have hne : ¬ p.block = w.heap.size := by omega
  have hz' : ∀ o, (w.alloc o).frozen? p = false := fun o => (World.frozen?_alloc_old w o p hne).trans hz; apply wpS_seq; apply wpS_region; simp [wpOpsS, go_sem, recoverD, hu, Tryz.ntmps116, Exit.thenS, Array.replicate_succ, Array.replicate_zero]; refine wpS_of_wp ?_; go_wp2; exact ⟨rfl, _, rfl, _, results_none rfl _ _ _, rfl, rfl, grown_alloc_set _ _ _ _, cell_alloc_set _ _ _ _ hb hc⟩
theorem attempt_any (g B : Nat) (lb : Array Value) (w : World) (hBn : B ≠ w.heap.size) (Ro Rr Rt : World → Prop) (eg : ∀ args w, (callFunc g args).run Tryz.prog w = .ok (.enter g args) w)
    (hdo : Calls Tryz.prog g lb (w.alloc (.cells #[.int .i64 0] 30)) fun e w' => (w.alloc (.cells #[.int .i64 0] 30)).grownBy w' (some B) ∧
      ((e = .returned (.tuple #[]) ∧ Ro w') ∨ (∃ u, e = .panicked [{ v := .iface 155 (.agg #[.int .i64 u]), recovered := false }] ∧ Rr w') ∨ (∃ u, e = .panicked [{ v := .iface 157 (.agg #[.string u]), recovered := false }] ∧ Rt w'))) :
    Calls Tryz.prog 81 #[.func (.func g) #[] lb] w fun e w' => ∃ (w1 : World) (n : Int), e = .returned (.int .i64 n) ∧ (w.alloc (.cells #[.int .i64 0] 30)).grownBy w1 (some B) ∧ w1.grownBy w' (some w.heap.size) ∧
      ((n = 0 ∧ Ro w1) ∨ (n = 7 ∧ Rr w1) ∨ (n = 4 ∧ Rt w1)) := by
  have hmf : ∀ (fn : Fn) (first cap : Array Value) (w : World), (Instr.makeFunc fn first cap).run Tryz.prog w = .ok (.func fn first cap) w := fun _ _ _ _ => rfl
  go_enter_defers Tryz.func81, Tryz.ntmps81
  go_wp2_with fail
  refine hdo.mono ?_; rintro e w1 ⟨hB, h⟩; have hlt : w.heap.size < w1.heap.size := by have := hB.size; simp at this; omega
  have hc : w1.cell? ⟨w.heap.size, 0, none⟩ = some (.int .i64 0) := (hB.cell_far ⟨w.heap.size, 0, none⟩ (by simp) (by simpa using Ne.symm hBn)).trans (by simp); have hz : w1.frozen? ⟨w.heap.size, 0, none⟩ = false := (hB.frozen_far ⟨w.heap.size, 0, none⟩ (by simp) (by simpa using Ne.symm hBn)).trans (by simp)
  rcases h with ⟨rfl, ho⟩ | ⟨u, rfl, hr⟩ | ⟨u, rfl, ht⟩
  · go_wp2; refine leaves_cons (f := 116) (args := #[.pointer (some ⟨w.heap.size, 0, none⟩)]) (by simp) (by simp [go_sem]) ?_; refine (catch_idle ⟨w.heap.size, 0, none⟩ _).mono ?_; rintro e u' w'' ⟨rfl, rfl, rfl⟩; have hs : (w1.setCell ⟨w.heap.size, 0, none⟩ (.int .i64 0)).cell? ⟨w.heap.size, 0, none⟩ = some (.int .i64 0) := World.cell?_setCell_same' _ _ _ (by rw [hc]; rfl); exact ⟨.int .i64 0, by simp [results, Tryz.results81, go_sem, hs], w1, 0, rfl, hB, grown_set _ _ _, .inl ⟨rfl, ho⟩⟩
  · go_wp2; refine leaves_cons (f := 116) (args := #[.pointer (some ⟨w.heap.size, 0, none⟩)]) (by simp) (by simp [go_sem]) ?_; refine (catch_rate ⟨w.heap.size, 0, none⟩ 0 u _ hc hz hlt).mono ?_; rintro e u' w'' ⟨rfl, rfl, hg, hs⟩; exact ⟨.int .i64 7, by simp [results, Tryz.results81, go_sem, hs], w1, 7, rfl, hB, hg, .inr (.inl ⟨rfl, hr⟩)⟩
  · go_wp2; refine leaves_cons (f := 116) (args := #[.pointer (some ⟨w.heap.size, 0, none⟩)]) (by simp) (by simp [go_sem]) ?_; refine (catch_text ⟨w.heap.size, 0, none⟩ 0 u _ hc hz hlt).mono ?_; rintro e u' w'' ⟨rfl, rfl, hg, hs⟩; exact ⟨.int .i64 4, by simp [results, Tryz.results81, go_sem, hs], w1, 4, rfl, hB, hg, .inr (.inr ⟨rfl, ht⟩)⟩
end Go.Proofs.YtdmdahafiiggiabGreatDoor.K
end
section
namespace Go.Proofs.YtdmdahafiiggiabGreatDoor.K
open Go.RowKit Go.Proofs.YtdmdahafiiggiabGreatDoorW.PrintWords Go.Proofs.YtdmdahafiiggiabGreatDoorW.PrintLast Go.Proofs.YtdmdahafiiggiabGreatDoorW.PrintMore
abbrev kSt := k66
def LineAt (s : ByteArray) (base B : Nat) (w' : World) : Prop := ∃ sp st A0 c0 A1 c1, parsedF s = some (sp, st) ∧ w'.heap[B]? = some (.cells #[.slice A0 (List.length sp) c0, .slice A1 (List.length st) c1] 60 (0, 0)) ∧ Kd.R (Kd.int .i64) 3 w' base (fun _ => True) (.slice A0 sp.length c0) sp ∧ Kd.R kSt 66 w' base (fun _ => True) (.slice A1 st.length c1) st
theorem grown_set2R {w w1 : World} {B : Nat} (h : w.grownBy w1 (some B)) (v u : Value) : w.grownBy ((w1.setCell ⟨B, 0, none⟩ v).setCell ⟨B, 1, none⟩ u) (some B) :=
  ⟨h.os, h.tape, h.output, by simpa using h.size, fun k hk hne => ((Below.heap_setCell _ _ _ k (fun e => hne (by rw [e]))).trans (Below.heap_setCell _ _ _ k (fun e => hne (by rw [e])))).trans (h.block k hk hne)⟩
theorem grown_of_below' {w w' : World} {row : Option Nat} (h : Below w.heap.size w w') : w.grownBy w' row := ⟨h.os, h.tape, h.output, h.size, fun k hk _ => h.block k hk⟩
set_option maxRecDepth 100000 in
theorem Read1_any (s : ByteArray) (SB B : Nat) (W : World) (hs : s.size ≤ 300) (hq : TabW W ∨ ∀ y ∈ partsF s 10, ∀ x ∈ partsF y 32, valF x x.size < 100) (hc : W.cell? ⟨SB, 0, none⟩ = some (.string s)) (hB : W.heap[B]? = some (.cells #[.slice none 0 0, .slice none 0 0] 60 (0, 0))) :
    Calls Tryz.prog 82 #[.pointer (some ⟨SB, 0, none⟩), .pointer (some ⟨B, 0, none⟩)] W fun e w' => W.grownBy w' (some B) ∧
      ((e = .returned (.tuple #[]) ∧ LineAt s W.heap.size B w') ∨ (parsedF s = none ∧ gaveUp e)) := by
  have hu1 := Tryz.underlying60; have CP := Aside0.mk (parsed_any s W hs hq); have HB := Aside0.mk hB; clear hB hq
  go_enter Tryz.func82, Tryz.ntmps82
  go_wp2_with fail
  refine CP.out.mono ?_; rintro e w1 ⟨hb, ⟨hn, why, rfl⟩ | ⟨sp, st, A0, c0, A1, c1, hp, rfl, hR0, hR1⟩⟩
  · go_wp2; exact ⟨rfl, grown_of_below' hb, .inr ⟨hn, _, rfl⟩⟩
  · have HB1 := Aside0.mk (blk_below HB.out hb); have y0 : w1.cell? ⟨B, 0, none⟩ = some (.slice none 0 0) := (blk_cell HB1.out 0).trans rfl; have y1 : w1.cell? ⟨B, 1, none⟩ = some (.slice none 0 0) := (blk_cell HB1.out 1).trans rfl; have f0 : w1.frozen? ⟨B, 0, none⟩ = false := blk_frozen HB1.out 0; have f1 : w1.frozen? ⟨B, 1, none⟩ = false := blk_frozen HB1.out 1; have HP := Aside0.mk hp; have H0 := Aside0.mk hR0; have H1 := Aside0.mk hR1; have HBB := Aside0.mk hb; clear hp hR0 hR1 hb; go_wp2; refine bodyPost_end (v := .tuple #[]) (by simp [results, Tryz.results82, go_sem]) rfl ⟨grown_set2R (grown_of_below' HBB.out) _ _, .inl ⟨rfl, sp, st, A0, c0, A1, c1, HP.out, ?_, ?_, ?_⟩⟩
    · have := blk_set (blk_set HB1.out 0 (.slice A0 sp.length c0)) 1 (.slice A1 st.length c1)
      simpa using this
    · exact R_set (R_set H0.out (blk_lt HB.out) _) (blk_lt HB.out) _
    · exact R_set (R_set H1.out (blk_lt HB.out) _) (blk_lt HB.out) _
theorem told_len {line word : ByteArray} {ns : List Int} (h : toldF line word = some ns) : ns.length ≤ line.size := by
  unfold toldF at h
  split at h
  · rw [nums_len h, List.length_drop]; have := parts_many line 32
    omega
  · cases h
theorem parsed_len {s : ByteArray} {sp : List Int} {st : List S66} (h : parsedF s = some (sp, st)) : sp.length ≤ s.size ∧ st.length ≤ s.size := by
  unfold parsedF at h
  split at h
  · rename_i h3
    obtain ⟨sp', h1, h⟩ := Option.bind_eq_some_iff.1 h; obtain ⟨st', h2, h⟩ := Option.bind_eq_some_iff.1 h
    split at h
    · obtain ⟨rfl, rfl⟩ := Prod.mk.inj (Option.some.inj h)
      have hm : rdOf ByteArray.empty (partsF s 10) 0 ∈ partsF s 10 := by
        simp [rdOf, List.getD, List.getElem?_eq_getElem (show 0 < (partsF s 10).length by omega)]
      have := told_len h1; have h4 := parts_size hm; have h5 := str_len h2; have h6 := parts_many s 10; rw [List.length_drop, List.length_take] at h5
      omega
    · cases h
  · cases h
def readF (s : ByteArray) : List Int × List S66 × Int :=
  if 300 < s.size then ([], [], 3) else match parsedF s with
    | none => ([], [], 4)
    | some (sp, st) => if isLineB sp st = true then (sp, st, 0) else ([], [], 2)
def ReadPost (s : ByteArray) (w : World) (e : Ending) (w' : World) : Prop :=
  Below w.heap.size w w' ∧ ∃ A0 c0 A1 c1, e = .returned (.tuple #[.agg #[.slice A0 (readF s).1.length c0, .slice A1 (readF s).2.1.length c1], .int .i64 (readF s).2.2]) ∧ Kd.R (Kd.int .i64) 3 w' w.heap.size (fun _ => True) (.slice A0 (readF s).1.length c0) (readF s).1 ∧ Kd.R kSt 66 w' w.heap.size (fun _ => True) (.slice A1 (readF s).2.1.length c1) (readF s).2.1
theorem ReadPost.no {s : ByteArray} {w w' : World} {e : Ending} (r : Int) (hf : readF s = ([], [], r)) (he : e = .returned (.tuple #[.agg #[.slice none 0 0, .slice none 0 0], .int .i64 r])) (hb : Below w.heap.size w w') : ReadPost s w e w' := by
  unfold ReadPost; rw [hf]; exact ⟨hb, none, 0, none, 0, he, Kd.R_nil _ _ _ _ _, Kd.R_nil _ _ _ _ _⟩
set_option maxRecDepth 100000 in
set_option maxHeartbeats 1000000 in
theorem read_any (s : ByteArray) (w : World) (hq : TabW w ∨ ∀ y ∈ partsF s 10, ∀ x ∈ partsF y 32, valF x x.size < 100) (hs63 : s.size ≤ 9223372036854775807) :
    Calls Tryz.prog 45 #[.string s] w (ReadPost s w) := by
  have hu1 := Tryz.underlying60; have hmf : ∀ (fn : Fn) (first cap : Array Value) (w : World), (Instr.makeFunc fn first cap).run Tryz.prog w = .ok (.func fn first cap) w := fun _ _ _ _ => rfl
  by_cases hs : 300 < s.size
  case pos =>
    have c0 : decide ((300 : Int) < (s.size : Int)) = true := decide_eq_true (by omega); clear hq; have HF : Aside0 (readF s = ([], [], 3)) := ⟨by unfold readF; rw [if_pos hs]⟩; clear hs
    go_enter Tryz.func45, Tryz.ntmps45
    go_wp2; refine bodyPost_ret (v := .tuple #[.agg #[.slice none 0 0, .slice none 0 0], .int .i64 3]) (by simp [results, Tryz.results45, go_sem]) rfl (ReadPost.no 3 HF.out rfl ?_)
    first
      | exact ((((Below.refl _ _).alloc (Nat.le_refl _) _).alloc (by simp) _).setCell (by simp) _).setCell (by simp) _
      | exact (((Below.refl _ _).alloc (Nat.le_refl _) _).alloc (by simp) _)
  case neg =>
  have c0 : decide ((300 : Int) < (s.size : Int)) = false := decide_eq_false (by omega); have HS : Aside0 (s.size ≤ 300) := ⟨by omega⟩; have HQ := Aside0.mk hq; clear hq hs
  
  have CA : Aside0 (∀ W4 : World, Below w.heap.size w W4 → W4.cell? ⟨w.heap.size, 0, none⟩ = some (.string s) → W4.heap[w.heap.size + 1 + 1]? = some (.cells #[.slice none 0 0, .slice none 0 0] 60 (0, 0)) → w.heap.size + 3 = W4.heap.size →
      Calls Tryz.prog 81 #[.func (.func 82) #[] #[.pointer (some ⟨w.heap.size, 0, none⟩), .pointer (some ⟨w.heap.size + 1 + 1, 0, none⟩)]] W4 fun e w' =>
        W4.grownBy w' (some (w.heap.size + 1 + 1)) ∧
        ((e = .returned (.int .i64 0) ∧ LineAt s W4.heap.size (w.heap.size + 1 + 1) w') ∨ (parsedF s = none ∧ e = .returned (.int .i64 4)))) := ⟨by
    intro W4 hB hc hL hsz; have hb5 : Below W4.heap.size W4 (W4.alloc (.cells #[.int .i64 0] 30)) := (Below.refl _ _).alloc (Nat.le_refl _) _; have hdo := Read1_any s w.heap.size (w.heap.size + 1 + 1) (W4.alloc (.cells #[.int .i64 0] 30)) HS.out (HQ.out.imp (fun h => h.below (below_step hB hb5)) id) ((hb5.cell (World.block_lt_of_cell? _ _ hc)).trans hc) (blk_below hL hb5)
    refine (attempt_any 82 (w.heap.size + 1 + 1) _ W4 (by omega) (LineAt s (W4.heap.size + 1) (w.heap.size + 1 + 1)) (fun _ => False) (fun _ => parsedF s = none) (enters_of Tryz.func82 (by kernel_rfl) rfl)
      (hdo.mono fun e w' ⟨hg, h⟩ => ⟨hg, h.elim (fun ⟨ha, hb⟩ => .inl ⟨ha, by rw [World.size_alloc] at hb; exact hb⟩) (fun ⟨ha, why, hb⟩ => .inr (.inr ⟨why, hb, ha⟩))⟩)).mono ?_
    rintro e w' ⟨w1, k, rfl, hg1, hg2, h⟩; have hs1 : W4.heap.size + 1 ≤ w1.heap.size := by have := hg1.size; simpa using this
    have hkeep : ∀ k, k ≠ W4.heap.size → k < w1.heap.size → w'.heap[k]? = w1.heap[k]? := fun k hk hk2 => hg2.block k hk2 (by simpa using hk); refine ⟨⟨hg2.os.trans hg1.os, hg2.tape.trans hg1.tape, hg2.output.trans hg1.output, by have := hg2.size; omega, fun k hk hne => (hkeep k (by omega) (by omega)).trans ((hg1.block k (by simp; omega) hne).trans (Below.heap_alloc _ _ _ hk))⟩, ?_⟩
    rcases h with ⟨rfl, sp, st, A0, c0, A1, c1, h1, h2, h3, h4⟩ | ⟨_, h⟩ | ⟨rfl, h⟩
    · refine .inl ⟨rfl, sp, st, A0, c0, A1, c1, h1, (hkeep _ (by omega) (by omega)).trans h2, ?_, ?_⟩
      · exact Kd.R_lower (Kd.R_mono (Kd.R_step (Kd.R_bound h3) (fun k hk hk2 => hkeep k (by have := hk.2.1; omega) hk2)) (fun _ _ => trivial)) (Nat.le_succ _)
      · exact Kd.R_lower (Kd.R_mono (Kd.R_step (Kd.R_bound h4) (fun k hk hk2 => hkeep k (by have := hk.2.1; omega) hk2)) (fun _ _ => trivial)) (Nat.le_succ _)
    · exact h.elim
    · exact .inr ⟨h, rfl⟩⟩
  go_enter Tryz.func45, Tryz.ntmps45
  go_upto_region 4 with (fail)
  generalize hW0 : World.alloc _ _ = W0; have HB0 : Aside0 (Below w.heap.size w W0 ∧ w.heap.size + 3 = W0.heap.size) := ⟨by rw [← hW0]; exact ⟨(((Below.refl _ _).alloc (Nat.le_refl _) _).alloc (by simp) _).alloc (by simp; omega) _, by simp⟩⟩; have HC0 : Aside0 (W0.cell? ⟨w.heap.size, 0, none⟩ = some (.string s)) := ⟨by rw [← hW0]; simp [go_sem]⟩
  have HL0 : Aside0 (W0.heap[w.heap.size + 1 + 1]? = some (.cells #[.slice none 0 0, .slice none 0 0] 60 (0, 0))) := ⟨by
    rw [← hW0]; have := blk_new ((w.alloc (.cells #[.string s] 9)).alloc (.cells #[.slice none 0 0, .slice none 0 0] 60)) (.cells #[.slice none 0 0, .slice none 0 0] 60)
    rwa [World.size_alloc, World.size_alloc] at this⟩
  have HR0 : Aside0 (W0.heap[w.heap.size + 1]? = some (.cells #[.slice none 0 0, .slice none 0 0] 60 (0, 0))) := ⟨by
    rw [← hW0]; have := blk_new (w.alloc (.cells #[.string s] 9)) (.cells #[.slice none 0 0, .slice none 0 0] 60); rw [World.size_alloc] at this
    exact blk_alloc this _⟩
  clear hW0
  go_wp2_with (fail)
  refine (CA.out W0 HB0.out.1 HC0.out HL0.out HB0.out.2).mono ?_; rintro e w4 ⟨hg, h⟩; have HRB := Aside0.mk (blk_grown HR0.out hg (by simp)); have y0 : w4.cell? ⟨w.heap.size + 1, 0, none⟩ = some (.slice none 0 0) := (blk_cell HRB.out 0).trans rfl; have y1 : w4.cell? ⟨w.heap.size + 1, 1, none⟩ = some (.slice none 0 0) := (blk_cell HRB.out 1).trans rfl; have f0 : w4.frozen? ⟨w.heap.size + 1, 0, none⟩ = false := blk_frozen HRB.out 0; have f1 : w4.frozen? ⟨w.heap.size + 1, 1, none⟩ = false := blk_frozen HRB.out 1; have HB4 : Aside0 (Below w.heap.size w w4 ∧ w.heap.size + 3 ≤ w4.heap.size) := ⟨HB0.out.1.grown hg (by have := HB0.out.2; omega) (by intro k hk; cases hk; omega), by have := HB0.out.2; have := hg.size; omega⟩; clear hg
  rcases h with ⟨rfl, sp, st, A0, cs0, A1, cs1, hp, hL, hR0, hR1⟩ | ⟨hp, rfl⟩
  case inr =>
    have HF : Aside0 (readF s = ([], [], 4)) := ⟨by unfold readF; rw [if_neg (by have := HS.out; omega), hp]⟩; clear hp; go_wp2; refine bodyPost_ret (v := .tuple #[.agg #[.slice none 0 0, .slice none 0 0], .int .i64 4]) (by simp [results, Tryz.results45, go_sem, *]) rfl (ReadPost.no 4 HF.out rfl ?_); exact (HB4.out.1.setCell (by simp) _).setCell (by simp) _
  case inl =>
    have HLB := Aside0.mk hL; have HP := Aside0.mk hp; have HR0' := Aside0.mk hR0; have HR1' := Aside0.mk hR1; have x0 : w4.cell? ⟨w.heap.size + 1 + 1, 0, none⟩ = some (.slice A0 sp.length cs0) := (blk_cell HLB.out 0).trans rfl; have x1 : w4.cell? ⟨w.heap.size + 1 + 1, 1, none⟩ = some (.slice A1 st.length cs1) := (blk_cell HLB.out 1).trans rfl
    have CL : Aside0 (Calls Tryz.prog 69 #[.agg #[.slice A0 sp.length cs0, .slice A1 st.length cs1]] w4 fun e w' => e = .returned (.bool (isLineB sp st)) ∧ Below w4.heap.size w4 w') := ⟨by
      obtain ⟨_, _, e0, hl0, hC0⟩ := Kd.R_reads hR0
      cases e0
      obtain ⟨_, _, e1, hl1, hC1⟩ := Kd.R_reads hR1
      cases e1
      have m0 := (parsed_len hp).1; have m1 := (parsed_len hp).2; have m2 := HS.out
      exact channel_isLine.calls A0 cs0 sp A1 cs1 st _ w4 hC0 hl0 hC1 hl1 (by unfold channel_isLine.f; rw [if_pos ⟨by omega, by omega⟩])⟩
    clear hp hL hR0 hR1
    go_wp2_with (fail)
    refine CL.out.mono ?_; rintro e w5 ⟨rfl, hb5⟩; have HB5 := Aside0.mk hb5; have HRB5 := Aside0.mk (blk_below HRB.out hb5); have HLB5 := Aside0.mk (blk_below HLB.out hb5); clear y0 y1 f0 f1 x0 x1 hb5; have y0 : w5.cell? ⟨w.heap.size + 1, 0, none⟩ = some (.slice none 0 0) := (blk_cell HRB5.out 0).trans rfl; have y1 : w5.cell? ⟨w.heap.size + 1, 1, none⟩ = some (.slice none 0 0) := (blk_cell HRB5.out 1).trans rfl; have f0 : w5.frozen? ⟨w.heap.size + 1, 0, none⟩ = false := blk_frozen HRB5.out 0; have f1 : w5.frozen? ⟨w.heap.size + 1, 1, none⟩ = false := blk_frozen HRB5.out 1; have x0 : w5.cell? ⟨w.heap.size + 1 + 1, 0, none⟩ = some (.slice A0 sp.length cs0) := (blk_cell HLB5.out 0).trans rfl; have x1 : w5.cell? ⟨w.heap.size + 1 + 1, 1, none⟩ = some (.slice A1 st.length cs1) := (blk_cell HLB5.out 1).trans rfl
    cases hl : isLineB sp st with
    | false =>
      have HF : Aside0 (readF s = ([], [], 2)) := ⟨by unfold readF; rw [if_neg (by have := HS.out; omega), HP.out]; show (if isLineB sp st = true then _ else _) = _; rw [hl]; rfl⟩; clear hl; go_wp2; refine bodyPost_ret (v := .tuple #[.agg #[.slice none 0 0, .slice none 0 0], .int .i64 2]) (by simp [results, Tryz.results45, go_sem, *]) rfl (ReadPost.no 2 HF.out rfl ?_); exact ((below_step HB4.out.1 HB5.out).setCell (by simp) _).setCell (by simp) _
    | true =>
      have HF : Aside0 (readF s = (sp, st, 0)) := ⟨by unfold readF; rw [if_neg (by have := HS.out; omega), HP.out]; show (if isLineB sp st = true then _ else _) = _; rw [hl]; rfl⟩; clear hl; go_wp2; refine bodyPost_ret (v := .tuple #[.agg #[.slice A0 sp.length cs0, .slice A1 st.length cs1], .int .i64 0]) (by simp [results, Tryz.results45, go_sem, *]) rfl ?_; have h0 := Kd.R_below HR0'.out HB5.out; have h1 := Kd.R_below HR1'.out HB5.out; have hsz := HB0.out.2; unfold ReadPost; rw [HF.out]; refine ⟨((below_step HB4.out.1 HB5.out).setCell (by simp) _).setCell (by simp) _, A0, cs0, A1, cs1, rfl, ?_, ?_⟩
      · exact Kd.R_lower (R_set (R_set h0 (by simp; omega) _) (by simp; omega) _) (by omega)
      · exact Kd.R_lower (R_set (R_set h1 (by simp; omega) _) (by simp; omega) _) (by omega)
end Go.Proofs.YtdmdahafiiggiabGreatDoor.K
end
section
namespace Go.Proofs.YtdmdahafiiggiabGreatDoor.K
open Go.RowKit Go.Proofs.YtdmdahafiiggiabGreatDoorW.PrintWords Go.Proofs.YtdmdahafiiggiabGreatDoorW.PrintLast Go.Proofs.YtdmdahafiiggiabGreatDoorW.PrintMore
attribute [local simp] clsA
def carF (sp : List Int) (st : List S66) (n age rate : Int) : Option Int := (channel_aging.f sp st n age).bind fun a => channel_aged_cups.f a.1 a.2.1 a.2.2.1 a.2.2.2.1 a.2.2.2.2.1 a.2.2.2.2.2.1 a.2.2.2.2.2.2 rate
def agreeF (sp : List Int) (st : List S66) (n rate : Int) : List S89 → Option Bool
  | [] => some true
  | x :: l => (carF sp st n x.f0 rate).bind fun c => if inB c x.f1.f0 x.f1.f1 = true then agreeF sp st n rate l else some false
def ratesL (sp : List Int) (st : List S66) (n : Int) (notes : List S89) : Nat → Int → Option (List Int)
  | 0, _ => some []
  | k + 1, r => (agreeF sp st n r notes).bind fun b => (ratesL sp st n notes k (r + 1)).bind fun l => some (if b then r :: l else l)
def RatesPost (L : List Int) (n : Int) (w : World) (e : Ending) (w' : World) : Prop :=
  ((L = [] ∧ e = .panicked [{ v := .iface 155 (.agg #[.int .i64 n]), recovered := false }]) ∨ (L ≠ [] ∧ e = .returned (.agg #[.int .i64 (rd L 0), .int .i64 (rd L ((L.length : Int) - 1))]))) ∧ Below w.heap.size w w'
structure RatesW (w : World) (A0_0 A0_1 : Option Addr) (c0_0 c0_1 : Nat) (ns nt : Nat) (W : World) : Prop where
  hb : Below w.heap.size w W
  lt : w.heap.size + 2 ≤ W.heap.size
  sp : W.cell? ⟨w.heap.size, 0, none⟩ = some (.slice A0_0 ns c0_0)
  st : W.cell? ⟨w.heap.size, 1, none⟩ = some (.slice A0_1 nt c0_1)
  o0 : W.cell? ⟨w.heap.size + 1, 0, none⟩ = some (.int .i64 0)
  o1 : W.cell? ⟨w.heap.size + 1, 1, none⟩ = some (.int .i64 0)
  f0 : W.frozen? ⟨w.heap.size + 1, 0, none⟩ = false
  f1 : W.frozen? ⟨w.heap.size + 1, 1, none⟩ = false
theorem RatesW.below {w : World} {A0_0 A0_1 : Option Addr} {c0_0 c0_1 ns nt : Nat} {W W1 : World} (h : RatesW w A0_0 A0_1 c0_0 c0_1 ns nt W) (hb : Below (w.heap.size + 2) W W1) (hs : W.heap.size ≤ W1.heap.size) : RatesW w A0_0 A0_1 c0_0 c0_1 ns nt W1 :=
  ⟨h.hb.trans (hb.mono (by omega)), Nat.le_trans h.lt hs, (hb.cell (p := ⟨w.heap.size, 0, none⟩) (by simp)).trans h.sp, (hb.cell (p := ⟨w.heap.size, 1, none⟩) (by simp)).trans h.st, (hb.cell (p := ⟨w.heap.size + 1, 0, none⟩) (by simp)).trans h.o0, (hb.cell (p := ⟨w.heap.size + 1, 1, none⟩) (by simp)).trans h.o1, (hb.frozen (p := ⟨w.heap.size + 1, 0, none⟩) (by simp)).trans h.f0, (hb.frozen (p := ⟨w.heap.size + 1, 1, none⟩) (by simp)).trans h.f1⟩
theorem RatesW.new (w : World) (A0_0 A0_1 : Option Addr) (c0_0 c0_1 ns nt : Nat) (t1 t2 : TypeId) : RatesW w A0_0 A0_1 c0_0 c0_1 ns nt ((w.alloc (.cells #[.slice A0_0 ns c0_0, .slice A0_1 nt c0_1] t1)).alloc (.cells #[.int .i64 0, .int .i64 0] t2)) :=
  ⟨((Below.refl _ w).alloc (Nat.le_refl _) _).alloc (by simp) _, by simp, by simp [go_sem], by simp [go_sem], by simp [go_sem], by simp [go_sem], by simp [go_sem], by simp [go_sem]⟩
set_option maxRecDepth 100000 in
set_option maxHeartbeats 1000000 in
theorem rates_any (sp : List Int) (st : List S66) (A0_0 A0_1 A2 : Option Addr) (c0_0 c0_1 c2 : Nat) (n : Int) (notes : List S89) (w : World)
    (hr0_0 : Kd.C (Kd.int .i64) w A0_0 sp.length sp) (hc0_0 : sp.length ≤ c0_0) (hr0_1 : Kd.C k66 w A0_1 st.length st) (hc0_1 : st.length ≤ c0_1) (hr2 : Kd.C k89 w A2 notes.length notes) (hc2 : notes.length ≤ c2)
    (hn0 : 0 ≤ n) (hn1 : n < st.length) (hlo : 0 ≤ (rd_T66 st n).f3.f0) (hhi : (rd_T66 st n).f3.f1 < 1000000000) (hnl : notes.length ≤ 1000000) (N : Nat) (L : List Int) (hN : (rd_T66 st n).f3.f0 + N = (rd_T66 st n).f3.f1 + 1) (hL : ratesL sp st n notes N (rd_T66 st n).f3.f0 = some L) :
    Calls Tryz.prog 99 #[.agg #[.slice A0_0 sp.length c0_0, .slice A0_1 st.length c0_1], .int .i64 n, .slice A2 notes.length c2] w (RatesPost L n w) := by
  have hu1 := Tryz.underlying60; have hu2 := Tryz.underlying23; have hu3 := Tryz.underlying66; have hu4 := Tryz.underlying89
  go_enter Tryz.func99, Tryz.ntmps99
  go_wp2; generalize hW0 : (w.alloc (.cells #[.slice A0_0 sp.length c0_0, .slice A0_1 st.length c0_1] 60)).alloc (.cells #[.int .i64 0, .int .i64 0] 23) = W0; have R0 : RatesW w A0_0 A0_1 c0_0 c0_1 sp.length st.length W0 := by rw [← hW0]; exact RatesW.new ..
  clear hW0; obtain ⟨ad1, e1, s0, s1, s2, s3, s4⟩ := at_T66 hr0_1 n hn0 hn1
  cases e1
  generalize hsn : rd_T66 st n = s at s0 s1 s2 s3 s4; have q0 := eq_true hn0; have q1 := eq_true hn1; have g0 := R0.st; have g3 := (R0.hb.cell (World.block_lt_of_cell? w _ s3)).trans s3; have g4 := (R0.hb.cell (World.block_lt_of_cell? w _ s4)).trans s4
  go_step3
  go_wp2
  go_step3
  go_wp2; rw [hsn] at hL hN hhi hlo; have HNL := Aside0.mk hnl; clear hnl; have HLO := Aside0.mk hlo; have HL := Aside0.mk hL; have HHI := Aside0.mk hhi; have HR2 := Aside0.mk hr2; have HR01 := Aside0.mk hr0_1; have HR00 := Aside0.mk hr0_0; clear hL hr2 hr0_0 hr0_1 hhi hlo g0 g3 g4; have RA := Aside0.mk R0; clear R0
  go_loopg [7, 8, 10] N (fun kq v7 v8 v10 w' => ∃ (acc : List Int) (r : Int) (rest : List Int), v8 = .int .i64 r ∧ Aside0 (0 ≤ r) ∧ Aside0 (acc.length + kq ≤ N) ∧ Aside0 (ratesL sp st n notes kq r = some rest) ∧ Aside0 (acc ++ rest = L) ∧ Aside0 (r + kq = s.f3.f1 + 1) ∧ Aside0 (Kd.R (Kd.int .i64) 3 w' (w.heap.size + 2) (fun _ => True) v7 acc) ∧ Aside0 (RatesW w A0_0 (some ad1) c0_0 c0_1 sp.length st.length w'))
  case atStart => exact ⟨[], _, L, rfl, HLO, ⟨by simp⟩, HL, ⟨rfl⟩, ⟨hN⟩, ⟨Kd.R_nil _ _ _ _ _⟩, RA⟩
  case round =>
    clear RA HL; obtain ⟨acc, r, rest, rfl, HR, HC, HL, HE, HK, HO, RA⟩ := hrel; have g0 := RA.out.st; have g3 := (RA.out.hb.cell (World.block_lt_of_cell? w _ s3)).trans s3; have g4 := (RA.out.hb.cell (World.block_lt_of_cell? w _ s4)).trans s4
    cases gk with
    | zero =>
      have c1 : decide (r ≤ s.f3.f1) = false := decide_eq_false (by have := HK.out; omega); have hrest : rest = [] := (Option.some.inj HL.out).symm; have haL : acc = L := by have := HE.out; rw [hrest] at this; simpa using this
      subst haL; have HLN : Aside0 (acc.length ≤ N ∧ (N : Int) ≤ 2000000000) := ⟨by have := HC.out; omega, by have := HHI.out; have := HLO.out; omega⟩; clear HL HE HK HC hrest HR; obtain ⟨Ao, co, eo, hlc, hCa⟩ := Kd.R_reads HO.out; subst eo; have HCA := Aside0.mk hCa; clear hCa HO; have b0 := RA.out.hb; have f0 := RA.out.f0; have f1 := RA.out.f1; have o0 := RA.out.o0; have o1 := RA.out.o1; have HBN := Aside0.mk b0; clear b0
      by_cases hl : acc.length = 0
      · have d1 : decide ((acc.length : Int) = 0) = true := decide_eq_true (by omega); go_wp2; refine ⟨rfl, .inl ⟨List.eq_nil_of_length_eq_zero hl, rfl⟩, ?_⟩; exact HBN.out
      · have d1 : decide ((acc.length : Int) = 0) = false := decide_eq_false (by omega); have l0 : (0 : Int) ≤ 0 := by omega
        have l1 : (0 : Int) < acc.length := by omega
        have m0 : (0 : Int) ≤ (acc.length : Int) - 1 := by omega
        have m1 : (acc.length : Int) - 1 < acc.length := by omega
        obtain ⟨ad, ea, x0⟩ := Kd.at_int HCA.out 0 l0 l1; obtain ⟨ad', ea', x1⟩ := Kd.at_int HCA.out ((acc.length : Int) - 1) m0 m1
        cases ea
        cases ea'
        rw [show ad.add (0 : Int).toNat = ad from by cases ad; simp [Addr.add]] at x0; rw [show ((acc.length : Int) - 1).toNat = acc.length - 1 from by omega] at x1; have hlast : wrap64 ((acc.length : Int) - 1) = (acc.length : Int) - 1 := IntWalk.wrap64_in _ (by have := HLN.out; omega); go_wp2
        go_region
        go_wp2; refine bodyPost_ret (v := .agg #[.int .i64 (rd acc 0), .int .i64 (rd acc ((acc.length : Int) - 1))]) (by simp [results, Tryz.results99, go_sem, *]) rfl ⟨.inr ⟨fun h => hl (by rw [h]; rfl), rfl⟩, ?_⟩; exact below_drew1 (below_set (below_set HBN.out (by simp)) (by simp))
    | succ k1 =>
      have c1 : decide (r ≤ s.f3.f1) = true := decide_eq_true (by have := HK.out; omega); have H := HL.out; simp only [ratesL] at H; obtain ⟨b, hb1, H⟩ := Option.bind_eq_some_iff.mp H; obtain ⟨rest1, hl1, H⟩ := Option.bind_eq_some_iff.mp H; have Hb := Aside0.mk hb1; have Hl := Aside0.mk hl1; have He := Aside0.mk (Option.some.inj H); clear hb1 hl1 H HL; obtain ⟨Ao, co, eo⟩ := Kd.R_slice HO.out; subst eo; go_wp2
      go_loopg [10, 31] notes.length (fun kq v10 v31 w' => ∃ j : Nat, v31 = .int .i64 (j : Int) ∧ Aside0 (j + kq = notes.length) ∧ Aside0 (agreeF sp st n r (notes.drop j) = some b) ∧ Aside0 (Kd.R (Kd.int .i64) 3 w' (w.heap.size + 2) (fun _ => True) (.slice Ao acc.length co) acc) ∧ Aside0 (RatesW w A0_0 (some ad1) c0_0 c0_1 sp.length st.length w'))
      case atStart => exact ⟨0, rfl, ⟨by omega⟩, Hb, HO, RA⟩
      case round =>
        clear RA HO Hb g0 g3 g4; obtain ⟨j, rfl, HJ, Hb, HO, RA⟩ := hrel
        cases gk with
        | zero =>
          have c2 : decide ((j : Int) < (notes.length : Int)) = false := decide_eq_false (by have := HJ.out; omega); have c3 : ¬ (j < notes.length) := by have := HJ.out; omega
          have c4 : decide (j < notes.length) = false := decide_eq_false c3
          have hb : b = true := by
            have h := Hb.out; rw [List.drop_eq_nil_of_le (by have := HJ.out; omega)] at h; exact (Option.some.inj h).symm
          subst hb; have hlen : acc.length < 17592186044416 := by have := HC.out; have := HHI.out; have := HLO.out; omega
          have w1 : wrap64 (r + 1) = r + 1 := IntWalk.wrap64_in _ (by have := HR.out; have := HK.out; have := HHI.out; omega)
          go_wp2_with (first | ((with_reducible refine gate_builtin (b := .append) (xs := #[.tmp 51, .tmp 53]) rfl ?_); (try (refine gate_guard (by rfl) ?_; dsimp only)); at_builtin; refine Kd.R_append (Kd.int .i64) (w0 := wr) (w.heap.size + 2) rfl (.tmp 51) (.tmp 53) 25 3 (.int .i64 0) 8 rfl Tryz.underlying25 info3 rfl (by decide) (by omega) (.slice Ao acc.length co) acc r [.int .i64 r] (fun _ => True) (fun _ => False) rfl rfl ?aP (fun _ hk => hk.elim) ?aF ?aO ?aB ?aS ?aL ?_; (case aP => exact rfl); (case aB => exact Below.refl _ _); (case aF => exact (fun _ _ => trivial)); (case aO => exact HO.out); (case aS => exact RA.out.lt); (case aL => omega); intro vA wA ho hb hg hat; have RB := RA.out.below hb hb.size; clear hb hg hat RA))
          go_roundg k1
          case measure => omega
          case rel => exact ⟨acc ++ [r], r + 1, rest1, (by first | rfl | rw [w1]), ⟨by have := HR.out; omega⟩, ⟨by have := HC.out; simp; omega⟩, Hl, ⟨by have h1 := He.out; have h3 := HE.out; simp at h1; rw [← h3, ← h1]; simp⟩, ⟨by have := HK.out; omega⟩, ⟨ho⟩, ⟨RB⟩⟩
        | succ k2 =>
          have c2 : decide ((j : Int) < (notes.length : Int)) = true := decide_eq_true (by have := HJ.out; omega); have p1 : (0 : Int) ≤ (j : Int) := by omega
          have p2 : (j : Int) < (notes.length : Int) := by have := HJ.out; omega
          obtain ⟨ad, ea, x0, x1, x2⟩ := at_T89 HR2.out j p1 p2
          cases ea
          generalize hxn : rd_T89 notes j = x at x0 x1 x2; rw [Int.toNat_natCast] at x0 x1 x2; replace x0 := (RA.out.hb.cell (World.block_lt_of_cell? w _ x0)).trans x0; replace x1 := (RA.out.hb.cell (World.block_lt_of_cell? w _ x1)).trans x1; replace x2 := (RA.out.hb.cell (World.block_lt_of_cell? w _ x2)).trans x2; replace p1 := eq_true p1; replace p2 := eq_true p2; have hag := Hb.out; have hjl : j < notes.length := by have := HJ.out; omega
          rw [List.drop_eq_getElem_cons hjl, show notes[j] = x from by rw [← hxn]; simp [rd_T89, List.getD, List.getElem?_eq_getElem hjl]] at hag; simp only [agreeF] at hag; obtain ⟨c, hc, hag⟩ := Option.bind_eq_some_iff.mp hag; obtain ⟨⟨a0, a1, a2, a3, a4, a5, a6⟩, ha, hcu⟩ := Option.bind_eq_some_iff.mp hc
          dsimp only at hcu
          have HA := Aside0.mk ha; have HCU := Aside0.mk hcu; have HAG := Aside0.mk hag; clear ha hcu hag hc Hb; go_wp2; generalize hW1 : World.alloc _ _ = W1; have b1 : Below (w.heap.size + 2) wr W1 := hW1 ▸ (Below.refl _ _).alloc RA.out.lt _; have hsz : wr.heap.size ≤ W1.heap.size := by rw [← hW1]; simp
          have y0 : W1.cell? ⟨wr.heap.size, 0, none⟩ = some (.int .i64 x.f0) := by rw [← hW1]; simp [go_sem]
          have y1 : W1.cell? ⟨wr.heap.size, 1, none⟩ = some (.int .i64 x.f1.f0) := by rw [← hW1]; simp [go_sem]
          have y2 : W1.cell? ⟨wr.heap.size, 2, none⟩ = some (.int .i64 x.f1.f1) := by rw [← hW1]; simp [go_sem]
          have RB := RA.out.below b1 hsz; have HO1 : Aside0 (Kd.R (Kd.int .i64) 3 W1 (w.heap.size + 2) (fun _ => True) (.slice Ao acc.length co) acc) := ⟨by rw [← hW1]; exact Kd.R_alloc HO.out _⟩; clear hW1 x0 x1 x2 b1 RA HO; have z0 := fun X : After W1 => X.cell RB.sp; have z1 := fun X : After W1 => X.cell RB.st; replace y0 := fun X : After W1 => X.cell y0; replace y1 := fun X : After W1 => X.cell y1; replace y2 := fun X : After W1 => X.cell y2
          have hCA : Aside0 (∀ X : After W1, Calls Tryz.prog 72 #[.agg #[.slice A0_0 sp.length c0_0, .slice (some ad1) st.length c0_1], .int .i64 n, .int .i64 x.f0] X.W fun e w' => e = .returned (.agg #[.int .i64 a0, .int .i64 a1, .int .i64 a2, .int .i64 a3, .int .i64 a4, .int .i64 a5, .int .i64 a6]) ∧ Below X.W.heap.size X.W w') :=
            ⟨fun X => channel_aging.calls A0_0 c0_0 sp (some ad1) c0_1 st n x.f0 a0 a1 a2 a3 a4 a5 a6 X.W (Kd.C_below HR00.out (RB.hb.trans (X.hb.mono RB.hb.size))) hc0_0 (Kd.C_below HR01.out (RB.hb.trans (X.hb.mono RB.hb.size))) hc0_1 HA.out⟩
          have hCC : Aside0 (∀ W : World, Calls Tryz.prog 121 #[.agg #[.int .i64 a0, .int .i64 a1, .int .i64 a2, .int .i64 a3, .int .i64 a4, .int .i64 a5, .int .i64 a6], .int .i64 r] W fun e w' => e = .returned (.int .i64 c) ∧ Below W.heap.size W w') :=
            ⟨fun W => channel_aged_cups.calls a0 a1 a2 a3 a4 a5 a6 r c W HCU.out⟩
          refine wp_region_after (by kernel_rfl) (by kernel_rfl) ?_; (repeat (go_big_quiet_step (first | (go_at_call 72; exact Calls.after (hCA.out _)) | (go_at_call 121; exact Calls.after (hCC.out _)) | (go_at_call 62; exact Calls.after_same (in_any _ _ _ _))))); refine wpQuiet_nil ?_; intro X; have RX := RB.below (X.hb.mono RB.lt) X.hb.size; have HOX : Aside0 (Kd.R (Kd.int .i64) 3 X.W (w.heap.size + 2) (fun _ => True) (.slice Ao acc.length co) acc) := ⟨Kd.R_below HO1.out X.hb⟩; clear hCA hCC; clear z0 z1 y0 y1 y2 RB HO1; obtain ⟨W2, hW2⟩ : ∃ W2, W2 = X.W := ⟨_, rfl⟩; rw [← hW2] at RX HOX ⊢; clear hW2 X hsz; have g0 := RX.o0; clear g0
          cases hin : inB c x.f1.f0 x.f1.f1 with
          | false =>
            have w1 : wrap64 (r + 1) = r + 1 := IntWalk.wrap64_in _ (by have := HR.out; have := HK.out; have := HHI.out; omega); go_wp2
            go_roundg k1
            case measure => omega
            case rel => exact ⟨acc, r + 1, rest1, (by rw [w1]), ⟨by have := HR.out; omega⟩, ⟨by have := HC.out; omega⟩, Hl, ⟨by have h1 := He.out; have h2 := HAG.out; have h3 := HE.out; rw [hin] at h2; simp at h2; subst h2; simp at h1; rw [h1]; exact h3⟩, ⟨by have := HK.out; omega⟩, HOX, ⟨RX⟩⟩
          | true =>
            go_wp2
            go_roundg k2
            case measure => omega
            case rel => exact ⟨j + 1, (by rw [IntWalk.wrap64_in _ (by have := HJ.out; have := HNL.out; omega), Int.natCast_add, Int.natCast_one]), ⟨by have := HJ.out; omega⟩, ⟨by have h2 := HAG.out; rw [hin] at h2; simpa using h2⟩, HOX, ⟨RX⟩⟩
end Go.Proofs.YtdmdahafiiggiabGreatDoor.K
end
section
namespace Go.Proofs.YtdmdahafiiggiabGreatDoor.K
open Go.RowKit Go.Proofs.YtdmdahafiiggiabGreatDoorW.PrintWords Go.Proofs.YtdmdahafiiggiabGreatDoorW.PrintLast Go.Proofs.YtdmdahafiiggiabGreatDoorW.PrintMore
attribute [local go_sem] max2_int min2_int max_two min_two max_three min_three max_four min_four
def channel_isStretch.f (l0_0 : List Int) (l0_1 : List (S66)) (a1 : Int) : Option (Bool) := (channel_in.f a1 0 (wrap64 ((l0_1.length : Int) - 1))).bind fun t141 => (some t141)
set_option maxHeartbeats 8000000 in
set_option maxRecDepth 100000 in
theorem channel_isStretch.calls (A0_0 : Option Addr) (c0_0 : Nat) (l0_0 : List Int) (A0_1 : Option Addr) (c0_1 : Nat) (l0_1 : List (S66)) (a1 : Int) (r : Bool) (w : World) (hr0_0 : Kd.C (Kd.int .i64) w A0_0 l0_0.length l0_0) (hc0_0 : l0_0.length ≤ c0_0) (hr0_1 : Kd.C k66 w A0_1 l0_1.length l0_1) (hc0_1 : l0_1.length ≤ c0_1) (h : channel_isStretch.f l0_0 l0_1 a1 = some r) :
  Calls Tryz.prog 70 #[.agg #[.slice A0_0 l0_0.length c0_0, .slice A0_1 l0_1.length c0_1], .int .i64 a1] w fun e w' => e = .returned (.bool r) ∧ Below w.heap.size w w' := by
 have hu60 := Tryz.underlying60; have HR0_0 := Aside0.mk hr0_0; have HC0_0 := Aside0.mk hc0_0; clear hr0_0 hc0_0; have HR0_1 := Aside0.mk hr0_1; have HC0_1 := Aside0.mk hc0_1; clear hr0_1 hc0_1; have HB := Aside0.mk (Below.refl w.heap.size w); have H : ((channel_in.f a1 0 (wrap64 ((l0_1.length : Int) - 1))).bind fun t141 => (some t141)) = some r := h; clear h; replace H := Option.bind_eq_some_iff.mp H; obtain ⟨t141, A30, H⟩ := H; replace H : (some t141) = some r := H; have A3 := Aside0.mk A30; clear A30; obtain rfl := Option.some.inj H
 go_enter Tryz.func70, Tryz.ntmps70
 go_wp2_with (first | ((with_reducible refine gate_dst (N := 2) rfl ?_); refine bxe 2 #[.slice A0_0 l0_0.length c0_0, .slice A0_1 l0_1.length c0_1] 60 ?_; intro gb140 hg w4 hbox hb; have n0_ := Aside0.mk (below_step uB hb); have n1_ := Aside0.mk (hbox); have n2_ := gw hg; have n3_ := gw hg; clear HB; have HB := n0_; have BK140 := n1_; have GW140 := n2_; have GE140 := n3_; clear n0_ n1_ n2_ n3_; clear hb hbox hg; obtain ⟨hcz5_0, hcz5_1⟩ := cz2 BK140.out; obtain ⟨hfz5_0, hfz5_1⟩ := fz2 BK140.out) | ((with_reducible refine gate_callee (f := 62) rfl ?_); refine goesL_ (some 10) rfl rfl Tryz.func62 (by kernel_rfl) rfl #[.int .i64 a1, .int .i64 0, .int .i64 (wrap64 ((l0_1.length : Int) - 1))] rfl uM ?_; (with_reducible refine (channel_in.calls a1 0 (wrap64 ((l0_1.length : Int) - 1)) t141 _ A3.out).mono ?_); rintro e w' ⟨rfl, ⟨nd, rfl⟩⟩; refine ⟨_, rfl, ?_⟩))
 go_ret; exact ⟨uE, uB⟩
end Go.Proofs.YtdmdahafiiggiabGreatDoor.K
end
section
namespace Go.Proofs.YtdmdahafiiggiabGreatDoor.K
open Go.RowKit Go.Proofs.YtdmdahafiiggiabGreatDoorW.PrintWords Go.Proofs.YtdmdahafiiggiabGreatDoorW.PrintLast Go.Proofs.YtdmdahafiiggiabGreatDoorW.PrintMore
def noteB (x : S89) : Bool := inB x.f0 0 200 && isSpanB x.f1.f0 x.f1.f1 0 10000000
theorem Lime1_any (x : S89) (w : World) : Calls Tryz.prog 95 #[.agg #[.int .i64 x.f0, .int .i64 x.f1.f0, .int .i64 x.f1.f1]] w fun e w' => e = .returned (.bool (!noteB x)) ∧ Below w.heap.size w w' := by
  have hu := Tryz.underlying89; have hu3 := Tryz.underlying23; obtain ⟨f0, ⟨g0, g1⟩⟩ := x
  dsimp only
  cases h1 : inB f0 0 200 with
  | false =>
    go_enter Tryz.func95, Tryz.ntmps95
    go_wp2_with (go_at_call 71; refine (isAge_any _ _).mono ?_; rintro e w' ⟨rfl, rfl⟩)
    go_ret; exact ⟨by simp [noteB, h1], (Below.refl _ _).alloc (Nat.le_refl _) _⟩
  | true =>
    go_enter Tryz.func95, Tryz.ntmps95
    go_wp2_with (first | (go_at_call 71; refine (isAge_any _ _).mono ?_; rintro e w' ⟨rfl, rfl⟩) | (go_at_call 96; refine (isSpan_any _ _ _ _ _).mono ?_; rintro e w' ⟨rfl, hb⟩))
    go_ret; exact ⟨by simp [noteB, h1], below_then ((Below.refl _ _).alloc (Nat.le_refl _) _) (by simp) hb⟩
theorem isStretch_any (A0_0 : Option Addr) (c0_0 : Nat) (l0_0 : List Int) (A0_1 : Option Addr) (c0_1 : Nat) (l0_1 : List S66) (a1 : Int) (hn : l0_1.length ≤ 8) (w : World) :
    Calls Tryz.prog 70 #[.agg #[.slice A0_0 l0_0.length c0_0, .slice A0_1 l0_1.length c0_1], .int .i64 a1] w fun e w' => e = .returned (.bool (inB a1 0 ((l0_1.length : Int) - 1))) ∧ Below w.heap.size w w' := by
  have hu2 := Tryz.underlying60
  go_enter Tryz.func70, Tryz.ntmps70
  go_wp2_with (go_at_call 62; refine (in_any _ _ _ _).mono ?_; rintro e w' ⟨rfl, rfl⟩)
  go_ret; exact ⟨by rfl, (Below.refl _ _).alloc (Nat.le_refl _) _⟩
structure LimeW (w : World) (A0_0 A0_1 A2 : Option Addr) (c0_0 c0_1 c2 ns nt nn : Nat) (n : Int) (W : World) : Prop where
  hb : Below w.heap.size w W
  lt : w.heap.size + 4 ≤ W.heap.size
  sp : W.cell? ⟨w.heap.size, 0, none⟩ = some (.slice A0_0 ns c0_0)
  st : W.cell? ⟨w.heap.size, 1, none⟩ = some (.slice A0_1 nt c0_1)
  n : W.cell? ⟨w.heap.size + 1, 0, none⟩ = some (.int .i64 n)
  no : W.cell? ⟨w.heap.size + 2, 0, none⟩ = some (.slice A2 nn c2)
  o0 : W.cell? ⟨w.heap.size + 3, 0, none⟩ = some (.int .i64 0)
  o1 : W.cell? ⟨w.heap.size + 3, 1, none⟩ = some (.int .i64 0)
  f0 : W.frozen? ⟨w.heap.size + 3, 0, none⟩ = false
  f1 : W.frozen? ⟨w.heap.size + 3, 1, none⟩ = false
theorem LimeW.below {w : World} {A0_0 A0_1 A2 : Option Addr} {c0_0 c0_1 c2 ns nt nn : Nat} {n : Int} {W W1 : World} (h : LimeW w A0_0 A0_1 A2 c0_0 c0_1 c2 ns nt nn n W) (hb : Below (w.heap.size + 4) W W1) : LimeW w A0_0 A0_1 A2 c0_0 c0_1 c2 ns nt nn n W1 :=
  ⟨h.hb.trans (hb.mono (by omega)), Nat.le_trans h.lt hb.size, (hb.cell (p := ⟨w.heap.size, 0, none⟩) (by simp)).trans h.sp, (hb.cell (p := ⟨w.heap.size, 1, none⟩) (by simp)).trans h.st, (hb.cell (p := ⟨w.heap.size + 1, 0, none⟩) (by simp)).trans h.n, (hb.cell (p := ⟨w.heap.size + 2, 0, none⟩) (by simp)).trans h.no, (hb.cell (p := ⟨w.heap.size + 3, 0, none⟩) (by simp)).trans h.o0, (hb.cell (p := ⟨w.heap.size + 3, 1, none⟩) (by simp)).trans h.o1, (hb.frozen (p := ⟨w.heap.size + 3, 0, none⟩) (by simp)).trans h.f0, (hb.frozen (p := ⟨w.heap.size + 3, 1, none⟩) (by simp)).trans h.f1⟩
theorem LimeW.new (w : World) (A0_0 A0_1 A2 : Option Addr) (c0_0 c0_1 c2 ns nt nn : Nat) (n : Int) (t1 t2 t3 t4 : TypeId) : LimeW w A0_0 A0_1 A2 c0_0 c0_1 c2 ns nt nn n ((((w.alloc (.cells #[.slice A0_0 ns c0_0, .slice A0_1 nt c0_1] t1)).alloc (.cells #[.int .i64 n] t2)).alloc (.cells #[.slice A2 nn c2] t3)).alloc (.cells #[.int .i64 0, .int .i64 0] t4)) :=
  ⟨((((Below.refl _ w).alloc (Nat.le_refl _) _).alloc (by simp) _).alloc (by simp; omega) _).alloc (by simp; omega) _, by simp, by simp [go_sem], by simp [go_sem], by simp [go_sem], by simp [go_sem], by simp [go_sem], by simp [go_sem], by simp [go_sem], by simp [go_sem]⟩
def limeB (sp : List Int) (st : List S66) (n : Int) (notes : List S89) : Bool := isLineB sp st && inB n 0 ((st.length : Int) - 1) && decide (notes.length ≤ 8) && notes.all noteB
def LimePost (L : List Int) (w : World) (e : Ending) (w' : World) : Prop :=
  e = .returned (if L = [] then .tuple #[.agg #[.int .i64 0, .int .i64 0], .int .i64 7] else .tuple #[.agg #[.int .i64 (rd L 0), .int .i64 (rd L ((L.length : Int) - 1))], .int .i64 0]) ∧ Below w.heap.size w w'
set_option maxRecDepth 100000 in
set_option maxHeartbeats 1000000 in
theorem lime_bad (sp : List Int) (st : List S66) (A0_0 A0_1 A2 : Option Addr) (c0_0 c0_1 c2 : Nat) (n : Int) (notes : List S89) (w : World)
    (hr0_0 : Kd.C (Kd.int .i64) w A0_0 sp.length sp) (hc0_0 : sp.length ≤ c0_0) (hr0_1 : Kd.C k66 w A0_1 st.length st) (hc0_1 : st.length ≤ c0_1) (hr2 : Kd.C k89 w A2 notes.length notes) (hc2 : notes.length ≤ c2)
    (hsp : sp.length ≤ 9223372036854775807) (hst : st.length ≤ 9223372036854775807) (hno : notes.length ≤ 9223372036854775807) (hbad : limeB sp st n notes = false) :
    Calls Tryz.prog 52 #[.agg #[.slice A0_0 sp.length c0_0, .slice A0_1 st.length c0_1], .int .i64 n, .slice A2 notes.length c2] w fun e w' => e = .returned (.tuple #[.agg #[.int .i64 0, .int .i64 0], .int .i64 2]) ∧ Below w.heap.size w w' := by
  have hu1 := Tryz.underlying60; have hu2 := Tryz.underlying23; have hmf : ∀ (fn : Fn) (first cap : Array Value) (w : World), (Instr.makeFunc fn first cap).run Tryz.prog w = .ok (.func fn first cap) w := fun _ _ _ _ => rfl
  have CL : Aside0 (∀ W, Below w.heap.size w W → Calls Tryz.prog 69 #[.agg #[.slice A0_0 sp.length c0_0, .slice A0_1 st.length c0_1]] W fun e w' => e = .returned (.bool (isLineB sp st)) ∧ Below W.heap.size W w') :=
    ⟨fun W hW => channel_isLine.calls A0_0 c0_0 sp A0_1 c0_1 st _ W (Kd.C_below hr0_0 hW) hc0_0 (Kd.C_below hr0_1 hW) hc0_1 (by unfold channel_isLine.f; rw [if_pos ⟨hsp, hst⟩])⟩
  have CN : Aside0 (∀ W, Below w.heap.size w W → Calls Tryz.prog 97 #[.slice A2 notes.length c2, .func (.func 95) #[] #[]] W fun e w' => e = .returned (.bool (!notes.all noteB)) ∧ Below W.heap.size W w') :=
    ⟨fun W hW => by
      have := contFuncNote A2 c2 notes 95 #[] (fun x => !noteB x) W (Kd.C_below hr2 hW) hc2 hno (enters_of Tryz.func95 (by kernel_rfl) rfl) (fun W' x _ => Lime1_any x W')
      rwa [any_not_all] at this⟩
  clear hr0_0 hr0_1 hr2
  have hcase : isLineB sp st = false ∨ (isLineB sp st = true ∧ inB n 0 ((st.length : Int) - 1) = false) ∨ (isLineB sp st = true ∧ inB n 0 ((st.length : Int) - 1) = true ∧ ¬ notes.length ≤ 8) ∨ (isLineB sp st = true ∧ inB n 0 ((st.length : Int) - 1) = true ∧ notes.length ≤ 8 ∧ notes.all noteB = false) := by
    unfold limeB at hbad
    cases h1 : isLineB sp st <;> cases h2 : inB n 0 ((st.length : Int) - 1) <;> by_cases h3 : notes.length ≤ 8 <;> cases h4 : notes.all noteB <;> simp [h1, h2, h3, h4] at hbad ⊢
  have CS : Aside0 (isLineB sp st = true → ∀ W, Calls Tryz.prog 70 #[.agg #[.slice A0_0 sp.length c0_0, .slice A0_1 st.length c0_1], .int .i64 n] W fun e w' => e = .returned (.bool (inB n 0 ((st.length : Int) - 1))) ∧ Below W.heap.size W w') :=
    ⟨fun h W => isStretch_any A0_0 c0_0 sp A0_1 c0_1 st n (by simp [isLineB, inB] at h; omega) W⟩
  clear hbad
  rcases hcase with h1 | ⟨h1, h2⟩ | ⟨h1, h2, h3⟩ | ⟨h1, h2, h3, h4⟩
  all_goals (try have h3' : decide ((8 : Int) < (notes.length : Int)) = true := decide_eq_true (by omega))
  all_goals (try have h3' : decide ((8 : Int) < (notes.length : Int)) = false := decide_eq_false (by omega))
  all_goals
    rw [h1] at CL; (try rw [h2] at CS); try rw [h4] at CN
    go_enter Tryz.func52, Tryz.ntmps52
    go_upto_region 2 with (fail)
    generalize hW0 : World.alloc _ _ = W0; have R0 : LimeW w A0_0 A0_1 A2 c0_0 c0_1 c2 sp.length st.length notes.length n W0 := by rw [← hW0]; exact LimeW.new ..
    clear hW0; have a1 := R0.sp; have a2 := R0.st
    go_wp2_with (first | (go_at_call 69; refine (CL.out _ R0.hb).mono ?_; rintro e w1 ⟨rfl, hb1⟩; have R1 := R0.below (hb1.mono R0.lt); clear a1 a2 hb1 R0; have a1 := R1.sp; have a2 := R1.st; have a3 := R1.n; have a5 := R1.o0; have a6 := R1.o1; have a7 := R1.f0; have a8 := R1.f1) | (go_at_call 70; refine (CS.out h1 _).mono ?_; rintro e w2 ⟨rfl, hb2⟩; have R2 := R1.below (hb2.mono R1.lt); clear a1 a2 a3 a5 a6 a7 a8 hb2 R1; have a4 := R2.no; have a5 := R2.o0; have a6 := R2.o1; have a7 := R2.f0; have a8 := R2.f1) | (go_at_call 97; refine (CN.out _ R2.hb).mono ?_; rintro e w3 ⟨rfl, hb3⟩; have R3 := R2.below (hb3.mono R2.lt); clear a4 a5 a6 a7 a8 hb3 R2; have a5 := R3.o0; have a6 := R3.o1; have a7 := R3.f0; have a8 := R3.f1))
    refine bodyPost_ret (v := .tuple #[.agg #[.int .i64 0, .int .i64 0], .int .i64 2]) (by simp [results, Tryz.results52, go_sem, *]) rfl ⟨rfl, ?_⟩; have hle : w.heap.size ≤ w.heap.size + 1 + 1 + 1 := by omega
    first
      | exact below_set (below_set R1.hb hle) hle
      | exact below_set (below_set R2.hb hle) hle
      | exact below_set (below_set R3.hb hle) hle
theorem grown_of_below {w w' : World} {row : Option Nat} (h : Below w.heap.size w w') : w.grownBy w' row := ⟨h.os, h.tape, h.output, h.size, fun k hk _ => h.block k hk⟩
theorem grown_set2 {w w1 : World} {B : Nat} (h : w.grownBy w1 (some B)) (v u : Value) : w.grownBy ((w1.setCell ⟨B, 0, none⟩ v).setCell ⟨B, 1, none⟩ u) (some B) :=
  ⟨h.os, h.tape, h.output, by simpa using h.size, fun k hk hne => ((Below.heap_setCell _ _ _ k (fun e => hne (by rw [e]))).trans (Below.heap_setCell _ _ _ k (fun e => hne (by rw [e])))).trans (h.block k hk hne)⟩
theorem Lime2_any (sp : List Int) (st : List S66) (A0_0 A0_1 A2 : Option Addr) (c0_0 c0_1 c2 : Nat) (n : Int) (notes : List S89) (w W : World) (B : Nat)
    (hr0_0 : Kd.C (Kd.int .i64) w A0_0 sp.length sp) (hc0_0 : sp.length ≤ c0_0) (hr0_1 : Kd.C k66 w A0_1 st.length st) (hc0_1 : st.length ≤ c0_1) (hr2 : Kd.C k89 w A2 notes.length notes) (hc2 : notes.length ≤ c2)
    (hR : LimeW w A0_0 A0_1 A2 c0_0 c0_1 c2 sp.length st.length notes.length n W) (hB : w.heap.size + 4 ≤ B) (hBs : B < W.heap.size)
    (hB0 : W.cell? ⟨B, 0, none⟩ = some (.int .i64 0)) (hB1 : W.cell? ⟨B, 1, none⟩ = some (.int .i64 0)) (hF0 : W.frozen? ⟨B, 0, none⟩ = false) (hF1 : W.frozen? ⟨B, 1, none⟩ = false)
    (hn0 : 0 ≤ n) (hn1 : n < st.length) (hlo : 0 ≤ (rd_T66 st n).f3.f0) (hhi : (rd_T66 st n).f3.f1 < 1000000000) (hnl : notes.length ≤ 1000000) (N : Nat) (L : List Int) (hN : (rd_T66 st n).f3.f0 + N = (rd_T66 st n).f3.f1 + 1) (hL : ratesL sp st n notes N (rd_T66 st n).f3.f0 = some L) :
    Calls Tryz.prog 98 #[.pointer (some ⟨w.heap.size, 0, none⟩), .pointer (some ⟨w.heap.size + 1, 0, none⟩), .pointer (some ⟨w.heap.size + 2, 0, none⟩), .pointer (some ⟨B, 0, none⟩)] W fun e w' => W.grownBy w' (some B) ∧
      ((L = [] ∧ e = .panicked [{ v := .iface 155 (.agg #[.int .i64 n]), recovered := false }]) ∨ (L ≠ [] ∧ e = .returned (.tuple #[]) ∧ w'.cell? ⟨B, 0, none⟩ = some (.int .i64 (rd L 0)) ∧ w'.cell? ⟨B, 1, none⟩ = some (.int .i64 (rd L ((L.length : Int) - 1))))) := by
  have hu1 := Tryz.underlying60; have hu2 := Tryz.underlying23; have CR := Aside0.mk (rates_any sp st A0_0 A0_1 A2 c0_0 c0_1 c2 n notes W (Kd.C_below hr0_0 hR.hb) hc0_0 (Kd.C_below hr0_1 hR.hb) hc0_1 (Kd.C_below hr2 hR.hb) hc2 hn0 hn1 hlo hhi hnl N L hN hL); have a1 := hR.sp; have a2 := hR.st; have a3 := hR.n; have a4 := hR.no; clear hr0_0 hr0_1 hr2 hlo hhi hN hL hn0 hn1
  go_enter Tryz.func98, Tryz.ntmps98
  go_wp2_with fail
  refine CR.out.mono ?_; rintro e w1 ⟨h, hb⟩; have hb0 := (hb.cell (p := ⟨B, 0, none⟩) hBs).trans hB0; have hb1 := (hb.cell (p := ⟨B, 1, none⟩) hBs).trans hB1; have hf0 := (hb.frozen (p := ⟨B, 0, none⟩) hBs).trans hF0; have hf1 := (hb.frozen (p := ⟨B, 1, none⟩) hBs).trans hF1
  rcases h with ⟨h1, rfl⟩ | ⟨h1, rfl⟩
  · go_wp2; exact ⟨rfl, grown_of_below hb, .inl ⟨h1, rfl⟩⟩
  · go_wp2; refine bodyPost_end (v := .tuple #[]) (by simp [results, Tryz.results98, go_sem]) rfl ⟨grown_set2 (grown_of_below hb) _ _, .inr ⟨h1, rfl, ?_, ?_⟩⟩
    · simp [go_sem, *]
    · simp [go_sem, *]
set_option maxRecDepth 100000 in
set_option maxHeartbeats 1000000 in
theorem lime_good (sp : List Int) (st : List S66) (A0_0 A0_1 A2 : Option Addr) (c0_0 c0_1 c2 : Nat) (n : Int) (notes : List S89) (w : World)
    (hr0_0 : Kd.C (Kd.int .i64) w A0_0 sp.length sp) (hc0_0 : sp.length ≤ c0_0) (hr0_1 : Kd.C k66 w A0_1 st.length st) (hc0_1 : st.length ≤ c0_1) (hr2 : Kd.C k89 w A2 notes.length notes) (hc2 : notes.length ≤ c2)
    (hok : limeB sp st n notes = true) (N : Nat) (L : List Int) (hN : (rd_T66 st n).f3.f0 + N = (rd_T66 st n).f3.f1 + 1) (hL : ratesL sp st n notes N (rd_T66 st n).f3.f0 = some L) :
    Calls Tryz.prog 52 #[.agg #[.slice A0_0 sp.length c0_0, .slice A0_1 st.length c0_1], .int .i64 n, .slice A2 notes.length c2] w (LimePost L w) := by
  have hu1 := Tryz.underlying60; have hu2 := Tryz.underlying23; have hmf : ∀ (fn : Fn) (first cap : Array Value) (w : World), (Instr.makeFunc fn first cap).run Tryz.prog w = .ok (.func fn first cap) w := fun _ _ _ _ => rfl; unfold limeB at hok; simp only [Bool.and_eq_true, decide_eq_true_eq] at hok; obtain ⟨⟨⟨h1, h2⟩, h3⟩, h4⟩ := hok; have h1' := h1; have h2' := h2; simp only [isLineB, inB, Bool.and_eq_true, decide_eq_true_eq] at h1' h2'; have h3' : decide ((8 : Int) < (notes.length : Int)) = false := decide_eq_false (by omega)
  have hrange : 0 ≤ (rd_T66 st n).f3.f0 ∧ (rd_T66 st n).f3.f1 ≤ 100 := by
    have hlt : n.toNat < st.length := by omega
    have hx := List.all_eq_true.mp h1'.2 (st[n.toNat]) (List.getElem_mem hlt); have he : rd_T66 st n = st[n.toNat] := by simp [rd_T66, List.getD, List.getElem?_eq_getElem hlt]
    rw [he]; simp only [stretchB, isSpanB, Bool.and_eq_true, decide_eq_true_eq] at hx
    omega
  have HRNG := Aside0.mk (And.intro h2' hrange)
  have CL : Aside0 (∀ W, Below w.heap.size w W → Calls Tryz.prog 69 #[.agg #[.slice A0_0 sp.length c0_0, .slice A0_1 st.length c0_1]] W fun e w' => e = .returned (.bool true) ∧ Below W.heap.size W w') :=
    ⟨fun W hW => h1 ▸ channel_isLine.calls A0_0 c0_0 sp A0_1 c0_1 st _ W (Kd.C_below hr0_0 hW) hc0_0 (Kd.C_below hr0_1 hW) hc0_1 (by unfold channel_isLine.f; rw [if_pos ⟨by omega, by omega⟩])⟩
  have CN : Aside0 (∀ W, Below w.heap.size w W → Calls Tryz.prog 97 #[.slice A2 notes.length c2, .func (.func 95) #[] #[]] W fun e w' => e = .returned (.bool false) ∧ Below W.heap.size W w') :=
    ⟨fun W hW => by
      have := contFuncNote A2 c2 notes 95 #[] (fun x => !noteB x) W (Kd.C_below hr2 hW) hc2 (by omega) (enters_of Tryz.func95 (by kernel_rfl) rfl) (fun W' x _ => Lime1_any x W')
      rwa [any_not_all, h4] at this⟩
  have CS : Aside0 (∀ W, Calls Tryz.prog 70 #[.agg #[.slice A0_0 sp.length c0_0, .slice A0_1 st.length c0_1], .int .i64 n] W fun e w' => e = .returned (.bool true) ∧ Below W.heap.size W w') :=
    ⟨fun W => h2 ▸ isStretch_any A0_0 c0_0 sp A0_1 c0_1 st n (by omega) W⟩
  
  have CA : Aside0 (∀ W, LimeW w A0_0 A0_1 A2 c0_0 c0_1 c2 sp.length st.length notes.length n W → ∀ W4, W4 = W.alloc (.cells #[.int .i64 0, .int .i64 0] 23) →
      Calls Tryz.prog 81 #[.func (.func 98) #[] #[.pointer (some ⟨w.heap.size, 0, none⟩), .pointer (some ⟨w.heap.size + 1, 0, none⟩), .pointer (some ⟨w.heap.size + 2, 0, none⟩), .pointer (some ⟨W.heap.size, 0, none⟩)]] W4 fun e w' =>
        Below w.heap.size w w' ∧ (w'.cell? ⟨w.heap.size + 3, 0, none⟩ = some (.int .i64 0) ∧ w'.cell? ⟨w.heap.size + 3, 1, none⟩ = some (.int .i64 0) ∧ w'.frozen? ⟨w.heap.size + 3, 0, none⟩ = false ∧ w'.frozen? ⟨w.heap.size + 3, 1, none⟩ = false) ∧
        ((L ≠ [] ∧ e = .returned (.int .i64 0) ∧ w'.cell? ⟨W.heap.size, 0, none⟩ = some (.int .i64 (rd L 0)) ∧ w'.cell? ⟨W.heap.size, 1, none⟩ = some (.int .i64 (rd L ((L.length : Int) - 1)))) ∨ (L = [] ∧ e = .returned (.int .i64 7)))) := ⟨by
    intro W hW W4 hW4; have s4 : W4.heap.size = W.heap.size + 1 := by rw [hW4]; simp
    have hb4 : Below W.heap.size W W4 := by rw [hW4]; exact (Below.refl _ _).alloc (Nat.le_refl _) _
    have hW4' := hW.below (hb4.mono hW.lt); have hb5 : Below W4.heap.size W4 (W4.alloc (.cells #[.int .i64 0] 30)) := (Below.refl _ _).alloc (Nat.le_refl _) _; have hW5 := hW4'.below (hb5.mono hW4'.lt)
    have hdo := Lime2_any sp st A0_0 A0_1 A2 c0_0 c0_1 c2 n notes w _ W.heap.size hr0_0 hc0_0 hr0_1 hc0_1 hr2 hc2 hW5 hW.lt (by simp; omega)
      ((hb5.cell (p := ⟨W.heap.size, 0, none⟩) (by simp; omega)).trans (by rw [hW4]; simp [go_sem])) ((hb5.cell (p := ⟨W.heap.size, 1, none⟩) (by simp; omega)).trans (by rw [hW4]; simp [go_sem]))
      ((hb5.frozen (p := ⟨W.heap.size, 0, none⟩) (by simp; omega)).trans (by rw [hW4]; simp [go_sem])) ((hb5.frozen (p := ⟨W.heap.size, 1, none⟩) (by simp; omega)).trans (by rw [hW4]; simp [go_sem]))
      (by omega) (by omega) hrange.1 (by omega) (by omega) N L hN hL
    refine (attempt_any 98 W.heap.size _ W4 (by omega) (fun W' => L ≠ [] ∧ W'.cell? ⟨W.heap.size, 0, none⟩ = some (.int .i64 (rd L 0)) ∧ W'.cell? ⟨W.heap.size, 1, none⟩ = some (.int .i64 (rd L ((L.length : Int) - 1)))) (fun _ => L = []) (fun _ => False) (enters_of Tryz.func98 (by kernel_rfl) rfl)
      (hdo.mono fun e w' ⟨hg, h⟩ => ⟨hg, h.elim (fun ⟨ha, hb⟩ => .inr (.inl ⟨n, hb, ha⟩)) (fun ⟨ha, hb, hc⟩ => .inl ⟨hb, ha, hc⟩)⟩)).mono ?_
    rintro e w' ⟨w1, k, rfl, hg1, hg2, h⟩; have hs5 : (W4.alloc (.cells #[.int .i64 0] 30)).heap.size = W.heap.size + 2 := by simp; omega
    have hs1 : W.heap.size + 2 ≤ w1.heap.size := by have := hg1.size; omega
    have far1 : ∀ o, w1.cell? ⟨w.heap.size + 3, o, none⟩ = (W4.alloc (.cells #[.int .i64 0] 30)).cell? ⟨w.heap.size + 3, o, none⟩ := fun o => hg1.cell_far ⟨w.heap.size + 3, o, none⟩ (by have := hW.lt; simp; omega) (by have := hW.lt; simp; omega); have far2 : ∀ b o, b < W.heap.size + 1 → w'.cell? ⟨b, o, none⟩ = w1.cell? ⟨b, o, none⟩ := fun b o hb => hg2.cell_far ⟨b, o, none⟩ (by simp; omega) (by simp; omega); have fz1 : ∀ o, w1.frozen? ⟨w.heap.size + 3, o, none⟩ = (W4.alloc (.cells #[.int .i64 0] 30)).frozen? ⟨w.heap.size + 3, o, none⟩ := fun o => hg1.frozen_far ⟨w.heap.size + 3, o, none⟩ (by have := hW.lt; simp; omega) (by have := hW.lt; simp; omega); have fz2 : ∀ o, w'.frozen? ⟨w.heap.size + 3, o, none⟩ = w1.frozen? ⟨w.heap.size + 3, o, none⟩ := fun o => hg2.frozen_far ⟨w.heap.size + 3, o, none⟩ (by have := hW.lt; simp; omega) (by have := hW.lt; simp; omega); have hlt := hW.lt; refine ⟨(hW5.hb.grown hg1 (by omega) (by intro k hk; cases hk; omega)).grown hg2 (by omega) (by intro k hk; cases hk; omega), ⟨?_, ?_, ?_, ?_⟩, ?_⟩
    · rw [far2 _ _ (by omega), far1]; exact hW5.o0
    · rw [far2 _ _ (by omega), far1]; exact hW5.o1
    · rw [fz2, fz1]; exact hW5.f0
    · rw [fz2, fz1]; exact hW5.f1
    · rcases h with ⟨rfl, ha, hb, hc⟩ | ⟨rfl, ha⟩ | ⟨_, ha⟩
      · exact .inl ⟨ha, rfl, (far2 _ _ (by omega)).trans hb, (far2 _ _ (by omega)).trans hc⟩
      · exact .inr ⟨ha, rfl⟩
      · exact ha.elim⟩
  clear hr0_0 hr0_1 hr2 h1' h2' hrange hN hL h4
  go_enter Tryz.func52, Tryz.ntmps52
  go_upto_region 2 with (fail)
  generalize hW0 : World.alloc _ _ = W0; have R0 : LimeW w A0_0 A0_1 A2 c0_0 c0_1 c2 sp.length st.length notes.length n W0 := by rw [← hW0]; exact LimeW.new ..
  clear hW0; have a1 := R0.sp; have a2 := R0.st
  go_wp2_with (first | (go_at_call 69; refine (CL.out _ R0.hb).mono ?_; rintro e w1 ⟨rfl, hb1⟩; have R1 := R0.below (hb1.mono R0.lt); clear a1 a2 hb1 R0; have a1 := R1.sp; have a2 := R1.st; have a3 := R1.n) | (go_at_call 70; refine (CS.out _).mono ?_; rintro e w2 ⟨rfl, hb2⟩; have R2 := R1.below (hb2.mono R1.lt); clear a1 a2 a3 hb2 R1; have a4 := R2.no) | (go_at_call 97; refine (CN.out _ R2.hb).mono ?_; rintro e w3 ⟨rfl, hb3⟩; have R3 := R2.below (hb3.mono R2.lt); clear a4 hb3 R2))
  refine (CA.out w3 R3 _ rfl).mono ?_; clear CA CL CN CS R3; have hle : w.heap.size ≤ w.heap.size + 1 + 1 + 1 := by omega
  rintro e w4 ⟨hb, ⟨o0, o1, f0, f1⟩, ⟨hne, rfl, c0, c1⟩ | ⟨he, rfl⟩⟩
  · go_wp2; refine bodyPost_ret (v := .tuple #[.agg #[.int .i64 (rd L 0), .int .i64 (rd L ((L.length : Int) - 1))], .int .i64 0]) (by simp [results, Tryz.results52, go_sem, *]) rfl ⟨by rw [if_neg hne], ?_⟩; exact below_set (below_set hb hle) hle
  · go_wp2; refine bodyPost_ret (v := .tuple #[.agg #[.int .i64 0, .int .i64 0], .int .i64 7]) (by simp [results, Tryz.results52, go_sem, *]) rfl ⟨by rw [if_pos he], ?_⟩; exact below_set (below_set hb hle) hle
def channel_Lime.f (sp : List Int) (st : List S66) (n : Int) (notes : List S89) : Option (Int × Int × Int) :=
  if sp.length ≤ 9223372036854775807 ∧ st.length ≤ 9223372036854775807 ∧ notes.length ≤ 9223372036854775807 then
    if limeB sp st n notes = true then (ratesL sp st n notes ((rd_T66 st n).f3.f1 + 1 - (rd_T66 st n).f3.f0).toNat (rd_T66 st n).f3.f0).bind fun L => some (if L = [] then (0, 0, 7) else (rd L 0, rd L ((L.length : Int) - 1), 0))
    else some (0, 0, 2)
  else none
theorem channel_Lime.calls (A0_0 : Option Addr) (c0_0 : Nat) (l0_0 : List Int) (A0_1 : Option Addr) (c0_1 : Nat) (l0_1 : List S66) (a1 : Int) (A2 : Option Addr) (c2 : Nat) (l2 : List S89) (r1 r2 r3 : Int) (w : World) (hr0_0 : Kd.C (Kd.int .i64) w A0_0 l0_0.length l0_0) (hc0_0 : l0_0.length ≤ c0_0) (hr0_1 : Kd.C k66 w A0_1 l0_1.length l0_1) (hc0_1 : l0_1.length ≤ c0_1) (hr2 : Kd.C k89 w A2 l2.length l2) (hc2 : l2.length ≤ c2) (h : channel_Lime.f l0_0 l0_1 a1 l2 = some (r1, r2, r3)) :
    Calls Tryz.prog 52 #[.agg #[.slice A0_0 l0_0.length c0_0, .slice A0_1 l0_1.length c0_1], .int .i64 a1, .slice A2 l2.length c2] w fun e w' => e = .returned (.tuple #[.agg #[.int .i64 r1, .int .i64 r2], .int .i64 r3]) ∧ Below w.heap.size w w' := by
  unfold channel_Lime.f at h
  by_cases hl : l0_0.length ≤ 9223372036854775807 ∧ l0_1.length ≤ 9223372036854775807 ∧ l2.length ≤ 9223372036854775807
  case neg => rw [if_neg hl] at h; cases h
  rw [if_pos hl] at h
  cases hb : limeB l0_0 l0_1 a1 l2 with
  | false =>
    rw [if_neg (by rw [hb]; decide)] at h; obtain ⟨rfl, rfl, rfl⟩ : r1 = 0 ∧ r2 = 0 ∧ r3 = 2 := by simp at h; omega
    exact lime_bad l0_0 l0_1 A0_0 A0_1 A2 c0_0 c0_1 c2 a1 l2 w hr0_0 hc0_0 hr0_1 hc0_1 hr2 hc2 hl.1 hl.2.1 hl.2.2 hb
  | true =>
    rw [if_pos hb] at h; obtain ⟨L, hL, h⟩ := Option.bind_eq_some_iff.mp h; have hb' := hb; simp only [limeB, isLineB, inB, Bool.and_eq_true, decide_eq_true_eq] at hb'; have hlt : a1.toNat < l0_1.length := by omega
    have hx := List.all_eq_true.mp hb'.1.1.1.2 (l0_1[a1.toNat]) (List.getElem_mem hlt); have he : rd_T66 l0_1 a1 = l0_1[a1.toNat] := by simp [rd_T66, List.getD, List.getElem?_eq_getElem hlt]
    simp only [stretchB, isSpanB, Bool.and_eq_true, decide_eq_true_eq] at hx; refine (lime_good l0_0 l0_1 A0_0 A0_1 A2 c0_0 c0_1 c2 a1 l2 w hr0_0 hc0_0 hr0_1 hc0_1 hr2 hc2 hb _ L ?_ hL).mono ?_
    · rw [he]; omega
    · rintro e w' ⟨rfl, hw⟩; refine ⟨?_, hw⟩
      by_cases hn : L = []
      · rw [if_pos hn] at h ⊢; simp at h; obtain ⟨rfl, rfl, rfl⟩ := h; rfl
      · rw [if_neg hn] at h ⊢; simp at h; obtain ⟨rfl, rfl, rfl⟩ := h; rfl
end Go.Proofs.YtdmdahafiiggiabGreatDoor.K
end
section
namespace Go.Proofs.YtdmdahafiiggiabGreatDoor.K
open Go.RowKit Go.Proofs.YtdmdahafiiggiabGreatDoorW.PrintWords Go.Proofs.YtdmdahafiiggiabGreatDoorW.PrintLast Go.Proofs.YtdmdahafiiggiabGreatDoorW.PrintMore
attribute [local go_sem] max2_int min2_int max_two min_two max_three min_three max_four min_four
def quinarialaw02_P.f  : Option (List Int × (List (S66))) := some ((([10, 20, 30] : List Int)), (([(⟨20, 30, 1, (⟨4, 10⟩ : S23)⟩ : S66), (⟨24, 25, 0, (⟨0, 5⟩ : S23)⟩ : S66), (⟨10, 20, 2, (⟨10, 10⟩ : S23)⟩ : S66)] : List (S66))))
set_option maxHeartbeats 8000000 in
set_option maxRecDepth 100000 in
theorem quinarialaw02_P.calls  (r1 : List Int) (r2 : List (S66)) (w : World) (h : quinarialaw02_P.f  = some (r1, r2)) :
  Calls Tryz.prog 48 #[] w fun e w' => ∃ v0_ v1_ : Value, e = .returned (.agg #[v0_, v1_]) ∧ Kd.R (Kd.int .i64) 3 w' w.heap.size (fun _ => True) v0_ r1 ∧ Kd.R k66 66 w' w.heap.size (fun _ => True) v1_ r2 ∧ Below w.heap.size w w' := by
 have hu60 := Tryz.underlying60; have hu23 := Tryz.underlying23; have hu66 := Tryz.underlying66; have HB := Aside0.mk (Below.refl w.heap.size w); have H : (some ((([10, 20, 30] : List Int)), (([(⟨20, 30, 1, (⟨4, 10⟩ : S23)⟩ : S66), (⟨24, 25, 0, (⟨0, 5⟩ : S23)⟩ : S66), (⟨10, 20, 2, (⟨10, 10⟩ : S23)⟩ : S66)] : List (S66))))) = some (r1, r2) := h; clear h; obtain ⟨y225, hy225⟩ : ∃ y_ : List Int, y_ = (([10, 20, 30] : List Int)) := ⟨_, rfl⟩; rw [← hy225] at H; (try replace H := (Option.bind_some _ _).symm.trans H)
 have Ny225 := Aside0.mk hy225; clear hy225; obtain ⟨y228, hy228⟩ : ∃ y_ : List (S66), y_ = (([(⟨20, 30, 1, (⟨4, 10⟩ : S23)⟩ : S66), (⟨24, 25, 0, (⟨0, 5⟩ : S23)⟩ : S66), (⟨10, 20, 2, (⟨10, 10⟩ : S23)⟩ : S66)] : List (S66))) := ⟨_, rfl⟩; rw [← hy228] at H; (try replace H := (Option.bind_some _ _).symm.trans H)
 have Ny228 := Aside0.mk hy228; clear hy228; simp only [Option.some.injEq, Prod.mk.injEq] at H; obtain ⟨rfl, rfl⟩ := H
 go_enter Tryz.func48, Tryz.ntmps48
 go_wp2_with (first | ((with_reducible refine gate_dst (N := 0) rfl ?_); refine bxe 0 #[.slice none 0 0, .slice none 0 0] 60 ?_; intro gb224 hg w1 hbox hb; have n0_ := Aside0.mk (below_step uB hb); have n1_ := Aside0.mk (hbox); have n2_ := gw hg; have n3_ := gw hg; clear HB; have HB := n0_; have BK224 := n1_; have GW224 := n2_; have GE224 := n3_; clear n0_ n1_ n2_ n3_; clear hb hbox hg) | ((with_reducible refine gate_dst (N := 1) rfl ?_); refine Kd.R_lit (Kd.int .i64) _ 3 ?hg (N := 1) ?hd (xs := ([10, 20, 30] : List Int)) (inner := [.int .i64 10, .int .i64 20, .int .i64 30]) (ok := fun _ => True) (okp := fun _ => True) ?hr ?hp (fun _ hk => hk) trivial (Below.refl _ _) (Nat.le_refl _) (by simp) ?_; (case hd => rfl); (case hg => rfl); (case hr => first | (go_simp; done) | (go_simp; rfl)); (case hp => exact (Reps.one (show Kd.M (Kd.int .i64) _ _ _ 10 [.int .i64 10] from rfl) (Reps.one (show Kd.M (Kd.int .i64) _ _ _ 20 [.int .i64 20] from rfl) (Reps.one (show Kd.M (Kd.int .i64) _ _ _ 30 [.int .i64 30] from rfl) (Reps.none _ _))))); intro v226 w2 ho3 hb hg_ hnew_; clear hg_ hnew_; (first | rw [← Ny225.out] at ho3 | (simp only [Int.reduceToNat] at ho3; rw [← Ny225.out] at ho3)); have HO227 := Aside0.mk (Kd.R_lower ho3 (below_size uB)); replace BK224 := Aside0.mk (blk_below (uK BK224.out) hb); replace HB := Aside0.mk (below_step uB hb); clear hb ho3) | ((with_reducible refine gate_dst (N := 8) rfl ?_); refine Kd.R_lit k66 _ 66 ?hg (N := 8) ?hd (xs := ([(⟨20, 30, 1, (⟨4, 10⟩ : S23)⟩ : S66), (⟨24, 25, 0, (⟨0, 5⟩ : S23)⟩ : S66), (⟨10, 20, 2, (⟨10, 10⟩ : S23)⟩ : S66)] : List (S66))) (inner := [.int .i64 20, .int .i64 30, .int .i64 1, .int .i64 4, .int .i64 10, .int .i64 24, .int .i64 25, .int .i64 0, .int .i64 0, .int .i64 5, .int .i64 10, .int .i64 20, .int .i64 2, .int .i64 10, .int .i64 10]) (ok := fun _ => True) (okp := fun _ => True) ?hr ?hp (fun _ hk => hk) trivial (Below.refl _ _) (Nat.le_refl _) (by simp) ?_; (case hd => rfl); (case hg => rfl); (case hr => first | (go_simp; done) | (go_simp; rfl)); (case hp => exact (Reps.c5 (show Kd.M k66 _ _ _ (⟨20, 30, 1, (⟨4, 10⟩ : S23)⟩ : S66) [.int .i64 20, .int .i64 30, .int .i64 1, .int .i64 4, .int .i64 10] from (k66_mkM _ _ _ (⟨20, 30, 1, (⟨4, 10⟩ : S23)⟩ : S66) )) (Reps.c5 (show Kd.M k66 _ _ _ (⟨24, 25, 0, (⟨0, 5⟩ : S23)⟩ : S66) [.int .i64 24, .int .i64 25, .int .i64 0, .int .i64 0, .int .i64 5] from (k66_mkM _ _ _ (⟨24, 25, 0, (⟨0, 5⟩ : S23)⟩ : S66) )) (Reps.c5 (show Kd.M k66 _ _ _ (⟨10, 20, 2, (⟨10, 10⟩ : S23)⟩ : S66) [.int .i64 10, .int .i64 20, .int .i64 2, .int .i64 10, .int .i64 10] from (k66_mkM _ _ _ (⟨10, 20, 2, (⟨10, 10⟩ : S23)⟩ : S66) )) (Reps.none _ _))))); intro v229 w4 ho5 hb hg_ hnew_; clear hg_ hnew_; (first | rw [← Ny228.out] at ho5 | (simp only [Int.reduceToNat] at ho5; rw [← Ny228.out] at ho5)); replace HO227 := Aside0.mk (Kd.R_below (uR HO227.out) hb); have HO230 := Aside0.mk (Kd.R_lower ho5 (below_size uB)); replace BK224 := Aside0.mk (blk_below (uK BK224.out) hb); replace HB := Aside0.mk (below_step uB hb); clear hb ho5; obtain ⟨Ao6, co6, eo6⟩ := Kd.R_slice HO230.out; subst eo6; obtain ⟨Ao7, co7, eo7⟩ := Kd.R_slice HO227.out; subst eo7; obtain ⟨hcz8_0, hcz8_1⟩ := cz2 BK224.out; obtain ⟨hfz8_0, hfz8_1⟩ := fz2 BK224.out))
 refine bodyPost_ret (results_cell_row rfl _ _ gb224 60 #[.slice Ao7 y225.length co7, .slice Ao6 y228.length co6] (0, 0) _ rfl (by refine uK ?_; refine blk_put (cs := #[.slice Ao7 y225.length co7, .slice none 0 0]) ?_ 1 _ rfl; refine uK ?_; refine blk_put (cs := #[.slice none 0 0, .slice none 0 0]) ?_ 0 _ rfl; refine uK ?_; exact BK224.out) Tryz.underlying60 rfl (by kernel_rfl)) rfl ?_; exact ⟨_, _, uE, by refine uR ?_; exact Kd.R_mono (Kd.R_far (p := ⟨gb224, 1, none⟩) (Kd.R_far (p := ⟨gb224, 0, none⟩) (Kd.R_types HO227.out BK224.out (by decide)) (fun _ hk => hk.2) (.slice Ao7 y225.length co7)) (fun _ hk => hk.2) (.slice Ao6 y228.length co6)) (fun _ hk => trivial), by refine uR ?_; exact Kd.R_mono (Kd.R_far (p := ⟨gb224, 1, none⟩) (Kd.R_far (p := ⟨gb224, 0, none⟩) (Kd.R_types HO230.out BK224.out (by decide)) (fun _ hk => hk.2) (.slice Ao7 y225.length co7)) (fun _ hk => hk.2) (.slice Ao6 y228.length co6)) (fun _ hk => trivial), uB⟩
end Go.Proofs.YtdmdahafiiggiabGreatDoor.K
end
section
namespace Go.Proofs.YtdmdahafiiggiabGreatDoor.K
open Go.RowKit Go.Proofs.YtdmdahafiiggiabGreatDoorW.PrintWords Go.Proofs.YtdmdahafiiggiabGreatDoorW.PrintLast Go.Proofs.YtdmdahafiiggiabGreatDoorW.PrintMore
attribute [local go_sem] max2_int min2_int max_two min_two max_three min_three max_four min_four
def quinarialaw02_S.f  : Option (Int × Int × (List (S23)) × List Int) := some (100, 104, (([(⟨98, 100⟩ : S23), (⟨60, 62⟩ : S23), (⟨40, 41⟩ : S23), (⟨70, 72⟩ : S23), (⟨95, 96⟩ : S23)] : List (S23))), (([10, 20, 20, 10] : List Int)))
set_option maxHeartbeats 8000000 in
set_option maxRecDepth 100000 in
theorem quinarialaw02_S.calls  (r1 : Int) (r2 : Int) (r3 : List (S23)) (r4 : List Int) (w : World) (h : quinarialaw02_S.f  = some (r1, r2, r3, r4)) :
  Calls Tryz.prog 53 #[] w fun e w' => ∃ v2_ v3_ : Value, e = .returned (.agg #[.int .i64 r1, .int .i64 r2, v2_, v3_]) ∧ Kd.R k23 23 w' w.heap.size (fun _ => True) v2_ r3 ∧ Kd.R (Kd.int .i64) 3 w' w.heap.size (fun _ => True) v3_ r4 ∧ Below w.heap.size w w' := by
 have hu27 := Tryz.underlying27; have hu23 := Tryz.underlying23; have HB := Aside0.mk (Below.refl w.heap.size w); have H : (some (100, 104, (([(⟨98, 100⟩ : S23), (⟨60, 62⟩ : S23), (⟨40, 41⟩ : S23), (⟨70, 72⟩ : S23), (⟨95, 96⟩ : S23)] : List (S23))), (([10, 20, 20, 10] : List Int)))) = some (r1, r2, r3, r4) := h; clear h; obtain ⟨y389, hy389⟩ : ∃ y_ : List (S23), y_ = (([(⟨98, 100⟩ : S23), (⟨60, 62⟩ : S23), (⟨40, 41⟩ : S23), (⟨70, 72⟩ : S23), (⟨95, 96⟩ : S23)] : List (S23))) := ⟨_, rfl⟩; rw [← hy389] at H; (try replace H := (Option.bind_some _ _).symm.trans H)
 have Ny389 := Aside0.mk hy389; clear hy389; obtain ⟨y392, hy392⟩ : ∃ y_ : List Int, y_ = (([10, 20, 20, 10] : List Int)) := ⟨_, rfl⟩; rw [← hy392] at H; (try replace H := (Option.bind_some _ _).symm.trans H)
 have Ny392 := Aside0.mk hy392; clear hy392; simp only [Option.some.injEq, Prod.mk.injEq] at H; obtain ⟨rfl, rfl, rfl, rfl⟩ := H
 go_enter Tryz.func53, Tryz.ntmps53
 go_wp2_with (first | ((with_reducible refine gate_dst (N := 0) rfl ?_); refine bxe 0 #[.int .i64 0, .int .i64 0, .slice none 0 0, .slice none 0 0] 27 ?_; intro gb388 hg w1 hbox hb; have n0_ := Aside0.mk (below_step uB hb); have n1_ := Aside0.mk (hbox); have n2_ := gw hg; have n3_ := gw hg; clear HB; have HB := n0_; have BK388 := n1_; have GW388 := n2_; have GE388 := n3_; clear n0_ n1_ n2_ n3_; clear hb hbox hg) | ((with_reducible refine gate_dst (N := 7) rfl ?_); refine Kd.R_lit k23 _ 23 ?hg (N := 7) ?hd (xs := ([(⟨98, 100⟩ : S23), (⟨60, 62⟩ : S23), (⟨40, 41⟩ : S23), (⟨70, 72⟩ : S23), (⟨95, 96⟩ : S23)] : List (S23))) (inner := [.int .i64 98, .int .i64 100, .int .i64 60, .int .i64 62, .int .i64 40, .int .i64 41, .int .i64 70, .int .i64 72, .int .i64 95, .int .i64 96]) (ok := fun _ => True) (okp := fun _ => True) ?hr ?hp (fun _ hk => hk) trivial (Below.refl _ _) (Nat.le_refl _) (by simp) ?_; (case hd => rfl); (case hg => rfl); (case hr => first | (go_simp; done) | (go_simp; rfl)); (case hp => exact (Reps.c2 (show Kd.M k23 _ _ _ (⟨98, 100⟩ : S23) [.int .i64 98, .int .i64 100] from (k23_mkM _ _ _ (⟨98, 100⟩ : S23) )) (Reps.c2 (show Kd.M k23 _ _ _ (⟨60, 62⟩ : S23) [.int .i64 60, .int .i64 62] from (k23_mkM _ _ _ (⟨60, 62⟩ : S23) )) (Reps.c2 (show Kd.M k23 _ _ _ (⟨40, 41⟩ : S23) [.int .i64 40, .int .i64 41] from (k23_mkM _ _ _ (⟨40, 41⟩ : S23) )) (Reps.c2 (show Kd.M k23 _ _ _ (⟨70, 72⟩ : S23) [.int .i64 70, .int .i64 72] from (k23_mkM _ _ _ (⟨70, 72⟩ : S23) )) (Reps.c2 (show Kd.M k23 _ _ _ (⟨95, 96⟩ : S23) [.int .i64 95, .int .i64 96] from (k23_mkM _ _ _ (⟨95, 96⟩ : S23) )) (Reps.none _ _))))))); intro v390 w2 ho3 hb hg_ hnew_; clear hg_ hnew_; (first | rw [← Ny389.out] at ho3 | (simp only [Int.reduceToNat] at ho3; rw [← Ny389.out] at ho3)); have HO391 := Aside0.mk (Kd.R_lower ho3 (below_size uB)); replace BK388 := Aside0.mk (blk_below (uK BK388.out) hb); replace HB := Aside0.mk (below_step uB hb); clear hb ho3) | ((with_reducible refine gate_dst (N := 8) rfl ?_); refine Kd.R_lit (Kd.int .i64) _ 3 ?hg (N := 8) ?hd (xs := ([10, 20, 20, 10] : List Int)) (inner := [.int .i64 10, .int .i64 20, .int .i64 20, .int .i64 10]) (ok := fun _ => True) (okp := fun _ => True) ?hr ?hp (fun _ hk => hk) trivial (Below.refl _ _) (Nat.le_refl _) (by simp) ?_; (case hd => rfl); (case hg => rfl); (case hr => first | (go_simp; done) | (go_simp; rfl)); (case hp => exact (Reps.one (show Kd.M (Kd.int .i64) _ _ _ 10 [.int .i64 10] from rfl) (Reps.one (show Kd.M (Kd.int .i64) _ _ _ 20 [.int .i64 20] from rfl) (Reps.one (show Kd.M (Kd.int .i64) _ _ _ 20 [.int .i64 20] from rfl) (Reps.one (show Kd.M (Kd.int .i64) _ _ _ 10 [.int .i64 10] from rfl) (Reps.none _ _)))))); intro v393 w4 ho5 hb hg_ hnew_; clear hg_ hnew_; (first | rw [← Ny392.out] at ho5 | (simp only [Int.reduceToNat] at ho5; rw [← Ny392.out] at ho5)); replace HO391 := Aside0.mk (Kd.R_below (uR HO391.out) hb); have HO394 := Aside0.mk (Kd.R_lower ho5 (below_size uB)); replace BK388 := Aside0.mk (blk_below (uK BK388.out) hb); replace HB := Aside0.mk (below_step uB hb); clear hb ho5; obtain ⟨Ao6, co6, eo6⟩ := Kd.R_slice HO394.out; subst eo6; obtain ⟨Ao7, co7, eo7⟩ := Kd.R_slice HO391.out; subst eo7; obtain ⟨hcz8_0, hcz8_1, hcz8_2, hcz8_3⟩ := cz4 BK388.out; obtain ⟨hfz8_0, hfz8_1, hfz8_2, hfz8_3⟩ := fz4 BK388.out))
 refine bodyPost_ret (results_cell_row rfl _ _ gb388 27 #[.int .i64 100, .int .i64 104, .slice Ao7 y389.length co7, .slice Ao6 y392.length co6] (0, 0) _ rfl (by refine uK ?_; refine blk_put (cs := #[.int .i64 100, .int .i64 104, .slice Ao7 y389.length co7, .slice none 0 0]) ?_ 3 _ rfl; refine uK ?_; refine blk_put (cs := #[.int .i64 100, .int .i64 104, .slice none 0 0, .slice none 0 0]) ?_ 2 _ rfl; refine uK ?_; refine blk_put (cs := #[.int .i64 100, .int .i64 0, .slice none 0 0, .slice none 0 0]) ?_ 1 _ rfl; refine uK ?_; refine blk_put (cs := #[.int .i64 0, .int .i64 0, .slice none 0 0, .slice none 0 0]) ?_ 0 _ rfl; refine uK ?_; exact BK388.out) Tryz.underlying27 rfl (by kernel_rfl)) rfl ?_; exact ⟨_, _, uE, by refine uR ?_; exact Kd.R_mono (Kd.R_far (p := ⟨gb388, 3, none⟩) (Kd.R_far (p := ⟨gb388, 2, none⟩) (Kd.R_far (p := ⟨gb388, 1, none⟩) (Kd.R_far (p := ⟨gb388, 0, none⟩) (Kd.R_types HO391.out BK388.out (by decide)) (fun _ hk => hk.2) (.int .i64 100)) (fun _ hk => hk.2) (.int .i64 104)) (fun _ hk => hk.2) (.slice Ao7 y389.length co7)) (fun _ hk => hk.2) (.slice Ao6 y392.length co6)) (fun _ hk => trivial), by refine uR ?_; exact Kd.R_mono (Kd.R_far (p := ⟨gb388, 3, none⟩) (Kd.R_far (p := ⟨gb388, 2, none⟩) (Kd.R_far (p := ⟨gb388, 1, none⟩) (Kd.R_far (p := ⟨gb388, 0, none⟩) (Kd.R_types HO394.out BK388.out (by decide)) (fun _ hk => hk.2) (.int .i64 100)) (fun _ hk => hk.2) (.int .i64 104)) (fun _ hk => hk.2) (.slice Ao7 y389.length co7)) (fun _ hk => hk.2) (.slice Ao6 y392.length co6)) (fun _ hk => trivial), uB⟩
end Go.Proofs.YtdmdahafiiggiabGreatDoor.K
end
section
namespace Go.Proofs.YtdmdahafiiggiabGreatDoor.K
open Go.RowKit Go.Proofs.YtdmdahafiiggiabGreatDoorW.PrintWords Go.Proofs.YtdmdahafiiggiabGreatDoorW.PrintLast Go.Proofs.YtdmdahafiiggiabGreatDoorW.PrintMore
attribute [local go_sem] max2_int min2_int max_two min_two max_three min_three max_four min_four
def quinarialaw02_C.f  : Option ((List (S53))) := some (([(⟨30, 1, 1000⟩ : S53), (⟨50, 3, 15⟩ : S53), (⟨70, 5, 50⟩ : S53)] : List (S53)))
set_option maxHeartbeats 8000000 in
set_option maxRecDepth 100000 in
theorem quinarialaw02_C.calls  (r : List (S53)) (w : World) (h : quinarialaw02_C.f  = some r) :
  Calls Tryz.prog 54 #[] w fun e w' => ∃ v0_ : Value, e = .returned (v0_) ∧ Kd.R k53 53 w' w.heap.size (fun _ => True) v0_ r ∧ Below w.heap.size w w' := by
 have hu53 := Tryz.underlying53; have HB := Aside0.mk (Below.refl w.heap.size w); have H : (some (([(⟨30, 1, 1000⟩ : S53), (⟨50, 3, 15⟩ : S53), (⟨70, 5, 50⟩ : S53)] : List (S53)))) = some r := h; clear h; obtain ⟨y395, hy395⟩ : ∃ y_ : List (S53), y_ = (([(⟨30, 1, 1000⟩ : S53), (⟨50, 3, 15⟩ : S53), (⟨70, 5, 50⟩ : S53)] : List (S53))) := ⟨_, rfl⟩; rw [← hy395] at H; (try replace H := (Option.bind_some _ _).symm.trans H)
 have Ny395 := Aside0.mk hy395; clear hy395; obtain rfl := Option.some.inj H
 go_enter Tryz.func54, Tryz.ntmps54
 go_wp2_with (first | ((with_reducible refine gate_dst (N := 4) rfl ?_); refine Kd.R_lit k53 _ 53 ?hg (N := 4) ?hd (xs := ([(⟨30, 1, 1000⟩ : S53), (⟨50, 3, 15⟩ : S53), (⟨70, 5, 50⟩ : S53)] : List (S53))) (inner := [.int .i64 30, .int .i64 1, .int .i64 1000, .int .i64 50, .int .i64 3, .int .i64 15, .int .i64 70, .int .i64 5, .int .i64 50]) (ok := fun _ => True) (okp := fun _ => True) ?hr ?hp (fun _ hk => hk) trivial (Below.refl _ _) (Nat.le_refl _) (by simp) ?_; (case hd => rfl); (case hg => rfl); (case hr => first | (go_simp; done) | (go_simp; rfl)); (case hp => exact (Reps.c3 (show Kd.M k53 _ _ _ (⟨30, 1, 1000⟩ : S53) [.int .i64 30, .int .i64 1, .int .i64 1000] from (k53_mkM _ _ _ (⟨30, 1, 1000⟩ : S53) )) (Reps.c3 (show Kd.M k53 _ _ _ (⟨50, 3, 15⟩ : S53) [.int .i64 50, .int .i64 3, .int .i64 15] from (k53_mkM _ _ _ (⟨50, 3, 15⟩ : S53) )) (Reps.c3 (show Kd.M k53 _ _ _ (⟨70, 5, 50⟩ : S53) [.int .i64 70, .int .i64 5, .int .i64 50] from (k53_mkM _ _ _ (⟨70, 5, 50⟩ : S53) )) (Reps.none _ _))))); intro v396 w1 ho2 hb hg_ hnew_; clear hg_ hnew_; (first | rw [← Ny395.out] at ho2 | (simp only [Int.reduceToNat] at ho2; rw [← Ny395.out] at ho2)); have HO397 := Aside0.mk (Kd.R_lower ho2 (below_size uB)); replace HB := Aside0.mk (below_step uB hb); clear hb ho2))
 go_ret; exact ⟨_, uE, uR HO397.out, uB⟩
end Go.Proofs.YtdmdahafiiggiabGreatDoor.K
end
section
namespace Go.Proofs.YtdmdahafiiggiabGreatDoor.K
open Go.RowKit Go.Proofs.YtdmdahafiiggiabGreatDoorW.PrintWords Go.Proofs.YtdmdahafiiggiabGreatDoorW.PrintLast Go.Proofs.YtdmdahafiiggiabGreatDoorW.PrintMore
attribute [local go_sem] max2_int min2_int max_two min_two max_three min_three max_four min_four
def channel_isAge.f (a0 : Int) : Option (Bool) := (channel_in.f a0 0 200).bind fun t142 => (some t142)
set_option maxHeartbeats 8000000 in
set_option maxRecDepth 100000 in
theorem channel_isAge.calls (a0 : Int) (r : Bool) (w : World) (h : channel_isAge.f a0 = some r) :
  Calls Tryz.prog 71 #[.int .i64 a0] w fun e w' => e = .returned (.bool r) ∧ Drawn0 w w' := by
 have H : ((channel_in.f a0 0 200).bind fun t142 => (some t142)) = some r := h; clear h; replace H := Option.bind_eq_some_iff.mp H; obtain ⟨t142, A20, H⟩ := H; replace H : (some t142) = some r := H; have A2 := Aside0.mk A20; clear A20; obtain rfl := Option.some.inj H
 go_enter Tryz.func71, Tryz.ntmps71
 go_wp2_with (first | ((with_reducible refine gate_callee (f := 62) rfl ?_); refine goesL_ (some 4) rfl rfl Tryz.func62 (by kernel_rfl) rfl #[.int .i64 a0, .int .i64 0, .int .i64 200] rfl uM ?_; (with_reducible refine (channel_in.calls a0 0 200 t142 _ A2.out).mono ?_); rintro e w' ⟨rfl, ⟨nd, rfl⟩⟩; refine ⟨_, rfl, ?_⟩))
 go_ret; exact ⟨u0, by repeat (first | exact Drawn0.refl _ | apply Drawn0.step)⟩
end Go.Proofs.YtdmdahafiiggiabGreatDoor.K
end
section
namespace Go.Proofs.YtdmdahafiiggiabGreatDoor.K
open Go.RowKit Go.Proofs.YtdmdahafiiggiabGreatDoorW.PrintWords Go.Proofs.YtdmdahafiiggiabGreatDoorW.PrintLast Go.Proofs.YtdmdahafiiggiabGreatDoorW.PrintMore
attribute [local go_sem] max2_int min2_int max_two min_two max_three min_three max_four min_four
def channel_aged_greatest.f (a0_0 : Int) (a0_1 : Int) (a0_2 : Int) (a0_3 : Int) (a0_4 : Int) (a0_5 : Int) (a0_6 : Int) : Option (Int) := (channel_aged_cups.f a0_0 a0_1 a0_2 a0_3 a0_4 a0_5 a0_6 a0_3).bind fun t103 => (some t103)
set_option maxHeartbeats 8000000 in
set_option maxRecDepth 100000 in
theorem channel_aged_greatest.calls (a0_0 : Int) (a0_1 : Int) (a0_2 : Int) (a0_3 : Int) (a0_4 : Int) (a0_5 : Int) (a0_6 : Int) (r : Int) (w : World) (h : channel_aged_greatest.f a0_0 a0_1 a0_2 a0_3 a0_4 a0_5 a0_6 = some r) :
  Calls Tryz.prog 113 #[.agg #[.int .i64 a0_0, .int .i64 a0_1, .int .i64 a0_2, .int .i64 a0_3, .int .i64 a0_4, .int .i64 a0_5, .int .i64 a0_6]] w fun e w' => e = .returned (.int .i64 r) ∧ Below w.heap.size w w' := by
 have hu108 := Tryz.underlying108; have HB := Aside0.mk (Below.refl w.heap.size w); have H : ((channel_aged_cups.f a0_0 a0_1 a0_2 a0_3 a0_4 a0_5 a0_6 a0_3).bind fun t103 => (some t103)) = some r := h; clear h; replace H := Option.bind_eq_some_iff.mp H; obtain ⟨t103, A20, H⟩ := H; replace H : (some t103) = some r := H; have A2 := Aside0.mk A20; clear A20; obtain rfl := Option.some.inj H
 go_enter Tryz.func113, Tryz.ntmps113
 go_wp2_with (first | ((with_reducible refine gate_dst (N := 1) rfl ?_); refine bxe 1 #[.int .i64 a0_0, .int .i64 a0_1, .int .i64 a0_2, .int .i64 a0_3, .int .i64 a0_4, .int .i64 a0_5, .int .i64 a0_6] 108 ?_; intro gb102 hg w3 hbox hb; have n0_ := Aside0.mk (below_step uB hb); have n1_ := Aside0.mk (hbox); have n2_ := gw hg; have n3_ := gw hg; clear HB; have HB := n0_; have BK102 := n1_; have GW102 := n2_; have GE102 := n3_; clear n0_ n1_ n2_ n3_; clear hb hbox hg; obtain ⟨hcz4_0, hcz4_1, hcz4_2, hcz4_3, hcz4_4, hcz4_5, hcz4_6⟩ := cz7 BK102.out; obtain ⟨hfz4_0, hfz4_1, hfz4_2, hfz4_3, hfz4_4, hfz4_5, hfz4_6⟩ := fz7 BK102.out) | ((with_reducible refine gate_callee (f := 121) rfl ?_); refine goesL_ (some 8) rfl rfl Tryz.func121 (by kernel_rfl) rfl #[.agg #[.int .i64 a0_0, .int .i64 a0_1, .int .i64 a0_2, .int .i64 a0_3, .int .i64 a0_4, .int .i64 a0_5, .int .i64 a0_6], .int .i64 a0_3] rfl uM ?_; (with_reducible refine (channel_aged_cups.calls a0_0 a0_1 a0_2 a0_3 a0_4 a0_5 a0_6 a0_3 t103 _ A2.out).mono ?_); rintro e w5 ⟨rfl, hb⟩; refine ⟨_, rfl, ?_⟩; replace BK102 := Aside0.mk (blk_below (uK BK102.out) hb); replace HB := Aside0.mk (below_step uB hb); (try clear hb); (try clear hb2); (try clear hk); (try clear hi)))
 go_ret; exact ⟨uE, uB⟩
end Go.Proofs.YtdmdahafiiggiabGreatDoor.K
end
section
namespace Go.Proofs.YtdmdahafiiggiabGreatDoor.K
open Go.RowKit Go.Proofs.YtdmdahafiiggiabGreatDoorW.PrintWords Go.Proofs.YtdmdahafiiggiabGreatDoorW.PrintLast Go.Proofs.YtdmdahafiiggiabGreatDoorW.PrintMore
def channel_aged_span.f (a0_0 a0_1 a0_2 a0_3 a0_4 a0_5 a0_6 : Int) : Option (Int × Int) := (channel_aged_least.f a0_0 a0_1 a0_2 a0_3 a0_4 a0_5 a0_6).bind fun lo => (channel_aged_greatest.f a0_0 a0_1 a0_2 a0_3 a0_4 a0_5 a0_6).bind fun hi => some (lo, hi)
set_option maxRecDepth 100000 in
set_option maxHeartbeats 1000000 in
theorem channel_aged_span.calls (a0_0 : Int) (a0_1 : Int) (a0_2 : Int) (a0_3 : Int) (a0_4 : Int) (a0_5 : Int) (a0_6 : Int) (r1 : Int) (r2 : Int) (w : World) (h : channel_aged_span.f a0_0 a0_1 a0_2 a0_3 a0_4 a0_5 a0_6 = some (r1, r2)) :
    Calls Tryz.prog 73 #[.agg #[.int .i64 a0_0, .int .i64 a0_1, .int .i64 a0_2, .int .i64 a0_3, .int .i64 a0_4, .int .i64 a0_5, .int .i64 a0_6]] w fun e w' => e = .returned (.agg #[.int .i64 r1, .int .i64 r2]) ∧ Below w.heap.size w w' := by
  unfold channel_aged_span.f at h; obtain ⟨lo, h1, h⟩ := Option.bind_eq_some_iff.mp h; obtain ⟨hi, h2, h⟩ := Option.bind_eq_some_iff.mp h; obtain ⟨rfl, rfl⟩ := Prod.mk.inj (Option.some.inj h); have cl := fun W => channel_aged_least.calls a0_0 a0_1 a0_2 a0_3 a0_4 a0_5 a0_6 lo W h1; have cg := fun W => channel_aged_greatest.calls a0_0 a0_1 a0_2 a0_3 a0_4 a0_5 a0_6 hi W h2; have CL := Aside0.mk cl; have CG := Aside0.mk cg; clear cl cg h h1 h2; have hu1 := Tryz.underlying108; have hu2 := Tryz.underlying23; have hu3 := Tryz.underlying146; have hmf : ∀ (fn : Fn) (first cap : Array Value) (w : World), (Instr.makeFunc fn first cap).run Tryz.prog w = .ok (.func fn first cap) w := fun _ _ _ _ => rfl
  go_enter Tryz.func73, Tryz.ntmps73
  go_wp2

  go_region_with (first | (go_at_call 87; go_loud (refine (CL.out _).mono ?_; rintro e w1 ⟨rfl, hb1⟩; obtain ⟨hc1, hf1⟩ := bcell hb1; have hz1 := hb1.size; (try simp only [World.size_alloc, World.size_setCell, World.size_drew] at hz1 hc1 hf1); have k11 : w.heap.size + 1 < w1.heap.size := Nat.lt_of_lt_of_le (by simp) hz1; have k12 : w.heap.size + 1 + 1 < w1.heap.size := Nat.lt_of_lt_of_le (by simp) hz1)) | (go_at_call 113; refine (CG.out _).mono ?_; rintro e w2 ⟨rfl, hb2⟩; obtain ⟨hc2, hf2⟩ := bcell hb2; have hz2 := hb2.size; (try simp only [World.size_alloc, World.size_setCell, World.size_drew] at hz2 hc2 hf2); have k21 : w.heap.size + 1 < w2.heap.size := Nat.lt_of_lt_of_le (by first | exact k11 | simp) hz2; have k22 : w.heap.size + 1 + 1 < w2.heap.size := Nat.lt_of_lt_of_le (by first | exact k12 | simp) hz2))
  all_goals go_wp2
  all_goals
    refine bodyPost_ret (v := .agg #[.int .i64 lo, .int .i64 hi]) (by simp [results, Tryz.results73, go_sem, *]) rfl ⟨rfl, ?_⟩; refine below_set (below_set ?_ (by simp)) (by simp); have hs1 := hb1.size; have hs2 := hb2.size; simp at hs1 hs2
    first
      | exact below_then (below_then (show Below w.heap.size w _ from by repeat (first | exact Below.refl _ _ | apply below_alloc | apply pw_below_drewN | apply below_drew | refine below_set ?_ (by simp))) (by simp; omega) hb1) (by omega) hb2
      | exact below_then (below_then (show Below w.heap.size w _ from by repeat (first | exact Below.refl _ _ | apply below_alloc | apply pw_below_drewN | apply below_drew | refine below_set ?_ (by simp))) (by simp; omega) hb2) (by omega) hb1
end Go.Proofs.YtdmdahafiiggiabGreatDoor.K
end
section
namespace Go.Proofs.YtdmdahafiiggiabGreatDoor.K
open Go.RowKit Go.Proofs.YtdmdahafiiggiabGreatDoorW.PrintWords Go.Proofs.YtdmdahafiiggiabGreatDoorW.PrintLast Go.Proofs.YtdmdahafiiggiabGreatDoorW.PrintMore
attribute [local go_sem] max2_int min2_int max_two min_two max_three min_three max_four min_four
def channel_Carries.j0 : Nat → Int → Int → Bool → List Int → List (S66) → Option (Int × Int × Int)
 | 0, _, _, _, _, _ => none
 | k + 1, x1, x2, x21, x149000, x149001 => if x21 = true then (some (0, 0, 2)) else ((channel_aging.f x149000 x149001 x1 x2).bind fun bt153 => ((channel_aged_span.f bt153.1 bt153.2.1 bt153.2.2.1 bt153.2.2.2.1 bt153.2.2.2.2.1 bt153.2.2.2.2.2.1 bt153.2.2.2.2.2.2).bind fun bt160 => (some (bt160.1, bt160.2, 0))))
def channel_Carries.f (k : Nat) (l0_0 : List Int) (l0_1 : List (S66)) (a1 : Int) (a2 : Int) : Option (Int × Int × Int) := (channel_isLine.f l0_0 l0_1).bind fun t150 => (if t150 = true then ((channel_isStretch.f l0_0 l0_1 a1).bind fun t151 => (if t151 = true then ((channel_isAge.f a2).bind fun t152 => (channel_Carries.j0 k a1 a2 (!t152) l0_0 l0_1)) else (channel_Carries.j0 k a1 a2 true l0_0 l0_1))) else (channel_Carries.j0 k a1 a2 true l0_0 l0_1))
set_option maxHeartbeats 8000000 in
set_option maxRecDepth 100000 in
theorem channel_Carries.calls (k : Nat) (A0_0 : Option Addr) (c0_0 : Nat) (l0_0 : List Int) (A0_1 : Option Addr) (c0_1 : Nat) (l0_1 : List (S66)) (a1 : Int) (a2 : Int) (r1 : Int) (r2 : Int) (r3 : Int) (w : World) (hr0_0 : Kd.C (Kd.int .i64) w A0_0 l0_0.length l0_0) (hc0_0 : l0_0.length ≤ c0_0) (hr0_1 : Kd.C k66 w A0_1 l0_1.length l0_1) (hc0_1 : l0_1.length ≤ c0_1) (h : channel_Carries.f k l0_0 l0_1 a1 a2 = some (r1, r2, r3)) :
  Calls Tryz.prog 38 #[.agg #[.slice A0_0 l0_0.length c0_0, .slice A0_1 l0_1.length c0_1], .int .i64 a1, .int .i64 a2] w fun e w' => e = .returned (.tuple #[.agg #[.int .i64 r1, .int .i64 r2], .int .i64 r3]) ∧ Below w.heap.size w w' := by
 have hu60 := Tryz.underlying60; have hu23 := Tryz.underlying23; have HR0_0 := Aside0.mk hr0_0; have HC0_0 := Aside0.mk hc0_0; clear hr0_0 hc0_0; have HR0_1 := Aside0.mk hr0_1; have HC0_1 := Aside0.mk hc0_1; clear hr0_1 hc0_1; have HB := Aside0.mk (Below.refl w.heap.size w); have H : ((channel_isLine.f l0_0 l0_1).bind fun t150 => (if t150 = true then ((channel_isStretch.f l0_0 l0_1 a1).bind fun t151 => (if t151 = true then ((channel_isAge.f a2).bind fun t152 => (channel_Carries.j0 k a1 a2 (!t152) l0_0 l0_1)) else (channel_Carries.j0 k a1 a2 true l0_0 l0_1))) else (channel_Carries.j0 k a1 a2 true l0_0 l0_1))) = some (r1, r2, r3) := h; clear h; have HC4 := Aside0.mk H; clear H
 go_enter Tryz.func38, Tryz.ntmps38
 go_upto_region 1 with (first | ((with_reducible refine gate_dst (N := 3) rfl ?_); refine bxe 3 #[.slice A0_0 l0_0.length c0_0, .slice A0_1 l0_1.length c0_1] 60 ?_; intro gb148 hg w5 hbox hb; have n0_ := Aside0.mk (below_step uB hb); have n1_ := Aside0.mk (hbox); have n2_ := gw hg; have n3_ := gw hg; clear HB; have HB := n0_; have BK148 := n1_; have GW148 := n2_; have GE148 := n3_; clear n0_ n1_ n2_ n3_; clear hb hbox hg) | ((with_reducible refine gate_dst (N := 6) rfl ?_); refine bxe 6 #[.int .i64 0, .int .i64 0] 23 ?_; intro gb149 hg w6 hbox hb; have n0_ := Aside0.mk (blk_below (uK BK148.out) hb); have n1_ := Aside0.mk (below_step uB hb); have n2_ := Aside0.mk (hbox); have n3_ := gw hg; have n4_ := gw hg; have n5_ := nb BK148 hg; have n6_ := nc BK148 hg; clear BK148; clear HB; have BK148 := n0_; have HB := n1_; have BK149 := n2_; have GW149 := n3_; have GE149 := n4_; have NB148_149 := n5_; have NB149_148 := n6_; clear n0_ n1_ n2_ n3_ n4_ n5_ n6_; clear hb hbox hg))
 (try simp only [Act.put, List.setIfInBounds_toArray, List.set_cons_zero, List.set_cons_succ])
 go_cut [21] (fun v21 wc => ∃ (kq : Nat) (x21_3 : Bool), v21 = .bool x21_3 ∧ Aside0 (channel_Carries.j0 kq a1 a2 x21_3 l0_0 l0_1 = some (r1, r2, r3)) ∧ Aside0 (kq ≤ k) ∧ Aside0 (wc.heap[gb148]? = some (.cells #[(.slice A0_0 l0_0.length c0_0), (.slice A0_1 l0_1.length c0_1)] 60 (0, 0))) ∧ Aside0 (wc.heap[gb149]? = some (.cells #[.int .i64 0, .int .i64 0] 23 (0, 0))) ∧ Aside0 (Below w.heap.size w wc))
 case first =>
  have H := HC4.out; clear HC4; replace H := Option.bind_eq_some_iff.mp H; obtain ⟨t150, A70, H⟩ := H; replace H : (if t150 = true then ((channel_isStretch.f l0_0 l0_1 a1).bind fun t151 => (if t151 = true then ((channel_isAge.f a2).bind fun t152 => (channel_Carries.j0 k a1 a2 (!t152) l0_0 l0_1)) else (channel_Carries.j0 k a1 a2 true l0_0 l0_1))) else (channel_Carries.j0 k a1 a2 true l0_0 l0_1)) = some (r1, r2, r3) := H; have A7 := Aside0.mk A70; clear A70
  by_cases c8 : t150 = true
  ·subst c8; have H1 : ((channel_isStretch.f l0_0 l0_1 a1).bind fun t151 => (if t151 = true then ((channel_isAge.f a2).bind fun t152 => (channel_Carries.j0 k a1 a2 (!t152) l0_0 l0_1)) else (channel_Carries.j0 k a1 a2 true l0_0 l0_1))) = some (r1, r2, r3) := by rw [if_pos rfl] at H; exact H
   clear H; have H := H1; clear H1; replace H := Option.bind_eq_some_iff.mp H; obtain ⟨t151, A90, H⟩ := H; replace H : (if t151 = true then ((channel_isAge.f a2).bind fun t152 => (channel_Carries.j0 k a1 a2 (!t152) l0_0 l0_1)) else (channel_Carries.j0 k a1 a2 true l0_0 l0_1)) = some (r1, r2, r3) := H; have A9 := Aside0.mk A90; clear A90
   by_cases c10 : t151 = true
   ·subst c10; have H1 : ((channel_isAge.f a2).bind fun t152 => (channel_Carries.j0 k a1 a2 (!t152) l0_0 l0_1)) = some (r1, r2, r3) := by rw [if_pos rfl] at H; exact H
    clear H; have H := H1; clear H1; replace H := Option.bind_eq_some_iff.mp H; obtain ⟨t152, A110, H⟩ := H; replace H : (channel_Carries.j0 k a1 a2 (!t152) l0_0 l0_1) = some (r1, r2, r3) := H; have A11 := Aside0.mk A110; clear A110; have H' := Aside0.mk H; clear H; have hnb12 := NB148_149.out; have hnc12 := NB149_148.out; obtain ⟨hcz13_0, hcz13_1⟩ := cz2 BK148.out; obtain ⟨hfz13_0, hfz13_1⟩ := fz2 BK148.out
    go_wp2_with (first | ((with_reducible refine gate_callee (f := 69) rfl ?_); refine goesL_ (some 9) rfl rfl Tryz.func69 (by kernel_rfl) rfl #[.agg #[.slice A0_0 l0_0.length c0_0, .slice A0_1 l0_1.length c0_1]] rfl uM ?_; (with_reducible refine (channel_isLine.calls _ _ l0_0 _ _ l0_1 true _ ?side1 ?side2 ?side3 ?side4 A7.out).mono ?_); (case side1 => repeat (first | exact (Kd.C_below HR0_0.out HB.out) | (with_reducible refine Kd.C_alloc ?_ _) | (with_reducible refine Kd.C_drewN ?_ _) | (with_reducible refine Kd.C_drew ?_))); (case side2 => exact HC0_0.out); (case side3 => repeat (first | exact (Kd.C_below HR0_1.out HB.out) | (with_reducible refine Kd.C_alloc ?_ _) | (with_reducible refine Kd.C_drewN ?_ _) | (with_reducible refine Kd.C_drew ?_))); (case side4 => exact HC0_1.out); rintro e w14 ⟨rfl, hb⟩; refine ⟨_, rfl, ?_⟩; replace BK148 := Aside0.mk (blk_below (uK BK148.out) hb); replace BK149 := Aside0.mk (blk_below (uK BK149.out) hb); replace HB := Aside0.mk (below_step uB hb); (try clear hb); (try clear hb2); (try clear hk); (try clear hi); obtain ⟨hcz15_0, hcz15_1⟩ := cz2 BK148.out; obtain ⟨hfz15_0, hfz15_1⟩ := fz2 BK148.out) | (go_at_call 70; (with_reducible refine (channel_isStretch.calls _ _ l0_0 _ _ l0_1 a1 true _ ?side1 ?side2 ?side3 ?side4 A9.out).mono ?_); (case side1 => repeat (first | exact (Kd.C_below HR0_0.out HB.out) | (with_reducible refine Kd.C_alloc ?_ _) | (with_reducible refine Kd.C_drewN ?_ _) | (with_reducible refine Kd.C_drew ?_))); (case side2 => exact HC0_0.out); (case side3 => repeat (first | exact (Kd.C_below HR0_1.out HB.out) | (with_reducible refine Kd.C_alloc ?_ _) | (with_reducible refine Kd.C_drewN ?_ _) | (with_reducible refine Kd.C_drew ?_))); (case side4 => exact HC0_1.out); rintro e w16 ⟨rfl, hb⟩; replace BK148 := Aside0.mk (blk_below (uK BK148.out) hb); replace BK149 := Aside0.mk (blk_below (uK BK149.out) hb); replace HB := Aside0.mk (below_step uB hb); (try clear hb); (try clear hb2); (try clear hk); (try clear hi)) | (go_at_call 71; (with_reducible refine (channel_isAge.calls a2 t152 _ A11.out).mono ?_); rintro e w' ⟨rfl, ⟨nd, rfl⟩⟩))
    go_meet
    case rel => exact ⟨_, (!t152), u0, H', ⟨u1⟩, ⟨uK BK148.out⟩, ⟨uK BK149.out⟩, ⟨uB⟩⟩
   ·replace c10 := Bool.eq_false_iff.mpr c10; subst c10; have H1 : (channel_Carries.j0 k a1 a2 true l0_0 l0_1) = some (r1, r2, r3) := by rw [if_neg (show ¬ (false = true) by decide)] at H; exact H
    clear H; have H := H1; clear H1; have H' := Aside0.mk H; clear H; have hnb17 := NB148_149.out; have hnc17 := NB149_148.out; obtain ⟨hcz18_0, hcz18_1⟩ := cz2 BK148.out; obtain ⟨hfz18_0, hfz18_1⟩ := fz2 BK148.out
    go_wp2_with (first | ((with_reducible refine gate_callee (f := 69) rfl ?_); refine goesL_ (some 9) rfl rfl Tryz.func69 (by kernel_rfl) rfl #[.agg #[.slice A0_0 l0_0.length c0_0, .slice A0_1 l0_1.length c0_1]] rfl uM ?_; (with_reducible refine (channel_isLine.calls _ _ l0_0 _ _ l0_1 true _ ?side1 ?side2 ?side3 ?side4 A7.out).mono ?_); (case side1 => repeat (first | exact (Kd.C_below HR0_0.out HB.out) | (with_reducible refine Kd.C_alloc ?_ _) | (with_reducible refine Kd.C_drewN ?_ _) | (with_reducible refine Kd.C_drew ?_))); (case side2 => exact HC0_0.out); (case side3 => repeat (first | exact (Kd.C_below HR0_1.out HB.out) | (with_reducible refine Kd.C_alloc ?_ _) | (with_reducible refine Kd.C_drewN ?_ _) | (with_reducible refine Kd.C_drew ?_))); (case side4 => exact HC0_1.out); rintro e w19 ⟨rfl, hb⟩; refine ⟨_, rfl, ?_⟩; replace BK148 := Aside0.mk (blk_below (uK BK148.out) hb); replace BK149 := Aside0.mk (blk_below (uK BK149.out) hb); replace HB := Aside0.mk (below_step uB hb); (try clear hb); (try clear hb2); (try clear hk); (try clear hi); obtain ⟨hcz20_0, hcz20_1⟩ := cz2 BK148.out; obtain ⟨hfz20_0, hfz20_1⟩ := fz2 BK148.out) | (go_at_call 70; (with_reducible refine (channel_isStretch.calls _ _ l0_0 _ _ l0_1 a1 false _ ?side1 ?side2 ?side3 ?side4 A9.out).mono ?_); (case side1 => repeat (first | exact (Kd.C_below HR0_0.out HB.out) | (with_reducible refine Kd.C_alloc ?_ _) | (with_reducible refine Kd.C_drewN ?_ _) | (with_reducible refine Kd.C_drew ?_))); (case side2 => exact HC0_0.out); (case side3 => repeat (first | exact (Kd.C_below HR0_1.out HB.out) | (with_reducible refine Kd.C_alloc ?_ _) | (with_reducible refine Kd.C_drewN ?_ _) | (with_reducible refine Kd.C_drew ?_))); (case side4 => exact HC0_1.out); rintro e w21 ⟨rfl, hb⟩; replace BK148 := Aside0.mk (blk_below (uK BK148.out) hb); replace BK149 := Aside0.mk (blk_below (uK BK149.out) hb); replace HB := Aside0.mk (below_step uB hb); (try clear hb); (try clear hb2); (try clear hk); (try clear hi)))
    go_meet
    case rel => exact ⟨_, (true), u0, H', ⟨u1⟩, ⟨uK BK148.out⟩, ⟨uK BK149.out⟩, ⟨uB⟩⟩
  ·replace c8 := Bool.eq_false_iff.mpr c8; subst c8; have H1 : (channel_Carries.j0 k a1 a2 true l0_0 l0_1) = some (r1, r2, r3) := by rw [if_neg (show ¬ (false = true) by decide)] at H; exact H
   clear H; have H := H1; clear H1; have H' := Aside0.mk H; clear H; have hnb22 := NB148_149.out; have hnc22 := NB149_148.out; obtain ⟨hcz23_0, hcz23_1⟩ := cz2 BK148.out; obtain ⟨hfz23_0, hfz23_1⟩ := fz2 BK148.out
   go_wp2_with (first | ((with_reducible refine gate_callee (f := 69) rfl ?_); refine goesL_ (some 9) rfl rfl Tryz.func69 (by kernel_rfl) rfl #[.agg #[.slice A0_0 l0_0.length c0_0, .slice A0_1 l0_1.length c0_1]] rfl uM ?_; (with_reducible refine (channel_isLine.calls _ _ l0_0 _ _ l0_1 false _ ?side1 ?side2 ?side3 ?side4 A7.out).mono ?_); (case side1 => repeat (first | exact (Kd.C_below HR0_0.out HB.out) | (with_reducible refine Kd.C_alloc ?_ _) | (with_reducible refine Kd.C_drewN ?_ _) | (with_reducible refine Kd.C_drew ?_))); (case side2 => exact HC0_0.out); (case side3 => repeat (first | exact (Kd.C_below HR0_1.out HB.out) | (with_reducible refine Kd.C_alloc ?_ _) | (with_reducible refine Kd.C_drewN ?_ _) | (with_reducible refine Kd.C_drew ?_))); (case side4 => exact HC0_1.out); rintro e w24 ⟨rfl, hb⟩; refine ⟨_, rfl, ?_⟩; replace BK148 := Aside0.mk (blk_below (uK BK148.out) hb); replace BK149 := Aside0.mk (blk_below (uK BK149.out) hb); replace HB := Aside0.mk (below_step uB hb); (try clear hb); (try clear hb2); (try clear hk); (try clear hi)))
   go_meet
   case rel => exact ⟨_, (true), u0, H', ⟨u1⟩, ⟨uK BK148.out⟩, ⟨uK BK149.out⟩, ⟨uB⟩⟩
 case rest =>
  clear HC4; try clear c1; try clear c2; try clear p2; try clear c3; try clear c6; try clear c8; try clear c10; try clear c12; try clear c17; try clear c22; try clear hcz13_0; try clear hcz13_1; try clear hcz15_0; try clear hcz15_1; try clear hcz18_0; try clear hcz18_1; try clear hcz20_0; try clear hcz20_1; try clear hcz23_0; try clear hcz23_1; try clear hfz13_0; try clear hfz13_1; try clear hfz15_0; try clear hfz15_1; try clear hfz18_0; try clear hfz18_1; try clear hfz20_0; try clear hfz20_1; try clear hfz23_0; try clear hfz23_1
  obtain ⟨kq, x21_3, rfl, HA, HJ3, BK148, BK149, HB⟩ := hcut
  cases kq with
  | zero => exact absurd HA.out (by simp [channel_Carries.j0])
  | succ kj3 =>
   have H := HA.out; clear HA; simp only [channel_Carries.j0] at H
   by_cases c25 : x21_3 = true
   ·subst c25; have H1 : (some (0, 0, 2)) = some (r1, r2, r3) := by rw [if_pos rfl] at H; exact H
    clear H; have H := H1; clear H1; simp only [Option.some.injEq, Prod.mk.injEq] at H; obtain ⟨rfl, rfl, rfl⟩ := H; have hnb26 := NB149_148.out; have hnc26 := NB148_149.out; obtain ⟨hcz27_0, hcz27_1⟩ := cz2 BK149.out; obtain ⟨hfz27_0, hfz27_1⟩ := fz2 BK149.out; go_wp2; refine bodyPost_ret (results_ct rfl _ _ gb149 23 #[.int .i64 0, .int .i64 0] (0, 0) _ rfl (by refine uK ?_; refine blk_put (cs := #[.int .i64 0, .int .i64 0]) ?_ 1 _ rfl; refine uK ?_; refine blk_put (cs := #[.int .i64 0, .int .i64 0]) ?_ 0 _ rfl; refine uK ?_; exact BK149.out) Tryz.underlying23 rfl (by kernel_rfl)) rfl ?_; exact ⟨uE, uB⟩
   ·replace c25 := Bool.eq_false_iff.mpr c25; subst c25; have H1 : ((channel_aging.f l0_0 l0_1 a1 a2).bind fun bt153 => ((channel_aged_span.f bt153.1 bt153.2.1 bt153.2.2.1 bt153.2.2.2.1 bt153.2.2.2.2.1 bt153.2.2.2.2.2.1 bt153.2.2.2.2.2.2).bind fun bt160 => (some (bt160.1, bt160.2, 0)))) = some (r1, r2, r3) := by rw [if_neg (show ¬ (false = true) by decide)] at H; exact H
    clear H; have H := H1; clear H1; replace H := Option.bind_eq_some_iff.mp H; obtain ⟨⟨t153, t154, t155, t156, t157, t158, t159⟩, A280, H⟩ := H; replace H : ((channel_aged_span.f t153 t154 t155 t156 t157 t158 t159).bind fun bt160 => (some (bt160.1, bt160.2, 0))) = some (r1, r2, r3) := H; have A28 := Aside0.mk A280; clear A280; replace H := Option.bind_eq_some_iff.mp H; obtain ⟨⟨t160, t161⟩, A290, H⟩ := H; replace H : (some (t160, t161, 0)) = some (r1, r2, r3) := H; have A29 := Aside0.mk A290; clear A290; simp only [Option.some.injEq, Prod.mk.injEq] at H; obtain ⟨rfl, rfl, rfl⟩ := H; have hnb30 := NB148_149.out; have hnc30 := NB149_148.out; obtain ⟨hcz31_0, hcz31_1⟩ := cz2 BK148.out; obtain ⟨hfz31_0, hfz31_1⟩ := fz2 BK148.out
    go_wp2_with (first | ((with_reducible refine gate_callee (f := 72) rfl ?_); refine goesL_ (some 26) rfl rfl Tryz.func72 (by kernel_rfl) rfl #[.agg #[.slice A0_0 l0_0.length c0_0, .slice A0_1 l0_1.length c0_1], .int .i64 a1, .int .i64 a2] rfl uM ?_; (with_reducible refine (channel_aging.calls _ _ l0_0 _ _ l0_1 a1 a2 t153 t154 t155 t156 t157 t158 t159 _ ?side1 ?side2 ?side3 ?side4 A28.out).mono ?_); (case side1 => repeat (first | exact (Kd.C_below HR0_0.out HB.out) | (with_reducible refine Kd.C_alloc ?_ _) | (with_reducible refine Kd.C_drewN ?_ _) | (with_reducible refine Kd.C_drew ?_))); (case side2 => exact HC0_0.out); (case side3 => repeat (first | exact (Kd.C_below HR0_1.out HB.out) | (with_reducible refine Kd.C_alloc ?_ _) | (with_reducible refine Kd.C_drewN ?_ _) | (with_reducible refine Kd.C_drew ?_))); (case side4 => exact HC0_1.out); rintro e w32 ⟨rfl, hb⟩; refine ⟨_, rfl, ?_⟩; replace BK148 := Aside0.mk (blk_below (uK BK148.out) hb); replace BK149 := Aside0.mk (blk_below (uK BK149.out) hb); replace HB := Aside0.mk (below_step uB hb); (try clear hb); (try clear hb2); (try clear hk); (try clear hi)) | ((with_reducible refine gate_callee (f := 73) rfl ?_); refine goesL_ (some 27) rfl rfl Tryz.func73 (by kernel_rfl) rfl #[.agg #[.int .i64 t153, .int .i64 t154, .int .i64 t155, .int .i64 t156, .int .i64 t157, .int .i64 t158, .int .i64 t159]] rfl uM ?_; (with_reducible refine (channel_aged_span.calls t153 t154 t155 t156 t157 t158 t159 t160 t161 _ A29.out).mono ?_); rintro e w33 ⟨rfl, hb⟩; refine ⟨_, rfl, ?_⟩; replace BK148 := Aside0.mk (blk_below (uK BK148.out) hb); replace BK149 := Aside0.mk (blk_below (uK BK149.out) hb); replace HB := Aside0.mk (below_step uB hb); (try clear hb); (try clear hb2); (try clear hk); (try clear hi); obtain ⟨hcz34_0, hcz34_1⟩ := cz2 BK149.out; obtain ⟨hfz34_0, hfz34_1⟩ := fz2 BK149.out))
    refine bodyPost_ret (results_ct rfl _ _ gb149 23 #[.int .i64 t160, .int .i64 t161] (0, 0) _ rfl (by refine uK ?_; refine blk_put (cs := #[.int .i64 t160, .int .i64 0]) ?_ 1 _ rfl; refine uK ?_; refine blk_put (cs := #[.int .i64 0, .int .i64 0]) ?_ 0 _ rfl; refine uK ?_; exact BK149.out) Tryz.underlying23 rfl (by kernel_rfl)) rfl ?_; exact ⟨uE, uB⟩
end Go.Proofs.YtdmdahafiiggiabGreatDoor.K
end
section
namespace Go.Proofs.YtdmdahafiiggiabGreatDoor.K
open Go.RowKit Go.Proofs.YtdmdahafiiggiabGreatDoorW.PrintWords Go.Proofs.YtdmdahafiiggiabGreatDoorW.PrintLast Go.Proofs.YtdmdahafiiggiabGreatDoorW.PrintMore
attribute [local go_sem] max2_int min2_int max_two min_two max_three min_three max_four min_four
def channel_spans.l0 : Nat → List (S23) → List Int → Int → Int → List Int → List (S66) → Option ((List (S23)))
 | 0, _, _, _, _, _, _ => none
 | k + 1, x5, x8, x9, x10, x163000, x163001 => if x10 < x9 then (if 0 ≤ x10 then (if x10 < (x8.length : Int) then ((channel_aging.f x163000 x163001 x10 (rd x8 x10)).bind fun bt164 => ((channel_aged_span.f bt164.1 bt164.2.1 bt164.2.2.1 bt164.2.2.2.1 bt164.2.2.2.2.1 bt164.2.2.2.2.2.1 bt164.2.2.2.2.2.2).bind fun bt171 => (if x5.length < 8796093022208 then (channel_spans.l0 k (x5 ++ [(⟨bt171.1, bt171.2⟩ : S23)]) x8 x9 (wrap64 (x10 + 1)) x163000 x163001) else (none)))) else (none)) else (none)) else (some x5)
def channel_spans.f (k : Nat) (l0_0 : List Int) (l0_1 : List (S66)) (l1 : List Int) : Option ((List (S23))) := channel_spans.l0 k ([] : List (S23)) l1 (l1.length : Int) 0 l0_0 l0_1
set_option maxHeartbeats 8000000 in
set_option maxRecDepth 100000 in
theorem channel_spans.calls (k : Nat) (A0_0 : Option Addr) (c0_0 : Nat) (l0_0 : List Int) (A0_1 : Option Addr) (c0_1 : Nat) (l0_1 : List (S66)) (A1 : Option Addr) (c1 : Nat) (l1 : List Int) (r : List (S23)) (w : World) (hr0_0 : Kd.C (Kd.int .i64) w A0_0 l0_0.length l0_0) (hc0_0 : l0_0.length ≤ c0_0) (hr0_1 : Kd.C k66 w A0_1 l0_1.length l0_1) (hc0_1 : l0_1.length ≤ c0_1) (hr1 : Kd.C (Kd.int .i64) w A1 l1.length l1) (hc1 : l1.length ≤ c1) (h : channel_spans.f k l0_0 l0_1 l1 = some r) :
  Calls Tryz.prog 75 #[.agg #[.slice A0_0 l0_0.length c0_0, .slice A0_1 l0_1.length c0_1], .slice A1 l1.length c1] w fun e w' => ∃ v0_ : Value, e = .returned (v0_) ∧ Kd.R k23 23 w' w.heap.size (fun _ => True) v0_ r ∧ Below w.heap.size w w' := by
 have hu60 := Tryz.underlying60; have HR0_0 := Aside0.mk hr0_0; have HC0_0 := Aside0.mk hc0_0; clear hr0_0 hc0_0; have HR0_1 := Aside0.mk hr0_1; have HC0_1 := Aside0.mk hc0_1; clear hr0_1 hc0_1; have HR1 := Aside0.mk hr1; have HC1 := Aside0.mk hc1; clear hr1 hc1; have HB := Aside0.mk (Below.refl w.heap.size w); have H : (channel_spans.l0 k ([] : List (S23)) l1 (l1.length : Int) 0 l0_0 l0_1) = some r := h; clear h; have H' := Aside0.mk H; clear H
 go_enter Tryz.func75, Tryz.ntmps75
 go_wp2_with (first | ((with_reducible refine gate_dst (N := 2) rfl ?_); refine bxe 2 #[.slice A0_0 l0_0.length c0_0, .slice A0_1 l0_1.length c0_1] 60 ?_; intro gb162 hg w3 hbox hb; have n0_ := Aside0.mk (below_step uB hb); have n1_ := Aside0.mk (hbox); have n2_ := gw hg; have n3_ := gw hg; clear HB; have HB := n0_; have BK162 := n1_; have GW162 := n2_; have GE162 := n3_; clear n0_ n1_ n2_ n3_; clear hb hbox hg))
 go_loopg [5, 10] k (fun kq v5 v10 w' => ∃ (x5_1 : List (S23)) (x10_1 : Int), v10 = .int .i64 x10_1 ∧ Aside0 (channel_spans.l0 kq x5_1 l1 (l1.length : Int) x10_1 l0_0 l0_1 = some r) ∧ Aside0 (kq ≤ k) ∧ Aside0 (Kd.R k23 23 w' w.heap.size (fun _ => True) v5 x5_1) ∧ Aside0 (w'.heap[gb162]? = some (.cells #[(.slice A0_0 l0_0.length c0_0), (.slice A0_1 l0_1.length c0_1)] 60 (0, 0))) ∧ Aside0 (Below w.heap.size w w'))
 case atStart => exact ⟨(([] : List (S23))), (0), u0, H', ⟨Nat.le_refl _⟩, ⟨uN⟩, ⟨uK BK162.out⟩, ⟨uB⟩⟩
 case round =>
  clear H'; try clear c1; try clear p2
  obtain ⟨x5_1, x10_1, rfl, HA, HK1, HO_5, BK162, HB⟩ := hrel
  cases gk with
  | zero => exact absurd HA.out (by simp [channel_spans.l0])
  | succ k1 =>
   have H := HA.out; clear HA; simp only [channel_spans.l0] at H
   by_cases c4 : x10_1 < (l1.length : Int)
   ·rw [if_pos c4] at H; replace c4 := decide_eq_true c4; obtain ⟨c5, H⟩ := ifs H; replace c5 := decide_eq_true c5; obtain ⟨c6, H⟩ := ifs H; replace c6 := decide_eq_true c6; replace H := Option.bind_eq_some_iff.mp H; obtain ⟨⟨t164, t165, t166, t167, t168, t169, t170⟩, A70, H⟩ := H; replace H : ((channel_aged_span.f t164 t165 t166 t167 t168 t169 t170).bind fun bt171 => (if x5_1.length < 8796093022208 then (channel_spans.l0 k1 (x5_1 ++ [(⟨bt171.1, bt171.2⟩ : S23)]) l1 (l1.length : Int) (wrap64 (x10_1 + 1)) l0_0 l0_1) else (none))) = some r := H; have A7 := Aside0.mk A70; clear A70; replace H := Option.bind_eq_some_iff.mp H; obtain ⟨⟨t171, t172⟩, A80, H⟩ := H; replace H : (if x5_1.length < 8796093022208 then (channel_spans.l0 k1 (x5_1 ++ [(⟨t171, t172⟩ : S23)]) l1 (l1.length : Int) (wrap64 (x10_1 + 1)) l0_0 l0_1) else (none)) = some r := H; have A8 := Aside0.mk A80; clear A80; obtain ⟨c9, H⟩ := ifs H; have LMc9 := Aside0.mk c9; clear c9; obtain ⟨y173, hy173⟩ : ∃ y_ : List (S23), y_ = (x5_1 ++ [(⟨t171, t172⟩ : S23)]) := ⟨_, rfl⟩; rw [← hy173] at H; (try replace H := (Option.bind_some _ _).symm.trans H)
    have Ny173 := Aside0.mk hy173; clear hy173; have H' := Aside0.mk H; clear H; have p163 : 0 ≤ (x10_1 : Int) := uD; have q163 : x10_1 < (l1.length : Int) := uD; obtain ⟨ad163, e163, hx163_0⟩ := Kd.at_int HR1.out x10_1 p163 q163
    cases e163
    replace hx163_0 := hcell HB.out hx163_0; replace p163 := eq_true p163; replace q163 := eq_true q163; obtain ⟨hcz10_0, hcz10_1⟩ := cz2 BK162.out; obtain ⟨hfz10_0, hfz10_1⟩ := fz2 BK162.out
    go_wp2_with (first | ((with_reducible refine gate_callee (f := 72) rfl ?_); refine goesL_ (some 19) rfl rfl Tryz.func72 (by kernel_rfl) rfl #[.agg #[.slice A0_0 l0_0.length c0_0, .slice A0_1 l0_1.length c0_1], .int .i64 x10_1, .int .i64 (rd l1 x10_1)] rfl uM ?_; (with_reducible refine (channel_aging.calls _ _ l0_0 _ _ l0_1 x10_1 (rd l1 x10_1) t164 t165 t166 t167 t168 t169 t170 _ ?side1 ?side2 ?side3 ?side4 A7.out).mono ?_); (case side1 => repeat (first | exact (Kd.C_below HR0_0.out HB.out) | (with_reducible refine Kd.C_alloc ?_ _) | (with_reducible refine Kd.C_drewN ?_ _) | (with_reducible refine Kd.C_drew ?_))); (case side2 => exact HC0_0.out); (case side3 => repeat (first | exact (Kd.C_below HR0_1.out HB.out) | (with_reducible refine Kd.C_alloc ?_ _) | (with_reducible refine Kd.C_drewN ?_ _) | (with_reducible refine Kd.C_drew ?_))); (case side4 => exact HC0_1.out); rintro e w11 ⟨rfl, hb⟩; refine ⟨_, rfl, ?_⟩; replace HO_5 := Aside0.mk (Kd.R_below (uR HO_5.out) hb); replace BK162 := Aside0.mk (blk_below (uK BK162.out) hb); replace HB := Aside0.mk (below_step uB hb); (try clear hb); (try clear hb2); (try clear hk); (try clear hi)) | ((with_reducible refine gate_callee (f := 73) rfl ?_); refine goesL_ (some 20) rfl rfl Tryz.func73 (by kernel_rfl) rfl #[.agg #[.int .i64 t164, .int .i64 t165, .int .i64 t166, .int .i64 t167, .int .i64 t168, .int .i64 t169, .int .i64 t170]] rfl uM ?_; (with_reducible refine (channel_aged_span.calls t164 t165 t166 t167 t168 t169 t170 t171 t172 _ A8.out).mono ?_); rintro e w12 ⟨rfl, hb⟩; refine ⟨_, rfl, ?_⟩; replace HO_5 := Aside0.mk (Kd.R_below (uR HO_5.out) hb); replace BK162 := Aside0.mk (blk_below (uK BK162.out) hb); replace HB := Aside0.mk (below_step uB hb); (try clear hb); (try clear hb2); (try clear hk); (try clear hi)) | ((with_reducible refine gate_builtin (b := .append) (xs := #[.tmp 15, .tmp 21]) rfl ?_); at_builtin; refine Kd.R_append k23 (w0 := w) w.heap.size rfl (.tmp 15) (.tmp 21) 24 23 (.agg #[(.int .i64 0), (.int .i64 0)]) 16 rfl Tryz.underlying24 info23 rfl (by decide) (by omega) u5 x5_1 (⟨t171, t172⟩ : S23) [.int .i64 t171, .int .i64 t172] (fun _ => True) (fun _ => False) rfl rfl ?aP (fun _ hk => hk.elim) ?aF ?aO ?aB ?aS ?aL ?_; (case aP => exact k23_mkM _ _ _ (⟨t171, t172⟩ : S23)); (case aB => exact uB); (case aF => exact (fun _ _ => trivial)); (case aO => exact (uR HO_5.out)); (case aS => exact (below_size uB)); (case aL => have := LMc9.out; omega); intro v174 w13 ho hb hg hat; rw [← Ny173.out] at ho; replace BK162 := Aside0.mk (blk_grown (uK BK162.out) hg (Kd.R_ne HO_5.out BK162.out (by decide))); have HO175 := Aside0.mk (ho); replace HB := Aside0.mk (hb); clear HO_5; clear ho hb hg hat))
    go_roundg k1
    case measure => have := HK1.out; omega
    case rel => exact ⟨(y173), (wrap64 (x10_1 + 1)), u0, H', ⟨by have := HK1.out; omega⟩, ⟨uR HO175.out⟩, ⟨uK BK162.out⟩, ⟨uB⟩⟩
   ·rw [if_neg c4] at H; replace c4 := decide_eq_false c4; obtain rfl := Option.some.inj H; go_wp2; go_ret; exact ⟨_, uE, uR HO_5.out, uB⟩
end Go.Proofs.YtdmdahafiiggiabGreatDoor.K
end
section
namespace Go.Proofs.YtdmdahafiiggiabGreatDoor.K
open Go.RowKit Go.Proofs.YtdmdahafiiggiabGreatDoorW.PrintWords Go.Proofs.YtdmdahafiiggiabGreatDoorW.PrintLast Go.Proofs.YtdmdahafiiggiabGreatDoorW.PrintMore
attribute [local go_sem] max2_int min2_int max_two min_two max_three min_three max_four min_four
def channel_lowest.l0 : Nat → Int → List Int → Int → Int → Option (Int)
 | 0, _, _, _, _ => none
 | k + 1, x0, x7, x8, x9 => if x9 < x8 then (if 0 ≤ x9 then (if x9 < (x7.length : Int) then (channel_lowest.l0 k (mn x0 (rd x7 x9)) x7 x8 (wrap64 (x9 + 1))) else (none)) else (none)) else (some x0)
def channel_lowest.f (k : Nat) (a0 : Int) (l1 : List Int) : Option (Int) := channel_lowest.l0 k a0 l1 (l1.length : Int) 0
set_option maxHeartbeats 8000000 in
set_option maxRecDepth 100000 in
theorem channel_lowest.calls (k : Nat) (a0 : Int) (A1 : Option Addr) (c1 : Nat) (l1 : List Int) (r : Int) (w : World) (hr1 : Kd.C (Kd.int .i64) w A1 l1.length l1) (hc1 : l1.length ≤ c1) (h : channel_lowest.f k a0 l1 = some r) :
  Calls Tryz.prog 76 #[.int .i64 a0, .slice A1 l1.length c1] w fun e w' => e = .returned (.int .i64 r) ∧ Below w.heap.size w w' := by
 have HR1 := Aside0.mk hr1; have HC1 := Aside0.mk hc1; clear hr1 hc1; have HB := Aside0.mk (Below.refl w.heap.size w); have H : (channel_lowest.l0 k a0 l1 (l1.length : Int) 0) = some r := h; clear h; have H' := Aside0.mk H; clear H
 go_enter Tryz.func76, Tryz.ntmps76
 go_wp2
 go_loopg [0, 9] k (fun kq v0 v9 w' => ∃ (x0_1 : Int) (x9_1 : Int), v0 = .int .i64 x0_1 ∧ v9 = .int .i64 x9_1 ∧ Aside0 (channel_lowest.l0 kq x0_1 l1 (l1.length : Int) x9_1 = some r) ∧ Aside0 (kq ≤ k) ∧ Aside0 (Below w.heap.size w w'))
 case atStart => exact ⟨(a0), (0), u0, u0, H', ⟨Nat.le_refl _⟩, ⟨uB⟩⟩
 case round =>
  clear H'; try clear c1; try clear p2
  obtain ⟨x0_1, x9_1, rfl, rfl, HA, HK1, HB⟩ := hrel
  cases gk with
  | zero => exact absurd HA.out (by simp [channel_lowest.l0])
  | succ k1 =>
   have H := HA.out; clear HA; simp only [channel_lowest.l0] at H
   by_cases c3 : x9_1 < (l1.length : Int)
   ·rw [if_pos c3] at H; replace c3 := decide_eq_true c3; obtain ⟨c4, H⟩ := ifs H; replace c4 := decide_eq_true c4; obtain ⟨c5, H⟩ := ifs H; replace c5 := decide_eq_true c5; obtain ⟨ji6, hji6⟩ : ∃ j_ : Int, (mn x0_1 (rd l1 x9_1)) = j_ := ⟨_, rfl⟩; replace H : (channel_lowest.l0 k1 ji6 l1 (l1.length : Int) (wrap64 (x9_1 + 1))) = some r := by first | (rw [hji6] at H; exact H) | (simp only [hji6] at H ⊢; exact H)
    have hji6_ : (if (rd l1 x9_1) < x0_1 then (rd l1 x9_1) else x0_1) = ji6 := hji6; have H' := Aside0.mk H; clear H; have p176 : 0 ≤ (x9_1 : Int) := uD; have q176 : x9_1 < (l1.length : Int) := uD; obtain ⟨ad176, e176, hx176_0⟩ := Kd.at_int HR1.out x9_1 p176 q176
    cases e176
    replace hx176_0 := hcell HB.out hx176_0; replace p176 := eq_true p176; replace q176 := eq_true q176; go_wp2
    go_roundg k1
    case measure => have := HK1.out; omega
    case rel => exact ⟨(ji6), (wrap64 (x9_1 + 1)), (by first | rfl | (simp; done) | (simp only [← hji6] <;> (first | rfl | simp)) | (simp [*]; done)), u0, H', ⟨by have := HK1.out; omega⟩, ⟨uB⟩⟩
   ·rw [if_neg c3] at H; replace c3 := decide_eq_false c3; obtain rfl := Option.some.inj H; go_wp2; go_ret; exact ⟨uE, uB⟩
end Go.Proofs.YtdmdahafiiggiabGreatDoor.K
end
section
namespace Go.Proofs.YtdmdahafiiggiabGreatDoor.K
open Go.RowKit Go.Proofs.YtdmdahafiiggiabGreatDoorW.PrintWords Go.Proofs.YtdmdahafiiggiabGreatDoorW.PrintLast Go.Proofs.YtdmdahafiiggiabGreatDoorW.PrintMore
attribute [local go_sem] max2_int min2_int max_two min_two max_three min_three max_four min_four
mutual
def channel_Line.j0 : Nat → List Int → Bool → List Int → List (S66) → Option (Int × Int × Int)
 | 0, _, _, _, _ => none
 | k + 1, x1, x18, x178000, x178001 => if x18 = true then (some (0, 0, 2)) else ((channel_spans.f k x178000 x178001 x1).bind fun t181 => (channel_Line.l0 k ([] : List Int) ([] : List Int) t181 (t181.length : Int) 0))
def channel_Line.l0 : Nat → List Int → List Int → List (S23) → Int → Int → Option (Int × Int × Int)
 | 0, _, _, _, _, _ => none
 | k + 1, x6, x7, x22, x23, x24 => if x24 < x23 then (if 0 ≤ x24 then (if x24 < (x22.length : Int) then ((some (([(rd_T23 x22 x24).f0] : List Int) : List Int)).bind fun y186 => (if x6.length + y186.length < 17592186044416 then ((some (([(rd_T23 x22 x24).f1] : List Int) : List Int)).bind fun y192 => (if x7.length + y192.length < 17592186044416 then (channel_Line.l0 k (x6 ++ y186) (x7 ++ y192) x22 x23 (wrap64 (x24 + 1))) else (none))) else (none))) else (none)) else (none)) else (if 0 < (x6.length : Int) then ((channel_lowest.f k (rd x6 0) x6).bind fun t199 => (if 0 < (x7.length : Int) then ((channel_lowest.f k (rd x7 0) x7).bind fun t201 => (some (t199, t201, 0))) else (none))) else (none))
end
def channel_Line.f (k : Nat) (l0_0 : List Int) (l0_1 : List (S66)) (l1 : List Int) : Option (Int × Int × Int) := (channel_isLine.f l0_0 l0_1).bind fun t179 => (if t179 = true then ((channel_areAges.f l0_0 l0_1 l1).bind fun t180 => (channel_Line.j0 k l1 (!t180) l0_0 l0_1)) else (channel_Line.j0 k l1 true l0_0 l0_1))
def channel_Line.T7 : Bool × List (List Nat × List Nat) := (true, [([], []), ([], []), ([1], [1]), ([2], [2]), ([0, 3], [0, 3]), ([], []), ([], []), ([6], [6]), ([7], [7]), ([5, 8, 4], [5, 8]), ([4, 9, 0, 1, 2, 3, 4], [0, 4]), ([9, 10, 0, 1, 2, 3, 4, 5, 6, 7, 8, 9, 10], [5, 9])])
def channel_Line.B7 : List Nat := [0, 0, 2, 6, 15, 0, 0, 64, 192, 511, 1023, 2047]
theorem channel_Line.tab7 : rtab .any (opsOf Tryz.f39 7) = channel_Line.T7 := by kernel_rfl
theorem channel_Line.bits7 : waitsOk channel_Line.T7.2 channel_Line.B7 = true := by kernel_rfl
def channel_Line.T9 : Bool × List (List Nat × List Nat) := (true, [([], []), ([0], [0]), ([1], [1]), ([], []), ([2, 3], [2, 3]), ([], []), ([5], [5]), ([6], [6]), ([], []), ([7, 8, 4], [7, 8]), ([4, 9], [4, 9]), ([10, 9, 0, 1, 2, 3, 4, 5, 6, 7, 8, 9, 10], [10]), ([11, 0, 1, 2, 3, 4, 5, 6, 7, 8, 9, 10, 11], [])])
def channel_Line.B9 : List Nat := [0, 1, 3, 0, 15, 0, 32, 96, 0, 511, 1023, 2047, 4095]
theorem channel_Line.tab9 : rtab .any (opsOf Tryz.f39 9) = channel_Line.T9 := by kernel_rfl
theorem channel_Line.bits9 : waitsOk channel_Line.T9.2 channel_Line.B9 = true := by kernel_rfl
set_option maxHeartbeats 8000000 in
set_option maxRecDepth 100000 in
theorem channel_Line.calls (k : Nat) (A0_0 : Option Addr) (c0_0 : Nat) (l0_0 : List Int) (A0_1 : Option Addr) (c0_1 : Nat) (l0_1 : List (S66)) (A1 : Option Addr) (c1 : Nat) (l1 : List Int) (r1 : Int) (r2 : Int) (r3 : Int) (w : World) (hr0_0 : Kd.C (Kd.int .i64) w A0_0 l0_0.length l0_0) (hc0_0 : l0_0.length ≤ c0_0) (hr0_1 : Kd.C k66 w A0_1 l0_1.length l0_1) (hc0_1 : l0_1.length ≤ c0_1) (hr1 : Kd.C (Kd.int .i64) w A1 l1.length l1) (hc1 : l1.length ≤ c1) (h : channel_Line.f k l0_0 l0_1 l1 = some (r1, r2, r3)) :
  Calls Tryz.prog 39 #[.agg #[.slice A0_0 l0_0.length c0_0, .slice A0_1 l0_1.length c0_1], .slice A1 l1.length c1] w fun e w' => e = .returned (.tuple #[.agg #[.int .i64 r1, .int .i64 r2], .int .i64 r3]) ∧ Below w.heap.size w w' := by
 have hu60 := Tryz.underlying60; have hu23 := Tryz.underlying23; have HR0_0 := Aside0.mk hr0_0; have HC0_0 := Aside0.mk hc0_0; clear hr0_0 hc0_0; have HR0_1 := Aside0.mk hr0_1; have HC0_1 := Aside0.mk hc0_1; clear hr0_1 hc0_1; have HR1 := Aside0.mk hr1; have HC1 := Aside0.mk hc1; clear hr1 hc1; have HB := Aside0.mk (Below.refl w.heap.size w); have H : ((channel_isLine.f l0_0 l0_1).bind fun t179 => (if t179 = true then ((channel_areAges.f l0_0 l0_1 l1).bind fun t180 => (channel_Line.j0 k l1 (!t180) l0_0 l0_1)) else (channel_Line.j0 k l1 true l0_0 l0_1))) = some (r1, r2, r3) := h; clear h; have HC3 := Aside0.mk H; clear H
 go_enter Tryz.func39, Tryz.ntmps39
 go_upto_region 1 with (first | ((with_reducible refine gate_dst (N := 2) rfl ?_); refine bxe 2 #[.slice A0_0 l0_0.length c0_0, .slice A0_1 l0_1.length c0_1] 60 ?_; intro gb177 hg w4 hbox hb; have n0_ := Aside0.mk (below_step uB hb); have n1_ := Aside0.mk (hbox); have n2_ := gw hg; have n3_ := gw hg; clear HB; have HB := n0_; have BK177 := n1_; have GW177 := n2_; have GE177 := n3_; clear n0_ n1_ n2_ n3_; clear hb hbox hg) | ((with_reducible refine gate_dst (N := 4) rfl ?_); refine bxe 4 #[.int .i64 0, .int .i64 0] 23 ?_; intro gb178 hg w5 hbox hb; have n0_ := Aside0.mk (blk_below (uK BK177.out) hb); have n1_ := Aside0.mk (below_step uB hb); have n2_ := Aside0.mk (hbox); have n3_ := gw hg; have n4_ := gw hg; have n5_ := nb BK177 hg; have n6_ := nc BK177 hg; clear BK177; clear HB; have BK177 := n0_; have HB := n1_; have BK178 := n2_; have GW178 := n3_; have GE178 := n4_; have NB177_178 := n5_; have NB178_177 := n6_; clear n0_ n1_ n2_ n3_ n4_ n5_ n6_; clear hb hbox hg))
 (try simp only [Act.put, List.setIfInBounds_toArray, List.set_cons_zero, List.set_cons_succ])
 go_cut [18] (fun v18 wc => ∃ (kq : Nat) (x18_2 : Bool), v18 = .bool x18_2 ∧ Aside0 (channel_Line.j0 kq l1 x18_2 l0_0 l0_1 = some (r1, r2, r3)) ∧ Aside0 (kq ≤ k) ∧ Aside0 (wc.heap[gb177]? = some (.cells #[(.slice A0_0 l0_0.length c0_0), (.slice A0_1 l0_1.length c0_1)] 60 (0, 0))) ∧ Aside0 (wc.heap[gb178]? = some (.cells #[.int .i64 0, .int .i64 0] 23 (0, 0))) ∧ Aside0 (Below w.heap.size w wc))
 case first =>
  have H := HC3.out; clear HC3; replace H := Option.bind_eq_some_iff.mp H; obtain ⟨t179, A60, H⟩ := H; replace H : (if t179 = true then ((channel_areAges.f l0_0 l0_1 l1).bind fun t180 => (channel_Line.j0 k l1 (!t180) l0_0 l0_1)) else (channel_Line.j0 k l1 true l0_0 l0_1)) = some (r1, r2, r3) := H; have A6 := Aside0.mk A60; clear A60
  by_cases c7 : t179 = true
  ·subst c7; have H1 : ((channel_areAges.f l0_0 l0_1 l1).bind fun t180 => (channel_Line.j0 k l1 (!t180) l0_0 l0_1)) = some (r1, r2, r3) := by rw [if_pos rfl] at H; exact H
   clear H; have H := H1; clear H1; replace H := Option.bind_eq_some_iff.mp H; obtain ⟨t180, A80, H⟩ := H; replace H : (channel_Line.j0 k l1 (!t180) l0_0 l0_1) = some (r1, r2, r3) := H; have A8 := Aside0.mk A80; clear A80; have H' := Aside0.mk H; clear H; have hnb9 := NB177_178.out; have hnc9 := NB178_177.out; obtain ⟨hcz10_0, hcz10_1⟩ := cz2 BK177.out; obtain ⟨hfz10_0, hfz10_1⟩ := fz2 BK177.out
   go_wp2_with (first | ((with_reducible refine gate_callee (f := 69) rfl ?_); refine goesL_ (some 11) rfl rfl Tryz.func69 (by kernel_rfl) rfl #[.agg #[.slice A0_0 l0_0.length c0_0, .slice A0_1 l0_1.length c0_1]] rfl uM ?_; (with_reducible refine (channel_isLine.calls _ _ l0_0 _ _ l0_1 true _ ?side1 ?side2 ?side3 ?side4 A6.out).mono ?_); (case side1 => repeat (first | exact (Kd.C_below HR0_0.out HB.out) | (with_reducible refine Kd.C_alloc ?_ _) | (with_reducible refine Kd.C_drewN ?_ _) | (with_reducible refine Kd.C_drew ?_))); (case side2 => exact HC0_0.out); (case side3 => repeat (first | exact (Kd.C_below HR0_1.out HB.out) | (with_reducible refine Kd.C_alloc ?_ _) | (with_reducible refine Kd.C_drewN ?_ _) | (with_reducible refine Kd.C_drew ?_))); (case side4 => exact HC0_1.out); rintro e w11 ⟨rfl, hb⟩; refine ⟨_, rfl, ?_⟩; replace BK177 := Aside0.mk (blk_below (uK BK177.out) hb); replace BK178 := Aside0.mk (blk_below (uK BK178.out) hb); replace HB := Aside0.mk (below_step uB hb); (try clear hb); (try clear hb2); (try clear hk); (try clear hi); obtain ⟨hcz12_0, hcz12_1⟩ := cz2 BK177.out; obtain ⟨hfz12_0, hfz12_1⟩ := fz2 BK177.out) | (go_at_call 74; (with_reducible refine (channel_areAges.calls _ _ l0_0 _ _ l0_1 _ _ l1 t180 _ ?side1 ?side2 ?side3 ?side4 ?side5 ?side6 A8.out).mono ?_); (case side1 => repeat (first | exact (Kd.C_below HR0_0.out HB.out) | (with_reducible refine Kd.C_alloc ?_ _) | (with_reducible refine Kd.C_drewN ?_ _) | (with_reducible refine Kd.C_drew ?_))); (case side2 => exact HC0_0.out); (case side3 => repeat (first | exact (Kd.C_below HR0_1.out HB.out) | (with_reducible refine Kd.C_alloc ?_ _) | (with_reducible refine Kd.C_drewN ?_ _) | (with_reducible refine Kd.C_drew ?_))); (case side4 => exact HC0_1.out); (case side5 => repeat (first | exact (Kd.C_below HR1.out HB.out) | (with_reducible refine Kd.C_alloc ?_ _) | (with_reducible refine Kd.C_drewN ?_ _) | (with_reducible refine Kd.C_drew ?_))); (case side6 => exact HC1.out); rintro e w13 ⟨rfl, hb⟩; replace BK177 := Aside0.mk (blk_below (uK BK177.out) hb); replace BK178 := Aside0.mk (blk_below (uK BK178.out) hb); replace HB := Aside0.mk (below_step uB hb); (try clear hb); (try clear hb2); (try clear hk); (try clear hi)))
   go_meet
   case rel => exact ⟨_, (!t180), u0, H', ⟨u1⟩, ⟨uK BK177.out⟩, ⟨uK BK178.out⟩, ⟨uB⟩⟩
  ·replace c7 := Bool.eq_false_iff.mpr c7; subst c7; have H1 : (channel_Line.j0 k l1 true l0_0 l0_1) = some (r1, r2, r3) := by rw [if_neg (show ¬ (false = true) by decide)] at H; exact H
   clear H; have H := H1; clear H1; have H' := Aside0.mk H; clear H; have hnb14 := NB177_178.out; have hnc14 := NB178_177.out; obtain ⟨hcz15_0, hcz15_1⟩ := cz2 BK177.out; obtain ⟨hfz15_0, hfz15_1⟩ := fz2 BK177.out
   go_wp2_with (first | ((with_reducible refine gate_callee (f := 69) rfl ?_); refine goesL_ (some 11) rfl rfl Tryz.func69 (by kernel_rfl) rfl #[.agg #[.slice A0_0 l0_0.length c0_0, .slice A0_1 l0_1.length c0_1]] rfl uM ?_; (with_reducible refine (channel_isLine.calls _ _ l0_0 _ _ l0_1 false _ ?side1 ?side2 ?side3 ?side4 A6.out).mono ?_); (case side1 => repeat (first | exact (Kd.C_below HR0_0.out HB.out) | (with_reducible refine Kd.C_alloc ?_ _) | (with_reducible refine Kd.C_drewN ?_ _) | (with_reducible refine Kd.C_drew ?_))); (case side2 => exact HC0_0.out); (case side3 => repeat (first | exact (Kd.C_below HR0_1.out HB.out) | (with_reducible refine Kd.C_alloc ?_ _) | (with_reducible refine Kd.C_drewN ?_ _) | (with_reducible refine Kd.C_drew ?_))); (case side4 => exact HC0_1.out); rintro e w16 ⟨rfl, hb⟩; refine ⟨_, rfl, ?_⟩; replace BK177 := Aside0.mk (blk_below (uK BK177.out) hb); replace BK178 := Aside0.mk (blk_below (uK BK178.out) hb); replace HB := Aside0.mk (below_step uB hb); (try clear hb); (try clear hb2); (try clear hk); (try clear hi)))
   go_meet
   case rel => exact ⟨_, (true), u0, H', ⟨u1⟩, ⟨uK BK177.out⟩, ⟨uK BK178.out⟩, ⟨uB⟩⟩
 case rest =>
  clear HC3; try clear c1; try clear p2; try clear c3; try clear c6; try clear c7; try clear c9; try clear c14; try clear hcz10_0; try clear hcz10_1; try clear hcz12_0; try clear hcz12_1; try clear hcz15_0; try clear hcz15_1; try clear hfz10_0; try clear hfz10_1; try clear hfz12_0; try clear hfz12_1; try clear hfz15_0; try clear hfz15_1
  obtain ⟨kq, x18_2, rfl, HA, HJ2, BK177, BK178, HB⟩ := hcut
  cases kq with
  | zero => exact absurd HA.out (by simp [channel_Line.j0])
  | succ kj2 =>
   have H := HA.out; clear HA; simp only [channel_Line.j0] at H
   by_cases c17 : x18_2 = true
   ·subst c17; have H1 : (some (0, 0, 2)) = some (r1, r2, r3) := by rw [if_pos rfl] at H; exact H
    clear H; have H := H1; clear H1; simp only [Option.some.injEq, Prod.mk.injEq] at H; obtain ⟨rfl, rfl, rfl⟩ := H; have hnb18 := NB178_177.out; have hnc18 := NB177_178.out; obtain ⟨hcz19_0, hcz19_1⟩ := cz2 BK178.out; obtain ⟨hfz19_0, hfz19_1⟩ := fz2 BK178.out; go_wp2; refine bodyPost_ret (results_ct rfl _ _ gb178 23 #[.int .i64 0, .int .i64 0] (0, 0) _ rfl (by refine uK ?_; refine blk_put (cs := #[.int .i64 0, .int .i64 0]) ?_ 1 _ rfl; refine uK ?_; refine blk_put (cs := #[.int .i64 0, .int .i64 0]) ?_ 0 _ rfl; refine uK ?_; exact BK178.out) Tryz.underlying23 rfl (by kernel_rfl)) rfl ?_; exact ⟨uE, uB⟩
   ·replace c17 := Bool.eq_false_iff.mpr c17; subst c17; have H1 : ((channel_spans.f kj2 l0_0 l0_1 l1).bind fun t181 => (channel_Line.l0 kj2 ([] : List Int) ([] : List Int) t181 (t181.length : Int) 0)) = some (r1, r2, r3) := by rw [if_neg (show ¬ (false = true) by decide)] at H; exact H
    clear H; have H := H1; clear H1; replace H := Option.bind_eq_some_iff.mp H; obtain ⟨t181, A200, H⟩ := H; replace H : (channel_Line.l0 kj2 ([] : List Int) ([] : List Int) t181 (t181.length : Int) 0) = some (r1, r2, r3) := H; have A20 := Aside0.mk A200; clear A200; have H' := Aside0.mk H; clear H; have hnb21 := NB177_178.out; have hnc21 := NB178_177.out; obtain ⟨hcz22_0, hcz22_1⟩ := cz2 BK177.out; obtain ⟨hfz22_0, hfz22_1⟩ := fz2 BK177.out
    go_wp2_with (first | ((with_reducible refine gate_callee (f := 75) rfl ?_); refine goesL_ (some 22) rfl rfl Tryz.func75 (by kernel_rfl) rfl #[.agg #[.slice A0_0 l0_0.length c0_0, .slice A0_1 l0_1.length c0_1], .slice A1 l1.length c1] rfl uM ?_; (with_reducible refine (channel_spans.calls kj2 _ _ l0_0 _ _ l0_1 _ _ l1 t181 _ ?side1 ?side2 ?side3 ?side4 ?side5 ?side6 A20.out).mono ?_); (case side1 => repeat (first | exact (Kd.C_below HR0_0.out HB.out) | (with_reducible refine Kd.C_alloc ?_ _) | (with_reducible refine Kd.C_drewN ?_ _) | (with_reducible refine Kd.C_drew ?_))); (case side2 => exact HC0_0.out); (case side3 => repeat (first | exact (Kd.C_below HR0_1.out HB.out) | (with_reducible refine Kd.C_alloc ?_ _) | (with_reducible refine Kd.C_drewN ?_ _) | (with_reducible refine Kd.C_drew ?_))); (case side4 => exact HC0_1.out); (case side5 => repeat (first | exact (Kd.C_below HR1.out HB.out) | (with_reducible refine Kd.C_alloc ?_ _) | (with_reducible refine Kd.C_drewN ?_ _) | (with_reducible refine Kd.C_drew ?_))); (case side6 => exact HC1.out); rintro e w23 ⟨v182, rfl, ho0, hb⟩; refine ⟨_, rfl, ?_⟩; have HO183 := Aside0.mk (Kd.R_lower (Kd.R_newB ho0 (g := gb178) (o := .cells #[.int .i64 0, .int .i64 0] 23 (0, 0)) (uK BK178.out)) (below_size uB)); replace BK177 := Aside0.mk (blk_below (uK BK177.out) hb); replace BK178 := Aside0.mk (blk_below (uK BK178.out) hb); replace HB := Aside0.mk (below_step uB hb); (try clear hb); (try clear hb2); (try clear hk); (try clear hi); (try clear ho0); obtain ⟨Ao24, co24, eo24⟩ := Kd.R_slice HO183.out; subst eo24))
    go_loopg [6, 7, 24] kj2 (fun kq v6 v7 v24 w' => ∃ (x6_2 : List Int) (x7_2 : List Int) (x24_2 : Int), v24 = .int .i64 x24_2 ∧ Aside0 (channel_Line.l0 kq x6_2 x7_2 t181 (t181.length : Int) x24_2 = some (r1, r2, r3)) ∧ Aside0 (kq ≤ kj2) ∧ Aside0 (Kd.R (Kd.int .i64) 3 w' w.heap.size (fun k_ => some k_ ≠ (v7 : Value).ownBlock) v6 x6_2) ∧ Aside0 (Kd.R (Kd.int .i64) 3 w' w.heap.size (fun k_ => some k_ ≠ (v6 : Value).ownBlock) v7 x7_2) ∧ Aside0 (Kd.R k23 23 w' w.heap.size (fun k_ => k_ ≠ gb178) (.slice Ao24 t181.length co24) t181) ∧ Aside0 (w'.heap[gb177]? = some (.cells #[(.slice A0_0 l0_0.length c0_0), (.slice A0_1 l0_1.length c0_1)] 60 (0, 0))) ∧ Aside0 (w'.heap[gb178]? = some (.cells #[.int .i64 0, .int .i64 0] 23 (0, 0))) ∧ Aside0 (Below w.heap.size w w'))
    case atStart => exact ⟨(([] : List Int)), (([] : List Int)), (0), u0, H', ⟨Nat.le_refl _⟩, ⟨uN⟩, ⟨uN⟩, ⟨by refine uR ?_; exact Kd.R_mono HO183.out (fun _ hk => hk.2)⟩, ⟨uK BK177.out⟩, ⟨uK BK178.out⟩, ⟨uB⟩⟩
    case round =>
     clear H'; try clear c1; try clear c2; try clear p2; try clear c3; try clear c6; try clear c7; try clear c9; try clear c14; try clear c17; try clear c18; try clear c21; try clear hcz10_0; try clear hcz10_1; try clear hcz12_0; try clear hcz12_1; try clear hcz15_0; try clear hcz15_1; try clear hcz19_0; try clear hcz19_1; try clear hcz22_0; try clear hcz22_1; try clear hfz10_0; try clear hfz10_1; try clear hfz12_0; try clear hfz12_1; try clear hfz15_0; try clear hfz15_1; try clear hfz19_0; try clear hfz19_1; try clear hfz22_0; try clear hfz22_1; try clear p2
     obtain ⟨x6_2, x7_2, x24_2, rfl, HA, HK2, HO_6, HO_7, HO_22, BK177, BK178, HB⟩ := hrel
     cases gk with
     | zero => exact absurd HA.out (by simp [channel_Line.l0])
     | succ k2 =>
      have H := HA.out; clear HA; simp only [channel_Line.l0] at H
      by_cases c25 : x24_2 < (t181.length : Int)
      ·rw [if_pos c25] at H; replace c25 := decide_eq_true c25; obtain ⟨c26, H⟩ := ifs H; replace c26 := decide_eq_true c26; obtain ⟨c27, H⟩ := ifs H; replace c27 := decide_eq_true c27; obtain ⟨y186, hy186⟩ : ∃ y_ : List Int, y_ = (([(rd_T23 t181 x24_2).f0] : List Int)) := ⟨_, rfl⟩; rw [← hy186] at H; (try replace H := (Option.bind_some _ _).symm.trans H)
       have Ny186 := Aside0.mk hy186; clear hy186; obtain ⟨c28, H⟩ := ifs H; have LMc28 := Aside0.mk c28; clear c28; obtain ⟨y189, hy189⟩ : ∃ y_ : List Int, y_ = (x6_2 ++ y186) := ⟨_, rfl⟩; rw [← hy189] at H; (try replace H := (Option.bind_some _ _).symm.trans H)
       have Ny189 := Aside0.mk hy189; clear hy189; obtain ⟨y192, hy192⟩ : ∃ y_ : List Int, y_ = (([(rd_T23 t181 x24_2).f1] : List Int)) := ⟨_, rfl⟩; rw [← hy192] at H; (try replace H := (Option.bind_some _ _).symm.trans H)
       have Ny192 := Aside0.mk hy192; clear hy192; obtain ⟨c29, H⟩ := ifs H; have LMc29 := Aside0.mk c29; clear c29; obtain ⟨y195, hy195⟩ : ∃ y_ : List Int, y_ = (x7_2 ++ y192) := ⟨_, rfl⟩; rw [← hy195] at H; (try replace H := (Option.bind_some _ _).symm.trans H)
       have Ny195 := Aside0.mk hy195; clear hy195; have H' := Aside0.mk H; clear H; have p184 : 0 ≤ (x24_2 : Int) := uD; have q184 : x24_2 < (t181.length : Int) := uD; obtain ⟨ad184, e184, hx184_0, hx184_1⟩ := at_T23 (Kd.R_reads' HO_22.out).2.2 x24_2 p184 q184
       cases e184
       replace p184 := eq_true p184; replace q184 := eq_true q184; (try go_wp2_with (first | ((with_reducible refine gate_dst (N := 9) rfl ?_); refine bxe 9 #[.int .i64 0, .int .i64 0] 23 ?_; intro gb185 hg w30 hbox hb; have n0_ := Aside0.mk (Kd.R_below (uR HO_6.out) hb); have n1_ := Aside0.mk (Kd.R_below (uR HO_7.out) hb); have n2_ := rE HO_22 hg hb; have n3_ := Aside0.mk (blk_below (uK BK177.out) hb); have n4_ := Aside0.mk (blk_below (uK BK178.out) hb); have n5_ := Aside0.mk (below_step uB hb); have n6_ := Aside0.mk (hbox); have n7_ := gw hg; have n8_ := gw hg; have n9_ := nb BK177 hg; have n10_ := nc BK177 hg; have n11_ := nb BK178 hg; have n12_ := nc BK178 hg; clear HO_6; clear HO_7; clear HO_22; clear BK177; clear BK178; clear HB; have HO_6 := n0_; have HO_7 := n1_; have HO_22 := n2_; have BK177 := n3_; have BK178 := n4_; have HB := n5_; have BK185 := n6_; have GW185 := n7_; have GE185 := n8_; have NB177_185 := n9_; have NB185_177 := n10_; have NB178_185 := n11_; have NB185_178 := n12_; clear n0_ n1_ n2_ n3_ n4_ n5_ n6_ n7_ n8_ n9_ n10_ n11_ n12_; clear hb hbox hg; have hnb31 := NB185_177.out; have hnc31 := NB177_185.out; have hnb32 := NB185_178.out; have hnc32 := NB178_185.out; obtain ⟨hcz33_0, hcz33_1⟩ := cz2 BK185.out; obtain ⟨hfz33_0, hfz33_1⟩ := fz2 BK185.out; obtain ⟨Ao34, co34, eo34⟩ := Kd.R_slice HO_6.out; subst eo34; obtain ⟨Ao35, co35, eo35⟩ := Kd.R_slice HO_7.out; subst eo35))); have n0_ : Aside0 (Kd.R (Kd.int .i64) 3 ((w30.setCell ⟨gb185, 0, none⟩ (.int .i64 ((rd_T23 t181 x24_2).f0))).setCell ⟨gb185, 1, none⟩ (.int .i64 ((rd_T23 t181 x24_2).f1))) w.heap.size (fun k_ => some k_ ≠ (.slice Ao35 x7_2.length co35 : Value).ownBlock) (.slice Ao34 x6_2.length co34) x6_2) := ⟨by refine uR ?_; exact Kd.R_mono (Kd.R_far (p := ⟨gb185, 1, none⟩) (Kd.R_far (p := ⟨gb185, 0, none⟩) (Kd.R_types HO_6.out BK185.out (by decide)) (fun _ hk => hk.2) (.int .i64 ((rd_T23 t181 x24_2).f0))) (fun _ hk => hk.2) (.int .i64 ((rd_T23 t181 x24_2).f1))) (fun _ hk => hk.1)⟩; have n1_ : Aside0 (Kd.R (Kd.int .i64) 3 ((w30.setCell ⟨gb185, 0, none⟩ (.int .i64 ((rd_T23 t181 x24_2).f0))).setCell ⟨gb185, 1, none⟩ (.int .i64 ((rd_T23 t181 x24_2).f1))) w.heap.size (fun k_ => some k_ ≠ (.slice Ao34 x6_2.length co34 : Value).ownBlock) (.slice Ao35 x7_2.length co35) x7_2) := ⟨by refine uR ?_; exact Kd.R_mono (Kd.R_far (p := ⟨gb185, 1, none⟩) (Kd.R_far (p := ⟨gb185, 0, none⟩) (Kd.R_types HO_7.out BK185.out (by decide)) (fun _ hk => hk.2) (.int .i64 ((rd_T23 t181 x24_2).f0))) (fun _ hk => hk.2) (.int .i64 ((rd_T23 t181 x24_2).f1))) (fun _ hk => hk.1)⟩; have n2_ : Aside0 (Kd.R k23 23 ((w30.setCell ⟨gb185, 0, none⟩ (.int .i64 ((rd_T23 t181 x24_2).f0))).setCell ⟨gb185, 1, none⟩ (.int .i64 ((rd_T23 t181 x24_2).f1))) w.heap.size (fun k_ => k_ ≠ gb178 ∧ k_ ≠ gb185) (.slice (some ad184) t181.length co24) t181) := ⟨by refine uR ?_; exact Kd.R_mono (Kd.R_far (p := ⟨gb185, 1, none⟩) (Kd.R_far (p := ⟨gb185, 0, none⟩) (Kd.R_mono HO_22.out (fun k_ hk => (⟨hk, hk.2⟩ : _ ∧ k_ ≠ gb185))) (fun _ hk => hk.2) (.int .i64 ((rd_T23 t181 x24_2).f0))) (fun _ hk => hk.2) (.int .i64 ((rd_T23 t181 x24_2).f1))) (fun _ hk => ⟨hk.1.1, hk.1.2⟩)⟩; have n3_ : Aside0 (((w30.setCell ⟨gb185, 0, none⟩ (.int .i64 ((rd_T23 t181 x24_2).f0))).setCell ⟨gb185, 1, none⟩ (.int .i64 ((rd_T23 t181 x24_2).f1))).heap[gb177]? = some (.cells #[.slice A0_0 l0_0.length c0_0, .slice A0_1 l0_1.length c0_1] 60 (0, 0))) := ⟨by refine uK ?_; refine blk_far ?_ NB177_185.out _; refine uK ?_; refine blk_far ?_ NB177_185.out _; refine uK ?_; exact BK177.out⟩; have n4_ : Aside0 (((w30.setCell ⟨gb185, 0, none⟩ (.int .i64 ((rd_T23 t181 x24_2).f0))).setCell ⟨gb185, 1, none⟩ (.int .i64 ((rd_T23 t181 x24_2).f1))).heap[gb178]? = some (.cells #[.int .i64 0, .int .i64 0] 23 (0, 0))) := ⟨by refine uK ?_; refine blk_far ?_ NB178_185.out _; refine uK ?_; refine blk_far ?_ NB178_185.out _; refine uK ?_; exact BK178.out⟩; have n5_ : Aside0 (((w30.setCell ⟨gb185, 0, none⟩ (.int .i64 ((rd_T23 t181 x24_2).f0))).setCell ⟨gb185, 1, none⟩ (.int .i64 ((rd_T23 t181 x24_2).f1))).heap[gb185]? = some (.cells #[.int .i64 ((rd_T23 t181 x24_2).f0), .int .i64 ((rd_T23 t181 x24_2).f1)] 23 (0, 0))) := ⟨by refine uK ?_; refine blk_put (cs := #[.int .i64 ((rd_T23 t181 x24_2).f0), .int .i64 0]) ?_ 1 _ rfl; refine uK ?_; refine blk_put (cs := #[.int .i64 0, .int .i64 0]) ?_ 0 _ rfl; refine uK ?_; exact BK185.out⟩; have n6_ : Aside0 (Below w.heap.size w ((w30.setCell ⟨gb185, 0, none⟩ (.int .i64 ((rd_T23 t181 x24_2).f0))).setCell ⟨gb185, 1, none⟩ (.int .i64 ((rd_T23 t181 x24_2).f1)))) := ⟨uB⟩; (try clear HO_6); (try clear HO_7); (try clear HO_22); (try clear BK177); (try clear BK178); (try clear BK185); (try clear HB); generalize ((w30.setCell ⟨gb185, 0, none⟩ (.int .i64 ((rd_T23 t181 x24_2).f0))).setCell ⟨gb185, 1, none⟩ (.int .i64 ((rd_T23 t181 x24_2).f1))) = w36 at n0_ n1_ n2_ n3_ n4_ n5_ n6_ ⊢; have HO_6 := n0_; have HO_7 := n1_; have HO_22 := n2_; have BK177 := n3_; have BK178 := n4_; have BK185 := n5_; have HB := n6_; clear n0_ n1_ n2_ n3_ n4_ n5_ n6_; replace HO_6 := Aside0.mk (Kd.R_drew HO_6.out); replace HO_7 := Aside0.mk (Kd.R_drew HO_7.out); replace HO_22 := Aside0.mk (Kd.R_drew HO_22.out); replace BK177 := Aside0.mk (blk_drew BK177.out); replace BK178 := Aside0.mk (blk_drew BK178.out); replace BK185 := Aside0.mk (blk_drew BK185.out); replace HB := Aside0.mk (below_drew1 HB.out); refine start_ (n := 12) (S := fun w' => w'.cell? ⟨gb185, 0, none⟩ = some (.int .i64 ((rd_T23 t181 x24_2).f0)) ∧ w'.cell? ⟨gb185, 1, none⟩ = some (.int .i64 ((rd_T23 t181 x24_2).f1))) (ds := []) (bl 12 0) (by kernel_rfl) rfl rfl ⟨(blk_cell BK185.out 0).trans rfl, (blk_cell BK185.out 1).trans rfl⟩ (fun hHeld => ?_); refine with_tabW channel_Line.tab7 channel_Line.bits7 (fun HT_ HW_ => ?_)
       generalize w36.drew = w37 at HO_6 HO_7 HO_22 BK177 BK178 BK185 HB hHeld ⊢; refine pu 0 28 12 1 ?_; refine pu 1 29 12 3 ?_; refine pu 5 33 12 35 ?_; refine pu 6 34 12 99 ?_; refine tk2 2 30 12 103 hHeld ?_; refine tk2 7 35 12 231 hHeld ?_; refine join_ (σ := Value × Value × Value) 3 (bl 12 511) (fun s_ => [(31, s_.1), (32, s_.2.1), (36, s_.2.2)]) (fun s_ w' => (w'.cell? ⟨gb185, 0, none⟩ = some (.int .i64 ((rd_T23 t181 x24_2).f0)) ∧ w'.cell? ⟨gb185, 1, none⟩ = some (.int .i64 ((rd_T23 t181 x24_2).f1))) ∧ (Kd.R (Kd.int .i64) 3 w' w.heap.size (fun k_ => some k_ ≠ (s_.2.1 : Value).ownBlock ∧ some k_ ≠ (s_.2.2 : Value).ownBlock ∧ some k_ ≠ (.slice Ao35 x7_2.length co35 : Value).ownBlock) s_.1 y186) ∧ (Kd.R (Kd.int .i64) 3 w' w.heap.size (fun k_ => some k_ ≠ (s_.1 : Value).ownBlock ∧ some k_ ≠ (s_.2.2 : Value).ownBlock ∧ some k_ ≠ (.slice Ao35 x7_2.length co35 : Value).ownBlock) s_.2.1 y189) ∧ (Kd.R (Kd.int .i64) 3 w' w.heap.size (fun k_ => some k_ ≠ (s_.1 : Value).ownBlock ∧ some k_ ≠ (s_.2.1 : Value).ownBlock ∧ some k_ ≠ (.slice Ao35 x7_2.length co35 : Value).ownBlock) s_.2.2 y192) ∧ (Kd.R k23 23 w' w.heap.size (fun k_ => k_ ≠ gb178 ∧ k_ ≠ gb185) (.slice (some ad184) t181.length co24) t181) ∧ (Kd.R (Kd.int .i64) 3 w' w.heap.size (fun k_ => some k_ ≠ (s_.1 : Value).ownBlock ∧ some k_ ≠ (s_.2.1 : Value).ownBlock ∧ some k_ ≠ (s_.2.2 : Value).ownBlock) (.slice Ao35 x7_2.length co35) x7_2) ∧ (w'.heap[gb177]? = some (.cells #[.slice A0_0 l0_0.length c0_0, .slice A0_1 l0_1.length c0_1] 60 (0, 0))) ∧ (w'.heap[gb178]? = some (.cells #[.int .i64 0, .int .i64 0] 23 (0, 0))) ∧ (w'.heap[gb185]? = some (.cells #[.int .i64 ((rd_T23 t181 x24_2).f0), .int .i64 ((rd_T23 t181 x24_2).f1)] 23 (0, 0))) ∧ (Below w.heap.size w w')) ?_ ?_; rotate_left
       ·intro hCont; refine two_ (i := 3) (j := 8) (Ni := some 31) (Nj := some 36) (bl 12 239) (bl 12 487) rfl rfl rfl rfl (two_of HT_.out (by kernel_rfl)) (by decide) (by decide) (fun K hK => ?_) (fun K hK => ?_)
        ·skip
         refine Kd.R_lit_step (Kd.int .i64) _ 3 ?hg (N := 31) ?hd (xs := ([(rd_T23 t181 x24_2).f0] : List Int)) (inner := [.int .i64 ((rd_T23 t181 x24_2).f0)]) (ok := fun _ => True) (okp := fun _ => True) ?hr ?hp (fun _ hk => hk) trivial (Below.refl _ _) (Nat.le_refl _) (by simp) ?_; (case hd => rfl); (case hg => rfl); (case hr => first | (go_simp; done) | (go_simp; rfl)); (case hp => exact (Reps.one (show Kd.M (Kd.int .i64) _ _ _ ((rd_T23 t181 x24_2).f0) [.int .i64 ((rd_T23 t181 x24_2).f0)] from rfl) (Reps.none _ _)))
         intro v187 w38 ho39 hb hg_ hnew_; clear hg_ hnew_; (first | rw [← Ny186.out] at ho39 | (simp only [Int.reduceToNat] at ho39; rw [← Ny186.out] at ho39)); have n0_ := Aside0.mk (Kd.R_elder' (uR HO_6.out) (Kd.R_base ho39) hb); have n1_ := Aside0.mk (Kd.R_elder' (uR HO_7.out) (Kd.R_base ho39) hb); have n2_ := Aside0.mk (Kd.R_below (uR HO_22.out) hb); have n3_ := Aside0.mk (Kd.R_lower (Kd.R_new' (Kd.R_new' ho39 (Kd.R_lt (uR HO_6.out))) (Kd.R_lt (uR HO_7.out))) (below_size uB)); have n4_ := Aside0.mk (blk_below (uK BK177.out) hb); have n5_ := Aside0.mk (blk_below (uK BK178.out) hb); have n6_ := Aside0.mk (blk_below (uK BK185.out) hb); have n7_ := Aside0.mk (below_step uB hb); clear HO_6 HO_7 HO_22 BK177 BK178 BK185 HB; have HO_6 := n0_; have HO_7 := n1_; have HO_22 := n2_; have HO188 := n3_; have BK177 := n4_; have BK178 := n5_; have BK185 := n6_; have HB := n7_; clear n0_ n1_ n2_ n3_ n4_ n5_ n6_ n7_; clear hb ho39; obtain ⟨Ao41, co41, eo41⟩ := Kd.R_slice HO188.out; (first | subst eo41 | (injection eo41 with f1_ f2_ f3_; have f4_ := f1_.symm; have f5_ := f3_.symm; clear f1_ f2_ f3_; subst f4_; subst f5_)); refine hK.out _ _ ⟨(blk_cell BK185.out 0).trans rfl, (blk_cell BK185.out 1).trans rfl⟩ (fun hHeld => ?_); clear hK K; refine nm ?_; refine two_ (i := 4) (j := 8) (Ni := some 32) (Nj := some 36) (bl 12 255) (bl 12 495) rfl rfl rfl rfl (two_of HT_.out (by kernel_rfl)) (by decide) (by decide) (fun K hK => ?_) (fun K hK => ?_)
         ·skip
          refine Kd.R_append_rows_step (Kd.int .i64) (w0 := w) w.heap.size (by rfl) (.tmp 28) (.tmp 31) 25 3 (.int .i64 0) 8 rfl Tryz.underlying25 info3 rfl (by decide) (by omega) (.slice Ao34 x6_2.length co34) x6_2 y186 _ _ _ (fun k_ => some k_ ≠ (.slice Ao35 x7_2.length co35 : Value).ownBlock ∧ some k_ ≠ (.slice Ao41 y186.length co41 : Value).ownBlock) (fun _ => False) rfl rfl ?aO ?aR (fun _ _ h => h) (fun _ h => h.elim) ?aF ?aB ?aS ?aL ?_; (case aR => repeat (first | exact (Kd.R_reads' HO188.out).2.2 | (with_reducible refine Kd.C_alloc ?_ _) | (with_reducible refine Kd.C_drewN ?_ _) | (with_reducible refine Kd.C_drew ?_))); (case aB => exact uB); (case aF => exact (fun k_ hk => ⟨Kd.fresh' (Kd.R_lt (uR HO_7.out)) k_ hk, Kd.fresh' (Kd.R_lt (uR HO188.out)) k_ hk⟩)); (case aO => exact (uR HO_6.out)); (case aS => exact (below_size uB)); (case aL => have := LMc28.out; omega); intro v190 w40 ho hb hg hat; rw [← Ny189.out] at ho; replace HO_7 := Aside0.mk (Kd.R_after (ok := (fun k_ => some k_ ≠ (.slice Ao41 y186.length co41 : Value).ownBlock)) (by refine uR ?_; exact Kd.R_mono HO_7.out (fun _ hk => ⟨hk.2, hk.1⟩)) hg hat); replace HO_22 := Aside0.mk (Kd.R_over' (uR HO_22.out) (Kd.R_typed (uR HO_6.out)) (by decide) hg); replace BK177 := Aside0.mk (blk_grown (uK BK177.out) hg (Kd.R_ne HO_6.out BK177.out (by decide))); replace BK178 := Aside0.mk (blk_grown (uK BK178.out) hg (Kd.R_ne HO_6.out BK178.out (by decide))); replace BK185 := Aside0.mk (blk_grown (uK BK185.out) hg (Kd.R_ne HO_6.out BK185.out (by decide))); replace HO188 := Aside0.mk (Kd.R_after (ok := (fun k_ => some k_ ≠ (.slice Ao35 x7_2.length co35 : Value).ownBlock)) (by refine uR ?_; exact Kd.R_mono HO188.out (fun _ hk => ⟨hk.2, hk.1.2⟩)) hg hat); have HO191 := Aside0.mk (ho); replace HB := Aside0.mk (hb); clear HO_6; clear ho hb hg hat; refine hK.out _ _ ⟨(blk_cell BK185.out 0).trans rfl, (blk_cell BK185.out 1).trans rfl⟩ (fun hHeld => ?_); clear hK K; refine nm ?_; refine one_ (i := 8) (N := some 36) (bl 12 511) rfl rfl (one_of HT_.out (by kernel_rfl)) (by decide) (fun K hK => ?_); refine Kd.R_lit_step (Kd.int .i64) _ 3 ?hg (N := 36) ?hd (xs := ([(rd_T23 t181 x24_2).f1] : List Int)) (inner := [.int .i64 ((rd_T23 t181 x24_2).f1)]) (ok := fun _ => True) (okp := fun _ => True) ?hr ?hp (fun _ hk => hk) trivial (Below.refl _ _) (Nat.le_refl _) (by simp) ?_; (case hd => rfl); (case hg => rfl); (case hr => first | (go_simp; done) | (go_simp; rfl)); (case hp => exact (Reps.one (show Kd.M (Kd.int .i64) _ _ _ ((rd_T23 t181 x24_2).f1) [.int .i64 ((rd_T23 t181 x24_2).f1)] from rfl) (Reps.none _ _)))
          intro v193 w42 ho43 hb hg_ hnew_; clear hg_ hnew_; (first | rw [← Ny192.out] at ho43 | (simp only [Int.reduceToNat] at ho43; rw [← Ny192.out] at ho43)); have n0_ := Aside0.mk (Kd.R_elder' (uR HO_7.out) (Kd.R_base ho43) hb); have n1_ := Aside0.mk (Kd.R_below (uR HO_22.out) hb); have n2_ := Aside0.mk (Kd.R_elder' (uR HO188.out) (Kd.R_base ho43) hb); have n3_ := Aside0.mk (Kd.R_elder' (uR HO191.out) (Kd.R_base ho43) hb); have n4_ := Aside0.mk (Kd.R_lower (Kd.R_new' (Kd.R_new' (Kd.R_new' ho43 (Kd.R_lt (uR HO_7.out))) (Kd.R_lt (uR HO188.out))) (Kd.R_lt (uR HO191.out))) (below_size uB)); have n5_ := Aside0.mk (blk_below (uK BK177.out) hb); have n6_ := Aside0.mk (blk_below (uK BK178.out) hb); have n7_ := Aside0.mk (blk_below (uK BK185.out) hb); have n8_ := Aside0.mk (below_step uB hb); clear HO_7 HO_22 HO188 HO191 BK177 BK178 BK185 HB; have HO_7 := n0_; have HO_22 := n1_; have HO188 := n2_; have HO191 := n3_; have HO194 := n4_; have BK177 := n5_; have BK178 := n6_; have BK185 := n7_; have HB := n8_; clear n0_ n1_ n2_ n3_ n4_ n5_ n6_ n7_ n8_; clear hb ho43; refine hK.out _ _ ⟨(blk_cell BK185.out 0).trans rfl, (blk_cell BK185.out 1).trans rfl⟩ (fun hHeld => ?_); clear hK K; refine nm ?_; exact norm_ (by simp only [putAll, Act.put, List.setIfInBounds_toArray, List.set_cons_zero, List.set_cons_succ]) (hCont (.slice Ao41 y186.length co41, v190, v193) _ ⟨hHeld, (by refine uR ?_; exact Kd.R_mono HO188.out (fun _ hk => ⟨hk.1.2, ⟨hk.2, hk.1.1⟩⟩)), (by refine uR ?_; exact Kd.R_mono HO191.out (fun _ hk => ⟨hk.1.2, ⟨hk.2, hk.1.1⟩⟩)), (by refine uR ?_; exact Kd.R_mono HO194.out (fun _ hk => ⟨hk.1.2, ⟨hk.2, hk.1.1.2⟩⟩)), (uR HO_22.out), (by refine uR ?_; exact Kd.R_mono HO_7.out (fun _ hk => ⟨hk.1.1, ⟨hk.1.2, hk.2⟩⟩)), (uK BK177.out), (uK BK178.out), (uK BK185.out), uB⟩)
         ·skip
          refine Kd.R_lit_step (Kd.int .i64) _ 3 ?hg (N := 36) ?hd (xs := ([(rd_T23 t181 x24_2).f1] : List Int)) (inner := [.int .i64 ((rd_T23 t181 x24_2).f1)]) (ok := fun _ => True) (okp := fun _ => True) ?hr ?hp (fun _ hk => hk) trivial (Below.refl _ _) (Nat.le_refl _) (by simp) ?_; (case hd => rfl); (case hg => rfl); (case hr => first | (go_simp; done) | (go_simp; rfl)); (case hp => exact (Reps.one (show Kd.M (Kd.int .i64) _ _ _ ((rd_T23 t181 x24_2).f1) [.int .i64 ((rd_T23 t181 x24_2).f1)] from rfl) (Reps.none _ _)))
          intro v193 w40 ho41 hb hg_ hnew_; clear hg_ hnew_; (first | rw [← Ny192.out] at ho41 | (simp only [Int.reduceToNat] at ho41; rw [← Ny192.out] at ho41)); have n0_ := Aside0.mk (Kd.R_elder' (uR HO_6.out) (Kd.R_base ho41) hb); have n1_ := Aside0.mk (Kd.R_elder' (uR HO_7.out) (Kd.R_base ho41) hb); have n2_ := Aside0.mk (Kd.R_below (uR HO_22.out) hb); have n3_ := Aside0.mk (Kd.R_elder' (uR HO188.out) (Kd.R_base ho41) hb); have n4_ := Aside0.mk (Kd.R_lower (Kd.R_new' (Kd.R_new' (Kd.R_new' ho41 (Kd.R_lt (uR HO_6.out))) (Kd.R_lt (uR HO_7.out))) (Kd.R_lt (uR HO188.out))) (below_size uB)); have n5_ := Aside0.mk (blk_below (uK BK177.out) hb); have n6_ := Aside0.mk (blk_below (uK BK178.out) hb); have n7_ := Aside0.mk (blk_below (uK BK185.out) hb); have n8_ := Aside0.mk (below_step uB hb); clear HO_6 HO_7 HO_22 HO188 BK177 BK178 BK185 HB; have HO_6 := n0_; have HO_7 := n1_; have HO_22 := n2_; have HO188 := n3_; have HO194 := n4_; have BK177 := n5_; have BK178 := n6_; have BK185 := n7_; have HB := n8_; clear n0_ n1_ n2_ n3_ n4_ n5_ n6_ n7_ n8_; clear hb ho41; obtain ⟨Ao43, co43, eo43⟩ := Kd.R_slice HO188.out; (first | subst eo43 | (injection eo43 with f1_ f2_ f3_; have f4_ := f1_.symm; have f5_ := f3_.symm; clear f1_ f2_ f3_; subst f4_; subst f5_)); refine hK.out _ _ ⟨(blk_cell BK185.out 0).trans rfl, (blk_cell BK185.out 1).trans rfl⟩ (fun hHeld => ?_); clear hK K; refine nm ?_; refine one_ (i := 4) (N := some 32) (bl 12 511) rfl rfl (one_of HT_.out (by kernel_rfl)) (by decide) (fun K hK => ?_); refine Kd.R_append_rows_step (Kd.int .i64) (w0 := w) w.heap.size (by rfl) (.tmp 28) (.tmp 31) 25 3 (.int .i64 0) 8 rfl Tryz.underlying25 info3 rfl (by decide) (by omega) (.slice Ao34 x6_2.length co34) x6_2 y186 _ _ _ (fun k_ => some k_ ≠ (.slice Ao35 x7_2.length co35 : Value).ownBlock ∧ some k_ ≠ (.slice Ao43 y186.length co43 : Value).ownBlock ∧ some k_ ≠ (v193 : Value).ownBlock) (fun _ => False) rfl rfl ?aO ?aR (fun _ _ h => h) (fun _ h => h.elim) ?aF ?aB ?aS ?aL ?_; (case aR => repeat (first | exact (Kd.R_reads' HO188.out).2.2 | (with_reducible refine Kd.C_alloc ?_ _) | (with_reducible refine Kd.C_drewN ?_ _) | (with_reducible refine Kd.C_drew ?_))); (case aB => exact uB); (case aF => exact (fun k_ hk => ⟨Kd.fresh' (Kd.R_lt (uR HO_7.out)) k_ hk, Kd.fresh' (Kd.R_lt (uR HO188.out)) k_ hk, Kd.fresh' (Kd.R_lt (uR HO194.out)) k_ hk⟩)); (case aO => exact (by refine uR ?_; exact Kd.R_mono HO_6.out (fun _ hk => ⟨hk.1.1, ⟨hk.1.2, hk.2⟩⟩))); (case aS => exact (below_size uB)); (case aL => have := LMc28.out; omega); intro v190 w42 ho hb hg hat; rw [← Ny189.out] at ho; replace HO_7 := Aside0.mk (Kd.R_after (ok := (fun k_ => some k_ ≠ (.slice Ao43 y186.length co43 : Value).ownBlock ∧ some k_ ≠ (v193 : Value).ownBlock)) (by refine uR ?_; exact Kd.R_mono HO_7.out (fun _ hk => ⟨⟨hk.1.2, hk.2⟩, hk.1.1⟩)) hg hat); replace HO_22 := Aside0.mk (Kd.R_over' (uR HO_22.out) (Kd.R_typed (uR HO_6.out)) (by decide) hg); replace BK177 := Aside0.mk (blk_grown (uK BK177.out) hg (Kd.R_ne HO_6.out BK177.out (by decide))); replace BK178 := Aside0.mk (blk_grown (uK BK178.out) hg (Kd.R_ne HO_6.out BK178.out (by decide))); replace BK185 := Aside0.mk (blk_grown (uK BK185.out) hg (Kd.R_ne HO_6.out BK185.out (by decide))); replace HO188 := Aside0.mk (Kd.R_after (ok := (fun k_ => some k_ ≠ (.slice Ao35 x7_2.length co35 : Value).ownBlock ∧ some k_ ≠ (v193 : Value).ownBlock)) (by refine uR ?_; exact Kd.R_mono HO188.out (fun _ hk => ⟨⟨hk.1.2, hk.2⟩, hk.1.1.2⟩)) hg hat); replace HO194 := Aside0.mk (Kd.R_after (ok := (fun k_ => some k_ ≠ (.slice Ao35 x7_2.length co35 : Value).ownBlock ∧ some k_ ≠ (.slice Ao43 y186.length co43 : Value).ownBlock)) (by refine uR ?_; exact Kd.R_mono HO194.out (fun _ hk => ⟨⟨hk.1.2, hk.2⟩, hk.1.1.2⟩)) hg hat); have HO191 := Aside0.mk (ho); replace HB := Aside0.mk (hb); clear HO_6; clear ho hb hg hat; refine hK.out _ _ ⟨(blk_cell BK185.out 0).trans rfl, (blk_cell BK185.out 1).trans rfl⟩ (fun hHeld => ?_); clear hK K; refine nm ?_; exact norm_ (by simp only [putAll, Act.put, List.setIfInBounds_toArray, List.set_cons_zero, List.set_cons_succ]) (hCont (.slice Ao43 y186.length co43, v190, v193) _ ⟨hHeld, (by refine uR ?_; exact Kd.R_mono HO188.out (fun _ hk => ⟨hk.2, ⟨hk.1.2, hk.1.1⟩⟩)), (by refine uR ?_; exact Kd.R_mono HO191.out (fun _ hk => ⟨hk.2.1, ⟨hk.2.2, hk.1⟩⟩)), (by refine uR ?_; exact Kd.R_mono HO194.out (fun _ hk => ⟨hk.1.2, ⟨hk.2, hk.1.1⟩⟩)), (uR HO_22.out), (by refine uR ?_; exact Kd.R_mono HO_7.out (fun _ hk => ⟨hk.1.1, ⟨hk.2, hk.1.2⟩⟩)), (uK BK177.out), (uK BK178.out), (uK BK185.out), uB⟩)
        ·skip
         refine Kd.R_lit_step (Kd.int .i64) _ 3 ?hg (N := 36) ?hd (xs := ([(rd_T23 t181 x24_2).f1] : List Int)) (inner := [.int .i64 ((rd_T23 t181 x24_2).f1)]) (ok := fun _ => True) (okp := fun _ => True) ?hr ?hp (fun _ hk => hk) trivial (Below.refl _ _) (Nat.le_refl _) (by simp) ?_; (case hd => rfl); (case hg => rfl); (case hr => first | (go_simp; done) | (go_simp; rfl)); (case hp => exact (Reps.one (show Kd.M (Kd.int .i64) _ _ _ ((rd_T23 t181 x24_2).f1) [.int .i64 ((rd_T23 t181 x24_2).f1)] from rfl) (Reps.none _ _)))
         intro v193 w38 ho39 hb hg_ hnew_; clear hg_ hnew_; (first | rw [← Ny192.out] at ho39 | (simp only [Int.reduceToNat] at ho39; rw [← Ny192.out] at ho39)); have n0_ := Aside0.mk (Kd.R_elder' (uR HO_6.out) (Kd.R_base ho39) hb); have n1_ := Aside0.mk (Kd.R_elder' (uR HO_7.out) (Kd.R_base ho39) hb); have n2_ := Aside0.mk (Kd.R_below (uR HO_22.out) hb); have n3_ := Aside0.mk (Kd.R_lower (Kd.R_new' (Kd.R_new' ho39 (Kd.R_lt (uR HO_6.out))) (Kd.R_lt (uR HO_7.out))) (below_size uB)); have n4_ := Aside0.mk (blk_below (uK BK177.out) hb); have n5_ := Aside0.mk (blk_below (uK BK178.out) hb); have n6_ := Aside0.mk (blk_below (uK BK185.out) hb); have n7_ := Aside0.mk (below_step uB hb); clear HO_6 HO_7 HO_22 BK177 BK178 BK185 HB; have HO_6 := n0_; have HO_7 := n1_; have HO_22 := n2_; have HO194 := n3_; have BK177 := n4_; have BK178 := n5_; have BK185 := n6_; have HB := n7_; clear n0_ n1_ n2_ n3_ n4_ n5_ n6_ n7_; clear hb ho39; refine hK.out _ _ ⟨(blk_cell BK185.out 0).trans rfl, (blk_cell BK185.out 1).trans rfl⟩ (fun hHeld => ?_); clear hK K; refine nm ?_; refine one_ (i := 3) (N := some 31) (bl 12 495) rfl rfl (one_of HT_.out (by kernel_rfl)) (by decide) (fun K hK => ?_); refine Kd.R_lit_step (Kd.int .i64) _ 3 ?hg (N := 31) ?hd (xs := ([(rd_T23 t181 x24_2).f0] : List Int)) (inner := [.int .i64 ((rd_T23 t181 x24_2).f0)]) (ok := fun _ => True) (okp := fun _ => True) ?hr ?hp (fun _ hk => hk) trivial (Below.refl _ _) (Nat.le_refl _) (by simp) ?_; (case hd => rfl); (case hg => rfl); (case hr => first | (go_simp; done) | (go_simp; rfl)); (case hp => exact (Reps.one (show Kd.M (Kd.int .i64) _ _ _ ((rd_T23 t181 x24_2).f0) [.int .i64 ((rd_T23 t181 x24_2).f0)] from rfl) (Reps.none _ _)))
         intro v187 w40 ho41 hb hg_ hnew_; clear hg_ hnew_; (first | rw [← Ny186.out] at ho41 | (simp only [Int.reduceToNat] at ho41; rw [← Ny186.out] at ho41)); have n0_ := Aside0.mk (Kd.R_elder' (uR HO_6.out) (Kd.R_base ho41) hb); have n1_ := Aside0.mk (Kd.R_elder' (uR HO_7.out) (Kd.R_base ho41) hb); have n2_ := Aside0.mk (Kd.R_below (uR HO_22.out) hb); have n3_ := Aside0.mk (Kd.R_elder' (uR HO194.out) (Kd.R_base ho41) hb); have n4_ := Aside0.mk (Kd.R_lower (Kd.R_new' (Kd.R_new' (Kd.R_new' ho41 (Kd.R_lt (uR HO_6.out))) (Kd.R_lt (uR HO_7.out))) (Kd.R_lt (uR HO194.out))) (below_size uB)); have n5_ := Aside0.mk (blk_below (uK BK177.out) hb); have n6_ := Aside0.mk (blk_below (uK BK178.out) hb); have n7_ := Aside0.mk (blk_below (uK BK185.out) hb); have n8_ := Aside0.mk (below_step uB hb); clear HO_6 HO_7 HO_22 HO194 BK177 BK178 BK185 HB; have HO_6 := n0_; have HO_7 := n1_; have HO_22 := n2_; have HO194 := n3_; have HO188 := n4_; have BK177 := n5_; have BK178 := n6_; have BK185 := n7_; have HB := n8_; clear n0_ n1_ n2_ n3_ n4_ n5_ n6_ n7_ n8_; clear hb ho41; obtain ⟨Ao43, co43, eo43⟩ := Kd.R_slice HO188.out; (first | subst eo43 | (injection eo43 with f1_ f2_ f3_; have f4_ := f1_.symm; have f5_ := f3_.symm; clear f1_ f2_ f3_; subst f4_; subst f5_)); refine hK.out _ _ ⟨(blk_cell BK185.out 0).trans rfl, (blk_cell BK185.out 1).trans rfl⟩ (fun hHeld => ?_); clear hK K; refine nm ?_; refine one_ (i := 4) (N := some 32) (bl 12 511) rfl rfl (one_of HT_.out (by kernel_rfl)) (by decide) (fun K hK => ?_); refine Kd.R_append_rows_step (Kd.int .i64) (w0 := w) w.heap.size (by rfl) (.tmp 28) (.tmp 31) 25 3 (.int .i64 0) 8 rfl Tryz.underlying25 info3 rfl (by decide) (by omega) (.slice Ao34 x6_2.length co34) x6_2 y186 _ _ _ (fun k_ => some k_ ≠ (.slice Ao35 x7_2.length co35 : Value).ownBlock ∧ some k_ ≠ (v193 : Value).ownBlock ∧ some k_ ≠ (.slice Ao43 y186.length co43 : Value).ownBlock) (fun _ => False) rfl rfl ?aO ?aR (fun _ _ h => h) (fun _ h => h.elim) ?aF ?aB ?aS ?aL ?_; (case aR => repeat (first | exact (Kd.R_reads' HO188.out).2.2 | (with_reducible refine Kd.C_alloc ?_ _) | (with_reducible refine Kd.C_drewN ?_ _) | (with_reducible refine Kd.C_drew ?_))); (case aB => exact uB); (case aF => exact (fun k_ hk => ⟨Kd.fresh' (Kd.R_lt (uR HO_7.out)) k_ hk, Kd.fresh' (Kd.R_lt (uR HO194.out)) k_ hk, Kd.fresh' (Kd.R_lt (uR HO188.out)) k_ hk⟩)); (case aO => exact (by refine uR ?_; exact Kd.R_mono HO_6.out (fun _ hk => ⟨hk.1.1, ⟨hk.1.2, hk.2⟩⟩))); (case aS => exact (below_size uB)); (case aL => have := LMc28.out; omega); intro v190 w42 ho hb hg hat; rw [← Ny189.out] at ho; replace HO_7 := Aside0.mk (Kd.R_after (ok := (fun k_ => some k_ ≠ (v193 : Value).ownBlock ∧ some k_ ≠ (.slice Ao43 y186.length co43 : Value).ownBlock)) (by refine uR ?_; exact Kd.R_mono HO_7.out (fun _ hk => ⟨⟨hk.1.2, hk.2⟩, hk.1.1⟩)) hg hat); replace HO_22 := Aside0.mk (Kd.R_over' (uR HO_22.out) (Kd.R_typed (uR HO_6.out)) (by decide) hg); replace BK177 := Aside0.mk (blk_grown (uK BK177.out) hg (Kd.R_ne HO_6.out BK177.out (by decide))); replace BK178 := Aside0.mk (blk_grown (uK BK178.out) hg (Kd.R_ne HO_6.out BK178.out (by decide))); replace BK185 := Aside0.mk (blk_grown (uK BK185.out) hg (Kd.R_ne HO_6.out BK185.out (by decide))); replace HO194 := Aside0.mk (Kd.R_after (ok := (fun k_ => some k_ ≠ (.slice Ao35 x7_2.length co35 : Value).ownBlock ∧ some k_ ≠ (.slice Ao43 y186.length co43 : Value).ownBlock)) (by refine uR ?_; exact Kd.R_mono HO194.out (fun _ hk => ⟨⟨hk.1.2, hk.2⟩, hk.1.1.2⟩)) hg hat); replace HO188 := Aside0.mk (Kd.R_after (ok := (fun k_ => some k_ ≠ (.slice Ao35 x7_2.length co35 : Value).ownBlock ∧ some k_ ≠ (v193 : Value).ownBlock)) (by refine uR ?_; exact Kd.R_mono HO188.out (fun _ hk => ⟨⟨hk.1.2, hk.2⟩, hk.1.1.2⟩)) hg hat); have HO191 := Aside0.mk (ho); replace HB := Aside0.mk (hb); clear HO_6; clear ho hb hg hat; refine hK.out _ _ ⟨(blk_cell BK185.out 0).trans rfl, (blk_cell BK185.out 1).trans rfl⟩ (fun hHeld => ?_); clear hK K; refine nm ?_; exact norm_ (by simp only [putAll, Act.put, List.setIfInBounds_toArray, List.set_cons_zero, List.set_cons_succ]) (hCont (.slice Ao43 y186.length co43, v190, v193) _ ⟨hHeld, (by refine uR ?_; exact Kd.R_mono HO188.out (fun _ hk => ⟨hk.2, ⟨hk.1.2, hk.1.1⟩⟩)), (by refine uR ?_; exact Kd.R_mono HO191.out (fun _ hk => ⟨hk.2.2, ⟨hk.2.1, hk.1⟩⟩)), (by refine uR ?_; exact Kd.R_mono HO194.out (fun _ hk => ⟨hk.1.2, ⟨hk.2, hk.1.1⟩⟩)), (uR HO_22.out), (by refine uR ?_; exact Kd.R_mono HO_7.out (fun _ hk => ⟨hk.1.2, ⟨hk.2, hk.1.1⟩⟩)), (uK BK177.out), (uK BK178.out), (uK BK185.out), uB⟩)
       rintro ⟨v187, v190, v193⟩ w44 ⟨hS_, h0_, h1_, h2_, h3_, h4_, h5_, h6_, h7_, h8_⟩; (try dsimp only at h0_ h1_ h2_ h3_ h4_ h5_ h6_ h7_ h8_); have n0_ := Aside0.mk h0_; have n1_ := Aside0.mk h1_; have n2_ := Aside0.mk h2_; have n3_ := Aside0.mk h3_; have n4_ := Aside0.mk h4_; have n5_ := Aside0.mk h5_; have n6_ := Aside0.mk h6_; have n7_ := Aside0.mk h7_; have n8_ := Aside0.mk h8_; clear HO_6 HO_7 HO_22 BK177 BK178 BK185 HB; clear h0_ h1_ h2_ h3_ h4_ h5_ h6_ h7_ h8_; have HO188 := n0_; have HO191 := n1_; have HO194 := n2_; have HO_22 := n3_; have HO_7 := n4_; have BK177 := n5_; have BK178 := n6_; have BK185 := n7_; have HB := n8_; clear n0_ n1_ n2_ n3_ n4_ n5_ n6_ n7_ n8_; have hHeld : w44.cell? ⟨gb185, 0, none⟩ = some (.int .i64 ((rd_T23 t181 x24_2).f0)) ∧ w44.cell? ⟨gb185, 1, none⟩ = some (.int .i64 ((rd_T23 t181 x24_2).f1)) := hS_; obtain ⟨Ao46, co46, eo46⟩ := Kd.R_slice HO194.out; (first | subst eo46 | (injection eo46 with f1_ f2_ f3_; have f4_ := f1_.symm; have f5_ := f3_.symm; clear f1_ f2_ f3_; subst f4_; subst f5_)); refine nm ?_; refine one_ (i := 9) (N := some 37) (bl 12 1023) rfl rfl (one_of HT_.out (by kernel_rfl)) (by decide) (fun K hK => ?_); refine Kd.R_append_rows_step (Kd.int .i64) (w0 := w) w.heap.size (by rfl) (.tmp 33) (.tmp 36) 25 3 (.int .i64 0) 8 rfl Tryz.underlying25 info3 rfl (by decide) (by omega) (.slice Ao35 x7_2.length co35) x7_2 y192 _ _ _ (fun k_ => some k_ ≠ (v187 : Value).ownBlock ∧ some k_ ≠ (v190 : Value).ownBlock ∧ some k_ ≠ (.slice Ao46 y192.length co46 : Value).ownBlock) (fun _ => False) rfl rfl ?aO ?aR (fun _ _ h => h) (fun _ h => h.elim) ?aF ?aB ?aS ?aL ?_; (case aR => repeat (first | exact (Kd.R_reads' HO194.out).2.2 | (with_reducible refine Kd.C_alloc ?_ _) | (with_reducible refine Kd.C_drewN ?_ _) | (with_reducible refine Kd.C_drew ?_))); (case aB => exact uB); (case aF => exact (fun k_ hk => ⟨Kd.fresh' (Kd.R_lt (uR HO188.out)) k_ hk, Kd.fresh' (Kd.R_lt (uR HO191.out)) k_ hk, Kd.fresh' (Kd.R_lt (uR HO194.out)) k_ hk⟩)); (case aO => exact (uR HO_7.out)); (case aS => exact (below_size uB)); (case aL => have := LMc29.out; omega); intro v196 w45 ho hb hg hat; rw [← Ny195.out] at ho; replace HO_22 := Aside0.mk (Kd.R_over' (uR HO_22.out) (Kd.R_typed (uR HO_7.out)) (by decide) hg); replace BK177 := Aside0.mk (blk_grown (uK BK177.out) hg (Kd.R_ne HO_7.out BK177.out (by decide))); replace BK178 := Aside0.mk (blk_grown (uK BK178.out) hg (Kd.R_ne HO_7.out BK178.out (by decide))); replace BK185 := Aside0.mk (blk_grown (uK BK185.out) hg (Kd.R_ne HO_7.out BK185.out (by decide))); replace HO188 := Aside0.mk (Kd.R_after (ok := (fun k_ => some k_ ≠ (v190 : Value).ownBlock ∧ some k_ ≠ (.slice Ao46 y192.length co46 : Value).ownBlock)) (by refine uR ?_; exact Kd.R_mono HO188.out (fun _ hk => ⟨⟨hk.1, hk.2.1⟩, hk.2.2⟩)) hg hat); replace HO191 := Aside0.mk (Kd.R_after (ok := (fun k_ => some k_ ≠ (v187 : Value).ownBlock ∧ some k_ ≠ (.slice Ao46 y192.length co46 : Value).ownBlock)) (by refine uR ?_; exact Kd.R_mono HO191.out (fun _ hk => ⟨⟨hk.1, hk.2.1⟩, hk.2.2⟩)) hg hat); replace HO194 := Aside0.mk (Kd.R_after (ok := (fun k_ => some k_ ≠ (v187 : Value).ownBlock ∧ some k_ ≠ (v190 : Value).ownBlock)) (by refine uR ?_; exact Kd.R_mono HO194.out (fun _ hk => ⟨⟨hk.1, hk.2.1⟩, hk.2.2⟩)) hg hat); have HO197 := Aside0.mk (ho); replace HB := Aside0.mk (hb); clear HO_7; clear ho hb hg hat; refine hK.out _ _ ⟨(blk_cell BK185.out 0).trans rfl, (blk_cell BK185.out 1).trans rfl⟩ (fun hHeld => ?_); clear hK K; refine nm ?_; refine pu 10 6 12 2047 ?_; refine pu 11 7 12 4095 ?_; refine done_ (done_of HT_.out (by kernel_rfl)) ?_; try go_wp2
       go_roundg k2
       case measure => have := HJ2.out; have := HK2.out; omega
       case rel => exact ⟨(y189), (y195), (wrap64 (x24_2 + 1)), u0, H', ⟨by have := HJ2.out; have := HK2.out; omega⟩, ⟨by refine uR ?_; exact Kd.R_mono HO191.out (fun _ hk => hk.2)⟩, ⟨by refine uR ?_; exact Kd.R_mono HO197.out (fun _ hk => hk.2.1)⟩, ⟨by refine uR ?_; exact Kd.R_mono HO_22.out (fun _ hk => hk.1)⟩, ⟨uK BK177.out⟩, ⟨uK BK178.out⟩, ⟨uB⟩⟩
      ·rw [if_neg c25] at H; replace c25 := decide_eq_false c25; obtain ⟨c47, H⟩ := ifs H; have c47b0 : decide (0 < (x6_2.length : Int)) = true := decide_eq_true c47; have c47b1 : decide (0 < x6_2.length) = true := decide_eq_true (by omega); clear c47; replace H := Option.bind_eq_some_iff.mp H; obtain ⟨t199, A480, H⟩ := H; replace H : (if 0 < (x7_2.length : Int) then ((channel_lowest.f k2 (rd x7_2 0) x7_2).bind fun t201 => (some (t199, t201, 0))) else (none)) = some (r1, r2, r3) := H; have A48 := Aside0.mk A480; clear A480; obtain ⟨c49, H⟩ := ifs H; have c49b0 : decide (0 < (x7_2.length : Int)) = true := decide_eq_true c49; have c49b1 : decide (0 < x7_2.length) = true := decide_eq_true (by omega); clear c49; replace H := Option.bind_eq_some_iff.mp H; obtain ⟨t201, A500, H⟩ := H; replace H : (some (t199, t201, 0)) = some (r1, r2, r3) := H; have A50 := Aside0.mk A500; clear A500; simp only [Option.some.injEq, Prod.mk.injEq] at H; obtain ⟨rfl, rfl, rfl⟩ := H; (try go_wp2); replace HO_6 := Aside0.mk (Kd.R_drew HO_6.out); replace HO_7 := Aside0.mk (Kd.R_drew HO_7.out); replace HO_22 := Aside0.mk (Kd.R_drew HO_22.out); replace BK177 := Aside0.mk (blk_drew BK177.out); replace BK178 := Aside0.mk (blk_drew BK178.out); replace HB := Aside0.mk (below_drew1 HB.out); obtain ⟨Ao52, co52, eo52⟩ := Kd.R_slice HO_6.out; (first | subst eo52 | (injection eo52 with f1_ f2_ f3_; have f4_ := f1_.symm; have f5_ := f3_.symm; clear f1_ f2_ f3_; subst f4_; subst f5_)); have p198 : 0 ≤ (0 : Int) := (by omega); have q198 : 0 < (x6_2.length : Int) := uD; obtain ⟨ad198, e198, hx198_0⟩ := Kd.at_int (Kd.R_reads' HO_6.out).2.2 0 p198 q198
       cases e198
       have qi198 : (0 < x6_2.length) = True := eq_true (by omega); (try rw [show ((0 : Int)).toNat = 0 from rfl] at hx198_0); (try rw [Addr.add_zero'] at hx198_0); replace p198 := eq_true p198; replace q198 := eq_true q198; obtain ⟨Ao53, co53, eo53⟩ := Kd.R_slice HO_7.out; (first | subst eo53 | (injection eo53 with f1_ f2_ f3_; have f4_ := f1_.symm; have f5_ := f3_.symm; clear f1_ f2_ f3_; subst f4_; subst f5_)); have p200 : 0 ≤ (0 : Int) := (by omega); have q200 : 0 < (x7_2.length : Int) := uD; obtain ⟨ad200, e200, hx200_0⟩ := Kd.at_int (Kd.R_reads' HO_7.out).2.2 0 p200 q200
       cases e200
       have qi200 : (0 < x7_2.length) = True := eq_true (by omega); (try rw [show ((0 : Int)).toNat = 0 from rfl] at hx200_0); (try rw [Addr.add_zero'] at hx200_0); replace p200 := eq_true p200; replace q200 := eq_true q200; refine start_ (n := 13) (S := fun w' => w'.cell? ad198 = some (.int .i64 (rd x6_2 0)) ∧ w'.cell? ad200 = some (.int .i64 (rd x7_2 0))) (ds := []) (bl 13 0) (by kernel_rfl) rfl rfl ⟨hx198_0, hx200_0⟩ (fun hHeld => ?_); refine with_tabW channel_Line.tab9 channel_Line.bits9 (fun HT_ HW_ => ?_)
       generalize wr.drew = w51 at HO_6 HO_7 HO_22 BK177 BK178 HB hx198_0 hx200_0 hHeld ⊢; refine pu 0 39 13 1 ?_; refine pu 1 40 13 3 ?_; refine pu 3 42 13 11 ?_; refine pu 5 44 13 43 ?_; refine pu 6 45 13 107 ?_; refine pu 8 47 13 363 ?_; refine tk2 2 41 13 367 hHeld ?_; refine tk2 7 46 13 495 hHeld ?_; refine one_ (i := 4) (N := some 43) (bl 13 511) rfl rfl (one_of HT_.out (by kernel_rfl)) (by decide) (fun K hK => ?_); refine goes_ Tryz.func76 (by kernel_rfl) rfl #[.int .i64 (rd x6_2 0), .slice (some ad198) x6_2.length co52] (by rfl) rfl rfl uM ?_; (with_reducible refine (channel_lowest.calls k2 (rd x6_2 0) _ _ x6_2 t199 _ ?side1 ?side2 A48.out).mono ?_); (case side1 => repeat (first | exact (Kd.R_reads' HO_6.out).2.2 | (with_reducible refine Kd.C_alloc ?_ _) | (with_reducible refine Kd.C_drewN ?_ _) | (with_reducible refine Kd.C_drew ?_))); (case side2 => exact (Kd.R_reads' HO_6.out).2.1); rintro e w54 ⟨rfl, hb⟩; have HS0_ := (hb.cell (World.block_lt_of_cell? _ _ (hHeld.1))).trans (hHeld.1); have HS1_ := (hb.cell (World.block_lt_of_cell? _ _ (hHeld.2))).trans (hHeld.2); refine ⟨_, rfl, ?_⟩; replace HO_6 := Aside0.mk (Kd.R_below (uR HO_6.out) hb); replace HO_7 := Aside0.mk (Kd.R_below (uR HO_7.out) hb); replace HO_22 := Aside0.mk (Kd.R_below (uR HO_22.out) hb); replace BK177 := Aside0.mk (blk_below (uK BK177.out) hb); replace BK178 := Aside0.mk (blk_below (uK BK178.out) hb); replace HB := Aside0.mk (below_step uB hb); (try clear hb); (try clear hb2); (try clear hk); (try clear hi); refine hK.out _ _ ⟨HS0_, HS1_⟩ (fun hHeld => ?_); clear hK K; refine nm ?_; refine one_ (i := 9) (N := some 48) (bl 13 1023) rfl rfl (one_of HT_.out (by kernel_rfl)) (by decide) (fun K hK => ?_); refine goes_ Tryz.func76 (by kernel_rfl) rfl #[.int .i64 (rd x7_2 0), .slice (some ad200) x7_2.length co53] (by rfl) rfl rfl uM ?_; (with_reducible refine (channel_lowest.calls k2 (rd x7_2 0) _ _ x7_2 t201 _ ?side1 ?side2 A50.out).mono ?_); (case side1 => repeat (first | exact (Kd.R_reads' HO_7.out).2.2 | (with_reducible refine Kd.C_alloc ?_ _) | (with_reducible refine Kd.C_drewN ?_ _) | (with_reducible refine Kd.C_drew ?_))); (case side2 => exact (Kd.R_reads' HO_7.out).2.1); rintro e w55 ⟨rfl, hb⟩; have HS0_ := (hb.cell (World.block_lt_of_cell? _ _ (hHeld.1))).trans (hHeld.1); have HS1_ := (hb.cell (World.block_lt_of_cell? _ _ (hHeld.2))).trans (hHeld.2); refine ⟨_, rfl, ?_⟩; replace HO_6 := Aside0.mk (Kd.R_below (uR HO_6.out) hb); replace HO_7 := Aside0.mk (Kd.R_below (uR HO_7.out) hb); replace HO_22 := Aside0.mk (Kd.R_below (uR HO_22.out) hb); replace BK177 := Aside0.mk (blk_below (uK BK177.out) hb); replace BK178 := Aside0.mk (blk_below (uK BK178.out) hb); replace HB := Aside0.mk (below_step uB hb); (try clear hb); (try clear hb2); (try clear hk); (try clear hi); refine hK.out _ _ ⟨HS0_, HS1_⟩ (fun hHeld => ?_); clear hK K; refine nm ?_; refine pu 10 49 13 2047 ?_; refine one_ (i := 11) (N := none) (bl 13 4095) rfl rfl (one_of HT_.out (by kernel_rfl)) (by decide) (fun K hK => ?_); have hs56 := (blk_cell BK178.out 0).trans rfl; have hfs56 := blk_frozen BK178.out 0; have hns56_0 := NB177_178.out; have hms56_0 := NB178_177.out; have hs57 := (blk_cell BK178.out 1).trans rfl; have hfs57 := blk_frozen BK178.out 1; have hns57_0 := NB177_178.out; have hms57_0 := NB178_177.out; refine skip_ (w1 := ?_) (by rfl) rfl ?_ ?_; rotate_left
       ·go_simp
        rfl
       refine hK.out _ _ ⟨((cell_far (p := ⟨gb178, _, none⟩) (fx (Kd.own_blk (Kd.R_ne HO_6.out BK178.out (by decide)))) _).trans (((cell_far (p := ⟨gb178, _, none⟩) (fx (Kd.own_blk (Kd.R_ne HO_6.out BK178.out (by decide)))) _).trans (hHeld.1)))), ((cell_far (p := ⟨gb178, _, none⟩) (fx (Kd.own_blk (Kd.R_ne HO_7.out BK178.out (by decide)))) _).trans (((cell_far (p := ⟨gb178, _, none⟩) (fx (Kd.own_blk (Kd.R_ne HO_7.out BK178.out (by decide)))) _).trans (hHeld.2))))⟩ (fun hHeld => ?_); clear hK K; refine pu 12 5 13 8191 ?_; refine done_ (done_of HT_.out (by kernel_rfl)) ?_; (try go_wp2); refine bodyPost_ret (results_ct rfl _ _ gb178 23 #[.int .i64 t199, .int .i64 t201] (0, 0) _ rfl (by refine uK ?_; refine blk_put (cs := #[.int .i64 t199, .int .i64 0]) ?_ 1 _ rfl; refine uK ?_; refine blk_put (cs := #[.int .i64 0, .int .i64 0]) ?_ 0 _ rfl; refine uK ?_; exact BK178.out) Tryz.underlying23 rfl (by kernel_rfl)) rfl ?_; exact ⟨uE, uB⟩
end Go.Proofs.YtdmdahafiiggiabGreatDoor.K
end
section
namespace Go.Proofs.YtdmdahafiiggiabGreatDoor.K
open Go.RowKit Go.Proofs.YtdmdahafiiggiabGreatDoorW.PrintWords Go.Proofs.YtdmdahafiiggiabGreatDoorW.PrintLast Go.Proofs.YtdmdahafiiggiabGreatDoorW.PrintMore
attribute [local go_sem] max2_int min2_int max_two min_two max_three min_three max_four min_four
mutual
def channel_Narrowest.j0 : Nat → List Int → Bool → List Int → List (S66) → Option (List Int × Int)
 | 0, _, _, _, _ => none
 | k + 1, x1, x20, x232000, x232001 => if x20 = true then (some (([] : List Int), 2)) else ((channel_spans.f k x232000 x232001 x1).bind fun t234 => (channel_Narrowest.l0 k t234 ([] : List Int) t234 (t234.length : Int) 0))
def channel_Narrowest.l0 : Nat → List (S23) → List Int → List (S23) → Int → Int → Option (List Int × Int)
 | 0, _, _, _, _, _ => none
 | k + 1, x6, x7, x24, x25, x26 => if x26 < x25 then (if 0 ≤ x26 then (if x26 < (x24.length : Int) then (channel_Narrowest.l1 k x6 x7 x26 x24 x25 x26 x6 (x6.length : Int) 0 ((rd_T23 x24 x26).f0) ((rd_T23 x24 x26).f1)) else (none)) else (none)) else (some (x7, 0))
def channel_Narrowest.l1 : Nat → List (S23) → List Int → Int → List (S23) → Int → Int → List (S23) → Int → Int → Int → Int → Option (List Int × Int)
 | 0, _, _, _, _, _, _, _, _, _, _, _ => none
 | k + 1, x6, x7, x8, x24, x25, x26, x31, x32, x33, x239000, x239001 => if x33 < x32 then (if 0 ≤ x33 then (if x33 < (x31.length : Int) then (if x33 = x8 then (channel_Narrowest.l1 k x6 x7 x8 x24 x25 x26 x31 x32 (wrap64 (x33 + 1)) x239000 x239001) else (if x239000 > ((rd_T23 x31 x33).f1) then (channel_Narrowest.l0 k x6 x7 x24 x25 (wrap64 (x26 + 1))) else (channel_Narrowest.l1 k x6 x7 x8 x24 x25 x26 x31 x32 (wrap64 (x33 + 1)) x239000 x239001))) else (none)) else (none)) else (if x7.length < 17592186044416 then (channel_Narrowest.l0 k x6 (x7 ++ [x8]) x24 x25 (wrap64 (x26 + 1))) else (none))
end
def channel_Narrowest.f (k : Nat) (l0_0 : List Int) (l0_1 : List (S66)) (l1 : List Int) : Option (List Int × Int) := (channel_isLine.f l0_0 l0_1).bind fun t232 => (if t232 = true then ((channel_areAges.f l0_0 l0_1 l1).bind fun t233 => (channel_Narrowest.j0 k l1 (!t233) l0_0 l0_1)) else (channel_Narrowest.j0 k l1 true l0_0 l0_1))
set_option maxHeartbeats 8000000 in
set_option maxRecDepth 100000 in
theorem channel_Narrowest.calls (k : Nat) (A0_0 : Option Addr) (c0_0 : Nat) (l0_0 : List Int) (A0_1 : Option Addr) (c0_1 : Nat) (l0_1 : List (S66)) (A1 : Option Addr) (c1 : Nat) (l1 : List Int) (r1 : List Int) (r2 : Int) (w : World) (hr0_0 : Kd.C (Kd.int .i64) w A0_0 l0_0.length l0_0) (hc0_0 : l0_0.length ≤ c0_0) (hr0_1 : Kd.C k66 w A0_1 l0_1.length l0_1) (hc0_1 : l0_1.length ≤ c0_1) (hr1 : Kd.C (Kd.int .i64) w A1 l1.length l1) (hc1 : l1.length ≤ c1) (h : channel_Narrowest.f k l0_0 l0_1 l1 = some (r1, r2)) :
  Calls Tryz.prog 49 #[.agg #[.slice A0_0 l0_0.length c0_0, .slice A0_1 l0_1.length c0_1], .slice A1 l1.length c1] w fun e w' => ∃ v0_ : Value, e = .returned (.tuple #[v0_, .int .i64 r2]) ∧ Kd.R (Kd.int .i64) 3 w' w.heap.size (fun _ => True) v0_ r1 ∧ Below w.heap.size w w' := by
 have hu60 := Tryz.underlying60; have hu23 := Tryz.underlying23; have HR0_0 := Aside0.mk hr0_0; have HC0_0 := Aside0.mk hc0_0; clear hr0_0 hc0_0; have HR0_1 := Aside0.mk hr0_1; have HC0_1 := Aside0.mk hc0_1; clear hr0_1 hc0_1; have HR1 := Aside0.mk hr1; have HC1 := Aside0.mk hc1; clear hr1 hc1; have HB := Aside0.mk (Below.refl w.heap.size w); have H : ((channel_isLine.f l0_0 l0_1).bind fun t232 => (if t232 = true then ((channel_areAges.f l0_0 l0_1 l1).bind fun t233 => (channel_Narrowest.j0 k l1 (!t233) l0_0 l0_1)) else (channel_Narrowest.j0 k l1 true l0_0 l0_1))) = some (r1, r2) := h; clear h; have HC3 := Aside0.mk H; clear H
 go_enter Tryz.func49, Tryz.ntmps49
 go_upto_region 1 with (first | ((with_reducible refine gate_dst (N := 2) rfl ?_); refine bxe 2 #[.slice A0_0 l0_0.length c0_0, .slice A0_1 l0_1.length c0_1] 60 ?_; intro gb231 hg w4 hbox hb; have n0_ := Aside0.mk (below_step uB hb); have n1_ := Aside0.mk (hbox); have n2_ := gw hg; have n3_ := gw hg; clear HB; have HB := n0_; have BK231 := n1_; have GW231 := n2_; have GE231 := n3_; clear n0_ n1_ n2_ n3_; clear hb hbox hg))
 (try simp only [Act.put, List.setIfInBounds_toArray, List.set_cons_zero, List.set_cons_succ])
 go_step3
 go_upto_region 1 with (fail)
 go_cut [20] (fun v20 wc => ∃ (kq : Nat) (x20_2 : Bool), v20 = .bool x20_2 ∧ Aside0 (channel_Narrowest.j0 kq l1 x20_2 l0_0 l0_1 = some (r1, r2)) ∧ Aside0 (kq ≤ k) ∧ Aside0 (wc.heap[gb231]? = some (.cells #[(.slice A0_0 l0_0.length c0_0), (.slice A0_1 l0_1.length c0_1)] 60 (0, 0))) ∧ Aside0 (Below w.heap.size w wc))
 case first =>
  have H := HC3.out; clear HC3; replace H := Option.bind_eq_some_iff.mp H; obtain ⟨t232, A50, H⟩ := H; replace H : (if t232 = true then ((channel_areAges.f l0_0 l0_1 l1).bind fun t233 => (channel_Narrowest.j0 k l1 (!t233) l0_0 l0_1)) else (channel_Narrowest.j0 k l1 true l0_0 l0_1)) = some (r1, r2) := H; have A5 := Aside0.mk A50; clear A50
  by_cases c6 : t232 = true
  ·subst c6; have H1 : ((channel_areAges.f l0_0 l0_1 l1).bind fun t233 => (channel_Narrowest.j0 k l1 (!t233) l0_0 l0_1)) = some (r1, r2) := by rw [if_pos rfl] at H; exact H
   clear H; have H := H1; clear H1; replace H := Option.bind_eq_some_iff.mp H; obtain ⟨t233, A70, H⟩ := H; replace H : (channel_Narrowest.j0 k l1 (!t233) l0_0 l0_1) = some (r1, r2) := H; have A7 := Aside0.mk A70; clear A70; have H' := Aside0.mk H; clear H; obtain ⟨hcz8_0, hcz8_1⟩ := cz2 BK231.out; obtain ⟨hfz8_0, hfz8_1⟩ := fz2 BK231.out
   go_wp2_with (first | ((with_reducible refine gate_callee (f := 69) rfl ?_); refine goesL_ (some 13) rfl rfl Tryz.func69 (by kernel_rfl) rfl #[.agg #[.slice A0_0 l0_0.length c0_0, .slice A0_1 l0_1.length c0_1]] rfl uM ?_; (with_reducible refine (channel_isLine.calls _ _ l0_0 _ _ l0_1 true _ ?side1 ?side2 ?side3 ?side4 A5.out).mono ?_); (case side1 => repeat (first | exact (Kd.C_below HR0_0.out HB.out) | (with_reducible refine Kd.C_alloc ?_ _) | (with_reducible refine Kd.C_drewN ?_ _) | (with_reducible refine Kd.C_drew ?_))); (case side2 => exact HC0_0.out); (case side3 => repeat (first | exact (Kd.C_below HR0_1.out HB.out) | (with_reducible refine Kd.C_alloc ?_ _) | (with_reducible refine Kd.C_drewN ?_ _) | (with_reducible refine Kd.C_drew ?_))); (case side4 => exact HC0_1.out); rintro e w9 ⟨rfl, hb⟩; refine ⟨_, rfl, ?_⟩; replace BK231 := Aside0.mk (blk_below (uK BK231.out) hb); replace HB := Aside0.mk (below_step uB hb); (try clear hb); (try clear hb2); (try clear hk); (try clear hi); obtain ⟨hcz10_0, hcz10_1⟩ := cz2 BK231.out; obtain ⟨hfz10_0, hfz10_1⟩ := fz2 BK231.out) | (go_at_call 74; (with_reducible refine (channel_areAges.calls _ _ l0_0 _ _ l0_1 _ _ l1 t233 _ ?side1 ?side2 ?side3 ?side4 ?side5 ?side6 A7.out).mono ?_); (case side1 => repeat (first | exact (Kd.C_below HR0_0.out HB.out) | (with_reducible refine Kd.C_alloc ?_ _) | (with_reducible refine Kd.C_drewN ?_ _) | (with_reducible refine Kd.C_drew ?_))); (case side2 => exact HC0_0.out); (case side3 => repeat (first | exact (Kd.C_below HR0_1.out HB.out) | (with_reducible refine Kd.C_alloc ?_ _) | (with_reducible refine Kd.C_drewN ?_ _) | (with_reducible refine Kd.C_drew ?_))); (case side4 => exact HC0_1.out); (case side5 => repeat (first | exact (Kd.C_below HR1.out HB.out) | (with_reducible refine Kd.C_alloc ?_ _) | (with_reducible refine Kd.C_drewN ?_ _) | (with_reducible refine Kd.C_drew ?_))); (case side6 => exact HC1.out); rintro e w11 ⟨rfl, hb⟩; replace BK231 := Aside0.mk (blk_below (uK BK231.out) hb); replace HB := Aside0.mk (below_step uB hb); (try clear hb); (try clear hb2); (try clear hk); (try clear hi)))
   go_meet
   case rel => exact ⟨_, (!t233), u0, H', ⟨u1⟩, ⟨uK BK231.out⟩, ⟨uB⟩⟩
  ·replace c6 := Bool.eq_false_iff.mpr c6; subst c6; have H1 : (channel_Narrowest.j0 k l1 true l0_0 l0_1) = some (r1, r2) := by rw [if_neg (show ¬ (false = true) by decide)] at H; exact H
   clear H; have H := H1; clear H1; have H' := Aside0.mk H; clear H; obtain ⟨hcz12_0, hcz12_1⟩ := cz2 BK231.out; obtain ⟨hfz12_0, hfz12_1⟩ := fz2 BK231.out
   go_wp2_with (first | ((with_reducible refine gate_callee (f := 69) rfl ?_); refine goesL_ (some 13) rfl rfl Tryz.func69 (by kernel_rfl) rfl #[.agg #[.slice A0_0 l0_0.length c0_0, .slice A0_1 l0_1.length c0_1]] rfl uM ?_; (with_reducible refine (channel_isLine.calls _ _ l0_0 _ _ l0_1 false _ ?side1 ?side2 ?side3 ?side4 A5.out).mono ?_); (case side1 => repeat (first | exact (Kd.C_below HR0_0.out HB.out) | (with_reducible refine Kd.C_alloc ?_ _) | (with_reducible refine Kd.C_drewN ?_ _) | (with_reducible refine Kd.C_drew ?_))); (case side2 => exact HC0_0.out); (case side3 => repeat (first | exact (Kd.C_below HR0_1.out HB.out) | (with_reducible refine Kd.C_alloc ?_ _) | (with_reducible refine Kd.C_drewN ?_ _) | (with_reducible refine Kd.C_drew ?_))); (case side4 => exact HC0_1.out); rintro e w13 ⟨rfl, hb⟩; refine ⟨_, rfl, ?_⟩; replace BK231 := Aside0.mk (blk_below (uK BK231.out) hb); replace HB := Aside0.mk (below_step uB hb); (try clear hb); (try clear hb2); (try clear hk); (try clear hi)))
   go_meet
   case rel => exact ⟨_, (true), u0, H', ⟨u1⟩, ⟨uK BK231.out⟩, ⟨uB⟩⟩
 case rest =>
  clear HC3; try clear c1; try clear p2; try clear c4; try clear c6; try clear hcz10_0; try clear hcz10_1; try clear hcz12_0; try clear hcz12_1; try clear hcz8_0; try clear hcz8_1; try clear hfz10_0; try clear hfz10_1; try clear hfz12_0; try clear hfz12_1; try clear hfz8_0; try clear hfz8_1
  obtain ⟨kq, x20_2, rfl, HA, HJ2, BK231, HB⟩ := hcut
  cases kq with
  | zero => exact absurd HA.out (by simp [channel_Narrowest.j0])
  | succ kj2 =>
   have H := HA.out; clear HA; simp only [channel_Narrowest.j0] at H
   by_cases c14 : x20_2 = true
   ·subst c14; have H1 : (some (([] : List Int), 2)) = some (r1, r2) := by rw [if_pos rfl] at H; exact H
    clear H; have H := H1; clear H1; simp only [Option.some.injEq, Prod.mk.injEq] at H; obtain ⟨rfl, rfl⟩ := H; go_wp2; try rw [Exit.noGoto_ret]
    go_ret2
    exact ⟨_, uE, uN, uB⟩
   ·replace c14 := Bool.eq_false_iff.mpr c14; subst c14; have H1 : ((channel_spans.f kj2 l0_0 l0_1 l1).bind fun t234 => (channel_Narrowest.l0 kj2 t234 ([] : List Int) t234 (t234.length : Int) 0)) = some (r1, r2) := by rw [if_neg (show ¬ (false = true) by decide)] at H; exact H
    clear H; have H := H1; clear H1; replace H := Option.bind_eq_some_iff.mp H; obtain ⟨t234, A150, H⟩ := H; replace H : (channel_Narrowest.l0 kj2 t234 ([] : List Int) t234 (t234.length : Int) 0) = some (r1, r2) := H; have A15 := Aside0.mk A150; clear A150; have H' := Aside0.mk H; clear H; obtain ⟨hcz16_0, hcz16_1⟩ := cz2 BK231.out; obtain ⟨hfz16_0, hfz16_1⟩ := fz2 BK231.out
    go_wp2_with (first | ((with_reducible refine gate_callee (f := 75) rfl ?_); refine goesL_ (some 23) rfl rfl Tryz.func75 (by kernel_rfl) rfl #[.agg #[.slice A0_0 l0_0.length c0_0, .slice A0_1 l0_1.length c0_1], .slice A1 l1.length c1] rfl uM ?_; (with_reducible refine (channel_spans.calls kj2 _ _ l0_0 _ _ l0_1 _ _ l1 t234 _ ?side1 ?side2 ?side3 ?side4 ?side5 ?side6 A15.out).mono ?_); (case side1 => repeat (first | exact (Kd.C_below HR0_0.out HB.out) | (with_reducible refine Kd.C_alloc ?_ _) | (with_reducible refine Kd.C_drewN ?_ _) | (with_reducible refine Kd.C_drew ?_))); (case side2 => exact HC0_0.out); (case side3 => repeat (first | exact (Kd.C_below HR0_1.out HB.out) | (with_reducible refine Kd.C_alloc ?_ _) | (with_reducible refine Kd.C_drewN ?_ _) | (with_reducible refine Kd.C_drew ?_))); (case side4 => exact HC0_1.out); (case side5 => repeat (first | exact (Kd.C_below HR1.out HB.out) | (with_reducible refine Kd.C_alloc ?_ _) | (with_reducible refine Kd.C_drewN ?_ _) | (with_reducible refine Kd.C_drew ?_))); (case side6 => exact HC1.out); rintro e w17 ⟨v235, rfl, ho0, hb⟩; refine ⟨_, rfl, ?_⟩; have HO236 := Aside0.mk (Kd.R_lower ho0 (below_size uB)); replace BK231 := Aside0.mk (blk_below (uK BK231.out) hb); replace HB := Aside0.mk (below_step uB hb); (try clear hb); (try clear hb2); (try clear hk); (try clear hi); (try clear ho0); obtain ⟨Ao18, co18, eo18⟩ := Kd.R_slice HO236.out; subst eo18))
    go_step3
    go_wp2
    go_loopg [7, 26] kj2 (fun kq v7 v26 w' => ∃ (x7_2 : List Int) (x26_2 : Int), v26 = .int .i64 x26_2 ∧ Aside0 (channel_Narrowest.l0 kq t234 x7_2 t234 (t234.length : Int) x26_2 = some (r1, r2)) ∧ Aside0 (kq ≤ kj2) ∧ Aside0 (Kd.R k23 23 w' w.heap.size (fun _ => True) (.slice Ao18 t234.length co18) t234) ∧ Aside0 (Kd.R (Kd.int .i64) 3 w' w.heap.size (fun _ => True) v7 x7_2) ∧ Aside0 (Kd.R k23 23 w' w.heap.size (fun _ => True) (.slice Ao18 t234.length co18) t234) ∧ Aside0 (w'.heap[gb231]? = some (.cells #[(.slice A0_0 l0_0.length c0_0), (.slice A0_1 l0_1.length c0_1)] 60 (0, 0))) ∧ Aside0 (Below w.heap.size w w'))
    case atStart => exact ⟨(([] : List Int)), (0), u0, H', ⟨Nat.le_refl _⟩, ⟨uR HO236.out⟩, ⟨uN⟩, ⟨uR HO236.out⟩, ⟨uK BK231.out⟩, ⟨uB⟩⟩
    case round =>
     clear H'; try clear c1; try clear p2; try clear c4; try clear c6; try clear c7; try clear c14; try clear hcz10_0; try clear hcz10_1; try clear hcz12_0; try clear hcz12_1; try clear hcz16_0; try clear hcz16_1; try clear hcz8_0; try clear hcz8_1; try clear hfz10_0; try clear hfz10_1; try clear hfz12_0; try clear hfz12_1; try clear hfz16_0; try clear hfz16_1; try clear hfz8_0; try clear hfz8_1; try clear p2
     obtain ⟨x7_2, x26_2, rfl, HA, HK2, HO_6, HO_7, HO_24, BK231, HB⟩ := hrel
     cases gk with
     | zero => exact absurd HA.out (by simp [channel_Narrowest.l0])
     | succ k2 =>
      have H := HA.out; clear HA; simp only [channel_Narrowest.l0] at H
      by_cases c19 : x26_2 < (t234.length : Int)
      ·rw [if_pos c19] at H; replace c19 := decide_eq_true c19; obtain ⟨c20, H⟩ := ifs H; replace c20 := decide_eq_true c20; obtain ⟨c21, H⟩ := ifs H; replace c21 := decide_eq_true c21; have H' := Aside0.mk H; clear H; have p237 : 0 ≤ (x26_2 : Int) := uD; have q237 : x26_2 < (t234.length : Int) := uD; obtain ⟨ad237, e237, hx237_0, hx237_1⟩ := at_T23 (Kd.R_reads' HO_24.out).2.2 x26_2 p237 q237
       cases e237
       replace p237 := eq_true p237; replace q237 := eq_true q237
       go_wp2_with (first | ((with_reducible refine gate_dst (N := 9) rfl ?_); refine bxe 9 #[.int .i64 0, .int .i64 0] 23 ?_; intro gb238 hg w22 hbox hb; have n0_ := rE HO_6 hg hb; have n1_ := Aside0.mk (Kd.R_below (uR HO_7.out) hb); have n2_ := rE HO_24 hg hb; have n3_ := Aside0.mk (blk_below (uK BK231.out) hb); have n4_ := Aside0.mk (below_step uB hb); have n5_ := Aside0.mk (hbox); have n6_ := gw hg; have n7_ := gw hg; have n8_ := nb BK231 hg; have n9_ := nc BK231 hg; clear HO_6; clear HO_7; clear HO_24; clear BK231; clear HB; have HO_6 := n0_; have HO_7 := n1_; have HO_24 := n2_; have BK231 := n3_; have HB := n4_; have BK238 := n5_; have GW238 := n6_; have GE238 := n7_; have NB231_238 := n8_; have NB238_231 := n9_; clear n0_ n1_ n2_ n3_ n4_ n5_ n6_ n7_ n8_ n9_; clear hb hbox hg; have hnb23 := NB238_231.out; have hnc23 := NB231_238.out; obtain ⟨hcz24_0, hcz24_1⟩ := cz2 BK238.out; obtain ⟨hfz24_0, hfz24_1⟩ := fz2 BK238.out))
       go_loopg [33] k2 (fun kq v33 w' => ∃ (x33_3 : Int), v33 = .int .i64 x33_3 ∧ Aside0 (channel_Narrowest.l1 kq t234 x7_2 x26_2 t234 (t234.length : Int) x26_2 t234 (t234.length : Int) x33_3 ((rd_T23 t234 x26_2).f0) ((rd_T23 t234 x26_2).f1) = some (r1, r2)) ∧ Aside0 (kq ≤ k2) ∧ Aside0 (Kd.R k23 23 w' w.heap.size (fun k_ => k_ ≠ gb238) (.slice (some ad237) t234.length co18) t234) ∧ Aside0 (Kd.R (Kd.int .i64) 3 w' w.heap.size (fun _ => True) u7 x7_2) ∧ Aside0 (Kd.R k23 23 w' w.heap.size (fun k_ => k_ ≠ gb238) (.slice (some ad237) t234.length co18) t234) ∧ Aside0 (Kd.R k23 23 w' w.heap.size (fun k_ => k_ ≠ gb238) (.slice (some ad237) t234.length co18) t234) ∧ Aside0 (w'.heap[gb231]? = some (.cells #[(.slice A0_0 l0_0.length c0_0), (.slice A0_1 l0_1.length c0_1)] 60 (0, 0))) ∧ Aside0 (w'.heap[gb238]? = some (.cells #[.int .i64 ((rd_T23 t234 x26_2).f0), .int .i64 ((rd_T23 t234 x26_2).f1)] 23 (0, 0))) ∧ Aside0 (Below w.heap.size w w'))
       case atStart => exact ⟨(0), u0, H', ⟨Nat.le_refl _⟩, ⟨by refine uR ?_; exact Kd.R_mono (Kd.R_far (p := ⟨gb238, 1, none⟩) (Kd.R_far (p := ⟨gb238, 0, none⟩) (Kd.R_mono HO_6.out (fun k_ hk => (⟨hk, hk.2⟩ : _ ∧ k_ ≠ gb238))) (fun _ hk => hk.2) (.int .i64 ((rd_T23 t234 x26_2).f0))) (fun _ hk => hk.2) (.int .i64 ((rd_T23 t234 x26_2).f1))) (fun _ hk => hk.1.2)⟩, ⟨by refine uR ?_; exact Kd.R_mono (Kd.R_far (p := ⟨gb238, 1, none⟩) (Kd.R_far (p := ⟨gb238, 0, none⟩) (Kd.R_types HO_7.out BK238.out (by decide)) (fun _ hk => hk.2) (.int .i64 ((rd_T23 t234 x26_2).f0))) (fun _ hk => hk.2) (.int .i64 ((rd_T23 t234 x26_2).f1))) (fun _ hk => trivial)⟩, ⟨by refine uR ?_; exact Kd.R_mono (Kd.R_far (p := ⟨gb238, 1, none⟩) (Kd.R_far (p := ⟨gb238, 0, none⟩) (Kd.R_mono HO_24.out (fun k_ hk => (⟨hk, hk.2⟩ : _ ∧ k_ ≠ gb238))) (fun _ hk => hk.2) (.int .i64 ((rd_T23 t234 x26_2).f0))) (fun _ hk => hk.2) (.int .i64 ((rd_T23 t234 x26_2).f1))) (fun _ hk => hk.1.2)⟩, ⟨by refine uR ?_; exact Kd.R_mono (Kd.R_far (p := ⟨gb238, 1, none⟩) (Kd.R_far (p := ⟨gb238, 0, none⟩) (Kd.R_mono HO_6.out (fun k_ hk => (⟨hk, hk.2⟩ : _ ∧ k_ ≠ gb238))) (fun _ hk => hk.2) (.int .i64 ((rd_T23 t234 x26_2).f0))) (fun _ hk => hk.2) (.int .i64 ((rd_T23 t234 x26_2).f1))) (fun _ hk => hk.1.2)⟩, ⟨by refine uK ?_; refine blk_far ?_ NB231_238.out _; refine uK ?_; refine blk_far ?_ NB231_238.out _; refine uK ?_; exact BK231.out⟩, ⟨by refine uK ?_; refine blk_put (cs := #[.int .i64 ((rd_T23 t234 x26_2).f0), .int .i64 0]) ?_ 1 _ rfl; refine uK ?_; refine blk_put (cs := #[.int .i64 0, .int .i64 0]) ?_ 0 _ rfl; refine uK ?_; exact BK238.out⟩, ⟨uB⟩⟩
       case round =>
        clear H'; try clear c1; try clear c2; try clear p2; try clear q2; try clear hx2; try clear c4; try clear c6; try clear c7; try clear c14; try clear c19; try clear c19b0; try clear c20; try clear c20b0; try clear c21; try clear c21b0; try clear c23; try clear p23; try clear q23; try clear hx23; try clear hcz10_0; try clear hcz10_1; try clear hcz12_0; try clear hcz12_1; try clear hcz16_0; try clear hcz16_1; try clear hcz24_0; try clear hcz24_1; try clear hcz8_0; try clear hcz8_1; try clear hfz10_0; try clear hfz10_1; try clear hfz12_0; try clear hfz12_1; try clear hfz16_0; try clear hfz16_1; try clear hfz24_0; try clear hfz24_1; try clear hfz8_0; try clear hfz8_1; try clear hx237_0; try clear hx237_1; try clear p2; try clear p237; try clear q237
        obtain ⟨x33_3, rfl, HA, HK3, HO_6, HO_7, HO_24, HO_31, BK231, BK238, HB⟩ := hrel
        cases gk with
        | zero => exact absurd HA.out (by simp [channel_Narrowest.l1])
        | succ k3 =>
         have H := HA.out; clear HA; simp only [channel_Narrowest.l1] at H
         by_cases c25 : x33_3 < (t234.length : Int)
         ·rw [if_pos c25] at H; replace c25 := decide_eq_true c25; obtain ⟨c26, H⟩ := ifs H; replace c26 := decide_eq_true c26; obtain ⟨c27, H⟩ := ifs H; replace c27 := decide_eq_true c27
          by_cases c28 : x33_3 = x26_2
          ·rw [if_pos c28] at H; have c28b0 : (x33_3 == x26_2) = true := beq_iff_eq.mpr c28; have c28b1 : (x33_3 != x26_2) = false := bne_eq_false_iff_eq.mpr c28; clear c28; have H' := Aside0.mk H; clear H; have p239 : 0 ≤ (x33_3 : Int) := uD; have q239 : x33_3 < (t234.length : Int) := uD; obtain ⟨ad239, e239, hx239_0, hx239_1⟩ := at_T23 (Kd.R_reads' HO_31.out).2.2 x33_3 p239 q239; obtain rfl : ad237 = ad239 := (by injection e239); replace p239 := eq_true p239; replace q239 := eq_true q239
           go_wp2_with (first | ((with_reducible refine gate_dst (N := 11) rfl ?_); refine bxe 11 #[.int .i64 0, .int .i64 0] 23 ?_; intro gb240 hg w29 hbox hb; have n0_ := rE HO_6 hg hb; have n1_ := Aside0.mk (Kd.R_below (uR HO_7.out) hb); have n2_ := rE HO_24 hg hb; have n3_ := rE HO_31 hg hb; have n4_ := Aside0.mk (blk_below (uK BK231.out) hb); have n5_ := Aside0.mk (blk_below (uK BK238.out) hb); have n6_ := Aside0.mk (below_step uB hb); have n7_ := Aside0.mk (hbox); have n8_ := gw hg; have n9_ := gw hg; have n10_ := nb BK231 hg; have n11_ := nc BK231 hg; have n12_ := nb BK238 hg; have n13_ := nc BK238 hg; clear HO_6; clear HO_7; clear HO_24; clear HO_31; clear BK231; clear BK238; clear HB; have HO_6 := n0_; have HO_7 := n1_; have HO_24 := n2_; have HO_31 := n3_; have BK231 := n4_; have BK238 := n5_; have HB := n6_; have BK240 := n7_; have GW240 := n8_; have GE240 := n9_; have NB231_240 := n10_; have NB240_231 := n11_; have NB238_240 := n12_; have NB240_238 := n13_; clear n0_ n1_ n2_ n3_ n4_ n5_ n6_ n7_ n8_ n9_ n10_ n11_ n12_ n13_; clear hb hbox hg; have hnb30 := NB240_231.out; have hnc30 := NB231_240.out; have hnb31 := NB240_238.out; have hnc31 := NB238_240.out; obtain ⟨hcz32_0, hcz32_1⟩ := cz2 BK240.out; obtain ⟨hfz32_0, hfz32_1⟩ := fz2 BK240.out))
           go_roundg k3
           case measure => have := HJ2.out; have := HK2.out; have := HK3.out; omega
           case rel => exact ⟨(wrap64 (x33_3 + 1)), u0, H', ⟨by have := HJ2.out; have := HK2.out; have := HK3.out; omega⟩, ⟨by refine uR ?_; exact Kd.R_mono (Kd.R_far (p := ⟨gb240, 1, none⟩) (Kd.R_far (p := ⟨gb240, 0, none⟩) (Kd.R_mono HO_6.out (fun k_ hk => (⟨hk, hk.2⟩ : _ ∧ k_ ≠ gb240))) (fun _ hk => hk.2) (.int .i64 ((rd_T23 t234 x33_3).f0))) (fun _ hk => hk.2) (.int .i64 ((rd_T23 t234 x33_3).f1))) (fun _ hk => hk.1.1)⟩, ⟨by refine uR ?_; exact Kd.R_mono (Kd.R_far (p := ⟨gb240, 1, none⟩) (Kd.R_far (p := ⟨gb240, 0, none⟩) (Kd.R_types HO_7.out BK240.out (by decide)) (fun _ hk => hk.2) (.int .i64 ((rd_T23 t234 x33_3).f0))) (fun _ hk => hk.2) (.int .i64 ((rd_T23 t234 x33_3).f1))) (fun _ hk => trivial)⟩, ⟨by refine uR ?_; exact Kd.R_mono (Kd.R_far (p := ⟨gb240, 1, none⟩) (Kd.R_far (p := ⟨gb240, 0, none⟩) (Kd.R_mono HO_24.out (fun k_ hk => (⟨hk, hk.2⟩ : _ ∧ k_ ≠ gb240))) (fun _ hk => hk.2) (.int .i64 ((rd_T23 t234 x33_3).f0))) (fun _ hk => hk.2) (.int .i64 ((rd_T23 t234 x33_3).f1))) (fun _ hk => hk.1.1)⟩, ⟨by refine uR ?_; exact Kd.R_mono (Kd.R_far (p := ⟨gb240, 1, none⟩) (Kd.R_far (p := ⟨gb240, 0, none⟩) (Kd.R_mono HO_31.out (fun k_ hk => (⟨hk, hk.2⟩ : _ ∧ k_ ≠ gb240))) (fun _ hk => hk.2) (.int .i64 ((rd_T23 t234 x33_3).f0))) (fun _ hk => hk.2) (.int .i64 ((rd_T23 t234 x33_3).f1))) (fun _ hk => hk.1.1)⟩, ⟨by refine uK ?_; refine blk_far ?_ NB231_240.out _; refine uK ?_; refine blk_far ?_ NB231_240.out _; refine uK ?_; exact BK231.out⟩, ⟨by refine uK ?_; refine blk_far ?_ NB238_240.out _; refine uK ?_; refine blk_far ?_ NB238_240.out _; refine uK ?_; exact BK238.out⟩, ⟨uB⟩⟩
          ·rw [if_neg c28] at H; have c28b0 : (x33_3 == x26_2) = false := beq_eq_false_iff_ne.mpr c28; have c28b1 : (x33_3 != x26_2) = true := bne_iff_ne.mpr c28
           by_cases c33 : ((rd_T23 t234 x26_2).f0) > ((rd_T23 t234 x33_3).f1)
           ·rw [if_pos c33] at H; replace c33 := decide_eq_true c33; have H' := Aside0.mk H; clear H; have p239 : 0 ≤ (x33_3 : Int) := uD; have q239 : x33_3 < (t234.length : Int) := uD; obtain ⟨ad239, e239, hx239_0, hx239_1⟩ := at_T23 (Kd.R_reads' HO_31.out).2.2 x33_3 p239 q239; obtain rfl : ad237 = ad239 := (by injection e239); replace p239 := eq_true p239; replace q239 := eq_true q239
            go_wp2_with (first | ((with_reducible refine gate_dst (N := 11) rfl ?_); refine bxe 11 #[.int .i64 0, .int .i64 0] 23 ?_; intro gb240 hg w34 hbox hb; have n0_ := rE HO_6 hg hb; have n1_ := Aside0.mk (Kd.R_below (uR HO_7.out) hb); have n2_ := rE HO_24 hg hb; have n3_ := rE HO_31 hg hb; have n4_ := Aside0.mk (blk_below (uK BK231.out) hb); have n5_ := Aside0.mk (blk_below (uK BK238.out) hb); have n6_ := Aside0.mk (below_step uB hb); have n7_ := Aside0.mk (hbox); have n8_ := gw hg; have n9_ := gw hg; have n10_ := nb BK231 hg; have n11_ := nc BK231 hg; have n12_ := nb BK238 hg; have n13_ := nc BK238 hg; clear HO_6; clear HO_7; clear HO_24; clear HO_31; clear BK231; clear BK238; clear HB; have HO_6 := n0_; have HO_7 := n1_; have HO_24 := n2_; have HO_31 := n3_; have BK231 := n4_; have BK238 := n5_; have HB := n6_; have BK240 := n7_; have GW240 := n8_; have GE240 := n9_; have NB231_240 := n10_; have NB240_231 := n11_; have NB238_240 := n12_; have NB240_238 := n13_; clear n0_ n1_ n2_ n3_ n4_ n5_ n6_ n7_ n8_ n9_ n10_ n11_ n12_ n13_; clear hb hbox hg; have hnb35 := NB240_231.out; have hnc35 := NB231_240.out; have hnb36 := NB240_238.out; have hnc36 := NB238_240.out; obtain ⟨hcz37_0, hcz37_1⟩ := cz2 BK240.out; obtain ⟨hfz37_0, hfz37_1⟩ := fz2 BK240.out; have hnb38 := NB238_231.out; have hnc38 := NB231_238.out; obtain ⟨hcz39_0, hcz39_1⟩ := cz2 BK238.out; obtain ⟨hfz39_0, hfz39_1⟩ := fz2 BK238.out))
            go_roundg k3
            case measure => have := HJ2.out; have := HK2.out; have := HK3.out; omega
            case rel => exact ⟨(x7_2), (wrap64 (x26_2 + 1)), u0, H', ⟨by have := HJ2.out; have := HK2.out; have := HK3.out; omega⟩, ⟨by refine uR ?_; exact Kd.R_mono (Kd.R_far (p := ⟨gb240, 1, none⟩) (Kd.R_far (p := ⟨gb240, 0, none⟩) (Kd.R_mono HO_6.out (fun k_ hk => (⟨hk, hk.2⟩ : _ ∧ k_ ≠ gb240))) (fun _ hk => hk.2) (.int .i64 ((rd_T23 t234 x33_3).f0))) (fun _ hk => hk.2) (.int .i64 ((rd_T23 t234 x33_3).f1))) (fun _ hk => trivial)⟩, ⟨by refine uR ?_; exact Kd.R_mono (Kd.R_far (p := ⟨gb240, 1, none⟩) (Kd.R_far (p := ⟨gb240, 0, none⟩) (Kd.R_types HO_7.out BK240.out (by decide)) (fun _ hk => hk.2) (.int .i64 ((rd_T23 t234 x33_3).f0))) (fun _ hk => hk.2) (.int .i64 ((rd_T23 t234 x33_3).f1))) (fun _ hk => trivial)⟩, ⟨by refine uR ?_; exact Kd.R_mono (Kd.R_far (p := ⟨gb240, 1, none⟩) (Kd.R_far (p := ⟨gb240, 0, none⟩) (Kd.R_mono HO_24.out (fun k_ hk => (⟨hk, hk.2⟩ : _ ∧ k_ ≠ gb240))) (fun _ hk => hk.2) (.int .i64 ((rd_T23 t234 x33_3).f0))) (fun _ hk => hk.2) (.int .i64 ((rd_T23 t234 x33_3).f1))) (fun _ hk => trivial)⟩, ⟨by refine uK ?_; refine blk_far ?_ NB231_240.out _; refine uK ?_; refine blk_far ?_ NB231_240.out _; refine uK ?_; exact BK231.out⟩, ⟨uB⟩⟩
           ·rw [if_neg c33] at H; replace c33 := decide_eq_false c33; have H' := Aside0.mk H; clear H; have p239 : 0 ≤ (x33_3 : Int) := uD; have q239 : x33_3 < (t234.length : Int) := uD; obtain ⟨ad239, e239, hx239_0, hx239_1⟩ := at_T23 (Kd.R_reads' HO_31.out).2.2 x33_3 p239 q239; obtain rfl : ad237 = ad239 := (by injection e239); replace p239 := eq_true p239; replace q239 := eq_true q239
            go_wp2_with (first | ((with_reducible refine gate_dst (N := 11) rfl ?_); refine bxe 11 #[.int .i64 0, .int .i64 0] 23 ?_; intro gb240 hg w40 hbox hb; have n0_ := rE HO_6 hg hb; have n1_ := Aside0.mk (Kd.R_below (uR HO_7.out) hb); have n2_ := rE HO_24 hg hb; have n3_ := rE HO_31 hg hb; have n4_ := Aside0.mk (blk_below (uK BK231.out) hb); have n5_ := Aside0.mk (blk_below (uK BK238.out) hb); have n6_ := Aside0.mk (below_step uB hb); have n7_ := Aside0.mk (hbox); have n8_ := gw hg; have n9_ := gw hg; have n10_ := nb BK231 hg; have n11_ := nc BK231 hg; have n12_ := nb BK238 hg; have n13_ := nc BK238 hg; clear HO_6; clear HO_7; clear HO_24; clear HO_31; clear BK231; clear BK238; clear HB; have HO_6 := n0_; have HO_7 := n1_; have HO_24 := n2_; have HO_31 := n3_; have BK231 := n4_; have BK238 := n5_; have HB := n6_; have BK240 := n7_; have GW240 := n8_; have GE240 := n9_; have NB231_240 := n10_; have NB240_231 := n11_; have NB238_240 := n12_; have NB240_238 := n13_; clear n0_ n1_ n2_ n3_ n4_ n5_ n6_ n7_ n8_ n9_ n10_ n11_ n12_ n13_; clear hb hbox hg; have hnb41 := NB240_231.out; have hnc41 := NB231_240.out; have hnb42 := NB240_238.out; have hnc42 := NB238_240.out; obtain ⟨hcz43_0, hcz43_1⟩ := cz2 BK240.out; obtain ⟨hfz43_0, hfz43_1⟩ := fz2 BK240.out; have hnb44 := NB238_231.out; have hnc44 := NB231_238.out; obtain ⟨hcz45_0, hcz45_1⟩ := cz2 BK238.out; obtain ⟨hfz45_0, hfz45_1⟩ := fz2 BK238.out))
            go_roundg k3
            case measure => have := HJ2.out; have := HK2.out; have := HK3.out; omega
            case rel => exact ⟨(wrap64 (x33_3 + 1)), u0, H', ⟨by have := HJ2.out; have := HK2.out; have := HK3.out; omega⟩, ⟨by refine uR ?_; exact Kd.R_mono (Kd.R_far (p := ⟨gb240, 1, none⟩) (Kd.R_far (p := ⟨gb240, 0, none⟩) (Kd.R_mono HO_6.out (fun k_ hk => (⟨hk, hk.2⟩ : _ ∧ k_ ≠ gb240))) (fun _ hk => hk.2) (.int .i64 ((rd_T23 t234 x33_3).f0))) (fun _ hk => hk.2) (.int .i64 ((rd_T23 t234 x33_3).f1))) (fun _ hk => hk.1.1)⟩, ⟨by refine uR ?_; exact Kd.R_mono (Kd.R_far (p := ⟨gb240, 1, none⟩) (Kd.R_far (p := ⟨gb240, 0, none⟩) (Kd.R_types HO_7.out BK240.out (by decide)) (fun _ hk => hk.2) (.int .i64 ((rd_T23 t234 x33_3).f0))) (fun _ hk => hk.2) (.int .i64 ((rd_T23 t234 x33_3).f1))) (fun _ hk => trivial)⟩, ⟨by refine uR ?_; exact Kd.R_mono (Kd.R_far (p := ⟨gb240, 1, none⟩) (Kd.R_far (p := ⟨gb240, 0, none⟩) (Kd.R_mono HO_24.out (fun k_ hk => (⟨hk, hk.2⟩ : _ ∧ k_ ≠ gb240))) (fun _ hk => hk.2) (.int .i64 ((rd_T23 t234 x33_3).f0))) (fun _ hk => hk.2) (.int .i64 ((rd_T23 t234 x33_3).f1))) (fun _ hk => hk.1.1)⟩, ⟨by refine uR ?_; exact Kd.R_mono (Kd.R_far (p := ⟨gb240, 1, none⟩) (Kd.R_far (p := ⟨gb240, 0, none⟩) (Kd.R_mono HO_31.out (fun k_ hk => (⟨hk, hk.2⟩ : _ ∧ k_ ≠ gb240))) (fun _ hk => hk.2) (.int .i64 ((rd_T23 t234 x33_3).f0))) (fun _ hk => hk.2) (.int .i64 ((rd_T23 t234 x33_3).f1))) (fun _ hk => hk.1.1)⟩, ⟨by refine uK ?_; refine blk_far ?_ NB231_240.out _; refine uK ?_; refine blk_far ?_ NB231_240.out _; refine uK ?_; exact BK231.out⟩, ⟨by refine uK ?_; refine blk_far ?_ NB238_240.out _; refine uK ?_; refine blk_far ?_ NB238_240.out _; refine uK ?_; exact BK238.out⟩, ⟨uB⟩⟩
         ·rw [if_neg c25] at H; replace c25 := decide_eq_false c25; obtain ⟨c46, H⟩ := ifs H; have LMc46 := Aside0.mk c46; clear c46; obtain ⟨y241, hy241⟩ : ∃ y_ : List Int, y_ = (x7_2 ++ [x26_2]) := ⟨_, rfl⟩; rw [← hy241] at H; (try replace H := (Option.bind_some _ _).symm.trans H)
          have Ny241 := Aside0.mk hy241; clear hy241; have H' := Aside0.mk H; clear H
          go_wp2_with (first | ((with_reducible refine gate_builtin (b := .append) (xs := #[.tmp 49, .tmp 51]) rfl ?_); at_builtin; refine Kd.R_append (Kd.int .i64) (w0 := w) w.heap.size rfl (.tmp 49) (.tmp 51) 25 3 (.int .i64 0) 8 rfl Tryz.underlying25 info3 rfl (by decide) (by omega) u7 x7_2 x26_2 [.int .i64 x26_2] (fun _ => True) (fun _ => False) rfl rfl ?aP (fun _ hk => hk.elim) ?aF ?aO ?aB ?aS ?aL ?_; (case aP => exact rfl); (case aB => exact uB); (case aF => exact (fun _ _ => trivial)); (case aO => exact (uR HO_7.out)); (case aS => exact (below_size uB)); (case aL => have := LMc46.out; omega); intro v242 w47 ho hb hg hat; rw [← Ny241.out] at ho; replace HO_6 := Aside0.mk (Kd.R_over' (uR HO_6.out) (Kd.R_typed (uR HO_7.out)) (by decide) hg); replace HO_24 := Aside0.mk (Kd.R_over' (uR HO_24.out) (Kd.R_typed (uR HO_7.out)) (by decide) hg); replace HO_31 := Aside0.mk (Kd.R_over' (uR HO_31.out) (Kd.R_typed (uR HO_7.out)) (by decide) hg); replace BK231 := Aside0.mk (blk_grown (uK BK231.out) hg (Kd.R_ne HO_7.out BK231.out (by decide))); replace BK238 := Aside0.mk (blk_grown (uK BK238.out) hg (Kd.R_ne HO_7.out BK238.out (by decide))); have HO243 := Aside0.mk (ho); replace HB := Aside0.mk (hb); clear HO_7; clear ho hb hg hat))
          go_roundg k3
          case measure => have := HJ2.out; have := HK2.out; have := HK3.out; omega
          case rel => exact ⟨(y241), (wrap64 (x26_2 + 1)), u0, H', ⟨by have := HJ2.out; have := HK2.out; have := HK3.out; omega⟩, ⟨by refine uR ?_; exact Kd.R_mono HO_6.out (fun _ hk => trivial)⟩, ⟨uR HO243.out⟩, ⟨by refine uR ?_; exact Kd.R_mono HO_24.out (fun _ hk => trivial)⟩, ⟨uK BK231.out⟩, ⟨uB⟩⟩
      ·rw [if_neg c19] at H; replace c19 := decide_eq_false c19; simp only [Option.some.injEq, Prod.mk.injEq] at H; obtain ⟨rfl, rfl⟩ := H; go_wp2; try rw [Exit.noGoto_ret]
       go_ret2
       exact ⟨_, uE, uR HO_7.out, uB⟩
end Go.Proofs.YtdmdahafiiggiabGreatDoor.K
end
section
namespace Go.Proofs.YtdmdahafiiggiabGreatDoor.K
open Go.RowKit Go.Proofs.YtdmdahafiiggiabGreatDoorW.PrintWords Go.Proofs.YtdmdahafiiggiabGreatDoorW.PrintLast Go.Proofs.YtdmdahafiiggiabGreatDoorW.PrintMore
attribute [local go_sem] max2_int min2_int max_two min_two max_three min_three max_four min_four
def channel_Latest.j0 : Nat → Int → Int → Bool → List Int → List (S66) → Option (Int × Int)
 | 0, _, _, _, _, _ => none
 | k + 1, x1, x2, x22, x215000, x215001 => if x22 = true then (some (0, 2)) else ((channel_latest.f k x215000 x215001 x1 x2).bind fun t218 => (if t218 < 0 then (some (0, 5)) else (some (t218, 0))))
def channel_Latest.f (k : Nat) (l0_0 : List Int) (l0_1 : List (S66)) (a1 : Int) (a2 : Int) : Option (Int × Int) := (channel_isLine.f l0_0 l0_1).bind fun t215 => (if t215 = true then ((channel_isStretch.f l0_0 l0_1 a1).bind fun t216 => (if t216 = true then ((channel_isNeed.f a2).bind fun t217 => (channel_Latest.j0 k a1 a2 (!t217) l0_0 l0_1)) else (channel_Latest.j0 k a1 a2 true l0_0 l0_1))) else (channel_Latest.j0 k a1 a2 true l0_0 l0_1))
set_option maxHeartbeats 8000000 in
set_option maxRecDepth 100000 in
theorem channel_Latest.calls (k : Nat) (A0_0 : Option Addr) (c0_0 : Nat) (l0_0 : List Int) (A0_1 : Option Addr) (c0_1 : Nat) (l0_1 : List (S66)) (a1 : Int) (a2 : Int) (r1 : Int) (r2 : Int) (w : World) (hr0_0 : Kd.C (Kd.int .i64) w A0_0 l0_0.length l0_0) (hc0_0 : l0_0.length ≤ c0_0) (hr0_1 : Kd.C k66 w A0_1 l0_1.length l0_1) (hc0_1 : l0_1.length ≤ c0_1) (h : channel_Latest.f k l0_0 l0_1 a1 a2 = some (r1, r2)) :
  Calls Tryz.prog 40 #[.agg #[.slice A0_0 l0_0.length c0_0, .slice A0_1 l0_1.length c0_1], .int .i64 a1, .int .i64 a2] w fun e w' => e = .returned (.tuple #[.int .i64 r1, .int .i64 r2]) ∧ Below w.heap.size w w' := by
 have hu60 := Tryz.underlying60; have HR0_0 := Aside0.mk hr0_0; have HC0_0 := Aside0.mk hc0_0; clear hr0_0 hc0_0; have HR0_1 := Aside0.mk hr0_1; have HC0_1 := Aside0.mk hc0_1; clear hr0_1 hc0_1; have HB := Aside0.mk (Below.refl w.heap.size w); have H : ((channel_isLine.f l0_0 l0_1).bind fun t215 => (if t215 = true then ((channel_isStretch.f l0_0 l0_1 a1).bind fun t216 => (if t216 = true then ((channel_isNeed.f a2).bind fun t217 => (channel_Latest.j0 k a1 a2 (!t217) l0_0 l0_1)) else (channel_Latest.j0 k a1 a2 true l0_0 l0_1))) else (channel_Latest.j0 k a1 a2 true l0_0 l0_1))) = some (r1, r2) := h; clear h; have HC4 := Aside0.mk H; clear H
 go_enter Tryz.func40, Tryz.ntmps40
 go_upto_region 1 with (first | ((with_reducible refine gate_dst (N := 3) rfl ?_); refine bxe 3 #[.slice A0_0 l0_0.length c0_0, .slice A0_1 l0_1.length c0_1] 60 ?_; intro gb214 hg w5 hbox hb; have n0_ := Aside0.mk (below_step uB hb); have n1_ := Aside0.mk (hbox); have n2_ := gw hg; have n3_ := gw hg; clear HB; have HB := n0_; have BK214 := n1_; have GW214 := n2_; have GE214 := n3_; clear n0_ n1_ n2_ n3_; clear hb hbox hg))
 (try simp only [Act.put, List.setIfInBounds_toArray, List.set_cons_zero, List.set_cons_succ])
 go_cut [22] (fun v22 wc => ∃ (kq : Nat) (x22_3 : Bool), v22 = .bool x22_3 ∧ Aside0 (channel_Latest.j0 kq a1 a2 x22_3 l0_0 l0_1 = some (r1, r2)) ∧ Aside0 (kq ≤ k) ∧ Aside0 (wc.heap[gb214]? = some (.cells #[(.slice A0_0 l0_0.length c0_0), (.slice A0_1 l0_1.length c0_1)] 60 (0, 0))) ∧ Aside0 (Below w.heap.size w wc))
 case first =>
  have H := HC4.out; clear HC4; replace H := Option.bind_eq_some_iff.mp H; obtain ⟨t215, A60, H⟩ := H; replace H : (if t215 = true then ((channel_isStretch.f l0_0 l0_1 a1).bind fun t216 => (if t216 = true then ((channel_isNeed.f a2).bind fun t217 => (channel_Latest.j0 k a1 a2 (!t217) l0_0 l0_1)) else (channel_Latest.j0 k a1 a2 true l0_0 l0_1))) else (channel_Latest.j0 k a1 a2 true l0_0 l0_1)) = some (r1, r2) := H; have A6 := Aside0.mk A60; clear A60
  by_cases c7 : t215 = true
  ·subst c7; have H1 : ((channel_isStretch.f l0_0 l0_1 a1).bind fun t216 => (if t216 = true then ((channel_isNeed.f a2).bind fun t217 => (channel_Latest.j0 k a1 a2 (!t217) l0_0 l0_1)) else (channel_Latest.j0 k a1 a2 true l0_0 l0_1))) = some (r1, r2) := by rw [if_pos rfl] at H; exact H
   clear H; have H := H1; clear H1; replace H := Option.bind_eq_some_iff.mp H; obtain ⟨t216, A80, H⟩ := H; replace H : (if t216 = true then ((channel_isNeed.f a2).bind fun t217 => (channel_Latest.j0 k a1 a2 (!t217) l0_0 l0_1)) else (channel_Latest.j0 k a1 a2 true l0_0 l0_1)) = some (r1, r2) := H; have A8 := Aside0.mk A80; clear A80
   by_cases c9 : t216 = true
   ·subst c9; have H1 : ((channel_isNeed.f a2).bind fun t217 => (channel_Latest.j0 k a1 a2 (!t217) l0_0 l0_1)) = some (r1, r2) := by rw [if_pos rfl] at H; exact H
    clear H; have H := H1; clear H1; replace H := Option.bind_eq_some_iff.mp H; obtain ⟨t217, A100, H⟩ := H; replace H : (channel_Latest.j0 k a1 a2 (!t217) l0_0 l0_1) = some (r1, r2) := H; have A10 := Aside0.mk A100; clear A100; have H' := Aside0.mk H; clear H; obtain ⟨hcz11_0, hcz11_1⟩ := cz2 BK214.out; obtain ⟨hfz11_0, hfz11_1⟩ := fz2 BK214.out
    go_wp2_with (first | ((with_reducible refine gate_callee (f := 69) rfl ?_); refine goesL_ (some 10) rfl rfl Tryz.func69 (by kernel_rfl) rfl #[.agg #[.slice A0_0 l0_0.length c0_0, .slice A0_1 l0_1.length c0_1]] rfl uM ?_; (with_reducible refine (channel_isLine.calls _ _ l0_0 _ _ l0_1 true _ ?side1 ?side2 ?side3 ?side4 A6.out).mono ?_); (case side1 => repeat (first | exact (Kd.C_below HR0_0.out HB.out) | (with_reducible refine Kd.C_alloc ?_ _) | (with_reducible refine Kd.C_drewN ?_ _) | (with_reducible refine Kd.C_drew ?_))); (case side2 => exact HC0_0.out); (case side3 => repeat (first | exact (Kd.C_below HR0_1.out HB.out) | (with_reducible refine Kd.C_alloc ?_ _) | (with_reducible refine Kd.C_drewN ?_ _) | (with_reducible refine Kd.C_drew ?_))); (case side4 => exact HC0_1.out); rintro e w12 ⟨rfl, hb⟩; refine ⟨_, rfl, ?_⟩; replace BK214 := Aside0.mk (blk_below (uK BK214.out) hb); replace HB := Aside0.mk (below_step uB hb); (try clear hb); (try clear hb2); (try clear hk); (try clear hi); obtain ⟨hcz13_0, hcz13_1⟩ := cz2 BK214.out; obtain ⟨hfz13_0, hfz13_1⟩ := fz2 BK214.out) | (go_at_call 70; (with_reducible refine (channel_isStretch.calls _ _ l0_0 _ _ l0_1 a1 true _ ?side1 ?side2 ?side3 ?side4 A8.out).mono ?_); (case side1 => repeat (first | exact (Kd.C_below HR0_0.out HB.out) | (with_reducible refine Kd.C_alloc ?_ _) | (with_reducible refine Kd.C_drewN ?_ _) | (with_reducible refine Kd.C_drew ?_))); (case side2 => exact HC0_0.out); (case side3 => repeat (first | exact (Kd.C_below HR0_1.out HB.out) | (with_reducible refine Kd.C_alloc ?_ _) | (with_reducible refine Kd.C_drewN ?_ _) | (with_reducible refine Kd.C_drew ?_))); (case side4 => exact HC0_1.out); rintro e w14 ⟨rfl, hb⟩; replace BK214 := Aside0.mk (blk_below (uK BK214.out) hb); replace HB := Aside0.mk (below_step uB hb); (try clear hb); (try clear hb2); (try clear hk); (try clear hi)) | (go_at_call 77; (with_reducible refine (channel_isNeed.calls a2 t217 _ A10.out).mono ?_); rintro e w' ⟨rfl, ⟨nd, rfl⟩⟩))
    go_meet
    case rel => exact ⟨_, (!t217), u0, H', ⟨u1⟩, ⟨uK BK214.out⟩, ⟨uB⟩⟩
   ·replace c9 := Bool.eq_false_iff.mpr c9; subst c9; have H1 : (channel_Latest.j0 k a1 a2 true l0_0 l0_1) = some (r1, r2) := by rw [if_neg (show ¬ (false = true) by decide)] at H; exact H
    clear H; have H := H1; clear H1; have H' := Aside0.mk H; clear H; obtain ⟨hcz15_0, hcz15_1⟩ := cz2 BK214.out; obtain ⟨hfz15_0, hfz15_1⟩ := fz2 BK214.out
    go_wp2_with (first | ((with_reducible refine gate_callee (f := 69) rfl ?_); refine goesL_ (some 10) rfl rfl Tryz.func69 (by kernel_rfl) rfl #[.agg #[.slice A0_0 l0_0.length c0_0, .slice A0_1 l0_1.length c0_1]] rfl uM ?_; (with_reducible refine (channel_isLine.calls _ _ l0_0 _ _ l0_1 true _ ?side1 ?side2 ?side3 ?side4 A6.out).mono ?_); (case side1 => repeat (first | exact (Kd.C_below HR0_0.out HB.out) | (with_reducible refine Kd.C_alloc ?_ _) | (with_reducible refine Kd.C_drewN ?_ _) | (with_reducible refine Kd.C_drew ?_))); (case side2 => exact HC0_0.out); (case side3 => repeat (first | exact (Kd.C_below HR0_1.out HB.out) | (with_reducible refine Kd.C_alloc ?_ _) | (with_reducible refine Kd.C_drewN ?_ _) | (with_reducible refine Kd.C_drew ?_))); (case side4 => exact HC0_1.out); rintro e w16 ⟨rfl, hb⟩; refine ⟨_, rfl, ?_⟩; replace BK214 := Aside0.mk (blk_below (uK BK214.out) hb); replace HB := Aside0.mk (below_step uB hb); (try clear hb); (try clear hb2); (try clear hk); (try clear hi); obtain ⟨hcz17_0, hcz17_1⟩ := cz2 BK214.out; obtain ⟨hfz17_0, hfz17_1⟩ := fz2 BK214.out) | (go_at_call 70; (with_reducible refine (channel_isStretch.calls _ _ l0_0 _ _ l0_1 a1 false _ ?side1 ?side2 ?side3 ?side4 A8.out).mono ?_); (case side1 => repeat (first | exact (Kd.C_below HR0_0.out HB.out) | (with_reducible refine Kd.C_alloc ?_ _) | (with_reducible refine Kd.C_drewN ?_ _) | (with_reducible refine Kd.C_drew ?_))); (case side2 => exact HC0_0.out); (case side3 => repeat (first | exact (Kd.C_below HR0_1.out HB.out) | (with_reducible refine Kd.C_alloc ?_ _) | (with_reducible refine Kd.C_drewN ?_ _) | (with_reducible refine Kd.C_drew ?_))); (case side4 => exact HC0_1.out); rintro e w18 ⟨rfl, hb⟩; replace BK214 := Aside0.mk (blk_below (uK BK214.out) hb); replace HB := Aside0.mk (below_step uB hb); (try clear hb); (try clear hb2); (try clear hk); (try clear hi)))
    go_meet
    case rel => exact ⟨_, (true), u0, H', ⟨u1⟩, ⟨uK BK214.out⟩, ⟨uB⟩⟩
  ·replace c7 := Bool.eq_false_iff.mpr c7; subst c7; have H1 : (channel_Latest.j0 k a1 a2 true l0_0 l0_1) = some (r1, r2) := by rw [if_neg (show ¬ (false = true) by decide)] at H; exact H
   clear H; have H := H1; clear H1; have H' := Aside0.mk H; clear H; obtain ⟨hcz19_0, hcz19_1⟩ := cz2 BK214.out; obtain ⟨hfz19_0, hfz19_1⟩ := fz2 BK214.out
   go_wp2_with (first | ((with_reducible refine gate_callee (f := 69) rfl ?_); refine goesL_ (some 10) rfl rfl Tryz.func69 (by kernel_rfl) rfl #[.agg #[.slice A0_0 l0_0.length c0_0, .slice A0_1 l0_1.length c0_1]] rfl uM ?_; (with_reducible refine (channel_isLine.calls _ _ l0_0 _ _ l0_1 false _ ?side1 ?side2 ?side3 ?side4 A6.out).mono ?_); (case side1 => repeat (first | exact (Kd.C_below HR0_0.out HB.out) | (with_reducible refine Kd.C_alloc ?_ _) | (with_reducible refine Kd.C_drewN ?_ _) | (with_reducible refine Kd.C_drew ?_))); (case side2 => exact HC0_0.out); (case side3 => repeat (first | exact (Kd.C_below HR0_1.out HB.out) | (with_reducible refine Kd.C_alloc ?_ _) | (with_reducible refine Kd.C_drewN ?_ _) | (with_reducible refine Kd.C_drew ?_))); (case side4 => exact HC0_1.out); rintro e w20 ⟨rfl, hb⟩; refine ⟨_, rfl, ?_⟩; replace BK214 := Aside0.mk (blk_below (uK BK214.out) hb); replace HB := Aside0.mk (below_step uB hb); (try clear hb); (try clear hb2); (try clear hk); (try clear hi)))
   go_meet
   case rel => exact ⟨_, (true), u0, H', ⟨u1⟩, ⟨uK BK214.out⟩, ⟨uB⟩⟩
 case rest =>
  clear HC4; try clear p2; try clear c4; try clear c6; try clear c7; try clear c9; try clear hcz11_0; try clear hcz11_1; try clear hcz13_0; try clear hcz13_1; try clear hcz15_0; try clear hcz15_1; try clear hcz17_0; try clear hcz17_1; try clear hcz19_0; try clear hcz19_1; try clear hfz11_0; try clear hfz11_1; try clear hfz13_0; try clear hfz13_1; try clear hfz15_0; try clear hfz15_1; try clear hfz17_0; try clear hfz17_1; try clear hfz19_0; try clear hfz19_1
  obtain ⟨kq, x22_3, rfl, HA, HJ3, BK214, HB⟩ := hcut
  cases kq with
  | zero => exact absurd HA.out (by simp [channel_Latest.j0])
  | succ kj3 =>
   have H := HA.out; clear HA; simp only [channel_Latest.j0] at H
   by_cases c21 : x22_3 = true
   ·subst c21; have H1 : (some (0, 2)) = some (r1, r2) := by rw [if_pos rfl] at H; exact H
    clear H; have H := H1; clear H1; simp only [Option.some.injEq, Prod.mk.injEq] at H; obtain ⟨rfl, rfl⟩ := H; go_wp2
    go_ret2
    exact ⟨uE, uB⟩
   ·replace c21 := Bool.eq_false_iff.mpr c21; subst c21; have H1 : ((channel_latest.f kj3 l0_0 l0_1 a1 a2).bind fun t218 => (if t218 < 0 then (some (0, 5)) else (some (t218, 0)))) = some (r1, r2) := by rw [if_neg (show ¬ (false = true) by decide)] at H; exact H
    clear H; have H := H1; clear H1; replace H := Option.bind_eq_some_iff.mp H; obtain ⟨t218, A220, H⟩ := H; replace H : (if t218 < 0 then (some (0, 5)) else (some (t218, 0))) = some (r1, r2) := H; have A22 := Aside0.mk A220; clear A220
    by_cases c23 : t218 < 0
    ·rw [if_pos c23] at H; replace c23 := decide_eq_true c23; simp only [Option.some.injEq, Prod.mk.injEq] at H; obtain ⟨rfl, rfl⟩ := H; obtain ⟨hcz24_0, hcz24_1⟩ := cz2 BK214.out; obtain ⟨hfz24_0, hfz24_1⟩ := fz2 BK214.out
     go_wp2_with (first | ((with_reducible refine gate_callee (f := 78) rfl ?_); refine goesL_ (some 26) rfl rfl Tryz.func78 (by kernel_rfl) rfl #[.agg #[.slice A0_0 l0_0.length c0_0, .slice A0_1 l0_1.length c0_1], .int .i64 a1, .int .i64 a2] rfl uM ?_; (with_reducible refine (channel_latest.calls kj3 _ _ l0_0 _ _ l0_1 a1 a2 t218 _ ?side1 ?side2 ?side3 ?side4 A22.out).mono ?_); (case side1 => repeat (first | exact (Kd.C_below HR0_0.out HB.out) | (with_reducible refine Kd.C_alloc ?_ _) | (with_reducible refine Kd.C_drewN ?_ _) | (with_reducible refine Kd.C_drew ?_))); (case side2 => exact HC0_0.out); (case side3 => repeat (first | exact (Kd.C_below HR0_1.out HB.out) | (with_reducible refine Kd.C_alloc ?_ _) | (with_reducible refine Kd.C_drewN ?_ _) | (with_reducible refine Kd.C_drew ?_))); (case side4 => exact HC0_1.out); rintro e w25 ⟨rfl, hb⟩; refine ⟨_, rfl, ?_⟩; replace BK214 := Aside0.mk (blk_below (uK BK214.out) hb); replace HB := Aside0.mk (below_step uB hb); (try clear hb); (try clear hb2); (try clear hk); (try clear hi)))
     go_ret2
     exact ⟨uE, uB⟩
    ·rw [if_neg c23] at H; replace c23 := decide_eq_false c23; simp only [Option.some.injEq, Prod.mk.injEq] at H; obtain ⟨rfl, rfl⟩ := H; obtain ⟨hcz26_0, hcz26_1⟩ := cz2 BK214.out; obtain ⟨hfz26_0, hfz26_1⟩ := fz2 BK214.out
     go_wp2_with (first | ((with_reducible refine gate_callee (f := 78) rfl ?_); refine goesL_ (some 26) rfl rfl Tryz.func78 (by kernel_rfl) rfl #[.agg #[.slice A0_0 l0_0.length c0_0, .slice A0_1 l0_1.length c0_1], .int .i64 a1, .int .i64 a2] rfl uM ?_; (with_reducible refine (channel_latest.calls kj3 _ _ l0_0 _ _ l0_1 a1 a2 t218 _ ?side1 ?side2 ?side3 ?side4 A22.out).mono ?_); (case side1 => repeat (first | exact (Kd.C_below HR0_0.out HB.out) | (with_reducible refine Kd.C_alloc ?_ _) | (with_reducible refine Kd.C_drewN ?_ _) | (with_reducible refine Kd.C_drew ?_))); (case side2 => exact HC0_0.out); (case side3 => repeat (first | exact (Kd.C_below HR0_1.out HB.out) | (with_reducible refine Kd.C_alloc ?_ _) | (with_reducible refine Kd.C_drewN ?_ _) | (with_reducible refine Kd.C_drew ?_))); (case side4 => exact HC0_1.out); rintro e w27 ⟨rfl, hb⟩; refine ⟨_, rfl, ?_⟩; replace BK214 := Aside0.mk (blk_below (uK BK214.out) hb); replace HB := Aside0.mk (below_step uB hb); (try clear hb); (try clear hb2); (try clear hk); (try clear hi)))
     go_ret2
     exact ⟨uE, uB⟩
end Go.Proofs.YtdmdahafiiggiabGreatDoor.K
end
