/- The walks of the functions that the laws of this seat call, and what they compute; joined out of smaller texts, part 4. -/
import Derived.Handy
import Derived.WalkMore
import Derived.WalkLawsBesides
import Derived.Outline
import Derived.BigQuiet
import Derived.Lib.ItoaLen
import Derived.Laws.RangeString
import Derived.Laws.RangeAny
import Derived.Defers
import Derived.Recover
import Derived.Laws.Pointers
import Derived.Deep.RegionWith
import Derived.Laws.EntriesVeiled
import Derived.Test.YtdmdahafiiggiaaGreatDoorK3
set_option linter.unusedVariables false
set_option linter.unusedSimpArgs false
section
namespace Go.Proofs.YtdmdahafiiggiaaGreatDoor.K
open Go.RowKit Go.Proofs.YtdmdahafiiggiaaGreatDoorW.PrintWords Go.Proofs.YtdmdahafiiggiaaGreatDoorW.PrintLast Go.Proofs.YtdmdahafiiggiaaGreatDoorW.PrintMore
theorem head_word_any (v : Value) (w : World) : Calls Tryz.prog 193 #[v] w fun e w' => e = .returned (.string ⟨#[115, 112, 101, 101, 100, 115]⟩) ∧ w = w' := by
  go_enter Tryz.func193, Tryz.ntmps193
  go_wp2; go_ret; exact ⟨rfl, rfl⟩
theorem head_numbers_any (v : Value) (w : World) : Calls Tryz.prog 192 #[v] w fun e w' => e = .returned v ∧ w = w' := by
  go_enter Tryz.func192, Tryz.ntmps192
  go_wp2; go_ret; exact ⟨rfl, rfl⟩
theorem part_word_any (a b c d e0 : Int) (w : World) : Calls Tryz.prog 195 #[.agg #[.int .i64 a, .int .i64 b, .int .i64 c, .int .i64 d, .int .i64 e0]] w fun e w' => e = .returned (.string ⟨#[115, 116, 114, 101, 116, 99, 104]⟩) ∧ Below w.heap.size w w' := by
  go_enter Tryz.func195, Tryz.ntmps195
  go_wp2; go_ret; exact ⟨rfl, (Below.refl _ _).alloc (Nat.le_refl _) _⟩
set_option maxRecDepth 100000 in
theorem part_numbers_any (a b c d e0 : Int) (w : World) : Calls Tryz.prog 194 #[.agg #[.int .i64 a, .int .i64 b, .int .i64 c, .int .i64 d, .int .i64 e0]] w fun e w' => ∃ v, e = .returned v ∧ Kd.R (Kd.int .i64) 3 w' w.heap.size (fun _ => True) v [a, b, c, d, e0] ∧ Below w.heap.size w w' := by
  have hu1 := Tryz.underlying185; have hu2 := Tryz.underlying30; have hu3 := Tryz.underlying32
  go_enter Tryz.func194, Tryz.ntmps194
  go_wp2; go_ret; refine ⟨.slice (some ⟨w.heap.size + 1, 0, none⟩) 5 5, rfl, ⟨fun _ _ => trivial, [.int .i64 a, .int .i64 b, .int .i64 c, .int .i64 d, .int .i64 e0], ?_, ?_⟩, ((Below.refl _ _).alloc (Nat.le_refl _) _).alloc (by simp) _⟩
  · have := World.ownsRow_lit (base := w.heap.size) (e := 3) (size := 1) (w.alloc (.cells #[.int .i64 a, .int .i64 b, .int .i64 c, .int .i64 d, .int .i64 e0] 185)) #[.int .i64 a, .int .i64 b, .int .i64 c, .int .i64 d, .int .i64 e0] 5 (by simp) (by unfold maxLen; omega) rfl; rw [World.size_alloc] at this; exact this
  · exact Reps.one rfl (Reps.one rfl (Reps.one rfl (Reps.one rfl (Reps.one rfl (Reps.none _ _)))))
end Go.Proofs.YtdmdahafiiggiaaGreatDoor.K
end
section
namespace Go.Proofs.YtdmdahafiiggiaaGreatDoor.K
open Go.RowKit Go.Proofs.YtdmdahafiiggiaaGreatDoorW.PrintWords Go.Proofs.YtdmdahafiiggiaaGreatDoorW.PrintLast Go.Proofs.YtdmdahafiiggiaaGreatDoorW.PrintMore
inductive TRow where
  | head (A : Option Addr) (n c : Nat)
  | part (s : S32)
def encRow : TRow → Value
  | .head A n c => .iface 182 (.slice A n c)
  | .part s => .iface 185 (.agg #[.int .i64 s.f0, .int .i64 s.f1, .int .i64 s.f2, .int .i64 s.f3.f0, .int .i64 s.f3.f1])
theorem encRow_one (x : TRow) : (encRow x).oneCell' = true := by cases x <;> rfl
def kRow : Kd TRow := Kd.scalar encRow encRow_one
theorem row_new (x : TRow) (W : World) (base : Nat) (hb : base ≤ W.heap.size) (e : TypeId) : Kd.R kRow e (W.alloc (.cells #[encRow x] e)) base (fun _ => True) (.slice (some ⟨W.heap.size, 0, none⟩) 1 1) [x] := by
  refine ⟨fun _ _ => trivial, [encRow x], ?_, ?_⟩
  · exact World.ownsRow_lit W #[encRow x] 1 hb (by unfold maxLen; omega) rfl
  · exact Reps.one rfl (Reps.none _ _)
theorem infoRow : (Tryz.prog.info? 187).map (fun i => (i.zero, i.size, i.bytes)) = some (some .nilIface, 1, 16) := by kernel_rfl
theorem rows_head {A A' : Option Addr} {n n' c c' i : Nat} {st : List S32} (h : (TRow.head A n c :: st.map TRow.part).getD i (TRow.head none 0 0) = TRow.head A' n' c') (hi : i < st.length + 1) : i = 0 ∧ A' = A ∧ n' = n ∧ c' = c := by
  cases i with
  | zero => simp at h; exact ⟨rfl, h.1.symm, h.2.1.symm, h.2.2.symm⟩
  | succ i =>
    have hi' : i < st.length := by omega
    simp [List.getD, List.getElem?_eq_getElem hi'] at h
theorem rows_part {A : Option Addr} {n c i : Nat} {st : List S32} {s : S32} (h : (TRow.head A n c :: st.map TRow.part).getD i (TRow.head none 0 0) = TRow.part s) (hi : i < st.length + 1) : ∃ k, i = k + 1 ∧ st[k]? = some s := by
  cases i with
  | zero => simp at h
  | succ i =>
    have hi' : i < st.length := by omega
    simp [List.getD, List.getElem?_eq_getElem hi'] at h; exact ⟨i, rfl, by rw [List.getElem?_eq_getElem hi', h]⟩
structure TextW (w : World) (A0_0 A0_1 : Option Addr) (c0_0 c0_1 ns nt : Nat) (W : World) : Prop where
  hb : Below w.heap.size w W
  lt : w.heap.size + 1 ≤ W.heap.size
  sp : W.cell? ⟨w.heap.size, 0, none⟩ = some (.slice A0_0 ns c0_0)
  st : W.cell? ⟨w.heap.size, 1, none⟩ = some (.slice A0_1 nt c0_1)
theorem TextW.below {w : World} {A0_0 A0_1 : Option Addr} {c0_0 c0_1 ns nt : Nat} {W W1 : World} (h : TextW w A0_0 A0_1 c0_0 c0_1 ns nt W) (hb : Below (w.heap.size + 1) W W1) : TextW w A0_0 A0_1 c0_0 c0_1 ns nt W1 :=
  ⟨h.hb.trans (hb.mono (by omega)), Nat.le_trans h.lt hb.size, (hb.cell (p := ⟨w.heap.size, 0, none⟩) (by simp)).trans h.sp, (hb.cell (p := ⟨w.heap.size, 1, none⟩) (by simp)).trans h.st⟩
def TabW (w : World) : Prop := Lib.TabIs Tryz.prog w "internal/strconv.uint64pow10" .u64 Lib.pow10Tab
theorem TabW.below {w w1 : World} (h : TabW w) (hb : Below w.heap.size w w1) : TabW w1 := by
  unfold TabW Lib.TabIs World.var? at *
  cases hg : Tryz.prog.globalNamed "internal/strconv.uint64pow10" with
  | none => rw [hg] at h; cases h
  | some g =>
    rw [hg] at h; simp only [Option.bind_some] at h ⊢
    have hlt : g < w.heap.size := by
      rcases Nat.lt_or_ge g w.heap.size with h1 | h1
      · exact h1
      · simp [Array.getElem?_eq_none h1] at h
    rw [hb.block g hlt]; exact h
def Good (w : World) (x : Int) : Prop := 0 ≤ x ∧ (x < 100 ∨ (x ≤ 1000000 ∧ TabW w))
theorem Good.below {w w1 : World} {x : Int} (h : Good w x) (hb : Below w.heap.size w w1) : Good w1 x := ⟨h.1, h.2.imp id fun h => ⟨h.1, h.2.below hb⟩⟩
def itoaS (x : Int) : ByteArray := ⟨(Lib.itoa x).toArray⟩
theorem below_growK {w : World} (k : Nat) (os : Array Obj) : Below w.heap.size w (Sort.grow (w.drewN k) os) :=
  ⟨rfl, rfl, rfl, by simp [Sort.grow, World.drewN], fun i hi => by simp [Sort.grow, World.drewN, Array.getElem?_append, hi]⟩
theorem strAdd (x y : ByteArray) (h : x.size + y.size ≤ 9223372036854775807) (W : World) : (Op.stringOp .add x y).run Tryz.prog W = .ok (.string (x ++ y)) W := by
  unfold Op.stringOp; simp only []; rw [if_neg (by simp [IntKind.max, IntKind.signed, IntKind.bits]; omega)]
  rfl
theorem itoa_any (x : Int) (w : World) (h : Good w x) : Calls Tryz.prog 142 #[.int .i64 x] w fun e w' => ∃ s, e = .returned (.string s) ∧ Aside0 (s = itoaS x ∧ s.size ≤ 21) ∧ Below w.heap.size w w' := by
  obtain ⟨h0, h⟩ := h; have hsz : (itoaS x).size ≤ 21 := by have := Lib.itoa_length_le x (by omega) (by omega); simpa [itoaS, ByteArray.size] using this
  rcases h with h | ⟨h, ht⟩
  · obtain ⟨n, rfl⟩ := Int.eq_ofNat_of_zero_le h0; refine (Any.strconv_Itoa_small { Tryz.itoaL with } n (by omega) w).mono ?_; rintro e w' ⟨rfl, rfl⟩; exact ⟨itoaS (n : Int), by simp [itoaS, Lib.itoa_nonneg], ⟨rfl, hsz⟩, Below.refl _ _⟩
  · refine (Any.strconv_Itoa Tryz.itoaL x (by omega) (by omega) w ht).mono ?_; rintro e w' ⟨rfl, k, os, rfl⟩; exact ⟨itoaS x, rfl, ⟨rfl, hsz⟩, below_growK k os⟩
def rowF (s : ByteArray) (ns : List Int) : ByteArray := ns.foldl (fun s n => s ++ (⟨#[32]⟩ ++ itoaS n)) s
theorem rowF_take {s : ByteArray} {ns : List Int} {j : Nat} (h : j < ns.length) : rowF s (ns.take (j + 1)) = rowF s (ns.take j) ++ (⟨#[32]⟩ ++ itoaS (rd ns (j : Int))) := by
  unfold rowF; rw [List.take_add_one, List.getElem?_eq_getElem h]; rw [List.foldl_append]; simp [rd, List.getD, List.getElem?_eq_getElem h]
theorem rd_mem {ns : List Int} {j : Nat} (h : j < ns.length) : rd ns (j : Int) ∈ ns := by
  simp [rd, List.getD, List.getElem?_eq_getElem h]
theorem byte_at (s : ByteArray) (kk : Nat) (h : kk < s.size) : wrap64 ((s[kk].toNat : Int)) = bt s (kk : Int) := by
  have h1 := bt_range s (kk : Int); have h2 : ((s[kk].toNat : Int)) = bt s (kk : Int) := bt_at s (kk : Int) (by simpa using h); rw [h2]; exact IntWalk.wrap64_in _ (by omega)
def wSpeeds : ByteArray := ⟨#[115, 112, 101, 101, 100, 115]⟩
def wStretch : ByteArray := ⟨#[115, 116, 114, 101, 116, 99, 104]⟩
def partN (s : S32) : List Int := [s.f0, s.f1, s.f2, s.f3.f0, s.f3.f1]
def rowsF (sp : List Int) (st : List S32) : List ByteArray := rowF wSpeeds sp :: st.map fun s => rowF wStretch (partN s)
def iter {α : Type} : Nat → (Nat → α → α) → α → α
  | 0, _, a => a
  | n + 1, f, a => f n (iter n f a)
def chkS (s : ByteArray) (i : Nat) (k : Nat) (c : Int) : Int := c + bt s k * ((k : Int) + 1) * ((i : Int) + 1)
def chkF (s : ByteArray) (i : Nat) (c : Int) : Int := iter s.size (chkS s i) c
theorem chk_step (s : ByteArray) (i k : Nat) (c : Int) (hk : k < 8811) (hi : i ≤ 400) (hc0 : 0 ≤ c) (hc1 : c ≤ 4000000000000000) : wrap64 (c + wrap64 (wrap64 (bt s k * ((k : Int) + 1)) * ((i : Int) + 1))) = chkS s i k c ∧ 0 ≤ chkS s i k c ∧ chkS s i k c ≤ c + 901000000 := by
  have hb := bt_range s (k : Int); have h1 : bt s k * ((k : Int) + 1) ≤ 255 * 8811 := Int.mul_le_mul hb.2 (by omega) (by omega) (by omega); have h0 : 0 ≤ bt s k * ((k : Int) + 1) := Int.mul_nonneg hb.1 (by omega); have h2 : bt s k * ((k : Int) + 1) * ((i : Int) + 1) ≤ 255 * 8811 * 401 := Int.mul_le_mul h1 (by omega) (by omega) (by omega); have h3 : 0 ≤ bt s k * ((k : Int) + 1) * ((i : Int) + 1) := Int.mul_nonneg h0 (by omega); unfold chkS; generalize bt s k * ((k : Int) + 1) = y at *; rw [IntWalk.wrap64_in y (by omega)]; generalize y * ((i : Int) + 1) = z at *; rw [IntWalk.wrap64_in z (by omega), IntWalk.wrap64_in _ (by omega)]
  omega
def sumF (rows : List ByteArray) (i : Nat) : Int := iter i (fun k c => chkF (rows.getD k ByteArray.empty) k c) 0
def wEnd : ByteArray := ⟨#[101, 110, 100, 32]⟩
def textM (sp : List Int) (st : List S32) : Int := sumF (rowsF sp st) (st.length + 1) % 139
def outF (rows : List ByteArray) (i : Nat) : ByteArray := iter i (fun k o => o ++ (rows.getD k ByteArray.empty ++ ⟨#[10]⟩)) ⟨#[]⟩
def textF (sp : List Int) (st : List S32) : ByteArray := outF (rowsF sp st) (st.length + 1) ++ wEnd ++ itoaS (textM sp st / 100) ++ itoaS (textM sp st / 10 % 10) ++ itoaS (textM sp st % 10) ++ ⟨#[10]⟩
theorem head_word_w (v : Value) (w : World) : Calls Tryz.prog 193 #[v] w fun e w' => ∃ wd, e = .returned (.string wd) ∧ Aside0 (wd = wSpeeds) ∧ w = w' :=
  (head_word_any v w).mono fun e w' ⟨h, hw⟩ => ⟨_, h, ⟨rfl⟩, hw⟩
theorem head_numbers_w (A : Option Addr) (c : Nat) (sp : List Int) (w : World) : Calls Tryz.prog 192 #[.slice A sp.length c] w fun e w' => ∃ A2 ns c2, e = .returned (.slice A2 (List.length ns) c2) ∧ Aside0 (ns = sp ∧ A2 = A) ∧ w = w' :=
  (head_numbers_any _ w).mono fun e w' ⟨h, hw⟩ => ⟨_, _, _, h, ⟨rfl, rfl⟩, hw⟩
theorem part_word_w (a b c d e0 : Int) (w : World) : Calls Tryz.prog 195 #[.agg #[.int .i64 a, .int .i64 b, .int .i64 c, .int .i64 d, .int .i64 e0]] w fun e w' => ∃ wd, e = .returned (.string wd) ∧ Aside0 (wd = wStretch) ∧ Below w.heap.size w w' :=
  (part_word_any a b c d e0 w).mono fun e w' ⟨h, hw⟩ => ⟨_, h, ⟨rfl⟩, hw⟩
theorem part_numbers_w (a b c d e0 : Int) (w : World) : Calls Tryz.prog 194 #[.agg #[.int .i64 a, .int .i64 b, .int .i64 c, .int .i64 d, .int .i64 e0]] w fun e w' => ∃ A2 ns c2, e = .returned (.slice A2 (List.length ns) c2) ∧ Aside0 (ns = [a, b, c, d, e0] ∧ Kd.C (Kd.int .i64) w' A2 ns.length ns) ∧ Below w.heap.size w w' :=
  (part_numbers_any a b c d e0 w).mono fun e w' ⟨v, h, hR, hw⟩ => by
    obtain ⟨A2, c2, rfl, _, hC⟩ := Kd.R_reads hR; exact ⟨A2, _, c2, h, ⟨rfl, hC⟩, hw⟩
set_option maxRecDepth 100000 in
set_option maxHeartbeats 1000000 in
theorem text_any (A0_0 A0_1 : Option Addr) (c0_0 c0_1 : Nat) (sp : List Int) (st : List S32) (w : World) (hr0_0 : Kd.C (Kd.int .i64) w A0_0 sp.length sp) (hc0_0 : sp.length ≤ c0_0) (hr0_1 : Kd.C k32 w A0_1 st.length st) (hc0_1 : st.length ≤ c0_1) (hsp : sp.length ≤ 400) (hst : st.length ≤ 400) (hgs : ∀ x ∈ sp, Good w x) (hgp : ∀ s ∈ st, ∀ x ∈ partN s, Good w x) :
    Calls Tryz.prog 122 #[.agg #[.slice A0_0 sp.length c0_0, .slice A0_1 st.length c0_1]] w fun e w' => e = .returned (.string (textF sp st)) ∧ Below w.heap.size w w' := by
  have hu1 := Tryz.underlying25; have hu2 := Tryz.underlying30; have hu3 := Tryz.underlying32; have hu4 := Tryz.underlying185; have HL := Aside0.mk (And.intro hsp hst); have HGS := Aside0.mk hgs; have HGP := Aside0.mk hgp; clear hgs hgp; have HR1 := Aside0.mk hr0_1; have HR0 := Aside0.mk hr0_0; clear hsp hst hr0_0 hr0_1
  go_enter Tryz.func122, Tryz.ntmps122
  go_upto_region 2 with (fail)
  generalize hW0 : World.alloc _ _ = W0
  have HT : Aside0 (TextW w A0_0 A0_1 c0_0 c0_1 sp.length st.length W0) := ⟨by
    rw [← hW0]
    exact ⟨((Below.refl _ w).alloc (Nat.le_refl _) _).alloc (by simp) _, by simp, by simp [go_sem], by simp [go_sem]⟩⟩
  have HO : Aside0 (Kd.R kRow 187 W0 (w.heap.size + 1) (fun _ => True) (.slice (some ⟨w.heap.size + 1, 0, none⟩) 1 1) [.head A0_0 sp.length c0_0]) := ⟨by
    rw [← hW0]; have := row_new (.head A0_0 sp.length c0_0) (w.alloc (.cells #[.slice A0_0 sp.length c0_0, .slice A0_1 st.length c0_1] 25)) (w.heap.size + 1) (by simp) 187
    simpa [encRow] using this⟩
  clear hW0; have g0 := HT.out.st; go_wp2
  go_loopg [3, 5, 21] st.length (fun kq v3 v5 v21 w' => ∃ j : Nat, v21 = .int .i64 (j : Int) ∧ Aside0 (j + kq = st.length) ∧ (∃ rs, Aside0 (rs = TRow.head A0_0 sp.length c0_0 :: (st.take j).map .part) ∧ Aside0 (Kd.R kRow 187 w' (w.heap.size + 1) (fun _ => True) v3 rs)) ∧ Aside0 (TextW w A0_0 A0_1 c0_0 c0_1 sp.length st.length w'))
  case atStart => exact ⟨0, rfl, ⟨by omega⟩, ⟨_, ⟨rfl⟩, HO⟩, HT⟩
  case round =>
    clear HT HO g0; obtain ⟨j, rfl, HJ, ⟨rs, HS, HO⟩, HT⟩ := hrel; have HLS : Aside0 (rs.length = j + 1) := ⟨by rw [HS.out]; simp; have := HJ.out; omega⟩; obtain ⟨Ao, co, eo⟩ := Kd.R_slice HO.out; subst eo
    cases gk with
    | zero =>
      have c3 : decide ((j : Int) < (st.length : Int)) = false := decide_eq_false (by have := HJ.out; omega); have c4 : ¬ (j < st.length) := by have := HJ.out; omega
      have hrs : rs = TRow.head A0_0 sp.length c0_0 :: st.map .part := by rw [HS.out, List.take_of_length_le (by have := HJ.out; omega)]
      clear HS HJ; obtain ⟨A1, c1, e1, hlc, hC1⟩ := Kd.R_reads HO.out; injection e1 with e1 e2 e3; subst e1 e3; have HC := Aside0.mk hC1; have HRS := Aside0.mk hrs; clear hC1 hrs HO; go_wp2; clear c3 c4
      go_loopg [6, 7, 34] rs.length (fun kq v6 v7 v34 w' => ∃ (i : Nat) (out : ByteArray) (chk : Int), v6 = .string out ∧ v7 = .int .i64 chk ∧ v34 = .int .i64 (i : Int) ∧ Aside0 (i + kq = rs.length) ∧ Aside0 (out = outF (rowsF sp st) i ∧ chk = sumF (rowsF sp st) i ∧ out.size ≤ 100000000 * i ∧ 0 ≤ chk ∧ chk ≤ i * 7940000000000) ∧ Aside0 (Below wr.heap.size wr w'))
      case atStart => exact ⟨0, _, 0, rfl, rfl, rfl, ⟨by omega⟩, ⟨rfl, rfl, Nat.le_refl _, by omega, by omega⟩, ⟨Below.refl _ _⟩⟩
      case round =>
        obtain ⟨i, out, chk, rfl, rfl, rfl, HI, HO, HW⟩ := hrel
        cases gk with
        | zero =>
          have c3 : decide ((i : Int) < (rs.length : Int)) = false := decide_eq_false (by have := HI.out; omega); have c4 : ¬ (i < rs.length) := by have := HI.out; omega
          have hrl : rs.length = st.length + 1 := by rw [HRS.out]; simp
          have HIE : Aside0 (i = st.length + 1) := ⟨by have := HI.out; omega⟩; have hc0 : 0 ≤ chk := HO.out.2.2.2.1; have hos : out.size ≤ 100000000 * 1000001 := by have := HO.out.2.2.1; have := HIE.out; have := HL.out.2; omega
          have HOS := Aside0.mk hos; have HC0 := Aside0.mk hc0; have he : (⟨#[101, 110, 100, 32]⟩ : ByteArray).size = 4 := rfl; have ha0 := fun W => strAdd out ⟨#[101, 110, 100, 32]⟩ (by rw [he]; omega) W; have hoe : (out ++ ⟨#[101, 110, 100, 32]⟩).size ≤ 100000000 * 1000002 := by rw [ByteArray.size_append, he]; omega
          have HOE := Aside0.mk hoe; clear hrl hos he hoe
          go_wp2_with (fail)
          clear ha0; refine (itoa_any _ _ ⟨by omega, Or.inl (by omega)⟩).mono ?_; rintro e w1 ⟨s1, rfl, H1, hb1⟩; generalize hx1 : out ++ ⟨#[101, 110, 100, 32]⟩ = o1 at HOE; have HX1 := Aside0.mk hx1; have ha1 := fun W => strAdd o1 s1 (by have := HOE.out; have := H1.out.2; omega) W; clear hx1
          go_wp2_with (fail)
          clear ha1; refine (itoa_any _ _ ⟨by omega, Or.inl (by omega)⟩).mono ?_; rintro e w2 ⟨s2, rfl, H2, hb2⟩; have ha2 := fun W => strAdd (o1 ++ s1) s2 (by rw [ByteArray.size_append]; have := HOE.out; have := H1.out.2; have := H2.out.2; omega) W
          go_wp2_with (fail)
          clear ha2; refine (itoa_any _ _ ⟨by omega, Or.inl (by omega)⟩).mono ?_; rintro e w3 ⟨s3, rfl, H3, hb3⟩; have hn1 : (⟨#[10]⟩ : ByteArray).size = 1 := rfl; have ha3 := fun W => strAdd (o1 ++ s1 ++ s2) s3 (by rw [ByteArray.size_append, ByteArray.size_append]; have := HOE.out; have := H1.out.2; have := H2.out.2; have := H3.out.2; omega) W; have ha4 := fun W => strAdd (o1 ++ s1 ++ s2 ++ s3) ⟨#[10]⟩ (by rw [ByteArray.size_append, ByteArray.size_append, ByteArray.size_append, hn1]; have := HOE.out; have := H1.out.2; have := H2.out.2; have := H3.out.2; omega) W; clear hn1; go_wp2; clear ha3 ha4; go_ret; refine ⟨?_, below_step (below_step (below_step (below_step HT.out.hb HW.out) hb1) (below_step hb2 hb3)) (Below.refl _ _)⟩; have hm : textM sp st = chk % 139 := by unfold textM; rw [HO.out.2.1, HIE.out]
          have ho1 : o1 = outF (rowsF sp st) (st.length + 1) ++ wEnd := by rw [← HX1.out, HO.out.1, HIE.out]; rfl
          rw [H1.out.1, H2.out.1, H3.out.1, ho1, ← hm]
          rfl
        | succ k2 =>
          have c3 : decide ((i : Int) < (rs.length : Int)) = true := decide_eq_true (by have := HI.out; omega); have p1 : (0 : Int) ≤ (i : Int) := by omega
          have p2 : (i : Int) < (rs.length : Int) := by have := HI.out; omega
          obtain ⟨ad, cc, ea, _, hk, hcell⟩ := Kd.C_get HC.out (.head none 0 0) i p1 p2
          cases ea
          generalize hxn : rs.getD (i : Int).toNat (TRow.head none 0 0) = x at hk; obtain rfl : cc = [encRow x] := hk; have x0 := hcell 0 (encRow x) rfl; rw [Int.toNat_natCast] at x0; clear hcell; rw [show i * kRow.sz + 0 = i from Nat.mul_one i] at x0; have q1 := eq_true p1; have q2 := eq_true p2; rw [HRS.out, Int.toNat_natCast] at hxn; have hil : i < st.length + 1 := by have := HI.out; rw [HRS.out] at this; simp at this; omega
          cases x with
          | head A n c => ?_
          | part s => ?_
          case' head =>
            replace x0 : wr.cell? (ad.add i) = some (Value.iface 182 (.slice A n c)) := (HW.out.cell (World.block_lt_of_cell? _ _ x0)).trans x0; obtain ⟨hi0, rfl, rfl, rfl⟩ := rows_head hxn hil; have hrow : (rowsF sp st)[i]? = some (rowF wSpeeds sp) := by rw [hi0]; rfl
            have HROW := Aside0.mk hrow; have HIL := Aside0.mk hil; clear hi0 hrow hxn hil
            go_wp2_with (first | (go_at_call 193; refine (head_word_w _ _).mono ?_; rintro e w1 ⟨wd, rfl, Hwd, rfl⟩) | (go_at_call 192; refine (head_numbers_w _ _ _ _).mono ?_; rintro e w1 ⟨A2, ns, c2, rfl, Hns, rfl⟩))
            have HG : Aside0 (∀ x ∈ ns, Good wr x) := ⟨fun x hx => (HGS.out x (Hns.out.1 ▸ hx)).below (below_step HT.out.hb HW.out)⟩; have HN : Aside0 (Kd.C (Kd.int .i64) wr A2 ns.length ns) := ⟨by rw [Hns.out.1, Hns.out.2]; exact Kd.C_below HR0.out (below_step HT.out.hb HW.out)⟩; have HRO : Aside0 ((rowsF sp st)[i]? = some (rowF wd ns) ∧ ns.length ≤ 400 ∧ wd.size ≤ 10) := ⟨by rw [Hns.out.1, Hwd.out]; exact HROW.out, by rw [Hns.out.1]; exact HL.out.1, by rw [Hwd.out]; decide⟩; clear Hns Hwd HROW x0; replace HW := HW; obtain ⟨wX, rfl⟩ : ∃ wX, wX = wr := ⟨_, rfl⟩
          case' part =>
            replace x0 : wr.cell? (ad.add i) = some (Value.iface 185 (.agg #[.int .i64 s.f0, .int .i64 s.f1, .int .i64 s.f2, .int .i64 s.f3.f0, .int .i64 s.f3.f1])) := (HW.out.cell (World.block_lt_of_cell? _ _ x0)).trans x0; obtain ⟨ki, hi0, hks⟩ := rows_part hxn hil; have hrow : (rowsF sp st)[i]? = some (rowF wStretch (partN s)) := by rw [hi0]; simp [rowsF, hks]
            have hsm : s ∈ st := List.mem_of_getElem? hks; have HROW := Aside0.mk (And.intro hrow hsm); have HIL := Aside0.mk hil; clear hi0 hrow hxn hil hks hsm
            go_wp2_with (first | (go_at_call 195; refine (part_word_w _ _ _ _ _ _).mono ?_; rintro e w1 ⟨wd, rfl, Hwd, hb1⟩) | (go_at_call 194; refine (part_numbers_w _ _ _ _ _ _).mono ?_; rintro e w2 ⟨A2, ns, c2, rfl, Hns, hb2⟩))
            replace HW := Aside0.mk (below_step HW.out (below_step hb1 hb2)); have HG : Aside0 (∀ x ∈ ns, Good w2 x) := ⟨fun x hx => (HGP.out s HROW.out.2 x (by have := Hns.out.1; rw [this] at hx; exact hx)).below (below_step HT.out.hb HW.out)⟩; have HN : Aside0 (Kd.C (Kd.int .i64) w2 A2 ns.length ns) := ⟨Hns.out.2⟩; have HRO : Aside0 ((rowsF sp st)[i]? = some (rowF wd ns) ∧ ns.length ≤ 400 ∧ wd.size ≤ 10) := ⟨by rw [Hns.out.1, Hwd.out]; exact HROW.out.1, by rw [Hns.out.1]; simp, by rw [Hwd.out]; decide⟩; clear Hns Hwd HROW x0 hb1 hb2; obtain ⟨wX, rfl⟩ : ∃ wX, wX = w2 := ⟨_, rfl⟩
          all_goals
            clear c3 p1 p2 q1 q2
            go_loopg [10, 44] ns.length (fun kq v10 v44 w' => ∃ (jn : Nat) (s : ByteArray), v10 = .string s ∧ v44 = .int .i64 (jn : Int) ∧ Aside0 (jn + kq = ns.length) ∧ Aside0 (s = rowF wd (ns.take jn) ∧ s.size ≤ 10 + 22 * jn) ∧ Aside0 (Below wX.heap.size wX w'))
            case atStart => exact ⟨0, _, rfl, rfl, ⟨by omega⟩, ⟨rfl, by have := HRO.out.2.2; omega⟩, ⟨Below.refl _ _⟩⟩
            case round =>
              obtain ⟨jn, s, rfl, rfl, HJN, HS, HWN⟩ := hrel
              cases gk with
              | zero =>
                have c3 : decide ((jn : Int) < (ns.length : Int)) = false := decide_eq_false (by have := HJN.out; omega); have c4 : ¬ (jn < ns.length) := by have := HJN.out; omega
                have HSW : Aside0 (s = rowF wd ns ∧ s.size ≤ 8810) := ⟨by rw [HS.out.1, List.take_of_length_le (by have := HJN.out; omega)], by have := HS.out.2; have := HJN.out; have := HRO.out.2.1; omega⟩; have hsz : s.size ≤ 8810 := HSW.out.2; have HSZ0 : Aside0 (s.size ≤ 8810) := ⟨by have := HS.out.2; have := HJN.out; have := HRO.out.2.1; omega⟩; clear HS; go_wp2; clear c3 c4; obtain ⟨wY, rfl⟩ : ∃ wY, wY = wr := ⟨_, rfl⟩
                go_loopg [7, 56] s.size (fun kq v7 v56 w' => ∃ (kk : Nat) (c : Int), v7 = .int .i64 c ∧ v56 = .int .i64 (kk : Int) ∧ Aside0 (kk + kq = s.size) ∧ Aside0 (c = iter kk (chkS s i) chk ∧ 0 ≤ c ∧ c ≤ chk + kk * 901000000) ∧ w' = wY)
                case atStart => exact ⟨0, _, rfl, rfl, ⟨by omega⟩, ⟨rfl, by have := HO.out.2.2.2; omega, by omega⟩, rfl⟩
                case round =>
                  obtain ⟨kk, c, rfl, rfl, HKK, HCC, rfl⟩ := hrel
                  cases gk with
                  | zero =>
                    have c3 : decide ((kk : Int) < (s.size : Int)) = false := decide_eq_false (by have := HKK.out; omega); have c4 : ¬ (kk < s.size) := by have := HKK.out; omega
                    have hns : (⟨#[10]⟩ : ByteArray).size = 1 := rfl; have hos : out.size ≤ 100000000 * 1000001 := by have := HO.out.2.2.1; have := HIL.out; have := HL.out.2; omega
                    have ha3 := fun W => strAdd s ⟨#[10]⟩ (by rw [hns]; omega) W; have ha4 := fun W => strAdd out (s ++ ⟨#[10]⟩) (by rw [ByteArray.size_append, hns]; omega) W; have HGD : Aside0 ((rowsF sp st).getD i ByteArray.empty = s) := ⟨by rw [List.getD_eq_getElem?_getD, HRO.out.1, HSW.out.1]; rfl⟩; have HSZ : Aside0 (s.size ≤ 8810) := HSZ0; clear hns hos; go_wp2; clear ha3 ha4
                    go_roundg k2
                    case measure => omega
                    case rel => exact ⟨i + 1, _, _, rfl, rfl, (by rw [IntWalk.wrap64_in _ (by have := HIL.out; have := HL.out.2; omega), Int.natCast_add, Int.natCast_one]), ⟨by have := HI.out; omega⟩, ⟨by rw [HO.out.1]; show _ = outF (rowsF sp st) i ++ ((rowsF sp st).getD i ByteArray.empty ++ ⟨#[10]⟩); rw [HGD.out], by rw [HCC.out.1, HO.out.2.1, show kk = s.size by have := HKK.out; omega]; show _ = chkF ((rowsF sp st).getD i ByteArray.empty) i (sumF (rowsF sp st) i); rw [HGD.out]; rfl, by rw [ByteArray.size_append, ByteArray.size_append]; have := HO.out.2.2.1; have := HSZ.out; have : (⟨#[10]⟩ : ByteArray).size = 1 := rfl; omega, by have := HCC.out.2.1; omega, by have := HCC.out.2.2; have := HO.out.2.2.2; have := HSZ.out; have := HKK.out; omega⟩, ⟨below_step HW.out HWN.out⟩⟩
                  | succ k4 =>
                    have c3 : decide ((kk : Int) < (s.size : Int)) = true := decide_eq_true (by have := HKK.out; omega); have c4 : kk < s.size := by have := HKK.out; omega
                    have b1 := bt_at s kk; have hi1 : (i : Int) ≤ 401 := by have := HIL.out; have := HL.out.2; omega
                    go_wp2
                    go_roundg k4
                    case measure => omega
                    case rel => exact ⟨kk + 1, _, rfl, (by rw [Int.natCast_add, Int.natCast_one]), ⟨by have := HKK.out; omega⟩, ⟨by rw [byte_at s kk c4, (chk_step s i kk c (by omega) (by have := HIL.out; have := HL.out.2; omega) HCC.out.2.1 (by have := HCC.out.2.2; have := HO.out.2.2.2; have := HIL.out; have := HL.out.2; omega)).1, HCC.out.1]; rfl, by rw [byte_at s kk c4, (chk_step s i kk c (by omega) (by have := HIL.out; have := HL.out.2; omega) HCC.out.2.1 (by have := HCC.out.2.2; have := HO.out.2.2.2; have := HIL.out; have := HL.out.2; omega)).1]; have := chk_step s i kk c (by omega) (by have := HIL.out; have := HL.out.2; omega) HCC.out.2.1 (by have := HCC.out.2.2; have := HO.out.2.2.2; have := HIL.out; have := HL.out.2; omega); have := HCC.out.2; omega⟩, rfl⟩
              | succ k3 =>
                have c3 : decide ((jn : Int) < (ns.length : Int)) = true := decide_eq_true (by have := HJN.out; omega); have p1 : (0 : Int) ≤ (jn : Int) := by omega
                have p2 : (jn : Int) < (ns.length : Int) := by have := HJN.out; omega
                obtain ⟨ad2, ea, x0⟩ := Kd.at_int HN.out jn p1 p2
                cases ea
                rw [Int.toNat_natCast] at x0; replace x0 := (HWN.out.cell (World.block_lt_of_cell? _ _ x0)).trans x0; have HGx : Aside0 (Good wr (rd ns jn)) := ⟨(HG.out _ (rd_mem (by omega))).below HWN.out⟩; generalize hxx : rd ns jn = xx at x0 HGx; have HXX := Aside0.mk hxx; clear hxx; have q1 := eq_true p1; have q2 := eq_true p2
                go_wp2_with (go_at_call 142; refine (itoa_any _ _ HGx.out).mono ?_; rintro e w1 ⟨si, rfl, Hsi, hbi⟩; have ha1 := fun W => strAdd ⟨#[32]⟩ si (by have := Hsi.out.2; have : (⟨#[32]⟩ : ByteArray).size = 1 := rfl; omega) W; have ha2 := fun W => strAdd s (⟨#[32]⟩ ++ si) (by rw [ByteArray.size_append]; have := Hsi.out.2; have := HS.out.2; have := HRO.out.2.1; have := HJN.out; have : (⟨#[32]⟩ : ByteArray).size = 1 := rfl; omega) W)
                clear ha1 ha2
                go_roundg k3
                case measure => omega
                case rel => exact ⟨jn + 1, _, rfl, (by rw [IntWalk.wrap64_in _ (by have := HRO.out.2.1; have := HJN.out; omega), Int.natCast_add, Int.natCast_one]), ⟨by have := HJN.out; omega⟩, ⟨by rw [rowF_take (by omega), HXX.out, ← HS.out.1, ← Hsi.out.1], by rw [ByteArray.size_append, ByteArray.size_append]; have := Hsi.out.2; have := HS.out.2; have : (⟨#[32]⟩ : ByteArray).size = 1 := rfl; omega⟩, ⟨below_step HWN.out hbi⟩⟩
    | succ k2 =>
      have c3 : decide ((j : Int) < (st.length : Int)) = true := decide_eq_true (by have := HJ.out; omega); have hj : j < st.length := by have := HJ.out; omega
      have p1 : (0 : Int) ≤ (j : Int) := by omega
      have p2 : (j : Int) < (st.length : Int) := by omega
      obtain ⟨ad, ea, x0, x1, x2, x3, x4⟩ := at_T32 HR1.out j p1 p2
      cases ea
      generalize hxn : rd_T32 st j = x at x0 x1 x2 x3 x4; rw [Int.toNat_natCast] at x0 x1 x2 x3 x4; replace x0 := (HT.out.hb.cell (World.block_lt_of_cell? w _ x0)).trans x0; replace x1 := (HT.out.hb.cell (World.block_lt_of_cell? w _ x1)).trans x1; replace x2 := (HT.out.hb.cell (World.block_lt_of_cell? w _ x2)).trans x2; replace x3 := (HT.out.hb.cell (World.block_lt_of_cell? w _ x3)).trans x3; replace x4 := (HT.out.hb.cell (World.block_lt_of_cell? w _ x4)).trans x4; have q1 := eq_true p1; have q2 := eq_true p2; have hls := HLS.out; have hj6 := HL.out; clear hls hj6
      go_wp2_with (first | ((with_reducible refine gate_builtin (b := .append) (xs := #[.tmp 25, .tmp 29]) rfl ?_); (try (refine gate_guard (by rfl) ?_; dsimp only)); at_builtin; (refine Kd.R_append kRow (w0 := wr) (w.heap.size + 1) rfl (.tmp 25) (.tmp 29) 183 187 .nilIface 16 rfl Tryz.underlying183 infoRow rfl (by decide) (by omega) (.slice Ao rs.length co) rs (.part x) [encRow (.part x)] (fun _ => True) (fun _ => False) rfl (by rw [World.size_alloc]; rfl) ?aP (fun _ hk => hk.elim) ?aF ?aO ?aB ?aS ?aL ?_); (case aP => exact rfl); (case aB => exact (Below.refl _ _).alloc HT.out.lt _); (case aF => exact (fun _ _ => trivial)); (case aO => exact Kd.R_alloc HO.out _); (case aS => have := HT.out.lt; rw [World.size_alloc]; omega); (case aL => have := HLS.out; have := HL.out; omega); intro vA wA ho hb hg hat; have HTB := HT.out.below hb; clear hb hg hat HT))
      go_roundg k2
      case measure => omega
      case rel => exact ⟨j + 1, (by rw [IntWalk.wrap64_in _ (by have := HL.out; omega), Int.natCast_add, Int.natCast_one]), ⟨by have := HJ.out; omega⟩, ⟨rs ++ [.part x], ⟨by rw [HS.out, List.take_add_one, List.getElem?_eq_getElem hj, List.map_append, show x = st[j] from by rw [← hxn]; simp [rd_T32, List.getD, List.getElem?_eq_getElem hj]]; rfl⟩, ⟨ho⟩⟩, ⟨HTB⟩⟩
end Go.Proofs.YtdmdahafiiggiaaGreatDoor.K
end
section
namespace Go.Proofs.YtdmdahafiiggiaaGreatDoor.K
open Go.RowKit Go.Proofs.YtdmdahafiiggiaaGreatDoorW.PrintWords Go.Proofs.YtdmdahafiiggiaaGreatDoorW.PrintLast Go.Proofs.YtdmdahafiiggiaaGreatDoorW.PrintMore
theorem infoStr : (Tryz.prog.info? 9).map (fun i => (i.zero, i.size, i.bytes)) = some (some (.string ByteArray.empty), 1, 16) := by kernel_rfl
def partsF (s : ByteArray) (c : UInt8) : List ByteArray := Lib.splitB ⟨#[c]⟩ 0 (Lib.countB s ⟨#[c]⟩) s
theorem gensplit_one (s : ByteArray) (c : UInt8) (w : World) (hs : s.size < 4294967281) :
    Calls Tryz.prog 141 #[.string s, .string ⟨#[c]⟩, .int .i64 0, .int .i64 (-1)] w fun e w' => e = .returned (.slice (some ⟨w.heap.size, 0, none⟩) (partsF s c).length (partsF s c).length) ∧ w' = w.alloc (.cells ((partsF s c).map Value.string).toArray 9) := by
  have hle := Lib.countB_le ⟨#[c]⟩ (Nat.le_refl 1) s.size s (Nat.le_refl _); have hlen := Lib.splitB_all ⟨#[c]⟩ (Nat.le_refl 1) 0 _ s rfl
  have h := Any.strings_genSplit_core { Tryz.splitL with } infoStr s ⟨#[c]⟩ 0 (-1) (Lib.countB s ⟨#[c]⟩ + 1) w hs (Nat.le_refl 1) (Nat.zero_le _)
    (fun x cs hx => (Any.strings_Index_one { Tryz.splitL with } x c _).mono fun e w' ⟨he, hw⟩ => ⟨by rw [he]; unfold Lib.indexB; rw [Lib.index_one], hw⟩)
    (Any.strings_Count_one { Tryz.splitL with } s c w |>.mono fun e w' ⟨he, hw⟩ => ⟨by rw [he]; show _ = Ending.returned (Value.int .i64 ((Lib.count s.data.toList [c] : Nat) : Int)); rw [Lib.count_one]; rfl, hw⟩)
    (by decide) (by decide) (by rw [if_pos (by decide)]; omega)
  rw [Nat.add_sub_cancel, hlen] at h; have e2 : Lib.cellsOf (Lib.splitB ⟨#[c]⟩ 0 (Lib.countB s ⟨#[c]⟩) s) (Lib.countB s ⟨#[c]⟩ + 1) = ((Lib.splitB ⟨#[c]⟩ 0 (Lib.countB s ⟨#[c]⟩) s).map Value.string).toArray := by rw [← hlen]; exact Lib.cellsOf_full _
  rw [e2, ← hlen] at h; exact h
theorem split_one (s : ByteArray) (c : UInt8) (w : World) (hs : s.size < 4294967281) :
    Calls Tryz.prog 119 #[.string s, .string ⟨#[c]⟩] w fun e w' => ∃ A cc, e = .returned (.slice A (partsF s c).length cc) ∧ Aside0 (Kd.C Kd.string w' A (partsF s c).length (partsF s c) ∧ (partsF s c).length ≤ cc) ∧ Below w.heap.size w w' := by
  have h := gensplit_one s c w hs
  have hl : (partsF s c).length ≤ 9223372036854775807 := by
    have := Lib.splitB_all ⟨#[c]⟩ (Nat.le_refl 1) 0 _ s rfl; have hle := Lib.countB_le ⟨#[c]⟩ (Nat.le_refl 1) s.size s (Nat.le_refl _); unfold partsF
    omega
  go_enter Tryz.func119, Tryz.ntmps119
  go_wp2_with (go_at_call 141; refine h.mono ?_; rintro e w' ⟨rfl, rfl⟩)
  go_ret; refine ⟨_, _, rfl, ⟨?_, Nat.le_refl _⟩, (Below.refl _ _).alloc (Nat.le_refl _) _⟩; have := own_lit_of (enc := Value.string) w w.heap.size 9 (partsF s c) (Nat.le_refl _) hl; obtain ⟨A, cc, e, hr⟩ := own_reads_of (d := ByteArray.empty) this
  cases e
  exact Kd.C_of_reads hr
theorem sure_yes (why : ByteArray) (w : World) : Calls Tryz.prog 120 #[.bool true, .string why] w fun e w' => e = .returned (.tuple #[]) ∧ w = w' := by
  go_enter Tryz.func120, Tryz.ntmps120
  go_wp2
  go_end0
  exact ⟨rfl, rfl⟩
def gaveUp (e : Ending) : Prop := ∃ why : ByteArray, e = .panicked [{ v := .iface 149 (.agg #[.string why]), recovered := false }]
theorem sure_no (why : ByteArray) (w : World) : Calls Tryz.prog 120 #[.bool false, .string why] w fun e w' => e = .panicked [{ v := .iface 149 (.agg #[.string why]), recovered := false }] ∧ w = w' := by
  go_enter Tryz.func120, Tryz.ntmps120
  go_wp2; exact ⟨rfl, rfl, rfl⟩
def isDigB (b : Int) : Bool := decide (48 ≤ b) && decide (b ≤ 57)
def digsF (x : ByteArray) (k : Nat) : Bool := (List.range k).all fun j => isDigB (bt x j)
def valF (x : ByteArray) (k : Nat) : Int := iter k (fun j n => 10 * n + (bt x j - 48)) 0
theorem digs_succ {x : ByteArray} {k : Nat} : digsF x (k + 1) = (digsF x k && isDigB (bt x k)) := by
  simp [digsF, List.range_succ]
theorem val_range {x : ByteArray} : ∀ {k : Nat}, digsF x k = true → 0 ≤ valF x k ∧ valF x k < 10 ^ k
  | 0, _ => by simp [valF, iter]
  | k + 1, h => by
    rw [digs_succ, Bool.and_eq_true] at h; have ih := val_range h.1; have hd := h.2; simp only [isDigB, Bool.and_eq_true, decide_eq_true_eq] at hd; have : valF x (k + 1) = 10 * valF x k + (bt x k - 48) := rfl; rw [this, Int.pow_succ]
    omega
theorem val_small {x : ByteArray} {k : Nat} (h : digsF x k = true) (hk : k ≤ 4) : 0 ≤ valF x k ∧ valF x k ≤ 9999 ∧ (k ≤ 3 → valF x k ≤ 999) := by
  have := val_range h; have h4 : k = 0 ∨ k = 1 ∨ k = 2 ∨ k = 3 ∨ k = 4 := by omega
  rcases h4 with rfl | rfl | rfl | rfl | rfl <;> simp at this <;> omega
def numOk (x : ByteArray) : Bool := digsF x x.size && decide (x.size ≤ 4) && decide (x.size ≠ 0) && decide (itoaS (valF x x.size) = x)
def numF (x : ByteArray) : Option Int := if numOk x = true then some (valF x x.size) else none
def numsF : List ByteArray → Option (List Int)
  | [] => some []
  | x :: l => (numF x).bind fun n => (numsF l).map fun ns => n :: ns
theorem nums_snoc (x : ByteArray) : ∀ (l : List ByteArray) (ns : List Int), numsF l = some ns → numsF (l ++ [x]) = (numF x).map fun n => ns ++ [n]
  | [], ns, h => by
    obtain rfl : [] = ns := Option.some.inj h
    cases hx : numF x <;> simp [numsF, hx]
  | y :: l, ns, h => by
    simp only [numsF, List.cons_append] at h ⊢; obtain ⟨n, hn, h⟩ := Option.bind_eq_some_iff.1 h; obtain ⟨ms, hm, rfl⟩ := Option.map_eq_some_iff.1 h; rw [hn, nums_snoc x l ms hm]
    cases hx : numF x <;> simp
theorem nums_bad {x : ByteArray} (hx : numF x = none) : ∀ {l : List ByteArray}, x ∈ l → numsF l = none
  | y :: l, h => by
    simp only [numsF]
    rcases List.mem_cons.1 h with rfl | h
    · rw [hx]; rfl
    · rw [nums_bad hx h]; cases numF y <;> rfl
theorem nums_len : ∀ {l : List ByteArray} {ns : List Int}, numsF l = some ns → ns.length = l.length
  | [], ns, h => by obtain rfl : [] = ns := Option.some.inj h; rfl
  | y :: l, ns, h => by
    simp only [numsF] at h; obtain ⟨n, hn, h⟩ := Option.bind_eq_some_iff.1 h; obtain ⟨ms, hm, rfl⟩ := Option.map_eq_some_iff.1 h; simp [nums_len hm]
def toldF (line word : ByteArray) : Option (List Int) := if rdOf ByteArray.empty (partsF line 32) 0 = word then numsF ((partsF line 32).drop 1) else none
def ToldPost (line word : ByteArray) (w : World) (e : Ending) (w' : World) : Prop :=
  Below w.heap.size w w' ∧ ((toldF line word = none ∧ gaveUp e) ∨ ∃ ns v, toldF line word = some ns ∧ e = .returned v ∧ Kd.R (Kd.int .i64) 3 w' w.heap.size (fun _ => True) v ns)
theorem parts_pos (s : ByteArray) (c : UInt8) : 0 < (partsF s c).length := by
  unfold partsF
  cases Lib.countB s ⟨#[c]⟩ with
  | zero => simp [Lib.splitB]
  | succ k => unfold Lib.splitB; split <;> simp
theorem num_bad_digit {x : ByteArray} {pos : Nat} (h : pos < x.size) (hd : isDigB (bt x pos) = false) : numF x = none := by
  have : digsF x x.size = false := by
    rw [Bool.eq_false_iff]; intro hf; simp only [digsF, List.all_eq_true, List.mem_range] at hf; rw [hf pos h] at hd
    cases hd
  simp [numF, numOk, this]
theorem num_bad_size {x : ByteArray} (h : 4 < x.size) : numF x = none := by
  have : decide (x.size ≤ 4) = false := decide_eq_false (by omega); simp only [numF, numOk, this]; simp
theorem num_bad_empty {x : ByteArray} (h : x.size = 0) : numF x = none := by
  simp [numF, numOk, h]
theorem num_bad_itoa {x : ByteArray} (h : ¬ itoaS (valF x x.size) = x) : numF x = none := by
  simp [numF, numOk, h]
theorem num_good {x : ByteArray} {pos : Nat} (h1 : digsF x pos = true) (hp : pos = x.size) (h2 : x.size ≤ 4) (h3 : ¬ x.size = 0) (h4 : itoaS (valF x pos) = x) : numF x = some (valF x pos) := by
  subst hp; simp [numF, numOk, h1, h2, h3, h4]
theorem below_iter {w w1 : World} (h : Below w.heap.size w w1) (x : ByteArray) (p : Nat) : Below w.heap.size w (w1.iter x p) := h.alloc h.size _
theorem str_ne {a b : ByteArray} (h : ¬ a = b) : (a.toList == b.toList) = false := by
  rw [beq_eq_false_iff_ne]; intro e; rw [Lib.toList_data, Lib.toList_data] at e; apply h
  cases a; cases b
  simp at e; rw [e]
theorem parts_len (s : ByteArray) (c : UInt8) (hs : s.size ≤ 100000) : (partsF s c).length ≤ 100001 := by
  have := Lib.splitB_all ⟨#[c]⟩ (Nat.le_refl 1) 0 _ s rfl; have hle := Lib.countB_le ⟨#[c]⟩ (Nat.le_refl 1) s.size s (Nat.le_refl _); unfold partsF
  omega
set_option maxRecDepth 100000 in
set_option maxHeartbeats 1000000 in
theorem told_any (line word : ByteArray) (w : World) (hs : line.size ≤ 100000) (hq : TabW w ∨ ∀ x ∈ partsF line 32, valF x x.size < 100) :
    Calls Tryz.prog 121 #[.string line, .string word] w (ToldPost line word w) := by
  obtain ⟨ps, hps⟩ : ∃ ps, partsF line 32 = ps := ⟨_, rfl⟩; have hp0 : 0 < ps.length := hps ▸ parts_pos line 32; have CS := Aside0.mk (split_one line 32 w (by omega)); rw [hps] at CS; obtain ⟨i9, hi9, hz0, hz1, hz2⟩ := info_parts infoStr; have HP := Aside0.mk hps; rw [hps] at hq; have HQ := Aside0.mk hq; have HP0 := Aside0.mk hp0; clear hps hq hp0
  go_enter Tryz.func121, Tryz.ntmps121
  go_wp2_with fail
  refine CS.out.mono ?_; rintro e w1 ⟨A, cc, rfl, HC, hb1⟩; obtain ⟨ad, ea, x0⟩ := Kd.at_string HC.out.1 0 (by omega) (by have := HP0.out; omega)
  cases ea
  have hlen : (0 : Int) < (ps.length : Int) := by have := HP0.out; omega
  have hlen' : (0 < ps.length) = True := eq_true HP0.out; obtain ⟨p0, hp0⟩ : ∃ p0, rdOf ByteArray.empty ps 0 = p0 := ⟨_, rfl⟩; rw [hp0] at x0; replace x0 : w1.cell? ad = some (.string p0) := x0; have HB1 := Aside0.mk hb1; have HPP := Aside0.mk hp0; clear hb1 hp0
  by_cases hw0 : p0 = word
  case neg =>
    have hne := str_ne hw0
    go_wp2_with (first | (go_at_call 120; (with_reducible refine (sure_yes _ _).mono ?_); rintro e w' ⟨rfl, rfl⟩) | (go_at_call 120; (with_reducible refine (sure_no _ _).mono ?_); rintro e w' ⟨rfl, rfl⟩))
    exact ⟨rfl, HB1.out, .inl ⟨by unfold toldF; rw [HP.out, if_neg (by rw [HPP.out]; exact hw0)], _, rfl⟩⟩
  case pos =>
    subst hw0; have hne : (p0.toList == p0.toList) = true := by simp
    have HTF : Aside0 (toldF line p0 = numsF (ps.drop 1)) := ⟨by unfold toldF; rw [HP.out, if_pos HPP.out]⟩; have HT : Aside0 (Kd.C Kd.string w1 (if cc = 1 then some ad else (some ad).map (·.add (1 * 1))) (ps.drop 1).length (ps.drop 1)) := ⟨Kd.C_drop HC.out.1 (by have := HP0.out; omega) HC.out.2⟩; generalize hA1 : (if cc = 1 then some ad else (some ad).map (·.add (1 * 1))) = A1 at HT
    have hcut : ∀ W : World, (Instr.slice 158 (.slice (some ad) ps.length cc) (some (.int .i64 1)) none none).run Tryz.prog W = .ok (.slice A1 (ps.drop 1).length (cc - 1)) W := fun W => by
      have := cut_from (P := Tryz.prog) 158 9 .i64 Tryz.underlying158 hi9 1 hz1 (some ad) ps.length cc 1 (by omega) (by have := HP0.out; omega) W; rw [this, ← hA1, List.length_drop]
      rfl
    have HLT : Aside0 (ps.length ≤ 100001) := ⟨by rw [← HP.out]; exact parts_len line 32 hs⟩; obtain ⟨tl, htl⟩ : ∃ tl, ps.drop 1 = tl := ⟨_, rfl⟩; rw [htl] at HT HTF hcut; have HL2 : Aside0 (tl.length ≤ 100000) := ⟨by rw [← htl, List.length_drop]; have := HLT.out; omega⟩; have HQ2 : Aside0 (TabW w ∨ ∀ x ∈ tl, valF x x.size < 100) := ⟨HQ.out.imp id fun h x hx => h x (List.mem_of_mem_drop (htl ▸ hx))⟩; clear hA1 htl hs HQ HLT HP HPP HC HP0 CS
    go_wp2_with (first | (go_at_call 120; (with_reducible refine (sure_yes _ _).mono ?_); rintro e w' ⟨rfl, rfl⟩) | (go_at_call 120; (with_reducible refine (sure_no _ _).mono ?_); rintro e w' ⟨rfl, rfl⟩))
    clear hne x0 hcut hlen hlen'
    go_loopg [6, 24] tl.length (fun kq v6 v24 w' => ∃ (j : Nat) (acc : List Int), v24 = .int .i64 (j : Int) ∧ Aside0 (j + kq = tl.length) ∧ Aside0 (numsF (tl.take j) = some acc ∧ Kd.R (Kd.int .i64) 3 w' w1.heap.size (fun _ => True) v6 acc ∧ Below w1.heap.size w1 w'))
    case atStart => exact ⟨0, [], rfl, ⟨by omega⟩, ⟨rfl, Kd.R_nil _ _ _ _ _, Below.refl _ _⟩⟩
    case round =>
      obtain ⟨j, acc, rfl, HJ, HA⟩ := hrel; obtain ⟨Ao, co, eo⟩ := Kd.R_slice HA.out.2.1; subst eo
      cases gk with
      | zero =>
        have c3 : decide ((j : Int) < (tl.length : Int)) = false := decide_eq_false (by have := HJ.out; omega); have c4 : ¬ (j < tl.length) := by have := HJ.out; omega
        go_wp2; go_ret; have hn : numsF tl = some acc := by have := HA.out.1; rwa [List.take_of_length_le (by omega)] at this
        exact ⟨below_step HB1.out HA.out.2.2, .inr ⟨acc, _, HTF.out.trans hn, rfl, Kd.R_lower HA.out.2.1 HB1.out.size⟩⟩
      | succ k2 =>
        have c3 : decide ((j : Int) < (tl.length : Int)) = true := decide_eq_true (by have := HJ.out; omega); have p1 : (0 : Int) ≤ (j : Int) := by omega
        have p2 : (j : Int) < (tl.length : Int) := by have := HJ.out; omega
        obtain ⟨ad2, ea2, x0⟩ := Kd.at_string HT.out j p1 p2
        cases ea2
        rw [Int.toNat_natCast] at x0; replace x0 := (HA.out.2.2.cell (World.block_lt_of_cell? _ _ x0)).trans x0; obtain ⟨x, hx⟩ : ∃ x, rdOf ByteArray.empty tl (j : Int) = x := ⟨_, rfl⟩; rw [hx] at x0
        have hget : tl[j]? = some x := by
          have hj : j < tl.length := by omega
          rw [List.getElem?_eq_getElem hj, ← hx]; simp [rdOf, List.getD, List.getElem?_eq_getElem hj]
        have HX := Aside0.mk hget; clear hx hget; have q1 := eq_true p1; have q2 := eq_true p2; go_wp2; clear c3 p1 p2 q1 q2 x0; obtain ⟨wo, rfl⟩ : ∃ wo : World, wo = wr := ⟨_, rfl⟩
        go_loopg [9] x.size (fun kq v9 w' => ∃ (pos : Nat) (n : Int), v9 = .int .i64 n ∧ w' = wo.iter x pos ∧ Aside0 (pos + kq = x.size ∧ digsF x pos = true ∧ (0 < pos → x.size ≤ 4) ∧ n = valF x pos))
        case atStart => exact ⟨0, 0, rfl, rfl, ⟨by omega, rfl, fun h => absurd h (by omega), rfl⟩⟩
        case round =>
          obtain ⟨pos, n, rfl, rfl, HI⟩ := hrel
          cases gk with
          | zero =>
            have hps : pos = x.size := by have := HI.out.1; omega
            have hnx := fun ty => run_next_end (P := Tryz.prog) wo x pos ty (by omega); have HXM : Aside0 (x ∈ tl) := ⟨List.mem_of_getElem? HX.out⟩; have HBI : Aside0 (Below wo.heap.size wo (wo.iter x pos)) := ⟨below_iter (Below.refl _ _) _ _⟩; have HRI : Aside0 (Kd.R (Kd.int .i64) 3 (wo.iter x pos) w1.heap.size (fun _ => True) (.slice Ao acc.length co) acc) := ⟨Kd.R_alloc HA.out.2.1 _⟩; obtain ⟨wi, hwi⟩ : ∃ wi, wi = wo.iter x pos := ⟨_, rfl⟩; rw [← hwi] at HBI HRI hnx ⊢; have HWI := Aside0.mk hwi; clear hwi
            by_cases h0 : x.size = 0
            case pos =>
              have hx0 : x.toList = [] := by rw [Lib.toList_data]; exact List.eq_nil_of_length_eq_zero (by rw [← Lib.size_eq]; exact h0)
              have hx1 : (!x.toList.isEmpty) = false := by rw [hx0]; rfl
              go_wp2_with (first | (go_at_call 120; (with_reducible refine (sure_yes _ _).mono ?_); rintro e w' ⟨rfl, rfl⟩) | (go_at_call 120; (with_reducible refine (sure_no _ _).mono ?_); rintro e w' ⟨rfl, rfl⟩))
              exact ⟨rfl, below_step (below_step HB1.out HA.out.2.2) HBI.out, .inl ⟨HTF.out.trans (nums_bad (num_bad_empty h0) HXM.out), _, rfl⟩⟩
            case neg =>
              have hx0 : x.toList.isEmpty = false := by
                rw [Lib.toList_data]
                cases h : x.data.toList with
                | nil => exact absurd (by rw [Lib.size_eq, h]; rfl) h0
                | cons _ _ => rfl
              have hx1 : (!x.toList.isEmpty) = true := by rw [hx0]; rfl
              have hx2 : ¬ (x.toList = []) := by intro h; rw [h] at hx0; cases hx0
              have h4 : x.size ≤ 4 := HI.out.2.2.1 (by omega); have hv := val_small HI.out.2.1 (by omega); rw [← HI.out.2.2.2] at hv
              have HG : Aside0 (Good wi n) := ⟨hv.1, by
                rcases HQ2.out with h | h
                · exact .inr ⟨by omega, h.below (below_step (below_step HB1.out HA.out.2.2) HBI.out)⟩
                · refine .inl ?_; have := h x HXM.out
                  rw [HI.out.2.2.2, hps]; exact this⟩
              by_cases hi : itoaS n = x
              case neg =>
                have hne := str_ne hi; have hne2 := str_ne (fun h => hi h.symm)
                go_wp2_with (first | (go_at_call 120; (with_reducible refine (sure_yes _ _).mono ?_); rintro e w' ⟨rfl, rfl⟩) | (go_at_call 120; (with_reducible refine (sure_no _ _).mono ?_); rintro e w' ⟨rfl, rfl⟩) | (go_at_call 142; refine (itoa_any _ _ HG.out).mono ?_; rintro e w4 ⟨si, rfl, Hsi, hbi⟩; obtain rfl := Hsi.out.1))
                exact ⟨rfl, below_step (below_step (below_step HB1.out HA.out.2.2) HBI.out) hbi, .inl ⟨HTF.out.trans (nums_bad (num_bad_itoa (by rw [← hps, ← HI.out.2.2.2]; exact hi)) HXM.out), _, rfl⟩⟩
              case pos =>
                have hee : ((itoaS n).toList == x.toList) = true := by rw [hi]; simp
                have hee2 : (x.toList == x.toList) = true := by simp
                go_wp2_with (first | (go_at_call 120; (with_reducible refine (sure_yes _ _).mono ?_); rintro e w' ⟨rfl, rfl⟩) | (go_at_call 120; (with_reducible refine (sure_no _ _).mono ?_); rintro e w' ⟨rfl, rfl⟩) | (go_at_call 142; refine (itoa_any _ _ HG.out).mono ?_; rintro e w4 ⟨si, rfl, Hsi, hbi⟩; obtain rfl := Hsi.out.1; replace HRI := Aside0.mk (Kd.R_below HRI.out hbi); have HSZ := Aside0.mk (Nat.le_trans (Nat.le_trans HA.out.2.2.size HBI.out.size) hbi.size)) | ((with_reducible refine gate_builtin (b := .append) (xs := #[.tmp 62, .tmp 64]) rfl ?_); (try (refine gate_guard (by rfl) ?_; dsimp only)); at_builtin; (refine Kd.R_append (Kd.int .i64) (w0 := w4) w1.heap.size rfl (.tmp 62) (.tmp 64) 22 3 (.int .i64 0) 8 rfl Tryz.underlying22 info3 rfl (by decide) (by omega) (.slice Ao acc.length co) acc n [.int .i64 n] (fun _ => True) (fun _ => False) rfl rfl ?aP (fun _ hk => hk.elim) ?aF ?aO ?aB ?aS ?aL ?_); (case aP => exact rfl); (case aB => exact Below.refl _ _); (case aF => exact (fun _ _ => trivial)); (case aO => exact HRI.out); (case aS => exact HSZ.out); (case aL => have hnl := nums_len HA.out.1; have := HL2.out; rw [List.length_take] at hnl; omega); intro vA wA ho hbA hgA hatA))
                go_roundg k2
                case measure => omega
                case rel => exact ⟨j + 1, acc ++ [n], (by rw [IntWalk.wrap64_in _ (by have := HL2.out; have := HJ.out; omega), Int.natCast_add, Int.natCast_one]), ⟨by have := HJ.out; omega⟩, ⟨by rw [List.take_add_one, HX.out]; show numsF (tl.take j ++ [x]) = _; rw [nums_snoc x _ _ HA.out.1, num_good HI.out.2.1 hps h4 h0 (by rw [← HI.out.2.2.2]; exact hi), ← HI.out.2.2.2]; rfl, ho, (below_step (below_step HA.out.2.2 HBI.out) hbi).trans hbA⟩⟩
          | succ k4 =>
            have hps : pos < x.size := by have := HI.out.1; omega
            by_cases hb : (x[pos]'hps).toNat < 128
            case neg =>
              have HBD : Aside0 (isDigB (bt x pos) = false) := ⟨by have : (((x[pos]'hps).toNat : Nat) : Int) = bt x pos := bt_at x (pos : Int) (by simpa using hps); rw [← this]; simp [isDigB]; omega⟩; have hhi := (decode_high x pos hps (by omega)).1; have hnx := fun ty => run_next_any (P := Tryz.prog) wo x pos ty hps; generalize (Utf8.decode x pos).1 = r at hhi hnx; generalize pos + (Utf8.decode x pos).2 = pos2 at hnx; have c1 : ((48 : Int) ≤ (r : Int)) = True := eq_true (by omega); have c2 : ((r : Int) ≤ 57) = False := eq_false (by omega); clear hhi
              go_wp2_with (first | (go_at_call 120; (with_reducible refine (sure_yes _ _).mono ?_); rintro e w' ⟨rfl, rfl⟩) | (go_at_call 120; (with_reducible refine (sure_no _ _).mono ?_); rintro e w' ⟨rfl, rfl⟩))
              exact ⟨rfl, below_iter (below_step HB1.out HA.out.2.2) _ _, .inl ⟨HTF.out.trans (nums_bad (num_bad_digit hps HBD.out) (List.mem_of_getElem? HX.out)), _, rfl⟩⟩
            case pos =>
              have hnx := fun ty => run_next_ascii (P := Tryz.prog) wo x pos ty hps hb; have hbt : (((x[pos]'hps).toNat : Nat) : Int) = bt x pos := bt_at x (pos : Int) (by simpa using hps); rw [hbt] at hnx; obtain ⟨b, hbb⟩ : ∃ b, bt x pos = b := ⟨_, rfl⟩; rw [hbb] at hnx; have HBB := Aside0.mk hbb; have hbr := bt_range x (pos : Int); rw [hbb] at hbr; clear hbt hbb hb
              by_cases hd : 48 ≤ b ∧ b ≤ 57 ∧ x.size ≤ 4
              case pos =>
                obtain ⟨d1, d2, d3⟩ := hd; have HV := Aside0.mk (val_small HI.out.2.1 (by omega)); have n0 : 0 ≤ n := by rw [HI.out.2.2.2]; exact HV.out.1
                have n1 : n ≤ 999 := by rw [HI.out.2.2.2]; exact HV.out.2.2 (by omega)
                have d3' : (x.size : Int) ≤ 4 := by omega
                go_wp2_with (first | (go_at_call 120; (with_reducible refine (sure_yes _ _).mono ?_); rintro e w' ⟨rfl, rfl⟩) | (go_at_call 120; (with_reducible refine (sure_no _ _).mono ?_); rintro e w' ⟨rfl, rfl⟩))
                go_roundg k4
                case measure => omega
                case rel => exact ⟨pos + 1, _, rfl, rfl, ⟨by have := HI.out.1; omega, by rw [digs_succ, HI.out.2.1, HBB.out]; simp [isDigB, d1, d2], fun _ => d3, by rw [HI.out.2.2.2, ← HBB.out]; rfl⟩⟩
              case neg =>
                have hdd : b < 48 ∨ (48 ≤ b ∧ 57 < b) ∨ (48 ≤ b ∧ b ≤ 57 ∧ 4 < x.size) := by omega
                clear hd
                rcases hdd with d1 | ⟨d1, d2⟩ | ⟨d1, d2, d3⟩
                all_goals (try have d3' : ¬ ((x.size : Int) ≤ 4) := by omega)
                all_goals (try have d2' : ¬ (b ≤ 57) := by omega)
                all_goals (try have d1' : ¬ (48 ≤ b) := by omega)
                all_goals
                  go_wp2_with (first | (go_at_call 120; (with_reducible refine (sure_yes _ _).mono ?_); rintro e w' ⟨rfl, rfl⟩) | (go_at_call 120; (with_reducible refine (sure_no _ _).mono ?_); rintro e w' ⟨rfl, rfl⟩))
                  first
                    | exact ⟨rfl, below_iter (below_step HB1.out HA.out.2.2) _ _, .inl ⟨HTF.out.trans (nums_bad (num_bad_digit hps (by rw [HBB.out]; simp [isDigB]; omega)) (List.mem_of_getElem? HX.out)), _, rfl⟩⟩
                    | exact ⟨rfl, below_iter (below_step HB1.out HA.out.2.2) _ _, .inl ⟨HTF.out.trans (nums_bad (num_bad_size d3) (List.mem_of_getElem? HX.out)), _, rfl⟩⟩
end Go.Proofs.YtdmdahafiiggiaaGreatDoor.K
end
section
namespace Go.Proofs.YtdmdahafiiggiaaGreatDoor.K
open Go.RowKit Go.Proofs.YtdmdahafiiggiaaGreatDoorW.PrintWords Go.Proofs.YtdmdahafiiggiaaGreatDoorW.PrintLast Go.Proofs.YtdmdahafiiggiaaGreatDoorW.PrintMore
theorem splitB_size (sep : ByteArray) : ∀ (k : Nat) (s x : ByteArray), x ∈ Lib.splitB sep 0 k s → x.size ≤ s.size
  | 0, s, x, h => by
    simp [Lib.splitB] at h; rw [h]; exact Nat.le_refl _
  | k + 1, s, x, h => by
    unfold Lib.splitB at h
    split at h
    · simp at h; rw [h]; exact Nat.le_refl _
    · rcases List.mem_cons.1 h with rfl | h
      · rw [ByteArray.size_extract]; omega
      · have := splitB_size sep k _ x h; rw [ByteArray.size_extract] at this
        omega
theorem parts_size {s x : ByteArray} {c : UInt8} (h : x ∈ partsF s c) : x.size ≤ s.size := splitB_size _ _ _ _ h
theorem parts_many (s : ByteArray) (c : UInt8) : (partsF s c).length ≤ s.size + 1 := by
  have := Lib.splitB_all ⟨#[c]⟩ (Nat.le_refl 1) 0 _ s rfl; have hle := Lib.countB_le ⟨#[c]⟩ (Nat.le_refl 1) s.size s (Nat.le_refl _); unfold partsF
  omega
theorem num_good_of {w : World} {x : ByteArray} {n : Int} (h : numF x = some n) (hq : TabW w ∨ valF x x.size < 100) : Good w n := by
  unfold numF at h
  split at h
  · rename_i hk
    obtain rfl := Option.some.inj h; simp only [numOk, Bool.and_eq_true, decide_eq_true_eq] at hk; have := val_small hk.1.1.1 hk.1.1.2; exact ⟨this.1, hq.elim (fun ht => .inr ⟨by omega, ht⟩) .inl⟩
  · cases h
theorem nums_good {w : World} : ∀ {l : List ByteArray} {ns : List Int}, numsF l = some ns → (TabW w ∨ ∀ x ∈ l, valF x x.size < 100) → ∀ n ∈ ns, Good w n
  | [], ns, h, _, n, hn => by obtain rfl : [] = ns := Option.some.inj h; cases hn
  | y :: l, ns, h, hq, n, hn => by
    simp only [numsF] at h; obtain ⟨m, hm, h⟩ := Option.bind_eq_some_iff.1 h; obtain ⟨ms, hms, rfl⟩ := Option.map_eq_some_iff.1 h
    rcases List.mem_cons.1 hn with rfl | hn
    · exact num_good_of hm (hq.imp id fun h => h y (List.mem_cons_self ..))
    · exact nums_good hms (hq.imp id fun h x hx => h x (List.mem_cons_of_mem _ hx)) n hn
theorem told_good {w : World} {line word : ByteArray} {ns : List Int} (h : toldF line word = some ns) (hq : TabW w ∨ ∀ x ∈ partsF line 32, valF x x.size < 100) : (∀ n ∈ ns, Good w n) ∧ ns.length ≤ line.size := by
  unfold toldF at h
  split at h
  · refine ⟨nums_good h (hq.imp id fun h x hx => h x (List.mem_of_mem_drop hx)), ?_⟩; rw [nums_len h, List.length_drop]; have := parts_many line 32
    omega
  · cases h
def mkPart (ns : List Int) : S32 := ⟨rd ns 0, rd ns 1, rd ns 2, ⟨rd ns 3, rd ns 4⟩⟩
def strF : List ByteArray → Option (List S32)
  | [] => some []
  | x :: l => (toldF x wStretch).bind fun ns => if ns.length = 5 then (strF l).map fun st => mkPart ns :: st else none
theorem str_snoc (x : ByteArray) : ∀ (l : List ByteArray) (st : List S32), strF l = some st → strF (l ++ [x]) = (toldF x wStretch).bind fun ns => if ns.length = 5 then some (st ++ [mkPart ns]) else none
  | [], st, h => by
    obtain rfl : [] = st := Option.some.inj h
    cases hx : toldF x wStretch with
    | none => simp [strF, hx]
    | some ns => simp [strF, hx]
  | y :: l, st, h => by
    simp only [strF, List.cons_append] at h ⊢; obtain ⟨n, hn, h⟩ := Option.bind_eq_some_iff.1 h
    split at h
    · rename_i h5
      obtain ⟨ms, hm, rfl⟩ := Option.map_eq_some_iff.1 h; rw [hn, str_snoc x l ms hm]
      cases hx : toldF x wStretch with
      | none => simp [h5]
      | some ns => by_cases h6 : ns.length = 5 <;> simp [h5, h6]
    · cases h
theorem str_bad {x : ByteArray} (hx : toldF x wStretch = none ∨ ∃ ns, toldF x wStretch = some ns ∧ ns.length ≠ 5) : ∀ {l : List ByteArray}, x ∈ l → strF l = none
  | y :: l, h => by
    simp only [strF]
    rcases List.mem_cons.1 h with rfl | h
    · rcases hx with hx | ⟨ns, hx, h5⟩
      · rw [hx]; rfl
      · rw [hx]; simp [h5]
    · rw [str_bad hx h]
      cases toldF y wStretch with
      | none => rfl
      | some ns => simp
theorem str_len : ∀ {l : List ByteArray} {st : List S32}, strF l = some st → st.length = l.length
  | [], st, h => by obtain rfl : [] = st := Option.some.inj h; rfl
  | y :: l, st, h => by
    simp only [strF] at h; obtain ⟨n, hn, h⟩ := Option.bind_eq_some_iff.1 h
    split at h
    · obtain ⟨ms, hm, rfl⟩ := Option.map_eq_some_iff.1 h; simp [str_len hm]
    · cases h
theorem str_good {w : World} : ∀ {l : List ByteArray} {st : List S32}, strF l = some st → (TabW w ∨ ∀ y ∈ l, ∀ x ∈ partsF y 32, valF x x.size < 100) → ∀ s ∈ st, ∀ n ∈ partN s, Good w n
  | [], st, h, _, s, hs => by obtain rfl : [] = st := Option.some.inj h; cases hs
  | y :: l, st, h, hq, s, hs => by
    simp only [strF] at h; obtain ⟨ns, hn, h⟩ := Option.bind_eq_some_iff.1 h
    split at h
    · rename_i h5
      obtain ⟨ms, hm, rfl⟩ := Option.map_eq_some_iff.1 h
      rcases List.mem_cons.1 hs with rfl | hs
      · have := (told_good hn (hq.imp id fun h => h y (List.mem_cons_self ..))).1
        obtain ⟨a, b, c, d, e, rfl⟩ : ∃ a b c d e, ns = [a, b, c, d, e] := by
          match ns, h5 with
          | [a, b, c, d, e], _ => exact ⟨a, b, c, d, e, rfl⟩
        exact this
      · exact str_good hm (hq.imp id fun h z hz => h z (List.mem_cons_of_mem _ hz)) s hs
    · cases h
def parsedF (s : ByteArray) : Option (List Int × List S32) :=
  if 3 ≤ (partsF s 10).length then (toldF (rdOf ByteArray.empty (partsF s 10) 0) wSpeeds).bind fun sp => (strF (((partsF s 10).take ((partsF s 10).length - 2)).drop 1)).bind fun st => if textF sp st = s then some (sp, st) else none
  else none
def ParsedPost (s : ByteArray) (w : World) (e : Ending) (w' : World) : Prop :=
  Below w.heap.size w w' ∧ ((parsedF s = none ∧ gaveUp e) ∨ ∃ sp st A0 c0 A1 c1, parsedF s = some (sp, st) ∧ e = .returned (.agg #[.slice A0 (List.length sp) c0, .slice A1 (List.length st) c1]) ∧ Kd.R (Kd.int .i64) 3 w' w.heap.size (fun _ => True) (.slice A0 sp.length c0) sp ∧ Kd.R k32 32 w' w.heap.size (fun _ => True) (.slice A1 st.length c1) st)
theorem R_set {α : Type} {d : Kd α} {e base : Nat} {W : World} {v : Value} {xs : List α} (h : d.R e W base (fun _ => True) v xs) {p : Addr} (hp : p.block < base) (u : Value) : d.R e (W.setCell p u) base (fun _ => True) v xs :=
  Kd.R_mono (Kd.R_step (Kd.R_bound h) (fun k hk _ => Below.heap_setCell _ _ _ _ (by have := hk.2.1; omega))) (fun _ _ => trivial)
set_option maxRecDepth 100000 in
set_option maxHeartbeats 2000000 in
theorem parsed_any (s : ByteArray) (w : World) (hs : s.size ≤ 300) (hq : TabW w ∨ ∀ y ∈ partsF s 10, ∀ x ∈ partsF y 32, valF x x.size < 100) :
    Calls Tryz.prog 97 #[.string s] w (ParsedPost s w) := by
  have hu1 := Tryz.underlying25; have hu2 := Tryz.underlying32; have hu3 := Tryz.underlying30; obtain ⟨ls, hls⟩ : ∃ ls, partsF s 10 = ls := ⟨_, rfl⟩; have CS : Aside0 (∀ W, Calls Tryz.prog 119 #[.string s, .string ⟨#[10]⟩] W fun e w' => ∃ A cc, e = .returned (.slice A ls.length cc) ∧ Aside0 (Kd.C Kd.string w' A ls.length ls ∧ ls.length ≤ cc) ∧ Below W.heap.size W w') := ⟨fun W => by have := split_one s 10 W (by omega); rwa [hls] at this⟩; have CT : Aside0 (∀ W x word, Below w.heap.size w W → x ∈ ls → Calls Tryz.prog 121 #[.string x, .string word] W (ToldPost x word W)) := ⟨fun W x word hb hx => told_any x word W (by have := parts_size (c := 10) (s := s) (x := x) (hls ▸ hx); omega) (hq.imp (fun h => h.below hb) fun h => h x (hls ▸ hx))⟩; obtain ⟨i9, hi9, hz0, hz1, hz2⟩ := info_parts infoStr; have HLM : Aside0 (ls.length ≤ 301) := ⟨by have := parts_many s 10; rw [hls] at this; omega⟩; have HQ : Aside0 (TabW w ∨ ∀ y ∈ ls, ∀ x ∈ partsF y 32, valF x x.size < 100) := ⟨hls ▸ hq⟩; have HSS : Aside0 (∀ x ∈ ls, x.size ≤ 300) := ⟨fun x hx => Nat.le_trans (parts_size (c := 10) (hls ▸ hx)) hs⟩; have HP := Aside0.mk hls; have HS := Aside0.mk hs; clear hls hq hs
  go_enter Tryz.func97, Tryz.ntmps97
  go_wp2_with fail
  generalize hW0 : World.alloc w _ = w0; have HB0 : Aside0 (Below w.heap.size w w0 ∧ w.heap.size < w0.heap.size) := ⟨by rw [← hW0]; exact ⟨(Below.refl _ _).alloc (Nat.le_refl _) _, by simp⟩⟩; have HR0 : Aside0 (w0.heap[w.heap.size]? = some (.cells #[.slice none 0 0, .slice none 0 0] 25 (0, 0))) := ⟨by rw [← hW0]; exact blk_new _ _⟩; clear hW0; refine (CS.out _).mono ?_; rintro e w1 ⟨A, cc, rfl, HC, hb1⟩; have HB1 := Aside0.mk (below_step HB0.out.1 hb1); have HR1 := Aside0.mk (blk_below HR0.out hb1); clear HR0 hb1
  by_cases h3 : 3 ≤ ls.length
  case neg =>
    have c0 : decide ((3 : Int) ≤ (ls.length : Int)) = false := decide_eq_false (by omega)
    go_wp2_with (first | (go_at_call 120; (with_reducible refine (sure_yes _ _).mono ?_); rintro e w' ⟨rfl, rfl⟩) | (go_at_call 120; (with_reducible refine (sure_no _ _).mono ?_); rintro e w' ⟨rfl, rfl⟩))
    exact ⟨rfl, HB1.out, .inl ⟨by unfold parsedF; rw [HP.out, if_neg h3], _, rfl⟩⟩
  case pos =>
  have c0 : decide ((3 : Int) ≤ (ls.length : Int)) = true := decide_eq_true (by omega); have c0' : (0 : Int) < (ls.length : Int) := by omega
  have c1 : (0 < ls.length) = True := eq_true (by omega); obtain ⟨ad, ea, x0⟩ := Kd.at_string HC.out.1 0 (by omega) (by omega)
  cases ea
  obtain ⟨p0, hp0⟩ : ∃ p0, rdOf ByteArray.empty ls 0 = p0 := ⟨_, rfl⟩; rw [hp0] at x0; replace x0 : w1.cell? ad = some (.string p0) := x0
  have HM0 : Aside0 (p0 ∈ ls) := ⟨by
    rw [← hp0]
    simp [rdOf, List.getD, List.getElem?_eq_getElem (show 0 < ls.length by omega)]⟩
  have HPP := Aside0.mk hp0; clear hp0
  go_wp2_with (first | (go_at_call 120; (with_reducible refine (sure_yes _ _).mono ?_); rintro e w' ⟨rfl, rfl⟩) | (go_at_call 120; (with_reducible refine (sure_no _ _).mono ?_); rintro e w' ⟨rfl, rfl⟩))
  refine (CT.out w1 p0 _ HB1.out HM0.out).mono ?_; rintro e w2 ⟨hb2, ⟨hn, why, rfl⟩ | ⟨sp, v, hsp, rfl, hRs⟩⟩
  · go_wp2; exact ⟨rfl, below_step HB1.out hb2, .inl ⟨by unfold parsedF; rw [HP.out, if_pos h3, HPP.out]; show (toldF p0 wSpeeds).bind _ = none; rw [show toldF p0 wSpeeds = none from hn]; rfl, _, rfl⟩⟩
  replace hsp : toldF p0 wSpeeds = some sp := hsp; obtain ⟨A0, cs0, es⟩ := Kd.R_slice hRs; subst es; have HC2 := Aside0.mk (Kd.C_below HC.out.1 hb2); have HCC := Aside0.mk HC.out.2; have HR2 := Aside0.mk (blk_below HR1.out hb2); have HB2 := Aside0.mk (below_step HB1.out hb2); have HRS := Aside0.mk hRs; have HW1 : Aside0 (w.heap.size < w1.heap.size) := ⟨by have := HB0.out.2; have := HB1.out.size; have := blk_lt HR1.out; omega⟩; have HW12 : Aside0 (w1.heap.size ≤ w2.heap.size) := ⟨hb2.size⟩; have HSP := Aside0.mk hsp; have HPF : Aside0 (parsedF s = (strF ((ls.take (ls.length - 2)).drop 1)).bind fun st => if textF sp st = s then some (sp, st) else none) := ⟨by unfold parsedF; rw [HP.out, if_pos h3, HPP.out, hsp]; rfl⟩; have HT : Aside0 (Kd.C Kd.string w2 (if cc = 1 then some ad else (some ad).map (·.add (1 * 1))) ((ls.take (ls.length - 2)).drop 1).length ((ls.take (ls.length - 2)).drop 1)) := ⟨Kd.C_mid HC2.out (by omega) (by omega) HCC.out⟩; have htlen : ((ls.take (ls.length - 2)).drop 1).length = ls.length - 2 - 1 := by rw [List.length_drop, List.length_take]; omega
  generalize hA1 : (if cc = 1 then some ad else (some ad).map (·.add (1 * 1))) = A1 at HT; obtain ⟨tl, htl⟩ : ∃ tl, (ls.take (ls.length - 2)).drop 1 = tl := ⟨_, rfl⟩; have hw2 : wrap64 ((ls.length : Int) - 2) = (ls.length : Int) - 2 := IntWalk.wrap64_in _ (by have := HLM.out; omega)
  have hcut : ∀ W : World, (Instr.slice 158 (.slice (some ad) ls.length cc) (some (.int .i64 1)) (some (.int .i64 ((ls.length : Int) - 2))) none).run Tryz.prog W = .ok (.slice A1 tl.length (cc - 1)) W := fun W => by
    have := cut_mid (P := Tryz.prog) 158 9 .i64 .i64 Tryz.underlying158 hi9 1 hz1 (some ad) ls.length cc 1 ((ls.length : Int) - 2) (by omega) (by omega) (by omega) HCC.out W; rw [this, ← hA1, ← htl, htlen]
    congr 2
    omega
  rw [htl] at HT HPF; have HTM : Aside0 ((∀ x ∈ tl, x ∈ ls) ∧ tl.length ≤ 300) := ⟨by rw [← htl]; exact ⟨fun x hx => List.mem_of_mem_take (List.mem_of_mem_drop hx), by rw [htlen]; have := HLM.out; omega⟩⟩; have HL3 := Aside0.mk h3; have HW2 := Aside0.mk hw2; clear hw2 hA1 htl htlen h3 c0 c1 hsp hRs hb2 x0
  go_upto_region 4 with (fail)
  generalize hWL : World.alloc w2 _ = wL; have HBK : Aside0 (wL.heap[w2.heap.size]? = some (.cells #[.slice A0 sp.length cs0, .slice none 0 0] 25 (0, 0))) := ⟨by rw [← hWL]; exact blk_new _ _⟩; have HBL : Aside0 (Below w2.heap.size w2 wL) := ⟨by rw [← hWL]; exact (Below.refl _ _).alloc (Nat.le_refl _) _⟩; clear hWL; have hw2 := HW2.out; go_wp2; clear hw2 hcut
  go_loopg [26] tl.length (fun kq v26 w' => ∃ (j : Nat) (st : List S32) (v1 : Value), v26 = .int .i64 (j : Int) ∧ Aside0 (j + kq = tl.length) ∧ Aside0 (strF (tl.take j) = some st ∧ Kd.R k32 32 w' (w2.heap.size + 1) (fun _ => True) v1 st) ∧ Aside0 (Below w2.heap.size w2 w' ∧ w'.heap[w2.heap.size]? = some (.cells #[.slice A0 sp.length cs0, v1] 25 (0, 0))))
  case atStart => exact ⟨0, [], _, rfl, ⟨by omega⟩, ⟨rfl, Kd.R_nil _ _ _ _ _⟩, ⟨HBL.out, HBK.out⟩⟩
  case round =>
    obtain ⟨j, st, v1, rfl, HJ, HA, HW⟩ := hrel; obtain ⟨A1o, c1o, eo⟩ := Kd.R_slice HA.out.2; subst eo
    cases gk with
    | zero =>
      have c3 : decide ((j : Int) < (tl.length : Int)) = false := decide_eq_false (by have := HJ.out; omega); have c4 : ¬ (j < tl.length) := by have := HJ.out; omega
      have HST : Aside0 (strF tl = some st) := ⟨by have := HA.out.1; rwa [List.take_of_length_le (by have := HJ.out; omega)] at this⟩; have HBw : Aside0 (Below w.heap.size w wr) := ⟨below_then HB2.out HB2.out.size HW.out.1⟩; have HRSw := Aside0.mk (Kd.R_below HRS.out HW.out.1)
      have HTX : Aside0 (Calls Tryz.prog 122 #[.agg #[.slice A0 sp.length cs0, .slice A1o st.length c1o]] wr fun e w' => e = .returned (.string (textF sp st)) ∧ Below wr.heap.size wr w') := ⟨by
        obtain ⟨_, _, e0, hl0, hC0⟩ := Kd.R_reads HRSw.out
        cases e0
        obtain ⟨_, _, e1, hl1, hC1⟩ := Kd.R_reads HA.out.2
        cases e1
        have g0 := told_good HSP.out (HQ.out.imp id fun h => h p0 HM0.out); have g1 := str_good HST.out (HQ.out.imp id fun h y hy => h y (HTM.out.1 y hy))
        exact text_any A0 A1o cs0 c1o sp st wr hC0 hl0 hC1 hl1 (by have := g0.2; have := HSS.out p0 HM0.out; omega) (by have := str_len HST.out; have := HTM.out.2; omega) (fun x hx => (g0.1 x hx).below HBw.out) (fun s hs x hx => (g1 s hs x hx).below HBw.out)⟩
      have x0 : wr.cell? ⟨w2.heap.size, 0, none⟩ = some (.slice A0 sp.length cs0) := (blk_cell HW.out.2 0).trans rfl; have x1 : wr.cell? ⟨w2.heap.size, 1, none⟩ = some (.slice A1o st.length c1o) := (blk_cell HW.out.2 1).trans rfl; have HRB := Aside0.mk (blk_below HR2.out HW.out.1)
      go_wp2_with (fail)
      refine HTX.out.mono ?_; rintro e w5 ⟨rfl, hb5⟩; have HB5 := Aside0.mk hb5; have HBK5 := Aside0.mk (blk_below HW.out.2 hb5); have HRB5 := Aside0.mk (blk_below HRB.out hb5); clear hb5 x0 x1
      by_cases hq : textF sp st = s
      case neg =>
        have hne := str_ne hq; have HQN := Aside0.mk hq; clear hq
        go_wp2_with (first | (go_at_call 120; (with_reducible refine (sure_yes _ _).mono ?_); rintro e w' ⟨rfl, rfl⟩) | (go_at_call 120; (with_reducible refine (sure_no _ _).mono ?_); rintro e w' ⟨rfl, rfl⟩))
        exact ⟨rfl, below_step HBw.out HB5.out, .inl ⟨HPF.out.trans (by rw [HST.out]; show (if textF sp st = s then _ else _) = _; rw [if_neg HQN.out]), _, rfl⟩⟩
      case pos =>
        have hee : ((textF sp st).toList == s.toList) = true := by rw [hq]; simp
        have HQN := Aside0.mk hq; clear hq; have x0 : w5.cell? ⟨w2.heap.size, 0, none⟩ = some (.slice A0 sp.length cs0) := (blk_cell HBK5.out 0).trans rfl; have x1 : w5.cell? ⟨w2.heap.size, 1, none⟩ = some (.slice A1o st.length c1o) := (blk_cell HBK5.out 1).trans rfl; have y0 : w5.cell? ⟨w.heap.size, 0, none⟩ = some (.slice none 0 0) := (blk_cell HRB5.out 0).trans rfl; have y1 : w5.cell? ⟨w.heap.size, 1, none⟩ = some (.slice none 0 0) := (blk_cell HRB5.out 1).trans rfl; have f0 : w5.frozen? ⟨w.heap.size, 0, none⟩ = false := blk_frozen HRB5.out 0; have f1 : w5.frozen? ⟨w.heap.size, 1, none⟩ = false := blk_frozen HRB5.out 1
        go_wp2_with (first | (go_at_call 120; (with_reducible refine (sure_yes _ _).mono ?_); rintro e w' ⟨rfl, rfl⟩) | (go_at_call 120; (with_reducible refine (sure_no _ _).mono ?_); rintro e w' ⟨rfl, rfl⟩))
        refine bodyPost_ret (v := .agg #[.slice A0 sp.length cs0, .slice A1o st.length c1o]) (by simp [results, Tryz.results97, go_sem, *]) rfl ?_; have hRs := Kd.R_below HRSw.out HB5.out; have hRt := Kd.R_below HA.out.2 HB5.out; have hlt := HW1.out; have hlt2 := HW12.out; refine ⟨?_, .inr ⟨sp, st, A0, cs0, A1o, c1o, HPF.out.trans (by rw [HST.out]; show (if textF sp st = s then _ else _) = _; rw [if_pos HQN.out]), rfl, ?_, ?_⟩⟩
        · exact ((below_step HBw.out HB5.out).setCell (Nat.le_refl _) _).setCell (Nat.le_refl _) _
        · exact Kd.R_lower (R_set (R_set hRs (by exact hlt) _) (by exact hlt) _) (by omega)
        · exact Kd.R_lower (R_set (R_set hRt (by simp; omega) _) (by simp; omega) _) (by omega)
    | succ k2 =>
      have c3 : decide ((j : Int) < (tl.length : Int)) = true := decide_eq_true (by have := HJ.out; omega); have p1 : (0 : Int) ≤ (j : Int) := by omega
      have p2 : (j : Int) < (tl.length : Int) := by have := HJ.out; omega
      obtain ⟨ad2, ea2, x0⟩ := Kd.at_string HT.out j p1 p2
      cases ea2
      rw [Int.toNat_natCast] at x0; replace x0 := (HW.out.1.cell (World.block_lt_of_cell? _ _ x0)).trans x0; obtain ⟨x, hx⟩ : ∃ x, rdOf ByteArray.empty tl (j : Int) = x := ⟨_, rfl⟩; rw [hx] at x0
      have hget : tl[j]? = some x := by
        have hj : j < tl.length := by omega
        rw [List.getElem?_eq_getElem hj, ← hx]; simp [rdOf, List.getD, List.getElem?_eq_getElem hj]
      have HX := Aside0.mk hget; have HXL : Aside0 (x ∈ ls) := ⟨HTM.out.1 x (List.mem_of_getElem? hget)⟩; clear hx hget; have q1 := eq_true p1; have q2 := eq_true p2; have HBw : Aside0 (Below w.heap.size w wr) := ⟨below_then HB2.out HB2.out.size HW.out.1⟩
      go_wp2_with (fail)
      clear x0; refine (CT.out wr x _ HBw.out HXL.out).mono ?_; rintro e w3 ⟨hb3, ⟨hn, why, rfl⟩ | ⟨ns, v, hns, rfl, hRn⟩⟩
      · go_wp2; exact ⟨rfl, below_step HBw.out hb3, .inl ⟨HPF.out.trans (by rw [str_bad (.inl hn) (List.mem_of_getElem? HX.out)]; rfl), _, rfl⟩⟩
      obtain ⟨An, cn, hen, hln, hCn⟩ := Kd.R_reads hRn; subst hen; replace hns : toldF x wStretch = some ns := hns; have HNS := Aside0.mk hns; have HB3 := Aside0.mk hb3; have HCN := Aside0.mk hCn; clear hns hb3 hCn hRn
      by_cases h5 : ns.length = 5
      case neg =>
        have c5 : ((ns.length : Int) == 5) = false := by rw [beq_eq_false_iff_ne]; omega
        have c6 : decide ((ns.length : Int) = 5) = false := decide_eq_false (by omega); have c7 : (ns.length == 5) = false := by rw [beq_eq_false_iff_ne]; omega
        have H5 := Aside0.mk h5; clear h5
        go_wp2_with (first | (go_at_call 120; (with_reducible refine (sure_yes _ _).mono ?_); rintro e w' ⟨rfl, rfl⟩) | (go_at_call 120; (with_reducible refine (sure_no _ _).mono ?_); rintro e w' ⟨rfl, rfl⟩))
        exact ⟨rfl, below_step HBw.out HB3.out, .inl ⟨HPF.out.trans (by rw [str_bad (.inr ⟨ns, HNS.out, H5.out⟩) (List.mem_of_getElem? HX.out)]; rfl), _, rfl⟩⟩
      case pos =>
        obtain ⟨n0, n1, n2, n3, n4, rfl⟩ : ∃ a b c d e, ns = [a, b, c, d, e] := by
          match ns, h5 with
          | [a, b, c, d, e], _ => exact ⟨a, b, c, d, e, rfl⟩
        clear h5; obtain ⟨an, ea, y0⟩ := Kd.at_int HCN.out 0 (by omega) (by simp)
        cases ea
        obtain ⟨_, ea, y1⟩ := Kd.at_int HCN.out 1 (by omega) (by simp)
        cases ea
        obtain ⟨_, ea, y2⟩ := Kd.at_int HCN.out 2 (by omega) (by simp)
        cases ea
        obtain ⟨_, ea, y3⟩ := Kd.at_int HCN.out 3 (by omega) (by simp)
        cases ea
        obtain ⟨_, ea, y4⟩ := Kd.at_int HCN.out 4 (by omega) (by simp)
        cases ea
        replace y0 : w3.cell? an = some (.int .i64 n0) := y0; replace y1 : w3.cell? ⟨an.block, an.off + 1, none⟩ = some (.int .i64 n1) := y1; replace y2 : w3.cell? ⟨an.block, an.off + 2, none⟩ = some (.int .i64 n2) := y2; replace y3 : w3.cell? ⟨an.block, an.off + 3, none⟩ = some (.int .i64 n3) := y3; replace y4 : w3.cell? ⟨an.block, an.off + 4, none⟩ = some (.int .i64 n4) := y4; have HBK3 := Aside0.mk (blk_below HW.out.2 HB3.out); have y5 : w3.cell? ⟨w2.heap.size, 1, none⟩ = some (.slice A1o st.length c1o) := (blk_cell HBK3.out 1).trans rfl
        go_upto_region 9 with (first | (go_at_call 120; (with_reducible refine (sure_yes _ _).mono ?_); rintro e w' ⟨rfl, rfl⟩) | (go_at_call 120; (with_reducible refine (sure_no _ _).mono ?_); rintro e w' ⟨rfl, rfl⟩))
        have HRD := Aside0.mk (Kd.R_below HA.out.2 HB3.out); have HB2D := Aside0.mk (below_then HW.out.1 HW.out.1.size HB3.out); have HLT := Aside0.mk (Nat.lt_of_lt_of_le (blk_lt HW.out.2) HB3.out.size); refine start_ (n := 23) (S := fun w' => w'.cell? ⟨w2.heap.size, 1, none⟩ = some (.slice A1o st.length c1o) ∧ w'.cell? an = some (.int .i64 n0) ∧ w'.cell? ⟨an.block, an.off + 1, none⟩ = some (.int .i64 n1) ∧ w'.cell? ⟨an.block, an.off + 2, none⟩ = some (.int .i64 n2) ∧ w'.cell? ⟨an.block, an.off + 3, none⟩ = some (.int .i64 n3) ∧ w'.cell? ⟨an.block, an.off + 4, none⟩ = some (.int .i64 n4)) (ds := [20, 22]) #[false, false, false, false, false, false, false, false, false, false, false, false, false, false, false, false, false, false, false, false, false, false, false] (by kernel_rfl) rfl rfl ⟨y5, y0, y1, y2, y3, y4⟩ (fun hHeld => ?_); have HDR : Aside0 (Below w3.heap.size w3 w3.drew) := ⟨below_drew1 (Below.refl _ _)⟩; generalize w3.drew = wd at HDR hHeld ⊢; have HBKD := Aside0.mk (blk_below HBK3.out HDR.out); replace HRD := Aside0.mk (Kd.R_below HRD.out HDR.out); replace HB2D := Aside0.mk (below_then HB2D.out HB2D.out.size HDR.out); have hBLs : w2.heap.size < wd.heap.size := blk_lt HBKD.out; clear y0 y1 y2 y3 y4 y5; refine pure_ (i := 0) (N := (some 37)) (v := ?_) (a' := ?_) #[true, false, false, false, false, false, false, false, false, false, false, false, false, false, false, false, false, false, false, false, false, false, false] rfl rfl (by kernel_rfl) (fun _ _ _ h => h) (Or.inl ⟨by rfl, ?_⟩) ?_ ?_; rotate_left
        · intro w'
          go_simp
          with_reducible rfl
        rotate_left
        · simp only [Act.put, List.setIfInBounds_toArray, List.set_cons_zero, List.set_cons_succ, i64_w, i32_w]
          rfl
        refine pure_ (i := 2) (N := (some 39)) (v := ?_) (a' := ?_) #[true, false, true, false, false, false, false, false, false, false, false, false, false, false, false, false, false, false, false, false, false, false, false] rfl rfl (by kernel_rfl) (fun _ _ _ h => h) (Or.inl ⟨by rfl, ?_⟩) ?_ ?_; rotate_left
        · intro w'
          go_simp
          with_reducible rfl
        rotate_left
        · simp only [Act.put, List.setIfInBounds_toArray, List.set_cons_zero, List.set_cons_succ, i64_w, i32_w]
          rfl
        refine pure_ (i := 5) (N := (some 42)) (v := ?_) (a' := ?_) #[true, false, true, false, false, true, false, false, false, false, false, false, false, false, false, false, false, false, false, false, false, false, false] rfl rfl (by kernel_rfl) (fun _ _ _ h => h) (Or.inl ⟨by rfl, ?_⟩) ?_ ?_; rotate_left
        · intro w'
          go_simp
          with_reducible rfl
        rotate_left
        · simp only [Act.put, List.setIfInBounds_toArray, List.set_cons_zero, List.set_cons_succ, i64_w, i32_w]
          rfl
        refine pure_ (i := 8) (N := (some 45)) (v := ?_) (a' := ?_) #[true, false, true, false, false, true, false, false, true, false, false, false, false, false, false, false, false, false, false, false, false, false, false] rfl rfl (by kernel_rfl) (fun _ _ _ h => h) (Or.inl ⟨by rfl, ?_⟩) ?_ ?_; rotate_left
        · intro w'
          go_simp
          with_reducible rfl
        rotate_left
        · simp only [Act.put, List.setIfInBounds_toArray, List.set_cons_zero, List.set_cons_succ, i64_w, i32_w]
          rfl
        refine pure_ (i := 11) (N := (some 48)) (v := ?_) (a' := ?_) #[true, false, true, false, false, true, false, false, true, false, false, true, false, false, false, false, false, false, false, false, false, false, false] rfl rfl (by kernel_rfl) (fun _ _ _ h => h) (Or.inl ⟨by rfl, ?_⟩) ?_ ?_; rotate_left
        · intro w'
          go_simp
          with_reducible rfl
        rotate_left
        · simp only [Act.put, List.setIfInBounds_toArray, List.set_cons_zero, List.set_cons_succ, i64_w, i32_w]
          rfl
        refine pure_ (i := 14) (N := (some 51)) (v := ?_) (a' := ?_) #[true, false, true, false, false, true, false, false, true, false, false, true, false, false, true, false, false, false, false, false, false, false, false] rfl rfl (by kernel_rfl) (fun _ _ _ h => h) (Or.inl ⟨by rfl, ?_⟩) ?_ ?_; rotate_left
        · intro w'
          go_simp
          with_reducible rfl
        rotate_left
        · simp only [Act.put, List.setIfInBounds_toArray, List.set_cons_zero, List.set_cons_succ, i64_w, i32_w]
          rfl
        refine pure_ (i := 3) (N := (some 40)) (v := ?_) (a' := ?_) #[true, false, true, true, false, true, false, false, true, false, false, true, false, false, true, false, false, false, false, false, false, false, false] rfl rfl (by kernel_rfl) (fun _ _ _ h => h) (Or.inl ⟨by rfl, ?_⟩) ?_ ?_; rotate_left
        · intro w'
          go_simp
          with_reducible rfl
        rotate_left
        · simp only [Act.put, List.setIfInBounds_toArray, List.set_cons_zero, List.set_cons_succ, i64_w, i32_w]
          rfl
        refine pure_ (i := 6) (N := (some 43)) (v := ?_) (a' := ?_) #[true, false, true, true, false, true, true, false, true, false, false, true, false, false, true, false, false, false, false, false, false, false, false] rfl rfl (by kernel_rfl) (fun _ _ _ h => h) (Or.inl ⟨by rfl, ?_⟩) ?_ ?_; rotate_left
        · intro w'
          go_simp
          with_reducible rfl
        rotate_left
        · simp only [Act.put, List.setIfInBounds_toArray, List.set_cons_zero, List.set_cons_succ, i64_w, i32_w]
          rfl
        refine pure_ (i := 9) (N := (some 46)) (v := ?_) (a' := ?_) #[true, false, true, true, false, true, true, false, true, true, false, true, false, false, true, false, false, false, false, false, false, false, false] rfl rfl (by kernel_rfl) (fun _ _ _ h => h) (Or.inl ⟨by rfl, ?_⟩) ?_ ?_; rotate_left
        · intro w'
          go_simp
          with_reducible rfl
        rotate_left
        · simp only [Act.put, List.setIfInBounds_toArray, List.set_cons_zero, List.set_cons_succ, i64_w, i32_w]
          rfl
        refine pure_ (i := 12) (N := (some 49)) (v := ?_) (a' := ?_) #[true, false, true, true, false, true, true, false, true, true, false, true, true, false, true, false, false, false, false, false, false, false, false] rfl rfl (by kernel_rfl) (fun _ _ _ h => h) (Or.inl ⟨by rfl, ?_⟩) ?_ ?_; rotate_left
        · intro w'
          go_simp
          with_reducible rfl
        rotate_left
        · simp only [Act.put, List.setIfInBounds_toArray, List.set_cons_zero, List.set_cons_succ, i64_w, i32_w]
          rfl
        refine pure_ (i := 15) (N := (some 52)) (v := ?_) (a' := ?_) #[true, false, true, true, false, true, true, false, true, true, false, true, true, false, true, true, false, false, false, false, false, false, false] rfl rfl (by kernel_rfl) (fun _ _ _ h => h) (Or.inl ⟨by rfl, ?_⟩) ?_ ?_; rotate_left
        · intro w'
          go_simp
          with_reducible rfl
        rotate_left
        · simp only [Act.put, List.setIfInBounds_toArray, List.set_cons_zero, List.set_cons_succ, i64_w, i32_w]
          rfl
        refine take_ (i := 1) (N := (some 38)) (v := ?_) (a' := ?_) #[true, true, true, true, false, true, true, false, true, true, false, true, true, false, true, true, false, false, false, false, false, false, false] rfl rfl (by kernel_rfl) (fun _ _ _ h => h) (Or.inl ⟨by rfl, ?_⟩) hHeld ?_ ?_; rotate_left
        · rintro w' ⟨s0, s1, s2, s3, s4, s5⟩
          go_simp
          with_reducible rfl
        rotate_left
        · simp only [Act.put, List.setIfInBounds_toArray, List.set_cons_zero, List.set_cons_succ, i64_w, i32_w]
          rfl
        refine take_ (i := 4) (N := (some 41)) (v := ?_) (a' := ?_) #[true, true, true, true, true, true, true, false, true, true, false, true, true, false, true, true, false, false, false, false, false, false, false] rfl rfl (by kernel_rfl) (fun _ _ _ h => h) (Or.inl ⟨by rfl, ?_⟩) hHeld ?_ ?_; rotate_left
        · rintro w' ⟨s0, s1, s2, s3, s4, s5⟩
          go_simp
          with_reducible rfl
        rotate_left
        · simp only [Act.put, List.setIfInBounds_toArray, List.set_cons_zero, List.set_cons_succ, i64_w, i32_w]
          rfl
        refine take_ (i := 7) (N := (some 44)) (v := ?_) (a' := ?_) #[true, true, true, true, true, true, true, true, true, true, false, true, true, false, true, true, false, false, false, false, false, false, false] rfl rfl (by kernel_rfl) (fun _ _ _ h => h) (Or.inl ⟨by rfl, ?_⟩) hHeld ?_ ?_; rotate_left
        · rintro w' ⟨s0, s1, s2, s3, s4, s5⟩
          go_simp
          with_reducible rfl
        rotate_left
        · simp only [Act.put, List.setIfInBounds_toArray, List.set_cons_zero, List.set_cons_succ, i64_w, i32_w]
          rfl
        refine take_ (i := 10) (N := (some 47)) (v := ?_) (a' := ?_) #[true, true, true, true, true, true, true, true, true, true, true, true, true, false, true, true, false, false, false, false, false, false, false] rfl rfl (by kernel_rfl) (fun _ _ _ h => h) (Or.inl ⟨by rfl, ?_⟩) hHeld ?_ ?_; rotate_left
        · rintro w' ⟨s0, s1, s2, s3, s4, s5⟩
          go_simp
          with_reducible rfl
        rotate_left
        · simp only [Act.put, List.setIfInBounds_toArray, List.set_cons_zero, List.set_cons_succ, i64_w, i32_w]
          rfl
        refine take_ (i := 13) (N := (some 50)) (v := ?_) (a' := ?_) #[true, true, true, true, true, true, true, true, true, true, true, true, true, true, true, true, false, false, false, false, false, false, false] rfl rfl (by kernel_rfl) (fun _ _ _ h => h) (Or.inl ⟨by rfl, ?_⟩) hHeld ?_ ?_; rotate_left
        · rintro w' ⟨s0, s1, s2, s3, s4, s5⟩
          go_simp
          with_reducible rfl
        rotate_left
        · simp only [Act.put, List.setIfInBounds_toArray, List.set_cons_zero, List.set_cons_succ, i64_w, i32_w]
          rfl
        refine take_ (i := 16) (N := (some 53)) (v := ?_) (a' := ?_) #[true, true, true, true, true, true, true, true, true, true, true, true, true, true, true, true, true, false, false, false, false, false, false] rfl rfl (by kernel_rfl) (fun _ _ _ h => h) (Or.inl ⟨by rfl, ?_⟩) hHeld ?_ ?_; rotate_left
        · rintro w' ⟨s0, s1, s2, s3, s4, s5⟩
          go_simp
          with_reducible rfl
        rotate_left
        · simp only [Act.put, List.setIfInBounds_toArray, List.set_cons_zero, List.set_cons_succ, i64_w, i32_w]
          rfl
        refine pure_ (i := 17) (N := (some 54)) (v := ?_) (a' := ?_) #[true, true, true, true, true, true, true, true, true, true, true, true, true, true, true, true, true, true, false, false, false, false, false] rfl rfl (by kernel_rfl) (fun _ _ _ h => h) (Or.inl ⟨by rfl, ?_⟩) ?_ ?_; rotate_left
        · intro w'
          go_simp
          with_reducible rfl
        rotate_left
        · simp only [Act.put, List.setIfInBounds_toArray, List.set_cons_zero, List.set_cons_succ, i64_w, i32_w]
          rfl
        refine pure_ (i := 18) (N := (some 55)) (v := ?_) (a' := ?_) #[true, true, true, true, true, true, true, true, true, true, true, true, true, true, true, true, true, true, true, false, false, false, false] rfl rfl (by kernel_rfl) (fun _ _ _ h => h) (Or.inl ⟨by rfl, ?_⟩) ?_ ?_; rotate_left
        · intro w'
          go_simp
          with_reducible rfl
        rotate_left
        · simp only [Act.put, List.setIfInBounds_toArray, List.set_cons_zero, List.set_cons_succ, i64_w, i32_w]
          rfl
        refine one_ (i := 19) (N := some 56) #[true, true, true, true, true, true, true, true, true, true, true, true, true, true, true, true, true, true, true, true, false, false, false] rfl rfl (by kernel_rfl) (by decide) (fun K hK => ?_); refine value_ (v := .slice (some ⟨wd.heap.size, 0, none⟩) 1 1) (w1 := wd.alloc (.cells #[.int .i64 n0, .int .i64 n1, .int .i64 n2, .int .i64 n3, .int .i64 n4] 32)) (by rfl) rfl ?_ ?_
        · go_simp
        refine hK.out _ _ ⟨(World.cell?_alloc_old _ _ _ (Nat.ne_of_lt (World.block_lt_of_cell? _ _ hHeld.1))).trans hHeld.1, (World.cell?_alloc_old _ _ _ (Nat.ne_of_lt (World.block_lt_of_cell? _ _ hHeld.2.1))).trans hHeld.2.1, (World.cell?_alloc_old _ _ _ (Nat.ne_of_lt (World.block_lt_of_cell? _ _ hHeld.2.2.1))).trans hHeld.2.2.1, (World.cell?_alloc_old _ _ _ (Nat.ne_of_lt (World.block_lt_of_cell? _ _ hHeld.2.2.2.1))).trans hHeld.2.2.2.1, (World.cell?_alloc_old _ _ _ (Nat.ne_of_lt (World.block_lt_of_cell? _ _ hHeld.2.2.2.2.1))).trans hHeld.2.2.2.2.1, (World.cell?_alloc_old _ _ _ (Nat.ne_of_lt (World.block_lt_of_cell? _ _ hHeld.2.2.2.2.2))).trans hHeld.2.2.2.2.2⟩ (fun hHeldA => ?_); clear hK K; refine norm_ (a' := ?_) ?_ ?_; rotate_left
        · show Act.put _ (some 56) _ = _
          simp only [Act.put, List.setIfInBounds_toArray, List.set_cons_zero, List.set_cons_succ, i64_w, i32_w]
          rfl
        refine last_ (i := 20) (N := some 57) #[true, true, true, true, true, true, true, true, true, true, true, true, true, true, true, true, true, true, true, true, true, false, false] rfl rfl (by kernel_rfl) (by decide) (fun K hK => ?_); refine Kd.R_append_step k32 (w0 := wd) (w2.heap.size + 1) (by rfl) (.tmp 38) (.tmp 56) 23 32 (.agg #[.int .i64 0, .int .i64 0, .int .i64 0, .int .i64 0, .int .i64 0]) 40 rfl Tryz.underlying23 info32 rfl (by decide) (by omega) (.slice A1o st.length c1o) st (mkPart [n0, n1, n2, n3, n4]) [.int .i64 n0, .int .i64 n1, .int .i64 n2, .int .i64 n3, .int .i64 n4] (fun _ => True) (fun _ => False) rfl rfl ?aP (fun _ hk => hk.elim) (fun _ _ => trivial) HRD.out (Below.refl _ _) (by omega) (by have := str_len HA.out.1; have := HTM.out.2; rw [List.length_take] at *; omega) ?_
        case aP => exact k32_mkM _ _ _ _
        intro vA wA ho hbA hgA hatA; obtain ⟨AA, cA, eA⟩ := Kd.R_slice ho; subst eA; have HBKA : wA.heap[w2.heap.size]? = some (.cells #[.slice A0 sp.length cs0, .slice A1o st.length c1o] 25 (0, 0)) := (hbA.block _ (by omega)).trans HBKD.out; have z1 : wA.cell? ⟨w2.heap.size, 1, none⟩ = some (.slice A1o st.length c1o) := (blk_cell HBKA 1).trans rfl; have zf : wA.frozen? ⟨w2.heap.size, 1, none⟩ = false := blk_frozen HBKA 1; have HBKA' := Aside0.mk HBKA; clear HBKA; refine hK.out _ _ ?_; clear hK K; refine norm_ (a' := ?_) ?_ ?_; rotate_left
        · show Act.put _ (some 57) _ = _
          simp only [Act.put, List.setIfInBounds_toArray, List.set_cons_zero, List.set_cons_succ, i64_w, i32_w]
          rfl
        refine pure_ (i := 21) (N := some 58) (v := ?_) (a' := ?_) #[true, true, true, true, true, true, true, true, true, true, true, true, true, true, true, true, true, true, true, true, true, true, false] rfl rfl (by kernel_rfl) (fun _ _ _ h => h) (Or.inl ⟨by rfl, ?_⟩) ?_ ?_; rotate_left
        · intro w'
          go_simp
          with_reducible rfl
        rotate_left
        · simp only [Act.put, List.setIfInBounds_toArray, List.set_cons_zero, List.set_cons_succ, i64_w, i32_w]
          rfl
        refine last_ (i := 22) (N := none) #[true, true, true, true, true, true, true, true, true, true, true, true, true, true, true, true, true, true, true, true, true, true, true] rfl rfl (by kernel_rfl) (by decide) (fun K hK => ?_); refine skip_ (w1 := wA.setCell ⟨w2.heap.size, 1, none⟩ (.slice AA (st ++ [mkPart [n0, n1, n2, n3, n4]]).length cA)) (by rfl) rfl ?_ ?_
        · go_simp
        refine hK.out _ _ ?_; clear hK K; refine done_ (by kernel_rfl) ?_; go_wp2
        go_roundg k2
        case measure => omega
        case rel => exact ⟨j + 1, st ++ [mkPart [n0, n1, n2, n3, n4]], _, (by rw [IntWalk.wrap64_in _ (by have := HTM.out.2; have := HJ.out; omega), Int.natCast_add, Int.natCast_one]), ⟨by have := HJ.out; omega⟩, ⟨by rw [List.take_add_one, HX.out]; show strF (tl.take j ++ [x]) = _; rw [str_snoc x _ _ HA.out.1, HNS.out]; rfl, R_set ho (by simp) _⟩, ⟨(HB2D.out.trans (hbA.mono (by omega))).setCell (Nat.le_refl _) _, by have := blk_set HBKA'.out 1 (.slice AA (st ++ [mkPart [n0, n1, n2, n3, n4]]).length cA); simpa using this⟩⟩
end Go.Proofs.YtdmdahafiiggiaaGreatDoor.K
end
section
namespace Go.Proofs.YtdmdahafiiggiaaGreatDoor.K
open Go.RowKit Go.Proofs.YtdmdahafiiggiaaGreatDoorW.PrintWords Go.Proofs.YtdmdahafiiggiaaGreatDoorW.PrintLast Go.Proofs.YtdmdahafiiggiaaGreatDoorW.PrintMore
theorem catch_idle (p : Addr) (w : World) :
    CallsD Tryz.prog 110 #[.pointer (some p)] .returning w fun e u' w' => e = .returned (.tuple #[]) ∧ u' = .returning ∧ w' = w := by
  refine callsD_of_wpS Tryz.func110 rfl fun c₀ cs hu => ?_; apply wpS_seq; apply wpS_region; simp [wpOpsS, go_sem, recoverD, hu, Tryz.ntmps110, Exit.thenS, Array.replicate_succ, Array.replicate_zero]; refine wpS_of_wp ?_; go_wp2
  cases c₀
  simp_all [bodyPostS, results, Tryz.results110]
theorem tas1 (v : Value) (W : World) : (Instr.typeAssert (.iface 147 (.agg #[v])) 20 147 true).run Tryz.prog W = .ok (.tuple #[.agg #[v], .bool true]) W := by kernel_rfl
theorem tas2 (v : Value) (W : World) : (Instr.typeAssert (.iface 149 (.agg #[v])) 20 147 true).run Tryz.prog W = .ok (.tuple #[.agg #[.int .i64 0], .bool false]) W := by kernel_rfl
theorem tas3 (v : Value) (W : World) : (Instr.typeAssert (.iface 149 (.agg #[v])) 20 149 true).run Tryz.prog W = .ok (.tuple #[.agg #[v], .bool true]) W := by kernel_rfl
theorem grown_alloc_set (w : World) (o : Obj) (p : Addr) (v : Value) : w.grownBy ((w.alloc o).setCell p v) (some p.block) :=
  ⟨rfl, rfl, rfl, by simp, fun i hi hne => (Below.heap_setCell _ p v i (fun e => hne (by rw [e]))).trans (Below.heap_alloc w o i hi)⟩
theorem grown_set (w : World) (p : Addr) (v : Value) : w.grownBy (w.setCell p v) (some p.block) :=
  ⟨rfl, rfl, rfl, by simp, fun i hi hne => Below.heap_setCell _ p v i (fun e => hne (by rw [e]))⟩
theorem cell_alloc_set (w : World) (o : Obj) (p : Addr) (v : Value) {u : Value} (hb : p.block < w.heap.size) (hc : w.cell? p = some u) : ((w.alloc o).setCell p v).cell? p = some v :=
  World.cell?_setCell_same' _ _ _ (by rw [World.cell?_alloc_lt w o p hb, hc]; rfl)
set_option maxRecDepth 100000 in
theorem catch_rate (p : Addr) (x : Int) (u : Int) (w : World) (hc : w.cell? p = some (.int .i64 x)) (hz : w.frozen? p = false) (hb : p.block < w.heap.size) :
    CallsD Tryz.prog 110 #[.pointer (some p)] (.panicking [{ v := .iface 147 (.agg #[.int .i64 u]), recovered := false }]) w fun e u' w' =>
      e = .returned (.tuple #[]) ∧ u' = .panicking [{ v := .iface 147 (.agg #[.int .i64 u]), recovered := true }] ∧ w.grownBy w' (some p.block) ∧ w'.cell? p = some (.int .i64 7) := by
  refine callsD_of_wpS Tryz.func110 rfl fun c₀ cs hu => ?_; have h1 := tas1; have hu1 := Tryz.underlying147; have hne : ¬ p.block = w.heap.size := by omega
  have hz' : ∀ o, (w.alloc o).frozen? p = false := fun o => (World.frozen?_alloc_old w o p hne).trans hz; apply wpS_seq; apply wpS_region; simp [wpOpsS, go_sem, recoverD, hu, Tryz.ntmps110, Exit.thenS, Array.replicate_succ, Array.replicate_zero]; refine wpS_of_wp ?_; go_wp2; exact ⟨rfl, _, rfl, _, results_none rfl _ _ _, rfl, rfl, grown_alloc_set _ _ _ _, cell_alloc_set _ _ _ _ hb hc⟩
set_option maxRecDepth 100000 in
theorem catch_text (p : Addr) (x : Int) (u : ByteArray) (w : World) (hc : w.cell? p = some (.int .i64 x)) (hz : w.frozen? p = false) (hb : p.block < w.heap.size) :
    CallsD Tryz.prog 110 #[.pointer (some p)] (.panicking [{ v := .iface 149 (.agg #[.string u]), recovered := false }]) w fun e u' w' =>
      e = .returned (.tuple #[]) ∧ u' = .panicking [{ v := .iface 149 (.agg #[.string u]), recovered := true }] ∧ w.grownBy w' (some p.block) ∧ w'.cell? p = some (.int .i64 4) := by
  refine callsD_of_wpS Tryz.func110 rfl fun c₀ cs hu => ?_; have h2 := tas2; have h3 := tas3; have hu1 := Tryz.underlying149; have hne : ¬ p.block = w.heap.size := by omega
  have hz' : ∀ o, (w.alloc o).frozen? p = false := fun o => (World.frozen?_alloc_old w o p hne).trans hz; apply wpS_seq; apply wpS_region; simp [wpOpsS, go_sem, recoverD, hu, Tryz.ntmps110, Exit.thenS, Array.replicate_succ, Array.replicate_zero]; refine wpS_of_wp ?_; go_wp2; exact ⟨rfl, _, rfl, _, results_none rfl _ _ _, rfl, rfl, grown_alloc_set _ _ _ _, cell_alloc_set _ _ _ _ hb hc⟩
theorem attempt_any (g B : Nat) (lb : Array Value) (w : World) (hBn : B ≠ w.heap.size) (Ro Rr Rt : World → Prop) (eg : ∀ args w, (callFunc g args).run Tryz.prog w = .ok (.enter g args) w)
    (hdo : Calls Tryz.prog g lb (w.alloc (.cells #[.int .i64 0] 34)) fun e w' => (w.alloc (.cells #[.int .i64 0] 34)).grownBy w' (some B) ∧
      ((e = .returned (.tuple #[]) ∧ Ro w') ∨ (∃ u, e = .panicked [{ v := .iface 147 (.agg #[.int .i64 u]), recovered := false }] ∧ Rr w') ∨ (∃ u, e = .panicked [{ v := .iface 149 (.agg #[.string u]), recovered := false }] ∧ Rt w'))) :
    Calls Tryz.prog 82 #[.func (.func g) #[] lb] w fun e w' => ∃ (w1 : World) (n : Int), e = .returned (.int .i64 n) ∧ (w.alloc (.cells #[.int .i64 0] 34)).grownBy w1 (some B) ∧ w1.grownBy w' (some w.heap.size) ∧
      ((n = 0 ∧ Ro w1) ∨ (n = 7 ∧ Rr w1) ∨ (n = 4 ∧ Rt w1)) := by
  have hmf : ∀ (fn : Fn) (first cap : Array Value) (w : World), (Instr.makeFunc fn first cap).run Tryz.prog w = .ok (.func fn first cap) w := fun _ _ _ _ => rfl
  go_enter_defers Tryz.func82, Tryz.ntmps82
  go_wp2_with fail
  refine hdo.mono ?_; rintro e w1 ⟨hB, h⟩; have hlt : w.heap.size < w1.heap.size := by have := hB.size; simp at this; omega
  have hc : w1.cell? ⟨w.heap.size, 0, none⟩ = some (.int .i64 0) := (hB.cell_far ⟨w.heap.size, 0, none⟩ (by simp) (by simpa using Ne.symm hBn)).trans (by simp); have hz : w1.frozen? ⟨w.heap.size, 0, none⟩ = false := (hB.frozen_far ⟨w.heap.size, 0, none⟩ (by simp) (by simpa using Ne.symm hBn)).trans (by simp)
  rcases h with ⟨rfl, ho⟩ | ⟨u, rfl, hr⟩ | ⟨u, rfl, ht⟩
  · go_wp2; refine leaves_cons (f := 110) (args := #[.pointer (some ⟨w.heap.size, 0, none⟩)]) (by simp) (by simp [go_sem]) ?_; refine (catch_idle ⟨w.heap.size, 0, none⟩ _).mono ?_; rintro e u' w'' ⟨rfl, rfl, rfl⟩; have hs : (w1.setCell ⟨w.heap.size, 0, none⟩ (.int .i64 0)).cell? ⟨w.heap.size, 0, none⟩ = some (.int .i64 0) := World.cell?_setCell_same' _ _ _ (by rw [hc]; rfl); exact ⟨.int .i64 0, by simp [results, Tryz.results82, go_sem, hs], w1, 0, rfl, hB, grown_set _ _ _, .inl ⟨rfl, ho⟩⟩
  · go_wp2; refine leaves_cons (f := 110) (args := #[.pointer (some ⟨w.heap.size, 0, none⟩)]) (by simp) (by simp [go_sem]) ?_; refine (catch_rate ⟨w.heap.size, 0, none⟩ 0 u _ hc hz hlt).mono ?_; rintro e u' w'' ⟨rfl, rfl, hg, hs⟩; exact ⟨.int .i64 7, by simp [results, Tryz.results82, go_sem, hs], w1, 7, rfl, hB, hg, .inr (.inl ⟨rfl, hr⟩)⟩
  · go_wp2; refine leaves_cons (f := 110) (args := #[.pointer (some ⟨w.heap.size, 0, none⟩)]) (by simp) (by simp [go_sem]) ?_; refine (catch_text ⟨w.heap.size, 0, none⟩ 0 u _ hc hz hlt).mono ?_; rintro e u' w'' ⟨rfl, rfl, hg, hs⟩; exact ⟨.int .i64 4, by simp [results, Tryz.results82, go_sem, hs], w1, 4, rfl, hB, hg, .inr (.inr ⟨rfl, ht⟩)⟩
end Go.Proofs.YtdmdahafiiggiaaGreatDoor.K
end
section
namespace Go.Proofs.YtdmdahafiiggiaaGreatDoor.K
open Go.RowKit Go.Proofs.YtdmdahafiiggiaaGreatDoorW.PrintWords Go.Proofs.YtdmdahafiiggiaaGreatDoorW.PrintLast Go.Proofs.YtdmdahafiiggiaaGreatDoorW.PrintMore
abbrev kSt := k32
def LineAt (s : ByteArray) (base B : Nat) (w' : World) : Prop := ∃ sp st A0 c0 A1 c1, parsedF s = some (sp, st) ∧ w'.heap[B]? = some (.cells #[.slice A0 (List.length sp) c0, .slice A1 (List.length st) c1] 25 (0, 0)) ∧ Kd.R (Kd.int .i64) 3 w' base (fun _ => True) (.slice A0 sp.length c0) sp ∧ Kd.R kSt 32 w' base (fun _ => True) (.slice A1 st.length c1) st
theorem grown_set2R {w w1 : World} {B : Nat} (h : w.grownBy w1 (some B)) (v u : Value) : w.grownBy ((w1.setCell ⟨B, 0, none⟩ v).setCell ⟨B, 1, none⟩ u) (some B) :=
  ⟨h.os, h.tape, h.output, by simpa using h.size, fun k hk hne => ((Below.heap_setCell _ _ _ k (fun e => hne (by rw [e]))).trans (Below.heap_setCell _ _ _ k (fun e => hne (by rw [e])))).trans (h.block k hk hne)⟩
theorem grown_of_below' {w w' : World} {row : Option Nat} (h : Below w.heap.size w w') : w.grownBy w' row := ⟨h.os, h.tape, h.output, h.size, fun k hk _ => h.block k hk⟩
set_option maxRecDepth 100000 in
theorem Read1_any (s : ByteArray) (SB B : Nat) (W : World) (hs : s.size ≤ 300) (hq : TabW W ∨ ∀ y ∈ partsF s 10, ∀ x ∈ partsF y 32, valF x x.size < 100) (hc : W.cell? ⟨SB, 0, none⟩ = some (.string s)) (hB : W.heap[B]? = some (.cells #[.slice none 0 0, .slice none 0 0] 25 (0, 0))) :
    Calls Tryz.prog 96 #[.pointer (some ⟨SB, 0, none⟩), .pointer (some ⟨B, 0, none⟩)] W fun e w' => W.grownBy w' (some B) ∧
      ((e = .returned (.tuple #[]) ∧ LineAt s W.heap.size B w') ∨ (parsedF s = none ∧ gaveUp e)) := by
  have hu1 := Tryz.underlying25; have CP := Aside0.mk (parsed_any s W hs hq); have HB := Aside0.mk hB; clear hB hq
  go_enter Tryz.func96, Tryz.ntmps96
  go_wp2_with fail
  refine CP.out.mono ?_; rintro e w1 ⟨hb, ⟨hn, why, rfl⟩ | ⟨sp, st, A0, c0, A1, c1, hp, rfl, hR0, hR1⟩⟩
  · go_wp2; exact ⟨rfl, grown_of_below' hb, .inr ⟨hn, _, rfl⟩⟩
  · have HB1 := Aside0.mk (blk_below HB.out hb); have y0 : w1.cell? ⟨B, 0, none⟩ = some (.slice none 0 0) := (blk_cell HB1.out 0).trans rfl; have y1 : w1.cell? ⟨B, 1, none⟩ = some (.slice none 0 0) := (blk_cell HB1.out 1).trans rfl; have f0 : w1.frozen? ⟨B, 0, none⟩ = false := blk_frozen HB1.out 0; have f1 : w1.frozen? ⟨B, 1, none⟩ = false := blk_frozen HB1.out 1; have HP := Aside0.mk hp; have H0 := Aside0.mk hR0; have H1 := Aside0.mk hR1; have HBB := Aside0.mk hb; clear hp hR0 hR1 hb; go_wp2; refine bodyPost_end (v := .tuple #[]) (by simp [results, Tryz.results96, go_sem]) rfl ⟨grown_set2R (grown_of_below' HBB.out) _ _, .inl ⟨rfl, sp, st, A0, c0, A1, c1, HP.out, ?_, ?_, ?_⟩⟩
    · have := blk_set (blk_set HB1.out 0 (.slice A0 sp.length c0)) 1 (.slice A1 st.length c1)
      simpa using this
    · exact R_set (R_set H0.out (blk_lt HB.out) _) (blk_lt HB.out) _
    · exact R_set (R_set H1.out (blk_lt HB.out) _) (blk_lt HB.out) _
theorem told_len {line word : ByteArray} {ns : List Int} (h : toldF line word = some ns) : ns.length ≤ line.size := by
  unfold toldF at h
  split at h
  · rw [nums_len h, List.length_drop]; have := parts_many line 32
    omega
  · cases h
theorem parsed_len {s : ByteArray} {sp : List Int} {st : List S32} (h : parsedF s = some (sp, st)) : sp.length ≤ s.size ∧ st.length ≤ s.size := by
  unfold parsedF at h
  split at h
  · rename_i h3
    obtain ⟨sp', h1, h⟩ := Option.bind_eq_some_iff.1 h; obtain ⟨st', h2, h⟩ := Option.bind_eq_some_iff.1 h
    split at h
    · obtain ⟨rfl, rfl⟩ := Prod.mk.inj (Option.some.inj h)
      have hm : rdOf ByteArray.empty (partsF s 10) 0 ∈ partsF s 10 := by
        simp [rdOf, List.getD, List.getElem?_eq_getElem (show 0 < (partsF s 10).length by omega)]
      have := told_len h1; have h4 := parts_size hm; have h5 := str_len h2; have h6 := parts_many s 10; rw [List.length_drop, List.length_take] at h5
      omega
    · cases h
  · cases h
def readF (s : ByteArray) : List Int × List S32 × Int :=
  if 300 < s.size then ([], [], 3) else match parsedF s with
    | none => ([], [], 4)
    | some (sp, st) => if isLineB sp st = true then (sp, st, 0) else ([], [], 2)
def ReadPost (s : ByteArray) (w : World) (e : Ending) (w' : World) : Prop :=
  Below w.heap.size w w' ∧ ∃ A0 c0 A1 c1, e = .returned (.tuple #[.agg #[.slice A0 (readF s).1.length c0, .slice A1 (readF s).2.1.length c1], .int .i64 (readF s).2.2]) ∧ Kd.R (Kd.int .i64) 3 w' w.heap.size (fun _ => True) (.slice A0 (readF s).1.length c0) (readF s).1 ∧ Kd.R kSt 32 w' w.heap.size (fun _ => True) (.slice A1 (readF s).2.1.length c1) (readF s).2.1
theorem ReadPost.no {s : ByteArray} {w w' : World} {e : Ending} (r : Int) (hf : readF s = ([], [], r)) (he : e = .returned (.tuple #[.agg #[.slice none 0 0, .slice none 0 0], .int .i64 r])) (hb : Below w.heap.size w w') : ReadPost s w e w' := by
  unfold ReadPost; rw [hf]; exact ⟨hb, none, 0, none, 0, he, Kd.R_nil _ _ _ _ _, Kd.R_nil _ _ _ _ _⟩
set_option maxRecDepth 100000 in
set_option maxHeartbeats 1000000 in
theorem read_any (s : ByteArray) (w : World) (hq : TabW w ∨ ∀ y ∈ partsF s 10, ∀ x ∈ partsF y 32, valF x x.size < 100) (hs63 : s.size ≤ 9223372036854775807) :
    Calls Tryz.prog 51 #[.string s] w (ReadPost s w) := by
  have hu1 := Tryz.underlying25; have hmf : ∀ (fn : Fn) (first cap : Array Value) (w : World), (Instr.makeFunc fn first cap).run Tryz.prog w = .ok (.func fn first cap) w := fun _ _ _ _ => rfl
  by_cases hs : 300 < s.size
  case pos =>
    have c0 : decide ((300 : Int) < (s.size : Int)) = true := decide_eq_true (by omega); clear hq; have HF : Aside0 (readF s = ([], [], 3)) := ⟨by unfold readF; rw [if_pos hs]⟩; clear hs
    go_enter Tryz.func51, Tryz.ntmps51
    go_wp2; refine bodyPost_ret (v := .tuple #[.agg #[.slice none 0 0, .slice none 0 0], .int .i64 3]) (by simp [results, Tryz.results51, go_sem]) rfl (ReadPost.no 3 HF.out rfl ?_)
    first
      | exact ((((Below.refl _ _).alloc (Nat.le_refl _) _).alloc (by simp) _).setCell (by simp) _).setCell (by simp) _
      | exact (((Below.refl _ _).alloc (Nat.le_refl _) _).alloc (by simp) _)
  case neg =>
  have c0 : decide ((300 : Int) < (s.size : Int)) = false := decide_eq_false (by omega); have HS : Aside0 (s.size ≤ 300) := ⟨by omega⟩; have HQ := Aside0.mk hq; clear hq hs
  
  have CA : Aside0 (∀ W4 : World, Below w.heap.size w W4 → W4.cell? ⟨w.heap.size, 0, none⟩ = some (.string s) → W4.heap[w.heap.size + 1 + 1]? = some (.cells #[.slice none 0 0, .slice none 0 0] 25 (0, 0)) → w.heap.size + 3 = W4.heap.size →
      Calls Tryz.prog 82 #[.func (.func 96) #[] #[.pointer (some ⟨w.heap.size, 0, none⟩), .pointer (some ⟨w.heap.size + 1 + 1, 0, none⟩)]] W4 fun e w' =>
        W4.grownBy w' (some (w.heap.size + 1 + 1)) ∧
        ((e = .returned (.int .i64 0) ∧ LineAt s W4.heap.size (w.heap.size + 1 + 1) w') ∨ (parsedF s = none ∧ e = .returned (.int .i64 4)))) := ⟨by
    intro W4 hB hc hL hsz; have hb5 : Below W4.heap.size W4 (W4.alloc (.cells #[.int .i64 0] 34)) := (Below.refl _ _).alloc (Nat.le_refl _) _; have hdo := Read1_any s w.heap.size (w.heap.size + 1 + 1) (W4.alloc (.cells #[.int .i64 0] 34)) HS.out (HQ.out.imp (fun h => h.below (below_step hB hb5)) id) ((hb5.cell (World.block_lt_of_cell? _ _ hc)).trans hc) (blk_below hL hb5)
    refine (attempt_any 96 (w.heap.size + 1 + 1) _ W4 (by omega) (LineAt s (W4.heap.size + 1) (w.heap.size + 1 + 1)) (fun _ => False) (fun _ => parsedF s = none) (enters_of Tryz.func96 (by kernel_rfl) rfl)
      (hdo.mono fun e w' ⟨hg, h⟩ => ⟨hg, h.elim (fun ⟨ha, hb⟩ => .inl ⟨ha, by rw [World.size_alloc] at hb; exact hb⟩) (fun ⟨ha, why, hb⟩ => .inr (.inr ⟨why, hb, ha⟩))⟩)).mono ?_
    rintro e w' ⟨w1, k, rfl, hg1, hg2, h⟩; have hs1 : W4.heap.size + 1 ≤ w1.heap.size := by have := hg1.size; simpa using this
    have hkeep : ∀ k, k ≠ W4.heap.size → k < w1.heap.size → w'.heap[k]? = w1.heap[k]? := fun k hk hk2 => hg2.block k hk2 (by simpa using hk); refine ⟨⟨hg2.os.trans hg1.os, hg2.tape.trans hg1.tape, hg2.output.trans hg1.output, by have := hg2.size; omega, fun k hk hne => (hkeep k (by omega) (by omega)).trans ((hg1.block k (by simp; omega) hne).trans (Below.heap_alloc _ _ _ hk))⟩, ?_⟩
    rcases h with ⟨rfl, sp, st, A0, c0, A1, c1, h1, h2, h3, h4⟩ | ⟨_, h⟩ | ⟨rfl, h⟩
    · refine .inl ⟨rfl, sp, st, A0, c0, A1, c1, h1, (hkeep _ (by omega) (by omega)).trans h2, ?_, ?_⟩
      · exact Kd.R_lower (Kd.R_mono (Kd.R_step (Kd.R_bound h3) (fun k hk hk2 => hkeep k (by have := hk.2.1; omega) hk2)) (fun _ _ => trivial)) (Nat.le_succ _)
      · exact Kd.R_lower (Kd.R_mono (Kd.R_step (Kd.R_bound h4) (fun k hk hk2 => hkeep k (by have := hk.2.1; omega) hk2)) (fun _ _ => trivial)) (Nat.le_succ _)
    · exact h.elim
    · exact .inr ⟨h, rfl⟩⟩
  go_enter Tryz.func51, Tryz.ntmps51
  go_upto_region 4 with (fail)
  generalize hW0 : World.alloc _ _ = W0; have HB0 : Aside0 (Below w.heap.size w W0 ∧ w.heap.size + 3 = W0.heap.size) := ⟨by rw [← hW0]; exact ⟨(((Below.refl _ _).alloc (Nat.le_refl _) _).alloc (by simp) _).alloc (by simp; omega) _, by simp⟩⟩; have HC0 : Aside0 (W0.cell? ⟨w.heap.size, 0, none⟩ = some (.string s)) := ⟨by rw [← hW0]; simp [go_sem]⟩
  have HL0 : Aside0 (W0.heap[w.heap.size + 1 + 1]? = some (.cells #[.slice none 0 0, .slice none 0 0] 25 (0, 0))) := ⟨by
    rw [← hW0]; have := blk_new ((w.alloc (.cells #[.string s] 9)).alloc (.cells #[.slice none 0 0, .slice none 0 0] 25)) (.cells #[.slice none 0 0, .slice none 0 0] 25)
    rwa [World.size_alloc, World.size_alloc] at this⟩
  have HR0 : Aside0 (W0.heap[w.heap.size + 1]? = some (.cells #[.slice none 0 0, .slice none 0 0] 25 (0, 0))) := ⟨by
    rw [← hW0]; have := blk_new (w.alloc (.cells #[.string s] 9)) (.cells #[.slice none 0 0, .slice none 0 0] 25); rw [World.size_alloc] at this
    exact blk_alloc this _⟩
  clear hW0
  go_wp2_with (fail)
  refine (CA.out W0 HB0.out.1 HC0.out HL0.out HB0.out.2).mono ?_; rintro e w4 ⟨hg, h⟩; have HRB := Aside0.mk (blk_grown HR0.out hg (by simp)); have y0 : w4.cell? ⟨w.heap.size + 1, 0, none⟩ = some (.slice none 0 0) := (blk_cell HRB.out 0).trans rfl; have y1 : w4.cell? ⟨w.heap.size + 1, 1, none⟩ = some (.slice none 0 0) := (blk_cell HRB.out 1).trans rfl; have f0 : w4.frozen? ⟨w.heap.size + 1, 0, none⟩ = false := blk_frozen HRB.out 0; have f1 : w4.frozen? ⟨w.heap.size + 1, 1, none⟩ = false := blk_frozen HRB.out 1; have HB4 : Aside0 (Below w.heap.size w w4 ∧ w.heap.size + 3 ≤ w4.heap.size) := ⟨HB0.out.1.grown hg (by have := HB0.out.2; omega) (by intro k hk; cases hk; omega), by have := HB0.out.2; have := hg.size; omega⟩; clear hg
  rcases h with ⟨rfl, sp, st, A0, cs0, A1, cs1, hp, hL, hR0, hR1⟩ | ⟨hp, rfl⟩
  case inr =>
    have HF : Aside0 (readF s = ([], [], 4)) := ⟨by unfold readF; rw [if_neg (by have := HS.out; omega), hp]⟩; clear hp; go_wp2; refine bodyPost_ret (v := .tuple #[.agg #[.slice none 0 0, .slice none 0 0], .int .i64 4]) (by simp [results, Tryz.results51, go_sem, *]) rfl (ReadPost.no 4 HF.out rfl ?_); exact (HB4.out.1.setCell (by simp) _).setCell (by simp) _
  case inl =>
    have HLB := Aside0.mk hL; have HP := Aside0.mk hp; have HR0' := Aside0.mk hR0; have HR1' := Aside0.mk hR1; have x0 : w4.cell? ⟨w.heap.size + 1 + 1, 0, none⟩ = some (.slice A0 sp.length cs0) := (blk_cell HLB.out 0).trans rfl; have x1 : w4.cell? ⟨w.heap.size + 1 + 1, 1, none⟩ = some (.slice A1 st.length cs1) := (blk_cell HLB.out 1).trans rfl
    have CL : Aside0 (Calls Tryz.prog 54 #[.agg #[.slice A0 sp.length cs0, .slice A1 st.length cs1]] w4 fun e w' => e = .returned (.bool (isLineB sp st)) ∧ Below w4.heap.size w4 w') := ⟨by
      obtain ⟨_, _, e0, hl0, hC0⟩ := Kd.R_reads hR0
      cases e0
      obtain ⟨_, _, e1, hl1, hC1⟩ := Kd.R_reads hR1
      cases e1
      have m0 := (parsed_len hp).1; have m1 := (parsed_len hp).2; have m2 := HS.out
      exact channel_isLine.calls A0 cs0 sp A1 cs1 st _ w4 hC0 hl0 hC1 hl1 (by unfold channel_isLine.f; rw [if_pos ⟨by omega, by omega⟩])⟩
    clear hp hL hR0 hR1
    go_wp2_with (fail)
    refine CL.out.mono ?_; rintro e w5 ⟨rfl, hb5⟩; have HB5 := Aside0.mk hb5; have HRB5 := Aside0.mk (blk_below HRB.out hb5); have HLB5 := Aside0.mk (blk_below HLB.out hb5); clear y0 y1 f0 f1 x0 x1 hb5; have y0 : w5.cell? ⟨w.heap.size + 1, 0, none⟩ = some (.slice none 0 0) := (blk_cell HRB5.out 0).trans rfl; have y1 : w5.cell? ⟨w.heap.size + 1, 1, none⟩ = some (.slice none 0 0) := (blk_cell HRB5.out 1).trans rfl; have f0 : w5.frozen? ⟨w.heap.size + 1, 0, none⟩ = false := blk_frozen HRB5.out 0; have f1 : w5.frozen? ⟨w.heap.size + 1, 1, none⟩ = false := blk_frozen HRB5.out 1; have x0 : w5.cell? ⟨w.heap.size + 1 + 1, 0, none⟩ = some (.slice A0 sp.length cs0) := (blk_cell HLB5.out 0).trans rfl; have x1 : w5.cell? ⟨w.heap.size + 1 + 1, 1, none⟩ = some (.slice A1 st.length cs1) := (blk_cell HLB5.out 1).trans rfl
    cases hl : isLineB sp st with
    | false =>
      have HF : Aside0 (readF s = ([], [], 2)) := ⟨by unfold readF; rw [if_neg (by have := HS.out; omega), HP.out]; show (if isLineB sp st = true then _ else _) = _; rw [hl]; rfl⟩; clear hl; go_wp2; refine bodyPost_ret (v := .tuple #[.agg #[.slice none 0 0, .slice none 0 0], .int .i64 2]) (by simp [results, Tryz.results51, go_sem, *]) rfl (ReadPost.no 2 HF.out rfl ?_); exact ((below_step HB4.out.1 HB5.out).setCell (by simp) _).setCell (by simp) _
    | true =>
      have HF : Aside0 (readF s = (sp, st, 0)) := ⟨by unfold readF; rw [if_neg (by have := HS.out; omega), HP.out]; show (if isLineB sp st = true then _ else _) = _; rw [hl]; rfl⟩; clear hl; go_wp2; refine bodyPost_ret (v := .tuple #[.agg #[.slice A0 sp.length cs0, .slice A1 st.length cs1], .int .i64 0]) (by simp [results, Tryz.results51, go_sem, *]) rfl ?_; have h0 := Kd.R_below HR0'.out HB5.out; have h1 := Kd.R_below HR1'.out HB5.out; have hsz := HB0.out.2; unfold ReadPost; rw [HF.out]; refine ⟨((below_step HB4.out.1 HB5.out).setCell (by simp) _).setCell (by simp) _, A0, cs0, A1, cs1, rfl, ?_, ?_⟩
      · exact Kd.R_lower (R_set (R_set h0 (by simp; omega) _) (by simp; omega) _) (by omega)
      · exact Kd.R_lower (R_set (R_set h1 (by simp; omega) _) (by simp; omega) _) (by omega)
end Go.Proofs.YtdmdahafiiggiaaGreatDoor.K
end
section
namespace Go.Proofs.YtdmdahafiiggiaaGreatDoor.K
open Go.RowKit Go.Proofs.YtdmdahafiiggiaaGreatDoorW.PrintWords Go.Proofs.YtdmdahafiiggiaaGreatDoorW.PrintLast Go.Proofs.YtdmdahafiiggiaaGreatDoorW.PrintMore
attribute [local simp] clsA
def carF (sp : List Int) (st : List S32) (n age rate : Int) : Option Int := (channel_aging.f sp st n age).bind fun a => channel_aged_cups.f a.1 a.2.1 a.2.2.1 a.2.2.2.1 a.2.2.2.2.1 a.2.2.2.2.2.1 a.2.2.2.2.2.2 rate
def agreeF (sp : List Int) (st : List S32) (n rate : Int) : List S68 → Option Bool
  | [] => some true
  | x :: l => (carF sp st n x.f0 rate).bind fun c => if inB c x.f1.f0 x.f1.f1 = true then agreeF sp st n rate l else some false
def ratesL (sp : List Int) (st : List S32) (n : Int) (notes : List S68) : Nat → Int → Option (List Int)
  | 0, _ => some []
  | k + 1, r => (agreeF sp st n r notes).bind fun b => (ratesL sp st n notes k (r + 1)).bind fun l => some (if b then r :: l else l)
def RatesPost (L : List Int) (n : Int) (w : World) (e : Ending) (w' : World) : Prop :=
  ((L = [] ∧ e = .panicked [{ v := .iface 147 (.agg #[.int .i64 n]), recovered := false }]) ∨ (L ≠ [] ∧ e = .returned (.agg #[.int .i64 (rd L 0), .int .i64 (rd L ((L.length : Int) - 1))]))) ∧ Below w.heap.size w w'
structure RatesW (w : World) (A0_0 A0_1 : Option Addr) (c0_0 c0_1 : Nat) (ns nt : Nat) (W : World) : Prop where
  hb : Below w.heap.size w W
  lt : w.heap.size + 2 ≤ W.heap.size
  sp : W.cell? ⟨w.heap.size, 0, none⟩ = some (.slice A0_0 ns c0_0)
  st : W.cell? ⟨w.heap.size, 1, none⟩ = some (.slice A0_1 nt c0_1)
  o0 : W.cell? ⟨w.heap.size + 1, 0, none⟩ = some (.int .i64 0)
  o1 : W.cell? ⟨w.heap.size + 1, 1, none⟩ = some (.int .i64 0)
  f0 : W.frozen? ⟨w.heap.size + 1, 0, none⟩ = false
  f1 : W.frozen? ⟨w.heap.size + 1, 1, none⟩ = false
theorem RatesW.below {w : World} {A0_0 A0_1 : Option Addr} {c0_0 c0_1 ns nt : Nat} {W W1 : World} (h : RatesW w A0_0 A0_1 c0_0 c0_1 ns nt W) (hb : Below (w.heap.size + 2) W W1) (hs : W.heap.size ≤ W1.heap.size) : RatesW w A0_0 A0_1 c0_0 c0_1 ns nt W1 :=
  ⟨h.hb.trans (hb.mono (by omega)), Nat.le_trans h.lt hs, (hb.cell (p := ⟨w.heap.size, 0, none⟩) (by simp)).trans h.sp, (hb.cell (p := ⟨w.heap.size, 1, none⟩) (by simp)).trans h.st, (hb.cell (p := ⟨w.heap.size + 1, 0, none⟩) (by simp)).trans h.o0, (hb.cell (p := ⟨w.heap.size + 1, 1, none⟩) (by simp)).trans h.o1, (hb.frozen (p := ⟨w.heap.size + 1, 0, none⟩) (by simp)).trans h.f0, (hb.frozen (p := ⟨w.heap.size + 1, 1, none⟩) (by simp)).trans h.f1⟩
theorem RatesW.new (w : World) (A0_0 A0_1 : Option Addr) (c0_0 c0_1 ns nt : Nat) (t1 t2 : TypeId) : RatesW w A0_0 A0_1 c0_0 c0_1 ns nt ((w.alloc (.cells #[.slice A0_0 ns c0_0, .slice A0_1 nt c0_1] t1)).alloc (.cells #[.int .i64 0, .int .i64 0] t2)) :=
  ⟨((Below.refl _ w).alloc (Nat.le_refl _) _).alloc (by simp) _, by simp, by simp [go_sem], by simp [go_sem], by simp [go_sem], by simp [go_sem], by simp [go_sem], by simp [go_sem]⟩
set_option maxRecDepth 100000 in
set_option maxHeartbeats 1000000 in
theorem rates_any (sp : List Int) (st : List S32) (A0_0 A0_1 A2 : Option Addr) (c0_0 c0_1 c2 : Nat) (n : Int) (notes : List S68) (w : World)
    (hr0_0 : Kd.C (Kd.int .i64) w A0_0 sp.length sp) (hc0_0 : sp.length ≤ c0_0) (hr0_1 : Kd.C k32 w A0_1 st.length st) (hc0_1 : st.length ≤ c0_1) (hr2 : Kd.C k68 w A2 notes.length notes) (hc2 : notes.length ≤ c2)
    (hn0 : 0 ≤ n) (hn1 : n < st.length) (hlo : 0 ≤ (rd_T32 st n).f3.f0) (hhi : (rd_T32 st n).f3.f1 < 1000000000) (hnl : notes.length ≤ 1000000) (N : Nat) (L : List Int) (hN : (rd_T32 st n).f3.f0 + N = (rd_T32 st n).f3.f1 + 1) (hL : ratesL sp st n notes N (rd_T32 st n).f3.f0 = some L) :
    Calls Tryz.prog 84 #[.agg #[.slice A0_0 sp.length c0_0, .slice A0_1 st.length c0_1], .int .i64 n, .slice A2 notes.length c2] w (RatesPost L n w) := by
  have hu1 := Tryz.underlying25; have hu2 := Tryz.underlying30; have hu3 := Tryz.underlying32; have hu4 := Tryz.underlying68
  go_enter Tryz.func84, Tryz.ntmps84
  go_wp2; generalize hW0 : (w.alloc (.cells #[.slice A0_0 sp.length c0_0, .slice A0_1 st.length c0_1] 25)).alloc (.cells #[.int .i64 0, .int .i64 0] 30) = W0; have R0 : RatesW w A0_0 A0_1 c0_0 c0_1 sp.length st.length W0 := by rw [← hW0]; exact RatesW.new ..
  clear hW0; obtain ⟨ad1, e1, s0, s1, s2, s3, s4⟩ := at_T32 hr0_1 n hn0 hn1
  cases e1
  generalize hsn : rd_T32 st n = s at s0 s1 s2 s3 s4; have q0 := eq_true hn0; have q1 := eq_true hn1; have g0 := R0.st; have g3 := (R0.hb.cell (World.block_lt_of_cell? w _ s3)).trans s3; have g4 := (R0.hb.cell (World.block_lt_of_cell? w _ s4)).trans s4
  go_step3
  go_wp2
  go_step3
  go_wp2; rw [hsn] at hL hN hhi hlo; have HNL := Aside0.mk hnl; clear hnl; have HLO := Aside0.mk hlo; have HL := Aside0.mk hL; have HHI := Aside0.mk hhi; have HR2 := Aside0.mk hr2; have HR01 := Aside0.mk hr0_1; have HR00 := Aside0.mk hr0_0; clear hL hr2 hr0_0 hr0_1 hhi hlo g0 g3 g4; have RA := Aside0.mk R0; clear R0
  go_loopg [7, 8, 10] N (fun kq v7 v8 v10 w' => ∃ (acc : List Int) (r : Int) (rest : List Int), v8 = .int .i64 r ∧ Aside0 (0 ≤ r) ∧ Aside0 (acc.length + kq ≤ N) ∧ Aside0 (ratesL sp st n notes kq r = some rest) ∧ Aside0 (acc ++ rest = L) ∧ Aside0 (r + kq = s.f3.f1 + 1) ∧ Aside0 (Kd.R (Kd.int .i64) 3 w' (w.heap.size + 2) (fun _ => True) v7 acc) ∧ Aside0 (RatesW w A0_0 (some ad1) c0_0 c0_1 sp.length st.length w'))
  case atStart => exact ⟨[], _, L, rfl, HLO, ⟨by simp⟩, HL, ⟨rfl⟩, ⟨hN⟩, ⟨Kd.R_nil _ _ _ _ _⟩, RA⟩
  case round =>
    clear RA HL; obtain ⟨acc, r, rest, rfl, HR, HC, HL, HE, HK, HO, RA⟩ := hrel; have g0 := RA.out.st; have g3 := (RA.out.hb.cell (World.block_lt_of_cell? w _ s3)).trans s3; have g4 := (RA.out.hb.cell (World.block_lt_of_cell? w _ s4)).trans s4
    cases gk with
    | zero =>
      have c1 : decide (r ≤ s.f3.f1) = false := decide_eq_false (by have := HK.out; omega); have hrest : rest = [] := (Option.some.inj HL.out).symm; have haL : acc = L := by have := HE.out; rw [hrest] at this; simpa using this
      subst haL; have HLN : Aside0 (acc.length ≤ N ∧ (N : Int) ≤ 2000000000) := ⟨by have := HC.out; omega, by have := HHI.out; have := HLO.out; omega⟩; clear HL HE HK HC hrest HR; obtain ⟨Ao, co, eo, hlc, hCa⟩ := Kd.R_reads HO.out; subst eo; have HCA := Aside0.mk hCa; clear hCa HO; have b0 := RA.out.hb; have f0 := RA.out.f0; have f1 := RA.out.f1; have o0 := RA.out.o0; have o1 := RA.out.o1; have HBN := Aside0.mk b0; clear b0
      by_cases hl : acc.length = 0
      · have d1 : decide ((acc.length : Int) = 0) = true := decide_eq_true (by omega); go_wp2; refine ⟨rfl, .inl ⟨List.eq_nil_of_length_eq_zero hl, rfl⟩, ?_⟩; exact HBN.out
      · have d1 : decide ((acc.length : Int) = 0) = false := decide_eq_false (by omega); have l0 : (0 : Int) ≤ 0 := by omega
        have l1 : (0 : Int) < acc.length := by omega
        have m0 : (0 : Int) ≤ (acc.length : Int) - 1 := by omega
        have m1 : (acc.length : Int) - 1 < acc.length := by omega
        obtain ⟨ad, ea, x0⟩ := Kd.at_int HCA.out 0 l0 l1; obtain ⟨ad', ea', x1⟩ := Kd.at_int HCA.out ((acc.length : Int) - 1) m0 m1
        cases ea
        cases ea'
        rw [show ad.add (0 : Int).toNat = ad from by cases ad; simp [Addr.add]] at x0; rw [show ((acc.length : Int) - 1).toNat = acc.length - 1 from by omega] at x1; have hlast : wrap64 ((acc.length : Int) - 1) = (acc.length : Int) - 1 := IntWalk.wrap64_in _ (by have := HLN.out; omega); go_wp2
        go_region
        go_wp2; refine bodyPost_ret (v := .agg #[.int .i64 (rd acc 0), .int .i64 (rd acc ((acc.length : Int) - 1))]) (by simp [results, Tryz.results84, go_sem, *]) rfl ⟨.inr ⟨fun h => hl (by rw [h]; rfl), rfl⟩, ?_⟩; exact below_drew1 (below_set (below_set HBN.out (by simp)) (by simp))
    | succ k1 =>
      have c1 : decide (r ≤ s.f3.f1) = true := decide_eq_true (by have := HK.out; omega); have H := HL.out; simp only [ratesL] at H; obtain ⟨b, hb1, H⟩ := Option.bind_eq_some_iff.mp H; obtain ⟨rest1, hl1, H⟩ := Option.bind_eq_some_iff.mp H; have Hb := Aside0.mk hb1; have Hl := Aside0.mk hl1; have He := Aside0.mk (Option.some.inj H); clear hb1 hl1 H HL; obtain ⟨Ao, co, eo⟩ := Kd.R_slice HO.out; subst eo; go_wp2
      go_loopg [10, 31] notes.length (fun kq v10 v31 w' => ∃ j : Nat, v31 = .int .i64 (j : Int) ∧ Aside0 (j + kq = notes.length) ∧ Aside0 (agreeF sp st n r (notes.drop j) = some b) ∧ Aside0 (Kd.R (Kd.int .i64) 3 w' (w.heap.size + 2) (fun _ => True) (.slice Ao acc.length co) acc) ∧ Aside0 (RatesW w A0_0 (some ad1) c0_0 c0_1 sp.length st.length w'))
      case atStart => exact ⟨0, rfl, ⟨by omega⟩, Hb, HO, RA⟩
      case round =>
        clear RA HO Hb g0 g3 g4; obtain ⟨j, rfl, HJ, Hb, HO, RA⟩ := hrel
        cases gk with
        | zero =>
          have c2 : decide ((j : Int) < (notes.length : Int)) = false := decide_eq_false (by have := HJ.out; omega); have c3 : ¬ (j < notes.length) := by have := HJ.out; omega
          have c4 : decide (j < notes.length) = false := decide_eq_false c3
          have hb : b = true := by
            have h := Hb.out; rw [List.drop_eq_nil_of_le (by have := HJ.out; omega)] at h; exact (Option.some.inj h).symm
          subst hb; have hlen : acc.length < 17592186044416 := by have := HC.out; have := HHI.out; have := HLO.out; omega
          have w1 : wrap64 (r + 1) = r + 1 := IntWalk.wrap64_in _ (by have := HR.out; have := HK.out; have := HHI.out; omega)
          go_wp2_with (first | ((with_reducible refine gate_builtin (b := .append) (xs := #[.tmp 51, .tmp 53]) rfl ?_); (try (refine gate_guard (by rfl) ?_; dsimp only)); at_builtin; refine Kd.R_append (Kd.int .i64) (w0 := wr) (w.heap.size + 2) rfl (.tmp 51) (.tmp 53) 22 3 (.int .i64 0) 8 rfl Tryz.underlying22 info3 rfl (by decide) (by omega) (.slice Ao acc.length co) acc r [.int .i64 r] (fun _ => True) (fun _ => False) rfl rfl ?aP (fun _ hk => hk.elim) ?aF ?aO ?aB ?aS ?aL ?_; (case aP => exact rfl); (case aB => exact Below.refl _ _); (case aF => exact (fun _ _ => trivial)); (case aO => exact HO.out); (case aS => exact RA.out.lt); (case aL => omega); intro vA wA ho hb hg hat; have RB := RA.out.below hb hb.size; clear hb hg hat RA))
          go_roundg k1
          case measure => omega
          case rel => exact ⟨acc ++ [r], r + 1, rest1, (by first | rfl | rw [w1]), ⟨by have := HR.out; omega⟩, ⟨by have := HC.out; simp; omega⟩, Hl, ⟨by have h1 := He.out; have h3 := HE.out; simp at h1; rw [← h3, ← h1]; simp⟩, ⟨by have := HK.out; omega⟩, ⟨ho⟩, ⟨RB⟩⟩
        | succ k2 =>
          have c2 : decide ((j : Int) < (notes.length : Int)) = true := decide_eq_true (by have := HJ.out; omega); have p1 : (0 : Int) ≤ (j : Int) := by omega
          have p2 : (j : Int) < (notes.length : Int) := by have := HJ.out; omega
          obtain ⟨ad, ea, x0, x1, x2⟩ := at_T68 HR2.out j p1 p2
          cases ea
          generalize hxn : rd_T68 notes j = x at x0 x1 x2; rw [Int.toNat_natCast] at x0 x1 x2; replace x0 := (RA.out.hb.cell (World.block_lt_of_cell? w _ x0)).trans x0; replace x1 := (RA.out.hb.cell (World.block_lt_of_cell? w _ x1)).trans x1; replace x2 := (RA.out.hb.cell (World.block_lt_of_cell? w _ x2)).trans x2; replace p1 := eq_true p1; replace p2 := eq_true p2; have hag := Hb.out; have hjl : j < notes.length := by have := HJ.out; omega
          rw [List.drop_eq_getElem_cons hjl, show notes[j] = x from by rw [← hxn]; simp [rd_T68, List.getD, List.getElem?_eq_getElem hjl]] at hag; simp only [agreeF] at hag; obtain ⟨c, hc, hag⟩ := Option.bind_eq_some_iff.mp hag; obtain ⟨⟨a0, a1, a2, a3, a4, a5, a6⟩, ha, hcu⟩ := Option.bind_eq_some_iff.mp hc
          dsimp only at hcu
          have HA := Aside0.mk ha; have HCU := Aside0.mk hcu; have HAG := Aside0.mk hag; clear ha hcu hag hc Hb; go_wp2; generalize hW1 : World.alloc _ _ = W1; have b1 : Below (w.heap.size + 2) wr W1 := hW1 ▸ (Below.refl _ _).alloc RA.out.lt _; have hsz : wr.heap.size ≤ W1.heap.size := by rw [← hW1]; simp
          have y0 : W1.cell? ⟨wr.heap.size, 0, none⟩ = some (.int .i64 x.f0) := by rw [← hW1]; simp [go_sem]
          have y1 : W1.cell? ⟨wr.heap.size, 1, none⟩ = some (.int .i64 x.f1.f0) := by rw [← hW1]; simp [go_sem]
          have y2 : W1.cell? ⟨wr.heap.size, 2, none⟩ = some (.int .i64 x.f1.f1) := by rw [← hW1]; simp [go_sem]
          have RB := RA.out.below b1 hsz; have HO1 : Aside0 (Kd.R (Kd.int .i64) 3 W1 (w.heap.size + 2) (fun _ => True) (.slice Ao acc.length co) acc) := ⟨by rw [← hW1]; exact Kd.R_alloc HO.out _⟩; clear hW1 x0 x1 x2 b1 RA HO; have z0 := fun X : After W1 => X.cell RB.sp; have z1 := fun X : After W1 => X.cell RB.st; replace y0 := fun X : After W1 => X.cell y0; replace y1 := fun X : After W1 => X.cell y1; replace y2 := fun X : After W1 => X.cell y2
          have hCA : Aside0 (∀ X : After W1, Calls Tryz.prog 57 #[.agg #[.slice A0_0 sp.length c0_0, .slice (some ad1) st.length c0_1], .int .i64 n, .int .i64 x.f0] X.W fun e w' => e = .returned (.agg #[.int .i64 a0, .int .i64 a1, .int .i64 a2, .int .i64 a3, .int .i64 a4, .int .i64 a5, .int .i64 a6]) ∧ Below X.W.heap.size X.W w') :=
            ⟨fun X => channel_aging.calls A0_0 c0_0 sp (some ad1) c0_1 st n x.f0 a0 a1 a2 a3 a4 a5 a6 X.W (Kd.C_below HR00.out (RB.hb.trans (X.hb.mono RB.hb.size))) hc0_0 (Kd.C_below HR01.out (RB.hb.trans (X.hb.mono RB.hb.size))) hc0_1 HA.out⟩
          have hCC : Aside0 (∀ W : World, Calls Tryz.prog 103 #[.agg #[.int .i64 a0, .int .i64 a1, .int .i64 a2, .int .i64 a3, .int .i64 a4, .int .i64 a5, .int .i64 a6], .int .i64 r] W fun e w' => e = .returned (.int .i64 c) ∧ Below W.heap.size W w') :=
            ⟨fun W => channel_aged_cups.calls a0 a1 a2 a3 a4 a5 a6 r c W HCU.out⟩
          refine wp_region_after (by kernel_rfl) (by kernel_rfl) ?_; (repeat (go_big_quiet_step (first | (go_at_call 57; exact Calls.after (hCA.out _)) | (go_at_call 103; exact Calls.after (hCC.out _)) | (go_at_call 67; exact Calls.after_same (in_any _ _ _ _))))); refine wpQuiet_nil ?_; intro X; have RX := RB.below (X.hb.mono RB.lt) X.hb.size; have HOX : Aside0 (Kd.R (Kd.int .i64) 3 X.W (w.heap.size + 2) (fun _ => True) (.slice Ao acc.length co) acc) := ⟨Kd.R_below HO1.out X.hb⟩; clear hCA hCC; clear z0 z1 y0 y1 y2 RB HO1; obtain ⟨W2, hW2⟩ : ∃ W2, W2 = X.W := ⟨_, rfl⟩; rw [← hW2] at RX HOX ⊢; clear hW2 X hsz; have g0 := RX.o0; clear g0
          cases hin : inB c x.f1.f0 x.f1.f1 with
          | false =>
            have w1 : wrap64 (r + 1) = r + 1 := IntWalk.wrap64_in _ (by have := HR.out; have := HK.out; have := HHI.out; omega); go_wp2
            go_roundg k1
            case measure => omega
            case rel => exact ⟨acc, r + 1, rest1, (by rw [w1]), ⟨by have := HR.out; omega⟩, ⟨by have := HC.out; omega⟩, Hl, ⟨by have h1 := He.out; have h2 := HAG.out; have h3 := HE.out; rw [hin] at h2; simp at h2; subst h2; simp at h1; rw [h1]; exact h3⟩, ⟨by have := HK.out; omega⟩, HOX, ⟨RX⟩⟩
          | true =>
            go_wp2
            go_roundg k2
            case measure => omega
            case rel => exact ⟨j + 1, (by rw [IntWalk.wrap64_in _ (by have := HJ.out; have := HNL.out; omega), Int.natCast_add, Int.natCast_one]), ⟨by have := HJ.out; omega⟩, ⟨by have h2 := HAG.out; rw [hin] at h2; simpa using h2⟩, HOX, ⟨RX⟩⟩
end Go.Proofs.YtdmdahafiiggiaaGreatDoor.K
end
section
namespace Go.Proofs.YtdmdahafiiggiaaGreatDoor.K
open Go.RowKit Go.Proofs.YtdmdahafiiggiaaGreatDoorW.PrintWords Go.Proofs.YtdmdahafiiggiaaGreatDoorW.PrintLast Go.Proofs.YtdmdahafiiggiaaGreatDoorW.PrintMore
attribute [local go_sem] max2_int min2_int max_two min_two max_three min_three max_four min_four
def channel_isStretch.f (l0_0 : List Int) (l0_1 : List (S32)) (a1 : Int) : Option (Bool) := (channel_in.f a1 0 (wrap64 ((l0_1.length : Int) - 1))).bind fun t124 => (some t124)
set_option maxHeartbeats 8000000 in
set_option maxRecDepth 100000 in
theorem channel_isStretch.calls (A0_0 : Option Addr) (c0_0 : Nat) (l0_0 : List Int) (A0_1 : Option Addr) (c0_1 : Nat) (l0_1 : List (S32)) (a1 : Int) (r : Bool) (w : World) (hr0_0 : Kd.C (Kd.int .i64) w A0_0 l0_0.length l0_0) (hc0_0 : l0_0.length ≤ c0_0) (hr0_1 : Kd.C k32 w A0_1 l0_1.length l0_1) (hc0_1 : l0_1.length ≤ c0_1) (h : channel_isStretch.f l0_0 l0_1 a1 = some r) :
  Calls Tryz.prog 55 #[.agg #[.slice A0_0 l0_0.length c0_0, .slice A0_1 l0_1.length c0_1], .int .i64 a1] w fun e w' => e = .returned (.bool r) ∧ Below w.heap.size w w' := by
 have hu25 := Tryz.underlying25; have HR0_0 := Aside0.mk hr0_0; have HC0_0 := Aside0.mk hc0_0; clear hr0_0 hc0_0; have HR0_1 := Aside0.mk hr0_1; have HC0_1 := Aside0.mk hc0_1; clear hr0_1 hc0_1; have HB := Aside0.mk (Below.refl w.heap.size w); have H : ((channel_in.f a1 0 (wrap64 ((l0_1.length : Int) - 1))).bind fun t124 => (some t124)) = some r := h; clear h; replace H := Option.bind_eq_some_iff.mp H; obtain ⟨t124, A30, H⟩ := H; replace H : (some t124) = some r := H; have A3 := Aside0.mk A30; clear A30; obtain rfl := Option.some.inj H
 go_enter Tryz.func55, Tryz.ntmps55
 go_wp2_with (first | ((with_reducible refine gate_dst (N := 2) rfl ?_); refine bxe 2 #[.slice A0_0 l0_0.length c0_0, .slice A0_1 l0_1.length c0_1] 25 ?_; intro gb123 hg w4 hbox hb; have n0_ := Aside0.mk (below_step uB hb); have n1_ := Aside0.mk (hbox); have n2_ := gw hg; have n3_ := gw hg; clear HB; have HB := n0_; have BK123 := n1_; have GW123 := n2_; have GE123 := n3_; clear n0_ n1_ n2_ n3_; clear hb hbox hg; obtain ⟨hcz5_0, hcz5_1⟩ := cz2 BK123.out; obtain ⟨hfz5_0, hfz5_1⟩ := fz2 BK123.out) | ((with_reducible refine gate_callee (f := 67) rfl ?_); refine goesL_ (some 10) rfl rfl Tryz.func67 (by kernel_rfl) rfl #[.int .i64 a1, .int .i64 0, .int .i64 (wrap64 ((l0_1.length : Int) - 1))] rfl uM ?_; (with_reducible refine (channel_in.calls a1 0 (wrap64 ((l0_1.length : Int) - 1)) t124 _ A3.out).mono ?_); rintro e w' ⟨rfl, ⟨nd, rfl⟩⟩; refine ⟨_, rfl, ?_⟩))
 go_ret; exact ⟨uE, uB⟩
end Go.Proofs.YtdmdahafiiggiaaGreatDoor.K
end
section
namespace Go.Proofs.YtdmdahafiiggiaaGreatDoor.K
open Go.RowKit Go.Proofs.YtdmdahafiiggiaaGreatDoorW.PrintWords Go.Proofs.YtdmdahafiiggiaaGreatDoorW.PrintLast Go.Proofs.YtdmdahafiiggiaaGreatDoorW.PrintMore
def noteB (x : S68) : Bool := inB x.f0 0 200 && isSpanB x.f1.f0 x.f1.f1 0 10000000
theorem Lime1_any (x : S68) (w : World) : Calls Tryz.prog 79 #[.agg #[.int .i64 x.f0, .int .i64 x.f1.f0, .int .i64 x.f1.f1]] w fun e w' => e = .returned (.bool (!noteB x)) ∧ Below w.heap.size w w' := by
  have hu := Tryz.underlying68; have hu3 := Tryz.underlying30; obtain ⟨f0, ⟨g0, g1⟩⟩ := x
  dsimp only
  cases h1 : inB f0 0 200 with
  | false =>
    go_enter Tryz.func79, Tryz.ntmps79
    go_wp2_with (go_at_call 56; refine (isAge_any _ _).mono ?_; rintro e w' ⟨rfl, rfl⟩)
    go_ret; exact ⟨by simp [noteB, h1], (Below.refl _ _).alloc (Nat.le_refl _) _⟩
  | true =>
    go_enter Tryz.func79, Tryz.ntmps79
    go_wp2_with (first | (go_at_call 56; refine (isAge_any _ _).mono ?_; rintro e w' ⟨rfl, rfl⟩) | (go_at_call 80; refine (isSpan_any _ _ _ _ _).mono ?_; rintro e w' ⟨rfl, hb⟩))
    go_ret; exact ⟨by simp [noteB, h1], below_then ((Below.refl _ _).alloc (Nat.le_refl _) _) (by simp) hb⟩
theorem isStretch_any (A0_0 : Option Addr) (c0_0 : Nat) (l0_0 : List Int) (A0_1 : Option Addr) (c0_1 : Nat) (l0_1 : List S32) (a1 : Int) (hn : l0_1.length ≤ 8) (w : World) :
    Calls Tryz.prog 55 #[.agg #[.slice A0_0 l0_0.length c0_0, .slice A0_1 l0_1.length c0_1], .int .i64 a1] w fun e w' => e = .returned (.bool (inB a1 0 ((l0_1.length : Int) - 1))) ∧ Below w.heap.size w w' := by
  have hu2 := Tryz.underlying25
  go_enter Tryz.func55, Tryz.ntmps55
  go_wp2_with (go_at_call 67; refine (in_any _ _ _ _).mono ?_; rintro e w' ⟨rfl, rfl⟩)
  go_ret; exact ⟨by rfl, (Below.refl _ _).alloc (Nat.le_refl _) _⟩
structure LimeW (w : World) (A0_0 A0_1 A2 : Option Addr) (c0_0 c0_1 c2 ns nt nn : Nat) (n : Int) (W : World) : Prop where
  hb : Below w.heap.size w W
  lt : w.heap.size + 4 ≤ W.heap.size
  sp : W.cell? ⟨w.heap.size, 0, none⟩ = some (.slice A0_0 ns c0_0)
  st : W.cell? ⟨w.heap.size, 1, none⟩ = some (.slice A0_1 nt c0_1)
  n : W.cell? ⟨w.heap.size + 1, 0, none⟩ = some (.int .i64 n)
  no : W.cell? ⟨w.heap.size + 2, 0, none⟩ = some (.slice A2 nn c2)
  o0 : W.cell? ⟨w.heap.size + 3, 0, none⟩ = some (.int .i64 0)
  o1 : W.cell? ⟨w.heap.size + 3, 1, none⟩ = some (.int .i64 0)
  f0 : W.frozen? ⟨w.heap.size + 3, 0, none⟩ = false
  f1 : W.frozen? ⟨w.heap.size + 3, 1, none⟩ = false
theorem LimeW.below {w : World} {A0_0 A0_1 A2 : Option Addr} {c0_0 c0_1 c2 ns nt nn : Nat} {n : Int} {W W1 : World} (h : LimeW w A0_0 A0_1 A2 c0_0 c0_1 c2 ns nt nn n W) (hb : Below (w.heap.size + 4) W W1) : LimeW w A0_0 A0_1 A2 c0_0 c0_1 c2 ns nt nn n W1 :=
  ⟨h.hb.trans (hb.mono (by omega)), Nat.le_trans h.lt hb.size, (hb.cell (p := ⟨w.heap.size, 0, none⟩) (by simp)).trans h.sp, (hb.cell (p := ⟨w.heap.size, 1, none⟩) (by simp)).trans h.st, (hb.cell (p := ⟨w.heap.size + 1, 0, none⟩) (by simp)).trans h.n, (hb.cell (p := ⟨w.heap.size + 2, 0, none⟩) (by simp)).trans h.no, (hb.cell (p := ⟨w.heap.size + 3, 0, none⟩) (by simp)).trans h.o0, (hb.cell (p := ⟨w.heap.size + 3, 1, none⟩) (by simp)).trans h.o1, (hb.frozen (p := ⟨w.heap.size + 3, 0, none⟩) (by simp)).trans h.f0, (hb.frozen (p := ⟨w.heap.size + 3, 1, none⟩) (by simp)).trans h.f1⟩
theorem LimeW.new (w : World) (A0_0 A0_1 A2 : Option Addr) (c0_0 c0_1 c2 ns nt nn : Nat) (n : Int) (t1 t2 t3 t4 : TypeId) : LimeW w A0_0 A0_1 A2 c0_0 c0_1 c2 ns nt nn n ((((w.alloc (.cells #[.slice A0_0 ns c0_0, .slice A0_1 nt c0_1] t1)).alloc (.cells #[.int .i64 n] t2)).alloc (.cells #[.slice A2 nn c2] t3)).alloc (.cells #[.int .i64 0, .int .i64 0] t4)) :=
  ⟨((((Below.refl _ w).alloc (Nat.le_refl _) _).alloc (by simp) _).alloc (by simp; omega) _).alloc (by simp; omega) _, by simp, by simp [go_sem], by simp [go_sem], by simp [go_sem], by simp [go_sem], by simp [go_sem], by simp [go_sem], by simp [go_sem], by simp [go_sem]⟩
def limeB (sp : List Int) (st : List S32) (n : Int) (notes : List S68) : Bool := isLineB sp st && inB n 0 ((st.length : Int) - 1) && decide (notes.length ≤ 8) && notes.all noteB
def LimePost (L : List Int) (w : World) (e : Ending) (w' : World) : Prop :=
  e = .returned (if L = [] then .tuple #[.agg #[.int .i64 0, .int .i64 0], .int .i64 7] else .tuple #[.agg #[.int .i64 (rd L 0), .int .i64 (rd L ((L.length : Int) - 1))], .int .i64 0]) ∧ Below w.heap.size w w'
set_option maxRecDepth 100000 in
set_option maxHeartbeats 1000000 in
theorem lime_bad (sp : List Int) (st : List S32) (A0_0 A0_1 A2 : Option Addr) (c0_0 c0_1 c2 : Nat) (n : Int) (notes : List S68) (w : World)
    (hr0_0 : Kd.C (Kd.int .i64) w A0_0 sp.length sp) (hc0_0 : sp.length ≤ c0_0) (hr0_1 : Kd.C k32 w A0_1 st.length st) (hc0_1 : st.length ≤ c0_1) (hr2 : Kd.C k68 w A2 notes.length notes) (hc2 : notes.length ≤ c2)
    (hsp : sp.length ≤ 9223372036854775807) (hst : st.length ≤ 9223372036854775807) (hno : notes.length ≤ 9223372036854775807) (hbad : limeB sp st n notes = false) :
    Calls Tryz.prog 38 #[.agg #[.slice A0_0 sp.length c0_0, .slice A0_1 st.length c0_1], .int .i64 n, .slice A2 notes.length c2] w fun e w' => e = .returned (.tuple #[.agg #[.int .i64 0, .int .i64 0], .int .i64 2]) ∧ Below w.heap.size w w' := by
  have hu1 := Tryz.underlying25; have hu2 := Tryz.underlying30; have hmf : ∀ (fn : Fn) (first cap : Array Value) (w : World), (Instr.makeFunc fn first cap).run Tryz.prog w = .ok (.func fn first cap) w := fun _ _ _ _ => rfl
  have CL : Aside0 (∀ W, Below w.heap.size w W → Calls Tryz.prog 54 #[.agg #[.slice A0_0 sp.length c0_0, .slice A0_1 st.length c0_1]] W fun e w' => e = .returned (.bool (isLineB sp st)) ∧ Below W.heap.size W w') :=
    ⟨fun W hW => channel_isLine.calls A0_0 c0_0 sp A0_1 c0_1 st _ W (Kd.C_below hr0_0 hW) hc0_0 (Kd.C_below hr0_1 hW) hc0_1 (by unfold channel_isLine.f; rw [if_pos ⟨hsp, hst⟩])⟩
  have CN : Aside0 (∀ W, Below w.heap.size w W → Calls Tryz.prog 81 #[.slice A2 notes.length c2, .func (.func 79) #[] #[]] W fun e w' => e = .returned (.bool (!notes.all noteB)) ∧ Below W.heap.size W w') :=
    ⟨fun W hW => by
      have := contFuncNote A2 c2 notes 79 #[] (fun x => !noteB x) W (Kd.C_below hr2 hW) hc2 hno (enters_of Tryz.func79 (by kernel_rfl) rfl) (fun W' x _ => Lime1_any x W')
      rwa [any_not_all] at this⟩
  clear hr0_0 hr0_1 hr2
  have hcase : isLineB sp st = false ∨ (isLineB sp st = true ∧ inB n 0 ((st.length : Int) - 1) = false) ∨ (isLineB sp st = true ∧ inB n 0 ((st.length : Int) - 1) = true ∧ ¬ notes.length ≤ 8) ∨ (isLineB sp st = true ∧ inB n 0 ((st.length : Int) - 1) = true ∧ notes.length ≤ 8 ∧ notes.all noteB = false) := by
    unfold limeB at hbad
    cases h1 : isLineB sp st <;> cases h2 : inB n 0 ((st.length : Int) - 1) <;> by_cases h3 : notes.length ≤ 8 <;> cases h4 : notes.all noteB <;> simp [h1, h2, h3, h4] at hbad ⊢
  have CS : Aside0 (isLineB sp st = true → ∀ W, Calls Tryz.prog 55 #[.agg #[.slice A0_0 sp.length c0_0, .slice A0_1 st.length c0_1], .int .i64 n] W fun e w' => e = .returned (.bool (inB n 0 ((st.length : Int) - 1))) ∧ Below W.heap.size W w') :=
    ⟨fun h W => isStretch_any A0_0 c0_0 sp A0_1 c0_1 st n (by simp [isLineB, inB] at h; omega) W⟩
  clear hbad
  rcases hcase with h1 | ⟨h1, h2⟩ | ⟨h1, h2, h3⟩ | ⟨h1, h2, h3, h4⟩
  all_goals (try have h3' : decide ((8 : Int) < (notes.length : Int)) = true := decide_eq_true (by omega))
  all_goals (try have h3' : decide ((8 : Int) < (notes.length : Int)) = false := decide_eq_false (by omega))
  all_goals
    rw [h1] at CL; (try rw [h2] at CS); try rw [h4] at CN
    go_enter Tryz.func38, Tryz.ntmps38
    go_upto_region 2 with (fail)
    generalize hW0 : World.alloc _ _ = W0; have R0 : LimeW w A0_0 A0_1 A2 c0_0 c0_1 c2 sp.length st.length notes.length n W0 := by rw [← hW0]; exact LimeW.new ..
    clear hW0; have a1 := R0.sp; have a2 := R0.st
    go_wp2_with (first | (go_at_call 54; refine (CL.out _ R0.hb).mono ?_; rintro e w1 ⟨rfl, hb1⟩; have R1 := R0.below (hb1.mono R0.lt); clear a1 a2 hb1 R0; have a1 := R1.sp; have a2 := R1.st; have a3 := R1.n; have a5 := R1.o0; have a6 := R1.o1; have a7 := R1.f0; have a8 := R1.f1) | (go_at_call 55; refine (CS.out h1 _).mono ?_; rintro e w2 ⟨rfl, hb2⟩; have R2 := R1.below (hb2.mono R1.lt); clear a1 a2 a3 a5 a6 a7 a8 hb2 R1; have a4 := R2.no; have a5 := R2.o0; have a6 := R2.o1; have a7 := R2.f0; have a8 := R2.f1) | (go_at_call 81; refine (CN.out _ R2.hb).mono ?_; rintro e w3 ⟨rfl, hb3⟩; have R3 := R2.below (hb3.mono R2.lt); clear a4 a5 a6 a7 a8 hb3 R2; have a5 := R3.o0; have a6 := R3.o1; have a7 := R3.f0; have a8 := R3.f1))
    refine bodyPost_ret (v := .tuple #[.agg #[.int .i64 0, .int .i64 0], .int .i64 2]) (by simp [results, Tryz.results38, go_sem, *]) rfl ⟨rfl, ?_⟩; have hle : w.heap.size ≤ w.heap.size + 1 + 1 + 1 := by omega
    first
      | exact below_set (below_set R1.hb hle) hle
      | exact below_set (below_set R2.hb hle) hle
      | exact below_set (below_set R3.hb hle) hle
theorem grown_of_below {w w' : World} {row : Option Nat} (h : Below w.heap.size w w') : w.grownBy w' row := ⟨h.os, h.tape, h.output, h.size, fun k hk _ => h.block k hk⟩
theorem grown_set2 {w w1 : World} {B : Nat} (h : w.grownBy w1 (some B)) (v u : Value) : w.grownBy ((w1.setCell ⟨B, 0, none⟩ v).setCell ⟨B, 1, none⟩ u) (some B) :=
  ⟨h.os, h.tape, h.output, by simpa using h.size, fun k hk hne => ((Below.heap_setCell _ _ _ k (fun e => hne (by rw [e]))).trans (Below.heap_setCell _ _ _ k (fun e => hne (by rw [e])))).trans (h.block k hk hne)⟩
theorem Lime2_any (sp : List Int) (st : List S32) (A0_0 A0_1 A2 : Option Addr) (c0_0 c0_1 c2 : Nat) (n : Int) (notes : List S68) (w W : World) (B : Nat)
    (hr0_0 : Kd.C (Kd.int .i64) w A0_0 sp.length sp) (hc0_0 : sp.length ≤ c0_0) (hr0_1 : Kd.C k32 w A0_1 st.length st) (hc0_1 : st.length ≤ c0_1) (hr2 : Kd.C k68 w A2 notes.length notes) (hc2 : notes.length ≤ c2)
    (hR : LimeW w A0_0 A0_1 A2 c0_0 c0_1 c2 sp.length st.length notes.length n W) (hB : w.heap.size + 4 ≤ B) (hBs : B < W.heap.size)
    (hB0 : W.cell? ⟨B, 0, none⟩ = some (.int .i64 0)) (hB1 : W.cell? ⟨B, 1, none⟩ = some (.int .i64 0)) (hF0 : W.frozen? ⟨B, 0, none⟩ = false) (hF1 : W.frozen? ⟨B, 1, none⟩ = false)
    (hn0 : 0 ≤ n) (hn1 : n < st.length) (hlo : 0 ≤ (rd_T32 st n).f3.f0) (hhi : (rd_T32 st n).f3.f1 < 1000000000) (hnl : notes.length ≤ 1000000) (N : Nat) (L : List Int) (hN : (rd_T32 st n).f3.f0 + N = (rd_T32 st n).f3.f1 + 1) (hL : ratesL sp st n notes N (rd_T32 st n).f3.f0 = some L) :
    Calls Tryz.prog 83 #[.pointer (some ⟨w.heap.size, 0, none⟩), .pointer (some ⟨w.heap.size + 1, 0, none⟩), .pointer (some ⟨w.heap.size + 2, 0, none⟩), .pointer (some ⟨B, 0, none⟩)] W fun e w' => W.grownBy w' (some B) ∧
      ((L = [] ∧ e = .panicked [{ v := .iface 147 (.agg #[.int .i64 n]), recovered := false }]) ∨ (L ≠ [] ∧ e = .returned (.tuple #[]) ∧ w'.cell? ⟨B, 0, none⟩ = some (.int .i64 (rd L 0)) ∧ w'.cell? ⟨B, 1, none⟩ = some (.int .i64 (rd L ((L.length : Int) - 1))))) := by
  have hu1 := Tryz.underlying25; have hu2 := Tryz.underlying30; have CR := Aside0.mk (rates_any sp st A0_0 A0_1 A2 c0_0 c0_1 c2 n notes W (Kd.C_below hr0_0 hR.hb) hc0_0 (Kd.C_below hr0_1 hR.hb) hc0_1 (Kd.C_below hr2 hR.hb) hc2 hn0 hn1 hlo hhi hnl N L hN hL); have a1 := hR.sp; have a2 := hR.st; have a3 := hR.n; have a4 := hR.no; clear hr0_0 hr0_1 hr2 hlo hhi hN hL hn0 hn1
  go_enter Tryz.func83, Tryz.ntmps83
  go_wp2_with fail
  refine CR.out.mono ?_; rintro e w1 ⟨h, hb⟩; have hb0 := (hb.cell (p := ⟨B, 0, none⟩) hBs).trans hB0; have hb1 := (hb.cell (p := ⟨B, 1, none⟩) hBs).trans hB1; have hf0 := (hb.frozen (p := ⟨B, 0, none⟩) hBs).trans hF0; have hf1 := (hb.frozen (p := ⟨B, 1, none⟩) hBs).trans hF1
  rcases h with ⟨h1, rfl⟩ | ⟨h1, rfl⟩
  · go_wp2; exact ⟨rfl, grown_of_below hb, .inl ⟨h1, rfl⟩⟩
  · go_wp2; refine bodyPost_end (v := .tuple #[]) (by simp [results, Tryz.results83, go_sem]) rfl ⟨grown_set2 (grown_of_below hb) _ _, .inr ⟨h1, rfl, ?_, ?_⟩⟩
    · simp [go_sem, *]
    · simp [go_sem, *]
set_option maxRecDepth 100000 in
set_option maxHeartbeats 1000000 in
theorem lime_good (sp : List Int) (st : List S32) (A0_0 A0_1 A2 : Option Addr) (c0_0 c0_1 c2 : Nat) (n : Int) (notes : List S68) (w : World)
    (hr0_0 : Kd.C (Kd.int .i64) w A0_0 sp.length sp) (hc0_0 : sp.length ≤ c0_0) (hr0_1 : Kd.C k32 w A0_1 st.length st) (hc0_1 : st.length ≤ c0_1) (hr2 : Kd.C k68 w A2 notes.length notes) (hc2 : notes.length ≤ c2)
    (hok : limeB sp st n notes = true) (N : Nat) (L : List Int) (hN : (rd_T32 st n).f3.f0 + N = (rd_T32 st n).f3.f1 + 1) (hL : ratesL sp st n notes N (rd_T32 st n).f3.f0 = some L) :
    Calls Tryz.prog 38 #[.agg #[.slice A0_0 sp.length c0_0, .slice A0_1 st.length c0_1], .int .i64 n, .slice A2 notes.length c2] w (LimePost L w) := by
  have hu1 := Tryz.underlying25; have hu2 := Tryz.underlying30; have hmf : ∀ (fn : Fn) (first cap : Array Value) (w : World), (Instr.makeFunc fn first cap).run Tryz.prog w = .ok (.func fn first cap) w := fun _ _ _ _ => rfl; unfold limeB at hok; simp only [Bool.and_eq_true, decide_eq_true_eq] at hok; obtain ⟨⟨⟨h1, h2⟩, h3⟩, h4⟩ := hok; have h1' := h1; have h2' := h2; simp only [isLineB, inB, Bool.and_eq_true, decide_eq_true_eq] at h1' h2'; have h3' : decide ((8 : Int) < (notes.length : Int)) = false := decide_eq_false (by omega)
  have hrange : 0 ≤ (rd_T32 st n).f3.f0 ∧ (rd_T32 st n).f3.f1 ≤ 100 := by
    have hlt : n.toNat < st.length := by omega
    have hx := List.all_eq_true.mp h1'.2 (st[n.toNat]) (List.getElem_mem hlt); have he : rd_T32 st n = st[n.toNat] := by simp [rd_T32, List.getD, List.getElem?_eq_getElem hlt]
    rw [he]; simp only [stretchB, isSpanB, Bool.and_eq_true, decide_eq_true_eq] at hx
    omega
  have HRNG := Aside0.mk (And.intro h2' hrange)
  have CL : Aside0 (∀ W, Below w.heap.size w W → Calls Tryz.prog 54 #[.agg #[.slice A0_0 sp.length c0_0, .slice A0_1 st.length c0_1]] W fun e w' => e = .returned (.bool true) ∧ Below W.heap.size W w') :=
    ⟨fun W hW => h1 ▸ channel_isLine.calls A0_0 c0_0 sp A0_1 c0_1 st _ W (Kd.C_below hr0_0 hW) hc0_0 (Kd.C_below hr0_1 hW) hc0_1 (by unfold channel_isLine.f; rw [if_pos ⟨by omega, by omega⟩])⟩
  have CN : Aside0 (∀ W, Below w.heap.size w W → Calls Tryz.prog 81 #[.slice A2 notes.length c2, .func (.func 79) #[] #[]] W fun e w' => e = .returned (.bool false) ∧ Below W.heap.size W w') :=
    ⟨fun W hW => by
      have := contFuncNote A2 c2 notes 79 #[] (fun x => !noteB x) W (Kd.C_below hr2 hW) hc2 (by omega) (enters_of Tryz.func79 (by kernel_rfl) rfl) (fun W' x _ => Lime1_any x W')
      rwa [any_not_all, h4] at this⟩
  have CS : Aside0 (∀ W, Calls Tryz.prog 55 #[.agg #[.slice A0_0 sp.length c0_0, .slice A0_1 st.length c0_1], .int .i64 n] W fun e w' => e = .returned (.bool true) ∧ Below W.heap.size W w') :=
    ⟨fun W => h2 ▸ isStretch_any A0_0 c0_0 sp A0_1 c0_1 st n (by omega) W⟩
  
  have CA : Aside0 (∀ W, LimeW w A0_0 A0_1 A2 c0_0 c0_1 c2 sp.length st.length notes.length n W → ∀ W4, W4 = W.alloc (.cells #[.int .i64 0, .int .i64 0] 30) →
      Calls Tryz.prog 82 #[.func (.func 83) #[] #[.pointer (some ⟨w.heap.size, 0, none⟩), .pointer (some ⟨w.heap.size + 1, 0, none⟩), .pointer (some ⟨w.heap.size + 2, 0, none⟩), .pointer (some ⟨W.heap.size, 0, none⟩)]] W4 fun e w' =>
        Below w.heap.size w w' ∧ (w'.cell? ⟨w.heap.size + 3, 0, none⟩ = some (.int .i64 0) ∧ w'.cell? ⟨w.heap.size + 3, 1, none⟩ = some (.int .i64 0) ∧ w'.frozen? ⟨w.heap.size + 3, 0, none⟩ = false ∧ w'.frozen? ⟨w.heap.size + 3, 1, none⟩ = false) ∧
        ((L ≠ [] ∧ e = .returned (.int .i64 0) ∧ w'.cell? ⟨W.heap.size, 0, none⟩ = some (.int .i64 (rd L 0)) ∧ w'.cell? ⟨W.heap.size, 1, none⟩ = some (.int .i64 (rd L ((L.length : Int) - 1)))) ∨ (L = [] ∧ e = .returned (.int .i64 7)))) := ⟨by
    intro W hW W4 hW4; have s4 : W4.heap.size = W.heap.size + 1 := by rw [hW4]; simp
    have hb4 : Below W.heap.size W W4 := by rw [hW4]; exact (Below.refl _ _).alloc (Nat.le_refl _) _
    have hW4' := hW.below (hb4.mono hW.lt); have hb5 : Below W4.heap.size W4 (W4.alloc (.cells #[.int .i64 0] 34)) := (Below.refl _ _).alloc (Nat.le_refl _) _; have hW5 := hW4'.below (hb5.mono hW4'.lt)
    have hdo := Lime2_any sp st A0_0 A0_1 A2 c0_0 c0_1 c2 n notes w _ W.heap.size hr0_0 hc0_0 hr0_1 hc0_1 hr2 hc2 hW5 hW.lt (by simp; omega)
      ((hb5.cell (p := ⟨W.heap.size, 0, none⟩) (by simp; omega)).trans (by rw [hW4]; simp [go_sem])) ((hb5.cell (p := ⟨W.heap.size, 1, none⟩) (by simp; omega)).trans (by rw [hW4]; simp [go_sem]))
      ((hb5.frozen (p := ⟨W.heap.size, 0, none⟩) (by simp; omega)).trans (by rw [hW4]; simp [go_sem])) ((hb5.frozen (p := ⟨W.heap.size, 1, none⟩) (by simp; omega)).trans (by rw [hW4]; simp [go_sem]))
      (by omega) (by omega) hrange.1 (by omega) (by omega) N L hN hL
    refine (attempt_any 83 W.heap.size _ W4 (by omega) (fun W' => L ≠ [] ∧ W'.cell? ⟨W.heap.size, 0, none⟩ = some (.int .i64 (rd L 0)) ∧ W'.cell? ⟨W.heap.size, 1, none⟩ = some (.int .i64 (rd L ((L.length : Int) - 1)))) (fun _ => L = []) (fun _ => False) (enters_of Tryz.func83 (by kernel_rfl) rfl)
      (hdo.mono fun e w' ⟨hg, h⟩ => ⟨hg, h.elim (fun ⟨ha, hb⟩ => .inr (.inl ⟨n, hb, ha⟩)) (fun ⟨ha, hb, hc⟩ => .inl ⟨hb, ha, hc⟩)⟩)).mono ?_
    rintro e w' ⟨w1, k, rfl, hg1, hg2, h⟩; have hs5 : (W4.alloc (.cells #[.int .i64 0] 34)).heap.size = W.heap.size + 2 := by simp; omega
    have hs1 : W.heap.size + 2 ≤ w1.heap.size := by have := hg1.size; omega
    have far1 : ∀ o, w1.cell? ⟨w.heap.size + 3, o, none⟩ = (W4.alloc (.cells #[.int .i64 0] 34)).cell? ⟨w.heap.size + 3, o, none⟩ := fun o => hg1.cell_far ⟨w.heap.size + 3, o, none⟩ (by have := hW.lt; simp; omega) (by have := hW.lt; simp; omega); have far2 : ∀ b o, b < W.heap.size + 1 → w'.cell? ⟨b, o, none⟩ = w1.cell? ⟨b, o, none⟩ := fun b o hb => hg2.cell_far ⟨b, o, none⟩ (by simp; omega) (by simp; omega); have fz1 : ∀ o, w1.frozen? ⟨w.heap.size + 3, o, none⟩ = (W4.alloc (.cells #[.int .i64 0] 34)).frozen? ⟨w.heap.size + 3, o, none⟩ := fun o => hg1.frozen_far ⟨w.heap.size + 3, o, none⟩ (by have := hW.lt; simp; omega) (by have := hW.lt; simp; omega); have fz2 : ∀ o, w'.frozen? ⟨w.heap.size + 3, o, none⟩ = w1.frozen? ⟨w.heap.size + 3, o, none⟩ := fun o => hg2.frozen_far ⟨w.heap.size + 3, o, none⟩ (by have := hW.lt; simp; omega) (by have := hW.lt; simp; omega); have hlt := hW.lt; refine ⟨(hW5.hb.grown hg1 (by omega) (by intro k hk; cases hk; omega)).grown hg2 (by omega) (by intro k hk; cases hk; omega), ⟨?_, ?_, ?_, ?_⟩, ?_⟩
    · rw [far2 _ _ (by omega), far1]; exact hW5.o0
    · rw [far2 _ _ (by omega), far1]; exact hW5.o1
    · rw [fz2, fz1]; exact hW5.f0
    · rw [fz2, fz1]; exact hW5.f1
    · rcases h with ⟨rfl, ha, hb, hc⟩ | ⟨rfl, ha⟩ | ⟨_, ha⟩
      · exact .inl ⟨ha, rfl, (far2 _ _ (by omega)).trans hb, (far2 _ _ (by omega)).trans hc⟩
      · exact .inr ⟨ha, rfl⟩
      · exact ha.elim⟩
  clear hr0_0 hr0_1 hr2 h1' h2' hrange hN hL h4
  go_enter Tryz.func38, Tryz.ntmps38
  go_upto_region 2 with (fail)
  generalize hW0 : World.alloc _ _ = W0; have R0 : LimeW w A0_0 A0_1 A2 c0_0 c0_1 c2 sp.length st.length notes.length n W0 := by rw [← hW0]; exact LimeW.new ..
  clear hW0; have a1 := R0.sp; have a2 := R0.st
  go_wp2_with (first | (go_at_call 54; refine (CL.out _ R0.hb).mono ?_; rintro e w1 ⟨rfl, hb1⟩; have R1 := R0.below (hb1.mono R0.lt); clear a1 a2 hb1 R0; have a1 := R1.sp; have a2 := R1.st; have a3 := R1.n) | (go_at_call 55; refine (CS.out _).mono ?_; rintro e w2 ⟨rfl, hb2⟩; have R2 := R1.below (hb2.mono R1.lt); clear a1 a2 a3 hb2 R1; have a4 := R2.no) | (go_at_call 81; refine (CN.out _ R2.hb).mono ?_; rintro e w3 ⟨rfl, hb3⟩; have R3 := R2.below (hb3.mono R2.lt); clear a4 hb3 R2))
  refine (CA.out w3 R3 _ rfl).mono ?_; clear CA CL CN CS R3; have hle : w.heap.size ≤ w.heap.size + 1 + 1 + 1 := by omega
  rintro e w4 ⟨hb, ⟨o0, o1, f0, f1⟩, ⟨hne, rfl, c0, c1⟩ | ⟨he, rfl⟩⟩
  · go_wp2; refine bodyPost_ret (v := .tuple #[.agg #[.int .i64 (rd L 0), .int .i64 (rd L ((L.length : Int) - 1))], .int .i64 0]) (by simp [results, Tryz.results38, go_sem, *]) rfl ⟨by rw [if_neg hne], ?_⟩; exact below_set (below_set hb hle) hle
  · go_wp2; refine bodyPost_ret (v := .tuple #[.agg #[.int .i64 0, .int .i64 0], .int .i64 7]) (by simp [results, Tryz.results38, go_sem, *]) rfl ⟨by rw [if_pos he], ?_⟩; exact below_set (below_set hb hle) hle
def channel_Lime.f (sp : List Int) (st : List S32) (n : Int) (notes : List S68) : Option (Int × Int × Int) :=
  if sp.length ≤ 9223372036854775807 ∧ st.length ≤ 9223372036854775807 ∧ notes.length ≤ 9223372036854775807 then
    if limeB sp st n notes = true then (ratesL sp st n notes ((rd_T32 st n).f3.f1 + 1 - (rd_T32 st n).f3.f0).toNat (rd_T32 st n).f3.f0).bind fun L => some (if L = [] then (0, 0, 7) else (rd L 0, rd L ((L.length : Int) - 1), 0))
    else some (0, 0, 2)
  else none
theorem channel_Lime.calls (A0_0 : Option Addr) (c0_0 : Nat) (l0_0 : List Int) (A0_1 : Option Addr) (c0_1 : Nat) (l0_1 : List S32) (a1 : Int) (A2 : Option Addr) (c2 : Nat) (l2 : List S68) (r1 r2 r3 : Int) (w : World) (hr0_0 : Kd.C (Kd.int .i64) w A0_0 l0_0.length l0_0) (hc0_0 : l0_0.length ≤ c0_0) (hr0_1 : Kd.C k32 w A0_1 l0_1.length l0_1) (hc0_1 : l0_1.length ≤ c0_1) (hr2 : Kd.C k68 w A2 l2.length l2) (hc2 : l2.length ≤ c2) (h : channel_Lime.f l0_0 l0_1 a1 l2 = some (r1, r2, r3)) :
    Calls Tryz.prog 38 #[.agg #[.slice A0_0 l0_0.length c0_0, .slice A0_1 l0_1.length c0_1], .int .i64 a1, .slice A2 l2.length c2] w fun e w' => e = .returned (.tuple #[.agg #[.int .i64 r1, .int .i64 r2], .int .i64 r3]) ∧ Below w.heap.size w w' := by
  unfold channel_Lime.f at h
  by_cases hl : l0_0.length ≤ 9223372036854775807 ∧ l0_1.length ≤ 9223372036854775807 ∧ l2.length ≤ 9223372036854775807
  case neg => rw [if_neg hl] at h; cases h
  rw [if_pos hl] at h
  cases hb : limeB l0_0 l0_1 a1 l2 with
  | false =>
    rw [if_neg (by rw [hb]; decide)] at h; obtain ⟨rfl, rfl, rfl⟩ : r1 = 0 ∧ r2 = 0 ∧ r3 = 2 := by simp at h; omega
    exact lime_bad l0_0 l0_1 A0_0 A0_1 A2 c0_0 c0_1 c2 a1 l2 w hr0_0 hc0_0 hr0_1 hc0_1 hr2 hc2 hl.1 hl.2.1 hl.2.2 hb
  | true =>
    rw [if_pos hb] at h; obtain ⟨L, hL, h⟩ := Option.bind_eq_some_iff.mp h; have hb' := hb; simp only [limeB, isLineB, inB, Bool.and_eq_true, decide_eq_true_eq] at hb'; have hlt : a1.toNat < l0_1.length := by omega
    have hx := List.all_eq_true.mp hb'.1.1.1.2 (l0_1[a1.toNat]) (List.getElem_mem hlt); have he : rd_T32 l0_1 a1 = l0_1[a1.toNat] := by simp [rd_T32, List.getD, List.getElem?_eq_getElem hlt]
    simp only [stretchB, isSpanB, Bool.and_eq_true, decide_eq_true_eq] at hx; refine (lime_good l0_0 l0_1 A0_0 A0_1 A2 c0_0 c0_1 c2 a1 l2 w hr0_0 hc0_0 hr0_1 hc0_1 hr2 hc2 hb _ L ?_ hL).mono ?_
    · rw [he]; omega
    · rintro e w' ⟨rfl, hw⟩; refine ⟨?_, hw⟩
      by_cases hn : L = []
      · rw [if_pos hn] at h ⊢; simp at h; obtain ⟨rfl, rfl, rfl⟩ := h; rfl
      · rw [if_neg hn] at h ⊢; simp at h; obtain ⟨rfl, rfl, rfl⟩ := h; rfl
end Go.Proofs.YtdmdahafiiggiaaGreatDoor.K
end
section
namespace Go.Proofs.YtdmdahafiiggiaaGreatDoor.K
open Go.RowKit Go.Proofs.YtdmdahafiiggiaaGreatDoorW.PrintWords Go.Proofs.YtdmdahafiiggiaaGreatDoorW.PrintLast Go.Proofs.YtdmdahafiiggiaaGreatDoorW.PrintMore
attribute [local go_sem] max2_int min2_int max_two min_two max_three min_three max_four min_four
def quinarialaw02_P.f  : Option (List Int × (List (S32))) := some ((([10, 20, 30] : List Int)), (([(⟨20, 30, 1, (⟨4, 10⟩ : S30)⟩ : S32), (⟨24, 25, 0, (⟨0, 5⟩ : S30)⟩ : S32), (⟨10, 20, 2, (⟨10, 10⟩ : S30)⟩ : S32)] : List (S32))))
set_option maxHeartbeats 8000000 in
set_option maxRecDepth 100000 in
theorem quinarialaw02_P.calls  (r1 : List Int) (r2 : List (S32)) (w : World) (h : quinarialaw02_P.f  = some (r1, r2)) :
  Calls Tryz.prog 44 #[] w fun e w' => ∃ v0_ v1_ : Value, e = .returned (.agg #[v0_, v1_]) ∧ Kd.R (Kd.int .i64) 3 w' w.heap.size (fun _ => True) v0_ r1 ∧ Kd.R k32 32 w' w.heap.size (fun _ => True) v1_ r2 ∧ Below w.heap.size w w' := by
 have hu25 := Tryz.underlying25; have hu30 := Tryz.underlying30; have hu32 := Tryz.underlying32; have HB := Aside0.mk (Below.refl w.heap.size w); have H : (some ((([10, 20, 30] : List Int)), (([(⟨20, 30, 1, (⟨4, 10⟩ : S30)⟩ : S32), (⟨24, 25, 0, (⟨0, 5⟩ : S30)⟩ : S32), (⟨10, 20, 2, (⟨10, 10⟩ : S30)⟩ : S32)] : List (S32))))) = some (r1, r2) := h; clear h; obtain ⟨y362, hy362⟩ : ∃ y_ : List Int, y_ = (([10, 20, 30] : List Int)) := ⟨_, rfl⟩; rw [← hy362] at H; have Ny362 := Aside0.mk hy362; clear hy362; obtain ⟨y365, hy365⟩ : ∃ y_ : List (S32), y_ = (([(⟨20, 30, 1, (⟨4, 10⟩ : S30)⟩ : S32), (⟨24, 25, 0, (⟨0, 5⟩ : S30)⟩ : S32), (⟨10, 20, 2, (⟨10, 10⟩ : S30)⟩ : S32)] : List (S32))) := ⟨_, rfl⟩; rw [← hy365] at H; have Ny365 := Aside0.mk hy365; clear hy365; simp only [Option.some.injEq, Prod.mk.injEq] at H; obtain ⟨rfl, rfl⟩ := H
 go_enter Tryz.func44, Tryz.ntmps44
 go_wp2_with (first | ((with_reducible refine gate_dst (N := 0) rfl ?_); refine bxe 0 #[.slice none 0 0, .slice none 0 0] 25 ?_; intro gb361 hg w1 hbox hb; have n0_ := Aside0.mk (below_step HB.out hb); have n1_ := Aside0.mk (hbox); have n2_ := gw hg; have n3_ := n2_; clear HB; have HB := n0_; have BK361 := n1_; have GW361 := n2_; have GE361 := n3_; clear n0_ n1_ n2_ n3_; clear hb hbox hg) | ((with_reducible refine gate_dst (N := 1) rfl ?_); refine Kd.R_lit (Kd.int .i64) _ 3 ?hg (N := 1) ?hd (xs := ([10, 20, 30] : List Int)) (inner := [.int .i64 10, .int .i64 20, .int .i64 30]) (ok := fun _ => True) (okp := fun _ => True) ?hr ?hp (fun _ hk => hk) trivial (Below.refl _ _) (Nat.le_refl _) (by simp) ?_; (case hd => rfl); (case hg => rfl); (case hr => first | (go_simp; done) | (go_simp; rfl)); (case hp => exact (Reps.one (show Kd.M (Kd.int .i64) _ _ _ 10 [.int .i64 10] from rfl) (Reps.one (show Kd.M (Kd.int .i64) _ _ _ 20 [.int .i64 20] from rfl) (Reps.one (show Kd.M (Kd.int .i64) _ _ _ 30 [.int .i64 30] from rfl) (Reps.none _ _))))); intro v363 w2 ho3 hb hg_ hnew_; clear hg_ hnew_; (first | rw [← Ny362.out] at ho3 | (simp only [Int.reduceToNat] at ho3; rw [← Ny362.out] at ho3)); have HO364 := Aside0.mk (Kd.R_lower ho3 (below_size HB.out)); replace BK361 := Aside0.mk (blk_below BK361.out hb); replace HB := Aside0.mk (below_step HB.out hb); clear hb ho3) | ((with_reducible refine gate_dst (N := 8) rfl ?_); refine Kd.R_lit k32 _ 32 ?hg (N := 8) ?hd (xs := ([(⟨20, 30, 1, (⟨4, 10⟩ : S30)⟩ : S32), (⟨24, 25, 0, (⟨0, 5⟩ : S30)⟩ : S32), (⟨10, 20, 2, (⟨10, 10⟩ : S30)⟩ : S32)] : List (S32))) (inner := [.int .i64 20, .int .i64 30, .int .i64 1, .int .i64 4, .int .i64 10, .int .i64 24, .int .i64 25, .int .i64 0, .int .i64 0, .int .i64 5, .int .i64 10, .int .i64 20, .int .i64 2, .int .i64 10, .int .i64 10]) (ok := fun _ => True) (okp := fun _ => True) ?hr ?hp (fun _ hk => hk) trivial (Below.refl _ _) (Nat.le_refl _) (by simp) ?_; (case hd => rfl); (case hg => rfl); (case hr => first | (go_simp; done) | (go_simp; rfl)); (case hp => exact (Reps.c5 (show Kd.M k32 _ _ _ (⟨20, 30, 1, (⟨4, 10⟩ : S30)⟩ : S32) [.int .i64 20, .int .i64 30, .int .i64 1, .int .i64 4, .int .i64 10] from (k32_mkM _ _ _ (⟨20, 30, 1, (⟨4, 10⟩ : S30)⟩ : S32) )) (Reps.c5 (show Kd.M k32 _ _ _ (⟨24, 25, 0, (⟨0, 5⟩ : S30)⟩ : S32) [.int .i64 24, .int .i64 25, .int .i64 0, .int .i64 0, .int .i64 5] from (k32_mkM _ _ _ (⟨24, 25, 0, (⟨0, 5⟩ : S30)⟩ : S32) )) (Reps.c5 (show Kd.M k32 _ _ _ (⟨10, 20, 2, (⟨10, 10⟩ : S30)⟩ : S32) [.int .i64 10, .int .i64 20, .int .i64 2, .int .i64 10, .int .i64 10] from (k32_mkM _ _ _ (⟨10, 20, 2, (⟨10, 10⟩ : S30)⟩ : S32) )) (Reps.none _ _))))); intro v366 w4 ho5 hb hg_ hnew_; clear hg_ hnew_; (first | rw [← Ny365.out] at ho5 | (simp only [Int.reduceToNat] at ho5; rw [← Ny365.out] at ho5)); replace HO364 := Aside0.mk (Kd.R_below (uR HO364.out) hb); have HO367 := Aside0.mk (Kd.R_lower ho5 (below_size HB.out)); replace BK361 := Aside0.mk (blk_below BK361.out hb); replace HB := Aside0.mk (below_step HB.out hb); clear hb ho5; obtain ⟨Ao6, co6, eo6⟩ := Kd.R_slice HO367.out; subst eo6; obtain ⟨Ao7, co7, eo7⟩ := Kd.R_slice HO364.out; subst eo7; obtain ⟨hcz8_0, hcz8_1⟩ := cz2 BK361.out; obtain ⟨hfz8_0, hfz8_1⟩ := fz2 BK361.out))
 refine bodyPost_ret (results_cell_row rfl _ _ gb361 25 #[.slice Ao7 y362.length co7, .slice Ao6 y365.length co6] (0, 0) _ rfl (by refine uK ?_; refine blk_put (cs := #[.slice Ao7 y362.length co7, .slice none 0 0]) ?_ 1 _ rfl; refine uK ?_; refine blk_put (cs := #[.slice none 0 0, .slice none 0 0]) ?_ 0 _ rfl; refine uK ?_; exact BK361.out) Tryz.underlying25 rfl (by kernel_rfl)) rfl ?_; exact ⟨_, _, uE, by refine uR ?_; exact Kd.R_mono (Kd.R_far (p := ⟨gb361, 1, none⟩) (Kd.R_far (p := ⟨gb361, 0, none⟩) (Kd.R_types HO364.out BK361.out (by decide)) (fun _ hk => hk.2) (.slice Ao7 y362.length co7)) (fun _ hk => hk.2) (.slice Ao6 y365.length co6)) (fun _ hk => trivial), by refine uR ?_; exact Kd.R_mono (Kd.R_far (p := ⟨gb361, 1, none⟩) (Kd.R_far (p := ⟨gb361, 0, none⟩) (Kd.R_types HO367.out BK361.out (by decide)) (fun _ hk => hk.2) (.slice Ao7 y362.length co7)) (fun _ hk => hk.2) (.slice Ao6 y365.length co6)) (fun _ hk => trivial), uB⟩
end Go.Proofs.YtdmdahafiiggiaaGreatDoor.K
end
section
namespace Go.Proofs.YtdmdahafiiggiaaGreatDoor.K
open Go.RowKit Go.Proofs.YtdmdahafiiggiaaGreatDoorW.PrintWords Go.Proofs.YtdmdahafiiggiaaGreatDoorW.PrintLast Go.Proofs.YtdmdahafiiggiaaGreatDoorW.PrintMore
attribute [local go_sem] max2_int min2_int max_two min_two max_three min_three max_four min_four
def quinarialaw02_S.f  : Option (Int × Int × (List (S30)) × List Int) := some (100, 104, (([(⟨98, 100⟩ : S30), (⟨60, 62⟩ : S30), (⟨40, 41⟩ : S30), (⟨70, 72⟩ : S30), (⟨95, 96⟩ : S30)] : List (S30))), (([10, 20, 20, 10] : List Int)))
set_option maxHeartbeats 8000000 in
set_option maxRecDepth 100000 in
theorem quinarialaw02_S.calls  (r1 : Int) (r2 : Int) (r3 : List (S30)) (r4 : List Int) (w : World) (h : quinarialaw02_S.f  = some (r1, r2, r3, r4)) :
  Calls Tryz.prog 46 #[] w fun e w' => ∃ v2_ v3_ : Value, e = .returned (.agg #[.int .i64 r1, .int .i64 r2, v2_, v3_]) ∧ Kd.R k30 30 w' w.heap.size (fun _ => True) v2_ r3 ∧ Kd.R (Kd.int .i64) 3 w' w.heap.size (fun _ => True) v3_ r4 ∧ Below w.heap.size w w' := by
 have hu78 := Tryz.underlying78; have hu30 := Tryz.underlying30; have HB := Aside0.mk (Below.refl w.heap.size w); have H : (some (100, 104, (([(⟨98, 100⟩ : S30), (⟨60, 62⟩ : S30), (⟨40, 41⟩ : S30), (⟨70, 72⟩ : S30), (⟨95, 96⟩ : S30)] : List (S30))), (([10, 20, 20, 10] : List Int)))) = some (r1, r2, r3, r4) := h; clear h; obtain ⟨y385, hy385⟩ : ∃ y_ : List (S30), y_ = (([(⟨98, 100⟩ : S30), (⟨60, 62⟩ : S30), (⟨40, 41⟩ : S30), (⟨70, 72⟩ : S30), (⟨95, 96⟩ : S30)] : List (S30))) := ⟨_, rfl⟩; rw [← hy385] at H; have Ny385 := Aside0.mk hy385; clear hy385; obtain ⟨y388, hy388⟩ : ∃ y_ : List Int, y_ = (([10, 20, 20, 10] : List Int)) := ⟨_, rfl⟩; rw [← hy388] at H; have Ny388 := Aside0.mk hy388; clear hy388; simp only [Option.some.injEq, Prod.mk.injEq] at H; obtain ⟨rfl, rfl, rfl, rfl⟩ := H
 go_enter Tryz.func46, Tryz.ntmps46
 go_wp2_with (first | ((with_reducible refine gate_dst (N := 0) rfl ?_); refine bxe 0 #[.int .i64 0, .int .i64 0, .slice none 0 0, .slice none 0 0] 78 ?_; intro gb384 hg w1 hbox hb; have n0_ := Aside0.mk (below_step HB.out hb); have n1_ := Aside0.mk (hbox); have n2_ := gw hg; have n3_ := n2_; clear HB; have HB := n0_; have BK384 := n1_; have GW384 := n2_; have GE384 := n3_; clear n0_ n1_ n2_ n3_; clear hb hbox hg) | ((with_reducible refine gate_dst (N := 7) rfl ?_); refine Kd.R_lit k30 _ 30 ?hg (N := 7) ?hd (xs := ([(⟨98, 100⟩ : S30), (⟨60, 62⟩ : S30), (⟨40, 41⟩ : S30), (⟨70, 72⟩ : S30), (⟨95, 96⟩ : S30)] : List (S30))) (inner := [.int .i64 98, .int .i64 100, .int .i64 60, .int .i64 62, .int .i64 40, .int .i64 41, .int .i64 70, .int .i64 72, .int .i64 95, .int .i64 96]) (ok := fun _ => True) (okp := fun _ => True) ?hr ?hp (fun _ hk => hk) trivial (Below.refl _ _) (Nat.le_refl _) (by simp) ?_; (case hd => rfl); (case hg => rfl); (case hr => first | (go_simp; done) | (go_simp; rfl)); (case hp => exact (Reps.c2 (show Kd.M k30 _ _ _ (⟨98, 100⟩ : S30) [.int .i64 98, .int .i64 100] from (k30_mkM _ _ _ (⟨98, 100⟩ : S30) )) (Reps.c2 (show Kd.M k30 _ _ _ (⟨60, 62⟩ : S30) [.int .i64 60, .int .i64 62] from (k30_mkM _ _ _ (⟨60, 62⟩ : S30) )) (Reps.c2 (show Kd.M k30 _ _ _ (⟨40, 41⟩ : S30) [.int .i64 40, .int .i64 41] from (k30_mkM _ _ _ (⟨40, 41⟩ : S30) )) (Reps.c2 (show Kd.M k30 _ _ _ (⟨70, 72⟩ : S30) [.int .i64 70, .int .i64 72] from (k30_mkM _ _ _ (⟨70, 72⟩ : S30) )) (Reps.c2 (show Kd.M k30 _ _ _ (⟨95, 96⟩ : S30) [.int .i64 95, .int .i64 96] from (k30_mkM _ _ _ (⟨95, 96⟩ : S30) )) (Reps.none _ _))))))); intro v386 w2 ho3 hb hg_ hnew_; clear hg_ hnew_; (first | rw [← Ny385.out] at ho3 | (simp only [Int.reduceToNat] at ho3; rw [← Ny385.out] at ho3)); have HO387 := Aside0.mk (Kd.R_lower ho3 (below_size HB.out)); replace BK384 := Aside0.mk (blk_below BK384.out hb); replace HB := Aside0.mk (below_step HB.out hb); clear hb ho3) | ((with_reducible refine gate_dst (N := 8) rfl ?_); refine Kd.R_lit (Kd.int .i64) _ 3 ?hg (N := 8) ?hd (xs := ([10, 20, 20, 10] : List Int)) (inner := [.int .i64 10, .int .i64 20, .int .i64 20, .int .i64 10]) (ok := fun _ => True) (okp := fun _ => True) ?hr ?hp (fun _ hk => hk) trivial (Below.refl _ _) (Nat.le_refl _) (by simp) ?_; (case hd => rfl); (case hg => rfl); (case hr => first | (go_simp; done) | (go_simp; rfl)); (case hp => exact (Reps.one (show Kd.M (Kd.int .i64) _ _ _ 10 [.int .i64 10] from rfl) (Reps.one (show Kd.M (Kd.int .i64) _ _ _ 20 [.int .i64 20] from rfl) (Reps.one (show Kd.M (Kd.int .i64) _ _ _ 20 [.int .i64 20] from rfl) (Reps.one (show Kd.M (Kd.int .i64) _ _ _ 10 [.int .i64 10] from rfl) (Reps.none _ _)))))); intro v389 w4 ho5 hb hg_ hnew_; clear hg_ hnew_; (first | rw [← Ny388.out] at ho5 | (simp only [Int.reduceToNat] at ho5; rw [← Ny388.out] at ho5)); replace HO387 := Aside0.mk (Kd.R_below (uR HO387.out) hb); have HO390 := Aside0.mk (Kd.R_lower ho5 (below_size HB.out)); replace BK384 := Aside0.mk (blk_below BK384.out hb); replace HB := Aside0.mk (below_step HB.out hb); clear hb ho5; obtain ⟨Ao6, co6, eo6⟩ := Kd.R_slice HO390.out; subst eo6; obtain ⟨Ao7, co7, eo7⟩ := Kd.R_slice HO387.out; subst eo7; obtain ⟨hcz8_0, hcz8_1, hcz8_2, hcz8_3⟩ := cz4 BK384.out; obtain ⟨hfz8_0, hfz8_1, hfz8_2, hfz8_3⟩ := fz4 BK384.out))
 refine bodyPost_ret (results_cell_row rfl _ _ gb384 78 #[.int .i64 100, .int .i64 104, .slice Ao7 y385.length co7, .slice Ao6 y388.length co6] (0, 0) _ rfl (by refine uK ?_; refine blk_put (cs := #[.int .i64 100, .int .i64 104, .slice Ao7 y385.length co7, .slice none 0 0]) ?_ 3 _ rfl; refine uK ?_; refine blk_put (cs := #[.int .i64 100, .int .i64 104, .slice none 0 0, .slice none 0 0]) ?_ 2 _ rfl; refine uK ?_; refine blk_put (cs := #[.int .i64 100, .int .i64 0, .slice none 0 0, .slice none 0 0]) ?_ 1 _ rfl; refine uK ?_; refine blk_put (cs := #[.int .i64 0, .int .i64 0, .slice none 0 0, .slice none 0 0]) ?_ 0 _ rfl; refine uK ?_; exact BK384.out) Tryz.underlying78 rfl (by kernel_rfl)) rfl ?_; exact ⟨_, _, uE, by refine uR ?_; exact Kd.R_mono (Kd.R_far (p := ⟨gb384, 3, none⟩) (Kd.R_far (p := ⟨gb384, 2, none⟩) (Kd.R_far (p := ⟨gb384, 1, none⟩) (Kd.R_far (p := ⟨gb384, 0, none⟩) (Kd.R_types HO387.out BK384.out (by decide)) (fun _ hk => hk.2) (.int .i64 100)) (fun _ hk => hk.2) (.int .i64 104)) (fun _ hk => hk.2) (.slice Ao7 y385.length co7)) (fun _ hk => hk.2) (.slice Ao6 y388.length co6)) (fun _ hk => trivial), by refine uR ?_; exact Kd.R_mono (Kd.R_far (p := ⟨gb384, 3, none⟩) (Kd.R_far (p := ⟨gb384, 2, none⟩) (Kd.R_far (p := ⟨gb384, 1, none⟩) (Kd.R_far (p := ⟨gb384, 0, none⟩) (Kd.R_types HO390.out BK384.out (by decide)) (fun _ hk => hk.2) (.int .i64 100)) (fun _ hk => hk.2) (.int .i64 104)) (fun _ hk => hk.2) (.slice Ao7 y385.length co7)) (fun _ hk => hk.2) (.slice Ao6 y388.length co6)) (fun _ hk => trivial), uB⟩
end Go.Proofs.YtdmdahafiiggiaaGreatDoor.K
end
section
namespace Go.Proofs.YtdmdahafiiggiaaGreatDoor.K
open Go.RowKit Go.Proofs.YtdmdahafiiggiaaGreatDoorW.PrintWords Go.Proofs.YtdmdahafiiggiaaGreatDoorW.PrintLast Go.Proofs.YtdmdahafiiggiaaGreatDoorW.PrintMore
attribute [local go_sem] max2_int min2_int max_two min_two max_three min_three max_four min_four
def quinarialaw02_C.f  : Option ((List (S123))) := some (([(⟨30, 1, 1000⟩ : S123), (⟨50, 3, 15⟩ : S123), (⟨70, 5, 50⟩ : S123)] : List (S123)))
set_option maxHeartbeats 8000000 in
set_option maxRecDepth 100000 in
theorem quinarialaw02_C.calls  (r : List (S123)) (w : World) (h : quinarialaw02_C.f  = some r) :
  Calls Tryz.prog 49 #[] w fun e w' => ∃ v0_ : Value, e = .returned (v0_) ∧ Kd.R k123 123 w' w.heap.size (fun _ => True) v0_ r ∧ Below w.heap.size w w' := by
 have hu123 := Tryz.underlying123; have HB := Aside0.mk (Below.refl w.heap.size w); have H : (some (([(⟨30, 1, 1000⟩ : S123), (⟨50, 3, 15⟩ : S123), (⟨70, 5, 50⟩ : S123)] : List (S123)))) = some r := h; clear h; obtain ⟨y406, hy406⟩ : ∃ y_ : List (S123), y_ = (([(⟨30, 1, 1000⟩ : S123), (⟨50, 3, 15⟩ : S123), (⟨70, 5, 50⟩ : S123)] : List (S123))) := ⟨_, rfl⟩; rw [← hy406] at H; have Ny406 := Aside0.mk hy406; clear hy406; obtain rfl := Option.some.inj H
 go_enter Tryz.func49, Tryz.ntmps49
 go_wp2_with (first | ((with_reducible refine gate_dst (N := 4) rfl ?_); refine Kd.R_lit k123 _ 123 ?hg (N := 4) ?hd (xs := ([(⟨30, 1, 1000⟩ : S123), (⟨50, 3, 15⟩ : S123), (⟨70, 5, 50⟩ : S123)] : List (S123))) (inner := [.int .i64 30, .int .i64 1, .int .i64 1000, .int .i64 50, .int .i64 3, .int .i64 15, .int .i64 70, .int .i64 5, .int .i64 50]) (ok := fun _ => True) (okp := fun _ => True) ?hr ?hp (fun _ hk => hk) trivial (Below.refl _ _) (Nat.le_refl _) (by simp) ?_; (case hd => rfl); (case hg => rfl); (case hr => first | (go_simp; done) | (go_simp; rfl)); (case hp => exact (Reps.c3 (show Kd.M k123 _ _ _ (⟨30, 1, 1000⟩ : S123) [.int .i64 30, .int .i64 1, .int .i64 1000] from (k123_mkM _ _ _ (⟨30, 1, 1000⟩ : S123) )) (Reps.c3 (show Kd.M k123 _ _ _ (⟨50, 3, 15⟩ : S123) [.int .i64 50, .int .i64 3, .int .i64 15] from (k123_mkM _ _ _ (⟨50, 3, 15⟩ : S123) )) (Reps.c3 (show Kd.M k123 _ _ _ (⟨70, 5, 50⟩ : S123) [.int .i64 70, .int .i64 5, .int .i64 50] from (k123_mkM _ _ _ (⟨70, 5, 50⟩ : S123) )) (Reps.none _ _))))); intro v407 w1 ho2 hb hg_ hnew_; clear hg_ hnew_; (first | rw [← Ny406.out] at ho2 | (simp only [Int.reduceToNat] at ho2; rw [← Ny406.out] at ho2)); have HO408 := Aside0.mk (Kd.R_lower ho2 (below_size uB)); replace HB := Aside0.mk (below_step uB hb); clear hb ho2))
 go_ret; exact ⟨_, uE, uR HO408.out, uB⟩
end Go.Proofs.YtdmdahafiiggiaaGreatDoor.K
end
section
namespace Go.Proofs.YtdmdahafiiggiaaGreatDoor.K
open Go.RowKit Go.Proofs.YtdmdahafiiggiaaGreatDoorW.PrintWords Go.Proofs.YtdmdahafiiggiaaGreatDoorW.PrintLast Go.Proofs.YtdmdahafiiggiaaGreatDoorW.PrintMore
attribute [local go_sem] max2_int min2_int max_two min_two max_three min_three max_four min_four
def channel_isAge.f (a0 : Int) : Option (Bool) := (channel_in.f a0 0 200).bind fun t125 => (some t125)
set_option maxHeartbeats 8000000 in
set_option maxRecDepth 100000 in
theorem channel_isAge.calls (a0 : Int) (r : Bool) (w : World) (h : channel_isAge.f a0 = some r) :
  Calls Tryz.prog 56 #[.int .i64 a0] w fun e w' => e = .returned (.bool r) ∧ Drawn0 w w' := by
 have H : ((channel_in.f a0 0 200).bind fun t125 => (some t125)) = some r := h; clear h; replace H := Option.bind_eq_some_iff.mp H; obtain ⟨t125, A20, H⟩ := H; replace H : (some t125) = some r := H; have A2 := Aside0.mk A20; clear A20; obtain rfl := Option.some.inj H
 go_enter Tryz.func56, Tryz.ntmps56
 go_wp2_with (first | ((with_reducible refine gate_callee (f := 67) rfl ?_); refine goesL_ (some 4) rfl rfl Tryz.func67 (by kernel_rfl) rfl #[.int .i64 a0, .int .i64 0, .int .i64 200] rfl uM ?_; (with_reducible refine (channel_in.calls a0 0 200 t125 _ A2.out).mono ?_); rintro e w' ⟨rfl, ⟨nd, rfl⟩⟩; refine ⟨_, rfl, ?_⟩))
 go_ret; exact ⟨u0, by repeat (first | exact Drawn0.refl _ | apply Drawn0.step)⟩
end Go.Proofs.YtdmdahafiiggiaaGreatDoor.K
end
section
namespace Go.Proofs.YtdmdahafiiggiaaGreatDoor.K
open Go.RowKit Go.Proofs.YtdmdahafiiggiaaGreatDoorW.PrintWords Go.Proofs.YtdmdahafiiggiaaGreatDoorW.PrintLast Go.Proofs.YtdmdahafiiggiaaGreatDoorW.PrintMore
attribute [local go_sem] max2_int min2_int max_two min_two max_three min_three max_four min_four
def channel_aged_greatest.f (a0_0 : Int) (a0_1 : Int) (a0_2 : Int) (a0_3 : Int) (a0_4 : Int) (a0_5 : Int) (a0_6 : Int) : Option (Int) := (channel_aged_cups.f a0_0 a0_1 a0_2 a0_3 a0_4 a0_5 a0_6 a0_3).bind fun t103 => (some t103)
set_option maxHeartbeats 8000000 in
set_option maxRecDepth 100000 in
theorem channel_aged_greatest.calls (a0_0 : Int) (a0_1 : Int) (a0_2 : Int) (a0_3 : Int) (a0_4 : Int) (a0_5 : Int) (a0_6 : Int) (r : Int) (w : World) (h : channel_aged_greatest.f a0_0 a0_1 a0_2 a0_3 a0_4 a0_5 a0_6 = some r) :
  Calls Tryz.prog 101 #[.agg #[.int .i64 a0_0, .int .i64 a0_1, .int .i64 a0_2, .int .i64 a0_3, .int .i64 a0_4, .int .i64 a0_5, .int .i64 a0_6]] w fun e w' => e = .returned (.int .i64 r) ∧ Below w.heap.size w w' := by
 have hu93 := Tryz.underlying93; have HB := Aside0.mk (Below.refl w.heap.size w); have H : ((channel_aged_cups.f a0_0 a0_1 a0_2 a0_3 a0_4 a0_5 a0_6 a0_3).bind fun t103 => (some t103)) = some r := h; clear h; replace H := Option.bind_eq_some_iff.mp H; obtain ⟨t103, A20, H⟩ := H; replace H : (some t103) = some r := H; have A2 := Aside0.mk A20; clear A20; obtain rfl := Option.some.inj H
 go_enter Tryz.func101, Tryz.ntmps101
 go_wp2_with (first | ((with_reducible refine gate_dst (N := 1) rfl ?_); refine bxe 1 #[.int .i64 a0_0, .int .i64 a0_1, .int .i64 a0_2, .int .i64 a0_3, .int .i64 a0_4, .int .i64 a0_5, .int .i64 a0_6] 93 ?_; intro gb102 hg w3 hbox hb; have n0_ := Aside0.mk (below_step HB.out hb); have n1_ := Aside0.mk (hbox); have n2_ := gw hg; have n3_ := n2_; clear HB; have HB := n0_; have BK102 := n1_; have GW102 := n2_; have GE102 := n3_; clear n0_ n1_ n2_ n3_; clear hb hbox hg; obtain ⟨hcz4_0, hcz4_1, hcz4_2, hcz4_3, hcz4_4, hcz4_5, hcz4_6⟩ := cz7 BK102.out; obtain ⟨hfz4_0, hfz4_1, hfz4_2, hfz4_3, hfz4_4, hfz4_5, hfz4_6⟩ := fz7 BK102.out) | ((with_reducible refine gate_callee (f := 103) rfl ?_); refine goesL_ (some 8) rfl rfl Tryz.func103 (by kernel_rfl) rfl #[.agg #[.int .i64 a0_0, .int .i64 a0_1, .int .i64 a0_2, .int .i64 a0_3, .int .i64 a0_4, .int .i64 a0_5, .int .i64 a0_6], .int .i64 a0_3] rfl uM ?_; (with_reducible refine (channel_aged_cups.calls a0_0 a0_1 a0_2 a0_3 a0_4 a0_5 a0_6 a0_3 t103 _ A2.out).mono ?_); rintro e w5 ⟨rfl, hb⟩; refine ⟨_, rfl, ?_⟩; replace BK102 := Aside0.mk (blk_below BK102.out hb); replace HB := Aside0.mk (below_step HB.out hb); (try clear hb)))
 go_ret; exact ⟨uE, uB⟩
end Go.Proofs.YtdmdahafiiggiaaGreatDoor.K
end
section
namespace Go.Proofs.YtdmdahafiiggiaaGreatDoor.K
open Go.RowKit Go.Proofs.YtdmdahafiiggiaaGreatDoorW.PrintWords Go.Proofs.YtdmdahafiiggiaaGreatDoorW.PrintLast Go.Proofs.YtdmdahafiiggiaaGreatDoorW.PrintMore
def channel_aged_span.f (a0_0 a0_1 a0_2 a0_3 a0_4 a0_5 a0_6 : Int) : Option (Int × Int) := (channel_aged_least.f a0_0 a0_1 a0_2 a0_3 a0_4 a0_5 a0_6).bind fun lo => (channel_aged_greatest.f a0_0 a0_1 a0_2 a0_3 a0_4 a0_5 a0_6).bind fun hi => some (lo, hi)
set_option maxRecDepth 100000 in
set_option maxHeartbeats 1000000 in
theorem channel_aged_span.calls (a0_0 : Int) (a0_1 : Int) (a0_2 : Int) (a0_3 : Int) (a0_4 : Int) (a0_5 : Int) (a0_6 : Int) (r1 : Int) (r2 : Int) (w : World) (h : channel_aged_span.f a0_0 a0_1 a0_2 a0_3 a0_4 a0_5 a0_6 = some (r1, r2)) :
    Calls Tryz.prog 58 #[.agg #[.int .i64 a0_0, .int .i64 a0_1, .int .i64 a0_2, .int .i64 a0_3, .int .i64 a0_4, .int .i64 a0_5, .int .i64 a0_6]] w fun e w' => e = .returned (.agg #[.int .i64 r1, .int .i64 r2]) ∧ Below w.heap.size w w' := by
  unfold channel_aged_span.f at h; obtain ⟨lo, h1, h⟩ := Option.bind_eq_some_iff.mp h; obtain ⟨hi, h2, h⟩ := Option.bind_eq_some_iff.mp h; obtain ⟨rfl, rfl⟩ := Prod.mk.inj (Option.some.inj h); have cl := fun W => channel_aged_least.calls a0_0 a0_1 a0_2 a0_3 a0_4 a0_5 a0_6 lo W h1; have cg := fun W => channel_aged_greatest.calls a0_0 a0_1 a0_2 a0_3 a0_4 a0_5 a0_6 hi W h2; have CL := Aside0.mk cl; have CG := Aside0.mk cg; clear cl cg h h1 h2; have hu1 := Tryz.underlying93; have hu2 := Tryz.underlying30; have hu3 := Tryz.underlying135; have hmf : ∀ (fn : Fn) (first cap : Array Value) (w : World), (Instr.makeFunc fn first cap).run Tryz.prog w = .ok (.func fn first cap) w := fun _ _ _ _ => rfl
  go_enter Tryz.func58, Tryz.ntmps58
  go_wp2

  go_region_with (first | (go_at_call 65; go_loud (refine (CL.out _).mono ?_; rintro e w1 ⟨rfl, hb1⟩; obtain ⟨hc1, hf1⟩ := bcell hb1; have hz1 := hb1.size; (try simp only [World.size_alloc, World.size_setCell, World.size_drew] at hz1 hc1 hf1); have k11 : w.heap.size + 1 < w1.heap.size := Nat.lt_of_lt_of_le (by simp) hz1; have k12 : w.heap.size + 1 + 1 < w1.heap.size := Nat.lt_of_lt_of_le (by simp) hz1)) | (go_at_call 101; refine (CG.out _).mono ?_; rintro e w2 ⟨rfl, hb2⟩; obtain ⟨hc2, hf2⟩ := bcell hb2; have hz2 := hb2.size; (try simp only [World.size_alloc, World.size_setCell, World.size_drew] at hz2 hc2 hf2); have k21 : w.heap.size + 1 < w2.heap.size := Nat.lt_of_lt_of_le (by first | exact k11 | simp) hz2; have k22 : w.heap.size + 1 + 1 < w2.heap.size := Nat.lt_of_lt_of_le (by first | exact k12 | simp) hz2))
  all_goals go_wp2
  all_goals
    refine bodyPost_ret (v := .agg #[.int .i64 lo, .int .i64 hi]) (by simp [results, Tryz.results58, go_sem, *]) rfl ⟨rfl, ?_⟩; refine below_set (below_set ?_ (by simp)) (by simp); have hs1 := hb1.size; have hs2 := hb2.size; simp at hs1 hs2
    first
      | exact below_then (below_then (show Below w.heap.size w _ from by repeat (first | exact Below.refl _ _ | apply below_alloc | apply pw_below_drewN | apply below_drew | refine below_set ?_ (by simp))) (by simp; omega) hb1) (by omega) hb2
      | exact below_then (below_then (show Below w.heap.size w _ from by repeat (first | exact Below.refl _ _ | apply below_alloc | apply pw_below_drewN | apply below_drew | refine below_set ?_ (by simp))) (by simp; omega) hb2) (by omega) hb1
end Go.Proofs.YtdmdahafiiggiaaGreatDoor.K
end
section
namespace Go.Proofs.YtdmdahafiiggiaaGreatDoor.K
open Go.RowKit Go.Proofs.YtdmdahafiiggiaaGreatDoorW.PrintWords Go.Proofs.YtdmdahafiiggiaaGreatDoorW.PrintLast Go.Proofs.YtdmdahafiiggiaaGreatDoorW.PrintMore
attribute [local go_sem] max2_int min2_int max_two min_two max_three min_three max_four min_four
def channel_Carries.j0 : Nat → Int → Int → Bool → List Int → List (S32) → Option (Int × Int × Int)
 | 0, _, _, _, _, _ => none
 | k + 1, x1, x2, x21, x132000, x132001 => if x21 = true then (some (0, 0, 2)) else ((channel_aging.f x132000 x132001 x1 x2).bind fun bt136 => ((channel_aged_span.f bt136.1 bt136.2.1 bt136.2.2.1 bt136.2.2.2.1 bt136.2.2.2.2.1 bt136.2.2.2.2.2.1 bt136.2.2.2.2.2.2).bind fun bt143 => (some (bt143.1, bt143.2, 0))))
def channel_Carries.f (k : Nat) (l0_0 : List Int) (l0_1 : List (S32)) (a1 : Int) (a2 : Int) : Option (Int × Int × Int) := (channel_isLine.f l0_0 l0_1).bind fun t133 => (if t133 = true then ((channel_isStretch.f l0_0 l0_1 a1).bind fun t134 => (if t134 = true then ((channel_isAge.f a2).bind fun t135 => (channel_Carries.j0 k a1 a2 (!t135) l0_0 l0_1)) else (channel_Carries.j0 k a1 a2 true l0_0 l0_1))) else (channel_Carries.j0 k a1 a2 true l0_0 l0_1))
set_option maxHeartbeats 8000000 in
set_option maxRecDepth 100000 in
theorem channel_Carries.calls (k : Nat) (A0_0 : Option Addr) (c0_0 : Nat) (l0_0 : List Int) (A0_1 : Option Addr) (c0_1 : Nat) (l0_1 : List (S32)) (a1 : Int) (a2 : Int) (r1 : Int) (r2 : Int) (r3 : Int) (w : World) (hr0_0 : Kd.C (Kd.int .i64) w A0_0 l0_0.length l0_0) (hc0_0 : l0_0.length ≤ c0_0) (hr0_1 : Kd.C k32 w A0_1 l0_1.length l0_1) (hc0_1 : l0_1.length ≤ c0_1) (h : channel_Carries.f k l0_0 l0_1 a1 a2 = some (r1, r2, r3)) :
  Calls Tryz.prog 18 #[.agg #[.slice A0_0 l0_0.length c0_0, .slice A0_1 l0_1.length c0_1], .int .i64 a1, .int .i64 a2] w fun e w' => e = .returned (.tuple #[.agg #[.int .i64 r1, .int .i64 r2], .int .i64 r3]) ∧ Below w.heap.size w w' := by
 have hu25 := Tryz.underlying25; have hu30 := Tryz.underlying30; have HR0_0 := Aside0.mk hr0_0; have HC0_0 := Aside0.mk hc0_0; clear hr0_0 hc0_0; have HR0_1 := Aside0.mk hr0_1; have HC0_1 := Aside0.mk hc0_1; clear hr0_1 hc0_1; have HB := Aside0.mk (Below.refl w.heap.size w); have H : ((channel_isLine.f l0_0 l0_1).bind fun t133 => (if t133 = true then ((channel_isStretch.f l0_0 l0_1 a1).bind fun t134 => (if t134 = true then ((channel_isAge.f a2).bind fun t135 => (channel_Carries.j0 k a1 a2 (!t135) l0_0 l0_1)) else (channel_Carries.j0 k a1 a2 true l0_0 l0_1))) else (channel_Carries.j0 k a1 a2 true l0_0 l0_1))) = some (r1, r2, r3) := h; clear h; have HC4 := Aside0.mk H; clear H
 go_enter Tryz.func18, Tryz.ntmps18
 go_upto_region 1 with (first | ((with_reducible refine gate_dst (N := 3) rfl ?_); refine bxe 3 #[.slice A0_0 l0_0.length c0_0, .slice A0_1 l0_1.length c0_1] 25 ?_; intro gb131 hg w5 hbox hb; have n0_ := Aside0.mk (below_step HB.out hb); have n1_ := Aside0.mk (hbox); have n2_ := gw hg; have n3_ := n2_; clear HB; have HB := n0_; have BK131 := n1_; have GW131 := n2_; have GE131 := n3_; clear n0_ n1_ n2_ n3_; clear hb hbox hg) | ((with_reducible refine gate_dst (N := 6) rfl ?_); refine bxe 6 #[.int .i64 0, .int .i64 0] 30 ?_; intro gb132 hg w6 hbox hb; have n0_ := Aside0.mk (blk_below BK131.out hb); have n1_ := Aside0.mk (below_step HB.out hb); have n2_ := Aside0.mk (hbox); have n3_ := gw hg; have n4_ := n3_; have n5_ := nb BK131 hg; have n6_ := nc BK131 hg; clear BK131; clear HB; have BK131 := n0_; have HB := n1_; have BK132 := n2_; have GW132 := n3_; have GE132 := n4_; have NB131_132 := n5_; have NB132_131 := n6_; clear n0_ n1_ n2_ n3_ n4_ n5_ n6_; clear hb hbox hg))
 (try simp only [Act.put, List.setIfInBounds_toArray, List.set_cons_zero, List.set_cons_succ])
 go_cut [21] (fun v21 wc => ∃ (kq : Nat) (x21_3 : Bool), v21 = .bool x21_3 ∧ Aside0 (channel_Carries.j0 kq a1 a2 x21_3 l0_0 l0_1 = some (r1, r2, r3)) ∧ Aside0 (kq ≤ k) ∧ Aside0 (wc.heap[gb131]? = some (.cells #[(.slice A0_0 l0_0.length c0_0), (.slice A0_1 l0_1.length c0_1)] 25 (0, 0))) ∧ Aside0 (wc.heap[gb132]? = some (.cells #[.int .i64 0, .int .i64 0] 30 (0, 0))) ∧ Aside0 (Below w.heap.size w wc))
 case first =>
  have H := HC4.out; clear HC4; replace H := Option.bind_eq_some_iff.mp H; obtain ⟨t133, A70, H⟩ := H; replace H : (if t133 = true then ((channel_isStretch.f l0_0 l0_1 a1).bind fun t134 => (if t134 = true then ((channel_isAge.f a2).bind fun t135 => (channel_Carries.j0 k a1 a2 (!t135) l0_0 l0_1)) else (channel_Carries.j0 k a1 a2 true l0_0 l0_1))) else (channel_Carries.j0 k a1 a2 true l0_0 l0_1)) = some (r1, r2, r3) := H; have A7 := Aside0.mk A70; clear A70
  by_cases c8 : t133 = true
  ·subst c8; have H1 : ((channel_isStretch.f l0_0 l0_1 a1).bind fun t134 => (if t134 = true then ((channel_isAge.f a2).bind fun t135 => (channel_Carries.j0 k a1 a2 (!t135) l0_0 l0_1)) else (channel_Carries.j0 k a1 a2 true l0_0 l0_1))) = some (r1, r2, r3) := by rw [if_pos rfl] at H; exact H
   clear H; have H := H1; clear H1; replace H := Option.bind_eq_some_iff.mp H; obtain ⟨t134, A90, H⟩ := H; replace H : (if t134 = true then ((channel_isAge.f a2).bind fun t135 => (channel_Carries.j0 k a1 a2 (!t135) l0_0 l0_1)) else (channel_Carries.j0 k a1 a2 true l0_0 l0_1)) = some (r1, r2, r3) := H; have A9 := Aside0.mk A90; clear A90
   by_cases c10 : t134 = true
   ·subst c10; have H1 : ((channel_isAge.f a2).bind fun t135 => (channel_Carries.j0 k a1 a2 (!t135) l0_0 l0_1)) = some (r1, r2, r3) := by rw [if_pos rfl] at H; exact H
    clear H; have H := H1; clear H1; replace H := Option.bind_eq_some_iff.mp H; obtain ⟨t135, A110, H⟩ := H; replace H : (channel_Carries.j0 k a1 a2 (!t135) l0_0 l0_1) = some (r1, r2, r3) := H; have A11 := Aside0.mk A110; clear A110; have H' := Aside0.mk H; clear H; have hnb12 := NB131_132.out; have hnc12 := NB132_131.out; obtain ⟨hcz13_0, hcz13_1⟩ := cz2 BK131.out; obtain ⟨hfz13_0, hfz13_1⟩ := fz2 BK131.out
    go_wp2_with (first | ((with_reducible refine gate_callee (f := 54) rfl ?_); refine goesL_ (some 9) rfl rfl Tryz.func54 (by kernel_rfl) rfl #[.agg #[.slice A0_0 l0_0.length c0_0, .slice A0_1 l0_1.length c0_1]] rfl uM ?_; (with_reducible refine (channel_isLine.calls _ _ l0_0 _ _ l0_1 true _ ?side1 ?side2 ?side3 ?side4 A7.out).mono ?_); (case side1 => exact Kd.C_below HR0_0.out HB.out); (case side2 => exact HC0_0.out); (case side3 => exact Kd.C_below HR0_1.out HB.out); (case side4 => exact HC0_1.out); rintro e w14 ⟨rfl, hb⟩; refine ⟨_, rfl, ?_⟩; replace BK131 := Aside0.mk (blk_below BK131.out hb); replace BK132 := Aside0.mk (blk_below BK132.out hb); replace HB := Aside0.mk (below_step HB.out hb); (try clear hb); obtain ⟨hcz15_0, hcz15_1⟩ := cz2 BK131.out; obtain ⟨hfz15_0, hfz15_1⟩ := fz2 BK131.out) | (go_at_call 55; (with_reducible refine (channel_isStretch.calls _ _ l0_0 _ _ l0_1 a1 true _ ?side1 ?side2 ?side3 ?side4 A9.out).mono ?_); (case side1 => exact Kd.C_below HR0_0.out HB.out); (case side2 => exact HC0_0.out); (case side3 => exact Kd.C_below HR0_1.out HB.out); (case side4 => exact HC0_1.out); rintro e w16 ⟨rfl, hb⟩; replace BK131 := Aside0.mk (blk_below BK131.out hb); replace BK132 := Aside0.mk (blk_below BK132.out hb); replace HB := Aside0.mk (below_step HB.out hb); (try clear hb)) | (go_at_call 56; (with_reducible refine (channel_isAge.calls a2 t135 _ A11.out).mono ?_); rintro e w' ⟨rfl, ⟨nd, rfl⟩⟩))
    go_meet
    case rel => exact ⟨_, (!t135), u0, H', ⟨u1⟩, ⟨uK BK131.out⟩, ⟨uK BK132.out⟩, ⟨uB⟩⟩
   ·replace c10 := Bool.eq_false_iff.mpr c10; subst c10; have H1 : (channel_Carries.j0 k a1 a2 true l0_0 l0_1) = some (r1, r2, r3) := by rw [if_neg (show ¬ (false = true) by decide)] at H; exact H
    clear H; have H := H1; clear H1; have H' := Aside0.mk H; clear H; have hnb17 := NB131_132.out; have hnc17 := NB132_131.out; obtain ⟨hcz18_0, hcz18_1⟩ := cz2 BK131.out; obtain ⟨hfz18_0, hfz18_1⟩ := fz2 BK131.out
    go_wp2_with (first | ((with_reducible refine gate_callee (f := 54) rfl ?_); refine goesL_ (some 9) rfl rfl Tryz.func54 (by kernel_rfl) rfl #[.agg #[.slice A0_0 l0_0.length c0_0, .slice A0_1 l0_1.length c0_1]] rfl uM ?_; (with_reducible refine (channel_isLine.calls _ _ l0_0 _ _ l0_1 true _ ?side1 ?side2 ?side3 ?side4 A7.out).mono ?_); (case side1 => exact Kd.C_below HR0_0.out HB.out); (case side2 => exact HC0_0.out); (case side3 => exact Kd.C_below HR0_1.out HB.out); (case side4 => exact HC0_1.out); rintro e w19 ⟨rfl, hb⟩; refine ⟨_, rfl, ?_⟩; replace BK131 := Aside0.mk (blk_below BK131.out hb); replace BK132 := Aside0.mk (blk_below BK132.out hb); replace HB := Aside0.mk (below_step HB.out hb); (try clear hb); obtain ⟨hcz20_0, hcz20_1⟩ := cz2 BK131.out; obtain ⟨hfz20_0, hfz20_1⟩ := fz2 BK131.out) | (go_at_call 55; (with_reducible refine (channel_isStretch.calls _ _ l0_0 _ _ l0_1 a1 false _ ?side1 ?side2 ?side3 ?side4 A9.out).mono ?_); (case side1 => exact Kd.C_below HR0_0.out HB.out); (case side2 => exact HC0_0.out); (case side3 => exact Kd.C_below HR0_1.out HB.out); (case side4 => exact HC0_1.out); rintro e w21 ⟨rfl, hb⟩; replace BK131 := Aside0.mk (blk_below BK131.out hb); replace BK132 := Aside0.mk (blk_below BK132.out hb); replace HB := Aside0.mk (below_step HB.out hb); (try clear hb)))
    go_meet
    case rel => exact ⟨_, (true), u0, H', ⟨u1⟩, ⟨uK BK131.out⟩, ⟨uK BK132.out⟩, ⟨uB⟩⟩
  ·replace c8 := Bool.eq_false_iff.mpr c8; subst c8; have H1 : (channel_Carries.j0 k a1 a2 true l0_0 l0_1) = some (r1, r2, r3) := by rw [if_neg (show ¬ (false = true) by decide)] at H; exact H
   clear H; have H := H1; clear H1; have H' := Aside0.mk H; clear H; have hnb22 := NB131_132.out; have hnc22 := NB132_131.out; obtain ⟨hcz23_0, hcz23_1⟩ := cz2 BK131.out; obtain ⟨hfz23_0, hfz23_1⟩ := fz2 BK131.out
   go_wp2_with (first | ((with_reducible refine gate_callee (f := 54) rfl ?_); refine goesL_ (some 9) rfl rfl Tryz.func54 (by kernel_rfl) rfl #[.agg #[.slice A0_0 l0_0.length c0_0, .slice A0_1 l0_1.length c0_1]] rfl uM ?_; (with_reducible refine (channel_isLine.calls _ _ l0_0 _ _ l0_1 false _ ?side1 ?side2 ?side3 ?side4 A7.out).mono ?_); (case side1 => exact Kd.C_below HR0_0.out HB.out); (case side2 => exact HC0_0.out); (case side3 => exact Kd.C_below HR0_1.out HB.out); (case side4 => exact HC0_1.out); rintro e w24 ⟨rfl, hb⟩; refine ⟨_, rfl, ?_⟩; replace BK131 := Aside0.mk (blk_below BK131.out hb); replace BK132 := Aside0.mk (blk_below BK132.out hb); replace HB := Aside0.mk (below_step HB.out hb); (try clear hb)))
   go_meet
   case rel => exact ⟨_, (true), u0, H', ⟨u1⟩, ⟨uK BK131.out⟩, ⟨uK BK132.out⟩, ⟨uB⟩⟩
 case rest =>
  clear HC4; try clear c1; try clear c2; try clear p2; try clear c5; try clear c8; try clear c10; try clear c12; try clear c17; try clear c18; try clear c22; try clear hcz13_0; try clear hcz13_1; try clear hcz15_0; try clear hcz15_1; try clear hcz18_0; try clear hcz18_1; try clear hcz20_0; try clear hcz20_1; try clear hcz23_0; try clear hcz23_1; try clear hfz13_0; try clear hfz13_1; try clear hfz15_0; try clear hfz15_1; try clear hfz18_0; try clear hfz18_1; try clear hfz20_0; try clear hfz20_1; try clear hfz23_0; try clear hfz23_1
  obtain ⟨kq, x21_3, rfl, HA, HJ3, BK131, BK132, HB⟩ := hcut
  cases kq with
  | zero => exact absurd HA.out (by simp [channel_Carries.j0])
  | succ kj3 =>
   have H := HA.out; clear HA; simp only [channel_Carries.j0] at H
   by_cases c25 : x21_3 = true
   ·subst c25; have H1 : (some (0, 0, 2)) = some (r1, r2, r3) := by rw [if_pos rfl] at H; exact H
    clear H; have H := H1; clear H1; simp only [Option.some.injEq, Prod.mk.injEq] at H; obtain ⟨rfl, rfl, rfl⟩ := H; have hnb26 := NB132_131.out; have hnc26 := NB131_132.out; obtain ⟨hcz27_0, hcz27_1⟩ := cz2 BK132.out; obtain ⟨hfz27_0, hfz27_1⟩ := fz2 BK132.out; go_wp2; refine bodyPost_ret (results_ct rfl _ _ gb132 30 #[.int .i64 0, .int .i64 0] (0, 0) _ rfl (by refine uK ?_; refine blk_put (cs := #[.int .i64 0, .int .i64 0]) ?_ 1 _ rfl; refine uK ?_; refine blk_put (cs := #[.int .i64 0, .int .i64 0]) ?_ 0 _ rfl; refine uK ?_; exact BK132.out) Tryz.underlying30 rfl (by kernel_rfl)) rfl ?_; exact ⟨uE, uB⟩
   ·replace c25 := Bool.eq_false_iff.mpr c25; subst c25; have H1 : ((channel_aging.f l0_0 l0_1 a1 a2).bind fun bt136 => ((channel_aged_span.f bt136.1 bt136.2.1 bt136.2.2.1 bt136.2.2.2.1 bt136.2.2.2.2.1 bt136.2.2.2.2.2.1 bt136.2.2.2.2.2.2).bind fun bt143 => (some (bt143.1, bt143.2, 0)))) = some (r1, r2, r3) := by rw [if_neg (show ¬ (false = true) by decide)] at H; exact H
    clear H; have H := H1; clear H1; replace H := Option.bind_eq_some_iff.mp H; obtain ⟨⟨t136, t137, t138, t139, t140, t141, t142⟩, A280, H⟩ := H; replace H : ((channel_aged_span.f t136 t137 t138 t139 t140 t141 t142).bind fun bt143 => (some (bt143.1, bt143.2, 0))) = some (r1, r2, r3) := H; have A28 := Aside0.mk A280; clear A280; replace H := Option.bind_eq_some_iff.mp H; obtain ⟨⟨t143, t144⟩, A290, H⟩ := H; replace H : (some (t143, t144, 0)) = some (r1, r2, r3) := H; have A29 := Aside0.mk A290; clear A290; simp only [Option.some.injEq, Prod.mk.injEq] at H; obtain ⟨rfl, rfl, rfl⟩ := H; have hnb30 := NB131_132.out; have hnc30 := NB132_131.out; obtain ⟨hcz31_0, hcz31_1⟩ := cz2 BK131.out; obtain ⟨hfz31_0, hfz31_1⟩ := fz2 BK131.out
    go_wp2_with (first | ((with_reducible refine gate_callee (f := 57) rfl ?_); refine goesL_ (some 26) rfl rfl Tryz.func57 (by kernel_rfl) rfl #[.agg #[.slice A0_0 l0_0.length c0_0, .slice A0_1 l0_1.length c0_1], .int .i64 a1, .int .i64 a2] rfl uM ?_; (with_reducible refine (channel_aging.calls _ _ l0_0 _ _ l0_1 a1 a2 t136 t137 t138 t139 t140 t141 t142 _ ?side1 ?side2 ?side3 ?side4 A28.out).mono ?_); (case side1 => exact Kd.C_below HR0_0.out HB.out); (case side2 => exact HC0_0.out); (case side3 => exact Kd.C_below HR0_1.out HB.out); (case side4 => exact HC0_1.out); rintro e w32 ⟨rfl, hb⟩; refine ⟨_, rfl, ?_⟩; replace BK131 := Aside0.mk (blk_below BK131.out hb); replace BK132 := Aside0.mk (blk_below BK132.out hb); replace HB := Aside0.mk (below_step HB.out hb); (try clear hb)) | ((with_reducible refine gate_callee (f := 58) rfl ?_); refine goesL_ (some 27) rfl rfl Tryz.func58 (by kernel_rfl) rfl #[.agg #[.int .i64 t136, .int .i64 t137, .int .i64 t138, .int .i64 t139, .int .i64 t140, .int .i64 t141, .int .i64 t142]] rfl uM ?_; (with_reducible refine (channel_aged_span.calls t136 t137 t138 t139 t140 t141 t142 t143 t144 _ A29.out).mono ?_); rintro e w33 ⟨rfl, hb⟩; refine ⟨_, rfl, ?_⟩; replace BK131 := Aside0.mk (blk_below BK131.out hb); replace BK132 := Aside0.mk (blk_below BK132.out hb); replace HB := Aside0.mk (below_step HB.out hb); (try clear hb); obtain ⟨hcz34_0, hcz34_1⟩ := cz2 BK132.out; obtain ⟨hfz34_0, hfz34_1⟩ := fz2 BK132.out))
    refine bodyPost_ret (results_ct rfl _ _ gb132 30 #[.int .i64 t143, .int .i64 t144] (0, 0) _ rfl (by refine uK ?_; refine blk_put (cs := #[.int .i64 t143, .int .i64 0]) ?_ 1 _ rfl; refine uK ?_; refine blk_put (cs := #[.int .i64 0, .int .i64 0]) ?_ 0 _ rfl; refine uK ?_; exact BK132.out) Tryz.underlying30 rfl (by kernel_rfl)) rfl ?_; exact ⟨uE, uB⟩
end Go.Proofs.YtdmdahafiiggiaaGreatDoor.K
end
section
namespace Go.Proofs.YtdmdahafiiggiaaGreatDoor.K
open Go.RowKit Go.Proofs.YtdmdahafiiggiaaGreatDoorW.PrintWords Go.Proofs.YtdmdahafiiggiaaGreatDoorW.PrintLast Go.Proofs.YtdmdahafiiggiaaGreatDoorW.PrintMore
attribute [local go_sem] max2_int min2_int max_two min_two max_three min_three max_four min_four
def channel_spans.l0 : Nat → List (S30) → List Int → Int → Int → List Int → List (S32) → Option ((List (S30)))
 | 0, _, _, _, _, _, _ => none
 | k + 1, x5, x8, x9, x10, x146000, x146001 => if x10 < x9 then (if 0 ≤ x10 then (if x10 < (x8.length : Int) then ((channel_aging.f x146000 x146001 x10 (rd x8 x10)).bind fun bt147 => ((channel_aged_span.f bt147.1 bt147.2.1 bt147.2.2.1 bt147.2.2.2.1 bt147.2.2.2.2.1 bt147.2.2.2.2.2.1 bt147.2.2.2.2.2.2).bind fun bt154 => (if x5.length < 8796093022208 then (channel_spans.l0 k (x5 ++ [(⟨bt154.1, bt154.2⟩ : S30)]) x8 x9 (wrap64 (x10 + 1)) x146000 x146001) else (none)))) else (none)) else (none)) else (some x5)
def channel_spans.f (k : Nat) (l0_0 : List Int) (l0_1 : List (S32)) (l1 : List Int) : Option ((List (S30))) := channel_spans.l0 k ([] : List (S30)) l1 (l1.length : Int) 0 l0_0 l0_1
set_option maxHeartbeats 8000000 in
set_option maxRecDepth 100000 in
theorem channel_spans.calls (k : Nat) (A0_0 : Option Addr) (c0_0 : Nat) (l0_0 : List Int) (A0_1 : Option Addr) (c0_1 : Nat) (l0_1 : List (S32)) (A1 : Option Addr) (c1 : Nat) (l1 : List Int) (r : List (S30)) (w : World) (hr0_0 : Kd.C (Kd.int .i64) w A0_0 l0_0.length l0_0) (hc0_0 : l0_0.length ≤ c0_0) (hr0_1 : Kd.C k32 w A0_1 l0_1.length l0_1) (hc0_1 : l0_1.length ≤ c0_1) (hr1 : Kd.C (Kd.int .i64) w A1 l1.length l1) (hc1 : l1.length ≤ c1) (h : channel_spans.f k l0_0 l0_1 l1 = some r) :
  Calls Tryz.prog 60 #[.agg #[.slice A0_0 l0_0.length c0_0, .slice A0_1 l0_1.length c0_1], .slice A1 l1.length c1] w fun e w' => ∃ v0_ : Value, e = .returned (v0_) ∧ Kd.R k30 30 w' w.heap.size (fun _ => True) v0_ r ∧ Below w.heap.size w w' := by
 have hu25 := Tryz.underlying25; have HR0_0 := Aside0.mk hr0_0; have HC0_0 := Aside0.mk hc0_0; clear hr0_0 hc0_0; have HR0_1 := Aside0.mk hr0_1; have HC0_1 := Aside0.mk hc0_1; clear hr0_1 hc0_1; have HR1 := Aside0.mk hr1; have HC1 := Aside0.mk hc1; clear hr1 hc1; have HB := Aside0.mk (Below.refl w.heap.size w); have H : (channel_spans.l0 k ([] : List (S30)) l1 (l1.length : Int) 0 l0_0 l0_1) = some r := h; clear h; have H' := Aside0.mk H; clear H
 go_enter Tryz.func60, Tryz.ntmps60
 go_wp2_with (first | ((with_reducible refine gate_dst (N := 2) rfl ?_); refine bxe 2 #[.slice A0_0 l0_0.length c0_0, .slice A0_1 l0_1.length c0_1] 25 ?_; intro gb145 hg w3 hbox hb; have n0_ := Aside0.mk (below_step HB.out hb); have n1_ := Aside0.mk (hbox); have n2_ := gw hg; have n3_ := n2_; clear HB; have HB := n0_; have BK145 := n1_; have GW145 := n2_; have GE145 := n3_; clear n0_ n1_ n2_ n3_; clear hb hbox hg))
 go_loopg [5, 10] k (fun kq v5 v10 w' => ∃ (x5_1 : List (S30)) (x10_1 : Int), v10 = .int .i64 x10_1 ∧ Aside0 (channel_spans.l0 kq x5_1 l1 (l1.length : Int) x10_1 l0_0 l0_1 = some r) ∧ Aside0 (kq ≤ k) ∧ Aside0 (Kd.R k30 30 w' w.heap.size (fun _ => True) v5 x5_1) ∧ Aside0 (w'.heap[gb145]? = some (.cells #[(.slice A0_0 l0_0.length c0_0), (.slice A0_1 l0_1.length c0_1)] 25 (0, 0))) ∧ Aside0 (Below w.heap.size w w'))
 case atStart => exact ⟨(([] : List (S30))), (0), u0, H', ⟨Nat.le_refl _⟩, ⟨uN⟩, ⟨uK BK145.out⟩, ⟨uB⟩⟩
 case round =>
  clear H'; try clear c1; try clear p2
  obtain ⟨x5_1, x10_1, rfl, HA, HK1, HO_5, BK145, HB⟩ := hrel
  cases gk with
  | zero => exact absurd HA.out (by simp [channel_spans.l0])
  | succ k1 =>
   have H := HA.out; clear HA; simp only [channel_spans.l0] at H
   by_cases c4 : x10_1 < (l1.length : Int)
   ·rw [if_pos c4] at H; replace c4 := decide_eq_true c4; obtain ⟨c5, H⟩ := ifs H; replace c5 := decide_eq_true c5; obtain ⟨c6, H⟩ := ifs H; replace c6 := decide_eq_true c6; replace H := Option.bind_eq_some_iff.mp H; obtain ⟨⟨t147, t148, t149, t150, t151, t152, t153⟩, A70, H⟩ := H; replace H : ((channel_aged_span.f t147 t148 t149 t150 t151 t152 t153).bind fun bt154 => (if x5_1.length < 8796093022208 then (channel_spans.l0 k1 (x5_1 ++ [(⟨bt154.1, bt154.2⟩ : S30)]) l1 (l1.length : Int) (wrap64 (x10_1 + 1)) l0_0 l0_1) else (none))) = some r := H; have A7 := Aside0.mk A70; clear A70; replace H := Option.bind_eq_some_iff.mp H; obtain ⟨⟨t154, t155⟩, A80, H⟩ := H; replace H : (if x5_1.length < 8796093022208 then (channel_spans.l0 k1 (x5_1 ++ [(⟨t154, t155⟩ : S30)]) l1 (l1.length : Int) (wrap64 (x10_1 + 1)) l0_0 l0_1) else (none)) = some r := H; have A8 := Aside0.mk A80; clear A80; obtain ⟨c9, H⟩ := ifs H; have LMc9 := Aside0.mk c9; clear c9; obtain ⟨y156, hy156⟩ : ∃ y_ : List (S30), y_ = (x5_1 ++ [(⟨t154, t155⟩ : S30)]) := ⟨_, rfl⟩; rw [← hy156] at H; have Ny156 := Aside0.mk hy156; clear hy156; have H' := Aside0.mk H; clear H; have p146 : 0 ≤ (x10_1 : Int) := uD; have q146 : x10_1 < (l1.length : Int) := uD; obtain ⟨ad146, e146, hx146_0⟩ := Kd.at_int HR1.out x10_1 p146 q146
    cases e146
    replace hx146_0 := hcell HB.out hx146_0; replace p146 := eq_true p146; replace q146 := eq_true q146; obtain ⟨hcz10_0, hcz10_1⟩ := cz2 BK145.out; obtain ⟨hfz10_0, hfz10_1⟩ := fz2 BK145.out
    go_wp2_with (first | ((with_reducible refine gate_callee (f := 57) rfl ?_); refine goesL_ (some 19) rfl rfl Tryz.func57 (by kernel_rfl) rfl #[.agg #[.slice A0_0 l0_0.length c0_0, .slice A0_1 l0_1.length c0_1], .int .i64 x10_1, .int .i64 (rd l1 x10_1)] rfl uM ?_; (with_reducible refine (channel_aging.calls _ _ l0_0 _ _ l0_1 x10_1 (rd l1 x10_1) t147 t148 t149 t150 t151 t152 t153 _ ?side1 ?side2 ?side3 ?side4 A7.out).mono ?_); (case side1 => exact Kd.C_below HR0_0.out HB.out); (case side2 => exact HC0_0.out); (case side3 => exact Kd.C_below HR0_1.out HB.out); (case side4 => exact HC0_1.out); rintro e w11 ⟨rfl, hb⟩; refine ⟨_, rfl, ?_⟩; replace HO_5 := Aside0.mk (Kd.R_below (uR HO_5.out) hb); replace BK145 := Aside0.mk (blk_below BK145.out hb); replace HB := Aside0.mk (below_step HB.out hb); (try clear hb); (try clear hb2); (try clear hk); (try clear hi)) | ((with_reducible refine gate_callee (f := 58) rfl ?_); refine goesL_ (some 20) rfl rfl Tryz.func58 (by kernel_rfl) rfl #[.agg #[.int .i64 t147, .int .i64 t148, .int .i64 t149, .int .i64 t150, .int .i64 t151, .int .i64 t152, .int .i64 t153]] rfl uM ?_; (with_reducible refine (channel_aged_span.calls t147 t148 t149 t150 t151 t152 t153 t154 t155 _ A8.out).mono ?_); rintro e w12 ⟨rfl, hb⟩; refine ⟨_, rfl, ?_⟩; replace HO_5 := Aside0.mk (Kd.R_below (uR HO_5.out) hb); replace BK145 := Aside0.mk (blk_below BK145.out hb); replace HB := Aside0.mk (below_step HB.out hb); (try clear hb); (try clear hb2); (try clear hk); (try clear hi)) | ((with_reducible refine gate_builtin (b := .append) (xs := #[.tmp 15, .tmp 21]) rfl ?_); at_builtin; refine Kd.R_append k30 (w0 := w) w.heap.size rfl (.tmp 15) (.tmp 21) 74 30 (.agg #[(.int .i64 0), (.int .i64 0)]) 16 rfl Tryz.underlying74 info30 rfl (by decide) (by omega) u5 x5_1 (⟨t154, t155⟩ : S30) [.int .i64 t154, .int .i64 t155] (fun _ => True) (fun _ => False) rfl rfl ?aP (fun _ hk => hk.elim) ?aF ?aO ?aB ?aS ?aL ?_; (case aP => exact k30_mkM _ _ _ (⟨t154, t155⟩ : S30)); (case aB => exact HB.out); (case aF => exact (fun _ _ => trivial)); (case aO => exact (uR HO_5.out)); (case aS => exact (below_size HB.out)); (case aL => have := LMc9.out; omega); intro v157 w13 ho hb hg hat; rw [← Ny156.out] at ho; replace BK145 := Aside0.mk (blk_grown BK145.out hg (Kd.R_ne HO_5.out BK145.out (by decide))); have HO158 := Aside0.mk (ho); replace HB := Aside0.mk (hb); clear HO_5; clear ho hb hg hat))
    go_roundg k1
    case measure => have := HK1.out; omega
    case rel => exact ⟨(y156), (wrap64 (x10_1 + 1)), u0, H', ⟨by have := HK1.out; omega⟩, ⟨uR HO158.out⟩, ⟨uK BK145.out⟩, ⟨uB⟩⟩
   ·rw [if_neg c4] at H; replace c4 := decide_eq_false c4; obtain rfl := Option.some.inj H; go_wp2; go_ret; exact ⟨_, uE, uR HO_5.out, uB⟩
end Go.Proofs.YtdmdahafiiggiaaGreatDoor.K
end
section
namespace Go.Proofs.YtdmdahafiiggiaaGreatDoor.K
open Go.RowKit Go.Proofs.YtdmdahafiiggiaaGreatDoorW.PrintWords Go.Proofs.YtdmdahafiiggiaaGreatDoorW.PrintLast Go.Proofs.YtdmdahafiiggiaaGreatDoorW.PrintMore
attribute [local go_sem] max2_int min2_int max_two min_two max_three min_three max_four min_four
def channel_lowest.l0 : Nat → Int → List Int → Int → Int → Option (Int)
 | 0, _, _, _, _ => none
 | k + 1, x0, x7, x8, x9 => if x9 < x8 then (if 0 ≤ x9 then (if x9 < (x7.length : Int) then (channel_lowest.l0 k (mn x0 (rd x7 x9)) x7 x8 (wrap64 (x9 + 1))) else (none)) else (none)) else (some x0)
def channel_lowest.f (k : Nat) (a0 : Int) (l1 : List Int) : Option (Int) := channel_lowest.l0 k a0 l1 (l1.length : Int) 0
set_option maxHeartbeats 8000000 in
set_option maxRecDepth 100000 in
theorem channel_lowest.calls (k : Nat) (a0 : Int) (A1 : Option Addr) (c1 : Nat) (l1 : List Int) (r : Int) (w : World) (hr1 : Kd.C (Kd.int .i64) w A1 l1.length l1) (hc1 : l1.length ≤ c1) (h : channel_lowest.f k a0 l1 = some r) :
  Calls Tryz.prog 61 #[.int .i64 a0, .slice A1 l1.length c1] w fun e w' => e = .returned (.int .i64 r) ∧ Below w.heap.size w w' := by
 have HR1 := Aside0.mk hr1; have HC1 := Aside0.mk hc1; clear hr1 hc1; have HB := Aside0.mk (Below.refl w.heap.size w); have H : (channel_lowest.l0 k a0 l1 (l1.length : Int) 0) = some r := h; clear h; have H' := Aside0.mk H; clear H
 go_enter Tryz.func61, Tryz.ntmps61
 go_wp2
 go_loopg [0, 9] k (fun kq v0 v9 w' => ∃ (x0_1 : Int) (x9_1 : Int), v0 = .int .i64 x0_1 ∧ v9 = .int .i64 x9_1 ∧ Aside0 (channel_lowest.l0 kq x0_1 l1 (l1.length : Int) x9_1 = some r) ∧ Aside0 (kq ≤ k) ∧ Aside0 (Below w.heap.size w w'))
 case atStart => exact ⟨(a0), (0), u0, u0, H', ⟨Nat.le_refl _⟩, ⟨uB⟩⟩
 case round =>
  clear H'; try clear c1; try clear p2
  obtain ⟨x0_1, x9_1, rfl, rfl, HA, HK1, HB⟩ := hrel
  cases gk with
  | zero => exact absurd HA.out (by simp [channel_lowest.l0])
  | succ k1 =>
   have H := HA.out; clear HA; simp only [channel_lowest.l0] at H
   by_cases c3 : x9_1 < (l1.length : Int)
   ·rw [if_pos c3] at H; replace c3 := decide_eq_true c3; obtain ⟨c4, H⟩ := ifs H; replace c4 := decide_eq_true c4; obtain ⟨c5, H⟩ := ifs H; replace c5 := decide_eq_true c5; obtain ⟨ji6, hji6⟩ : ∃ j_ : Int, (mn x0_1 (rd l1 x9_1)) = j_ := ⟨_, rfl⟩; replace H : (channel_lowest.l0 k1 ji6 l1 (l1.length : Int) (wrap64 (x9_1 + 1))) = some r := by first | (rw [hji6] at H; exact H) | (simp only [hji6] at H ⊢; exact H)
    have hji6_ : (if (rd l1 x9_1) < x0_1 then (rd l1 x9_1) else x0_1) = ji6 := hji6; have H' := Aside0.mk H; clear H; have p159 : 0 ≤ (x9_1 : Int) := uD; have q159 : x9_1 < (l1.length : Int) := uD; obtain ⟨ad159, e159, hx159_0⟩ := Kd.at_int HR1.out x9_1 p159 q159
    cases e159
    replace hx159_0 := hcell HB.out hx159_0; replace p159 := eq_true p159; replace q159 := eq_true q159; go_wp2
    go_roundg k1
    case measure => have := HK1.out; omega
    case rel => exact ⟨(ji6), (wrap64 (x9_1 + 1)), (by first | rfl | (simp; done) | (simp only [← hji6] <;> (first | rfl | simp)) | (simp [*]; done)), u0, H', ⟨by have := HK1.out; omega⟩, ⟨uB⟩⟩
   ·rw [if_neg c3] at H; replace c3 := decide_eq_false c3; obtain rfl := Option.some.inj H; go_wp2; go_ret; exact ⟨uE, uB⟩
end Go.Proofs.YtdmdahafiiggiaaGreatDoor.K
end
section
namespace Go.Proofs.YtdmdahafiiggiaaGreatDoor.K
open Go.RowKit Go.Proofs.YtdmdahafiiggiaaGreatDoorW.PrintWords Go.Proofs.YtdmdahafiiggiaaGreatDoorW.PrintLast Go.Proofs.YtdmdahafiiggiaaGreatDoorW.PrintMore
attribute [local go_sem] max2_int min2_int max_two min_two max_three min_three max_four min_four
mutual
def channel_Line.j0 : Nat → List Int → Bool → List Int → List (S32) → Option (Int × Int × Int)
 | 0, _, _, _, _ => none
 | k + 1, x1, x18, x161000, x161001 => if x18 = true then (some (0, 0, 2)) else ((channel_spans.f k x161000 x161001 x1).bind fun t164 => (channel_Line.l0 k ([] : List Int) ([] : List Int) t164 (t164.length : Int) 0))
def channel_Line.l0 : Nat → List Int → List Int → List (S30) → Int → Int → Option (Int × Int × Int)
 | 0, _, _, _, _, _ => none
 | k + 1, x6, x7, x22, x23, x24 => if x24 < x23 then (if 0 ≤ x24 then (if x24 < (x22.length : Int) then ((some (([(rd_T30 x22 x24).f0] : List Int) : List Int)).bind fun y169 => (if x6.length + y169.length < 17592186044416 then ((some (([(rd_T30 x22 x24).f1] : List Int) : List Int)).bind fun y175 => (if x7.length + y175.length < 17592186044416 then (channel_Line.l0 k (x6 ++ y169) (x7 ++ y175) x22 x23 (wrap64 (x24 + 1))) else (none))) else (none))) else (none)) else (none)) else (if 0 < (x6.length : Int) then ((channel_lowest.f k (rd x6 0) x6).bind fun t182 => (if 0 < (x7.length : Int) then ((channel_lowest.f k (rd x7 0) x7).bind fun t184 => (some (t182, t184, 0))) else (none))) else (none))
end
def channel_Line.f (k : Nat) (l0_0 : List Int) (l0_1 : List (S32)) (l1 : List Int) : Option (Int × Int × Int) := (channel_isLine.f l0_0 l0_1).bind fun t162 => (if t162 = true then ((channel_areAges.f l0_0 l0_1 l1).bind fun t163 => (channel_Line.j0 k l1 (!t163) l0_0 l0_1)) else (channel_Line.j0 k l1 true l0_0 l0_1))
def channel_Line.T7 : Bool × List (List Nat × List Nat) := (true, [([], []), ([], []), ([1], [1]), ([2], [2]), ([0, 3], [0, 3]), ([], []), ([], []), ([6], [6]), ([7], [7]), ([5, 8, 4], [5, 8]), ([4, 9, 0, 1, 2, 3, 4], [0, 4]), ([9, 10, 0, 1, 2, 3, 4, 5, 6, 7, 8, 9, 10], [5, 9])])
def channel_Line.B7 : List Nat := [0, 0, 2, 6, 15, 0, 0, 64, 192, 511, 1023, 2047]
theorem channel_Line.tab7 : rtab .any (opsOf Tryz.f20 7) = channel_Line.T7 := by kernel_rfl
theorem channel_Line.bits7 : waitsOk channel_Line.T7.2 channel_Line.B7 = true := by kernel_rfl
def channel_Line.T9 : Bool × List (List Nat × List Nat) := (true, [([], []), ([0], [0]), ([1], [1]), ([], []), ([2, 3], [2, 3]), ([], []), ([5], [5]), ([6], [6]), ([], []), ([7, 8, 4], [7, 8]), ([4, 9], [4, 9]), ([10, 9, 0, 1, 2, 3, 4, 5, 6, 7, 8, 9, 10], [10]), ([11, 0, 1, 2, 3, 4, 5, 6, 7, 8, 9, 10, 11], [])])
def channel_Line.B9 : List Nat := [0, 1, 3, 0, 15, 0, 32, 96, 0, 511, 1023, 2047, 4095]
theorem channel_Line.tab9 : rtab .any (opsOf Tryz.f20 9) = channel_Line.T9 := by kernel_rfl
theorem channel_Line.bits9 : waitsOk channel_Line.T9.2 channel_Line.B9 = true := by kernel_rfl
set_option maxHeartbeats 8000000 in
set_option maxRecDepth 100000 in
theorem channel_Line.calls (k : Nat) (A0_0 : Option Addr) (c0_0 : Nat) (l0_0 : List Int) (A0_1 : Option Addr) (c0_1 : Nat) (l0_1 : List (S32)) (A1 : Option Addr) (c1 : Nat) (l1 : List Int) (r1 : Int) (r2 : Int) (r3 : Int) (w : World) (hr0_0 : Kd.C (Kd.int .i64) w A0_0 l0_0.length l0_0) (hc0_0 : l0_0.length ≤ c0_0) (hr0_1 : Kd.C k32 w A0_1 l0_1.length l0_1) (hc0_1 : l0_1.length ≤ c0_1) (hr1 : Kd.C (Kd.int .i64) w A1 l1.length l1) (hc1 : l1.length ≤ c1) (h : channel_Line.f k l0_0 l0_1 l1 = some (r1, r2, r3)) :
  Calls Tryz.prog 20 #[.agg #[.slice A0_0 l0_0.length c0_0, .slice A0_1 l0_1.length c0_1], .slice A1 l1.length c1] w fun e w' => e = .returned (.tuple #[.agg #[.int .i64 r1, .int .i64 r2], .int .i64 r3]) ∧ Below w.heap.size w w' := by
 have hu25 := Tryz.underlying25; have hu30 := Tryz.underlying30; have HR0_0 := Aside0.mk hr0_0; have HC0_0 := Aside0.mk hc0_0; clear hr0_0 hc0_0; have HR0_1 := Aside0.mk hr0_1; have HC0_1 := Aside0.mk hc0_1; clear hr0_1 hc0_1; have HR1 := Aside0.mk hr1; have HC1 := Aside0.mk hc1; clear hr1 hc1; have HB := Aside0.mk (Below.refl w.heap.size w); have H : ((channel_isLine.f l0_0 l0_1).bind fun t162 => (if t162 = true then ((channel_areAges.f l0_0 l0_1 l1).bind fun t163 => (channel_Line.j0 k l1 (!t163) l0_0 l0_1)) else (channel_Line.j0 k l1 true l0_0 l0_1))) = some (r1, r2, r3) := h; clear h; have HC3 := Aside0.mk H; clear H
 go_enter Tryz.func20, Tryz.ntmps20
 go_upto_region 1 with (first | ((with_reducible refine gate_dst (N := 2) rfl ?_); refine bxe 2 #[.slice A0_0 l0_0.length c0_0, .slice A0_1 l0_1.length c0_1] 25 ?_; intro gb160 hg w4 hbox hb; have GW160 := gw hg; have GE160 := GW160; have BK160 := Aside0.mk (hbox); replace HB := Aside0.mk (below_step HB.out hb); clear hb hbox hg) | ((with_reducible refine gate_dst (N := 4) rfl ?_); refine bxe 4 #[.int .i64 0, .int .i64 0] 30 ?_; intro gb161 hg w5 hbox hb; have GW161 := gw hg; have GE161 := GW161; have NB160_161 := nb BK160 hg; have NB161_160 := nc BK160 hg; replace BK160 := Aside0.mk (blk_below BK160.out hb); have BK161 := Aside0.mk (hbox); replace HB := Aside0.mk (below_step HB.out hb); clear hb hbox hg))
 (try simp only [Act.put, List.setIfInBounds_toArray, List.set_cons_zero, List.set_cons_succ])
 go_cut [18] (fun v18 wc => ∃ (kq : Nat) (x18_2 : Bool), v18 = .bool x18_2 ∧ Aside0 (channel_Line.j0 kq l1 x18_2 l0_0 l0_1 = some (r1, r2, r3)) ∧ Aside0 (kq ≤ k) ∧ Aside0 (wc.heap[gb160]? = some (.cells #[(.slice A0_0 l0_0.length c0_0), (.slice A0_1 l0_1.length c0_1)] 25 (0, 0))) ∧ Aside0 (wc.heap[gb161]? = some (.cells #[.int .i64 0, .int .i64 0] 30 (0, 0))) ∧ Aside0 (Below w.heap.size w wc))
 case first =>
  have H := HC3.out; clear HC3; replace H := Option.bind_eq_some_iff.mp H; obtain ⟨t162, A60, H⟩ := H; replace H : (if t162 = true then ((channel_areAges.f l0_0 l0_1 l1).bind fun t163 => (channel_Line.j0 k l1 (!t163) l0_0 l0_1)) else (channel_Line.j0 k l1 true l0_0 l0_1)) = some (r1, r2, r3) := H; have A6 := Aside0.mk A60; clear A60
  by_cases c7 : t162 = true
  ·subst c7; have H1 : ((channel_areAges.f l0_0 l0_1 l1).bind fun t163 => (channel_Line.j0 k l1 (!t163) l0_0 l0_1)) = some (r1, r2, r3) := by rw [if_pos rfl] at H; exact H
   clear H; have H := H1; clear H1; replace H := Option.bind_eq_some_iff.mp H; obtain ⟨t163, A80, H⟩ := H; replace H : (channel_Line.j0 k l1 (!t163) l0_0 l0_1) = some (r1, r2, r3) := H; have A8 := Aside0.mk A80; clear A80; have H' := Aside0.mk H; clear H; have hnb9 := NB160_161.out; have hnc9 := NB161_160.out; obtain ⟨hcz10_0, hcz10_1⟩ := cz2 BK160.out; obtain ⟨hfz10_0, hfz10_1⟩ := fz2 BK160.out
   go_wp2_with (first | ((with_reducible refine gate_callee (f := 54) rfl ?_); refine goesL_ (some 11) rfl rfl Tryz.func54 (by kernel_rfl) rfl #[.agg #[.slice A0_0 l0_0.length c0_0, .slice A0_1 l0_1.length c0_1]] rfl uM ?_; (with_reducible refine (channel_isLine.calls _ _ l0_0 _ _ l0_1 true _ ?side1 ?side2 ?side3 ?side4 A6.out).mono ?_); (case side1 => exact Kd.C_below HR0_0.out HB.out); (case side2 => exact HC0_0.out); (case side3 => exact Kd.C_below HR0_1.out HB.out); (case side4 => exact HC0_1.out); rintro e w11 ⟨rfl, hb⟩; refine ⟨_, rfl, ?_⟩; replace BK160 := Aside0.mk (blk_below BK160.out hb); replace BK161 := Aside0.mk (blk_below BK161.out hb); replace HB := Aside0.mk (below_step HB.out hb); (try clear hb); obtain ⟨hcz12_0, hcz12_1⟩ := cz2 BK160.out; obtain ⟨hfz12_0, hfz12_1⟩ := fz2 BK160.out) | (go_at_call 59; (with_reducible refine (channel_areAges.calls _ _ l0_0 _ _ l0_1 _ _ l1 t163 _ ?side1 ?side2 ?side3 ?side4 ?side5 ?side6 A8.out).mono ?_); (case side1 => exact Kd.C_below HR0_0.out HB.out); (case side2 => exact HC0_0.out); (case side3 => exact Kd.C_below HR0_1.out HB.out); (case side4 => exact HC0_1.out); (case side5 => exact Kd.C_below HR1.out HB.out); (case side6 => exact HC1.out); rintro e w13 ⟨rfl, hb⟩; replace BK160 := Aside0.mk (blk_below BK160.out hb); replace BK161 := Aside0.mk (blk_below BK161.out hb); replace HB := Aside0.mk (below_step HB.out hb); (try clear hb)))
   go_meet
   case rel => exact ⟨_, (!t163), u0, H', ⟨u1⟩, ⟨uK BK160.out⟩, ⟨uK BK161.out⟩, ⟨uB⟩⟩
  ·replace c7 := Bool.eq_false_iff.mpr c7; subst c7; have H1 : (channel_Line.j0 k l1 true l0_0 l0_1) = some (r1, r2, r3) := by rw [if_neg (show ¬ (false = true) by decide)] at H; exact H
   clear H; have H := H1; clear H1; have H' := Aside0.mk H; clear H; have hnb14 := NB160_161.out; have hnc14 := NB161_160.out; obtain ⟨hcz15_0, hcz15_1⟩ := cz2 BK160.out; obtain ⟨hfz15_0, hfz15_1⟩ := fz2 BK160.out
   go_wp2_with (first | ((with_reducible refine gate_callee (f := 54) rfl ?_); refine goesL_ (some 11) rfl rfl Tryz.func54 (by kernel_rfl) rfl #[.agg #[.slice A0_0 l0_0.length c0_0, .slice A0_1 l0_1.length c0_1]] rfl uM ?_; (with_reducible refine (channel_isLine.calls _ _ l0_0 _ _ l0_1 false _ ?side1 ?side2 ?side3 ?side4 A6.out).mono ?_); (case side1 => exact Kd.C_below HR0_0.out HB.out); (case side2 => exact HC0_0.out); (case side3 => exact Kd.C_below HR0_1.out HB.out); (case side4 => exact HC0_1.out); rintro e w16 ⟨rfl, hb⟩; refine ⟨_, rfl, ?_⟩; replace BK160 := Aside0.mk (blk_below BK160.out hb); replace BK161 := Aside0.mk (blk_below BK161.out hb); replace HB := Aside0.mk (below_step HB.out hb); (try clear hb)))
   go_meet
   case rel => exact ⟨_, (true), u0, H', ⟨u1⟩, ⟨uK BK160.out⟩, ⟨uK BK161.out⟩, ⟨uB⟩⟩
 case rest =>
  clear HC3; try clear c1; try clear c2; try clear p2; try clear c5; try clear c7; try clear c9; try clear c14; try clear hcz10_0; try clear hcz10_1; try clear hcz12_0; try clear hcz12_1; try clear hcz15_0; try clear hcz15_1; try clear hfz10_0; try clear hfz10_1; try clear hfz12_0; try clear hfz12_1; try clear hfz15_0; try clear hfz15_1
  obtain ⟨kq, x18_2, rfl, HA, HJ2, BK160, BK161, HB⟩ := hcut
  cases kq with
  | zero => exact absurd HA.out (by simp [channel_Line.j0])
  | succ kj2 =>
   have H := HA.out; clear HA; simp only [channel_Line.j0] at H
   by_cases c17 : x18_2 = true
   ·subst c17; have H1 : (some (0, 0, 2)) = some (r1, r2, r3) := by rw [if_pos rfl] at H; exact H
    clear H; have H := H1; clear H1; simp only [Option.some.injEq, Prod.mk.injEq] at H; obtain ⟨rfl, rfl, rfl⟩ := H; have hnb18 := NB161_160.out; have hnc18 := NB160_161.out; obtain ⟨hcz19_0, hcz19_1⟩ := cz2 BK161.out; obtain ⟨hfz19_0, hfz19_1⟩ := fz2 BK161.out; go_wp2; refine bodyPost_ret (results_ct rfl _ _ gb161 30 #[.int .i64 0, .int .i64 0] (0, 0) _ rfl (by refine uK ?_; refine blk_put (cs := #[.int .i64 0, .int .i64 0]) ?_ 1 _ rfl; refine uK ?_; refine blk_put (cs := #[.int .i64 0, .int .i64 0]) ?_ 0 _ rfl; refine uK ?_; exact BK161.out) Tryz.underlying30 rfl (by kernel_rfl)) rfl ?_; exact ⟨uE, uB⟩
   ·replace c17 := Bool.eq_false_iff.mpr c17; subst c17; have H1 : ((channel_spans.f kj2 l0_0 l0_1 l1).bind fun t164 => (channel_Line.l0 kj2 ([] : List Int) ([] : List Int) t164 (t164.length : Int) 0)) = some (r1, r2, r3) := by rw [if_neg (show ¬ (false = true) by decide)] at H; exact H
    clear H; have H := H1; clear H1; replace H := Option.bind_eq_some_iff.mp H; obtain ⟨t164, A200, H⟩ := H; replace H : (channel_Line.l0 kj2 ([] : List Int) ([] : List Int) t164 (t164.length : Int) 0) = some (r1, r2, r3) := H; have A20 := Aside0.mk A200; clear A200; have H' := Aside0.mk H; clear H; have hnb21 := NB160_161.out; have hnc21 := NB161_160.out; obtain ⟨hcz22_0, hcz22_1⟩ := cz2 BK160.out; obtain ⟨hfz22_0, hfz22_1⟩ := fz2 BK160.out
    go_wp2_with (first | ((with_reducible refine gate_callee (f := 60) rfl ?_); refine goesL_ (some 22) rfl rfl Tryz.func60 (by kernel_rfl) rfl #[.agg #[.slice A0_0 l0_0.length c0_0, .slice A0_1 l0_1.length c0_1], .slice A1 l1.length c1] rfl uM ?_; (with_reducible refine (channel_spans.calls kj2 _ _ l0_0 _ _ l0_1 _ _ l1 t164 _ ?side1 ?side2 ?side3 ?side4 ?side5 ?side6 A20.out).mono ?_); (case side1 => exact Kd.C_below HR0_0.out HB.out); (case side2 => exact HC0_0.out); (case side3 => exact Kd.C_below HR0_1.out HB.out); (case side4 => exact HC0_1.out); (case side5 => exact Kd.C_below HR1.out HB.out); (case side6 => exact HC1.out); rintro e w23 ⟨v165, rfl, ho0, hb⟩; refine ⟨_, rfl, ?_⟩; have HO166 := Aside0.mk (Kd.R_lower (Kd.R_newB ho0 (g := gb161) (o := .cells #[.int .i64 0, .int .i64 0] 30 (0, 0)) BK161.out) (below_size HB.out)); replace BK160 := Aside0.mk (blk_below BK160.out hb); replace BK161 := Aside0.mk (blk_below BK161.out hb); replace HB := Aside0.mk (below_step HB.out hb); (try clear hb); (try clear ho0); obtain ⟨Ao24, co24, eo24⟩ := Kd.R_slice HO166.out; subst eo24))
    go_loopg [6, 7, 24] kj2 (fun kq v6 v7 v24 w' => ∃ (x6_2 : List Int) (x7_2 : List Int) (x24_2 : Int), v24 = .int .i64 x24_2 ∧ Aside0 (channel_Line.l0 kq x6_2 x7_2 t164 (t164.length : Int) x24_2 = some (r1, r2, r3)) ∧ Aside0 (kq ≤ kj2) ∧ Aside0 (Kd.R (Kd.int .i64) 3 w' w.heap.size (fun k_ => some k_ ≠ (v7 : Value).ownBlock) v6 x6_2) ∧ Aside0 (Kd.R (Kd.int .i64) 3 w' w.heap.size (fun k_ => some k_ ≠ (v6 : Value).ownBlock) v7 x7_2) ∧ Aside0 (Kd.R k30 30 w' w.heap.size (fun k_ => k_ ≠ gb161) (.slice Ao24 t164.length co24) t164) ∧ Aside0 (w'.heap[gb160]? = some (.cells #[(.slice A0_0 l0_0.length c0_0), (.slice A0_1 l0_1.length c0_1)] 25 (0, 0))) ∧ Aside0 (w'.heap[gb161]? = some (.cells #[.int .i64 0, .int .i64 0] 30 (0, 0))) ∧ Aside0 (Below w.heap.size w w'))
    case atStart => exact ⟨(([] : List Int)), (([] : List Int)), (0), u0, H', ⟨Nat.le_refl _⟩, ⟨uN⟩, ⟨uN⟩, ⟨by refine uR ?_; exact Kd.R_mono HO166.out (fun _ hk => hk.2)⟩, ⟨uK BK160.out⟩, ⟨uK BK161.out⟩, ⟨uB⟩⟩
    case round =>
     clear H'; try clear c1; try clear c2; try clear p2; try clear c5; try clear c6; try clear c7; try clear c9; try clear c14; try clear c17; try clear c18; try clear c20; try clear c21; try clear hcz10_0; try clear hcz10_1; try clear hcz12_0; try clear hcz12_1; try clear hcz15_0; try clear hcz15_1; try clear hcz19_0; try clear hcz19_1; try clear hcz22_0; try clear hcz22_1; try clear hfz10_0; try clear hfz10_1; try clear hfz12_0; try clear hfz12_1; try clear hfz15_0; try clear hfz15_1; try clear hfz19_0; try clear hfz19_1; try clear hfz22_0; try clear hfz22_1; try clear p2
     obtain ⟨x6_2, x7_2, x24_2, rfl, HA, HK2, HO_6, HO_7, HO_22, BK160, BK161, HB⟩ := hrel
     cases gk with
     | zero => exact absurd HA.out (by simp [channel_Line.l0])
     | succ k2 =>
      have H := HA.out; clear HA; simp only [channel_Line.l0] at H
      by_cases c25 : x24_2 < (t164.length : Int)
      ·rw [if_pos c25] at H; replace c25 := decide_eq_true c25; obtain ⟨c26, H⟩ := ifs H; replace c26 := decide_eq_true c26; obtain ⟨c27, H⟩ := ifs H; replace c27 := decide_eq_true c27; obtain ⟨y169, hy169⟩ : ∃ y_ : List Int, y_ = (([(rd_T30 t164 x24_2).f0] : List Int)) := ⟨_, rfl⟩; rw [← hy169] at H; have Ny169 := Aside0.mk hy169; clear hy169; obtain ⟨c28, H⟩ := ifs H; have LMc28 := Aside0.mk c28; clear c28; obtain ⟨y172, hy172⟩ : ∃ y_ : List Int, y_ = (x6_2 ++ y169) := ⟨_, rfl⟩; rw [← hy172] at H; have Ny172 := Aside0.mk hy172; clear hy172; obtain ⟨y175, hy175⟩ : ∃ y_ : List Int, y_ = (([(rd_T30 t164 x24_2).f1] : List Int)) := ⟨_, rfl⟩; rw [← hy175] at H; have Ny175 := Aside0.mk hy175; clear hy175; obtain ⟨c29, H⟩ := ifs H; have LMc29 := Aside0.mk c29; clear c29; obtain ⟨y178, hy178⟩ : ∃ y_ : List Int, y_ = (x7_2 ++ y175) := ⟨_, rfl⟩; rw [← hy178] at H; have Ny178 := Aside0.mk hy178; clear hy178; have H' := Aside0.mk H; clear H; have p167 : 0 ≤ (x24_2 : Int) := of_decide_eq_true (by assumption); have q167 : x24_2 < (t164.length : Int) := of_decide_eq_true (by assumption); obtain ⟨ad167, e167, hx167_0, hx167_1⟩ := at_T30 (Kd.R_reads' HO_22.out).2.2 x24_2 p167 q167
       cases e167
       replace p167 := eq_true p167; replace q167 := eq_true q167; (try go_wp2_with (first | ((with_reducible refine gate_dst (N := 9) rfl ?_); refine bxe 9 #[.int .i64 0, .int .i64 0] 30 ?_; intro gb168 hg w30 hbox hb; have GW168 := gw hg; have GE168 := GW168; have NB160_168 := nb BK160 hg; have NB168_160 := nc BK160 hg; have NB161_168 := nb BK161 hg; have NB168_161 := nc BK161 hg; replace HO_6 := Aside0.mk (Kd.R_below (uR HO_6.out) hb); replace HO_7 := Aside0.mk (Kd.R_below (uR HO_7.out) hb); replace HO_22 := rE HO_22 hg hb; replace BK160 := Aside0.mk (blk_below BK160.out hb); replace BK161 := Aside0.mk (blk_below BK161.out hb); have BK168 := Aside0.mk (hbox); replace HB := Aside0.mk (below_step HB.out hb); clear hb hbox hg; have hnb31 := NB168_160.out; have hnc31 := NB160_168.out; have hnb32 := NB168_161.out; have hnc32 := NB161_168.out; obtain ⟨hcz33_0, hcz33_1⟩ := cz2 BK168.out; obtain ⟨hfz33_0, hfz33_1⟩ := fz2 BK168.out; obtain ⟨Ao34, co34, eo34⟩ := Kd.R_slice HO_6.out; subst eo34; obtain ⟨Ao35, co35, eo35⟩ := Kd.R_slice HO_7.out; subst eo35))); have n0_ : Aside0 (Kd.R (Kd.int .i64) 3 ((w30.setCell ⟨gb168, 0, none⟩ (.int .i64 ((rd_T30 t164 x24_2).f0))).setCell ⟨gb168, 1, none⟩ (.int .i64 ((rd_T30 t164 x24_2).f1))) w.heap.size (fun k_ => some k_ ≠ (.slice Ao35 x7_2.length co35 : Value).ownBlock) (.slice Ao34 x6_2.length co34) x6_2) := ⟨by refine uR ?_; exact Kd.R_mono (Kd.R_far (p := ⟨gb168, 1, none⟩) (Kd.R_far (p := ⟨gb168, 0, none⟩) (Kd.R_types HO_6.out BK168.out (by decide)) (fun _ hk => hk.2) (.int .i64 ((rd_T30 t164 x24_2).f0))) (fun _ hk => hk.2) (.int .i64 ((rd_T30 t164 x24_2).f1))) (fun _ hk => hk.1)⟩; have n1_ : Aside0 (Kd.R (Kd.int .i64) 3 ((w30.setCell ⟨gb168, 0, none⟩ (.int .i64 ((rd_T30 t164 x24_2).f0))).setCell ⟨gb168, 1, none⟩ (.int .i64 ((rd_T30 t164 x24_2).f1))) w.heap.size (fun k_ => some k_ ≠ (.slice Ao34 x6_2.length co34 : Value).ownBlock) (.slice Ao35 x7_2.length co35) x7_2) := ⟨by refine uR ?_; exact Kd.R_mono (Kd.R_far (p := ⟨gb168, 1, none⟩) (Kd.R_far (p := ⟨gb168, 0, none⟩) (Kd.R_types HO_7.out BK168.out (by decide)) (fun _ hk => hk.2) (.int .i64 ((rd_T30 t164 x24_2).f0))) (fun _ hk => hk.2) (.int .i64 ((rd_T30 t164 x24_2).f1))) (fun _ hk => hk.1)⟩; have n2_ : Aside0 (Kd.R k30 30 ((w30.setCell ⟨gb168, 0, none⟩ (.int .i64 ((rd_T30 t164 x24_2).f0))).setCell ⟨gb168, 1, none⟩ (.int .i64 ((rd_T30 t164 x24_2).f1))) w.heap.size (fun k_ => k_ ≠ gb161 ∧ k_ ≠ gb168) (.slice (some ad167) t164.length co24) t164) := ⟨by refine uR ?_; exact Kd.R_mono (Kd.R_far (p := ⟨gb168, 1, none⟩) (Kd.R_far (p := ⟨gb168, 0, none⟩) (Kd.R_mono HO_22.out (fun k_ hk => (⟨hk, hk.2⟩ : _ ∧ k_ ≠ gb168))) (fun _ hk => hk.2) (.int .i64 ((rd_T30 t164 x24_2).f0))) (fun _ hk => hk.2) (.int .i64 ((rd_T30 t164 x24_2).f1))) (fun _ hk => ⟨hk.1.1, hk.1.2⟩)⟩; have n3_ : Aside0 (((w30.setCell ⟨gb168, 0, none⟩ (.int .i64 ((rd_T30 t164 x24_2).f0))).setCell ⟨gb168, 1, none⟩ (.int .i64 ((rd_T30 t164 x24_2).f1))).heap[gb160]? = some (.cells #[.slice A0_0 l0_0.length c0_0, .slice A0_1 l0_1.length c0_1] 25 (0, 0))) := ⟨by refine uK ?_; refine blk_far ?_ NB160_168.out _; refine uK ?_; refine blk_far ?_ NB160_168.out _; refine uK ?_; exact BK160.out⟩; have n4_ : Aside0 (((w30.setCell ⟨gb168, 0, none⟩ (.int .i64 ((rd_T30 t164 x24_2).f0))).setCell ⟨gb168, 1, none⟩ (.int .i64 ((rd_T30 t164 x24_2).f1))).heap[gb161]? = some (.cells #[.int .i64 0, .int .i64 0] 30 (0, 0))) := ⟨by refine uK ?_; refine blk_far ?_ NB161_168.out _; refine uK ?_; refine blk_far ?_ NB161_168.out _; refine uK ?_; exact BK161.out⟩; have n5_ : Aside0 (((w30.setCell ⟨gb168, 0, none⟩ (.int .i64 ((rd_T30 t164 x24_2).f0))).setCell ⟨gb168, 1, none⟩ (.int .i64 ((rd_T30 t164 x24_2).f1))).heap[gb168]? = some (.cells #[.int .i64 ((rd_T30 t164 x24_2).f0), .int .i64 ((rd_T30 t164 x24_2).f1)] 30 (0, 0))) := ⟨by refine uK ?_; refine blk_put (cs := #[.int .i64 ((rd_T30 t164 x24_2).f0), .int .i64 0]) ?_ 1 _ rfl; refine uK ?_; refine blk_put (cs := #[.int .i64 0, .int .i64 0]) ?_ 0 _ rfl; refine uK ?_; exact BK168.out⟩; have n6_ : Aside0 (Below w.heap.size w ((w30.setCell ⟨gb168, 0, none⟩ (.int .i64 ((rd_T30 t164 x24_2).f0))).setCell ⟨gb168, 1, none⟩ (.int .i64 ((rd_T30 t164 x24_2).f1)))) := ⟨uB⟩; (try clear HO_6); (try clear HO_7); (try clear HO_22); (try clear BK160); (try clear BK161); (try clear BK168); (try clear HB); generalize ((w30.setCell ⟨gb168, 0, none⟩ (.int .i64 ((rd_T30 t164 x24_2).f0))).setCell ⟨gb168, 1, none⟩ (.int .i64 ((rd_T30 t164 x24_2).f1))) = w36 at n0_ n1_ n2_ n3_ n4_ n5_ n6_ ⊢; have HO_6 := n0_; have HO_7 := n1_; have HO_22 := n2_; have BK160 := n3_; have BK161 := n4_; have BK168 := n5_; have HB := n6_; clear n0_ n1_ n2_ n3_ n4_ n5_ n6_; replace HO_6 := Aside0.mk (Kd.R_drew HO_6.out); replace HO_7 := Aside0.mk (Kd.R_drew HO_7.out); replace HO_22 := Aside0.mk (Kd.R_drew HO_22.out); replace BK160 := Aside0.mk (blk_drew BK160.out); replace BK161 := Aside0.mk (blk_drew BK161.out); replace BK168 := Aside0.mk (blk_drew BK168.out); replace HB := Aside0.mk (below_drew1 HB.out); refine start_ (n := 12) (S := fun w' => w'.cell? ⟨gb168, 0, none⟩ = some (.int .i64 ((rd_T30 t164 x24_2).f0)) ∧ w'.cell? ⟨gb168, 1, none⟩ = some (.int .i64 ((rd_T30 t164 x24_2).f1))) (ds := []) (bl 12 0) (by kernel_rfl) rfl rfl ⟨(blk_cell BK168.out 0).trans rfl, (blk_cell BK168.out 1).trans rfl⟩ (fun hHeld => ?_); refine with_tabW channel_Line.tab7 channel_Line.bits7 (fun HT_ HW_ => ?_)
       generalize w36.drew = w37 at HO_6 HO_7 HO_22 BK160 BK161 BK168 HB hHeld ⊢; refine pu 0 28 12 1 ?_; refine pu 1 29 12 3 ?_; refine pu 5 33 12 35 ?_; refine pu 6 34 12 99 ?_; refine tk2 2 30 12 103 hHeld ?_; refine tk2 7 35 12 231 hHeld ?_; refine join_ (σ := Value × Value × Value) 3 (bl 12 511) (fun s_ => [(31, s_.1), (32, s_.2.1), (36, s_.2.2)]) (fun s_ w' => (w'.cell? ⟨gb168, 0, none⟩ = some (.int .i64 ((rd_T30 t164 x24_2).f0)) ∧ w'.cell? ⟨gb168, 1, none⟩ = some (.int .i64 ((rd_T30 t164 x24_2).f1))) ∧ (Kd.R (Kd.int .i64) 3 w' w.heap.size (fun k_ => some k_ ≠ (s_.2.1 : Value).ownBlock ∧ some k_ ≠ (s_.2.2 : Value).ownBlock ∧ some k_ ≠ (.slice Ao35 x7_2.length co35 : Value).ownBlock) s_.1 y169) ∧ (Kd.R (Kd.int .i64) 3 w' w.heap.size (fun k_ => some k_ ≠ (s_.1 : Value).ownBlock ∧ some k_ ≠ (s_.2.2 : Value).ownBlock ∧ some k_ ≠ (.slice Ao35 x7_2.length co35 : Value).ownBlock) s_.2.1 y172) ∧ (Kd.R (Kd.int .i64) 3 w' w.heap.size (fun k_ => some k_ ≠ (s_.1 : Value).ownBlock ∧ some k_ ≠ (s_.2.1 : Value).ownBlock ∧ some k_ ≠ (.slice Ao35 x7_2.length co35 : Value).ownBlock) s_.2.2 y175) ∧ (Kd.R k30 30 w' w.heap.size (fun k_ => k_ ≠ gb161 ∧ k_ ≠ gb168) (.slice (some ad167) t164.length co24) t164) ∧ (Kd.R (Kd.int .i64) 3 w' w.heap.size (fun k_ => some k_ ≠ (s_.1 : Value).ownBlock ∧ some k_ ≠ (s_.2.1 : Value).ownBlock ∧ some k_ ≠ (s_.2.2 : Value).ownBlock) (.slice Ao35 x7_2.length co35) x7_2) ∧ (w'.heap[gb160]? = some (.cells #[.slice A0_0 l0_0.length c0_0, .slice A0_1 l0_1.length c0_1] 25 (0, 0))) ∧ (w'.heap[gb161]? = some (.cells #[.int .i64 0, .int .i64 0] 30 (0, 0))) ∧ (w'.heap[gb168]? = some (.cells #[.int .i64 ((rd_T30 t164 x24_2).f0), .int .i64 ((rd_T30 t164 x24_2).f1)] 30 (0, 0))) ∧ (Below w.heap.size w w')) ?_ ?_; rotate_left
       ·intro hCont; refine two_ (i := 3) (j := 8) (Ni := some 31) (Nj := some 36) (bl 12 239) (bl 12 487) rfl rfl rfl rfl (two_of HT_.out (by kernel_rfl)) (by decide) (by decide) (fun K hK => ?_) (fun K hK => ?_)
        ·skip
         refine Kd.R_lit_step (Kd.int .i64) _ 3 ?hg (N := 31) ?hd (xs := ([(rd_T30 t164 x24_2).f0] : List Int)) (inner := [.int .i64 ((rd_T30 t164 x24_2).f0)]) (ok := fun _ => True) (okp := fun _ => True) ?hr ?hp (fun _ hk => hk) trivial (Below.refl _ _) (Nat.le_refl _) (by simp) ?_; (case hd => rfl); (case hg => rfl); (case hr => first | (go_simp; done) | (go_simp; rfl)); (case hp => exact (Reps.one (show Kd.M (Kd.int .i64) _ _ _ ((rd_T30 t164 x24_2).f0) [.int .i64 ((rd_T30 t164 x24_2).f0)] from rfl) (Reps.none _ _)))
         intro v170 w38 ho39 hb hg_ hnew_; clear hg_ hnew_; (first | rw [← Ny169.out] at ho39 | (simp only [Int.reduceToNat] at ho39; rw [← Ny169.out] at ho39)); have n0_ := Aside0.mk (Kd.R_elder' (uR HO_6.out) (Kd.R_base ho39) hb); have n1_ := Aside0.mk (Kd.R_elder' (uR HO_7.out) (Kd.R_base ho39) hb); have n2_ := Aside0.mk (Kd.R_below (uR HO_22.out) hb); have n3_ := Aside0.mk (Kd.R_lower (Kd.R_new' (Kd.R_new' ho39 (Kd.R_lt (uR HO_6.out))) (Kd.R_lt (uR HO_7.out))) (below_size HB.out)); have n4_ := Aside0.mk (blk_below BK160.out hb); have n5_ := Aside0.mk (blk_below BK161.out hb); have n6_ := Aside0.mk (blk_below BK168.out hb); have n7_ := Aside0.mk (below_step HB.out hb); clear HO_6 HO_7 HO_22 BK160 BK161 BK168 HB; have HO_6 := n0_; have HO_7 := n1_; have HO_22 := n2_; have HO171 := n3_; have BK160 := n4_; have BK161 := n5_; have BK168 := n6_; have HB := n7_; clear n0_ n1_ n2_ n3_ n4_ n5_ n6_ n7_; clear hb ho39; obtain ⟨Ao41, co41, eo41⟩ := Kd.R_slice HO171.out; (first | subst eo41 | (injection eo41 with f1_ f2_ f3_; have f4_ := f1_.symm; have f5_ := f3_.symm; clear f1_ f2_ f3_; subst f4_; subst f5_)); refine hK.out _ _ ⟨(blk_cell BK168.out 0).trans rfl, (blk_cell BK168.out 1).trans rfl⟩ (fun hHeld => ?_); clear hK K; refine nm ?_; refine two_ (i := 4) (j := 8) (Ni := some 32) (Nj := some 36) (bl 12 255) (bl 12 495) rfl rfl rfl rfl (two_of HT_.out (by kernel_rfl)) (by decide) (by decide) (fun K hK => ?_) (fun K hK => ?_)
         ·skip
          refine Kd.R_append_rows_step (Kd.int .i64) (w0 := w) w.heap.size (by rfl) (.tmp 28) (.tmp 31) 22 3 (.int .i64 0) 8 rfl Tryz.underlying22 info3 rfl (by decide) (by omega) (.slice Ao34 x6_2.length co34) x6_2 y169 _ _ _ (fun k_ => some k_ ≠ (.slice Ao35 x7_2.length co35 : Value).ownBlock ∧ some k_ ≠ (.slice Ao41 y169.length co41 : Value).ownBlock) (fun _ => False) rfl rfl ?aO ?aR (fun _ _ h => h) (fun _ h => h.elim) ?aF ?aB ?aS ?aL ?_; (case aR => repeat (first | exact (Kd.R_reads' HO171.out).2.2 | (with_reducible refine Kd.C_alloc ?_ _) | (with_reducible refine Kd.C_drewN ?_ _) | (with_reducible refine Kd.C_drew ?_))); (case aB => exact HB.out); (case aF => exact (fun k_ hk => ⟨Kd.fresh' (Kd.R_lt (uR HO_7.out)) k_ hk, Kd.fresh' (Kd.R_lt (uR HO171.out)) k_ hk⟩)); (case aO => exact (uR HO_6.out)); (case aS => exact (below_size HB.out)); (case aL => have := LMc28.out; omega); intro v173 w40 ho hb hg hat; rw [← Ny172.out] at ho; replace HO_7 := Aside0.mk (Kd.R_after (ok := (fun k_ => some k_ ≠ (.slice Ao41 y169.length co41 : Value).ownBlock)) (by refine uR ?_; exact Kd.R_mono HO_7.out (fun _ hk => ⟨hk.2, hk.1⟩)) hg hat); replace HO_22 := Aside0.mk (Kd.R_over' (uR HO_22.out) (Kd.R_typed (uR HO_6.out)) (by decide) hg); replace BK160 := Aside0.mk (blk_grown BK160.out hg (Kd.R_ne HO_6.out BK160.out (by decide))); replace BK161 := Aside0.mk (blk_grown BK161.out hg (Kd.R_ne HO_6.out BK161.out (by decide))); replace BK168 := Aside0.mk (blk_grown BK168.out hg (Kd.R_ne HO_6.out BK168.out (by decide))); replace HO171 := Aside0.mk (Kd.R_after (ok := (fun k_ => some k_ ≠ (.slice Ao35 x7_2.length co35 : Value).ownBlock)) (by refine uR ?_; exact Kd.R_mono HO171.out (fun _ hk => ⟨hk.2, hk.1.2⟩)) hg hat); have HO174 := Aside0.mk (ho); replace HB := Aside0.mk (hb); clear HO_6; clear ho hb hg hat; refine hK.out _ _ ⟨(blk_cell BK168.out 0).trans rfl, (blk_cell BK168.out 1).trans rfl⟩ (fun hHeld => ?_); clear hK K; refine nm ?_; refine one_ (i := 8) (N := some 36) (bl 12 511) rfl rfl (one_of HT_.out (by kernel_rfl)) (by decide) (fun K hK => ?_); refine Kd.R_lit_step (Kd.int .i64) _ 3 ?hg (N := 36) ?hd (xs := ([(rd_T30 t164 x24_2).f1] : List Int)) (inner := [.int .i64 ((rd_T30 t164 x24_2).f1)]) (ok := fun _ => True) (okp := fun _ => True) ?hr ?hp (fun _ hk => hk) trivial (Below.refl _ _) (Nat.le_refl _) (by simp) ?_; (case hd => rfl); (case hg => rfl); (case hr => first | (go_simp; done) | (go_simp; rfl)); (case hp => exact (Reps.one (show Kd.M (Kd.int .i64) _ _ _ ((rd_T30 t164 x24_2).f1) [.int .i64 ((rd_T30 t164 x24_2).f1)] from rfl) (Reps.none _ _)))
          intro v176 w42 ho43 hb hg_ hnew_; clear hg_ hnew_; (first | rw [← Ny175.out] at ho43 | (simp only [Int.reduceToNat] at ho43; rw [← Ny175.out] at ho43)); have n0_ := Aside0.mk (Kd.R_elder' (uR HO_7.out) (Kd.R_base ho43) hb); have n1_ := Aside0.mk (Kd.R_below (uR HO_22.out) hb); have n2_ := Aside0.mk (Kd.R_elder' (uR HO171.out) (Kd.R_base ho43) hb); have n3_ := Aside0.mk (Kd.R_elder' (uR HO174.out) (Kd.R_base ho43) hb); have n4_ := Aside0.mk (Kd.R_lower (Kd.R_new' (Kd.R_new' (Kd.R_new' ho43 (Kd.R_lt (uR HO_7.out))) (Kd.R_lt (uR HO171.out))) (Kd.R_lt (uR HO174.out))) (below_size HB.out)); have n5_ := Aside0.mk (blk_below BK160.out hb); have n6_ := Aside0.mk (blk_below BK161.out hb); have n7_ := Aside0.mk (blk_below BK168.out hb); have n8_ := Aside0.mk (below_step HB.out hb); clear HO_7 HO_22 HO171 HO174 BK160 BK161 BK168 HB; have HO_7 := n0_; have HO_22 := n1_; have HO171 := n2_; have HO174 := n3_; have HO177 := n4_; have BK160 := n5_; have BK161 := n6_; have BK168 := n7_; have HB := n8_; clear n0_ n1_ n2_ n3_ n4_ n5_ n6_ n7_ n8_; clear hb ho43; refine hK.out _ _ ⟨(blk_cell BK168.out 0).trans rfl, (blk_cell BK168.out 1).trans rfl⟩ (fun hHeld => ?_); clear hK K; refine nm ?_; exact norm_ (by simp only [putAll, Act.put, List.setIfInBounds_toArray, List.set_cons_zero, List.set_cons_succ]) (hCont (.slice Ao41 y169.length co41, v173, v176) _ ⟨hHeld, (by refine uR ?_; exact Kd.R_mono HO171.out (fun _ hk => ⟨hk.1.2, ⟨hk.2, hk.1.1⟩⟩)), (by refine uR ?_; exact Kd.R_mono HO174.out (fun _ hk => ⟨hk.1.2, ⟨hk.2, hk.1.1⟩⟩)), (by refine uR ?_; exact Kd.R_mono HO177.out (fun _ hk => ⟨hk.1.2, ⟨hk.2, hk.1.1.2⟩⟩)), (uR HO_22.out), (by refine uR ?_; exact Kd.R_mono HO_7.out (fun _ hk => ⟨hk.1.1, ⟨hk.1.2, hk.2⟩⟩)), BK160.out, BK161.out, BK168.out, HB.out⟩)
         ·skip
          refine Kd.R_lit_step (Kd.int .i64) _ 3 ?hg (N := 36) ?hd (xs := ([(rd_T30 t164 x24_2).f1] : List Int)) (inner := [.int .i64 ((rd_T30 t164 x24_2).f1)]) (ok := fun _ => True) (okp := fun _ => True) ?hr ?hp (fun _ hk => hk) trivial (Below.refl _ _) (Nat.le_refl _) (by simp) ?_; (case hd => rfl); (case hg => rfl); (case hr => first | (go_simp; done) | (go_simp; rfl)); (case hp => exact (Reps.one (show Kd.M (Kd.int .i64) _ _ _ ((rd_T30 t164 x24_2).f1) [.int .i64 ((rd_T30 t164 x24_2).f1)] from rfl) (Reps.none _ _)))
          intro v176 w40 ho41 hb hg_ hnew_; clear hg_ hnew_; (first | rw [← Ny175.out] at ho41 | (simp only [Int.reduceToNat] at ho41; rw [← Ny175.out] at ho41)); have n0_ := Aside0.mk (Kd.R_elder' (uR HO_6.out) (Kd.R_base ho41) hb); have n1_ := Aside0.mk (Kd.R_elder' (uR HO_7.out) (Kd.R_base ho41) hb); have n2_ := Aside0.mk (Kd.R_below (uR HO_22.out) hb); have n3_ := Aside0.mk (Kd.R_elder' (uR HO171.out) (Kd.R_base ho41) hb); have n4_ := Aside0.mk (Kd.R_lower (Kd.R_new' (Kd.R_new' (Kd.R_new' ho41 (Kd.R_lt (uR HO_6.out))) (Kd.R_lt (uR HO_7.out))) (Kd.R_lt (uR HO171.out))) (below_size HB.out)); have n5_ := Aside0.mk (blk_below BK160.out hb); have n6_ := Aside0.mk (blk_below BK161.out hb); have n7_ := Aside0.mk (blk_below BK168.out hb); have n8_ := Aside0.mk (below_step HB.out hb); clear HO_6 HO_7 HO_22 HO171 BK160 BK161 BK168 HB; have HO_6 := n0_; have HO_7 := n1_; have HO_22 := n2_; have HO171 := n3_; have HO177 := n4_; have BK160 := n5_; have BK161 := n6_; have BK168 := n7_; have HB := n8_; clear n0_ n1_ n2_ n3_ n4_ n5_ n6_ n7_ n8_; clear hb ho41; obtain ⟨Ao43, co43, eo43⟩ := Kd.R_slice HO171.out; (first | subst eo43 | (injection eo43 with f1_ f2_ f3_; have f4_ := f1_.symm; have f5_ := f3_.symm; clear f1_ f2_ f3_; subst f4_; subst f5_)); refine hK.out _ _ ⟨(blk_cell BK168.out 0).trans rfl, (blk_cell BK168.out 1).trans rfl⟩ (fun hHeld => ?_); clear hK K; refine nm ?_; refine one_ (i := 4) (N := some 32) (bl 12 511) rfl rfl (one_of HT_.out (by kernel_rfl)) (by decide) (fun K hK => ?_); refine Kd.R_append_rows_step (Kd.int .i64) (w0 := w) w.heap.size (by rfl) (.tmp 28) (.tmp 31) 22 3 (.int .i64 0) 8 rfl Tryz.underlying22 info3 rfl (by decide) (by omega) (.slice Ao34 x6_2.length co34) x6_2 y169 _ _ _ (fun k_ => some k_ ≠ (.slice Ao35 x7_2.length co35 : Value).ownBlock ∧ some k_ ≠ (.slice Ao43 y169.length co43 : Value).ownBlock ∧ some k_ ≠ (v176 : Value).ownBlock) (fun _ => False) rfl rfl ?aO ?aR (fun _ _ h => h) (fun _ h => h.elim) ?aF ?aB ?aS ?aL ?_; (case aR => repeat (first | exact (Kd.R_reads' HO171.out).2.2 | (with_reducible refine Kd.C_alloc ?_ _) | (with_reducible refine Kd.C_drewN ?_ _) | (with_reducible refine Kd.C_drew ?_))); (case aB => exact HB.out); (case aF => exact (fun k_ hk => ⟨Kd.fresh' (Kd.R_lt (uR HO_7.out)) k_ hk, Kd.fresh' (Kd.R_lt (uR HO171.out)) k_ hk, Kd.fresh' (Kd.R_lt (uR HO177.out)) k_ hk⟩)); (case aO => exact (by refine uR ?_; exact Kd.R_mono HO_6.out (fun _ hk => ⟨hk.1.1, ⟨hk.1.2, hk.2⟩⟩))); (case aS => exact (below_size HB.out)); (case aL => have := LMc28.out; omega); intro v173 w42 ho hb hg hat; rw [← Ny172.out] at ho; replace HO_7 := Aside0.mk (Kd.R_after (ok := (fun k_ => some k_ ≠ (.slice Ao43 y169.length co43 : Value).ownBlock ∧ some k_ ≠ (v176 : Value).ownBlock)) (by refine uR ?_; exact Kd.R_mono HO_7.out (fun _ hk => ⟨⟨hk.1.2, hk.2⟩, hk.1.1⟩)) hg hat); replace HO_22 := Aside0.mk (Kd.R_over' (uR HO_22.out) (Kd.R_typed (uR HO_6.out)) (by decide) hg); replace BK160 := Aside0.mk (blk_grown BK160.out hg (Kd.R_ne HO_6.out BK160.out (by decide))); replace BK161 := Aside0.mk (blk_grown BK161.out hg (Kd.R_ne HO_6.out BK161.out (by decide))); replace BK168 := Aside0.mk (blk_grown BK168.out hg (Kd.R_ne HO_6.out BK168.out (by decide))); replace HO171 := Aside0.mk (Kd.R_after (ok := (fun k_ => some k_ ≠ (.slice Ao35 x7_2.length co35 : Value).ownBlock ∧ some k_ ≠ (v176 : Value).ownBlock)) (by refine uR ?_; exact Kd.R_mono HO171.out (fun _ hk => ⟨⟨hk.1.2, hk.2⟩, hk.1.1.2⟩)) hg hat); replace HO177 := Aside0.mk (Kd.R_after (ok := (fun k_ => some k_ ≠ (.slice Ao35 x7_2.length co35 : Value).ownBlock ∧ some k_ ≠ (.slice Ao43 y169.length co43 : Value).ownBlock)) (by refine uR ?_; exact Kd.R_mono HO177.out (fun _ hk => ⟨⟨hk.1.2, hk.2⟩, hk.1.1.2⟩)) hg hat); have HO174 := Aside0.mk (ho); replace HB := Aside0.mk (hb); clear HO_6; clear ho hb hg hat; refine hK.out _ _ ⟨(blk_cell BK168.out 0).trans rfl, (blk_cell BK168.out 1).trans rfl⟩ (fun hHeld => ?_); clear hK K; refine nm ?_; exact norm_ (by simp only [putAll, Act.put, List.setIfInBounds_toArray, List.set_cons_zero, List.set_cons_succ]) (hCont (.slice Ao43 y169.length co43, v173, v176) _ ⟨hHeld, (by refine uR ?_; exact Kd.R_mono HO171.out (fun _ hk => ⟨hk.2, ⟨hk.1.2, hk.1.1⟩⟩)), (by refine uR ?_; exact Kd.R_mono HO174.out (fun _ hk => ⟨hk.2.1, ⟨hk.2.2, hk.1⟩⟩)), (by refine uR ?_; exact Kd.R_mono HO177.out (fun _ hk => ⟨hk.1.2, ⟨hk.2, hk.1.1⟩⟩)), (uR HO_22.out), (by refine uR ?_; exact Kd.R_mono HO_7.out (fun _ hk => ⟨hk.1.1, ⟨hk.2, hk.1.2⟩⟩)), BK160.out, BK161.out, BK168.out, HB.out⟩)
        ·skip
         refine Kd.R_lit_step (Kd.int .i64) _ 3 ?hg (N := 36) ?hd (xs := ([(rd_T30 t164 x24_2).f1] : List Int)) (inner := [.int .i64 ((rd_T30 t164 x24_2).f1)]) (ok := fun _ => True) (okp := fun _ => True) ?hr ?hp (fun _ hk => hk) trivial (Below.refl _ _) (Nat.le_refl _) (by simp) ?_; (case hd => rfl); (case hg => rfl); (case hr => first | (go_simp; done) | (go_simp; rfl)); (case hp => exact (Reps.one (show Kd.M (Kd.int .i64) _ _ _ ((rd_T30 t164 x24_2).f1) [.int .i64 ((rd_T30 t164 x24_2).f1)] from rfl) (Reps.none _ _)))
         intro v176 w38 ho39 hb hg_ hnew_; clear hg_ hnew_; (first | rw [← Ny175.out] at ho39 | (simp only [Int.reduceToNat] at ho39; rw [← Ny175.out] at ho39)); have n0_ := Aside0.mk (Kd.R_elder' (uR HO_6.out) (Kd.R_base ho39) hb); have n1_ := Aside0.mk (Kd.R_elder' (uR HO_7.out) (Kd.R_base ho39) hb); have n2_ := Aside0.mk (Kd.R_below (uR HO_22.out) hb); have n3_ := Aside0.mk (Kd.R_lower (Kd.R_new' (Kd.R_new' ho39 (Kd.R_lt (uR HO_6.out))) (Kd.R_lt (uR HO_7.out))) (below_size HB.out)); have n4_ := Aside0.mk (blk_below BK160.out hb); have n5_ := Aside0.mk (blk_below BK161.out hb); have n6_ := Aside0.mk (blk_below BK168.out hb); have n7_ := Aside0.mk (below_step HB.out hb); clear HO_6 HO_7 HO_22 BK160 BK161 BK168 HB; have HO_6 := n0_; have HO_7 := n1_; have HO_22 := n2_; have HO177 := n3_; have BK160 := n4_; have BK161 := n5_; have BK168 := n6_; have HB := n7_; clear n0_ n1_ n2_ n3_ n4_ n5_ n6_ n7_; clear hb ho39; refine hK.out _ _ ⟨(blk_cell BK168.out 0).trans rfl, (blk_cell BK168.out 1).trans rfl⟩ (fun hHeld => ?_); clear hK K; refine nm ?_; refine one_ (i := 3) (N := some 31) (bl 12 495) rfl rfl (one_of HT_.out (by kernel_rfl)) (by decide) (fun K hK => ?_); refine Kd.R_lit_step (Kd.int .i64) _ 3 ?hg (N := 31) ?hd (xs := ([(rd_T30 t164 x24_2).f0] : List Int)) (inner := [.int .i64 ((rd_T30 t164 x24_2).f0)]) (ok := fun _ => True) (okp := fun _ => True) ?hr ?hp (fun _ hk => hk) trivial (Below.refl _ _) (Nat.le_refl _) (by simp) ?_; (case hd => rfl); (case hg => rfl); (case hr => first | (go_simp; done) | (go_simp; rfl)); (case hp => exact (Reps.one (show Kd.M (Kd.int .i64) _ _ _ ((rd_T30 t164 x24_2).f0) [.int .i64 ((rd_T30 t164 x24_2).f0)] from rfl) (Reps.none _ _)))
         intro v170 w40 ho41 hb hg_ hnew_; clear hg_ hnew_; (first | rw [← Ny169.out] at ho41 | (simp only [Int.reduceToNat] at ho41; rw [← Ny169.out] at ho41)); have n0_ := Aside0.mk (Kd.R_elder' (uR HO_6.out) (Kd.R_base ho41) hb); have n1_ := Aside0.mk (Kd.R_elder' (uR HO_7.out) (Kd.R_base ho41) hb); have n2_ := Aside0.mk (Kd.R_below (uR HO_22.out) hb); have n3_ := Aside0.mk (Kd.R_elder' (uR HO177.out) (Kd.R_base ho41) hb); have n4_ := Aside0.mk (Kd.R_lower (Kd.R_new' (Kd.R_new' (Kd.R_new' ho41 (Kd.R_lt (uR HO_6.out))) (Kd.R_lt (uR HO_7.out))) (Kd.R_lt (uR HO177.out))) (below_size HB.out)); have n5_ := Aside0.mk (blk_below BK160.out hb); have n6_ := Aside0.mk (blk_below BK161.out hb); have n7_ := Aside0.mk (blk_below BK168.out hb); have n8_ := Aside0.mk (below_step HB.out hb); clear HO_6 HO_7 HO_22 HO177 BK160 BK161 BK168 HB; have HO_6 := n0_; have HO_7 := n1_; have HO_22 := n2_; have HO177 := n3_; have HO171 := n4_; have BK160 := n5_; have BK161 := n6_; have BK168 := n7_; have HB := n8_; clear n0_ n1_ n2_ n3_ n4_ n5_ n6_ n7_ n8_; clear hb ho41; obtain ⟨Ao43, co43, eo43⟩ := Kd.R_slice HO171.out; (first | subst eo43 | (injection eo43 with f1_ f2_ f3_; have f4_ := f1_.symm; have f5_ := f3_.symm; clear f1_ f2_ f3_; subst f4_; subst f5_)); refine hK.out _ _ ⟨(blk_cell BK168.out 0).trans rfl, (blk_cell BK168.out 1).trans rfl⟩ (fun hHeld => ?_); clear hK K; refine nm ?_; refine one_ (i := 4) (N := some 32) (bl 12 511) rfl rfl (one_of HT_.out (by kernel_rfl)) (by decide) (fun K hK => ?_); refine Kd.R_append_rows_step (Kd.int .i64) (w0 := w) w.heap.size (by rfl) (.tmp 28) (.tmp 31) 22 3 (.int .i64 0) 8 rfl Tryz.underlying22 info3 rfl (by decide) (by omega) (.slice Ao34 x6_2.length co34) x6_2 y169 _ _ _ (fun k_ => some k_ ≠ (.slice Ao35 x7_2.length co35 : Value).ownBlock ∧ some k_ ≠ (v176 : Value).ownBlock ∧ some k_ ≠ (.slice Ao43 y169.length co43 : Value).ownBlock) (fun _ => False) rfl rfl ?aO ?aR (fun _ _ h => h) (fun _ h => h.elim) ?aF ?aB ?aS ?aL ?_; (case aR => repeat (first | exact (Kd.R_reads' HO171.out).2.2 | (with_reducible refine Kd.C_alloc ?_ _) | (with_reducible refine Kd.C_drewN ?_ _) | (with_reducible refine Kd.C_drew ?_))); (case aB => exact HB.out); (case aF => exact (fun k_ hk => ⟨Kd.fresh' (Kd.R_lt (uR HO_7.out)) k_ hk, Kd.fresh' (Kd.R_lt (uR HO177.out)) k_ hk, Kd.fresh' (Kd.R_lt (uR HO171.out)) k_ hk⟩)); (case aO => exact (by refine uR ?_; exact Kd.R_mono HO_6.out (fun _ hk => ⟨hk.1.1, ⟨hk.1.2, hk.2⟩⟩))); (case aS => exact (below_size HB.out)); (case aL => have := LMc28.out; omega); intro v173 w42 ho hb hg hat; rw [← Ny172.out] at ho; replace HO_7 := Aside0.mk (Kd.R_after (ok := (fun k_ => some k_ ≠ (v176 : Value).ownBlock ∧ some k_ ≠ (.slice Ao43 y169.length co43 : Value).ownBlock)) (by refine uR ?_; exact Kd.R_mono HO_7.out (fun _ hk => ⟨⟨hk.1.2, hk.2⟩, hk.1.1⟩)) hg hat); replace HO_22 := Aside0.mk (Kd.R_over' (uR HO_22.out) (Kd.R_typed (uR HO_6.out)) (by decide) hg); replace BK160 := Aside0.mk (blk_grown BK160.out hg (Kd.R_ne HO_6.out BK160.out (by decide))); replace BK161 := Aside0.mk (blk_grown BK161.out hg (Kd.R_ne HO_6.out BK161.out (by decide))); replace BK168 := Aside0.mk (blk_grown BK168.out hg (Kd.R_ne HO_6.out BK168.out (by decide))); replace HO177 := Aside0.mk (Kd.R_after (ok := (fun k_ => some k_ ≠ (.slice Ao35 x7_2.length co35 : Value).ownBlock ∧ some k_ ≠ (.slice Ao43 y169.length co43 : Value).ownBlock)) (by refine uR ?_; exact Kd.R_mono HO177.out (fun _ hk => ⟨⟨hk.1.2, hk.2⟩, hk.1.1.2⟩)) hg hat); replace HO171 := Aside0.mk (Kd.R_after (ok := (fun k_ => some k_ ≠ (.slice Ao35 x7_2.length co35 : Value).ownBlock ∧ some k_ ≠ (v176 : Value).ownBlock)) (by refine uR ?_; exact Kd.R_mono HO171.out (fun _ hk => ⟨⟨hk.1.2, hk.2⟩, hk.1.1.2⟩)) hg hat); have HO174 := Aside0.mk (ho); replace HB := Aside0.mk (hb); clear HO_6; clear ho hb hg hat; refine hK.out _ _ ⟨(blk_cell BK168.out 0).trans rfl, (blk_cell BK168.out 1).trans rfl⟩ (fun hHeld => ?_); clear hK K; refine nm ?_; exact norm_ (by simp only [putAll, Act.put, List.setIfInBounds_toArray, List.set_cons_zero, List.set_cons_succ]) (hCont (.slice Ao43 y169.length co43, v173, v176) _ ⟨hHeld, (by refine uR ?_; exact Kd.R_mono HO171.out (fun _ hk => ⟨hk.2, ⟨hk.1.2, hk.1.1⟩⟩)), (by refine uR ?_; exact Kd.R_mono HO174.out (fun _ hk => ⟨hk.2.2, ⟨hk.2.1, hk.1⟩⟩)), (by refine uR ?_; exact Kd.R_mono HO177.out (fun _ hk => ⟨hk.1.2, ⟨hk.2, hk.1.1⟩⟩)), (uR HO_22.out), (by refine uR ?_; exact Kd.R_mono HO_7.out (fun _ hk => ⟨hk.1.2, ⟨hk.2, hk.1.1⟩⟩)), BK160.out, BK161.out, BK168.out, HB.out⟩)
       rintro ⟨v170, v173, v176⟩ w44 ⟨hS_, h0_, h1_, h2_, h3_, h4_, h5_, h6_, h7_, h8_⟩
       dsimp only at h0_ h1_ h2_ h3_ h4_ h5_ h6_ h7_ h8_
       have n0_ := Aside0.mk h0_; have n1_ := Aside0.mk h1_; have n2_ := Aside0.mk h2_; have n3_ := Aside0.mk h3_; have n4_ := Aside0.mk h4_; have n5_ := Aside0.mk h5_; have n6_ := Aside0.mk h6_; have n7_ := Aside0.mk h7_; have n8_ := Aside0.mk h8_; clear HO_6 HO_7 HO_22 BK160 BK161 BK168 HB; clear h0_ h1_ h2_ h3_ h4_ h5_ h6_ h7_ h8_; have HO171 := n0_; have HO174 := n1_; have HO177 := n2_; have HO_22 := n3_; have HO_7 := n4_; have BK160 := n5_; have BK161 := n6_; have BK168 := n7_; have HB := n8_; clear n0_ n1_ n2_ n3_ n4_ n5_ n6_ n7_ n8_; have hHeld : w44.cell? ⟨gb168, 0, none⟩ = some (.int .i64 ((rd_T30 t164 x24_2).f0)) ∧ w44.cell? ⟨gb168, 1, none⟩ = some (.int .i64 ((rd_T30 t164 x24_2).f1)) := hS_; obtain ⟨Ao46, co46, eo46⟩ := Kd.R_slice HO177.out; (first | subst eo46 | (injection eo46 with f1_ f2_ f3_; have f4_ := f1_.symm; have f5_ := f3_.symm; clear f1_ f2_ f3_; subst f4_; subst f5_)); refine nm ?_; refine one_ (i := 9) (N := some 37) (bl 12 1023) rfl rfl (one_of HT_.out (by kernel_rfl)) (by decide) (fun K hK => ?_); refine Kd.R_append_rows_step (Kd.int .i64) (w0 := w) w.heap.size (by rfl) (.tmp 33) (.tmp 36) 22 3 (.int .i64 0) 8 rfl Tryz.underlying22 info3 rfl (by decide) (by omega) (.slice Ao35 x7_2.length co35) x7_2 y175 _ _ _ (fun k_ => some k_ ≠ (v170 : Value).ownBlock ∧ some k_ ≠ (v173 : Value).ownBlock ∧ some k_ ≠ (.slice Ao46 y175.length co46 : Value).ownBlock) (fun _ => False) rfl rfl ?aO ?aR (fun _ _ h => h) (fun _ h => h.elim) ?aF ?aB ?aS ?aL ?_; (case aR => repeat (first | exact (Kd.R_reads' HO177.out).2.2 | (with_reducible refine Kd.C_alloc ?_ _) | (with_reducible refine Kd.C_drewN ?_ _) | (with_reducible refine Kd.C_drew ?_))); (case aB => exact HB.out); (case aF => exact (fun k_ hk => ⟨Kd.fresh' (Kd.R_lt (uR HO171.out)) k_ hk, Kd.fresh' (Kd.R_lt (uR HO174.out)) k_ hk, Kd.fresh' (Kd.R_lt (uR HO177.out)) k_ hk⟩)); (case aO => exact (uR HO_7.out)); (case aS => exact (below_size HB.out)); (case aL => have := LMc29.out; omega); intro v179 w45 ho hb hg hat; rw [← Ny178.out] at ho; replace HO_22 := Aside0.mk (Kd.R_over' (uR HO_22.out) (Kd.R_typed (uR HO_7.out)) (by decide) hg); replace BK160 := Aside0.mk (blk_grown BK160.out hg (Kd.R_ne HO_7.out BK160.out (by decide))); replace BK161 := Aside0.mk (blk_grown BK161.out hg (Kd.R_ne HO_7.out BK161.out (by decide))); replace BK168 := Aside0.mk (blk_grown BK168.out hg (Kd.R_ne HO_7.out BK168.out (by decide))); replace HO171 := Aside0.mk (Kd.R_after (ok := (fun k_ => some k_ ≠ (v173 : Value).ownBlock ∧ some k_ ≠ (.slice Ao46 y175.length co46 : Value).ownBlock)) (by refine uR ?_; exact Kd.R_mono HO171.out (fun _ hk => ⟨⟨hk.1, hk.2.1⟩, hk.2.2⟩)) hg hat); replace HO174 := Aside0.mk (Kd.R_after (ok := (fun k_ => some k_ ≠ (v170 : Value).ownBlock ∧ some k_ ≠ (.slice Ao46 y175.length co46 : Value).ownBlock)) (by refine uR ?_; exact Kd.R_mono HO174.out (fun _ hk => ⟨⟨hk.1, hk.2.1⟩, hk.2.2⟩)) hg hat); replace HO177 := Aside0.mk (Kd.R_after (ok := (fun k_ => some k_ ≠ (v170 : Value).ownBlock ∧ some k_ ≠ (v173 : Value).ownBlock)) (by refine uR ?_; exact Kd.R_mono HO177.out (fun _ hk => ⟨⟨hk.1, hk.2.1⟩, hk.2.2⟩)) hg hat); have HO180 := Aside0.mk (ho); replace HB := Aside0.mk (hb); clear HO_7; clear ho hb hg hat; refine hK.out _ _ ⟨(blk_cell BK168.out 0).trans rfl, (blk_cell BK168.out 1).trans rfl⟩ (fun hHeld => ?_); clear hK K; refine nm ?_; refine pu 10 6 12 2047 ?_; refine pu 11 7 12 4095 ?_; refine done_ (done_of HT_.out (by kernel_rfl)) ?_; try go_wp2
       go_roundg k2
       case measure => have := HJ2.out; have := HK2.out; omega
       case rel => exact ⟨(y172), (y178), (wrap64 (x24_2 + 1)), u0, H', ⟨by have := HJ2.out; have := HK2.out; omega⟩, ⟨by refine uR ?_; exact Kd.R_mono HO174.out (fun _ hk => hk.2)⟩, ⟨by refine uR ?_; exact Kd.R_mono HO180.out (fun _ hk => hk.2.1)⟩, ⟨by refine uR ?_; exact Kd.R_mono HO_22.out (fun _ hk => hk.1)⟩, ⟨uK BK160.out⟩, ⟨uK BK161.out⟩, ⟨uB⟩⟩
      ·rw [if_neg c25] at H; replace c25 := decide_eq_false c25; obtain ⟨c47, H⟩ := ifs H; have c47b0 : decide (0 < (x6_2.length : Int)) = true := decide_eq_true c47; have c47b1 : decide (0 < x6_2.length) = true := decide_eq_true (by omega); clear c47; replace H := Option.bind_eq_some_iff.mp H; obtain ⟨t182, A480, H⟩ := H; replace H : (if 0 < (x7_2.length : Int) then ((channel_lowest.f k2 (rd x7_2 0) x7_2).bind fun t184 => (some (t182, t184, 0))) else (none)) = some (r1, r2, r3) := H; have A48 := Aside0.mk A480; clear A480; obtain ⟨c49, H⟩ := ifs H; have c49b0 : decide (0 < (x7_2.length : Int)) = true := decide_eq_true c49; have c49b1 : decide (0 < x7_2.length) = true := decide_eq_true (by omega); clear c49; replace H := Option.bind_eq_some_iff.mp H; obtain ⟨t184, A500, H⟩ := H; replace H : (some (t182, t184, 0)) = some (r1, r2, r3) := H; have A50 := Aside0.mk A500; clear A500; simp only [Option.some.injEq, Prod.mk.injEq] at H; obtain ⟨rfl, rfl, rfl⟩ := H; (try go_wp2); replace HO_6 := Aside0.mk (Kd.R_drew HO_6.out); replace HO_7 := Aside0.mk (Kd.R_drew HO_7.out); replace HO_22 := Aside0.mk (Kd.R_drew HO_22.out); replace BK160 := Aside0.mk (blk_drew BK160.out); replace BK161 := Aside0.mk (blk_drew BK161.out); replace HB := Aside0.mk (below_drew1 HB.out); obtain ⟨Ao52, co52, eo52⟩ := Kd.R_slice HO_6.out; (first | subst eo52 | (injection eo52 with f1_ f2_ f3_; have f4_ := f1_.symm; have f5_ := f3_.symm; clear f1_ f2_ f3_; subst f4_; subst f5_)); have p181 : 0 ≤ (0 : Int) := (by omega); have q181 : 0 < (x6_2.length : Int) := of_decide_eq_true (by assumption); obtain ⟨ad181, e181, hx181_0⟩ := Kd.at_int (Kd.R_reads' HO_6.out).2.2 0 p181 q181
       cases e181
       have qi181 : (0 < x6_2.length) = True := eq_true (by omega); (try rw [show ((0 : Int)).toNat = 0 from rfl] at hx181_0); (try rw [Addr.add_zero'] at hx181_0); replace p181 := eq_true p181; replace q181 := eq_true q181; obtain ⟨Ao53, co53, eo53⟩ := Kd.R_slice HO_7.out; (first | subst eo53 | (injection eo53 with f1_ f2_ f3_; have f4_ := f1_.symm; have f5_ := f3_.symm; clear f1_ f2_ f3_; subst f4_; subst f5_)); have p183 : 0 ≤ (0 : Int) := (by omega); have q183 : 0 < (x7_2.length : Int) := of_decide_eq_true (by assumption); obtain ⟨ad183, e183, hx183_0⟩ := Kd.at_int (Kd.R_reads' HO_7.out).2.2 0 p183 q183
       cases e183
       have qi183 : (0 < x7_2.length) = True := eq_true (by omega); (try rw [show ((0 : Int)).toNat = 0 from rfl] at hx183_0); (try rw [Addr.add_zero'] at hx183_0); replace p183 := eq_true p183; replace q183 := eq_true q183; refine start_ (n := 13) (S := fun w' => w'.cell? ad181 = some (.int .i64 (rd x6_2 0)) ∧ w'.cell? ad183 = some (.int .i64 (rd x7_2 0))) (ds := []) (bl 13 0) (by kernel_rfl) rfl rfl ⟨hx181_0, hx183_0⟩ (fun hHeld => ?_); refine with_tabW channel_Line.tab9 channel_Line.bits9 (fun HT_ HW_ => ?_)
       generalize wr.drew = w51 at HO_6 HO_7 HO_22 BK160 BK161 HB hx181_0 hx183_0 hHeld ⊢; refine pu 0 39 13 1 ?_; refine pu 1 40 13 3 ?_; refine pu 3 42 13 11 ?_; refine pu 5 44 13 43 ?_; refine pu 6 45 13 107 ?_; refine pu 8 47 13 363 ?_; refine tk2 2 41 13 367 hHeld ?_; refine tk2 7 46 13 495 hHeld ?_; refine one_ (i := 4) (N := some 43) (bl 13 511) rfl rfl (one_of HT_.out (by kernel_rfl)) (by decide) (fun K hK => ?_); refine goes_ Tryz.func61 (by kernel_rfl) rfl #[.int .i64 (rd x6_2 0), .slice (some ad181) x6_2.length co52] (by rfl) rfl rfl uM ?_; (with_reducible refine (channel_lowest.calls k2 (rd x6_2 0) _ _ x6_2 t182 _ ?side1 ?side2 A48.out).mono ?_); (case side1 => repeat (first | exact (Kd.R_reads' HO_6.out).2.2 | (with_reducible refine Kd.C_alloc ?_ _) | (with_reducible refine Kd.C_drewN ?_ _) | (with_reducible refine Kd.C_drew ?_))); (case side2 => exact (Kd.R_reads' HO_6.out).2.1); rintro e w54 ⟨rfl, hb⟩; have HS0_ := (hb.cell (World.block_lt_of_cell? _ _ (hHeld.1))).trans (hHeld.1); have HS1_ := (hb.cell (World.block_lt_of_cell? _ _ (hHeld.2))).trans (hHeld.2); refine ⟨_, rfl, ?_⟩; replace HO_6 := Aside0.mk (Kd.R_below (uR HO_6.out) hb); replace HO_7 := Aside0.mk (Kd.R_below (uR HO_7.out) hb); replace HO_22 := Aside0.mk (Kd.R_below (uR HO_22.out) hb); replace BK160 := Aside0.mk (blk_below BK160.out hb); replace BK161 := Aside0.mk (blk_below BK161.out hb); replace HB := Aside0.mk (below_step HB.out hb); (try clear hb); (try clear hb2); (try clear hk); (try clear hi); refine hK.out _ _ ⟨HS0_, HS1_⟩ (fun hHeld => ?_); clear hK K; refine nm ?_; refine one_ (i := 9) (N := some 48) (bl 13 1023) rfl rfl (one_of HT_.out (by kernel_rfl)) (by decide) (fun K hK => ?_); refine goes_ Tryz.func61 (by kernel_rfl) rfl #[.int .i64 (rd x7_2 0), .slice (some ad183) x7_2.length co53] (by rfl) rfl rfl uM ?_; (with_reducible refine (channel_lowest.calls k2 (rd x7_2 0) _ _ x7_2 t184 _ ?side1 ?side2 A50.out).mono ?_); (case side1 => repeat (first | exact (Kd.R_reads' HO_7.out).2.2 | (with_reducible refine Kd.C_alloc ?_ _) | (with_reducible refine Kd.C_drewN ?_ _) | (with_reducible refine Kd.C_drew ?_))); (case side2 => exact (Kd.R_reads' HO_7.out).2.1); rintro e w55 ⟨rfl, hb⟩; have HS0_ := (hb.cell (World.block_lt_of_cell? _ _ (hHeld.1))).trans (hHeld.1); have HS1_ := (hb.cell (World.block_lt_of_cell? _ _ (hHeld.2))).trans (hHeld.2); refine ⟨_, rfl, ?_⟩; replace HO_6 := Aside0.mk (Kd.R_below (uR HO_6.out) hb); replace HO_7 := Aside0.mk (Kd.R_below (uR HO_7.out) hb); replace HO_22 := Aside0.mk (Kd.R_below (uR HO_22.out) hb); replace BK160 := Aside0.mk (blk_below BK160.out hb); replace BK161 := Aside0.mk (blk_below BK161.out hb); replace HB := Aside0.mk (below_step HB.out hb); (try clear hb); (try clear hb2); (try clear hk); (try clear hi); refine hK.out _ _ ⟨HS0_, HS1_⟩ (fun hHeld => ?_); clear hK K; refine nm ?_; refine pu 10 49 13 2047 ?_; refine one_ (i := 11) (N := none) (bl 13 4095) rfl rfl (one_of HT_.out (by kernel_rfl)) (by decide) (fun K hK => ?_); have hs56 := (blk_cell BK161.out 0).trans rfl; have hfs56 := blk_frozen BK161.out 0; have hns56_0 := NB160_161.out; have hms56_0 := NB161_160.out; have hs57 := (blk_cell BK161.out 1).trans rfl; have hfs57 := blk_frozen BK161.out 1; have hns57_0 := NB160_161.out; have hms57_0 := NB161_160.out; refine skip_ (w1 := ?_) (by rfl) rfl ?_ ?_; rotate_left
       ·go_simp
        rfl
       refine hK.out _ _ ⟨((cell_far (p := ⟨gb161, _, none⟩) (fx (Kd.own_blk (Kd.R_ne HO_6.out BK161.out (by decide)))) _).trans (((cell_far (p := ⟨gb161, _, none⟩) (fx (Kd.own_blk (Kd.R_ne HO_6.out BK161.out (by decide)))) _).trans (hHeld.1)))), ((cell_far (p := ⟨gb161, _, none⟩) (fx (Kd.own_blk (Kd.R_ne HO_7.out BK161.out (by decide)))) _).trans (((cell_far (p := ⟨gb161, _, none⟩) (fx (Kd.own_blk (Kd.R_ne HO_7.out BK161.out (by decide)))) _).trans (hHeld.2))))⟩ (fun hHeld => ?_); clear hK K; refine pu 12 5 13 8191 ?_; refine done_ (done_of HT_.out (by kernel_rfl)) ?_; (try go_wp2); refine bodyPost_ret (results_ct rfl _ _ gb161 30 #[.int .i64 t182, .int .i64 t184] (0, 0) _ rfl (by refine uK ?_; refine blk_put (cs := #[.int .i64 t182, .int .i64 0]) ?_ 1 _ rfl; refine uK ?_; refine blk_put (cs := #[.int .i64 0, .int .i64 0]) ?_ 0 _ rfl; refine uK ?_; exact BK161.out) Tryz.underlying30 rfl (by kernel_rfl)) rfl ?_; exact ⟨uE, uB⟩
end Go.Proofs.YtdmdahafiiggiaaGreatDoor.K
end
