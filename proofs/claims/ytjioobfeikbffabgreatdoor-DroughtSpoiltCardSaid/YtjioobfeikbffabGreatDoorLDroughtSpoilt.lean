/- DroughtSpoilt: the walk of the law, and what it comes to. -/
import Derived.Lib.ConvBytes
import Derived.Laws.BytesArg
import Derived.Lib.Strings
import Derived.Test.YtjioobfeikbffabGreatDoorI6
set_option linter.unusedVariables false
set_option linter.unusedSimpArgs false
section
namespace Go.Proofs.YtjioobfeikbffabGreatDoor.K
open Go.RowKit Go.Proofs.Zw Go.Proofs.Zl Go.Proofs.Zm
def numsOf (s:ByteArray):List Int:=s.data.toList.map fun b=>(b.toNat:Int)
theorem numsOf_len (s:ByteArray):(numsOf s).length=s.size:=by rw[Lib.size_eq];simp only[numsOf,List.length_map]
structure ByteRow (W:World) (g:Nat) (xs:List Int):Prop where
  at_:∀j,j<xs.length→W.cell? ⟨g,j,none⟩=some (.int .u8 (xs.getD j 0))
  fz:∀j,j<xs.length→W.frozen? ⟨g,j,none⟩=false
theorem ByteRow.conv (W:World) (s:ByteArray):ByteRow (Lib.bytesWorld W 5 s) W.heap.size (numsOf s):=by
  constructor
  · intro j hj;rw[numsOf_len] at hj;rw[Lib.bytesWorld_cell W 5 s j hj];have hj2:j<s.data.toList.length:=by rw[← Lib.size_eq];exact hj
    simp[numsOf,List.getD,List.getElem?_eq_getElem hj2]
  · intro j hj;rw[numsOf_len] at hj;have hb:=Lib.bytesWorld_at_new W 5 s
    have hs:s.size≤(Lib.bytesCells W 5 s).size:=by
      unfold Lib.bytesCells;rw[Array.size_append,Array.size_map];exact Nat.le_add_right _ _
    unfold World.frozen?;rw[hb];simp only[Bool.and_eq_false_iff,decide_eq_false_iff_not];exact .inl (by omega)
theorem bytes_below (W:World) (s:ByteArray):Below W.heap.size W (Lib.bytesWorld W 5 s):=
  ⟨rfl,rfl,rfl,by rw[Lib.bytesWorld_size];omega,fun i hi=>Lib.bytesWorld_at_old W 5 s i hi⟩
theorem ByteRow.put {W:World} {g:Nat} {xs:List Int} (h:ByteRow W g xs) {j:Nat} (hj:j<xs.length) (x:Int):ByteRow (W.setCell ⟨g,j,none⟩ (.int .u8 x)) g (xs.set j x):=by
  constructor
  · intro i hi;rw[List.length_set] at hi
    by_cases e:j=i
    · subst e;rw[World.cell?_setCell_same _ _ _ (h.at_ j hj)];simp[List.getD,hj]
    · rw[World.cell?_setCell_other _ _ _ _ (by intro h';injection h' with _ h2;exact e h2),h.at_ i hi];simp[List.getD,List.getElem?_set,e]
  · intro i hi;rw[List.length_set] at hi;rw[World.frozen?_setCell];exact h.fz i hi
theorem ByteRow.str {W:World} {g:Nat} {xs:List Int} (h:ByteRow W g xs) {n c:Nat} (hn:xs.length=n):(convert 73 9 (.slice (some ⟨g,0,none⟩) n c)).run Tryz.prog W=.ok (.string (strOfNums xs)) W:=
  run_convert_bytes_arg W 73 5 Tryz.underlying73 Tryz.underlying5 g 0 n c xs hn (fun i hi=>by rw[Nat.zero_add];exact h.at_ i (by omega)) 9 Tryz.underlying9
section
variable {ops:Array Oper} {rest:List Oper} {o:Oper} {a:Act} {Q:Exit→Act→World→Prop} {W:World}
theorem conv_run (s:ByteArray) (W:World):(convert 9 73 (.string s)).run Tryz.prog W=.ok (.slice (some ⟨W.heap.size,0,none⟩) s.size (grownCap W s.size 0 5)) (Lib.bytesWorld W 5 s):=
  Lib.run_convert_string_bytes W 9 73 5 s Tryz.underlying9 Tryz.underlying73 Tryz.underlying5
noncomputable def convM (s:ByteArray) (W:World):Result Value:=(convert 9 73 (.string s)).run Tryz.prog W
theorem conv_mark (s:ByteArray) (W:World):(convert 9 73 (.string s)).run Tryz.prog W=convM s W:=rfl
theorem conv_ex {s:ByteArray} {W:World} {X:Result Value} (h:convM s W=X):∃g c w1,X=.ok (.slice (some ⟨g,0,none⟩) s.size c) w1∧g=W.heap.size∧ByteRow w1 g (numsOf s)∧Below W.heap.size W w1:=by
  unfold convM at h;rw[conv_run] at h;exact⟨_,_,_,h.symm,rfl,ByteRow.conv W s,bytes_below W s⟩
end
end Go.Proofs.YtjioobfeikbffabGreatDoor.K
end
section
namespace Go.Proofs.YtjioobfeikbffabGreatDoor.K
open Go.RowKit Go.Proofs.Zw Go.Proofs.Zl Go.Proofs.Zm
attribute [local go_sem] max2_int min2_int max_two min_two max_three min_three max_four min_four
mutual
def q7_DroughtSpoilt.j0:Nat→Int→Int→Bool→Int→List (S77)→List (S51)→Option (Bool)
 |0,_,_,_,_,_,_=>none
 |k+1,x1,x2,x27,x1053000,x1053001,x1053002=>if x27=true then((q7_known.f k).bind fun t1055=>(some t1055)) else((d7_Print.f x1053000 x1053001 x1053002).bind fun bt1056=>(if bt1056.2=0 then(if x1<0 then(q7_DroughtSpoilt.j1 k x1 x2 bt1056.1 true) else(if x1≥(bt1056.1.size:Int) then(q7_DroughtSpoilt.j1 k x1 x2 bt1056.1 true) else(if 0≤x1 then(if x1<(bt1056.1.size:Int) then(if (bt bt1056.1 x1)<48 then(q7_DroughtSpoilt.j1 k x1 x2 bt1056.1 true) else(if (bt bt1056.1 x1)>57 then(q7_DroughtSpoilt.j1 k x1 x2 bt1056.1 true) else(q7_DroughtSpoilt.j1 k x1 x2 bt1056.1 ((((bt bt1056.1 x1)-48) % 256)==x2)))) else(none)) else(none)))) else(some false)))
def q7_DroughtSpoilt.j1:Nat→Int→Int→ByteArray→Bool→Option (Bool)
 |0,_,_,_,_=>none
 |k+1,x1,x2,x7,x64=>if x64=true then((q7_known.f k).bind fun t1058=>(some t1058)) else(if 0≤(x7.size:Int) then(if ((x7.size:Int):Int).toNat≤281474976710656 then((some (numsOf x7:List Int)).bind fun y1059=>(if 0≤x1 then(if x1<(y1059.length:Int) then((d7_Read.f (strOfNums (y1059.set (x1:Int).toNat ((wrap64 (48+x2)) % 256)))).bind fun bt1063=>(if bt1063.2.2.2=4 then((r7_SameTrees.f k bt1063.1 bt1063.2.1 bt1063.2.2.1 0 ([]:List (S77)) ([]:List (S51))).bind fun t1072=>(if t1072=true then((q7_known.f k).bind fun t1073=>(some t1073)) else(none))) else(none))) else(none)) else(none))) else(none)) else(none))
end
def q7_DroughtSpoilt.f (k:Nat) (a0_0:Int) (l0_1:List (S77)) (l0_2:List (S51)) (a1:Int) (a2:Int):Option (Bool):=(q7_short.f a0_0 l0_1 l0_2).bind fun t1053=>(if t1053=true then((r7_Tree.f k a0_0 l0_1 l0_2).bind fun t1054=>(if t1054=true then(if a2<0 then(q7_DroughtSpoilt.j0 k a1 a2 true a0_0 l0_1 l0_2) else(q7_DroughtSpoilt.j0 k a1 a2 (decide (a2>9)) a0_0 l0_1 l0_2)) else(q7_DroughtSpoilt.j0 k a1 a2 true a0_0 l0_1 l0_2))) else(q7_DroughtSpoilt.j0 k a1 a2 true a0_0 l0_1 l0_2))
set_option maxHeartbeats 8000000 in
set_option maxRecDepth 100000 in
theorem q7_DroughtSpoilt.calls (k:Nat) (a0_0:Int) (A0_1:Option Addr) (c0_1:Nat) (l0_1:List (S77)) (A0_2:Option Addr) (c0_2:Nat) (l0_2:List (S51)) (a1:Int) (a2:Int) (r:Bool) (w:World) (hr0_1:Kd.C k77 w A0_1 l0_1.length l0_1) (hc0_1:l0_1.length≤c0_1) (hr0_2:Kd.C k51 w A0_2 l0_2.length l0_2) (hc0_2:l0_2.length≤c0_2) (hT:TabW w) (h:q7_DroughtSpoilt.f k a0_0 l0_1 l0_2 a1 a2=some r):
  Calls Tryz.prog 11 #[.agg #[.int .i64 a0_0,.slice A0_1 l0_1.length c0_1,.slice A0_2 l0_2.length c0_2],.int .i64 a1,.int .i64 a2] w fun e w'=>e=.returned (.bool r)∧Below w.heap.size w w':=by
 have HT:=aM hT;clear hT;have hu25:=Tryz.underlying25;have HR0_1:=aM hr0_1;have HC0_1:=aM hc0_1;clear hr0_1 hc0_1;have HR0_2:=aM hr0_2;have HC0_2:=aM hc0_2;clear hr0_2 hc0_2;have HB:=aM (Below.refl w.heap.size w);have H:((q7_short.f a0_0 l0_1 l0_2).bind fun t1053=>(if t1053=true then((r7_Tree.f k a0_0 l0_1 l0_2).bind fun t1054=>(if t1054=true then(if a2<0 then(q7_DroughtSpoilt.j0 k a1 a2 true a0_0 l0_1 l0_2) else(q7_DroughtSpoilt.j0 k a1 a2 (decide (a2>9)) a0_0 l0_1 l0_2)) else(q7_DroughtSpoilt.j0 k a1 a2 true a0_0 l0_1 l0_2))) else(q7_DroughtSpoilt.j0 k a1 a2 true a0_0 l0_1 l0_2)))=some r:=h;clear h;have HC4:=aM H;clear H
 go_enter Tryz.func11,Tryz.ntmps11
 go_upto_region 1 with(first|((with_reducible refine gate_dst (N:=3) rfl ?_);(try (refine gate_guard (by rfl) ?_;dsimp only));refine bxe 3 #[.int .i64 a0_0,.slice A0_1 l0_1.length c0_1,.slice A0_2 l0_2.length c0_2] 25 ?_;intro gb1052 hg w5 hbox hb;have n0_:=aM (below_step uB hb);have n1_:=aM (hbox);have n2_:=gw hg;have n3_:=gw hg;clear HB;have HB:=n0_;have BK1052:=n1_;have GW1052:=n2_;have GE1052:=n3_;clear n0_ n1_ n2_ n3_;clear hb hbox hg))
 (try simp only[Act.put,List.setIfInBounds_toArray,List.set_cons_zero,List.set_cons_succ])
 go_cut [27] (fun v27 wc=>∃(kq:Nat) (x27_3:Bool),v27=.bool x27_3∧Aside0 (q7_DroughtSpoilt.j0 kq a1 a2 x27_3 a0_0 l0_1 l0_2=some r)∧Aside0 (kq≤k)∧Aside0 (wc.heap[gb1052]? =some (.cells #[.int .i64 a0_0,(.slice A0_1 l0_1.length c0_1),(.slice A0_2 l0_2.length c0_2)] 25 (0,0)))∧Aside0 (Below w.heap.size w wc))
 case first=>
  have H:=HC4.out;clear HC4;replace H:=Option.bind_eq_some_iff.mp H;obtain⟨t1053,A60,H⟩:=H;replace H:(if t1053=true then((r7_Tree.f k a0_0 l0_1 l0_2).bind fun t1054=>(if t1054=true then(if a2<0 then(q7_DroughtSpoilt.j0 k a1 a2 true a0_0 l0_1 l0_2) else(q7_DroughtSpoilt.j0 k a1 a2 (decide (a2>9)) a0_0 l0_1 l0_2)) else(q7_DroughtSpoilt.j0 k a1 a2 true a0_0 l0_1 l0_2))) else(q7_DroughtSpoilt.j0 k a1 a2 true a0_0 l0_1 l0_2))=some r:=H;have A6:=aM A60;clear A60
  by_cases c7:t1053=true
  ·subst c7;have H1:((r7_Tree.f k a0_0 l0_1 l0_2).bind fun t1054=>(if t1054=true then(if a2<0 then(q7_DroughtSpoilt.j0 k a1 a2 true a0_0 l0_1 l0_2) else(q7_DroughtSpoilt.j0 k a1 a2 (decide (a2>9)) a0_0 l0_1 l0_2)) else(q7_DroughtSpoilt.j0 k a1 a2 true a0_0 l0_1 l0_2)))=some r:=by rw[if_pos rfl] at H;exact H
   clear H;have H:=H1;clear H1;replace H:=Option.bind_eq_some_iff.mp H;obtain⟨t1054,A80,H⟩:=H;replace H:(if t1054=true then(if a2<0 then(q7_DroughtSpoilt.j0 k a1 a2 true a0_0 l0_1 l0_2) else(q7_DroughtSpoilt.j0 k a1 a2 (decide (a2>9)) a0_0 l0_1 l0_2)) else(q7_DroughtSpoilt.j0 k a1 a2 true a0_0 l0_1 l0_2))=some r:=H;have A8:=aM A80;clear A80
   by_cases c9:t1054=true
   ·subst c9;have H1:(if a2<0 then(q7_DroughtSpoilt.j0 k a1 a2 true a0_0 l0_1 l0_2) else(q7_DroughtSpoilt.j0 k a1 a2 (decide (a2>9)) a0_0 l0_1 l0_2))=some r:=by rw[if_pos rfl] at H;exact H
    clear H;have H:=H1;clear H1
    by_cases c10:a2<0
    ·rw[if_pos c10] at H;replace c10:=decide_eq_true c10;(first|rw[c10b0]|(simp only[i64_w,i32_w];rw[c10b0])|skip);have H':=aM H;clear H;obtain⟨hcz11_0,hcz11_1,hcz11_2⟩:=cz3 BK1052.out;obtain⟨hfz11_0,hfz11_1,hfz11_2⟩:=fz3 BK1052.out
     go_wp2_with (first|((with_reducible refine gate_callee (f:=13) rfl ?_);refine goesL_ (some 13) rfl rfl Tryz.func13 (by kernel_rfl) rfl #[.agg #[.int .i64 a0_0,.slice A0_1 l0_1.length c0_1,.slice A0_2 l0_2.length c0_2]] rfl uM ?_;(with_reducible refine(q7_short.calls a0_0 _ _ l0_1 _ _ l0_2 true _ ?side1 ?side2 ?side3 ?side4 A6.out).mono ?_);(case side1=>exact uY HR0_1 HB);(case side2=>exact HC0_1.out);(case side3=>exact uY HR0_2 HB);(case side4=>exact HC0_2.out);rintro e w12 ⟨rfl,hb⟩;refine⟨_,rfl,?_⟩;replace BK1052:=aM (blk_below (uK BK1052.out) hb);replace HB:=aM (below_step uB hb);(try clear hb);obtain⟨hcz13_0,hcz13_1,hcz13_2⟩:=cz3 BK1052.out;obtain⟨hfz13_0,hfz13_1,hfz13_2⟩:=fz3 BK1052.out)|(go_at_call 14;(with_reducible refine(r7_Tree.calls k a0_0 _ _ l0_1 _ _ l0_2 true _ ?side1 ?side2 ?side3 ?side4 A8.out).mono ?_);(case side1=>exact uY HR0_1 HB);(case side2=>exact HC0_1.out);(case side3=>exact uY HR0_2 HB);(case side4=>exact HC0_2.out);rintro e w14 ⟨rfl,hb⟩;replace BK1052:=aM (blk_below (uK BK1052.out) hb);replace HB:=aM (below_step uB hb);(try clear hb)))
     go_meet
     case rel=>exact⟨_,(true),u0,H',⟨u1⟩,⟨uK BK1052.out⟩,⟨uB⟩⟩
    ·rw[if_neg c10] at H;replace c10:=decide_eq_false c10;(first|rw[c10b0]|(simp only[i64_w,i32_w];rw[c10b0])|skip);have H':=aM H;clear H;obtain⟨hcz15_0,hcz15_1,hcz15_2⟩:=cz3 BK1052.out;obtain⟨hfz15_0,hfz15_1,hfz15_2⟩:=fz3 BK1052.out
     go_wp2_with (first|((with_reducible refine gate_callee (f:=13) rfl ?_);refine goesL_ (some 13) rfl rfl Tryz.func13 (by kernel_rfl) rfl #[.agg #[.int .i64 a0_0,.slice A0_1 l0_1.length c0_1,.slice A0_2 l0_2.length c0_2]] rfl uM ?_;(with_reducible refine(q7_short.calls a0_0 _ _ l0_1 _ _ l0_2 true _ ?side1 ?side2 ?side3 ?side4 A6.out).mono ?_);(case side1=>exact uY HR0_1 HB);(case side2=>exact HC0_1.out);(case side3=>exact uY HR0_2 HB);(case side4=>exact HC0_2.out);rintro e w16 ⟨rfl,hb⟩;refine⟨_,rfl,?_⟩;replace BK1052:=aM (blk_below (uK BK1052.out) hb);replace HB:=aM (below_step uB hb);(try clear hb);obtain⟨hcz17_0,hcz17_1,hcz17_2⟩:=cz3 BK1052.out;obtain⟨hfz17_0,hfz17_1,hfz17_2⟩:=fz3 BK1052.out)|(go_at_call 14;(with_reducible refine(r7_Tree.calls k a0_0 _ _ l0_1 _ _ l0_2 true _ ?side1 ?side2 ?side3 ?side4 A8.out).mono ?_);(case side1=>exact uY HR0_1 HB);(case side2=>exact HC0_1.out);(case side3=>exact uY HR0_2 HB);(case side4=>exact HC0_2.out);rintro e w18 ⟨rfl,hb⟩;replace BK1052:=aM (blk_below (uK BK1052.out) hb);replace HB:=aM (below_step uB hb);(try clear hb)))
     go_meet
     case rel=>exact⟨_,(decide (a2>9)),u0,H',⟨u1⟩,⟨uK BK1052.out⟩,⟨uB⟩⟩
   ·replace c9:=Bool.eq_false_iff.mpr c9;subst c9;have H1:(q7_DroughtSpoilt.j0 k a1 a2 true a0_0 l0_1 l0_2)=some r:=by rw[if_neg (show ¬(false=true) by decide)] at H;exact H
    clear H;have H:=H1;clear H1;have H':=aM H;clear H;obtain⟨hcz19_0,hcz19_1,hcz19_2⟩:=cz3 BK1052.out;obtain⟨hfz19_0,hfz19_1,hfz19_2⟩:=fz3 BK1052.out
    go_wp2_with (first|((with_reducible refine gate_callee (f:=13) rfl ?_);refine goesL_ (some 13) rfl rfl Tryz.func13 (by kernel_rfl) rfl #[.agg #[.int .i64 a0_0,.slice A0_1 l0_1.length c0_1,.slice A0_2 l0_2.length c0_2]] rfl uM ?_;(with_reducible refine(q7_short.calls a0_0 _ _ l0_1 _ _ l0_2 true _ ?side1 ?side2 ?side3 ?side4 A6.out).mono ?_);(case side1=>exact uY HR0_1 HB);(case side2=>exact HC0_1.out);(case side3=>exact uY HR0_2 HB);(case side4=>exact HC0_2.out);rintro e w20 ⟨rfl,hb⟩;refine⟨_,rfl,?_⟩;replace BK1052:=aM (blk_below (uK BK1052.out) hb);replace HB:=aM (below_step uB hb);(try clear hb);obtain⟨hcz21_0,hcz21_1,hcz21_2⟩:=cz3 BK1052.out;obtain⟨hfz21_0,hfz21_1,hfz21_2⟩:=fz3 BK1052.out)|(go_at_call 14;(with_reducible refine(r7_Tree.calls k a0_0 _ _ l0_1 _ _ l0_2 false _ ?side1 ?side2 ?side3 ?side4 A8.out).mono ?_);(case side1=>exact uY HR0_1 HB);(case side2=>exact HC0_1.out);(case side3=>exact uY HR0_2 HB);(case side4=>exact HC0_2.out);rintro e w22 ⟨rfl,hb⟩;replace BK1052:=aM (blk_below (uK BK1052.out) hb);replace HB:=aM (below_step uB hb);(try clear hb)))
    go_meet
    case rel=>exact⟨_,(true),u0,H',⟨u1⟩,⟨uK BK1052.out⟩,⟨uB⟩⟩
  ·replace c7:=Bool.eq_false_iff.mpr c7;subst c7;have H1:(q7_DroughtSpoilt.j0 k a1 a2 true a0_0 l0_1 l0_2)=some r:=by rw[if_neg (show ¬(false=true) by decide)] at H;exact H
   clear H;have H:=H1;clear H1;have H':=aM H;clear H;obtain⟨hcz23_0,hcz23_1,hcz23_2⟩:=cz3 BK1052.out;obtain⟨hfz23_0,hfz23_1,hfz23_2⟩:=fz3 BK1052.out
   go_wp2_with (first|((with_reducible refine gate_callee (f:=13) rfl ?_);refine goesL_ (some 13) rfl rfl Tryz.func13 (by kernel_rfl) rfl #[.agg #[.int .i64 a0_0,.slice A0_1 l0_1.length c0_1,.slice A0_2 l0_2.length c0_2]] rfl uM ?_;(with_reducible refine(q7_short.calls a0_0 _ _ l0_1 _ _ l0_2 false _ ?side1 ?side2 ?side3 ?side4 A6.out).mono ?_);(case side1=>exact uY HR0_1 HB);(case side2=>exact HC0_1.out);(case side3=>exact uY HR0_2 HB);(case side4=>exact HC0_2.out);rintro e w24 ⟨rfl,hb⟩;refine⟨_,rfl,?_⟩;replace BK1052:=aM (blk_below (uK BK1052.out) hb);replace HB:=aM (below_step uB hb);(try clear hb)))
   go_meet
   case rel=>exact⟨_,(true),u0,H',⟨u1⟩,⟨uK BK1052.out⟩,⟨uB⟩⟩
 case rest=>
  clear HC4;try clear c1;try clear p2;try clear c7;try clear c9;try clear c10;try clear c10b0;try clear c11;try clear c13;try clear hcz11_0;try clear hcz11_1;try clear hcz11_2;try clear hcz13_0;try clear hcz13_1;try clear hcz13_2;try clear hcz15_0;try clear hcz15_1;try clear hcz15_2;try clear hcz17_0;try clear hcz17_1;try clear hcz17_2;try clear hcz19_0;try clear hcz19_1;try clear hcz19_2;try clear hcz21_0;try clear hcz21_1;try clear hcz21_2;try clear hcz23_0;try clear hcz23_1;try clear hcz23_2;try clear hfz11_0;try clear hfz11_1;try clear hfz11_2;try clear hfz13_0;try clear hfz13_1;try clear hfz13_2;try clear hfz15_0;try clear hfz15_1;try clear hfz15_2;try clear hfz17_0;try clear hfz17_1;try clear hfz17_2;try clear hfz19_0;try clear hfz19_1;try clear hfz19_2;try clear hfz21_0;try clear hfz21_1;try clear hfz21_2;try clear hfz23_0;try clear hfz23_1;try clear hfz23_2
  obtain⟨kq,x27_3,rfl,HA,HJ3,BK1052,HB⟩:=hcut
  cases kq with
  |zero=>exact absurd HA.out (by simp[q7_DroughtSpoilt.j0])
  |succ kj3=>
   have H:=HA.out;clear HA;simp only[q7_DroughtSpoilt.j0] at H
   by_cases c25:x27_3=true
   ·subst c25;have H1:((q7_known.f kj3).bind fun t1055=>(some t1055))=some r:=by rw[if_pos rfl] at H;exact H
    clear H;have H:=H1;clear H1;replace H:=Option.bind_eq_some_iff.mp H;obtain⟨t1055,A260,H⟩:=H;replace H:(some t1055)=some r:=H;have A26:=aM A260;clear A260;obtain rfl:=Option.some.inj H
    go_wp2_with (first|((with_reducible refine gate_callee (f:=18) rfl ?_);refine goesL_ (some 28) rfl rfl Tryz.func18 (by kernel_rfl) rfl #[] rfl uM ?_;(with_reducible refine(q7_known.calls kj3 t1055 _ ?sideT A26.out).mono ?_);(case sideT=>exact HT.out.below uB);rintro e w27 ⟨rfl,hb⟩;refine⟨_,rfl,?_⟩;replace BK1052:=aM (blk_below (uK BK1052.out) hb);replace HB:=aM (below_step uB hb);(try clear hb)))
    go_ret;exact⟨uE,uB⟩
   ·replace c25:=Bool.eq_false_iff.mpr c25;subst c25;have H1:((d7_Print.f a0_0 l0_1 l0_2).bind fun bt1056=>(if bt1056.2=0 then(if a1<0 then(q7_DroughtSpoilt.j1 kj3 a1 a2 bt1056.1 true) else(if a1≥(bt1056.1.size:Int) then(q7_DroughtSpoilt.j1 kj3 a1 a2 bt1056.1 true) else(if 0≤a1 then(if a1<(bt1056.1.size:Int) then(if (bt bt1056.1 a1)<48 then(q7_DroughtSpoilt.j1 kj3 a1 a2 bt1056.1 true) else(if (bt bt1056.1 a1)>57 then(q7_DroughtSpoilt.j1 kj3 a1 a2 bt1056.1 true) else(q7_DroughtSpoilt.j1 kj3 a1 a2 bt1056.1 ((((bt bt1056.1 a1)-48) % 256)==a2)))) else(none)) else(none)))) else(some false)))=some r:=by rw[if_neg (show ¬(false=true) by decide)] at H;exact H
    clear H;have H:=H1;clear H1;replace H:=Option.bind_eq_some_iff.mp H;obtain⟨⟨t1056,t1057⟩,A280,H⟩:=H;replace H:(if t1057=0 then(if a1<0 then(q7_DroughtSpoilt.j1 kj3 a1 a2 t1056 true) else(if a1≥(t1056.size:Int) then(q7_DroughtSpoilt.j1 kj3 a1 a2 t1056 true) else(if 0≤a1 then(if a1<(t1056.size:Int) then(if (bt t1056 a1)<48 then(q7_DroughtSpoilt.j1 kj3 a1 a2 t1056 true) else(if (bt t1056 a1)>57 then(q7_DroughtSpoilt.j1 kj3 a1 a2 t1056 true) else(q7_DroughtSpoilt.j1 kj3 a1 a2 t1056 ((((bt t1056 a1)-48) % 256)==a2)))) else(none)) else(none)))) else(some false))=some r:=H;have A28:=aM A280;clear A280
    by_cases c29:t1057=0
    ·rw[if_pos c29] at H;have c29b0:(t1057==0)=true:=beq_iff_eq.mpr c29;have c29b1:(t1057 !=0)=false:=bne_eq_false_iff_eq.mpr c29;clear c29;have HC30:=aM H;clear H;obtain⟨hcz31_0,hcz31_1,hcz31_2⟩:=cz3 BK1052.out;obtain⟨hfz31_0,hfz31_1,hfz31_2⟩:=fz3 BK1052.out
     go_upto_region 6 with(first|((with_reducible refine gate_callee (f:=39) rfl ?_);refine goesL_ (some 31) rfl rfl Tryz.func39 (by kernel_rfl) rfl #[.agg #[.int .i64 a0_0,.slice A0_1 l0_1.length c0_1,.slice A0_2 l0_2.length c0_2]] rfl uM ?_;(with_reducible refine(d7_Print.calls a0_0 _ _ l0_1 _ _ l0_2 t1056 t1057 _ ?side1 ?side2 ?side3 ?side4 ?sideT A28.out).mono ?_);(case sideT=>exact HT.out.below uB);(case side1=>exact uY HR0_1 HB);(case side2=>exact HC0_1.out);(case side3=>exact uY HR0_2 HB);(case side4=>exact HC0_2.out);rintro e w32 ⟨rfl,hb⟩;refine⟨_,rfl,?_⟩;replace BK1052:=aM (blk_below (uK BK1052.out) hb);replace HB:=aM (below_step uB hb);(try clear hb)))
     (try simp only[Act.put,List.setIfInBounds_toArray,List.set_cons_zero,List.set_cons_succ])
     go_cut [64] (fun v64 wc=>∃(kq:Nat) (x64_29:Bool),v64=.bool x64_29∧Aside0 (q7_DroughtSpoilt.j1 kq a1 a2 t1056 x64_29=some r)∧Aside0 (kq≤kj3)∧Aside0 (wc.heap[gb1052]? =some (.cells #[.int .i64 a0_0,(.slice A0_1 l0_1.length c0_1),(.slice A0_2 l0_2.length c0_2)] 25 (0,0)))∧Aside0 (Below w.heap.size w wc))
     case first=>
      have H:=HC30.out;clear HC30
      by_cases c33:a1<0
      ·rw[if_pos c33] at H;replace c33:=decide_eq_true c33;(first|rw[c33b0]|(simp only[i64_w,i32_w];rw[c33b0])|skip);have H':=aM H;clear H;go_wp2
       go_meet
       case rel=>exact⟨_,(true),u0,H',⟨by have:=HJ3.out;first|omega|exact Nat.le_refl _⟩,⟨uK BK1052.out⟩,⟨uB⟩⟩
      ·rw[if_neg c33] at H;replace c33:=decide_eq_false c33;(first|rw[c33b0]|(simp only[i64_w,i32_w];rw[c33b0])|skip)
       by_cases c34:a1≥(t1056.size:Int)
       ·rw[if_pos c34] at H;replace c34:=decide_eq_true c34;have H':=aM H;clear H;go_wp2
        go_meet
        case rel=>exact⟨_,(true),u0,H',⟨by have:=HJ3.out;first|omega|exact Nat.le_refl _⟩,⟨uK BK1052.out⟩,⟨uB⟩⟩
       ·rw[if_neg c34] at H;replace c34:=decide_eq_false c34;obtain⟨c35,H⟩:=ifs H;replace c35:=decide_eq_true c35;obtain⟨c36,H⟩:=ifs H;replace c36:=decide_eq_true c36
        by_cases c38:(bt t1056 a1)<48
        ·rw[if_pos c38] at H;replace c38:=decide_eq_true c38;have H':=aM H;clear H;have p37:0≤(a1:Int):=uD;have q37:a1<(t1056.size:Int):=uD;have hx37:=bt_at t1056 a1;replace p37:=eq_true p37;replace q37:=eq_true q37;go_wp2
         go_meet
         case rel=>exact⟨_,(true),u0,H',⟨by have:=HJ3.out;first|omega|exact Nat.le_refl _⟩,⟨uK BK1052.out⟩,⟨uB⟩⟩
        ·rw[if_neg c38] at H;replace c38:=decide_eq_false c38
         by_cases c40:(bt t1056 a1)>57
         ·rw[if_pos c40] at H;replace c40:=decide_eq_true c40;have H':=aM H;clear H;have p37:0≤(a1:Int):=uD;have q37:a1<(t1056.size:Int):=uD;have hx37:=bt_at t1056 a1;replace p37:=eq_true p37;replace q37:=eq_true q37;have p39:0≤(a1:Int):=uD;have q39:a1<(t1056.size:Int):=uD;have hx39:=bt_at t1056 a1;replace p39:=eq_true p39;replace q39:=eq_true q39;go_wp2
          go_meet
          case rel=>exact⟨_,(true),u0,H',⟨by have:=HJ3.out;first|omega|exact Nat.le_refl _⟩,⟨uK BK1052.out⟩,⟨uB⟩⟩
         ·rw[if_neg c40] at H;replace c40:=decide_eq_false c40;have H':=aM H;clear H;have p37:0≤(a1:Int):=uD;have q37:a1<(t1056.size:Int):=uD;have hx37:=bt_at t1056 a1;replace p37:=eq_true p37;replace q37:=eq_true q37;have p39:0≤(a1:Int):=uD;have q39:a1<(t1056.size:Int):=uD;have hx39:=bt_at t1056 a1;replace p39:=eq_true p39;replace q39:=eq_true q39;have p41:0≤(a1:Int):=uD;have q41:a1<(t1056.size:Int):=uD;have hx41:=bt_at t1056 a1;replace p41:=eq_true p41;replace q41:=eq_true q41;go_wp2
          go_meet
          case rel=>exact⟨_,(((((bt t1056 a1)-48) % 256)==a2)),u0,H',⟨by have:=HJ3.out;first|omega|exact Nat.le_refl _⟩,⟨uK BK1052.out⟩,⟨uB⟩⟩
     case rest=>
      clear HC30;try clear c1;try clear c2;try clear p2;try clear c3;try clear p3;try clear q3;try clear hx3;try clear c4;try clear p4;try clear q4;try clear hx4;try clear c7;try clear c9;try clear c10;try clear c10b0;try clear c11;try clear c13;try clear c18;try clear c25;try clear c29;try clear c29b0;try clear c29b1;try clear c33;try clear c33b0;try clear c34;try clear c34b0;try clear c35;try clear c35b0;try clear c36;try clear c36b0;try clear p37;try clear q37;try clear hx37;try clear c38;try clear c38b0;try clear c39;try clear p39;try clear q39;try clear hx39;try clear c40;try clear c40b0;try clear p41;try clear q41;try clear hx41;try clear hcz11_0;try clear hcz11_1;try clear hcz11_2;try clear hcz13_0;try clear hcz13_1;try clear hcz13_2;try clear hcz15_0;try clear hcz15_1;try clear hcz15_2;try clear hcz17_0;try clear hcz17_1;try clear hcz17_2;try clear hcz19_0;try clear hcz19_1;try clear hcz19_2;try clear hcz21_0;try clear hcz21_1;try clear hcz21_2;try clear hcz23_0;try clear hcz23_1;try clear hcz23_2;try clear hcz31_0;try clear hcz31_1;try clear hcz31_2;try clear hfz11_0;try clear hfz11_1;try clear hfz11_2;try clear hfz13_0;try clear hfz13_1;try clear hfz13_2;try clear hfz15_0;try clear hfz15_1;try clear hfz15_2;try clear hfz17_0;try clear hfz17_1;try clear hfz17_2;try clear hfz19_0;try clear hfz19_1;try clear hfz19_2;try clear hfz21_0;try clear hfz21_1;try clear hfz21_2;try clear hfz23_0;try clear hfz23_1;try clear hfz23_2;try clear hfz31_0;try clear hfz31_1;try clear hfz31_2;try clear p2;try clear p37;try clear p39;try clear p41;try clear q37;try clear q39;try clear q41
      obtain⟨kq,x64_29,rfl,HA,HJ29,BK1052,HB⟩:=hcut
      cases kq with
      |zero=>exact absurd HA.out (by simp[q7_DroughtSpoilt.j1])
      |succ kj29=>
       have H:=HA.out;clear HA;simp only[q7_DroughtSpoilt.j1] at H
       by_cases c42:x64_29=true
       ·subst c42;have H1:((q7_known.f kj29).bind fun t1058=>(some t1058))=some r:=by rw[if_pos rfl] at H;exact H
        clear H;have H:=H1;clear H1;replace H:=Option.bind_eq_some_iff.mp H;obtain⟨t1058,A430,H⟩:=H;replace H:(some t1058)=some r:=H;have A43:=aM A430;clear A430;obtain rfl:=Option.some.inj H
        go_wp2_with (first|((with_reducible refine gate_callee (f:=18) rfl ?_);refine goesL_ (some 65) rfl rfl Tryz.func18 (by kernel_rfl) rfl #[] rfl uM ?_;(with_reducible refine(q7_known.calls kj29 t1058 _ ?sideT A43.out).mono ?_);(case sideT=>exact HT.out.below uB);rintro e w44 ⟨rfl,hb⟩;refine⟨_,rfl,?_⟩;replace BK1052:=aM (blk_below (uK BK1052.out) hb);replace HB:=aM (below_step uB hb);(try clear hb)))
        go_ret;exact⟨uE,uB⟩
       ·replace c42:=Bool.eq_false_iff.mpr c42;subst c42;have H1:(if 0≤(t1056.size:Int) then(if ((t1056.size:Int):Int).toNat≤281474976710656 then((some (numsOf t1056:List Int)).bind fun y1059=>(if 0≤a1 then(if a1<(y1059.length:Int) then((d7_Read.f (strOfNums (y1059.set (a1:Int).toNat ((wrap64 (48+a2)) % 256)))).bind fun bt1063=>(if bt1063.2.2.2=4 then((r7_SameTrees.f kj29 bt1063.1 bt1063.2.1 bt1063.2.2.1 0 ([]:List (S77)) ([]:List (S51))).bind fun t1072=>(if t1072=true then((q7_known.f kj29).bind fun t1073=>(some t1073)) else(none))) else(none))) else(none)) else(none))) else(none)) else(none))=some r:=by rw[if_neg (show ¬(false=true) by decide)] at H;exact H
        clear H;have H:=H1;clear H1;obtain⟨c45,H⟩:=ifs H;have c45b0:=eq_true c45;have c45b1:decide (0≤(t1056.size:Int))=true:=decide_eq_true c45;clear c45;obtain⟨c46,H⟩:=ifs H;have c46b0:=eq_true c46;have c46b1:decide (((t1056.size:Int):Int).toNat≤281474976710656)=true:=decide_eq_true c46;clear c46;obtain⟨y1059,hy1059⟩:∃y_:List Int,y_=(numsOf t1056):=⟨_,rfl⟩;rw[← hy1059] at H;(try replace H:=(Option.bind_some _ _).symm.trans H)
        have Ny1059:=aM hy1059;clear hy1059;obtain⟨c47,H⟩:=ifs H;replace c47:=decide_eq_true c47;obtain⟨c48,H⟩:=ifs H;replace c48:=decide_eq_true c48;obtain⟨y1062,hy1062⟩:∃y_:List Int,y_=(y1059.set (a1:Int).toNat ((wrap64 (48+a2)) % 256)):=⟨_,rfl⟩;rw[← hy1062] at H;(try replace H:=(Option.bind_some _ _).symm.trans H)
        have Ny1062:=aM hy1062;clear hy1062;replace H:=Option.bind_eq_some_iff.mp H;obtain⟨⟨t1063,t1064,t1067,t1070⟩,A500,H⟩:=H;replace H:(if t1070=4 then((r7_SameTrees.f kj29 t1063 t1064 t1067 0 ([]:List (S77)) ([]:List (S51))).bind fun t1072=>(if t1072=true then((q7_known.f kj29).bind fun t1073=>(some t1073)) else(none))) else(none))=some r:=H;have A50:=aM A500;clear A500
        by_cases c51:t1070=4
        ·rw[if_pos c51] at H;have c51b0:(t1070==4)=true:=beq_iff_eq.mpr c51;have c51b1:(t1070 !=4)=false:=bne_eq_false_iff_eq.mpr c51;clear c51;replace H:=Option.bind_eq_some_iff.mp H;obtain⟨t1072,A520,H⟩:=H;replace H:(if t1072=true then((q7_known.f kj29).bind fun t1073=>(some t1073)) else(none))=some r:=H;have A52:=aM A520;clear A520
         by_cases c53:t1072=true
         ·subst c53;have H1:((q7_known.f kj29).bind fun t1073=>(some t1073))=some r:=by rw[if_pos rfl] at H;exact H
          clear H;have H:=H1;clear H1;replace H:=Option.bind_eq_some_iff.mp H;obtain⟨t1073,A540,H⟩:=H;replace H:(some t1073)=some r:=H;have A54:=aM A540;clear A540;obtain rfl:=Option.some.inj H;have CQ:=aM c48;have CP:=aM c47;have p49:=eq_true (of_decide_eq_true c47);have q49:(a1<(t1056.size:Int))=True:=eq_true (by have c_:=of_decide_eq_true c48;rw[Ny1059.out,numsOf_len] at c_;exact c_)
          go_wp2_with (first|(rw [conv_mark t1056];generalize hX:convM _ _=X;obtain⟨gR,cR,wR,rfl,hgR,hbr,hb⟩:=conv_ex hX;clear hX;have NBR:Aside0 (gb1052≠gR):=⟨by rw[hgR];exact Nat.ne_of_lt (blk_lt (uK BK1052.out))⟩;have GER:Aside0 (w.heap.size≤gR):=⟨by rw[hgR];exact(show Below w.heap.size w _ from uB).size⟩;replace BK1052:=aM (blk_below (uK BK1052.out) hb);replace HB:=aM (below_step uB hb);clear hb;have HBR:=aM hbr;have hxR:=hbr.at_ a1.toNat (by have e_:=numsOf_len t1056;have d_:=of_decide_eq_true CP.out;have c_:=of_decide_eq_true CQ.out;rw[Ny1059.out] at c_;omega);have hfR:=hbr.fz a1.toNat (by have d_:=of_decide_eq_true CP.out;have c_:=of_decide_eq_true CQ.out;rw[Ny1059.out] at c_;omega);clear hbr hgR;generalize List.getD (numsOf t1056) _ _=xR at hxR)|(have hb2R:ByteRow (World.setCell wR ⟨gR,a1.toNat,none⟩ (.int .u8 (wrap64 (48+a2) % 256))) gR y1062:=(by rw[Ny1062.out,Ny1059.out];exact HBR.out.put (by have d_:=of_decide_eq_true CP.out;have c_:=of_decide_eq_true CQ.out;rw[Ny1059.out] at c_;omega) _);rw[hb2R.str (n:=t1056.size) (c:=cR) (by rw[Ny1062.out,Ny1059.out,List.length_set,numsOf_len])];have hbk:=blk_far (p:=⟨gR,a1.toNat,none⟩) BK1052.out NBR.out (.int .u8 (wrap64 (48+a2) % 256));have hbb:=below_set (j:=a1.toNat) (v:=.int .u8 (wrap64 (48+a2) % 256)) HB.out GER.out;generalize (World.setCell wR ⟨gR,a1.toNat,none⟩ (.int .u8 (wrap64 (48+a2) % 256)))=wS at hbk hbb hb2R⊢;replace BK1052:=aM hbk;replace HB:=aM hbb;clear hbk hbb hb2R hxR hfR)|(go_at_call 40;(with_reducible refine(d7_Read.calls (strOfNums y1062) t1063 t1064 t1067 t1070 _ ?sideT A50.out).mono ?_);(case sideT=>exact HT.out.below uB);rintro e w60 ⟨v1065,v1068,rfl,ho0,ho1,hb⟩;have HO1066:=aM (Kd.R_lower ho0 (below_size uB));have HO1069:=aM (Kd.R_lower ho1 (below_size uB));replace BK1052:=aM (blk_below (uK BK1052.out) hb);replace HB:=aM (below_step uB hb);(try clear hb);(try clear ho0);(try clear ho1))|((with_reducible refine gate_dst (N:=10) rfl ?_);(try (refine gate_guard (by rfl) ?_;dsimp only));refine bxe 10 #[.int .i64 0,.slice none 0 0,.slice none 0 0] 25 ?_;intro gb1071 hg w61 hbox hb;have n1_:=aM (Kd.R_below (uR HO1066.out) hb);have n2_:=aM (Kd.R_below (uR HO1069.out) hb);have n3_:=aM (blk_below (uK BK1052.out) hb);have n4_:=aM (below_step uB hb);have n5_:=aM (hbox);have n6_:=gw hg;have n7_:=gw hg;have n8_:=nb BK1052 hg;have n9_:=nc BK1052 hg;clear HO1066;clear HO1069;clear BK1052;clear HB;have HO1066:=n1_;have HO1069:=n2_;have BK1052:=n3_;have HB:=n4_;have BK1071:=n5_;have GW1071:=n6_;have GE1071:=n7_;have NB1052_1071:=n8_;have NB1071_1052:=n9_;clear n1_ n2_ n3_ n4_ n5_ n6_ n7_ n8_ n9_;clear hb hbox hg;have hnb62:=NB1071_1052.out;have hnc62:=NB1052_1071.out;obtain⟨hcz63_0,hcz63_1,hcz63_2⟩:=cz3 BK1071.out;obtain⟨hfz63_0,hfz63_1,hfz63_2⟩:=fz3 BK1071.out;obtain⟨Ao64,co64,eo64⟩:=Kd.R_slice HO1066.out;subst eo64;obtain⟨Ao65,co65,eo65⟩:=Kd.R_slice HO1069.out;subst eo65)|(go_at_call 42;(refine (r7_SameTrees.calls kj29 t1063 _ _ t1064 _ _ t1067 0 _ _ ([]:List (S77)) _ _ ([]:List (S51)) true _ ?side1 ?side2 ?side3 ?side4 ?side5 ?side6 ?side7 ?side8 A52.out).mono ?_);(case side1=>refine(Kd.R_reads' (e:=77) (base:=w.heap.size) (ok:=fun k_=>True) (n:=t1064.length) (c:=co64) ?_).2.2;exact(by refine uR ?_;exact(Kd.R_mono (Kd.R_far (p:=⟨gb1071,2,none⟩) (Kd.R_far (p:=⟨gb1071,1,none⟩) (Kd.R_far (p:=⟨gb1071,0,none⟩) (Kd.R_types HO1066.out BK1071.out (by decide)) (fun _ hk=>hk.2) (.int .i64 t1063)) (fun _ hk=>hk.2) (.slice Ao64 t1064.length co64)) (fun _ hk=>hk.2) (.slice Ao65 t1067.length co65)) (fun _ h_=>h_.1))));(case side2=>exact(Kd.R_reads' HO1066.out).2.1);(case side3=>refine(Kd.R_reads' (e:=51) (base:=w.heap.size) (ok:=fun k_=>True) (n:=t1067.length) (c:=co65) ?_).2.2;exact(by refine uR ?_;exact(Kd.R_mono (Kd.R_far (p:=⟨gb1071,2,none⟩) (Kd.R_far (p:=⟨gb1071,1,none⟩) (Kd.R_far (p:=⟨gb1071,0,none⟩) (Kd.R_types HO1069.out BK1071.out (by decide)) (fun _ hk=>hk.2) (.int .i64 t1063)) (fun _ hk=>hk.2) (.slice Ao64 t1064.length co64)) (fun _ hk=>hk.2) (.slice Ao65 t1067.length co65)) (fun _ h_=>h_.1))));(case side4=>exact(Kd.R_reads' HO1069.out).2.1);(case side5=>exact Kd.C_nil _ _);(case side6=>exact Nat.le_refl _);(case side7=>exact Kd.C_nil _ _);(case side8=>exact Nat.le_refl _);rintro e w66 ⟨rfl,hb⟩;replace HO1066:=aM (Kd.R_below (by refine uR ?_;exact(Kd.R_mono (Kd.R_far (p:=⟨gb1071,2,none⟩) (Kd.R_far (p:=⟨gb1071,1,none⟩) (Kd.R_far (p:=⟨gb1071,0,none⟩) (Kd.R_types HO1066.out BK1071.out (by decide)) (fun _ hk=>hk.2) (.int .i64 t1063)) (fun _ hk=>hk.2) (.slice Ao64 t1064.length co64)) (fun _ hk=>hk.2) (.slice Ao65 t1067.length co65)) (fun _ h_=>h_.1))) hb);replace HO1069:=aM (Kd.R_below (by refine uR ?_;exact(Kd.R_mono (Kd.R_far (p:=⟨gb1071,2,none⟩) (Kd.R_far (p:=⟨gb1071,1,none⟩) (Kd.R_far (p:=⟨gb1071,0,none⟩) (Kd.R_types HO1069.out BK1071.out (by decide)) (fun _ hk=>hk.2) (.int .i64 t1063)) (fun _ hk=>hk.2) (.slice Ao64 t1064.length co64)) (fun _ hk=>hk.2) (.slice Ao65 t1067.length co65)) (fun _ h_=>h_.1))) hb);replace BK1052:=aM (blk_below (g:=gb1052) (o:=.cells #[.int .i64 a0_0,.slice A0_1 l0_1.length c0_1,.slice A0_2 l0_2.length c0_2] 25 (0,0)) (by refine uK ?_;refine blk_far ?_ NB1052_1071.out _;refine uK ?_;refine blk_far ?_ NB1052_1071.out _;refine uK ?_;refine blk_far ?_ NB1052_1071.out _;refine uK ?_;exact BK1052.out) hb);replace BK1071:=aM (blk_below (g:=gb1071) (o:=.cells #[.int .i64 t1063,.slice Ao64 t1064.length co64,.slice Ao65 t1067.length co65] 25 (0,0)) (by refine uK ?_;refine blk_put (cs:=#[.int .i64 t1063,.slice Ao64 t1064.length co64,.slice none 0 0]) ?_ 2 _ rfl;refine uK ?_;refine blk_put (cs:=#[.int .i64 t1063,.slice none 0 0,.slice none 0 0]) ?_ 1 _ rfl;refine uK ?_;refine blk_put (cs:=#[.int .i64 0,.slice none 0 0,.slice none 0 0]) ?_ 0 _ rfl;refine uK ?_;exact BK1071.out) hb);replace HB:=aM (below_step uB hb);(try clear hb))|(go_at_call 18;(with_reducible refine(q7_known.calls kj29 t1073 _ ?sideT A54.out).mono ?_);(case sideT=>exact HT.out.below uB);rintro e w67 ⟨rfl,hb⟩;replace HO1066:=aM (Kd.R_below (uR HO1066.out) hb);replace HO1069:=aM (Kd.R_below (uR HO1069.out) hb);replace BK1052:=aM (blk_below (uK BK1052.out) hb);replace BK1071:=aM (blk_below (uK BK1071.out) hb);replace HB:=aM (below_step uB hb);(try clear hb)))
          go_ret;exact⟨uE,uB⟩
         ·replace c53:=Bool.eq_false_iff.mpr c53;subst c53;exact absurd H (by simp)
        ·rw[if_neg c51] at H;have c51b0:(t1070==4)=false:=beq_eq_false_iff_ne.mpr c51;have c51b1:(t1070 !=4)=true:=bne_iff_ne.mpr c51;exact absurd H (by simp)
    ·rw[if_neg c29] at H;have c29b0:(t1057==0)=false:=beq_eq_false_iff_ne.mpr c29;have c29b1:(t1057 !=0)=true:=bne_iff_ne.mpr c29;obtain rfl:=Option.some.inj H;obtain⟨hcz91_0,hcz91_1,hcz91_2⟩:=cz3 BK1052.out;obtain⟨hfz91_0,hfz91_1,hfz91_2⟩:=fz3 BK1052.out
     go_wp2_with (first|((with_reducible refine gate_callee (f:=39) rfl ?_);refine goesL_ (some 31) rfl rfl Tryz.func39 (by kernel_rfl) rfl #[.agg #[.int .i64 a0_0,.slice A0_1 l0_1.length c0_1,.slice A0_2 l0_2.length c0_2]] rfl uM ?_;(with_reducible refine(d7_Print.calls a0_0 _ _ l0_1 _ _ l0_2 t1056 t1057 _ ?side1 ?side2 ?side3 ?side4 ?sideT A28.out).mono ?_);(case sideT=>exact HT.out.below uB);(case side1=>exact uY HR0_1 HB);(case side2=>exact HC0_1.out);(case side3=>exact uY HR0_2 HB);(case side4=>exact HC0_2.out);rintro e w92 ⟨rfl,hb⟩;refine⟨_,rfl,?_⟩;replace BK1052:=aM (blk_below (uK BK1052.out) hb);replace HB:=aM (below_step uB hb);(try clear hb)))
     go_ret;exact⟨uE,uB⟩
end Go.Proofs.YtjioobfeikbffabGreatDoor.K
end
section
namespace Go.Proofs.YtjioobfeikbffabGreatDoor.K
open Dr Go.RowKit Go.Proofs.Zw Go.Proofs.Zl Go.Proofs.Zm
set_option linter.unusedSectionVars false
namespace Rf
variable {I:Int} {N:List SN} {O:List SO}
open Tx
theorem ofNat_toNat (b:UInt8):UInt8.ofNat ((b.toNat:Int)).toNat=b:=by simp
theorem nums_set (t:ByteArray) (p:Nat) (v:Int):strOfNums ((numsOf t).set p v)=bytesA (t.data.toList.set p (UInt8.ofNat v.toNat)):=by
  apply bytes_ext;rw[strOfNums_data,bytes_data,List.map_set]
  congr 1
  unfold numsOf;rw[List.map_map]
  conv=>rhs;rw[← List.map_id t.data.toList]
  apply List.map_congr_left;intro b _;exact ofNat_toNat b
theorem sameT_nil (K:Nat) (hK:5≤K):r7_SameTrees.f K 0 [] [] 0 [] []=some true:=by
  obtain⟨K,rfl⟩:∃k,K=k+1+1+1:=⟨K-3,by omega⟩
  rfl
theorem spoilt_read (h:treeB I N O=true) {p:Nat} {x:UInt8} (hp:(textD I N O).data.toList[p]? =some x) (hx:48≤x.toNat∧x.toNat≤57) {d:Int} (d0:0≤d) (d1:d≤9) (hne:(x.toNat:Int)-48≠d):
    d7_Read.f (strOfNums ((numsOf (textD I N O)).set p (48+d)))=some (0,[],[],4):=by
  have h6:=(tree_ok h).nl;have h8:=(tree_ok h).ol;have hsh:=text_short h
  have hv:(UInt8.ofNat (48+d).toNat).toNat=(48+d).toNat:=by
    rw[UInt8.toNat_ofNat']
    omega
  have hs:=parsed_spoilt (good_tree h) (by omega) hp hx (y:=UInt8.ofNat (48+d).toNat) (by rw[hv];omega) (by
    intro e;rw[← e] at hv
    omega)
  rw[nums_set]
  have hsz:(bytesA ((textD I N O).data.toList.set p (UInt8.ofNat (48+d).toNat))).size=(textD I N O).size:=by
    rw[Lib.size_eq,Lib.size_eq,bytes_data,List.length_set]
  unfold d7_Read.f readD;rw[if_pos (by rw[hsz];omega),if_neg (by rw[hsz];omega),hs]
theorem DroughtSpoilt_pure (I:Int) (N:List SN) (O:List SO) (i d:Int) (K:Nat) (hK:200000≤K):q7_DroughtSpoilt.f K I N O i d=some true:=by
  unfold q7_DroughtSpoilt.f;obtain⟨K,rfl⟩:∃k,K=k+1+1:=⟨K-2,by omega⟩;have bad:q7_DroughtSpoilt.j0 (K+1+1) i d true I N O=some true:=rfl;rw[short_f,Option.bind_some]
  cases hs:(decide (N.length≤8)&&decide (O.length≤10)) with
  |false=>rw[if_neg (by simp)];exact bad
  |true=>
    have hl:N.length≤8∧O.length≤10:=by simpa using hs
    rw[if_pos rfl,tree_f I N O (by omega) (by omega) _ (by omega),Option.bind_some]
    cases h1:treeB I N O with
    |false=>rw[if_neg (by simp)];exact bad
    |true=>
      rw[if_pos rfl]
      by_cases g1:d<0
      · rw[if_pos g1];exact bad
      · rw[if_neg g1]
        by_cases g2:d>9
        · rw[decide_eq_true g2];exact bad
        · rw[decide_eq_false g2];have e1:=printC_f (I:=I) (N:=N) (O:=O) (by omega) (by omega);rw[if_pos h1] at e1;have hsh:=text_short h1;have key:=fun(p:Nat) (x:UInt8) hp hx hne=>spoilt_read h1 (p:=p) (x:=x) hp hx (d:=d) (by omega) (by omega) hne;generalize textD I N O=t at *;simp only[q7_DroughtSpoilt.j0,Bool.false_eq_true,if_false];rw[e1,Option.bind_some]
          dsimp only
          rw[if_pos rfl];have bad1:q7_DroughtSpoilt.j1 (K+1) i d t true=some true:=rfl
          by_cases g3:i<0
          · rw[if_pos g3];exact bad1
          · rw[if_neg g3]
            by_cases g4:i≥(t.size:Int)
            · rw[if_pos g4];exact bad1
            · rw[if_neg g4,if_pos (by omega),if_pos (by omega)];obtain⟨p,rfl⟩:=Int.eq_ofNat_of_zero_le (show 0≤i by omega);have hpl:p<t.data.toList.length:=by rw[← Lib.size_eq];omega
              have hb:=bt_list t p;rw[show t.data.toList.getD p 0=t.data.toList[p] by simp[List.getD,List.getElem?_eq_getElem hpl]] at hb
              by_cases g5:bt t (p:Int)<48
              · rw[if_pos g5];exact bad1
              · rw[if_neg g5]
                by_cases g6:bt t (p:Int)>57
                · rw[if_pos g6];exact bad1
                · rw[if_neg g6]
                  by_cases g7:(bt t (p:Int)-48) % 256=d
                  · rw[beq_iff_eq.2 g7];exact bad1
                  · rw[beq_eq_false_iff_ne.2 g7];have hk:=key p t.data.toList[p] (List.getElem?_eq_getElem hpl) (by omega) (by omega)
                    rw[q7_DroughtSpoilt.j1,if_neg (by simp),if_pos (by omega),if_pos (by omega),Option.bind_some,if_pos (by omega),if_pos (by rw[numsOf_len];omega),sml (a:=48+d) (by omega) (by omega),
                      show(48+d) % 256=48+d by omega,show((p:Nat):Int).toNat=p by omega,hk,Option.bind_some]
                    dsimp only
                    rw[if_pos rfl,sameT_nil K (by omega),Option.bind_some,if_pos rfl]
                    rfl
end Rf
theorem DroughtSpoilt_law (I:Int) (A0 A1:Option Addr) (c0 c1:Nat) (N:List SN) (O:List SO) (i:Int) (d:Int) (w:World) (hT:TabW w) (h0:At' k77 w A0 N.length c0 N) (h1:At' k51 w A1 O.length c1 O):
    Calls Tryz.prog 11 #[.agg #[.int .i64 I,.slice A0 N.length c0,.slice A1 O.length c1],.int .i64 i,.int .i64 d] w fun e w'=>e=.returned (.bool true)∧Below w.heap.size w w':=
  q7_DroughtSpoilt.calls 200000 I A0 c0 N A1 c1 O i d true w h0.c h0.le h1.c h1.le hT (Rf.DroughtSpoilt_pure I N O i d 200000 (by omega))
end Go.Proofs.YtjioobfeikbffabGreatDoor.K
end
