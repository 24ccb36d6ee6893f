/- The walks of the functions that the laws of this seat call, and what they compute; joined out of smaller texts, part 6. -/
import Derived.Outline
import Derived.Deep.Slices
import Derived.ProofKit
import Derived.OpenShut
import Derived.Test.YtjioobfeikbffabGreatDoorG5
set_option linter.unusedVariables false
set_option linter.unusedSimpArgs false
section
namespace Go.Proofs.YtjioobfeikbffabGreatDoor.K
open Go.RowKit Go.Proofs.YtjioobfeikbffabGreatDoorW.PrintWords Go.Proofs.YtjioobfeikbffabGreatDoorW.PrintLast Go.Proofs.YtjioobfeikbffabGreatDoorW.PrintMore
attribute [local go_sem] max2_int min2_int max_two min_two max_three min_three max_four min_four
mutual
def drought_Swaps.j0:Nat→List (List Int)→Int→Int→Bool→Int→List (S77)→List (S51)→Option (Int×Int×Int)
 |0,_,_,_,_,_,_,_=>none
 |k+1,x1,x2,x3,x46,x327000,x327001,x327002=>if x46=true then(some (0,0,2)) else(drought_Swaps.l0 k x1 x2 x3 x1 (x1.length:Int) 0 x327000 x327001 x327002)
def drought_Swaps.l0:Nat→List (List Int)→Int→Int→List (List Int)→Int→Int→Int→List (S77)→List (S51)→Option (Int×Int×Int)
 |0,_,_,_,_,_,_,_,_,_=>none
 |k+1,x1,x2,x3,x47,x48,x49,x327000,x327001,x327002=>if x49<x48 then(if 0≤x49 then(if x49<(x47.length:Int) then(drought_Swaps.l1 k x1 x2 x3 x49 (rd_L5 x47 x49) x47 x48 x49 x1 (x1.length:Int) 0 x327000 x327001 x327002) else(none)) else(none)) else(some (0,0,5))
def drought_Swaps.l1:Nat→List (List Int)→Int→Int→Int→List Int→List (List Int)→Int→Int→List (List Int)→Int→Int→Int→List (S77)→List (S51)→Option (Int×Int×Int)
 |0,_,_,_,_,_,_,_,_,_,_,_,_,_,_=>none
 |k+1,x1,x2,x3,x11,x12,x47,x48,x49,x54,x55,x56,x327000,x327001,x327002=>if x56<x55 then(if 0≤x56 then(if x56<(x54.length:Int) then(if x11=x56 then(drought_Swaps.l1 k x1 x2 x3 x11 x12 x47 x48 x49 x54 x55 (wrap64 (x56+1)) x327000 x327001 x327002) else((drought_swaps.f x327000 x327001 x327002 x12 (rd_L5 x54 x56) x2 x3).bind fun t334=>(if t334=true then(some (x11,x56,0)) else(drought_Swaps.l1 k x1 x2 x3 x11 x12 x47 x48 x49 x54 x55 (wrap64 (x56+1)) x327000 x327001 x327002)))) else(none)) else(none)) else(drought_Swaps.l0 k x1 x2 x3 x47 x48 (wrap64 (x49+1)) x327000 x327001 x327002)
end
def drought_Swaps.f (k:Nat) (a0_0:Int) (l0_1:List (S77)) (l0_2:List (S51)) (l1:List (List Int)) (a2:Int) (a3:Int):Option (Int×Int×Int):=(drought_isTree.f a0_0 l0_1 l0_2).bind fun t327=>(if t327=true then((drought_isPlan.f a0_0 l0_1 l0_2 l1).bind fun t328=>(if t328=true then((drought_isOutlet.f a0_0 l0_1 l0_2 a2).bind fun t329=>(if t329=true then((drought_isOutlet.f a0_0 l0_1 l0_2 a3).bind fun t330=>(if t330=true then(if a2=a3 then(drought_Swaps.j0 k l1 a2 a3 true a0_0 l0_1 l0_2) else((drought_runs.f a0_0 l0_1 l0_2 l1).bind fun t331=>(drought_Swaps.j0 k l1 a2 a3 (!t331) a0_0 l0_1 l0_2))) else(drought_Swaps.j0 k l1 a2 a3 true a0_0 l0_1 l0_2))) else(drought_Swaps.j0 k l1 a2 a3 true a0_0 l0_1 l0_2))) else(drought_Swaps.j0 k l1 a2 a3 true a0_0 l0_1 l0_2))) else(drought_Swaps.j0 k l1 a2 a3 true a0_0 l0_1 l0_2))
set_option maxHeartbeats 8000000 in
set_option maxRecDepth 100000 in
theorem drought_Swaps.calls (k:Nat) (a0_0:Int) (A0_1:Option Addr) (c0_1:Nat) (l0_1:List (S77)) (A0_2:Option Addr) (c0_2:Nat) (l0_2:List (S51)) (A1:Option Addr) (c1:Nat) (l1:List (List Int)) (a2:Int) (a3:Int) (r1:Int) (r2:Int) (r3:Int) (w:World) (hr0_1:Kd.C k77 w A0_1 l0_1.length l0_1) (hc0_1:l0_1.length≤c0_1) (hr0_2:Kd.C k51 w A0_2 l0_2.length l0_2) (hc0_2:l0_2.length≤c0_2) (hr1:Kd.C (Kd.slice 3 (Kd.int .i64)) w A1 l1.length l1) (hc1:l1.length≤c1) (h:drought_Swaps.f k a0_0 l0_1 l0_2 l1 a2 a3=some (r1,r2,r3)):
  Calls Tryz.prog 26 #[.agg #[.int .i64 a0_0,.slice A0_1 l0_1.length c0_1,.slice A0_2 l0_2.length c0_2],.slice A1 l1.length c1,.int .i64 a2,.int .i64 a3] w fun e w'=>e=.returned (.tuple #[.int .i64 r1,.int .i64 r2,.int .i64 r3])∧Below w.heap.size w w':=by
 have hu25:=Tryz.underlying25;have HR0_1:=aM hr0_1;have HC0_1:=aM hc0_1;clear hr0_1 hc0_1;have HR0_2:=aM hr0_2;have HC0_2:=aM hc0_2;clear hr0_2 hc0_2;have HR1:=aM hr1;have HC1:=aM hc1;clear hr1 hc1;have HB:=aM (Below.refl w.heap.size w);have H:((drought_isTree.f a0_0 l0_1 l0_2).bind fun t327=>(if t327=true then((drought_isPlan.f a0_0 l0_1 l0_2 l1).bind fun t328=>(if t328=true then((drought_isOutlet.f a0_0 l0_1 l0_2 a2).bind fun t329=>(if t329=true then((drought_isOutlet.f a0_0 l0_1 l0_2 a3).bind fun t330=>(if t330=true then(if a2=a3 then(drought_Swaps.j0 k l1 a2 a3 true a0_0 l0_1 l0_2) else((drought_runs.f a0_0 l0_1 l0_2 l1).bind fun t331=>(drought_Swaps.j0 k l1 a2 a3 (!t331) a0_0 l0_1 l0_2))) else(drought_Swaps.j0 k l1 a2 a3 true a0_0 l0_1 l0_2))) else(drought_Swaps.j0 k l1 a2 a3 true a0_0 l0_1 l0_2))) else(drought_Swaps.j0 k l1 a2 a3 true a0_0 l0_1 l0_2))) else(drought_Swaps.j0 k l1 a2 a3 true a0_0 l0_1 l0_2)))=some (r1,r2,r3):=h;clear h;have HC5:=aM H;clear H
 go_enter Tryz.func26,Tryz.ntmps26
 go_upto_region 1 with(first|((with_reducible refine gate_dst (N:=4) rfl ?_);refine bxe 4 #[.int .i64 a0_0,.slice A0_1 l0_1.length c0_1,.slice A0_2 l0_2.length c0_2] 25 ?_;intro gb326 hg w6 hbox hb;have n0_:=aM (below_step uB hb);have n1_:=aM (hbox);have n2_:=gw hg;have n3_:=gw hg;clear HB;have HB:=n0_;have BK326:=n1_;have GW326:=n2_;have GE326:=n3_;clear n0_ n1_ n2_ n3_;clear hb hbox hg))
 (try simp only[Act.put,List.setIfInBounds_toArray,List.set_cons_zero,List.set_cons_succ])
 go_cut [46] (fun v46 wc=>∃(kq:Nat) (x46_4:Bool),v46=.bool x46_4∧Aside0 (drought_Swaps.j0 kq l1 a2 a3 x46_4 a0_0 l0_1 l0_2=some (r1,r2,r3))∧Aside0 (kq≤k)∧Aside0 (wc.heap[gb326]? =some (.cells #[.int .i64 a0_0,(.slice A0_1 l0_1.length c0_1),(.slice A0_2 l0_2.length c0_2)] 25 (0,0)))∧Aside0 (Below w.heap.size w wc))
 case first=>
  have H:=HC5.out;clear HC5;replace H:=Option.bind_eq_some_iff.mp H;obtain⟨t327,A70,H⟩:=H;replace H:(if t327=true then((drought_isPlan.f a0_0 l0_1 l0_2 l1).bind fun t328=>(if t328=true then((drought_isOutlet.f a0_0 l0_1 l0_2 a2).bind fun t329=>(if t329=true then((drought_isOutlet.f a0_0 l0_1 l0_2 a3).bind fun t330=>(if t330=true then(if a2=a3 then(drought_Swaps.j0 k l1 a2 a3 true a0_0 l0_1 l0_2) else((drought_runs.f a0_0 l0_1 l0_2 l1).bind fun t331=>(drought_Swaps.j0 k l1 a2 a3 (!t331) a0_0 l0_1 l0_2))) else(drought_Swaps.j0 k l1 a2 a3 true a0_0 l0_1 l0_2))) else(drought_Swaps.j0 k l1 a2 a3 true a0_0 l0_1 l0_2))) else(drought_Swaps.j0 k l1 a2 a3 true a0_0 l0_1 l0_2))) else(drought_Swaps.j0 k l1 a2 a3 true a0_0 l0_1 l0_2))=some (r1,r2,r3):=H;have A7:=aM A70;clear A70
  by_cases c8:t327=true
  ·subst c8;have H1:((drought_isPlan.f a0_0 l0_1 l0_2 l1).bind fun t328=>(if t328=true then((drought_isOutlet.f a0_0 l0_1 l0_2 a2).bind fun t329=>(if t329=true then((drought_isOutlet.f a0_0 l0_1 l0_2 a3).bind fun t330=>(if t330=true then(if a2=a3 then(drought_Swaps.j0 k l1 a2 a3 true a0_0 l0_1 l0_2) else((drought_runs.f a0_0 l0_1 l0_2 l1).bind fun t331=>(drought_Swaps.j0 k l1 a2 a3 (!t331) a0_0 l0_1 l0_2))) else(drought_Swaps.j0 k l1 a2 a3 true a0_0 l0_1 l0_2))) else(drought_Swaps.j0 k l1 a2 a3 true a0_0 l0_1 l0_2))) else(drought_Swaps.j0 k l1 a2 a3 true a0_0 l0_1 l0_2)))=some (r1,r2,r3):=by rw[if_pos rfl] at H;exact H
   clear H;have H:=H1;clear H1;replace H:=Option.bind_eq_some_iff.mp H;obtain⟨t328,A90,H⟩:=H;replace H:(if t328=true then((drought_isOutlet.f a0_0 l0_1 l0_2 a2).bind fun t329=>(if t329=true then((drought_isOutlet.f a0_0 l0_1 l0_2 a3).bind fun t330=>(if t330=true then(if a2=a3 then(drought_Swaps.j0 k l1 a2 a3 true a0_0 l0_1 l0_2) else((drought_runs.f a0_0 l0_1 l0_2 l1).bind fun t331=>(drought_Swaps.j0 k l1 a2 a3 (!t331) a0_0 l0_1 l0_2))) else(drought_Swaps.j0 k l1 a2 a3 true a0_0 l0_1 l0_2))) else(drought_Swaps.j0 k l1 a2 a3 true a0_0 l0_1 l0_2))) else(drought_Swaps.j0 k l1 a2 a3 true a0_0 l0_1 l0_2))=some (r1,r2,r3):=H;have A9:=aM A90;clear A90
   by_cases c10:t328=true
   ·subst c10;have H1:((drought_isOutlet.f a0_0 l0_1 l0_2 a2).bind fun t329=>(if t329=true then((drought_isOutlet.f a0_0 l0_1 l0_2 a3).bind fun t330=>(if t330=true then(if a2=a3 then(drought_Swaps.j0 k l1 a2 a3 true a0_0 l0_1 l0_2) else((drought_runs.f a0_0 l0_1 l0_2 l1).bind fun t331=>(drought_Swaps.j0 k l1 a2 a3 (!t331) a0_0 l0_1 l0_2))) else(drought_Swaps.j0 k l1 a2 a3 true a0_0 l0_1 l0_2))) else(drought_Swaps.j0 k l1 a2 a3 true a0_0 l0_1 l0_2)))=some (r1,r2,r3):=by rw[if_pos rfl] at H;exact H
    clear H;have H:=H1;clear H1;replace H:=Option.bind_eq_some_iff.mp H;obtain⟨t329,A110,H⟩:=H;replace H:(if t329=true then((drought_isOutlet.f a0_0 l0_1 l0_2 a3).bind fun t330=>(if t330=true then(if a2=a3 then(drought_Swaps.j0 k l1 a2 a3 true a0_0 l0_1 l0_2) else((drought_runs.f a0_0 l0_1 l0_2 l1).bind fun t331=>(drought_Swaps.j0 k l1 a2 a3 (!t331) a0_0 l0_1 l0_2))) else(drought_Swaps.j0 k l1 a2 a3 true a0_0 l0_1 l0_2))) else(drought_Swaps.j0 k l1 a2 a3 true a0_0 l0_1 l0_2))=some (r1,r2,r3):=H;have A11:=aM A110;clear A110
    by_cases c12:t329=true
    ·subst c12;have H1:((drought_isOutlet.f a0_0 l0_1 l0_2 a3).bind fun t330=>(if t330=true then(if a2=a3 then(drought_Swaps.j0 k l1 a2 a3 true a0_0 l0_1 l0_2) else((drought_runs.f a0_0 l0_1 l0_2 l1).bind fun t331=>(drought_Swaps.j0 k l1 a2 a3 (!t331) a0_0 l0_1 l0_2))) else(drought_Swaps.j0 k l1 a2 a3 true a0_0 l0_1 l0_2)))=some (r1,r2,r3):=by rw[if_pos rfl] at H;exact H
     clear H;have H:=H1;clear H1;replace H:=Option.bind_eq_some_iff.mp H;obtain⟨t330,A130,H⟩:=H;replace H:(if t330=true then(if a2=a3 then(drought_Swaps.j0 k l1 a2 a3 true a0_0 l0_1 l0_2) else((drought_runs.f a0_0 l0_1 l0_2 l1).bind fun t331=>(drought_Swaps.j0 k l1 a2 a3 (!t331) a0_0 l0_1 l0_2))) else(drought_Swaps.j0 k l1 a2 a3 true a0_0 l0_1 l0_2))=some (r1,r2,r3):=H;have A13:=aM A130;clear A130
     by_cases c14:t330=true
     ·subst c14;have H1:(if a2=a3 then(drought_Swaps.j0 k l1 a2 a3 true a0_0 l0_1 l0_2) else((drought_runs.f a0_0 l0_1 l0_2 l1).bind fun t331=>(drought_Swaps.j0 k l1 a2 a3 (!t331) a0_0 l0_1 l0_2)))=some (r1,r2,r3):=by rw[if_pos rfl] at H;exact H
      clear H;have H:=H1;clear H1
      by_cases c15:a2=a3
      ·rw[if_pos c15] at H;have c15b0:(a2==a3)=true:=beq_iff_eq.mpr c15;have c15b1:(a2 !=a3)=false:=bne_eq_false_iff_eq.mpr c15;clear c15;(first|rw[c15b0]|(simp only[i64_w,i32_w];rw[c15b0])|skip);have H':=aM H;clear H;obtain⟨hcz16_0,hcz16_1,hcz16_2⟩:=cz3 BK326.out;obtain⟨hfz16_0,hfz16_1,hfz16_2⟩:=fz3 BK326.out
       go_wp2_with (first|((with_reducible refine gate_callee (f:=59) rfl ?_);refine goesL_ (some 16) rfl rfl Tryz.func59 (by kernel_rfl) rfl #[.agg #[.int .i64 a0_0,.slice A0_1 l0_1.length c0_1,.slice A0_2 l0_2.length c0_2]] rfl uM ?_;(with_reducible refine(drought_isTree.calls a0_0 _ _ l0_1 _ _ l0_2 true _ ?side1 ?side2 ?side3 ?side4 A7.out).mono ?_);(case side1=>exact uC (Kd.C_below HR0_1.out HB.out));(case side2=>exact HC0_1.out);(case side3=>exact uC (Kd.C_below HR0_2.out HB.out));(case side4=>exact HC0_2.out);rintro e w17 ⟨rfl,hb⟩;refine⟨_,rfl,?_⟩;replace BK326:=aM (blk_below (uK BK326.out) hb);replace HB:=aM (below_step uB hb);(try clear hb);(try clear hb2);(try clear hk);(try clear hi);obtain⟨hcz18_0,hcz18_1,hcz18_2⟩:=cz3 BK326.out;obtain⟨hfz18_0,hfz18_1,hfz18_2⟩:=fz3 BK326.out)|(go_at_call 63;(with_reducible refine(drought_isPlan.calls a0_0 _ _ l0_1 _ _ l0_2 _ _ l1 true _ ?side1 ?side2 ?side3 ?side4 ?side5 ?side6 A9.out).mono ?_);(case side1=>exact uC (Kd.C_below HR0_1.out HB.out));(case side2=>exact HC0_1.out);(case side3=>exact uC (Kd.C_below HR0_2.out HB.out));(case side4=>exact HC0_2.out);(case side5=>exact uC (Kd.C_below HR1.out HB.out));(case side6=>exact HC1.out);rintro e w19 ⟨rfl,hb⟩;replace BK326:=aM (blk_below (uK BK326.out) hb);replace HB:=aM (below_step uB hb);(try clear hb);(try clear hb2);(try clear hk);(try clear hi);obtain⟨hcz20_0,hcz20_1,hcz20_2⟩:=cz3 BK326.out;obtain⟨hfz20_0,hfz20_1,hfz20_2⟩:=fz3 BK326.out)|(go_at_call 60;(with_reducible refine(drought_isOutlet.calls a0_0 _ _ l0_1 _ _ l0_2 a2 true _ ?side1 ?side2 ?side3 ?side4 A11.out).mono ?_);(case side1=>exact uC (Kd.C_below HR0_1.out HB.out));(case side2=>exact HC0_1.out);(case side3=>exact uC (Kd.C_below HR0_2.out HB.out));(case side4=>exact HC0_2.out);rintro e w21 ⟨rfl,hb⟩;replace BK326:=aM (blk_below (uK BK326.out) hb);replace HB:=aM (below_step uB hb);(try clear hb);(try clear hb2);(try clear hk);(try clear hi);obtain⟨hcz22_0,hcz22_1,hcz22_2⟩:=cz3 BK326.out;obtain⟨hfz22_0,hfz22_1,hfz22_2⟩:=fz3 BK326.out)|(go_at_call 60;(with_reducible refine(drought_isOutlet.calls a0_0 _ _ l0_1 _ _ l0_2 a3 true _ ?side1 ?side2 ?side3 ?side4 A13.out).mono ?_);(case side1=>exact uC (Kd.C_below HR0_1.out HB.out));(case side2=>exact HC0_1.out);(case side3=>exact uC (Kd.C_below HR0_2.out HB.out));(case side4=>exact HC0_2.out);rintro e w23 ⟨rfl,hb⟩;replace BK326:=aM (blk_below (uK BK326.out) hb);replace HB:=aM (below_step uB hb);(try clear hb);(try clear hb2);(try clear hk);(try clear hi)))
       go_meet
       case rel=>exact⟨_,(true),u0,H',⟨u1⟩,⟨uK BK326.out⟩,⟨uB⟩⟩
      ·rw[if_neg c15] at H;have c15b0:(a2==a3)=false:=beq_eq_false_iff_ne.mpr c15;have c15b1:(a2 !=a3)=true:=bne_iff_ne.mpr c15;(first|rw[c15b0]|(simp only[i64_w,i32_w];rw[c15b0])|skip);replace H:=Option.bind_eq_some_iff.mp H;obtain⟨t331,A240,H⟩:=H;replace H:(drought_Swaps.j0 k l1 a2 a3 (!t331) a0_0 l0_1 l0_2)=some (r1,r2,r3):=H;have A24:=aM A240;clear A240;have H':=aM H;clear H;obtain⟨hcz25_0,hcz25_1,hcz25_2⟩:=cz3 BK326.out;obtain⟨hfz25_0,hfz25_1,hfz25_2⟩:=fz3 BK326.out
       go_wp2_with (first|((with_reducible refine gate_callee (f:=59) rfl ?_);refine goesL_ (some 16) rfl rfl Tryz.func59 (by kernel_rfl) rfl #[.agg #[.int .i64 a0_0,.slice A0_1 l0_1.length c0_1,.slice A0_2 l0_2.length c0_2]] rfl uM ?_;(with_reducible refine(drought_isTree.calls a0_0 _ _ l0_1 _ _ l0_2 true _ ?side1 ?side2 ?side3 ?side4 A7.out).mono ?_);(case side1=>exact uC (Kd.C_below HR0_1.out HB.out));(case side2=>exact HC0_1.out);(case side3=>exact uC (Kd.C_below HR0_2.out HB.out));(case side4=>exact HC0_2.out);rintro e w26 ⟨rfl,hb⟩;refine⟨_,rfl,?_⟩;replace BK326:=aM (blk_below (uK BK326.out) hb);replace HB:=aM (below_step uB hb);(try clear hb);(try clear hb2);(try clear hk);(try clear hi);obtain⟨hcz27_0,hcz27_1,hcz27_2⟩:=cz3 BK326.out;obtain⟨hfz27_0,hfz27_1,hfz27_2⟩:=fz3 BK326.out)|(go_at_call 63;(with_reducible refine(drought_isPlan.calls a0_0 _ _ l0_1 _ _ l0_2 _ _ l1 true _ ?side1 ?side2 ?side3 ?side4 ?side5 ?side6 A9.out).mono ?_);(case side1=>exact uC (Kd.C_below HR0_1.out HB.out));(case side2=>exact HC0_1.out);(case side3=>exact uC (Kd.C_below HR0_2.out HB.out));(case side4=>exact HC0_2.out);(case side5=>exact uC (Kd.C_below HR1.out HB.out));(case side6=>exact HC1.out);rintro e w28 ⟨rfl,hb⟩;replace BK326:=aM (blk_below (uK BK326.out) hb);replace HB:=aM (below_step uB hb);(try clear hb);(try clear hb2);(try clear hk);(try clear hi);obtain⟨hcz29_0,hcz29_1,hcz29_2⟩:=cz3 BK326.out;obtain⟨hfz29_0,hfz29_1,hfz29_2⟩:=fz3 BK326.out)|(go_at_call 60;(with_reducible refine(drought_isOutlet.calls a0_0 _ _ l0_1 _ _ l0_2 a2 true _ ?side1 ?side2 ?side3 ?side4 A11.out).mono ?_);(case side1=>exact uC (Kd.C_below HR0_1.out HB.out));(case side2=>exact HC0_1.out);(case side3=>exact uC (Kd.C_below HR0_2.out HB.out));(case side4=>exact HC0_2.out);rintro e w30 ⟨rfl,hb⟩;replace BK326:=aM (blk_below (uK BK326.out) hb);replace HB:=aM (below_step uB hb);(try clear hb);(try clear hb2);(try clear hk);(try clear hi);obtain⟨hcz31_0,hcz31_1,hcz31_2⟩:=cz3 BK326.out;obtain⟨hfz31_0,hfz31_1,hfz31_2⟩:=fz3 BK326.out)|(go_at_call 60;(with_reducible refine(drought_isOutlet.calls a0_0 _ _ l0_1 _ _ l0_2 a3 true _ ?side1 ?side2 ?side3 ?side4 A13.out).mono ?_);(case side1=>exact uC (Kd.C_below HR0_1.out HB.out));(case side2=>exact HC0_1.out);(case side3=>exact uC (Kd.C_below HR0_2.out HB.out));(case side4=>exact HC0_2.out);rintro e w32 ⟨rfl,hb⟩;replace BK326:=aM (blk_below (uK BK326.out) hb);replace HB:=aM (below_step uB hb);(try clear hb);(try clear hb2);(try clear hk);(try clear hi);obtain⟨hcz33_0,hcz33_1,hcz33_2⟩:=cz3 BK326.out;obtain⟨hfz33_0,hfz33_1,hfz33_2⟩:=fz3 BK326.out)|(go_at_call 64;(with_reducible refine(drought_runs.calls a0_0 _ _ l0_1 _ _ l0_2 _ _ l1 t331 _ ?side1 ?side2 ?side3 ?side4 ?side5 ?side6 A24.out).mono ?_);(case side1=>exact uC (Kd.C_below HR0_1.out HB.out));(case side2=>exact HC0_1.out);(case side3=>exact uC (Kd.C_below HR0_2.out HB.out));(case side4=>exact HC0_2.out);(case side5=>exact uC (Kd.C_below HR1.out HB.out));(case side6=>exact HC1.out);rintro e w34 ⟨rfl,hb⟩;replace BK326:=aM (blk_below (uK BK326.out) hb);replace HB:=aM (below_step uB hb);(try clear hb);(try clear hb2);(try clear hk);(try clear hi)))
       go_meet
       case rel=>exact⟨_,(!t331),u0,H',⟨u1⟩,⟨uK BK326.out⟩,⟨uB⟩⟩
     ·replace c14:=Bool.eq_false_iff.mpr c14;subst c14;have H1:(drought_Swaps.j0 k l1 a2 a3 true a0_0 l0_1 l0_2)=some (r1,r2,r3):=by rw[if_neg (show ¬(false=true) by decide)] at H;exact H
      clear H;have H:=H1;clear H1;have H':=aM H;clear H;obtain⟨hcz35_0,hcz35_1,hcz35_2⟩:=cz3 BK326.out;obtain⟨hfz35_0,hfz35_1,hfz35_2⟩:=fz3 BK326.out
      go_wp2_with (first|((with_reducible refine gate_callee (f:=59) rfl ?_);refine goesL_ (some 16) rfl rfl Tryz.func59 (by kernel_rfl) rfl #[.agg #[.int .i64 a0_0,.slice A0_1 l0_1.length c0_1,.slice A0_2 l0_2.length c0_2]] rfl uM ?_;(with_reducible refine(drought_isTree.calls a0_0 _ _ l0_1 _ _ l0_2 true _ ?side1 ?side2 ?side3 ?side4 A7.out).mono ?_);(case side1=>exact uC (Kd.C_below HR0_1.out HB.out));(case side2=>exact HC0_1.out);(case side3=>exact uC (Kd.C_below HR0_2.out HB.out));(case side4=>exact HC0_2.out);rintro e w36 ⟨rfl,hb⟩;refine⟨_,rfl,?_⟩;replace BK326:=aM (blk_below (uK BK326.out) hb);replace HB:=aM (below_step uB hb);(try clear hb);(try clear hb2);(try clear hk);(try clear hi);obtain⟨hcz37_0,hcz37_1,hcz37_2⟩:=cz3 BK326.out;obtain⟨hfz37_0,hfz37_1,hfz37_2⟩:=fz3 BK326.out)|(go_at_call 63;(with_reducible refine(drought_isPlan.calls a0_0 _ _ l0_1 _ _ l0_2 _ _ l1 true _ ?side1 ?side2 ?side3 ?side4 ?side5 ?side6 A9.out).mono ?_);(case side1=>exact uC (Kd.C_below HR0_1.out HB.out));(case side2=>exact HC0_1.out);(case side3=>exact uC (Kd.C_below HR0_2.out HB.out));(case side4=>exact HC0_2.out);(case side5=>exact uC (Kd.C_below HR1.out HB.out));(case side6=>exact HC1.out);rintro e w38 ⟨rfl,hb⟩;replace BK326:=aM (blk_below (uK BK326.out) hb);replace HB:=aM (below_step uB hb);(try clear hb);(try clear hb2);(try clear hk);(try clear hi);obtain⟨hcz39_0,hcz39_1,hcz39_2⟩:=cz3 BK326.out;obtain⟨hfz39_0,hfz39_1,hfz39_2⟩:=fz3 BK326.out)|(go_at_call 60;(with_reducible refine(drought_isOutlet.calls a0_0 _ _ l0_1 _ _ l0_2 a2 true _ ?side1 ?side2 ?side3 ?side4 A11.out).mono ?_);(case side1=>exact uC (Kd.C_below HR0_1.out HB.out));(case side2=>exact HC0_1.out);(case side3=>exact uC (Kd.C_below HR0_2.out HB.out));(case side4=>exact HC0_2.out);rintro e w40 ⟨rfl,hb⟩;replace BK326:=aM (blk_below (uK BK326.out) hb);replace HB:=aM (below_step uB hb);(try clear hb);(try clear hb2);(try clear hk);(try clear hi);obtain⟨hcz41_0,hcz41_1,hcz41_2⟩:=cz3 BK326.out;obtain⟨hfz41_0,hfz41_1,hfz41_2⟩:=fz3 BK326.out)|(go_at_call 60;(with_reducible refine(drought_isOutlet.calls a0_0 _ _ l0_1 _ _ l0_2 a3 false _ ?side1 ?side2 ?side3 ?side4 A13.out).mono ?_);(case side1=>exact uC (Kd.C_below HR0_1.out HB.out));(case side2=>exact HC0_1.out);(case side3=>exact uC (Kd.C_below HR0_2.out HB.out));(case side4=>exact HC0_2.out);rintro e w42 ⟨rfl,hb⟩;replace BK326:=aM (blk_below (uK BK326.out) hb);replace HB:=aM (below_step uB hb);(try clear hb);(try clear hb2);(try clear hk);(try clear hi)))
      go_meet
      case rel=>exact⟨_,(true),u0,H',⟨u1⟩,⟨uK BK326.out⟩,⟨uB⟩⟩
    ·replace c12:=Bool.eq_false_iff.mpr c12;subst c12;have H1:(drought_Swaps.j0 k l1 a2 a3 true a0_0 l0_1 l0_2)=some (r1,r2,r3):=by rw[if_neg (show ¬(false=true) by decide)] at H;exact H
     clear H;have H:=H1;clear H1;have H':=aM H;clear H;obtain⟨hcz43_0,hcz43_1,hcz43_2⟩:=cz3 BK326.out;obtain⟨hfz43_0,hfz43_1,hfz43_2⟩:=fz3 BK326.out
     go_wp2_with (first|((with_reducible refine gate_callee (f:=59) rfl ?_);refine goesL_ (some 16) rfl rfl Tryz.func59 (by kernel_rfl) rfl #[.agg #[.int .i64 a0_0,.slice A0_1 l0_1.length c0_1,.slice A0_2 l0_2.length c0_2]] rfl uM ?_;(with_reducible refine(drought_isTree.calls a0_0 _ _ l0_1 _ _ l0_2 true _ ?side1 ?side2 ?side3 ?side4 A7.out).mono ?_);(case side1=>exact uC (Kd.C_below HR0_1.out HB.out));(case side2=>exact HC0_1.out);(case side3=>exact uC (Kd.C_below HR0_2.out HB.out));(case side4=>exact HC0_2.out);rintro e w44 ⟨rfl,hb⟩;refine⟨_,rfl,?_⟩;replace BK326:=aM (blk_below (uK BK326.out) hb);replace HB:=aM (below_step uB hb);(try clear hb);(try clear hb2);(try clear hk);(try clear hi);obtain⟨hcz45_0,hcz45_1,hcz45_2⟩:=cz3 BK326.out;obtain⟨hfz45_0,hfz45_1,hfz45_2⟩:=fz3 BK326.out)|(go_at_call 63;(with_reducible refine(drought_isPlan.calls a0_0 _ _ l0_1 _ _ l0_2 _ _ l1 true _ ?side1 ?side2 ?side3 ?side4 ?side5 ?side6 A9.out).mono ?_);(case side1=>exact uC (Kd.C_below HR0_1.out HB.out));(case side2=>exact HC0_1.out);(case side3=>exact uC (Kd.C_below HR0_2.out HB.out));(case side4=>exact HC0_2.out);(case side5=>exact uC (Kd.C_below HR1.out HB.out));(case side6=>exact HC1.out);rintro e w46 ⟨rfl,hb⟩;replace BK326:=aM (blk_below (uK BK326.out) hb);replace HB:=aM (below_step uB hb);(try clear hb);(try clear hb2);(try clear hk);(try clear hi);obtain⟨hcz47_0,hcz47_1,hcz47_2⟩:=cz3 BK326.out;obtain⟨hfz47_0,hfz47_1,hfz47_2⟩:=fz3 BK326.out)|(go_at_call 60;(with_reducible refine(drought_isOutlet.calls a0_0 _ _ l0_1 _ _ l0_2 a2 false _ ?side1 ?side2 ?side3 ?side4 A11.out).mono ?_);(case side1=>exact uC (Kd.C_below HR0_1.out HB.out));(case side2=>exact HC0_1.out);(case side3=>exact uC (Kd.C_below HR0_2.out HB.out));(case side4=>exact HC0_2.out);rintro e w48 ⟨rfl,hb⟩;replace BK326:=aM (blk_below (uK BK326.out) hb);replace HB:=aM (below_step uB hb);(try clear hb);(try clear hb2);(try clear hk);(try clear hi)))
     go_meet
     case rel=>exact⟨_,(true),u0,H',⟨u1⟩,⟨uK BK326.out⟩,⟨uB⟩⟩
   ·replace c10:=Bool.eq_false_iff.mpr c10;subst c10;have H1:(drought_Swaps.j0 k l1 a2 a3 true a0_0 l0_1 l0_2)=some (r1,r2,r3):=by rw[if_neg (show ¬(false=true) by decide)] at H;exact H
    clear H;have H:=H1;clear H1;have H':=aM H;clear H;obtain⟨hcz49_0,hcz49_1,hcz49_2⟩:=cz3 BK326.out;obtain⟨hfz49_0,hfz49_1,hfz49_2⟩:=fz3 BK326.out
    go_wp2_with (first|((with_reducible refine gate_callee (f:=59) rfl ?_);refine goesL_ (some 16) rfl rfl Tryz.func59 (by kernel_rfl) rfl #[.agg #[.int .i64 a0_0,.slice A0_1 l0_1.length c0_1,.slice A0_2 l0_2.length c0_2]] rfl uM ?_;(with_reducible refine(drought_isTree.calls a0_0 _ _ l0_1 _ _ l0_2 true _ ?side1 ?side2 ?side3 ?side4 A7.out).mono ?_);(case side1=>exact uC (Kd.C_below HR0_1.out HB.out));(case side2=>exact HC0_1.out);(case side3=>exact uC (Kd.C_below HR0_2.out HB.out));(case side4=>exact HC0_2.out);rintro e w50 ⟨rfl,hb⟩;refine⟨_,rfl,?_⟩;replace BK326:=aM (blk_below (uK BK326.out) hb);replace HB:=aM (below_step uB hb);(try clear hb);(try clear hb2);(try clear hk);(try clear hi);obtain⟨hcz51_0,hcz51_1,hcz51_2⟩:=cz3 BK326.out;obtain⟨hfz51_0,hfz51_1,hfz51_2⟩:=fz3 BK326.out)|(go_at_call 63;(with_reducible refine(drought_isPlan.calls a0_0 _ _ l0_1 _ _ l0_2 _ _ l1 false _ ?side1 ?side2 ?side3 ?side4 ?side5 ?side6 A9.out).mono ?_);(case side1=>exact uC (Kd.C_below HR0_1.out HB.out));(case side2=>exact HC0_1.out);(case side3=>exact uC (Kd.C_below HR0_2.out HB.out));(case side4=>exact HC0_2.out);(case side5=>exact uC (Kd.C_below HR1.out HB.out));(case side6=>exact HC1.out);rintro e w52 ⟨rfl,hb⟩;replace BK326:=aM (blk_below (uK BK326.out) hb);replace HB:=aM (below_step uB hb);(try clear hb);(try clear hb2);(try clear hk);(try clear hi)))
    go_meet
    case rel=>exact⟨_,(true),u0,H',⟨u1⟩,⟨uK BK326.out⟩,⟨uB⟩⟩
  ·replace c8:=Bool.eq_false_iff.mpr c8;subst c8;have H1:(drought_Swaps.j0 k l1 a2 a3 true a0_0 l0_1 l0_2)=some (r1,r2,r3):=by rw[if_neg (show ¬(false=true) by decide)] at H;exact H
   clear H;have H:=H1;clear H1;have H':=aM H;clear H;obtain⟨hcz53_0,hcz53_1,hcz53_2⟩:=cz3 BK326.out;obtain⟨hfz53_0,hfz53_1,hfz53_2⟩:=fz3 BK326.out
   go_wp2_with (first|((with_reducible refine gate_callee (f:=59) rfl ?_);refine goesL_ (some 16) rfl rfl Tryz.func59 (by kernel_rfl) rfl #[.agg #[.int .i64 a0_0,.slice A0_1 l0_1.length c0_1,.slice A0_2 l0_2.length c0_2]] rfl uM ?_;(with_reducible refine(drought_isTree.calls a0_0 _ _ l0_1 _ _ l0_2 false _ ?side1 ?side2 ?side3 ?side4 A7.out).mono ?_);(case side1=>exact uC (Kd.C_below HR0_1.out HB.out));(case side2=>exact HC0_1.out);(case side3=>exact uC (Kd.C_below HR0_2.out HB.out));(case side4=>exact HC0_2.out);rintro e w54 ⟨rfl,hb⟩;refine⟨_,rfl,?_⟩;replace BK326:=aM (blk_below (uK BK326.out) hb);replace HB:=aM (below_step uB hb);(try clear hb);(try clear hb2);(try clear hk);(try clear hi)))
   go_meet
   case rel=>exact⟨_,(true),u0,H',⟨u1⟩,⟨uK BK326.out⟩,⟨uB⟩⟩
 case rest=>
  clear HC5;try clear c1;try clear c2;try clear p2;try clear c5;try clear c8;try clear c10;try clear c12;try clear c14;try clear c15;try clear c15b0;try clear c15b1;try clear c26;try clear hcz16_0;try clear hcz16_1;try clear hcz16_2;try clear hcz18_0;try clear hcz18_1;try clear hcz18_2;try clear hcz20_0;try clear hcz20_1;try clear hcz20_2;try clear hcz22_0;try clear hcz22_1;try clear hcz22_2;try clear hcz25_0;try clear hcz25_1;try clear hcz25_2;try clear hcz27_0;try clear hcz27_1;try clear hcz27_2;try clear hcz29_0;try clear hcz29_1;try clear hcz29_2;try clear hcz31_0;try clear hcz31_1;try clear hcz31_2;try clear hcz33_0;try clear hcz33_1;try clear hcz33_2;try clear hcz35_0;try clear hcz35_1;try clear hcz35_2;try clear hcz37_0;try clear hcz37_1;try clear hcz37_2;try clear hcz39_0;try clear hcz39_1;try clear hcz39_2;try clear hcz41_0;try clear hcz41_1;try clear hcz41_2;try clear hcz43_0;try clear hcz43_1;try clear hcz43_2;try clear hcz45_0;try clear hcz45_1;try clear hcz45_2;try clear hcz47_0;try clear hcz47_1;try clear hcz47_2;try clear hcz49_0;try clear hcz49_1;try clear hcz49_2;try clear hcz51_0;try clear hcz51_1;try clear hcz51_2;try clear hcz53_0;try clear hcz53_1;try clear hcz53_2;try clear hfz16_0;try clear hfz16_1;try clear hfz16_2;try clear hfz18_0;try clear hfz18_1;try clear hfz18_2;try clear hfz20_0;try clear hfz20_1;try clear hfz20_2;try clear hfz22_0;try clear hfz22_1;try clear hfz22_2;try clear hfz25_0;try clear hfz25_1;try clear hfz25_2;try clear hfz27_0;try clear hfz27_1;try clear hfz27_2;try clear hfz29_0;try clear hfz29_1;try clear hfz29_2;try clear hfz31_0;try clear hfz31_1;try clear hfz31_2;try clear hfz33_0;try clear hfz33_1;try clear hfz33_2;try clear hfz35_0;try clear hfz35_1;try clear hfz35_2;try clear hfz37_0;try clear hfz37_1;try clear hfz37_2;try clear hfz39_0;try clear hfz39_1;try clear hfz39_2;try clear hfz41_0;try clear hfz41_1;try clear hfz41_2;try clear hfz43_0;try clear hfz43_1;try clear hfz43_2;try clear hfz45_0;try clear hfz45_1;try clear hfz45_2;try clear hfz47_0;try clear hfz47_1;try clear hfz47_2;try clear hfz49_0;try clear hfz49_1;try clear hfz49_2;try clear hfz51_0;try clear hfz51_1;try clear hfz51_2;try clear hfz53_0;try clear hfz53_1;try clear hfz53_2
  obtain⟨kq,x46_4,rfl,HA,HJ4,BK326,HB⟩:=hcut
  cases kq with
  |zero=>exact absurd HA.out (by simp[drought_Swaps.j0])
  |succ kj4=>
   have H:=HA.out;clear HA;simp only[drought_Swaps.j0] at H
   by_cases c55:x46_4=true
   ·subst c55;have H1:(some (0,0,2))=some (r1,r2,r3):=by rw[if_pos rfl] at H;exact H
    clear H;have H:=H1;clear H1;simp only[Option.some.injEq,Prod.mk.injEq] at H;obtain⟨rfl,rfl,rfl⟩:=H;go_wp2
    go_ret3
    exact⟨uE,uB⟩
   ·replace c55:=Bool.eq_false_iff.mpr c55;subst c55;have H1:(drought_Swaps.l0 kj4 l1 a2 a3 l1 (l1.length:Int) 0 a0_0 l0_1 l0_2)=some (r1,r2,r3):=by rw[if_neg (show ¬(false=true) by decide)] at H;exact H
    clear H;have H:=H1;clear H1;have H':=aM H;clear H;go_wp2
    go_loopg [49] kj4 (fun kq v49 w'=>∃(x49_2:Int),v49=.int .i64 x49_2∧Aside0 (drought_Swaps.l0 kq l1 a2 a3 l1 (l1.length:Int) x49_2 a0_0 l0_1 l0_2=some (r1,r2,r3))∧Aside0 (kq≤kj4)∧Aside0 (w'.heap[gb326]? =some (.cells #[.int .i64 a0_0,(.slice A0_1 l0_1.length c0_1),(.slice A0_2 l0_2.length c0_2)] 25 (0,0)))∧Aside0 (Below w.heap.size w w'))
    case atStart=>exact⟨(0),u0,H',⟨Nat.le_refl _⟩,⟨uK BK326.out⟩,⟨uB⟩⟩
    case round=>
     clear H';obtain⟨x49_2,rfl,HA,HK2,BK326,HB⟩:=hrel
     cases gk with
     |zero=>exact absurd HA.out (by simp[drought_Swaps.l0])
     |succ k2=>
      have H:=HA.out;clear HA;simp only[drought_Swaps.l0] at H
      by_cases c56:x49_2<(l1.length:Int)
      ·rw[if_pos c56] at H;replace c56:=decide_eq_true c56;obtain⟨c57,H⟩:=ifs H;replace c57:=decide_eq_true c57;obtain⟨c58,H⟩:=ifs H;replace c58:=decide_eq_true c58;have H':=aM H;clear H;have p332:0≤(x49_2:Int):=uD;have q332:x49_2<(l1.length:Int):=uD;obtain⟨ad332,A332_0,c332_0,e332,hx332_0,hl332_0,hi332_0⟩:=at_L5 HR1.out x49_2 p332 q332
       cases e332
       replace hx332_0:=hcell HB.out hx332_0;have HR332_0:=aM hi332_0;have HC332_0:=aM hl332_0;clear hi332_0 hl332_0;replace p332:=eq_true p332;replace q332:=eq_true q332;go_wp2
       go_loopg [56] k2 (fun kq v56 w'=>∃(x56_3:Int),v56=.int .i64 x56_3∧Aside0 (drought_Swaps.l1 kq l1 a2 a3 x49_2 (rd_L5 l1 x49_2) l1 (l1.length:Int) x49_2 l1 (l1.length:Int) x56_3 a0_0 l0_1 l0_2=some (r1,r2,r3))∧Aside0 (kq≤k2)∧Aside0 (w'.heap[gb326]? =some (.cells #[.int .i64 a0_0,(.slice A0_1 l0_1.length c0_1),(.slice A0_2 l0_2.length c0_2)] 25 (0,0)))∧Aside0 (Below w.heap.size w w'))
       case atStart=>exact⟨(0),u0,H',⟨Nat.le_refl _⟩,⟨uK BK326.out⟩,⟨uB⟩⟩
       case round=>
        clear H';obtain⟨x56_3,rfl,HA,HK3,BK326,HB⟩:=hrel
        cases gk with
        |zero=>exact absurd HA.out (by simp[drought_Swaps.l1])
        |succ k3=>
         have H:=HA.out;clear HA;simp only[drought_Swaps.l1] at H
         by_cases c59:x56_3<(l1.length:Int)
         ·rw[if_pos c59] at H;replace c59:=decide_eq_true c59;obtain⟨c60,H⟩:=ifs H;replace c60:=decide_eq_true c60;obtain⟨c61,H⟩:=ifs H;replace c61:=decide_eq_true c61
          by_cases c62:x49_2=x56_3
          ·rw[if_pos c62] at H;have c62b0:(x49_2==x56_3)=true:=beq_iff_eq.mpr c62;have c62b1:(x49_2 !=x56_3)=false:=bne_eq_false_iff_eq.mpr c62;clear c62;have H':=aM H;clear H;have p333:0≤(x56_3:Int):=uD;have q333:x56_3<(l1.length:Int):=uD;obtain⟨ad333,A333_0,c333_0,e333,hx333_0,hl333_0,hi333_0⟩:=at_L5 HR1.out x56_3 p333 q333;obtain rfl:ad332=ad333:=(by injection e333);replace hx333_0:=hcell HB.out hx333_0;have HR333_0:=aM hi333_0;have HC333_0:=aM hl333_0;clear hi333_0 hl333_0;replace p333:=eq_true p333;replace q333:=eq_true q333;go_wp2
           go_roundg k3
           case measure=>have:=HJ4.out;have:=HK2.out;have:=HK3.out;omega
           case rel=>exact⟨(wrap64 (x56_3+1)),u0,H',⟨by have:=HJ4.out;have:=HK2.out;have:=HK3.out;omega⟩,⟨uK BK326.out⟩,⟨uB⟩⟩
          ·rw[if_neg c62] at H;have c62b0:(x49_2==x56_3)=false:=beq_eq_false_iff_ne.mpr c62;have c62b1:(x49_2 !=x56_3)=true:=bne_iff_ne.mpr c62;replace H:=Option.bind_eq_some_iff.mp H;obtain⟨t334,A630,H⟩:=H;replace H:(if t334=true then(some (x49_2,x56_3,0)) else(drought_Swaps.l1 k3 l1 a2 a3 x49_2 (rd_L5 l1 x49_2) l1 (l1.length:Int) x49_2 l1 (l1.length:Int) (wrap64 (x56_3+1)) a0_0 l0_1 l0_2))=some (r1,r2,r3):=H;have A63:=aM A630;clear A630
           by_cases c64:t334=true
           ·subst c64;have H1:(some (x49_2,x56_3,0))=some (r1,r2,r3):=by rw[if_pos rfl] at H;exact H
            clear H;have H:=H1;clear H1;simp only[Option.some.injEq,Prod.mk.injEq] at H;obtain⟨rfl,rfl,rfl⟩:=H;have p333:0≤(x56_3:Int):=uD;have q333:x56_3<(l1.length:Int):=uD;obtain⟨ad333,A333_0,c333_0,e333,hx333_0,hl333_0,hi333_0⟩:=at_L5 HR1.out x56_3 p333 q333;obtain rfl:ad332=ad333:=(by injection e333);replace hx333_0:=hcell HB.out hx333_0;have HR333_0:=aM hi333_0;have HC333_0:=aM hl333_0;clear hi333_0 hl333_0;replace p333:=eq_true p333;replace q333:=eq_true q333;obtain⟨hcz65_0,hcz65_1,hcz65_2⟩:=cz3 BK326.out;obtain⟨hfz65_0,hfz65_1,hfz65_2⟩:=fz3 BK326.out
            go_wp2_with (first|(go_at_call 65;(with_reducible refine(drought_swaps.calls a0_0 _ _ l0_1 _ _ l0_2 _ _ (rd_L5 l1 x49_2) _ _ (rd_L5 l1 x56_3) a2 a3 true _ ?side1 ?side2 ?side3 ?side4 ?side5 ?side6 ?side7 ?side8 A63.out).mono ?_);(case side1=>exact uC (Kd.C_below HR0_1.out HB.out));(case side2=>exact HC0_1.out);(case side3=>exact uC (Kd.C_below HR0_2.out HB.out));(case side4=>exact HC0_2.out);(case side5=>exact uC (Kd.C_below HR332_0.out HB.out));(case side6=>exact HC332_0.out);(case side7=>exact uC (Kd.C_below HR333_0.out HB.out));(case side8=>exact HC333_0.out);rintro e w66 ⟨rfl,hb⟩;replace BK326:=aM (blk_below (uK BK326.out) hb);replace HB:=aM (below_step uB hb);(try clear hb);(try clear hb2);(try clear hk);(try clear hi)))
            go_ret3
            exact⟨uE,uB⟩
           ·replace c64:=Bool.eq_false_iff.mpr c64;subst c64;have H1:(drought_Swaps.l1 k3 l1 a2 a3 x49_2 (rd_L5 l1 x49_2) l1 (l1.length:Int) x49_2 l1 (l1.length:Int) (wrap64 (x56_3+1)) a0_0 l0_1 l0_2)=some (r1,r2,r3):=by rw[if_neg (show ¬(false=true) by decide)] at H;exact H
            clear H;have H:=H1;clear H1;have H':=aM H;clear H;have p333:0≤(x56_3:Int):=uD;have q333:x56_3<(l1.length:Int):=uD;obtain⟨ad333,A333_0,c333_0,e333,hx333_0,hl333_0,hi333_0⟩:=at_L5 HR1.out x56_3 p333 q333;obtain rfl:ad332=ad333:=(by injection e333);replace hx333_0:=hcell HB.out hx333_0;have HR333_0:=aM hi333_0;have HC333_0:=aM hl333_0;clear hi333_0 hl333_0;replace p333:=eq_true p333;replace q333:=eq_true q333;obtain⟨hcz67_0,hcz67_1,hcz67_2⟩:=cz3 BK326.out;obtain⟨hfz67_0,hfz67_1,hfz67_2⟩:=fz3 BK326.out
            go_wp2_with (first|(go_at_call 65;(with_reducible refine(drought_swaps.calls a0_0 _ _ l0_1 _ _ l0_2 _ _ (rd_L5 l1 x49_2) _ _ (rd_L5 l1 x56_3) a2 a3 false _ ?side1 ?side2 ?side3 ?side4 ?side5 ?side6 ?side7 ?side8 A63.out).mono ?_);(case side1=>exact uC (Kd.C_below HR0_1.out HB.out));(case side2=>exact HC0_1.out);(case side3=>exact uC (Kd.C_below HR0_2.out HB.out));(case side4=>exact HC0_2.out);(case side5=>exact uC (Kd.C_below HR332_0.out HB.out));(case side6=>exact HC332_0.out);(case side7=>exact uC (Kd.C_below HR333_0.out HB.out));(case side8=>exact HC333_0.out);rintro e w68 ⟨rfl,hb⟩;replace BK326:=aM (blk_below (uK BK326.out) hb);replace HB:=aM (below_step uB hb);(try clear hb);(try clear hb2);(try clear hk);(try clear hi)))
            go_roundg k3
            case measure=>have:=HJ4.out;have:=HK2.out;have:=HK3.out;omega
            case rel=>exact⟨(wrap64 (x56_3+1)),u0,H',⟨by have:=HJ4.out;have:=HK2.out;have:=HK3.out;omega⟩,⟨uK BK326.out⟩,⟨uB⟩⟩
         ·rw[if_neg c59] at H;replace c59:=decide_eq_false c59;have H':=aM H;clear H;go_wp2
          go_roundg k3
          case measure=>have:=HJ4.out;have:=HK2.out;have:=HK3.out;omega
          case rel=>exact⟨(wrap64 (x49_2+1)),u0,H',⟨by have:=HJ4.out;have:=HK2.out;have:=HK3.out;omega⟩,⟨uK BK326.out⟩,⟨uB⟩⟩
      ·rw[if_neg c56] at H;replace c56:=decide_eq_false c56;simp only[Option.some.injEq,Prod.mk.injEq] at H;obtain⟨rfl,rfl,rfl⟩:=H;go_wp2
       go_ret3
       exact⟨uE,uB⟩
def quinariaref01_Same.l0:Nat→List Int→List Int→Int→Option (Bool)
 |0,_,_,_=>none
 |k+1,x0,x1,x5=>if x5<(x0.length:Int) then(if 0≤x5 then(if x5<(x1.length:Int) then(if (rd x0 x5)=(rd x1 x5) then(quinariaref01_Same.l0 k x0 x1 (wrap64 (x5+1))) else(some false)) else(none)) else(none)) else(some true)
def quinariaref01_Same.f (k:Nat) (l0:List Int) (l1:List Int):Option (Bool):=if(l0.length:Int)=(l1.length:Int) then(quinariaref01_Same.l0 k l0 l1 0) else(some false)
set_option maxHeartbeats 8000000 in
set_option maxRecDepth 100000 in
theorem quinariaref01_Same.calls (k:Nat) (A0:Option Addr) (c0:Nat) (l0:List Int) (A1:Option Addr) (c1:Nat) (l1:List Int) (r:Bool) (w:World) (hr0:Kd.C (Kd.int .i64) w A0 l0.length l0) (hc0:l0.length≤c0) (hr1:Kd.C (Kd.int .i64) w A1 l1.length l1) (hc1:l1.length≤c1) (h:quinariaref01_Same.f k l0 l1=some r):
  Calls Tryz.prog 57 #[.slice A0 l0.length c0,.slice A1 l1.length c1] w fun e w'=>e=.returned (.bool r)∧Drawn0 w w':=by
 have HR0:=aM hr0;have HC0:=aM hc0;clear hr0 hc0;have HR1:=aM hr1;have HC1:=aM hc1;clear hr1 hc1;have H:(if (l0.length:Int)=(l1.length:Int) then(quinariaref01_Same.l0 k l0 l1 0) else(some false))=some r:=h;clear h
 by_cases c3:(l0.length:Int)=(l1.length:Int)
 ·rw[if_pos c3] at H;have c3b0:((l0.length:Int)==(l1.length:Int))=true:=beq_iff_eq.mpr c3;have c3b1:((l0.length:Int) !=(l1.length:Int))=false:=bne_eq_false_iff_eq.mpr c3;have c3b2:(l0.length==l1.length)=true:=by first|simpa using c3|(simp at c3⊢;omega)
  clear c3;have H':=aM H;clear H
  go_enter Tryz.func57,Tryz.ntmps57
  go_wp2;repeat(go_quiet (fail);try go_wp2)
  go_loopg [5] k (fun kq v5 w'=>∃(x5_1:Int),v5=.int .i64 x5_1∧Aside0 (quinariaref01_Same.l0 kq l0 l1 x5_1=some r)∧Aside0 (kq≤k)∧Drawn0 w w')
  case atStart=>exact⟨(0),u0,H',⟨Nat.le_refl _⟩,by repeat(first|exact Drawn0.refl _|apply Drawn0.step)⟩
  case round=>
   clear H';try clear c1;try clear p2;try clear c3;try clear c3b0;try clear c3b1;try clear c3b2
   obtain⟨x5_1,rfl,HA,HK1,⟨m1,rfl⟩⟩:=hrel
   cases gk with
   |zero=>exact absurd HA.out (by simp[quinariaref01_Same.l0])
   |succ k1=>
    have H:=HA.out;clear HA;simp only[quinariaref01_Same.l0] at H
    by_cases c4:x5_1<(l0.length:Int)
    ·rw[if_pos c4] at H;replace c4:=decide_eq_true c4;obtain⟨c5,H⟩:=ifs H;replace c5:=decide_eq_true c5;obtain⟨c6,H⟩:=ifs H;replace c6:=decide_eq_true c6
     by_cases c7:(rd l0 x5_1)=(rd l1 x5_1)
     ·rw[if_pos c7] at H;have c7b0:((rd l0 x5_1)==(rd l1 x5_1))=true:=beq_iff_eq.mpr c7;have c7b1:((rd l0 x5_1) !=(rd l1 x5_1))=false:=bne_eq_false_iff_eq.mpr c7;clear c7;have H':=aM H;clear H;have p335:0≤(x5_1:Int):=uD;have q335:x5_1<(l0.length:Int):=uD;obtain⟨ad335,e335,hx335_0⟩:=Kd.at_int HR0.out x5_1 p335 q335
      cases e335
      replace p335:=eq_true p335;replace q335:=eq_true q335;have p336:0≤(x5_1:Int):=uD;have q336:x5_1<(l1.length:Int):=uD;obtain⟨ad336,e336,hx336_0⟩:=Kd.at_int HR1.out x5_1 p336 q336
      cases e336
      replace p336:=eq_true p336;replace q336:=eq_true q336;go_wp2;repeat(go_quiet (fail);try go_wp2)
      go_roundg k1
      case measure=>have:=HK1.out;omega
      case rel=>exact⟨(wrap64 (x5_1+1)),u0,H',⟨by have:=HK1.out;omega⟩,by repeat(first|exact Drawn0.refl _|apply Drawn0.step)⟩
     ·rw[if_neg c7] at H;have c7b0:((rd l0 x5_1)==(rd l1 x5_1))=false:=beq_eq_false_iff_ne.mpr c7;have c7b1:((rd l0 x5_1) !=(rd l1 x5_1))=true:=bne_iff_ne.mpr c7;obtain rfl:=Option.some.inj H;have p335:0≤(x5_1:Int):=uD;have q335:x5_1<(l0.length:Int):=uD;obtain⟨ad335,e335,hx335_0⟩:=Kd.at_int HR0.out x5_1 p335 q335
      cases e335
      replace p335:=eq_true p335;replace q335:=eq_true q335;have p336:0≤(x5_1:Int):=uD;have q336:x5_1<(l1.length:Int):=uD;obtain⟨ad336,e336,hx336_0⟩:=Kd.at_int HR1.out x5_1 p336 q336
      cases e336
      replace p336:=eq_true p336;replace q336:=eq_true q336;go_wp2;(repeat (go_quiet (fail);try go_wp2));go_ret;exact⟨u0,by repeat(first|exact Drawn0.refl _|apply Drawn0.step)⟩
    ·rw[if_neg c4] at H;replace c4:=decide_eq_false c4;obtain rfl:=Option.some.inj H;go_wp2;(repeat (go_quiet (fail);try go_wp2));go_ret;exact⟨u0,by repeat(first|exact Drawn0.refl _|apply Drawn0.step)⟩
 ·rw[if_neg c3] at H;have c3b0:((l0.length:Int)==(l1.length:Int))=false:=beq_eq_false_iff_ne.mpr c3;have c3b1:((l0.length:Int) !=(l1.length:Int))=true:=bne_iff_ne.mpr c3;have c3b2:(l0.length==l1.length)=false:=by first|simpa using c3|(simp at c3⊢;omega)
  obtain rfl:=Option.some.inj H
  go_enter Tryz.func57,Tryz.ntmps57
  go_wp2;(repeat (go_quiet (fail);try go_wp2));go_ret;exact⟨u0,by repeat(first|exact Drawn0.refl _|apply Drawn0.step)⟩
theorem eqA91 (d:Nat) (w:World) (x0 y0:Int) (x1 y1:Int):
  (Op.equalIn (d+2) 91 (.agg #[.int .i64 x0,.int .i64 x1]) (.agg #[.int .i64 y0,.int .i64 y1])).run Tryz.prog w=.ok (x0==y0&&(x1==y1)) w:=by
 refine eqA_of Tryz.underlying91 (by kernel_rfl) ?_;refine eqf_cons (by rfl) (by go_simp;rfl) (by go_simp;rfl) (by go_simp) ?_;exact eqf_last (by rfl) (by go_simp;rfl) (by go_simp;rfl) (by go_simp)
end Go.Proofs.YtjioobfeikbffabGreatDoor.K
end
section
namespace Go.Proofs.YtjioobfeikbffabGreatDoor.K
open Go.RowKit Go.Proofs.YtjioobfeikbffabGreatDoorW.PrintWords Go.Proofs.YtjioobfeikbffabGreatDoorW.PrintLast Go.Proofs.YtjioobfeikbffabGreatDoorW.PrintMore
attribute [local go_sem] max2_int min2_int max_two min_two max_three min_three max_four min_four
attribute [local go_sem high] eqA91
def quinariaref07_SameSpans.l0:Nat→List (S91)→List (S91)→Int→Option (Bool)
 |0,_,_,_=>none
 |k+1,x0,x1,x5=>if x5<(x0.length:Int) then(if 0≤x5 then(if x5<(x1.length:Int) then(if (!(((rd_T91 x0 x5).f0)==((rd_T91 x1 x5).f0))||(!(((rd_T91 x0 x5).f1)==((rd_T91 x1 x5).f1))))=true then(some false) else(quinariaref07_SameSpans.l0 k x0 x1 (wrap64 (x5+1)))) else(none)) else(none)) else(some true)
def quinariaref07_SameSpans.f (k:Nat) (l0:List (S91)) (l1:List (S91)):Option (Bool):=if(l0.length:Int)=(l1.length:Int) then(quinariaref07_SameSpans.l0 k l0 l1 0) else(some false)
set_option maxHeartbeats 8000000 in
set_option maxRecDepth 100000 in
theorem quinariaref07_SameSpans.calls (k:Nat) (A0:Option Addr) (c0:Nat) (l0:List (S91)) (A1:Option Addr) (c1:Nat) (l1:List (S91)) (r:Bool) (w:World) (hr0:Kd.C k91 w A0 l0.length l0) (hc0:l0.length≤c0) (hr1:Kd.C k91 w A1 l1.length l1) (hc1:l1.length≤c1) (h:quinariaref07_SameSpans.f k l0 l1=some r):
  Calls Tryz.prog 58 #[.slice A0 l0.length c0,.slice A1 l1.length c1] w fun e w'=>e=.returned (.bool r)∧Drawn0 w w':=by
 have hu91:=Tryz.underlying91;have HR0:=aM hr0;have HC0:=aM hc0;clear hr0 hc0;have HR1:=aM hr1;have HC1:=aM hc1;clear hr1 hc1;have H:(if (l0.length:Int)=(l1.length:Int) then(quinariaref07_SameSpans.l0 k l0 l1 0) else(some false))=some r:=h;clear h
 by_cases c3:(l0.length:Int)=(l1.length:Int)
 ·rw[if_pos c3] at H;have c3b0:((l0.length:Int)==(l1.length:Int))=true:=beq_iff_eq.mpr c3;have c3b1:((l0.length:Int) !=(l1.length:Int))=false:=bne_eq_false_iff_eq.mpr c3;have c3b2:(l0.length==l1.length)=true:=by first|simpa using c3|(simp at c3⊢;omega)
  clear c3;have H':=aM H;clear H
  go_enter Tryz.func58,Tryz.ntmps58
  go_wp2;repeat(go_quiet (fail);try go_wp2)
  go_loopg [5] k (fun kq v5 w'=>∃(x5_1:Int),v5=.int .i64 x5_1∧Aside0 (quinariaref07_SameSpans.l0 kq l0 l1 x5_1=some r)∧Aside0 (kq≤k)∧Drawn0 w w')
  case atStart=>exact⟨(0),u0,H',⟨Nat.le_refl _⟩,by repeat(first|exact Drawn0.refl _|apply Drawn0.step)⟩
  case round=>
   clear H';try clear c1;try clear p2;try clear c3;try clear c3b0;try clear c3b1;try clear c3b2
   obtain⟨x5_1,rfl,HA,HK1,⟨m1,rfl⟩⟩:=hrel
   cases gk with
   |zero=>exact absurd HA.out (by simp[quinariaref07_SameSpans.l0])
   |succ k1=>
    have H:=HA.out;clear HA;simp only[quinariaref07_SameSpans.l0] at H
    by_cases c4:x5_1<(l0.length:Int)
    ·rw[if_pos c4] at H;replace c4:=decide_eq_true c4;obtain⟨c5,H⟩:=ifs H;replace c5:=decide_eq_true c5;obtain⟨c6,H⟩:=ifs H;replace c6:=decide_eq_true c6
     by_cases c7:(!(((rd_T91 l0 x5_1).f0)==((rd_T91 l1 x5_1).f0))||(!(((rd_T91 l0 x5_1).f1)==((rd_T91 l1 x5_1).f1))))=true
     ·rw[if_pos c7] at H;have c7b0:(!(((rd_T91 l0 x5_1).f0)==((rd_T91 l1 x5_1).f0))||(!(((rd_T91 l0 x5_1).f1)==((rd_T91 l1 x5_1).f1))))=true:=c7;clear c7;obtain rfl:=Option.some.inj H;have p457:0≤(x5_1:Int):=uD;have q457:x5_1<(l0.length:Int):=uD;obtain⟨ad457,e457,hx457_0,hx457_1⟩:=at_T91 HR0.out x5_1 p457 q457
      cases e457
      replace p457:=eq_true p457;replace q457:=eq_true q457;have p458:0≤(x5_1:Int):=uD;have q458:x5_1<(l1.length:Int):=uD;obtain⟨ad458,e458,hx458_0,hx458_1⟩:=at_T91 HR1.out x5_1 p458 q458
      cases e458
      replace p458:=eq_true p458;replace q458:=eq_true q458;go_wp2;(repeat (go_quiet (fail);try go_wp2));go_ret;exact⟨u0,by repeat(first|exact Drawn0.refl _|apply Drawn0.step)⟩
     ·rw[if_neg c7] at H;have c7b0:(!(((rd_T91 l0 x5_1).f0)==((rd_T91 l1 x5_1).f0))||(!(((rd_T91 l0 x5_1).f1)==((rd_T91 l1 x5_1).f1))))=false:=by simpa using c7
      clear c7;have H':=aM H;clear H;have p457:0≤(x5_1:Int):=uD;have q457:x5_1<(l0.length:Int):=uD;obtain⟨ad457,e457,hx457_0,hx457_1⟩:=at_T91 HR0.out x5_1 p457 q457
      cases e457
      replace p457:=eq_true p457;replace q457:=eq_true q457;have p458:0≤(x5_1:Int):=uD;have q458:x5_1<(l1.length:Int):=uD;obtain⟨ad458,e458,hx458_0,hx458_1⟩:=at_T91 HR1.out x5_1 p458 q458
      cases e458
      replace p458:=eq_true p458;replace q458:=eq_true q458;go_wp2;repeat(go_quiet (fail);try go_wp2)
      go_roundg k1
      case measure=>have:=HK1.out;omega
      case rel=>exact⟨(wrap64 (x5_1+1)),u0,H',⟨by have:=HK1.out;omega⟩,by repeat(first|exact Drawn0.refl _|apply Drawn0.step)⟩
    ·rw[if_neg c4] at H;replace c4:=decide_eq_false c4;obtain rfl:=Option.some.inj H;go_wp2;(repeat (go_quiet (fail);try go_wp2));go_ret;exact⟨u0,by repeat(first|exact Drawn0.refl _|apply Drawn0.step)⟩
 ·rw[if_neg c3] at H;have c3b0:((l0.length:Int)==(l1.length:Int))=false:=beq_eq_false_iff_ne.mpr c3;have c3b1:((l0.length:Int) !=(l1.length:Int))=true:=bne_iff_ne.mpr c3;have c3b2:(l0.length==l1.length)=false:=by first|simpa using c3|(simp at c3⊢;omega)
  obtain rfl:=Option.some.inj H
  go_enter Tryz.func58,Tryz.ntmps58
  go_wp2;(repeat (go_quiet (fail);try go_wp2));go_ret;exact⟨u0,by repeat(first|exact Drawn0.refl _|apply Drawn0.step)⟩
end Go.Proofs.YtjioobfeikbffabGreatDoor.K
end
section
namespace Go.Proofs.YtjioobfeikbffabGreatDoor.K
open Go.RowKit Go.Proofs.YtjioobfeikbffabGreatDoorW.PrintWords Go.Proofs.YtjioobfeikbffabGreatDoorW.PrintLast Go.Proofs.YtjioobfeikbffabGreatDoorW.PrintMore
attribute [local go_sem] max2_int min2_int max_two min_two max_three min_three max_four min_four
def quinariaref07_SamePlans.l0:Nat→List (List Int)→List (List Int)→Int→Option (Bool)
 |0,_,_,_=>none
 |k+1,x0,x1,x5=>if x5<(x0.length:Int) then(if 0≤x5 then(if x5<(x1.length:Int) then((quinariaref01_Same.f k (rd_L5 x0 x5) (rd_L5 x1 x5)).bind fun t339=>(if t339=true then(quinariaref07_SamePlans.l0 k x0 x1 (wrap64 (x5+1))) else(some false))) else(none)) else(none)) else(some true)
def quinariaref07_SamePlans.f (k:Nat) (l0:List (List Int)) (l1:List (List Int)):Option (Bool):=if(l0.length:Int)=(l1.length:Int) then(quinariaref07_SamePlans.l0 k l0 l1 0) else(some false)
set_option maxHeartbeats 8000000 in
set_option maxRecDepth 100000 in
theorem quinariaref07_SamePlans.calls (k:Nat) (A0:Option Addr) (c0:Nat) (l0:List (List Int)) (A1:Option Addr) (c1:Nat) (l1:List (List Int)) (r:Bool) (w:World) (hr0:Kd.C (Kd.slice 3 (Kd.int .i64)) w A0 l0.length l0) (hc0:l0.length≤c0) (hr1:Kd.C (Kd.slice 3 (Kd.int .i64)) w A1 l1.length l1) (hc1:l1.length≤c1) (h:quinariaref07_SamePlans.f k l0 l1=some r):
  Calls Tryz.prog 34 #[.slice A0 l0.length c0,.slice A1 l1.length c1] w fun e w'=>e=.returned (.bool r)∧Drawn0 w w':=by
 have HR0:=aM hr0;have HC0:=aM hc0;clear hr0 hc0;have HR1:=aM hr1;have HC1:=aM hc1;clear hr1 hc1;have H:(if (l0.length:Int)=(l1.length:Int) then(quinariaref07_SamePlans.l0 k l0 l1 0) else(some false))=some r:=h;clear h
 by_cases c3:(l0.length:Int)=(l1.length:Int)
 ·rw[if_pos c3] at H;have c3b0:((l0.length:Int)==(l1.length:Int))=true:=beq_iff_eq.mpr c3;have c3b1:((l0.length:Int) !=(l1.length:Int))=false:=bne_eq_false_iff_eq.mpr c3;have c3b2:(l0.length==l1.length)=true:=by first|simpa using c3|(simp at c3⊢;omega)
  clear c3;have H':=aM H;clear H
  go_enter Tryz.func34,Tryz.ntmps34
  go_wp2;repeat(go_quiet (fail);try go_wp2)
  go_loopg [5] k (fun kq v5 w'=>∃(x5_1:Int),v5=.int .i64 x5_1∧Aside0 (quinariaref07_SamePlans.l0 kq l0 l1 x5_1=some r)∧Aside0 (kq≤k)∧Drawn0 w w')
  case atStart=>exact⟨(0),u0,H',⟨Nat.le_refl _⟩,by repeat(first|exact Drawn0.refl _|apply Drawn0.step)⟩
  case round=>
   clear H';try clear c1;try clear p2;try clear c3;try clear c3b0;try clear c3b1;try clear c3b2
   obtain⟨x5_1,rfl,HA,HK1,⟨m1,rfl⟩⟩:=hrel
   cases gk with
   |zero=>exact absurd HA.out (by simp[quinariaref07_SamePlans.l0])
   |succ k1=>
    have H:=HA.out;clear HA;simp only[quinariaref07_SamePlans.l0] at H
    by_cases c4:x5_1<(l0.length:Int)
    ·rw[if_pos c4] at H;replace c4:=decide_eq_true c4;obtain⟨c5,H⟩:=ifs H;replace c5:=decide_eq_true c5;obtain⟨c6,H⟩:=ifs H;replace c6:=decide_eq_true c6;replace H:=Option.bind_eq_some_iff.mp H;obtain⟨t339,A70,H⟩:=H;replace H:(if t339=true then(quinariaref07_SamePlans.l0 k1 l0 l1 (wrap64 (x5_1+1))) else(some false))=some r:=H;have A7:=aM A70;clear A70
     by_cases c8:t339=true
     ·subst c8;have H1:(quinariaref07_SamePlans.l0 k1 l0 l1 (wrap64 (x5_1+1)))=some r:=by rw[if_pos rfl] at H;exact H
      clear H;have H:=H1;clear H1;have H':=aM H;clear H;have p337:0≤(x5_1:Int):=uD;have q337:x5_1<(l0.length:Int):=uD;obtain⟨ad337,A337_0,c337_0,e337,hx337_0,hl337_0,hi337_0⟩:=at_L5 HR0.out x5_1 p337 q337
      cases e337
      have HR337_0:=aM hi337_0;have HC337_0:=aM hl337_0;clear hi337_0 hl337_0;replace p337:=eq_true p337;replace q337:=eq_true q337;have p338:0≤(x5_1:Int):=uD;have q338:x5_1<(l1.length:Int):=uD;obtain⟨ad338,A338_0,c338_0,e338,hx338_0,hl338_0,hi338_0⟩:=at_L5 HR1.out x5_1 p338 q338
      cases e338
      have HR338_0:=aM hi338_0;have HC338_0:=aM hl338_0;clear hi338_0 hl338_0;replace p338:=eq_true p338;replace q338:=eq_true q338
      go_wp2_with (first|(go_at_call 57;(with_reducible refine(quinariaref01_Same.calls k1 _ _ (rd_L5 l0 x5_1) _ _ (rd_L5 l1 x5_1) true _ ?side1 ?side2 ?side3 ?side4 A7.out).mono ?_);(case side1=>repeat(first|exact HR337_0.out|(with_reducible refine Kd.C_alloc ?_ _)|(with_reducible refine Kd.C_drewN ?_ _)|(with_reducible refine Kd.C_drew ?_)));(case side2=>exact HC337_0.out);(case side3=>repeat(first|exact HR338_0.out|(with_reducible refine Kd.C_alloc ?_ _)|(with_reducible refine Kd.C_drewN ?_ _)|(with_reducible refine Kd.C_drew ?_)));(case side4=>exact HC338_0.out);rintro e w' ⟨rfl,⟨nd,rfl⟩⟩;(try first|exact⟨rfl,_,World.drewN_drewN _ _ _⟩|exact⟨rfl,_,Eq.trans (World.drewN_drewN _ _ _) (congrArg (World.drewN _) (Nat.add_assoc _ _ _))⟩)))
      repeat(go_quiet (first|(go_at_call 57;(with_reducible refine(quinariaref01_Same.calls k1 _ _ (rd_L5 l0 x5_1) _ _ (rd_L5 l1 x5_1) true _ ?side1 ?side2 ?side3 ?side4 A7.out).mono ?_);(case side1=>repeat(first|exact HR337_0.out|(with_reducible refine Kd.C_alloc ?_ _)|(with_reducible refine Kd.C_drewN ?_ _)|(with_reducible refine Kd.C_drew ?_)));(case side2=>exact HC337_0.out);(case side3=>repeat(first|exact HR338_0.out|(with_reducible refine Kd.C_alloc ?_ _)|(with_reducible refine Kd.C_drewN ?_ _)|(with_reducible refine Kd.C_drew ?_)));(case side4=>exact HC338_0.out);rintro e w' ⟨rfl,⟨nd,rfl⟩⟩;(try first|exact⟨rfl,_,World.drewN_drewN _ _ _⟩|exact⟨rfl,_,Eq.trans (World.drewN_drewN _ _ _) (congrArg (World.drewN _) (Nat.add_assoc _ _ _))⟩)));try go_wp2_with (first|(go_at_call 57;(with_reducible refine(quinariaref01_Same.calls k1 _ _ (rd_L5 l0 x5_1) _ _ (rd_L5 l1 x5_1) true _ ?side1 ?side2 ?side3 ?side4 A7.out).mono ?_);(case side1=>repeat(first|exact HR337_0.out|(with_reducible refine Kd.C_alloc ?_ _)|(with_reducible refine Kd.C_drewN ?_ _)|(with_reducible refine Kd.C_drew ?_)));(case side2=>exact HC337_0.out);(case side3=>repeat(first|exact HR338_0.out|(with_reducible refine Kd.C_alloc ?_ _)|(with_reducible refine Kd.C_drewN ?_ _)|(with_reducible refine Kd.C_drew ?_)));(case side4=>exact HC338_0.out);rintro e w' ⟨rfl,⟨nd,rfl⟩⟩;(try first|exact⟨rfl,_,World.drewN_drewN _ _ _⟩|exact⟨rfl,_,Eq.trans (World.drewN_drewN _ _ _) (congrArg (World.drewN _) (Nat.add_assoc _ _ _))⟩))))
      go_roundg k1
      case measure=>have:=HK1.out;omega
      case rel=>exact⟨(wrap64 (x5_1+1)),u0,H',⟨by have:=HK1.out;omega⟩,by repeat(first|exact Drawn0.refl _|apply Drawn0.step)⟩
     ·replace c8:=Bool.eq_false_iff.mpr c8;subst c8;have H1:(some false)=some r:=by rw[if_neg (show ¬(false=true) by decide)] at H;exact H
      clear H;have H:=H1;clear H1;obtain rfl:=Option.some.inj H;have p337:0≤(x5_1:Int):=uD;have q337:x5_1<(l0.length:Int):=uD;obtain⟨ad337,A337_0,c337_0,e337,hx337_0,hl337_0,hi337_0⟩:=at_L5 HR0.out x5_1 p337 q337
      cases e337
      have HR337_0:=aM hi337_0;have HC337_0:=aM hl337_0;clear hi337_0 hl337_0;replace p337:=eq_true p337;replace q337:=eq_true q337;have p338:0≤(x5_1:Int):=uD;have q338:x5_1<(l1.length:Int):=uD;obtain⟨ad338,A338_0,c338_0,e338,hx338_0,hl338_0,hi338_0⟩:=at_L5 HR1.out x5_1 p338 q338
      cases e338
      have HR338_0:=aM hi338_0;have HC338_0:=aM hl338_0;clear hi338_0 hl338_0;replace p338:=eq_true p338;replace q338:=eq_true q338
      go_wp2_with (first|(go_at_call 57;(with_reducible refine(quinariaref01_Same.calls k1 _ _ (rd_L5 l0 x5_1) _ _ (rd_L5 l1 x5_1) false _ ?side1 ?side2 ?side3 ?side4 A7.out).mono ?_);(case side1=>repeat(first|exact HR337_0.out|(with_reducible refine Kd.C_alloc ?_ _)|(with_reducible refine Kd.C_drewN ?_ _)|(with_reducible refine Kd.C_drew ?_)));(case side2=>exact HC337_0.out);(case side3=>repeat(first|exact HR338_0.out|(with_reducible refine Kd.C_alloc ?_ _)|(with_reducible refine Kd.C_drewN ?_ _)|(with_reducible refine Kd.C_drew ?_)));(case side4=>exact HC338_0.out);rintro e w' ⟨rfl,⟨nd,rfl⟩⟩;(try first|exact⟨rfl,_,World.drewN_drewN _ _ _⟩|exact⟨rfl,_,Eq.trans (World.drewN_drewN _ _ _) (congrArg (World.drewN _) (Nat.add_assoc _ _ _))⟩)))
      (repeat (go_quiet (first|(go_at_call 57;(with_reducible refine(quinariaref01_Same.calls k1 _ _ (rd_L5 l0 x5_1) _ _ (rd_L5 l1 x5_1) false _ ?side1 ?side2 ?side3 ?side4 A7.out).mono ?_);(case side1=>repeat(first|exact HR337_0.out|(with_reducible refine Kd.C_alloc ?_ _)|(with_reducible refine Kd.C_drewN ?_ _)|(with_reducible refine Kd.C_drew ?_)));(case side2=>exact HC337_0.out);(case side3=>repeat(first|exact HR338_0.out|(with_reducible refine Kd.C_alloc ?_ _)|(with_reducible refine Kd.C_drewN ?_ _)|(with_reducible refine Kd.C_drew ?_)));(case side4=>exact HC338_0.out);rintro e w' ⟨rfl,⟨nd,rfl⟩⟩;(try first|exact⟨rfl,_,World.drewN_drewN _ _ _⟩|exact⟨rfl,_,Eq.trans (World.drewN_drewN _ _ _) (congrArg (World.drewN _) (Nat.add_assoc _ _ _))⟩)));try go_wp2_with (first|(go_at_call 57;(with_reducible refine(quinariaref01_Same.calls k1 _ _ (rd_L5 l0 x5_1) _ _ (rd_L5 l1 x5_1) false _ ?side1 ?side2 ?side3 ?side4 A7.out).mono ?_);(case side1=>repeat(first|exact HR337_0.out|(with_reducible refine Kd.C_alloc ?_ _)|(with_reducible refine Kd.C_drewN ?_ _)|(with_reducible refine Kd.C_drew ?_)));(case side2=>exact HC337_0.out);(case side3=>repeat(first|exact HR338_0.out|(with_reducible refine Kd.C_alloc ?_ _)|(with_reducible refine Kd.C_drewN ?_ _)|(with_reducible refine Kd.C_drew ?_)));(case side4=>exact HC338_0.out);rintro e w' ⟨rfl,⟨nd,rfl⟩⟩;(try first|exact⟨rfl,_,World.drewN_drewN _ _ _⟩|exact⟨rfl,_,Eq.trans (World.drewN_drewN _ _ _) (congrArg (World.drewN _) (Nat.add_assoc _ _ _))⟩)))));go_ret;exact⟨u0,by repeat(first|exact Drawn0.refl _|apply Drawn0.step)⟩
    ·rw[if_neg c4] at H;replace c4:=decide_eq_false c4;obtain rfl:=Option.some.inj H;go_wp2;(repeat (go_quiet (fail);try go_wp2));go_ret;exact⟨u0,by repeat(first|exact Drawn0.refl _|apply Drawn0.step)⟩
 ·rw[if_neg c3] at H;have c3b0:((l0.length:Int)==(l1.length:Int))=false:=beq_eq_false_iff_ne.mpr c3;have c3b1:((l0.length:Int) !=(l1.length:Int))=true:=bne_iff_ne.mpr c3;have c3b2:(l0.length==l1.length)=false:=by first|simpa using c3|(simp at c3⊢;omega)
  obtain rfl:=Option.some.inj H
  go_enter Tryz.func34,Tryz.ntmps34
  go_wp2;(repeat (go_quiet (fail);try go_wp2));go_ret;exact⟨u0,by repeat(first|exact Drawn0.refl _|apply Drawn0.step)⟩
mutual
def quinariaref01_Decimal.j0:Nat→Int→Bool→Option (ByteArray)
 |0,_,_=>none
 |k+1,x0,x8=>if x8=true then((some (([(wrap64 (48-x0)) % 256]:List Int):List Int)).bind fun y340=>(if 1+(strOfNums y340).size≤9223372036854775807 then(some ((⟨#[45]⟩:ByteArray)++(strOfNums y340))) else(none))) else(if x0<0 then((quinariaref01_Decimal.f k (wrap64 (Int.tdiv x0 10))).bind fun t343=>((some (([(wrap64 (48-(Int.tmod x0 10))) % 256]:List Int):List Int)).bind fun y344=>(if t343.size+(strOfNums y344).size≤9223372036854775807 then(some (t343++(strOfNums y344))) else(none)))) else(if x0<10 then(some (strOfNums (([(wrap64 (48+x0)) % 256]:List Int)))) else((quinariaref01_Decimal.f k (wrap64 (Int.tdiv x0 10))).bind fun t350=>((some (([(wrap64 (48+(Int.tmod x0 10))) % 256]:List Int):List Int)).bind fun y351=>(if t350.size+(strOfNums y351).size≤9223372036854775807 then(some (t350++(strOfNums y351))) else(none))))))
def quinariaref01_Decimal.f:Nat→Int→Option (ByteArray)
 |0,_=>none
 |k+1,a0=>if a0>(-10) then(quinariaref01_Decimal.j0 k a0 (decide (a0<0))) else(quinariaref01_Decimal.j0 k a0 false)
end
def quinariaref01_Decimal.T4:Bool×List (List Nat×List Nat):=(true,[([],[]),([0],[0]),([1],[1]),([],[]),([3],[3]),([4],[4]),([5],[5]),([6],[6]),([7],[7]),([2,8],[2,8]),([9,2,0,1,2,3,4,5,6,7,8,9],[9])])
def quinariaref01_Decimal.B4:List Nat:=[0,1,3,0,8,24,56,120,248,511,1023]
theorem quinariaref01_Decimal.tab4:rtab .any (opsOf Tryz.f120 4)=quinariaref01_Decimal.T4:=by kernel_rfl
theorem quinariaref01_Decimal.bits4:waitsOk quinariaref01_Decimal.T4.2 quinariaref01_Decimal.B4=true:=by kernel_rfl
def quinariaref01_Decimal.T7:Bool×List (List Nat×List Nat):=(true,[([],[]),([0],[0]),([1],[1]),([],[]),([3],[3]),([4],[4]),([5],[5]),([6],[6]),([7],[7]),([2,8],[2,8]),([9,2,0,1,2,3,4,5,6,7,8,9],[9])])
def quinariaref01_Decimal.B7:List Nat:=[0,1,3,0,8,24,56,120,248,511,1023]
theorem quinariaref01_Decimal.tab7:rtab .any (opsOf Tryz.f120 7)=quinariaref01_Decimal.T7:=by kernel_rfl
theorem quinariaref01_Decimal.bits7:waitsOk quinariaref01_Decimal.T7.2 quinariaref01_Decimal.B7=true:=by kernel_rfl
set_option maxHeartbeats 8000000 in
set_option maxRecDepth 100000 in
theorem quinariaref01_Decimal.calls (k:Nat):∀(a0:Int) (r:ByteArray) (w:World) (h:quinariaref01_Decimal.f k a0=some r),
  Calls Tryz.prog 120 #[.int .i64 a0] w fun e w'=>e=.returned (.string r)∧Below w.heap.size w w':=by
 induction k using Nat.strongRecOn with
 |_ k ih=>
 intro a0 r w h
 cases k with
 |zero=>exact absurd h (by simp[quinariaref01_Decimal.f])
 |succ k=>
 simp only[quinariaref01_Decimal.f] at h;have HB:=aM (Below.refl w.heap.size w);have H:(if a0>(-10) then(quinariaref01_Decimal.j0 k a0 (decide (a0<0))) else(quinariaref01_Decimal.j0 k a0 false))=some r:=h;clear h;have HC2:=aM H;clear H
 go_enter Tryz.func120,Tryz.ntmps120
 go_upto_region 1 with(fail)
 go_cut [8] (fun v8 wc=>∃(kq:Nat) (x8_1:Bool),v8=.bool x8_1∧Aside0 (quinariaref01_Decimal.j0 kq a0 x8_1=some r)∧Aside0 (kq≤k)∧Aside0 (Below w.heap.size w wc))
 case first=>
  have H:=HC2.out;clear HC2
  by_cases c3:a0>(-10)
  ·rw[if_pos c3] at H;replace c3:=decide_eq_true c3;(first|rw[c3b0]|(simp only[i64_w,i32_w];rw[c3b0])|skip);have H':=aM H;clear H;go_wp2
   go_meet
   case rel=>exact⟨_,(decide (a0<0)),u0,H',⟨u1⟩,⟨uB⟩⟩
  ·rw[if_neg c3] at H;replace c3:=decide_eq_false c3;(first|rw[c3b0]|(simp only[i64_w,i32_w];rw[c3b0])|skip);have H':=aM H;clear H;go_wp2
   go_meet
   case rel=>exact⟨_,(false),u0,H',⟨u1⟩,⟨uB⟩⟩
 case rest=>
  clear HC2;try clear c1;try clear p2;try clear c3;try clear c3b0
  obtain⟨kq,x8_1,rfl,HA,HJ1,HB⟩:=hcut
  cases kq with
  |zero=>exact absurd HA.out (by simp[quinariaref01_Decimal.j0])
  |succ kj1=>
   have H:=HA.out;clear HA;simp only[quinariaref01_Decimal.j0] at H
   by_cases c4:x8_1=true
   ·subst c4;have H1:((some (([(wrap64 (48-a0)) % 256]:List Int):List Int)).bind fun y340=>(if 1+(strOfNums y340).size≤9223372036854775807 then(some ((⟨#[45]⟩:ByteArray)++(strOfNums y340))) else(none)))=some r:=by rw[if_pos rfl] at H;exact H
    clear H;have H:=H1;clear H1;obtain⟨y340,hy340⟩:∃y_:List Int,y_=(([(wrap64 (48-a0)) % 256]:List Int)):=⟨_,rfl⟩;rw[← hy340] at H;(try replace H:=(Option.bind_some _ _).symm.trans H)
    have Ny340:=aM hy340;clear hy340;obtain⟨c5,H⟩:=ifs H;have c5b0:=eq_true c5;have c5b1:decide (1+(strOfNums y340).size≤9223372036854775807)=true:=decide_eq_true c5;(try have c5b2:(9223372036854775807<1+(strOfNums y340).size)=False:=eq_false (Nat.not_lt.2 c5));obtain rfl:=Option.some.inj H
    go_wp2_with (first|((with_reducible refine gate_dst (N:=12) rfl ?_);refine Kd.R_lit (Kd.int .u8) _ 5 ?hg (N:=12) ?hd (xs:=([(wrap64 (48-a0)) % 256]:List Int)) (inner:=[.int .u8 ((wrap64 (48-a0)) % 256)]) (ok:=fun _=>True) (okp:=fun _=>True) ?hr ?hp (fun _ hk=>hk) trivial (Below.refl _ _) (Nat.le_refl _) (by simp) ?_;(case hd=>rfl);(case hg=>rfl);(case hr=>first|(go_simp;done)|(go_simp;rfl));(case hp=>exact(Reps.one (show Kd.M (Kd.int .u8) _ _ _ ((wrap64 (48-a0)) % 256) [.int .u8 ((wrap64 (48-a0)) % 256)] from rfl) (Reps.none _ _)));intro v341 w6 ho7 hb hg_ hnew_;clear hg_ hnew_;(first|rw[← Ny340.out] at ho7|(simp only[Int.reduceToNat] at ho7;rw[← Ny340.out] at ho7));have HO342:=aM (Kd.R_lower ho7 (below_size uB));replace HB:=aM (below_step uB hb);clear hb ho7;have hcv8:=own_string (P:=Tryz.prog) Tryz.underlying73 Tryz.underlying5 Tryz.underlying9 (Kd.own_of_R HO342.out)))
    go_ret;exact⟨uE,uB⟩
   ·replace c4:=Bool.eq_false_iff.mpr c4;subst c4;have H1:(if a0<0 then((quinariaref01_Decimal.f kj1 (wrap64 (Int.tdiv a0 10))).bind fun t343=>((some (([(wrap64 (48-(Int.tmod a0 10))) % 256]:List Int):List Int)).bind fun y344=>(if t343.size+(strOfNums y344).size≤9223372036854775807 then(some (t343++(strOfNums y344))) else(none)))) else(if a0<10 then(some (strOfNums (([(wrap64 (48+a0)) % 256]:List Int)))) else((quinariaref01_Decimal.f kj1 (wrap64 (Int.tdiv a0 10))).bind fun t350=>((some (([(wrap64 (48+(Int.tmod a0 10))) % 256]:List Int):List Int)).bind fun y351=>(if t350.size+(strOfNums y351).size≤9223372036854775807 then(some (t350++(strOfNums y351))) else(none))))))=some r:=by rw[if_neg (show ¬(false=true) by decide)] at H;exact H
    clear H;have H:=H1;clear H1
    by_cases c9:a0<0
    ·rw[if_pos c9] at H;replace c9:=decide_eq_true c9;replace H:=Option.bind_eq_some_iff.mp H;obtain⟨t343,A100,H⟩:=H;replace H:((some (([(wrap64 (48-(Int.tmod a0 10))) % 256]:List Int):List Int)).bind fun y344=>(if t343.size+(strOfNums y344).size≤9223372036854775807 then(some (t343++(strOfNums y344))) else(none)))=some r:=H;have A10:=aM A100;clear A100;obtain⟨y344,hy344⟩:∃y_:List Int,y_=(([(wrap64 (48-(Int.tmod a0 10))) % 256]:List Int)):=⟨_,rfl⟩;rw[← hy344] at H;(try replace H:=(Option.bind_some _ _).symm.trans H)
     have Ny344:=aM hy344;clear hy344;obtain⟨c11,H⟩:=ifs H;have c11b0:=eq_true c11;have c11b1:decide (t343.size+(strOfNums y344).size≤9223372036854775807)=true:=decide_eq_true c11;(try have c11b2:(9223372036854775807<t343.size+(strOfNums y344).size)=False:=eq_false (Nat.not_lt.2 c11));obtain rfl:=Option.some.inj H;(try go_wp2);replace HB:=aM (below_drew1 HB.out);refine start_ (n:=11) (S:=fun w'=>True) (ds:=[]) (bl 11 0) (by kernel_rfl) rfl rfl trivial (fun hHeld=>?_);refine with_tabW quinariaref01_Decimal.tab4 quinariaref01_Decimal.bits4 (fun HT_ HW_=>?_)
     generalize wc.drew=w12 at HB hHeld⊢;refine pu 0 17 11 1 ?_;refine pu 1 18 11 3 ?_;refine pu 3 20 11 11 ?_;refine pu 4 21 11 27 ?_;refine pu 5 22 11 59 ?_;refine pu 6 23 11 123 ?_;refine join_ (σ:=Value) 2 (bl 11 511) (fun s_=>[(19,.string t343),(24,s_),(25,.string (strOfNums y344))]) (fun s_ w'=>(Kd.R (Kd.int .u8) 5 w' w.heap.size (fun _=>True) s_ y344)∧(Below w.heap.size w w')) ?_ ?_;rotate_left
     ·intro hCont;refine two_ (i:=2) (j:=7) (Ni:=some 19) (Nj:=some 24) (bl 11 127) (bl 11 251) rfl rfl rfl rfl (two_of HT_.out (by kernel_rfl)) (by decide) (by decide) (fun K hK=>?_) (fun K hK=>?_)
      ·skip
       refine goes_ Tryz.func120 (by kernel_rfl) rfl #[.int .i64 (wrap64 (Int.tdiv a0 10))] (by rfl) rfl rfl uM ?_;(with_reducible refine(ih kj1 (by have:=HJ1.out;omega) (wrap64 (Int.tdiv a0 10)) t343 _ A10.out).mono ?_);rintro e w13 ⟨rfl,hb⟩;refine⟨_,rfl,?_⟩;replace HB:=aM (below_step uB hb);(try clear hb);(try clear hb2);(try clear hk);(try clear hi);refine hK.out _ _ trivial (fun hHeld=>?_);clear hK K;refine nm ?_;refine one_ (i:=7) (N:=some 24) (bl 11 255) rfl rfl (one_of HT_.out (by kernel_rfl)) (by decide) (fun K hK=>?_);refine Kd.R_lit_step (Kd.int .u8) _ 5 ?hg (N:=24) ?hd (xs:=([(wrap64 (48-(Int.tmod a0 10))) % 256]:List Int)) (inner:=[.int .u8 ((wrap64 (48-(Int.tmod a0 10))) % 256)]) (ok:=fun _=>True) (okp:=fun _=>True) ?hr ?hp (fun _ hk=>hk) trivial (Below.refl _ _) (Nat.le_refl _) (by simp) ?_;(case hd=>rfl);(case hg=>rfl);(case hr=>first|(go_simp;done)|(go_simp;rfl));(case hp=>exact(Reps.one (show Kd.M (Kd.int .u8) _ _ _ ((wrap64 (48-(Int.tmod a0 10))) % 256) [.int .u8 ((wrap64 (48-(Int.tmod a0 10))) % 256)] from rfl) (Reps.none _ _)))
       intro v345 w14 ho15 hb hg_ hnew_;clear hg_ hnew_;(first|rw[← Ny344.out] at ho15|(simp only[Int.reduceToNat] at ho15;rw[← Ny344.out] at ho15));have HO346:=aM (Kd.R_lower ho15 (below_size uB));replace HB:=aM (below_step uB hb);clear hb ho15;refine hK.out _ _ trivial (fun hHeld=>?_);clear hK K;refine nm ?_;refine one_ (i:=8) (N:=some 25) (bl 11 511) rfl rfl (one_of HT_.out (by kernel_rfl)) (by decide) (fun K hK=>?_);have hcv16:=own_string (P:=Tryz.prog) Tryz.underlying73 Tryz.underlying5 Tryz.underlying9 (Kd.own_of_R HO346.out);refine value_ (w1:=?_) (v:=?_) (by rfl) rfl ?_ ?_;rotate_left 2
       ·go_simp
        constructor
        ·rfl
        ·rfl
       clear hcv16;refine hK.out _ _ trivial (fun hHeld=>?_);clear hK K;refine nm ?_;exact norm_ (by simp only[putAll,Act.put,List.setIfInBounds_toArray,List.set_cons_zero,List.set_cons_succ]) (hCont (v345) _ ⟨(uR HO346.out),uB⟩)
      ·skip
       refine Kd.R_lit_step (Kd.int .u8) _ 5 ?hg (N:=24) ?hd (xs:=([(wrap64 (48-(Int.tmod a0 10))) % 256]:List Int)) (inner:=[.int .u8 ((wrap64 (48-(Int.tmod a0 10))) % 256)]) (ok:=fun _=>True) (okp:=fun _=>True) ?hr ?hp (fun _ hk=>hk) trivial (Below.refl _ _) (Nat.le_refl _) (by simp) ?_;(case hd=>rfl);(case hg=>rfl);(case hr=>first|(go_simp;done)|(go_simp;rfl));(case hp=>exact(Reps.one (show Kd.M (Kd.int .u8) _ _ _ ((wrap64 (48-(Int.tmod a0 10))) % 256) [.int .u8 ((wrap64 (48-(Int.tmod a0 10))) % 256)] from rfl) (Reps.none _ _)))
       intro v345 w13 ho14 hb hg_ hnew_;clear hg_ hnew_;(first|rw[← Ny344.out] at ho14|(simp only[Int.reduceToNat] at ho14;rw[← Ny344.out] at ho14));have HO346:=aM (Kd.R_lower ho14 (below_size uB));replace HB:=aM (below_step uB hb);clear hb ho14;refine hK.out _ _ trivial (fun hHeld=>?_);clear hK K;refine nm ?_;refine two_ (i:=2) (j:=8) (Ni:=some 19) (Nj:=some 25) (bl 11 255) (bl 11 507) rfl rfl rfl rfl (two_of HT_.out (by kernel_rfl)) (by decide) (by decide) (fun K hK=>?_) (fun K hK=>?_)
       ·skip
        refine goes_ Tryz.func120 (by kernel_rfl) rfl #[.int .i64 (wrap64 (Int.tdiv a0 10))] (by rfl) rfl rfl uM ?_;(with_reducible refine(ih kj1 (by have:=HJ1.out;omega) (wrap64 (Int.tdiv a0 10)) t343 _ A10.out).mono ?_);rintro e w15 ⟨rfl,hb⟩;refine⟨_,rfl,?_⟩;replace HO346:=aM (Kd.R_below (uR HO346.out) hb);replace HB:=aM (below_step uB hb);(try clear hb);(try clear hb2);(try clear hk);(try clear hi);refine hK.out _ _ trivial (fun hHeld=>?_);clear hK K;refine nm ?_;refine one_ (i:=8) (N:=some 25) (bl 11 511) rfl rfl (one_of HT_.out (by kernel_rfl)) (by decide) (fun K hK=>?_);have hcv16:=own_string (P:=Tryz.prog) Tryz.underlying73 Tryz.underlying5 Tryz.underlying9 (Kd.own_of_R HO346.out);refine value_ (w1:=?_) (v:=?_) (by rfl) rfl ?_ ?_;rotate_left 2
        ·go_simp
         constructor
         ·rfl
         ·rfl
        clear hcv16;refine hK.out _ _ trivial (fun hHeld=>?_);clear hK K;refine nm ?_;exact norm_ (by simp only[putAll,Act.put,List.setIfInBounds_toArray,List.set_cons_zero,List.set_cons_succ]) (hCont (v345) _ ⟨(uR HO346.out),uB⟩)
       ·skip
        have hcv15:=own_string (P:=Tryz.prog) Tryz.underlying73 Tryz.underlying5 Tryz.underlying9 (Kd.own_of_R HO346.out);refine value_ (w1:=?_) (v:=?_) (by rfl) rfl ?_ ?_;rotate_left 2
        ·go_simp
         constructor
         ·rfl
         ·rfl
        clear hcv15;refine hK.out _ _ trivial (fun hHeld=>?_);clear hK K;refine nm ?_;refine one_ (i:=2) (N:=some 19) (bl 11 511) rfl rfl (one_of HT_.out (by kernel_rfl)) (by decide) (fun K hK=>?_);refine goes_ Tryz.func120 (by kernel_rfl) rfl #[.int .i64 (wrap64 (Int.tdiv a0 10))] (by rfl) rfl rfl uM ?_;(with_reducible refine(ih kj1 (by have:=HJ1.out;omega) (wrap64 (Int.tdiv a0 10)) t343 _ A10.out).mono ?_);rintro e w16 ⟨rfl,hb⟩;refine⟨_,rfl,?_⟩;replace HO346:=aM (Kd.R_below (uR HO346.out) hb);replace HB:=aM (below_step uB hb);(try clear hb);(try clear hb2);(try clear hk);(try clear hi);refine hK.out _ _ trivial (fun hHeld=>?_);clear hK K;refine nm ?_;exact norm_ (by simp only[putAll,Act.put,List.setIfInBounds_toArray,List.set_cons_zero,List.set_cons_succ]) (hCont (v345) _ ⟨(uR HO346.out),uB⟩)
     rintro v345 w17 ⟨h0_,h1_⟩;(try dsimp only at h0_ h1_);have n0_:=aM h0_;have n1_:=aM h1_;clear HB;clear h0_ h1_;have HO346:=n0_;have HB:=n1_;clear n0_ n1_;have hHeld:=trivial;refine nm ?_;refine pu 9 26 11 1023 ?_;refine pu 10 2 11 2047 ?_;refine done_ (done_of HT_.out (by kernel_rfl)) ?_;(try go_wp2);go_ret;exact⟨uE,uB⟩
    ·rw[if_neg c9] at H;replace c9:=decide_eq_false c9
     by_cases c18:a0<10
     ·rw[if_pos c18] at H;replace c18:=decide_eq_true c18;obtain⟨y347,hy347⟩:∃y_:List Int,y_=(([(wrap64 (48+a0)) % 256]:List Int)):=⟨_,rfl⟩;rw[← hy347] at H;(try replace H:=(Option.bind_some _ _).symm.trans H)
      have Ny347:=aM hy347;clear hy347;obtain rfl:=Option.some.inj H
      go_wp2_with (first|((with_reducible refine gate_dst (N:=32) rfl ?_);refine Kd.R_lit (Kd.int .u8) _ 5 ?hg (N:=32) ?hd (xs:=([(wrap64 (48+a0)) % 256]:List Int)) (inner:=[.int .u8 ((wrap64 (48+a0)) % 256)]) (ok:=fun _=>True) (okp:=fun _=>True) ?hr ?hp (fun _ hk=>hk) trivial (Below.refl _ _) (Nat.le_refl _) (by simp) ?_;(case hd=>rfl);(case hg=>rfl);(case hr=>first|(go_simp;done)|(go_simp;rfl));(case hp=>exact(Reps.one (show Kd.M (Kd.int .u8) _ _ _ ((wrap64 (48+a0)) % 256) [.int .u8 ((wrap64 (48+a0)) % 256)] from rfl) (Reps.none _ _)));intro v348 w19 ho20 hb hg_ hnew_;clear hg_ hnew_;(first|rw[← Ny347.out] at ho20|(simp only[Int.reduceToNat] at ho20;rw[← Ny347.out] at ho20));have HO349:=aM (Kd.R_lower ho20 (below_size uB));replace HB:=aM (below_step uB hb);clear hb ho20;have hcv21:=own_string (P:=Tryz.prog) Tryz.underlying73 Tryz.underlying5 Tryz.underlying9 (Kd.own_of_R HO349.out)))
      go_ret;exact⟨uE,uB⟩
     ·rw[if_neg c18] at H;replace c18:=decide_eq_false c18;replace H:=Option.bind_eq_some_iff.mp H;obtain⟨t350,A220,H⟩:=H;replace H:((some (([(wrap64 (48+(Int.tmod a0 10))) % 256]:List Int):List Int)).bind fun y351=>(if t350.size+(strOfNums y351).size≤9223372036854775807 then(some (t350++(strOfNums y351))) else(none)))=some r:=H;have A22:=aM A220;clear A220;obtain⟨y351,hy351⟩:∃y_:List Int,y_=(([(wrap64 (48+(Int.tmod a0 10))) % 256]:List Int)):=⟨_,rfl⟩;rw[← hy351] at H;(try replace H:=(Option.bind_some _ _).symm.trans H)
      have Ny351:=aM hy351;clear hy351;obtain⟨c23,H⟩:=ifs H;have c23b0:=eq_true c23;have c23b1:decide (t350.size+(strOfNums y351).size≤9223372036854775807)=true:=decide_eq_true c23;(try have c23b2:(9223372036854775807<t350.size+(strOfNums y351).size)=False:=eq_false (Nat.not_lt.2 c23));obtain rfl:=Option.some.inj H;(try go_wp2);replace HB:=aM (below_drew1 HB.out);refine start_ (n:=11) (S:=fun w'=>True) (ds:=[]) (bl 11 0) (by kernel_rfl) rfl rfl trivial (fun hHeld=>?_);refine with_tabW quinariaref01_Decimal.tab7 quinariaref01_Decimal.bits7 (fun HT_ HW_=>?_)
      generalize wc.drew=w24 at HB hHeld⊢;refine pu 0 34 11 1 ?_;refine pu 1 35 11 3 ?_;refine pu 3 37 11 11 ?_;refine pu 4 38 11 27 ?_;refine pu 5 39 11 59 ?_;refine pu 6 40 11 123 ?_;refine join_ (σ:=Value) 2 (bl 11 511) (fun s_=>[(36,.string t350),(41,s_),(42,.string (strOfNums y351))]) (fun s_ w'=>(Kd.R (Kd.int .u8) 5 w' w.heap.size (fun _=>True) s_ y351)∧(Below w.heap.size w w')) ?_ ?_;rotate_left
      ·intro hCont;refine two_ (i:=2) (j:=7) (Ni:=some 36) (Nj:=some 41) (bl 11 127) (bl 11 251) rfl rfl rfl rfl (two_of HT_.out (by kernel_rfl)) (by decide) (by decide) (fun K hK=>?_) (fun K hK=>?_)
       ·skip
        refine goes_ Tryz.func120 (by kernel_rfl) rfl #[.int .i64 (wrap64 (Int.tdiv a0 10))] (by rfl) rfl rfl uM ?_;(with_reducible refine(ih kj1 (by have:=HJ1.out;omega) (wrap64 (Int.tdiv a0 10)) t350 _ A22.out).mono ?_);rintro e w25 ⟨rfl,hb⟩;refine⟨_,rfl,?_⟩;replace HB:=aM (below_step uB hb);(try clear hb);(try clear hb2);(try clear hk);(try clear hi);refine hK.out _ _ trivial (fun hHeld=>?_);clear hK K;refine nm ?_;refine one_ (i:=7) (N:=some 41) (bl 11 255) rfl rfl (one_of HT_.out (by kernel_rfl)) (by decide) (fun K hK=>?_);refine Kd.R_lit_step (Kd.int .u8) _ 5 ?hg (N:=41) ?hd (xs:=([(wrap64 (48+(Int.tmod a0 10))) % 256]:List Int)) (inner:=[.int .u8 ((wrap64 (48+(Int.tmod a0 10))) % 256)]) (ok:=fun _=>True) (okp:=fun _=>True) ?hr ?hp (fun _ hk=>hk) trivial (Below.refl _ _) (Nat.le_refl _) (by simp) ?_;(case hd=>rfl);(case hg=>rfl);(case hr=>first|(go_simp;done)|(go_simp;rfl));(case hp=>exact(Reps.one (show Kd.M (Kd.int .u8) _ _ _ ((wrap64 (48+(Int.tmod a0 10))) % 256) [.int .u8 ((wrap64 (48+(Int.tmod a0 10))) % 256)] from rfl) (Reps.none _ _)))
        intro v352 w26 ho27 hb hg_ hnew_;clear hg_ hnew_;(first|rw[← Ny351.out] at ho27|(simp only[Int.reduceToNat] at ho27;rw[← Ny351.out] at ho27));have HO353:=aM (Kd.R_lower ho27 (below_size uB));replace HB:=aM (below_step uB hb);clear hb ho27;refine hK.out _ _ trivial (fun hHeld=>?_);clear hK K;refine nm ?_;refine one_ (i:=8) (N:=some 42) (bl 11 511) rfl rfl (one_of HT_.out (by kernel_rfl)) (by decide) (fun K hK=>?_);have hcv28:=own_string (P:=Tryz.prog) Tryz.underlying73 Tryz.underlying5 Tryz.underlying9 (Kd.own_of_R HO353.out);refine value_ (w1:=?_) (v:=?_) (by rfl) rfl ?_ ?_;rotate_left 2
        ·go_simp
         constructor
         ·rfl
         ·rfl
        clear hcv28;refine hK.out _ _ trivial (fun hHeld=>?_);clear hK K;refine nm ?_;exact norm_ (by simp only[putAll,Act.put,List.setIfInBounds_toArray,List.set_cons_zero,List.set_cons_succ]) (hCont (v352) _ ⟨(uR HO353.out),uB⟩)
       ·skip
        refine Kd.R_lit_step (Kd.int .u8) _ 5 ?hg (N:=41) ?hd (xs:=([(wrap64 (48+(Int.tmod a0 10))) % 256]:List Int)) (inner:=[.int .u8 ((wrap64 (48+(Int.tmod a0 10))) % 256)]) (ok:=fun _=>True) (okp:=fun _=>True) ?hr ?hp (fun _ hk=>hk) trivial (Below.refl _ _) (Nat.le_refl _) (by simp) ?_;(case hd=>rfl);(case hg=>rfl);(case hr=>first|(go_simp;done)|(go_simp;rfl));(case hp=>exact(Reps.one (show Kd.M (Kd.int .u8) _ _ _ ((wrap64 (48+(Int.tmod a0 10))) % 256) [.int .u8 ((wrap64 (48+(Int.tmod a0 10))) % 256)] from rfl) (Reps.none _ _)))
        intro v352 w25 ho26 hb hg_ hnew_;clear hg_ hnew_;(first|rw[← Ny351.out] at ho26|(simp only[Int.reduceToNat] at ho26;rw[← Ny351.out] at ho26));have HO353:=aM (Kd.R_lower ho26 (below_size uB));replace HB:=aM (below_step uB hb);clear hb ho26;refine hK.out _ _ trivial (fun hHeld=>?_);clear hK K;refine nm ?_;refine two_ (i:=2) (j:=8) (Ni:=some 36) (Nj:=some 42) (bl 11 255) (bl 11 507) rfl rfl rfl rfl (two_of HT_.out (by kernel_rfl)) (by decide) (by decide) (fun K hK=>?_) (fun K hK=>?_)
        ·skip
         refine goes_ Tryz.func120 (by kernel_rfl) rfl #[.int .i64 (wrap64 (Int.tdiv a0 10))] (by rfl) rfl rfl uM ?_;(with_reducible refine(ih kj1 (by have:=HJ1.out;omega) (wrap64 (Int.tdiv a0 10)) t350 _ A22.out).mono ?_);rintro e w27 ⟨rfl,hb⟩;refine⟨_,rfl,?_⟩;replace HO353:=aM (Kd.R_below (uR HO353.out) hb);replace HB:=aM (below_step uB hb);(try clear hb);(try clear hb2);(try clear hk);(try clear hi);refine hK.out _ _ trivial (fun hHeld=>?_);clear hK K;refine nm ?_;refine one_ (i:=8) (N:=some 42) (bl 11 511) rfl rfl (one_of HT_.out (by kernel_rfl)) (by decide) (fun K hK=>?_);have hcv28:=own_string (P:=Tryz.prog) Tryz.underlying73 Tryz.underlying5 Tryz.underlying9 (Kd.own_of_R HO353.out);refine value_ (w1:=?_) (v:=?_) (by rfl) rfl ?_ ?_;rotate_left 2
         ·go_simp
          constructor
          ·rfl
          ·rfl
         clear hcv28;refine hK.out _ _ trivial (fun hHeld=>?_);clear hK K;refine nm ?_;exact norm_ (by simp only[putAll,Act.put,List.setIfInBounds_toArray,List.set_cons_zero,List.set_cons_succ]) (hCont (v352) _ ⟨(uR HO353.out),uB⟩)
        ·skip
         have hcv27:=own_string (P:=Tryz.prog) Tryz.underlying73 Tryz.underlying5 Tryz.underlying9 (Kd.own_of_R HO353.out);refine value_ (w1:=?_) (v:=?_) (by rfl) rfl ?_ ?_;rotate_left 2
         ·go_simp
          constructor
          ·rfl
          ·rfl
         clear hcv27;refine hK.out _ _ trivial (fun hHeld=>?_);clear hK K;refine nm ?_;refine one_ (i:=2) (N:=some 36) (bl 11 511) rfl rfl (one_of HT_.out (by kernel_rfl)) (by decide) (fun K hK=>?_);refine goes_ Tryz.func120 (by kernel_rfl) rfl #[.int .i64 (wrap64 (Int.tdiv a0 10))] (by rfl) rfl rfl uM ?_;(with_reducible refine(ih kj1 (by have:=HJ1.out;omega) (wrap64 (Int.tdiv a0 10)) t350 _ A22.out).mono ?_);rintro e w28 ⟨rfl,hb⟩;refine⟨_,rfl,?_⟩;replace HO353:=aM (Kd.R_below (uR HO353.out) hb);replace HB:=aM (below_step uB hb);(try clear hb);(try clear hb2);(try clear hk);(try clear hi);refine hK.out _ _ trivial (fun hHeld=>?_);clear hK K;refine nm ?_;exact norm_ (by simp only[putAll,Act.put,List.setIfInBounds_toArray,List.set_cons_zero,List.set_cons_succ]) (hCont (v352) _ ⟨(uR HO353.out),uB⟩)
      rintro v352 w29 ⟨h0_,h1_⟩;(try dsimp only at h0_ h1_);have n0_:=aM h0_;have n1_:=aM h1_;clear HB;clear h0_ h1_;have HO353:=n0_;have HB:=n1_;clear n0_ n1_;have hHeld:=trivial;refine nm ?_;refine pu 9 43 11 1023 ?_;refine pu 10 2 11 2047 ?_;refine done_ (done_of HT_.out (by kernel_rfl)) ?_;(try go_wp2);go_ret;exact⟨uE,uB⟩
def quinariaref01_Row.l0:Nat→ByteArray→List Int→Int→Option (ByteArray)
 |0,_,_,_=>none
 |k+1,x0,x1,x5=>if x5<(x1.length:Int) then(if x0.size+1≤9223372036854775807 then(if 0≤x5 then((quinariaref01_Decimal.f k (rd x1 x5)).bind fun t355=>(if (x0++(⟨#[32]⟩:ByteArray)).size+t355.size≤9223372036854775807 then(quinariaref01_Row.l0 k ((x0++(⟨#[32]⟩:ByteArray))++t355) x1 (wrap64 (x5+1))) else(none))) else(none)) else(none)) else(some x0)
def quinariaref01_Row.f (k:Nat) (a0:ByteArray) (l1:List Int):Option (ByteArray):=quinariaref01_Row.l0 k a0 l1 0
set_option maxHeartbeats 8000000 in
set_option maxRecDepth 100000 in
theorem quinariaref01_Row.calls (k:Nat) (a0:ByteArray) (A1:Option Addr) (c1:Nat) (l1:List Int) (r:ByteArray) (w:World) (hr1:Kd.C (Kd.int .i64) w A1 l1.length l1) (hc1:l1.length≤c1) (h:quinariaref01_Row.f k a0 l1=some r):
  Calls Tryz.prog 81 #[.string a0,.slice A1 l1.length c1] w fun e w'=>e=.returned (.string r)∧Below w.heap.size w w':=by
 have HR1:=aM hr1;have HC1:=aM hc1;clear hr1 hc1;have HB:=aM (Below.refl w.heap.size w);have H:(quinariaref01_Row.l0 k a0 l1 0)=some r:=h;clear h;have H':=aM H;clear H
 go_enter Tryz.func81,Tryz.ntmps81
 go_wp2
 go_loopg [0,5] k (fun kq v0 v5 w'=>∃(x0_1:ByteArray) (x5_1:Int),v0=.string x0_1∧v5=.int .i64 x5_1∧Aside0 (quinariaref01_Row.l0 kq x0_1 l1 x5_1=some r)∧Aside0 (kq≤k)∧Aside0 (Below w.heap.size w w'))
 case atStart=>exact⟨(a0),(0),u0,u0,H',⟨Nat.le_refl _⟩,⟨uB⟩⟩
 case round=>
  clear H';try clear c1;try clear p2
  obtain⟨x0_1,x5_1,rfl,rfl,HA,HK1,HB⟩:=hrel
  cases gk with
  |zero=>exact absurd HA.out (by simp[quinariaref01_Row.l0])
  |succ k1=>
   have H:=HA.out;clear HA;simp only[quinariaref01_Row.l0] at H
   by_cases c3:x5_1<(l1.length:Int)
   ·rw[if_pos c3] at H;replace c3:=decide_eq_true c3;obtain⟨c4,H⟩:=ifs H;have c4b0:=eq_true c4;have c4b1:decide (x0_1.size+1≤9223372036854775807)=true:=decide_eq_true c4;(try have c4b2:(9223372036854775807<x0_1.size+1)=False:=eq_false (Nat.not_lt.2 c4));obtain⟨c5,H⟩:=ifs H;replace c5:=decide_eq_true c5;replace H:=Option.bind_eq_some_iff.mp H;obtain⟨t355,A60,H⟩:=H;replace H:(if (x0_1++(⟨#[32]⟩:ByteArray)).size+t355.size≤9223372036854775807 then(quinariaref01_Row.l0 k1 ((x0_1++(⟨#[32]⟩:ByteArray))++t355) l1 (wrap64 (x5_1+1))) else(none))=some r:=H;have A6:=aM A60;clear A60;obtain⟨c7,H⟩:=ifs H;have c7b0:=eq_true c7;have c7b1:decide ((x0_1++(⟨#[32]⟩:ByteArray)).size+t355.size≤9223372036854775807)=true:=decide_eq_true c7;have c7':=c7;simp only[ByteArray.size_append] at c7';(try rw[show (⟨#[32]⟩:ByteArray).size=1 from rfl] at c7');have c7b3:=eq_true c7';have c7b4:=decide_eq_true c7';have c7b5:=eq_false (Nat.not_lt.2 c7');clear c7';(try have c7b2:(9223372036854775807<(x0_1++(⟨#[32]⟩:ByteArray)).size+t355.size)=False:=eq_false (Nat.not_lt.2 c7));have H':=aM H;clear H;have p354:0≤(x5_1:Int):=uD;have q354:x5_1<(l1.length:Int):=uD;obtain⟨ad354,e354,hx354_0⟩:=Kd.at_int HR1.out x5_1 p354 q354
    cases e354
    replace hx354_0:=hcell HB.out hx354_0;replace p354:=eq_true p354;replace q354:=eq_true q354
    go_wp2_with (first|((with_reducible refine gate_callee (f:=120) rfl ?_);refine goesL_ (some 18) rfl rfl Tryz.func120 (by kernel_rfl) rfl #[.int .i64 (rd l1 x5_1)] rfl uM ?_;(with_reducible refine(quinariaref01_Decimal.calls k1 (rd l1 x5_1) t355 _ A6.out).mono ?_);rintro e w8 ⟨rfl,hb⟩;refine⟨_,rfl,?_⟩;replace HB:=aM (below_step uB hb);(try clear hb);(try clear hb2);(try clear hk);(try clear hi)))
    go_roundg k1
    case measure=>have:=HK1.out;omega
    case rel=>exact⟨((x0_1++(⟨#[32]⟩:ByteArray))++t355),(wrap64 (x5_1+1)),u0,u0,H',⟨by have:=HK1.out;omega⟩,⟨uB⟩⟩
   ·rw[if_neg c3] at H;replace c3:=decide_eq_false c3;obtain rfl:=Option.some.inj H;go_wp2;go_ret;exact⟨uE,uB⟩
mutual
def quinariaref01_Sealed.l0:Nat→List ByteArray→Int→ByteArray→Int→Int→Option (ByteArray)
 |0,_,_,_,_,_=>none
 |k+1,x0,x1,x5,x6,x7=>if x7<(x0.length:Int) then(quinariaref01_Sealed.l1 k x0 x1 x5 x6 x7 0) else(if x1=0 then(none) else(if x5.size+4≤9223372036854775807 then((quinariaref01_Decimal.f k (wrap64 (Int.tdiv (Int.tmod x6 x1) 100))).bind fun t356=>(if (x5++(⟨#[101,110,100,32]⟩:ByteArray)).size+t356.size≤9223372036854775807 then((quinariaref01_Decimal.f k (Int.tmod (wrap64 (Int.tdiv (Int.tmod x6 x1) 10)) 10)).bind fun t357=>(if ((x5++(⟨#[101,110,100,32]⟩:ByteArray))++t356).size+t357.size≤9223372036854775807 then((quinariaref01_Decimal.f k (Int.tmod (Int.tmod x6 x1) 10)).bind fun t358=>(if (((x5++(⟨#[101,110,100,32]⟩:ByteArray))++t356)++t357).size+t358.size≤9223372036854775807 then(if ((((x5++(⟨#[101,110,100,32]⟩:ByteArray))++t356)++t357)++t358).size+1≤9223372036854775807 then(some (((((x5++(⟨#[101,110,100,32]⟩:ByteArray))++t356)++t357)++t358)++(⟨#[10]⟩:ByteArray))) else(none)) else(none))) else(none))) else(none))) else(none)))
def quinariaref01_Sealed.l1:Nat→List ByteArray→Int→ByteArray→Int→Int→Int→Option (ByteArray)
 |0,_,_,_,_,_,_=>none
 |k+1,x0,x1,x5,x6,x7,x8=>if 0≤x7 then(if x7<(x0.length:Int) then(if x8<((rdOf ByteArray.empty x0 x7).size:Int) then(if 0≤x8 then(quinariaref01_Sealed.l1 k x0 x1 x5 (wrap64 (x6+(wrap64 ((wrap64 ((wrap64 (bt (rdOf ByteArray.empty x0 x7) x8))*(wrap64 (x8+1))))*(wrap64 (x7+1)))))) x7 (wrap64 (x8+1))) else(none)) else(if x5.size+(rdOf ByteArray.empty x0 x7).size≤9223372036854775807 then(if (x5++(rdOf ByteArray.empty x0 x7)).size+1≤9223372036854775807 then(quinariaref01_Sealed.l0 k x0 x1 ((x5++(rdOf ByteArray.empty x0 x7))++(⟨#[10]⟩:ByteArray)) x6 (wrap64 (x7+1))) else(none)) else(none))) else(none)) else(none)
end
def quinariaref01_Sealed.f (k:Nat) (l0:List ByteArray) (a1:Int):Option (ByteArray):=quinariaref01_Sealed.l0 k l0 a1 (⟨#[]⟩:ByteArray) 0 0
set_option maxHeartbeats 8000000 in
set_option maxRecDepth 100000 in
theorem quinariaref01_Sealed.calls (k:Nat) (A0:Option Addr) (c0:Nat) (l0:List ByteArray) (a1:Int) (r:ByteArray) (w:World) (hr0:Kd.C Kd.string w A0 l0.length l0) (hc0:l0.length≤c0) (h:quinariaref01_Sealed.f k l0 a1=some r):
  Calls Tryz.prog 82 #[.slice A0 l0.length c0,.int .i64 a1] w fun e w'=>e=.returned (.string r)∧Below w.heap.size w w':=by
 have HR0:=aM hr0;have HC0:=aM hc0;clear hr0 hc0;have HB:=aM (Below.refl w.heap.size w);have H:(quinariaref01_Sealed.l0 k l0 a1 (⟨#[]⟩:ByteArray) 0 0)=some r:=h;clear h;have H':=aM H;clear H
 go_enter Tryz.func82,Tryz.ntmps82
 go_wp2
 go_loopg [5,6,7] k (fun kq v5 v6 v7 w'=>∃(x5_1:ByteArray) (x6_1:Int) (x7_1:Int),v5=.string x5_1∧v6=.int .i64 x6_1∧v7=.int .i64 x7_1∧Aside0 (quinariaref01_Sealed.l0 kq l0 a1 x5_1 x6_1 x7_1=some r)∧Aside0 (kq≤k)∧Aside0 (Below w.heap.size w w'))
 case atStart=>exact⟨((⟨#[]⟩:ByteArray)),(0),(0),u0,u0,u0,H',⟨Nat.le_refl _⟩,⟨uB⟩⟩
 case round=>
  clear H';(try clear p2);obtain⟨x5_1,x6_1,x7_1,rfl,rfl,rfl,HA,HK1,HB⟩:=hrel
  cases gk with
  |zero=>exact absurd HA.out (by simp[quinariaref01_Sealed.l0])
  |succ k1=>
   have H:=HA.out;clear HA;simp only[quinariaref01_Sealed.l0] at H
   by_cases c3:x7_1<(l0.length:Int)
   ·rw[if_pos c3] at H;replace c3:=decide_eq_true c3;have H':=aM H;clear H;go_wp2
    go_loopg [6,8] k1 (fun kq v6 v8 w'=>∃(x6_2:Int) (x8_2:Int),v6=.int .i64 x6_2∧v8=.int .i64 x8_2∧Aside0 (quinariaref01_Sealed.l1 kq l0 a1 x5_1 x6_2 x7_1 x8_2=some r)∧Aside0 (kq≤k1)∧Aside0 (Below w.heap.size w w'))
    case atStart=>exact⟨(x6_1),(0),u0,u0,H',⟨Nat.le_refl _⟩,⟨uB⟩⟩
    case round=>
     clear H';try clear p2;try clear c3;try clear c3b0;try clear p2
     obtain⟨x6_2,x8_2,rfl,rfl,HA,HK2,HB⟩:=hrel
     cases gk with
     |zero=>exact absurd HA.out (by simp[quinariaref01_Sealed.l1])
     |succ k2=>
      have H:=HA.out;clear HA;simp only[quinariaref01_Sealed.l1] at H;obtain⟨c4,H⟩:=ifs H;replace c4:=decide_eq_true c4;obtain⟨c5,H⟩:=ifs H;replace c5:=decide_eq_true c5
      by_cases c6:x8_2<((rdOf ByteArray.empty l0 x7_1).size:Int)
      ·rw[if_pos c6] at H;replace c6:=decide_eq_true c6;obtain⟨c7,H⟩:=ifs H;replace c7:=decide_eq_true c7;have H':=aM H;clear H;have p359:0≤(x7_1:Int):=uD;have q359:x7_1<(l0.length:Int):=uD;obtain⟨ad359,e359,hx359_0⟩:=Kd.at_string HR0.out x7_1 p359 q359
       cases e359
       replace hx359_0:=hcell HB.out hx359_0;replace p359:=eq_true p359;replace q359:=eq_true q359;have p360:0≤(x7_1:Int):=uD;have q360:x7_1<(l0.length:Int):=uD;obtain⟨ad360,e360,hx360_0⟩:=Kd.at_string HR0.out x7_1 p360 q360;obtain rfl:ad359=ad360:=(by injection e360);replace hx360_0:=hcell HB.out hx360_0;replace p360:=eq_true p360;replace q360:=eq_true q360;have p8:0≤(x8_2:Int):=uD;have q8:x8_2<((rdOf ByteArray.empty l0 x7_1).size:Int):=uD;have hx8:=bt_at (rdOf ByteArray.empty l0 x7_1) x8_2;replace p8:=eq_true p8;replace q8:=eq_true q8;go_wp2
       go_roundg k2
       case measure=>have:=HK1.out;have:=HK2.out;omega
       case rel=>exact⟨(wrap64 (x6_2+(wrap64 ((wrap64 ((wrap64 (bt (rdOf ByteArray.empty l0 x7_1) x8_2))*(wrap64 (x8_2+1))))*(wrap64 (x7_1+1)))))),(wrap64 (x8_2+1)),u0,u0,H',⟨by have:=HK1.out;have:=HK2.out;omega⟩,⟨uB⟩⟩
      ·rw[if_neg c6] at H;replace c6:=decide_eq_false c6;obtain⟨c9,H⟩:=ifs H;have c9b0:=eq_true c9;have c9b1:decide (x5_1.size+(rdOf ByteArray.empty l0 x7_1).size≤9223372036854775807)=true:=decide_eq_true c9;(try have c9b2:(9223372036854775807<x5_1.size+(rdOf ByteArray.empty l0 x7_1).size)=False:=eq_false (Nat.not_lt.2 c9));obtain⟨c10,H⟩:=ifs H;have c10b0:=eq_true c10;have c10b1:decide ((x5_1++(rdOf ByteArray.empty l0 x7_1)).size+1≤9223372036854775807)=true:=decide_eq_true c10;have c10':=c10;simp only[ByteArray.size_append] at c10';have c10b3:=eq_true c10';have c10b4:=decide_eq_true c10';have c10b5:=eq_false (Nat.not_lt.2 c10');clear c10';(try have c10b2:(9223372036854775807<(x5_1++(rdOf ByteArray.empty l0 x7_1)).size+1)=False:=eq_false (Nat.not_lt.2 c10));have H':=aM H;clear H;have p359:0≤(x7_1:Int):=uD;have q359:x7_1<(l0.length:Int):=uD;obtain⟨ad359,e359,hx359_0⟩:=Kd.at_string HR0.out x7_1 p359 q359
       cases e359
       replace hx359_0:=hcell HB.out hx359_0;replace p359:=eq_true p359;replace q359:=eq_true q359;have p361:0≤(x7_1:Int):=uD;have q361:x7_1<(l0.length:Int):=uD;obtain⟨ad361,e361,hx361_0⟩:=Kd.at_string HR0.out x7_1 p361 q361;obtain rfl:ad359=ad361:=(by injection e361);replace hx361_0:=hcell HB.out hx361_0;replace p361:=eq_true p361;replace q361:=eq_true q361;go_wp2
       go_roundg k2
       case measure=>have:=HK1.out;have:=HK2.out;omega
       case rel=>exact⟨((x5_1++(rdOf ByteArray.empty l0 x7_1))++(⟨#[10]⟩:ByteArray)),(x6_2),(wrap64 (x7_1+1)),u0,u0,u0,H',⟨by have:=HK1.out;have:=HK2.out;omega⟩,⟨uB⟩⟩
   ·rw[if_neg c3] at H;replace c3:=decide_eq_false c3
    by_cases c11:a1=0
    ·rw[if_pos c11] at H;exact absurd H (by simp)
    ·rw[if_neg c11] at H;have c11b0:(a1==0)=false:=beq_eq_false_iff_ne.mpr c11;have c11b1:(a1 !=0)=true:=bne_iff_ne.mpr c11;obtain⟨c12,H⟩:=ifs H;have c12b0:=eq_true c12;have c12b1:decide (x5_1.size+4≤9223372036854775807)=true:=decide_eq_true c12;(try have c12b2:(9223372036854775807<x5_1.size+4)=False:=eq_false (Nat.not_lt.2 c12));replace H:=Option.bind_eq_some_iff.mp H;obtain⟨t356,A130,H⟩:=H;replace H:(if (x5_1++(⟨#[101,110,100,32]⟩:ByteArray)).size+t356.size≤9223372036854775807 then((quinariaref01_Decimal.f k1 (Int.tmod (wrap64 (Int.tdiv (Int.tmod x6_1 a1) 10)) 10)).bind fun t357=>(if ((x5_1++(⟨#[101,110,100,32]⟩:ByteArray))++t356).size+t357.size≤9223372036854775807 then((quinariaref01_Decimal.f k1 (Int.tmod (Int.tmod x6_1 a1) 10)).bind fun t358=>(if (((x5_1++(⟨#[101,110,100,32]⟩:ByteArray))++t356)++t357).size+t358.size≤9223372036854775807 then(if ((((x5_1++(⟨#[101,110,100,32]⟩:ByteArray))++t356)++t357)++t358).size+1≤9223372036854775807 then(some (((((x5_1++(⟨#[101,110,100,32]⟩:ByteArray))++t356)++t357)++t358)++(⟨#[10]⟩:ByteArray))) else(none)) else(none))) else(none))) else(none))=some r:=H;have A13:=aM A130;clear A130;obtain⟨c14,H⟩:=ifs H;have c14b0:=eq_true c14;have c14b1:decide ((x5_1++(⟨#[101,110,100,32]⟩:ByteArray)).size+t356.size≤9223372036854775807)=true:=decide_eq_true c14;have c14':=c14;simp only[ByteArray.size_append] at c14';(try rw[show (⟨#[101,110,100,32]⟩:ByteArray).size=4 from rfl] at c14');have c14b3:=eq_true c14';have c14b4:=decide_eq_true c14';have c14b5:=eq_false (Nat.not_lt.2 c14');clear c14';(try have c14b2:(9223372036854775807<(x5_1++(⟨#[101,110,100,32]⟩:ByteArray)).size+t356.size)=False:=eq_false (Nat.not_lt.2 c14));replace H:=Option.bind_eq_some_iff.mp H;obtain⟨t357,A150,H⟩:=H;replace H:(if ((x5_1++(⟨#[101,110,100,32]⟩:ByteArray))++t356).size+t357.size≤9223372036854775807 then((quinariaref01_Decimal.f k1 (Int.tmod (Int.tmod x6_1 a1) 10)).bind fun t358=>(if (((x5_1++(⟨#[101,110,100,32]⟩:ByteArray))++t356)++t357).size+t358.size≤9223372036854775807 then(if ((((x5_1++(⟨#[101,110,100,32]⟩:ByteArray))++t356)++t357)++t358).size+1≤9223372036854775807 then(some (((((x5_1++(⟨#[101,110,100,32]⟩:ByteArray))++t356)++t357)++t358)++(⟨#[10]⟩:ByteArray))) else(none)) else(none))) else(none))=some r:=H;have A15:=aM A150;clear A150;obtain⟨c16,H⟩:=ifs H;have c16b0:=eq_true c16;have c16b1:decide (((x5_1++(⟨#[101,110,100,32]⟩:ByteArray))++t356).size+t357.size≤9223372036854775807)=true:=decide_eq_true c16;have c16':=c16;simp only[ByteArray.size_append] at c16';(try rw[show (⟨#[101,110,100,32]⟩:ByteArray).size=4 from rfl] at c16');have c16b3:=eq_true c16';have c16b4:=decide_eq_true c16';have c16b5:=eq_false (Nat.not_lt.2 c16');clear c16';(try have c16b2:(9223372036854775807<((x5_1++(⟨#[101,110,100,32]⟩:ByteArray))++t356).size+t357.size)=False:=eq_false (Nat.not_lt.2 c16));replace H:=Option.bind_eq_some_iff.mp H;obtain⟨t358,A170,H⟩:=H;replace H:(if (((x5_1++(⟨#[101,110,100,32]⟩:ByteArray))++t356)++t357).size+t358.size≤9223372036854775807 then(if ((((x5_1++(⟨#[101,110,100,32]⟩:ByteArray))++t356)++t357)++t358).size+1≤9223372036854775807 then(some (((((x5_1++(⟨#[101,110,100,32]⟩:ByteArray))++t356)++t357)++t358)++(⟨#[10]⟩:ByteArray))) else(none)) else(none))=some r:=H;have A17:=aM A170;clear A170;obtain⟨c18,H⟩:=ifs H;have c18b0:=eq_true c18;have c18b1:decide ((((x5_1++(⟨#[101,110,100,32]⟩:ByteArray))++t356)++t357).size+t358.size≤9223372036854775807)=true:=decide_eq_true c18;have c18':=c18;simp only[ByteArray.size_append] at c18';(try rw[show (⟨#[101,110,100,32]⟩:ByteArray).size=4 from rfl] at c18');have c18b3:=eq_true c18';have c18b4:=decide_eq_true c18';have c18b5:=eq_false (Nat.not_lt.2 c18');clear c18';(try have c18b2:(9223372036854775807<(((x5_1++(⟨#[101,110,100,32]⟩:ByteArray))++t356)++t357).size+t358.size)=False:=eq_false (Nat.not_lt.2 c18));obtain⟨c19,H⟩:=ifs H;have c19b0:=eq_true c19;have c19b1:decide (((((x5_1++(⟨#[101,110,100,32]⟩:ByteArray))++t356)++t357)++t358).size+1≤9223372036854775807)=true:=decide_eq_true c19;have c19':=c19;simp only[ByteArray.size_append] at c19';(try rw[show (⟨#[101,110,100,32]⟩:ByteArray).size=4 from rfl] at c19');have c19b3:=eq_true c19';have c19b4:=decide_eq_true c19';have c19b5:=eq_false (Nat.not_lt.2 c19');clear c19';(try have c19b2:(9223372036854775807<((((x5_1++(⟨#[101,110,100,32]⟩:ByteArray))++t356)++t357)++t358).size+1)=False:=eq_false (Nat.not_lt.2 c19));obtain rfl:=Option.some.inj H
     go_wp2_with (first|((with_reducible refine gate_callee (f:=120) rfl ?_);refine goesL_ (some 53) rfl rfl Tryz.func120 (by kernel_rfl) rfl #[.int .i64 (wrap64 (Int.tdiv (Int.tmod x6_1 a1) 100))] rfl uM ?_;(with_reducible refine(quinariaref01_Decimal.calls k1 (wrap64 (Int.tdiv (Int.tmod x6_1 a1) 100)) t356 _ A13.out).mono ?_);rintro e w20 ⟨rfl,hb⟩;refine⟨_,rfl,?_⟩;replace HB:=aM (below_step uB hb);(try clear hb);(try clear hb2);(try clear hk);(try clear hi))|((with_reducible refine gate_callee (f:=120) rfl ?_);refine goesL_ (some 58) rfl rfl Tryz.func120 (by kernel_rfl) rfl #[.int .i64 (Int.tmod (wrap64 (Int.tdiv (Int.tmod x6_1 a1) 10)) 10)] rfl uM ?_;(with_reducible refine(quinariaref01_Decimal.calls k1 (Int.tmod (wrap64 (Int.tdiv (Int.tmod x6_1 a1) 10)) 10) t357 _ A15.out).mono ?_);rintro e w21 ⟨rfl,hb⟩;refine⟨_,rfl,?_⟩;replace HB:=aM (below_step uB hb);(try clear hb);(try clear hb2);(try clear hk);(try clear hi))|((with_reducible refine gate_callee (f:=120) rfl ?_);refine goesL_ (some 62) rfl rfl Tryz.func120 (by kernel_rfl) rfl #[.int .i64 (Int.tmod (Int.tmod x6_1 a1) 10)] rfl uM ?_;(with_reducible refine(quinariaref01_Decimal.calls k1 (Int.tmod (Int.tmod x6_1 a1) 10) t358 _ A17.out).mono ?_);rintro e w22 ⟨rfl,hb⟩;refine⟨_,rfl,?_⟩;replace HB:=aM (below_step uB hb);(try clear hb);(try clear hb2);(try clear hk);(try clear hi)))
     go_ret;exact⟨uE,uB⟩
mutual
def quinariaref07_Print.l0:Nat→List ByteArray→Int→Int→List (S77)→List (S51)→Option (ByteArray)
 |0,_,_,_,_,_=>none
 |k+1,x3,x4,x363000,x363001,x363002=>if x4<(x363001.length:Int) then(if 0≤x4 then((quinariaref01_Row.f k (⟨#[110,111,100,101]⟩:ByteArray) (([(rd_T77 x363001 x4).f0,(rd_T77 x363001 x4).f1]:List Int))).bind fun t375=>(if x3.length<8796093022208 then(quinariaref07_Print.l0 k (x3++[t375]) (wrap64 (x4+1)) x363000 x363001 x363002) else(none))) else(none)) else(quinariaref07_Print.l1 k x3 0 x363000 x363001 x363002)
def quinariaref07_Print.l1:Nat→List ByteArray→Int→Int→List (S77)→List (S51)→Option (ByteArray)
 |0,_,_,_,_,_=>none
 |k+1,x3,x5,x363000,x363001,x363002=>if x5<(x363002.length:Int) then(if 0≤x5 then((quinariaref01_Row.f k (⟨#[111,117,116,108,101,116]⟩:ByteArray) (([(rd_T51 x363002 x5).f0,(rd_T51 x363002 x5).f1,(rd_T51 x363002 x5).f2]:List Int))).bind fun t384=>(if x3.length<8796093022208 then(quinariaref07_Print.l1 k (x3++[t384]) (wrap64 (x5+1)) x363000 x363001 x363002) else(none))) else(none)) else((quinariaref01_Sealed.f k x3 163).bind fun t388=>(some t388))
end
def quinariaref07_Print.f (k:Nat) (a0_0:Int) (l0_1:List (S77)) (l0_2:List (S51)):Option (ByteArray):=(quinariaref01_Row.f k (⟨#[100,114,111,117,103,104,116]⟩:ByteArray) (([a0_0]:List Int))).bind fun t366=>(quinariaref07_Print.l0 k (([t366]:List ByteArray)) 0 a0_0 l0_1 l0_2)
def quinariaref07_Print.T5:Bool×List (List Nat×List Nat):=(true,[([],[]),([],[]),([1],[1]),([],[]),([2,3],[2,3]),([4],[4]),([5],[5]),([],[]),([7],[7]),([],[]),([8,9],[8,9]),([10],[10]),([11],[11]),([6,12],[6,12]),([13],[13]),([14],[14]),([0,15,14],[0,15]),([16,16,0,1,2,3,4,5,6,7,8,9,10,11,12,13,14,15,16],[0,16])])
def quinariaref07_Print.B5:List Nat:=[0,0,2,0,14,30,62,0,128,0,896,1920,3968,8190,16382,32766,65535,131071]
theorem quinariaref07_Print.tab5:rtab .any (opsOf Tryz.f41 5)=quinariaref07_Print.T5:=by kernel_rfl
theorem quinariaref07_Print.bits5:waitsOk quinariaref07_Print.T5.2 quinariaref07_Print.B5=true:=by kernel_rfl
set_option maxHeartbeats 8000000 in
set_option maxRecDepth 100000 in
theorem quinariaref07_Print.calls (k:Nat) (a0_0:Int) (A0_1:Option Addr) (c0_1:Nat) (l0_1:List (S77)) (A0_2:Option Addr) (c0_2:Nat) (l0_2:List (S51)) (r:ByteArray) (w:World) (hr0_1:Kd.C k77 w A0_1 l0_1.length l0_1) (hc0_1:l0_1.length≤c0_1) (hr0_2:Kd.C k51 w A0_2 l0_2.length l0_2) (hc0_2:l0_2.length≤c0_2) (h:quinariaref07_Print.f k a0_0 l0_1 l0_2=some r):
  Calls Tryz.prog 41 #[.agg #[.int .i64 a0_0,.slice A0_1 l0_1.length c0_1,.slice A0_2 l0_2.length c0_2]] w fun e w'=>e=.returned (.string r)∧Below w.heap.size w w':=by
 have hu25:=Tryz.underlying25;have hu51:=Tryz.underlying51;have HR0_1:=aM hr0_1;have HC0_1:=aM hc0_1;clear hr0_1 hc0_1;have HR0_2:=aM hr0_2;have HC0_2:=aM hc0_2;clear hr0_2 hc0_2;have HB:=aM (Below.refl w.heap.size w);have H:((quinariaref01_Row.f k (⟨#[100,114,111,117,103,104,116]⟩:ByteArray) (([a0_0]:List Int))).bind fun t366=>(quinariaref07_Print.l0 k (([t366]:List ByteArray)) 0 a0_0 l0_1 l0_2))=some r:=h;clear h;obtain⟨y363,hy363⟩:∃y_:List Int,y_=(([a0_0]:List Int)):=⟨_,rfl⟩;rw[← hy363] at H;(try replace H:=(Option.bind_some _ _).symm.trans H)
 have Ny363:=aM hy363;clear hy363;replace H:=Option.bind_eq_some_iff.mp H;obtain⟨t366,A20,H⟩:=H;replace H:(quinariaref07_Print.l0 k (([t366]:List ByteArray)) 0 a0_0 l0_1 l0_2)=some r:=H;have A2:=aM A20;clear A20;obtain⟨y367,hy367⟩:∃y_:List ByteArray,y_=(([t366]:List ByteArray)):=⟨_,rfl⟩;rw[← hy367] at H;(try replace H:=(Option.bind_some _ _).symm.trans H)
 have Ny367:=aM hy367;clear hy367;have H':=aM H;clear H
 go_enter Tryz.func41,Tryz.ntmps41
 go_wp2_with (first|((with_reducible refine gate_dst (N:=1) rfl ?_);refine bxe 1 #[.int .i64 a0_0,.slice A0_1 l0_1.length c0_1,.slice A0_2 l0_2.length c0_2] 25 ?_;intro gb362 hg w3 hbox hb;have n0_:=aM (below_step uB hb);have n1_:=aM (hbox);have n2_:=gw hg;have n3_:=gw hg;clear HB;have HB:=n0_;have BK362:=n1_;have GW362:=n2_;have GE362:=n3_;clear n0_ n1_ n2_ n3_;clear hb hbox hg;obtain⟨hcz4_0,hcz4_1,hcz4_2⟩:=cz3 BK362.out;obtain⟨hfz4_0,hfz4_1,hfz4_2⟩:=fz3 BK362.out)|((with_reducible refine gate_dst (N:=9) rfl ?_);refine Kd.R_lit (Kd.int .i64) _ 3 ?hg (N:=9) ?hd (xs:=([a0_0]:List Int)) (inner:=[.int .i64 a0_0]) (ok:=fun _=>True) (okp:=fun _=>True) ?hr ?hp (fun _ hk=>hk) trivial (Below.refl _ _) (Nat.le_refl _) (by simp) ?_;(case hd=>rfl);(case hg=>rfl);(case hr=>first|(go_simp;done)|(go_simp;rfl));(case hp=>exact(Reps.one (show Kd.M (Kd.int .i64) _ _ _ a0_0 [.int .i64 a0_0] from rfl) (Reps.none _ _)));intro v364 w5 ho6 hb hg_ hnew_;clear hg_ hnew_;(first|rw[← Ny363.out] at ho6|(simp only[Int.reduceToNat] at ho6;rw[← Ny363.out] at ho6));have HO365:=aM (Kd.R_lower ho6 (below_size uB));replace BK362:=aM (blk_below (uK BK362.out) hb);replace HB:=aM (below_step uB hb);clear hb ho6;obtain⟨Ao7,co7,eo7⟩:=Kd.R_slice HO365.out;subst eo7)|((with_reducible refine gate_callee (f:=81) rfl ?_);refine goesL_ (some 10) rfl rfl Tryz.func81 (by kernel_rfl) rfl #[.string (⟨#[100,114,111,117,103,104,116]⟩:ByteArray),.slice Ao7 y363.length co7] rfl uM ?_;(with_reducible refine(quinariaref01_Row.calls k (⟨#[100,114,111,117,103,104,116]⟩:ByteArray) _ _ y363 t366 _ ?side1 ?side2 A2.out).mono ?_);(case side1=>exact uC ((Kd.R_reads' HO365.out).2.2));(case side2=>exact(Kd.R_reads' HO365.out).2.1);rintro e w8 ⟨rfl,hb⟩;refine⟨_,rfl,?_⟩;replace HO365:=aM (Kd.R_below (uR HO365.out) hb);replace BK362:=aM (blk_below (uK BK362.out) hb);replace HB:=aM (below_step uB hb);(try clear hb);(try clear hb2);(try clear hk);(try clear hi))|((with_reducible refine gate_dst (N:=11) rfl ?_);refine Kd.R_lit Kd.string _ 9 ?hg (N:=11) ?hd (xs:=([t366]:List ByteArray)) (inner:=[.string t366]) (ok:=fun _=>True) (okp:=fun _=>True) ?hr ?hp (fun _ hk=>hk) trivial (Below.refl _ _) (Nat.le_refl _) (by simp) ?_;(case hd=>rfl);(case hg=>rfl);(case hr=>first|(go_simp;done)|(go_simp;rfl));(case hp=>exact(Reps.one (show Kd.M Kd.string _ _ _ t366 [.string t366] from rfl) (Reps.none _ _)));intro v368 w9 ho10 hb hg_ hnew_;clear hg_ hnew_;(first|rw[← Ny367.out] at ho10|(simp only[Int.reduceToNat] at ho10;rw[← Ny367.out] at ho10));replace HO365:=aM (Kd.R_below (uR HO365.out) hb);have HO369:=aM (Kd.R_lower ho10 (below_size uB));replace BK362:=aM (blk_below (uK BK362.out) hb);replace HB:=aM (below_step uB hb);clear hb ho10))
 go_loopg [3,4] k (fun kq v3 v4 w'=>∃(x3_1:List ByteArray) (x4_1:Int),v4=.int .i64 x4_1∧Aside0 (quinariaref07_Print.l0 kq x3_1 x4_1 a0_0 l0_1 l0_2=some r)∧Aside0 (kq≤k)∧Aside0 (Kd.R Kd.string 9 w' w.heap.size (fun _=>True) v3 x3_1)∧Aside0 (w'.heap[gb362]? =some (.cells #[.int .i64 a0_0,(.slice A0_1 l0_1.length c0_1),(.slice A0_2 l0_2.length c0_2)] 25 (0,0)))∧Aside0 (Below w.heap.size w w'))
 case atStart=>exact⟨(y367),(0),u0,H',⟨Nat.le_refl _⟩,⟨uR HO369.out⟩,⟨uK BK362.out⟩,⟨uB⟩⟩
 case round=>
  clear H';obtain⟨x3_1,x4_1,rfl,HA,HK1,HO_3,BK362,HB⟩:=hrel
  cases gk with
  |zero=>exact absurd HA.out (by simp[quinariaref07_Print.l0])
  |succ k1=>
   have H:=HA.out;clear HA;simp only[quinariaref07_Print.l0] at H
   by_cases c11:x4_1<(l0_1.length:Int)
   ·rw[if_pos c11] at H;replace c11:=decide_eq_true c11;obtain⟨c12,H⟩:=ifs H;replace c12:=decide_eq_true c12;obtain⟨y372,hy372⟩:∃y_:List Int,y_=(([(rd_T77 l0_1 x4_1).f0,(rd_T77 l0_1 x4_1).f1]:List Int)):=⟨_,rfl⟩;rw[← hy372] at H;(try replace H:=(Option.bind_some _ _).symm.trans H)
    have Ny372:=aM hy372;clear hy372;replace H:=Option.bind_eq_some_iff.mp H;obtain⟨t375,A130,H⟩:=H;replace H:(if x3_1.length<8796093022208 then(quinariaref07_Print.l0 k1 (x3_1++[t375]) (wrap64 (x4_1+1)) a0_0 l0_1 l0_2) else(none))=some r:=H;have A13:=aM A130;clear A130;obtain⟨c14,H⟩:=ifs H;have LMc14:=aM c14;clear c14;obtain⟨y376,hy376⟩:∃y_:List ByteArray,y_=(x3_1++[t375]):=⟨_,rfl⟩;rw[← hy376] at H;(try replace H:=(Option.bind_some _ _).symm.trans H)
    have Ny376:=aM hy376;clear hy376;have H':=aM H;clear H;obtain⟨hcz15_0,hcz15_1,hcz15_2⟩:=cz3 BK362.out;obtain⟨hfz15_0,hfz15_1,hfz15_2⟩:=fz3 BK362.out;(try go_wp2);replace HO_3:=aM (Kd.R_drew HO_3.out);replace BK362:=aM (blk_drew BK362.out);replace HB:=aM (below_drew1 HB.out);have p370:0≤(x4_1:Int):=uD;have q370:x4_1<(l0_1.length:Int):=uD;obtain⟨ad370,e370,hx370_0,hx370_1⟩:=at_T77 HR0_1.out x4_1 p370 q370;have hw370_1:=hx370_1;have hw370_0:=hx370_0
    cases e370
    replace hx370_0:=hcell HB.out hx370_0;replace hx370_1:=hcell HB.out hx370_1;replace p370:=eq_true p370;replace q370:=eq_true q370;have p371:0≤(x4_1:Int):=uD;have q371:x4_1<(l0_1.length:Int):=uD;obtain⟨ad371,e371,hx371_0,hx371_1⟩:=at_T77 HR0_1.out x4_1 p371 q371;have hw371_1:=hx371_1;have hw371_0:=hx371_0;obtain rfl:ad370=ad371:=(by injection e371);replace hx371_0:=hcell HB.out hx371_0;replace hx371_1:=hcell HB.out hx371_1;replace p371:=eq_true p371;replace q371:=eq_true q371;refine start_ (n:=18) (S:=fun w'=>w'.cell? ⟨gb362,0,none⟩=some (.int .i64 a0_0)∧w'.cell? ⟨gb362,1,none⟩=some (.slice (some ad370) l0_1.length c0_1)∧w'.cell? ⟨gb362,2,none⟩=some (.slice A0_2 l0_2.length c0_2)∧w'.cell? (ad370.add ((x4_1).toNat*2))=some (.int .i64 ((rd_T77 l0_1 x4_1).f0))∧w'.cell? ⟨(ad370.add ((x4_1).toNat*2)).block,(ad370.add ((x4_1).toNat*2)).off+1,none⟩=some (.int .i64 ((rd_T77 l0_1 x4_1).f1))∧w'.cell? (ad370.add ((x4_1).toNat*2))=some (.int .i64 ((rd_T77 l0_1 x4_1).f0))∧w'.cell? ⟨(ad370.add ((x4_1).toNat*2)).block,(ad370.add ((x4_1).toNat*2)).off+1,none⟩=some (.int .i64 ((rd_T77 l0_1 x4_1).f1))) (ds:=[]) (bl 18 0) (by kernel_rfl) rfl rfl ⟨(blk_cell BK362.out 0).trans rfl,(blk_cell BK362.out 1).trans rfl,(blk_cell BK362.out 2).trans rfl,(hcell HB.out hw370_0),(hcell HB.out hw370_1),(hcell HB.out hw371_0),(hcell HB.out hw371_1)⟩ (fun hHeld=>?_);refine with_tabW quinariaref07_Print.tab5 quinariaref07_Print.bits5 (fun HT_ HW_=>?_)
    generalize wr.drew=w16 at HO_3 BK362 HB hx370_0 hx370_1 hx371_0 hx371_1 hHeld⊢;refine pu 0 19 18 1 ?_;refine pu 1 20 18 3 ?_;refine pu 3 22 18 11 ?_;refine pu 7 26 18 139 ?_;refine pu 9 28 18 651 ?_;refine tk7 2 21 18 655 hHeld ?_;refine pu 4 23 18 671 ?_;refine pu 5 24 18 703 ?_;refine tk7 6 25 18 767 hHeld ?_;refine tk7 8 27 18 1023 hHeld ?_;refine pu 10 29 18 2047 ?_;refine pu 11 30 18 4095 ?_;refine tk7 12 31 18 8191 hHeld ?_;refine one_ (i:=13) (N:=some 32) (bl 18 16383) rfl rfl (one_of HT_.out (by kernel_rfl)) (by decide) (fun K hK=>?_);refine Kd.R_lit_step (Kd.int .i64) _ 3 ?hg (N:=32) ?hd (xs:=([(rd_T77 l0_1 x4_1).f0,(rd_T77 l0_1 x4_1).f1]:List Int)) (inner:=[.int .i64 ((rd_T77 l0_1 x4_1).f0),.int .i64 ((rd_T77 l0_1 x4_1).f1)]) (ok:=fun _=>True) (okp:=fun _=>True) ?hr ?hp (fun _ hk=>hk) trivial (Below.refl _ _) (Nat.le_refl _) (by simp) ?_;(case hd=>rfl);(case hg=>rfl);(case hr=>first|(go_simp;done)|(go_simp;rfl));(case hp=>exact(Reps.one (show Kd.M (Kd.int .i64) _ _ _ ((rd_T77 l0_1 x4_1).f0) [.int .i64 ((rd_T77 l0_1 x4_1).f0)] from rfl) (Reps.one (show Kd.M (Kd.int .i64) _ _ _ ((rd_T77 l0_1 x4_1).f1) [.int .i64 ((rd_T77 l0_1 x4_1).f1)] from rfl) (Reps.none _ _))))
    intro v373 w17 ho18 hb hg_ hnew_;clear hg_ hnew_;(first|rw[← Ny372.out] at ho18|(simp only[Int.reduceToNat] at ho18;rw[← Ny372.out] at ho18));replace HO_3:=aM (Kd.R_below (uR HO_3.out) hb);have HO374:=aM (Kd.R_lower ho18 (below_size uB));replace BK362:=aM (blk_below (uK BK362.out) hb);replace HB:=aM (below_step uB hb);clear hb ho18;obtain⟨Ao19,co19,eo19⟩:=Kd.R_slice HO374.out;(first|subst eo19|(injection eo19 with f1_ f2_ f3_;have f4_:=f1_.symm;have f5_:=f3_.symm;clear f1_ f2_ f3_;subst f4_;subst f5_));refine hK.out _ _ ⟨(blk_cell BK362.out 0).trans rfl,(blk_cell BK362.out 1).trans rfl,(blk_cell BK362.out 2).trans rfl,(hcell HB.out hw370_0),(hcell HB.out hw370_1),(hcell HB.out hw371_0),(hcell HB.out hw371_1)⟩ (fun hHeld=>?_);clear hK K;refine nm ?_;refine one_ (i:=14) (N:=some 33) (bl 18 32767) rfl rfl (one_of HT_.out (by kernel_rfl)) (by decide) (fun K hK=>?_);refine goes_ Tryz.func81 (by kernel_rfl) rfl #[.string (⟨#[110,111,100,101]⟩:ByteArray),.slice Ao19 y372.length co19] (by rfl) rfl rfl uM ?_;(with_reducible refine(quinariaref01_Row.calls k1 (⟨#[110,111,100,101]⟩:ByteArray) _ _ y372 t375 _ ?side1 ?side2 A13.out).mono ?_);(case side1=>exact uC ((Kd.R_reads' HO374.out).2.2));(case side2=>exact(Kd.R_reads' HO374.out).2.1);rintro e w20 ⟨rfl,hb⟩;refine⟨_,rfl,?_⟩;replace HO_3:=aM (Kd.R_below (uR HO_3.out) hb);replace HO374:=aM (Kd.R_below (uR HO374.out) hb);replace BK362:=aM (blk_below (uK BK362.out) hb);replace HB:=aM (below_step uB hb);(try clear hb);(try clear hb2);(try clear hk);(try clear hi);refine hK.out _ _ ⟨(blk_cell BK362.out 0).trans rfl,(blk_cell BK362.out 1).trans rfl,(blk_cell BK362.out 2).trans rfl,(hcell HB.out hw370_0),(hcell HB.out hw370_1),(hcell HB.out hw371_0),(hcell HB.out hw371_1)⟩ (fun hHeld=>?_);clear hK K;refine nm ?_;refine one_ (i:=15) (N:=some 34) (bl 18 65535) rfl rfl (one_of HT_.out (by kernel_rfl)) (by decide) (fun K hK=>?_);refine value_ (w1:=?_) (v:=?_) (by rfl) rfl ?_ ?_;rotate_left 2
    ·go_simp
     constructor
     ·rfl
     ·rfl
    refine hK.out _ _ ⟨(blk_cell (blk_alloc BK362.out _) 0).trans rfl,(blk_cell (blk_alloc BK362.out _) 1).trans rfl,(blk_cell (blk_alloc BK362.out _) 2).trans rfl,(World.cell?_alloc_lt _ _ _ (World.block_lt_of_cell? _ _ ((hcell HB.out hw370_0)))).trans ((hcell HB.out hw370_0)),(World.cell?_alloc_lt _ _ _ (World.block_lt_of_cell? _ _ ((hcell HB.out hw370_1)))).trans ((hcell HB.out hw370_1)),(World.cell?_alloc_lt _ _ _ (World.block_lt_of_cell? _ _ ((hcell HB.out hw371_0)))).trans ((hcell HB.out hw371_0)),(World.cell?_alloc_lt _ _ _ (World.block_lt_of_cell? _ _ ((hcell HB.out hw371_1)))).trans ((hcell HB.out hw371_1))⟩ (fun hHeld=>?_);clear hK K;refine nm ?_;refine one_ (i:=16) (N:=some 35) (bl 18 131071) rfl rfl (one_of HT_.out (by kernel_rfl)) (by decide) (fun K hK=>?_);refine Kd.R_append_step Kd.string (w0:=w) w.heap.size (by rfl) (.tmp 19) (.tmp 34) 108 9 (.string ⟨#[]⟩) 16 rfl Tryz.underlying108 info9 rfl (by decide) (by omega) u3 x3_1 t375 [.string t375] (fun _=>True) (fun _=>False) rfl rfl ?aP (fun _ hk=>hk.elim) ?aF ?aO ?aB ?aS ?aL ?_;(case aP=>exact rfl);(case aB=>exact uB);(case aF=>exact(fun _ _=>trivial));(case aO=>exact(uR HO_3.out));(case aS=>exact(below_size uB));(case aL=>have:=LMc14.out;omega);intro v377 w21 ho hb hg hat;rw[← Ny376.out] at ho;replace BK362:=aM (blk_grown (uK BK362.out) hg (Kd.R_ne HO_3.out BK362.out (by decide)));replace HO374:=aM (Kd.R_over' (uR HO374.out) (Kd.R_typed (uR HO_3.out)) (by decide) hg);have HO378:=aM (ho);replace HB:=aM (hb);clear HO_3;clear ho hb hg hat;refine hK.out _ _ ⟨(blk_cell BK362.out 0).trans rfl,(blk_cell BK362.out 1).trans rfl,(blk_cell BK362.out 2).trans rfl,(hcell HB.out hw370_0),(hcell HB.out hw370_1),(hcell HB.out hw371_0),(hcell HB.out hw371_1)⟩ (fun hHeld=>?_);clear hK K;refine nm ?_;refine pu 17 3 18 262143 ?_;refine done_ (done_of HT_.out (by kernel_rfl)) ?_;try go_wp2
    go_roundg k1
    case measure=>have:=HK1.out;omega
    case rel=>exact⟨(y376),(wrap64 (x4_1+1)),u0,H',⟨by have:=HK1.out;omega⟩,⟨uR HO378.out⟩,⟨uK BK362.out⟩,⟨uB⟩⟩
   ·rw[if_neg c11] at H;replace c11:=decide_eq_false c11;have H':=aM H;clear H;obtain⟨hcz22_0,hcz22_1,hcz22_2⟩:=cz3 BK362.out;obtain⟨hfz22_0,hfz22_1,hfz22_2⟩:=fz3 BK362.out;go_wp2
    go_loopg [3,5] k1 (fun kq v3 v5 w'=>∃(x3_2:List ByteArray) (x5_2:Int),v5=.int .i64 x5_2∧Aside0 (quinariaref07_Print.l1 kq x3_2 x5_2 a0_0 l0_1 l0_2=some r)∧Aside0 (kq≤k1)∧Aside0 (Kd.R Kd.string 9 w' w.heap.size (fun _=>True) v3 x3_2)∧Aside0 (w'.heap[gb362]? =some (.cells #[.int .i64 a0_0,(.slice A0_1 l0_1.length c0_1),(.slice A0_2 l0_2.length c0_2)] 25 (0,0)))∧Aside0 (Below w.heap.size w w'))
    case atStart=>exact⟨(x3_1),(0),u0,H',⟨Nat.le_refl _⟩,⟨uR HO_3.out⟩,⟨uK BK362.out⟩,⟨uB⟩⟩
    case round=>
     clear H';obtain⟨x3_2,x5_2,rfl,HA,HK2,HO_3,BK362,HB⟩:=hrel
     cases gk with
     |zero=>exact absurd HA.out (by simp[quinariaref07_Print.l1])
     |succ k2=>
      have H:=HA.out;clear HA;simp only[quinariaref07_Print.l1] at H
      by_cases c23:x5_2<(l0_2.length:Int)
      ·rw[if_pos c23] at H;replace c23:=decide_eq_true c23;obtain⟨c24,H⟩:=ifs H;replace c24:=decide_eq_true c24;obtain⟨y381,hy381⟩:∃y_:List Int,y_=(([(rd_T51 l0_2 x5_2).f0,(rd_T51 l0_2 x5_2).f1,(rd_T51 l0_2 x5_2).f2]:List Int)):=⟨_,rfl⟩;rw[← hy381] at H;(try replace H:=(Option.bind_some _ _).symm.trans H)
       have Ny381:=aM hy381;clear hy381;replace H:=Option.bind_eq_some_iff.mp H;obtain⟨t384,A250,H⟩:=H;replace H:(if x3_2.length<8796093022208 then(quinariaref07_Print.l1 k2 (x3_2++[t384]) (wrap64 (x5_2+1)) a0_0 l0_1 l0_2) else(none))=some r:=H;have A25:=aM A250;clear A250;obtain⟨c26,H⟩:=ifs H;have LMc26:=aM c26;clear c26;obtain⟨y385,hy385⟩:∃y_:List ByteArray,y_=(x3_2++[t384]):=⟨_,rfl⟩;rw[← hy385] at H;(try replace H:=(Option.bind_some _ _).symm.trans H)
       have Ny385:=aM hy385;clear hy385;have H':=aM H;clear H;obtain⟨hcz27_0,hcz27_1,hcz27_2⟩:=cz3 BK362.out;obtain⟨hfz27_0,hfz27_1,hfz27_2⟩:=fz3 BK362.out;have p379:0≤(x5_2:Int):=uD;have q379:x5_2<(l0_2.length:Int):=uD;obtain⟨ad379,e379,hx379_0,hx379_1,hx379_2⟩:=at_T51 HR0_2.out x5_2 p379 q379
       cases e379
       replace hx379_0:=hcell HB.out hx379_0;replace hx379_1:=hcell HB.out hx379_1;replace hx379_2:=hcell HB.out hx379_2;replace p379:=eq_true p379;replace q379:=eq_true q379
       go_wp2_with (first|((with_reducible refine gate_dst (N:=6) rfl ?_);refine bxe 6 #[.int .i64 0,.int .i64 0,.int .i64 0] 51 ?_;intro gb380 hg w28 hbox hb;have n0_:=aM (Kd.R_below (uR HO_3.out) hb);have n1_:=aM (blk_below (uK BK362.out) hb);have n2_:=aM (below_step uB hb);have n3_:=aM (hbox);have n4_:=gw hg;have n5_:=gw hg;have n6_:=nb BK362 hg;have n7_:=nc BK362 hg;clear HO_3;clear BK362;clear HB;have HO_3:=n0_;have BK362:=n1_;have HB:=n2_;have BK380:=n3_;have GW380:=n4_;have GE380:=n5_;have NB362_380:=n6_;have NB380_362:=n7_;clear n0_ n1_ n2_ n3_ n4_ n5_ n6_ n7_;clear hb hbox hg;have hnb29:=NB380_362.out;have hnc29:=NB362_380.out;obtain⟨hcz30_0,hcz30_1,hcz30_2⟩:=cz3 BK380.out;obtain⟨hfz30_0,hfz30_1,hfz30_2⟩:=fz3 BK380.out)|((with_reducible refine gate_dst (N:=55) rfl ?_);refine Kd.R_lit (Kd.int .i64) _ 3 ?hg (N:=55) ?hd (xs:=([(rd_T51 l0_2 x5_2).f0,(rd_T51 l0_2 x5_2).f1,(rd_T51 l0_2 x5_2).f2]:List Int)) (inner:=[.int .i64 ((rd_T51 l0_2 x5_2).f0),.int .i64 ((rd_T51 l0_2 x5_2).f1),.int .i64 ((rd_T51 l0_2 x5_2).f2)]) (ok:=fun _=>True) (okp:=fun _=>True) ?hr ?hp (fun _ hk=>hk) trivial (Below.refl _ _) (Nat.le_refl _) (by simp) ?_;(case hd=>rfl);(case hg=>rfl);(case hr=>first|(go_simp;done)|(go_simp;rfl));(case hp=>exact(Reps.one (show Kd.M (Kd.int .i64) _ _ _ ((rd_T51 l0_2 x5_2).f0) [.int .i64 ((rd_T51 l0_2 x5_2).f0)] from rfl) (Reps.one (show Kd.M (Kd.int .i64) _ _ _ ((rd_T51 l0_2 x5_2).f1) [.int .i64 ((rd_T51 l0_2 x5_2).f1)] from rfl) (Reps.one (show Kd.M (Kd.int .i64) _ _ _ ((rd_T51 l0_2 x5_2).f2) [.int .i64 ((rd_T51 l0_2 x5_2).f2)] from rfl) (Reps.none _ _)))));intro v382 w31 ho32 hb hg_ hnew_;clear hg_ hnew_;(first|rw[← Ny381.out] at ho32|(simp only[Int.reduceToNat] at ho32;rw[← Ny381.out] at ho32));replace HO_3:=aM (Kd.R_below (by refine uR ?_;exact(Kd.R_mono (Kd.R_far (p:=⟨gb380,2,none⟩) (Kd.R_far (p:=⟨gb380,1,none⟩) (Kd.R_far (p:=⟨gb380,0,none⟩) (Kd.R_types HO_3.out BK380.out (by decide)) (fun _ hk=>hk.2) (.int .i64 ((rd_T51 l0_2 x5_2).f0))) (fun _ hk=>hk.2) (.int .i64 ((rd_T51 l0_2 x5_2).f1))) (fun _ hk=>hk.2) (.int .i64 ((rd_T51 l0_2 x5_2).f2))) (fun _ h_=>h_.1))) hb);have HO383:=aM (Kd.R_lower ho32 (below_size uB));replace BK362:=aM (blk_below (g:=gb362) (o:=.cells #[.int .i64 a0_0,.slice A0_1 l0_1.length c0_1,.slice (some ad379) l0_2.length c0_2] 25 (0,0)) (by refine uK ?_;refine blk_far ?_ NB362_380.out _;refine uK ?_;refine blk_far ?_ NB362_380.out _;refine uK ?_;refine blk_far ?_ NB362_380.out _;refine uK ?_;exact BK362.out) hb);replace BK380:=aM (blk_below (g:=gb380) (o:=.cells #[.int .i64 ((rd_T51 l0_2 x5_2).f0),.int .i64 ((rd_T51 l0_2 x5_2).f1),.int .i64 ((rd_T51 l0_2 x5_2).f2)] 51 (0,0)) (by refine uK ?_;refine blk_put (cs:=#[.int .i64 ((rd_T51 l0_2 x5_2).f0),.int .i64 ((rd_T51 l0_2 x5_2).f1),.int .i64 0]) ?_ 2 _ rfl;refine uK ?_;refine blk_put (cs:=#[.int .i64 ((rd_T51 l0_2 x5_2).f0),.int .i64 0,.int .i64 0]) ?_ 1 _ rfl;refine uK ?_;refine blk_put (cs:=#[.int .i64 0,.int .i64 0,.int .i64 0]) ?_ 0 _ rfl;refine uK ?_;exact BK380.out) hb);replace HB:=aM (below_step uB hb);clear hb ho32;obtain⟨Ao33,co33,eo33⟩:=Kd.R_slice HO383.out;subst eo33)|((with_reducible refine gate_callee (f:=81) rfl ?_);refine goesL_ (some 56) rfl rfl Tryz.func81 (by kernel_rfl) rfl #[.string (⟨#[111,117,116,108,101,116]⟩:ByteArray),.slice Ao33 y381.length co33] rfl uM ?_;(with_reducible refine(quinariaref01_Row.calls k2 (⟨#[111,117,116,108,101,116]⟩:ByteArray) _ _ y381 t384 _ ?side1 ?side2 A25.out).mono ?_);(case side1=>exact uC ((Kd.R_reads' HO383.out).2.2));(case side2=>exact(Kd.R_reads' HO383.out).2.1);rintro e w34 ⟨rfl,hb⟩;refine⟨_,rfl,?_⟩;replace HO_3:=aM (Kd.R_below (uR HO_3.out) hb);replace HO383:=aM (Kd.R_below (uR HO383.out) hb);replace BK362:=aM (blk_below (uK BK362.out) hb);replace BK380:=aM (blk_below (uK BK380.out) hb);replace HB:=aM (below_step uB hb);(try clear hb);(try clear hb2);(try clear hk);(try clear hi))|((with_reducible refine gate_builtin (b:=.append) (xs:=#[.tmp 48,.tmp 57]) rfl ?_);at_builtin;refine Kd.R_append Kd.string (w0:=w) w.heap.size rfl (.tmp 48) (.tmp 57) 108 9 (.string ⟨#[]⟩) 16 rfl Tryz.underlying108 info9 rfl (by decide) (by omega) u3 x3_2 t384 [.string t384] (fun _=>True) (fun _=>False) rfl rfl ?aP (fun _ hk=>hk.elim) ?aF ?aO ?aB ?aS ?aL ?_;(case aP=>exact rfl);(case aB=>exact uB);(case aF=>exact(fun _ _=>trivial));(case aO=>exact(uR HO_3.out));(case aS=>exact(below_size uB));(case aL=>have:=LMc26.out;omega);intro v386 w35 ho hb hg hat;rw[← Ny385.out] at ho;replace BK362:=aM (blk_grown (uK BK362.out) hg (Kd.R_ne HO_3.out BK362.out (by decide)));replace BK380:=aM (blk_grown (uK BK380.out) hg (Kd.R_ne HO_3.out BK380.out (by decide)));replace HO383:=aM (Kd.R_over' (uR HO383.out) (Kd.R_typed (uR HO_3.out)) (by decide) hg);have HO387:=aM (ho);replace HB:=aM (hb);clear HO_3;clear ho hb hg hat))
       go_roundg k2
       case measure=>have:=HK1.out;have:=HK2.out;omega
       case rel=>exact⟨(y385),(wrap64 (x5_2+1)),u0,H',⟨by have:=HK1.out;have:=HK2.out;omega⟩,⟨uR HO387.out⟩,⟨uK BK362.out⟩,⟨uB⟩⟩
      ·rw[if_neg c23] at H;replace c23:=decide_eq_false c23;replace H:=Option.bind_eq_some_iff.mp H;obtain⟨t388,A360,H⟩:=H;replace H:(some t388)=some r:=H;have A36:=aM A360;clear A360;obtain rfl:=Option.some.inj H;obtain⟨hcz37_0,hcz37_1,hcz37_2⟩:=cz3 BK362.out;obtain⟨hfz37_0,hfz37_1,hfz37_2⟩:=fz3 BK362.out;obtain⟨Ao38,co38,eo38⟩:=Kd.R_slice HO_3.out;subst eo38
       go_wp2_with (first|((with_reducible refine gate_callee (f:=82) rfl ?_);refine goesL_ (some 60) rfl rfl Tryz.func82 (by kernel_rfl) rfl #[.slice Ao38 x3_2.length co38,.int .i64 163] rfl uM ?_;(with_reducible refine(quinariaref01_Sealed.calls k2 _ _ x3_2 163 t388 _ ?side1 ?side2 A36.out).mono ?_);(case side1=>exact uC ((Kd.R_reads' HO_3.out).2.2));(case side2=>exact(Kd.R_reads' HO_3.out).2.1);rintro e w39 ⟨rfl,hb⟩;refine⟨_,rfl,?_⟩;replace HO_3:=aM (Kd.R_below (uR HO_3.out) hb);replace BK362:=aM (blk_below (uK BK362.out) hb);replace HB:=aM (below_step uB hb);(try clear hb);(try clear hb2);(try clear hk);(try clear hi)))
       go_ret;exact⟨uE,uB⟩
end Go.Proofs.YtjioobfeikbffabGreatDoor.K
end
section
namespace Go.Proofs.YtjioobfeikbffabGreatDoor.K
open Go.RowKit Go.Shelf Go.Proofs.YtjioobfeikbffabGreatDoorW.PrintWords Go.Proofs.YtjioobfeikbffabGreatDoorW.PrintLast Go.Proofs.YtjioobfeikbffabGreatDoorW.PrintMore
open Tx
structure At' {α:Type} (d:Kd α) (W:World) (A:Option Addr) (n cp:Nat) (xs:List α):Prop where
  c:Kd.C d W A n xs
  le:n≤cp
theorem At'.below {α:Type} {d:Kd α} {W W1:World} {A:Option Addr} {n c:Nat} {xs:List α} (h:At' d W A n c xs) (hb:Below W.heap.size W W1):At' d W1 A n c xs:=⟨Kd.C_below h.c hb,h.le⟩
theorem At'.of_R {α:Type} {d:Kd α} {e base:Nat} {W:World} {v:Value} {xs:List α} (h:d.R e W base (fun _=>True) v xs):∃A c,v=.slice A xs.length c∧At' d W A xs.length c xs:=by
  obtain⟨A,c,rfl,hl,hc⟩:=Kd.R_reads h;exact⟨A,c,rfl,hc,hl⟩
theorem flat_at {α:Type} (enc:α→List Value) (n:Nat) (hn:∀x,(enc x).length=n):∀(xs:List α) (j i:Nat) (p:α) (u:Value),xs[j]? =some p→(enc p)[i]? =some u→(xs.flatMap enc)[j*n+i]? =some u
  |[],j,i,p,u,h,_=>by simp at h
  |x::xs,0,i,p,u,h,hu=>by
    obtain rfl:x=p:=by simpa using h
    rw[List.flatMap_cons,Nat.zero_mul,Nat.zero_add,List.getElem?_append_left (List.getElem?_eq_some_iff.1 hu).1];exact hu
  |x::xs,j+1,i,p,u,h,hu=>by
    rw[List.flatMap_cons,List.getElem?_append_right (by rw[hn,Nat.succ_mul];omega),hn,show(j+1)*n+i-n=j*n+i by rw[Nat.succ_mul];omega];exact flat_at enc n hn xs j i p u (by simpa using h) hu
theorem C_new {α:Type} (d:Kd α) (W:World) (e:TypeId) (enc:α→List Value) (xs:List α) (hn:∀x,(enc x).length=d.sz) (hK:∀w x,d.K w x (enc x)) (hl:xs.length≤9223372036854775807):Kd.C d (W.alloc (.cells (xs.flatMap enc).toArray e)) (some ⟨W.heap.size,0,none⟩) xs.length xs:=by
  refine⟨rfl,hl,fun _=>⟨_,rfl,fun j p hj=>⟨enc p,hn p,hK _ p,fun i u hi=>?_⟩⟩⟩;have h1:=flat_at enc d.sz hn xs j i p u hj hi
  have h2:(⟨W.heap.size,0,none⟩:Addr).add (j*d.sz+i)=⟨W.heap.size,j*d.sz+i,none⟩:=by
    simp[Addr.add];intro h1 h2
    omega
  rw[h2,blk_cell (blk_new W _)]
  simpa using h1
theorem C_ints (W:World) (e:TypeId) (xs:List Int) (hl:xs.length≤9223372036854775807):Kd.C (Kd.int .i64) (W.alloc (.cells (xs.flatMap fun x=>[Value.int .i64 x]).toArray e)) (some ⟨W.heap.size,0,none⟩) xs.length xs:=
  C_new (Kd.int .i64) W e (fun x=>[Value.int .i64 x]) xs (fun _=>rfl) (fun _ _=>rfl) hl
def TN:List SN:=[⟨0,6⟩,⟨1,3⟩]
def TO:List SO:=[⟨2,4,0⟩,⟨1,5,0⟩,⟨0,6,1⟩,⟨2,2,1⟩]
structure TrA (w:World) (A:Option Addr) (c:Nat) (A':Option Addr) (c':Nat):Prop where
  n:At' k77 w A 2 c TN
  o:At' k51 w A' 4 c' TO
theorem T_any (w:World):Calls Tryz.prog 48 #[] w fun e w'=>∃A c A' c',e=.returned (.agg #[.int .i64 10,.slice A 2 c,.slice A' 4 c'])∧Aside0 (TrA w' A c A' c')∧Below w.heap.size w w':=by
  refine(quinarialaw07_T.calls 10 TN TO w (by kernel_rfl)).mono ?_;rintro e w' ⟨v0,v1,rfl,h0,h1,hb⟩;obtain⟨A,c,rfl,ha⟩:=At'.of_R h0;obtain⟨A',c',rfl,ha'⟩:=At'.of_R h1;exact⟨A,c,A',c',rfl,⟨ha,ha'⟩,hb⟩
theorem U_any (w:World):Calls Tryz.prog 53 #[] w fun e w'=>∃A c A' c',e=.returned (.agg #[.int .i64 20,.slice A 2 c,.slice A' 4 c'])∧Aside0 (TrA w' A c A' c')∧Below w.heap.size w w':=by
  refine(quinarialaw07_U.calls 20 TN TO w (by kernel_rfl)).mono ?_;rintro e w' ⟨v0,v1,rfl,h0,h1,hb⟩;obtain⟨A,c,rfl,ha⟩:=At'.of_R h0;obtain⟨A',c',rfl,ha'⟩:=At'.of_R h1;exact⟨A,c,A',c',rfl,⟨ha,ha'⟩,hb⟩
theorem shares_T {w:World} {A:Option Addr} {c:Nat} {A':Option Addr} {c':Nat} (h:TrA w A c A' c'):Calls Tryz.prog 20 #[.agg #[.int .i64 10,.slice A 2 c,.slice A' 4 c']] w fun e w'=>∃B d,e=.returned (.tuple #[.slice B 4 d,.int .i64 0])∧Aside0 (At' (Kd.int .i64) w' B 4 d [3,3,4,0])∧Below w.heap.size w w':=by
  refine(drought_Shares.calls 10 A c TN A' c' TO [3,3,4,0] 0 w h.n.c h.n.le h.o.c h.o.le (by kernel_rfl)).mono ?_;rintro e w' ⟨v0,rfl,h0,hb⟩;obtain⟨B,d,rfl,ha⟩:=At'.of_R h0;exact⟨B,d,rfl,⟨ha⟩,hb⟩
theorem ordered_T {w:World} {A:Option Addr} {c:Nat} {A':Option Addr} {c':Nat} (h:TrA w A c A' c'):Calls Tryz.prog 49 #[.agg #[.int .i64 10,.slice A 2 c,.slice A' 4 c'],.slice (some ⟨w.heap.size,0,none⟩) 4 4] (w.alloc (.cells #[.int .i64 1,.int .i64 0,.int .i64 2,.int .i64 3] 3)) fun e w'=>∃B d,e=.returned (.tuple #[.slice B 4 d,.int .i64 0])∧Aside0 (At' (Kd.int .i64) w' B 4 d [1,1,6,2])∧Below w.heap.size w w':=by
  have hB:Below w.heap.size w (w.alloc (.cells #[.int .i64 1,.int .i64 0,.int .i64 2,.int .i64 3] 3)):=(Below.refl _ _).alloc (Nat.le_refl _) _;refine(drought_Ordered.calls 10 A c TN A' c' TO (some ⟨w.heap.size,0,none⟩) 4 [1,0,2,3] [1,1,6,2] 0 _ (h.n.below hB).c h.n.le (h.o.below hB).c h.o.le (C_ints w _ [1,0,2,3] (by decide)) (Nat.le_refl _) (by kernel_rfl)).mono ?_;rintro e w' ⟨v0,rfl,h0,hb⟩;obtain⟨B,d,rfl,ha⟩:=At'.of_R h0;exact⟨B,d,rfl,⟨ha⟩,below_then hB hB.size hb⟩
theorem why_T {w:World} {A:Option Addr} {c:Nat} {A':Option Addr} {c':Nat} (h:TrA w A c A' c'):Calls Tryz.prog 50 #[.agg #[.int .i64 10,.slice A 2 c,.slice A' 4 c'],.int .i64 3] w fun e w'=>e=.returned (.tuple #[.int .i64 1,.int .i64 0])∧Below w.heap.size w w':=
  drought_Why.calls 1000 10 A c TN A' c' TO 3 1 0 w h.n.c h.n.le h.o.c h.o.le (by kernel_rfl)
theorem binds_T {w:World} {A:Option Addr} {c:Nat} {A':Option Addr} {c':Nat} (h:TrA w A c A' c'):Calls Tryz.prog 51 #[.agg #[.int .i64 10,.slice A 2 c,.slice A' 4 c'],.int .i64 0,.int .i64 0] w fun e w'=>e=.returned (.tuple #[.bool false,.int .i64 0])∧Below w.heap.size w w':=
  drought_Binds.calls 1000 10 A c TN A' c' TO 0 0 false 0 w h.n.c h.n.le h.o.c h.o.le (by kernel_rfl)
theorem cut_U {w:World} {A:Option Addr} {c:Nat} {A':Option Addr} {c':Nat} (h:TrA w A c A' c'):Calls Tryz.prog 52 #[.agg #[.int .i64 20,.slice A 2 c,.slice A' 4 c']] w fun e w'=>∃B d,e=.returned (.tuple #[.slice B 1 d,.int .i64 0])∧Aside0 (At' (Kd.int .i64) w' B 1 d [1])∧Below w.heap.size w w':=by
  refine(drought_Cut.calls 20 A c TN A' c' TO [1] 0 w h.n.c h.n.le h.o.c h.o.le (by kernel_rfl)).mono ?_;rintro e w' ⟨v0,rfl,h0,hb⟩;obtain⟨B,d,rfl,ha⟩:=At'.of_R h0;exact⟨B,d,rfl,⟨ha⟩,hb⟩
theorem spans_T {w:World} {A:Option Addr} {c:Nat} {A':Option Addr} {c':Nat} (h:TrA w A c A' c'):Calls Tryz.prog 54 #[.agg #[.int .i64 10,.slice A 2 c,.slice A' 4 c'],.int .i64 5,.int .i64 10] w fun e w'=>∃B d,e=.returned (.tuple #[.slice B 4 d,.int .i64 0])∧Aside0 (At' kSp w' B 4 d [⟨3,3⟩,⟨2,3⟩,⟨0,4⟩,⟨0,0⟩])∧Below w.heap.size w w':=by
  refine(drought_Spans.calls 10 A c TN A' c' TO 5 10 [⟨3,3⟩,⟨2,3⟩,⟨0,4⟩,⟨0,0⟩] 0 w h.n.c h.n.le h.o.c h.o.le (by kernel_rfl)).mono ?_;rintro e w' ⟨v0,rfl,h0,hb⟩;obtain⟨B,d,rfl,ha⟩:=At'.of_R h0;exact⟨B,d,rfl,⟨ha⟩,hb⟩
theorem needs_T {w:World} {A:Option Addr} {c:Nat} {A':Option Addr} {c':Nat} (h:TrA w A c A' c'):Calls Tryz.prog 55 #[.agg #[.int .i64 10,.slice A 2 c,.slice A' 4 c'],.int .i64 2,.int .i64 6] w fun e w'=>e=.returned (.tuple #[.int .i64 12,.int .i64 0])∧Below w.heap.size w w':=
  drought_Needs.calls 10 A c TN A' c' TO 2 6 12 0 w h.n.c h.n.le h.o.c h.o.le (by kernel_rfl)
theorem keeps_T {w:World} {A:Option Addr} {c:Nat} {A':Option Addr} {c':Nat} (h:TrA w A c A' c'):Calls Tryz.prog 56 #[.agg #[.int .i64 10,.slice A 2 c,.slice A' 4 c'],.int .i64 0] w fun e w'=>e=.returned (.tuple #[.int .i64 0,.int .i64 5])∧Below w.heap.size w w':=
  drought_Keeps.calls 10 A c TN A' c' TO 0 0 5 w h.n.c h.n.le h.o.c h.o.le (by kernel_rfl)
theorem widens_T {w:World} {A:Option Addr} {c:Nat} {A':Option Addr} {c':Nat} (h:TrA w A c A' c'):Calls Tryz.prog 19 #[.agg #[.int .i64 10,.slice A 2 c,.slice A' 4 c'],.int .i64 1] w fun e w'=>∃B d,e=.returned (.tuple #[.slice B 1 d,.int .i64 0])∧Aside0 (At' (Kd.int .i64) w' B 1 d [1])∧Below w.heap.size w w':=by
  refine(drought_Widens.calls 1000 10 A c TN A' c' TO 1 [1] 0 w h.n.c h.n.le h.o.c h.o.le (by kernel_rfl)).mono ?_;rintro e w' ⟨v0,rfl,h0,hb⟩;obtain⟨B,d,rfl,ha⟩:=At'.of_R h0;exact⟨B,d,rfl,⟨ha⟩,hb⟩
theorem turns_T {w:World} {A:Option Addr} {c:Nat} {A':Option Addr} {c':Nat} (h:TrA w A c A' c'):Calls Tryz.prog 32 #[.agg #[.int .i64 10,.slice A 2 c,.slice A' 4 c'],.int .i64 3] w fun e w'=>∃B d,e=.returned (.tuple #[.slice B 3 d,.int .i64 0])∧Aside0 (At' (Kd.slice 3 (Kd.int .i64)) w' B 3 d [[1],[2,3],[1]])∧Below w.heap.size w w':=by
  refine(drought_Turns.calls 10 A c TN A' c' TO 3 [[1],[2,3],[1]] 0 w h.n.c h.n.le h.o.c h.o.le (by kernel_rfl)).mono ?_;rintro e w' ⟨v0,rfl,h0,hb⟩;obtain⟨B,d,rfl,ha⟩:=At'.of_R h0;exact⟨B,d,rfl,⟨ha⟩,hb⟩
theorem C_rows2 (w:World) (e:TypeId):Kd.C (Kd.slice 3 (Kd.int .i64)) (((w.alloc (.cells #[.int .i64 1] 3)).alloc (.cells #[.int .i64 3] 3)).alloc (.cells #[.slice (some ⟨w.heap.size,0,none⟩) 1 1,.slice (some ⟨w.heap.size+1,0,none⟩) 1 1] e)) (some ⟨w.heap.size+1+1,0,none⟩) 2 [[1],[3]]:=by
  have c1:Kd.C (Kd.int .i64) ((w.alloc (.cells #[.int .i64 1] 3)).alloc (.cells #[.int .i64 3] 3)) (some ⟨w.heap.size,0,none⟩) 1 [1]:=Kd.C_alloc (C_ints w _ [1] (by decide)) _;have c2:=C_ints (w.alloc (.cells #[.int .i64 1] 3)) 3 [3] (by decide);rw[World.size_alloc] at c2;have:=C_two ((w.alloc (.cells #[.int .i64 1] 3)).alloc (.cells #[.int .i64 3] 3)) (.slice (some ⟨w.heap.size,0,none⟩) 1 1) (.slice (some ⟨w.heap.size+1,0,none⟩) 1 1) [1] [3] e ⟨_,_,rfl,Nat.le_refl _,Kd.C_alloc c1 _⟩ ⟨_,_,rfl,Nat.le_refl _,Kd.C_alloc c2 _⟩;rw[World.size_alloc,World.size_alloc] at this;exact this
theorem swaps_T {w:World} {A:Option Addr} {c:Nat} {A':Option Addr} {c':Nat} (h:TrA w A c A' c'):Calls Tryz.prog 26 #[.agg #[.int .i64 10,.slice A 2 c,.slice A' 4 c'],.slice (some ⟨w.heap.size+1+1,0,none⟩) 2 2,.int .i64 1,.int .i64 3] (((w.alloc (.cells #[.int .i64 1] 3)).alloc (.cells #[.int .i64 3] 3)).alloc (.cells #[.slice (some ⟨w.heap.size,0,none⟩) 1 1,.slice (some ⟨w.heap.size+1,0,none⟩) 1 1] 30)) fun e w'=>e=.returned (.tuple #[.int .i64 0,.int .i64 1,.int .i64 0])∧Below w.heap.size w w':=by
  have hB:Below w.heap.size w (((w.alloc (.cells #[.int .i64 1] 3)).alloc (.cells #[.int .i64 3] 3)).alloc (.cells #[.slice (some ⟨w.heap.size,0,none⟩) 1 1,.slice (some ⟨w.heap.size+1,0,none⟩) 1 1] 30)):=(((Below.refl _ _).alloc (Nat.le_refl _) _).alloc (by simp) _).alloc (by simp;omega) _;refine(drought_Swaps.calls 1000 10 A c TN A' c' TO (some ⟨w.heap.size+1+1,0,none⟩) 2 [[1],[3]] 1 3 0 1 0 _ (h.n.below hB).c h.n.le (h.o.below hB).c h.o.le (C_rows2 w _) (Nat.le_refl _) (by kernel_rfl)).mono ?_;rintro e w' ⟨rfl,hb⟩;exact⟨rfl,below_then hB hB.size hb⟩
def knownText:ByteArray:=⟨#[100,114,111,117,103,104,116,32,49,10,111,117,116,108,101,116,32,48,32,49,32,48,10,101,110,100,32,48,49,55,10]⟩
theorem read_knownText:readD knownText=(1,[],[⟨0,1,0⟩],0):=by kernel_rfl
theorem read_K (w:World) (hT:TabW w):Calls Tryz.prog 40 #[.string knownText] w fun e w'=>∃A c A' c',e=.returned (.tuple #[.agg #[.int .i64 1,.slice A 0 c,.slice A' 1 c'],.int .i64 0])∧Aside0 (At' k77 w' A 0 c []∧At' k51 w' A' 1 c' [⟨0,1,0⟩])∧Below w.heap.size w w':=by
  refine(read_any knownText w hT (by decide)).mono ?_;rintro e w' ⟨hb,A,c,A',c',he,h0,h1⟩;rw[read_knownText] at he h0 h1;exact⟨A,c,A',c',he,⟨⟨(Kd.R_reads' h0).2.2,(Kd.R_reads' h0).2.1⟩,⟨(Kd.R_reads' h1).2.2,(Kd.R_reads' h1).2.1⟩⟩,hb⟩
theorem print_K {w:World} {A A':Option Addr} {c c':Nat} (h:At' k77 w A 0 c []∧At' k51 w A' 1 c' [⟨0,1,0⟩]):Calls Tryz.prog 41 #[.agg #[.int .i64 1,.slice A 0 c,.slice A' 1 c']] w fun e w'=>e=.returned (.string knownText)∧Below w.heap.size w w':=
  quinariaref07_Print.calls 1000 1 A c [] A' c' [⟨0,1,0⟩] knownText w h.1.c h.1.le h.2.c h.2.le (by kernel_rfl)
theorem same_any (A B:Option Addr) (c d n m:Nat) (xs ys:List Int) (w:World) (hA:At' (Kd.int .i64) w A n c xs) (hB:At' (Kd.int .i64) w B m d ys) (r:Bool) (h:quinariaref01_Same.f 1000 xs ys=some r):
    Calls Tryz.prog 57 #[.slice A n c,.slice B m d] w fun e w'=>e=.returned (.bool r)∧Below w.heap.size w w':=by
  obtain rfl:=hA.c.1;obtain rfl:=hB.c.1;exact(quinariaref01_Same.calls 1000 A c xs B d ys r w hA.c hA.le hB.c hB.le h).mono fun e w' ⟨he,hd⟩=>⟨he,hd.below⟩
theorem sameSpans_any (B:Option Addr) (d:Nat) (w:World) (h:At' kSp (w.alloc (.cells #[.int .i64 3,.int .i64 3,.int .i64 2,.int .i64 3,.int .i64 0,.int .i64 4,.int .i64 0,.int .i64 0] 91)) B 4 d [⟨3,3⟩,⟨2,3⟩,⟨0,4⟩,⟨0,0⟩]):
    Calls Tryz.prog 58 #[.slice B 4 d,.slice (some ⟨w.heap.size,0,none⟩) 4 4] (w.alloc (.cells #[.int .i64 3,.int .i64 3,.int .i64 2,.int .i64 3,.int .i64 0,.int .i64 4,.int .i64 0,.int .i64 0] 91)) fun e w'=>e=.returned (.bool true)∧Below w.heap.size w w':=by
  have hB:Below w.heap.size w (w.alloc (.cells #[.int .i64 3,.int .i64 3,.int .i64 2,.int .i64 3,.int .i64 0,.int .i64 4,.int .i64 0,.int .i64 0] 91)):=(Below.refl _ _).alloc (Nat.le_refl _) _;refine(quinariaref07_SameSpans.calls 1000 B d [⟨3,3⟩,⟨2,3⟩,⟨0,4⟩,⟨0,0⟩] (some ⟨w.heap.size,0,none⟩) 4 [⟨3,3⟩,⟨2,3⟩,⟨0,4⟩,⟨0,0⟩] true _ h.c h.le (C_new kSp w _ (fun x=>[.int .i64 x.f0,.int .i64 x.f1]) [⟨3,3⟩,⟨2,3⟩,⟨0,4⟩,⟨0,0⟩] (fun _=>rfl) (fun w x=>k91_mk w x) (by decide)) (Nat.le_refl _) (by kernel_rfl)).mono ?_;rintro e w' ⟨he,hd⟩;exact⟨he,below_then hB hB.size hd.below⟩
theorem C_rows3 (w:World) (e:TypeId):Kd.C (Kd.slice 3 (Kd.int .i64)) ((((w.alloc (.cells #[.int .i64 1] 3)).alloc (.cells #[.int .i64 2,.int .i64 3] 3)).alloc (.cells #[.int .i64 1] 3)).alloc (.cells #[.slice (some ⟨w.heap.size,0,none⟩) 1 1,.slice (some ⟨w.heap.size+1,0,none⟩) 2 2,.slice (some ⟨w.heap.size+1+1,0,none⟩) 1 1] e)) (some ⟨w.heap.size+1+1+1,0,none⟩) 3 [[1],[2,3],[1]]:=by
  have c1:Kd.C (Kd.int .i64) ((((w.alloc (.cells #[.int .i64 1] 3)).alloc (.cells #[.int .i64 2,.int .i64 3] 3)).alloc (.cells #[.int .i64 1] 3)).alloc (.cells #[.slice (some ⟨w.heap.size,0,none⟩) 1 1,.slice (some ⟨w.heap.size+1,0,none⟩) 2 2,.slice (some ⟨w.heap.size+1+1,0,none⟩) 1 1] e)) (some ⟨w.heap.size,0,none⟩) 1 [1]:=Kd.C_alloc (Kd.C_alloc (Kd.C_alloc (C_ints w _ [1] (by decide)) _) _) _;have c2:=C_ints (w.alloc (.cells #[.int .i64 1] 3)) 3 [2,3] (by decide);have c3:=C_ints ((w.alloc (.cells #[.int .i64 1] 3)).alloc (.cells #[.int .i64 2,.int .i64 3] 3)) 3 [1] (by decide);rw[World.size_alloc] at c2;rw[World.size_alloc,World.size_alloc] at c3;have d2:Kd.C (Kd.int .i64) ((((w.alloc (.cells #[.int .i64 1] 3)).alloc (.cells #[.int .i64 2,.int .i64 3] 3)).alloc (.cells #[.int .i64 1] 3)).alloc (.cells #[.slice (some ⟨w.heap.size,0,none⟩) 1 1,.slice (some ⟨w.heap.size+1,0,none⟩) 2 2,.slice (some ⟨w.heap.size+1+1,0,none⟩) 1 1] e)) (some ⟨w.heap.size+1,0,none⟩) 2 [2,3]:=Kd.C_alloc (Kd.C_alloc c2 _) _;have d3:Kd.C (Kd.int .i64) ((((w.alloc (.cells #[.int .i64 1] 3)).alloc (.cells #[.int .i64 2,.int .i64 3] 3)).alloc (.cells #[.int .i64 1] 3)).alloc (.cells #[.slice (some ⟨w.heap.size,0,none⟩) 1 1,.slice (some ⟨w.heap.size+1,0,none⟩) 2 2,.slice (some ⟨w.heap.size+1+1,0,none⟩) 1 1] e)) (some ⟨w.heap.size+1+1,0,none⟩) 1 [1]:=Kd.C_alloc c3 _;have hblk:=blk_new (((w.alloc (.cells #[.int .i64 1] 3)).alloc (.cells #[.int .i64 2,.int .i64 3] 3)).alloc (.cells #[.int .i64 1] 3)) (.cells #[.slice (some ⟨w.heap.size,0,none⟩) 1 1,.slice (some ⟨w.heap.size+1,0,none⟩) 2 2,.slice (some ⟨w.heap.size+1+1,0,none⟩) 1 1] e);rw[World.size_alloc,World.size_alloc,World.size_alloc] at hblk;generalize (((w.alloc (.cells #[.int .i64 1] 3)).alloc (.cells #[.int .i64 2,.int .i64 3] 3)).alloc (.cells #[.int .i64 1] 3)).alloc (.cells #[.slice (some ⟨w.heap.size,0,none⟩) 1 1,.slice (some ⟨w.heap.size+1,0,none⟩) 2 2,.slice (some ⟨w.heap.size+1+1,0,none⟩) 1 1] e)=W at *;refine⟨rfl,by decide,fun _=>⟨_,rfl,fun j p hj=>?_⟩⟩
  match j with
  |0=>
    obtain rfl:[1]=p:=by simpa using hj
    refine⟨[.slice (some ⟨w.heap.size,0,none⟩) 1 1],rfl,⟨_,_,rfl,Nat.le_refl _,c1⟩,fun i u hi=>?_⟩
    match i with
    |0=>
      obtain rfl:Value.slice (some ⟨w.heap.size,0,none⟩) 1 1=u:=by simpa using hi
      exact(blk_cell hblk 0).trans rfl
    |i+1=>simp at hi
  |1=>
    obtain rfl:[2,3]=p:=by simpa using hj
    refine⟨[.slice (some ⟨w.heap.size+1,0,none⟩) 2 2],rfl,⟨_,_,rfl,Nat.le_refl _,d2⟩,fun i u hi=>?_⟩
    match i with
    |0=>
      obtain rfl:Value.slice (some ⟨w.heap.size+1,0,none⟩) 2 2=u:=by simpa using hi
      exact(blk_cell hblk 1).trans rfl
    |i+1=>simp at hi
  |2=>
    obtain rfl:[1]=p:=by simpa using hj
    refine⟨[.slice (some ⟨w.heap.size+1+1,0,none⟩) 1 1],rfl,⟨_,_,rfl,Nat.le_refl _,d3⟩,fun i u hi=>?_⟩
    match i with
    |0=>
      obtain rfl:Value.slice (some ⟨w.heap.size+1+1,0,none⟩) 1 1=u:=by simpa using hi
      exact(blk_cell hblk 2).trans rfl
    |i+1=>simp at hi
  |j+3=>simp at hj
theorem samePlans_any (B:Option Addr) (d:Nat) (w:World) (h:At' (Kd.slice 3 (Kd.int .i64)) w B 3 d [[1],[2,3],[1]]):
    Calls Tryz.prog 34 #[.slice B 3 d,.slice (some ⟨w.heap.size+1+1+1,0,none⟩) 3 3] ((((w.alloc (.cells #[.int .i64 1] 3)).alloc (.cells #[.int .i64 2,.int .i64 3] 3)).alloc (.cells #[.int .i64 1] 3)).alloc (.cells #[.slice (some ⟨w.heap.size,0,none⟩) 1 1,.slice (some ⟨w.heap.size+1,0,none⟩) 2 2,.slice (some ⟨w.heap.size+1+1,0,none⟩) 1 1] 30)) fun e w'=>e=.returned (.bool true)∧Below w.heap.size w w':=by
  have hB:Below w.heap.size w ((((w.alloc (.cells #[.int .i64 1] 3)).alloc (.cells #[.int .i64 2,.int .i64 3] 3)).alloc (.cells #[.int .i64 1] 3)).alloc (.cells #[.slice (some ⟨w.heap.size,0,none⟩) 1 1,.slice (some ⟨w.heap.size+1,0,none⟩) 2 2,.slice (some ⟨w.heap.size+1+1,0,none⟩) 1 1] 30)):=((((Below.refl _ _).alloc (Nat.le_refl _) _).alloc (by simp) _).alloc (by simp;omega) _).alloc (by simp;omega) _;refine(quinariaref07_SamePlans.calls 1000 B d [[1],[2,3],[1]] (some ⟨w.heap.size+1+1+1,0,none⟩) 3 [[1],[2,3],[1]] true _ (h.below hB).c h.le (C_rows3 w _) (Nat.le_refl _) (by kernel_rfl)).mono ?_;rintro e w' ⟨he,hd⟩;exact⟨he,below_then hB hB.size hd.below⟩
set_option maxRecDepth 100000 in
set_option maxHeartbeats 8000000 in
theorem known_any (w0:World) (hT:TabW w0):Calls Tryz.prog 18 #[] w0 fun e w'=>e=.returned (.bool true)∧Below w0.heap.size w0 w':=by
  have hu62:=Tryz.underlying91;have hu25:=Tryz.underlying25;have HT:=aM hT;clear hT
  go_enter Tryz.func18,Tryz.ntmps18
  go_upto_region 2 with(first|(go_at_call 48;refine(T_any _).mono ?_;rintro e wp ⟨A,c,A',c',rfl,HP,hbp⟩)|(go_at_call 20;refine(shares_T HP.out).mono ?_;rintro e wf ⟨B1,d1,rfl,H1,hbf⟩))
  have HB1:Aside0 (Below w0.heap.size w0 wf):=⟨below_step hbp hbf⟩;obtain⟨w1,hw1⟩:∃w1,wf=w1:=⟨_,rfl⟩;rw[hw1] at HB1 H1⊢;clear hw1 hbp hbf HP
  go_upto_region 3 with(first|(go_at_call 48;refine(T_any _).mono ?_;rintro e wp ⟨A,c,A',c',rfl,HP,hbp⟩)|(go_at_call 49;refine(ordered_T HP.out).mono ?_;rintro e wf ⟨B2,d2,rfl,H2,hbf⟩))
  have HB2:Aside0 (Below w1.heap.size w1 wf):=⟨below_step hbp hbf⟩;obtain⟨w2,hw2⟩:∃w2,wf=w2:=⟨_,rfl⟩;rw[hw2] at HB2 H2⊢;clear hw2 hbp hbf HP
  go_upto_region 4 with(first|(go_at_call 48;refine(T_any _).mono ?_;rintro e wp ⟨A,c,A',c',rfl,HP,hbp⟩)|(go_at_call 50;refine(why_T HP.out).mono ?_;rintro e wf ⟨rfl,hbf⟩))
  have HB3:Aside0 (Below w2.heap.size w2 wf):=⟨below_step hbp hbf⟩;obtain⟨w3,hw3⟩:∃w3,wf=w3:=⟨_,rfl⟩;rw[hw3] at HB3⊢;clear hw3 hbp hbf HP
  go_upto_region 5 with(first|(go_at_call 48;refine(T_any _).mono ?_;rintro e wp ⟨A,c,A',c',rfl,HP,hbp⟩)|(go_at_call 51;refine(binds_T HP.out).mono ?_;rintro e wf ⟨rfl,hbf⟩))
  have HB4:Aside0 (Below w3.heap.size w3 wf):=⟨below_step hbp hbf⟩;obtain⟨w4,hw4⟩:∃w4,wf=w4:=⟨_,rfl⟩;rw[hw4] at HB4⊢;clear hw4 hbp hbf HP
  go_upto_region 6 with(first|(go_at_call 53;refine(U_any _).mono ?_;rintro e wp ⟨A,c,A',c',rfl,HP,hbp⟩)|(go_at_call 52;refine(cut_U HP.out).mono ?_;rintro e wf ⟨B5,d5,rfl,H5,hbf⟩))
  have HB5:Aside0 (Below w4.heap.size w4 wf):=⟨below_step hbp hbf⟩;obtain⟨w5,hw5⟩:∃w5,wf=w5:=⟨_,rfl⟩;rw[hw5] at HB5 H5⊢;clear hw5 hbp hbf HP
  go_upto_region 7 with(first|(go_at_call 48;refine(T_any _).mono ?_;rintro e wp ⟨A,c,A',c',rfl,HP,hbp⟩)|(go_at_call 54;refine(spans_T HP.out).mono ?_;rintro e wf ⟨B6,d6,rfl,H6,hbf⟩))
  have HB6:Aside0 (Below w5.heap.size w5 wf):=⟨below_step hbp hbf⟩;obtain⟨w6,hw6⟩:∃w6,wf=w6:=⟨_,rfl⟩;rw[hw6] at HB6 H6⊢;clear hw6 hbp hbf HP
  go_upto_region 8 with(first|(go_at_call 48;refine(T_any _).mono ?_;rintro e wp ⟨A,c,A',c',rfl,HP,hbp⟩)|(go_at_call 55;refine(needs_T HP.out).mono ?_;rintro e wf ⟨rfl,hbf⟩))
  have HB7:Aside0 (Below w6.heap.size w6 wf):=⟨below_step hbp hbf⟩;obtain⟨w7,hw7⟩:∃w7,wf=w7:=⟨_,rfl⟩;rw[hw7] at HB7⊢;clear hw7 hbp hbf HP
  go_upto_region 9 with(first|(go_at_call 48;refine(T_any _).mono ?_;rintro e wp ⟨A,c,A',c',rfl,HP,hbp⟩)|(go_at_call 56;refine(keeps_T HP.out).mono ?_;rintro e wf ⟨rfl,hbf⟩))
  have HB8:Aside0 (Below w7.heap.size w7 wf):=⟨below_step hbp hbf⟩;obtain⟨w8,hw8⟩:∃w8,wf=w8:=⟨_,rfl⟩;rw[hw8] at HB8⊢;clear hw8 hbp hbf HP
  go_upto_region 10 with(first|(go_at_call 48;refine(T_any _).mono ?_;rintro e wp ⟨A,c,A',c',rfl,HP,hbp⟩)|(go_at_call 19;refine(widens_T HP.out).mono ?_;rintro e wf ⟨B9,d9,rfl,H9,hbf⟩))
  have HB9:Aside0 (Below w8.heap.size w8 wf):=⟨below_step hbp hbf⟩;obtain⟨w9,hw9⟩:∃w9,wf=w9:=⟨_,rfl⟩;rw[hw9] at HB9 H9⊢;clear hw9 hbp hbf HP
  go_upto_region 11 with(first|(go_at_call 48;refine(T_any _).mono ?_;rintro e wp ⟨A,c,A',c',rfl,HP,hbp⟩)|(go_at_call 32;refine(turns_T HP.out).mono ?_;rintro e wf ⟨B10,d10,rfl,H10,hbf⟩))
  have HB10:Aside0 (Below w9.heap.size w9 wf):=⟨below_step hbp hbf⟩;obtain⟨w10,hw10⟩:∃w10,wf=w10:=⟨_,rfl⟩;rw[hw10] at HB10 H10⊢;clear hw10 hbp hbf HP
  go_upto_region 12 with(first|(go_at_call 48;refine(T_any _).mono ?_;rintro e wp ⟨A,c,A',c',rfl,HP,hbp⟩)|(go_at_call 26;refine(swaps_T HP.out).mono ?_;rintro e wf ⟨rfl,hbf⟩))
  have HB11:Aside0 (Below w10.heap.size w10 wf):=⟨below_step hbp hbf⟩;obtain⟨w11,hw11⟩:∃w11,wf=w11:=⟨_,rfl⟩;rw[hw11] at HB11⊢;clear hw11 hbp hbf HP;have HT11:=aM (HT.out.below (below_step HB1.out (below_step HB2.out (below_step HB3.out (below_step HB4.out (below_step HB5.out (below_step HB6.out (below_step HB7.out (below_step HB8.out (below_step HB9.out (below_step HB10.out (HB11.out))))))))))))
  go_upto_region 13 with(go_at_call 40;refine(read_K _ HT11.out).mono ?_;rintro e wf ⟨B12,d12,B12',d12',rfl,H12,hbf⟩)
  obtain⟨w12,hw12⟩:∃w12,wf.alloc (.cells #[.int .i64 1,.slice B12 0 d12,.slice B12' 1 d12'] 25)=w12:=⟨_,rfl⟩;have X12:Aside0 (w12.heap[wf.heap.size]? =some (.cells #[.int .i64 1,.slice B12 0 d12,.slice B12' 1 d12'] 25 (0,0))):=⟨by rw[← hw12];exact blk_new _ _⟩;have Y12:Aside0 (At' k77 w12 B12 0 d12 []∧At' k51 w12 B12' 1 d12' [⟨0,1,0⟩]):=⟨by rw[← hw12];exact⟨H12.out.1.below ((Below.refl _ _).alloc (Nat.le_refl _) _),H12.out.2.below ((Below.refl _ _).alloc (Nat.le_refl _) _)⟩⟩;have HB12:Aside0 (Below w11.heap.size w11 w12):=⟨by rw[← hw12];exact below_step hbf ((Below.refl _ _).alloc (Nat.le_refl _) _)⟩;(try rw[hw12]);generalize wf.heap.size=b12 at X12⊢;clear hw12 hbf H12 HT11 HT;have L11:=HB12.out;have L10:=below_step HB11.out L11;have L9:=below_step HB10.out L10;have L8:=below_step HB9.out L9;have L7:=below_step HB8.out L8;have L6:=below_step HB7.out L7;have L5:=below_step HB6.out L6;have L4:=below_step HB5.out L5;have L3:=below_step HB4.out L4;have L2:=below_step HB3.out L3;have L1:=below_step HB2.out L2;have L0:=below_step HB1.out L1;have Y1:=aM (H1.out.below L1);have Y2:=aM (H2.out.below L2);have Y5:=aM (H5.out.below L5);have Y6:=aM (H6.out.below L6);have Y9:=aM (H9.out.below L9);have Y10:=aM (H10.out.below L10);have HL0:=aM L0;clear L0 L1 L2 L3 L4 L5 L6 L7 L8 L9 L10 L11 H1 H2 H5 H6 H9 H10 HB1 HB2 HB3 HB4 HB5 HB6 HB7 HB8 HB9 HB10 HB11 HB12
  go_wp2_with (first|(go_at_call 57;(with_reducible refine(same_any B1 (some ⟨w12.heap.size,0,none⟩) d1 4 4 4 [3,3,4,0] [3,3,4,0] _ (Y1.out.below ((Below.refl _ _).alloc (Nat.le_refl _) _)) ⟨C_ints w12 _ [3,3,4,0] (by decide),Nat.le_refl _⟩ true (by kernel_rfl)).mono ?_);rintro e w13 ⟨rfl,hb⟩;have HC13:Aside0 (Below w12.heap.size w12 w13):=⟨below_then ((Below.refl _ _).alloc (Nat.le_refl _) _) (by simp) hb⟩;clear hb)|(go_at_call 57;(with_reducible refine(same_any B2 (some ⟨w13.heap.size,0,none⟩) d2 4 4 4 [1,1,6,2] [1,1,6,2] _ (Y2.out.below (below_step HC13.out ((Below.refl _ _).alloc (Nat.le_refl _) _))) ⟨C_ints w13 _ [1,1,6,2] (by decide),Nat.le_refl _⟩ true (by kernel_rfl)).mono ?_);rintro e w14 ⟨rfl,hb⟩;have HC14:Aside0 (Below w12.heap.size w12 w14):=⟨below_step HC13.out (below_then ((Below.refl _ _).alloc (Nat.le_refl _) _) (by simp) hb)⟩;clear hb)|(go_at_call 57;(with_reducible refine(same_any B5 (some ⟨w14.heap.size,0,none⟩) d5 1 1 1 [1] [1] _ (Y5.out.below (below_step HC14.out ((Below.refl _ _).alloc (Nat.le_refl _) _))) ⟨C_ints w14 _ [1] (by decide),Nat.le_refl _⟩ true (by kernel_rfl)).mono ?_);rintro e w15 ⟨rfl,hb⟩;have HC15:Aside0 (Below w12.heap.size w12 w15):=⟨below_step HC14.out (below_then ((Below.refl _ _).alloc (Nat.le_refl _) _) (by simp) hb)⟩;clear hb)|(go_at_call 58;refine(sameSpans_any B6 d6 w15 (Y6.out.below (below_step HC15.out ((Below.refl _ _).alloc (Nat.le_refl _) _)))).mono ?_;rintro e w16 ⟨rfl,hb⟩;have HC16:Aside0 (Below w12.heap.size w12 w16):=⟨below_step HC15.out hb⟩;clear hb)|(go_at_call 57;(with_reducible refine(same_any B9 (some ⟨w16.heap.size,0,none⟩) d9 1 1 1 [1] [1] _ (Y9.out.below (below_step HC16.out ((Below.refl _ _).alloc (Nat.le_refl _) _))) ⟨C_ints w16 _ [1] (by decide),Nat.le_refl _⟩ true (by kernel_rfl)).mono ?_);rintro e w17 ⟨rfl,hb⟩;have HC17:Aside0 (Below w12.heap.size w12 w17):=⟨below_step HC16.out (below_then ((Below.refl _ _).alloc (Nat.le_refl _) _) (by simp) hb)⟩;clear hb)|(go_at_call 34;refine(samePlans_any B10 d10 w17 (Y10.out.below HC17.out)).mono ?_;rintro e w18 ⟨rfl,hb⟩;have HC18:Aside0 (Below w12.heap.size w12 w18):=⟨below_step HC17.out hb⟩;clear hb;have hx12:=blk_below X12.out HC18.out;have z120:=(blk_cell hx12 0).trans rfl;have z121:=(blk_cell hx12 1).trans rfl;have z122:=(blk_cell hx12 2).trans rfl;clear hx12)|(go_at_call 41;refine(print_K ⟨Y12.out.1.below HC18.out,Y12.out.2.below HC18.out⟩).mono ?_;rintro e w19 ⟨rfl,hb⟩))
  go_ret;refine⟨?_,below_step HL0.out (below_step HC18.out hb)⟩
  show Ending.returned (Value.bool (knownText.toList==_))=_
  rw[Lib.toList_data]
  rfl
end Go.Proofs.YtjioobfeikbffabGreatDoor.K
end
section
namespace Go.Proofs.YtjioobfeikbffabGreatDoor.K
open Go.RowKit Go.Proofs.YtjioobfeikbffabGreatDoorW.PrintWords Go.Proofs.YtjioobfeikbffabGreatDoorW.PrintLast Go.Proofs.YtjioobfeikbffabGreatDoorW.PrintMore
def quinarialaw07_known.f (_:Nat):Option Bool:=some true
theorem quinarialaw07_known.calls (k:Nat) (r:Bool) (w:World) (hT:TabW w) (h:quinarialaw07_known.f k=some r):
    Calls Tryz.prog 18 #[] w fun e w'=>e=.returned (.bool r)∧Below w.heap.size w w':=by
  obtain rfl:true=r:=Option.some.inj h;exact known_any w hT
end Go.Proofs.YtjioobfeikbffabGreatDoor.K
end
section
namespace Go.Proofs.YtjioobfeikbffabGreatDoor.K
open Go.RowKit Go.Proofs.YtjioobfeikbffabGreatDoorW.PrintWords Go.Proofs.YtjioobfeikbffabGreatDoorW.PrintLast Go.Proofs.YtjioobfeikbffabGreatDoorW.PrintMore
attribute [local go_sem] max2_int min2_int max_two min_two max_three min_three max_four min_four
def quinariaref07_List.l0:Nat→List Int→Int→Int→List (S77)→List (S51)→Option (Bool)
 |0,_,_,_,_,_=>none
 |k+1,x1,x5,x627000,x627001,x627002=>if x5<(x1.length:Int) then(if 0≤x5 then(if x5<(x627002.length:Int) then((quinariaref07_in.f (rd x1 x5) 0 ((rd_T51 x627002 x5).f1)).bind fun t629=>(if t629=true then(quinariaref07_List.l0 k x1 (wrap64 (x5+1)) x627000 x627001 x627002) else(some false))) else(none)) else(none)) else(some true)
def quinariaref07_List.f (k:Nat) (a0_0:Int) (l0_1:List (S77)) (l0_2:List (S51)) (l1:List Int):Option (Bool):=if(l1.length:Int)=(l0_2.length:Int) then(quinariaref07_List.l0 k l1 0 a0_0 l0_1 l0_2) else(some false)
set_option maxHeartbeats 8000000 in
set_option maxRecDepth 100000 in
theorem quinariaref07_List.calls (k:Nat) (a0_0:Int) (A0_1:Option Addr) (c0_1:Nat) (l0_1:List (S77)) (A0_2:Option Addr) (c0_2:Nat) (l0_2:List (S51)) (A1:Option Addr) (c1:Nat) (l1:List Int) (r:Bool) (w:World) (hr0_1:Kd.C k77 w A0_1 l0_1.length l0_1) (hc0_1:l0_1.length≤c0_1) (hr0_2:Kd.C k51 w A0_2 l0_2.length l0_2) (hc0_2:l0_2.length≤c0_2) (hr1:Kd.C (Kd.int .i64) w A1 l1.length l1) (hc1:l1.length≤c1) (h:quinariaref07_List.f k a0_0 l0_1 l0_2 l1=some r):
  Calls Tryz.prog 22 #[.agg #[.int .i64 a0_0,.slice A0_1 l0_1.length c0_1,.slice A0_2 l0_2.length c0_2],.slice A1 l1.length c1] w fun e w'=>e=.returned (.bool r)∧Below w.heap.size w w':=by
 have hu25:=Tryz.underlying25;have HR0_1:=aM hr0_1;have HC0_1:=aM hc0_1;clear hr0_1 hc0_1;have HR0_2:=aM hr0_2;have HC0_2:=aM hc0_2;clear hr0_2 hc0_2;have HR1:=aM hr1;have HC1:=aM hc1;clear hr1 hc1;have HB:=aM (Below.refl w.heap.size w);have H:(if (l1.length:Int)=(l0_2.length:Int) then(quinariaref07_List.l0 k l1 0 a0_0 l0_1 l0_2) else(some false))=some r:=h;clear h
 by_cases c3:(l1.length:Int)=(l0_2.length:Int)
 ·rw[if_pos c3] at H;have c3b0:((l1.length:Int)==(l0_2.length:Int))=true:=beq_iff_eq.mpr c3;have c3b1:((l1.length:Int) !=(l0_2.length:Int))=false:=bne_eq_false_iff_eq.mpr c3;have c3b2:(l1.length==l0_2.length)=true:=by first|simpa using c3|(simp at c3⊢;omega)
  clear c3;have H':=aM H;clear H
  go_enter Tryz.func22,Tryz.ntmps22
  go_wp2_with (first|((with_reducible refine gate_dst (N:=2) rfl ?_);refine bxe 2 #[.int .i64 a0_0,.slice A0_1 l0_1.length c0_1,.slice A0_2 l0_2.length c0_2] 25 ?_;intro gb626 hg w4 hbox hb;have n0_:=aM (below_step uB hb);have n1_:=aM (hbox);have n2_:=gw hg;have n3_:=gw hg;clear HB;have HB:=n0_;have BK626:=n1_;have GW626:=n2_;have GE626:=n3_;clear n0_ n1_ n2_ n3_;clear hb hbox hg;obtain⟨hcz5_0,hcz5_1,hcz5_2⟩:=cz3 BK626.out;obtain⟨hfz5_0,hfz5_1,hfz5_2⟩:=fz3 BK626.out))
  repeat(go_quiet (first|((with_reducible refine gate_dst (N:=2) rfl ?_);refine bxe 2 #[.int .i64 a0_0,.slice A0_1 l0_1.length c0_1,.slice A0_2 l0_2.length c0_2] 25 ?_;intro gb626 hg w4 hbox hb;have n0_:=aM (below_step uB hb);have n1_:=aM (hbox);have n2_:=gw hg;have n3_:=gw hg;clear HB;have HB:=n0_;have BK626:=n1_;have GW626:=n2_;have GE626:=n3_;clear n0_ n1_ n2_ n3_;clear hb hbox hg;obtain⟨hcz5_0,hcz5_1,hcz5_2⟩:=cz3 BK626.out;obtain⟨hfz5_0,hfz5_1,hfz5_2⟩:=fz3 BK626.out));try go_wp2_with (first|((with_reducible refine gate_dst (N:=2) rfl ?_);refine bxe 2 #[.int .i64 a0_0,.slice A0_1 l0_1.length c0_1,.slice A0_2 l0_2.length c0_2] 25 ?_;intro gb626 hg w4 hbox hb;have n0_:=aM (below_step uB hb);have n1_:=aM (hbox);have n2_:=gw hg;have n3_:=gw hg;clear HB;have HB:=n0_;have BK626:=n1_;have GW626:=n2_;have GE626:=n3_;clear n0_ n1_ n2_ n3_;clear hb hbox hg;obtain⟨hcz5_0,hcz5_1,hcz5_2⟩:=cz3 BK626.out;obtain⟨hfz5_0,hfz5_1,hfz5_2⟩:=fz3 BK626.out)))
  go_loopg [5] k (fun kq v5 w'=>∃(x5_1:Int),v5=.int .i64 x5_1∧Aside0 (quinariaref07_List.l0 kq l1 x5_1 a0_0 l0_1 l0_2=some r)∧Aside0 (kq≤k)∧Aside0 (w'.heap[gb626]? =some (.cells #[.int .i64 a0_0,(.slice A0_1 l0_1.length c0_1),(.slice A0_2 l0_2.length c0_2)] 25 (0,0)))∧Aside0 (Below w.heap.size w w'))
  case atStart=>exact⟨(0),u0,H',⟨Nat.le_refl _⟩,⟨uK BK626.out⟩,⟨uB⟩⟩
  case round=>
   clear H';obtain⟨x5_1,rfl,HA,HK1,BK626,HB⟩:=hrel
   cases gk with
   |zero=>exact absurd HA.out (by simp[quinariaref07_List.l0])
   |succ k1=>
    have H:=HA.out;clear HA;simp only[quinariaref07_List.l0] at H
    by_cases c6:x5_1<(l1.length:Int)
    ·rw[if_pos c6] at H;replace c6:=decide_eq_true c6;obtain⟨c7,H⟩:=ifs H;replace c7:=decide_eq_true c7;obtain⟨c8,H⟩:=ifs H;replace c8:=decide_eq_true c8;replace H:=Option.bind_eq_some_iff.mp H;obtain⟨t629,A90,H⟩:=H;replace H:(if t629=true then(quinariaref07_List.l0 k1 l1 (wrap64 (x5_1+1)) a0_0 l0_1 l0_2) else(some false))=some r:=H;have A9:=aM A90;clear A90
     by_cases c10:t629=true
     ·subst c10;have H1:(quinariaref07_List.l0 k1 l1 (wrap64 (x5_1+1)) a0_0 l0_1 l0_2)=some r:=by rw[if_pos rfl] at H;exact H
      clear H;have H:=H1;clear H1;have H':=aM H;clear H;have p627:0≤(x5_1:Int):=uD;have q627:x5_1<(l1.length:Int):=uD;obtain⟨ad627,e627,hx627_0⟩:=Kd.at_int HR1.out x5_1 p627 q627
      cases e627
      replace hx627_0:=hcell HB.out hx627_0;replace p627:=eq_true p627;replace q627:=eq_true q627;obtain⟨hcz11_0,hcz11_1,hcz11_2⟩:=cz3 BK626.out;obtain⟨hfz11_0,hfz11_1,hfz11_2⟩:=fz3 BK626.out;have p628:0≤(x5_1:Int):=uD;have q628:x5_1<(l0_2.length:Int):=uD;obtain⟨ad628,e628,hx628_0,hx628_1,hx628_2⟩:=at_T51 HR0_2.out x5_1 p628 q628
      cases e628
      replace hx628_0:=hcell HB.out hx628_0;replace hx628_1:=hcell HB.out hx628_1;replace hx628_2:=hcell HB.out hx628_2;replace p628:=eq_true p628;replace q628:=eq_true q628
      go_wp2_with (first|(go_at_call 45;(with_reducible refine(quinariaref07_in.calls (rd l1 x5_1) 0 ((rd_T51 l0_2 x5_1).f1) true _ A9.out).mono ?_);rintro e w' ⟨rfl,⟨nd,rfl⟩⟩;(try first|exact⟨rfl,_,World.drewN_drewN _ _ _⟩|exact⟨rfl,_,Eq.trans (World.drewN_drewN _ _ _) (congrArg (World.drewN _) (Nat.add_assoc _ _ _))⟩)))
      repeat(go_quiet (first|(go_at_call 45;(with_reducible refine(quinariaref07_in.calls (rd l1 x5_1) 0 ((rd_T51 l0_2 x5_1).f1) true _ A9.out).mono ?_);rintro e w' ⟨rfl,⟨nd,rfl⟩⟩;(try first|exact⟨rfl,_,World.drewN_drewN _ _ _⟩|exact⟨rfl,_,Eq.trans (World.drewN_drewN _ _ _) (congrArg (World.drewN _) (Nat.add_assoc _ _ _))⟩)));try go_wp2_with (first|(go_at_call 45;(with_reducible refine(quinariaref07_in.calls (rd l1 x5_1) 0 ((rd_T51 l0_2 x5_1).f1) true _ A9.out).mono ?_);rintro e w' ⟨rfl,⟨nd,rfl⟩⟩;(try first|exact⟨rfl,_,World.drewN_drewN _ _ _⟩|exact⟨rfl,_,Eq.trans (World.drewN_drewN _ _ _) (congrArg (World.drewN _) (Nat.add_assoc _ _ _))⟩))))
      go_roundg k1
      case measure=>have:=HK1.out;omega
      case rel=>exact⟨(wrap64 (x5_1+1)),u0,H',⟨by have:=HK1.out;omega⟩,⟨uK BK626.out⟩,⟨uB⟩⟩
     ·replace c10:=Bool.eq_false_iff.mpr c10;subst c10;have H1:(some false)=some r:=by rw[if_neg (show ¬(false=true) by decide)] at H;exact H
      clear H;have H:=H1;clear H1;obtain rfl:=Option.some.inj H;have p627:0≤(x5_1:Int):=uD;have q627:x5_1<(l1.length:Int):=uD;obtain⟨ad627,e627,hx627_0⟩:=Kd.at_int HR1.out x5_1 p627 q627
      cases e627
      replace hx627_0:=hcell HB.out hx627_0;replace p627:=eq_true p627;replace q627:=eq_true q627;obtain⟨hcz12_0,hcz12_1,hcz12_2⟩:=cz3 BK626.out;obtain⟨hfz12_0,hfz12_1,hfz12_2⟩:=fz3 BK626.out;have p628:0≤(x5_1:Int):=uD;have q628:x5_1<(l0_2.length:Int):=uD;obtain⟨ad628,e628,hx628_0,hx628_1,hx628_2⟩:=at_T51 HR0_2.out x5_1 p628 q628
      cases e628
      replace hx628_0:=hcell HB.out hx628_0;replace hx628_1:=hcell HB.out hx628_1;replace hx628_2:=hcell HB.out hx628_2;replace p628:=eq_true p628;replace q628:=eq_true q628
      go_wp2_with (first|(go_at_call 45;(with_reducible refine(quinariaref07_in.calls (rd l1 x5_1) 0 ((rd_T51 l0_2 x5_1).f1) false _ A9.out).mono ?_);rintro e w' ⟨rfl,⟨nd,rfl⟩⟩;(try first|exact⟨rfl,_,World.drewN_drewN _ _ _⟩|exact⟨rfl,_,Eq.trans (World.drewN_drewN _ _ _) (congrArg (World.drewN _) (Nat.add_assoc _ _ _))⟩)))
      (repeat (go_quiet (first|(go_at_call 45;(with_reducible refine(quinariaref07_in.calls (rd l1 x5_1) 0 ((rd_T51 l0_2 x5_1).f1) false _ A9.out).mono ?_);rintro e w' ⟨rfl,⟨nd,rfl⟩⟩;(try first|exact⟨rfl,_,World.drewN_drewN _ _ _⟩|exact⟨rfl,_,Eq.trans (World.drewN_drewN _ _ _) (congrArg (World.drewN _) (Nat.add_assoc _ _ _))⟩)));try go_wp2_with (first|(go_at_call 45;(with_reducible refine(quinariaref07_in.calls (rd l1 x5_1) 0 ((rd_T51 l0_2 x5_1).f1) false _ A9.out).mono ?_);rintro e w' ⟨rfl,⟨nd,rfl⟩⟩;(try first|exact⟨rfl,_,World.drewN_drewN _ _ _⟩|exact⟨rfl,_,Eq.trans (World.drewN_drewN _ _ _) (congrArg (World.drewN _) (Nat.add_assoc _ _ _))⟩)))));go_ret;exact⟨uE,uB⟩
    ·rw[if_neg c6] at H;replace c6:=decide_eq_false c6;obtain rfl:=Option.some.inj H;go_wp2;(repeat (go_quiet (fail);try go_wp2));go_ret;exact⟨uE,uB⟩
 ·rw[if_neg c3] at H;have c3b0:((l1.length:Int)==(l0_2.length:Int))=false:=beq_eq_false_iff_ne.mpr c3;have c3b1:((l1.length:Int) !=(l0_2.length:Int))=true:=bne_iff_ne.mpr c3;have c3b2:(l1.length==l0_2.length)=false:=by first|simpa using c3|(simp at c3⊢;omega)
  obtain rfl:=Option.some.inj H
  go_enter Tryz.func22,Tryz.ntmps22
  go_wp2_with (first|((with_reducible refine gate_dst (N:=2) rfl ?_);refine bxe 2 #[.int .i64 a0_0,.slice A0_1 l0_1.length c0_1,.slice A0_2 l0_2.length c0_2] 25 ?_;intro gb626 hg w13 hbox hb;have n0_:=aM (below_step uB hb);have n1_:=aM (hbox);have n2_:=gw hg;have n3_:=gw hg;clear HB;have HB:=n0_;have BK626:=n1_;have GW626:=n2_;have GE626:=n3_;clear n0_ n1_ n2_ n3_;clear hb hbox hg;obtain⟨hcz14_0,hcz14_1,hcz14_2⟩:=cz3 BK626.out;obtain⟨hfz14_0,hfz14_1,hfz14_2⟩:=fz3 BK626.out))
  (repeat (go_quiet (first|((with_reducible refine gate_dst (N:=2) rfl ?_);refine bxe 2 #[.int .i64 a0_0,.slice A0_1 l0_1.length c0_1,.slice A0_2 l0_2.length c0_2] 25 ?_;intro gb626 hg w13 hbox hb;have n0_:=aM (below_step uB hb);have n1_:=aM (hbox);have n2_:=gw hg;have n3_:=gw hg;clear HB;have HB:=n0_;have BK626:=n1_;have GW626:=n2_;have GE626:=n3_;clear n0_ n1_ n2_ n3_;clear hb hbox hg;obtain⟨hcz14_0,hcz14_1,hcz14_2⟩:=cz3 BK626.out;obtain⟨hfz14_0,hfz14_1,hfz14_2⟩:=fz3 BK626.out));try go_wp2_with (first|((with_reducible refine gate_dst (N:=2) rfl ?_);refine bxe 2 #[.int .i64 a0_0,.slice A0_1 l0_1.length c0_1,.slice A0_2 l0_2.length c0_2] 25 ?_;intro gb626 hg w13 hbox hb;have n0_:=aM (below_step uB hb);have n1_:=aM (hbox);have n2_:=gw hg;have n3_:=gw hg;clear HB;have HB:=n0_;have BK626:=n1_;have GW626:=n2_;have GE626:=n3_;clear n0_ n1_ n2_ n3_;clear hb hbox hg;obtain⟨hcz14_0,hcz14_1,hcz14_2⟩:=cz3 BK626.out;obtain⟨hfz14_0,hfz14_1,hfz14_2⟩:=fz3 BK626.out))));go_ret;exact⟨uE,uB⟩
def quinariaref07_Has.l0:Nat→List Int→Int→Int→Option (Bool)
 |0,_,_,_=>none
 |k+1,x0,x1,x5=>if x5<(x0.length:Int) then(if 0≤x5 then(if (rd x0 x5)=x1 then(some true) else(quinariaref07_Has.l0 k x0 x1 (wrap64 (x5+1)))) else(none)) else(some false)
def quinariaref07_Has.f (k:Nat) (l0:List Int) (a1:Int):Option (Bool):=quinariaref07_Has.l0 k l0 a1 0
set_option maxHeartbeats 8000000 in
set_option maxRecDepth 100000 in
theorem quinariaref07_Has.calls (k:Nat) (A0:Option Addr) (c0:Nat) (l0:List Int) (a1:Int) (r:Bool) (w:World) (hr0:Kd.C (Kd.int .i64) w A0 l0.length l0) (hc0:l0.length≤c0) (h:quinariaref07_Has.f k l0 a1=some r):
  Calls Tryz.prog 23 #[.slice A0 l0.length c0,.int .i64 a1] w fun e w'=>e=.returned (.bool r)∧Drawn0 w w':=by
 have HR0:=aM hr0;have HC0:=aM hc0;clear hr0 hc0;have H:(quinariaref07_Has.l0 k l0 a1 0)=some r:=h;clear h;have H':=aM H;clear H
 go_enter Tryz.func23,Tryz.ntmps23
 go_wp2
 go_loopg [5] k (fun kq v5 w'=>∃(x5_1:Int),v5=.int .i64 x5_1∧Aside0 (quinariaref07_Has.l0 kq l0 a1 x5_1=some r)∧Aside0 (kq≤k)∧Drawn0 w w')
 case atStart=>exact⟨(0),u0,H',⟨Nat.le_refl _⟩,by repeat(first|exact Drawn0.refl _|apply Drawn0.step)⟩
 case round=>
  clear H';try clear c2;try clear p2
  obtain⟨x5_1,rfl,HA,HK1,⟨m1,rfl⟩⟩:=hrel
  cases gk with
  |zero=>exact absurd HA.out (by simp[quinariaref07_Has.l0])
  |succ k1=>
   have H:=HA.out;clear HA;simp only[quinariaref07_Has.l0] at H
   by_cases c3:x5_1<(l0.length:Int)
   ·rw[if_pos c3] at H;replace c3:=decide_eq_true c3;obtain⟨c4,H⟩:=ifs H;replace c4:=decide_eq_true c4
    by_cases c5:(rd l0 x5_1)=a1
    ·rw[if_pos c5] at H;have c5b0:((rd l0 x5_1)==a1)=true:=beq_iff_eq.mpr c5;have c5b1:((rd l0 x5_1) !=a1)=false:=bne_eq_false_iff_eq.mpr c5;clear c5;obtain rfl:=Option.some.inj H;have p630:0≤(x5_1:Int):=uD;have q630:x5_1<(l0.length:Int):=uD;obtain⟨ad630,e630,hx630_0⟩:=Kd.at_int HR0.out x5_1 p630 q630
     cases e630
     replace p630:=eq_true p630;replace q630:=eq_true q630;go_wp2;go_ret;exact⟨u0,by repeat(first|exact Drawn0.refl _|apply Drawn0.step)⟩
    ·rw[if_neg c5] at H;have c5b0:((rd l0 x5_1)==a1)=false:=beq_eq_false_iff_ne.mpr c5;have c5b1:((rd l0 x5_1) !=a1)=true:=bne_iff_ne.mpr c5;have H':=aM H;clear H;have p630:0≤(x5_1:Int):=uD;have q630:x5_1<(l0.length:Int):=uD;obtain⟨ad630,e630,hx630_0⟩:=Kd.at_int HR0.out x5_1 p630 q630
     cases e630
     replace p630:=eq_true p630;replace q630:=eq_true q630;go_wp2
     go_roundg k1
     case measure=>have:=HK1.out;omega
     case rel=>exact⟨(wrap64 (x5_1+1)),u0,H',⟨by have:=HK1.out;omega⟩,by repeat(first|exact Drawn0.refl _|apply Drawn0.step)⟩
   ·rw[if_neg c3] at H;replace c3:=decide_eq_false c3;obtain rfl:=Option.some.inj H;go_wp2;go_ret;exact⟨u0,by repeat(first|exact Drawn0.refl _|apply Drawn0.step)⟩
def quinarialaw07_total.l0:Nat→List Int→Int→Int→Int→Int→Int→List (S77)→List (S51)→Option (Int)
 |0,_,_,_,_,_,_,_,_=>none
 |k+1,x1,x2,x3,x9,x10,x632000,x632001,x632002=>if x10<(x1.length:Int) then(if 0≤x10 then(if x10<(x632002.length:Int) then(if ((rd_T51 x632002 x10).f2)≥x2 then(if ((rd_T51 x632002 x10).f2)≤x3 then(quinarialaw07_total.l0 k x1 x2 x3 (wrap64 (x9+(rd x1 x10))) (wrap64 (x10+1)) x632000 x632001 x632002) else(quinarialaw07_total.l0 k x1 x2 x3 x9 (wrap64 (x10+1)) x632000 x632001 x632002)) else(quinarialaw07_total.l0 k x1 x2 x3 x9 (wrap64 (x10+1)) x632000 x632001 x632002)) else(none)) else(none)) else(some x9)
def quinarialaw07_total.f (k:Nat) (a0_0:Int) (l0_1:List (S77)) (l0_2:List (S51)) (l1:List Int) (a2:Int) (a3:Int):Option (Int):=quinarialaw07_total.l0 k l1 a2 a3 0 0 a0_0 l0_1 l0_2
set_option maxHeartbeats 8000000 in
set_option maxRecDepth 100000 in
theorem quinarialaw07_total.calls (k:Nat) (a0_0:Int) (A0_1:Option Addr) (c0_1:Nat) (l0_1:List (S77)) (A0_2:Option Addr) (c0_2:Nat) (l0_2:List (S51)) (A1:Option Addr) (c1:Nat) (l1:List Int) (a2:Int) (a3:Int) (r:Int) (w:World) (hr0_1:Kd.C k77 w A0_1 l0_1.length l0_1) (hc0_1:l0_1.length≤c0_1) (hr0_2:Kd.C k51 w A0_2 l0_2.length l0_2) (hc0_2:l0_2.length≤c0_2) (hr1:Kd.C (Kd.int .i64) w A1 l1.length l1) (hc1:l1.length≤c1) (h:quinarialaw07_total.f k a0_0 l0_1 l0_2 l1 a2 a3=some r):
  Calls Tryz.prog 24 #[.agg #[.int .i64 a0_0,.slice A0_1 l0_1.length c0_1,.slice A0_2 l0_2.length c0_2],.slice A1 l1.length c1,.int .i64 a2,.int .i64 a3] w fun e w'=>e=.returned (.int .i64 r)∧Below w.heap.size w w':=by
 have hu25:=Tryz.underlying25;have HR0_1:=aM hr0_1;have HC0_1:=aM hc0_1;clear hr0_1 hc0_1;have HR0_2:=aM hr0_2;have HC0_2:=aM hc0_2;clear hr0_2 hc0_2;have HR1:=aM hr1;have HC1:=aM hc1;clear hr1 hc1;have HB:=aM (Below.refl w.heap.size w);have H:(quinarialaw07_total.l0 k l1 a2 a3 0 0 a0_0 l0_1 l0_2)=some r:=h;clear h;have H':=aM H;clear H
 go_enter Tryz.func24,Tryz.ntmps24
 go_wp2_with (first|((with_reducible refine gate_dst (N:=4) rfl ?_);refine bxe 4 #[.int .i64 a0_0,.slice A0_1 l0_1.length c0_1,.slice A0_2 l0_2.length c0_2] 25 ?_;intro gb631 hg w5 hbox hb;have n0_:=aM (below_step uB hb);have n1_:=aM (hbox);have n2_:=gw hg;have n3_:=gw hg;clear HB;have HB:=n0_;have BK631:=n1_;have GW631:=n2_;have GE631:=n3_;clear n0_ n1_ n2_ n3_;clear hb hbox hg))
 go_loopg [9,10] k (fun kq v9 v10 w'=>∃(x9_1:Int) (x10_1:Int),v9=.int .i64 x9_1∧v10=.int .i64 x10_1∧Aside0 (quinarialaw07_total.l0 kq l1 a2 a3 x9_1 x10_1 a0_0 l0_1 l0_2=some r)∧Aside0 (kq≤k)∧Aside0 (w'.heap[gb631]? =some (.cells #[.int .i64 a0_0,(.slice A0_1 l0_1.length c0_1),(.slice A0_2 l0_2.length c0_2)] 25 (0,0)))∧Aside0 (Below w.heap.size w w'))
 case atStart=>exact⟨(0),(0),u0,u0,H',⟨Nat.le_refl _⟩,⟨uK BK631.out⟩,⟨uB⟩⟩
 case round=>
  clear H';try clear c1;try clear c2;try clear p2
  obtain⟨x9_1,x10_1,rfl,rfl,HA,HK1,BK631,HB⟩:=hrel
  cases gk with
  |zero=>exact absurd HA.out (by simp[quinarialaw07_total.l0])
  |succ k1=>
   have H:=HA.out;clear HA;simp only[quinarialaw07_total.l0] at H
   by_cases c6:x10_1<(l1.length:Int)
   ·rw[if_pos c6] at H;replace c6:=decide_eq_true c6;obtain⟨c7,H⟩:=ifs H;replace c7:=decide_eq_true c7;obtain⟨c8,H⟩:=ifs H;replace c8:=decide_eq_true c8
    by_cases c9:((rd_T51 l0_2 x10_1).f2)≥a2
    ·rw[if_pos c9] at H;replace c9:=decide_eq_true c9
     by_cases c10:((rd_T51 l0_2 x10_1).f2)≤a3
     ·rw[if_pos c10] at H;replace c10:=decide_eq_true c10;have H':=aM H;clear H;obtain⟨hcz11_0,hcz11_1,hcz11_2⟩:=cz3 BK631.out;obtain⟨hfz11_0,hfz11_1,hfz11_2⟩:=fz3 BK631.out;have p632:0≤(x10_1:Int):=uD;have q632:x10_1<(l0_2.length:Int):=uD;obtain⟨ad632,e632,hx632_0,hx632_1,hx632_2⟩:=at_T51 HR0_2.out x10_1 p632 q632
      cases e632
      replace hx632_0:=hcell HB.out hx632_0;replace hx632_1:=hcell HB.out hx632_1;replace hx632_2:=hcell HB.out hx632_2;replace p632:=eq_true p632;replace q632:=eq_true q632;have p633:0≤(x10_1:Int):=uD;have q633:x10_1<(l0_2.length:Int):=uD;obtain⟨ad633,e633,hx633_0,hx633_1,hx633_2⟩:=at_T51 HR0_2.out x10_1 p633 q633;obtain rfl:ad632=ad633:=(by injection e633);replace hx633_0:=hcell HB.out hx633_0;replace hx633_1:=hcell HB.out hx633_1;replace hx633_2:=hcell HB.out hx633_2;replace p633:=eq_true p633;replace q633:=eq_true q633;have p634:0≤(x10_1:Int):=uD;have q634:x10_1<(l1.length:Int):=uD;obtain⟨ad634,e634,hx634_0⟩:=Kd.at_int HR1.out x10_1 p634 q634
      cases e634
      replace hx634_0:=hcell HB.out hx634_0;replace p634:=eq_true p634;replace q634:=eq_true q634;go_wp2
      go_roundg k1
      case measure=>have:=HK1.out;omega
      case rel=>exact⟨(wrap64 (x9_1+(rd l1 x10_1))),(wrap64 (x10_1+1)),u0,u0,H',⟨by have:=HK1.out;omega⟩,⟨uK BK631.out⟩,⟨uB⟩⟩
     ·rw[if_neg c10] at H;replace c10:=decide_eq_false c10;have H':=aM H;clear H;obtain⟨hcz12_0,hcz12_1,hcz12_2⟩:=cz3 BK631.out;obtain⟨hfz12_0,hfz12_1,hfz12_2⟩:=fz3 BK631.out;have p632:0≤(x10_1:Int):=uD;have q632:x10_1<(l0_2.length:Int):=uD;obtain⟨ad632,e632,hx632_0,hx632_1,hx632_2⟩:=at_T51 HR0_2.out x10_1 p632 q632
      cases e632
      replace hx632_0:=hcell HB.out hx632_0;replace hx632_1:=hcell HB.out hx632_1;replace hx632_2:=hcell HB.out hx632_2;replace p632:=eq_true p632;replace q632:=eq_true q632;have p633:0≤(x10_1:Int):=uD;have q633:x10_1<(l0_2.length:Int):=uD;obtain⟨ad633,e633,hx633_0,hx633_1,hx633_2⟩:=at_T51 HR0_2.out x10_1 p633 q633;obtain rfl:ad632=ad633:=(by injection e633);replace hx633_0:=hcell HB.out hx633_0;replace hx633_1:=hcell HB.out hx633_1;replace hx633_2:=hcell HB.out hx633_2;replace p633:=eq_true p633;replace q633:=eq_true q633;go_wp2
      go_roundg k1
      case measure=>have:=HK1.out;omega
      case rel=>exact⟨(x9_1),(wrap64 (x10_1+1)),u0,u0,H',⟨by have:=HK1.out;omega⟩,⟨uK BK631.out⟩,⟨uB⟩⟩
    ·rw[if_neg c9] at H;replace c9:=decide_eq_false c9;have H':=aM H;clear H;obtain⟨hcz13_0,hcz13_1,hcz13_2⟩:=cz3 BK631.out;obtain⟨hfz13_0,hfz13_1,hfz13_2⟩:=fz3 BK631.out;have p632:0≤(x10_1:Int):=uD;have q632:x10_1<(l0_2.length:Int):=uD;obtain⟨ad632,e632,hx632_0,hx632_1,hx632_2⟩:=at_T51 HR0_2.out x10_1 p632 q632
     cases e632
     replace hx632_0:=hcell HB.out hx632_0;replace hx632_1:=hcell HB.out hx632_1;replace hx632_2:=hcell HB.out hx632_2;replace p632:=eq_true p632;replace q632:=eq_true q632;go_wp2
     go_roundg k1
     case measure=>have:=HK1.out;omega
     case rel=>exact⟨(x9_1),(wrap64 (x10_1+1)),u0,u0,H',⟨by have:=HK1.out;omega⟩,⟨uK BK631.out⟩,⟨uB⟩⟩
   ·rw[if_neg c6] at H;replace c6:=decide_eq_false c6;obtain rfl:=Option.some.inj H;go_wp2;go_ret;exact⟨uE,uB⟩
end Go.Proofs.YtjioobfeikbffabGreatDoor.K
end
section
namespace Go.Proofs.YtjioobfeikbffabGreatDoor.K
open Go.RowKit Go.Proofs.YtjioobfeikbffabGreatDoorW.PrintWords Go.Proofs.YtjioobfeikbffabGreatDoorW.PrintLast Go.Proofs.YtjioobfeikbffabGreatDoorW.PrintMore
namespace Rf
theorem inB_t {a lo hi:Int}:inB a lo hi=true↔lo≤a∧a≤hi:=by simp[inB]
theorem in_f (a lo hi:Int):quinariaref07_in.f a lo hi=some (inB a lo hi):=by
  unfold quinariaref07_in.f inB
  by_cases h:a≥lo
  · rw[if_pos h];simp[h]
  · rw[if_neg h];simp;omega
theorem cups_f (a:Int):quinariaref07_Cups.f a=some (inB a 0 200):=by unfold quinariaref07_Cups.f;rw[in_f];rfl
theorem class_f (a:Int):quinariaref07_Class.f a=some (inB a 0 3):=by unfold quinariaref07_Class.f;rw[in_f];rfl
theorem node_f (I:Int) (N:List SN) (O:List SO) (a:Int):quinariaref07_Node.f I N O a=some (inB a 0 N.length):=by unfold quinariaref07_Node.f;rw[in_f];rfl
theorem sml {a:Int} (h0: -1000000000≤a) (h1:a≤1000000000):wrap64 a=a:=IntWalk.wrap64_in _ (by omega)
theorem outlet_f (I:Int) (N:List SN) (O:List SO) (hl:O.length≤1000) (a:Int):quinariaref07_Outlet.f I N O a=some (inB a 0 (O.length-1)):=by
  unfold quinariaref07_Outlet.f;rw[in_f,sml (by omega) (by omega)];rfl
theorem short_f (I:Int) (N:List SN) (O:List SO):quinarialaw07_short.f I N O=some (decide (N.length≤8)&&decide (O.length≤10)):=by
  unfold quinarialaw07_short.f
  by_cases h:(N.length:Int)≤8
  · rw[if_pos h];have h1:N.length≤8:=by omega
    have h2:((O.length:Int)≤10)↔(O.length≤10):=by omega
    simp[h1,h2]
  · rw[if_neg h];have h1:¬N.length≤8:=by omega
    simp[h1]
def nodeOk (N:List SN) (i:Nat):Bool:=decide (0≤(rdN N i).f0)&&decide ((rdN N i).f0≤i)&&decide (0≤(rdN N i).f1)&&decide ((rdN N i).f1≤200)
def outOk (m:Nat) (o:SO):Bool:=decide (0≤o.f0)&&decide (o.f0≤m)&&decide (1≤o.f1)&&decide (o.f1≤200)&&decide (0≤o.f2)&&decide (o.f2≤3)
def sizesB (I:Int) (N:List SN) (O:List SO):Bool:=decide (0≤I)&&decide (I≤200)&&decide (N.length≤6)&&decide (1≤O.length)&&decide (O.length≤8)
theorem tree_l1 (I:Int) (N:List SN) (O:List SO) (hO:O.length≤1000):∀(rest:List SO) (j K:Nat),O.drop j=rest→rest.length<K→quinariaref07_Tree.l1 K (j:Int) I N O=some (rest.all (outOk N.length)&&sizesB I N O)
  |[],j,K+1,hd,hK=>by
    have:O.length≤j:=by simpa using hd
    unfold quinariaref07_Tree.l1;rw[if_neg (by omega),cups_f,Option.bind_some,in_f,Option.bind_some,List.all_nil,Bool.true_and];unfold sizesB inB
    cases h1:(decide (0≤I)&&decide (I≤200)) with
    |false=>rw[if_neg (by simp)];simp
    |true=>
      rw[if_pos rfl]
      by_cases h2:(N.length:Int)≤6
      · have h3:N.length≤6:=by omega
        have h4:(1≤(O.length:Int))↔(1≤O.length):=by omega
        have h5:((O.length:Int)≤8)↔(O.length≤8):=by omega
        rw[if_pos h2];simp[h3,h4,h5]
      · have h3:¬N.length≤6:=by omega
        rw[if_neg h2];simp[h3]
  |o::rest,j,K+1,hd,hK=>by
    have hj:j<O.length:=by
      have:=congrArg List.length hd;simp only[List.length_drop,List.length_cons] at this
      omega
    have ho:rdO O (j:Int)=o:=by
      have:=List.drop_eq_getElem_cons hj;rw[hd] at this;rw[(List.cons.inj this).1];simp[rd_T51,List.getD,List.getElem?_eq_getElem hj]
    have hd1:O.drop (j+1)=rest:=by rw[← List.drop_drop,hd];rfl
    unfold quinariaref07_Tree.l1;rw[if_pos (by omega),if_pos (by omega),node_f,Option.bind_some,in_f,Option.bind_some,class_f,Option.bind_some,sml (by omega) (by omega)];have ih:=tree_l1 I N O hO rest (j+1) K hd1 (by simp at hK;omega);rw[show ((j+1:Nat):Int)=(j:Int)+1 by omega] at ih;rw[ih,show rd_T51 O (j:Int)=o from ho,List.all_cons];simp only[outOk,inB]
    by_cases h1:0≤o.f0<;>by_cases h2:o.f0≤N.length<;>by_cases h3:1≤o.f1<;>by_cases h4:o.f1≤200<;>by_cases h5:0≤o.f2<;>by_cases h6:o.f2≤3<;>simp[h1,h2,h3,h4,h5,h6]
theorem tree_l0 (I:Int) (N:List SN) (O:List SO) (hN:N.length≤1000) (hO:O.length≤1000):∀(d j K:Nat),j+d=N.length→d+O.length+1<K→quinariaref07_Tree.l0 K (j:Int) I N O=some ((List.range' j d).all (nodeOk N)&&(O.all (outOk N.length)&&sizesB I N O))
  |0,j,K+1,hj,hK=>by
    unfold quinariaref07_Tree.l0;rw[if_neg (by omega)];have:=tree_l1 I N O hO O 0 K rfl (by omega)
    simpa using this
  |d+1,j,K+1,hj,hK=>by
    unfold quinariaref07_Tree.l0;rw[if_pos (by omega),if_pos (by omega),in_f,Option.bind_some,cups_f,Option.bind_some,sml (by omega) (by omega)];have ih:=tree_l0 I N O hN hO d (j+1) K (by omega) (by omega);rw[show ((j+1:Nat):Int)=(j:Int)+1 by omega] at ih;rw[ih,List.range'_succ,List.all_cons];simp only[nodeOk,inB]
    by_cases h1:0≤(rdN N j).f0<;>by_cases h2:(rdN N j).f0≤j<;>by_cases h3:0≤(rdN N j).f1<;>by_cases h4:(rdN N j).f1≤200<;>simp[h1,h2,h3,h4]
theorem tree_f (I:Int) (N:List SN) (O:List SO) (hN:N.length≤1000) (hO:O.length≤1000) (K:Nat) (hK:N.length+O.length+1<K):quinariaref07_Tree.f K I N O=some (treeB I N O):=by
  unfold quinariaref07_Tree.f;have:=tree_l0 I N O hN hO N.length 0 K (by omega) hK;rw[show ((0:Nat):Int)=0 from rfl] at this;rw[this,←List.range_eq_range']
  congr 1
  have e1:(List.range N.length).all (nodeOk N)=okE N:=rfl;have e2:O.all (outOk N.length)=okO N.length O:=rfl;rw[e1,e2];unfold sizesB treeB
  cases okE N<;>cases okO N.length O<;>simp
end Rf
end Go.Proofs.YtjioobfeikbffabGreatDoor.K
end
section
namespace Go.Proofs.YtjioobfeikbffabGreatDoor.K
open Go.RowKit Go.Proofs.YtjioobfeikbffabGreatDoorW.PrintWords Go.Proofs.YtjioobfeikbffabGreatDoorW.PrintLast Go.Proofs.YtjioobfeikbffabGreatDoorW.PrintMore
attribute [local go_sem] max2_int min2_int max_two min_two max_three min_three max_four min_four
def quinariaref07_parent.f (a0_0:Int) (l0_1:List (S77)) (l0_2:List (S51)) (a1:Int):Option (Int):=if a1=0 then(some (-1)) else(if 0≤(wrap64 (a1-1)) then(if (wrap64 (a1-1))<(l0_1.length:Int) then(some ((rd_T77 l0_1 (wrap64 (a1-1))).f0)) else(none)) else(none))
def quinariaref07_Below.l0:Nat→Int→Int→Int→List (S77)→List (S51)→Option (Bool)
 |0,_,_,_,_,_=>none
 |k+1,x2,x7,x682000,x682001,x682002=>if x7≥0 then(if x7=x2 then(some true) else((quinariaref07_parent.f x682000 x682001 x682002 x7).bind fun t683=>(quinariaref07_Below.l0 k x2 t683 x682000 x682001 x682002))) else(some false)
def quinariaref07_Below.f (k:Nat) (a0_0:Int) (l0_1:List (S77)) (l0_2:List (S51)) (a1:Int) (a2:Int):Option (Bool):=if 0≤a1 then(if a1<(l0_2.length:Int) then(quinariaref07_Below.l0 k a2 ((rd_T51 l0_2 a1).f0) a0_0 l0_1 l0_2) else(none)) else(none)
def quinariaref07_Sum.l0:Nat→List Int→Int→Int→Int→Int→List (S77)→List (S51)→Option (Int)
 |0,_,_,_,_,_,_,_=>none
 |k+1,x1,x2,x7,x8,x685000,x685001,x685002=>if x8<(x1.length:Int) then((quinariaref07_Below.f k x685000 x685001 x685002 x8 x2).bind fun t685=>(if t685=true then(if 0≤x8 then(quinariaref07_Sum.l0 k x1 x2 (wrap64 (x7+(rd x1 x8))) (wrap64 (x8+1)) x685000 x685001 x685002) else(none)) else(quinariaref07_Sum.l0 k x1 x2 x7 (wrap64 (x8+1)) x685000 x685001 x685002))) else(some x7)
def quinariaref07_Sum.f (k:Nat) (a0_0:Int) (l0_1:List (S77)) (l0_2:List (S51)) (l1:List Int) (a2:Int):Option (Int):=quinariaref07_Sum.l0 k l1 a2 0 0 a0_0 l0_1 l0_2
def quinariaref07_Fits.l0:Nat→List Int→Int→Int→List (S77)→List (S51)→Option (Bool)
 |0,_,_,_,_,_=>none
 |k+1,x1,x5,x688000,x688001,x688002=>if x5≤(x688001.length:Int) then((quinariaref07_Sum.f k x688000 x688001 x688002 x1 x5).bind fun t688=>((quinariaref07_Cap.f x688000 x688001 x688002 x5).bind fun t689=>(if t688>t689 then(some false) else(quinariaref07_Fits.l0 k x1 (wrap64 (x5+1)) x688000 x688001 x688002)))) else(some true)
def quinariaref07_Fits.f (k:Nat) (a0_0:Int) (l0_1:List (S77)) (l0_2:List (S51)) (l1:List Int):Option (Bool):=quinariaref07_Fits.l0 k l1 0 a0_0 l0_1 l0_2
end Go.Proofs.YtjioobfeikbffabGreatDoor.K
end
section
namespace Go.Proofs.YtjioobfeikbffabGreatDoor.K
open Dr Go.RowKit Go.Proofs.YtjioobfeikbffabGreatDoorW.PrintWords Go.Proofs.YtjioobfeikbffabGreatDoorW.PrintLast Go.Proofs.YtjioobfeikbffabGreatDoorW.PrintMore
namespace Rf
variable {I:Int} {N:List SN} {O:List SO}
theorem cap_f (hN:N.length≤1000) {n:Int} (h0:0≤n) (h1:n≤N.length):quinariaref07_Cap.f I N O n=some (capF I N n):=by
  unfold quinariaref07_Cap.f capF
  by_cases h:n=0
  · rw[if_pos h,if_pos h]
  · rw[if_neg h,if_neg h,sml (by omega) (by omega),if_pos (by omega),if_pos (by omega)]
theorem list_l0 {s:List Int} (hs:s.length=O.length) (hl:s.length≤1000):
    ∀(d j K:Nat),j+d=s.length→d<K→quinariaref07_List.l0 K s (j:Int) I N O=some ((List.range' j d).all fun i=>decide (0≤rd s i)&&decide (rd s i≤(rdO O i).f1))
  |0,j,K+1,hj,hK=>by
    unfold quinariaref07_List.l0;rw[if_neg (by omega)]
    rfl
  |d+1,j,K+1,hj,hK=>by
    unfold quinariaref07_List.l0;have ih:=list_l0 hs hl d (j+1) K (by omega) (by omega);rw[show ((j+1:Nat):Int)=(j:Int)+1 by omega] at ih;rw[if_pos (by omega),if_pos (by omega),if_pos (by omega),in_f,Option.bind_some,sml (by omega) (by omega),ih,List.range'_succ,List.all_cons];unfold inB
    cases h:(decide (0≤rd s (j:Int))&&decide (rd s (j:Int)≤(rdO O (j:Int)).f1)) with
    |true=>rw[if_pos rfl];simp
    |false=>rw[if_neg (by simp)];simp
theorem list_f {s:List Int} (hl:O.length≤1000) (K:Nat) (hK:O.length<K):quinariaref07_List.f K I N O s=some (areB O s):=by
  unfold quinariaref07_List.f areB
  by_cases h:s.length=O.length
  · rw[if_pos (by omega),decide_eq_true h,Bool.true_and,List.range_eq_range'];exact list_l0 h (by omega) s.length 0 K (by omega) (by omega)
  · rw[if_neg (by omega),decide_eq_false h,Bool.false_and]
theorem are_rng {s:List Int} (hO:okO N.length O=true) (h:areB O s=true):s.length=O.length∧∀i:Nat,i<s.length→0≤rd s i∧rd s i≤1000:=by
  obtain⟨hl,h⟩:=are_iff.mp h;refine⟨hl,fun i hi=>?_⟩;have h1:=h i (by omega);have h2:=okO_at hO (show (0:Int)≤i by omega) (by omega)
  omega
structure Okw (N:List SN) (O:List SO):Prop where
  n:okN N=true
  o:okO N.length O=true
  nl:N.length≤6
  ol:O.length≤8
theorem okw (h:treeB I N O=true):Okw N O:=by
  have ht:=tree_ok h;exact⟨ht.n,ht.o,ht.nl,ht.ol⟩
end Rf
end Go.Proofs.YtjioobfeikbffabGreatDoor.K
end
section
namespace Go.Proofs.YtjioobfeikbffabGreatDoor.K
open Go.RowKit Go.Proofs.YtjioobfeikbffabGreatDoorW.PrintWords Go.Proofs.YtjioobfeikbffabGreatDoorW.PrintLast Go.Proofs.YtjioobfeikbffabGreatDoorW.PrintMore
attribute [local go_sem] max2_int min2_int max_two min_two max_three min_three max_four min_four
def drought_Check.f (a0_0:Int) (l0_1:List (S77)) (l0_2:List (S51)):Option (Int):=(drought_isTree.f a0_0 l0_1 l0_2).bind fun t1060=>(if t1060=true then(some 0) else(some 2))
def drought_Fits.f (k:Nat) (a0_0:Int) (l0_1:List (S77)) (l0_2:List (S51)) (l1:List Int):Option (Bool×Int):=(drought_isTree.f a0_0 l0_1 l0_2).bind fun t774=>(if t774=true then((drought_areShares.f k a0_0 l0_1 l0_2 l1).bind fun t775=>(if t775=true then((drought_fits.f a0_0 l0_1 l0_2 l1).bind fun t776=>(some (t776,0))) else(some (false,2)))) else(some (false,2)))
end Go.Proofs.YtjioobfeikbffabGreatDoor.K
end
section
namespace Go.Proofs.YtjioobfeikbffabGreatDoor.K
open Dr Go.RowKit Go.Proofs.YtjioobfeikbffabGreatDoorW.PrintWords Go.Proofs.YtjioobfeikbffabGreatDoorW.PrintLast Go.Proofs.YtjioobfeikbffabGreatDoorW.PrintMore
namespace Rf
variable {I:Int} {N:List SN} {O:List SO}
theorem law_len (h:treeB I N O=true):(lawF I N O).length=O.length:=(are_iff.mp (ordered_are (tree_ok h).o)).1
theorem sharesC_f (hN:N.length≤1000) (hO:O.length≤1000):drought_Shares.f I N O=some (if treeB I N O=true then(lawF I N O,0) else([],2)):=by
  unfold drought_Shares.f drought_isTree.f;rw[if_pos ⟨by omega,by omega⟩,Option.bind_some]
  cases h:treeB I N O with
  |false=>rfl
  |true=>
    have ht:=tree_ok h;simp only[if_true];unfold drought_law.f;rw[if_pos (by unfold treeOk;simp[ht.n,ht.o,ht.ol,ht.nl];try omega),Option.bind_some]
theorem totF_rng {s:List Int} (a b:Int):∀k:Nat,(∀ i:Nat,i<k→0≤rd s i∧rd s i≤1000)→0≤totF O s a b k∧totF O s a b k≤1000*k
  |0,_=>by simp[totF]
  |k+1,h=>by
    have:=totF_rng a b k (fun i hi=>h i (by omega));have:=h k (by omega);simp only[totF]
    split<;>omega
theorem total_l0 {s:List Int} (hs:s.length=O.length) (hl:s.length≤1000) (hr:∀i:Nat,i<s.length→0≤rd s i∧rd s i≤1000) (a b:Int):∀(d j K:Nat),j+d=s.length→d<K→quinarialaw07_total.l0 K s a b (totF O s a b j) (j:Int) I N O=some (totF O s a b s.length)
  |0,j,K+1,hj,hK=>by
    unfold quinarialaw07_total.l0;rw[if_neg (by omega),show j=s.length by omega]
  |d+1,j,K+1,hj,hK=>by
    have ih:=total_l0 hs hl hr a b d (j+1) K (by omega) (by omega);rw[show ((j+1:Nat):Int)=(j:Int)+1 by omega] at ih;have hx:=hr j (by omega);have hg:=totF_rng (O:=O) (s:=s) a b j (fun i hi=>hr i (by omega));unfold quinarialaw07_total.l0;rw[if_pos (by omega),if_pos (by omega),if_pos (by omega),sml (a:=(j:Int)+1) (by omega) (by omega),sml (a:=totF O s a b j+_) (by omega) (by omega)];simp only[totF] at ih
    by_cases h1:(rdO O (j:Int)).f2≥a
    · rw[if_pos h1]
      by_cases h2:(rdO O (j:Int)).f2≤b
      · rw[if_pos h2];rw[if_pos ⟨h1,h2⟩] at ih;exact ih
      · rw[if_neg h2];rw[if_neg (fun e=>h2 e.2),Int.add_zero] at ih;exact ih
    · rw[if_neg h1];rw[if_neg (fun e=>h1 e.1),Int.add_zero] at ih;exact ih
theorem total_f (hO:okO N.length O=true) (hl:O.length≤1000) {s:List Int} (hs:areB O s=true) (a b:Int) (K:Nat) (hK:1000<K):quinarialaw07_total.f K I N O s a b=some (totF O s a b O.length):=by
  obtain⟨h1,h2⟩:=are_rng hO hs;rw[← h1];exact total_l0 h1 (by omega) h2 a b s.length 0 K (by omega) (by omega)
theorem law_are (h:treeB I N O=true):areB O (lawF I N O)=true:=ordered_are (tree_ok h).o
theorem has_l0 (l:List Int) (hl:l.length≤1000) (n:Int):∀(d j K:Nat),j+d=l.length→d<K→quinariaref07_Has.l0 K l n (j:Int)=some (decide (n∈l.drop j))
  |0,j,K+1,hj,hK=>by
    unfold quinariaref07_Has.l0;rw[if_neg (by omega),List.drop_eq_nil_of_le (by omega)];simp
  |d+1,j,K+1,hj,hK=>by
    have ih:=has_l0 l hl n d (j+1) K (by omega) (by omega);rw[show ((j+1:Nat):Int)=(j:Int)+1 by omega] at ih;have hj':j<l.length:=by omega
    have e:rd l (j:Int)=l[j]:=by simp[rd,List.getD,List.getElem?_eq_getElem hj']
    have hm:(n∈l.drop j)↔n=l[j]∨n∈l.drop (j+1):=by rw[List.drop_eq_getElem_cons hj',List.mem_cons]
    unfold quinariaref07_Has.l0;rw[if_pos (by omega),if_pos (by omega),sml (by omega) (by omega),ih,e]
    by_cases h:l[j]=n
    · rw[if_pos h,decide_eq_true (hm.2 (.inl h.symm))]
    · rw[if_neg h];exact congrArg some (decide_eq_decide.2 ⟨fun x=>hm.2 (.inr x),fun x=>(hm.1 x).resolve_left fun e=>h e.symm⟩)
theorem has_f (l:List Int) (hl:l.length≤1000) (n:Int) (K:Nat) (hK:l.length<K):quinariaref07_Has.f K l n=some (decide (n∈l)):=by
  unfold quinariaref07_Has.f;exact has_l0 l hl n l.length 0 K (by omega) hK
end Rf
end Go.Proofs.YtjioobfeikbffabGreatDoor.K
end
section
namespace Go.Proofs.YtjioobfeikbffabGreatDoor.K
open Go.RowKit Go.Deep Go.ChangeShapes Go.WideShapes Go.ChangeAt Go.Proofs.YtjioobfeikbffabGreatDoorW.PrintWords Go.Proofs.YtjioobfeikbffabGreatDoorW.PrintLast Go.Proofs.YtjioobfeikbffabGreatDoorW.PrintMore
set_option maxRecDepth 100000
section
variable {H:Type} {enc:TypeId×Value→H} {w:World} {base:Nat} {spare:Nat→Bool} {held:Bool} {fuel:Nat} {cs:List Value} {x:DataW H×List MemPlace}
theorem list1 {α:Type} {l:List α} (h:l.length=1):∃a,l=[a]:=by
  cases l with
  |nil=>cases h
  |cons a l=>cases l with
    |nil=>exact⟨a,rfl⟩
    |cons b l=>simp at h
theorem list_succ {α:Type} {l:List α} {n:Nat} (h:l.length=n+1):∃a m,l=a::m∧m.length=n:=by
  cases l with
  |nil=>simp at h
  |cons a m=>exact⟨a,m,rfl,by simpa using h⟩
theorem el_int {fuel:Nat} {cs:List Value} {x:DataW H×List MemPlace} (h:DataW.trod enc Tryz.prog w base spare held fuel 3 cs=some x):∃z:Int,cs=[.int .i64 z]:=by
  obtain⟨z,e,_⟩:=DataW.trod_int Tryz.underlying3 h;exact⟨z,e⟩
theorem some_at {α:Type} {xs:List α} {i:Nat} (h:i<xs.length):∃y,xs[i]? =some y:=⟨_,List.getElem?_eq_getElem h⟩
theorem choose_list {α:Type} {P:Nat→α→Prop}:∀n:Nat,(∀ j,j<n→∃a,P j a)→∃xs:List α,xs.length=n∧∀j p,xs[j]? =some p→P j p
  |0,_=>⟨[],rfl,fun j p h=>by simp at h⟩
  |n+1,h=>by
    obtain⟨xs,hl,hx⟩:=choose_list n (fun j hj=>h j (by omega));obtain⟨a,ha⟩:=h n (by omega);refine⟨xs++[a],by simp[hl],fun j p hp=>?_⟩
    by_cases hj:j<xs.length
    · rw[List.getElem?_append_left hj] at hp;exact hx j p hp
    · rw[List.getElem?_append_right (by omega)] at hp
      have:j=n:=by
        have:=(List.getElem?_eq_some_iff.1 hp).1;simp at this;omega
      subst this;rw[hl,Nat.sub_self] at hp;obtain rfl:a=p:=by simpa using hp
      exact ha
theorem open_rows {α:Type} (d:Kd α) {t e:TypeId} {fuel:Nat} {cs:List Value} {x:DataW H×List MemPlace} (encs:α→List Value) (ht:Tryz.prog.underlying t=some (.slice e)) (hsz:Tryz.prog.cellsOf e=d.sz) (hn:∀a,(encs a).length=d.sz) (h0:0<d.sz) (hK:∀a,d.K w a (encs a))
    (hel:∀(fuel:Nat) (cs:List Value) (x:DataW H×List MemPlace),DataW.trod enc Tryz.prog w base spare held fuel e cs=some x→∃a,cs=encs a) (h:DataW.trod enc Tryz.prog w base spare held fuel t cs=some x):
    ∃(A:Option Addr) (xs:List α) (c:Nat),cs=[.slice A xs.length c]∧Kd.C d w A xs.length xs∧xs.length≤c∧xs.length≤maxLen:=by
  rcases open_slice ht h with⟨rfl,_⟩|⟨a,len,cap,m,n,D,Pl,rfl,_,hl,hm,hmm,_,hall⟩
  · exact⟨none,[],0,rfl,⟨rfl,by simp,fun h=>absurd h (by simp)⟩,Nat.le_refl _,Nat.zero_le _⟩
  · have hlm:len≤m:=by rw[hmm];split<;>omega
    obtain⟨xs,hxl,hx⟩:=choose_list (P:=fun j (p:α)=>w.cells? base (a.add (j*d.sz)) d.sz=some (encs p)) len (fun j hj=>by
      obtain⟨cs',h1,h2⟩:=hall j (by omega);obtain⟨p,rfl⟩:=hel _ _ _ h2;rw[hsz] at h1
      exact⟨p,h1⟩)
    refine⟨some a,xs,cap,by rw[hxl],⟨rfl,by rw[hxl];unfold maxLen at hm;omega,fun _=>⟨a,rfl,fun j p hp=>⟨encs p,hn p,hK p,fun i u hi=>?_⟩⟩⟩,by omega,by omega⟩;have h1:=World.cells?_some (hx j p hp);have hi':i<d.sz:=by have:=(List.getElem?_eq_some_iff.1 hi).1;rw[hn] at this;exact this
    have h2:=h1.2.2 i hi';rw[hi] at h2
    have h3:a.add (j*d.sz+i)=(a.add (j*d.sz)).add i:=by
      unfold Addr.add
      by_cases e1:j*d.sz=0<;>by_cases e2:i=0<;>simp[e1,e2]<;>omega
    rw[h3];exact h2
theorem el_node {fuel:Nat} {cs:List Value} {x:DataW H×List MemPlace} (h:DataW.trod enc Tryz.prog w base spare held fuel 77 cs=some x):∃s:S77,cs=[.int .i64 s.f0,.int .i64 s.f1]:=by
  obtain⟨xs,n,-,-,hl,hx,hf⟩:=DataW.trod_struct Tryz.underlying77 h;rw[show Tryz.prog.cellsOf 77=2 by kernel_rfl] at hl;obtain⟨a,m1,rfl,hl1⟩:=list_succ hl;obtain⟨b,rfl⟩:=list1 hl1;have hx:xs.length=2:=hx;obtain⟨y0,h0⟩:=some_at (xs:=xs) (i:=0) (by omega);obtain⟨y1,h1⟩:=some_at (xs:=xs) (i:=1) (by omega);have f0:=(hf 0 _ rfl).trans h0;have f1:=(hf 1 _ rfl).trans h1
  change DataW.trod enc Tryz.prog w base spare held n 3 (([a,b].drop 0).take (Tryz.prog.cellsOf 3))=_ at f0
  rw[show Tryz.prog.cellsOf 3=1 by kernel_rfl] at f0;replace f0:DataW.trod enc Tryz.prog w base spare held n 3 [a]=_:=f0
  change DataW.trod enc Tryz.prog w base spare held n 3 (([a,b].drop 1).take (Tryz.prog.cellsOf 3))=_ at f1
  rw[show Tryz.prog.cellsOf 3=1 by kernel_rfl] at f1;replace f1:DataW.trod enc Tryz.prog w base spare held n 3 [b]=_:=f1;obtain⟨z0,e0⟩:=el_int f0;obtain⟨z1,e1⟩:=el_int f1
  cases e0
  cases e1
  exact⟨⟨z0,z1⟩,rfl⟩
theorem el_outlet {fuel:Nat} {cs:List Value} {x:DataW H×List MemPlace} (h:DataW.trod enc Tryz.prog w base spare held fuel 51 cs=some x):∃s:S51,cs=[.int .i64 s.f0,.int .i64 s.f1,.int .i64 s.f2]:=by
  obtain⟨xs,n,-,-,hl,hx,hf⟩:=DataW.trod_struct Tryz.underlying51 h;rw[show Tryz.prog.cellsOf 51=3 by kernel_rfl] at hl;obtain⟨a,m1,rfl,hl1⟩:=list_succ hl;obtain⟨b,m2,rfl,hl2⟩:=list_succ hl1;obtain⟨c,rfl⟩:=list1 hl2;have hx:xs.length=3:=hx;obtain⟨y0,h0⟩:=some_at (xs:=xs) (i:=0) (by omega);obtain⟨y1,h1⟩:=some_at (xs:=xs) (i:=1) (by omega);obtain⟨y2,h2⟩:=some_at (xs:=xs) (i:=2) (by omega);have f0:=(hf 0 _ rfl).trans h0;have f1:=(hf 1 _ rfl).trans h1;have f2:=(hf 2 _ rfl).trans h2
  change DataW.trod enc Tryz.prog w base spare held n 3 (([a,b,c].drop 0).take (Tryz.prog.cellsOf 3))=_ at f0
  rw[show Tryz.prog.cellsOf 3=1 by kernel_rfl] at f0;replace f0:DataW.trod enc Tryz.prog w base spare held n 3 [a]=_:=f0
  change DataW.trod enc Tryz.prog w base spare held n 3 (([a,b,c].drop 1).take (Tryz.prog.cellsOf 3))=_ at f1
  rw[show Tryz.prog.cellsOf 3=1 by kernel_rfl] at f1;replace f1:DataW.trod enc Tryz.prog w base spare held n 3 [b]=_:=f1
  change DataW.trod enc Tryz.prog w base spare held n 3 (([a,b,c].drop 2).take (Tryz.prog.cellsOf 3))=_ at f2
  rw[show Tryz.prog.cellsOf 3=1 by kernel_rfl] at f2;replace f2:DataW.trod enc Tryz.prog w base spare held n 3 [c]=_:=f2;obtain⟨z0,e0⟩:=el_int f0;obtain⟨z1,e1⟩:=el_int f1;obtain⟨z2,e2⟩:=el_int f2
  cases e0
  cases e1
  cases e2
  exact⟨⟨z0,z1,z2⟩,rfl⟩
theorem rows_nodes {fuel:Nat} {cs:List Value} {x:DataW H×List MemPlace} (h:DataW.trod enc Tryz.prog w base spare held fuel 22 cs=some x):∃(A:Option Addr) (xs:List S77) (c:Nat),cs=[.slice A xs.length c]∧At' k77 w A xs.length c xs:=by
  obtain⟨A,xs,c,h1,h2,h3,_⟩:=open_rows k77 (fun s=>[.int .i64 s.f0,.int .i64 s.f1]) Tryz.underlying22 (by kernel_rfl) (fun _=>rfl) (by decide) (fun s=>k77_mk w s) (fun _ _ _ h=>el_node h) h;exact⟨A,xs,c,h1,h2,h3⟩
theorem rows_outlets {fuel:Nat} {cs:List Value} {x:DataW H×List MemPlace} (h:DataW.trod enc Tryz.prog w base spare held fuel 23 cs=some x):∃(A:Option Addr) (xs:List S51) (c:Nat),cs=[.slice A xs.length c]∧At' k51 w A xs.length c xs:=by
  obtain⟨A,xs,c,h1,h2,h3,_⟩:=open_rows k51 (fun s=>[.int .i64 s.f0,.int .i64 s.f1,.int .i64 s.f2]) Tryz.underlying23 (by kernel_rfl) (fun _=>rfl) (by decide) (fun s=>k51_mk w s) (fun _ _ _ h=>el_outlet h) h;exact⟨A,xs,c,h1,h2,h3⟩
theorem agg_list {cs:Array Value} {l:List Value} (h:cs.toList=l):cs=l.toArray:=by rw[← h]
theorem open_tree {v:Value} {dd:DataW H} {p:List MemPlace} (hv:Value.okWide Tryz.prog w .any base 25 v) (h:DataW.Trod enc Tryz.prog w 0 spare held 25 v dd p):
    ∃(I:Int) (A0:Option Addr) (N:List S77) (c0:Nat) (A1:Option Addr) (O:List S51) (c1:Nat),v=.agg #[.int .i64 I,.slice A0 N.length c0,.slice A1 O.length c1]∧At' k77 w A0 N.length c0 N∧At' k51 w A1 O.length c1 O:=by
  obtain⟨cs,rfl,-⟩:=okWide_struct Tryz.underlying25 hv;obtain⟨fuel,h⟩:=h;obtain⟨xs,n,-,-,hl,hx,hf⟩:=DataW.trod_struct Tryz.underlying25 h;rw[show Tryz.prog.cellsOf 25=3 by kernel_rfl] at hl;obtain⟨a,m1,e1,hl1⟩:=list_succ hl;obtain⟨b,m2,rfl,hl2⟩:=list_succ hl1;obtain⟨c,rfl⟩:=list1 hl2;rw[e1] at hf;have hx:xs.length=3:=hx;obtain⟨y0,h0⟩:=some_at (xs:=xs) (i:=0) (by omega);obtain⟨y1,h1⟩:=some_at (xs:=xs) (i:=1) (by omega);obtain⟨y2,h2⟩:=some_at (xs:=xs) (i:=2) (by omega);have f0:=(hf 0 _ rfl).trans h0;have f1:=(hf 1 _ rfl).trans h1;have f2:=(hf 2 _ rfl).trans h2
  change DataW.trod enc Tryz.prog w 0 spare held n 3 (([a,b,c].drop 0).take (Tryz.prog.cellsOf 3))=_ at f0
  rw[show Tryz.prog.cellsOf 3=1 by kernel_rfl] at f0;replace f0:DataW.trod enc Tryz.prog w 0 spare held n 3 [a]=_:=f0
  change DataW.trod enc Tryz.prog w 0 spare held n 22 (([a,b,c].drop 1).take (Tryz.prog.cellsOf 22))=_ at f1
  rw[show Tryz.prog.cellsOf 22=1 by kernel_rfl] at f1;replace f1:DataW.trod enc Tryz.prog w 0 spare held n 22 [b]=_:=f1
  change DataW.trod enc Tryz.prog w 0 spare held n 23 (([a,b,c].drop 2).take (Tryz.prog.cellsOf 23))=_ at f2
  rw[show Tryz.prog.cellsOf 23=1 by kernel_rfl] at f2;replace f2:DataW.trod enc Tryz.prog w 0 spare held n 23 [c]=_:=f2;obtain⟨z0,k0⟩:=el_int f0;obtain⟨A0,N,c0,k1,g0⟩:=rows_nodes f1;obtain⟨A1,O,c1,k2,g1⟩:=rows_outlets f2
  cases k0
  cases k1
  cases k2
  have e1:cs.toList=_:=e1;exact⟨z0,A0,N,c0,A1,O,c1,by rw[agg_list e1],g0,g1⟩
theorem open_num {v:Value} {dd:DataW H} {p:List MemPlace} (hv:Value.okWide Tryz.prog w .any base 3 v) (h:DataW.Trod enc Tryz.prog w 0 spare held 3 v dd p):∃z:Int,v=.int .i64 z∧(Lit.int .i64 z).wf=true:=by
  obtain⟨n,e,_,hn⟩:=open_int Tryz.underlying3 hv h;exact⟨n,e,hn.2⟩
end
end Go.Proofs.YtjioobfeikbffabGreatDoor.K
end
