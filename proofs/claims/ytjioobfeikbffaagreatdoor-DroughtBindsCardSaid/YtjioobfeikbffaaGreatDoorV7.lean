/- The walks of the functions that the laws of this seat call, and what they compute; joined out of smaller texts, part 7. -/
import Derived.Deep.Slices
import Derived.ProofKit
import Derived.OpenShut
import Derived.Test.YtjioobfeikbffaaGreatDoorV6
set_option linter.unusedVariables false
set_option linter.unusedSimpArgs false
section
namespace Go.Proofs.YtjioobfeikbffaaGreatDoor.K
open Go.RowKit Go.Proofs.YtjioobfeikbffaaGreatDoorW.PrintWords Go.Proofs.YtjioobfeikbffaaGreatDoorW.PrintLast Go.Proofs.YtjioobfeikbffaaGreatDoorW.PrintMore
attribute [local go_sem] max2_int min2_int max_two min_two max_three min_three max_four min_four
def quinariaref07_Binds.l0:Nat→Int→Int→List Int→Int→Int→Int→List (S85)→List (S50)→Option (Bool)
 |0,_,_,_,_,_,_,_,_=>none
 |k+1,x1,x2,x7,x8,x9,x731000,x731001,x731002=>if x9<(x731002.length:Int) then((quinariaref07_Below.f k x731000 x731001 x731002 x9 x2).bind fun t737=>(if t737=true then(if 0≤x9 then(if ((rd_T50 x731002 x9).f2)>x8 then(if x9<(x7.length:Int) then(if (rd x7 x9)>0 then(some false) else(if ((rd_T50 x731002 x9).f2)=x8 then(if 0≤x1 then(if x1<(x7.length:Int) then(if (rd x7 x9)>(wrap64 ((rd x7 x1)+1)) then(some false) else(quinariaref07_Binds.l0 k x1 x2 x7 x8 (wrap64 (x9+1)) x731000 x731001 x731002)) else(none)) else(none)) else(quinariaref07_Binds.l0 k x1 x2 x7 x8 (wrap64 (x9+1)) x731000 x731001 x731002))) else(none)) else(if ((rd_T50 x731002 x9).f2)=x8 then(if x9<(x7.length:Int) then(if 0≤x1 then(if x1<(x7.length:Int) then(if (rd x7 x9)>(wrap64 ((rd x7 x1)+1)) then(some false) else(quinariaref07_Binds.l0 k x1 x2 x7 x8 (wrap64 (x9+1)) x731000 x731001 x731002)) else(none)) else(none)) else(none)) else(quinariaref07_Binds.l0 k x1 x2 x7 x8 (wrap64 (x9+1)) x731000 x731001 x731002))) else(none)) else(quinariaref07_Binds.l0 k x1 x2 x7 x8 (wrap64 (x9+1)) x731000 x731001 x731002))) else((quinariaref07_Below.f k x731000 x731001 x731002 x1 x2).bind fun t735=>(if t735=true then((quinariaref07_tight.f k x731000 x731001 x731002 x7 x2).bind fun t736=>(some t736)) else(some false)))
def quinariaref07_Binds.f (k:Nat) (a0_0:Int) (l0_1:List (S85)) (l0_2:List (S50)) (a1:Int) (a2:Int):Option (Bool):=(quinariaref07_Shares.f k a0_0 l0_1 l0_2).bind fun t731=>(if 0≤a1 then(if a1<(l0_2.length:Int) then(quinariaref07_Binds.l0 k a1 a2 t731 ((rd_T50 l0_2 a1).f2) 0 a0_0 l0_1 l0_2) else(none)) else(none))
set_option maxHeartbeats 8000000 in
set_option maxRecDepth 100000 in
theorem quinariaref07_Binds.calls (k:Nat) (a0_0:Int) (A0_1:Option Addr) (c0_1:Nat) (l0_1:List (S85)) (A0_2:Option Addr) (c0_2:Nat) (l0_2:List (S50)) (a1:Int) (a2:Int) (r:Bool) (w:World) (hr0_1:Kd.C k85 w A0_1 l0_1.length l0_1) (hc0_1:l0_1.length≤c0_1) (hr0_2:Kd.C k50 w A0_2 l0_2.length l0_2) (hc0_2:l0_2.length≤c0_2) (h:quinariaref07_Binds.f k a0_0 l0_1 l0_2 a1 a2=some r):
  Calls Tryz.prog 31 #[.agg #[.int .i64 a0_0,.slice A0_1 l0_1.length c0_1,.slice A0_2 l0_2.length c0_2],.int .i64 a1,.int .i64 a2] w fun e w'=>e=.returned (.bool r)∧Below w.heap.size w w':=by
 have hu25:=Tryz.underlying25;have HR0_1:=aM hr0_1;have HC0_1:=aM hc0_1;clear hr0_1 hc0_1;have HR0_2:=aM hr0_2;have HC0_2:=aM hc0_2;clear hr0_2 hc0_2;have HB:=aM (Below.refl w.heap.size w);have H:((quinariaref07_Shares.f k a0_0 l0_1 l0_2).bind fun t731=>(if 0≤a1 then(if a1<(l0_2.length:Int) then(quinariaref07_Binds.l0 k a1 a2 t731 ((rd_T50 l0_2 a1).f2) 0 a0_0 l0_1 l0_2) else(none)) else(none)))=some r:=h;clear h;replace H:=Option.bind_eq_some_iff.mp H;obtain⟨t731,A40,H⟩:=H;replace H:(if 0≤a1 then(if a1<(l0_2.length:Int) then(quinariaref07_Binds.l0 k a1 a2 t731 ((rd_T50 l0_2 a1).f2) 0 a0_0 l0_1 l0_2) else(none)) else(none))=some r:=H;have A4:=aM A40;clear A40;obtain⟨c5,H⟩:=ifs H;replace c5:=decide_eq_true c5;obtain⟨c6,H⟩:=ifs H;replace c6:=decide_eq_true c6;have H':=aM H;clear H
 go_enter Tryz.func31,Tryz.ntmps31
 go_wp2_with (first|((with_reducible refine gate_dst (N:=3) rfl ?_);refine bxe 3 #[.int .i64 a0_0,.slice A0_1 l0_1.length c0_1,.slice A0_2 l0_2.length c0_2] 25 ?_;intro gb730 hg w7 hbox hb;have n0_:=aM (below_step uB hb);have n1_:=aM (hbox);have n2_:=gw hg;have n3_:=gw hg;clear HB;have HB:=n0_;have BK730:=n1_;have GW730:=n2_;have GE730:=n3_;clear n0_ n1_ n2_ n3_;clear hb hbox hg;obtain⟨hcz8_0,hcz8_1,hcz8_2⟩:=cz3 BK730.out;obtain⟨hfz8_0,hfz8_1,hfz8_2⟩:=fz3 BK730.out)|(go_at_call 19;(with_reducible refine(quinariaref07_Shares.calls k a0_0 _ _ l0_1 _ _ l0_2 t731 _ ?side1 ?side2 ?side3 ?side4 A4.out).mono ?_);(case side1=>repeat(first|exact(Kd.C_below HR0_1.out HB.out)|(with_reducible refine Kd.C_alloc ?_ _)|(with_reducible refine Kd.C_drewN ?_ _)|(with_reducible refine Kd.C_drew ?_)));(case side2=>exact HC0_1.out);(case side3=>repeat(first|exact(Kd.C_below HR0_2.out HB.out)|(with_reducible refine Kd.C_alloc ?_ _)|(with_reducible refine Kd.C_drewN ?_ _)|(with_reducible refine Kd.C_drew ?_)));(case side4=>exact HC0_2.out);rintro e w9 ⟨v732,rfl,ho0,hb⟩;have HO733:=aM (Kd.R_lower ho0 (below_size uB));replace BK730:=aM (blk_below (uK BK730.out) hb);replace HB:=aM (below_step uB hb);(try clear hb);(try clear hb2);(try clear hk);(try clear hi);(try clear ho0);obtain⟨hcz10_0,hcz10_1,hcz10_2⟩:=cz3 BK730.out;obtain⟨hfz10_0,hfz10_1,hfz10_2⟩:=fz3 BK730.out;have p734:0≤(a1:Int):=uD;have q734:a1<(l0_2.length:Int):=uD;obtain⟨ad734,e734,hx734_0,hx734_1,hx734_2⟩:=at_T50 HR0_2.out a1 p734 q734;cases e734;replace hx734_0:=hcell HB.out hx734_0;replace hx734_1:=hcell HB.out hx734_1;replace hx734_2:=hcell HB.out hx734_2;replace p734:=eq_true p734;replace q734:=eq_true q734))
 repeat(go_quiet (first|((with_reducible refine gate_dst (N:=3) rfl ?_);refine bxe 3 #[.int .i64 a0_0,.slice A0_1 l0_1.length c0_1,.slice A0_2 l0_2.length c0_2] 25 ?_;intro gb730 hg w7 hbox hb;have n0_:=aM (below_step uB hb);have n1_:=aM (hbox);have n2_:=gw hg;have n3_:=gw hg;clear HB;have HB:=n0_;have BK730:=n1_;have GW730:=n2_;have GE730:=n3_;clear n0_ n1_ n2_ n3_;clear hb hbox hg;obtain⟨hcz8_0,hcz8_1,hcz8_2⟩:=cz3 BK730.out;obtain⟨hfz8_0,hfz8_1,hfz8_2⟩:=fz3 BK730.out)|(go_at_call 19;(with_reducible refine(quinariaref07_Shares.calls k a0_0 _ _ l0_1 _ _ l0_2 t731 _ ?side1 ?side2 ?side3 ?side4 A4.out).mono ?_);(case side1=>repeat(first|exact(Kd.C_below HR0_1.out HB.out)|(with_reducible refine Kd.C_alloc ?_ _)|(with_reducible refine Kd.C_drewN ?_ _)|(with_reducible refine Kd.C_drew ?_)));(case side2=>exact HC0_1.out);(case side3=>repeat(first|exact(Kd.C_below HR0_2.out HB.out)|(with_reducible refine Kd.C_alloc ?_ _)|(with_reducible refine Kd.C_drewN ?_ _)|(with_reducible refine Kd.C_drew ?_)));(case side4=>exact HC0_2.out);rintro e w9 ⟨v732,rfl,ho0,hb⟩;have HO733:=aM (Kd.R_lower ho0 (below_size uB));replace BK730:=aM (blk_below (uK BK730.out) hb);replace HB:=aM (below_step uB hb);(try clear hb);(try clear hb2);(try clear hk);(try clear hi);(try clear ho0);obtain⟨hcz10_0,hcz10_1,hcz10_2⟩:=cz3 BK730.out;obtain⟨hfz10_0,hfz10_1,hfz10_2⟩:=fz3 BK730.out;have p734:0≤(a1:Int):=uD;have q734:a1<(l0_2.length:Int):=uD;obtain⟨ad734,e734,hx734_0,hx734_1,hx734_2⟩:=at_T50 HR0_2.out a1 p734 q734;cases e734;replace hx734_0:=hcell HB.out hx734_0;replace hx734_1:=hcell HB.out hx734_1;replace hx734_2:=hcell HB.out hx734_2;replace p734:=eq_true p734;replace q734:=eq_true q734));try go_wp2_with (first|((with_reducible refine gate_dst (N:=3) rfl ?_);refine bxe 3 #[.int .i64 a0_0,.slice A0_1 l0_1.length c0_1,.slice A0_2 l0_2.length c0_2] 25 ?_;intro gb730 hg w7 hbox hb;have n0_:=aM (below_step uB hb);have n1_:=aM (hbox);have n2_:=gw hg;have n3_:=gw hg;clear HB;have HB:=n0_;have BK730:=n1_;have GW730:=n2_;have GE730:=n3_;clear n0_ n1_ n2_ n3_;clear hb hbox hg;obtain⟨hcz8_0,hcz8_1,hcz8_2⟩:=cz3 BK730.out;obtain⟨hfz8_0,hfz8_1,hfz8_2⟩:=fz3 BK730.out)|(go_at_call 19;(with_reducible refine(quinariaref07_Shares.calls k a0_0 _ _ l0_1 _ _ l0_2 t731 _ ?side1 ?side2 ?side3 ?side4 A4.out).mono ?_);(case side1=>repeat(first|exact(Kd.C_below HR0_1.out HB.out)|(with_reducible refine Kd.C_alloc ?_ _)|(with_reducible refine Kd.C_drewN ?_ _)|(with_reducible refine Kd.C_drew ?_)));(case side2=>exact HC0_1.out);(case side3=>repeat(first|exact(Kd.C_below HR0_2.out HB.out)|(with_reducible refine Kd.C_alloc ?_ _)|(with_reducible refine Kd.C_drewN ?_ _)|(with_reducible refine Kd.C_drew ?_)));(case side4=>exact HC0_2.out);rintro e w9 ⟨v732,rfl,ho0,hb⟩;have HO733:=aM (Kd.R_lower ho0 (below_size uB));replace BK730:=aM (blk_below (uK BK730.out) hb);replace HB:=aM (below_step uB hb);(try clear hb);(try clear hb2);(try clear hk);(try clear hi);(try clear ho0);obtain⟨hcz10_0,hcz10_1,hcz10_2⟩:=cz3 BK730.out;obtain⟨hfz10_0,hfz10_1,hfz10_2⟩:=fz3 BK730.out;have p734:0≤(a1:Int):=uD;have q734:a1<(l0_2.length:Int):=uD;obtain⟨ad734,e734,hx734_0,hx734_1,hx734_2⟩:=at_T50 HR0_2.out a1 p734 q734;cases e734;replace hx734_0:=hcell HB.out hx734_0;replace hx734_1:=hcell HB.out hx734_1;replace hx734_2:=hcell HB.out hx734_2;replace p734:=eq_true p734;replace q734:=eq_true q734)))
 go_loopg [9] k (fun kq v9 w'=>∃(x9_1:Int),v9=.int .i64 x9_1∧Aside0 (quinariaref07_Binds.l0 kq a1 a2 t731 ((rd_T50 l0_2 a1).f2) x9_1 a0_0 l0_1 l0_2=some r)∧Aside0 (kq≤k)∧Aside0 (Kd.R (Kd.int .i64) 3 w' w.heap.size (fun _=>True) v732 t731)∧Aside0 (w'.heap[gb730]? =some (.cells #[.int .i64 a0_0,(.slice A0_1 l0_1.length c0_1),(.slice (some ad734) l0_2.length c0_2)] 25 (0,0)))∧Aside0 (Below w.heap.size w w'))
 case atStart=>exact⟨(0),u0,H',⟨Nat.le_refl _⟩,⟨uR HO733.out⟩,⟨uK BK730.out⟩,⟨uB⟩⟩
 case round=>
  clear H';try clear p2;try clear c3;try clear c5;try clear c5b0;try clear c6;try clear c6b0;try clear p7;try clear q7;try clear hx7;try clear hcz10_0;try clear hcz10_1;try clear hcz10_2;try clear hcz8_0;try clear hcz8_1;try clear hcz8_2;try clear hfz10_0;try clear hfz10_1;try clear hfz10_2;try clear hfz8_0;try clear hfz8_1;try clear hfz8_2;try clear hx734_0;try clear hx734_1;try clear hx734_2;try clear p734;try clear q734
  obtain⟨x9_1,rfl,HA,HK1,HO_7,BK730,HB⟩:=hrel
  cases gk with
  |zero=>exact absurd HA.out (by simp[quinariaref07_Binds.l0])
  |succ k1=>
   have H:=HA.out;clear HA;simp only[quinariaref07_Binds.l0] at H
   by_cases c11:x9_1<(l0_2.length:Int)
   ·rw[if_pos c11] at H;replace c11:=decide_eq_true c11;replace H:=Option.bind_eq_some_iff.mp H;obtain⟨t737,A120,H⟩:=H;replace H:(if t737=true then(if 0≤x9_1 then(if ((rd_T50 l0_2 x9_1).f2)>((rd_T50 l0_2 a1).f2) then(if x9_1<(t731.length:Int) then(if (rd t731 x9_1)>0 then(some false) else(if ((rd_T50 l0_2 x9_1).f2)=((rd_T50 l0_2 a1).f2) then(if 0≤a1 then(if a1<(t731.length:Int) then(if (rd t731 x9_1)>(wrap64 ((rd t731 a1)+1)) then(some false) else(quinariaref07_Binds.l0 k1 a1 a2 t731 ((rd_T50 l0_2 a1).f2) (wrap64 (x9_1+1)) a0_0 l0_1 l0_2)) else(none)) else(none)) else(quinariaref07_Binds.l0 k1 a1 a2 t731 ((rd_T50 l0_2 a1).f2) (wrap64 (x9_1+1)) a0_0 l0_1 l0_2))) else(none)) else(if ((rd_T50 l0_2 x9_1).f2)=((rd_T50 l0_2 a1).f2) then(if x9_1<(t731.length:Int) then(if 0≤a1 then(if a1<(t731.length:Int) then(if (rd t731 x9_1)>(wrap64 ((rd t731 a1)+1)) then(some false) else(quinariaref07_Binds.l0 k1 a1 a2 t731 ((rd_T50 l0_2 a1).f2) (wrap64 (x9_1+1)) a0_0 l0_1 l0_2)) else(none)) else(none)) else(none)) else(quinariaref07_Binds.l0 k1 a1 a2 t731 ((rd_T50 l0_2 a1).f2) (wrap64 (x9_1+1)) a0_0 l0_1 l0_2))) else(none)) else(quinariaref07_Binds.l0 k1 a1 a2 t731 ((rd_T50 l0_2 a1).f2) (wrap64 (x9_1+1)) a0_0 l0_1 l0_2))=some r:=H;have A12:=aM A120;clear A120
    by_cases c13:t737=true
    ·subst c13;have H1:(if 0≤x9_1 then(if ((rd_T50 l0_2 x9_1).f2)>((rd_T50 l0_2 a1).f2) then(if x9_1<(t731.length:Int) then(if (rd t731 x9_1)>0 then(some false) else(if ((rd_T50 l0_2 x9_1).f2)=((rd_T50 l0_2 a1).f2) then(if 0≤a1 then(if a1<(t731.length:Int) then(if (rd t731 x9_1)>(wrap64 ((rd t731 a1)+1)) then(some false) else(quinariaref07_Binds.l0 k1 a1 a2 t731 ((rd_T50 l0_2 a1).f2) (wrap64 (x9_1+1)) a0_0 l0_1 l0_2)) else(none)) else(none)) else(quinariaref07_Binds.l0 k1 a1 a2 t731 ((rd_T50 l0_2 a1).f2) (wrap64 (x9_1+1)) a0_0 l0_1 l0_2))) else(none)) else(if ((rd_T50 l0_2 x9_1).f2)=((rd_T50 l0_2 a1).f2) then(if x9_1<(t731.length:Int) then(if 0≤a1 then(if a1<(t731.length:Int) then(if (rd t731 x9_1)>(wrap64 ((rd t731 a1)+1)) then(some false) else(quinariaref07_Binds.l0 k1 a1 a2 t731 ((rd_T50 l0_2 a1).f2) (wrap64 (x9_1+1)) a0_0 l0_1 l0_2)) else(none)) else(none)) else(none)) else(quinariaref07_Binds.l0 k1 a1 a2 t731 ((rd_T50 l0_2 a1).f2) (wrap64 (x9_1+1)) a0_0 l0_1 l0_2))) else(none))=some r:=by rw[if_pos rfl] at H;exact H
     clear H;have H:=H1;clear H1;obtain⟨c14,H⟩:=ifs H;replace c14:=decide_eq_true c14
     by_cases c15:((rd_T50 l0_2 x9_1).f2)>((rd_T50 l0_2 a1).f2)
     ·rw[if_pos c15] at H;replace c15:=decide_eq_true c15;obtain⟨c16,H⟩:=ifs H;replace c16:=decide_eq_true c16
      by_cases c17:(rd t731 x9_1)>0
      ·rw[if_pos c17] at H;replace c17:=decide_eq_true c17;obtain rfl:=Option.some.inj H;obtain⟨hcz18_0,hcz18_1,hcz18_2⟩:=cz3 BK730.out;obtain⟨hfz18_0,hfz18_1,hfz18_2⟩:=fz3 BK730.out
       go_wp2_with (first|(go_at_call 32;(with_reducible refine(quinariaref07_Below.calls k1 a0_0 _ _ l0_1 _ _ l0_2 x9_1 a2 true _ ?side1 ?side2 ?side3 ?side4 A12.out).mono ?_);(case side1=>repeat(first|exact(Kd.C_below HR0_1.out HB.out)|(with_reducible refine Kd.C_alloc ?_ _)|(with_reducible refine Kd.C_drewN ?_ _)|(with_reducible refine Kd.C_drew ?_)));(case side2=>exact HC0_1.out);(case side3=>repeat(first|exact(Kd.C_below HR0_2.out HB.out)|(with_reducible refine Kd.C_alloc ?_ _)|(with_reducible refine Kd.C_drewN ?_ _)|(with_reducible refine Kd.C_drew ?_)));(case side4=>exact HC0_2.out);rintro e w19 ⟨rfl,hb⟩;replace HO_7:=aM (Kd.R_below (uR HO_7.out) hb);replace BK730:=aM (blk_below (uK BK730.out) hb);replace HB:=aM (below_step uB hb);(try clear hb);(try clear hb2);(try clear hk);(try clear hi);obtain⟨hcz20_0,hcz20_1,hcz20_2⟩:=cz3 BK730.out;obtain⟨hfz20_0,hfz20_1,hfz20_2⟩:=fz3 BK730.out;have p738:0≤(x9_1:Int):=uD;have q738:x9_1<(l0_2.length:Int):=uD;obtain⟨ad738,e738,hx738_0,hx738_1,hx738_2⟩:=at_T50 HR0_2.out x9_1 p738 q738;obtain rfl:ad734=ad738:=(by injection e738);replace hx738_0:=hcell HB.out hx738_0;replace hx738_1:=hcell HB.out hx738_1;replace hx738_2:=hcell HB.out hx738_2;replace p738:=eq_true p738;replace q738:=eq_true q738;obtain⟨Ao21,co21,eo21⟩:=Kd.R_slice HO_7.out;subst eo21;have p739:0≤(x9_1:Int):=uD;have q739:x9_1<(t731.length:Int):=uD;obtain⟨ad739,e739,hx739_0⟩:=Kd.at_int (Kd.R_reads' HO_7.out).2.2 x9_1 p739 q739;cases e739;replace p739:=eq_true p739;replace q739:=eq_true q739))
       (repeat (go_quiet (first|(go_at_call 32;(with_reducible refine(quinariaref07_Below.calls k1 a0_0 _ _ l0_1 _ _ l0_2 x9_1 a2 true _ ?side1 ?side2 ?side3 ?side4 A12.out).mono ?_);(case side1=>repeat(first|exact(Kd.C_below HR0_1.out HB.out)|(with_reducible refine Kd.C_alloc ?_ _)|(with_reducible refine Kd.C_drewN ?_ _)|(with_reducible refine Kd.C_drew ?_)));(case side2=>exact HC0_1.out);(case side3=>repeat(first|exact(Kd.C_below HR0_2.out HB.out)|(with_reducible refine Kd.C_alloc ?_ _)|(with_reducible refine Kd.C_drewN ?_ _)|(with_reducible refine Kd.C_drew ?_)));(case side4=>exact HC0_2.out);rintro e w19 ⟨rfl,hb⟩;replace HO_7:=aM (Kd.R_below (uR HO_7.out) hb);replace BK730:=aM (blk_below (uK BK730.out) hb);replace HB:=aM (below_step uB hb);(try clear hb);(try clear hb2);(try clear hk);(try clear hi);obtain⟨hcz20_0,hcz20_1,hcz20_2⟩:=cz3 BK730.out;obtain⟨hfz20_0,hfz20_1,hfz20_2⟩:=fz3 BK730.out;have p738:0≤(x9_1:Int):=uD;have q738:x9_1<(l0_2.length:Int):=uD;obtain⟨ad738,e738,hx738_0,hx738_1,hx738_2⟩:=at_T50 HR0_2.out x9_1 p738 q738;obtain rfl:ad734=ad738:=(by injection e738);replace hx738_0:=hcell HB.out hx738_0;replace hx738_1:=hcell HB.out hx738_1;replace hx738_2:=hcell HB.out hx738_2;replace p738:=eq_true p738;replace q738:=eq_true q738;obtain⟨Ao21,co21,eo21⟩:=Kd.R_slice HO_7.out;subst eo21;have p739:0≤(x9_1:Int):=uD;have q739:x9_1<(t731.length:Int):=uD;obtain⟨ad739,e739,hx739_0⟩:=Kd.at_int (Kd.R_reads' HO_7.out).2.2 x9_1 p739 q739;cases e739;replace p739:=eq_true p739;replace q739:=eq_true q739));try go_wp2_with (first|(go_at_call 32;(with_reducible refine(quinariaref07_Below.calls k1 a0_0 _ _ l0_1 _ _ l0_2 x9_1 a2 true _ ?side1 ?side2 ?side3 ?side4 A12.out).mono ?_);(case side1=>repeat(first|exact(Kd.C_below HR0_1.out HB.out)|(with_reducible refine Kd.C_alloc ?_ _)|(with_reducible refine Kd.C_drewN ?_ _)|(with_reducible refine Kd.C_drew ?_)));(case side2=>exact HC0_1.out);(case side3=>repeat(first|exact(Kd.C_below HR0_2.out HB.out)|(with_reducible refine Kd.C_alloc ?_ _)|(with_reducible refine Kd.C_drewN ?_ _)|(with_reducible refine Kd.C_drew ?_)));(case side4=>exact HC0_2.out);rintro e w19 ⟨rfl,hb⟩;replace HO_7:=aM (Kd.R_below (uR HO_7.out) hb);replace BK730:=aM (blk_below (uK BK730.out) hb);replace HB:=aM (below_step uB hb);(try clear hb);(try clear hb2);(try clear hk);(try clear hi);obtain⟨hcz20_0,hcz20_1,hcz20_2⟩:=cz3 BK730.out;obtain⟨hfz20_0,hfz20_1,hfz20_2⟩:=fz3 BK730.out;have p738:0≤(x9_1:Int):=uD;have q738:x9_1<(l0_2.length:Int):=uD;obtain⟨ad738,e738,hx738_0,hx738_1,hx738_2⟩:=at_T50 HR0_2.out x9_1 p738 q738;obtain rfl:ad734=ad738:=(by injection e738);replace hx738_0:=hcell HB.out hx738_0;replace hx738_1:=hcell HB.out hx738_1;replace hx738_2:=hcell HB.out hx738_2;replace p738:=eq_true p738;replace q738:=eq_true q738;obtain⟨Ao21,co21,eo21⟩:=Kd.R_slice HO_7.out;subst eo21;have p739:0≤(x9_1:Int):=uD;have q739:x9_1<(t731.length:Int):=uD;obtain⟨ad739,e739,hx739_0⟩:=Kd.at_int (Kd.R_reads' HO_7.out).2.2 x9_1 p739 q739;cases e739;replace p739:=eq_true p739;replace q739:=eq_true q739))));go_ret;exact⟨uE,uB⟩
      ·rw[if_neg c17] at H;replace c17:=decide_eq_false c17
       by_cases c22:((rd_T50 l0_2 x9_1).f2)=((rd_T50 l0_2 a1).f2)
       ·rw[if_pos c22] at H;have c22b0:(((rd_T50 l0_2 x9_1).f2)==((rd_T50 l0_2 a1).f2))=true:=beq_iff_eq.mpr c22;have c22b1:(((rd_T50 l0_2 x9_1).f2) !=((rd_T50 l0_2 a1).f2))=false:=bne_eq_false_iff_eq.mpr c22;clear c22;obtain⟨c23,H⟩:=ifs H;replace c23:=decide_eq_true c23;obtain⟨c24,H⟩:=ifs H;replace c24:=decide_eq_true c24
        by_cases c25:(rd t731 x9_1)>(wrap64 ((rd t731 a1)+1))
        ·rw[if_pos c25] at H;replace c25:=decide_eq_true c25;obtain rfl:=Option.some.inj H;obtain⟨hcz26_0,hcz26_1,hcz26_2⟩:=cz3 BK730.out;obtain⟨hfz26_0,hfz26_1,hfz26_2⟩:=fz3 BK730.out
         go_wp2_with (first|(go_at_call 32;(with_reducible refine(quinariaref07_Below.calls k1 a0_0 _ _ l0_1 _ _ l0_2 x9_1 a2 true _ ?side1 ?side2 ?side3 ?side4 A12.out).mono ?_);(case side1=>repeat(first|exact(Kd.C_below HR0_1.out HB.out)|(with_reducible refine Kd.C_alloc ?_ _)|(with_reducible refine Kd.C_drewN ?_ _)|(with_reducible refine Kd.C_drew ?_)));(case side2=>exact HC0_1.out);(case side3=>repeat(first|exact(Kd.C_below HR0_2.out HB.out)|(with_reducible refine Kd.C_alloc ?_ _)|(with_reducible refine Kd.C_drewN ?_ _)|(with_reducible refine Kd.C_drew ?_)));(case side4=>exact HC0_2.out);rintro e w27 ⟨rfl,hb⟩;replace HO_7:=aM (Kd.R_below (uR HO_7.out) hb);replace BK730:=aM (blk_below (uK BK730.out) hb);replace HB:=aM (below_step uB hb);(try clear hb);(try clear hb2);(try clear hk);(try clear hi);obtain⟨hcz28_0,hcz28_1,hcz28_2⟩:=cz3 BK730.out;obtain⟨hfz28_0,hfz28_1,hfz28_2⟩:=fz3 BK730.out;have p738:0≤(x9_1:Int):=uD;have q738:x9_1<(l0_2.length:Int):=uD;obtain⟨ad738,e738,hx738_0,hx738_1,hx738_2⟩:=at_T50 HR0_2.out x9_1 p738 q738;obtain rfl:ad734=ad738:=(by injection e738);replace hx738_0:=hcell HB.out hx738_0;replace hx738_1:=hcell HB.out hx738_1;replace hx738_2:=hcell HB.out hx738_2;replace p738:=eq_true p738;replace q738:=eq_true q738;obtain⟨Ao29,co29,eo29⟩:=Kd.R_slice HO_7.out;subst eo29;have p739:0≤(x9_1:Int):=uD;have q739:x9_1<(t731.length:Int):=uD;obtain⟨ad739,e739,hx739_0⟩:=Kd.at_int (Kd.R_reads' HO_7.out).2.2 x9_1 p739 q739;cases e739;replace p739:=eq_true p739;replace q739:=eq_true q739;have p740:0≤(x9_1:Int):=uD;have q740:x9_1<(t731.length:Int):=uD;obtain⟨ad740,e740,hx740_0⟩:=Kd.at_int (Kd.R_reads' HO_7.out).2.2 x9_1 p740 q740;obtain rfl:ad739=ad740:=(by injection e740);replace p740:=eq_true p740;replace q740:=eq_true q740;have p741:0≤(a1:Int):=uD;have q741:a1<(t731.length:Int):=uD;obtain⟨ad741,e741,hx741_0⟩:=Kd.at_int (Kd.R_reads' HO_7.out).2.2 a1 p741 q741;obtain rfl:ad739=ad741:=(by injection e741);replace p741:=eq_true p741;replace q741:=eq_true q741))
         (repeat (go_quiet (first|(go_at_call 32;(with_reducible refine(quinariaref07_Below.calls k1 a0_0 _ _ l0_1 _ _ l0_2 x9_1 a2 true _ ?side1 ?side2 ?side3 ?side4 A12.out).mono ?_);(case side1=>repeat(first|exact(Kd.C_below HR0_1.out HB.out)|(with_reducible refine Kd.C_alloc ?_ _)|(with_reducible refine Kd.C_drewN ?_ _)|(with_reducible refine Kd.C_drew ?_)));(case side2=>exact HC0_1.out);(case side3=>repeat(first|exact(Kd.C_below HR0_2.out HB.out)|(with_reducible refine Kd.C_alloc ?_ _)|(with_reducible refine Kd.C_drewN ?_ _)|(with_reducible refine Kd.C_drew ?_)));(case side4=>exact HC0_2.out);rintro e w27 ⟨rfl,hb⟩;replace HO_7:=aM (Kd.R_below (uR HO_7.out) hb);replace BK730:=aM (blk_below (uK BK730.out) hb);replace HB:=aM (below_step uB hb);(try clear hb);(try clear hb2);(try clear hk);(try clear hi);obtain⟨hcz28_0,hcz28_1,hcz28_2⟩:=cz3 BK730.out;obtain⟨hfz28_0,hfz28_1,hfz28_2⟩:=fz3 BK730.out;have p738:0≤(x9_1:Int):=uD;have q738:x9_1<(l0_2.length:Int):=uD;obtain⟨ad738,e738,hx738_0,hx738_1,hx738_2⟩:=at_T50 HR0_2.out x9_1 p738 q738;obtain rfl:ad734=ad738:=(by injection e738);replace hx738_0:=hcell HB.out hx738_0;replace hx738_1:=hcell HB.out hx738_1;replace hx738_2:=hcell HB.out hx738_2;replace p738:=eq_true p738;replace q738:=eq_true q738;obtain⟨Ao29,co29,eo29⟩:=Kd.R_slice HO_7.out;subst eo29;have p739:0≤(x9_1:Int):=uD;have q739:x9_1<(t731.length:Int):=uD;obtain⟨ad739,e739,hx739_0⟩:=Kd.at_int (Kd.R_reads' HO_7.out).2.2 x9_1 p739 q739;cases e739;replace p739:=eq_true p739;replace q739:=eq_true q739;have p740:0≤(x9_1:Int):=uD;have q740:x9_1<(t731.length:Int):=uD;obtain⟨ad740,e740,hx740_0⟩:=Kd.at_int (Kd.R_reads' HO_7.out).2.2 x9_1 p740 q740;obtain rfl:ad739=ad740:=(by injection e740);replace p740:=eq_true p740;replace q740:=eq_true q740;have p741:0≤(a1:Int):=uD;have q741:a1<(t731.length:Int):=uD;obtain⟨ad741,e741,hx741_0⟩:=Kd.at_int (Kd.R_reads' HO_7.out).2.2 a1 p741 q741;obtain rfl:ad739=ad741:=(by injection e741);replace p741:=eq_true p741;replace q741:=eq_true q741));try go_wp2_with (first|(go_at_call 32;(with_reducible refine(quinariaref07_Below.calls k1 a0_0 _ _ l0_1 _ _ l0_2 x9_1 a2 true _ ?side1 ?side2 ?side3 ?side4 A12.out).mono ?_);(case side1=>repeat(first|exact(Kd.C_below HR0_1.out HB.out)|(with_reducible refine Kd.C_alloc ?_ _)|(with_reducible refine Kd.C_drewN ?_ _)|(with_reducible refine Kd.C_drew ?_)));(case side2=>exact HC0_1.out);(case side3=>repeat(first|exact(Kd.C_below HR0_2.out HB.out)|(with_reducible refine Kd.C_alloc ?_ _)|(with_reducible refine Kd.C_drewN ?_ _)|(with_reducible refine Kd.C_drew ?_)));(case side4=>exact HC0_2.out);rintro e w27 ⟨rfl,hb⟩;replace HO_7:=aM (Kd.R_below (uR HO_7.out) hb);replace BK730:=aM (blk_below (uK BK730.out) hb);replace HB:=aM (below_step uB hb);(try clear hb);(try clear hb2);(try clear hk);(try clear hi);obtain⟨hcz28_0,hcz28_1,hcz28_2⟩:=cz3 BK730.out;obtain⟨hfz28_0,hfz28_1,hfz28_2⟩:=fz3 BK730.out;have p738:0≤(x9_1:Int):=uD;have q738:x9_1<(l0_2.length:Int):=uD;obtain⟨ad738,e738,hx738_0,hx738_1,hx738_2⟩:=at_T50 HR0_2.out x9_1 p738 q738;obtain rfl:ad734=ad738:=(by injection e738);replace hx738_0:=hcell HB.out hx738_0;replace hx738_1:=hcell HB.out hx738_1;replace hx738_2:=hcell HB.out hx738_2;replace p738:=eq_true p738;replace q738:=eq_true q738;obtain⟨Ao29,co29,eo29⟩:=Kd.R_slice HO_7.out;subst eo29;have p739:0≤(x9_1:Int):=uD;have q739:x9_1<(t731.length:Int):=uD;obtain⟨ad739,e739,hx739_0⟩:=Kd.at_int (Kd.R_reads' HO_7.out).2.2 x9_1 p739 q739;cases e739;replace p739:=eq_true p739;replace q739:=eq_true q739;have p740:0≤(x9_1:Int):=uD;have q740:x9_1<(t731.length:Int):=uD;obtain⟨ad740,e740,hx740_0⟩:=Kd.at_int (Kd.R_reads' HO_7.out).2.2 x9_1 p740 q740;obtain rfl:ad739=ad740:=(by injection e740);replace p740:=eq_true p740;replace q740:=eq_true q740;have p741:0≤(a1:Int):=uD;have q741:a1<(t731.length:Int):=uD;obtain⟨ad741,e741,hx741_0⟩:=Kd.at_int (Kd.R_reads' HO_7.out).2.2 a1 p741 q741;obtain rfl:ad739=ad741:=(by injection e741);replace p741:=eq_true p741;replace q741:=eq_true q741))));go_ret;exact⟨uE,uB⟩
        ·rw[if_neg c25] at H;replace c25:=decide_eq_false c25;have H':=aM H;clear H;obtain⟨hcz30_0,hcz30_1,hcz30_2⟩:=cz3 BK730.out;obtain⟨hfz30_0,hfz30_1,hfz30_2⟩:=fz3 BK730.out
         go_wp2_with (first|(go_at_call 32;(with_reducible refine(quinariaref07_Below.calls k1 a0_0 _ _ l0_1 _ _ l0_2 x9_1 a2 true _ ?side1 ?side2 ?side3 ?side4 A12.out).mono ?_);(case side1=>repeat(first|exact(Kd.C_below HR0_1.out HB.out)|(with_reducible refine Kd.C_alloc ?_ _)|(with_reducible refine Kd.C_drewN ?_ _)|(with_reducible refine Kd.C_drew ?_)));(case side2=>exact HC0_1.out);(case side3=>repeat(first|exact(Kd.C_below HR0_2.out HB.out)|(with_reducible refine Kd.C_alloc ?_ _)|(with_reducible refine Kd.C_drewN ?_ _)|(with_reducible refine Kd.C_drew ?_)));(case side4=>exact HC0_2.out);rintro e w31 ⟨rfl,hb⟩;replace HO_7:=aM (Kd.R_below (uR HO_7.out) hb);replace BK730:=aM (blk_below (uK BK730.out) hb);replace HB:=aM (below_step uB hb);(try clear hb);(try clear hb2);(try clear hk);(try clear hi);obtain⟨hcz32_0,hcz32_1,hcz32_2⟩:=cz3 BK730.out;obtain⟨hfz32_0,hfz32_1,hfz32_2⟩:=fz3 BK730.out;have p738:0≤(x9_1:Int):=uD;have q738:x9_1<(l0_2.length:Int):=uD;obtain⟨ad738,e738,hx738_0,hx738_1,hx738_2⟩:=at_T50 HR0_2.out x9_1 p738 q738;obtain rfl:ad734=ad738:=(by injection e738);replace hx738_0:=hcell HB.out hx738_0;replace hx738_1:=hcell HB.out hx738_1;replace hx738_2:=hcell HB.out hx738_2;replace p738:=eq_true p738;replace q738:=eq_true q738;obtain⟨Ao33,co33,eo33⟩:=Kd.R_slice HO_7.out;subst eo33;have p739:0≤(x9_1:Int):=uD;have q739:x9_1<(t731.length:Int):=uD;obtain⟨ad739,e739,hx739_0⟩:=Kd.at_int (Kd.R_reads' HO_7.out).2.2 x9_1 p739 q739;cases e739;replace p739:=eq_true p739;replace q739:=eq_true q739;have p740:0≤(x9_1:Int):=uD;have q740:x9_1<(t731.length:Int):=uD;obtain⟨ad740,e740,hx740_0⟩:=Kd.at_int (Kd.R_reads' HO_7.out).2.2 x9_1 p740 q740;obtain rfl:ad739=ad740:=(by injection e740);replace p740:=eq_true p740;replace q740:=eq_true q740;have p741:0≤(a1:Int):=uD;have q741:a1<(t731.length:Int):=uD;obtain⟨ad741,e741,hx741_0⟩:=Kd.at_int (Kd.R_reads' HO_7.out).2.2 a1 p741 q741;obtain rfl:ad739=ad741:=(by injection e741);replace p741:=eq_true p741;replace q741:=eq_true q741))
         repeat(go_quiet (first|(go_at_call 32;(with_reducible refine(quinariaref07_Below.calls k1 a0_0 _ _ l0_1 _ _ l0_2 x9_1 a2 true _ ?side1 ?side2 ?side3 ?side4 A12.out).mono ?_);(case side1=>repeat(first|exact(Kd.C_below HR0_1.out HB.out)|(with_reducible refine Kd.C_alloc ?_ _)|(with_reducible refine Kd.C_drewN ?_ _)|(with_reducible refine Kd.C_drew ?_)));(case side2=>exact HC0_1.out);(case side3=>repeat(first|exact(Kd.C_below HR0_2.out HB.out)|(with_reducible refine Kd.C_alloc ?_ _)|(with_reducible refine Kd.C_drewN ?_ _)|(with_reducible refine Kd.C_drew ?_)));(case side4=>exact HC0_2.out);rintro e w31 ⟨rfl,hb⟩;replace HO_7:=aM (Kd.R_below (uR HO_7.out) hb);replace BK730:=aM (blk_below (uK BK730.out) hb);replace HB:=aM (below_step uB hb);(try clear hb);(try clear hb2);(try clear hk);(try clear hi);obtain⟨hcz32_0,hcz32_1,hcz32_2⟩:=cz3 BK730.out;obtain⟨hfz32_0,hfz32_1,hfz32_2⟩:=fz3 BK730.out;have p738:0≤(x9_1:Int):=uD;have q738:x9_1<(l0_2.length:Int):=uD;obtain⟨ad738,e738,hx738_0,hx738_1,hx738_2⟩:=at_T50 HR0_2.out x9_1 p738 q738;obtain rfl:ad734=ad738:=(by injection e738);replace hx738_0:=hcell HB.out hx738_0;replace hx738_1:=hcell HB.out hx738_1;replace hx738_2:=hcell HB.out hx738_2;replace p738:=eq_true p738;replace q738:=eq_true q738;obtain⟨Ao33,co33,eo33⟩:=Kd.R_slice HO_7.out;subst eo33;have p739:0≤(x9_1:Int):=uD;have q739:x9_1<(t731.length:Int):=uD;obtain⟨ad739,e739,hx739_0⟩:=Kd.at_int (Kd.R_reads' HO_7.out).2.2 x9_1 p739 q739;cases e739;replace p739:=eq_true p739;replace q739:=eq_true q739;have p740:0≤(x9_1:Int):=uD;have q740:x9_1<(t731.length:Int):=uD;obtain⟨ad740,e740,hx740_0⟩:=Kd.at_int (Kd.R_reads' HO_7.out).2.2 x9_1 p740 q740;obtain rfl:ad739=ad740:=(by injection e740);replace p740:=eq_true p740;replace q740:=eq_true q740;have p741:0≤(a1:Int):=uD;have q741:a1<(t731.length:Int):=uD;obtain⟨ad741,e741,hx741_0⟩:=Kd.at_int (Kd.R_reads' HO_7.out).2.2 a1 p741 q741;obtain rfl:ad739=ad741:=(by injection e741);replace p741:=eq_true p741;replace q741:=eq_true q741));try go_wp2_with (first|(go_at_call 32;(with_reducible refine(quinariaref07_Below.calls k1 a0_0 _ _ l0_1 _ _ l0_2 x9_1 a2 true _ ?side1 ?side2 ?side3 ?side4 A12.out).mono ?_);(case side1=>repeat(first|exact(Kd.C_below HR0_1.out HB.out)|(with_reducible refine Kd.C_alloc ?_ _)|(with_reducible refine Kd.C_drewN ?_ _)|(with_reducible refine Kd.C_drew ?_)));(case side2=>exact HC0_1.out);(case side3=>repeat(first|exact(Kd.C_below HR0_2.out HB.out)|(with_reducible refine Kd.C_alloc ?_ _)|(with_reducible refine Kd.C_drewN ?_ _)|(with_reducible refine Kd.C_drew ?_)));(case side4=>exact HC0_2.out);rintro e w31 ⟨rfl,hb⟩;replace HO_7:=aM (Kd.R_below (uR HO_7.out) hb);replace BK730:=aM (blk_below (uK BK730.out) hb);replace HB:=aM (below_step uB hb);(try clear hb);(try clear hb2);(try clear hk);(try clear hi);obtain⟨hcz32_0,hcz32_1,hcz32_2⟩:=cz3 BK730.out;obtain⟨hfz32_0,hfz32_1,hfz32_2⟩:=fz3 BK730.out;have p738:0≤(x9_1:Int):=uD;have q738:x9_1<(l0_2.length:Int):=uD;obtain⟨ad738,e738,hx738_0,hx738_1,hx738_2⟩:=at_T50 HR0_2.out x9_1 p738 q738;obtain rfl:ad734=ad738:=(by injection e738);replace hx738_0:=hcell HB.out hx738_0;replace hx738_1:=hcell HB.out hx738_1;replace hx738_2:=hcell HB.out hx738_2;replace p738:=eq_true p738;replace q738:=eq_true q738;obtain⟨Ao33,co33,eo33⟩:=Kd.R_slice HO_7.out;subst eo33;have p739:0≤(x9_1:Int):=uD;have q739:x9_1<(t731.length:Int):=uD;obtain⟨ad739,e739,hx739_0⟩:=Kd.at_int (Kd.R_reads' HO_7.out).2.2 x9_1 p739 q739;cases e739;replace p739:=eq_true p739;replace q739:=eq_true q739;have p740:0≤(x9_1:Int):=uD;have q740:x9_1<(t731.length:Int):=uD;obtain⟨ad740,e740,hx740_0⟩:=Kd.at_int (Kd.R_reads' HO_7.out).2.2 x9_1 p740 q740;obtain rfl:ad739=ad740:=(by injection e740);replace p740:=eq_true p740;replace q740:=eq_true q740;have p741:0≤(a1:Int):=uD;have q741:a1<(t731.length:Int):=uD;obtain⟨ad741,e741,hx741_0⟩:=Kd.at_int (Kd.R_reads' HO_7.out).2.2 a1 p741 q741;obtain rfl:ad739=ad741:=(by injection e741);replace p741:=eq_true p741;replace q741:=eq_true q741)))
         go_roundg k1
         case measure=>have:=HK1.out;omega
         case rel=>exact⟨(wrap64 (x9_1+1)),u0,H',⟨by have:=HK1.out;omega⟩,⟨uR HO_7.out⟩,⟨uK BK730.out⟩,⟨uB⟩⟩
       ·rw[if_neg c22] at H;have c22b0:(((rd_T50 l0_2 x9_1).f2)==((rd_T50 l0_2 a1).f2))=false:=beq_eq_false_iff_ne.mpr c22;have c22b1:(((rd_T50 l0_2 x9_1).f2) !=((rd_T50 l0_2 a1).f2))=true:=bne_iff_ne.mpr c22;have H':=aM H;clear H;obtain⟨hcz34_0,hcz34_1,hcz34_2⟩:=cz3 BK730.out;obtain⟨hfz34_0,hfz34_1,hfz34_2⟩:=fz3 BK730.out
        go_wp2_with (first|(go_at_call 32;(with_reducible refine(quinariaref07_Below.calls k1 a0_0 _ _ l0_1 _ _ l0_2 x9_1 a2 true _ ?side1 ?side2 ?side3 ?side4 A12.out).mono ?_);(case side1=>repeat(first|exact(Kd.C_below HR0_1.out HB.out)|(with_reducible refine Kd.C_alloc ?_ _)|(with_reducible refine Kd.C_drewN ?_ _)|(with_reducible refine Kd.C_drew ?_)));(case side2=>exact HC0_1.out);(case side3=>repeat(first|exact(Kd.C_below HR0_2.out HB.out)|(with_reducible refine Kd.C_alloc ?_ _)|(with_reducible refine Kd.C_drewN ?_ _)|(with_reducible refine Kd.C_drew ?_)));(case side4=>exact HC0_2.out);rintro e w35 ⟨rfl,hb⟩;replace HO_7:=aM (Kd.R_below (uR HO_7.out) hb);replace BK730:=aM (blk_below (uK BK730.out) hb);replace HB:=aM (below_step uB hb);(try clear hb);(try clear hb2);(try clear hk);(try clear hi);obtain⟨hcz36_0,hcz36_1,hcz36_2⟩:=cz3 BK730.out;obtain⟨hfz36_0,hfz36_1,hfz36_2⟩:=fz3 BK730.out;have p738:0≤(x9_1:Int):=uD;have q738:x9_1<(l0_2.length:Int):=uD;obtain⟨ad738,e738,hx738_0,hx738_1,hx738_2⟩:=at_T50 HR0_2.out x9_1 p738 q738;obtain rfl:ad734=ad738:=(by injection e738);replace hx738_0:=hcell HB.out hx738_0;replace hx738_1:=hcell HB.out hx738_1;replace hx738_2:=hcell HB.out hx738_2;replace p738:=eq_true p738;replace q738:=eq_true q738;obtain⟨Ao37,co37,eo37⟩:=Kd.R_slice HO_7.out;subst eo37;have p739:0≤(x9_1:Int):=uD;have q739:x9_1<(t731.length:Int):=uD;obtain⟨ad739,e739,hx739_0⟩:=Kd.at_int (Kd.R_reads' HO_7.out).2.2 x9_1 p739 q739;cases e739;replace p739:=eq_true p739;replace q739:=eq_true q739))
        repeat(go_quiet (first|(go_at_call 32;(with_reducible refine(quinariaref07_Below.calls k1 a0_0 _ _ l0_1 _ _ l0_2 x9_1 a2 true _ ?side1 ?side2 ?side3 ?side4 A12.out).mono ?_);(case side1=>repeat(first|exact(Kd.C_below HR0_1.out HB.out)|(with_reducible refine Kd.C_alloc ?_ _)|(with_reducible refine Kd.C_drewN ?_ _)|(with_reducible refine Kd.C_drew ?_)));(case side2=>exact HC0_1.out);(case side3=>repeat(first|exact(Kd.C_below HR0_2.out HB.out)|(with_reducible refine Kd.C_alloc ?_ _)|(with_reducible refine Kd.C_drewN ?_ _)|(with_reducible refine Kd.C_drew ?_)));(case side4=>exact HC0_2.out);rintro e w35 ⟨rfl,hb⟩;replace HO_7:=aM (Kd.R_below (uR HO_7.out) hb);replace BK730:=aM (blk_below (uK BK730.out) hb);replace HB:=aM (below_step uB hb);(try clear hb);(try clear hb2);(try clear hk);(try clear hi);obtain⟨hcz36_0,hcz36_1,hcz36_2⟩:=cz3 BK730.out;obtain⟨hfz36_0,hfz36_1,hfz36_2⟩:=fz3 BK730.out;have p738:0≤(x9_1:Int):=uD;have q738:x9_1<(l0_2.length:Int):=uD;obtain⟨ad738,e738,hx738_0,hx738_1,hx738_2⟩:=at_T50 HR0_2.out x9_1 p738 q738;obtain rfl:ad734=ad738:=(by injection e738);replace hx738_0:=hcell HB.out hx738_0;replace hx738_1:=hcell HB.out hx738_1;replace hx738_2:=hcell HB.out hx738_2;replace p738:=eq_true p738;replace q738:=eq_true q738;obtain⟨Ao37,co37,eo37⟩:=Kd.R_slice HO_7.out;subst eo37;have p739:0≤(x9_1:Int):=uD;have q739:x9_1<(t731.length:Int):=uD;obtain⟨ad739,e739,hx739_0⟩:=Kd.at_int (Kd.R_reads' HO_7.out).2.2 x9_1 p739 q739;cases e739;replace p739:=eq_true p739;replace q739:=eq_true q739));try go_wp2_with (first|(go_at_call 32;(with_reducible refine(quinariaref07_Below.calls k1 a0_0 _ _ l0_1 _ _ l0_2 x9_1 a2 true _ ?side1 ?side2 ?side3 ?side4 A12.out).mono ?_);(case side1=>repeat(first|exact(Kd.C_below HR0_1.out HB.out)|(with_reducible refine Kd.C_alloc ?_ _)|(with_reducible refine Kd.C_drewN ?_ _)|(with_reducible refine Kd.C_drew ?_)));(case side2=>exact HC0_1.out);(case side3=>repeat(first|exact(Kd.C_below HR0_2.out HB.out)|(with_reducible refine Kd.C_alloc ?_ _)|(with_reducible refine Kd.C_drewN ?_ _)|(with_reducible refine Kd.C_drew ?_)));(case side4=>exact HC0_2.out);rintro e w35 ⟨rfl,hb⟩;replace HO_7:=aM (Kd.R_below (uR HO_7.out) hb);replace BK730:=aM (blk_below (uK BK730.out) hb);replace HB:=aM (below_step uB hb);(try clear hb);(try clear hb2);(try clear hk);(try clear hi);obtain⟨hcz36_0,hcz36_1,hcz36_2⟩:=cz3 BK730.out;obtain⟨hfz36_0,hfz36_1,hfz36_2⟩:=fz3 BK730.out;have p738:0≤(x9_1:Int):=uD;have q738:x9_1<(l0_2.length:Int):=uD;obtain⟨ad738,e738,hx738_0,hx738_1,hx738_2⟩:=at_T50 HR0_2.out x9_1 p738 q738;obtain rfl:ad734=ad738:=(by injection e738);replace hx738_0:=hcell HB.out hx738_0;replace hx738_1:=hcell HB.out hx738_1;replace hx738_2:=hcell HB.out hx738_2;replace p738:=eq_true p738;replace q738:=eq_true q738;obtain⟨Ao37,co37,eo37⟩:=Kd.R_slice HO_7.out;subst eo37;have p739:0≤(x9_1:Int):=uD;have q739:x9_1<(t731.length:Int):=uD;obtain⟨ad739,e739,hx739_0⟩:=Kd.at_int (Kd.R_reads' HO_7.out).2.2 x9_1 p739 q739;cases e739;replace p739:=eq_true p739;replace q739:=eq_true q739)))
        go_roundg k1
        case measure=>have:=HK1.out;omega
        case rel=>exact⟨(wrap64 (x9_1+1)),u0,H',⟨by have:=HK1.out;omega⟩,⟨uR HO_7.out⟩,⟨uK BK730.out⟩,⟨uB⟩⟩
     ·rw[if_neg c15] at H;replace c15:=decide_eq_false c15
      by_cases c38:((rd_T50 l0_2 x9_1).f2)=((rd_T50 l0_2 a1).f2)
      ·rw[if_pos c38] at H;have c38b0:(((rd_T50 l0_2 x9_1).f2)==((rd_T50 l0_2 a1).f2))=true:=beq_iff_eq.mpr c38;have c38b1:(((rd_T50 l0_2 x9_1).f2) !=((rd_T50 l0_2 a1).f2))=false:=bne_eq_false_iff_eq.mpr c38;clear c38;obtain⟨c39,H⟩:=ifs H;replace c39:=decide_eq_true c39;obtain⟨c40,H⟩:=ifs H;replace c40:=decide_eq_true c40;obtain⟨c41,H⟩:=ifs H;replace c41:=decide_eq_true c41
       by_cases c42:(rd t731 x9_1)>(wrap64 ((rd t731 a1)+1))
       ·rw[if_pos c42] at H;replace c42:=decide_eq_true c42;obtain rfl:=Option.some.inj H;obtain⟨hcz43_0,hcz43_1,hcz43_2⟩:=cz3 BK730.out;obtain⟨hfz43_0,hfz43_1,hfz43_2⟩:=fz3 BK730.out
        go_wp2_with (first|(go_at_call 32;(with_reducible refine(quinariaref07_Below.calls k1 a0_0 _ _ l0_1 _ _ l0_2 x9_1 a2 true _ ?side1 ?side2 ?side3 ?side4 A12.out).mono ?_);(case side1=>repeat(first|exact(Kd.C_below HR0_1.out HB.out)|(with_reducible refine Kd.C_alloc ?_ _)|(with_reducible refine Kd.C_drewN ?_ _)|(with_reducible refine Kd.C_drew ?_)));(case side2=>exact HC0_1.out);(case side3=>repeat(first|exact(Kd.C_below HR0_2.out HB.out)|(with_reducible refine Kd.C_alloc ?_ _)|(with_reducible refine Kd.C_drewN ?_ _)|(with_reducible refine Kd.C_drew ?_)));(case side4=>exact HC0_2.out);rintro e w44 ⟨rfl,hb⟩;replace HO_7:=aM (Kd.R_below (uR HO_7.out) hb);replace BK730:=aM (blk_below (uK BK730.out) hb);replace HB:=aM (below_step uB hb);(try clear hb);(try clear hb2);(try clear hk);(try clear hi);obtain⟨hcz45_0,hcz45_1,hcz45_2⟩:=cz3 BK730.out;obtain⟨hfz45_0,hfz45_1,hfz45_2⟩:=fz3 BK730.out;have p738:0≤(x9_1:Int):=uD;have q738:x9_1<(l0_2.length:Int):=uD;obtain⟨ad738,e738,hx738_0,hx738_1,hx738_2⟩:=at_T50 HR0_2.out x9_1 p738 q738;obtain rfl:ad734=ad738:=(by injection e738);replace hx738_0:=hcell HB.out hx738_0;replace hx738_1:=hcell HB.out hx738_1;replace hx738_2:=hcell HB.out hx738_2;replace p738:=eq_true p738;replace q738:=eq_true q738;obtain⟨Ao46,co46,eo46⟩:=Kd.R_slice HO_7.out;subst eo46;have p742:0≤(x9_1:Int):=uD;have q742:x9_1<(t731.length:Int):=uD;obtain⟨ad742,e742,hx742_0⟩:=Kd.at_int (Kd.R_reads' HO_7.out).2.2 x9_1 p742 q742;cases e742;replace p742:=eq_true p742;replace q742:=eq_true q742;have p743:0≤(a1:Int):=uD;have q743:a1<(t731.length:Int):=uD;obtain⟨ad743,e743,hx743_0⟩:=Kd.at_int (Kd.R_reads' HO_7.out).2.2 a1 p743 q743;obtain rfl:ad742=ad743:=(by injection e743);replace p743:=eq_true p743;replace q743:=eq_true q743))
        (repeat (go_quiet (first|(go_at_call 32;(with_reducible refine(quinariaref07_Below.calls k1 a0_0 _ _ l0_1 _ _ l0_2 x9_1 a2 true _ ?side1 ?side2 ?side3 ?side4 A12.out).mono ?_);(case side1=>repeat(first|exact(Kd.C_below HR0_1.out HB.out)|(with_reducible refine Kd.C_alloc ?_ _)|(with_reducible refine Kd.C_drewN ?_ _)|(with_reducible refine Kd.C_drew ?_)));(case side2=>exact HC0_1.out);(case side3=>repeat(first|exact(Kd.C_below HR0_2.out HB.out)|(with_reducible refine Kd.C_alloc ?_ _)|(with_reducible refine Kd.C_drewN ?_ _)|(with_reducible refine Kd.C_drew ?_)));(case side4=>exact HC0_2.out);rintro e w44 ⟨rfl,hb⟩;replace HO_7:=aM (Kd.R_below (uR HO_7.out) hb);replace BK730:=aM (blk_below (uK BK730.out) hb);replace HB:=aM (below_step uB hb);(try clear hb);(try clear hb2);(try clear hk);(try clear hi);obtain⟨hcz45_0,hcz45_1,hcz45_2⟩:=cz3 BK730.out;obtain⟨hfz45_0,hfz45_1,hfz45_2⟩:=fz3 BK730.out;have p738:0≤(x9_1:Int):=uD;have q738:x9_1<(l0_2.length:Int):=uD;obtain⟨ad738,e738,hx738_0,hx738_1,hx738_2⟩:=at_T50 HR0_2.out x9_1 p738 q738;obtain rfl:ad734=ad738:=(by injection e738);replace hx738_0:=hcell HB.out hx738_0;replace hx738_1:=hcell HB.out hx738_1;replace hx738_2:=hcell HB.out hx738_2;replace p738:=eq_true p738;replace q738:=eq_true q738;obtain⟨Ao46,co46,eo46⟩:=Kd.R_slice HO_7.out;subst eo46;have p742:0≤(x9_1:Int):=uD;have q742:x9_1<(t731.length:Int):=uD;obtain⟨ad742,e742,hx742_0⟩:=Kd.at_int (Kd.R_reads' HO_7.out).2.2 x9_1 p742 q742;cases e742;replace p742:=eq_true p742;replace q742:=eq_true q742;have p743:0≤(a1:Int):=uD;have q743:a1<(t731.length:Int):=uD;obtain⟨ad743,e743,hx743_0⟩:=Kd.at_int (Kd.R_reads' HO_7.out).2.2 a1 p743 q743;obtain rfl:ad742=ad743:=(by injection e743);replace p743:=eq_true p743;replace q743:=eq_true q743));try go_wp2_with (first|(go_at_call 32;(with_reducible refine(quinariaref07_Below.calls k1 a0_0 _ _ l0_1 _ _ l0_2 x9_1 a2 true _ ?side1 ?side2 ?side3 ?side4 A12.out).mono ?_);(case side1=>repeat(first|exact(Kd.C_below HR0_1.out HB.out)|(with_reducible refine Kd.C_alloc ?_ _)|(with_reducible refine Kd.C_drewN ?_ _)|(with_reducible refine Kd.C_drew ?_)));(case side2=>exact HC0_1.out);(case side3=>repeat(first|exact(Kd.C_below HR0_2.out HB.out)|(with_reducible refine Kd.C_alloc ?_ _)|(with_reducible refine Kd.C_drewN ?_ _)|(with_reducible refine Kd.C_drew ?_)));(case side4=>exact HC0_2.out);rintro e w44 ⟨rfl,hb⟩;replace HO_7:=aM (Kd.R_below (uR HO_7.out) hb);replace BK730:=aM (blk_below (uK BK730.out) hb);replace HB:=aM (below_step uB hb);(try clear hb);(try clear hb2);(try clear hk);(try clear hi);obtain⟨hcz45_0,hcz45_1,hcz45_2⟩:=cz3 BK730.out;obtain⟨hfz45_0,hfz45_1,hfz45_2⟩:=fz3 BK730.out;have p738:0≤(x9_1:Int):=uD;have q738:x9_1<(l0_2.length:Int):=uD;obtain⟨ad738,e738,hx738_0,hx738_1,hx738_2⟩:=at_T50 HR0_2.out x9_1 p738 q738;obtain rfl:ad734=ad738:=(by injection e738);replace hx738_0:=hcell HB.out hx738_0;replace hx738_1:=hcell HB.out hx738_1;replace hx738_2:=hcell HB.out hx738_2;replace p738:=eq_true p738;replace q738:=eq_true q738;obtain⟨Ao46,co46,eo46⟩:=Kd.R_slice HO_7.out;subst eo46;have p742:0≤(x9_1:Int):=uD;have q742:x9_1<(t731.length:Int):=uD;obtain⟨ad742,e742,hx742_0⟩:=Kd.at_int (Kd.R_reads' HO_7.out).2.2 x9_1 p742 q742;cases e742;replace p742:=eq_true p742;replace q742:=eq_true q742;have p743:0≤(a1:Int):=uD;have q743:a1<(t731.length:Int):=uD;obtain⟨ad743,e743,hx743_0⟩:=Kd.at_int (Kd.R_reads' HO_7.out).2.2 a1 p743 q743;obtain rfl:ad742=ad743:=(by injection e743);replace p743:=eq_true p743;replace q743:=eq_true q743))));go_ret;exact⟨uE,uB⟩
       ·rw[if_neg c42] at H;replace c42:=decide_eq_false c42;have H':=aM H;clear H;obtain⟨hcz47_0,hcz47_1,hcz47_2⟩:=cz3 BK730.out;obtain⟨hfz47_0,hfz47_1,hfz47_2⟩:=fz3 BK730.out
        go_wp2_with (first|(go_at_call 32;(with_reducible refine(quinariaref07_Below.calls k1 a0_0 _ _ l0_1 _ _ l0_2 x9_1 a2 true _ ?side1 ?side2 ?side3 ?side4 A12.out).mono ?_);(case side1=>repeat(first|exact(Kd.C_below HR0_1.out HB.out)|(with_reducible refine Kd.C_alloc ?_ _)|(with_reducible refine Kd.C_drewN ?_ _)|(with_reducible refine Kd.C_drew ?_)));(case side2=>exact HC0_1.out);(case side3=>repeat(first|exact(Kd.C_below HR0_2.out HB.out)|(with_reducible refine Kd.C_alloc ?_ _)|(with_reducible refine Kd.C_drewN ?_ _)|(with_reducible refine Kd.C_drew ?_)));(case side4=>exact HC0_2.out);rintro e w48 ⟨rfl,hb⟩;replace HO_7:=aM (Kd.R_below (uR HO_7.out) hb);replace BK730:=aM (blk_below (uK BK730.out) hb);replace HB:=aM (below_step uB hb);(try clear hb);(try clear hb2);(try clear hk);(try clear hi);obtain⟨hcz49_0,hcz49_1,hcz49_2⟩:=cz3 BK730.out;obtain⟨hfz49_0,hfz49_1,hfz49_2⟩:=fz3 BK730.out;have p738:0≤(x9_1:Int):=uD;have q738:x9_1<(l0_2.length:Int):=uD;obtain⟨ad738,e738,hx738_0,hx738_1,hx738_2⟩:=at_T50 HR0_2.out x9_1 p738 q738;obtain rfl:ad734=ad738:=(by injection e738);replace hx738_0:=hcell HB.out hx738_0;replace hx738_1:=hcell HB.out hx738_1;replace hx738_2:=hcell HB.out hx738_2;replace p738:=eq_true p738;replace q738:=eq_true q738;obtain⟨Ao50,co50,eo50⟩:=Kd.R_slice HO_7.out;subst eo50;have p742:0≤(x9_1:Int):=uD;have q742:x9_1<(t731.length:Int):=uD;obtain⟨ad742,e742,hx742_0⟩:=Kd.at_int (Kd.R_reads' HO_7.out).2.2 x9_1 p742 q742;cases e742;replace p742:=eq_true p742;replace q742:=eq_true q742;have p743:0≤(a1:Int):=uD;have q743:a1<(t731.length:Int):=uD;obtain⟨ad743,e743,hx743_0⟩:=Kd.at_int (Kd.R_reads' HO_7.out).2.2 a1 p743 q743;obtain rfl:ad742=ad743:=(by injection e743);replace p743:=eq_true p743;replace q743:=eq_true q743))
        repeat(go_quiet (first|(go_at_call 32;(with_reducible refine(quinariaref07_Below.calls k1 a0_0 _ _ l0_1 _ _ l0_2 x9_1 a2 true _ ?side1 ?side2 ?side3 ?side4 A12.out).mono ?_);(case side1=>repeat(first|exact(Kd.C_below HR0_1.out HB.out)|(with_reducible refine Kd.C_alloc ?_ _)|(with_reducible refine Kd.C_drewN ?_ _)|(with_reducible refine Kd.C_drew ?_)));(case side2=>exact HC0_1.out);(case side3=>repeat(first|exact(Kd.C_below HR0_2.out HB.out)|(with_reducible refine Kd.C_alloc ?_ _)|(with_reducible refine Kd.C_drewN ?_ _)|(with_reducible refine Kd.C_drew ?_)));(case side4=>exact HC0_2.out);rintro e w48 ⟨rfl,hb⟩;replace HO_7:=aM (Kd.R_below (uR HO_7.out) hb);replace BK730:=aM (blk_below (uK BK730.out) hb);replace HB:=aM (below_step uB hb);(try clear hb);(try clear hb2);(try clear hk);(try clear hi);obtain⟨hcz49_0,hcz49_1,hcz49_2⟩:=cz3 BK730.out;obtain⟨hfz49_0,hfz49_1,hfz49_2⟩:=fz3 BK730.out;have p738:0≤(x9_1:Int):=uD;have q738:x9_1<(l0_2.length:Int):=uD;obtain⟨ad738,e738,hx738_0,hx738_1,hx738_2⟩:=at_T50 HR0_2.out x9_1 p738 q738;obtain rfl:ad734=ad738:=(by injection e738);replace hx738_0:=hcell HB.out hx738_0;replace hx738_1:=hcell HB.out hx738_1;replace hx738_2:=hcell HB.out hx738_2;replace p738:=eq_true p738;replace q738:=eq_true q738;obtain⟨Ao50,co50,eo50⟩:=Kd.R_slice HO_7.out;subst eo50;have p742:0≤(x9_1:Int):=uD;have q742:x9_1<(t731.length:Int):=uD;obtain⟨ad742,e742,hx742_0⟩:=Kd.at_int (Kd.R_reads' HO_7.out).2.2 x9_1 p742 q742;cases e742;replace p742:=eq_true p742;replace q742:=eq_true q742;have p743:0≤(a1:Int):=uD;have q743:a1<(t731.length:Int):=uD;obtain⟨ad743,e743,hx743_0⟩:=Kd.at_int (Kd.R_reads' HO_7.out).2.2 a1 p743 q743;obtain rfl:ad742=ad743:=(by injection e743);replace p743:=eq_true p743;replace q743:=eq_true q743));try go_wp2_with (first|(go_at_call 32;(with_reducible refine(quinariaref07_Below.calls k1 a0_0 _ _ l0_1 _ _ l0_2 x9_1 a2 true _ ?side1 ?side2 ?side3 ?side4 A12.out).mono ?_);(case side1=>repeat(first|exact(Kd.C_below HR0_1.out HB.out)|(with_reducible refine Kd.C_alloc ?_ _)|(with_reducible refine Kd.C_drewN ?_ _)|(with_reducible refine Kd.C_drew ?_)));(case side2=>exact HC0_1.out);(case side3=>repeat(first|exact(Kd.C_below HR0_2.out HB.out)|(with_reducible refine Kd.C_alloc ?_ _)|(with_reducible refine Kd.C_drewN ?_ _)|(with_reducible refine Kd.C_drew ?_)));(case side4=>exact HC0_2.out);rintro e w48 ⟨rfl,hb⟩;replace HO_7:=aM (Kd.R_below (uR HO_7.out) hb);replace BK730:=aM (blk_below (uK BK730.out) hb);replace HB:=aM (below_step uB hb);(try clear hb);(try clear hb2);(try clear hk);(try clear hi);obtain⟨hcz49_0,hcz49_1,hcz49_2⟩:=cz3 BK730.out;obtain⟨hfz49_0,hfz49_1,hfz49_2⟩:=fz3 BK730.out;have p738:0≤(x9_1:Int):=uD;have q738:x9_1<(l0_2.length:Int):=uD;obtain⟨ad738,e738,hx738_0,hx738_1,hx738_2⟩:=at_T50 HR0_2.out x9_1 p738 q738;obtain rfl:ad734=ad738:=(by injection e738);replace hx738_0:=hcell HB.out hx738_0;replace hx738_1:=hcell HB.out hx738_1;replace hx738_2:=hcell HB.out hx738_2;replace p738:=eq_true p738;replace q738:=eq_true q738;obtain⟨Ao50,co50,eo50⟩:=Kd.R_slice HO_7.out;subst eo50;have p742:0≤(x9_1:Int):=uD;have q742:x9_1<(t731.length:Int):=uD;obtain⟨ad742,e742,hx742_0⟩:=Kd.at_int (Kd.R_reads' HO_7.out).2.2 x9_1 p742 q742;cases e742;replace p742:=eq_true p742;replace q742:=eq_true q742;have p743:0≤(a1:Int):=uD;have q743:a1<(t731.length:Int):=uD;obtain⟨ad743,e743,hx743_0⟩:=Kd.at_int (Kd.R_reads' HO_7.out).2.2 a1 p743 q743;obtain rfl:ad742=ad743:=(by injection e743);replace p743:=eq_true p743;replace q743:=eq_true q743)))
        go_roundg k1
        case measure=>have:=HK1.out;omega
        case rel=>exact⟨(wrap64 (x9_1+1)),u0,H',⟨by have:=HK1.out;omega⟩,⟨uR HO_7.out⟩,⟨uK BK730.out⟩,⟨uB⟩⟩
      ·rw[if_neg c38] at H;have c38b0:(((rd_T50 l0_2 x9_1).f2)==((rd_T50 l0_2 a1).f2))=false:=beq_eq_false_iff_ne.mpr c38;have c38b1:(((rd_T50 l0_2 x9_1).f2) !=((rd_T50 l0_2 a1).f2))=true:=bne_iff_ne.mpr c38;have H':=aM H;clear H;obtain⟨hcz51_0,hcz51_1,hcz51_2⟩:=cz3 BK730.out;obtain⟨hfz51_0,hfz51_1,hfz51_2⟩:=fz3 BK730.out
       go_wp2_with (first|(go_at_call 32;(with_reducible refine(quinariaref07_Below.calls k1 a0_0 _ _ l0_1 _ _ l0_2 x9_1 a2 true _ ?side1 ?side2 ?side3 ?side4 A12.out).mono ?_);(case side1=>repeat(first|exact(Kd.C_below HR0_1.out HB.out)|(with_reducible refine Kd.C_alloc ?_ _)|(with_reducible refine Kd.C_drewN ?_ _)|(with_reducible refine Kd.C_drew ?_)));(case side2=>exact HC0_1.out);(case side3=>repeat(first|exact(Kd.C_below HR0_2.out HB.out)|(with_reducible refine Kd.C_alloc ?_ _)|(with_reducible refine Kd.C_drewN ?_ _)|(with_reducible refine Kd.C_drew ?_)));(case side4=>exact HC0_2.out);rintro e w52 ⟨rfl,hb⟩;replace HO_7:=aM (Kd.R_below (uR HO_7.out) hb);replace BK730:=aM (blk_below (uK BK730.out) hb);replace HB:=aM (below_step uB hb);(try clear hb);(try clear hb2);(try clear hk);(try clear hi);obtain⟨hcz53_0,hcz53_1,hcz53_2⟩:=cz3 BK730.out;obtain⟨hfz53_0,hfz53_1,hfz53_2⟩:=fz3 BK730.out;have p738:0≤(x9_1:Int):=uD;have q738:x9_1<(l0_2.length:Int):=uD;obtain⟨ad738,e738,hx738_0,hx738_1,hx738_2⟩:=at_T50 HR0_2.out x9_1 p738 q738;obtain rfl:ad734=ad738:=(by injection e738);replace hx738_0:=hcell HB.out hx738_0;replace hx738_1:=hcell HB.out hx738_1;replace hx738_2:=hcell HB.out hx738_2;replace p738:=eq_true p738;replace q738:=eq_true q738))
       repeat(go_quiet (first|(go_at_call 32;(with_reducible refine(quinariaref07_Below.calls k1 a0_0 _ _ l0_1 _ _ l0_2 x9_1 a2 true _ ?side1 ?side2 ?side3 ?side4 A12.out).mono ?_);(case side1=>repeat(first|exact(Kd.C_below HR0_1.out HB.out)|(with_reducible refine Kd.C_alloc ?_ _)|(with_reducible refine Kd.C_drewN ?_ _)|(with_reducible refine Kd.C_drew ?_)));(case side2=>exact HC0_1.out);(case side3=>repeat(first|exact(Kd.C_below HR0_2.out HB.out)|(with_reducible refine Kd.C_alloc ?_ _)|(with_reducible refine Kd.C_drewN ?_ _)|(with_reducible refine Kd.C_drew ?_)));(case side4=>exact HC0_2.out);rintro e w52 ⟨rfl,hb⟩;replace HO_7:=aM (Kd.R_below (uR HO_7.out) hb);replace BK730:=aM (blk_below (uK BK730.out) hb);replace HB:=aM (below_step uB hb);(try clear hb);(try clear hb2);(try clear hk);(try clear hi);obtain⟨hcz53_0,hcz53_1,hcz53_2⟩:=cz3 BK730.out;obtain⟨hfz53_0,hfz53_1,hfz53_2⟩:=fz3 BK730.out;have p738:0≤(x9_1:Int):=uD;have q738:x9_1<(l0_2.length:Int):=uD;obtain⟨ad738,e738,hx738_0,hx738_1,hx738_2⟩:=at_T50 HR0_2.out x9_1 p738 q738;obtain rfl:ad734=ad738:=(by injection e738);replace hx738_0:=hcell HB.out hx738_0;replace hx738_1:=hcell HB.out hx738_1;replace hx738_2:=hcell HB.out hx738_2;replace p738:=eq_true p738;replace q738:=eq_true q738));try go_wp2_with (first|(go_at_call 32;(with_reducible refine(quinariaref07_Below.calls k1 a0_0 _ _ l0_1 _ _ l0_2 x9_1 a2 true _ ?side1 ?side2 ?side3 ?side4 A12.out).mono ?_);(case side1=>repeat(first|exact(Kd.C_below HR0_1.out HB.out)|(with_reducible refine Kd.C_alloc ?_ _)|(with_reducible refine Kd.C_drewN ?_ _)|(with_reducible refine Kd.C_drew ?_)));(case side2=>exact HC0_1.out);(case side3=>repeat(first|exact(Kd.C_below HR0_2.out HB.out)|(with_reducible refine Kd.C_alloc ?_ _)|(with_reducible refine Kd.C_drewN ?_ _)|(with_reducible refine Kd.C_drew ?_)));(case side4=>exact HC0_2.out);rintro e w52 ⟨rfl,hb⟩;replace HO_7:=aM (Kd.R_below (uR HO_7.out) hb);replace BK730:=aM (blk_below (uK BK730.out) hb);replace HB:=aM (below_step uB hb);(try clear hb);(try clear hb2);(try clear hk);(try clear hi);obtain⟨hcz53_0,hcz53_1,hcz53_2⟩:=cz3 BK730.out;obtain⟨hfz53_0,hfz53_1,hfz53_2⟩:=fz3 BK730.out;have p738:0≤(x9_1:Int):=uD;have q738:x9_1<(l0_2.length:Int):=uD;obtain⟨ad738,e738,hx738_0,hx738_1,hx738_2⟩:=at_T50 HR0_2.out x9_1 p738 q738;obtain rfl:ad734=ad738:=(by injection e738);replace hx738_0:=hcell HB.out hx738_0;replace hx738_1:=hcell HB.out hx738_1;replace hx738_2:=hcell HB.out hx738_2;replace p738:=eq_true p738;replace q738:=eq_true q738)))
       go_roundg k1
       case measure=>have:=HK1.out;omega
       case rel=>exact⟨(wrap64 (x9_1+1)),u0,H',⟨by have:=HK1.out;omega⟩,⟨uR HO_7.out⟩,⟨uK BK730.out⟩,⟨uB⟩⟩
    ·replace c13:=Bool.eq_false_iff.mpr c13;subst c13;have H1:(quinariaref07_Binds.l0 k1 a1 a2 t731 ((rd_T50 l0_2 a1).f2) (wrap64 (x9_1+1)) a0_0 l0_1 l0_2)=some r:=by rw[if_neg (show ¬(false=true) by decide)] at H;exact H
     clear H;have H:=H1;clear H1;have H':=aM H;clear H;obtain⟨hcz54_0,hcz54_1,hcz54_2⟩:=cz3 BK730.out;obtain⟨hfz54_0,hfz54_1,hfz54_2⟩:=fz3 BK730.out
     go_wp2_with (first|(go_at_call 32;(with_reducible refine(quinariaref07_Below.calls k1 a0_0 _ _ l0_1 _ _ l0_2 x9_1 a2 false _ ?side1 ?side2 ?side3 ?side4 A12.out).mono ?_);(case side1=>repeat(first|exact(Kd.C_below HR0_1.out HB.out)|(with_reducible refine Kd.C_alloc ?_ _)|(with_reducible refine Kd.C_drewN ?_ _)|(with_reducible refine Kd.C_drew ?_)));(case side2=>exact HC0_1.out);(case side3=>repeat(first|exact(Kd.C_below HR0_2.out HB.out)|(with_reducible refine Kd.C_alloc ?_ _)|(with_reducible refine Kd.C_drewN ?_ _)|(with_reducible refine Kd.C_drew ?_)));(case side4=>exact HC0_2.out);rintro e w55 ⟨rfl,hb⟩;replace HO_7:=aM (Kd.R_below (uR HO_7.out) hb);replace BK730:=aM (blk_below (uK BK730.out) hb);replace HB:=aM (below_step uB hb);(try clear hb);(try clear hb2);(try clear hk);(try clear hi)))
     repeat(go_quiet (first|(go_at_call 32;(with_reducible refine(quinariaref07_Below.calls k1 a0_0 _ _ l0_1 _ _ l0_2 x9_1 a2 false _ ?side1 ?side2 ?side3 ?side4 A12.out).mono ?_);(case side1=>repeat(first|exact(Kd.C_below HR0_1.out HB.out)|(with_reducible refine Kd.C_alloc ?_ _)|(with_reducible refine Kd.C_drewN ?_ _)|(with_reducible refine Kd.C_drew ?_)));(case side2=>exact HC0_1.out);(case side3=>repeat(first|exact(Kd.C_below HR0_2.out HB.out)|(with_reducible refine Kd.C_alloc ?_ _)|(with_reducible refine Kd.C_drewN ?_ _)|(with_reducible refine Kd.C_drew ?_)));(case side4=>exact HC0_2.out);rintro e w55 ⟨rfl,hb⟩;replace HO_7:=aM (Kd.R_below (uR HO_7.out) hb);replace BK730:=aM (blk_below (uK BK730.out) hb);replace HB:=aM (below_step uB hb);(try clear hb);(try clear hb2);(try clear hk);(try clear hi)));try go_wp2_with (first|(go_at_call 32;(with_reducible refine(quinariaref07_Below.calls k1 a0_0 _ _ l0_1 _ _ l0_2 x9_1 a2 false _ ?side1 ?side2 ?side3 ?side4 A12.out).mono ?_);(case side1=>repeat(first|exact(Kd.C_below HR0_1.out HB.out)|(with_reducible refine Kd.C_alloc ?_ _)|(with_reducible refine Kd.C_drewN ?_ _)|(with_reducible refine Kd.C_drew ?_)));(case side2=>exact HC0_1.out);(case side3=>repeat(first|exact(Kd.C_below HR0_2.out HB.out)|(with_reducible refine Kd.C_alloc ?_ _)|(with_reducible refine Kd.C_drewN ?_ _)|(with_reducible refine Kd.C_drew ?_)));(case side4=>exact HC0_2.out);rintro e w55 ⟨rfl,hb⟩;replace HO_7:=aM (Kd.R_below (uR HO_7.out) hb);replace BK730:=aM (blk_below (uK BK730.out) hb);replace HB:=aM (below_step uB hb);(try clear hb);(try clear hb2);(try clear hk);(try clear hi))))
     go_roundg k1
     case measure=>have:=HK1.out;omega
     case rel=>exact⟨(wrap64 (x9_1+1)),u0,H',⟨by have:=HK1.out;omega⟩,⟨uR HO_7.out⟩,⟨uK BK730.out⟩,⟨uB⟩⟩
   ·rw[if_neg c11] at H;replace c11:=decide_eq_false c11;replace H:=Option.bind_eq_some_iff.mp H;obtain⟨t735,A560,H⟩:=H;replace H:(if t735=true then((quinariaref07_tight.f k1 a0_0 l0_1 l0_2 t731 a2).bind fun t736=>(some t736)) else(some false))=some r:=H;have A56:=aM A560;clear A560
    by_cases c57:t735=true
    ·subst c57;have H1:((quinariaref07_tight.f k1 a0_0 l0_1 l0_2 t731 a2).bind fun t736=>(some t736))=some r:=by rw[if_pos rfl] at H;exact H
     clear H;have H:=H1;clear H1;replace H:=Option.bind_eq_some_iff.mp H;obtain⟨t736,A580,H⟩:=H;replace H:(some t736)=some r:=H;have A58:=aM A580;clear A580;obtain rfl:=Option.some.inj H;obtain⟨hcz59_0,hcz59_1,hcz59_2⟩:=cz3 BK730.out;obtain⟨hfz59_0,hfz59_1,hfz59_2⟩:=fz3 BK730.out
     go_wp2_with (first|(go_at_call 32;(with_reducible refine(quinariaref07_Below.calls k1 a0_0 _ _ l0_1 _ _ l0_2 a1 a2 true _ ?side1 ?side2 ?side3 ?side4 A56.out).mono ?_);(case side1=>repeat(first|exact(Kd.C_below HR0_1.out HB.out)|(with_reducible refine Kd.C_alloc ?_ _)|(with_reducible refine Kd.C_drewN ?_ _)|(with_reducible refine Kd.C_drew ?_)));(case side2=>exact HC0_1.out);(case side3=>repeat(first|exact(Kd.C_below HR0_2.out HB.out)|(with_reducible refine Kd.C_alloc ?_ _)|(with_reducible refine Kd.C_drewN ?_ _)|(with_reducible refine Kd.C_drew ?_)));(case side4=>exact HC0_2.out);rintro e w60 ⟨rfl,hb⟩;replace HO_7:=aM (Kd.R_below (uR HO_7.out) hb);replace BK730:=aM (blk_below (uK BK730.out) hb);replace HB:=aM (below_step uB hb);(try clear hb);(try clear hb2);(try clear hk);(try clear hi);obtain⟨hcz61_0,hcz61_1,hcz61_2⟩:=cz3 BK730.out;obtain⟨hfz61_0,hfz61_1,hfz61_2⟩:=fz3 BK730.out;obtain⟨Ao62,co62,eo62⟩:=Kd.R_slice HO_7.out;subst eo62)|(go_at_call 66;(with_reducible refine(quinariaref07_tight.calls k1 a0_0 _ _ l0_1 _ _ l0_2 _ _ t731 a2 t736 _ ?side1 ?side2 ?side3 ?side4 ?side5 ?side6 A58.out).mono ?_);(case side1=>repeat(first|exact(Kd.C_below HR0_1.out HB.out)|(with_reducible refine Kd.C_alloc ?_ _)|(with_reducible refine Kd.C_drewN ?_ _)|(with_reducible refine Kd.C_drew ?_)));(case side2=>exact HC0_1.out);(case side3=>repeat(first|exact(Kd.C_below HR0_2.out HB.out)|(with_reducible refine Kd.C_alloc ?_ _)|(with_reducible refine Kd.C_drewN ?_ _)|(with_reducible refine Kd.C_drew ?_)));(case side4=>exact HC0_2.out);(case side5=>repeat(first|exact(Kd.R_reads' HO_7.out).2.2|(with_reducible refine Kd.C_alloc ?_ _)|(with_reducible refine Kd.C_drewN ?_ _)|(with_reducible refine Kd.C_drew ?_)));(case side6=>exact(Kd.R_reads' HO_7.out).2.1);rintro e w63 ⟨rfl,hb⟩;replace HO_7:=aM (Kd.R_below (uR HO_7.out) hb);replace BK730:=aM (blk_below (uK BK730.out) hb);replace HB:=aM (below_step uB hb);(try clear hb);(try clear hb2);(try clear hk);(try clear hi)))
     (repeat (go_quiet (first|(go_at_call 32;(with_reducible refine(quinariaref07_Below.calls k1 a0_0 _ _ l0_1 _ _ l0_2 a1 a2 true _ ?side1 ?side2 ?side3 ?side4 A56.out).mono ?_);(case side1=>repeat(first|exact(Kd.C_below HR0_1.out HB.out)|(with_reducible refine Kd.C_alloc ?_ _)|(with_reducible refine Kd.C_drewN ?_ _)|(with_reducible refine Kd.C_drew ?_)));(case side2=>exact HC0_1.out);(case side3=>repeat(first|exact(Kd.C_below HR0_2.out HB.out)|(with_reducible refine Kd.C_alloc ?_ _)|(with_reducible refine Kd.C_drewN ?_ _)|(with_reducible refine Kd.C_drew ?_)));(case side4=>exact HC0_2.out);rintro e w60 ⟨rfl,hb⟩;replace HO_7:=aM (Kd.R_below (uR HO_7.out) hb);replace BK730:=aM (blk_below (uK BK730.out) hb);replace HB:=aM (below_step uB hb);(try clear hb);(try clear hb2);(try clear hk);(try clear hi);obtain⟨hcz61_0,hcz61_1,hcz61_2⟩:=cz3 BK730.out;obtain⟨hfz61_0,hfz61_1,hfz61_2⟩:=fz3 BK730.out;obtain⟨Ao62,co62,eo62⟩:=Kd.R_slice HO_7.out;subst eo62)|(go_at_call 66;(with_reducible refine(quinariaref07_tight.calls k1 a0_0 _ _ l0_1 _ _ l0_2 _ _ t731 a2 t736 _ ?side1 ?side2 ?side3 ?side4 ?side5 ?side6 A58.out).mono ?_);(case side1=>repeat(first|exact(Kd.C_below HR0_1.out HB.out)|(with_reducible refine Kd.C_alloc ?_ _)|(with_reducible refine Kd.C_drewN ?_ _)|(with_reducible refine Kd.C_drew ?_)));(case side2=>exact HC0_1.out);(case side3=>repeat(first|exact(Kd.C_below HR0_2.out HB.out)|(with_reducible refine Kd.C_alloc ?_ _)|(with_reducible refine Kd.C_drewN ?_ _)|(with_reducible refine Kd.C_drew ?_)));(case side4=>exact HC0_2.out);(case side5=>repeat(first|exact(Kd.R_reads' HO_7.out).2.2|(with_reducible refine Kd.C_alloc ?_ _)|(with_reducible refine Kd.C_drewN ?_ _)|(with_reducible refine Kd.C_drew ?_)));(case side6=>exact(Kd.R_reads' HO_7.out).2.1);rintro e w63 ⟨rfl,hb⟩;replace HO_7:=aM (Kd.R_below (uR HO_7.out) hb);replace BK730:=aM (blk_below (uK BK730.out) hb);replace HB:=aM (below_step uB hb);(try clear hb);(try clear hb2);(try clear hk);(try clear hi)));try go_wp2_with (first|(go_at_call 32;(with_reducible refine(quinariaref07_Below.calls k1 a0_0 _ _ l0_1 _ _ l0_2 a1 a2 true _ ?side1 ?side2 ?side3 ?side4 A56.out).mono ?_);(case side1=>repeat(first|exact(Kd.C_below HR0_1.out HB.out)|(with_reducible refine Kd.C_alloc ?_ _)|(with_reducible refine Kd.C_drewN ?_ _)|(with_reducible refine Kd.C_drew ?_)));(case side2=>exact HC0_1.out);(case side3=>repeat(first|exact(Kd.C_below HR0_2.out HB.out)|(with_reducible refine Kd.C_alloc ?_ _)|(with_reducible refine Kd.C_drewN ?_ _)|(with_reducible refine Kd.C_drew ?_)));(case side4=>exact HC0_2.out);rintro e w60 ⟨rfl,hb⟩;replace HO_7:=aM (Kd.R_below (uR HO_7.out) hb);replace BK730:=aM (blk_below (uK BK730.out) hb);replace HB:=aM (below_step uB hb);(try clear hb);(try clear hb2);(try clear hk);(try clear hi);obtain⟨hcz61_0,hcz61_1,hcz61_2⟩:=cz3 BK730.out;obtain⟨hfz61_0,hfz61_1,hfz61_2⟩:=fz3 BK730.out;obtain⟨Ao62,co62,eo62⟩:=Kd.R_slice HO_7.out;subst eo62)|(go_at_call 66;(with_reducible refine(quinariaref07_tight.calls k1 a0_0 _ _ l0_1 _ _ l0_2 _ _ t731 a2 t736 _ ?side1 ?side2 ?side3 ?side4 ?side5 ?side6 A58.out).mono ?_);(case side1=>repeat(first|exact(Kd.C_below HR0_1.out HB.out)|(with_reducible refine Kd.C_alloc ?_ _)|(with_reducible refine Kd.C_drewN ?_ _)|(with_reducible refine Kd.C_drew ?_)));(case side2=>exact HC0_1.out);(case side3=>repeat(first|exact(Kd.C_below HR0_2.out HB.out)|(with_reducible refine Kd.C_alloc ?_ _)|(with_reducible refine Kd.C_drewN ?_ _)|(with_reducible refine Kd.C_drew ?_)));(case side4=>exact HC0_2.out);(case side5=>repeat(first|exact(Kd.R_reads' HO_7.out).2.2|(with_reducible refine Kd.C_alloc ?_ _)|(with_reducible refine Kd.C_drewN ?_ _)|(with_reducible refine Kd.C_drew ?_)));(case side6=>exact(Kd.R_reads' HO_7.out).2.1);rintro e w63 ⟨rfl,hb⟩;replace HO_7:=aM (Kd.R_below (uR HO_7.out) hb);replace BK730:=aM (blk_below (uK BK730.out) hb);replace HB:=aM (below_step uB hb);(try clear hb);(try clear hb2);(try clear hk);(try clear hi)))));go_ret;exact⟨uE,uB⟩
    ·replace c57:=Bool.eq_false_iff.mpr c57;subst c57;have H1:(some false)=some r:=by rw[if_neg (show ¬(false=true) by decide)] at H;exact H
     clear H;have H:=H1;clear H1;obtain rfl:=Option.some.inj H;obtain⟨hcz64_0,hcz64_1,hcz64_2⟩:=cz3 BK730.out;obtain⟨hfz64_0,hfz64_1,hfz64_2⟩:=fz3 BK730.out
     go_wp2_with (first|(go_at_call 32;(with_reducible refine(quinariaref07_Below.calls k1 a0_0 _ _ l0_1 _ _ l0_2 a1 a2 false _ ?side1 ?side2 ?side3 ?side4 A56.out).mono ?_);(case side1=>repeat(first|exact(Kd.C_below HR0_1.out HB.out)|(with_reducible refine Kd.C_alloc ?_ _)|(with_reducible refine Kd.C_drewN ?_ _)|(with_reducible refine Kd.C_drew ?_)));(case side2=>exact HC0_1.out);(case side3=>repeat(first|exact(Kd.C_below HR0_2.out HB.out)|(with_reducible refine Kd.C_alloc ?_ _)|(with_reducible refine Kd.C_drewN ?_ _)|(with_reducible refine Kd.C_drew ?_)));(case side4=>exact HC0_2.out);rintro e w65 ⟨rfl,hb⟩;replace HO_7:=aM (Kd.R_below (uR HO_7.out) hb);replace BK730:=aM (blk_below (uK BK730.out) hb);replace HB:=aM (below_step uB hb);(try clear hb);(try clear hb2);(try clear hk);(try clear hi)))
     (repeat (go_quiet (first|(go_at_call 32;(with_reducible refine(quinariaref07_Below.calls k1 a0_0 _ _ l0_1 _ _ l0_2 a1 a2 false _ ?side1 ?side2 ?side3 ?side4 A56.out).mono ?_);(case side1=>repeat(first|exact(Kd.C_below HR0_1.out HB.out)|(with_reducible refine Kd.C_alloc ?_ _)|(with_reducible refine Kd.C_drewN ?_ _)|(with_reducible refine Kd.C_drew ?_)));(case side2=>exact HC0_1.out);(case side3=>repeat(first|exact(Kd.C_below HR0_2.out HB.out)|(with_reducible refine Kd.C_alloc ?_ _)|(with_reducible refine Kd.C_drewN ?_ _)|(with_reducible refine Kd.C_drew ?_)));(case side4=>exact HC0_2.out);rintro e w65 ⟨rfl,hb⟩;replace HO_7:=aM (Kd.R_below (uR HO_7.out) hb);replace BK730:=aM (blk_below (uK BK730.out) hb);replace HB:=aM (below_step uB hb);(try clear hb);(try clear hb2);(try clear hk);(try clear hi)));try go_wp2_with (first|(go_at_call 32;(with_reducible refine(quinariaref07_Below.calls k1 a0_0 _ _ l0_1 _ _ l0_2 a1 a2 false _ ?side1 ?side2 ?side3 ?side4 A56.out).mono ?_);(case side1=>repeat(first|exact(Kd.C_below HR0_1.out HB.out)|(with_reducible refine Kd.C_alloc ?_ _)|(with_reducible refine Kd.C_drewN ?_ _)|(with_reducible refine Kd.C_drew ?_)));(case side2=>exact HC0_1.out);(case side3=>repeat(first|exact(Kd.C_below HR0_2.out HB.out)|(with_reducible refine Kd.C_alloc ?_ _)|(with_reducible refine Kd.C_drewN ?_ _)|(with_reducible refine Kd.C_drew ?_)));(case side4=>exact HC0_2.out);rintro e w65 ⟨rfl,hb⟩;replace HO_7:=aM (Kd.R_below (uR HO_7.out) hb);replace BK730:=aM (blk_below (uK BK730.out) hb);replace HB:=aM (below_step uB hb);(try clear hb);(try clear hb2);(try clear hk);(try clear hi)))));go_ret;exact⟨uE,uB⟩
def quinariaref07_Why.l0:Nat→Int→Int→Int→List (S85)→List (S50)→Option (Int×Bool)
 |0,_,_,_,_,_=>none
 |k+1,x1,x6,x745000,x745001,x745002=>if x6≤(x745001.length:Int) then((quinariaref07_Binds.f k x745000 x745001 x745002 x1 x6).bind fun t750=>(if t750=true then(some (x6,true)) else(quinariaref07_Why.l0 k x1 (wrap64 (x6+1)) x745000 x745001 x745002))) else(some (0,false))
def quinariaref07_Why.f (k:Nat) (a0_0:Int) (l0_1:List (S85)) (l0_2:List (S50)) (a1:Int):Option (Int×Bool):=(quinariaref07_Shares.f k a0_0 l0_1 l0_2).bind fun t745=>(if 0≤a1 then(if a1<(t745.length:Int) then(if a1<(l0_2.length:Int) then(if (rd t745 a1)=((rd_T50 l0_2 a1).f1) then(some (0,false)) else(quinariaref07_Why.l0 k a1 0 a0_0 l0_1 l0_2)) else(none)) else(none)) else(none))
def quinariaref07_Why.T1:Bool×List (List Nat×List Nat):=(true,[([],[]),([0],[0]),([],[]),([1,2],[1,2]),([3],[3]),([],[]),([5],[5]),([],[]),([6,7],[6,7]),([8],[8]),([9],[9]),([4,10],[4,10])])
def quinariaref07_Why.B1:List Nat:=[0,1,0,7,15,0,32,0,224,480,992,2047]
theorem quinariaref07_Why.tab1:rtab .any (opsOf Tryz.f29 1)=quinariaref07_Why.T1:=by kernel_rfl
theorem quinariaref07_Why.bits1:waitsOk quinariaref07_Why.T1.2 quinariaref07_Why.B1=true:=by kernel_rfl
set_option maxHeartbeats 8000000 in
set_option maxRecDepth 100000 in
theorem quinariaref07_Why.calls (k:Nat) (a0_0:Int) (A0_1:Option Addr) (c0_1:Nat) (l0_1:List (S85)) (A0_2:Option Addr) (c0_2:Nat) (l0_2:List (S50)) (a1:Int) (r1:Int) (r2:Bool) (w:World) (hr0_1:Kd.C k85 w A0_1 l0_1.length l0_1) (hc0_1:l0_1.length≤c0_1) (hr0_2:Kd.C k50 w A0_2 l0_2.length l0_2) (hc0_2:l0_2.length≤c0_2) (h:quinariaref07_Why.f k a0_0 l0_1 l0_2 a1=some (r1,r2)):
  Calls Tryz.prog 29 #[.agg #[.int .i64 a0_0,.slice A0_1 l0_1.length c0_1,.slice A0_2 l0_2.length c0_2],.int .i64 a1] w fun e w'=>e=.returned (.tuple #[.int .i64 r1,.bool r2])∧Below w.heap.size w w':=by
 have hu25:=Tryz.underlying25;have HR0_1:=aM hr0_1;have HC0_1:=aM hc0_1;clear hr0_1 hc0_1;have HR0_2:=aM hr0_2;have HC0_2:=aM hc0_2;clear hr0_2 hc0_2;have HB:=aM (Below.refl w.heap.size w);have H:((quinariaref07_Shares.f k a0_0 l0_1 l0_2).bind fun t745=>(if 0≤a1 then(if a1<(t745.length:Int) then(if a1<(l0_2.length:Int) then(if (rd t745 a1)=((rd_T50 l0_2 a1).f1) then(some (0,false)) else(quinariaref07_Why.l0 k a1 0 a0_0 l0_1 l0_2)) else(none)) else(none)) else(none)))=some (r1,r2):=h;clear h;replace H:=Option.bind_eq_some_iff.mp H;obtain⟨t745,A30,H⟩:=H;replace H:(if 0≤a1 then(if a1<(t745.length:Int) then(if a1<(l0_2.length:Int) then(if (rd t745 a1)=((rd_T50 l0_2 a1).f1) then(some (0,false)) else(quinariaref07_Why.l0 k a1 0 a0_0 l0_1 l0_2)) else(none)) else(none)) else(none))=some (r1,r2):=H;have A3:=aM A30;clear A30;obtain⟨c4,H⟩:=ifs H;replace c4:=decide_eq_true c4;obtain⟨c5,H⟩:=ifs H;replace c5:=decide_eq_true c5;obtain⟨c6,H⟩:=ifs H;replace c6:=decide_eq_true c6
 by_cases c7:(rd t745 a1)=((rd_T50 l0_2 a1).f1)
 ·rw[if_pos c7] at H;have c7b0:((rd t745 a1)==((rd_T50 l0_2 a1).f1))=true:=beq_iff_eq.mpr c7;have c7b1:((rd t745 a1) !=((rd_T50 l0_2 a1).f1))=false:=bne_eq_false_iff_eq.mpr c7;clear c7;simp only[Option.some.injEq,Prod.mk.injEq] at H;obtain⟨rfl,rfl⟩:=H
  go_enter Tryz.func29,Tryz.ntmps29
  (try go_wp2_with (first|((with_reducible refine gate_dst (N:=2) rfl ?_);refine bxe 2 #[.int .i64 a0_0,.slice A0_1 l0_1.length c0_1,.slice A0_2 l0_2.length c0_2] 25 ?_;intro gb744 hg w8 hbox hb;have n0_:=aM (below_step uB hb);have n1_:=aM (hbox);have n2_:=gw hg;have n3_:=gw hg;clear HB;have HB:=n0_;have BK744:=n1_;have GW744:=n2_;have GE744:=n3_;clear n0_ n1_ n2_ n3_;clear hb hbox hg)));replace BK744:=aM (blk_drew BK744.out);replace HB:=aM (below_drew1 HB.out);have p749:0≤(a1:Int):=uD;have q749:a1<(l0_2.length:Int):=uD;obtain⟨ad749,e749,hx749_0,hx749_1,hx749_2⟩:=at_T50 HR0_2.out a1 p749 q749;have hw749_2:=hx749_2;have hw749_1:=hx749_1;have hw749_0:=hx749_0
  cases e749
  replace hx749_0:=hcell HB.out hx749_0;replace hx749_1:=hcell HB.out hx749_1;replace hx749_2:=hcell HB.out hx749_2;replace p749:=eq_true p749;replace q749:=eq_true q749;refine start_ (n:=12) (S:=fun w'=>w'.cell? ⟨gb744,0,none⟩=some (.int .i64 a0_0)∧w'.cell? ⟨gb744,1,none⟩=some (.slice A0_1 l0_1.length c0_1)∧w'.cell? ⟨gb744,2,none⟩=some (.slice (some ad749) l0_2.length c0_2)∧w'.cell? (ad749.add ((a1).toNat*3))=some (.int .i64 ((rd_T50 l0_2 a1).f0))∧w'.cell? ⟨(ad749.add ((a1).toNat*3)).block,(ad749.add ((a1).toNat*3)).off+1,none⟩=some (.int .i64 ((rd_T50 l0_2 a1).f1))∧w'.cell? ⟨(ad749.add ((a1).toNat*3)).block,(ad749.add ((a1).toNat*3)).off+2,none⟩=some (.int .i64 ((rd_T50 l0_2 a1).f2))) (ds:=[]) (bl 12 0) (by kernel_rfl) rfl rfl ⟨(blk_cell BK744.out 0).trans rfl,(blk_cell BK744.out 1).trans rfl,(blk_cell BK744.out 2).trans rfl,(hcell HB.out hw749_0),(hcell HB.out hw749_1),(hcell HB.out hw749_2)⟩ (fun hHeld=>?_);refine with_tabW quinariaref07_Why.tab1 quinariaref07_Why.bits1 (fun HT_ HW_=>?_)
  generalize w8.drew=w9 at BK744 HB hx749_0 hx749_1 hx749_2 hHeld⊢;refine pu 2 9 12 4 ?_;refine pu 5 12 12 36 ?_;refine pu 7 14 12 164 ?_;refine tk6 0 7 12 165 hHeld ?_;refine tk6 6 13 12 229 hHeld ?_;refine pu 8 15 12 485 ?_;refine pu 9 16 12 997 ?_;refine tk6 10 17 12 2021 hHeld ?_;refine one_ (i:=1) (N:=some 8) (bl 12 2023) rfl rfl (one_of HT_.out (by kernel_rfl)) (by decide) (fun K hK=>?_);refine goes_ Tryz.func19 (by kernel_rfl) rfl #[.agg #[.int .i64 a0_0,.slice A0_1 l0_1.length c0_1,.slice (some ad749) l0_2.length c0_2]] (by rfl) rfl rfl uM ?_;(with_reducible refine(quinariaref07_Shares.calls k a0_0 _ _ l0_1 _ _ l0_2 t745 _ ?side1 ?side2 ?side3 ?side4 A3.out).mono ?_);(case side1=>repeat(first|exact(Kd.C_below HR0_1.out HB.out)|(with_reducible refine Kd.C_alloc ?_ _)|(with_reducible refine Kd.C_drewN ?_ _)|(with_reducible refine Kd.C_drew ?_)));(case side2=>exact HC0_1.out);(case side3=>repeat(first|exact(Kd.C_below HR0_2.out HB.out)|(with_reducible refine Kd.C_alloc ?_ _)|(with_reducible refine Kd.C_drewN ?_ _)|(with_reducible refine Kd.C_drew ?_)));(case side4=>exact HC0_2.out);rintro e w10 ⟨v746,rfl,ho0,hb⟩

  refine⟨_,rfl,?_⟩;have HO747:=aM (Kd.R_lower ho0 (below_size uB));replace BK744:=aM (blk_below (uK BK744.out) hb);replace HB:=aM (below_step uB hb);(try clear hb);(try clear hb2);(try clear hk);(try clear hi);(try clear ho0);obtain⟨Ao11,co11,eo11⟩:=Kd.R_slice HO747.out;(first|subst eo11|(injection eo11 with f1_ f2_ f3_;have f4_:=f1_.symm;have f5_:=f3_.symm;clear f1_ f2_ f3_;subst f4_;subst f5_));have p748:0≤(a1:Int):=uD;have q748:a1<(t745.length:Int):=uD;obtain⟨ad748,e748,hx748_0⟩:=Kd.at_int (Kd.R_reads' HO747.out).2.2 a1 p748 q748
  cases e748
  replace p748:=eq_true p748;replace q748:=eq_true q748;refine hK.out _ _ ⟨(blk_cell BK744.out 0).trans rfl,(blk_cell BK744.out 1).trans rfl,(blk_cell BK744.out 2).trans rfl,(hcell HB.out hw749_0),(hcell HB.out hw749_1),(hcell HB.out hw749_2)⟩ (fun hHeld=>?_);clear hK K;refine grow_ (S2:=fun w'=>w'.cell? ⟨gb744,0,none⟩=some (.int .i64 a0_0)∧w'.cell? ⟨gb744,1,none⟩=some (.slice A0_1 l0_1.length c0_1)∧w'.cell? ⟨gb744,2,none⟩=some (.slice (some ad749) l0_2.length c0_2)∧w'.cell? (ad749.add ((a1).toNat*3))=some (.int .i64 ((rd_T50 l0_2 a1).f0))∧w'.cell? ⟨(ad749.add ((a1).toNat*3)).block,(ad749.add ((a1).toNat*3)).off+1,none⟩=some (.int .i64 ((rd_T50 l0_2 a1).f1))∧w'.cell? ⟨(ad749.add ((a1).toNat*3)).block,(ad749.add ((a1).toNat*3)).off+2,none⟩=some (.int .i64 ((rd_T50 l0_2 a1).f2))∧w'.cell? (ad748.add (a1).toNat)=some (.int .i64 (rd t745 a1))) ⟨hHeld.1,hHeld.2.1,hHeld.2.2.1,hHeld.2.2.2.1,hHeld.2.2.2.2.1,hHeld.2.2.2.2.2,hx748_0⟩ (fun _ h_=>⟨h_.1,h_.2.1,h_.2.2.1,h_.2.2.2.1,h_.2.2.2.2.1,h_.2.2.2.2.2.1⟩) (fun hHeld=>?_);refine nm ?_;refine pu 3 10 12 2031 ?_;refine tk7 4 11 12 2047 hHeld ?_;refine pu 11 18 12 4095 ?_;refine done_ (done_of HT_.out (by kernel_rfl)) ?_;try go_wp2
  go_ret2
  exact⟨uE,uB⟩
 ·rw[if_neg c7] at H;have c7b0:((rd t745 a1)==((rd_T50 l0_2 a1).f1))=false:=beq_eq_false_iff_ne.mpr c7;have c7b1:((rd t745 a1) !=((rd_T50 l0_2 a1).f1))=true:=bne_iff_ne.mpr c7;have H':=aM H;clear H
  go_enter Tryz.func29,Tryz.ntmps29
  (try go_wp2_with (first|((with_reducible refine gate_dst (N:=2) rfl ?_);refine bxe 2 #[.int .i64 a0_0,.slice A0_1 l0_1.length c0_1,.slice A0_2 l0_2.length c0_2] 25 ?_;intro gb744 hg w12 hbox hb;have n0_:=aM (below_step uB hb);have n1_:=aM (hbox);have n2_:=gw hg;have n3_:=gw hg;clear HB;have HB:=n0_;have BK744:=n1_;have GW744:=n2_;have GE744:=n3_;clear n0_ n1_ n2_ n3_;clear hb hbox hg)));replace BK744:=aM (blk_drew BK744.out);replace HB:=aM (below_drew1 HB.out);have p749:0≤(a1:Int):=uD;have q749:a1<(l0_2.length:Int):=uD;obtain⟨ad749,e749,hx749_0,hx749_1,hx749_2⟩:=at_T50 HR0_2.out a1 p749 q749;have hw749_2:=hx749_2;have hw749_1:=hx749_1;have hw749_0:=hx749_0
  cases e749
  replace hx749_0:=hcell HB.out hx749_0;replace hx749_1:=hcell HB.out hx749_1;replace hx749_2:=hcell HB.out hx749_2;replace p749:=eq_true p749;replace q749:=eq_true q749;refine start_ (n:=12) (S:=fun w'=>w'.cell? ⟨gb744,0,none⟩=some (.int .i64 a0_0)∧w'.cell? ⟨gb744,1,none⟩=some (.slice A0_1 l0_1.length c0_1)∧w'.cell? ⟨gb744,2,none⟩=some (.slice (some ad749) l0_2.length c0_2)∧w'.cell? (ad749.add ((a1).toNat*3))=some (.int .i64 ((rd_T50 l0_2 a1).f0))∧w'.cell? ⟨(ad749.add ((a1).toNat*3)).block,(ad749.add ((a1).toNat*3)).off+1,none⟩=some (.int .i64 ((rd_T50 l0_2 a1).f1))∧w'.cell? ⟨(ad749.add ((a1).toNat*3)).block,(ad749.add ((a1).toNat*3)).off+2,none⟩=some (.int .i64 ((rd_T50 l0_2 a1).f2))) (ds:=[]) (bl 12 0) (by kernel_rfl) rfl rfl ⟨(blk_cell BK744.out 0).trans rfl,(blk_cell BK744.out 1).trans rfl,(blk_cell BK744.out 2).trans rfl,(hcell HB.out hw749_0),(hcell HB.out hw749_1),(hcell HB.out hw749_2)⟩ (fun hHeld=>?_);refine with_tabW quinariaref07_Why.tab1 quinariaref07_Why.bits1 (fun HT_ HW_=>?_)
  generalize w12.drew=w13 at BK744 HB hx749_0 hx749_1 hx749_2 hHeld⊢;refine pu 2 9 12 4 ?_;refine pu 5 12 12 36 ?_;refine pu 7 14 12 164 ?_;refine tk6 0 7 12 165 hHeld ?_;refine tk6 6 13 12 229 hHeld ?_;refine pu 8 15 12 485 ?_;refine pu 9 16 12 997 ?_;refine tk6 10 17 12 2021 hHeld ?_;refine one_ (i:=1) (N:=some 8) (bl 12 2023) rfl rfl (one_of HT_.out (by kernel_rfl)) (by decide) (fun K hK=>?_);refine goes_ Tryz.func19 (by kernel_rfl) rfl #[.agg #[.int .i64 a0_0,.slice A0_1 l0_1.length c0_1,.slice (some ad749) l0_2.length c0_2]] (by rfl) rfl rfl uM ?_;(with_reducible refine(quinariaref07_Shares.calls k a0_0 _ _ l0_1 _ _ l0_2 t745 _ ?side1 ?side2 ?side3 ?side4 A3.out).mono ?_);(case side1=>repeat(first|exact(Kd.C_below HR0_1.out HB.out)|(with_reducible refine Kd.C_alloc ?_ _)|(with_reducible refine Kd.C_drewN ?_ _)|(with_reducible refine Kd.C_drew ?_)));(case side2=>exact HC0_1.out);(case side3=>repeat(first|exact(Kd.C_below HR0_2.out HB.out)|(with_reducible refine Kd.C_alloc ?_ _)|(with_reducible refine Kd.C_drewN ?_ _)|(with_reducible refine Kd.C_drew ?_)));(case side4=>exact HC0_2.out);rintro e w14 ⟨v746,rfl,ho0,hb⟩

  refine⟨_,rfl,?_⟩;have HO747:=aM (Kd.R_lower ho0 (below_size uB));replace BK744:=aM (blk_below (uK BK744.out) hb);replace HB:=aM (below_step uB hb);(try clear hb);(try clear hb2);(try clear hk);(try clear hi);(try clear ho0);obtain⟨Ao15,co15,eo15⟩:=Kd.R_slice HO747.out;(first|subst eo15|(injection eo15 with f1_ f2_ f3_;have f4_:=f1_.symm;have f5_:=f3_.symm;clear f1_ f2_ f3_;subst f4_;subst f5_));have p748:0≤(a1:Int):=uD;have q748:a1<(t745.length:Int):=uD;obtain⟨ad748,e748,hx748_0⟩:=Kd.at_int (Kd.R_reads' HO747.out).2.2 a1 p748 q748
  cases e748
  replace p748:=eq_true p748;replace q748:=eq_true q748;refine hK.out _ _ ⟨(blk_cell BK744.out 0).trans rfl,(blk_cell BK744.out 1).trans rfl,(blk_cell BK744.out 2).trans rfl,(hcell HB.out hw749_0),(hcell HB.out hw749_1),(hcell HB.out hw749_2)⟩ (fun hHeld=>?_);clear hK K;refine grow_ (S2:=fun w'=>w'.cell? ⟨gb744,0,none⟩=some (.int .i64 a0_0)∧w'.cell? ⟨gb744,1,none⟩=some (.slice A0_1 l0_1.length c0_1)∧w'.cell? ⟨gb744,2,none⟩=some (.slice (some ad749) l0_2.length c0_2)∧w'.cell? (ad749.add ((a1).toNat*3))=some (.int .i64 ((rd_T50 l0_2 a1).f0))∧w'.cell? ⟨(ad749.add ((a1).toNat*3)).block,(ad749.add ((a1).toNat*3)).off+1,none⟩=some (.int .i64 ((rd_T50 l0_2 a1).f1))∧w'.cell? ⟨(ad749.add ((a1).toNat*3)).block,(ad749.add ((a1).toNat*3)).off+2,none⟩=some (.int .i64 ((rd_T50 l0_2 a1).f2))∧w'.cell? (ad748.add (a1).toNat)=some (.int .i64 (rd t745 a1))) ⟨hHeld.1,hHeld.2.1,hHeld.2.2.1,hHeld.2.2.2.1,hHeld.2.2.2.2.1,hHeld.2.2.2.2.2,hx748_0⟩ (fun _ h_=>⟨h_.1,h_.2.1,h_.2.2.1,h_.2.2.2.1,h_.2.2.2.2.1,h_.2.2.2.2.2.1⟩) (fun hHeld=>?_);refine nm ?_;refine pu 3 10 12 2031 ?_;refine tk7 4 11 12 2047 hHeld ?_;refine pu 11 18 12 4095 ?_;refine done_ (done_of HT_.out (by kernel_rfl)) ?_;try go_wp2
  go_loopg [6] k (fun kq v6 w'=>∃(x6_1:Int),v6=.int .i64 x6_1∧Aside0 (quinariaref07_Why.l0 kq a1 x6_1 a0_0 l0_1 l0_2=some (r1,r2))∧Aside0 (kq≤k)∧Aside0 (w'.heap[gb744]? =some (.cells #[.int .i64 a0_0,(.slice A0_1 l0_1.length c0_1),(.slice (some ad749) l0_2.length c0_2)] 25 (0,0)))∧Aside0 (Below w.heap.size w w'))
  case atStart=>exact⟨(0),u0,H',⟨Nat.le_refl _⟩,⟨uK BK744.out⟩,⟨uB⟩⟩
  case round=>
   clear H';try clear c1;try clear c2;try clear p2;try clear c4;try clear c4b0;try clear c5;try clear c5b0;try clear c6;try clear c6b0;try clear c7;try clear c7b0;try clear c7b1;try clear p7;try clear q7;try clear hx7;try clear hx748_0;try clear hx749_0;try clear hx749_1;try clear hx749_2;try clear p748;try clear p749;try clear q748;try clear q749
   obtain⟨x6_1,rfl,HA,HK1,BK744,HB⟩:=hrel
   cases gk with
   |zero=>exact absurd HA.out (by simp[quinariaref07_Why.l0])
   |succ k1=>
    have H:=HA.out;clear HA;simp only[quinariaref07_Why.l0] at H
    by_cases c16:x6_1≤(l0_1.length:Int)
    ·rw[if_pos c16] at H;replace c16:=decide_eq_true c16;replace H:=Option.bind_eq_some_iff.mp H;obtain⟨t750,A170,H⟩:=H;replace H:(if t750=true then(some (x6_1,true)) else(quinariaref07_Why.l0 k1 a1 (wrap64 (x6_1+1)) a0_0 l0_1 l0_2))=some (r1,r2):=H;have A17:=aM A170;clear A170
     by_cases c18:t750=true
     ·subst c18;have H1:(some (x6_1,true))=some (r1,r2):=by rw[if_pos rfl] at H;exact H
      clear H;have H:=H1;clear H1;simp only[Option.some.injEq,Prod.mk.injEq] at H;obtain⟨rfl,rfl⟩:=H;obtain⟨hcz19_0,hcz19_1,hcz19_2⟩:=cz3 BK744.out;obtain⟨hfz19_0,hfz19_1,hfz19_2⟩:=fz3 BK744.out
      go_wp2_with (first|((with_reducible refine gate_callee (f:=31) rfl ?_);refine goesL_ (some 29) rfl rfl Tryz.func31 (by kernel_rfl) rfl #[.agg #[.int .i64 a0_0,.slice A0_1 l0_1.length c0_1,.slice (some ad749) l0_2.length c0_2],.int .i64 a1,.int .i64 x6_1] rfl uM ?_;(with_reducible refine(quinariaref07_Binds.calls k1 a0_0 _ _ l0_1 _ _ l0_2 a1 x6_1 true _ ?side1 ?side2 ?side3 ?side4 A17.out).mono ?_);(case side1=>repeat(first|exact(Kd.C_below HR0_1.out HB.out)|(with_reducible refine Kd.C_alloc ?_ _)|(with_reducible refine Kd.C_drewN ?_ _)|(with_reducible refine Kd.C_drew ?_)));(case side2=>exact HC0_1.out);(case side3=>repeat(first|exact(Kd.C_below HR0_2.out HB.out)|(with_reducible refine Kd.C_alloc ?_ _)|(with_reducible refine Kd.C_drewN ?_ _)|(with_reducible refine Kd.C_drew ?_)));(case side4=>exact HC0_2.out);rintro e w20 ⟨rfl,hb⟩;refine⟨_,rfl,?_⟩;replace BK744:=aM (blk_below (uK BK744.out) hb);replace HB:=aM (below_step uB hb);(try clear hb);(try clear hb2);(try clear hk);(try clear hi)))
      go_ret2
      exact⟨uE,uB⟩
     ·replace c18:=Bool.eq_false_iff.mpr c18;subst c18;have H1:(quinariaref07_Why.l0 k1 a1 (wrap64 (x6_1+1)) a0_0 l0_1 l0_2)=some (r1,r2):=by rw[if_neg (show ¬(false=true) by decide)] at H;exact H
      clear H;have H:=H1;clear H1;have H':=aM H;clear H;obtain⟨hcz21_0,hcz21_1,hcz21_2⟩:=cz3 BK744.out;obtain⟨hfz21_0,hfz21_1,hfz21_2⟩:=fz3 BK744.out
      go_wp2_with (first|((with_reducible refine gate_callee (f:=31) rfl ?_);refine goesL_ (some 29) rfl rfl Tryz.func31 (by kernel_rfl) rfl #[.agg #[.int .i64 a0_0,.slice A0_1 l0_1.length c0_1,.slice (some ad749) l0_2.length c0_2],.int .i64 a1,.int .i64 x6_1] rfl uM ?_;(with_reducible refine(quinariaref07_Binds.calls k1 a0_0 _ _ l0_1 _ _ l0_2 a1 x6_1 false _ ?side1 ?side2 ?side3 ?side4 A17.out).mono ?_);(case side1=>repeat(first|exact(Kd.C_below HR0_1.out HB.out)|(with_reducible refine Kd.C_alloc ?_ _)|(with_reducible refine Kd.C_drewN ?_ _)|(with_reducible refine Kd.C_drew ?_)));(case side2=>exact HC0_1.out);(case side3=>repeat(first|exact(Kd.C_below HR0_2.out HB.out)|(with_reducible refine Kd.C_alloc ?_ _)|(with_reducible refine Kd.C_drewN ?_ _)|(with_reducible refine Kd.C_drew ?_)));(case side4=>exact HC0_2.out);rintro e w22 ⟨rfl,hb⟩;refine⟨_,rfl,?_⟩;replace BK744:=aM (blk_below (uK BK744.out) hb);replace HB:=aM (below_step uB hb);(try clear hb);(try clear hb2);(try clear hk);(try clear hi)))
      go_roundg k1
      case measure=>have:=HK1.out;omega
      case rel=>exact⟨(wrap64 (x6_1+1)),u0,H',⟨by have:=HK1.out;omega⟩,⟨uK BK744.out⟩,⟨uB⟩⟩
    ·rw[if_neg c16] at H;replace c16:=decide_eq_false c16;simp only[Option.some.injEq,Prod.mk.injEq] at H;obtain⟨rfl,rfl⟩:=H;obtain⟨hcz23_0,hcz23_1,hcz23_2⟩:=cz3 BK744.out;obtain⟨hfz23_0,hfz23_1,hfz23_2⟩:=fz3 BK744.out;go_wp2
     go_ret2
     exact⟨uE,uB⟩
end Go.Proofs.YtjioobfeikbffaaGreatDoor.K
end
section
namespace Go.Proofs.YtjioobfeikbffaaGreatDoor.K
open Go.RowKit Go.Proofs.YtjioobfeikbffaaGreatDoorW.PrintWords Go.Proofs.YtjioobfeikbffaaGreatDoorW.PrintLast Go.Proofs.YtjioobfeikbffaaGreatDoorW.PrintMore
namespace Rf
theorem inB_t {a lo hi:Int}:inB a lo hi=true↔lo≤a∧a≤hi:=by simp[inB]
theorem in_f (a lo hi:Int):quinariaref07_in.f a lo hi=some (inB a lo hi):=by
  unfold quinariaref07_in.f inB
  by_cases h:a≥lo
  · rw[if_pos h];simp[h]
  · rw[if_neg h];simp;omega
theorem cups_f (a:Int):quinariaref07_Cups.f a=some (inB a 0 200):=by unfold quinariaref07_Cups.f;rw[in_f];rfl
theorem class_f (a:Int):quinariaref07_Class.f a=some (inB a 0 3):=by unfold quinariaref07_Class.f;rw[in_f];rfl
theorem node_f (I:Int) (N:List SN) (O:List SO) (a:Int):quinariaref07_Node.f I N O a=some (inB a 0 N.length):=by unfold quinariaref07_Node.f;rw[in_f];rfl
theorem sml {a:Int} (h0: -1000000000≤a) (h1:a≤1000000000):wrap64 a=a:=IntWalk.wrap64_in _ (by omega)
theorem outlet_f (I:Int) (N:List SN) (O:List SO) (hl:O.length≤1000) (a:Int):quinariaref07_Outlet.f I N O a=some (inB a 0 (O.length-1)):=by
  unfold quinariaref07_Outlet.f;rw[in_f,sml (by omega) (by omega)];rfl
theorem short_f (I:Int) (N:List SN) (O:List SO):quinarialaw07_short.f I N O=some (decide (N.length≤8)&&decide (O.length≤10)):=by
  unfold quinarialaw07_short.f
  by_cases h:(N.length:Int)≤8
  · rw[if_pos h];have h1:N.length≤8:=by omega
    have h2:((O.length:Int)≤10)↔(O.length≤10):=by omega
    simp[h1,h2]
  · rw[if_neg h];have h1:¬N.length≤8:=by omega
    simp[h1]
def nodeOk (N:List SN) (i:Nat):Bool:=decide (0≤(rdN N i).f0)&&decide ((rdN N i).f0≤i)&&decide (0≤(rdN N i).f1)&&decide ((rdN N i).f1≤200)
def outOk (m:Nat) (o:SO):Bool:=decide (0≤o.f0)&&decide (o.f0≤m)&&decide (1≤o.f1)&&decide (o.f1≤200)&&decide (0≤o.f2)&&decide (o.f2≤3)
def sizesB (I:Int) (N:List SN) (O:List SO):Bool:=decide (0≤I)&&decide (I≤200)&&decide (N.length≤6)&&decide (1≤O.length)&&decide (O.length≤8)
theorem tree_l1 (I:Int) (N:List SN) (O:List SO) (hO:O.length≤1000):∀(rest:List SO) (j K:Nat),O.drop j=rest→rest.length<K→quinariaref07_Tree.l1 K (j:Int) I N O=some (rest.all (outOk N.length)&&sizesB I N O)
  |[],j,K+1,hd,hK=>by
    have:O.length≤j:=by simpa using hd
    unfold quinariaref07_Tree.l1;rw[if_neg (by omega),cups_f,Option.bind_some,in_f,Option.bind_some,List.all_nil,Bool.true_and];unfold sizesB inB
    cases h1:(decide (0≤I)&&decide (I≤200)) with
    |false=>rw[if_neg (by simp)];simp
    |true=>
      rw[if_pos rfl]
      by_cases h2:(N.length:Int)≤6
      · have h3:N.length≤6:=by omega
        have h4:(1≤(O.length:Int))↔(1≤O.length):=by omega
        have h5:((O.length:Int)≤8)↔(O.length≤8):=by omega
        rw[if_pos h2];simp[h3,h4,h5]
      · have h3:¬N.length≤6:=by omega
        rw[if_neg h2];simp[h3]
  |o::rest,j,K+1,hd,hK=>by
    have hj:j<O.length:=by
      have:=congrArg List.length hd;simp only[List.length_drop,List.length_cons] at this
      omega
    have ho:rdO O (j:Int)=o:=by
      have:=List.drop_eq_getElem_cons hj;rw[hd] at this;rw[(List.cons.inj this).1];simp[rd_T50,List.getD,List.getElem?_eq_getElem hj]
    have hd1:O.drop (j+1)=rest:=by rw[← List.drop_drop,hd];rfl
    unfold quinariaref07_Tree.l1;rw[if_pos (by omega),if_pos (by omega),node_f,Option.bind_some,in_f,Option.bind_some,class_f,Option.bind_some,sml (by omega) (by omega)];have ih:=tree_l1 I N O hO rest (j+1) K hd1 (by simp at hK;omega);rw[show ((j+1:Nat):Int)=(j:Int)+1 by omega] at ih;rw[ih,show rd_T50 O (j:Int)=o from ho,List.all_cons];simp only[outOk,inB]
    by_cases h1:0≤o.f0<;>by_cases h2:o.f0≤N.length<;>by_cases h3:1≤o.f1<;>by_cases h4:o.f1≤200<;>by_cases h5:0≤o.f2<;>by_cases h6:o.f2≤3<;>simp[h1,h2,h3,h4,h5,h6]
theorem tree_l0 (I:Int) (N:List SN) (O:List SO) (hN:N.length≤1000) (hO:O.length≤1000):∀(d j K:Nat),j+d=N.length→d+O.length+1<K→quinariaref07_Tree.l0 K (j:Int) I N O=some ((List.range' j d).all (nodeOk N)&&(O.all (outOk N.length)&&sizesB I N O))
  |0,j,K+1,hj,hK=>by
    unfold quinariaref07_Tree.l0;rw[if_neg (by omega)];have:=tree_l1 I N O hO O 0 K rfl (by omega)
    simpa using this
  |d+1,j,K+1,hj,hK=>by
    unfold quinariaref07_Tree.l0;rw[if_pos (by omega),if_pos (by omega),in_f,Option.bind_some,cups_f,Option.bind_some,sml (by omega) (by omega)];have ih:=tree_l0 I N O hN hO d (j+1) K (by omega) (by omega);rw[show ((j+1:Nat):Int)=(j:Int)+1 by omega] at ih;rw[ih,List.range'_succ,List.all_cons];simp only[nodeOk,inB]
    by_cases h1:0≤(rdN N j).f0<;>by_cases h2:(rdN N j).f0≤j<;>by_cases h3:0≤(rdN N j).f1<;>by_cases h4:(rdN N j).f1≤200<;>simp[h1,h2,h3,h4]
theorem tree_f (I:Int) (N:List SN) (O:List SO) (hN:N.length≤1000) (hO:O.length≤1000) (K:Nat) (hK:N.length+O.length+1<K):quinariaref07_Tree.f K I N O=some (treeB I N O):=by
  unfold quinariaref07_Tree.f;have:=tree_l0 I N O hN hO N.length 0 K (by omega) hK;rw[show ((0:Nat):Int)=0 from rfl] at this;rw[this,←List.range_eq_range']
  congr 1
  have e1:(List.range N.length).all (nodeOk N)=okE N:=rfl;have e2:O.all (outOk N.length)=okO N.length O:=rfl;rw[e1,e2];unfold sizesB treeB
  cases okE N<;>cases okO N.length O<;>simp
end Rf
end Go.Proofs.YtjioobfeikbffaaGreatDoor.K
end
section
namespace Go.Proofs.YtjioobfeikbffaaGreatDoor.K
open Go.RowKit Go.Proofs.YtjioobfeikbffaaGreatDoorW.PrintWords Go.Proofs.YtjioobfeikbffaaGreatDoorW.PrintLast Go.Proofs.YtjioobfeikbffaaGreatDoorW.PrintMore
attribute [local go_sem] max2_int min2_int max_two min_two max_three min_three max_four min_four
def quinariaref07_List.l0:Nat→List Int→Int→Int→List (S85)→List (S50)→Option (Bool)
 |0,_,_,_,_,_=>none
 |k+1,x1,x5,x688000,x688001,x688002=>if x5<(x1.length:Int) then(if 0≤x5 then(if x5<(x688002.length:Int) then((quinariaref07_in.f (rd x1 x5) 0 ((rd_T50 x688002 x5).f1)).bind fun t690=>(if t690=true then(quinariaref07_List.l0 k x1 (wrap64 (x5+1)) x688000 x688001 x688002) else(some false))) else(none)) else(none)) else(some true)
def quinariaref07_List.f (k:Nat) (a0_0:Int) (l0_1:List (S85)) (l0_2:List (S50)) (l1:List Int):Option (Bool):=if(l1.length:Int)=(l0_2.length:Int) then(quinariaref07_List.l0 k l1 0 a0_0 l0_1 l0_2) else(some false)
set_option maxHeartbeats 8000000 in
set_option maxRecDepth 100000 in
theorem quinariaref07_List.calls (k:Nat) (a0_0:Int) (A0_1:Option Addr) (c0_1:Nat) (l0_1:List (S85)) (A0_2:Option Addr) (c0_2:Nat) (l0_2:List (S50)) (A1:Option Addr) (c1:Nat) (l1:List Int) (r:Bool) (w:World) (hr0_1:Kd.C k85 w A0_1 l0_1.length l0_1) (hc0_1:l0_1.length≤c0_1) (hr0_2:Kd.C k50 w A0_2 l0_2.length l0_2) (hc0_2:l0_2.length≤c0_2) (hr1:Kd.C (Kd.int .i64) w A1 l1.length l1) (hc1:l1.length≤c1) (h:quinariaref07_List.f k a0_0 l0_1 l0_2 l1=some r):
  Calls Tryz.prog 22 #[.agg #[.int .i64 a0_0,.slice A0_1 l0_1.length c0_1,.slice A0_2 l0_2.length c0_2],.slice A1 l1.length c1] w fun e w'=>e=.returned (.bool r)∧Below w.heap.size w w':=by
 have hu25:=Tryz.underlying25;have HR0_1:=aM hr0_1;have HC0_1:=aM hc0_1;clear hr0_1 hc0_1;have HR0_2:=aM hr0_2;have HC0_2:=aM hc0_2;clear hr0_2 hc0_2;have HR1:=aM hr1;have HC1:=aM hc1;clear hr1 hc1;have HB:=aM (Below.refl w.heap.size w);have H:(if (l1.length:Int)=(l0_2.length:Int) then(quinariaref07_List.l0 k l1 0 a0_0 l0_1 l0_2) else(some false))=some r:=h;clear h
 by_cases c3:(l1.length:Int)=(l0_2.length:Int)
 ·rw[if_pos c3] at H;have c3b0:((l1.length:Int)==(l0_2.length:Int))=true:=beq_iff_eq.mpr c3;have c3b1:((l1.length:Int) !=(l0_2.length:Int))=false:=bne_eq_false_iff_eq.mpr c3;have c3b2:(l1.length==l0_2.length)=true:=by first|simpa using c3|(simp at c3⊢;omega)
  clear c3;have H':=aM H;clear H
  go_enter Tryz.func22,Tryz.ntmps22
  go_wp2_with (first|((with_reducible refine gate_dst (N:=2) rfl ?_);refine bxe 2 #[.int .i64 a0_0,.slice A0_1 l0_1.length c0_1,.slice A0_2 l0_2.length c0_2] 25 ?_;intro gb687 hg w4 hbox hb;have n0_:=aM (below_step uB hb);have n1_:=aM (hbox);have n2_:=gw hg;have n3_:=gw hg;clear HB;have HB:=n0_;have BK687:=n1_;have GW687:=n2_;have GE687:=n3_;clear n0_ n1_ n2_ n3_;clear hb hbox hg;obtain⟨hcz5_0,hcz5_1,hcz5_2⟩:=cz3 BK687.out;obtain⟨hfz5_0,hfz5_1,hfz5_2⟩:=fz3 BK687.out))
  repeat(go_quiet (first|((with_reducible refine gate_dst (N:=2) rfl ?_);refine bxe 2 #[.int .i64 a0_0,.slice A0_1 l0_1.length c0_1,.slice A0_2 l0_2.length c0_2] 25 ?_;intro gb687 hg w4 hbox hb;have n0_:=aM (below_step uB hb);have n1_:=aM (hbox);have n2_:=gw hg;have n3_:=gw hg;clear HB;have HB:=n0_;have BK687:=n1_;have GW687:=n2_;have GE687:=n3_;clear n0_ n1_ n2_ n3_;clear hb hbox hg;obtain⟨hcz5_0,hcz5_1,hcz5_2⟩:=cz3 BK687.out;obtain⟨hfz5_0,hfz5_1,hfz5_2⟩:=fz3 BK687.out));try go_wp2_with (first|((with_reducible refine gate_dst (N:=2) rfl ?_);refine bxe 2 #[.int .i64 a0_0,.slice A0_1 l0_1.length c0_1,.slice A0_2 l0_2.length c0_2] 25 ?_;intro gb687 hg w4 hbox hb;have n0_:=aM (below_step uB hb);have n1_:=aM (hbox);have n2_:=gw hg;have n3_:=gw hg;clear HB;have HB:=n0_;have BK687:=n1_;have GW687:=n2_;have GE687:=n3_;clear n0_ n1_ n2_ n3_;clear hb hbox hg;obtain⟨hcz5_0,hcz5_1,hcz5_2⟩:=cz3 BK687.out;obtain⟨hfz5_0,hfz5_1,hfz5_2⟩:=fz3 BK687.out)))
  go_loopg [5] k (fun kq v5 w'=>∃(x5_1:Int),v5=.int .i64 x5_1∧Aside0 (quinariaref07_List.l0 kq l1 x5_1 a0_0 l0_1 l0_2=some r)∧Aside0 (kq≤k)∧Aside0 (w'.heap[gb687]? =some (.cells #[.int .i64 a0_0,(.slice A0_1 l0_1.length c0_1),(.slice A0_2 l0_2.length c0_2)] 25 (0,0)))∧Aside0 (Below w.heap.size w w'))
  case atStart=>exact⟨(0),u0,H',⟨Nat.le_refl _⟩,⟨uK BK687.out⟩,⟨uB⟩⟩
  case round=>
   clear H';try clear c1;try clear c2;try clear p2;try clear c3;try clear c3b0;try clear c3b1;try clear c3b2;try clear hcz5_0;try clear hcz5_1;try clear hcz5_2;try clear hfz5_0;try clear hfz5_1;try clear hfz5_2
   obtain⟨x5_1,rfl,HA,HK1,BK687,HB⟩:=hrel
   cases gk with
   |zero=>exact absurd HA.out (by simp[quinariaref07_List.l0])
   |succ k1=>
    have H:=HA.out;clear HA;simp only[quinariaref07_List.l0] at H
    by_cases c6:x5_1<(l1.length:Int)
    ·rw[if_pos c6] at H;replace c6:=decide_eq_true c6;obtain⟨c7,H⟩:=ifs H;replace c7:=decide_eq_true c7;obtain⟨c8,H⟩:=ifs H;replace c8:=decide_eq_true c8;replace H:=Option.bind_eq_some_iff.mp H;obtain⟨t690,A90,H⟩:=H;replace H:(if t690=true then(quinariaref07_List.l0 k1 l1 (wrap64 (x5_1+1)) a0_0 l0_1 l0_2) else(some false))=some r:=H;have A9:=aM A90;clear A90
     by_cases c10:t690=true
     ·subst c10;have H1:(quinariaref07_List.l0 k1 l1 (wrap64 (x5_1+1)) a0_0 l0_1 l0_2)=some r:=by rw[if_pos rfl] at H;exact H
      clear H;have H:=H1;clear H1;have H':=aM H;clear H;have p688:0≤(x5_1:Int):=uD;have q688:x5_1<(l1.length:Int):=uD;obtain⟨ad688,e688,hx688_0⟩:=Kd.at_int HR1.out x5_1 p688 q688
      cases e688
      replace hx688_0:=hcell HB.out hx688_0;replace p688:=eq_true p688;replace q688:=eq_true q688;obtain⟨hcz11_0,hcz11_1,hcz11_2⟩:=cz3 BK687.out;obtain⟨hfz11_0,hfz11_1,hfz11_2⟩:=fz3 BK687.out;have p689:0≤(x5_1:Int):=uD;have q689:x5_1<(l0_2.length:Int):=uD;obtain⟨ad689,e689,hx689_0,hx689_1,hx689_2⟩:=at_T50 HR0_2.out x5_1 p689 q689
      cases e689
      replace hx689_0:=hcell HB.out hx689_0;replace hx689_1:=hcell HB.out hx689_1;replace hx689_2:=hcell HB.out hx689_2;replace p689:=eq_true p689;replace q689:=eq_true q689
      go_wp2_with (first|(go_at_call 61;(with_reducible refine(quinariaref07_in.calls (rd l1 x5_1) 0 ((rd_T50 l0_2 x5_1).f1) true _ A9.out).mono ?_);rintro e w' ⟨rfl,⟨nd,rfl⟩⟩;(try first|exact⟨rfl,_,World.drewN_drewN _ _ _⟩|exact⟨rfl,_,Eq.trans (World.drewN_drewN _ _ _) (congrArg (World.drewN _) (Nat.add_assoc _ _ _))⟩)))
      repeat(go_quiet (first|(go_at_call 61;(with_reducible refine(quinariaref07_in.calls (rd l1 x5_1) 0 ((rd_T50 l0_2 x5_1).f1) true _ A9.out).mono ?_);rintro e w' ⟨rfl,⟨nd,rfl⟩⟩;(try first|exact⟨rfl,_,World.drewN_drewN _ _ _⟩|exact⟨rfl,_,Eq.trans (World.drewN_drewN _ _ _) (congrArg (World.drewN _) (Nat.add_assoc _ _ _))⟩)));try go_wp2_with (first|(go_at_call 61;(with_reducible refine(quinariaref07_in.calls (rd l1 x5_1) 0 ((rd_T50 l0_2 x5_1).f1) true _ A9.out).mono ?_);rintro e w' ⟨rfl,⟨nd,rfl⟩⟩;(try first|exact⟨rfl,_,World.drewN_drewN _ _ _⟩|exact⟨rfl,_,Eq.trans (World.drewN_drewN _ _ _) (congrArg (World.drewN _) (Nat.add_assoc _ _ _))⟩))))
      go_roundg k1
      case measure=>have:=HK1.out;omega
      case rel=>exact⟨(wrap64 (x5_1+1)),u0,H',⟨by have:=HK1.out;omega⟩,⟨uK BK687.out⟩,⟨uB⟩⟩
     ·replace c10:=Bool.eq_false_iff.mpr c10;subst c10;have H1:(some false)=some r:=by rw[if_neg (show ¬(false=true) by decide)] at H;exact H
      clear H;have H:=H1;clear H1;obtain rfl:=Option.some.inj H;have p688:0≤(x5_1:Int):=uD;have q688:x5_1<(l1.length:Int):=uD;obtain⟨ad688,e688,hx688_0⟩:=Kd.at_int HR1.out x5_1 p688 q688
      cases e688
      replace hx688_0:=hcell HB.out hx688_0;replace p688:=eq_true p688;replace q688:=eq_true q688;obtain⟨hcz12_0,hcz12_1,hcz12_2⟩:=cz3 BK687.out;obtain⟨hfz12_0,hfz12_1,hfz12_2⟩:=fz3 BK687.out;have p689:0≤(x5_1:Int):=uD;have q689:x5_1<(l0_2.length:Int):=uD;obtain⟨ad689,e689,hx689_0,hx689_1,hx689_2⟩:=at_T50 HR0_2.out x5_1 p689 q689
      cases e689
      replace hx689_0:=hcell HB.out hx689_0;replace hx689_1:=hcell HB.out hx689_1;replace hx689_2:=hcell HB.out hx689_2;replace p689:=eq_true p689;replace q689:=eq_true q689
      go_wp2_with (first|(go_at_call 61;(with_reducible refine(quinariaref07_in.calls (rd l1 x5_1) 0 ((rd_T50 l0_2 x5_1).f1) false _ A9.out).mono ?_);rintro e w' ⟨rfl,⟨nd,rfl⟩⟩;(try first|exact⟨rfl,_,World.drewN_drewN _ _ _⟩|exact⟨rfl,_,Eq.trans (World.drewN_drewN _ _ _) (congrArg (World.drewN _) (Nat.add_assoc _ _ _))⟩)))
      (repeat (go_quiet (first|(go_at_call 61;(with_reducible refine(quinariaref07_in.calls (rd l1 x5_1) 0 ((rd_T50 l0_2 x5_1).f1) false _ A9.out).mono ?_);rintro e w' ⟨rfl,⟨nd,rfl⟩⟩;(try first|exact⟨rfl,_,World.drewN_drewN _ _ _⟩|exact⟨rfl,_,Eq.trans (World.drewN_drewN _ _ _) (congrArg (World.drewN _) (Nat.add_assoc _ _ _))⟩)));try go_wp2_with (first|(go_at_call 61;(with_reducible refine(quinariaref07_in.calls (rd l1 x5_1) 0 ((rd_T50 l0_2 x5_1).f1) false _ A9.out).mono ?_);rintro e w' ⟨rfl,⟨nd,rfl⟩⟩;(try first|exact⟨rfl,_,World.drewN_drewN _ _ _⟩|exact⟨rfl,_,Eq.trans (World.drewN_drewN _ _ _) (congrArg (World.drewN _) (Nat.add_assoc _ _ _))⟩)))));go_ret;exact⟨uE,uB⟩
    ·rw[if_neg c6] at H;replace c6:=decide_eq_false c6;obtain rfl:=Option.some.inj H;go_wp2;(repeat (go_quiet (fail);try go_wp2));go_ret;exact⟨uE,uB⟩
 ·rw[if_neg c3] at H;have c3b0:((l1.length:Int)==(l0_2.length:Int))=false:=beq_eq_false_iff_ne.mpr c3;have c3b1:((l1.length:Int) !=(l0_2.length:Int))=true:=bne_iff_ne.mpr c3;have c3b2:(l1.length==l0_2.length)=false:=by first|simpa using c3|(simp at c3⊢;omega)
  obtain rfl:=Option.some.inj H
  go_enter Tryz.func22,Tryz.ntmps22
  go_wp2_with (first|((with_reducible refine gate_dst (N:=2) rfl ?_);refine bxe 2 #[.int .i64 a0_0,.slice A0_1 l0_1.length c0_1,.slice A0_2 l0_2.length c0_2] 25 ?_;intro gb687 hg w13 hbox hb;have n0_:=aM (below_step uB hb);have n1_:=aM (hbox);have n2_:=gw hg;have n3_:=gw hg;clear HB;have HB:=n0_;have BK687:=n1_;have GW687:=n2_;have GE687:=n3_;clear n0_ n1_ n2_ n3_;clear hb hbox hg;obtain⟨hcz14_0,hcz14_1,hcz14_2⟩:=cz3 BK687.out;obtain⟨hfz14_0,hfz14_1,hfz14_2⟩:=fz3 BK687.out))
  (repeat (go_quiet (first|((with_reducible refine gate_dst (N:=2) rfl ?_);refine bxe 2 #[.int .i64 a0_0,.slice A0_1 l0_1.length c0_1,.slice A0_2 l0_2.length c0_2] 25 ?_;intro gb687 hg w13 hbox hb;have n0_:=aM (below_step uB hb);have n1_:=aM (hbox);have n2_:=gw hg;have n3_:=gw hg;clear HB;have HB:=n0_;have BK687:=n1_;have GW687:=n2_;have GE687:=n3_;clear n0_ n1_ n2_ n3_;clear hb hbox hg;obtain⟨hcz14_0,hcz14_1,hcz14_2⟩:=cz3 BK687.out;obtain⟨hfz14_0,hfz14_1,hfz14_2⟩:=fz3 BK687.out));try go_wp2_with (first|((with_reducible refine gate_dst (N:=2) rfl ?_);refine bxe 2 #[.int .i64 a0_0,.slice A0_1 l0_1.length c0_1,.slice A0_2 l0_2.length c0_2] 25 ?_;intro gb687 hg w13 hbox hb;have n0_:=aM (below_step uB hb);have n1_:=aM (hbox);have n2_:=gw hg;have n3_:=gw hg;clear HB;have HB:=n0_;have BK687:=n1_;have GW687:=n2_;have GE687:=n3_;clear n0_ n1_ n2_ n3_;clear hb hbox hg;obtain⟨hcz14_0,hcz14_1,hcz14_2⟩:=cz3 BK687.out;obtain⟨hfz14_0,hfz14_1,hfz14_2⟩:=fz3 BK687.out))));go_ret;exact⟨uE,uB⟩
end Go.Proofs.YtjioobfeikbffaaGreatDoor.K
end
section
namespace Go.Proofs.YtjioobfeikbffaaGreatDoor.K
open Dr Go.RowKit Go.Proofs.YtjioobfeikbffaaGreatDoorW.PrintWords Go.Proofs.YtjioobfeikbffaaGreatDoorW.PrintLast Go.Proofs.YtjioobfeikbffaaGreatDoorW.PrintMore
namespace Rf
variable {I:Int} {N:List SN} {O:List SO}
theorem parent_f (hN:N.length≤1000) {n:Int} (h0:0<n) (h1:n≤N.length):quinariaref07_parent.f I N O n=some (rdN N (n-1)).f0:=by
  unfold quinariaref07_parent.f;rw[if_neg (by omega),sml (by omega) (by omega),if_pos (by omega),if_pos (by omega)]
theorem cap_f (hN:N.length≤1000) {n:Int} (h0:0≤n) (h1:n≤N.length):quinariaref07_Cap.f I N O n=some (capF I N n):=by
  unfold quinariaref07_Cap.f capF
  by_cases h:n=0
  · rw[if_pos h,if_pos h]
  · rw[if_neg h,if_neg h,sml (by omega) (by omega),if_pos (by omega),if_pos (by omega)]
theorem below_l0 (hN:N.length≤1000) (ho:okN N=true) (t:Int):∀(K:Nat) (n:Int),0≤n→n≤N.length→n+1<K→quinariaref07_Below.l0 K t n I N O=some ((upL N n).contains t)
  |K+1,n,h0,h1,hK=>by
    unfold quinariaref07_Below.l0;rw[if_pos h0]
    by_cases hz:n=0
    · subst hz;rw[up_zero]
      by_cases e:(0:Int)=t
      · rw[if_pos e];simp[e]
      · rw[if_neg e];unfold quinariaref07_parent.f;rw[if_pos rfl,Option.bind_some];obtain⟨K,rfl⟩:∃k,K=k+1:=⟨K-1,by omega⟩;unfold quinariaref07_Below.l0;rw[if_neg (by omega)];have:¬t=0:=fun h=>e h.symm;simp[this]
    · have hp:=okN_at ho (show 0≤n-1 by omega) (by omega);rw[up_pos ho (by omega) h1]
      by_cases e:n=t
      · rw[if_pos e];simp[e]
      · rw[if_neg e,parent_f hN (by omega) h1,Option.bind_some,below_l0 hN ho t K _ hp.1 (by omega) (by omega)];have:¬t=n:=fun h=>e h.symm;simp[this]
theorem below_f (hN:N.length≤1000) (ho:okN N=true) (hO:okO N.length O=true) {i:Int} (h0:0≤i) (h1:i<O.length) (t:Int) (K:Nat) (hK:N.length+1<K):quinariaref07_Below.f K I N O i t=some (belB N O i t):=by
  unfold quinariaref07_Below.f;have hp:=okO_at hO h0 h1;rw[if_pos h0,if_pos h1];exact below_l0 hN ho t K (rdO O i).f0 hp.1 hp.2.1 (by have:=hp.2.1;omega)
theorem sum_l0 (hN:N.length≤1000) (ho:okN N=true) (hO:okO N.length O=true) {s:List Int} (hs:s.length≤O.length) (hl:s.length≤1000) (hr:∀i:Nat,i<s.length→0≤rd s i∧rd s i≤1000) (t:Int):
    ∀(d j K:Nat),j+d=s.length→d+N.length+2<K→quinariaref07_Sum.l0 K s t (sumTo N O s t j) (j:Int) I N O=some (sumTo N O s t s.length)
  |0,j,K+1,hj,hK=>by
    unfold quinariaref07_Sum.l0;rw[if_neg (by omega),show j=s.length by omega]
  |d+1,j,K+1,hj,hK=>by
    unfold quinariaref07_Sum.l0;have ih:=sum_l0 hN ho hO hs hl hr t d (j+1) K (by omega) (by omega);rw[show ((j+1:Nat):Int)=(j:Int)+1 by omega] at ih;have hx:=hr j (by omega);have hg:=sumTo_range (N:=N) (O:=O) (s:=s) (n:=t) (k:=j) (fun i hi=>hr i (by omega));rw[if_pos (by omega),below_f hN ho hO (by omega) (by omega) t K (by omega),Option.bind_some,sml (a:=(j:Int)+1) (by omega) (by omega)]
    cases hb:belB N O (j:Int) t with
    |true=>
      rw[if_pos rfl,if_pos (by omega),sml (by omega) (by omega)];simp only[sumTo,hb,if_true] at ih⊢;exact ih
    |false=>
      rw[if_neg (by simp)];simp only[sumTo,hb,Bool.false_eq_true,if_false,Int.add_zero] at ih⊢;exact ih
theorem sum_f (hN:N.length≤1000) (ho:okN N=true) (hO:okO N.length O=true) {s:List Int} (hs:s.length≤O.length) (hl:s.length≤1000) (hr:∀i:Nat,i<s.length→0≤rd s i∧rd s i≤1000) (t:Int) (K:Nat) (hK:s.length+N.length+2<K):quinariaref07_Sum.f K I N O s t=some (sumTo N O s t s.length):=
  sum_l0 hN ho hO hs hl hr t s.length 0 K (by omega) hK
theorem fits_l0 (hN:N.length≤1000) (ho:okN N=true) (hO:okO N.length O=true) {s:List Int} (hs:s.length=O.length) (hl:s.length≤1000) (hr:∀i:Nat,i<s.length→0≤rd s i∧rd s i≤1000):
    ∀(d j K:Nat),j+d=N.length+1→d+s.length+N.length+3<K→quinariaref07_Fits.l0 K s (j:Int) I N O=some ((List.range' j d).all fun n=>decide (sumTo N O s n O.length≤capF I N n))
  |0,j,K+1,hj,hK=>by
    unfold quinariaref07_Fits.l0;rw[if_neg (by omega)]
    rfl
  |d+1,j,K+1,hj,hK=>by
    unfold quinariaref07_Fits.l0;have ih:=fits_l0 hN ho hO hs hl hr d (j+1) K (by omega) (by omega);rw[show ((j+1:Nat):Int)=(j:Int)+1 by omega] at ih;rw[if_pos (by omega),sum_f hN ho hO (by omega) hl hr _ K (by omega),Option.bind_some,cap_f hN (by omega) (by omega),Option.bind_some,sml (by omega) (by omega),ih,List.range'_succ,List.all_cons,hs]
    by_cases h:sumTo N O s (j:Int) O.length>capF I N (j:Int)
    · rw[if_pos h,decide_eq_false (by omega),Bool.false_and]
    · rw[if_neg h,decide_eq_true (by omega),Bool.true_and]
theorem fits_f (hN:N.length≤1000) (ho:okN N=true) (hO:okO N.length O=true) {s:List Int} (hs:s.length=O.length) (hl:s.length≤1000) (hr:∀i:Nat,i<s.length→0≤rd s i∧rd s i≤1000) (K:Nat) (hK:s.length+2*N.length+5<K):quinariaref07_Fits.f K I N O s=some (fitsB I N O s):=by
  unfold quinariaref07_Fits.f fitsB;have:=fits_l0 (I:=I) hN ho hO hs hl hr (N.length+1) 0 K (by omega) (by omega);rw[List.range_eq_range'];exact this
theorem list_l0 {s:List Int} (hs:s.length=O.length) (hl:s.length≤1000):
    ∀(d j K:Nat),j+d=s.length→d<K→quinariaref07_List.l0 K s (j:Int) I N O=some ((List.range' j d).all fun i=>decide (0≤rd s i)&&decide (rd s i≤(rdO O i).f1))
  |0,j,K+1,hj,hK=>by
    unfold quinariaref07_List.l0;rw[if_neg (by omega)]
    rfl
  |d+1,j,K+1,hj,hK=>by
    unfold quinariaref07_List.l0;have ih:=list_l0 hs hl d (j+1) K (by omega) (by omega);rw[show ((j+1:Nat):Int)=(j:Int)+1 by omega] at ih;rw[if_pos (by omega),if_pos (by omega),if_pos (by omega),in_f,Option.bind_some,sml (by omega) (by omega),ih,List.range'_succ,List.all_cons];unfold inB
    cases h:(decide (0≤rd s (j:Int))&&decide (rd s (j:Int)≤(rdO O (j:Int)).f1)) with
    |true=>rw[if_pos rfl];simp
    |false=>rw[if_neg (by simp)];simp
theorem list_f {s:List Int} (hl:O.length≤1000) (K:Nat) (hK:O.length<K):quinariaref07_List.f K I N O s=some (areB O s):=by
  unfold quinariaref07_List.f areB
  by_cases h:s.length=O.length
  · rw[if_pos (by omega),decide_eq_true h,Bool.true_and,List.range_eq_range'];exact list_l0 h (by omega) s.length 0 K (by omega) (by omega)
  · rw[if_neg (by omega),decide_eq_false h,Bool.false_and]
theorem are_rng {s:List Int} (hO:okO N.length O=true) (h:areB O s=true):s.length=O.length∧∀i:Nat,i<s.length→0≤rd s i∧rd s i≤1000:=by
  obtain⟨hl,h⟩:=are_iff.mp h;refine⟨hl,fun i hi=>?_⟩;have h1:=h i (by omega);have h2:=okO_at hO (show (0:Int)≤i by omega) (by omega)
  omega
structure Okw (N:List SN) (O:List SO):Prop where
  n:okN N=true
  o:okO N.length O=true
  nl:N.length≤6
  ol:O.length≤8
theorem okw (h:treeB I N O=true):Okw N O:=by
  have ht:=tree_ok h;exact⟨ht.n,ht.o,ht.nl,ht.ol⟩
theorem fits_w (ht:Okw N O) {s:List Int} (hs:areB O s=true) (K:Nat) (hK:50<K):quinariaref07_Fits.f K I N O s=some (fitsB I N O s):=by
  obtain⟨hl,hr⟩:=are_rng ht.o hs;have h1:=ht.nl;have h2:=ht.ol;exact fits_f (by omega) ht.n ht.o hl (by omega) hr K (by omega)
end Rf
namespace Rf
variable {I:Int} {N:List SN} {O:List SO}
theorem more_f {s:List Int} (hl:s.length≤1000) {i:Nat} (hi:i<s.length) (hx:0≤rd s i∧rd s i≤1000):quinariaref07_more.f s (i:Int) 1=some (raiseL s i):=by
  unfold quinariaref07_more.f;rw[if_pos (by simp;omega),Option.bind_some,if_pos (by omega)];simp only[List.nil_append];rw[if_pos (by omega),sml (by omega) (by omega)]
  rfl
theorem are_raise {s:List Int} (hs:areB O s=true) {i:Nat} (hi:i<O.length):areB O (raiseL s i)=decide (rd s i<(rdO O i).f1):=by
  obtain⟨hl,hr⟩:=are_iff.mp hs;have e:fn (raiseL s i)=up (fn s) i:=fn_raise (by omega);have e1:rd (raiseL s i) (i:Int)=rd s i+1:=by have:=congrFun e i;rw[up_at] at this;exact this
  by_cases h:rd s i<(rdO O i).f1
  · rw[decide_eq_true h];refine are_iff.mpr ⟨by rw[raise_len];exact hl,fun k hk=>?_⟩
    by_cases hki:k=i
    · subst hki;have:=hr k hk;rw[e1];omega
    · have:=congrFun e k;rw[up_ne _ hki] at this;have e3:rd (raiseL s i) (k:Int)=rd s k:=this;rw[e3];exact hr k hk
  · rw[decide_eq_false h]
    cases hb:areB O (raiseL s i) with
    |false=>rfl
    |true=>
      have:=(are_iff.mp hb).2 i hi
      omega
section
variable (h:Okw N O) {order:List Int} {x:Nat} (hx:x<order.length) (hol:order.length≤1000) {r:List Int}
include h hx
theorem ord_l2 {s0:List Int} (h0:areB O s0=true) {B:Nat} (hB:60≤B) (H:∀K,B≤K→quinariaref07_Ordered.l1 K order (roundF I N O (rd order x) s0 O.length).1 (x:Int) (roundF I N O (rd order x) s0 O.length).2 I N O=some r):
    ∀(d j K:Nat),j+d=O.length→B+2*d+1≤K→quinariaref07_Ordered.l2 K order (roundF I N O (rd order x) s0 j).1 (x:Int) (roundF I N O (rd order x) s0 j).2 (j:Int) I N O=some r
  |0,j,K+1,hj,hK=>by
    unfold quinariaref07_Ordered.l2;rw[if_neg (by omega),show j=O.length by omega];exact H K (by omega)
  |d+1,j,K+1,hj,hK=>by
    have ht:=h;have ol:=ht.ol;have hs:=are_round (I:=I) (N:=N) (c:=rd order x) h0 j;obtain⟨hl,hr⟩:=are_rng ht.o hs;have ih:=fun K' hK'=>ord_l2 h0 hB H d (j+1) K' (by omega) hK';rw[show ((j+1:Nat):Int)=(j:Int)+1 by omega] at ih;have er:roundF I N O (rd order x) s0 (j+1)=if(rdO O j).f2=rd order x then(if mayB I N O (roundF I N O (rd order x) s0 j).1 j=true then(raiseL (roundF I N O (rd order x) s0 j).1 j,true) else roundF I N O (rd order x) s0 j) else roundF I N O (rd order x) s0 j:=rfl;obtain⟨K,rfl⟩:∃k,K=k+1:=⟨K-1,by omega⟩;unfold quinariaref07_Ordered.l2;rw[if_pos (by omega),if_pos (by omega),if_pos (by omega),if_pos (by omega)]
    by_cases hc:(rdO O j).f2=rd order x
    · rw[if_pos hc,if_pos (by omega)];rw[er,if_pos hc] at ih;have ea:=are_raise hs (show j<O.length by omega);unfold quinariaref07_Ordered.j3
      by_cases hm:rd (roundF I N O (rd order x) s0 j).1 j<(rdO O j).f1
      · rw[decide_eq_true hm] at ea;rw[if_pos (by exact decide_eq_true hm),more_f (by omega) (by omega) (hr j (by omega)),Option.bind_some,fits_w h ea K (by omega),Option.bind_some,sml (by omega) (by omega)];have em:mayB I N O (roundF I N O (rd order x) s0 j).1 j=fitsB I N O (raiseL (roundF I N O (rd order x) s0 j).1 j):=by unfold mayB;rw[ea,Bool.true_and]
        rw[em] at ih
        cases hf:fitsB I N O (raiseL (roundF I N O (rd order x) s0 j).1 j) with
        |true=>rw[if_pos rfl];rw[hf,if_pos rfl] at ih;exact ih K (by omega)
        |false=>rw[if_neg (by simp)];rw[hf,if_neg (by simp)] at ih;exact ih K (by omega)
      · rw[decide_eq_false hm] at ea;have em:mayB I N O (roundF I N O (rd order x) s0 j).1 j=false:=by unfold mayB;rw[ea,Bool.false_and]
        rw[em,if_neg (by simp)] at ih;rw[if_neg (by intro h;exact hm (of_decide_eq_true h)),sml (by omega) (by omega)];exact ih K (by omega)
    · rw[if_neg hc];rw[er,if_neg hc] at ih;unfold quinariaref07_Ordered.j3;rw[if_neg (by simp),sml (by omega) (by omega)];exact ih K (by omega)
include hol
theorem ord_l1:∀(f:Nat) {s:List Int} {B:Nat},areB O s=true→leftF O s<f→60≤B→(∀ K,B≤K→quinariaref07_Ordered.l0 K order (classF I N O (rd order x) s) ((x:Int)+1) I N O=some r)→
    ∀K,B+20*f≤K→quinariaref07_Ordered.l1 K order s (x:Int) true I N O=some r
  |0,s,B,_,hf,_,_,K,_=>absurd hf (by omega)
  |f+1,s,B,hs,hf,hB,H,K+1,hK=>by
    have ht:=h;have ol:=ht.ol;unfold quinariaref07_Ordered.l1;rw[if_pos rfl];refine ord_l2 h hx hs (B:=B+20*f+1) (by omega) (fun K' hK'=>?_) O.length 0 K (by omega) (by omega);have hc:=class_step (I:=I) (N:=N) (c:=rd order x) hs;have hl:=left_round (I:=I) (N:=N) (c:=rd order x) hs O.length (Nat.le_refl _);have ha:=are_round (I:=I) (N:=N) (c:=rd order x) hs O.length
    cases hm:(roundF I N O (rd order x) s O.length).2 with
    |true=>
      rw[hm,if_pos rfl] at hc;rw[hc] at H;exact ord_l1 f ha (by have:=hl.2 hm;omega) hB H K' (by omega)
    |false=>
      rw[hm,if_neg (by simp)] at hc;rw[hc] at H;obtain⟨K',rfl⟩:∃k,K'=k+1:=⟨K'-1,by omega⟩;unfold quinariaref07_Ordered.l1;rw[if_neg (by simp),sml (by omega) (by omega)];exact H K' (by omega)
end
theorem ord_l0 (h:Okw N O) {order:List Int} (hol:order.length≤1000):∀(rest:List Int) (j:Nat) {s:List Int},order.drop j=rest→areB O s=true→∀K,32100*rest.length+100≤K→quinariaref07_Ordered.l0 K order s (j:Int) I N O=some (orderF I N O s rest)
  |[],j,s,hd,hs,K+1,hK=>by
    have:order.length≤j:=by simpa using hd
    unfold quinariaref07_Ordered.l0;rw[if_neg (by omega)]
    rfl
  |c::rest,j,s,hd,hs,K+1,hK=>by
    have ht:=h
    have hj:j<order.length:=by
      have:=congrArg List.length hd;simp only[List.length_drop,List.length_cons] at this
      omega
    have hcj:rd order (j:Int)=c:=by
      have:=List.drop_eq_getElem_cons hj;rw[hd] at this;rw[(List.cons.inj this).1];simp[rd,List.getD,List.getElem?_eq_getElem hj]
    have hd1:order.drop (j+1)=rest:=by rw[← List.drop_drop,hd];rfl
    unfold quinariaref07_Ordered.l0;rw[if_pos (by omega)];refine ord_l1 h hj hol 1601 hs (by have:=left_max ht.o ht.ol hs;omega) (B:=32100*rest.length+100) (by omega) (fun K' hK'=>?_) K (by simp only[List.length_cons] at hK;omega);rw[hcj];have:=ord_l0 h hol rest (j+1) hd1 (are_class (I:=I) (N:=N) (c:=c) hs) K' hK';rw[show ((j+1:Nat):Int)=(j:Int)+1 by omega] at this;exact this
theorem ordered_w (ht:Okw N O) {order:List Int} (hol:order.length≤4) (K:Nat) (hK:130000≤K):quinariaref07_Ordered.f K I N O order=some (orderedF I N O order):=by
  have ol:=ht.ol;unfold quinariaref07_Ordered.f;rw[if_pos (by omega),if_pos (by omega)];exact ord_l0 ht (by omega) order 0 rfl (zeros_are ht.o) K (by omega)
theorem shares_w (h:Okw N O) (K:Nat) (hK:130000≤K):quinariaref07_Shares.f K I N O=some (lawF I N O):=by
  unfold quinariaref07_Shares.f;rw[ordered_w h (by simp) K hK]
  rfl
theorem shares_f (h:treeB I N O=true) (K:Nat) (hK:130000≤K):quinariaref07_Shares.f K I N O=some (lawF I N O):=shares_w (okw h) K hK
theorem law_len (h:treeB I N O=true):(lawF I N O).length=O.length:=(are_iff.mp (ordered_are (tree_ok h).o)).1
theorem sharesC_f (hN:N.length≤1000) (hO:O.length≤1000):drought_Shares.f I N O=some (if treeB I N O=true then(lawF I N O,0) else([],2)):=by
  unfold drought_Shares.f drought_isTree.f;rw[if_pos ⟨by omega,by omega⟩,Option.bind_some]
  cases h:treeB I N O with
  |false=>rfl
  |true=>
    have ht:=tree_ok h;simp only[if_true];unfold drought_law.f;rw[if_pos (by unfold treeOk;simp[ht.n,ht.o,ht.ol,ht.nl];try omega),Option.bind_some]
end Rf
namespace Rf
variable {I:Int} {N:List SN} {O:List SO}
def okAt (N:List SN) (O:List SO) (s:List Int) (i n:Int) (k:Nat):Bool:=!(belB N O k n&&(decide ((rdO O i).f2<(rdO O k).f2)&&decide (0<rd s k)||decide ((rdO O k).f2=(rdO O i).f2)&&decide (rd s i+1<rd s k)))
theorem binds_eq (s:List Int) (i n:Int):bindsB I N O s i n=(belB N O i n&&tightB I N O s n&&(List.range O.length).all (okAt N O s i n)):=rfl
theorem tightR_f (h:treeB I N O=true) {s:List Int} (hs:areB O s=true) {n:Int} (h0:0≤n) (h1:n≤N.length) (K:Nat) (hK:100≤K):quinariaref07_tight.f K I N O s n=some (tightB I N O s n):=by
  have ht:=tree_ok h;obtain⟨hl,hr⟩:=are_rng ht.o hs;have h2:=ht.nl;have h3:=ht.ol;unfold quinariaref07_tight.f tightB;rw[sum_f (by omega) ht.n ht.o (by omega) (by omega) hr n K (by omega),Option.bind_some,cap_f (by omega) h0 h1,Option.bind_some,hl]
  congr 1
theorem bindsR_l0 (h:treeB I N O=true) {s:List Int} (hs:areB O s=true) {i n:Int} (i0:0≤i) (i1:i<O.length) (h0:0≤n) (h1:n≤N.length):∀(d j K:Nat),j+d=O.length→d+200≤K→
    quinariaref07_Binds.l0 K i n s (rdO O i).f2 (j:Int) I N O=some ((List.range' j d).all (okAt N O s i n)&&(belB N O i n&&tightB I N O s n))
  |0,j,K+1,hj,hK=>by
    have ht:=tree_ok h;have h2:=ht.nl;have h3:=ht.ol;unfold quinariaref07_Binds.l0;rw[if_neg (by omega),below_f (by omega) ht.n ht.o i0 i1 n K (by omega),Option.bind_some,tightR_f h hs h0 h1 K (by omega),Option.bind_some]
    cases belB N O i n<;>simp
  |d+1,j,K+1,hj,hK=>by
    have ht:=tree_ok h;have h2:=ht.nl;have h3:=ht.ol;obtain⟨hl,hr⟩:=are_rng ht.o hs;have ih:=bindsR_l0 h hs i0 i1 h0 h1 d (j+1) K (by omega) (by omega);rw[show ((j+1:Nat):Int)=(j:Int)+1 by omega] at ih;obtain⟨ii,rfl⟩:∃ii:Nat,i=ii:=⟨i.toNat,by omega⟩;have hxi:=hr ii (by omega);have hxj:=hr j (by omega);unfold quinariaref07_Binds.l0;rw[if_pos (by omega),below_f (by omega) ht.n ht.o (by omega) (by omega) n K (by omega),Option.bind_some,sml (a:=(j:Int)+1) (by omega) (by omega),sml (a:=rd s (ii:Int)+1) (by omega) (by omega),List.range'_succ,List.all_cons,Bool.and_assoc,ih];unfold okAt
    cases hb:belB N O (j:Int) n with
    |false=>rw[if_neg (by simp)];simp
    |true=>
      rw[if_pos rfl,if_pos (by omega)]
      by_cases c1:(rdO O (j:Int)).f2>(rdO O (ii:Int)).f2
      · rw[if_pos c1,if_pos (by omega)]
        by_cases c2:rd s (j:Int)>0
        · rw[if_pos c2];simp[c1,c2]
        · have c3:¬(rdO O (j:Int)).f2=(rdO O (ii:Int)).f2:=by omega
          rw[if_neg c2,if_neg c3];simp[c1,c2,c3]
      · rw[if_neg c1]
        by_cases c3:(rdO O (j:Int)).f2=(rdO O (ii:Int)).f2
        · rw[if_pos c3,if_pos (by omega),if_pos (by omega),if_pos (by omega)]
          by_cases c4:rd s (j:Int)>rd s (ii:Int)+1
          · rw[if_pos c4];simp[c1,c3,c4]
          · rw[if_neg c4];simp[c1,c3,c4]
        · rw[if_neg c3];simp[c1,c3]
theorem law_are (h:treeB I N O=true):areB O (lawF I N O)=true:=ordered_are (tree_ok h).o
theorem bindsR_f (h:treeB I N O=true) {i n:Int} (i0:0≤i) (i1:i<O.length) (h0:0≤n) (h1:n≤N.length) (K:Nat) (hK:140000≤K):quinariaref07_Binds.f K I N O i n=some (bindsB I N O (lawF I N O) i n):=by
  have h3:=(tree_ok h).ol;unfold quinariaref07_Binds.f;rw[shares_f h K (by omega),Option.bind_some,if_pos i0,if_pos i1];have:=bindsR_l0 h (law_are h) i0 i1 h0 h1 O.length 0 K (by omega) (by omega);rw[show ((0:Nat):Int)=0 from rfl] at this;rw[binds_eq,List.range_eq_range',Bool.and_comm];exact this
theorem tightC_f (h:treeB I N O=true) {s:List Int} (hs:areB O s=true) {n:Int} (h0:0≤n) (h1:n≤N.length):drought_shared_tight.f I N O s n=some (tightB I N O s n):=by
  have ht:=tree_ok h;obtain⟨hl,hr⟩:=are_rng ht.o hs;have h2:=ht.nl;have h3:=ht.ol;unfold drought_shared_tight.f drought_flows.f;rw[if_pos ⟨ht.n,ht.o,by omega,by omega,by unfold smallB;simp only[Bool.and_eq_true,decide_eq_true_eq,List.all_eq_true,List.mem_range];first|exact⟨hl,fun i hi=>hr i (by omega)⟩|exact fun i hi=>hr i (by omega)⟩,Option.bind_some,if_pos h0,if_pos (by rw[flowsF,flowL_len];omega)];unfold drought_capacity.f
  have e:rd (flowsF N O s) n=sumTo N O s n O.length:=by
    unfold flowsF;rw[flowL_at N O s O.length [] h0 h1];simp
  rw[e];unfold tightB capF
  by_cases hz:n=0
  · rw[if_pos hz,if_pos hz];rfl
  · rw[if_neg hz,if_neg hz,sml (by omega) (by omega),if_pos (by omega),if_pos (by omega)];rfl
theorem bindsC_l0 (h:treeB I N O=true) {s:List Int} (hs:areB O s=true) {i n:Int} (i0:0≤i) (i1:i<O.length):∀(d j K:Nat),j+d=O.length→d<K→
    drought_shared_binds.l0 K i n (rdO O i).f2 O (O.length:Int) (j:Int) I N O s=some ((List.range' j d).all (okAt N O s i n))
  |0,j,K+1,hj,hK=>by
    unfold drought_shared_binds.l0;rw[if_neg (by omega)]
    rfl
  |d+1,j,K+1,hj,hK=>by
    have ht:=tree_ok h;have h2:=ht.nl;have h3:=ht.ol;obtain⟨hl,hr⟩:=are_rng ht.o hs;have ih:=bindsC_l0 h hs (n:=n) i0 i1 d (j+1) K (by omega) (by omega);rw[show ((j+1:Nat):Int)=(j:Int)+1 by omega] at ih;obtain⟨ii,rfl⟩:∃ii:Nat,i=ii:=⟨i.toNat,by omega⟩;have hxi:=hr ii (by omega);have hxj:=hr j (by omega);unfold drought_shared_binds.l0 drought_below.f;rw[if_pos (by omega),if_pos (by omega),if_pos (by omega),if_pos ⟨ht.n,ht.o,by omega,by omega,by omega,by omega⟩,Option.bind_some,sml (a:=(j:Int)+1) (by omega) (by omega),sml (a:=rd s (ii:Int)+1) (by omega) (by omega),List.range'_succ,List.all_cons,ih];unfold okAt
    cases hb:belB N O (j:Int) n with
    |false=>rw[if_neg (by simp)];simp
    |true=>
      rw[if_pos rfl]
      by_cases c1:(rdO O (j:Int)).f2>(rdO O (ii:Int)).f2
      · rw[if_pos c1,if_pos (by omega)]
        by_cases c2:rd s (j:Int)>0
        · rw[if_pos c2];simp[c1,c2]
        · have c3:¬(rdO O (j:Int)).f2=(rdO O (ii:Int)).f2:=by omega
          rw[if_neg c2,if_neg c3];simp[c1,c2,c3]
      · rw[if_neg c1]
        by_cases c3:(rdO O (j:Int)).f2=(rdO O (ii:Int)).f2
        · rw[if_pos c3,if_pos (by omega),if_pos (by omega),if_pos (by omega)]
          by_cases c4:rd s (j:Int)>rd s (ii:Int)+1
          · rw[if_pos c4];simp[c1,c3,c4]
          · rw[if_neg c4];simp[c1,c3,c4]
        · rw[if_neg c3];simp[c1,c3]
theorem bindsS_f (h:treeB I N O=true) {s:List Int} (hs:areB O s=true) {i n:Int} (i0:0≤i) (i1:i<O.length) (h0:0≤n) (h1:n≤N.length) (K:Nat) (hK:100≤K):drought_shared_binds.f K I N O s i n=some (bindsB I N O s i n):=by
  have ht:=tree_ok h;have h2:=ht.nl;have h3:=ht.ol;obtain⟨K,rfl⟩:∃k,K=k+1:=⟨K-1,by omega⟩;have hl:=bindsC_l0 h hs (n:=n) i0 i1 O.length 0 K (by omega) (by omega);rw[show ((0:Nat):Int)=0 from rfl] at hl;unfold drought_shared_binds.f drought_below.f;rw[if_pos ⟨ht.n,ht.o,by omega,by omega,by omega,by omega⟩,Option.bind_some,binds_eq,List.range_eq_range']
  cases hb:belB N O i n with
  |false=>
    rw[if_neg (by simp)];simp[drought_shared_binds.j0]
  |true=>
    rw[if_pos rfl,tightC_f h hs h0 h1,Option.bind_some]
    cases hc:tightB I N O s n with
    |false=>simp[drought_shared_binds.j0]
    |true=>
      simp only[drought_shared_binds.j0,Bool.not_true,Bool.false_eq_true,if_false,Bool.true_and];rw[if_pos i0,if_pos i1];exact hl
theorem lawC_f (h:treeB I N O=true):drought_law.f I N O I=some (I,N,O,lawF I N O):=by
  have ht:=tree_ok h;have h2:=ht.nl;have h3:=ht.ol;unfold drought_law.f;rw[if_pos (by unfold treeOk;simp[ht.n,ht.o];omega)]
theorem isTreeC_f (hN:N.length≤1000) (hO:O.length≤1000):drought_isTree.f I N O=some (treeB I N O):=by
  unfold drought_isTree.f;rw[if_pos ⟨by omega,by omega⟩]
theorem inC_f (a lo hi:Int):drought_in.f a lo hi=some (inB a lo hi):=by
  unfold drought_in.f inB
  by_cases h:a≥lo
  · rw[if_pos h];simp[h]
  · rw[if_neg h];simp;omega
theorem isOutletC_f (hO:O.length≤1000) (a:Int):drought_isOutlet.f I N O a=some (inB a 0 (O.length-1)):=by
  unfold drought_isOutlet.f;rw[inC_f,sml (by omega) (by omega)];rfl
theorem isNodeC_f (a:Int):drought_isNode.f I N O a=some (inB a 0 N.length):=by
  unfold drought_isNode.f;rw[inC_f];rfl
theorem bindsC_f (hN:N.length≤1000) (hO:O.length≤1000) (i n:Int) (K:Nat) (hK:1000≤K):drought_Binds.f K I N O i n=some (if (treeB I N O&&inB i 0 (O.length-1)&&inB n 0 N.length)=true then(bindsB I N O (lawF I N O) i n,0) else(false,2)):=by
  obtain⟨K,rfl⟩:∃k,K=k+1:=⟨K-1,by omega⟩;unfold drought_Binds.f;rw[isTreeC_f hN hO,Option.bind_some]
  cases h1:treeB I N O with
  |false=>rw[if_neg (by simp)];rfl
  |true=>
    rw[if_pos rfl,isOutletC_f hO,Option.bind_some]
    cases h2:inB i 0 (O.length-1) with
    |false=>rw[if_neg (by simp)];rfl
    |true=>
      rw[if_pos rfl,isNodeC_f,Option.bind_some]
      cases h3:inB n 0 N.length with
      |false=>rfl
      |true=>
        obtain⟨i0,i1⟩:=inB_t.mp h2;obtain⟨n0,n1⟩:=inB_t.mp h3;simp only[drought_Binds.j0,Bool.not_true,Bool.false_eq_true,if_false,Bool.true_and,if_true];rw[lawC_f h1,Option.bind_some];simp only[];rw[bindsS_f h1 (law_are h1) i0 (by omega) n0 n1 K (by omega),Option.bind_some]
def firstB (p:Int→Bool):Nat→Int→Option Int
  |0,_=>none
  |d+1,n=>if p n=true then some n else firstB p d (n+1)
def whyC:Option Int→Int×Int
  |some n=>(n,0)
  |none=>(0,5)
def whyR:Option Int→Int×Bool
  |some n=>(n,true)
  |none=>(0,false)
theorem why_l0 (h:treeB I N O=true) {i:Int} (i0:0≤i) (i1:i<O.length):∀(d:Nat) (n:Int) (K:Nat),0≤n→n+d=N.length+1→d+200≤K→drought_Why.l0 K i ((N.length:Int)+1) n I N O (lawF I N O)=some (whyC (firstB (bindsB I N O (lawF I N O) i) d n))
  |0,n,K+1,h0,hd,hK=>by
    unfold drought_Why.l0;rw[if_neg (by omega)]
    rfl
  |d+1,n,K+1,h0,hd,hK=>by
    have h2:=(tree_ok h).nl;unfold drought_Why.l0;rw[if_pos (by omega),bindsS_f h (law_are h) i0 i1 h0 (by omega) K (by omega),Option.bind_some,sml (by omega) (by omega),why_l0 h i0 i1 d (n+1) K (by omega) (by omega) (by omega)];simp only[firstB]
    split<;>rfl
theorem whyR_l0 (h:treeB I N O=true) {i:Int} (i0:0≤i) (i1:i<O.length):∀(d:Nat) (n:Int) (K:Nat),0≤n→n+d=N.length+1→d+140000≤K→quinariaref07_Why.l0 K i n I N O=some (whyR (firstB (bindsB I N O (lawF I N O) i) d n))
  |0,n,K+1,h0,hd,hK=>by
    unfold quinariaref07_Why.l0;rw[if_neg (by omega)]
    rfl
  |d+1,n,K+1,h0,hd,hK=>by
    have h2:=(tree_ok h).nl;unfold quinariaref07_Why.l0;rw[if_pos (by omega),bindsR_f h i0 i1 h0 (by omega) K (by omega),Option.bind_some,sml (by omega) (by omega),whyR_l0 h i0 i1 d (n+1) K (by omega) (by omega) (by omega)];simp only[firstB]
    split<;>rfl
def whyF (I:Int) (N:List SN) (O:List SO) (i:Int):Option Int:=if rd (lawF I N O) i<(rdO O i).f1 then firstB (bindsB I N O (lawF I N O) i) (N.length+1) 0 else none
theorem whyC_f (hN:N.length≤1000) (hO:O.length≤1000) (i:Int) (K:Nat) (hK:1000≤K):drought_Why.f K I N O i=some (if (treeB I N O&&inB i 0 (O.length-1))=true then whyC (whyF I N O i) else(0,2)):=by
  obtain⟨K,rfl⟩:∃k,K=k+1:=⟨K-1,by omega⟩;unfold drought_Why.f;rw[isTreeC_f hN hO,Option.bind_some]
  cases h1:treeB I N O with
  |false=>rw[if_neg (by simp)];rfl
  |true=>
    rw[if_pos rfl,isOutletC_f hO,Option.bind_some]
    cases h2:inB i 0 (O.length-1) with
    |false=>rfl
    |true=>
      obtain⟨i0,i1⟩:=inB_t.mp h2;have hl:=law_len h1;have h4:=(tree_ok h1).nl;simp only[drought_Why.j0,Bool.not_true,Bool.false_eq_true,if_false,Bool.true_and,if_true];rw[lawC_f h1,Option.bind_some];simp only[];rw[if_pos i0,if_pos (by omega),if_pos (by omega)];unfold whyF
      by_cases hc:rd (lawF I N O) i<(rdO O i).f1
      · rw[if_pos hc,if_pos hc,sml (by omega) (by omega),why_l0 h1 i0 (by omega) (N.length+1) 0 K (by omega) (by omega) (by omega)]
      · rw[if_neg hc,if_neg hc];rfl
theorem whyR_f (h:treeB I N O=true) {i:Int} (i0:0≤i) (i1:i<O.length) (K:Nat) (hK:150000≤K):quinariaref07_Why.f K I N O i=some (whyR (whyF I N O i)):=by
  have hl:=law_len h;have h2:=(tree_ok h).nl;unfold quinariaref07_Why.f;rw[shares_f h K (by omega),Option.bind_some,if_pos i0,if_pos (by omega),if_pos i1];obtain⟨ii,rfl⟩:∃ii:Nat,i=ii:=⟨i.toNat,by omega⟩;have hm:=(are_iff.mp (law_are h)).2 ii (by omega);unfold whyF
  by_cases hc:rd (lawF I N O) (ii:Int)=(rdO O (ii:Int)).f1
  · rw[if_pos hc,if_neg (by omega)];rfl
  · rw[if_neg hc,if_pos (by omega),whyR_l0 h i0 i1 (N.length+1) 0 K (by omega) (by omega) (by omega)]
end Rf
end Go.Proofs.YtjioobfeikbffaaGreatDoor.K
end
section
namespace Go.Proofs.YtjioobfeikbffaaGreatDoor.K
open Go.RowKit Go.Deep Go.ChangeShapes Go.WideShapes Go.ChangeAt Go.Proofs.YtjioobfeikbffaaGreatDoorW.PrintWords Go.Proofs.YtjioobfeikbffaaGreatDoorW.PrintLast Go.Proofs.YtjioobfeikbffaaGreatDoorW.PrintMore
set_option maxRecDepth 100000
section
variable {H:Type} {enc:TypeId×Value→H} {w:World} {base:Nat} {spare:Nat→Bool} {held:Bool} {fuel:Nat} {cs:List Value} {x:DataW H×List MemPlace}
theorem list1 {α:Type} {l:List α} (h:l.length=1):∃a,l=[a]:=by
  cases l with
  |nil=>cases h
  |cons a l=>cases l with
    |nil=>exact⟨a,rfl⟩
    |cons b l=>simp at h
theorem list_succ {α:Type} {l:List α} {n:Nat} (h:l.length=n+1):∃a m,l=a::m∧m.length=n:=by
  cases l with
  |nil=>simp at h
  |cons a m=>exact⟨a,m,rfl,by simpa using h⟩
theorem el_int {fuel:Nat} {cs:List Value} {x:DataW H×List MemPlace} (h:DataW.trod enc Tryz.prog w base spare held fuel 3 cs=some x):∃z:Int,cs=[.int .i64 z]:=by
  obtain⟨z,e,_⟩:=DataW.trod_int Tryz.underlying3 h;exact⟨z,e⟩
theorem some_at {α:Type} {xs:List α} {i:Nat} (h:i<xs.length):∃y,xs[i]? =some y:=⟨_,List.getElem?_eq_getElem h⟩
theorem choose_list {α:Type} {P:Nat→α→Prop}:∀n:Nat,(∀ j,j<n→∃a,P j a)→∃xs:List α,xs.length=n∧∀j p,xs[j]? =some p→P j p
  |0,_=>⟨[],rfl,fun j p h=>by simp at h⟩
  |n+1,h=>by
    obtain⟨xs,hl,hx⟩:=choose_list n (fun j hj=>h j (by omega));obtain⟨a,ha⟩:=h n (by omega);refine⟨xs++[a],by simp[hl],fun j p hp=>?_⟩
    by_cases hj:j<xs.length
    · rw[List.getElem?_append_left hj] at hp;exact hx j p hp
    · rw[List.getElem?_append_right (by omega)] at hp
      have:j=n:=by
        have:=(List.getElem?_eq_some_iff.1 hp).1;simp at this;omega
      subst this;rw[hl,Nat.sub_self] at hp;obtain rfl:a=p:=by simpa using hp
      exact ha
theorem open_rows {α:Type} (d:Kd α) {t e:TypeId} {fuel:Nat} {cs:List Value} {x:DataW H×List MemPlace} (encs:α→List Value) (ht:Tryz.prog.underlying t=some (.slice e)) (hsz:Tryz.prog.cellsOf e=d.sz) (hn:∀a,(encs a).length=d.sz) (h0:0<d.sz) (hK:∀a,d.K w a (encs a))
    (hel:∀(fuel:Nat) (cs:List Value) (x:DataW H×List MemPlace),DataW.trod enc Tryz.prog w base spare held fuel e cs=some x→∃a,cs=encs a) (h:DataW.trod enc Tryz.prog w base spare held fuel t cs=some x):
    ∃(A:Option Addr) (xs:List α) (c:Nat),cs=[.slice A xs.length c]∧Kd.C d w A xs.length xs∧xs.length≤c∧xs.length≤maxLen:=by
  rcases open_slice ht h with⟨rfl,_⟩|⟨a,len,cap,m,n,D,Pl,rfl,_,hl,hm,hmm,_,hall⟩
  · exact⟨none,[],0,rfl,⟨rfl,by simp,fun h=>absurd h (by simp)⟩,Nat.le_refl _,Nat.zero_le _⟩
  · have hlm:len≤m:=by rw[hmm];split<;>omega
    obtain⟨xs,hxl,hx⟩:=choose_list (P:=fun j (p:α)=>w.cells? base (a.add (j*d.sz)) d.sz=some (encs p)) len (fun j hj=>by
      obtain⟨cs',h1,h2⟩:=hall j (by omega);obtain⟨p,rfl⟩:=hel _ _ _ h2;rw[hsz] at h1
      exact⟨p,h1⟩)
    refine⟨some a,xs,cap,by rw[hxl],⟨rfl,by rw[hxl];unfold maxLen at hm;omega,fun _=>⟨a,rfl,fun j p hp=>⟨encs p,hn p,hK p,fun i u hi=>?_⟩⟩⟩,by omega,by omega⟩;have h1:=World.cells?_some (hx j p hp);have hi':i<d.sz:=by have:=(List.getElem?_eq_some_iff.1 hi).1;rw[hn] at this;exact this
    have h2:=h1.2.2 i hi';rw[hi] at h2
    have h3:a.add (j*d.sz+i)=(a.add (j*d.sz)).add i:=by
      unfold Addr.add
      by_cases e1:j*d.sz=0<;>by_cases e2:i=0<;>simp[e1,e2]<;>omega
    rw[h3];exact h2
theorem el_node {fuel:Nat} {cs:List Value} {x:DataW H×List MemPlace} (h:DataW.trod enc Tryz.prog w base spare held fuel 85 cs=some x):∃s:S85,cs=[.int .i64 s.f0,.int .i64 s.f1]:=by
  obtain⟨xs,n,-,-,hl,hx,hf⟩:=DataW.trod_struct Tryz.underlying85 h;rw[show Tryz.prog.cellsOf 85=2 by kernel_rfl] at hl;obtain⟨a,m1,rfl,hl1⟩:=list_succ hl;obtain⟨b,rfl⟩:=list1 hl1;have hx:xs.length=2:=hx;obtain⟨y0,h0⟩:=some_at (xs:=xs) (i:=0) (by omega);obtain⟨y1,h1⟩:=some_at (xs:=xs) (i:=1) (by omega);have f0:=(hf 0 _ rfl).trans h0;have f1:=(hf 1 _ rfl).trans h1
  change DataW.trod enc Tryz.prog w base spare held n 3 (([a,b].drop 0).take (Tryz.prog.cellsOf 3))=_ at f0
  rw[show Tryz.prog.cellsOf 3=1 by kernel_rfl] at f0;replace f0:DataW.trod enc Tryz.prog w base spare held n 3 [a]=_:=f0
  change DataW.trod enc Tryz.prog w base spare held n 3 (([a,b].drop 1).take (Tryz.prog.cellsOf 3))=_ at f1
  rw[show Tryz.prog.cellsOf 3=1 by kernel_rfl] at f1;replace f1:DataW.trod enc Tryz.prog w base spare held n 3 [b]=_:=f1;obtain⟨z0,e0⟩:=el_int f0;obtain⟨z1,e1⟩:=el_int f1
  cases e0
  cases e1
  exact⟨⟨z0,z1⟩,rfl⟩
theorem el_outlet {fuel:Nat} {cs:List Value} {x:DataW H×List MemPlace} (h:DataW.trod enc Tryz.prog w base spare held fuel 50 cs=some x):∃s:S50,cs=[.int .i64 s.f0,.int .i64 s.f1,.int .i64 s.f2]:=by
  obtain⟨xs,n,-,-,hl,hx,hf⟩:=DataW.trod_struct Tryz.underlying50 h;rw[show Tryz.prog.cellsOf 50=3 by kernel_rfl] at hl;obtain⟨a,m1,rfl,hl1⟩:=list_succ hl;obtain⟨b,m2,rfl,hl2⟩:=list_succ hl1;obtain⟨c,rfl⟩:=list1 hl2;have hx:xs.length=3:=hx;obtain⟨y0,h0⟩:=some_at (xs:=xs) (i:=0) (by omega);obtain⟨y1,h1⟩:=some_at (xs:=xs) (i:=1) (by omega);obtain⟨y2,h2⟩:=some_at (xs:=xs) (i:=2) (by omega);have f0:=(hf 0 _ rfl).trans h0;have f1:=(hf 1 _ rfl).trans h1;have f2:=(hf 2 _ rfl).trans h2
  change DataW.trod enc Tryz.prog w base spare held n 3 (([a,b,c].drop 0).take (Tryz.prog.cellsOf 3))=_ at f0
  rw[show Tryz.prog.cellsOf 3=1 by kernel_rfl] at f0;replace f0:DataW.trod enc Tryz.prog w base spare held n 3 [a]=_:=f0
  change DataW.trod enc Tryz.prog w base spare held n 3 (([a,b,c].drop 1).take (Tryz.prog.cellsOf 3))=_ at f1
  rw[show Tryz.prog.cellsOf 3=1 by kernel_rfl] at f1;replace f1:DataW.trod enc Tryz.prog w base spare held n 3 [b]=_:=f1
  change DataW.trod enc Tryz.prog w base spare held n 3 (([a,b,c].drop 2).take (Tryz.prog.cellsOf 3))=_ at f2
  rw[show Tryz.prog.cellsOf 3=1 by kernel_rfl] at f2;replace f2:DataW.trod enc Tryz.prog w base spare held n 3 [c]=_:=f2;obtain⟨z0,e0⟩:=el_int f0;obtain⟨z1,e1⟩:=el_int f1;obtain⟨z2,e2⟩:=el_int f2
  cases e0
  cases e1
  cases e2
  exact⟨⟨z0,z1,z2⟩,rfl⟩
theorem rows_nodes {fuel:Nat} {cs:List Value} {x:DataW H×List MemPlace} (h:DataW.trod enc Tryz.prog w base spare held fuel 22 cs=some x):∃(A:Option Addr) (xs:List S85) (c:Nat),cs=[.slice A xs.length c]∧At' k85 w A xs.length c xs:=by
  obtain⟨A,xs,c,h1,h2,h3,_⟩:=open_rows k85 (fun s=>[.int .i64 s.f0,.int .i64 s.f1]) Tryz.underlying22 (by kernel_rfl) (fun _=>rfl) (by decide) (fun s=>k85_mk w s) (fun _ _ _ h=>el_node h) h;exact⟨A,xs,c,h1,h2,h3⟩
theorem rows_outlets {fuel:Nat} {cs:List Value} {x:DataW H×List MemPlace} (h:DataW.trod enc Tryz.prog w base spare held fuel 23 cs=some x):∃(A:Option Addr) (xs:List S50) (c:Nat),cs=[.slice A xs.length c]∧At' k50 w A xs.length c xs:=by
  obtain⟨A,xs,c,h1,h2,h3,_⟩:=open_rows k50 (fun s=>[.int .i64 s.f0,.int .i64 s.f1,.int .i64 s.f2]) Tryz.underlying23 (by kernel_rfl) (fun _=>rfl) (by decide) (fun s=>k50_mk w s) (fun _ _ _ h=>el_outlet h) h;exact⟨A,xs,c,h1,h2,h3⟩
theorem agg_list {cs:Array Value} {l:List Value} (h:cs.toList=l):cs=l.toArray:=by rw[← h]
theorem open_tree {v:Value} {dd:DataW H} {p:List MemPlace} (hv:Value.okWide Tryz.prog w .any base 25 v) (h:DataW.Trod enc Tryz.prog w 0 spare held 25 v dd p):
    ∃(I:Int) (A0:Option Addr) (N:List S85) (c0:Nat) (A1:Option Addr) (O:List S50) (c1:Nat),v=.agg #[.int .i64 I,.slice A0 N.length c0,.slice A1 O.length c1]∧At' k85 w A0 N.length c0 N∧At' k50 w A1 O.length c1 O:=by
  obtain⟨cs,rfl,-⟩:=okWide_struct Tryz.underlying25 hv;obtain⟨fuel,h⟩:=h;obtain⟨xs,n,-,-,hl,hx,hf⟩:=DataW.trod_struct Tryz.underlying25 h;rw[show Tryz.prog.cellsOf 25=3 by kernel_rfl] at hl;obtain⟨a,m1,e1,hl1⟩:=list_succ hl;obtain⟨b,m2,rfl,hl2⟩:=list_succ hl1;obtain⟨c,rfl⟩:=list1 hl2;rw[e1] at hf;have hx:xs.length=3:=hx;obtain⟨y0,h0⟩:=some_at (xs:=xs) (i:=0) (by omega);obtain⟨y1,h1⟩:=some_at (xs:=xs) (i:=1) (by omega);obtain⟨y2,h2⟩:=some_at (xs:=xs) (i:=2) (by omega);have f0:=(hf 0 _ rfl).trans h0;have f1:=(hf 1 _ rfl).trans h1;have f2:=(hf 2 _ rfl).trans h2
  change DataW.trod enc Tryz.prog w 0 spare held n 3 (([a,b,c].drop 0).take (Tryz.prog.cellsOf 3))=_ at f0
  rw[show Tryz.prog.cellsOf 3=1 by kernel_rfl] at f0;replace f0:DataW.trod enc Tryz.prog w 0 spare held n 3 [a]=_:=f0
  change DataW.trod enc Tryz.prog w 0 spare held n 22 (([a,b,c].drop 1).take (Tryz.prog.cellsOf 22))=_ at f1
  rw[show Tryz.prog.cellsOf 22=1 by kernel_rfl] at f1;replace f1:DataW.trod enc Tryz.prog w 0 spare held n 22 [b]=_:=f1
  change DataW.trod enc Tryz.prog w 0 spare held n 23 (([a,b,c].drop 2).take (Tryz.prog.cellsOf 23))=_ at f2
  rw[show Tryz.prog.cellsOf 23=1 by kernel_rfl] at f2;replace f2:DataW.trod enc Tryz.prog w 0 spare held n 23 [c]=_:=f2;obtain⟨z0,k0⟩:=el_int f0;obtain⟨A0,N,c0,k1,g0⟩:=rows_nodes f1;obtain⟨A1,O,c1,k2,g1⟩:=rows_outlets f2
  cases k0
  cases k1
  cases k2
  have e1:cs.toList=_:=e1;exact⟨z0,A0,N,c0,A1,O,c1,by rw[agg_list e1],g0,g1⟩
theorem open_num {v:Value} {dd:DataW H} {p:List MemPlace} (hv:Value.okWide Tryz.prog w .any base 3 v) (h:DataW.Trod enc Tryz.prog w 0 spare held 3 v dd p):∃z:Int,v=.int .i64 z∧(Lit.int .i64 z).wf=true:=by
  obtain⟨n,e,_,hn⟩:=open_int Tryz.underlying3 hv h;exact⟨n,e,hn.2⟩
end
end Go.Proofs.YtjioobfeikbffaaGreatDoor.K
end
