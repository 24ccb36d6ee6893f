/- DroughtSwaps: the walk of the law, and what it comes to. -/
import Derived.Test.YtjioobfeikbffabGreatDoorR6
set_option linter.unusedVariables false
set_option linter.unusedSimpArgs false
section
namespace Go.Proofs.YtjioobfeikbffabGreatDoor.K
open Go.RowKit Go.Proofs.Zw Go.Proofs.Zl Go.Proofs.Zm
attribute [local go_sem] max2_int min2_int max_two min_two max_three min_three max_four min_four
mutual
def q7_slim.l0:Nat→List (List Int)→Int→Option (Bool)
 |0,_,_=>none
 |k+1,x0,x3=>if x3<(x0.length:Int) then(q7_slim.j1 k x0 x3 (decide (x3<14))) else(q7_slim.j1 k x0 x3 false)
def q7_slim.j1:Nat→List (List Int)→Int→Bool→Option (Bool)
 |0,_,_,_=>none
 |k+1,x0,x3,x11=>if x11=true then(if 0≤x3 then(if x3<(x0.length:Int) then(if ((rd_L5 x0 x3).length:Int)>10 then(some false) else(q7_slim.l0 k x0 (wrap64 (x3+1)))) else(none)) else(none)) else(some (decide ((x0.length:Int)≤12)))
end
def q7_slim.f (k:Nat) (l0:List (List Int)):Option (Bool):=q7_slim.l0 k l0 0
set_option maxHeartbeats 8000000 in
set_option maxRecDepth 100000 in
theorem q7_slim.calls (k:Nat) (A0:Option Addr) (c0:Nat) (l0:List (List Int)) (r:Bool) (w:World) (hr0:Kd.C (Kd.slice 3 (Kd.int .i64)) w A0 l0.length l0) (hc0:l0.length≤c0) (h:q7_slim.f k l0=some r):
  Calls Tryz.prog 25 #[.slice A0 l0.length c0] w fun e w'=>e=.returned (.bool r)∧Drawn0 w w':=by
 have HR0:=aM hr0;have HC0:=aM hc0;clear hr0 hc0;have H:(q7_slim.l0 k l0 0)=some r:=h;clear h;have H':=aM H;clear H
 go_enter Tryz.func25,Tryz.ntmps25
 go_wp2
 go_loopg [3] k (fun kq v3 w'=>∃(x3_1:Int),v3=.int .i64 x3_1∧Aside0 (q7_slim.l0 kq l0 x3_1=some r)∧Aside0 (kq≤k)∧Drawn0 w w')
 case atStart=>exact⟨(0),u0,H',⟨Nat.le_refl _⟩,by repeat(first|exact Drawn0.refl _|apply Drawn0.step)⟩
 case round=>
  clear H';obtain⟨x3_1,rfl,HA,HK1,⟨m1,rfl⟩⟩:=hrel
  cases gk with
  |zero=>exact absurd HA.out (by simp[q7_slim.l0])
  |succ k1=>
   have H:=HA.out;clear HA;simp only[q7_slim.l0] at H;have HC2:=aM H;clear H
   go_upto_region 2 with(fail)
   go_cut [11] (fun v11 wc=>∃(kq:Nat) (x11_1:Bool),v11=.bool x11_1∧Aside0 (q7_slim.j1 kq l0 x3_1 x11_1=some r)∧Aside0 (kq≤k1)∧Drawn0 w wc)
   case first=>
    have H:=HC2.out;clear HC2
    by_cases c3:x3_1<(l0.length:Int)
    ·rw[if_pos c3] at H;replace c3:=decide_eq_true c3;(first|rw[c3b0]|(simp only[i64_w,i32_w];rw[c3b0])|skip);have H':=aM H;clear H;go_wp2
     go_meet
     case rel=>exact⟨_,(decide (x3_1<14)),u0,H',⟨by have:=HK1.out;first|omega|exact Nat.le_refl _⟩,by repeat(first|exact Drawn0.refl _|apply Drawn0.step)⟩
    ·rw[if_neg c3] at H;replace c3:=decide_eq_false c3;(first|rw[c3b0]|(simp only[i64_w,i32_w];rw[c3b0])|skip);have H':=aM H;clear H;go_wp2
     go_meet
     case rel=>exact⟨_,(false),u0,H',⟨by have:=HK1.out;first|omega|exact Nat.le_refl _⟩,by repeat(first|exact Drawn0.refl _|apply Drawn0.step)⟩
   case rest=>
    clear HC2;try clear c2;try clear p2;try clear c3;try clear c3b0
    obtain⟨kq,x11_1,rfl,HA,HJ1,⟨mc1,rfl⟩⟩:=hcut
    cases kq with
    |zero=>exact absurd HA.out (by simp[q7_slim.j1])
    |succ kj1=>
     have H:=HA.out;clear HA;simp only[q7_slim.j1] at H
     by_cases c4:x11_1=true
     ·subst c4;have H1:(if 0≤x3_1 then(if x3_1<(l0.length:Int) then(if ((rd_L5 l0 x3_1).length:Int)>10 then(some false) else(q7_slim.l0 kj1 l0 (wrap64 (x3_1+1)))) else(none)) else(none))=some r:=by rw[if_pos rfl] at H;exact H
      clear H;have H:=H1;clear H1;obtain⟨c5,H⟩:=ifs H;replace c5:=decide_eq_true c5;obtain⟨c6,H⟩:=ifs H;replace c6:=decide_eq_true c6
      by_cases c7:((rd_L5 l0 x3_1).length:Int)>10
      ·rw[if_pos c7] at H;have c7b0:decide (10<((rd_L5 l0 x3_1).length:Int))=true:=decide_eq_true c7;have c7b1:decide (10<(rd_L5 l0 x3_1).length)=true:=decide_eq_true (by omega);clear c7;obtain rfl:=Option.some.inj H;have p669:0≤(x3_1:Int):=uD;have q669:x3_1<(l0.length:Int):=uD;obtain⟨ad669,A669_0,c669_0,e669,hx669_0,hl669_0,hi669_0⟩:=at_L5 HR0.out x3_1 p669 q669
       cases e669
       have HR669_0:=aM hi669_0;have HC669_0:=aM hl669_0;clear hi669_0 hl669_0;replace p669:=eq_true p669;replace q669:=eq_true q669;go_wp2;go_ret;exact⟨u0,by repeat(first|exact Drawn0.refl _|apply Drawn0.step)⟩
      ·rw[if_neg c7] at H;have c7b0:decide (10<((rd_L5 l0 x3_1).length:Int))=false:=decide_eq_false c7;have c7b1:decide (10<(rd_L5 l0 x3_1).length)=false:=decide_eq_false (by omega);clear c7;have H':=aM H;clear H;have p669:0≤(x3_1:Int):=uD;have q669:x3_1<(l0.length:Int):=uD;obtain⟨ad669,A669_0,c669_0,e669,hx669_0,hl669_0,hi669_0⟩:=at_L5 HR0.out x3_1 p669 q669
       cases e669
       have HR669_0:=aM hi669_0;have HC669_0:=aM hl669_0;clear hi669_0 hl669_0;replace p669:=eq_true p669;replace q669:=eq_true q669;go_wp2
       go_roundg kj1
       case measure=>have:=HK1.out;have:=HJ1.out;omega
       case rel=>exact⟨(wrap64 (x3_1+1)),u0,H',⟨by have:=HK1.out;have:=HJ1.out;omega⟩,by repeat(first|exact Drawn0.refl _|apply Drawn0.step)⟩
     ·replace c4:=Bool.eq_false_iff.mpr c4;subst c4;have H1:(some (decide ((l0.length:Int)≤12)))=some r:=by rw[if_neg (show ¬(false=true) by decide)] at H;exact H
      clear H;have H:=H1;clear H1;obtain rfl:=Option.some.inj H;go_wp2;go_ret;exact⟨u0,by repeat(first|exact Drawn0.refl _|apply Drawn0.step)⟩
mutual
def r7_Plan.l0:Nat→List (List Int)→Int→Int→List (S77)→List (S51)→Option (Bool)
 |0,_,_,_,_,_=>none
 |k+1,x1,x5,x671000,x671001,x671002=>if x5<(x1.length:Int) then(r7_Plan.l1 k x1 x5 0 x671000 x671001 x671002) else(some (decide ((x1.length:Int)≤10)))
def r7_Plan.l1:Nat→List (List Int)→Int→Int→Int→List (S77)→List (S51)→Option (Bool)
 |0,_,_,_,_,_,_=>none
 |k+1,x1,x5,x6,x671000,x671001,x671002=>if 0≤x5 then(if x5<(x1.length:Int) then(if x6<((rd_L5 x1 x5).length:Int) then(if 0≤x6 then((r7_Outlet.f x671000 x671001 x671002 (rd (rd_L5 x1 x5) x6)).bind fun t674=>(if t674=true then(if x6>0 then(if 0≤(wrap64 (x6-1)) then(if (wrap64 (x6-1))<((rd_L5 x1 x5).length:Int) then(if (rd (rd_L5 x1 x5) x6)≤(rd (rd_L5 x1 x5) (wrap64 (x6-1))) then(some false) else(r7_Plan.l1 k x1 x5 (wrap64 (x6+1)) x671000 x671001 x671002)) else(none)) else(none)) else(r7_Plan.l1 k x1 x5 (wrap64 (x6+1)) x671000 x671001 x671002)) else(some false))) else(none)) else(r7_Plan.l0 k x1 (wrap64 (x5+1)) x671000 x671001 x671002)) else(none)) else(none)
end
def r7_Plan.f (k:Nat) (a0_0:Int) (l0_1:List (S77)) (l0_2:List (S51)) (l1:List (List Int)):Option (Bool):=r7_Plan.l0 k l1 0 a0_0 l0_1 l0_2
def r7_Plan.T7:Bool×List (List Nat×List Nat):=(true,[([],[]),([],[]),([],[]),([1,2],[1,2]),([3],[3]),([],[]),([4,5],[4,5]),([6],[6]),([0,7],[0,7]),([8],[8]),([9,8],[9]),([10],[10]),([11,10],[10,11]),([12,10,10],[10,12]),([13],[13]),([13],[13]),([14,15,13],[13,14,15]),([16,13],[13,16]),([13],[13]),([17,18,13],[13,17,18]),([19,13],[13,19]),([13],[13]),([13],[13]),([21,22,13],[13,21,22]),([23,13],[13,23]),([13],[13]),([25,13],[13,25]),([24,26,13],[13,24,26]),([27,13],[13,27]),([20,28,13],[13,20,28]),([13,29,10],[10,13,29]),([10,30],[10,30])])
def r7_Plan.B7:List Nat:=[0,0,0,6,14,0,62,126,255,511,1023,2047,4095,8191,16383,16383,65535,131071,16383,524287,1048575,16383,16383,6307839,14696447,16383,33570815,132136959,266354687,536870911,1073741823,2147483647]
theorem r7_Plan.tab7:rtab .any (opsOf Tryz.f27 7)=r7_Plan.T7:=by kernel_rfl
theorem r7_Plan.bits7:waitsOk r7_Plan.T7.2 r7_Plan.B7=true:=by kernel_rfl
set_option maxHeartbeats 8000000 in
set_option maxRecDepth 100000 in
theorem r7_Plan.calls (k:Nat) (a0_0:Int) (A0_1:Option Addr) (c0_1:Nat) (l0_1:List (S77)) (A0_2:Option Addr) (c0_2:Nat) (l0_2:List (S51)) (A1:Option Addr) (c1:Nat) (l1:List (List Int)) (r:Bool) (w:World) (hr0_1:Kd.C k77 w A0_1 l0_1.length l0_1) (hc0_1:l0_1.length≤c0_1) (hr0_2:Kd.C k51 w A0_2 l0_2.length l0_2) (hc0_2:l0_2.length≤c0_2) (hr1:Kd.C (Kd.slice 3 (Kd.int .i64)) w A1 l1.length l1) (hc1:l1.length≤c1) (h:r7_Plan.f k a0_0 l0_1 l0_2 l1=some r):
  Calls Tryz.prog 27 #[.agg #[.int .i64 a0_0,.slice A0_1 l0_1.length c0_1,.slice A0_2 l0_2.length c0_2],.slice A1 l1.length c1] w fun e w'=>e=.returned (.bool r)∧Below w.heap.size w w':=by
 have hu25:=Tryz.underlying25;have HR0_1:=aM hr0_1;have HC0_1:=aM hc0_1;clear hr0_1 hc0_1;have HR0_2:=aM hr0_2;have HC0_2:=aM hc0_2;clear hr0_2 hc0_2;have HR1:=aM hr1;have HC1:=aM hc1;clear hr1 hc1;have HB:=aM (Below.refl w.heap.size w);have H:(r7_Plan.l0 k l1 0 a0_0 l0_1 l0_2)=some r:=h;clear h;have H':=aM H;clear H
 go_enter Tryz.func27,Tryz.ntmps27
 go_wp2_with (first|((with_reducible refine gate_dst (N:=2) rfl ?_);refine bxe 2 #[.int .i64 a0_0,.slice A0_1 l0_1.length c0_1,.slice A0_2 l0_2.length c0_2] 25 ?_;intro gb670 hg w3 hbox hb;have n0_:=aM (below_step uB hb);have n1_:=aM (hbox);have n2_:=gw hg;have n3_:=gw hg;clear HB;have HB:=n0_;have BK670:=n1_;have GW670:=n2_;have GE670:=n3_;clear n0_ n1_ n2_ n3_;clear hb hbox hg))
 go_loopg [5] k (fun kq v5 w'=>∃(x5_1:Int),v5=.int .i64 x5_1∧Aside0 (r7_Plan.l0 kq l1 x5_1 a0_0 l0_1 l0_2=some r)∧Aside0 (kq≤k)∧Aside0 (w'.heap[gb670]? =some (.cells #[.int .i64 a0_0,(.slice A0_1 l0_1.length c0_1),(.slice A0_2 l0_2.length c0_2)] 25 (0,0)))∧Aside0 (Below w.heap.size w w'))
 case atStart=>exact⟨(0),u0,H',⟨Nat.le_refl _⟩,⟨uK BK670.out⟩,⟨uB⟩⟩
 case round=>
  clear H';obtain⟨x5_1,rfl,HA,HK1,BK670,HB⟩:=hrel
  cases gk with
  |zero=>exact absurd HA.out (by simp[r7_Plan.l0])
  |succ k1=>
   have H:=HA.out;clear HA;simp only[r7_Plan.l0] at H
   by_cases c4:x5_1<(l1.length:Int)
   ·rw[if_pos c4] at H;replace c4:=decide_eq_true c4;have H':=aM H;clear H;go_wp2
    go_loopg [6] k1 (fun kq v6 w'=>∃(x6_2:Int),v6=.int .i64 x6_2∧Aside0 (r7_Plan.l1 kq l1 x5_1 x6_2 a0_0 l0_1 l0_2=some r)∧Aside0 (kq≤k1)∧Aside0 (w'.heap[gb670]? =some (.cells #[.int .i64 a0_0,(.slice A0_1 l0_1.length c0_1),(.slice A0_2 l0_2.length c0_2)] 25 (0,0)))∧Aside0 (Below w.heap.size w w'))
    case atStart=>exact⟨(0),u0,H',⟨Nat.le_refl _⟩,⟨uK BK670.out⟩,⟨uB⟩⟩
    case round=>
     clear H';obtain⟨x6_2,rfl,HA,HK2,BK670,HB⟩:=hrel
     cases gk with
     |zero=>exact absurd HA.out (by simp[r7_Plan.l1])
     |succ k2=>
      have H:=HA.out;clear HA;simp only[r7_Plan.l1] at H;obtain⟨c5,H⟩:=ifs H;replace c5:=decide_eq_true c5;obtain⟨c6,H⟩:=ifs H;replace c6:=decide_eq_true c6
      by_cases c7:x6_2<((rd_L5 l1 x5_1).length:Int)
      ·rw[if_pos c7] at H;replace c7:=decide_eq_true c7;obtain⟨c8,H⟩:=ifs H;replace c8:=decide_eq_true c8;replace H:=Option.bind_eq_some_iff.mp H;obtain⟨t674,A90,H⟩:=H;replace H:(if t674=true then(if x6_2>0 then(if 0≤(wrap64 (x6_2-1)) then(if (wrap64 (x6_2-1))<((rd_L5 l1 x5_1).length:Int) then(if (rd (rd_L5 l1 x5_1) x6_2)≤(rd (rd_L5 l1 x5_1) (wrap64 (x6_2-1))) then(some false) else(r7_Plan.l1 k2 l1 x5_1 (wrap64 (x6_2+1)) a0_0 l0_1 l0_2)) else(none)) else(none)) else(r7_Plan.l1 k2 l1 x5_1 (wrap64 (x6_2+1)) a0_0 l0_1 l0_2)) else(some false))=some r:=H;have A9:=aM A90;clear A90
       by_cases c10:t674=true
       ·subst c10;have H1:(if x6_2>0 then(if 0≤(wrap64 (x6_2-1)) then(if (wrap64 (x6_2-1))<((rd_L5 l1 x5_1).length:Int) then(if (rd (rd_L5 l1 x5_1) x6_2)≤(rd (rd_L5 l1 x5_1) (wrap64 (x6_2-1))) then(some false) else(r7_Plan.l1 k2 l1 x5_1 (wrap64 (x6_2+1)) a0_0 l0_1 l0_2)) else(none)) else(none)) else(r7_Plan.l1 k2 l1 x5_1 (wrap64 (x6_2+1)) a0_0 l0_1 l0_2))=some r:=by rw[if_pos rfl] at H;exact H
        clear H;have H:=H1;clear H1
        by_cases c11:x6_2>0
        ·rw[if_pos c11] at H;replace c11:=decide_eq_true c11;obtain⟨ji12,hji12⟩:∃j_:Int,(wrap64 (x6_2-1))=j_:=⟨_,rfl⟩;replace H:(if 0≤(ji12) then(if (ji12)<((rd_L5 l1 x5_1).length:Int) then(if (rd (rd_L5 l1 x5_1) x6_2)≤(rd (rd_L5 l1 x5_1) (ji12)) then(some false) else(r7_Plan.l1 k2 l1 x5_1 (wrap64 (x6_2+1)) a0_0 l0_1 l0_2)) else(none)) else(none))=some r:=by first|(rw [hji12] at H;exact H)|(simp only[hji12] at H⊢;exact H)
         (try rw[hji12] at A9);have hji12w:(IntKind.i64.wrap (x6_2-1))=ji12:=(i64_w _).trans hji12;obtain⟨c13,H⟩:=ifs H;replace c13:=decide_eq_true c13;obtain⟨c14,H⟩:=ifs H;replace c14:=decide_eq_true c14
         by_cases c15:(rd (rd_L5 l1 x5_1) x6_2)≤(rd (rd_L5 l1 x5_1) (ji12))
         ·rw[if_pos c15] at H;replace c15:=decide_eq_true c15;obtain rfl:=Option.some.inj H;have p671:0≤(x5_1:Int):=uD;have q671:x5_1<(l1.length:Int):=uD;obtain⟨ad671,A671_0,c671_0,e671,hx671_0,hl671_0,hi671_0⟩:=at_L5 HR1.out x5_1 p671 q671
          cases e671
          replace hx671_0:=hcell HB.out hx671_0;have HR671_0:=aM hi671_0;have HC671_0:=aM hl671_0;clear hi671_0 hl671_0;replace p671:=eq_true p671;replace q671:=eq_true q671;(try go_wp2);replace BK670:=aM (blk_drew BK670.out);replace HB:=aM (below_drew1 HB.out);have p672:0≤(x5_1:Int):=uD;have q672:x5_1<(l1.length:Int):=uD;obtain⟨ad672,A672_0,c672_0,e672,hx672_0,hl672_0,hi672_0⟩:=at_L5 HR1.out x5_1 p672 q672;have hw672_0:=hx672_0;obtain rfl:ad671=ad672:=(by injection e672);replace hx672_0:=hcell HB.out hx672_0;have HR672_0:=aM hi672_0;have HC672_0:=aM hl672_0;clear hi672_0 hl672_0;replace p672:=eq_true p672;replace q672:=eq_true q672;have p673:0≤(x6_2:Int):=uD;have q673:x6_2<((rd_L5 l1 x5_1).length:Int):=uD;obtain⟨ad673,e673,hx673_0⟩:=Kd.at_int HR672_0.out x6_2 p673 q673;have hw673_0:=hx673_0
          cases e673
          replace hx673_0:=hcell HB.out hx673_0;replace p673:=eq_true p673;replace q673:=eq_true q673;have p675:0≤(x5_1:Int):=uD;have q675:x5_1<(l1.length:Int):=uD;obtain⟨ad675,A675_0,c675_0,e675,hx675_0,hl675_0,hi675_0⟩:=at_L5 HR1.out x5_1 p675 q675;have hw675_0:=hx675_0;obtain rfl:ad671=ad675:=(by injection e675);replace hx675_0:=hcell HB.out hx675_0;have eb_:=Option.some.inj (hx672_0.symm.trans hx675_0);injection eb_ with ea2_ en2_ ec2_;subst ea2_;subst ec2_;clear en2_;have HR675_0:=aM hi675_0;have HC675_0:=aM hl675_0;clear hi675_0 hl675_0;replace p675:=eq_true p675;replace q675:=eq_true q675;have p676:0≤(x6_2:Int):=uD;have q676:x6_2<((rd_L5 l1 x5_1).length:Int):=uD;obtain⟨adQ,e676,hx676_0⟩:=Kd.at_int HR675_0.out x6_2 p676 q676;have hw676_0:=hx676_0
          cases e676
          replace hx676_0:=hcell HB.out hx676_0;replace p676:=eq_true p676;replace q676:=eq_true q676;have p677:0≤(x5_1:Int):=uD;have q677:x5_1<(l1.length:Int):=uD;obtain⟨ad677,A677_0,c677_0,e677,hx677_0,hl677_0,hi677_0⟩:=at_L5 HR1.out x5_1 p677 q677;have hw677_0:=hx677_0;obtain rfl:ad671=ad677:=(by injection e677);replace hx677_0:=hcell HB.out hx677_0;have HR677_0:=aM hi677_0;have HC677_0:=aM hl677_0;clear hi677_0 hl677_0;replace p677:=eq_true p677;replace q677:=eq_true q677;have ea_:=Option.some.inj (hx675_0.symm.trans hx677_0);injection ea_ with ea_ en_ ec_;subst ea_;subst ec_;clear en_;have p678:0≤((ji12):Int):=uD;have q678:(ji12)<((rd_L5 l1 x5_1).length:Int):=uD;obtain⟨adR,e678,hx678_0⟩:=Kd.at_int HR677_0.out (ji12) p678 q678;have hw678_0:=hx678_0
          cases e678
          replace hx678_0:=hcell HB.out hx678_0;replace p678:=eq_true p678;replace q678:=eq_true q678;refine start_ (n:=32) (S:=fun w'=>w'.cell? ⟨gb670,0,none⟩=some (.int .i64 a0_0)∧w'.cell? ⟨gb670,1,none⟩=some (.slice A0_1 l0_1.length c0_1)∧w'.cell? ⟨gb670,2,none⟩=some (.slice A0_2 l0_2.length c0_2)∧w'.cell? (ad671.add (x5_1).toNat)=some (.slice (some ad673) (rd_L5 l1 x5_1).length c672_0)∧w'.cell? (ad673.add (x6_2).toNat)=some (.int .i64 (rd (rd_L5 l1 x5_1) x6_2))∧w'.cell? (ad671.add (x5_1).toNat)=some (.slice (some ad673) (rd_L5 l1 x5_1).length c672_0)∧w'.cell? (ad673.add (x6_2).toNat)=some (.int .i64 (rd (rd_L5 l1 x5_1) x6_2))∧w'.cell? (ad671.add (x5_1).toNat)=some (.slice (some ad673) (rd_L5 l1 x5_1).length c672_0)∧w'.cell? (ad673.add ((ji12)).toNat)=some (.int .i64 (rd (rd_L5 l1 x5_1) (ji12)))) (ds:=[]) (bl 32 0) (by kernel_rfl) rfl rfl ⟨(blk_cell BK670.out 0).trans rfl,(blk_cell BK670.out 1).trans rfl,(blk_cell BK670.out 2).trans rfl,(hcell HB.out hw672_0),(hcell HB.out hw673_0),(hcell HB.out hw675_0),(hcell HB.out hw676_0),(hcell HB.out hw677_0),(hcell HB.out hw678_0)⟩ (fun hHeld=>?_);refine with_tabW r7_Plan.tab7 r7_Plan.bits7 (fun HT_ HW_=>?_)
          generalize wr.drew=w16 at BK670 HB HR672_0 HR675_0 HR677_0 hx672_0 hx673_0 hx675_0 hx676_0 hx677_0 hx678_0 hHeld⊢;refine pu 1 23 32 2 ?_;refine pu 2 24 32 6 ?_;refine pu 3 25 32 14 ?_;refine pu 5 27 32 46 ?_;refine tk9 0 22 32 47 hHeld ?_;refine tk9 4 26 32 63 hHeld ?_;refine pu 6 28 32 127 ?_;refine tk9 7 29 32 255 hHeld ?_;refine one_ (i:=8) (N:=some 30) (bl 32 511) rfl rfl (one_of HT_.out (by kernel_rfl)) (by decide) (fun K hK=>?_);refine goes_ Tryz.func15 (by kernel_rfl) rfl #[.agg #[.int .i64 a0_0,.slice A0_1 l0_1.length c0_1,.slice A0_2 l0_2.length c0_2],.int .i64 (rd (rd_L5 l1 x5_1) x6_2)] (by rfl) rfl rfl uM ?_;(with_reducible refine(r7_Outlet.calls a0_0 _ _ l0_1 _ _ l0_2 (rd (rd_L5 l1 x5_1) x6_2) true _ ?side1 ?side2 ?side3 ?side4 A9.out).mono ?_);(case side1=>exact uY HR0_1 HB);(case side2=>exact HC0_1.out);(case side3=>exact uY HR0_2 HB);(case side4=>exact HC0_2.out);rintro e w17 ⟨rfl,hb⟩;refine⟨_,rfl,?_⟩;replace BK670:=aM (blk_below (uK BK670.out) hb);replace HB:=aM (below_step uB hb);(try clear hb);refine hK.out _ _ ⟨(blk_cell BK670.out 0).trans rfl,(blk_cell BK670.out 1).trans rfl,(blk_cell BK670.out 2).trans rfl,(hcell HB.out hw672_0),(hcell HB.out hw673_0),(hcell HB.out hw675_0),(hcell HB.out hw676_0),(hcell HB.out hw677_0),(hcell HB.out hw678_0)⟩ (fun hHeld=>?_);clear hK K;refine nm ?_;refine pu 9 31 32 1023 ?_;refine pu 10 32 32 2047 ?_;refine pu 11 33 32 4095 ?_;refine pu 12 34 32 8191 ?_;refine pu 13 35 32 16383 ?_;refine pu 14 36 32 32767 ?_;refine pu 15 37 32 65535 ?_;refine pu 16 38 32 131071 ?_;refine pu 18 40 32 393215 ?_;refine pu 21 43 32 2490367 ?_;refine pu 22 44 32 6684671 ?_;refine pu 23 45 32 15073279 ?_;refine pu 25 47 32 48627711 ?_;refine pu 26 48 32 115736575 ?_;refine tk9 17 39 32 115867647 hHeld ?_;refine pu 19 41 32 116391935 ?_;refine tk9 20 42 32 117440511 hHeld ?_;refine tk9 24 46 32 134217727 hHeld ?_;refine pu 27 49 32 268435455 ?_;refine tk9 28 50 32 536870911 hHeld ?_;refine pu 29 51 32 1073741823 ?_;refine pu 30 52 32 2147483647 ?_;refine pu 31 53 32 4294967295 ?_;refine done_ (done_of HT_.out (by kernel_rfl)) ?_;(try go_wp2);go_ret;exact⟨by first|rfl|(simp [errW_none,errW_some]<;>rfl)|(simp only[← hji12];first|rfl|(simp [errW_none,errW_some]<;>rfl))|(simp [*,errW_none,errW_some]<;>rfl),uB⟩
         ·rw[if_neg c15] at H;replace c15:=decide_eq_false c15;have H':=aM H;clear H;have p671:0≤(x5_1:Int):=uD;have q671:x5_1<(l1.length:Int):=uD;obtain⟨ad671,A671_0,c671_0,e671,hx671_0,hl671_0,hi671_0⟩:=at_L5 HR1.out x5_1 p671 q671
          cases e671
          replace hx671_0:=hcell HB.out hx671_0;have HR671_0:=aM hi671_0;have HC671_0:=aM hl671_0;clear hi671_0 hl671_0;replace p671:=eq_true p671;replace q671:=eq_true q671;(try go_wp2);replace BK670:=aM (blk_drew BK670.out);replace HB:=aM (below_drew1 HB.out);have p672:0≤(x5_1:Int):=uD;have q672:x5_1<(l1.length:Int):=uD;obtain⟨ad672,A672_0,c672_0,e672,hx672_0,hl672_0,hi672_0⟩:=at_L5 HR1.out x5_1 p672 q672;have hw672_0:=hx672_0;obtain rfl:ad671=ad672:=(by injection e672);replace hx672_0:=hcell HB.out hx672_0;have HR672_0:=aM hi672_0;have HC672_0:=aM hl672_0;clear hi672_0 hl672_0;replace p672:=eq_true p672;replace q672:=eq_true q672;have p673:0≤(x6_2:Int):=uD;have q673:x6_2<((rd_L5 l1 x5_1).length:Int):=uD;obtain⟨ad673,e673,hx673_0⟩:=Kd.at_int HR672_0.out x6_2 p673 q673;have hw673_0:=hx673_0
          cases e673
          replace hx673_0:=hcell HB.out hx673_0;replace p673:=eq_true p673;replace q673:=eq_true q673;have p675:0≤(x5_1:Int):=uD;have q675:x5_1<(l1.length:Int):=uD;obtain⟨ad675,A675_0,c675_0,e675,hx675_0,hl675_0,hi675_0⟩:=at_L5 HR1.out x5_1 p675 q675;have hw675_0:=hx675_0;obtain rfl:ad671=ad675:=(by injection e675);replace hx675_0:=hcell HB.out hx675_0;have eb_:=Option.some.inj (hx672_0.symm.trans hx675_0);injection eb_ with ea2_ en2_ ec2_;subst ea2_;subst ec2_;clear en2_;have HR675_0:=aM hi675_0;have HC675_0:=aM hl675_0;clear hi675_0 hl675_0;replace p675:=eq_true p675;replace q675:=eq_true q675;have p676:0≤(x6_2:Int):=uD;have q676:x6_2<((rd_L5 l1 x5_1).length:Int):=uD;obtain⟨adQ,e676,hx676_0⟩:=Kd.at_int HR675_0.out x6_2 p676 q676;have hw676_0:=hx676_0
          cases e676
          replace hx676_0:=hcell HB.out hx676_0;replace p676:=eq_true p676;replace q676:=eq_true q676;have p677:0≤(x5_1:Int):=uD;have q677:x5_1<(l1.length:Int):=uD;obtain⟨ad677,A677_0,c677_0,e677,hx677_0,hl677_0,hi677_0⟩:=at_L5 HR1.out x5_1 p677 q677;have hw677_0:=hx677_0;obtain rfl:ad671=ad677:=(by injection e677);replace hx677_0:=hcell HB.out hx677_0;have HR677_0:=aM hi677_0;have HC677_0:=aM hl677_0;clear hi677_0 hl677_0;replace p677:=eq_true p677;replace q677:=eq_true q677;have ea_:=Option.some.inj (hx675_0.symm.trans hx677_0);injection ea_ with ea_ en_ ec_;subst ea_;subst ec_;clear en_;have p678:0≤((ji12):Int):=uD;have q678:(ji12)<((rd_L5 l1 x5_1).length:Int):=uD;obtain⟨adR,e678,hx678_0⟩:=Kd.at_int HR677_0.out (ji12) p678 q678;have hw678_0:=hx678_0
          cases e678
          replace hx678_0:=hcell HB.out hx678_0;replace p678:=eq_true p678;replace q678:=eq_true q678;refine start_ (n:=32) (S:=fun w'=>w'.cell? ⟨gb670,0,none⟩=some (.int .i64 a0_0)∧w'.cell? ⟨gb670,1,none⟩=some (.slice A0_1 l0_1.length c0_1)∧w'.cell? ⟨gb670,2,none⟩=some (.slice A0_2 l0_2.length c0_2)∧w'.cell? (ad671.add (x5_1).toNat)=some (.slice (some ad673) (rd_L5 l1 x5_1).length c672_0)∧w'.cell? (ad673.add (x6_2).toNat)=some (.int .i64 (rd (rd_L5 l1 x5_1) x6_2))∧w'.cell? (ad671.add (x5_1).toNat)=some (.slice (some ad673) (rd_L5 l1 x5_1).length c672_0)∧w'.cell? (ad673.add (x6_2).toNat)=some (.int .i64 (rd (rd_L5 l1 x5_1) x6_2))∧w'.cell? (ad671.add (x5_1).toNat)=some (.slice (some ad673) (rd_L5 l1 x5_1).length c672_0)∧w'.cell? (ad673.add ((ji12)).toNat)=some (.int .i64 (rd (rd_L5 l1 x5_1) (ji12)))) (ds:=[]) (bl 32 0) (by kernel_rfl) rfl rfl ⟨(blk_cell BK670.out 0).trans rfl,(blk_cell BK670.out 1).trans rfl,(blk_cell BK670.out 2).trans rfl,(hcell HB.out hw672_0),(hcell HB.out hw673_0),(hcell HB.out hw675_0),(hcell HB.out hw676_0),(hcell HB.out hw677_0),(hcell HB.out hw678_0)⟩ (fun hHeld=>?_);refine with_tabW r7_Plan.tab7 r7_Plan.bits7 (fun HT_ HW_=>?_)
          generalize wr.drew=w18 at BK670 HB HR672_0 HR675_0 HR677_0 hx672_0 hx673_0 hx675_0 hx676_0 hx677_0 hx678_0 hHeld⊢;refine pu 1 23 32 2 ?_;refine pu 2 24 32 6 ?_;refine pu 3 25 32 14 ?_;refine pu 5 27 32 46 ?_;refine tk9 0 22 32 47 hHeld ?_;refine tk9 4 26 32 63 hHeld ?_;refine pu 6 28 32 127 ?_;refine tk9 7 29 32 255 hHeld ?_;refine one_ (i:=8) (N:=some 30) (bl 32 511) rfl rfl (one_of HT_.out (by kernel_rfl)) (by decide) (fun K hK=>?_);refine goes_ Tryz.func15 (by kernel_rfl) rfl #[.agg #[.int .i64 a0_0,.slice A0_1 l0_1.length c0_1,.slice A0_2 l0_2.length c0_2],.int .i64 (rd (rd_L5 l1 x5_1) x6_2)] (by rfl) rfl rfl uM ?_;(with_reducible refine(r7_Outlet.calls a0_0 _ _ l0_1 _ _ l0_2 (rd (rd_L5 l1 x5_1) x6_2) true _ ?side1 ?side2 ?side3 ?side4 A9.out).mono ?_);(case side1=>exact uY HR0_1 HB);(case side2=>exact HC0_1.out);(case side3=>exact uY HR0_2 HB);(case side4=>exact HC0_2.out);rintro e w19 ⟨rfl,hb⟩;refine⟨_,rfl,?_⟩;replace BK670:=aM (blk_below (uK BK670.out) hb);replace HB:=aM (below_step uB hb);(try clear hb);refine hK.out _ _ ⟨(blk_cell BK670.out 0).trans rfl,(blk_cell BK670.out 1).trans rfl,(blk_cell BK670.out 2).trans rfl,(hcell HB.out hw672_0),(hcell HB.out hw673_0),(hcell HB.out hw675_0),(hcell HB.out hw676_0),(hcell HB.out hw677_0),(hcell HB.out hw678_0)⟩ (fun hHeld=>?_);clear hK K;refine nm ?_;refine pu 9 31 32 1023 ?_;refine pu 10 32 32 2047 ?_;refine pu 11 33 32 4095 ?_;refine pu 12 34 32 8191 ?_;refine pu 13 35 32 16383 ?_;refine pu 14 36 32 32767 ?_;refine pu 15 37 32 65535 ?_;refine pu 16 38 32 131071 ?_;refine pu 18 40 32 393215 ?_;refine pu 21 43 32 2490367 ?_;refine pu 22 44 32 6684671 ?_;refine pu 23 45 32 15073279 ?_;refine pu 25 47 32 48627711 ?_;refine pu 26 48 32 115736575 ?_;refine tk9 17 39 32 115867647 hHeld ?_;refine pu 19 41 32 116391935 ?_;refine tk9 20 42 32 117440511 hHeld ?_;refine tk9 24 46 32 134217727 hHeld ?_;refine pu 27 49 32 268435455 ?_;refine tk9 28 50 32 536870911 hHeld ?_;refine pu 29 51 32 1073741823 ?_;refine pu 30 52 32 2147483647 ?_;refine pu 31 53 32 4294967295 ?_;refine done_ (done_of HT_.out (by kernel_rfl)) ?_;try go_wp2
          go_roundg k2
          case measure=>have:=HK1.out;have:=HK2.out;omega
          case rel=>exact⟨(wrap64 (x6_2+1)),u0,H',⟨by have:=HK1.out;have:=HK2.out;omega⟩,⟨uK BK670.out⟩,⟨uB⟩⟩
        ·rw[if_neg c11] at H;replace c11:=decide_eq_false c11;have H':=aM H;clear H;have p671:0≤(x5_1:Int):=uD;have q671:x5_1<(l1.length:Int):=uD;obtain⟨ad671,A671_0,c671_0,e671,hx671_0,hl671_0,hi671_0⟩:=at_L5 HR1.out x5_1 p671 q671
         cases e671
         replace hx671_0:=hcell HB.out hx671_0;have HR671_0:=aM hi671_0;have HC671_0:=aM hl671_0;clear hi671_0 hl671_0;replace p671:=eq_true p671;replace q671:=eq_true q671;(try go_wp2);replace BK670:=aM (blk_drew BK670.out);replace HB:=aM (below_drew1 HB.out);have p672:0≤(x5_1:Int):=uD;have q672:x5_1<(l1.length:Int):=uD;obtain⟨ad672,A672_0,c672_0,e672,hx672_0,hl672_0,hi672_0⟩:=at_L5 HR1.out x5_1 p672 q672;have hw672_0:=hx672_0;obtain rfl:ad671=ad672:=(by injection e672);replace hx672_0:=hcell HB.out hx672_0;have HR672_0:=aM hi672_0;have HC672_0:=aM hl672_0;clear hi672_0 hl672_0;replace p672:=eq_true p672;replace q672:=eq_true q672;have p673:0≤(x6_2:Int):=uD;have q673:x6_2<((rd_L5 l1 x5_1).length:Int):=uD;obtain⟨ad673,e673,hx673_0⟩:=Kd.at_int HR672_0.out x6_2 p673 q673;have hw673_0:=hx673_0
         cases e673
         replace hx673_0:=hcell HB.out hx673_0;replace p673:=eq_true p673;replace q673:=eq_true q673;refine start_ (n:=32) (S:=fun w'=>w'.cell? ⟨gb670,0,none⟩=some (.int .i64 a0_0)∧w'.cell? ⟨gb670,1,none⟩=some (.slice A0_1 l0_1.length c0_1)∧w'.cell? ⟨gb670,2,none⟩=some (.slice A0_2 l0_2.length c0_2)∧w'.cell? (ad671.add (x5_1).toNat)=some (.slice (some ad673) (rd_L5 l1 x5_1).length c672_0)∧w'.cell? (ad673.add (x6_2).toNat)=some (.int .i64 (rd (rd_L5 l1 x5_1) x6_2))) (ds:=[]) (bl 32 0) (by kernel_rfl) rfl rfl ⟨(blk_cell BK670.out 0).trans rfl,(blk_cell BK670.out 1).trans rfl,(blk_cell BK670.out 2).trans rfl,(hcell HB.out hw672_0),(hcell HB.out hw673_0)⟩ (fun hHeld=>?_);refine with_tabW r7_Plan.tab7 r7_Plan.bits7 (fun HT_ HW_=>?_)
         generalize wr.drew=w20 at BK670 HB HR672_0 hx672_0 hx673_0 hHeld⊢;refine pu 1 23 32 2 ?_;refine pu 2 24 32 6 ?_;refine pu 3 25 32 14 ?_;refine pu 5 27 32 46 ?_;refine tk5 0 22 32 47 hHeld ?_;refine tk5 4 26 32 63 hHeld ?_;refine pu 6 28 32 127 ?_;refine tk5 7 29 32 255 hHeld ?_;refine one_ (i:=8) (N:=some 30) (bl 32 511) rfl rfl (one_of HT_.out (by kernel_rfl)) (by decide) (fun K hK=>?_);refine goes_ Tryz.func15 (by kernel_rfl) rfl #[.agg #[.int .i64 a0_0,.slice A0_1 l0_1.length c0_1,.slice A0_2 l0_2.length c0_2],.int .i64 (rd (rd_L5 l1 x5_1) x6_2)] (by rfl) rfl rfl uM ?_;(with_reducible refine(r7_Outlet.calls a0_0 _ _ l0_1 _ _ l0_2 (rd (rd_L5 l1 x5_1) x6_2) true _ ?side1 ?side2 ?side3 ?side4 A9.out).mono ?_);(case side1=>exact uY HR0_1 HB);(case side2=>exact HC0_1.out);(case side3=>exact uY HR0_2 HB);(case side4=>exact HC0_2.out);rintro e w21 ⟨rfl,hb⟩;refine⟨_,rfl,?_⟩;replace BK670:=aM (blk_below (uK BK670.out) hb);replace HB:=aM (below_step uB hb);(try clear hb);refine hK.out _ _ ⟨(blk_cell BK670.out 0).trans rfl,(blk_cell BK670.out 1).trans rfl,(blk_cell BK670.out 2).trans rfl,(hcell HB.out hw672_0),(hcell HB.out hw673_0)⟩ (fun hHeld=>?_);clear hK K;refine nm ?_;refine pu 9 31 32 1023 ?_;refine pu 10 32 32 2047 ?_;refine pu 11 33 32 4095 ?_;refine pu 12 34 32 8191 ?_;refine pu 13 35 32 16383 ?_;refine pz 14 36 32 32767 ?_;refine pz 15 37 32 65535 ?_;refine pz 16 38 32 131071 ?_;refine pz 17 39 32 262143 ?_;refine pz 18 40 32 524287 ?_;refine pz 19 41 32 1048575 ?_;refine pz 20 42 32 2097151 ?_;refine pz 21 43 32 4194303 ?_;refine pz 22 44 32 8388607 ?_;refine pz 23 45 32 16777215 ?_;refine pz 24 46 32 33554431 ?_;refine pz 25 47 32 67108863 ?_;refine pz 26 48 32 134217727 ?_;refine pz 27 49 32 268435455 ?_;refine pz 28 50 32 536870911 ?_;refine pz 29 51 32 1073741823 ?_;refine pu 30 52 32 2147483647 ?_;refine pu 31 53 32 4294967295 ?_;refine done_ (done_of HT_.out (by kernel_rfl)) ?_;try go_wp2
         go_roundg k2
         case measure=>have:=HK1.out;have:=HK2.out;omega
         case rel=>exact⟨(wrap64 (x6_2+1)),u0,H',⟨by have:=HK1.out;have:=HK2.out;omega⟩,⟨uK BK670.out⟩,⟨uB⟩⟩
       ·replace c10:=Bool.eq_false_iff.mpr c10;subst c10;have H1:(some false)=some r:=by rw[if_neg (show ¬(false=true) by decide)] at H;exact H
        clear H;have H:=H1;clear H1;obtain rfl:=Option.some.inj H;have p671:0≤(x5_1:Int):=uD;have q671:x5_1<(l1.length:Int):=uD;obtain⟨ad671,A671_0,c671_0,e671,hx671_0,hl671_0,hi671_0⟩:=at_L5 HR1.out x5_1 p671 q671
        cases e671
        replace hx671_0:=hcell HB.out hx671_0;have HR671_0:=aM hi671_0;have HC671_0:=aM hl671_0;clear hi671_0 hl671_0;replace p671:=eq_true p671;replace q671:=eq_true q671;(try go_wp2);replace BK670:=aM (blk_drew BK670.out);replace HB:=aM (below_drew1 HB.out);have p672:0≤(x5_1:Int):=uD;have q672:x5_1<(l1.length:Int):=uD;obtain⟨ad672,A672_0,c672_0,e672,hx672_0,hl672_0,hi672_0⟩:=at_L5 HR1.out x5_1 p672 q672;have hw672_0:=hx672_0;obtain rfl:ad671=ad672:=(by injection e672);replace hx672_0:=hcell HB.out hx672_0;have HR672_0:=aM hi672_0;have HC672_0:=aM hl672_0;clear hi672_0 hl672_0;replace p672:=eq_true p672;replace q672:=eq_true q672;have p673:0≤(x6_2:Int):=uD;have q673:x6_2<((rd_L5 l1 x5_1).length:Int):=uD;obtain⟨ad673,e673,hx673_0⟩:=Kd.at_int HR672_0.out x6_2 p673 q673;have hw673_0:=hx673_0
        cases e673
        replace hx673_0:=hcell HB.out hx673_0;replace p673:=eq_true p673;replace q673:=eq_true q673;refine start_ (n:=32) (S:=fun w'=>w'.cell? ⟨gb670,0,none⟩=some (.int .i64 a0_0)∧w'.cell? ⟨gb670,1,none⟩=some (.slice A0_1 l0_1.length c0_1)∧w'.cell? ⟨gb670,2,none⟩=some (.slice A0_2 l0_2.length c0_2)∧w'.cell? (ad671.add (x5_1).toNat)=some (.slice (some ad673) (rd_L5 l1 x5_1).length c672_0)∧w'.cell? (ad673.add (x6_2).toNat)=some (.int .i64 (rd (rd_L5 l1 x5_1) x6_2))) (ds:=[]) (bl 32 0) (by kernel_rfl) rfl rfl ⟨(blk_cell BK670.out 0).trans rfl,(blk_cell BK670.out 1).trans rfl,(blk_cell BK670.out 2).trans rfl,(hcell HB.out hw672_0),(hcell HB.out hw673_0)⟩ (fun hHeld=>?_);refine with_tabW r7_Plan.tab7 r7_Plan.bits7 (fun HT_ HW_=>?_)
        generalize wr.drew=w22 at BK670 HB HR672_0 hx672_0 hx673_0 hHeld⊢;refine pu 1 23 32 2 ?_;refine pu 2 24 32 6 ?_;refine pu 3 25 32 14 ?_;refine pu 5 27 32 46 ?_;refine tk5 0 22 32 47 hHeld ?_;refine tk5 4 26 32 63 hHeld ?_;refine pu 6 28 32 127 ?_;refine tk5 7 29 32 255 hHeld ?_;refine one_ (i:=8) (N:=some 30) (bl 32 511) rfl rfl (one_of HT_.out (by kernel_rfl)) (by decide) (fun K hK=>?_);refine goes_ Tryz.func15 (by kernel_rfl) rfl #[.agg #[.int .i64 a0_0,.slice A0_1 l0_1.length c0_1,.slice A0_2 l0_2.length c0_2],.int .i64 (rd (rd_L5 l1 x5_1) x6_2)] (by rfl) rfl rfl uM ?_;(with_reducible refine(r7_Outlet.calls a0_0 _ _ l0_1 _ _ l0_2 (rd (rd_L5 l1 x5_1) x6_2) false _ ?side1 ?side2 ?side3 ?side4 A9.out).mono ?_);(case side1=>exact uY HR0_1 HB);(case side2=>exact HC0_1.out);(case side3=>exact uY HR0_2 HB);(case side4=>exact HC0_2.out);rintro e w23 ⟨rfl,hb⟩;refine⟨_,rfl,?_⟩;replace BK670:=aM (blk_below (uK BK670.out) hb);replace HB:=aM (below_step uB hb);(try clear hb);refine hK.out _ _ ⟨(blk_cell BK670.out 0).trans rfl,(blk_cell BK670.out 1).trans rfl,(blk_cell BK670.out 2).trans rfl,(hcell HB.out hw672_0),(hcell HB.out hw673_0)⟩ (fun hHeld=>?_);clear hK K;refine nm ?_;refine pu 9 31 32 1023 ?_;refine pu 10 32 32 2047 ?_;refine pz 11 33 32 4095 ?_;refine pz 12 34 32 8191 ?_;refine pz 13 35 32 16383 ?_;refine pz 14 36 32 32767 ?_;refine pz 15 37 32 65535 ?_;refine pz 16 38 32 131071 ?_;refine pz 17 39 32 262143 ?_;refine pz 18 40 32 524287 ?_;refine pz 19 41 32 1048575 ?_;refine pz 20 42 32 2097151 ?_;refine pz 21 43 32 4194303 ?_;refine pz 22 44 32 8388607 ?_;refine pz 23 45 32 16777215 ?_;refine pz 24 46 32 33554431 ?_;refine pz 25 47 32 67108863 ?_;refine pz 26 48 32 134217727 ?_;refine pz 27 49 32 268435455 ?_;refine pz 28 50 32 536870911 ?_;refine pz 29 51 32 1073741823 ?_;refine pz 30 52 32 2147483647 ?_;refine pu 31 53 32 4294967295 ?_;refine done_ (done_of HT_.out (by kernel_rfl)) ?_;(try go_wp2);go_ret;exact⟨uE,uB⟩
      ·rw[if_neg c7] at H;replace c7:=decide_eq_false c7;have H':=aM H;clear H;have p671:0≤(x5_1:Int):=uD;have q671:x5_1<(l1.length:Int):=uD;obtain⟨ad671,A671_0,c671_0,e671,hx671_0,hl671_0,hi671_0⟩:=at_L5 HR1.out x5_1 p671 q671
       cases e671
       replace hx671_0:=hcell HB.out hx671_0;have HR671_0:=aM hi671_0;have HC671_0:=aM hl671_0;clear hi671_0 hl671_0;replace p671:=eq_true p671;replace q671:=eq_true q671;go_wp2
       go_roundg k2
       case measure=>have:=HK1.out;have:=HK2.out;omega
       case rel=>exact⟨(wrap64 (x5_1+1)),u0,H',⟨by have:=HK1.out;have:=HK2.out;omega⟩,⟨uK BK670.out⟩,⟨uB⟩⟩
   ·rw[if_neg c4] at H;replace c4:=decide_eq_false c4;obtain rfl:=Option.some.inj H;go_wp2;go_ret;exact⟨uE,uB⟩
def r7_Running.l0:Nat→List Int→List Int→Int→Int→List (S77)→List (S51)→Option (List Int)
 |0,_,_,_,_,_,_=>none
 |k+1,x1,x5,x6,x691000,x691001,x691002=>if x6<(x1.length:Int) then(if 0≤x6 then(if 0≤(rd x1 x6) then(if (rd x1 x6)<(x691002.length:Int) then(if (rd x1 x6)<(x5.length:Int) then(r7_Running.l0 k x1 (x5.set ((rd x1 x6):Int).toNat ((rd_T51 x691002 (rd x1 x6)).f1)) (wrap64 (x6+1)) x691000 x691001 x691002) else(none)) else(none)) else(none)) else(none)) else(some x5)
def r7_Running.f (k:Nat) (a0_0:Int) (l0_1:List (S77)) (l0_2:List (S51)) (l1:List Int):Option (List Int):=if 0≤(l0_2.length:Int) then(if ((l0_2.length:Int):Int).toNat≤35184372088832 then(r7_Running.l0 k l1 (List.replicate ((l0_2.length:Int):Int).toNat 0) 0 a0_0 l0_1 l0_2) else(none)) else(none)
def r7_Running.T5:Bool×List (List Nat×List Nat):=(true,[([],[]),([],[]),([],[]),([1,2],[1,2]),([3],[3]),([],[]),([5],[5]),([],[]),([],[]),([7,8],[7,8]),([9],[9]),([6,10],[6,10]),([11],[11]),([12],[12]),([0,4,0,1,2,3,4,5,6,7,8,9,10,11,12,13],[0,4]),([14,13,0,1,2,3,4,5,6,7,8,9,10,11,12,13],[13,14])])
def r7_Running.B5:List Nat:=[0,0,0,6,14,0,32,0,0,384,896,2016,4064,8160,16383,32767]
theorem r7_Running.tab5:rtab .any (opsOf Tryz.f36 5)=r7_Running.T5:=by kernel_rfl
theorem r7_Running.bits5:waitsOk r7_Running.T5.2 r7_Running.B5=true:=by kernel_rfl
set_option maxHeartbeats 8000000 in
set_option maxRecDepth 100000 in
theorem r7_Running.calls (k:Nat) (a0_0:Int) (A0_1:Option Addr) (c0_1:Nat) (l0_1:List (S77)) (A0_2:Option Addr) (c0_2:Nat) (l0_2:List (S51)) (A1:Option Addr) (c1:Nat) (l1:List Int) (r:List Int) (w:World) (hr0_1:Kd.C k77 w A0_1 l0_1.length l0_1) (hc0_1:l0_1.length≤c0_1) (hr0_2:Kd.C k51 w A0_2 l0_2.length l0_2) (hc0_2:l0_2.length≤c0_2) (hr1:Kd.C (Kd.int .i64) w A1 l1.length l1) (hc1:l1.length≤c1) (h:r7_Running.f k a0_0 l0_1 l0_2 l1=some r):
  Calls Tryz.prog 36 #[.agg #[.int .i64 a0_0,.slice A0_1 l0_1.length c0_1,.slice A0_2 l0_2.length c0_2],.slice A1 l1.length c1] w fun e w'=>∃v0_:Value,e=.returned (v0_)∧Kd.R (Kd.int .i64) 3 w' w.heap.size (fun _=>True) v0_ r∧Below w.heap.size w w':=by
 have hu25:=Tryz.underlying25;have HR0_1:=aM hr0_1;have HC0_1:=aM hc0_1;clear hr0_1 hc0_1;have HR0_2:=aM hr0_2;have HC0_2:=aM hc0_2;clear hr0_2 hc0_2;have HR1:=aM hr1;have HC1:=aM hc1;clear hr1 hc1;have HB:=aM (Below.refl w.heap.size w);have H:(if 0≤(l0_2.length:Int) then(if ((l0_2.length:Int):Int).toNat≤35184372088832 then(r7_Running.l0 k l1 (List.replicate ((l0_2.length:Int):Int).toNat 0) 0 a0_0 l0_1 l0_2) else(none)) else(none))=some r:=h;clear h;obtain⟨c3,H⟩:=ifs H;have c3b0:=eq_true c3;have c3b1:decide (0≤(l0_2.length:Int))=true:=decide_eq_true c3;clear c3;obtain⟨c4,H⟩:=ifs H;have c4b0:=eq_true c4;have c4b1:decide (((l0_2.length:Int):Int).toNat≤35184372088832)=true:=decide_eq_true c4;clear c4;obtain⟨y691,hy691⟩:∃y_:List Int,y_=(List.replicate ((l0_2.length:Int):Int).toNat 0):=⟨_,rfl⟩;rw[← hy691] at H;(try replace H:=(Option.bind_some _ _).symm.trans H)
 have Ny691:=aM hy691;clear hy691;have H':=aM H;clear H
 go_enter Tryz.func36,Tryz.ntmps36
 go_wp2_with (first|((with_reducible refine gate_dst (N:=2) rfl ?_);refine bxe 2 #[.int .i64 a0_0,.slice A0_1 l0_1.length c0_1,.slice A0_2 l0_2.length c0_2] 25 ?_;intro gb690 hg w5 hbox hb;have n0_:=aM (below_step uB hb);have n1_:=aM (hbox);have n2_:=gw hg;have n3_:=gw hg;clear HB;have HB:=n0_;have BK690:=n1_;have GW690:=n2_;have GE690:=n3_;clear n0_ n1_ n2_ n3_;clear hb hbox hg;obtain⟨hcz6_0,hcz6_1,hcz6_2⟩:=cz3 BK690.out;obtain⟨hfz6_0,hfz6_1,hfz6_2⟩:=fz3 BK690.out)|((with_reducible refine gate_dst (N:=10) rfl ?_);refine Kd.R_make (Kd.int .i64) _ 3 rfl (N:=10) rfl 30 _ _ rfl (l0_2.length:Int) rfl rfl Tryz.underlying30 (.int .i64 0) 8 info3 rfl (by decide) (by omega) 0 (ok:=fun _=>True) (okp:=fun _=>True) rfl (fun _ hk=>hk) trivial (uD) (Nat.le_trans (Nat.mul_le_mul_right _ (uD:(l0_2.length:Int).toNat≤35184372088832)) (by omega)) (Below.refl _ _) (Nat.le_refl _) ?_;intro v692 w7 ho8 hb hg_ hnew_;clear hg_ hnew_;(first|rw[← Ny691.out] at ho8|(simp only[Int.reduceToNat] at ho8;rw[← Ny691.out] at ho8));have HO693:=aM (Kd.R_lower ho8 (below_size uB));replace BK690:=aM (blk_below (uK BK690.out) hb);replace HB:=aM (below_step uB hb);clear hb ho8))
 go_loopg [6] k (fun kq v6 w'=>∃(x5_1:List Int) (x6_1:Int),v6=.int .i64 x6_1∧Aside0 (r7_Running.l0 kq l1 x5_1 x6_1 a0_0 l0_1 l0_2=some r)∧Aside0 (kq≤k)∧Aside0 (Kd.R (Kd.int .i64) 3 w' w.heap.size (fun _=>True) v692 x5_1)∧Aside0 (w'.heap[gb690]? =some (.cells #[.int .i64 a0_0,(.slice A0_1 l0_1.length c0_1),(.slice A0_2 l0_2.length c0_2)] 25 (0,0)))∧Aside0 (Below w.heap.size w w'))
 case atStart=>exact⟨(y691),(0),u0,H',⟨Nat.le_refl _⟩,⟨uR HO693.out⟩,⟨uK BK690.out⟩,⟨uB⟩⟩
 case round=>
  clear H';obtain⟨x5_1,x6_1,rfl,HA,HK1,HO_5,BK690,HB⟩:=hrel
  cases gk with
  |zero=>exact absurd HA.out (by simp[r7_Running.l0])
  |succ k1=>
   have H:=HA.out;clear HA;simp only[r7_Running.l0] at H
   by_cases c9:x6_1<(l1.length:Int)
   ·rw[if_pos c9] at H;replace c9:=decide_eq_true c9;obtain⟨c10,H⟩:=ifs H;replace c10:=decide_eq_true c10;obtain⟨c11,H⟩:=ifs H;replace c11:=decide_eq_true c11;obtain⟨c12,H⟩:=ifs H;replace c12:=decide_eq_true c12;obtain⟨c13,H⟩:=ifs H;replace c13:=decide_eq_true c13;obtain⟨y697,hy697⟩:∃y_:List Int,y_=(x5_1.set ((rd l1 x6_1):Int).toNat ((rd_T51 l0_2 (rd l1 x6_1)).f1)):=⟨_,rfl⟩;rw[← hy697] at H;(try replace H:=(Option.bind_some _ _).symm.trans H)
    have Ny697:=aM hy697;clear hy697;have H':=aM H;clear H;(try go_wp2);replace HO_5:=aM (Kd.R_drew HO_5.out);replace BK690:=aM (blk_drew BK690.out);replace HB:=aM (below_drew1 HB.out);have p694:0≤(x6_1:Int):=uD;have q694:x6_1<(l1.length:Int):=uD;obtain⟨ad694,e694,hx694_0⟩:=Kd.at_int HR1.out x6_1 p694 q694;have hw694_0:=hx694_0
    cases e694
    replace hx694_0:=hcell HB.out hx694_0;replace p694:=eq_true p694;replace q694:=eq_true q694;have p695:0≤(x6_1:Int):=uD;have q695:x6_1<(l1.length:Int):=uD;obtain⟨ad695,e695,hx695_0⟩:=Kd.at_int HR1.out x6_1 p695 q695;have hw695_0:=hx695_0;obtain rfl:ad694=ad695:=(by injection e695);replace hx695_0:=hcell HB.out hx695_0;replace p695:=eq_true p695;replace q695:=eq_true q695;have p696:0≤((rd l1 x6_1):Int):=uD;have q696:(rd l1 x6_1)<(l0_2.length:Int):=uD;obtain⟨ad696,e696,hx696_0,hx696_1,hx696_2⟩:=at_T51 HR0_2.out (rd l1 x6_1) p696 q696;have hw696_2:=hx696_2;have hw696_1:=hx696_1;have hw696_0:=hx696_0
    cases e696
    replace hx696_0:=hcell HB.out hx696_0;replace hx696_1:=hcell HB.out hx696_1;replace hx696_2:=hcell HB.out hx696_2;replace p696:=eq_true p696;replace q696:=eq_true q696;have p14:0≤((rd l1 x6_1):Int):=uD;have q14:((rd l1 x6_1):Int)<((x5_1.length:Int):Int):=uD;obtain⟨go14,co14,eo14,gb14,gl14,cl14,HG14⟩:=Kd.R_form HO_5.out (by omega);(first|cases eo14|(injection eo14 with ea_ en_ ec_;(first|subst ea_|(injection ea_ with ea_;subst ea_));subst ec_;clear en_));have GB14:=aM gb14;have GG14:=aM HG14;clear gb14 gl14 HG14;obtain⟨hx14_0,hf14_0⟩:=Kd.R_celln 0 HO_5.out ((rd l1 x6_1):Int) p14 q14;replace p14:=eq_true p14;replace q14:=eq_true q14;have HP16:=Kd.R_putn HO_5.out ((rd l1 x6_1):Int) ((rd_T51 l0_2 (rd l1 x6_1)).f1);rw[← Ny697.out] at HP16;have HQ16:=aM HP16;clear HP16;refine start_ (n:=16) (S:=fun w'=>w'.cell? ⟨gb690,0,none⟩=some (.int .i64 a0_0)∧w'.cell? ⟨gb690,1,none⟩=some (.slice A0_1 l0_1.length c0_1)∧w'.cell? ⟨gb690,2,none⟩=some (.slice (some ad696) l0_2.length c0_2)∧w'.cell? (ad694.add (x6_1).toNat)=some (.int .i64 (rd l1 x6_1))∧w'.cell? (ad694.add (x6_1).toNat)=some (.int .i64 (rd l1 x6_1))∧w'.cell? (ad696.add (((rd l1 x6_1)).toNat*3))=some (.int .i64 ((rd_T51 l0_2 (rd l1 x6_1)).f0))∧w'.cell? ⟨(ad696.add (((rd l1 x6_1)).toNat*3)).block,(ad696.add (((rd l1 x6_1)).toNat*3)).off+1,none⟩=some (.int .i64 ((rd_T51 l0_2 (rd l1 x6_1)).f1))∧w'.cell? ⟨(ad696.add (((rd l1 x6_1)).toNat*3)).block,(ad696.add (((rd l1 x6_1)).toNat*3)).off+2,none⟩=some (.int .i64 ((rd_T51 l0_2 (rd l1 x6_1)).f2))) (ds:=[15]) (bl 16 0) (by kernel_rfl) rfl rfl ⟨(blk_cell BK690.out 0).trans rfl,(blk_cell BK690.out 1).trans rfl,(blk_cell BK690.out 2).trans rfl,(hcell HB.out hw694_0),(hcell HB.out hw695_0),(hcell HB.out hw696_0),(hcell HB.out hw696_1),(hcell HB.out hw696_2)⟩ (fun hHeld=>?_);refine with_tabW r7_Running.tab5 r7_Running.bits5 (fun HT_ HW_=>?_)
    generalize wr.drew=w15 at HO_5 BK690 HB GG14 HQ16 hf14_0 hx14_0 hx694_0 hx695_0 hx696_0 hx696_1 hx696_2 hHeld⊢;refine pu 0 17 16 1 ?_;refine pu 1 18 16 3 ?_;refine pu 2 19 16 7 ?_;refine pu 3 20 16 15 ?_;refine pu 5 22 16 47 ?_;refine pu 7 24 16 175 ?_;refine pu 8 25 16 431 ?_;refine pu 9 26 16 943 ?_;refine tk8 4 21 16 959 hHeld ?_;refine tk8 6 23 16 1023 hHeld ?_;refine tk8 10 27 16 2047 hHeld ?_;refine pu 11 28 16 4095 ?_;refine pu 12 29 16 8191 ?_;refine tk8 13 30 16 16383 hHeld ?_;refine pu 14 31 16 32767 ?_;refine last_ (i:=15) (N:=none) (bl 16 65535) rfl rfl (one_of HT_.out (by kernel_rfl)) (by decide) (fun K hK=>?_);refine skip_ (w1:=?_) (by rfl) rfl ?_ ?_;rotate_left
    ·go_simp
     rfl
    refine hK.out _ _ ?_;clear hK K;refine done_ (done_of HT_.out (by kernel_rfl)) ?_;try go_wp2
    go_roundg k1
    case measure=>have:=HK1.out;omega
    case rel=>exact⟨(y697),(wrap64 (x6_1+1)),u0,H',⟨by have:=HK1.out;omega⟩,⟨uR HQ16.out⟩,⟨by refine uK ?_;refine blk_far ?_ (by have h_:=Kd.R_ne HO_5.out BK690.out (by decide);intro e_;exact h_ (by rw[e_];rfl)) _;refine uK ?_;exact BK690.out⟩,⟨by repeat(first|(with_reducible first|exact HB.out|apply below_alloc|apply pw_below_drewN|apply below_drew1|refine below_set ?_ GB14.out|refine below_set ?_ GE690.out)|exact HB.out)⟩⟩
   ·rw[if_neg c9] at H;replace c9:=decide_eq_false c9;obtain rfl:=Option.some.inj H;go_wp2;go_ret;exact⟨_,uE,uR HO_5.out,uB⟩
def r7_Runs.l0:Nat→List (List Int)→Int→Int→List (S77)→List (S51)→Option (Bool)
 |0,_,_,_,_,_=>none
 |k+1,x1,x5,x699000,x699001,x699002=>if x5<(x1.length:Int) then(if 0≤x5 then((r7_Running.f k x699000 x699001 x699002 (rd_L5 x1 x5)).bind fun t700=>((r7_Fits.f k x699000 x699001 x699002 t700).bind fun t703=>(if t703=true then(r7_Runs.l0 k x1 (wrap64 (x5+1)) x699000 x699001 x699002) else(some false)))) else(none)) else(some true)
def r7_Runs.f (k:Nat) (a0_0:Int) (l0_1:List (S77)) (l0_2:List (S51)) (l1:List (List Int)):Option (Bool):=r7_Runs.l0 k l1 0 a0_0 l0_1 l0_2
def r7_Runs.T4:Bool×List (List Nat×List Nat):=(true,[([],[]),([],[]),([],[]),([],[]),([2,3],[2,3]),([4],[4]),([1,5],[1,5]),([0,6,6],[0,6]),([7],[7])])
def r7_Runs.B4:List Nat:=[0,0,0,0,12,28,62,127,255]
theorem r7_Runs.tab4:rtab .any (opsOf Tryz.f28 4)=r7_Runs.T4:=by kernel_rfl
theorem r7_Runs.bits4:waitsOk r7_Runs.T4.2 r7_Runs.B4=true:=by kernel_rfl
set_option maxHeartbeats 8000000 in
set_option maxRecDepth 100000 in
theorem r7_Runs.calls (k:Nat) (a0_0:Int) (A0_1:Option Addr) (c0_1:Nat) (l0_1:List (S77)) (A0_2:Option Addr) (c0_2:Nat) (l0_2:List (S51)) (A1:Option Addr) (c1:Nat) (l1:List (List Int)) (r:Bool) (w:World) (hr0_1:Kd.C k77 w A0_1 l0_1.length l0_1) (hc0_1:l0_1.length≤c0_1) (hr0_2:Kd.C k51 w A0_2 l0_2.length l0_2) (hc0_2:l0_2.length≤c0_2) (hr1:Kd.C (Kd.slice 3 (Kd.int .i64)) w A1 l1.length l1) (hc1:l1.length≤c1) (h:r7_Runs.f k a0_0 l0_1 l0_2 l1=some r):
  Calls Tryz.prog 28 #[.agg #[.int .i64 a0_0,.slice A0_1 l0_1.length c0_1,.slice A0_2 l0_2.length c0_2],.slice A1 l1.length c1] w fun e w'=>e=.returned (.bool r)∧Below w.heap.size w w':=by
 have hu25:=Tryz.underlying25;have HR0_1:=aM hr0_1;have HC0_1:=aM hc0_1;clear hr0_1 hc0_1;have HR0_2:=aM hr0_2;have HC0_2:=aM hc0_2;clear hr0_2 hc0_2;have HR1:=aM hr1;have HC1:=aM hc1;clear hr1 hc1;have HB:=aM (Below.refl w.heap.size w);have H:(r7_Runs.l0 k l1 0 a0_0 l0_1 l0_2)=some r:=h;clear h;have H':=aM H;clear H
 go_enter Tryz.func28,Tryz.ntmps28
 go_wp2_with (first|((with_reducible refine gate_dst (N:=2) rfl ?_);refine bxe 2 #[.int .i64 a0_0,.slice A0_1 l0_1.length c0_1,.slice A0_2 l0_2.length c0_2] 25 ?_;intro gb698 hg w3 hbox hb;have n0_:=aM (below_step uB hb);have n1_:=aM (hbox);have n2_:=gw hg;have n3_:=gw hg;clear HB;have HB:=n0_;have BK698:=n1_;have GW698:=n2_;have GE698:=n3_;clear n0_ n1_ n2_ n3_;clear hb hbox hg))
 go_loopg [5] k (fun kq v5 w'=>∃(x5_1:Int),v5=.int .i64 x5_1∧Aside0 (r7_Runs.l0 kq l1 x5_1 a0_0 l0_1 l0_2=some r)∧Aside0 (kq≤k)∧Aside0 (w'.heap[gb698]? =some (.cells #[.int .i64 a0_0,(.slice A0_1 l0_1.length c0_1),(.slice A0_2 l0_2.length c0_2)] 25 (0,0)))∧Aside0 (Below w.heap.size w w'))
 case atStart=>exact⟨(0),u0,H',⟨Nat.le_refl _⟩,⟨uK BK698.out⟩,⟨uB⟩⟩
 case round=>
  clear H';obtain⟨x5_1,rfl,HA,HK1,BK698,HB⟩:=hrel
  cases gk with
  |zero=>exact absurd HA.out (by simp[r7_Runs.l0])
  |succ k1=>
   have H:=HA.out;clear HA;simp only[r7_Runs.l0] at H
   by_cases c4:x5_1<(l1.length:Int)
   ·rw[if_pos c4] at H;replace c4:=decide_eq_true c4;obtain⟨c5,H⟩:=ifs H;replace c5:=decide_eq_true c5;replace H:=Option.bind_eq_some_iff.mp H;obtain⟨t700,A60,H⟩:=H;replace H:((r7_Fits.f k1 a0_0 l0_1 l0_2 t700).bind fun t703=>(if t703=true then(r7_Runs.l0 k1 l1 (wrap64 (x5_1+1)) a0_0 l0_1 l0_2) else(some false)))=some r:=H;have A6:=aM A60;clear A60;replace H:=Option.bind_eq_some_iff.mp H;obtain⟨t703,A70,H⟩:=H;replace H:(if t703=true then(r7_Runs.l0 k1 l1 (wrap64 (x5_1+1)) a0_0 l0_1 l0_2) else(some false))=some r:=H;have A7:=aM A70;clear A70
    by_cases c8:t703=true
    ·subst c8;have H1:(r7_Runs.l0 k1 l1 (wrap64 (x5_1+1)) a0_0 l0_1 l0_2)=some r:=by rw[if_pos rfl] at H;exact H
     clear H;have H:=H1;clear H1;have H':=aM H;clear H;(try go_wp2);replace BK698:=aM (blk_drew BK698.out);replace HB:=aM (below_drew1 HB.out);have p699:0≤(x5_1:Int):=uD;have q699:x5_1<(l1.length:Int):=uD;obtain⟨ad699,A699_0,c699_0,e699,hx699_0,hl699_0,hi699_0⟩:=at_L5 HR1.out x5_1 p699 q699;have hw699_0:=hx699_0
     cases e699
     replace hx699_0:=hcell HB.out hx699_0;have HR699_0:=aM hi699_0;have HC699_0:=aM hl699_0;clear hi699_0 hl699_0;replace p699:=eq_true p699;replace q699:=eq_true q699;refine start_ (n:=9) (S:=fun w'=>w'.cell? ⟨gb698,0,none⟩=some (.int .i64 a0_0)∧w'.cell? ⟨gb698,1,none⟩=some (.slice A0_1 l0_1.length c0_1)∧w'.cell? ⟨gb698,2,none⟩=some (.slice A0_2 l0_2.length c0_2)∧w'.cell? (ad699.add (x5_1).toNat)=some (.slice A699_0 (rd_L5 l1 x5_1).length c699_0)) (ds:=[]) (bl 9 0) (by kernel_rfl) rfl rfl ⟨(blk_cell BK698.out 0).trans rfl,(blk_cell BK698.out 1).trans rfl,(blk_cell BK698.out 2).trans rfl,(hcell HB.out hw699_0)⟩ (fun hHeld=>?_);refine with_tabW r7_Runs.tab4 r7_Runs.bits4 (fun HT_ HW_=>?_)
     generalize wr.drew=w9 at BK698 HB HR699_0 hx699_0 hHeld⊢;refine pu 2 14 9 4 ?_;refine pu 3 15 9 12 ?_;refine pu 4 16 9 28 ?_;refine tk4 0 12 9 29 hHeld ?_;refine tk4 1 13 9 31 hHeld ?_;refine tk4 5 17 9 63 hHeld ?_;refine one_ (i:=6) (N:=some 18) (bl 9 127) rfl rfl (one_of HT_.out (by kernel_rfl)) (by decide) (fun K hK=>?_);refine goes_ Tryz.func36 (by kernel_rfl) rfl #[.agg #[.int .i64 a0_0,.slice A0_1 l0_1.length c0_1,.slice A0_2 l0_2.length c0_2],.slice A699_0 (rd_L5 l1 x5_1).length c699_0] (by rfl) rfl rfl uM ?_;(with_reducible refine(r7_Running.calls k1 a0_0 _ _ l0_1 _ _ l0_2 _ _ (rd_L5 l1 x5_1) t700 _ ?side1 ?side2 ?side3 ?side4 ?side5 ?side6 A6.out).mono ?_);(case side1=>exact uY HR0_1 HB);(case side2=>exact HC0_1.out);(case side3=>exact uY HR0_2 HB);(case side4=>exact HC0_2.out);(case side5=>exact uY HR699_0 HB);(case side6=>exact HC699_0.out);rintro e w10 ⟨v701,rfl,ho0,hb⟩;refine⟨_,rfl,?_⟩;have HO702:=aM (Kd.R_lower ho0 (below_size uB));replace BK698:=aM (blk_below (uK BK698.out) hb);replace HB:=aM (below_step uB hb);(try clear hb);(try clear ho0);obtain⟨Ao11,co11,eo11⟩:=Kd.R_slice HO702.out;(first|subst eo11|(injection eo11 with f1_ f2_ f3_;have f4_:=f1_.symm;have f5_:=f3_.symm;clear f1_ f2_ f3_;subst f4_;subst f5_));refine hK.out _ _ ⟨(blk_cell BK698.out 0).trans rfl,(blk_cell BK698.out 1).trans rfl,(blk_cell BK698.out 2).trans rfl,(hcell HB.out hw699_0)⟩ (fun hHeld=>?_);clear hK K;refine nm ?_;refine one_ (i:=7) (N:=some 19) (bl 9 255) rfl rfl (one_of HT_.out (by kernel_rfl)) (by decide) (fun K hK=>?_);refine goes_ Tryz.func31 (by kernel_rfl) rfl #[.agg #[.int .i64 a0_0,.slice A0_1 l0_1.length c0_1,.slice A0_2 l0_2.length c0_2],.slice Ao11 t700.length co11] (by rfl) rfl rfl uM ?_;(with_reducible refine(r7_Fits.calls k1 a0_0 _ _ l0_1 _ _ l0_2 _ _ t700 true _ ?side1 ?side2 ?side3 ?side4 ?side5 ?side6 A7.out).mono ?_);(case side1=>exact uY HR0_1 HB);(case side2=>exact HC0_1.out);(case side3=>exact uY HR0_2 HB);(case side4=>exact HC0_2.out);(case side5=>exact uC ((Kd.R_reads' HO702.out).2.2));(case side6=>exact(Kd.R_reads' HO702.out).2.1);rintro e w12 ⟨rfl,hb⟩;refine⟨_,rfl,?_⟩;replace HO702:=aM (Kd.R_below (uR HO702.out) hb);replace BK698:=aM (blk_below (uK BK698.out) hb);replace HB:=aM (below_step uB hb);(try clear hb);refine hK.out _ _ ⟨(blk_cell BK698.out 0).trans rfl,(blk_cell BK698.out 1).trans rfl,(blk_cell BK698.out 2).trans rfl,(hcell HB.out hw699_0)⟩ (fun hHeld=>?_);clear hK K;refine nm ?_;refine pu 8 20 9 511 ?_;refine done_ (done_of HT_.out (by kernel_rfl)) ?_;try go_wp2
     go_roundg k1
     case measure=>have:=HK1.out;omega
     case rel=>exact⟨(wrap64 (x5_1+1)),u0,H',⟨by have:=HK1.out;omega⟩,⟨uK BK698.out⟩,⟨uB⟩⟩
    ·replace c8:=Bool.eq_false_iff.mpr c8;subst c8;have H1:(some false)=some r:=by rw[if_neg (show ¬(false=true) by decide)] at H;exact H
     clear H;have H:=H1;clear H1;obtain rfl:=Option.some.inj H;(try go_wp2);replace BK698:=aM (blk_drew BK698.out);replace HB:=aM (below_drew1 HB.out);have p699:0≤(x5_1:Int):=uD;have q699:x5_1<(l1.length:Int):=uD;obtain⟨ad699,A699_0,c699_0,e699,hx699_0,hl699_0,hi699_0⟩:=at_L5 HR1.out x5_1 p699 q699;have hw699_0:=hx699_0
     cases e699
     replace hx699_0:=hcell HB.out hx699_0;have HR699_0:=aM hi699_0;have HC699_0:=aM hl699_0;clear hi699_0 hl699_0;replace p699:=eq_true p699;replace q699:=eq_true q699;refine start_ (n:=9) (S:=fun w'=>w'.cell? ⟨gb698,0,none⟩=some (.int .i64 a0_0)∧w'.cell? ⟨gb698,1,none⟩=some (.slice A0_1 l0_1.length c0_1)∧w'.cell? ⟨gb698,2,none⟩=some (.slice A0_2 l0_2.length c0_2)∧w'.cell? (ad699.add (x5_1).toNat)=some (.slice A699_0 (rd_L5 l1 x5_1).length c699_0)) (ds:=[]) (bl 9 0) (by kernel_rfl) rfl rfl ⟨(blk_cell BK698.out 0).trans rfl,(blk_cell BK698.out 1).trans rfl,(blk_cell BK698.out 2).trans rfl,(hcell HB.out hw699_0)⟩ (fun hHeld=>?_);refine with_tabW r7_Runs.tab4 r7_Runs.bits4 (fun HT_ HW_=>?_)
     generalize wr.drew=w13 at BK698 HB HR699_0 hx699_0 hHeld⊢;refine pu 2 14 9 4 ?_;refine pu 3 15 9 12 ?_;refine pu 4 16 9 28 ?_;refine tk4 0 12 9 29 hHeld ?_;refine tk4 1 13 9 31 hHeld ?_;refine tk4 5 17 9 63 hHeld ?_;refine one_ (i:=6) (N:=some 18) (bl 9 127) rfl rfl (one_of HT_.out (by kernel_rfl)) (by decide) (fun K hK=>?_);refine goes_ Tryz.func36 (by kernel_rfl) rfl #[.agg #[.int .i64 a0_0,.slice A0_1 l0_1.length c0_1,.slice A0_2 l0_2.length c0_2],.slice A699_0 (rd_L5 l1 x5_1).length c699_0] (by rfl) rfl rfl uM ?_;(with_reducible refine(r7_Running.calls k1 a0_0 _ _ l0_1 _ _ l0_2 _ _ (rd_L5 l1 x5_1) t700 _ ?side1 ?side2 ?side3 ?side4 ?side5 ?side6 A6.out).mono ?_);(case side1=>exact uY HR0_1 HB);(case side2=>exact HC0_1.out);(case side3=>exact uY HR0_2 HB);(case side4=>exact HC0_2.out);(case side5=>exact uY HR699_0 HB);(case side6=>exact HC699_0.out);rintro e w14 ⟨v701,rfl,ho0,hb⟩;refine⟨_,rfl,?_⟩;have HO702:=aM (Kd.R_lower ho0 (below_size uB));replace BK698:=aM (blk_below (uK BK698.out) hb);replace HB:=aM (below_step uB hb);(try clear hb);(try clear ho0);obtain⟨Ao15,co15,eo15⟩:=Kd.R_slice HO702.out;(first|subst eo15|(injection eo15 with f1_ f2_ f3_;have f4_:=f1_.symm;have f5_:=f3_.symm;clear f1_ f2_ f3_;subst f4_;subst f5_));refine hK.out _ _ ⟨(blk_cell BK698.out 0).trans rfl,(blk_cell BK698.out 1).trans rfl,(blk_cell BK698.out 2).trans rfl,(hcell HB.out hw699_0)⟩ (fun hHeld=>?_);clear hK K;refine nm ?_;refine one_ (i:=7) (N:=some 19) (bl 9 255) rfl rfl (one_of HT_.out (by kernel_rfl)) (by decide) (fun K hK=>?_);refine goes_ Tryz.func31 (by kernel_rfl) rfl #[.agg #[.int .i64 a0_0,.slice A0_1 l0_1.length c0_1,.slice A0_2 l0_2.length c0_2],.slice Ao15 t700.length co15] (by rfl) rfl rfl uM ?_;(with_reducible refine(r7_Fits.calls k1 a0_0 _ _ l0_1 _ _ l0_2 _ _ t700 false _ ?side1 ?side2 ?side3 ?side4 ?side5 ?side6 A7.out).mono ?_);(case side1=>exact uY HR0_1 HB);(case side2=>exact HC0_1.out);(case side3=>exact uY HR0_2 HB);(case side4=>exact HC0_2.out);(case side5=>exact uC ((Kd.R_reads' HO702.out).2.2));(case side6=>exact(Kd.R_reads' HO702.out).2.1);rintro e w16 ⟨rfl,hb⟩;refine⟨_,rfl,?_⟩;replace HO702:=aM (Kd.R_below (uR HO702.out) hb);replace BK698:=aM (blk_below (uK BK698.out) hb);replace HB:=aM (below_step uB hb);(try clear hb);refine hK.out _ _ ⟨(blk_cell BK698.out 0).trans rfl,(blk_cell BK698.out 1).trans rfl,(blk_cell BK698.out 2).trans rfl,(hcell HB.out hw699_0)⟩ (fun hHeld=>?_);clear hK K;refine nm ?_;refine pu 8 20 9 511 ?_;refine done_ (done_of HT_.out (by kernel_rfl)) ?_;(try go_wp2);go_ret;exact⟨uE,uB⟩
   ·rw[if_neg c4] at H;replace c4:=decide_eq_false c4;obtain rfl:=Option.some.inj H;go_wp2;go_ret;exact⟨uE,uB⟩
def r7_instead.l0:Nat→List Int→Int→Int→List Int→Int→Int→List (S77)→List (S51)→Option (List Int)
 |0,_,_,_,_,_,_,_,_=>none
 |k+1,x1,x2,x3,x9,x10,x705000,x705001,x705002=>if x10<(x705002.length:Int) then(if x10=x3 then(if x9.length<17592186044416 then(r7_instead.l0 k x1 x2 x3 (x9++[x10]) (wrap64 (x10+1)) x705000 x705001 x705002) else(none)) else(if x10=x2 then(r7_instead.l0 k x1 x2 x3 x9 (wrap64 (x10+1)) x705000 x705001 x705002) else((r7_Has.f k x1 x10).bind fun t708=>(if t708=true then(if x9.length<17592186044416 then(r7_instead.l0 k x1 x2 x3 (x9++[x10]) (wrap64 (x10+1)) x705000 x705001 x705002) else(none)) else(r7_instead.l0 k x1 x2 x3 x9 (wrap64 (x10+1)) x705000 x705001 x705002))))) else(some x9)
def r7_instead.f (k:Nat) (a0_0:Int) (l0_1:List (S77)) (l0_2:List (S51)) (l1:List Int) (a2:Int) (a3:Int):Option (List Int):=r7_instead.l0 k l1 a2 a3 ([]:List Int) 0 a0_0 l0_1 l0_2
set_option maxHeartbeats 8000000 in
set_option maxRecDepth 100000 in
theorem r7_instead.calls (k:Nat) (a0_0:Int) (A0_1:Option Addr) (c0_1:Nat) (l0_1:List (S77)) (A0_2:Option Addr) (c0_2:Nat) (l0_2:List (S51)) (A1:Option Addr) (c1:Nat) (l1:List Int) (a2:Int) (a3:Int) (r:List Int) (w:World) (hr0_1:Kd.C k77 w A0_1 l0_1.length l0_1) (hc0_1:l0_1.length≤c0_1) (hr0_2:Kd.C k51 w A0_2 l0_2.length l0_2) (hc0_2:l0_2.length≤c0_2) (hr1:Kd.C (Kd.int .i64) w A1 l1.length l1) (hc1:l1.length≤c1) (h:r7_instead.f k a0_0 l0_1 l0_2 l1 a2 a3=some r):
  Calls Tryz.prog 76 #[.agg #[.int .i64 a0_0,.slice A0_1 l0_1.length c0_1,.slice A0_2 l0_2.length c0_2],.slice A1 l1.length c1,.int .i64 a2,.int .i64 a3] w fun e w'=>∃v0_:Value,e=.returned (v0_)∧Kd.R (Kd.int .i64) 3 w' w.heap.size (fun _=>True) v0_ r∧Below w.heap.size w w':=by
 have hu25:=Tryz.underlying25;have HR0_1:=aM hr0_1;have HC0_1:=aM hc0_1;clear hr0_1 hc0_1;have HR0_2:=aM hr0_2;have HC0_2:=aM hc0_2;clear hr0_2 hc0_2;have HR1:=aM hr1;have HC1:=aM hc1;clear hr1 hc1;have HB:=aM (Below.refl w.heap.size w);have H:(r7_instead.l0 k l1 a2 a3 ([]:List Int) 0 a0_0 l0_1 l0_2)=some r:=h;clear h;have H':=aM H;clear H
 go_enter Tryz.func76,Tryz.ntmps76
 go_wp2_with (first|((with_reducible refine gate_dst (N:=4) rfl ?_);refine bxe 4 #[.int .i64 a0_0,.slice A0_1 l0_1.length c0_1,.slice A0_2 l0_2.length c0_2] 25 ?_;intro gb704 hg w5 hbox hb;have n0_:=aM (below_step uB hb);have n1_:=aM (hbox);have n2_:=gw hg;have n3_:=gw hg;clear HB;have HB:=n0_;have BK704:=n1_;have GW704:=n2_;have GE704:=n3_;clear n0_ n1_ n2_ n3_;clear hb hbox hg))
 go_loopg [9,10] k (fun kq v9 v10 w'=>∃(x9_1:List Int) (x10_1:Int),v10=.int .i64 x10_1∧Aside0 (r7_instead.l0 kq l1 a2 a3 x9_1 x10_1 a0_0 l0_1 l0_2=some r)∧Aside0 (kq≤k)∧Aside0 (Kd.R (Kd.int .i64) 3 w' w.heap.size (fun _=>True) v9 x9_1)∧Aside0 (w'.heap[gb704]? =some (.cells #[.int .i64 a0_0,(.slice A0_1 l0_1.length c0_1),(.slice A0_2 l0_2.length c0_2)] 25 (0,0)))∧Aside0 (Below w.heap.size w w'))
 case atStart=>exact⟨(([]:List Int)),(0),u0,H',⟨Nat.le_refl _⟩,⟨uN⟩,⟨uK BK704.out⟩,⟨uB⟩⟩
 case round=>
  clear H';obtain⟨x9_1,x10_1,rfl,HA,HK1,HO_9,BK704,HB⟩:=hrel
  cases gk with
  |zero=>exact absurd HA.out (by simp[r7_instead.l0])
  |succ k1=>
   have H:=HA.out;clear HA;simp only[r7_instead.l0] at H
   by_cases c6:x10_1<(l0_2.length:Int)
   ·rw[if_pos c6] at H;replace c6:=decide_eq_true c6
    by_cases c7:x10_1=a3
    ·rw[if_pos c7] at H;have c7b0:(x10_1==a3)=true:=beq_iff_eq.mpr c7;have c7b1:(x10_1 !=a3)=false:=bne_eq_false_iff_eq.mpr c7;clear c7;obtain⟨c8,H⟩:=ifs H;have LMc8:=aM c8;clear c8;obtain⟨y705,hy705⟩:∃y_:List Int,y_=(x9_1++[x10_1]):=⟨_,rfl⟩;rw[← hy705] at H;(try replace H:=(Option.bind_some _ _).symm.trans H)
     have Ny705:=aM hy705;clear hy705;have H':=aM H;clear H;obtain⟨hcz9_0,hcz9_1,hcz9_2⟩:=cz3 BK704.out;obtain⟨hfz9_0,hfz9_1,hfz9_2⟩:=fz3 BK704.out
     go_wp2_with (first|((with_reducible refine gate_builtin (b:=.append) (xs:=#[.tmp 31,.tmp 33]) rfl ?_);at_builtin;refine Kd.R_append (Kd.int .i64) (w0:=w) w.heap.size rfl (.tmp 31) (.tmp 33) 30 3 (.int .i64 0) 8 rfl Tryz.underlying30 info3 rfl (by decide) (by omega) u9 x9_1 x10_1 [.int .i64 x10_1] (fun _=>True) (fun _=>False) rfl rfl ?aP (fun _ hk=>hk.elim) ?aF ?aO ?aB ?aS ?aL ?_;(case aP=>exact rfl);(case aB=>exact uB);(case aF=>exact(fun _ _=>trivial));(case aO=>exact(uR HO_9.out));(case aS=>exact(below_size uB));(case aL=>have:=LMc8.out;omega);intro v706 w10 ho hb hg hat;rw[← Ny705.out] at ho;replace BK704:=aM (blk_grown (uK BK704.out) hg (Kd.R_ne HO_9.out BK704.out (by decide)));have HO707:=aM (ho);replace HB:=aM (hb);clear HO_9;clear ho hb hg hat))
     go_roundg k1
     case measure=>have:=HK1.out;omega
     case rel=>exact⟨(y705),(wrap64 (x10_1+1)),u0,H',⟨by have:=HK1.out;omega⟩,⟨uR HO707.out⟩,⟨uK BK704.out⟩,⟨uB⟩⟩
    ·rw[if_neg c7] at H;have c7b0:(x10_1==a3)=false:=beq_eq_false_iff_ne.mpr c7;have c7b1:(x10_1 !=a3)=true:=bne_iff_ne.mpr c7
     by_cases c11:x10_1=a2
     ·rw[if_pos c11] at H;have c11b0:(x10_1==a2)=true:=beq_iff_eq.mpr c11;have c11b1:(x10_1 !=a2)=false:=bne_eq_false_iff_eq.mpr c11;clear c11;have H':=aM H;clear H;obtain⟨hcz12_0,hcz12_1,hcz12_2⟩:=cz3 BK704.out;obtain⟨hfz12_0,hfz12_1,hfz12_2⟩:=fz3 BK704.out;go_wp2
      go_roundg k1
      case measure=>have:=HK1.out;omega
      case rel=>exact⟨(x9_1),(wrap64 (x10_1+1)),u0,H',⟨by have:=HK1.out;omega⟩,⟨uR HO_9.out⟩,⟨uK BK704.out⟩,⟨uB⟩⟩
     ·rw[if_neg c11] at H;have c11b0:(x10_1==a2)=false:=beq_eq_false_iff_ne.mpr c11;have c11b1:(x10_1 !=a2)=true:=bne_iff_ne.mpr c11;replace H:=Option.bind_eq_some_iff.mp H;obtain⟨t708,A130,H⟩:=H;replace H:(if t708=true then(if x9_1.length<17592186044416 then(r7_instead.l0 k1 l1 a2 a3 (x9_1++[x10_1]) (wrap64 (x10_1+1)) a0_0 l0_1 l0_2) else(none)) else(r7_instead.l0 k1 l1 a2 a3 x9_1 (wrap64 (x10_1+1)) a0_0 l0_1 l0_2))=some r:=H;have A13:=aM A130;clear A130
      by_cases c14:t708=true
      ·subst c14;have H1:(if x9_1.length<17592186044416 then(r7_instead.l0 k1 l1 a2 a3 (x9_1++[x10_1]) (wrap64 (x10_1+1)) a0_0 l0_1 l0_2) else(none))=some r:=by rw[if_pos rfl] at H;exact H
       clear H;have H:=H1;clear H1;obtain⟨c15,H⟩:=ifs H;have LMc15:=aM c15;clear c15;obtain⟨y709,hy709⟩:∃y_:List Int,y_=(x9_1++[x10_1]):=⟨_,rfl⟩;rw[← hy709] at H;(try replace H:=(Option.bind_some _ _).symm.trans H)
       have Ny709:=aM hy709;clear hy709;have H':=aM H;clear H;obtain⟨hcz16_0,hcz16_1,hcz16_2⟩:=cz3 BK704.out;obtain⟨hfz16_0,hfz16_1,hfz16_2⟩:=fz3 BK704.out
       go_wp2_with (first|(go_at_call 23;(with_reducible refine(r7_Has.calls k1 _ _ l1 x10_1 true _ ?side1 ?side2 A13.out).mono ?_);(case side1=>exact uY HR1 HB);(case side2=>exact HC1.out);rintro e w' ⟨rfl,⟨nd,rfl⟩⟩)|((with_reducible refine gate_builtin (b:=.append) (xs:=#[.tmp 31,.tmp 33]) rfl ?_);at_builtin;refine Kd.R_append (Kd.int .i64) (w0:=w) w.heap.size rfl (.tmp 31) (.tmp 33) 30 3 (.int .i64 0) 8 rfl Tryz.underlying30 info3 rfl (by decide) (by omega) u9 x9_1 x10_1 [.int .i64 x10_1] (fun _=>True) (fun _=>False) rfl rfl ?aP (fun _ hk=>hk.elim) ?aF ?aO ?aB ?aS ?aL ?_;(case aP=>exact rfl);(case aB=>exact uB);(case aF=>exact(fun _ _=>trivial));(case aO=>exact(uR HO_9.out));(case aS=>exact(below_size uB));(case aL=>have:=LMc15.out;omega);intro v710 w17 ho hb hg hat;rw[← Ny709.out] at ho;replace BK704:=aM (blk_grown (uK BK704.out) hg (Kd.R_ne HO_9.out BK704.out (by decide)));have HO711:=aM (ho);replace HB:=aM (hb);clear HO_9;clear ho hb hg hat))
       go_roundg k1
       case measure=>have:=HK1.out;omega
       case rel=>exact⟨(y709),(wrap64 (x10_1+1)),u0,H',⟨by have:=HK1.out;omega⟩,⟨uR HO711.out⟩,⟨uK BK704.out⟩,⟨uB⟩⟩
      ·replace c14:=Bool.eq_false_iff.mpr c14;subst c14;have H1:(r7_instead.l0 k1 l1 a2 a3 x9_1 (wrap64 (x10_1+1)) a0_0 l0_1 l0_2)=some r:=by rw[if_neg (show ¬(false=true) by decide)] at H;exact H
       clear H;have H:=H1;clear H1;have H':=aM H;clear H;obtain⟨hcz18_0,hcz18_1,hcz18_2⟩:=cz3 BK704.out;obtain⟨hfz18_0,hfz18_1,hfz18_2⟩:=fz3 BK704.out
       go_wp2_with (first|(go_at_call 23;(with_reducible refine(r7_Has.calls k1 _ _ l1 x10_1 false _ ?side1 ?side2 A13.out).mono ?_);(case side1=>exact uY HR1 HB);(case side2=>exact HC1.out);rintro e w' ⟨rfl,⟨nd,rfl⟩⟩))
       go_roundg k1
       case measure=>have:=HK1.out;omega
       case rel=>exact⟨(x9_1),(wrap64 (x10_1+1)),u0,H',⟨by have:=HK1.out;omega⟩,⟨uR HO_9.out⟩,⟨uK BK704.out⟩,⟨uB⟩⟩
   ·rw[if_neg c6] at H;replace c6:=decide_eq_false c6;obtain rfl:=Option.some.inj H;obtain⟨hcz19_0,hcz19_1,hcz19_2⟩:=cz3 BK704.out;obtain⟨hfz19_0,hfz19_1,hfz19_2⟩:=fz3 BK704.out;go_wp2;go_ret;exact⟨_,uE,uR HO_9.out,uB⟩
mutual
def r7_Swapped.j0:Nat→List (List Int)→Int→Int→Int→Int→Bool→Int→List (S77)→List (S51)→Option ((List (List Int))×Bool)
 |0,_,_,_,_,_,_,_,_,_=>none
 |k+1,x1,x2,x3,x4,x5,x53,x713000,x713001,x713002=>if x53=true then(some (([]:List (List Int)),false)) else(r7_Swapped.l0 k x1 x2 x3 x4 x5 ([]:List (List Int)) 0 x713000 x713001 x713002)
def r7_Swapped.l0:Nat→List (List Int)→Int→Int→Int→Int→List (List Int)→Int→Int→List (S77)→List (S51)→Option ((List (List Int))×Bool)
 |0,_,_,_,_,_,_,_,_,_,_=>none
 |k+1,x1,x2,x3,x4,x5,x14,x15,x713000,x713001,x713002=>if x15<(x1.length:Int) then(if 0≤x15 then(if ([]:List Int).length+(rd_L5 x1 x15).length<17592186044416 then(if x15=x4 then((r7_instead.f k x713000 x713001 x713002 (rd_L5 x1 x15) x2 x3).bind fun t727=>(if x15=x5 then((r7_instead.f k x713000 x713001 x713002 (rd_L5 x1 x15) x3 x2).bind fun t731=>(if x14.length<5864062014805 then(r7_Swapped.l0 k x1 x2 x3 x4 x5 (x14++[t731]) (wrap64 (x15+1)) x713000 x713001 x713002) else(none))) else(if x14.length<5864062014805 then(r7_Swapped.l0 k x1 x2 x3 x4 x5 (x14++[t727]) (wrap64 (x15+1)) x713000 x713001 x713002) else(none)))) else(if x15=x5 then((r7_instead.f k x713000 x713001 x713002 (rd_L5 x1 x15) x3 x2).bind fun t741=>(if x14.length<5864062014805 then(r7_Swapped.l0 k x1 x2 x3 x4 x5 (x14++[t741]) (wrap64 (x15+1)) x713000 x713001 x713002) else(none))) else(if x14.length<5864062014805 then(r7_Swapped.l0 k x1 x2 x3 x4 x5 (x14++[(([]:List Int)++(rd_L5 x1 x15))]) (wrap64 (x15+1)) x713000 x713001 x713002) else(none)))) else(none)) else(none)) else((r7_Runs.f k x713000 x713001 x713002 x14).bind fun t721=>(some (x14,t721)))
end
def r7_Swapped.f (k:Nat) (a0_0:Int) (l0_1:List (S77)) (l0_2:List (S51)) (l1:List (List Int)) (a2:Int) (a3:Int) (a4:Int) (a5:Int):Option ((List (List Int))×Bool):=if a4=a5 then(r7_Swapped.j0 k l1 a2 a3 a4 a5 true a0_0 l0_1 l0_2) else(if 0≤a4 then(if a4<(l1.length:Int) then((r7_Has.f k (rd_L5 l1 a4) a2).bind fun t714=>(if t714=true then((r7_Has.f k (rd_L5 l1 a4) a3).bind fun t716=>(if t716=true then(r7_Swapped.j0 k l1 a2 a3 a4 a5 true a0_0 l0_1 l0_2) else(if 0≤a5 then(if a5<(l1.length:Int) then((r7_Has.f k (rd_L5 l1 a5) a3).bind fun t718=>(if t718=true then((r7_Has.f k (rd_L5 l1 a5) a2).bind fun t720=>(r7_Swapped.j0 k l1 a2 a3 a4 a5 t720 a0_0 l0_1 l0_2)) else(r7_Swapped.j0 k l1 a2 a3 a4 a5 true a0_0 l0_1 l0_2))) else(none)) else(none)))) else(r7_Swapped.j0 k l1 a2 a3 a4 a5 true a0_0 l0_1 l0_2))) else(none)) else(none))
def r7_Swapped.T9:Bool×List (List Nat×List Nat):=(true,[([],[]),([],[]),([],[]),([1,2],[1,2]),([3],[3]),([],[]),([],[]),([0,4,5,6],[0,4,5,6]),([7,7,0,1,2,3,4,5,6,7],[7])])
def r7_Swapped.B9:List Nat:=[0,0,0,6,14,0,0,127,255]
theorem r7_Swapped.tab9:rtab .any (opsOf Tryz.f38 9)=r7_Swapped.T9:=by kernel_rfl
theorem r7_Swapped.bits9:waitsOk r7_Swapped.T9.2 r7_Swapped.B9=true:=by kernel_rfl
def r7_Swapped.T11:Bool×List (List Nat×List Nat):=(true,[([],[]),([],[]),([],[]),([1,2],[1,2]),([3],[3]),([],[]),([],[]),([0,4,5,6],[0,4,5,6]),([7,7,0,1,2,3,4,5,6,7],[7])])
def r7_Swapped.B11:List Nat:=[0,0,0,6,14,0,0,127,255]
theorem r7_Swapped.tab11:rtab .any (opsOf Tryz.f38 11)=r7_Swapped.T11:=by kernel_rfl
theorem r7_Swapped.bits11:waitsOk r7_Swapped.T11.2 r7_Swapped.B11=true:=by kernel_rfl
set_option maxHeartbeats 8000000 in
set_option maxRecDepth 100000 in
theorem r7_Swapped.calls (k:Nat) (a0_0:Int) (A0_1:Option Addr) (c0_1:Nat) (l0_1:List (S77)) (A0_2:Option Addr) (c0_2:Nat) (l0_2:List (S51)) (A1:Option Addr) (c1:Nat) (l1:List (List Int)) (a2:Int) (a3:Int) (a4:Int) (a5:Int) (r1:List (List Int)) (r2:Bool) (w:World) (hr0_1:Kd.C k77 w A0_1 l0_1.length l0_1) (hc0_1:l0_1.length≤c0_1) (hr0_2:Kd.C k51 w A0_2 l0_2.length l0_2) (hc0_2:l0_2.length≤c0_2) (hr1:Kd.C (Kd.slice 3 (Kd.int .i64)) w A1 l1.length l1) (hc1:l1.length≤c1) (h:r7_Swapped.f k a0_0 l0_1 l0_2 l1 a2 a3 a4 a5=some (r1,r2)):
  Calls Tryz.prog 38 #[.agg #[.int .i64 a0_0,.slice A0_1 l0_1.length c0_1,.slice A0_2 l0_2.length c0_2],.slice A1 l1.length c1,.int .i64 a2,.int .i64 a3,.int .i64 a4,.int .i64 a5] w fun e w'=>∃v0_:Value,e=.returned (.tuple #[v0_,.bool r2])∧Kd.S (Kd.slice 3 (Kd.int .i64)) 30 w' w.heap.size (fun _=>True) v0_ r1∧Below w.heap.size w w':=by
 have hu25:=Tryz.underlying25;have HR0_1:=aM hr0_1;have HC0_1:=aM hc0_1;clear hr0_1 hc0_1;have HR0_2:=aM hr0_2;have HC0_2:=aM hc0_2;clear hr0_2 hc0_2;have HR1:=aM hr1;have HC1:=aM hc1;clear hr1 hc1;have HB:=aM (Below.refl w.heap.size w);have H:(if a4=a5 then(r7_Swapped.j0 k l1 a2 a3 a4 a5 true a0_0 l0_1 l0_2) else(if 0≤a4 then(if a4<(l1.length:Int) then((r7_Has.f k (rd_L5 l1 a4) a2).bind fun t714=>(if t714=true then((r7_Has.f k (rd_L5 l1 a4) a3).bind fun t716=>(if t716=true then(r7_Swapped.j0 k l1 a2 a3 a4 a5 true a0_0 l0_1 l0_2) else(if 0≤a5 then(if a5<(l1.length:Int) then((r7_Has.f k (rd_L5 l1 a5) a3).bind fun t718=>(if t718=true then((r7_Has.f k (rd_L5 l1 a5) a2).bind fun t720=>(r7_Swapped.j0 k l1 a2 a3 a4 a5 t720 a0_0 l0_1 l0_2)) else(r7_Swapped.j0 k l1 a2 a3 a4 a5 true a0_0 l0_1 l0_2))) else(none)) else(none)))) else(r7_Swapped.j0 k l1 a2 a3 a4 a5 true a0_0 l0_1 l0_2))) else(none)) else(none)))=some (r1,r2):=h;clear h;have HC7:=aM H;clear H
 go_enter Tryz.func38,Tryz.ntmps38
 go_upto_region 1 with(first|((with_reducible refine gate_dst (N:=6) rfl ?_);refine bxe 6 #[.int .i64 a0_0,.slice A0_1 l0_1.length c0_1,.slice A0_2 l0_2.length c0_2] 25 ?_;intro gb712 hg w8 hbox hb;have n0_:=aM (below_step uB hb);have n1_:=aM (hbox);have n2_:=gw hg;have n3_:=gw hg;clear HB;have HB:=n0_;have BK712:=n1_;have GW712:=n2_;have GE712:=n3_;clear n0_ n1_ n2_ n3_;clear hb hbox hg))
 (try simp only[Act.put,List.setIfInBounds_toArray,List.set_cons_zero,List.set_cons_succ])
 go_cut [53] (fun v53 wc=>∃(kq:Nat) (x53_6:Bool),v53=.bool x53_6∧Aside0 (r7_Swapped.j0 kq l1 a2 a3 a4 a5 x53_6 a0_0 l0_1 l0_2=some (r1,r2))∧Aside0 (kq≤k)∧Aside0 (wc.heap[gb712]? =some (.cells #[.int .i64 a0_0,(.slice A0_1 l0_1.length c0_1),(.slice A0_2 l0_2.length c0_2)] 25 (0,0)))∧Aside0 (Below w.heap.size w wc))
 case first=>
  have H:=HC7.out;clear HC7
  by_cases c9:a4=a5
  ·rw[if_pos c9] at H;have c9b0:(a4==a5)=true:=beq_iff_eq.mpr c9;have c9b1:(a4 !=a5)=false:=bne_eq_false_iff_eq.mpr c9;clear c9;(first|rw[c9b0]|(simp only[i64_w,i32_w];rw[c9b0])|skip);have H':=aM H;clear H;go_wp2
   go_meet
   case rel=>exact⟨_,(true),u0,H',⟨u1⟩,⟨uK BK712.out⟩,⟨uB⟩⟩
  ·rw[if_neg c9] at H;have c9b0:(a4==a5)=false:=beq_eq_false_iff_ne.mpr c9;have c9b1:(a4 !=a5)=true:=bne_iff_ne.mpr c9;(first|rw[c9b0]|(simp only[i64_w,i32_w];rw[c9b0])|skip);obtain⟨c10,H⟩:=ifs H;replace c10:=decide_eq_true c10;obtain⟨c11,H⟩:=ifs H;replace c11:=decide_eq_true c11;replace H:=Option.bind_eq_some_iff.mp H;obtain⟨t714,A120,H⟩:=H;replace H:(if t714=true then((r7_Has.f k (rd_L5 l1 a4) a3).bind fun t716=>(if t716=true then(r7_Swapped.j0 k l1 a2 a3 a4 a5 true a0_0 l0_1 l0_2) else(if 0≤a5 then(if a5<(l1.length:Int) then((r7_Has.f k (rd_L5 l1 a5) a3).bind fun t718=>(if t718=true then((r7_Has.f k (rd_L5 l1 a5) a2).bind fun t720=>(r7_Swapped.j0 k l1 a2 a3 a4 a5 t720 a0_0 l0_1 l0_2)) else(r7_Swapped.j0 k l1 a2 a3 a4 a5 true a0_0 l0_1 l0_2))) else(none)) else(none)))) else(r7_Swapped.j0 k l1 a2 a3 a4 a5 true a0_0 l0_1 l0_2))=some (r1,r2):=H;have A12:=aM A120;clear A120
   by_cases c13:t714=true
   ·subst c13;have H1:((r7_Has.f k (rd_L5 l1 a4) a3).bind fun t716=>(if t716=true then(r7_Swapped.j0 k l1 a2 a3 a4 a5 true a0_0 l0_1 l0_2) else(if 0≤a5 then(if a5<(l1.length:Int) then((r7_Has.f k (rd_L5 l1 a5) a3).bind fun t718=>(if t718=true then((r7_Has.f k (rd_L5 l1 a5) a2).bind fun t720=>(r7_Swapped.j0 k l1 a2 a3 a4 a5 t720 a0_0 l0_1 l0_2)) else(r7_Swapped.j0 k l1 a2 a3 a4 a5 true a0_0 l0_1 l0_2))) else(none)) else(none))))=some (r1,r2):=by rw[if_pos rfl] at H;exact H
    clear H;have H:=H1;clear H1;replace H:=Option.bind_eq_some_iff.mp H;obtain⟨t716,A140,H⟩:=H;replace H:(if t716=true then(r7_Swapped.j0 k l1 a2 a3 a4 a5 true a0_0 l0_1 l0_2) else(if 0≤a5 then(if a5<(l1.length:Int) then((r7_Has.f k (rd_L5 l1 a5) a3).bind fun t718=>(if t718=true then((r7_Has.f k (rd_L5 l1 a5) a2).bind fun t720=>(r7_Swapped.j0 k l1 a2 a3 a4 a5 t720 a0_0 l0_1 l0_2)) else(r7_Swapped.j0 k l1 a2 a3 a4 a5 true a0_0 l0_1 l0_2))) else(none)) else(none)))=some (r1,r2):=H;have A14:=aM A140;clear A140
    by_cases c15:t716=true
    ·subst c15;have H1:(r7_Swapped.j0 k l1 a2 a3 a4 a5 true a0_0 l0_1 l0_2)=some (r1,r2):=by rw[if_pos rfl] at H;exact H
     clear H;have H:=H1;clear H1;have H':=aM H;clear H;have p713:0≤(a4:Int):=uD;have q713:a4<(l1.length:Int):=uD;obtain⟨ad713,A713_0,c713_0,e713,hx713_0,hl713_0,hi713_0⟩:=at_L5 HR1.out a4 p713 q713
     cases e713
     replace hx713_0:=hcell HB.out hx713_0;have HR713_0:=aM hi713_0;have HC713_0:=aM hl713_0;clear hi713_0 hl713_0;replace p713:=eq_true p713;replace q713:=eq_true q713
     go_wp2_with (first|(go_at_call 23;(with_reducible refine(r7_Has.calls k _ _ (rd_L5 l1 a4) a2 true _ ?side1 ?side2 A12.out).mono ?_);(case side1=>exact uY HR713_0 HB);(case side2=>exact HC713_0.out);rintro e w' ⟨rfl,⟨nd,rfl⟩⟩;have p715:0≤(a4:Int):=uD;have q715:a4<(l1.length:Int):=uD;obtain⟨ad715,A715_0,c715_0,e715,hx715_0,hl715_0,hi715_0⟩:=at_L5 HR1.out a4 p715 q715;obtain rfl:ad713=ad715:=(by injection e715);replace hx715_0:=hcell HB.out hx715_0;have HR715_0:=aM hi715_0;have HC715_0:=aM hl715_0;clear hi715_0 hl715_0;replace p715:=eq_true p715;replace q715:=eq_true q715;have ea_:=Option.some.inj (hx713_0.symm.trans hx715_0);injection ea_ with ea_ en_ ec_;subst ea_;subst ec_;clear en_)|(go_at_call 23;(with_reducible refine(r7_Has.calls k _ _ (rd_L5 l1 a4) a3 true _ ?side1 ?side2 A14.out).mono ?_);(case side1=>exact uC (Kd.C_below HR715_0.out uB));(case side2=>exact HC715_0.out);rintro e w' ⟨rfl,⟨nd,rfl⟩⟩))
     go_meet
     case rel=>exact⟨_,(true),u0,H',⟨u1⟩,⟨uK BK712.out⟩,⟨uB⟩⟩
    ·replace c15:=Bool.eq_false_iff.mpr c15;subst c15;have H1:(if 0≤a5 then(if a5<(l1.length:Int) then((r7_Has.f k (rd_L5 l1 a5) a3).bind fun t718=>(if t718=true then((r7_Has.f k (rd_L5 l1 a5) a2).bind fun t720=>(r7_Swapped.j0 k l1 a2 a3 a4 a5 t720 a0_0 l0_1 l0_2)) else(r7_Swapped.j0 k l1 a2 a3 a4 a5 true a0_0 l0_1 l0_2))) else(none)) else(none))=some (r1,r2):=by rw[if_neg (show ¬(false=true) by decide)] at H;exact H
     clear H;have H:=H1;clear H1;obtain⟨c16,H⟩:=ifs H;replace c16:=decide_eq_true c16;obtain⟨c17,H⟩:=ifs H;replace c17:=decide_eq_true c17;replace H:=Option.bind_eq_some_iff.mp H;obtain⟨t718,A180,H⟩:=H;replace H:(if t718=true then((r7_Has.f k (rd_L5 l1 a5) a2).bind fun t720=>(r7_Swapped.j0 k l1 a2 a3 a4 a5 t720 a0_0 l0_1 l0_2)) else(r7_Swapped.j0 k l1 a2 a3 a4 a5 true a0_0 l0_1 l0_2))=some (r1,r2):=H;have A18:=aM A180;clear A180
     by_cases c19:t718=true
     ·subst c19;have H1:((r7_Has.f k (rd_L5 l1 a5) a2).bind fun t720=>(r7_Swapped.j0 k l1 a2 a3 a4 a5 t720 a0_0 l0_1 l0_2))=some (r1,r2):=by rw[if_pos rfl] at H;exact H
      clear H;have H:=H1;clear H1;replace H:=Option.bind_eq_some_iff.mp H;obtain⟨t720,A200,H⟩:=H;replace H:(r7_Swapped.j0 k l1 a2 a3 a4 a5 t720 a0_0 l0_1 l0_2)=some (r1,r2):=H;have A20:=aM A200;clear A200;have H':=aM H;clear H;have p713:0≤(a4:Int):=uD;have q713:a4<(l1.length:Int):=uD;obtain⟨ad713,A713_0,c713_0,e713,hx713_0,hl713_0,hi713_0⟩:=at_L5 HR1.out a4 p713 q713
      cases e713
      replace hx713_0:=hcell HB.out hx713_0;have HR713_0:=aM hi713_0;have HC713_0:=aM hl713_0;clear hi713_0 hl713_0;replace p713:=eq_true p713;replace q713:=eq_true q713
      go_wp2_with (first|(go_at_call 23;(with_reducible refine(r7_Has.calls k _ _ (rd_L5 l1 a4) a2 true _ ?side1 ?side2 A12.out).mono ?_);(case side1=>exact uY HR713_0 HB);(case side2=>exact HC713_0.out);rintro e w' ⟨rfl,⟨nd,rfl⟩⟩;have p715:0≤(a4:Int):=uD;have q715:a4<(l1.length:Int):=uD;obtain⟨ad715,A715_0,c715_0,e715,hx715_0,hl715_0,hi715_0⟩:=at_L5 HR1.out a4 p715 q715;obtain rfl:ad713=ad715:=(by injection e715);replace hx715_0:=hcell HB.out hx715_0;have HR715_0:=aM hi715_0;have HC715_0:=aM hl715_0;clear hi715_0 hl715_0;replace p715:=eq_true p715;replace q715:=eq_true q715;have ea_:=Option.some.inj (hx713_0.symm.trans hx715_0);injection ea_ with ea_ en_ ec_;subst ea_;subst ec_;clear en_)|(go_at_call 23;(with_reducible refine(r7_Has.calls k _ _ (rd_L5 l1 a4) a3 false _ ?side1 ?side2 A14.out).mono ?_);(case side1=>exact uC (Kd.C_below HR715_0.out uB));(case side2=>exact HC715_0.out);rintro e w' ⟨rfl,⟨nd,rfl⟩⟩;have p717:0≤(a5:Int):=uD;have q717:a5<(l1.length:Int):=uD;obtain⟨ad717,A717_0,c717_0,e717,hx717_0,hl717_0,hi717_0⟩:=at_L5 HR1.out a5 p717 q717;obtain rfl:ad713=ad717:=(by injection e717);replace hx717_0:=hcell HB.out hx717_0;have HR717_0:=aM hi717_0;have HC717_0:=aM hl717_0;clear hi717_0 hl717_0;replace p717:=eq_true p717;replace q717:=eq_true q717)|(go_at_call 23;(with_reducible refine(r7_Has.calls k _ _ (rd_L5 l1 a5) a3 true _ ?side1 ?side2 A18.out).mono ?_);(case side1=>exact uC (Kd.C_below HR717_0.out uB));(case side2=>exact HC717_0.out);rintro e w' ⟨rfl,⟨nd,rfl⟩⟩;have p719:0≤(a5:Int):=uD;have q719:a5<(l1.length:Int):=uD;obtain⟨ad719,A719_0,c719_0,e719,hx719_0,hl719_0,hi719_0⟩:=at_L5 HR1.out a5 p719 q719;obtain rfl:ad713=ad719:=(by injection e719);replace hx719_0:=hcell HB.out hx719_0;have HR719_0:=aM hi719_0;have HC719_0:=aM hl719_0;clear hi719_0 hl719_0;replace p719:=eq_true p719;replace q719:=eq_true q719;have ea_:=Option.some.inj (hx717_0.symm.trans hx719_0);injection ea_ with ea_ en_ ec_;subst ea_;subst ec_;clear en_)|(go_at_call 23;(with_reducible refine(r7_Has.calls k _ _ (rd_L5 l1 a5) a2 t720 _ ?side1 ?side2 A20.out).mono ?_);(case side1=>exact uC (Kd.C_below HR719_0.out uB));(case side2=>exact HC719_0.out);rintro e w' ⟨rfl,⟨nd,rfl⟩⟩))
      go_meet
      case rel=>exact⟨_,(t720),u0,H',⟨u1⟩,⟨uK BK712.out⟩,⟨uB⟩⟩
     ·replace c19:=Bool.eq_false_iff.mpr c19;subst c19;have H1:(r7_Swapped.j0 k l1 a2 a3 a4 a5 true a0_0 l0_1 l0_2)=some (r1,r2):=by rw[if_neg (show ¬(false=true) by decide)] at H;exact H
      clear H;have H:=H1;clear H1;have H':=aM H;clear H;have p713:0≤(a4:Int):=uD;have q713:a4<(l1.length:Int):=uD;obtain⟨ad713,A713_0,c713_0,e713,hx713_0,hl713_0,hi713_0⟩:=at_L5 HR1.out a4 p713 q713
      cases e713
      replace hx713_0:=hcell HB.out hx713_0;have HR713_0:=aM hi713_0;have HC713_0:=aM hl713_0;clear hi713_0 hl713_0;replace p713:=eq_true p713;replace q713:=eq_true q713
      go_wp2_with (first|(go_at_call 23;(with_reducible refine(r7_Has.calls k _ _ (rd_L5 l1 a4) a2 true _ ?side1 ?side2 A12.out).mono ?_);(case side1=>exact uY HR713_0 HB);(case side2=>exact HC713_0.out);rintro e w' ⟨rfl,⟨nd,rfl⟩⟩;have p715:0≤(a4:Int):=uD;have q715:a4<(l1.length:Int):=uD;obtain⟨ad715,A715_0,c715_0,e715,hx715_0,hl715_0,hi715_0⟩:=at_L5 HR1.out a4 p715 q715;obtain rfl:ad713=ad715:=(by injection e715);replace hx715_0:=hcell HB.out hx715_0;have HR715_0:=aM hi715_0;have HC715_0:=aM hl715_0;clear hi715_0 hl715_0;replace p715:=eq_true p715;replace q715:=eq_true q715;have ea_:=Option.some.inj (hx713_0.symm.trans hx715_0);injection ea_ with ea_ en_ ec_;subst ea_;subst ec_;clear en_)|(go_at_call 23;(with_reducible refine(r7_Has.calls k _ _ (rd_L5 l1 a4) a3 false _ ?side1 ?side2 A14.out).mono ?_);(case side1=>exact uC (Kd.C_below HR715_0.out uB));(case side2=>exact HC715_0.out);rintro e w' ⟨rfl,⟨nd,rfl⟩⟩;have p717:0≤(a5:Int):=uD;have q717:a5<(l1.length:Int):=uD;obtain⟨ad717,A717_0,c717_0,e717,hx717_0,hl717_0,hi717_0⟩:=at_L5 HR1.out a5 p717 q717;obtain rfl:ad713=ad717:=(by injection e717);replace hx717_0:=hcell HB.out hx717_0;have HR717_0:=aM hi717_0;have HC717_0:=aM hl717_0;clear hi717_0 hl717_0;replace p717:=eq_true p717;replace q717:=eq_true q717)|(go_at_call 23;(with_reducible refine(r7_Has.calls k _ _ (rd_L5 l1 a5) a3 false _ ?side1 ?side2 A18.out).mono ?_);(case side1=>exact uC (Kd.C_below HR717_0.out uB));(case side2=>exact HC717_0.out);rintro e w' ⟨rfl,⟨nd,rfl⟩⟩))
      go_meet
      case rel=>exact⟨_,(true),u0,H',⟨u1⟩,⟨uK BK712.out⟩,⟨uB⟩⟩
   ·replace c13:=Bool.eq_false_iff.mpr c13;subst c13;have H1:(r7_Swapped.j0 k l1 a2 a3 a4 a5 true a0_0 l0_1 l0_2)=some (r1,r2):=by rw[if_neg (show ¬(false=true) by decide)] at H;exact H
    clear H;have H:=H1;clear H1;have H':=aM H;clear H;have p713:0≤(a4:Int):=uD;have q713:a4<(l1.length:Int):=uD;obtain⟨ad713,A713_0,c713_0,e713,hx713_0,hl713_0,hi713_0⟩:=at_L5 HR1.out a4 p713 q713
    cases e713
    replace hx713_0:=hcell HB.out hx713_0;have HR713_0:=aM hi713_0;have HC713_0:=aM hl713_0;clear hi713_0 hl713_0;replace p713:=eq_true p713;replace q713:=eq_true q713
    go_wp2_with (first|(go_at_call 23;(with_reducible refine(r7_Has.calls k _ _ (rd_L5 l1 a4) a2 false _ ?side1 ?side2 A12.out).mono ?_);(case side1=>exact uY HR713_0 HB);(case side2=>exact HC713_0.out);rintro e w' ⟨rfl,⟨nd,rfl⟩⟩))
    go_meet
    case rel=>exact⟨_,(true),u0,H',⟨u1⟩,⟨uK BK712.out⟩,⟨uB⟩⟩
 case rest=>
  clear HC7;try clear c1;try clear p2;try clear c3;try clear c7;try clear p7;try clear q7;try clear hx7;try clear c9;try clear c9b0;try clear c9b1;try clear c10;try clear c10b0;try clear c11;try clear c11b0;try clear c13;try clear c15;try clear c16;try clear c16b0;try clear c17;try clear c17b0;try clear c19;try clear hx713_0;try clear hx715_0;try clear hx717_0;try clear hx719_0;try clear p713;try clear p715;try clear p717;try clear p719;try clear q713;try clear q715;try clear q717;try clear q719
  obtain⟨kq,x53_6,rfl,HA,HJ6,BK712,HB⟩:=hcut
  cases kq with
  |zero=>exact absurd HA.out (by simp[r7_Swapped.j0])
  |succ kj6=>
   have H:=HA.out;clear HA;simp only[r7_Swapped.j0] at H
   by_cases c21:x53_6=true
   ·subst c21;have H1:(some (([]:List (List Int)),false))=some (r1,r2):=by rw[if_pos rfl] at H;exact H
    clear H;have H:=H1;clear H1;simp only[Option.some.injEq,Prod.mk.injEq] at H;obtain⟨rfl,rfl⟩:=H;go_wp2
    go_ret2
    exact⟨_,uE,by first|exact Kd.S_nil _ _ _ _ _|exact Kd.N_nil _ _ _ _ _|exact Kd.V_nil _ _ _ _ _|exact Kd.Q_nil _ _ _ _ _|exact Kd.R_nil _ _ _ _ _,uB⟩
   ·replace c21:=Bool.eq_false_iff.mpr c21;subst c21;have H1:(r7_Swapped.l0 kj6 l1 a2 a3 a4 a5 ([]:List (List Int)) 0 a0_0 l0_1 l0_2)=some (r1,r2):=by rw[if_neg (show ¬(false=true) by decide)] at H;exact H
    clear H;have H:=H1;clear H1;have H':=aM H;clear H;go_wp2
    go_loopg [14,15] kj6 (fun kq v14 v15 w'=>∃(x14_2:List (List Int)) (x15_2:Int),v15=.int .i64 x15_2∧Aside0 (r7_Swapped.l0 kq l1 a2 a3 a4 a5 x14_2 x15_2 a0_0 l0_1 l0_2=some (r1,r2))∧Aside0 (kq≤kj6)∧Aside0 (Kd.S (Kd.slice 3 (Kd.int .i64)) 30 w' w.heap.size (fun _=>True) v14 x14_2)∧Aside0 (w'.heap[gb712]? =some (.cells #[.int .i64 a0_0,(.slice A0_1 l0_1.length c0_1),(.slice A0_2 l0_2.length c0_2)] 25 (0,0)))∧Aside0 (Below w.heap.size w w'))
    case atStart=>exact⟨(([]:List (List Int))),(0),u0,H',⟨Nat.le_refl _⟩,⟨by first|exact Kd.S_nil _ _ _ _ _|exact Kd.N_nil _ _ _ _ _|exact Kd.V_nil _ _ _ _ _|exact Kd.Q_nil _ _ _ _ _|exact Kd.R_nil _ _ _ _ _⟩,⟨uK BK712.out⟩,⟨uB⟩⟩
    case round=>
     clear H';obtain⟨x14_2,x15_2,rfl,HA,HK2,HO_14,BK712,HB⟩:=hrel
     cases gk with
     |zero=>exact absurd HA.out (by simp[r7_Swapped.l0])
     |succ k2=>
      have H:=HA.out;clear HA;simp only[r7_Swapped.l0] at H
      by_cases c22:x15_2<(l1.length:Int)
      ·rw[if_pos c22] at H;replace c22:=decide_eq_true c22;obtain⟨c23,H⟩:=ifs H;replace c23:=decide_eq_true c23;obtain⟨c24,H⟩:=ifs H;have LMc24:=aM c24;clear c24;obtain⟨y723,hy723⟩:∃y_:List Int,y_=(([]:List Int)++(rd_L5 l1 x15_2)):=⟨_,rfl⟩;rw[← hy723] at H;have Ny723:=aM hy723;clear hy723
       by_cases c25:x15_2=a4
       ·rw[if_pos c25] at H;have c25b0:(x15_2==a4)=true:=beq_iff_eq.mpr c25;have c25b1:(x15_2 !=a4)=false:=bne_eq_false_iff_eq.mpr c25;clear c25;replace H:=Option.bind_eq_some_iff.mp H;obtain⟨t727,A260,H⟩:=H;replace H:(if x15_2=a5 then((r7_instead.f k2 a0_0 l0_1 l0_2 (rd_L5 l1 x15_2) a3 a2).bind fun t731=>(if x14_2.length<5864062014805 then(r7_Swapped.l0 k2 l1 a2 a3 a4 a5 (x14_2++[t731]) (wrap64 (x15_2+1)) a0_0 l0_1 l0_2) else(none))) else(if x14_2.length<5864062014805 then(r7_Swapped.l0 k2 l1 a2 a3 a4 a5 (x14_2++[t727]) (wrap64 (x15_2+1)) a0_0 l0_1 l0_2) else(none)))=some (r1,r2):=H;have A26:=aM A260;clear A260
        by_cases c27:x15_2=a5
        ·rw[if_pos c27] at H;have c27b0:(x15_2==a5)=true:=beq_iff_eq.mpr c27;have c27b1:(x15_2 !=a5)=false:=bne_eq_false_iff_eq.mpr c27;clear c27;replace H:=Option.bind_eq_some_iff.mp H;obtain⟨t731,A280,H⟩:=H;replace H:(if x14_2.length<5864062014805 then(r7_Swapped.l0 k2 l1 a2 a3 a4 a5 (x14_2++[t731]) (wrap64 (x15_2+1)) a0_0 l0_1 l0_2) else(none))=some (r1,r2):=H;have A28:=aM A280;clear A280;obtain⟨c29,H⟩:=ifs H;have LMc29:=aM c29;clear c29;obtain⟨y734,hy734⟩:∃y_:List (List Int),y_=(x14_2++[t731]):=⟨_,rfl⟩;rw[← hy734] at H;(try replace H:=(Option.bind_some _ _).symm.trans H)
         have Ny734:=aM hy734;clear hy734;have H':=aM H;clear H;have p722:0≤(x15_2:Int):=uD;have q722:x15_2<(l1.length:Int):=uD;obtain⟨ad722,A722_0,c722_0,e722,hx722_0,hl722_0,hi722_0⟩:=at_L5 HR1.out x15_2 p722 q722
         cases e722
         replace hx722_0:=hcell HB.out hx722_0;have HR722_0:=aM hi722_0;have HC722_0:=aM hl722_0;clear hi722_0 hl722_0;replace p722:=eq_true p722;replace q722:=eq_true q722;(try go_wp2_with (first|((with_reducible refine gate_builtin (b:=.append) (xs:=#[.const (.slice none 0 0),.tmp 63]) rfl ?_);at_builtin;refine Kd.R_append_rows (Kd.int .i64) (w0:=w) w.heap.size rfl (.const (.slice none 0 0)) (.tmp 63) 30 3 (.int .i64 0) 8 rfl Tryz.underlying30 info3 rfl (by decide) (by omega) (.slice none 0 0) ([]:List Int) (rd_L5 l1 x15_2) _ _ _ (fun _=>True) (fun _=>False) rfl rfl ?aO ?aR (fun _ _ h=>h) (fun _ h=>h.elim) ?aF ?aB ?aS ?aL ?_;(case aR=>exact uY HR722_0 HB);(case aB=>exact uB);(case aF=>exact(fun _ _=>trivial));(case aO=>exact((Kd.R_nil _ _ _ _ (fun _=>True))));(case aS=>exact(below_size uB));(case aL=>have:=LMc24.out;omega);intro v724 w30 ho hb hg hat;rw[← Ny723.out] at ho;replace HO_14:=aM (Kd.S_after (Kd.S_apart_nil (by (with_reducible repeat(first|apply Kd.S_alloc|apply Kd.S_drewN|apply Kd.S_drew));exact HO_14.out)) hg hat);replace BK712:=aM (blk_grown (uK BK712.out) hg (by simp[Value.ownBlock]));have HO725:=aM (ho);replace HB:=aM (hb);clear ho hb hg hat)));replace HO_14:=aM (Kd.S_drew HO_14.out);replace HO725:=aM (Kd.R_drew HO725.out);replace BK712:=aM (blk_drew BK712.out);replace HB:=aM (below_drew1 HB.out);have p726:0≤(x15_2:Int):=uD;have q726:x15_2<(l1.length:Int):=uD;obtain⟨ad726,A726_0,c726_0,e726,hx726_0,hl726_0,hi726_0⟩:=at_L5 HR1.out x15_2 p726 q726;have hw726_0:=hx726_0;obtain rfl:ad722=ad726:=(by injection e726);replace hx726_0:=hcell HB.out hx726_0;have HR726_0:=aM hi726_0;have HC726_0:=aM hl726_0;clear hi726_0 hl726_0;replace p726:=eq_true p726;replace q726:=eq_true q726;refine start_ (n:=9) (S:=fun w'=>w'.cell? ⟨gb712,0,none⟩=some (.int .i64 a0_0)∧w'.cell? ⟨gb712,1,none⟩=some (.slice A0_1 l0_1.length c0_1)∧w'.cell? ⟨gb712,2,none⟩=some (.slice A0_2 l0_2.length c0_2)∧w'.cell? (ad722.add (x15_2).toNat)=some (.slice A726_0 (rd_L5 l1 x15_2).length c726_0)) (ds:=[]) (bl 9 0) (by kernel_rfl) rfl rfl ⟨(blk_cell BK712.out 0).trans rfl,(blk_cell BK712.out 1).trans rfl,(blk_cell BK712.out 2).trans rfl,(hcell HB.out hw726_0)⟩ (fun hHeld=>?_);refine with_tabW r7_Swapped.tab9 r7_Swapped.bits9 (fun HT_ HW_=>?_)
         generalize w30.drew=w31 at HO_14 HO725 BK712 HB HR726_0 hx726_0 hHeld⊢;refine pu 1 69 9 2 ?_;refine pu 2 70 9 6 ?_;refine pu 3 71 9 14 ?_;refine pu 5 73 9 46 ?_;refine pu 6 74 9 110 ?_;refine tk4 0 68 9 111 hHeld ?_;refine tk4 4 72 9 127 hHeld ?_;refine one_ (i:=7) (N:=some 75) (bl 9 255) rfl rfl (one_of HT_.out (by kernel_rfl)) (by decide) (fun K hK=>?_);refine goes_ Tryz.func76 (by kernel_rfl) rfl #[.agg #[.int .i64 a0_0,.slice A0_1 l0_1.length c0_1,.slice A0_2 l0_2.length c0_2],.slice A726_0 (rd_L5 l1 x15_2).length c726_0,.int .i64 a2,.int .i64 a3] (by rfl) rfl rfl uM ?_;(with_reducible refine(r7_instead.calls k2 a0_0 _ _ l0_1 _ _ l0_2 _ _ (rd_L5 l1 x15_2) a2 a3 t727 _ ?side1 ?side2 ?side3 ?side4 ?side5 ?side6 A26.out).mono ?_);(case side1=>exact uY HR0_1 HB);(case side2=>exact HC0_1.out);(case side3=>exact uY HR0_2 HB);(case side4=>exact HC0_2.out);(case side5=>exact uY HR726_0 HB);(case side6=>exact HC726_0.out);rintro e w32 ⟨v728,rfl,ho0,hb⟩;refine⟨_,rfl,?_⟩;have n0_:=aM (Kd.S_elder' (by (with_reducible repeat(first|apply Kd.S_alloc|apply Kd.S_drewN|apply Kd.S_drew));exact HO_14.out) (Kd.R_base ho0) hb);have n1_:=aM (Kd.R_elder' (uR HO725.out) (Kd.R_base ho0) hb);have n2_:=aM (Kd.R_lower (Kd.R_new' ho0 (Kd.R_lt (uR HO725.out))) (below_size uB));have n3_:=aM (blk_below (uK BK712.out) hb);have n4_:=aM (below_step uB hb);clear HO_14 HO725 BK712 HB;have HO_14:=n0_;have HO725:=n1_;have HO729:=n2_;have BK712:=n3_;have HB:=n4_;clear n0_ n1_ n2_ n3_ n4_;(try clear hb);(try clear ho0);refine hK.out _ _ ⟨(blk_cell BK712.out 0).trans rfl,(blk_cell BK712.out 1).trans rfl,(blk_cell BK712.out 2).trans rfl,(hcell HB.out hw726_0)⟩ (fun hHeld=>?_);clear hK K;refine nm ?_;refine pu 8 16 9 511 ?_;refine done_ (done_of HT_.out (by kernel_rfl)) ?_;(try go_wp2);replace HO_14:=aM (Kd.S_drew HO_14.out);replace HO725:=aM (Kd.R_drew HO725.out);replace HO729:=aM (Kd.R_drew HO729.out);replace BK712:=aM (blk_drew BK712.out);replace HB:=aM (below_drew1 HB.out);have p730:0≤(x15_2:Int):=uD;have q730:x15_2<(l1.length:Int):=uD;obtain⟨ad730,A730_0,c730_0,e730,hx730_0,hl730_0,hi730_0⟩:=at_L5 HR1.out x15_2 p730 q730;have hw730_0:=hx730_0;obtain rfl:ad722=ad730:=(by injection e730);replace hx730_0:=hcell HB.out hx730_0;have HR730_0:=aM hi730_0;have HC730_0:=aM hl730_0;clear hi730_0 hl730_0;replace p730:=eq_true p730;replace q730:=eq_true q730;refine start_ (n:=9) (S:=fun w'=>w'.cell? ⟨gb712,0,none⟩=some (.int .i64 a0_0)∧w'.cell? ⟨gb712,1,none⟩=some (.slice A0_1 l0_1.length c0_1)∧w'.cell? ⟨gb712,2,none⟩=some (.slice A0_2 l0_2.length c0_2)∧w'.cell? (ad722.add (x15_2).toNat)=some (.slice A730_0 (rd_L5 l1 x15_2).length c730_0)) (ds:=[]) (bl 9 0) (by kernel_rfl) rfl rfl ⟨(blk_cell BK712.out 0).trans rfl,(blk_cell BK712.out 1).trans rfl,(blk_cell BK712.out 2).trans rfl,(hcell HB.out hw730_0)⟩ (fun hHeld=>?_);refine with_tabW r7_Swapped.tab11 r7_Swapped.bits11 (fun HT_ HW_=>?_)
         generalize w32.drew=w33 at HO_14 HO725 HO729 BK712 HB HR730_0 hx730_0 hHeld⊢;refine pu 1 80 9 2 ?_;refine pu 2 81 9 6 ?_;refine pu 3 82 9 14 ?_;refine pu 5 84 9 46 ?_;refine pu 6 85 9 110 ?_;refine tk4 0 79 9 111 hHeld ?_;refine tk4 4 83 9 127 hHeld ?_;refine one_ (i:=7) (N:=some 86) (bl 9 255) rfl rfl (one_of HT_.out (by kernel_rfl)) (by decide) (fun K hK=>?_);refine goes_ Tryz.func76 (by kernel_rfl) rfl #[.agg #[.int .i64 a0_0,.slice A0_1 l0_1.length c0_1,.slice A0_2 l0_2.length c0_2],.slice A730_0 (rd_L5 l1 x15_2).length c730_0,.int .i64 a3,.int .i64 a2] (by rfl) rfl rfl uM ?_;(with_reducible refine(r7_instead.calls k2 a0_0 _ _ l0_1 _ _ l0_2 _ _ (rd_L5 l1 x15_2) a3 a2 t731 _ ?side1 ?side2 ?side3 ?side4 ?side5 ?side6 A28.out).mono ?_);(case side1=>exact uY HR0_1 HB);(case side2=>exact HC0_1.out);(case side3=>exact uY HR0_2 HB);(case side4=>exact HC0_2.out);(case side5=>exact uY HR730_0 HB);(case side6=>exact HC730_0.out);rintro e w34 ⟨v732,rfl,ho0,hb⟩;refine⟨_,rfl,?_⟩;have n0_:=aM (Kd.S_elder' (by (with_reducible repeat(first|apply Kd.S_alloc|apply Kd.S_drewN|apply Kd.S_drew));exact HO_14.out) (Kd.R_base ho0) hb);have n1_:=aM (Kd.R_elder' (uR HO725.out) (Kd.R_base ho0) hb);have n2_:=aM (Kd.R_elder' (uR HO729.out) (Kd.R_base ho0) hb);have n3_:=aM (Kd.R_lower (Kd.R_new' (Kd.R_new' ho0 (Kd.R_lt (uR HO725.out))) (Kd.R_lt (uR HO729.out))) (below_size uB));have n4_:=aM (blk_below (uK BK712.out) hb);have n5_:=aM (below_step uB hb);clear HO_14 HO725 HO729 BK712 HB;have HO_14:=n0_;have HO725:=n1_;have HO729:=n2_;have HO733:=n3_;have BK712:=n4_;have HB:=n5_;clear n0_ n1_ n2_ n3_ n4_ n5_;(try clear hb);(try clear ho0);refine hK.out _ _ ⟨(blk_cell BK712.out 0).trans rfl,(blk_cell BK712.out 1).trans rfl,(blk_cell BK712.out 2).trans rfl,(hcell HB.out hw730_0)⟩ (fun hHeld=>?_);clear hK K;refine nm ?_;refine pu 8 16 9 511 ?_;refine done_ (done_of HT_.out (by kernel_rfl)) ?_;obtain⟨Ao36,co36,eo36⟩:=Kd.R_slice HO733.out;subst eo36;try go_wp2_with (first|((with_reducible refine gate_builtin (b:=.append) (xs:=#[.tmp 87,.tmp 89]) rfl ?_);at_builtin;refine Kd.S_append (Kd.slice 3 (Kd.int .i64)) (w0:=w) w.heap.size rfl (.tmp 87) (.tmp 89) 40 30 (.slice none 0 0) 24 rfl Tryz.underlying40 info30 rfl (by decide) (by omega) u14 x14_2 t731 [.slice Ao36 t731.length co36] (fun k_=>some k_≠(v724:Value).ownBlock∧some k_≠(v728:Value).ownBlock) (fun k_=>some k_=(.slice Ao36 t731.length co36:Value).ownBlock) rfl rfl ?aP (fun k_ hk_=>((Kd.R_mono (ok':=fun k_=>((fun k_=>some k_≠(v724:Value).ownBlock∧some k_≠(v728:Value).ownBlock)) k_∧some k_≠(u14:Value).ownBlock) (Kd.R_apart' (HO733.out) (Kd.S_typed HO_14.out) (by decide)) (fun k_ hk=>⟨⟨hk.1.1.2,hk.1.2⟩,hk.2⟩))).1 k_ hk_.symm) ?aF ?aO ?aB ?aS ?aL ?_;(case aP=>exact Kd.M_row (Kd.R_mono (Kd.R_tight rfl (Kd.R_mono (ok':=fun k_=>((fun k_=>some k_≠(v724:Value).ownBlock∧some k_≠(v728:Value).ownBlock)) k_∧some k_≠(u14:Value).ownBlock) (Kd.R_apart' (HO733.out) (Kd.S_typed HO_14.out) (by decide)) (fun k_ hk=>⟨⟨hk.1.1.2,hk.1.2⟩,hk.2⟩))) (fun _ h_=>h_)));(case aB=>exact uB);(case aF=>exact(fun k_ hk=>⟨Kd.fresh' (Kd.R_lt (uR HO725.out)) k_ hk,Kd.fresh' (Kd.R_lt (uR HO729.out)) k_ hk⟩));(case aO=>exact(by (with_reducible repeat(first|apply Kd.S_alloc|apply Kd.S_drewN|apply Kd.S_drew));exact Kd.S_mono HO_14.out (fun k_ hk=>⟨⟨hk.1.1.2,hk.1.2⟩,fun e_=>hk.2 e_⟩)));(case aS=>exact(below_size uB));(case aL=>have:=LMc29.out;omega);intro v735 w35 ho hb hg hat;rw[← Ny734.out] at ho;replace BK712:=aM (blk_grown (uK BK712.out) hg (Kd.S_ne HO_14.out BK712.out (by decide)));replace HO725:=aM (Kd.R_over' (uR HO725.out) (Kd.S_typed (by (with_reducible repeat(first|apply Kd.S_alloc|apply Kd.S_drewN|apply Kd.S_drew));exact HO_14.out)) (by decide) hg);replace HO729:=aM (Kd.R_over' (uR HO729.out) (Kd.S_typed (by (with_reducible repeat(first|apply Kd.S_alloc|apply Kd.S_drewN|apply Kd.S_drew));exact HO_14.out)) (by decide) hg);have HO736:=aM (ho);replace HB:=aM (hb);clear HO_14 HO733;clear ho hb hg hat))
         go_roundg k2
         case measure=>have:=HJ6.out;have:=HK2.out;omega
         case rel=>exact⟨(y734),(wrap64 (x15_2+1)),u0,H',⟨by have:=HJ6.out;have:=HK2.out;omega⟩,⟨by (with_reducible repeat(first|apply Kd.S_alloc|apply Kd.S_drewN|apply Kd.S_drew));exact Kd.S_mono HO736.out (fun _ hk=>trivial)⟩,⟨uK BK712.out⟩,⟨uB⟩⟩
        ·rw[if_neg c27] at H;have c27b0:(x15_2==a5)=false:=beq_eq_false_iff_ne.mpr c27;have c27b1:(x15_2 !=a5)=true:=bne_iff_ne.mpr c27;obtain⟨c37,H⟩:=ifs H;have LMc37:=aM c37;clear c37;obtain⟨y737,hy737⟩:∃y_:List (List Int),y_=(x14_2++[t727]):=⟨_,rfl⟩;rw[← hy737] at H;(try replace H:=(Option.bind_some _ _).symm.trans H)
         have Ny737:=aM hy737;clear hy737;have H':=aM H;clear H;have p722:0≤(x15_2:Int):=uD;have q722:x15_2<(l1.length:Int):=uD;obtain⟨ad722,A722_0,c722_0,e722,hx722_0,hl722_0,hi722_0⟩:=at_L5 HR1.out x15_2 p722 q722
         cases e722
         replace hx722_0:=hcell HB.out hx722_0;have HR722_0:=aM hi722_0;have HC722_0:=aM hl722_0;clear hi722_0 hl722_0;replace p722:=eq_true p722;replace q722:=eq_true q722;(try go_wp2_with (first|((with_reducible refine gate_builtin (b:=.append) (xs:=#[.const (.slice none 0 0),.tmp 63]) rfl ?_);at_builtin;refine Kd.R_append_rows (Kd.int .i64) (w0:=w) w.heap.size rfl (.const (.slice none 0 0)) (.tmp 63) 30 3 (.int .i64 0) 8 rfl Tryz.underlying30 info3 rfl (by decide) (by omega) (.slice none 0 0) ([]:List Int) (rd_L5 l1 x15_2) _ _ _ (fun _=>True) (fun _=>False) rfl rfl ?aO ?aR (fun _ _ h=>h) (fun _ h=>h.elim) ?aF ?aB ?aS ?aL ?_;(case aR=>exact uY HR722_0 HB);(case aB=>exact uB);(case aF=>exact(fun _ _=>trivial));(case aO=>exact((Kd.R_nil _ _ _ _ (fun _=>True))));(case aS=>exact(below_size uB));(case aL=>have:=LMc24.out;omega);intro v724 w38 ho hb hg hat;rw[← Ny723.out] at ho;replace HO_14:=aM (Kd.S_after (Kd.S_apart_nil (by (with_reducible repeat(first|apply Kd.S_alloc|apply Kd.S_drewN|apply Kd.S_drew));exact HO_14.out)) hg hat);replace BK712:=aM (blk_grown (uK BK712.out) hg (by simp[Value.ownBlock]));have HO725:=aM (ho);replace HB:=aM (hb);clear ho hb hg hat)));replace HO_14:=aM (Kd.S_drew HO_14.out);replace HO725:=aM (Kd.R_drew HO725.out);replace BK712:=aM (blk_drew BK712.out);replace HB:=aM (below_drew1 HB.out);have p726:0≤(x15_2:Int):=uD;have q726:x15_2<(l1.length:Int):=uD;obtain⟨ad726,A726_0,c726_0,e726,hx726_0,hl726_0,hi726_0⟩:=at_L5 HR1.out x15_2 p726 q726;have hw726_0:=hx726_0;obtain rfl:ad722=ad726:=(by injection e726);replace hx726_0:=hcell HB.out hx726_0;have HR726_0:=aM hi726_0;have HC726_0:=aM hl726_0;clear hi726_0 hl726_0;replace p726:=eq_true p726;replace q726:=eq_true q726;refine start_ (n:=9) (S:=fun w'=>w'.cell? ⟨gb712,0,none⟩=some (.int .i64 a0_0)∧w'.cell? ⟨gb712,1,none⟩=some (.slice A0_1 l0_1.length c0_1)∧w'.cell? ⟨gb712,2,none⟩=some (.slice A0_2 l0_2.length c0_2)∧w'.cell? (ad722.add (x15_2).toNat)=some (.slice A726_0 (rd_L5 l1 x15_2).length c726_0)) (ds:=[]) (bl 9 0) (by kernel_rfl) rfl rfl ⟨(blk_cell BK712.out 0).trans rfl,(blk_cell BK712.out 1).trans rfl,(blk_cell BK712.out 2).trans rfl,(hcell HB.out hw726_0)⟩ (fun hHeld=>?_);refine with_tabW r7_Swapped.tab9 r7_Swapped.bits9 (fun HT_ HW_=>?_)
         generalize w38.drew=w39 at HO_14 HO725 BK712 HB HR726_0 hx726_0 hHeld⊢;refine pu 1 69 9 2 ?_;refine pu 2 70 9 6 ?_;refine pu 3 71 9 14 ?_;refine pu 5 73 9 46 ?_;refine pu 6 74 9 110 ?_;refine tk4 0 68 9 111 hHeld ?_;refine tk4 4 72 9 127 hHeld ?_;refine one_ (i:=7) (N:=some 75) (bl 9 255) rfl rfl (one_of HT_.out (by kernel_rfl)) (by decide) (fun K hK=>?_);refine goes_ Tryz.func76 (by kernel_rfl) rfl #[.agg #[.int .i64 a0_0,.slice A0_1 l0_1.length c0_1,.slice A0_2 l0_2.length c0_2],.slice A726_0 (rd_L5 l1 x15_2).length c726_0,.int .i64 a2,.int .i64 a3] (by rfl) rfl rfl uM ?_;(with_reducible refine(r7_instead.calls k2 a0_0 _ _ l0_1 _ _ l0_2 _ _ (rd_L5 l1 x15_2) a2 a3 t727 _ ?side1 ?side2 ?side3 ?side4 ?side5 ?side6 A26.out).mono ?_);(case side1=>exact uY HR0_1 HB);(case side2=>exact HC0_1.out);(case side3=>exact uY HR0_2 HB);(case side4=>exact HC0_2.out);(case side5=>exact uY HR726_0 HB);(case side6=>exact HC726_0.out);rintro e w40 ⟨v728,rfl,ho0,hb⟩;refine⟨_,rfl,?_⟩;have n0_:=aM (Kd.S_elder' (by (with_reducible repeat(first|apply Kd.S_alloc|apply Kd.S_drewN|apply Kd.S_drew));exact HO_14.out) (Kd.R_base ho0) hb);have n1_:=aM (Kd.R_elder' (uR HO725.out) (Kd.R_base ho0) hb);have n2_:=aM (Kd.R_lower (Kd.R_new' ho0 (Kd.R_lt (uR HO725.out))) (below_size uB));have n3_:=aM (blk_below (uK BK712.out) hb);have n4_:=aM (below_step uB hb);clear HO_14 HO725 BK712 HB;have HO_14:=n0_;have HO725:=n1_;have HO729:=n2_;have BK712:=n3_;have HB:=n4_;clear n0_ n1_ n2_ n3_ n4_;(try clear hb);(try clear ho0);refine hK.out _ _ ⟨(blk_cell BK712.out 0).trans rfl,(blk_cell BK712.out 1).trans rfl,(blk_cell BK712.out 2).trans rfl,(hcell HB.out hw726_0)⟩ (fun hHeld=>?_);clear hK K;refine nm ?_;refine pu 8 16 9 511 ?_;refine done_ (done_of HT_.out (by kernel_rfl)) ?_;obtain⟨Ao42,co42,eo42⟩:=Kd.R_slice HO729.out;subst eo42;try go_wp2_with (first|((with_reducible refine gate_builtin (b:=.append) (xs:=#[.tmp 87,.tmp 89]) rfl ?_);at_builtin;refine Kd.S_append (Kd.slice 3 (Kd.int .i64)) (w0:=w) w.heap.size rfl (.tmp 87) (.tmp 89) 40 30 (.slice none 0 0) 24 rfl Tryz.underlying40 info30 rfl (by decide) (by omega) u14 x14_2 t727 [.slice Ao42 t727.length co42] (fun k_=>some k_≠(v724:Value).ownBlock) (fun k_=>some k_=(.slice Ao42 t727.length co42:Value).ownBlock) rfl rfl ?aP (fun k_ hk_=>((Kd.R_mono (ok':=fun k_=>((fun k_=>some k_≠(v724:Value).ownBlock)) k_∧some k_≠(u14:Value).ownBlock) (Kd.R_apart' (HO729.out) (Kd.S_typed HO_14.out) (by decide)) (fun k_ hk=>⟨hk.1.2,hk.2⟩))).1 k_ hk_.symm) ?aF ?aO ?aB ?aS ?aL ?_;(case aP=>exact Kd.M_row (Kd.R_mono (Kd.R_tight rfl (Kd.R_mono (ok':=fun k_=>((fun k_=>some k_≠(v724:Value).ownBlock)) k_∧some k_≠(u14:Value).ownBlock) (Kd.R_apart' (HO729.out) (Kd.S_typed HO_14.out) (by decide)) (fun k_ hk=>⟨hk.1.2,hk.2⟩))) (fun _ h_=>h_)));(case aB=>exact uB);(case aF=>exact(fun k_ hk=>Kd.fresh' (Kd.R_lt (uR HO725.out)) k_ hk));(case aO=>exact(by (with_reducible repeat(first|apply Kd.S_alloc|apply Kd.S_drewN|apply Kd.S_drew));exact Kd.S_mono HO_14.out (fun k_ hk=>⟨hk.1.2,fun e_=>hk.2 e_⟩)));(case aS=>exact(below_size uB));(case aL=>have:=LMc37.out;omega);intro v738 w41 ho hb hg hat;rw[← Ny737.out] at ho;replace BK712:=aM (blk_grown (uK BK712.out) hg (Kd.S_ne HO_14.out BK712.out (by decide)));replace HO725:=aM (Kd.R_over' (uR HO725.out) (Kd.S_typed (by (with_reducible repeat(first|apply Kd.S_alloc|apply Kd.S_drewN|apply Kd.S_drew));exact HO_14.out)) (by decide) hg);have HO739:=aM (ho);replace HB:=aM (hb);clear HO_14 HO729;clear ho hb hg hat))
         go_roundg k2
         case measure=>have:=HJ6.out;have:=HK2.out;omega
         case rel=>exact⟨(y737),(wrap64 (x15_2+1)),u0,H',⟨by have:=HJ6.out;have:=HK2.out;omega⟩,⟨by (with_reducible repeat(first|apply Kd.S_alloc|apply Kd.S_drewN|apply Kd.S_drew));exact Kd.S_mono HO739.out (fun _ hk=>trivial)⟩,⟨uK BK712.out⟩,⟨uB⟩⟩
       ·rw[if_neg c25] at H;have c25b0:(x15_2==a4)=false:=beq_eq_false_iff_ne.mpr c25;have c25b1:(x15_2 !=a4)=true:=bne_iff_ne.mpr c25
        by_cases c43:x15_2=a5
        ·rw[if_pos c43] at H;have c43b0:(x15_2==a5)=true:=beq_iff_eq.mpr c43;have c43b1:(x15_2 !=a5)=false:=bne_eq_false_iff_eq.mpr c43;clear c43;replace H:=Option.bind_eq_some_iff.mp H;obtain⟨t741,A440,H⟩:=H;replace H:(if x14_2.length<5864062014805 then(r7_Swapped.l0 k2 l1 a2 a3 a4 a5 (x14_2++[t741]) (wrap64 (x15_2+1)) a0_0 l0_1 l0_2) else(none))=some (r1,r2):=H;have A44:=aM A440;clear A440;obtain⟨c45,H⟩:=ifs H;have LMc45:=aM c45;clear c45;obtain⟨y744,hy744⟩:∃y_:List (List Int),y_=(x14_2++[t741]):=⟨_,rfl⟩;rw[← hy744] at H;(try replace H:=(Option.bind_some _ _).symm.trans H)
         have Ny744:=aM hy744;clear hy744;have H':=aM H;clear H;have p722:0≤(x15_2:Int):=uD;have q722:x15_2<(l1.length:Int):=uD;obtain⟨ad722,A722_0,c722_0,e722,hx722_0,hl722_0,hi722_0⟩:=at_L5 HR1.out x15_2 p722 q722
         cases e722
         replace hx722_0:=hcell HB.out hx722_0;have HR722_0:=aM hi722_0;have HC722_0:=aM hl722_0;clear hi722_0 hl722_0;replace p722:=eq_true p722;replace q722:=eq_true q722;(try go_wp2_with (first|((with_reducible refine gate_builtin (b:=.append) (xs:=#[.const (.slice none 0 0),.tmp 63]) rfl ?_);at_builtin;refine Kd.R_append_rows (Kd.int .i64) (w0:=w) w.heap.size rfl (.const (.slice none 0 0)) (.tmp 63) 30 3 (.int .i64 0) 8 rfl Tryz.underlying30 info3 rfl (by decide) (by omega) (.slice none 0 0) ([]:List Int) (rd_L5 l1 x15_2) _ _ _ (fun _=>True) (fun _=>False) rfl rfl ?aO ?aR (fun _ _ h=>h) (fun _ h=>h.elim) ?aF ?aB ?aS ?aL ?_;(case aR=>exact uY HR722_0 HB);(case aB=>exact uB);(case aF=>exact(fun _ _=>trivial));(case aO=>exact((Kd.R_nil _ _ _ _ (fun _=>True))));(case aS=>exact(below_size uB));(case aL=>have:=LMc24.out;omega);intro v724 w46 ho hb hg hat;rw[← Ny723.out] at ho;replace HO_14:=aM (Kd.S_after (Kd.S_apart_nil (by (with_reducible repeat(first|apply Kd.S_alloc|apply Kd.S_drewN|apply Kd.S_drew));exact HO_14.out)) hg hat);replace BK712:=aM (blk_grown (uK BK712.out) hg (by simp[Value.ownBlock]));have HO725:=aM (ho);replace HB:=aM (hb);clear ho hb hg hat)));replace HO_14:=aM (Kd.S_drew HO_14.out);replace HO725:=aM (Kd.R_drew HO725.out);replace BK712:=aM (blk_drew BK712.out);replace HB:=aM (below_drew1 HB.out);have p740:0≤(x15_2:Int):=uD;have q740:x15_2<(l1.length:Int):=uD;obtain⟨ad740,A740_0,c740_0,e740,hx740_0,hl740_0,hi740_0⟩:=at_L5 HR1.out x15_2 p740 q740;have hw740_0:=hx740_0;obtain rfl:ad722=ad740:=(by injection e740);replace hx740_0:=hcell HB.out hx740_0;have HR740_0:=aM hi740_0;have HC740_0:=aM hl740_0;clear hi740_0 hl740_0;replace p740:=eq_true p740;replace q740:=eq_true q740;refine start_ (n:=9) (S:=fun w'=>w'.cell? ⟨gb712,0,none⟩=some (.int .i64 a0_0)∧w'.cell? ⟨gb712,1,none⟩=some (.slice A0_1 l0_1.length c0_1)∧w'.cell? ⟨gb712,2,none⟩=some (.slice A0_2 l0_2.length c0_2)∧w'.cell? (ad722.add (x15_2).toNat)=some (.slice A740_0 (rd_L5 l1 x15_2).length c740_0)) (ds:=[]) (bl 9 0) (by kernel_rfl) rfl rfl ⟨(blk_cell BK712.out 0).trans rfl,(blk_cell BK712.out 1).trans rfl,(blk_cell BK712.out 2).trans rfl,(hcell HB.out hw740_0)⟩ (fun hHeld=>?_);refine with_tabW r7_Swapped.tab11 r7_Swapped.bits11 (fun HT_ HW_=>?_)
         generalize w46.drew=w47 at HO_14 HO725 BK712 HB HR740_0 hx740_0 hHeld⊢;refine pu 1 80 9 2 ?_;refine pu 2 81 9 6 ?_;refine pu 3 82 9 14 ?_;refine pu 5 84 9 46 ?_;refine pu 6 85 9 110 ?_;refine tk4 0 79 9 111 hHeld ?_;refine tk4 4 83 9 127 hHeld ?_;refine one_ (i:=7) (N:=some 86) (bl 9 255) rfl rfl (one_of HT_.out (by kernel_rfl)) (by decide) (fun K hK=>?_);refine goes_ Tryz.func76 (by kernel_rfl) rfl #[.agg #[.int .i64 a0_0,.slice A0_1 l0_1.length c0_1,.slice A0_2 l0_2.length c0_2],.slice A740_0 (rd_L5 l1 x15_2).length c740_0,.int .i64 a3,.int .i64 a2] (by rfl) rfl rfl uM ?_;(with_reducible refine(r7_instead.calls k2 a0_0 _ _ l0_1 _ _ l0_2 _ _ (rd_L5 l1 x15_2) a3 a2 t741 _ ?side1 ?side2 ?side3 ?side4 ?side5 ?side6 A44.out).mono ?_);(case side1=>exact uY HR0_1 HB);(case side2=>exact HC0_1.out);(case side3=>exact uY HR0_2 HB);(case side4=>exact HC0_2.out);(case side5=>exact uY HR740_0 HB);(case side6=>exact HC740_0.out);rintro e w48 ⟨v742,rfl,ho0,hb⟩;refine⟨_,rfl,?_⟩;have n0_:=aM (Kd.S_elder' (by (with_reducible repeat(first|apply Kd.S_alloc|apply Kd.S_drewN|apply Kd.S_drew));exact HO_14.out) (Kd.R_base ho0) hb);have n1_:=aM (Kd.R_elder' (uR HO725.out) (Kd.R_base ho0) hb);have n2_:=aM (Kd.R_lower (Kd.R_new' ho0 (Kd.R_lt (uR HO725.out))) (below_size uB));have n3_:=aM (blk_below (uK BK712.out) hb);have n4_:=aM (below_step uB hb);clear HO_14 HO725 BK712 HB;have HO_14:=n0_;have HO725:=n1_;have HO743:=n2_;have BK712:=n3_;have HB:=n4_;clear n0_ n1_ n2_ n3_ n4_;(try clear hb);(try clear ho0);refine hK.out _ _ ⟨(blk_cell BK712.out 0).trans rfl,(blk_cell BK712.out 1).trans rfl,(blk_cell BK712.out 2).trans rfl,(hcell HB.out hw740_0)⟩ (fun hHeld=>?_);clear hK K;refine nm ?_;refine pu 8 16 9 511 ?_;refine done_ (done_of HT_.out (by kernel_rfl)) ?_;obtain⟨Ao50,co50,eo50⟩:=Kd.R_slice HO743.out;subst eo50;try go_wp2_with (first|((with_reducible refine gate_builtin (b:=.append) (xs:=#[.tmp 87,.tmp 89]) rfl ?_);at_builtin;refine Kd.S_append (Kd.slice 3 (Kd.int .i64)) (w0:=w) w.heap.size rfl (.tmp 87) (.tmp 89) 40 30 (.slice none 0 0) 24 rfl Tryz.underlying40 info30 rfl (by decide) (by omega) u14 x14_2 t741 [.slice Ao50 t741.length co50] (fun k_=>some k_≠(v724:Value).ownBlock) (fun k_=>some k_=(.slice Ao50 t741.length co50:Value).ownBlock) rfl rfl ?aP (fun k_ hk_=>((Kd.R_mono (ok':=fun k_=>((fun k_=>some k_≠(v724:Value).ownBlock)) k_∧some k_≠(u14:Value).ownBlock) (Kd.R_apart' (HO743.out) (Kd.S_typed HO_14.out) (by decide)) (fun k_ hk=>⟨hk.1.2,hk.2⟩))).1 k_ hk_.symm) ?aF ?aO ?aB ?aS ?aL ?_;(case aP=>exact Kd.M_row (Kd.R_mono (Kd.R_tight rfl (Kd.R_mono (ok':=fun k_=>((fun k_=>some k_≠(v724:Value).ownBlock)) k_∧some k_≠(u14:Value).ownBlock) (Kd.R_apart' (HO743.out) (Kd.S_typed HO_14.out) (by decide)) (fun k_ hk=>⟨hk.1.2,hk.2⟩))) (fun _ h_=>h_)));(case aB=>exact uB);(case aF=>exact(fun k_ hk=>Kd.fresh' (Kd.R_lt (uR HO725.out)) k_ hk));(case aO=>exact(by (with_reducible repeat(first|apply Kd.S_alloc|apply Kd.S_drewN|apply Kd.S_drew));exact Kd.S_mono HO_14.out (fun k_ hk=>⟨hk.1.2,fun e_=>hk.2 e_⟩)));(case aS=>exact(below_size uB));(case aL=>have:=LMc45.out;omega);intro v745 w49 ho hb hg hat;rw[← Ny744.out] at ho;replace BK712:=aM (blk_grown (uK BK712.out) hg (Kd.S_ne HO_14.out BK712.out (by decide)));replace HO725:=aM (Kd.R_over' (uR HO725.out) (Kd.S_typed (by (with_reducible repeat(first|apply Kd.S_alloc|apply Kd.S_drewN|apply Kd.S_drew));exact HO_14.out)) (by decide) hg);have HO746:=aM (ho);replace HB:=aM (hb);clear HO_14 HO743;clear ho hb hg hat))
         go_roundg k2
         case measure=>have:=HJ6.out;have:=HK2.out;omega
         case rel=>exact⟨(y744),(wrap64 (x15_2+1)),u0,H',⟨by have:=HJ6.out;have:=HK2.out;omega⟩,⟨by (with_reducible repeat(first|apply Kd.S_alloc|apply Kd.S_drewN|apply Kd.S_drew));exact Kd.S_mono HO746.out (fun _ hk=>trivial)⟩,⟨uK BK712.out⟩,⟨uB⟩⟩
        ·rw[if_neg c43] at H;have c43b0:(x15_2==a5)=false:=beq_eq_false_iff_ne.mpr c43;have c43b1:(x15_2 !=a5)=true:=bne_iff_ne.mpr c43;obtain⟨c51,H⟩:=ifs H;have LMc51:=aM c51;clear c51;obtain⟨y747,hy747⟩:∃y_:List (List Int),y_=(x14_2++[y723]):=⟨_,rfl⟩;rw[← hy747] at H;(try replace H:=(Option.bind_some _ _).symm.trans H)
         have Ny747:=aM hy747;clear hy747;have H':=aM H;clear H;have p722:0≤(x15_2:Int):=uD;have q722:x15_2<(l1.length:Int):=uD;obtain⟨ad722,A722_0,c722_0,e722,hx722_0,hl722_0,hi722_0⟩:=at_L5 HR1.out x15_2 p722 q722
         cases e722
         replace hx722_0:=hcell HB.out hx722_0;have HR722_0:=aM hi722_0;have HC722_0:=aM hl722_0;clear hi722_0 hl722_0;replace p722:=eq_true p722;replace q722:=eq_true q722
         go_wp2_with (first|((with_reducible refine gate_builtin (b:=.append) (xs:=#[.const (.slice none 0 0),.tmp 63]) rfl ?_);at_builtin;refine Kd.R_append_rows (Kd.int .i64) (w0:=w) w.heap.size rfl (.const (.slice none 0 0)) (.tmp 63) 30 3 (.int .i64 0) 8 rfl Tryz.underlying30 info3 rfl (by decide) (by omega) (.slice none 0 0) ([]:List Int) (rd_L5 l1 x15_2) _ _ _ (fun _=>True) (fun _=>False) rfl rfl ?aO ?aR (fun _ _ h=>h) (fun _ h=>h.elim) ?aF ?aB ?aS ?aL ?_;(case aR=>exact uY HR722_0 HB);(case aB=>exact uB);(case aF=>exact(fun _ _=>trivial));(case aO=>exact((Kd.R_nil _ _ _ _ (fun _=>True))));(case aS=>exact(below_size uB));(case aL=>have:=LMc24.out;omega);intro v724 w52 ho hb hg hat;rw[← Ny723.out] at ho;replace HO_14:=aM (Kd.S_after (Kd.S_apart_nil (by (with_reducible repeat(first|apply Kd.S_alloc|apply Kd.S_drewN|apply Kd.S_drew));exact HO_14.out)) hg hat);replace BK712:=aM (blk_grown (uK BK712.out) hg (by simp[Value.ownBlock]));have HO725:=aM (ho);replace HB:=aM (hb);clear ho hb hg hat;obtain⟨Ao54,co54,eo54⟩:=Kd.R_slice HO725.out;subst eo54)|((with_reducible refine gate_builtin (b:=.append) (xs:=#[.tmp 87,.tmp 89]) rfl ?_);at_builtin;refine Kd.S_append (Kd.slice 3 (Kd.int .i64)) (w0:=w) w.heap.size rfl (.tmp 87) (.tmp 89) 40 30 (.slice none 0 0) 24 rfl Tryz.underlying40 info30 rfl (by decide) (by omega) u14 x14_2 y723 [.slice Ao54 y723.length co54] (fun _=>True) (fun k_=>some k_=(.slice Ao54 y723.length co54:Value).ownBlock) rfl rfl ?aP (fun k_ hk_=>((Kd.R_mono (ok':=fun k_=>((fun _=>True)) k_∧some k_≠(u14:Value).ownBlock) (Kd.R_apart' (HO725.out) (Kd.S_typed HO_14.out) (by decide)) (fun k_ hk=>⟨trivial,hk.2⟩))).1 k_ hk_.symm) ?aF ?aO ?aB ?aS ?aL ?_;(case aP=>exact Kd.M_row (Kd.R_mono (Kd.R_tight rfl (Kd.R_mono (ok':=fun k_=>((fun _=>True)) k_∧some k_≠(u14:Value).ownBlock) (Kd.R_apart' (HO725.out) (Kd.S_typed HO_14.out) (by decide)) (fun k_ hk=>⟨trivial,hk.2⟩))) (fun _ h_=>h_)));(case aB=>exact uB);(case aF=>exact(fun _ _=>trivial));(case aO=>exact(by (with_reducible repeat(first|apply Kd.S_alloc|apply Kd.S_drewN|apply Kd.S_drew));exact Kd.S_mono HO_14.out (fun k_ hk=>⟨trivial,fun e_=>hk.2 e_⟩)));(case aS=>exact(below_size uB));(case aL=>have:=LMc51.out;omega);intro v748 w53 ho hb hg hat;rw[← Ny747.out] at ho;replace BK712:=aM (blk_grown (uK BK712.out) hg (Kd.S_ne HO_14.out BK712.out (by decide)));have HO749:=aM (ho);replace HB:=aM (hb);clear HO_14 HO725;clear ho hb hg hat))
         go_roundg k2
         case measure=>have:=HJ6.out;have:=HK2.out;omega
         case rel=>exact⟨(y747),(wrap64 (x15_2+1)),u0,H',⟨by have:=HJ6.out;have:=HK2.out;omega⟩,⟨by (with_reducible repeat(first|apply Kd.S_alloc|apply Kd.S_drewN|apply Kd.S_drew));exact HO749.out⟩,⟨uK BK712.out⟩,⟨uB⟩⟩
      ·rw[if_neg c22] at H;replace c22:=decide_eq_false c22;replace H:=Option.bind_eq_some_iff.mp H;obtain⟨t721,A550,H⟩:=H;replace H:(some (x14_2,t721))=some (r1,r2):=H;have A55:=aM A550;clear A550;simp only[Option.some.injEq,Prod.mk.injEq] at H;obtain⟨rfl,rfl⟩:=H;obtain⟨hcz56_0,hcz56_1,hcz56_2⟩:=cz3 BK712.out;obtain⟨hfz56_0,hfz56_1,hfz56_2⟩:=fz3 BK712.out;obtain⟨Ao57,co57,eo57⟩:=Kd.S_slice HO_14.out;subst eo57
       go_wp2_with (first|((with_reducible refine gate_callee (f:=28) rfl ?_);refine goesL_ (some 94) rfl rfl Tryz.func28 (by kernel_rfl) rfl #[.agg #[.int .i64 a0_0,.slice A0_1 l0_1.length c0_1,.slice A0_2 l0_2.length c0_2],.slice Ao57 x14_2.length co57] rfl uM ?_;(with_reducible refine(r7_Runs.calls k2 a0_0 _ _ l0_1 _ _ l0_2 _ _ x14_2 t721 _ ?side1 ?side2 ?side3 ?side4 ?side5 ?side6 A55.out).mono ?_);(case side1=>exact uY HR0_1 HB);(case side2=>exact HC0_1.out);(case side3=>exact uY HR0_2 HB);(case side4=>exact HC0_2.out);(case side5=>exact uC ((Kd.S_reads' HO_14.out).2.2));(case side6=>exact(Kd.S_reads' HO_14.out).2.1);rintro e w58 ⟨rfl,hb⟩;refine⟨_,rfl,?_⟩;replace HO_14:=aM (Kd.S_below (by (with_reducible repeat(first|apply Kd.S_alloc|apply Kd.S_drewN|apply Kd.S_drew));exact HO_14.out) hb);replace BK712:=aM (blk_below (uK BK712.out) hb);replace HB:=aM (below_step uB hb);(try clear hb)))
       go_ret2
       exact⟨_,uE,by(with_reducible repeat(first|apply Kd.S_alloc|apply Kd.S_drewN|apply Kd.S_drew));exact HO_14.out,uB⟩
mutual
def r7_Swaps.l0:Nat→List (List Int)→Int→Int→Int→Int→List (S77)→List (S51)→Option (Int×Int×Bool)
 |0,_,_,_,_,_,_,_=>none
 |k+1,x1,x2,x3,x11,x751000,x751001,x751002=>if x11<(x1.length:Int) then(r7_Swaps.l1 k x1 x2 x3 x11 0 x751000 x751001 x751002) else(some (0,0,false))
def r7_Swaps.l1:Nat→List (List Int)→Int→Int→Int→Int→Int→List (S77)→List (S51)→Option (Int×Int×Bool)
 |0,_,_,_,_,_,_,_,_=>none
 |k+1,x1,x2,x3,x11,x12,x751000,x751001,x751002=>if x12<(x1.length:Int) then((r7_Swapped.f k x751000 x751001 x751002 x1 x2 x3 x11 x12).bind fun bt751=>(if bt751.2=true then(some (x11,x12,true)) else(r7_Swaps.l1 k x1 x2 x3 x11 (wrap64 (x12+1)) x751000 x751001 x751002))) else(r7_Swaps.l0 k x1 x2 x3 (wrap64 (x11+1)) x751000 x751001 x751002)
end
def r7_Swaps.f (k:Nat) (a0_0:Int) (l0_1:List (S77)) (l0_2:List (S51)) (l1:List (List Int)) (a2:Int) (a3:Int):Option (Int×Int×Bool):=r7_Swaps.l0 k l1 a2 a3 0 a0_0 l0_1 l0_2
set_option maxHeartbeats 8000000 in
set_option maxRecDepth 100000 in
theorem r7_Swaps.calls (k:Nat) (a0_0:Int) (A0_1:Option Addr) (c0_1:Nat) (l0_1:List (S77)) (A0_2:Option Addr) (c0_2:Nat) (l0_2:List (S51)) (A1:Option Addr) (c1:Nat) (l1:List (List Int)) (a2:Int) (a3:Int) (r1:Int) (r2:Int) (r3:Bool) (w:World) (hr0_1:Kd.C k77 w A0_1 l0_1.length l0_1) (hc0_1:l0_1.length≤c0_1) (hr0_2:Kd.C k51 w A0_2 l0_2.length l0_2) (hc0_2:l0_2.length≤c0_2) (hr1:Kd.C (Kd.slice 3 (Kd.int .i64)) w A1 l1.length l1) (hc1:l1.length≤c1) (h:r7_Swaps.f k a0_0 l0_1 l0_2 l1 a2 a3=some (r1,r2,r3)):
  Calls Tryz.prog 29 #[.agg #[.int .i64 a0_0,.slice A0_1 l0_1.length c0_1,.slice A0_2 l0_2.length c0_2],.slice A1 l1.length c1,.int .i64 a2,.int .i64 a3] w fun e w'=>e=.returned (.tuple #[.int .i64 r1,.int .i64 r2,.bool r3])∧Below w.heap.size w w':=by
 have hu25:=Tryz.underlying25;have HR0_1:=aM hr0_1;have HC0_1:=aM hc0_1;clear hr0_1 hc0_1;have HR0_2:=aM hr0_2;have HC0_2:=aM hc0_2;clear hr0_2 hc0_2;have HR1:=aM hr1;have HC1:=aM hc1;clear hr1 hc1;have HB:=aM (Below.refl w.heap.size w);have H:(r7_Swaps.l0 k l1 a2 a3 0 a0_0 l0_1 l0_2)=some (r1,r2,r3):=h;clear h;have H':=aM H;clear H
 go_enter Tryz.func29,Tryz.ntmps29
 go_wp2_with (first|((with_reducible refine gate_dst (N:=4) rfl ?_);refine bxe 4 #[.int .i64 a0_0,.slice A0_1 l0_1.length c0_1,.slice A0_2 l0_2.length c0_2] 25 ?_;intro gb750 hg w5 hbox hb;have n0_:=aM (below_step uB hb);have n1_:=aM (hbox);have n2_:=gw hg;have n3_:=gw hg;clear HB;have HB:=n0_;have BK750:=n1_;have GW750:=n2_;have GE750:=n3_;clear n0_ n1_ n2_ n3_;clear hb hbox hg))
 go_loopg [11] k (fun kq v11 w'=>∃(x11_1:Int),v11=.int .i64 x11_1∧Aside0 (r7_Swaps.l0 kq l1 a2 a3 x11_1 a0_0 l0_1 l0_2=some (r1,r2,r3))∧Aside0 (kq≤k)∧Aside0 (w'.heap[gb750]? =some (.cells #[.int .i64 a0_0,(.slice A0_1 l0_1.length c0_1),(.slice A0_2 l0_2.length c0_2)] 25 (0,0)))∧Aside0 (Below w.heap.size w w'))
 case atStart=>exact⟨(0),u0,H',⟨Nat.le_refl _⟩,⟨uK BK750.out⟩,⟨uB⟩⟩
 case round=>
  clear H';obtain⟨x11_1,rfl,HA,HK1,BK750,HB⟩:=hrel
  cases gk with
  |zero=>exact absurd HA.out (by simp[r7_Swaps.l0])
  |succ k1=>
   have H:=HA.out;clear HA;simp only[r7_Swaps.l0] at H
   by_cases c6:x11_1<(l1.length:Int)
   ·rw[if_pos c6] at H;replace c6:=decide_eq_true c6;have H':=aM H;clear H;go_wp2
    go_loopg [12] k1 (fun kq v12 w'=>∃(x12_2:Int),v12=.int .i64 x12_2∧Aside0 (r7_Swaps.l1 kq l1 a2 a3 x11_1 x12_2 a0_0 l0_1 l0_2=some (r1,r2,r3))∧Aside0 (kq≤k1)∧Aside0 (w'.heap[gb750]? =some (.cells #[.int .i64 a0_0,(.slice A0_1 l0_1.length c0_1),(.slice A0_2 l0_2.length c0_2)] 25 (0,0)))∧Aside0 (Below w.heap.size w w'))
    case atStart=>exact⟨(0),u0,H',⟨Nat.le_refl _⟩,⟨uK BK750.out⟩,⟨uB⟩⟩
    case round=>
     clear H';obtain⟨x12_2,rfl,HA,HK2,BK750,HB⟩:=hrel
     cases gk with
     |zero=>exact absurd HA.out (by simp[r7_Swaps.l1])
     |succ k2=>
      have H:=HA.out;clear HA;simp only[r7_Swaps.l1] at H
      by_cases c7:x12_2<(l1.length:Int)
      ·rw[if_pos c7] at H;replace c7:=decide_eq_true c7;replace H:=Option.bind_eq_some_iff.mp H;obtain⟨⟨t751,t754⟩,A80,H⟩:=H;replace H:(if t754=true then(some (x11_1,x12_2,true)) else(r7_Swaps.l1 k2 l1 a2 a3 x11_1 (wrap64 (x12_2+1)) a0_0 l0_1 l0_2))=some (r1,r2,r3):=H;have A8:=aM A80;clear A80
       by_cases c9:t754=true
       ·subst c9;have H1:(some (x11_1,x12_2,true))=some (r1,r2,r3):=by rw[if_pos rfl] at H;exact H
        clear H;have H:=H1;clear H1;simp only[Option.some.injEq,Prod.mk.injEq] at H;obtain⟨rfl,rfl,rfl⟩:=H;obtain⟨hcz10_0,hcz10_1,hcz10_2⟩:=cz3 BK750.out;obtain⟨hfz10_0,hfz10_1,hfz10_2⟩:=fz3 BK750.out
        go_wp2_with (first|((with_reducible refine gate_callee (f:=38) rfl ?_);refine goesL_ (some 34) rfl rfl Tryz.func38 (by kernel_rfl) rfl #[.agg #[.int .i64 a0_0,.slice A0_1 l0_1.length c0_1,.slice A0_2 l0_2.length c0_2],.slice A1 l1.length c1,.int .i64 a2,.int .i64 a3,.int .i64 x11_1,.int .i64 x12_2] rfl uM ?_;(with_reducible refine(r7_Swapped.calls k2 a0_0 _ _ l0_1 _ _ l0_2 _ _ l1 a2 a3 x11_1 x12_2 t751 true _ ?side1 ?side2 ?side3 ?side4 ?side5 ?side6 A8.out).mono ?_);(case side1=>exact uY HR0_1 HB);(case side2=>exact HC0_1.out);(case side3=>exact uY HR0_2 HB);(case side4=>exact HC0_2.out);(case side5=>exact uY HR1 HB);(case side6=>exact HC1.out);rintro e w11 ⟨v752,rfl,ho0,hb⟩;refine⟨_,rfl,?_⟩;have HO753:=aM (Kd.S_lower ho0 (below_size uB));replace BK750:=aM (blk_below (uK BK750.out) hb);replace HB:=aM (below_step uB hb);(try clear hb);(try clear ho0)))
        go_ret3
        exact⟨uE,uB⟩
       ·replace c9:=Bool.eq_false_iff.mpr c9;subst c9;have H1:(r7_Swaps.l1 k2 l1 a2 a3 x11_1 (wrap64 (x12_2+1)) a0_0 l0_1 l0_2)=some (r1,r2,r3):=by rw[if_neg (show ¬(false=true) by decide)] at H;exact H
        clear H;have H:=H1;clear H1;have H':=aM H;clear H;obtain⟨hcz12_0,hcz12_1,hcz12_2⟩:=cz3 BK750.out;obtain⟨hfz12_0,hfz12_1,hfz12_2⟩:=fz3 BK750.out
        go_wp2_with (first|((with_reducible refine gate_callee (f:=38) rfl ?_);refine goesL_ (some 34) rfl rfl Tryz.func38 (by kernel_rfl) rfl #[.agg #[.int .i64 a0_0,.slice A0_1 l0_1.length c0_1,.slice A0_2 l0_2.length c0_2],.slice A1 l1.length c1,.int .i64 a2,.int .i64 a3,.int .i64 x11_1,.int .i64 x12_2] rfl uM ?_;(with_reducible refine(r7_Swapped.calls k2 a0_0 _ _ l0_1 _ _ l0_2 _ _ l1 a2 a3 x11_1 x12_2 t751 false _ ?side1 ?side2 ?side3 ?side4 ?side5 ?side6 A8.out).mono ?_);(case side1=>exact uY HR0_1 HB);(case side2=>exact HC0_1.out);(case side3=>exact uY HR0_2 HB);(case side4=>exact HC0_2.out);(case side5=>exact uY HR1 HB);(case side6=>exact HC1.out);rintro e w13 ⟨v752,rfl,ho0,hb⟩;refine⟨_,rfl,?_⟩;have HO753:=aM (Kd.S_lower ho0 (below_size uB));replace BK750:=aM (blk_below (uK BK750.out) hb);replace HB:=aM (below_step uB hb);(try clear hb);(try clear ho0)))
        go_roundg k2
        case measure=>have:=HK1.out;have:=HK2.out;omega
        case rel=>exact⟨(wrap64 (x12_2+1)),u0,H',⟨by have:=HK1.out;have:=HK2.out;omega⟩,⟨uK BK750.out⟩,⟨uB⟩⟩
      ·rw[if_neg c7] at H;replace c7:=decide_eq_false c7;have H':=aM H;clear H;go_wp2
       go_roundg k2
       case measure=>have:=HK1.out;have:=HK2.out;omega
       case rel=>exact⟨(wrap64 (x11_1+1)),u0,H',⟨by have:=HK1.out;have:=HK2.out;omega⟩,⟨uK BK750.out⟩,⟨uB⟩⟩
   ·rw[if_neg c6] at H;replace c6:=decide_eq_false c6;simp only[Option.some.injEq,Prod.mk.injEq] at H;obtain⟨rfl,rfl,rfl⟩:=H;go_wp2
    go_ret3
    exact⟨uE,uB⟩
mutual
def q7_DroughtSwaps.j0:Nat→List (List Int)→Int→Int→Bool→Int→List (S77)→List (S51)→Option (Bool)
 |0,_,_,_,_,_,_,_=>none
 |k+1,x1,x2,x3,x22,x756000,x756001,x756002=>if x22=true then((q7_known.f k).bind fun t758=>(some t758)) else((d7_Swaps.f k x756000 x756001 x756002 x1 x2 x3).bind fun bt759=>((r7_Tree.f k x756000 x756001 x756002).bind fun t762=>(if t762=true then((r7_Plan.f k x756000 x756001 x756002 x1).bind fun t763=>(if t763=true then((r7_Runs.f k x756000 x756001 x756002 x1).bind fun t764=>(if t764=true then((r7_Outlet.f x756000 x756001 x756002 x2).bind fun t765=>(if t765=true then((r7_Outlet.f x756000 x756001 x756002 x3).bind fun t766=>(if t766=true then(q7_DroughtSwaps.j1 k x1 x2 x3 bt759.1 bt759.2.1 bt759.2.2 (x2==x3) x756000 x756001 x756002) else(q7_DroughtSwaps.j1 k x1 x2 x3 bt759.1 bt759.2.1 bt759.2.2 true x756000 x756001 x756002))) else(q7_DroughtSwaps.j1 k x1 x2 x3 bt759.1 bt759.2.1 bt759.2.2 true x756000 x756001 x756002))) else(q7_DroughtSwaps.j1 k x1 x2 x3 bt759.1 bt759.2.1 bt759.2.2 true x756000 x756001 x756002))) else(q7_DroughtSwaps.j1 k x1 x2 x3 bt759.1 bt759.2.1 bt759.2.2 true x756000 x756001 x756002))) else(q7_DroughtSwaps.j1 k x1 x2 x3 bt759.1 bt759.2.1 bt759.2.2 true x756000 x756001 x756002))))
def q7_DroughtSwaps.j1:Nat→List (List Int)→Int→Int→Int→Int→Int→Bool→Int→List (S77)→List (S51)→Option (Bool)
 |0,_,_,_,_,_,_,_,_,_,_=>none
 |k+1,x1,x2,x3,x9,x10,x11,x64,x756000,x756001,x756002=>if x64=true then(if x11=2 then(if x9=0 then(if x10=0 then((q7_known.f k).bind fun t767=>(some t767)) else(some false)) else(some false)) else(some false)) else((r7_Swaps.f k x756000 x756001 x756002 x1 x2 x3).bind fun bt768=>(if bt768.2.2=true then(if x11=0 then(if x9=bt768.1 then(if x10=bt768.2.1 then((q7_known.f k).bind fun t771=>(some t771)) else(some false)) else(some false)) else(some false)) else(if x11=5 then(if x9=0 then(if x10=0 then((q7_known.f k).bind fun t772=>(some t772)) else(some false)) else(some false)) else(some false))))
end
def q7_DroughtSwaps.f (k:Nat) (a0_0:Int) (l0_1:List (S77)) (l0_2:List (S51)) (l1:List (List Int)) (a2:Int) (a3:Int):Option (Bool):=(q7_short.f a0_0 l0_1 l0_2).bind fun t756=>(if t756=true then((q7_slim.f k l1).bind fun t757=>(q7_DroughtSwaps.j0 k l1 a2 a3 (!t757) a0_0 l0_1 l0_2)) else(q7_DroughtSwaps.j0 k l1 a2 a3 true a0_0 l0_1 l0_2))
set_option maxHeartbeats 8000000 in
set_option maxRecDepth 100000 in
theorem q7_DroughtSwaps.calls (k:Nat) (a0_0:Int) (A0_1:Option Addr) (c0_1:Nat) (l0_1:List (S77)) (A0_2:Option Addr) (c0_2:Nat) (l0_2:List (S51)) (A1:Option Addr) (c1:Nat) (l1:List (List Int)) (a2:Int) (a3:Int) (r:Bool) (w:World) (hr0_1:Kd.C k77 w A0_1 l0_1.length l0_1) (hc0_1:l0_1.length≤c0_1) (hr0_2:Kd.C k51 w A0_2 l0_2.length l0_2) (hc0_2:l0_2.length≤c0_2) (hr1:Kd.C (Kd.slice 3 (Kd.int .i64)) w A1 l1.length l1) (hc1:l1.length≤c1) (hT:TabW w) (h:q7_DroughtSwaps.f k a0_0 l0_1 l0_2 l1 a2 a3=some r):
  Calls Tryz.prog 4 #[.agg #[.int .i64 a0_0,.slice A0_1 l0_1.length c0_1,.slice A0_2 l0_2.length c0_2],.slice A1 l1.length c1,.int .i64 a2,.int .i64 a3] w fun e w'=>e=.returned (.bool r)∧Below w.heap.size w w':=by
 have HT:=aM hT;clear hT;have hu25:=Tryz.underlying25;have HR0_1:=aM hr0_1;have HC0_1:=aM hc0_1;clear hr0_1 hc0_1;have HR0_2:=aM hr0_2;have HC0_2:=aM hc0_2;clear hr0_2 hc0_2;have HR1:=aM hr1;have HC1:=aM hc1;clear hr1 hc1;have HB:=aM (Below.refl w.heap.size w);have H:((q7_short.f a0_0 l0_1 l0_2).bind fun t756=>(if t756=true then((q7_slim.f k l1).bind fun t757=>(q7_DroughtSwaps.j0 k l1 a2 a3 (!t757) a0_0 l0_1 l0_2)) else(q7_DroughtSwaps.j0 k l1 a2 a3 true a0_0 l0_1 l0_2)))=some r:=h;clear h;have HC5:=aM H;clear H
 go_enter Tryz.func4,Tryz.ntmps4
 go_upto_region 1 with(first|((with_reducible refine gate_dst (N:=4) rfl ?_);refine bxe 4 #[.int .i64 a0_0,.slice A0_1 l0_1.length c0_1,.slice A0_2 l0_2.length c0_2] 25 ?_;intro gb755 hg w6 hbox hb;have n0_:=aM (below_step uB hb);have n1_:=aM (hbox);have n2_:=gw hg;have n3_:=gw hg;clear HB;have HB:=n0_;have BK755:=n1_;have GW755:=n2_;have GE755:=n3_;clear n0_ n1_ n2_ n3_;clear hb hbox hg))
 (try simp only[Act.put,List.setIfInBounds_toArray,List.set_cons_zero,List.set_cons_succ])
 go_cut [22] (fun v22 wc=>∃(kq:Nat) (x22_4:Bool),v22=.bool x22_4∧Aside0 (q7_DroughtSwaps.j0 kq l1 a2 a3 x22_4 a0_0 l0_1 l0_2=some r)∧Aside0 (kq≤k)∧Aside0 (wc.heap[gb755]? =some (.cells #[.int .i64 a0_0,(.slice A0_1 l0_1.length c0_1),(.slice A0_2 l0_2.length c0_2)] 25 (0,0)))∧Aside0 (Below w.heap.size w wc))
 case first=>
  have H:=HC5.out;clear HC5;replace H:=Option.bind_eq_some_iff.mp H;obtain⟨t756,A70,H⟩:=H;replace H:(if t756=true then((q7_slim.f k l1).bind fun t757=>(q7_DroughtSwaps.j0 k l1 a2 a3 (!t757) a0_0 l0_1 l0_2)) else(q7_DroughtSwaps.j0 k l1 a2 a3 true a0_0 l0_1 l0_2))=some r:=H;have A7:=aM A70;clear A70
  by_cases c8:t756=true
  ·subst c8;have H1:((q7_slim.f k l1).bind fun t757=>(q7_DroughtSwaps.j0 k l1 a2 a3 (!t757) a0_0 l0_1 l0_2))=some r:=by rw[if_pos rfl] at H;exact H
   clear H;have H:=H1;clear H1;replace H:=Option.bind_eq_some_iff.mp H;obtain⟨t757,A90,H⟩:=H;replace H:(q7_DroughtSwaps.j0 k l1 a2 a3 (!t757) a0_0 l0_1 l0_2)=some r:=H;have A9:=aM A90;clear A90;have H':=aM H;clear H;obtain⟨hcz10_0,hcz10_1,hcz10_2⟩:=cz3 BK755.out;obtain⟨hfz10_0,hfz10_1,hfz10_2⟩:=fz3 BK755.out
   go_wp2_with (first|((with_reducible refine gate_callee (f:=13) rfl ?_);refine goesL_ (some 16) rfl rfl Tryz.func13 (by kernel_rfl) rfl #[.agg #[.int .i64 a0_0,.slice A0_1 l0_1.length c0_1,.slice A0_2 l0_2.length c0_2]] rfl uM ?_;(with_reducible refine(q7_short.calls a0_0 _ _ l0_1 _ _ l0_2 true _ ?side1 ?side2 ?side3 ?side4 A7.out).mono ?_);(case side1=>exact uY HR0_1 HB);(case side2=>exact HC0_1.out);(case side3=>exact uY HR0_2 HB);(case side4=>exact HC0_2.out);rintro e w11 ⟨rfl,hb⟩;refine⟨_,rfl,?_⟩;replace BK755:=aM (blk_below (uK BK755.out) hb);replace HB:=aM (below_step uB hb);(try clear hb))|(go_at_call 25;(with_reducible refine(q7_slim.calls k _ _ l1 t757 _ ?side1 ?side2 A9.out).mono ?_);(case side1=>exact uY HR1 HB);(case side2=>exact HC1.out);rintro e w' ⟨rfl,⟨nd,rfl⟩⟩))
   go_meet
   case rel=>exact⟨_,(!t757),u0,H',⟨u1⟩,⟨uK BK755.out⟩,⟨uB⟩⟩
  ·replace c8:=Bool.eq_false_iff.mpr c8;subst c8;have H1:(q7_DroughtSwaps.j0 k l1 a2 a3 true a0_0 l0_1 l0_2)=some r:=by rw[if_neg (show ¬(false=true) by decide)] at H;exact H
   clear H;have H:=H1;clear H1;have H':=aM H;clear H;obtain⟨hcz12_0,hcz12_1,hcz12_2⟩:=cz3 BK755.out;obtain⟨hfz12_0,hfz12_1,hfz12_2⟩:=fz3 BK755.out
   go_wp2_with (first|((with_reducible refine gate_callee (f:=13) rfl ?_);refine goesL_ (some 16) rfl rfl Tryz.func13 (by kernel_rfl) rfl #[.agg #[.int .i64 a0_0,.slice A0_1 l0_1.length c0_1,.slice A0_2 l0_2.length c0_2]] rfl uM ?_;(with_reducible refine(q7_short.calls a0_0 _ _ l0_1 _ _ l0_2 false _ ?side1 ?side2 ?side3 ?side4 A7.out).mono ?_);(case side1=>exact uY HR0_1 HB);(case side2=>exact HC0_1.out);(case side3=>exact uY HR0_2 HB);(case side4=>exact HC0_2.out);rintro e w13 ⟨rfl,hb⟩;refine⟨_,rfl,?_⟩;replace BK755:=aM (blk_below (uK BK755.out) hb);replace HB:=aM (below_step uB hb);(try clear hb)))
   go_meet
   case rel=>exact⟨_,(true),u0,H',⟨u1⟩,⟨uK BK755.out⟩,⟨uB⟩⟩
 case rest=>
  clear HC5;try clear c1;try clear p2;try clear c4;try clear c8;try clear c13;try clear hcz10_0;try clear hcz10_1;try clear hcz10_2;try clear hcz12_0;try clear hcz12_1;try clear hcz12_2;try clear hfz10_0;try clear hfz10_1;try clear hfz10_2;try clear hfz12_0;try clear hfz12_1;try clear hfz12_2
  obtain⟨kq,x22_4,rfl,HA,HJ4,BK755,HB⟩:=hcut
  cases kq with
  |zero=>exact absurd HA.out (by simp[q7_DroughtSwaps.j0])
  |succ kj4=>
   have H:=HA.out;clear HA;simp only[q7_DroughtSwaps.j0] at H
   by_cases c14:x22_4=true
   ·subst c14;have H1:((q7_known.f kj4).bind fun t758=>(some t758))=some r:=by rw[if_pos rfl] at H;exact H
    clear H;have H:=H1;clear H1;replace H:=Option.bind_eq_some_iff.mp H;obtain⟨t758,A150,H⟩:=H;replace H:(some t758)=some r:=H;have A15:=aM A150;clear A150;obtain rfl:=Option.some.inj H
    go_wp2_with (first|((with_reducible refine gate_callee (f:=18) rfl ?_);refine goesL_ (some 23) rfl rfl Tryz.func18 (by kernel_rfl) rfl #[] rfl uM ?_;(with_reducible refine(q7_known.calls kj4 t758 _ ?sideT A15.out).mono ?_);(case sideT=>exact HT.out.below uB);rintro e w16 ⟨rfl,hb⟩;refine⟨_,rfl,?_⟩;replace BK755:=aM (blk_below (uK BK755.out) hb);replace HB:=aM (below_step uB hb);(try clear hb)))
    go_ret;exact⟨uE,uB⟩
   ·replace c14:=Bool.eq_false_iff.mpr c14;subst c14;have H1:((d7_Swaps.f kj4 a0_0 l0_1 l0_2 l1 a2 a3).bind fun bt759=>((r7_Tree.f kj4 a0_0 l0_1 l0_2).bind fun t762=>(if t762=true then((r7_Plan.f kj4 a0_0 l0_1 l0_2 l1).bind fun t763=>(if t763=true then((r7_Runs.f kj4 a0_0 l0_1 l0_2 l1).bind fun t764=>(if t764=true then((r7_Outlet.f a0_0 l0_1 l0_2 a2).bind fun t765=>(if t765=true then((r7_Outlet.f a0_0 l0_1 l0_2 a3).bind fun t766=>(if t766=true then(q7_DroughtSwaps.j1 kj4 l1 a2 a3 bt759.1 bt759.2.1 bt759.2.2 (a2==a3) a0_0 l0_1 l0_2) else(q7_DroughtSwaps.j1 kj4 l1 a2 a3 bt759.1 bt759.2.1 bt759.2.2 true a0_0 l0_1 l0_2))) else(q7_DroughtSwaps.j1 kj4 l1 a2 a3 bt759.1 bt759.2.1 bt759.2.2 true a0_0 l0_1 l0_2))) else(q7_DroughtSwaps.j1 kj4 l1 a2 a3 bt759.1 bt759.2.1 bt759.2.2 true a0_0 l0_1 l0_2))) else(q7_DroughtSwaps.j1 kj4 l1 a2 a3 bt759.1 bt759.2.1 bt759.2.2 true a0_0 l0_1 l0_2))) else(q7_DroughtSwaps.j1 kj4 l1 a2 a3 bt759.1 bt759.2.1 bt759.2.2 true a0_0 l0_1 l0_2))))=some r:=by rw[if_neg (show ¬(false=true) by decide)] at H;exact H
    clear H;have H:=H1;clear H1;replace H:=Option.bind_eq_some_iff.mp H;obtain⟨⟨t759,t760,t761⟩,A170,H⟩:=H;replace H:((r7_Tree.f kj4 a0_0 l0_1 l0_2).bind fun t762=>(if t762=true then((r7_Plan.f kj4 a0_0 l0_1 l0_2 l1).bind fun t763=>(if t763=true then((r7_Runs.f kj4 a0_0 l0_1 l0_2 l1).bind fun t764=>(if t764=true then((r7_Outlet.f a0_0 l0_1 l0_2 a2).bind fun t765=>(if t765=true then((r7_Outlet.f a0_0 l0_1 l0_2 a3).bind fun t766=>(if t766=true then(q7_DroughtSwaps.j1 kj4 l1 a2 a3 t759 t760 t761 (a2==a3) a0_0 l0_1 l0_2) else(q7_DroughtSwaps.j1 kj4 l1 a2 a3 t759 t760 t761 true a0_0 l0_1 l0_2))) else(q7_DroughtSwaps.j1 kj4 l1 a2 a3 t759 t760 t761 true a0_0 l0_1 l0_2))) else(q7_DroughtSwaps.j1 kj4 l1 a2 a3 t759 t760 t761 true a0_0 l0_1 l0_2))) else(q7_DroughtSwaps.j1 kj4 l1 a2 a3 t759 t760 t761 true a0_0 l0_1 l0_2))) else(q7_DroughtSwaps.j1 kj4 l1 a2 a3 t759 t760 t761 true a0_0 l0_1 l0_2)))=some r:=H;have A17:=aM A170;clear A170;have HC18:=aM H;clear H;obtain⟨hcz19_0,hcz19_1,hcz19_2⟩:=cz3 BK755.out;obtain⟨hfz19_0,hfz19_1,hfz19_2⟩:=fz3 BK755.out
    go_upto_region 4 with(first|((with_reducible refine gate_callee (f:=26) rfl ?_);refine goesL_ (some 29) rfl rfl Tryz.func26 (by kernel_rfl) rfl #[.agg #[.int .i64 a0_0,.slice A0_1 l0_1.length c0_1,.slice A0_2 l0_2.length c0_2],.slice A1 l1.length c1,.int .i64 a2,.int .i64 a3] rfl uM ?_;(with_reducible refine(d7_Swaps.calls kj4 a0_0 _ _ l0_1 _ _ l0_2 _ _ l1 a2 a3 t759 t760 t761 _ ?side1 ?side2 ?side3 ?side4 ?side5 ?side6 A17.out).mono ?_);(case side1=>exact uY HR0_1 HB);(case side2=>exact HC0_1.out);(case side3=>exact uY HR0_2 HB);(case side4=>exact HC0_2.out);(case side5=>exact uY HR1 HB);(case side6=>exact HC1.out);rintro e w20 ⟨rfl,hb⟩;refine⟨_,rfl,?_⟩;replace BK755:=aM (blk_below (uK BK755.out) hb);replace HB:=aM (below_step uB hb);(try clear hb)))
    (try simp only[Act.put,List.setIfInBounds_toArray,List.set_cons_zero,List.set_cons_succ])
    go_cut [64] (fun v64 wc=>∃(kq:Nat) (x64_17:Bool),v64=.bool x64_17∧Aside0 (q7_DroughtSwaps.j1 kq l1 a2 a3 t759 t760 t761 x64_17 a0_0 l0_1 l0_2=some r)∧Aside0 (kq≤kj4)∧Aside0 (wc.heap[gb755]? =some (.cells #[.int .i64 a0_0,(.slice A0_1 l0_1.length c0_1),(.slice A0_2 l0_2.length c0_2)] 25 (0,0)))∧Aside0 (Below w.heap.size w wc))
    case first=>
     have H:=HC18.out;clear HC18;replace H:=Option.bind_eq_some_iff.mp H;obtain⟨t762,A210,H⟩:=H;replace H:(if t762=true then((r7_Plan.f kj4 a0_0 l0_1 l0_2 l1).bind fun t763=>(if t763=true then((r7_Runs.f kj4 a0_0 l0_1 l0_2 l1).bind fun t764=>(if t764=true then((r7_Outlet.f a0_0 l0_1 l0_2 a2).bind fun t765=>(if t765=true then((r7_Outlet.f a0_0 l0_1 l0_2 a3).bind fun t766=>(if t766=true then(q7_DroughtSwaps.j1 kj4 l1 a2 a3 t759 t760 t761 (a2==a3) a0_0 l0_1 l0_2) else(q7_DroughtSwaps.j1 kj4 l1 a2 a3 t759 t760 t761 true a0_0 l0_1 l0_2))) else(q7_DroughtSwaps.j1 kj4 l1 a2 a3 t759 t760 t761 true a0_0 l0_1 l0_2))) else(q7_DroughtSwaps.j1 kj4 l1 a2 a3 t759 t760 t761 true a0_0 l0_1 l0_2))) else(q7_DroughtSwaps.j1 kj4 l1 a2 a3 t759 t760 t761 true a0_0 l0_1 l0_2))) else(q7_DroughtSwaps.j1 kj4 l1 a2 a3 t759 t760 t761 true a0_0 l0_1 l0_2))=some r:=H;have A21:=aM A210;clear A210
     by_cases c22:t762=true
     ·subst c22;have H1:((r7_Plan.f kj4 a0_0 l0_1 l0_2 l1).bind fun t763=>(if t763=true then((r7_Runs.f kj4 a0_0 l0_1 l0_2 l1).bind fun t764=>(if t764=true then((r7_Outlet.f a0_0 l0_1 l0_2 a2).bind fun t765=>(if t765=true then((r7_Outlet.f a0_0 l0_1 l0_2 a3).bind fun t766=>(if t766=true then(q7_DroughtSwaps.j1 kj4 l1 a2 a3 t759 t760 t761 (a2==a3) a0_0 l0_1 l0_2) else(q7_DroughtSwaps.j1 kj4 l1 a2 a3 t759 t760 t761 true a0_0 l0_1 l0_2))) else(q7_DroughtSwaps.j1 kj4 l1 a2 a3 t759 t760 t761 true a0_0 l0_1 l0_2))) else(q7_DroughtSwaps.j1 kj4 l1 a2 a3 t759 t760 t761 true a0_0 l0_1 l0_2))) else(q7_DroughtSwaps.j1 kj4 l1 a2 a3 t759 t760 t761 true a0_0 l0_1 l0_2)))=some r:=by rw[if_pos rfl] at H;exact H
      clear H;have H:=H1;clear H1;replace H:=Option.bind_eq_some_iff.mp H;obtain⟨t763,A230,H⟩:=H;replace H:(if t763=true then((r7_Runs.f kj4 a0_0 l0_1 l0_2 l1).bind fun t764=>(if t764=true then((r7_Outlet.f a0_0 l0_1 l0_2 a2).bind fun t765=>(if t765=true then((r7_Outlet.f a0_0 l0_1 l0_2 a3).bind fun t766=>(if t766=true then(q7_DroughtSwaps.j1 kj4 l1 a2 a3 t759 t760 t761 (a2==a3) a0_0 l0_1 l0_2) else(q7_DroughtSwaps.j1 kj4 l1 a2 a3 t759 t760 t761 true a0_0 l0_1 l0_2))) else(q7_DroughtSwaps.j1 kj4 l1 a2 a3 t759 t760 t761 true a0_0 l0_1 l0_2))) else(q7_DroughtSwaps.j1 kj4 l1 a2 a3 t759 t760 t761 true a0_0 l0_1 l0_2))) else(q7_DroughtSwaps.j1 kj4 l1 a2 a3 t759 t760 t761 true a0_0 l0_1 l0_2))=some r:=H;have A23:=aM A230;clear A230
      by_cases c24:t763=true
      ·subst c24;have H1:((r7_Runs.f kj4 a0_0 l0_1 l0_2 l1).bind fun t764=>(if t764=true then((r7_Outlet.f a0_0 l0_1 l0_2 a2).bind fun t765=>(if t765=true then((r7_Outlet.f a0_0 l0_1 l0_2 a3).bind fun t766=>(if t766=true then(q7_DroughtSwaps.j1 kj4 l1 a2 a3 t759 t760 t761 (a2==a3) a0_0 l0_1 l0_2) else(q7_DroughtSwaps.j1 kj4 l1 a2 a3 t759 t760 t761 true a0_0 l0_1 l0_2))) else(q7_DroughtSwaps.j1 kj4 l1 a2 a3 t759 t760 t761 true a0_0 l0_1 l0_2))) else(q7_DroughtSwaps.j1 kj4 l1 a2 a3 t759 t760 t761 true a0_0 l0_1 l0_2)))=some r:=by rw[if_pos rfl] at H;exact H
       clear H;have H:=H1;clear H1;replace H:=Option.bind_eq_some_iff.mp H;obtain⟨t764,A250,H⟩:=H;replace H:(if t764=true then((r7_Outlet.f a0_0 l0_1 l0_2 a2).bind fun t765=>(if t765=true then((r7_Outlet.f a0_0 l0_1 l0_2 a3).bind fun t766=>(if t766=true then(q7_DroughtSwaps.j1 kj4 l1 a2 a3 t759 t760 t761 (a2==a3) a0_0 l0_1 l0_2) else(q7_DroughtSwaps.j1 kj4 l1 a2 a3 t759 t760 t761 true a0_0 l0_1 l0_2))) else(q7_DroughtSwaps.j1 kj4 l1 a2 a3 t759 t760 t761 true a0_0 l0_1 l0_2))) else(q7_DroughtSwaps.j1 kj4 l1 a2 a3 t759 t760 t761 true a0_0 l0_1 l0_2))=some r:=H;have A25:=aM A250;clear A250
       by_cases c26:t764=true
       ·subst c26;have H1:((r7_Outlet.f a0_0 l0_1 l0_2 a2).bind fun t765=>(if t765=true then((r7_Outlet.f a0_0 l0_1 l0_2 a3).bind fun t766=>(if t766=true then(q7_DroughtSwaps.j1 kj4 l1 a2 a3 t759 t760 t761 (a2==a3) a0_0 l0_1 l0_2) else(q7_DroughtSwaps.j1 kj4 l1 a2 a3 t759 t760 t761 true a0_0 l0_1 l0_2))) else(q7_DroughtSwaps.j1 kj4 l1 a2 a3 t759 t760 t761 true a0_0 l0_1 l0_2)))=some r:=by rw[if_pos rfl] at H;exact H
        clear H;have H:=H1;clear H1;replace H:=Option.bind_eq_some_iff.mp H;obtain⟨t765,A270,H⟩:=H;replace H:(if t765=true then((r7_Outlet.f a0_0 l0_1 l0_2 a3).bind fun t766=>(if t766=true then(q7_DroughtSwaps.j1 kj4 l1 a2 a3 t759 t760 t761 (a2==a3) a0_0 l0_1 l0_2) else(q7_DroughtSwaps.j1 kj4 l1 a2 a3 t759 t760 t761 true a0_0 l0_1 l0_2))) else(q7_DroughtSwaps.j1 kj4 l1 a2 a3 t759 t760 t761 true a0_0 l0_1 l0_2))=some r:=H;have A27:=aM A270;clear A270
        by_cases c28:t765=true
        ·subst c28;have H1:((r7_Outlet.f a0_0 l0_1 l0_2 a3).bind fun t766=>(if t766=true then(q7_DroughtSwaps.j1 kj4 l1 a2 a3 t759 t760 t761 (a2==a3) a0_0 l0_1 l0_2) else(q7_DroughtSwaps.j1 kj4 l1 a2 a3 t759 t760 t761 true a0_0 l0_1 l0_2)))=some r:=by rw[if_pos rfl] at H;exact H
         clear H;have H:=H1;clear H1;replace H:=Option.bind_eq_some_iff.mp H;obtain⟨t766,A290,H⟩:=H;replace H:(if t766=true then(q7_DroughtSwaps.j1 kj4 l1 a2 a3 t759 t760 t761 (a2==a3) a0_0 l0_1 l0_2) else(q7_DroughtSwaps.j1 kj4 l1 a2 a3 t759 t760 t761 true a0_0 l0_1 l0_2))=some r:=H;have A29:=aM A290;clear A290
         by_cases c30:t766=true
         ·subst c30;have H1:(q7_DroughtSwaps.j1 kj4 l1 a2 a3 t759 t760 t761 (a2==a3) a0_0 l0_1 l0_2)=some r:=by rw[if_pos rfl] at H;exact H
          clear H;have H:=H1;clear H1;have H':=aM H;clear H;obtain⟨hcz31_0,hcz31_1,hcz31_2⟩:=cz3 BK755.out;obtain⟨hfz31_0,hfz31_1,hfz31_2⟩:=fz3 BK755.out
          go_wp2_with (first|((with_reducible refine gate_callee (f:=14) rfl ?_);refine goesL_ (some 34) rfl rfl Tryz.func14 (by kernel_rfl) rfl #[.agg #[.int .i64 a0_0,.slice A0_1 l0_1.length c0_1,.slice A0_2 l0_2.length c0_2]] rfl uM ?_;(with_reducible refine(r7_Tree.calls kj4 a0_0 _ _ l0_1 _ _ l0_2 true _ ?side1 ?side2 ?side3 ?side4 A21.out).mono ?_);(case side1=>exact uY HR0_1 HB);(case side2=>exact HC0_1.out);(case side3=>exact uY HR0_2 HB);(case side4=>exact HC0_2.out);rintro e w32 ⟨rfl,hb⟩;refine⟨_,rfl,?_⟩;replace BK755:=aM (blk_below (uK BK755.out) hb);replace HB:=aM (below_step uB hb);(try clear hb);obtain⟨hcz33_0,hcz33_1,hcz33_2⟩:=cz3 BK755.out;obtain⟨hfz33_0,hfz33_1,hfz33_2⟩:=fz3 BK755.out)|(go_at_call 27;(with_reducible refine(r7_Plan.calls kj4 a0_0 _ _ l0_1 _ _ l0_2 _ _ l1 true _ ?side1 ?side2 ?side3 ?side4 ?side5 ?side6 A23.out).mono ?_);(case side1=>exact uY HR0_1 HB);(case side2=>exact HC0_1.out);(case side3=>exact uY HR0_2 HB);(case side4=>exact HC0_2.out);(case side5=>exact uY HR1 HB);(case side6=>exact HC1.out);rintro e w34 ⟨rfl,hb⟩;replace BK755:=aM (blk_below (uK BK755.out) hb);replace HB:=aM (below_step uB hb);(try clear hb);obtain⟨hcz35_0,hcz35_1,hcz35_2⟩:=cz3 BK755.out;obtain⟨hfz35_0,hfz35_1,hfz35_2⟩:=fz3 BK755.out)|(go_at_call 28;(with_reducible refine(r7_Runs.calls kj4 a0_0 _ _ l0_1 _ _ l0_2 _ _ l1 true _ ?side1 ?side2 ?side3 ?side4 ?side5 ?side6 A25.out).mono ?_);(case side1=>exact uY HR0_1 HB);(case side2=>exact HC0_1.out);(case side3=>exact uY HR0_2 HB);(case side4=>exact HC0_2.out);(case side5=>exact uY HR1 HB);(case side6=>exact HC1.out);rintro e w36 ⟨rfl,hb⟩;replace BK755:=aM (blk_below (uK BK755.out) hb);replace HB:=aM (below_step uB hb);(try clear hb);obtain⟨hcz37_0,hcz37_1,hcz37_2⟩:=cz3 BK755.out;obtain⟨hfz37_0,hfz37_1,hfz37_2⟩:=fz3 BK755.out)|(go_at_call 15;(with_reducible refine(r7_Outlet.calls a0_0 _ _ l0_1 _ _ l0_2 a2 true _ ?side1 ?side2 ?side3 ?side4 A27.out).mono ?_);(case side1=>exact uY HR0_1 HB);(case side2=>exact HC0_1.out);(case side3=>exact uY HR0_2 HB);(case side4=>exact HC0_2.out);rintro e w38 ⟨rfl,hb⟩;replace BK755:=aM (blk_below (uK BK755.out) hb);replace HB:=aM (below_step uB hb);(try clear hb);obtain⟨hcz39_0,hcz39_1,hcz39_2⟩:=cz3 BK755.out;obtain⟨hfz39_0,hfz39_1,hfz39_2⟩:=fz3 BK755.out)|(go_at_call 15;(with_reducible refine(r7_Outlet.calls a0_0 _ _ l0_1 _ _ l0_2 a3 true _ ?side1 ?side2 ?side3 ?side4 A29.out).mono ?_);(case side1=>exact uY HR0_1 HB);(case side2=>exact HC0_1.out);(case side3=>exact uY HR0_2 HB);(case side4=>exact HC0_2.out);rintro e w40 ⟨rfl,hb⟩;replace BK755:=aM (blk_below (uK BK755.out) hb);replace HB:=aM (below_step uB hb);(try clear hb)))
          go_meet
          case rel=>exact⟨_,((a2==a3)),u0,H',⟨by have:=HJ4.out;first|omega|exact Nat.le_refl _⟩,⟨uK BK755.out⟩,⟨uB⟩⟩
         ·replace c30:=Bool.eq_false_iff.mpr c30;subst c30;have H1:(q7_DroughtSwaps.j1 kj4 l1 a2 a3 t759 t760 t761 true a0_0 l0_1 l0_2)=some r:=by rw[if_neg (show ¬(false=true) by decide)] at H;exact H
          clear H;have H:=H1;clear H1;have H':=aM H;clear H;obtain⟨hcz41_0,hcz41_1,hcz41_2⟩:=cz3 BK755.out;obtain⟨hfz41_0,hfz41_1,hfz41_2⟩:=fz3 BK755.out
          go_wp2_with (first|((with_reducible refine gate_callee (f:=14) rfl ?_);refine goesL_ (some 34) rfl rfl Tryz.func14 (by kernel_rfl) rfl #[.agg #[.int .i64 a0_0,.slice A0_1 l0_1.length c0_1,.slice A0_2 l0_2.length c0_2]] rfl uM ?_;(with_reducible refine(r7_Tree.calls kj4 a0_0 _ _ l0_1 _ _ l0_2 true _ ?side1 ?side2 ?side3 ?side4 A21.out).mono ?_);(case side1=>exact uY HR0_1 HB);(case side2=>exact HC0_1.out);(case side3=>exact uY HR0_2 HB);(case side4=>exact HC0_2.out);rintro e w42 ⟨rfl,hb⟩;refine⟨_,rfl,?_⟩;replace BK755:=aM (blk_below (uK BK755.out) hb);replace HB:=aM (below_step uB hb);(try clear hb);obtain⟨hcz43_0,hcz43_1,hcz43_2⟩:=cz3 BK755.out;obtain⟨hfz43_0,hfz43_1,hfz43_2⟩:=fz3 BK755.out)|(go_at_call 27;(with_reducible refine(r7_Plan.calls kj4 a0_0 _ _ l0_1 _ _ l0_2 _ _ l1 true _ ?side1 ?side2 ?side3 ?side4 ?side5 ?side6 A23.out).mono ?_);(case side1=>exact uY HR0_1 HB);(case side2=>exact HC0_1.out);(case side3=>exact uY HR0_2 HB);(case side4=>exact HC0_2.out);(case side5=>exact uY HR1 HB);(case side6=>exact HC1.out);rintro e w44 ⟨rfl,hb⟩;replace BK755:=aM (blk_below (uK BK755.out) hb);replace HB:=aM (below_step uB hb);(try clear hb);obtain⟨hcz45_0,hcz45_1,hcz45_2⟩:=cz3 BK755.out;obtain⟨hfz45_0,hfz45_1,hfz45_2⟩:=fz3 BK755.out)|(go_at_call 28;(with_reducible refine(r7_Runs.calls kj4 a0_0 _ _ l0_1 _ _ l0_2 _ _ l1 true _ ?side1 ?side2 ?side3 ?side4 ?side5 ?side6 A25.out).mono ?_);(case side1=>exact uY HR0_1 HB);(case side2=>exact HC0_1.out);(case side3=>exact uY HR0_2 HB);(case side4=>exact HC0_2.out);(case side5=>exact uY HR1 HB);(case side6=>exact HC1.out);rintro e w46 ⟨rfl,hb⟩;replace BK755:=aM (blk_below (uK BK755.out) hb);replace HB:=aM (below_step uB hb);(try clear hb);obtain⟨hcz47_0,hcz47_1,hcz47_2⟩:=cz3 BK755.out;obtain⟨hfz47_0,hfz47_1,hfz47_2⟩:=fz3 BK755.out)|(go_at_call 15;(with_reducible refine(r7_Outlet.calls a0_0 _ _ l0_1 _ _ l0_2 a2 true _ ?side1 ?side2 ?side3 ?side4 A27.out).mono ?_);(case side1=>exact uY HR0_1 HB);(case side2=>exact HC0_1.out);(case side3=>exact uY HR0_2 HB);(case side4=>exact HC0_2.out);rintro e w48 ⟨rfl,hb⟩;replace BK755:=aM (blk_below (uK BK755.out) hb);replace HB:=aM (below_step uB hb);(try clear hb);obtain⟨hcz49_0,hcz49_1,hcz49_2⟩:=cz3 BK755.out;obtain⟨hfz49_0,hfz49_1,hfz49_2⟩:=fz3 BK755.out)|(go_at_call 15;(with_reducible refine(r7_Outlet.calls a0_0 _ _ l0_1 _ _ l0_2 a3 false _ ?side1 ?side2 ?side3 ?side4 A29.out).mono ?_);(case side1=>exact uY HR0_1 HB);(case side2=>exact HC0_1.out);(case side3=>exact uY HR0_2 HB);(case side4=>exact HC0_2.out);rintro e w50 ⟨rfl,hb⟩;replace BK755:=aM (blk_below (uK BK755.out) hb);replace HB:=aM (below_step uB hb);(try clear hb)))
          go_meet
          case rel=>exact⟨_,(true),u0,H',⟨by have:=HJ4.out;first|omega|exact Nat.le_refl _⟩,⟨uK BK755.out⟩,⟨uB⟩⟩
        ·replace c28:=Bool.eq_false_iff.mpr c28;subst c28;have H1:(q7_DroughtSwaps.j1 kj4 l1 a2 a3 t759 t760 t761 true a0_0 l0_1 l0_2)=some r:=by rw[if_neg (show ¬(false=true) by decide)] at H;exact H
         clear H;have H:=H1;clear H1;have H':=aM H;clear H;obtain⟨hcz51_0,hcz51_1,hcz51_2⟩:=cz3 BK755.out;obtain⟨hfz51_0,hfz51_1,hfz51_2⟩:=fz3 BK755.out
         go_wp2_with (first|((with_reducible refine gate_callee (f:=14) rfl ?_);refine goesL_ (some 34) rfl rfl Tryz.func14 (by kernel_rfl) rfl #[.agg #[.int .i64 a0_0,.slice A0_1 l0_1.length c0_1,.slice A0_2 l0_2.length c0_2]] rfl uM ?_;(with_reducible refine(r7_Tree.calls kj4 a0_0 _ _ l0_1 _ _ l0_2 true _ ?side1 ?side2 ?side3 ?side4 A21.out).mono ?_);(case side1=>exact uY HR0_1 HB);(case side2=>exact HC0_1.out);(case side3=>exact uY HR0_2 HB);(case side4=>exact HC0_2.out);rintro e w52 ⟨rfl,hb⟩;refine⟨_,rfl,?_⟩;replace BK755:=aM (blk_below (uK BK755.out) hb);replace HB:=aM (below_step uB hb);(try clear hb);obtain⟨hcz53_0,hcz53_1,hcz53_2⟩:=cz3 BK755.out;obtain⟨hfz53_0,hfz53_1,hfz53_2⟩:=fz3 BK755.out)|(go_at_call 27;(with_reducible refine(r7_Plan.calls kj4 a0_0 _ _ l0_1 _ _ l0_2 _ _ l1 true _ ?side1 ?side2 ?side3 ?side4 ?side5 ?side6 A23.out).mono ?_);(case side1=>exact uY HR0_1 HB);(case side2=>exact HC0_1.out);(case side3=>exact uY HR0_2 HB);(case side4=>exact HC0_2.out);(case side5=>exact uY HR1 HB);(case side6=>exact HC1.out);rintro e w54 ⟨rfl,hb⟩;replace BK755:=aM (blk_below (uK BK755.out) hb);replace HB:=aM (below_step uB hb);(try clear hb);obtain⟨hcz55_0,hcz55_1,hcz55_2⟩:=cz3 BK755.out;obtain⟨hfz55_0,hfz55_1,hfz55_2⟩:=fz3 BK755.out)|(go_at_call 28;(with_reducible refine(r7_Runs.calls kj4 a0_0 _ _ l0_1 _ _ l0_2 _ _ l1 true _ ?side1 ?side2 ?side3 ?side4 ?side5 ?side6 A25.out).mono ?_);(case side1=>exact uY HR0_1 HB);(case side2=>exact HC0_1.out);(case side3=>exact uY HR0_2 HB);(case side4=>exact HC0_2.out);(case side5=>exact uY HR1 HB);(case side6=>exact HC1.out);rintro e w56 ⟨rfl,hb⟩;replace BK755:=aM (blk_below (uK BK755.out) hb);replace HB:=aM (below_step uB hb);(try clear hb);obtain⟨hcz57_0,hcz57_1,hcz57_2⟩:=cz3 BK755.out;obtain⟨hfz57_0,hfz57_1,hfz57_2⟩:=fz3 BK755.out)|(go_at_call 15;(with_reducible refine(r7_Outlet.calls a0_0 _ _ l0_1 _ _ l0_2 a2 false _ ?side1 ?side2 ?side3 ?side4 A27.out).mono ?_);(case side1=>exact uY HR0_1 HB);(case side2=>exact HC0_1.out);(case side3=>exact uY HR0_2 HB);(case side4=>exact HC0_2.out);rintro e w58 ⟨rfl,hb⟩;replace BK755:=aM (blk_below (uK BK755.out) hb);replace HB:=aM (below_step uB hb);(try clear hb)))
         go_meet
         case rel=>exact⟨_,(true),u0,H',⟨by have:=HJ4.out;first|omega|exact Nat.le_refl _⟩,⟨uK BK755.out⟩,⟨uB⟩⟩
       ·replace c26:=Bool.eq_false_iff.mpr c26;subst c26;have H1:(q7_DroughtSwaps.j1 kj4 l1 a2 a3 t759 t760 t761 true a0_0 l0_1 l0_2)=some r:=by rw[if_neg (show ¬(false=true) by decide)] at H;exact H
        clear H;have H:=H1;clear H1;have H':=aM H;clear H;obtain⟨hcz59_0,hcz59_1,hcz59_2⟩:=cz3 BK755.out;obtain⟨hfz59_0,hfz59_1,hfz59_2⟩:=fz3 BK755.out
        go_wp2_with (first|((with_reducible refine gate_callee (f:=14) rfl ?_);refine goesL_ (some 34) rfl rfl Tryz.func14 (by kernel_rfl) rfl #[.agg #[.int .i64 a0_0,.slice A0_1 l0_1.length c0_1,.slice A0_2 l0_2.length c0_2]] rfl uM ?_;(with_reducible refine(r7_Tree.calls kj4 a0_0 _ _ l0_1 _ _ l0_2 true _ ?side1 ?side2 ?side3 ?side4 A21.out).mono ?_);(case side1=>exact uY HR0_1 HB);(case side2=>exact HC0_1.out);(case side3=>exact uY HR0_2 HB);(case side4=>exact HC0_2.out);rintro e w60 ⟨rfl,hb⟩;refine⟨_,rfl,?_⟩;replace BK755:=aM (blk_below (uK BK755.out) hb);replace HB:=aM (below_step uB hb);(try clear hb);obtain⟨hcz61_0,hcz61_1,hcz61_2⟩:=cz3 BK755.out;obtain⟨hfz61_0,hfz61_1,hfz61_2⟩:=fz3 BK755.out)|(go_at_call 27;(with_reducible refine(r7_Plan.calls kj4 a0_0 _ _ l0_1 _ _ l0_2 _ _ l1 true _ ?side1 ?side2 ?side3 ?side4 ?side5 ?side6 A23.out).mono ?_);(case side1=>exact uY HR0_1 HB);(case side2=>exact HC0_1.out);(case side3=>exact uY HR0_2 HB);(case side4=>exact HC0_2.out);(case side5=>exact uY HR1 HB);(case side6=>exact HC1.out);rintro e w62 ⟨rfl,hb⟩;replace BK755:=aM (blk_below (uK BK755.out) hb);replace HB:=aM (below_step uB hb);(try clear hb);obtain⟨hcz63_0,hcz63_1,hcz63_2⟩:=cz3 BK755.out;obtain⟨hfz63_0,hfz63_1,hfz63_2⟩:=fz3 BK755.out)|(go_at_call 28;(with_reducible refine(r7_Runs.calls kj4 a0_0 _ _ l0_1 _ _ l0_2 _ _ l1 false _ ?side1 ?side2 ?side3 ?side4 ?side5 ?side6 A25.out).mono ?_);(case side1=>exact uY HR0_1 HB);(case side2=>exact HC0_1.out);(case side3=>exact uY HR0_2 HB);(case side4=>exact HC0_2.out);(case side5=>exact uY HR1 HB);(case side6=>exact HC1.out);rintro e w64 ⟨rfl,hb⟩;replace BK755:=aM (blk_below (uK BK755.out) hb);replace HB:=aM (below_step uB hb);(try clear hb)))
        go_meet
        case rel=>exact⟨_,(true),u0,H',⟨by have:=HJ4.out;first|omega|exact Nat.le_refl _⟩,⟨uK BK755.out⟩,⟨uB⟩⟩
      ·replace c24:=Bool.eq_false_iff.mpr c24;subst c24;have H1:(q7_DroughtSwaps.j1 kj4 l1 a2 a3 t759 t760 t761 true a0_0 l0_1 l0_2)=some r:=by rw[if_neg (show ¬(false=true) by decide)] at H;exact H
       clear H;have H:=H1;clear H1;have H':=aM H;clear H;obtain⟨hcz65_0,hcz65_1,hcz65_2⟩:=cz3 BK755.out;obtain⟨hfz65_0,hfz65_1,hfz65_2⟩:=fz3 BK755.out
       go_wp2_with (first|((with_reducible refine gate_callee (f:=14) rfl ?_);refine goesL_ (some 34) rfl rfl Tryz.func14 (by kernel_rfl) rfl #[.agg #[.int .i64 a0_0,.slice A0_1 l0_1.length c0_1,.slice A0_2 l0_2.length c0_2]] rfl uM ?_;(with_reducible refine(r7_Tree.calls kj4 a0_0 _ _ l0_1 _ _ l0_2 true _ ?side1 ?side2 ?side3 ?side4 A21.out).mono ?_);(case side1=>exact uY HR0_1 HB);(case side2=>exact HC0_1.out);(case side3=>exact uY HR0_2 HB);(case side4=>exact HC0_2.out);rintro e w66 ⟨rfl,hb⟩;refine⟨_,rfl,?_⟩;replace BK755:=aM (blk_below (uK BK755.out) hb);replace HB:=aM (below_step uB hb);(try clear hb);obtain⟨hcz67_0,hcz67_1,hcz67_2⟩:=cz3 BK755.out;obtain⟨hfz67_0,hfz67_1,hfz67_2⟩:=fz3 BK755.out)|(go_at_call 27;(with_reducible refine(r7_Plan.calls kj4 a0_0 _ _ l0_1 _ _ l0_2 _ _ l1 false _ ?side1 ?side2 ?side3 ?side4 ?side5 ?side6 A23.out).mono ?_);(case side1=>exact uY HR0_1 HB);(case side2=>exact HC0_1.out);(case side3=>exact uY HR0_2 HB);(case side4=>exact HC0_2.out);(case side5=>exact uY HR1 HB);(case side6=>exact HC1.out);rintro e w68 ⟨rfl,hb⟩;replace BK755:=aM (blk_below (uK BK755.out) hb);replace HB:=aM (below_step uB hb);(try clear hb)))
       go_meet
       case rel=>exact⟨_,(true),u0,H',⟨by have:=HJ4.out;first|omega|exact Nat.le_refl _⟩,⟨uK BK755.out⟩,⟨uB⟩⟩
     ·replace c22:=Bool.eq_false_iff.mpr c22;subst c22;have H1:(q7_DroughtSwaps.j1 kj4 l1 a2 a3 t759 t760 t761 true a0_0 l0_1 l0_2)=some r:=by rw[if_neg (show ¬(false=true) by decide)] at H;exact H
      clear H;have H:=H1;clear H1;have H':=aM H;clear H;obtain⟨hcz69_0,hcz69_1,hcz69_2⟩:=cz3 BK755.out;obtain⟨hfz69_0,hfz69_1,hfz69_2⟩:=fz3 BK755.out
      go_wp2_with (first|((with_reducible refine gate_callee (f:=14) rfl ?_);refine goesL_ (some 34) rfl rfl Tryz.func14 (by kernel_rfl) rfl #[.agg #[.int .i64 a0_0,.slice A0_1 l0_1.length c0_1,.slice A0_2 l0_2.length c0_2]] rfl uM ?_;(with_reducible refine(r7_Tree.calls kj4 a0_0 _ _ l0_1 _ _ l0_2 false _ ?side1 ?side2 ?side3 ?side4 A21.out).mono ?_);(case side1=>exact uY HR0_1 HB);(case side2=>exact HC0_1.out);(case side3=>exact uY HR0_2 HB);(case side4=>exact HC0_2.out);rintro e w70 ⟨rfl,hb⟩;refine⟨_,rfl,?_⟩;replace BK755:=aM (blk_below (uK BK755.out) hb);replace HB:=aM (below_step uB hb);(try clear hb)))
      go_meet
      case rel=>exact⟨_,(true),u0,H',⟨by have:=HJ4.out;first|omega|exact Nat.le_refl _⟩,⟨uK BK755.out⟩,⟨uB⟩⟩
    case rest=>
     clear HC18;try clear c1;try clear c2;try clear p2;try clear c3;try clear c4;try clear c8;try clear c13;try clear c14;try clear c18;try clear c22;try clear c24;try clear c26;try clear c28;try clear c30;try clear hcz10_0;try clear hcz10_1;try clear hcz10_2;try clear hcz12_0;try clear hcz12_1;try clear hcz12_2;try clear hcz19_0;try clear hcz19_1;try clear hcz19_2;try clear hcz31_0;try clear hcz31_1;try clear hcz31_2;try clear hcz33_0;try clear hcz33_1;try clear hcz33_2;try clear hcz35_0;try clear hcz35_1;try clear hcz35_2;try clear hcz37_0;try clear hcz37_1;try clear hcz37_2;try clear hcz39_0;try clear hcz39_1;try clear hcz39_2;try clear hcz41_0;try clear hcz41_1;try clear hcz41_2;try clear hcz43_0;try clear hcz43_1;try clear hcz43_2;try clear hcz45_0;try clear hcz45_1;try clear hcz45_2;try clear hcz47_0;try clear hcz47_1;try clear hcz47_2;try clear hcz49_0;try clear hcz49_1;try clear hcz49_2;try clear hcz51_0;try clear hcz51_1;try clear hcz51_2;try clear hcz53_0;try clear hcz53_1;try clear hcz53_2;try clear hcz55_0;try clear hcz55_1;try clear hcz55_2;try clear hcz57_0;try clear hcz57_1;try clear hcz57_2;try clear hcz59_0;try clear hcz59_1;try clear hcz59_2;try clear hcz61_0;try clear hcz61_1;try clear hcz61_2;try clear hcz63_0;try clear hcz63_1;try clear hcz63_2;try clear hcz65_0;try clear hcz65_1;try clear hcz65_2;try clear hcz67_0;try clear hcz67_1;try clear hcz67_2;try clear hcz69_0;try clear hcz69_1;try clear hcz69_2;try clear hfz10_0;try clear hfz10_1;try clear hfz10_2;try clear hfz12_0;try clear hfz12_1;try clear hfz12_2;try clear hfz19_0;try clear hfz19_1;try clear hfz19_2;try clear hfz31_0;try clear hfz31_1;try clear hfz31_2;try clear hfz33_0;try clear hfz33_1;try clear hfz33_2;try clear hfz35_0;try clear hfz35_1;try clear hfz35_2;try clear hfz37_0;try clear hfz37_1;try clear hfz37_2;try clear hfz39_0;try clear hfz39_1;try clear hfz39_2;try clear hfz41_0;try clear hfz41_1;try clear hfz41_2;try clear hfz43_0;try clear hfz43_1;try clear hfz43_2;try clear hfz45_0;try clear hfz45_1;try clear hfz45_2;try clear hfz47_0;try clear hfz47_1;try clear hfz47_2;try clear hfz49_0;try clear hfz49_1;try clear hfz49_2;try clear hfz51_0;try clear hfz51_1;try clear hfz51_2;try clear hfz53_0;try clear hfz53_1;try clear hfz53_2;try clear hfz55_0;try clear hfz55_1;try clear hfz55_2;try clear hfz57_0;try clear hfz57_1;try clear hfz57_2;try clear hfz59_0;try clear hfz59_1;try clear hfz59_2;try clear hfz61_0;try clear hfz61_1;try clear hfz61_2;try clear hfz63_0;try clear hfz63_1;try clear hfz63_2;try clear hfz65_0;try clear hfz65_1;try clear hfz65_2;try clear hfz67_0;try clear hfz67_1;try clear hfz67_2;try clear hfz69_0;try clear hfz69_1;try clear hfz69_2;try clear p2
     obtain⟨kq,x64_17,rfl,HA,HJ17,BK755,HB⟩:=hcut
     cases kq with
     |zero=>exact absurd HA.out (by simp[q7_DroughtSwaps.j1])
     |succ kj17=>
      have H:=HA.out;clear HA;simp only[q7_DroughtSwaps.j1] at H
      by_cases c71:x64_17=true
      ·subst c71;have H1:(if t761=2 then(if t759=0 then(if t760=0 then((q7_known.f kj17).bind fun t767=>(some t767)) else(some false)) else(some false)) else(some false))=some r:=by rw[if_pos rfl] at H;exact H
       clear H;have H:=H1;clear H1
       by_cases c72:t761=2
       ·rw[if_pos c72] at H;have c72b0:(t761==2)=true:=beq_iff_eq.mpr c72;have c72b1:(t761 !=2)=false:=bne_eq_false_iff_eq.mpr c72;clear c72
        by_cases c73:t759=0
        ·rw[if_pos c73] at H;have c73b0:(t759==0)=true:=beq_iff_eq.mpr c73;have c73b1:(t759 !=0)=false:=bne_eq_false_iff_eq.mpr c73;clear c73
         by_cases c74:t760=0
         ·rw[if_pos c74] at H;have c74b0:(t760==0)=true:=beq_iff_eq.mpr c74;have c74b1:(t760 !=0)=false:=bne_eq_false_iff_eq.mpr c74;clear c74;replace H:=Option.bind_eq_some_iff.mp H;obtain⟨t767,A750,H⟩:=H;replace H:(some t767)=some r:=H;have A75:=aM A750;clear A750;obtain rfl:=Option.some.inj H
          go_wp2_with (first|(go_at_call 18;(with_reducible refine(q7_known.calls kj17 t767 _ ?sideT A75.out).mono ?_);(case sideT=>exact HT.out.below uB);rintro e w76 ⟨rfl,hb⟩;replace BK755:=aM (blk_below (uK BK755.out) hb);replace HB:=aM (below_step uB hb);(try clear hb)))
          go_ret;exact⟨uE,uB⟩
         ·rw[if_neg c74] at H;have c74b0:(t760==0)=false:=beq_eq_false_iff_ne.mpr c74;have c74b1:(t760 !=0)=true:=bne_iff_ne.mpr c74;obtain rfl:=Option.some.inj H;go_wp2;go_ret;exact⟨uE,uB⟩
        ·rw[if_neg c73] at H;have c73b0:(t759==0)=false:=beq_eq_false_iff_ne.mpr c73;have c73b1:(t759 !=0)=true:=bne_iff_ne.mpr c73;obtain rfl:=Option.some.inj H;go_wp2;go_ret;exact⟨uE,uB⟩
       ·rw[if_neg c72] at H;have c72b0:(t761==2)=false:=beq_eq_false_iff_ne.mpr c72;have c72b1:(t761 !=2)=true:=bne_iff_ne.mpr c72;obtain rfl:=Option.some.inj H;go_wp2;go_ret;exact⟨uE,uB⟩
      ·replace c71:=Bool.eq_false_iff.mpr c71;subst c71;have H1:((r7_Swaps.f kj17 a0_0 l0_1 l0_2 l1 a2 a3).bind fun bt768=>(if bt768.2.2=true then(if t761=0 then(if t759=bt768.1 then(if t760=bt768.2.1 then((q7_known.f kj17).bind fun t771=>(some t771)) else(some false)) else(some false)) else(some false)) else(if t761=5 then(if t759=0 then(if t760=0 then((q7_known.f kj17).bind fun t772=>(some t772)) else(some false)) else(some false)) else(some false))))=some r:=by rw[if_neg (show ¬(false=true) by decide)] at H;exact H
       clear H;have H:=H1;clear H1;replace H:=Option.bind_eq_some_iff.mp H;obtain⟨⟨t768,t769,t770⟩,A770,H⟩:=H;replace H:(if t770=true then(if t761=0 then(if t759=t768 then(if t760=t769 then((q7_known.f kj17).bind fun t771=>(some t771)) else(some false)) else(some false)) else(some false)) else(if t761=5 then(if t759=0 then(if t760=0 then((q7_known.f kj17).bind fun t772=>(some t772)) else(some false)) else(some false)) else(some false)))=some r:=H;have A77:=aM A770;clear A770
       by_cases c78:t770=true
       ·subst c78;have H1:(if t761=0 then(if t759=t768 then(if t760=t769 then((q7_known.f kj17).bind fun t771=>(some t771)) else(some false)) else(some false)) else(some false))=some r:=by rw[if_pos rfl] at H;exact H
        clear H;have H:=H1;clear H1
        by_cases c79:t761=0
        ·rw[if_pos c79] at H;have c79b0:(t761==0)=true:=beq_iff_eq.mpr c79;have c79b1:(t761 !=0)=false:=bne_eq_false_iff_eq.mpr c79;clear c79
         by_cases c80:t759=t768
         ·rw[if_pos c80] at H;have c80b0:(t759==t768)=true:=beq_iff_eq.mpr c80;have c80b1:(t759 !=t768)=false:=bne_eq_false_iff_eq.mpr c80;clear c80
          by_cases c81:t760=t769
          ·rw[if_pos c81] at H;have c81b0:(t760==t769)=true:=beq_iff_eq.mpr c81;have c81b1:(t760 !=t769)=false:=bne_eq_false_iff_eq.mpr c81;clear c81;replace H:=Option.bind_eq_some_iff.mp H;obtain⟨t771,A820,H⟩:=H;replace H:(some t771)=some r:=H;have A82:=aM A820;clear A820;obtain rfl:=Option.some.inj H;obtain⟨hcz83_0,hcz83_1,hcz83_2⟩:=cz3 BK755.out;obtain⟨hfz83_0,hfz83_1,hfz83_2⟩:=fz3 BK755.out
           go_wp2_with (first|((with_reducible refine gate_callee (f:=29) rfl ?_);refine goesL_ (some 83) rfl rfl Tryz.func29 (by kernel_rfl) rfl #[.agg #[.int .i64 a0_0,.slice A0_1 l0_1.length c0_1,.slice A0_2 l0_2.length c0_2],.slice A1 l1.length c1,.int .i64 a2,.int .i64 a3] rfl uM ?_;(with_reducible refine(r7_Swaps.calls kj17 a0_0 _ _ l0_1 _ _ l0_2 _ _ l1 a2 a3 t768 t769 true _ ?side1 ?side2 ?side3 ?side4 ?side5 ?side6 A77.out).mono ?_);(case side1=>exact uY HR0_1 HB);(case side2=>exact HC0_1.out);(case side3=>exact uY HR0_2 HB);(case side4=>exact HC0_2.out);(case side5=>exact uY HR1 HB);(case side6=>exact HC1.out);rintro e w84 ⟨rfl,hb⟩;refine⟨_,rfl,?_⟩;replace BK755:=aM (blk_below (uK BK755.out) hb);replace HB:=aM (below_step uB hb);(try clear hb))|(go_at_call 18;(with_reducible refine(q7_known.calls kj17 t771 _ ?sideT A82.out).mono ?_);(case sideT=>exact HT.out.below uB);rintro e w85 ⟨rfl,hb⟩;replace BK755:=aM (blk_below (uK BK755.out) hb);replace HB:=aM (below_step uB hb);(try clear hb)))
           go_ret;exact⟨uE,uB⟩
          ·rw[if_neg c81] at H;have c81b0:(t760==t769)=false:=beq_eq_false_iff_ne.mpr c81;have c81b1:(t760 !=t769)=true:=bne_iff_ne.mpr c81;obtain rfl:=Option.some.inj H;obtain⟨hcz86_0,hcz86_1,hcz86_2⟩:=cz3 BK755.out;obtain⟨hfz86_0,hfz86_1,hfz86_2⟩:=fz3 BK755.out
           go_wp2_with (first|((with_reducible refine gate_callee (f:=29) rfl ?_);refine goesL_ (some 83) rfl rfl Tryz.func29 (by kernel_rfl) rfl #[.agg #[.int .i64 a0_0,.slice A0_1 l0_1.length c0_1,.slice A0_2 l0_2.length c0_2],.slice A1 l1.length c1,.int .i64 a2,.int .i64 a3] rfl uM ?_;(with_reducible refine(r7_Swaps.calls kj17 a0_0 _ _ l0_1 _ _ l0_2 _ _ l1 a2 a3 t768 t769 true _ ?side1 ?side2 ?side3 ?side4 ?side5 ?side6 A77.out).mono ?_);(case side1=>exact uY HR0_1 HB);(case side2=>exact HC0_1.out);(case side3=>exact uY HR0_2 HB);(case side4=>exact HC0_2.out);(case side5=>exact uY HR1 HB);(case side6=>exact HC1.out);rintro e w87 ⟨rfl,hb⟩;refine⟨_,rfl,?_⟩;replace BK755:=aM (blk_below (uK BK755.out) hb);replace HB:=aM (below_step uB hb);(try clear hb)))
           go_ret;exact⟨uE,uB⟩
         ·rw[if_neg c80] at H;have c80b0:(t759==t768)=false:=beq_eq_false_iff_ne.mpr c80;have c80b1:(t759 !=t768)=true:=bne_iff_ne.mpr c80;obtain rfl:=Option.some.inj H;obtain⟨hcz88_0,hcz88_1,hcz88_2⟩:=cz3 BK755.out;obtain⟨hfz88_0,hfz88_1,hfz88_2⟩:=fz3 BK755.out
          go_wp2_with (first|((with_reducible refine gate_callee (f:=29) rfl ?_);refine goesL_ (some 83) rfl rfl Tryz.func29 (by kernel_rfl) rfl #[.agg #[.int .i64 a0_0,.slice A0_1 l0_1.length c0_1,.slice A0_2 l0_2.length c0_2],.slice A1 l1.length c1,.int .i64 a2,.int .i64 a3] rfl uM ?_;(with_reducible refine(r7_Swaps.calls kj17 a0_0 _ _ l0_1 _ _ l0_2 _ _ l1 a2 a3 t768 t769 true _ ?side1 ?side2 ?side3 ?side4 ?side5 ?side6 A77.out).mono ?_);(case side1=>exact uY HR0_1 HB);(case side2=>exact HC0_1.out);(case side3=>exact uY HR0_2 HB);(case side4=>exact HC0_2.out);(case side5=>exact uY HR1 HB);(case side6=>exact HC1.out);rintro e w89 ⟨rfl,hb⟩;refine⟨_,rfl,?_⟩;replace BK755:=aM (blk_below (uK BK755.out) hb);replace HB:=aM (below_step uB hb);(try clear hb)))
          go_ret;exact⟨uE,uB⟩
        ·rw[if_neg c79] at H;have c79b0:(t761==0)=false:=beq_eq_false_iff_ne.mpr c79;have c79b1:(t761 !=0)=true:=bne_iff_ne.mpr c79;obtain rfl:=Option.some.inj H;obtain⟨hcz90_0,hcz90_1,hcz90_2⟩:=cz3 BK755.out;obtain⟨hfz90_0,hfz90_1,hfz90_2⟩:=fz3 BK755.out
         go_wp2_with (first|((with_reducible refine gate_callee (f:=29) rfl ?_);refine goesL_ (some 83) rfl rfl Tryz.func29 (by kernel_rfl) rfl #[.agg #[.int .i64 a0_0,.slice A0_1 l0_1.length c0_1,.slice A0_2 l0_2.length c0_2],.slice A1 l1.length c1,.int .i64 a2,.int .i64 a3] rfl uM ?_;(with_reducible refine(r7_Swaps.calls kj17 a0_0 _ _ l0_1 _ _ l0_2 _ _ l1 a2 a3 t768 t769 true _ ?side1 ?side2 ?side3 ?side4 ?side5 ?side6 A77.out).mono ?_);(case side1=>exact uY HR0_1 HB);(case side2=>exact HC0_1.out);(case side3=>exact uY HR0_2 HB);(case side4=>exact HC0_2.out);(case side5=>exact uY HR1 HB);(case side6=>exact HC1.out);rintro e w91 ⟨rfl,hb⟩;refine⟨_,rfl,?_⟩;replace BK755:=aM (blk_below (uK BK755.out) hb);replace HB:=aM (below_step uB hb);(try clear hb)))
         go_ret;exact⟨uE,uB⟩
       ·replace c78:=Bool.eq_false_iff.mpr c78;subst c78;have H1:(if t761=5 then(if t759=0 then(if t760=0 then((q7_known.f kj17).bind fun t772=>(some t772)) else(some false)) else(some false)) else(some false))=some r:=by rw[if_neg (show ¬(false=true) by decide)] at H;exact H
        clear H;have H:=H1;clear H1
        by_cases c92:t761=5
        ·rw[if_pos c92] at H;have c92b0:(t761==5)=true:=beq_iff_eq.mpr c92;have c92b1:(t761 !=5)=false:=bne_eq_false_iff_eq.mpr c92;clear c92
         by_cases c93:t759=0
         ·rw[if_pos c93] at H;have c93b0:(t759==0)=true:=beq_iff_eq.mpr c93;have c93b1:(t759 !=0)=false:=bne_eq_false_iff_eq.mpr c93;clear c93
          by_cases c94:t760=0
          ·rw[if_pos c94] at H;have c94b0:(t760==0)=true:=beq_iff_eq.mpr c94;have c94b1:(t760 !=0)=false:=bne_eq_false_iff_eq.mpr c94;clear c94;replace H:=Option.bind_eq_some_iff.mp H;obtain⟨t772,A950,H⟩:=H;replace H:(some t772)=some r:=H;have A95:=aM A950;clear A950;obtain rfl:=Option.some.inj H;obtain⟨hcz96_0,hcz96_1,hcz96_2⟩:=cz3 BK755.out;obtain⟨hfz96_0,hfz96_1,hfz96_2⟩:=fz3 BK755.out
           go_wp2_with (first|((with_reducible refine gate_callee (f:=29) rfl ?_);refine goesL_ (some 83) rfl rfl Tryz.func29 (by kernel_rfl) rfl #[.agg #[.int .i64 a0_0,.slice A0_1 l0_1.length c0_1,.slice A0_2 l0_2.length c0_2],.slice A1 l1.length c1,.int .i64 a2,.int .i64 a3] rfl uM ?_;(with_reducible refine(r7_Swaps.calls kj17 a0_0 _ _ l0_1 _ _ l0_2 _ _ l1 a2 a3 t768 t769 false _ ?side1 ?side2 ?side3 ?side4 ?side5 ?side6 A77.out).mono ?_);(case side1=>exact uY HR0_1 HB);(case side2=>exact HC0_1.out);(case side3=>exact uY HR0_2 HB);(case side4=>exact HC0_2.out);(case side5=>exact uY HR1 HB);(case side6=>exact HC1.out);rintro e w97 ⟨rfl,hb⟩;refine⟨_,rfl,?_⟩;replace BK755:=aM (blk_below (uK BK755.out) hb);replace HB:=aM (below_step uB hb);(try clear hb))|(go_at_call 18;(with_reducible refine(q7_known.calls kj17 t772 _ ?sideT A95.out).mono ?_);(case sideT=>exact HT.out.below uB);rintro e w98 ⟨rfl,hb⟩;replace BK755:=aM (blk_below (uK BK755.out) hb);replace HB:=aM (below_step uB hb);(try clear hb)))
           go_ret;exact⟨uE,uB⟩
          ·rw[if_neg c94] at H;have c94b0:(t760==0)=false:=beq_eq_false_iff_ne.mpr c94;have c94b1:(t760 !=0)=true:=bne_iff_ne.mpr c94;obtain rfl:=Option.some.inj H;obtain⟨hcz99_0,hcz99_1,hcz99_2⟩:=cz3 BK755.out;obtain⟨hfz99_0,hfz99_1,hfz99_2⟩:=fz3 BK755.out
           go_wp2_with (first|((with_reducible refine gate_callee (f:=29) rfl ?_);refine goesL_ (some 83) rfl rfl Tryz.func29 (by kernel_rfl) rfl #[.agg #[.int .i64 a0_0,.slice A0_1 l0_1.length c0_1,.slice A0_2 l0_2.length c0_2],.slice A1 l1.length c1,.int .i64 a2,.int .i64 a3] rfl uM ?_;(with_reducible refine(r7_Swaps.calls kj17 a0_0 _ _ l0_1 _ _ l0_2 _ _ l1 a2 a3 t768 t769 false _ ?side1 ?side2 ?side3 ?side4 ?side5 ?side6 A77.out).mono ?_);(case side1=>exact uY HR0_1 HB);(case side2=>exact HC0_1.out);(case side3=>exact uY HR0_2 HB);(case side4=>exact HC0_2.out);(case side5=>exact uY HR1 HB);(case side6=>exact HC1.out);rintro e w100 ⟨rfl,hb⟩;refine⟨_,rfl,?_⟩;replace BK755:=aM (blk_below (uK BK755.out) hb);replace HB:=aM (below_step uB hb);(try clear hb)))
           go_ret;exact⟨uE,uB⟩
         ·rw[if_neg c93] at H;have c93b0:(t759==0)=false:=beq_eq_false_iff_ne.mpr c93;have c93b1:(t759 !=0)=true:=bne_iff_ne.mpr c93;obtain rfl:=Option.some.inj H;obtain⟨hcz101_0,hcz101_1,hcz101_2⟩:=cz3 BK755.out;obtain⟨hfz101_0,hfz101_1,hfz101_2⟩:=fz3 BK755.out
          go_wp2_with (first|((with_reducible refine gate_callee (f:=29) rfl ?_);refine goesL_ (some 83) rfl rfl Tryz.func29 (by kernel_rfl) rfl #[.agg #[.int .i64 a0_0,.slice A0_1 l0_1.length c0_1,.slice A0_2 l0_2.length c0_2],.slice A1 l1.length c1,.int .i64 a2,.int .i64 a3] rfl uM ?_;(with_reducible refine(r7_Swaps.calls kj17 a0_0 _ _ l0_1 _ _ l0_2 _ _ l1 a2 a3 t768 t769 false _ ?side1 ?side2 ?side3 ?side4 ?side5 ?side6 A77.out).mono ?_);(case side1=>exact uY HR0_1 HB);(case side2=>exact HC0_1.out);(case side3=>exact uY HR0_2 HB);(case side4=>exact HC0_2.out);(case side5=>exact uY HR1 HB);(case side6=>exact HC1.out);rintro e w102 ⟨rfl,hb⟩;refine⟨_,rfl,?_⟩;replace BK755:=aM (blk_below (uK BK755.out) hb);replace HB:=aM (below_step uB hb);(try clear hb)))
          go_ret;exact⟨uE,uB⟩
        ·rw[if_neg c92] at H;have c92b0:(t761==5)=false:=beq_eq_false_iff_ne.mpr c92;have c92b1:(t761 !=5)=true:=bne_iff_ne.mpr c92;obtain rfl:=Option.some.inj H;obtain⟨hcz103_0,hcz103_1,hcz103_2⟩:=cz3 BK755.out;obtain⟨hfz103_0,hfz103_1,hfz103_2⟩:=fz3 BK755.out
         go_wp2_with (first|((with_reducible refine gate_callee (f:=29) rfl ?_);refine goesL_ (some 83) rfl rfl Tryz.func29 (by kernel_rfl) rfl #[.agg #[.int .i64 a0_0,.slice A0_1 l0_1.length c0_1,.slice A0_2 l0_2.length c0_2],.slice A1 l1.length c1,.int .i64 a2,.int .i64 a3] rfl uM ?_;(with_reducible refine(r7_Swaps.calls kj17 a0_0 _ _ l0_1 _ _ l0_2 _ _ l1 a2 a3 t768 t769 false _ ?side1 ?side2 ?side3 ?side4 ?side5 ?side6 A77.out).mono ?_);(case side1=>exact uY HR0_1 HB);(case side2=>exact HC0_1.out);(case side3=>exact uY HR0_2 HB);(case side4=>exact HC0_2.out);(case side5=>exact uY HR1 HB);(case side6=>exact HC1.out);rintro e w104 ⟨rfl,hb⟩;refine⟨_,rfl,?_⟩;replace BK755:=aM (blk_below (uK BK755.out) hb);replace HB:=aM (below_step uB hb);(try clear hb)))
         go_ret;exact⟨uE,uB⟩
def d7_Runs.f (a0_0:Int) (l0_1:List (S77)) (l0_2:List (S51)) (l1:List (List Int)):Option (Bool×Int):=(d7_isTree.f a0_0 l0_1 l0_2).bind fun t803=>(if t803=true then((d7_isPlan.f a0_0 l0_1 l0_2 l1).bind fun t804=>(if t804=true then((d7_runs.f a0_0 l0_1 l0_2 l1).bind fun t805=>(some (t805,0))) else(some (false,2)))) else(some (false,2)))
end Go.Proofs.YtjioobfeikbffabGreatDoor.K
end
section
namespace Go.Proofs.YtjioobfeikbffabGreatDoor.K
open Dr Go.RowKit Go.Proofs.Zw Go.Proofs.Zl Go.Proofs.Zm
namespace Rf
variable {I:Int} {N:List SN} {O:List SO}
theorem rdL {l:List (List Int)} {j:Nat} (h:j<l.length):rd_L5 l (j:Int)=l[j]:=by simp[rd_L5,List.getD,List.getElem?_eq_getElem h]
theorem rdE {l:List Int} {j:Nat} (h:j<l.length):rd l (j:Int)=l[j]:=by simp[rd,List.getD,List.getElem?_eq_getElem h]
def slimP (l:List (List Int)):Prop:=l.length≤12∧∀d∈l,d.length≤10
theorem slim_l0 (l:List (List Int)):∀(d j K:Nat),j+d=15→2*d+2≤K→(∀ i (hi:i<l.length),i<j→l[i].length≤10)→∃b,q7_slim.l0 K l (j:Int)=some b∧(b=true→slimP l)
  |d,j,K,hj,hK,hp=>by
    obtain⟨K,rfl⟩:∃k,K=k+1+1:=⟨K-2,by omega⟩
    have stop:l.length≤j∨14≤j→∃b,(some (decide ((l.length:Int)≤12)):Option Bool)=some b∧(b=true→slimP l):=fun hs=>⟨_,rfl,fun hb=>by
      rw[decide_eq_true_eq] at hb;refine⟨by omega,fun x hx=>?_⟩;obtain⟨i,hi,rfl⟩:=List.mem_iff_getElem.1 hx
      exact hp i hi (by omega)⟩
    unfold q7_slim.l0
    by_cases c1:j<l.length
    · rw[if_pos (by omega)];unfold q7_slim.j1
      by_cases c2:j<14
      · rw[decide_eq_true (by omega),if_pos rfl,if_pos (by omega),if_pos (by omega),rdL c1,sml (by omega) (by omega)]
        by_cases c3:(l[j].length:Int)>10
        · rw[if_pos c3];exact⟨false,rfl,fun h=>by cases h⟩
        · rw[if_neg c3]
          match d,hj,hK with
          |0,hj,hK=>omega
          |d+1,hj,hK=>
            have:=slim_l0 l d (j+1) K (by omega) (by omega) (fun i hi h=>by
              by_cases e:i=j
              · subst e;omega
              · exact hp i hi (by omega))
            rw[show ((j+1:Nat):Int)=(j:Int)+1 by omega] at this;exact this
      · rw[decide_eq_false (by omega),if_neg (by simp)];exact stop (.inr (by omega))
    · rw[if_neg (by omega)];unfold q7_slim.j1;rw[if_neg (by simp)];exact stop (.inl (by omega))
theorem slim_f (l:List (List Int)) (K:Nat) (hK:40≤K):∃b,q7_slim.f K l=some b∧(b=true→slimP l):=
  slim_l0 l 15 0 K (by omega) (by omega) (fun i _ h=>by omega)
def dayOk (O:List SO) (d:List Int) (k:Nat):Bool:=outlB O (rd d (k:Int))&&(decide (k=0)||decide (rd d ((k:Int)-1)<rd d (k:Int)))
theorem day_range (O:List SO) (d:List Int):dayB O d=(List.range' 0 d.length).all (dayOk O d):=by
  unfold dayB;rw[List.range_eq_range']
  rfl
theorem plan_l1 (hO:O.length≤1000) {l:List (List Int)} (hl:l.length≤1000) {j:Nat} (hj:j<l.length) (hd:l[j].length≤1000) {r:Bool} {B:Nat} (H:∀K,B≤K→r7_Plan.l0 K l ((j:Int)+1) I N O=some r):
    ∀(n k K:Nat),k+n=l[j].length→B+n+1≤K→r7_Plan.l1 K l (j:Int) (k:Int) I N O=some ((List.range' k n).all (dayOk O l[j])&&r)
  |0,k,K+1,hk,hK=>by
    unfold r7_Plan.l1;rw[if_pos (by omega),if_pos (by omega),rdL hj,if_neg (by omega),sml (by omega) (by omega),H K (by omega)];simp
  |n+1,k,K+1,hk,hK=>by
    have ih:=plan_l1 hO hl hj hd H n (k+1) K (by omega) (by omega);rw[show ((k+1:Nat):Int)=(k:Int)+1 by omega] at ih;unfold r7_Plan.l1
    rw[if_pos (by omega),if_pos (by omega),rdL hj,if_pos (by omega),if_pos (by omega),outlet_f I N O hO,Option.bind_some,List.range'_succ,List.all_cons,
      show dayOk O l[j] k=(inB (rd l[j] (k:Int)) 0 (O.length-1)&&(decide (k=0)||decide (rd l[j] ((k:Int)-1)<rd l[j] (k:Int)))) from rfl]
    cases h1:inB (rd l[j] (k:Int)) 0 (O.length-1) with
    |false=>rw[if_neg (by simp)];simp
    |true=>
      rw[if_pos rfl,sml (a:=(k:Int)+1) (by omega) (by omega)]
      by_cases h2:(k:Int)>0
      · rw[if_pos h2,sml (a:=(k:Int)-1) (by omega) (by omega),if_pos (by omega),if_pos (by omega)]
        by_cases h3:rd l[j] (k:Int)≤rd l[j] ((k:Int)-1)
        · rw[if_pos h3,decide_eq_false (show ¬k=0 by omega),decide_eq_false (show ¬rd l[j] ((k:Int)-1)<rd l[j] (k:Int) by omega)];simp
        · rw[if_neg h3,ih,decide_eq_true (show rd l[j] ((k:Int)-1)<rd l[j] (k:Int) by omega),Bool.or_true,Bool.and_true,Bool.true_and]
      · rw[if_neg h2,ih,decide_eq_true (show k=0 by omega),Bool.true_or,Bool.and_true,Bool.true_and]
theorem plan_l0 (hO:O.length≤1000) {l:List (List Int)} (hl:l.length≤1000) (hd:∀d∈l,d.length≤1000):
    ∀(n j K:Nat),j+n=l.length→1002*n+1≤K→r7_Plan.l0 K l (j:Int) I N O=some ((l.drop j).all (dayB O)&&decide ((l.length:Int)≤10))
  |0,j,K+1,hj,hK=>by
    unfold r7_Plan.l0;rw[if_neg (by omega),List.drop_eq_nil_of_le (by omega)]
    rfl
  |n+1,j,K+1,hj,hK=>by
    have hj':j<l.length:=by omega
    have hdj:=hd _ (List.getElem_mem hj');unfold r7_Plan.l0
    have:=plan_l1 (I:=I) (N:=N) hO hl hj' hdj (r:=((l.drop (j+1)).all (dayB O)&&decide ((l.length:Int)≤10))) (B:=1002*n+1) (fun K hK=>by
      have:=plan_l0 hO hl hd n (j+1) K (by omega) hK;rw[show ((j+1:Nat):Int)=(j:Int)+1 by omega] at this
      exact this) l[j].length 0 K (by omega) (by omega)
    rw[if_pos (by omega),show(0:Int)=((0:Nat):Int) from rfl,this,←day_range,List.drop_eq_getElem_cons hj',List.all_cons,Bool.and_assoc]
theorem plan_is (O:List SO) (l:List (List Int)):planB O l=(l.all (dayB O)&&decide ((l.length:Int)≤10)):=by
  unfold planB;rw[List.not_any_eq_all_not,Bool.and_comm]
  congr 1
  simp
theorem plan_f (hO:O.length≤1000) {l:List (List Int)} (hl:slimP l) (K:Nat) (hK:13000≤K):r7_Plan.f K I N O l=some (planB O l):=by
  unfold r7_Plan.f;have h1:=hl.1;rw[plan_is];exact plan_l0 hO (by omega) (fun d hd=>by have:=hl.2 d hd;omega) l.length 0 K (by omega) (by omega)
structure DayP (O:List SO) (d:List Int):Prop where
  rng:∀z∈d,0≤z∧z<O.length
  lt:d.Pairwise (· < ·)
theorem day_p {O:List SO} {d:List Int} (h:dayB O d=true):DayP O d:=by
  unfold dayB at h;rw[List.all_eq_true] at h
  have h':∀k (hk:k<d.length),(0≤d[k]∧d[k]<O.length)∧(k=0∨rd d ((k:Int)-1)<d[k]):=fun k hk=>by
    have:=h k (List.mem_range.2 hk);rw[rdE hk] at this;simp only[outlB,Bool.and_eq_true,Bool.or_eq_true,decide_eq_true_eq] at this
    omega
  refine⟨fun z hz=>?_,?_⟩
  · obtain⟨i,hi,rfl⟩:=List.mem_iff_getElem.1 hz;exact(h' i hi).1
  · rw[List.pairwise_iff_getElem]
    have key:∀(n i:Nat) (hi:i<d.length) (hj:i+(n+1)<d.length),d[i]<d[i+(n+1)]:=by
      intro n
      induction n with
      |zero=>
        intro i hi hj;have:=(h' (i+1) hj).2.resolve_left (by omega);rw[show ((i+1:Nat):Int)-1=(i:Int) by omega,rdE hi] at this;exact this
      |succ n ih=>
        intro i hi hj;have h1:=ih i hi (by omega);have h2:=(h' (i+(n+1)+1) hj).2.resolve_left (by omega);rw[show ((i+(n+1)+1:Nat):Int)-1=((i+(n+1):Nat):Int) by omega,rdE (by omega)] at h2;exact Int.lt_trans h1 h2
    intro i j hi hj hij;obtain⟨n,rfl⟩:∃n,j=i+(n+1):=⟨j-i-1,by omega⟩;exact key n i hi hj
theorem p_day {O:List SO} {d:List Int} (h:DayP O d):dayB O d=true:=by
  refine day_good fun k hk=>?_;rw[rdE hk];have h1:=h.rng _ (List.getElem_mem hk);simp only[outlB,Bool.and_eq_true,Bool.or_eq_true,decide_eq_true_eq];refine⟨by omega,?_⟩
  by_cases e:k=0
  · exact .inl e
  · have h2:=List.pairwise_iff_getElem.1 h.lt (k-1) k (by omega) hk (by omega);have e2:=rdE (l:=d) (j:=k-1) (by omega);rw[show ((k-1:Nat):Int)=(k:Int)-1 by omega] at e2;rw[e2];exact .inr h2
theorem plan_days {O:List SO} {l:List (List Int)} (h:planB O l=true):l.length≤10∧∀d∈l,DayP O d:=by
  rw[plan_is,Bool.and_eq_true,List.all_eq_true,decide_eq_true_eq] at h;exact⟨by omega,fun d hd=>day_p (h.1 d hd)⟩
theorem days_plan {O:List SO} {l:List (List Int)} (h:l.length≤10) (hd:∀d∈l,DayP O d):planB O l=true:=by
  rw[plan_is,Bool.and_eq_true,List.all_eq_true,decide_eq_true_eq];exact⟨fun d h=>p_day (hd d h),by omega⟩
theorem runL_set {d:List Int} {z:Int} (h0:0≤z) (h1:z<O.length):(runL O (fun y=>decide (y∈d)) O.length).set z.toNat (rdO O z).f1=runL O (fun y=>decide (y∈d++[z])) O.length:=by
  apply List.ext_getElem
  · simp[runL]
  · intro i hi hi2;have hl:i<O.length:=by simpa[runL] using hi2
    rw[List.getElem_set];simp only[runL,List.getElem_map,List.getElem_range]
    by_cases e:z.toNat=i
    · have e2:((i:Nat):Int)=z:=by omega
      rw[if_pos e,e2];simp[hl]
    · have e2:¬((i:Nat):Int)=z:=by omega
      rw[if_neg e];simp[hl,e2]
theorem running_l0 {d:List Int} (hd:∀z∈d,0≤z∧z<O.length) (hl:d.length≤1000):
    ∀(n j K:Nat),j+n=d.length→n<K→r7_Running.l0 K d (runL O (fun y=>decide (y∈d.take j)) O.length) (j:Int) I N O=some (runL O (fun y=>decide (y∈d)) O.length)
  |0,j,K+1,hj,hK=>by
    unfold r7_Running.l0;rw[if_neg (by omega),List.take_of_length_le (by omega)]
  |n+1,j,K+1,hj,hK=>by
    have ih:=running_l0 hd hl n (j+1) K (by omega) (by omega);rw[show ((j+1:Nat):Int)=(j:Int)+1 by omega] at ih;have hj':j<d.length:=by omega
    have h1:=hd _ (List.getElem_mem hj');have e:d.take (j+1)=d.take j++[d[j]]:=by rw[List.take_add_one,List.getElem?_eq_getElem hj'];rfl
    unfold r7_Running.l0;rw[if_pos (by omega),if_pos (by omega),rdE hj',if_pos h1.1,if_pos h1.2,if_pos (by rw[runL_len];exact h1.2),runL_set h1.1 h1.2,←e,sml (by omega) (by omega)];exact ih
theorem running_f (hO:O.length≤1000) {d:List Int} (hd:∀z∈d,0≤z∧z<O.length) (hl:d.length≤1000) (K:Nat) (hK:d.length<K):r7_Running.f K I N O d=some (runL O (fun y=>decide (y∈d)) O.length):=by
  unfold r7_Running.f;rw[if_pos (by omega),if_pos (by omega)];have:=running_l0 (I:=I) (N:=N) hd hl d.length 0 K (by omega) hK
  have e:runL O (fun y=>decide (y∈d.take 0)) O.length=List.replicate ((O.length:Int):Int).toNat 0:=by
    apply List.ext_getElem
    · simp[runL]
    · intro i h1 h2;simp[runL]
  rw[e] at this;exact this
theorem runFits_f (h:treeB I N O=true) (d:List Int) (K:Nat) (hK:50<K):r7_Fits.f K I N O (runL O (fun y=>decide (y∈d)) O.length)=some (runB I N O d):=by
  have ht:=tree_ok h;have h2:=ht.nl;have h3:=ht.ol;obtain⟨hs,hr⟩:=small_ok (runL_small ht.o (fun y=>decide (y∈d)) O.length);exact fits_f (by omega) ht.n ht.o hs (by omega) hr K (by omega)
theorem runs_is (I:Int) (N:List SN) (O:List SO) (l:List (List Int)):runsB I N O l=l.all (runB I N O):=by
  unfold runsB;rw[List.not_any_eq_all_not];simp
theorem runs_l0 (h:treeB I N O=true) {l:List (List Int)} (hl:l.length≤1000) (hd:∀d∈l,d.length≤1000∧∀z∈d,0≤z∧z<O.length):
    ∀(n j K:Nat),j+n=l.length→n+1100≤K→r7_Runs.l0 K l (j:Int) I N O=some ((l.drop j).all (runB I N O))
  |0,j,K+1,hj,hK=>by
    unfold r7_Runs.l0;rw[if_neg (by omega),List.drop_eq_nil_of_le (by omega)]
    rfl
  |n+1,j,K+1,hj,hK=>by
    have ih:=runs_l0 h hl hd n (j+1) K (by omega) (by omega);rw[show ((j+1:Nat):Int)=(j:Int)+1 by omega] at ih;have hj':j<l.length:=by omega
    have h1:=hd _ (List.getElem_mem hj');have h3:=(tree_ok h).ol;unfold r7_Runs.l0;rw[if_pos (by omega),if_pos (by omega),rdL hj',running_f (by omega) h1.2 h1.1 K (by omega),Option.bind_some,runFits_f h _ K (by omega),Option.bind_some,sml (by omega) (by omega),List.drop_eq_getElem_cons hj',List.all_cons]
    cases hr:runB I N O l[j] with
    |false=>rfl
    |true=>rw[if_pos rfl,ih];rfl
theorem runs_f (h:treeB I N O=true) {l:List (List Int)} (hl:slimP l) (hp:planB O l=true) (K:Nat) (hK:1200≤K):r7_Runs.f K I N O l=some (runsB I N O l):=by
  have h1:=hl.1;unfold r7_Runs.f;rw[runs_is];exact runs_l0 h (by omega) (fun d hd=>⟨by have:=hl.2 d hd;omega,((plan_days hp).2 d hd).rng⟩) l.length 0 K (by omega) (by omega)
theorem small_days {l:List (List Int)} (h:treeB I N O=true) (hl:slimP l) (hp:planB O l=true):l.all smallDB=true:=by
  have h3:=(tree_ok h).ol;rw[List.all_eq_true];intro d hd;have h1:=hl.2 d hd;have h2:=((plan_days hp).2 d hd).rng;simp only[smallDB,Bool.and_eq_true,decide_eq_true_eq,List.all_eq_true];exact⟨by omega,fun y hy=>by have:=h2 y hy;omega⟩
theorem runsS_f {l:List (List Int)} (h:treeB I N O=true) (hl:slimP l) (hp:planB O l=true):d7_runs.f I N O l=some (runsB I N O l):=by
  have ht:=tree_ok h;have h2:=ht.nl;have h3:=ht.ol;unfold d7_runs.f;rw[if_pos ⟨ht.n,ht.o,by omega,by omega,small_days h hl hp⟩]
theorem isPlanC_f (hO:O.length≤1000) (l:List (List Int)):d7_isPlan.f I N O l=some (planB O l):=by
  unfold d7_isPlan.f;rw[if_pos hO]
end Rf
end Go.Proofs.YtjioobfeikbffabGreatDoor.K
end
section
namespace Go.Proofs.YtjioobfeikbffabGreatDoor.K
open Go.RowKit Go.Proofs.Zw Go.Proofs.Zl Go.Proofs.Zm
attribute [local go_sem] max2_int min2_int max_two min_two max_three min_three max_four min_four
def r7_Days.l0:Nat→List (List Int)→Int→Int→Int→Option (Int)
 |0,_,_,_,_=>none
 |k+1,x0,x1,x5,x6=>if x6<(x0.length:Int) then(if 0≤x6 then((r7_Has.f k (rd_L5 x0 x6) x1).bind fun t807=>(if t807=true then(r7_Days.l0 k x0 x1 (wrap64 (x5+1)) (wrap64 (x6+1))) else(r7_Days.l0 k x0 x1 x5 (wrap64 (x6+1))))) else(none)) else(some x5)
def r7_Days.f (k:Nat) (l0:List (List Int)) (a1:Int):Option (Int):=r7_Days.l0 k l0 a1 0 0
end Go.Proofs.YtjioobfeikbffabGreatDoor.K
end
section
namespace Go.Proofs.YtjioobfeikbffabGreatDoor.K
open Dr Go.RowKit Go.Proofs.Zw Go.Proofs.Zl Go.Proofs.Zm
namespace Rf
variable {I:Int} {N:List SN} {O:List SO}
def insB (d:List Int) (gone come i:Int):Bool:=decide (i=come)||!decide (i=gone)&&decide (i∈d)
def insTo (d:List Int) (gone come:Int) (j:Nat):List Int:=(allTo j).filter (insB d gone come)
theorem insTo_succ (d:List Int) (g c:Int) (j:Nat):insTo d g c (j+1)=insTo d g c j++if insB d g c j=true then [(j:Int)] else []:=by
  unfold insTo allTo;rw[List.range_succ,List.map_append,List.filter_append]
  congr 1
  by_cases h:insB d g c j=true<;>simp[h]
theorem insTo_len (d:List Int) (g c:Int) (j:Nat):(insTo d g c j).length≤j:=by
  have:=List.length_filter_le (insB d g c) (allTo j);rw[all_len] at this;exact this
theorem insTo_p (d:List Int) (g c:Int):DayP O (insTo d g c O.length):=by
  constructor
  · intro z hz;exact all_mem.1 (List.mem_filter.1 hz).1
  · refine List.Pairwise.filter _ ?_;unfold allTo;rw[List.pairwise_map];exact List.pairwise_lt_range.imp (fun h=>by omega)
theorem insTo_mem {d:List Int} {g c x:Int}:x∈insTo d g c O.length↔(0≤x∧x<O.length)∧(x=c∨x≠g∧x∈d):=by
  unfold insTo;rw[List.mem_filter,all_mem];simp[insB]
theorem instead_l0 (hO:O.length≤1000) {d:List Int} (hd:d.length≤1000) (g c:Int):
    ∀(n j K:Nat),j+n=O.length→n+1001<K→r7_instead.l0 K d g c (insTo d g c j) (j:Int) I N O=some (insTo d g c O.length)
  |0,j,K+1,hj,hK=>by
    unfold r7_instead.l0;rw[if_neg (by omega),show j=O.length by omega]
  |n+1,j,K+1,hj,hK=>by
    have ih:=instead_l0 hO hd g c n (j+1) K (by omega) (by omega);rw[show ((j+1:Nat):Int)=(j:Int)+1 by omega,insTo_succ] at ih;have hl:=insTo_len d g c j;unfold r7_instead.l0;rw[if_pos (by omega),sml (a:=(j:Int)+1) (by omega) (by omega)]
    by_cases h1:(j:Int)=c
    · rw[if_pos h1,if_pos (by omega)];rw[if_pos (by simp[insB,h1])] at ih;exact ih
    · rw[if_neg h1]
      by_cases h2:(j:Int)=g
      · rw[if_pos h2];rw[if_neg (by simp[insB,h1,h2];intro e;exact absurd e.symm (fun e2=>h1 (h2.trans (e2.symm)))),List.append_nil] at ih;exact ih
      · rw[if_neg h2,has_f d hd _ K (by omega),Option.bind_some]
        by_cases h3:(j:Int)∈d
        · rw[decide_eq_true h3,if_pos rfl,if_pos (by omega)];rw[if_pos (by simp[insB,h1,h2,h3])] at ih;exact ih
        · rw[decide_eq_false h3,if_neg (by simp)];rw[if_neg (by simp[insB,h1,h2,h3]),List.append_nil] at ih;exact ih
theorem instead_f (hO:O.length≤1000) {d:List Int} (hd:d.length≤1000) (g c:Int) (K:Nat) (hK:2010≤K):r7_instead.f K I N O d g c=some (insTo d g c O.length):=by
  unfold r7_instead.f;exact instead_l0 hO hd g c O.length 0 K (by omega) (by omega)
theorem mem_instead {d:List Int} {g c x:Int}:x∈insteadL d g c↔x=c∨x≠g∧x∈d:=by
  unfold insteadL;rw[(sortL_perm _).mem_iff,List.mem_append,List.mem_singleton];unfold withoutL;rw[List.mem_filter];simp only[Bool.not_eq_true',beq_eq_false_iff_ne,ne_eq]
  constructor
  · rintro(⟨a,b⟩|e)
    · exact .inr ⟨b,a⟩
    · exact .inl e
  · rintro(e|⟨a,b⟩)
    · exact .inr e
    · exact .inl ⟨b,a⟩
theorem run_instead {d:List Int} {g c:Int} (hd:∀z∈d,0≤z∧z<O.length) (hc:0≤c∧c<O.length):runB I N O (insteadL d g c)=runB I N O (insTo d g c O.length):=
  run_same fun z=>by
    rw[mem_instead,insTo_mem]
    constructor
    · rintro(e|⟨a,b⟩)
      · exact⟨by omega,.inl e⟩
      · exact⟨hd z b,.inr ⟨a,b⟩⟩
    · exact fun h=>h.2
def exB (I:Int) (N:List SN) (O:List SO) (l:List (List Int)) (one other:Int) (x y:Nat):Bool:=!decide (x=y)&&swapB I N O (l.getD x []) (l.getD y []) one other
def exAt (O:List SO) (l:List (List Int)) (one other:Int) (x y d:Nat):List Int:=if d=y then insTo (l.getD d []) other one O.length else if d=x then insTo (l.getD d []) one other O.length else l.getD d []
def exTo (O:List SO) (l:List (List Int)) (one other:Int) (x y j:Nat):List (List Int):=(List.range j).map (exAt O l one other x y)
theorem getDL {l:List (List Int)} {j:Nat} (h:j<l.length):l.getD j []=l[j]:=by simp[List.getD,List.getElem?_eq_getElem h]
section
variable (h:treeB I N O=true) {l:List (List Int)} (hl:slimP l) (hp:planB O l=true) (hr:runsB I N O l=true) {one other:Int} (h1:0≤one∧one<O.length) (h2:0≤other∧other<O.length)
include hp in
theorem plan_at {d:Nat} (hd:d<l.length):DayP O (l.getD d []):=by rw[getDL hd];exact(plan_days hp).2 _ (List.getElem_mem hd)
include hl in
theorem slim_at {d:Nat} (hd:d<l.length):(l.getD d []).length≤10:=by rw[getDL hd];exact hl.2 _ (List.getElem_mem hd)
include hp in
theorem exAt_p {x y d:Nat} (hd:d<l.length):DayP O (exAt O l one other x y d):=by
  unfold exAt
  split
  · exact insTo_p _ _ _
  · split
    · exact insTo_p _ _ _
    · exact plan_at hp hd
include hp in
theorem exTo_plan (x y:Nat):planB O (exTo O l one other x y l.length)=true:=by
  refine days_plan (by have:=(plan_days hp).1;simpa[exTo] using this) fun d hd=>?_;unfold exTo at hd;obtain⟨k,hk,rfl⟩:=List.mem_map.1 hd;exact exAt_p hp (List.mem_range.1 hk)
include h hl in
theorem exTo_slim (x y:Nat):slimP (exTo O l one other x y l.length):=by
  have h8:=(tree_ok h).ol;refine⟨by have:=hl.1;simpa[exTo] using this,fun d hd=>?_⟩;unfold exTo at hd;obtain⟨k,hk,rfl⟩:=List.mem_map.1 hd;unfold exAt
  split
  · exact Nat.le_trans (insTo_len _ _ _ _) (by omega)
  · split
    · exact Nat.le_trans (insTo_len _ _ _ _) (by omega)
    · exact slim_at hl (List.mem_range.1 hk)
include hr in
theorem run_at' {d:Nat} (hd:d<l.length):runB I N O (l.getD d [])=true:=by
  rw[runs_is,List.all_eq_true] at hr;rw[getDL hd];exact hr _ (List.getElem_mem hd)
include hp hr h1 h2 in

theorem exTo_runs {x y:Nat} (hx:x<l.length) (hy:y<l.length) (hxy:x≠y):runsB I N O (exTo O l one other x y l.length)=runsB I N O [insteadL (l.getD x []) one other,insteadL (l.getD y []) other one]:=by
  have ex:=run_instead (I:=I) (N:=N) (g:=one) (plan_at hp hx).rng h2;have ey:=run_instead (I:=I) (N:=N) (g:=other) (plan_at hp hy).rng h1;rw[runs_is,runs_is,Bool.eq_iff_iff];simp only[List.all_cons,List.all_nil,Bool.and_true,Bool.and_eq_true,ex,ey];rw[List.all_eq_true]
  constructor
  · intro ha;have a1:=ha (exAt O l one other x y x) (List.mem_map.2 ⟨x,List.mem_range.2 hx,rfl⟩);have a2:=ha (exAt O l one other x y y) (List.mem_map.2 ⟨y,List.mem_range.2 hy,rfl⟩);unfold exAt at a1 a2;rw[if_neg hxy,if_pos rfl] at a1;rw[if_pos rfl] at a2;exact⟨a1,a2⟩
  · rintro⟨a1,a2⟩ d hd;obtain⟨k,hk,rfl⟩:=List.mem_map.1 hd;unfold exAt
    split
    · rename_i e;rw[e];exact a2
    · split
      · rename_i e;rw[e];exact a1
      · exact run_at' hr (List.mem_range.1 hk)
include h hl hp in
theorem swapped_l0 {x y:Nat} (hxy:x≠y):∀(n j K:Nat),j+n=l.length→n+2100≤K→
    r7_Swapped.l0 K l one other (x:Int) (y:Int) (exTo O l one other x y j) (j:Int) I N O=some (exTo O l one other x y l.length,runsB I N O (exTo O l one other x y l.length))
  |0,j,K+1,hj,hK=>by
    unfold r7_Swapped.l0;rw[if_neg (by omega),show j=l.length by omega,runs_f h (exTo_slim h hl x y) (exTo_plan hp x y) K (by omega),Option.bind_some]
  |n+1,j,K+1,hj,hK=>by
    have ih:=swapped_l0 hxy n (j+1) K (by omega) (by omega);have hj':j<l.length:=by omega
    have h12:=hl.1;have h8:=(tree_ok h).ol;have hd:=slim_at hl hj';rw[getDL hj'] at hd;have es:exTo O l one other x y (j+1)=exTo O l one other x y j++[exAt O l one other x y j]:=by unfold exTo;rw[List.range_succ,List.map_append];rfl
    have el:(exTo O l one other x y j).length=j:=by simp[exTo]
    rw[show ((j+1:Nat):Int)=(j:Int)+1 by omega,es] at ih;unfold exAt at ih;rw[getDL hj'] at ih;unfold r7_Swapped.l0;rw[if_pos (by omega),if_pos (by omega),rdL hj',if_pos (by simp;omega),sml (a:=(j:Int)+1) (by omega) (by omega)]
    by_cases cx:j=x
    · rw[if_pos (by omega),instead_f (by omega) (by omega) _ _ K (by omega),Option.bind_some,if_neg (by omega),if_pos (by omega)];rw[if_neg (by omega),if_pos cx] at ih;exact ih
    · rw[if_neg (by omega)]
      by_cases cy:j=y
      · rw[if_pos (by omega),instead_f (by omega) (by omega) _ _ K (by omega),Option.bind_some,if_pos (by omega)];rw[if_pos cy] at ih;exact ih
      · rw[if_neg (by omega),if_pos (by omega),List.nil_append];rw[if_neg cy,if_neg cx] at ih;exact ih
include h hl hp hr h1 h2 in
theorem swapped_f {x y:Nat} (hx:x<l.length) (hy:y<l.length) (K:Nat) (hK:3000≤K):
    ∃q,r7_Swapped.f K I N O l one other (x:Int) (y:Int)=some (q,exB I N O l one other x y)∧(exB I N O l one other x y=true→q=exTo O l one other x y l.length):=by
  obtain⟨K,rfl⟩:∃k,K=k+1:=⟨K-1,by omega⟩;have h12:=hl.1;have hdx:=slim_at hl hx;have hdy:=slim_at hl hy;have bad:∀b,b=false→∃q,r7_Swapped.j0 (K+1) l one other (x:Int) (y:Int) true I N O=some (q,b)∧(b=true→q=exTo O l one other x y l.length):=fun b hb=>⟨[],by subst hb;rfl,fun e=>by rw[hb] at e;cases e⟩;unfold r7_Swapped.f exB
  by_cases hxy:x=y
  · rw[if_pos (by omega)];exact bad _ (by simp[hxy])
  · rw[if_neg (by omega),if_pos (by omega),if_pos (by omega),rdL hx,←getDL hx,has_f _ (by omega) _ _ (by omega),Option.bind_some];unfold swapB
    by_cases c1:one∈l.getD x []
    · rw[decide_eq_true c1,if_pos rfl,has_f _ (by omega) _ _ (by omega),Option.bind_some]
      by_cases c2:other∈l.getD x []
      · rw[decide_eq_true c2,if_pos rfl];exact bad _ (by simp)
      · rw[decide_eq_false c2,if_neg (by simp),if_pos (by omega),if_pos (by omega),rdL hy,←getDL hy,has_f _ (by omega) _ _ (by omega),Option.bind_some]
        by_cases c3:other∈l.getD y []
        · rw[decide_eq_true c3,if_pos rfl,has_f _ (by omega) _ _ (by omega),Option.bind_some]
          by_cases c4:one∈l.getD y []
          · rw[decide_eq_true c4];exact bad _ (by simp)
          · rw[decide_eq_false c4,decide_eq_false hxy];have e0:=swapped_l0 h hl hp hxy l.length 0 K (by omega) (by omega) (one:=one) (other:=other);rw[exTo_runs hp hr h1 h2 hx hy hxy] at e0;exact⟨exTo O l one other x y l.length,e0,fun _=>rfl⟩
        · rw[decide_eq_false c3,if_neg (by simp)];exact bad _ (by simp)
    · rw[decide_eq_false c1,if_neg (by simp)];exact bad _ (by simp)
def FirstE (l:List (List Int)) (P:Nat→Nat→Bool) (x y:Nat):Prop:=x<l.length∧y<l.length∧P x y=true∧∀x' y',x'<l.length→y'<l.length→(x'<x∨x'=x∧y'<y)→P x' y'=false
def NoneE (l:List (List Int)) (P:Nat→Nat→Bool):Prop:=∀x y,x<l.length→y<l.length→P x y=false
theorem first_uniq {l:List (List Int)} {P:Nat→Nat→Bool} {x y x' y':Nat} (h:FirstE l P x y) (h':FirstE l P x' y'):x=x'∧y=y':=by
  obtain⟨a,b,c,d⟩:=h;obtain⟨a',b',c',d'⟩:=h';have k1:¬(x'<x∨x'=x∧y'<y):=fun e=>by rw[d x' y' a' b' e] at c';cases c'
  have k2:¬(x<x'∨x=x'∧y<y'):=fun e=>by rw[d' x y a b e] at c;cases c
  omega
theorem first_none {l:List (List Int)} {P:Nat→Nat→Bool} {x y:Nat} (h:FirstE l P x y) (h':NoneE l P):False:=by
  have:=h' x y h.1 h.2.1;rw[h.2.2.1] at this
  cases this
include h hl hp hr h1 h2 in
theorem swapsR_l1 {x:Nat} (hx:x<l.length) (hb:∀x' y',x'<x→y'<l.length→exB I N O l one other x' y'=false) {B:Nat} (hB:3000≤B)
    (H:(∀ y',y'<l.length→exB I N O l one other x y'=false)→∀K,B≤K→∃r,r7_Swaps.l0 K l one other ((x:Int)+1) I N O=some r∧((∃ x y:Nat,r=((x:Int),(y:Int),true)∧FirstE l (exB I N O l one other) x y)∨r=(0,0,false)∧NoneE l (exB I N O l one other))):
    ∀(n k K:Nat),k+n=l.length→B+n+1≤K→(∀ y',y'<k→exB I N O l one other x y'=false)→∃r,r7_Swaps.l1 K l one other (x:Int) (k:Int) I N O=some r∧((∃ x y:Nat,r=((x:Int),(y:Int),true)∧FirstE l (exB I N O l one other) x y)∨r=(0,0,false)∧NoneE l (exB I N O l one other))
  |0,k,K+1,hk,hK,hn=>by
    have h12:=hl.1;unfold r7_Swaps.l1;rw[if_neg (by omega),sml (by omega) (by omega)];exact H (fun y' hy'=>hn y' (by omega)) K (by omega)
  |n+1,k,K+1,hk,hK,hn=>by
    have h12:=hl.1;obtain⟨q,e,_⟩:=swapped_f h hl hp hr h1 h2 hx (y:=k) (by omega) K (by omega);unfold r7_Swaps.l1;rw[if_pos (by omega),e,Option.bind_some]
    dsimp only
    cases hc:exB I N O l one other x k with
    |true=>
      rw[if_pos rfl];refine⟨_,rfl,.inl ⟨x,k,rfl,hx,by omega,hc,fun x' y' a b c=>?_⟩⟩
      rcases c with c|⟨rfl,c⟩
      · exact hb x' y' c b
      · exact hn y' c
    |false=>
      rw[if_neg (by simp),sml (by omega) (by omega)]
      have:=swapsR_l1 hx hb hB H n (k+1) K (by omega) (by omega) (fun y' hy'=>by
        by_cases e:y'=k
        · rw[e];exact hc
        · exact hn y' (by omega))
      rw[show ((k+1:Nat):Int)=(k:Int)+1 by omega] at this;exact this
include h hl hp hr h1 h2 in
theorem swapsR_l0:∀(n x K:Nat),x+n=l.length→20*n+3001≤K→(∀ x' y',x'<x→y'<l.length→exB I N O l one other x' y'=false)→
    ∃r,r7_Swaps.l0 K l one other (x:Int) I N O=some r∧((∃ x y:Nat,r=((x:Int),(y:Int),true)∧FirstE l (exB I N O l one other) x y)∨r=(0,0,false)∧NoneE l (exB I N O l one other))
  |0,x,K+1,hx,hK,hb=>by
    unfold r7_Swaps.l0;rw[if_neg (by omega)];exact⟨_,rfl,.inr ⟨rfl,fun x' y' a b=>hb x' y' (by omega) b⟩⟩
  |n+1,x,K+1,hx,hK,hb=>by
    have h12:=hl.1;unfold r7_Swaps.l0;rw[if_pos (by omega)];refine swapsR_l1 h hl hp hr h1 h2 (x:=x) (by omega) hb (B:=20*n+3001) (by omega) (fun hn K hK=>?_) l.length 0 K (by omega) (by omega) (fun y' hy'=>by omega)
    have:=swapsR_l0 n (x+1) K (by omega) hK (fun x' y' a b=>by
      by_cases e:x'=x
      · rw[e];exact hn y' b
      · exact hb x' y' (by omega) b)
    rw[show ((x+1:Nat):Int)=(x:Int)+1 by omega] at this;exact this
include h hl hp hr h1 h2 in

theorem swapsR_f (K:Nat) (hK:4000≤K):∃r,r7_Swaps.f K I N O l one other=some r∧((∃ x y:Nat,r=((x:Int),(y:Int),true)∧FirstE l (exB I N O l one other) x y)∨r=(0,0,false)∧NoneE l (exB I N O l one other)):=by
  have h12:=hl.1;unfold r7_Swaps.f;exact swapsR_l0 h hl hp hr h1 h2 l.length 0 K (by omega) (by omega) (fun x' y' a=>by omega)
include h hl hp h1 h2 in
theorem swapS_f {x y:Nat} (hx:x<l.length) (hy:y<l.length):d7_swaps.f I N O (l.getD x []) (l.getD y []) one other=some (swapB I N O (l.getD x []) (l.getD y []) one other):=by
  have ht:=tree_ok h;have h6:=ht.nl;have h8:=ht.ol
  have sm:∀ {d:Nat},d<l.length→smallE (l.getD d [])=true:=fun {d} hd=>by
    have a:=slim_at hl hd;have b:=(plan_at hp hd).rng;simp only[smallE,Bool.and_eq_true,decide_eq_true_eq,List.all_eq_true];exact⟨by omega,fun y hy=>by have:=b y hy;omega⟩
  unfold d7_swaps.f;rw[if_pos ⟨⟨ht.n,ht.o,by omega,by omega⟩,⟨sm hx,sm hy⟩,⟨by omega,by omega⟩,by omega,by omega⟩]
include h hl hp h1 h2 in
theorem swapsC_l1 {x:Nat} (hx:x<l.length) (hb:∀x' y',x'<x→y'<l.length→exB I N O l one other x' y'=false) {B:Nat}
    (H:(∀ y',y'<l.length→exB I N O l one other x y'=false)→∀K,B≤K→∃r,d7_Swaps.l0 K l one other l (l.length:Int) ((x:Int)+1) I N O=some r∧((∃ x y:Nat,r=((x:Int),(y:Int),0)∧FirstE l (exB I N O l one other) x y)∨r=(0,0,5)∧NoneE l (exB I N O l one other))):
    ∀(n k K:Nat),k+n=l.length→B+n+1≤K→(∀ y',y'<k→exB I N O l one other x y'=false)→∃r,d7_Swaps.l1 K l one other (x:Int) (l.getD x []) l (l.length:Int) (x:Int) l (l.length:Int) (k:Int) I N O=some r∧((∃ x y:Nat,r=((x:Int),(y:Int),0)∧FirstE l (exB I N O l one other) x y)∨r=(0,0,5)∧NoneE l (exB I N O l one other))
  |0,k,K+1,hk,hK,hn=>by
    have h12:=hl.1;unfold d7_Swaps.l1;rw[if_neg (by omega),sml (by omega) (by omega)];exact H (fun y' hy'=>hn y' (by omega)) K (by omega)
  |n+1,k,K+1,hk,hK,hn=>by
    have h12:=hl.1;have hk':k<l.length:=by omega
    have next:exB I N O l one other x k=false→∃r,d7_Swaps.l1 K l one other (x:Int) (l.getD x []) l (l.length:Int) (x:Int) l (l.length:Int) ((k:Int)+1) I N O=some r∧((∃ x y:Nat,r=((x:Int),(y:Int),0)∧FirstE l (exB I N O l one other) x y)∨r=(0,0,5)∧NoneE l (exB I N O l one other)):=fun hc=>by
      have:=swapsC_l1 hx hb H n (k+1) K (by omega) (by omega) (fun y' hy'=>by
        by_cases e:y'=k
        · rw[e];exact hc
        · exact hn y' (by omega))
      rw[show ((k+1:Nat):Int)=(k:Int)+1 by omega] at this;exact this
    unfold d7_Swaps.l1;rw[if_pos (by omega),if_pos (by omega),if_pos (by omega),sml (by omega) (by omega)]
    by_cases e:x=k
    · rw[if_pos (by omega)];exact next (by simp[exB,e])
    · rw[if_neg (by omega),rdL hk',←getDL hk',swapS_f h hl hp h1 h2 hx hk',Option.bind_some];have ee:exB I N O l one other x k=swapB I N O (l.getD x []) (l.getD k []) one other:=by unfold exB;rw[decide_eq_false e];rfl
      rw[← ee]
      cases hc:exB I N O l one other x k with
      |true=>
        rw[if_pos rfl];refine⟨_,rfl,.inl ⟨x,k,rfl,hx,hk',hc,fun x' y' a b c=>?_⟩⟩
        rcases c with c|⟨rfl,c⟩
        · exact hb x' y' c b
        · exact hn y' c
      |false=>rw[if_neg (by simp)];exact next hc
include h hl hp h1 h2 in
theorem swapsC_l0:∀(n x K:Nat),x+n=l.length→20*n+1≤K→(∀ x' y',x'<x→y'<l.length→exB I N O l one other x' y'=false)→
    ∃r,d7_Swaps.l0 K l one other l (l.length:Int) (x:Int) I N O=some r∧((∃ x y:Nat,r=((x:Int),(y:Int),0)∧FirstE l (exB I N O l one other) x y)∨r=(0,0,5)∧NoneE l (exB I N O l one other))
  |0,x,K+1,hx,hK,hb=>by
    unfold d7_Swaps.l0;rw[if_neg (by omega)];exact⟨_,rfl,.inr ⟨rfl,fun x' y' a b=>hb x' y' (by omega) b⟩⟩
  |n+1,x,K+1,hx,hK,hb=>by
    have h12:=hl.1;have hx':x<l.length:=by omega
    unfold d7_Swaps.l0;rw[if_pos (by omega),if_pos (by omega),if_pos (by omega),rdL hx',←getDL hx'];refine swapsC_l1 h hl hp h1 h2 (x:=x) hx' hb (B:=20*n+1) (fun hn K hK=>?_) l.length 0 K (by omega) (by omega) (fun y' hy'=>by omega)
    have:=swapsC_l0 n (x+1) K (by omega) hK (fun x' y' a b=>by
      by_cases e:x'=x
      · rw[e];exact hn y' b
      · exact hb x' y' (by omega) b)
    rw[show ((x+1:Nat):Int)=(x:Int)+1 by omega] at this;exact this
end
def swapOk (I:Int) (N:List SN) (O:List SO) (l:List (List Int)) (one other:Int):Bool:=treeB I N O&&planB O l&&inB one 0 (O.length-1)&&inB other 0 (O.length-1)&&!decide (one=other)&&runsB I N O l
theorem swapsC_f (hN:N.length≤1000) (hO:O.length≤1000) {l:List (List Int)} (hl:slimP l) (one other:Int) (K:Nat) (hK:1000≤K):
    ∃r,d7_Swaps.f K I N O l one other=some r∧(if swapOk I N O l one other=true then((∃ x y:Nat,r=((x:Int),(y:Int),0)∧FirstE l (exB I N O l one other) x y)∨r=(0,0,5)∧NoneE l (exB I N O l one other)) else r=(0,0,2)):=by
  obtain⟨K,rfl⟩:∃k,K=k+1:=⟨K-1,by omega⟩;have bad:∀b,b=false→∃r,d7_Swaps.j0 (K+1) l one other true I N O=some r∧(if b=true then((∃ x y:Nat,r=((x:Int),(y:Int),0)∧FirstE l (exB I N O l one other) x y)∨r=(0,0,5)∧NoneE l (exB I N O l one other)) else r=(0,0,2)):=fun b hb=>⟨_,rfl,by rw[if_neg (by simp[hb])]⟩;unfold d7_Swaps.f swapOk;rw[isTreeC_f hN hO,Option.bind_some]
  cases c1:treeB I N O with
  |false=>rw[if_neg (by simp)];exact bad _ (by simp)
  |true=>
    rw[if_pos rfl,isPlanC_f hO,Option.bind_some]
    cases c2:planB O l with
    |false=>rw[if_neg (by simp)];exact bad _ (by simp)
    |true=>
      rw[if_pos rfl,isOutletC_f hO,Option.bind_some]
      cases c3:inB one 0 (O.length-1) with
      |false=>rw[if_neg (by simp)];exact bad _ (by simp)
      |true=>
        rw[if_pos rfl,isOutletC_f hO,Option.bind_some]
        cases c4:inB other 0 (O.length-1) with
        |false=>rw[if_neg (by simp)];exact bad _ (by simp)
        |true=>
          rw[if_pos rfl]
          by_cases c5:one=other
          · rw[if_pos c5,decide_eq_true c5];exact bad _ (by simp)
          · rw[if_neg c5,decide_eq_false c5,runsS_f c1 hl c2,Option.bind_some]
            cases c6:runsB I N O l with
            |false=>exact bad _ (by simp)
            |true=>
              have a1:=inB_t.mp c3;have a2:=inB_t.mp c4;have h12:=hl.1;exact swapsC_l0 c1 hl c2 ⟨a1.1,by omega⟩ ⟨a2.1,by omega⟩ l.length 0 K (by omega) (by omega) (fun x' y' a=>by omega)
end Rf
set_option linter.unusedSectionVars false
namespace Rf
variable {I:Int} {N:List SN} {O:List SO}
theorem DroughtSwaps_pure (I:Int) (N:List SN) (O:List SO) (l:List (List Int)) (one other:Int) (K:Nat) (hK:200000≤K):q7_DroughtSwaps.f K I N O l one other=some true:=by
  unfold q7_DroughtSwaps.f;obtain⟨K,rfl⟩:∃k,K=k+1+1:=⟨K-2,by omega⟩;have bad:q7_DroughtSwaps.j0 (K+1+1) l one other true I N O=some true:=rfl;rw[short_f,Option.bind_some]
  cases hs:(decide (N.length≤8)&&decide (O.length≤10)) with
  |false=>rw[if_neg (by simp)];exact bad
  |true=>
    have hl:N.length≤8∧O.length≤10:=by simpa using hs
    rw[if_pos rfl];obtain⟨b,eb,hb⟩:=slim_f l (K+1+1) (by omega);rw[eb,Option.bind_some]
    cases b with
    |false=>exact bad
    |true=>
      have hsl:=hb rfl;obtain⟨r,er,hr⟩:=swapsC_f (I:=I) (N:=N) (O:=O) (by omega) (by omega) hsl one other (K+1) (by omega);simp only[q7_DroughtSwaps.j0,Bool.not_true,Bool.false_eq_true,if_false];rw[er,Option.bind_some,tree_f I N O (by omega) (by omega) _ (by omega),Option.bind_some]
      have no:swapOk I N O l one other=false→q7_DroughtSwaps.j1 (K+1) l one other r.1 r.2.1 r.2.2 true I N O=some true:=fun e=>by
        rw[if_neg (by simp[e])] at hr;rw[hr]
        rfl
      cases c1:treeB I N O with
      |false=>rw[if_neg (by simp)];exact no (by simp[swapOk,c1])
      |true=>
        rw[if_pos rfl,plan_f (by omega) hsl _ (by omega),Option.bind_some]
        cases c2:planB O l with
        |false=>rw[if_neg (by simp)];exact no (by simp[swapOk,c2])
        |true=>
          rw[if_pos rfl,runs_f c1 hsl c2 _ (by omega),Option.bind_some]
          cases c3:runsB I N O l with
          |false=>rw[if_neg (by simp)];exact no (by simp[swapOk,c3])
          |true=>
            rw[if_pos rfl,outlet_f I N O (by omega),Option.bind_some]
            cases c4:inB one 0 (O.length-1) with
            |false=>rw[if_neg (by simp)];exact no (by simp[swapOk,c4])
            |true=>
              rw[if_pos rfl,outlet_f I N O (by omega),Option.bind_some]
              cases c5:inB other 0 (O.length-1) with
              |false=>rw[if_neg (by simp)];exact no (by simp[swapOk,c5])
              |true=>
                rw[if_pos rfl]
                by_cases c6:one=other
                · rw[show (one==other)=true from beq_iff_eq.2 c6];exact no (by simp[swapOk,c6])
                · rw[show (one==other)=false from beq_eq_false_iff_ne.2 c6];rw[if_pos (by simp[swapOk,c1,c2,c3,c4,c5,c6])] at hr;have a1:=inB_t.mp c4;have a2:=inB_t.mp c5;obtain⟨q,eq,hq⟩:=swapsR_f c1 hsl c2 c3 (one:=one) (other:=other) ⟨a1.1,by omega⟩ ⟨a2.1,by omega⟩ K (by omega);unfold q7_DroughtSwaps.j1
                  dsimp only
                  rw[if_neg (by simp),eq,Option.bind_some]
                  rcases hr with⟨x,y,rfl,hf⟩|⟨rfl,hn⟩
                  · rcases hq with⟨x',y',rfl,hf'⟩|⟨rfl,hn'⟩
                    · obtain⟨rfl,rfl⟩:=first_uniq hf hf'
                      dsimp only
                      rw[if_pos rfl,if_pos rfl,if_pos rfl,if_pos rfl]
                      rfl
                    · exact(first_none hf hn').elim
                  · rcases hq with⟨x',y',rfl,hf'⟩|⟨rfl,hn'⟩
                    · exact(first_none hf' hn).elim
                    · rfl
end Rf
theorem DroughtSwaps_law (I:Int) (A0 A1:Option Addr) (c0 c1:Nat) (N:List SN) (O:List SO) (A2:Option Addr) (c2:Nat) (l:List (List Int)) (one:Int) (other:Int) (w:World) (hT:TabW w) (h0:At' k77 w A0 N.length c0 N) (h1:At' k51 w A1 O.length c1 O) (h2:At' (Kd.slice 3 (Kd.int .i64)) w A2 l.length c2 l):
    Calls Tryz.prog 4 #[.agg #[.int .i64 I,.slice A0 N.length c0,.slice A1 O.length c1],.slice A2 l.length c2,.int .i64 one,.int .i64 other] w fun e w'=>e=.returned (.bool true)∧Below w.heap.size w w':=
  q7_DroughtSwaps.calls 200000 I A0 c0 N A1 c1 O A2 c2 l one other true w h0.c h0.le h1.c h1.le h2.c h2.le hT (Rf.DroughtSwaps_pure I N O l one other 200000 (by omega))
end Go.Proofs.YtjioobfeikbffabGreatDoor.K
end
