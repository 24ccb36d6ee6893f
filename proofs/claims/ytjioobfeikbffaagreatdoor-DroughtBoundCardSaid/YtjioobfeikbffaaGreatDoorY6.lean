/- The walks of the functions that the laws of this seat call, and what they compute; joined out of smaller texts, part 6. -/
import Derived.Outline
import Derived.Deep.Slices
import Derived.ProofKit
import Derived.OpenShut
import Derived.Test.YtjioobfeikbffaaGreatDoorY5
set_option linter.unusedVariables false
set_option linter.unusedSimpArgs false
section
namespace Go.Proofs.YtjioobfeikbffaaGreatDoor.K
open Go.RowKit Go.Proofs.YtjioobfeikbffaaGreatDoorW.PrintWords Go.Proofs.YtjioobfeikbffaaGreatDoorW.PrintLast Go.Proofs.YtjioobfeikbffaaGreatDoorW.PrintMore
attribute [local go_sem] max2_int min2_int max_two min_two max_three min_three max_four min_four
mutual
def quinariaref01_Sealed.l0:Nat→List ByteArray→Int→ByteArray→Int→Int→Option (ByteArray)
 |0,_,_,_,_,_=>none
 |k+1,x0,x1,x5,x6,x7=>if x7<(x0.length:Int) then(quinariaref01_Sealed.l1 k x0 x1 x5 x6 x7 0) else(if x1=0 then(none) else(if x5.size+4≤9223372036854775807 then((quinariaref01_Decimal.f k (wrap64 (Int.tdiv (Int.tmod x6 x1) 100))).bind fun t406=>(if (x5++(⟨#[101,110,100,32]⟩:ByteArray)).size+t406.size≤9223372036854775807 then((quinariaref01_Decimal.f k (Int.tmod (wrap64 (Int.tdiv (Int.tmod x6 x1) 10)) 10)).bind fun t407=>(if ((x5++(⟨#[101,110,100,32]⟩:ByteArray))++t406).size+t407.size≤9223372036854775807 then((quinariaref01_Decimal.f k (Int.tmod (Int.tmod x6 x1) 10)).bind fun t408=>(if (((x5++(⟨#[101,110,100,32]⟩:ByteArray))++t406)++t407).size+t408.size≤9223372036854775807 then(if ((((x5++(⟨#[101,110,100,32]⟩:ByteArray))++t406)++t407)++t408).size+1≤9223372036854775807 then(some (((((x5++(⟨#[101,110,100,32]⟩:ByteArray))++t406)++t407)++t408)++(⟨#[10]⟩:ByteArray))) else(none)) else(none))) else(none))) else(none))) else(none)))
def quinariaref01_Sealed.l1:Nat→List ByteArray→Int→ByteArray→Int→Int→Int→Option (ByteArray)
 |0,_,_,_,_,_,_=>none
 |k+1,x0,x1,x5,x6,x7,x8=>if 0≤x7 then(if x7<(x0.length:Int) then(if x8<((rdOf ByteArray.empty x0 x7).size:Int) then(if 0≤x8 then(quinariaref01_Sealed.l1 k x0 x1 x5 (wrap64 (x6+(wrap64 ((wrap64 ((wrap64 (bt (rdOf ByteArray.empty x0 x7) x8))*(wrap64 (x8+1))))*(wrap64 (x7+1)))))) x7 (wrap64 (x8+1))) else(none)) else(if x5.size+(rdOf ByteArray.empty x0 x7).size≤9223372036854775807 then(if (x5++(rdOf ByteArray.empty x0 x7)).size+1≤9223372036854775807 then(quinariaref01_Sealed.l0 k x0 x1 ((x5++(rdOf ByteArray.empty x0 x7))++(⟨#[10]⟩:ByteArray)) x6 (wrap64 (x7+1))) else(none)) else(none))) else(none)) else(none)
end
def quinariaref01_Sealed.f (k:Nat) (l0:List ByteArray) (a1:Int):Option (ByteArray):=quinariaref01_Sealed.l0 k l0 a1 (⟨#[]⟩:ByteArray) 0 0
set_option maxHeartbeats 8000000 in
set_option maxRecDepth 100000 in
theorem quinariaref01_Sealed.calls (k:Nat) (A0:Option Addr) (c0:Nat) (l0:List ByteArray) (a1:Int) (r:ByteArray) (w:World) (hr0:Kd.C Kd.string w A0 l0.length l0) (hc0:l0.length≤c0) (h:quinariaref01_Sealed.f k l0 a1=some r):
  Calls Tryz.prog 91 #[.slice A0 l0.length c0,.int .i64 a1] w fun e w'=>e=.returned (.string r)∧Below w.heap.size w w':=by
 have HR0:=aM hr0;have HC0:=aM hc0;clear hr0 hc0;have HB:=aM (Below.refl w.heap.size w);have H:(quinariaref01_Sealed.l0 k l0 a1 (⟨#[]⟩:ByteArray) 0 0)=some r:=h;clear h;have H':=aM H;clear H
 go_enter Tryz.func91,Tryz.ntmps91
 go_wp2
 go_loopg [5,6,7] k (fun kq v5 v6 v7 w'=>∃(x5_1:ByteArray) (x6_1:Int) (x7_1:Int),v5=.string x5_1∧v6=.int .i64 x6_1∧v7=.int .i64 x7_1∧Aside0 (quinariaref01_Sealed.l0 kq l0 a1 x5_1 x6_1 x7_1=some r)∧Aside0 (kq≤k)∧Aside0 (Below w.heap.size w w'))
 case atStart=>exact⟨((⟨#[]⟩:ByteArray)),(0),(0),u0,u0,u0,H',⟨Nat.le_refl _⟩,⟨uB⟩⟩
 case round=>
  clear H';obtain⟨x5_1,x6_1,x7_1,rfl,rfl,rfl,HA,HK1,HB⟩:=hrel
  cases gk with
  |zero=>exact absurd HA.out (by simp[quinariaref01_Sealed.l0])
  |succ k1=>
   have H:=HA.out;clear HA;simp only[quinariaref01_Sealed.l0] at H
   by_cases c3:x7_1<(l0.length:Int)
   ·rw[if_pos c3] at H;replace c3:=decide_eq_true c3;have H':=aM H;clear H;go_wp2
    go_loopg [6,8] k1 (fun kq v6 v8 w'=>∃(x6_2:Int) (x8_2:Int),v6=.int .i64 x6_2∧v8=.int .i64 x8_2∧Aside0 (quinariaref01_Sealed.l1 kq l0 a1 x5_1 x6_2 x7_1 x8_2=some r)∧Aside0 (kq≤k1)∧Aside0 (Below w.heap.size w w'))
    case atStart=>exact⟨(x6_1),(0),u0,u0,H',⟨Nat.le_refl _⟩,⟨uB⟩⟩
    case round=>
     clear H';obtain⟨x6_2,x8_2,rfl,rfl,HA,HK2,HB⟩:=hrel
     cases gk with
     |zero=>exact absurd HA.out (by simp[quinariaref01_Sealed.l1])
     |succ k2=>
      have H:=HA.out;clear HA;simp only[quinariaref01_Sealed.l1] at H;obtain⟨c4,H⟩:=ifs H;replace c4:=decide_eq_true c4;obtain⟨c5,H⟩:=ifs H;replace c5:=decide_eq_true c5
      by_cases c6:x8_2<((rdOf ByteArray.empty l0 x7_1).size:Int)
      ·rw[if_pos c6] at H;replace c6:=decide_eq_true c6;obtain⟨c7,H⟩:=ifs H;replace c7:=decide_eq_true c7;have H':=aM H;clear H;have p409:0≤(x7_1:Int):=uD;have q409:x7_1<(l0.length:Int):=uD;obtain⟨ad409,e409,hx409_0⟩:=Kd.at_string HR0.out x7_1 p409 q409
       cases e409
       replace hx409_0:=hcell HB.out hx409_0;replace p409:=eq_true p409;replace q409:=eq_true q409;have p410:0≤(x7_1:Int):=uD;have q410:x7_1<(l0.length:Int):=uD;obtain⟨ad410,e410,hx410_0⟩:=Kd.at_string HR0.out x7_1 p410 q410;obtain rfl:ad409=ad410:=(by injection e410);replace hx410_0:=hcell HB.out hx410_0;replace p410:=eq_true p410;replace q410:=eq_true q410;have p8:0≤(x8_2:Int):=uD;have q8:x8_2<((rdOf ByteArray.empty l0 x7_1).size:Int):=uD;have hx8:=bt_at (rdOf ByteArray.empty l0 x7_1) x8_2;replace p8:=eq_true p8;replace q8:=eq_true q8;go_wp2
       go_roundg k2
       case measure=>have:=HK1.out;have:=HK2.out;omega
       case rel=>exact⟨(wrap64 (x6_2+(wrap64 ((wrap64 ((wrap64 (bt (rdOf ByteArray.empty l0 x7_1) x8_2))*(wrap64 (x8_2+1))))*(wrap64 (x7_1+1)))))),(wrap64 (x8_2+1)),u0,u0,H',⟨by have:=HK1.out;have:=HK2.out;omega⟩,⟨uB⟩⟩
      ·rw[if_neg c6] at H;replace c6:=decide_eq_false c6;obtain⟨c9,H⟩:=ifs H;have c9b0:=eq_true c9;have c9b1:decide (x5_1.size+(rdOf ByteArray.empty l0 x7_1).size≤9223372036854775807)=true:=decide_eq_true c9;(try have c9b2:(9223372036854775807<x5_1.size+(rdOf ByteArray.empty l0 x7_1).size)=False:=eq_false (Nat.not_lt.2 c9));obtain⟨c10,H⟩:=ifs H;have c10b0:=eq_true c10;have c10b1:decide ((x5_1++(rdOf ByteArray.empty l0 x7_1)).size+1≤9223372036854775807)=true:=decide_eq_true c10;have c10':=c10;simp only[ByteArray.size_append] at c10';have c10b3:=eq_true c10';have c10b4:=decide_eq_true c10';have c10b5:=eq_false (Nat.not_lt.2 c10');clear c10';(try have c10b2:(9223372036854775807<(x5_1++(rdOf ByteArray.empty l0 x7_1)).size+1)=False:=eq_false (Nat.not_lt.2 c10));have H':=aM H;clear H;have p409:0≤(x7_1:Int):=uD;have q409:x7_1<(l0.length:Int):=uD;obtain⟨ad409,e409,hx409_0⟩:=Kd.at_string HR0.out x7_1 p409 q409
       cases e409
       replace hx409_0:=hcell HB.out hx409_0;replace p409:=eq_true p409;replace q409:=eq_true q409;have p411:0≤(x7_1:Int):=uD;have q411:x7_1<(l0.length:Int):=uD;obtain⟨ad411,e411,hx411_0⟩:=Kd.at_string HR0.out x7_1 p411 q411;obtain rfl:ad409=ad411:=(by injection e411);replace hx411_0:=hcell HB.out hx411_0;replace p411:=eq_true p411;replace q411:=eq_true q411;go_wp2
       go_roundg k2
       case measure=>have:=HK1.out;have:=HK2.out;omega
       case rel=>exact⟨((x5_1++(rdOf ByteArray.empty l0 x7_1))++(⟨#[10]⟩:ByteArray)),(x6_2),(wrap64 (x7_1+1)),u0,u0,u0,H',⟨by have:=HK1.out;have:=HK2.out;omega⟩,⟨uB⟩⟩
   ·rw[if_neg c3] at H;replace c3:=decide_eq_false c3
    by_cases c11:a1=0
    ·rw[if_pos c11] at H;exact absurd H (by simp)
    ·rw[if_neg c11] at H;have c11b0:(a1==0)=false:=beq_eq_false_iff_ne.mpr c11;have c11b1:(a1 !=0)=true:=bne_iff_ne.mpr c11;obtain⟨c12,H⟩:=ifs H;have c12b0:=eq_true c12;have c12b1:decide (x5_1.size+4≤9223372036854775807)=true:=decide_eq_true c12;(try have c12b2:(9223372036854775807<x5_1.size+4)=False:=eq_false (Nat.not_lt.2 c12));replace H:=Option.bind_eq_some_iff.mp H;obtain⟨t406,A130,H⟩:=H;replace H:(if (x5_1++(⟨#[101,110,100,32]⟩:ByteArray)).size+t406.size≤9223372036854775807 then((quinariaref01_Decimal.f k1 (Int.tmod (wrap64 (Int.tdiv (Int.tmod x6_1 a1) 10)) 10)).bind fun t407=>(if ((x5_1++(⟨#[101,110,100,32]⟩:ByteArray))++t406).size+t407.size≤9223372036854775807 then((quinariaref01_Decimal.f k1 (Int.tmod (Int.tmod x6_1 a1) 10)).bind fun t408=>(if (((x5_1++(⟨#[101,110,100,32]⟩:ByteArray))++t406)++t407).size+t408.size≤9223372036854775807 then(if ((((x5_1++(⟨#[101,110,100,32]⟩:ByteArray))++t406)++t407)++t408).size+1≤9223372036854775807 then(some (((((x5_1++(⟨#[101,110,100,32]⟩:ByteArray))++t406)++t407)++t408)++(⟨#[10]⟩:ByteArray))) else(none)) else(none))) else(none))) else(none))=some r:=H;have A13:=aM A130;clear A130;obtain⟨c14,H⟩:=ifs H;have c14b0:=eq_true c14;have c14b1:decide ((x5_1++(⟨#[101,110,100,32]⟩:ByteArray)).size+t406.size≤9223372036854775807)=true:=decide_eq_true c14;have c14':=c14;simp only[ByteArray.size_append] at c14';(try rw[show (⟨#[101,110,100,32]⟩:ByteArray).size=4 from rfl] at c14');have c14b3:=eq_true c14';have c14b4:=decide_eq_true c14';have c14b5:=eq_false (Nat.not_lt.2 c14');clear c14';(try have c14b2:(9223372036854775807<(x5_1++(⟨#[101,110,100,32]⟩:ByteArray)).size+t406.size)=False:=eq_false (Nat.not_lt.2 c14));replace H:=Option.bind_eq_some_iff.mp H;obtain⟨t407,A150,H⟩:=H;replace H:(if ((x5_1++(⟨#[101,110,100,32]⟩:ByteArray))++t406).size+t407.size≤9223372036854775807 then((quinariaref01_Decimal.f k1 (Int.tmod (Int.tmod x6_1 a1) 10)).bind fun t408=>(if (((x5_1++(⟨#[101,110,100,32]⟩:ByteArray))++t406)++t407).size+t408.size≤9223372036854775807 then(if ((((x5_1++(⟨#[101,110,100,32]⟩:ByteArray))++t406)++t407)++t408).size+1≤9223372036854775807 then(some (((((x5_1++(⟨#[101,110,100,32]⟩:ByteArray))++t406)++t407)++t408)++(⟨#[10]⟩:ByteArray))) else(none)) else(none))) else(none))=some r:=H;have A15:=aM A150;clear A150;obtain⟨c16,H⟩:=ifs H;have c16b0:=eq_true c16;have c16b1:decide (((x5_1++(⟨#[101,110,100,32]⟩:ByteArray))++t406).size+t407.size≤9223372036854775807)=true:=decide_eq_true c16;have c16':=c16;simp only[ByteArray.size_append] at c16';(try rw[show (⟨#[101,110,100,32]⟩:ByteArray).size=4 from rfl] at c16');have c16b3:=eq_true c16';have c16b4:=decide_eq_true c16';have c16b5:=eq_false (Nat.not_lt.2 c16');clear c16';(try have c16b2:(9223372036854775807<((x5_1++(⟨#[101,110,100,32]⟩:ByteArray))++t406).size+t407.size)=False:=eq_false (Nat.not_lt.2 c16));replace H:=Option.bind_eq_some_iff.mp H;obtain⟨t408,A170,H⟩:=H;replace H:(if (((x5_1++(⟨#[101,110,100,32]⟩:ByteArray))++t406)++t407).size+t408.size≤9223372036854775807 then(if ((((x5_1++(⟨#[101,110,100,32]⟩:ByteArray))++t406)++t407)++t408).size+1≤9223372036854775807 then(some (((((x5_1++(⟨#[101,110,100,32]⟩:ByteArray))++t406)++t407)++t408)++(⟨#[10]⟩:ByteArray))) else(none)) else(none))=some r:=H;have A17:=aM A170;clear A170;obtain⟨c18,H⟩:=ifs H;have c18b0:=eq_true c18;have c18b1:decide ((((x5_1++(⟨#[101,110,100,32]⟩:ByteArray))++t406)++t407).size+t408.size≤9223372036854775807)=true:=decide_eq_true c18;have c18':=c18;simp only[ByteArray.size_append] at c18';(try rw[show (⟨#[101,110,100,32]⟩:ByteArray).size=4 from rfl] at c18');have c18b3:=eq_true c18';have c18b4:=decide_eq_true c18';have c18b5:=eq_false (Nat.not_lt.2 c18');clear c18';(try have c18b2:(9223372036854775807<(((x5_1++(⟨#[101,110,100,32]⟩:ByteArray))++t406)++t407).size+t408.size)=False:=eq_false (Nat.not_lt.2 c18));obtain⟨c19,H⟩:=ifs H;have c19b0:=eq_true c19;have c19b1:decide (((((x5_1++(⟨#[101,110,100,32]⟩:ByteArray))++t406)++t407)++t408).size+1≤9223372036854775807)=true:=decide_eq_true c19;have c19':=c19;simp only[ByteArray.size_append] at c19';(try rw[show (⟨#[101,110,100,32]⟩:ByteArray).size=4 from rfl] at c19');have c19b3:=eq_true c19';have c19b4:=decide_eq_true c19';have c19b5:=eq_false (Nat.not_lt.2 c19');clear c19';(try have c19b2:(9223372036854775807<((((x5_1++(⟨#[101,110,100,32]⟩:ByteArray))++t406)++t407)++t408).size+1)=False:=eq_false (Nat.not_lt.2 c19));obtain rfl:=Option.some.inj H
     go_wp2_with (first|((with_reducible refine gate_callee (f:=115) rfl ?_);refine goesL_ (some 53) rfl rfl Tryz.func115 (by kernel_rfl) rfl #[.int .i64 (wrap64 (Int.tdiv (Int.tmod x6_1 a1) 100))] rfl uM ?_;(with_reducible refine(quinariaref01_Decimal.calls k1 (wrap64 (Int.tdiv (Int.tmod x6_1 a1) 100)) t406 _ A13.out).mono ?_);rintro e w20 ⟨rfl,hb⟩;refine⟨_,rfl,?_⟩;replace HB:=aM (below_step uB hb);(try clear hb);(try clear hb2);(try clear hk);(try clear hi))|((with_reducible refine gate_callee (f:=115) rfl ?_);refine goesL_ (some 58) rfl rfl Tryz.func115 (by kernel_rfl) rfl #[.int .i64 (Int.tmod (wrap64 (Int.tdiv (Int.tmod x6_1 a1) 10)) 10)] rfl uM ?_;(with_reducible refine(quinariaref01_Decimal.calls k1 (Int.tmod (wrap64 (Int.tdiv (Int.tmod x6_1 a1) 10)) 10) t407 _ A15.out).mono ?_);rintro e w21 ⟨rfl,hb⟩;refine⟨_,rfl,?_⟩;replace HB:=aM (below_step uB hb);(try clear hb);(try clear hb2);(try clear hk);(try clear hi))|((with_reducible refine gate_callee (f:=115) rfl ?_);refine goesL_ (some 62) rfl rfl Tryz.func115 (by kernel_rfl) rfl #[.int .i64 (Int.tmod (Int.tmod x6_1 a1) 10)] rfl uM ?_;(with_reducible refine(quinariaref01_Decimal.calls k1 (Int.tmod (Int.tmod x6_1 a1) 10) t408 _ A17.out).mono ?_);rintro e w22 ⟨rfl,hb⟩;refine⟨_,rfl,?_⟩;replace HB:=aM (below_step uB hb);(try clear hb);(try clear hb2);(try clear hk);(try clear hi)))
     go_ret;exact⟨uE,uB⟩
mutual
def quinariaref07_Print.l0:Nat→List ByteArray→Int→Int→List (S85)→List (S50)→Option (ByteArray)
 |0,_,_,_,_,_=>none
 |k+1,x3,x4,x413000,x413001,x413002=>if x4<(x413001.length:Int) then(if 0≤x4 then((quinariaref01_Row.f k (⟨#[110,111,100,101]⟩:ByteArray) (([(rd_T85 x413001 x4).f0,(rd_T85 x413001 x4).f1]:List Int))).bind fun t425=>(if x3.length<8796093022208 then(quinariaref07_Print.l0 k (x3++[t425]) (wrap64 (x4+1)) x413000 x413001 x413002) else(none))) else(none)) else(quinariaref07_Print.l1 k x3 0 x413000 x413001 x413002)
def quinariaref07_Print.l1:Nat→List ByteArray→Int→Int→List (S85)→List (S50)→Option (ByteArray)
 |0,_,_,_,_,_=>none
 |k+1,x3,x5,x413000,x413001,x413002=>if x5<(x413002.length:Int) then(if 0≤x5 then((quinariaref01_Row.f k (⟨#[111,117,116,108,101,116]⟩:ByteArray) (([(rd_T50 x413002 x5).f0,(rd_T50 x413002 x5).f1,(rd_T50 x413002 x5).f2]:List Int))).bind fun t434=>(if x3.length<8796093022208 then(quinariaref07_Print.l1 k (x3++[t434]) (wrap64 (x5+1)) x413000 x413001 x413002) else(none))) else(none)) else((quinariaref01_Sealed.f k x3 163).bind fun t438=>(some t438))
end
def quinariaref07_Print.f (k:Nat) (a0_0:Int) (l0_1:List (S85)) (l0_2:List (S50)):Option (ByteArray):=(quinariaref01_Row.f k (⟨#[100,114,111,117,103,104,116]⟩:ByteArray) (([a0_0]:List Int))).bind fun t416=>(quinariaref07_Print.l0 k (([t416]:List ByteArray)) 0 a0_0 l0_1 l0_2)
def quinariaref07_Print.T5:Bool×List (List Nat×List Nat):=(true,[([],[]),([],[]),([1],[1]),([],[]),([2,3],[2,3]),([4],[4]),([5],[5]),([],[]),([7],[7]),([],[]),([8,9],[8,9]),([10],[10]),([11],[11]),([6,12],[6,12]),([13],[13]),([14],[14]),([0,15,14],[0,15]),([16,16,0,1,2,3,4,5,6,7,8,9,10,11,12,13,14,15,16],[0,16])])
def quinariaref07_Print.B5:List Nat:=[0,0,2,0,14,30,62,0,128,0,896,1920,3968,8190,16382,32766,65535,131071]
theorem quinariaref07_Print.tab5:rtab .any (opsOf Tryz.f55 5)=quinariaref07_Print.T5:=by kernel_rfl
theorem quinariaref07_Print.bits5:waitsOk quinariaref07_Print.T5.2 quinariaref07_Print.B5=true:=by kernel_rfl
set_option maxHeartbeats 8000000 in
set_option maxRecDepth 100000 in
theorem quinariaref07_Print.calls (k:Nat) (a0_0:Int) (A0_1:Option Addr) (c0_1:Nat) (l0_1:List (S85)) (A0_2:Option Addr) (c0_2:Nat) (l0_2:List (S50)) (r:ByteArray) (w:World) (hr0_1:Kd.C k85 w A0_1 l0_1.length l0_1) (hc0_1:l0_1.length≤c0_1) (hr0_2:Kd.C k50 w A0_2 l0_2.length l0_2) (hc0_2:l0_2.length≤c0_2) (h:quinariaref07_Print.f k a0_0 l0_1 l0_2=some r):
  Calls Tryz.prog 55 #[.agg #[.int .i64 a0_0,.slice A0_1 l0_1.length c0_1,.slice A0_2 l0_2.length c0_2]] w fun e w'=>e=.returned (.string r)∧Below w.heap.size w w':=by
 have hu25:=Tryz.underlying25;have hu50:=Tryz.underlying50;have HR0_1:=aM hr0_1;have HC0_1:=aM hc0_1;clear hr0_1 hc0_1;have HR0_2:=aM hr0_2;have HC0_2:=aM hc0_2;clear hr0_2 hc0_2;have HB:=aM (Below.refl w.heap.size w);have H:((quinariaref01_Row.f k (⟨#[100,114,111,117,103,104,116]⟩:ByteArray) (([a0_0]:List Int))).bind fun t416=>(quinariaref07_Print.l0 k (([t416]:List ByteArray)) 0 a0_0 l0_1 l0_2))=some r:=h;clear h;obtain⟨y413,hy413⟩:∃y_:List Int,y_=(([a0_0]:List Int)):=⟨_,rfl⟩;rw[← hy413] at H;(try replace H:=(Option.bind_some _ _).symm.trans H)
 have Ny413:=aM hy413;clear hy413;replace H:=Option.bind_eq_some_iff.mp H;obtain⟨t416,A20,H⟩:=H;replace H:(quinariaref07_Print.l0 k (([t416]:List ByteArray)) 0 a0_0 l0_1 l0_2)=some r:=H;have A2:=aM A20;clear A20;obtain⟨y417,hy417⟩:∃y_:List ByteArray,y_=(([t416]:List ByteArray)):=⟨_,rfl⟩;rw[← hy417] at H;(try replace H:=(Option.bind_some _ _).symm.trans H)
 have Ny417:=aM hy417;clear hy417;have H':=aM H;clear H
 go_enter Tryz.func55,Tryz.ntmps55
 go_wp2_with (first|((with_reducible refine gate_dst (N:=1) rfl ?_);refine bxe 1 #[.int .i64 a0_0,.slice A0_1 l0_1.length c0_1,.slice A0_2 l0_2.length c0_2] 25 ?_;intro gb412 hg w3 hbox hb;have n0_:=aM (below_step uB hb);have n1_:=aM (hbox);have n2_:=gw hg;have n3_:=gw hg;clear HB;have HB:=n0_;have BK412:=n1_;have GW412:=n2_;have GE412:=n3_;clear n0_ n1_ n2_ n3_;clear hb hbox hg;obtain⟨hcz4_0,hcz4_1,hcz4_2⟩:=cz3 BK412.out;obtain⟨hfz4_0,hfz4_1,hfz4_2⟩:=fz3 BK412.out)|((with_reducible refine gate_dst (N:=9) rfl ?_);refine Kd.R_lit (Kd.int .i64) _ 3 ?hg (N:=9) ?hd (xs:=([a0_0]:List Int)) (inner:=[.int .i64 a0_0]) (ok:=fun _=>True) (okp:=fun _=>True) ?hr ?hp (fun _ hk=>hk) trivial (Below.refl _ _) (Nat.le_refl _) (by simp) ?_;(case hd=>rfl);(case hg=>rfl);(case hr=>first|(go_simp;done)|(go_simp;rfl));(case hp=>exact(Reps.one (show Kd.M (Kd.int .i64) _ _ _ a0_0 [.int .i64 a0_0] from rfl) (Reps.none _ _)));intro v414 w5 ho6 hb hg_ hnew_;clear hg_ hnew_;(first|rw[← Ny413.out] at ho6|(simp only[Int.reduceToNat] at ho6;rw[← Ny413.out] at ho6));have HO415:=aM (Kd.R_lower ho6 (below_size uB));replace BK412:=aM (blk_below (uK BK412.out) hb);replace HB:=aM (below_step uB hb);clear hb ho6;obtain⟨Ao7,co7,eo7⟩:=Kd.R_slice HO415.out;subst eo7)|((with_reducible refine gate_callee (f:=90) rfl ?_);refine goesL_ (some 10) rfl rfl Tryz.func90 (by kernel_rfl) rfl #[.string (⟨#[100,114,111,117,103,104,116]⟩:ByteArray),.slice Ao7 y413.length co7] rfl uM ?_;(with_reducible refine(quinariaref01_Row.calls k (⟨#[100,114,111,117,103,104,116]⟩:ByteArray) _ _ y413 t416 _ ?side1 ?side2 A2.out).mono ?_);(case side1=>exact uC ((Kd.R_reads' HO415.out).2.2));(case side2=>exact(Kd.R_reads' HO415.out).2.1);rintro e w8 ⟨rfl,hb⟩;refine⟨_,rfl,?_⟩;replace HO415:=aM (Kd.R_below (uR HO415.out) hb);replace BK412:=aM (blk_below (uK BK412.out) hb);replace HB:=aM (below_step uB hb);(try clear hb);(try clear hb2);(try clear hk);(try clear hi))|((with_reducible refine gate_dst (N:=11) rfl ?_);refine Kd.R_lit Kd.string _ 9 ?hg (N:=11) ?hd (xs:=([t416]:List ByteArray)) (inner:=[.string t416]) (ok:=fun _=>True) (okp:=fun _=>True) ?hr ?hp (fun _ hk=>hk) trivial (Below.refl _ _) (Nat.le_refl _) (by simp) ?_;(case hd=>rfl);(case hg=>rfl);(case hr=>first|(go_simp;done)|(go_simp;rfl));(case hp=>exact(Reps.one (show Kd.M Kd.string _ _ _ t416 [.string t416] from rfl) (Reps.none _ _)));intro v418 w9 ho10 hb hg_ hnew_;clear hg_ hnew_;(first|rw[← Ny417.out] at ho10|(simp only[Int.reduceToNat] at ho10;rw[← Ny417.out] at ho10));replace HO415:=aM (Kd.R_below (uR HO415.out) hb);have HO419:=aM (Kd.R_lower ho10 (below_size uB));replace BK412:=aM (blk_below (uK BK412.out) hb);replace HB:=aM (below_step uB hb);clear hb ho10))
 go_loopg [3,4] k (fun kq v3 v4 w'=>∃(x3_1:List ByteArray) (x4_1:Int),v4=.int .i64 x4_1∧Aside0 (quinariaref07_Print.l0 kq x3_1 x4_1 a0_0 l0_1 l0_2=some r)∧Aside0 (kq≤k)∧Aside0 (Kd.R Kd.string 9 w' w.heap.size (fun _=>True) v3 x3_1)∧Aside0 (w'.heap[gb412]? =some (.cells #[.int .i64 a0_0,(.slice A0_1 l0_1.length c0_1),(.slice A0_2 l0_2.length c0_2)] 25 (0,0)))∧Aside0 (Below w.heap.size w w'))
 case atStart=>exact⟨(y417),(0),u0,H',⟨Nat.le_refl _⟩,⟨uR HO419.out⟩,⟨uK BK412.out⟩,⟨uB⟩⟩
 case round=>
  clear H';obtain⟨x3_1,x4_1,rfl,HA,HK1,HO_3,BK412,HB⟩:=hrel
  cases gk with
  |zero=>exact absurd HA.out (by simp[quinariaref07_Print.l0])
  |succ k1=>
   have H:=HA.out;clear HA;simp only[quinariaref07_Print.l0] at H
   by_cases c11:x4_1<(l0_1.length:Int)
   ·rw[if_pos c11] at H;replace c11:=decide_eq_true c11;obtain⟨c12,H⟩:=ifs H;replace c12:=decide_eq_true c12;obtain⟨y422,hy422⟩:∃y_:List Int,y_=(([(rd_T85 l0_1 x4_1).f0,(rd_T85 l0_1 x4_1).f1]:List Int)):=⟨_,rfl⟩;rw[← hy422] at H;(try replace H:=(Option.bind_some _ _).symm.trans H)
    have Ny422:=aM hy422;clear hy422;replace H:=Option.bind_eq_some_iff.mp H;obtain⟨t425,A130,H⟩:=H;replace H:(if x3_1.length<8796093022208 then(quinariaref07_Print.l0 k1 (x3_1++[t425]) (wrap64 (x4_1+1)) a0_0 l0_1 l0_2) else(none))=some r:=H;have A13:=aM A130;clear A130;obtain⟨c14,H⟩:=ifs H;have LMc14:=aM c14;clear c14;obtain⟨y426,hy426⟩:∃y_:List ByteArray,y_=(x3_1++[t425]):=⟨_,rfl⟩;rw[← hy426] at H;(try replace H:=(Option.bind_some _ _).symm.trans H)
    have Ny426:=aM hy426;clear hy426;have H':=aM H;clear H;obtain⟨hcz15_0,hcz15_1,hcz15_2⟩:=cz3 BK412.out;obtain⟨hfz15_0,hfz15_1,hfz15_2⟩:=fz3 BK412.out;(try go_wp2);replace HO_3:=aM (Kd.R_drew HO_3.out);replace BK412:=aM (blk_drew BK412.out);replace HB:=aM (below_drew1 HB.out);have p420:0≤(x4_1:Int):=uD;have q420:x4_1<(l0_1.length:Int):=uD;obtain⟨ad420,e420,hx420_0,hx420_1⟩:=at_T85 HR0_1.out x4_1 p420 q420;have hw420_1:=hx420_1;have hw420_0:=hx420_0
    cases e420
    replace hx420_0:=hcell HB.out hx420_0;replace hx420_1:=hcell HB.out hx420_1;replace p420:=eq_true p420;replace q420:=eq_true q420;have p421:0≤(x4_1:Int):=uD;have q421:x4_1<(l0_1.length:Int):=uD;obtain⟨ad421,e421,hx421_0,hx421_1⟩:=at_T85 HR0_1.out x4_1 p421 q421;have hw421_1:=hx421_1;have hw421_0:=hx421_0;obtain rfl:ad420=ad421:=(by injection e421);replace hx421_0:=hcell HB.out hx421_0;replace hx421_1:=hcell HB.out hx421_1;replace p421:=eq_true p421;replace q421:=eq_true q421;refine start_ (n:=18) (S:=fun w'=>w'.cell? ⟨gb412,0,none⟩=some (.int .i64 a0_0)∧w'.cell? ⟨gb412,1,none⟩=some (.slice (some ad420) l0_1.length c0_1)∧w'.cell? ⟨gb412,2,none⟩=some (.slice A0_2 l0_2.length c0_2)∧w'.cell? (ad420.add ((x4_1).toNat*2))=some (.int .i64 ((rd_T85 l0_1 x4_1).f0))∧w'.cell? ⟨(ad420.add ((x4_1).toNat*2)).block,(ad420.add ((x4_1).toNat*2)).off+1,none⟩=some (.int .i64 ((rd_T85 l0_1 x4_1).f1))∧w'.cell? (ad420.add ((x4_1).toNat*2))=some (.int .i64 ((rd_T85 l0_1 x4_1).f0))∧w'.cell? ⟨(ad420.add ((x4_1).toNat*2)).block,(ad420.add ((x4_1).toNat*2)).off+1,none⟩=some (.int .i64 ((rd_T85 l0_1 x4_1).f1))) (ds:=[]) (bl 18 0) (by kernel_rfl) rfl rfl ⟨(blk_cell BK412.out 0).trans rfl,(blk_cell BK412.out 1).trans rfl,(blk_cell BK412.out 2).trans rfl,(hcell HB.out hw420_0),(hcell HB.out hw420_1),(hcell HB.out hw421_0),(hcell HB.out hw421_1)⟩ (fun hHeld=>?_);refine with_tabW quinariaref07_Print.tab5 quinariaref07_Print.bits5 (fun HT_ HW_=>?_)
    generalize wr.drew=w16 at HO_3 BK412 HB hx420_0 hx420_1 hx421_0 hx421_1 hHeld⊢;refine pu 0 19 18 1 ?_;refine pu 1 20 18 3 ?_;refine pu 3 22 18 11 ?_;refine pu 7 26 18 139 ?_;refine pu 9 28 18 651 ?_;refine tk7 2 21 18 655 hHeld ?_;refine pu 4 23 18 671 ?_;refine pu 5 24 18 703 ?_;refine tk7 6 25 18 767 hHeld ?_;refine tk7 8 27 18 1023 hHeld ?_;refine pu 10 29 18 2047 ?_;refine pu 11 30 18 4095 ?_;refine tk7 12 31 18 8191 hHeld ?_;refine one_ (i:=13) (N:=some 32) (bl 18 16383) rfl rfl (one_of HT_.out (by kernel_rfl)) (by decide) (fun K hK=>?_);refine Kd.R_lit_step (Kd.int .i64) _ 3 ?hg (N:=32) ?hd (xs:=([(rd_T85 l0_1 x4_1).f0,(rd_T85 l0_1 x4_1).f1]:List Int)) (inner:=[.int .i64 ((rd_T85 l0_1 x4_1).f0),.int .i64 ((rd_T85 l0_1 x4_1).f1)]) (ok:=fun _=>True) (okp:=fun _=>True) ?hr ?hp (fun _ hk=>hk) trivial (Below.refl _ _) (Nat.le_refl _) (by simp) ?_;(case hd=>rfl);(case hg=>rfl);(case hr=>first|(go_simp;done)|(go_simp;rfl));(case hp=>exact(Reps.one (show Kd.M (Kd.int .i64) _ _ _ ((rd_T85 l0_1 x4_1).f0) [.int .i64 ((rd_T85 l0_1 x4_1).f0)] from rfl) (Reps.one (show Kd.M (Kd.int .i64) _ _ _ ((rd_T85 l0_1 x4_1).f1) [.int .i64 ((rd_T85 l0_1 x4_1).f1)] from rfl) (Reps.none _ _))))
    intro v423 w17 ho18 hb hg_ hnew_;clear hg_ hnew_;(first|rw[← Ny422.out] at ho18|(simp only[Int.reduceToNat] at ho18;rw[← Ny422.out] at ho18));replace HO_3:=aM (Kd.R_below (uR HO_3.out) hb);have HO424:=aM (Kd.R_lower ho18 (below_size uB));replace BK412:=aM (blk_below (uK BK412.out) hb);replace HB:=aM (below_step uB hb);clear hb ho18;obtain⟨Ao19,co19,eo19⟩:=Kd.R_slice HO424.out;(first|subst eo19|(injection eo19 with f1_ f2_ f3_;have f4_:=f1_.symm;have f5_:=f3_.symm;clear f1_ f2_ f3_;subst f4_;subst f5_));refine hK.out _ _ ⟨(blk_cell BK412.out 0).trans rfl,(blk_cell BK412.out 1).trans rfl,(blk_cell BK412.out 2).trans rfl,(hcell HB.out hw420_0),(hcell HB.out hw420_1),(hcell HB.out hw421_0),(hcell HB.out hw421_1)⟩ (fun hHeld=>?_);clear hK K;refine nm ?_;refine one_ (i:=14) (N:=some 33) (bl 18 32767) rfl rfl (one_of HT_.out (by kernel_rfl)) (by decide) (fun K hK=>?_);refine goes_ Tryz.func90 (by kernel_rfl) rfl #[.string (⟨#[110,111,100,101]⟩:ByteArray),.slice Ao19 y422.length co19] (by rfl) rfl rfl uM ?_;(with_reducible refine(quinariaref01_Row.calls k1 (⟨#[110,111,100,101]⟩:ByteArray) _ _ y422 t425 _ ?side1 ?side2 A13.out).mono ?_);(case side1=>exact uC ((Kd.R_reads' HO424.out).2.2));(case side2=>exact(Kd.R_reads' HO424.out).2.1);rintro e w20 ⟨rfl,hb⟩;refine⟨_,rfl,?_⟩;replace HO_3:=aM (Kd.R_below (uR HO_3.out) hb);replace HO424:=aM (Kd.R_below (uR HO424.out) hb);replace BK412:=aM (blk_below (uK BK412.out) hb);replace HB:=aM (below_step uB hb);(try clear hb);(try clear hb2);(try clear hk);(try clear hi);refine hK.out _ _ ⟨(blk_cell BK412.out 0).trans rfl,(blk_cell BK412.out 1).trans rfl,(blk_cell BK412.out 2).trans rfl,(hcell HB.out hw420_0),(hcell HB.out hw420_1),(hcell HB.out hw421_0),(hcell HB.out hw421_1)⟩ (fun hHeld=>?_);clear hK K;refine nm ?_;refine one_ (i:=15) (N:=some 34) (bl 18 65535) rfl rfl (one_of HT_.out (by kernel_rfl)) (by decide) (fun K hK=>?_);refine value_ (w1:=?_) (v:=?_) (by rfl) rfl ?_ ?_;rotate_left 2
    ·go_simp
     constructor
     ·rfl
     ·rfl
    refine hK.out _ _ ⟨(blk_cell (blk_alloc BK412.out _) 0).trans rfl,(blk_cell (blk_alloc BK412.out _) 1).trans rfl,(blk_cell (blk_alloc BK412.out _) 2).trans rfl,(World.cell?_alloc_lt _ _ _ (World.block_lt_of_cell? _ _ ((hcell HB.out hw420_0)))).trans ((hcell HB.out hw420_0)),(World.cell?_alloc_lt _ _ _ (World.block_lt_of_cell? _ _ ((hcell HB.out hw420_1)))).trans ((hcell HB.out hw420_1)),(World.cell?_alloc_lt _ _ _ (World.block_lt_of_cell? _ _ ((hcell HB.out hw421_0)))).trans ((hcell HB.out hw421_0)),(World.cell?_alloc_lt _ _ _ (World.block_lt_of_cell? _ _ ((hcell HB.out hw421_1)))).trans ((hcell HB.out hw421_1))⟩ (fun hHeld=>?_);clear hK K;refine nm ?_;refine one_ (i:=16) (N:=some 35) (bl 18 131071) rfl rfl (one_of HT_.out (by kernel_rfl)) (by decide) (fun K hK=>?_);refine Kd.R_append_step Kd.string (w0:=w) w.heap.size (by rfl) (.tmp 19) (.tmp 34) 107 9 (.string ⟨#[]⟩) 16 rfl Tryz.underlying107 info9 rfl (by decide) (by omega) u3 x3_1 t425 [.string t425] (fun _=>True) (fun _=>False) rfl rfl ?aP (fun _ hk=>hk.elim) ?aF ?aO ?aB ?aS ?aL ?_;(case aP=>exact rfl);(case aB=>exact uB);(case aF=>exact(fun _ _=>trivial));(case aO=>exact(uR HO_3.out));(case aS=>exact(below_size uB));(case aL=>have:=LMc14.out;omega);intro v427 w21 ho hb hg hat;rw[← Ny426.out] at ho;replace BK412:=aM (blk_grown (uK BK412.out) hg (Kd.R_ne HO_3.out BK412.out (by decide)));replace HO424:=aM (Kd.R_over' (uR HO424.out) (Kd.R_typed (uR HO_3.out)) (by decide) hg);have HO428:=aM (ho);replace HB:=aM (hb);clear HO_3;clear ho hb hg hat;refine hK.out _ _ ⟨(blk_cell BK412.out 0).trans rfl,(blk_cell BK412.out 1).trans rfl,(blk_cell BK412.out 2).trans rfl,(hcell HB.out hw420_0),(hcell HB.out hw420_1),(hcell HB.out hw421_0),(hcell HB.out hw421_1)⟩ (fun hHeld=>?_);clear hK K;refine nm ?_;refine pu 17 3 18 262143 ?_;refine done_ (done_of HT_.out (by kernel_rfl)) ?_;try go_wp2
    go_roundg k1
    case measure=>have:=HK1.out;omega
    case rel=>exact⟨(y426),(wrap64 (x4_1+1)),u0,H',⟨by have:=HK1.out;omega⟩,⟨uR HO428.out⟩,⟨uK BK412.out⟩,⟨uB⟩⟩
   ·rw[if_neg c11] at H;replace c11:=decide_eq_false c11;have H':=aM H;clear H;obtain⟨hcz22_0,hcz22_1,hcz22_2⟩:=cz3 BK412.out;obtain⟨hfz22_0,hfz22_1,hfz22_2⟩:=fz3 BK412.out;go_wp2
    go_loopg [3,5] k1 (fun kq v3 v5 w'=>∃(x3_2:List ByteArray) (x5_2:Int),v5=.int .i64 x5_2∧Aside0 (quinariaref07_Print.l1 kq x3_2 x5_2 a0_0 l0_1 l0_2=some r)∧Aside0 (kq≤k1)∧Aside0 (Kd.R Kd.string 9 w' w.heap.size (fun _=>True) v3 x3_2)∧Aside0 (w'.heap[gb412]? =some (.cells #[.int .i64 a0_0,(.slice A0_1 l0_1.length c0_1),(.slice A0_2 l0_2.length c0_2)] 25 (0,0)))∧Aside0 (Below w.heap.size w w'))
    case atStart=>exact⟨(x3_1),(0),u0,H',⟨Nat.le_refl _⟩,⟨uR HO_3.out⟩,⟨uK BK412.out⟩,⟨uB⟩⟩
    case round=>
     clear H';obtain⟨x3_2,x5_2,rfl,HA,HK2,HO_3,BK412,HB⟩:=hrel
     cases gk with
     |zero=>exact absurd HA.out (by simp[quinariaref07_Print.l1])
     |succ k2=>
      have H:=HA.out;clear HA;simp only[quinariaref07_Print.l1] at H
      by_cases c23:x5_2<(l0_2.length:Int)
      ·rw[if_pos c23] at H;replace c23:=decide_eq_true c23;obtain⟨c24,H⟩:=ifs H;replace c24:=decide_eq_true c24;obtain⟨y431,hy431⟩:∃y_:List Int,y_=(([(rd_T50 l0_2 x5_2).f0,(rd_T50 l0_2 x5_2).f1,(rd_T50 l0_2 x5_2).f2]:List Int)):=⟨_,rfl⟩;rw[← hy431] at H;(try replace H:=(Option.bind_some _ _).symm.trans H)
       have Ny431:=aM hy431;clear hy431;replace H:=Option.bind_eq_some_iff.mp H;obtain⟨t434,A250,H⟩:=H;replace H:(if x3_2.length<8796093022208 then(quinariaref07_Print.l1 k2 (x3_2++[t434]) (wrap64 (x5_2+1)) a0_0 l0_1 l0_2) else(none))=some r:=H;have A25:=aM A250;clear A250;obtain⟨c26,H⟩:=ifs H;have LMc26:=aM c26;clear c26;obtain⟨y435,hy435⟩:∃y_:List ByteArray,y_=(x3_2++[t434]):=⟨_,rfl⟩;rw[← hy435] at H;(try replace H:=(Option.bind_some _ _).symm.trans H)
       have Ny435:=aM hy435;clear hy435;have H':=aM H;clear H;obtain⟨hcz27_0,hcz27_1,hcz27_2⟩:=cz3 BK412.out;obtain⟨hfz27_0,hfz27_1,hfz27_2⟩:=fz3 BK412.out;have p429:0≤(x5_2:Int):=uD;have q429:x5_2<(l0_2.length:Int):=uD;obtain⟨ad429,e429,hx429_0,hx429_1,hx429_2⟩:=at_T50 HR0_2.out x5_2 p429 q429
       cases e429
       replace hx429_0:=hcell HB.out hx429_0;replace hx429_1:=hcell HB.out hx429_1;replace hx429_2:=hcell HB.out hx429_2;replace p429:=eq_true p429;replace q429:=eq_true q429
       go_wp2_with (first|((with_reducible refine gate_dst (N:=6) rfl ?_);refine bxe 6 #[.int .i64 0,.int .i64 0,.int .i64 0] 50 ?_;intro gb430 hg w28 hbox hb;have n0_:=aM (Kd.R_below (uR HO_3.out) hb);have n1_:=aM (blk_below (uK BK412.out) hb);have n2_:=aM (below_step uB hb);have n3_:=aM (hbox);have n4_:=gw hg;have n5_:=gw hg;have n6_:=nb BK412 hg;have n7_:=nc BK412 hg;clear HO_3;clear BK412;clear HB;have HO_3:=n0_;have BK412:=n1_;have HB:=n2_;have BK430:=n3_;have GW430:=n4_;have GE430:=n5_;have NB412_430:=n6_;have NB430_412:=n7_;clear n0_ n1_ n2_ n3_ n4_ n5_ n6_ n7_;clear hb hbox hg;have hnb29:=NB430_412.out;have hnc29:=NB412_430.out;obtain⟨hcz30_0,hcz30_1,hcz30_2⟩:=cz3 BK430.out;obtain⟨hfz30_0,hfz30_1,hfz30_2⟩:=fz3 BK430.out)|((with_reducible refine gate_dst (N:=55) rfl ?_);refine Kd.R_lit (Kd.int .i64) _ 3 ?hg (N:=55) ?hd (xs:=([(rd_T50 l0_2 x5_2).f0,(rd_T50 l0_2 x5_2).f1,(rd_T50 l0_2 x5_2).f2]:List Int)) (inner:=[.int .i64 ((rd_T50 l0_2 x5_2).f0),.int .i64 ((rd_T50 l0_2 x5_2).f1),.int .i64 ((rd_T50 l0_2 x5_2).f2)]) (ok:=fun _=>True) (okp:=fun _=>True) ?hr ?hp (fun _ hk=>hk) trivial (Below.refl _ _) (Nat.le_refl _) (by simp) ?_;(case hd=>rfl);(case hg=>rfl);(case hr=>first|(go_simp;done)|(go_simp;rfl));(case hp=>exact(Reps.one (show Kd.M (Kd.int .i64) _ _ _ ((rd_T50 l0_2 x5_2).f0) [.int .i64 ((rd_T50 l0_2 x5_2).f0)] from rfl) (Reps.one (show Kd.M (Kd.int .i64) _ _ _ ((rd_T50 l0_2 x5_2).f1) [.int .i64 ((rd_T50 l0_2 x5_2).f1)] from rfl) (Reps.one (show Kd.M (Kd.int .i64) _ _ _ ((rd_T50 l0_2 x5_2).f2) [.int .i64 ((rd_T50 l0_2 x5_2).f2)] from rfl) (Reps.none _ _)))));intro v432 w31 ho32 hb hg_ hnew_;clear hg_ hnew_;(first|rw[← Ny431.out] at ho32|(simp only[Int.reduceToNat] at ho32;rw[← Ny431.out] at ho32));replace HO_3:=aM (Kd.R_below (by refine uR ?_;exact(Kd.R_mono (Kd.R_far (p:=⟨gb430,2,none⟩) (Kd.R_far (p:=⟨gb430,1,none⟩) (Kd.R_far (p:=⟨gb430,0,none⟩) (Kd.R_types HO_3.out BK430.out (by decide)) (fun _ hk=>hk.2) (.int .i64 ((rd_T50 l0_2 x5_2).f0))) (fun _ hk=>hk.2) (.int .i64 ((rd_T50 l0_2 x5_2).f1))) (fun _ hk=>hk.2) (.int .i64 ((rd_T50 l0_2 x5_2).f2))) (fun _ h_=>h_.1))) hb);have HO433:=aM (Kd.R_lower ho32 (below_size uB));replace BK412:=aM (blk_below (g:=gb412) (o:=.cells #[.int .i64 a0_0,.slice A0_1 l0_1.length c0_1,.slice (some ad429) l0_2.length c0_2] 25 (0,0)) (by refine uK ?_;refine blk_far ?_ NB412_430.out _;refine uK ?_;refine blk_far ?_ NB412_430.out _;refine uK ?_;refine blk_far ?_ NB412_430.out _;refine uK ?_;exact BK412.out) hb);replace BK430:=aM (blk_below (g:=gb430) (o:=.cells #[.int .i64 ((rd_T50 l0_2 x5_2).f0),.int .i64 ((rd_T50 l0_2 x5_2).f1),.int .i64 ((rd_T50 l0_2 x5_2).f2)] 50 (0,0)) (by refine uK ?_;refine blk_put (cs:=#[.int .i64 ((rd_T50 l0_2 x5_2).f0),.int .i64 ((rd_T50 l0_2 x5_2).f1),.int .i64 0]) ?_ 2 _ rfl;refine uK ?_;refine blk_put (cs:=#[.int .i64 ((rd_T50 l0_2 x5_2).f0),.int .i64 0,.int .i64 0]) ?_ 1 _ rfl;refine uK ?_;refine blk_put (cs:=#[.int .i64 0,.int .i64 0,.int .i64 0]) ?_ 0 _ rfl;refine uK ?_;exact BK430.out) hb);replace HB:=aM (below_step uB hb);clear hb ho32;obtain⟨Ao33,co33,eo33⟩:=Kd.R_slice HO433.out;subst eo33)|((with_reducible refine gate_callee (f:=90) rfl ?_);refine goesL_ (some 56) rfl rfl Tryz.func90 (by kernel_rfl) rfl #[.string (⟨#[111,117,116,108,101,116]⟩:ByteArray),.slice Ao33 y431.length co33] rfl uM ?_;(with_reducible refine(quinariaref01_Row.calls k2 (⟨#[111,117,116,108,101,116]⟩:ByteArray) _ _ y431 t434 _ ?side1 ?side2 A25.out).mono ?_);(case side1=>exact uC ((Kd.R_reads' HO433.out).2.2));(case side2=>exact(Kd.R_reads' HO433.out).2.1);rintro e w34 ⟨rfl,hb⟩;refine⟨_,rfl,?_⟩;replace HO_3:=aM (Kd.R_below (uR HO_3.out) hb);replace HO433:=aM (Kd.R_below (uR HO433.out) hb);replace BK412:=aM (blk_below (uK BK412.out) hb);replace BK430:=aM (blk_below (uK BK430.out) hb);replace HB:=aM (below_step uB hb);(try clear hb);(try clear hb2);(try clear hk);(try clear hi))|((with_reducible refine gate_builtin (b:=.append) (xs:=#[.tmp 48,.tmp 57]) rfl ?_);at_builtin;refine Kd.R_append Kd.string (w0:=w) w.heap.size rfl (.tmp 48) (.tmp 57) 107 9 (.string ⟨#[]⟩) 16 rfl Tryz.underlying107 info9 rfl (by decide) (by omega) u3 x3_2 t434 [.string t434] (fun _=>True) (fun _=>False) rfl rfl ?aP (fun _ hk=>hk.elim) ?aF ?aO ?aB ?aS ?aL ?_;(case aP=>exact rfl);(case aB=>exact uB);(case aF=>exact(fun _ _=>trivial));(case aO=>exact(uR HO_3.out));(case aS=>exact(below_size uB));(case aL=>have:=LMc26.out;omega);intro v436 w35 ho hb hg hat;rw[← Ny435.out] at ho;replace BK412:=aM (blk_grown (uK BK412.out) hg (Kd.R_ne HO_3.out BK412.out (by decide)));replace BK430:=aM (blk_grown (uK BK430.out) hg (Kd.R_ne HO_3.out BK430.out (by decide)));replace HO433:=aM (Kd.R_over' (uR HO433.out) (Kd.R_typed (uR HO_3.out)) (by decide) hg);have HO437:=aM (ho);replace HB:=aM (hb);clear HO_3;clear ho hb hg hat))
       go_roundg k2
       case measure=>have:=HK1.out;have:=HK2.out;omega
       case rel=>exact⟨(y435),(wrap64 (x5_2+1)),u0,H',⟨by have:=HK1.out;have:=HK2.out;omega⟩,⟨uR HO437.out⟩,⟨uK BK412.out⟩,⟨uB⟩⟩
      ·rw[if_neg c23] at H;replace c23:=decide_eq_false c23;replace H:=Option.bind_eq_some_iff.mp H;obtain⟨t438,A360,H⟩:=H;replace H:(some t438)=some r:=H;have A36:=aM A360;clear A360;obtain rfl:=Option.some.inj H;obtain⟨hcz37_0,hcz37_1,hcz37_2⟩:=cz3 BK412.out;obtain⟨hfz37_0,hfz37_1,hfz37_2⟩:=fz3 BK412.out;obtain⟨Ao38,co38,eo38⟩:=Kd.R_slice HO_3.out;subst eo38
       go_wp2_with (first|((with_reducible refine gate_callee (f:=91) rfl ?_);refine goesL_ (some 60) rfl rfl Tryz.func91 (by kernel_rfl) rfl #[.slice Ao38 x3_2.length co38,.int .i64 163] rfl uM ?_;(with_reducible refine(quinariaref01_Sealed.calls k2 _ _ x3_2 163 t438 _ ?side1 ?side2 A36.out).mono ?_);(case side1=>exact uC ((Kd.R_reads' HO_3.out).2.2));(case side2=>exact(Kd.R_reads' HO_3.out).2.1);rintro e w39 ⟨rfl,hb⟩;refine⟨_,rfl,?_⟩;replace HO_3:=aM (Kd.R_below (uR HO_3.out) hb);replace BK412:=aM (blk_below (uK BK412.out) hb);replace HB:=aM (below_step uB hb);(try clear hb);(try clear hb2);(try clear hk);(try clear hi)))
       go_ret;exact⟨uE,uB⟩
end Go.Proofs.YtjioobfeikbffaaGreatDoor.K
end
section
namespace Go.Proofs.YtjioobfeikbffaaGreatDoor.K
open Go.RowKit Go.Shelf Go.Proofs.YtjioobfeikbffaaGreatDoorW.PrintWords Go.Proofs.YtjioobfeikbffaaGreatDoorW.PrintLast Go.Proofs.YtjioobfeikbffaaGreatDoorW.PrintMore
open Tx
structure At' {α:Type} (d:Kd α) (W:World) (A:Option Addr) (n cp:Nat) (xs:List α):Prop where
  c:Kd.C d W A n xs
  le:n≤cp
theorem At'.below {α:Type} {d:Kd α} {W W1:World} {A:Option Addr} {n c:Nat} {xs:List α} (h:At' d W A n c xs) (hb:Below W.heap.size W W1):At' d W1 A n c xs:=⟨Kd.C_below h.c hb,h.le⟩
theorem At'.of_R {α:Type} {d:Kd α} {e base:Nat} {W:World} {v:Value} {xs:List α} (h:d.R e W base (fun _=>True) v xs):∃A c,v=.slice A xs.length c∧At' d W A xs.length c xs:=by
  obtain⟨A,c,rfl,hl,hc⟩:=Kd.R_reads h;exact⟨A,c,rfl,hc,hl⟩
theorem flat_at {α:Type} (enc:α→List Value) (n:Nat) (hn:∀x,(enc x).length=n):∀(xs:List α) (j i:Nat) (p:α) (u:Value),xs[j]? =some p→(enc p)[i]? =some u→(xs.flatMap enc)[j*n+i]? =some u
  |[],j,i,p,u,h,_=>by simp at h
  |x::xs,0,i,p,u,h,hu=>by
    obtain rfl:x=p:=by simpa using h
    rw[List.flatMap_cons,Nat.zero_mul,Nat.zero_add,List.getElem?_append_left (List.getElem?_eq_some_iff.1 hu).1];exact hu
  |x::xs,j+1,i,p,u,h,hu=>by
    rw[List.flatMap_cons,List.getElem?_append_right (by rw[hn,Nat.succ_mul];omega),hn,show(j+1)*n+i-n=j*n+i by rw[Nat.succ_mul];omega];exact flat_at enc n hn xs j i p u (by simpa using h) hu
theorem C_new {α:Type} (d:Kd α) (W:World) (e:TypeId) (enc:α→List Value) (xs:List α) (hn:∀x,(enc x).length=d.sz) (hK:∀w x,d.K w x (enc x)) (hl:xs.length≤9223372036854775807):Kd.C d (W.alloc (.cells (xs.flatMap enc).toArray e)) (some ⟨W.heap.size,0,none⟩) xs.length xs:=by
  refine⟨rfl,hl,fun _=>⟨_,rfl,fun j p hj=>⟨enc p,hn p,hK _ p,fun i u hi=>?_⟩⟩⟩;have h1:=flat_at enc d.sz hn xs j i p u hj hi
  have h2:(⟨W.heap.size,0,none⟩:Addr).add (j*d.sz+i)=⟨W.heap.size,j*d.sz+i,none⟩:=by
    simp[Addr.add];intro h1 h2
    omega
  rw[h2,blk_cell (blk_new W _)]
  simpa using h1
theorem C_ints (W:World) (e:TypeId) (xs:List Int) (hl:xs.length≤9223372036854775807):Kd.C (Kd.int .i64) (W.alloc (.cells (xs.flatMap fun x=>[Value.int .i64 x]).toArray e)) (some ⟨W.heap.size,0,none⟩) xs.length xs:=
  C_new (Kd.int .i64) W e (fun x=>[Value.int .i64 x]) xs (fun _=>rfl) (fun _ _=>rfl) hl
def TN:List SN:=[⟨0,6⟩,⟨1,3⟩]
def TO:List SO:=[⟨2,4,0⟩,⟨1,5,0⟩,⟨0,6,1⟩,⟨2,2,1⟩]
structure TrA (w:World) (A:Option Addr) (c:Nat) (A':Option Addr) (c':Nat):Prop where
  n:At' k85 w A 2 c TN
  o:At' k50 w A' 4 c' TO
theorem T_any (w:World):Calls Tryz.prog 49 #[] w fun e w'=>∃A c A' c',e=.returned (.agg #[.int .i64 10,.slice A 2 c,.slice A' 4 c'])∧Aside0 (TrA w' A c A' c')∧Below w.heap.size w w':=by
  refine(quinarialaw07_T.calls 10 TN TO w (by kernel_rfl)).mono ?_;rintro e w' ⟨v0,v1,rfl,h0,h1,hb⟩;obtain⟨A,c,rfl,ha⟩:=At'.of_R h0;obtain⟨A',c',rfl,ha'⟩:=At'.of_R h1;exact⟨A,c,A',c',rfl,⟨ha,ha'⟩,hb⟩
theorem U_any (w:World):Calls Tryz.prog 50 #[] w fun e w'=>∃A c A' c',e=.returned (.agg #[.int .i64 20,.slice A 2 c,.slice A' 4 c'])∧Aside0 (TrA w' A c A' c')∧Below w.heap.size w w':=by
  refine(quinarialaw07_U.calls 20 TN TO w (by kernel_rfl)).mono ?_;rintro e w' ⟨v0,v1,rfl,h0,h1,hb⟩;obtain⟨A,c,rfl,ha⟩:=At'.of_R h0;obtain⟨A',c',rfl,ha'⟩:=At'.of_R h1;exact⟨A,c,A',c',rfl,⟨ha,ha'⟩,hb⟩
theorem shares_T {w:World} {A:Option Addr} {c:Nat} {A':Option Addr} {c':Nat} (h:TrA w A c A' c'):Calls Tryz.prog 15 #[.agg #[.int .i64 10,.slice A 2 c,.slice A' 4 c']] w fun e w'=>∃B d,e=.returned (.tuple #[.slice B 4 d,.int .i64 0])∧Aside0 (At' (Kd.int .i64) w' B 4 d [3,3,4,0])∧Below w.heap.size w w':=by
  refine(drought_Shares.calls 10 A c TN A' c' TO [3,3,4,0] 0 w h.n.c h.n.le h.o.c h.o.le (by kernel_rfl)).mono ?_;rintro e w' ⟨v0,rfl,h0,hb⟩;obtain⟨B,d,rfl,ha⟩:=At'.of_R h0;exact⟨B,d,rfl,⟨ha⟩,hb⟩
theorem ordered_T {w:World} {A:Option Addr} {c:Nat} {A':Option Addr} {c':Nat} (h:TrA w A c A' c'):Calls Tryz.prog 16 #[.agg #[.int .i64 10,.slice A 2 c,.slice A' 4 c'],.slice (some ⟨w.heap.size,0,none⟩) 4 4] (w.alloc (.cells #[.int .i64 1,.int .i64 0,.int .i64 2,.int .i64 3] 3)) fun e w'=>∃B d,e=.returned (.tuple #[.slice B 4 d,.int .i64 0])∧Aside0 (At' (Kd.int .i64) w' B 4 d [1,1,6,2])∧Below w.heap.size w w':=by
  have hB:Below w.heap.size w (w.alloc (.cells #[.int .i64 1,.int .i64 0,.int .i64 2,.int .i64 3] 3)):=(Below.refl _ _).alloc (Nat.le_refl _) _;refine(drought_Ordered.calls 10 A c TN A' c' TO (some ⟨w.heap.size,0,none⟩) 4 [1,0,2,3] [1,1,6,2] 0 _ (h.n.below hB).c h.n.le (h.o.below hB).c h.o.le (C_ints w _ [1,0,2,3] (by decide)) (Nat.le_refl _) (by kernel_rfl)).mono ?_;rintro e w' ⟨v0,rfl,h0,hb⟩;obtain⟨B,d,rfl,ha⟩:=At'.of_R h0;exact⟨B,d,rfl,⟨ha⟩,below_then hB hB.size hb⟩
theorem why_T {w:World} {A:Option Addr} {c:Nat} {A':Option Addr} {c':Nat} (h:TrA w A c A' c'):Calls Tryz.prog 27 #[.agg #[.int .i64 10,.slice A 2 c,.slice A' 4 c'],.int .i64 3] w fun e w'=>e=.returned (.tuple #[.int .i64 1,.int .i64 0])∧Below w.heap.size w w':=
  drought_Why.calls 1000 10 A c TN A' c' TO 3 1 0 w h.n.c h.n.le h.o.c h.o.le (by kernel_rfl)
theorem binds_T {w:World} {A:Option Addr} {c:Nat} {A':Option Addr} {c':Nat} (h:TrA w A c A' c'):Calls Tryz.prog 26 #[.agg #[.int .i64 10,.slice A 2 c,.slice A' 4 c'],.int .i64 0,.int .i64 0] w fun e w'=>e=.returned (.tuple #[.bool false,.int .i64 0])∧Below w.heap.size w w':=
  drought_Binds.calls 1000 10 A c TN A' c' TO 0 0 false 0 w h.n.c h.n.le h.o.c h.o.le (by kernel_rfl)
theorem cut_U {w:World} {A:Option Addr} {c:Nat} {A':Option Addr} {c':Nat} (h:TrA w A c A' c'):Calls Tryz.prog 35 #[.agg #[.int .i64 20,.slice A 2 c,.slice A' 4 c']] w fun e w'=>∃B d,e=.returned (.tuple #[.slice B 1 d,.int .i64 0])∧Aside0 (At' (Kd.int .i64) w' B 1 d [1])∧Below w.heap.size w w':=by
  refine(drought_Cut.calls 20 A c TN A' c' TO [1] 0 w h.n.c h.n.le h.o.c h.o.le (by kernel_rfl)).mono ?_;rintro e w' ⟨v0,rfl,h0,hb⟩;obtain⟨B,d,rfl,ha⟩:=At'.of_R h0;exact⟨B,d,rfl,⟨ha⟩,hb⟩
theorem spans_T {w:World} {A:Option Addr} {c:Nat} {A':Option Addr} {c':Nat} (h:TrA w A c A' c'):Calls Tryz.prog 39 #[.agg #[.int .i64 10,.slice A 2 c,.slice A' 4 c'],.int .i64 5,.int .i64 10] w fun e w'=>∃B d,e=.returned (.tuple #[.slice B 4 d,.int .i64 0])∧Aside0 (At' kSp w' B 4 d [⟨3,3⟩,⟨2,3⟩,⟨0,4⟩,⟨0,0⟩])∧Below w.heap.size w w':=by
  refine(drought_Spans.calls 10 A c TN A' c' TO 5 10 [⟨3,3⟩,⟨2,3⟩,⟨0,4⟩,⟨0,0⟩] 0 w h.n.c h.n.le h.o.c h.o.le (by kernel_rfl)).mono ?_;rintro e w' ⟨v0,rfl,h0,hb⟩;obtain⟨B,d,rfl,ha⟩:=At'.of_R h0;exact⟨B,d,rfl,⟨ha⟩,hb⟩
theorem needs_T {w:World} {A:Option Addr} {c:Nat} {A':Option Addr} {c':Nat} (h:TrA w A c A' c'):Calls Tryz.prog 44 #[.agg #[.int .i64 10,.slice A 2 c,.slice A' 4 c'],.int .i64 2,.int .i64 6] w fun e w'=>e=.returned (.tuple #[.int .i64 12,.int .i64 0])∧Below w.heap.size w w':=
  drought_Needs.calls 10 A c TN A' c' TO 2 6 12 0 w h.n.c h.n.le h.o.c h.o.le (by kernel_rfl)
theorem keeps_T {w:World} {A:Option Addr} {c:Nat} {A':Option Addr} {c':Nat} (h:TrA w A c A' c'):Calls Tryz.prog 45 #[.agg #[.int .i64 10,.slice A 2 c,.slice A' 4 c'],.int .i64 0] w fun e w'=>e=.returned (.tuple #[.int .i64 0,.int .i64 5])∧Below w.heap.size w w':=
  drought_Keeps.calls 10 A c TN A' c' TO 0 0 5 w h.n.c h.n.le h.o.c h.o.le (by kernel_rfl)
theorem widens_T {w:World} {A:Option Addr} {c:Nat} {A':Option Addr} {c':Nat} (h:TrA w A c A' c'):Calls Tryz.prog 36 #[.agg #[.int .i64 10,.slice A 2 c,.slice A' 4 c'],.int .i64 1] w fun e w'=>∃B d,e=.returned (.tuple #[.slice B 1 d,.int .i64 0])∧Aside0 (At' (Kd.int .i64) w' B 1 d [1])∧Below w.heap.size w w':=by
  refine(drought_Widens.calls 1000 10 A c TN A' c' TO 1 [1] 0 w h.n.c h.n.le h.o.c h.o.le (by kernel_rfl)).mono ?_;rintro e w' ⟨v0,rfl,h0,hb⟩;obtain⟨B,d,rfl,ha⟩:=At'.of_R h0;exact⟨B,d,rfl,⟨ha⟩,hb⟩
theorem turns_T {w:World} {A:Option Addr} {c:Nat} {A':Option Addr} {c':Nat} (h:TrA w A c A' c'):Calls Tryz.prog 51 #[.agg #[.int .i64 10,.slice A 2 c,.slice A' 4 c'],.int .i64 3] w fun e w'=>∃B d,e=.returned (.tuple #[.slice B 3 d,.int .i64 0])∧Aside0 (At' (Kd.slice 3 (Kd.int .i64)) w' B 3 d [[1],[2,3],[1]])∧Below w.heap.size w w':=by
  refine(drought_Turns.calls 10 A c TN A' c' TO 3 [[1],[2,3],[1]] 0 w h.n.c h.n.le h.o.c h.o.le (by kernel_rfl)).mono ?_;rintro e w' ⟨v0,rfl,h0,hb⟩;obtain⟨B,d,rfl,ha⟩:=At'.of_R h0;exact⟨B,d,rfl,⟨ha⟩,hb⟩
theorem C_rows2 (w:World) (e:TypeId):Kd.C (Kd.slice 3 (Kd.int .i64)) (((w.alloc (.cells #[.int .i64 1] 3)).alloc (.cells #[.int .i64 3] 3)).alloc (.cells #[.slice (some ⟨w.heap.size,0,none⟩) 1 1,.slice (some ⟨w.heap.size+1,0,none⟩) 1 1] e)) (some ⟨w.heap.size+1+1,0,none⟩) 2 [[1],[3]]:=by
  have c1:Kd.C (Kd.int .i64) ((w.alloc (.cells #[.int .i64 1] 3)).alloc (.cells #[.int .i64 3] 3)) (some ⟨w.heap.size,0,none⟩) 1 [1]:=Kd.C_alloc (C_ints w _ [1] (by decide)) _;have c2:=C_ints (w.alloc (.cells #[.int .i64 1] 3)) 3 [3] (by decide);rw[World.size_alloc] at c2;have:=C_two ((w.alloc (.cells #[.int .i64 1] 3)).alloc (.cells #[.int .i64 3] 3)) (.slice (some ⟨w.heap.size,0,none⟩) 1 1) (.slice (some ⟨w.heap.size+1,0,none⟩) 1 1) [1] [3] e ⟨_,_,rfl,Nat.le_refl _,Kd.C_alloc c1 _⟩ ⟨_,_,rfl,Nat.le_refl _,Kd.C_alloc c2 _⟩;rw[World.size_alloc,World.size_alloc] at this;exact this
theorem swaps_T {w:World} {A:Option Addr} {c:Nat} {A':Option Addr} {c':Nat} (h:TrA w A c A' c'):Calls Tryz.prog 52 #[.agg #[.int .i64 10,.slice A 2 c,.slice A' 4 c'],.slice (some ⟨w.heap.size+1+1,0,none⟩) 2 2,.int .i64 1,.int .i64 3] (((w.alloc (.cells #[.int .i64 1] 3)).alloc (.cells #[.int .i64 3] 3)).alloc (.cells #[.slice (some ⟨w.heap.size,0,none⟩) 1 1,.slice (some ⟨w.heap.size+1,0,none⟩) 1 1] 26)) fun e w'=>e=.returned (.tuple #[.int .i64 0,.int .i64 1,.int .i64 0])∧Below w.heap.size w w':=by
  have hB:Below w.heap.size w (((w.alloc (.cells #[.int .i64 1] 3)).alloc (.cells #[.int .i64 3] 3)).alloc (.cells #[.slice (some ⟨w.heap.size,0,none⟩) 1 1,.slice (some ⟨w.heap.size+1,0,none⟩) 1 1] 26)):=(((Below.refl _ _).alloc (Nat.le_refl _) _).alloc (by simp) _).alloc (by simp;omega) _;refine(drought_Swaps.calls 1000 10 A c TN A' c' TO (some ⟨w.heap.size+1+1,0,none⟩) 2 [[1],[3]] 1 3 0 1 0 _ (h.n.below hB).c h.n.le (h.o.below hB).c h.o.le (C_rows2 w _) (Nat.le_refl _) (by kernel_rfl)).mono ?_;rintro e w' ⟨rfl,hb⟩;exact⟨rfl,below_then hB hB.size hb⟩
def knownText:ByteArray:=⟨#[100,114,111,117,103,104,116,32,49,10,111,117,116,108,101,116,32,48,32,49,32,48,10,101,110,100,32,48,49,55,10]⟩
theorem read_knownText:readD knownText=(1,[],[⟨0,1,0⟩],0):=by kernel_rfl
theorem read_K (w:World) (hT:TabW w):Calls Tryz.prog 53 #[.string knownText] w fun e w'=>∃A c A' c',e=.returned (.tuple #[.agg #[.int .i64 1,.slice A 0 c,.slice A' 1 c'],.int .i64 0])∧Aside0 (At' k85 w' A 0 c []∧At' k50 w' A' 1 c' [⟨0,1,0⟩])∧Below w.heap.size w w':=by
  refine(read_any knownText w hT (by decide)).mono ?_;rintro e w' ⟨hb,A,c,A',c',he,h0,h1⟩;rw[read_knownText] at he h0 h1;exact⟨A,c,A',c',he,⟨⟨(Kd.R_reads' h0).2.2,(Kd.R_reads' h0).2.1⟩,⟨(Kd.R_reads' h1).2.2,(Kd.R_reads' h1).2.1⟩⟩,hb⟩
theorem print_K {w:World} {A A':Option Addr} {c c':Nat} (h:At' k85 w A 0 c []∧At' k50 w A' 1 c' [⟨0,1,0⟩]):Calls Tryz.prog 55 #[.agg #[.int .i64 1,.slice A 0 c,.slice A' 1 c']] w fun e w'=>e=.returned (.string knownText)∧Below w.heap.size w w':=
  quinariaref07_Print.calls 1000 1 A c [] A' c' [⟨0,1,0⟩] knownText w h.1.c h.1.le h.2.c h.2.le (by kernel_rfl)
theorem same_any (A B:Option Addr) (c d n m:Nat) (xs ys:List Int) (w:World) (hA:At' (Kd.int .i64) w A n c xs) (hB:At' (Kd.int .i64) w B m d ys) (r:Bool) (h:quinariaref01_Same.f 1000 xs ys=some r):
    Calls Tryz.prog 18 #[.slice A n c,.slice B m d] w fun e w'=>e=.returned (.bool r)∧Below w.heap.size w w':=by
  obtain rfl:=hA.c.1;obtain rfl:=hB.c.1;exact(quinariaref01_Same.calls 1000 A c xs B d ys r w hA.c hA.le hB.c hB.le h).mono fun e w' ⟨he,hd⟩=>⟨he,hd.below⟩
theorem sameSpans_any (B:Option Addr) (d:Nat) (w:World) (h:At' kSp (w.alloc (.cells #[.int .i64 3,.int .i64 3,.int .i64 2,.int .i64 3,.int .i64 0,.int .i64 4,.int .i64 0,.int .i64 0] 62)) B 4 d [⟨3,3⟩,⟨2,3⟩,⟨0,4⟩,⟨0,0⟩]):
    Calls Tryz.prog 41 #[.slice B 4 d,.slice (some ⟨w.heap.size,0,none⟩) 4 4] (w.alloc (.cells #[.int .i64 3,.int .i64 3,.int .i64 2,.int .i64 3,.int .i64 0,.int .i64 4,.int .i64 0,.int .i64 0] 62)) fun e w'=>e=.returned (.bool true)∧Below w.heap.size w w':=by
  have hB:Below w.heap.size w (w.alloc (.cells #[.int .i64 3,.int .i64 3,.int .i64 2,.int .i64 3,.int .i64 0,.int .i64 4,.int .i64 0,.int .i64 0] 62)):=(Below.refl _ _).alloc (Nat.le_refl _) _;refine(quinariaref07_SameSpans.calls 1000 B d [⟨3,3⟩,⟨2,3⟩,⟨0,4⟩,⟨0,0⟩] (some ⟨w.heap.size,0,none⟩) 4 [⟨3,3⟩,⟨2,3⟩,⟨0,4⟩,⟨0,0⟩] true _ h.c h.le (C_new kSp w _ (fun x=>[.int .i64 x.f0,.int .i64 x.f1]) [⟨3,3⟩,⟨2,3⟩,⟨0,4⟩,⟨0,0⟩] (fun _=>rfl) (fun w x=>k62_mk w x) (by decide)) (Nat.le_refl _) (by kernel_rfl)).mono ?_;rintro e w' ⟨he,hd⟩;exact⟨he,below_then hB hB.size hd.below⟩
theorem C_rows3 (w:World) (e:TypeId):Kd.C (Kd.slice 3 (Kd.int .i64)) ((((w.alloc (.cells #[.int .i64 1] 3)).alloc (.cells #[.int .i64 2,.int .i64 3] 3)).alloc (.cells #[.int .i64 1] 3)).alloc (.cells #[.slice (some ⟨w.heap.size,0,none⟩) 1 1,.slice (some ⟨w.heap.size+1,0,none⟩) 2 2,.slice (some ⟨w.heap.size+1+1,0,none⟩) 1 1] e)) (some ⟨w.heap.size+1+1+1,0,none⟩) 3 [[1],[2,3],[1]]:=by
  have c1:Kd.C (Kd.int .i64) ((((w.alloc (.cells #[.int .i64 1] 3)).alloc (.cells #[.int .i64 2,.int .i64 3] 3)).alloc (.cells #[.int .i64 1] 3)).alloc (.cells #[.slice (some ⟨w.heap.size,0,none⟩) 1 1,.slice (some ⟨w.heap.size+1,0,none⟩) 2 2,.slice (some ⟨w.heap.size+1+1,0,none⟩) 1 1] e)) (some ⟨w.heap.size,0,none⟩) 1 [1]:=Kd.C_alloc (Kd.C_alloc (Kd.C_alloc (C_ints w _ [1] (by decide)) _) _) _;have c2:=C_ints (w.alloc (.cells #[.int .i64 1] 3)) 3 [2,3] (by decide);have c3:=C_ints ((w.alloc (.cells #[.int .i64 1] 3)).alloc (.cells #[.int .i64 2,.int .i64 3] 3)) 3 [1] (by decide);rw[World.size_alloc] at c2;rw[World.size_alloc,World.size_alloc] at c3;have d2:Kd.C (Kd.int .i64) ((((w.alloc (.cells #[.int .i64 1] 3)).alloc (.cells #[.int .i64 2,.int .i64 3] 3)).alloc (.cells #[.int .i64 1] 3)).alloc (.cells #[.slice (some ⟨w.heap.size,0,none⟩) 1 1,.slice (some ⟨w.heap.size+1,0,none⟩) 2 2,.slice (some ⟨w.heap.size+1+1,0,none⟩) 1 1] e)) (some ⟨w.heap.size+1,0,none⟩) 2 [2,3]:=Kd.C_alloc (Kd.C_alloc c2 _) _;have d3:Kd.C (Kd.int .i64) ((((w.alloc (.cells #[.int .i64 1] 3)).alloc (.cells #[.int .i64 2,.int .i64 3] 3)).alloc (.cells #[.int .i64 1] 3)).alloc (.cells #[.slice (some ⟨w.heap.size,0,none⟩) 1 1,.slice (some ⟨w.heap.size+1,0,none⟩) 2 2,.slice (some ⟨w.heap.size+1+1,0,none⟩) 1 1] e)) (some ⟨w.heap.size+1+1,0,none⟩) 1 [1]:=Kd.C_alloc c3 _;have hblk:=blk_new (((w.alloc (.cells #[.int .i64 1] 3)).alloc (.cells #[.int .i64 2,.int .i64 3] 3)).alloc (.cells #[.int .i64 1] 3)) (.cells #[.slice (some ⟨w.heap.size,0,none⟩) 1 1,.slice (some ⟨w.heap.size+1,0,none⟩) 2 2,.slice (some ⟨w.heap.size+1+1,0,none⟩) 1 1] e);rw[World.size_alloc,World.size_alloc,World.size_alloc] at hblk;generalize (((w.alloc (.cells #[.int .i64 1] 3)).alloc (.cells #[.int .i64 2,.int .i64 3] 3)).alloc (.cells #[.int .i64 1] 3)).alloc (.cells #[.slice (some ⟨w.heap.size,0,none⟩) 1 1,.slice (some ⟨w.heap.size+1,0,none⟩) 2 2,.slice (some ⟨w.heap.size+1+1,0,none⟩) 1 1] e)=W at *;refine⟨rfl,by decide,fun _=>⟨_,rfl,fun j p hj=>?_⟩⟩
  match j with
  |0=>
    obtain rfl:[1]=p:=by simpa using hj
    refine⟨[.slice (some ⟨w.heap.size,0,none⟩) 1 1],rfl,⟨_,_,rfl,Nat.le_refl _,c1⟩,fun i u hi=>?_⟩
    match i with
    |0=>
      obtain rfl:Value.slice (some ⟨w.heap.size,0,none⟩) 1 1=u:=by simpa using hi
      exact(blk_cell hblk 0).trans rfl
    |i+1=>simp at hi
  |1=>
    obtain rfl:[2,3]=p:=by simpa using hj
    refine⟨[.slice (some ⟨w.heap.size+1,0,none⟩) 2 2],rfl,⟨_,_,rfl,Nat.le_refl _,d2⟩,fun i u hi=>?_⟩
    match i with
    |0=>
      obtain rfl:Value.slice (some ⟨w.heap.size+1,0,none⟩) 2 2=u:=by simpa using hi
      exact(blk_cell hblk 1).trans rfl
    |i+1=>simp at hi
  |2=>
    obtain rfl:[1]=p:=by simpa using hj
    refine⟨[.slice (some ⟨w.heap.size+1+1,0,none⟩) 1 1],rfl,⟨_,_,rfl,Nat.le_refl _,d3⟩,fun i u hi=>?_⟩
    match i with
    |0=>
      obtain rfl:Value.slice (some ⟨w.heap.size+1+1,0,none⟩) 1 1=u:=by simpa using hi
      exact(blk_cell hblk 2).trans rfl
    |i+1=>simp at hi
  |j+3=>simp at hj
theorem samePlans_any (B:Option Addr) (d:Nat) (w:World) (h:At' (Kd.slice 3 (Kd.int .i64)) w B 3 d [[1],[2,3],[1]]):
    Calls Tryz.prog 54 #[.slice B 3 d,.slice (some ⟨w.heap.size+1+1+1,0,none⟩) 3 3] ((((w.alloc (.cells #[.int .i64 1] 3)).alloc (.cells #[.int .i64 2,.int .i64 3] 3)).alloc (.cells #[.int .i64 1] 3)).alloc (.cells #[.slice (some ⟨w.heap.size,0,none⟩) 1 1,.slice (some ⟨w.heap.size+1,0,none⟩) 2 2,.slice (some ⟨w.heap.size+1+1,0,none⟩) 1 1] 26)) fun e w'=>e=.returned (.bool true)∧Below w.heap.size w w':=by
  have hB:Below w.heap.size w ((((w.alloc (.cells #[.int .i64 1] 3)).alloc (.cells #[.int .i64 2,.int .i64 3] 3)).alloc (.cells #[.int .i64 1] 3)).alloc (.cells #[.slice (some ⟨w.heap.size,0,none⟩) 1 1,.slice (some ⟨w.heap.size+1,0,none⟩) 2 2,.slice (some ⟨w.heap.size+1+1,0,none⟩) 1 1] 26)):=((((Below.refl _ _).alloc (Nat.le_refl _) _).alloc (by simp) _).alloc (by simp;omega) _).alloc (by simp;omega) _;refine(quinariaref07_SamePlans.calls 1000 B d [[1],[2,3],[1]] (some ⟨w.heap.size+1+1+1,0,none⟩) 3 [[1],[2,3],[1]] true _ (h.below hB).c h.le (C_rows3 w _) (Nat.le_refl _) (by kernel_rfl)).mono ?_;rintro e w' ⟨he,hd⟩;exact⟨he,below_then hB hB.size hd.below⟩
set_option maxRecDepth 100000 in
set_option maxHeartbeats 8000000 in
theorem known_any (w0:World) (hT:TabW w0):Calls Tryz.prog 14 #[] w0 fun e w'=>e=.returned (.bool true)∧Below w0.heap.size w0 w':=by
  have hu62:=Tryz.underlying62;have hu25:=Tryz.underlying25;have HT:=aM hT;clear hT
  go_enter Tryz.func14,Tryz.ntmps14
  go_upto_region 2 with(first|(go_at_call 49;refine(T_any _).mono ?_;rintro e wp ⟨A,c,A',c',rfl,HP,hbp⟩)|(go_at_call 15;refine(shares_T HP.out).mono ?_;rintro e wf ⟨B1,d1,rfl,H1,hbf⟩))
  have HB1:Aside0 (Below w0.heap.size w0 wf):=⟨below_step hbp hbf⟩;obtain⟨w1,hw1⟩:∃w1,wf=w1:=⟨_,rfl⟩;rw[hw1] at HB1 H1⊢;clear hw1 hbp hbf HP
  go_upto_region 3 with(first|(go_at_call 49;refine(T_any _).mono ?_;rintro e wp ⟨A,c,A',c',rfl,HP,hbp⟩)|(go_at_call 16;refine(ordered_T HP.out).mono ?_;rintro e wf ⟨B2,d2,rfl,H2,hbf⟩))
  have HB2:Aside0 (Below w1.heap.size w1 wf):=⟨below_step hbp hbf⟩;obtain⟨w2,hw2⟩:∃w2,wf=w2:=⟨_,rfl⟩;rw[hw2] at HB2 H2⊢;clear hw2 hbp hbf HP
  go_upto_region 4 with(first|(go_at_call 49;refine(T_any _).mono ?_;rintro e wp ⟨A,c,A',c',rfl,HP,hbp⟩)|(go_at_call 27;refine(why_T HP.out).mono ?_;rintro e wf ⟨rfl,hbf⟩))
  have HB3:Aside0 (Below w2.heap.size w2 wf):=⟨below_step hbp hbf⟩;obtain⟨w3,hw3⟩:∃w3,wf=w3:=⟨_,rfl⟩;rw[hw3] at HB3⊢;clear hw3 hbp hbf HP
  go_upto_region 5 with(first|(go_at_call 49;refine(T_any _).mono ?_;rintro e wp ⟨A,c,A',c',rfl,HP,hbp⟩)|(go_at_call 26;refine(binds_T HP.out).mono ?_;rintro e wf ⟨rfl,hbf⟩))
  have HB4:Aside0 (Below w3.heap.size w3 wf):=⟨below_step hbp hbf⟩;obtain⟨w4,hw4⟩:∃w4,wf=w4:=⟨_,rfl⟩;rw[hw4] at HB4⊢;clear hw4 hbp hbf HP
  go_upto_region 6 with(first|(go_at_call 50;refine(U_any _).mono ?_;rintro e wp ⟨A,c,A',c',rfl,HP,hbp⟩)|(go_at_call 35;refine(cut_U HP.out).mono ?_;rintro e wf ⟨B5,d5,rfl,H5,hbf⟩))
  have HB5:Aside0 (Below w4.heap.size w4 wf):=⟨below_step hbp hbf⟩;obtain⟨w5,hw5⟩:∃w5,wf=w5:=⟨_,rfl⟩;rw[hw5] at HB5 H5⊢;clear hw5 hbp hbf HP
  go_upto_region 7 with(first|(go_at_call 49;refine(T_any _).mono ?_;rintro e wp ⟨A,c,A',c',rfl,HP,hbp⟩)|(go_at_call 39;refine(spans_T HP.out).mono ?_;rintro e wf ⟨B6,d6,rfl,H6,hbf⟩))
  have HB6:Aside0 (Below w5.heap.size w5 wf):=⟨below_step hbp hbf⟩;obtain⟨w6,hw6⟩:∃w6,wf=w6:=⟨_,rfl⟩;rw[hw6] at HB6 H6⊢;clear hw6 hbp hbf HP
  go_upto_region 8 with(first|(go_at_call 49;refine(T_any _).mono ?_;rintro e wp ⟨A,c,A',c',rfl,HP,hbp⟩)|(go_at_call 44;refine(needs_T HP.out).mono ?_;rintro e wf ⟨rfl,hbf⟩))
  have HB7:Aside0 (Below w6.heap.size w6 wf):=⟨below_step hbp hbf⟩;obtain⟨w7,hw7⟩:∃w7,wf=w7:=⟨_,rfl⟩;rw[hw7] at HB7⊢;clear hw7 hbp hbf HP
  go_upto_region 9 with(first|(go_at_call 49;refine(T_any _).mono ?_;rintro e wp ⟨A,c,A',c',rfl,HP,hbp⟩)|(go_at_call 45;refine(keeps_T HP.out).mono ?_;rintro e wf ⟨rfl,hbf⟩))
  have HB8:Aside0 (Below w7.heap.size w7 wf):=⟨below_step hbp hbf⟩;obtain⟨w8,hw8⟩:∃w8,wf=w8:=⟨_,rfl⟩;rw[hw8] at HB8⊢;clear hw8 hbp hbf HP
  go_upto_region 10 with(first|(go_at_call 49;refine(T_any _).mono ?_;rintro e wp ⟨A,c,A',c',rfl,HP,hbp⟩)|(go_at_call 36;refine(widens_T HP.out).mono ?_;rintro e wf ⟨B9,d9,rfl,H9,hbf⟩))
  have HB9:Aside0 (Below w8.heap.size w8 wf):=⟨below_step hbp hbf⟩;obtain⟨w9,hw9⟩:∃w9,wf=w9:=⟨_,rfl⟩;rw[hw9] at HB9 H9⊢;clear hw9 hbp hbf HP
  go_upto_region 11 with(first|(go_at_call 49;refine(T_any _).mono ?_;rintro e wp ⟨A,c,A',c',rfl,HP,hbp⟩)|(go_at_call 51;refine(turns_T HP.out).mono ?_;rintro e wf ⟨B10,d10,rfl,H10,hbf⟩))
  have HB10:Aside0 (Below w9.heap.size w9 wf):=⟨below_step hbp hbf⟩;obtain⟨w10,hw10⟩:∃w10,wf=w10:=⟨_,rfl⟩;rw[hw10] at HB10 H10⊢;clear hw10 hbp hbf HP
  go_upto_region 12 with(first|(go_at_call 49;refine(T_any _).mono ?_;rintro e wp ⟨A,c,A',c',rfl,HP,hbp⟩)|(go_at_call 52;refine(swaps_T HP.out).mono ?_;rintro e wf ⟨rfl,hbf⟩))
  have HB11:Aside0 (Below w10.heap.size w10 wf):=⟨below_step hbp hbf⟩;obtain⟨w11,hw11⟩:∃w11,wf=w11:=⟨_,rfl⟩;rw[hw11] at HB11⊢;clear hw11 hbp hbf HP;have HT11:=aM (HT.out.below (below_step HB1.out (below_step HB2.out (below_step HB3.out (below_step HB4.out (below_step HB5.out (below_step HB6.out (below_step HB7.out (below_step HB8.out (below_step HB9.out (below_step HB10.out (HB11.out))))))))))))
  go_upto_region 13 with(go_at_call 53;refine(read_K _ HT11.out).mono ?_;rintro e wf ⟨B12,d12,B12',d12',rfl,H12,hbf⟩)
  obtain⟨w12,hw12⟩:∃w12,wf.alloc (.cells #[.int .i64 1,.slice B12 0 d12,.slice B12' 1 d12'] 25)=w12:=⟨_,rfl⟩;have X12:Aside0 (w12.heap[wf.heap.size]? =some (.cells #[.int .i64 1,.slice B12 0 d12,.slice B12' 1 d12'] 25 (0,0))):=⟨by rw[← hw12];exact blk_new _ _⟩;have Y12:Aside0 (At' k85 w12 B12 0 d12 []∧At' k50 w12 B12' 1 d12' [⟨0,1,0⟩]):=⟨by rw[← hw12];exact⟨H12.out.1.below ((Below.refl _ _).alloc (Nat.le_refl _) _),H12.out.2.below ((Below.refl _ _).alloc (Nat.le_refl _) _)⟩⟩;have HB12:Aside0 (Below w11.heap.size w11 w12):=⟨by rw[← hw12];exact below_step hbf ((Below.refl _ _).alloc (Nat.le_refl _) _)⟩;(try rw[hw12]);generalize wf.heap.size=b12 at X12⊢;clear hw12 hbf H12 HT11 HT;have L11:=HB12.out;have L10:=below_step HB11.out L11;have L9:=below_step HB10.out L10;have L8:=below_step HB9.out L9;have L7:=below_step HB8.out L8;have L6:=below_step HB7.out L7;have L5:=below_step HB6.out L6;have L4:=below_step HB5.out L5;have L3:=below_step HB4.out L4;have L2:=below_step HB3.out L3;have L1:=below_step HB2.out L2;have L0:=below_step HB1.out L1;have Y1:=aM (H1.out.below L1);have Y2:=aM (H2.out.below L2);have Y5:=aM (H5.out.below L5);have Y6:=aM (H6.out.below L6);have Y9:=aM (H9.out.below L9);have Y10:=aM (H10.out.below L10);have HL0:=aM L0;clear L0 L1 L2 L3 L4 L5 L6 L7 L8 L9 L10 L11 H1 H2 H5 H6 H9 H10 HB1 HB2 HB3 HB4 HB5 HB6 HB7 HB8 HB9 HB10 HB11 HB12
  go_wp2_with (first|(go_at_call 18;(with_reducible refine(same_any B1 (some ⟨w12.heap.size,0,none⟩) d1 4 4 4 [3,3,4,0] [3,3,4,0] _ (Y1.out.below ((Below.refl _ _).alloc (Nat.le_refl _) _)) ⟨C_ints w12 _ [3,3,4,0] (by decide),Nat.le_refl _⟩ true (by kernel_rfl)).mono ?_);rintro e w13 ⟨rfl,hb⟩;have HC13:Aside0 (Below w12.heap.size w12 w13):=⟨below_then ((Below.refl _ _).alloc (Nat.le_refl _) _) (by simp) hb⟩;clear hb)|(go_at_call 18;(with_reducible refine(same_any B2 (some ⟨w13.heap.size,0,none⟩) d2 4 4 4 [1,1,6,2] [1,1,6,2] _ (Y2.out.below (below_step HC13.out ((Below.refl _ _).alloc (Nat.le_refl _) _))) ⟨C_ints w13 _ [1,1,6,2] (by decide),Nat.le_refl _⟩ true (by kernel_rfl)).mono ?_);rintro e w14 ⟨rfl,hb⟩;have HC14:Aside0 (Below w12.heap.size w12 w14):=⟨below_step HC13.out (below_then ((Below.refl _ _).alloc (Nat.le_refl _) _) (by simp) hb)⟩;clear hb)|(go_at_call 18;(with_reducible refine(same_any B5 (some ⟨w14.heap.size,0,none⟩) d5 1 1 1 [1] [1] _ (Y5.out.below (below_step HC14.out ((Below.refl _ _).alloc (Nat.le_refl _) _))) ⟨C_ints w14 _ [1] (by decide),Nat.le_refl _⟩ true (by kernel_rfl)).mono ?_);rintro e w15 ⟨rfl,hb⟩;have HC15:Aside0 (Below w12.heap.size w12 w15):=⟨below_step HC14.out (below_then ((Below.refl _ _).alloc (Nat.le_refl _) _) (by simp) hb)⟩;clear hb)|(go_at_call 41;refine(sameSpans_any B6 d6 w15 (Y6.out.below (below_step HC15.out ((Below.refl _ _).alloc (Nat.le_refl _) _)))).mono ?_;rintro e w16 ⟨rfl,hb⟩;have HC16:Aside0 (Below w12.heap.size w12 w16):=⟨below_step HC15.out hb⟩;clear hb)|(go_at_call 18;(with_reducible refine(same_any B9 (some ⟨w16.heap.size,0,none⟩) d9 1 1 1 [1] [1] _ (Y9.out.below (below_step HC16.out ((Below.refl _ _).alloc (Nat.le_refl _) _))) ⟨C_ints w16 _ [1] (by decide),Nat.le_refl _⟩ true (by kernel_rfl)).mono ?_);rintro e w17 ⟨rfl,hb⟩;have HC17:Aside0 (Below w12.heap.size w12 w17):=⟨below_step HC16.out (below_then ((Below.refl _ _).alloc (Nat.le_refl _) _) (by simp) hb)⟩;clear hb)|(go_at_call 54;refine(samePlans_any B10 d10 w17 (Y10.out.below HC17.out)).mono ?_;rintro e w18 ⟨rfl,hb⟩;have HC18:Aside0 (Below w12.heap.size w12 w18):=⟨below_step HC17.out hb⟩;clear hb;have hx12:=blk_below X12.out HC18.out;have z120:=(blk_cell hx12 0).trans rfl;have z121:=(blk_cell hx12 1).trans rfl;have z122:=(blk_cell hx12 2).trans rfl;clear hx12)|(go_at_call 55;refine(print_K ⟨Y12.out.1.below HC18.out,Y12.out.2.below HC18.out⟩).mono ?_;rintro e w19 ⟨rfl,hb⟩))
  go_ret;refine⟨?_,below_step HL0.out (below_step HC18.out hb)⟩
  show Ending.returned (Value.bool (knownText.toList==_))=_
  rw[Lib.toList_data]
  rfl
end Go.Proofs.YtjioobfeikbffaaGreatDoor.K
end
section
namespace Go.Proofs.YtjioobfeikbffaaGreatDoor.K
open Go.RowKit Go.Proofs.YtjioobfeikbffaaGreatDoorW.PrintWords Go.Proofs.YtjioobfeikbffaaGreatDoorW.PrintLast Go.Proofs.YtjioobfeikbffaaGreatDoorW.PrintMore
def quinarialaw07_known.f (_:Nat):Option Bool:=some true
theorem quinarialaw07_known.calls (k:Nat) (r:Bool) (w:World) (hT:TabW w) (h:quinarialaw07_known.f k=some r):
    Calls Tryz.prog 14 #[] w fun e w'=>e=.returned (.bool r)∧Below w.heap.size w w':=by
  obtain rfl:true=r:=Option.some.inj h;exact known_any w hT
end Go.Proofs.YtjioobfeikbffaaGreatDoor.K
end
section
namespace Go.Proofs.YtjioobfeikbffaaGreatDoor.K
open Go.RowKit Go.Proofs.YtjioobfeikbffaaGreatDoorW.PrintWords Go.Proofs.YtjioobfeikbffaaGreatDoorW.PrintLast Go.Proofs.YtjioobfeikbffaaGreatDoorW.PrintMore
attribute [local go_sem] max2_int min2_int max_two min_two max_three min_three max_four min_four
def quinariaref07_in.f (a0:Int) (a1:Int) (a2:Int):Option (Bool):=if a0≥a1 then(some (decide (a0≤a2))) else(some false)
set_option maxHeartbeats 8000000 in
set_option maxRecDepth 100000 in
theorem quinariaref07_in.calls (a0:Int) (a1:Int) (a2:Int) (r:Bool) (w:World) (h:quinariaref07_in.f a0 a1 a2=some r):
  Calls Tryz.prog 61 #[.int .i64 a0,.int .i64 a1,.int .i64 a2] w fun e w'=>e=.returned (.bool r)∧Drawn0 w w':=by
 have H:(if a0≥a1 then(some (decide (a0≤a2))) else(some false))=some r:=h;clear h
 by_cases c4:a0≥a1
 ·rw[if_pos c4] at H;replace c4:=decide_eq_true c4;obtain rfl:=Option.some.inj H
  go_enter Tryz.func61,Tryz.ntmps61
  go_wp2;go_ret;exact⟨u0,by repeat(first|exact Drawn0.refl _|apply Drawn0.step)⟩
 ·rw[if_neg c4] at H;replace c4:=decide_eq_false c4;obtain rfl:=Option.some.inj H
  go_enter Tryz.func61,Tryz.ntmps61
  go_wp2;go_ret;exact⟨u0,by repeat(first|exact Drawn0.refl _|apply Drawn0.step)⟩
def quinariaref07_Class.f (a0:Int):Option (Bool):=(quinariaref07_in.f a0 0 3).bind fun t606=>(some t606)
set_option maxHeartbeats 8000000 in
set_option maxRecDepth 100000 in
theorem quinariaref07_Class.calls (a0:Int) (r:Bool) (w:World) (h:quinariaref07_Class.f a0=some r):
  Calls Tryz.prog 23 #[.int .i64 a0] w fun e w'=>e=.returned (.bool r)∧Drawn0 w w':=by
 have H:((quinariaref07_in.f a0 0 3).bind fun t606=>(some t606))=some r:=h;clear h;replace H:=Option.bind_eq_some_iff.mp H;obtain⟨t606,A20,H⟩:=H;replace H:(some t606)=some r:=H;have A2:=aM A20;clear A20;obtain rfl:=Option.some.inj H
 go_enter Tryz.func23,Tryz.ntmps23
 go_wp2_with (first|((with_reducible refine gate_callee (f:=61) rfl ?_);refine goesL_ (some 4) rfl rfl Tryz.func61 (by kernel_rfl) rfl #[.int .i64 a0,.int .i64 0,.int .i64 3] rfl uM ?_;(with_reducible refine(quinariaref07_in.calls a0 0 3 t606 _ A2.out).mono ?_);rintro e w' ⟨rfl,⟨nd,rfl⟩⟩;refine⟨_,rfl,?_⟩))
 go_ret;exact⟨u0,by repeat(first|exact Drawn0.refl _|apply Drawn0.step)⟩
def quinariaref07_Node.f (a0_0:Int) (l0_1:List (S85)) (l0_2:List (S50)) (a1:Int):Option (Bool):=(quinariaref07_in.f a1 0 (l0_1.length:Int)).bind fun t608=>(some t608)
set_option maxHeartbeats 8000000 in
set_option maxRecDepth 100000 in
theorem quinariaref07_Node.calls (a0_0:Int) (A0_1:Option Addr) (c0_1:Nat) (l0_1:List (S85)) (A0_2:Option Addr) (c0_2:Nat) (l0_2:List (S50)) (a1:Int) (r:Bool) (w:World) (hr0_1:Kd.C k85 w A0_1 l0_1.length l0_1) (hc0_1:l0_1.length≤c0_1) (hr0_2:Kd.C k50 w A0_2 l0_2.length l0_2) (hc0_2:l0_2.length≤c0_2) (h:quinariaref07_Node.f a0_0 l0_1 l0_2 a1=some r):
  Calls Tryz.prog 30 #[.agg #[.int .i64 a0_0,.slice A0_1 l0_1.length c0_1,.slice A0_2 l0_2.length c0_2],.int .i64 a1] w fun e w'=>e=.returned (.bool r)∧Below w.heap.size w w':=by
 have hu25:=Tryz.underlying25;have HR0_1:=aM hr0_1;have HC0_1:=aM hc0_1;clear hr0_1 hc0_1;have HR0_2:=aM hr0_2;have HC0_2:=aM hc0_2;clear hr0_2 hc0_2;have HB:=aM (Below.refl w.heap.size w);have H:((quinariaref07_in.f a1 0 (l0_1.length:Int)).bind fun t608=>(some t608))=some r:=h;clear h;replace H:=Option.bind_eq_some_iff.mp H;obtain⟨t608,A30,H⟩:=H;replace H:(some t608)=some r:=H;have A3:=aM A30;clear A30;obtain rfl:=Option.some.inj H
 go_enter Tryz.func30,Tryz.ntmps30
 go_wp2_with (first|((with_reducible refine gate_dst (N:=2) rfl ?_);refine bxe 2 #[.int .i64 a0_0,.slice A0_1 l0_1.length c0_1,.slice A0_2 l0_2.length c0_2] 25 ?_;intro gb607 hg w4 hbox hb;have n0_:=aM (below_step uB hb);have n1_:=aM (hbox);have n2_:=gw hg;have n3_:=gw hg;clear HB;have HB:=n0_;have BK607:=n1_;have GW607:=n2_;have GE607:=n3_;clear n0_ n1_ n2_ n3_;clear hb hbox hg;obtain⟨hcz5_0,hcz5_1,hcz5_2⟩:=cz3 BK607.out;obtain⟨hfz5_0,hfz5_1,hfz5_2⟩:=fz3 BK607.out)|((with_reducible refine gate_callee (f:=61) rfl ?_);refine goesL_ (some 9) rfl rfl Tryz.func61 (by kernel_rfl) rfl #[.int .i64 a1,.int .i64 0,.int .i64 (l0_1.length:Int)] rfl uM ?_;(with_reducible refine(quinariaref07_in.calls a1 0 (l0_1.length:Int) t608 _ A3.out).mono ?_);rintro e w' ⟨rfl,⟨nd,rfl⟩⟩;refine⟨_,rfl,?_⟩))
 go_ret;exact⟨uE,uB⟩
def quinariaref07_Cups.f (a0:Int):Option (Bool):=(quinariaref07_in.f a0 0 200).bind fun t609=>(some t609)
set_option maxHeartbeats 8000000 in
set_option maxRecDepth 100000 in
theorem quinariaref07_Cups.calls (a0:Int) (r:Bool) (w:World) (h:quinariaref07_Cups.f a0=some r):
  Calls Tryz.prog 40 #[.int .i64 a0] w fun e w'=>e=.returned (.bool r)∧Drawn0 w w':=by
 have H:((quinariaref07_in.f a0 0 200).bind fun t609=>(some t609))=some r:=h;clear h;replace H:=Option.bind_eq_some_iff.mp H;obtain⟨t609,A20,H⟩:=H;replace H:(some t609)=some r:=H;have A2:=aM A20;clear A20;obtain rfl:=Option.some.inj H
 go_enter Tryz.func40,Tryz.ntmps40
 go_wp2_with (first|((with_reducible refine gate_callee (f:=61) rfl ?_);refine goesL_ (some 4) rfl rfl Tryz.func61 (by kernel_rfl) rfl #[.int .i64 a0,.int .i64 0,.int .i64 200] rfl uM ?_;(with_reducible refine(quinariaref07_in.calls a0 0 200 t609 _ A2.out).mono ?_);rintro e w' ⟨rfl,⟨nd,rfl⟩⟩;refine⟨_,rfl,?_⟩))
 go_ret;exact⟨u0,by repeat(first|exact Drawn0.refl _|apply Drawn0.step)⟩
mutual
def quinariaref07_Tree.l0:Nat→Int→Int→List (S85)→List (S50)→Option (Bool)
 |0,_,_,_,_=>none
 |k+1,x3,x611000,x611001,x611002=>if x3<(x611001.length:Int) then(if 0≤x3 then((quinariaref07_in.f ((rd_T85 x611001 x3).f0) 0 x3).bind fun t612=>(if t612=true then((quinariaref07_Cups.f ((rd_T85 x611001 x3).f1)).bind fun t614=>(if t614=true then(quinariaref07_Tree.l0 k (wrap64 (x3+1)) x611000 x611001 x611002) else(some false))) else(some false))) else(none)) else(quinariaref07_Tree.l1 k 0 x611000 x611001 x611002)
def quinariaref07_Tree.l1:Nat→Int→Int→List (S85)→List (S50)→Option (Bool)
 |0,_,_,_,_=>none
 |k+1,x4,x611000,x611001,x611002=>if x4<(x611002.length:Int) then(if 0≤x4 then((quinariaref07_Node.f x611000 x611001 x611002 ((rd_T50 x611002 x4).f0)).bind fun t619=>(if t619=true then((quinariaref07_in.f ((rd_T50 x611002 x4).f1) 1 200).bind fun t620=>(if t620=true then((quinariaref07_Class.f ((rd_T50 x611002 x4).f2)).bind fun t621=>(if t621=true then(quinariaref07_Tree.l1 k (wrap64 (x4+1)) x611000 x611001 x611002) else(some false))) else(some false))) else(some false))) else(none)) else((quinariaref07_Cups.f x611000).bind fun t615=>(if t615=true then(if (x611001.length:Int)≤6 then((quinariaref07_in.f (x611002.length:Int) 1 8).bind fun t616=>(some t616)) else(some false)) else(some false)))
end
def quinariaref07_Tree.f (k:Nat) (a0_0:Int) (l0_1:List (S85)) (l0_2:List (S50)):Option (Bool):=quinariaref07_Tree.l0 k 0 a0_0 l0_1 l0_2
set_option maxHeartbeats 8000000 in
set_option maxRecDepth 100000 in
theorem quinariaref07_Tree.calls (k:Nat) (a0_0:Int) (A0_1:Option Addr) (c0_1:Nat) (l0_1:List (S85)) (A0_2:Option Addr) (c0_2:Nat) (l0_2:List (S50)) (r:Bool) (w:World) (hr0_1:Kd.C k85 w A0_1 l0_1.length l0_1) (hc0_1:l0_1.length≤c0_1) (hr0_2:Kd.C k50 w A0_2 l0_2.length l0_2) (hc0_2:l0_2.length≤c0_2) (h:quinariaref07_Tree.f k a0_0 l0_1 l0_2=some r):
  Calls Tryz.prog 17 #[.agg #[.int .i64 a0_0,.slice A0_1 l0_1.length c0_1,.slice A0_2 l0_2.length c0_2]] w fun e w'=>e=.returned (.bool r)∧Below w.heap.size w w':=by
 have hu25:=Tryz.underlying25;have hu50:=Tryz.underlying50;have HR0_1:=aM hr0_1;have HC0_1:=aM hc0_1;clear hr0_1 hc0_1;have HR0_2:=aM hr0_2;have HC0_2:=aM hc0_2;clear hr0_2 hc0_2;have HB:=aM (Below.refl w.heap.size w);have H:(quinariaref07_Tree.l0 k 0 a0_0 l0_1 l0_2)=some r:=h;clear h;have H':=aM H;clear H
 go_enter Tryz.func17,Tryz.ntmps17
 go_wp2_with (first|((with_reducible refine gate_dst (N:=1) rfl ?_);(try (refine gate_guard (by rfl) ?_;dsimp only));refine bxe 1 #[.int .i64 a0_0,.slice A0_1 l0_1.length c0_1,.slice A0_2 l0_2.length c0_2] 25 ?_;intro gb610 hg w2 hbox hb;have n0_:=aM (below_step uB hb);have n1_:=aM (hbox);have n2_:=gw hg;have n3_:=gw hg;clear HB;have HB:=n0_;have BK610:=n1_;have GW610:=n2_;have GE610:=n3_;clear n0_ n1_ n2_ n3_;clear hb hbox hg))
 go_loopg [3] k (fun kq v3 w'=>∃(x3_1:Int),v3=.int .i64 x3_1∧Aside0 (quinariaref07_Tree.l0 kq x3_1 a0_0 l0_1 l0_2=some r)∧Aside0 (kq≤k)∧Aside0 (w'.heap[gb610]? =some (.cells #[.int .i64 a0_0,(.slice A0_1 l0_1.length c0_1),(.slice A0_2 l0_2.length c0_2)] 25 (0,0)))∧Aside0 (Below w.heap.size w w'))
 case atStart=>exact⟨(0),u0,H',⟨Nat.le_refl _⟩,⟨uK BK610.out⟩,⟨uB⟩⟩
 case round=>
  clear H';obtain⟨x3_1,rfl,HA,HK1,BK610,HB⟩:=hrel
  cases gk with
  |zero=>exact absurd HA.out (by simp[quinariaref07_Tree.l0])
  |succ k1=>
   have H:=HA.out;clear HA;simp only[quinariaref07_Tree.l0] at H
   by_cases c3:x3_1<(l0_1.length:Int)
   ·rw[if_pos c3] at H;replace c3:=decide_eq_true c3;obtain⟨c4,H⟩:=ifs H;replace c4:=decide_eq_true c4;replace H:=Option.bind_eq_some_iff.mp H;obtain⟨t612,A50,H⟩:=H;replace H:(if t612=true then((quinariaref07_Cups.f ((rd_T85 l0_1 x3_1).f1)).bind fun t614=>(if t614=true then(quinariaref07_Tree.l0 k1 (wrap64 (x3_1+1)) a0_0 l0_1 l0_2) else(some false))) else(some false))=some r:=H;have A5:=aM A50;clear A50
    by_cases c6:t612=true
    ·subst c6;have H1:((quinariaref07_Cups.f ((rd_T85 l0_1 x3_1).f1)).bind fun t614=>(if t614=true then(quinariaref07_Tree.l0 k1 (wrap64 (x3_1+1)) a0_0 l0_1 l0_2) else(some false)))=some r:=by rw[if_pos rfl] at H;exact H
     clear H;have H:=H1;clear H1;replace H:=Option.bind_eq_some_iff.mp H;obtain⟨t614,A70,H⟩:=H;replace H:(if t614=true then(quinariaref07_Tree.l0 k1 (wrap64 (x3_1+1)) a0_0 l0_1 l0_2) else(some false))=some r:=H;have A7:=aM A70;clear A70
     by_cases c8:t614=true
     ·subst c8;have H1:(quinariaref07_Tree.l0 k1 (wrap64 (x3_1+1)) a0_0 l0_1 l0_2)=some r:=by rw[if_pos rfl] at H;exact H
      clear H;have H:=H1;clear H1;have H':=aM H;clear H;obtain⟨hcz9_0,hcz9_1,hcz9_2⟩:=cz3 BK610.out;obtain⟨hfz9_0,hfz9_1,hfz9_2⟩:=fz3 BK610.out;have p611:0≤(x3_1:Int):=uD;have q611:x3_1<(l0_1.length:Int):=uD;obtain⟨ad611,e611,hx611_0,hx611_1⟩:=at_T85 HR0_1.out x3_1 p611 q611
      cases e611
      replace hx611_0:=hcell HB.out hx611_0;replace hx611_1:=hcell HB.out hx611_1;replace p611:=eq_true p611;replace q611:=eq_true q611
      go_wp2_with (first|((with_reducible refine gate_callee (f:=61) rfl ?_);refine goesL_ (some 20) rfl rfl Tryz.func61 (by kernel_rfl) rfl #[.int .i64 ((rd_T85 l0_1 x3_1).f0),.int .i64 0,.int .i64 x3_1] rfl uM ?_;(with_reducible refine(quinariaref07_in.calls ((rd_T85 l0_1 x3_1).f0) 0 x3_1 true _ A5.out).mono ?_);rintro e w' ⟨rfl,⟨nd,rfl⟩⟩;refine⟨_,rfl,?_⟩;have p613:0≤(x3_1:Int):=uD;have q613:x3_1<(l0_1.length:Int):=uD;obtain⟨ad613,e613,hx613_0,hx613_1⟩:=at_T85 HR0_1.out x3_1 p613 q613;obtain rfl:ad611=ad613:=(by injection e613);replace hx613_0:=hcell HB.out hx613_0;replace hx613_1:=hcell HB.out hx613_1;replace p613:=eq_true p613;replace q613:=eq_true q613)|(go_at_call 40;(with_reducible refine(quinariaref07_Cups.calls ((rd_T85 l0_1 x3_1).f1) true _ A7.out).mono ?_);rintro e w' ⟨rfl,⟨nd,rfl⟩⟩))
      go_roundg k1
      case measure=>have:=HK1.out;omega
      case rel=>exact⟨(wrap64 (x3_1+1)),u0,H',⟨by have:=HK1.out;omega⟩,⟨uK BK610.out⟩,⟨uB⟩⟩
     ·replace c8:=Bool.eq_false_iff.mpr c8;subst c8;have H1:(some false)=some r:=by rw[if_neg (show ¬(false=true) by decide)] at H;exact H
      clear H;have H:=H1;clear H1;obtain rfl:=Option.some.inj H;obtain⟨hcz10_0,hcz10_1,hcz10_2⟩:=cz3 BK610.out;obtain⟨hfz10_0,hfz10_1,hfz10_2⟩:=fz3 BK610.out;have p611:0≤(x3_1:Int):=uD;have q611:x3_1<(l0_1.length:Int):=uD;obtain⟨ad611,e611,hx611_0,hx611_1⟩:=at_T85 HR0_1.out x3_1 p611 q611
      cases e611
      replace hx611_0:=hcell HB.out hx611_0;replace hx611_1:=hcell HB.out hx611_1;replace p611:=eq_true p611;replace q611:=eq_true q611
      go_wp2_with (first|((with_reducible refine gate_callee (f:=61) rfl ?_);refine goesL_ (some 20) rfl rfl Tryz.func61 (by kernel_rfl) rfl #[.int .i64 ((rd_T85 l0_1 x3_1).f0),.int .i64 0,.int .i64 x3_1] rfl uM ?_;(with_reducible refine(quinariaref07_in.calls ((rd_T85 l0_1 x3_1).f0) 0 x3_1 true _ A5.out).mono ?_);rintro e w' ⟨rfl,⟨nd,rfl⟩⟩;refine⟨_,rfl,?_⟩;have p613:0≤(x3_1:Int):=uD;have q613:x3_1<(l0_1.length:Int):=uD;obtain⟨ad613,e613,hx613_0,hx613_1⟩:=at_T85 HR0_1.out x3_1 p613 q613;obtain rfl:ad611=ad613:=(by injection e613);replace hx613_0:=hcell HB.out hx613_0;replace hx613_1:=hcell HB.out hx613_1;replace p613:=eq_true p613;replace q613:=eq_true q613)|(go_at_call 40;(with_reducible refine(quinariaref07_Cups.calls ((rd_T85 l0_1 x3_1).f1) false _ A7.out).mono ?_);rintro e w' ⟨rfl,⟨nd,rfl⟩⟩))
      go_ret;exact⟨uE,uB⟩
    ·replace c6:=Bool.eq_false_iff.mpr c6;subst c6;have H1:(some false)=some r:=by rw[if_neg (show ¬(false=true) by decide)] at H;exact H
     clear H;have H:=H1;clear H1;obtain rfl:=Option.some.inj H;obtain⟨hcz11_0,hcz11_1,hcz11_2⟩:=cz3 BK610.out;obtain⟨hfz11_0,hfz11_1,hfz11_2⟩:=fz3 BK610.out;have p611:0≤(x3_1:Int):=uD;have q611:x3_1<(l0_1.length:Int):=uD;obtain⟨ad611,e611,hx611_0,hx611_1⟩:=at_T85 HR0_1.out x3_1 p611 q611
     cases e611
     replace hx611_0:=hcell HB.out hx611_0;replace hx611_1:=hcell HB.out hx611_1;replace p611:=eq_true p611;replace q611:=eq_true q611
     go_wp2_with (first|((with_reducible refine gate_callee (f:=61) rfl ?_);refine goesL_ (some 20) rfl rfl Tryz.func61 (by kernel_rfl) rfl #[.int .i64 ((rd_T85 l0_1 x3_1).f0),.int .i64 0,.int .i64 x3_1] rfl uM ?_;(with_reducible refine(quinariaref07_in.calls ((rd_T85 l0_1 x3_1).f0) 0 x3_1 false _ A5.out).mono ?_);rintro e w' ⟨rfl,⟨nd,rfl⟩⟩;refine⟨_,rfl,?_⟩))
     go_ret;exact⟨uE,uB⟩
   ·rw[if_neg c3] at H;replace c3:=decide_eq_false c3;have H':=aM H;clear H;obtain⟨hcz12_0,hcz12_1,hcz12_2⟩:=cz3 BK610.out;obtain⟨hfz12_0,hfz12_1,hfz12_2⟩:=fz3 BK610.out;go_wp2
    go_loopg [4] k1 (fun kq v4 w'=>∃(x4_2:Int),v4=.int .i64 x4_2∧Aside0 (quinariaref07_Tree.l1 kq x4_2 a0_0 l0_1 l0_2=some r)∧Aside0 (kq≤k1)∧Aside0 (w'.heap[gb610]? =some (.cells #[.int .i64 a0_0,(.slice A0_1 l0_1.length c0_1),(.slice A0_2 l0_2.length c0_2)] 25 (0,0)))∧Aside0 (Below w.heap.size w w'))
    case atStart=>exact⟨(0),u0,H',⟨Nat.le_refl _⟩,⟨uK BK610.out⟩,⟨uB⟩⟩
    case round=>
     clear H';obtain⟨x4_2,rfl,HA,HK2,BK610,HB⟩:=hrel
     cases gk with
     |zero=>exact absurd HA.out (by simp[quinariaref07_Tree.l1])
     |succ k2=>
      have H:=HA.out;clear HA;simp only[quinariaref07_Tree.l1] at H
      by_cases c13:x4_2<(l0_2.length:Int)
      ·rw[if_pos c13] at H;replace c13:=decide_eq_true c13;obtain⟨c14,H⟩:=ifs H;replace c14:=decide_eq_true c14;replace H:=Option.bind_eq_some_iff.mp H;obtain⟨t619,A150,H⟩:=H;replace H:(if t619=true then((quinariaref07_in.f ((rd_T50 l0_2 x4_2).f1) 1 200).bind fun t620=>(if t620=true then((quinariaref07_Class.f ((rd_T50 l0_2 x4_2).f2)).bind fun t621=>(if t621=true then(quinariaref07_Tree.l1 k2 (wrap64 (x4_2+1)) a0_0 l0_1 l0_2) else(some false))) else(some false))) else(some false))=some r:=H;have A15:=aM A150;clear A150
       by_cases c16:t619=true
       ·subst c16;have H1:((quinariaref07_in.f ((rd_T50 l0_2 x4_2).f1) 1 200).bind fun t620=>(if t620=true then((quinariaref07_Class.f ((rd_T50 l0_2 x4_2).f2)).bind fun t621=>(if t621=true then(quinariaref07_Tree.l1 k2 (wrap64 (x4_2+1)) a0_0 l0_1 l0_2) else(some false))) else(some false)))=some r:=by rw[if_pos rfl] at H;exact H
        clear H;have H:=H1;clear H1;replace H:=Option.bind_eq_some_iff.mp H;obtain⟨t620,A170,H⟩:=H;replace H:(if t620=true then((quinariaref07_Class.f ((rd_T50 l0_2 x4_2).f2)).bind fun t621=>(if t621=true then(quinariaref07_Tree.l1 k2 (wrap64 (x4_2+1)) a0_0 l0_1 l0_2) else(some false))) else(some false))=some r:=H;have A17:=aM A170;clear A170
        by_cases c18:t620=true
        ·subst c18;have H1:((quinariaref07_Class.f ((rd_T50 l0_2 x4_2).f2)).bind fun t621=>(if t621=true then(quinariaref07_Tree.l1 k2 (wrap64 (x4_2+1)) a0_0 l0_1 l0_2) else(some false)))=some r:=by rw[if_pos rfl] at H;exact H
         clear H;have H:=H1;clear H1;replace H:=Option.bind_eq_some_iff.mp H;obtain⟨t621,A190,H⟩:=H;replace H:(if t621=true then(quinariaref07_Tree.l1 k2 (wrap64 (x4_2+1)) a0_0 l0_1 l0_2) else(some false))=some r:=H;have A19:=aM A190;clear A190
         by_cases c20:t621=true
         ·subst c20;have H1:(quinariaref07_Tree.l1 k2 (wrap64 (x4_2+1)) a0_0 l0_1 l0_2)=some r:=by rw[if_pos rfl] at H;exact H
          clear H;have H:=H1;clear H1;have H':=aM H;clear H;obtain⟨hcz21_0,hcz21_1,hcz21_2⟩:=cz3 BK610.out;obtain⟨hfz21_0,hfz21_1,hfz21_2⟩:=fz3 BK610.out;have p617:0≤(x4_2:Int):=uD;have q617:x4_2<(l0_2.length:Int):=uD;obtain⟨ad617,e617,hx617_0,hx617_1,hx617_2⟩:=at_T50 HR0_2.out x4_2 p617 q617
          cases e617
          replace hx617_0:=hcell HB.out hx617_0;replace hx617_1:=hcell HB.out hx617_1;replace hx617_2:=hcell HB.out hx617_2;replace p617:=eq_true p617;replace q617:=eq_true q617
          go_wp2_with (first|((with_reducible refine gate_dst (N:=5) rfl ?_);(try (refine gate_guard (by rfl) ?_;dsimp only));refine bxe 5 #[.int .i64 0,.int .i64 0,.int .i64 0] 50 ?_;intro gb618 hg w22 hbox hb;have n0_:=aM (blk_below (uK BK610.out) hb);have n1_:=aM (below_step uB hb);have n2_:=aM (hbox);have n3_:=gw hg;have n4_:=gw hg;have n5_:=nb BK610 hg;have n6_:=nc BK610 hg;clear BK610;clear HB;have BK610:=n0_;have HB:=n1_;have BK618:=n2_;have GW618:=n3_;have GE618:=n4_;have NB610_618:=n5_;have NB618_610:=n6_;clear n0_ n1_ n2_ n3_ n4_ n5_ n6_;clear hb hbox hg;have hnb23:=NB618_610.out;have hnc23:=NB610_618.out;obtain⟨hcz24_0,hcz24_1,hcz24_2⟩:=cz3 BK618.out;obtain⟨hfz24_0,hfz24_1,hfz24_2⟩:=fz3 BK618.out;obtain⟨hcz25_0,hcz25_1,hcz25_2⟩:=cz3 BK610.out;obtain⟨hfz25_0,hfz25_1,hfz25_2⟩:=fz3 BK610.out)|((with_reducible refine gate_callee (f:=30) rfl ?_);refine goesL_ (some 47) rfl rfl Tryz.func30 (by kernel_rfl) rfl #[.agg #[.int .i64 a0_0,.slice A0_1 l0_1.length c0_1,.slice (some ad617) l0_2.length c0_2],.int .i64 ((rd_T50 l0_2 x4_2).f0)] rfl uM ?_;(with_reducible refine(quinariaref07_Node.calls a0_0 _ _ l0_1 _ _ l0_2 ((rd_T50 l0_2 x4_2).f0) true _ ?side1 ?side2 ?side3 ?side4 A15.out).mono ?_);(case side1=>exact Kd.C_below HR0_1.out uB);(case side2=>exact HC0_1.out);(case side3=>exact Kd.C_below HR0_2.out uB);(case side4=>exact HC0_2.out);rintro e w26 ⟨rfl,hb⟩;refine⟨_,rfl,?_⟩;replace BK610:=aM (blk_below (g:=gb610) (o:=.cells #[.int .i64 a0_0,.slice A0_1 l0_1.length c0_1,.slice (some ad617) l0_2.length c0_2] 25 (0,0)) (by refine uK ?_;refine blk_far ?_ NB610_618.out _;refine uK ?_;refine blk_far ?_ NB610_618.out _;refine uK ?_;refine blk_far ?_ NB610_618.out _;refine uK ?_;exact BK610.out) hb);replace BK618:=aM (blk_below (g:=gb618) (o:=.cells #[.int .i64 ((rd_T50 l0_2 x4_2).f0),.int .i64 ((rd_T50 l0_2 x4_2).f1),.int .i64 ((rd_T50 l0_2 x4_2).f2)] 50 (0,0)) (by refine uK ?_;refine blk_put (cs:=#[.int .i64 ((rd_T50 l0_2 x4_2).f0),.int .i64 ((rd_T50 l0_2 x4_2).f1),.int .i64 0]) ?_ 2 _ rfl;refine uK ?_;refine blk_put (cs:=#[.int .i64 ((rd_T50 l0_2 x4_2).f0),.int .i64 0,.int .i64 0]) ?_ 1 _ rfl;refine uK ?_;refine blk_put (cs:=#[.int .i64 0,.int .i64 0,.int .i64 0]) ?_ 0 _ rfl;refine uK ?_;exact BK618.out) hb);replace HB:=aM (below_step uB hb);(try clear hb);(try clear hb2);(try clear hk);(try clear hi);obtain⟨hcz27_0,hcz27_1,hcz27_2⟩:=cz3 BK618.out;obtain⟨hfz27_0,hfz27_1,hfz27_2⟩:=fz3 BK618.out)|(go_at_call 61;(with_reducible refine(quinariaref07_in.calls ((rd_T50 l0_2 x4_2).f1) 1 200 true _ A17.out).mono ?_);rintro e w' ⟨rfl,⟨nd,rfl⟩⟩)|(go_at_call 23;(with_reducible refine(quinariaref07_Class.calls ((rd_T50 l0_2 x4_2).f2) true _ A19.out).mono ?_);rintro e w' ⟨rfl,⟨nd,rfl⟩⟩))
          go_roundg k2
          case measure=>have:=HK1.out;have:=HK2.out;omega
          case rel=>exact⟨(wrap64 (x4_2+1)),u0,H',⟨by have:=HK1.out;have:=HK2.out;omega⟩,⟨uK BK610.out⟩,⟨uB⟩⟩
         ·replace c20:=Bool.eq_false_iff.mpr c20;subst c20;have H1:(some false)=some r:=by rw[if_neg (show ¬(false=true) by decide)] at H;exact H
          clear H;have H:=H1;clear H1;obtain rfl:=Option.some.inj H;obtain⟨hcz28_0,hcz28_1,hcz28_2⟩:=cz3 BK610.out;obtain⟨hfz28_0,hfz28_1,hfz28_2⟩:=fz3 BK610.out;have p617:0≤(x4_2:Int):=uD;have q617:x4_2<(l0_2.length:Int):=uD;obtain⟨ad617,e617,hx617_0,hx617_1,hx617_2⟩:=at_T50 HR0_2.out x4_2 p617 q617
          cases e617
          replace hx617_0:=hcell HB.out hx617_0;replace hx617_1:=hcell HB.out hx617_1;replace hx617_2:=hcell HB.out hx617_2;replace p617:=eq_true p617;replace q617:=eq_true q617
          go_wp2_with (first|((with_reducible refine gate_dst (N:=5) rfl ?_);(try (refine gate_guard (by rfl) ?_;dsimp only));refine bxe 5 #[.int .i64 0,.int .i64 0,.int .i64 0] 50 ?_;intro gb618 hg w29 hbox hb;have n0_:=aM (blk_below (uK BK610.out) hb);have n1_:=aM (below_step uB hb);have n2_:=aM (hbox);have n3_:=gw hg;have n4_:=gw hg;have n5_:=nb BK610 hg;have n6_:=nc BK610 hg;clear BK610;clear HB;have BK610:=n0_;have HB:=n1_;have BK618:=n2_;have GW618:=n3_;have GE618:=n4_;have NB610_618:=n5_;have NB618_610:=n6_;clear n0_ n1_ n2_ n3_ n4_ n5_ n6_;clear hb hbox hg;have hnb30:=NB618_610.out;have hnc30:=NB610_618.out;obtain⟨hcz31_0,hcz31_1,hcz31_2⟩:=cz3 BK618.out;obtain⟨hfz31_0,hfz31_1,hfz31_2⟩:=fz3 BK618.out;obtain⟨hcz32_0,hcz32_1,hcz32_2⟩:=cz3 BK610.out;obtain⟨hfz32_0,hfz32_1,hfz32_2⟩:=fz3 BK610.out)|((with_reducible refine gate_callee (f:=30) rfl ?_);refine goesL_ (some 47) rfl rfl Tryz.func30 (by kernel_rfl) rfl #[.agg #[.int .i64 a0_0,.slice A0_1 l0_1.length c0_1,.slice (some ad617) l0_2.length c0_2],.int .i64 ((rd_T50 l0_2 x4_2).f0)] rfl uM ?_;(with_reducible refine(quinariaref07_Node.calls a0_0 _ _ l0_1 _ _ l0_2 ((rd_T50 l0_2 x4_2).f0) true _ ?side1 ?side2 ?side3 ?side4 A15.out).mono ?_);(case side1=>exact Kd.C_below HR0_1.out uB);(case side2=>exact HC0_1.out);(case side3=>exact Kd.C_below HR0_2.out uB);(case side4=>exact HC0_2.out);rintro e w33 ⟨rfl,hb⟩;refine⟨_,rfl,?_⟩;replace BK610:=aM (blk_below (g:=gb610) (o:=.cells #[.int .i64 a0_0,.slice A0_1 l0_1.length c0_1,.slice (some ad617) l0_2.length c0_2] 25 (0,0)) (by refine uK ?_;refine blk_far ?_ NB610_618.out _;refine uK ?_;refine blk_far ?_ NB610_618.out _;refine uK ?_;refine blk_far ?_ NB610_618.out _;refine uK ?_;exact BK610.out) hb);replace BK618:=aM (blk_below (g:=gb618) (o:=.cells #[.int .i64 ((rd_T50 l0_2 x4_2).f0),.int .i64 ((rd_T50 l0_2 x4_2).f1),.int .i64 ((rd_T50 l0_2 x4_2).f2)] 50 (0,0)) (by refine uK ?_;refine blk_put (cs:=#[.int .i64 ((rd_T50 l0_2 x4_2).f0),.int .i64 ((rd_T50 l0_2 x4_2).f1),.int .i64 0]) ?_ 2 _ rfl;refine uK ?_;refine blk_put (cs:=#[.int .i64 ((rd_T50 l0_2 x4_2).f0),.int .i64 0,.int .i64 0]) ?_ 1 _ rfl;refine uK ?_;refine blk_put (cs:=#[.int .i64 0,.int .i64 0,.int .i64 0]) ?_ 0 _ rfl;refine uK ?_;exact BK618.out) hb);replace HB:=aM (below_step uB hb);(try clear hb);(try clear hb2);(try clear hk);(try clear hi);obtain⟨hcz34_0,hcz34_1,hcz34_2⟩:=cz3 BK618.out;obtain⟨hfz34_0,hfz34_1,hfz34_2⟩:=fz3 BK618.out)|(go_at_call 61;(with_reducible refine(quinariaref07_in.calls ((rd_T50 l0_2 x4_2).f1) 1 200 true _ A17.out).mono ?_);rintro e w' ⟨rfl,⟨nd,rfl⟩⟩)|(go_at_call 23;(with_reducible refine(quinariaref07_Class.calls ((rd_T50 l0_2 x4_2).f2) false _ A19.out).mono ?_);rintro e w' ⟨rfl,⟨nd,rfl⟩⟩))
          go_ret;exact⟨uE,uB⟩
        ·replace c18:=Bool.eq_false_iff.mpr c18;subst c18;have H1:(some false)=some r:=by rw[if_neg (show ¬(false=true) by decide)] at H;exact H
         clear H;have H:=H1;clear H1;obtain rfl:=Option.some.inj H;obtain⟨hcz35_0,hcz35_1,hcz35_2⟩:=cz3 BK610.out;obtain⟨hfz35_0,hfz35_1,hfz35_2⟩:=fz3 BK610.out;have p617:0≤(x4_2:Int):=uD;have q617:x4_2<(l0_2.length:Int):=uD;obtain⟨ad617,e617,hx617_0,hx617_1,hx617_2⟩:=at_T50 HR0_2.out x4_2 p617 q617
         cases e617
         replace hx617_0:=hcell HB.out hx617_0;replace hx617_1:=hcell HB.out hx617_1;replace hx617_2:=hcell HB.out hx617_2;replace p617:=eq_true p617;replace q617:=eq_true q617
         go_wp2_with (first|((with_reducible refine gate_dst (N:=5) rfl ?_);(try (refine gate_guard (by rfl) ?_;dsimp only));refine bxe 5 #[.int .i64 0,.int .i64 0,.int .i64 0] 50 ?_;intro gb618 hg w36 hbox hb;have n0_:=aM (blk_below (uK BK610.out) hb);have n1_:=aM (below_step uB hb);have n2_:=aM (hbox);have n3_:=gw hg;have n4_:=gw hg;have n5_:=nb BK610 hg;have n6_:=nc BK610 hg;clear BK610;clear HB;have BK610:=n0_;have HB:=n1_;have BK618:=n2_;have GW618:=n3_;have GE618:=n4_;have NB610_618:=n5_;have NB618_610:=n6_;clear n0_ n1_ n2_ n3_ n4_ n5_ n6_;clear hb hbox hg;have hnb37:=NB618_610.out;have hnc37:=NB610_618.out;obtain⟨hcz38_0,hcz38_1,hcz38_2⟩:=cz3 BK618.out;obtain⟨hfz38_0,hfz38_1,hfz38_2⟩:=fz3 BK618.out;obtain⟨hcz39_0,hcz39_1,hcz39_2⟩:=cz3 BK610.out;obtain⟨hfz39_0,hfz39_1,hfz39_2⟩:=fz3 BK610.out)|((with_reducible refine gate_callee (f:=30) rfl ?_);refine goesL_ (some 47) rfl rfl Tryz.func30 (by kernel_rfl) rfl #[.agg #[.int .i64 a0_0,.slice A0_1 l0_1.length c0_1,.slice (some ad617) l0_2.length c0_2],.int .i64 ((rd_T50 l0_2 x4_2).f0)] rfl uM ?_;(with_reducible refine(quinariaref07_Node.calls a0_0 _ _ l0_1 _ _ l0_2 ((rd_T50 l0_2 x4_2).f0) true _ ?side1 ?side2 ?side3 ?side4 A15.out).mono ?_);(case side1=>exact Kd.C_below HR0_1.out uB);(case side2=>exact HC0_1.out);(case side3=>exact Kd.C_below HR0_2.out uB);(case side4=>exact HC0_2.out);rintro e w40 ⟨rfl,hb⟩;refine⟨_,rfl,?_⟩;replace BK610:=aM (blk_below (g:=gb610) (o:=.cells #[.int .i64 a0_0,.slice A0_1 l0_1.length c0_1,.slice (some ad617) l0_2.length c0_2] 25 (0,0)) (by refine uK ?_;refine blk_far ?_ NB610_618.out _;refine uK ?_;refine blk_far ?_ NB610_618.out _;refine uK ?_;refine blk_far ?_ NB610_618.out _;refine uK ?_;exact BK610.out) hb);replace BK618:=aM (blk_below (g:=gb618) (o:=.cells #[.int .i64 ((rd_T50 l0_2 x4_2).f0),.int .i64 ((rd_T50 l0_2 x4_2).f1),.int .i64 ((rd_T50 l0_2 x4_2).f2)] 50 (0,0)) (by refine uK ?_;refine blk_put (cs:=#[.int .i64 ((rd_T50 l0_2 x4_2).f0),.int .i64 ((rd_T50 l0_2 x4_2).f1),.int .i64 0]) ?_ 2 _ rfl;refine uK ?_;refine blk_put (cs:=#[.int .i64 ((rd_T50 l0_2 x4_2).f0),.int .i64 0,.int .i64 0]) ?_ 1 _ rfl;refine uK ?_;refine blk_put (cs:=#[.int .i64 0,.int .i64 0,.int .i64 0]) ?_ 0 _ rfl;refine uK ?_;exact BK618.out) hb);replace HB:=aM (below_step uB hb);(try clear hb);(try clear hb2);(try clear hk);(try clear hi);obtain⟨hcz41_0,hcz41_1,hcz41_2⟩:=cz3 BK618.out;obtain⟨hfz41_0,hfz41_1,hfz41_2⟩:=fz3 BK618.out)|(go_at_call 61;(with_reducible refine(quinariaref07_in.calls ((rd_T50 l0_2 x4_2).f1) 1 200 false _ A17.out).mono ?_);rintro e w' ⟨rfl,⟨nd,rfl⟩⟩))
         go_ret;exact⟨uE,uB⟩
       ·replace c16:=Bool.eq_false_iff.mpr c16;subst c16;have H1:(some false)=some r:=by rw[if_neg (show ¬(false=true) by decide)] at H;exact H
        clear H;have H:=H1;clear H1;obtain rfl:=Option.some.inj H;obtain⟨hcz42_0,hcz42_1,hcz42_2⟩:=cz3 BK610.out;obtain⟨hfz42_0,hfz42_1,hfz42_2⟩:=fz3 BK610.out;have p617:0≤(x4_2:Int):=uD;have q617:x4_2<(l0_2.length:Int):=uD;obtain⟨ad617,e617,hx617_0,hx617_1,hx617_2⟩:=at_T50 HR0_2.out x4_2 p617 q617
        cases e617
        replace hx617_0:=hcell HB.out hx617_0;replace hx617_1:=hcell HB.out hx617_1;replace hx617_2:=hcell HB.out hx617_2;replace p617:=eq_true p617;replace q617:=eq_true q617
        go_wp2_with (first|((with_reducible refine gate_dst (N:=5) rfl ?_);(try (refine gate_guard (by rfl) ?_;dsimp only));refine bxe 5 #[.int .i64 0,.int .i64 0,.int .i64 0] 50 ?_;intro gb618 hg w43 hbox hb;have n0_:=aM (blk_below (uK BK610.out) hb);have n1_:=aM (below_step uB hb);have n2_:=aM (hbox);have n3_:=gw hg;have n4_:=gw hg;have n5_:=nb BK610 hg;have n6_:=nc BK610 hg;clear BK610;clear HB;have BK610:=n0_;have HB:=n1_;have BK618:=n2_;have GW618:=n3_;have GE618:=n4_;have NB610_618:=n5_;have NB618_610:=n6_;clear n0_ n1_ n2_ n3_ n4_ n5_ n6_;clear hb hbox hg;have hnb44:=NB618_610.out;have hnc44:=NB610_618.out;obtain⟨hcz45_0,hcz45_1,hcz45_2⟩:=cz3 BK618.out;obtain⟨hfz45_0,hfz45_1,hfz45_2⟩:=fz3 BK618.out;obtain⟨hcz46_0,hcz46_1,hcz46_2⟩:=cz3 BK610.out;obtain⟨hfz46_0,hfz46_1,hfz46_2⟩:=fz3 BK610.out)|((with_reducible refine gate_callee (f:=30) rfl ?_);refine goesL_ (some 47) rfl rfl Tryz.func30 (by kernel_rfl) rfl #[.agg #[.int .i64 a0_0,.slice A0_1 l0_1.length c0_1,.slice (some ad617) l0_2.length c0_2],.int .i64 ((rd_T50 l0_2 x4_2).f0)] rfl uM ?_;(with_reducible refine(quinariaref07_Node.calls a0_0 _ _ l0_1 _ _ l0_2 ((rd_T50 l0_2 x4_2).f0) false _ ?side1 ?side2 ?side3 ?side4 A15.out).mono ?_);(case side1=>exact Kd.C_below HR0_1.out uB);(case side2=>exact HC0_1.out);(case side3=>exact Kd.C_below HR0_2.out uB);(case side4=>exact HC0_2.out);rintro e w47 ⟨rfl,hb⟩;refine⟨_,rfl,?_⟩;replace BK610:=aM (blk_below (g:=gb610) (o:=.cells #[.int .i64 a0_0,.slice A0_1 l0_1.length c0_1,.slice (some ad617) l0_2.length c0_2] 25 (0,0)) (by refine uK ?_;refine blk_far ?_ NB610_618.out _;refine uK ?_;refine blk_far ?_ NB610_618.out _;refine uK ?_;refine blk_far ?_ NB610_618.out _;refine uK ?_;exact BK610.out) hb);replace BK618:=aM (blk_below (g:=gb618) (o:=.cells #[.int .i64 ((rd_T50 l0_2 x4_2).f0),.int .i64 ((rd_T50 l0_2 x4_2).f1),.int .i64 ((rd_T50 l0_2 x4_2).f2)] 50 (0,0)) (by refine uK ?_;refine blk_put (cs:=#[.int .i64 ((rd_T50 l0_2 x4_2).f0),.int .i64 ((rd_T50 l0_2 x4_2).f1),.int .i64 0]) ?_ 2 _ rfl;refine uK ?_;refine blk_put (cs:=#[.int .i64 ((rd_T50 l0_2 x4_2).f0),.int .i64 0,.int .i64 0]) ?_ 1 _ rfl;refine uK ?_;refine blk_put (cs:=#[.int .i64 0,.int .i64 0,.int .i64 0]) ?_ 0 _ rfl;refine uK ?_;exact BK618.out) hb);replace HB:=aM (below_step uB hb);(try clear hb);(try clear hb2);(try clear hk);(try clear hi)))
        go_ret;exact⟨uE,uB⟩
      ·rw[if_neg c13] at H;replace c13:=decide_eq_false c13;replace H:=Option.bind_eq_some_iff.mp H;obtain⟨t615,A480,H⟩:=H;replace H:(if t615=true then(if (l0_1.length:Int)≤6 then((quinariaref07_in.f (l0_2.length:Int) 1 8).bind fun t616=>(some t616)) else(some false)) else(some false))=some r:=H;have A48:=aM A480;clear A480
       by_cases c49:t615=true
       ·subst c49;have H1:(if (l0_1.length:Int)≤6 then((quinariaref07_in.f (l0_2.length:Int) 1 8).bind fun t616=>(some t616)) else(some false))=some r:=by rw[if_pos rfl] at H;exact H
        clear H;have H:=H1;clear H1
        by_cases c50:(l0_1.length:Int)≤6
        ·rw[if_pos c50] at H;have c50b0:decide ((l0_1.length:Int)≤6)=true:=decide_eq_true c50;have c50b1:decide (l0_1.length≤6)=true:=decide_eq_true (by omega);clear c50;replace H:=Option.bind_eq_some_iff.mp H;obtain⟨t616,A510,H⟩:=H;replace H:(some t616)=some r:=H;have A51:=aM A510;clear A510;obtain rfl:=Option.some.inj H;obtain⟨hcz52_0,hcz52_1,hcz52_2⟩:=cz3 BK610.out;obtain⟨hfz52_0,hfz52_1,hfz52_2⟩:=fz3 BK610.out
         go_wp2_with (first|((with_reducible refine gate_callee (f:=40) rfl ?_);refine goesL_ (some 63) rfl rfl Tryz.func40 (by kernel_rfl) rfl #[.int .i64 a0_0] rfl uM ?_;(with_reducible refine(quinariaref07_Cups.calls a0_0 true _ A48.out).mono ?_);rintro e w' ⟨rfl,⟨nd,rfl⟩⟩;refine⟨_,rfl,?_⟩)|(go_at_call 61;(with_reducible refine(quinariaref07_in.calls (l0_2.length:Int) 1 8 t616 _ A51.out).mono ?_);rintro e w' ⟨rfl,⟨nd,rfl⟩⟩))
         go_ret;exact⟨uE,uB⟩
        ·rw[if_neg c50] at H;have c50b0:decide ((l0_1.length:Int)≤6)=false:=decide_eq_false c50;have c50b1:decide (l0_1.length≤6)=false:=decide_eq_false (by omega);clear c50;obtain rfl:=Option.some.inj H;obtain⟨hcz53_0,hcz53_1,hcz53_2⟩:=cz3 BK610.out;obtain⟨hfz53_0,hfz53_1,hfz53_2⟩:=fz3 BK610.out
         go_wp2_with (first|((with_reducible refine gate_callee (f:=40) rfl ?_);refine goesL_ (some 63) rfl rfl Tryz.func40 (by kernel_rfl) rfl #[.int .i64 a0_0] rfl uM ?_;(with_reducible refine(quinariaref07_Cups.calls a0_0 true _ A48.out).mono ?_);rintro e w' ⟨rfl,⟨nd,rfl⟩⟩;refine⟨_,rfl,?_⟩))
         go_ret;exact⟨uE,uB⟩
       ·replace c49:=Bool.eq_false_iff.mpr c49;subst c49;have H1:(some false)=some r:=by rw[if_neg (show ¬(false=true) by decide)] at H;exact H
        clear H;have H:=H1;clear H1;obtain rfl:=Option.some.inj H;obtain⟨hcz54_0,hcz54_1,hcz54_2⟩:=cz3 BK610.out;obtain⟨hfz54_0,hfz54_1,hfz54_2⟩:=fz3 BK610.out
        go_wp2_with (first|((with_reducible refine gate_callee (f:=40) rfl ?_);refine goesL_ (some 63) rfl rfl Tryz.func40 (by kernel_rfl) rfl #[.int .i64 a0_0] rfl uM ?_;(with_reducible refine(quinariaref07_Cups.calls a0_0 false _ A48.out).mono ?_);rintro e w' ⟨rfl,⟨nd,rfl⟩⟩;refine⟨_,rfl,?_⟩))
        go_ret;exact⟨uE,uB⟩
def quinariaref07_List.l0:Nat→List Int→Int→Int→List (S85)→List (S50)→Option (Bool)
 |0,_,_,_,_,_=>none
 |k+1,x1,x5,x688000,x688001,x688002=>if x5<(x1.length:Int) then(if 0≤x5 then(if x5<(x688002.length:Int) then((quinariaref07_in.f (rd x1 x5) 0 ((rd_T50 x688002 x5).f1)).bind fun t690=>(if t690=true then(quinariaref07_List.l0 k x1 (wrap64 (x5+1)) x688000 x688001 x688002) else(some false))) else(none)) else(none)) else(some true)
def quinariaref07_List.f (k:Nat) (a0_0:Int) (l0_1:List (S85)) (l0_2:List (S50)) (l1:List Int):Option (Bool):=if(l1.length:Int)=(l0_2.length:Int) then(quinariaref07_List.l0 k l1 0 a0_0 l0_1 l0_2) else(some false)
set_option maxHeartbeats 8000000 in
set_option maxRecDepth 100000 in
theorem quinariaref07_List.calls (k:Nat) (a0_0:Int) (A0_1:Option Addr) (c0_1:Nat) (l0_1:List (S85)) (A0_2:Option Addr) (c0_2:Nat) (l0_2:List (S50)) (A1:Option Addr) (c1:Nat) (l1:List Int) (r:Bool) (w:World) (hr0_1:Kd.C k85 w A0_1 l0_1.length l0_1) (hc0_1:l0_1.length≤c0_1) (hr0_2:Kd.C k50 w A0_2 l0_2.length l0_2) (hc0_2:l0_2.length≤c0_2) (hr1:Kd.C (Kd.int .i64) w A1 l1.length l1) (hc1:l1.length≤c1) (h:quinariaref07_List.f k a0_0 l0_1 l0_2 l1=some r):
  Calls Tryz.prog 22 #[.agg #[.int .i64 a0_0,.slice A0_1 l0_1.length c0_1,.slice A0_2 l0_2.length c0_2],.slice A1 l1.length c1] w fun e w'=>e=.returned (.bool r)∧Below w.heap.size w w':=by
 have hu25:=Tryz.underlying25;have HR0_1:=aM hr0_1;have HC0_1:=aM hc0_1;clear hr0_1 hc0_1;have HR0_2:=aM hr0_2;have HC0_2:=aM hc0_2;clear hr0_2 hc0_2;have HR1:=aM hr1;have HC1:=aM hc1;clear hr1 hc1;have HB:=aM (Below.refl w.heap.size w);have H:(if (l1.length:Int)=(l0_2.length:Int) then(quinariaref07_List.l0 k l1 0 a0_0 l0_1 l0_2) else(some false))=some r:=h;clear h
 by_cases c3:(l1.length:Int)=(l0_2.length:Int)
 ·rw[if_pos c3] at H;have c3b0:((l1.length:Int)==(l0_2.length:Int))=true:=beq_iff_eq.mpr c3;have c3b1:((l1.length:Int) !=(l0_2.length:Int))=false:=bne_eq_false_iff_eq.mpr c3;have c3b2:(l1.length==l0_2.length)=true:=by first|simpa using c3|(simp at c3⊢;omega)
  clear c3;have H':=aM H;clear H
  go_enter Tryz.func22,Tryz.ntmps22
  go_wp2_with (first|((with_reducible refine gate_dst (N:=2) rfl ?_);refine bxe 2 #[.int .i64 a0_0,.slice A0_1 l0_1.length c0_1,.slice A0_2 l0_2.length c0_2] 25 ?_;intro gb687 hg w4 hbox hb;have n0_:=aM (below_step uB hb);have n1_:=aM (hbox);have n2_:=gw hg;have n3_:=gw hg;clear HB;have HB:=n0_;have BK687:=n1_;have GW687:=n2_;have GE687:=n3_;clear n0_ n1_ n2_ n3_;clear hb hbox hg;obtain⟨hcz5_0,hcz5_1,hcz5_2⟩:=cz3 BK687.out;obtain⟨hfz5_0,hfz5_1,hfz5_2⟩:=fz3 BK687.out))
  repeat(go_quiet (first|((with_reducible refine gate_dst (N:=2) rfl ?_);refine bxe 2 #[.int .i64 a0_0,.slice A0_1 l0_1.length c0_1,.slice A0_2 l0_2.length c0_2] 25 ?_;intro gb687 hg w4 hbox hb;have n0_:=aM (below_step uB hb);have n1_:=aM (hbox);have n2_:=gw hg;have n3_:=gw hg;clear HB;have HB:=n0_;have BK687:=n1_;have GW687:=n2_;have GE687:=n3_;clear n0_ n1_ n2_ n3_;clear hb hbox hg;obtain⟨hcz5_0,hcz5_1,hcz5_2⟩:=cz3 BK687.out;obtain⟨hfz5_0,hfz5_1,hfz5_2⟩:=fz3 BK687.out));try go_wp2_with (first|((with_reducible refine gate_dst (N:=2) rfl ?_);refine bxe 2 #[.int .i64 a0_0,.slice A0_1 l0_1.length c0_1,.slice A0_2 l0_2.length c0_2] 25 ?_;intro gb687 hg w4 hbox hb;have n0_:=aM (below_step uB hb);have n1_:=aM (hbox);have n2_:=gw hg;have n3_:=gw hg;clear HB;have HB:=n0_;have BK687:=n1_;have GW687:=n2_;have GE687:=n3_;clear n0_ n1_ n2_ n3_;clear hb hbox hg;obtain⟨hcz5_0,hcz5_1,hcz5_2⟩:=cz3 BK687.out;obtain⟨hfz5_0,hfz5_1,hfz5_2⟩:=fz3 BK687.out)))
  go_loopg [5] k (fun kq v5 w'=>∃(x5_1:Int),v5=.int .i64 x5_1∧Aside0 (quinariaref07_List.l0 kq l1 x5_1 a0_0 l0_1 l0_2=some r)∧Aside0 (kq≤k)∧Aside0 (w'.heap[gb687]? =some (.cells #[.int .i64 a0_0,(.slice A0_1 l0_1.length c0_1),(.slice A0_2 l0_2.length c0_2)] 25 (0,0)))∧Aside0 (Below w.heap.size w w'))
  case atStart=>exact⟨(0),u0,H',⟨Nat.le_refl _⟩,⟨uK BK687.out⟩,⟨uB⟩⟩
  case round=>
   clear H';try clear c1;try clear c2;try clear p2;try clear c3;try clear c3b0;try clear c3b1;try clear c3b2;try clear hcz5_0;try clear hcz5_1;try clear hcz5_2;try clear hfz5_0;try clear hfz5_1;try clear hfz5_2
   obtain⟨x5_1,rfl,HA,HK1,BK687,HB⟩:=hrel
   cases gk with
   |zero=>exact absurd HA.out (by simp[quinariaref07_List.l0])
   |succ k1=>
    have H:=HA.out;clear HA;simp only[quinariaref07_List.l0] at H
    by_cases c6:x5_1<(l1.length:Int)
    ·rw[if_pos c6] at H;replace c6:=decide_eq_true c6;obtain⟨c7,H⟩:=ifs H;replace c7:=decide_eq_true c7;obtain⟨c8,H⟩:=ifs H;replace c8:=decide_eq_true c8;replace H:=Option.bind_eq_some_iff.mp H;obtain⟨t690,A90,H⟩:=H;replace H:(if t690=true then(quinariaref07_List.l0 k1 l1 (wrap64 (x5_1+1)) a0_0 l0_1 l0_2) else(some false))=some r:=H;have A9:=aM A90;clear A90
     by_cases c10:t690=true
     ·subst c10;have H1:(quinariaref07_List.l0 k1 l1 (wrap64 (x5_1+1)) a0_0 l0_1 l0_2)=some r:=by rw[if_pos rfl] at H;exact H
      clear H;have H:=H1;clear H1;have H':=aM H;clear H;have p688:0≤(x5_1:Int):=uD;have q688:x5_1<(l1.length:Int):=uD;obtain⟨ad688,e688,hx688_0⟩:=Kd.at_int HR1.out x5_1 p688 q688
      cases e688
      replace hx688_0:=hcell HB.out hx688_0;replace p688:=eq_true p688;replace q688:=eq_true q688;obtain⟨hcz11_0,hcz11_1,hcz11_2⟩:=cz3 BK687.out;obtain⟨hfz11_0,hfz11_1,hfz11_2⟩:=fz3 BK687.out;have p689:0≤(x5_1:Int):=uD;have q689:x5_1<(l0_2.length:Int):=uD;obtain⟨ad689,e689,hx689_0,hx689_1,hx689_2⟩:=at_T50 HR0_2.out x5_1 p689 q689
      cases e689
      replace hx689_0:=hcell HB.out hx689_0;replace hx689_1:=hcell HB.out hx689_1;replace hx689_2:=hcell HB.out hx689_2;replace p689:=eq_true p689;replace q689:=eq_true q689
      go_wp2_with (first|(go_at_call 61;(with_reducible refine(quinariaref07_in.calls (rd l1 x5_1) 0 ((rd_T50 l0_2 x5_1).f1) true _ A9.out).mono ?_);rintro e w' ⟨rfl,⟨nd,rfl⟩⟩;(try first|exact⟨rfl,_,World.drewN_drewN _ _ _⟩|exact⟨rfl,_,Eq.trans (World.drewN_drewN _ _ _) (congrArg (World.drewN _) (Nat.add_assoc _ _ _))⟩)))
      repeat(go_quiet (first|(go_at_call 61;(with_reducible refine(quinariaref07_in.calls (rd l1 x5_1) 0 ((rd_T50 l0_2 x5_1).f1) true _ A9.out).mono ?_);rintro e w' ⟨rfl,⟨nd,rfl⟩⟩;(try first|exact⟨rfl,_,World.drewN_drewN _ _ _⟩|exact⟨rfl,_,Eq.trans (World.drewN_drewN _ _ _) (congrArg (World.drewN _) (Nat.add_assoc _ _ _))⟩)));try go_wp2_with (first|(go_at_call 61;(with_reducible refine(quinariaref07_in.calls (rd l1 x5_1) 0 ((rd_T50 l0_2 x5_1).f1) true _ A9.out).mono ?_);rintro e w' ⟨rfl,⟨nd,rfl⟩⟩;(try first|exact⟨rfl,_,World.drewN_drewN _ _ _⟩|exact⟨rfl,_,Eq.trans (World.drewN_drewN _ _ _) (congrArg (World.drewN _) (Nat.add_assoc _ _ _))⟩))))
      go_roundg k1
      case measure=>have:=HK1.out;omega
      case rel=>exact⟨(wrap64 (x5_1+1)),u0,H',⟨by have:=HK1.out;omega⟩,⟨uK BK687.out⟩,⟨uB⟩⟩
     ·replace c10:=Bool.eq_false_iff.mpr c10;subst c10;have H1:(some false)=some r:=by rw[if_neg (show ¬(false=true) by decide)] at H;exact H
      clear H;have H:=H1;clear H1;obtain rfl:=Option.some.inj H;have p688:0≤(x5_1:Int):=uD;have q688:x5_1<(l1.length:Int):=uD;obtain⟨ad688,e688,hx688_0⟩:=Kd.at_int HR1.out x5_1 p688 q688
      cases e688
      replace hx688_0:=hcell HB.out hx688_0;replace p688:=eq_true p688;replace q688:=eq_true q688;obtain⟨hcz12_0,hcz12_1,hcz12_2⟩:=cz3 BK687.out;obtain⟨hfz12_0,hfz12_1,hfz12_2⟩:=fz3 BK687.out;have p689:0≤(x5_1:Int):=uD;have q689:x5_1<(l0_2.length:Int):=uD;obtain⟨ad689,e689,hx689_0,hx689_1,hx689_2⟩:=at_T50 HR0_2.out x5_1 p689 q689
      cases e689
      replace hx689_0:=hcell HB.out hx689_0;replace hx689_1:=hcell HB.out hx689_1;replace hx689_2:=hcell HB.out hx689_2;replace p689:=eq_true p689;replace q689:=eq_true q689
      go_wp2_with (first|(go_at_call 61;(with_reducible refine(quinariaref07_in.calls (rd l1 x5_1) 0 ((rd_T50 l0_2 x5_1).f1) false _ A9.out).mono ?_);rintro e w' ⟨rfl,⟨nd,rfl⟩⟩;(try first|exact⟨rfl,_,World.drewN_drewN _ _ _⟩|exact⟨rfl,_,Eq.trans (World.drewN_drewN _ _ _) (congrArg (World.drewN _) (Nat.add_assoc _ _ _))⟩)))
      (repeat (go_quiet (first|(go_at_call 61;(with_reducible refine(quinariaref07_in.calls (rd l1 x5_1) 0 ((rd_T50 l0_2 x5_1).f1) false _ A9.out).mono ?_);rintro e w' ⟨rfl,⟨nd,rfl⟩⟩;(try first|exact⟨rfl,_,World.drewN_drewN _ _ _⟩|exact⟨rfl,_,Eq.trans (World.drewN_drewN _ _ _) (congrArg (World.drewN _) (Nat.add_assoc _ _ _))⟩)));try go_wp2_with (first|(go_at_call 61;(with_reducible refine(quinariaref07_in.calls (rd l1 x5_1) 0 ((rd_T50 l0_2 x5_1).f1) false _ A9.out).mono ?_);rintro e w' ⟨rfl,⟨nd,rfl⟩⟩;(try first|exact⟨rfl,_,World.drewN_drewN _ _ _⟩|exact⟨rfl,_,Eq.trans (World.drewN_drewN _ _ _) (congrArg (World.drewN _) (Nat.add_assoc _ _ _))⟩)))));go_ret;exact⟨uE,uB⟩
    ·rw[if_neg c6] at H;replace c6:=decide_eq_false c6;obtain rfl:=Option.some.inj H;go_wp2;(repeat (go_quiet (fail);try go_wp2));go_ret;exact⟨uE,uB⟩
 ·rw[if_neg c3] at H;have c3b0:((l1.length:Int)==(l0_2.length:Int))=false:=beq_eq_false_iff_ne.mpr c3;have c3b1:((l1.length:Int) !=(l0_2.length:Int))=true:=bne_iff_ne.mpr c3;have c3b2:(l1.length==l0_2.length)=false:=by first|simpa using c3|(simp at c3⊢;omega)
  obtain rfl:=Option.some.inj H
  go_enter Tryz.func22,Tryz.ntmps22
  go_wp2_with (first|((with_reducible refine gate_dst (N:=2) rfl ?_);refine bxe 2 #[.int .i64 a0_0,.slice A0_1 l0_1.length c0_1,.slice A0_2 l0_2.length c0_2] 25 ?_;intro gb687 hg w13 hbox hb;have n0_:=aM (below_step uB hb);have n1_:=aM (hbox);have n2_:=gw hg;have n3_:=gw hg;clear HB;have HB:=n0_;have BK687:=n1_;have GW687:=n2_;have GE687:=n3_;clear n0_ n1_ n2_ n3_;clear hb hbox hg;obtain⟨hcz14_0,hcz14_1,hcz14_2⟩:=cz3 BK687.out;obtain⟨hfz14_0,hfz14_1,hfz14_2⟩:=fz3 BK687.out))
  (repeat (go_quiet (first|((with_reducible refine gate_dst (N:=2) rfl ?_);refine bxe 2 #[.int .i64 a0_0,.slice A0_1 l0_1.length c0_1,.slice A0_2 l0_2.length c0_2] 25 ?_;intro gb687 hg w13 hbox hb;have n0_:=aM (below_step uB hb);have n1_:=aM (hbox);have n2_:=gw hg;have n3_:=gw hg;clear HB;have HB:=n0_;have BK687:=n1_;have GW687:=n2_;have GE687:=n3_;clear n0_ n1_ n2_ n3_;clear hb hbox hg;obtain⟨hcz14_0,hcz14_1,hcz14_2⟩:=cz3 BK687.out;obtain⟨hfz14_0,hfz14_1,hfz14_2⟩:=fz3 BK687.out));try go_wp2_with (first|((with_reducible refine gate_dst (N:=2) rfl ?_);refine bxe 2 #[.int .i64 a0_0,.slice A0_1 l0_1.length c0_1,.slice A0_2 l0_2.length c0_2] 25 ?_;intro gb687 hg w13 hbox hb;have n0_:=aM (below_step uB hb);have n1_:=aM (hbox);have n2_:=gw hg;have n3_:=gw hg;clear HB;have HB:=n0_;have BK687:=n1_;have GW687:=n2_;have GE687:=n3_;clear n0_ n1_ n2_ n3_;clear hb hbox hg;obtain⟨hcz14_0,hcz14_1,hcz14_2⟩:=cz3 BK687.out;obtain⟨hfz14_0,hfz14_1,hfz14_2⟩:=fz3 BK687.out))));go_ret;exact⟨uE,uB⟩
def quinariaref07_Outlet.f (a0_0:Int) (l0_1:List (S85)) (l0_2:List (S50)) (a1:Int):Option (Bool):=(quinariaref07_in.f a1 0 (wrap64 ((l0_2.length:Int)-1))).bind fun t726=>(some t726)
set_option maxHeartbeats 8000000 in
set_option maxRecDepth 100000 in
theorem quinariaref07_Outlet.calls (a0_0:Int) (A0_1:Option Addr) (c0_1:Nat) (l0_1:List (S85)) (A0_2:Option Addr) (c0_2:Nat) (l0_2:List (S50)) (a1:Int) (r:Bool) (w:World) (hr0_1:Kd.C k85 w A0_1 l0_1.length l0_1) (hc0_1:l0_1.length≤c0_1) (hr0_2:Kd.C k50 w A0_2 l0_2.length l0_2) (hc0_2:l0_2.length≤c0_2) (h:quinariaref07_Outlet.f a0_0 l0_1 l0_2 a1=some r):
  Calls Tryz.prog 28 #[.agg #[.int .i64 a0_0,.slice A0_1 l0_1.length c0_1,.slice A0_2 l0_2.length c0_2],.int .i64 a1] w fun e w'=>e=.returned (.bool r)∧Below w.heap.size w w':=by
 have hu25:=Tryz.underlying25;have HR0_1:=aM hr0_1;have HC0_1:=aM hc0_1;clear hr0_1 hc0_1;have HR0_2:=aM hr0_2;have HC0_2:=aM hc0_2;clear hr0_2 hc0_2;have HB:=aM (Below.refl w.heap.size w);have H:((quinariaref07_in.f a1 0 (wrap64 ((l0_2.length:Int)-1))).bind fun t726=>(some t726))=some r:=h;clear h;replace H:=Option.bind_eq_some_iff.mp H;obtain⟨t726,A30,H⟩:=H;replace H:(some t726)=some r:=H;have A3:=aM A30;clear A30;obtain rfl:=Option.some.inj H
 go_enter Tryz.func28,Tryz.ntmps28
 go_wp2_with (first|((with_reducible refine gate_dst (N:=2) rfl ?_);refine bxe 2 #[.int .i64 a0_0,.slice A0_1 l0_1.length c0_1,.slice A0_2 l0_2.length c0_2] 25 ?_;intro gb725 hg w4 hbox hb;have n0_:=aM (below_step uB hb);have n1_:=aM (hbox);have n2_:=gw hg;have n3_:=gw hg;clear HB;have HB:=n0_;have BK725:=n1_;have GW725:=n2_;have GE725:=n3_;clear n0_ n1_ n2_ n3_;clear hb hbox hg;obtain⟨hcz5_0,hcz5_1,hcz5_2⟩:=cz3 BK725.out;obtain⟨hfz5_0,hfz5_1,hfz5_2⟩:=fz3 BK725.out)|((with_reducible refine gate_callee (f:=61) rfl ?_);refine goesL_ (some 10) rfl rfl Tryz.func61 (by kernel_rfl) rfl #[.int .i64 a1,.int .i64 0,.int .i64 (wrap64 ((l0_2.length:Int)-1))] rfl uM ?_;(with_reducible refine(quinariaref07_in.calls a1 0 (wrap64 ((l0_2.length:Int)-1)) t726 _ A3.out).mono ?_);rintro e w' ⟨rfl,⟨nd,rfl⟩⟩;refine⟨_,rfl,?_⟩))
 go_ret;exact⟨uE,uB⟩
def quinariaref07_parent.f (a0_0:Int) (l0_1:List (S85)) (l0_2:List (S50)) (a1:Int):Option (Int):=if a1=0 then(some (-1)) else(if 0≤(wrap64 (a1-1)) then(if (wrap64 (a1-1))<(l0_1.length:Int) then(some ((rd_T85 l0_1 (wrap64 (a1-1))).f0)) else(none)) else(none))
set_option maxHeartbeats 8000000 in
set_option maxRecDepth 100000 in
theorem quinariaref07_parent.calls (a0_0:Int) (A0_1:Option Addr) (c0_1:Nat) (l0_1:List (S85)) (A0_2:Option Addr) (c0_2:Nat) (l0_2:List (S50)) (a1:Int) (r:Int) (w:World) (hr0_1:Kd.C k85 w A0_1 l0_1.length l0_1) (hc0_1:l0_1.length≤c0_1) (hr0_2:Kd.C k50 w A0_2 l0_2.length l0_2) (hc0_2:l0_2.length≤c0_2) (h:quinariaref07_parent.f a0_0 l0_1 l0_2 a1=some r):
  Calls Tryz.prog 67 #[.agg #[.int .i64 a0_0,.slice A0_1 l0_1.length c0_1,.slice A0_2 l0_2.length c0_2],.int .i64 a1] w fun e w'=>e=.returned (.int .i64 r)∧Below w.heap.size w w':=by
 have hu25:=Tryz.underlying25;have HR0_1:=aM hr0_1;have HC0_1:=aM hc0_1;clear hr0_1 hc0_1;have HR0_2:=aM hr0_2;have HC0_2:=aM hc0_2;clear hr0_2 hc0_2;have HB:=aM (Below.refl w.heap.size w);have H:(if a1=0 then(some (-1)) else(if 0≤(wrap64 (a1-1)) then(if (wrap64 (a1-1))<(l0_1.length:Int) then(some ((rd_T85 l0_1 (wrap64 (a1-1))).f0)) else(none)) else(none)))=some r:=h;clear h
 by_cases c3:a1=0
 ·rw[if_pos c3] at H;have c3b0:(a1==0)=true:=beq_iff_eq.mpr c3;have c3b1:(a1 !=0)=false:=bne_eq_false_iff_eq.mpr c3;clear c3;obtain rfl:=Option.some.inj H
  go_enter Tryz.func67,Tryz.ntmps67
  go_wp2_with (first|((with_reducible refine gate_dst (N:=2) rfl ?_);refine bxe 2 #[.int .i64 a0_0,.slice A0_1 l0_1.length c0_1,.slice A0_2 l0_2.length c0_2] 25 ?_;intro gb622 hg w4 hbox hb;have n0_:=aM (below_step uB hb);have n1_:=aM (hbox);have n2_:=gw hg;have n3_:=gw hg;clear HB;have HB:=n0_;have BK622:=n1_;have GW622:=n2_;have GE622:=n3_;clear n0_ n1_ n2_ n3_;clear hb hbox hg))
  go_ret;exact⟨uE,uB⟩
 ·rw[if_neg c3] at H;have c3b0:(a1==0)=false:=beq_eq_false_iff_ne.mpr c3;have c3b1:(a1 !=0)=true:=bne_iff_ne.mpr c3;obtain⟨ji5,hji5⟩:∃j_:Int,(wrap64 (a1-1))=j_:=⟨_,rfl⟩;replace H:(if 0≤(ji5) then(if (ji5)<(l0_1.length:Int) then(some ((rd_T85 l0_1 (ji5)).f0)) else(none)) else(none))=some r:=by first|(rw [hji5] at H;exact H)|(simp only[hji5] at H⊢;exact H)
  have hji5w:(IntKind.i64.wrap (a1-1))=ji5:=(i64_w _).trans hji5;obtain⟨c6,H⟩:=ifs H;replace c6:=decide_eq_true c6;obtain⟨c7,H⟩:=ifs H;replace c7:=decide_eq_true c7;obtain rfl:=Option.some.inj H
  go_enter Tryz.func67,Tryz.ntmps67
  go_wp2_with (first|((with_reducible refine gate_dst (N:=2) rfl ?_);refine bxe 2 #[.int .i64 a0_0,.slice A0_1 l0_1.length c0_1,.slice A0_2 l0_2.length c0_2] 25 ?_;intro gb622 hg w8 hbox hb;have n0_:=aM (below_step uB hb);have n1_:=aM (hbox);have n2_:=gw hg;have n3_:=gw hg;clear HB;have HB:=n0_;have BK622:=n1_;have GW622:=n2_;have GE622:=n3_;clear n0_ n1_ n2_ n3_;clear hb hbox hg;obtain⟨hcz9_0,hcz9_1,hcz9_2⟩:=cz3 BK622.out;obtain⟨hfz9_0,hfz9_1,hfz9_2⟩:=fz3 BK622.out;have p623:0≤((ji5):Int):=uD;have q623:(ji5)<(l0_1.length:Int):=uD;obtain⟨ad623,e623,hx623_0,hx623_1⟩:=at_T85 HR0_1.out (ji5) p623 q623;cases e623;replace hx623_0:=hcell HB.out hx623_0;replace hx623_1:=hcell HB.out hx623_1;replace p623:=eq_true p623;replace q623:=eq_true q623))
  go_ret;exact⟨by first|rfl|(simp [errW_none,errW_some]<;>rfl)|(simp only[← hji5];first|rfl|(simp [errW_none,errW_some]<;>rfl))|(simp [*,errW_none,errW_some]<;>rfl),uB⟩
def quinariaref07_Below.l0:Nat→Int→Int→Int→List (S85)→List (S50)→Option (Bool)
 |0,_,_,_,_,_=>none
 |k+1,x2,x7,x625000,x625001,x625002=>if x7≥0 then(if x7=x2 then(some true) else((quinariaref07_parent.f x625000 x625001 x625002 x7).bind fun t626=>(quinariaref07_Below.l0 k x2 t626 x625000 x625001 x625002))) else(some false)
def quinariaref07_Below.f (k:Nat) (a0_0:Int) (l0_1:List (S85)) (l0_2:List (S50)) (a1:Int) (a2:Int):Option (Bool):=if 0≤a1 then(if a1<(l0_2.length:Int) then(quinariaref07_Below.l0 k a2 ((rd_T50 l0_2 a1).f0) a0_0 l0_1 l0_2) else(none)) else(none)
set_option maxHeartbeats 8000000 in
set_option maxRecDepth 100000 in
theorem quinariaref07_Below.calls (k:Nat) (a0_0:Int) (A0_1:Option Addr) (c0_1:Nat) (l0_1:List (S85)) (A0_2:Option Addr) (c0_2:Nat) (l0_2:List (S50)) (a1:Int) (a2:Int) (r:Bool) (w:World) (hr0_1:Kd.C k85 w A0_1 l0_1.length l0_1) (hc0_1:l0_1.length≤c0_1) (hr0_2:Kd.C k50 w A0_2 l0_2.length l0_2) (hc0_2:l0_2.length≤c0_2) (h:quinariaref07_Below.f k a0_0 l0_1 l0_2 a1 a2=some r):
  Calls Tryz.prog 32 #[.agg #[.int .i64 a0_0,.slice A0_1 l0_1.length c0_1,.slice A0_2 l0_2.length c0_2],.int .i64 a1,.int .i64 a2] w fun e w'=>e=.returned (.bool r)∧Below w.heap.size w w':=by
 have hu25:=Tryz.underlying25;have HR0_1:=aM hr0_1;have HC0_1:=aM hc0_1;clear hr0_1 hc0_1;have HR0_2:=aM hr0_2;have HC0_2:=aM hc0_2;clear hr0_2 hc0_2;have HB:=aM (Below.refl w.heap.size w);have H:(if 0≤a1 then(if a1<(l0_2.length:Int) then(quinariaref07_Below.l0 k a2 ((rd_T50 l0_2 a1).f0) a0_0 l0_1 l0_2) else(none)) else(none))=some r:=h;clear h;obtain⟨c4,H⟩:=ifs H;replace c4:=decide_eq_true c4;obtain⟨c5,H⟩:=ifs H;replace c5:=decide_eq_true c5;have H':=aM H;clear H
 go_enter Tryz.func32,Tryz.ntmps32
 go_wp2_with (first|((with_reducible refine gate_dst (N:=3) rfl ?_);refine bxe 3 #[.int .i64 a0_0,.slice A0_1 l0_1.length c0_1,.slice A0_2 l0_2.length c0_2] 25 ?_;intro gb624 hg w6 hbox hb;have n0_:=aM (below_step uB hb);have n1_:=aM (hbox);have n2_:=gw hg;have n3_:=gw hg;clear HB;have HB:=n0_;have BK624:=n1_;have GW624:=n2_;have GE624:=n3_;clear n0_ n1_ n2_ n3_;clear hb hbox hg;obtain⟨hcz7_0,hcz7_1,hcz7_2⟩:=cz3 BK624.out;obtain⟨hfz7_0,hfz7_1,hfz7_2⟩:=fz3 BK624.out;have p625:0≤(a1:Int):=uD;have q625:a1<(l0_2.length:Int):=uD;obtain⟨ad625,e625,hx625_0,hx625_1,hx625_2⟩:=at_T50 HR0_2.out a1 p625 q625;cases e625;replace hx625_0:=hcell HB.out hx625_0;replace hx625_1:=hcell HB.out hx625_1;replace hx625_2:=hcell HB.out hx625_2;replace p625:=eq_true p625;replace q625:=eq_true q625))
 go_loopg [7] k (fun kq v7 w'=>∃(x7_1:Int),v7=.int .i64 x7_1∧Aside0 (quinariaref07_Below.l0 kq a2 x7_1 a0_0 l0_1 l0_2=some r)∧Aside0 (kq≤k)∧Aside0 (w'.heap[gb624]? =some (.cells #[.int .i64 a0_0,(.slice A0_1 l0_1.length c0_1),(.slice (some ad625) l0_2.length c0_2)] 25 (0,0)))∧Aside0 (Below w.heap.size w w'))
 case atStart=>exact⟨((rd_T50 l0_2 a1).f0),u0,H',⟨Nat.le_refl _⟩,⟨uK BK624.out⟩,⟨uB⟩⟩
 case round=>
  clear H';try clear p2;try clear c3;try clear c4;try clear c4b0;try clear c5;try clear c5b0;try clear p6;try clear q6;try clear hx6;try clear hcz7_0;try clear hcz7_1;try clear hcz7_2;try clear hfz7_0;try clear hfz7_1;try clear hfz7_2;try clear hx625_0;try clear hx625_1;try clear hx625_2;try clear p625;try clear q625
  obtain⟨x7_1,rfl,HA,HK1,BK624,HB⟩:=hrel
  cases gk with
  |zero=>exact absurd HA.out (by simp[quinariaref07_Below.l0])
  |succ k1=>
   have H:=HA.out;clear HA;simp only[quinariaref07_Below.l0] at H
   by_cases c8:x7_1≥0
   ·rw[if_pos c8] at H;replace c8:=decide_eq_true c8
    by_cases c9:x7_1=a2
    ·rw[if_pos c9] at H;have c9b0:(x7_1==a2)=true:=beq_iff_eq.mpr c9;have c9b1:(x7_1 !=a2)=false:=bne_eq_false_iff_eq.mpr c9;clear c9;obtain rfl:=Option.some.inj H;go_wp2;go_ret;exact⟨uE,uB⟩
    ·rw[if_neg c9] at H;have c9b0:(x7_1==a2)=false:=beq_eq_false_iff_ne.mpr c9;have c9b1:(x7_1 !=a2)=true:=bne_iff_ne.mpr c9;replace H:=Option.bind_eq_some_iff.mp H;obtain⟨t626,A100,H⟩:=H;replace H:(quinariaref07_Below.l0 k1 a2 t626 a0_0 l0_1 l0_2)=some r:=H;have A10:=aM A100;clear A100;have H':=aM H;clear H;obtain⟨hcz11_0,hcz11_1,hcz11_2⟩:=cz3 BK624.out;obtain⟨hfz11_0,hfz11_1,hfz11_2⟩:=fz3 BK624.out
     go_wp2_with (first|((with_reducible refine gate_callee (f:=67) rfl ?_);refine goesL_ (some 18) rfl rfl Tryz.func67 (by kernel_rfl) rfl #[.agg #[.int .i64 a0_0,.slice A0_1 l0_1.length c0_1,.slice (some ad625) l0_2.length c0_2],.int .i64 x7_1] rfl uM ?_;(with_reducible refine(quinariaref07_parent.calls a0_0 _ _ l0_1 _ _ l0_2 x7_1 t626 _ ?side1 ?side2 ?side3 ?side4 A10.out).mono ?_);(case side1=>repeat(first|exact(Kd.C_below HR0_1.out HB.out)|(with_reducible refine Kd.C_alloc ?_ _)|(with_reducible refine Kd.C_drewN ?_ _)|(with_reducible refine Kd.C_drew ?_)));(case side2=>exact HC0_1.out);(case side3=>repeat(first|exact(Kd.C_below HR0_2.out HB.out)|(with_reducible refine Kd.C_alloc ?_ _)|(with_reducible refine Kd.C_drewN ?_ _)|(with_reducible refine Kd.C_drew ?_)));(case side4=>exact HC0_2.out);rintro e w12 ⟨rfl,hb⟩;refine⟨_,rfl,?_⟩;replace BK624:=aM (blk_below (uK BK624.out) hb);replace HB:=aM (below_step uB hb);(try clear hb);(try clear hb2);(try clear hk);(try clear hi)))
     go_roundg k1
     case measure=>have:=HK1.out;omega
     case rel=>exact⟨(t626),u0,H',⟨by have:=HK1.out;omega⟩,⟨uK BK624.out⟩,⟨uB⟩⟩
   ·rw[if_neg c8] at H;replace c8:=decide_eq_false c8;obtain rfl:=Option.some.inj H;go_wp2;go_ret;exact⟨uE,uB⟩
def quinariaref07_Sum.l0:Nat→List Int→Int→Int→Int→Int→List (S85)→List (S50)→Option (Int)
 |0,_,_,_,_,_,_,_=>none
 |k+1,x1,x2,x7,x8,x628000,x628001,x628002=>if x8<(x1.length:Int) then((quinariaref07_Below.f k x628000 x628001 x628002 x8 x2).bind fun t628=>(if t628=true then(if 0≤x8 then(quinariaref07_Sum.l0 k x1 x2 (wrap64 (x7+(rd x1 x8))) (wrap64 (x8+1)) x628000 x628001 x628002) else(none)) else(quinariaref07_Sum.l0 k x1 x2 x7 (wrap64 (x8+1)) x628000 x628001 x628002))) else(some x7)
def quinariaref07_Sum.f (k:Nat) (a0_0:Int) (l0_1:List (S85)) (l0_2:List (S50)) (l1:List Int) (a2:Int):Option (Int):=quinariaref07_Sum.l0 k l1 a2 0 0 a0_0 l0_1 l0_2
set_option maxHeartbeats 8000000 in
set_option maxRecDepth 100000 in
theorem quinariaref07_Sum.calls (k:Nat) (a0_0:Int) (A0_1:Option Addr) (c0_1:Nat) (l0_1:List (S85)) (A0_2:Option Addr) (c0_2:Nat) (l0_2:List (S50)) (A1:Option Addr) (c1:Nat) (l1:List Int) (a2:Int) (r:Int) (w:World) (hr0_1:Kd.C k85 w A0_1 l0_1.length l0_1) (hc0_1:l0_1.length≤c0_1) (hr0_2:Kd.C k50 w A0_2 l0_2.length l0_2) (hc0_2:l0_2.length≤c0_2) (hr1:Kd.C (Kd.int .i64) w A1 l1.length l1) (hc1:l1.length≤c1) (h:quinariaref07_Sum.f k a0_0 l0_1 l0_2 l1 a2=some r):
  Calls Tryz.prog 33 #[.agg #[.int .i64 a0_0,.slice A0_1 l0_1.length c0_1,.slice A0_2 l0_2.length c0_2],.slice A1 l1.length c1,.int .i64 a2] w fun e w'=>e=.returned (.int .i64 r)∧Below w.heap.size w w':=by
 have hu25:=Tryz.underlying25;have HR0_1:=aM hr0_1;have HC0_1:=aM hc0_1;clear hr0_1 hc0_1;have HR0_2:=aM hr0_2;have HC0_2:=aM hc0_2;clear hr0_2 hc0_2;have HR1:=aM hr1;have HC1:=aM hc1;clear hr1 hc1;have HB:=aM (Below.refl w.heap.size w);have H:(quinariaref07_Sum.l0 k l1 a2 0 0 a0_0 l0_1 l0_2)=some r:=h;clear h;have H':=aM H;clear H
 go_enter Tryz.func33,Tryz.ntmps33
 go_wp2_with (first|((with_reducible refine gate_dst (N:=3) rfl ?_);refine bxe 3 #[.int .i64 a0_0,.slice A0_1 l0_1.length c0_1,.slice A0_2 l0_2.length c0_2] 25 ?_;intro gb627 hg w4 hbox hb;have n0_:=aM (below_step uB hb);have n1_:=aM (hbox);have n2_:=gw hg;have n3_:=gw hg;clear HB;have HB:=n0_;have BK627:=n1_;have GW627:=n2_;have GE627:=n3_;clear n0_ n1_ n2_ n3_;clear hb hbox hg))
 go_loopg [7,8] k (fun kq v7 v8 w'=>∃(x7_1:Int) (x8_1:Int),v7=.int .i64 x7_1∧v8=.int .i64 x8_1∧Aside0 (quinariaref07_Sum.l0 kq l1 a2 x7_1 x8_1 a0_0 l0_1 l0_2=some r)∧Aside0 (kq≤k)∧Aside0 (w'.heap[gb627]? =some (.cells #[.int .i64 a0_0,(.slice A0_1 l0_1.length c0_1),(.slice A0_2 l0_2.length c0_2)] 25 (0,0)))∧Aside0 (Below w.heap.size w w'))
 case atStart=>exact⟨(0),(0),u0,u0,H',⟨Nat.le_refl _⟩,⟨uK BK627.out⟩,⟨uB⟩⟩
 case round=>
  clear H';try clear c1;try clear p2;try clear c3
  obtain⟨x7_1,x8_1,rfl,rfl,HA,HK1,BK627,HB⟩:=hrel
  cases gk with
  |zero=>exact absurd HA.out (by simp[quinariaref07_Sum.l0])
  |succ k1=>
   have H:=HA.out;clear HA;simp only[quinariaref07_Sum.l0] at H
   by_cases c5:x8_1<(l1.length:Int)
   ·rw[if_pos c5] at H;replace c5:=decide_eq_true c5;replace H:=Option.bind_eq_some_iff.mp H;obtain⟨t628,A60,H⟩:=H;replace H:(if t628=true then(if 0≤x8_1 then(quinariaref07_Sum.l0 k1 l1 a2 (wrap64 (x7_1+(rd l1 x8_1))) (wrap64 (x8_1+1)) a0_0 l0_1 l0_2) else(none)) else(quinariaref07_Sum.l0 k1 l1 a2 x7_1 (wrap64 (x8_1+1)) a0_0 l0_1 l0_2))=some r:=H;have A6:=aM A60;clear A60
    by_cases c7:t628=true
    ·subst c7;have H1:(if 0≤x8_1 then(quinariaref07_Sum.l0 k1 l1 a2 (wrap64 (x7_1+(rd l1 x8_1))) (wrap64 (x8_1+1)) a0_0 l0_1 l0_2) else(none))=some r:=by rw[if_pos rfl] at H;exact H
     clear H;have H:=H1;clear H1;obtain⟨c8,H⟩:=ifs H;replace c8:=decide_eq_true c8;have H':=aM H;clear H;obtain⟨hcz9_0,hcz9_1,hcz9_2⟩:=cz3 BK627.out;obtain⟨hfz9_0,hfz9_1,hfz9_2⟩:=fz3 BK627.out
     go_wp2_with (first|((with_reducible refine gate_callee (f:=32) rfl ?_);refine goesL_ (some 18) rfl rfl Tryz.func32 (by kernel_rfl) rfl #[.agg #[.int .i64 a0_0,.slice A0_1 l0_1.length c0_1,.slice A0_2 l0_2.length c0_2],.int .i64 x8_1,.int .i64 a2] rfl uM ?_;(with_reducible refine(quinariaref07_Below.calls k1 a0_0 _ _ l0_1 _ _ l0_2 x8_1 a2 true _ ?side1 ?side2 ?side3 ?side4 A6.out).mono ?_);(case side1=>repeat(first|exact(Kd.C_below HR0_1.out HB.out)|(with_reducible refine Kd.C_alloc ?_ _)|(with_reducible refine Kd.C_drewN ?_ _)|(with_reducible refine Kd.C_drew ?_)));(case side2=>exact HC0_1.out);(case side3=>repeat(first|exact(Kd.C_below HR0_2.out HB.out)|(with_reducible refine Kd.C_alloc ?_ _)|(with_reducible refine Kd.C_drewN ?_ _)|(with_reducible refine Kd.C_drew ?_)));(case side4=>exact HC0_2.out);rintro e w10 ⟨rfl,hb⟩;refine⟨_,rfl,?_⟩;replace BK627:=aM (blk_below (uK BK627.out) hb);replace HB:=aM (below_step uB hb);(try clear hb);(try clear hb2);(try clear hk);(try clear hi);have p629:0≤(x8_1:Int):=uD;have q629:x8_1<(l1.length:Int):=uD;obtain⟨ad629,e629,hx629_0⟩:=Kd.at_int HR1.out x8_1 p629 q629;cases e629;replace hx629_0:=hcell HB.out hx629_0;replace p629:=eq_true p629;replace q629:=eq_true q629))
     go_roundg k1
     case measure=>have:=HK1.out;omega
     case rel=>exact⟨(wrap64 (x7_1+(rd l1 x8_1))),(wrap64 (x8_1+1)),u0,u0,H',⟨by have:=HK1.out;omega⟩,⟨uK BK627.out⟩,⟨uB⟩⟩
    ·replace c7:=Bool.eq_false_iff.mpr c7;subst c7;have H1:(quinariaref07_Sum.l0 k1 l1 a2 x7_1 (wrap64 (x8_1+1)) a0_0 l0_1 l0_2)=some r:=by rw[if_neg (show ¬(false=true) by decide)] at H;exact H
     clear H;have H:=H1;clear H1;have H':=aM H;clear H;obtain⟨hcz11_0,hcz11_1,hcz11_2⟩:=cz3 BK627.out;obtain⟨hfz11_0,hfz11_1,hfz11_2⟩:=fz3 BK627.out
     go_wp2_with (first|((with_reducible refine gate_callee (f:=32) rfl ?_);refine goesL_ (some 18) rfl rfl Tryz.func32 (by kernel_rfl) rfl #[.agg #[.int .i64 a0_0,.slice A0_1 l0_1.length c0_1,.slice A0_2 l0_2.length c0_2],.int .i64 x8_1,.int .i64 a2] rfl uM ?_;(with_reducible refine(quinariaref07_Below.calls k1 a0_0 _ _ l0_1 _ _ l0_2 x8_1 a2 false _ ?side1 ?side2 ?side3 ?side4 A6.out).mono ?_);(case side1=>repeat(first|exact(Kd.C_below HR0_1.out HB.out)|(with_reducible refine Kd.C_alloc ?_ _)|(with_reducible refine Kd.C_drewN ?_ _)|(with_reducible refine Kd.C_drew ?_)));(case side2=>exact HC0_1.out);(case side3=>repeat(first|exact(Kd.C_below HR0_2.out HB.out)|(with_reducible refine Kd.C_alloc ?_ _)|(with_reducible refine Kd.C_drewN ?_ _)|(with_reducible refine Kd.C_drew ?_)));(case side4=>exact HC0_2.out);rintro e w12 ⟨rfl,hb⟩;refine⟨_,rfl,?_⟩;replace BK627:=aM (blk_below (uK BK627.out) hb);replace HB:=aM (below_step uB hb);(try clear hb);(try clear hb2);(try clear hk);(try clear hi)))
     go_roundg k1
     case measure=>have:=HK1.out;omega
     case rel=>exact⟨(x7_1),(wrap64 (x8_1+1)),u0,u0,H',⟨by have:=HK1.out;omega⟩,⟨uK BK627.out⟩,⟨uB⟩⟩
   ·rw[if_neg c5] at H;replace c5:=decide_eq_false c5;obtain rfl:=Option.some.inj H;go_wp2;go_ret;exact⟨uE,uB⟩
def quinariaref07_Cap.f (a0_0:Int) (l0_1:List (S85)) (l0_2:List (S50)) (a1:Int):Option (Int):=if a1=0 then(some a0_0) else(if 0≤(wrap64 (a1-1)) then(if (wrap64 (a1-1))<(l0_1.length:Int) then(some ((rd_T85 l0_1 (wrap64 (a1-1))).f1)) else(none)) else(none))
set_option maxHeartbeats 8000000 in
set_option maxRecDepth 100000 in
theorem quinariaref07_Cap.calls (a0_0:Int) (A0_1:Option Addr) (c0_1:Nat) (l0_1:List (S85)) (A0_2:Option Addr) (c0_2:Nat) (l0_2:List (S50)) (a1:Int) (r:Int) (w:World) (hr0_1:Kd.C k85 w A0_1 l0_1.length l0_1) (hc0_1:l0_1.length≤c0_1) (hr0_2:Kd.C k50 w A0_2 l0_2.length l0_2) (hc0_2:l0_2.length≤c0_2) (h:quinariaref07_Cap.f a0_0 l0_1 l0_2 a1=some r):
  Calls Tryz.prog 34 #[.agg #[.int .i64 a0_0,.slice A0_1 l0_1.length c0_1,.slice A0_2 l0_2.length c0_2],.int .i64 a1] w fun e w'=>e=.returned (.int .i64 r)∧Below w.heap.size w w':=by
 have hu25:=Tryz.underlying25;have HR0_1:=aM hr0_1;have HC0_1:=aM hc0_1;clear hr0_1 hc0_1;have HR0_2:=aM hr0_2;have HC0_2:=aM hc0_2;clear hr0_2 hc0_2;have HB:=aM (Below.refl w.heap.size w);have H:(if a1=0 then(some a0_0) else(if 0≤(wrap64 (a1-1)) then(if (wrap64 (a1-1))<(l0_1.length:Int) then(some ((rd_T85 l0_1 (wrap64 (a1-1))).f1)) else(none)) else(none)))=some r:=h;clear h
 by_cases c3:a1=0
 ·rw[if_pos c3] at H;have c3b0:(a1==0)=true:=beq_iff_eq.mpr c3;have c3b1:(a1 !=0)=false:=bne_eq_false_iff_eq.mpr c3;clear c3;obtain rfl:=Option.some.inj H
  go_enter Tryz.func34,Tryz.ntmps34
  go_wp2_with (first|((with_reducible refine gate_dst (N:=2) rfl ?_);refine bxe 2 #[.int .i64 a0_0,.slice A0_1 l0_1.length c0_1,.slice A0_2 l0_2.length c0_2] 25 ?_;intro gb630 hg w4 hbox hb;have n0_:=aM (below_step uB hb);have n1_:=aM (hbox);have n2_:=gw hg;have n3_:=gw hg;clear HB;have HB:=n0_;have BK630:=n1_;have GW630:=n2_;have GE630:=n3_;clear n0_ n1_ n2_ n3_;clear hb hbox hg;obtain⟨hcz5_0,hcz5_1,hcz5_2⟩:=cz3 BK630.out;obtain⟨hfz5_0,hfz5_1,hfz5_2⟩:=fz3 BK630.out))
  go_ret;exact⟨uE,uB⟩
 ·rw[if_neg c3] at H;have c3b0:(a1==0)=false:=beq_eq_false_iff_ne.mpr c3;have c3b1:(a1 !=0)=true:=bne_iff_ne.mpr c3;obtain⟨ji6,hji6⟩:∃j_:Int,(wrap64 (a1-1))=j_:=⟨_,rfl⟩;replace H:(if 0≤(ji6) then(if (ji6)<(l0_1.length:Int) then(some ((rd_T85 l0_1 (ji6)).f1)) else(none)) else(none))=some r:=by first|(rw [hji6] at H;exact H)|(simp only[hji6] at H⊢;exact H)
  have hji6w:(IntKind.i64.wrap (a1-1))=ji6:=(i64_w _).trans hji6;obtain⟨c7,H⟩:=ifs H;replace c7:=decide_eq_true c7;obtain⟨c8,H⟩:=ifs H;replace c8:=decide_eq_true c8;obtain rfl:=Option.some.inj H
  go_enter Tryz.func34,Tryz.ntmps34
  go_wp2_with (first|((with_reducible refine gate_dst (N:=2) rfl ?_);refine bxe 2 #[.int .i64 a0_0,.slice A0_1 l0_1.length c0_1,.slice A0_2 l0_2.length c0_2] 25 ?_;intro gb630 hg w9 hbox hb;have n0_:=aM (below_step uB hb);have n1_:=aM (hbox);have n2_:=gw hg;have n3_:=gw hg;clear HB;have HB:=n0_;have BK630:=n1_;have GW630:=n2_;have GE630:=n3_;clear n0_ n1_ n2_ n3_;clear hb hbox hg;obtain⟨hcz10_0,hcz10_1,hcz10_2⟩:=cz3 BK630.out;obtain⟨hfz10_0,hfz10_1,hfz10_2⟩:=fz3 BK630.out;have p631:0≤((ji6):Int):=uD;have q631:(ji6)<(l0_1.length:Int):=uD;obtain⟨ad631,e631,hx631_0,hx631_1⟩:=at_T85 HR0_1.out (ji6) p631 q631;cases e631;replace hx631_0:=hcell HB.out hx631_0;replace hx631_1:=hcell HB.out hx631_1;replace p631:=eq_true p631;replace q631:=eq_true q631))
  go_ret;exact⟨by first|rfl|(simp [errW_none,errW_some]<;>rfl)|(simp only[← hji6];first|rfl|(simp [errW_none,errW_some]<;>rfl))|(simp [*,errW_none,errW_some]<;>rfl),uB⟩
end Go.Proofs.YtjioobfeikbffaaGreatDoor.K
end
section
namespace Go.Proofs.YtjioobfeikbffaaGreatDoor.K
open Go.RowKit Go.Proofs.YtjioobfeikbffaaGreatDoorW.PrintWords Go.Proofs.YtjioobfeikbffaaGreatDoorW.PrintLast Go.Proofs.YtjioobfeikbffaaGreatDoorW.PrintMore
namespace Rf
theorem inB_t {a lo hi:Int}:inB a lo hi=true↔lo≤a∧a≤hi:=by simp[inB]
theorem in_f (a lo hi:Int):quinariaref07_in.f a lo hi=some (inB a lo hi):=by
  unfold quinariaref07_in.f inB
  by_cases h:a≥lo
  · rw[if_pos h];simp[h]
  · rw[if_neg h];simp;omega
theorem cups_f (a:Int):quinariaref07_Cups.f a=some (inB a 0 200):=by unfold quinariaref07_Cups.f;rw[in_f];rfl
theorem class_f (a:Int):quinariaref07_Class.f a=some (inB a 0 3):=by unfold quinariaref07_Class.f;rw[in_f];rfl
theorem node_f (I:Int) (N:List SN) (O:List SO) (a:Int):quinariaref07_Node.f I N O a=some (inB a 0 N.length):=by unfold quinariaref07_Node.f;rw[in_f];rfl
theorem sml {a:Int} (h0: -1000000000≤a) (h1:a≤1000000000):wrap64 a=a:=IntWalk.wrap64_in _ (by omega)
theorem outlet_f (I:Int) (N:List SN) (O:List SO) (hl:O.length≤1000) (a:Int):quinariaref07_Outlet.f I N O a=some (inB a 0 (O.length-1)):=by
  unfold quinariaref07_Outlet.f;rw[in_f,sml (by omega) (by omega)];rfl
theorem short_f (I:Int) (N:List SN) (O:List SO):quinarialaw07_short.f I N O=some (decide (N.length≤8)&&decide (O.length≤10)):=by
  unfold quinarialaw07_short.f
  by_cases h:(N.length:Int)≤8
  · rw[if_pos h];have h1:N.length≤8:=by omega
    have h2:((O.length:Int)≤10)↔(O.length≤10):=by omega
    simp[h1,h2]
  · rw[if_neg h];have h1:¬N.length≤8:=by omega
    simp[h1]
def nodeOk (N:List SN) (i:Nat):Bool:=decide (0≤(rdN N i).f0)&&decide ((rdN N i).f0≤i)&&decide (0≤(rdN N i).f1)&&decide ((rdN N i).f1≤200)
def outOk (m:Nat) (o:SO):Bool:=decide (0≤o.f0)&&decide (o.f0≤m)&&decide (1≤o.f1)&&decide (o.f1≤200)&&decide (0≤o.f2)&&decide (o.f2≤3)
def sizesB (I:Int) (N:List SN) (O:List SO):Bool:=decide (0≤I)&&decide (I≤200)&&decide (N.length≤6)&&decide (1≤O.length)&&decide (O.length≤8)
theorem tree_l1 (I:Int) (N:List SN) (O:List SO) (hO:O.length≤1000):∀(rest:List SO) (j K:Nat),O.drop j=rest→rest.length<K→quinariaref07_Tree.l1 K (j:Int) I N O=some (rest.all (outOk N.length)&&sizesB I N O)
  |[],j,K+1,hd,hK=>by
    have:O.length≤j:=by simpa using hd
    unfold quinariaref07_Tree.l1;rw[if_neg (by omega),cups_f,Option.bind_some,in_f,Option.bind_some,List.all_nil,Bool.true_and];unfold sizesB inB
    cases h1:(decide (0≤I)&&decide (I≤200)) with
    |false=>rw[if_neg (by simp)];simp
    |true=>
      rw[if_pos rfl]
      by_cases h2:(N.length:Int)≤6
      · have h3:N.length≤6:=by omega
        have h4:(1≤(O.length:Int))↔(1≤O.length):=by omega
        have h5:((O.length:Int)≤8)↔(O.length≤8):=by omega
        rw[if_pos h2];simp[h3,h4,h5]
      · have h3:¬N.length≤6:=by omega
        rw[if_neg h2];simp[h3]
  |o::rest,j,K+1,hd,hK=>by
    have hj:j<O.length:=by
      have:=congrArg List.length hd;simp only[List.length_drop,List.length_cons] at this
      omega
    have ho:rdO O (j:Int)=o:=by
      have:=List.drop_eq_getElem_cons hj;rw[hd] at this;rw[(List.cons.inj this).1];simp[rd_T50,List.getD,List.getElem?_eq_getElem hj]
    have hd1:O.drop (j+1)=rest:=by rw[← List.drop_drop,hd];rfl
    unfold quinariaref07_Tree.l1;rw[if_pos (by omega),if_pos (by omega),node_f,Option.bind_some,in_f,Option.bind_some,class_f,Option.bind_some,sml (by omega) (by omega)];have ih:=tree_l1 I N O hO rest (j+1) K hd1 (by simp at hK;omega);rw[show ((j+1:Nat):Int)=(j:Int)+1 by omega] at ih;rw[ih,show rd_T50 O (j:Int)=o from ho,List.all_cons];simp only[outOk,inB]
    by_cases h1:0≤o.f0<;>by_cases h2:o.f0≤N.length<;>by_cases h3:1≤o.f1<;>by_cases h4:o.f1≤200<;>by_cases h5:0≤o.f2<;>by_cases h6:o.f2≤3<;>simp[h1,h2,h3,h4,h5,h6]
theorem tree_l0 (I:Int) (N:List SN) (O:List SO) (hN:N.length≤1000) (hO:O.length≤1000):∀(d j K:Nat),j+d=N.length→d+O.length+1<K→quinariaref07_Tree.l0 K (j:Int) I N O=some ((List.range' j d).all (nodeOk N)&&(O.all (outOk N.length)&&sizesB I N O))
  |0,j,K+1,hj,hK=>by
    unfold quinariaref07_Tree.l0;rw[if_neg (by omega)];have:=tree_l1 I N O hO O 0 K rfl (by omega)
    simpa using this
  |d+1,j,K+1,hj,hK=>by
    unfold quinariaref07_Tree.l0;rw[if_pos (by omega),if_pos (by omega),in_f,Option.bind_some,cups_f,Option.bind_some,sml (by omega) (by omega)];have ih:=tree_l0 I N O hN hO d (j+1) K (by omega) (by omega);rw[show ((j+1:Nat):Int)=(j:Int)+1 by omega] at ih;rw[ih,List.range'_succ,List.all_cons];simp only[nodeOk,inB]
    by_cases h1:0≤(rdN N j).f0<;>by_cases h2:(rdN N j).f0≤j<;>by_cases h3:0≤(rdN N j).f1<;>by_cases h4:(rdN N j).f1≤200<;>simp[h1,h2,h3,h4]
theorem tree_f (I:Int) (N:List SN) (O:List SO) (hN:N.length≤1000) (hO:O.length≤1000) (K:Nat) (hK:N.length+O.length+1<K):quinariaref07_Tree.f K I N O=some (treeB I N O):=by
  unfold quinariaref07_Tree.f;have:=tree_l0 I N O hN hO N.length 0 K (by omega) hK;rw[show ((0:Nat):Int)=0 from rfl] at this;rw[this,←List.range_eq_range']
  congr 1
  have e1:(List.range N.length).all (nodeOk N)=okE N:=rfl;have e2:O.all (outOk N.length)=okO N.length O:=rfl;rw[e1,e2];unfold sizesB treeB
  cases okE N<;>cases okO N.length O<;>simp
end Rf
end Go.Proofs.YtjioobfeikbffaaGreatDoor.K
end
section
namespace Go.Proofs.YtjioobfeikbffaaGreatDoor.K
open Go.RowKit Go.Proofs.YtjioobfeikbffaaGreatDoorW.PrintWords Go.Proofs.YtjioobfeikbffaaGreatDoorW.PrintLast Go.Proofs.YtjioobfeikbffaaGreatDoorW.PrintMore
attribute [local go_sem] max2_int min2_int max_two min_two max_three min_three max_four min_four
def quinariaref07_Fits.l0:Nat→List Int→Int→Int→List (S85)→List (S50)→Option (Bool)
 |0,_,_,_,_,_=>none
 |k+1,x1,x5,x633000,x633001,x633002=>if x5≤(x633001.length:Int) then((quinariaref07_Sum.f k x633000 x633001 x633002 x1 x5).bind fun t633=>((quinariaref07_Cap.f x633000 x633001 x633002 x5).bind fun t634=>(if t633>t634 then(some false) else(quinariaref07_Fits.l0 k x1 (wrap64 (x5+1)) x633000 x633001 x633002)))) else(some true)
def quinariaref07_Fits.f (k:Nat) (a0_0:Int) (l0_1:List (S85)) (l0_2:List (S50)) (l1:List Int):Option (Bool):=quinariaref07_Fits.l0 k l1 0 a0_0 l0_1 l0_2
end Go.Proofs.YtjioobfeikbffaaGreatDoor.K
end
section
namespace Go.Proofs.YtjioobfeikbffaaGreatDoor.K
open Dr Go.RowKit Go.Proofs.YtjioobfeikbffaaGreatDoorW.PrintWords Go.Proofs.YtjioobfeikbffaaGreatDoorW.PrintLast Go.Proofs.YtjioobfeikbffaaGreatDoorW.PrintMore
namespace Rf
variable {I:Int} {N:List SN} {O:List SO}
theorem parent_f (hN:N.length≤1000) {n:Int} (h0:0<n) (h1:n≤N.length):quinariaref07_parent.f I N O n=some (rdN N (n-1)).f0:=by
  unfold quinariaref07_parent.f;rw[if_neg (by omega),sml (by omega) (by omega),if_pos (by omega),if_pos (by omega)]
theorem cap_f (hN:N.length≤1000) {n:Int} (h0:0≤n) (h1:n≤N.length):quinariaref07_Cap.f I N O n=some (capF I N n):=by
  unfold quinariaref07_Cap.f capF
  by_cases h:n=0
  · rw[if_pos h,if_pos h]
  · rw[if_neg h,if_neg h,sml (by omega) (by omega),if_pos (by omega),if_pos (by omega)]
theorem below_l0 (hN:N.length≤1000) (ho:okN N=true) (t:Int):∀(K:Nat) (n:Int),0≤n→n≤N.length→n+1<K→quinariaref07_Below.l0 K t n I N O=some ((upL N n).contains t)
  |K+1,n,h0,h1,hK=>by
    unfold quinariaref07_Below.l0;rw[if_pos h0]
    by_cases hz:n=0
    · subst hz;rw[up_zero]
      by_cases e:(0:Int)=t
      · rw[if_pos e];simp[e]
      · rw[if_neg e];unfold quinariaref07_parent.f;rw[if_pos rfl,Option.bind_some];obtain⟨K,rfl⟩:∃k,K=k+1:=⟨K-1,by omega⟩;unfold quinariaref07_Below.l0;rw[if_neg (by omega)];have:¬t=0:=fun h=>e h.symm;simp[this]
    · have hp:=okN_at ho (show 0≤n-1 by omega) (by omega);rw[up_pos ho (by omega) h1]
      by_cases e:n=t
      · rw[if_pos e];simp[e]
      · rw[if_neg e,parent_f hN (by omega) h1,Option.bind_some,below_l0 hN ho t K _ hp.1 (by omega) (by omega)];have:¬t=n:=fun h=>e h.symm;simp[this]
theorem below_f (hN:N.length≤1000) (ho:okN N=true) (hO:okO N.length O=true) {i:Int} (h0:0≤i) (h1:i<O.length) (t:Int) (K:Nat) (hK:N.length+1<K):quinariaref07_Below.f K I N O i t=some (belB N O i t):=by
  unfold quinariaref07_Below.f;have hp:=okO_at hO h0 h1;rw[if_pos h0,if_pos h1];exact below_l0 hN ho t K (rdO O i).f0 hp.1 hp.2.1 (by have:=hp.2.1;omega)
theorem sum_l0 (hN:N.length≤1000) (ho:okN N=true) (hO:okO N.length O=true) {s:List Int} (hs:s.length≤O.length) (hl:s.length≤1000) (hr:∀i:Nat,i<s.length→0≤rd s i∧rd s i≤1000) (t:Int):
    ∀(d j K:Nat),j+d=s.length→d+N.length+2<K→quinariaref07_Sum.l0 K s t (sumTo N O s t j) (j:Int) I N O=some (sumTo N O s t s.length)
  |0,j,K+1,hj,hK=>by
    unfold quinariaref07_Sum.l0;rw[if_neg (by omega),show j=s.length by omega]
  |d+1,j,K+1,hj,hK=>by
    unfold quinariaref07_Sum.l0;have ih:=sum_l0 hN ho hO hs hl hr t d (j+1) K (by omega) (by omega);rw[show ((j+1:Nat):Int)=(j:Int)+1 by omega] at ih;have hx:=hr j (by omega);have hg:=sumTo_range (N:=N) (O:=O) (s:=s) (n:=t) (k:=j) (fun i hi=>hr i (by omega));rw[if_pos (by omega),below_f hN ho hO (by omega) (by omega) t K (by omega),Option.bind_some,sml (a:=(j:Int)+1) (by omega) (by omega)]
    cases hb:belB N O (j:Int) t with
    |true=>
      rw[if_pos rfl,if_pos (by omega),sml (by omega) (by omega)];simp only[sumTo,hb,if_true] at ih⊢;exact ih
    |false=>
      rw[if_neg (by simp)];simp only[sumTo,hb,Bool.false_eq_true,if_false,Int.add_zero] at ih⊢;exact ih
theorem sum_f (hN:N.length≤1000) (ho:okN N=true) (hO:okO N.length O=true) {s:List Int} (hs:s.length≤O.length) (hl:s.length≤1000) (hr:∀i:Nat,i<s.length→0≤rd s i∧rd s i≤1000) (t:Int) (K:Nat) (hK:s.length+N.length+2<K):quinariaref07_Sum.f K I N O s t=some (sumTo N O s t s.length):=
  sum_l0 hN ho hO hs hl hr t s.length 0 K (by omega) hK
theorem list_l0 {s:List Int} (hs:s.length=O.length) (hl:s.length≤1000):
    ∀(d j K:Nat),j+d=s.length→d<K→quinariaref07_List.l0 K s (j:Int) I N O=some ((List.range' j d).all fun i=>decide (0≤rd s i)&&decide (rd s i≤(rdO O i).f1))
  |0,j,K+1,hj,hK=>by
    unfold quinariaref07_List.l0;rw[if_neg (by omega)]
    rfl
  |d+1,j,K+1,hj,hK=>by
    unfold quinariaref07_List.l0;have ih:=list_l0 hs hl d (j+1) K (by omega) (by omega);rw[show ((j+1:Nat):Int)=(j:Int)+1 by omega] at ih;rw[if_pos (by omega),if_pos (by omega),if_pos (by omega),in_f,Option.bind_some,sml (by omega) (by omega),ih,List.range'_succ,List.all_cons];unfold inB
    cases h:(decide (0≤rd s (j:Int))&&decide (rd s (j:Int)≤(rdO O (j:Int)).f1)) with
    |true=>rw[if_pos rfl];simp
    |false=>rw[if_neg (by simp)];simp
theorem list_f {s:List Int} (hl:O.length≤1000) (K:Nat) (hK:O.length<K):quinariaref07_List.f K I N O s=some (areB O s):=by
  unfold quinariaref07_List.f areB
  by_cases h:s.length=O.length
  · rw[if_pos (by omega),decide_eq_true h,Bool.true_and,List.range_eq_range'];exact list_l0 h (by omega) s.length 0 K (by omega) (by omega)
  · rw[if_neg (by omega),decide_eq_false h,Bool.false_and]
theorem are_rng {s:List Int} (hO:okO N.length O=true) (h:areB O s=true):s.length=O.length∧∀i:Nat,i<s.length→0≤rd s i∧rd s i≤1000:=by
  obtain⟨hl,h⟩:=are_iff.mp h;refine⟨hl,fun i hi=>?_⟩;have h1:=h i (by omega);have h2:=okO_at hO (show (0:Int)≤i by omega) (by omega)
  omega
structure Okw (N:List SN) (O:List SO):Prop where
  n:okN N=true
  o:okO N.length O=true
  nl:N.length≤6
  ol:O.length≤8
end Rf
end Go.Proofs.YtjioobfeikbffaaGreatDoor.K
end
section
namespace Go.Proofs.YtjioobfeikbffaaGreatDoor.K
open Go.RowKit Go.Proofs.YtjioobfeikbffaaGreatDoorW.PrintWords Go.Proofs.YtjioobfeikbffaaGreatDoorW.PrintLast Go.Proofs.YtjioobfeikbffaaGreatDoorW.PrintMore
attribute [local go_sem] max2_int min2_int max_two min_two max_three min_three max_four min_four
def quinariaref07_more.f (l0:List Int) (a1:Int) (a2:Int):Option (List Int):=if([]:List Int).length+l0.length<17592186044416 then((some (([]:List Int)++l0:List Int)).bind fun y635=>(if 0≤a1 then(if a1<(y635.length:Int) then(some (y635.set (a1:Int).toNat (wrap64 ((rd y635 a1)+a2)))) else(none)) else(none))) else(none)
mutual
def quinariaref07_Ordered.l0:Nat→List Int→List Int→Int→Int→List (S85)→List (S50)→Option (List Int)
 |0,_,_,_,_,_,_=>none
 |k+1,x1,x5,x6,x641000,x641001,x641002=>if x6<(x1.length:Int) then(quinariaref07_Ordered.l1 k x1 x5 x6 true x641000 x641001 x641002) else(some x5)
def quinariaref07_Ordered.l1:Nat→List Int→List Int→Int→Bool→Int→List (S85)→List (S50)→Option (List Int)
 |0,_,_,_,_,_,_,_=>none
 |k+1,x1,x5,x6,x7,x641000,x641001,x641002=>if x7=true then(quinariaref07_Ordered.l2 k x1 x5 x6 false 0 x641000 x641001 x641002) else(quinariaref07_Ordered.l0 k x1 x5 (wrap64 (x6+1)) x641000 x641001 x641002)
def quinariaref07_Ordered.l2:Nat→List Int→List Int→Int→Bool→Int→Int→List (S85)→List (S50)→Option (List Int)
 |0,_,_,_,_,_,_,_,_=>none
 |k+1,x1,x5,x6,x7,x8,x641000,x641001,x641002=>if x8<(x641002.length:Int) then(if 0≤x8 then(if 0≤x6 then(if x6<(x1.length:Int) then(if ((rd_T50 x641002 x8).f2)=(rd x1 x6) then(if x8<(x5.length:Int) then(quinariaref07_Ordered.j3 k x1 x5 x6 x7 x8 (decide ((rd x5 x8)<((rd_T50 x641002 x8).f1))) x641000 x641001 x641002) else(none)) else(quinariaref07_Ordered.j3 k x1 x5 x6 x7 x8 false x641000 x641001 x641002)) else(none)) else(none)) else(none)) else(quinariaref07_Ordered.l1 k x1 x5 x6 x7 x641000 x641001 x641002)
def quinariaref07_Ordered.j3:Nat→List Int→List Int→Int→Bool→Int→Bool→Int→List (S85)→List (S50)→Option (List Int)
 |0,_,_,_,_,_,_,_,_,_=>none
 |k+1,x1,x5,x6,x7,x8,x51,x641000,x641001,x641002=>if x51=true then((quinariaref07_more.f x5 x8 1).bind fun t648=>((quinariaref07_Fits.f k x641000 x641001 x641002 t648).bind fun t651=>(if t651=true then(quinariaref07_Ordered.l2 k x1 t648 x6 true (wrap64 (x8+1)) x641000 x641001 x641002) else(quinariaref07_Ordered.l2 k x1 x5 x6 x7 (wrap64 (x8+1)) x641000 x641001 x641002)))) else(quinariaref07_Ordered.l2 k x1 x5 x6 x7 (wrap64 (x8+1)) x641000 x641001 x641002)
end
def quinariaref07_Ordered.f (k:Nat) (a0_0:Int) (l0_1:List (S85)) (l0_2:List (S50)) (l1:List Int):Option (List Int):=if 0≤(l0_2.length:Int) then(if ((l0_2.length:Int):Int).toNat≤35184372088832 then(quinariaref07_Ordered.l0 k l1 (List.replicate ((l0_2.length:Int):Int).toNat 0) 0 a0_0 l0_1 l0_2) else(none)) else(none)
def quinariaref07_Shares.f (k:Nat) (a0_0:Int) (l0_1:List (S85)) (l0_2:List (S50)):Option (List Int):=(quinariaref07_Ordered.f k a0_0 l0_1 l0_2 (([0,1,2,3]:List Int))).bind fun t656=>(some t656)
end Go.Proofs.YtjioobfeikbffaaGreatDoor.K
end
section
namespace Go.Proofs.YtjioobfeikbffaaGreatDoor.K
open Dr Go.RowKit Go.Proofs.YtjioobfeikbffaaGreatDoorW.PrintWords Go.Proofs.YtjioobfeikbffaaGreatDoorW.PrintLast Go.Proofs.YtjioobfeikbffaaGreatDoorW.PrintMore
namespace Rf
variable {I:Int} {N:List SN} {O:List SO}
section
variable (h:Okw N O) {order:List Int} {x:Nat} (hx:x<order.length) (hol:order.length≤1000) {r:List Int}
include h hx
include hol
end
theorem law_len (h:treeB I N O=true):(lawF I N O).length=O.length:=(are_iff.mp (ordered_are (tree_ok h).o)).1
theorem sharesC_f (hN:N.length≤1000) (hO:O.length≤1000):drought_Shares.f I N O=some (if treeB I N O=true then(lawF I N O,0) else([],2)):=by
  unfold drought_Shares.f drought_isTree.f;rw[if_pos ⟨by omega,by omega⟩,Option.bind_some]
  cases h:treeB I N O with
  |false=>rfl
  |true=>
    have ht:=tree_ok h;simp only[if_true];unfold drought_law.f;rw[if_pos (by unfold treeOk;simp[ht.n,ht.o,ht.ol,ht.nl];try omega),Option.bind_some]
end Rf
end Go.Proofs.YtjioobfeikbffaaGreatDoor.K
end
section
namespace Go.Proofs.YtjioobfeikbffaaGreatDoor.K
open Go.RowKit Go.Deep Go.ChangeShapes Go.WideShapes Go.ChangeAt Go.Proofs.YtjioobfeikbffaaGreatDoorW.PrintWords Go.Proofs.YtjioobfeikbffaaGreatDoorW.PrintLast Go.Proofs.YtjioobfeikbffaaGreatDoorW.PrintMore
set_option maxRecDepth 100000
section
variable {H:Type} {enc:TypeId×Value→H} {w:World} {base:Nat} {spare:Nat→Bool} {held:Bool} {fuel:Nat} {cs:List Value} {x:DataW H×List MemPlace}
theorem list1 {α:Type} {l:List α} (h:l.length=1):∃a,l=[a]:=by
  cases l with
  |nil=>cases h
  |cons a l=>cases l with
    |nil=>exact⟨a,rfl⟩
    |cons b l=>simp at h
theorem list_succ {α:Type} {l:List α} {n:Nat} (h:l.length=n+1):∃a m,l=a::m∧m.length=n:=by
  cases l with
  |nil=>simp at h
  |cons a m=>exact⟨a,m,rfl,by simpa using h⟩
theorem el_int {fuel:Nat} {cs:List Value} {x:DataW H×List MemPlace} (h:DataW.trod enc Tryz.prog w base spare held fuel 3 cs=some x):∃z:Int,cs=[.int .i64 z]:=by
  obtain⟨z,e,_⟩:=DataW.trod_int Tryz.underlying3 h;exact⟨z,e⟩
theorem some_at {α:Type} {xs:List α} {i:Nat} (h:i<xs.length):∃y,xs[i]? =some y:=⟨_,List.getElem?_eq_getElem h⟩
theorem choose_list {α:Type} {P:Nat→α→Prop}:∀n:Nat,(∀ j,j<n→∃a,P j a)→∃xs:List α,xs.length=n∧∀j p,xs[j]? =some p→P j p
  |0,_=>⟨[],rfl,fun j p h=>by simp at h⟩
  |n+1,h=>by
    obtain⟨xs,hl,hx⟩:=choose_list n (fun j hj=>h j (by omega));obtain⟨a,ha⟩:=h n (by omega);refine⟨xs++[a],by simp[hl],fun j p hp=>?_⟩
    by_cases hj:j<xs.length
    · rw[List.getElem?_append_left hj] at hp;exact hx j p hp
    · rw[List.getElem?_append_right (by omega)] at hp
      have:j=n:=by
        have:=(List.getElem?_eq_some_iff.1 hp).1;simp at this;omega
      subst this;rw[hl,Nat.sub_self] at hp;obtain rfl:a=p:=by simpa using hp
      exact ha
theorem open_rows {α:Type} (d:Kd α) {t e:TypeId} {fuel:Nat} {cs:List Value} {x:DataW H×List MemPlace} (encs:α→List Value) (ht:Tryz.prog.underlying t=some (.slice e)) (hsz:Tryz.prog.cellsOf e=d.sz) (hn:∀a,(encs a).length=d.sz) (h0:0<d.sz) (hK:∀a,d.K w a (encs a))
    (hel:∀(fuel:Nat) (cs:List Value) (x:DataW H×List MemPlace),DataW.trod enc Tryz.prog w base spare held fuel e cs=some x→∃a,cs=encs a) (h:DataW.trod enc Tryz.prog w base spare held fuel t cs=some x):
    ∃(A:Option Addr) (xs:List α) (c:Nat),cs=[.slice A xs.length c]∧Kd.C d w A xs.length xs∧xs.length≤c∧xs.length≤maxLen:=by
  rcases open_slice ht h with⟨rfl,_⟩|⟨a,len,cap,m,n,D,Pl,rfl,_,hl,hm,hmm,_,hall⟩
  · exact⟨none,[],0,rfl,⟨rfl,by simp,fun h=>absurd h (by simp)⟩,Nat.le_refl _,Nat.zero_le _⟩
  · have hlm:len≤m:=by rw[hmm];split<;>omega
    obtain⟨xs,hxl,hx⟩:=choose_list (P:=fun j (p:α)=>w.cells? base (a.add (j*d.sz)) d.sz=some (encs p)) len (fun j hj=>by
      obtain⟨cs',h1,h2⟩:=hall j (by omega);obtain⟨p,rfl⟩:=hel _ _ _ h2;rw[hsz] at h1
      exact⟨p,h1⟩)
    refine⟨some a,xs,cap,by rw[hxl],⟨rfl,by rw[hxl];unfold maxLen at hm;omega,fun _=>⟨a,rfl,fun j p hp=>⟨encs p,hn p,hK p,fun i u hi=>?_⟩⟩⟩,by omega,by omega⟩;have h1:=World.cells?_some (hx j p hp);have hi':i<d.sz:=by have:=(List.getElem?_eq_some_iff.1 hi).1;rw[hn] at this;exact this
    have h2:=h1.2.2 i hi';rw[hi] at h2
    have h3:a.add (j*d.sz+i)=(a.add (j*d.sz)).add i:=by
      unfold Addr.add
      by_cases e1:j*d.sz=0<;>by_cases e2:i=0<;>simp[e1,e2]<;>omega
    rw[h3];exact h2
theorem el_node {fuel:Nat} {cs:List Value} {x:DataW H×List MemPlace} (h:DataW.trod enc Tryz.prog w base spare held fuel 85 cs=some x):∃s:S85,cs=[.int .i64 s.f0,.int .i64 s.f1]:=by
  obtain⟨xs,n,-,-,hl,hx,hf⟩:=DataW.trod_struct Tryz.underlying85 h;rw[show Tryz.prog.cellsOf 85=2 by kernel_rfl] at hl;obtain⟨a,m1,rfl,hl1⟩:=list_succ hl;obtain⟨b,rfl⟩:=list1 hl1;have hx:xs.length=2:=hx;obtain⟨y0,h0⟩:=some_at (xs:=xs) (i:=0) (by omega);obtain⟨y1,h1⟩:=some_at (xs:=xs) (i:=1) (by omega);have f0:=(hf 0 _ rfl).trans h0;have f1:=(hf 1 _ rfl).trans h1
  change DataW.trod enc Tryz.prog w base spare held n 3 (([a,b].drop 0).take (Tryz.prog.cellsOf 3))=_ at f0
  rw[show Tryz.prog.cellsOf 3=1 by kernel_rfl] at f0;replace f0:DataW.trod enc Tryz.prog w base spare held n 3 [a]=_:=f0
  change DataW.trod enc Tryz.prog w base spare held n 3 (([a,b].drop 1).take (Tryz.prog.cellsOf 3))=_ at f1
  rw[show Tryz.prog.cellsOf 3=1 by kernel_rfl] at f1;replace f1:DataW.trod enc Tryz.prog w base spare held n 3 [b]=_:=f1;obtain⟨z0,e0⟩:=el_int f0;obtain⟨z1,e1⟩:=el_int f1
  cases e0
  cases e1
  exact⟨⟨z0,z1⟩,rfl⟩
theorem el_outlet {fuel:Nat} {cs:List Value} {x:DataW H×List MemPlace} (h:DataW.trod enc Tryz.prog w base spare held fuel 50 cs=some x):∃s:S50,cs=[.int .i64 s.f0,.int .i64 s.f1,.int .i64 s.f2]:=by
  obtain⟨xs,n,-,-,hl,hx,hf⟩:=DataW.trod_struct Tryz.underlying50 h;rw[show Tryz.prog.cellsOf 50=3 by kernel_rfl] at hl;obtain⟨a,m1,rfl,hl1⟩:=list_succ hl;obtain⟨b,m2,rfl,hl2⟩:=list_succ hl1;obtain⟨c,rfl⟩:=list1 hl2;have hx:xs.length=3:=hx;obtain⟨y0,h0⟩:=some_at (xs:=xs) (i:=0) (by omega);obtain⟨y1,h1⟩:=some_at (xs:=xs) (i:=1) (by omega);obtain⟨y2,h2⟩:=some_at (xs:=xs) (i:=2) (by omega);have f0:=(hf 0 _ rfl).trans h0;have f1:=(hf 1 _ rfl).trans h1;have f2:=(hf 2 _ rfl).trans h2
  change DataW.trod enc Tryz.prog w base spare held n 3 (([a,b,c].drop 0).take (Tryz.prog.cellsOf 3))=_ at f0
  rw[show Tryz.prog.cellsOf 3=1 by kernel_rfl] at f0;replace f0:DataW.trod enc Tryz.prog w base spare held n 3 [a]=_:=f0
  change DataW.trod enc Tryz.prog w base spare held n 3 (([a,b,c].drop 1).take (Tryz.prog.cellsOf 3))=_ at f1
  rw[show Tryz.prog.cellsOf 3=1 by kernel_rfl] at f1;replace f1:DataW.trod enc Tryz.prog w base spare held n 3 [b]=_:=f1
  change DataW.trod enc Tryz.prog w base spare held n 3 (([a,b,c].drop 2).take (Tryz.prog.cellsOf 3))=_ at f2
  rw[show Tryz.prog.cellsOf 3=1 by kernel_rfl] at f2;replace f2:DataW.trod enc Tryz.prog w base spare held n 3 [c]=_:=f2;obtain⟨z0,e0⟩:=el_int f0;obtain⟨z1,e1⟩:=el_int f1;obtain⟨z2,e2⟩:=el_int f2
  cases e0
  cases e1
  cases e2
  exact⟨⟨z0,z1,z2⟩,rfl⟩
theorem rows_nodes {fuel:Nat} {cs:List Value} {x:DataW H×List MemPlace} (h:DataW.trod enc Tryz.prog w base spare held fuel 22 cs=some x):∃(A:Option Addr) (xs:List S85) (c:Nat),cs=[.slice A xs.length c]∧At' k85 w A xs.length c xs:=by
  obtain⟨A,xs,c,h1,h2,h3,_⟩:=open_rows k85 (fun s=>[.int .i64 s.f0,.int .i64 s.f1]) Tryz.underlying22 (by kernel_rfl) (fun _=>rfl) (by decide) (fun s=>k85_mk w s) (fun _ _ _ h=>el_node h) h;exact⟨A,xs,c,h1,h2,h3⟩
theorem rows_outlets {fuel:Nat} {cs:List Value} {x:DataW H×List MemPlace} (h:DataW.trod enc Tryz.prog w base spare held fuel 23 cs=some x):∃(A:Option Addr) (xs:List S50) (c:Nat),cs=[.slice A xs.length c]∧At' k50 w A xs.length c xs:=by
  obtain⟨A,xs,c,h1,h2,h3,_⟩:=open_rows k50 (fun s=>[.int .i64 s.f0,.int .i64 s.f1,.int .i64 s.f2]) Tryz.underlying23 (by kernel_rfl) (fun _=>rfl) (by decide) (fun s=>k50_mk w s) (fun _ _ _ h=>el_outlet h) h;exact⟨A,xs,c,h1,h2,h3⟩
theorem agg_list {cs:Array Value} {l:List Value} (h:cs.toList=l):cs=l.toArray:=by rw[← h]
theorem open_tree {v:Value} {dd:DataW H} {p:List MemPlace} (hv:Value.okWide Tryz.prog w .any base 25 v) (h:DataW.Trod enc Tryz.prog w 0 spare held 25 v dd p):
    ∃(I:Int) (A0:Option Addr) (N:List S85) (c0:Nat) (A1:Option Addr) (O:List S50) (c1:Nat),v=.agg #[.int .i64 I,.slice A0 N.length c0,.slice A1 O.length c1]∧At' k85 w A0 N.length c0 N∧At' k50 w A1 O.length c1 O:=by
  obtain⟨cs,rfl,-⟩:=okWide_struct Tryz.underlying25 hv;obtain⟨fuel,h⟩:=h;obtain⟨xs,n,-,-,hl,hx,hf⟩:=DataW.trod_struct Tryz.underlying25 h;rw[show Tryz.prog.cellsOf 25=3 by kernel_rfl] at hl;obtain⟨a,m1,e1,hl1⟩:=list_succ hl;obtain⟨b,m2,rfl,hl2⟩:=list_succ hl1;obtain⟨c,rfl⟩:=list1 hl2;rw[e1] at hf;have hx:xs.length=3:=hx;obtain⟨y0,h0⟩:=some_at (xs:=xs) (i:=0) (by omega);obtain⟨y1,h1⟩:=some_at (xs:=xs) (i:=1) (by omega);obtain⟨y2,h2⟩:=some_at (xs:=xs) (i:=2) (by omega);have f0:=(hf 0 _ rfl).trans h0;have f1:=(hf 1 _ rfl).trans h1;have f2:=(hf 2 _ rfl).trans h2
  change DataW.trod enc Tryz.prog w 0 spare held n 3 (([a,b,c].drop 0).take (Tryz.prog.cellsOf 3))=_ at f0
  rw[show Tryz.prog.cellsOf 3=1 by kernel_rfl] at f0;replace f0:DataW.trod enc Tryz.prog w 0 spare held n 3 [a]=_:=f0
  change DataW.trod enc Tryz.prog w 0 spare held n 22 (([a,b,c].drop 1).take (Tryz.prog.cellsOf 22))=_ at f1
  rw[show Tryz.prog.cellsOf 22=1 by kernel_rfl] at f1;replace f1:DataW.trod enc Tryz.prog w 0 spare held n 22 [b]=_:=f1
  change DataW.trod enc Tryz.prog w 0 spare held n 23 (([a,b,c].drop 2).take (Tryz.prog.cellsOf 23))=_ at f2
  rw[show Tryz.prog.cellsOf 23=1 by kernel_rfl] at f2;replace f2:DataW.trod enc Tryz.prog w 0 spare held n 23 [c]=_:=f2;obtain⟨z0,k0⟩:=el_int f0;obtain⟨A0,N,c0,k1,g0⟩:=rows_nodes f1;obtain⟨A1,O,c1,k2,g1⟩:=rows_outlets f2
  cases k0
  cases k1
  cases k2
  have e1:cs.toList=_:=e1;exact⟨z0,A0,N,c0,A1,O,c1,by rw[agg_list e1],g0,g1⟩
theorem open_num {v:Value} {dd:DataW H} {p:List MemPlace} (hv:Value.okWide Tryz.prog w .any base 3 v) (h:DataW.Trod enc Tryz.prog w 0 spare held 3 v dd p):∃z:Int,v=.int .i64 z∧(Lit.int .i64 z).wf=true:=by
  obtain⟨n,e,_,hn⟩:=open_int Tryz.underlying3 hv h;exact⟨n,e,hn.2⟩
end
end Go.Proofs.YtjioobfeikbffaaGreatDoor.K
end
