/- The walks of the functions that the laws of this seat call, and what they compute; joined out of smaller texts, part 6. -/
import Derived.Outline
import Derived.Deep.Slices
import Derived.ProofKit
import Derived.OpenShut
import Derived.ChangeMaps5
import Derived.Test.YtjioobfeikbffabGreatDoorE5
set_option linter.unusedVariables false
set_option linter.unusedSimpArgs false
section
namespace Go.Proofs.YtjioobfeikbffabGreatDoor.K
open Go.RowKit Go.Proofs.Zw Go.Proofs.Zl Go.Proofs.Zm
attribute [local go_sem] max2_int min2_int max_two min_two max_three min_three max_four min_four
mutual
def r1_Sealed.l0:Nat->List ByteArray->Int->ByteArray->Int->Int->Option (ByteArray)
 |0,_,_,_,_,_=>none
 |k+1,x0,x1,x5,x6,x7=>if x7<(x0.length:Int) then(r1_Sealed.l1 k x0 x1 x5 x6 x7 0) else(if x1=0 then(none) else(if x5.size+4≤9223372036854775807 then((r1_Decimal.f k (wrap64 (Int.tdiv (Int.tmod x6 x1) 100))).bind fun t356=>(if (x5++(⟨#[101,110,100,32]⟩:ByteArray)).size+t356.size≤9223372036854775807 then((r1_Decimal.f k (Int.tmod (wrap64 (Int.tdiv (Int.tmod x6 x1) 10)) 10)).bind fun t357=>(if ((x5++(⟨#[101,110,100,32]⟩:ByteArray))++t356).size+t357.size≤9223372036854775807 then((r1_Decimal.f k (Int.tmod (Int.tmod x6 x1) 10)).bind fun t358=>(if (((x5++(⟨#[101,110,100,32]⟩:ByteArray))++t356)++t357).size+t358.size≤9223372036854775807 then(if ((((x5++(⟨#[101,110,100,32]⟩:ByteArray))++t356)++t357)++t358).size+1≤9223372036854775807 then(some (((((x5++(⟨#[101,110,100,32]⟩:ByteArray))++t356)++t357)++t358)++(⟨#[10]⟩:ByteArray))) else(none)) else(none))) else(none))) else(none))) else(none)))
def r1_Sealed.l1:Nat->List ByteArray->Int->ByteArray->Int->Int->Int->Option (ByteArray)
 |0,_,_,_,_,_,_=>none
 |k+1,x0,x1,x5,x6,x7,x8=>if 0≤x7 then(if x7<(x0.length:Int) then(if x8<((rdOf ByteArray.empty x0 x7).size:Int) then(if 0≤x8 then(r1_Sealed.l1 k x0 x1 x5 (wrap64 (x6+(wrap64 ((wrap64 ((wrap64 (bt (rdOf ByteArray.empty x0 x7) x8))*(wrap64 (x8+1))))*(wrap64 (x7+1)))))) x7 (wrap64 (x8+1))) else(none)) else(if x5.size+(rdOf ByteArray.empty x0 x7).size≤9223372036854775807 then(if (x5++(rdOf ByteArray.empty x0 x7)).size+1≤9223372036854775807 then(r1_Sealed.l0 k x0 x1 ((x5++(rdOf ByteArray.empty x0 x7))++(⟨#[10]⟩:ByteArray)) x6 (wrap64 (x7+1))) else(none)) else(none))) else(none)) else(none)
end
def r1_Sealed.f (k:Nat) (l0:List ByteArray) (a1:Int):Option (ByteArray):=r1_Sealed.l0 k l0 a1 (⟨#[]⟩:ByteArray) 0 0
set_option maxHeartbeats 8000000 in
set_option maxRecDepth 100000 in
theorem r1_Sealed.calls (k:Nat) (A0:Option Addr) (c0:Nat) (l0:List ByteArray) (a1:Int) (r:ByteArray) (w:World) (hr0:Kd.C Kd.string w A0 l0.length l0) (hc0:l0.length≤c0) (h:r1_Sealed.f k l0 a1=some r):
  Calls Tryz.prog 82 #[.slice A0 l0.length c0,.int .i64 a1] w fun e w'=>e=.returned (.string r)∧Below w.heap.size w w':=by
 have HR0:=aM hr0;have HC0:=aM hc0;clear hr0 hc0;have HB:=aM (Below.refl w.heap.size w);have H:(r1_Sealed.l0 k l0 a1 (⟨#[]⟩:ByteArray) 0 0)=some r:=h;clear h;have H':=aM H;clear H
 go_enter Tryz.func82,Tryz.ntmps82
 go_wp2
 go_loopg [5,6,7] k (fun kq v5 v6 v7 w'=>∃(x5_1:ByteArray) (x6_1:Int) (x7_1:Int),v5=.string x5_1∧v6=.int .i64 x6_1∧v7=.int .i64 x7_1∧Aside0 (r1_Sealed.l0 kq l0 a1 x5_1 x6_1 x7_1=some r)∧Aside0 (kq≤k)∧Aside0 (Below w.heap.size w w'))
 case atStart=>exact⟨((⟨#[]⟩:ByteArray)),(0),(0),u0,u0,u0,H',⟨Nat.le_refl _⟩,⟨uB⟩⟩
 case round=>
  clear H';(try clear p2);obtain⟨x5_1,x6_1,x7_1,rfl,rfl,rfl,HA,HK1,HB⟩:=hrel
  cases gk with
  |zero=>exact absurd HA.out (by simp[r1_Sealed.l0])
  |succ k1=>
   have H:=HA.out;clear HA;simp only[r1_Sealed.l0] at H
   by_cases c3:x7_1<(l0.length:Int)
   ·rw[if_pos c3] at H;replace c3:=decide_eq_true c3;have H':=aM H;clear H;go_wp2
    go_loopg [6,8] k1 (fun kq v6 v8 w'=>∃(x6_2:Int) (x8_2:Int),v6=.int .i64 x6_2∧v8=.int .i64 x8_2∧Aside0 (r1_Sealed.l1 kq l0 a1 x5_1 x6_2 x7_1 x8_2=some r)∧Aside0 (kq≤k1)∧Aside0 (Below w.heap.size w w'))
    case atStart=>exact⟨(x6_1),(0),u0,u0,H',⟨Nat.le_refl _⟩,⟨uB⟩⟩
    case round=>
     clear H';try clear p2;try clear c3;try clear c3b0;try clear p2
     obtain⟨x6_2,x8_2,rfl,rfl,HA,HK2,HB⟩:=hrel
     cases gk with
     |zero=>exact absurd HA.out (by simp[r1_Sealed.l1])
     |succ k2=>
      have H:=HA.out;clear HA;simp only[r1_Sealed.l1] at H;obtain⟨c4,H⟩:=ifs H;replace c4:=decide_eq_true c4;obtain⟨c5,H⟩:=ifs H;replace c5:=decide_eq_true c5
      by_cases c6:x8_2<((rdOf ByteArray.empty l0 x7_1).size:Int)
      ·rw[if_pos c6] at H;replace c6:=decide_eq_true c6;obtain⟨c7,H⟩:=ifs H;replace c7:=decide_eq_true c7;have H':=aM H;clear H;have p359:0≤(x7_1:Int):=uD;have q359:x7_1<(l0.length:Int):=uD;obtain⟨ad359,e359,hx359_0⟩:=Kd.at_string HR0.out x7_1 p359 q359
       cases e359
       replace hx359_0:=hcell HB.out hx359_0;replace p359:=eq_true p359;replace q359:=eq_true q359;have p360:0≤(x7_1:Int):=uD;have q360:x7_1<(l0.length:Int):=uD;obtain⟨ad360,e360,hx360_0⟩:=Kd.at_string HR0.out x7_1 p360 q360;obtain rfl:ad359=ad360:=(by injection e360);replace hx360_0:=hcell HB.out hx360_0;replace p360:=eq_true p360;replace q360:=eq_true q360;have p8:0≤(x8_2:Int):=uD;have q8:x8_2<((rdOf ByteArray.empty l0 x7_1).size:Int):=uD;have hx8:=bt_at (rdOf ByteArray.empty l0 x7_1) x8_2;replace p8:=eq_true p8;replace q8:=eq_true q8;go_wp2
       go_roundg k2
       case measure=>have:=HK1.out;have:=HK2.out;omega
       case rel=>exact⟨(wrap64 (x6_2+(wrap64 ((wrap64 ((wrap64 (bt (rdOf ByteArray.empty l0 x7_1) x8_2))*(wrap64 (x8_2+1))))*(wrap64 (x7_1+1)))))),(wrap64 (x8_2+1)),u0,u0,H',⟨by have:=HK1.out;have:=HK2.out;omega⟩,⟨uB⟩⟩
      ·rw[if_neg c6] at H;replace c6:=decide_eq_false c6;obtain⟨c9,H⟩:=ifs H;have c9b0:=eq_true c9;have c9b1:decide (x5_1.size+(rdOf ByteArray.empty l0 x7_1).size≤9223372036854775807)=true:=decide_eq_true c9;(try have c9b2:(9223372036854775807<x5_1.size+(rdOf ByteArray.empty l0 x7_1).size)=False:=eq_false (Nat.not_lt.2 c9));obtain⟨c10,H⟩:=ifs H;have c10b0:=eq_true c10;have c10b1:decide ((x5_1++(rdOf ByteArray.empty l0 x7_1)).size+1≤9223372036854775807)=true:=decide_eq_true c10;have c10':=c10;simp only[ByteArray.size_append] at c10';have c10b3:=eq_true c10';have c10b4:=decide_eq_true c10';have c10b5:=eq_false (Nat.not_lt.2 c10');clear c10';(try have c10b2:(9223372036854775807<(x5_1++(rdOf ByteArray.empty l0 x7_1)).size+1)=False:=eq_false (Nat.not_lt.2 c10));have H':=aM H;clear H;have p359:0≤(x7_1:Int):=uD;have q359:x7_1<(l0.length:Int):=uD;obtain⟨ad359,e359,hx359_0⟩:=Kd.at_string HR0.out x7_1 p359 q359
       cases e359
       replace hx359_0:=hcell HB.out hx359_0;replace p359:=eq_true p359;replace q359:=eq_true q359;have p361:0≤(x7_1:Int):=uD;have q361:x7_1<(l0.length:Int):=uD;obtain⟨ad361,e361,hx361_0⟩:=Kd.at_string HR0.out x7_1 p361 q361;obtain rfl:ad359=ad361:=(by injection e361);replace hx361_0:=hcell HB.out hx361_0;replace p361:=eq_true p361;replace q361:=eq_true q361;go_wp2
       go_roundg k2
       case measure=>have:=HK1.out;have:=HK2.out;omega
       case rel=>exact⟨((x5_1++(rdOf ByteArray.empty l0 x7_1))++(⟨#[10]⟩:ByteArray)),(x6_2),(wrap64 (x7_1+1)),u0,u0,u0,H',⟨by have:=HK1.out;have:=HK2.out;omega⟩,⟨uB⟩⟩
   ·rw[if_neg c3] at H;replace c3:=decide_eq_false c3
    by_cases c11:a1=0
    ·rw[if_pos c11] at H;exact absurd H (by simp)
    ·rw[if_neg c11] at H;have c11b0:(a1==0)=false:=beq_eq_false_iff_ne.mpr c11;have c11b1:(a1 !=0)=true:=bne_iff_ne.mpr c11;obtain⟨c12,H⟩:=ifs H;have c12b0:=eq_true c12;have c12b1:decide (x5_1.size+4≤9223372036854775807)=true:=decide_eq_true c12;(try have c12b2:(9223372036854775807<x5_1.size+4)=False:=eq_false (Nat.not_lt.2 c12));replace H:=Option.bind_eq_some_iff.mp H;obtain⟨t356,A130,H⟩:=H;replace H:(if (x5_1++(⟨#[101,110,100,32]⟩:ByteArray)).size+t356.size≤9223372036854775807 then((r1_Decimal.f k1 (Int.tmod (wrap64 (Int.tdiv (Int.tmod x6_1 a1) 10)) 10)).bind fun t357=>(if ((x5_1++(⟨#[101,110,100,32]⟩:ByteArray))++t356).size+t357.size≤9223372036854775807 then((r1_Decimal.f k1 (Int.tmod (Int.tmod x6_1 a1) 10)).bind fun t358=>(if (((x5_1++(⟨#[101,110,100,32]⟩:ByteArray))++t356)++t357).size+t358.size≤9223372036854775807 then(if ((((x5_1++(⟨#[101,110,100,32]⟩:ByteArray))++t356)++t357)++t358).size+1≤9223372036854775807 then(some (((((x5_1++(⟨#[101,110,100,32]⟩:ByteArray))++t356)++t357)++t358)++(⟨#[10]⟩:ByteArray))) else(none)) else(none))) else(none))) else(none))=some r:=H;have A13:=aM A130;clear A130;obtain⟨c14,H⟩:=ifs H;have c14b0:=eq_true c14;have c14b1:decide ((x5_1++(⟨#[101,110,100,32]⟩:ByteArray)).size+t356.size≤9223372036854775807)=true:=decide_eq_true c14;have c14':=c14;simp only[ByteArray.size_append] at c14';(try rw[show (⟨#[101,110,100,32]⟩:ByteArray).size=4 from rfl] at c14');have c14b3:=eq_true c14';have c14b4:=decide_eq_true c14';have c14b5:=eq_false (Nat.not_lt.2 c14');clear c14';(try have c14b2:(9223372036854775807<(x5_1++(⟨#[101,110,100,32]⟩:ByteArray)).size+t356.size)=False:=eq_false (Nat.not_lt.2 c14));replace H:=Option.bind_eq_some_iff.mp H;obtain⟨t357,A150,H⟩:=H;replace H:(if ((x5_1++(⟨#[101,110,100,32]⟩:ByteArray))++t356).size+t357.size≤9223372036854775807 then((r1_Decimal.f k1 (Int.tmod (Int.tmod x6_1 a1) 10)).bind fun t358=>(if (((x5_1++(⟨#[101,110,100,32]⟩:ByteArray))++t356)++t357).size+t358.size≤9223372036854775807 then(if ((((x5_1++(⟨#[101,110,100,32]⟩:ByteArray))++t356)++t357)++t358).size+1≤9223372036854775807 then(some (((((x5_1++(⟨#[101,110,100,32]⟩:ByteArray))++t356)++t357)++t358)++(⟨#[10]⟩:ByteArray))) else(none)) else(none))) else(none))=some r:=H;have A15:=aM A150;clear A150;obtain⟨c16,H⟩:=ifs H;have c16b0:=eq_true c16;have c16b1:decide (((x5_1++(⟨#[101,110,100,32]⟩:ByteArray))++t356).size+t357.size≤9223372036854775807)=true:=decide_eq_true c16;have c16':=c16;simp only[ByteArray.size_append] at c16';(try rw[show (⟨#[101,110,100,32]⟩:ByteArray).size=4 from rfl] at c16');have c16b3:=eq_true c16';have c16b4:=decide_eq_true c16';have c16b5:=eq_false (Nat.not_lt.2 c16');clear c16';(try have c16b2:(9223372036854775807<((x5_1++(⟨#[101,110,100,32]⟩:ByteArray))++t356).size+t357.size)=False:=eq_false (Nat.not_lt.2 c16));replace H:=Option.bind_eq_some_iff.mp H;obtain⟨t358,A170,H⟩:=H;replace H:(if (((x5_1++(⟨#[101,110,100,32]⟩:ByteArray))++t356)++t357).size+t358.size≤9223372036854775807 then(if ((((x5_1++(⟨#[101,110,100,32]⟩:ByteArray))++t356)++t357)++t358).size+1≤9223372036854775807 then(some (((((x5_1++(⟨#[101,110,100,32]⟩:ByteArray))++t356)++t357)++t358)++(⟨#[10]⟩:ByteArray))) else(none)) else(none))=some r:=H;have A17:=aM A170;clear A170;obtain⟨c18,H⟩:=ifs H;have c18b0:=eq_true c18;have c18b1:decide ((((x5_1++(⟨#[101,110,100,32]⟩:ByteArray))++t356)++t357).size+t358.size≤9223372036854775807)=true:=decide_eq_true c18;have c18':=c18;simp only[ByteArray.size_append] at c18';(try rw[show (⟨#[101,110,100,32]⟩:ByteArray).size=4 from rfl] at c18');have c18b3:=eq_true c18';have c18b4:=decide_eq_true c18';have c18b5:=eq_false (Nat.not_lt.2 c18');clear c18';(try have c18b2:(9223372036854775807<(((x5_1++(⟨#[101,110,100,32]⟩:ByteArray))++t356)++t357).size+t358.size)=False:=eq_false (Nat.not_lt.2 c18));obtain⟨c19,H⟩:=ifs H;have c19b0:=eq_true c19;have c19b1:decide (((((x5_1++(⟨#[101,110,100,32]⟩:ByteArray))++t356)++t357)++t358).size+1≤9223372036854775807)=true:=decide_eq_true c19;have c19':=c19;simp only[ByteArray.size_append] at c19';(try rw[show (⟨#[101,110,100,32]⟩:ByteArray).size=4 from rfl] at c19');have c19b3:=eq_true c19';have c19b4:=decide_eq_true c19';have c19b5:=eq_false (Nat.not_lt.2 c19');clear c19';(try have c19b2:(9223372036854775807<((((x5_1++(⟨#[101,110,100,32]⟩:ByteArray))++t356)++t357)++t358).size+1)=False:=eq_false (Nat.not_lt.2 c19));obtain rfl:=Option.some.inj H
     go_wp2_with (first|((with_reducible refine gate_callee (f:=120) rfl ?_);refine goesL_ (some 53) rfl rfl Tryz.func120 (by kernel_rfl) rfl #[.int .i64 (wrap64 (Int.tdiv (Int.tmod x6_1 a1) 100))] rfl uM ?_;(with_reducible refine(r1_Decimal.calls k1 (wrap64 (Int.tdiv (Int.tmod x6_1 a1) 100)) t356 _ A13.out).mono ?_);rintro e w20 ⟨rfl,hb⟩;refine⟨_,rfl,?_⟩;replace HB:=aM (below_step uB hb);(try clear hb))|((with_reducible refine gate_callee (f:=120) rfl ?_);refine goesL_ (some 58) rfl rfl Tryz.func120 (by kernel_rfl) rfl #[.int .i64 (Int.tmod (wrap64 (Int.tdiv (Int.tmod x6_1 a1) 10)) 10)] rfl uM ?_;(with_reducible refine(r1_Decimal.calls k1 (Int.tmod (wrap64 (Int.tdiv (Int.tmod x6_1 a1) 10)) 10) t357 _ A15.out).mono ?_);rintro e w21 ⟨rfl,hb⟩;refine⟨_,rfl,?_⟩;replace HB:=aM (below_step uB hb);(try clear hb))|((with_reducible refine gate_callee (f:=120) rfl ?_);refine goesL_ (some 62) rfl rfl Tryz.func120 (by kernel_rfl) rfl #[.int .i64 (Int.tmod (Int.tmod x6_1 a1) 10)] rfl uM ?_;(with_reducible refine(r1_Decimal.calls k1 (Int.tmod (Int.tmod x6_1 a1) 10) t358 _ A17.out).mono ?_);rintro e w22 ⟨rfl,hb⟩;refine⟨_,rfl,?_⟩;replace HB:=aM (below_step uB hb);(try clear hb)))
     go_ret;exact⟨uE,uB⟩
mutual
def r7_Print.l0:Nat->List ByteArray->Int->Int->List (S77)->List (S51)->Option (ByteArray)
 |0,_,_,_,_,_=>none
 |k+1,x3,x4,x363000,x363001,x363002=>if x4<(x363001.length:Int) then(if 0≤x4 then((r1_Row.f k (⟨#[110,111,100,101]⟩:ByteArray) (([(rd_T77 x363001 x4).f0,(rd_T77 x363001 x4).f1]:List Int))).bind fun t375=>(if x3.length<8796093022208 then(r7_Print.l0 k (x3++[t375]) (wrap64 (x4+1)) x363000 x363001 x363002) else(none))) else(none)) else(r7_Print.l1 k x3 0 x363000 x363001 x363002)
def r7_Print.l1:Nat->List ByteArray->Int->Int->List (S77)->List (S51)->Option (ByteArray)
 |0,_,_,_,_,_=>none
 |k+1,x3,x5,x363000,x363001,x363002=>if x5<(x363002.length:Int) then(if 0≤x5 then((r1_Row.f k (⟨#[111,117,116,108,101,116]⟩:ByteArray) (([(rd_T51 x363002 x5).f0,(rd_T51 x363002 x5).f1,(rd_T51 x363002 x5).f2]:List Int))).bind fun t384=>(if x3.length<8796093022208 then(r7_Print.l1 k (x3++[t384]) (wrap64 (x5+1)) x363000 x363001 x363002) else(none))) else(none)) else((r1_Sealed.f k x3 163).bind fun t388=>(some t388))
end
def r7_Print.f (k:Nat) (a0_0:Int) (l0_1:List (S77)) (l0_2:List (S51)):Option (ByteArray):=(r1_Row.f k (⟨#[100,114,111,117,103,104,116]⟩:ByteArray) (([a0_0]:List Int))).bind fun t366=>(r7_Print.l0 k (([t366]:List ByteArray)) 0 a0_0 l0_1 l0_2)
def r7_Print.T5:Bool×List (List Nat×List Nat):=(true,[([],[]),([],[]),([1],[1]),([],[]),([2,3],[2,3]),([4],[4]),([5],[5]),([],[]),([7],[7]),([],[]),([8,9],[8,9]),([10],[10]),([11],[11]),([6,12],[6,12]),([13],[13]),([14],[14]),([0,15,14],[0,15]),([16,16,0,1,2,3,4,5,6,7,8,9,10,11,12,13,14,15,16],[0,16])])
def r7_Print.B5:List Nat:=[0,0,2,0,14,30,62,0,128,0,896,1920,3968,8190,16382,32766,65535,131071]
theorem r7_Print.tab5:rtab .any (opsOf Tryz.f41 5)=r7_Print.T5:=by kernel_rfl
theorem r7_Print.bits5:waitsOk r7_Print.T5.2 r7_Print.B5=true:=by kernel_rfl
set_option maxHeartbeats 8000000 in
set_option maxRecDepth 100000 in
theorem r7_Print.calls (k:Nat) (a0_0:Int) (A0_1:Option Addr) (c0_1:Nat) (l0_1:List (S77)) (A0_2:Option Addr) (c0_2:Nat) (l0_2:List (S51)) (r:ByteArray) (w:World) (hr0_1:Kd.C k77 w A0_1 l0_1.length l0_1) (hc0_1:l0_1.length≤c0_1) (hr0_2:Kd.C k51 w A0_2 l0_2.length l0_2) (hc0_2:l0_2.length≤c0_2) (h:r7_Print.f k a0_0 l0_1 l0_2=some r):
  Calls Tryz.prog 41 #[.agg #[.int .i64 a0_0,.slice A0_1 l0_1.length c0_1,.slice A0_2 l0_2.length c0_2]] w fun e w'=>e=.returned (.string r)∧Below w.heap.size w w':=by
 have hu25:=Tryz.underlying25;have hu51:=Tryz.underlying51;have HR0_1:=aM hr0_1;have HC0_1:=aM hc0_1;clear hr0_1 hc0_1;have HR0_2:=aM hr0_2;have HC0_2:=aM hc0_2;clear hr0_2 hc0_2;have HB:=aM (Below.refl w.heap.size w);have H:((r1_Row.f k (⟨#[100,114,111,117,103,104,116]⟩:ByteArray) (([a0_0]:List Int))).bind fun t366=>(r7_Print.l0 k (([t366]:List ByteArray)) 0 a0_0 l0_1 l0_2))=some r:=h;clear h;obtain⟨y363,hy363⟩:∃y_:List Int,y_=(([a0_0]:List Int)):=⟨_,rfl⟩;rw[← hy363] at H;(try replace H:=(Option.bind_some _ _).symm.trans H)
 have Ny363:=aM hy363;clear hy363;replace H:=Option.bind_eq_some_iff.mp H;obtain⟨t366,A20,H⟩:=H;replace H:(r7_Print.l0 k (([t366]:List ByteArray)) 0 a0_0 l0_1 l0_2)=some r:=H;have A2:=aM A20;clear A20;obtain⟨y367,hy367⟩:∃y_:List ByteArray,y_=(([t366]:List ByteArray)):=⟨_,rfl⟩;rw[← hy367] at H;(try replace H:=(Option.bind_some _ _).symm.trans H)
 have Ny367:=aM hy367;clear hy367;have H':=aM H;clear H
 go_enter Tryz.func41,Tryz.ntmps41
 go_wp2_with (first|((with_reducible refine gate_dst (N:=1) rfl ?_);refine bxe 1 #[.int .i64 a0_0,.slice A0_1 l0_1.length c0_1,.slice A0_2 l0_2.length c0_2] 25 ?_;intro gb362 hg w3 hbox hb;have n0_:=aM (below_step uB hb);have n1_:=aM (hbox);have n2_:=gw hg;have n3_:=gw hg;clear HB;have HB:=n0_;have BK362:=n1_;have GW362:=n2_;have GE362:=n3_;clear n0_ n1_ n2_ n3_;clear hb hbox hg;obtain⟨hcz4_0,hcz4_1,hcz4_2⟩:=cz3 BK362.out;obtain⟨hfz4_0,hfz4_1,hfz4_2⟩:=fz3 BK362.out)|((with_reducible refine gate_dst (N:=9) rfl ?_);refine Kd.R_lit (Kd.int .i64) _ 3 ?hg (N:=9) ?hd (xs:=([a0_0]:List Int)) (inner:=[.int .i64 a0_0]) (ok:=fun _=>True) (okp:=fun _=>True) ?hr ?hp (fun _ hk=>hk) trivial (Below.refl _ _) (Nat.le_refl _) (by simp) ?_;(case hd=>rfl);(case hg=>rfl);(case hr=>first|(go_simp;done)|(go_simp;rfl));(case hp=>exact(Reps.one (show Kd.M (Kd.int .i64) _ _ _ a0_0 [.int .i64 a0_0] from rfl) (Reps.none _ _)));intro v364 w5 ho6 hb hg_ hnew_;clear hg_ hnew_;(first|rw[← Ny363.out] at ho6|(simp only[Int.reduceToNat] at ho6;rw[← Ny363.out] at ho6));have HO365:=aM (Kd.R_lower ho6 (below_size uB));replace BK362:=aM (blk_below (uK BK362.out) hb);replace HB:=aM (below_step uB hb);clear hb ho6;obtain⟨Ao7,co7,eo7⟩:=Kd.R_slice HO365.out;subst eo7)|((with_reducible refine gate_callee (f:=81) rfl ?_);refine goesL_ (some 10) rfl rfl Tryz.func81 (by kernel_rfl) rfl #[.string (⟨#[100,114,111,117,103,104,116]⟩:ByteArray),.slice Ao7 y363.length co7] rfl uM ?_;(with_reducible refine(r1_Row.calls k (⟨#[100,114,111,117,103,104,116]⟩:ByteArray) _ _ y363 t366 _ ?side1 ?side2 A2.out).mono ?_);(case side1=>exact uC ((Kd.R_reads' HO365.out).2.2));(case side2=>exact(Kd.R_reads' HO365.out).2.1);rintro e w8 ⟨rfl,hb⟩;refine⟨_,rfl,?_⟩;replace HO365:=aM (Kd.R_below (uR HO365.out) hb);replace BK362:=aM (blk_below (uK BK362.out) hb);replace HB:=aM (below_step uB hb);(try clear hb))|((with_reducible refine gate_dst (N:=11) rfl ?_);refine Kd.R_lit Kd.string _ 9 ?hg (N:=11) ?hd (xs:=([t366]:List ByteArray)) (inner:=[.string t366]) (ok:=fun _=>True) (okp:=fun _=>True) ?hr ?hp (fun _ hk=>hk) trivial (Below.refl _ _) (Nat.le_refl _) (by simp) ?_;(case hd=>rfl);(case hg=>rfl);(case hr=>first|(go_simp;done)|(go_simp;rfl));(case hp=>exact(Reps.one (show Kd.M Kd.string _ _ _ t366 [.string t366] from rfl) (Reps.none _ _)));intro v368 w9 ho10 hb hg_ hnew_;clear hg_ hnew_;(first|rw[← Ny367.out] at ho10|(simp only[Int.reduceToNat] at ho10;rw[← Ny367.out] at ho10));replace HO365:=aM (Kd.R_below (uR HO365.out) hb);have HO369:=aM (Kd.R_lower ho10 (below_size uB));replace BK362:=aM (blk_below (uK BK362.out) hb);replace HB:=aM (below_step uB hb);clear hb ho10))
 go_loopg [3,4] k (fun kq v3 v4 w'=>∃(x3_1:List ByteArray) (x4_1:Int),v4=.int .i64 x4_1∧Aside0 (r7_Print.l0 kq x3_1 x4_1 a0_0 l0_1 l0_2=some r)∧Aside0 (kq≤k)∧Aside0 (Kd.R Kd.string 9 w' w.heap.size (fun _=>True) v3 x3_1)∧Aside0 (w'.heap[gb362]? =some (.cells #[.int .i64 a0_0,(.slice A0_1 l0_1.length c0_1),(.slice A0_2 l0_2.length c0_2)] 25 (0,0)))∧Aside0 (Below w.heap.size w w'))
 case atStart=>exact⟨(y367),(0),u0,H',⟨Nat.le_refl _⟩,⟨uR HO369.out⟩,⟨uK BK362.out⟩,⟨uB⟩⟩
 case round=>
  clear H';obtain⟨x3_1,x4_1,rfl,HA,HK1,HO_3,BK362,HB⟩:=hrel
  cases gk with
  |zero=>exact absurd HA.out (by simp[r7_Print.l0])
  |succ k1=>
   have H:=HA.out;clear HA;simp only[r7_Print.l0] at H
   by_cases c11:x4_1<(l0_1.length:Int)
   ·rw[if_pos c11] at H;replace c11:=decide_eq_true c11;obtain⟨c12,H⟩:=ifs H;replace c12:=decide_eq_true c12;obtain⟨y372,hy372⟩:∃y_:List Int,y_=(([(rd_T77 l0_1 x4_1).f0,(rd_T77 l0_1 x4_1).f1]:List Int)):=⟨_,rfl⟩;rw[← hy372] at H;(try replace H:=(Option.bind_some _ _).symm.trans H)
    have Ny372:=aM hy372;clear hy372;replace H:=Option.bind_eq_some_iff.mp H;obtain⟨t375,A130,H⟩:=H;replace H:(if x3_1.length<8796093022208 then(r7_Print.l0 k1 (x3_1++[t375]) (wrap64 (x4_1+1)) a0_0 l0_1 l0_2) else(none))=some r:=H;have A13:=aM A130;clear A130;obtain⟨c14,H⟩:=ifs H;have LMc14:=aM c14;clear c14;obtain⟨y376,hy376⟩:∃y_:List ByteArray,y_=(x3_1++[t375]):=⟨_,rfl⟩;rw[← hy376] at H;(try replace H:=(Option.bind_some _ _).symm.trans H)
    have Ny376:=aM hy376;clear hy376;have H':=aM H;clear H;obtain⟨hcz15_0,hcz15_1,hcz15_2⟩:=cz3 BK362.out;obtain⟨hfz15_0,hfz15_1,hfz15_2⟩:=fz3 BK362.out;(try go_wp2);replace HO_3:=aM (Kd.R_drew HO_3.out);replace BK362:=aM (blk_drew BK362.out);replace HB:=aM (below_drew1 HB.out);have p370:0≤(x4_1:Int):=uD;have q370:x4_1<(l0_1.length:Int):=uD;obtain⟨ad370,e370,hx370_0,hx370_1⟩:=at_T77 HR0_1.out x4_1 p370 q370;have hw370_1:=hx370_1;have hw370_0:=hx370_0
    cases e370
    replace hx370_0:=hcell HB.out hx370_0;replace hx370_1:=hcell HB.out hx370_1;replace p370:=eq_true p370;replace q370:=eq_true q370;have p371:0≤(x4_1:Int):=uD;have q371:x4_1<(l0_1.length:Int):=uD;obtain⟨ad371,e371,hx371_0,hx371_1⟩:=at_T77 HR0_1.out x4_1 p371 q371;have hw371_1:=hx371_1;have hw371_0:=hx371_0;obtain rfl:ad370=ad371:=(by injection e371);replace hx371_0:=hcell HB.out hx371_0;replace hx371_1:=hcell HB.out hx371_1;replace p371:=eq_true p371;replace q371:=eq_true q371;refine start_ (n:=18) (S:=fun w'=>w'.cell? ⟨gb362,0,none⟩=some (.int .i64 a0_0)∧w'.cell? ⟨gb362,1,none⟩=some (.slice (some ad370) l0_1.length c0_1)∧w'.cell? ⟨gb362,2,none⟩=some (.slice A0_2 l0_2.length c0_2)∧w'.cell? (ad370.add ((x4_1).toNat*2))=some (.int .i64 ((rd_T77 l0_1 x4_1).f0))∧w'.cell? ⟨(ad370.add ((x4_1).toNat*2)).block,(ad370.add ((x4_1).toNat*2)).off+1,none⟩=some (.int .i64 ((rd_T77 l0_1 x4_1).f1))∧w'.cell? (ad370.add ((x4_1).toNat*2))=some (.int .i64 ((rd_T77 l0_1 x4_1).f0))∧w'.cell? ⟨(ad370.add ((x4_1).toNat*2)).block,(ad370.add ((x4_1).toNat*2)).off+1,none⟩=some (.int .i64 ((rd_T77 l0_1 x4_1).f1))) (ds:=[]) (bl 18 0) (by kernel_rfl) rfl rfl ⟨(blk_cell BK362.out 0).trans rfl,(blk_cell BK362.out 1).trans rfl,(blk_cell BK362.out 2).trans rfl,(hcell HB.out hw370_0),(hcell HB.out hw370_1),(hcell HB.out hw371_0),(hcell HB.out hw371_1)⟩ (fun hHeld=>?_);refine with_tabW r7_Print.tab5 r7_Print.bits5 (fun HT_ HW_=>?_)
    generalize wr.drew=w16 at HO_3 BK362 HB hx370_0 hx370_1 hx371_0 hx371_1 hHeld⊢;refine pu 0 19 18 1 ?_;refine pu 1 20 18 3 ?_;refine pu 3 22 18 11 ?_;refine pu 7 26 18 139 ?_;refine pu 9 28 18 651 ?_;refine tk7 2 21 18 655 hHeld ?_;refine pu 4 23 18 671 ?_;refine pu 5 24 18 703 ?_;refine tk7 6 25 18 767 hHeld ?_;refine tk7 8 27 18 1023 hHeld ?_;refine pu 10 29 18 2047 ?_;refine pu 11 30 18 4095 ?_;refine tk7 12 31 18 8191 hHeld ?_;refine one_ (i:=13) (N:=some 32) (bl 18 16383) rfl rfl (one_of HT_.out (by kernel_rfl)) (by decide) (fun K hK=>?_);refine Kd.R_lit_step (Kd.int .i64) _ 3 ?hg (N:=32) ?hd (xs:=([(rd_T77 l0_1 x4_1).f0,(rd_T77 l0_1 x4_1).f1]:List Int)) (inner:=[.int .i64 ((rd_T77 l0_1 x4_1).f0),.int .i64 ((rd_T77 l0_1 x4_1).f1)]) (ok:=fun _=>True) (okp:=fun _=>True) ?hr ?hp (fun _ hk=>hk) trivial (Below.refl _ _) (Nat.le_refl _) (by simp) ?_;(case hd=>rfl);(case hg=>rfl);(case hr=>first|(go_simp;done)|(go_simp;rfl));(case hp=>exact(Reps.one (show Kd.M (Kd.int .i64) _ _ _ ((rd_T77 l0_1 x4_1).f0) [.int .i64 ((rd_T77 l0_1 x4_1).f0)] from rfl) (Reps.one (show Kd.M (Kd.int .i64) _ _ _ ((rd_T77 l0_1 x4_1).f1) [.int .i64 ((rd_T77 l0_1 x4_1).f1)] from rfl) (Reps.none _ _))))
    intro v373 w17 ho18 hb hg_ hnew_;clear hg_ hnew_;(first|rw[← Ny372.out] at ho18|(simp only[Int.reduceToNat] at ho18;rw[← Ny372.out] at ho18));replace HO_3:=aM (Kd.R_below (uR HO_3.out) hb);have HO374:=aM (Kd.R_lower ho18 (below_size uB));replace BK362:=aM (blk_below (uK BK362.out) hb);replace HB:=aM (below_step uB hb);clear hb ho18;obtain⟨Ao19,co19,eo19⟩:=Kd.R_slice HO374.out;(first|subst eo19|(injection eo19 with f1_ f2_ f3_;have f4_:=f1_.symm;have f5_:=f3_.symm;clear f1_ f2_ f3_;subst f4_;subst f5_));refine hK.out _ _ ⟨(blk_cell BK362.out 0).trans rfl,(blk_cell BK362.out 1).trans rfl,(blk_cell BK362.out 2).trans rfl,(hcell HB.out hw370_0),(hcell HB.out hw370_1),(hcell HB.out hw371_0),(hcell HB.out hw371_1)⟩ (fun hHeld=>?_);clear hK K;refine nm ?_;refine one_ (i:=14) (N:=some 33) (bl 18 32767) rfl rfl (one_of HT_.out (by kernel_rfl)) (by decide) (fun K hK=>?_);refine goes_ Tryz.func81 (by kernel_rfl) rfl #[.string (⟨#[110,111,100,101]⟩:ByteArray),.slice Ao19 y372.length co19] (by rfl) rfl rfl uM ?_;(with_reducible refine(r1_Row.calls k1 (⟨#[110,111,100,101]⟩:ByteArray) _ _ y372 t375 _ ?side1 ?side2 A13.out).mono ?_);(case side1=>exact uC ((Kd.R_reads' HO374.out).2.2));(case side2=>exact(Kd.R_reads' HO374.out).2.1);rintro e w20 ⟨rfl,hb⟩;refine⟨_,rfl,?_⟩;replace HO_3:=aM (Kd.R_below (uR HO_3.out) hb);replace HO374:=aM (Kd.R_below (uR HO374.out) hb);replace BK362:=aM (blk_below (uK BK362.out) hb);replace HB:=aM (below_step uB hb);(try clear hb);refine hK.out _ _ ⟨(blk_cell BK362.out 0).trans rfl,(blk_cell BK362.out 1).trans rfl,(blk_cell BK362.out 2).trans rfl,(hcell HB.out hw370_0),(hcell HB.out hw370_1),(hcell HB.out hw371_0),(hcell HB.out hw371_1)⟩ (fun hHeld=>?_);clear hK K;refine nm ?_;refine one_ (i:=15) (N:=some 34) (bl 18 65535) rfl rfl (one_of HT_.out (by kernel_rfl)) (by decide) (fun K hK=>?_);refine value_ (w1:=?_) (v:=?_) (by rfl) rfl ?_ ?_;rotate_left 2
    ·go_simp
     constructor
     ·rfl
     ·rfl
    refine hK.out _ _ ⟨(blk_cell (blk_alloc BK362.out _) 0).trans rfl,(blk_cell (blk_alloc BK362.out _) 1).trans rfl,(blk_cell (blk_alloc BK362.out _) 2).trans rfl,(World.cell?_alloc_lt _ _ _ (World.block_lt_of_cell? _ _ ((hcell HB.out hw370_0)))).trans ((hcell HB.out hw370_0)),(World.cell?_alloc_lt _ _ _ (World.block_lt_of_cell? _ _ ((hcell HB.out hw370_1)))).trans ((hcell HB.out hw370_1)),(World.cell?_alloc_lt _ _ _ (World.block_lt_of_cell? _ _ ((hcell HB.out hw371_0)))).trans ((hcell HB.out hw371_0)),(World.cell?_alloc_lt _ _ _ (World.block_lt_of_cell? _ _ ((hcell HB.out hw371_1)))).trans ((hcell HB.out hw371_1))⟩ (fun hHeld=>?_);clear hK K;refine nm ?_;refine one_ (i:=16) (N:=some 35) (bl 18 131071) rfl rfl (one_of HT_.out (by kernel_rfl)) (by decide) (fun K hK=>?_);refine Kd.R_append_step Kd.string (w0:=w) w.heap.size (by rfl) (.tmp 19) (.tmp 34) 108 9 (.string ⟨#[]⟩) 16 rfl Tryz.underlying108 info9 rfl (by decide) (by omega) u3 x3_1 t375 [.string t375] (fun _=>True) (fun _=>False) rfl rfl ?aP (fun _ hk=>hk.elim) ?aF ?aO ?aB ?aS ?aL ?_;(case aP=>exact rfl);(case aB=>exact uB);(case aF=>exact(fun _ _=>trivial));(case aO=>exact(uR HO_3.out));(case aS=>exact(below_size uB));(case aL=>have:=LMc14.out;omega);intro v377 w21 ho hb hg hat;rw[← Ny376.out] at ho;replace BK362:=aM (blk_grown (uK BK362.out) hg (Kd.R_ne HO_3.out BK362.out (by decide)));replace HO374:=aM (Kd.R_over' (uR HO374.out) (Kd.R_typed (uR HO_3.out)) (by decide) hg);have HO378:=aM (ho);replace HB:=aM (hb);clear HO_3;clear ho hb hg hat;refine hK.out _ _ ⟨(blk_cell BK362.out 0).trans rfl,(blk_cell BK362.out 1).trans rfl,(blk_cell BK362.out 2).trans rfl,(hcell HB.out hw370_0),(hcell HB.out hw370_1),(hcell HB.out hw371_0),(hcell HB.out hw371_1)⟩ (fun hHeld=>?_);clear hK K;refine nm ?_;refine pu 17 3 18 262143 ?_;refine done_ (done_of HT_.out (by kernel_rfl)) ?_;try go_wp2
    go_roundg k1
    case measure=>have:=HK1.out;omega
    case rel=>exact⟨(y376),(wrap64 (x4_1+1)),u0,H',⟨by have:=HK1.out;omega⟩,⟨uR HO378.out⟩,⟨uK BK362.out⟩,⟨uB⟩⟩
   ·rw[if_neg c11] at H;replace c11:=decide_eq_false c11;have H':=aM H;clear H;obtain⟨hcz22_0,hcz22_1,hcz22_2⟩:=cz3 BK362.out;obtain⟨hfz22_0,hfz22_1,hfz22_2⟩:=fz3 BK362.out;go_wp2
    go_loopg [3,5] k1 (fun kq v3 v5 w'=>∃(x3_2:List ByteArray) (x5_2:Int),v5=.int .i64 x5_2∧Aside0 (r7_Print.l1 kq x3_2 x5_2 a0_0 l0_1 l0_2=some r)∧Aside0 (kq≤k1)∧Aside0 (Kd.R Kd.string 9 w' w.heap.size (fun _=>True) v3 x3_2)∧Aside0 (w'.heap[gb362]? =some (.cells #[.int .i64 a0_0,(.slice A0_1 l0_1.length c0_1),(.slice A0_2 l0_2.length c0_2)] 25 (0,0)))∧Aside0 (Below w.heap.size w w'))
    case atStart=>exact⟨(x3_1),(0),u0,H',⟨Nat.le_refl _⟩,⟨uR HO_3.out⟩,⟨uK BK362.out⟩,⟨uB⟩⟩
    case round=>
     clear H';obtain⟨x3_2,x5_2,rfl,HA,HK2,HO_3,BK362,HB⟩:=hrel
     cases gk with
     |zero=>exact absurd HA.out (by simp[r7_Print.l1])
     |succ k2=>
      have H:=HA.out;clear HA;simp only[r7_Print.l1] at H
      by_cases c23:x5_2<(l0_2.length:Int)
      ·rw[if_pos c23] at H;replace c23:=decide_eq_true c23;obtain⟨c24,H⟩:=ifs H;replace c24:=decide_eq_true c24;obtain⟨y381,hy381⟩:∃y_:List Int,y_=(([(rd_T51 l0_2 x5_2).f0,(rd_T51 l0_2 x5_2).f1,(rd_T51 l0_2 x5_2).f2]:List Int)):=⟨_,rfl⟩;rw[← hy381] at H;(try replace H:=(Option.bind_some _ _).symm.trans H)
       have Ny381:=aM hy381;clear hy381;replace H:=Option.bind_eq_some_iff.mp H;obtain⟨t384,A250,H⟩:=H;replace H:(if x3_2.length<8796093022208 then(r7_Print.l1 k2 (x3_2++[t384]) (wrap64 (x5_2+1)) a0_0 l0_1 l0_2) else(none))=some r:=H;have A25:=aM A250;clear A250;obtain⟨c26,H⟩:=ifs H;have LMc26:=aM c26;clear c26;obtain⟨y385,hy385⟩:∃y_:List ByteArray,y_=(x3_2++[t384]):=⟨_,rfl⟩;rw[← hy385] at H;(try replace H:=(Option.bind_some _ _).symm.trans H)
       have Ny385:=aM hy385;clear hy385;have H':=aM H;clear H;obtain⟨hcz27_0,hcz27_1,hcz27_2⟩:=cz3 BK362.out;obtain⟨hfz27_0,hfz27_1,hfz27_2⟩:=fz3 BK362.out;have p379:0≤(x5_2:Int):=uD;have q379:x5_2<(l0_2.length:Int):=uD;obtain⟨ad379,e379,hx379_0,hx379_1,hx379_2⟩:=at_T51 HR0_2.out x5_2 p379 q379
       cases e379
       replace hx379_0:=hcell HB.out hx379_0;replace hx379_1:=hcell HB.out hx379_1;replace hx379_2:=hcell HB.out hx379_2;replace p379:=eq_true p379;replace q379:=eq_true q379
       go_wp2_with (first|((with_reducible refine gate_dst (N:=6) rfl ?_);refine bxe 6 #[.int .i64 0,.int .i64 0,.int .i64 0] 51 ?_;intro gb380 hg w28 hbox hb;have n0_:=aM (Kd.R_below (uR HO_3.out) hb);have n1_:=aM (blk_below (uK BK362.out) hb);have n2_:=aM (below_step uB hb);have n3_:=aM (hbox);have n4_:=gw hg;have n5_:=gw hg;have n6_:=nb BK362 hg;have n7_:=nc BK362 hg;clear HO_3;clear BK362;clear HB;have HO_3:=n0_;have BK362:=n1_;have HB:=n2_;have BK380:=n3_;have GW380:=n4_;have GE380:=n5_;have NB362_380:=n6_;have NB380_362:=n7_;clear n0_ n1_ n2_ n3_ n4_ n5_ n6_ n7_;clear hb hbox hg;have hnb29:=NB380_362.out;have hnc29:=NB362_380.out;obtain⟨hcz30_0,hcz30_1,hcz30_2⟩:=cz3 BK380.out;obtain⟨hfz30_0,hfz30_1,hfz30_2⟩:=fz3 BK380.out)|((with_reducible refine gate_dst (N:=55) rfl ?_);refine Kd.R_lit (Kd.int .i64) _ 3 ?hg (N:=55) ?hd (xs:=([(rd_T51 l0_2 x5_2).f0,(rd_T51 l0_2 x5_2).f1,(rd_T51 l0_2 x5_2).f2]:List Int)) (inner:=[.int .i64 ((rd_T51 l0_2 x5_2).f0),.int .i64 ((rd_T51 l0_2 x5_2).f1),.int .i64 ((rd_T51 l0_2 x5_2).f2)]) (ok:=fun _=>True) (okp:=fun _=>True) ?hr ?hp (fun _ hk=>hk) trivial (Below.refl _ _) (Nat.le_refl _) (by simp) ?_;(case hd=>rfl);(case hg=>rfl);(case hr=>first|(go_simp;done)|(go_simp;rfl));(case hp=>exact(Reps.one (show Kd.M (Kd.int .i64) _ _ _ ((rd_T51 l0_2 x5_2).f0) [.int .i64 ((rd_T51 l0_2 x5_2).f0)] from rfl) (Reps.one (show Kd.M (Kd.int .i64) _ _ _ ((rd_T51 l0_2 x5_2).f1) [.int .i64 ((rd_T51 l0_2 x5_2).f1)] from rfl) (Reps.one (show Kd.M (Kd.int .i64) _ _ _ ((rd_T51 l0_2 x5_2).f2) [.int .i64 ((rd_T51 l0_2 x5_2).f2)] from rfl) (Reps.none _ _)))));intro v382 w31 ho32 hb hg_ hnew_;clear hg_ hnew_;(first|rw[← Ny381.out] at ho32|(simp only[Int.reduceToNat] at ho32;rw[← Ny381.out] at ho32));replace HO_3:=aM (Kd.R_below (by refine uR ?_;exact(Kd.R_mono (Kd.R_far (p:=⟨gb380,2,none⟩) (Kd.R_far (p:=⟨gb380,1,none⟩) (Kd.R_far (p:=⟨gb380,0,none⟩) (Kd.R_types HO_3.out BK380.out (by decide)) (fun _ hk=>hk.2) (.int .i64 ((rd_T51 l0_2 x5_2).f0))) (fun _ hk=>hk.2) (.int .i64 ((rd_T51 l0_2 x5_2).f1))) (fun _ hk=>hk.2) (.int .i64 ((rd_T51 l0_2 x5_2).f2))) (fun _ h_=>h_.1))) hb);have HO383:=aM (Kd.R_lower ho32 (below_size uB));replace BK362:=aM (blk_below (g:=gb362) (o:=.cells #[.int .i64 a0_0,.slice A0_1 l0_1.length c0_1,.slice (some ad379) l0_2.length c0_2] 25 (0,0)) (by refine uK ?_;refine blk_far ?_ NB362_380.out _;refine uK ?_;refine blk_far ?_ NB362_380.out _;refine uK ?_;refine blk_far ?_ NB362_380.out _;refine uK ?_;exact BK362.out) hb);replace BK380:=aM (blk_below (g:=gb380) (o:=.cells #[.int .i64 ((rd_T51 l0_2 x5_2).f0),.int .i64 ((rd_T51 l0_2 x5_2).f1),.int .i64 ((rd_T51 l0_2 x5_2).f2)] 51 (0,0)) (by refine uK ?_;refine blk_put (cs:=#[.int .i64 ((rd_T51 l0_2 x5_2).f0),.int .i64 ((rd_T51 l0_2 x5_2).f1),.int .i64 0]) ?_ 2 _ rfl;refine uK ?_;refine blk_put (cs:=#[.int .i64 ((rd_T51 l0_2 x5_2).f0),.int .i64 0,.int .i64 0]) ?_ 1 _ rfl;refine uK ?_;refine blk_put (cs:=#[.int .i64 0,.int .i64 0,.int .i64 0]) ?_ 0 _ rfl;refine uK ?_;exact BK380.out) hb);replace HB:=aM (below_step uB hb);clear hb ho32;obtain⟨Ao33,co33,eo33⟩:=Kd.R_slice HO383.out;subst eo33)|((with_reducible refine gate_callee (f:=81) rfl ?_);refine goesL_ (some 56) rfl rfl Tryz.func81 (by kernel_rfl) rfl #[.string (⟨#[111,117,116,108,101,116]⟩:ByteArray),.slice Ao33 y381.length co33] rfl uM ?_;(with_reducible refine(r1_Row.calls k2 (⟨#[111,117,116,108,101,116]⟩:ByteArray) _ _ y381 t384 _ ?side1 ?side2 A25.out).mono ?_);(case side1=>exact uC ((Kd.R_reads' HO383.out).2.2));(case side2=>exact(Kd.R_reads' HO383.out).2.1);rintro e w34 ⟨rfl,hb⟩;refine⟨_,rfl,?_⟩;replace HO_3:=aM (Kd.R_below (uR HO_3.out) hb);replace HO383:=aM (Kd.R_below (uR HO383.out) hb);replace BK362:=aM (blk_below (uK BK362.out) hb);replace BK380:=aM (blk_below (uK BK380.out) hb);replace HB:=aM (below_step uB hb);(try clear hb))|((with_reducible refine gate_builtin (b:=.append) (xs:=#[.tmp 48,.tmp 57]) rfl ?_);at_builtin;refine Kd.R_append Kd.string (w0:=w) w.heap.size rfl (.tmp 48) (.tmp 57) 108 9 (.string ⟨#[]⟩) 16 rfl Tryz.underlying108 info9 rfl (by decide) (by omega) u3 x3_2 t384 [.string t384] (fun _=>True) (fun _=>False) rfl rfl ?aP (fun _ hk=>hk.elim) ?aF ?aO ?aB ?aS ?aL ?_;(case aP=>exact rfl);(case aB=>exact uB);(case aF=>exact(fun _ _=>trivial));(case aO=>exact(uR HO_3.out));(case aS=>exact(below_size uB));(case aL=>have:=LMc26.out;omega);intro v386 w35 ho hb hg hat;rw[← Ny385.out] at ho;replace BK362:=aM (blk_grown (uK BK362.out) hg (Kd.R_ne HO_3.out BK362.out (by decide)));replace BK380:=aM (blk_grown (uK BK380.out) hg (Kd.R_ne HO_3.out BK380.out (by decide)));replace HO383:=aM (Kd.R_over' (uR HO383.out) (Kd.R_typed (uR HO_3.out)) (by decide) hg);have HO387:=aM (ho);replace HB:=aM (hb);clear HO_3;clear ho hb hg hat))
       go_roundg k2
       case measure=>have:=HK1.out;have:=HK2.out;omega
       case rel=>exact⟨(y385),(wrap64 (x5_2+1)),u0,H',⟨by have:=HK1.out;have:=HK2.out;omega⟩,⟨uR HO387.out⟩,⟨uK BK362.out⟩,⟨uB⟩⟩
      ·rw[if_neg c23] at H;replace c23:=decide_eq_false c23;replace H:=Option.bind_eq_some_iff.mp H;obtain⟨t388,A360,H⟩:=H;replace H:(some t388)=some r:=H;have A36:=aM A360;clear A360;obtain rfl:=Option.some.inj H;obtain⟨hcz37_0,hcz37_1,hcz37_2⟩:=cz3 BK362.out;obtain⟨hfz37_0,hfz37_1,hfz37_2⟩:=fz3 BK362.out;obtain⟨Ao38,co38,eo38⟩:=Kd.R_slice HO_3.out;subst eo38
       go_wp2_with (first|((with_reducible refine gate_callee (f:=82) rfl ?_);refine goesL_ (some 60) rfl rfl Tryz.func82 (by kernel_rfl) rfl #[.slice Ao38 x3_2.length co38,.int .i64 163] rfl uM ?_;(with_reducible refine(r1_Sealed.calls k2 _ _ x3_2 163 t388 _ ?side1 ?side2 A36.out).mono ?_);(case side1=>exact uC ((Kd.R_reads' HO_3.out).2.2));(case side2=>exact(Kd.R_reads' HO_3.out).2.1);rintro e w39 ⟨rfl,hb⟩;refine⟨_,rfl,?_⟩;replace HO_3:=aM (Kd.R_below (uR HO_3.out) hb);replace BK362:=aM (blk_below (uK BK362.out) hb);replace HB:=aM (below_step uB hb);(try clear hb)))
       go_ret;exact⟨uE,uB⟩
end Go.Proofs.YtjioobfeikbffabGreatDoor.K
end
section
namespace Go.Proofs.YtjioobfeikbffabGreatDoor.K
open Go.RowKit Go.Shelf Go.Proofs.Zw Go.Proofs.Zl Go.Proofs.Zm
open Tx
structure At' {α:Type} (d:Kd α) (W:World) (A:Option Addr) (n cp:Nat) (xs:List α):Prop where
  c:Kd.C d W A n xs
  le:n≤cp
theorem At'.below {α:Type} {d:Kd α} {W W1:World} {A:Option Addr} {n c:Nat} {xs:List α} (h:At' d W A n c xs) (hb:Below W.heap.size W W1):At' d W1 A n c xs:=⟨Kd.C_below h.c hb,h.le⟩
theorem At'.of_R {α:Type} {d:Kd α} {e base:Nat} {W:World} {v:Value} {xs:List α} (h:d.R e W base (fun _=>True) v xs):∃A c,v=.slice A xs.length c∧At' d W A xs.length c xs:=by
  obtain⟨A,c,rfl,hl,hc⟩:=Kd.R_reads h;exact⟨A,c,rfl,hc,hl⟩
theorem flat_at {α:Type} (enc:α->List Value) (n:Nat) (hn:∀x,(enc x).length=n):∀(xs:List α) (j i:Nat) (p:α) (u:Value),xs[j]? =some p->(enc p)[i]? =some u->(xs.flatMap enc)[j*n+i]? =some u
  |[],j,i,p,u,h,_=>by simp at h
  |x::xs,0,i,p,u,h,hu=>by
    obtain rfl:x=p:=by simpa using h
    rw[List.flatMap_cons,Nat.zero_mul,Nat.zero_add,List.getElem?_append_left (List.getElem?_eq_some_iff.1 hu).1];exact hu
  |x::xs,j+1,i,p,u,h,hu=>by
    rw[List.flatMap_cons,List.getElem?_append_right (by rw[hn,Nat.succ_mul];omega),hn,show(j+1)*n+i-n=j*n+i by rw[Nat.succ_mul];omega];exact flat_at enc n hn xs j i p u (by simpa using h) hu
theorem C_new {α:Type} (d:Kd α) (W:World) (e:TypeId) (enc:α->List Value) (xs:List α) (hn:∀x,(enc x).length=d.sz) (hK:∀w x,d.K w x (enc x)) (hl:xs.length≤9223372036854775807):Kd.C d (W.alloc (.cells (xs.flatMap enc).toArray e)) (some ⟨W.heap.size,0,none⟩) xs.length xs:=by
  refine⟨rfl,hl,fun _=>⟨_,rfl,fun j p hj=>⟨enc p,hn p,hK _ p,fun i u hi=>?_⟩⟩⟩;have h1:=flat_at enc d.sz hn xs j i p u hj hi
  have h2:(⟨W.heap.size,0,none⟩:Addr).add (j*d.sz+i)=⟨W.heap.size,j*d.sz+i,none⟩:=by
    simp[Addr.add];intro h1 h2
    omega
  rw[h2,blk_cell (blk_new W _)]
  simpa using h1
theorem C_ints (W:World) (e:TypeId) (xs:List Int) (hl:xs.length≤9223372036854775807):Kd.C (Kd.int .i64) (W.alloc (.cells (xs.flatMap fun x=>[Value.int .i64 x]).toArray e)) (some ⟨W.heap.size,0,none⟩) xs.length xs:=
  C_new (Kd.int .i64) W e (fun x=>[Value.int .i64 x]) xs (fun _=>rfl) (fun _ _=>rfl) hl
def TN:List SN:=[⟨0,6⟩,⟨1,3⟩]
def TO:List SO:=[⟨2,4,0⟩,⟨1,5,0⟩,⟨0,6,1⟩,⟨2,2,1⟩]
structure TrA (w:World) (A:Option Addr) (c:Nat) (A':Option Addr) (c':Nat):Prop where
  n:At' k77 w A 2 c TN
  o:At' k51 w A' 4 c' TO
theorem T_any (w:World):Calls Tryz.prog 48 #[] w fun e w'=>∃A c A' c',e=.returned (.agg #[.int .i64 10,.slice A 2 c,.slice A' 4 c'])∧Aside0 (TrA w' A c A' c')∧Below w.heap.size w w':=by
  refine(q7_T.calls 10 TN TO w (by kernel_rfl)).mono ?_;rintro e w' ⟨v0,v1,rfl,h0,h1,hb⟩;obtain⟨A,c,rfl,ha⟩:=At'.of_R h0;obtain⟨A',c',rfl,ha'⟩:=At'.of_R h1;exact⟨A,c,A',c',rfl,⟨ha,ha'⟩,hb⟩
theorem U_any (w:World):Calls Tryz.prog 53 #[] w fun e w'=>∃A c A' c',e=.returned (.agg #[.int .i64 20,.slice A 2 c,.slice A' 4 c'])∧Aside0 (TrA w' A c A' c')∧Below w.heap.size w w':=by
  refine(q7_U.calls 20 TN TO w (by kernel_rfl)).mono ?_;rintro e w' ⟨v0,v1,rfl,h0,h1,hb⟩;obtain⟨A,c,rfl,ha⟩:=At'.of_R h0;obtain⟨A',c',rfl,ha'⟩:=At'.of_R h1;exact⟨A,c,A',c',rfl,⟨ha,ha'⟩,hb⟩
theorem shares_T {w:World} {A:Option Addr} {c:Nat} {A':Option Addr} {c':Nat} (h:TrA w A c A' c'):Calls Tryz.prog 20 #[.agg #[.int .i64 10,.slice A 2 c,.slice A' 4 c']] w fun e w'=>∃B d,e=.returned (.tuple #[.slice B 4 d,.int .i64 0])∧Aside0 (At' (Kd.int .i64) w' B 4 d [3,3,4,0])∧Below w.heap.size w w':=by
  refine(d7_Shares.calls 10 A c TN A' c' TO [3,3,4,0] 0 w h.n.c h.n.le h.o.c h.o.le (by kernel_rfl)).mono ?_;rintro e w' ⟨v0,rfl,h0,hb⟩;obtain⟨B,d,rfl,ha⟩:=At'.of_R h0;exact⟨B,d,rfl,⟨ha⟩,hb⟩
theorem ordered_T {w:World} {A:Option Addr} {c:Nat} {A':Option Addr} {c':Nat} (h:TrA w A c A' c'):Calls Tryz.prog 49 #[.agg #[.int .i64 10,.slice A 2 c,.slice A' 4 c'],.slice (some ⟨w.heap.size,0,none⟩) 4 4] (w.alloc (.cells #[.int .i64 1,.int .i64 0,.int .i64 2,.int .i64 3] 3)) fun e w'=>∃B d,e=.returned (.tuple #[.slice B 4 d,.int .i64 0])∧Aside0 (At' (Kd.int .i64) w' B 4 d [1,1,6,2])∧Below w.heap.size w w':=by
  have hB:Below w.heap.size w (w.alloc (.cells #[.int .i64 1,.int .i64 0,.int .i64 2,.int .i64 3] 3)):=(Below.refl _ _).alloc (Nat.le_refl _) _;refine(d7_Ordered.calls 10 A c TN A' c' TO (some ⟨w.heap.size,0,none⟩) 4 [1,0,2,3] [1,1,6,2] 0 _ (h.n.below hB).c h.n.le (h.o.below hB).c h.o.le (C_ints w _ [1,0,2,3] (by decide)) (Nat.le_refl _) (by kernel_rfl)).mono ?_;rintro e w' ⟨v0,rfl,h0,hb⟩;obtain⟨B,d,rfl,ha⟩:=At'.of_R h0;exact⟨B,d,rfl,⟨ha⟩,below_then hB hB.size hb⟩
theorem why_T {w:World} {A:Option Addr} {c:Nat} {A':Option Addr} {c':Nat} (h:TrA w A c A' c'):Calls Tryz.prog 50 #[.agg #[.int .i64 10,.slice A 2 c,.slice A' 4 c'],.int .i64 3] w fun e w'=>e=.returned (.tuple #[.int .i64 1,.int .i64 0])∧Below w.heap.size w w':=
  d7_Why.calls 1000 10 A c TN A' c' TO 3 1 0 w h.n.c h.n.le h.o.c h.o.le (by kernel_rfl)
theorem binds_T {w:World} {A:Option Addr} {c:Nat} {A':Option Addr} {c':Nat} (h:TrA w A c A' c'):Calls Tryz.prog 51 #[.agg #[.int .i64 10,.slice A 2 c,.slice A' 4 c'],.int .i64 0,.int .i64 0] w fun e w'=>e=.returned (.tuple #[.bool false,.int .i64 0])∧Below w.heap.size w w':=
  d7_Binds.calls 1000 10 A c TN A' c' TO 0 0 false 0 w h.n.c h.n.le h.o.c h.o.le (by kernel_rfl)
theorem cut_U {w:World} {A:Option Addr} {c:Nat} {A':Option Addr} {c':Nat} (h:TrA w A c A' c'):Calls Tryz.prog 52 #[.agg #[.int .i64 20,.slice A 2 c,.slice A' 4 c']] w fun e w'=>∃B d,e=.returned (.tuple #[.slice B 1 d,.int .i64 0])∧Aside0 (At' (Kd.int .i64) w' B 1 d [1])∧Below w.heap.size w w':=by
  refine(d7_Cut.calls 20 A c TN A' c' TO [1] 0 w h.n.c h.n.le h.o.c h.o.le (by kernel_rfl)).mono ?_;rintro e w' ⟨v0,rfl,h0,hb⟩;obtain⟨B,d,rfl,ha⟩:=At'.of_R h0;exact⟨B,d,rfl,⟨ha⟩,hb⟩
theorem spans_T {w:World} {A:Option Addr} {c:Nat} {A':Option Addr} {c':Nat} (h:TrA w A c A' c'):Calls Tryz.prog 54 #[.agg #[.int .i64 10,.slice A 2 c,.slice A' 4 c'],.int .i64 5,.int .i64 10] w fun e w'=>∃B d,e=.returned (.tuple #[.slice B 4 d,.int .i64 0])∧Aside0 (At' kSp w' B 4 d [⟨3,3⟩,⟨2,3⟩,⟨0,4⟩,⟨0,0⟩])∧Below w.heap.size w w':=by
  refine(d7_Spans.calls 10 A c TN A' c' TO 5 10 [⟨3,3⟩,⟨2,3⟩,⟨0,4⟩,⟨0,0⟩] 0 w h.n.c h.n.le h.o.c h.o.le (by kernel_rfl)).mono ?_;rintro e w' ⟨v0,rfl,h0,hb⟩;obtain⟨B,d,rfl,ha⟩:=At'.of_R h0;exact⟨B,d,rfl,⟨ha⟩,hb⟩
theorem needs_T {w:World} {A:Option Addr} {c:Nat} {A':Option Addr} {c':Nat} (h:TrA w A c A' c'):Calls Tryz.prog 55 #[.agg #[.int .i64 10,.slice A 2 c,.slice A' 4 c'],.int .i64 2,.int .i64 6] w fun e w'=>e=.returned (.tuple #[.int .i64 12,.int .i64 0])∧Below w.heap.size w w':=
  d7_Needs.calls 10 A c TN A' c' TO 2 6 12 0 w h.n.c h.n.le h.o.c h.o.le (by kernel_rfl)
theorem keeps_T {w:World} {A:Option Addr} {c:Nat} {A':Option Addr} {c':Nat} (h:TrA w A c A' c'):Calls Tryz.prog 56 #[.agg #[.int .i64 10,.slice A 2 c,.slice A' 4 c'],.int .i64 0] w fun e w'=>e=.returned (.tuple #[.int .i64 0,.int .i64 5])∧Below w.heap.size w w':=
  d7_Keeps.calls 10 A c TN A' c' TO 0 0 5 w h.n.c h.n.le h.o.c h.o.le (by kernel_rfl)
theorem widens_T {w:World} {A:Option Addr} {c:Nat} {A':Option Addr} {c':Nat} (h:TrA w A c A' c'):Calls Tryz.prog 19 #[.agg #[.int .i64 10,.slice A 2 c,.slice A' 4 c'],.int .i64 1] w fun e w'=>∃B d,e=.returned (.tuple #[.slice B 1 d,.int .i64 0])∧Aside0 (At' (Kd.int .i64) w' B 1 d [1])∧Below w.heap.size w w':=by
  refine(d7_Widens.calls 1000 10 A c TN A' c' TO 1 [1] 0 w h.n.c h.n.le h.o.c h.o.le (by kernel_rfl)).mono ?_;rintro e w' ⟨v0,rfl,h0,hb⟩;obtain⟨B,d,rfl,ha⟩:=At'.of_R h0;exact⟨B,d,rfl,⟨ha⟩,hb⟩
theorem turns_T {w:World} {A:Option Addr} {c:Nat} {A':Option Addr} {c':Nat} (h:TrA w A c A' c'):Calls Tryz.prog 32 #[.agg #[.int .i64 10,.slice A 2 c,.slice A' 4 c'],.int .i64 3] w fun e w'=>∃B d,e=.returned (.tuple #[.slice B 3 d,.int .i64 0])∧Aside0 (At' (Kd.slice 3 (Kd.int .i64)) w' B 3 d [[1],[2,3],[1]])∧Below w.heap.size w w':=by
  refine(d7_Turns.calls 10 A c TN A' c' TO 3 [[1],[2,3],[1]] 0 w h.n.c h.n.le h.o.c h.o.le (by kernel_rfl)).mono ?_;rintro e w' ⟨v0,rfl,h0,hb⟩;obtain⟨B,d,rfl,ha⟩:=At'.of_R h0;exact⟨B,d,rfl,⟨ha⟩,hb⟩
theorem C_rows2 (w:World) (e:TypeId):Kd.C (Kd.slice 3 (Kd.int .i64)) (((w.alloc (.cells #[.int .i64 1] 3)).alloc (.cells #[.int .i64 3] 3)).alloc (.cells #[.slice (some ⟨w.heap.size,0,none⟩) 1 1,.slice (some ⟨w.heap.size+1,0,none⟩) 1 1] e)) (some ⟨w.heap.size+1+1,0,none⟩) 2 [[1],[3]]:=by
  have c1:Kd.C (Kd.int .i64) ((w.alloc (.cells #[.int .i64 1] 3)).alloc (.cells #[.int .i64 3] 3)) (some ⟨w.heap.size,0,none⟩) 1 [1]:=Kd.C_alloc (C_ints w _ [1] (by decide)) _;have c2:=C_ints (w.alloc (.cells #[.int .i64 1] 3)) 3 [3] (by decide);rw[World.size_alloc] at c2;have:=C_two ((w.alloc (.cells #[.int .i64 1] 3)).alloc (.cells #[.int .i64 3] 3)) (.slice (some ⟨w.heap.size,0,none⟩) 1 1) (.slice (some ⟨w.heap.size+1,0,none⟩) 1 1) [1] [3] e ⟨_,_,rfl,Nat.le_refl _,Kd.C_alloc c1 _⟩ ⟨_,_,rfl,Nat.le_refl _,Kd.C_alloc c2 _⟩;rw[World.size_alloc,World.size_alloc] at this;exact this
theorem swaps_T {w:World} {A:Option Addr} {c:Nat} {A':Option Addr} {c':Nat} (h:TrA w A c A' c'):Calls Tryz.prog 26 #[.agg #[.int .i64 10,.slice A 2 c,.slice A' 4 c'],.slice (some ⟨w.heap.size+1+1,0,none⟩) 2 2,.int .i64 1,.int .i64 3] (((w.alloc (.cells #[.int .i64 1] 3)).alloc (.cells #[.int .i64 3] 3)).alloc (.cells #[.slice (some ⟨w.heap.size,0,none⟩) 1 1,.slice (some ⟨w.heap.size+1,0,none⟩) 1 1] 30)) fun e w'=>e=.returned (.tuple #[.int .i64 0,.int .i64 1,.int .i64 0])∧Below w.heap.size w w':=by
  have hB:Below w.heap.size w (((w.alloc (.cells #[.int .i64 1] 3)).alloc (.cells #[.int .i64 3] 3)).alloc (.cells #[.slice (some ⟨w.heap.size,0,none⟩) 1 1,.slice (some ⟨w.heap.size+1,0,none⟩) 1 1] 30)):=(((Below.refl _ _).alloc (Nat.le_refl _) _).alloc (by simp) _).alloc (by simp;omega) _;refine(d7_Swaps.calls 1000 10 A c TN A' c' TO (some ⟨w.heap.size+1+1,0,none⟩) 2 [[1],[3]] 1 3 0 1 0 _ (h.n.below hB).c h.n.le (h.o.below hB).c h.o.le (C_rows2 w _) (Nat.le_refl _) (by kernel_rfl)).mono ?_;rintro e w' ⟨rfl,hb⟩;exact⟨rfl,below_then hB hB.size hb⟩
def knownText:ByteArray:=⟨#[100,114,111,117,103,104,116,32,49,10,111,117,116,108,101,116,32,48,32,49,32,48,10,101,110,100,32,48,49,55,10]⟩
theorem read_knownText:readD knownText=(1,[],[⟨0,1,0⟩],0):=by kernel_rfl
theorem read_K (w:World) (hT:TabW w):Calls Tryz.prog 40 #[.string knownText] w fun e w'=>∃A c A' c',e=.returned (.tuple #[.agg #[.int .i64 1,.slice A 0 c,.slice A' 1 c'],.int .i64 0])∧Aside0 (At' k77 w' A 0 c []∧At' k51 w' A' 1 c' [⟨0,1,0⟩])∧Below w.heap.size w w':=by
  refine(read_any knownText w hT (by decide)).mono ?_;rintro e w' ⟨hb,A,c,A',c',he,h0,h1⟩;rw[read_knownText] at he h0 h1;exact⟨A,c,A',c',he,⟨⟨(Kd.R_reads' h0).2.2,(Kd.R_reads' h0).2.1⟩,⟨(Kd.R_reads' h1).2.2,(Kd.R_reads' h1).2.1⟩⟩,hb⟩
theorem print_K {w:World} {A A':Option Addr} {c c':Nat} (h:At' k77 w A 0 c []∧At' k51 w A' 1 c' [⟨0,1,0⟩]):Calls Tryz.prog 41 #[.agg #[.int .i64 1,.slice A 0 c,.slice A' 1 c']] w fun e w'=>e=.returned (.string knownText)∧Below w.heap.size w w':=
  r7_Print.calls 1000 1 A c [] A' c' [⟨0,1,0⟩] knownText w h.1.c h.1.le h.2.c h.2.le (by kernel_rfl)
theorem same_any (A B:Option Addr) (c d n m:Nat) (xs ys:List Int) (w:World) (hA:At' (Kd.int .i64) w A n c xs) (hB:At' (Kd.int .i64) w B m d ys) (r:Bool) (h:r1_Same.f 1000 xs ys=some r):
    Calls Tryz.prog 57 #[.slice A n c,.slice B m d] w fun e w'=>e=.returned (.bool r)∧Below w.heap.size w w':=by
  obtain rfl:=hA.c.1;obtain rfl:=hB.c.1;exact(r1_Same.calls 1000 A c xs B d ys r w hA.c hA.le hB.c hB.le h).mono fun e w' ⟨he,hd⟩=>⟨he,hd.below⟩
theorem sameSpans_any (B:Option Addr) (d:Nat) (w:World) (h:At' kSp (w.alloc (.cells #[.int .i64 3,.int .i64 3,.int .i64 2,.int .i64 3,.int .i64 0,.int .i64 4,.int .i64 0,.int .i64 0] 91)) B 4 d [⟨3,3⟩,⟨2,3⟩,⟨0,4⟩,⟨0,0⟩]):
    Calls Tryz.prog 58 #[.slice B 4 d,.slice (some ⟨w.heap.size,0,none⟩) 4 4] (w.alloc (.cells #[.int .i64 3,.int .i64 3,.int .i64 2,.int .i64 3,.int .i64 0,.int .i64 4,.int .i64 0,.int .i64 0] 91)) fun e w'=>e=.returned (.bool true)∧Below w.heap.size w w':=by
  have hB:Below w.heap.size w (w.alloc (.cells #[.int .i64 3,.int .i64 3,.int .i64 2,.int .i64 3,.int .i64 0,.int .i64 4,.int .i64 0,.int .i64 0] 91)):=(Below.refl _ _).alloc (Nat.le_refl _) _;refine(r7_SameSpans.calls 1000 B d [⟨3,3⟩,⟨2,3⟩,⟨0,4⟩,⟨0,0⟩] (some ⟨w.heap.size,0,none⟩) 4 [⟨3,3⟩,⟨2,3⟩,⟨0,4⟩,⟨0,0⟩] true _ h.c h.le (C_new kSp w _ (fun x=>[.int .i64 x.f0,.int .i64 x.f1]) [⟨3,3⟩,⟨2,3⟩,⟨0,4⟩,⟨0,0⟩] (fun _=>rfl) (fun w x=>k91_mk w x) (by decide)) (Nat.le_refl _) (by kernel_rfl)).mono ?_;rintro e w' ⟨he,hd⟩;exact⟨he,below_then hB hB.size hd.below⟩
theorem C_rows3 (w:World) (e:TypeId):Kd.C (Kd.slice 3 (Kd.int .i64)) ((((w.alloc (.cells #[.int .i64 1] 3)).alloc (.cells #[.int .i64 2,.int .i64 3] 3)).alloc (.cells #[.int .i64 1] 3)).alloc (.cells #[.slice (some ⟨w.heap.size,0,none⟩) 1 1,.slice (some ⟨w.heap.size+1,0,none⟩) 2 2,.slice (some ⟨w.heap.size+1+1,0,none⟩) 1 1] e)) (some ⟨w.heap.size+1+1+1,0,none⟩) 3 [[1],[2,3],[1]]:=by
  have c1:Kd.C (Kd.int .i64) ((((w.alloc (.cells #[.int .i64 1] 3)).alloc (.cells #[.int .i64 2,.int .i64 3] 3)).alloc (.cells #[.int .i64 1] 3)).alloc (.cells #[.slice (some ⟨w.heap.size,0,none⟩) 1 1,.slice (some ⟨w.heap.size+1,0,none⟩) 2 2,.slice (some ⟨w.heap.size+1+1,0,none⟩) 1 1] e)) (some ⟨w.heap.size,0,none⟩) 1 [1]:=Kd.C_alloc (Kd.C_alloc (Kd.C_alloc (C_ints w _ [1] (by decide)) _) _) _;have c2:=C_ints (w.alloc (.cells #[.int .i64 1] 3)) 3 [2,3] (by decide);have c3:=C_ints ((w.alloc (.cells #[.int .i64 1] 3)).alloc (.cells #[.int .i64 2,.int .i64 3] 3)) 3 [1] (by decide);rw[World.size_alloc] at c2;rw[World.size_alloc,World.size_alloc] at c3;have d2:Kd.C (Kd.int .i64) ((((w.alloc (.cells #[.int .i64 1] 3)).alloc (.cells #[.int .i64 2,.int .i64 3] 3)).alloc (.cells #[.int .i64 1] 3)).alloc (.cells #[.slice (some ⟨w.heap.size,0,none⟩) 1 1,.slice (some ⟨w.heap.size+1,0,none⟩) 2 2,.slice (some ⟨w.heap.size+1+1,0,none⟩) 1 1] e)) (some ⟨w.heap.size+1,0,none⟩) 2 [2,3]:=Kd.C_alloc (Kd.C_alloc c2 _) _;have d3:Kd.C (Kd.int .i64) ((((w.alloc (.cells #[.int .i64 1] 3)).alloc (.cells #[.int .i64 2,.int .i64 3] 3)).alloc (.cells #[.int .i64 1] 3)).alloc (.cells #[.slice (some ⟨w.heap.size,0,none⟩) 1 1,.slice (some ⟨w.heap.size+1,0,none⟩) 2 2,.slice (some ⟨w.heap.size+1+1,0,none⟩) 1 1] e)) (some ⟨w.heap.size+1+1,0,none⟩) 1 [1]:=Kd.C_alloc c3 _;have hblk:=blk_new (((w.alloc (.cells #[.int .i64 1] 3)).alloc (.cells #[.int .i64 2,.int .i64 3] 3)).alloc (.cells #[.int .i64 1] 3)) (.cells #[.slice (some ⟨w.heap.size,0,none⟩) 1 1,.slice (some ⟨w.heap.size+1,0,none⟩) 2 2,.slice (some ⟨w.heap.size+1+1,0,none⟩) 1 1] e);rw[World.size_alloc,World.size_alloc,World.size_alloc] at hblk;generalize (((w.alloc (.cells #[.int .i64 1] 3)).alloc (.cells #[.int .i64 2,.int .i64 3] 3)).alloc (.cells #[.int .i64 1] 3)).alloc (.cells #[.slice (some ⟨w.heap.size,0,none⟩) 1 1,.slice (some ⟨w.heap.size+1,0,none⟩) 2 2,.slice (some ⟨w.heap.size+1+1,0,none⟩) 1 1] e)=W at *;refine⟨rfl,by decide,fun _=>⟨_,rfl,fun j p hj=>?_⟩⟩
  match j with
  |0=>
    obtain rfl:[1]=p:=by simpa using hj
    refine⟨[.slice (some ⟨w.heap.size,0,none⟩) 1 1],rfl,⟨_,_,rfl,Nat.le_refl _,c1⟩,fun i u hi=>?_⟩
    match i with
    |0=>
      obtain rfl:Value.slice (some ⟨w.heap.size,0,none⟩) 1 1=u:=by simpa using hi
      exact(blk_cell hblk 0).trans rfl
    |i+1=>simp at hi
  |1=>
    obtain rfl:[2,3]=p:=by simpa using hj
    refine⟨[.slice (some ⟨w.heap.size+1,0,none⟩) 2 2],rfl,⟨_,_,rfl,Nat.le_refl _,d2⟩,fun i u hi=>?_⟩
    match i with
    |0=>
      obtain rfl:Value.slice (some ⟨w.heap.size+1,0,none⟩) 2 2=u:=by simpa using hi
      exact(blk_cell hblk 1).trans rfl
    |i+1=>simp at hi
  |2=>
    obtain rfl:[1]=p:=by simpa using hj
    refine⟨[.slice (some ⟨w.heap.size+1+1,0,none⟩) 1 1],rfl,⟨_,_,rfl,Nat.le_refl _,d3⟩,fun i u hi=>?_⟩
    match i with
    |0=>
      obtain rfl:Value.slice (some ⟨w.heap.size+1+1,0,none⟩) 1 1=u:=by simpa using hi
      exact(blk_cell hblk 2).trans rfl
    |i+1=>simp at hi
  |j+3=>simp at hj
theorem samePlans_any (B:Option Addr) (d:Nat) (w:World) (h:At' (Kd.slice 3 (Kd.int .i64)) w B 3 d [[1],[2,3],[1]]):
    Calls Tryz.prog 34 #[.slice B 3 d,.slice (some ⟨w.heap.size+1+1+1,0,none⟩) 3 3] ((((w.alloc (.cells #[.int .i64 1] 3)).alloc (.cells #[.int .i64 2,.int .i64 3] 3)).alloc (.cells #[.int .i64 1] 3)).alloc (.cells #[.slice (some ⟨w.heap.size,0,none⟩) 1 1,.slice (some ⟨w.heap.size+1,0,none⟩) 2 2,.slice (some ⟨w.heap.size+1+1,0,none⟩) 1 1] 30)) fun e w'=>e=.returned (.bool true)∧Below w.heap.size w w':=by
  have hB:Below w.heap.size w ((((w.alloc (.cells #[.int .i64 1] 3)).alloc (.cells #[.int .i64 2,.int .i64 3] 3)).alloc (.cells #[.int .i64 1] 3)).alloc (.cells #[.slice (some ⟨w.heap.size,0,none⟩) 1 1,.slice (some ⟨w.heap.size+1,0,none⟩) 2 2,.slice (some ⟨w.heap.size+1+1,0,none⟩) 1 1] 30)):=((((Below.refl _ _).alloc (Nat.le_refl _) _).alloc (by simp) _).alloc (by simp;omega) _).alloc (by simp;omega) _;refine(r7_SamePlans.calls 1000 B d [[1],[2,3],[1]] (some ⟨w.heap.size+1+1+1,0,none⟩) 3 [[1],[2,3],[1]] true _ (h.below hB).c h.le (C_rows3 w _) (Nat.le_refl _) (by kernel_rfl)).mono ?_;rintro e w' ⟨he,hd⟩;exact⟨he,below_then hB hB.size hd.below⟩
set_option maxRecDepth 100000 in
set_option maxHeartbeats 8000000 in
theorem known_any (w0:World) (hT:TabW w0):Calls Tryz.prog 18 #[] w0 fun e w'=>e=.returned (.bool true)∧Below w0.heap.size w0 w':=by
  have hu62:=Tryz.underlying91;have hu25:=Tryz.underlying25;have HT:=aM hT;clear hT
  go_enter Tryz.func18,Tryz.ntmps18
  go_upto_region 2 with(first|(go_at_call 48;refine(T_any _).mono ?_;rintro e wp ⟨A,c,A',c',rfl,HP,hbp⟩)|(go_at_call 20;refine(shares_T HP.out).mono ?_;rintro e wf ⟨B1,d1,rfl,H1,hbf⟩))
  have HB1:Aside0 (Below w0.heap.size w0 wf):=⟨below_step hbp hbf⟩;obtain⟨w1,hw1⟩:∃w1,wf=w1:=⟨_,rfl⟩;rw[hw1] at HB1 H1⊢;clear hw1 hbp hbf HP
  go_upto_region 3 with(first|(go_at_call 48;refine(T_any _).mono ?_;rintro e wp ⟨A,c,A',c',rfl,HP,hbp⟩)|(go_at_call 49;refine(ordered_T HP.out).mono ?_;rintro e wf ⟨B2,d2,rfl,H2,hbf⟩))
  have HB2:Aside0 (Below w1.heap.size w1 wf):=⟨below_step hbp hbf⟩;obtain⟨w2,hw2⟩:∃w2,wf=w2:=⟨_,rfl⟩;rw[hw2] at HB2 H2⊢;clear hw2 hbp hbf HP
  go_upto_region 4 with(first|(go_at_call 48;refine(T_any _).mono ?_;rintro e wp ⟨A,c,A',c',rfl,HP,hbp⟩)|(go_at_call 50;refine(why_T HP.out).mono ?_;rintro e wf ⟨rfl,hbf⟩))
  have HB3:Aside0 (Below w2.heap.size w2 wf):=⟨below_step hbp hbf⟩;obtain⟨w3,hw3⟩:∃w3,wf=w3:=⟨_,rfl⟩;rw[hw3] at HB3⊢;clear hw3 hbp hbf HP
  go_upto_region 5 with(first|(go_at_call 48;refine(T_any _).mono ?_;rintro e wp ⟨A,c,A',c',rfl,HP,hbp⟩)|(go_at_call 51;refine(binds_T HP.out).mono ?_;rintro e wf ⟨rfl,hbf⟩))
  have HB4:Aside0 (Below w3.heap.size w3 wf):=⟨below_step hbp hbf⟩;obtain⟨w4,hw4⟩:∃w4,wf=w4:=⟨_,rfl⟩;rw[hw4] at HB4⊢;clear hw4 hbp hbf HP
  go_upto_region 6 with(first|(go_at_call 53;refine(U_any _).mono ?_;rintro e wp ⟨A,c,A',c',rfl,HP,hbp⟩)|(go_at_call 52;refine(cut_U HP.out).mono ?_;rintro e wf ⟨B5,d5,rfl,H5,hbf⟩))
  have HB5:Aside0 (Below w4.heap.size w4 wf):=⟨below_step hbp hbf⟩;obtain⟨w5,hw5⟩:∃w5,wf=w5:=⟨_,rfl⟩;rw[hw5] at HB5 H5⊢;clear hw5 hbp hbf HP
  go_upto_region 7 with(first|(go_at_call 48;refine(T_any _).mono ?_;rintro e wp ⟨A,c,A',c',rfl,HP,hbp⟩)|(go_at_call 54;refine(spans_T HP.out).mono ?_;rintro e wf ⟨B6,d6,rfl,H6,hbf⟩))
  have HB6:Aside0 (Below w5.heap.size w5 wf):=⟨below_step hbp hbf⟩;obtain⟨w6,hw6⟩:∃w6,wf=w6:=⟨_,rfl⟩;rw[hw6] at HB6 H6⊢;clear hw6 hbp hbf HP
  go_upto_region 8 with(first|(go_at_call 48;refine(T_any _).mono ?_;rintro e wp ⟨A,c,A',c',rfl,HP,hbp⟩)|(go_at_call 55;refine(needs_T HP.out).mono ?_;rintro e wf ⟨rfl,hbf⟩))
  have HB7:Aside0 (Below w6.heap.size w6 wf):=⟨below_step hbp hbf⟩;obtain⟨w7,hw7⟩:∃w7,wf=w7:=⟨_,rfl⟩;rw[hw7] at HB7⊢;clear hw7 hbp hbf HP
  go_upto_region 9 with(first|(go_at_call 48;refine(T_any _).mono ?_;rintro e wp ⟨A,c,A',c',rfl,HP,hbp⟩)|(go_at_call 56;refine(keeps_T HP.out).mono ?_;rintro e wf ⟨rfl,hbf⟩))
  have HB8:Aside0 (Below w7.heap.size w7 wf):=⟨below_step hbp hbf⟩;obtain⟨w8,hw8⟩:∃w8,wf=w8:=⟨_,rfl⟩;rw[hw8] at HB8⊢;clear hw8 hbp hbf HP
  go_upto_region 10 with(first|(go_at_call 48;refine(T_any _).mono ?_;rintro e wp ⟨A,c,A',c',rfl,HP,hbp⟩)|(go_at_call 19;refine(widens_T HP.out).mono ?_;rintro e wf ⟨B9,d9,rfl,H9,hbf⟩))
  have HB9:Aside0 (Below w8.heap.size w8 wf):=⟨below_step hbp hbf⟩;obtain⟨w9,hw9⟩:∃w9,wf=w9:=⟨_,rfl⟩;rw[hw9] at HB9 H9⊢;clear hw9 hbp hbf HP
  go_upto_region 11 with(first|(go_at_call 48;refine(T_any _).mono ?_;rintro e wp ⟨A,c,A',c',rfl,HP,hbp⟩)|(go_at_call 32;refine(turns_T HP.out).mono ?_;rintro e wf ⟨B10,d10,rfl,H10,hbf⟩))
  have HB10:Aside0 (Below w9.heap.size w9 wf):=⟨below_step hbp hbf⟩;obtain⟨w10,hw10⟩:∃w10,wf=w10:=⟨_,rfl⟩;rw[hw10] at HB10 H10⊢;clear hw10 hbp hbf HP
  go_upto_region 12 with(first|(go_at_call 48;refine(T_any _).mono ?_;rintro e wp ⟨A,c,A',c',rfl,HP,hbp⟩)|(go_at_call 26;refine(swaps_T HP.out).mono ?_;rintro e wf ⟨rfl,hbf⟩))
  have HB11:Aside0 (Below w10.heap.size w10 wf):=⟨below_step hbp hbf⟩;obtain⟨w11,hw11⟩:∃w11,wf=w11:=⟨_,rfl⟩;rw[hw11] at HB11⊢;clear hw11 hbp hbf HP;have HT11:=aM (HT.out.below (below_step HB1.out (below_step HB2.out (below_step HB3.out (below_step HB4.out (below_step HB5.out (below_step HB6.out (below_step HB7.out (below_step HB8.out (below_step HB9.out (below_step HB10.out (HB11.out))))))))))))
  go_upto_region 13 with(go_at_call 40;refine(read_K _ HT11.out).mono ?_;rintro e wf ⟨B12,d12,B12',d12',rfl,H12,hbf⟩)
  obtain⟨w12,hw12⟩:∃w12,wf.alloc (.cells #[.int .i64 1,.slice B12 0 d12,.slice B12' 1 d12'] 25)=w12:=⟨_,rfl⟩;have X12:Aside0 (w12.heap[wf.heap.size]? =some (.cells #[.int .i64 1,.slice B12 0 d12,.slice B12' 1 d12'] 25 (0,0))):=⟨by rw[← hw12];exact blk_new _ _⟩;have Y12:Aside0 (At' k77 w12 B12 0 d12 []∧At' k51 w12 B12' 1 d12' [⟨0,1,0⟩]):=⟨by rw[← hw12];exact⟨H12.out.1.below ((Below.refl _ _).alloc (Nat.le_refl _) _),H12.out.2.below ((Below.refl _ _).alloc (Nat.le_refl _) _)⟩⟩;have HB12:Aside0 (Below w11.heap.size w11 w12):=⟨by rw[← hw12];exact below_step hbf ((Below.refl _ _).alloc (Nat.le_refl _) _)⟩;(try rw[hw12]);generalize wf.heap.size=b12 at X12⊢;clear hw12 hbf H12 HT11 HT;have L11:=HB12.out;have L10:=below_step HB11.out L11;have L9:=below_step HB10.out L10;have L8:=below_step HB9.out L9;have L7:=below_step HB8.out L8;have L6:=below_step HB7.out L7;have L5:=below_step HB6.out L6;have L4:=below_step HB5.out L5;have L3:=below_step HB4.out L4;have L2:=below_step HB3.out L3;have L1:=below_step HB2.out L2;have L0:=below_step HB1.out L1;have Y1:=aM (H1.out.below L1);have Y2:=aM (H2.out.below L2);have Y5:=aM (H5.out.below L5);have Y6:=aM (H6.out.below L6);have Y9:=aM (H9.out.below L9);have Y10:=aM (H10.out.below L10);have HL0:=aM L0;clear L0 L1 L2 L3 L4 L5 L6 L7 L8 L9 L10 L11 H1 H2 H5 H6 H9 H10 HB1 HB2 HB3 HB4 HB5 HB6 HB7 HB8 HB9 HB10 HB11 HB12
  go_wp2_with (first|(go_at_call 57;(with_reducible refine(same_any B1 (some ⟨w12.heap.size,0,none⟩) d1 4 4 4 [3,3,4,0] [3,3,4,0] _ (Y1.out.below ((Below.refl _ _).alloc (Nat.le_refl _) _)) ⟨C_ints w12 _ [3,3,4,0] (by decide),Nat.le_refl _⟩ true (by kernel_rfl)).mono ?_);rintro e w13 ⟨rfl,hb⟩;have HC13:Aside0 (Below w12.heap.size w12 w13):=⟨below_then ((Below.refl _ _).alloc (Nat.le_refl _) _) (by simp) hb⟩;clear hb)|(go_at_call 57;(with_reducible refine(same_any B2 (some ⟨w13.heap.size,0,none⟩) d2 4 4 4 [1,1,6,2] [1,1,6,2] _ (Y2.out.below (below_step HC13.out ((Below.refl _ _).alloc (Nat.le_refl _) _))) ⟨C_ints w13 _ [1,1,6,2] (by decide),Nat.le_refl _⟩ true (by kernel_rfl)).mono ?_);rintro e w14 ⟨rfl,hb⟩;have HC14:Aside0 (Below w12.heap.size w12 w14):=⟨below_step HC13.out (below_then ((Below.refl _ _).alloc (Nat.le_refl _) _) (by simp) hb)⟩;clear hb)|(go_at_call 57;(with_reducible refine(same_any B5 (some ⟨w14.heap.size,0,none⟩) d5 1 1 1 [1] [1] _ (Y5.out.below (below_step HC14.out ((Below.refl _ _).alloc (Nat.le_refl _) _))) ⟨C_ints w14 _ [1] (by decide),Nat.le_refl _⟩ true (by kernel_rfl)).mono ?_);rintro e w15 ⟨rfl,hb⟩;have HC15:Aside0 (Below w12.heap.size w12 w15):=⟨below_step HC14.out (below_then ((Below.refl _ _).alloc (Nat.le_refl _) _) (by simp) hb)⟩;clear hb)|(go_at_call 58;refine(sameSpans_any B6 d6 w15 (Y6.out.below (below_step HC15.out ((Below.refl _ _).alloc (Nat.le_refl _) _)))).mono ?_;rintro e w16 ⟨rfl,hb⟩;have HC16:Aside0 (Below w12.heap.size w12 w16):=⟨below_step HC15.out hb⟩;clear hb)|(go_at_call 57;(with_reducible refine(same_any B9 (some ⟨w16.heap.size,0,none⟩) d9 1 1 1 [1] [1] _ (Y9.out.below (below_step HC16.out ((Below.refl _ _).alloc (Nat.le_refl _) _))) ⟨C_ints w16 _ [1] (by decide),Nat.le_refl _⟩ true (by kernel_rfl)).mono ?_);rintro e w17 ⟨rfl,hb⟩;have HC17:Aside0 (Below w12.heap.size w12 w17):=⟨below_step HC16.out (below_then ((Below.refl _ _).alloc (Nat.le_refl _) _) (by simp) hb)⟩;clear hb)|(go_at_call 34;refine(samePlans_any B10 d10 w17 (Y10.out.below HC17.out)).mono ?_;rintro e w18 ⟨rfl,hb⟩;have HC18:Aside0 (Below w12.heap.size w12 w18):=⟨below_step HC17.out hb⟩;clear hb;have hx12:=blk_below X12.out HC18.out;have z120:=(blk_cell hx12 0).trans rfl;have z121:=(blk_cell hx12 1).trans rfl;have z122:=(blk_cell hx12 2).trans rfl;clear hx12)|(go_at_call 41;refine(print_K ⟨Y12.out.1.below HC18.out,Y12.out.2.below HC18.out⟩).mono ?_;rintro e w19 ⟨rfl,hb⟩))
  go_ret;refine⟨?_,below_step HL0.out (below_step HC18.out hb)⟩
  show Ending.returned (Value.bool (knownText.toList==_))=_
  rw[Lib.toList_data]
  rfl
end Go.Proofs.YtjioobfeikbffabGreatDoor.K
end
section
namespace Go.Proofs.YtjioobfeikbffabGreatDoor.K
open Go.RowKit Go.Proofs.Zw Go.Proofs.Zl Go.Proofs.Zm
def q7_known.f (_:Nat):Option Bool:=some true
theorem q7_known.calls (k:Nat) (r:Bool) (w:World) (hT:TabW w) (h:q7_known.f k=some r):
    Calls Tryz.prog 18 #[] w fun e w'=>e=.returned (.bool r)∧Below w.heap.size w w':=by
  obtain rfl:true=r:=Option.some.inj h;exact known_any w hT
end Go.Proofs.YtjioobfeikbffabGreatDoor.K
end
section
namespace Go.Proofs.YtjioobfeikbffabGreatDoor.K
open Go.RowKit Go.Proofs.Zw Go.Proofs.Zl Go.Proofs.Zm
attribute [local go_sem] max2_int min2_int max_two min_two max_three min_three max_four min_four
def r7_Outlet.f (a0_0:Int) (l0_1:List (S77)) (l0_2:List (S51)) (a1:Int):Option (Bool):=(r7_in.f a1 0 (wrap64 ((l0_2.length:Int)-1))).bind fun t141=>(some t141)
set_option maxHeartbeats 8000000 in
set_option maxRecDepth 100000 in
theorem r7_Outlet.calls (a0_0:Int) (A0_1:Option Addr) (c0_1:Nat) (l0_1:List (S77)) (A0_2:Option Addr) (c0_2:Nat) (l0_2:List (S51)) (a1:Int) (r:Bool) (w:World) (hr0_1:Kd.C k77 w A0_1 l0_1.length l0_1) (hc0_1:l0_1.length≤c0_1) (hr0_2:Kd.C k51 w A0_2 l0_2.length l0_2) (hc0_2:l0_2.length≤c0_2) (h:r7_Outlet.f a0_0 l0_1 l0_2 a1=some r):
  Calls Tryz.prog 15 #[.agg #[.int .i64 a0_0,.slice A0_1 l0_1.length c0_1,.slice A0_2 l0_2.length c0_2],.int .i64 a1] w fun e w'=>e=.returned (.bool r)∧Below w.heap.size w w':=by
 have hu25:=Tryz.underlying25;have HR0_1:=aM hr0_1;have HC0_1:=aM hc0_1;clear hr0_1 hc0_1;have HR0_2:=aM hr0_2;have HC0_2:=aM hc0_2;clear hr0_2 hc0_2;have HB:=aM (Below.refl w.heap.size w);have H:((r7_in.f a1 0 (wrap64 ((l0_2.length:Int)-1))).bind fun t141=>(some t141))=some r:=h;clear h;replace H:=Option.bind_eq_some_iff.mp H;obtain⟨t141,A30,H⟩:=H;replace H:(some t141)=some r:=H;have A3:=aM A30;clear A30;obtain rfl:=Option.some.inj H
 go_enter Tryz.func15,Tryz.ntmps15
 go_wp2_with (first|((with_reducible refine gate_dst (N:=2) rfl ?_);refine bxe 2 #[.int .i64 a0_0,.slice A0_1 l0_1.length c0_1,.slice A0_2 l0_2.length c0_2] 25 ?_;intro gb140 hg w4 hbox hb;have n0_:=aM (below_step uB hb);have n1_:=aM (hbox);have n2_:=gw hg;have n3_:=gw hg;clear HB;have HB:=n0_;have BK140:=n1_;have GW140:=n2_;have GE140:=n3_;clear n0_ n1_ n2_ n3_;clear hb hbox hg;obtain⟨hcz5_0,hcz5_1,hcz5_2⟩:=cz3 BK140.out;obtain⟨hfz5_0,hfz5_1,hfz5_2⟩:=fz3 BK140.out)|((with_reducible refine gate_callee (f:=45) rfl ?_);refine goesL_ (some 10) rfl rfl Tryz.func45 (by kernel_rfl) rfl #[.int .i64 a1,.int .i64 0,.int .i64 (wrap64 ((l0_2.length:Int)-1))] rfl uM ?_;(with_reducible refine(r7_in.calls a1 0 (wrap64 ((l0_2.length:Int)-1)) t141 _ A3.out).mono ?_);rintro e w' ⟨rfl,⟨nd,rfl⟩⟩;refine⟨_,rfl,?_⟩))
 go_ret;exact⟨uE,uB⟩
def r7_Cap.f (a0_0:Int) (l0_1:List (S77)) (l0_2:List (S51)) (a1:Int):Option (Int):=if a1=0 then(some a0_0) else(if 0≤(wrap64 (a1-1)) then(if (wrap64 (a1-1))<(l0_1.length:Int) then(some ((rd_T77 l0_1 (wrap64 (a1-1))).f1)) else(none)) else(none))
set_option maxHeartbeats 8000000 in
set_option maxRecDepth 100000 in
theorem r7_Cap.calls (a0_0:Int) (A0_1:Option Addr) (c0_1:Nat) (l0_1:List (S77)) (A0_2:Option Addr) (c0_2:Nat) (l0_2:List (S51)) (a1:Int) (r:Int) (w:World) (hr0_1:Kd.C k77 w A0_1 l0_1.length l0_1) (hc0_1:l0_1.length≤c0_1) (hr0_2:Kd.C k51 w A0_2 l0_2.length l0_2) (hc0_2:l0_2.length≤c0_2) (h:r7_Cap.f a0_0 l0_1 l0_2 a1=some r):
  Calls Tryz.prog 17 #[.agg #[.int .i64 a0_0,.slice A0_1 l0_1.length c0_1,.slice A0_2 l0_2.length c0_2],.int .i64 a1] w fun e w'=>e=.returned (.int .i64 r)∧Below w.heap.size w w':=by
 have hu25:=Tryz.underlying25;have HR0_1:=aM hr0_1;have HC0_1:=aM hc0_1;clear hr0_1 hc0_1;have HR0_2:=aM hr0_2;have HC0_2:=aM hc0_2;clear hr0_2 hc0_2;have HB:=aM (Below.refl w.heap.size w);have H:(if a1=0 then(some a0_0) else(if 0≤(wrap64 (a1-1)) then(if (wrap64 (a1-1))<(l0_1.length:Int) then(some ((rd_T77 l0_1 (wrap64 (a1-1))).f1)) else(none)) else(none)))=some r:=h;clear h
 by_cases c3:a1=0
 ·rw[if_pos c3] at H;have c3b0:(a1==0)=true:=beq_iff_eq.mpr c3;have c3b1:(a1 !=0)=false:=bne_eq_false_iff_eq.mpr c3;clear c3;obtain rfl:=Option.some.inj H
  go_enter Tryz.func17,Tryz.ntmps17
  go_wp2_with (first|((with_reducible refine gate_dst (N:=2) rfl ?_);refine bxe 2 #[.int .i64 a0_0,.slice A0_1 l0_1.length c0_1,.slice A0_2 l0_2.length c0_2] 25 ?_;intro gb142 hg w4 hbox hb;have n0_:=aM (below_step uB hb);have n1_:=aM (hbox);have n2_:=gw hg;have n3_:=gw hg;clear HB;have HB:=n0_;have BK142:=n1_;have GW142:=n2_;have GE142:=n3_;clear n0_ n1_ n2_ n3_;clear hb hbox hg;obtain⟨hcz5_0,hcz5_1,hcz5_2⟩:=cz3 BK142.out;obtain⟨hfz5_0,hfz5_1,hfz5_2⟩:=fz3 BK142.out))
  go_ret;exact⟨uE,uB⟩
 ·rw[if_neg c3] at H;have c3b0:(a1==0)=false:=beq_eq_false_iff_ne.mpr c3;have c3b1:(a1 !=0)=true:=bne_iff_ne.mpr c3;obtain⟨ji6,hji6⟩:∃j_:Int,(wrap64 (a1-1))=j_:=⟨_,rfl⟩;replace H:(if 0≤(ji6) then(if (ji6)<(l0_1.length:Int) then(some ((rd_T77 l0_1 (ji6)).f1)) else(none)) else(none))=some r:=by first|(rw [hji6] at H;exact H)|(simp only[hji6] at H⊢;exact H)
  have hji6w:(IntKind.i64.wrap (a1-1))=ji6:=(i64_w _).trans hji6;obtain⟨c7,H⟩:=ifs H;replace c7:=decide_eq_true c7;obtain⟨c8,H⟩:=ifs H;replace c8:=decide_eq_true c8;obtain rfl:=Option.some.inj H
  go_enter Tryz.func17,Tryz.ntmps17
  go_wp2_with (first|((with_reducible refine gate_dst (N:=2) rfl ?_);refine bxe 2 #[.int .i64 a0_0,.slice A0_1 l0_1.length c0_1,.slice A0_2 l0_2.length c0_2] 25 ?_;intro gb142 hg w9 hbox hb;have n0_:=aM (below_step uB hb);have n1_:=aM (hbox);have n2_:=gw hg;have n3_:=gw hg;clear HB;have HB:=n0_;have BK142:=n1_;have GW142:=n2_;have GE142:=n3_;clear n0_ n1_ n2_ n3_;clear hb hbox hg;obtain⟨hcz10_0,hcz10_1,hcz10_2⟩:=cz3 BK142.out;obtain⟨hfz10_0,hfz10_1,hfz10_2⟩:=fz3 BK142.out;have p143:0≤((ji6):Int):=uD;have q143:(ji6)<(l0_1.length:Int):=uD;obtain⟨ad143,e143,hx143_0,hx143_1⟩:=at_T77 HR0_1.out (ji6) p143 q143;cases e143;replace hx143_0:=hcell HB.out hx143_0;replace hx143_1:=hcell HB.out hx143_1;replace p143:=eq_true p143;replace q143:=eq_true q143))
  go_ret;exact⟨by first|rfl|(simp [errW_none,errW_some]<;>rfl)|(simp only[← hji6];first|rfl|(simp [errW_none,errW_some]<;>rfl))|(simp [*,errW_none,errW_some]<;>rfl),uB⟩
def r7_parent.f (a0_0:Int) (l0_1:List (S77)) (l0_2:List (S51)) (a1:Int):Option (Int):=if a1=0 then(some (-1)) else(if 0≤(wrap64 (a1-1)) then(if (wrap64 (a1-1))<(l0_1.length:Int) then(some ((rd_T77 l0_1 (wrap64 (a1-1))).f0)) else(none)) else(none))
set_option maxHeartbeats 8000000 in
set_option maxRecDepth 100000 in
theorem r7_parent.calls (a0_0:Int) (A0_1:Option Addr) (c0_1:Nat) (l0_1:List (S77)) (A0_2:Option Addr) (c0_2:Nat) (l0_2:List (S51)) (a1:Int) (r:Int) (w:World) (hr0_1:Kd.C k77 w A0_1 l0_1.length l0_1) (hc0_1:l0_1.length≤c0_1) (hr0_2:Kd.C k51 w A0_2 l0_2.length l0_2) (hc0_2:l0_2.length≤c0_2) (h:r7_parent.f a0_0 l0_1 l0_2 a1=some r):
  Calls Tryz.prog 133 #[.agg #[.int .i64 a0_0,.slice A0_1 l0_1.length c0_1,.slice A0_2 l0_2.length c0_2],.int .i64 a1] w fun e w'=>e=.returned (.int .i64 r)∧Below w.heap.size w w':=by
 have hu25:=Tryz.underlying25;have HR0_1:=aM hr0_1;have HC0_1:=aM hc0_1;clear hr0_1 hc0_1;have HR0_2:=aM hr0_2;have HC0_2:=aM hc0_2;clear hr0_2 hc0_2;have HB:=aM (Below.refl w.heap.size w);have H:(if a1=0 then(some (-1)) else(if 0≤(wrap64 (a1-1)) then(if (wrap64 (a1-1))<(l0_1.length:Int) then(some ((rd_T77 l0_1 (wrap64 (a1-1))).f0)) else(none)) else(none)))=some r:=h;clear h
 by_cases c3:a1=0
 ·rw[if_pos c3] at H;have c3b0:(a1==0)=true:=beq_iff_eq.mpr c3;have c3b1:(a1 !=0)=false:=bne_eq_false_iff_eq.mpr c3;clear c3;obtain rfl:=Option.some.inj H
  go_enter Tryz.func133,Tryz.ntmps133
  go_wp2_with (first|((with_reducible refine gate_dst (N:=2) rfl ?_);refine bxe 2 #[.int .i64 a0_0,.slice A0_1 l0_1.length c0_1,.slice A0_2 l0_2.length c0_2] 25 ?_;intro gb679 hg w4 hbox hb;have n0_:=aM (below_step uB hb);have n1_:=aM (hbox);have n2_:=gw hg;have n3_:=gw hg;clear HB;have HB:=n0_;have BK679:=n1_;have GW679:=n2_;have GE679:=n3_;clear n0_ n1_ n2_ n3_;clear hb hbox hg))
  go_ret;exact⟨uE,uB⟩
 ·rw[if_neg c3] at H;have c3b0:(a1==0)=false:=beq_eq_false_iff_ne.mpr c3;have c3b1:(a1 !=0)=true:=bne_iff_ne.mpr c3;obtain⟨ji5,hji5⟩:∃j_:Int,(wrap64 (a1-1))=j_:=⟨_,rfl⟩;replace H:(if 0≤(ji5) then(if (ji5)<(l0_1.length:Int) then(some ((rd_T77 l0_1 (ji5)).f0)) else(none)) else(none))=some r:=by first|(rw [hji5] at H;exact H)|(simp only[hji5] at H⊢;exact H)
  have hji5w:(IntKind.i64.wrap (a1-1))=ji5:=(i64_w _).trans hji5;obtain⟨c6,H⟩:=ifs H;replace c6:=decide_eq_true c6;obtain⟨c7,H⟩:=ifs H;replace c7:=decide_eq_true c7;obtain rfl:=Option.some.inj H
  go_enter Tryz.func133,Tryz.ntmps133
  go_wp2_with (first|((with_reducible refine gate_dst (N:=2) rfl ?_);refine bxe 2 #[.int .i64 a0_0,.slice A0_1 l0_1.length c0_1,.slice A0_2 l0_2.length c0_2] 25 ?_;intro gb679 hg w8 hbox hb;have n0_:=aM (below_step uB hb);have n1_:=aM (hbox);have n2_:=gw hg;have n3_:=gw hg;clear HB;have HB:=n0_;have BK679:=n1_;have GW679:=n2_;have GE679:=n3_;clear n0_ n1_ n2_ n3_;clear hb hbox hg;obtain⟨hcz9_0,hcz9_1,hcz9_2⟩:=cz3 BK679.out;obtain⟨hfz9_0,hfz9_1,hfz9_2⟩:=fz3 BK679.out;have p680:0≤((ji5):Int):=uD;have q680:(ji5)<(l0_1.length:Int):=uD;obtain⟨ad680,e680,hx680_0,hx680_1⟩:=at_T77 HR0_1.out (ji5) p680 q680;cases e680;replace hx680_0:=hcell HB.out hx680_0;replace hx680_1:=hcell HB.out hx680_1;replace p680:=eq_true p680;replace q680:=eq_true q680))
  go_ret;exact⟨by first|rfl|(simp [errW_none,errW_some]<;>rfl)|(simp only[← hji5];first|rfl|(simp [errW_none,errW_some]<;>rfl))|(simp [*,errW_none,errW_some]<;>rfl),uB⟩
def r7_Below.l0:Nat->Int->Int->Int->List (S77)->List (S51)->Option (Bool)
 |0,_,_,_,_,_=>none
 |k+1,x2,x7,x682000,x682001,x682002=>if x7≥0 then(if x7=x2 then(some true) else((r7_parent.f x682000 x682001 x682002 x7).bind fun t683=>(r7_Below.l0 k x2 t683 x682000 x682001 x682002))) else(some false)
def r7_Below.f (k:Nat) (a0_0:Int) (l0_1:List (S77)) (l0_2:List (S51)) (a1:Int) (a2:Int):Option (Bool):=if 0≤a1 then(if a1<(l0_2.length:Int) then(r7_Below.l0 k a2 ((rd_T51 l0_2 a1).f0) a0_0 l0_1 l0_2) else(none)) else(none)
set_option maxHeartbeats 8000000 in
set_option maxRecDepth 100000 in
theorem r7_Below.calls (k:Nat) (a0_0:Int) (A0_1:Option Addr) (c0_1:Nat) (l0_1:List (S77)) (A0_2:Option Addr) (c0_2:Nat) (l0_2:List (S51)) (a1:Int) (a2:Int) (r:Bool) (w:World) (hr0_1:Kd.C k77 w A0_1 l0_1.length l0_1) (hc0_1:l0_1.length≤c0_1) (hr0_2:Kd.C k51 w A0_2 l0_2.length l0_2) (hc0_2:l0_2.length≤c0_2) (h:r7_Below.f k a0_0 l0_1 l0_2 a1 a2=some r):
  Calls Tryz.prog 108 #[.agg #[.int .i64 a0_0,.slice A0_1 l0_1.length c0_1,.slice A0_2 l0_2.length c0_2],.int .i64 a1,.int .i64 a2] w fun e w'=>e=.returned (.bool r)∧Below w.heap.size w w':=by
 have hu25:=Tryz.underlying25;have HR0_1:=aM hr0_1;have HC0_1:=aM hc0_1;clear hr0_1 hc0_1;have HR0_2:=aM hr0_2;have HC0_2:=aM hc0_2;clear hr0_2 hc0_2;have HB:=aM (Below.refl w.heap.size w);have H:(if 0≤a1 then(if a1<(l0_2.length:Int) then(r7_Below.l0 k a2 ((rd_T51 l0_2 a1).f0) a0_0 l0_1 l0_2) else(none)) else(none))=some r:=h;clear h;obtain⟨c4,H⟩:=ifs H;replace c4:=decide_eq_true c4;obtain⟨c5,H⟩:=ifs H;replace c5:=decide_eq_true c5;have H':=aM H;clear H
 go_enter Tryz.func108,Tryz.ntmps108
 go_wp2_with (first|((with_reducible refine gate_dst (N:=3) rfl ?_);refine bxe 3 #[.int .i64 a0_0,.slice A0_1 l0_1.length c0_1,.slice A0_2 l0_2.length c0_2] 25 ?_;intro gb681 hg w6 hbox hb;have n0_:=aM (below_step uB hb);have n1_:=aM (hbox);have n2_:=gw hg;have n3_:=gw hg;clear HB;have HB:=n0_;have BK681:=n1_;have GW681:=n2_;have GE681:=n3_;clear n0_ n1_ n2_ n3_;clear hb hbox hg;obtain⟨hcz7_0,hcz7_1,hcz7_2⟩:=cz3 BK681.out;obtain⟨hfz7_0,hfz7_1,hfz7_2⟩:=fz3 BK681.out;have p682:0≤(a1:Int):=uD;have q682:a1<(l0_2.length:Int):=uD;obtain⟨ad682,e682,hx682_0,hx682_1,hx682_2⟩:=at_T51 HR0_2.out a1 p682 q682;cases e682;replace hx682_0:=hcell HB.out hx682_0;replace hx682_1:=hcell HB.out hx682_1;replace hx682_2:=hcell HB.out hx682_2;replace p682:=eq_true p682;replace q682:=eq_true q682))
 go_loopg [7] k (fun kq v7 w'=>∃(x7_1:Int),v7=.int .i64 x7_1∧Aside0 (r7_Below.l0 kq a2 x7_1 a0_0 l0_1 l0_2=some r)∧Aside0 (kq≤k)∧Aside0 (w'.heap[gb681]? =some (.cells #[.int .i64 a0_0,(.slice A0_1 l0_1.length c0_1),(.slice (some ad682) l0_2.length c0_2)] 25 (0,0)))∧Aside0 (Below w.heap.size w w'))
 case atStart=>exact⟨((rd_T51 l0_2 a1).f0),u0,H',⟨Nat.le_refl _⟩,⟨uK BK681.out⟩,⟨uB⟩⟩
 case round=>
  clear H';obtain⟨x7_1,rfl,HA,HK1,BK681,HB⟩:=hrel
  cases gk with
  |zero=>exact absurd HA.out (by simp[r7_Below.l0])
  |succ k1=>
   have H:=HA.out;clear HA;simp only[r7_Below.l0] at H
   by_cases c8:x7_1≥0
   ·rw[if_pos c8] at H;replace c8:=decide_eq_true c8
    by_cases c9:x7_1=a2
    ·rw[if_pos c9] at H;have c9b0:(x7_1==a2)=true:=beq_iff_eq.mpr c9;have c9b1:(x7_1 !=a2)=false:=bne_eq_false_iff_eq.mpr c9;clear c9;obtain rfl:=Option.some.inj H;go_wp2;go_ret;exact⟨uE,uB⟩
    ·rw[if_neg c9] at H;have c9b0:(x7_1==a2)=false:=beq_eq_false_iff_ne.mpr c9;have c9b1:(x7_1 !=a2)=true:=bne_iff_ne.mpr c9;replace H:=Option.bind_eq_some_iff.mp H;obtain⟨t683,A100,H⟩:=H;replace H:(r7_Below.l0 k1 a2 t683 a0_0 l0_1 l0_2)=some r:=H;have A10:=aM A100;clear A100;have H':=aM H;clear H;obtain⟨hcz11_0,hcz11_1,hcz11_2⟩:=cz3 BK681.out;obtain⟨hfz11_0,hfz11_1,hfz11_2⟩:=fz3 BK681.out
     go_wp2_with (first|((with_reducible refine gate_callee (f:=133) rfl ?_);refine goesL_ (some 18) rfl rfl Tryz.func133 (by kernel_rfl) rfl #[.agg #[.int .i64 a0_0,.slice A0_1 l0_1.length c0_1,.slice (some ad682) l0_2.length c0_2],.int .i64 x7_1] rfl uM ?_;(with_reducible refine(r7_parent.calls a0_0 _ _ l0_1 _ _ l0_2 x7_1 t683 _ ?side1 ?side2 ?side3 ?side4 A10.out).mono ?_);(case side1=>exact uY HR0_1 HB);(case side2=>exact HC0_1.out);(case side3=>exact uY HR0_2 HB);(case side4=>exact HC0_2.out);rintro e w12 ⟨rfl,hb⟩;refine⟨_,rfl,?_⟩;replace BK681:=aM (blk_below (uK BK681.out) hb);replace HB:=aM (below_step uB hb);(try clear hb)))
     go_roundg k1
     case measure=>have:=HK1.out;omega
     case rel=>exact⟨(t683),u0,H',⟨by have:=HK1.out;omega⟩,⟨uK BK681.out⟩,⟨uB⟩⟩
   ·rw[if_neg c8] at H;replace c8:=decide_eq_false c8;obtain rfl:=Option.some.inj H;go_wp2;go_ret;exact⟨uE,uB⟩
def r7_Sum.l0:Nat->List Int->Int->Int->Int->Int->List (S77)->List (S51)->Option (Int)
 |0,_,_,_,_,_,_,_=>none
 |k+1,x1,x2,x7,x8,x685000,x685001,x685002=>if x8<(x1.length:Int) then((r7_Below.f k x685000 x685001 x685002 x8 x2).bind fun t685=>(if t685=true then(if 0≤x8 then(r7_Sum.l0 k x1 x2 (wrap64 (x7+(rd x1 x8))) (wrap64 (x8+1)) x685000 x685001 x685002) else(none)) else(r7_Sum.l0 k x1 x2 x7 (wrap64 (x8+1)) x685000 x685001 x685002))) else(some x7)
def r7_Sum.f (k:Nat) (a0_0:Int) (l0_1:List (S77)) (l0_2:List (S51)) (l1:List Int) (a2:Int):Option (Int):=r7_Sum.l0 k l1 a2 0 0 a0_0 l0_1 l0_2
set_option maxHeartbeats 8000000 in
set_option maxRecDepth 100000 in
theorem r7_Sum.calls (k:Nat) (a0_0:Int) (A0_1:Option Addr) (c0_1:Nat) (l0_1:List (S77)) (A0_2:Option Addr) (c0_2:Nat) (l0_2:List (S51)) (A1:Option Addr) (c1:Nat) (l1:List Int) (a2:Int) (r:Int) (w:World) (hr0_1:Kd.C k77 w A0_1 l0_1.length l0_1) (hc0_1:l0_1.length≤c0_1) (hr0_2:Kd.C k51 w A0_2 l0_2.length l0_2) (hc0_2:l0_2.length≤c0_2) (hr1:Kd.C (Kd.int .i64) w A1 l1.length l1) (hc1:l1.length≤c1) (h:r7_Sum.f k a0_0 l0_1 l0_2 l1 a2=some r):
  Calls Tryz.prog 68 #[.agg #[.int .i64 a0_0,.slice A0_1 l0_1.length c0_1,.slice A0_2 l0_2.length c0_2],.slice A1 l1.length c1,.int .i64 a2] w fun e w'=>e=.returned (.int .i64 r)∧Below w.heap.size w w':=by
 have hu25:=Tryz.underlying25;have HR0_1:=aM hr0_1;have HC0_1:=aM hc0_1;clear hr0_1 hc0_1;have HR0_2:=aM hr0_2;have HC0_2:=aM hc0_2;clear hr0_2 hc0_2;have HR1:=aM hr1;have HC1:=aM hc1;clear hr1 hc1;have HB:=aM (Below.refl w.heap.size w);have H:(r7_Sum.l0 k l1 a2 0 0 a0_0 l0_1 l0_2)=some r:=h;clear h;have H':=aM H;clear H
 go_enter Tryz.func68,Tryz.ntmps68
 go_wp2_with (first|((with_reducible refine gate_dst (N:=3) rfl ?_);refine bxe 3 #[.int .i64 a0_0,.slice A0_1 l0_1.length c0_1,.slice A0_2 l0_2.length c0_2] 25 ?_;intro gb684 hg w4 hbox hb;have n0_:=aM (below_step uB hb);have n1_:=aM (hbox);have n2_:=gw hg;have n3_:=gw hg;clear HB;have HB:=n0_;have BK684:=n1_;have GW684:=n2_;have GE684:=n3_;clear n0_ n1_ n2_ n3_;clear hb hbox hg))
 go_loopg [7,8] k (fun kq v7 v8 w'=>∃(x7_1:Int) (x8_1:Int),v7=.int .i64 x7_1∧v8=.int .i64 x8_1∧Aside0 (r7_Sum.l0 kq l1 a2 x7_1 x8_1 a0_0 l0_1 l0_2=some r)∧Aside0 (kq≤k)∧Aside0 (w'.heap[gb684]? =some (.cells #[.int .i64 a0_0,(.slice A0_1 l0_1.length c0_1),(.slice A0_2 l0_2.length c0_2)] 25 (0,0)))∧Aside0 (Below w.heap.size w w'))
 case atStart=>exact⟨(0),(0),u0,u0,H',⟨Nat.le_refl _⟩,⟨uK BK684.out⟩,⟨uB⟩⟩
 case round=>
  clear H';obtain⟨x7_1,x8_1,rfl,rfl,HA,HK1,BK684,HB⟩:=hrel
  cases gk with
  |zero=>exact absurd HA.out (by simp[r7_Sum.l0])
  |succ k1=>
   have H:=HA.out;clear HA;simp only[r7_Sum.l0] at H
   by_cases c5:x8_1<(l1.length:Int)
   ·rw[if_pos c5] at H;replace c5:=decide_eq_true c5;replace H:=Option.bind_eq_some_iff.mp H;obtain⟨t685,A60,H⟩:=H;replace H:(if t685=true then(if 0≤x8_1 then(r7_Sum.l0 k1 l1 a2 (wrap64 (x7_1+(rd l1 x8_1))) (wrap64 (x8_1+1)) a0_0 l0_1 l0_2) else(none)) else(r7_Sum.l0 k1 l1 a2 x7_1 (wrap64 (x8_1+1)) a0_0 l0_1 l0_2))=some r:=H;have A6:=aM A60;clear A60
    by_cases c7:t685=true
    ·subst c7;have H1:(if 0≤x8_1 then(r7_Sum.l0 k1 l1 a2 (wrap64 (x7_1+(rd l1 x8_1))) (wrap64 (x8_1+1)) a0_0 l0_1 l0_2) else(none))=some r:=by rw[if_pos rfl] at H;exact H
     clear H;have H:=H1;clear H1;obtain⟨c8,H⟩:=ifs H;replace c8:=decide_eq_true c8;have H':=aM H;clear H;obtain⟨hcz9_0,hcz9_1,hcz9_2⟩:=cz3 BK684.out;obtain⟨hfz9_0,hfz9_1,hfz9_2⟩:=fz3 BK684.out
     go_wp2_with (first|((with_reducible refine gate_callee (f:=108) rfl ?_);refine goesL_ (some 18) rfl rfl Tryz.func108 (by kernel_rfl) rfl #[.agg #[.int .i64 a0_0,.slice A0_1 l0_1.length c0_1,.slice A0_2 l0_2.length c0_2],.int .i64 x8_1,.int .i64 a2] rfl uM ?_;(with_reducible refine(r7_Below.calls k1 a0_0 _ _ l0_1 _ _ l0_2 x8_1 a2 true _ ?side1 ?side2 ?side3 ?side4 A6.out).mono ?_);(case side1=>exact uY HR0_1 HB);(case side2=>exact HC0_1.out);(case side3=>exact uY HR0_2 HB);(case side4=>exact HC0_2.out);rintro e w10 ⟨rfl,hb⟩;refine⟨_,rfl,?_⟩;replace BK684:=aM (blk_below (uK BK684.out) hb);replace HB:=aM (below_step uB hb);(try clear hb);have p686:0≤(x8_1:Int):=uD;have q686:x8_1<(l1.length:Int):=uD;obtain⟨ad686,e686,hx686_0⟩:=Kd.at_int HR1.out x8_1 p686 q686;cases e686;replace hx686_0:=hcell HB.out hx686_0;replace p686:=eq_true p686;replace q686:=eq_true q686))
     go_roundg k1
     case measure=>have:=HK1.out;omega
     case rel=>exact⟨(wrap64 (x7_1+(rd l1 x8_1))),(wrap64 (x8_1+1)),u0,u0,H',⟨by have:=HK1.out;omega⟩,⟨uK BK684.out⟩,⟨uB⟩⟩
    ·replace c7:=Bool.eq_false_iff.mpr c7;subst c7;have H1:(r7_Sum.l0 k1 l1 a2 x7_1 (wrap64 (x8_1+1)) a0_0 l0_1 l0_2)=some r:=by rw[if_neg (show ¬(false=true) by decide)] at H;exact H
     clear H;have H:=H1;clear H1;have H':=aM H;clear H;obtain⟨hcz11_0,hcz11_1,hcz11_2⟩:=cz3 BK684.out;obtain⟨hfz11_0,hfz11_1,hfz11_2⟩:=fz3 BK684.out
     go_wp2_with (first|((with_reducible refine gate_callee (f:=108) rfl ?_);refine goesL_ (some 18) rfl rfl Tryz.func108 (by kernel_rfl) rfl #[.agg #[.int .i64 a0_0,.slice A0_1 l0_1.length c0_1,.slice A0_2 l0_2.length c0_2],.int .i64 x8_1,.int .i64 a2] rfl uM ?_;(with_reducible refine(r7_Below.calls k1 a0_0 _ _ l0_1 _ _ l0_2 x8_1 a2 false _ ?side1 ?side2 ?side3 ?side4 A6.out).mono ?_);(case side1=>exact uY HR0_1 HB);(case side2=>exact HC0_1.out);(case side3=>exact uY HR0_2 HB);(case side4=>exact HC0_2.out);rintro e w12 ⟨rfl,hb⟩;refine⟨_,rfl,?_⟩;replace BK684:=aM (blk_below (uK BK684.out) hb);replace HB:=aM (below_step uB hb);(try clear hb)))
     go_roundg k1
     case measure=>have:=HK1.out;omega
     case rel=>exact⟨(x7_1),(wrap64 (x8_1+1)),u0,u0,H',⟨by have:=HK1.out;omega⟩,⟨uK BK684.out⟩,⟨uB⟩⟩
   ·rw[if_neg c5] at H;replace c5:=decide_eq_false c5;obtain rfl:=Option.some.inj H;go_wp2;go_ret;exact⟨uE,uB⟩
def r7_Fits.l0:Nat->List Int->Int->Int->List (S77)->List (S51)->Option (Bool)
 |0,_,_,_,_,_=>none
 |k+1,x1,x5,x688000,x688001,x688002=>if x5≤(x688001.length:Int) then((r7_Sum.f k x688000 x688001 x688002 x1 x5).bind fun t688=>((r7_Cap.f x688000 x688001 x688002 x5).bind fun t689=>(if t688>t689 then(some false) else(r7_Fits.l0 k x1 (wrap64 (x5+1)) x688000 x688001 x688002)))) else(some true)
def r7_Fits.f (k:Nat) (a0_0:Int) (l0_1:List (S77)) (l0_2:List (S51)) (l1:List Int):Option (Bool):=r7_Fits.l0 k l1 0 a0_0 l0_1 l0_2
def r7_Fits.T4:Bool×List (List Nat×List Nat):=(true,[([],[]),([],[]),([],[]),([0,1,2],[0,1,2]),([],[]),([],[]),([4,5,3],[4,5]),([3,6],[3,6])])
def r7_Fits.B4:List Nat:=[0,0,0,7,0,0,63,127]
theorem r7_Fits.tab4:rtab .any (opsOf Tryz.f31 4)=r7_Fits.T4:=by kernel_rfl
theorem r7_Fits.bits4:waitsOk r7_Fits.T4.2 r7_Fits.B4=true:=by kernel_rfl
set_option maxHeartbeats 8000000 in
set_option maxRecDepth 100000 in
theorem r7_Fits.calls (k:Nat) (a0_0:Int) (A0_1:Option Addr) (c0_1:Nat) (l0_1:List (S77)) (A0_2:Option Addr) (c0_2:Nat) (l0_2:List (S51)) (A1:Option Addr) (c1:Nat) (l1:List Int) (r:Bool) (w:World) (hr0_1:Kd.C k77 w A0_1 l0_1.length l0_1) (hc0_1:l0_1.length≤c0_1) (hr0_2:Kd.C k51 w A0_2 l0_2.length l0_2) (hc0_2:l0_2.length≤c0_2) (hr1:Kd.C (Kd.int .i64) w A1 l1.length l1) (hc1:l1.length≤c1) (h:r7_Fits.f k a0_0 l0_1 l0_2 l1=some r):
  Calls Tryz.prog 31 #[.agg #[.int .i64 a0_0,.slice A0_1 l0_1.length c0_1,.slice A0_2 l0_2.length c0_2],.slice A1 l1.length c1] w fun e w'=>e=.returned (.bool r)∧Below w.heap.size w w':=by
 have hu25:=Tryz.underlying25;have HR0_1:=aM hr0_1;have HC0_1:=aM hc0_1;clear hr0_1 hc0_1;have HR0_2:=aM hr0_2;have HC0_2:=aM hc0_2;clear hr0_2 hc0_2;have HR1:=aM hr1;have HC1:=aM hc1;clear hr1 hc1;have HB:=aM (Below.refl w.heap.size w);have H:(r7_Fits.l0 k l1 0 a0_0 l0_1 l0_2)=some r:=h;clear h;have H':=aM H;clear H
 go_enter Tryz.func31,Tryz.ntmps31
 go_wp2_with (first|((with_reducible refine gate_dst (N:=2) rfl ?_);refine bxe 2 #[.int .i64 a0_0,.slice A0_1 l0_1.length c0_1,.slice A0_2 l0_2.length c0_2] 25 ?_;intro gb687 hg w3 hbox hb;have n0_:=aM (below_step uB hb);have n1_:=aM (hbox);have n2_:=gw hg;have n3_:=gw hg;clear HB;have HB:=n0_;have BK687:=n1_;have GW687:=n2_;have GE687:=n3_;clear n0_ n1_ n2_ n3_;clear hb hbox hg))
 go_loopg [5] k (fun kq v5 w'=>∃(x5_1:Int),v5=.int .i64 x5_1∧Aside0 (r7_Fits.l0 kq l1 x5_1 a0_0 l0_1 l0_2=some r)∧Aside0 (kq≤k)∧Aside0 (w'.heap[gb687]? =some (.cells #[.int .i64 a0_0,(.slice A0_1 l0_1.length c0_1),(.slice A0_2 l0_2.length c0_2)] 25 (0,0)))∧Aside0 (Below w.heap.size w w'))
 case atStart=>exact⟨(0),u0,H',⟨Nat.le_refl _⟩,⟨uK BK687.out⟩,⟨uB⟩⟩
 case round=>
  clear H';try clear c1;try clear p2;try clear c3
  obtain⟨x5_1,rfl,HA,HK1,BK687,HB⟩:=hrel
  cases gk with
  |zero=>exact absurd HA.out (by simp[r7_Fits.l0])
  |succ k1=>
   have H:=HA.out;clear HA;simp only[r7_Fits.l0] at H
   by_cases c4:x5_1≤(l0_1.length:Int)
   ·rw[if_pos c4] at H;replace c4:=decide_eq_true c4;replace H:=Option.bind_eq_some_iff.mp H;obtain⟨t688,A50,H⟩:=H;replace H:((r7_Cap.f a0_0 l0_1 l0_2 x5_1).bind fun t689=>(if t688>t689 then(some false) else(r7_Fits.l0 k1 l1 (wrap64 (x5_1+1)) a0_0 l0_1 l0_2)))=some r:=H;have A5:=aM A50;clear A50;replace H:=Option.bind_eq_some_iff.mp H;obtain⟨t689,A60,H⟩:=H;replace H:(if t688>t689 then(some false) else(r7_Fits.l0 k1 l1 (wrap64 (x5_1+1)) a0_0 l0_1 l0_2))=some r:=H;have A6:=aM A60;clear A60
    by_cases c7:t688>t689
    ·rw[if_pos c7] at H;replace c7:=decide_eq_true c7;obtain rfl:=Option.some.inj H;obtain⟨hcz8_0,hcz8_1,hcz8_2⟩:=cz3 BK687.out;obtain⟨hfz8_0,hfz8_1,hfz8_2⟩:=fz3 BK687.out;(try go_wp2);replace BK687:=aM (blk_drew BK687.out);replace HB:=aM (below_drew1 HB.out);refine start_ (n:=8) (S:=fun w'=>w'.cell? ⟨gb687,0,none⟩=some (.int .i64 a0_0)∧w'.cell? ⟨gb687,1,none⟩=some (.slice A0_1 l0_1.length c0_1)∧w'.cell? ⟨gb687,2,none⟩=some (.slice A0_2 l0_2.length c0_2)) (ds:=[]) (bl 8 0) (by kernel_rfl) rfl rfl ⟨(blk_cell BK687.out 0).trans rfl,(blk_cell BK687.out 1).trans rfl,(blk_cell BK687.out 2).trans rfl⟩ (fun hHeld=>?_);refine with_tabW r7_Fits.tab4 r7_Fits.bits4 (fun HT_ HW_=>?_)
     generalize wr.drew=w9 at BK687 HB hHeld⊢;refine pu 1 14 8 2 ?_;refine pu 2 15 8 6 ?_;refine pu 5 18 8 38 ?_;refine tk3 0 13 8 39 hHeld ?_;refine tk3 4 17 8 55 hHeld ?_;refine one_ (i:=3) (N:=some 16) (bl 8 63) rfl rfl (one_of HT_.out (by kernel_rfl)) (by decide) (fun K hK=>?_);refine goes_ Tryz.func68 (by kernel_rfl) rfl #[.agg #[.int .i64 a0_0,.slice A0_1 l0_1.length c0_1,.slice A0_2 l0_2.length c0_2],.slice A1 l1.length c1,.int .i64 x5_1] (by rfl) rfl rfl uM ?_;(with_reducible refine(r7_Sum.calls k1 a0_0 _ _ l0_1 _ _ l0_2 _ _ l1 x5_1 t688 _ ?side1 ?side2 ?side3 ?side4 ?side5 ?side6 A5.out).mono ?_);(case side1=>exact uY HR0_1 HB);(case side2=>exact HC0_1.out);(case side3=>exact uY HR0_2 HB);(case side4=>exact HC0_2.out);(case side5=>exact uY HR1 HB);(case side6=>exact HC1.out);rintro e w10 ⟨rfl,hb⟩;refine⟨_,rfl,?_⟩;replace BK687:=aM (blk_below (uK BK687.out) hb);replace HB:=aM (below_step uB hb);(try clear hb);refine hK.out _ _ ⟨(blk_cell BK687.out 0).trans rfl,(blk_cell BK687.out 1).trans rfl,(blk_cell BK687.out 2).trans rfl⟩ (fun hHeld=>?_);clear hK K;refine nm ?_;refine one_ (i:=6) (N:=some 19) (bl 8 127) rfl rfl (one_of HT_.out (by kernel_rfl)) (by decide) (fun K hK=>?_);refine goes_ Tryz.func17 (by kernel_rfl) rfl #[.agg #[.int .i64 a0_0,.slice A0_1 l0_1.length c0_1,.slice A0_2 l0_2.length c0_2],.int .i64 x5_1] (by rfl) rfl rfl uM ?_;(with_reducible refine(r7_Cap.calls a0_0 _ _ l0_1 _ _ l0_2 x5_1 t689 _ ?side1 ?side2 ?side3 ?side4 A6.out).mono ?_);(case side1=>exact uY HR0_1 HB);(case side2=>exact HC0_1.out);(case side3=>exact uY HR0_2 HB);(case side4=>exact HC0_2.out);rintro e w11 ⟨rfl,hb⟩;refine⟨_,rfl,?_⟩;replace BK687:=aM (blk_below (uK BK687.out) hb);replace HB:=aM (below_step uB hb);(try clear hb);refine hK.out _ _ ⟨(blk_cell BK687.out 0).trans rfl,(blk_cell BK687.out 1).trans rfl,(blk_cell BK687.out 2).trans rfl⟩ (fun hHeld=>?_);clear hK K;refine nm ?_;refine pu 7 20 8 255 ?_;refine done_ (done_of HT_.out (by kernel_rfl)) ?_;(try go_wp2);go_ret;exact⟨uE,uB⟩
    ·rw[if_neg c7] at H;replace c7:=decide_eq_false c7;have H':=aM H;clear H;obtain⟨hcz12_0,hcz12_1,hcz12_2⟩:=cz3 BK687.out;obtain⟨hfz12_0,hfz12_1,hfz12_2⟩:=fz3 BK687.out;(try go_wp2);replace BK687:=aM (blk_drew BK687.out);replace HB:=aM (below_drew1 HB.out);refine start_ (n:=8) (S:=fun w'=>w'.cell? ⟨gb687,0,none⟩=some (.int .i64 a0_0)∧w'.cell? ⟨gb687,1,none⟩=some (.slice A0_1 l0_1.length c0_1)∧w'.cell? ⟨gb687,2,none⟩=some (.slice A0_2 l0_2.length c0_2)) (ds:=[]) (bl 8 0) (by kernel_rfl) rfl rfl ⟨(blk_cell BK687.out 0).trans rfl,(blk_cell BK687.out 1).trans rfl,(blk_cell BK687.out 2).trans rfl⟩ (fun hHeld=>?_);refine with_tabW r7_Fits.tab4 r7_Fits.bits4 (fun HT_ HW_=>?_)
     generalize wr.drew=w13 at BK687 HB hHeld⊢;refine pu 1 14 8 2 ?_;refine pu 2 15 8 6 ?_;refine pu 5 18 8 38 ?_;refine tk3 0 13 8 39 hHeld ?_;refine tk3 4 17 8 55 hHeld ?_;refine one_ (i:=3) (N:=some 16) (bl 8 63) rfl rfl (one_of HT_.out (by kernel_rfl)) (by decide) (fun K hK=>?_);refine goes_ Tryz.func68 (by kernel_rfl) rfl #[.agg #[.int .i64 a0_0,.slice A0_1 l0_1.length c0_1,.slice A0_2 l0_2.length c0_2],.slice A1 l1.length c1,.int .i64 x5_1] (by rfl) rfl rfl uM ?_;(with_reducible refine(r7_Sum.calls k1 a0_0 _ _ l0_1 _ _ l0_2 _ _ l1 x5_1 t688 _ ?side1 ?side2 ?side3 ?side4 ?side5 ?side6 A5.out).mono ?_);(case side1=>exact uY HR0_1 HB);(case side2=>exact HC0_1.out);(case side3=>exact uY HR0_2 HB);(case side4=>exact HC0_2.out);(case side5=>exact uY HR1 HB);(case side6=>exact HC1.out);rintro e w14 ⟨rfl,hb⟩;refine⟨_,rfl,?_⟩;replace BK687:=aM (blk_below (uK BK687.out) hb);replace HB:=aM (below_step uB hb);(try clear hb);refine hK.out _ _ ⟨(blk_cell BK687.out 0).trans rfl,(blk_cell BK687.out 1).trans rfl,(blk_cell BK687.out 2).trans rfl⟩ (fun hHeld=>?_);clear hK K;refine nm ?_;refine one_ (i:=6) (N:=some 19) (bl 8 127) rfl rfl (one_of HT_.out (by kernel_rfl)) (by decide) (fun K hK=>?_);refine goes_ Tryz.func17 (by kernel_rfl) rfl #[.agg #[.int .i64 a0_0,.slice A0_1 l0_1.length c0_1,.slice A0_2 l0_2.length c0_2],.int .i64 x5_1] (by rfl) rfl rfl uM ?_;(with_reducible refine(r7_Cap.calls a0_0 _ _ l0_1 _ _ l0_2 x5_1 t689 _ ?side1 ?side2 ?side3 ?side4 A6.out).mono ?_);(case side1=>exact uY HR0_1 HB);(case side2=>exact HC0_1.out);(case side3=>exact uY HR0_2 HB);(case side4=>exact HC0_2.out);rintro e w15 ⟨rfl,hb⟩;refine⟨_,rfl,?_⟩;replace BK687:=aM (blk_below (uK BK687.out) hb);replace HB:=aM (below_step uB hb);(try clear hb);refine hK.out _ _ ⟨(blk_cell BK687.out 0).trans rfl,(blk_cell BK687.out 1).trans rfl,(blk_cell BK687.out 2).trans rfl⟩ (fun hHeld=>?_);clear hK K;refine nm ?_;refine pu 7 20 8 255 ?_;refine done_ (done_of HT_.out (by kernel_rfl)) ?_;try go_wp2
     go_roundg k1
     case measure=>have:=HK1.out;omega
     case rel=>exact⟨(wrap64 (x5_1+1)),u0,H',⟨by have:=HK1.out;omega⟩,⟨uK BK687.out⟩,⟨uB⟩⟩
   ·rw[if_neg c4] at H;replace c4:=decide_eq_false c4;obtain rfl:=Option.some.inj H;obtain⟨hcz16_0,hcz16_1,hcz16_2⟩:=cz3 BK687.out;obtain⟨hfz16_0,hfz16_1,hfz16_2⟩:=fz3 BK687.out;go_wp2;go_ret;exact⟨uE,uB⟩
def r7_Has.l0:Nat->List Int->Int->Int->Option (Bool)
 |0,_,_,_=>none
 |k+1,x0,x1,x5=>if x5<(x0.length:Int) then(if 0≤x5 then(if (rd x0 x5)=x1 then(some true) else(r7_Has.l0 k x0 x1 (wrap64 (x5+1)))) else(none)) else(some false)
def r7_Has.f (k:Nat) (l0:List Int) (a1:Int):Option (Bool):=r7_Has.l0 k l0 a1 0
set_option maxHeartbeats 8000000 in
set_option maxRecDepth 100000 in
theorem r7_Has.calls (k:Nat) (A0:Option Addr) (c0:Nat) (l0:List Int) (a1:Int) (r:Bool) (w:World) (hr0:Kd.C (Kd.int .i64) w A0 l0.length l0) (hc0:l0.length≤c0) (h:r7_Has.f k l0 a1=some r):
  Calls Tryz.prog 23 #[.slice A0 l0.length c0,.int .i64 a1] w fun e w'=>e=.returned (.bool r)∧Drawn0 w w':=by
 have HR0:=aM hr0;have HC0:=aM hc0;clear hr0 hc0;have H:(r7_Has.l0 k l0 a1 0)=some r:=h;clear h;have H':=aM H;clear H
 go_enter Tryz.func23,Tryz.ntmps23
 go_wp2
 go_loopg [5] k (fun kq v5 w'=>∃(x5_1:Int),v5=.int .i64 x5_1∧Aside0 (r7_Has.l0 kq l0 a1 x5_1=some r)∧Aside0 (kq≤k)∧Drawn0 w w')
 case atStart=>exact⟨(0),u0,H',⟨Nat.le_refl _⟩,by repeat(first|exact Drawn0.refl _|apply Drawn0.step)⟩
 case round=>
  clear H';try clear c2;try clear p2
  obtain⟨x5_1,rfl,HA,HK1,⟨m1,rfl⟩⟩:=hrel
  cases gk with
  |zero=>exact absurd HA.out (by simp[r7_Has.l0])
  |succ k1=>
   have H:=HA.out;clear HA;simp only[r7_Has.l0] at H
   by_cases c3:x5_1<(l0.length:Int)
   ·rw[if_pos c3] at H;replace c3:=decide_eq_true c3;obtain⟨c4,H⟩:=ifs H;replace c4:=decide_eq_true c4
    by_cases c5:(rd l0 x5_1)=a1
    ·rw[if_pos c5] at H;have c5b0:((rd l0 x5_1)==a1)=true:=beq_iff_eq.mpr c5;have c5b1:((rd l0 x5_1) !=a1)=false:=bne_eq_false_iff_eq.mpr c5;clear c5;obtain rfl:=Option.some.inj H;have p630:0≤(x5_1:Int):=uD;have q630:x5_1<(l0.length:Int):=uD;obtain⟨ad630,e630,hx630_0⟩:=Kd.at_int HR0.out x5_1 p630 q630
     cases e630
     replace p630:=eq_true p630;replace q630:=eq_true q630;go_wp2;go_ret;exact⟨u0,by repeat(first|exact Drawn0.refl _|apply Drawn0.step)⟩
    ·rw[if_neg c5] at H;have c5b0:((rd l0 x5_1)==a1)=false:=beq_eq_false_iff_ne.mpr c5;have c5b1:((rd l0 x5_1) !=a1)=true:=bne_iff_ne.mpr c5;have H':=aM H;clear H;have p630:0≤(x5_1:Int):=uD;have q630:x5_1<(l0.length:Int):=uD;obtain⟨ad630,e630,hx630_0⟩:=Kd.at_int HR0.out x5_1 p630 q630
     cases e630
     replace p630:=eq_true p630;replace q630:=eq_true q630;go_wp2
     go_roundg k1
     case measure=>have:=HK1.out;omega
     case rel=>exact⟨(wrap64 (x5_1+1)),u0,H',⟨by have:=HK1.out;omega⟩,by repeat(first|exact Drawn0.refl _|apply Drawn0.step)⟩
   ·rw[if_neg c3] at H;replace c3:=decide_eq_false c3;obtain rfl:=Option.some.inj H;go_wp2;go_ret;exact⟨u0,by repeat(first|exact Drawn0.refl _|apply Drawn0.step)⟩
end Go.Proofs.YtjioobfeikbffabGreatDoor.K
end
section
namespace Go.Proofs.YtjioobfeikbffabGreatDoor.K
open Go.RowKit Go.Proofs.Zw Go.Proofs.Zl Go.Proofs.Zm
namespace Rf
theorem inB_t {a lo hi:Int}:inB a lo hi=true↔lo≤a∧a≤hi:=by simp[inB]
theorem in_f (a lo hi:Int):r7_in.f a lo hi=some (inB a lo hi):=by
  unfold r7_in.f inB
  by_cases h:a≥lo
  · rw[if_pos h];simp[h]
  · rw[if_neg h];simp;omega
theorem cups_f (a:Int):r7_Cups.f a=some (inB a 0 200):=by unfold r7_Cups.f;rw[in_f];rfl
theorem class_f (a:Int):r7_Class.f a=some (inB a 0 3):=by unfold r7_Class.f;rw[in_f];rfl
theorem node_f (I:Int) (N:List SN) (O:List SO) (a:Int):r7_Node.f I N O a=some (inB a 0 N.length):=by unfold r7_Node.f;rw[in_f];rfl
theorem sml {a:Int} (h0: -1000000000≤a) (h1:a≤1000000000):wrap64 a=a:=IntWalk.wrap64_in _ (by omega)
theorem outlet_f (I:Int) (N:List SN) (O:List SO) (hl:O.length≤1000) (a:Int):r7_Outlet.f I N O a=some (inB a 0 (O.length-1)):=by
  unfold r7_Outlet.f;rw[in_f,sml (by omega) (by omega)];rfl
theorem short_f (I:Int) (N:List SN) (O:List SO):q7_short.f I N O=some (decide (N.length≤8)&&decide (O.length≤10)):=by
  unfold q7_short.f
  by_cases h:(N.length:Int)≤8
  · rw[if_pos h];have h1:N.length≤8:=by omega
    have h2:((O.length:Int)≤10)↔(O.length≤10):=by omega
    simp[h1,h2]
  · rw[if_neg h];have h1:¬N.length≤8:=by omega
    simp[h1]
def nodeOk (N:List SN) (i:Nat):Bool:=decide (0≤(rdN N i).f0)&&decide ((rdN N i).f0≤i)&&decide (0≤(rdN N i).f1)&&decide ((rdN N i).f1≤200)
def outOk (m:Nat) (o:SO):Bool:=decide (0≤o.f0)&&decide (o.f0≤m)&&decide (1≤o.f1)&&decide (o.f1≤200)&&decide (0≤o.f2)&&decide (o.f2≤3)
def sizesB (I:Int) (N:List SN) (O:List SO):Bool:=decide (0≤I)&&decide (I≤200)&&decide (N.length≤6)&&decide (1≤O.length)&&decide (O.length≤8)
theorem tree_l1 (I:Int) (N:List SN) (O:List SO) (hO:O.length≤1000):∀(rest:List SO) (j K:Nat),O.drop j=rest->rest.length<K->r7_Tree.l1 K (j:Int) I N O=some (rest.all (outOk N.length)&&sizesB I N O)
  |[],j,K+1,hd,hK=>by
    have:O.length≤j:=by simpa using hd
    unfold r7_Tree.l1;rw[if_neg (by omega),cups_f,Option.bind_some,in_f,Option.bind_some,List.all_nil,Bool.true_and];unfold sizesB inB
    cases h1:(decide (0≤I)&&decide (I≤200)) with
    |false=>rw[if_neg (by simp)];simp
    |true=>
      rw[if_pos rfl]
      by_cases h2:(N.length:Int)≤6
      · have h3:N.length≤6:=by omega
        have h4:(1≤(O.length:Int))↔(1≤O.length):=by omega
        have h5:((O.length:Int)≤8)↔(O.length≤8):=by omega
        rw[if_pos h2];simp[h3,h4,h5]
      · have h3:¬N.length≤6:=by omega
        rw[if_neg h2];simp[h3]
  |o::rest,j,K+1,hd,hK=>by
    have hj:j<O.length:=by
      have:=congrArg List.length hd;simp only[List.length_drop,List.length_cons] at this
      omega
    have ho:rdO O (j:Int)=o:=by
      have:=List.drop_eq_getElem_cons hj;rw[hd] at this;rw[(List.cons.inj this).1];simp[rd_T51,List.getD,List.getElem?_eq_getElem hj]
    have hd1:O.drop (j+1)=rest:=by rw[← List.drop_drop,hd];rfl
    unfold r7_Tree.l1;rw[if_pos (by omega),if_pos (by omega),node_f,Option.bind_some,in_f,Option.bind_some,class_f,Option.bind_some,sml (by omega) (by omega)];have ih:=tree_l1 I N O hO rest (j+1) K hd1 (by simp at hK;omega);rw[show ((j+1:Nat):Int)=(j:Int)+1 by omega] at ih;rw[ih,show rd_T51 O (j:Int)=o from ho,List.all_cons];simp only[outOk,inB]
    by_cases h1:0≤o.f0<;>by_cases h2:o.f0≤N.length<;>by_cases h3:1≤o.f1<;>by_cases h4:o.f1≤200<;>by_cases h5:0≤o.f2<;>by_cases h6:o.f2≤3<;>simp[h1,h2,h3,h4,h5,h6]
theorem tree_l0 (I:Int) (N:List SN) (O:List SO) (hN:N.length≤1000) (hO:O.length≤1000):∀(d j K:Nat),j+d=N.length->d+O.length+1<K->r7_Tree.l0 K (j:Int) I N O=some ((List.range' j d).all (nodeOk N)&&(O.all (outOk N.length)&&sizesB I N O))
  |0,j,K+1,hj,hK=>by
    unfold r7_Tree.l0;rw[if_neg (by omega)];have:=tree_l1 I N O hO O 0 K rfl (by omega)
    simpa using this
  |d+1,j,K+1,hj,hK=>by
    unfold r7_Tree.l0;rw[if_pos (by omega),if_pos (by omega),in_f,Option.bind_some,cups_f,Option.bind_some,sml (by omega) (by omega)];have ih:=tree_l0 I N O hN hO d (j+1) K (by omega) (by omega);rw[show ((j+1:Nat):Int)=(j:Int)+1 by omega] at ih;rw[ih,List.range'_succ,List.all_cons];simp only[nodeOk,inB]
    by_cases h1:0≤(rdN N j).f0<;>by_cases h2:(rdN N j).f0≤j<;>by_cases h3:0≤(rdN N j).f1<;>by_cases h4:(rdN N j).f1≤200<;>simp[h1,h2,h3,h4]
theorem tree_f (I:Int) (N:List SN) (O:List SO) (hN:N.length≤1000) (hO:O.length≤1000) (K:Nat) (hK:N.length+O.length+1<K):r7_Tree.f K I N O=some (treeB I N O):=by
  unfold r7_Tree.f;have:=tree_l0 I N O hN hO N.length 0 K (by omega) hK;rw[show ((0:Nat):Int)=0 from rfl] at this;rw[this,←List.range_eq_range']
  congr 1
  have e1:(List.range N.length).all (nodeOk N)=okE N:=rfl;have e2:O.all (outOk N.length)=okO N.length O:=rfl;rw[e1,e2];unfold sizesB treeB
  cases okE N<;>cases okO N.length O<;>simp
end Rf
end Go.Proofs.YtjioobfeikbffabGreatDoor.K
end
section
namespace Go.Proofs.YtjioobfeikbffabGreatDoor.K
open Go.RowKit Go.Proofs.Zw Go.Proofs.Zl Go.Proofs.Zm
attribute [local go_sem] max2_int min2_int max_two min_two max_three min_three max_four min_four
def r7_List.l0:Nat->List Int->Int->Int->List (S77)->List (S51)->Option (Bool)
 |0,_,_,_,_,_=>none
 |k+1,x1,x5,x627000,x627001,x627002=>if x5<(x1.length:Int) then(if 0≤x5 then(if x5<(x627002.length:Int) then((r7_in.f (rd x1 x5) 0 ((rd_T51 x627002 x5).f1)).bind fun t629=>(if t629=true then(r7_List.l0 k x1 (wrap64 (x5+1)) x627000 x627001 x627002) else(some false))) else(none)) else(none)) else(some true)
def r7_List.f (k:Nat) (a0_0:Int) (l0_1:List (S77)) (l0_2:List (S51)) (l1:List Int):Option (Bool):=if(l1.length:Int)=(l0_2.length:Int) then(r7_List.l0 k l1 0 a0_0 l0_1 l0_2) else(some false)
end Go.Proofs.YtjioobfeikbffabGreatDoor.K
end
section
namespace Go.Proofs.YtjioobfeikbffabGreatDoor.K
open Dr Go.RowKit Go.Proofs.Zw Go.Proofs.Zl Go.Proofs.Zm
namespace Rf
variable {I:Int} {N:List SN} {O:List SO}
theorem parent_f (hN:N.length≤1000) {n:Int} (h0:0<n) (h1:n≤N.length):r7_parent.f I N O n=some (rdN N (n-1)).f0:=by
  unfold r7_parent.f;rw[if_neg (by omega),sml (by omega) (by omega),if_pos (by omega),if_pos (by omega)]
theorem cap_f (hN:N.length≤1000) {n:Int} (h0:0≤n) (h1:n≤N.length):r7_Cap.f I N O n=some (capF I N n):=by
  unfold r7_Cap.f capF
  by_cases h:n=0
  · rw[if_pos h,if_pos h]
  · rw[if_neg h,if_neg h,sml (by omega) (by omega),if_pos (by omega),if_pos (by omega)]
theorem below_l0 (hN:N.length≤1000) (ho:okN N=true) (t:Int):∀(K:Nat) (n:Int),0≤n->n≤N.length->n+1<K->r7_Below.l0 K t n I N O=some ((upL N n).contains t)
  |K+1,n,h0,h1,hK=>by
    unfold r7_Below.l0;rw[if_pos h0]
    by_cases hz:n=0
    · subst hz;rw[up_zero]
      by_cases e:(0:Int)=t
      · rw[if_pos e];simp[e]
      · rw[if_neg e];unfold r7_parent.f;rw[if_pos rfl,Option.bind_some];obtain⟨K,rfl⟩:∃k,K=k+1:=⟨K-1,by omega⟩;unfold r7_Below.l0;rw[if_neg (by omega)];have:¬t=0:=fun h=>e h.symm;simp[this]
    · have hp:=okN_at ho (show 0≤n-1 by omega) (by omega);rw[up_pos ho (by omega) h1]
      by_cases e:n=t
      · rw[if_pos e];simp[e]
      · rw[if_neg e,parent_f hN (by omega) h1,Option.bind_some,below_l0 hN ho t K _ hp.1 (by omega) (by omega)];have:¬t=n:=fun h=>e h.symm;simp[this]
theorem below_f (hN:N.length≤1000) (ho:okN N=true) (hO:okO N.length O=true) {i:Int} (h0:0≤i) (h1:i<O.length) (t:Int) (K:Nat) (hK:N.length+1<K):r7_Below.f K I N O i t=some (belB N O i t):=by
  unfold r7_Below.f;have hp:=okO_at hO h0 h1;rw[if_pos h0,if_pos h1];exact below_l0 hN ho t K (rdO O i).f0 hp.1 hp.2.1 (by have:=hp.2.1;omega)
theorem sum_l0 (hN:N.length≤1000) (ho:okN N=true) (hO:okO N.length O=true) {s:List Int} (hs:s.length≤O.length) (hl:s.length≤1000) (hr:∀i:Nat,i<s.length->0≤rd s i∧rd s i≤1000) (t:Int):
    ∀(d j K:Nat),j+d=s.length->d+N.length+2<K->r7_Sum.l0 K s t (sumTo N O s t j) (j:Int) I N O=some (sumTo N O s t s.length)
  |0,j,K+1,hj,hK=>by
    unfold r7_Sum.l0;rw[if_neg (by omega),show j=s.length by omega]
  |d+1,j,K+1,hj,hK=>by
    unfold r7_Sum.l0;have ih:=sum_l0 hN ho hO hs hl hr t d (j+1) K (by omega) (by omega);rw[show ((j+1:Nat):Int)=(j:Int)+1 by omega] at ih;have hx:=hr j (by omega);have hg:=sumTo_range (N:=N) (O:=O) (s:=s) (n:=t) (k:=j) (fun i hi=>hr i (by omega));rw[if_pos (by omega),below_f hN ho hO (by omega) (by omega) t K (by omega),Option.bind_some,sml (a:=(j:Int)+1) (by omega) (by omega)]
    cases hb:belB N O (j:Int) t with
    |true=>
      rw[if_pos rfl,if_pos (by omega),sml (by omega) (by omega)];simp only[sumTo,hb,if_true] at ih⊢;exact ih
    |false=>
      rw[if_neg (by simp)];simp only[sumTo,hb,Bool.false_eq_true,if_false,Int.add_zero] at ih⊢;exact ih
theorem sum_f (hN:N.length≤1000) (ho:okN N=true) (hO:okO N.length O=true) {s:List Int} (hs:s.length≤O.length) (hl:s.length≤1000) (hr:∀i:Nat,i<s.length->0≤rd s i∧rd s i≤1000) (t:Int) (K:Nat) (hK:s.length+N.length+2<K):r7_Sum.f K I N O s t=some (sumTo N O s t s.length):=
  sum_l0 hN ho hO hs hl hr t s.length 0 K (by omega) hK
theorem fits_l0 (hN:N.length≤1000) (ho:okN N=true) (hO:okO N.length O=true) {s:List Int} (hs:s.length=O.length) (hl:s.length≤1000) (hr:∀i:Nat,i<s.length->0≤rd s i∧rd s i≤1000):
    ∀(d j K:Nat),j+d=N.length+1->d+s.length+N.length+3<K->r7_Fits.l0 K s (j:Int) I N O=some ((List.range' j d).all fun n=>decide (sumTo N O s n O.length≤capF I N n))
  |0,j,K+1,hj,hK=>by
    unfold r7_Fits.l0;rw[if_neg (by omega)]
    rfl
  |d+1,j,K+1,hj,hK=>by
    unfold r7_Fits.l0;have ih:=fits_l0 hN ho hO hs hl hr d (j+1) K (by omega) (by omega);rw[show ((j+1:Nat):Int)=(j:Int)+1 by omega] at ih;rw[if_pos (by omega),sum_f hN ho hO (by omega) hl hr _ K (by omega),Option.bind_some,cap_f hN (by omega) (by omega),Option.bind_some,sml (by omega) (by omega),ih,List.range'_succ,List.all_cons,hs]
    by_cases h:sumTo N O s (j:Int) O.length>capF I N (j:Int)
    · rw[if_pos h,decide_eq_false (by omega),Bool.false_and]
    · rw[if_neg h,decide_eq_true (by omega),Bool.true_and]
theorem fits_f (hN:N.length≤1000) (ho:okN N=true) (hO:okO N.length O=true) {s:List Int} (hs:s.length=O.length) (hl:s.length≤1000) (hr:∀i:Nat,i<s.length->0≤rd s i∧rd s i≤1000) (K:Nat) (hK:s.length+2*N.length+5<K):r7_Fits.f K I N O s=some (fitsB I N O s):=by
  unfold r7_Fits.f fitsB;have:=fits_l0 (I:=I) hN ho hO hs hl hr (N.length+1) 0 K (by omega) (by omega);rw[List.range_eq_range'];exact this
structure Okw (N:List SN) (O:List SO):Prop where
  n:okN N=true
  o:okO N.length O=true
  nl:N.length≤6
  ol:O.length≤8
end Rf
end Go.Proofs.YtjioobfeikbffabGreatDoor.K
end
section
namespace Go.Proofs.YtjioobfeikbffabGreatDoor.K
open Go.RowKit Go.Proofs.Zw Go.Proofs.Zl Go.Proofs.Zm
attribute [local go_sem] max2_int min2_int max_two min_two max_three min_three max_four min_four
def d7_Check.f (a0_0:Int) (l0_1:List (S77)) (l0_2:List (S51)):Option (Int):=(d7_isTree.f a0_0 l0_1 l0_2).bind fun t1060=>(if t1060=true then(some 0) else(some 2))
def d7_Fits.f (k:Nat) (a0_0:Int) (l0_1:List (S77)) (l0_2:List (S51)) (l1:List Int):Option (Bool×Int):=(d7_isTree.f a0_0 l0_1 l0_2).bind fun t774=>(if t774=true then((d7_areShares.f k a0_0 l0_1 l0_2 l1).bind fun t775=>(if t775=true then((d7_fits.f a0_0 l0_1 l0_2 l1).bind fun t776=>(some (t776,0))) else(some (false,2)))) else(some (false,2)))
def q7_total.l0:Nat->List Int->Int->Int->Int->Int->Int->List (S77)->List (S51)->Option (Int)
 |0,_,_,_,_,_,_,_,_=>none
 |k+1,x1,x2,x3,x9,x10,x632000,x632001,x632002=>if x10<(x1.length:Int) then(if 0≤x10 then(if x10<(x632002.length:Int) then(if ((rd_T51 x632002 x10).f2)≥x2 then(if ((rd_T51 x632002 x10).f2)≤x3 then(q7_total.l0 k x1 x2 x3 (wrap64 (x9+(rd x1 x10))) (wrap64 (x10+1)) x632000 x632001 x632002) else(q7_total.l0 k x1 x2 x3 x9 (wrap64 (x10+1)) x632000 x632001 x632002)) else(q7_total.l0 k x1 x2 x3 x9 (wrap64 (x10+1)) x632000 x632001 x632002)) else(none)) else(none)) else(some x9)
def q7_total.f (k:Nat) (a0_0:Int) (l0_1:List (S77)) (l0_2:List (S51)) (l1:List Int) (a2:Int) (a3:Int):Option (Int):=q7_total.l0 k l1 a2 a3 0 0 a0_0 l0_1 l0_2
end Go.Proofs.YtjioobfeikbffabGreatDoor.K
end
section
namespace Go.Proofs.YtjioobfeikbffabGreatDoor.K
open Dr Go.RowKit Go.Proofs.Zw Go.Proofs.Zl Go.Proofs.Zm
namespace Rf
variable {I:Int} {N:List SN} {O:List SO}
theorem same_from (l:List Int) (hl:l.length≤1000000):∀(d j K:Nat),j+d=l.length->d<K->r1_Same.l0 K l l (j:Int)=some true
  |0,j,K+1,hj,hK=>by
    unfold r1_Same.l0;rw[if_neg (by omega)]
  |d+1,j,K+1,hj,hK=>by
    unfold r1_Same.l0;rw[if_pos (by omega),if_pos (by omega),if_pos (by omega),if_pos rfl,sml (by omega) (by omega)];exact same_from l hl d (j+1) K (by omega) (by omega)
theorem same_f (l:List Int) (hl:l.length≤1000000) (K:Nat) (hK:l.length<K):r1_Same.f K l l=some true:=by
  unfold r1_Same.f;rw[if_pos rfl];exact same_from l hl l.length 0 K (by omega) hK
theorem isTreeC_f (hN:N.length≤1000) (hO:O.length≤1000):d7_isTree.f I N O=some (treeB I N O):=by
  unfold d7_isTree.f;rw[if_pos ⟨by omega,by omega⟩]
theorem has_l0 (l:List Int) (hl:l.length≤1000) (n:Int):∀(d j K:Nat),j+d=l.length->d<K->r7_Has.l0 K l n (j:Int)=some (decide (n∈l.drop j))
  |0,j,K+1,hj,hK=>by
    unfold r7_Has.l0;rw[if_neg (by omega),List.drop_eq_nil_of_le (by omega)];simp
  |d+1,j,K+1,hj,hK=>by
    have ih:=has_l0 l hl n d (j+1) K (by omega) (by omega);rw[show ((j+1:Nat):Int)=(j:Int)+1 by omega] at ih;have hj':j<l.length:=by omega
    have e:rd l (j:Int)=l[j]:=by simp[rd,List.getD,List.getElem?_eq_getElem hj']
    have hm:(n∈l.drop j)↔n=l[j]∨n∈l.drop (j+1):=by rw[List.drop_eq_getElem_cons hj',List.mem_cons]
    unfold r7_Has.l0;rw[if_pos (by omega),if_pos (by omega),sml (by omega) (by omega),ih,e]
    by_cases h:l[j]=n
    · rw[if_pos h,decide_eq_true (hm.2 (.inl h.symm))]
    · rw[if_neg h];exact congrArg some (decide_eq_decide.2 ⟨fun x=>hm.2 (.inr x),fun x=>(hm.1 x).resolve_left fun e=>h e.symm⟩)
theorem has_f (l:List Int) (hl:l.length≤1000) (n:Int) (K:Nat) (hK:l.length<K):r7_Has.f K l n=some (decide (n∈l)):=by
  unfold r7_Has.f;exact has_l0 l hl n l.length 0 K (by omega) hK
end Rf
end Go.Proofs.YtjioobfeikbffabGreatDoor.K
end
section
namespace Go.Proofs.YtjioobfeikbffabGreatDoor.K
open Go.RowKit Go.Deep Go.ChangeShapes Go.WideShapes Go.ChangeAt Go.Proofs.Zw Go.Proofs.Zl Go.Proofs.Zm
set_option maxRecDepth 100000
section
variable {H:Type} {enc:TypeId×Value->H} {w:World} {base:Nat} {spare:Nat->Bool} {held:Bool} {fuel:Nat} {cs:List Value} {x:DataW H×List MemPlace}
theorem list1 {α:Type} {l:List α} (h:l.length=1):∃a,l=[a]:=by
  cases l with
  |nil=>cases h
  |cons a l=>cases l with
    |nil=>exact⟨a,rfl⟩
    |cons b l=>simp at h
theorem list_succ {α:Type} {l:List α} {n:Nat} (h:l.length=n+1):∃a m,l=a::m∧m.length=n:=by
  cases l with
  |nil=>simp at h
  |cons a m=>exact⟨a,m,rfl,by simpa using h⟩
theorem el_int {fuel:Nat} {cs:List Value} {x:DataW H×List MemPlace} (h:DataW.trod enc Tryz.prog w base spare held fuel 3 cs=some x):∃z:Int,cs=[.int .i64 z]:=by
  obtain⟨z,e,_⟩:=DataW.trod_int Tryz.underlying3 h;exact⟨z,e⟩
theorem some_at {α:Type} {xs:List α} {i:Nat} (h:i<xs.length):∃y,xs[i]? =some y:=⟨_,List.getElem?_eq_getElem h⟩
theorem choose_list {α:Type} {P:Nat->α->Prop}:∀n:Nat,(∀ j,j<n->∃a,P j a)->∃xs:List α,xs.length=n∧∀j p,xs[j]? =some p->P j p
  |0,_=>⟨[],rfl,fun j p h=>by simp at h⟩
  |n+1,h=>by
    obtain⟨xs,hl,hx⟩:=choose_list n (fun j hj=>h j (by omega));obtain⟨a,ha⟩:=h n (by omega);refine⟨xs++[a],by simp[hl],fun j p hp=>?_⟩
    by_cases hj:j<xs.length
    · rw[List.getElem?_append_left hj] at hp;exact hx j p hp
    · rw[List.getElem?_append_right (by omega)] at hp
      have:j=n:=by
        have:=(List.getElem?_eq_some_iff.1 hp).1;simp at this;omega
      subst this;rw[hl,Nat.sub_self] at hp;obtain rfl:a=p:=by simpa using hp
      exact ha
theorem open_rows {α:Type} (d:Kd α) {t e:TypeId} {fuel:Nat} {cs:List Value} {x:DataW H×List MemPlace} (encs:α->List Value) (ht:Tryz.prog.underlying t=some (.slice e)) (hsz:Tryz.prog.cellsOf e=d.sz) (hn:∀a,(encs a).length=d.sz) (h0:0<d.sz) (hK:∀a,d.K w a (encs a))
    (hel:∀(fuel:Nat) (cs:List Value) (x:DataW H×List MemPlace),DataW.trod enc Tryz.prog w base spare held fuel e cs=some x->∃a,cs=encs a) (h:DataW.trod enc Tryz.prog w base spare held fuel t cs=some x):
    ∃(A:Option Addr) (xs:List α) (c:Nat),cs=[.slice A xs.length c]∧Kd.C d w A xs.length xs∧xs.length≤c∧xs.length≤maxLen:=by
  rcases open_slice ht h with⟨rfl,_⟩|⟨a,len,cap,m,n,D,Pl,rfl,_,hl,hm,hmm,_,hall⟩
  · exact⟨none,[],0,rfl,⟨rfl,by simp,fun h=>absurd h (by simp)⟩,Nat.le_refl _,Nat.zero_le _⟩
  · have hlm:len≤m:=by rw[hmm];split<;>omega
    obtain⟨xs,hxl,hx⟩:=choose_list (P:=fun j (p:α)=>w.cells? base (a.add (j*d.sz)) d.sz=some (encs p)) len (fun j hj=>by
      obtain⟨cs',h1,h2⟩:=hall j (by omega);obtain⟨p,rfl⟩:=hel _ _ _ h2;rw[hsz] at h1
      exact⟨p,h1⟩)
    refine⟨some a,xs,cap,by rw[hxl],⟨rfl,by rw[hxl];unfold maxLen at hm;omega,fun _=>⟨a,rfl,fun j p hp=>⟨encs p,hn p,hK p,fun i u hi=>?_⟩⟩⟩,by omega,by omega⟩;have h1:=World.cells?_some (hx j p hp);have hi':i<d.sz:=by have:=(List.getElem?_eq_some_iff.1 hi).1;rw[hn] at this;exact this
    have h2:=h1.2.2 i hi';rw[hi] at h2
    have h3:a.add (j*d.sz+i)=(a.add (j*d.sz)).add i:=by
      unfold Addr.add
      by_cases e1:j*d.sz=0<;>by_cases e2:i=0<;>simp[e1,e2]<;>omega
    rw[h3];exact h2
theorem el_node {fuel:Nat} {cs:List Value} {x:DataW H×List MemPlace} (h:DataW.trod enc Tryz.prog w base spare held fuel 77 cs=some x):∃s:S77,cs=[.int .i64 s.f0,.int .i64 s.f1]:=by
  obtain⟨xs,n,-,-,hl,hx,hf⟩:=DataW.trod_struct Tryz.underlying77 h;rw[show Tryz.prog.cellsOf 77=2 by kernel_rfl] at hl;obtain⟨a,m1,rfl,hl1⟩:=list_succ hl;obtain⟨b,rfl⟩:=list1 hl1;have hx:xs.length=2:=hx;obtain⟨y0,h0⟩:=some_at (xs:=xs) (i:=0) (by omega);obtain⟨y1,h1⟩:=some_at (xs:=xs) (i:=1) (by omega);have f0:=(hf 0 _ rfl).trans h0;have f1:=(hf 1 _ rfl).trans h1
  change DataW.trod enc Tryz.prog w base spare held n 3 (([a,b].drop 0).take (Tryz.prog.cellsOf 3))=_ at f0
  rw[show Tryz.prog.cellsOf 3=1 by kernel_rfl] at f0;replace f0:DataW.trod enc Tryz.prog w base spare held n 3 [a]=_:=f0
  change DataW.trod enc Tryz.prog w base spare held n 3 (([a,b].drop 1).take (Tryz.prog.cellsOf 3))=_ at f1
  rw[show Tryz.prog.cellsOf 3=1 by kernel_rfl] at f1;replace f1:DataW.trod enc Tryz.prog w base spare held n 3 [b]=_:=f1;obtain⟨z0,e0⟩:=el_int f0;obtain⟨z1,e1⟩:=el_int f1
  cases e0
  cases e1
  exact⟨⟨z0,z1⟩,rfl⟩
theorem el_outlet {fuel:Nat} {cs:List Value} {x:DataW H×List MemPlace} (h:DataW.trod enc Tryz.prog w base spare held fuel 51 cs=some x):∃s:S51,cs=[.int .i64 s.f0,.int .i64 s.f1,.int .i64 s.f2]:=by
  obtain⟨xs,n,-,-,hl,hx,hf⟩:=DataW.trod_struct Tryz.underlying51 h;rw[show Tryz.prog.cellsOf 51=3 by kernel_rfl] at hl;obtain⟨a,m1,rfl,hl1⟩:=list_succ hl;obtain⟨b,m2,rfl,hl2⟩:=list_succ hl1;obtain⟨c,rfl⟩:=list1 hl2;have hx:xs.length=3:=hx;obtain⟨y0,h0⟩:=some_at (xs:=xs) (i:=0) (by omega);obtain⟨y1,h1⟩:=some_at (xs:=xs) (i:=1) (by omega);obtain⟨y2,h2⟩:=some_at (xs:=xs) (i:=2) (by omega);have f0:=(hf 0 _ rfl).trans h0;have f1:=(hf 1 _ rfl).trans h1;have f2:=(hf 2 _ rfl).trans h2
  change DataW.trod enc Tryz.prog w base spare held n 3 (([a,b,c].drop 0).take (Tryz.prog.cellsOf 3))=_ at f0
  rw[show Tryz.prog.cellsOf 3=1 by kernel_rfl] at f0;replace f0:DataW.trod enc Tryz.prog w base spare held n 3 [a]=_:=f0
  change DataW.trod enc Tryz.prog w base spare held n 3 (([a,b,c].drop 1).take (Tryz.prog.cellsOf 3))=_ at f1
  rw[show Tryz.prog.cellsOf 3=1 by kernel_rfl] at f1;replace f1:DataW.trod enc Tryz.prog w base spare held n 3 [b]=_:=f1
  change DataW.trod enc Tryz.prog w base spare held n 3 (([a,b,c].drop 2).take (Tryz.prog.cellsOf 3))=_ at f2
  rw[show Tryz.prog.cellsOf 3=1 by kernel_rfl] at f2;replace f2:DataW.trod enc Tryz.prog w base spare held n 3 [c]=_:=f2;obtain⟨z0,e0⟩:=el_int f0;obtain⟨z1,e1⟩:=el_int f1;obtain⟨z2,e2⟩:=el_int f2
  cases e0
  cases e1
  cases e2
  exact⟨⟨z0,z1,z2⟩,rfl⟩
theorem rows_ints {fuel:Nat} {cs:List Value} {x:DataW H×List MemPlace} (h:DataW.trod enc Tryz.prog w base spare held fuel 30 cs=some x):∃(A:Option Addr) (xs:List Int) (c:Nat),cs=[.slice A xs.length c]∧At' (Kd.int .i64) w A xs.length c xs:=by
  obtain⟨A,xs,c,h1,h2,h3,_⟩:=open_rows (Kd.int .i64) (fun x=>[Value.int .i64 x]) Tryz.underlying30 (by kernel_rfl) (fun _=>rfl) (by decide) (fun _=>rfl) (fun _ _ _ h=>el_int h) h;exact⟨A,xs,c,h1,h2,h3⟩
theorem rows_nodes {fuel:Nat} {cs:List Value} {x:DataW H×List MemPlace} (h:DataW.trod enc Tryz.prog w base spare held fuel 22 cs=some x):∃(A:Option Addr) (xs:List S77) (c:Nat),cs=[.slice A xs.length c]∧At' k77 w A xs.length c xs:=by
  obtain⟨A,xs,c,h1,h2,h3,_⟩:=open_rows k77 (fun s=>[.int .i64 s.f0,.int .i64 s.f1]) Tryz.underlying22 (by kernel_rfl) (fun _=>rfl) (by decide) (fun s=>k77_mk w s) (fun _ _ _ h=>el_node h) h;exact⟨A,xs,c,h1,h2,h3⟩
theorem rows_outlets {fuel:Nat} {cs:List Value} {x:DataW H×List MemPlace} (h:DataW.trod enc Tryz.prog w base spare held fuel 23 cs=some x):∃(A:Option Addr) (xs:List S51) (c:Nat),cs=[.slice A xs.length c]∧At' k51 w A xs.length c xs:=by
  obtain⟨A,xs,c,h1,h2,h3,_⟩:=open_rows k51 (fun s=>[.int .i64 s.f0,.int .i64 s.f1,.int .i64 s.f2]) Tryz.underlying23 (by kernel_rfl) (fun _=>rfl) (by decide) (fun s=>k51_mk w s) (fun _ _ _ h=>el_outlet h) h;exact⟨A,xs,c,h1,h2,h3⟩
theorem agg_list {cs:Array Value} {l:List Value} (h:cs.toList=l):cs=l.toArray:=by rw[← h]
theorem open_tree {v:Value} {dd:DataW H} {p:List MemPlace} (hv:Value.okWide Tryz.prog w .any base 25 v) (h:DataW.Trod enc Tryz.prog w 0 spare held 25 v dd p):
    ∃(I:Int) (A0:Option Addr) (N:List S77) (c0:Nat) (A1:Option Addr) (O:List S51) (c1:Nat),v=.agg #[.int .i64 I,.slice A0 N.length c0,.slice A1 O.length c1]∧At' k77 w A0 N.length c0 N∧At' k51 w A1 O.length c1 O:=by
  obtain⟨cs,rfl,-⟩:=okWide_struct Tryz.underlying25 hv;obtain⟨fuel,h⟩:=h;obtain⟨xs,n,-,-,hl,hx,hf⟩:=DataW.trod_struct Tryz.underlying25 h;rw[show Tryz.prog.cellsOf 25=3 by kernel_rfl] at hl;obtain⟨a,m1,e1,hl1⟩:=list_succ hl;obtain⟨b,m2,rfl,hl2⟩:=list_succ hl1;obtain⟨c,rfl⟩:=list1 hl2;rw[e1] at hf;have hx:xs.length=3:=hx;obtain⟨y0,h0⟩:=some_at (xs:=xs) (i:=0) (by omega);obtain⟨y1,h1⟩:=some_at (xs:=xs) (i:=1) (by omega);obtain⟨y2,h2⟩:=some_at (xs:=xs) (i:=2) (by omega);have f0:=(hf 0 _ rfl).trans h0;have f1:=(hf 1 _ rfl).trans h1;have f2:=(hf 2 _ rfl).trans h2
  change DataW.trod enc Tryz.prog w 0 spare held n 3 (([a,b,c].drop 0).take (Tryz.prog.cellsOf 3))=_ at f0
  rw[show Tryz.prog.cellsOf 3=1 by kernel_rfl] at f0;replace f0:DataW.trod enc Tryz.prog w 0 spare held n 3 [a]=_:=f0
  change DataW.trod enc Tryz.prog w 0 spare held n 22 (([a,b,c].drop 1).take (Tryz.prog.cellsOf 22))=_ at f1
  rw[show Tryz.prog.cellsOf 22=1 by kernel_rfl] at f1;replace f1:DataW.trod enc Tryz.prog w 0 spare held n 22 [b]=_:=f1
  change DataW.trod enc Tryz.prog w 0 spare held n 23 (([a,b,c].drop 2).take (Tryz.prog.cellsOf 23))=_ at f2
  rw[show Tryz.prog.cellsOf 23=1 by kernel_rfl] at f2;replace f2:DataW.trod enc Tryz.prog w 0 spare held n 23 [c]=_:=f2;obtain⟨z0,k0⟩:=el_int f0;obtain⟨A0,N,c0,k1,g0⟩:=rows_nodes f1;obtain⟨A1,O,c1,k2,g1⟩:=rows_outlets f2
  cases k0
  cases k1
  cases k2
  have e1:cs.toList=_:=e1;exact⟨z0,A0,N,c0,A1,O,c1,by rw[agg_list e1],g0,g1⟩
theorem open_num {v:Value} {dd:DataW H} {p:List MemPlace} (hv:Value.okWide Tryz.prog w .any base 3 v) (h:DataW.Trod enc Tryz.prog w 0 spare held 3 v dd p):∃z:Int,v=.int .i64 z∧(Lit.int .i64 z).wf=true:=by
  obtain⟨n,e,_,hn⟩:=open_int Tryz.underlying3 hv h;exact⟨n,e,hn.2⟩
end
end Go.Proofs.YtjioobfeikbffabGreatDoor.K
end
section
namespace Go.Proofs.YtjioobfeikbffabGreatDoor.K
open Go.RowKit Go.Deep Go.ChangeShapes Go.WideShapes Go.ChangeAt Go.Proofs.Zw Go.Proofs.Zl Go.Proofs.Zm
set_option maxRecDepth 100000
section
variable {H:Type} {enc:TypeId×Value->H} {w:World} {base:Nat} {spare:Nat->Bool} {held:Bool} {fuel:Nat} {cs:List Value} {x:DataW H×List MemPlace}
theorem open_rowsK {α:Type} (d:Kd α) {t e:TypeId} {fuel:Nat} {cs:List Value} {x:DataW H×List MemPlace} (ht:Tryz.prog.underlying t=some (.slice e)) (hsz:Tryz.prog.cellsOf e=d.sz) (h0:0<d.sz)
    (hel:∀(fuel:Nat) (cs:List Value) (x:DataW H×List MemPlace),DataW.trod enc Tryz.prog w base spare held fuel e cs=some x->∃a,d.K w a cs∧cs.length=d.sz) (h:DataW.trod enc Tryz.prog w base spare held fuel t cs=some x):
    ∃(A:Option Addr) (xs:List α) (c:Nat),cs=[.slice A xs.length c]∧Kd.C d w A xs.length xs∧xs.length≤c∧xs.length≤maxLen:=by
  rcases open_slice ht h with⟨rfl,_⟩|⟨a,len,cap,m,n,D,Pl,rfl,_,hl,hm,hmm,_,hall⟩
  · exact⟨none,[],0,rfl,⟨rfl,by simp,fun h=>absurd h (by simp)⟩,Nat.le_refl _,Nat.zero_le _⟩
  · have hlm:len≤m:=by rw[hmm];split<;>omega
    obtain⟨xs,hxl,hx⟩:=choose_list (P:=fun j (p:α)=>∃cs',w.cells? base (a.add (j*d.sz)) d.sz=some cs'∧d.K w p cs'∧cs'.length=d.sz) len (fun j hj=>by
      obtain⟨cs',h1,h2⟩:=hall j (by omega);obtain⟨p,hp,hq⟩:=hel _ _ _ h2;rw[hsz] at h1
      exact⟨p,cs',h1,hp,hq⟩)
    refine⟨some a,xs,cap,by rw[hxl],⟨rfl,by rw[hxl];unfold maxLen at hm;omega,fun _=>⟨a,rfl,fun j p hp=>?_⟩⟩,by omega,by omega⟩;obtain⟨cs',e1,hK,hn⟩:=hx j p hp;refine⟨cs',hn,hK,fun i u hi=>?_⟩;have h1:=World.cells?_some e1;have hi':i<d.sz:=by have:=(List.getElem?_eq_some_iff.1 hi).1;rw[hn] at this;exact this
    have h2:=h1.2.2 i hi';rw[hi] at h2
    have h3:a.add (j*d.sz+i)=(a.add (j*d.sz)).add i:=by
      unfold Addr.add
      by_cases e1:j*d.sz=0<;>by_cases e2:i=0<;>simp[e1,e2]<;>omega
    rw[h3];exact h2
theorem rows_plan {fuel:Nat} {cs:List Value} {x:DataW H×List MemPlace} (h:DataW.trod enc Tryz.prog w base spare held fuel 40 cs=some x):∃(A:Option Addr) (xs:List (List Int)) (c:Nat),cs=[.slice A xs.length c]∧At' (Kd.slice 3 (Kd.int .i64)) w A xs.length c xs:=by
  obtain⟨A,xs,c,h1,h2,h3,_⟩:=open_rowsK (Kd.slice 3 (Kd.int .i64)) Tryz.underlying40 (by kernel_rfl) (by decide) (fun _ _ _ h=>by
    obtain⟨A,xs,c,rfl,g⟩:=rows_ints h
    exact⟨xs,⟨A,c,rfl,g.le,g.c⟩,rfl⟩) h
  exact⟨A,xs,c,h1,h2,h3⟩
theorem open_plan {v:Value} {dd:DataW H} {p:List MemPlace} (hv:Value.okWide Tryz.prog w .any base 40 v) (h:DataW.Trod enc Tryz.prog w 0 spare held 40 v dd p):∃(A:Option Addr) (xs:List (List Int)) (c:Nat),v=.slice A xs.length c∧At' (Kd.slice 3 (Kd.int .i64)) w A xs.length c xs:=by
  obtain⟨a,len,cap,rfl⟩:=okWide_slice Tryz.underlying40 hv;obtain⟨fuel,h⟩:=h;obtain⟨A,xs,c,h1,h2⟩:=rows_plan h;simp[Value.cells] at h1;obtain⟨rfl,rfl,rfl⟩:=h1;exact⟨_,xs,_,rfl,h2⟩
end
end Go.Proofs.YtjioobfeikbffabGreatDoor.K
end
