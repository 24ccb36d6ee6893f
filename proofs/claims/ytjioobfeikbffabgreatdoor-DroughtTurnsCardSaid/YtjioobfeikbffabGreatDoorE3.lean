/- The walks of the functions that the laws of this seat call, and what they compute; joined out of smaller texts, part 3. -/
import Derived.BigQuiet
import Derived.Outline
import Derived.Maps.Own
import Derived.Maps.OwnSet
import Derived.Maps.Views
import Derived.Carry
import Derived.Lib.SliceRun
import Derived.WalkSpells
import Derived.Test.YtjioobfeikbffabGreatDoorProg
import Derived.Shelf.Strconv.Itoa3
import Derived.Shelf.Strings.Split
import Derived.Lib.SplitLaws
import Derived.Lib.ItoaLen
import Derived.Lib.Join
import Derived.Lib.Strings
import Derived.Handy
import Derived.WalkMore
import Derived.WalkLawsBesides
import Derived.Shelf.Strings.OnBuilder
import Derived.Shelf.Strings.Prefix
import Derived.Laws.RangeString
import Derived.Laws.RangeAny
import Derived.Test.YtjioobfeikbffabGreatDoorE2
set_option linter.unusedVariables false
set_option linter.unusedSimpArgs false
section
namespace Go.Proofs.YtjioobfeikbffabGreatDoor.K
open Go.RowKit Go.Shelf Go.Proofs.Zw Go.Proofs.Zl Go.Proofs.Zm
attribute [local simp] clsA
theorem law_len (m:Int) (N:List SN) {O:List SO} (h:okO N.length O=true):(lawF m N O).length=O.length:=(small_ok (small_are h (Dr.ordered_are h))).1
set_option maxRecDepth 100000 in
set_option maxHeartbeats 1000000 in
theorem needs1_any {w:World} {I:Int} {A1 A2:Option Addr} {c1 c2:Nat} {N:List SN} {O:List SO} {Bo Bc:Nat} {i cups:Int} (ho:w.heap[Bo]? =some (.cells #[.int .i64 i] 3 (0,0))) (hc:w.heap[Bc]? =some (.cells #[.int .i64 cups] 3 (0,0))) (hok:okO N.length O=true) (i0:0≤i) (i1:i<O.length):
  SuitsB I A1 A2 c1 c2 N O 97 #[.pointer (some ⟨Bo,0,none⟩),.pointer (some ⟨Bc,0,none⟩)] (fun s=>decide (cups≤rd s i)) w:=by
 intro m W A c m0 m1 hb hC hl;have hu2:=Tryz.underlying93;have hll:=law_len m N hok;have y0:W.cell? ⟨Bo,0,none⟩=some (.int .i64 i):=(blk_cell (blk_below ho hb) 0).trans rfl;have y1:W.cell? ⟨Bc,0,none⟩=some (.int .i64 cups):=(blk_cell (blk_below hc hb) 0).trans rfl;have i2:i<((lawF m N O).length:Int):=by omega
 obtain⟨ad,ea,x0⟩:=Kd.at_int hC i i0 i2;subst ea;have q1:=eq_true i0;have q2:=eq_true i2;clear hb hC hl hll ho hc;generalize lawF m N O=s at *
 show Calls Tryz.prog 97 #[.agg #[.int .i64 m,.slice A1 N.length c1,.slice A2 O.length c2,.slice (some ad) s.length c],.pointer (some ⟨Bo,0,none⟩),.pointer (some ⟨Bc,0,none⟩)] W _
 go_enter Tryz.func97,Tryz.ntmps97
 go_upto_region 1 with(fail)
 generalize hW0:World.alloc W _=W0;have HB0:Aside0 (Below W.heap.size W W0):=⟨by rw[← hW0];exact(Below.refl _ _).alloc (Nat.le_refl _) _⟩;have hX:W0.heap[W.heap.size]? =some (.cells #[.int .i64 m,.slice A1 N.length c1,.slice A2 O.length c2,.slice (some ad) s.length c] 93 (0,0)):=by rw[← hW0];exact blk_new _ _
 clear hW0;replace y0:=fun X:After W0=>X.cell ((HB0.out.cell (World.block_lt_of_cell? _ _ y0)).trans y0);replace y1:=fun X:After W0=>X.cell ((HB0.out.cell (World.block_lt_of_cell? _ _ y1)).trans y1);replace x0:=fun X:After W0=>X.cell' ((HB0.out.cell (World.block_lt_of_cell? _ _ x0)).trans x0);have z3:∀X:After W0,X.W.cell? ⟨W.heap.size,3,none⟩=some (.slice (some ad) s.length c):=fun X=>X.cell ((blk_cell hX 3).trans rfl);clear hX;refine wp_region_after (by kernel_rfl) (by kernel_rfl) ?_;(repeat (go_big_quiet_step (fail)));refine wpQuiet_nil ?_;intro X;go_wp2;go_ret;exact⟨rfl,below_step HB0.out X.hb⟩
def outlB (O:List SO) (i:Int):Bool:=decide (0≤i)&&decide (i≤(O.length:Int)-1)
def needOk (I:Int) (N:List SN) (O:List SO) (i c:Int):Bool:=treeB I N O&&outlB O i&&(decide (1≤c)&&decide (c≤(rdO O i).f1))
def answerF (N:List SN) (O:List SO) (p:List Int->Bool):Int×Int:=if p (lawF (firstF N O p) N O)=true then(firstF N O p,0) else(0,5)
def needsF (I:Int) (N:List SN) (O:List SO) (i c:Int):Int×Int:=if needOk I N O i c=true then answerF N O (fun s=>decide (c≤rd s i)) else(0,2)
set_option maxRecDepth 100000 in
set_option maxHeartbeats 1000000 in
theorem needs_any {w:World} {I:Int} {A1 A2:Option Addr} {c1 c2:Nat} {N:List SN} {O:List SO} {i c:Int} (r1:Kd.C k77 w A1 N.length N) (l1:N.length≤c1) (r2:Kd.C k51 w A2 O.length O) (l2:O.length≤c2) (hl1:N.length≤9223372036854775807) (hl2:O.length≤9223372036854775807):
  Calls Tryz.prog 55 #[.agg #[.int .i64 I,.slice A1 N.length c1,.slice A2 O.length c2],.int .i64 i,.int .i64 c] w fun e w'=>e=.returned (.tuple #[.int .i64 (needsF I N O i c).1,.int .i64 (needsF I N O i c).2])∧Below w.heap.size w w':=by
 have hu1:=Tryz.underlying25;have HR1:=aM r1;have HR2:=aM r2;have HL:=aM (And.intro l1 l2);clear r1 r2 l1 l2
 go_enter Tryz.func55,Tryz.ntmps55
 go_upto_region 1 with(fail)
 generalize hW0:World.alloc (World.alloc (World.alloc w _) _) _=W0;have HB0:Aside0 (Below w.heap.size w W0):=⟨by rw[← hW0];exact(((Below.refl _ _).alloc (Nat.le_refl _) _).alloc (by simp) _).alloc (by simp;omega) _⟩;have HT0:Aside0 (W0.heap[w.heap.size]? =some (.cells #[.int .i64 I,.slice A1 N.length c1,.slice A2 O.length c2] 25 (0,0))):=⟨by rw[← hW0];exact blk_alloc (blk_alloc (blk_new _ _) _) _⟩
 have HO0:Aside0 (W0.heap[w.heap.size+1]? =some (.cells #[.int .i64 i] 3 (0,0))):=⟨by
  rw[← hW0];have:=blk_new (w.alloc (.cells #[.int .i64 I,.slice A1 N.length c1,.slice A2 O.length c2] 25)) (.cells #[.int .i64 i] 3);rw[World.size_alloc] at this
  exact blk_alloc this _⟩
 have HC0:Aside0 (W0.heap[w.heap.size+1+1]? =some (.cells #[.int .i64 c] 3 (0,0))):=⟨by
  rw[← hW0];have:=blk_new ((w.alloc (.cells #[.int .i64 I,.slice A1 N.length c1,.slice A2 O.length c2] 25)).alloc (.cells #[.int .i64 i] 3)) (.cells #[.int .i64 c] 3);rw[World.size_alloc,World.size_alloc] at this
  exact this⟩
 clear hW0;have y0:∀X:After W0,X.W.cell? ⟨w.heap.size,0,none⟩=some (.int .i64 I):=fun X=>X.cell ((blk_cell HT0.out 0).trans rfl);have y1:∀X:After W0,X.W.cell? ⟨w.heap.size,1,none⟩=some (.slice A1 N.length c1):=fun X=>X.cell ((blk_cell HT0.out 1).trans rfl);have y2:∀X:After W0,X.W.cell? ⟨w.heap.size,2,none⟩=some (.slice A2 O.length c2):=fun X=>X.cell ((blk_cell HT0.out 2).trans rfl);have y3:∀X:After W0,X.W.cell? ⟨w.heap.size+1,0,none⟩=some (.int .i64 i):=fun X=>X.cell ((blk_cell HO0.out 0).trans rfl);have y4:∀X:After W0,X.W.cell? ⟨w.heap.size+1+1,0,none⟩=some (.int .i64 c):=fun X=>X.cell ((blk_cell HC0.out 0).trans rfl);obtain⟨tb,htb⟩:∃tb,treeB I N O=tb:=⟨_,rfl⟩;obtain⟨ob,hob⟩:∃ob,outlB O i=ob:=⟨_,rfl⟩
 have CT:Aside0 (∀ X:After W0,Calls Tryz.prog 59 #[.agg #[.int .i64 I,.slice A1 N.length c1,.slice A2 O.length c2]] X.W fun e w'=>e=.returned (.bool tb)∧Below X.W.heap.size X.W w'):=⟨fun X=>
  d7_isTree.calls I A1 c1 N A2 c2 O tb X.W (Kd.C_below HR1.out (below_step HB0.out X.hb)) HL.out.1 (Kd.C_below HR2.out (below_step HB0.out X.hb)) HL.out.2 (by unfold d7_isTree.f;rw[if_pos ⟨hl1,hl2⟩,htb])⟩
 have bad:∀(X:After W0),needOk I N O i c=false->(Ending.returned (.tuple #[.int .i64 0,.int .i64 2])=Ending.returned (.tuple #[.int .i64 (needsF I N O i c).1,.int .i64 (needsF I N O i c).2]))∧Below w.heap.size w X.W:=fun X h=>⟨by unfold needsF;rw[h];rfl,below_step HB0.out X.hb⟩;have BAD:=aM bad;clear bad
 cases tb
 case false=>
  have HNO:Aside0 (needOk I N O i c=false):=⟨by unfold needOk;rw[htb];rfl⟩;clear htb hob;refine wp_region_after (by kernel_rfl) (by kernel_rfl) ?_;(repeat (go_big_quiet_step (first|(go_at_call 59;exact Calls.after (CT.out _)))));refine wpQuiet_nil ?_;intro X;go_wp2
  go_ret2
  exact BAD.out X HNO.out
 case true=>
 have HOK:=aM (tree_ok htb);have hol:=HOK.out.ol;have hnl:=HOK.out.nl
 have CO:Aside0 (∀ X:After W0,Calls Tryz.prog 60 #[.agg #[.int .i64 I,.slice A1 N.length c1,.slice A2 O.length c2],.int .i64 i] X.W fun e w'=>e=.returned (.bool ob)∧Below X.W.heap.size X.W w'):=⟨fun X=>
  d7_isOutlet.calls I A1 c1 N A2 c2 O i ob X.W (Kd.C_below HR1.out (below_step HB0.out X.hb)) HL.out.1 (Kd.C_below HR2.out (below_step HB0.out X.hb)) HL.out.2 (by rw[isOutlet_f I N O (by omega)];exact congrArg some hob)⟩
 cases ob
 case false=>
  have HNO:Aside0 (needOk I N O i c=false):=⟨by unfold needOk;rw[htb,hob];rfl⟩;clear htb hob;refine wp_region_after (by kernel_rfl) (by kernel_rfl) ?_;(repeat (go_big_quiet_step (first|(go_at_call 59;exact Calls.after (CT.out _))|(go_at_call 60;exact Calls.after (CO.out _)))));refine wpQuiet_nil ?_;intro X;go_wp2
  go_ret2
  exact BAD.out X HNO.out
 case true=>
 have hi:0≤i∧i<O.length:=by simp[outlB] at hob;omega
 obtain⟨ad,ea,x0,x1,x2⟩:=at_T51 (Kd.C_below HR2.out HB0.out) i hi.1 hi.2;obtain⟨cl,hcl⟩:∃cl,(rdO O i).f1=cl:=⟨_,rfl⟩;obtain⟨ib,hib⟩:∃ib,(decide (1≤c)&&decide (c≤cl))=ib:=⟨_,rfl⟩;replace x1:W0.cell? ⟨(ad.add (i.toNat*3)).block,(ad.add (i.toNat*3)).off+1,none⟩=some (.int .i64 cl):=by rw[← hcl];exact x1
 have z1:∀X:After W0,X.W.cell? ⟨(ad.add (i.toNat*3)).block,(ad.add (i.toNat*3)).off+1,none⟩=some (.int .i64 cl):=fun X=>X.cell x1;subst ea;have q1:=eq_true hi.1;have q2:=eq_true hi.2
 have CI:Aside0 (∀ X:After W0,Calls Tryz.prog 69 #[.int .i64 c,.int .i64 1,.int .i64 cl] X.W fun e w'=>e=.returned (.bool ib)∧Below X.W.heap.size X.W w'):=⟨fun X=>
  (d7_in.calls c 1 cl ib X.W (by rw[inD_f,hib])).mono (fun e w' h=>⟨h.1,h.2.below⟩)⟩
 have HNO:Aside0 (needOk I N O i c=ib):=⟨by unfold needOk;rw[htb,hob,hcl,hib];rfl⟩;have HI:=aM hi;clear htb hob hcl hib x0 x1 x2 hi
 cases ib
 case false=>
  refine wp_region_after (by kernel_rfl) (by kernel_rfl) ?_;(repeat (go_big_quiet_step (first|(go_at_call 59;exact Calls.after (CT.out _))|(go_at_call 60;exact Calls.after (CO.out _))|(go_at_call 69;exact Calls.after (CI.out _)))));refine wpQuiet_nil ?_;intro X;go_wp2
  go_ret2
  exact BAD.out X HNO.out
 case true=>
  refine wp_region_after (by kernel_rfl) (by kernel_rfl) ?_;(repeat (go_big_quiet_step (first|(go_at_call 59;exact Calls.after (CT.out _))|(go_at_call 60;exact Calls.after (CO.out _))|(go_at_call 69;exact Calls.after (CI.out _)))));refine wpQuiet_nil ?_;intro X;replace y0:=y0 X;replace y1:=y1 X;replace y2:=y2 X;have HB2:=aM (below_step HB0.out X.hb);obtain⟨p,hp⟩:∃p:List Int->Bool,(fun s:List Int=>decide (c≤rd s i))=p:=⟨_,rfl⟩;have hs:=needs1_any (I:=I) (A1:=A1) (A2:=some ad) (c1:=c1) (c2:=c2) (blk_below HO0.out X.hb) (blk_below HC0.out X.hb) HOK.out.o HI.out.1 HI.out.2;rw[hp] at hs;have hF:needsF I N O i c=answerF N O p:=by rw[← hp];exact if_pos HNO.out
  have CF:=aM (first_any (I:=I) (Kd.C_below HR1.out HB2.out) HL.out.1 (Kd.C_below HR2.out HB2.out) HL.out.2 (by unfold treeOk;simp[HOK.out.n,HOK.out.o];omega) 97 #[.pointer (some ⟨w.heap.size+1,0,none⟩),.pointer (some ⟨w.heap.size+1+1,0,none⟩)] p (enters_of Tryz.func97 (by kernel_rfl) rfl) hs);clear y3 y4 z1 hs hp;obtain⟨n,hn⟩:∃n,firstF N O p=n:=⟨_,rfl⟩;obtain⟨b,hb⟩:∃b,p (lawF n N O)=b:=⟨_,rfl⟩;have HA:Aside0 (needsF I N O i c=if b=true then(n,0) else(0,5)):=⟨by rw[hF];unfold answerF;rw[hn,hb]⟩;rw[hn,hb] at CF;clear hn hb hF;have hmf:∀(fn:Fn) (first cap:Array Value) (w:World),(Instr.makeFunc fn first cap).run Tryz.prog w=.ok (.func fn first cap) w:=fun _ _ _ _=>rfl
  cases b
  ·go_wp2_with (go_at_call 96;refine CF.out.mono ?_;rintro e w2 ⟨rfl,hb2⟩)
   go_ret2
   exact⟨by rw[HA.out];rfl,below_step HB2.out hb2⟩
  ·go_wp2_with (go_at_call 96;refine CF.out.mono ?_;rintro e w2 ⟨rfl,hb2⟩)
   go_ret2
   exact⟨by rw[HA.out];rfl,below_step HB2.out hb2⟩
def keepB (O:List SO) (cl:Int) (s:List Int):Bool:=(List.range O.length).all fun k=>!(decide ((rdO O k).f2≤cl)&&decide (rd s k<(rdO O k).f1))
set_option maxRecDepth 100000 in
set_option maxHeartbeats 1000000 in
theorem keeps1_any {w:World} {I:Int} {A1 A2:Option Addr} {c1 c2:Nat} {N:List SN} {O:List SO} {Bt Bc:Nat} {cl:Int} (ht:w.heap[Bt]? =some (.cells #[.int .i64 I,.slice A1 N.length c1,.slice A2 O.length c2] 25 (0,0))) (hc:w.heap[Bc]? =some (.cells #[.int .i64 cl] 3 (0,0))) (r2:Kd.C k51 w A2 O.length O) (hok:okO N.length O=true) (hol:O.length≤1000):
  SuitsB I A1 A2 c1 c2 N O 98 #[.pointer (some ⟨Bt,0,none⟩),.pointer (some ⟨Bc,0,none⟩)] (keepB O cl) w:=by
 intro m W A c m0 m1 hb hC hl;have hu1:=Tryz.underlying25;have hu2:=Tryz.underlying93;have hu3:=Tryz.underlying51;have HLL:=aM (law_len m N hok);have HT:=aM (blk_below ht hb);have HCB:=aM (blk_below hc hb);have HR2:=aM (Kd.C_below r2 hb);have HC:=aM hC;clear hb hC hl ht hc r2 hok;generalize lawF m N O=s at *
 show Calls Tryz.prog 98 #[.agg #[.int .i64 m,.slice A1 N.length c1,.slice A2 O.length c2,.slice A s.length c],.pointer (some ⟨Bt,0,none⟩),.pointer (some ⟨Bc,0,none⟩)] W _
 go_enter Tryz.func98,Tryz.ntmps98
 go_upto_region 1 with(fail)
 generalize hW0:World.alloc W _=W0;have HB0:Aside0 (Below W.heap.size W W0):=⟨by rw[← hW0];exact(Below.refl _ _).alloc (Nat.le_refl _) _⟩;have HX:Aside0 (W0.heap[W.heap.size]? =some (.cells #[.int .i64 m,.slice A1 N.length c1,.slice A2 O.length c2,.slice A s.length c] 93 (0,0))):=⟨by rw[← hW0];exact blk_new _ _⟩;clear hW0;have y2:W0.cell? ⟨Bt,2,none⟩=some (.slice A2 O.length c2):=(blk_cell (blk_below HT.out HB0.out) 2).trans rfl;go_wp2;clear y2
 go_loopg [10] O.length (fun kq v10 w'=>∃j:Nat,v10=.int .i64 (j:Int)∧Aside0 (j+kq=O.length)∧Aside0 (∀ k:Nat,k<j->¬((rdO O k).f2≤cl∧rd s k<(rdO O k).f1))∧Aside0 (Below W0.heap.size W0 w'))
 case atStart=>exact⟨0,rfl,⟨by omega⟩,⟨fun k hk=>by omega⟩,⟨Below.refl _ _⟩⟩
 case round=>
  obtain⟨j,rfl,HJ,HI,HW⟩:=hrel
  cases gk with
  |zero=>
   have c3:decide ((j:Int)<(O.length:Int))=false:=decide_eq_false (by have:=HJ.out;omega);have c4:¬(j<O.length):=by have:=HJ.out;omega
   have HE:Aside0 (keepB O cl s=true):=⟨by
    unfold keepB;rw[List.all_eq_true];intro k hk;have:=HI.out k (by have:=List.mem_range.1 hk;have:=HJ.out;omega);simp only[Bool.not_eq_true',Bool.and_eq_false_iff,decide_eq_false_iff_not]
    by_cases h:(rdO O k).f2≤cl
    ·exact .inr (fun h2=>this ⟨h,h2⟩)
    ·exact .inl h⟩
   go_wp2;go_ret;exact⟨by rw[HE.out];rfl,below_step HB0.out HW.out⟩
  |succ k2=>
   have hjn:j<O.length:=by have:=HJ.out;omega
   have c3:decide ((j:Int)<(O.length:Int))=true:=decide_eq_true (by omega);have p1:(0:Int)≤(j:Int):=by omega
   have p2:(j:Int)<(O.length:Int):=by omega
   have hbr:=below_step HB0.out HW.out;obtain⟨ad,ea,x0,x1,x2⟩:=at_T51 (Kd.C_below HR2.out hbr) (j:Int) p1 p2;rw[Int.toNat_natCast] at x0 x1 x2;obtain⟨o,ho⟩:∃o,rdO O (j:Int)=o:=⟨_,rfl⟩
   change wr.cell? _=some (.int .i64 (rdO O (j:Int)).f0) at x0
   change wr.cell? _=some (.int .i64 (rdO O (j:Int)).f1) at x1
   change wr.cell? _=some (.int .i64 (rdO O (j:Int)).f2) at x2
   rw[ho] at x0 x1 x2;subst ea;have HO:=aM ho;have HBR:=aM hbr;clear ho hbr
   go_upto_region 4 with(fail)
   generalize hW5:World.alloc wr _=W5;have HB5:Aside0 (Below wr.heap.size wr W5):=⟨by rw[← hW5];exact(Below.refl _ _).alloc (Nat.le_refl _) _⟩;have HO5:Aside0 (W5.heap[wr.heap.size]? =some (.cells #[.int .i64 o.f0,.int .i64 o.f1,.int .i64 o.f2] 51 (0,0))):=⟨by rw[← hW5];exact blk_new _ _⟩;clear hW5 x0 x1 x2;have z1:∀X:After W5,X.W.cell? ⟨wr.heap.size,1,none⟩=some (.int .i64 o.f1):=fun X=>X.cell ((blk_cell HO5.out 1).trans rfl);have z2:∀X:After W5,X.W.cell? ⟨wr.heap.size,2,none⟩=some (.int .i64 o.f2):=fun X=>X.cell ((blk_cell HO5.out 2).trans rfl);have z3:∀X:After W5,X.W.cell? ⟨Bc,0,none⟩=some (.int .i64 cl):=fun X=>X.cell ((blk_cell (blk_below (blk_below HCB.out HBR.out) HB5.out) 0).trans rfl);have z4:∀X:After W5,X.W.cell? ⟨W.heap.size,3,none⟩=some (.slice A s.length c):=fun X=>X.cell ((blk_cell (blk_below (blk_below HX.out HW.out) HB5.out) 3).trans rfl);have p3:(j:Int)<(s.length:Int):=by have:=HLL.out;omega
   obtain⟨asd,ea,xs0⟩:=Kd.at_int (Kd.C_below HC.out (below_step HBR.out HB5.out)) (j:Int) p1 p3;subst ea;rw[Int.toNat_natCast] at xs0;obtain⟨sj,hsj⟩:∃sj,rd s (j:Int)=sj:=⟨_,rfl⟩;rw[hsj] at xs0;have z5:∀X:After W5,X.W.cell? (asd.add j)=some (.int .i64 sj):=fun X=>X.cell' xs0;have q1:=eq_true p1;have q3:=eq_true p3;have HSJ:=aM hsj;clear hsj xs0
   by_cases h1:o.f2≤cl
   ·by_cases h2:sj<o.f1
    ·have c5:decide (o.f2≤cl)=true:=decide_eq_true h1;have c6:decide (sj<o.f1)=true:=decide_eq_true h2
     have HE:Aside0 (keepB O cl s=false):=⟨by
      rw[Bool.eq_false_iff];intro hk;unfold keepB at hk;rw[List.all_eq_true] at hk;have:=hk j (List.mem_range.2 hjn);rw[HO.out,HSJ.out,c5,c6] at this
      cases this⟩
     clear h1 h2;refine wp_region_after (by kernel_rfl) (by kernel_rfl) ?_;(repeat (go_big_quiet_step (fail)));refine wpQuiet_nil ?_;intro X;go_wp2;go_ret;exact⟨by rw[HE.out];rfl,below_step (below_step (below_step HB0.out HW.out) HB5.out) X.hb⟩
    ·have c5:decide (o.f2≤cl)=true:=decide_eq_true h1;have c6:decide (sj<o.f1)=false:=decide_eq_false h2;have HN:Aside0 (∀ k:Nat,k<j+1->¬((rdO O k).f2≤cl∧rd s k<(rdO O k).f1)):=⟨fun k hk=>(Nat.lt_or_eq_of_le (Nat.le_of_lt_succ hk)).elim (fun h=>HI.out k h) (fun h=>by subst h;rw[HO.out];exact fun hh=>absurd hh.2 (by rw[HSJ.out];exact h2))⟩;clear h1 h2;refine wp_region_after (by kernel_rfl) (by kernel_rfl) ?_;(repeat (go_big_quiet_step (fail)));refine wpQuiet_nil ?_;intro X;go_wp2
     go_roundg k2
     case measure=>omega
     case rel=>exact⟨j+1,(by first|rfl|(rw [IntWalk.wrap64_in _ (by omega),Int.natCast_add,Int.natCast_one])),⟨by have:=HJ.out;omega⟩,HN,⟨below_step (below_step HW.out HB5.out) X.hb⟩⟩
   ·have c5:decide (o.f2≤cl)=false:=decide_eq_false h1;have HN:Aside0 (∀ k:Nat,k<j+1->¬((rdO O k).f2≤cl∧rd s k<(rdO O k).f1)):=⟨fun k hk=>(Nat.lt_or_eq_of_le (Nat.le_of_lt_succ hk)).elim (fun h=>HI.out k h) (fun h=>by subst h;rw[HO.out];exact fun hh=>absurd hh.1 h1)⟩;clear h1;refine wp_region_after (by kernel_rfl) (by kernel_rfl) ?_;(repeat (go_big_quiet_step (fail)));refine wpQuiet_nil ?_;intro X;go_wp2
    go_roundg k2
    case measure=>omega
    case rel=>exact⟨j+1,(by first|rfl|(rw [IntWalk.wrap64_in _ (by omega),Int.natCast_add,Int.natCast_one])),⟨by have:=HJ.out;omega⟩,HN,⟨below_step (below_step HW.out HB5.out) X.hb⟩⟩
def keepsF (I:Int) (N:List SN) (O:List SO) (cl:Int):Int×Int:=if(treeB I N O&&(decide (0≤cl)&&decide (cl≤3)))=true then answerF N O (keepB O cl) else(0,2)
set_option maxRecDepth 100000 in
set_option maxHeartbeats 1000000 in
theorem keeps_any {w:World} {I:Int} {A1 A2:Option Addr} {c1 c2:Nat} {N:List SN} {O:List SO} {cl:Int} (r1:Kd.C k77 w A1 N.length N) (l1:N.length≤c1) (r2:Kd.C k51 w A2 O.length O) (l2:O.length≤c2) (hl1:N.length≤9223372036854775807) (hl2:O.length≤9223372036854775807):
  Calls Tryz.prog 56 #[.agg #[.int .i64 I,.slice A1 N.length c1,.slice A2 O.length c2],.int .i64 cl] w fun e w'=>e=.returned (.tuple #[.int .i64 (keepsF I N O cl).1,.int .i64 (keepsF I N O cl).2])∧Below w.heap.size w w':=by
 have hu1:=Tryz.underlying25;have HR1:=aM r1;have HR2:=aM r2;have HL:=aM (And.intro l1 l2);clear r1 r2 l1 l2;have hmf:∀(fn:Fn) (first cap:Array Value) (w:World),(Instr.makeFunc fn first cap).run Tryz.prog w=.ok (.func fn first cap) w:=fun _ _ _ _=>rfl
 go_enter Tryz.func56,Tryz.ntmps56
 go_upto_region 1 with(fail)
 generalize hW0:World.alloc (World.alloc w _) _=W0;have HB0:Aside0 (Below w.heap.size w W0):=⟨by rw[← hW0];exact((Below.refl _ _).alloc (Nat.le_refl _) _).alloc (by simp) _⟩;have HT0:Aside0 (W0.heap[w.heap.size]? =some (.cells #[.int .i64 I,.slice A1 N.length c1,.slice A2 O.length c2] 25 (0,0))):=⟨by rw[← hW0];exact blk_alloc (blk_new _ _) _⟩
 have HC0:Aside0 (W0.heap[w.heap.size+1]? =some (.cells #[.int .i64 cl] 3 (0,0))):=⟨by
  rw[← hW0];have:=blk_new (w.alloc (.cells #[.int .i64 I,.slice A1 N.length c1,.slice A2 O.length c2] 25)) (.cells #[.int .i64 cl] 3);rw[World.size_alloc] at this
  exact this⟩
 clear hW0;have y0:W0.cell? ⟨w.heap.size,0,none⟩=some (.int .i64 I):=(blk_cell HT0.out 0).trans rfl;have y1:W0.cell? ⟨w.heap.size,1,none⟩=some (.slice A1 N.length c1):=(blk_cell HT0.out 1).trans rfl;have y2:W0.cell? ⟨w.heap.size,2,none⟩=some (.slice A2 O.length c2):=(blk_cell HT0.out 2).trans rfl;obtain⟨tb,htb⟩:∃tb,treeB I N O=tb:=⟨_,rfl⟩;obtain⟨cb,hcb⟩:∃cb,(decide (0≤cl)&&decide (cl≤3))=cb:=⟨_,rfl⟩;have CT:=aM (d7_isTree.calls I A1 c1 N A2 c2 O tb W0 (Kd.C_below HR1.out HB0.out) HL.out.1 (Kd.C_below HR2.out HB0.out) HL.out.2 (by unfold d7_isTree.f;rw[if_pos ⟨hl1,hl2⟩,htb]))
 have CC:Aside0 (∀ W,Calls Tryz.prog 85 #[.int .i64 cl] W fun e w'=>e=.returned (.bool cb)∧Below W.heap.size W w'):=⟨fun W=>
  (d7_isClass.calls cl cb W (by unfold d7_isClass.f;rw[inD_f,Option.bind_some,hcb])).mono (fun e w' h=>⟨h.1,h.2.below⟩)⟩
 have HK:Aside0 (keepsF I N O cl=if(tb&&cb)=true then answerF N O (keepB O cl) else(0,2)):=⟨by unfold keepsF;rw[htb,hcb]⟩
 cases tb
 case false=>
  clear htb hcb
  go_wp2_with (go_at_call 59;refine CT.out.mono ?_;rintro e w2 ⟨rfl,hb2⟩)
  go_ret2
  exact⟨by rw[HK.out];rfl,below_step HB0.out hb2⟩
 case true=>
 have HOK:=aM (tree_ok htb);have hol:=HOK.out.ol;have hnl:=HOK.out.nl;clear htb hcb
 cases cb
 case false=>
  go_upto_region 2 with(first|(go_at_call 59;refine CT.out.mono ?_;rintro e w2 ⟨rfl,hb2⟩;have y3:w2.cell? ⟨w.heap.size+1,0,none⟩=some (.int .i64 cl):=(blk_cell (blk_below HC0.out hb2) 0).trans rfl)|(go_at_call 85;refine(CC.out _).mono ?_;rintro e w3 ⟨rfl,hb3⟩))
  go_wp2
  go_ret2
  exact⟨by rw[HK.out];rfl,below_step (below_step HB0.out hb2) hb3⟩
 case true=>
  go_upto_region 3 with(first|(go_at_call 59;refine CT.out.mono ?_;rintro e w2 ⟨rfl,hb2⟩;have y3:w2.cell? ⟨w.heap.size+1,0,none⟩=some (.int .i64 cl):=(blk_cell (blk_below HC0.out hb2) 0).trans rfl)|(go_at_call 85;refine(CC.out _).mono ?_;rintro e w3 ⟨rfl,hb3⟩))
  have hb4:=below_step hb2 hb3;have HB2:=aM (below_step HB0.out hb4);have hT:=blk_below HT0.out hb4;replace y0:w3.cell? ⟨w.heap.size,0,none⟩=some (.int .i64 I):=(blk_cell hT 0).trans rfl;replace y1:w3.cell? ⟨w.heap.size,1,none⟩=some (.slice A1 N.length c1):=(blk_cell hT 1).trans rfl;replace y2:w3.cell? ⟨w.heap.size,2,none⟩=some (.slice A2 O.length c2):=(blk_cell hT 2).trans rfl;have CF:=aM (first_any (I:=I) (Kd.C_below HR1.out HB2.out) HL.out.1 (Kd.C_below HR2.out HB2.out) HL.out.2 (by unfold treeOk;simp[HOK.out.n,HOK.out.o];omega) 98 #[.pointer (some ⟨w.heap.size,0,none⟩),.pointer (some ⟨w.heap.size+1,0,none⟩)] (keepB O cl) (enters_of Tryz.func98 (by kernel_rfl) rfl) (keeps1_any hT (blk_below HC0.out hb4) (Kd.C_below HR2.out HB2.out) HOK.out.o (by omega)));clear y3 hT hb2 hb3 hb4;obtain⟨n,hn⟩:∃n,firstF N O (keepB O cl)=n:=⟨_,rfl⟩;obtain⟨b,hb⟩:∃b,keepB O cl (lawF n N O)=b:=⟨_,rfl⟩;have HA:Aside0 (keepsF I N O cl=if b=true then(n,0) else(0,5)):=⟨by rw[HK.out];show answerF N O (keepB O cl)=_;unfold answerF;rw[hn,hb]⟩;rw[hn,hb] at CF;clear hn hb
  cases b
  ·go_wp2_with (go_at_call 96;refine CF.out.mono ?_;rintro e w5 ⟨rfl,hb5⟩)
   go_ret2
   exact⟨by rw[HA.out];rfl,below_step HB2.out hb5⟩
  ·go_wp2_with (go_at_call 96;refine CF.out.mono ?_;rintro e w5 ⟨rfl,hb5⟩)
   go_ret2
   exact⟨by rw[HA.out];rfl,below_step HB2.out hb5⟩
def d7_Needs.f (a0_0:Int) (l0_1:List SN) (l0_2:List SO) (a1 a2:Int):Option (Int×Int):=if l0_1.length≤9223372036854775807∧l0_2.length≤9223372036854775807 then some (needsF a0_0 l0_1 l0_2 a1 a2) else none
theorem d7_Needs.calls (a0_0:Int) (A0_1:Option Addr) (c0_1:Nat) (l0_1:List SN) (A0_2:Option Addr) (c0_2:Nat) (l0_2:List SO) (a1 a2:Int) (r1 r2:Int) (w:World) (hr0_1:Kd.C k77 w A0_1 l0_1.length l0_1) (hc0_1:l0_1.length≤c0_1) (hr0_2:Kd.C k51 w A0_2 l0_2.length l0_2) (hc0_2:l0_2.length≤c0_2) (h:d7_Needs.f a0_0 l0_1 l0_2 a1 a2=some (r1,r2)):
  Calls Tryz.prog 55 #[.agg #[.int .i64 a0_0,.slice A0_1 l0_1.length c0_1,.slice A0_2 l0_2.length c0_2],.int .i64 a1,.int .i64 a2] w fun e w'=>e=.returned (.tuple #[.int .i64 r1,.int .i64 r2])∧Below w.heap.size w w':=by
 unfold d7_Needs.f at h
 split at h
 ·rename_i hp
  have h:=Option.some.inj h;have:=needs_any (I:=a0_0) (i:=a1) (c:=a2) hr0_1 hc0_1 hr0_2 hc0_2 hp.1 hp.2;rw[h] at this;exact this
 ·cases h
def d7_Keeps.f (a0_0:Int) (l0_1:List SN) (l0_2:List SO) (a1:Int):Option (Int×Int):=if l0_1.length≤9223372036854775807∧l0_2.length≤9223372036854775807 then some (keepsF a0_0 l0_1 l0_2 a1) else none
theorem d7_Keeps.calls (a0_0:Int) (A0_1:Option Addr) (c0_1:Nat) (l0_1:List SN) (A0_2:Option Addr) (c0_2:Nat) (l0_2:List SO) (a1:Int) (r1 r2:Int) (w:World) (hr0_1:Kd.C k77 w A0_1 l0_1.length l0_1) (hc0_1:l0_1.length≤c0_1) (hr0_2:Kd.C k51 w A0_2 l0_2.length l0_2) (hc0_2:l0_2.length≤c0_2) (h:d7_Keeps.f a0_0 l0_1 l0_2 a1=some (r1,r2)):
  Calls Tryz.prog 56 #[.agg #[.int .i64 a0_0,.slice A0_1 l0_1.length c0_1,.slice A0_2 l0_2.length c0_2],.int .i64 a1] w fun e w'=>e=.returned (.tuple #[.int .i64 r1,.int .i64 r2])∧Below w.heap.size w w':=by
 unfold d7_Keeps.f at h
 split at h
 ·rename_i hp
  have h:=Option.some.inj h;have:=keeps_any (I:=a0_0) (cl:=a1) hr0_1 hc0_1 hr0_2 hc0_2 hp.1 hp.2;rw[h] at this;exact this
 ·cases h
end Go.Proofs.YtjioobfeikbffabGreatDoor.K
end
section
namespace Go.Proofs.YtjioobfeikbffabGreatDoor.K
open Go.RowKit Go.Proofs.Zw Go.Proofs.Zl Go.Proofs.Zm
attribute [local go_sem] max2_int min2_int max_two min_two max_three min_three max_four min_four
def d7_ends_least.f (a0_0:Int) (l0_1:List (S77)) (l0_2:List (S51)) (l0_3:List Int) (a0_4:Int) (l0_5:List (S77)) (l0_6:List (S51)) (l0_7:List Int) (a1:Int):Option (Int):=if 0≤a1 then(if a1<(l0_3.length:Int) then(some (rd l0_3 a1)) else(none)) else(none)
set_option maxHeartbeats 8000000 in
set_option maxRecDepth 100000 in
theorem d7_ends_least.calls (a0_0:Int) (A0_1:Option Addr) (c0_1:Nat) (l0_1:List (S77)) (A0_2:Option Addr) (c0_2:Nat) (l0_2:List (S51)) (A0_3:Option Addr) (c0_3:Nat) (l0_3:List Int) (a0_4:Int) (A0_5:Option Addr) (c0_5:Nat) (l0_5:List (S77)) (A0_6:Option Addr) (c0_6:Nat) (l0_6:List (S51)) (A0_7:Option Addr) (c0_7:Nat) (l0_7:List Int) (a1:Int) (r:Int) (w:World) (hr0_1:Kd.C k77 w A0_1 l0_1.length l0_1) (hc0_1:l0_1.length≤c0_1) (hr0_2:Kd.C k51 w A0_2 l0_2.length l0_2) (hc0_2:l0_2.length≤c0_2) (hr0_3:Kd.C (Kd.int .i64) w A0_3 l0_3.length l0_3) (hc0_3:l0_3.length≤c0_3) (hr0_5:Kd.C k77 w A0_5 l0_5.length l0_5) (hc0_5:l0_5.length≤c0_5) (hr0_6:Kd.C k51 w A0_6 l0_6.length l0_6) (hc0_6:l0_6.length≤c0_6) (hr0_7:Kd.C (Kd.int .i64) w A0_7 l0_7.length l0_7) (hc0_7:l0_7.length≤c0_7) (h:d7_ends_least.f a0_0 l0_1 l0_2 l0_3 a0_4 l0_5 l0_6 l0_7 a1=some r):
  Calls Tryz.prog 94 #[.agg #[.int .i64 a0_0,.slice A0_1 l0_1.length c0_1,.slice A0_2 l0_2.length c0_2,.slice A0_3 l0_3.length c0_3,.int .i64 a0_4,.slice A0_5 l0_5.length c0_5,.slice A0_6 l0_6.length c0_6,.slice A0_7 l0_7.length c0_7],.int .i64 a1] w fun e w'=>e=.returned (.int .i64 r)∧Below w.heap.size w w':=by
 have hu117:=Tryz.underlying117;have HR0_1:=aM hr0_1;have HC0_1:=aM hc0_1;clear hr0_1 hc0_1;have HR0_2:=aM hr0_2;have HC0_2:=aM hc0_2;clear hr0_2 hc0_2;have HR0_3:=aM hr0_3;have HC0_3:=aM hc0_3;clear hr0_3 hc0_3;have HR0_5:=aM hr0_5;have HC0_5:=aM hc0_5;clear hr0_5 hc0_5;have HR0_6:=aM hr0_6;have HC0_6:=aM hc0_6;clear hr0_6 hc0_6;have HR0_7:=aM hr0_7;have HC0_7:=aM hc0_7;clear hr0_7 hc0_7;have HB:=aM (Below.refl w.heap.size w);have H:(if 0≤a1 then(if a1<(l0_3.length:Int) then(some (rd l0_3 a1)) else(none)) else(none))=some r:=h;clear h;obtain⟨c3,H⟩:=ifs H;replace c3:=decide_eq_true c3;obtain⟨c4,H⟩:=ifs H;replace c4:=decide_eq_true c4;obtain rfl:=Option.some.inj H
 go_enter Tryz.func94,Tryz.ntmps94
 go_wp2_with (first|((with_reducible refine gate_dst (N:=2) rfl ?_);refine bxe 2 #[.int .i64 a0_0,.slice A0_1 l0_1.length c0_1,.slice A0_2 l0_2.length c0_2,.slice A0_3 l0_3.length c0_3,.int .i64 a0_4,.slice A0_5 l0_5.length c0_5,.slice A0_6 l0_6.length c0_6,.slice A0_7 l0_7.length c0_7] 117 ?_;intro gb117 hg w5 hbox hb;have n0_:=aM (below_step uB hb);have n1_:=aM (hbox);have n2_:=gw hg;have n3_:=gw hg;clear HB;have HB:=n0_;have BK117:=n1_;have GW117:=n2_;have GE117:=n3_;clear n0_ n1_ n2_ n3_;clear hb hbox hg;obtain⟨hcz6_0,hcz6_1,hcz6_2,hcz6_3,hcz6_4,hcz6_5,hcz6_6,hcz6_7⟩:=cz8 BK117.out;obtain⟨hfz6_0,hfz6_1,hfz6_2,hfz6_3,hfz6_4,hfz6_5,hfz6_6,hfz6_7⟩:=fz8 BK117.out;have p118:0≤(a1:Int):=uD;have q118:a1<(l0_3.length:Int):=uD;obtain⟨ad118,e118,hx118_0⟩:=Kd.at_int HR0_3.out a1 p118 q118;cases e118;replace hx118_0:=hcell HB.out hx118_0;replace p118:=eq_true p118;replace q118:=eq_true q118))
 go_ret;exact⟨uE,uB⟩
def d7_ends_greatest.f (a0_0:Int) (l0_1:List (S77)) (l0_2:List (S51)) (l0_3:List Int) (a0_4:Int) (l0_5:List (S77)) (l0_6:List (S51)) (l0_7:List Int) (a1:Int):Option (Int):=if 0≤a1 then(if a1<(l0_7.length:Int) then(some (rd l0_7 a1)) else(none)) else(none)
set_option maxHeartbeats 8000000 in
set_option maxRecDepth 100000 in
theorem d7_ends_greatest.calls (a0_0:Int) (A0_1:Option Addr) (c0_1:Nat) (l0_1:List (S77)) (A0_2:Option Addr) (c0_2:Nat) (l0_2:List (S51)) (A0_3:Option Addr) (c0_3:Nat) (l0_3:List Int) (a0_4:Int) (A0_5:Option Addr) (c0_5:Nat) (l0_5:List (S77)) (A0_6:Option Addr) (c0_6:Nat) (l0_6:List (S51)) (A0_7:Option Addr) (c0_7:Nat) (l0_7:List Int) (a1:Int) (r:Int) (w:World) (hr0_1:Kd.C k77 w A0_1 l0_1.length l0_1) (hc0_1:l0_1.length≤c0_1) (hr0_2:Kd.C k51 w A0_2 l0_2.length l0_2) (hc0_2:l0_2.length≤c0_2) (hr0_3:Kd.C (Kd.int .i64) w A0_3 l0_3.length l0_3) (hc0_3:l0_3.length≤c0_3) (hr0_5:Kd.C k77 w A0_5 l0_5.length l0_5) (hc0_5:l0_5.length≤c0_5) (hr0_6:Kd.C k51 w A0_6 l0_6.length l0_6) (hc0_6:l0_6.length≤c0_6) (hr0_7:Kd.C (Kd.int .i64) w A0_7 l0_7.length l0_7) (hc0_7:l0_7.length≤c0_7) (h:d7_ends_greatest.f a0_0 l0_1 l0_2 l0_3 a0_4 l0_5 l0_6 l0_7 a1=some r):
  Calls Tryz.prog 95 #[.agg #[.int .i64 a0_0,.slice A0_1 l0_1.length c0_1,.slice A0_2 l0_2.length c0_2,.slice A0_3 l0_3.length c0_3,.int .i64 a0_4,.slice A0_5 l0_5.length c0_5,.slice A0_6 l0_6.length c0_6,.slice A0_7 l0_7.length c0_7],.int .i64 a1] w fun e w'=>e=.returned (.int .i64 r)∧Below w.heap.size w w':=by
 have hu117:=Tryz.underlying117;have HR0_1:=aM hr0_1;have HC0_1:=aM hc0_1;clear hr0_1 hc0_1;have HR0_2:=aM hr0_2;have HC0_2:=aM hc0_2;clear hr0_2 hc0_2;have HR0_3:=aM hr0_3;have HC0_3:=aM hc0_3;clear hr0_3 hc0_3;have HR0_5:=aM hr0_5;have HC0_5:=aM hc0_5;clear hr0_5 hc0_5;have HR0_6:=aM hr0_6;have HC0_6:=aM hc0_6;clear hr0_6 hc0_6;have HR0_7:=aM hr0_7;have HC0_7:=aM hc0_7;clear hr0_7 hc0_7;have HB:=aM (Below.refl w.heap.size w);have H:(if 0≤a1 then(if a1<(l0_7.length:Int) then(some (rd l0_7 a1)) else(none)) else(none))=some r:=h;clear h;obtain⟨c3,H⟩:=ifs H;replace c3:=decide_eq_true c3;obtain⟨c4,H⟩:=ifs H;replace c4:=decide_eq_true c4;obtain rfl:=Option.some.inj H
 go_enter Tryz.func95,Tryz.ntmps95
 go_wp2_with (first|((with_reducible refine gate_dst (N:=2) rfl ?_);refine bxe 2 #[.int .i64 a0_0,.slice A0_1 l0_1.length c0_1,.slice A0_2 l0_2.length c0_2,.slice A0_3 l0_3.length c0_3,.int .i64 a0_4,.slice A0_5 l0_5.length c0_5,.slice A0_6 l0_6.length c0_6,.slice A0_7 l0_7.length c0_7] 117 ?_;intro gb119 hg w5 hbox hb;have n0_:=aM (below_step uB hb);have n1_:=aM (hbox);have n2_:=gw hg;have n3_:=gw hg;clear HB;have HB:=n0_;have BK119:=n1_;have GW119:=n2_;have GE119:=n3_;clear n0_ n1_ n2_ n3_;clear hb hbox hg;obtain⟨hcz6_0,hcz6_1,hcz6_2,hcz6_3,hcz6_4,hcz6_5,hcz6_6,hcz6_7⟩:=cz8 BK119.out;obtain⟨hfz6_0,hfz6_1,hfz6_2,hfz6_3,hfz6_4,hfz6_5,hfz6_6,hfz6_7⟩:=fz8 BK119.out;have p120:0≤(a1:Int):=uD;have q120:a1<(l0_7.length:Int):=uD;obtain⟨ad120,e120,hx120_0⟩:=Kd.at_int HR0_7.out a1 p120 q120;cases e120;replace hx120_0:=hcell HB.out hx120_0;replace p120:=eq_true p120;replace q120:=eq_true q120))
 go_ret;exact⟨uE,uB⟩
end Go.Proofs.YtjioobfeikbffabGreatDoor.K
end
section
namespace Go.Proofs.YtjioobfeikbffabGreatDoor.K
open Go.RowKit Go.Shelf Go.Proofs.Zw Go.Proofs.Zl Go.Proofs.Zm
attribute [local go_sem] Oper.semAt_some
abbrev SSp:=S91
abbrev kSp:=k91
def spansF (lo hi:List Int) (j:Nat):List SSp:=(List.range j).map fun(k:Nat)=>⟨rd lo k,rd hi k⟩
theorem spans_succ (lo hi:List Int) (j:Nat):spansF lo hi (j+1)=spansF lo hi j++[⟨rd lo j,rd hi j⟩]:=by simp[spansF,List.range_succ]
theorem spans_len (lo hi:List Int) (j:Nat):(spansF lo hi j).length=j:=by simp[spansF]
abbrev zero8:Array Value:=#[.int .i64 0,.slice none 0 0,.slice none 0 0,.slice none 0 0,.int .i64 0,.slice none 0 0,.slice none 0 0,.slice none 0 0]
def set8 (W:World) (k:Nat) (a b c d e f g h:Value):World:=(((((((W.setCell ⟨k,0,none⟩ a).setCell ⟨k,1,none⟩ b).setCell ⟨k,2,none⟩ c).setCell ⟨k,3,none⟩ d).setCell ⟨k,4,none⟩ e).setCell ⟨k,5,none⟩ f).setCell ⟨k,6,none⟩ g).setCell ⟨k,7,none⟩ h
theorem set8_blk {W:World} {k:Nat} (hk:W.heap[k]? =some (.cells zero8 117 (0,0))) (a b c d e f g h:Value):(set8 W k a b c d e f g h).heap[k]? =some (.cells #[a,b,c,d,e,f,g,h] 117 (0,0)):=by
 unfold set8;have:=blk_set (blk_set (blk_set (blk_set (blk_set (blk_set (blk_set (blk_set hk 0 a) 1 b) 2 c) 3 d) 4 e) 5 f) 6 g) 7 h
 simpa using this
theorem set8_kb (W:World) (k:Nat) (a b c d e f g h:Value):KB (fun j=>j=k) W (set8 W k a b c d e f g h):=by
 unfold set8;exact(((((((KB.setCell (M:=fun j=>j=k) W ⟨k,0,none⟩ a rfl).trans (KB.setCell _ ⟨k,1,none⟩ b rfl)).trans (KB.setCell _ ⟨k,2,none⟩ c rfl)).trans (KB.setCell _ ⟨k,3,none⟩ d rfl)).trans (KB.setCell _ ⟨k,4,none⟩ e rfl)).trans (KB.setCell _ ⟨k,5,none⟩ f rfl)).trans (KB.setCell _ ⟨k,6,none⟩ g rfl)).trans (KB.setCell _ ⟨k,7,none⟩ h rfl)
structure EnW (B:World) (Lo Hi:List Int) (b:Nat) (Al Ah:Option Addr) (cl ch:Nat) (W:World):Prop where
 hb:Below B.heap.size B W
 x:W.heap[b]? =some (.cells zero8 117 (0,0))
 ge:B.heap.size≤b
 lo:OwnI W B.heap.size (.slice Al Lo.length cl) Lo
 hi:OwnI W B.heap.size (.slice Ah Hi.length ch) Hi
 nl:(Value.slice Al Lo.length cl).ownBlock≠some b
 nh:(Value.slice Ah Hi.length ch).ownBlock≠some b
structure SpW (w:World) (I low high:Int) (A1 A2:Option Addr) (c1 c2:Nat) (N:List SN) (O:List SO) (b:Nat) (Al Ah:Option Addr) (cl ch:Nat) (W:World):Prop where
 hb:Below w.heap.size w W
 t:W.heap[w.heap.size]? =some (.cells #[.int .i64 I,.slice A1 N.length c1,.slice A2 O.length c2] 25 (0,0))
 e:W.heap[b]? =some (.cells #[.int .i64 low,.slice A1 N.length c1,.slice A2 O.length c2,.slice Al (lawF low N O).length cl,.int .i64 high,.slice A1 N.length c1,.slice A2 O.length c2,.slice Ah (lawF high N O).length ch] 117 (0,0))
 lo:Kd.C (Kd.int .i64) W Al (lawF low N O).length (lawF low N O)∧(lawF low N O).length≤cl
 hi:Kd.C (Kd.int .i64) W Ah (lawF high N O).length (lawF high N O)∧(lawF high N O).length≤ch
theorem SpW.below {w:World} {I low high:Int} {A1 A2:Option Addr} {c1 c2:Nat} {N:List SN} {O:List SO} {b:Nat} {Al Ah:Option Addr} {cl ch:Nat} {W W1:World} (h:SpW w I low high A1 A2 c1 c2 N O b Al Ah cl ch W) (hb:Below W.heap.size W W1):SpW w I low high A1 A2 c1 c2 N O b Al Ah cl ch W1:=
 ⟨below_step h.hb hb,blk_below h.t hb,blk_below h.e hb,⟨Kd.C_below h.lo.1 hb,h.lo.2⟩,⟨Kd.C_below h.hi.1 hb,h.hi.2⟩⟩
set_option maxRecDepth 100000 in
set_option maxHeartbeats 4000000 in
theorem spans_any {w:World} {I low high:Int} {A1 A2:Option Addr} {c1 c2:Nat} {N:List SN} {O:List SO} (h:TrW w I A1 A2 c1 c2 N O) (ht:treeB I N O=true) (hlo:inB low 0 200=true) (hhi:inB high 0 200=true) (hlh:¬high<low):
  Calls Tryz.prog 54 #[.agg #[.int .i64 I,.slice A1 N.length c1,.slice A2 O.length c2],.int .i64 low,.int .i64 high] w fun e w'=>∃v,e=.returned (.tuple #[v,.int .i64 0])∧Kd.R kSp 91 w' w.heap.size (fun _=>True) v (spansF (lawF low N O) (lawF high N O) O.length)∧Below w.heap.size w w':=by
 have hu1:=Tryz.underlying25;have hu2:=Tryz.underlying117;have hu3:=Tryz.underlying91;have hu4:=Tryz.underlying118;have hu5:=Tryz.underlying120;have hmf:∀(fn:Fn) (first cap:Array Value) (w:World),(Instr.makeFunc fn first cap).run Tryz.prog w=.ok (.func fn first cap) w:=fun _ _ _ _=>rfl;have hmix:Tryz.prog.follows .mixedOrders=true:=by kernel_rfl
 have hol:=h.ol;have hok:=tree_ok ht;have HOK:=aM hok;have HLL:Aside0 ((lawF low N O).length=O.length∧(lawF high N O).length=O.length):=⟨law_len low N h.o,law_len high N h.o⟩
 have CT:Aside0 (∀ W,Below w.heap.size w W->Calls Tryz.prog 59 #[.agg #[.int .i64 I,.slice A1 N.length c1,.slice A2 O.length c2]] W fun e w'=>e=.returned (.bool true)∧Below W.heap.size W w'):=⟨fun W hb=>
  d7_isTree.calls I A1 c1 N A2 c2 O true W (Kd.C_below h.r1 hb) h.l1 (Kd.C_below h.r2 hb) h.l2 (by unfold d7_isTree.f;rw[if_pos ⟨by have:=h.nl;omega,by omega⟩,ht])⟩
 have CL:Aside0 (∀ W,Calls Tryz.prog 93 #[.int .i64 low] W fun e w'=>e=.returned (.bool true)∧W=w'):=⟨fun W=>(isCups_any low W).mono (fun e w' he=>⟨by rw[he.1,hlo],he.2⟩)⟩;have CH:Aside0 (∀ W,Calls Tryz.prog 93 #[.int .i64 high] W fun e w'=>e=.returned (.bool true)∧W=w'):=⟨fun W=>(isCups_any high W).mono (fun e w' he=>⟨by rw[he.1,hhi],he.2⟩)⟩;have c9:decide (high<low)=false:=decide_eq_false hlh;have H:=aM h;clear h ht hlo hhi hlh hok
 go_enter Tryz.func54,Tryz.ntmps54
 go_upto_region 1 with(fail)
 generalize hW0:World.alloc w _=W0;have HB0:Aside0 (Below w.heap.size w W0):=⟨by rw[← hW0];exact(Below.refl _ _).alloc (Nat.le_refl _) _⟩;have HT0:Aside0 (W0.heap[w.heap.size]? =some (.cells #[.int .i64 I,.slice A1 N.length c1,.slice A2 O.length c2] 25 (0,0))):=⟨by rw[← hW0];exact blk_new _ _⟩;clear hW0;have y0:W0.cell? ⟨w.heap.size,0,none⟩=some (.int .i64 I):=(blk_cell HT0.out 0).trans rfl;have y1:W0.cell? ⟨w.heap.size,1,none⟩=some (.slice A1 N.length c1):=(blk_cell HT0.out 1).trans rfl;have y2:W0.cell? ⟨w.heap.size,2,none⟩=some (.slice A2 O.length c2):=(blk_cell HT0.out 2).trans rfl
 go_upto_region 3 with(first|(go_at_call 59;refine(CT.out _ HB0.out).mono ?_;rintro e w1 ⟨rfl,hb1⟩;have HB1:=aM (below_step HB0.out hb1);have HT1:=aM (blk_below HT0.out hb1);clear hb1)|(go_at_call 93;refine(CL.out _).mono ?_;rintro e w2 ⟨rfl,rfl⟩)|(go_at_call 93;refine(CH.out _).mono ?_;rintro e w2 ⟨rfl,rfl⟩))
 clear y0 y1 y2 c9 HB0 HT0;have y0:w1.cell? ⟨w.heap.size,0,none⟩=some (.int .i64 I):=(blk_cell HT1.out 0).trans rfl;have y1:w1.cell? ⟨w.heap.size,1,none⟩=some (.slice A1 N.length c1):=(blk_cell HT1.out 1).trans rfl;have y2:w1.cell? ⟨w.heap.size,2,none⟩=some (.slice A2 O.length c2):=(blk_cell HT1.out 2).trans rfl
 have CW:Aside0 (∀ (W:World) (m:Int),Below w1.heap.size w1 W->Calls Tryz.prog 61 #[.agg #[.int .i64 I,.slice A1 N.length c1,.slice A2 O.length c2],.int .i64 m] W fun e w'=>∃A c,e=.returned (.agg #[.int .i64 m,.slice A1 N.length c1,.slice A2 O.length c2,.slice A (lawF m N O).length c])∧OwnI w' W.heap.size (.slice A (lawF m N O).length c) (lawF m N O)∧Below W.heap.size W w'):=⟨fun W m hb=>by
  refine(d7_law.calls I A1 c1 N A2 c2 O m m N O (lawF m N O) W (Kd.C_below H.out.r1 (below_step HB1.out hb)) H.out.l1 (Kd.C_below H.out.r2 (below_step HB1.out hb)) H.out.l2 (by unfold d7_law.f;rw[if_pos (by simp only[treeOk,Bool.and_eq_true,decide_eq_true_eq];exact⟨⟨⟨H.out.n,H.out.o⟩,H.out.nl⟩,H.out.ol⟩)])).mono ?_;rintro e w' ⟨v,rfl,ho,hb2⟩;obtain⟨A,c,rfl⟩:=Kd.R_slice ho
  exact⟨A,c,rfl,ho,hb2⟩⟩
 have hbd:Below w1.heap.size w1 w1.drew:=below_drew1 (Below.refl _ _);have hSd:Aside0 (∀ W,Below w1.heap.size w1 W->W.cell? ⟨w.heap.size,0,none⟩=some (.int .i64 I)∧W.cell? ⟨w.heap.size,1,none⟩=some (.slice A1 N.length c1)∧W.cell? ⟨w.heap.size,2,none⟩=some (.slice A2 O.length c2)):=⟨fun W hb=>⟨(hb.cell (World.block_lt_of_cell? _ _ y0)).trans y0,(hb.cell (World.block_lt_of_cell? _ _ y1)).trans y1,(hb.cell (World.block_lt_of_cell? _ _ y2)).trans y2⟩⟩;have HBd:=aM hbd;refine start_ (n:=9) (S:=fun w'=>w'.cell? ⟨w.heap.size,0,none⟩=some (.int .i64 I)∧w'.cell? ⟨w.heap.size,1,none⟩=some (.slice A1 N.length c1)∧w'.cell? ⟨w.heap.size,2,none⟩=some (.slice A2 O.length c2)) (ds:=[8]) (bl 9 0) hmix rfl rfl ⟨y0,y1,y2⟩ (fun hHeld=>?_);refine take_ (i:=0) (N:=(some 32)) (v:=?_) (a':=?_) (bl 9 1) rfl rfl (by kernel_rfl) (fun _ _ _ h=>h) (Or.inl ⟨by rfl,?_⟩) hHeld ?_ ?_;rotate_left
 ·rintro w' ⟨s0,s1,s2⟩
  go_simp
  with_reducible rfl
 rotate_left
 ·simp only[Act.put,List.setIfInBounds_toArray,List.set_cons_zero,List.set_cons_succ,i64_w,i32_w]
  rfl
 refine pure_ (i:=1) (N:=(some 33)) (v:=?_) (a':=?_) (bl 9 3) rfl rfl (by kernel_rfl) (fun _ _ _ h=>h) (Or.inl ⟨by rfl,?_⟩) ?_ ?_;rotate_left
 ·intro w'
  go_simp
  with_reducible rfl
 rotate_left
 ·simp only[Act.put,List.setIfInBounds_toArray,List.set_cons_zero,List.set_cons_succ,i64_w,i32_w]
  rfl
 refine take_ (i:=3) (N:=(some 35)) (v:=?_) (a':=?_) (bl 9 11) rfl rfl (by kernel_rfl) (fun _ _ _ h=>h) (Or.inl ⟨by rfl,?_⟩) hHeld ?_ ?_;rotate_left
 ·rintro w' ⟨s0,s1,s2⟩
  go_simp
  with_reducible rfl
 rotate_left
 ·simp only[Act.put,List.setIfInBounds_toArray,List.set_cons_zero,List.set_cons_succ,i64_w,i32_w]
  rfl
 refine pure_ (i:=4) (N:=(some 36)) (v:=?_) (a':=?_) (bl 9 27) rfl rfl (by kernel_rfl) (fun _ _ _ h=>h) (Or.inl ⟨by rfl,?_⟩) ?_ ?_;rotate_left
 ·intro w'
  go_simp
  with_reducible rfl
 rotate_left
 ·simp only[Act.put,List.setIfInBounds_toArray,List.set_cons_zero,List.set_cons_succ,i64_w,i32_w]
  rfl
 clear y0 y1 y2 hHeld hbd;refine join_ (σ:=Nat×(Option Addr×Nat)×(Option Addr×Nat)) 1 (bl 9 255) (fun p=>[(34,.agg #[.int .i64 low,.slice A1 N.length c1,.slice A2 O.length c2,.slice p.2.1.1 (lawF low N O).length p.2.1.2]),(37,.agg #[.int .i64 high,.slice A1 N.length c1,.slice A2 O.length c2,.slice p.2.2.1 (lawF high N O).length p.2.2.2]),(38,.agg #[.int .i64 low,.slice A1 N.length c1,.slice A2 O.length c2,.slice p.2.1.1 (lawF low N O).length p.2.1.2,.int .i64 high,.slice A1 N.length c1,.slice A2 O.length c2,.slice p.2.2.1 (lawF high N O).length p.2.2.2]),(8,.pointer (some ⟨p.1,0,none⟩))]) (fun p W=>EnW w1 (lawF low N O) (lawF high N O) p.1 p.2.1.1 p.2.2.1 p.2.1.2 p.2.2.2 W) ?cont ?h
 case h=>
  intro hj;refine two_ (i:=2) (j:=7) (Ni:=some 34) (Nj:=some 8) (bl 9 31) (bl 9 155) rfl rfl rfl rfl (by kernel_rfl) (by decide) (by decide) (fun K hK=>?_) (fun K hK=>?_)
  ·refine call_ 61 #[.agg #[.int .i64 I,.slice A1 N.length c1,.slice A2 O.length c2],.int .i64 low] (by rfl) rfl ?_ ?_
   ·have he:=enters_ Tryz.func61 (by kernel_rfl) rfl #[.agg #[.int .i64 I,.slice A1 N.length c1,.slice A2 O.length c2],.int .i64 low] w1.drew;unfold execOp;simp[resolve,Deferred.ofValue,invoke,Act.eval,he]
   refine(CW.out w1.drew low HBd.out).mono ?_;rintro e w5 ⟨Al,cl,rfl,hR,hb⟩;have HB5:=aM (below_step HBd.out hb);have HL5:Aside0 (OwnI w5 w1.heap.size (.slice Al (lawF low N O).length cl) (lawF low N O)):=⟨hR⟩;clear hR;refine⟨_,rfl,?_⟩;refine hK.out _ _ (hSd.out _ HB5.out) (fun hHeld=>?_);clear hK K hb hHeld;refine nm ?_;refine two_ (i:=5) (j:=7) (Ni:=some 37) (Nj:=some 8) (bl 9 63) (bl 9 159) rfl rfl rfl rfl (by kernel_rfl) (by decide) (by decide) (fun K hK=>?_) (fun K hK=>?_)
   ·refine call_ 61 #[.agg #[.int .i64 I,.slice A1 N.length c1,.slice A2 O.length c2],.int .i64 high] (by rfl) rfl ?_ ?_
    ·have he:=enters_ Tryz.func61 (by kernel_rfl) rfl #[.agg #[.int .i64 I,.slice A1 N.length c1,.slice A2 O.length c2],.int .i64 high] w5;unfold execOp;simp[resolve,Deferred.ofValue,invoke,Act.eval,he]
    refine(CW.out w5 high HB5.out).mono ?_;rintro e w6 ⟨Ah,ch,rfl,hR,hb⟩;have HB6:=aM (below_step HB5.out hb);have HL6:=aM (Kd.R_below HL5.out hb);have HH6:Aside0 (OwnI w6 w5.heap.size (.slice Ah (lawF high N O).length ch) (lawF high N O)):=⟨hR⟩;clear hR;refine⟨_,rfl,?_⟩;refine hK.out _ _ (hSd.out _ HB6.out) (fun hHeld=>?_);clear hK K hb hHeld;refine nm ?_;refine pure_ (i:=6) (N:=(some 38)) (v:=?_) (a':=?_) (bl 9 127) rfl rfl (by kernel_rfl) (fun _ _ _ h=>h) (Or.inl ⟨by rfl,?_⟩) ?_ ?_;rotate_left
    ·intro w'
     go_simp
     with_reducible rfl
    rotate_left
    ·simp only[Act.put,List.setIfInBounds_toArray,List.set_cons_zero,List.set_cons_succ,i64_w,i32_w]
     rfl
    refine one_ (i:=7) (N:=some 8) (bl 9 255) rfl rfl (by kernel_rfl) (by decide) (fun K hK=>?_);refine value_ (v:=.pointer (some ⟨w6.heap.size,0,none⟩)) (w1:=w6.alloc (.cells zero8 117)) (by rfl) rfl ?_ ?_
    ·go_simp
    refine hK.out _ _ (hSd.out _ (HB6.out.alloc HB6.out.size _)) (fun hHeld=>?_);clear hK K hHeld;refine nm ?_;refine norm_ ?_ (hj (w6.heap.size,(Al,cl),(Ah,ch)) _ ⟨?_,blk_new _ _,?_,?_,?_,?_,?_⟩)
    ·rfl
    ·exact HB6.out.alloc HB6.out.size _
    ·exact HB6.out.size
    ·exact Kd.R_alloc HL6.out _
    ·exact Kd.R_alloc (Kd.R_lower HH6.out HB5.out.size) _
    ·exact fun e=>by have:=(OwnI.blk HL6.out e).2;omega
    ·exact fun e=>by have:=(OwnI.blk HH6.out e).2;omega
   ·refine value_ (v:=.pointer (some ⟨w5.heap.size,0,none⟩)) (w1:=w5.alloc (.cells zero8 117)) (by rfl) rfl ?_ ?_
    ·go_simp
    refine hK.out _ _ (hSd.out _ (HB5.out.alloc HB5.out.size _)) (fun hHeld=>?_);clear hK K hHeld;refine nm ?_;refine one_ (i:=5) (N:=some 37) (bl 9 191) rfl rfl (by kernel_rfl) (by decide) (fun K hK=>?_);refine call_ 61 #[.agg #[.int .i64 I,.slice A1 N.length c1,.slice A2 O.length c2],.int .i64 high] (by rfl) rfl ?_ ?_
    ·have he:=enters_ Tryz.func61 (by kernel_rfl) rfl #[.agg #[.int .i64 I,.slice A1 N.length c1,.slice A2 O.length c2],.int .i64 high] (w5.alloc (.cells zero8 117));unfold execOp;simp[resolve,Deferred.ofValue,invoke,Act.eval,he]
    refine(CW.out (w5.alloc (.cells zero8 117)) high (HB5.out.alloc HB5.out.size _)).mono ?_;rintro e w6 ⟨Ah,ch,rfl,hR,hb⟩;have HB6:=aM (below_step (HB5.out.alloc HB5.out.size (.cells zero8 117)) hb);have HK6:=aM hb;have HL6:=aM (Kd.R_below (Kd.R_alloc HL5.out (.cells zero8 117)) hb);have HX6:=aM (blk_new w5 (.cells zero8 117));have HH6:Aside0 (OwnI w6 (w5.alloc (.cells zero8 117)).heap.size (.slice Ah (lawF high N O).length ch) (lawF high N O)):=⟨hR⟩;clear hR;refine⟨_,rfl,?_⟩;refine hK.out _ _ (hSd.out _ HB6.out) (fun hHeld=>?_);clear hK K hb hHeld;refine nm ?_;refine pure_ (i:=6) (N:=(some 38)) (v:=?_) (a':=?_) (bl 9 255) rfl rfl (by kernel_rfl) (fun _ _ _ h=>h) (Or.inl ⟨by rfl,?_⟩) ?_ ?_;rotate_left
    ·intro w'
     go_simp
     with_reducible rfl
    rotate_left
    ·simp only[Act.put,List.setIfInBounds_toArray,List.set_cons_zero,List.set_cons_succ,i64_w,i32_w]
     rfl
    refine norm_ ?_ (hj (w5.heap.size,(Al,cl),(Ah,ch)) _ ⟨?_,?_,?_,?_,?_,?_,?_⟩)
    ·rfl
    ·exact HB6.out
    ·exact blk_below HX6.out HK6.out
    ·exact HB5.out.size
    ·exact HL6.out
    ·exact Kd.R_lower HH6.out (by rw[World.size_alloc];have:=HB5.out.size;omega)
    ·exact fun e=>by have:=(OwnI.blk HL5.out e).2;omega
    ·exact fun e=>by have:=(OwnI.blk HH6.out e).1;rw[World.size_alloc] at this;omega
  ·refine value_ (v:=.pointer (some ⟨w1.heap.size,0,none⟩)) (w1:=w1.drew.alloc (.cells zero8 117)) (by rfl) rfl ?_ ?_
   ·go_simp
   refine hK.out _ _ (hSd.out _ (HBd.out.alloc HBd.out.size _)) (fun hHeld=>?_);clear hK K hHeld;refine nm ?_;refine one_ (i:=2) (N:=some 34) (bl 9 159) rfl rfl (by kernel_rfl) (by decide) (fun K hK=>?_);refine call_ 61 #[.agg #[.int .i64 I,.slice A1 N.length c1,.slice A2 O.length c2],.int .i64 low] (by rfl) rfl ?_ ?_
   ·have he:=enters_ Tryz.func61 (by kernel_rfl) rfl #[.agg #[.int .i64 I,.slice A1 N.length c1,.slice A2 O.length c2],.int .i64 low] (w1.drew.alloc (.cells zero8 117));unfold execOp;simp[resolve,Deferred.ofValue,invoke,Act.eval,he]
   refine(CW.out (w1.drew.alloc (.cells zero8 117)) low (HBd.out.alloc HBd.out.size _)).mono ?_;rintro e w5 ⟨Al,cl,rfl,hR,hb⟩;have HB5:=aM (below_step (HBd.out.alloc HBd.out.size (.cells zero8 117)) hb);have HX5:=aM (blk_below (blk_new w1.drew (.cells zero8 117)) hb);have HZ5:Aside0 (w1.heap.size<w5.heap.size):=⟨by have h1:=hb.size;rw[World.size_alloc] at h1;have h2:w1.drew.heap.size=w1.heap.size:=rfl;omega⟩;have HLZ:Aside0 (∀ {k},(Value.slice Al (lawF low N O).length cl).ownBlock=some k->w1.heap.size<k):=⟨fun e=>by have h1:=(OwnI.blk hR e).1;rw[World.size_alloc] at h1;have h2:w1.drew.heap.size=w1.heap.size:=rfl;omega⟩;have HL5:Aside0 (OwnI w5 w1.heap.size (.slice Al (lawF low N O).length cl) (lawF low N O)):=⟨Kd.R_lower hR (by rw[World.size_alloc];have h2:w1.drew.heap.size=w1.heap.size:=rfl;omega)⟩;clear hR;refine⟨_,rfl,?_⟩;refine hK.out _ _ (hSd.out _ HB5.out) (fun hHeld=>?_);clear hK K hb hHeld;refine nm ?_;refine one_ (i:=5) (N:=some 37) (bl 9 191) rfl rfl (by kernel_rfl) (by decide) (fun K hK=>?_);refine call_ 61 #[.agg #[.int .i64 I,.slice A1 N.length c1,.slice A2 O.length c2],.int .i64 high] (by rfl) rfl ?_ ?_
   ·have he:=enters_ Tryz.func61 (by kernel_rfl) rfl #[.agg #[.int .i64 I,.slice A1 N.length c1,.slice A2 O.length c2],.int .i64 high] w5;unfold execOp;simp[resolve,Deferred.ofValue,invoke,Act.eval,he]
   refine(CW.out w5 high HB5.out).mono ?_;rintro e w6 ⟨Ah,ch,rfl,hR,hb⟩;have HB6:=aM (below_step HB5.out hb);have HK6:=aM hb;have HL6:=aM (Kd.R_below HL5.out hb);have HH6:Aside0 (OwnI w6 w5.heap.size (.slice Ah (lawF high N O).length ch) (lawF high N O)):=⟨hR⟩;clear hR;refine⟨_,rfl,?_⟩;refine hK.out _ _ (hSd.out _ HB6.out) (fun hHeld=>?_);clear hK K hb hHeld;refine nm ?_;refine pure_ (i:=6) (N:=(some 38)) (v:=?_) (a':=?_) (bl 9 255) rfl rfl (by kernel_rfl) (fun _ _ _ h=>h) (Or.inl ⟨by rfl,?_⟩) ?_ ?_;rotate_left
   ·intro w'
    go_simp
    with_reducible rfl
   rotate_left
   ·simp only[Act.put,List.setIfInBounds_toArray,List.set_cons_zero,List.set_cons_succ,i64_w,i32_w]
    rfl
   refine norm_ ?_ (hj (w1.heap.size,(Al,cl),(Ah,ch)) _ ⟨?_,?_,?_,?_,?_,?_,?_⟩)
   ·rfl
   ·exact HB6.out
   ·exact blk_below HX5.out HK6.out
   ·exact Nat.le_refl _
   ·exact HL6.out
   ·exact Kd.R_lower HH6.out (by exact HB5.out.size)
   ·exact fun e=>by have h1:=(HLZ.out e);omega
   ·exact fun e=>by have h1:=(OwnI.blk HH6.out e).1;have h2:=HZ5.out;omega
 case cont=>
  rintro⟨b,⟨Al,cl⟩,⟨Ah,ch⟩⟩ W1 hF;replace hF:EnW w1 (lawF low N O) (lawF high N O) b Al Ah cl ch W1:=hF;have x0:W1.cell? ⟨b,0,none⟩=some (.int .i64 0):=(blk_cell hF.x 0).trans rfl;have f0:W1.frozen? ⟨b,0,none⟩=false:=blk_frozen hF.x 0;have x1:W1.cell? ⟨b,1,none⟩=some (.slice none 0 0):=(blk_cell hF.x 1).trans rfl;have f1:W1.frozen? ⟨b,1,none⟩=false:=blk_frozen hF.x 1;have x2:W1.cell? ⟨b,2,none⟩=some (.slice none 0 0):=(blk_cell hF.x 2).trans rfl;have f2:W1.frozen? ⟨b,2,none⟩=false:=blk_frozen hF.x 2;have x3:W1.cell? ⟨b,3,none⟩=some (.slice none 0 0):=(blk_cell hF.x 3).trans rfl;have f3:W1.frozen? ⟨b,3,none⟩=false:=blk_frozen hF.x 3;have x4:W1.cell? ⟨b,4,none⟩=some (.int .i64 0):=(blk_cell hF.x 4).trans rfl;have f4:W1.frozen? ⟨b,4,none⟩=false:=blk_frozen hF.x 4;have x5:W1.cell? ⟨b,5,none⟩=some (.slice none 0 0):=(blk_cell hF.x 5).trans rfl;have f5:W1.frozen? ⟨b,5,none⟩=false:=blk_frozen hF.x 5;have x6:W1.cell? ⟨b,6,none⟩=some (.slice none 0 0):=(blk_cell hF.x 6).trans rfl;have f6:W1.frozen? ⟨b,6,none⟩=false:=blk_frozen hF.x 6;have x7:W1.cell? ⟨b,7,none⟩=some (.slice none 0 0):=(blk_cell hF.x 7).trans rfl;have f7:W1.frozen? ⟨b,7,none⟩=false:=blk_frozen hF.x 7;have HF:=aM hF;clear hF
  dsimp only[putAll]
  refine nm ?_;refine last_ (i:=8) (N:=none) (bl 9 511) rfl rfl (by kernel_rfl) (by decide) (fun K hK=>?_);refine skip_ (w1:=set8 W1 b (.int .i64 low) (.slice A1 N.length c1) (.slice A2 O.length c2) (.slice Al (lawF low N O).length cl) (.int .i64 high) (.slice A1 N.length c1) (.slice A2 O.length c2) (.slice Ah (lawF high N O).length ch)) (by rfl) rfl ?_ ?_
  ·unfold set8
   go_simp
  refine hK.out _ _ ?_;clear hK K;refine done_ (by kernel_rfl) ?_
  have HSW:Aside0 (SpW w I low high A1 A2 c1 c2 N O b Al Ah cl ch (set8 W1 b (.int .i64 low) (.slice A1 N.length c1) (.slice A2 O.length c2) (.slice Al (lawF low N O).length cl) (.int .i64 high) (.slice A1 N.length c1) (.slice A2 O.length c2) (.slice Ah (lawF high N O).length ch))):=⟨by
   have hkb:=set8_kb W1 b (.int .i64 low) (.slice A1 N.length c1) (.slice A2 O.length c2) (.slice Al (lawF low N O).length cl) (.int .i64 high) (.slice A1 N.length c1) (.slice A2 O.length c2) (.slice Ah (lawF high N O).length ch);have hw:=blk_lt HT1.out;have h1:=OwnI.kb HF.out.lo hkb (fun k e hk=>HF.out.nl (by rw[e,hk]));have h2:=OwnI.kb HF.out.hi hkb (fun k e hk=>HF.out.nh (by rw[e,hk]));obtain⟨_,_,e1,l1,r1⟩:=Kd.R_reads h1
   cases e1
   obtain⟨_,_,e2,l2,r2⟩:=Kd.R_reads h2
   cases e2
   refine⟨(below_step HB1.out HF.out.hb).trans (hkb.below (below_step HB1.out HF.out.hb).size (fun k hk e=>by have:=HF.out.ge;omega)),hkb.at (blk_below HT1.out HF.out.hb) (fun e=>by have:=HF.out.ge;omega),set8_blk HF.out.x _ _ _ _ _ _ _ _,⟨r1,l1⟩,⟨r2,l2⟩⟩⟩
  generalize set8 W1 b (.int .i64 low) (.slice A1 N.length c1) (.slice A2 O.length c2) (.slice Al (lawF low N O).length cl) (.int .i64 high) (.slice A1 N.length c1) (.slice A2 O.length c2) (.slice Ah (lawF high N O).length ch)=W2 at HSW⊢;clear x0 f0 x1 f1 x2 f2 x3 f3 x4 f4 x5 f5 x6 f6 x7 f7 HF HB1 HT1 CW hSd HBd CT CL CH;(try simp only[Exit.then]);have y2:W2.cell? ⟨w.heap.size,2,none⟩=some (.slice A2 O.length c2):=(blk_cell HSW.out.t 2).trans rfl;go_wp2;clear y2
  go_loopg [9,42] O.length (fun kq v9 v42 w'=>∃j:Nat,v42=.int .i64 (j:Int)∧Aside0 (j+kq=O.length)∧Aside0 (Kd.R kSp 91 w' W2.heap.size (fun _=>True) v9 (spansF (lawF low N O) (lawF high N O) j))∧Aside0 (Below W2.heap.size W2 w'))
  case atStart=>exact⟨0,rfl,⟨by omega⟩,⟨Kd.R_nil _ _ _ _ _⟩,⟨Below.refl _ _⟩⟩
  case round=>
   have HS2:=HSW;clear HSW;obtain⟨j,rfl,HJ,HR,HB2⟩:=hrel;have HSW:=aM (HS2.out.below HB2.out);obtain⟨A9,c9,e9⟩:=Kd.R_slice HR.out;subst e9
   cases gk with
   |zero=>
    have c3:decide ((j:Int)<(O.length:Int))=false:=decide_eq_false (by have:=HJ.out;omega);have c4:¬(j<O.length):=by have:=HJ.out;omega
    have hjj:O.length=j:=by have:=HJ.out;omega
    go_wp2
    go_ret2
    refine⟨_,rfl,?_,HSW.out.hb⟩;have:=Kd.R_lower HR.out HS2.out.hb.size;rw[hjj];exact this
   |succ k2=>
    have hjn:j<O.length:=by have:=HJ.out;omega
    have c3:decide ((j:Int)<(O.length:Int))=true:=decide_eq_true (by omega);have hw1:wrap64 ((j:Int)+1)=((j+1:Nat):Int):=by rw[IntWalk.wrap64_in _ (by omega)];omega
    have HW1:=aM hw1;clear hw1
    go_upto_region 9 with(fail)
    clear c3;obtain⟨p,hp⟩:∃p,wr.heap.size=p:=⟨_,rfl⟩;(try rw[hp]);generalize hW3:World.alloc wr _=W3;have HB3:Aside0 (Below wr.heap.size wr W3∧wr.heap.size=p):=⟨by rw[← hW3];exact(Below.refl _ _).alloc (Nat.le_refl _) _,hp⟩;have HP3:Aside0 (W3.heap[p]? =some (.cells #[.int .i64 0,.int .i64 0] 118 (0,0))):=⟨by rw[← hW3,←hp];exact blk_new _ _⟩;have HS3:=aM (HSW.out.below HB3.out.1);clear hW3 hp;have x0:W3.cell? ⟨b,0,none⟩=some (.int .i64 low):=(blk_cell HS3.out.e 0).trans rfl;have x1:W3.cell? ⟨b,1,none⟩=some (.slice A1 N.length c1):=(blk_cell HS3.out.e 1).trans rfl;have x2:W3.cell? ⟨b,2,none⟩=some (.slice A2 O.length c2):=(blk_cell HS3.out.e 2).trans rfl;have x3:W3.cell? ⟨b,3,none⟩=some (.slice Al (lawF low N O).length cl):=(blk_cell HS3.out.e 3).trans rfl;have x4:W3.cell? ⟨b,4,none⟩=some (.int .i64 high):=(blk_cell HS3.out.e 4).trans rfl;have x5:W3.cell? ⟨b,5,none⟩=some (.slice A1 N.length c1):=(blk_cell HS3.out.e 5).trans rfl;have x6:W3.cell? ⟨b,6,none⟩=some (.slice A2 O.length c2):=(blk_cell HS3.out.e 6).trans rfl;have x7:W3.cell? ⟨b,7,none⟩=some (.slice Ah (lawF high N O).length ch):=(blk_cell HS3.out.e 7).trans rfl;go_wp2;clear x0 x1 x2 x3 x4 x5 x6 x7
    have CE:Aside0 (∀ W,Below wr.heap.size wr W->Calls Tryz.prog 94 #[.agg #[.int .i64 low,.slice A1 N.length c1,.slice A2 O.length c2,.slice Al (lawF low N O).length cl,.int .i64 high,.slice A1 N.length c1,.slice A2 O.length c2,.slice Ah (lawF high N O).length ch],.int .i64 (j:Int)] W fun e w'=>e=.returned (.int .i64 (rd (lawF low N O) (j:Int)))∧Below W.heap.size W w'):=⟨fun W hb=>by
     have hs:=HSW.out.below hb
     exact d7_ends_least.calls low A1 c1 N A2 c2 O Al cl (lawF low N O) high A1 c1 N A2 c2 O Ah ch (lawF high N O) (j:Int) _ W (Kd.C_below H.out.r1 hs.hb) H.out.l1 (Kd.C_below H.out.r2 hs.hb) H.out.l2 hs.lo.1 hs.lo.2 (Kd.C_below H.out.r1 hs.hb) H.out.l1 (Kd.C_below H.out.r2 hs.hb) H.out.l2 hs.hi.1 hs.hi.2 (by unfold d7_ends_least.f;rw[if_pos (by omega),if_pos (by have:=HLL.out.1;omega)])⟩
    have CG:Aside0 (∀ W,Below wr.heap.size wr W->Calls Tryz.prog 95 #[.agg #[.int .i64 low,.slice A1 N.length c1,.slice A2 O.length c2,.slice Al (lawF low N O).length cl,.int .i64 high,.slice A1 N.length c1,.slice A2 O.length c2,.slice Ah (lawF high N O).length ch],.int .i64 (j:Int)] W fun e w'=>e=.returned (.int .i64 (rd (lawF high N O) (j:Int)))∧Below W.heap.size W w'):=⟨fun W hb=>by
     have hs:=HSW.out.below hb
     exact d7_ends_greatest.calls low A1 c1 N A2 c2 O Al cl (lawF low N O) high A1 c1 N A2 c2 O Ah ch (lawF high N O) (j:Int) _ W (Kd.C_below H.out.r1 hs.hb) H.out.l1 (Kd.C_below H.out.r2 hs.hb) H.out.l2 hs.lo.1 hs.lo.2 (Kd.C_below H.out.r1 hs.hb) H.out.l1 (Kd.C_below H.out.r2 hs.hb) H.out.l2 hs.hi.1 hs.hi.2 (by unfold d7_ends_greatest.f;rw[if_pos (by omega),if_pos (by have:=HLL.out.2;omega)])⟩
    obtain⟨rl,hrl⟩:∃rl,rd (lawF low N O) (j:Int)=rl:=⟨_,rfl⟩;obtain⟨rh,hrh⟩:∃rh,rd (lawF high N O) (j:Int)=rh:=⟨_,rfl⟩;have HRR:=aM (And.intro hrl hrh);rw[hrl] at CE;rw[hrh] at CG;clear hrl hrh;obtain⟨wO,rfl⟩:∃wO:World,wO=wr:=⟨_,rfl⟩
    go_loopg [50] 2 (fun kq v50 w'=>∃i:Nat,v50=.int .i64 (i:Int)∧Aside0 (i+kq=2)∧Aside0 (Below wO.heap.size wO w')∧Aside0 (w'.heap[p]? =some (.cells #[.int .i64 (if 0<i then rl else 0),.int .i64 (if 1<i then rh else 0)] 118 (0,0))))
    case atStart=>exact⟨0,rfl,⟨by omega⟩,⟨HB3.out.1⟩,HP3⟩
    case round=>
     obtain⟨i,rfl,HI,HW,HP⟩:=hrel
     cases gk with
     |zero=>
      obtain rfl:i=2:=by have:=HI.out;omega
      have hp:=HP.out;rw[if_pos (by omega),if_pos (by omega)] at hp;have z0:wr.cell? ⟨p,0,none⟩=some (.int .i64 rl):=(blk_cell hp 0).trans rfl;have z1:wr.cell? ⟨p,1,none⟩=some (.int .i64 rh):=(blk_cell hp 1).trans rfl;have HSE:Aside0 (spansF (lawF low N O) (lawF high N O) (j+1)=spansF (lawF low N O) (lawF high N O) j++[⟨rl,rh⟩]):=⟨by rw[spans_succ,HRR.out.1,HRR.out.2]⟩;have HRW:=aM (Kd.R_below HR.out HW.out);have HBW:Aside0 (Below W2.heap.size W2 wr):=⟨below_step HB2.out HW.out⟩;clear hp HP
      go_upto_region 15 with(first|((with_reducible refine gate_builtin (b:=.append) (xs:=#[.tmp 60,.tmp 66]) rfl ?_);at_builtin;(refine Kd.R_append kSp (w0:=W2) W2.heap.size rfl (.tmp 60) (.tmp 66) 84 91 (.agg #[.int .i64 0,.int .i64 0]) 16 rfl Tryz.underlying84 info91 rfl (by decide) (by omega) (.slice A9 (spansF (lawF low N O) (lawF high N O) j).length c9) (spansF (lawF low N O) (lawF high N O) j) ⟨rl,rh⟩ [.int .i64 rl,.int .i64 rh] (fun _=>True) (fun _=>False) rfl rfl ?aP (fun _ hk=>hk.elim) ?aF ?aO ?aB ?aS ?aL ?_);(case aP=>exact k91_mkM _ _ _ ⟨rl,rh⟩);(case aB=>exact HBW.out);(case aF=>exact(fun _ _=>trivial));(case aO=>exact HRW.out);(case aS=>exact HBW.out.size);(case aL=>rw[spans_len];omega);intro vA wA ho hbA hgA hatA))
      have HOA:=aM ho;have HBA:=aM hbA;clear ho hbA hgA hatA z0 z1;have hw1:=HW1.out;go_wp2
      go_roundg k2
      case measure=>omega
      case rel=>exact⟨j+1,(by first|rfl|rw[hw1]|(rw [Int.natCast_add];rfl)),⟨by have:=HJ.out;omega⟩,⟨by rw[HSE.out];exact HOA.out⟩,HBA⟩
     |succ k3=>
      have hi:i=0∧k3=1∨i=1∧k3=0:=by have:=HI.out;omega
      have f0:wr.frozen? ⟨p,0,none⟩=false:=blk_frozen HP.out 0;have hix0:∀(f0 f1:Value) (W:World),(Instr.index 120 (.agg #[f0,f1]) (.int .i64 ((0:Nat):Int))).run Tryz.prog W=.ok f0 W:=fun f0 f1 W=>by kernel_rfl
      have hix1:∀(f0 f1:Value) (W:World),(Instr.index 120 (.agg #[f0,f1]) (.int .i64 ((1:Nat):Int))).run Tryz.prog W=.ok f1 W:=fun f0 f1 W=>by kernel_rfl
      have hix2:∀(f0 f1:Value) (W:World),(Instr.index 120 (.agg #[f0,f1]) (.int .i64 0)).run Tryz.prog W=.ok f0 W:=fun f0 f1 W=>by kernel_rfl
      have hix3:∀(f0 f1:Value) (W:World),(Instr.index 120 (.agg #[f0,f1]) (.int .i64 1)).run Tryz.prog W=.ok f1 W:=fun f0 f1 W=>by kernel_rfl
      rcases hi with⟨rfl,rfl⟩|⟨rfl,rfl⟩
      ·have hp:=HP.out;rw[if_neg (by omega),if_neg (by omega)] at hp;clear f0 HP
       go_wp2_with fail
       refine(CE.out _ HW.out).mono ?_;rintro e w6 ⟨rfl,hb6⟩;have HP6:=aM (blk_below hp hb6);have HB6:Aside0 (Below wO.heap.size wO w6):=⟨below_step HW.out hb6⟩;have z0:w6.cell? ⟨p,0,none⟩=some (.int .i64 0):=(blk_cell HP6.out 0).trans rfl;have f0:w6.frozen? ⟨p,0,none⟩=false:=blk_frozen HP6.out 0;clear hp hb6;go_wp2
       go_roundg 1
       case measure=>omega
       case rel=>exact⟨1,rfl,⟨rfl⟩,⟨HB6.out.setCell (by have:=HB3.out.2;show wO.heap.size≤p;omega) _⟩,⟨by have:=blk_set HP6.out 0 (.int .i64 rl);simpa using this⟩⟩
      ·have hp:=HP.out;rw[if_pos (by omega),if_neg (by omega)] at hp;clear f0 HP
       go_wp2_with fail
       refine(CG.out _ HW.out).mono ?_;rintro e w6 ⟨rfl,hb6⟩;have HP6:=aM (blk_below hp hb6);have HB6:Aside0 (Below wO.heap.size wO w6):=⟨below_step HW.out hb6⟩;have z0:w6.cell? ⟨p,1,none⟩=some (.int .i64 0):=(blk_cell HP6.out 1).trans rfl;have f0:w6.frozen? ⟨p,1,none⟩=false:=blk_frozen HP6.out 1;clear hp hb6;go_wp2
       go_roundg 0
       case measure=>omega
       case rel=>exact⟨2,rfl,⟨rfl⟩,⟨HB6.out.setCell (by have:=HB3.out.2;show wO.heap.size≤p;omega) _⟩,⟨by have:=blk_set HP6.out 1 (.int .i64 rh);simpa using this⟩⟩
def spansR (I:Int) (N:List SN) (O:List SO) (low high:Int):List SSp×Int:=if(treeB I N O&&inB low 0 200&&inB high 0 200&&!decide (high<low))=true then(spansF (lawF low N O) (lawF high N O) O.length,0) else([],2)
set_option maxRecDepth 100000 in
set_option maxHeartbeats 1000000 in
theorem spans_bad {w:World} {I low high:Int} {A1 A2:Option Addr} {c1 c2:Nat} {N:List SN} {O:List SO} (r1:Kd.C k77 w A1 N.length N) (l1:N.length≤c1) (r2:Kd.C k51 w A2 O.length O) (l2:O.length≤c2) (hl1:N.length≤9223372036854775807) (hl2:O.length≤9223372036854775807) (hn:(treeB I N O&&inB low 0 200&&inB high 0 200&&!decide (high<low))=false):
  Calls Tryz.prog 54 #[.agg #[.int .i64 I,.slice A1 N.length c1,.slice A2 O.length c2],.int .i64 low,.int .i64 high] w fun e w'=>e=.returned (.tuple #[.slice none 0 0,.int .i64 2])∧Below w.heap.size w w':=by
 have hu1:=Tryz.underlying25;obtain⟨tb,htb⟩:∃tb,treeB I N O=tb:=⟨_,rfl⟩;obtain⟨lb,hlb⟩:∃lb,inB low 0 200=lb:=⟨_,rfl⟩;obtain⟨hb,hhb⟩:∃hb,inB high 0 200=hb:=⟨_,rfl⟩;obtain⟨db,hdb⟩:∃db,decide (high<low)=db:=⟨_,rfl⟩;rw[htb,hlb,hhb,hdb] at hn
 have CT:Aside0 (∀ W,Below w.heap.size w W->Calls Tryz.prog 59 #[.agg #[.int .i64 I,.slice A1 N.length c1,.slice A2 O.length c2]] W fun e w'=>e=.returned (.bool tb)∧Below W.heap.size W w'):=⟨fun W hb=>
  d7_isTree.calls I A1 c1 N A2 c2 O tb W (Kd.C_below r1 hb) l1 (Kd.C_below r2 hb) l2 (by unfold d7_isTree.f;rw[if_pos ⟨hl1,hl2⟩,htb])⟩
 have CL:Aside0 (∀ W,Calls Tryz.prog 93 #[.int .i64 low] W fun e w'=>e=.returned (.bool lb)∧W=w'):=⟨fun W=>(isCups_any low W).mono (fun e w' he=>⟨by rw[he.1,hlb],he.2⟩)⟩;have CH:Aside0 (∀ W,Calls Tryz.prog 93 #[.int .i64 high] W fun e w'=>e=.returned (.bool hb)∧W=w'):=⟨fun W=>(isCups_any high W).mono (fun e w' he=>⟨by rw[he.1,hhb],he.2⟩)⟩;clear r1 l1 r2 l2 hl1 hl2 htb hlb hhb
 have hcase:tb=false∨(tb=true∧lb=false)∨(tb=true∧lb=true∧hb=false)∨(tb=true∧lb=true∧hb=true∧db=true):=by
  cases tb<;>cases lb<;>cases hb<;>cases db<;>simp at hn⊢
 clear hn
 go_enter Tryz.func54,Tryz.ntmps54
 go_upto_region 1 with(fail)
 generalize hW0:World.alloc w _=W0;have HB0:Aside0 (Below w.heap.size w W0):=⟨by rw[← hW0];exact(Below.refl _ _).alloc (Nat.le_refl _) _⟩;have HT0:Aside0 (W0.heap[w.heap.size]? =some (.cells #[.int .i64 I,.slice A1 N.length c1,.slice A2 O.length c2] 25 (0,0))):=⟨by rw[← hW0];exact blk_new _ _⟩;clear hW0;have y0:W0.cell? ⟨w.heap.size,0,none⟩=some (.int .i64 I):=(blk_cell HT0.out 0).trans rfl;have y1:W0.cell? ⟨w.heap.size,1,none⟩=some (.slice A1 N.length c1):=(blk_cell HT0.out 1).trans rfl;have y2:W0.cell? ⟨w.heap.size,2,none⟩=some (.slice A2 O.length c2):=(blk_cell HT0.out 2).trans rfl;have CT0:=aM (CT.out _ HB0.out)
 rcases hcase with rfl|⟨rfl,rfl⟩|⟨rfl,rfl,rfl⟩|⟨rfl,rfl,rfl,rfl⟩
 all_goals
  go_wp2_with (first|(go_at_call 59;refine CT0.out.mono ?_;rintro e w1 ⟨rfl,hb1⟩)|(go_at_call 93;refine(CL.out _).mono ?_;rintro e w2 ⟨rfl,rfl⟩)|(go_at_call 93;refine(CH.out _).mono ?_;rintro e w2 ⟨rfl,rfl⟩))
  go_ret2
  exact⟨rfl,below_step HB0.out hb1⟩
def d7_Spans.f (a0_0:Int) (l0_1:List SN) (l0_2:List SO) (a1 a2:Int):Option (List SSp×Int):=if l0_1.length≤9223372036854775807∧l0_2.length≤9223372036854775807 then some (spansR a0_0 l0_1 l0_2 a1 a2) else none
theorem d7_Spans.calls (a0_0:Int) (A0_1:Option Addr) (c0_1:Nat) (l0_1:List SN) (A0_2:Option Addr) (c0_2:Nat) (l0_2:List SO) (a1:Int) (a2:Int) (r1:List SSp) (r2:Int) (w:World) (hr0_1:Kd.C k77 w A0_1 l0_1.length l0_1) (hc0_1:l0_1.length≤c0_1) (hr0_2:Kd.C k51 w A0_2 l0_2.length l0_2) (hc0_2:l0_2.length≤c0_2) (h:d7_Spans.f a0_0 l0_1 l0_2 a1 a2=some (r1,r2)):
  Calls Tryz.prog 54 #[.agg #[.int .i64 a0_0,.slice A0_1 l0_1.length c0_1,.slice A0_2 l0_2.length c0_2],.int .i64 a1,.int .i64 a2] w fun e w'=>∃v0_:Value,e=.returned (.tuple #[v0_,.int .i64 r2])∧Kd.R kSp 91 w' w.heap.size (fun _=>True) v0_ r1∧Below w.heap.size w w':=by
 unfold d7_Spans.f at h
 split at h
 ·rename_i hp
  have h:=Option.some.inj h;unfold spansR at h
  split at h
  ·rename_i hb
   obtain⟨rfl,rfl⟩:=Prod.mk.inj h;simp only[Bool.and_eq_true,Bool.not_eq_true',decide_eq_false_iff_not] at hb;have hk:=tree_ok hb.1.1.1;exact spans_any ⟨hk.n,hk.o,by have:=hk.nl;omega,by have:=hk.ol;omega,hr0_1,hc0_1,hr0_2,hc0_2⟩ hb.1.1.1 hb.1.1.2 hb.1.2 hb.2
  ·rename_i hb
   obtain⟨rfl,rfl⟩:=Prod.mk.inj h;refine(spans_bad hr0_1 hc0_1 hr0_2 hc0_2 hp.1 hp.2 (Bool.eq_false_iff.2 hb)).mono ?_;rintro e w' ⟨rfl,hb2⟩;exact⟨_,rfl,Kd.R_nil _ _ _ _ _,hb2⟩
 ·cases h
end Go.Proofs.YtjioobfeikbffabGreatDoor.K
end
section
namespace Go.Proofs.YtjioobfeikbffabGreatDoor.K
open Go.RowKit Go.Proofs.Zw Go.Proofs.Zl Go.Proofs.Zm
def IntsB (w:World) (b n:Nat) (f:Int->Bool):Prop:=
  ∃D:DataW Unit,w.ownsMap Tryz.prog 3 (plainElem Tryz.prog 4) b n D∧Maps.IsMap D∧∀y:Int,D.atKey (.int .i64 y) (.lit (.bool false))=.lit (.bool (f y))
theorem ints_made (w:World):IntsB (w.alloc (.map #[] 0)) w.heap.size 0 (fun _=>false):=
  ⟨.map [],World.ownsMap_made w _ _ _,Maps.isMap_empty,fun y=>rfl⟩
theorem IntsB.kept {w w1:World} {b n:Nat} {f:Int->Bool} {row:Option Nat} (h:IntsB w b n f) (hg:w.grownBy w1 row) (hne:some b≠row):IntsB w1 b n f:=by
  obtain⟨D,h1,h2,h3⟩:=h;exact⟨D,h1.kept hg hne,h2,h3⟩
theorem IntsB.lt {w:World} {b n:Nat} {f:Int->Bool} (h:IntsB w b n f):b<w.heap.size:=by
  obtain⟨D,h1,_⟩:=h;exact h1.lt
theorem key_int {y:Int} (h0:0≤y) (h1:y≤1000000):keyOf Tryz.prog 3 (.int .i64 y)=some (.int .i64 y):=Maps.keyOf_int_mk Tryz.underlying3 (by
  show(decide (IntKind.i64.min≤y)&&decide (y≤IntKind.i64.max))=true
  rw[show IntKind.i64.min= -9223372036854775808 from rfl,show IntKind.i64.max=9223372036854775807 from rfl];simp
  omega)
theorem plain_bool_inv {P:Program} {e:TypeId} (he:P.underlying e=some .bool) {x:Bool} {v:Value} {ps:List MemPlace} (h:plainElem (H:=Unit) P e v=some (.lit (.bool x),ps)):v=.bool x:=by
  unfold plainElem at h;rw[he] at h
  cases v<;>simp at h⊢
  exact h.1
theorem ints_lookup {w:World} {b n:Nat} {f:Int->Bool} (h:IntsB w b n f) {y:Int} (h0:0≤y) (h1:y≤1000000):(Instr.lookup 99 (.map (some b)) (.int .i64 y) false).run Tryz.prog w=.ok (.bool (f y)) w:=by
  obtain⟨D,ho,hm,hf⟩:=h;obtain⟨v,ps,hr,hv⟩:=ho.lookup (Maps.int_keyed Tryz.underlying3) Tryz.underlying99 (z:=.bool false) (by kernel_rfl) (plainElem_bool Tryz.underlying4 false) (key_int h0 h1);rw[hf y] at hv;rw[hr,plain_bool_inv Tryz.underlying4 hv]
theorem ints_update {w:World} {b n:Nat} {f:Int->Bool} (h:IntsB w b n f) (hn:n<1000000) {y:Int} (h0:0≤y) (h1:y≤1000000) (x:Bool):
    ∃w',(Instr.mapUpdate 99 (.map (some b)) (.int .i64 y) (.bool x)).run Tryz.prog w=.ok () w'∧IntsB w' b (n+1) (fun z=>if z=y then x else f z)∧w.grownBy w' (some b):=by
  obtain⟨D,ho,hm,hf⟩:=h;obtain⟨w',hr,h2,h3⟩:=ho.update (Maps.int_keyed Tryz.underlying3) Tryz.underlying99 (by unfold maxLen;omega) (key_int h0 h1) (plainElem_bool Tryz.underlying4 x);refine⟨w',hr,⟨_,h2,hm.put _ _,fun z=>?_⟩,h3⟩
  show _=DataW.lit (Lit.bool (if z=y then x else f z))
  by_cases e:z=y
  · subst e;rw[if_pos rfl];exact Maps.atKey_put_same hm (by trivial) _ _
  · rw[if_neg e,Maps.atKey_put_other (by intro hh;injection hh with _ h5;exact e h5)];exact hf z
theorem ints_delete {w:World} {b n:Nat} {f:Int->Bool} (h:IntsB w b n f) {y:Int} (h0:0≤y) (h1:y≤1000000) (ty:TypeId):
    ∃w',(Builtin.delete_ #[99,3] ty #[.map (some b),.int .i64 y]).run Tryz.prog w=.ok (.tuple #[]) w'∧IntsB w' b n (fun z=>if z=y then false else f z)∧w.mapTurned w' b:=by
  obtain⟨D,ho,hm,hf⟩:=h;obtain⟨w',hr,h2,h3⟩:=ho.drop (Maps.int_keyed Tryz.underlying3) Tryz.underlying99 (key_int h0 h1) ty;refine⟨w',hr,⟨_,h2,hm.del _,fun z=>?_⟩,h3⟩
  show _=DataW.lit (Lit.bool (if z=y then false else f z))
  by_cases e:z=y
  · subst e;rw[if_pos rfl];exact Maps.atKey_del_same _
  · rw[if_neg e,Maps.atKey_del_other (by intro hh;injection hh with _ h5;exact e h5)];exact hf z
end Go.Proofs.YtjioobfeikbffabGreatDoor.K
end
section
namespace Go.Proofs.YtjioobfeikbffabGreatDoor.K
open Go.RowKit Go.Shelf Go.Proofs.Zw Go.Proofs.Zl Go.Proofs.Zm
def PredS (q:List Int->Prop) (g:Nat) (lb:Array Value) (p:List Int->Bool) (w:World):Prop:=
  ∀(W:World) (d:List Int) (A:Option Addr) (c:Nat),q d->Below w.heap.size w W->(Kd.int .i64).C W A d.length d->d.length≤c->
    Calls Tryz.prog g (#[.slice A d.length c]++lb) W fun e w'=>e=.returned (.bool (p d))∧Below W.heap.size W w'
set_option maxRecDepth 100000 in
set_option maxHeartbeats 1000000 in
theorem idxPlan (A:Option Addr) (c:Nat) (l:List (List Int)) (g:Nat) (lb:Array Value) (p:List Int->Bool) (w:World) (hr:Kd.C (Kd.slice 3 (Kd.int .i64)) w A l.length l) (hl:l.length≤9223372036854775807)
    (eg:∀args w,(callFunc g args).run Tryz.prog w=.ok (.enter g args) w) {q:List Int->Prop} (hq:∀k:Nat,k<l.length->q (rd_L5 l (k:Int))) (hp:PredS q g lb p w):
    Calls Tryz.prog 129 #[.slice A l.length c,.func (.func g) #[] lb] w fun e w'=>∃i:Int,e=.returned (.int .i64 i)∧Aside0 (decide (0≤i)=l.any p)∧Below w.heap.size w w':=by
  have HR:=aM hr;have HP:=aM hp;clear hr hp
  go_enter Tryz.func129,Tryz.ntmps129
  go_wp2
  go_loopg [8] l.length (fun gg s8 wr=>∃kk:Nat,kk≤l.length∧l.length-kk≤gg∧s8=.int .i64 kk∧Aside0 (Below w.heap.size w wr)∧Aside0 ((l.take kk).any p=false))
  case atStart=>exact⟨0,Nat.zero_le _,by omega,rfl,⟨Below.refl _ w⟩,⟨by simp⟩⟩
  case round=>
    obtain⟨kk,hkk,hg,rfl,BW,AA⟩:=hrel
    by_cases hlt:kk<l.length
    · have hltz:(kk:Int)<(l.length:Int):=by omega
      obtain⟨ad,A0,c0,e1,hx0,hc0,hC0⟩:=at_L5 (Kd.C_below HR.out BW.out) (kk:Int) (by omega) hltz
      cases e1
      rw[Int.toNat_natCast] at hx0;obtain⟨d,hd⟩:∃d,rd_L5 l (kk:Int)=d:=⟨_,rfl⟩;rw[hd] at hx0 hc0 hC0;have hqd:=hq kk hlt;rw[hd] at hqd;have hcall:=HP.out wr d A0 c0 hqd BW.out hC0 hc0;clear hqd;have HD:Aside0 (l.getD kk []=d):=⟨by rw[← hd];simp[rd_L5,rdOf]⟩;clear hd hc0 hC0
      cases hq:p d with
      |true=>
        rw[hq] at hcall;have HQ:=aM hq;clear hq
        go_wp2_with fail
        refine hcall.mono ?_;rintro e w' ⟨rfl,hb'⟩;replace hb':=below_then BW.out BW.out.size hb';go_wp2;go_ret;exact⟨_,rfl,⟨by rw[any_of_at p [] l kk hlt (by rw[HD.out];exact HQ.out)];exact decide_eq_true (by omega)⟩,hb'⟩
      |false=>
        rw[hq] at hcall;have HQ:=aM hq;clear hq
        go_wp2_with fail
        refine hcall.mono ?_;rintro e w' ⟨rfl,hb'⟩;replace hb':=below_then BW.out BW.out.size hb';go_wp2
        go_roundg (l.length-(kk+1))
        case measure=>omega
        case rel=>exact⟨kk+1,by omega,by omega,by first|rfl|(rw [IntWalk.wrap64_in _ (by omega)];rfl),⟨hb'⟩,⟨any_take_succ p [] l kk AA.out (by rw[HD.out];exact HQ.out)⟩⟩
    · have hltz:¬((kk:Int)<(l.length:Int)):=by omega
      go_wp2;go_ret;exact⟨_,rfl,⟨by rw[any_whole p l kk (by omega) AA.out];rfl⟩,BW.out⟩
theorem contPlan (A:Option Addr) (c:Nat) (l:List (List Int)) (g:Nat) (lb:Array Value) (p:List Int->Bool) (w:World) (hr:Kd.C (Kd.slice 3 (Kd.int .i64)) w A l.length l) (hl:l.length≤9223372036854775807)
    (eg:∀args w,(callFunc g args).run Tryz.prog w=.ok (.enter g args) w) {q:List Int->Prop} (hq:∀k:Nat,k<l.length->q (rd_L5 l (k:Int))) (hp:PredS q g lb p w):
    Calls Tryz.prog 101 #[.slice A l.length c,.func (.func g) #[] lb] w fun e w'=>e=.returned (.bool (l.any p))∧Below w.heap.size w w':=by
  have HI:=aM (idxPlan A c l g lb p w hr hl eg hq hp);clear hr hp
  go_enter Tryz.func101,Tryz.ntmps101
  go_wp2_with (go_at_call 129;refine HI.out.mono ?_;rintro e w2 ⟨i,rfl,hi,hb2⟩)
  go_ret;exact⟨by rw[← hi.out];rfl,hb2⟩
def dayB (O:List SO) (d:List Int):Bool:=(List.range d.length).all fun k=>outlB O (rd d (k:Int))&&(decide (k=0)||decide (rd d ((k:Int)-1)<rd d (k:Int)))
theorem day_bad {O:List SO} {d:List Int} (k:Nat) (hk:k<d.length) (h:(outlB O (rd d (k:Int))&&(decide (k=0)||decide (rd d ((k:Int)-1)<rd d (k:Int))))=false):dayB O d=false:=by
  rw[Bool.eq_false_iff];intro hd;unfold dayB at hd;rw[List.all_eq_true] at hd;have:=hd k (List.mem_range.2 hk);rw[h] at this
  cases this
theorem day_good {O:List SO} {d:List Int} (h:∀k:Nat,k<d.length->(outlB O (rd d (k:Int))&&(decide (k=0)||decide (rd d ((k:Int)-1)<rd d (k:Int))))=true):dayB O d=true:=by
  unfold dayB;rw[List.all_eq_true];exact fun k hk=>h k (List.mem_range.1 hk)
set_option maxRecDepth 100000 in
set_option maxHeartbeats 2000000 in
theorem isPlan1_any {w:World} {I:Int} {A1 A2:Option Addr} {c1 c2:Nat} {N:List SN} {O:List SO} {Bt:Nat} (ht:w.heap[Bt]? =some (.cells #[.int .i64 I,.slice A1 N.length c1,.slice A2 O.length c2] 25 (0,0))) (r1:Kd.C k77 w A1 N.length N) (l1:N.length≤c1) (r2:Kd.C k51 w A2 O.length O) (l2:O.length≤c2) (hol:O.length≤1000):
    PredS (fun _=>True) 102 #[.pointer (some ⟨Bt,0,none⟩)] (fun d=>!dayB O d) w:=by
  intro W d A c _ hb hC hl;have hu1:=Tryz.underlying25;have hdl:d.length≤9223372036854775807:=hC.2.1;have HT:=aM (blk_below ht hb);have HR1:=aM (Kd.C_below r1 hb);have HR2:=aM (Kd.C_below r2 hb);have HL:=aM (And.intro l1 l2);have HC:=aM hC;clear hb hC hl ht r1 r2 l1 l2
  have CO:Aside0 (∀ (W':World) (x:Int),Below W.heap.size W W'->Calls Tryz.prog 60 #[.agg #[.int .i64 I,.slice A1 N.length c1,.slice A2 O.length c2],.int .i64 x] W' fun e w'=>e=.returned (.bool (outlB O x))∧Below W'.heap.size W' w'):=⟨fun W' x h=>
    d7_isOutlet.calls I A1 c1 N A2 c2 O x (outlB O x) W' (Kd.C_below HR1.out h) HL.out.1 (Kd.C_below HR2.out h) HL.out.2 (isOutlet_f I N O (by omega) x)⟩
  show Calls Tryz.prog 102 #[.slice A d.length c,.pointer (some ⟨Bt,0,none⟩)] W _
  go_enter Tryz.func102,Tryz.ntmps102
  go_wp2
  go_loopg [8] d.length (fun kq v8 w'=>∃j:Nat,v8=.int .i64 (j:Int)∧Aside0 (j+kq=d.length)∧Aside0 (∀ k:Nat,k<j->(outlB O (rd d (k:Int))&&(decide (k=0)||decide (rd d ((k:Int)-1)<rd d (k:Int))))=true)∧Aside0 (Below W.heap.size W w'))
  case atStart=>exact⟨0,rfl,⟨by omega⟩,⟨fun k hk=>by omega⟩,⟨Below.refl _ _⟩⟩
  case round=>
    obtain⟨j,rfl,HJ,HI,HW⟩:=hrel
    cases gk with
    |zero=>
      have c3:decide ((j:Int)<(d.length:Int))=false:=decide_eq_false (by have:=HJ.out;omega);have c4:¬(j<d.length):=by have:=HJ.out;omega
      have HE:Aside0 (dayB O d=true):=⟨day_good (fun k hk=>HI.out k (by have:=HJ.out;omega))⟩;go_wp2;go_ret;exact⟨by rw[HE.out];rfl,HW.out⟩
    |succ k2=>
      have hjn:j<d.length:=by have:=HJ.out;omega
      have c3:decide ((j:Int)<(d.length:Int))=true:=decide_eq_true (by omega);have p1:(0:Int)≤(j:Int):=by omega
      have p2:(j:Int)<(d.length:Int):=by omega
      obtain⟨ad,ea,x0⟩:=Kd.at_int (Kd.C_below HC.out HW.out) (j:Int) p1 p2;rw[Int.toNat_natCast] at x0;obtain⟨x,hx⟩:∃x,rd d (j:Int)=x:=⟨_,rfl⟩;rw[hx] at x0;subst ea;have hT:=blk_below HT.out HW.out;have y0:wr.cell? ⟨Bt,0,none⟩=some (.int .i64 I):=(blk_cell hT 0).trans rfl;have y1:wr.cell? ⟨Bt,1,none⟩=some (.slice A1 N.length c1):=(blk_cell hT 1).trans rfl;have y2:wr.cell? ⟨Bt,2,none⟩=some (.slice A2 O.length c2):=(blk_cell hT 2).trans rfl;have CX:=aM (CO.out wr x HW.out);have HX:=aM hx;have HJN:=aM hjn;clear hx hT;obtain⟨ob,hob⟩:∃ob,outlB O x=ob:=⟨_,rfl⟩;rw[hob] at CX;have HOB:=aM hob;clear hob
      cases ob
      case false=>
        have HE:Aside0 (dayB O d=false):=⟨day_bad j hjn (by rw[HX.out,HOB.out];rfl)⟩;clear hjn
        go_wp2_with (go_at_call 60;refine CX.out.mono ?_;rintro e w2 ⟨rfl,hb2⟩)
        go_ret;exact⟨by rw[HE.out];rfl,below_step HW.out hb2⟩
      case true=>
      by_cases hz:j=0
      · have HN:Aside0 (∀ k:Nat,k<j+1->(outlB O (rd d (k:Int))&&(decide (k=0)||decide (rd d ((k:Int)-1)<rd d (k:Int))))=true):=⟨fun k hk=>by
          obtain rfl:k=j:=by omega
          rw[HX.out,HOB.out,decide_eq_true hz];rfl⟩
        have c5:decide ((0:Int)<(j:Int))=false:=decide_eq_false (by omega);have c7:decide (0<j)=false:=decide_eq_false (by omega);have c8:¬(0<j):=by omega
        clear hjn hz
        go_wp2_with (go_at_call 60;refine CX.out.mono ?_;rintro e w2 ⟨rfl,hb2⟩)
        go_roundg k2
        case measure=>omega
        case rel=>exact⟨j+1,(by first|rfl|(rw [IntWalk.wrap64_in _ (by have:=HJN.out;omega),Int.natCast_add,Int.natCast_one])),⟨by have:=HJ.out;omega⟩,HN,⟨below_step HW.out hb2⟩⟩
      · have c5:decide ((0:Int)<(j:Int))=true:=decide_eq_true (by omega);have c7:decide (0<j)=true:=decide_eq_true (by omega);have c8:0<j:=by omega
        have hw:wrap64 ((j:Int)-1)=(j:Int)-1:=IntWalk.wrap64_in _ (by omega);obtain⟨ad2,ea2,x1⟩:=Kd.at_int (Kd.C_below HC.out HW.out) ((j:Int)-1) (by omega) (by omega);obtain⟨y,hy⟩:∃y,rd d ((j:Int)-1)=y:=⟨_,rfl⟩;rw[hy,show((j:Int)-1).toNat=j-1 by omega] at x1
        cases ea2
        have q1:=eq_true (show (0:Int)≤(j:Int)-1 by omega);have q2:=eq_true (show (j:Int)-1<(d.length:Int) by omega);have HY:=aM hy;have HZ:=aM hz;have TAIL:Aside0 (∀ w2,Below wr.heap.size wr w2->w2.cell? (ad.add (j-1))=some (.int .i64 y)):=⟨fun w2 h=>(h.cell (World.block_lt_of_cell? _ _ x1)).trans x1⟩;clear hy hz x1 hjn
        by_cases hle:x≤y
        · have c6:decide (x≤y)=true:=decide_eq_true hle
          have HE:Aside0 (dayB O d=false):=⟨day_bad j HJN.out (by
            rw[HX.out,HOB.out,HY.out,decide_eq_false HZ.out,decide_eq_false (show ¬y<x by omega)];rfl)⟩
          clear hle
          go_wp2_with (go_at_call 60;refine CX.out.mono ?_;rintro e w2 ⟨rfl,hb2⟩;have x1:=TAIL.out w2 hb2)
          go_ret;exact⟨by rw[HE.out];rfl,below_step HW.out hb2⟩
        · have c6:decide (x≤y)=false:=decide_eq_false hle
          have HN:Aside0 (∀ k:Nat,k<j+1->(outlB O (rd d (k:Int))&&(decide (k=0)||decide (rd d ((k:Int)-1)<rd d (k:Int))))=true):=⟨fun k hk=>(Nat.lt_or_eq_of_le (Nat.le_of_lt_succ hk)).elim (fun h=>HI.out k h) (fun h=>by
            subst h
            rw[HX.out,HOB.out,HY.out,decide_eq_true (show y<x by omega)];simp)⟩
          clear hle
          go_wp2_with (go_at_call 60;refine CX.out.mono ?_;rintro e w2 ⟨rfl,hb2⟩;have x1:=TAIL.out w2 hb2)
          go_roundg k2
          case measure=>omega
          case rel=>exact⟨j+1,(by first|rfl|(rw [IntWalk.wrap64_in _ (by have:=HJN.out;omega),Int.natCast_add,Int.natCast_one])),⟨by have:=HJ.out;omega⟩,HN,⟨below_step HW.out hb2⟩⟩
def planB (O:List SO) (l:List (List Int)):Bool:=decide ((l.length:Int)≤10)&&!(l.any fun d=>!dayB O d)
set_option maxRecDepth 100000 in
set_option maxHeartbeats 1000000 in
theorem isPlan_any {w:World} {I:Int} {A1 A2:Option Addr} {c1 c2:Nat} {N:List SN} {O:List SO} (r1:Kd.C k77 w A1 N.length N) (l1:N.length≤c1) (r2:Kd.C k51 w A2 O.length O) (l2:O.length≤c2) (hol:O.length≤1000) (A:Option Addr) (c:Nat) (l:List (List Int)) (hr:Kd.C (Kd.slice 3 (Kd.int .i64)) w A l.length l):
    Calls Tryz.prog 63 #[.agg #[.int .i64 I,.slice A1 N.length c1,.slice A2 O.length c2],.slice A l.length c] w fun e w'=>e=.returned (.bool (planB O l))∧Below w.heap.size w w':=by
  have hu1:=Tryz.underlying25;have hmf:∀(fn:Fn) (first cap:Array Value) (w:World),(Instr.makeFunc fn first cap).run Tryz.prog w=.ok (.func fn first cap) w:=fun _ _ _ _=>rfl;have HR1:=aM r1;have HR2:=aM r2;have HL:=aM (And.intro l1 l2);have HR:=aM hr;clear r1 r2 l1 l2 hr
  go_enter Tryz.func63,Tryz.ntmps63
  go_upto_region 1 with(fail)
  generalize hW0:World.alloc w _=W0;have HB0:Aside0 (Below w.heap.size w W0):=⟨by rw[← hW0];exact(Below.refl _ _).alloc (Nat.le_refl _) _⟩;have HT0:Aside0 (W0.heap[w.heap.size]? =some (.cells #[.int .i64 I,.slice A1 N.length c1,.slice A2 O.length c2] 25 (0,0))):=⟨by rw[← hW0];exact blk_new _ _⟩;clear hW0
  by_cases hl:l.length≤10
  · have c1':decide ((l.length:Int)≤10)=true:=decide_eq_true (by omega);obtain⟨b,hb⟩:∃b,l.any (fun d=>!dayB O d)=b:=⟨_,rfl⟩;have HE:Aside0 (planB O l=!b):=⟨by unfold planB;rw[c1',hb];rfl⟩;have CX:=contPlan A c l 102 #[.pointer (some ⟨w.heap.size,0,none⟩)] (fun d=>!dayB O d) W0 (Kd.C_below HR.out HB0.out) (by omega) (enters_of Tryz.func102 (by kernel_rfl) rfl) (fun _ _=>trivial) (isPlan1_any HT0.out (Kd.C_below HR1.out HB0.out) HL.out.1 (Kd.C_below HR2.out HB0.out) HL.out.2 hol);rw[hb] at CX;have CX:=aM CX;clear hb
    go_wp2_with (go_at_call 101;refine CX.out.mono ?_;rintro e w2 ⟨rfl,hb2⟩)
    go_ret;exact⟨by rw[HE.out];rfl,below_step HB0.out hb2⟩
  · have c1':decide ((l.length:Int)≤10)=false:=decide_eq_false (by omega);have HE:Aside0 (planB O l=false):=⟨by unfold planB;rw[c1'];rfl⟩;have c2':¬(l.length≤10):=hl;go_wp2;go_ret;exact⟨by rw[HE.out];rfl,HB0.out⟩
def d7_isPlan.f (a0_0:Int) (l0_1:List SN) (l0_2:List SO) (l1:List (List Int)):Option Bool:=if l0_2.length≤1000 then some (planB l0_2 l1) else none
theorem d7_isPlan.calls (a0_0:Int) (A0_1:Option Addr) (c0_1:Nat) (l0_1:List SN) (A0_2:Option Addr) (c0_2:Nat) (l0_2:List SO) (A1:Option Addr) (c1:Nat) (l1:List (List Int)) (r:Bool) (w:World) (hr0_1:Kd.C k77 w A0_1 l0_1.length l0_1) (hc0_1:l0_1.length≤c0_1) (hr0_2:Kd.C k51 w A0_2 l0_2.length l0_2) (hc0_2:l0_2.length≤c0_2) (hr1:Kd.C (Kd.slice 3 (Kd.int .i64)) w A1 l1.length l1) (hc1:l1.length≤c1) (h:d7_isPlan.f a0_0 l0_1 l0_2 l1=some r):
    Calls Tryz.prog 63 #[.agg #[.int .i64 a0_0,.slice A0_1 l0_1.length c0_1,.slice A0_2 l0_2.length c0_2],.slice A1 l1.length c1] w fun e w'=>e=.returned (.bool r)∧Below w.heap.size w w':=by
  unfold d7_isPlan.f at h
  split at h
  · rename_i hp
    obtain rfl:=Option.some.inj h;exact isPlan_any hr0_1 hc0_1 hr0_2 hc0_2 hp A1 c1 l1 hr1
  · cases h
theorem IntsB.below {w w1:World} {b n:Nat} {f:Int->Bool} (h:IntsB w b n f) (hb:Below w.heap.size w w1):IntsB w1 b n f:=by
  obtain⟨D,⟨es,clock,h1,h2⟩,h3⟩:=h;exact⟨D,⟨es,clock,blk_below h1 hb,h2⟩,h3⟩
def runL (O:List SO) (f:Int->Bool) (j:Nat):List Int:=(List.range O.length).map fun(k:Nat)=>if(decide (k<j)&&f k)=true then(rdO O k).f1 else 0
theorem runL_len (O:List SO) (f:Int->Bool) (j:Nat):(runL O f j).length=O.length:=by simp[runL]
theorem runL_zero (O:List SO) (f:Int->Bool):runL O f 0=List.replicate O.length 0:=by
  unfold runL;apply List.ext_getElem
  · simp
  · intro i h1 h2;simp
theorem runL_no {O:List SO} {f:Int->Bool} {j:Nat} (h:f j=false):runL O f (j+1)=runL O f j:=by
  unfold runL;apply List.map_congr_left;intro k hk
  by_cases e:k=j
  · subst e;simp[h]
  · by_cases e2:k<j
    · simp[e2,show k<j+1 by omega]
    · simp[e2,show ¬k<j+1 by omega]
theorem runL_yes {O:List SO} {f:Int->Bool} {j:Nat} (h:f j=true) (hj:j<O.length):(runL O f j).set j (rdO O (j:Int)).f1=runL O f (j+1):=by
  apply List.ext_getElem
  · simp[runL]
  · intro k h1 h2;rw[List.getElem_set];simp only[runL,List.getElem_map,List.getElem_range]
    by_cases e:j=k
    · subst e;simp[h]
    · rw[if_neg e]
      by_cases e2:k<j
      · simp[e2,show k<j+1 by omega]
      · simp[e2,show ¬k<j+1 by omega]
theorem runL_at {O:List SO} {f:Int->Bool} {j k:Nat} (h:k<O.length):rd (runL O f j) (k:Int)=if(decide (k<j)&&f k)=true then(rdO O k).f1 else 0:=by
  simp[rd,runL,List.getD,h]
theorem runL_small {m:Nat} {O:List SO} (ho:okO m O=true) (f:Int->Bool) (j:Nat):smallB O (runL O f j)=true:=by
  unfold smallB;rw[runL_len];simp only[decide_true,Bool.true_and,List.all_eq_true,List.mem_range];intro k hk;have:=okO_at ho (i:=(k:Int)) (by omega) (by omega);rw[runL_at hk]
  by_cases e:(decide (k<j)&&f k)=true
  · rw[if_pos e];simp;omega
  · rw[if_neg e];simp
set_option maxRecDepth 100000 in
set_option maxHeartbeats 1000000 in
theorem running_any {w:World} {I:Int} {A1 A2:Option Addr} {c1 c2:Nat} {N:List SN} {O:List SO} (h:TrW w I A1 A2 c1 c2 N O) {b n:Nat} {f:Int->Bool} (hm:IntsB w b n f):
    Calls Tryz.prog 74 #[.agg #[.int .i64 I,.slice A1 N.length c1,.slice A2 O.length c2],.map (some b)] w fun e w'=>e=.returned (.bool (fitsB I N O (runL O f O.length)))∧Below w.heap.size w w':=by
  have hu1:=Tryz.underlying25;have hu3:=Tryz.underlying51;have hol:=h.ol;have hmk:=print_make (P:=Tryz.prog) 30 3 .i64 8 Tryz.underlying30 info3 (by omega) O.length (by omega);have H:=aM h;have HM:=aM hm;clear h hm
  go_enter Tryz.func74,Tryz.ntmps74
  go_upto_region 1 with(fail)
  generalize hW0:World.alloc w _=W0;have HB0:Aside0 (Below w.heap.size w W0):=⟨by rw[← hW0];exact(Below.refl _ _).alloc (Nat.le_refl _) _⟩;have HT0:Aside0 (W0.heap[w.heap.size]? =some (.cells #[.int .i64 I,.slice A1 N.length c1,.slice A2 O.length c2] 25 (0,0))):=⟨by rw[← hW0];exact blk_new _ _⟩;clear hW0;have y2:W0.cell? ⟨w.heap.size,2,none⟩=some (.slice A2 O.length c2):=(blk_cell HT0.out 2).trans rfl
  go_upto_region 2 with(fail)
  obtain⟨g,hg⟩:∃g,W0.heap.size=g:=⟨_,rfl⟩;rw[hg];generalize hW1:World.alloc W0 _=W1;have HB1:Aside0 (Below w.heap.size w W1∧w.heap.size<g):=⟨by rw[← hW1];exact HB0.out.alloc HB0.out.size _,by rw[← hg];exact blk_lt HT0.out⟩;have HT1:Aside0 (W1.heap[w.heap.size]? =some (.cells #[.int .i64 I,.slice A1 N.length c1,.slice A2 O.length c2] 25 (0,0))):=⟨by rw[← hW1];exact blk_alloc HT0.out _⟩
  have HO1:Aside0 (OwnI W1 g (.slice (some ⟨g,0,none⟩) O.length O.length) (runL O f 0)):=⟨by
    rw[← hW1,runL_zero,←hg];have hr:=own_made W0 W0.heap.size 3 .i64 O.length (Nat.le_refl _) (by omega)
    exact Kd.R_of_own (by rw[List.length_replicate];exact hr) (fun _ _=>trivial)⟩
  clear hW1 hg y2 hmk HT0 HB0;have y2:W1.cell? ⟨w.heap.size,2,none⟩=some (.slice A2 O.length c2):=(blk_cell HT1.out 2).trans rfl;go_wp2;clear y2
  go_loopg [15] O.length (fun kq v15 w'=>∃j:Nat,v15=.int .i64 (j:Int)∧Aside0 (j+kq=O.length)∧Aside0 (OwnI w' g (.slice (some ⟨g,0,none⟩) O.length O.length) (runL O f j))∧Aside0 (Below w.heap.size w w')∧Aside0 (w'.heap[w.heap.size]? =some (.cells #[.int .i64 I,.slice A1 N.length c1,.slice A2 O.length c2] 25 (0,0))))
  case atStart=>exact⟨0,rfl,⟨by omega⟩,HO1,⟨HB1.out.1⟩,HT1⟩
  case round=>
    obtain⟨j,rfl,HJ,HO,HW,HT⟩:=hrel;have hgw:=HB1.out.2;clear HO1 HT1
    cases gk with
    |zero=>
      have c3:decide ((j:Int)<(O.length:Int))=false:=decide_eq_false (by have:=HJ.out;omega);have c4:¬(j<O.length):=by have:=HJ.out;omega
      obtain rfl:j=O.length:=by have:=HJ.out;omega
      have y0:wr.cell? ⟨w.heap.size,0,none⟩=some (.int .i64 I):=(blk_cell HT.out 0).trans rfl;have y1:wr.cell? ⟨w.heap.size,1,none⟩=some (.slice A1 N.length c1):=(blk_cell HT.out 1).trans rfl;have y2:wr.cell? ⟨w.heap.size,2,none⟩=some (.slice A2 O.length c2):=(blk_cell HT.out 2).trans rfl
      have CF:Aside0 (Calls Tryz.prog 67 #[.agg #[.int .i64 I,.slice A1 N.length c1,.slice A2 O.length c2],.slice (some ⟨g,0,none⟩) O.length O.length] wr fun e w'=>e=.returned (.bool (fitsB I N O (runL O f O.length)))∧Below wr.heap.size wr w'):=⟨by
        have hs:=small_ok (runL_small H.out.o f O.length);obtain⟨_,_,e,hl,hC⟩:=Kd.R_reads HO.out;have hlen:=runL_len O f O.length;rw[hlen] at e hl hC;have:=fits_any (As:=some ⟨g,0,none⟩) (cs:=O.length) (H.out.below HW.out) (s:=runL O f O.length) ⟨hs.1,hs.2,by rw[hlen];cases e;exact hC,by omega⟩;rw[hlen] at this
        exact this⟩
      go_wp2_with (go_at_call 67;refine CF.out.mono ?_;rintro e w2 ⟨rfl,hb2⟩)
      go_ret;exact⟨rfl,below_step HW.out hb2⟩
    |succ k2=>
      have hjn:j<O.length:=by have:=HJ.out;omega
      have c3:decide ((j:Int)<(O.length:Int))=true:=decide_eq_true (by omega);have p1:(0:Int)≤(j:Int):=by omega
      have p2:(j:Int)<(O.length:Int):=by omega
      obtain⟨ad,ea,x0,x1,x2⟩:=at_T51 (Kd.C_below H.out.r2 HW.out) (j:Int) p1 p2;rw[Int.toNat_natCast] at x0 x1 x2;obtain⟨o,ho⟩:∃o,rdO O (j:Int)=o:=⟨_,rfl⟩
      change wr.cell? _=some (.int .i64 (rdO O (j:Int)).f0) at x0
      change wr.cell? _=some (.int .i64 (rdO O (j:Int)).f1) at x1
      change wr.cell? _=some (.int .i64 (rdO O (j:Int)).f2) at x2
      rw[ho] at x0 x1 x2;subst ea;have HOO:=aM ho;have HJN:=aM hjn;clear ho hjn
      go_upto_region 5 with(fail)
      generalize hW5:World.alloc wr _=W5;have HB5:Aside0 (Below wr.heap.size wr W5):=⟨by rw[← hW5];exact(Below.refl _ _).alloc (Nat.le_refl _) _⟩;have HX5:Aside0 (W5.heap[wr.heap.size]? =some (.cells #[.int .i64 o.f0,.int .i64 o.f1,.int .i64 o.f2] 51 (0,0))):=⟨by rw[← hW5];exact blk_new _ _⟩;have HO5:Aside0 (OwnI W5 g (.slice (some ⟨g,0,none⟩) O.length O.length) (runL O f j)):=⟨HO.out.kb (KB.of_below (M:=fun _=>False) HB5.out) (fun _ _ h=>False.elim h)⟩;have HT5:=aM (blk_below HT.out HB5.out);have HW5:=aM (below_step HW.out HB5.out);clear hW5 x0 x1 x2;have hlk:=ints_lookup (HM.out.below HW5.out) (y:=(j:Int)) (by omega) (by omega);obtain⟨fj,hfj⟩:∃fj,f (j:Int)=fj:=⟨_,rfl⟩;rw[hfj] at hlk;have HF:=aM hfj;clear hfj;have hw1:wrap64 ((j:Int)+1)=((j+1:Nat):Int):=by rw[IntWalk.wrap64_in _ (by omega)];omega
      cases fj
      · have HN:Aside0 (runL O f (j+1)=runL O f j):=⟨runL_no HF.out⟩;go_wp2
        go_roundg k2
        case measure=>omega
        case rel=>exact⟨j+1,(by first|rfl|rw[hw1]|(rw [Int.natCast_add];rfl)),⟨by have:=HJ.out;omega⟩,⟨by rw[HN.out];exact HO5.out⟩,HW5,HT5⟩
      · have HN:Aside0 ((runL O f j).set j o.f1=runL O f (j+1)):=⟨by rw[← HOO.out];exact runL_yes HF.out HJN.out⟩;have z1:W5.cell? ⟨wr.heap.size,1,none⟩=some (.int .i64 o.f1):=(blk_cell HX5.out 1).trans rfl;obtain⟨b4,b4f⟩:=Kd.R_celln (0:Int) HO5.out (j:Int) p1 p2;rw[Int.toNat_natCast] at b4 b4f;have q1:=eq_true p1;have q2:=eq_true p2;have hput:=Kd.R_putn HO5.out (j:Int) o.f1;rw[Int.toNat_natCast,HN.out] at hput;have HP:=aM hput;clear hput;go_wp2
        go_roundg k2
        case measure=>omega
        case rel=>exact⟨j+1,(by first|rfl|rw[hw1]|(rw [Int.natCast_add];rfl)),⟨by have:=HJ.out;omega⟩,HP,⟨HW5.out.setCell (by show w.heap.size≤g;omega) _⟩,⟨blk_grown HT5.out (grown_setP _ _ _) (by intro e;have e2:w.heap.size=g:=Option.some.inj e;omega)⟩⟩
def runB (I:Int) (N:List SN) (O:List SO) (d:List Int):Bool:=fitsB I N O (runL O (fun z=>decide (z∈d)) O.length)
def smallD (d:List Int):Prop:=∀y∈d,0≤y∧y≤1000000
set_option maxRecDepth 100000 in
set_option maxHeartbeats 1000000 in
theorem runs1_any {w:World} {I:Int} {A1 A2:Option Addr} {c1 c2:Nat} {N:List SN} {O:List SO} {Bt:Nat} (ht:w.heap[Bt]? =some (.cells #[.int .i64 I,.slice A1 N.length c1,.slice A2 O.length c2] 25 (0,0))) (h:TrW w I A1 A2 c1 c2 N O):
    PredS (fun d=>smallD d∧d.length≤1000) 103 #[.pointer (some ⟨Bt,0,none⟩)] (fun d=>!runB I N O d) w:=by
  rintro W d A c ⟨hsd,hdl⟩ hb hC hl;have hu1:=Tryz.underlying25;have hu2:=Tryz.underlying99;have hmm:=@run_makeMap Tryz.prog;have HT:=aM (blk_below ht hb);have H:=aM (h.below hb);have HC:=aM hC;have HS:=aM hsd;clear hb hC hl ht h hsd
  show Calls Tryz.prog 103 #[.slice A d.length c,.pointer (some ⟨Bt,0,none⟩)] W _
  go_enter Tryz.func103,Tryz.ntmps103
  go_upto_region 2 with(fail)
  obtain⟨g,hg⟩:∃g,W.heap.size=g:=⟨_,rfl⟩;(try rw[hg]);generalize hW1:World.alloc W _=W1;have HB1:Aside0 (Below W.heap.size W W1):=⟨by rw[← hW1];exact(Below.refl _ _).alloc (Nat.le_refl _) _⟩;have HM1:Aside0 (IntsB W1 g 0 (fun _=>false)):=⟨by rw[← hW1,←hg];exact ints_made W⟩;have HG:Aside0 (W.heap.size=g):=⟨hg⟩;clear hW1 hg;go_wp2
  go_loopg [10] d.length (fun kq v10 w'=>∃j:Nat,v10=.int .i64 (j:Int)∧Aside0 (j+kq=d.length)∧Aside0 (∃ f:Int->Bool,IntsB w' g j f∧∀z,f z=decide (z∈d.take j))∧Aside0 (Below W.heap.size W w'))
  case atStart=>exact⟨0,rfl,⟨by omega⟩,⟨_,HM1.out,fun z=>by simp⟩,HB1⟩
  case round=>
    obtain⟨j,rfl,HJ,HF,HW⟩:=hrel;obtain⟨f,hm,hf⟩:=HF.out;have HM:=aM hm;have HFF:=aM hf;clear hm hf HF HM1
    cases gk with
    |zero=>
      have c3:decide ((j:Int)<(d.length:Int))=false:=decide_eq_false (by have:=HJ.out;omega);have c4:¬(j<d.length):=by have:=HJ.out;omega
      have hT:=blk_below HT.out HW.out;have y0:wr.cell? ⟨Bt,0,none⟩=some (.int .i64 I):=(blk_cell hT 0).trans rfl;have y1:wr.cell? ⟨Bt,1,none⟩=some (.slice A1 N.length c1):=(blk_cell hT 1).trans rfl;have y2:wr.cell? ⟨Bt,2,none⟩=some (.slice A2 O.length c2):=(blk_cell hT 2).trans rfl;have hff:f=fun z=>decide (z∈d):=funext fun z=>by rw[HFF.out z,List.take_of_length_le (by omega)]
      have CR:=running_any (H.out.below HW.out) HM.out;rw[hff] at CR;have CR:=aM CR;clear hT hff;obtain⟨rb,hrb⟩:∃rb,runB I N O d=rb:=⟨_,rfl⟩;have HRB:=aM hrb;have CR2:Aside0 (Calls Tryz.prog 74 #[.agg #[.int .i64 I,.slice A1 N.length c1,.slice A2 O.length c2],.map (some g)] wr fun e w'=>e=.returned (.bool rb)∧Below wr.heap.size wr w'):=⟨by rw[← hrb];exact CR.out⟩;clear CR hrb
      go_wp2_with (go_at_call 74;refine CR2.out.mono ?_;rintro e w2 ⟨rfl,hb2⟩)
      go_ret;exact⟨by rw[HRB.out];rfl,below_step HW.out hb2⟩
    |succ k2=>
      have hjn:j<d.length:=by have:=HJ.out;omega
      have c3:decide ((j:Int)<(d.length:Int))=true:=decide_eq_true (by omega);have p1:(0:Int)≤(j:Int):=by omega
      have p2:(j:Int)<(d.length:Int):=by omega
      obtain⟨ad,ea,x0⟩:=Kd.at_int (Kd.C_below HC.out HW.out) (j:Int) p1 p2;rw[Int.toNat_natCast] at x0;obtain⟨x,hx⟩:∃x,rd d (j:Int)=x:=⟨_,rfl⟩;rw[hx] at x0;subst ea;have hxd:d[j]=x:=by rw[← hx];simp[rd,List.getD,List.getElem?_eq_getElem hjn]
      have hxr:=HS.out x (by rw[← hxd];exact List.getElem_mem hjn);obtain⟨w5,hr5,hm5,hg5⟩:=ints_update HM.out (by omega) hxr.1 hxr.2 true
      have HM5:Aside0 (∃ f:Int->Bool,IntsB w5 g (j+1) f∧∀z,f z=decide (z∈d.take (j+1))):=⟨_,hm5,fun z=>by
        rw[List.take_add_one,List.getElem?_eq_getElem hjn,hxd]
        by_cases e:z=x
        · subst e;simp
        · simp[e,HFF.out z]⟩
      have HW5:Aside0 (Below W.heap.size W w5):=⟨HW.out.grown hg5 HW.out.size (fun k e=>by have e2:g=k:=Option.some.inj e;have:=HG.out;omega)⟩;have hw1:wrap64 ((j:Int)+1)=((j+1:Nat):Int):=by rw[IntWalk.wrap64_in _ (by omega)];omega
      clear hx hxd hxr hm5 hg5 hjn;go_wp2
      go_roundg k2
      case measure=>omega
      case rel=>exact⟨j+1,(by first|rfl|rw[hw1]|(rw [Int.natCast_add];rfl)),⟨by have:=HJ.out;omega⟩,HM5,HW5⟩
def smallDB (d:List Int):Bool:=decide (d.length≤1000)&&d.all fun y=>decide (0≤y)&&decide (y≤1000000)
theorem smallDB_ok {d:List Int} (h:smallDB d=true):smallD d∧d.length≤1000:=by
  simp only[smallDB,Bool.and_eq_true,decide_eq_true_eq,List.all_eq_true] at h;exact⟨fun y hy=>h.2 y hy,h.1⟩
def runsB (I:Int) (N:List SN) (O:List SO) (l:List (List Int)):Bool:=!(l.any fun d=>!runB I N O d)
set_option maxRecDepth 100000 in
set_option maxHeartbeats 1000000 in
theorem runs_any {w:World} {I:Int} {A1 A2:Option Addr} {c1 c2:Nat} {N:List SN} {O:List SO} (h:TrW w I A1 A2 c1 c2 N O) (A:Option Addr) (c:Nat) (l:List (List Int)) (hr:Kd.C (Kd.slice 3 (Kd.int .i64)) w A l.length l) (hl:l.all smallDB=true):
    Calls Tryz.prog 64 #[.agg #[.int .i64 I,.slice A1 N.length c1,.slice A2 O.length c2],.slice A l.length c] w fun e w'=>e=.returned (.bool (runsB I N O l))∧Below w.heap.size w w':=by
  have hu1:=Tryz.underlying25;have hmf:∀(fn:Fn) (first cap:Array Value) (w:World),(Instr.makeFunc fn first cap).run Tryz.prog w=.ok (.func fn first cap) w:=fun _ _ _ _=>rfl;have hll:=hr.2.1;have H:=aM h;have HR:=aM hr;have HL:=aM hl;clear h hr hl
  go_enter Tryz.func64,Tryz.ntmps64
  go_upto_region 1 with(fail)
  generalize hW0:World.alloc w _=W0;have HB0:Aside0 (Below w.heap.size w W0):=⟨by rw[← hW0];exact(Below.refl _ _).alloc (Nat.le_refl _) _⟩;have HT0:Aside0 (W0.heap[w.heap.size]? =some (.cells #[.int .i64 I,.slice A1 N.length c1,.slice A2 O.length c2] 25 (0,0))):=⟨by rw[← hW0];exact blk_new _ _⟩;clear hW0
  have hq:∀k:Nat,k<l.length->(fun d=>smallD d∧d.length≤1000) (rd_L5 l (k:Int)):=fun k hk=>by
    have h2:=HL.out;rw[List.all_eq_true] at h2;have h3:=h2 l[k] (List.getElem_mem hk);have e:rd_L5 l (k:Int)=l[k]:=by simp[rd_L5,rdOf,List.getD,List.getElem?_eq_getElem hk]
    rw[e];exact smallDB_ok h3
  obtain⟨b,hb⟩:∃b,l.any (fun d=>!runB I N O d)=b:=⟨_,rfl⟩;have HE:Aside0 (runsB I N O l=!b):=⟨by unfold runsB;rw[hb]⟩;have CX:=contPlan A c l 103 #[.pointer (some ⟨w.heap.size,0,none⟩)] (fun d=>!runB I N O d) W0 (Kd.C_below HR.out HB0.out) hll (enters_of Tryz.func103 (by kernel_rfl) rfl) hq (runs1_any HT0.out (H.out.below HB0.out));rw[hb] at CX;have CX:=aM CX;clear hb hq
  go_wp2_with (go_at_call 101;refine CX.out.mono ?_;rintro e w2 ⟨rfl,hb2⟩)
  go_ret;exact⟨by rw[HE.out];rfl,below_step HB0.out hb2⟩
def d7_runs.f (a0_0:Int) (l0_1:List SN) (l0_2:List SO) (l1:List (List Int)):Option Bool:=if okN l0_1=true∧okO l0_1.length l0_2=true∧l0_1.length≤1000∧l0_2.length≤1000∧l1.all smallDB=true then some (runsB a0_0 l0_1 l0_2 l1) else none
theorem d7_runs.calls (a0_0:Int) (A0_1:Option Addr) (c0_1:Nat) (l0_1:List SN) (A0_2:Option Addr) (c0_2:Nat) (l0_2:List SO) (A1:Option Addr) (c1:Nat) (l1:List (List Int)) (r:Bool) (w:World) (hr0_1:Kd.C k77 w A0_1 l0_1.length l0_1) (hc0_1:l0_1.length≤c0_1) (hr0_2:Kd.C k51 w A0_2 l0_2.length l0_2) (hc0_2:l0_2.length≤c0_2) (hr1:Kd.C (Kd.slice 3 (Kd.int .i64)) w A1 l1.length l1) (hc1:l1.length≤c1) (h:d7_runs.f a0_0 l0_1 l0_2 l1=some r):
    Calls Tryz.prog 64 #[.agg #[.int .i64 a0_0,.slice A0_1 l0_1.length c0_1,.slice A0_2 l0_2.length c0_2],.slice A1 l1.length c1] w fun e w'=>e=.returned (.bool r)∧Below w.heap.size w w':=by
  unfold d7_runs.f at h
  split at h
  · rename_i hp
    obtain rfl:=Option.some.inj h;exact runs_any ⟨hp.1,hp.2.1,hp.2.2.1,hp.2.2.2.1,hr0_1,hc0_1,hr0_2,hc0_2⟩ A1 c1 l1 hr1 hp.2.2.2.2
  · cases h
end Go.Proofs.YtjioobfeikbffabGreatDoor.K
end
section
namespace Go.Proofs.YtjioobfeikbffabGreatDoor.K
open Go.RowKit Go.Proofs.Zw Go.Proofs.Zl Go.Proofs.Zm
open Dr
namespace Dr
def soonB (O:List SO) (ran:List Int) (a b:Int):Bool:=if rd ran a=rd ran b then decide ((rdO O a).f2<(rdO O b).f2) else decide (rd ran a<rd ran b)
def bestTo (lt:Int->Int->Bool) (l:List Int) (j:Nat):Int:=(l.take j).foldl (fun o x=>if lt x o=true then x else o) (rd l 0)
def bestL (lt:Int->Int->Bool) (l:List Int):Int:=bestTo lt l l.length
def dropL (left:List Int) (i:Int):List Int:=left.filter fun x=>!(x==i)
def takeD (I:Int) (N:List SN) (O:List SO) (d:List Int) (i:Int):List Int:=if runB I N O (d++[i])=true then d++[i] else d
def dayF (I:Int) (N:List SN) (O:List SO) (ran:List Int):Nat->List Int->List Int->List Int
  |0,_,d=>d
  |k+1,left,d=>dayF I N O ran k (dropL left (bestL (soonB O ran) left)) (takeD I N O d (bestL (soonB O ran) left))
def allTo (j:Nat):List Int:=(List.range j).map fun(k:Nat)=>(k:Int)
def dayOf (I:Int) (N:List SN) (O:List SO) (ran:List Int):List Int:=dayF I N O ran O.length (allTo O.length) []
def dayTo (d:List Int) (j:Nat):List Int:=(allTo j).filter fun i=>decide (i∈d)
def bumpL (ran d:List Int) (j:Nat):List Int:=(List.range ran.length).map fun(k:Nat)=>if(decide (k<j)&&decide ((k:Int)∈d))=true then rd ran k+1 else rd ran k
def turnsF (I:Int) (N:List SN) (O:List SO):Nat->List (List Int)×List Int
  |0=>([],zerosF O.length)
  |k+1=>((turnsF I N O k).1++[dayTo (dayOf I N O (turnsF I N O k).2) O.length],bumpL (turnsF I N O k).2 (dayOf I N O (turnsF I N O k).2) O.length)
theorem best_step {lt:Int->Int->Bool} {l:List Int} {j:Nat} (h:j<l.length):bestTo lt l (j+1)=if lt (rd l j) (bestTo lt l j)=true then rd l j else bestTo lt l j:=by
  unfold bestTo;rw[List.take_add_one,List.getElem?_eq_getElem h,Option.toList_some,List.foldl_append];have:rd l (j:Int)=l[j]:=by simp[rd,List.getD,List.getElem?_eq_getElem h]
  rw[this]
  rfl
theorem rd_in {l:List Int} {j:Nat} (h:j<l.length):rd l (j:Int)∈l:=by
  simp[rd,List.getD,List.getElem?_eq_getElem h]
theorem best_in {lt:Int->Int->Bool} {l:List Int} (h:0<l.length):∀j,j≤l.length->bestTo lt l j∈l
  |0,_=>by show rd l ((0:Nat):Int)∈l;exact rd_in h
  |j+1,hj=>by
    rw[best_step (l:=l) (by omega)]
    split
    · exact rd_in (l:=l) (by omega)
    · exact best_in h j (by omega)
theorem bestL_mem {lt:Int->Int->Bool} {l:List Int} (h:l≠[]):bestL lt l∈l:=best_in (List.length_pos_iff.2 h) _ (Nat.le_refl _)
theorem drop_mem {l:List Int} {i x:Int}:x∈dropL l i↔x∈l∧x≠i:=by
  unfold dropL;rw[List.mem_filter];simp
theorem drop_nodup {l:List Int} {i:Int} (h:l.Nodup):(dropL l i).Nodup:=h.filter _
theorem drop_len {l:List Int} {i:Int} (h:l.Nodup) (hi:i∈l):(dropL l i).length+1=l.length:=by
  induction l with
  |nil=>cases hi
  |cons x l ih=>
    rw[List.nodup_cons] at h;unfold dropL;rw[List.filter_cons]
    by_cases e:x=i
    · subst e
      have hs:l.filter (fun y=>!(y==x))=l:=by
        rw[List.filter_eq_self];intro y hy;have:y≠x:=fun e=>h.1 (e▸hy);simp[this]
      simp[hs]
    · have e2:(x==i)=false:=by simpa using e
      have hi2:i∈l:=by rcases List.mem_cons.1 hi with h1|h1;exact absurd h1.symm e;exact h1
      have:=ih h.2 hi2;unfold dropL at this;simp only[e2,Bool.not_false,if_true,List.length_cons]
      omega
theorem take_mem {I:Int} {N:List SN} {O:List SO} {d:List Int} {i x:Int} (h:x∈takeD I N O d i):x∈d∨x=i:=by
  unfold takeD at h;split at h
  · simpa using h
  · exact .inl h
section
variable {I:Int} {N:List SN} {O:List SO} {ran:List Int}
theorem day_from:∀(k:Nat) (left d:List Int),left.length=k->left.Nodup->∀x∈dayF I N O ran k left d,x∈d∨x∈left
  |0,_,_,_,_,x,h=>.inl h
  |k+1,left,d,hl,hn,x,h=>by
    have hb:=bestL_mem (lt:=soonB O ran) (l:=left) (by intro e;rw[e] at hl;cases hl)
    rcases day_from k _ _ (by have:=drop_len hn hb;omega) (drop_nodup hn) x h with h1|h1
    · rcases take_mem h1 with h2|h2
      · exact .inl h2
      · exact .inr (h2▸hb)
    · exact .inr (drop_mem.1 h1).1
end
theorem all_mem {j:Nat} {x:Int}:x∈allTo j↔0≤x∧x<j:=by
  unfold allTo;simp only[List.mem_map,List.mem_range];exact⟨fun ⟨k,h,e⟩=>by omega,fun⟨h0,h1⟩=>⟨x.toNat,by omega,by omega⟩⟩
theorem all_len (j:Nat):(allTo j).length=j:=by simp[allTo]
theorem all_nodup (j:Nat):(allTo j).Nodup:=by
  unfold allTo;rw[List.nodup_iff_pairwise_ne,List.pairwise_map];exact(List.nodup_range (n:=j)).imp (fun h e=>h (by omega))
theorem dayTo_mem {d:List Int} {j:Nat} {x:Int}:x∈dayTo d j↔(0≤x∧x<j)∧x∈d:=by
  unfold dayTo;rw[List.mem_filter,all_mem];simp
theorem dayTo_succ (d:List Int) (j:Nat):dayTo d (j+1)=dayTo d j++if(j:Int)∈d then [(j:Int)] else []:=by
  unfold dayTo allTo;rw[List.range_succ,List.map_append,List.filter_append]
  congr 1
  by_cases h:(j:Int)∈d<;>simp[h]
theorem bump_at {ran d:List Int} {j k:Nat} (h:k<ran.length):rd (bumpL ran d j) (k:Int)=if k<j∧(k:Int)∈d then rd ran k+1 else rd ran k:=by
  simp[rd,bumpL,List.getD,h]
theorem bump_len (ran d:List Int) (j:Nat):(bumpL ran d j).length=ran.length:=by simp[bumpL]
theorem bump_zero (ran d:List Int):bumpL ran d 0=ran:=by
  apply List.ext_getElem
  · simp[bumpL]
  · intro i h1 h2;simp[bumpL,rd,List.getD,h2]
theorem bump_no {ran d:List Int} {j:Nat} (h:(j:Int)∉d):bumpL ran d (j+1)=bumpL ran d j:=by
  unfold bumpL;apply List.map_congr_left;intro k hk
  by_cases e:k=j
  · subst e;simp[h]
  · by_cases e2:k<j
    · simp[e2,show k<j+1 by omega]
    · simp[e2,show ¬k<j+1 by omega]
theorem bump_yes {ran d:List Int} {j:Nat} (h:(j:Int)∈d) (hj:j<ran.length):(bumpL ran d j).set j (rd (bumpL ran d j) j+1)=bumpL ran d (j+1):=by
  apply List.ext_getElem
  · simp[bumpL]
  · intro k h1 h2;have hv:=bump_at (d:=d) (j:=j) hj;rw[List.getElem_set];generalize rd (bumpL ran d j) (j:Int)=v at *;simp only[bumpL,List.getElem_map,List.getElem_range]
    by_cases e:j=k
    · subst e;simp[h,hv]
    · rw[if_neg e]
      by_cases e2:k<j
      · simp[e2,show k<j+1 by omega]
      · simp[e2,show ¬k<j+1 by omega]
theorem turns_len (I:Int) (N:List SN) (O:List SO):∀k,(turnsF I N O k).1.length=k∧(turnsF I N O k).2.length=O.length
  |0=>⟨rfl,by simp[turnsF,zerosF]⟩
  |k+1=>by
    have:=turns_len I N O k;simp only[turnsF,List.length_append,List.length_singleton,bump_len]
    omega
theorem turns_at (I:Int) (N:List SN) (O:List SO):∀(k i:Nat),i<k->(turnsF I N O k).1[i]? =some (dayTo (dayOf I N O (turnsF I N O i).2) O.length)
  |k+1,i,h=>by
    simp only[turnsF];have hl:=(turns_len I N O k).1
    by_cases e:i<k
    · rw[List.getElem?_append_left (by omega)];exact turns_at I N O k i e
    · obtain rfl:i=k:=by omega
      rw[List.getElem?_append_right (by omega),hl];simp
theorem day_listed {I:Int} {N:List SN} {O:List SO} {ran:List Int} {x:Int}:x∈dayTo (dayOf I N O ran) O.length↔x∈dayOf I N O ran:=by
  rw[dayTo_mem];refine⟨fun h=>h.2,fun h=>⟨?_,h⟩⟩
  rcases day_from O.length _ _ (all_len _) (all_nodup _) x h with h1|h1
  · cases h1
  · exact all_mem.1 h1
def daysTo (p:List (List Int)) (x:Int):Nat->Int
  |0=>0
  |k+1=>daysTo p x k+if x∈p.getD k [] then 1 else 0
theorem daysTo_app {p q:List (List Int)} {x:Int}:∀ {k:Nat},k≤p.length->daysTo (p++q) x k=daysTo p x k
  |0,_=>rfl
  |k+1,h=>by
    simp only[daysTo];rw[daysTo_app (by omega),List.getD_eq_getElem?_getD,List.getElem?_append_left (by omega),←List.getD_eq_getElem?_getD]
theorem turns_ran {I:Int} {N:List SN} {O:List SO} {i:Nat} (hi:i<O.length):∀k,rd (turnsF I N O k).2 i=daysTo (turnsF I N O k).1 i k
  |0=>by simp[turnsF,zerosF,rd,daysTo,List.getD,hi]
  |k+1=>by
    have hl:=turns_len I N O k;have ih:=turns_ran (I:=I) (N:=N) hi k
    have hd:(turnsF I N O (k+1)).1.getD k []=dayTo (dayOf I N O (turnsF I N O k).2) O.length:=by
      rw[List.getD_eq_getElem?_getD,turns_at I N O (k+1) k (by omega)];rfl
    have h1:daysTo (turnsF I N O (k+1)).1 i k=daysTo (turnsF I N O k).1 i k:=daysTo_app (by rw[hl.1];exact Nat.le_refl _)
    show rd (bumpL _ _ _) i=daysTo (turnsF I N O (k+1)).1 i k+_
    rw[bump_at (by rw[hl.2];exact hi),h1,←ih]
    by_cases h:(i:Int)∈dayOf I N O (turnsF I N O k).2
    · rw[if_pos ⟨hi,h⟩,if_pos (by rw[hd];exact day_listed.2 h)]
    · rw[if_neg (fun x=>h x.2),if_neg (by rw[hd];exact fun x=>h (day_listed.1 x))];omega
end Dr
end Go.Proofs.YtjioobfeikbffabGreatDoor.K
end
section
namespace Go.Proofs.YtjioobfeikbffabGreatDoor.K
open Go.RowKit Go.Proofs.Zw Go.Proofs.Zl Go.Proofs.Zm
theorem own_empty (W:World) (e:TypeId):Kd.R (Kd.int .i64) e (W.alloc (.cells #[] e)) W.heap.size (fun _=>True) (.slice (some ⟨W.heap.size,0,none⟩) 0 0) []:=by
  refine⟨fun _ _=>trivial,[],?_,Reps.none _ _⟩;exact World.ownsRow_lit W #[] 0 (Nat.le_refl _) (by unfold maxLen;omega) rfl
set_option maxRecDepth 100000 in
theorem clone_any (A:Option Addr) (c:Nat) (zs:List Int) (w:World) (hC:Kd.C (Kd.int .i64) w A zs.length zs) (hl:zs.length≤1000000):
    Calls Tryz.prog 130 #[.slice A zs.length c] w fun e w'=>∃v,e=.returned v∧Aside0 (Kd.R (Kd.int .i64) 3 w' w.heap.size (fun _=>True) v zs)∧Below w.heap.size w w':=by
  have hnil:=fun W=>Lib.run_eql_slice_nil (P:=Tryz.prog) W 30 3 A zs.length c 0 0 Tryz.underlying30;have HC:=aM hC;clear hC
  cases A with
  |none=>
    go_enter Tryz.func130,Tryz.ntmps130
    go_wp2;go_ret
    have hz:zs=[]:=by
      rcases zs with _|⟨x,l⟩
      · rfl
      · obtain⟨ad,h,_⟩:=Kd.at_int HC.out 0 (by omega) (by simp)
        cases h
    exact⟨_,rfl,⟨by rw[hz];exact Kd.R_nil _ _ _ _ _⟩,Below.refl _ _⟩
  |some a=>
    go_enter Tryz.func130,Tryz.ntmps130
    have HW:Aside0 (Below w.heap.size w (w.alloc (.cells #[] 3))):=⟨(Below.refl _ _).alloc (Nat.le_refl _) _⟩;have HL:=aM hl;clear hl
    go_wp2_with ((with_reducible refine gate_builtin (b:=.append) (xs:=#[.tmp 5,.tmp 6]) rfl ?_);at_builtin;refine Kd.R_append_rows (Kd.int .i64) (w0:=w.alloc (.cells #[] 3)) w.heap.size rfl (.tmp 5) (.tmp 6) 30 3 (.int .i64 0) 8 rfl Tryz.underlying30 info3 rfl (by decide) (by omega) (.slice (some ⟨w.heap.size,0,none⟩) 0 0) [] zs (some a) zs.length c (fun _=>True) (fun _=>False) rfl rfl (own_empty w 3) (Kd.C_below HC.out HW.out) (fun x cs h=>h) (fun _ hk=>hk.elim) (fun _ _=>trivial) (Below.refl _ _) (by simp) (by have:=HL.out;simp;omega) ?_;intro v1 w1 ho hbA hgA hatA)
    go_ret;exact⟨_,rfl,⟨ho⟩,HW.out.trans hbA⟩
theorem idxFirst (A:Option Addr) (c:Nat) (l:List Int) (g:Nat) (lb:Array Value) (p:Int->Bool) (w:World) (hr:Kd.C (Kd.int .i64) w A l.length l) (hl:l.length≤9223372036854775807)
    (eg:∀args w,(callFunc g args).run Tryz.prog w=.ok (.enter g args) w) (hp:PredB g lb (Value.int .i64) p w):
    Calls Tryz.prog 109 #[.slice A l.length c,.func (.func g) #[] lb] w fun e w'=>∃i:Int,e=.returned (.int .i64 i)∧Aside0 ((i= -1∧l.any p=false)∨∃k:Nat,i=(k:Int)∧k<l.length∧(l.take k).any p=false∧p (rd l k)=true)∧Below w.heap.size w w':=by
  have HR:=aM hr;clear hr
  go_enter Tryz.func109,Tryz.ntmps109
  go_wp2
  go_loopg [5,8] l.length (fun gg _ s8 wr=>∃kk:Nat,kk≤l.length∧l.length-kk≤gg∧s8=.int .i64 kk∧Aside0 (Below w.heap.size w wr)∧Aside0 ((l.take kk).any p=false))
  case atStart=>exact⟨0,Nat.zero_le _,by omega,rfl,⟨Below.refl _ w⟩,⟨by simp⟩⟩
  case round=>
    obtain⟨kk,hkk,hg,rfl,BW,AA⟩:=hrel
    by_cases hlt:kk<l.length
    · have hltz:(kk:Int)<(l.length:Int):=by omega
      obtain⟨ad,e1,hx0⟩:=Kd.at_int HR.out (kk:Int) (by omega) hltz
      cases e1
      replace hx0:=(BW.out.cell (World.block_lt_of_cell? w _ hx0)).trans hx0;rw[Int.toNat_natCast] at hx0;have hcall:=hp wr (rd l kk) BW.out;generalize hy:rd l kk=y at hx0 hcall;have HY:=aM hy;clear hy hp
      cases hq:p y with
      |true=>
        rw[hq] at hcall;have HQ:=aM hq;clear hq
        go_wp2_with fail
        refine hcall.mono ?_;rintro e w' ⟨rfl,hb'⟩;replace hb':=below_then BW.out BW.out.size hb';go_wp2;go_ret;exact⟨_,rfl,⟨.inr ⟨kk,rfl,hlt,AA.out,by rw[HY.out];exact HQ.out⟩⟩,hb'⟩
      |false=>
        rw[hq] at hcall;have HQ:=aM hq;clear hq
        go_wp2_with fail
        refine hcall.mono ?_;rintro e w' ⟨rfl,hb'⟩;replace hb':=below_then BW.out BW.out.size hb';go_wp2
        go_roundg (l.length-(kk+1))
        case measure=>omega
        case rel=>exact⟨kk+1,by omega,by omega,by go_num,⟨hb'⟩,⟨any_take_succ p 0 l kk AA.out (by have:=HY.out;simp only[rd,Int.toNat_natCast] at this;rw[this];exact HQ.out)⟩⟩
    · have hltz:¬(kk:Int)<(l.length:Int):=by omega
      go_wp2;go_ret;exact⟨_,rfl,⟨.inl ⟨rfl,by simpa using any_whole p l kk (by omega) AA.out⟩⟩,BW.out⟩
theorem own_form {w:World} {base:Nat} {v:Value} {xs:List Int} (h:Kd.R (Kd.int .i64) 3 w base (fun _=>True) v xs) (h0:0<xs.length):∃g c,v=.slice (some ⟨g,0,none⟩) xs.length c∧base≤g∧g<w.heap.size∧xs.length≤c:=by
  have ho:=Kd.own_of_R h;obtain⟨g,c,e,hb,hg⟩:=ho.form h0;obtain⟨A,c',e',hc,_⟩:=Kd.R_reads h;subst e
  cases e'
  exact⟨g,c,rfl,hb,hg,hc⟩
def delL (p:Int->Bool) (zs:List Int) (j:Nat):List Int:=(zs.take j).filter fun x=>!p x
theorem delL_succ (p:Int->Bool) (zs:List Int) {j:Nat} (hj:j<zs.length):delL p zs (j+1)=delL p zs j++(if p (rd zs j)=true then [] else [rd zs j]):=by
  unfold delL;rw[List.take_add_one,List.filter_append,List.getElem?_eq_getElem hj];have:rd zs (j:Int)=zs[j]:=by simp[rd,List.getD,List.getElem?_eq_getElem hj]
  rw[this]
  cases hp:p zs[j]<;>simp[hp]
theorem delL_len (p:Int->Bool) (zs:List Int) (j:Nat):(delL p zs j).length≤j:=by
  unfold delL;exact Nat.le_trans (List.length_filter_le _ _) (List.length_take_le _ _)
def Mid (p:Int->Bool) (zs L:List Int) (j:Nat):Prop:=L.length=zs.length∧L.take (delL p zs j).length=delL p zs j∧L.drop j=zs.drop j
theorem Mid.keep {p:Int->Bool} {zs L:List Int} {j:Nat} (h:Mid p zs L j) (hj:j<zs.length) (hp:p (rd zs j)=true):Mid p zs L (j+1):=by
  obtain⟨h1,h2,h3⟩:=h;have e:delL p zs (j+1)=delL p zs j:=by rw[delL_succ p zs hj,if_pos hp,List.append_nil]
  refine⟨h1,by rw[e];exact h2,?_⟩;have:=congrArg (List.drop 1) h3
  rwa [List.drop_drop,List.drop_drop] at this
theorem Mid.put {p:Int->Bool} {zs L:List Int} {j:Nat} (h:Mid p zs L j) (hj:j<zs.length) (hp:p (rd zs j)=false):Mid p zs (L.set (delL p zs j).length (rd zs j)) (j+1):=by
  obtain⟨h1,h2,h3⟩:=h;have hl:=delL_len p zs j;have e:delL p zs (j+1)=delL p zs j++[rd zs j]:=by rw[delL_succ p zs hj,if_neg (by rw[hp];decide)]
  refine⟨by rw[List.length_set];exact h1,?_,?_⟩
  · rw[e,List.length_append,List.length_singleton];rw[List.take_add_one,List.take_set_of_le (Nat.le_refl _),h2];simp[List.getElem?_set,show(delL p zs j).length<L.length by omega]
  · rw[List.drop_set_of_lt (by omega)];have:=congrArg (List.drop 1) h3
    rwa [List.drop_drop,List.drop_drop] at this
theorem Mid.at_ {p:Int->Bool} {zs L:List Int} {j:Nat} (h:Mid p zs L j) (hj:j<zs.length):rd L j=rd zs j:=by
  have h3:=congrArg (fun l=>l[0]?) h.2.2;simp only[List.getElem?_drop,Nat.add_zero] at h3;simp[rd,List.getD,h3]
theorem Mid.start {p:Int->Bool} {zs:List Int} {k:Nat} (hk:k<zs.length) (h1:(zs.take k).any p=false) (h2:p (rd zs k)=true):Mid p zs zs (k+1)∧(delL p zs (k+1)).length=k:=by
  have hd:delL p zs k=zs.take k:=by
    unfold delL;rw[List.filter_eq_self];intro x hx;rw[List.any_eq_false] at h1
    simpa using h1 x hx
  have e:delL p zs (k+1)=zs.take k:=by rw[delL_succ p zs hk,if_pos h2,List.append_nil,hd]
  have hl:(zs.take k).length=k:=by rw[List.length_take];omega
  exact⟨⟨rfl,by rw[e,hl],rfl⟩,by rw[e,hl]⟩
theorem own_past {w:World} {base g m c:Nat} {e:TypeId} {xs:List Value} (h:w.ownsRow base e 1 (.slice (some ⟨g,0,none⟩) m c) m xs):∀(vs:List Value) (o:Nat),m≤o->∀(w1:World),w1.ownsRow base e 1 (.slice (some ⟨g,0,none⟩) m c) m xs->(w1.setCells g o vs).ownsRow base e 1 (.slice (some ⟨g,0,none⟩) m c) m xs
  |[],o,_,w1,h1=>h1
  |v::vs,o,ho,w1,h1=>by
    refine own_past h vs (o+1) (by omega) _ ?_;obtain⟨hl,h2⟩:=h1;refine⟨hl,.inr ?_⟩
    rcases h2 with⟨h2,_⟩|⟨g',cap,cur,e1,h3,h4,h5,h6,h7,h8⟩
    · cases h2
    · cases e1
      refine⟨g,c,cur.setIfInBounds o v,rfl,h3,blk_set h4 o v,h5,h6,by simpa using h7,?_⟩;rw[Array.toList_setIfInBounds,List.take_set_of_le (by omega)];exact h8
theorem R_past {w:World} {base g c:Nat} {xs:List Int} (h:Kd.R (Kd.int .i64) 3 w base (fun _=>True) (.slice (some ⟨g,0,none⟩) xs.length c) xs) (vs:List Value) (o:Nat) (ho:xs.length≤o):Kd.R (Kd.int .i64) 3 (w.setCells g o vs) base (fun _=>True) (.slice (some ⟨g,0,none⟩) xs.length c) xs:=
  Kd.R_of_own (own_past (Kd.own_of_R h) vs o ho w (Kd.own_of_R h)) (fun _ _=>trivial)
theorem below_setCells_k {B g:Nat} (hg:B≤g):∀(vs:List Value) (o:Nat) (w:World),Below B w (w.setCells g o vs)
  |[],_,w=>Below.refl _ _
  |v::vs,o,w=>((Below.refl B w).setCell (p:=⟨g,o,none⟩) hg v).trans (below_setCells_k hg vs (o+1) _)
theorem grown_of_belowD {w w':World} {row:Option Nat} (h:Below w.heap.size w w'):w.grownBy w' row:=⟨h.os,h.tape,h.output,h.size,fun k hk _=>h.block k hk⟩
theorem grown_setD (w:World) (p:Addr) (v:Value):w.grownBy (w.setCell p v) (some p.block):=⟨rfl,rfl,rfl,by simp[World.setCell],fun k hk hne=>Below.heap_setCell _ _ _ _ (fun e=>hne (by rw[e]))⟩
theorem grown_setCellsD {g:Nat}:∀(vs:List Value) (o:Nat) (w:World),w.grownBy (w.setCells g o vs) (some g)
  |[],_,w=>World.grownBy.refl _ _
  |v::vs,o,w=>World.grownBy.trans (grown_setD w ⟨g,o,none⟩ v) (grown_setCellsD vs (o+1) _)
set_option maxRecDepth 100000 in
set_option maxHeartbeats 1000000 in
theorem delFunc_any (v:Value) (zs:List Int) (g:Nat) (lb:Array Value) (p:Int->Bool) (base:Nat) (w:World) (hR:Kd.R (Kd.int .i64) 3 w base (fun _=>True) v zs) (hl:zs.length≤1000000) (hbase:base≤w.heap.size)
    (eg:∀args w,(callFunc g args).run Tryz.prog w=.ok (.enter g args) w) (hp:∀W x,Below base w W->w.grownBy W v.ownBlock->Calls Tryz.prog g (#[.int .i64 x]++lb) W fun e w'=>e=.returned (.bool (p x))∧Below W.heap.size W w'):
    Calls Tryz.prog 72 #[v,.func (.func g) #[] lb] w fun e w'=>∃v',e=.returned v'∧Aside0 (Kd.R (Kd.int .i64) 3 w' base (fun _=>True) v' (zs.filter fun x=>!p x))∧Below base w w'∧w.grownBy w' v.ownBlock∧v'.ownBlock=v.ownBlock:=by
  obtain⟨A,c,rfl,hc,hC⟩:=Kd.R_reads hR;have hI:=idxFirst A c zs g lb p w hC (by omega) eg (fun W x hW=>hp W x (hW.mono hbase) (grown_of_belowD hW));have HI:=aM hI;have HR:=aM hR;have HP:=aM hp;have HL:=aM hl;have HBS:=aM hbase;clear hI hR hp hC
  go_enter Tryz.func72,Tryz.ntmps72
  go_wp2_with fail
  refine HI.out.mono ?_;rintro e w1 ⟨i,rfl,Hi,hb1⟩;have HB1:=aM (hb1.mono hbase);have HG1:Aside0 (∀ row,w.grownBy w1 row):=⟨fun row=>grown_of_belowD hb1⟩;have HR1:=aM (Kd.R_below HR.out hb1);clear hb1
  rcases Hi.out with⟨hi,hn⟩|⟨k,hi,hk,hn,hy⟩
  · subst hi;have HN:=aM hn;clear hn;go_wp2;go_ret;refine⟨_,rfl,⟨?_⟩,HB1.out,HG1.out _,rfl⟩
    have:(zs.filter fun x=>!p x)=zs:=by
      rw[List.filter_eq_self];intro x hx;have:=HN.out;rw[List.any_eq_false] at this
      simpa using this x hx
    rw[this];exact HR1.out
  · subst hi;obtain⟨gb,c',ev,hgb,hgl,hcc⟩:=own_form HR1.out (by omega)
    cases ev
    have HM:=aM (Mid.start hk hn hy);have HK:=aM hk;have HG:=aM (And.intro hgb (And.intro hgl hcc));have k0:((k:Int)== -1)=false:=by rw[beq_eq_false_iff_ne];omega
    have k1:¬((k:Int)= -1):=by omega
    clear hk hn hy hgb hgl hcc Hi HR HI hc;obtain⟨i3,hi3,hz30,hz31,hz32⟩:=info_parts info3;have hk1:wrap64 ((k:Int)+1)=((k+1:Nat):Int):=by rw[IntWalk.wrap64_in _ (by have:=HK.out;have:=HL.out;omega)];simp
    go_upto_block 0 with(fail)
    rw[hk1];clear hk1 k0 k1;go_wp2
    go_loopg [5,6] (zs.length-(k+1)) (fun kq v5 v6 w'=>∃(j m:Nat) (L:List Int),v5=.int .i64 (m:Int)∧v6=.int .i64 (j:Int)∧Aside0 (j+kq=zs.length)∧Aside0 (m=(delL p zs j).length∧m<j)∧Aside0 (Mid p zs L j)∧Aside0 (Kd.R (Kd.int .i64) 3 w' base (fun _=>True) (.slice (some ⟨gb,0,none⟩) L.length c) L∧Below base w1 w'∧w1.grownBy w' (some gb)))
    case atStart=>exact⟨k+1,k,zs,rfl,rfl,⟨by have:=HK.out;omega⟩,⟨HM.out.2.symm,by omega⟩,⟨HM.out.1⟩,⟨HR1.out,Below.refl _ _,World.grownBy.refl _ _⟩⟩
    case round=>
      obtain⟨j,m,L,rfl,rfl,HJ,HMM,HMi,HRL⟩:=hrel
      cases gk with
      |zero=>
        have c3:decide ((j:Int)<(zs.length:Int))=false:=decide_eq_false (by have:=HJ.out;omega);have c4:¬(j<zs.length):=by have:=HJ.out;omega
        have hje:j=zs.length:=by have:=HJ.out;omega
        have HLE:Aside0 (L.length=zs.length∧L.take m=zs.filter (fun x=>!p x)∧m<zs.length):=⟨HMi.out.1,by rw[HMM.out.1,HMi.out.2.1];unfold delL;rw[hje,List.take_length],by have:=HMM.out.2;omega⟩;have hmz:(m:Int)<(zs.length:Int):=by have:=HLE.out.2.2;omega
        have hcut:∀W:World,(Instr.slice 30 (.slice (some ⟨gb,0,none⟩) zs.length c) (some (.int .i64 (m:Int))) none none).run Tryz.prog W=.ok (.slice (some ⟨gb,m,none⟩) (zs.length-m) (c-m)) W:=fun W=>by
          have:=cut_from (P:=Tryz.prog) 30 3 .i64 Tryz.underlying30 hi3 1 hz31 (some ⟨gb,0,none⟩) zs.length c (m:Int) (by omega) (by omega) W;rw[this,Int.toNat_natCast,if_neg (by have:=HG.out.2.2;omega)];simp[add_plain]
        have hcut2:∀W:World,(Instr.slice 30 (.slice (some ⟨gb,0,none⟩) zs.length c) none (some (.int .i64 (m:Int))) none).run Tryz.prog W=.ok (.slice (some ⟨gb,0,none⟩) m c) W:=fun W=>by
          have:=cut_to (P:=Tryz.prog) 30 3 .i64 Tryz.underlying30 hi3 (some ⟨gb,0,none⟩) zs.length c (m:Int) (by omega) (by omega) HG.out.2.2 W;rw[this,Int.toNat_natCast]
        have hclr:∀ty,(Builtin.clear_ #[30] ty #[.slice (some ⟨gb,m,none⟩) (zs.length-m) (c-m)]).run Tryz.prog wr=.ok (.tuple #[]) (wr.setCells gb m (List.replicate (zs.length-m) (.int .i64 0))):=fun ty=>by
          refine Lib.run_clear_slice wr 30 3 ty (.int .i64 0) Tryz.underlying30 (fun _=>by kernel_rfl) rfl rfl gb m _ _ (by omega) (fun q hq=>?_) (fun q hq=>?_)
          · have:=(Kd.R_cell (0:Int) HRL.out.1 ((m+q:Nat):Int) (by omega) (by rw[HLE.out.1];omega)).1;rw[Int.toNat_natCast] at this;rw[this];rfl
          · have:=(Kd.R_cell (0:Int) HRL.out.1 ((m+q:Nat):Int) (by omega) (by rw[HLE.out.1];omega)).2
            rwa [Int.toNat_natCast] at this
        clear hje hmz;go_wp2;go_ret;have h1:=Kd.R_take HRL.out.1 (m:=m) (by have:=HLE.out;omega);have hF:(zs.filter fun x=>!p x).length=m:=by rw[← HLE.out.2.1,List.length_take];have:=HLE.out;omega
        rw[HLE.out.2.1] at h1;obtain⟨F,hFe⟩:∃F,(zs.filter fun x=>!p x)=F:=⟨_,rfl⟩;rw[hFe] at h1 hF⊢;subst hF;exact⟨_,rfl,⟨R_past h1 _ _ (Nat.le_refl _)⟩,HB1.out.trans (HRL.out.2.1.trans (below_setCells_k HG.out.1 _ _ _)),(HG1.out _).trans (HRL.out.2.2.trans (grown_setCellsD _ _ _)),rfl⟩
      |succ k2=>
        have c3:decide ((j:Int)<(zs.length:Int))=true:=decide_eq_true (by have:=HJ.out;omega);have p1:(0:Int)≤(j:Int):=by omega
        have p2:(j:Int)<(zs.length:Int):=by have:=HJ.out;omega
        obtain⟨hcell,hfz⟩:=Kd.R_cell (0:Int) HRL.out.1 (j:Int) p1 (by rw[HMi.out.1];exact p2);rw[Int.toNat_natCast] at hcell;obtain⟨y,hy⟩:∃y,rd zs (j:Int)=y:=⟨_,rfl⟩;have hyy:rdOf (0:Int) L (j:Int)=y:=by rw[← hy];exact HMi.out.at_ (by omega)
        rw[hyy] at hcell;have HY:=aM hy;have hcall:=HP.out wr y (HB1.out.trans HRL.out.2.1) ((HG1.out _).trans HRL.out.2.2);clear hy hyy hfz;have q1:=eq_true p1;have q2:=eq_true p2
        cases hq:p y with
        |true=>
          rw[hq] at hcall;have HQ:=aM hq;clear hq
          go_wp2_with fail
          refine hcall.mono ?_;rintro e w3 ⟨rfl,hb3⟩;have HB3:=aM hb3;have HSZ:Aside0 (base≤wr.heap.size):=⟨Nat.le_trans HBS.out (Nat.le_trans HB1.out.size HRL.out.2.1.size)⟩;clear hb3;go_wp2
          go_roundg k2
          case measure=>omega
          case rel=>exact⟨j+1,m,L,rfl,(by rw[Int.natCast_add,Int.natCast_one]),⟨by have:=HJ.out;omega⟩,⟨by rw[HMM.out.1,delL_succ p zs (by have:=HJ.out;omega),if_pos (by rw[HY.out];exact HQ.out),List.append_nil],by have:=HMM.out.2;omega⟩,⟨HMi.out.keep (by have:=HJ.out;omega) (by rw[HY.out];exact HQ.out)⟩,⟨Kd.R_below HRL.out.1 HB3.out,HRL.out.2.1.trans (HB3.out.mono HSZ.out),HRL.out.2.2.trans (grown_of_belowD HB3.out)⟩⟩
        |false=>
          rw[hq] at hcall;have HQ:=aM hq;clear hq
          go_wp2_with fail
          refine hcall.mono ?_;rintro e w3 ⟨rfl,hb3⟩;have HR3:=aM (Kd.R_below HRL.out.1 hb3);have HB3:=aM hb3;have HSZ:Aside0 (base≤wr.heap.size):=⟨Nat.le_trans HBS.out (Nat.le_trans HB1.out.size HRL.out.2.1.size)⟩;clear hb3 hcell;have hmz:(m:Int)<(zs.length:Int):=by have:=HMM.out.2;omega
          obtain⟨zc,zf⟩:=Kd.R_cell (0:Int) HR3.out (m:Int) (by omega) (by rw[HMi.out.1];exact hmz);rw[Int.toNat_natCast] at zc zf;have q4:=eq_true hmz;have q5:((0:Int)≤(m:Int))=True:=eq_true (by omega);go_wp2
          go_roundg k2
          case measure=>omega
          case rel=>
            have hd:delL p zs (j+1)=delL p zs j++[y]:=by rw[delL_succ p zs (by have:=HJ.out;omega),if_neg (by rw[HY.out,HQ.out];decide),HY.out]
            have hmid:=HMi.out.put (by have:=HJ.out;omega) (by rw[HY.out];exact HQ.out);rw[← HMM.out.1,HY.out] at hmid;have hput:=(Kd.R_put HR3.out (m:Int) y).1;rw[Int.toNat_natCast] at hput;exact⟨j+1,m+1,L.set m y,(by rw[Int.natCast_add,Int.natCast_one]),(by rw[Int.natCast_add,Int.natCast_one]),⟨by have:=HJ.out;omega⟩,⟨by rw[hd,List.length_append,HMM.out.1];rfl,by have:=HMM.out.2;omega⟩,⟨hmid⟩,⟨by rw[List.length_set];exact hput,(HRL.out.2.1.trans (HB3.out.mono HSZ.out)).setCell HG.out.1 _,(HRL.out.2.2.trans (grown_of_belowD HB3.out)).trans (grown_setD _ _ _)⟩⟩
end Go.Proofs.YtjioobfeikbffabGreatDoor.K
end
section
namespace Go.Proofs.YtjioobfeikbffabGreatDoor.K
open Go.RowKit Go.Shelf Go.Proofs.Zw Go.Proofs.Zl Go.Proofs.Zm
open Dr
attribute [local simp] clsA
set_option maxRecDepth 100000 in
set_option maxHeartbeats 1000000 in
theorem soon_any {w:World} {I:Int} {A1 A2:Option Addr} {c1 c2:Nat} {N:List SN} {O:List SO} {Bt Br g:Nat} {ran:List Int} (ht:w.heap[Bt]? =some (.cells #[.int .i64 I,.slice A1 N.length c1,.slice A2 O.length c2] 25 (0,0))) (r2:Kd.C k51 w A2 O.length O)
    (hb:w.heap[Br]? =some (.cells #[.slice (some ⟨g,0,none⟩) O.length O.length] 30 (0,0))) (hr:OwnI w g (.slice (some ⟨g,0,none⟩) O.length O.length) ran) (hl:ran.length=O.length) {a b:Int} (a0:0≤a) (a1:a<O.length) (b0:0≤b) (b1:b<O.length):
    Calls Tryz.prog 70 #[.int .i64 a,.int .i64 b,.pointer (some ⟨Br,0,none⟩),.pointer (some ⟨Bt,0,none⟩)] w fun e w'=>e=.returned (.bool (soonB O ran a b))∧Below w.heap.size w w':=by
  have hu1:=Tryz.underlying25;have hu3:=Tryz.underlying51;obtain⟨ad,ea,u0,u1,u2⟩:=at_T51 r2 a a0 a1;obtain⟨bd,eb,v0,v1,v2⟩:=at_T51 r2 b b0 b1;subst ea
  cases eb
  have hra:=(Kd.R_celln (0:Int) hr a a0 a1).1;have hrb:=(Kd.R_celln (0:Int) hr b b0 b1).1;obtain⟨ra,hra2⟩:∃ra,rd ran a=ra:=⟨_,rfl⟩;obtain⟨rb,hrb2⟩:∃rb,rd ran b=rb:=⟨_,rfl⟩
  change w.cell? _=some (.int .i64 (rd ran a)) at hra
  change w.cell? _=some (.int .i64 (rd ran b)) at hrb
  change w.cell? _=some (.int .i64 (rdO O a).f2) at u2
  change w.cell? _=some (.int .i64 (rdO O b).f2) at v2
  obtain⟨ca,hca⟩:∃ca,(rdO O a).f2=ca:=⟨_,rfl⟩;obtain⟨cb,hcb⟩:∃cb,(rdO O b).f2=cb:=⟨_,rfl⟩;have HS:Aside0 (soonB O ran a b=if ra=rb then decide (ca<cb) else decide (ra<rb)):=⟨by unfold soonB;rw[hra2,hrb2,hca,hcb]⟩;rw[hra2] at hra;rw[hrb2] at hrb;rw[hca] at u2;rw[hcb] at v2;have x0:∀X:After w,X.W.cell? ⟨Br,0,none⟩=some (.slice (some ⟨g,0,none⟩) O.length O.length):=fun X=>X.cell ((blk_cell hb 0).trans rfl);have x1:∀X:After w,X.W.cell? ⟨Bt,2,none⟩=some (.slice (some ad) O.length c2):=fun X=>X.cell ((blk_cell ht 2).trans rfl);replace hra:=fun X:After w=>X.cell' hra;replace hrb:=fun X:After w=>X.cell' hrb;replace u2:=fun X:After w=>X.cell' u2;replace v2:=fun X:After w=>X.cell' v2;have q1:=eq_true a0;have q2:=eq_true a1;have q3:=eq_true b0;have q4:=eq_true b1;clear hra2 hrb2 hca hcb u0 u1 v0 v1 ht hb hr r2 hl
  go_enter Tryz.func70,Tryz.ntmps70
  go_upto_region 1 with(fail)
  refine wp_region_after (by kernel_rfl) (by kernel_rfl) ?_;(repeat (go_big_quiet_step (fail)));refine wpQuiet_nil ?_;intro X
  by_cases e:ra=rb
  · have HE:Aside0 (soonB O ran a b=decide (ca<cb)):=⟨by rw[HS.out,if_pos e]⟩;have c1:(ra !=rb)=false:=by simp[e]
    clear e HS
    go_upto_region 3 with(fail)
    replace x1:=fun Y:After X.W=>Y.cell (x1 X);replace u2:=fun Y:After X.W=>Y.cell' (u2 X);replace v2:=fun Y:After X.W=>Y.cell' (v2 X);refine wp_region_after (by kernel_rfl) (by kernel_rfl) ?_;(repeat (go_big_quiet_step (fail)));refine wpQuiet_nil ?_;intro Y;go_wp2;go_ret;exact⟨by rw[HE.out];rfl,below_step X.hb Y.hb⟩
  · have HE:Aside0 (soonB O ran a b=decide (ra<rb)):=⟨by rw[HS.out,if_neg e]⟩;have c1:(ra !=rb)=true:=by simp[e]
    clear e HS
    go_upto_region 2 with(fail)
    replace x0:=fun Y:After X.W=>Y.cell (x0 X);replace hra:=fun Y:After X.W=>Y.cell' (hra X);replace hrb:=fun Y:After X.W=>Y.cell' (hrb X);refine wp_region_after (by kernel_rfl) (by kernel_rfl) ?_;(repeat (go_big_quiet_step (fail)));refine wpQuiet_nil ?_;intro Y;go_wp2;go_ret;exact⟨by rw[HE.out];rfl,below_step X.hb Y.hb⟩
def LtB (g:Nat) (lb:Array Value) (l:List Int) (lt:Int->Int->Bool) (w:World):Prop:=
  ∀(W:World) (x y:Int),x∈l->y∈l->Below w.heap.size w W->Calls Tryz.prog g (#[.int .i64 x,.int .i64 y]++lb) W fun e w'=>e=.returned (.bool (lt x y))∧Below W.heap.size W w'
theorem best_any (A:Option Addr) (c:Nat) (l:List Int) (g:Nat) (lb:Array Value) (lt:Int->Int->Bool) (w:World) (hC:Kd.C (Kd.int .i64) w A l.length l) (h0:0<l.length) (hl:l.length≤1000000)
    (eg:∀args w,(callFunc g args).run Tryz.prog w=.ok (.enter g args) w) (hp:LtB g lb l lt w):
    Calls Tryz.prog 71 #[.slice A l.length c,.func (.func g) #[] lb] w fun e w'=>e=.returned (.int .i64 (bestL lt l))∧Below w.heap.size w w':=by
  have HC:=aM hC;have HP:=aM hp;have HL:=aM hl;have H0:=aM h0;obtain⟨ad,ea,x0⟩:=Kd.at_int hC 0 (by omega) (by omega);subst ea;replace x0:w.cell? ad=some (.int .i64 (bestTo lt l 0)):=x0;have q0:((0:Int)<(l.length:Int))=True:=eq_true (by omega);have q1:(0<l.length)=True:=eq_true h0;clear hC hp hl h0
  go_enter Tryz.func71,Tryz.ntmps71
  go_wp2
  go_loopg [5,13] l.length (fun kq v5 v13 w'=>∃j:Nat,v5=.int .i64 (bestTo lt l j)∧v13=.int .i64 (j:Int)∧Aside0 (j+kq=l.length)∧Aside0 (Below w.heap.size w w'))
  case atStart=>exact⟨0,rfl,rfl,⟨by omega⟩,⟨Below.refl _ _⟩⟩
  case round=>
    obtain⟨j,rfl,rfl,HJ,HW⟩:=hrel;clear x0 q0 q1
    cases gk with
    |zero=>
      have c3:decide ((j:Int)<(l.length:Int))=false:=decide_eq_false (by have:=HJ.out;omega);have c4:¬(j<l.length):=by have:=HJ.out;omega
      have HE:Aside0 (bestTo lt l j=bestL lt l):=⟨by rw[show j=l.length by have:=HJ.out;omega];rfl⟩;go_wp2;go_ret;exact⟨by rw[HE.out];rfl,HW.out⟩
    |succ k2=>
      have hjn:j<l.length:=by have:=HJ.out;omega
      have c3:decide ((j:Int)<(l.length:Int))=true:=decide_eq_true (by omega);have p1:(0:Int)≤(j:Int):=by omega
      have p2:(j:Int)<(l.length:Int):=by omega
      obtain⟨ad2,ea2,y0⟩:=Kd.at_int (Kd.C_below HC.out HW.out) (j:Int) p1 p2
      cases ea2
      rw[Int.toNat_natCast] at y0;have hm1:=rd_in hjn;have hm2:=best_in (lt:=lt) H0.out j (by omega);have hb:=best_step (lt:=lt) hjn;have hcall:=HP.out wr (rd l (j:Int)) (bestTo lt l j) hm1 hm2 HW.out;generalize rd l (j:Int)=x at *;generalize bestTo lt l j=b at *;have HB:=aM hb;have hw1:wrap64 ((j:Int)+1)=((j+1:Nat):Int):=by rw[IntWalk.wrap64_in _ (by have:=HL.out;omega)];omega
      have q1:=eq_true p1;have q2:=eq_true p2;clear hm1 hm2 hb
      cases hq:lt x b with
      |true=>
        rw[hq] at hcall;have HQ:=aM hq;clear hq
        go_wp2_with fail
        refine hcall.mono ?_;rintro e w' ⟨rfl,hb'⟩;have HB':=aM (below_step HW.out hb');clear hb' hcall;go_wp2
        go_roundg k2
        case measure=>omega
        case rel=>exact⟨j+1,(by rw[HB.out,if_pos HQ.out]),(by first|rfl|rw[hw1]|(rw [Int.natCast_add];rfl)),⟨by have:=HJ.out;omega⟩,HB'⟩
      |false=>
        rw[hq] at hcall;have HQ:=aM hq;clear hq
        go_wp2_with fail
        refine hcall.mono ?_;rintro e w' ⟨rfl,hb'⟩;have HB':=aM (below_step HW.out hb');clear hb' hcall;go_wp2
        go_roundg k2
        case measure=>omega
        case rel=>exact⟨j+1,(by rw[HB.out,if_neg (by rw[HQ.out];decide)]),(by first|rfl|rw[hw1]|(rw [Int.natCast_add];rfl)),⟨by have:=HJ.out;omega⟩,HB'⟩
end Go.Proofs.YtjioobfeikbffabGreatDoor.K
end
section
namespace Go.Proofs.YtjioobfeikbffabGreatDoor.K
open Go.RowKit Go.Shelf Go.Proofs.Zw Go.Proofs.Zl Go.Proofs.Zm
open Dr
abbrev kDay:Kd (List Int):=Kd.slice 3 (Kd.int .i64)
structure TuW (w:World) (I:Int) (A1 A2:Option Addr) (c1 c2:Nat) (N:List SN) (O:List SO) (g:Nat) (W:World):Prop where
 hb:Below w.heap.size w W
 lt:w.heap.size<g
 t:W.heap[w.heap.size]? =some (.cells #[.int .i64 I,.slice A1 N.length c1,.slice A2 O.length c2] 25 (0,0))
 r:W.heap[g+1]? =some (.cells #[.slice (some ⟨g,0,none⟩) O.length O.length] 30 (0,0))
theorem TuW.kb {w:World} {I:Int} {A1 A2:Option Addr} {c1 c2:Nat} {N:List SN} {O:List SO} {g:Nat} {W W1:World} {M:Nat->Prop} (h:TuW w I A1 A2 c1 c2 N O g W) (hk:KB M W W1) (hM:∀k,M k->k=g∨g+1<k):TuW w I A1 A2 c1 c2 N O g W1:=
 ⟨h.hb.trans (hk.below h.hb.size (fun k h1 h2=>by have:=hM k h2;have:=h.lt;omega)),h.lt,hk.at h.t (fun h2=>by have:=hM _ h2;have:=h.lt;omega),hk.at h.r (fun h2=>by have:=hM _ h2;omega)⟩
theorem R_blk {α:Type} {d:Kd α} {e:Nat} {w:World} {base:Nat} {ok:Nat->Prop} {v:Value} {xs:List α} (h:d.R e w base ok v xs) {k:Nat} (hk:v.ownBlock=some k):base≤k∧k<w.heap.size:=by
 obtain⟨i,ho⟩:=Kd.R_own h;exact⟨own_base ho k hk,own_lt ho k hk⟩
theorem turns_small (I:Int) (N:List SN) (O:List SO) {i:Nat} (hi:i<O.length):∀d,0≤rd (turnsF I N O d).2 (i:Int)∧rd (turnsF I N O d).2 (i:Int)≤d
 |0=>by simp[turnsF,zerosF,rd,List.getD,hi]
 |d+1=>by
  have ih:=turns_small I N O hi d;simp only[turnsF];rw[bump_at (by rw[(turns_len I N O d).2];exact hi)]
  split<;>omega
structure TuI (w:World) (I:Int) (A1 A2:Option Addr) (c1 c2:Nat) (N:List SN) (O:List SO) (g d:Nat) (v8:Value) (W:World):Prop where
 tw:TuW w I A1 A2 c1 c2 N O g W
 ran:OwnI W g (.slice (some ⟨g,0,none⟩) O.length O.length) (turnsF I N O d).2
 out:Kd.R kDay 30 W (g+2) (fun _=>True) v8 (turnsF I N O d).1
 sz:g+2≤W.heap.size
theorem TuI.below {w:World} {I:Int} {A1 A2:Option Addr} {c1 c2:Nat} {N:List SN} {O:List SO} {g d:Nat} {v8:Value} {W W1:World} (h:TuI w I A1 A2 c1 c2 N O g d v8 W) (hb:Below W.heap.size W W1):TuI w I A1 A2 c1 c2 N O g d v8 W1:=
 ⟨h.tw.kb (KB.of_below (M:=fun _=>False) hb) (fun _ h=>h.elim),h.ran.kb (KB.of_below (M:=fun _=>False) hb) (fun _ _ h=>h),Kd.R_below h.out hb,Nat.le_trans h.sz hb.size⟩
theorem TuI.lt {w:World} {I:Int} {A1 A2:Option Addr} {c1 c2:Nat} {N:List SN} {O:List SO} {g d:Nat} {v8:Value} {W:World} (h:TuI w I A1 A2 c1 c2 N O g d v8 W) (H:TrW w I A1 A2 c1 c2 N O):
  LtB 70 #[.pointer (some ⟨g+1,0,none⟩),.pointer (some ⟨w.heap.size,0,none⟩)] (allTo O.length) (soonB O (turnsF I N O d).2) W:=fun W' x y hx hy hb=>by
 have h':=h.below hb;have hx:=all_mem.1 hx;have hy:=all_mem.1 hy;exact soon_any h'.tw.t (Kd.C_below H.r2 h'.tw.hb) h'.tw.r h'.ran (turns_len I N O d).2 hx.1 hx.2 hy.1 hy.2
theorem all_succ (j:Nat):allTo (j+1)=allTo j++[(j:Int)]:=by simp[allTo,List.range_succ]
structure DayJ (I:Int) (N:List SN) (O:List SO) (ran left dd:List Int) (n:Nat):Prop where
 nd:left.Nodup
 inn:∀z∈left,z∈allTo O.length∧z∉dd
 nn:n+left.length≤O.length
 fin:dayF I N O ran left.length left dd=dayOf I N O ran
theorem DayJ.start (I:Int) (N:List SN) (O:List SO) (ran:List Int):DayJ I N O ran (allTo O.length) [] 0:=
 ⟨all_nodup _,fun z hz=>⟨hz,by simp⟩,by rw[all_len];omega,by rw[all_len];rfl⟩
theorem DayJ.next {I:Int} {N:List SN} {O:List SO} {ran left dd:List Int} {n:Nat} (h:DayJ I N O ran left dd n) (hne:left≠[]):DayJ I N O ran (dropL left (bestL (soonB O ran) left)) (takeD I N O dd (bestL (soonB O ran) left)) (n+1):=by
 have hb:=bestL_mem (lt:=soonB O ran) hne;have hl:=drop_len h.nd hb;refine⟨drop_nodup h.nd,fun z hz=>?_,by have:=h.nn;omega,?_⟩
 ·obtain⟨h1,h2⟩:=drop_mem.1 hz;refine⟨(h.inn z h1).1,fun hm=>?_⟩
  rcases take_mem hm with h3|h3
  ·exact(h.inn z h1).2 h3
  ·exact h2 h3
 ·have:=h.fin;rw[← hl] at this;exact this
set_option maxRecDepth 100000 in
set_option maxHeartbeats 4000000 in
theorem turns_any {w:World} {I:Int} {D:Nat} {A1 A2:Option Addr} {c1 c2:Nat} {N:List SN} {O:List SO} (h:TrW w I A1 A2 c1 c2 N O) (ht:treeB I N O=true) (d1:D≤10):
  Calls Tryz.prog 32 #[.agg #[.int .i64 I,.slice A1 N.length c1,.slice A2 O.length c2],.int .i64 (D:Int)] w fun e w'=>∃v,e=.returned (.tuple #[v,.int .i64 0])∧Kd.R kDay 30 w' w.heap.size (fun _=>True) v (turnsF I N O D).1∧Below w.heap.size w w':=by
 have hu1:=Tryz.underlying25;have hu2:=Tryz.underlying99;have hmm:=@run_makeMap Tryz.prog;have hmf:∀(fn:Fn) (first cap:Array Value) (w:World),(Instr.makeFunc fn first cap).run Tryz.prog w=.ok (.func fn first cap) w:=fun _ _ _ _=>rfl;have hol:=h.ol;have hmk:=print_make (P:=Tryz.prog) 30 3 .i64 8 Tryz.underlying30 info3 (by omega) O.length (by omega);have HOK:=aM (tree_ok ht);have HD:=aM d1
 have CT:Aside0 (∀ W,Below w.heap.size w W->Calls Tryz.prog 59 #[.agg #[.int .i64 I,.slice A1 N.length c1,.slice A2 O.length c2]] W fun e w'=>e=.returned (.bool true)∧Below W.heap.size W w'):=⟨fun W hb=>
  d7_isTree.calls I A1 c1 N A2 c2 O true W (Kd.C_below h.r1 hb) h.l1 (Kd.C_below h.r2 hb) h.l2 (by unfold d7_isTree.f;rw[if_pos ⟨by have:=h.nl;omega,by omega⟩,ht])⟩
 have CI:Aside0 (∀ W,Calls Tryz.prog 69 #[.int .i64 (D:Int),.int .i64 0,.int .i64 10] W fun e w'=>e=.returned (.bool true)∧W=w'):=⟨fun W=>(in_any (D:Int) 0 10 W).mono (fun e w' he=>⟨by rw[he.1];simp[inB];omega,he.2⟩)⟩;have H:=aM h;clear h ht d1
 go_enter Tryz.func32,Tryz.ntmps32
 go_upto_region 1 with(fail)
 generalize hW0:World.alloc w _=W0;have HB0:Aside0 (Below w.heap.size w W0):=⟨by rw[← hW0];exact(Below.refl _ _).alloc (Nat.le_refl _) _⟩;have HT0:Aside0 (W0.heap[w.heap.size]? =some (.cells #[.int .i64 I,.slice A1 N.length c1,.slice A2 O.length c2] 25 (0,0))):=⟨by rw[← hW0];exact blk_new _ _⟩;clear hW0;have y0:W0.cell? ⟨w.heap.size,0,none⟩=some (.int .i64 I):=(blk_cell HT0.out 0).trans rfl;have y1:W0.cell? ⟨w.heap.size,1,none⟩=some (.slice A1 N.length c1):=(blk_cell HT0.out 1).trans rfl;have y2:W0.cell? ⟨w.heap.size,2,none⟩=some (.slice A2 O.length c2):=(blk_cell HT0.out 2).trans rfl
 go_upto_region 3 with(first|(go_at_call 59;refine(CT.out _ HB0.out).mono ?_;rintro e w1 ⟨rfl,hb1⟩;have HB1:=aM (below_step HB0.out hb1);have HT1:=aM (blk_below HT0.out hb1);clear hb1)|(go_at_call 69;refine(CI.out _).mono ?_;rintro e w2 ⟨rfl,rfl⟩))
 clear y0 y1 y2 HT0 HB0;have y2:w1.cell? ⟨w.heap.size,2,none⟩=some (.slice A2 O.length c2):=(blk_cell HT1.out 2).trans rfl;obtain⟨g,hg⟩:∃g,w1.heap.size=g:=⟨_,rfl⟩
 go_upto_region 4 with(fail)
 generalize hW4:World.alloc (World.alloc w1 _) _=W4
 have HI4:Aside0 (TuI w I A1 A2 c1 c2 N O g 0 (.slice none 0 0) W4):=⟨by
  have hbx:=blk_new (w1.alloc (.cells (madeCells #[.int .i64 0] O.length) 3)) (.cells #[.slice (some ⟨g,0,none⟩) O.length O.length] 30);rw[World.size_alloc,hg,hW4] at hbx;have hr:=own_made w1 w1.heap.size 3 .i64 O.length (Nat.le_refl _) (by omega)
  have hr2:OwnI (w1.alloc (.cells (madeCells #[.int .i64 0] O.length) 3)) g (.slice (some ⟨g,0,none⟩) O.length O.length) (zerosF O.length):=by
   unfold zerosF;rw[← hg];exact Kd.R_of_own (by rw[List.length_replicate];exact hr) (fun _ _=>trivial)
  refine⟨⟨?_,by rw[← hg];exact blk_lt HT1.out,?_,hbx⟩,?_,Kd.R_nil _ _ _ _ _,?_⟩
  ·rw[← hW4];exact(HB1.out.alloc HB1.out.size _).alloc (by have:=HB1.out.size;simp;omega) _
  ·rw[← hW4];exact blk_alloc (blk_alloc HT1.out _) _
  ·rw[← hW4];exact hr2.kb (KB.alloc (M:=fun _=>False) _ _) (fun _ _ h=>h)
  ·rw[← hW4,World.size_alloc,World.size_alloc,hg];omega⟩
 clear hW4 hmk y2 HT1 HB1 hg;go_wp2
 go_loopg [8,29] D (fun kq v8 v29 w'=>∃d:Nat,v29=.int .i64 (d:Int)∧Aside0 (d+kq=D)∧Aside0 (TuI w I A1 A2 c1 c2 N O g d v8 w'))
 case atStart=>exact⟨0,rfl,⟨by omega⟩,HI4⟩
 case round=>
  clear HI4;obtain⟨d,rfl,HDD,HI⟩:=hrel;obtain⟨A8,c8,e8⟩:=Kd.R_slice HI.out.out;subst e8
  cases gk with
  |zero=>
   have c3:decide ((d:Int)<(D:Int))=false:=decide_eq_false (by have:=HDD.out;omega);have c4:¬(d<D):=by have:=HDD.out;omega
   go_wp2
   go_ret2
   refine⟨_,rfl,?_,HI.out.tw.hb⟩;have:=HI.out.out;have hl:=HI.out.tw.lt;rw[show d=D by have:=HDD.out;omega] at this⊢;exact Kd.R_lower this (by omega)
  |succ k2=>
   have c3:decide ((d:Int)<(D:Int))=true:=decide_eq_true (by have:=HDD.out;omega);have c4:d<D:=by have:=HDD.out;omega
   have y2:wr.cell? ⟨w.heap.size,2,none⟩=some (.slice A2 O.length c2):=(blk_cell HI.out.tw.t 2).trans rfl;go_wp2;clear y2 c3 c4;obtain⟨wO,rfl⟩:∃wO:World,wO=wr:=⟨_,rfl⟩
   go_loopg [9,34] O.length (fun kq v9 v34 w'=>∃j:Nat,v34=.int .i64 (j:Int)∧Aside0 (j+kq=O.length)∧Aside0 (OwnI w' wO.heap.size v9 (allTo j))∧Aside0 (Below wO.heap.size wO w'))
   case atStart=>exact⟨0,rfl,⟨by omega⟩,⟨Kd.R_nil _ _ _ _ _⟩,⟨Below.refl _ _⟩⟩
   case round=>
    obtain⟨j,rfl,HJ,HL,HW⟩:=hrel;obtain⟨A9,c9,e9⟩:=Kd.R_slice HL.out;subst e9
    cases gk with
    |succ k3=>
     have c3:decide ((j:Int)<(O.length:Int))=true:=decide_eq_true (by have:=HJ.out;omega);have c4:j<O.length:=by have:=HJ.out;omega
     have hw1:wrap64 ((j:Int)+1)=((j+1:Nat):Int):=by rw[IntWalk.wrap64_in _ (by omega)];omega
     go_wp2_with (first|((with_reducible refine gate_builtin (b:=.append) (xs:=#[.tmp 37,.tmp 39]) rfl ?_);at_builtin;(refine Kd.R_append (Kd.int .i64) (w0:=wO) wO.heap.size rfl (.tmp 37) (.tmp 39) 30 3 (.int .i64 0) 8 rfl Tryz.underlying30 info3 rfl (by decide) (by omega) (.slice A9 (allTo j).length c9) (allTo j) (j:Int) [.int .i64 (j:Int)] (fun _=>True) (fun _=>False) rfl rfl ?aP (fun _ hk=>hk.elim) ?aF ?aO ?aB ?aS ?aL ?_);(case aP=>exact rfl);(case aB=>exact HW.out);(case aF=>exact(fun _ _=>trivial));(case aO=>exact HL.out);(case aS=>exact HW.out.size);(case aL=>rw[all_len];omega);intro vA wA ho hbA hgA hatA))
     go_roundg k3
     case measure=>omega
     case rel=>exact⟨j+1,(by first|rfl|rw[hw1]|(rw [Int.natCast_add];rfl)),⟨by have:=HJ.out;omega⟩,⟨by rw[all_succ];exact ho⟩,⟨hbA⟩⟩
    |zero=>
     have c3:decide ((j:Int)<(O.length:Int))=false:=decide_eq_false (by have:=HJ.out;omega);have c4:¬(j<O.length):=by have:=HJ.out;omega
     have HL2:Aside0 (OwnI wr wO.heap.size (.slice A9 (allTo j).length c9) (allTo O.length)):=⟨by have:=HL.out;rw[show O.length=j by have:=HJ.out;omega];exact this⟩;obtain⟨b,hb⟩:∃b,wr.heap.size=b:=⟨_,rfl⟩
     go_upto_block 4 with(fail)
     (try rw[hb]);generalize hW9:World.alloc wr _=W9;have HB9:Aside0 (Below wO.heap.size wO W9∧wO.heap.size≤b):=⟨by rw[← hW9];exact HW.out.alloc HW.out.size _,by rw[← hb];exact HW.out.size⟩;have HM9:Aside0 (IntsB W9 b 0 (fun _=>false)):=⟨by rw[← hW9,←hb];exact ints_made wr⟩;have HL9:Aside0 (OwnI W9 wO.heap.size (.slice A9 (allTo j).length c9) (allTo O.length)∧(Value.slice A9 (allTo j).length c9).ownBlock≠some b):=⟨by rw[← hW9];exact HL2.out.kb (KB.alloc (M:=fun _=>False) _ _) (fun _ _ h=>h),fun e=>by have:=(HL2.out.blk e).2;omega⟩;clear hW9 hb HL HL2 HW;go_wp2;clear c3 c4
     go_loopg [9] O.length (fun kq v9 w'=>∃(left dd:List Int) (n:Nat) (f:Int->Bool),Aside0 (left.length=kq∧DayJ I N O (turnsF I N O d).2 left dd n)∧Aside0 (OwnI w' wO.heap.size v9 left∧v9.ownBlock≠some b)∧Aside0 (IntsB w' b n f∧∀z,f z=decide (z∈dd))∧Aside0 (Below wO.heap.size wO w'))
     case atStart=>exact⟨allTo O.length,[],0,_,⟨all_len _,DayJ.start _ _ _ _⟩,HL9,⟨HM9.out,fun z=>by simp⟩,⟨HB9.out.1⟩⟩
     case round=>
      clear HL9 HM9;obtain⟨left,dd,n,f,HLD,HL,HM,HW⟩:=hrel;obtain⟨A9,c9,e9⟩:=Kd.R_slice HL.out.1;subst e9
      cases gk with
      |succ k3=>
       have hlen:left.length=k3+1:=HLD.out.1;have hne:left≠[]:=by intro e;rw[e] at hlen;cases hlen
       have c3:decide ((0:Int)<(left.length:Int))=true:=decide_eq_true (by omega);have c4:0<left.length:=by omega
       have HIW:=aM (HI.out.below HW.out);obtain⟨_,_,e9,hlc9,hC9⟩:=Kd.R_reads HL.out.1
       cases e9
       have hin:=fun z hz=>HLD.out.2.inn z hz;have CB:=best_any A9 c9 left 70 #[.pointer (some ⟨g+1,0,none⟩),.pointer (some ⟨w.heap.size,0,none⟩)] (soonB O (turnsF I N O d).2) wr hC9 (by omega) (by have:=HLD.out.2.nn;omega) (enters_of Tryz.func70 (by kernel_rfl) rfl) (fun W' x y hx hy hbb=>(HIW.out.lt H.out) W' x y (hin x hx).1 (hin y hy).1 hbb);have hnx:=HLD.out.2.next hne;have him:=bestL_mem (lt:=soonB O (turnsF I N O d).2) hne;obtain⟨i,hi⟩:∃i,bestL (soonB O (turnsF I N O d).2) left=i:=⟨_,rfl⟩;rw[hi] at CB hnx him;have HNX:=aM hnx;have him2:=hin i him;have hia:=all_mem.1 him2.1;have HIA:=aM (And.intro him2.2 (And.intro hia (drop_len HLD.out.2.nd him)));have CB:=aM CB;clear hi hnx him him2 hia hin hC9 hlc9 hne hlen
       go_upto_region 17 with(go_at_call 71;refine CB.out.mono ?_;rintro e w2 ⟨rfl,hb2⟩)
       clear c3 c4;have HB2:=aM hb2;obtain⟨x3,hx3⟩:∃x3,w2.heap.size=x3:=⟨_,rfl⟩;(try rw[hx3]);generalize hW3:World.alloc w2 _=W3;have HB3:Aside0 (Below wr.heap.size wr W3∧wr.heap.size≤x3):=⟨by rw[← hW3];exact hb2.alloc hb2.size _,by rw[← hx3];exact hb2.size⟩;have HX3:Aside0 (W3.heap[x3]? =some (.cells #[.int .i64 i] 3 (0,0))):=⟨by rw[← hW3,←hx3];exact blk_new _ _⟩;have HL3:=aM (HL.out.1.kb (KB.of_below (M:=fun _=>False) HB3.out.1) (fun _ _ h=>h));have HNB:Aside0 ((Value.slice A9 left.length c9).ownBlock≠some x3):=⟨fun e=>by have:=(HL.out.1.blk e).2;have:=HB3.out.2;omega⟩;have HM3:Aside0 (IntsB W3 b n f):=⟨HM.out.1.below HB3.out.1⟩;have HBO3:Aside0 (Below wO.heap.size wO W3):=⟨HW.out.trans (HB3.out.1.mono HW.out.size)⟩;clear hW3 hx3 hb2
       have CD:Aside0 (Calls Tryz.prog 72 #[.slice A9 left.length c9,.func (.func 73) #[] #[.pointer (some ⟨x3,0,none⟩)]] W3 fun e w'=>∃v',e=.returned v'∧Aside0 (Kd.R (Kd.int .i64) 3 w' wO.heap.size (fun _=>True) v' (left.filter fun x=>!(x==i)))∧Below wO.heap.size W3 w'∧W3.grownBy w' (Value.slice A9 left.length c9).ownBlock∧v'.ownBlock=(Value.slice A9 left.length c9).ownBlock):=⟨
        delFunc_any _ left 73 #[.pointer (some ⟨x3,0,none⟩)] (fun x=>x==i) wO.heap.size W3 HL3.out (by have:=HLD.out.2.nn;omega) HBO3.out.size (enters_of Tryz.func73 (by kernel_rfl) rfl) (fun W' x hW hGW=>by
         have hX:=blk_grown HX3.out hGW (fun e=>HNB.out e.symm);have y0:W'.cell? ⟨x3,0,none⟩=some (.int .i64 i):=(blk_cell hX 0).trans rfl;clear hX hGW hW
         show Calls Tryz.prog 73 #[.int .i64 x,.pointer (some ⟨x3,0,none⟩)] W' _
         go_enter Tryz.func73,Tryz.ntmps73
         go_wp2;go_ret
         exact⟨rfl,Below.refl _ _⟩)⟩
       go_upto_region 18 with(go_at_call 72;refine CD.out.mono ?_;rintro e w4 ⟨v4,rfl,HL4,hb4,hg4,ho4⟩)
       have HL4:=aM HL4.out;have HO4:Aside0 (v4.ownBlock≠some b):=⟨by rw[ho4];exact HL.out.2⟩;have HX4:=aM (blk_grown HX3.out hg4 (fun e=>HNB.out e.symm));have HM4:Aside0 (IntsB w4 b n f):=⟨HM3.out.kept hg4 (fun e=>HL.out.2 e.symm)⟩;have HB4:Aside0 (Below wO.heap.size wO w4):=⟨HBO3.out.trans hb4⟩;clear hb4 hg4 ho4;have hbx:b≠x3:=by have:=HM.out.1.lt;have:=HB3.out.2;omega
       obtain⟨w5,hr5,hm5,hg5⟩:=ints_update HM4.out (by have:=HLD.out.2.nn;omega) HIA.out.2.1.1 (by have:=HIA.out.2.1.2;omega) true;have x4:w4.cell? ⟨x3,0,none⟩=some (.int .i64 i):=(blk_cell HX4.out 0).trans rfl
       go_upto_region 19 with(fail)
       clear x4 hr5;have HM5:=aM hm5;have HL5:Aside0 (OwnI w5 wO.heap.size v4 (left.filter fun x=>!(x==i))):=⟨OwnI.keep HL4.out hg5 (.inr HO4.out)⟩;have HX5:=aM (blk_grown HX4.out hg5 (fun e=>hbx (Option.some.inj e).symm));have HB5:Aside0 (Below wO.heap.size wO w5):=⟨HB4.out.grown hg5 HB4.out.size (fun k e=>by have e2:b=k:=Option.some.inj e;have:=HB9.out.2;omega)⟩;have HI5:=aM (HI.out.below HB5.out);have HBX:=aM hbx;clear hm5 hg5 hbx HM4 HL4 HX4;have y0:w5.cell? ⟨w.heap.size,0,none⟩=some (.int .i64 I):=(blk_cell HI5.out.tw.t 0).trans rfl;have y1:w5.cell? ⟨w.heap.size,1,none⟩=some (.slice A1 N.length c1):=(blk_cell HI5.out.tw.t 1).trans rfl;have y2:w5.cell? ⟨w.heap.size,2,none⟩=some (.slice A2 O.length c2):=(blk_cell HI5.out.tw.t 2).trans rfl;have CR:=running_any (H.out.below HI5.out.tw.hb) HM5.out
       have hrb:fitsB I N O (runL O (fun z=>if z=i then true else f z) O.length)=runB I N O (dd++[i]):=by
        unfold runB
        congr 2
        funext z
        by_cases e:z=i
        ·simp[e]
        ·simp[e,HM.out.2 z]
       rw[hrb] at CR;obtain⟨rb,hrb2⟩:∃rb,runB I N O (dd++[i])=rb:=⟨_,rfl⟩;rw[hrb2] at CR;have HRB:=aM hrb2;have CR:=aM CR;clear hrb hrb2
       cases rb with
       |true=>
        go_wp2_with (go_at_call 74;refine CR.out.mono ?_;rintro e w6 ⟨rfl,hb6⟩)
        have HB6:=aM hb6;clear y0 y1 y2 hb6
        go_roundg k3
        case measure=>omega
        case rel=>
         refine⟨_,dd++[i],n+1,_,⟨?_,?_⟩,⟨HL5.out.kb (KB.of_below (M:=fun _=>False) HB6.out) (fun _ _ h=>h),HO4.out⟩,⟨HM5.out.below HB6.out,fun z=>?_⟩,⟨HB5.out.trans (HB6.out.mono HB5.out.size)⟩⟩
         ·have:=HIA.out.2.2;have:=HLD.out.1;unfold dropL at *;omega
         ·have:=HNX.out;unfold takeD dropL at this;rw[if_pos HRB.out] at this;exact this
         ·by_cases e:z=i
          ·simp[e]
          ·simp[e,HM.out.2 z]
       |false=>
        go_upto_region 20 with(go_at_call 74;refine CR.out.mono ?_;rintro e w6 ⟨rfl,hb6⟩)
        have HB6:=aM hb6;clear y0 y1 y2;have HM6:=aM (HM5.out.below hb6);have HX6:=aM (blk_below HX5.out hb6);have x6:w6.cell? ⟨x3,0,none⟩=some (.int .i64 i):=(blk_cell HX6.out 0).trans rfl;have hdel:=fun ty=>ints_delete HM6.out HIA.out.2.1.1 (by have:=HIA.out.2.1.2;omega) ty;obtain⟨w7,hr7,hm7,hg7⟩:=hdel 0;clear hb6 hdel;go_wp2
        go_roundg k3
        case measure=>omega
        case rel=>
         refine⟨_,dd,n+1,_,⟨?_,?_⟩,⟨OwnI.keep (HL5.out.kb (KB.of_below (M:=fun _=>False) HB6.out) (fun _ _ h=>h)) hg7.grown (.inr HO4.out),HO4.out⟩,⟨hm7,fun z=>?_⟩,⟨(HB5.out.trans (HB6.out.mono HB5.out.size)).grown hg7.grown (Nat.le_trans HB5.out.size HB6.out.size) (fun k e=>by have e2:b=k:=Option.some.inj e;have:=HB9.out.2;omega)⟩⟩
         ·have:=HIA.out.2.2;have:=HLD.out.1;unfold dropL at *;omega
         ·have:=HNX.out;unfold takeD dropL at this;rw[if_neg (by rw[HRB.out];decide)] at this;exact this
         ·by_cases e:z=i
          ·simp[e,HIA.out.1]
          ·simp[e,HM.out.2 z]
      |zero=>
       have hlen:left.length=0:=HLD.out.1;have c3:decide ((0:Int)<(left.length:Int))=false:=decide_eq_false (by omega);have c4:¬(0<left.length):=by omega
       have HDD2:Aside0 (dayOf I N O (turnsF I N O d).2=dd):=⟨by
        have:=HLD.out.2.fin;rw[hlen] at this
        exact this.symm⟩
       have HIW:=aM (HI.out.below HW.out);have HBL:=aM (HM.out.1.lt);have y2:wr.cell? ⟨w.heap.size,2,none⟩=some (.slice A2 O.length c2):=(blk_cell HIW.out.tw.t 2).trans rfl;clear hlen HL;go_wp2;clear c3 c4 y2;obtain⟨wP,rfl⟩:∃wP:World,wP=wr:=⟨_,rfl⟩;have hrl:=(turns_len I N O d).2;have HRL:=aM hrl;clear hrl
       go_loopg [13,63] O.length (fun kq v13 v63 w'=>∃j:Nat,v63=.int .i64 (j:Int)∧Aside0 (j+kq=O.length)∧Aside0 (OwnI w' wP.heap.size v13 (dayTo dd j))∧Aside0 (OwnI w' g (.slice (some ⟨g,0,none⟩) O.length O.length) (bumpL (turnsF I N O d).2 dd j))∧Aside0 (KB (fun k=>k=g) wP w'))
       case atStart=>exact⟨0,rfl,⟨by omega⟩,⟨Kd.R_nil _ _ _ _ _⟩,⟨by rw[bump_zero];exact HIW.out.ran⟩,⟨KB.refl _ _⟩⟩
       case round=>
        obtain⟨j,rfl,HJ,HL,HR,HK⟩:=hrel;obtain⟨A13,c13,e13⟩:=Kd.R_slice HL.out;subst e13;have HT:Aside0 (TuW w I A1 A2 c1 c2 N O g wr):=⟨HIW.out.tw.kb HK.out (fun k h=>.inl h)⟩;have HGP:Aside0 (g+2≤wO.heap.size∧wO.heap.size≤wP.heap.size∧wP.heap.size≤wr.heap.size∧b<wP.heap.size∧wO.heap.size≤b):=⟨HI.out.sz,HW.out.size,HK.out.size,HBL.out,HB9.out.2⟩
        have HMW:Aside0 (IntsB wr b n f):=⟨by
         obtain⟨DD,⟨es,clock,h1,h2⟩,h3⟩:=HM.out.1
         exact⟨DD,⟨es,clock,HK.out.at h1 (fun e=>by have:=HGP.out;omega),h2⟩,h3⟩⟩
        cases gk with
        |succ k3=>
         have hjn:j<O.length:=by have:=HJ.out;omega
         have c3:decide ((j:Int)<(O.length:Int))=true:=decide_eq_true (by omega);have p1:(0:Int)≤(j:Int):=by omega
         have p2:(j:Int)<(O.length:Int):=by omega
         have hlk:=ints_lookup HMW.out (y:=(j:Int)) (by omega) (by omega);rw[HM.out.2] at hlk;have hw1:wrap64 ((j:Int)+1)=((j+1:Nat):Int):=by rw[IntWalk.wrap64_in _ (by omega)];omega
         by_cases hjd:(j:Int)∈dd
         ·have HJD:Aside0 (dayTo dd (j+1)=dayTo dd j++[(j:Int)]∧(bumpL (turnsF I N O d).2 dd j).set j (rd (bumpL (turnsF I N O d).2 dd j) (j:Int)+1)=bumpL (turnsF I N O d).2 dd (j+1)):=⟨by rw[dayTo_succ,if_pos hjd],bump_yes hjd (by have:=HRL.out;omega)⟩;rw[decide_eq_true hjd] at hlk
          have hdl:(dayTo dd j).length≤j:=by
           unfold dayTo;exact Nat.le_trans (List.length_filter_le _ _) (by rw[all_len];exact Nat.le_refl _)
          have hrg:0≤rd (bumpL (turnsF I N O d).2 dd j) (j:Int)∧rd (bumpL (turnsF I N O d).2 dd j) (j:Int)≤d+1:=by
           have h0:=turns_small I N O (i:=j) hjn d;rw[bump_at (by have:=HRL.out;omega)]
           split<;>omega
          have HDL:=aM hdl;have HRG:=aM hrg;clear hjd hdl hrg
          go_upto_region 27 with(first|((with_reducible refine gate_builtin (b:=.append) (xs:=#[.tmp 69,.tmp 71]) rfl ?_);at_builtin;(refine Kd.R_append (Kd.int .i64) (w0:=wr) wP.heap.size rfl (.tmp 69) (.tmp 71) 30 3 (.int .i64 0) 8 rfl Tryz.underlying30 info3 rfl (by decide) (by omega) (.slice A13 (dayTo dd j).length c13) (dayTo dd j) (j:Int) [.int .i64 (j:Int)] (fun _=>True) (fun _=>False) rfl rfl ?aP (fun _ hk=>hk.elim) ?aF ?aO ?aB ?aS ?aL ?_);(case aP=>exact rfl);(case aB=>exact Below.refl _ _);(case aF=>exact(fun _ _=>trivial));(case aO=>exact HL.out);(case aS=>exact HK.out.size);(case aL=>have:=HDL.out;omega);intro vA wA ho hbA hgA hatA))
          clear c3 hlk;have HOA:=aM ho;have HKA:Aside0 (KB (fun k=>k=g) wP wA):=⟨⟨hbA.os.trans HK.out.os,hbA.tape.trans HK.out.tape,hbA.output.trans HK.out.output,Nat.le_trans HK.out.size hbA.size,fun k hk hn=>(hbA.block k hk).trans (HK.out.block k hk hn)⟩⟩;have HRA:Aside0 (OwnI wA g (.slice (some ⟨g,0,none⟩) O.length O.length) (bumpL (turnsF I N O d).2 dd j)):=⟨HR.out.kb (M:=fun k=>wP.heap.size≤k) ⟨hbA.os,hbA.tape,hbA.output,hbA.size,fun k hk hn=>hbA.block k (by omega)⟩ (fun k e=>by have e2:g=k:=Option.some.inj e;have:=HGP.out;omega)⟩;have HTA:Aside0 (TuW w I A1 A2 c1 c2 N O g wA):=⟨HIW.out.tw.kb HKA.out (fun k h=>.inl h)⟩;have yb:wA.cell? ⟨g+1,0,none⟩=some (.slice (some ⟨g,0,none⟩) O.length O.length):=(blk_cell HTA.out.r 0).trans rfl;obtain⟨b4,b4f⟩:=Kd.R_celln (0:Int) HRA.out (j:Int) p1 p2;rw[Int.toNat_natCast] at b4 b4f
          change wA.cell? _=some (.int .i64 (rd (bumpL (turnsF I N O d).2 dd j) (j:Int))) at b4
          obtain⟨rv,hrv⟩:∃rv,rd (bumpL (turnsF I N O d).2 dd j) (j:Int)=rv:=⟨_,rfl⟩;have hrv2:=HRG.out;rw[hrv] at b4 hrv2;have hw2:wrap64 (rv+1)=rv+1:=IntWalk.wrap64_in _ (by have:=HD.out;have:=HDD.out;omega);have hput:=Kd.R_putn HRA.out (j:Int) (rv+1);rw[Int.toNat_natCast,←hrv,HJD.out.2,hrv] at hput;have HP:=aM hput;have q1:=eq_true p1;have q2:=eq_true p2;have HHW:=aM hw1;clear hput hrv hrv2 ho hbA hgA hatA hw1;go_wp2;have hw1:=HHW.out
          go_roundg k3
          case measure=>omega
          case rel=>exact⟨j+1,(by first|rfl|rw[hw1]|(rw [Int.natCast_add];rfl)),⟨by have:=HJ.out;omega⟩,⟨by rw[HJD.out.1];exact OwnI.keep HOA.out (grown_setP _ _ _) (.inr (fun e=>by have h1:wP.heap.size≤g:=(R_blk HOA.out e).1;have:=HGP.out;omega))⟩,HP,⟨HKA.out.trans (KB.setCell _ _ _ rfl)⟩⟩
         ·have HJD:Aside0 (dayTo dd (j+1)=dayTo dd j∧bumpL (turnsF I N O d).2 dd (j+1)=bumpL (turnsF I N O d).2 dd j):=⟨by rw[dayTo_succ,if_neg hjd,List.append_nil],bump_no hjd⟩;rw[decide_eq_false hjd] at hlk;clear hjd;go_wp2
          go_roundg k3
          case measure=>omega
          case rel=>exact⟨j+1,(by first|rfl|rw[hw1]|(rw [Int.natCast_add];rfl)),⟨by have:=HJ.out;omega⟩,⟨by rw[HJD.out.1];exact HL.out⟩,⟨by rw[HJD.out.2];exact HR.out⟩,HK⟩
        |zero=>
         have c3:decide ((j:Int)<(O.length:Int))=false:=decide_eq_false (by have:=HJ.out;omega);have c4:¬(j<O.length):=by have:=HJ.out;omega
         have hjj:j=O.length:=by have:=HJ.out;omega
         have HO:Aside0 (Kd.R kDay 30 wr (g+2) (fun _=>True) (.slice A8 (turnsF I N O d).1.length c8) (turnsF I N O d).1):=⟨Kd.R_mono (Kd.R_step (Kd.R_bound HIW.out.out) (fun k hk hlt=>HK.out.block k hlt (by have:=hk.2.1;omega))) (fun _ _=>trivial)⟩;have HTN:Aside0 ((turnsF I N O (d+1)).1=(turnsF I N O d).1++[dayTo dd j]∧(turnsF I N O (d+1)).2=bumpL (turnsF I N O d).2 dd j):=⟨by simp only[turnsF];rw[HDD2.out,hjj],by simp only[turnsF];rw[HDD2.out,hjj]⟩;have HLN:Aside0 ((turnsF I N O d).1.length≤10):=⟨by rw[(turns_len I N O d).1];have:=HD.out;have:=HDD.out;omega⟩;have HOB:Aside0 (∀ k,(Value.slice A8 (turnsF I N O d).1.length c8).ownBlock=some k->k<wP.heap.size):=⟨fun k e=>(R_blk HIW.out.out e).2⟩;have HLB:Aside0 (kDay.M wr (g+2) (fun k=>wP.heap.size≤k) (dayTo dd j) [.slice A13 (dayTo dd j).length c13]):=⟨⟨_,rfl,Kd.R_lower (Kd.R_mono (Kd.R_bound HL.out) (fun k hk=>hk.2.1)) (by have:=HGP.out;omega)⟩⟩;have hwd:wrap64 ((d:Int)+1)=((d+1:Nat):Int):=by rw[IntWalk.wrap64_in _ (by have:=HD.out;have:=HDD.out;omega)];omega
         have HWD:=aM hwd;clear hjj hwd
         go_upto_region 30 with(first|((with_reducible refine gate_builtin (b:=.append) (xs:=#[.tmp 80,.tmp 82]) rfl ?_);at_builtin;(refine Kd.R_append kDay (w0:=wr) (g+2) rfl (.tmp 80) (.tmp 82) 40 30 (.slice none 0 0) 24 rfl Tryz.underlying40 info30 rfl (by decide) (by omega) (.slice A8 (turnsF I N O d).1.length c8) (turnsF I N O d).1 (dayTo dd j) [.slice A13 (dayTo dd j).length c13] (fun _=>True) (fun k=>wP.heap.size≤k) rfl rfl ?aP ?aK ?aF ?aO ?aB ?aS ?aL ?_);(case aP=>exact HLB.out);(case aK=>exact(fun k hk=>⟨trivial,fun e=>by have:=HOB.out k e.symm;omega⟩));(case aB=>exact Below.refl _ _);(case aF=>exact(fun _ _=>trivial));(case aO=>exact HO.out);(case aS=>have:=HGP.out;omega);(case aL=>have:=HLN.out;omega);intro vA wA ho hbA hgA hatA))
         have HIA:Aside0 (TuI w I A1 A2 c1 c2 N O g (d+1) vA wA):=⟨⟨HT.out.kb (M:=fun k=>g+1<k) ⟨hbA.os,hbA.tape,hbA.output,hbA.size,fun k hk hn=>hbA.block k (by omega)⟩ (fun k h=>.inr h),by
          rw[HTN.out.2]
          exact HR.out.kb (M:=fun k=>g+1<k) ⟨hbA.os,hbA.tape,hbA.output,hbA.size,fun k hk hn=>hbA.block k (by omega)⟩ (fun k e=>by have e2:g=k:=Option.some.inj e;omega),by rw[HTN.out.1];exact ho,Nat.le_trans (by have:=HGP.out;omega) hbA.size⟩⟩
         have hwd:=HWD.out;clear c3 c4 ho hbA hgA hatA;go_wp2
         go_roundg k2
         case measure=>omega
         case rel=>exact⟨d+1,(by first|rfl|rw[hwd]|(rw [Int.natCast_add];rfl)),⟨by have:=HDD.out;omega⟩,HIA⟩
def turnsR (I:Int) (N:List SN) (O:List SO) (days:Int):List (List Int)×Int:=if(treeB I N O&&inB days 0 10)=true then((turnsF I N O days.toNat).1,0) else([],2)
set_option maxRecDepth 100000 in
set_option maxHeartbeats 1000000 in
theorem turns_bad {w:World} {I days:Int} {A1 A2:Option Addr} {c1 c2:Nat} {N:List SN} {O:List SO} (r1:Kd.C k77 w A1 N.length N) (l1:N.length≤c1) (r2:Kd.C k51 w A2 O.length O) (l2:O.length≤c2) (hl1:N.length≤9223372036854775807) (hl2:O.length≤9223372036854775807) (hn:(treeB I N O&&inB days 0 10)=false):
  Calls Tryz.prog 32 #[.agg #[.int .i64 I,.slice A1 N.length c1,.slice A2 O.length c2],.int .i64 days] w fun e w'=>e=.returned (.tuple #[.slice none 0 0,.int .i64 2])∧Below w.heap.size w w':=by
 have hu1:=Tryz.underlying25;obtain⟨tb,htb⟩:∃tb,treeB I N O=tb:=⟨_,rfl⟩;obtain⟨ib,hib⟩:∃ib,inB days 0 10=ib:=⟨_,rfl⟩;rw[htb,hib] at hn
 have CT:Aside0 (∀ W,Below w.heap.size w W->Calls Tryz.prog 59 #[.agg #[.int .i64 I,.slice A1 N.length c1,.slice A2 O.length c2]] W fun e w'=>e=.returned (.bool tb)∧Below W.heap.size W w'):=⟨fun W hb=>
  d7_isTree.calls I A1 c1 N A2 c2 O tb W (Kd.C_below r1 hb) l1 (Kd.C_below r2 hb) l2 (by unfold d7_isTree.f;rw[if_pos ⟨hl1,hl2⟩,htb])⟩
 have CI:Aside0 (∀ W,Calls Tryz.prog 69 #[.int .i64 days,.int .i64 0,.int .i64 10] W fun e w'=>e=.returned (.bool ib)∧W=w'):=⟨fun W=>(in_any days 0 10 W).mono (fun e w' he=>⟨by rw[he.1,hib],he.2⟩)⟩;clear r1 l1 r2 l2 hl1 hl2 htb hib
 go_enter Tryz.func32,Tryz.ntmps32
 go_upto_region 1 with(fail)
 generalize hW0:World.alloc w _=W0;have HB0:Aside0 (Below w.heap.size w W0):=⟨by rw[← hW0];exact(Below.refl _ _).alloc (Nat.le_refl _) _⟩;have HT0:Aside0 (W0.heap[w.heap.size]? =some (.cells #[.int .i64 I,.slice A1 N.length c1,.slice A2 O.length c2] 25 (0,0))):=⟨by rw[← hW0];exact blk_new _ _⟩;clear hW0;have y0:W0.cell? ⟨w.heap.size,0,none⟩=some (.int .i64 I):=(blk_cell HT0.out 0).trans rfl;have y1:W0.cell? ⟨w.heap.size,1,none⟩=some (.slice A1 N.length c1):=(blk_cell HT0.out 1).trans rfl;have y2:W0.cell? ⟨w.heap.size,2,none⟩=some (.slice A2 O.length c2):=(blk_cell HT0.out 2).trans rfl;have CT0:=aM (CT.out _ HB0.out)
 cases tb with
 |false=>
  go_wp2_with (first|(go_at_call 59;refine CT0.out.mono ?_;rintro e w1 ⟨rfl,hb1⟩))
  go_ret2
  exact⟨rfl,below_step HB0.out hb1⟩
 |true=>
  obtain rfl:ib=false:=by simpa using hn
  go_wp2_with (first|(go_at_call 59;refine CT0.out.mono ?_;rintro e w1 ⟨rfl,hb1⟩)|(go_at_call 69;refine(CI.out _).mono ?_;rintro e w2 ⟨rfl,rfl⟩))
  go_ret2
  exact⟨rfl,below_step HB0.out hb1⟩
def d7_Turns.f (a0_0:Int) (l0_1:List SN) (l0_2:List SO) (a1:Int):Option (List (List Int)×Int):=if l0_1.length≤9223372036854775807∧l0_2.length≤9223372036854775807 then some (turnsR a0_0 l0_1 l0_2 a1) else none
theorem d7_Turns.calls (a0_0:Int) (A0_1:Option Addr) (c0_1:Nat) (l0_1:List SN) (A0_2:Option Addr) (c0_2:Nat) (l0_2:List SO) (a1:Int) (r1:List (List Int)) (r2:Int) (w:World) (hr0_1:Kd.C k77 w A0_1 l0_1.length l0_1) (hc0_1:l0_1.length≤c0_1) (hr0_2:Kd.C k51 w A0_2 l0_2.length l0_2) (hc0_2:l0_2.length≤c0_2) (h:d7_Turns.f a0_0 l0_1 l0_2 a1=some (r1,r2)):
  Calls Tryz.prog 32 #[.agg #[.int .i64 a0_0,.slice A0_1 l0_1.length c0_1,.slice A0_2 l0_2.length c0_2],.int .i64 a1] w fun e w'=>∃v0_:Value,e=.returned (.tuple #[v0_,.int .i64 r2])∧Kd.R (Kd.slice 3 (Kd.int .i64)) 30 w' w.heap.size (fun _=>True) v0_ r1∧Below w.heap.size w w':=by
 unfold d7_Turns.f at h
 split at h
 ·rename_i hp
  have h:=Option.some.inj h;unfold turnsR at h
  split at h
  ·rename_i hb
   obtain⟨rfl,rfl⟩:=Prod.mk.inj h;rw[Bool.and_eq_true] at hb;have hk:=tree_ok hb.1;have hd:=hb.2;simp only[inB,Bool.and_eq_true,decide_eq_true_eq] at hd;obtain⟨D,rfl⟩:=Int.eq_ofNat_of_zero_le hd.1;exact turns_any ⟨hk.n,hk.o,by have:=hk.nl;omega,by have:=hk.ol;omega,hr0_1,hc0_1,hr0_2,hc0_2⟩ hb.1 (by omega)
  ·rename_i hb
   obtain⟨rfl,rfl⟩:=Prod.mk.inj h;refine(turns_bad hr0_1 hc0_1 hr0_2 hc0_2 hp.1 hp.2 (Bool.eq_false_iff.2 hb)).mono ?_;rintro e w' ⟨rfl,hb2⟩;exact⟨_,rfl,Kd.R_nil _ _ _ _ _,hb2⟩
 ·cases h
end Go.Proofs.YtjioobfeikbffabGreatDoor.K
end
section
namespace Go.Proofs
open Go.Shelf
def Tryz.itoaL_ren:Go.Shelf.Ren:=⟨fun|171=>112|243=>134|246=>143|283=>160|284=>161|285=>162|286=>163|129=>159|317=>176|318=>177|319=>178|320=>179|337=>186|338=>187|n=>n,fun|3=>3|9=>9|2=>2|4=>4|171=>187|0=>0|53=>186|37=>73|5=>5|173=>189|212=>205|51=>184|20=>20|213=>206|46=>171|232=>216|233=>217|n=>n,fun|17=>0|18=>4|19=>5|n=>n⟩
theorem Tryz.itoaL:Go.Proofs.LaysM.n171 Tryz.prog Tryz.itoaL_ren:={
  mixed:=by kernel_rfl
  f129:=Tryz.func159.trans (congrArg some (by kernel_rfl))
  f171:=Tryz.func112.trans (congrArg some (by kernel_rfl))
  f243:=Tryz.func134.trans (congrArg some (by kernel_rfl))
  f246:=Tryz.func143.trans (congrArg some (by kernel_rfl))
  f283:=Tryz.func160.trans (congrArg some (by kernel_rfl))
  f284:=Tryz.func161.trans (congrArg some (by kernel_rfl))
  f285:=Tryz.func162.trans (congrArg some (by kernel_rfl))
  f286:=Tryz.func163.trans (congrArg some (by kernel_rfl))
  f317:=Tryz.func176.trans (congrArg some (by kernel_rfl))
  f318:=Tryz.func177.trans (congrArg some (by kernel_rfl))
  f319:=Tryz.func178.trans (congrArg some (by kernel_rfl))
  f320:=Tryz.func179.trans (congrArg some (by kernel_rfl))
  f337:=Tryz.func186.trans (congrArg some (by kernel_rfl))
  f338:=Tryz.func187.trans (congrArg some (by kernel_rfl))
  t0:=Tryz.underlying0
  a0:=Tryz.isAgg0
  z0:=Tryz.sizeOf0
  v0:=Tryz.zeroValue0
  t2:=Tryz.underlying2
  a2:=Tryz.isAgg2
  z2:=Tryz.sizeOf2
  v2:=Tryz.zeroValue2
  t3:=Tryz.underlying3
  a3:=Tryz.isAgg3
  z3:=Tryz.sizeOf3
  v3:=Tryz.zeroValue3
  t4:=Tryz.underlying4
  a4:=Tryz.isAgg4
  z4:=Tryz.sizeOf4
  v4:=Tryz.zeroValue4
  t5:=Tryz.underlying5
  a5:=Tryz.isAgg5
  z5:=Tryz.sizeOf5
  v5:=Tryz.zeroValue5
  t9:=Tryz.underlying9
  a9:=Tryz.isAgg9
  z9:=Tryz.sizeOf9
  v9:=Tryz.zeroValue9
  t20:=Tryz.underlying20
  a20:=Tryz.isAgg20
  z20:=Tryz.sizeOf20
  v20:=Tryz.zeroValue20
  t37:=Tryz.underlying73
  a37:=Tryz.isAgg73
  z37:=Tryz.sizeOf73
  v37:=Tryz.zeroValue73
  t46:=Tryz.underlying171
  a46:=Tryz.isAgg171
  z46:=Tryz.sizeOf171
  v46:=Tryz.zeroValue171
  t51:=Tryz.underlying184
  a51:=Tryz.isAgg184
  z51:=Tryz.sizeOf184
  v51:=Tryz.zeroValue184
  t53:=Tryz.underlying186
  a53:=Tryz.isAgg186
  z53:=Tryz.sizeOf186
  v53:=Tryz.zeroValue186
  t171:=Tryz.underlying187
  a171:=Tryz.isAgg187
  z171:=Tryz.sizeOf187
  v171:=Tryz.zeroValue187
  t173:=Tryz.underlying189
  a173:=Tryz.isAgg189
  z173:=Tryz.sizeOf189
  v173:=Tryz.zeroValue189
  t212:=Tryz.underlying205
  a212:=Tryz.isAgg205
  z212:=Tryz.sizeOf205
  v212:=Tryz.zeroValue205
  t213:=Tryz.underlying206
  a213:=Tryz.isAgg206
  z213:=Tryz.sizeOf206
  t232:=Tryz.underlying216
  a232:=Tryz.isAgg216
  z232:=Tryz.sizeOf216
  v232:=Tryz.zeroValue216
  t233:=Tryz.underlying217
  a233:=Tryz.isAgg217
  z233:=Tryz.sizeOf217
  v233:=Tryz.zeroValue217
  g17:=by kernel_rfl
  g18:=by kernel_rfl
  g19:=by kernel_rfl
  i0:=by kernel_rfl
  i2:=by kernel_rfl
  i3:=by kernel_rfl
  i4:=by kernel_rfl
  i5:=by kernel_rfl
  i9:=by kernel_rfl
  i20:=by kernel_rfl
  i37:=by kernel_rfl
  i46:=by kernel_rfl
  i51:=by kernel_rfl
  i53:=by kernel_rfl
  i171:=by kernel_rfl
  i173:=by kernel_rfl
  i212:=by kernel_rfl
  i232:=by kernel_rfl
  i233:=by kernel_rfl
  m17:=by kernel_rfl
  m18:=by kernel_rfl
  m19:=by kernel_rfl}
def Tryz.splitL_ren:Go.Shelf.Ren:=⟨fun|146=>115|221=>138|268=>146|138=>147|143=>148|195=>166|197=>167|218=>168|219=>169|260=>180|217=>181|225=>182|224=>183|267=>184|266=>188|314=>189|n=>n,fun|9=>9|31=>108|3=>3|4=>4|0=>0|105=>195|21=>21|5=>5|46=>171|119=>210|139=>213|138=>212|146=>214|51=>184|n=>n,fun|1=>1|3=>2|4=>3|n=>n⟩
theorem Tryz.splitL:Go.Proofs.Lays.n146 Tryz.prog Tryz.splitL_ren:={
  mixed:=by kernel_rfl
  f138:=Tryz.func147.trans (congrArg some (by kernel_rfl))
  f143:=Tryz.func148.trans (congrArg some (by kernel_rfl))
  f146:=Tryz.func115.trans (congrArg some (by kernel_rfl))
  f195:=Tryz.func166.trans (congrArg some (by kernel_rfl))
  f197:=Tryz.func167.trans (congrArg some (by kernel_rfl))
  f217:=Tryz.func181.trans (congrArg some (by kernel_rfl))
  f218:=Tryz.func168.trans (congrArg some (by kernel_rfl))
  f219:=Tryz.func169.trans (congrArg some (by kernel_rfl))
  f221:=Tryz.func138.trans (congrArg some (by kernel_rfl))
  f224:=Tryz.func183.trans (congrArg some (by kernel_rfl))
  f225:=Tryz.func182.trans (congrArg some (by kernel_rfl))
  f260:=Tryz.func180.trans (congrArg some (by kernel_rfl))
  f266:=Tryz.func188.trans (congrArg some (by kernel_rfl))
  f267:=Tryz.func184.trans (congrArg some (by kernel_rfl))
  f268:=Tryz.func146.trans (congrArg some (by kernel_rfl))
  f314:=Tryz.func189.trans (congrArg some (by kernel_rfl))
  t0:=Tryz.underlying0
  a0:=Tryz.isAgg0
  z0:=Tryz.sizeOf0
  v0:=Tryz.zeroValue0
  t3:=Tryz.underlying3
  a3:=Tryz.isAgg3
  z3:=Tryz.sizeOf3
  v3:=Tryz.zeroValue3
  t4:=Tryz.underlying4
  a4:=Tryz.isAgg4
  z4:=Tryz.sizeOf4
  v4:=Tryz.zeroValue4
  t5:=Tryz.underlying5
  a5:=Tryz.isAgg5
  z5:=Tryz.sizeOf5
  v5:=Tryz.zeroValue5
  t9:=Tryz.underlying9
  a9:=Tryz.isAgg9
  z9:=Tryz.sizeOf9
  v9:=Tryz.zeroValue9
  t21:=Tryz.underlying21
  a21:=Tryz.isAgg21
  z21:=Tryz.sizeOf21
  v21:=Tryz.zeroValue21
  t31:=Tryz.underlying108
  a31:=Tryz.isAgg108
  z31:=Tryz.sizeOf108
  v31:=Tryz.zeroValue108
  t46:=Tryz.underlying171
  a46:=Tryz.isAgg171
  z46:=Tryz.sizeOf171
  v46:=Tryz.zeroValue171
  t51:=Tryz.underlying184
  a51:=Tryz.isAgg184
  z51:=Tryz.sizeOf184
  v51:=Tryz.zeroValue184
  t105:=Tryz.underlying195
  a105:=Tryz.isAgg195
  z105:=Tryz.sizeOf195
  v105:=Tryz.zeroValue195
  t119:=Tryz.underlying210
  a119:=Tryz.isAgg210
  z119:=Tryz.sizeOf210
  t138:=Tryz.underlying212
  a138:=Tryz.isAgg212
  z138:=Tryz.sizeOf212
  v138:=Tryz.zeroValue212
  t139:=Tryz.underlying213
  a139:=Tryz.isAgg213
  z139:=Tryz.sizeOf213
  v139:=Tryz.zeroValue213
  t146:=Tryz.underlying214
  a146:=Tryz.isAgg214
  z146:=Tryz.sizeOf214
  v146:=Tryz.zeroValue214
  g1:=by kernel_rfl
  g3:=by kernel_rfl
  g4:=by kernel_rfl}
end Go.Proofs
end
section
namespace Go.Proofs.YtjioobfeikbffabGreatDoor.K
open Go.RowKit Go.Proofs.Zw Go.Proofs.Zl Go.Proofs.Zm
namespace Tx
def itoaS (x:Int):ByteArray:=⟨(Lib.itoa x).toArray⟩
def partsF (s:ByteArray) (c:UInt8):List ByteArray:=Lib.splitB ⟨#[c]⟩ 0 (Lib.countB s ⟨#[c]⟩) s
def iter {α:Type}:Nat->(Nat->α->α)->α->α
  |0,_,a=>a
  |n+1,f,a=>f n (iter n f a)
def rowF (s:ByteArray) (ns:List Int):ByteArray:=ns.foldl (fun s n=>s++(⟨#[32]⟩++itoaS n)) s
def chkS (s:ByteArray) (i:Nat) (k:Nat) (c:Int):Int:=c+bt s k*((k:Int)+1)*((i:Int)+1)
def chkF (s:ByteArray) (i:Nat) (c:Int):Int:=iter s.size (chkS s i) c
def sumF (rows:List ByteArray) (i:Nat):Int:=iter i (fun k c=>chkF (rows.getD k ByteArray.empty) k c) 0
def isDigB (b:Int):Bool:=decide (48≤b)&&decide (b≤57)
def digsF (x:ByteArray) (k:Nat):Bool:=(List.range k).all fun j=>isDigB (bt x j)
def valF (x:ByteArray) (k:Nat):Int:=iter k (fun j n=>10*n+(bt x j-48)) 0
def numOk (m:Nat) (x:ByteArray):Bool:=digsF x x.size&&decide (x.size≤m)&&decide (x.size≠0)&&decide (itoaS (valF x x.size)=x)
def numF (m:Nat) (x:ByteArray):Option Int:=if numOk m x=true then some (valF x x.size) else none
def numsF (m:Nat):List ByteArray->Option (List Int)
  |[]=>some []
  |x::l=>(numF m x).bind fun n=>(numsF m l).map fun ns=>n::ns
def bytesA (l:List UInt8):ByteArray:=⟨l.toArray⟩
theorem bytes_data (l:List UInt8):(bytesA l).data.toList=l:=rfl
theorem data_app (a b:ByteArray):(a++b).data.toList=a.data.toList++b.data.toList:=by simp
theorem itoa_size {m:Nat} {x:Int} (h0:0≤x) (h1:x<10 ^ m) (hm:1≤m):(itoaS x).size≤m∧(itoaS x).size≠0:=by
  obtain⟨n,rfl⟩:=Int.eq_ofNat_of_zero_le h0
  have hs:(itoaS (n:Int)).size=Lib.nDigits n:=by
    rw[Lib.size_eq];show(Lib.itoa (n:Int)).length=_
    rw[Lib.itoa_nonneg,Lib.decDigits_length]
  rw[hs];refine⟨?_,by have:=Lib.nDigits_pos n;omega⟩
  have hn : n < 10 ^ m := by have : ((10 : Int) ^ m) = ((10 ^ m : Nat) : Int) := by simp
                             omega
  have key:∀(m n:Nat),1≤m->n<10 ^ m->Lib.nDigits n≤m:=by
    intro m
    induction m with
    |zero=>intro n h;omega
    |succ m ih=>
      intro n _ hn
      by_cases h:n<10
      · rw[Lib.nDigits_small h];omega
      · rw[Lib.nDigits_big h];rw[Nat.pow_succ] at hn
        by_cases hm0:m=0
        · subst hm0;simp at hn;omega
        · have:=ih (n / 10) (by omega) (by omega);omega
  exact key m n hm hn
theorem val_lt {x:ByteArray}:∀k,digsF x k=true->0≤valF x k∧valF x k<10 ^ k
  |0,_=>by simp[valF,iter]
  |k+1,h=>by
    have h2:digsF x k=true∧isDigB (bt x k)=true:=by
      unfold digsF at h;rw[List.range_succ,List.all_append,Bool.and_eq_true] at h;exact⟨h.1,by simpa using h.2⟩
    have ih:=val_lt k h2.1;have hd:=h2.2;simp only[isDigB,Bool.and_eq_true,decide_eq_true_eq] at hd;have:valF x (k+1)=10*valF x k+(bt x k-48):=rfl;rw[this,Int.pow_succ]
    omega
theorem num_range {m:Nat} {x:ByteArray} {n:Int} (h:numF m x=some n):0≤n∧n<10 ^ m∧itoaS n=x:=by
  unfold numF at h
  split at h
  · rename_i hk
    obtain rfl:=Option.some.inj h;simp only[numOk,Bool.and_eq_true,decide_eq_true_eq] at hk;have:=val_lt _ hk.1.1.1
    have hp:(10:Int) ^ x.size≤10 ^ m:=by
      have h2:=Nat.pow_le_pow_right (n:=10) (by omega) hk.1.1.2;have e1:((10:Int) ^ x.size)=((10 ^ x.size:Nat):Int):=by simp
      have e2:((10:Int) ^ m)=((10 ^ m:Nat):Int):=by simp
      omega
    exact⟨this.1,by omega,hk.2⟩
  · cases h
theorem nums_range {m:Nat}:∀ {l:List ByteArray} {ns:List Int},numsF m l=some ns->ns.length=l.length∧∀n∈ns,0≤n∧n<10 ^ m
  |[],ns,h=>by obtain rfl:[]=ns:=Option.some.inj h;exact⟨rfl,fun n hn=>by cases hn⟩
  |y::l,ns,h=>by
    simp only[numsF] at h;obtain⟨n,hn,h⟩:=Option.bind_eq_some_iff.1 h;obtain⟨ms,hm,rfl⟩:=Option.map_eq_some_iff.1 h;have:=nums_range hm;have h1:=num_range hn;exact⟨by simp[this.1],fun x hx=>by rcases List.mem_cons.1 hx with rfl|hx;exact⟨h1.1,h1.2.1⟩;exact this.2 x hx⟩
def wEnd:ByteArray:=⟨#[101,110,100,32]⟩
def endF (c:Int):ByteArray:=wEnd++itoaS (c / 100)++itoaS (c / 10 % 10)++itoaS (c % 10)
def wDrought:ByteArray:=⟨#[100,114,111,117,103,104,116]⟩
def wNode:ByteArray:=⟨#[110,111,100,101]⟩
def wOutlet:ByteArray:=⟨#[111,117,116,108,101,116]⟩
def rowN (n:SN):ByteArray:=rowF wNode [n.f0,n.f1]
def rowO (o:SO):ByteArray:=rowF wOutlet [o.f0,o.f1,o.f2]
def rowsD (I:Int) (N:List SN) (O:List SO):List ByteArray:=rowF wDrought [I]::(N.map rowN++O.map rowO)
def checkD (I:Int) (N:List SN) (O:List SO):Int:=sumF (rowsD I N O) (rowsD I N O).length % 163
def textD (I:Int) (N:List SN) (O:List SO):ByteArray:=bytesA (Lib.join ((rowsD I N O++[endF (checkD I N O)]).map (·.data.toList)) [10])++⟨#[10]⟩
def goodD (I:Int) (N:List SN) (O:List SO):Prop:=(0≤I∧I<1000)∧(∀ n∈N,(0≤n.f0∧n.f0<1000)∧0≤n.f1∧n.f1<1000)∧∀o∈O,(0≤o.f0∧o.f0<1000)∧(0≤o.f1∧o.f1<1000)∧0≤o.f2∧o.f2<1000
def toldD (line word:ByteArray) (many:Nat):Option (List Int):=if(partsF line 32).length=many+1∧rdOf ByteArray.empty (partsF line 32) 0=word then numsF 3 ((partsF line 32).drop 1) else none
def isNodeB (x:ByteArray):Bool:=Lib.hasPrefix x.data.toList wNode.data.toList
def mkN (ns:List Int):SN:=⟨rd ns 0,rd ns 1⟩
def mkO (ns:List Int):SO:=⟨rd ns 0,rd ns 1,rd ns 2⟩
def bodyF:List ByteArray->Option (List SN×List SO)
  |[]=>some ([],[])
  |x::l=>if isNodeB x=true then(toldD x wNode 2).bind fun ns=>(bodyF l).map fun p=>(mkN ns::p.1,p.2) else(toldD x wOutlet 3).bind fun ns=>(bodyF l).map fun p=>(p.1,mkO ns::p.2)
def parsedD (s:ByteArray):Option (Int×List SN×List SO):=
  if 3≤(partsF s 10).length then(toldD (rdOf ByteArray.empty (partsF s 10) 0) wDrought 1).bind fun h=>(bodyF (((partsF s 10).take ((partsF s 10).length-2)).drop 1)).bind fun p=>if textD (rd h 0) p.1 p.2=s then some (rd h 0,p.1,p.2) else none
  else none
theorem told_range {line word:ByteArray} {many:Nat} {ns:List Int} (h:toldD line word many=some ns):ns.length=many∧∀n∈ns,0≤n∧n<1000:=by
  unfold toldD at h
  split at h
  · rename_i hk
    have:=nums_range h;rw[List.length_drop] at this;exact⟨by omega,fun n hn=>by have:=this.2 n hn;simpa using this⟩
  · cases h
theorem body_good:∀ {l:List ByteArray} {p:List SN×List SO},bodyF l=some p->(∀ n∈p.1,(0≤n.f0∧n.f0<1000)∧0≤n.f1∧n.f1<1000)∧(∀ o∈p.2,(0≤o.f0∧o.f0<1000)∧(0≤o.f1∧o.f1<1000)∧0≤o.f2∧o.f2<1000)∧p.1.length+p.2.length=l.length
  |[],p,h=>by
    obtain rfl:([],[])=p:=Option.some.inj h;exact⟨fun n hn=>(List.not_mem_nil hn).elim,fun n hn=>(List.not_mem_nil hn).elim,rfl⟩
  |x::l,p,h=>by
    rw[bodyF] at h
    split at h
    · obtain⟨ns,hn,h⟩:=Option.bind_eq_some_iff.1 h;obtain⟨q,hq,rfl⟩:=Option.map_eq_some_iff.1 h;have ih:=body_good hq;obtain⟨hl,hr⟩:=told_range hn;refine⟨fun n hn=>?_,ih.2.1,by simp only[List.length_cons];omega⟩
      rcases List.mem_cons.1 hn with rfl|hn
      · match ns,hl with
        |[a,b],_=>exact⟨hr a (by simp),hr b (by simp)⟩
      · exact ih.1 n hn
    · obtain⟨ns,hn,h⟩:=Option.bind_eq_some_iff.1 h;obtain⟨q,hq,rfl⟩:=Option.map_eq_some_iff.1 h;have ih:=body_good hq;obtain⟨hl,hr⟩:=told_range hn;refine⟨ih.1,fun o ho=>?_,by simp only[List.length_cons];omega⟩
      rcases List.mem_cons.1 ho with rfl|ho
      · match ns,hl with
        |[a,b,c],_=>exact⟨hr a (by simp),hr b (by simp),hr c (by simp)⟩
      · exact ih.2.1 o ho
theorem body_snoc (x:ByteArray):∀(l:List ByteArray) (p:List SN×List SO),bodyF l=some p->bodyF (l++[x])=if isNodeB x=true then(toldD x wNode 2).map fun ns=>(p.1++[mkN ns],p.2) else(toldD x wOutlet 3).map fun ns=>(p.1,p.2++[mkO ns])
  |[],p,h=>by
    obtain rfl:([],[])=p:=Option.some.inj h;rw[List.nil_append,bodyF]
    split
    · cases toldD x wNode 2<;>rfl
    · cases toldD x wOutlet 3<;>rfl
  |y::l,p,h=>by
    rw[bodyF] at h;rw[List.cons_append,bodyF]
    split at h
    · rename_i hy
      obtain⟨ns,hn,h⟩:=Option.bind_eq_some_iff.1 h;obtain⟨q,hq,rfl⟩:=Option.map_eq_some_iff.1 h;rw[if_pos hy,hn,body_snoc x l q hq]
      split
      · cases toldD x wNode 2<;>rfl
      · cases toldD x wOutlet 3<;>rfl
    · rename_i hy
      obtain⟨ns,hn,h⟩:=Option.bind_eq_some_iff.1 h;obtain⟨q,hq,rfl⟩:=Option.map_eq_some_iff.1 h;rw[if_neg hy,hn,body_snoc x l q hq]
      split
      · cases toldD x wNode 2<;>rfl
      · cases toldD x wOutlet 3<;>rfl
theorem body_bad {x:ByteArray} (hx:(isNodeB x=true∧toldD x wNode 2=none)∨(isNodeB x=false∧toldD x wOutlet 3=none)):∀ {l:List ByteArray},x∈l->bodyF l=none
  |y::l,h=>by
    rw[bodyF]
    rcases List.mem_cons.1 h with rfl|h
    · rcases hx with⟨h1,h2⟩|⟨h1,h2⟩
      · rw[if_pos h1,h2];rfl
      · rw[if_neg (by rw[h1];decide),h2];rfl
    · rw[body_bad hx h]
      split
      · cases toldD y wNode 2<;>rfl
      · cases toldD y wOutlet 3<;>rfl
theorem parsed_good {s:ByteArray} {I:Int} {N:List SN} {O:List SO} (h:parsedD s=some (I,N,O)):goodD I N O∧textD I N O=s∧N.length+O.length+3=(partsF s 10).length:=by
  unfold parsedD at h
  split at h
  · rename_i h3
    obtain⟨hd,h1,h⟩:=Option.bind_eq_some_iff.1 h;obtain⟨p,h2,h⟩:=Option.bind_eq_some_iff.1 h
    split at h
    · rename_i ht
      cases h
      have hb:=body_good h2;obtain⟨hl,hr⟩:=told_range h1;refine⟨⟨?_,hb.1,hb.2.1⟩,ht,?_⟩
      · match hd,hl with
        |[a],_=>exact hr a (by simp)
      · have:=hb.2.2;rw[List.length_drop,List.length_take] at this
        omega
    · cases h
  · cases h
end Tx
end Go.Proofs.YtjioobfeikbffabGreatDoor.K
end
section
namespace Go.Proofs.YtjioobfeikbffabGreatDoor.K
open Go.RowKit Go.Proofs.Zw Go.Proofs.Zl Go.Proofs.Zm
open Tx
def TabW (w:World):Prop:=Lib.TabIs Tryz.prog w "internal/strconv.uint64pow10" .u64 Lib.pow10Tab
theorem TabW.below {w w1:World} (h:TabW w) (hb:Below w.heap.size w w1):TabW w1:=by
  unfold TabW Lib.TabIs World.var? at *
  cases hg:Tryz.prog.globalNamed "internal/strconv.uint64pow10" with
  |none=>rw[hg] at h;cases h
  |some g=>
    rw[hg] at h;simp only[Option.bind_some] at h⊢
    have hlt:g<w.heap.size:=by
      rcases Nat.lt_or_ge g w.heap.size with h1|h1
      · exact h1
      · simp[Array.getElem?_eq_none h1] at h
    rw[hb.block g hlt];exact h
def Good (w:World) (x:Int):Prop:=0≤x∧(x<100∨(x≤1000000∧TabW w))
theorem Good.below {w w1:World} {x:Int} (h:Good w x) (hb:Below w.heap.size w w1):Good w1 x:=⟨h.1,h.2.imp id fun h=>⟨h.1,h.2.below hb⟩⟩
theorem below_growK {w:World} (k:Nat) (os:Array Obj):Below w.heap.size w (Sort.grow (w.drewN k) os):=
  ⟨rfl,rfl,rfl,by simp[Sort.grow,World.drewN],fun i hi=>by simp[Sort.grow,World.drewN,Array.getElem?_append,hi]⟩
theorem strAdd (x y:ByteArray) (h:x.size+y.size≤9223372036854775807) (W:World):(Op.stringOp .add x y).run Tryz.prog W=.ok (.string (x++y)) W:=by
  unfold Op.stringOp;simp only[];rw[if_neg (by simp[IntKind.max,IntKind.signed,IntKind.bits];omega)]
  rfl
theorem itoa_any (x:Int) (w:World) (h:Good w x):Calls Tryz.prog 112 #[.int .i64 x] w fun e w'=>∃s,e=.returned (.string s)∧Aside0 (s=itoaS x∧s.size≤21)∧Below w.heap.size w w':=by
  obtain⟨h0,h⟩:=h;have hsz:(itoaS x).size≤21:=by have:=Lib.itoa_length_le x (by omega) (by omega);simpa[itoaS,ByteArray.size] using this
  rcases h with h|⟨h,ht⟩
  · obtain⟨n,rfl⟩:=Int.eq_ofNat_of_zero_le h0;refine(Any.strconv_Itoa_small { Tryz.itoaL with} n (by omega) w).mono ?_;rintro e w' ⟨rfl,rfl⟩;exact⟨itoaS (n:Int),by simp[itoaS,Lib.itoa_nonneg],⟨rfl,hsz⟩,Below.refl _ _⟩
  · refine(Any.strconv_Itoa Tryz.itoaL x (by omega) (by omega) w ht).mono ?_;rintro e w' ⟨rfl,k,os,rfl⟩;exact⟨itoaS x,rfl,⟨rfl,hsz⟩,below_growK k os⟩
theorem words_any (w:World):Calls Tryz.prog 119 #[] w fun e w'=>e=.returned (.agg #[.string wDrought,.string wNode,.string wOutlet])∧Below w.heap.size w w':=by
  have hu1:=Tryz.underlying147
  go_enter Tryz.func119,Tryz.ntmps119
  go_wp2;refine bodyPost_ret (v:=.agg #[.string wDrought,.string wNode,.string wOutlet]) ?_ rfl ⟨rfl,?_⟩
  · simp[results,Tryz.results119,go_sem];exact⟨rfl,rfl,rfl⟩
  · exact(Below.refl _ _).alloc (Nat.le_refl _) _
inductive TLine where
  |head (I:Int)
  |node (n:SN)
  |outlet (o:SO)
def encL:TLine->Value
  |.head I=>.iface 132 (.int .i64 I)
  |.node n=>.iface 134 (.agg #[.int .i64 n.f0,.int .i64 n.f1])
  |.outlet o=>.iface 136 (.agg #[.int .i64 o.f0,.int .i64 o.f1,.int .i64 o.f2])
def wordL:TLine->ByteArray
  |.head _=>wDrought
  |.node _=>wNode
  |.outlet _=>wOutlet
def numsL:TLine->List Int
  |.head I=>[I]
  |.node n=>[n.f0,n.f1]
  |.outlet o=>[o.f0,o.f1,o.f2]
def lineL (x:TLine):ByteArray:=rowF (wordL x) (numsL x)
set_option maxRecDepth 100000 in
theorem head_nums (I:Int) (w:World):Calls Tryz.prog 205 #[.int .i64 I] w fun e w'=>∃v,e=.returned v∧Kd.R (Kd.int .i64) 3 w' w.heap.size (fun _=>True) v [I]∧Below w.heap.size w w':=by
  go_enter Tryz.func205,Tryz.ntmps205
  go_wp2;go_ret;refine⟨.slice (some ⟨w.heap.size,0,none⟩) 1 1,rfl,⟨fun _ _=>trivial,[.int .i64 I],?_,?_⟩,(Below.refl _ _).alloc (Nat.le_refl _) _⟩
  · exact World.ownsRow_lit (base:=w.heap.size) (e:=3) (size:=1) w #[.int .i64 I] 1 (Nat.le_refl _) (by unfold maxLen;omega) rfl
  · exact Reps.one rfl (Reps.none _ _)
set_option maxRecDepth 100000 in
theorem node_nums (n:SN) (w:World):Calls Tryz.prog 206 #[.agg #[.int .i64 n.f0,.int .i64 n.f1]] w fun e w'=>∃v,e=.returned v∧Kd.R (Kd.int .i64) 3 w' w.heap.size (fun _=>True) v [n.f0,n.f1]∧Below w.heap.size w w':=by
  have hu1:=Tryz.underlying134;have hu2:=Tryz.underlying77
  go_enter Tryz.func206,Tryz.ntmps206
  go_wp2;go_ret;refine⟨.slice (some ⟨w.heap.size+1,0,none⟩) 2 2,rfl,⟨fun _ _=>trivial,[.int .i64 n.f0,.int .i64 n.f1],?_,?_⟩,((Below.refl _ _).alloc (Nat.le_refl _) _).alloc (by simp) _⟩
  · have:=World.ownsRow_lit (base:=w.heap.size) (e:=3) (size:=1) (w.alloc (.cells #[.int .i64 n.f0,.int .i64 n.f1] 134)) #[.int .i64 n.f0,.int .i64 n.f1] 2 (by simp) (by unfold maxLen;omega) rfl;rw[World.size_alloc] at this;exact this
  · exact Reps.one rfl (Reps.one rfl (Reps.none _ _))
set_option maxRecDepth 100000 in
theorem outlet_nums (o:SO) (w:World):Calls Tryz.prog 207 #[.agg #[.int .i64 o.f0,.int .i64 o.f1,.int .i64 o.f2]] w fun e w'=>∃v,e=.returned v∧Kd.R (Kd.int .i64) 3 w' w.heap.size (fun _=>True) v [o.f0,o.f1,o.f2]∧Below w.heap.size w w':=by
  have hu1:=Tryz.underlying136;have hu2:=Tryz.underlying51
  go_enter Tryz.func207,Tryz.ntmps207
  go_wp2;go_ret;refine⟨.slice (some ⟨w.heap.size+1,0,none⟩) 3 3,rfl,⟨fun _ _=>trivial,[.int .i64 o.f0,.int .i64 o.f1,.int .i64 o.f2],?_,?_⟩,((Below.refl _ _).alloc (Nat.le_refl _) _).alloc (by simp) _⟩
  · have:=World.ownsRow_lit (base:=w.heap.size) (e:=3) (size:=1) (w.alloc (.cells #[.int .i64 o.f0,.int .i64 o.f1,.int .i64 o.f2] 136)) #[.int .i64 o.f0,.int .i64 o.f1,.int .i64 o.f2] 3 (by simp) (by unfold maxLen;omega) rfl;rw[World.size_alloc] at this;exact this
  · exact Reps.one rfl (Reps.one rfl (Reps.one rfl (Reps.none _ _)))
theorem rd_memR {ns:List Int} {j:Nat} (h:j<ns.length):rd ns (j:Int)∈ns:=by
  simp[rd,List.getD,List.getElem?_eq_getElem h]
set_option maxRecDepth 100000 in
set_option maxHeartbeats 1000000 in
theorem row_any (x:TLine) (w:World) (hg:∀n∈numsL x,Good w n):
    Calls Tryz.prog 111 #[encL x] w fun e w'=>e=.returned (.string (lineL x))∧(lineL x).size≤76∧Below w.heap.size w w':=by
  have hu1:=Tryz.underlying147;have HG:=aM hg;clear hg;have hix:∀(f0 f1 f2:Value) (W:World),(Instr.index 147 (.agg #[f0,f1,f2]) (.int .i64 0)).run Tryz.prog W=.ok f0 W:=fun f0 f1 f2 W=>by kernel_rfl
  have hix1:∀(f0 f1 f2:Value) (W:World),(Instr.index 147 (.agg #[f0,f1,f2]) (.int .i64 1)).run Tryz.prog W=.ok f1 W:=fun f0 f1 f2 W=>by kernel_rfl
  have hix2:∀(f0 f1 f2:Value) (W:World),(Instr.index 147 (.agg #[f0,f1,f2]) (.int .i64 2)).run Tryz.prog W=.ok f2 W:=fun f0 f1 f2 W=>by kernel_rfl
  have ht1:∀(v:Value) (W:World),(Instr.typeAssert (.iface 132 v) 156 134 true).run Tryz.prog W=.ok (.tuple #[.agg #[.int .i64 0,.int .i64 0],.bool false]) W:=fun v W=>by kernel_rfl
  have ht2:∀(v:Value) (W:World),(Instr.typeAssert (.iface 132 v) 156 136 true).run Tryz.prog W=.ok (.tuple #[.agg #[.int .i64 0,.int .i64 0,.int .i64 0],.bool false]) W:=fun v W=>by kernel_rfl
  have ht3:∀(v:Value) (W:World),(Instr.typeAssert (.iface 134 v) 156 134 true).run Tryz.prog W=.ok (.tuple #[v,.bool true]) W:=fun v W=>by kernel_rfl
  have ht4:∀(v:Value) (W:World),(Instr.typeAssert (.iface 136 v) 156 134 true).run Tryz.prog W=.ok (.tuple #[.agg #[.int .i64 0,.int .i64 0],.bool false]) W:=fun v W=>by kernel_rfl
  have ht5:∀(v:Value) (W:World),(Instr.typeAssert (.iface 136 v) 156 136 true).run Tryz.prog W=.ok (.tuple #[v,.bool true]) W:=fun v W=>by kernel_rfl
  obtain⟨wd,hwd⟩:∃wd,wordL x=wd:=⟨_,rfl⟩;obtain⟨ns,hns⟩:∃ns,numsL x=ns:=⟨_,rfl⟩;obtain⟨ln,hln⟩:∃ln,lineL x=ln:=⟨_,rfl⟩;rw[hln];have HL:Aside0 (rowF wd ns=ln∧wd.size≤10∧ns.length≤3):=⟨by rw[← hln];unfold lineL;rw[hwd,hns],by rw[← hwd];cases x<;>simp only[wordL]<;>decide,by rw[← hns];cases x<;>simp[numsL]⟩;rw[hns] at HG;clear hln
  cases x
  case' head I=>
    obtain rfl:wDrought=wd:=hwd;obtain rfl:[I]=ns:=hns;have hN:=head_nums I
    change Calls Tryz.prog 111 #[.iface 132 (.int .i64 I)] w _
    obtain⟨ns,hns⟩:∃ns,[I]=ns:=⟨_,rfl⟩
  case' node n=>
    obtain rfl:wNode=wd:=hwd;obtain rfl:[n.f0,n.f1]=ns:=hns;have hN:=node_nums n
    change Calls Tryz.prog 111 #[.iface 134 (.agg #[.int .i64 n.f0,.int .i64 n.f1])] w _
    obtain⟨ns,hns⟩:∃ns,[n.f0,n.f1]=ns:=⟨_,rfl⟩
  case' outlet o=>
    obtain rfl:wOutlet=wd:=hwd;obtain rfl:[o.f0,o.f1,o.f2]=ns:=hns;have hN:=outlet_nums o
    change Calls Tryz.prog 111 #[.iface 136 (.agg #[.int .i64 o.f0,.int .i64 o.f1,.int .i64 o.f2])] w _
    obtain⟨ns,hns⟩:∃ns,[o.f0,o.f1,o.f2]=ns:=⟨_,rfl⟩
  all_goals
    rw[hns] at hN HG HL;clear hns;have HN:=aM hN;clear hN
    go_enter Tryz.func111,Tryz.ntmps111
    go_wp2_with (first|(go_at_call 119;refine(words_any _).mono ?_;rintro e w1 ⟨rfl,hb1⟩;have HB1:=aM hb1;clear hb1)|(first|(go_at_call 205;refine(HN.out _).mono ?_;rintro e w2 ⟨v2,rfl,hR2,hb2⟩)|(go_at_call 206;refine(HN.out _).mono ?_;rintro e w2 ⟨v2,rfl,hR2,hb2⟩)|(go_at_call 207;refine(HN.out _).mono ?_;rintro e w2 ⟨v2,rfl,hR2,hb2⟩));obtain⟨A2,c2,e2,hl2,hC2⟩:=Kd.R_reads hR2;subst e2;have HB2:=aM (below_step HB1.out hb2);have HC2:=aM hC2;clear hb2 hR2 hC2 hl2)
    go_loopg [4,20] ns.length (fun kq v4 v20 w'=>∃(j:Nat) (s:ByteArray),v4=.string s∧v20=.int .i64 (j:Int)∧Aside0 (j+kq=ns.length)∧Aside0 (rowF s (ns.drop j)=ln∧s.size≤10+22*j)∧Aside0 (Below w2.heap.size w2 w'))
    case atStart=>exact⟨0,_,rfl,rfl,⟨by omega⟩,⟨HL.out.1,by have:=HL.out.2.1;omega⟩,⟨Below.refl _ _⟩⟩
    case round=>
      obtain⟨j,s,rfl,rfl,HJ,HS,HW⟩:=hrel
      cases gk with
      |zero=>
        have c3:decide ((j:Int)<(ns.length:Int))=false:=decide_eq_false (by have:=HJ.out;omega);have c4:¬(j<ns.length):=by have:=HJ.out;omega
        have HE:Aside0 (s=ln):=⟨by have h1:=HS.out.1;rw[List.drop_eq_nil_of_le (by have:=HJ.out;omega)] at h1;exact h1⟩;go_wp2;go_ret;exact⟨by rw[HE.out];rfl,by rw[← HE.out];have:=HS.out.2;have:=HJ.out;have:=HL.out.2.2;omega,below_step HB2.out HW.out⟩
      |succ k2=>
        have c3:decide ((j:Int)<(ns.length:Int))=true:=decide_eq_true (by have:=HJ.out;omega);have p1:(0:Int)≤(j:Int):=by omega
        have p2:(j:Int)<(ns.length:Int):=by have:=HJ.out;omega
        obtain⟨ad2,ea,x0⟩:=Kd.at_int (Kd.C_below HC2.out HW.out) (j:Int) p1 p2
        cases ea
        rw[Int.toNat_natCast] at x0;have HGx:Aside0 (Good wr (rd ns j)):=⟨(HG.out _ (rd_memR (by omega))).below (below_step HB2.out HW.out)⟩;generalize hxx:rd ns j=xx at x0 HGx;have HXX:=aM hxx;clear hxx;have q1:=eq_true p1;have q2:=eq_true p2
        go_wp2_with (go_at_call 112;refine(itoa_any _ _ HGx.out).mono ?_;rintro e w1 ⟨si,rfl,Hsi,hbi⟩;have ha1:=fun W=>strAdd ⟨#[32]⟩ si (by have:=Hsi.out.2;have:(⟨#[32]⟩:ByteArray).size=1:=rfl;omega) W;have ha2:=fun W=>strAdd s (⟨#[32]⟩++si) (by rw[ByteArray.size_append];have:=Hsi.out.2;have:=HS.out.2;have:=HL.out.2.2;have:=HJ.out;have:(⟨#[32]⟩:ByteArray).size=1:=rfl;omega) W)
        clear ha1 ha2
        go_roundg k2
        case measure=>omega
        case rel=>exact⟨j+1,_,rfl,(by rw[IntWalk.wrap64_in _ (by have:=HL.out.2.2;have:=HJ.out;omega),Int.natCast_add,Int.natCast_one]),⟨by have:=HJ.out;omega⟩,⟨by rw[← HS.out.1,List.drop_eq_getElem_cons (show j<ns.length by omega),show ns[j]'(by omega)=xx by rw[← HXX.out];simp[rd,List.getD,List.getElem?_eq_getElem (show j<ns.length by omega)],Hsi.out.1];rfl,by rw[ByteArray.size_append,ByteArray.size_append];have:=Hsi.out.2;have:=HS.out.2;have:(⟨#[32]⟩:ByteArray).size=1:=rfl;omega⟩,⟨below_step HW.out hbi⟩⟩
end Go.Proofs.YtjioobfeikbffabGreatDoor.K
end
section
namespace Go.Proofs
open Go.Shelf
def Tryz.joinL_ren:Go.Shelf.Ren:=⟨fun|156=>113|165=>135|166=>136|169=>137|240=>144|241=>145|276=>164|277=>165|n=>n,fun|31=>108|9=>9|3=>3|4=>4|0=>0|20=>20|72=>160|76=>164|70=>158|37=>73|75=>163|127=>173|164=>191|5=>5|80=>166|n=>n,fun|n=>n⟩
theorem Tryz.joinL:Go.Proofs.Lays.n156 Tryz.prog Tryz.joinL_ren:={
  mixed:=by kernel_rfl
  f156:=Tryz.func113.trans (congrArg some (by kernel_rfl))
  f165:=Tryz.func135.trans (congrArg some (by kernel_rfl))
  f166:=Tryz.func136.trans (congrArg some (by kernel_rfl))
  f169:=Tryz.func137.trans (congrArg some (by kernel_rfl))
  f240:=Tryz.func144.trans (congrArg some (by kernel_rfl))
  f241:=Tryz.func145.trans (congrArg some (by kernel_rfl))
  f276:=Tryz.func164.trans (congrArg some (by kernel_rfl))
  f277:=Tryz.func165.trans (congrArg some (by kernel_rfl))
  t0:=Tryz.underlying0
  a0:=Tryz.isAgg0
  z0:=Tryz.sizeOf0
  v0:=Tryz.zeroValue0
  t3:=Tryz.underlying3
  a3:=Tryz.isAgg3
  z3:=Tryz.sizeOf3
  v3:=Tryz.zeroValue3
  t4:=Tryz.underlying4
  a4:=Tryz.isAgg4
  z4:=Tryz.sizeOf4
  v4:=Tryz.zeroValue4
  t9:=Tryz.underlying9
  a9:=Tryz.isAgg9
  z9:=Tryz.sizeOf9
  v9:=Tryz.zeroValue9
  t20:=Tryz.underlying20
  a20:=Tryz.isAgg20
  z20:=Tryz.sizeOf20
  v20:=Tryz.zeroValue20
  t31:=Tryz.underlying108
  a31:=Tryz.isAgg108
  z31:=Tryz.sizeOf108
  v31:=Tryz.zeroValue108
  t37:=Tryz.underlying73
  a37:=Tryz.isAgg73
  z37:=Tryz.sizeOf73
  v37:=Tryz.zeroValue73
  t70:=Tryz.underlying158
  a70:=Tryz.isAgg158
  z70:=Tryz.sizeOf158
  v70:=Tryz.zeroValue158
  t72:=Tryz.underlying160
  a72:=Tryz.isAgg160
  z72:=Tryz.sizeOf160
  v72:=Tryz.zeroValue160
  t75:=Tryz.underlying163
  a75:=Tryz.isAgg163
  z75:=Tryz.sizeOf163
  v75:=Tryz.zeroValue163
  t76:=Tryz.underlying164
  a76:=Tryz.isAgg164
  z76:=Tryz.sizeOf164
  v76:=Tryz.zeroValue164
  t127:=Tryz.underlying173
  a127:=Tryz.isAgg173
  z127:=Tryz.sizeOf173
  v127:=Tryz.zeroValue173
  t164:=Tryz.underlying191
  a164:=Tryz.isAgg191
  z164:=Tryz.sizeOf191
  v164:=Tryz.zeroValue191}
def Tryz.prefL_ren:Go.Shelf.Ren:=⟨fun|99=>118|206=>139|n=>n,fun|9=>9|4=>4|3=>3|n=>n,fun|n=>n⟩
theorem Tryz.prefL:Go.Proofs.Lays.n99 Tryz.prog Tryz.prefL_ren:={
  mixed:=by kernel_rfl
  f99:=Tryz.func118.trans (congrArg some (by kernel_rfl))
  f206:=Tryz.func139.trans (congrArg some (by kernel_rfl))
  t3:=Tryz.underlying3
  a3:=Tryz.isAgg3
  z3:=Tryz.sizeOf3
  v3:=Tryz.zeroValue3
  t4:=Tryz.underlying4
  a4:=Tryz.isAgg4
  z4:=Tryz.sizeOf4
  v4:=Tryz.zeroValue4
  t9:=Tryz.underlying9
  a9:=Tryz.isAgg9
  z9:=Tryz.sizeOf9
  v9:=Tryz.zeroValue9}
end Go.Proofs
end
section
namespace Go.Proofs.YtjioobfeikbffabGreatDoor.K
open Go.RowKit Go.Proofs.Zw Go.Proofs.Zl Go.Proofs.Zm
open Tx
theorem extraJ:Builder.Extra Tryz.prog Tryz.joinL_ren where
 sizeBuilder:=by kernel_rfl
 liesBuilder:=by kernel_rfl
 t5:=Tryz.underlying5
 a5:=Tryz.isAgg5
 z5:=Tryz.sizeOf5
 v5:=Tryz.zeroValue5
 infoByte:=by kernel_rfl
 cellsByte:=by kernel_rfl
 sizeByte:=by kernel_rfl
 neB5:=by decide
theorem infoStr:(Tryz.prog.info? 9).map (fun i=>(i.zero,i.size,i.bytes))=some (some (.string ByteArray.empty),1,16):=by kernel_rfl
theorem str_new (x:ByteArray) (W:World) (base:Nat) (hb:base≤W.heap.size) (e:TypeId):Kd.R Kd.string e (W.alloc (.cells #[.string x] e)) base (fun _=>True) (.slice (some ⟨W.heap.size,0,none⟩) 1 1) [x]:=by
 refine⟨fun _ _=>trivial,[.string x],?_,?_⟩
 ·exact World.ownsRow_lit W #[.string x] 1 hb (by unfold maxLen;omega) rfl
 ·exact Reps.one rfl (Reps.none _ _)
theorem join_any {w:World} {base:Nat} {v:Value} {xs:List ByteArray} {e:TypeId} (h:Kd.R Kd.string e w base (fun _=>True) v xs) (h0:0<xs.length) (hN:xs.length≤100000) (hlen:(Lib.join (xs.map (·.data.toList)) [10]).length≤140737488355328):
  Calls Tryz.prog 113 #[v,.string ⟨#[10]⟩] w fun e w'=>e=.returned (.string (bytesA (Lib.join (xs.map (·.data.toList)) [10])))∧Below w.heap.size w w':=by
 have ho:=Kd.own_of_R h;obtain⟨g,c,ev,hb,hg⟩:=ho.form h0;obtain⟨A,c',e',hc,hC⟩:=Kd.R_reads h;subst ev
 cases e'
 refine(Any.strings_Join Tryz.joinL extraJ g 0 c xs ⟨#[10]⟩ w (fun j x hx=>?_) hg (by omega) hc hlen);have hj:j<xs.length:=(List.getElem?_eq_some_iff.1 hx).1;obtain⟨ad,ea,x0⟩:=Kd.at_string hC (j:Int) (by omega) (by omega)
 cases ea
 rw[Int.toNat_natCast] at x0;have:rdOf ByteArray.empty xs (j:Int)=x:=by simp[rdOf,List.getD,hx]
 rw[this] at x0;rw[← x0]
 congr 1
 exact(Lib.add_plain _ _ _).symm
structure TxW (w:World) (I:Int) (A1 A2:Option Addr) (c1 c2:Nat) (N:List SN) (O:List SO) (W:World):Prop where
 hb:Below w.heap.size w W
 lt:w.heap.size+1≤W.heap.size
 t:W.heap[w.heap.size]? =some (.cells #[.int .i64 I,.slice A1 N.length c1,.slice A2 O.length c2] 25 (0,0))
theorem TxW.below {w:World} {I:Int} {A1 A2:Option Addr} {c1 c2:Nat} {N:List SN} {O:List SO} {W W1:World} (h:TxW w I A1 A2 c1 c2 N O W) (hb:Below (w.heap.size+1) W W1):TxW w I A1 A2 c1 c2 N O W1:=
 ⟨h.hb.trans (hb.mono (by omega)),Nat.le_trans h.lt hb.size,(hb.block _ (by omega)).trans h.t⟩
theorem byte_at (s:ByteArray) (kk:Nat) (h:kk<s.size):wrap64 ((s[kk].toNat:Int))=bt s (kk:Int):=by
 have h1:=bt_range s (kk:Int);have h2:((s[kk].toNat:Int))=bt s (kk:Int):=bt_at s (kk:Int) (by simpa using h);rw[h2];exact IntWalk.wrap64_in _ (by omega)
theorem chk_stepD (s:ByteArray) (i k:Nat) (c:Int) (hk:k<100) (hi:i≤1000) (hc0:0≤c) (hc1:c≤4000000000000000):wrap64 (c+wrap64 (wrap64 (bt s k*((k:Int)+1))*((i:Int)+1)))=chkS s i k c∧0≤chkS s i k c∧chkS s i k c≤c+26000000:=by
 have hb:=bt_range s (k:Int);have h1:bt s k*((k:Int)+1)≤255*100:=Int.mul_le_mul hb.2 (by omega) (by omega) (by omega);have h0:0≤bt s k*((k:Int)+1):=Int.mul_nonneg hb.1 (by omega);have h2:bt s k*((k:Int)+1)*((i:Int)+1)≤255*100*1001:=Int.mul_le_mul h1 (by omega) (by omega) (by omega);have h3:0≤bt s k*((k:Int)+1)*((i:Int)+1):=Int.mul_nonneg h0 (by omega);unfold chkS;generalize bt s k*((k:Int)+1)=y at *;rw[IntWalk.wrap64_in y (by omega)];generalize y*((i:Int)+1)=z at *;rw[IntWalk.wrap64_in z (by omega),IntWalk.wrap64_in _ (by omega)]
 omega
theorem join_size:∀(rows:List (List UInt8)),(Lib.join rows [10]).length≤(rows.map fun r=>r.length+1).sum
 |[]=>by simp[Lib.join,List.intercalate]
 |[x]=>by simp[Lib.join,List.intercalate]
 |x::y::l=>by
  have h3:Lib.join (x::y::l) [10]=x++[10]++Lib.join (y::l) [10]:=by simp[Lib.join,List.intercalate]
  have:=join_size (y::l);rw[h3];simp only[List.length_append,List.map_cons,List.sum_cons,List.length_singleton] at *
  omega
theorem sum_small {l:List (List UInt8)} {b:Nat} (h:∀r∈l,r.length≤b):(l.map fun r=>r.length+1).sum≤(b+1)*l.length:=by
 induction l with
 |nil=>simp
 |cons x l ih=>
  have h1:=h x (List.mem_cons_self ..);have h2:=ih (fun r hr=>h r (List.mem_cons_of_mem _ hr));simp only[List.map_cons,List.sum_cons,List.length_cons,Nat.mul_add,Nat.mul_one]
  omega
theorem row_size {wd:ByteArray} {ns:List Int} (hw:wd.size≤10) (hl:ns.length≤3) (hr:∀n∈ns,0≤n∧n<1000):(rowF wd ns).size≤76:=by
 have key:∀(l:List Int) (s:ByteArray),(∀ n∈l,0≤n∧n<1000)->(rowF s l).size≤s.size+4*l.length:=by
  intro l
  induction l with
  |nil=>intro s _;simp[rowF]
  |cons n l ih=>
   intro s hl;have h1:=hl n (List.mem_cons_self ..);have h2:=(itoa_size (m:=3) h1.1 (by simpa using h1.2) (by omega)).1;have h3:=ih (s++(⟨#[32]⟩++itoaS n)) (fun x hx=>hl x (List.mem_cons_of_mem _ hx));have e:rowF s (n::l)=rowF (s++(⟨#[32]⟩++itoaS n)) l:=rfl;have h4:(⟨#[32]⟩:ByteArray).size=1:=rfl;rw[e];rw[ByteArray.size_append,ByteArray.size_append,h4] at h3;simp only[List.length_cons]
   omega
 have:=key ns wd hr
 omega
theorem rows_size {I:Int} {N:List SN} {O:List SO} (h:goodD I N O):∀r∈rowsD I N O,r.size≤76:=by
 intro b hb;unfold rowsD at hb
 rcases List.mem_cons.1 hb with rfl|hb
 ·exact row_size (by decide) (by simp) (by intro n hn;rw[List.mem_singleton] at hn;rw[hn];exact h.1)
 ·rcases List.mem_append.1 hb with hb|hb
  ·obtain⟨n,hn,rfl⟩:=List.mem_map.1 hb;have:=h.2.1 n hn;refine row_size (by decide) (by simp) (fun x hx=>?_);simp only[List.mem_cons,List.not_mem_nil,or_false] at hx
   rcases hx with rfl|rfl
   ·exact this.1
   ·exact this.2
  ·obtain⟨o,ho,rfl⟩:=List.mem_map.1 hb;have:=h.2.2 o ho;refine row_size (by decide) (by simp) (fun x hx=>?_);simp only[List.mem_cons,List.not_mem_nil,or_false] at hx
   rcases hx with rfl|rfl|rfl
   ·exact this.1
   ·exact this.2.1
   ·exact this.2.2
set_option maxRecDepth 100000 in
set_option maxHeartbeats 4000000 in
theorem text_any (A1 A2:Option Addr) (c1 c2:Nat) (I:Int) (N:List SN) (O:List SO) (w:World) (r1:Kd.C k77 w A1 N.length N) (l1:N.length≤c1) (r2:Kd.C k51 w A2 O.length O) (l2:O.length≤c2) (hT:TabW w) (hg:goodD I N O) (hn:N.length≤400) (ho:O.length≤400):
  Calls Tryz.prog 77 #[.agg #[.int .i64 I,.slice A1 N.length c1,.slice A2 O.length c2]] w fun e w'=>e=.returned (.string (textD I N O))∧Below w.heap.size w w':=by
 have hu1:=Tryz.underlying25;have hu2:=Tryz.underlying77;have hu3:=Tryz.underlying51;have hu4:=Tryz.underlying134;have hu5:=Tryz.underlying136;have HL:=aM (And.intro hn ho);have HR1:=aM r1;have HR2:=aM r2;have HT:=aM hT;have HG:=aM hg;have CR:Aside0 (∀ (x:TLine) (W:World),Below w.heap.size w W->(∀ n∈numsL x,0≤n∧n<1000)->Calls Tryz.prog 111 #[encL x] W fun e w'=>e=.returned (.string (lineL x))∧(lineL x).size≤76∧Below W.heap.size W w'):=⟨fun x W hb hx=>row_any x W (fun n hn=>⟨(hx n hn).1,.inr ⟨by have:=hx n hn;omega,hT.below hb⟩⟩)⟩;clear hn ho r1 r2 l1 l2 hT hg
 go_enter Tryz.func77,Tryz.ntmps77
 go_upto_region 1 with(fail)
 generalize hW0:World.alloc _ _=W0;have HX:Aside0 (TxW w I A1 A2 c1 c2 N O W0):=⟨by rw[← hW0];exact⟨(Below.refl _ w).alloc (Nat.le_refl _) _,by simp,blk_new _ _⟩⟩;clear hW0;have y0:W0.cell? ⟨w.heap.size,0,none⟩=some (.int .i64 I):=(blk_cell HX.out.t 0).trans rfl
 go_upto_region 2 with(go_at_call 111;refine(CR.out (.head I) _ HX.out.hb (by intro n hn;rw[show numsL (.head I)=[I] from rfl,List.mem_singleton] at hn;rw[hn];exact HG.out.1)).mono ?_;rintro e w1 ⟨rfl,hs1,hb1⟩;have HX1:=aM (HX.out.below (hb1.mono HX.out.lt));have HS1:=aM hs1;clear hb1 hs1)
 clear y0;generalize hW2:World.alloc w1 _=W2;have HX2:Aside0 (TxW w I A1 A2 c1 c2 N O W2):=⟨by rw[← hW2];exact HX1.out.below ((Below.refl _ _).alloc HX1.out.lt _)⟩;have HO:Aside0 (Kd.R Kd.string 9 W2 (w.heap.size+1) (fun _=>True) (.slice (some ⟨w1.heap.size,0,none⟩) 1 1) [lineL (.head I)]):=⟨by rw[← hW2];exact str_new _ w1 _ HX1.out.lt _⟩;clear hW2;have y1:W2.cell? ⟨w.heap.size,1,none⟩=some (.slice A1 N.length c1):=(blk_cell HX2.out.t 1).trans rfl;go_wp2;clear y1
 go_loopg [3,20] N.length (fun kq v3 v20 w'=>∃j:Nat,v20=.int .i64 (j:Int)∧Aside0 (j+kq=N.length)∧(∃ rs,Aside0 (rs=lineL (.head I)::(N.take j).map rowN∧rs.length=j+1)∧Aside0 (Kd.R Kd.string 9 w' (w.heap.size+1) (fun _=>True) v3 rs))∧Aside0 (TxW w I A1 A2 c1 c2 N O w'))
 case atStart=>exact⟨0,rfl,⟨by omega⟩,⟨_,⟨rfl,rfl⟩,HO⟩,HX2⟩
 case round=>
  clear HX HX1 HX2 HO;obtain⟨j,rfl,HJ,⟨rs,HS,HO⟩,HX⟩:=hrel;obtain⟨Ao,co,eo⟩:=Kd.R_slice HO.out;subst eo
  cases gk with
  |succ k2=>
   have hj:j<N.length:=by have:=HJ.out;omega
   have c3:decide ((j:Int)<(N.length:Int))=true:=decide_eq_true (by omega);have p1:(0:Int)≤(j:Int):=by omega
   have p2:(j:Int)<(N.length:Int):=by omega
   obtain⟨ad,ea,x0,x1⟩:=at_T77 (Kd.C_below HR1.out HX.out.hb) (j:Int) p1 p2
   cases ea
   rw[Int.toNat_natCast] at x0 x1;obtain⟨x,hx⟩:∃x,rdN N (j:Int)=x:=⟨_,rfl⟩
   change wr.cell? _=some (.int .i64 (rdN N (j:Int)).f0) at x0
   change wr.cell? _=some (.int .i64 (rdN N (j:Int)).f1) at x1
   rw[hx] at x0 x1;have hxe:N[j]? =some x:=by rw[List.getElem?_eq_getElem hj,←hx];simp[rd_T77,List.getD,List.getElem?_eq_getElem hj]
   have hxm:x∈N:=List.mem_of_getElem? hxe;have HXE:=aM (And.intro hxe hxm);have q1:=eq_true p1;have q2:=eq_true p2;have hw1:wrap64 ((j:Int)+1)=((j+1:Nat):Int):=by rw[IntWalk.wrap64_in _ (by have:=HL.out.1;omega)];omega
   have HW1:=aM hw1;clear hx hxe hxm hj hw1
   go_upto_region 5 with(fail)
   clear x0 x1 c3 p1 p2 q1 q2;obtain⟨p,hp⟩:∃p,wr.heap.size=p:=⟨_,rfl⟩;(try rw[hp]);generalize hW3:World.alloc wr _=W3;have HB3:Aside0 (Below wr.heap.size wr W3):=⟨by rw[← hW3];exact(Below.refl _ _).alloc (Nat.le_refl _) _⟩;have hX3:W3.heap[p]? =some (.cells #[.int .i64 x.f0,.int .i64 x.f1] 77 (0,0)):=by rw[← hW3,←hp];exact blk_new _ _
   clear hW3 hp;have x0:W3.cell? ⟨p,0,none⟩=some (.int .i64 x.f0):=(blk_cell hX3 0).trans rfl;have x1:W3.cell? ⟨p,1,none⟩=some (.int .i64 x.f1):=(blk_cell hX3 1).trans rfl;have HX3:=aM (HX.out.below (HB3.out.mono HX.out.lt));have HO3:=aM (Kd.R_below HO.out HB3.out);clear hX3
   go_upto_region 6 with(first|(go_at_call 111;refine(CR.out (.node x) _ HX3.out.hb (by intro n hn;have hh:=HG.out.2.1 x HXE.out.2;simp only[numsL,List.mem_cons,List.not_mem_nil,or_false] at hn;rcases hn with rfl|rfl;exact hh.1;exact hh.2)).mono ?_;rintro e w4 ⟨rfl,hs4,hb4⟩;have HX4:=aM (HX3.out.below (hb4.mono HX3.out.lt));have HO4:=aM (Kd.R_below HO3.out hb4);clear hb4 hs4)|((with_reducible refine gate_builtin (b:=.append) (xs:=#[.tmp 24,.tmp 29]) rfl ?_);at_builtin;(refine Kd.R_append Kd.string (w0:=w4) (w.heap.size+1) rfl (.tmp 24) (.tmp 29) 108 9 (.string ByteArray.empty) 16 rfl Tryz.underlying108 infoStr rfl (by decide) (by omega) (.slice Ao rs.length co) rs (lineL (.node x)) [.string (lineL (.node x))] (fun _=>True) (fun _=>False) rfl rfl ?aP (fun _ hk=>hk.elim) ?aF ?aO ?aB ?aS ?aL ?_);(case aP=>exact rfl);(case aB=>exact Below.refl _ _);(case aF=>exact(fun _ _=>trivial));(case aO=>exact HO4.out);(case aS=>exact HX4.out.lt);(case aL=>have:=HS.out.2;have:=HL.out;have:=HJ.out;omega);intro vA wA ho hbA hgA hatA))
   have HXA:=aM (HX4.out.below hbA);have HOA:=aM ho;clear x0 x1 ho hbA hgA hatA;have hw1:=HW1.out;go_wp2
   go_roundg k2
   case measure=>omega
   case rel=>exact⟨j+1,(by first|rfl|rw[hw1]|(rw [Int.natCast_add];rfl)),⟨by have:=HJ.out;omega⟩,⟨rs++[lineL (.node x)],⟨by rw[HS.out.1,List.take_add_one,HXE.out.1,List.map_append];rfl,by rw[List.length_append,HS.out.2];rfl⟩,HOA⟩,HXA⟩
  |zero=>
   have c3:decide ((j:Int)<(N.length:Int))=false:=decide_eq_false (by have:=HJ.out;omega);have c4:¬(j<N.length):=by have:=HJ.out;omega
   have HS1:Aside0 (rs=lineL (.head I)::N.map rowN∧rs.length=N.length+1):=⟨by rw[HS.out.1,List.take_of_length_le (by have:=HJ.out;omega)],by rw[HS.out.2];have:=HJ.out;omega⟩;obtain⟨rs1,hrs1⟩:∃rs1,lineL (.head I)::N.map rowN=rs1:=⟨_,rfl⟩;have HQ:=aM hrs1;have y1:wr.cell? ⟨w.heap.size,2,none⟩=some (.slice A2 O.length c2):=(blk_cell HX.out.t 2).trans rfl;clear HS HJ hrs1;go_wp2;clear y1 c3 c4
   go_loopg [3,35] O.length (fun kq v3 v35 w'=>∃j:Nat,v35=.int .i64 (j:Int)∧Aside0 (j+kq=O.length)∧(∃ rs,Aside0 (rs=rs1++(O.take j).map rowO∧rs.length=N.length+1+j)∧Aside0 (Kd.R Kd.string 9 w' (w.heap.size+1) (fun _=>True) v3 rs))∧Aside0 (TxW w I A1 A2 c1 c2 N O w'))
   case atStart=>exact⟨0,rfl,⟨by omega⟩,⟨rs,⟨by rw[HS1.out.1,HQ.out];simp,HS1.out.2⟩,HO⟩,HX⟩
   case round=>
    clear HX HO HS1;obtain⟨j,rfl,HJ,⟨rs,HS,HO⟩,HX⟩:=hrel;obtain⟨Ao,co,eo⟩:=Kd.R_slice HO.out;subst eo
    cases gk with
    |succ k2=>
     have hj:j<O.length:=by have:=HJ.out;omega
     have c3:decide ((j:Int)<(O.length:Int))=true:=decide_eq_true (by omega);have p1:(0:Int)≤(j:Int):=by omega
     have p2:(j:Int)<(O.length:Int):=by omega
     obtain⟨ad,ea,x0,x1,x2⟩:=at_T51 (Kd.C_below HR2.out HX.out.hb) (j:Int) p1 p2
     cases ea
     rw[Int.toNat_natCast] at x0 x1 x2;obtain⟨x,hx⟩:∃x,rdO O (j:Int)=x:=⟨_,rfl⟩
     change wr.cell? _=some (.int .i64 (rdO O (j:Int)).f0) at x0
     change wr.cell? _=some (.int .i64 (rdO O (j:Int)).f1) at x1
     change wr.cell? _=some (.int .i64 (rdO O (j:Int)).f2) at x2
     rw[hx] at x0 x1 x2;have hxe:O[j]? =some x:=by rw[List.getElem?_eq_getElem hj,←hx];simp[rd_T51,List.getD,List.getElem?_eq_getElem hj]
     have hxm:x∈O:=List.mem_of_getElem? hxe;have HXE:=aM (And.intro hxe hxm);have q1:=eq_true p1;have q2:=eq_true p2;have hw1:wrap64 ((j:Int)+1)=((j+1:Nat):Int):=by rw[IntWalk.wrap64_in _ (by have:=HL.out.2;omega)];omega
     have HW1:=aM hw1;clear hx hxe hxm hj hw1
     go_upto_region 10 with(fail)
     clear x0 x1 x2 c3 p1 p2 q1 q2;obtain⟨p,hp⟩:∃p,wr.heap.size=p:=⟨_,rfl⟩;(try rw[hp]);generalize hW3:World.alloc wr _=W3;have HB3:Aside0 (Below wr.heap.size wr W3):=⟨by rw[← hW3];exact(Below.refl _ _).alloc (Nat.le_refl _) _⟩;have hX3:W3.heap[p]? =some (.cells #[.int .i64 x.f0,.int .i64 x.f1,.int .i64 x.f2] 51 (0,0)):=by rw[← hW3,←hp];exact blk_new _ _
     clear hW3 hp;have x0:W3.cell? ⟨p,0,none⟩=some (.int .i64 x.f0):=(blk_cell hX3 0).trans rfl;have x1:W3.cell? ⟨p,1,none⟩=some (.int .i64 x.f1):=(blk_cell hX3 1).trans rfl;have x2:W3.cell? ⟨p,2,none⟩=some (.int .i64 x.f2):=(blk_cell hX3 2).trans rfl;have HX3:=aM (HX.out.below (HB3.out.mono HX.out.lt));have HO3:=aM (Kd.R_below HO.out HB3.out);clear hX3
     go_upto_region 11 with(first|(go_at_call 111;refine(CR.out (.outlet x) _ HX3.out.hb (by intro n hn;have hh:=HG.out.2.2 x HXE.out.2;simp only[numsL,List.mem_cons,List.not_mem_nil,or_false] at hn;rcases hn with rfl|rfl|rfl;exact hh.1;exact hh.2.1;exact hh.2.2)).mono ?_;rintro e w4 ⟨rfl,hs4,hb4⟩;have HX4:=aM (HX3.out.below (hb4.mono HX3.out.lt));have HO4:=aM (Kd.R_below HO3.out hb4);clear hb4 hs4)|((with_reducible refine gate_builtin (b:=.append) (xs:=#[.tmp 39,.tmp 44]) rfl ?_);at_builtin;(refine Kd.R_append Kd.string (w0:=w4) (w.heap.size+1) rfl (.tmp 39) (.tmp 44) 108 9 (.string ByteArray.empty) 16 rfl Tryz.underlying108 infoStr rfl (by decide) (by omega) (.slice Ao rs.length co) rs (lineL (.outlet x)) [.string (lineL (.outlet x))] (fun _=>True) (fun _=>False) rfl rfl ?aP (fun _ hk=>hk.elim) ?aF ?aO ?aB ?aS ?aL ?_);(case aP=>exact rfl);(case aB=>exact Below.refl _ _);(case aF=>exact(fun _ _=>trivial));(case aO=>exact HO4.out);(case aS=>exact HX4.out.lt);(case aL=>have:=HS.out.2;have:=HL.out;have:=HJ.out;omega);intro vA wA ho hbA hgA hatA))
     have HXA:=aM (HX4.out.below hbA);have HOA:=aM ho;clear x0 x1 x2 ho hbA hgA hatA;have hw1:=HW1.out;go_wp2
     go_roundg k2
     case measure=>omega
     case rel=>exact⟨j+1,(by first|rfl|rw[hw1]|(rw [Int.natCast_add];rfl)),⟨by have:=HJ.out;omega⟩,⟨rs++[lineL (.outlet x)],⟨by rw[HS.out.1,List.take_add_one,HXE.out.1,List.map_append,←List.append_assoc];rfl,by rw[List.length_append,HS.out.2];simp;omega⟩,HOA⟩,HXA⟩
    |zero=>
     have c3:decide ((j:Int)<(O.length:Int))=false:=decide_eq_false (by have:=HJ.out;omega);have c4:¬(j<O.length):=by have:=HJ.out;omega
     have HRS:Aside0 (rs=rowsD I N O):=⟨by rw[HS.out.1,List.take_of_length_le (by have:=HJ.out;omega),←HQ.out];rfl⟩;have HRL:Aside0 (rs.length≤801∧1≤rs.length):=⟨by have:=HS.out.2;have:=HJ.out;have:=HL.out;omega⟩
     have HSZ:Aside0 (∀ r∈rs,r.size≤76):=⟨fun r hr=>by
      rw[HRS.out] at hr
      exact rows_size HG.out r hr⟩
     obtain⟨_,_,e1,hlc,hC1⟩:=Kd.R_reads HO.out
     cases e1
     have HC:=aM hC1;clear hC1 hlc HS HJ HQ;go_wp2;clear c3 c4;obtain⟨wO,rfl⟩:∃wO:World,wO=wr:=⟨_,rfl⟩
     go_loopg [8,49] rs.length (fun kq v8 v49 w'=>∃(i:Nat) (chk:Int),v8=.int .i64 chk∧v49=.int .i64 (i:Int)∧w'=wO∧Aside0 (i+kq=rs.length)∧Aside0 (chk=sumF rs i∧0≤chk∧chk≤i*2000000000))
     case atStart=>exact⟨0,0,rfl,rfl,rfl,⟨by omega⟩,⟨rfl,by omega,by omega⟩⟩
     case round=>
      obtain⟨i,chk,rfl,rfl,rfl,HI,HO2⟩:=hrel;obtain⟨wY,rfl⟩:∃wY:World,wY=wr:=⟨_,rfl⟩
      cases gk with
      |succ k2=>
       have hil:i<rs.length:=by have:=HI.out;omega
       have c3:decide ((i:Int)<(rs.length:Int))=true:=decide_eq_true (by omega);have p1:(0:Int)≤(i:Int):=by omega
       have p2:(i:Int)<(rs.length:Int):=by omega
       obtain⟨ad,ea,x0⟩:=Kd.at_string HC.out (i:Int) p1 p2
       cases ea
       rw[Int.toNat_natCast] at x0;obtain⟨r,hr⟩:∃r,rdOf ByteArray.empty rs (i:Int)=r:=⟨_,rfl⟩;rw[hr] at x0;have HRR:Aside0 (rs.getD i ByteArray.empty=r):=⟨by rw[← hr];simp[rdOf]⟩;have hrs:r.size≤76:=HSZ.out r (by rw[← HRR.out,List.getD_eq_getElem?_getD,List.getElem?_eq_getElem hil];exact List.getElem_mem hil);have HRZ:=aM hrs;have hw1:wrap64 ((i:Int)+1)=((i+1:Nat):Int):=by rw[IntWalk.wrap64_in _ (by have:=HRL.out.1;omega)];omega
       have HW1:=aM hw1;have q1:=eq_true p1;have q2:=eq_true p2;clear hr hrs hw1;go_wp2;clear x0 c3 p1 p2 q1 q2
       go_loopg [8,56] r.size (fun kq v8 v56 w'=>∃(kk:Nat) (c:Int),v8=.int .i64 c∧v56=.int .i64 (kk:Int)∧Aside0 (kk+kq=r.size)∧Aside0 (c=iter kk (chkS r i) chk∧0≤c∧c≤chk+kk*26000000)∧w'=wY)
       case atStart=>exact⟨0,_,rfl,rfl,⟨by omega⟩,⟨rfl,by have:=HO2.out.2;omega,by omega⟩,rfl⟩
       case round=>
        obtain⟨kk,c,rfl,rfl,HKK,HCC,rfl⟩:=hrel
        cases gk with
        |zero=>
         have c3:decide ((kk:Int)<(r.size:Int))=false:=decide_eq_false (by have:=HKK.out;omega);have c4:¬(kk<r.size):=by have:=HKK.out;omega
         have hw1:=HW1.out;go_wp2
         go_roundg k2
         case measure=>omega
         case rel=>exact⟨i+1,_,rfl,(by first|rfl|rw[hw1]|(rw [Int.natCast_add];rfl)),rfl,⟨by have:=HI.out;omega⟩,⟨by rw[HCC.out.1,HO2.out.1,show kk=r.size by have:=HKK.out;omega];show _=chkF (rs.getD i ByteArray.empty) i (sumF rs i);rw[HRR.out];rfl,HCC.out.2.1,by have:=HCC.out.2.2;have:=HO2.out.2.2;have:=HKK.out;have:=HRZ.out;omega⟩⟩
        |succ k4=>
         have c3:decide ((kk:Int)<(r.size:Int))=true:=decide_eq_true (by have:=HKK.out;omega);have c4:kk<r.size:=by have:=HKK.out;omega
         have b1:=bt_at r kk;have hi1:(i:Int)≤801:=by have:=HRL.out.1;omega
         have hk1:(kk:Int)≤76:=by have:=HRZ.out;omega
         go_wp2
         go_roundg k4
         case measure=>omega
         case rel=>
          have hst:=chk_stepD r i kk c (by omega) (by omega) HCC.out.2.1 (by have:=HCC.out.2.2;have:=HO2.out.2;omega);exact⟨kk+1,_,rfl,(by rw[Int.natCast_add,Int.natCast_one]),⟨by have:=HKK.out;omega⟩,⟨by rw[byte_at r kk c4,hst.1,HCC.out.1];rfl,by rw[byte_at r kk c4,hst.1];have:=HCC.out.2;omega⟩,rfl⟩
      |zero=>
       have c3:decide ((i:Int)<(rs.length:Int))=false:=decide_eq_false (by have:=HI.out;omega);have c4:¬(i<rs.length):=by have:=HI.out;omega
       have hc0:0≤chk:=HO2.out.2.1;have HM:Aside0 (checkD I N O=chk % 163):=⟨by unfold checkD;rw[HO2.out.1,show i=rs.length by have:=HI.out;omega,HRS.out]⟩
       go_upto_region 23 with(fail)
       clear c3 c4;have hm0:0≤chk % 163:=by omega
       have hm1:chk % 163<163:=by omega
       generalize chk % 163=m at HM hm0 hm1;clear hc0;have he:(⟨#[101,110,100,32]⟩:ByteArray).size=4:=rfl
       go_wp2_with (fail)
       refine(itoa_any _ _ ⟨by omega,Or.inl (by omega)⟩).mono ?_;rintro e w1 ⟨s1,rfl,H1,hb1⟩;have ha1:=fun W=>strAdd ⟨#[101,110,100,32]⟩ s1 (by have:=H1.out.2;omega) W
       go_wp2_with (fail)
       clear ha1;refine(itoa_any _ _ ⟨by omega,Or.inl (by omega)⟩).mono ?_;rintro e w2 ⟨s2,rfl,H2,hb2⟩;have ha2:=fun W=>strAdd (⟨#[101,110,100,32]⟩++s1) s2 (by rw[ByteArray.size_append];have:=H1.out.2;have:=H2.out.2;omega) W
       go_wp2_with (fail)
       clear ha2;refine(itoa_any _ _ ⟨by omega,Or.inl (by omega)⟩).mono ?_;rintro e w3 ⟨s3,rfl,H3,hb3⟩;have ha3:=fun W=>strAdd (⟨#[101,110,100,32]⟩++s1++s2) s3 (by rw[ByteArray.size_append,ByteArray.size_append];have:=H1.out.2;have:=H2.out.2;have:=H3.out.2;omega) W;have HEE:Aside0 (⟨#[101,110,100,32]⟩++s1++s2++s3=endF m):=⟨by rw[H1.out.1,H2.out.1,H3.out.1];rfl⟩;rw[HEE.out] at ha3;have HB3:=aM (below_step (below_step hb1 hb2) hb3);have HX3:=aM (HX.out.below (HB3.out.mono HX.out.lt));have HO3:=aM (Kd.R_below HO.out HB3.out);clear hb1 hb2 hb3 hm0 hm1 he
       go_upto_region 24 with((with_reducible refine gate_builtin (b:=.append) (xs:=#[.tmp 75,.tmp 89]) rfl ?_);at_builtin;(refine Kd.R_append Kd.string (w0:=w3) (w.heap.size+1) rfl (.tmp 75) (.tmp 89) 108 9 (.string ByteArray.empty) 16 rfl Tryz.underlying108 infoStr rfl (by decide) (by omega) (.slice Ao rs.length co) rs (endF m) [.string (endF m)] (fun _=>True) (fun _=>False) rfl rfl ?aP (fun _ hk=>hk.elim) ?aF ?aO ?aB ?aS ?aL ?_);(case aP=>exact rfl);(case aB=>exact Below.refl _ _);(case aF=>exact(fun _ _=>trivial));(case aO=>exact HO3.out);(case aS=>exact HX3.out.lt);(case aL=>have:=HRL.out.1;omega);intro vA wA ho hbA hgA hatA)
       have HXA:=aM (HX3.out.below hbA)
       have HJL:Aside0 ((Lib.join ((rs++[endF m]).map (·.data.toList)) [10]).length≤200000∧(textD I N O).data.toList=Lib.join ((rs++[endF m]).map (·.data.toList)) [10]++[10]):=⟨by
        refine⟨?_,by unfold textD;rw[HRS.out,HM.out,data_app,bytes_data]⟩;refine Nat.le_trans (join_size _) (Nat.le_trans (sum_small (b:=76) (fun r hr=>?_)) (by rw[List.length_map,List.length_append];have:=HRL.out.1;simp;omega));obtain⟨x,hx,rfl⟩:=List.mem_map.1 hr;rw[← Lib.size_eq]
        rcases List.mem_append.1 hx with hx|hx
        ·exact HSZ.out x hx
        ·rw[List.mem_singleton] at hx;rw[hx,←HEE.out,ByteArray.size_append,ByteArray.size_append,ByteArray.size_append];have h1:=H1.out.2;have h2:=H2.out.2;have h3:=H3.out.2;have h4:(⟨#[101,110,100,32]⟩:ByteArray).size=4:=rfl
         omega⟩
       have CJ:=join_any ho (by simp) (by simp;have:=HRL.out.1;omega) (by have:=HJL.out.1;omega);obtain⟨js,hjs⟩:∃js,bytesA (Lib.join ((rs++[endF m]).map (·.data.toList)) [10])=js:=⟨_,rfl⟩;rw[hjs] at CJ;have HJS:Aside0 (js.size≤200000∧js++⟨#[10]⟩=textD I N O):=⟨by rw[← hjs,Lib.size_eq,bytes_data];exact HJL.out.1,by rw[← hjs];unfold textD;rw[HRS.out,HM.out]⟩;have CJ:=aM CJ;clear ha3 ho hbA hgA hatA hjs
       go_wp2_with (go_at_call 113;refine CJ.out.mono ?_;rintro e w5 ⟨rfl,hb5⟩;have ha4:=fun W=>strAdd js ⟨#[10]⟩ (by have hn1:(⟨#[10]⟩:ByteArray).size=1:=rfl;rw[hn1];have:=HJS.out.1;omega) W)
       clear ha4;go_ret;refine⟨?_,below_step HXA.out.hb hb5⟩;rw[← HJS.out.2]
       rfl
end Go.Proofs.YtjioobfeikbffabGreatDoor.K
end
section
namespace Go.Proofs.YtjioobfeikbffabGreatDoor.K
open Go.RowKit Go.Proofs.Zw Go.Proofs.Zl Go.Proofs.Zm
open Tx
attribute [local go_sem] Oper.semAt_some
attribute [local simp] clsA
theorem gensplit_one (s:ByteArray) (c:UInt8) (w:World) (hs:s.size<4294967281):
  Calls Tryz.prog 138 #[.string s,.string ⟨#[c]⟩,.int .i64 0,.int .i64 (-1)] w fun e w'=>e=.returned (.slice (some ⟨w.heap.size,0,none⟩) (partsF s c).length (partsF s c).length)∧w'=w.alloc (.cells ((partsF s c).map Value.string).toArray 9):=by
 have hle:=Lib.countB_le ⟨#[c]⟩ (Nat.le_refl 1) s.size s (Nat.le_refl _);have hlen:=Lib.splitB_all ⟨#[c]⟩ (Nat.le_refl 1) 0 _ s rfl
 have h:=Any.strings_genSplit_core { Tryz.splitL with} infoStr s ⟨#[c]⟩ 0 (-1) (Lib.countB s ⟨#[c]⟩+1) w hs (Nat.le_refl 1) (Nat.zero_le _)
  (fun x cs hx=>(Any.strings_Index_one { Tryz.splitL with} x c _).mono fun e w' ⟨he,hw⟩=>⟨by rw[he];unfold Lib.indexB;rw[Lib.index_one],hw⟩)
  (Any.strings_Count_one { Tryz.splitL with} s c w |>.mono fun e w' ⟨he,hw⟩=>⟨by rw[he];show _=Ending.returned (Value.int .i64 ((Lib.count s.data.toList [c]:Nat):Int));rw[Lib.count_one];rfl,hw⟩)
  (by decide) (by decide) (by rw[if_pos (by decide)];omega)
 rw[Nat.add_sub_cancel,hlen] at h;have e2:Lib.cellsOf (Lib.splitB ⟨#[c]⟩ 0 (Lib.countB s ⟨#[c]⟩) s) (Lib.countB s ⟨#[c]⟩+1)=((Lib.splitB ⟨#[c]⟩ 0 (Lib.countB s ⟨#[c]⟩) s).map Value.string).toArray:=by rw[← hlen];exact Lib.cellsOf_full _
 rw[e2,←hlen] at h;exact h
theorem split_one (s:ByteArray) (c:UInt8) (w:World) (hs:s.size<4294967281):
  Calls Tryz.prog 115 #[.string s,.string ⟨#[c]⟩] w fun e w'=>∃A cc,e=.returned (.slice A (partsF s c).length cc)∧Aside0 (Kd.C Kd.string w' A (partsF s c).length (partsF s c)∧(partsF s c).length≤cc)∧Below w.heap.size w w':=by
 have h:=gensplit_one s c w hs
 have hl:(partsF s c).length≤9223372036854775807:=by
  have:=Lib.splitB_all ⟨#[c]⟩ (Nat.le_refl 1) 0 _ s rfl;have hle:=Lib.countB_le ⟨#[c]⟩ (Nat.le_refl 1) s.size s (Nat.le_refl _);unfold partsF
  omega
 go_enter Tryz.func115,Tryz.ntmps115
 go_wp2_with (go_at_call 138;refine h.mono ?_;rintro e w' ⟨rfl,rfl⟩)
 go_ret;refine⟨_,_,rfl,⟨?_,Nat.le_refl _⟩,(Below.refl _ _).alloc (Nat.le_refl _) _⟩;have:=own_lit_of (enc:=Value.string) w w.heap.size 9 (partsF s c) (Nat.le_refl _) hl;obtain⟨A,cc,e,hr⟩:=own_reads_of (d:=ByteArray.empty) this
 cases e
 exact Kd.C_of_reads hr
theorem sure_yes (why:ByteArray) (w:World):Calls Tryz.prog 116 #[.bool true,.string why] w fun e w'=>e=.returned (.tuple #[])∧w=w':=by
 go_enter Tryz.func116,Tryz.ntmps116
 go_wp2
 go_end0
 exact⟨rfl,rfl⟩
def gaveUp (e:Ending):Prop:=∃why:ByteArray,e=.panicked [{ v:=.iface 142 (.agg #[.string why]),recovered:=false}]
theorem sure_no (why:ByteArray) (w:World):Calls Tryz.prog 116 #[.bool false,.string why] w fun e w'=>e=.panicked [{ v:=.iface 142 (.agg #[.string why]),recovered:=false}]∧w=w':=by
 go_enter Tryz.func116,Tryz.ntmps116
 go_wp2;exact⟨rfl,rfl,rfl⟩
theorem callP_ {P:Program} {ops:Array Oper} {Q:Exit->Act->World->Prop} {oi:Oper} {N:Option Tmp} {a:Act} {w:World} {K:Act->World->Prop} (f:FuncId) (args:Array Value) (hw:Region.wanted oi (yielded ops a.tmps)=true) (hrun:(execOp a.eval oi).run P w=.ok (.enter f args) w)
  (h:Calls P f args w fun e w'=>∃ch,e=.panicked ch∧Q (.panic ch) a w'):if Region.wanted oi (yielded ops a.tmps)=true then Oper.wp P oi a w K Q else K (a.put N undef) w:=by
 rw[if_pos hw];unfold Oper.wp;rw[hrun,Oper.upon_enter];refine h.mono fun e w'' hh=>?_;obtain⟨v,rfl,hk⟩:=hh;exact hk
theorem digs_succ {x:ByteArray} {k:Nat}:digsF x (k+1)=(digsF x k&&isDigB (bt x k)):=by
 simp[digsF,List.range_succ]
theorem val_small {x:ByteArray} {k:Nat} (h:digsF x k=true) (hk:k≤4):0≤valF x k∧valF x k≤9999∧(k≤3->valF x k≤999):=by
 have:=val_lt k h;have h4:k=0∨k=1∨k=2∨k=3∨k=4:=by omega
 rcases h4 with rfl|rfl|rfl|rfl|rfl<;>simp at this<;>omega
theorem nums_snoc (m:Nat) (x:ByteArray):∀(l:List ByteArray) (ns:List Int),numsF m l=some ns->numsF m (l++[x])=(numF m x).map fun n=>ns++[n]
 |[],ns,h=>by
  obtain rfl:[]=ns:=Option.some.inj h
  cases hx:numF m x<;>simp[numsF,hx]
 |y::l,ns,h=>by
  simp only[numsF,List.cons_append] at h⊢;obtain⟨n,hn,h⟩:=Option.bind_eq_some_iff.1 h;obtain⟨ms,hm,rfl⟩:=Option.map_eq_some_iff.1 h;rw[hn,nums_snoc m x l ms hm]
  cases hx:numF m x<;>simp
theorem nums_bad {m:Nat} {x:ByteArray} (hx:numF m x=none):∀ {l:List ByteArray},x∈l->numsF m l=none
 |y::l,h=>by
  simp only[numsF]
  rcases List.mem_cons.1 h with rfl|h
  ·rw[hx];rfl
  ·rw[nums_bad hx h];cases numF m y<;>rfl
theorem nums_len {m:Nat} {l:List ByteArray} {ns:List Int} (h:numsF m l=some ns):ns.length=l.length:=(nums_range h).1
theorem num_bad_digit {m:Nat} {x:ByteArray} {pos:Nat} (h:pos<x.size) (hd:isDigB (bt x pos)=false):numF m x=none:=by
 have:digsF x x.size=false:=by
  rw[Bool.eq_false_iff];intro hf;simp only[digsF,List.all_eq_true,List.mem_range] at hf;rw[hf pos h] at hd
  cases hd
 simp[numF,numOk,this]
theorem num_bad_size {m:Nat} {x:ByteArray} (h:m<x.size):numF m x=none:=by
 have:decide (x.size≤m)=false:=decide_eq_false (by omega);simp only[numF,numOk,this];simp
theorem num_bad_empty {m:Nat} {x:ByteArray} (h:x.size=0):numF m x=none:=by
 simp[numF,numOk,h]
theorem num_bad_itoa {m:Nat} {x:ByteArray} (h:¬itoaS (valF x x.size)=x):numF m x=none:=by
 simp[numF,numOk,h]
theorem num_good {m:Nat} {x:ByteArray} {pos:Nat} (h1:digsF x pos=true) (hp:pos=x.size) (h2:x.size≤m) (h3:¬x.size=0) (h4:itoaS (valF x pos)=x):numF m x=some (valF x pos):=by
 subst hp;simp[numF,numOk,h1,h2,h3,h4]
def ToldPost (line word:ByteArray) (many:Nat) (w:World) (e:Ending) (w':World):Prop:=
 Below w.heap.size w w'∧((toldD line word many=none∧gaveUp e)∨∃ns v,toldD line word many=some ns∧e=.returned v∧Kd.R (Kd.int .i64) 3 w' w.heap.size (fun _=>True) v ns)
theorem parts_pos (s:ByteArray) (c:UInt8):0<(partsF s c).length:=by
 unfold partsF
 cases Lib.countB s ⟨#[c]⟩ with
 |zero=>simp[Lib.splitB]
 |succ k=>unfold Lib.splitB;split<;>simp
theorem below_iter {w w1:World} (h:Below w.heap.size w w1) (x:ByteArray) (p:Nat):Below w.heap.size w (w1.iter x p):=h.alloc h.size _
theorem str_ne {a b:ByteArray} (h:¬a=b):(a.toList==b.toList)=false:=by
 rw[beq_eq_false_iff_ne];intro e;rw[Lib.toList_data,Lib.toList_data] at e;apply h
 cases a;cases b
 simp at e;rw[e]
theorem parts_len (s:ByteArray) (c:UInt8) (hs:s.size≤100000):(partsF s c).length≤100001:=by
 have:=Lib.splitB_all ⟨#[c]⟩ (Nat.le_refl 1) 0 _ s rfl;have hle:=Lib.countB_le ⟨#[c]⟩ (Nat.le_refl 1) s.size s (Nat.le_refl _);unfold partsF
 omega
set_option maxRecDepth 100000 in
set_option maxHeartbeats 4000000 in
theorem told_any (line word:ByteArray) (kind:Int) (m:Nat) (w:World) (hix:∀W:World,(Instr.index 147 (.agg #[.string wDrought,.string wNode,.string wOutlet]) (.int .i64 kind)).run Tryz.prog W=.ok (.string word) W) (hm:m≤100) (hs:line.size≤100000) (hT:TabW w):
  Calls Tryz.prog 117 #[.string line,.int .i64 kind,.int .i64 (m:Int)] w (ToldPost line word m w):=by
 have hmix:Tryz.prog.follows .mixedOrders=true:=by kernel_rfl
 obtain⟨ps,hps⟩:∃ps,partsF line 32=ps:=⟨_,rfl⟩;have hp0:0<ps.length:=hps▸parts_pos line 32;have CS:=aM (split_one line 32 w (by omega));rw[hps] at CS;obtain⟨i9,hi9,hz0,hz1,hz2⟩:=info_parts infoStr;have HP:=aM hps;have HQ:=aM hT;have HP0:=aM hp0;have HIX:=aM hix;have hwm:wrap64 ((m:Int)+1)=(m:Int)+1:=IntWalk.wrap64_in _ (by omega);have HWM:=aM hwm;clear hps hT hp0 hix hwm
 go_enter Tryz.func117,Tryz.ntmps117
 go_upto_region 2 with(go_at_call 115;refine CS.out.mono ?_;rintro e w1 ⟨A,cc,rfl,HC,hb1⟩)
 obtain⟨ad,ea,x0⟩:=Kd.at_string HC.out.1 0 (by omega) (by have:=HP0.out;omega)
 cases ea
 have hlen:(0:Int)<(ps.length:Int):=by have:=HP0.out;omega
 have hlen':(0<ps.length)=True:=eq_true HP0.out;obtain⟨p0,hp0⟩:∃p0,rdOf ByteArray.empty ps 0=p0:=⟨_,rfl⟩;rw[hp0] at x0;replace x0:w1.cell? ad=some (.string p0):=x0;have HB1:=aM hb1;have HPP:=aM hp0;clear hb1 hp0;have hwm:=HWM.out
 by_cases hlm:ps.length=m+1
 case neg=>
  have c5:((ps.length:Int)==(m:Int)+1)=false:=by rw[beq_eq_false_iff_ne];omega
  have HTN:Aside0 (toldD line word m=none):=⟨by unfold toldD;rw[HP.out,if_neg (fun h=>hlm h.1)]⟩;clear hlm;refine start_ (n:=16) (S:=fun _=>True) (ds:=[15]) (bl 16 0) hmix rfl rfl trivial (fun hHeld=>?_);refine pure_ (i:=0) (N:=(some 16)) (v:=?_) (a':=?_) (bl 16 1) rfl rfl (by kernel_rfl) (fun _ _ _ h=>h) (Or.inl ⟨by rfl,?_⟩) ?_ ?_;rotate_left
  ·intro w'
   go_simp
   with_reducible rfl
  rotate_left
  ·simp only[Act.put,List.setIfInBounds_toArray,List.set_cons_zero,List.set_cons_succ,i64_w,i32_w]
   rfl
  refine pure_ (i:=1) (N:=(some 17)) (v:=?_) (a':=?_) (bl 16 3) rfl rfl (by kernel_rfl) (fun _ _ _ h=>h) (Or.inl ⟨by rfl,?_⟩) ?_ ?_;rotate_left
  ·intro w'
   go_simp
   with_reducible rfl
  rotate_left
  ·simp only[Act.put,List.setIfInBounds_toArray,List.set_cons_zero,List.set_cons_succ,i64_w,i32_w]
   rfl
  refine pure_ (i:=2) (N:=(some 18)) (v:=?_) (a':=?_) (bl 16 7) rfl rfl (by kernel_rfl) (fun _ _ _ h=>h) (Or.inl ⟨by rfl,?_⟩) ?_ ?_;rotate_left
  ·intro w'
   go_simp
   with_reducible rfl
  rotate_left
  ·simp only[Act.put,List.setIfInBounds_toArray,List.set_cons_zero,List.set_cons_succ,i64_w,i32_w]
   rfl
  refine pure_ (i:=3) (N:=(some 19)) (v:=?_) (a':=?_) (bl 16 15) rfl rfl (by kernel_rfl) (fun _ _ _ h=>h) (Or.inl ⟨by rfl,?_⟩) ?_ ?_;rotate_left
  ·intro w'
   go_simp
   with_reducible rfl
  rotate_left
  ·simp only[Act.put,List.setIfInBounds_toArray,List.set_cons_zero,List.set_cons_succ,i64_w,i32_w]
   rfl
  refine pure_ (i:=4) (N:=(some 20)) (v:=?_) (a':=?_) (bl 16 31) rfl rfl (by kernel_rfl) (fun _ _ _ h=>h) (Or.inl ⟨by rfl,?_⟩) ?_ ?_;rotate_left
  ·intro w'
   go_simp
   with_reducible rfl
  rotate_left
  ·simp only[Act.put,List.setIfInBounds_toArray,List.set_cons_zero,List.set_cons_succ,i64_w,i32_w]
   rfl
  refine pure_ (i:=5) (N:=(some 21)) (v:=?_) (a':=?_) (bl 16 63) rfl rfl (by kernel_rfl) (fun _ _ _ h=>h) (Or.inl ⟨by rfl,?_⟩) ?_ ?_;rotate_left
  ·intro w'
   go_simp
   with_reducible rfl
  rotate_left
  ·simp only[Act.put,List.setIfInBounds_toArray,List.set_cons_zero,List.set_cons_succ,i64_w,i32_w]
   rfl
  refine pure_ (i:=6) (N:=(some 22)) (v:=undef) (a':=?_) (bl 16 127) rfl rfl (by kernel_rfl) (fun _ _ _ h=>h) (Or.inr ⟨by rfl,rfl⟩) ?_ ?_;rotate_left
  ·simp only[Act.put,List.setIfInBounds_toArray,List.set_cons_zero,List.set_cons_succ,i64_w,i32_w]
   rfl
  refine pure_ (i:=7) (N:=(some 23)) (v:=undef) (a':=?_) (bl 16 255) rfl rfl (by kernel_rfl) (fun _ _ _ h=>h) (Or.inr ⟨by rfl,rfl⟩) ?_ ?_;rotate_left
  ·simp only[Act.put,List.setIfInBounds_toArray,List.set_cons_zero,List.set_cons_succ,i64_w,i32_w]
   rfl
  refine pure_ (i:=8) (N:=(some 24)) (v:=undef) (a':=?_) (bl 16 511) rfl rfl (by kernel_rfl) (fun _ _ _ h=>h) (Or.inr ⟨by rfl,rfl⟩) ?_ ?_;rotate_left
  ·simp only[Act.put,List.setIfInBounds_toArray,List.set_cons_zero,List.set_cons_succ,i64_w,i32_w]
   rfl
  refine pure_ (i:=9) (N:=(some 25)) (v:=undef) (a':=?_) (bl 16 1023) rfl rfl (by kernel_rfl) (fun _ _ _ h=>h) (Or.inr ⟨by rfl,rfl⟩) ?_ ?_;rotate_left
  ·simp only[Act.put,List.setIfInBounds_toArray,List.set_cons_zero,List.set_cons_succ,i64_w,i32_w]
   rfl
  refine pure_ (i:=10) (N:=(some 26)) (v:=undef) (a':=?_) (bl 16 2047) rfl rfl (by kernel_rfl) (fun _ _ _ h=>h) (Or.inr ⟨by rfl,rfl⟩) ?_ ?_;rotate_left
  ·simp only[Act.put,List.setIfInBounds_toArray,List.set_cons_zero,List.set_cons_succ,i64_w,i32_w]
   rfl
  refine pure_ (i:=11) (N:=(some 27)) (v:=undef) (a':=?_) (bl 16 4095) rfl rfl (by kernel_rfl) (fun _ _ _ h=>h) (Or.inr ⟨by rfl,rfl⟩) ?_ ?_;rotate_left
  ·simp only[Act.put,List.setIfInBounds_toArray,List.set_cons_zero,List.set_cons_succ,i64_w,i32_w]
   rfl
  refine pure_ (i:=12) (N:=(some 28)) (v:=undef) (a':=?_) (bl 16 8191) rfl rfl (by kernel_rfl) (fun _ _ _ h=>h) (Or.inr ⟨by rfl,rfl⟩) ?_ ?_;rotate_left
  ·simp only[Act.put,List.setIfInBounds_toArray,List.set_cons_zero,List.set_cons_succ,i64_w,i32_w]
   rfl
  refine pure_ (i:=13) (N:=(some 29)) (v:=?_) (a':=?_) (bl 16 16383) rfl rfl (by kernel_rfl) (fun _ _ _ h=>h) (Or.inl ⟨by rfl,?_⟩) ?_ ?_;rotate_left
  ·intro w'
   go_simp
   with_reducible rfl
  rotate_left
  ·simp only[Act.put,List.setIfInBounds_toArray,List.set_cons_zero,List.set_cons_succ,i64_w,i32_w]
   rfl
  refine pure_ (i:=14) (N:=(some 30)) (v:=?_) (a':=?_) (bl 16 32767) rfl rfl (by kernel_rfl) (fun _ _ _ h=>h) (Or.inl ⟨by rfl,?_⟩) ?_ ?_;rotate_left
  ·intro w'
   go_simp
   with_reducible rfl
  rotate_left
  ·simp only[Act.put,List.setIfInBounds_toArray,List.set_cons_zero,List.set_cons_succ,i64_w,i32_w]
   rfl
  refine last_ (i:=15) (N:=some 31) (bl 16 65535) rfl rfl (by kernel_rfl) (by decide) (fun K hK=>?_);refine callP_ 116 #[.bool false,.string line] (by rfl) ?_ ?_
  ·have he:=enters_ Tryz.func116 (by kernel_rfl) rfl #[.bool false,.string line] w1.drew;unfold execOp;simp[resolve,Deferred.ofValue,invoke,Act.eval,he]
  refine(sure_no _ _).mono ?_;rintro e w' ⟨rfl,rfl⟩;exact⟨_,rfl,rfl,below_step HB1.out (below_drew1 (Below.refl _ _)),.inl ⟨HTN.out,_,rfl⟩⟩
 case pos=>
 have c5:((ps.length:Int)==(m:Int)+1)=true:=by rw[beq_iff_eq];omega
 by_cases hw0:p0=word
 case neg=>
  have hne:=str_ne hw0;have HTN:Aside0 (toldD line word m=none):=⟨by unfold toldD;rw[HP.out,if_neg (fun h=>hw0 (by rw[← HPP.out];exact h.2))]⟩;have hix:=HIX.out;clear hw0;refine start_ (n:=16) (S:=fun w'=>w'.cell? ad=some (.string p0)) (ds:=[15]) (bl 16 0) hmix rfl rfl x0 (fun hHeld=>?_);refine pure_ (i:=0) (N:=(some 16)) (v:=?_) (a':=?_) (bl 16 1) rfl rfl (by kernel_rfl) (fun _ _ _ h=>h) (Or.inl ⟨by rfl,?_⟩) ?_ ?_;rotate_left
  ·intro w'
   go_simp
   with_reducible rfl
  rotate_left
  ·simp only[Act.put,List.setIfInBounds_toArray,List.set_cons_zero,List.set_cons_succ,i64_w,i32_w]
   rfl
  refine pure_ (i:=1) (N:=(some 17)) (v:=?_) (a':=?_) (bl 16 3) rfl rfl (by kernel_rfl) (fun _ _ _ h=>h) (Or.inl ⟨by rfl,?_⟩) ?_ ?_;rotate_left
  ·intro w'
   go_simp
   with_reducible rfl
  rotate_left
  ·simp only[Act.put,List.setIfInBounds_toArray,List.set_cons_zero,List.set_cons_succ,i64_w,i32_w]
   rfl
  refine pure_ (i:=2) (N:=(some 18)) (v:=?_) (a':=?_) (bl 16 7) rfl rfl (by kernel_rfl) (fun _ _ _ h=>h) (Or.inl ⟨by rfl,?_⟩) ?_ ?_;rotate_left
  ·intro w'
   go_simp
   with_reducible rfl
  rotate_left
  ·simp only[Act.put,List.setIfInBounds_toArray,List.set_cons_zero,List.set_cons_succ,i64_w,i32_w]
   rfl
  refine pure_ (i:=3) (N:=(some 19)) (v:=?_) (a':=?_) (bl 16 15) rfl rfl (by kernel_rfl) (fun _ _ _ h=>h) (Or.inl ⟨by rfl,?_⟩) ?_ ?_;rotate_left
  ·intro w'
   go_simp
   with_reducible rfl
  rotate_left
  ·simp only[Act.put,List.setIfInBounds_toArray,List.set_cons_zero,List.set_cons_succ,i64_w,i32_w]
   rfl
  refine pure_ (i:=4) (N:=(some 20)) (v:=?_) (a':=?_) (bl 16 31) rfl rfl (by kernel_rfl) (fun _ _ _ h=>h) (Or.inl ⟨by rfl,?_⟩) ?_ ?_;rotate_left
  ·intro w'
   go_simp
   with_reducible rfl
  rotate_left
  ·simp only[Act.put,List.setIfInBounds_toArray,List.set_cons_zero,List.set_cons_succ,i64_w,i32_w]
   rfl
  refine pure_ (i:=5) (N:=(some 21)) (v:=?_) (a':=?_) (bl 16 63) rfl rfl (by kernel_rfl) (fun _ _ _ h=>h) (Or.inl ⟨by rfl,?_⟩) ?_ ?_;rotate_left
  ·intro w'
   go_simp
   with_reducible rfl
  rotate_left
  ·simp only[Act.put,List.setIfInBounds_toArray,List.set_cons_zero,List.set_cons_succ,i64_w,i32_w]
   rfl
  refine pure_ (i:=6) (N:=(some 22)) (v:=?_) (a':=?_) (bl 16 127) rfl rfl (by kernel_rfl) (fun _ _ _ h=>h) (Or.inl ⟨by rfl,?_⟩) ?_ ?_;rotate_left
  ·intro w'
   go_simp
   with_reducible rfl
  rotate_left
  ·simp only[Act.put,List.setIfInBounds_toArray,List.set_cons_zero,List.set_cons_succ,i64_w,i32_w]
   rfl
  refine pure_ (i:=7) (N:=(some 23)) (v:=?_) (a':=?_) (bl 16 255) rfl rfl (by kernel_rfl) (fun _ _ _ h=>h) (Or.inl ⟨by rfl,?_⟩) ?_ ?_;rotate_left
  ·intro w'
   go_simp
   with_reducible rfl
  rotate_left
  ·simp only[Act.put,List.setIfInBounds_toArray,List.set_cons_zero,List.set_cons_succ,i64_w,i32_w]
   rfl
  refine take_ (i:=8) (N:=(some 24)) (v:=?_) (a':=?_) (bl 16 511) rfl rfl (by kernel_rfl) (fun _ _ _ h=>h) (Or.inl ⟨by rfl,?_⟩) hHeld ?_ ?_;rotate_left
  ·intro w' s0
   go_simp
   with_reducible rfl
  rotate_left
  ·simp only[Act.put,List.setIfInBounds_toArray,List.set_cons_zero,List.set_cons_succ,i64_w,i32_w]
   rfl
  refine pure_ (i:=10) (N:=(some 26)) (v:=?_) (a':=?_) (bl 16 1535) rfl rfl (by kernel_rfl) (fun _ _ _ h=>h) (Or.inl ⟨by rfl,?_⟩) ?_ ?_;rotate_left
  ·intro w'
   go_simp
   with_reducible rfl
  rotate_left
  ·simp only[Act.put,List.setIfInBounds_toArray,List.set_cons_zero,List.set_cons_succ,i64_w,i32_w]
   rfl
  refine pure_ (i:=14) (N:=(some 30)) (v:=?_) (a':=?_) (bl 16 17919) rfl rfl (by kernel_rfl) (fun _ _ _ h=>h) (Or.inl ⟨by rfl,?_⟩) ?_ ?_;rotate_left
  ·intro w'
   go_simp
   with_reducible rfl
  rotate_left
  ·simp only[Act.put,List.setIfInBounds_toArray,List.set_cons_zero,List.set_cons_succ,i64_w,i32_w]
   rfl
  refine one_ (i:=9) (N:=some 25) (bl 16 18431) rfl rfl (by kernel_rfl) (by decide) (fun K hK=>?_);refine call_ 119 #[] (by rfl) rfl ?_ ?_
  ·have he:=enters_ Tryz.func119 (by kernel_rfl) rfl #[] w1.drew;unfold execOp;simp[resolve,Deferred.ofValue,invoke,Act.eval,he]
  refine(words_any _).mono ?_;rintro e w2 ⟨rfl,hb2⟩;have HB2:Aside0 (Below w.heap.size w w2):=⟨below_step HB1.out (below_step (below_drew1 (Below.refl _ _)) hb2)⟩;refine⟨_,rfl,?_⟩;refine hK.out _ _ ((hb2.cell (World.block_lt_of_cell? _ _ hHeld)).trans hHeld) (fun hHeld=>?_);clear hK K hb2 x0;refine nm ?_;refine pure_ (i:=11) (N:=(some 27)) (v:=?_) (a':=?_) (bl 16 20479) rfl rfl (by kernel_rfl) (fun _ _ _ h=>h) (Or.inl ⟨by rfl,?_⟩) ?_ ?_;rotate_left
  ·intro w'
   go_simp
   with_reducible rfl
  rotate_left
  ·simp only[Act.put,List.setIfInBounds_toArray,List.set_cons_zero,List.set_cons_succ,i64_w,i32_w]
   rfl
  refine pure_ (i:=12) (N:=(some 28)) (v:=?_) (a':=?_) (bl 16 24575) rfl rfl (by kernel_rfl) (fun _ _ _ h=>h) (Or.inl ⟨by rfl,?_⟩) ?_ ?_;rotate_left
  ·intro w'
   go_simp
   with_reducible rfl
  rotate_left
  ·simp only[Act.put,List.setIfInBounds_toArray,List.set_cons_zero,List.set_cons_succ,i64_w,i32_w]
   rfl
  refine pure_ (i:=13) (N:=(some 29)) (v:=?_) (a':=?_) (bl 16 32767) rfl rfl (by kernel_rfl) (fun _ _ _ h=>h) (Or.inl ⟨by rfl,?_⟩) ?_ ?_;rotate_left
  ·intro w'
   go_simp
   with_reducible rfl
  rotate_left
  ·simp only[Act.put,List.setIfInBounds_toArray,List.set_cons_zero,List.set_cons_succ,i64_w,i32_w]
   rfl
  refine last_ (i:=15) (N:=some 31) (bl 16 65535) rfl rfl (by kernel_rfl) (by decide) (fun K hK=>?_);refine callP_ 116 #[.bool false,.string line] (by rfl) ?_ ?_
  ·have he:=enters_ Tryz.func116 (by kernel_rfl) rfl #[.bool false,.string line] w2;unfold execOp;simp[resolve,Deferred.ofValue,invoke,Act.eval,he]
  refine(sure_no _ _).mono ?_;rintro e w' ⟨rfl,rfl⟩;exact⟨_,rfl,rfl,HB2.out,.inl ⟨HTN.out,_,rfl⟩⟩
 case pos=>
  subst hw0;have hne:(p0.toList==p0.toList)=true:=by simp
  have HTF:Aside0 (toldD line p0 m=numsF 3 (ps.drop 1)):=⟨by unfold toldD;rw[HP.out,if_pos ⟨hlm,HPP.out⟩]⟩;have hix:=HIX.out;have HC1:=HC;have z0:∀X:After w1,X.W.cell? ad=some (.string p0):=fun X=>X.cell' x0;refine wp_region_after (by kernel_rfl) (by kernel_rfl) ?_;(repeat (go_big_quiet_step (first|(go_at_call 119;exact Calls.after (words_any _))|(go_at_call 116;exact Calls.after_same (sure_yes _ _)))));refine wpQuiet_nil ?_;intro X;have HBX:=aM X.hb;have HCX:=aM (Kd.C_below HC1.out.1 X.hb);obtain⟨wX,hwX⟩:∃wX,X.W=wX:=⟨_,rfl⟩;rw[hwX] at HBX HCX⊢;have HB1X:Aside0 (Below w.heap.size w wX):=⟨below_step HB1.out HBX.out⟩;clear hwX X z0 x0 hix hne;have HB1:=HB1X;obtain⟨w1,rfl⟩:∃w1:World,w1=wX:=⟨_,rfl⟩;have HT:Aside0 (Kd.C Kd.string w1 (if cc=1 then some ad else(some ad).map (·.add (1*1))) (ps.drop 1).length (ps.drop 1)):=⟨Kd.C_drop HCX.out (by have:=HP0.out;omega) HC1.out.2⟩;generalize hA1:(if cc=1 then some ad else(some ad).map (·.add (1*1)))=A1 at HT
  have hcut:∀W:World,(Instr.slice 108 (.slice (some ad) ps.length cc) (some (.int .i64 1)) none none).run Tryz.prog W=.ok (.slice A1 (ps.drop 1).length (cc-1)) W:=fun W=>by
   have:=cut_from (P:=Tryz.prog) 108 9 .i64 Tryz.underlying108 hi9 1 hz1 (some ad) ps.length cc 1 (by omega) (by have:=HP0.out;omega) W;rw[this,←hA1,List.length_drop]
   rfl
  have HLT:Aside0 (ps.length≤100001):=⟨by rw[← HP.out];exact parts_len line 32 hs⟩;obtain⟨tl,htl⟩:∃tl,ps.drop 1=tl:=⟨_,rfl⟩;rw[htl] at HT HTF hcut;have HL2:Aside0 (tl.length≤100000):=⟨by rw[← htl,List.length_drop];have:=HLT.out;omega⟩;clear hA1 htl hs HLT HP HPP HC HC1 HP0 CS c5 hlm hwm HWM HIX;go_wp2;clear hcut hlen hlen'
  go_loopg [8,35] tl.length (fun kq v8 v35 w'=>∃(j:Nat) (acc:List Int),v35=.int .i64 (j:Int)∧Aside0 (j+kq=tl.length)∧Aside0 (numsF 3 (tl.take j)=some acc∧Kd.R (Kd.int .i64) 3 w' w1.heap.size (fun _=>True) v8 acc∧Below w1.heap.size w1 w'))
  case atStart=>exact⟨0,[],rfl,⟨by omega⟩,⟨rfl,Kd.R_nil _ _ _ _ _,Below.refl _ _⟩⟩
  case round=>
   obtain⟨j,acc,rfl,HJ,HA⟩:=hrel;obtain⟨Ao,co,eo⟩:=Kd.R_slice HA.out.2.1;subst eo
   cases gk with
   |zero=>
    have c3:decide ((j:Int)<(tl.length:Int))=false:=decide_eq_false (by have:=HJ.out;omega);have c4:¬(j<tl.length):=by have:=HJ.out;omega
    go_wp2;go_ret;have hn:numsF 3 tl=some acc:=by have:=HA.out.1;rwa [List.take_of_length_le (by omega)] at this
    exact⟨below_step HB1.out HA.out.2.2,.inr ⟨acc,_,HTF.out.trans hn,rfl,Kd.R_lower HA.out.2.1 HB1.out.size⟩⟩
   |succ k2=>
    have c3:decide ((j:Int)<(tl.length:Int))=true:=decide_eq_true (by have:=HJ.out;omega);have p1:(0:Int)≤(j:Int):=by omega
    have p2:(j:Int)<(tl.length:Int):=by have:=HJ.out;omega
    obtain⟨ad2,ea2,x0⟩:=Kd.at_string HT.out j p1 p2
    cases ea2
    rw[Int.toNat_natCast] at x0;replace x0:=(HA.out.2.2.cell (World.block_lt_of_cell? _ _ x0)).trans x0;obtain⟨x,hx⟩:∃x,rdOf ByteArray.empty tl (j:Int)=x:=⟨_,rfl⟩;rw[hx] at x0
    have hget:tl[j]? =some x:=by
     have hj:j<tl.length:=by omega
     rw[List.getElem?_eq_getElem hj,←hx];simp[rdOf,List.getD,List.getElem?_eq_getElem hj]
    have HX:=aM hget;clear hx hget;have q1:=eq_true p1;have q2:=eq_true p2;go_wp2;clear c3 p1 p2 q1 q2 x0;obtain⟨wo,rfl⟩:∃wo:World,wo=wr:=⟨_,rfl⟩
    go_loopg [11] x.size (fun kq v11 w'=>∃(pos:Nat) (n:Int),v11=.int .i64 n∧w'=wo.iter x pos∧Aside0 (pos+kq=x.size∧digsF x pos=true∧(0<pos->x.size≤3)∧n=valF x pos))
    case atStart=>exact⟨0,0,rfl,rfl,⟨by omega,rfl,fun h=>absurd h (by omega),rfl⟩⟩
    case round=>
     obtain⟨pos,n,rfl,rfl,HI⟩:=hrel
     cases gk with
     |zero=>
      have hps:pos=x.size:=by have:=HI.out.1;omega
      have hnx:=fun ty=>run_next_end (P:=Tryz.prog) wo x pos ty (by omega);have HXM:Aside0 (x∈tl):=⟨List.mem_of_getElem? HX.out⟩;have HBI:Aside0 (Below wo.heap.size wo (wo.iter x pos)):=⟨below_iter (Below.refl _ _) _ _⟩;have HRI:Aside0 (Kd.R (Kd.int .i64) 3 (wo.iter x pos) w1.heap.size (fun _=>True) (.slice Ao acc.length co) acc):=⟨Kd.R_alloc HA.out.2.1 _⟩;obtain⟨wi,hwi⟩:∃wi,wi=wo.iter x pos:=⟨_,rfl⟩;rw[← hwi] at HBI HRI hnx⊢;have HWI:=aM hwi;clear hwi
      by_cases h0:x.size=0
      case pos=>
       have hx0:x.toList=[]:=by rw[Lib.toList_data];exact List.eq_nil_of_length_eq_zero (by rw[← Lib.size_eq];exact h0)
       have hx1:(!x.toList.isEmpty)=false:=by rw[hx0];rfl
       go_wp2_with (first|(go_at_call 116;(with_reducible refine(sure_yes _ _).mono ?_);rintro e w' ⟨rfl,rfl⟩)|(go_at_call 116;(with_reducible refine(sure_no _ _).mono ?_);rintro e w' ⟨rfl,rfl⟩))
       exact⟨rfl,below_step (below_step HB1.out HA.out.2.2) HBI.out,.inl ⟨HTF.out.trans (nums_bad (num_bad_empty h0) HXM.out),_,rfl⟩⟩
      case neg=>
       have hx0:x.toList.isEmpty=false:=by
        rw[Lib.toList_data]
        cases h:x.data.toList with
        |nil=>exact absurd (by rw[Lib.size_eq,h];rfl) h0
        |cons _ _=>rfl
       have hx1:(!x.toList.isEmpty)=true:=by rw[hx0];rfl
       have hx2:¬(x.toList=[]):=by intro h;rw[h] at hx0;cases hx0
       have h4:x.size≤3:=HI.out.2.2.1 (by omega);have hv:=val_small HI.out.2.1 (by omega);rw[← HI.out.2.2.2] at hv;have HG:Aside0 (Good wi n):=⟨hv.1,.inr ⟨by omega,HQ.out.below (below_step (below_step HB1.out HA.out.2.2) HBI.out)⟩⟩
       by_cases hi:itoaS n=x
       case neg=>
        have hne:=str_ne hi;have hne2:=str_ne (fun h=>hi h.symm)
        go_wp2_with (first|(go_at_call 116;(with_reducible refine(sure_yes _ _).mono ?_);rintro e w' ⟨rfl,rfl⟩)|(go_at_call 116;(with_reducible refine(sure_no _ _).mono ?_);rintro e w' ⟨rfl,rfl⟩)|(go_at_call 112;refine(itoa_any _ _ HG.out).mono ?_;rintro e w4 ⟨si,rfl,Hsi,hbi⟩;obtain rfl:=Hsi.out.1))
        exact⟨rfl,below_step (below_step (below_step HB1.out HA.out.2.2) HBI.out) hbi,.inl ⟨HTF.out.trans (nums_bad (num_bad_itoa (by rw[← hps,←HI.out.2.2.2];exact hi)) HXM.out),_,rfl⟩⟩
       case pos=>
        have hee:((itoaS n).toList==x.toList)=true:=by rw[hi];simp
        have hee2:(x.toList==x.toList)=true:=by simp
        go_wp2_with (first|(go_at_call 116;(with_reducible refine(sure_yes _ _).mono ?_);rintro e w' ⟨rfl,rfl⟩)|(go_at_call 116;(with_reducible refine(sure_no _ _).mono ?_);rintro e w' ⟨rfl,rfl⟩)|(go_at_call 112;refine(itoa_any _ _ HG.out).mono ?_;rintro e w4 ⟨si,rfl,Hsi,hbi⟩;obtain rfl:=Hsi.out.1;replace HRI:=aM (Kd.R_below HRI.out hbi);have HSZ:=aM (Nat.le_trans (Nat.le_trans HA.out.2.2.size HBI.out.size) hbi.size))|((with_reducible refine gate_builtin (b:=.append) (xs:=#[.tmp 73,.tmp 75]) rfl ?_);(try (refine gate_guard (by rfl) ?_;dsimp only));at_builtin;(refine Kd.R_append (Kd.int .i64) (w0:=w4) w1.heap.size rfl (.tmp 73) (.tmp 75) 30 3 (.int .i64 0) 8 rfl Tryz.underlying30 info3 rfl (by decide) (by omega) (.slice Ao acc.length co) acc n [.int .i64 n] (fun _=>True) (fun _=>False) rfl rfl ?aP (fun _ hk=>hk.elim) ?aF ?aO ?aB ?aS ?aL ?_);(case aP=>exact rfl);(case aB=>exact Below.refl _ _);(case aF=>exact(fun _ _=>trivial));(case aO=>exact HRI.out);(case aS=>exact HSZ.out);(case aL=>have hnl:=nums_len HA.out.1;have:=HL2.out;rw[List.length_take] at hnl;omega);intro vA wA ho hbA hgA hatA))
        go_roundg k2
        case measure=>omega
        case rel=>exact⟨j+1,acc++[n],(by rw[IntWalk.wrap64_in _ (by have:=HL2.out;have:=HJ.out;omega),Int.natCast_add,Int.natCast_one]),⟨by have:=HJ.out;omega⟩,⟨by rw[List.take_add_one,HX.out];show numsF 3 (tl.take j++[x])=_;rw[nums_snoc 3 x _ _ HA.out.1,num_good HI.out.2.1 hps h4 h0 (by rw[← HI.out.2.2.2];exact hi),←HI.out.2.2.2];rfl,ho,(below_step (below_step HA.out.2.2 HBI.out) hbi).trans hbA⟩⟩
     |succ k4=>
      have hps:pos<x.size:=by have:=HI.out.1;omega
      by_cases hb:(x[pos]'hps).toNat<128
      case neg=>
       have HBD:Aside0 (isDigB (bt x pos)=false):=⟨by have:(((x[pos]'hps).toNat:Nat):Int)=bt x pos:=bt_at x (pos:Int) (by simpa using hps);rw[← this];simp[isDigB];omega⟩;have hhi:=(decode_high x pos hps (by omega)).1;have hnx:=fun ty=>run_next_any (P:=Tryz.prog) wo x pos ty hps;generalize (Utf8.decode x pos).1=r at hhi hnx;generalize pos+(Utf8.decode x pos).2=pos2 at hnx;have c1:((48:Int)≤(r:Int))=True:=eq_true (by omega);have c2:((r:Int)≤57)=False:=eq_false (by omega);clear hhi
       go_wp2_with (first|(go_at_call 116;(with_reducible refine(sure_yes _ _).mono ?_);rintro e w' ⟨rfl,rfl⟩)|(go_at_call 116;(with_reducible refine(sure_no _ _).mono ?_);rintro e w' ⟨rfl,rfl⟩))
       exact⟨rfl,below_iter (below_step HB1.out HA.out.2.2) _ _,.inl ⟨HTF.out.trans (nums_bad (num_bad_digit hps HBD.out) (List.mem_of_getElem? HX.out)),_,rfl⟩⟩
      case pos=>
       have hnx:=fun ty=>run_next_ascii (P:=Tryz.prog) wo x pos ty hps hb;have hbt:(((x[pos]'hps).toNat:Nat):Int)=bt x pos:=bt_at x (pos:Int) (by simpa using hps);rw[hbt] at hnx;obtain⟨b,hbb⟩:∃b,bt x pos=b:=⟨_,rfl⟩;rw[hbb] at hnx;have HBB:=aM hbb;have hbr:=bt_range x (pos:Int);rw[hbb] at hbr;clear hbt hbb hb
       by_cases hd:48≤b∧b≤57∧x.size≤3
       case pos=>
        obtain⟨d1,d2,d3⟩:=hd;have HV:=aM (val_small HI.out.2.1 (by omega));have n0:0≤n:=by rw[HI.out.2.2.2];exact HV.out.1
        have n1:n≤999:=by rw[HI.out.2.2.2];exact HV.out.2.2 (by omega)
        have d3':(x.size:Int)≤3:=by omega
        go_wp2_with (first|(go_at_call 116;(with_reducible refine(sure_yes _ _).mono ?_);rintro e w' ⟨rfl,rfl⟩)|(go_at_call 116;(with_reducible refine(sure_no _ _).mono ?_);rintro e w' ⟨rfl,rfl⟩))
        go_roundg k4
        case measure=>omega
        case rel=>exact⟨pos+1,_,rfl,rfl,⟨by have:=HI.out.1;omega,by rw[digs_succ,HI.out.2.1,HBB.out];simp[isDigB,d1,d2],fun _=>d3,by rw[HI.out.2.2.2,←HBB.out];rfl⟩⟩
       case neg=>
        have hdd:b<48∨(48≤b∧57<b)∨(48≤b∧b≤57∧3<x.size):=by omega
        clear hd
        rcases hdd with d1|⟨d1,d2⟩|⟨d1,d2,d3⟩
        all_goals(try have d3':¬((x.size:Int)≤3):=by omega)
        all_goals(try have d2':¬(b≤57):=by omega)
        all_goals(try have d1':¬(48≤b):=by omega)
        all_goals
         go_wp2_with (first|(go_at_call 116;(with_reducible refine(sure_yes _ _).mono ?_);rintro e w' ⟨rfl,rfl⟩)|(go_at_call 116;(with_reducible refine(sure_no _ _).mono ?_);rintro e w' ⟨rfl,rfl⟩))
         first
          |exact⟨rfl,below_iter (below_step HB1.out HA.out.2.2) _ _,.inl ⟨HTF.out.trans (nums_bad (num_bad_digit hps (by rw[HBB.out];simp[isDigB];omega)) (List.mem_of_getElem? HX.out)),_,rfl⟩⟩
          |exact⟨rfl,below_iter (below_step HB1.out HA.out.2.2) _ _,.inl ⟨HTF.out.trans (nums_bad (num_bad_size d3) (List.mem_of_getElem? HX.out)),_,rfl⟩⟩
end Go.Proofs.YtjioobfeikbffabGreatDoor.K
end
