/- The walks of the functions that the laws of this seat call, and what they compute; joined out of smaller texts, part 4. -/
import Derived.Outline
import Derived.Scope
import Derived.Test.YtjioobfeikbffabGreatDoorE3
set_option linter.unusedVariables false
set_option linter.unusedSimpArgs false
section
namespace Go.Proofs.YtjioobfeikbffabGreatDoor.K
open Go.RowKit Go.Proofs.Zw Go.Proofs.Zl Go.Proofs.Zm
open Tx
attribute [local go_sem] Oper.semAt_some
theorem splitB_size (sep:ByteArray):∀(k:Nat) (s x:ByteArray),x∈Lib.splitB sep 0 k s->x.size≤s.size
 |0,s,x,h=>by
  simp[Lib.splitB] at h;rw[h];exact Nat.le_refl _
 |k+1,s,x,h=>by
  unfold Lib.splitB at h
  split at h
  ·simp at h;rw[h];exact Nat.le_refl _
  ·rcases List.mem_cons.1 h with rfl|h
   ·rw[ByteArray.size_extract];omega
   ·have:=splitB_size sep k _ x h;rw[ByteArray.size_extract] at this
    omega
theorem parts_size {s x:ByteArray} {c:UInt8} (h:x∈partsF s c):x.size≤s.size:=splitB_size _ _ _ _ h
theorem parts_many (s:ByteArray) (c:UInt8):(partsF s c).length≤s.size+1:=by
 have:=Lib.splitB_all ⟨#[c]⟩ (Nat.le_refl 1) 0 _ s rfl;have hle:=Lib.countB_le ⟨#[c]⟩ (Nat.le_refl 1) s.size s (Nat.le_refl _);unfold partsF
 omega
theorem prefix_any (s p:ByteArray) (w:World):Calls Tryz.prog 118 #[.string s,.string p] w fun e w'=>e=.returned (.bool (Lib.hasPrefix s.data.toList p.data.toList))∧w=w':=
 (Any.strings_HasPrefix Tryz.prefL s p w).mono fun e w' h=>⟨h.1,h.2.symm⟩
theorem R_setP {α:Type} {d:Kd α} {e base:Nat} {W:World} {v:Value} {xs:List α} (h:d.R e W base (fun _=>True) v xs) {p:Addr} (hp:p.block<base) (u:Value):d.R e (W.setCell p u) base (fun _=>True) v xs:=
 Kd.R_mono (Kd.R_step (Kd.R_bound h) (fun k hk _=>Below.heap_setCell _ _ _ _ (by have:=hk.2.1;omega))) (fun _ _=>trivial)
theorem two_rowsO {w w1:World} {base:Nat} {vn vo:Value} {N:List SN} {O:List SO} (ho:Kd.R k51 51 w base (fun _=>True) vo O) (hn:Kd.R k77 77 w base (fun _=>True) vn N) (hg:w.grownBy w1 vn.ownBlock):Kd.R k51 51 w1 base (fun _=>True) vo O:=by
 cases hv:vn.ownBlock with
 |none=>rw[hv] at hg;exact Kd.R_grown ho hg (fun k _=>by simp)
 |some g=>
  rw[hv] at hg;obtain⟨i,hi⟩:=Kd.R_own hn;obtain⟨cells,hc⟩:=own_typed hi g hv;exact Kd.R_mono (Kd.R_grown (Kd.R_types ho hc (show ∀q,q∈[51]->q≠77 from fun q hq=>by rw[List.mem_singleton] at hq;rw[hq];decide)) hg (fun k hk e=>hk.2 (Option.some.inj e))) (fun _ h=>h.1)
theorem two_rowsN {w w1:World} {base:Nat} {vn vo:Value} {N:List SN} {O:List SO} (hn:Kd.R k77 77 w base (fun _=>True) vn N) (ho:Kd.R k51 51 w base (fun _=>True) vo O) (hg:w.grownBy w1 vo.ownBlock):Kd.R k77 77 w1 base (fun _=>True) vn N:=by
 cases hv:vo.ownBlock with
 |none=>rw[hv] at hg;exact Kd.R_grown hn hg (fun k _=>by simp)
 |some g=>
  rw[hv] at hg;obtain⟨i,hi⟩:=Kd.R_own ho;obtain⟨cells,hc⟩:=own_typed hi g hv;exact Kd.R_mono (Kd.R_grown (Kd.R_types hn hc (show ∀q,q∈[77]->q≠51 from fun q hq=>by rw[List.mem_singleton] at hq;rw[hq];decide)) hg (fun k hk e=>hk.2 (Option.some.inj e))) (fun _ h=>h.1)
def ParsedPost (s:ByteArray) (w:World) (e:Ending) (w':World):Prop:=
 Below w.heap.size w w'∧((parsedD s=none∧gaveUp e)∨∃I N O AN cN AO cO,parsedD s=some (I,N,O)∧e=.returned (.agg #[.int .i64 I,.slice AN (List.length N) cN,.slice AO (List.length O) cO])∧Kd.R k77 77 w' w.heap.size (fun _=>True) (.slice AN N.length cN) N∧Kd.R k51 51 w' w.heap.size (fun _=>True) (.slice AO O.length cO) O)
set_option maxRecDepth 100000 in
set_option maxHeartbeats 8000000 in
theorem parsed_any (s:ByteArray) (w:World) (hs:s.size≤400) (hT:TabW w):
  Calls Tryz.prog 80 #[.string s] w (ParsedPost s w):=by
 have hu1:=Tryz.underlying25;have hu2:=Tryz.underlying77;have hu3:=Tryz.underlying51;have hmix:Tryz.prog.follows .mixedOrders=true:=by kernel_rfl
 have hix0:∀(f0 f1 f2:Value) (W:World),(Instr.index 147 (.agg #[f0,f1,f2]) (.int .i64 0)).run Tryz.prog W=.ok f0 W:=fun f0 f1 f2 W=>by kernel_rfl
 have hix1:∀(f0 f1 f2:Value) (W:World),(Instr.index 147 (.agg #[f0,f1,f2]) (.int .i64 1)).run Tryz.prog W=.ok f1 W:=fun f0 f1 f2 W=>by kernel_rfl
 have hix2:∀(f0 f1 f2:Value) (W:World),(Instr.index 147 (.agg #[f0,f1,f2]) (.int .i64 2)).run Tryz.prog W=.ok f2 W:=fun f0 f1 f2 W=>by kernel_rfl
 obtain⟨ls,hls⟩:∃ls,partsF s 10=ls:=⟨_,rfl⟩;have CS:Aside0 (∀ W,Calls Tryz.prog 115 #[.string s,.string ⟨#[10]⟩] W fun e w'=>∃A cc,e=.returned (.slice A ls.length cc)∧Aside0 (Kd.C Kd.string w' A ls.length ls∧ls.length≤cc)∧Below W.heap.size W w'):=⟨fun W=>by have:=split_one s 10 W (by omega);rwa [hls] at this⟩;have CT0:Aside0 (∀ W x,Below w.heap.size w W->x∈ls->Calls Tryz.prog 117 #[.string x,.int .i64 0,.int .i64 1] W (ToldPost x wDrought 1 W)):=⟨fun W x hb hx=>told_any x wDrought 0 1 W (fun W=>hix0 _ _ _ W) (by omega) (by have:=parts_size (c:=10) (s:=s) (x:=x) (hls▸hx);omega) (hT.below hb)⟩;have CT1:Aside0 (∀ W x,Below w.heap.size w W->x∈ls->Calls Tryz.prog 117 #[.string x,.int .i64 1,.int .i64 2] W (ToldPost x wNode 2 W)):=⟨fun W x hb hx=>told_any x wNode 1 2 W (fun W=>hix1 _ _ _ W) (by omega) (by have:=parts_size (c:=10) (s:=s) (x:=x) (hls▸hx);omega) (hT.below hb)⟩;have CT2:Aside0 (∀ W x,Below w.heap.size w W->x∈ls->Calls Tryz.prog 117 #[.string x,.int .i64 2,.int .i64 3] W (ToldPost x wOutlet 3 W)):=⟨fun W x hb hx=>told_any x wOutlet 2 3 W (fun W=>hix2 _ _ _ W) (by omega) (by have:=parts_size (c:=10) (s:=s) (x:=x) (hls▸hx);omega) (hT.below hb)⟩;obtain⟨i9,hi9,hz0,hz1,hz2⟩:=info_parts infoStr;have HLM:Aside0 (ls.length≤401):=⟨by have:=parts_many s 10;rw[hls] at this;omega⟩;have HQ:=aM hT;have HP:=aM hls;have HS:=aM hs;clear hls hT hs hix0 hix2
 go_enter Tryz.func80,Tryz.ntmps80
 go_upto_region 1 with(fail)
 generalize hW0:World.alloc w _=w0;have HB0:Aside0 (Below w.heap.size w w0∧w.heap.size<w0.heap.size):=⟨by rw[← hW0];exact⟨(Below.refl _ _).alloc (Nat.le_refl _) _,by simp⟩⟩;have HR0:Aside0 (w0.heap[w.heap.size]? =some (.cells #[.int .i64 0,.slice none 0 0,.slice none 0 0] 25 (0,0))):=⟨by rw[← hW0];exact blk_new _ _⟩;clear hW0
 go_upto_region 2 with(go_at_call 115;refine(CS.out _).mono ?_;rintro e w1 ⟨A,cc,rfl,HC,hb1⟩)
 have HB1:=aM (below_step HB0.out.1 hb1);have HR1:=aM (blk_below HR0.out hb1);clear HR0 hb1
 by_cases h3:3≤ls.length
 case neg=>
  have c0:decide ((3:Int)≤(ls.length:Int))=false:=decide_eq_false (by omega);have HPN:Aside0 (parsedD s=none):=⟨by unfold parsedD;rw[HP.out,if_neg h3]⟩
  go_wp2_with (first|(go_at_call 116;(with_reducible refine(sure_yes _ _).mono ?_);rintro e w' ⟨rfl,rfl⟩)|(go_at_call 116;(with_reducible refine(sure_no _ _).mono ?_);rintro e w' ⟨rfl,rfl⟩))
  exact⟨rfl,HB1.out,.inl ⟨HPN.out,_,rfl⟩⟩
 case pos=>
 have c0:decide ((3:Int)≤(ls.length:Int))=true:=decide_eq_true (by omega);have c0':(0:Int)<(ls.length:Int):=by omega
 have c1:(0<ls.length)=True:=eq_true (by omega);obtain⟨ad,ea,x0⟩:=Kd.at_string HC.out.1 0 (by omega) (by omega)
 cases ea
 obtain⟨p0,hp0⟩:∃p0,rdOf ByteArray.empty ls 0=p0:=⟨_,rfl⟩;rw[hp0] at x0;replace x0:w1.cell? ad=some (.string p0):=x0
 have HM0:Aside0 (p0∈ls):=⟨by
  rw[← hp0]
  simp[rdOf,List.getD,List.getElem?_eq_getElem (show 0<ls.length by omega)]⟩
 have HPP:=aM hp0;have HL3:=aM h3;clear hp0
 go_upto_region 3 with(first|(go_at_call 116;(with_reducible refine(sure_yes _ _).mono ?_);rintro e w' ⟨rfl,rfl⟩)|(go_at_call 116;(with_reducible refine(sure_no _ _).mono ?_);rintro e w' ⟨rfl,rfl⟩))
 go_wp2_with (fail)
 refine(CT0.out w1 p0 HB1.out HM0.out).mono ?_;rintro e w2 ⟨hb2,⟨hn,why,rfl⟩|⟨ns,v,hns,rfl,hRs⟩⟩
 ·have HPN:Aside0 (parsedD s=none):=⟨by unfold parsedD;rw[HP.out,if_pos h3,HPP.out,hn];rfl⟩;go_wp2;exact⟨rfl,below_step HB1.out hb2,.inl ⟨HPN.out,_,rfl⟩⟩
 obtain⟨hnl,hnr⟩:=told_range hns
 obtain⟨h0,rfl⟩:∃h0,ns=[h0]:=by
  match ns,hnl with
  |[a],_=>exact⟨a,rfl⟩
 have HH0:Aside0 (0≤h0∧h0<1000):=⟨hnr h0 (by simp)⟩;obtain⟨A0,cs0,es,hl0,hC0⟩:=Kd.R_reads hRs;subst es;obtain⟨ad0,ea0,z0⟩:=Kd.at_int hC0 0 (by omega) (by simp)
 cases ea0
 replace z0:w2.cell? ad0=some (.int .i64 h0):=z0;have HC2:=aM (Kd.C_below HC.out.1 hb2);have HCC:=aM HC.out.2;have HR2:=aM (blk_below HR1.out hb2);have HB2:=aM (below_step HB1.out hb2);have HW1:Aside0 (w.heap.size<w1.heap.size):=⟨by have:=blk_lt HR1.out;omega⟩;have HW12:Aside0 (w1.heap.size≤w2.heap.size):=⟨hb2.size⟩;have HPF:Aside0 (parsedD s=(bodyF ((ls.take (ls.length-2)).drop 1)).bind fun p=>if textD h0 p.1 p.2=s then some (h0,p.1,p.2) else none):=⟨by unfold parsedD;rw[HP.out,if_pos h3,HPP.out,hns];rfl⟩;have HT:Aside0 (Kd.C Kd.string w2 (if cc=1 then some ad else(some ad).map (·.add (1*1))) ((ls.take (ls.length-2)).drop 1).length ((ls.take (ls.length-2)).drop 1)):=⟨Kd.C_mid HC2.out (by omega) (by omega) HCC.out⟩;have htlen:((ls.take (ls.length-2)).drop 1).length=ls.length-2-1:=by rw[List.length_drop,List.length_take];omega
 generalize hA1:(if cc=1 then some ad else(some ad).map (·.add (1*1)))=A1 at HT;obtain⟨tl,htl⟩:∃tl,(ls.take (ls.length-2)).drop 1=tl:=⟨_,rfl⟩;have hw2:wrap64 ((ls.length:Int)-2)=(ls.length:Int)-2:=IntWalk.wrap64_in _ (by have:=HLM.out;omega)
 have hcut:∀W:World,(Instr.slice 108 (.slice (some ad) ls.length cc) (some (.int .i64 1)) (some (.int .i64 ((ls.length:Int)-2))) none).run Tryz.prog W=.ok (.slice A1 tl.length (cc-1)) W:=fun W=>by
  have:=cut_mid (P:=Tryz.prog) 108 9 .i64 .i64 Tryz.underlying108 hi9 1 hz1 (some ad) ls.length cc 1 ((ls.length:Int)-2) (by omega) (by omega) (by omega) HCC.out W;rw[this,←hA1,←htl,htlen]
  congr 2
  omega
 rw[htl] at HT HPF;have HTM:Aside0 ((∀ x∈tl,x∈ls)∧tl.length≤400):=⟨by rw[← htl];exact⟨fun x hx=>List.mem_of_mem_take (List.mem_of_mem_drop hx),by rw[htlen];have:=HLM.out;omega⟩⟩;have HW2:=aM hw2;clear hw2 hA1 htl htlen h3 c0 c1 hns hRs hb2 x0 hnl hnr hC0 hl0
 go_upto_region 4 with(fail)
 generalize hWL:World.alloc w2 _=wL;have HBK:Aside0 (wL.heap[w2.heap.size]? =some (.cells #[.int .i64 h0,.slice none 0 0,.slice none 0 0] 25 (0,0))):=⟨by rw[← hWL];exact blk_new _ _⟩;have HBL:Aside0 (Below w2.heap.size w2 wL):=⟨by rw[← hWL];exact(Below.refl _ _).alloc (Nat.le_refl _) _⟩;clear hWL z0;have hw2:=HW2.out;go_wp2;clear hw2 hcut
 go_loopg [29] tl.length (fun kq v29 w'=>∃(j:Nat) (N:List SN) (O:List SO) (vn vo:Value),v29=.int .i64 (j:Int)∧Aside0 (j+kq=tl.length)∧Aside0 (bodyF (tl.take j)=some (N,O)∧Kd.R k77 77 w' (w2.heap.size+1) (fun _=>True) vn N∧Kd.R k51 51 w' (w2.heap.size+1) (fun _=>True) vo O)∧Aside0 (Below w2.heap.size w2 w'∧w'.heap[w2.heap.size]? =some (.cells #[.int .i64 h0,vn,vo] 25 (0,0))))
 case atStart=>exact⟨0,[],[],_,_,rfl,⟨by omega⟩,⟨rfl,Kd.R_nil _ _ _ _ _,Kd.R_nil _ _ _ _ _⟩,⟨HBL.out,HBK.out⟩⟩
 case round=>
  clear HBK HBL;obtain⟨j,N,O,vn,vo,rfl,HJ,HAA,HW⟩:=hrel;obtain⟨AN,cN,eN⟩:=Kd.R_slice HAA.out.2.1;subst eN;obtain⟨AO,cO,eO⟩:=Kd.R_slice HAA.out.2.2;subst eO;have HA:=aM HAA.out.1;have HRN:=aM HAA.out.2.1;have HRO:=aM HAA.out.2.2;have HLB:=aM HW.out.2;have HBw:Aside0 (Below w.heap.size w wr):=⟨below_then HB2.out HB2.out.size HW.out.1⟩;have HBG:Aside0 (N.length≤400∧O.length≤400):=⟨by have h1:=(body_good HA.out).2.2;have h2:=HTM.out.2;rw[List.length_take] at h1;have h1:N.length+O.length=min j tl.length:=h1;omega⟩;clear HAA
  cases gk with
  |zero=>
   have c3:decide ((j:Int)<(tl.length:Int))=false:=decide_eq_false (by have:=HJ.out;omega);have c4:¬(j<tl.length):=by have:=HJ.out;omega
   have HST:Aside0 (bodyF tl=some (N,O)):=⟨by have:=HA.out;rwa [List.take_of_length_le (by have:=HJ.out;omega)] at this⟩
   have HTX:Aside0 (Calls Tryz.prog 77 #[.agg #[.int .i64 h0,.slice AN N.length cN,.slice AO O.length cO]] wr fun e w'=>e=.returned (.string (textD h0 N O))∧Below wr.heap.size wr w'):=⟨by
    obtain⟨_,_,e0,hl0,hC0⟩:=Kd.R_reads HRN.out
    cases e0
    obtain⟨_,_,e1,hl1,hC1⟩:=Kd.R_reads HRO.out
    cases e1
    have hg:=body_good HST.out
    exact text_any AN AO cN cO h0 N O wr hC0 hl0 hC1 hl1 (HQ.out.below HBw.out) ⟨HH0.out,hg.1,hg.2.1⟩ HBG.out.1 HBG.out.2⟩
   have x0:wr.cell? ⟨w2.heap.size,0,none⟩=some (.int .i64 h0):=(blk_cell HLB.out 0).trans rfl;have x1:wr.cell? ⟨w2.heap.size,1,none⟩=some (.slice AN N.length cN):=(blk_cell HLB.out 1).trans rfl;have x2:wr.cell? ⟨w2.heap.size,2,none⟩=some (.slice AO O.length cO):=(blk_cell HLB.out 2).trans rfl;have HRB:=aM (blk_below HR2.out HW.out.1)
   go_wp2_with (fail)
   refine HTX.out.mono ?_;rintro e w5 ⟨rfl,hb5⟩;have HB5:=aM hb5;have HBK5:=aM (blk_below HLB.out hb5);have HRB5:=aM (blk_below HRB.out hb5);clear hb5 x0 x1 x2
   by_cases hq:textD h0 N O=s
   case neg=>
    have hne:=str_ne hq;have HPN:Aside0 (parsedD s=none):=⟨HPF.out.trans (by rw[HST.out];show(if textD h0 N O=s then _ else _)=_;rw[if_neg hq])⟩;clear hq
    go_wp2_with (first|(go_at_call 116;(with_reducible refine(sure_yes _ _).mono ?_);rintro e w' ⟨rfl,rfl⟩)|(go_at_call 116;(with_reducible refine(sure_no _ _).mono ?_);rintro e w' ⟨rfl,rfl⟩))
    exact⟨rfl,below_step HBw.out HB5.out,.inl ⟨HPN.out,_,rfl⟩⟩
   case pos=>
    have hee:((textD h0 N O).toList==s.toList)=true:=by rw[hq];simp
    have HPS:Aside0 (parsedD s=some (h0,N,O)):=⟨HPF.out.trans (by rw[HST.out];show(if textD h0 N O=s then _ else _)=_;rw[if_pos hq])⟩;clear hq;have x0:w5.cell? ⟨w2.heap.size,0,none⟩=some (.int .i64 h0):=(blk_cell HBK5.out 0).trans rfl;have x1:w5.cell? ⟨w2.heap.size,1,none⟩=some (.slice AN N.length cN):=(blk_cell HBK5.out 1).trans rfl;have x2:w5.cell? ⟨w2.heap.size,2,none⟩=some (.slice AO O.length cO):=(blk_cell HBK5.out 2).trans rfl;have y0:w5.cell? ⟨w.heap.size,0,none⟩=some (.int .i64 0):=(blk_cell HRB5.out 0).trans rfl;have y1:w5.cell? ⟨w.heap.size,1,none⟩=some (.slice none 0 0):=(blk_cell HRB5.out 1).trans rfl;have y2:w5.cell? ⟨w.heap.size,2,none⟩=some (.slice none 0 0):=(blk_cell HRB5.out 2).trans rfl;have f0:w5.frozen? ⟨w.heap.size,0,none⟩=false:=blk_frozen HRB5.out 0;have f1:w5.frozen? ⟨w.heap.size,1,none⟩=false:=blk_frozen HRB5.out 1;have f2:w5.frozen? ⟨w.heap.size,2,none⟩=false:=blk_frozen HRB5.out 2
    go_wp2_with (first|(go_at_call 116;(with_reducible refine(sure_yes _ _).mono ?_);rintro e w' ⟨rfl,rfl⟩)|(go_at_call 116;(with_reducible refine(sure_no _ _).mono ?_);rintro e w' ⟨rfl,rfl⟩))
    refine bodyPost_ret (v:=.agg #[.int .i64 h0,.slice AN N.length cN,.slice AO O.length cO]) (by simp[results,Tryz.results80,go_sem, *]) rfl ?_;have hRs:=Kd.R_below HRN.out HB5.out;have hRt:=Kd.R_below HRO.out HB5.out;have hlt:=HW1.out;have hlt2:=HW12.out;refine⟨?_,.inr ⟨h0,N,O,AN,cN,AO,cO,HPS.out,rfl,?_,?_⟩⟩
    ·exact(((below_step HBw.out HB5.out).setCell (Nat.le_refl _) _).setCell (Nat.le_refl _) _).setCell (Nat.le_refl _) _
    ·exact Kd.R_lower (R_setP (R_setP (R_setP hRs (by show w.heap.size<_;omega) _) (by show w.heap.size<_;omega) _) (by show w.heap.size<_;omega) _) (by omega)
    ·exact Kd.R_lower (R_setP (R_setP (R_setP hRt (by show w.heap.size<_;omega) _) (by show w.heap.size<_;omega) _) (by show w.heap.size<_;omega) _) (by omega)
  |succ k2=>
   have c3:decide ((j:Int)<(tl.length:Int))=true:=decide_eq_true (by have:=HJ.out;omega);have p1:(0:Int)≤(j:Int):=by omega
   have p2:(j:Int)<(tl.length:Int):=by have:=HJ.out;omega
   obtain⟨ad2,ea2,x0⟩:=Kd.at_string HT.out j p1 p2
   cases ea2
   rw[Int.toNat_natCast] at x0;replace x0:=(HW.out.1.cell (World.block_lt_of_cell? _ _ x0)).trans x0;obtain⟨x,hx⟩:∃x,rdOf ByteArray.empty tl (j:Int)=x:=⟨_,rfl⟩;rw[hx] at x0
   have hget:tl[j]? =some x:=by
    have hj:j<tl.length:=by omega
    rw[List.getElem?_eq_getElem hj,←hx];simp[rdOf,List.getD,List.getElem?_eq_getElem hj]
   have HX:=aM hget;have HXL:Aside0 (x∈ls):=⟨HTM.out.1 x (List.mem_of_getElem? hget)⟩;have hw1:wrap64 ((j:Int)+1)=((j+1:Nat):Int):=by rw[IntWalk.wrap64_in _ (by have:=HTM.out.2;omega)];omega
   have HW1:=aM hw1;clear hx hget hw1;have q1:=eq_true p1;have q2:=eq_true p2;obtain⟨nb,hnb⟩:∃nb,Lib.hasPrefix x.data.toList wNode.data.toList=nb:=⟨_,rfl⟩;have HNB:Aside0 (isNodeB x=nb):=⟨hnb⟩;have CP:Aside0 (∀ W,Calls Tryz.prog 118 #[.string x,.string wNode] W fun e w'=>e=.returned (.bool nb)∧W=w'):=⟨fun W=>by have:=prefix_any x wNode W;rwa [hnb] at this⟩;clear hnb;have HBJ:Aside0 (j<tl.length):=⟨by omega⟩
   cases nb
   case true=>
    go_upto_region 8 with(first|(go_at_call 119;refine(words_any _).mono ?_;rintro e w6 ⟨rfl,hb6⟩;have HB6:=aM hb6;clear hb6)|(go_at_call 118;refine(CP.out _).mono ?_;rintro e w7 ⟨rfl,rfl⟩))
    clear x0 c3 p1 p2 q1 q2;have HW6:Aside0 (Below w.heap.size w w6):=⟨below_step HBw.out HB6.out⟩
    go_wp2_with (fail)
    refine(CT1.out w6 x HW6.out HXL.out).mono ?_;rintro e w3 ⟨hb3,⟨hn,why,rfl⟩|⟨ns,v,hns,rfl,hRn⟩⟩
    ·have HPN:Aside0 (parsedD s=none):=⟨HPF.out.trans (by rw[body_bad (.inl ⟨HNB.out,hn⟩) (List.mem_of_getElem? HX.out)];rfl)⟩;go_wp2;exact⟨rfl,below_step HW6.out hb3,.inl ⟨HPN.out,_,rfl⟩⟩
    ·obtain⟨hnl,-⟩:=told_range hns
     obtain⟨n0,n1,rfl⟩:∃n0 n1,ns=[n0,n1]:=by
      match ns,hnl with
      |[a,b],_=>exact⟨a,b,rfl⟩
     obtain⟨An,cn,hen,hln,hCn⟩:=Kd.R_reads hRn;subst hen;have HNS:=aM hns;have hb63:=below_step HB6.out hb3;replace HRN:=aM (Kd.R_below HRN.out hb63);replace HRO:=aM (Kd.R_below HRO.out hb63);replace HLB:=aM (blk_below HLB.out hb63);have HB3:Aside0 (Below w2.heap.size w2 w3∧w2.heap.size<w3.heap.size):=⟨below_step HW.out.1 hb63,blk_lt HLB.out⟩;obtain⟨ad,ea,z0⟩:=Kd.at_int hCn 0 (by omega) (by simp)
     cases ea
     obtain⟨_,eb,z1⟩:=Kd.at_int hCn 1 (by omega) (by simp)
     cases eb
     replace z0:w3.cell? ad=some (.int .i64 n0):=z0;replace z1:w3.cell? ⟨ad.block,ad.off+1,none⟩=some (.int .i64 n1):=z1;have x1:w3.cell? ⟨w2.heap.size,1,none⟩=some (.slice AN N.length cN):=(blk_cell HLB.out 1).trans rfl;clear hns hb3 hCn hRn hln hb63 hnl
     go_upto_region 9 with(fail)
     refine start_ (n:=13) (S:=fun w'=>w'.cell? ⟨w2.heap.size,1,none⟩=some (.slice AN N.length cN)∧w'.cell? ad=some (.int .i64 n0)∧w'.cell? ⟨ad.block,ad.off+1,none⟩=some (.int .i64 n1)) (ds:=[10,12]) (bl 13 0) hmix rfl rfl ⟨x1,z0,z1⟩ (fun hHeld=>?_);refine pure_ (i:=0) (N:=(some 39)) (v:=?_) (a':=?_) (bl 13 1) rfl rfl (by kernel_rfl) (fun _ _ _ h=>h) (Or.inl ⟨by rfl,?_⟩) ?_ ?_;rotate_left
     ·intro w'
      go_simp
      with_reducible rfl
     rotate_left
     ·simp only[Act.put,List.setIfInBounds_toArray,List.set_cons_zero,List.set_cons_succ,i64_w,i32_w]
      rfl
     refine take_ (i:=1) (N:=(some 40)) (v:=?_) (a':=?_) (bl 13 3) rfl rfl (by kernel_rfl) (fun _ _ _ h=>h) (Or.inl ⟨by rfl,?_⟩) hHeld ?_ ?_;rotate_left
     ·rintro w' ⟨s0,s1,s2⟩
      go_simp
      with_reducible rfl
     rotate_left
     ·simp only[Act.put,List.setIfInBounds_toArray,List.set_cons_zero,List.set_cons_succ,i64_w,i32_w]
      rfl
     refine pure_ (i:=2) (N:=(some 41)) (v:=?_) (a':=?_) (bl 13 7) rfl rfl (by kernel_rfl) (fun _ _ _ h=>h) (Or.inl ⟨by rfl,?_⟩) ?_ ?_;rotate_left
     ·intro w'
      go_simp
      with_reducible rfl
     rotate_left
     ·simp only[Act.put,List.setIfInBounds_toArray,List.set_cons_zero,List.set_cons_succ,i64_w,i32_w]
      rfl
     refine pure_ (i:=3) (N:=(some 42)) (v:=?_) (a':=?_) (bl 13 15) rfl rfl (by kernel_rfl) (fun _ _ _ h=>h) (Or.inl ⟨by rfl,?_⟩) ?_ ?_;rotate_left
     ·intro w'
      go_simp
      with_reducible rfl
     rotate_left
     ·simp only[Act.put,List.setIfInBounds_toArray,List.set_cons_zero,List.set_cons_succ,i64_w,i32_w]
      rfl
     refine take_ (i:=4) (N:=(some 43)) (v:=?_) (a':=?_) (bl 13 31) rfl rfl (by kernel_rfl) (fun _ _ _ h=>h) (Or.inl ⟨by rfl,?_⟩) hHeld ?_ ?_;rotate_left
     ·rintro w' ⟨s0,s1,s2⟩
      go_simp
      with_reducible rfl
     rotate_left
     ·simp only[Act.put,List.setIfInBounds_toArray,List.set_cons_zero,List.set_cons_succ,i64_w,i32_w]
      rfl
     refine pure_ (i:=5) (N:=(some 44)) (v:=?_) (a':=?_) (bl 13 63) rfl rfl (by kernel_rfl) (fun _ _ _ h=>h) (Or.inl ⟨by rfl,?_⟩) ?_ ?_;rotate_left
     ·intro w'
      go_simp
      with_reducible rfl
     rotate_left
     ·simp only[Act.put,List.setIfInBounds_toArray,List.set_cons_zero,List.set_cons_succ,i64_w,i32_w]
      rfl
     refine pure_ (i:=6) (N:=(some 45)) (v:=?_) (a':=?_) (bl 13 127) rfl rfl (by kernel_rfl) (fun _ _ _ h=>h) (Or.inl ⟨by rfl,?_⟩) ?_ ?_;rotate_left
     ·intro w'
      go_simp
      with_reducible rfl
     rotate_left
     ·simp only[Act.put,List.setIfInBounds_toArray,List.set_cons_zero,List.set_cons_succ,i64_w,i32_w]
      rfl
     refine take_ (i:=7) (N:=(some 46)) (v:=?_) (a':=?_) (bl 13 255) rfl rfl (by kernel_rfl) (fun _ _ _ h=>h) (Or.inl ⟨by rfl,?_⟩) hHeld ?_ ?_;rotate_left
     ·rintro w' ⟨s0,s1,s2⟩
      go_simp
      with_reducible rfl
     rotate_left
     ·simp only[Act.put,List.setIfInBounds_toArray,List.set_cons_zero,List.set_cons_succ,i64_w,i32_w]
      rfl
     refine pure_ (i:=8) (N:=(some 47)) (v:=?_) (a':=?_) (bl 13 511) rfl rfl (by kernel_rfl) (fun _ _ _ h=>h) (Or.inl ⟨by rfl,?_⟩) ?_ ?_;rotate_left
     ·intro w'
      go_simp
      with_reducible rfl
     rotate_left
     ·simp only[Act.put,List.setIfInBounds_toArray,List.set_cons_zero,List.set_cons_succ,i64_w,i32_w]
      rfl
     have HRN:=aM (Kd.R_below HRN.out (below_drew1 (w:=w3) (Below.refl _ _)));have HRO:=aM (Kd.R_below HRO.out (below_drew1 (w:=w3) (Below.refl _ _)));have HLB:=aM (blk_below HLB.out (below_drew1 (w:=w3) (Below.refl _ _)));have HB3:Aside0 (Below w2.heap.size w2 w3.drew∧w2.heap.size<w3.drew.heap.size):=⟨HB3.out.1.trans ((below_drew1 (w:=w3) (Below.refl _ _)).mono HB3.out.1.size),HB3.out.2⟩;obtain⟨wd,hwd⟩:∃wd,w3.drew=wd:=⟨_,rfl⟩;rw[hwd] at HRN HRO HLB HB3 hHeld⊢;clear hwd;refine one_ (i:=9) (N:=some 48) (bl 13 1023) rfl rfl (by kernel_rfl) (by decide) (fun K hK=>?_);refine value_ (v:=.slice (some ⟨wd.heap.size,0,none⟩) 1 1) (w1:=wd.alloc (.cells #[.int .i64 n0,.int .i64 n1] 77)) (by rfl) rfl ?_ ?_
     ·go_simp
     refine hK.out _ _ ⟨(World.cell?_alloc_old _ _ _ (Nat.ne_of_lt (World.block_lt_of_cell? _ _ hHeld.1))).trans hHeld.1,(World.cell?_alloc_old _ _ _ (Nat.ne_of_lt (World.block_lt_of_cell? _ _ hHeld.2.1))).trans hHeld.2.1,(World.cell?_alloc_old _ _ _ (Nat.ne_of_lt (World.block_lt_of_cell? _ _ hHeld.2.2))).trans hHeld.2.2⟩ (fun hHeldA=>?_);clear hK K;refine nm ?_;refine last_ (i:=10) (N:=some 49) (bl 13 2047) rfl rfl (by kernel_rfl) (by decide) (fun K hK=>?_);refine Kd.R_append_step k77 (w0:=wd) (w2.heap.size+1) (by rfl) (.tmp 40) (.tmp 48) 22 77 (.agg #[.int .i64 0,.int .i64 0]) 16 rfl Tryz.underlying22 info77 rfl (by decide) (by omega) (.slice AN N.length cN) N (mkN [n0,n1]) [.int .i64 n0,.int .i64 n1] (fun _=>True) (fun _=>False) rfl rfl ?aP (fun _ hk=>hk.elim) (fun _ _=>trivial) HRN.out (Below.refl _ _) (by have:=HB3.out.2;omega) (by have:=HBG.out;omega) ?_
     case aP=>exact k77_mkM _ _ _ _
     intro vA wA ho hbA hgA hatA;obtain⟨AA,cA,eA⟩:=Kd.R_slice ho;subst eA;have HBKA:wA.heap[w2.heap.size]? =some (.cells #[.int .i64 h0,.slice AN N.length cN,.slice AO O.length cO] 25 (0,0)):=(hbA.block _ (by omega)).trans HLB.out;have z1:wA.cell? ⟨w2.heap.size,1,none⟩=some (.slice AN N.length cN):=(blk_cell HBKA 1).trans rfl;have zf:wA.frozen? ⟨w2.heap.size,1,none⟩=false:=blk_frozen HBKA 1;have HBKA':=aM HBKA;clear HBKA;refine hK.out _ _ ?_;clear hK K;refine nm ?_;refine pu 11 50 13 4095 ?_;refine last_ (i:=12) (N:=none) (bl 13 8191) rfl rfl (by kernel_rfl) (by decide) (fun K hK=>?_);refine skip_ (w1:=wA.setCell ⟨w2.heap.size,1,none⟩ (.slice AA (N++[mkN [n0,n1]]).length cA)) (by rfl) rfl ?_ ?_
     ·go_simp
     refine hK.out _ _ ?_;clear hK K;refine done_ (by kernel_rfl) ?_;have hw1:=HW1.out;clear z1 zf hHeld hHeldA;(try simp only[Exit.then]);go_wp2
     go_roundg k2
     case measure=>omega
     case rel=>exact⟨j+1,N++[mkN [n0,n1]],O,_,_,(by first|rfl|rw[hw1]|(rw [Int.natCast_add];rfl)),⟨by have:=HJ.out;omega⟩,⟨by rw[List.take_add_one,HX.out];show bodyF (tl.take j++[x])=_;rw[body_snoc x _ _ HA.out,HNB.out,HNS.out];rfl,R_setP ho (by simp) _,R_setP (two_rowsO HRO.out HRN.out hgA) (by simp) _⟩,⟨(HB3.out.1.trans (hbA.mono (by omega))).setCell (Nat.le_refl _) _,by have:=blk_set HBKA'.out 1 (.slice AA (N++[mkN [n0,n1]]).length cA);simpa using this⟩⟩
   case false=>
    go_upto_region 10 with(first|(go_at_call 119;refine(words_any _).mono ?_;rintro e w6 ⟨rfl,hb6⟩;have HB6:=aM hb6;clear hb6)|(go_at_call 118;refine(CP.out _).mono ?_;rintro e w7 ⟨rfl,rfl⟩))
    clear x0 c3 p1 p2 q1 q2;have HW6:Aside0 (Below w.heap.size w w6):=⟨below_step HBw.out HB6.out⟩
    go_wp2_with (fail)
    refine(CT2.out w6 x HW6.out HXL.out).mono ?_;rintro e w3 ⟨hb3,⟨hn,why,rfl⟩|⟨ns,v,hns,rfl,hRn⟩⟩
    ·have HPN:Aside0 (parsedD s=none):=⟨HPF.out.trans (by rw[body_bad (.inr ⟨HNB.out,hn⟩) (List.mem_of_getElem? HX.out)];rfl)⟩;go_wp2;exact⟨rfl,below_step HW6.out hb3,.inl ⟨HPN.out,_,rfl⟩⟩
    ·obtain⟨hnl,-⟩:=told_range hns
     obtain⟨n0,n1,n2,rfl⟩:∃n0 n1 n2,ns=[n0,n1,n2]:=by
      match ns,hnl with
      |[a,b,c],_=>exact⟨a,b,c,rfl⟩
     obtain⟨An,cn,hen,hln,hCn⟩:=Kd.R_reads hRn;subst hen;have HNS:=aM hns;have hb63:=below_step HB6.out hb3;replace HRN:=aM (Kd.R_below HRN.out hb63);replace HRO:=aM (Kd.R_below HRO.out hb63);replace HLB:=aM (blk_below HLB.out hb63);have HB3:Aside0 (Below w2.heap.size w2 w3∧w2.heap.size<w3.heap.size):=⟨below_step HW.out.1 hb63,blk_lt HLB.out⟩;obtain⟨ad,ea,z0⟩:=Kd.at_int hCn 0 (by omega) (by simp)
     cases ea
     obtain⟨_,eb,z1⟩:=Kd.at_int hCn 1 (by omega) (by simp)
     cases eb
     obtain⟨_,ec,z2⟩:=Kd.at_int hCn 2 (by omega) (by simp)
     cases ec
     replace z0:w3.cell? ad=some (.int .i64 n0):=z0;replace z1:w3.cell? ⟨ad.block,ad.off+1,none⟩=some (.int .i64 n1):=z1;replace z2:w3.cell? ⟨ad.block,ad.off+2,none⟩=some (.int .i64 n2):=z2;have x1:w3.cell? ⟨w2.heap.size,2,none⟩=some (.slice AO O.length cO):=(blk_cell HLB.out 2).trans rfl;clear hns hb3 hCn hRn hln hb63 hnl
     go_upto_region 11 with(fail)
     refine start_ (n:=16) (S:=fun w'=>w'.cell? ⟨w2.heap.size,2,none⟩=some (.slice AO O.length cO)∧w'.cell? ad=some (.int .i64 n0)∧w'.cell? ⟨ad.block,ad.off+1,none⟩=some (.int .i64 n1)∧w'.cell? ⟨ad.block,ad.off+2,none⟩=some (.int .i64 n2)) (ds:=[13,15]) (bl 16 0) hmix rfl rfl ⟨x1,z0,z1,z2⟩ (fun hHeld=>?_);refine pure_ (i:=0) (N:=(some 53)) (v:=?_) (a':=?_) (bl 16 1) rfl rfl (by kernel_rfl) (fun _ _ _ h=>h) (Or.inl ⟨by rfl,?_⟩) ?_ ?_;rotate_left
     ·intro w'
      go_simp
      with_reducible rfl
     rotate_left
     ·simp only[Act.put,List.setIfInBounds_toArray,List.set_cons_zero,List.set_cons_succ,i64_w,i32_w]
      rfl
     refine take_ (i:=1) (N:=(some 54)) (v:=?_) (a':=?_) (bl 16 3) rfl rfl (by kernel_rfl) (fun _ _ _ h=>h) (Or.inl ⟨by rfl,?_⟩) hHeld ?_ ?_;rotate_left
     ·rintro w' ⟨s0,s1,s2,s3⟩
      go_simp
      with_reducible rfl
     rotate_left
     ·simp only[Act.put,List.setIfInBounds_toArray,List.set_cons_zero,List.set_cons_succ,i64_w,i32_w]
      rfl
     refine pure_ (i:=2) (N:=(some 55)) (v:=?_) (a':=?_) (bl 16 7) rfl rfl (by kernel_rfl) (fun _ _ _ h=>h) (Or.inl ⟨by rfl,?_⟩) ?_ ?_;rotate_left
     ·intro w'
      go_simp
      with_reducible rfl
     rotate_left
     ·simp only[Act.put,List.setIfInBounds_toArray,List.set_cons_zero,List.set_cons_succ,i64_w,i32_w]
      rfl
     refine pure_ (i:=3) (N:=(some 56)) (v:=?_) (a':=?_) (bl 16 15) rfl rfl (by kernel_rfl) (fun _ _ _ h=>h) (Or.inl ⟨by rfl,?_⟩) ?_ ?_;rotate_left
     ·intro w'
      go_simp
      with_reducible rfl
     rotate_left
     ·simp only[Act.put,List.setIfInBounds_toArray,List.set_cons_zero,List.set_cons_succ,i64_w,i32_w]
      rfl
     refine take_ (i:=4) (N:=(some 57)) (v:=?_) (a':=?_) (bl 16 31) rfl rfl (by kernel_rfl) (fun _ _ _ h=>h) (Or.inl ⟨by rfl,?_⟩) hHeld ?_ ?_;rotate_left
     ·rintro w' ⟨s0,s1,s2,s3⟩
      go_simp
      with_reducible rfl
     rotate_left
     ·simp only[Act.put,List.setIfInBounds_toArray,List.set_cons_zero,List.set_cons_succ,i64_w,i32_w]
      rfl
     refine pure_ (i:=5) (N:=(some 58)) (v:=?_) (a':=?_) (bl 16 63) rfl rfl (by kernel_rfl) (fun _ _ _ h=>h) (Or.inl ⟨by rfl,?_⟩) ?_ ?_;rotate_left
     ·intro w'
      go_simp
      with_reducible rfl
     rotate_left
     ·simp only[Act.put,List.setIfInBounds_toArray,List.set_cons_zero,List.set_cons_succ,i64_w,i32_w]
      rfl
     refine pure_ (i:=6) (N:=(some 59)) (v:=?_) (a':=?_) (bl 16 127) rfl rfl (by kernel_rfl) (fun _ _ _ h=>h) (Or.inl ⟨by rfl,?_⟩) ?_ ?_;rotate_left
     ·intro w'
      go_simp
      with_reducible rfl
     rotate_left
     ·simp only[Act.put,List.setIfInBounds_toArray,List.set_cons_zero,List.set_cons_succ,i64_w,i32_w]
      rfl
     refine take_ (i:=7) (N:=(some 60)) (v:=?_) (a':=?_) (bl 16 255) rfl rfl (by kernel_rfl) (fun _ _ _ h=>h) (Or.inl ⟨by rfl,?_⟩) hHeld ?_ ?_;rotate_left
     ·rintro w' ⟨s0,s1,s2,s3⟩
      go_simp
      with_reducible rfl
     rotate_left
     ·simp only[Act.put,List.setIfInBounds_toArray,List.set_cons_zero,List.set_cons_succ,i64_w,i32_w]
      rfl
     refine pure_ (i:=8) (N:=(some 61)) (v:=?_) (a':=?_) (bl 16 511) rfl rfl (by kernel_rfl) (fun _ _ _ h=>h) (Or.inl ⟨by rfl,?_⟩) ?_ ?_;rotate_left
     ·intro w'
      go_simp
      with_reducible rfl
     rotate_left
     ·simp only[Act.put,List.setIfInBounds_toArray,List.set_cons_zero,List.set_cons_succ,i64_w,i32_w]
      rfl
     refine pure_ (i:=9) (N:=(some 62)) (v:=?_) (a':=?_) (bl 16 1023) rfl rfl (by kernel_rfl) (fun _ _ _ h=>h) (Or.inl ⟨by rfl,?_⟩) ?_ ?_;rotate_left
     ·intro w'
      go_simp
      with_reducible rfl
     rotate_left
     ·simp only[Act.put,List.setIfInBounds_toArray,List.set_cons_zero,List.set_cons_succ,i64_w,i32_w]
      rfl
     refine take_ (i:=10) (N:=(some 63)) (v:=?_) (a':=?_) (bl 16 2047) rfl rfl (by kernel_rfl) (fun _ _ _ h=>h) (Or.inl ⟨by rfl,?_⟩) hHeld ?_ ?_;rotate_left
     ·rintro w' ⟨s0,s1,s2,s3⟩
      go_simp
      with_reducible rfl
     rotate_left
     ·simp only[Act.put,List.setIfInBounds_toArray,List.set_cons_zero,List.set_cons_succ,i64_w,i32_w]
      rfl
     refine pure_ (i:=11) (N:=(some 64)) (v:=?_) (a':=?_) (bl 16 4095) rfl rfl (by kernel_rfl) (fun _ _ _ h=>h) (Or.inl ⟨by rfl,?_⟩) ?_ ?_;rotate_left
     ·intro w'
      go_simp
      with_reducible rfl
     rotate_left
     ·simp only[Act.put,List.setIfInBounds_toArray,List.set_cons_zero,List.set_cons_succ,i64_w,i32_w]
      rfl
     have HRN:=aM (Kd.R_below HRN.out (below_drew1 (w:=w3) (Below.refl _ _)));have HRO:=aM (Kd.R_below HRO.out (below_drew1 (w:=w3) (Below.refl _ _)));have HLB:=aM (blk_below HLB.out (below_drew1 (w:=w3) (Below.refl _ _)));have HB3:Aside0 (Below w2.heap.size w2 w3.drew∧w2.heap.size<w3.drew.heap.size):=⟨HB3.out.1.trans ((below_drew1 (w:=w3) (Below.refl _ _)).mono HB3.out.1.size),HB3.out.2⟩;obtain⟨wd,hwd⟩:∃wd,w3.drew=wd:=⟨_,rfl⟩;rw[hwd] at HRN HRO HLB HB3 hHeld⊢;clear hwd;refine one_ (i:=12) (N:=some 65) (bl 16 8191) rfl rfl (by kernel_rfl) (by decide) (fun K hK=>?_);refine value_ (v:=.slice (some ⟨wd.heap.size,0,none⟩) 1 1) (w1:=wd.alloc (.cells #[.int .i64 n0,.int .i64 n1,.int .i64 n2] 51)) (by rfl) rfl ?_ ?_
     ·go_simp
     refine hK.out _ _ ⟨(World.cell?_alloc_old _ _ _ (Nat.ne_of_lt (World.block_lt_of_cell? _ _ hHeld.1))).trans hHeld.1,(World.cell?_alloc_old _ _ _ (Nat.ne_of_lt (World.block_lt_of_cell? _ _ hHeld.2.1))).trans hHeld.2.1,(World.cell?_alloc_old _ _ _ (Nat.ne_of_lt (World.block_lt_of_cell? _ _ hHeld.2.2.1))).trans hHeld.2.2.1,(World.cell?_alloc_old _ _ _ (Nat.ne_of_lt (World.block_lt_of_cell? _ _ hHeld.2.2.2))).trans hHeld.2.2.2⟩ (fun hHeldA=>?_);clear hK K;refine nm ?_;refine last_ (i:=13) (N:=some 66) (bl 16 16383) rfl rfl (by kernel_rfl) (by decide) (fun K hK=>?_);refine Kd.R_append_step k51 (w0:=wd) (w2.heap.size+1) (by rfl) (.tmp 54) (.tmp 65) 23 51 (.agg #[.int .i64 0,.int .i64 0,.int .i64 0]) 24 rfl Tryz.underlying23 info51 rfl (by decide) (by omega) (.slice AO O.length cO) O (mkO [n0,n1,n2]) [.int .i64 n0,.int .i64 n1,.int .i64 n2] (fun _=>True) (fun _=>False) rfl rfl ?aP (fun _ hk=>hk.elim) (fun _ _=>trivial) HRO.out (Below.refl _ _) (by have:=HB3.out.2;omega) (by have:=HBG.out;omega) ?_
     case aP=>exact k51_mkM _ _ _ _
     intro vA wA ho hbA hgA hatA;obtain⟨AA,cA,eA⟩:=Kd.R_slice ho;subst eA;have HBKA:wA.heap[w2.heap.size]? =some (.cells #[.int .i64 h0,.slice AN N.length cN,.slice AO O.length cO] 25 (0,0)):=(hbA.block _ (by omega)).trans HLB.out;have z1:wA.cell? ⟨w2.heap.size,2,none⟩=some (.slice AO O.length cO):=(blk_cell HBKA 2).trans rfl;have zf:wA.frozen? ⟨w2.heap.size,2,none⟩=false:=blk_frozen HBKA 2;have HBKA':=aM HBKA;clear HBKA;refine hK.out _ _ ?_;clear hK K;refine nm ?_;refine pu 14 67 16 32767 ?_;refine last_ (i:=15) (N:=none) (bl 16 65535) rfl rfl (by kernel_rfl) (by decide) (fun K hK=>?_);refine skip_ (w1:=wA.setCell ⟨w2.heap.size,2,none⟩ (.slice AA (O++[mkO [n0,n1,n2]]).length cA)) (by rfl) rfl ?_ ?_
     ·go_simp
     refine hK.out _ _ ?_;clear hK K;refine done_ (by kernel_rfl) ?_;have hw1:=HW1.out;clear z1 zf hHeld hHeldA;(try simp only[Exit.then]);go_wp2
     go_roundg k2
     case measure=>omega
     case rel=>exact⟨j+1,N,O++[mkO [n0,n1,n2]],_,_,(by first|rfl|rw[hw1]|(rw [Int.natCast_add];rfl)),⟨by have:=HJ.out;omega⟩,⟨by rw[List.take_add_one,HX.out];show bodyF (tl.take j++[x])=_;rw[body_snoc x _ _ HA.out,HNB.out,HNS.out];rfl,R_setP (two_rowsN HRN.out HRO.out hgA) (by simp) _,R_setP ho (by simp) _⟩,⟨(HB3.out.1.trans (hbA.mono (by omega))).setCell (Nat.le_refl _) _,by have:=blk_set HBKA'.out 2 (.slice AA (O++[mkO [n0,n1,n2]]).length cA);simpa using this⟩⟩
end Go.Proofs.YtjioobfeikbffabGreatDoor.K
end
section
namespace Go.Proofs.YtjioobfeikbffabGreatDoor.K
open Go.RowKit Go.Proofs.Zw Go.Proofs.Zl Go.Proofs.Zm
open Tx
abbrev kNd:=k77
abbrev kOt:=k51
abbrev zTree:Array Value:=#[.int .i64 0,.slice none 0 0,.slice none 0 0]
def TreeAt (s:ByteArray) (base B:Nat) (w':World):Prop:=∃I N O AN cN AO cO,parsedD s=some (I,N,O)∧w'.heap[B]? =some (.cells #[.int .i64 I,.slice AN (List.length N) cN,.slice AO (List.length O) cO] 25 (0,0))∧Kd.R kNd 77 w' base (fun _=>True) (.slice AN N.length cN) N∧Kd.R kOt 51 w' base (fun _=>True) (.slice AO O.length cO) O
theorem grown_set3R {w w1:World} {B:Nat} (h:w.grownBy w1 (some B)) (v u x:Value):w.grownBy (((w1.setCell ⟨B,0,none⟩ v).setCell ⟨B,1,none⟩ u).setCell ⟨B,2,none⟩ x) (some B):=
 ⟨h.os,h.tape,h.output,by simpa using h.size,fun k hk hne=>((Below.heap_setCell _ _ _ k (fun e=>hne (by rw[e]))).trans ((Below.heap_setCell _ _ _ k (fun e=>hne (by rw[e]))).trans (Below.heap_setCell _ _ _ k (fun e=>hne (by rw[e]))))).trans (h.block k hk hne)⟩
set_option maxRecDepth 100000 in
theorem Read1_any (s:ByteArray) (SB B:Nat) (W:World) (hs:s.size≤400) (hT:TabW W) (hc:W.cell? ⟨SB,0,none⟩=some (.string s)) (hB:W.heap[B]? =some (.cells zTree 25 (0,0))):
  Calls Tryz.prog 79 #[.pointer (some ⟨SB,0,none⟩),.pointer (some ⟨B,0,none⟩)] W fun e w'=>W.grownBy w' (some B)∧
   ((e=.returned (.tuple #[])∧TreeAt s W.heap.size B w')∨(parsedD s=none∧gaveUp e)):=by
 have hu1:=Tryz.underlying25;have CP:=aM (parsed_any s W hs hT);have HB:=aM hB;clear hB hT
 go_enter Tryz.func79,Tryz.ntmps79
 go_wp2_with fail
 refine CP.out.mono ?_;rintro e w1 ⟨hb,⟨hn,why,rfl⟩|⟨I,N,O,AN,cN,AO,cO,hp,rfl,hR0,hR1⟩⟩
 ·go_wp2;exact⟨rfl,grown_of_below' hb,.inr ⟨hn,_,rfl⟩⟩
 ·have HB1:=aM (blk_below HB.out hb);have y0:w1.cell? ⟨B,0,none⟩=some (.int .i64 0):=(blk_cell HB1.out 0).trans rfl;have y1:w1.cell? ⟨B,1,none⟩=some (.slice none 0 0):=(blk_cell HB1.out 1).trans rfl;have y2:w1.cell? ⟨B,2,none⟩=some (.slice none 0 0):=(blk_cell HB1.out 2).trans rfl;have f0:w1.frozen? ⟨B,0,none⟩=false:=blk_frozen HB1.out 0;have f1:w1.frozen? ⟨B,1,none⟩=false:=blk_frozen HB1.out 1;have f2:w1.frozen? ⟨B,2,none⟩=false:=blk_frozen HB1.out 2;have HP:=aM hp;have H0:=aM hR0;have H1:=aM hR1;have HBB:=aM hb;clear hp hR0 hR1 hb;go_wp2;refine bodyPost_end (v:=.tuple #[]) (by simp[results,Tryz.results79,go_sem]) rfl ⟨grown_set3R (grown_of_below' HBB.out) _ _ _,.inl ⟨rfl,I,N,O,AN,cN,AO,cO,HP.out,?_,?_,?_⟩⟩
  ·have:=blk_set (blk_set (blk_set HB1.out 0 (.int .i64 I)) 1 (.slice AN N.length cN)) 2 (.slice AO O.length cO)
   simpa using this
  ·exact R_setP (R_setP (R_setP H0.out (blk_lt HB.out) _) (blk_lt HB.out) _) (blk_lt HB.out) _
  ·exact R_setP (R_setP (R_setP H1.out (blk_lt HB.out) _) (blk_lt HB.out) _) (blk_lt HB.out) _
def readD (s:ByteArray):Int×List SN×List SO×Int:=
 if 400<s.size then(0,[],[],3) else match parsedD s with
  |none=>(0,[],[],4)
  |some (I,N,O)=>if treeB I N O=true then(I,N,O,0) else(0,[],[],2)
theorem parsed_len {s:ByteArray} {I:Int} {N:List SN} {O:List SO} (h:parsedD s=some (I,N,O)):N.length≤s.size+1∧O.length≤s.size+1:=by
 have h1:=(parsed_good h).2.2;have h2:=parts_many s 10
 omega
def ReadPost (s:ByteArray) (w:World) (e:Ending) (w':World):Prop:=
 Below w.heap.size w w'∧∃AN cN AO cO,e=.returned (.tuple #[.agg #[.int .i64 (readD s).1,.slice AN (readD s).2.1.length cN,.slice AO (readD s).2.2.1.length cO],.int .i64 (readD s).2.2.2])∧Kd.R kNd 77 w' w.heap.size (fun _=>True) (.slice AN (readD s).2.1.length cN) (readD s).2.1∧Kd.R kOt 51 w' w.heap.size (fun _=>True) (.slice AO (readD s).2.2.1.length cO) (readD s).2.2.1
theorem ReadPost.no {s:ByteArray} {w w':World} {e:Ending} (r:Int) (hf:readD s=(0,[],[],r)) (he:e=.returned (.tuple #[.agg zTree,.int .i64 r])) (hb:Below w.heap.size w w'):ReadPost s w e w':=by
 unfold ReadPost;rw[hf];exact⟨hb,none,0,none,0,he,Kd.R_nil _ _ _ _ _,Kd.R_nil _ _ _ _ _⟩
set_option maxRecDepth 100000 in
set_option maxHeartbeats 4000000 in
theorem read_any (s:ByteArray) (w:World) (hT:TabW w) (hs63:s.size≤9223372036854775807):
  Calls Tryz.prog 40 #[.string s] w (ReadPost s w):=by
 have hu1:=Tryz.underlying25;have hmf:∀(fn:Fn) (first cap:Array Value) (w:World),(Instr.makeFunc fn first cap).run Tryz.prog w=.ok (.func fn first cap) w:=fun _ _ _ _=>rfl
 by_cases hs:400<s.size
 case pos=>
  have c0:decide ((400:Int)<(s.size:Int))=true:=decide_eq_true (by omega);clear hT;have HF:Aside0 (readD s=(0,[],[],3)):=⟨by unfold readD;rw[if_pos hs]⟩;clear hs
  go_enter Tryz.func40,Tryz.ntmps40
  go_wp2;refine bodyPost_ret (v:=.tuple #[.agg zTree,.int .i64 3]) (by simp[results,Tryz.results40,go_sem]) rfl (ReadPost.no 3 HF.out rfl ?_)
  first
   |exact(((((Below.refl _ _).alloc (Nat.le_refl _) _).alloc (by simp) _).setCell (by simp) _).setCell (by simp) _).setCell (by simp) _
   |exact(((Below.refl _ _).alloc (Nat.le_refl _) _).alloc (by simp) _)
 case neg=>
 have c0:decide ((400:Int)<(s.size:Int))=false:=decide_eq_false (by omega);have HS:Aside0 (s.size≤400):=⟨by omega⟩;have HQ:=aM hT;clear hT hs
 
 have CA:Aside0 (∀ W4:World,Below w.heap.size w W4->W4.cell? ⟨w.heap.size,0,none⟩=some (.string s)->W4.heap[w.heap.size+1+1]? =some (.cells zTree 25 (0,0))->w.heap.size+3=W4.heap.size->
   Calls Tryz.prog 78 #[.func (.func 79) #[] #[.pointer (some ⟨w.heap.size,0,none⟩),.pointer (some ⟨w.heap.size+1+1,0,none⟩)]] W4 fun e w'=>
    W4.grownBy w' (some (w.heap.size+1+1))∧
    ((e=.returned (.int .i64 0)∧TreeAt s W4.heap.size (w.heap.size+1+1) w')∨(parsedD s=none∧e=.returned (.int .i64 4)))):=⟨by
  intro W4 hB hc hL hsz;have hb5:Below W4.heap.size W4 (W4.alloc (.cells #[.int .i64 0] 31)):=(Below.refl _ _).alloc (Nat.le_refl _) _;have hdo:=Read1_any s w.heap.size (w.heap.size+1+1) (W4.alloc (.cells #[.int .i64 0] 31)) HS.out (HQ.out.below (below_step hB hb5)) ((hb5.cell (World.block_lt_of_cell? _ _ hc)).trans hc) (blk_below hL hb5)
  refine(try_any 79 (w.heap.size+1+1) _ W4 (by omega) (TreeAt s (W4.heap.size+1) (w.heap.size+1+1)) (fun _=>False) (fun _=>parsedD s=none) (enters_of Tryz.func79 (by kernel_rfl) rfl)
   (hdo.mono fun e w' ⟨hg,h⟩=>⟨hg,h.elim (fun ⟨ha,hb⟩=>.inl ⟨ha,by rw[World.size_alloc] at hb;exact hb⟩) (fun ⟨ha,why,hb⟩=>.inr (.inr ⟨why,hb,ha⟩))⟩)).mono ?_
  rintro e w' ⟨w1,k,rfl,hg1,hg2,h⟩;have hs1:W4.heap.size+1≤w1.heap.size:=by have:=hg1.size;simpa using this
  have hkeep:∀k,k≠W4.heap.size->k<w1.heap.size->w'.heap[k]? =w1.heap[k]? :=fun k hk hk2=>hg2.block k hk2 (by simpa using hk);refine⟨⟨hg2.os.trans hg1.os,hg2.tape.trans hg1.tape,hg2.output.trans hg1.output,by have:=hg2.size;omega,fun k hk hne=>(hkeep k (by omega) (by omega)).trans ((hg1.block k (by simp;omega) hne).trans (Below.heap_alloc _ _ _ hk))⟩,?_⟩
  rcases h with⟨rfl,I,N,O,AN,cN,AO,cO,h1,h2,h3,h4⟩|⟨_,h⟩|⟨rfl,h⟩
  ·refine .inl ⟨rfl,I,N,O,AN,cN,AO,cO,h1,(hkeep _ (by omega) (by omega)).trans h2,?_,?_⟩
   ·exact Kd.R_lower (Kd.R_mono (Kd.R_step (Kd.R_bound h3) (fun k hk hk2=>hkeep k (by have:=hk.2.1;omega) hk2)) (fun _ _=>trivial)) (Nat.le_succ _)
   ·exact Kd.R_lower (Kd.R_mono (Kd.R_step (Kd.R_bound h4) (fun k hk hk2=>hkeep k (by have:=hk.2.1;omega) hk2)) (fun _ _=>trivial)) (Nat.le_succ _)
  ·exact h.elim
  ·exact .inr ⟨h,rfl⟩⟩
 go_enter Tryz.func40,Tryz.ntmps40
 go_upto_region 4 with(fail)
 generalize hW0:World.alloc _ _=W0;have HB0:Aside0 (Below w.heap.size w W0∧w.heap.size+3=W0.heap.size):=⟨by rw[← hW0];exact⟨(((Below.refl _ _).alloc (Nat.le_refl _) _).alloc (by simp) _).alloc (by simp;omega) _,by simp⟩⟩;have HC0:Aside0 (W0.cell? ⟨w.heap.size,0,none⟩=some (.string s)):=⟨by rw[← hW0];simp[go_sem]⟩
 have HL0:Aside0 (W0.heap[w.heap.size+1+1]? =some (.cells zTree 25 (0,0))):=⟨by
  rw[← hW0];have:=blk_new ((w.alloc (.cells #[.string s] 9)).alloc (.cells zTree 25)) (.cells zTree 25)
  rwa [World.size_alloc,World.size_alloc] at this⟩
 have HR0:Aside0 (W0.heap[w.heap.size+1]? =some (.cells zTree 25 (0,0))):=⟨by
  rw[← hW0];have:=blk_new (w.alloc (.cells #[.string s] 9)) (.cells zTree 25);rw[World.size_alloc] at this
  exact blk_alloc this _⟩
 clear hW0
 go_wp2_with (fail)
 refine(CA.out W0 HB0.out.1 HC0.out HL0.out HB0.out.2).mono ?_;rintro e w4 ⟨hg,h⟩;have HRB:=aM (blk_grown HR0.out hg (by simp));have y0:w4.cell? ⟨w.heap.size+1,0,none⟩=some (.int .i64 0):=(blk_cell HRB.out 0).trans rfl;have y1:w4.cell? ⟨w.heap.size+1,1,none⟩=some (.slice none 0 0):=(blk_cell HRB.out 1).trans rfl;have y2:w4.cell? ⟨w.heap.size+1,2,none⟩=some (.slice none 0 0):=(blk_cell HRB.out 2).trans rfl;have f0:w4.frozen? ⟨w.heap.size+1,0,none⟩=false:=blk_frozen HRB.out 0;have f1:w4.frozen? ⟨w.heap.size+1,1,none⟩=false:=blk_frozen HRB.out 1;have f2:w4.frozen? ⟨w.heap.size+1,2,none⟩=false:=blk_frozen HRB.out 2;have HB4:Aside0 (Below w.heap.size w w4∧w.heap.size+3≤w4.heap.size):=⟨HB0.out.1.grown hg (by have:=HB0.out.2;omega) (by intro k hk;cases hk;omega),by have:=HB0.out.2;have:=hg.size;omega⟩;clear hg
 rcases h with⟨rfl,I,N,O,AN,cN,AO,cO,hp,hL,hR0,hR1⟩|⟨hp,rfl⟩
 case inr=>
  have HF:Aside0 (readD s=(0,[],[],4)):=⟨by unfold readD;rw[if_neg (by have:=HS.out;omega),hp]⟩;clear hp;go_wp2;refine bodyPost_ret (v:=.tuple #[.agg zTree,.int .i64 4]) (by simp[results,Tryz.results40,go_sem, *]) rfl (ReadPost.no 4 HF.out rfl ?_);exact((HB4.out.1.setCell (by simp) _).setCell (by simp) _).setCell (by simp) _
 case inl=>
  have HLB:=aM hL;have HP:=aM hp;have HR0':=aM hR0;have HR1':=aM hR1;have x0:w4.cell? ⟨w.heap.size+1+1,0,none⟩=some (.int .i64 I):=(blk_cell HLB.out 0).trans rfl;have x1:w4.cell? ⟨w.heap.size+1+1,1,none⟩=some (.slice AN N.length cN):=(blk_cell HLB.out 1).trans rfl;have x2:w4.cell? ⟨w.heap.size+1+1,2,none⟩=some (.slice AO O.length cO):=(blk_cell HLB.out 2).trans rfl
  have CL:Aside0 (Calls Tryz.prog 59 #[.agg #[.int .i64 I,.slice AN N.length cN,.slice AO O.length cO]] w4 fun e w'=>e=.returned (.bool (treeB I N O))∧Below w4.heap.size w4 w'):=⟨by
   obtain⟨_,_,e0,hl0,hC0⟩:=Kd.R_reads hR0
   cases e0
   obtain⟨_,_,e1,hl1,hC1⟩:=Kd.R_reads hR1
   cases e1
   have m0:=parsed_len hp;have m2:=HS.out
   exact d7_isTree.calls I AN cN N AO cO O _ w4 hC0 hl0 hC1 hl1 (by unfold d7_isTree.f;rw[if_pos ⟨by omega,by omega⟩])⟩
  clear hp hL hR0 hR1
  go_wp2_with (fail)
  refine CL.out.mono ?_;rintro e w5 ⟨rfl,hb5⟩;have HB5:=aM hb5;have HRB5:=aM (blk_below HRB.out hb5);have HLB5:=aM (blk_below HLB.out hb5);clear y0 y1 y2 f0 f1 f2 x0 x1 x2 hb5;have y0:w5.cell? ⟨w.heap.size+1,0,none⟩=some (.int .i64 0):=(blk_cell HRB5.out 0).trans rfl;have y1:w5.cell? ⟨w.heap.size+1,1,none⟩=some (.slice none 0 0):=(blk_cell HRB5.out 1).trans rfl;have y2:w5.cell? ⟨w.heap.size+1,2,none⟩=some (.slice none 0 0):=(blk_cell HRB5.out 2).trans rfl;have f0:w5.frozen? ⟨w.heap.size+1,0,none⟩=false:=blk_frozen HRB5.out 0;have f1:w5.frozen? ⟨w.heap.size+1,1,none⟩=false:=blk_frozen HRB5.out 1;have f2:w5.frozen? ⟨w.heap.size+1,2,none⟩=false:=blk_frozen HRB5.out 2;have x0:w5.cell? ⟨w.heap.size+1+1,0,none⟩=some (.int .i64 I):=(blk_cell HLB5.out 0).trans rfl;have x1:w5.cell? ⟨w.heap.size+1+1,1,none⟩=some (.slice AN N.length cN):=(blk_cell HLB5.out 1).trans rfl;have x2:w5.cell? ⟨w.heap.size+1+1,2,none⟩=some (.slice AO O.length cO):=(blk_cell HLB5.out 2).trans rfl
  cases hl:treeB I N O with
  |false=>
   have HF:Aside0 (readD s=(0,[],[],2)):=⟨by unfold readD;rw[if_neg (by have:=HS.out;omega),HP.out];show(if treeB I N O=true then _ else _)=_;rw[hl];rfl⟩;clear hl;go_wp2;refine bodyPost_ret (v:=.tuple #[.agg zTree,.int .i64 2]) (by simp[results,Tryz.results40,go_sem, *]) rfl (ReadPost.no 2 HF.out rfl ?_);exact(((below_step HB4.out.1 HB5.out).setCell (by simp) _).setCell (by simp) _).setCell (by simp) _
  |true=>
   have HF:Aside0 (readD s=(I,N,O,0)):=⟨by unfold readD;rw[if_neg (by have:=HS.out;omega),HP.out];show(if treeB I N O=true then _ else _)=_;rw[hl];rfl⟩;clear hl;go_wp2;refine bodyPost_ret (v:=.tuple #[.agg #[.int .i64 I,.slice AN N.length cN,.slice AO O.length cO],.int .i64 0]) (by simp[results,Tryz.results40,go_sem, *]) rfl ?_;have h0:=Kd.R_below HR0'.out HB5.out;have h1:=Kd.R_below HR1'.out HB5.out;have hsz:=HB0.out.2;unfold ReadPost;rw[HF.out];refine⟨(((below_step HB4.out.1 HB5.out).setCell (by simp) _).setCell (by simp) _).setCell (by simp) _,AN,cN,AO,cO,rfl,?_,?_⟩
   ·exact Kd.R_lower (R_setP (R_setP (R_setP h0 (by simp;omega) _) (by simp;omega) _) (by simp;omega) _) (by omega)
   ·exact Kd.R_lower (R_setP (R_setP (R_setP h1 (by simp;omega) _) (by simp;omega) _) (by simp;omega) _) (by omega)
end Go.Proofs.YtjioobfeikbffabGreatDoor.K
end
section
namespace Go.Proofs.YtjioobfeikbffabGreatDoor.K
open Go.RowKit Go.Proofs.Zw Go.Proofs.Zl Go.Proofs.Zm
attribute [local go_sem] max2_int min2_int max_two min_two max_three min_three max_four min_four
def slices_Index_int_int.l0:Nat->List Int->Int->Int->Int->Option (Int)
 |0,_,_,_,_=>none
 |k+1,x0,x1,x7,x8=>if x8<x7 then(if 0≤x8 then(if x8<(x0.length:Int) then(if x1=(rd x0 x8) then(some x8) else(slices_Index_int_int.l0 k x0 x1 x7 (wrap64 (x8+1)))) else(none)) else(none)) else(some (-1))
def slices_Index_int_int.f (k:Nat) (l0:List Int) (a1:Int):Option (Int):=slices_Index_int_int.l0 k l0 a1 (l0.length:Int) 0
set_option maxHeartbeats 8000000 in
set_option maxRecDepth 100000 in
theorem slices_Index_int_int.calls (k:Nat) (A0:Option Addr) (c0:Nat) (l0:List Int) (a1:Int) (r:Int) (w:World) (hr0:Kd.C (Kd.int .i64) w A0 l0.length l0) (hc0:l0.length≤c0) (h:slices_Index_int_int.f k l0 a1=some r):
  Calls Tryz.prog 122 #[.slice A0 l0.length c0,.int .i64 a1] w fun e w'=>e=.returned (.int .i64 r)∧Drawn0 w w':=by
 have HR0:=aM hr0;have HC0:=aM hc0;clear hr0 hc0;have H:(slices_Index_int_int.l0 k l0 a1 (l0.length:Int) 0)=some r:=h;clear h;have H':=aM H;clear H
 go_enter Tryz.func122,Tryz.ntmps122
 go_wp2
 go_loopg [8] k (fun kq v8 w'=>∃(x8_1:Int),v8=.int .i64 x8_1∧Aside0 (slices_Index_int_int.l0 kq l0 a1 (l0.length:Int) x8_1=some r)∧Aside0 (kq≤k)∧Drawn0 w w')
 case atStart=>exact⟨(0),u0,H',⟨Nat.le_refl _⟩,by repeat(first|exact Drawn0.refl _|apply Drawn0.step)⟩
 case round=>
  clear H';try clear c1;try clear p2
  obtain⟨x8_1,rfl,HA,HK1,⟨m1,rfl⟩⟩:=hrel
  cases gk with
  |zero=>exact absurd HA.out (by simp[slices_Index_int_int.l0])
  |succ k1=>
   have H:=HA.out;clear HA;simp only[slices_Index_int_int.l0] at H
   by_cases c3:x8_1<(l0.length:Int)
   ·rw[if_pos c3] at H;replace c3:=decide_eq_true c3;obtain⟨c4,H⟩:=ifs H;replace c4:=decide_eq_true c4;obtain⟨c5,H⟩:=ifs H;replace c5:=decide_eq_true c5
    by_cases c6:a1=(rd l0 x8_1)
    ·rw[if_pos c6] at H;have c6b0:(a1==(rd l0 x8_1))=true:=beq_iff_eq.mpr c6;have c6b1:(a1 !=(rd l0 x8_1))=false:=bne_eq_false_iff_eq.mpr c6;clear c6;obtain rfl:=Option.some.inj H;have p204:0≤(x8_1:Int):=uD;have q204:x8_1<(l0.length:Int):=uD;obtain⟨ad204,e204,hx204_0⟩:=Kd.at_int HR0.out x8_1 p204 q204
     cases e204
     replace p204:=eq_true p204;replace q204:=eq_true q204;go_wp2;go_ret;exact⟨u0,by repeat(first|exact Drawn0.refl _|apply Drawn0.step)⟩
    ·rw[if_neg c6] at H;have c6b0:(a1==(rd l0 x8_1))=false:=beq_eq_false_iff_ne.mpr c6;have c6b1:(a1 !=(rd l0 x8_1))=true:=bne_iff_ne.mpr c6;have H':=aM H;clear H;have p204:0≤(x8_1:Int):=uD;have q204:x8_1<(l0.length:Int):=uD;obtain⟨ad204,e204,hx204_0⟩:=Kd.at_int HR0.out x8_1 p204 q204
     cases e204
     replace p204:=eq_true p204;replace q204:=eq_true q204;go_wp2
     go_roundg k1
     case measure=>have:=HK1.out;omega
     case rel=>exact⟨(wrap64 (x8_1+1)),u0,H',⟨by have:=HK1.out;omega⟩,by repeat(first|exact Drawn0.refl _|apply Drawn0.step)⟩
   ·rw[if_neg c3] at H;replace c3:=decide_eq_false c3;obtain rfl:=Option.some.inj H;go_wp2;go_ret;exact⟨u0,by repeat(first|exact Drawn0.refl _|apply Drawn0.step)⟩
def slices_Contains_int_int.f (k:Nat) (l0:List Int) (a1:Int):Option (Bool):=(slices_Index_int_int.f k l0 a1).bind fun t205=>(some (decide (t205≥0)))
set_option maxHeartbeats 8000000 in
set_option maxRecDepth 100000 in
theorem slices_Contains_int_int.calls (k:Nat) (A0:Option Addr) (c0:Nat) (l0:List Int) (a1:Int) (r:Bool) (w:World) (hr0:Kd.C (Kd.int .i64) w A0 l0.length l0) (hc0:l0.length≤c0) (h:slices_Contains_int_int.f k l0 a1=some r):
  Calls Tryz.prog 86 #[.slice A0 l0.length c0,.int .i64 a1] w fun e w'=>e=.returned (.bool r)∧Drawn0 w w':=by
 have HR0:=aM hr0;have HC0:=aM hc0;clear hr0 hc0;have H:((slices_Index_int_int.f k l0 a1).bind fun t205=>(some (decide (t205≥0))))=some r:=h;clear h;replace H:=Option.bind_eq_some_iff.mp H;obtain⟨t205,A30,H⟩:=H;replace H:(some (decide (t205≥0)))=some r:=H;have A3:=aM A30;clear A30;obtain rfl:=Option.some.inj H
 go_enter Tryz.func86,Tryz.ntmps86
 go_wp2_with (first|((with_reducible refine gate_callee (f:=122) rfl ?_);refine goesL_ (some 7) rfl rfl Tryz.func122 (by kernel_rfl) rfl #[.slice A0 l0.length c0,.int .i64 a1] rfl uM ?_;(with_reducible refine(slices_Index_int_int.calls k _ _ l0 a1 t205 _ ?side1 ?side2 A3.out).mono ?_);(case side1=>repeat(first|exact HR0.out|(with_reducible refine Kd.C_alloc ?_ _)|(with_reducible refine Kd.C_drewN ?_ _)|(with_reducible refine Kd.C_drew ?_)));(case side2=>exact HC0.out);rintro e w' ⟨rfl,⟨nd,rfl⟩⟩;refine⟨_,rfl,?_⟩))
 go_ret;exact⟨u0,by repeat(first|exact Drawn0.refl _|apply Drawn0.step)⟩
end Go.Proofs.YtjioobfeikbffabGreatDoor.K
end
section
namespace Go.Proofs.YtjioobfeikbffabGreatDoor.K
open Go.RowKit Go.Proofs.Zw Go.Proofs.Zl Go.Proofs.Zm
theorem index_from (l:List Int) (x:Int) (hl:l.length≤1000000):∀(d j K:Nat),j+d=l.length->d<K->∃i:Int,slices_Index_int_int.l0 K l x (l.length:Int) (j:Int)=some i∧(0≤i↔x∈l.drop j):=by
  intro d
  induction d with
  |zero=>
    intro j K hj hK;obtain⟨K,rfl⟩:∃k,K=k+1:=⟨K-1,by omega⟩;rw[slices_Index_int_int.l0,if_neg (by omega)];exact⟨_,rfl,by rw[List.drop_eq_nil_of_le (by omega)];simp⟩
  |succ d ih=>
    intro j K hj hK;obtain⟨K,rfl⟩:∃k,K=k+1:=⟨K-1,by omega⟩;have hjl:j<l.length:=by omega
    have e:rd l (j:Int)=l[j]:=by simp[rd,List.getD,List.getElem?_eq_getElem hjl]
    have hd:l.drop j=l[j]::l.drop (j+1):=List.drop_eq_getElem_cons hjl;rw[slices_Index_int_int.l0,if_pos (by omega),if_pos (by omega),if_pos (by omega),e]
    by_cases h:x=l[j]
    · rw[if_pos h];exact⟨_,rfl,iff_of_true (by omega) (by rw[h,hd];exact List.mem_cons_self ..)⟩
    · rw[if_neg h,show wrap64 ((j:Int)+1)=((j+1:Nat):Int) by rw[IntWalk.wrap64_in _ (by omega)];omega];obtain⟨i,h1,h2⟩:=ih (j+1) K (by omega) (by omega);exact⟨i,h1,by rw[hd,List.mem_cons,h2];exact⟨.inr,fun hh=>hh.resolve_left h⟩⟩
theorem cont_f (l:List Int) (x:Int) (hl:l.length≤1000000) (K:Nat) (hK:l.length<K):slices_Contains_int_int.f K l x=some (decide (x∈l)):=by
  obtain⟨i,h1,h2⟩:=index_from l x hl l.length 0 K (by omega) hK;unfold slices_Contains_int_int.f slices_Index_int_int.f;rw[show ((0:Nat):Int)=0 from rfl] at h1;rw[h1,Option.bind_some]
  congr 1
  exact decide_eq_decide.2 (by rw[← List.drop_zero (l:=l)];exact h2)
theorem cont_any {A:Option Addr} {c:Nat} {l:List Int} {x:Int} {w:World} (hr:Kd.C (Kd.int .i64) w A l.length l) (hc:l.length≤c) (hl:l.length≤1000000):
    Calls Tryz.prog 86 #[.slice A l.length c,.int .i64 x] w fun e w'=>e=.returned (.bool (decide (x∈l)))∧Below w.heap.size w w':=
  (slices_Contains_int_int.calls (l.length+1) A c l x _ w hr hc (cont_f l x hl _ (by omega))).mono (fun e w' h=>⟨h.1,h.2.below⟩)
end Go.Proofs.YtjioobfeikbffabGreatDoor.K
end
section
namespace Go.Proofs.YtjioobfeikbffabGreatDoor.K
open Go.RowKit Go.Shelf Go.Proofs.Zw Go.Proofs.Zl Go.Proofs.Zm
def orderTo (order:List Int) (j:Nat):Bool:=(List.range j).all fun i=>inB (rd order (i:Int)) 0 3&&!decide (rd order (i:Int)∈order.take i)
theorem orderTo_succ (order:List Int) (j:Nat):orderTo order (j+1)=(orderTo order j&&(inB (rd order (j:Int)) 0 3&&!decide (rd order (j:Int)∈order.take j))):=by
  simp[orderTo,List.range_succ]
theorem orderTo_bad {order:List Int} {j n:Nat} (hj:j<n) (h:(inB (rd order (j:Int)) 0 3&&!decide (rd order (j:Int)∈order.take j))=false):orderTo order n=false:=by
  rw[Bool.eq_false_iff];intro ha;unfold orderTo at ha;rw[List.all_eq_true] at ha;have:=ha j (List.mem_range.2 hj);rw[h] at this
  cases this
def ordOk (I:Int) (N:List SN) (O:List SO) (order:List Int):Bool:=treeB I N O&&decide (order.length=4)&&orderTo order order.length
def ordR (I:Int) (N:List SN) (O:List SO) (order:List Int):List Int×Int:=if ordOk I N O order=true then(orderedF I N O order,0) else([],2)
set_option maxRecDepth 100000 in
set_option maxHeartbeats 4000000 in
theorem ord_any {w:World} {I:Int} {A1 A2 Ar:Option Addr} {c1 c2 cr:Nat} {N:List SN} {O:List SO} {order:List Int} (r1:Kd.C k77 w A1 N.length N) (l1:N.length≤c1) (r2:Kd.C k51 w A2 O.length O) (l2:O.length≤c2) (hl1:N.length≤9223372036854775807) (hl2:O.length≤9223372036854775807) (rr:Kd.C (Kd.int .i64) w Ar order.length order) (lr:order.length≤cr):
    Calls Tryz.prog 49 #[.agg #[.int .i64 I,.slice A1 N.length c1,.slice A2 O.length c2],.slice Ar order.length cr] w fun e w'=>∃v,e=.returned (.tuple #[v,.int .i64 (ordR I N O order).2])∧Kd.R (Kd.int .i64) 3 w' w.heap.size (fun _=>True) v (ordR I N O order).1∧Below w.heap.size w w':=by
  have hu1:=Tryz.underlying25;have hfl:=fld93_1;obtain⟨i3,hi3,hz30,hz31,hz32⟩:=info_parts info3;obtain⟨tb,htb⟩:∃tb,treeB I N O=tb:=⟨_,rfl⟩
  have CT:Aside0 (∀ W,Below w.heap.size w W->Calls Tryz.prog 59 #[.agg #[.int .i64 I,.slice A1 N.length c1,.slice A2 O.length c2]] W fun e w'=>e=.returned (.bool tb)∧Below W.heap.size W w'):=⟨fun W hb=>
    d7_isTree.calls I A1 c1 N A2 c2 O tb W (Kd.C_below r1 hb) l1 (Kd.C_below r2 hb) l2 (by unfold d7_isTree.f;rw[if_pos ⟨hl1,hl2⟩,htb])⟩
  have HRR:=aM (And.intro rr lr);have HR1:=aM (And.intro r1 l1);have HR2:=aM (And.intro r2 l2);have HTB:=aM htb
  have no:∀w':World,ordOk I N O order=false->Below w.heap.size w w'->∃v,Ending.returned (.tuple #[.slice none 0 0,.int .i64 2])=Ending.returned (.tuple #[v,.int .i64 (ordR I N O order).2])∧Kd.R (Kd.int .i64) 3 w' w.heap.size (fun _=>True) v (ordR I N O order).1∧Below w.heap.size w w':=fun w' h hb=>by
    unfold ordR;rw[h];exact⟨_,rfl,Kd.R_nil _ _ _ _ _,hb⟩
  have NO:=aM no;clear r1 l1 r2 l2 hl1 hl2 rr lr htb no
  go_enter Tryz.func49,Tryz.ntmps49
  go_upto_region 1 with(fail)
  generalize hW0:World.alloc w _=W0;have HB0:Aside0 (Below w.heap.size w W0):=⟨by rw[← hW0];exact(Below.refl _ _).alloc (Nat.le_refl _) _⟩;have HT0:Aside0 (W0.heap[w.heap.size]? =some (.cells #[.int .i64 I,.slice A1 N.length c1,.slice A2 O.length c2] 25 (0,0))):=⟨by rw[← hW0];exact blk_new _ _⟩;clear hW0;have y0:W0.cell? ⟨w.heap.size,0,none⟩=some (.int .i64 I):=(blk_cell HT0.out 0).trans rfl;have y1:W0.cell? ⟨w.heap.size,1,none⟩=some (.slice A1 N.length c1):=(blk_cell HT0.out 1).trans rfl;have y2:W0.cell? ⟨w.heap.size,2,none⟩=some (.slice A2 O.length c2):=(blk_cell HT0.out 2).trans rfl;have CT0:=aM (CT.out _ HB0.out)
  by_cases hg:tb=true∧order.length=4
  case neg=>
    have HN:Aside0 (ordOk I N O order=false):=⟨by
      unfold ordOk;rw[HTB.out]
      cases tb
      · rfl
      · have:¬order.length=4:=fun h=>hg ⟨rfl,h⟩
        simp[this]⟩
    cases tb with
    |false=>
      clear hg
      go_wp2_with (go_at_call 59;refine CT0.out.mono ?_;rintro e w1 ⟨rfl,hb1⟩)
      go_ret2
      exact NO.out _ HN.out (below_step HB0.out hb1)
    |true=>
      have c4:((order.length:Int) !=4)=true:=by
        have:¬order.length=4:=fun h=>hg ⟨rfl,h⟩;rw[bne_iff_ne];omega
      clear hg
      go_wp2_with (go_at_call 59;refine CT0.out.mono ?_;rintro e w1 ⟨rfl,hb1⟩)
      go_ret2
      exact NO.out _ HN.out (below_step HB0.out hb1)
  case pos=>
  obtain⟨rfl,hl4⟩:=hg;have c4:((order.length:Int) !=4)=false:=by rw[bne_eq_false_iff_eq];omega
  have hok:=treeOk_of HTB.out;have HL4:=aM hl4;have HOK:=aM hok;clear hok hl4
  go_wp2_with (go_at_call 59;refine CT0.out.mono ?_;rintro e w1 ⟨rfl,hb1⟩;have HB1:=aM (below_step HB0.out hb1);have HT1:=aM (blk_below HT0.out hb1);clear hb1)
  clear y0 y1 y2 c4
  go_loopg [18] order.length (fun kq v18 w'=>∃j:Nat,v18=.int .i64 (j:Int)∧Aside0 (j+kq=order.length)∧Aside0 (orderTo order j=true)∧Aside0 (Below w1.heap.size w1 w'))
  case atStart=>exact⟨0,rfl,⟨by omega⟩,⟨rfl⟩,⟨Below.refl _ _⟩⟩
  case round=>
    obtain⟨j,rfl,HJ,HO,HW⟩:=hrel
    cases gk with
    |zero=>
      have c3:decide ((j:Int)<(order.length:Int))=false:=decide_eq_false (by have:=HJ.out;omega);have c4:¬(j<order.length):=by have:=HJ.out;omega
      have HY:Aside0 (ordOk I N O order=true):=⟨by
        have h1:=HO.out;rw[show j=order.length by have:=HJ.out;omega] at h1;unfold ordOk;rw[HTB.out,h1,decide_eq_true HL4.out]
        rfl⟩
      have hT:=blk_below HT1.out HW.out;have y0:wr.cell? ⟨w.heap.size,0,none⟩=some (.int .i64 I):=(blk_cell hT 0).trans rfl;have y1:wr.cell? ⟨w.heap.size,1,none⟩=some (.slice A1 N.length c1):=(blk_cell hT 1).trans rfl;have y2:wr.cell? ⟨w.heap.size,2,none⟩=some (.slice A2 O.length c2):=(blk_cell hT 2).trans rfl;have HBW:Aside0 (Below w.heap.size w wr):=⟨below_step HB1.out HW.out⟩
      have CO:Aside0 (Calls Tryz.prog 87 #[.agg #[.int .i64 I,.slice A1 N.length c1,.slice A2 O.length c2],.slice Ar order.length cr] wr fun e w'=>∃v3_:Value,e=.returned (.agg #[.int .i64 I,.slice A1 N.length c1,.slice A2 O.length c2,v3_])∧Kd.R (Kd.int .i64) 3 w' wr.heap.size (fun _=>True) v3_ (orderedF I N O order)∧Below wr.heap.size wr w'):=⟨
        d7_ordered.calls I A1 c1 N A2 c2 O Ar cr order I N O (orderedF I N O order) wr (Kd.C_below HR1.out.1 HBW.out) HR1.out.2 (Kd.C_below HR2.out.1 HBW.out) HR2.out.2 (Kd.C_below HRR.out.1 HBW.out) HRR.out.2 (by unfold d7_ordered.f;rw[if_pos ⟨HOK.out,by have:=HL4.out;omega⟩])⟩
      clear hT
      go_wp2_with (go_at_call 87;refine CO.out.mono ?_;rintro e w5 ⟨v5,rfl,hR5,hb5⟩)
      go_ret2
      unfold ordR;rw[HY.out];exact⟨_,rfl,Kd.R_lower hR5 HBW.out.size,below_step HBW.out hb5⟩
    |succ k2=>
      have hjl:j<order.length:=by have:=HJ.out;omega
      have c3:decide ((j:Int)<(order.length:Int))=true:=decide_eq_true (by omega);have p1:(0:Int)≤(j:Int):=by omega
      have p2:(j:Int)<(order.length:Int):=by omega
      have HBW:Aside0 (Below w.heap.size w wr):=⟨below_step HB1.out HW.out⟩;have hC:=Kd.C_below HRR.out.1 HBW.out;obtain⟨ad,ea,x0⟩:=Kd.at_int hC (j:Int) p1 p2;rw[Int.toNat_natCast] at x0;subst ea;have htl:(order.take j).length=j:=by rw[List.length_take];omega
      have hCt:=Kd.C_take (m:=j) hC (by omega);obtain⟨x,hx⟩:∃x,rd order (j:Int)=x:=⟨_,rfl⟩;rw[hx] at x0;obtain⟨cb,hcb⟩:∃cb,inB x 0 3=cb:=⟨_,rfl⟩;obtain⟨mb,hmb⟩:∃mb,decide (x∈order.take j)=mb:=⟨_,rfl⟩
      have hcut:∀W:World,(Instr.slice 30 (.slice (some ad) order.length cr) none (some (.int .i64 (j:Int))) none).run Tryz.prog W=.ok (.slice (some ad) j cr) W:=fun W=>by
        have:=cut_to (P:=Tryz.prog) 30 3 .i64 Tryz.underlying30 hi3 (some ad) order.length cr (j:Int) (by omega) (by omega) HRR.out.2 W;rw[this,Int.toNat_natCast]
      have CC:Aside0 (∀ W,Calls Tryz.prog 85 #[.int .i64 x] W fun e w'=>e=.returned (.bool cb)∧W=w'):=⟨fun W=>(isClass_any x W).mono (fun e w' he=>⟨by rw[he.1,hcb],he.2⟩)⟩
      have CM:Aside0 (Calls Tryz.prog 86 #[.slice (some ad) j cr,.int .i64 x] wr fun e w'=>e=.returned (.bool mb)∧Below wr.heap.size wr w'):=⟨by
        have:=cont_any (x:=x) (c:=cr) hCt (by have:=HRR.out.2;omega) (by have:=HL4.out;omega);rw[htl,hmb] at this
        exact this⟩
      have HE:Aside0 (orderTo order (j+1)=(cb&&!mb)):=⟨by rw[orderTo_succ,HO.out,hx,hcb,hmb];rfl⟩
      have HNO:Aside0 ((cb&&!mb)=false->ordOk I N O order=false):=⟨fun h=>by
        unfold ordOk
        rw[orderTo_bad hjl (by rw[hx,hcb,hmb];exact h),Bool.and_false]⟩
      have hw1:wrap64 ((j:Int)+1)=((j+1:Nat):Int):=by rw[IntWalk.wrap64_in _ (by have:=HL4.out;omega)];omega
      have q1:=eq_true p1;have q2:=eq_true p2;clear hx hcb hmb htl hCt hC hjl
      cases cb with
      |false=>
        go_wp2_with (go_at_call 85;refine(CC.out _).mono ?_;rintro e w3 ⟨rfl,rfl⟩)
        go_ret2
        exact NO.out _ (HNO.out rfl) HBW.out
      |true=>
        cases mb with
        |true=>
          go_wp2_with (first|(go_at_call 85;refine(CC.out _).mono ?_;rintro e w3 ⟨rfl,rfl⟩)|(go_at_call 86;refine CM.out.mono ?_;rintro e w4 ⟨rfl,hb4⟩))
          go_ret2
          exact NO.out _ (HNO.out rfl) (below_step HBW.out hb4)
        |false=>
          go_wp2_with (first|(go_at_call 85;refine(CC.out _).mono ?_;rintro e w3 ⟨rfl,rfl⟩)|(go_at_call 86;refine CM.out.mono ?_;rintro e w4 ⟨rfl,hb4⟩))
          go_roundg k2
          case measure=>omega
          case rel=>exact⟨j+1,(by first|rfl|rw[hw1]|(rw [Int.natCast_add];rfl)),⟨by have:=HJ.out;omega⟩,⟨by rw[HE.out];rfl⟩,⟨below_step HW.out hb4⟩⟩
def d7_Ordered.f (a0_0:Int) (l0_1:List SN) (l0_2:List SO) (l1:List Int):Option (List Int×Int):=if l0_1.length≤9223372036854775807∧l0_2.length≤9223372036854775807 then some (ordR a0_0 l0_1 l0_2 l1) else none
theorem d7_Ordered.calls (a0_0:Int) (A0_1:Option Addr) (c0_1:Nat) (l0_1:List SN) (A0_2:Option Addr) (c0_2:Nat) (l0_2:List SO) (A1:Option Addr) (c1:Nat) (l1:List Int) (r1:List Int) (r2:Int) (w:World) (hr0_1:Kd.C k77 w A0_1 l0_1.length l0_1) (hc0_1:l0_1.length≤c0_1) (hr0_2:Kd.C k51 w A0_2 l0_2.length l0_2) (hc0_2:l0_2.length≤c0_2) (hr1:Kd.C (Kd.int .i64) w A1 l1.length l1) (hc1:l1.length≤c1) (h:d7_Ordered.f a0_0 l0_1 l0_2 l1=some (r1,r2)):
    Calls Tryz.prog 49 #[.agg #[.int .i64 a0_0,.slice A0_1 l0_1.length c0_1,.slice A0_2 l0_2.length c0_2],.slice A1 l1.length c1] w fun e w'=>∃v0_:Value,e=.returned (.tuple #[v0_,.int .i64 r2])∧Kd.R (Kd.int .i64) 3 w' w.heap.size (fun _=>True) v0_ r1∧Below w.heap.size w w':=by
  unfold d7_Ordered.f at h
  split at h
  · rename_i hp
    have h:=Option.some.inj h;have e1:(ordR a0_0 l0_1 l0_2 l1).1=r1:=by rw[h]
    have e2:(ordR a0_0 l0_1 l0_2 l1).2=r2:=by rw[h]
    have:=ord_any hr0_1 hc0_1 hr0_2 hc0_2 hp.1 hp.2 hr1 hc1 (I:=a0_0);rw[e1,e2] at this;exact this
  · cases h
end Go.Proofs.YtjioobfeikbffabGreatDoor.K
end
section
namespace Go.Proofs.YtjioobfeikbffabGreatDoor.K
open Go.RowKit Go.Shelf Go.Proofs.Zw Go.Proofs.Zl Go.Proofs.Zm
attribute [local go_sem] Oper.semAt_some
structure BlW (w:World) (n:Int) (W:World):Prop where
 hb:Below w.heap.size w W
 nd:W.heap[w.heap.size+1]? =some (.cells #[.int .i64 n] 3 (0,0))
 rs:W.heap[w.heap.size+1+1]? =some (.cells #[.bool false] 4 (0,0))
theorem BlW.kb {w W W1:World} {n:Int} {M:Nat->Prop} (h:BlW w n W) (hk:KB M W W1) (hM:∀k,M k->w.heap.size+3≤k):BlW w n W1 where
 hb:=h.hb.trans (hk.below h.hb.size (fun k hk2 hm=>by have:=hM k hm;omega))
 nd:=hk.at h.nd (fun e=>by have:=hM _ e;omega)
 rs:=hk.at h.rs (fun e=>by have:=hM _ e;omega)
theorem Marks.one {base k:Nat} {w:World} (hb:base≤k) (h1:w.heap[k]? =some (.deferred (some []))):Marks base [{ target:=.collected k,args:=#[]}] w:=
 ⟨[k],rfl,by simp,fun j hj=>by rw[List.mem_singleton] at hj;subst hj;exact⟨hb,h1⟩⟩
set_option maxRecDepth 100000 in
set_option maxHeartbeats 1000000 in
theorem below_any {w:World} {I:Int} {A1 A2:Option Addr} {c1 c2:Nat} {N:List SN} {O:List SO} {i n:Int} (h:TrW w I A1 A2 c1 c2 N O) (i0:0≤i) (i1:i<O.length):
  Calls Tryz.prog 124 #[.agg #[.int .i64 I,.slice A1 N.length c1,.slice A2 O.length c2],.int .i64 i,.int .i64 n] w fun e w'=>e=.returned (.bool (belB N O i n))∧Below w.heap.size w w':=by
 have hu1:=Tryz.underlying25;have hmix:Tryz.prog.follows .mixedOrders=true:=by kernel_rfl
 have H:=aM h;have hoo:=okO_at h.o i0 i1;clear h;refine(callsIn_wide (n:=6)).1 ?_;refine callsIn_of_wp_marks Tryz.func124 rfl trivial ?_ rfl;simp only[Tryz.ntmps124,List.size_toArray,List.length_cons,List.length_nil,Nat.reduceAdd,Nat.reduceSub,Array.replicate_succ,Array.replicate_zero,List.push_toArray,List.append_toArray,List.nil_append,List.cons_append];refine wpIn_wide.2 ?_
 go_upto_region 1 with(fail)
 generalize hW0:World.alloc (World.alloc (World.alloc w _) _) _=W0;have HB0:Aside0 (Below w.heap.size w W0∧W0.heap.size=w.heap.size+3):=⟨by rw[← hW0];exact⟨(((Below.refl _ _).alloc (Nat.le_refl _) _).alloc (by simp) _).alloc (by simp;omega) _,by simp⟩⟩;have HT0:Aside0 (W0.heap[w.heap.size]? =some (.cells #[.int .i64 I,.slice A1 N.length c1,.slice A2 O.length c2] 25 (0,0))):=⟨by rw[← hW0];exact blk_alloc (blk_alloc (blk_new _ _) _) _⟩
 have HN0:Aside0 (W0.heap[w.heap.size+1]? =some (.cells #[.int .i64 n] 3 (0,0))):=⟨by
  rw[← hW0];have:=blk_new (w.alloc (.cells #[.int .i64 I,.slice A1 N.length c1,.slice A2 O.length c2] 25)) (.cells #[.int .i64 n] 3);rw[World.size_alloc] at this
  exact blk_alloc this _⟩
 have HX0:Aside0 (W0.heap[w.heap.size+1+1]? =some (.cells #[.bool false] 4 (0,0))):=⟨by
  rw[← hW0];have:=blk_new ((w.alloc (.cells #[.int .i64 I,.slice A1 N.length c1,.slice A2 O.length c2] 25)).alloc (.cells #[.int .i64 n] 3)) (.cells #[.bool false] 4);rw[World.size_alloc,World.size_alloc] at this
  exact this⟩
 clear hW0;have y0:W0.cell? ⟨w.heap.size,0,none⟩=some (.int .i64 I):=(blk_cell HT0.out 0).trans rfl;have y1:W0.cell? ⟨w.heap.size,1,none⟩=some (.slice A1 N.length c1):=(blk_cell HT0.out 1).trans rfl;have y2:W0.cell? ⟨w.heap.size,2,none⟩=some (.slice A2 O.length c2):=(blk_cell HT0.out 2).trans rfl;obtain⟨ad,ea,x0,-⟩:=at_T51 (H.out.below HB0.out.1).r2 i i0 i1;obtain⟨nd,hnd⟩:∃nd,(rdO O i).f0=nd:=⟨_,rfl⟩;replace x0:W0.cell? (ad.add (i.toNat*3))=some (.int .i64 nd):=by rw[← hnd];exact x0
 subst ea;rw[hnd] at hoo;have HOO:=aM hoo;have HND:Aside0 (belB N O i n=(upL N nd).contains n):=⟨by unfold belB;rw[hnd]⟩;have q1:=eq_true i0;have q2:=eq_true i1;clear hoo hnd;go_wp2;refine wpIn_wide.1 (startN_ (n:=6) (m:=8) (S:=fun w'=>w'.cell? ⟨w.heap.size,0,none⟩=some (.int .i64 I)∧w'.cell? ⟨w.heap.size,1,none⟩=some (.slice A1 N.length c1)∧w'.cell? ⟨w.heap.size,2,none⟩=some (.slice (some ad) O.length c2)∧w'.cell? (ad.add (i.toNat*3))=some (.int .i64 nd)) (ds:=[7]) (bl 8 0) hmix rfl rfl ⟨y0,y1,y2,x0⟩ (fun hHeld=>?_));refine take_ (i:=0) (N:=(some 8)) (v:=?_) (a':=?_) (bl 8 1) rfl rfl (by kernel_rfl) (fun _ _ _ h=>h) (Or.inl ⟨by rfl,?_⟩) hHeld ?_ ?_;rotate_left
 ·rintro w' ⟨s0,s1,s2,s3⟩
  go_simp
  with_reducible rfl
 rotate_left
 ·simp only[Act.put,List.setIfInBounds_toArray,List.set_cons_zero,List.set_cons_succ,i64_w,i32_w]
  rfl
 refine pure_ (i:=1) (N:=(some 9)) (v:=?_) (a':=?_) (bl 8 3) rfl rfl (by kernel_rfl) (fun _ _ _ h=>h) (Or.inl ⟨by rfl,?_⟩) ?_ ?_;rotate_left
 ·intro w'
  go_simp
  with_reducible rfl
 rotate_left
 ·simp only[Act.put,List.setIfInBounds_toArray,List.set_cons_zero,List.set_cons_succ,i64_w,i32_w]
  rfl
 refine take_ (i:=2) (N:=(some 10)) (v:=?_) (a':=?_) (bl 8 7) rfl rfl (by kernel_rfl) (fun _ _ _ h=>h) (Or.inl ⟨by rfl,?_⟩) hHeld ?_ ?_;rotate_left
 ·rintro w' ⟨s0,s1,s2,s3⟩
  go_simp
  with_reducible rfl
 rotate_left
 ·simp only[Act.put,List.setIfInBounds_toArray,List.set_cons_zero,List.set_cons_succ,i64_w,i32_w]
  rfl
 refine pure_ (i:=3) (N:=(some 11)) (v:=?_) (a':=?_) (bl 8 15) rfl rfl (by kernel_rfl) (fun _ _ _ h=>h) (Or.inl ⟨by rfl,?_⟩) ?_ ?_;rotate_left
 ·intro w'
  go_simp
  with_reducible rfl
 rotate_left
 ·simp only[Act.put,List.setIfInBounds_toArray,List.set_cons_zero,List.set_cons_succ,i64_w,i32_w]
  rfl
 refine pure_ (i:=4) (N:=(some 12)) (v:=?_) (a':=?_) (bl 8 31) rfl rfl (by kernel_rfl) (fun _ _ _ h=>h) (Or.inl ⟨by rfl,?_⟩) ?_ ?_;rotate_left
 ·intro w'
  go_simp
  with_reducible rfl
 rotate_left
 ·simp only[Act.put,List.setIfInBounds_toArray,List.set_cons_zero,List.set_cons_succ,i64_w,i32_w]
  rfl
 refine pure_ (i:=5) (N:=(some 13)) (v:=?_) (a':=?_) (bl 8 63) rfl rfl (by kernel_rfl) (fun _ _ _ h=>h) (Or.inl ⟨by rfl,?_⟩) ?_ ?_;rotate_left
 ·intro w'
  go_simp
  with_reducible rfl
 rotate_left
 ·simp only[Act.put,List.setIfInBounds_toArray,List.set_cons_zero,List.set_cons_succ,i64_w,i32_w]
  rfl
 refine take_ (i:=6) (N:=(some 14)) (v:=?_) (a':=?_) (bl 8 127) rfl rfl (by kernel_rfl) (fun _ _ _ h=>h) (Or.inl ⟨by rfl,?_⟩) hHeld ?_ ?_;rotate_left
 ·rintro w' ⟨s0,s1,s2,s3⟩
  go_simp
  with_reducible rfl
 rotate_left
 ·simp only[Act.put,List.setIfInBounds_toArray,List.set_cons_zero,List.set_cons_succ,i64_w,i32_w]
  rfl
 refine last_ (i:=7) (N:=some 15) (bl 8 255) rfl rfl (by kernel_rfl) (by decide) (fun K hK=>?_);refine call_ 90 #[.agg #[.int .i64 I,.slice A1 N.length c1,.slice (some ad) O.length c2],.int .i64 nd] (by rfl) rfl ?_ ?_
 ·have he:=enters_ Tryz.func90 (by kernel_rfl) rfl #[.agg #[.int .i64 I,.slice A1 N.length c1,.slice (some ad) O.length c2],.int .i64 nd] W0.drew;unfold execOp;simp[resolve,Deferred.ofValue,invoke,Act.eval,he]
 refine(up_any _ _ _ _ _ _ _ _ _).mono ?_;rintro e w2 ⟨rfl,rfl⟩;refine⟨_,rfl,?_⟩;refine hK.out _ _ ?_;clear hK K;refine nm ?_;refine done_ (by kernel_rfl) ?_;simp only[onlyN];(try simp only[Exit.then]);clear hHeld y0 y1 y2 x0 q1 q2;have hs0:=HB0.out.2
 have hT3:((W0.drew.alloc (.cells #[.int .i64 I,.slice A1 N.length c1,.slice (some ad) O.length c2] 25)).alloc (.cells #[.int .i64 nd] 3)).heap[w.heap.size+3]? =some (.cells #[.int .i64 I,.slice A1 N.length c1,.slice (some ad) O.length c2] 25 (0,0)):=by
  have h:=blk_new W0.drew (.cells #[.int .i64 I,.slice A1 N.length c1,.slice (some ad) O.length c2] 25);rw[show W0.drew.heap.size=w.heap.size+3 from hs0] at h;exact blk_alloc h _
 have hX3:((W0.drew.alloc (.cells #[.int .i64 I,.slice A1 N.length c1,.slice (some ad) O.length c2] 25)).alloc (.cells #[.int .i64 nd] 3)).heap[w.heap.size+3+1]? =some (.cells #[.int .i64 nd] 3 (0,0)):=by
  have h:=blk_new (W0.drew.alloc (.cells #[.int .i64 I,.slice A1 N.length c1,.slice (some ad) O.length c2] 25)) (.cells #[.int .i64 nd] 3);rw[World.size_alloc,show W0.drew.heap.size=w.heap.size+3 from hs0] at h;exact h
 have HBL:Aside0 (BlW w n ((W0.drew.alloc (.cells #[.int .i64 I,.slice A1 N.length c1,.slice (some ad) O.length c2] 25)).alloc (.cells #[.int .i64 nd] 3))):=⟨(BlW.mk HB0.out.1 HN0.out HX0.out).kb (M:=fun _=>False) ((KB.of_below (below_drew1 (Below.refl _ _))).trans ((KB.alloc _ _).trans (KB.alloc _ _))) (fun _ h=>h.elim)⟩;have hz3:((W0.drew.alloc (.cells #[.int .i64 I,.slice A1 N.length c1,.slice (some ad) O.length c2] 25)).alloc (.cells #[.int .i64 nd] 3)).heap.size=w.heap.size+5:=by simp[World.size_alloc];exact hs0
 rw[show W0.drew.heap.size=w.heap.size+3 from hs0];generalize ((W0.drew.alloc (.cells #[.int .i64 I,.slice A1 N.length c1,.slice (some ad) O.length c2] 25)).alloc (.cells #[.int .i64 nd] 3))=W3 at hT3 hX3 hz3 HBL⊢;have hseq:=up_seq 4 (w.heap.size+3) (w.heap.size+3+1) I nd A1 (some ad) O.length c1 c2 N w W3 H.out.n H.out.nl HOO.out.1 HOO.out.2.1 hT3 hX3 H.out.r1 HBL.out.hb (by omega);go_wp2;clear hs0 HT0 HN0 HX0 HB0 hmix
 refine wpIn_wide.1 (wpIn_rangeU (n:=5) rfl (by omega) (gf:=125) rfl trivial (enters_of Tryz.func125 (by kernel_rfl) rfl) hseq (fun k=>k=w.heap.size+1+1) (KB.refl _ _) (fun k hk=>by rcases hk with rfl|rfl|hk<;>omega) (fun k e=>.inr (.inl e)) (fun k hk=>⟨by omega,fun h=>by rcases h with h|h|h<;>omega⟩) (fun _=>rfl)
  (fun pre W=>BlW w n W∧∀y∈pre,y≠n) (fun c W=>c=Code.ret∧(upL N nd).contains n=true∧Below w.heap.size w W∧W.heap[w.heap.size+1+1]? =some (.cells #[.bool true] 4 (0,0)))
  (fun x=>{ tmps:=#[.agg #[.int .i64 I,.slice A1 N.length c1,.slice (some ad) O.length c2],.int .i64 i,.int .i64 n,.pointer (some ⟨w.heap.size,0,none⟩),undef,.pointer (some ⟨w.heap.size+1,0,none⟩),.pointer (some ⟨w.heap.size+1+1,0,none⟩),.int .i64 x,.agg #[.int .i64 I,.slice A1 N.length c1,.slice (some ad) O.length c2],.pointer (some ⟨w.heap.size,2,none⟩),.slice (some ad) O.length c2,.int .i64 i,.pointer (some (ad.add (i.toNat*3))),.pointer (some (ad.add (i.toNat*3))),.int .i64 nd,.func (.func 125) #[] #[.pointer (some ⟨w.heap.size+3+1,0,none⟩),.pointer (some ⟨w.heap.size+3,0,none⟩)],.int .i64 x,undef,undef,undef],defers:=[]}) ?sI ?sX ⟨HBL.out,fun y hy=>by cases hy⟩ ?assign ?body ?done ?stop)
 case sI=>exact fun pre A A' h hs hk=>⟨h.1.kb hk (fun k e=>by rcases e with⟨e,-⟩|e<;>omega),h.2⟩
 case sX=>exact fun c A A' h hs hk=>⟨h.1,h.2.1,h.2.2.1.trans (hk.below h.2.2.1.size (fun k hk2 e=>by rcases e with⟨e,-⟩|e<;>omega)),hk.at h.2.2.2 (fun e=>by rcases e with⟨e,-⟩|e<;>omega)⟩
 case assign=>
  intro l x W K hK
  gi_wp2
  exact hK
 case body=>
  rintro l pre x W ⟨hI,hpre⟩ hsz ⟨rest,hrest⟩ hkb;have HI:=aM hI;have y1:W.cell? ⟨w.heap.size+1,0,none⟩=some (.int .i64 n):=(blk_cell hI.nd 0).trans rfl;have y2:W.cell? ⟨w.heap.size+1+1,0,none⟩=some (.bool false):=(blk_cell hI.rs 0).trans rfl;have y2f:W.frozen? ⟨w.heap.size+1+1,0,none⟩=false:=blk_frozen hI.rs 0;have HR:=aM (And.intro hrest hpre);clear hI hrest hpre hkb hsz
  by_cases e:x=n
  ·subst e;have HM:Aside0 ((upL N nd).contains x=true):=⟨by rw[HR.out.1];simp⟩
   gi_wp2
   exact⟨KB.setCell _ _ _ rfl,rfl,HM.out,HI.out.hb.setCell (show w.heap.size≤w.heap.size+1+1 by omega) _,by have:=blk_set HI.out.rs 0 (.bool true);simpa using this⟩
  ·have c3:(x==n)=false:=by simpa using e
   have HE:Aside0 (∀ y∈pre++[x],y≠n):=⟨fun y hy=>by
    rcases List.mem_append.1 hy with hy|hy
    ·exact HR.out.2 y hy
    ·rw[List.mem_singleton] at hy;rw[hy];exact e⟩
   clear e
   gi_wp2
   exact⟨KB.refl _ _,HI.out,HE.out⟩
 case done=>
  rintro W ⟨hI,hpre⟩ hkb hD;have HI:=aM hI;have y2:W.cell? ⟨w.heap.size+1+1,0,none⟩=some (.bool false):=(blk_cell hI.rs 0).trans rfl;have y2f:W.frozen? ⟨w.heap.size+1+1,0,none⟩=false:=blk_frozen hI.rs 0
  have HM:Aside0 (belB N O i n=false):=⟨by
   rw[HND.out,Bool.eq_false_iff];intro hc
   exact hpre n (by simpa using hc) rfl⟩
  have HD:=aM hD;clear hI hpre hkb hD hseq hT3 hX3
  rename_i hnx
  refine hnx _ _ ?_;have HZ:=aM hz3;go_wp2;have hz3:=HZ.out;have HD2:Aside0 ((W.setCell ⟨w.heap.size+1+1,0,none⟩ (.bool false)).heap[w.heap.size+5]? =some (.deferred (some []))):=⟨(KB.setCell (M:=fun k=>k=w.heap.size+1+1) _ _ _ rfl).at (by rw[← hz3];exact HD.out) (fun e=>by omega)⟩;have HX2:Aside0 ((W.setCell ⟨w.heap.size+1+1,0,none⟩ (.bool false)).heap[w.heap.size+1+1]? =some (.cells #[.bool false] 4 (0,0))):=⟨by have:=blk_set HI.out.rs 0 (.bool false);simpa using this⟩;have HB2:Aside0 (Below w.heap.size w (W.setCell ⟨w.heap.size+1+1,0,none⟩ (.bool false))):=⟨HI.out.hb.setCell (show w.heap.size≤w.heap.size+1+1 by omega) _⟩;refine leaves_marks (u:=.returning) (base:=w.heap.size+5) (by intro h;cases h) (Marks.one (by omega) HD2.out) (fun w' hk=>?_);have y3:w'.cell? ⟨w.heap.size+1+1,0,none⟩=some (.bool false):=(blk_cell (hk.at HX2.out (fun e=>by have:=e.1;omega)) 0).trans rfl;exact⟨.bool false,by simp[results,Tryz.results124,go_sem,y3],by rw[HM.out],HB2.out.trans (hk.below HB2.out.size (fun k hk2 e=>by have:=e.1;omega))⟩
 case stop=>
  rintro c W ⟨rfl,hm,hb,hx⟩ hkb hD;refine wpIn_wide.2 ?_;have HD2:Aside0 (W.heap[w.heap.size+5]? =some (.deferred (some []))):=⟨by rw[← hz3];exact hD⟩;have HX2:=aM hx;have HB2:=aM hb;have HM:Aside0 (belB N O i n=true):=⟨by rw[HND.out];exact hm⟩;clear hD hx hb hm hkb hseq hT3 hX3;rw[hz3];go_wp2;refine leaves_marks (u:=.returning) (base:=w.heap.size+5) (by intro h;cases h) (Marks.one (by omega) HD2.out) (fun w' hk=>?_);have y3:w'.cell? ⟨w.heap.size+1+1,0,none⟩=some (.bool true):=(blk_cell (hk.at HX2.out (fun e=>by have:=e.1;omega)) 0).trans rfl;exact⟨.bool true,by simp[results,Tryz.results124,go_sem,y3],by rw[HM.out],HB2.out.trans (hk.below HB2.out.size (fun k hk2 e=>by have:=e.1;omega))⟩
def d7_below.f (a0_0:Int) (l0_1:List SN) (l0_2:List SO) (a1:Int) (a2:Int):Option Bool:=
 if okN l0_1=true∧okO l0_1.length l0_2=true∧l0_1.length≤1000∧l0_2.length≤1000∧0≤a1∧a1<l0_2.length then some (belB l0_1 l0_2 a1 a2) else none
theorem d7_below.calls (a0_0:Int) (A0_1:Option Addr) (c0_1:Nat) (l0_1:List SN) (A0_2:Option Addr) (c0_2:Nat) (l0_2:List SO) (a1:Int) (a2:Int) (r:Bool) (w:World) (hr0_1:Kd.C k77 w A0_1 l0_1.length l0_1) (hc0_1:l0_1.length≤c0_1) (hr0_2:Kd.C k51 w A0_2 l0_2.length l0_2) (hc0_2:l0_2.length≤c0_2) (h:d7_below.f a0_0 l0_1 l0_2 a1 a2=some r):
  Calls Tryz.prog 124 #[.agg #[.int .i64 a0_0,.slice A0_1 l0_1.length c0_1,.slice A0_2 l0_2.length c0_2],.int .i64 a1,.int .i64 a2] w fun e w'=>e=.returned (.bool r)∧Below w.heap.size w w':=by
 unfold d7_below.f at h
 split at h
 ·rename_i hp
  obtain rfl:=Option.some.inj h;exact below_any ⟨hp.1,hp.2.1,hp.2.2.1,hp.2.2.2.1,hr0_1,hc0_1,hr0_2,hc0_2⟩ hp.2.2.2.2.1 hp.2.2.2.2.2
 ·cases h
end Go.Proofs.YtjioobfeikbffabGreatDoor.K
end
section
namespace Go.Proofs.YtjioobfeikbffabGreatDoor.K
open Go.RowKit Go.Proofs.Zw Go.Proofs.Zl Go.Proofs.Zm
theorem uC {p q:Prop} (h:p) (k:p->q:=by intro h_;repeat(first|exact h_|(with_reducible refine Kd.C_alloc ?_ _)|(with_reducible refine Kd.C_drewN ?_ _)|(with_reducible refine Kd.C_drew ?_))):q:=k h
section
variable {P:Program} {ops:Array Oper} {Q:Exit->Act->World->Prop} {md:Region.Mode} {S:World->Prop} {ds:List Nat} {oi:Oper} {fuel:Nat} {l:Array Bool} {a a':Act} {w:World}
end
end Go.Proofs.YtjioobfeikbffabGreatDoor.K
end
section
namespace Go.Proofs.YtjioobfeikbffabGreatDoor.K
open Go.RowKit Go.Proofs.Zw Go.Proofs.Zl Go.Proofs.Zm
attribute [local go_sem] max2_int min2_int max_two min_two max_three min_three max_four min_four
def d7_shared_tight.f (a0_0:Int) (l0_1:List (S77)) (l0_2:List (S51)) (l0_3:List Int) (a1:Int):Option (Bool):=(d7_flows.f a0_0 l0_1 l0_2 l0_3).bind fun t112=>(if 0≤a1 then(if a1<(t112.length:Int) then((d7_capacity.f a0_0 l0_1 l0_2 a1).bind fun t116=>(some ((rd t112 a1)==t116))) else(none)) else(none))
def d7_shared_tight.T1:Bool×List (List Nat×List Nat):=(true,[([],[]),([0],[0]),([],[]),([2],[2]),([1,3],[1,3]),([],[]),([4,5],[4,5]),([6],[6]),([],[]),([8],[8]),([],[]),([9,10,4],[9,10]),([7,11],[7,11]),([12,11,0,1,2,3,4,5,6,7,8,9,10,11,12],[12])])
def d7_shared_tight.B1:List Nat:=[0,1,0,4,15,0,63,127,0,256,0,1823,4095,8191]
theorem d7_shared_tight.tab1:rtab .any (opsOf Tryz.f91 1)=d7_shared_tight.T1:=by kernel_rfl
theorem d7_shared_tight.bits1:waitsOk d7_shared_tight.T1.2 d7_shared_tight.B1=true:=by kernel_rfl
set_option maxHeartbeats 8000000 in
set_option maxRecDepth 100000 in
theorem d7_shared_tight.calls (a0_0:Int) (A0_1:Option Addr) (c0_1:Nat) (l0_1:List (S77)) (A0_2:Option Addr) (c0_2:Nat) (l0_2:List (S51)) (A0_3:Option Addr) (c0_3:Nat) (l0_3:List Int) (a1:Int) (r:Bool) (w:World) (hr0_1:Kd.C k77 w A0_1 l0_1.length l0_1) (hc0_1:l0_1.length≤c0_1) (hr0_2:Kd.C k51 w A0_2 l0_2.length l0_2) (hc0_2:l0_2.length≤c0_2) (hr0_3:Kd.C (Kd.int .i64) w A0_3 l0_3.length l0_3) (hc0_3:l0_3.length≤c0_3) (h:d7_shared_tight.f a0_0 l0_1 l0_2 l0_3 a1=some r):
  Calls Tryz.prog 91 #[.agg #[.int .i64 a0_0,.slice A0_1 l0_1.length c0_1,.slice A0_2 l0_2.length c0_2,.slice A0_3 l0_3.length c0_3],.int .i64 a1] w fun e w'=>e=.returned (.bool r)∧Below w.heap.size w w':=by
 have hu93:=Tryz.underlying93;have hu25:=Tryz.underlying25;have HR0_1:=aM hr0_1;have HC0_1:=aM hc0_1;clear hr0_1 hc0_1;have HR0_2:=aM hr0_2;have HC0_2:=aM hc0_2;clear hr0_2 hc0_2;have HR0_3:=aM hr0_3;have HC0_3:=aM hc0_3;clear hr0_3 hc0_3;have HB:=aM (Below.refl w.heap.size w);have H:((d7_flows.f a0_0 l0_1 l0_2 l0_3).bind fun t112=>(if 0≤a1 then(if a1<(t112.length:Int) then((d7_capacity.f a0_0 l0_1 l0_2 a1).bind fun t116=>(some ((rd t112 a1)==t116))) else(none)) else(none)))=some r:=h;clear h;replace H:=Option.bind_eq_some_iff.mp H;obtain⟨t112,A30,H⟩:=H;replace H:(if 0≤a1 then(if a1<(t112.length:Int) then((d7_capacity.f a0_0 l0_1 l0_2 a1).bind fun t116=>(some ((rd t112 a1)==t116))) else(none)) else(none))=some r:=H;have A3:=aM A30;clear A30;obtain⟨c4,H⟩:=ifs H;replace c4:=decide_eq_true c4;obtain⟨c5,H⟩:=ifs H;replace c5:=decide_eq_true c5;replace H:=Option.bind_eq_some_iff.mp H;obtain⟨t116,A60,H⟩:=H;replace H:(some ((rd t112 a1)==t116))=some r:=H;have A6:=aM A60;clear A60;obtain rfl:=Option.some.inj H
 go_enter Tryz.func91,Tryz.ntmps91
 (try go_wp2_with (first|((with_reducible refine gate_dst (N:=2) rfl ?_);refine bxe 2 #[.int .i64 a0_0,.slice A0_1 l0_1.length c0_1,.slice A0_2 l0_2.length c0_2,.slice A0_3 l0_3.length c0_3] 93 ?_;intro gb111 hg w7 hbox hb;have n0_:=aM (below_step uB hb);have n1_:=aM (hbox);have n2_:=gw hg;have n3_:=gw hg;clear HB;have HB:=n0_;have BK111:=n1_;have GW111:=n2_;have GE111:=n3_;clear n0_ n1_ n2_ n3_;clear hb hbox hg)));replace BK111:=aM (blk_drew BK111.out);replace HB:=aM (below_drew1 HB.out);refine start_ (n:=14) (S:=fun w'=>w'.cell? ⟨gb111,0,none⟩=some (.int .i64 a0_0)∧w'.cell? ⟨gb111,1,none⟩=some (.slice A0_1 l0_1.length c0_1)∧w'.cell? ⟨gb111,2,none⟩=some (.slice A0_2 l0_2.length c0_2)∧w'.cell? ⟨gb111,3,none⟩=some (.slice A0_3 l0_3.length c0_3)) (ds:=[]) (bl 14 0) (by kernel_rfl) rfl rfl ⟨(blk_cell BK111.out 0).trans rfl,(blk_cell BK111.out 1).trans rfl,(blk_cell BK111.out 2).trans rfl,(blk_cell BK111.out 3).trans rfl⟩ (fun hHeld=>?_);refine with_tabW d7_shared_tight.tab1 d7_shared_tight.bits1 (fun HT_ HW_=>?_)
 generalize w7.drew=w8 at BK111 HB hHeld⊢;refine pu 0 5 14 1 ?_;refine pu 2 7 14 5 ?_;refine pu 5 10 14 37 ?_;refine pu 8 13 14 293 ?_;refine pu 10 15 14 1317 ?_;refine tk4 1 6 14 1319 hHeld ?_;refine tk4 3 8 14 1327 hHeld ?_;refine tk4 9 14 14 1839 hHeld ?_;refine one_ (i:=4) (N:=some 9) (bl 14 1855) rfl rfl (one_of HT_.out (by kernel_rfl)) (by decide) (fun K hK=>?_);refine goes_ Tryz.func126 (by kernel_rfl) rfl #[.agg #[.int .i64 a0_0,.slice A0_1 l0_1.length c0_1,.slice A0_2 l0_2.length c0_2],.slice A0_3 l0_3.length c0_3] (by rfl) rfl rfl uM ?_;(with_reducible refine(d7_flows.calls a0_0 _ _ l0_1 _ _ l0_2 _ _ l0_3 t112 _ ?side1 ?side2 ?side3 ?side4 ?side5 ?side6 A3.out).mono ?_);(case side1=>exact uY HR0_1 HB);(case side2=>exact HC0_1.out);(case side3=>exact uY HR0_2 HB);(case side4=>exact HC0_2.out);(case side5=>exact uY HR0_3 HB);(case side6=>exact HC0_3.out);rintro e w9 ⟨v113,rfl,ho0,hb⟩

 refine⟨_,rfl,?_⟩;have HO114:=aM (Kd.R_lower ho0 (below_size uB));replace BK111:=aM (blk_below (uK BK111.out) hb);replace HB:=aM (below_step uB hb);(try clear hb);(try clear ho0);obtain⟨Ao10,co10,eo10⟩:=Kd.R_slice HO114.out;(first|subst eo10|(injection eo10 with f1_ f2_ f3_;have f4_:=f1_.symm;have f5_:=f3_.symm;clear f1_ f2_ f3_;subst f4_;subst f5_));have p115:0≤(a1:Int):=uD;have q115:a1<(t112.length:Int):=uD;obtain⟨ad115,e115,hx115_0⟩:=Kd.at_int (Kd.R_reads' HO114.out).2.2 a1 p115 q115
 cases e115
 replace p115:=eq_true p115;replace q115:=eq_true q115;refine hK.out _ _ ⟨(blk_cell BK111.out 0).trans rfl,(blk_cell BK111.out 1).trans rfl,(blk_cell BK111.out 2).trans rfl,(blk_cell BK111.out 3).trans rfl⟩ (fun hHeld=>?_);clear hK K;refine grow_ (S2:=fun w'=>w'.cell? ⟨gb111,0,none⟩=some (.int .i64 a0_0)∧w'.cell? ⟨gb111,1,none⟩=some (.slice A0_1 l0_1.length c0_1)∧w'.cell? ⟨gb111,2,none⟩=some (.slice A0_2 l0_2.length c0_2)∧w'.cell? ⟨gb111,3,none⟩=some (.slice A0_3 l0_3.length c0_3)∧w'.cell? (ad115.add (a1).toNat)=some (.int .i64 (rd t112 a1))) ⟨hHeld.1,hHeld.2.1,hHeld.2.2.1,hHeld.2.2.2,hx115_0⟩ (fun _ h_=>⟨h_.1,h_.2.1,h_.2.2.1,h_.2.2.2.1⟩) (fun hHeld=>?_);refine nm ?_;refine pu 6 11 14 1919 ?_;refine tk5 7 12 14 2047 hHeld ?_;refine one_ (i:=11) (N:=some 16) (bl 14 4095) rfl rfl (one_of HT_.out (by kernel_rfl)) (by decide) (fun K hK=>?_);refine goes_ Tryz.func127 (by kernel_rfl) rfl #[.agg #[.int .i64 a0_0,.slice A0_1 l0_1.length c0_1,.slice A0_2 l0_2.length c0_2],.int .i64 a1] (by rfl) rfl rfl uM ?_;(with_reducible refine(d7_capacity.calls a0_0 _ _ l0_1 _ _ l0_2 a1 t116 _ ?side1 ?side2 ?side3 ?side4 A6.out).mono ?_);(case side1=>exact uY HR0_1 HB);(case side2=>exact HC0_1.out);(case side3=>exact uY HR0_2 HB);(case side4=>exact HC0_2.out);rintro e w11 ⟨rfl,hb⟩;have HS4_:=(hb.cell (World.block_lt_of_cell? _ _ (hHeld.2.2.2.2))).trans (hHeld.2.2.2.2);refine⟨_,rfl,?_⟩;replace HO114:=aM (Kd.R_below (uR HO114.out) hb);replace BK111:=aM (blk_below (uK BK111.out) hb);replace HB:=aM (below_step uB hb);(try clear hb);refine hK.out _ _ ⟨(blk_cell BK111.out 0).trans rfl,(blk_cell BK111.out 1).trans rfl,(blk_cell BK111.out 2).trans rfl,(blk_cell BK111.out 3).trans rfl,HS4_⟩ (fun hHeld=>?_);clear hK K;refine nm ?_;refine pu 12 17 14 8191 ?_;refine pu 13 4 14 16383 ?_;refine done_ (done_of HT_.out (by kernel_rfl)) ?_;(try go_wp2);go_ret;exact⟨uE,uB⟩
end Go.Proofs.YtjioobfeikbffabGreatDoor.K
end
section
namespace Go.Proofs.YtjioobfeikbffabGreatDoor.K
open Go.RowKit Go.Shelf Go.Proofs.Zw Go.Proofs.Zl Go.Proofs.Zm
attribute [local go_sem] Oper.semAt_some
theorem tight_f {I:Int} {N:List SN} {O:List SO} {s:List Int} (hN:okN N=true) (hO:okO N.length O=true) (hl:N.length≤1000) (hl2:O.length≤1000) (hs:smallB O s=true) {n:Int} (h0:0≤n) (h1:n≤N.length):d7_shared_tight.f I N O s n=some (Dr.tightB I N O s n):=by
 have e:(flowsF N O s).length=N.length+1:=flowL_len ..;unfold d7_shared_tight.f d7_flows.f;rw[if_pos ⟨hN,hO,hl,hl2,hs⟩,Option.bind_some,if_pos h0,if_pos (by omega),cap_f h0 h1 hl,Option.bind_some,flows_at N O s h0 h1]
 rfl
theorem Marks.grown {base:Nat} {ds:List Deferred} {w w1:World} {row:Option Nat} (h:Marks base ds w) (hg:w.grownBy w1 row) (hr:∀k,row=some k->w.heap[k]? ≠some (.deferred (some []))):Marks base ds w1:=by
 obtain⟨ks,h1,h2,h3⟩:=h.ks;exact⟨ks,h1,h2,fun k hm=>⟨(h3 k hm).1,blk_grown (h3 k hm).2 hg (fun e=>hr k e.symm (h3 k hm).2)⟩⟩
theorem cutF_len (I:Int) (N:List SN) (O:List SO) (s:List Int):∀k,(Dr.cutF I N O s k).length≤k
 |0=>Nat.le_refl _
 |k+1=>by
  have:=cutF_len I N O s k;unfold Dr.cutF
  split
  ·simp;omega
  ·omega
theorem law_small {I:Int} {N:List SN} {O:List SO} (h:Okt I N O):smallB O (lawF I N O)=true:=small_are h.o (Dr.ordered_are h.o)
set_option maxRecDepth 100000 in
set_option maxHeartbeats 1000000 in
theorem cut_any {w:World} {I:Int} {A1 A2:Option Addr} {c1 c2:Nat} {N:List SN} {O:List SO} (r1:Kd.C k77 w A1 N.length N) (l1:N.length≤c1) (r2:Kd.C k51 w A2 O.length O) (l2:O.length≤c2) (hl1:N.length≤9223372036854775807) (hl2:O.length≤9223372036854775807):
  Calls Tryz.prog 52 #[.agg #[.int .i64 I,.slice A1 N.length c1,.slice A2 O.length c2]] w fun e w'=>∃v0_:Value,e=.returned (.tuple #[v0_,.int .i64 (if treeB I N O=true then 0 else 2)])∧Kd.R (Kd.int .i64) 3 w' w.heap.size (fun _=>True) v0_ (if treeB I N O=true then Dr.cutF I N O (lawF I N O) (N.length+1) else [])∧Below w.heap.size w w':=by
 have hu1:=Tryz.underlying25;have hu2:=Tryz.underlying93;have hmix:Tryz.prog.follows .mixedOrders=true:=by kernel_rfl
 have HR1:=aM r1;have HR2:=aM r2;have HL:=aM (And.intro l1 l2);clear r1 r2 l1 l2;obtain⟨tb,htb⟩:∃tb,treeB I N O=tb:=⟨_,rfl⟩;rw[htb];refine(callsIn_wide (n:=6)).1 ?_;refine callsIn_of_wp_marks Tryz.func52 rfl trivial ?_ rfl;simp only[Tryz.ntmps52,List.size_toArray,List.length_cons,List.length_nil,Nat.reduceAdd,Nat.reduceSub,Array.replicate_succ,Array.replicate_zero,List.push_toArray,List.append_toArray,List.nil_append,List.cons_append];refine wpIn_wide.2 ?_
 go_upto_region 1 with(fail)
 refine wp_scope_straight ?_
 go_upto_region 1 with(fail)
 generalize hW0:World.alloc w _=W0;have HB0:Aside0 (Below w.heap.size w W0):=⟨by rw[← hW0];exact(Below.refl _ _).alloc (Nat.le_refl _) _⟩;have HT0:Aside0 (W0.heap[w.heap.size]? =some (.cells #[.int .i64 I,.slice A1 N.length c1,.slice A2 O.length c2] 25 (0,0))):=⟨by rw[← hW0];exact blk_new _ _⟩;clear hW0;have y0:W0.cell? ⟨w.heap.size,0,none⟩=some (.int .i64 I):=(blk_cell HT0.out 0).trans rfl;have y1:W0.cell? ⟨w.heap.size,1,none⟩=some (.slice A1 N.length c1):=(blk_cell HT0.out 1).trans rfl;have y2:W0.cell? ⟨w.heap.size,2,none⟩=some (.slice A2 O.length c2):=(blk_cell HT0.out 2).trans rfl;have CT:=aM (d7_isTree.calls I A1 c1 N A2 c2 O tb W0 (Kd.C_below HR1.out HB0.out) HL.out.1 (Kd.C_below HR2.out HB0.out) HL.out.2 (by unfold d7_isTree.f;rw[if_pos ⟨hl1,hl2⟩,htb]));have HTB:=aM htb;clear htb
 cases tb
 case false=>
  go_wp2_with (go_at_call 59;refine CT.out.mono ?_;rintro e w2 ⟨rfl,hb2⟩)
  exact⟨_,by simp[results,Tryz.results52,go_sem],_,rfl,Kd.R_nil _ _ _ _ _,below_step HB0.out hb2⟩
 case true=>
  go_upto_region 3 with(go_at_call 59;refine CT.out.mono ?_;rintro e w2 ⟨rfl,hb2⟩)
  have HB2:=aM (below_step HB0.out hb2);have HT2:=aM (blk_below HT0.out hb2);have hok:=tree_ok HTB.out;have HOK:=aM hok;have hnl:=hok.nl;have hol:=hok.ol;clear y0 y1 y2 hb2 CT HT0 HB0 hok;have y0:w2.cell? ⟨w.heap.size,0,none⟩=some (.int .i64 I):=(blk_cell HT2.out 0).trans rfl;have y1:w2.cell? ⟨w.heap.size,1,none⟩=some (.slice A1 N.length c1):=(blk_cell HT2.out 1).trans rfl;have y2:w2.cell? ⟨w.heap.size,2,none⟩=some (.slice A2 O.length c2):=(blk_cell HT2.out 2).trans rfl;have CL:=aM (d7_law.calls I A1 c1 N A2 c2 O I I N O (lawF I N O) w2 (Kd.C_below HR1.out HB2.out) HL.out.1 (Kd.C_below HR2.out HB2.out) HL.out.2 (by unfold d7_law.f;rw[if_pos (by unfold treeOk;simp[HOK.out.n,HOK.out.o];omega)]))
  go_wp2_with (go_at_call 61;refine CL.out.mono ?_;rintro e w3 ⟨v3,rfl,HO3,hb3⟩;obtain⟨As,cs,es⟩:=Kd.R_slice HO3;subst es)
  refine wp_label ?_
  dsimp only[Exit.then]
  rename_i hnx
  refine hnx _ _ ?_;clear hnx;obtain⟨S0,hS0⟩:∃S0,w3.heap.size=S0:=⟨_,rfl⟩;rw[hS0];generalize hW4:World.alloc w3 _=W4
  have HB4:Aside0 (Below w.heap.size w W4∧w.heap.size≤W4.heap.size):=⟨by
   have h:=below_step HB2.out hb3;have h2:Below w.heap.size w W4:=by rw[← hW4];exact h.alloc h.size _
   exact⟨h2,h2.size⟩⟩
  have HT4:Aside0 (W4.heap[w.heap.size]? =some (.cells #[.int .i64 I,.slice A1 N.length c1,.slice A2 O.length c2] 25 (0,0))):=⟨by rw[← hW4];exact blk_alloc (blk_below HT2.out hb3) _⟩;have HS4:Aside0 (W4.heap[S0]? =some (.cells #[.int .i64 I,.slice A1 N.length c1,.slice A2 O.length c2,.slice As (lawF I N O).length cs] 93 (0,0))):=⟨by rw[← hW4,←hS0];exact blk_new _ _⟩
  have HA4:Aside0 (Kd.C (Kd.int .i64) W4 As (lawF I N O).length (lawF I N O)∧(lawF I N O).length≤cs):=⟨by
   obtain⟨_,_,e,hl,hC⟩:=Kd.R_reads HO3
   cases e
   exact⟨by rw[← hW4];exact Kd.C_alloc hC _,hl⟩⟩
  have HSM:Aside0 (smallB O (lawF I N O)=true):=⟨law_small HOK.out⟩;clear hW4 hS0 HO3 hb3 HT2 HB2 CL y0 y1 y2;have y1:W4.cell? ⟨w.heap.size,1,none⟩=some (.slice A1 N.length c1):=(blk_cell HT4.out 1).trans rfl;go_wp2;clear y1;refine wpIn_wide.1 (wpIn_loop (n:=6) (fun a' w'=>∃(j:Nat) (ds:List Deferred) (v5:Value) (u6 u7 u20 u21 u22 u23 u24 u25 u26 u27 u28 u29 u30 u31 u32 u33 u34 u35 u36 u37 u38:Value),a'={ tmps:=#[.agg #[.int .i64 I,.slice A1 N.length c1,.slice A2 O.length c2],.pointer (some ⟨w.heap.size,0,none⟩),.slice none 0 0,.int .i64 0,.pointer (some ⟨S0,0,none⟩),v5,u6,u7,.agg #[.int .i64 I,.slice A1 N.length c1,.slice A2 O.length c2],.bool true,.bool false,.agg #[.int .i64 I,.slice A1 N.length c1,.slice A2 O.length c2],.pointer (some ⟨w.heap.size,0,none⟩),.int .i64 I,.agg #[.int .i64 I,.slice A1 N.length c1,.slice A2 O.length c2,.slice As (lawF I N O).length cs],.pointer (some ⟨w.heap.size,1,none⟩),.slice A1 N.length c1,.int .i64 N.length,.int .i64 ((N.length:Int)+1),.int .i64 j,u20,u21,u22,u23,u24,u25,u26,u27,u28,u29,u30,u31,u32,u33,u34,u35,u36,u37,u38],defers:=ds}∧Aside0 (j≤N.length+1)∧Aside0 (OwnI w' W4.heap.size v5 (Dr.cutF I N O (lawF I N O) j))∧Aside0 (Below W4.heap.size W4 w')∧Aside0 (Marks W4.heap.size ds w')) (fun a' _=>N.length+1-(intOf (a'.tmps.getD 19 undef)).toNat) ?start ?round)
  case start=>exact⟨0,[],_,_,_,_,_,_,_,_,_,_,_,_,_,_,_,_,_,_,_,_,_,_,rfl,⟨Nat.zero_le _⟩,⟨Kd.R_nil _ _ _ _ _⟩,⟨Below.refl _ _⟩,⟨Marks.nil _ _⟩⟩
  case round=>
   rintro a' wr ⟨j,ds,v5,u6,u7,u20,u21,u22,u23,u24,u25,u26,u27,u28,u29,u30,u31,u32,u33,u34,u35,u36,u37,u38,rfl,HJ,HO,HW,HM⟩
   dsimp only
   refine wpIn_wide.2 ?_
   by_cases hj:j<N.length+1
   case neg=>
    have c3:decide ((j:Int)<(N.length:Int)+1)=false:=decide_eq_false (by omega);have hje:j=N.length+1:=by have:=HJ.out;omega
    subst hje;clear hj;go_wp2;rw[Exit.noGoto_ret];refine leaves_marks (u:=.returning) (by intro h;cases h) HM.out (fun w' hk=>?_)
    have hno:∀k,v5.ownBlock=some k->¬(W4.heap.size≤k∧wr.heap[k]? =some (.deferred (some []))):=fun k e h=>by
     obtain⟨o,ho,hc⟩:=OwnI.cells HO.out e;rw[ho] at h;have h2:=Option.some.inj h.2;subst h2
     cases hc
    have hbw:=below_step HB4.out.1 HW.out;exact⟨_,by simp[results,Tryz.results52,go_sem],v5,rfl,(HO.out.kb hk hno).weak HB4.out.2,hbw.trans (hk.below hbw.size (fun k hk2 e=>by have:=e.1;have:=HB4.out.2;omega))⟩
   case pos=>
    have c3:decide ((j:Int)<(N.length:Int)+1)=true:=decide_eq_true (by omega);have HJ2:=aM hj;clear hj
    go_upto_region 8 with(fail)
    generalize hW5:World.alloc wr _=W5;have HB5:Aside0 (Below wr.heap.size wr W5∧W5.heap.size=wr.heap.size+1):=⟨by rw[← hW5];exact⟨(Below.refl _ _).alloc (Nat.le_refl _) _,by simp⟩⟩;have HN5:Aside0 (W5.heap[wr.heap.size]? =some (.cells #[.int .i64 (j:Int)] 3 (0,0))):=⟨by rw[← hW5];exact blk_new _ _⟩;clear hW5;have hT5:=blk_below (blk_below HT4.out HW.out) HB5.out.1;have y0:W5.cell? ⟨w.heap.size,0,none⟩=some (.int .i64 I):=(blk_cell hT5 0).trans rfl;have y1:W5.cell? ⟨w.heap.size,1,none⟩=some (.slice A1 N.length c1):=(blk_cell hT5 1).trans rfl;have y2:W5.cell? ⟨w.heap.size,2,none⟩=some (.slice A2 O.length c2):=(blk_cell hT5 2).trans rfl;have z0:W5.cell? ⟨wr.heap.size,0,none⟩=some (.int .i64 (j:Int)):=(blk_cell HN5.out 0).trans rfl;clear hT5
    go_wp2_with (go_at_call 90;refine(up_any _ _ _ _ _ _ _ _ _).mono ?_;rintro e w6 ⟨rfl,rfl⟩)
    clear y0 y1 y2 z0;have hT6:((W5.alloc (.cells #[.int .i64 I,.slice A1 N.length c1,.slice A2 O.length c2] 25)).alloc (.cells #[.int .i64 (j:Int)] 3)).heap[W5.heap.size]? =some (.cells #[.int .i64 I,.slice A1 N.length c1,.slice A2 O.length c2] 25 (0,0)):=blk_alloc (blk_new _ _) _
    have hX6:((W5.alloc (.cells #[.int .i64 I,.slice A1 N.length c1,.slice A2 O.length c2] 25)).alloc (.cells #[.int .i64 (j:Int)] 3)).heap[W5.heap.size+1]? =some (.cells #[.int .i64 (j:Int)] 3 (0,0)):=by
     have h:=blk_new (W5.alloc (.cells #[.int .i64 I,.slice A1 N.length c1,.slice A2 O.length c2] 25)) (.cells #[.int .i64 (j:Int)] 3);rw[World.size_alloc] at h;exact h
    have HB6:Aside0 (Below wr.heap.size wr ((W5.alloc (.cells #[.int .i64 I,.slice A1 N.length c1,.slice A2 O.length c2] 25)).alloc (.cells #[.int .i64 (j:Int)] 3))):=⟨(HB5.out.1.alloc HB5.out.1.size _).alloc (by simp;have:=HB5.out.1.size;omega) _⟩;have HN6:Aside0 (((W5.alloc (.cells #[.int .i64 I,.slice A1 N.length c1,.slice A2 O.length c2] 25)).alloc (.cells #[.int .i64 (j:Int)] 3)).heap[wr.heap.size]? =some (.cells #[.int .i64 (j:Int)] 3 (0,0))):=⟨blk_alloc (blk_alloc HN5.out _) _⟩;have hz6:((W5.alloc (.cells #[.int .i64 I,.slice A1 N.length c1,.slice A2 O.length c2] 25)).alloc (.cells #[.int .i64 (j:Int)] 3)).heap.size=wr.heap.size+3:=by simp[World.size_alloc];exact HB5.out.2
    have hz5:=HB5.out.2;have HZ5:=aM hz5;generalize ((W5.alloc (.cells #[.int .i64 I,.slice A1 N.length c1,.slice A2 O.length c2] 25)).alloc (.cells #[.int .i64 (j:Int)] 3))=X6 at hT6 hX6 HB6 HN6 hz6⊢;have hlw:W4.heap.size≤wr.heap.size:=HW.out.size;have hlw0:w.heap.size≤W4.heap.size:=HB4.out.2;have hj1:=HJ2.out;have HBw6:Aside0 (Below w.heap.size w X6):=⟨below_step (below_step HB4.out.1 HW.out) HB6.out⟩;have hseq:=up_seq 4 W5.heap.size (W5.heap.size+1) I (j:Int) A1 A2 O.length c1 c2 N w X6 HOK.out.n (by omega) (by omega) (by omega) hT6 hX6 HR1.out HBw6.out (by omega)
    refine wpIn_wide.1 (wpIn_rangeU (n:=5) rfl (by omega) (gf:=125) rfl trivial (enters_of Tryz.func125 (by kernel_rfl) rfl) hseq (fun _=>False) (KB.refl _ _) (fun k hk=>by rcases hk with rfl|rfl|hk<;>omega) (fun k e=>.inr (.inl e)) (fun k hk=>hk.elim) (fun _=>rfl)
     (fun pre W=>Below wr.heap.size wr W∧W.heap[wr.heap.size]? =some (.cells #[.int .i64 (j:Int)] 3 (0,0))∧∀a∈pre,(Dr.tightB I N O (lawF I N O) a==(a==(j:Int)))=true)
     (fun c W=>c=Code.exit 1∧Dr.cutB I N O (lawF I N O) (j:Int)=false∧Below wr.heap.size wr W)
     (fun x=>{ tmps:=#[.agg #[.int .i64 I,.slice A1 N.length c1,.slice A2 O.length c2],.pointer (some ⟨w.heap.size,0,none⟩),.slice none 0 0,.int .i64 0,.pointer (some ⟨S0,0,none⟩),v5,.pointer (some ⟨wr.heap.size,0,none⟩),.int .i64 x,.agg #[.int .i64 I,.slice A1 N.length c1,.slice A2 O.length c2],.bool true,.bool false,.agg #[.int .i64 I,.slice A1 N.length c1,.slice A2 O.length c2],.pointer (some ⟨w.heap.size,0,none⟩),.int .i64 I,.agg #[.int .i64 I,.slice A1 N.length c1,.slice A2 O.length c2,.slice As (lawF I N O).length cs],.pointer (some ⟨w.heap.size,1,none⟩),.slice A1 N.length c1,.int .i64 N.length,.int .i64 ((N.length:Int)+1),.int .i64 j,.bool true,.int .i64 (j:Int),.agg #[.int .i64 I,.slice A1 N.length c1,.slice A2 O.length c2],.int .i64 (j:Int),.func (.func 125) #[] #[.pointer (some ⟨W5.heap.size+1,0,none⟩),.pointer (some ⟨W5.heap.size,0,none⟩)],.int .i64 x,u26,u27,u28,u29,u30,u31,u32,u33,u34,u35,u36,u37,u38],defers:=[]}) ?sI ?sX ⟨HB6.out,HN6.out,fun a ha=>by cases ha⟩ ?assign ?body ?done ?stop)
    case sI=>exact fun pre A A' h hs hk=>⟨h.1.trans (hk.below h.1.size (fun k hk2 e=>by rcases e with⟨e,-⟩|e<;>omega)),hk.at h.2.1 (fun e=>by rcases e with⟨e,-⟩|e<;>omega),h.2.2⟩
    case sX=>exact fun c A A' h hs hk=>⟨h.1,h.2.1,h.2.2.trans (hk.below h.2.2.size (fun k hk2 e=>by rcases e with⟨e,-⟩|e<;>omega))⟩
    case assign=>
     intro l x W K hK;clear hz5 hz6
     dsimp only at hK⊢
     gi_wp2
     exact hK
    case body=>
     rintro l pre x W ⟨hb,hn,hp⟩ hsz ⟨rest,hrest⟩ hkb;have hxm:x∈upL N (j:Int):=by rw[hrest];simp
     obtain⟨hx0,hx1⟩:=up_mem HOK.out.n (j:Int) (by omega) (by omega) x hxm;have hbW:=below_step HW.out hb;have e0:W.cell? ⟨S0,0,none⟩=some (.int .i64 I):=(blk_cell (blk_below HS4.out hbW) 0).trans rfl;have e1:W.cell? ⟨S0,1,none⟩=some (.slice A1 N.length c1):=(blk_cell (blk_below HS4.out hbW) 1).trans rfl;have e2:W.cell? ⟨S0,2,none⟩=some (.slice A2 O.length c2):=(blk_cell (blk_below HS4.out hbW) 2).trans rfl;have e3:W.cell? ⟨S0,3,none⟩=some (.slice As (lawF I N O).length cs):=(blk_cell (blk_below HS4.out hbW) 3).trans rfl;have e4:W.cell? ⟨wr.heap.size,0,none⟩=some (.int .i64 (j:Int)):=(blk_cell hn 0).trans rfl;obtain⟨tb,htb⟩:∃tb,Dr.tightB I N O (lawF I N O) x=tb:=⟨_,rfl⟩;obtain⟨bd,hbd⟩:∃bd,(!(tb==(x==(j:Int))))=bd:=⟨_,rfl⟩
     have CT:Aside0 (∀ W',Below W.heap.size W W'->Calls Tryz.prog 91 #[.agg #[.int .i64 I,.slice A1 N.length c1,.slice A2 O.length c2,.slice As (lawF I N O).length cs],.int .i64 x] W' fun e w'=>e=.returned (.bool tb)∧Below W'.heap.size W' w'):=⟨fun W' h'=>by
      have hbw:=below_step (below_step HB4.out.1 hbW) h'
      exact d7_shared_tight.calls I A1 c1 N A2 c2 O As cs (lawF I N O) x tb W' (Kd.C_below HR1.out hbw) HL.out.1 (Kd.C_below HR2.out hbw) HL.out.2 (Kd.C_below HA4.out.1 (below_step hbW h')) HA4.out.2 (by rw[tight_f HOK.out.n HOK.out.o (by omega) (by omega) HSM.out hx0 (by omega),htb])⟩
     have HI:=aM (And.intro hb (And.intro hn hp));have HBD:Aside0 ((!(tb==(x==(j:Int))))=bd∧Dr.tightB I N O (lawF I N O) x=tb∧x∈upL N (j:Int)):=⟨hbd,htb,hxm⟩;clear hz5 hz6 hb hn hp hsz hkb hrest hbW htb hxm hx0 hx1 hseq hT6 hX6 rest
     dsimp only
     gi_wp2
     refine startR_ (m:=7) (S:=fun w'=>w'.cell? ⟨S0,0,none⟩=some (.int .i64 I)∧w'.cell? ⟨S0,1,none⟩=some (.slice A1 N.length c1)∧w'.cell? ⟨S0,2,none⟩=some (.slice A2 O.length c2)∧w'.cell? ⟨S0,3,none⟩=some (.slice As (lawF I N O).length cs)∧w'.cell? ⟨wr.heap.size,0,none⟩=some (.int .i64 (j:Int))) (ds:=[]) (bl 7 0) hmix (by kernel_rfl) rfl rfl ⟨e0,e1,e2,e3,e4⟩ (fun hHeld=>?_);refine take_ (i:=0) (N:=(some 26)) (v:=?_) (a':=?_) (bl 7 1) rfl rfl (by kernel_rfl) (fun _ _ _ h=>h) (Or.inl ⟨by rfl,?_⟩) hHeld ?_ ?_;rotate_left
     ·rintro w' ⟨s0,s1,s2,s3,s4⟩
      go_simp
      with_reducible rfl
     rotate_left
     ·simp only[Act.put,List.setIfInBounds_toArray,List.set_cons_zero,List.set_cons_succ,i64_w,i32_w]
      rfl
     refine pure_ (i:=1) (N:=(some 27)) (v:=?_) (a':=?_) (bl 7 3) rfl rfl (by kernel_rfl) (fun _ _ _ h=>h) (Or.inl ⟨by rfl,?_⟩) ?_ ?_;rotate_left
     ·intro w'
      go_simp
      with_reducible rfl
     rotate_left
     ·simp only[Act.put,List.setIfInBounds_toArray,List.set_cons_zero,List.set_cons_succ,i64_w,i32_w]
      rfl
     refine pure_ (i:=3) (N:=(some 29)) (v:=?_) (a':=?_) (bl 7 11) rfl rfl (by kernel_rfl) (fun _ _ _ h=>h) (Or.inl ⟨by rfl,?_⟩) ?_ ?_;rotate_left
     ·intro w'
      go_simp
      with_reducible rfl
     rotate_left
     ·simp only[Act.put,List.setIfInBounds_toArray,List.set_cons_zero,List.set_cons_succ,i64_w,i32_w]
      rfl
     refine take_ (i:=4) (N:=(some 30)) (v:=?_) (a':=?_) (bl 7 27) rfl rfl (by kernel_rfl) (fun _ _ _ h=>h) (Or.inl ⟨by rfl,?_⟩) hHeld ?_ ?_;rotate_left
     ·rintro w' ⟨s0,s1,s2,s3,s4⟩
      go_simp
      with_reducible rfl
     rotate_left
     ·simp only[Act.put,List.setIfInBounds_toArray,List.set_cons_zero,List.set_cons_succ,i64_w,i32_w]
      rfl
     refine pure_ (i:=5) (N:=(some 31)) (v:=?_) (a':=?_) (bl 7 59) rfl rfl (by kernel_rfl) (fun _ _ _ h=>h) (Or.inl ⟨by rfl,?_⟩) ?_ ?_;rotate_left
     ·intro w'
      go_simp
      with_reducible rfl
     rotate_left
     ·simp only[Act.put,List.setIfInBounds_toArray,List.set_cons_zero,List.set_cons_succ,i64_w,i32_w]
      rfl
     refine one_ (i:=2) (N:=some 28) (bl 7 63) rfl rfl (by kernel_rfl) (by decide) (fun K hK=>?_);refine call_ 91 #[.agg #[.int .i64 I,.slice A1 N.length c1,.slice A2 O.length c2,.slice As (lawF I N O).length cs],.int .i64 x] (by rfl) rfl ?_ ?_
     ·have he:=enters_ Tryz.func91 (by kernel_rfl) rfl #[.agg #[.int .i64 I,.slice A1 N.length c1,.slice A2 O.length c2,.slice As (lawF I N O).length cs],.int .i64 x] W.drew;unfold execOp;simp[resolve,Deferred.ofValue,invoke,Act.eval,he]
     refine(CT.out _ (below_drew1 (Below.refl _ _))).mono ?_;rintro e w7 ⟨rfl,hb7⟩;refine⟨_,rfl,?_⟩;have HB7:Aside0 (Below W.heap.size W w7):=⟨below_step (below_drew1 (Below.refl _ _)) hb7⟩;obtain⟨s0,s1,s2,s3,s4⟩:=hHeld;refine hK.out _ _ ⟨(hb7.cell (World.block_lt_of_cell? _ _ s0)).trans s0,(hb7.cell (World.block_lt_of_cell? _ _ s1)).trans s1,(hb7.cell (World.block_lt_of_cell? _ _ s2)).trans s2,(hb7.cell (World.block_lt_of_cell? _ _ s3)).trans s3,(hb7.cell (World.block_lt_of_cell? _ _ s4)).trans s4⟩ (fun hHeld=>?_);clear hK K;refine nm ?_;refine pure_ (i:=6) (N:=(some 32)) (v:=?_) (a':=?_) (bl 7 127) rfl rfl (by kernel_rfl) (fun _ _ _ h=>h) (Or.inl ⟨by rfl,?_⟩) ?_ ?_;rotate_left
     ·intro w'
      go_simp
      with_reducible rfl
     rotate_left
     ·simp only[Act.put,List.setIfInBounds_toArray,List.set_cons_zero,List.set_cons_succ,i64_w,i32_w]
      rfl
     refine done_ (by kernel_rfl) ?_;simp only[onlyN,Exit.then];(try simp only[hbd]);clear s0 s1 s2 s3 s4 hHeld hb7 e0 e1 e2 e3 e4
     cases bd
     case true=>
      have HC:Aside0 (Dr.cutB I N O (lawF I N O) (j:Int)=false):=⟨by
       rw[Bool.eq_false_iff];intro hc;unfold Dr.cutB at hc;rw[List.all_eq_true] at hc;have h1:=hc x HBD.out.2.2;have h2:=HBD.out.1;rw[HBD.out.2.1] at h1;rw[beq_iff_eq] at h1;rw[h1] at h2
       simp at h2⟩
      gi_wp2
      exact⟨KB.of_below HB7.out,rfl,HC.out,below_step HI.out.1 HB7.out⟩
     case false=>
      have HE:Aside0 (∀ a∈pre++[x],(Dr.tightB I N O (lawF I N O) a==(a==(j:Int)))=true):=⟨fun a ha=>by
       rcases List.mem_append.1 ha with ha|ha
       ·exact HI.out.2.2 a ha
       ·rw[List.mem_singleton] at ha;subst ha;rw[HBD.out.2.1];have h2:=HBD.out.1
        simpa[bne] using h2⟩
      gi_wp2
      exact⟨KB.of_below HB7.out,below_step HI.out.1 HB7.out,blk_below HI.out.2.1 HB7.out,HE.out⟩
    case done=>
     rintro W ⟨hb,hn,hp⟩ hkb hD;have HC:Aside0 (Dr.cutF I N O (lawF I N O) (j+1)=Dr.cutF I N O (lawF I N O) j++[(j:Int)]):=⟨if_pos (List.all_eq_true.2 hp)⟩;have HM2:=aM (HM.out.cons (KB.of_below (M:=fun _=>False) hb) (fun _ h=>False.elim h) (show W4.heap.size≤X6.heap.size by omega) (by omega) hD);have HO2:=aM (HO.out.kb (KB.of_below (M:=fun _=>False) hb) (fun _ _ h=>False.elim h));have HW2:=aM (below_step HW.out hb);have e4:W.cell? ⟨wr.heap.size,0,none⟩=some (.int .i64 (j:Int)):=(blk_cell hn 0).trans rfl;have HLC:Aside0 ((Dr.cutF I N O (lawF I N O) j).length≤j):=⟨cutF_len ..⟩;have hw1:wrap64 ((j:Int)+1)=((j+1:Nat):Int):=by rw[IntWalk.wrap64_in _ (by omega)];omega
     have HJ3:Aside0 (j≤6):=⟨by omega⟩;clear hb hn hp hkb hD hseq hT6 hX6 hz5 hz6
     rename_i hnx
     refine hnx _ _ ?_;clear hnx
     go_wp2_with ((with_reducible refine gate_builtin (b:=.append) (xs:=#[.tmp 33,.tmp 35]) rfl ?_);at_builtin;(refine Kd.R_append (Kd.int .i64) (w0:=W4) W4.heap.size rfl (.tmp 33) (.tmp 35) 30 3 (.int .i64 0) 8 rfl Tryz.underlying30 info3 rfl (by decide) (by omega) v5 (Dr.cutF I N O (lawF I N O) j) (j:Int) [.int .i64 (j:Int)] (fun _=>True) (fun _=>False) rfl rfl ?aP (fun _ hk=>hk.elim) ?aF ?aO ?aB ?aS ?aL ?_);(case aP=>exact rfl);(case aB=>exact HW2.out);(case aF=>exact(fun _ _=>trivial));(case aO=>exact HO2.out);(case aS=>exact HW2.out.size);(case aL=>have h1:=HLC.out;have h2:=HJ3.out;omega);intro vA wA ho hbA hgA hatA)
     (try rw[hw1]);try rw[show (j:Int)+1=((j+1:Nat):Int) by omega]
     exact⟨⟨j+1,_,vA,_,_,_,_,_,_,_,_,_,_,_,_,_,_,_,_,_,_,_,_,_,rfl,⟨by have:=HJ2.out;omega⟩,⟨by rw[HC.out];exact ho⟩,⟨hbA⟩,⟨HM2.out.grown hgA (fun k e hh=>by
      obtain⟨o,h1,h2⟩:=OwnI.cells HO2.out e;rw[h1] at hh;have h3:=Option.some.inj hh;subst h3
      cases h2)⟩⟩,by simp[intOf];have:=HJ2.out;omega⟩
    case stop=>
     rintro c W ⟨rfl,hc,hb⟩ hkb hD;have HC:Aside0 (Dr.cutF I N O (lawF I N O) (j+1)=Dr.cutF I N O (lawF I N O) j):=⟨if_neg (by rw[hc];simp)⟩;have HM2:=aM (HM.out.cons (KB.of_below (M:=fun _=>False) hb) (fun _ h=>False.elim h) (show W4.heap.size≤X6.heap.size by omega) (by omega) hD);have HO2:=aM (HO.out.kb (KB.of_below (M:=fun _=>False) hb) (fun _ _ h=>False.elim h));have HW2:=aM (below_step HW.out hb);have hw1:wrap64 ((j:Int)+1)=((j+1:Nat):Int):=by rw[IntWalk.wrap64_in _ (by omega)];omega
     clear hb hkb hD hseq hT6 hX6 hz5 hz6 hc;refine wpIn_wide.2 ?_;go_wp2;(try rw[hw1]);(try rw[show (j:Int)+1=((j+1:Nat):Int) by omega]);exact⟨⟨j+1,_,v5,_,_,_,_,_,_,_,_,_,_,_,_,_,_,_,_,_,_,_,_,_,rfl,⟨by have:=HJ2.out;omega⟩,⟨by rw[HC.out];exact HO2.out⟩,HW2,HM2⟩,by simp[intOf];have:=HJ2.out;omega⟩
def d7_Cut.f (a0_0:Int) (l0_1:List SN) (l0_2:List SO):Option (List Int×Int):=
 if l0_1.length≤9223372036854775807∧l0_2.length≤9223372036854775807 then some (if treeB a0_0 l0_1 l0_2=true then Dr.cutF a0_0 l0_1 l0_2 (lawF a0_0 l0_1 l0_2) (l0_1.length+1) else [],if treeB a0_0 l0_1 l0_2=true then 0 else 2) else none
theorem d7_Cut.calls (a0_0:Int) (A0_1:Option Addr) (c0_1:Nat) (l0_1:List SN) (A0_2:Option Addr) (c0_2:Nat) (l0_2:List SO) (r1:List Int) (r2:Int) (w:World) (hr0_1:Kd.C k77 w A0_1 l0_1.length l0_1) (hc0_1:l0_1.length≤c0_1) (hr0_2:Kd.C k51 w A0_2 l0_2.length l0_2) (hc0_2:l0_2.length≤c0_2) (h:d7_Cut.f a0_0 l0_1 l0_2=some (r1,r2)):
  Calls Tryz.prog 52 #[.agg #[.int .i64 a0_0,.slice A0_1 l0_1.length c0_1,.slice A0_2 l0_2.length c0_2]] w fun e w'=>∃v0_:Value,e=.returned (.tuple #[v0_,.int .i64 r2])∧Kd.R (Kd.int .i64) 3 w' w.heap.size (fun _=>True) v0_ r1∧Below w.heap.size w w':=by
 unfold d7_Cut.f at h
 split at h
 ·rename_i hp
  have h:=Option.some.inj h;obtain⟨rfl,rfl⟩:=Prod.mk.inj h;exact cut_any hr0_1 hc0_1 hr0_2 hc0_2 hp.1 hp.2
 ·cases h
end Go.Proofs.YtjioobfeikbffabGreatDoor.K
end
section
namespace Go.Proofs.YtjioobfeikbffabGreatDoor.K
open Go.RowKit Go.Proofs.Zw Go.Proofs.Zl Go.Proofs.Zm
attribute [local go_sem] max2_int min2_int max_two min_two max_three min_three max_four min_four
def q7_T.f:Option (Int×(List (S77))×(List (S51))):=some (10,(([(⟨0,6⟩:S77),(⟨1,3⟩:S77)]:List (S77))),(([(⟨2,4,0⟩:S51),(⟨1,5,0⟩:S51),(⟨0,6,1⟩:S51),(⟨2,2,1⟩:S51)]:List (S51))))
set_option maxHeartbeats 8000000 in
set_option maxRecDepth 100000 in
theorem q7_T.calls (r1:Int) (r2:List (S77)) (r3:List (S51)) (w:World) (h:q7_T.f=some (r1,r2,r3)):
  Calls Tryz.prog 48 #[] w fun e w'=>∃v1_ v2_:Value,e=.returned (.agg #[.int .i64 r1,v1_,v2_])∧Kd.R k77 77 w' w.heap.size (fun _=>True) v1_ r2∧Kd.R k51 51 w' w.heap.size (fun _=>True) v2_ r3∧Below w.heap.size w w':=by
 have hu25:=Tryz.underlying25;have hu77:=Tryz.underlying77;have hu51:=Tryz.underlying51;have HB:=aM (Below.refl w.heap.size w);have H:(some (10,(([(⟨0,6⟩:S77),(⟨1,3⟩:S77)]:List (S77))),(([(⟨2,4,0⟩:S51),(⟨1,5,0⟩:S51),(⟨0,6,1⟩:S51),(⟨2,2,1⟩:S51)]:List (S51)))))=some (r1,r2,r3):=h;clear h;obtain⟨y390,hy390⟩:∃y_:List (S77),y_=(([(⟨0,6⟩:S77),(⟨1,3⟩:S77)]:List (S77))):=⟨_,rfl⟩;rw[← hy390] at H;(try replace H:=(Option.bind_some _ _).symm.trans H)
 have Ny390:=aM hy390;clear hy390;obtain⟨y393,hy393⟩:∃y_:List (S51),y_=(([(⟨2,4,0⟩:S51),(⟨1,5,0⟩:S51),(⟨0,6,1⟩:S51),(⟨2,2,1⟩:S51)]:List (S51))):=⟨_,rfl⟩;rw[← hy393] at H;(try replace H:=(Option.bind_some _ _).symm.trans H)
 have Ny393:=aM hy393;clear hy393;simp only[Option.some.injEq,Prod.mk.injEq] at H;obtain⟨rfl,rfl,rfl⟩:=H
 go_enter Tryz.func48,Tryz.ntmps48
 go_wp2_with (first|((with_reducible refine gate_dst (N:=0) rfl ?_);refine bxe 0 #[.int .i64 0,.slice none 0 0,.slice none 0 0] 25 ?_;intro gb389 hg w1 hbox hb;have n0_:=aM (below_step uB hb);have n1_:=aM (hbox);have n2_:=gw hg;have n3_:=gw hg;clear HB;have HB:=n0_;have BK389:=n1_;have GW389:=n2_;have GE389:=n3_;clear n0_ n1_ n2_ n3_;clear hb hbox hg)|((with_reducible refine gate_dst (N:=3) rfl ?_);refine Kd.R_lit k77 _ 77 ?hg (N:=3) ?hd (xs:=([(⟨0,6⟩:S77),(⟨1,3⟩:S77)]:List (S77))) (inner:=[.int .i64 0,.int .i64 6,.int .i64 1,.int .i64 3]) (ok:=fun _=>True) (okp:=fun _=>True) ?hr ?hp (fun _ hk=>hk) trivial (Below.refl _ _) (Nat.le_refl _) (by simp) ?_;(case hd=>rfl);(case hg=>rfl);(case hr=>first|(go_simp;done)|(go_simp;rfl));(case hp=>exact(Reps.c2 (show Kd.M k77 _ _ _ (⟨0,6⟩:S77) [.int .i64 0,.int .i64 6] from(k77_mkM _ _ _ (⟨0,6⟩:S77))) (Reps.c2 (show Kd.M k77 _ _ _ (⟨1,3⟩:S77) [.int .i64 1,.int .i64 3] from(k77_mkM _ _ _ (⟨1,3⟩:S77))) (Reps.none _ _))));intro v391 w2 ho3 hb hg_ hnew_;clear hg_ hnew_;(first|rw[← Ny390.out] at ho3|(simp only[Int.reduceToNat] at ho3;rw[← Ny390.out] at ho3));have HO392:=aM (Kd.R_lower ho3 (below_size uB));replace BK389:=aM (blk_below (uK BK389.out) hb);replace HB:=aM (below_step uB hb);clear hb ho3)|((with_reducible refine gate_dst (N:=8) rfl ?_);refine Kd.R_lit k51 _ 51 ?hg (N:=8) ?hd (xs:=([(⟨2,4,0⟩:S51),(⟨1,5,0⟩:S51),(⟨0,6,1⟩:S51),(⟨2,2,1⟩:S51)]:List (S51))) (inner:=[.int .i64 2,.int .i64 4,.int .i64 0,.int .i64 1,.int .i64 5,.int .i64 0,.int .i64 0,.int .i64 6,.int .i64 1,.int .i64 2,.int .i64 2,.int .i64 1]) (ok:=fun _=>True) (okp:=fun _=>True) ?hr ?hp (fun _ hk=>hk) trivial (Below.refl _ _) (Nat.le_refl _) (by simp) ?_;(case hd=>rfl);(case hg=>rfl);(case hr=>first|(go_simp;done)|(go_simp;rfl));(case hp=>exact(Reps.c3 (show Kd.M k51 _ _ _ (⟨2,4,0⟩:S51) [.int .i64 2,.int .i64 4,.int .i64 0] from(k51_mkM _ _ _ (⟨2,4,0⟩:S51))) (Reps.c3 (show Kd.M k51 _ _ _ (⟨1,5,0⟩:S51) [.int .i64 1,.int .i64 5,.int .i64 0] from(k51_mkM _ _ _ (⟨1,5,0⟩:S51))) (Reps.c3 (show Kd.M k51 _ _ _ (⟨0,6,1⟩:S51) [.int .i64 0,.int .i64 6,.int .i64 1] from(k51_mkM _ _ _ (⟨0,6,1⟩:S51))) (Reps.c3 (show Kd.M k51 _ _ _ (⟨2,2,1⟩:S51) [.int .i64 2,.int .i64 2,.int .i64 1] from(k51_mkM _ _ _ (⟨2,2,1⟩:S51))) (Reps.none _ _))))));intro v394 w4 ho5 hb hg_ hnew_;clear hg_ hnew_;(first|rw[← Ny393.out] at ho5|(simp only[Int.reduceToNat] at ho5;rw[← Ny393.out] at ho5));replace HO392:=aM (Kd.R_below (uR HO392.out) hb);have HO395:=aM (Kd.R_lower ho5 (below_size uB));replace BK389:=aM (blk_below (uK BK389.out) hb);replace HB:=aM (below_step uB hb);clear hb ho5;obtain⟨Ao6,co6,eo6⟩:=Kd.R_slice HO395.out;subst eo6;obtain⟨Ao7,co7,eo7⟩:=Kd.R_slice HO392.out;subst eo7;obtain⟨hcz8_0,hcz8_1,hcz8_2⟩:=cz3 BK389.out;obtain⟨hfz8_0,hfz8_1,hfz8_2⟩:=fz3 BK389.out))
 refine bodyPost_ret (results_cell_row rfl _ _ gb389 25 #[.int .i64 10,.slice Ao7 y390.length co7,.slice Ao6 y393.length co6] (0,0) _ rfl (by refine uK ?_;refine blk_put (cs:=#[.int .i64 10,.slice Ao7 y390.length co7,.slice none 0 0]) ?_ 2 _ rfl;refine uK ?_;refine blk_put (cs:=#[.int .i64 10,.slice none 0 0,.slice none 0 0]) ?_ 1 _ rfl;refine uK ?_;refine blk_put (cs:=#[.int .i64 0,.slice none 0 0,.slice none 0 0]) ?_ 0 _ rfl;refine uK ?_;exact BK389.out) Tryz.underlying25 rfl (by kernel_rfl)) rfl ?_;exact⟨_,_,uE,by refine uR ?_;exact Kd.R_mono (Kd.R_far (p:=⟨gb389,2,none⟩) (Kd.R_far (p:=⟨gb389,1,none⟩) (Kd.R_far (p:=⟨gb389,0,none⟩) (Kd.R_types HO392.out BK389.out (by decide)) (fun _ hk=>hk.2) (.int .i64 10)) (fun _ hk=>hk.2) (.slice Ao7 y390.length co7)) (fun _ hk=>hk.2) (.slice Ao6 y393.length co6)) (fun _ hk=>trivial),by refine uR ?_;exact Kd.R_mono (Kd.R_far (p:=⟨gb389,2,none⟩) (Kd.R_far (p:=⟨gb389,1,none⟩) (Kd.R_far (p:=⟨gb389,0,none⟩) (Kd.R_types HO395.out BK389.out (by decide)) (fun _ hk=>hk.2) (.int .i64 10)) (fun _ hk=>hk.2) (.slice Ao7 y390.length co7)) (fun _ hk=>hk.2) (.slice Ao6 y393.length co6)) (fun _ hk=>trivial),uB⟩
def r7_Wider.f (a0_0:Int) (l0_1:List (S77)) (l0_2:List (S51)) (a1:Int):Option (Int×(List (S77))×(List (S51))):=if([]:List (S77)).length+l0_1.length<8796093022208 then((some (([]:List (S77))++l0_1:List (S77))).bind fun y629=>(if a1=0 then(some (wrap64 (a0_0+1),y629,l0_2)) else(if 0≤(wrap64 (a1-1)) then(if (wrap64 (a1-1))<(y629.length:Int) then(some (a0_0,(y629.set ((wrap64 (a1-1)):Int).toNat (⟨(rd_T77 y629 (wrap64 (a1-1))).f0,wrap64 (((rd_T77 y629 (wrap64 (a1-1))).f1)+1)⟩:S77)),l0_2)) else(none)) else(none)))) else(none)
end Go.Proofs.YtjioobfeikbffabGreatDoor.K
end
section
namespace Go.Proofs.YtjioobfeikbffabGreatDoor.K
open Go.RowKit Go.Proofs.Zw Go.Proofs.Zl Go.Proofs.Zm
def r7_With.f (a0_0:Int) (l0_1:List SN) (l0_2:List SO) (a1:Int):Option (Int×List SN×List SO):=some (a1,l0_1,l0_2)
set_option maxHeartbeats 1000000 in
theorem r7_With.calls (a0_0:Int) (A0_1:Option Addr) (c0_1:Nat) (l0_1:List SN) (A0_2:Option Addr) (c0_2:Nat) (l0_2:List SO) (a1:Int) (r1:Int) (r2:List SN) (r3:List SO) (w:World) (hr0_1:Kd.C k77 w A0_1 l0_1.length l0_1) (hc0_1:l0_1.length≤c0_1) (hr0_2:Kd.C k51 w A0_2 l0_2.length l0_2) (hc0_2:l0_2.length≤c0_2) (h:r7_With.f a0_0 l0_1 l0_2 a1=some (r1,r2,r3)):
    Calls Tryz.prog 92 #[.agg #[.int .i64 a0_0,.slice A0_1 l0_1.length c0_1,.slice A0_2 l0_2.length c0_2],.int .i64 a1] w fun e w'=>e=.returned (.agg #[.int .i64 r1,.slice A0_1 l0_1.length c0_1,.slice A0_2 l0_2.length c0_2])∧Below w.heap.size w w':=by
  obtain⟨rfl,h2⟩:=Prod.mk.inj (Option.some.inj h);have hu1:=Tryz.underlying25;clear h h2 hr0_1 hc0_1 hr0_2 hc0_2
  go_enter Tryz.func92,Tryz.ntmps92
  go_wp2;refine bodyPost_ret (v:=.agg #[.int .i64 a1,.slice A0_1 l0_1.length c0_1,.slice A0_2 l0_2.length c0_2]) ?_ rfl ⟨rfl,(((Below.refl _ _).alloc (Nat.le_refl _) _).alloc (by simp) _).alloc (by simp;omega) _⟩;refine results_cell_row rfl _ _ (w.heap.size+1) 25 #[.int .i64 a1,.slice A0_1 l0_1.length c0_1,.slice A0_2 l0_2.length c0_2] (0,0) _ rfl ?_ hu1 rfl (by kernel_rfl);refine blk_alloc ?_ _;have h:=blk_new (w.alloc (.cells #[.int .i64 a0_0,.slice A0_1 l0_1.length c0_1,.slice A0_2 l0_2.length c0_2] 25)) (.cells #[.int .i64 a1,.slice A0_1 l0_1.length c0_1,.slice A0_2 l0_2.length c0_2] 25);rw[World.size_alloc] at h;exact h
end Go.Proofs.YtjioobfeikbffabGreatDoor.K
end
section
namespace Go.Proofs.YtjioobfeikbffabGreatDoor.K
open Go.RowKit Go.Proofs.Zw Go.Proofs.Zl Go.Proofs.Zm
attribute [local go_sem] max2_int min2_int max_two min_two max_three min_three max_four min_four
def q7_U.f:Option (Int×(List (S77))×(List (S51))):=(q7_T.f).bind fun bt443=>((r7_With.f bt443.1 bt443.2.1 bt443.2.2 20).bind fun bt450=>(some (bt450.1,bt443.2.1,bt443.2.2)))
set_option maxHeartbeats 8000000 in
set_option maxRecDepth 100000 in
theorem q7_U.calls (r1:Int) (r2:List (S77)) (r3:List (S51)) (w:World) (h:q7_U.f=some (r1,r2,r3)):
  Calls Tryz.prog 53 #[] w fun e w'=>∃v1_ v2_:Value,e=.returned (.agg #[.int .i64 r1,v1_,v2_])∧Kd.R k77 77 w' w.heap.size (fun _=>True) v1_ r2∧Kd.R k51 51 w' w.heap.size (fun _=>True) v2_ r3∧Below w.heap.size w w':=by
 have hu25:=Tryz.underlying25;have HB:=aM (Below.refl w.heap.size w);have H:((q7_T.f).bind fun bt443=>((r7_With.f bt443.1 bt443.2.1 bt443.2.2 20).bind fun bt450=>(some (bt450.1,bt443.2.1,bt443.2.2))))=some (r1,r2,r3):=h;clear h;replace H:=Option.bind_eq_some_iff.mp H;obtain⟨⟨t443,t444,t447⟩,A10,H⟩:=H;replace H:((r7_With.f t443 t444 t447 20).bind fun bt450=>(some (bt450.1,t444,t447)))=some (r1,r2,r3):=H;have A1:=aM A10;clear A10;replace H:=Option.bind_eq_some_iff.mp H;obtain⟨⟨t450,t451,t454⟩,A20,H⟩:=H;replace H:(some (t450,t444,t447))=some (r1,r2,r3):=H;have A2:=aM A20;clear A20;simp only[Option.some.injEq,Prod.mk.injEq] at H;obtain⟨rfl,rfl,rfl⟩:=H
 go_enter Tryz.func53,Tryz.ntmps53
 go_wp2_with (first|((with_reducible refine gate_dst (N:=0) rfl ?_);refine bxe 0 #[.int .i64 0,.slice none 0 0,.slice none 0 0] 25 ?_;intro gb442 hg w3 hbox hb;have n0_:=aM (below_step uB hb);have n1_:=aM (hbox);have n2_:=gw hg;have n3_:=gw hg;clear HB;have HB:=n0_;have BK442:=n1_;have GW442:=n2_;have GE442:=n3_;clear n0_ n1_ n2_ n3_;clear hb hbox hg)|((with_reducible refine gate_callee (f:=48) rfl ?_);refine goesL_ (some 1) rfl rfl Tryz.func48 (by kernel_rfl) rfl #[] rfl uM ?_;(with_reducible refine(q7_T.calls t443 t444 t447 _ A1.out).mono ?_);rintro e w4 ⟨v445,v448,rfl,ho0,ho1,hb⟩;refine⟨_,rfl,?_⟩;have HO446:=aM (Kd.R_lower ho0 (below_size uB));have HO449:=aM (Kd.R_lower ho1 (below_size uB));replace BK442:=aM (blk_below (uK BK442.out) hb);replace HB:=aM (below_step uB hb);(try clear hb);(try clear ho0);(try clear ho1);obtain⟨Ao5,co5,eo5⟩:=Kd.R_slice HO446.out;subst eo5;obtain⟨Ao6,co6,eo6⟩:=Kd.R_slice HO449.out;subst eo6)|((with_reducible refine gate_callee (f:=92) rfl ?_);refine goesL_ (some 2) rfl rfl Tryz.func92 (by kernel_rfl) rfl #[.agg #[.int .i64 t443,.slice Ao5 t444.length co5,.slice Ao6 t447.length co6],.int .i64 20] rfl uM ?_;(with_reducible refine(r7_With.calls t443 _ _ t444 _ _ t447 20 t450 t451 t454 _ ?side1 ?side2 ?side3 ?side4 A2.out).mono ?_);(case side1=>repeat(first|exact(Kd.R_reads' HO446.out).2.2|(with_reducible refine Kd.C_alloc ?_ _)|(with_reducible refine Kd.C_drewN ?_ _)|(with_reducible refine Kd.C_drew ?_)));(case side2=>exact(Kd.R_reads' HO446.out).2.1);(case side3=>repeat(first|exact(Kd.R_reads' HO449.out).2.2|(with_reducible refine Kd.C_alloc ?_ _)|(with_reducible refine Kd.C_drewN ?_ _)|(with_reducible refine Kd.C_drew ?_)));(case side4=>exact(Kd.R_reads' HO449.out).2.1);rintro e w7 ⟨rfl,hb⟩;refine⟨_,rfl,?_⟩;replace HO446:=aM (Kd.R_below (uR HO446.out) hb);replace HO449:=aM (Kd.R_below (uR HO449.out) hb);replace BK442:=aM (blk_below (uK BK442.out) hb);replace HB:=aM (below_step uB hb);(try clear hb);obtain⟨hcz8_0,hcz8_1,hcz8_2⟩:=cz3 BK442.out;obtain⟨hfz8_0,hfz8_1,hfz8_2⟩:=fz3 BK442.out))
 refine bodyPost_ret (results_cell_row rfl _ _ gb442 25 #[.int .i64 t450,.slice Ao5 t444.length co5,.slice Ao6 t447.length co6] (0,0) _ rfl (by refine uK ?_;refine blk_put (cs:=#[.int .i64 t450,.slice Ao5 t444.length co5,.slice none 0 0]) ?_ 2 _ rfl;refine uK ?_;refine blk_put (cs:=#[.int .i64 t450,.slice none 0 0,.slice none 0 0]) ?_ 1 _ rfl;refine uK ?_;refine blk_put (cs:=#[.int .i64 0,.slice none 0 0,.slice none 0 0]) ?_ 0 _ rfl;refine uK ?_;exact BK442.out) Tryz.underlying25 rfl (by kernel_rfl)) rfl ?_;exact⟨_,_,uE,by refine uR ?_;exact Kd.R_mono (Kd.R_far (p:=⟨gb442,2,none⟩) (Kd.R_far (p:=⟨gb442,1,none⟩) (Kd.R_far (p:=⟨gb442,0,none⟩) (Kd.R_types HO446.out BK442.out (by decide)) (fun _ hk=>hk.2) (.int .i64 t450)) (fun _ hk=>hk.2) (.slice Ao5 t444.length co5)) (fun _ hk=>hk.2) (.slice Ao6 t447.length co6)) (fun _ hk=>trivial),by refine uR ?_;exact Kd.R_mono (Kd.R_far (p:=⟨gb442,2,none⟩) (Kd.R_far (p:=⟨gb442,1,none⟩) (Kd.R_far (p:=⟨gb442,0,none⟩) (Kd.R_types HO449.out BK442.out (by decide)) (fun _ hk=>hk.2) (.int .i64 t450)) (fun _ hk=>hk.2) (.slice Ao5 t444.length co5)) (fun _ hk=>hk.2) (.slice Ao6 t447.length co6)) (fun _ hk=>trivial),uB⟩
def d7_Shares.f (a0_0:Int) (l0_1:List (S77)) (l0_2:List (S51)):Option (List Int×Int):=(d7_isTree.f a0_0 l0_1 l0_2).bind fun t193=>(if t193=true then((d7_law.f a0_0 l0_1 l0_2 a0_0).bind fun bt194=>(some (bt194.2.2.2,0))) else(some (([]:List Int),2)))
set_option maxHeartbeats 8000000 in
set_option maxRecDepth 100000 in
theorem d7_Shares.calls (a0_0:Int) (A0_1:Option Addr) (c0_1:Nat) (l0_1:List (S77)) (A0_2:Option Addr) (c0_2:Nat) (l0_2:List (S51)) (r1:List Int) (r2:Int) (w:World) (hr0_1:Kd.C k77 w A0_1 l0_1.length l0_1) (hc0_1:l0_1.length≤c0_1) (hr0_2:Kd.C k51 w A0_2 l0_2.length l0_2) (hc0_2:l0_2.length≤c0_2) (h:d7_Shares.f a0_0 l0_1 l0_2=some (r1,r2)):
  Calls Tryz.prog 20 #[.agg #[.int .i64 a0_0,.slice A0_1 l0_1.length c0_1,.slice A0_2 l0_2.length c0_2]] w fun e w'=>∃v0_:Value,e=.returned (.tuple #[v0_,.int .i64 r2])∧Kd.R (Kd.int .i64) 3 w' w.heap.size (fun _=>True) v0_ r1∧Below w.heap.size w w':=by
 have hu25:=Tryz.underlying25;have hfl93_1:=fld93_1;have HR0_1:=aM hr0_1;have HC0_1:=aM hc0_1;clear hr0_1 hc0_1;have HR0_2:=aM hr0_2;have HC0_2:=aM hc0_2;clear hr0_2 hc0_2;have HB:=aM (Below.refl w.heap.size w);have H:((d7_isTree.f a0_0 l0_1 l0_2).bind fun t193=>(if t193=true then((d7_law.f a0_0 l0_1 l0_2 a0_0).bind fun bt194=>(some (bt194.2.2.2,0))) else(some (([]:List Int),2))))=some (r1,r2):=h;clear h;replace H:=Option.bind_eq_some_iff.mp H;obtain⟨t193,A20,H⟩:=H;replace H:(if t193=true then((d7_law.f a0_0 l0_1 l0_2 a0_0).bind fun bt194=>(some (bt194.2.2.2,0))) else(some (([]:List Int),2)))=some (r1,r2):=H;have A2:=aM A20;clear A20
 by_cases c3:t193=true
 ·subst c3;have H1:((d7_law.f a0_0 l0_1 l0_2 a0_0).bind fun bt194=>(some (bt194.2.2.2,0)))=some (r1,r2):=by rw[if_pos rfl] at H;exact H
  clear H;have H:=H1;clear H1;replace H:=Option.bind_eq_some_iff.mp H;obtain⟨⟨t194,t195,t198,t201⟩,A40,H⟩:=H;replace H:(some (t201,0))=some (r1,r2):=H;have A4:=aM A40;clear A40;simp only[Option.some.injEq,Prod.mk.injEq] at H;obtain⟨rfl,rfl⟩:=H
  go_enter Tryz.func20,Tryz.ntmps20
  go_wp2_with (first|((with_reducible refine gate_dst (N:=1) rfl ?_);refine bxe 1 #[.int .i64 a0_0,.slice A0_1 l0_1.length c0_1,.slice A0_2 l0_2.length c0_2] 25 ?_;intro gb192 hg w5 hbox hb;have n0_:=aM (below_step uB hb);have n1_:=aM (hbox);have n2_:=gw hg;have n3_:=gw hg;clear HB;have HB:=n0_;have BK192:=n1_;have GW192:=n2_;have GE192:=n3_;clear n0_ n1_ n2_ n3_;clear hb hbox hg;obtain⟨hcz6_0,hcz6_1,hcz6_2⟩:=cz3 BK192.out;obtain⟨hfz6_0,hfz6_1,hfz6_2⟩:=fz3 BK192.out)|((with_reducible refine gate_callee (f:=59) rfl ?_);refine goesL_ (some 5) rfl rfl Tryz.func59 (by kernel_rfl) rfl #[.agg #[.int .i64 a0_0,.slice A0_1 l0_1.length c0_1,.slice A0_2 l0_2.length c0_2]] rfl uM ?_;(with_reducible refine(d7_isTree.calls a0_0 _ _ l0_1 _ _ l0_2 true _ ?side1 ?side2 ?side3 ?side4 A2.out).mono ?_);(case side1=>exact uY HR0_1 HB);(case side2=>exact HC0_1.out);(case side3=>exact uY HR0_2 HB);(case side4=>exact HC0_2.out);rintro e w7 ⟨rfl,hb⟩;refine⟨_,rfl,?_⟩;replace BK192:=aM (blk_below (uK BK192.out) hb);replace HB:=aM (below_step uB hb);(try clear hb);obtain⟨hcz8_0,hcz8_1,hcz8_2⟩:=cz3 BK192.out;obtain⟨hfz8_0,hfz8_1,hfz8_2⟩:=fz3 BK192.out)|((with_reducible refine gate_callee (f:=61) rfl ?_);refine goesL_ (some 10) rfl rfl Tryz.func61 (by kernel_rfl) rfl #[.agg #[.int .i64 a0_0,.slice A0_1 l0_1.length c0_1,.slice A0_2 l0_2.length c0_2],.int .i64 a0_0] rfl uM ?_;(with_reducible refine(d7_law.calls a0_0 _ _ l0_1 _ _ l0_2 a0_0 t194 t195 t198 t201 _ ?side1 ?side2 ?side3 ?side4 A4.out).mono ?_);(case side1=>exact uY HR0_1 HB);(case side2=>exact HC0_1.out);(case side3=>exact uY HR0_2 HB);(case side4=>exact HC0_2.out);rintro e w9 ⟨v202,rfl,ho0,hb⟩;refine⟨_,rfl,?_⟩;have HO203:=aM (Kd.R_lower ho0 (below_size uB));replace BK192:=aM (blk_below (uK BK192.out) hb);replace HB:=aM (below_step uB hb);(try clear hb);(try clear ho0)))
  go_ret2
  exact⟨_,uE,uR HO203.out,uB⟩
 ·replace c3:=Bool.eq_false_iff.mpr c3;subst c3;have H1:(some (([]:List Int),2))=some (r1,r2):=by rw[if_neg (show ¬(false=true) by decide)] at H;exact H
  clear H;have H:=H1;clear H1;simp only[Option.some.injEq,Prod.mk.injEq] at H;obtain⟨rfl,rfl⟩:=H
  go_enter Tryz.func20,Tryz.ntmps20
  go_wp2_with (first|((with_reducible refine gate_dst (N:=1) rfl ?_);refine bxe 1 #[.int .i64 a0_0,.slice A0_1 l0_1.length c0_1,.slice A0_2 l0_2.length c0_2] 25 ?_;intro gb192 hg w10 hbox hb;have n0_:=aM (below_step uB hb);have n1_:=aM (hbox);have n2_:=gw hg;have n3_:=gw hg;clear HB;have HB:=n0_;have BK192:=n1_;have GW192:=n2_;have GE192:=n3_;clear n0_ n1_ n2_ n3_;clear hb hbox hg;obtain⟨hcz11_0,hcz11_1,hcz11_2⟩:=cz3 BK192.out;obtain⟨hfz11_0,hfz11_1,hfz11_2⟩:=fz3 BK192.out)|((with_reducible refine gate_callee (f:=59) rfl ?_);refine goesL_ (some 5) rfl rfl Tryz.func59 (by kernel_rfl) rfl #[.agg #[.int .i64 a0_0,.slice A0_1 l0_1.length c0_1,.slice A0_2 l0_2.length c0_2]] rfl uM ?_;(with_reducible refine(d7_isTree.calls a0_0 _ _ l0_1 _ _ l0_2 false _ ?side1 ?side2 ?side3 ?side4 A2.out).mono ?_);(case side1=>exact uY HR0_1 HB);(case side2=>exact HC0_1.out);(case side3=>exact uY HR0_2 HB);(case side4=>exact HC0_2.out);rintro e w12 ⟨rfl,hb⟩;refine⟨_,rfl,?_⟩;replace BK192:=aM (blk_below (uK BK192.out) hb);replace HB:=aM (below_step uB hb);(try clear hb)))
  go_ret2
  exact⟨_,uE,uN,uB⟩
end Go.Proofs.YtjioobfeikbffabGreatDoor.K
end
section
namespace Go.Proofs.YtjioobfeikbffabGreatDoor.K
open Go.RowKit Go.Proofs.Zw Go.Proofs.Zl Go.Proofs.Zm
section
variable {P:Program} {ops:Array Oper} {Q:Exit->Act->World->Prop} {md:Region.Mode} {S:World->Prop} {ds:List Nat} {oi:Oper} {v:Value} {fuel:Nat} {l:Array Bool} {a a':Act} {w:World} {rest:List Oper} {o:Oper} {W:World} {Kc:Act->World->Prop}
theorem pz (i N n m:Nat) (h:wpAnyLast P md ops Q S ds fuel (bl n m) a' w) (hi:ops[i]? =some oi:=by exact rfl) (hN:oi.dst=some N:=by exact rfl) (hc:anyB md ops l (bl n m) i=true:=by first|exact any_of HT_.out (by kernel_rfl)|kernel_rfl)
    (hQ:∀c a w,Q (.panic c) (a.put oi.dst undef) w->Q (.panic c) a w:=by exact fun _ _ _ h=>h) (hy:Yields P ops oi undef a:=by exact Or.inr ⟨by rfl,rfl⟩)
    (ha:a.put (some N) undef=a':=by(simp only[Act.put,List.setIfInBounds_toArray,List.set_cons_zero,List.set_cons_succ,i64_w,i32_w];rfl)):wpAnyLast P md ops Q S ds (fuel+1) l a w:=pure_ (bl n m) hi hN hc hQ hy ha h
end
end Go.Proofs.YtjioobfeikbffabGreatDoor.K
end
section
namespace Go.Proofs.YtjioobfeikbffabGreatDoor.K
open Go.RowKit Go.Proofs.Zw Go.Proofs.Zl Go.Proofs.Zm
attribute [local go_sem] max2_int min2_int max_two min_two max_three min_three max_four min_four
mutual
def d7_shared_binds.j0:Nat->Int->Int->Bool->Int->List (S77)->List (S51)->List Int->Option (Bool)
 |0,_,_,_,_,_,_,_=>none
 |k+1,x1,x2,x21,x397000,x397001,x397002,x397003=>if x21=true then(some false) else(if 0≤x1 then(if x1<(x397002.length:Int) then(d7_shared_binds.l0 k x1 x2 ((rd_T51 x397002 x1).f2) x397002 (x397002.length:Int) 0 x397000 x397001 x397002 x397003) else(none)) else(none))
def d7_shared_binds.l0:Nat->Int->Int->Int->List (S51)->Int->Int->Int->List (S77)->List (S51)->List Int->Option (Bool)
 |0,_,_,_,_,_,_,_,_,_,_=>none
 |k+1,x1,x2,x7,x31,x32,x33,x397000,x397001,x397002,x397003=>if x33<x32 then(if 0≤x33 then(if x33<(x31.length:Int) then((d7_below.f x397000 x397001 x397002 x33 x2).bind fun t402=>(if t402=true then(if ((rd_T51 x31 x33).f2)>x7 then(if x33<(x397003.length:Int) then(if (rd x397003 x33)>0 then(some false) else(if ((rd_T51 x31 x33).f2)=x7 then(if 0≤x1 then(if x1<(x397003.length:Int) then(if (rd x397003 x33)>(wrap64 ((rd x397003 x1)+1)) then(some false) else(d7_shared_binds.l0 k x1 x2 x7 x31 x32 (wrap64 (x33+1)) x397000 x397001 x397002 x397003)) else(none)) else(none)) else(d7_shared_binds.l0 k x1 x2 x7 x31 x32 (wrap64 (x33+1)) x397000 x397001 x397002 x397003))) else(none)) else(if ((rd_T51 x31 x33).f2)=x7 then(if x33<(x397003.length:Int) then(if 0≤x1 then(if x1<(x397003.length:Int) then(if (rd x397003 x33)>(wrap64 ((rd x397003 x1)+1)) then(some false) else(d7_shared_binds.l0 k x1 x2 x7 x31 x32 (wrap64 (x33+1)) x397000 x397001 x397002 x397003)) else(none)) else(none)) else(none)) else(d7_shared_binds.l0 k x1 x2 x7 x31 x32 (wrap64 (x33+1)) x397000 x397001 x397002 x397003))) else(d7_shared_binds.l0 k x1 x2 x7 x31 x32 (wrap64 (x33+1)) x397000 x397001 x397002 x397003))) else(none)) else(none)) else(some true)
end
def d7_shared_binds.f (k:Nat) (a0_0:Int) (l0_1:List (S77)) (l0_2:List (S51)) (l0_3:List Int) (a1:Int) (a2:Int):Option (Bool):=(d7_below.f a0_0 l0_1 l0_2 a1 a2).bind fun t397=>(if t397=true then((d7_shared_tight.f a0_0 l0_1 l0_2 l0_3 a2).bind fun t398=>(d7_shared_binds.j0 k a1 a2 (!t398) a0_0 l0_1 l0_2 l0_3)) else(d7_shared_binds.j0 k a1 a2 true a0_0 l0_1 l0_2 l0_3))
def d7_shared_binds.T7:Bool×List (List Nat×List Nat):=(true,[([],[]),([0],[0]),([],[]),([],[]),([1,2,3],[1,2,3]),([4,4],[4]),([5],[5]),([6,5],[5,6]),([5],[5]),([7,8,5],[5,7,8]),([9,5,5],[5,9]),([10],[10]),([11,10],[10,11]),([10],[10]),([12,13,10],[10,12,13]),([14,10],[10,14]),([15,10],[10,15]),([10,16,5],[5,10,16]),([17,10,5],[5,17]),([18],[18]),([19,18],[18,19]),([18],[18]),([20,21,18],[18,20,21]),([22,18,18],[18,22]),([23],[23]),([24,23],[23,24]),([23],[23]),([25,26,23],[23,25,26]),([27,23],[23,27]),([23],[23]),([29,23],[23,29]),([23],[23]),([30,31,23],[23,30,31]),([32,23],[23,32]),([33,23],[23,33]),([28,34,23],[23,28,34]),([23,35,18],[18,23,35]),([18,36,5],[5,18,36]),([5,37],[5,37])])
def d7_shared_binds.B7:List Nat:=[0,1,0,0,15,31,63,127,63,511,1023,2047,4095,2047,16383,32767,65535,131071,262143,524287,1048575,524287,4194303,8388607,16777215,33554431,16777215,134217727,268435455,16777215,553648127,16777215,3774873599,8069840895,16659775487,34359738367,68719476735,137438953471,274877906943]
theorem d7_shared_binds.tab7:rtab .any (opsOf Tryz.f88 7)=d7_shared_binds.T7:=by kernel_rfl
theorem d7_shared_binds.bits7:waitsOk d7_shared_binds.T7.2 d7_shared_binds.B7=true:=by kernel_rfl
set_option maxHeartbeats 8000000 in
set_option maxRecDepth 100000 in
theorem d7_shared_binds.calls (k:Nat) (a0_0:Int) (A0_1:Option Addr) (c0_1:Nat) (l0_1:List (S77)) (A0_2:Option Addr) (c0_2:Nat) (l0_2:List (S51)) (A0_3:Option Addr) (c0_3:Nat) (l0_3:List Int) (a1:Int) (a2:Int) (r:Bool) (w:World) (hr0_1:Kd.C k77 w A0_1 l0_1.length l0_1) (hc0_1:l0_1.length≤c0_1) (hr0_2:Kd.C k51 w A0_2 l0_2.length l0_2) (hc0_2:l0_2.length≤c0_2) (hr0_3:Kd.C (Kd.int .i64) w A0_3 l0_3.length l0_3) (hc0_3:l0_3.length≤c0_3) (h:d7_shared_binds.f k a0_0 l0_1 l0_2 l0_3 a1 a2=some r):
  Calls Tryz.prog 88 #[.agg #[.int .i64 a0_0,.slice A0_1 l0_1.length c0_1,.slice A0_2 l0_2.length c0_2,.slice A0_3 l0_3.length c0_3],.int .i64 a1,.int .i64 a2] w fun e w'=>e=.returned (.bool r)∧Below w.heap.size w w':=by
 have hu93:=Tryz.underlying93;have hu25:=Tryz.underlying25;have hu51:=Tryz.underlying51;have HR0_1:=aM hr0_1;have HC0_1:=aM hc0_1;clear hr0_1 hc0_1;have HR0_2:=aM hr0_2;have HC0_2:=aM hc0_2;clear hr0_2 hc0_2;have HR0_3:=aM hr0_3;have HC0_3:=aM hc0_3;clear hr0_3 hc0_3;have HB:=aM (Below.refl w.heap.size w);have H:((d7_below.f a0_0 l0_1 l0_2 a1 a2).bind fun t397=>(if t397=true then((d7_shared_tight.f a0_0 l0_1 l0_2 l0_3 a2).bind fun t398=>(d7_shared_binds.j0 k a1 a2 (!t398) a0_0 l0_1 l0_2 l0_3)) else(d7_shared_binds.j0 k a1 a2 true a0_0 l0_1 l0_2 l0_3)))=some r:=h;clear h;have HC4:=aM H;clear H
 go_enter Tryz.func88,Tryz.ntmps88
 go_upto_region 1 with(first|((with_reducible refine gate_dst (N:=3) rfl ?_);refine bxe 3 #[.int .i64 a0_0,.slice A0_1 l0_1.length c0_1,.slice A0_2 l0_2.length c0_2,.slice A0_3 l0_3.length c0_3] 93 ?_;intro gb396 hg w5 hbox hb;have n0_:=aM (below_step uB hb);have n1_:=aM (hbox);have n2_:=gw hg;have n3_:=gw hg;clear HB;have HB:=n0_;have BK396:=n1_;have GW396:=n2_;have GE396:=n3_;clear n0_ n1_ n2_ n3_;clear hb hbox hg))
 (try simp only[Act.put,List.setIfInBounds_toArray,List.set_cons_zero,List.set_cons_succ])
 go_cut [21] (fun v21 wc=>∃(kq:Nat) (x21_3:Bool),v21=.bool x21_3∧Aside0 (d7_shared_binds.j0 kq a1 a2 x21_3 a0_0 l0_1 l0_2 l0_3=some r)∧Aside0 (kq≤k)∧Aside0 (wc.heap[gb396]? =some (.cells #[.int .i64 a0_0,(.slice A0_1 l0_1.length c0_1),(.slice A0_2 l0_2.length c0_2),(.slice A0_3 l0_3.length c0_3)] 93 (0,0)))∧Aside0 (Below w.heap.size w wc))
 case first=>
  have H:=HC4.out;clear HC4;replace H:=Option.bind_eq_some_iff.mp H;obtain⟨t397,A60,H⟩:=H;replace H:(if t397=true then((d7_shared_tight.f a0_0 l0_1 l0_2 l0_3 a2).bind fun t398=>(d7_shared_binds.j0 k a1 a2 (!t398) a0_0 l0_1 l0_2 l0_3)) else(d7_shared_binds.j0 k a1 a2 true a0_0 l0_1 l0_2 l0_3))=some r:=H;have A6:=aM A60;clear A60
  by_cases c7:t397=true
  ·subst c7;have H1:((d7_shared_tight.f a0_0 l0_1 l0_2 l0_3 a2).bind fun t398=>(d7_shared_binds.j0 k a1 a2 (!t398) a0_0 l0_1 l0_2 l0_3))=some r:=by rw[if_pos rfl] at H;exact H
   clear H;have H:=H1;clear H1;replace H:=Option.bind_eq_some_iff.mp H;obtain⟨t398,A80,H⟩:=H;replace H:(d7_shared_binds.j0 k a1 a2 (!t398) a0_0 l0_1 l0_2 l0_3)=some r:=H;have A8:=aM A80;clear A80;have H':=aM H;clear H;obtain⟨hcz9_0,hcz9_1,hcz9_2,hcz9_3⟩:=cz4 BK396.out;obtain⟨hfz9_0,hfz9_1,hfz9_2,hfz9_3⟩:=fz4 BK396.out
   go_wp2_with (first|((with_reducible refine gate_callee (f:=124) rfl ?_);refine goesL_ (some 14) rfl rfl Tryz.func124 (by kernel_rfl) rfl #[.agg #[.int .i64 a0_0,.slice A0_1 l0_1.length c0_1,.slice A0_2 l0_2.length c0_2],.int .i64 a1,.int .i64 a2] rfl uM ?_;(with_reducible refine(d7_below.calls a0_0 _ _ l0_1 _ _ l0_2 a1 a2 true _ ?side1 ?side2 ?side3 ?side4 A6.out).mono ?_);(case side1=>exact uY HR0_1 HB);(case side2=>exact HC0_1.out);(case side3=>exact uY HR0_2 HB);(case side4=>exact HC0_2.out);rintro e w10 ⟨rfl,hb⟩;refine⟨_,rfl,?_⟩;replace BK396:=aM (blk_below (uK BK396.out) hb);replace HB:=aM (below_step uB hb);(try clear hb);obtain⟨hcz11_0,hcz11_1,hcz11_2,hcz11_3⟩:=cz4 BK396.out;obtain⟨hfz11_0,hfz11_1,hfz11_2,hfz11_3⟩:=fz4 BK396.out)|(go_at_call 91;(with_reducible refine(d7_shared_tight.calls a0_0 _ _ l0_1 _ _ l0_2 _ _ l0_3 a2 t398 _ ?side1 ?side2 ?side3 ?side4 ?side5 ?side6 A8.out).mono ?_);(case side1=>exact uY HR0_1 HB);(case side2=>exact HC0_1.out);(case side3=>exact uY HR0_2 HB);(case side4=>exact HC0_2.out);(case side5=>exact uY HR0_3 HB);(case side6=>exact HC0_3.out);rintro e w12 ⟨rfl,hb⟩;replace BK396:=aM (blk_below (uK BK396.out) hb);replace HB:=aM (below_step uB hb);(try clear hb)))
   go_meet
   case rel=>exact⟨_,(!t398),u0,H',⟨u1⟩,⟨uK BK396.out⟩,⟨uB⟩⟩
  ·replace c7:=Bool.eq_false_iff.mpr c7;subst c7;have H1:(d7_shared_binds.j0 k a1 a2 true a0_0 l0_1 l0_2 l0_3)=some r:=by rw[if_neg (show ¬(false=true) by decide)] at H;exact H
   clear H;have H:=H1;clear H1;have H':=aM H;clear H;obtain⟨hcz13_0,hcz13_1,hcz13_2,hcz13_3⟩:=cz4 BK396.out;obtain⟨hfz13_0,hfz13_1,hfz13_2,hfz13_3⟩:=fz4 BK396.out
   go_wp2_with (first|((with_reducible refine gate_callee (f:=124) rfl ?_);refine goesL_ (some 14) rfl rfl Tryz.func124 (by kernel_rfl) rfl #[.agg #[.int .i64 a0_0,.slice A0_1 l0_1.length c0_1,.slice A0_2 l0_2.length c0_2],.int .i64 a1,.int .i64 a2] rfl uM ?_;(with_reducible refine(d7_below.calls a0_0 _ _ l0_1 _ _ l0_2 a1 a2 false _ ?side1 ?side2 ?side3 ?side4 A6.out).mono ?_);(case side1=>exact uY HR0_1 HB);(case side2=>exact HC0_1.out);(case side3=>exact uY HR0_2 HB);(case side4=>exact HC0_2.out);rintro e w14 ⟨rfl,hb⟩;refine⟨_,rfl,?_⟩;replace BK396:=aM (blk_below (uK BK396.out) hb);replace HB:=aM (below_step uB hb);(try clear hb)))
   go_meet
   case rel=>exact⟨_,(true),u0,H',⟨u1⟩,⟨uK BK396.out⟩,⟨uB⟩⟩
 case rest=>
  clear HC4;try clear c1;try clear p2;try clear c7;try clear c8;try clear c12;try clear hcz11_0;try clear hcz11_1;try clear hcz11_2;try clear hcz11_3;try clear hcz13_0;try clear hcz13_1;try clear hcz13_2;try clear hcz13_3;try clear hcz9_0;try clear hcz9_1;try clear hcz9_2;try clear hcz9_3;try clear hfz11_0;try clear hfz11_1;try clear hfz11_2;try clear hfz11_3;try clear hfz13_0;try clear hfz13_1;try clear hfz13_2;try clear hfz13_3;try clear hfz9_0;try clear hfz9_1;try clear hfz9_2;try clear hfz9_3
  obtain⟨kq,x21_3,rfl,HA,HJ3,BK396,HB⟩:=hcut
  cases kq with
  |zero=>exact absurd HA.out (by simp[d7_shared_binds.j0])
  |succ kj3=>
   have H:=HA.out;clear HA;simp only[d7_shared_binds.j0] at H
   by_cases c15:x21_3=true
   ·subst c15;have H1:(some false)=some r:=by rw[if_pos rfl] at H;exact H
    clear H;have H:=H1;clear H1;obtain rfl:=Option.some.inj H;go_wp2;go_ret;exact⟨uE,uB⟩
   ·replace c15:=Bool.eq_false_iff.mpr c15;subst c15;have H1:(if 0≤a1 then(if a1<(l0_2.length:Int) then(d7_shared_binds.l0 kj3 a1 a2 ((rd_T51 l0_2 a1).f2) l0_2 (l0_2.length:Int) 0 a0_0 l0_1 l0_2 l0_3) else(none)) else(none))=some r:=by rw[if_neg (show ¬(false=true) by decide)] at H;exact H
    clear H;have H:=H1;clear H1;obtain⟨c16,H⟩:=ifs H;replace c16:=decide_eq_true c16;obtain⟨c17,H⟩:=ifs H;replace c17:=decide_eq_true c17;have H':=aM H;clear H;obtain⟨hcz18_0,hcz18_1,hcz18_2,hcz18_3⟩:=cz4 BK396.out;obtain⟨hfz18_0,hfz18_1,hfz18_2,hfz18_3⟩:=fz4 BK396.out;have p399:0≤(a1:Int):=uD;have q399:a1<(l0_2.length:Int):=uD;obtain⟨ad399,e399,hx399_0,hx399_1,hx399_2⟩:=at_T51 HR0_2.out a1 p399 q399
    cases e399
    replace hx399_0:=hcell HB.out hx399_0;replace hx399_1:=hcell HB.out hx399_1;replace hx399_2:=hcell HB.out hx399_2;replace p399:=eq_true p399;replace q399:=eq_true q399;go_wp2
    go_loopg [33] kj3 (fun kq v33 w'=>∃(x33_2:Int),v33=.int .i64 x33_2∧Aside0 (d7_shared_binds.l0 kq a1 a2 ((rd_T51 l0_2 a1).f2) l0_2 (l0_2.length:Int) x33_2 a0_0 l0_1 l0_2 l0_3=some r)∧Aside0 (kq≤kj3)∧Aside0 (w'.heap[gb396]? =some (.cells #[.int .i64 a0_0,(.slice A0_1 l0_1.length c0_1),(.slice (some ad399) l0_2.length c0_2),(.slice A0_3 l0_3.length c0_3)] 93 (0,0)))∧Aside0 (Below w.heap.size w w'))
    case atStart=>exact⟨(0),u0,H',⟨Nat.le_refl _⟩,⟨uK BK396.out⟩,⟨uB⟩⟩
    case round=>
     clear H';obtain⟨x33_2,rfl,HA,HK2,BK396,HB⟩:=hrel
     cases gk with
     |zero=>exact absurd HA.out (by simp[d7_shared_binds.l0])
     |succ k2=>
      have H:=HA.out;clear HA;simp only[d7_shared_binds.l0] at H
      by_cases c19:x33_2<(l0_2.length:Int)
      ·rw[if_pos c19] at H;replace c19:=decide_eq_true c19;obtain⟨c20,H⟩:=ifs H;replace c20:=decide_eq_true c20;obtain⟨c21,H⟩:=ifs H;replace c21:=decide_eq_true c21;replace H:=Option.bind_eq_some_iff.mp H;obtain⟨t402,A220,H⟩:=H;replace H:(if t402=true then(if ((rd_T51 l0_2 x33_2).f2)>((rd_T51 l0_2 a1).f2) then(if x33_2<(l0_3.length:Int) then(if (rd l0_3 x33_2)>0 then(some false) else(if ((rd_T51 l0_2 x33_2).f2)=((rd_T51 l0_2 a1).f2) then(if 0≤a1 then(if a1<(l0_3.length:Int) then(if (rd l0_3 x33_2)>(wrap64 ((rd l0_3 a1)+1)) then(some false) else(d7_shared_binds.l0 k2 a1 a2 ((rd_T51 l0_2 a1).f2) l0_2 (l0_2.length:Int) (wrap64 (x33_2+1)) a0_0 l0_1 l0_2 l0_3)) else(none)) else(none)) else(d7_shared_binds.l0 k2 a1 a2 ((rd_T51 l0_2 a1).f2) l0_2 (l0_2.length:Int) (wrap64 (x33_2+1)) a0_0 l0_1 l0_2 l0_3))) else(none)) else(if ((rd_T51 l0_2 x33_2).f2)=((rd_T51 l0_2 a1).f2) then(if x33_2<(l0_3.length:Int) then(if 0≤a1 then(if a1<(l0_3.length:Int) then(if (rd l0_3 x33_2)>(wrap64 ((rd l0_3 a1)+1)) then(some false) else(d7_shared_binds.l0 k2 a1 a2 ((rd_T51 l0_2 a1).f2) l0_2 (l0_2.length:Int) (wrap64 (x33_2+1)) a0_0 l0_1 l0_2 l0_3)) else(none)) else(none)) else(none)) else(d7_shared_binds.l0 k2 a1 a2 ((rd_T51 l0_2 a1).f2) l0_2 (l0_2.length:Int) (wrap64 (x33_2+1)) a0_0 l0_1 l0_2 l0_3))) else(d7_shared_binds.l0 k2 a1 a2 ((rd_T51 l0_2 a1).f2) l0_2 (l0_2.length:Int) (wrap64 (x33_2+1)) a0_0 l0_1 l0_2 l0_3))=some r:=H;have A22:=aM A220;clear A220
       by_cases c23:t402=true
       ·subst c23;have H1:(if ((rd_T51 l0_2 x33_2).f2)>((rd_T51 l0_2 a1).f2) then(if x33_2<(l0_3.length:Int) then(if (rd l0_3 x33_2)>0 then(some false) else(if ((rd_T51 l0_2 x33_2).f2)=((rd_T51 l0_2 a1).f2) then(if 0≤a1 then(if a1<(l0_3.length:Int) then(if (rd l0_3 x33_2)>(wrap64 ((rd l0_3 a1)+1)) then(some false) else(d7_shared_binds.l0 k2 a1 a2 ((rd_T51 l0_2 a1).f2) l0_2 (l0_2.length:Int) (wrap64 (x33_2+1)) a0_0 l0_1 l0_2 l0_3)) else(none)) else(none)) else(d7_shared_binds.l0 k2 a1 a2 ((rd_T51 l0_2 a1).f2) l0_2 (l0_2.length:Int) (wrap64 (x33_2+1)) a0_0 l0_1 l0_2 l0_3))) else(none)) else(if ((rd_T51 l0_2 x33_2).f2)=((rd_T51 l0_2 a1).f2) then(if x33_2<(l0_3.length:Int) then(if 0≤a1 then(if a1<(l0_3.length:Int) then(if (rd l0_3 x33_2)>(wrap64 ((rd l0_3 a1)+1)) then(some false) else(d7_shared_binds.l0 k2 a1 a2 ((rd_T51 l0_2 a1).f2) l0_2 (l0_2.length:Int) (wrap64 (x33_2+1)) a0_0 l0_1 l0_2 l0_3)) else(none)) else(none)) else(none)) else(d7_shared_binds.l0 k2 a1 a2 ((rd_T51 l0_2 a1).f2) l0_2 (l0_2.length:Int) (wrap64 (x33_2+1)) a0_0 l0_1 l0_2 l0_3)))=some r:=by rw[if_pos rfl] at H;exact H
        clear H;have H:=H1;clear H1
        by_cases c24:((rd_T51 l0_2 x33_2).f2)>((rd_T51 l0_2 a1).f2)
        ·rw[if_pos c24] at H;replace c24:=decide_eq_true c24;obtain⟨c25,H⟩:=ifs H;replace c25:=decide_eq_true c25
         by_cases c26:(rd l0_3 x33_2)>0
         ·rw[if_pos c26] at H;replace c26:=decide_eq_true c26;obtain rfl:=Option.some.inj H;have p400:0≤(x33_2:Int):=uD;have q400:x33_2<(l0_2.length:Int):=uD;obtain⟨ad400,e400,hx400_0,hx400_1,hx400_2⟩:=at_T51 HR0_2.out x33_2 p400 q400;obtain rfl:ad399=ad400:=(by injection e400);replace hx400_0:=hcell HB.out hx400_0;replace hx400_1:=hcell HB.out hx400_1;replace hx400_2:=hcell HB.out hx400_2;replace p400:=eq_true p400;replace q400:=eq_true q400;(try go_wp2_with (first|((with_reducible refine gate_dst (N:=9) rfl ?_);refine bxe 9 #[.int .i64 0,.int .i64 0,.int .i64 0] 51 ?_;intro gb401 hg w27 hbox hb;have n0_:=aM (blk_below (uK BK396.out) hb);have n1_:=aM (below_step uB hb);have n2_:=aM (hbox);have n3_:=gw hg;have n4_:=gw hg;have n5_:=nb BK396 hg;have n6_:=nc BK396 hg;clear BK396;clear HB;have BK396:=n0_;have HB:=n1_;have BK401:=n2_;have GW401:=n3_;have GE401:=n4_;have NB396_401:=n5_;have NB401_396:=n6_;clear n0_ n1_ n2_ n3_ n4_ n5_ n6_;clear hb hbox hg;have hnb28:=NB401_396.out;have hnc28:=NB396_401.out;obtain⟨hcz29_0,hcz29_1,hcz29_2⟩:=cz3 BK401.out;obtain⟨hfz29_0,hfz29_1,hfz29_2⟩:=fz3 BK401.out)));have n0_:Aside0 ((((w27.setCell ⟨gb401,0,none⟩ (.int .i64 ((rd_T51 l0_2 x33_2).f0))).setCell ⟨gb401,1,none⟩ (.int .i64 ((rd_T51 l0_2 x33_2).f1))).setCell ⟨gb401,2,none⟩ (.int .i64 ((rd_T51 l0_2 x33_2).f2))).heap[gb396]? =some (.cells #[.int .i64 a0_0,.slice A0_1 l0_1.length c0_1,.slice (some ad399) l0_2.length c0_2,.slice A0_3 l0_3.length c0_3] 93 (0,0))):=⟨by refine uK ?_;refine blk_far ?_ NB396_401.out _;refine uK ?_;refine blk_far ?_ NB396_401.out _;refine uK ?_;refine blk_far ?_ NB396_401.out _;refine uK ?_;exact BK396.out⟩;have n1_:Aside0 ((((w27.setCell ⟨gb401,0,none⟩ (.int .i64 ((rd_T51 l0_2 x33_2).f0))).setCell ⟨gb401,1,none⟩ (.int .i64 ((rd_T51 l0_2 x33_2).f1))).setCell ⟨gb401,2,none⟩ (.int .i64 ((rd_T51 l0_2 x33_2).f2))).heap[gb401]? =some (.cells #[.int .i64 ((rd_T51 l0_2 x33_2).f0),.int .i64 ((rd_T51 l0_2 x33_2).f1),.int .i64 ((rd_T51 l0_2 x33_2).f2)] 51 (0,0))):=⟨by refine uK ?_;refine blk_put (cs:=#[.int .i64 ((rd_T51 l0_2 x33_2).f0),.int .i64 ((rd_T51 l0_2 x33_2).f1),.int .i64 0]) ?_ 2 _ rfl;refine uK ?_;refine blk_put (cs:=#[.int .i64 ((rd_T51 l0_2 x33_2).f0),.int .i64 0,.int .i64 0]) ?_ 1 _ rfl;refine uK ?_;refine blk_put (cs:=#[.int .i64 0,.int .i64 0,.int .i64 0]) ?_ 0 _ rfl;refine uK ?_;exact BK401.out⟩;have n2_:Aside0 (Below w.heap.size w (((w27.setCell ⟨gb401,0,none⟩ (.int .i64 ((rd_T51 l0_2 x33_2).f0))).setCell ⟨gb401,1,none⟩ (.int .i64 ((rd_T51 l0_2 x33_2).f1))).setCell ⟨gb401,2,none⟩ (.int .i64 ((rd_T51 l0_2 x33_2).f2)))):=⟨uB⟩;(try clear BK396);(try clear BK401);(try clear HB);generalize (((w27.setCell ⟨gb401,0,none⟩ (.int .i64 ((rd_T51 l0_2 x33_2).f0))).setCell ⟨gb401,1,none⟩ (.int .i64 ((rd_T51 l0_2 x33_2).f1))).setCell ⟨gb401,2,none⟩ (.int .i64 ((rd_T51 l0_2 x33_2).f2)))=w30 at n0_ n1_ n2_⊢;have BK396:=n0_;have BK401:=n1_;have HB:=n2_;clear n0_ n1_ n2_;replace BK396:=aM (blk_drew BK396.out);replace BK401:=aM (blk_drew BK401.out);replace HB:=aM (below_drew1 HB.out);have p403:0≤(x33_2:Int):=uD;have q403:x33_2<(l0_3.length:Int):=uD;obtain⟨ad403,e403,hx403_0⟩:=Kd.at_int HR0_3.out x33_2 p403 q403;have hw403_0:=hx403_0
          cases e403
          replace hx403_0:=hcell HB.out hx403_0;replace p403:=eq_true p403;replace q403:=eq_true q403;refine start_ (n:=39) (S:=fun w'=>w'.cell? ⟨gb396,0,none⟩=some (.int .i64 a0_0)∧w'.cell? ⟨gb396,1,none⟩=some (.slice A0_1 l0_1.length c0_1)∧w'.cell? ⟨gb396,2,none⟩=some (.slice (some ad399) l0_2.length c0_2)∧w'.cell? ⟨gb396,3,none⟩=some (.slice (some ad403) l0_3.length c0_3)∧w'.cell? ⟨gb401,0,none⟩=some (.int .i64 ((rd_T51 l0_2 x33_2).f0))∧w'.cell? ⟨gb401,1,none⟩=some (.int .i64 ((rd_T51 l0_2 x33_2).f1))∧w'.cell? ⟨gb401,2,none⟩=some (.int .i64 ((rd_T51 l0_2 x33_2).f2))∧w'.cell? (ad403.add (x33_2).toNat)=some (.int .i64 (rd l0_3 x33_2))) (ds:=[]) (bl 39 0) (by kernel_rfl) rfl rfl ⟨(blk_cell BK396.out 0).trans rfl,(blk_cell BK396.out 1).trans rfl,(blk_cell BK396.out 2).trans rfl,(blk_cell BK396.out 3).trans rfl,(blk_cell BK401.out 0).trans rfl,(blk_cell BK401.out 1).trans rfl,(blk_cell BK401.out 2).trans rfl,(hcell HB.out hw403_0)⟩ (fun hHeld=>?_);refine with_tabW d7_shared_binds.tab7 d7_shared_binds.bits7 (fun HT_ HW_=>?_)
          generalize w30.drew=w31 at BK396 BK401 HB hx403_0 hHeld⊢;refine pu 0 38 39 1 ?_;refine pu 2 40 39 5 ?_;refine pu 3 41 39 13 ?_;refine tk8 1 39 39 15 hHeld ?_;refine one_ (i:=4) (N:=some 42) (bl 39 31) rfl rfl (one_of HT_.out (by kernel_rfl)) (by decide) (fun K hK=>?_);refine goes_ Tryz.func124 (by kernel_rfl) rfl #[.agg #[.int .i64 a0_0,.slice A0_1 l0_1.length c0_1,.slice (some ad399) l0_2.length c0_2],.int .i64 x33_2,.int .i64 a2] (by rfl) rfl rfl uM ?_;(with_reducible refine(d7_below.calls a0_0 _ _ l0_1 _ _ l0_2 x33_2 a2 true _ ?side1 ?side2 ?side3 ?side4 A22.out).mono ?_);(case side1=>exact uY HR0_1 HB);(case side2=>exact HC0_1.out);(case side3=>exact uY HR0_2 HB);(case side4=>exact HC0_2.out);rintro e w32 ⟨rfl,hb⟩;refine⟨_,rfl,?_⟩;replace BK396:=aM (blk_below (uK BK396.out) hb);replace BK401:=aM (blk_below (uK BK401.out) hb);replace HB:=aM (below_step uB hb);(try clear hb);refine hK.out _ _ ⟨(blk_cell BK396.out 0).trans rfl,(blk_cell BK396.out 1).trans rfl,(blk_cell BK396.out 2).trans rfl,(blk_cell BK396.out 3).trans rfl,(blk_cell BK401.out 0).trans rfl,(blk_cell BK401.out 1).trans rfl,(blk_cell BK401.out 2).trans rfl,(hcell HB.out hw403_0)⟩ (fun hHeld=>?_);clear hK K;refine nm ?_;refine pu 5 43 39 63 ?_;refine pu 6 44 39 127 ?_;refine pu 8 46 39 383 ?_;refine tk8 7 45 39 511 hHeld ?_;refine pu 9 47 39 1023 ?_;refine pu 10 48 39 2047 ?_;refine pu 11 49 39 4095 ?_;refine pu 13 51 39 12287 ?_;refine tk8 12 50 39 16383 hHeld ?_;refine pu 14 52 39 32767 ?_;refine tk8 15 53 39 65535 hHeld ?_;refine pu 16 54 39 131071 ?_;refine pu 17 55 39 262143 ?_;refine pu 18 56 39 524287 ?_;refine pz 19 57 39 1048575 ?_;refine pz 20 58 39 2097151 ?_;refine pz 21 59 39 4194303 ?_;refine pz 22 60 39 8388607 ?_;refine pz 23 61 39 16777215 ?_;refine pz 24 62 39 33554431 ?_;refine pz 25 63 39 67108863 ?_;refine pz 26 64 39 134217727 ?_;refine pz 27 65 39 268435455 ?_;refine pz 28 66 39 536870911 ?_;refine pz 29 67 39 1073741823 ?_;refine pz 30 68 39 2147483647 ?_;refine pz 31 69 39 4294967295 ?_;refine pz 32 70 39 8589934591 ?_;refine pz 33 71 39 17179869183 ?_;refine pz 34 72 39 34359738367 ?_;refine pz 35 73 39 68719476735 ?_;refine pz 36 74 39 137438953471 ?_;refine pu 37 75 39 274877906943 ?_;refine pu 38 76 39 549755813887 ?_;refine done_ (done_of HT_.out (by kernel_rfl)) ?_;(try go_wp2);go_ret;exact⟨uE,uB⟩
         ·rw[if_neg c26] at H;replace c26:=decide_eq_false c26
          by_cases c33:((rd_T51 l0_2 x33_2).f2)=((rd_T51 l0_2 a1).f2)
          ·rw[if_pos c33] at H;have c33b0:(((rd_T51 l0_2 x33_2).f2)==((rd_T51 l0_2 a1).f2))=true:=beq_iff_eq.mpr c33;have c33b1:(((rd_T51 l0_2 x33_2).f2) !=((rd_T51 l0_2 a1).f2))=false:=bne_eq_false_iff_eq.mpr c33;clear c33;obtain⟨c34,H⟩:=ifs H;replace c34:=decide_eq_true c34;obtain⟨c35,H⟩:=ifs H;replace c35:=decide_eq_true c35
           by_cases c36:(rd l0_3 x33_2)>(wrap64 ((rd l0_3 a1)+1))
           ·rw[if_pos c36] at H;replace c36:=decide_eq_true c36;obtain rfl:=Option.some.inj H;have p400:0≤(x33_2:Int):=uD;have q400:x33_2<(l0_2.length:Int):=uD;obtain⟨ad400,e400,hx400_0,hx400_1,hx400_2⟩:=at_T51 HR0_2.out x33_2 p400 q400;obtain rfl:ad399=ad400:=(by injection e400);replace hx400_0:=hcell HB.out hx400_0;replace hx400_1:=hcell HB.out hx400_1;replace hx400_2:=hcell HB.out hx400_2;replace p400:=eq_true p400;replace q400:=eq_true q400;(try go_wp2_with (first|((with_reducible refine gate_dst (N:=9) rfl ?_);refine bxe 9 #[.int .i64 0,.int .i64 0,.int .i64 0] 51 ?_;intro gb401 hg w37 hbox hb;have n0_:=aM (blk_below (uK BK396.out) hb);have n1_:=aM (below_step uB hb);have n2_:=aM (hbox);have n3_:=gw hg;have n4_:=gw hg;have n5_:=nb BK396 hg;have n6_:=nc BK396 hg;clear BK396;clear HB;have BK396:=n0_;have HB:=n1_;have BK401:=n2_;have GW401:=n3_;have GE401:=n4_;have NB396_401:=n5_;have NB401_396:=n6_;clear n0_ n1_ n2_ n3_ n4_ n5_ n6_;clear hb hbox hg;have hnb38:=NB401_396.out;have hnc38:=NB396_401.out;obtain⟨hcz39_0,hcz39_1,hcz39_2⟩:=cz3 BK401.out;obtain⟨hfz39_0,hfz39_1,hfz39_2⟩:=fz3 BK401.out)));have n0_:Aside0 ((((w37.setCell ⟨gb401,0,none⟩ (.int .i64 ((rd_T51 l0_2 x33_2).f0))).setCell ⟨gb401,1,none⟩ (.int .i64 ((rd_T51 l0_2 x33_2).f1))).setCell ⟨gb401,2,none⟩ (.int .i64 ((rd_T51 l0_2 x33_2).f2))).heap[gb396]? =some (.cells #[.int .i64 a0_0,.slice A0_1 l0_1.length c0_1,.slice (some ad399) l0_2.length c0_2,.slice A0_3 l0_3.length c0_3] 93 (0,0))):=⟨by refine uK ?_;refine blk_far ?_ NB396_401.out _;refine uK ?_;refine blk_far ?_ NB396_401.out _;refine uK ?_;refine blk_far ?_ NB396_401.out _;refine uK ?_;exact BK396.out⟩;have n1_:Aside0 ((((w37.setCell ⟨gb401,0,none⟩ (.int .i64 ((rd_T51 l0_2 x33_2).f0))).setCell ⟨gb401,1,none⟩ (.int .i64 ((rd_T51 l0_2 x33_2).f1))).setCell ⟨gb401,2,none⟩ (.int .i64 ((rd_T51 l0_2 x33_2).f2))).heap[gb401]? =some (.cells #[.int .i64 ((rd_T51 l0_2 x33_2).f0),.int .i64 ((rd_T51 l0_2 x33_2).f1),.int .i64 ((rd_T51 l0_2 x33_2).f2)] 51 (0,0))):=⟨by refine uK ?_;refine blk_put (cs:=#[.int .i64 ((rd_T51 l0_2 x33_2).f0),.int .i64 ((rd_T51 l0_2 x33_2).f1),.int .i64 0]) ?_ 2 _ rfl;refine uK ?_;refine blk_put (cs:=#[.int .i64 ((rd_T51 l0_2 x33_2).f0),.int .i64 0,.int .i64 0]) ?_ 1 _ rfl;refine uK ?_;refine blk_put (cs:=#[.int .i64 0,.int .i64 0,.int .i64 0]) ?_ 0 _ rfl;refine uK ?_;exact BK401.out⟩;have n2_:Aside0 (Below w.heap.size w (((w37.setCell ⟨gb401,0,none⟩ (.int .i64 ((rd_T51 l0_2 x33_2).f0))).setCell ⟨gb401,1,none⟩ (.int .i64 ((rd_T51 l0_2 x33_2).f1))).setCell ⟨gb401,2,none⟩ (.int .i64 ((rd_T51 l0_2 x33_2).f2)))):=⟨uB⟩;(try clear BK396);(try clear BK401);(try clear HB);generalize (((w37.setCell ⟨gb401,0,none⟩ (.int .i64 ((rd_T51 l0_2 x33_2).f0))).setCell ⟨gb401,1,none⟩ (.int .i64 ((rd_T51 l0_2 x33_2).f1))).setCell ⟨gb401,2,none⟩ (.int .i64 ((rd_T51 l0_2 x33_2).f2)))=w40 at n0_ n1_ n2_⊢;have BK396:=n0_;have BK401:=n1_;have HB:=n2_;clear n0_ n1_ n2_;replace BK396:=aM (blk_drew BK396.out);replace BK401:=aM (blk_drew BK401.out);replace HB:=aM (below_drew1 HB.out);have p403:0≤(x33_2:Int):=uD;have q403:x33_2<(l0_3.length:Int):=uD;obtain⟨ad403,e403,hx403_0⟩:=Kd.at_int HR0_3.out x33_2 p403 q403;have hw403_0:=hx403_0
            cases e403
            replace hx403_0:=hcell HB.out hx403_0;replace p403:=eq_true p403;replace q403:=eq_true q403;have p404:0≤(x33_2:Int):=uD;have q404:x33_2<(l0_3.length:Int):=uD;obtain⟨ad404,e404,hx404_0⟩:=Kd.at_int HR0_3.out x33_2 p404 q404;have hw404_0:=hx404_0;obtain rfl:ad403=ad404:=(by injection e404);replace hx404_0:=hcell HB.out hx404_0;replace p404:=eq_true p404;replace q404:=eq_true q404;have p405:0≤(a1:Int):=uD;have q405:a1<(l0_3.length:Int):=uD;obtain⟨ad405,e405,hx405_0⟩:=Kd.at_int HR0_3.out a1 p405 q405;have hw405_0:=hx405_0;obtain rfl:ad403=ad405:=(by injection e405);replace hx405_0:=hcell HB.out hx405_0;replace p405:=eq_true p405;replace q405:=eq_true q405;refine start_ (n:=39) (S:=fun w'=>w'.cell? ⟨gb396,0,none⟩=some (.int .i64 a0_0)∧w'.cell? ⟨gb396,1,none⟩=some (.slice A0_1 l0_1.length c0_1)∧w'.cell? ⟨gb396,2,none⟩=some (.slice (some ad399) l0_2.length c0_2)∧w'.cell? ⟨gb396,3,none⟩=some (.slice (some ad403) l0_3.length c0_3)∧w'.cell? ⟨gb401,0,none⟩=some (.int .i64 ((rd_T51 l0_2 x33_2).f0))∧w'.cell? ⟨gb401,1,none⟩=some (.int .i64 ((rd_T51 l0_2 x33_2).f1))∧w'.cell? ⟨gb401,2,none⟩=some (.int .i64 ((rd_T51 l0_2 x33_2).f2))∧w'.cell? (ad403.add (x33_2).toNat)=some (.int .i64 (rd l0_3 x33_2))∧w'.cell? (ad403.add (x33_2).toNat)=some (.int .i64 (rd l0_3 x33_2))∧w'.cell? (ad403.add (a1).toNat)=some (.int .i64 (rd l0_3 a1))) (ds:=[]) (bl 39 0) (by kernel_rfl) rfl rfl ⟨(blk_cell BK396.out 0).trans rfl,(blk_cell BK396.out 1).trans rfl,(blk_cell BK396.out 2).trans rfl,(blk_cell BK396.out 3).trans rfl,(blk_cell BK401.out 0).trans rfl,(blk_cell BK401.out 1).trans rfl,(blk_cell BK401.out 2).trans rfl,(hcell HB.out hw403_0),(hcell HB.out hw404_0),(hcell HB.out hw405_0)⟩ (fun hHeld=>?_);refine with_tabW d7_shared_binds.tab7 d7_shared_binds.bits7 (fun HT_ HW_=>?_)
            generalize w40.drew=w41 at BK396 BK401 HB hx403_0 hx404_0 hx405_0 hHeld⊢;refine pu 0 38 39 1 ?_;refine pu 2 40 39 5 ?_;refine pu 3 41 39 13 ?_;refine tk10 1 39 39 15 hHeld ?_;refine one_ (i:=4) (N:=some 42) (bl 39 31) rfl rfl (one_of HT_.out (by kernel_rfl)) (by decide) (fun K hK=>?_);refine goes_ Tryz.func124 (by kernel_rfl) rfl #[.agg #[.int .i64 a0_0,.slice A0_1 l0_1.length c0_1,.slice (some ad399) l0_2.length c0_2],.int .i64 x33_2,.int .i64 a2] (by rfl) rfl rfl uM ?_;(with_reducible refine(d7_below.calls a0_0 _ _ l0_1 _ _ l0_2 x33_2 a2 true _ ?side1 ?side2 ?side3 ?side4 A22.out).mono ?_);(case side1=>exact uY HR0_1 HB);(case side2=>exact HC0_1.out);(case side3=>exact uY HR0_2 HB);(case side4=>exact HC0_2.out);rintro e w42 ⟨rfl,hb⟩;refine⟨_,rfl,?_⟩;replace BK396:=aM (blk_below (uK BK396.out) hb);replace BK401:=aM (blk_below (uK BK401.out) hb);replace HB:=aM (below_step uB hb);(try clear hb);refine hK.out _ _ ⟨(blk_cell BK396.out 0).trans rfl,(blk_cell BK396.out 1).trans rfl,(blk_cell BK396.out 2).trans rfl,(blk_cell BK396.out 3).trans rfl,(blk_cell BK401.out 0).trans rfl,(blk_cell BK401.out 1).trans rfl,(blk_cell BK401.out 2).trans rfl,(hcell HB.out hw403_0),(hcell HB.out hw404_0),(hcell HB.out hw405_0)⟩ (fun hHeld=>?_);clear hK K;refine nm ?_;refine pu 5 43 39 63 ?_;refine pu 6 44 39 127 ?_;refine pu 8 46 39 383 ?_;refine tk10 7 45 39 511 hHeld ?_;refine pu 9 47 39 1023 ?_;refine pu 10 48 39 2047 ?_;refine pu 11 49 39 4095 ?_;refine pu 13 51 39 12287 ?_;refine tk10 12 50 39 16383 hHeld ?_;refine pu 14 52 39 32767 ?_;refine tk10 15 53 39 65535 hHeld ?_;refine pu 16 54 39 131071 ?_;refine pu 17 55 39 262143 ?_;refine pu 18 56 39 524287 ?_;refine pu 19 57 39 1048575 ?_;refine pu 21 59 39 3145727 ?_;refine tk10 20 58 39 4194303 hHeld ?_;refine pu 22 60 39 8388607 ?_;refine pu 23 61 39 16777215 ?_;refine pu 24 62 39 33554431 ?_;refine pu 26 64 39 100663295 ?_;refine pu 29 67 39 637534207 ?_;refine pu 31 69 39 2785017855 ?_;refine tk10 25 63 39 2818572287 hHeld ?_;refine pu 27 65 39 2952790015 ?_;refine tk10 28 66 39 3221225471 hHeld ?_;refine tk10 30 68 39 4294967295 hHeld ?_;refine pu 32 70 39 8589934591 ?_;refine tk10 33 71 39 17179869183 hHeld ?_;refine pu 34 72 39 34359738367 ?_;refine pu 35 73 39 68719476735 ?_;refine pu 36 74 39 137438953471 ?_;refine pu 37 75 39 274877906943 ?_;refine pu 38 76 39 549755813887 ?_;refine done_ (done_of HT_.out (by kernel_rfl)) ?_;(try go_wp2);go_ret;exact⟨uE,uB⟩
           ·rw[if_neg c36] at H;replace c36:=decide_eq_false c36;have H':=aM H;clear H;have p400:0≤(x33_2:Int):=uD;have q400:x33_2<(l0_2.length:Int):=uD;obtain⟨ad400,e400,hx400_0,hx400_1,hx400_2⟩:=at_T51 HR0_2.out x33_2 p400 q400;obtain rfl:ad399=ad400:=(by injection e400);replace hx400_0:=hcell HB.out hx400_0;replace hx400_1:=hcell HB.out hx400_1;replace hx400_2:=hcell HB.out hx400_2;replace p400:=eq_true p400;replace q400:=eq_true q400;(try go_wp2_with (first|((with_reducible refine gate_dst (N:=9) rfl ?_);refine bxe 9 #[.int .i64 0,.int .i64 0,.int .i64 0] 51 ?_;intro gb401 hg w43 hbox hb;have n0_:=aM (blk_below (uK BK396.out) hb);have n1_:=aM (below_step uB hb);have n2_:=aM (hbox);have n3_:=gw hg;have n4_:=gw hg;have n5_:=nb BK396 hg;have n6_:=nc BK396 hg;clear BK396;clear HB;have BK396:=n0_;have HB:=n1_;have BK401:=n2_;have GW401:=n3_;have GE401:=n4_;have NB396_401:=n5_;have NB401_396:=n6_;clear n0_ n1_ n2_ n3_ n4_ n5_ n6_;clear hb hbox hg;have hnb44:=NB401_396.out;have hnc44:=NB396_401.out;obtain⟨hcz45_0,hcz45_1,hcz45_2⟩:=cz3 BK401.out;obtain⟨hfz45_0,hfz45_1,hfz45_2⟩:=fz3 BK401.out)));have n0_:Aside0 ((((w43.setCell ⟨gb401,0,none⟩ (.int .i64 ((rd_T51 l0_2 x33_2).f0))).setCell ⟨gb401,1,none⟩ (.int .i64 ((rd_T51 l0_2 x33_2).f1))).setCell ⟨gb401,2,none⟩ (.int .i64 ((rd_T51 l0_2 x33_2).f2))).heap[gb396]? =some (.cells #[.int .i64 a0_0,.slice A0_1 l0_1.length c0_1,.slice (some ad399) l0_2.length c0_2,.slice A0_3 l0_3.length c0_3] 93 (0,0))):=⟨by refine uK ?_;refine blk_far ?_ NB396_401.out _;refine uK ?_;refine blk_far ?_ NB396_401.out _;refine uK ?_;refine blk_far ?_ NB396_401.out _;refine uK ?_;exact BK396.out⟩;have n1_:Aside0 ((((w43.setCell ⟨gb401,0,none⟩ (.int .i64 ((rd_T51 l0_2 x33_2).f0))).setCell ⟨gb401,1,none⟩ (.int .i64 ((rd_T51 l0_2 x33_2).f1))).setCell ⟨gb401,2,none⟩ (.int .i64 ((rd_T51 l0_2 x33_2).f2))).heap[gb401]? =some (.cells #[.int .i64 ((rd_T51 l0_2 x33_2).f0),.int .i64 ((rd_T51 l0_2 x33_2).f1),.int .i64 ((rd_T51 l0_2 x33_2).f2)] 51 (0,0))):=⟨by refine uK ?_;refine blk_put (cs:=#[.int .i64 ((rd_T51 l0_2 x33_2).f0),.int .i64 ((rd_T51 l0_2 x33_2).f1),.int .i64 0]) ?_ 2 _ rfl;refine uK ?_;refine blk_put (cs:=#[.int .i64 ((rd_T51 l0_2 x33_2).f0),.int .i64 0,.int .i64 0]) ?_ 1 _ rfl;refine uK ?_;refine blk_put (cs:=#[.int .i64 0,.int .i64 0,.int .i64 0]) ?_ 0 _ rfl;refine uK ?_;exact BK401.out⟩;have n2_:Aside0 (Below w.heap.size w (((w43.setCell ⟨gb401,0,none⟩ (.int .i64 ((rd_T51 l0_2 x33_2).f0))).setCell ⟨gb401,1,none⟩ (.int .i64 ((rd_T51 l0_2 x33_2).f1))).setCell ⟨gb401,2,none⟩ (.int .i64 ((rd_T51 l0_2 x33_2).f2)))):=⟨uB⟩;(try clear BK396);(try clear BK401);(try clear HB);generalize (((w43.setCell ⟨gb401,0,none⟩ (.int .i64 ((rd_T51 l0_2 x33_2).f0))).setCell ⟨gb401,1,none⟩ (.int .i64 ((rd_T51 l0_2 x33_2).f1))).setCell ⟨gb401,2,none⟩ (.int .i64 ((rd_T51 l0_2 x33_2).f2)))=w46 at n0_ n1_ n2_⊢;have BK396:=n0_;have BK401:=n1_;have HB:=n2_;clear n0_ n1_ n2_;replace BK396:=aM (blk_drew BK396.out);replace BK401:=aM (blk_drew BK401.out);replace HB:=aM (below_drew1 HB.out);have p403:0≤(x33_2:Int):=uD;have q403:x33_2<(l0_3.length:Int):=uD;obtain⟨ad403,e403,hx403_0⟩:=Kd.at_int HR0_3.out x33_2 p403 q403;have hw403_0:=hx403_0
            cases e403
            replace hx403_0:=hcell HB.out hx403_0;replace p403:=eq_true p403;replace q403:=eq_true q403;have p404:0≤(x33_2:Int):=uD;have q404:x33_2<(l0_3.length:Int):=uD;obtain⟨ad404,e404,hx404_0⟩:=Kd.at_int HR0_3.out x33_2 p404 q404;have hw404_0:=hx404_0;obtain rfl:ad403=ad404:=(by injection e404);replace hx404_0:=hcell HB.out hx404_0;replace p404:=eq_true p404;replace q404:=eq_true q404;have p405:0≤(a1:Int):=uD;have q405:a1<(l0_3.length:Int):=uD;obtain⟨ad405,e405,hx405_0⟩:=Kd.at_int HR0_3.out a1 p405 q405;have hw405_0:=hx405_0;obtain rfl:ad403=ad405:=(by injection e405);replace hx405_0:=hcell HB.out hx405_0;replace p405:=eq_true p405;replace q405:=eq_true q405;refine start_ (n:=39) (S:=fun w'=>w'.cell? ⟨gb396,0,none⟩=some (.int .i64 a0_0)∧w'.cell? ⟨gb396,1,none⟩=some (.slice A0_1 l0_1.length c0_1)∧w'.cell? ⟨gb396,2,none⟩=some (.slice (some ad399) l0_2.length c0_2)∧w'.cell? ⟨gb396,3,none⟩=some (.slice (some ad403) l0_3.length c0_3)∧w'.cell? ⟨gb401,0,none⟩=some (.int .i64 ((rd_T51 l0_2 x33_2).f0))∧w'.cell? ⟨gb401,1,none⟩=some (.int .i64 ((rd_T51 l0_2 x33_2).f1))∧w'.cell? ⟨gb401,2,none⟩=some (.int .i64 ((rd_T51 l0_2 x33_2).f2))∧w'.cell? (ad403.add (x33_2).toNat)=some (.int .i64 (rd l0_3 x33_2))∧w'.cell? (ad403.add (x33_2).toNat)=some (.int .i64 (rd l0_3 x33_2))∧w'.cell? (ad403.add (a1).toNat)=some (.int .i64 (rd l0_3 a1))) (ds:=[]) (bl 39 0) (by kernel_rfl) rfl rfl ⟨(blk_cell BK396.out 0).trans rfl,(blk_cell BK396.out 1).trans rfl,(blk_cell BK396.out 2).trans rfl,(blk_cell BK396.out 3).trans rfl,(blk_cell BK401.out 0).trans rfl,(blk_cell BK401.out 1).trans rfl,(blk_cell BK401.out 2).trans rfl,(hcell HB.out hw403_0),(hcell HB.out hw404_0),(hcell HB.out hw405_0)⟩ (fun hHeld=>?_);refine with_tabW d7_shared_binds.tab7 d7_shared_binds.bits7 (fun HT_ HW_=>?_)
            generalize w46.drew=w47 at BK396 BK401 HB hx403_0 hx404_0 hx405_0 hHeld⊢;refine pu 0 38 39 1 ?_;refine pu 2 40 39 5 ?_;refine pu 3 41 39 13 ?_;refine tk10 1 39 39 15 hHeld ?_;refine one_ (i:=4) (N:=some 42) (bl 39 31) rfl rfl (one_of HT_.out (by kernel_rfl)) (by decide) (fun K hK=>?_);refine goes_ Tryz.func124 (by kernel_rfl) rfl #[.agg #[.int .i64 a0_0,.slice A0_1 l0_1.length c0_1,.slice (some ad399) l0_2.length c0_2],.int .i64 x33_2,.int .i64 a2] (by rfl) rfl rfl uM ?_;(with_reducible refine(d7_below.calls a0_0 _ _ l0_1 _ _ l0_2 x33_2 a2 true _ ?side1 ?side2 ?side3 ?side4 A22.out).mono ?_);(case side1=>exact uY HR0_1 HB);(case side2=>exact HC0_1.out);(case side3=>exact uY HR0_2 HB);(case side4=>exact HC0_2.out);rintro e w48 ⟨rfl,hb⟩;refine⟨_,rfl,?_⟩;replace BK396:=aM (blk_below (uK BK396.out) hb);replace BK401:=aM (blk_below (uK BK401.out) hb);replace HB:=aM (below_step uB hb);(try clear hb);refine hK.out _ _ ⟨(blk_cell BK396.out 0).trans rfl,(blk_cell BK396.out 1).trans rfl,(blk_cell BK396.out 2).trans rfl,(blk_cell BK396.out 3).trans rfl,(blk_cell BK401.out 0).trans rfl,(blk_cell BK401.out 1).trans rfl,(blk_cell BK401.out 2).trans rfl,(hcell HB.out hw403_0),(hcell HB.out hw404_0),(hcell HB.out hw405_0)⟩ (fun hHeld=>?_);clear hK K;refine nm ?_;refine pu 5 43 39 63 ?_;refine pu 6 44 39 127 ?_;refine pu 8 46 39 383 ?_;refine tk10 7 45 39 511 hHeld ?_;refine pu 9 47 39 1023 ?_;refine pu 10 48 39 2047 ?_;refine pu 11 49 39 4095 ?_;refine pu 13 51 39 12287 ?_;refine tk10 12 50 39 16383 hHeld ?_;refine pu 14 52 39 32767 ?_;refine tk10 15 53 39 65535 hHeld ?_;refine pu 16 54 39 131071 ?_;refine pu 17 55 39 262143 ?_;refine pu 18 56 39 524287 ?_;refine pu 19 57 39 1048575 ?_;refine pu 21 59 39 3145727 ?_;refine tk10 20 58 39 4194303 hHeld ?_;refine pu 22 60 39 8388607 ?_;refine pu 23 61 39 16777215 ?_;refine pu 24 62 39 33554431 ?_;refine pu 26 64 39 100663295 ?_;refine pu 29 67 39 637534207 ?_;refine pu 31 69 39 2785017855 ?_;refine tk10 25 63 39 2818572287 hHeld ?_;refine pu 27 65 39 2952790015 ?_;refine tk10 28 66 39 3221225471 hHeld ?_;refine tk10 30 68 39 4294967295 hHeld ?_;refine pu 32 70 39 8589934591 ?_;refine tk10 33 71 39 17179869183 hHeld ?_;refine pu 34 72 39 34359738367 ?_;refine pu 35 73 39 68719476735 ?_;refine pu 36 74 39 137438953471 ?_;refine pu 37 75 39 274877906943 ?_;refine pu 38 76 39 549755813887 ?_;refine done_ (done_of HT_.out (by kernel_rfl)) ?_;try go_wp2
            go_roundg k2
            case measure=>have:=HJ3.out;have:=HK2.out;omega
            case rel=>exact⟨(wrap64 (x33_2+1)),u0,H',⟨by have:=HJ3.out;have:=HK2.out;omega⟩,⟨uK BK396.out⟩,⟨uB⟩⟩
          ·rw[if_neg c33] at H;have c33b0:(((rd_T51 l0_2 x33_2).f2)==((rd_T51 l0_2 a1).f2))=false:=beq_eq_false_iff_ne.mpr c33;have c33b1:(((rd_T51 l0_2 x33_2).f2) !=((rd_T51 l0_2 a1).f2))=true:=bne_iff_ne.mpr c33;have H':=aM H;clear H;have p400:0≤(x33_2:Int):=uD;have q400:x33_2<(l0_2.length:Int):=uD;obtain⟨ad400,e400,hx400_0,hx400_1,hx400_2⟩:=at_T51 HR0_2.out x33_2 p400 q400;obtain rfl:ad399=ad400:=(by injection e400);replace hx400_0:=hcell HB.out hx400_0;replace hx400_1:=hcell HB.out hx400_1;replace hx400_2:=hcell HB.out hx400_2;replace p400:=eq_true p400;replace q400:=eq_true q400;(try go_wp2_with (first|((with_reducible refine gate_dst (N:=9) rfl ?_);refine bxe 9 #[.int .i64 0,.int .i64 0,.int .i64 0] 51 ?_;intro gb401 hg w49 hbox hb;have n0_:=aM (blk_below (uK BK396.out) hb);have n1_:=aM (below_step uB hb);have n2_:=aM (hbox);have n3_:=gw hg;have n4_:=gw hg;have n5_:=nb BK396 hg;have n6_:=nc BK396 hg;clear BK396;clear HB;have BK396:=n0_;have HB:=n1_;have BK401:=n2_;have GW401:=n3_;have GE401:=n4_;have NB396_401:=n5_;have NB401_396:=n6_;clear n0_ n1_ n2_ n3_ n4_ n5_ n6_;clear hb hbox hg;have hnb50:=NB401_396.out;have hnc50:=NB396_401.out;obtain⟨hcz51_0,hcz51_1,hcz51_2⟩:=cz3 BK401.out;obtain⟨hfz51_0,hfz51_1,hfz51_2⟩:=fz3 BK401.out)));have n0_:Aside0 ((((w49.setCell ⟨gb401,0,none⟩ (.int .i64 ((rd_T51 l0_2 x33_2).f0))).setCell ⟨gb401,1,none⟩ (.int .i64 ((rd_T51 l0_2 x33_2).f1))).setCell ⟨gb401,2,none⟩ (.int .i64 ((rd_T51 l0_2 x33_2).f2))).heap[gb396]? =some (.cells #[.int .i64 a0_0,.slice A0_1 l0_1.length c0_1,.slice (some ad399) l0_2.length c0_2,.slice A0_3 l0_3.length c0_3] 93 (0,0))):=⟨by refine uK ?_;refine blk_far ?_ NB396_401.out _;refine uK ?_;refine blk_far ?_ NB396_401.out _;refine uK ?_;refine blk_far ?_ NB396_401.out _;refine uK ?_;exact BK396.out⟩;have n1_:Aside0 ((((w49.setCell ⟨gb401,0,none⟩ (.int .i64 ((rd_T51 l0_2 x33_2).f0))).setCell ⟨gb401,1,none⟩ (.int .i64 ((rd_T51 l0_2 x33_2).f1))).setCell ⟨gb401,2,none⟩ (.int .i64 ((rd_T51 l0_2 x33_2).f2))).heap[gb401]? =some (.cells #[.int .i64 ((rd_T51 l0_2 x33_2).f0),.int .i64 ((rd_T51 l0_2 x33_2).f1),.int .i64 ((rd_T51 l0_2 x33_2).f2)] 51 (0,0))):=⟨by refine uK ?_;refine blk_put (cs:=#[.int .i64 ((rd_T51 l0_2 x33_2).f0),.int .i64 ((rd_T51 l0_2 x33_2).f1),.int .i64 0]) ?_ 2 _ rfl;refine uK ?_;refine blk_put (cs:=#[.int .i64 ((rd_T51 l0_2 x33_2).f0),.int .i64 0,.int .i64 0]) ?_ 1 _ rfl;refine uK ?_;refine blk_put (cs:=#[.int .i64 0,.int .i64 0,.int .i64 0]) ?_ 0 _ rfl;refine uK ?_;exact BK401.out⟩;have n2_:Aside0 (Below w.heap.size w (((w49.setCell ⟨gb401,0,none⟩ (.int .i64 ((rd_T51 l0_2 x33_2).f0))).setCell ⟨gb401,1,none⟩ (.int .i64 ((rd_T51 l0_2 x33_2).f1))).setCell ⟨gb401,2,none⟩ (.int .i64 ((rd_T51 l0_2 x33_2).f2)))):=⟨uB⟩;(try clear BK396);(try clear BK401);(try clear HB);generalize (((w49.setCell ⟨gb401,0,none⟩ (.int .i64 ((rd_T51 l0_2 x33_2).f0))).setCell ⟨gb401,1,none⟩ (.int .i64 ((rd_T51 l0_2 x33_2).f1))).setCell ⟨gb401,2,none⟩ (.int .i64 ((rd_T51 l0_2 x33_2).f2)))=w52 at n0_ n1_ n2_⊢;have BK396:=n0_;have BK401:=n1_;have HB:=n2_;clear n0_ n1_ n2_;replace BK396:=aM (blk_drew BK396.out);replace BK401:=aM (blk_drew BK401.out);replace HB:=aM (below_drew1 HB.out);have p403:0≤(x33_2:Int):=uD;have q403:x33_2<(l0_3.length:Int):=uD;obtain⟨ad403,e403,hx403_0⟩:=Kd.at_int HR0_3.out x33_2 p403 q403;have hw403_0:=hx403_0
           cases e403
           replace hx403_0:=hcell HB.out hx403_0;replace p403:=eq_true p403;replace q403:=eq_true q403;refine start_ (n:=39) (S:=fun w'=>w'.cell? ⟨gb396,0,none⟩=some (.int .i64 a0_0)∧w'.cell? ⟨gb396,1,none⟩=some (.slice A0_1 l0_1.length c0_1)∧w'.cell? ⟨gb396,2,none⟩=some (.slice (some ad399) l0_2.length c0_2)∧w'.cell? ⟨gb396,3,none⟩=some (.slice (some ad403) l0_3.length c0_3)∧w'.cell? ⟨gb401,0,none⟩=some (.int .i64 ((rd_T51 l0_2 x33_2).f0))∧w'.cell? ⟨gb401,1,none⟩=some (.int .i64 ((rd_T51 l0_2 x33_2).f1))∧w'.cell? ⟨gb401,2,none⟩=some (.int .i64 ((rd_T51 l0_2 x33_2).f2))∧w'.cell? (ad403.add (x33_2).toNat)=some (.int .i64 (rd l0_3 x33_2))) (ds:=[]) (bl 39 0) (by kernel_rfl) rfl rfl ⟨(blk_cell BK396.out 0).trans rfl,(blk_cell BK396.out 1).trans rfl,(blk_cell BK396.out 2).trans rfl,(blk_cell BK396.out 3).trans rfl,(blk_cell BK401.out 0).trans rfl,(blk_cell BK401.out 1).trans rfl,(blk_cell BK401.out 2).trans rfl,(hcell HB.out hw403_0)⟩ (fun hHeld=>?_);refine with_tabW d7_shared_binds.tab7 d7_shared_binds.bits7 (fun HT_ HW_=>?_)
           generalize w52.drew=w53 at BK396 BK401 HB hx403_0 hHeld⊢;refine pu 0 38 39 1 ?_;refine pu 2 40 39 5 ?_;refine pu 3 41 39 13 ?_;refine tk8 1 39 39 15 hHeld ?_;refine one_ (i:=4) (N:=some 42) (bl 39 31) rfl rfl (one_of HT_.out (by kernel_rfl)) (by decide) (fun K hK=>?_);refine goes_ Tryz.func124 (by kernel_rfl) rfl #[.agg #[.int .i64 a0_0,.slice A0_1 l0_1.length c0_1,.slice (some ad399) l0_2.length c0_2],.int .i64 x33_2,.int .i64 a2] (by rfl) rfl rfl uM ?_;(with_reducible refine(d7_below.calls a0_0 _ _ l0_1 _ _ l0_2 x33_2 a2 true _ ?side1 ?side2 ?side3 ?side4 A22.out).mono ?_);(case side1=>exact uY HR0_1 HB);(case side2=>exact HC0_1.out);(case side3=>exact uY HR0_2 HB);(case side4=>exact HC0_2.out);rintro e w54 ⟨rfl,hb⟩;refine⟨_,rfl,?_⟩;replace BK396:=aM (blk_below (uK BK396.out) hb);replace BK401:=aM (blk_below (uK BK401.out) hb);replace HB:=aM (below_step uB hb);(try clear hb);refine hK.out _ _ ⟨(blk_cell BK396.out 0).trans rfl,(blk_cell BK396.out 1).trans rfl,(blk_cell BK396.out 2).trans rfl,(blk_cell BK396.out 3).trans rfl,(blk_cell BK401.out 0).trans rfl,(blk_cell BK401.out 1).trans rfl,(blk_cell BK401.out 2).trans rfl,(hcell HB.out hw403_0)⟩ (fun hHeld=>?_);clear hK K;refine nm ?_;refine pu 5 43 39 63 ?_;refine pu 6 44 39 127 ?_;refine pu 8 46 39 383 ?_;refine tk8 7 45 39 511 hHeld ?_;refine pu 9 47 39 1023 ?_;refine pu 10 48 39 2047 ?_;refine pu 11 49 39 4095 ?_;refine pu 13 51 39 12287 ?_;refine tk8 12 50 39 16383 hHeld ?_;refine pu 14 52 39 32767 ?_;refine tk8 15 53 39 65535 hHeld ?_;refine pu 16 54 39 131071 ?_;refine pu 17 55 39 262143 ?_;refine pu 18 56 39 524287 ?_;refine pu 19 57 39 1048575 ?_;refine pu 21 59 39 3145727 ?_;refine tk8 20 58 39 4194303 hHeld ?_;refine pu 22 60 39 8388607 ?_;refine pu 23 61 39 16777215 ?_;refine pz 24 62 39 33554431 ?_;refine pz 25 63 39 67108863 ?_;refine pz 26 64 39 134217727 ?_;refine pz 27 65 39 268435455 ?_;refine pz 28 66 39 536870911 ?_;refine pz 29 67 39 1073741823 ?_;refine pz 30 68 39 2147483647 ?_;refine pz 31 69 39 4294967295 ?_;refine pz 32 70 39 8589934591 ?_;refine pz 33 71 39 17179869183 ?_;refine pz 34 72 39 34359738367 ?_;refine pz 35 73 39 68719476735 ?_;refine pu 36 74 39 137438953471 ?_;refine pu 37 75 39 274877906943 ?_;refine pu 38 76 39 549755813887 ?_;refine done_ (done_of HT_.out (by kernel_rfl)) ?_;try go_wp2
           go_roundg k2
           case measure=>have:=HJ3.out;have:=HK2.out;omega
           case rel=>exact⟨(wrap64 (x33_2+1)),u0,H',⟨by have:=HJ3.out;have:=HK2.out;omega⟩,⟨uK BK396.out⟩,⟨uB⟩⟩
        ·rw[if_neg c24] at H;replace c24:=decide_eq_false c24
         by_cases c55:((rd_T51 l0_2 x33_2).f2)=((rd_T51 l0_2 a1).f2)
         ·rw[if_pos c55] at H;have c55b0:(((rd_T51 l0_2 x33_2).f2)==((rd_T51 l0_2 a1).f2))=true:=beq_iff_eq.mpr c55;have c55b1:(((rd_T51 l0_2 x33_2).f2) !=((rd_T51 l0_2 a1).f2))=false:=bne_eq_false_iff_eq.mpr c55;clear c55;obtain⟨c56,H⟩:=ifs H;replace c56:=decide_eq_true c56;obtain⟨c57,H⟩:=ifs H;replace c57:=decide_eq_true c57;obtain⟨c58,H⟩:=ifs H;replace c58:=decide_eq_true c58
          by_cases c59:(rd l0_3 x33_2)>(wrap64 ((rd l0_3 a1)+1))
          ·rw[if_pos c59] at H;replace c59:=decide_eq_true c59;obtain rfl:=Option.some.inj H;have p400:0≤(x33_2:Int):=uD;have q400:x33_2<(l0_2.length:Int):=uD;obtain⟨ad400,e400,hx400_0,hx400_1,hx400_2⟩:=at_T51 HR0_2.out x33_2 p400 q400;obtain rfl:ad399=ad400:=(by injection e400);replace hx400_0:=hcell HB.out hx400_0;replace hx400_1:=hcell HB.out hx400_1;replace hx400_2:=hcell HB.out hx400_2;replace p400:=eq_true p400;replace q400:=eq_true q400;(try go_wp2_with (first|((with_reducible refine gate_dst (N:=9) rfl ?_);refine bxe 9 #[.int .i64 0,.int .i64 0,.int .i64 0] 51 ?_;intro gb401 hg w60 hbox hb;have n0_:=aM (blk_below (uK BK396.out) hb);have n1_:=aM (below_step uB hb);have n2_:=aM (hbox);have n3_:=gw hg;have n4_:=gw hg;have n5_:=nb BK396 hg;have n6_:=nc BK396 hg;clear BK396;clear HB;have BK396:=n0_;have HB:=n1_;have BK401:=n2_;have GW401:=n3_;have GE401:=n4_;have NB396_401:=n5_;have NB401_396:=n6_;clear n0_ n1_ n2_ n3_ n4_ n5_ n6_;clear hb hbox hg;have hnb61:=NB401_396.out;have hnc61:=NB396_401.out;obtain⟨hcz62_0,hcz62_1,hcz62_2⟩:=cz3 BK401.out;obtain⟨hfz62_0,hfz62_1,hfz62_2⟩:=fz3 BK401.out)));have n0_:Aside0 ((((w60.setCell ⟨gb401,0,none⟩ (.int .i64 ((rd_T51 l0_2 x33_2).f0))).setCell ⟨gb401,1,none⟩ (.int .i64 ((rd_T51 l0_2 x33_2).f1))).setCell ⟨gb401,2,none⟩ (.int .i64 ((rd_T51 l0_2 x33_2).f2))).heap[gb396]? =some (.cells #[.int .i64 a0_0,.slice A0_1 l0_1.length c0_1,.slice (some ad399) l0_2.length c0_2,.slice A0_3 l0_3.length c0_3] 93 (0,0))):=⟨by refine uK ?_;refine blk_far ?_ NB396_401.out _;refine uK ?_;refine blk_far ?_ NB396_401.out _;refine uK ?_;refine blk_far ?_ NB396_401.out _;refine uK ?_;exact BK396.out⟩;have n1_:Aside0 ((((w60.setCell ⟨gb401,0,none⟩ (.int .i64 ((rd_T51 l0_2 x33_2).f0))).setCell ⟨gb401,1,none⟩ (.int .i64 ((rd_T51 l0_2 x33_2).f1))).setCell ⟨gb401,2,none⟩ (.int .i64 ((rd_T51 l0_2 x33_2).f2))).heap[gb401]? =some (.cells #[.int .i64 ((rd_T51 l0_2 x33_2).f0),.int .i64 ((rd_T51 l0_2 x33_2).f1),.int .i64 ((rd_T51 l0_2 x33_2).f2)] 51 (0,0))):=⟨by refine uK ?_;refine blk_put (cs:=#[.int .i64 ((rd_T51 l0_2 x33_2).f0),.int .i64 ((rd_T51 l0_2 x33_2).f1),.int .i64 0]) ?_ 2 _ rfl;refine uK ?_;refine blk_put (cs:=#[.int .i64 ((rd_T51 l0_2 x33_2).f0),.int .i64 0,.int .i64 0]) ?_ 1 _ rfl;refine uK ?_;refine blk_put (cs:=#[.int .i64 0,.int .i64 0,.int .i64 0]) ?_ 0 _ rfl;refine uK ?_;exact BK401.out⟩;have n2_:Aside0 (Below w.heap.size w (((w60.setCell ⟨gb401,0,none⟩ (.int .i64 ((rd_T51 l0_2 x33_2).f0))).setCell ⟨gb401,1,none⟩ (.int .i64 ((rd_T51 l0_2 x33_2).f1))).setCell ⟨gb401,2,none⟩ (.int .i64 ((rd_T51 l0_2 x33_2).f2)))):=⟨uB⟩;(try clear BK396);(try clear BK401);(try clear HB);generalize (((w60.setCell ⟨gb401,0,none⟩ (.int .i64 ((rd_T51 l0_2 x33_2).f0))).setCell ⟨gb401,1,none⟩ (.int .i64 ((rd_T51 l0_2 x33_2).f1))).setCell ⟨gb401,2,none⟩ (.int .i64 ((rd_T51 l0_2 x33_2).f2)))=w63 at n0_ n1_ n2_⊢;have BK396:=n0_;have BK401:=n1_;have HB:=n2_;clear n0_ n1_ n2_;replace BK396:=aM (blk_drew BK396.out);replace BK401:=aM (blk_drew BK401.out);replace HB:=aM (below_drew1 HB.out);have p406:0≤(x33_2:Int):=uD;have q406:x33_2<(l0_3.length:Int):=uD;obtain⟨ad406,e406,hx406_0⟩:=Kd.at_int HR0_3.out x33_2 p406 q406;have hw406_0:=hx406_0
           cases e406
           replace hx406_0:=hcell HB.out hx406_0;replace p406:=eq_true p406;replace q406:=eq_true q406;have p407:0≤(a1:Int):=uD;have q407:a1<(l0_3.length:Int):=uD;obtain⟨ad407,e407,hx407_0⟩:=Kd.at_int HR0_3.out a1 p407 q407;have hw407_0:=hx407_0;obtain rfl:ad406=ad407:=(by injection e407);replace hx407_0:=hcell HB.out hx407_0;replace p407:=eq_true p407;replace q407:=eq_true q407;refine start_ (n:=39) (S:=fun w'=>w'.cell? ⟨gb396,0,none⟩=some (.int .i64 a0_0)∧w'.cell? ⟨gb396,1,none⟩=some (.slice A0_1 l0_1.length c0_1)∧w'.cell? ⟨gb396,2,none⟩=some (.slice (some ad399) l0_2.length c0_2)∧w'.cell? ⟨gb396,3,none⟩=some (.slice (some ad406) l0_3.length c0_3)∧w'.cell? ⟨gb401,0,none⟩=some (.int .i64 ((rd_T51 l0_2 x33_2).f0))∧w'.cell? ⟨gb401,1,none⟩=some (.int .i64 ((rd_T51 l0_2 x33_2).f1))∧w'.cell? ⟨gb401,2,none⟩=some (.int .i64 ((rd_T51 l0_2 x33_2).f2))∧w'.cell? (ad406.add (x33_2).toNat)=some (.int .i64 (rd l0_3 x33_2))∧w'.cell? (ad406.add (a1).toNat)=some (.int .i64 (rd l0_3 a1))) (ds:=[]) (bl 39 0) (by kernel_rfl) rfl rfl ⟨(blk_cell BK396.out 0).trans rfl,(blk_cell BK396.out 1).trans rfl,(blk_cell BK396.out 2).trans rfl,(blk_cell BK396.out 3).trans rfl,(blk_cell BK401.out 0).trans rfl,(blk_cell BK401.out 1).trans rfl,(blk_cell BK401.out 2).trans rfl,(hcell HB.out hw406_0),(hcell HB.out hw407_0)⟩ (fun hHeld=>?_);refine with_tabW d7_shared_binds.tab7 d7_shared_binds.bits7 (fun HT_ HW_=>?_)
           generalize w63.drew=w64 at BK396 BK401 HB hx406_0 hx407_0 hHeld⊢;refine pu 0 38 39 1 ?_;refine pu 2 40 39 5 ?_;refine pu 3 41 39 13 ?_;refine tk9 1 39 39 15 hHeld ?_;refine one_ (i:=4) (N:=some 42) (bl 39 31) rfl rfl (one_of HT_.out (by kernel_rfl)) (by decide) (fun K hK=>?_);refine goes_ Tryz.func124 (by kernel_rfl) rfl #[.agg #[.int .i64 a0_0,.slice A0_1 l0_1.length c0_1,.slice (some ad399) l0_2.length c0_2],.int .i64 x33_2,.int .i64 a2] (by rfl) rfl rfl uM ?_;(with_reducible refine(d7_below.calls a0_0 _ _ l0_1 _ _ l0_2 x33_2 a2 true _ ?side1 ?side2 ?side3 ?side4 A22.out).mono ?_);(case side1=>exact uY HR0_1 HB);(case side2=>exact HC0_1.out);(case side3=>exact uY HR0_2 HB);(case side4=>exact HC0_2.out);rintro e w65 ⟨rfl,hb⟩;refine⟨_,rfl,?_⟩;replace BK396:=aM (blk_below (uK BK396.out) hb);replace BK401:=aM (blk_below (uK BK401.out) hb);replace HB:=aM (below_step uB hb);(try clear hb);refine hK.out _ _ ⟨(blk_cell BK396.out 0).trans rfl,(blk_cell BK396.out 1).trans rfl,(blk_cell BK396.out 2).trans rfl,(blk_cell BK396.out 3).trans rfl,(blk_cell BK401.out 0).trans rfl,(blk_cell BK401.out 1).trans rfl,(blk_cell BK401.out 2).trans rfl,(hcell HB.out hw406_0),(hcell HB.out hw407_0)⟩ (fun hHeld=>?_);clear hK K;refine nm ?_;refine pu 5 43 39 63 ?_;refine pu 6 44 39 127 ?_;refine pu 8 46 39 383 ?_;refine tk9 7 45 39 511 hHeld ?_;refine pu 9 47 39 1023 ?_;refine pu 10 48 39 2047 ?_;refine pz 11 49 39 4095 ?_;refine pz 12 50 39 8191 ?_;refine pz 13 51 39 16383 ?_;refine pz 14 52 39 32767 ?_;refine pz 15 53 39 65535 ?_;refine pz 16 54 39 131071 ?_;refine pu 17 55 39 262143 ?_;refine pu 18 56 39 524287 ?_;refine pu 19 57 39 1048575 ?_;refine pu 21 59 39 3145727 ?_;refine tk9 20 58 39 4194303 hHeld ?_;refine pu 22 60 39 8388607 ?_;refine pu 23 61 39 16777215 ?_;refine pu 24 62 39 33554431 ?_;refine pu 26 64 39 100663295 ?_;refine pu 29 67 39 637534207 ?_;refine pu 31 69 39 2785017855 ?_;refine tk9 25 63 39 2818572287 hHeld ?_;refine pu 27 65 39 2952790015 ?_;refine tk9 28 66 39 3221225471 hHeld ?_;refine tk9 30 68 39 4294967295 hHeld ?_;refine pu 32 70 39 8589934591 ?_;refine tk9 33 71 39 17179869183 hHeld ?_;refine pu 34 72 39 34359738367 ?_;refine pu 35 73 39 68719476735 ?_;refine pu 36 74 39 137438953471 ?_;refine pu 37 75 39 274877906943 ?_;refine pu 38 76 39 549755813887 ?_;refine done_ (done_of HT_.out (by kernel_rfl)) ?_;(try go_wp2);go_ret;exact⟨uE,uB⟩
          ·rw[if_neg c59] at H;replace c59:=decide_eq_false c59;have H':=aM H;clear H;have p400:0≤(x33_2:Int):=uD;have q400:x33_2<(l0_2.length:Int):=uD;obtain⟨ad400,e400,hx400_0,hx400_1,hx400_2⟩:=at_T51 HR0_2.out x33_2 p400 q400;obtain rfl:ad399=ad400:=(by injection e400);replace hx400_0:=hcell HB.out hx400_0;replace hx400_1:=hcell HB.out hx400_1;replace hx400_2:=hcell HB.out hx400_2;replace p400:=eq_true p400;replace q400:=eq_true q400;(try go_wp2_with (first|((with_reducible refine gate_dst (N:=9) rfl ?_);refine bxe 9 #[.int .i64 0,.int .i64 0,.int .i64 0] 51 ?_;intro gb401 hg w66 hbox hb;have n0_:=aM (blk_below (uK BK396.out) hb);have n1_:=aM (below_step uB hb);have n2_:=aM (hbox);have n3_:=gw hg;have n4_:=gw hg;have n5_:=nb BK396 hg;have n6_:=nc BK396 hg;clear BK396;clear HB;have BK396:=n0_;have HB:=n1_;have BK401:=n2_;have GW401:=n3_;have GE401:=n4_;have NB396_401:=n5_;have NB401_396:=n6_;clear n0_ n1_ n2_ n3_ n4_ n5_ n6_;clear hb hbox hg;have hnb67:=NB401_396.out;have hnc67:=NB396_401.out;obtain⟨hcz68_0,hcz68_1,hcz68_2⟩:=cz3 BK401.out;obtain⟨hfz68_0,hfz68_1,hfz68_2⟩:=fz3 BK401.out)));have n0_:Aside0 ((((w66.setCell ⟨gb401,0,none⟩ (.int .i64 ((rd_T51 l0_2 x33_2).f0))).setCell ⟨gb401,1,none⟩ (.int .i64 ((rd_T51 l0_2 x33_2).f1))).setCell ⟨gb401,2,none⟩ (.int .i64 ((rd_T51 l0_2 x33_2).f2))).heap[gb396]? =some (.cells #[.int .i64 a0_0,.slice A0_1 l0_1.length c0_1,.slice (some ad399) l0_2.length c0_2,.slice A0_3 l0_3.length c0_3] 93 (0,0))):=⟨by refine uK ?_;refine blk_far ?_ NB396_401.out _;refine uK ?_;refine blk_far ?_ NB396_401.out _;refine uK ?_;refine blk_far ?_ NB396_401.out _;refine uK ?_;exact BK396.out⟩;have n1_:Aside0 ((((w66.setCell ⟨gb401,0,none⟩ (.int .i64 ((rd_T51 l0_2 x33_2).f0))).setCell ⟨gb401,1,none⟩ (.int .i64 ((rd_T51 l0_2 x33_2).f1))).setCell ⟨gb401,2,none⟩ (.int .i64 ((rd_T51 l0_2 x33_2).f2))).heap[gb401]? =some (.cells #[.int .i64 ((rd_T51 l0_2 x33_2).f0),.int .i64 ((rd_T51 l0_2 x33_2).f1),.int .i64 ((rd_T51 l0_2 x33_2).f2)] 51 (0,0))):=⟨by refine uK ?_;refine blk_put (cs:=#[.int .i64 ((rd_T51 l0_2 x33_2).f0),.int .i64 ((rd_T51 l0_2 x33_2).f1),.int .i64 0]) ?_ 2 _ rfl;refine uK ?_;refine blk_put (cs:=#[.int .i64 ((rd_T51 l0_2 x33_2).f0),.int .i64 0,.int .i64 0]) ?_ 1 _ rfl;refine uK ?_;refine blk_put (cs:=#[.int .i64 0,.int .i64 0,.int .i64 0]) ?_ 0 _ rfl;refine uK ?_;exact BK401.out⟩;have n2_:Aside0 (Below w.heap.size w (((w66.setCell ⟨gb401,0,none⟩ (.int .i64 ((rd_T51 l0_2 x33_2).f0))).setCell ⟨gb401,1,none⟩ (.int .i64 ((rd_T51 l0_2 x33_2).f1))).setCell ⟨gb401,2,none⟩ (.int .i64 ((rd_T51 l0_2 x33_2).f2)))):=⟨uB⟩;(try clear BK396);(try clear BK401);(try clear HB);generalize (((w66.setCell ⟨gb401,0,none⟩ (.int .i64 ((rd_T51 l0_2 x33_2).f0))).setCell ⟨gb401,1,none⟩ (.int .i64 ((rd_T51 l0_2 x33_2).f1))).setCell ⟨gb401,2,none⟩ (.int .i64 ((rd_T51 l0_2 x33_2).f2)))=w69 at n0_ n1_ n2_⊢;have BK396:=n0_;have BK401:=n1_;have HB:=n2_;clear n0_ n1_ n2_;replace BK396:=aM (blk_drew BK396.out);replace BK401:=aM (blk_drew BK401.out);replace HB:=aM (below_drew1 HB.out);have p406:0≤(x33_2:Int):=uD;have q406:x33_2<(l0_3.length:Int):=uD;obtain⟨ad406,e406,hx406_0⟩:=Kd.at_int HR0_3.out x33_2 p406 q406;have hw406_0:=hx406_0
           cases e406
           replace hx406_0:=hcell HB.out hx406_0;replace p406:=eq_true p406;replace q406:=eq_true q406;have p407:0≤(a1:Int):=uD;have q407:a1<(l0_3.length:Int):=uD;obtain⟨ad407,e407,hx407_0⟩:=Kd.at_int HR0_3.out a1 p407 q407;have hw407_0:=hx407_0;obtain rfl:ad406=ad407:=(by injection e407);replace hx407_0:=hcell HB.out hx407_0;replace p407:=eq_true p407;replace q407:=eq_true q407;refine start_ (n:=39) (S:=fun w'=>w'.cell? ⟨gb396,0,none⟩=some (.int .i64 a0_0)∧w'.cell? ⟨gb396,1,none⟩=some (.slice A0_1 l0_1.length c0_1)∧w'.cell? ⟨gb396,2,none⟩=some (.slice (some ad399) l0_2.length c0_2)∧w'.cell? ⟨gb396,3,none⟩=some (.slice (some ad406) l0_3.length c0_3)∧w'.cell? ⟨gb401,0,none⟩=some (.int .i64 ((rd_T51 l0_2 x33_2).f0))∧w'.cell? ⟨gb401,1,none⟩=some (.int .i64 ((rd_T51 l0_2 x33_2).f1))∧w'.cell? ⟨gb401,2,none⟩=some (.int .i64 ((rd_T51 l0_2 x33_2).f2))∧w'.cell? (ad406.add (x33_2).toNat)=some (.int .i64 (rd l0_3 x33_2))∧w'.cell? (ad406.add (a1).toNat)=some (.int .i64 (rd l0_3 a1))) (ds:=[]) (bl 39 0) (by kernel_rfl) rfl rfl ⟨(blk_cell BK396.out 0).trans rfl,(blk_cell BK396.out 1).trans rfl,(blk_cell BK396.out 2).trans rfl,(blk_cell BK396.out 3).trans rfl,(blk_cell BK401.out 0).trans rfl,(blk_cell BK401.out 1).trans rfl,(blk_cell BK401.out 2).trans rfl,(hcell HB.out hw406_0),(hcell HB.out hw407_0)⟩ (fun hHeld=>?_);refine with_tabW d7_shared_binds.tab7 d7_shared_binds.bits7 (fun HT_ HW_=>?_)
           generalize w69.drew=w70 at BK396 BK401 HB hx406_0 hx407_0 hHeld⊢;refine pu 0 38 39 1 ?_;refine pu 2 40 39 5 ?_;refine pu 3 41 39 13 ?_;refine tk9 1 39 39 15 hHeld ?_;refine one_ (i:=4) (N:=some 42) (bl 39 31) rfl rfl (one_of HT_.out (by kernel_rfl)) (by decide) (fun K hK=>?_);refine goes_ Tryz.func124 (by kernel_rfl) rfl #[.agg #[.int .i64 a0_0,.slice A0_1 l0_1.length c0_1,.slice (some ad399) l0_2.length c0_2],.int .i64 x33_2,.int .i64 a2] (by rfl) rfl rfl uM ?_;(with_reducible refine(d7_below.calls a0_0 _ _ l0_1 _ _ l0_2 x33_2 a2 true _ ?side1 ?side2 ?side3 ?side4 A22.out).mono ?_);(case side1=>exact uY HR0_1 HB);(case side2=>exact HC0_1.out);(case side3=>exact uY HR0_2 HB);(case side4=>exact HC0_2.out);rintro e w71 ⟨rfl,hb⟩;refine⟨_,rfl,?_⟩;replace BK396:=aM (blk_below (uK BK396.out) hb);replace BK401:=aM (blk_below (uK BK401.out) hb);replace HB:=aM (below_step uB hb);(try clear hb);refine hK.out _ _ ⟨(blk_cell BK396.out 0).trans rfl,(blk_cell BK396.out 1).trans rfl,(blk_cell BK396.out 2).trans rfl,(blk_cell BK396.out 3).trans rfl,(blk_cell BK401.out 0).trans rfl,(blk_cell BK401.out 1).trans rfl,(blk_cell BK401.out 2).trans rfl,(hcell HB.out hw406_0),(hcell HB.out hw407_0)⟩ (fun hHeld=>?_);clear hK K;refine nm ?_;refine pu 5 43 39 63 ?_;refine pu 6 44 39 127 ?_;refine pu 8 46 39 383 ?_;refine tk9 7 45 39 511 hHeld ?_;refine pu 9 47 39 1023 ?_;refine pu 10 48 39 2047 ?_;refine pz 11 49 39 4095 ?_;refine pz 12 50 39 8191 ?_;refine pz 13 51 39 16383 ?_;refine pz 14 52 39 32767 ?_;refine pz 15 53 39 65535 ?_;refine pz 16 54 39 131071 ?_;refine pu 17 55 39 262143 ?_;refine pu 18 56 39 524287 ?_;refine pu 19 57 39 1048575 ?_;refine pu 21 59 39 3145727 ?_;refine tk9 20 58 39 4194303 hHeld ?_;refine pu 22 60 39 8388607 ?_;refine pu 23 61 39 16777215 ?_;refine pu 24 62 39 33554431 ?_;refine pu 26 64 39 100663295 ?_;refine pu 29 67 39 637534207 ?_;refine pu 31 69 39 2785017855 ?_;refine tk9 25 63 39 2818572287 hHeld ?_;refine pu 27 65 39 2952790015 ?_;refine tk9 28 66 39 3221225471 hHeld ?_;refine tk9 30 68 39 4294967295 hHeld ?_;refine pu 32 70 39 8589934591 ?_;refine tk9 33 71 39 17179869183 hHeld ?_;refine pu 34 72 39 34359738367 ?_;refine pu 35 73 39 68719476735 ?_;refine pu 36 74 39 137438953471 ?_;refine pu 37 75 39 274877906943 ?_;refine pu 38 76 39 549755813887 ?_;refine done_ (done_of HT_.out (by kernel_rfl)) ?_;try go_wp2
           go_roundg k2
           case measure=>have:=HJ3.out;have:=HK2.out;omega
           case rel=>exact⟨(wrap64 (x33_2+1)),u0,H',⟨by have:=HJ3.out;have:=HK2.out;omega⟩,⟨uK BK396.out⟩,⟨uB⟩⟩
         ·rw[if_neg c55] at H;have c55b0:(((rd_T51 l0_2 x33_2).f2)==((rd_T51 l0_2 a1).f2))=false:=beq_eq_false_iff_ne.mpr c55;have c55b1:(((rd_T51 l0_2 x33_2).f2) !=((rd_T51 l0_2 a1).f2))=true:=bne_iff_ne.mpr c55;have H':=aM H;clear H;have p400:0≤(x33_2:Int):=uD;have q400:x33_2<(l0_2.length:Int):=uD;obtain⟨ad400,e400,hx400_0,hx400_1,hx400_2⟩:=at_T51 HR0_2.out x33_2 p400 q400;obtain rfl:ad399=ad400:=(by injection e400);replace hx400_0:=hcell HB.out hx400_0;replace hx400_1:=hcell HB.out hx400_1;replace hx400_2:=hcell HB.out hx400_2;replace p400:=eq_true p400;replace q400:=eq_true q400;(try go_wp2_with (first|((with_reducible refine gate_dst (N:=9) rfl ?_);refine bxe 9 #[.int .i64 0,.int .i64 0,.int .i64 0] 51 ?_;intro gb401 hg w72 hbox hb;have n0_:=aM (blk_below (uK BK396.out) hb);have n1_:=aM (below_step uB hb);have n2_:=aM (hbox);have n3_:=gw hg;have n4_:=gw hg;have n5_:=nb BK396 hg;have n6_:=nc BK396 hg;clear BK396;clear HB;have BK396:=n0_;have HB:=n1_;have BK401:=n2_;have GW401:=n3_;have GE401:=n4_;have NB396_401:=n5_;have NB401_396:=n6_;clear n0_ n1_ n2_ n3_ n4_ n5_ n6_;clear hb hbox hg;have hnb73:=NB401_396.out;have hnc73:=NB396_401.out;obtain⟨hcz74_0,hcz74_1,hcz74_2⟩:=cz3 BK401.out;obtain⟨hfz74_0,hfz74_1,hfz74_2⟩:=fz3 BK401.out)));have n0_:Aside0 ((((w72.setCell ⟨gb401,0,none⟩ (.int .i64 ((rd_T51 l0_2 x33_2).f0))).setCell ⟨gb401,1,none⟩ (.int .i64 ((rd_T51 l0_2 x33_2).f1))).setCell ⟨gb401,2,none⟩ (.int .i64 ((rd_T51 l0_2 x33_2).f2))).heap[gb396]? =some (.cells #[.int .i64 a0_0,.slice A0_1 l0_1.length c0_1,.slice (some ad399) l0_2.length c0_2,.slice A0_3 l0_3.length c0_3] 93 (0,0))):=⟨by refine uK ?_;refine blk_far ?_ NB396_401.out _;refine uK ?_;refine blk_far ?_ NB396_401.out _;refine uK ?_;refine blk_far ?_ NB396_401.out _;refine uK ?_;exact BK396.out⟩;have n1_:Aside0 ((((w72.setCell ⟨gb401,0,none⟩ (.int .i64 ((rd_T51 l0_2 x33_2).f0))).setCell ⟨gb401,1,none⟩ (.int .i64 ((rd_T51 l0_2 x33_2).f1))).setCell ⟨gb401,2,none⟩ (.int .i64 ((rd_T51 l0_2 x33_2).f2))).heap[gb401]? =some (.cells #[.int .i64 ((rd_T51 l0_2 x33_2).f0),.int .i64 ((rd_T51 l0_2 x33_2).f1),.int .i64 ((rd_T51 l0_2 x33_2).f2)] 51 (0,0))):=⟨by refine uK ?_;refine blk_put (cs:=#[.int .i64 ((rd_T51 l0_2 x33_2).f0),.int .i64 ((rd_T51 l0_2 x33_2).f1),.int .i64 0]) ?_ 2 _ rfl;refine uK ?_;refine blk_put (cs:=#[.int .i64 ((rd_T51 l0_2 x33_2).f0),.int .i64 0,.int .i64 0]) ?_ 1 _ rfl;refine uK ?_;refine blk_put (cs:=#[.int .i64 0,.int .i64 0,.int .i64 0]) ?_ 0 _ rfl;refine uK ?_;exact BK401.out⟩;have n2_:Aside0 (Below w.heap.size w (((w72.setCell ⟨gb401,0,none⟩ (.int .i64 ((rd_T51 l0_2 x33_2).f0))).setCell ⟨gb401,1,none⟩ (.int .i64 ((rd_T51 l0_2 x33_2).f1))).setCell ⟨gb401,2,none⟩ (.int .i64 ((rd_T51 l0_2 x33_2).f2)))):=⟨uB⟩;(try clear BK396);(try clear BK401);(try clear HB);generalize (((w72.setCell ⟨gb401,0,none⟩ (.int .i64 ((rd_T51 l0_2 x33_2).f0))).setCell ⟨gb401,1,none⟩ (.int .i64 ((rd_T51 l0_2 x33_2).f1))).setCell ⟨gb401,2,none⟩ (.int .i64 ((rd_T51 l0_2 x33_2).f2)))=w75 at n0_ n1_ n2_⊢;have BK396:=n0_;have BK401:=n1_;have HB:=n2_;clear n0_ n1_ n2_;replace BK396:=aM (blk_drew BK396.out);replace BK401:=aM (blk_drew BK401.out);replace HB:=aM (below_drew1 HB.out);refine start_ (n:=39) (S:=fun w'=>w'.cell? ⟨gb396,0,none⟩=some (.int .i64 a0_0)∧w'.cell? ⟨gb396,1,none⟩=some (.slice A0_1 l0_1.length c0_1)∧w'.cell? ⟨gb396,2,none⟩=some (.slice (some ad399) l0_2.length c0_2)∧w'.cell? ⟨gb396,3,none⟩=some (.slice A0_3 l0_3.length c0_3)∧w'.cell? ⟨gb401,0,none⟩=some (.int .i64 ((rd_T51 l0_2 x33_2).f0))∧w'.cell? ⟨gb401,1,none⟩=some (.int .i64 ((rd_T51 l0_2 x33_2).f1))∧w'.cell? ⟨gb401,2,none⟩=some (.int .i64 ((rd_T51 l0_2 x33_2).f2))) (ds:=[]) (bl 39 0) (by kernel_rfl) rfl rfl ⟨(blk_cell BK396.out 0).trans rfl,(blk_cell BK396.out 1).trans rfl,(blk_cell BK396.out 2).trans rfl,(blk_cell BK396.out 3).trans rfl,(blk_cell BK401.out 0).trans rfl,(blk_cell BK401.out 1).trans rfl,(blk_cell BK401.out 2).trans rfl⟩ (fun hHeld=>?_);refine with_tabW d7_shared_binds.tab7 d7_shared_binds.bits7 (fun HT_ HW_=>?_)
          generalize w75.drew=w76 at BK396 BK401 HB hHeld⊢;refine pu 0 38 39 1 ?_;refine pu 2 40 39 5 ?_;refine pu 3 41 39 13 ?_;refine tk7 1 39 39 15 hHeld ?_;refine one_ (i:=4) (N:=some 42) (bl 39 31) rfl rfl (one_of HT_.out (by kernel_rfl)) (by decide) (fun K hK=>?_);refine goes_ Tryz.func124 (by kernel_rfl) rfl #[.agg #[.int .i64 a0_0,.slice A0_1 l0_1.length c0_1,.slice (some ad399) l0_2.length c0_2],.int .i64 x33_2,.int .i64 a2] (by rfl) rfl rfl uM ?_;(with_reducible refine(d7_below.calls a0_0 _ _ l0_1 _ _ l0_2 x33_2 a2 true _ ?side1 ?side2 ?side3 ?side4 A22.out).mono ?_);(case side1=>exact uY HR0_1 HB);(case side2=>exact HC0_1.out);(case side3=>exact uY HR0_2 HB);(case side4=>exact HC0_2.out);rintro e w77 ⟨rfl,hb⟩;refine⟨_,rfl,?_⟩;replace BK396:=aM (blk_below (uK BK396.out) hb);replace BK401:=aM (blk_below (uK BK401.out) hb);replace HB:=aM (below_step uB hb);(try clear hb);refine hK.out _ _ ⟨(blk_cell BK396.out 0).trans rfl,(blk_cell BK396.out 1).trans rfl,(blk_cell BK396.out 2).trans rfl,(blk_cell BK396.out 3).trans rfl,(blk_cell BK401.out 0).trans rfl,(blk_cell BK401.out 1).trans rfl,(blk_cell BK401.out 2).trans rfl⟩ (fun hHeld=>?_);clear hK K;refine nm ?_;refine pu 5 43 39 63 ?_;refine pu 6 44 39 127 ?_;refine pu 8 46 39 383 ?_;refine tk7 7 45 39 511 hHeld ?_;refine pu 9 47 39 1023 ?_;refine pu 10 48 39 2047 ?_;refine pz 11 49 39 4095 ?_;refine pz 12 50 39 8191 ?_;refine pz 13 51 39 16383 ?_;refine pz 14 52 39 32767 ?_;refine pz 15 53 39 65535 ?_;refine pz 16 54 39 131071 ?_;refine pu 17 55 39 262143 ?_;refine pu 18 56 39 524287 ?_;refine pu 19 57 39 1048575 ?_;refine pu 21 59 39 3145727 ?_;refine tk7 20 58 39 4194303 hHeld ?_;refine pu 22 60 39 8388607 ?_;refine pu 23 61 39 16777215 ?_;refine pz 24 62 39 33554431 ?_;refine pz 25 63 39 67108863 ?_;refine pz 26 64 39 134217727 ?_;refine pz 27 65 39 268435455 ?_;refine pz 28 66 39 536870911 ?_;refine pz 29 67 39 1073741823 ?_;refine pz 30 68 39 2147483647 ?_;refine pz 31 69 39 4294967295 ?_;refine pz 32 70 39 8589934591 ?_;refine pz 33 71 39 17179869183 ?_;refine pz 34 72 39 34359738367 ?_;refine pz 35 73 39 68719476735 ?_;refine pu 36 74 39 137438953471 ?_;refine pu 37 75 39 274877906943 ?_;refine pu 38 76 39 549755813887 ?_;refine done_ (done_of HT_.out (by kernel_rfl)) ?_;try go_wp2
          go_roundg k2
          case measure=>have:=HJ3.out;have:=HK2.out;omega
          case rel=>exact⟨(wrap64 (x33_2+1)),u0,H',⟨by have:=HJ3.out;have:=HK2.out;omega⟩,⟨uK BK396.out⟩,⟨uB⟩⟩
       ·replace c23:=Bool.eq_false_iff.mpr c23;subst c23;have H1:(d7_shared_binds.l0 k2 a1 a2 ((rd_T51 l0_2 a1).f2) l0_2 (l0_2.length:Int) (wrap64 (x33_2+1)) a0_0 l0_1 l0_2 l0_3)=some r:=by rw[if_neg (show ¬(false=true) by decide)] at H;exact H
        clear H;have H:=H1;clear H1;have H':=aM H;clear H;have p400:0≤(x33_2:Int):=uD;have q400:x33_2<(l0_2.length:Int):=uD;obtain⟨ad400,e400,hx400_0,hx400_1,hx400_2⟩:=at_T51 HR0_2.out x33_2 p400 q400;obtain rfl:ad399=ad400:=(by injection e400);replace hx400_0:=hcell HB.out hx400_0;replace hx400_1:=hcell HB.out hx400_1;replace hx400_2:=hcell HB.out hx400_2;replace p400:=eq_true p400;replace q400:=eq_true q400;(try go_wp2_with (first|((with_reducible refine gate_dst (N:=9) rfl ?_);refine bxe 9 #[.int .i64 0,.int .i64 0,.int .i64 0] 51 ?_;intro gb401 hg w78 hbox hb;have n0_:=aM (blk_below (uK BK396.out) hb);have n1_:=aM (below_step uB hb);have n2_:=aM (hbox);have n3_:=gw hg;have n4_:=gw hg;have n5_:=nb BK396 hg;have n6_:=nc BK396 hg;clear BK396;clear HB;have BK396:=n0_;have HB:=n1_;have BK401:=n2_;have GW401:=n3_;have GE401:=n4_;have NB396_401:=n5_;have NB401_396:=n6_;clear n0_ n1_ n2_ n3_ n4_ n5_ n6_;clear hb hbox hg;have hnb79:=NB401_396.out;have hnc79:=NB396_401.out;obtain⟨hcz80_0,hcz80_1,hcz80_2⟩:=cz3 BK401.out;obtain⟨hfz80_0,hfz80_1,hfz80_2⟩:=fz3 BK401.out)));have n0_:Aside0 ((((w78.setCell ⟨gb401,0,none⟩ (.int .i64 ((rd_T51 l0_2 x33_2).f0))).setCell ⟨gb401,1,none⟩ (.int .i64 ((rd_T51 l0_2 x33_2).f1))).setCell ⟨gb401,2,none⟩ (.int .i64 ((rd_T51 l0_2 x33_2).f2))).heap[gb396]? =some (.cells #[.int .i64 a0_0,.slice A0_1 l0_1.length c0_1,.slice (some ad399) l0_2.length c0_2,.slice A0_3 l0_3.length c0_3] 93 (0,0))):=⟨by refine uK ?_;refine blk_far ?_ NB396_401.out _;refine uK ?_;refine blk_far ?_ NB396_401.out _;refine uK ?_;refine blk_far ?_ NB396_401.out _;refine uK ?_;exact BK396.out⟩;have n1_:Aside0 ((((w78.setCell ⟨gb401,0,none⟩ (.int .i64 ((rd_T51 l0_2 x33_2).f0))).setCell ⟨gb401,1,none⟩ (.int .i64 ((rd_T51 l0_2 x33_2).f1))).setCell ⟨gb401,2,none⟩ (.int .i64 ((rd_T51 l0_2 x33_2).f2))).heap[gb401]? =some (.cells #[.int .i64 ((rd_T51 l0_2 x33_2).f0),.int .i64 ((rd_T51 l0_2 x33_2).f1),.int .i64 ((rd_T51 l0_2 x33_2).f2)] 51 (0,0))):=⟨by refine uK ?_;refine blk_put (cs:=#[.int .i64 ((rd_T51 l0_2 x33_2).f0),.int .i64 ((rd_T51 l0_2 x33_2).f1),.int .i64 0]) ?_ 2 _ rfl;refine uK ?_;refine blk_put (cs:=#[.int .i64 ((rd_T51 l0_2 x33_2).f0),.int .i64 0,.int .i64 0]) ?_ 1 _ rfl;refine uK ?_;refine blk_put (cs:=#[.int .i64 0,.int .i64 0,.int .i64 0]) ?_ 0 _ rfl;refine uK ?_;exact BK401.out⟩;have n2_:Aside0 (Below w.heap.size w (((w78.setCell ⟨gb401,0,none⟩ (.int .i64 ((rd_T51 l0_2 x33_2).f0))).setCell ⟨gb401,1,none⟩ (.int .i64 ((rd_T51 l0_2 x33_2).f1))).setCell ⟨gb401,2,none⟩ (.int .i64 ((rd_T51 l0_2 x33_2).f2)))):=⟨uB⟩;(try clear BK396);(try clear BK401);(try clear HB);generalize (((w78.setCell ⟨gb401,0,none⟩ (.int .i64 ((rd_T51 l0_2 x33_2).f0))).setCell ⟨gb401,1,none⟩ (.int .i64 ((rd_T51 l0_2 x33_2).f1))).setCell ⟨gb401,2,none⟩ (.int .i64 ((rd_T51 l0_2 x33_2).f2)))=w81 at n0_ n1_ n2_⊢;have BK396:=n0_;have BK401:=n1_;have HB:=n2_;clear n0_ n1_ n2_;replace BK396:=aM (blk_drew BK396.out);replace BK401:=aM (blk_drew BK401.out);replace HB:=aM (below_drew1 HB.out);refine start_ (n:=39) (S:=fun w'=>w'.cell? ⟨gb396,0,none⟩=some (.int .i64 a0_0)∧w'.cell? ⟨gb396,1,none⟩=some (.slice A0_1 l0_1.length c0_1)∧w'.cell? ⟨gb396,2,none⟩=some (.slice (some ad399) l0_2.length c0_2)∧w'.cell? ⟨gb396,3,none⟩=some (.slice A0_3 l0_3.length c0_3)) (ds:=[]) (bl 39 0) (by kernel_rfl) rfl rfl ⟨(blk_cell BK396.out 0).trans rfl,(blk_cell BK396.out 1).trans rfl,(blk_cell BK396.out 2).trans rfl,(blk_cell BK396.out 3).trans rfl⟩ (fun hHeld=>?_);refine with_tabW d7_shared_binds.tab7 d7_shared_binds.bits7 (fun HT_ HW_=>?_)
        generalize w81.drew=w82 at BK396 BK401 HB hHeld⊢;refine pu 0 38 39 1 ?_;refine pu 2 40 39 5 ?_;refine pu 3 41 39 13 ?_;refine tk4 1 39 39 15 hHeld ?_;refine one_ (i:=4) (N:=some 42) (bl 39 31) rfl rfl (one_of HT_.out (by kernel_rfl)) (by decide) (fun K hK=>?_);refine goes_ Tryz.func124 (by kernel_rfl) rfl #[.agg #[.int .i64 a0_0,.slice A0_1 l0_1.length c0_1,.slice (some ad399) l0_2.length c0_2],.int .i64 x33_2,.int .i64 a2] (by rfl) rfl rfl uM ?_;(with_reducible refine(d7_below.calls a0_0 _ _ l0_1 _ _ l0_2 x33_2 a2 false _ ?side1 ?side2 ?side3 ?side4 A22.out).mono ?_);(case side1=>exact uY HR0_1 HB);(case side2=>exact HC0_1.out);(case side3=>exact uY HR0_2 HB);(case side4=>exact HC0_2.out);rintro e w83 ⟨rfl,hb⟩;refine⟨_,rfl,?_⟩;replace BK396:=aM (blk_below (uK BK396.out) hb);replace BK401:=aM (blk_below (uK BK401.out) hb);replace HB:=aM (below_step uB hb);(try clear hb);refine hK.out _ _ ⟨(blk_cell BK396.out 0).trans rfl,(blk_cell BK396.out 1).trans rfl,(blk_cell BK396.out 2).trans rfl,(blk_cell BK396.out 3).trans rfl⟩ (fun hHeld=>?_);clear hK K;refine nm ?_;refine pu 5 43 39 63 ?_;refine pz 6 44 39 127 ?_;refine pz 7 45 39 255 ?_;refine pz 8 46 39 511 ?_;refine pz 9 47 39 1023 ?_;refine pz 10 48 39 2047 ?_;refine pz 11 49 39 4095 ?_;refine pz 12 50 39 8191 ?_;refine pz 13 51 39 16383 ?_;refine pz 14 52 39 32767 ?_;refine pz 15 53 39 65535 ?_;refine pz 16 54 39 131071 ?_;refine pz 17 55 39 262143 ?_;refine pz 18 56 39 524287 ?_;refine pz 19 57 39 1048575 ?_;refine pz 20 58 39 2097151 ?_;refine pz 21 59 39 4194303 ?_;refine pz 22 60 39 8388607 ?_;refine pz 23 61 39 16777215 ?_;refine pz 24 62 39 33554431 ?_;refine pz 25 63 39 67108863 ?_;refine pz 26 64 39 134217727 ?_;refine pz 27 65 39 268435455 ?_;refine pz 28 66 39 536870911 ?_;refine pz 29 67 39 1073741823 ?_;refine pz 30 68 39 2147483647 ?_;refine pz 31 69 39 4294967295 ?_;refine pz 32 70 39 8589934591 ?_;refine pz 33 71 39 17179869183 ?_;refine pz 34 72 39 34359738367 ?_;refine pz 35 73 39 68719476735 ?_;refine pz 36 74 39 137438953471 ?_;refine pz 37 75 39 274877906943 ?_;refine pu 38 76 39 549755813887 ?_;refine done_ (done_of HT_.out (by kernel_rfl)) ?_;try go_wp2
        go_roundg k2
        case measure=>have:=HJ3.out;have:=HK2.out;omega
        case rel=>exact⟨(wrap64 (x33_2+1)),u0,H',⟨by have:=HJ3.out;have:=HK2.out;omega⟩,⟨uK BK396.out⟩,⟨uB⟩⟩
      ·rw[if_neg c19] at H;replace c19:=decide_eq_false c19;obtain rfl:=Option.some.inj H;go_wp2;go_ret;exact⟨uE,uB⟩
end Go.Proofs.YtjioobfeikbffabGreatDoor.K
end
