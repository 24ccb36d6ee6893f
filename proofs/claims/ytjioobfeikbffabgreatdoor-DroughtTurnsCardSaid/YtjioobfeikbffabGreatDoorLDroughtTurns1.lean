/- DroughtTurns: the walk of the law, and what it comes to. -/
import Derived.Test.YtjioobfeikbffabGreatDoorLDroughtTurns
set_option linter.unusedVariables false
set_option linter.unusedSimpArgs false
section
namespace Go.Proofs.YtjioobfeikbffabGreatDoor.K
open Dr Go.RowKit Go.Proofs.Zw Go.Proofs.Zl Go.Proofs.Zm
namespace Rf
variable {I:Int} {N:List SN} {O:List SO}
theorem getDL {l:List (List Int)} {j:Nat} (h:j<l.length):l.getD j []=l[j]:=by simp[List.getD,List.getElem?_eq_getElem h]
section
variable (h:treeB I N O=true) {l:List (List Int)} (hl:slimP l) (hp:planB O l=true) (hr:runsB I N O l=true) {one other:Int} (h1:0≤one∧one<O.length) (h2:0≤other∧other<O.length)
include hl in
theorem slim_at {d:Nat} (hd:d<l.length):(l.getD d []).length≤10:=by rw[getDL hd];exact hl.2 _ (List.getElem_mem hd)
end
theorem days_l0 {l:List (List Int)} (hl:slimP l) (z:Int):∀(n j K:Nat),j+n=l.length->n+20≤K->r7_Days.l0 K l z (daysTo l z j) (j:Int)=some (daysTo l z l.length)
  |0,j,K+1,hj,hK=>by
    unfold r7_Days.l0;rw[if_neg (by omega),show j=l.length by omega]
  |n+1,j,K+1,hj,hK=>by
    have ih:=days_l0 hl z n (j+1) K (by omega) (by omega);have h12:=hl.1;have hj':j<l.length:=by omega
    have hd:=slim_at hl hj'
    have hb:0≤daysTo l z j∧daysTo l z j≤j:=by
      have:∀k:Nat,0≤daysTo l z k∧daysTo l z k≤k:=fun k=>by
        induction k with
        |zero=>simp[daysTo]
        |succ k ih=>simp only[daysTo];split<;>omega
      exact this j
    rw[show ((j+1:Nat):Int)=(j:Int)+1 by omega] at ih;simp only[daysTo] at ih;unfold r7_Days.l0;rw[if_pos (by omega),if_pos (by omega),rdL hj',←getDL hj',has_f _ (by omega) _ _ (by omega),Option.bind_some,sml (a:=(j:Int)+1) (by omega) (by omega)]
    by_cases c:z∈l.getD j []
    · rw[decide_eq_true c,if_pos rfl,sml (by omega) (by omega)];rw[if_pos c] at ih;exact ih
    · rw[decide_eq_false c,if_neg (by simp)];rw[if_neg c,Int.add_zero] at ih;exact ih
theorem days_f {l:List (List Int)} (hl:slimP l) (z:Int) (K:Nat) (hK:50≤K):r7_Days.f K l z=some (daysTo l z l.length):=by
  have h12:=hl.1;unfold r7_Days.f;exact days_l0 hl z l.length 0 K (by omega) (by omega)
end Rf
namespace Rf
variable {I:Int} {N:List SN} {O:List SO}
def bst (lt:Int->Int->Bool):List Int->Int
  |[]=> -1
  |x::l=>l.foldl (fun o x=>if lt x o=true then x else o) x
theorem bst_best (lt:Int->Int->Bool) {l:List Int} (h:l≠[]):bestL lt l=bst lt l:=by
  cases l with
  |nil=>exact absurd rfl h
  |cons x l=>
    unfold bestL bestTo bst;rw[List.take_length]
    show List.foldl _ (rd (x::l) 0) (x::l)=_
    have e:rd (x::l) 0=x:=rfl;rw[e,List.foldl_cons]
    congr 1
    split<;>rfl
theorem bst_snoc (lt:Int->Int->Bool) (l:List Int) (j:Int):bst lt (l++[j])=if l=[] then j else if lt j (bst lt l)=true then j else bst lt l:=by
  cases l with
  |nil=>rfl
  |cons x l=>
    rw[if_neg (by simp)]
    show(l++[j]).foldl _ x=_
    rw[List.foldl_append]
    rfl
theorem bst_mem (lt:Int->Int->Bool) {l:List Int} (h:l≠[]):bst lt l∈l:=by rw[← bst_best lt h];exact bestL_mem h
def freeTo (out:List Int) (j:Nat):List Int:=(allTo j).filter fun i=>!decide (i∈out)
theorem free_succ (out:List Int) (j:Nat):freeTo out (j+1)=freeTo out j++if(j:Int)∈out then [] else [(j:Int)]:=by
  unfold freeTo allTo;rw[List.range_succ,List.map_append,List.filter_append]
  congr 1
  by_cases h:(j:Int)∈out<;>simp[h]
theorem free_mem {out:List Int} {j:Nat} {x:Int}:x∈freeTo out j↔(0≤x∧x<j)∧x∉out:=by
  unfold freeTo;rw[List.mem_filter,all_mem];simp
theorem free_nodup (out:List Int) (j:Nat):(freeTo out j).Nodup:=(all_nodup j).filter _
theorem free_drop (out:List Int) (j:Nat) (b:Int):freeTo (out++[b]) j=dropL (freeTo out j) b:=by
  unfold freeTo dropL;rw[List.filter_filter];apply List.filter_congr;intro x _;rw[Bool.eq_iff_iff];simp;exact And.comm
def pickL (O:List SO) (ran:List Int):Nat->List Int->List Int
  |0,_=>[]
  |k+1,left=>bestL (soonB O ran) left::pickL O ran k (dropL left (bestL (soonB O ran) left))
theorem pick_len (ran:List Int):∀(k:Nat) (left:List Int),(pickL O ran k left).length=k
  |0,_=>rfl
  |k+1,left=>by simp[pickL,pick_len]
theorem pick_day (ran:List Int):∀(k:Nat) (left d:List Int),(pickL O ran k left).foldl (takeD I N O) d=dayF I N O ran k left d
  |0,_,_=>rfl
  |k+1,left,d=>by
    show(pickL O ran k _).foldl (takeD I N O) (takeD I N O d _)=_
    rw[pick_day ran k]
    rfl
theorem pick_mem (ran:List Int):∀(k:Nat) (left:List Int),left.length=k->left.Nodup->∀x∈pickL O ran k left,x∈left
  |0,_,_,_,x,hx=>by cases hx
  |k+1,left,hl,hn,x,hx=>by
    have hb:=bestL_mem (lt:=soonB O ran) (l:=left) (by intro e;rw[e] at hl;cases hl)
    rcases List.mem_cons.1 hx with rfl|hx
    · exact hb
    · exact(drop_mem.1 (pick_mem ran k _ (by have:=drop_len hn hb;omega) (drop_nodup hn) x hx)).1
section
variable (h:treeB I N O=true) {p:List (List Int)} (hp:slimP p) {ran:List Int} (hr:∀i:Nat,i<O.length->daysTo p (i:Int) p.length=rd ran i)
include h hp hr
theorem sooner_f {a b:Nat} (ha:a<O.length) (hb:b<a) (K:Nat) (hK:100≤K):r7_sooner.f K I N O p (a:Int) (b:Int)=some (soonB O ran (a:Int) (b:Int)):=by
  have _:=h
  unfold r7_sooner.f soonB;rw[days_f hp _ _ (by omega),Option.bind_some,days_f hp _ _ (by omega),Option.bind_some,hr a ha,hr b (by omega)]
  by_cases e:rd ran (a:Int)=rd ran (b:Int)
  · rw[if_pos e,if_pos (by omega),if_pos (by omega),if_pos (by omega),if_pos (by omega),if_pos e]
    by_cases e2:(rdO O (a:Int)).f2=(rdO O (b:Int)).f2
    · rw[if_pos e2,decide_eq_false (by omega),decide_eq_false (by omega)]
    · rw[if_neg e2]
  · rw[if_neg e,if_neg e]
theorem order_l1 {out:List Int} (ho:out.length≤1000) {r:Option (List Int)} {B:Nat} (hB:1100≤B) (H:∀K,B≤K->r7_order.l0 K p (out++[bst (soonB O ran) (freeTo out O.length)]) I N O=r):
    ∀(n j K:Nat),j+n=O.length->B+n+1≤K->r7_order.l1 K p out (bst (soonB O ran) (freeTo out j)) (j:Int) I N O=r
  |0,j,K+1,hj,hK=>by
    obtain rfl:j=O.length:=by omega
    rw[r7_order.l1,if_neg (by omega),if_pos (by omega)];exact H K (by omega)
  |n+1,j,K+1,hj,hK=>by
    have h8:=(tree_ok h).ol;have ih:=order_l1 ho hB H n (j+1) K (by omega) (by omega);rw[show ((j+1:Nat):Int)=(j:Int)+1 by omega,free_succ] at ih;rw[r7_order.l1,if_pos (by omega),has_f out ho _ K (by omega),Option.bind_some,sml (a:=(j:Int)+1) (by omega) (by omega)]
    by_cases c:(j:Int)∈out
    · rw[decide_eq_true c,if_pos rfl];rw[if_pos c,List.append_nil] at ih;exact ih
    · rw[decide_eq_false c,if_neg (by simp)];rw[if_neg c,bst_snoc] at ih
      by_cases c2:freeTo out j=[]
      · rw[c2];rw[if_pos c2] at ih;rw[if_pos (by show(-1:Int)<0;omega)];exact ih
      · have hm:=free_mem.1 (bst_mem (soonB O ran) c2);rw[if_neg c2] at ih;rw[if_neg (by omega)];obtain⟨b,hb⟩:=Int.eq_ofNat_of_zero_le hm.1.1;rw[hb] at ih⊢;rw[sooner_f h hp hr (by omega) (by omega) K (by omega),Option.bind_some]
        cases c3:soonB O ran (j:Int) (b:Int) with
        |true=>rw[if_pos rfl];rw[if_pos c3] at ih;exact ih
        |false=>rw[if_neg (by simp)];rw[if_neg (by simp[c3])] at ih;exact ih
theorem order_l0:∀(k:Nat) (out:List Int) (K:Nat),out.length+k=O.length->(freeTo out O.length).length=k->20*k+1200≤K->r7_order.l0 K p out I N O=some (out++pickL O ran k (freeTo out O.length))
  |0,out,K+1,ho,hf,hK=>by
    rw[r7_order.l0,if_neg (by omega)];simp[pickL]
  |k+1,out,K+1,ho,hf,hK=>by
    have h8:=(tree_ok h).ol;have hne:freeTo out O.length≠[]:=by intro e;rw[e] at hf;cases hf
    rw[r7_order.l0,if_pos (by omega)]
    have key:=order_l1 h hp hr (out:=out) (by omega) (B:=20*k+1200) (by omega) (r:=some (out++pickL O ran (k+1) (freeTo out O.length))) (fun K hK=>by
      rw[← bst_best _ hne];have hb:=bestL_mem (lt:=soonB O ran) hne
      rw[order_l0 k (out++[bestL (soonB O ran) (freeTo out O.length)]) K (by simp;omega) (by
        rw[free_drop];have:=drop_len (free_nodup out O.length) hb
        omega) hK,free_drop]
      simp[pickL]) O.length 0 K (by omega) (by omega)
    exact key
theorem order_f (K:Nat) (hK:1400≤K):r7_order.f K I N O p=some (pickL O ran O.length (allTo O.length)):=by
  have h8:=(tree_ok h).ol;have e:freeTo [] O.length=allTo O.length:=by unfold freeTo;simp
  have:=order_l0 h hp hr O.length [] K (by simp) (by rw[e,all_len]) (by omega);rw[e] at this;exact this
end
section
variable (h:treeB I N O=true)
include h
theorem turns_l2 {plan:List (List Int)} (hpl:plan.length≤20) {d x:Int} {runs:List Int} (hrl:runs.length≤100) {r:Option (List (List Int))} {B:Nat} (hB:200≤B) (H:∀K,B≤K->r7_Turns.l0 K d (plan++[dayTo runs O.length]) (wrap64 (x+1)) I N O=r):
    ∀(n j K:Nat),j+n=O.length->B+n+1≤K->r7_Turns.l2 K d plan x runs (dayTo runs j) (j:Int) I N O=r
  |0,j,K+1,hj,hK=>by
    obtain rfl:j=O.length:=by omega
    rw[r7_Turns.l2,if_neg (by omega),Option.bind_some,if_pos (by simp;omega)];exact H K (by omega)
  |n+1,j,K+1,hj,hK=>by
    have h8:=(tree_ok h).ol;have ih:=turns_l2 hpl hrl hB H n (j+1) K (by omega) (by omega);rw[show ((j+1:Nat):Int)=(j:Int)+1 by omega,dayTo_succ] at ih
    have hl:(dayTo runs j).length≤j:=by
      have:=List.length_filter_le (fun i=>decide (i∈runs)) (allTo j);rw[all_len] at this;exact this
    rw[r7_Turns.l2,if_pos (by omega),has_f runs (by omega) _ K (by omega),Option.bind_some,sml (a:=(j:Int)+1) (by omega) (by omega)]
    by_cases c:(j:Int)∈runs
    · rw[decide_eq_true c,if_pos rfl,Option.bind_some,if_pos (by simp;omega)];rw[if_pos c] at ih;exact ih
    · rw[decide_eq_false c,if_neg (by simp)];rw[if_neg c,List.append_nil] at ih;exact ih
theorem turns_l1 {plan:List (List Int)} {d x:Int} {l:List Int} (hll:l.length≤8) (hl:∀z∈l,0≤z∧z<O.length) {r:Option (List (List Int))} {B:Nat} (hB:200≤B) (H:∀K,B≤K->r7_Turns.l2 K d plan x (l.foldl (takeD I N O) []) [] 0 I N O=r):
    ∀(n j K:Nat) (runs:List Int),j+n=l.length->B+n+1≤K->runs.length≤j->(∀ z∈runs,0≤z∧z<O.length)->(l.drop j).foldl (takeD I N O) runs=l.foldl (takeD I N O) []->r7_Turns.l1 K d plan x l runs (j:Int) I N O=r
  |0,j,K+1,runs,hj,hK,hrl,hrr,hf=>by
    rw[r7_Turns.l1,if_neg (by omega)];rw[List.drop_eq_nil_of_le (by omega)] at hf;have hf:runs=_:=hf;rw[hf];exact H K (by omega)
  |n+1,j,K+1,runs,hj,hK,hrl,hrr,hf=>by
    have h8:=(tree_ok h).ol;have hj':j<l.length:=by omega
    have hx:=hl _ (List.getElem_mem hj')
    have hn:∀z∈runs++[l[j]],0≤z∧z<O.length:=fun z hz=>by
      rcases List.mem_append.1 hz with e|e
      · exact hrr z e
      · rw[List.mem_singleton] at e;rw[e];exact hx
    rw[List.drop_eq_getElem_cons hj',List.foldl_cons] at hf;have ih:=fun rs a b c=>turns_l1 hll hl hB H n (j+1) K rs (by omega) (by omega) a b c;rw[show ((j+1:Nat):Int)=(j:Int)+1 by omega] at ih
    rw[r7_Turns.l1,if_pos (by omega),if_pos (by omega),if_pos (by simp;omega),Option.bind_some,Option.bind_some,if_pos (by simp;omega),Option.bind_some,rdE hj',List.nil_append,
      running_f (by omega) hn (by simp;omega) K (by simp;omega),Option.bind_some,runFits_f h _ K (by omega),Option.bind_some,sml (a:=(j:Int)+1) (by omega) (by omega)]
    unfold takeD at hf ih
    cases c:runB I N O (runs++[l[j]]) with
    |true=>
      rw[if_pos rfl];rw[if_pos c] at hf;exact ih (runs++[l[j]]) (by simp;omega) hn hf
    |false=>
      rw[if_neg (by simp)];rw[if_neg (by simp[c])] at hf;exact ih runs (by omega) hrr hf
theorem turns_slim (k:Nat) (hk:k≤12):slimP (turnsF I N O k).1:=by
  have h8:=(tree_ok h).ol;refine⟨by rw[(turns_len I N O k).1];omega,fun d hd=>?_⟩;obtain⟨i,hi,rfl⟩:=List.mem_iff_getElem.1 hd;rw[(turns_len I N O k).1] at hi;have e:=turns_at I N O k i hi;rw[List.getElem?_eq_getElem (by rw[(turns_len I N O k).1];exact hi)] at e;rw[Option.some.inj e];have:=List.length_filter_le (fun z=>decide (z∈dayOf I N O (turnsF I N O i).2)) (allTo O.length);rw[all_len] at this;unfold dayTo
  omega
theorem turns_l0 (D:Nat) (hD:D≤10):∀(n k K:Nat),k+n=D->100*n+1500≤K->r7_Turns.l0 K (D:Int) (turnsF I N O k).1 (k:Int) I N O=some (turnsF I N O D).1
  |0,k,K+1,hk,hK=>by
    rw[r7_Turns.l0,if_neg (by omega),show k=D by omega]
  |n+1,k,K+1,hk,hK=>by
    have h8:=(tree_ok h).ol;have hl:=turns_len I N O k;have hpm:=pick_mem (O:=O) (turnsF I N O k).2 O.length (allTo O.length) (all_len _) (all_nodup _);rw[r7_Turns.l0,if_pos (by omega),order_f h (turns_slim h k (by omega)) (ran:=(turnsF I N O k).2) (fun i hi=>by rw[hl.1,turns_ran hi k]) K (by omega),Option.bind_some];refine turns_l1 h (by rw[pick_len];omega) (fun z hz=>all_mem.1 (hpm z hz)) (B:=100*n+1550) (by omega) (fun K hK=>?_) O.length 0 K [] (by rw[pick_len];omega) (by omega) (by simp) (by simp) rfl;rw[pick_day]
    have hdl:(dayOf I N O (turnsF I N O k).2).length≤100:=by
      have:∀(j:Nat) (left d:List Int),(dayF I N O (turnsF I N O k).2 j left d).length≤d.length+j:=by
        intro j
        induction j with
        |zero=>intro left d;simp[dayF]
        |succ j ih=>
          intro left d;have a:=ih (dropL left (bestL (soonB O (turnsF I N O k).2) left)) (takeD I N O d (bestL (soonB O (turnsF I N O k).2) left));have b:(takeD I N O d (bestL (soonB O (turnsF I N O k).2) left)).length≤d.length+1:=by unfold takeD;split<;>simp
          show(dayF I N O _ j _ _).length≤_
          omega
      have:=this O.length (allTo O.length) [];unfold dayOf;simp only[List.length_nil] at this
      omega
    refine turns_l2 h (by omega) hdl (B:=100*n+1500) (by omega) (fun K hK=>?_) O.length 0 K (by omega) (by omega);rw[sml (by omega) (by omega)];have:=turns_l0 D hD n (k+1) K (by omega) hK;rw[show ((k+1:Nat):Int)=(k:Int)+1 by omega] at this;exact this
theorem turnsR_f {D:Nat} (hD:D≤10) (K:Nat) (hK:3000≤K):r7_Turns.f K I N O (D:Int)=some (turnsF I N O D).1:=by
  unfold r7_Turns.f;exact turns_l0 h D hD D 0 K (by omega) (by omega)
end
theorem sameP_l0 {p:List (List Int)} (hp:slimP p):∀(n j K:Nat),j+n=p.length->n+20<K->r7_SamePlans.l0 K p p (j:Int)=some true
  |0,j,K+1,hj,hK=>by
    unfold r7_SamePlans.l0;rw[if_neg (by omega)]
  |n+1,j,K+1,hj,hK=>by
    have ih:=sameP_l0 hp n (j+1) K (by omega) (by omega);rw[show ((j+1:Nat):Int)=(j:Int)+1 by omega] at ih;have h12:=hp.1;have hj':j<p.length:=by omega
    have hd:=hp.2 _ (List.getElem_mem hj');unfold r7_SamePlans.l0;rw[if_pos (by omega),if_pos (by omega),if_pos (by omega),rdL hj',same_f _ (by omega) K (by omega),Option.bind_some,if_pos rfl,sml (by omega) (by omega)];exact ih
theorem sameP_f {p:List (List Int)} (hp:slimP p) (K:Nat) (hK:50≤K):r7_SamePlans.f K p p=some true:=by
  have h12:=hp.1;unfold r7_SamePlans.f;rw[if_pos rfl];exact sameP_l0 hp p.length 0 K (by omega) (by omega)
end Rf
set_option linter.unusedSectionVars false
namespace Rf
variable {I:Int} {N:List SN} {O:List SO}
theorem turns_j2 (h:treeB I N O=true) {l:List (List Int)} (hl:slimP l) (K:Nat) (hK:20000≤K):q7_DroughtTurns.j2 K l (if planB O l=true then(runsB I N O l,(0:Int)) else(false,2)).1 (if planB O l=true then(runsB I N O l,(0:Int)) else(false,2)).2 I N O=some true:=by
  obtain⟨K,rfl⟩:∃k,K=k+1:=⟨K-1,by omega⟩;have h8:=(tree_ok h).ol;rw[q7_DroughtTurns.j2,plan_f (by omega) hl K (by omega),Option.bind_some]
  cases c:planB O l with
  |false=>rfl
  |true=>
    rw[if_pos rfl];simp only[if_true];rw[runs_f h hl c K (by omega),Option.bind_some,if_pos (by simp)]
    rfl
theorem DroughtTurns_pure (I:Int) (N:List SN) (O:List SO) (d:Int) (l:List (List Int)) (K:Nat) (hK:200000≤K):q7_DroughtTurns.f K I N O d l=some true:=by
  unfold q7_DroughtTurns.f;obtain⟨K,rfl⟩:∃k,K=k+1+1:=⟨K-2,by omega⟩;have bad:q7_DroughtTurns.j0 (K+1+1) d l true I N O=some true:=rfl;rw[short_f,Option.bind_some]
  cases hs:(decide (N.length≤8)&&decide (O.length≤10)) with
  |false=>rw[if_neg (by simp)];exact bad
  |true=>
    have hln:N.length≤8∧O.length≤10:=by simpa using hs
    rw[if_pos rfl];obtain⟨b,eb,hb⟩:=slim_f l (K+1+1) (by omega);rw[eb,Option.bind_some]
    cases b with
    |false=>exact bad
    |true=>
      have hl:=hb rfl;have eT:d7_Turns.f I N O d=some (turnsR I N O d):=by unfold d7_Turns.f;rw[if_pos ⟨by omega,by omega⟩]
      have eR:=runsC_f (I:=I) (N:=N) (O:=O) (by omega) (by omega) hl;simp only[Bool.not_true];rw[q7_DroughtTurns.j0,if_neg (by simp),eT,Option.bind_some,eR,Option.bind_some,tree_f I N O (by omega) (by omega) _ (by omega),Option.bind_some];unfold turnsR
      cases c1:treeB I N O with
      |false=>rfl
      |true=>
        have fin:=turns_j2 c1 hl K (by omega);simp only[Bool.true_and,if_true]
        by_cases c2:0≤d∧d≤10
        · have hi:inB d 0 10=true:=inB_t.mpr c2;obtain⟨D,rfl⟩:=Int.eq_ofNat_of_zero_le c2.1
          rw[if_neg (by omega),decide_eq_false (by omega),hi,if_pos rfl,q7_DroughtTurns.j1,if_neg (by simp),if_pos rfl,turnsR_f c1 (by omega) K (by omega),Option.bind_some,
            show((D:Nat):Int).toNat=D by omega,sameP_f (turns_slim c1 D (by omega)) K (by omega),Option.bind_some,if_pos rfl]
          exact fin
        · have hi:inB d 0 10=false:=by rw[Bool.eq_false_iff];intro e;exact c2 (inB_t.mp e)
          have key:q7_DroughtTurns.j1 (K+1) d l [] 2 (if planB O l=true then(runsB I N O l,(0:Int)) else(false,2)).1 (if planB O l=true then(runsB I N O l,(0:Int)) else(false,2)).2 true I N O=some true:=by
            rw[q7_DroughtTurns.j1,if_pos rfl,if_pos rfl,if_pos (by rfl)];exact fin
          simp only[hi,Bool.false_eq_true,if_false]
          by_cases c3:d<0
          · rw[if_pos c3];exact key
          · rw[if_neg c3,decide_eq_true (by omega)];exact key
end Rf
theorem DroughtTurns_law (I:Int) (A0 A1:Option Addr) (c0 c1:Nat) (N:List SN) (O:List SO) (d:Int) (A2:Option Addr) (c2:Nat) (l:List (List Int)) (w:World) (hT:TabW w) (h0:At' k77 w A0 N.length c0 N) (h1:At' k51 w A1 O.length c1 O) (h2:At' (Kd.slice 3 (Kd.int .i64)) w A2 l.length c2 l):
    Calls Tryz.prog 6 #[.agg #[.int .i64 I,.slice A0 N.length c0,.slice A1 O.length c1],.int .i64 d,.slice A2 l.length c2] w fun e w'=>e=.returned (.bool true)∧Below w.heap.size w w':=
  q7_DroughtTurns.calls 200000 I A0 c0 N A1 c1 O d A2 c2 l true w h0.c h0.le h1.c h1.le h2.c h2.le hT (Rf.DroughtTurns_pure I N O d l 200000 (by omega))
end Go.Proofs.YtjioobfeikbffabGreatDoor.K
end
