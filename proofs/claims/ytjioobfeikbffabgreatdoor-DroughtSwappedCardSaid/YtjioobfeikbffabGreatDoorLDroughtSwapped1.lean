/- DroughtSwapped: the walk of the law, and what it comes to. -/
import Derived.Test.YtjioobfeikbffabGreatDoorLDroughtSwapped
set_option linter.unusedVariables false
set_option linter.unusedSimpArgs false
section
namespace Go.Proofs.YtjioobfeikbffabGreatDoor.K
open Dr Go.RowKit Go.Proofs.Zw Go.Proofs.Zl Go.Proofs.Zm
namespace Rf
variable {I:Int} {N:List SN} {O:List SO}
def insB (d:List Int) (gone come i:Int):Bool:=decide (i=come)||!decide (i=gone)&&decide (i∈d)
def insTo (d:List Int) (gone come:Int) (j:Nat):List Int:=(allTo j).filter (insB d gone come)
theorem insTo_succ (d:List Int) (g c:Int) (j:Nat):insTo d g c (j+1)=insTo d g c j++if insB d g c j=true then [(j:Int)] else []:=by
  unfold insTo allTo;rw[List.range_succ,List.map_append,List.filter_append]
  congr 1
  by_cases h:insB d g c j=true<;>simp[h]
theorem insTo_len (d:List Int) (g c:Int) (j:Nat):(insTo d g c j).length≤j:=by
  have:=List.length_filter_le (insB d g c) (allTo j);rw[all_len] at this;exact this
theorem insTo_p (d:List Int) (g c:Int):DayP O (insTo d g c O.length):=by
  constructor
  · intro z hz;exact all_mem.1 (List.mem_filter.1 hz).1
  · refine List.Pairwise.filter _ ?_;unfold allTo;rw[List.pairwise_map];exact List.pairwise_lt_range.imp (fun h=>by omega)
theorem insTo_mem {d:List Int} {g c x:Int}:x∈insTo d g c O.length↔(0≤x∧x<O.length)∧(x=c∨x≠g∧x∈d):=by
  unfold insTo;rw[List.mem_filter,all_mem];simp[insB]
theorem instead_l0 (hO:O.length≤1000) {d:List Int} (hd:d.length≤1000) (g c:Int):
    ∀(n j K:Nat),j+n=O.length→n+1001<K→r7_instead.l0 K d g c (insTo d g c j) (j:Int) I N O=some (insTo d g c O.length)
  |0,j,K+1,hj,hK=>by
    unfold r7_instead.l0;rw[if_neg (by omega),show j=O.length by omega]
  |n+1,j,K+1,hj,hK=>by
    have ih:=instead_l0 hO hd g c n (j+1) K (by omega) (by omega);rw[show ((j+1:Nat):Int)=(j:Int)+1 by omega,insTo_succ] at ih;have hl:=insTo_len d g c j;unfold r7_instead.l0;rw[if_pos (by omega),sml (a:=(j:Int)+1) (by omega) (by omega)]
    by_cases h1:(j:Int)=c
    · rw[if_pos h1,if_pos (by omega)];rw[if_pos (by simp[insB,h1])] at ih;exact ih
    · rw[if_neg h1]
      by_cases h2:(j:Int)=g
      · rw[if_pos h2];rw[if_neg (by simp[insB,h1,h2];intro e;exact absurd e.symm (fun e2=>h1 (h2.trans (e2.symm)))),List.append_nil] at ih;exact ih
      · rw[if_neg h2,has_f d hd _ K (by omega),Option.bind_some]
        by_cases h3:(j:Int)∈d
        · rw[decide_eq_true h3,if_pos rfl,if_pos (by omega)];rw[if_pos (by simp[insB,h1,h2,h3])] at ih;exact ih
        · rw[decide_eq_false h3,if_neg (by simp)];rw[if_neg (by simp[insB,h1,h2,h3]),List.append_nil] at ih;exact ih
theorem instead_f (hO:O.length≤1000) {d:List Int} (hd:d.length≤1000) (g c:Int) (K:Nat) (hK:2010≤K):r7_instead.f K I N O d g c=some (insTo d g c O.length):=by
  unfold r7_instead.f;exact instead_l0 hO hd g c O.length 0 K (by omega) (by omega)
theorem mem_instead {d:List Int} {g c x:Int}:x∈insteadL d g c↔x=c∨x≠g∧x∈d:=by
  unfold insteadL;rw[(sortL_perm _).mem_iff,List.mem_append,List.mem_singleton];unfold withoutL;rw[List.mem_filter];simp only[Bool.not_eq_true',beq_eq_false_iff_ne,ne_eq]
  constructor
  · rintro(⟨a,b⟩|e)
    · exact .inr ⟨b,a⟩
    · exact .inl e
  · rintro(e|⟨a,b⟩)
    · exact .inr e
    · exact .inl ⟨b,a⟩
theorem run_instead {d:List Int} {g c:Int} (hd:∀z∈d,0≤z∧z<O.length) (hc:0≤c∧c<O.length):runB I N O (insteadL d g c)=runB I N O (insTo d g c O.length):=
  run_same fun z=>by
    rw[mem_instead,insTo_mem]
    constructor
    · rintro(e|⟨a,b⟩)
      · exact⟨by omega,.inl e⟩
      · exact⟨hd z b,.inr ⟨a,b⟩⟩
    · exact fun h=>h.2
def exB (I:Int) (N:List SN) (O:List SO) (l:List (List Int)) (one other:Int) (x y:Nat):Bool:=!decide (x=y)&&swapB I N O (l.getD x []) (l.getD y []) one other
def exAt (O:List SO) (l:List (List Int)) (one other:Int) (x y d:Nat):List Int:=if d=y then insTo (l.getD d []) other one O.length else if d=x then insTo (l.getD d []) one other O.length else l.getD d []
def exTo (O:List SO) (l:List (List Int)) (one other:Int) (x y j:Nat):List (List Int):=(List.range j).map (exAt O l one other x y)
theorem getDL {l:List (List Int)} {j:Nat} (h:j<l.length):l.getD j []=l[j]:=by simp[List.getD,List.getElem?_eq_getElem h]
theorem exTo_at {l:List (List Int)} {one other:Int} {x y j d:Nat} (h:d<j):(exTo O l one other x y j).getD d []=exAt O l one other x y d:=by
  simp[exTo,List.getD,h]
section
variable (h:treeB I N O=true) {l:List (List Int)} (hl:slimP l) (hp:planB O l=true) (hr:runsB I N O l=true) {one other:Int} (h1:0≤one∧one<O.length) (h2:0≤other∧other<O.length)
include hp in
theorem plan_at {d:Nat} (hd:d<l.length):DayP O (l.getD d []):=by rw[getDL hd];exact(plan_days hp).2 _ (List.getElem_mem hd)
include hl in
theorem slim_at {d:Nat} (hd:d<l.length):(l.getD d []).length≤10:=by rw[getDL hd];exact hl.2 _ (List.getElem_mem hd)
include hp in
theorem exAt_p {x y d:Nat} (hd:d<l.length):DayP O (exAt O l one other x y d):=by
  unfold exAt
  split
  · exact insTo_p _ _ _
  · split
    · exact insTo_p _ _ _
    · exact plan_at hp hd
include hp in
theorem exTo_plan (x y:Nat):planB O (exTo O l one other x y l.length)=true:=by
  refine days_plan (by have:=(plan_days hp).1;simpa[exTo] using this) fun d hd=>?_;unfold exTo at hd;obtain⟨k,hk,rfl⟩:=List.mem_map.1 hd;exact exAt_p hp (List.mem_range.1 hk)
include h hl in
theorem exTo_slim (x y:Nat):slimP (exTo O l one other x y l.length):=by
  have h8:=(tree_ok h).ol;refine⟨by have:=hl.1;simpa[exTo] using this,fun d hd=>?_⟩;unfold exTo at hd;obtain⟨k,hk,rfl⟩:=List.mem_map.1 hd;unfold exAt
  split
  · exact Nat.le_trans (insTo_len _ _ _ _) (by omega)
  · split
    · exact Nat.le_trans (insTo_len _ _ _ _) (by omega)
    · exact slim_at hl (List.mem_range.1 hk)
include hr in
theorem run_at' {d:Nat} (hd:d<l.length):runB I N O (l.getD d [])=true:=by
  rw[runs_is,List.all_eq_true] at hr;rw[getDL hd];exact hr _ (List.getElem_mem hd)
include hp hr h1 h2 in

theorem exTo_runs {x y:Nat} (hx:x<l.length) (hy:y<l.length) (hxy:x≠y):runsB I N O (exTo O l one other x y l.length)=runsB I N O [insteadL (l.getD x []) one other,insteadL (l.getD y []) other one]:=by
  have ex:=run_instead (I:=I) (N:=N) (g:=one) (plan_at hp hx).rng h2;have ey:=run_instead (I:=I) (N:=N) (g:=other) (plan_at hp hy).rng h1;rw[runs_is,runs_is,Bool.eq_iff_iff];simp only[List.all_cons,List.all_nil,Bool.and_true,Bool.and_eq_true,ex,ey];rw[List.all_eq_true]
  constructor
  · intro ha;have a1:=ha (exAt O l one other x y x) (List.mem_map.2 ⟨x,List.mem_range.2 hx,rfl⟩);have a2:=ha (exAt O l one other x y y) (List.mem_map.2 ⟨y,List.mem_range.2 hy,rfl⟩);unfold exAt at a1 a2;rw[if_neg hxy,if_pos rfl] at a1;rw[if_pos rfl] at a2;exact⟨a1,a2⟩
  · rintro⟨a1,a2⟩ d hd;obtain⟨k,hk,rfl⟩:=List.mem_map.1 hd;unfold exAt
    split
    · rename_i e;rw[e];exact a2
    · split
      · rename_i e;rw[e];exact a1
      · exact run_at' hr (List.mem_range.1 hk)
include h hl hp in
theorem swapped_l0 {x y:Nat} (hxy:x≠y):∀(n j K:Nat),j+n=l.length→n+2100≤K→
    r7_Swapped.l0 K l one other (x:Int) (y:Int) (exTo O l one other x y j) (j:Int) I N O=some (exTo O l one other x y l.length,runsB I N O (exTo O l one other x y l.length))
  |0,j,K+1,hj,hK=>by
    unfold r7_Swapped.l0;rw[if_neg (by omega),show j=l.length by omega,runs_f h (exTo_slim h hl x y) (exTo_plan hp x y) K (by omega),Option.bind_some]
  |n+1,j,K+1,hj,hK=>by
    have ih:=swapped_l0 hxy n (j+1) K (by omega) (by omega);have hj':j<l.length:=by omega
    have h12:=hl.1;have h8:=(tree_ok h).ol;have hd:=slim_at hl hj';rw[getDL hj'] at hd;have es:exTo O l one other x y (j+1)=exTo O l one other x y j++[exAt O l one other x y j]:=by unfold exTo;rw[List.range_succ,List.map_append];rfl
    have el:(exTo O l one other x y j).length=j:=by simp[exTo]
    rw[show ((j+1:Nat):Int)=(j:Int)+1 by omega,es] at ih;unfold exAt at ih;rw[getDL hj'] at ih;unfold r7_Swapped.l0;rw[if_pos (by omega),if_pos (by omega),rdL hj',if_pos (by simp;omega),sml (a:=(j:Int)+1) (by omega) (by omega)]
    by_cases cx:j=x
    · rw[if_pos (by omega),instead_f (by omega) (by omega) _ _ K (by omega),Option.bind_some,if_neg (by omega),if_pos (by omega)];rw[if_neg (by omega),if_pos cx] at ih;exact ih
    · rw[if_neg (by omega)]
      by_cases cy:j=y
      · rw[if_pos (by omega),instead_f (by omega) (by omega) _ _ K (by omega),Option.bind_some,if_pos (by omega)];rw[if_pos cy] at ih;exact ih
      · rw[if_neg (by omega),if_pos (by omega),List.nil_append];rw[if_neg cy,if_neg cx] at ih;exact ih
include h hl hp hr h1 h2 in
theorem swapped_f {x y:Nat} (hx:x<l.length) (hy:y<l.length) (K:Nat) (hK:3000≤K):
    ∃q,r7_Swapped.f K I N O l one other (x:Int) (y:Int)=some (q,exB I N O l one other x y)∧(exB I N O l one other x y=true→q=exTo O l one other x y l.length):=by
  obtain⟨K,rfl⟩:∃k,K=k+1:=⟨K-1,by omega⟩;have h12:=hl.1;have hdx:=slim_at hl hx;have hdy:=slim_at hl hy;have bad:∀b,b=false→∃q,r7_Swapped.j0 (K+1) l one other (x:Int) (y:Int) true I N O=some (q,b)∧(b=true→q=exTo O l one other x y l.length):=fun b hb=>⟨[],by subst hb;rfl,fun e=>by rw[hb] at e;cases e⟩;unfold r7_Swapped.f exB
  by_cases hxy:x=y
  · rw[if_pos (by omega)];exact bad _ (by simp[hxy])
  · rw[if_neg (by omega),if_pos (by omega),if_pos (by omega),rdL hx,←getDL hx,has_f _ (by omega) _ _ (by omega),Option.bind_some];unfold swapB
    by_cases c1:one∈l.getD x []
    · rw[decide_eq_true c1,if_pos rfl,has_f _ (by omega) _ _ (by omega),Option.bind_some]
      by_cases c2:other∈l.getD x []
      · rw[decide_eq_true c2,if_pos rfl];exact bad _ (by simp)
      · rw[decide_eq_false c2,if_neg (by simp),if_pos (by omega),if_pos (by omega),rdL hy,←getDL hy,has_f _ (by omega) _ _ (by omega),Option.bind_some]
        by_cases c3:other∈l.getD y []
        · rw[decide_eq_true c3,if_pos rfl,has_f _ (by omega) _ _ (by omega),Option.bind_some]
          by_cases c4:one∈l.getD y []
          · rw[decide_eq_true c4];exact bad _ (by simp)
          · rw[decide_eq_false c4,decide_eq_false hxy];have e0:=swapped_l0 h hl hp hxy l.length 0 K (by omega) (by omega) (one:=one) (other:=other);rw[exTo_runs hp hr h1 h2 hx hy hxy] at e0;exact⟨exTo O l one other x y l.length,e0,fun _=>rfl⟩
        · rw[decide_eq_false c3,if_neg (by simp)];exact bad _ (by simp)
    · rw[decide_eq_false c1,if_neg (by simp)];exact bad _ (by simp)
def FirstE (l:List (List Int)) (P:Nat→Nat→Bool) (x y:Nat):Prop:=x<l.length∧y<l.length∧P x y=true∧∀x' y',x'<l.length→y'<l.length→(x'<x∨x'=x∧y'<y)→P x' y'=false
def NoneE (l:List (List Int)) (P:Nat→Nat→Bool):Prop:=∀x y,x<l.length→y<l.length→P x y=false
include h hl hp h1 h2 in
theorem swapS_f {x y:Nat} (hx:x<l.length) (hy:y<l.length):d7_swaps.f I N O (l.getD x []) (l.getD y []) one other=some (swapB I N O (l.getD x []) (l.getD y []) one other):=by
  have ht:=tree_ok h;have h6:=ht.nl;have h8:=ht.ol
  have sm:∀ {d:Nat},d<l.length→smallE (l.getD d [])=true:=fun {d} hd=>by
    have a:=slim_at hl hd;have b:=(plan_at hp hd).rng;simp only[smallE,Bool.and_eq_true,decide_eq_true_eq,List.all_eq_true];exact⟨by omega,fun y hy=>by have:=b y hy;omega⟩
  unfold d7_swaps.f;rw[if_pos ⟨⟨ht.n,ht.o,by omega,by omega⟩,⟨sm hx,sm hy⟩,⟨by omega,by omega⟩,by omega,by omega⟩]
include h hl hp h1 h2 in
theorem swapsC_l1 {x:Nat} (hx:x<l.length) (hb:∀x' y',x'<x→y'<l.length→exB I N O l one other x' y'=false) {B:Nat}
    (H:(∀ y',y'<l.length→exB I N O l one other x y'=false)→∀K,B≤K→∃r,d7_Swaps.l0 K l one other l (l.length:Int) ((x:Int)+1) I N O=some r∧((∃ x y:Nat,r=((x:Int),(y:Int),0)∧FirstE l (exB I N O l one other) x y)∨r=(0,0,5)∧NoneE l (exB I N O l one other))):
    ∀(n k K:Nat),k+n=l.length→B+n+1≤K→(∀ y',y'<k→exB I N O l one other x y'=false)→∃r,d7_Swaps.l1 K l one other (x:Int) (l.getD x []) l (l.length:Int) (x:Int) l (l.length:Int) (k:Int) I N O=some r∧((∃ x y:Nat,r=((x:Int),(y:Int),0)∧FirstE l (exB I N O l one other) x y)∨r=(0,0,5)∧NoneE l (exB I N O l one other))
  |0,k,K+1,hk,hK,hn=>by
    have h12:=hl.1;unfold d7_Swaps.l1;rw[if_neg (by omega),sml (by omega) (by omega)];exact H (fun y' hy'=>hn y' (by omega)) K (by omega)
  |n+1,k,K+1,hk,hK,hn=>by
    have h12:=hl.1;have hk':k<l.length:=by omega
    have next:exB I N O l one other x k=false→∃r,d7_Swaps.l1 K l one other (x:Int) (l.getD x []) l (l.length:Int) (x:Int) l (l.length:Int) ((k:Int)+1) I N O=some r∧((∃ x y:Nat,r=((x:Int),(y:Int),0)∧FirstE l (exB I N O l one other) x y)∨r=(0,0,5)∧NoneE l (exB I N O l one other)):=fun hc=>by
      have:=swapsC_l1 hx hb H n (k+1) K (by omega) (by omega) (fun y' hy'=>by
        by_cases e:y'=k
        · rw[e];exact hc
        · exact hn y' (by omega))
      rw[show ((k+1:Nat):Int)=(k:Int)+1 by omega] at this;exact this
    unfold d7_Swaps.l1;rw[if_pos (by omega),if_pos (by omega),if_pos (by omega),sml (by omega) (by omega)]
    by_cases e:x=k
    · rw[if_pos (by omega)];exact next (by simp[exB,e])
    · rw[if_neg (by omega),rdL hk',←getDL hk',swapS_f h hl hp h1 h2 hx hk',Option.bind_some];have ee:exB I N O l one other x k=swapB I N O (l.getD x []) (l.getD k []) one other:=by unfold exB;rw[decide_eq_false e];rfl
      rw[← ee]
      cases hc:exB I N O l one other x k with
      |true=>
        rw[if_pos rfl];refine⟨_,rfl,.inl ⟨x,k,rfl,hx,hk',hc,fun x' y' a b c=>?_⟩⟩
        rcases c with c|⟨rfl,c⟩
        · exact hb x' y' c b
        · exact hn y' c
      |false=>rw[if_neg (by simp)];exact next hc
include h hl hp h1 h2 in
theorem swapsC_l0:∀(n x K:Nat),x+n=l.length→20*n+1≤K→(∀ x' y',x'<x→y'<l.length→exB I N O l one other x' y'=false)→
    ∃r,d7_Swaps.l0 K l one other l (l.length:Int) (x:Int) I N O=some r∧((∃ x y:Nat,r=((x:Int),(y:Int),0)∧FirstE l (exB I N O l one other) x y)∨r=(0,0,5)∧NoneE l (exB I N O l one other))
  |0,x,K+1,hx,hK,hb=>by
    unfold d7_Swaps.l0;rw[if_neg (by omega)];exact⟨_,rfl,.inr ⟨rfl,fun x' y' a b=>hb x' y' (by omega) b⟩⟩
  |n+1,x,K+1,hx,hK,hb=>by
    have h12:=hl.1;have hx':x<l.length:=by omega
    unfold d7_Swaps.l0;rw[if_pos (by omega),if_pos (by omega),if_pos (by omega),rdL hx',←getDL hx'];refine swapsC_l1 h hl hp h1 h2 (x:=x) hx' hb (B:=20*n+1) (fun hn K hK=>?_) l.length 0 K (by omega) (by omega) (fun y' hy'=>by omega)
    have:=swapsC_l0 n (x+1) K (by omega) hK (fun x' y' a b=>by
      by_cases e:x'=x
      · rw[e];exact hn y' b
      · exact hb x' y' (by omega) b)
    rw[show ((x+1:Nat):Int)=(x:Int)+1 by omega] at this;exact this
end
def swapOk (I:Int) (N:List SN) (O:List SO) (l:List (List Int)) (one other:Int):Bool:=treeB I N O&&planB O l&&inB one 0 (O.length-1)&&inB other 0 (O.length-1)&&!decide (one=other)&&runsB I N O l
theorem swapsC_f (hN:N.length≤1000) (hO:O.length≤1000) {l:List (List Int)} (hl:slimP l) (one other:Int) (K:Nat) (hK:1000≤K):
    ∃r,d7_Swaps.f K I N O l one other=some r∧(if swapOk I N O l one other=true then((∃ x y:Nat,r=((x:Int),(y:Int),0)∧FirstE l (exB I N O l one other) x y)∨r=(0,0,5)∧NoneE l (exB I N O l one other)) else r=(0,0,2)):=by
  obtain⟨K,rfl⟩:∃k,K=k+1:=⟨K-1,by omega⟩;have bad:∀b,b=false→∃r,d7_Swaps.j0 (K+1) l one other true I N O=some r∧(if b=true then((∃ x y:Nat,r=((x:Int),(y:Int),0)∧FirstE l (exB I N O l one other) x y)∨r=(0,0,5)∧NoneE l (exB I N O l one other)) else r=(0,0,2)):=fun b hb=>⟨_,rfl,by rw[if_neg (by simp[hb])]⟩;unfold d7_Swaps.f swapOk;rw[isTreeC_f hN hO,Option.bind_some]
  cases c1:treeB I N O with
  |false=>rw[if_neg (by simp)];exact bad _ (by simp)
  |true=>
    rw[if_pos rfl,isPlanC_f hO,Option.bind_some]
    cases c2:planB O l with
    |false=>rw[if_neg (by simp)];exact bad _ (by simp)
    |true=>
      rw[if_pos rfl,isOutletC_f hO,Option.bind_some]
      cases c3:inB one 0 (O.length-1) with
      |false=>rw[if_neg (by simp)];exact bad _ (by simp)
      |true=>
        rw[if_pos rfl,isOutletC_f hO,Option.bind_some]
        cases c4:inB other 0 (O.length-1) with
        |false=>rw[if_neg (by simp)];exact bad _ (by simp)
        |true=>
          rw[if_pos rfl]
          by_cases c5:one=other
          · rw[if_pos c5,decide_eq_true c5];exact bad _ (by simp)
          · rw[if_neg c5,decide_eq_false c5,runsS_f c1 hl c2,Option.bind_some]
            cases c6:runsB I N O l with
            |false=>exact bad _ (by simp)
            |true=>
              have a1:=inB_t.mp c3;have a2:=inB_t.mp c4;have h12:=hl.1;exact swapsC_l0 c1 hl c2 ⟨a1.1,by omega⟩ ⟨a2.1,by omega⟩ l.length 0 K (by omega) (by omega) (fun x' y' a=>by omega)
theorem days_l0 {l:List (List Int)} (hl:slimP l) (z:Int):∀(n j K:Nat),j+n=l.length→n+20≤K→r7_Days.l0 K l z (daysTo l z j) (j:Int)=some (daysTo l z l.length)
  |0,j,K+1,hj,hK=>by
    unfold r7_Days.l0;rw[if_neg (by omega),show j=l.length by omega]
  |n+1,j,K+1,hj,hK=>by
    have ih:=days_l0 hl z n (j+1) K (by omega) (by omega);have h12:=hl.1;have hj':j<l.length:=by omega
    have hd:=slim_at hl hj'
    have hb:0≤daysTo l z j∧daysTo l z j≤j:=by
      have:∀k:Nat,0≤daysTo l z k∧daysTo l z k≤k:=fun k=>by
        induction k with
        |zero=>simp[daysTo]
        |succ k ih=>simp only[daysTo];split<;>omega
      exact this j
    rw[show ((j+1:Nat):Int)=(j:Int)+1 by omega] at ih;simp only[daysTo] at ih;unfold r7_Days.l0;rw[if_pos (by omega),if_pos (by omega),rdL hj',←getDL hj',has_f _ (by omega) _ _ (by omega),Option.bind_some,sml (a:=(j:Int)+1) (by omega) (by omega)]
    by_cases c:z∈l.getD j []
    · rw[decide_eq_true c,if_pos rfl,sml (by omega) (by omega)];rw[if_pos c] at ih;exact ih
    · rw[decide_eq_false c,if_neg (by simp)];rw[if_neg c,Int.add_zero] at ih;exact ih
theorem days_f {l:List (List Int)} (hl:slimP l) (z:Int) (K:Nat) (hK:50≤K):r7_Days.f K l z=some (daysTo l z l.length):=by
  have h12:=hl.1;unfold r7_Days.f;exact days_l0 hl z l.length 0 K (by omega) (by omega)
end Rf
set_option linter.unusedSectionVars false
namespace Rf
variable {I:Int} {N:List SN} {O:List SO}
theorem days_tot (p:List (List Int)) (z:Int):∀k:Nat,daysTo p z k=tot k (fun d=>if z∈p.getD d [] then 1 else 0)
  |0=>rfl
  |k+1=>by simp only[daysTo,tot,days_tot p z k]
section
variable (h:treeB I N O=true) {l:List (List Int)} (hl:slimP l) (hp:planB O l=true) (hr:runsB I N O l=true) {one other:Int} (h1:0≤one∧one<O.length) (h2:0≤other∧other<O.length)
theorem ex_facts {x y:Nat} (he:exB I N O l one other x y=true):x≠y∧one∈l.getD x []∧one∉l.getD y []∧other∈l.getD y []∧other∉l.getD x []∧runsB I N O [insteadL (l.getD x []) one other,insteadL (l.getD y []) other one]=true:=by
  unfold exB swapB at he;simp only[Bool.and_eq_true,Bool.not_eq_true',decide_eq_true_eq,decide_eq_false_iff_not] at he;exact⟨he.1,he.2.1.1.1.1,he.2.1.1.1.2,he.2.1.1.2,he.2.1.2,he.2.2⟩
include hp hr h1 h2 in

theorem ex_back {x y:Nat} (hx:x<l.length) (hy:y<l.length) (he:exB I N O l one other x y=true):exB I N O (exTo O l one other x y l.length) other one x y=true:=by
  obtain⟨f1,f2,f3,f4,f5,f6⟩:=ex_facts he;have hne:one≠other:=fun e=>f5 (e▸f2);have ex:exAt O l one other x y x=insTo (l.getD x []) one other O.length:=by unfold exAt;rw[if_neg f1,if_pos rfl]
  have ey:exAt O l one other x y y=insTo (l.getD y []) other one O.length:=by unfold exAt;rw[if_pos rfl]
  have px:=(plan_at hp hx).rng;have py:=(plan_at hp hy).rng
  have rx:runB I N O (insteadL (insTo (l.getD x []) one other O.length) other one)=true:=by
    rw[run_same (d':=l.getD x []) fun z=>?_]
    · exact run_at' hr hx
    · rw[mem_instead,insTo_mem]
      constructor
      · rintro(e|⟨a,_,b|⟨_,b⟩⟩)
        · rw[e];exact f2
        · exact absurd b a
        · exact b
      · intro hz
        by_cases e:z=one
        · exact .inl e
        · exact .inr ⟨fun e2=>f5 (e2▸hz),px z hz,.inr ⟨e,hz⟩⟩
  have ry:runB I N O (insteadL (insTo (l.getD y []) other one O.length) one other)=true:=by
    rw[run_same (d':=l.getD y []) fun z=>?_]
    · exact run_at' hr hy
    · rw[mem_instead,insTo_mem]
      constructor
      · rintro(e|⟨a,_,b|⟨_,b⟩⟩)
        · rw[e];exact f4
        · exact absurd b a
        · exact b
      · intro hz
        by_cases e:z=other
        · exact .inl e
        · exact .inr ⟨fun e2=>f3 (e2▸hz),py z hz,.inr ⟨e,hz⟩⟩
  unfold exB swapB;rw[exTo_at hx,exTo_at hy,ex,ey,runs_is];have m1:other∈insTo (l.getD x []) one other O.length:=insTo_mem.2 ⟨h2,.inl rfl⟩
  have m2:other∉insTo (l.getD y []) other one O.length:=fun hz=>by
    rcases(insTo_mem.1 hz).2 with e|e
    · exact hne e.symm
    · exact e.1 rfl
  have m3:one∈insTo (l.getD y []) other one O.length:=insTo_mem.2 ⟨h1,.inl rfl⟩
  have m4:one∉insTo (l.getD x []) one other O.length:=fun hz=>by
    rcases(insTo_mem.1 hz).2 with e|e
    · exact hne e
    · exact e.1 rfl
  rw[decide_eq_true m1,decide_eq_false m2,decide_eq_true m3,decide_eq_false m4,decide_eq_false f1];simp only[List.all_cons,List.all_nil,rx,ry]
  rfl
include hp h1 h2 in

theorem ex_days {x y:Nat} (hx:x<l.length) (hy:y<l.length) (he:exB I N O l one other x y=true) (z:Int) (hz:0≤z∧z<O.length):daysTo (exTo O l one other x y l.length) z l.length=daysTo l z l.length:=by
  obtain⟨f1,f2,f3,f4,f5,f6⟩:=ex_facts he;have hne:one≠other:=fun e=>f5 (e▸f2);have ex:exAt O l one other x y x=insTo (l.getD x []) one other O.length:=by unfold exAt;rw[if_neg f1,if_pos rfl]
  have ey:exAt O l one other x y y=insTo (l.getD y []) other one O.length:=by unfold exAt;rw[if_pos rfl]
  rw[days_tot,days_tot]
  have hF:∀d,d<l.length→(fun d=>if z∈(exTo O l one other x y l.length).getD d [] then(1:Int) else 0) d=(fun d=>if z∈exAt O l one other x y d then(1:Int) else 0) d:=fun d hd=>by
    show(if z∈(exTo O l one other x y l.length).getD d [] then(1:Int) else 0)=_
    rw[exTo_at hd]
  rw[tot_congr hF];have k1:=tot_at (m:=l.length) (f:=fun d=>if d=x then(if z∈exAt O l one other x y x then(1:Int) else 0) else(if z∈l.getD d [] then 1 else 0)) (g:=fun d=>if z∈l.getD d [] then(1:Int) else 0) hx (fun i _ hi=>by show(if i=x then _ else _)=_;rw[if_neg hi])
  have k2:=tot_at (m:=l.length) (f:=fun d=>if z∈exAt O l one other x y d then(1:Int) else 0) (g:=fun d=>if d=x then(if z∈exAt O l one other x y x then(1:Int) else 0) else(if z∈l.getD d [] then 1 else 0)) hy (fun i _ hi=>by
    show _=(if i=x then _ else _)
    by_cases e:i=x
    · rw[if_pos e,e]
    · rw[if_neg e]
      show(if z∈exAt O l one other x y i then(1:Int) else 0)=_
      unfold exAt
      rw[if_neg hi,if_neg e])
  rw[k2,k1];rw[if_pos rfl,if_neg f1.symm,ex,ey];have mx:=insTo_mem (O:=O) (d:=l.getD x []) (g:=one) (c:=other) (x:=z);have my:=insTo_mem (O:=O) (d:=l.getD y []) (g:=other) (c:=one) (x:=z)
  by_cases e1:z=one
  · subst e1
    rw[if_neg (show z∉insTo (l.getD x []) z other O.length from fun h=>by
        rcases(mx.1 h).2 with e|e
        · exact hne e
        · exact e.1 rfl),if_pos (show z∈insTo (l.getD y []) other z O.length from my.2 ⟨hz,.inl rfl⟩),if_pos f2,if_neg f3]
    omega
  · by_cases e2:z=other
    · subst e2
      rw[if_pos (show z∈insTo (l.getD x []) one z O.length from mx.2 ⟨hz,.inl rfl⟩),if_neg (show z∉insTo (l.getD y []) z one O.length from fun h=>by
        rcases(my.1 h).2 with e|e
        · exact hne e.symm
        · exact e.1 rfl),if_neg f5,if_pos f4]
      omega
    · have gx:z∈insTo (l.getD x []) one other O.length↔z∈l.getD x []:=mx.trans ⟨fun h=>h.2.elim (fun e=>absurd e e2) (fun e=>e.2),fun h=>⟨hz,.inr ⟨e1,h⟩⟩⟩;have gy:z∈insTo (l.getD y []) other one O.length↔z∈l.getD y []:=my.trans ⟨fun h=>h.2.elim (fun e=>absurd e e1) (fun e=>e.2),fun h=>⟨hz,.inr ⟨e2,h⟩⟩⟩;simp only[gx,gy]
      omega
include h hl hp h1 h2 in
theorem swd_l0 {x y:Nat} (hx:x<l.length) (hy:y<l.length) (he:exB I N O l one other x y=true):∀(n j K:Nat),j+n=O.length→n+100≤K→q7_DroughtSwapped.l0 K l (exTo O l one other x y l.length) (j:Int) I N O=some true
  |0,j,K,hj,hK=>by
    obtain⟨K,rfl⟩:∃k,K=k+1+1:=⟨K-2,by omega⟩;unfold q7_DroughtSwapped.l0;rw[if_neg (by omega)]
    rfl
  |n+1,j,K,hj,hK=>by
    obtain⟨K,rfl⟩:∃k,K=k+1:=⟨K-1,by omega⟩;have h8:=(tree_ok h).ol;have ih:=swd_l0 hx hy he n (j+1) K (by omega) (by omega);rw[show ((j+1:Nat):Int)=(j:Int)+1 by omega] at ih;have el:(exTo O l one other x y l.length).length=l.length:=by simp[exTo]
    have e1:=days_f (exTo_slim h hl (one:=one) (other:=other) x y) (j:Int) K (by omega);rw[el,ex_days hp h1 h2 hx hy he (j:Int) ⟨by omega,by omega⟩] at e1;unfold q7_DroughtSwapped.l0;rw[if_pos (by omega),e1,Option.bind_some,days_f hl _ _ (by omega),Option.bind_some,if_pos rfl,sml (by omega) (by omega)];exact ih
include h hl hp hr h1 h2 in
theorem swd_j1 {x y:Nat} (hx:x<l.length) (hy:y<l.length) (he:exB I N O l one other x y=true) (K:Nat) (hK:10000≤K):q7_DroughtSwapped.j1 K l one other (x:Int) (y:Int) false I N O=some true:=by
  obtain⟨K,rfl⟩:∃k,K=k+1+1:=⟨K-2,by omega⟩;have ht:=tree_ok h;have h6:=ht.nl;have h8:=ht.ol;obtain⟨f1,f2,f3,f4,f5,f6⟩:=ex_facts he;have hne:one≠other:=fun e=>f5 (e▸f2);obtain⟨q,eq,hq⟩:=swapped_f h hl hp hr h1 h2 hx hy (K+1) (by omega);have hq:=hq he;subst hq;rw[he] at eq;have sl:=exTo_slim h hl (one:=one) (other:=other) x y;have pl:=exTo_plan hp (one:=one) (other:=other) x y;have rn:runsB I N O (exTo O l one other x y l.length)=true:=by rw[exTo_runs hp hr h1 h2 hx hy f1];exact f6
  have el:(exTo O l one other x y l.length).length=l.length:=by simp[exTo]
  have e2:=runsC_f (I:=I) (N:=N) (O:=O) (by omega) (by omega) sl;rw[h,pl,if_pos (by rfl),rn] at e2;obtain⟨r,er,hr2⟩:=swapsC_f (I:=I) (N:=N) (O:=O) (by omega) (by omega) sl other one (K+1) (by omega);have c1:inB one 0 (O.length-1)=true:=inB_t.mpr ⟨h1.1,by omega⟩;have c2:inB other 0 (O.length-1)=true:=inB_t.mpr ⟨h2.1,by omega⟩;rw[if_pos (by simp[swapOk,h,pl,rn,c1,c2,Ne.symm hne])] at hr2
  have hr3:∃a b:Int,r=(a,b,0):=by
    rcases hr2 with⟨a,b,e,_⟩|⟨_,hn⟩
    · exact⟨_,_,e⟩
    · have:=hn x y (by omega) (by omega);rw[ex_back hp hr h1 h2 hx hy he] at this
      cases this
  obtain⟨a,b,rfl⟩:=hr3;have fin:=swd_l0 h hl hp h1 h2 hx hy he O.length 0 K (by omega) (by omega);unfold q7_DroughtSwapped.j1
  dsimp only
  rw[if_neg (by simp),eq,Option.bind_some]
  dsimp only
  rw[if_pos rfl,e2,Option.bind_some,er,Option.bind_some]
  dsimp only
  rw[if_pos rfl,if_pos rfl];exact fin
end
theorem DroughtSwapped_pure (I:Int) (N:List SN) (O:List SO) (l:List (List Int)) (one other f s:Int) (K:Nat) (hK:200000≤K):q7_DroughtSwapped.f K I N O l one other f s=some true:=by
  unfold q7_DroughtSwapped.f;obtain⟨K,rfl⟩:∃k,K=k+1+1:=⟨K-2,by omega⟩;have bad:q7_DroughtSwapped.j0 (K+1+1) l one other f s true I N O=some true:=rfl;rw[short_f,Option.bind_some]
  cases hs:(decide (N.length≤8)&&decide (O.length≤10)) with
  |false=>rw[if_neg (by simp)];exact bad
  |true=>
    have hln:N.length≤8∧O.length≤10:=by simpa using hs
    rw[if_pos rfl];obtain⟨b,eb,hb⟩:=slim_f l (K+1+1) (by omega);rw[eb,Option.bind_some]
    cases b with
    |false=>rw[if_neg (by simp)];exact bad
    |true=>
      have hl:=hb rfl;rw[if_pos rfl,tree_f I N O (by omega) (by omega) _ (by omega),Option.bind_some]
      cases c1:treeB I N O with
      |false=>rw[if_neg (by simp)];exact bad
      |true=>
        rw[if_pos rfl,plan_f (by omega) hl _ (by omega),Option.bind_some]
        cases c2:planB O l with
        |false=>rw[if_neg (by simp)];exact bad
        |true=>
          rw[if_pos rfl,runs_f c1 hl c2 _ (by omega),Option.bind_some]
          cases c3:runsB I N O l with
          |false=>rw[if_neg (by simp)];exact bad
          |true=>
            rw[if_pos rfl,outlet_f I N O (by omega),Option.bind_some]
            cases c4:inB one 0 (O.length-1) with
            |false=>rw[if_neg (by simp)];exact bad
            |true=>
              rw[if_pos rfl,outlet_f I N O (by omega),Option.bind_some]
              cases c5:inB other 0 (O.length-1) with
              |false=>rw[if_neg (by simp)];exact bad
              |true=>
                rw[if_pos rfl]
                by_cases c6:one=other
                · rw[if_pos c6];exact bad
                · rw[if_neg c6]
                  by_cases g1:f<0
                  · rw[if_pos g1];exact bad
                  · rw[if_neg g1]
                    by_cases g2:f≥(l.length:Int)
                    · rw[if_pos g2];exact bad
                    · rw[if_neg g2]
                      by_cases g3:s<0
                      · rw[if_pos g3];exact bad
                      · rw[if_neg g3]
                        by_cases g4:s≥(l.length:Int)
                        · rw[decide_eq_true g4];exact bad
                        · rw[decide_eq_false g4];obtain⟨u,rfl⟩:=Int.eq_ofNat_of_zero_le (show 0≤f by omega);obtain⟨v,rfl⟩:=Int.eq_ofNat_of_zero_le (show 0≤s by omega);have a1:=inB_t.mp c4;have a2:=inB_t.mp c5;have h1:0≤one∧one<O.length:=⟨a1.1,by omega⟩;have h2:0≤other∧other<O.length:=⟨a2.1,by omega⟩;obtain⟨q,eq,hq⟩:=swapped_f c1 hl c2 c3 h1 h2 (x:=u) (y:=v) (by omega) (by omega) (K+1) (by omega);obtain⟨r,er,hr⟩:=swapsC_f (I:=I) (N:=N) (O:=O) (by omega) (by omega) hl one other (K+1) (by omega);rw[if_pos (by simp[swapOk,c1,c2,c3,c4,c5,c6])] at hr;simp only[q7_DroughtSwapped.j0,Bool.false_eq_true,if_false];rw[er,Option.bind_some,eq,Option.bind_some]
                          rcases hr with⟨x,y,rfl,hf⟩|⟨rfl,hn⟩
                          · obtain⟨k1,k2,k3,k4⟩:=hf;have fin:=swd_j1 c1 hl c2 c3 h1 h2 k1 k2 k3 (K+1) (by omega)
                            dsimp only
                            rw[if_pos rfl,if_neg (by omega),if_neg (by omega),if_neg (by omega),if_neg (by omega)]
                            cases ce:exB I N O l one other u v with
                            |false=>rw[if_neg (by simp)];exact fin
                            |true=>
                              have kk:¬(u<x∨u=x∧v<y):=fun e=>by rw[k4 u v (by omega) (by omega) e] at ce;cases ce
                              rw[if_pos rfl,if_neg (by omega)]
                              by_cases e:(u:Int)=x
                              · rw[if_pos e,decide_eq_false (by omega)];exact fin
                              · rw[if_neg e];exact fin
                          · have:=hn u v (by omega) (by omega);rw[this]
                            rfl
end Rf
theorem DroughtSwapped_law (I:Int) (A0 A1:Option Addr) (c0 c1:Nat) (N:List SN) (O:List SO) (A2:Option Addr) (c2:Nat) (l:List (List Int)) (one:Int) (other:Int) (f:Int) (s:Int) (w:World) (hT:TabW w) (h0:At' k77 w A0 N.length c0 N) (h1:At' k51 w A1 O.length c1 O) (h2:At' (Kd.slice 3 (Kd.int .i64)) w A2 l.length c2 l):
    Calls Tryz.prog 8 #[.agg #[.int .i64 I,.slice A0 N.length c0,.slice A1 O.length c1],.slice A2 l.length c2,.int .i64 one,.int .i64 other,.int .i64 f,.int .i64 s] w fun e w'=>e=.returned (.bool true)∧Below w.heap.size w w':=
  q7_DroughtSwapped.calls 200000 I A0 c0 N A1 c1 O A2 c2 l one other f s true w h0.c h0.le h1.c h1.le h2.c h2.le hT (Rf.DroughtSwapped_pure I N O l one other f s 200000 (by omega))
end Go.Proofs.YtjioobfeikbffabGreatDoor.K
end
