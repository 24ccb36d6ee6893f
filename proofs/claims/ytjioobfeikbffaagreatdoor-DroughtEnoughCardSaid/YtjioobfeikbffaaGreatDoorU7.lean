/- The walks of the functions that the laws of this seat call, and what they compute; joined out of smaller texts, part 7. -/
import Derived.Deep.Slices
import Derived.ProofKit
import Derived.OpenShut
import Derived.Test.YtjioobfeikbffaaGreatDoorU6
set_option linter.unusedVariables false
set_option linter.unusedSimpArgs false
section
namespace Go.Proofs.YtjioobfeikbffaaGreatDoor.K
open Go.RowKit Go.Deep Go.ChangeShapes Go.WideShapes Go.ChangeAt Go.Proofs.YtjioobfeikbffaaGreatDoorW.PrintWords Go.Proofs.YtjioobfeikbffaaGreatDoorW.PrintLast Go.Proofs.YtjioobfeikbffaaGreatDoorW.PrintMore
set_option maxRecDepth 100000
section
variable {H:Type} {enc:TypeId×Value→H} {w:World} {base:Nat} {spare:Nat→Bool} {held:Bool} {fuel:Nat} {cs:List Value} {x:DataW H×List MemPlace}
theorem list1 {α:Type} {l:List α} (h:l.length=1):∃a,l=[a]:=by
  cases l with
  |nil=>cases h
  |cons a l=>cases l with
    |nil=>exact⟨a,rfl⟩
    |cons b l=>simp at h
theorem list_succ {α:Type} {l:List α} {n:Nat} (h:l.length=n+1):∃a m,l=a::m∧m.length=n:=by
  cases l with
  |nil=>simp at h
  |cons a m=>exact⟨a,m,rfl,by simpa using h⟩
theorem el_int {fuel:Nat} {cs:List Value} {x:DataW H×List MemPlace} (h:DataW.trod enc Tryz.prog w base spare held fuel 3 cs=some x):∃z:Int,cs=[.int .i64 z]:=by
  obtain⟨z,e,_⟩:=DataW.trod_int Tryz.underlying3 h;exact⟨z,e⟩
theorem some_at {α:Type} {xs:List α} {i:Nat} (h:i<xs.length):∃y,xs[i]? =some y:=⟨_,List.getElem?_eq_getElem h⟩
theorem choose_list {α:Type} {P:Nat→α→Prop}:∀n:Nat,(∀ j,j<n→∃a,P j a)→∃xs:List α,xs.length=n∧∀j p,xs[j]? =some p→P j p
  |0,_=>⟨[],rfl,fun j p h=>by simp at h⟩
  |n+1,h=>by
    obtain⟨xs,hl,hx⟩:=choose_list n (fun j hj=>h j (by omega));obtain⟨a,ha⟩:=h n (by omega);refine⟨xs++[a],by simp[hl],fun j p hp=>?_⟩
    by_cases hj:j<xs.length
    · rw[List.getElem?_append_left hj] at hp;exact hx j p hp
    · rw[List.getElem?_append_right (by omega)] at hp
      have:j=n:=by
        have:=(List.getElem?_eq_some_iff.1 hp).1;simp at this;omega
      subst this;rw[hl,Nat.sub_self] at hp;obtain rfl:a=p:=by simpa using hp
      exact ha
theorem open_rows {α:Type} (d:Kd α) {t e:TypeId} {fuel:Nat} {cs:List Value} {x:DataW H×List MemPlace} (encs:α→List Value) (ht:Tryz.prog.underlying t=some (.slice e)) (hsz:Tryz.prog.cellsOf e=d.sz) (hn:∀a,(encs a).length=d.sz) (h0:0<d.sz) (hK:∀a,d.K w a (encs a))
    (hel:∀(fuel:Nat) (cs:List Value) (x:DataW H×List MemPlace),DataW.trod enc Tryz.prog w base spare held fuel e cs=some x→∃a,cs=encs a) (h:DataW.trod enc Tryz.prog w base spare held fuel t cs=some x):
    ∃(A:Option Addr) (xs:List α) (c:Nat),cs=[.slice A xs.length c]∧Kd.C d w A xs.length xs∧xs.length≤c∧xs.length≤maxLen:=by
  rcases open_slice ht h with⟨rfl,_⟩|⟨a,len,cap,m,n,D,Pl,rfl,_,hl,hm,hmm,_,hall⟩
  · exact⟨none,[],0,rfl,⟨rfl,by simp,fun h=>absurd h (by simp)⟩,Nat.le_refl _,Nat.zero_le _⟩
  · have hlm:len≤m:=by rw[hmm];split<;>omega
    obtain⟨xs,hxl,hx⟩:=choose_list (P:=fun j (p:α)=>w.cells? base (a.add (j*d.sz)) d.sz=some (encs p)) len (fun j hj=>by
      obtain⟨cs',h1,h2⟩:=hall j (by omega);obtain⟨p,rfl⟩:=hel _ _ _ h2;rw[hsz] at h1
      exact⟨p,h1⟩)
    refine⟨some a,xs,cap,by rw[hxl],⟨rfl,by rw[hxl];unfold maxLen at hm;omega,fun _=>⟨a,rfl,fun j p hp=>⟨encs p,hn p,hK p,fun i u hi=>?_⟩⟩⟩,by omega,by omega⟩;have h1:=World.cells?_some (hx j p hp);have hi':i<d.sz:=by have:=(List.getElem?_eq_some_iff.1 hi).1;rw[hn] at this;exact this
    have h2:=h1.2.2 i hi';rw[hi] at h2
    have h3:a.add (j*d.sz+i)=(a.add (j*d.sz)).add i:=by
      unfold Addr.add
      by_cases e1:j*d.sz=0<;>by_cases e2:i=0<;>simp[e1,e2]<;>omega
    rw[h3];exact h2
theorem el_node {fuel:Nat} {cs:List Value} {x:DataW H×List MemPlace} (h:DataW.trod enc Tryz.prog w base spare held fuel 85 cs=some x):∃s:S85,cs=[.int .i64 s.f0,.int .i64 s.f1]:=by
  obtain⟨xs,n,-,-,hl,hx,hf⟩:=DataW.trod_struct Tryz.underlying85 h;rw[show Tryz.prog.cellsOf 85=2 by kernel_rfl] at hl;obtain⟨a,m1,rfl,hl1⟩:=list_succ hl;obtain⟨b,rfl⟩:=list1 hl1;have hx:xs.length=2:=hx;obtain⟨y0,h0⟩:=some_at (xs:=xs) (i:=0) (by omega);obtain⟨y1,h1⟩:=some_at (xs:=xs) (i:=1) (by omega);have f0:=(hf 0 _ rfl).trans h0;have f1:=(hf 1 _ rfl).trans h1
  change DataW.trod enc Tryz.prog w base spare held n 3 (([a,b].drop 0).take (Tryz.prog.cellsOf 3))=_ at f0
  rw[show Tryz.prog.cellsOf 3=1 by kernel_rfl] at f0;replace f0:DataW.trod enc Tryz.prog w base spare held n 3 [a]=_:=f0
  change DataW.trod enc Tryz.prog w base spare held n 3 (([a,b].drop 1).take (Tryz.prog.cellsOf 3))=_ at f1
  rw[show Tryz.prog.cellsOf 3=1 by kernel_rfl] at f1;replace f1:DataW.trod enc Tryz.prog w base spare held n 3 [b]=_:=f1;obtain⟨z0,e0⟩:=el_int f0;obtain⟨z1,e1⟩:=el_int f1
  cases e0
  cases e1
  exact⟨⟨z0,z1⟩,rfl⟩
theorem el_outlet {fuel:Nat} {cs:List Value} {x:DataW H×List MemPlace} (h:DataW.trod enc Tryz.prog w base spare held fuel 50 cs=some x):∃s:S50,cs=[.int .i64 s.f0,.int .i64 s.f1,.int .i64 s.f2]:=by
  obtain⟨xs,n,-,-,hl,hx,hf⟩:=DataW.trod_struct Tryz.underlying50 h;rw[show Tryz.prog.cellsOf 50=3 by kernel_rfl] at hl;obtain⟨a,m1,rfl,hl1⟩:=list_succ hl;obtain⟨b,m2,rfl,hl2⟩:=list_succ hl1;obtain⟨c,rfl⟩:=list1 hl2;have hx:xs.length=3:=hx;obtain⟨y0,h0⟩:=some_at (xs:=xs) (i:=0) (by omega);obtain⟨y1,h1⟩:=some_at (xs:=xs) (i:=1) (by omega);obtain⟨y2,h2⟩:=some_at (xs:=xs) (i:=2) (by omega);have f0:=(hf 0 _ rfl).trans h0;have f1:=(hf 1 _ rfl).trans h1;have f2:=(hf 2 _ rfl).trans h2
  change DataW.trod enc Tryz.prog w base spare held n 3 (([a,b,c].drop 0).take (Tryz.prog.cellsOf 3))=_ at f0
  rw[show Tryz.prog.cellsOf 3=1 by kernel_rfl] at f0;replace f0:DataW.trod enc Tryz.prog w base spare held n 3 [a]=_:=f0
  change DataW.trod enc Tryz.prog w base spare held n 3 (([a,b,c].drop 1).take (Tryz.prog.cellsOf 3))=_ at f1
  rw[show Tryz.prog.cellsOf 3=1 by kernel_rfl] at f1;replace f1:DataW.trod enc Tryz.prog w base spare held n 3 [b]=_:=f1
  change DataW.trod enc Tryz.prog w base spare held n 3 (([a,b,c].drop 2).take (Tryz.prog.cellsOf 3))=_ at f2
  rw[show Tryz.prog.cellsOf 3=1 by kernel_rfl] at f2;replace f2:DataW.trod enc Tryz.prog w base spare held n 3 [c]=_:=f2;obtain⟨z0,e0⟩:=el_int f0;obtain⟨z1,e1⟩:=el_int f1;obtain⟨z2,e2⟩:=el_int f2
  cases e0
  cases e1
  cases e2
  exact⟨⟨z0,z1,z2⟩,rfl⟩
theorem rows_nodes {fuel:Nat} {cs:List Value} {x:DataW H×List MemPlace} (h:DataW.trod enc Tryz.prog w base spare held fuel 22 cs=some x):∃(A:Option Addr) (xs:List S85) (c:Nat),cs=[.slice A xs.length c]∧At' k85 w A xs.length c xs:=by
  obtain⟨A,xs,c,h1,h2,h3,_⟩:=open_rows k85 (fun s=>[.int .i64 s.f0,.int .i64 s.f1]) Tryz.underlying22 (by kernel_rfl) (fun _=>rfl) (by decide) (fun s=>k85_mk w s) (fun _ _ _ h=>el_node h) h;exact⟨A,xs,c,h1,h2,h3⟩
theorem rows_outlets {fuel:Nat} {cs:List Value} {x:DataW H×List MemPlace} (h:DataW.trod enc Tryz.prog w base spare held fuel 23 cs=some x):∃(A:Option Addr) (xs:List S50) (c:Nat),cs=[.slice A xs.length c]∧At' k50 w A xs.length c xs:=by
  obtain⟨A,xs,c,h1,h2,h3,_⟩:=open_rows k50 (fun s=>[.int .i64 s.f0,.int .i64 s.f1,.int .i64 s.f2]) Tryz.underlying23 (by kernel_rfl) (fun _=>rfl) (by decide) (fun s=>k50_mk w s) (fun _ _ _ h=>el_outlet h) h;exact⟨A,xs,c,h1,h2,h3⟩
theorem agg_list {cs:Array Value} {l:List Value} (h:cs.toList=l):cs=l.toArray:=by rw[← h]
theorem open_tree {v:Value} {dd:DataW H} {p:List MemPlace} (hv:Value.okWide Tryz.prog w .any base 25 v) (h:DataW.Trod enc Tryz.prog w 0 spare held 25 v dd p):
    ∃(I:Int) (A0:Option Addr) (N:List S85) (c0:Nat) (A1:Option Addr) (O:List S50) (c1:Nat),v=.agg #[.int .i64 I,.slice A0 N.length c0,.slice A1 O.length c1]∧At' k85 w A0 N.length c0 N∧At' k50 w A1 O.length c1 O:=by
  obtain⟨cs,rfl,-⟩:=okWide_struct Tryz.underlying25 hv;obtain⟨fuel,h⟩:=h;obtain⟨xs,n,-,-,hl,hx,hf⟩:=DataW.trod_struct Tryz.underlying25 h;rw[show Tryz.prog.cellsOf 25=3 by kernel_rfl] at hl;obtain⟨a,m1,e1,hl1⟩:=list_succ hl;obtain⟨b,m2,rfl,hl2⟩:=list_succ hl1;obtain⟨c,rfl⟩:=list1 hl2;rw[e1] at hf;have hx:xs.length=3:=hx;obtain⟨y0,h0⟩:=some_at (xs:=xs) (i:=0) (by omega);obtain⟨y1,h1⟩:=some_at (xs:=xs) (i:=1) (by omega);obtain⟨y2,h2⟩:=some_at (xs:=xs) (i:=2) (by omega);have f0:=(hf 0 _ rfl).trans h0;have f1:=(hf 1 _ rfl).trans h1;have f2:=(hf 2 _ rfl).trans h2
  change DataW.trod enc Tryz.prog w 0 spare held n 3 (([a,b,c].drop 0).take (Tryz.prog.cellsOf 3))=_ at f0
  rw[show Tryz.prog.cellsOf 3=1 by kernel_rfl] at f0;replace f0:DataW.trod enc Tryz.prog w 0 spare held n 3 [a]=_:=f0
  change DataW.trod enc Tryz.prog w 0 spare held n 22 (([a,b,c].drop 1).take (Tryz.prog.cellsOf 22))=_ at f1
  rw[show Tryz.prog.cellsOf 22=1 by kernel_rfl] at f1;replace f1:DataW.trod enc Tryz.prog w 0 spare held n 22 [b]=_:=f1
  change DataW.trod enc Tryz.prog w 0 spare held n 23 (([a,b,c].drop 2).take (Tryz.prog.cellsOf 23))=_ at f2
  rw[show Tryz.prog.cellsOf 23=1 by kernel_rfl] at f2;replace f2:DataW.trod enc Tryz.prog w 0 spare held n 23 [c]=_:=f2;obtain⟨z0,k0⟩:=el_int f0;obtain⟨A0,N,c0,k1,g0⟩:=rows_nodes f1;obtain⟨A1,O,c1,k2,g1⟩:=rows_outlets f2
  cases k0
  cases k1
  cases k2
  have e1:cs.toList=_:=e1;exact⟨z0,A0,N,c0,A1,O,c1,by rw[agg_list e1],g0,g1⟩
theorem open_num {v:Value} {dd:DataW H} {p:List MemPlace} (hv:Value.okWide Tryz.prog w .any base 3 v) (h:DataW.Trod enc Tryz.prog w 0 spare held 3 v dd p):∃z:Int,v=.int .i64 z∧(Lit.int .i64 z).wf=true:=by
  obtain⟨n,e,_,hn⟩:=open_int Tryz.underlying3 hv h;exact⟨n,e,hn.2⟩
end
end Go.Proofs.YtjioobfeikbffaaGreatDoor.K
end
