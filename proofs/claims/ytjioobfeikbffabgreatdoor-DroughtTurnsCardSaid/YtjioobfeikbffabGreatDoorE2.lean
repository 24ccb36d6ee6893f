/- The walks of the functions that the laws of this seat call, and what they compute; joined out of smaller texts, part 2. -/
import Derived.Test.YtjioobfeikbffabGreatDoorProg
import Derived.Below
import Derived.Deep.Draws
import Derived.Deep.AppendLies
import Derived.Maps.AppendAt
import Derived.OwnWalk
import Derived.Laws.BytesArg
import Derived.Laws.MakeOwn
import Derived.Laws.OwnMore
import Derived.Deep.OwnRows
import Derived.Tactics
import Derived.Lib.ConvBytes
import Derived.Laws.Slices
import Derived.WalkKit
import Derived.KernelRfl
import Derived.RowKit3
import Derived.Deep.LoopGhost
import Derived.Deep.QuietTactic
import Derived.BigQuiet
import Derived.WideLaws
import Derived.Deep.DeepCutAuto
import Derived.Deep.CutBlock
import Derived.Deep.RegionHeld3
import Derived.Laws.Rows
import Derived.Lib.AppendStr
import Derived.ArgAppend
import Derived.Laws.IdiomCopy
import Derived.OrdersHeld
import Derived.Laws.BitsLemmas
import Derived.RowKit
import Derived.Shelf.Abstract
import Derived.RangeFuncNested
import Derived.RangeFuncBound
import Derived.RangeFuncCalls
import Derived.RangeFuncLeaves
import Derived.RangeFuncWrites
import Derived.Shelf.RegionOpen
import Derived.OwnWalkIn
import Derived.TacticsInMore
import Derived.LoopNIn
import Derived.LoopIn
import Derived.Scope
import Derived.Defers
import Derived.Recover
import Derived.Laws.Pointers
import Derived.WalkMore
import Derived.Outline
import Derived.Test.YtjioobfeikbffabGreatDoorE1
set_option linter.unusedVariables false
set_option linter.unusedSimpArgs false
namespace Go.Proofs.YtjioobfeikbffabGreatDoor.K
theorem uD {p:Prop} [Decidable p] (h:decide p=true:=by first|(with_reducible assumption)|assumption):p:=of_decide_eq_true h
end Go.Proofs.YtjioobfeikbffabGreatDoor.K
section
namespace Go.Proofs.YtjioobfeikbffabGreatDoor.K
open Go.RowKit Go.Proofs.Zw Go.Proofs.Zl Go.Proofs.Zm
attribute [local go_sem] max2_int min2_int max_two min_two max_three min_three max_four min_four
def errW:Option Int->Value
  |none=>.nilIface
  |some c=>.iface 0 (.int .i64 c)
theorem errW_none:errW none=.nilIface:=rfl
theorem errW_some (c:Int):errW (some c)=.iface 0 (.int .i64 c):=rfl
theorem info3:(Tryz.prog.info? 3).map (fun i=>(i.zero,i.size,i.bytes))=some (some (.int .i64 0),1,8):=by kernel_rfl
theorem info9:(Tryz.prog.info? 9).map (fun i=>(i.zero,i.size,i.bytes))=some (some (.string ⟨#[]⟩),1,16):=by kernel_rfl
theorem info30:(Tryz.prog.info? 30).map (fun i=>(i.zero,i.size,i.bytes))=some (some (.slice none 0 0),1,24):=by kernel_rfl
theorem info51:(Tryz.prog.info? 51).map (fun i=>(i.zero,i.size,i.bytes))=some (some (.agg #[(.int .i64 0),(.int .i64 0),(.int .i64 0)]),3,24):=by kernel_rfl
theorem info77:(Tryz.prog.info? 77).map (fun i=>(i.zero,i.size,i.bytes))=some (some (.agg #[(.int .i64 0),(.int .i64 0)]),2,16):=by kernel_rfl
theorem info91:(Tryz.prog.info? 91).map (fun i=>(i.zero,i.size,i.bytes))=some (some (.agg #[(.int .i64 0),(.int .i64 0)]),2,16):=by kernel_rfl
structure S77 where
  f0:Int
  f1:Int
def z77:S77:=⟨(0:Int),(0:Int)⟩
def k77:Kd S77:=Kd.iso (Kd.pair (Kd.int .i64) (Kd.int .i64)) (fun x:S77=>(x.f0,x.f1))
theorem k77_open {w:World} {x:S77} {cs:List Value} (h:k77.K w x cs):cs=[.int .i64 x.f0,.int .i64 x.f1]:=by
  obtain⟨_,_,rfl,rfl,rfl⟩:=h;exact rfl
theorem k77_openM {w:World} {base:Nat} {ok:Nat->Prop} {x:S77} {cs:List Value} (h:k77.M w base ok x cs):cs=[.int .i64 x.f0,.int .i64 x.f1]:=by
  obtain⟨_,_,rfl,rfl,rfl⟩:=h;exact rfl
theorem k77_mk (w:World) (x:S77):k77.K w x [.int .i64 x.f0,.int .i64 x.f1]:=⟨[.int .i64 x.f0],[.int .i64 x.f1],rfl,rfl,rfl⟩
theorem k77_mkM (w:World) (base:Nat) (ok:Nat->Prop) (x:S77):k77.M w base ok x [.int .i64 x.f0,.int .i64 x.f1]:=⟨[.int .i64 x.f0],[.int .i64 x.f1],rfl,rfl,rfl⟩
def rd_T77 (xs:List S77) (i:Int):S77:=xs.getD i.toNat z77
theorem at_T77 {w:World} {A:Option Addr} {n:Nat} {xs:List S77} (h:Kd.C k77 w A n xs) (i:Int) (h0:0≤i) (h1:i<n):∃ad,A=some ad∧w.cell? (ad.add (i.toNat*2))=some (.int .i64 (rd_T77 xs i).f0)∧w.cell? ⟨(ad.add (i.toNat*2)).block,(ad.add (i.toNat*2)).off+1,none⟩=some (.int .i64 (rd_T77 xs i).f1):=by
  obtain⟨ad,c,e,_,hK,hc0⟩:=Kd.C_get h z77 i h0 h1;have hc:∀j u,c[j]? =some u->w.cell? (ad.add (i.toNat*2+j))=some u:=hc0;obtain rfl:=k77_open hK;exact⟨ad,e,hc 0 _ rfl,by rw[← add_field _ _ 1 (by omega)];exact hc 1 _ rfl⟩
structure S51 where
  f0:Int
  f1:Int
  f2:Int
def z51:S51:=⟨(0:Int),(0:Int),(0:Int)⟩
def k51:Kd S51:=Kd.iso (Kd.pair (Kd.int .i64) (Kd.pair (Kd.int .i64) (Kd.int .i64))) (fun x:S51=>(x.f0,x.f1,x.f2))
theorem k51_open {w:World} {x:S51} {cs:List Value} (h:k51.K w x cs):cs=[.int .i64 x.f0,.int .i64 x.f1,.int .i64 x.f2]:=by
  obtain⟨_,_,rfl,rfl,⟨_,_,rfl,rfl,rfl⟩⟩:=h;exact rfl
theorem k51_mk (w:World) (x:S51):k51.K w x [.int .i64 x.f0,.int .i64 x.f1,.int .i64 x.f2]:=⟨[.int .i64 x.f0],[.int .i64 x.f1,.int .i64 x.f2],rfl,rfl,⟨[.int .i64 x.f1],[.int .i64 x.f2],rfl,rfl,rfl⟩⟩
theorem k51_mkM (w:World) (base:Nat) (ok:Nat->Prop) (x:S51):k51.M w base ok x [.int .i64 x.f0,.int .i64 x.f1,.int .i64 x.f2]:=⟨[.int .i64 x.f0],[.int .i64 x.f1,.int .i64 x.f2],rfl,rfl,⟨[.int .i64 x.f1],[.int .i64 x.f2],rfl,rfl,rfl⟩⟩
def rd_T51 (xs:List S51) (i:Int):S51:=xs.getD i.toNat z51
theorem at_T51 {w:World} {A:Option Addr} {n:Nat} {xs:List S51} (h:Kd.C k51 w A n xs) (i:Int) (h0:0≤i) (h1:i<n):∃ad,A=some ad∧w.cell? (ad.add (i.toNat*3))=some (.int .i64 (rd_T51 xs i).f0)∧w.cell? ⟨(ad.add (i.toNat*3)).block,(ad.add (i.toNat*3)).off+1,none⟩=some (.int .i64 (rd_T51 xs i).f1)∧w.cell? ⟨(ad.add (i.toNat*3)).block,(ad.add (i.toNat*3)).off+2,none⟩=some (.int .i64 (rd_T51 xs i).f2):=by
  obtain⟨ad,c,e,_,hK,hc0⟩:=Kd.C_get h z51 i h0 h1;have hc:∀j u,c[j]? =some u->w.cell? (ad.add (i.toNat*3+j))=some u:=hc0;obtain rfl:=k51_open hK;exact⟨ad,e,hc 0 _ rfl,by rw[← add_field _ _ 1 (by omega)];exact hc 1 _ rfl,by rw[← add_field _ _ 2 (by omega)];exact hc 2 _ rfl⟩
def rd_L5 (xs:List (List Int)) (i:Int):(List Int):=xs.getD i.toNat ([]:List Int)
theorem at_L5 {w:World} {A:Option Addr} {n:Nat} {xs:List (List Int)} (h:Kd.C (Kd.slice 3 (Kd.int .i64)) w A n xs) (i:Int) (h0:0≤i) (h1:i<n):∃ad A0 c0,A=some ad∧w.cell? (ad.add i.toNat)=some (.slice A0 (rd_L5 xs i).length c0)∧(rd_L5 xs i).length≤c0∧(Kd.int .i64).C w A0 (rd_L5 xs i).length (rd_L5 xs i):=by
  obtain⟨ad,c,e,_,hK,hc0⟩:=Kd.C_get h ([]:List Int) i h0 h1;have hc:∀j u,c[j]? =some u->w.cell? (ad.add (i.toNat*1+j))=some u:=hc0;obtain⟨A0,c0,rfl,l0,g0⟩:=hK;exact⟨ad,A0,c0,e,by have hq:=hc 0 _ rfl;rwa [Nat.mul_one,Nat.add_zero] at hq,l0,g0⟩
structure S91 where
  f0:Int
  f1:Int
def z91:S91:=⟨(0:Int),(0:Int)⟩
def k91:Kd S91:=Kd.iso (Kd.pair (Kd.int .i64) (Kd.int .i64)) (fun x:S91=>(x.f0,x.f1))
theorem k91_open {w:World} {x:S91} {cs:List Value} (h:k91.K w x cs):cs=[.int .i64 x.f0,.int .i64 x.f1]:=by
  obtain⟨_,_,rfl,rfl,rfl⟩:=h;exact rfl
theorem k91_mk (w:World) (x:S91):k91.K w x [.int .i64 x.f0,.int .i64 x.f1]:=⟨[.int .i64 x.f0],[.int .i64 x.f1],rfl,rfl,rfl⟩
theorem k91_mkM (w:World) (base:Nat) (ok:Nat->Prop) (x:S91):k91.M w base ok x [.int .i64 x.f0,.int .i64 x.f1]:=⟨[.int .i64 x.f0],[.int .i64 x.f1],rfl,rfl,rfl⟩
def rd_T91 (xs:List S91) (i:Int):S91:=xs.getD i.toNat z91
theorem at_T91 {w:World} {A:Option Addr} {n:Nat} {xs:List S91} (h:Kd.C k91 w A n xs) (i:Int) (h0:0≤i) (h1:i<n):∃ad,A=some ad∧w.cell? (ad.add (i.toNat*2))=some (.int .i64 (rd_T91 xs i).f0)∧w.cell? ⟨(ad.add (i.toNat*2)).block,(ad.add (i.toNat*2)).off+1,none⟩=some (.int .i64 (rd_T91 xs i).f1):=by
  obtain⟨ad,c,e,_,hK,hc0⟩:=Kd.C_get h z91 i h0 h1;have hc:∀j u,c[j]? =some u->w.cell? (ad.add (i.toNat*2+j))=some u:=hc0;obtain rfl:=k91_open hK;exact⟨ad,e,hc 0 _ rfl,by rw[← add_field _ _ 1 (by omega)];exact hc 1 _ rfl⟩
theorem fld93_1 (v0 v1 v2 v3:Value) (W:World):(Instr.field 93 (.agg #[v0,v1,v2,v3]) 1).run Tryz.prog W=.ok v3 W:=by kernel_rfl
end Go.Proofs.YtjioobfeikbffabGreatDoor.K
end
section
namespace Go.Proofs.YtjioobfeikbffabGreatDoor.K
open Go.RowKit Go.Proofs.Zw Go.Proofs.Zl Go.Proofs.Zm
theorem uB {p:Prop} (h:p:=by repeat(first|(with_reducible first|exact HB.out|apply below_alloc|apply pw_below_drewN|apply below_drew1|refine below_set ?_ (Aside0.out (by assumption)))|exact HB.out)):p:=h
theorem uK {p q:Prop} (h:p) (k:p->q:=by intro h_;(with_reducible repeat(first|refine blk_drewN ?_ _|refine blk_drew ?_|refine blk_alloc ?_ _));exact h_):q:=k h
theorem uR {p q:Prop} (h:p) (k:p->q:=by intro h_;(with_reducible repeat(first|apply Kd.R_alloc|apply Kd.R_drewN|apply Kd.R_drew));exact h_):q:=k h
theorem u0 {p:Prop} (h:p:=by first|rfl|(simp;done)|(simp [*];done)):p:=h
theorem uE {p:Prop} (h:p:=by first|rfl|(simp [errW_none,errW_some]<;>rfl)|(simp [*,errW_none,errW_some]<;>rfl)):p:=h
theorem u1 {p:Prop} (h:p:=by first|omega|exact Nat.le_refl _):p:=h
theorem uN {p:Prop} (h:p:=by first|exact Kd.R_nil _ _ _ _ _|exact Kd.N_nil _ _ _ _ _|exact Kd.V_nil _ _ _ _ _|exact Kd.Q_nil _ _ _ _ _|exact Kd.S_nil _ _ _ _ _):p:=h
theorem uM {p:Prop} (h:p:=by(try simp only[List.map_toArray,List.map_cons,List.map_nil]);first|done|rfl|(simp only[List.length_drop,List.length_take];rfl)):p:=h
theorem bl1 {w:World} {a:Addr} {v:Value} {q:Prop} (h:w.cell? a=some v) (k:a.block<w.heap.size->q:=by intro this;first|rwa [add_block] at this|exact this):q:=k (World.block_lt_of_cell? w _ h)
theorem fx {p q:Prop} (h:p) (k:p->q:=by intro h_;first|exact h_|(rw [add_block];exact h_)|(show (Addr.add _ _).block≠_;rw[add_block];exact h_)|(dsimp only;exact h_)):q:=k h
theorem ifs {α:Type} {c:Prop} [Decidable c] {a:Option α} {r:α} (h:(if c then a else none)=some r):c∧a=some r:=by
  by_cases hc:c
  · rw[if_pos hc] at h;exact⟨hc,h⟩
  · rw[if_neg hc] at h
    cases h
theorem hcell {w W:World} {a:Addr} {v:Value} (hb:Below w.heap.size w W) (h:w.cell? a=some v):W.cell? a=some v:=(hb.cell (World.block_lt_of_cell? w _ h)).trans h
def bl (n m:Nat):Array Bool:=((List.range n).map fun i=>m.testBit i).toArray
section
variable {P:Program} {ops:Array Oper} {Q:Exit->Act->World->Prop} {md:Region.Mode} {S:World->Prop} {ds:List Nat} {oi:Oper} {v:Value} {fuel:Nat} {l:Array Bool} {a a':Act} {w:World} {rest:List Oper} {o:Oper} {W:World} {Kc:Act->World->Prop}
theorem nm (h:wpAnyLast P md ops Q S ds fuel l a' w) (ha:a=a':=by first|(show Act.put _ (some _) _=_;simp only[Act.put,List.setIfInBounds_toArray,List.set_cons_zero,List.set_cons_succ,i64_w,i32_w];rfl)|(simp only[putAll,Act.put,List.setIfInBounds_toArray,List.set_cons_zero,List.set_cons_succ];rfl)):wpAnyLast P md ops Q S ds fuel l a w:=norm_ ha h
theorem pu (i N n m:Nat) (h:wpAnyLast P md ops Q S ds fuel (bl n m) a' w) (hi:ops[i]? =some oi:=by exact rfl) (hN:oi.dst=some N:=by exact rfl) (hc:anyB md ops l (bl n m) i=true:=by first|exact any_of HT_.out (by kernel_rfl)|kernel_rfl)
    (hQ:∀c a w,Q (.panic c) (a.put oi.dst v) w->Q (.panic c) a w:=by exact fun _ _ _ h=>h) (hy:Yields P ops oi v a:=by(refine Or.inl ⟨by rfl,?_⟩;intro w';go_simp;with_reducible rfl))
    (ha:a.put (some N) v=a':=by(simp only[Act.put,List.setIfInBounds_toArray,List.set_cons_zero,List.set_cons_succ,i64_w,i32_w];rfl)):wpAnyLast P md ops Q S ds (fuel+1) l a w:=pure_ (bl n m) hi hN hc hQ hy ha h
theorem tk1 (i N n m:Nat) (hS:S w) (h:wpAnyLast P md ops Q S ds fuel (bl n m) a' w) (hi:ops[i]? =some oi:=by exact rfl) (hN:oi.dst=some N:=by exact rfl) (hc:takeB md ops ds l (bl n m) i=true:=by first|exact take_ofW HT_.out HW_.out (by kernel_rfl)|exact take_of HT_.out (by kernel_rfl)|kernel_rfl)
    (hQ:∀c a w,Q (.panic c) (a.put oi.dst v) w->Q (.panic c) a w:=by exact fun _ _ _ h=>h) (hy:YieldsIf P ops S oi v a:=by(refine Or.inl ⟨by rfl,?_⟩;intro w' s0;go_simp;with_reducible rfl))
    (ha:a.put (some N) v=a':=by(simp only[Act.put,List.setIfInBounds_toArray,List.set_cons_zero,List.set_cons_succ,i64_w,i32_w];rfl)):wpAnyLast P md ops Q S ds (fuel+1) l a w:=take_ (bl n m) hi hN hc hQ hy hS ha h
theorem tk3 (i N n m:Nat) (hS:S w) (h:wpAnyLast P md ops Q S ds fuel (bl n m) a' w) (hi:ops[i]? =some oi:=by exact rfl) (hN:oi.dst=some N:=by exact rfl) (hc:takeB md ops ds l (bl n m) i=true:=by first|exact take_ofW HT_.out HW_.out (by kernel_rfl)|exact take_of HT_.out (by kernel_rfl)|kernel_rfl)
    (hQ:∀c a w,Q (.panic c) (a.put oi.dst v) w->Q (.panic c) a w:=by exact fun _ _ _ h=>h) (hy:YieldsIf P ops S oi v a:=by(refine Or.inl ⟨by rfl,?_⟩;rintro w' ⟨s0,s1,s2⟩;go_simp;with_reducible rfl))
    (ha:a.put (some N) v=a':=by(simp only[Act.put,List.setIfInBounds_toArray,List.set_cons_zero,List.set_cons_succ,i64_w,i32_w];rfl)):wpAnyLast P md ops Q S ds (fuel+1) l a w:=take_ (bl n m) hi hN hc hQ hy hS ha h
theorem tk4 (i N n m:Nat) (hS:S w) (h:wpAnyLast P md ops Q S ds fuel (bl n m) a' w) (hi:ops[i]? =some oi:=by exact rfl) (hN:oi.dst=some N:=by exact rfl) (hc:takeB md ops ds l (bl n m) i=true:=by first|exact take_ofW HT_.out HW_.out (by kernel_rfl)|exact take_of HT_.out (by kernel_rfl)|kernel_rfl)
    (hQ:∀c a w,Q (.panic c) (a.put oi.dst v) w->Q (.panic c) a w:=by exact fun _ _ _ h=>h) (hy:YieldsIf P ops S oi v a:=by(refine Or.inl ⟨by rfl,?_⟩;rintro w' ⟨s0,s1,s2,s3⟩;go_simp;with_reducible rfl))
    (ha:a.put (some N) v=a':=by(simp only[Act.put,List.setIfInBounds_toArray,List.set_cons_zero,List.set_cons_succ,i64_w,i32_w];rfl)):wpAnyLast P md ops Q S ds (fuel+1) l a w:=take_ (bl n m) hi hN hc hQ hy hS ha h
theorem tk5 (i N n m:Nat) (hS:S w) (h:wpAnyLast P md ops Q S ds fuel (bl n m) a' w) (hi:ops[i]? =some oi:=by exact rfl) (hN:oi.dst=some N:=by exact rfl) (hc:takeB md ops ds l (bl n m) i=true:=by first|exact take_ofW HT_.out HW_.out (by kernel_rfl)|exact take_of HT_.out (by kernel_rfl)|kernel_rfl)
    (hQ:∀c a w,Q (.panic c) (a.put oi.dst v) w->Q (.panic c) a w:=by exact fun _ _ _ h=>h) (hy:YieldsIf P ops S oi v a:=by(refine Or.inl ⟨by rfl,?_⟩;rintro w' ⟨s0,s1,s2,s3,s4⟩;go_simp;with_reducible rfl))
    (ha:a.put (some N) v=a':=by(simp only[Act.put,List.setIfInBounds_toArray,List.set_cons_zero,List.set_cons_succ,i64_w,i32_w];rfl)):wpAnyLast P md ops Q S ds (fuel+1) l a w:=take_ (bl n m) hi hN hc hQ hy hS ha h
theorem tk7 (i N n m:Nat) (hS:S w) (h:wpAnyLast P md ops Q S ds fuel (bl n m) a' w) (hi:ops[i]? =some oi:=by exact rfl) (hN:oi.dst=some N:=by exact rfl) (hc:takeB md ops ds l (bl n m) i=true:=by first|exact take_ofW HT_.out HW_.out (by kernel_rfl)|exact take_of HT_.out (by kernel_rfl)|kernel_rfl)
    (hQ:∀c a w,Q (.panic c) (a.put oi.dst v) w->Q (.panic c) a w:=by exact fun _ _ _ h=>h) (hy:YieldsIf P ops S oi v a:=by(refine Or.inl ⟨by rfl,?_⟩;rintro w' ⟨s0,s1,s2,s3,s4,s5,s6⟩;go_simp;with_reducible rfl))
    (ha:a.put (some N) v=a':=by(simp only[Act.put,List.setIfInBounds_toArray,List.set_cons_zero,List.set_cons_succ,i64_w,i32_w];rfl)):wpAnyLast P md ops Q S ds (fuel+1) l a w:=take_ (bl n m) hi hN hc hQ hy hS ha h
theorem tk8 (i N n m:Nat) (hS:S w) (h:wpAnyLast P md ops Q S ds fuel (bl n m) a' w) (hi:ops[i]? =some oi:=by exact rfl) (hN:oi.dst=some N:=by exact rfl) (hc:takeB md ops ds l (bl n m) i=true:=by first|exact take_ofW HT_.out HW_.out (by kernel_rfl)|exact take_of HT_.out (by kernel_rfl)|kernel_rfl)
    (hQ:∀c a w,Q (.panic c) (a.put oi.dst v) w->Q (.panic c) a w:=by exact fun _ _ _ h=>h) (hy:YieldsIf P ops S oi v a:=by(refine Or.inl ⟨by rfl,?_⟩;rintro w' ⟨s0,s1,s2,s3,s4,s5,s6,s7⟩;go_simp;with_reducible rfl))
    (ha:a.put (some N) v=a':=by(simp only[Act.put,List.setIfInBounds_toArray,List.set_cons_zero,List.set_cons_succ,i64_w,i32_w];rfl)):wpAnyLast P md ops Q S ds (fuel+1) l a w:=take_ (bl n m) hi hN hc hQ hy hS ha h
theorem tk9 (i N n m:Nat) (hS:S w) (h:wpAnyLast P md ops Q S ds fuel (bl n m) a' w) (hi:ops[i]? =some oi:=by exact rfl) (hN:oi.dst=some N:=by exact rfl) (hc:takeB md ops ds l (bl n m) i=true:=by first|exact take_ofW HT_.out HW_.out (by kernel_rfl)|exact take_of HT_.out (by kernel_rfl)|kernel_rfl)
    (hQ:∀c a w,Q (.panic c) (a.put oi.dst v) w->Q (.panic c) a w:=by exact fun _ _ _ h=>h) (hy:YieldsIf P ops S oi v a:=by(refine Or.inl ⟨by rfl,?_⟩;rintro w' ⟨s0,s1,s2,s3,s4,s5,s6,s7,s8⟩;go_simp;with_reducible rfl))
    (ha:a.put (some N) v=a':=by(simp only[Act.put,List.setIfInBounds_toArray,List.set_cons_zero,List.set_cons_succ,i64_w,i32_w];rfl)):wpAnyLast P md ops Q S ds (fuel+1) l a w:=take_ (bl n m) hi hN hc hQ hy hS ha h
theorem tk10 (i N n m:Nat) (hS:S w) (h:wpAnyLast P md ops Q S ds fuel (bl n m) a' w) (hi:ops[i]? =some oi:=by exact rfl) (hN:oi.dst=some N:=by exact rfl) (hc:takeB md ops ds l (bl n m) i=true:=by first|exact take_ofW HT_.out HW_.out (by kernel_rfl)|exact take_of HT_.out (by kernel_rfl)|kernel_rfl)
    (hQ:∀c a w,Q (.panic c) (a.put oi.dst v) w->Q (.panic c) a w:=by exact fun _ _ _ h=>h) (hy:YieldsIf P ops S oi v a:=by(refine Or.inl ⟨by rfl,?_⟩;rintro w' ⟨s0,s1,s2,s3,s4,s5,s6,s7,s8,s9⟩;go_simp;with_reducible rfl))
    (ha:a.put (some N) v=a':=by(simp only[Act.put,List.setIfInBounds_toArray,List.set_cons_zero,List.set_cons_succ,i64_w,i32_w];rfl)):wpAnyLast P md ops Q S ds (fuel+1) l a w:=take_ (bl n m) hi hN hc hQ hy hS ha h
theorem bxe (N:Nat) (cs:Array Value) (t:TypeId) (h:∀g,g=W.heap.size->∀w1,w1.heap[g]? =some (.cells cs t (0,0))->Below W.heap.size W w1->wpList P ops Q rest (a.put o.dst (.pointer (some ⟨g,0,none⟩))) w1) (hd:o.dst=some N:=by exact rfl) (hg:o.guard=none:=by rfl)
    (hr:(execOp a.eval o).run P W=.ok (.value (.pointer (some ⟨W.heap.size,0,none⟩))) (W.alloc (.cells cs t (0,0))):=by first|(go_simp;done)|(go_simp;rfl)):wpList P ops Q (o::rest) a W:=box_event hg hd hr h
end
section
variable {w W W' w1:World} {g gb:Nat} {o:Obj}
theorem gw (hg:gb=W.heap.size) (h:Below w.heap.size w W:=by repeat(first|(with_reducible first|exact HB.out|apply below_alloc|apply pw_below_drewN|apply below_drew1|refine below_set ?_ (Aside0.out (by assumption)))|exact HB.out)):Aside0 (w.heap.size≤gb):=⟨by rw[hg];exact h.size⟩
theorem nb (h:Aside0 (W'.heap[g]? =some o)) (hg:gb=W.heap.size) (k:W'.heap[g]? =some o->W.heap[g]? =some o:=by intro h_;(with_reducible repeat(first|refine blk_drewN ?_ _|refine blk_drew ?_|refine blk_alloc ?_ _));exact h_):Aside0 (g≠gb):=⟨by rw[hg];exact Nat.ne_of_lt (blk_lt (k h.out))⟩
theorem nc (h:Aside0 (W'.heap[g]? =some o)) (hg:gb=W.heap.size) (k:W'.heap[g]? =some o->W.heap[g]? =some o:=by intro h_;(with_reducible repeat(first|refine blk_drewN ?_ _|refine blk_drew ?_|refine blk_alloc ?_ _));exact h_):Aside0 (gb≠g):=⟨by rw[hg];exact Nat.ne_of_gt (blk_lt (k h.out))⟩
theorem cf (g:Nat) {i:Nat} {a:Addr} {v:Value} (h:a.block≠g):(W.setCell ⟨g,i,none⟩ v).cell? a=W.cell? a:=cell_far (p:=⟨g,i,none⟩) h v
theorem fl {a:Addr} {v:Value} {q:Prop} (h:w.cell? a=some v) (hg:Aside0 (w.heap.size≤gb)) (k:a.block≠gb->q:=by intro h_;first|exact h_|(rw [add_block];exact h_)|(show (Addr.add _ _).block≠_;rw[add_block];exact h_)|(dsimp only;exact h_)|(rw [add_block] at h_;exact h_)):q:=k (Nat.ne_of_lt (Nat.lt_of_lt_of_le (World.block_lt_of_cell? w _ h) hg.out))
end
section
variable {w:World} {g:Nat} {t:TypeId}
theorem cz3 {x0 x1 x2:Value} (h:w.heap[g]? =some (.cells #[x0,x1,x2] t (0,0))):w.cell? ⟨g,0,none⟩=some x0∧w.cell? ⟨g,1,none⟩=some x1∧w.cell? ⟨g,2,none⟩=some x2:=⟨(blk_cell h 0).trans rfl,(blk_cell h 1).trans rfl,(blk_cell h 2).trans rfl⟩
theorem fz3 {x0 x1 x2:Value} (h:w.heap[g]? =some (.cells #[x0,x1,x2] t (0,0))):w.frozen? ⟨g,0,none⟩=false∧w.frozen? ⟨g,1,none⟩=false∧w.frozen? ⟨g,2,none⟩=false:=⟨blk_frozen h 0,blk_frozen h 1,blk_frozen h 2⟩
theorem cz4 {x0 x1 x2 x3:Value} (h:w.heap[g]? =some (.cells #[x0,x1,x2,x3] t (0,0))):w.cell? ⟨g,0,none⟩=some x0∧w.cell? ⟨g,1,none⟩=some x1∧w.cell? ⟨g,2,none⟩=some x2∧w.cell? ⟨g,3,none⟩=some x3:=⟨(blk_cell h 0).trans rfl,(blk_cell h 1).trans rfl,(blk_cell h 2).trans rfl,(blk_cell h 3).trans rfl⟩
theorem fz4 {x0 x1 x2 x3:Value} (h:w.heap[g]? =some (.cells #[x0,x1,x2,x3] t (0,0))):w.frozen? ⟨g,0,none⟩=false∧w.frozen? ⟨g,1,none⟩=false∧w.frozen? ⟨g,2,none⟩=false∧w.frozen? ⟨g,3,none⟩=false:=⟨blk_frozen h 0,blk_frozen h 1,blk_frozen h 2,blk_frozen h 3⟩
theorem cz8 {x0 x1 x2 x3 x4 x5 x6 x7:Value} (h:w.heap[g]? =some (.cells #[x0,x1,x2,x3,x4,x5,x6,x7] t (0,0))):w.cell? ⟨g,0,none⟩=some x0∧w.cell? ⟨g,1,none⟩=some x1∧w.cell? ⟨g,2,none⟩=some x2∧w.cell? ⟨g,3,none⟩=some x3∧w.cell? ⟨g,4,none⟩=some x4∧w.cell? ⟨g,5,none⟩=some x5∧w.cell? ⟨g,6,none⟩=some x6∧w.cell? ⟨g,7,none⟩=some x7:=⟨(blk_cell h 0).trans rfl,(blk_cell h 1).trans rfl,(blk_cell h 2).trans rfl,(blk_cell h 3).trans rfl,(blk_cell h 4).trans rfl,(blk_cell h 5).trans rfl,(blk_cell h 6).trans rfl,(blk_cell h 7).trans rfl⟩
theorem fz8 {x0 x1 x2 x3 x4 x5 x6 x7:Value} (h:w.heap[g]? =some (.cells #[x0,x1,x2,x3,x4,x5,x6,x7] t (0,0))):w.frozen? ⟨g,0,none⟩=false∧w.frozen? ⟨g,1,none⟩=false∧w.frozen? ⟨g,2,none⟩=false∧w.frozen? ⟨g,3,none⟩=false∧w.frozen? ⟨g,4,none⟩=false∧w.frozen? ⟨g,5,none⟩=false∧w.frozen? ⟨g,6,none⟩=false∧w.frozen? ⟨g,7,none⟩=false:=⟨blk_frozen h 0,blk_frozen h 1,blk_frozen h 2,blk_frozen h 3,blk_frozen h 4,blk_frozen h 5,blk_frozen h 6,blk_frozen h 7⟩
end
end Go.Proofs.YtjioobfeikbffabGreatDoor.K
end
section
namespace Go.Proofs.YtjioobfeikbffabGreatDoor.K
open Go.RowKit Go.Proofs.Zw Go.Proofs.Zl Go.Proofs.Zm
attribute [local go_sem] max2_int min2_int max_two min_two max_three min_three max_four min_four
theorem aM {p:Prop} (h:p):Aside0 p:=⟨h⟩
theorem uY {α:Type} {d:Kd α} {w W:World} {A:Option Addr} {n:Nat} {xs:List α} {q:Prop} (h:Aside0 (Kd.C d w A n xs)) (b:Aside0 (Below w.heap.size w W)) (k:Kd.C d W A n xs->q:=by intro h_;repeat(first|exact h_|(with_reducible refine Kd.C_alloc ?_ _)|(with_reducible refine Kd.C_drewN ?_ _)|(with_reducible refine Kd.C_drew ?_))):q:=k (Kd.C_below h.out b.out)
def q7_short.f (a0_0:Int) (l0_1:List (S77)) (l0_2:List (S51)):Option (Bool):=if(l0_1.length:Int)≤8 then(some (decide ((l0_2.length:Int)≤10))) else(some false)
set_option maxHeartbeats 8000000 in
set_option maxRecDepth 100000 in
theorem q7_short.calls (a0_0:Int) (A0_1:Option Addr) (c0_1:Nat) (l0_1:List (S77)) (A0_2:Option Addr) (c0_2:Nat) (l0_2:List (S51)) (r:Bool) (w:World) (hr0_1:Kd.C k77 w A0_1 l0_1.length l0_1) (hc0_1:l0_1.length≤c0_1) (hr0_2:Kd.C k51 w A0_2 l0_2.length l0_2) (hc0_2:l0_2.length≤c0_2) (h:q7_short.f a0_0 l0_1 l0_2=some r):
  Calls Tryz.prog 13 #[.agg #[.int .i64 a0_0,.slice A0_1 l0_1.length c0_1,.slice A0_2 l0_2.length c0_2]] w fun e w'=>e=.returned (.bool r)∧Below w.heap.size w w':=by
 have hu25:=Tryz.underlying25;have HR0_1:=aM hr0_1;have HC0_1:=aM hc0_1;clear hr0_1 hc0_1;have HR0_2:=aM hr0_2;have HC0_2:=aM hc0_2;clear hr0_2 hc0_2;have HB:=aM (Below.refl w.heap.size w);have H:(if (l0_1.length:Int)≤8 then(some (decide ((l0_2.length:Int)≤10))) else(some false))=some r:=h;clear h
 by_cases c2:(l0_1.length:Int)≤8
 ·rw[if_pos c2] at H;have c2b0:decide ((l0_1.length:Int)≤8)=true:=decide_eq_true c2;have c2b1:decide (l0_1.length≤8)=true:=decide_eq_true (by omega);clear c2;obtain rfl:=Option.some.inj H
  go_enter Tryz.func13,Tryz.ntmps13
  go_wp2_with (first|((with_reducible refine gate_dst (N:=1) rfl ?_);(try (refine gate_guard (by rfl) ?_;dsimp only));refine bxe 1 #[.int .i64 a0_0,.slice A0_1 l0_1.length c0_1,.slice A0_2 l0_2.length c0_2] 25 ?_;intro gb123 hg w3 hbox hb;have n0_:=aM (below_step uB hb);have n1_:=aM (hbox);have n2_:=gw hg;have n3_:=gw hg;clear HB;have HB:=n0_;have BK123:=n1_;have GW123:=n2_;have GE123:=n3_;clear n0_ n1_ n2_ n3_;clear hb hbox hg;obtain⟨hcz4_0,hcz4_1,hcz4_2⟩:=cz3 BK123.out;obtain⟨hfz4_0,hfz4_1,hfz4_2⟩:=fz3 BK123.out))
  go_ret;exact⟨uE,uB⟩
 ·rw[if_neg c2] at H;have c2b0:decide ((l0_1.length:Int)≤8)=false:=decide_eq_false c2;have c2b1:decide (l0_1.length≤8)=false:=decide_eq_false (by omega);clear c2;obtain rfl:=Option.some.inj H
  go_enter Tryz.func13,Tryz.ntmps13
  go_wp2_with (first|((with_reducible refine gate_dst (N:=1) rfl ?_);(try (refine gate_guard (by rfl) ?_;dsimp only));refine bxe 1 #[.int .i64 a0_0,.slice A0_1 l0_1.length c0_1,.slice A0_2 l0_2.length c0_2] 25 ?_;intro gb123 hg w5 hbox hb;have n0_:=aM (below_step uB hb);have n1_:=aM (hbox);have n2_:=gw hg;have n3_:=gw hg;clear HB;have HB:=n0_;have BK123:=n1_;have GW123:=n2_;have GE123:=n3_;clear n0_ n1_ n2_ n3_;clear hb hbox hg;obtain⟨hcz6_0,hcz6_1,hcz6_2⟩:=cz3 BK123.out;obtain⟨hfz6_0,hfz6_1,hfz6_2⟩:=fz3 BK123.out))
  go_ret;exact⟨uE,uB⟩
def r7_in.f (a0:Int) (a1:Int) (a2:Int):Option (Bool):=if a0≥a1 then(some (decide (a0≤a2))) else(some false)
set_option maxHeartbeats 8000000 in
set_option maxRecDepth 100000 in
theorem r7_in.calls (a0:Int) (a1:Int) (a2:Int) (r:Bool) (w:World) (h:r7_in.f a0 a1 a2=some r):
  Calls Tryz.prog 45 #[.int .i64 a0,.int .i64 a1,.int .i64 a2] w fun e w'=>e=.returned (.bool r)∧Drawn0 w w':=by
 have H:(if a0≥a1 then(some (decide (a0≤a2))) else(some false))=some r:=h;clear h
 by_cases c4:a0≥a1
 ·rw[if_pos c4] at H;replace c4:=decide_eq_true c4;obtain rfl:=Option.some.inj H
  go_enter Tryz.func45,Tryz.ntmps45
  go_wp2;go_ret;exact⟨u0,by repeat(first|exact Drawn0.refl _|apply Drawn0.step)⟩
 ·rw[if_neg c4] at H;replace c4:=decide_eq_false c4;obtain rfl:=Option.some.inj H
  go_enter Tryz.func45,Tryz.ntmps45
  go_wp2;go_ret;exact⟨u0,by repeat(first|exact Drawn0.refl _|apply Drawn0.step)⟩
def r7_Node.f (a0_0:Int) (l0_1:List (S77)) (l0_2:List (S51)) (a1:Int):Option (Bool):=(r7_in.f a1 0 (l0_1.length:Int)).bind fun t125=>(some t125)
set_option maxHeartbeats 8000000 in
set_option maxRecDepth 100000 in
theorem r7_Node.calls (a0_0:Int) (A0_1:Option Addr) (c0_1:Nat) (l0_1:List (S77)) (A0_2:Option Addr) (c0_2:Nat) (l0_2:List (S51)) (a1:Int) (r:Bool) (w:World) (hr0_1:Kd.C k77 w A0_1 l0_1.length l0_1) (hc0_1:l0_1.length≤c0_1) (hr0_2:Kd.C k51 w A0_2 l0_2.length l0_2) (hc0_2:l0_2.length≤c0_2) (h:r7_Node.f a0_0 l0_1 l0_2 a1=some r):
  Calls Tryz.prog 16 #[.agg #[.int .i64 a0_0,.slice A0_1 l0_1.length c0_1,.slice A0_2 l0_2.length c0_2],.int .i64 a1] w fun e w'=>e=.returned (.bool r)∧Below w.heap.size w w':=by
 have hu25:=Tryz.underlying25;have HR0_1:=aM hr0_1;have HC0_1:=aM hc0_1;clear hr0_1 hc0_1;have HR0_2:=aM hr0_2;have HC0_2:=aM hc0_2;clear hr0_2 hc0_2;have HB:=aM (Below.refl w.heap.size w);have H:((r7_in.f a1 0 (l0_1.length:Int)).bind fun t125=>(some t125))=some r:=h;clear h;replace H:=Option.bind_eq_some_iff.mp H;obtain⟨t125,A30,H⟩:=H;replace H:(some t125)=some r:=H;have A3:=aM A30;clear A30;obtain rfl:=Option.some.inj H
 go_enter Tryz.func16,Tryz.ntmps16
 go_wp2_with (first|((with_reducible refine gate_dst (N:=2) rfl ?_);refine bxe 2 #[.int .i64 a0_0,.slice A0_1 l0_1.length c0_1,.slice A0_2 l0_2.length c0_2] 25 ?_;intro gb124 hg w4 hbox hb;have n0_:=aM (below_step uB hb);have n1_:=aM (hbox);have n2_:=gw hg;have n3_:=gw hg;clear HB;have HB:=n0_;have BK124:=n1_;have GW124:=n2_;have GE124:=n3_;clear n0_ n1_ n2_ n3_;clear hb hbox hg;obtain⟨hcz5_0,hcz5_1,hcz5_2⟩:=cz3 BK124.out;obtain⟨hfz5_0,hfz5_1,hfz5_2⟩:=fz3 BK124.out)|((with_reducible refine gate_callee (f:=45) rfl ?_);refine goesL_ (some 9) rfl rfl Tryz.func45 (by kernel_rfl) rfl #[.int .i64 a1,.int .i64 0,.int .i64 (l0_1.length:Int)] rfl uM ?_;(with_reducible refine(r7_in.calls a1 0 (l0_1.length:Int) t125 _ A3.out).mono ?_);rintro e w' ⟨rfl,⟨nd,rfl⟩⟩;refine⟨_,rfl,?_⟩))
 go_ret;exact⟨uE,uB⟩
def r7_Cups.f (a0:Int):Option (Bool):=(r7_in.f a0 0 200).bind fun t126=>(some t126)
set_option maxHeartbeats 8000000 in
set_option maxRecDepth 100000 in
theorem r7_Cups.calls (a0:Int) (r:Bool) (w:World) (h:r7_Cups.f a0=some r):
  Calls Tryz.prog 46 #[.int .i64 a0] w fun e w'=>e=.returned (.bool r)∧Drawn0 w w':=by
 have H:((r7_in.f a0 0 200).bind fun t126=>(some t126))=some r:=h;clear h;replace H:=Option.bind_eq_some_iff.mp H;obtain⟨t126,A20,H⟩:=H;replace H:(some t126)=some r:=H;have A2:=aM A20;clear A20;obtain rfl:=Option.some.inj H
 go_enter Tryz.func46,Tryz.ntmps46
 go_wp2_with (first|((with_reducible refine gate_callee (f:=45) rfl ?_);refine goesL_ (some 4) rfl rfl Tryz.func45 (by kernel_rfl) rfl #[.int .i64 a0,.int .i64 0,.int .i64 200] rfl uM ?_;(with_reducible refine(r7_in.calls a0 0 200 t126 _ A2.out).mono ?_);rintro e w' ⟨rfl,⟨nd,rfl⟩⟩;refine⟨_,rfl,?_⟩))
 go_ret;exact⟨u0,by repeat(first|exact Drawn0.refl _|apply Drawn0.step)⟩
def r7_Class.f (a0:Int):Option (Bool):=(r7_in.f a0 0 3).bind fun t127=>(some t127)
set_option maxHeartbeats 8000000 in
set_option maxRecDepth 100000 in
theorem r7_Class.calls (a0:Int) (r:Bool) (w:World) (h:r7_Class.f a0=some r):
  Calls Tryz.prog 47 #[.int .i64 a0] w fun e w'=>e=.returned (.bool r)∧Drawn0 w w':=by
 have H:((r7_in.f a0 0 3).bind fun t127=>(some t127))=some r:=h;clear h;replace H:=Option.bind_eq_some_iff.mp H;obtain⟨t127,A20,H⟩:=H;replace H:(some t127)=some r:=H;have A2:=aM A20;clear A20;obtain rfl:=Option.some.inj H
 go_enter Tryz.func47,Tryz.ntmps47
 go_wp2_with (first|((with_reducible refine gate_callee (f:=45) rfl ?_);refine goesL_ (some 4) rfl rfl Tryz.func45 (by kernel_rfl) rfl #[.int .i64 a0,.int .i64 0,.int .i64 3] rfl uM ?_;(with_reducible refine(r7_in.calls a0 0 3 t127 _ A2.out).mono ?_);rintro e w' ⟨rfl,⟨nd,rfl⟩⟩;refine⟨_,rfl,?_⟩))
 go_ret;exact⟨u0,by repeat(first|exact Drawn0.refl _|apply Drawn0.step)⟩
mutual
def r7_Tree.l0:Nat->Int->Int->List (S77)->List (S51)->Option (Bool)
 |0,_,_,_,_=>none
 |k+1,x3,x129000,x129001,x129002=>if x3<(x129001.length:Int) then(if 0≤x3 then((r7_in.f ((rd_T77 x129001 x3).f0) 0 x3).bind fun t130=>(if t130=true then((r7_Cups.f ((rd_T77 x129001 x3).f1)).bind fun t132=>(if t132=true then(r7_Tree.l0 k (wrap64 (x3+1)) x129000 x129001 x129002) else(some false))) else(some false))) else(none)) else(r7_Tree.l1 k 0 x129000 x129001 x129002)
def r7_Tree.l1:Nat->Int->Int->List (S77)->List (S51)->Option (Bool)
 |0,_,_,_,_=>none
 |k+1,x4,x129000,x129001,x129002=>if x4<(x129002.length:Int) then(if 0≤x4 then((r7_Node.f x129000 x129001 x129002 ((rd_T51 x129002 x4).f0)).bind fun t137=>(if t137=true then((r7_in.f ((rd_T51 x129002 x4).f1) 1 200).bind fun t138=>(if t138=true then((r7_Class.f ((rd_T51 x129002 x4).f2)).bind fun t139=>(if t139=true then(r7_Tree.l1 k (wrap64 (x4+1)) x129000 x129001 x129002) else(some false))) else(some false))) else(some false))) else(none)) else((r7_Cups.f x129000).bind fun t133=>(if t133=true then(if (x129001.length:Int)≤6 then((r7_in.f (x129002.length:Int) 1 8).bind fun t134=>(some t134)) else(some false)) else(some false)))
end
def r7_Tree.f (k:Nat) (a0_0:Int) (l0_1:List (S77)) (l0_2:List (S51)):Option (Bool):=r7_Tree.l0 k 0 a0_0 l0_1 l0_2
set_option maxHeartbeats 8000000 in
set_option maxRecDepth 100000 in
theorem r7_Tree.calls (k:Nat) (a0_0:Int) (A0_1:Option Addr) (c0_1:Nat) (l0_1:List (S77)) (A0_2:Option Addr) (c0_2:Nat) (l0_2:List (S51)) (r:Bool) (w:World) (hr0_1:Kd.C k77 w A0_1 l0_1.length l0_1) (hc0_1:l0_1.length≤c0_1) (hr0_2:Kd.C k51 w A0_2 l0_2.length l0_2) (hc0_2:l0_2.length≤c0_2) (h:r7_Tree.f k a0_0 l0_1 l0_2=some r):
  Calls Tryz.prog 14 #[.agg #[.int .i64 a0_0,.slice A0_1 l0_1.length c0_1,.slice A0_2 l0_2.length c0_2]] w fun e w'=>e=.returned (.bool r)∧Below w.heap.size w w':=by
 have hu25:=Tryz.underlying25;have hu51:=Tryz.underlying51;have HR0_1:=aM hr0_1;have HC0_1:=aM hc0_1;clear hr0_1 hc0_1;have HR0_2:=aM hr0_2;have HC0_2:=aM hc0_2;clear hr0_2 hc0_2;have HB:=aM (Below.refl w.heap.size w);have H:(r7_Tree.l0 k 0 a0_0 l0_1 l0_2)=some r:=h;clear h;have H':=aM H;clear H
 go_enter Tryz.func14,Tryz.ntmps14
 go_wp2_with (first|((with_reducible refine gate_dst (N:=1) rfl ?_);(try (refine gate_guard (by rfl) ?_;dsimp only));refine bxe 1 #[.int .i64 a0_0,.slice A0_1 l0_1.length c0_1,.slice A0_2 l0_2.length c0_2] 25 ?_;intro gb128 hg w2 hbox hb;have n0_:=aM (below_step uB hb);have n1_:=aM (hbox);have n2_:=gw hg;have n3_:=gw hg;clear HB;have HB:=n0_;have BK128:=n1_;have GW128:=n2_;have GE128:=n3_;clear n0_ n1_ n2_ n3_;clear hb hbox hg))
 go_loopg [3] k (fun kq v3 w'=>∃(x3_1:Int),v3=.int .i64 x3_1∧Aside0 (r7_Tree.l0 kq x3_1 a0_0 l0_1 l0_2=some r)∧Aside0 (kq≤k)∧Aside0 (w'.heap[gb128]? =some (.cells #[.int .i64 a0_0,(.slice A0_1 l0_1.length c0_1),(.slice A0_2 l0_2.length c0_2)] 25 (0,0)))∧Aside0 (Below w.heap.size w w'))
 case atStart=>exact⟨(0),u0,H',⟨Nat.le_refl _⟩,⟨uK BK128.out⟩,⟨uB⟩⟩
 case round=>
  clear H';try clear c1;try clear p2
  obtain⟨x3_1,rfl,HA,HK1,BK128,HB⟩:=hrel
  cases gk with
  |zero=>exact absurd HA.out (by simp[r7_Tree.l0])
  |succ k1=>
   have H:=HA.out;clear HA;simp only[r7_Tree.l0] at H
   by_cases c3:x3_1<(l0_1.length:Int)
   ·rw[if_pos c3] at H;replace c3:=decide_eq_true c3;obtain⟨c4,H⟩:=ifs H;replace c4:=decide_eq_true c4;replace H:=Option.bind_eq_some_iff.mp H;obtain⟨t130,A50,H⟩:=H;replace H:(if t130=true then((r7_Cups.f ((rd_T77 l0_1 x3_1).f1)).bind fun t132=>(if t132=true then(r7_Tree.l0 k1 (wrap64 (x3_1+1)) a0_0 l0_1 l0_2) else(some false))) else(some false))=some r:=H;have A5:=aM A50;clear A50
    by_cases c6:t130=true
    ·subst c6;have H1:((r7_Cups.f ((rd_T77 l0_1 x3_1).f1)).bind fun t132=>(if t132=true then(r7_Tree.l0 k1 (wrap64 (x3_1+1)) a0_0 l0_1 l0_2) else(some false)))=some r:=by rw[if_pos rfl] at H;exact H
     clear H;have H:=H1;clear H1;replace H:=Option.bind_eq_some_iff.mp H;obtain⟨t132,A70,H⟩:=H;replace H:(if t132=true then(r7_Tree.l0 k1 (wrap64 (x3_1+1)) a0_0 l0_1 l0_2) else(some false))=some r:=H;have A7:=aM A70;clear A70
     by_cases c8:t132=true
     ·subst c8;have H1:(r7_Tree.l0 k1 (wrap64 (x3_1+1)) a0_0 l0_1 l0_2)=some r:=by rw[if_pos rfl] at H;exact H
      clear H;have H:=H1;clear H1;have H':=aM H;clear H;obtain⟨hcz9_0,hcz9_1,hcz9_2⟩:=cz3 BK128.out;obtain⟨hfz9_0,hfz9_1,hfz9_2⟩:=fz3 BK128.out;have p129:0≤(x3_1:Int):=uD;have q129:x3_1<(l0_1.length:Int):=uD;obtain⟨ad129,e129,hx129_0,hx129_1⟩:=at_T77 HR0_1.out x3_1 p129 q129
      cases e129
      replace hx129_0:=hcell HB.out hx129_0;replace hx129_1:=hcell HB.out hx129_1;replace p129:=eq_true p129;replace q129:=eq_true q129
      go_wp2_with (first|((with_reducible refine gate_callee (f:=45) rfl ?_);refine goesL_ (some 20) rfl rfl Tryz.func45 (by kernel_rfl) rfl #[.int .i64 ((rd_T77 l0_1 x3_1).f0),.int .i64 0,.int .i64 x3_1] rfl uM ?_;(with_reducible refine(r7_in.calls ((rd_T77 l0_1 x3_1).f0) 0 x3_1 true _ A5.out).mono ?_);rintro e w' ⟨rfl,⟨nd,rfl⟩⟩;refine⟨_,rfl,?_⟩;have p131:0≤(x3_1:Int):=uD;have q131:x3_1<(l0_1.length:Int):=uD;obtain⟨ad131,e131,hx131_0,hx131_1⟩:=at_T77 HR0_1.out x3_1 p131 q131;obtain rfl:ad129=ad131:=(by injection e131);replace hx131_0:=hcell HB.out hx131_0;replace hx131_1:=hcell HB.out hx131_1;replace p131:=eq_true p131;replace q131:=eq_true q131)|(go_at_call 46;(with_reducible refine(r7_Cups.calls ((rd_T77 l0_1 x3_1).f1) true _ A7.out).mono ?_);rintro e w' ⟨rfl,⟨nd,rfl⟩⟩))
      go_roundg k1
      case measure=>have:=HK1.out;omega
      case rel=>exact⟨(wrap64 (x3_1+1)),u0,H',⟨by have:=HK1.out;omega⟩,⟨uK BK128.out⟩,⟨uB⟩⟩
     ·replace c8:=Bool.eq_false_iff.mpr c8;subst c8;have H1:(some false)=some r:=by rw[if_neg (show ¬(false=true) by decide)] at H;exact H
      clear H;have H:=H1;clear H1;obtain rfl:=Option.some.inj H;obtain⟨hcz10_0,hcz10_1,hcz10_2⟩:=cz3 BK128.out;obtain⟨hfz10_0,hfz10_1,hfz10_2⟩:=fz3 BK128.out;have p129:0≤(x3_1:Int):=uD;have q129:x3_1<(l0_1.length:Int):=uD;obtain⟨ad129,e129,hx129_0,hx129_1⟩:=at_T77 HR0_1.out x3_1 p129 q129
      cases e129
      replace hx129_0:=hcell HB.out hx129_0;replace hx129_1:=hcell HB.out hx129_1;replace p129:=eq_true p129;replace q129:=eq_true q129
      go_wp2_with (first|((with_reducible refine gate_callee (f:=45) rfl ?_);refine goesL_ (some 20) rfl rfl Tryz.func45 (by kernel_rfl) rfl #[.int .i64 ((rd_T77 l0_1 x3_1).f0),.int .i64 0,.int .i64 x3_1] rfl uM ?_;(with_reducible refine(r7_in.calls ((rd_T77 l0_1 x3_1).f0) 0 x3_1 true _ A5.out).mono ?_);rintro e w' ⟨rfl,⟨nd,rfl⟩⟩;refine⟨_,rfl,?_⟩;have p131:0≤(x3_1:Int):=uD;have q131:x3_1<(l0_1.length:Int):=uD;obtain⟨ad131,e131,hx131_0,hx131_1⟩:=at_T77 HR0_1.out x3_1 p131 q131;obtain rfl:ad129=ad131:=(by injection e131);replace hx131_0:=hcell HB.out hx131_0;replace hx131_1:=hcell HB.out hx131_1;replace p131:=eq_true p131;replace q131:=eq_true q131)|(go_at_call 46;(with_reducible refine(r7_Cups.calls ((rd_T77 l0_1 x3_1).f1) false _ A7.out).mono ?_);rintro e w' ⟨rfl,⟨nd,rfl⟩⟩))
      go_ret;exact⟨uE,uB⟩
    ·replace c6:=Bool.eq_false_iff.mpr c6;subst c6;have H1:(some false)=some r:=by rw[if_neg (show ¬(false=true) by decide)] at H;exact H
     clear H;have H:=H1;clear H1;obtain rfl:=Option.some.inj H;obtain⟨hcz11_0,hcz11_1,hcz11_2⟩:=cz3 BK128.out;obtain⟨hfz11_0,hfz11_1,hfz11_2⟩:=fz3 BK128.out;have p129:0≤(x3_1:Int):=uD;have q129:x3_1<(l0_1.length:Int):=uD;obtain⟨ad129,e129,hx129_0,hx129_1⟩:=at_T77 HR0_1.out x3_1 p129 q129
     cases e129
     replace hx129_0:=hcell HB.out hx129_0;replace hx129_1:=hcell HB.out hx129_1;replace p129:=eq_true p129;replace q129:=eq_true q129
     go_wp2_with (first|((with_reducible refine gate_callee (f:=45) rfl ?_);refine goesL_ (some 20) rfl rfl Tryz.func45 (by kernel_rfl) rfl #[.int .i64 ((rd_T77 l0_1 x3_1).f0),.int .i64 0,.int .i64 x3_1] rfl uM ?_;(with_reducible refine(r7_in.calls ((rd_T77 l0_1 x3_1).f0) 0 x3_1 false _ A5.out).mono ?_);rintro e w' ⟨rfl,⟨nd,rfl⟩⟩;refine⟨_,rfl,?_⟩))
     go_ret;exact⟨uE,uB⟩
   ·rw[if_neg c3] at H;replace c3:=decide_eq_false c3;have H':=aM H;clear H;obtain⟨hcz12_0,hcz12_1,hcz12_2⟩:=cz3 BK128.out;obtain⟨hfz12_0,hfz12_1,hfz12_2⟩:=fz3 BK128.out;go_wp2
    go_loopg [4] k1 (fun kq v4 w'=>∃(x4_2:Int),v4=.int .i64 x4_2∧Aside0 (r7_Tree.l1 kq x4_2 a0_0 l0_1 l0_2=some r)∧Aside0 (kq≤k1)∧Aside0 (w'.heap[gb128]? =some (.cells #[.int .i64 a0_0,(.slice A0_1 l0_1.length c0_1),(.slice A0_2 l0_2.length c0_2)] 25 (0,0)))∧Aside0 (Below w.heap.size w w'))
    case atStart=>exact⟨(0),u0,H',⟨Nat.le_refl _⟩,⟨uK BK128.out⟩,⟨uB⟩⟩
    case round=>
     clear H';try clear c1;try clear p1;try clear q1;try clear hx1;try clear p2;try clear c3;try clear c3b0;try clear c4;try clear c4b0;try clear c6;try clear p6;try clear c8;try clear p12;try clear q12;try clear hx12;try clear hcz10_0;try clear hcz10_1;try clear hcz10_2;try clear hcz11_0;try clear hcz11_1;try clear hcz11_2;try clear hcz12_0;try clear hcz12_1;try clear hcz12_2;try clear hcz9_0;try clear hcz9_1;try clear hcz9_2;try clear hfz10_0;try clear hfz10_1;try clear hfz10_2;try clear hfz11_0;try clear hfz11_1;try clear hfz11_2;try clear hfz12_0;try clear hfz12_1;try clear hfz12_2;try clear hfz9_0;try clear hfz9_1;try clear hfz9_2;try clear hx129_0;try clear hx129_1;try clear hx131_0;try clear hx131_1;try clear p129;try clear p131;try clear p2;try clear q129;try clear q131
     obtain⟨x4_2,rfl,HA,HK2,BK128,HB⟩:=hrel
     cases gk with
     |zero=>exact absurd HA.out (by simp[r7_Tree.l1])
     |succ k2=>
      have H:=HA.out;clear HA;simp only[r7_Tree.l1] at H
      by_cases c13:x4_2<(l0_2.length:Int)
      ·rw[if_pos c13] at H;replace c13:=decide_eq_true c13;obtain⟨c14,H⟩:=ifs H;replace c14:=decide_eq_true c14;replace H:=Option.bind_eq_some_iff.mp H;obtain⟨t137,A150,H⟩:=H;replace H:(if t137=true then((r7_in.f ((rd_T51 l0_2 x4_2).f1) 1 200).bind fun t138=>(if t138=true then((r7_Class.f ((rd_T51 l0_2 x4_2).f2)).bind fun t139=>(if t139=true then(r7_Tree.l1 k2 (wrap64 (x4_2+1)) a0_0 l0_1 l0_2) else(some false))) else(some false))) else(some false))=some r:=H;have A15:=aM A150;clear A150
       by_cases c16:t137=true
       ·subst c16;have H1:((r7_in.f ((rd_T51 l0_2 x4_2).f1) 1 200).bind fun t138=>(if t138=true then((r7_Class.f ((rd_T51 l0_2 x4_2).f2)).bind fun t139=>(if t139=true then(r7_Tree.l1 k2 (wrap64 (x4_2+1)) a0_0 l0_1 l0_2) else(some false))) else(some false)))=some r:=by rw[if_pos rfl] at H;exact H
        clear H;have H:=H1;clear H1;replace H:=Option.bind_eq_some_iff.mp H;obtain⟨t138,A170,H⟩:=H;replace H:(if t138=true then((r7_Class.f ((rd_T51 l0_2 x4_2).f2)).bind fun t139=>(if t139=true then(r7_Tree.l1 k2 (wrap64 (x4_2+1)) a0_0 l0_1 l0_2) else(some false))) else(some false))=some r:=H;have A17:=aM A170;clear A170
        by_cases c18:t138=true
        ·subst c18;have H1:((r7_Class.f ((rd_T51 l0_2 x4_2).f2)).bind fun t139=>(if t139=true then(r7_Tree.l1 k2 (wrap64 (x4_2+1)) a0_0 l0_1 l0_2) else(some false)))=some r:=by rw[if_pos rfl] at H;exact H
         clear H;have H:=H1;clear H1;replace H:=Option.bind_eq_some_iff.mp H;obtain⟨t139,A190,H⟩:=H;replace H:(if t139=true then(r7_Tree.l1 k2 (wrap64 (x4_2+1)) a0_0 l0_1 l0_2) else(some false))=some r:=H;have A19:=aM A190;clear A190
         by_cases c20:t139=true
         ·subst c20;have H1:(r7_Tree.l1 k2 (wrap64 (x4_2+1)) a0_0 l0_1 l0_2)=some r:=by rw[if_pos rfl] at H;exact H
          clear H;have H:=H1;clear H1;have H':=aM H;clear H;obtain⟨hcz21_0,hcz21_1,hcz21_2⟩:=cz3 BK128.out;obtain⟨hfz21_0,hfz21_1,hfz21_2⟩:=fz3 BK128.out;have p135:0≤(x4_2:Int):=uD;have q135:x4_2<(l0_2.length:Int):=uD;obtain⟨ad135,e135,hx135_0,hx135_1,hx135_2⟩:=at_T51 HR0_2.out x4_2 p135 q135
          cases e135
          replace hx135_0:=hcell HB.out hx135_0;replace hx135_1:=hcell HB.out hx135_1;replace hx135_2:=hcell HB.out hx135_2;replace p135:=eq_true p135;replace q135:=eq_true q135
          go_wp2_with (first|((with_reducible refine gate_dst (N:=5) rfl ?_);(try (refine gate_guard (by rfl) ?_;dsimp only));refine bxe 5 #[.int .i64 0,.int .i64 0,.int .i64 0] 51 ?_;intro gb136 hg w22 hbox hb;have n0_:=aM (blk_below (uK BK128.out) hb);have n1_:=aM (below_step uB hb);have n2_:=aM (hbox);have n3_:=gw hg;have n4_:=gw hg;have n5_:=nb BK128 hg;have n6_:=nc BK128 hg;clear BK128;clear HB;have BK128:=n0_;have HB:=n1_;have BK136:=n2_;have GW136:=n3_;have GE136:=n4_;have NB128_136:=n5_;have NB136_128:=n6_;clear n0_ n1_ n2_ n3_ n4_ n5_ n6_;clear hb hbox hg;have hnb23:=NB136_128.out;have hnc23:=NB128_136.out;obtain⟨hcz24_0,hcz24_1,hcz24_2⟩:=cz3 BK136.out;obtain⟨hfz24_0,hfz24_1,hfz24_2⟩:=fz3 BK136.out;obtain⟨hcz25_0,hcz25_1,hcz25_2⟩:=cz3 BK128.out;obtain⟨hfz25_0,hfz25_1,hfz25_2⟩:=fz3 BK128.out)|((with_reducible refine gate_callee (f:=16) rfl ?_);refine goesL_ (some 47) rfl rfl Tryz.func16 (by kernel_rfl) rfl #[.agg #[.int .i64 a0_0,.slice A0_1 l0_1.length c0_1,.slice (some ad135) l0_2.length c0_2],.int .i64 ((rd_T51 l0_2 x4_2).f0)] rfl uM ?_;(with_reducible refine(r7_Node.calls a0_0 _ _ l0_1 _ _ l0_2 ((rd_T51 l0_2 x4_2).f0) true _ ?side1 ?side2 ?side3 ?side4 A15.out).mono ?_);(case side1=>exact Kd.C_below HR0_1.out uB);(case side2=>exact HC0_1.out);(case side3=>exact Kd.C_below HR0_2.out uB);(case side4=>exact HC0_2.out);rintro e w26 ⟨rfl,hb⟩;refine⟨_,rfl,?_⟩;replace BK128:=aM (blk_below (g:=gb128) (o:=.cells #[.int .i64 a0_0,.slice A0_1 l0_1.length c0_1,.slice (some ad135) l0_2.length c0_2] 25 (0,0)) (by refine uK ?_;refine blk_far ?_ NB128_136.out _;refine uK ?_;refine blk_far ?_ NB128_136.out _;refine uK ?_;refine blk_far ?_ NB128_136.out _;refine uK ?_;exact BK128.out) hb);replace BK136:=aM (blk_below (g:=gb136) (o:=.cells #[.int .i64 ((rd_T51 l0_2 x4_2).f0),.int .i64 ((rd_T51 l0_2 x4_2).f1),.int .i64 ((rd_T51 l0_2 x4_2).f2)] 51 (0,0)) (by refine uK ?_;refine blk_put (cs:=#[.int .i64 ((rd_T51 l0_2 x4_2).f0),.int .i64 ((rd_T51 l0_2 x4_2).f1),.int .i64 0]) ?_ 2 _ rfl;refine uK ?_;refine blk_put (cs:=#[.int .i64 ((rd_T51 l0_2 x4_2).f0),.int .i64 0,.int .i64 0]) ?_ 1 _ rfl;refine uK ?_;refine blk_put (cs:=#[.int .i64 0,.int .i64 0,.int .i64 0]) ?_ 0 _ rfl;refine uK ?_;exact BK136.out) hb);replace HB:=aM (below_step uB hb);(try clear hb);obtain⟨hcz27_0,hcz27_1,hcz27_2⟩:=cz3 BK136.out;obtain⟨hfz27_0,hfz27_1,hfz27_2⟩:=fz3 BK136.out)|(go_at_call 45;(with_reducible refine(r7_in.calls ((rd_T51 l0_2 x4_2).f1) 1 200 true _ A17.out).mono ?_);rintro e w' ⟨rfl,⟨nd,rfl⟩⟩)|(go_at_call 47;(with_reducible refine(r7_Class.calls ((rd_T51 l0_2 x4_2).f2) true _ A19.out).mono ?_);rintro e w' ⟨rfl,⟨nd,rfl⟩⟩))
          go_roundg k2
          case measure=>have:=HK1.out;have:=HK2.out;omega
          case rel=>exact⟨(wrap64 (x4_2+1)),u0,H',⟨by have:=HK1.out;have:=HK2.out;omega⟩,⟨uK BK128.out⟩,⟨uB⟩⟩
         ·replace c20:=Bool.eq_false_iff.mpr c20;subst c20;have H1:(some false)=some r:=by rw[if_neg (show ¬(false=true) by decide)] at H;exact H
          clear H;have H:=H1;clear H1;obtain rfl:=Option.some.inj H;obtain⟨hcz28_0,hcz28_1,hcz28_2⟩:=cz3 BK128.out;obtain⟨hfz28_0,hfz28_1,hfz28_2⟩:=fz3 BK128.out;have p135:0≤(x4_2:Int):=uD;have q135:x4_2<(l0_2.length:Int):=uD;obtain⟨ad135,e135,hx135_0,hx135_1,hx135_2⟩:=at_T51 HR0_2.out x4_2 p135 q135
          cases e135
          replace hx135_0:=hcell HB.out hx135_0;replace hx135_1:=hcell HB.out hx135_1;replace hx135_2:=hcell HB.out hx135_2;replace p135:=eq_true p135;replace q135:=eq_true q135
          go_wp2_with (first|((with_reducible refine gate_dst (N:=5) rfl ?_);(try (refine gate_guard (by rfl) ?_;dsimp only));refine bxe 5 #[.int .i64 0,.int .i64 0,.int .i64 0] 51 ?_;intro gb136 hg w29 hbox hb;have n0_:=aM (blk_below (uK BK128.out) hb);have n1_:=aM (below_step uB hb);have n2_:=aM (hbox);have n3_:=gw hg;have n4_:=gw hg;have n5_:=nb BK128 hg;have n6_:=nc BK128 hg;clear BK128;clear HB;have BK128:=n0_;have HB:=n1_;have BK136:=n2_;have GW136:=n3_;have GE136:=n4_;have NB128_136:=n5_;have NB136_128:=n6_;clear n0_ n1_ n2_ n3_ n4_ n5_ n6_;clear hb hbox hg;have hnb30:=NB136_128.out;have hnc30:=NB128_136.out;obtain⟨hcz31_0,hcz31_1,hcz31_2⟩:=cz3 BK136.out;obtain⟨hfz31_0,hfz31_1,hfz31_2⟩:=fz3 BK136.out;obtain⟨hcz32_0,hcz32_1,hcz32_2⟩:=cz3 BK128.out;obtain⟨hfz32_0,hfz32_1,hfz32_2⟩:=fz3 BK128.out)|((with_reducible refine gate_callee (f:=16) rfl ?_);refine goesL_ (some 47) rfl rfl Tryz.func16 (by kernel_rfl) rfl #[.agg #[.int .i64 a0_0,.slice A0_1 l0_1.length c0_1,.slice (some ad135) l0_2.length c0_2],.int .i64 ((rd_T51 l0_2 x4_2).f0)] rfl uM ?_;(with_reducible refine(r7_Node.calls a0_0 _ _ l0_1 _ _ l0_2 ((rd_T51 l0_2 x4_2).f0) true _ ?side1 ?side2 ?side3 ?side4 A15.out).mono ?_);(case side1=>exact Kd.C_below HR0_1.out uB);(case side2=>exact HC0_1.out);(case side3=>exact Kd.C_below HR0_2.out uB);(case side4=>exact HC0_2.out);rintro e w33 ⟨rfl,hb⟩;refine⟨_,rfl,?_⟩;replace BK128:=aM (blk_below (g:=gb128) (o:=.cells #[.int .i64 a0_0,.slice A0_1 l0_1.length c0_1,.slice (some ad135) l0_2.length c0_2] 25 (0,0)) (by refine uK ?_;refine blk_far ?_ NB128_136.out _;refine uK ?_;refine blk_far ?_ NB128_136.out _;refine uK ?_;refine blk_far ?_ NB128_136.out _;refine uK ?_;exact BK128.out) hb);replace BK136:=aM (blk_below (g:=gb136) (o:=.cells #[.int .i64 ((rd_T51 l0_2 x4_2).f0),.int .i64 ((rd_T51 l0_2 x4_2).f1),.int .i64 ((rd_T51 l0_2 x4_2).f2)] 51 (0,0)) (by refine uK ?_;refine blk_put (cs:=#[.int .i64 ((rd_T51 l0_2 x4_2).f0),.int .i64 ((rd_T51 l0_2 x4_2).f1),.int .i64 0]) ?_ 2 _ rfl;refine uK ?_;refine blk_put (cs:=#[.int .i64 ((rd_T51 l0_2 x4_2).f0),.int .i64 0,.int .i64 0]) ?_ 1 _ rfl;refine uK ?_;refine blk_put (cs:=#[.int .i64 0,.int .i64 0,.int .i64 0]) ?_ 0 _ rfl;refine uK ?_;exact BK136.out) hb);replace HB:=aM (below_step uB hb);(try clear hb);obtain⟨hcz34_0,hcz34_1,hcz34_2⟩:=cz3 BK136.out;obtain⟨hfz34_0,hfz34_1,hfz34_2⟩:=fz3 BK136.out)|(go_at_call 45;(with_reducible refine(r7_in.calls ((rd_T51 l0_2 x4_2).f1) 1 200 true _ A17.out).mono ?_);rintro e w' ⟨rfl,⟨nd,rfl⟩⟩)|(go_at_call 47;(with_reducible refine(r7_Class.calls ((rd_T51 l0_2 x4_2).f2) false _ A19.out).mono ?_);rintro e w' ⟨rfl,⟨nd,rfl⟩⟩))
          go_ret;exact⟨uE,uB⟩
        ·replace c18:=Bool.eq_false_iff.mpr c18;subst c18;have H1:(some false)=some r:=by rw[if_neg (show ¬(false=true) by decide)] at H;exact H
         clear H;have H:=H1;clear H1;obtain rfl:=Option.some.inj H;obtain⟨hcz35_0,hcz35_1,hcz35_2⟩:=cz3 BK128.out;obtain⟨hfz35_0,hfz35_1,hfz35_2⟩:=fz3 BK128.out;have p135:0≤(x4_2:Int):=uD;have q135:x4_2<(l0_2.length:Int):=uD;obtain⟨ad135,e135,hx135_0,hx135_1,hx135_2⟩:=at_T51 HR0_2.out x4_2 p135 q135
         cases e135
         replace hx135_0:=hcell HB.out hx135_0;replace hx135_1:=hcell HB.out hx135_1;replace hx135_2:=hcell HB.out hx135_2;replace p135:=eq_true p135;replace q135:=eq_true q135
         go_wp2_with (first|((with_reducible refine gate_dst (N:=5) rfl ?_);(try (refine gate_guard (by rfl) ?_;dsimp only));refine bxe 5 #[.int .i64 0,.int .i64 0,.int .i64 0] 51 ?_;intro gb136 hg w36 hbox hb;have n0_:=aM (blk_below (uK BK128.out) hb);have n1_:=aM (below_step uB hb);have n2_:=aM (hbox);have n3_:=gw hg;have n4_:=gw hg;have n5_:=nb BK128 hg;have n6_:=nc BK128 hg;clear BK128;clear HB;have BK128:=n0_;have HB:=n1_;have BK136:=n2_;have GW136:=n3_;have GE136:=n4_;have NB128_136:=n5_;have NB136_128:=n6_;clear n0_ n1_ n2_ n3_ n4_ n5_ n6_;clear hb hbox hg;have hnb37:=NB136_128.out;have hnc37:=NB128_136.out;obtain⟨hcz38_0,hcz38_1,hcz38_2⟩:=cz3 BK136.out;obtain⟨hfz38_0,hfz38_1,hfz38_2⟩:=fz3 BK136.out;obtain⟨hcz39_0,hcz39_1,hcz39_2⟩:=cz3 BK128.out;obtain⟨hfz39_0,hfz39_1,hfz39_2⟩:=fz3 BK128.out)|((with_reducible refine gate_callee (f:=16) rfl ?_);refine goesL_ (some 47) rfl rfl Tryz.func16 (by kernel_rfl) rfl #[.agg #[.int .i64 a0_0,.slice A0_1 l0_1.length c0_1,.slice (some ad135) l0_2.length c0_2],.int .i64 ((rd_T51 l0_2 x4_2).f0)] rfl uM ?_;(with_reducible refine(r7_Node.calls a0_0 _ _ l0_1 _ _ l0_2 ((rd_T51 l0_2 x4_2).f0) true _ ?side1 ?side2 ?side3 ?side4 A15.out).mono ?_);(case side1=>exact Kd.C_below HR0_1.out uB);(case side2=>exact HC0_1.out);(case side3=>exact Kd.C_below HR0_2.out uB);(case side4=>exact HC0_2.out);rintro e w40 ⟨rfl,hb⟩;refine⟨_,rfl,?_⟩;replace BK128:=aM (blk_below (g:=gb128) (o:=.cells #[.int .i64 a0_0,.slice A0_1 l0_1.length c0_1,.slice (some ad135) l0_2.length c0_2] 25 (0,0)) (by refine uK ?_;refine blk_far ?_ NB128_136.out _;refine uK ?_;refine blk_far ?_ NB128_136.out _;refine uK ?_;refine blk_far ?_ NB128_136.out _;refine uK ?_;exact BK128.out) hb);replace BK136:=aM (blk_below (g:=gb136) (o:=.cells #[.int .i64 ((rd_T51 l0_2 x4_2).f0),.int .i64 ((rd_T51 l0_2 x4_2).f1),.int .i64 ((rd_T51 l0_2 x4_2).f2)] 51 (0,0)) (by refine uK ?_;refine blk_put (cs:=#[.int .i64 ((rd_T51 l0_2 x4_2).f0),.int .i64 ((rd_T51 l0_2 x4_2).f1),.int .i64 0]) ?_ 2 _ rfl;refine uK ?_;refine blk_put (cs:=#[.int .i64 ((rd_T51 l0_2 x4_2).f0),.int .i64 0,.int .i64 0]) ?_ 1 _ rfl;refine uK ?_;refine blk_put (cs:=#[.int .i64 0,.int .i64 0,.int .i64 0]) ?_ 0 _ rfl;refine uK ?_;exact BK136.out) hb);replace HB:=aM (below_step uB hb);(try clear hb);obtain⟨hcz41_0,hcz41_1,hcz41_2⟩:=cz3 BK136.out;obtain⟨hfz41_0,hfz41_1,hfz41_2⟩:=fz3 BK136.out)|(go_at_call 45;(with_reducible refine(r7_in.calls ((rd_T51 l0_2 x4_2).f1) 1 200 false _ A17.out).mono ?_);rintro e w' ⟨rfl,⟨nd,rfl⟩⟩))
         go_ret;exact⟨uE,uB⟩
       ·replace c16:=Bool.eq_false_iff.mpr c16;subst c16;have H1:(some false)=some r:=by rw[if_neg (show ¬(false=true) by decide)] at H;exact H
        clear H;have H:=H1;clear H1;obtain rfl:=Option.some.inj H;obtain⟨hcz42_0,hcz42_1,hcz42_2⟩:=cz3 BK128.out;obtain⟨hfz42_0,hfz42_1,hfz42_2⟩:=fz3 BK128.out;have p135:0≤(x4_2:Int):=uD;have q135:x4_2<(l0_2.length:Int):=uD;obtain⟨ad135,e135,hx135_0,hx135_1,hx135_2⟩:=at_T51 HR0_2.out x4_2 p135 q135
        cases e135
        replace hx135_0:=hcell HB.out hx135_0;replace hx135_1:=hcell HB.out hx135_1;replace hx135_2:=hcell HB.out hx135_2;replace p135:=eq_true p135;replace q135:=eq_true q135
        go_wp2_with (first|((with_reducible refine gate_dst (N:=5) rfl ?_);(try (refine gate_guard (by rfl) ?_;dsimp only));refine bxe 5 #[.int .i64 0,.int .i64 0,.int .i64 0] 51 ?_;intro gb136 hg w43 hbox hb;have n0_:=aM (blk_below (uK BK128.out) hb);have n1_:=aM (below_step uB hb);have n2_:=aM (hbox);have n3_:=gw hg;have n4_:=gw hg;have n5_:=nb BK128 hg;have n6_:=nc BK128 hg;clear BK128;clear HB;have BK128:=n0_;have HB:=n1_;have BK136:=n2_;have GW136:=n3_;have GE136:=n4_;have NB128_136:=n5_;have NB136_128:=n6_;clear n0_ n1_ n2_ n3_ n4_ n5_ n6_;clear hb hbox hg;have hnb44:=NB136_128.out;have hnc44:=NB128_136.out;obtain⟨hcz45_0,hcz45_1,hcz45_2⟩:=cz3 BK136.out;obtain⟨hfz45_0,hfz45_1,hfz45_2⟩:=fz3 BK136.out;obtain⟨hcz46_0,hcz46_1,hcz46_2⟩:=cz3 BK128.out;obtain⟨hfz46_0,hfz46_1,hfz46_2⟩:=fz3 BK128.out)|((with_reducible refine gate_callee (f:=16) rfl ?_);refine goesL_ (some 47) rfl rfl Tryz.func16 (by kernel_rfl) rfl #[.agg #[.int .i64 a0_0,.slice A0_1 l0_1.length c0_1,.slice (some ad135) l0_2.length c0_2],.int .i64 ((rd_T51 l0_2 x4_2).f0)] rfl uM ?_;(with_reducible refine(r7_Node.calls a0_0 _ _ l0_1 _ _ l0_2 ((rd_T51 l0_2 x4_2).f0) false _ ?side1 ?side2 ?side3 ?side4 A15.out).mono ?_);(case side1=>exact Kd.C_below HR0_1.out uB);(case side2=>exact HC0_1.out);(case side3=>exact Kd.C_below HR0_2.out uB);(case side4=>exact HC0_2.out);rintro e w47 ⟨rfl,hb⟩;refine⟨_,rfl,?_⟩;replace BK128:=aM (blk_below (g:=gb128) (o:=.cells #[.int .i64 a0_0,.slice A0_1 l0_1.length c0_1,.slice (some ad135) l0_2.length c0_2] 25 (0,0)) (by refine uK ?_;refine blk_far ?_ NB128_136.out _;refine uK ?_;refine blk_far ?_ NB128_136.out _;refine uK ?_;refine blk_far ?_ NB128_136.out _;refine uK ?_;exact BK128.out) hb);replace BK136:=aM (blk_below (g:=gb136) (o:=.cells #[.int .i64 ((rd_T51 l0_2 x4_2).f0),.int .i64 ((rd_T51 l0_2 x4_2).f1),.int .i64 ((rd_T51 l0_2 x4_2).f2)] 51 (0,0)) (by refine uK ?_;refine blk_put (cs:=#[.int .i64 ((rd_T51 l0_2 x4_2).f0),.int .i64 ((rd_T51 l0_2 x4_2).f1),.int .i64 0]) ?_ 2 _ rfl;refine uK ?_;refine blk_put (cs:=#[.int .i64 ((rd_T51 l0_2 x4_2).f0),.int .i64 0,.int .i64 0]) ?_ 1 _ rfl;refine uK ?_;refine blk_put (cs:=#[.int .i64 0,.int .i64 0,.int .i64 0]) ?_ 0 _ rfl;refine uK ?_;exact BK136.out) hb);replace HB:=aM (below_step uB hb);(try clear hb)))
        go_ret;exact⟨uE,uB⟩
      ·rw[if_neg c13] at H;replace c13:=decide_eq_false c13;replace H:=Option.bind_eq_some_iff.mp H;obtain⟨t133,A480,H⟩:=H;replace H:(if t133=true then(if (l0_1.length:Int)≤6 then((r7_in.f (l0_2.length:Int) 1 8).bind fun t134=>(some t134)) else(some false)) else(some false))=some r:=H;have A48:=aM A480;clear A480
       by_cases c49:t133=true
       ·subst c49;have H1:(if (l0_1.length:Int)≤6 then((r7_in.f (l0_2.length:Int) 1 8).bind fun t134=>(some t134)) else(some false))=some r:=by rw[if_pos rfl] at H;exact H
        clear H;have H:=H1;clear H1
        by_cases c50:(l0_1.length:Int)≤6
        ·rw[if_pos c50] at H;have c50b0:decide ((l0_1.length:Int)≤6)=true:=decide_eq_true c50;have c50b1:decide (l0_1.length≤6)=true:=decide_eq_true (by omega);clear c50;replace H:=Option.bind_eq_some_iff.mp H;obtain⟨t134,A510,H⟩:=H;replace H:(some t134)=some r:=H;have A51:=aM A510;clear A510;obtain rfl:=Option.some.inj H;obtain⟨hcz52_0,hcz52_1,hcz52_2⟩:=cz3 BK128.out;obtain⟨hfz52_0,hfz52_1,hfz52_2⟩:=fz3 BK128.out
         go_wp2_with (first|((with_reducible refine gate_callee (f:=46) rfl ?_);refine goesL_ (some 63) rfl rfl Tryz.func46 (by kernel_rfl) rfl #[.int .i64 a0_0] rfl uM ?_;(with_reducible refine(r7_Cups.calls a0_0 true _ A48.out).mono ?_);rintro e w' ⟨rfl,⟨nd,rfl⟩⟩;refine⟨_,rfl,?_⟩)|(go_at_call 45;(with_reducible refine(r7_in.calls (l0_2.length:Int) 1 8 t134 _ A51.out).mono ?_);rintro e w' ⟨rfl,⟨nd,rfl⟩⟩))
         go_ret;exact⟨uE,uB⟩
        ·rw[if_neg c50] at H;have c50b0:decide ((l0_1.length:Int)≤6)=false:=decide_eq_false c50;have c50b1:decide (l0_1.length≤6)=false:=decide_eq_false (by omega);clear c50;obtain rfl:=Option.some.inj H;obtain⟨hcz53_0,hcz53_1,hcz53_2⟩:=cz3 BK128.out;obtain⟨hfz53_0,hfz53_1,hfz53_2⟩:=fz3 BK128.out
         go_wp2_with (first|((with_reducible refine gate_callee (f:=46) rfl ?_);refine goesL_ (some 63) rfl rfl Tryz.func46 (by kernel_rfl) rfl #[.int .i64 a0_0] rfl uM ?_;(with_reducible refine(r7_Cups.calls a0_0 true _ A48.out).mono ?_);rintro e w' ⟨rfl,⟨nd,rfl⟩⟩;refine⟨_,rfl,?_⟩))
         go_ret;exact⟨uE,uB⟩
       ·replace c49:=Bool.eq_false_iff.mpr c49;subst c49;have H1:(some false)=some r:=by rw[if_neg (show ¬(false=true) by decide)] at H;exact H
        clear H;have H:=H1;clear H1;obtain rfl:=Option.some.inj H;obtain⟨hcz54_0,hcz54_1,hcz54_2⟩:=cz3 BK128.out;obtain⟨hfz54_0,hfz54_1,hfz54_2⟩:=fz3 BK128.out
        go_wp2_with (first|((with_reducible refine gate_callee (f:=46) rfl ?_);refine goesL_ (some 63) rfl rfl Tryz.func46 (by kernel_rfl) rfl #[.int .i64 a0_0] rfl uM ?_;(with_reducible refine(r7_Cups.calls a0_0 false _ A48.out).mono ?_);rintro e w' ⟨rfl,⟨nd,rfl⟩⟩;refine⟨_,rfl,?_⟩))
        go_ret;exact⟨uE,uB⟩
end Go.Proofs.YtjioobfeikbffabGreatDoor.K
end
section
namespace Go.Proofs.YtjioobfeikbffabGreatDoor.K
open Go.RowKit Go.Proofs.Zw Go.Proofs.Zl Go.Proofs.Zm
def PredB {α:Type} (g:Nat) (lb:Array Value) (enc:α->Value) (p:α->Bool) (w:World):Prop:=
  ∀(W:World) (x:α),Below w.heap.size w W->Calls Tryz.prog g (#[enc x]++lb) W fun e w'=>e=.returned (.bool (p x))∧Below W.heap.size W w'
theorem any_take_succ {α:Type} (p:α->Bool) (d:α) (l:List α) (k:Nat) (h:(l.take k).any p=false) (hp:p (l.getD k d)=false):(l.take (k+1)).any p=false:=by
  rw[List.take_add_one,List.any_append,h,Bool.false_or]
  cases hk:l[k]? with
  |none=>rfl
  |some x=>
    have:l.getD k d=x:=by simp[List.getD,hk]
    rw[this] at hp;simp[hp]
theorem any_of_at {α:Type} (p:α->Bool) (d:α) (l:List α) (k:Nat) (hk:k<l.length) (hp:p (l.getD k d)=true):l.any p=true:=by
  rw[List.any_eq_true];refine⟨l.getD k d,?_,hp⟩;rw[List.getD_eq_getElem?_getD,List.getElem?_eq_getElem hk];exact List.getElem_mem hk
theorem any_whole {α:Type} (p:α->Bool) (l:List α) (k:Nat) (hk:l.length≤k) (h:(l.take k).any p=false):l.any p=false:=by rwa [List.take_of_length_le hk] at h
structure After (w:World) where
  W:World
  hb:Below w.heap.size w W
instance {w:World}:Nonempty (After w):=⟨⟨w,Below.refl _ _⟩⟩
def clsA (w:World):World->Prop:=fun W=>∃X:After w,W=X.W
theorem After.cell {w:World} (X:After w) {b o:Nat} {v:Value} (h:w.cell? ⟨b,o,none⟩=some v):X.W.cell? ⟨b,o,none⟩=some v:=(X.hb.cell (p:=⟨b,o,none⟩) (World.block_lt_of_cell? w _ h)).trans h
theorem After.cell' {w:World} (X:After w) {a:Addr} {v:Value} (h:w.cell? a=some v):X.W.cell? a=some v:=(X.hb.cell (World.block_lt_of_cell? w _ h)).trans h
theorem Calls.after {P:Program} {f:FuncId} {args:Array Value} {w:World} {X:After w} {v:Value} (h:Calls P f args X.W fun e w'=>e=.returned v∧Below X.W.heap.size X.W w'):
    Calls P f args X.W fun e w'=>e=.returned v∧∃Y:After w,w'=Y.W:=h.mono fun e w' ⟨he,hb⟩=>⟨he,⟨w',below_step X.hb hb⟩,rfl⟩
theorem Calls.after_same {P:Program} {f:FuncId} {args:Array Value} {w:World} {X:After w} {v:Value} (h:Calls P f args X.W fun e w'=>e=.returned v∧X.W=w'):
    Calls P f args X.W fun e w'=>e=.returned v∧∃Y:After w,w'=Y.W:=h.mono fun e w' ⟨he,hb⟩=>⟨he,X,hb.symm⟩
theorem wp_region_after {P:Program} {id:Nat} {Q:Exit->Act->World->Prop} {a:Act} {w:World} {l:List Oper} (hm:P.follows .mixedOrders=true) (hB:Region.lexB .any l.toArray=true)
    (h:wpQuiet P l.toArray (clsA w) (fun a'=>∀X:After w,Q .normal a' X.W) l a):(Code.region id l.toArray true).wp P Q a w:=
  wp_region_quiet (C:=clsA w) hm hB ⟨⟨_,(below_drew1 (Below.refl w.heap.size w))⟩,rfl⟩ (by
    simp only[]
    have:(fun a'=>∀w',clsA w w'->Q .normal a' w')=(fun a'=>∀X:After w,Q .normal a' X.W):=by
      funext a'
      exact propext ⟨fun h X=>h _ ⟨X,rfl⟩,fun h w' ⟨X,hX⟩=>hX▸h X⟩
    rw[this]
    exact h)
end Go.Proofs.YtjioobfeikbffabGreatDoor.K
end
section
namespace Go.Proofs.YtjioobfeikbffabGreatDoor.K
open Go.RowKit Go.Shelf Go.Proofs.Zw Go.Proofs.Zl Go.Proofs.Zm
structure KB (M:Nat->Prop) (W W':World):Prop where
  os:W'.os=W.os
  tape:W'.tape=W.tape
  output:W'.output=W.output
  size:W.heap.size≤W'.heap.size
  block:∀k,k<W.heap.size->¬M k->W'.heap[k]? =W.heap[k]?
theorem KB.refl (M:Nat->Prop) (W:World):KB M W W:=⟨rfl,rfl,rfl,Nat.le_refl _,fun _ _ _=>rfl⟩
theorem KB.trans {M:Nat->Prop} {A B C:World} (h:KB M A B) (k:KB M B C):KB M A C:=
  ⟨k.os.trans h.os,k.tape.trans h.tape,k.output.trans h.output,Nat.le_trans h.size k.size,fun i hi hm=>(k.block i (Nat.lt_of_lt_of_le hi h.size) hm).trans (h.block i hi hm)⟩
theorem KB.mono {M M':Nat->Prop} {A B:World} (h:KB M A B) (hm:∀k,k<A.heap.size->M k->M' k):KB M' A B:=⟨h.os,h.tape,h.output,h.size,fun k hk hn=>h.block k hk (fun hM=>hn (hm k hk hM))⟩
theorem KB.of_below {M:Nat->Prop} {A B:World} (h:Below A.heap.size A B):KB M A B:=⟨h.os,h.tape,h.output,h.size,fun k hk _=>h.block k hk⟩
theorem KB.below {M:Nat->Prop} {A B:World} {n:Nat} (h:KB M A B) (hn:n≤A.heap.size) (hm:∀k,k<n->¬M k):Below n A B:=⟨h.os,h.tape,h.output,h.size,fun k hk=>h.block k (by omega) (hm k hk)⟩
theorem KB.grown {M:Nat->Prop} {A B:World} {row:Option Nat} (h:A.grownBy B row) (hm:∀k,row=some k->k<A.heap.size->M k):KB M A B:=
  ⟨h.os,h.tape,h.output,h.size,fun k hk hn=>h.block k hk (fun e=>hn (hm k e.symm hk))⟩
theorem KB.alloc {M:Nat->Prop} (A:World) (o:Obj):KB M A (A.alloc o):=KB.of_below ((Below.refl _ A).alloc (Nat.le_refl _) o)
theorem KB.putObj {M:Nat->Prop} (A:World) (l:Nat) (o:Obj) (hm:l<A.heap.size->M l):KB M A (A.putObj l o):=KB.grown (grownBy_putObj' A l o) (fun k e hk=>by cases e;exact hm hk)
theorem KB.setCell {M:Nat->Prop} (A:World) (p:Addr) (v:Value) (hm:M p.block):KB M A (A.setCell p v):=
  ⟨rfl,rfl,rfl,by simp[World.setCell],fun k hk hn=>Below.heap_setCell _ _ _ _ (fun e=>hn (by rw[e];exact hm))⟩
theorem KB.at {M:Nat->Prop} {A B:World} {k:Nat} {o:Obj} (h:KB M A B) (hk:A.heap[k]? =some o) (hn:¬M k):B.heap[k]? =some o:=(h.block k (blk_lt hk) hn).trans hk
theorem KB.step {M N:Nat->Prop} {A B C:World} (h:KB M A B) (k:KB N B C) (hN:∀i,i<A.heap.size->N i->M i):KB M A C:=
  ⟨k.os.trans h.os,k.tape.trans h.tape,k.output.trans h.output,Nat.le_trans h.size k.size,fun i hi hm=>(k.block i (Nat.lt_of_lt_of_le hi h.size) (fun hn=>hm (hN i hi hn))).trans (h.block i hi hm)⟩
def SeqU {α:Type} (F:Fence) (n:Nat) (P:Program) (g:Nat) (lb:Array Value) (C Wr:Nat->Prop) (en:α->Array Value) (xs:List α) (w:World):Prop:=
  ∀(l:Nat) (M:Nat->Prop) (J:List α->World->Prop) (Jx:World->Prop) (W:World),KB (fun k=>¬C k) w W->(∀ k,C k->k<w.heap.size)->(∀ k,M k->k<W.heap.size∧¬C k)->
    (∀ pre A A',J pre A->W.heap.size≤A.heap.size->KB Wr A A'->J pre A')->
    (∀ pre x W1,J pre W1->W.heap.size≤W1.heap.size->(∃ rest,xs=pre++x::rest)->
      YieldAt F (n-1) P l (en x) W1 fun e W'=>KB M W1 W'∧((e=.returned (.bool true)∧J (pre++[x]) W')∨(e=.returned (.bool false)∧Jx W')))->
    J [] W->
    CallsIn F n P g (#[.func (.yield l) #[] #[]]++lb) W fun e W'=>(∃ v,e=.returned v)∧(J xs W'∨Jx W')∧KB (fun k=>M k∨Wr k) W W'
def stopP (R:World->Prop) (X:Code->World->Prop):Exit->Act->World->Prop
  |.normal,_,W'=>R W'
  |.ret,_,W'=>X .ret W'
  |.exit id,_,W'=>X (.exit id) W'
  |_,_,_=>False
theorem wpIn_rangeU {α:Type} {F:Fence} {n:Nat} {P:Program} {g:Operand} {ps:Array Tmp} {assign body:Code} {Q:Exit->Act->World->Prop} {a:Act} {w:World}
    (hro:F.round=none) (h1:1≤n) {gf:Nat} {lb:Array Value} (hg:a.eval g=.func (.func gf) #[] lb) (hFg:F.fn gf) (eg:∀args w,(callFunc gf args).run P w=.ok (.enter gf args) w)
    {C Wr:Nat->Prop} {en:α->Array Value} {xs:List α} {w0:World} (hseq:SeqU F (n-1) P gf lb C Wr en xs w0)
    (M:Nat->Prop) (hk0:KB (fun k=>¬C k) w0 w) (hC:∀k,C k->k<w0.heap.size) (hWr:∀k,Wr k->C k) (hM:∀k,M k->k<w.heap.size∧¬C k)
    (hps:∀x,(en x).size=ps.size)
    (I:List α->World->Prop) (Ix:Code->World->Prop) (a₁:α->Act)
    (hI:∀pre A A',I pre A->w.heap.size≤A.heap.size->KB (fun k=>(w.heap.size≤k∧k<w.heap.size+2)∨Wr k) A A'->I pre A')
    (hIx:∀c A A',Ix c A->w.heap.size≤A.heap.size->KB (fun k=>(w.heap.size≤k∧k<w.heap.size+2)∨Wr k) A A'->Ix c A')
    (h0:I [] w)
    (hassign:∀(l:Nat) (x:α) (W:World) (K:Act->World->Prop),K (a₁ x) W->
      assign.wpIn (F.inRound l) (n-1-1) P (Exit.then K (fun _ _ _=>False)) { tmps:=(ps.zip (en x)).foldl (fun t (p,v)=>t.setIfInBounds p v) a.tmps,defers:=[]} W)
    (hbody:∀(l:Nat) (pre:List α) (x:α) (W:World),I pre W->w.heap.size+2≤W.heap.size->(∃ rest,xs=pre++x::rest)->KB (fun k=>M k∨Wr k) w W->
      body.wpIn (F.inRound l) (n-1-1) P (stopP (fun W'=>KB M W W'∧I (pre++[x]) W') (fun c W'=>KB M W W'∧Ix c W')) (a₁ x) W)
    (hdone:∀(W:World),I xs W->KB (fun k=>M k∨Wr k) w W->W.heap[w.heap.size]? =some (.deferred (some []))->Q .normal { a with defers:={ target:=.collected w.heap.size,args:=#[]}::a.defers} W)
    (hstop:∀(c:Code) (W:World),Ix c W->KB (fun k=>M k∨Wr k) w W->W.heap[w.heap.size]? =some (.deferred (some []))->c.wpIn F n P Q { a with defers:={ target:=.collected w.heap.size,args:=#[]}::a.defers} W):
    (Code.rangeFunc g ps assign body).wpIn F n P Q a w:=by
  refine wpIn_rangeFunc ?_;intro fn hfn;rw[hro];obtain⟨rec,hrec⟩:∃rec:LoopState->Option Code->Loop,rec=fun st pe=>{ state:=st,pending:=pe,fn,tmps:=a.tmps,params:=ps,assign,body,defers:=w.heap.size}:=⟨_,rfl⟩;obtain⟨W1,hW1⟩:∃W1,(w.alloc (.deferred (some []))).alloc (.loop (rec .ready none))=W1:=⟨_,rfl⟩
  have hL1:W1.heap[w.heap.size+1]? =some (.loop (rec .ready none)):=by
    rw[← hW1];have:=World.alloc_heap_new (w.alloc (.deferred (some []))) (.loop (rec .ready none));rwa [World.size_alloc] at this
  have hK1:W1.heap[w.heap.size]? =some (.deferred (some [])):=by
    rw[← hW1];exact(Below.heap_alloc _ _ _ (by simp)).trans (World.alloc_heap_new w _)
  have hs1:W1.heap.size=w.heap.size+2:=by rw[← hW1];simp
  have hk1:∀N:Nat->Prop,KB N w W1:=fun N=>by rw[← hW1];exact(KB.alloc w _).trans (KB.alloc _ _)
  have hWl:∀k,Wr k->k<w.heap.size:=fun k hk=>Nat.lt_of_lt_of_le (hC k (hWr k hk)) hk0.size
  
  have hup:∀ {W A:World} {N:Nat->Prop},KB (fun k=>M k∨Wr k) w W->KB N W A->(∀ k,k<w.heap.size->N k->M k∨Wr k)->KB (fun k=>M k∨Wr k) w A:=fun h k hN=>KB.step h k hN
  refine⟨w.heap.size+1,[{ target:=.collected w.heap.size,args:=#[]}],W1,{ target:=.fn (.func gf) lb,args:=#[.func (.yield (w.heap.size+1)) #[] #[]]},W1,gf,
    #[.func (.yield (w.heap.size+1)) #[] #[]]++lb,W1,?_,?_,?_,?_,fun _=>h1,?_⟩
  · rw[← hW1,hrec];exact run_enterLoop_outer _ _ _ _ _
  · simp only[resolve,hg];simp[go_sem]
  · intro f' hf';simp[Target.leads] at hf';subst hf';exact hFg
  · simp[invoke,go_sem,eg]
  · refine(hseq (w.heap.size+1) (fun k=>M k∨k=w.heap.size+1)
      (fun pre W=>I pre W∧W.heap[w.heap.size+1]? =some (.loop (rec .ready none))∧W.heap[w.heap.size]? =some (.deferred (some []))∧KB (fun k=>M k∨Wr k) w W)
      (fun W=>∃c,Ix c W∧W.heap[w.heap.size+1]? =some (.loop (rec .done (some c)))∧W.heap[w.heap.size]? =some (.deferred (some []))∧KB (fun k=>M k∨Wr k) w W)
      W1 (hk0.trans (hk1 _)) hC
      (fun k hk=>by
        rcases hk with hk|rfl
        · exact⟨by have:=(hM k hk).1;omega,(hM k hk).2⟩
        · exact⟨by omega,fun h=>by have:=hC _ h;have:=hk0.size;omega⟩)
      (fun pre A A' hJ hA hk=>by
        have h2:w.heap.size+1<A.heap.size:=by omega
        exact⟨hI pre A A' hJ.1 (by omega) (hk.mono fun k _ h=>.inr h),hk.at hJ.2.1 (fun h=>by have:=hWl _ h;omega),hk.at hJ.2.2.1 (fun h=>by have:=hWl _ h;omega),hup hJ.2.2.2 hk (fun k _ h=>.inr h)⟩)
      ?_ ⟨hI _ _ _ h0 (Nat.le_refl _) (hk1 _),hL1,hK1,hk1 _⟩).mono ?_
    · rintro pre x W ⟨hi,hl,hk,hkw⟩ hsz hrest;rw[hs1] at hsz;have hlt:w.heap.size+1<W.heap.size:=by omega
      have hy:=run_yield (P:=P) (args:=en x) hl (by rw[hrec];exact hps _);rw[hrec] at hy;refine⟨fn,_,assign,body,hy,roundIn_of_wpIn hfn (hassign (w.heap.size+1) x W _ ?_)⟩;refine⟨_,run_beginRound hl (by rw[hrec]),?_⟩;have hlB:(W.putObj (w.heap.size+1) (.loop { rec .ready none with state:=.busy})).heap[w.heap.size+1]? =some (.loop { rec .ready none with state:=.busy}):=World.putObj_heap_same (by omega);have hkB:(W.putObj (w.heap.size+1) (.loop { rec .ready none with state:=.busy})).heap[w.heap.size]? =some (.deferred (some [])):=(World.putObj_heap_other (by omega)).trans hk;have hkp:∀N:Nat->Prop,(∀ k,k=w.heap.size+1->N k)->KB N W (W.putObj (w.heap.size+1) (.loop { rec .ready none with state:=.busy})):=fun N hN=>KB.putObj _ _ _ fun _=>hN _ rfl;refine wpIn_mono (hbody (w.heap.size+1) pre x _ (hI _ _ _ hi (by omega) (hkp _ fun k e=>.inl ⟨by omega,by omega⟩)) (by simp[World.putObj];omega) hrest (hup (N:=fun k=>k=w.heap.size+1) hkw (hkp _ fun k e=>e) (fun k hk e=>by omega))) ?_
      
      have fin:∀(jump:Option Code) (W3:World),KB M (W.putObj (w.heap.size+1) (.loop { rec .ready none with state:=.busy})) W3->
          (Instr.endRound (w.heap.size+1) jump).run P W3=.ok (.bool jump.isNone) (W3.putObj (w.heap.size+1) (.loop (rec (if jump.isNone then .ready else .done) jump)))∧
          (W3.putObj (w.heap.size+1) (.loop (rec (if jump.isNone then .ready else .done) jump))).heap[w.heap.size+1]? =some (.loop (rec (if jump.isNone then .ready else .done) jump))∧
          (W3.putObj (w.heap.size+1) (.loop (rec (if jump.isNone then .ready else .done) jump))).heap[w.heap.size]? =some (.deferred (some []))∧
          KB (fun k=>M k∨k=w.heap.size+1) W (W3.putObj (w.heap.size+1) (.loop (rec (if jump.isNone then .ready else .done) jump)))∧w.heap.size+2≤W3.heap.size:=fun jump W3 hk3=>by
        have hl3:=hk3.at hlB (fun h=>by have:=(hM _ h).1;omega);have hD3:=hk3.at hkB (fun h=>by have:=(hM _ h).1;omega);have hs3:w.heap.size+2≤W3.heap.size:=Nat.le_trans (by simp[World.putObj];omega) hk3.size;have:=run_endRound (P:=P) jump hl3;rw[hrec] at this;refine⟨by rw[hrec];exact this,World.putObj_heap_same (by omega),(World.putObj_heap_other (by omega)).trans hD3,?_,hs3⟩;exact(hkp _ fun k e=>.inr e).trans ((hk3.mono fun k _ h=>.inl h).trans (KB.putObj _ _ _ fun _=>.inr rfl))
      rintro e a3 W3 hp
      cases e with
      |normal=>
        obtain⟨hk3,hi3⟩:=hp;obtain⟨hr,hl4,hD4,hk4,hs3⟩:=fin none W3 hk3;exact⟨_,_,hr,hk4,.inl ⟨rfl,hI _ _ _ hi3 (by omega) (KB.putObj _ _ _ fun _=>.inl ⟨by omega,by omega⟩),hl4,hD4,hup hkw hk4 (fun k hk h=>h.elim .inl fun e=>by omega)⟩⟩
      |ret=>
        obtain⟨hk3,hi3⟩:=hp;obtain⟨hr,hl4,hD4,hk4,hs3⟩:=fin (some .ret) W3 hk3;exact⟨_,_,hr,hk4,.inr ⟨rfl,.ret,hIx _ _ _ hi3 (by omega) (KB.putObj _ _ _ fun _=>.inl ⟨by omega,by omega⟩),hl4,hD4,hup hkw hk4 (fun k hk h=>h.elim .inl fun e=>by omega)⟩⟩
      |exit id=>
        obtain⟨hk3,hi3⟩:=hp;obtain⟨hr,hl4,hD4,hk4,hs3⟩:=fin (some (.exit id)) W3 hk3;exact⟨_,_,hr,hk4,.inr ⟨rfl,.exit id,hIx _ _ _ hi3 (by omega) (KB.putObj _ _ _ fun _=>.inl ⟨by omega,by omega⟩),hl4,hD4,hup hkw hk4 (fun k hk h=>h.elim .inl fun e=>by omega)⟩⟩
      |_=>exact hp.elim
    · rintro e W2 ⟨⟨v,rfl⟩,h,hkb⟩;have hs2:w.heap.size+2≤W2.heap.size:=by have:=hkb.size;omega
      rcases h with⟨hi,hl,hk,hkw⟩|⟨c,hi,hl,hk,hkw⟩
      · refine⟨none,_,by have:=run_endLoop (P:=P) hl (by rw[hrec];simp);rw[hrec] at this;exact this,hdone _ (hI _ _ _ hi (by omega) (KB.putObj _ _ _ fun _=>.inl ⟨by omega,by omega⟩)) ?_ ((World.putObj_heap_other (by omega)).trans hk)⟩;exact hup (N:=fun k=>k=w.heap.size+1) hkw (KB.putObj _ _ _ fun _=>rfl) (fun k hk e=>by omega)
      · refine⟨some c,_,by have:=run_endLoop (P:=P) hl (by rw[hrec];simp);rw[hrec] at this;exact this,hstop c _ (hIx _ _ _ hi (by omega) (KB.putObj _ _ _ fun _=>.inl ⟨by omega,by omega⟩)) ?_ ((World.putObj_heap_other (by omega)).trans hk)⟩;exact hup (N:=fun k=>k=w.heap.size+1) hkw (KB.putObj _ _ _ fun _=>rfl) (fun k hk e=>by omega)
end Go.Proofs.YtjioobfeikbffabGreatDoor.K
end
section
namespace Go.Proofs.YtjioobfeikbffabGreatDoor.K
open Go.RowKit Go.Proofs.Zw Go.Proofs.Zl Go.Proofs.Zm
abbrev SN:=S77
abbrev SO:=S51
abbrev rdN:=rd_T77
abbrev rdO:=rd_T51
def upF (N:List SN):Nat->Int->List Int
  |0,n=>[n]
  |k+1,n=>n::(if 0<n then upF N k (rdN N (n-1)).f0 else [])
def upL (N:List SN) (n:Int):List Int:=upF N n.toNat n
def okE (N:List SN):Bool:=(List.range N.length).all fun i=>decide (0≤(rdN N i).f0)&&decide ((rdN N i).f0≤i)&&decide (0≤(rdN N i).f1)&&decide ((rdN N i).f1≤200)
def okN (N:List SN):Bool:=(List.range N.length).all fun i=>decide (0≤(rdN N i).f0)&&decide ((rdN N i).f0≤i)&&decide (0≤(rdN N i).f1)&&decide ((rdN N i).f1≤201)
def okO (m:Nat) (O:List SO):Bool:=O.all fun o=>decide (0≤o.f0)&&decide (o.f0≤m)&&decide (1≤o.f1)&&decide (o.f1≤200)&&decide (0≤o.f2)&&decide (o.f2≤3)
def treeB (I:Int) (N:List SN) (O:List SO):Bool:=decide (0≤I)&&decide (I≤200)&&decide (N.length≤6)&&decide (1≤O.length)&&decide (O.length≤8)&&okE N&&okO N.length O
theorem okE_at {N:List SN} (h:okE N=true) {i:Int} (h0:0≤i) (h1:i<N.length):0≤(rdN N i).f0∧(rdN N i).f0≤i∧0≤(rdN N i).f1∧(rdN N i).f1≤200:=by
  unfold okE at h;rw[List.all_eq_true] at h;have:=h i.toNat (List.mem_range.2 (by omega));simp only[Bool.and_eq_true,decide_eq_true_eq] at this;rw[Int.toNat_of_nonneg h0] at this
  omega
theorem okN_at {N:List SN} (h:okN N=true) {i:Int} (h0:0≤i) (h1:i<N.length):0≤(rdN N i).f0∧(rdN N i).f0≤i∧0≤(rdN N i).f1∧(rdN N i).f1≤201:=by
  unfold okN at h;rw[List.all_eq_true] at h;have:=h i.toNat (List.mem_range.2 (by omega));simp only[Bool.and_eq_true,decide_eq_true_eq] at this;rw[Int.toNat_of_nonneg h0] at this
  omega
theorem okE_okN {N:List SN} (h:okE N=true):okN N=true:=by
  unfold okE at h;unfold okN;rw[List.all_eq_true] at h⊢;intro i hi;have:=h i hi;simp only[Bool.and_eq_true,decide_eq_true_eq] at this⊢
  omega
theorem okO_at {m:Nat} {O:List SO} (h:okO m O=true) {i:Int} (h0:0≤i) (h1:i<O.length):0≤(rdO O i).f0∧(rdO O i).f0≤m∧1≤(rdO O i).f1∧(rdO O i).f1≤200∧0≤(rdO O i).f2∧(rdO O i).f2≤3:=by
  unfold okO at h;rw[List.all_eq_true] at h;have hi:i.toNat<O.length:=by omega
  have:=h O[i.toNat] (List.getElem_mem hi);simp only[Bool.and_eq_true,decide_eq_true_eq] at this;have e:rdO O i=O[i.toNat]:=by simp[rd_T51,z51,List.getD,List.getElem?_eq_getElem hi]
  rw[e]
  omega
structure Okt (I:Int) (N:List SN) (O:List SO):Prop where
  i0:0≤I
  i1:I≤200
  nl:N.length≤6
  o1:1≤O.length
  ol:O.length≤8
  e:okE N=true
  n:okN N=true
  o:okO N.length O=true
theorem tree_ok {I:Int} {N:List SN} {O:List SO} (h:treeB I N O=true):Okt I N O:=by
  simp only[treeB,Bool.and_eq_true,decide_eq_true_eq] at h;exact⟨h.1.1.1.1.1.1,h.1.1.1.1.1.2,h.1.1.1.1.2,h.1.1.1.2,h.1.1.2,h.1.2,okE_okN h.1.2,h.2⟩
theorem up_fuel {N:List SN} (hN:okN N=true):∀(k:Nat) (n:Int),0≤n->n≤N.length->n.toNat≤k->upF N k n=upL N n:=by
  intro k
  induction k using Nat.strongRecOn with
  |ind k ih=>
    intro n h0 h1 hk;unfold upL
    match k,n.toNat,hk,show n=(n.toNat:Int) by omega with
    |0,0,_,_=>rfl
    |k+1,0,_,e=>simp[upF,e]
    |k+1,m+1,hk,e=>
      have h2:0<n:=by omega
      have hp:=okN_at hN (show 0≤n-1 by omega) (by omega);simp only[upF,if_pos h2];rw[ih k (by omega) _ hp.1 (by omega) (by omega),ih m (by omega) _ hp.1 (by omega) (by omega)]
theorem up_zero (N:List SN):upL N 0=[0]:=rfl
theorem up_pos {N:List SN} (hN:okN N=true) {n:Int} (h0:0<n) (h1:n≤N.length):upL N n=n::upL N (rdN N (n-1)).f0:=by
  have hp:=okN_at hN (show 0≤n-1 by omega) (by omega);obtain⟨m,rfl⟩:∃m:Nat,n=((m+1:Nat):Int):=⟨n.toNat-1,by omega⟩
  show upF N (m+1) _=_
  simp only[upF,if_pos h0];rw[up_fuel hN m _ hp.1 (by omega) (by omega)]
theorem up_ind {N:List SN} (hN:okN N=true) {P:Int->Prop} (hz:P 0) (hs:∀n:Int,0<n->n≤N.length->P (rdN N (n-1)).f0->P n):∀n:Int,0≤n->n≤N.length->P n:=by
  have:∀(k:Nat) (n:Int),n.toNat=k->0≤n->n≤N.length->P n:=by
    intro k
    induction k using Nat.strongRecOn with
    |ind k ih=>
      intro n hk h0 h1
      by_cases e:n=0
      · rw[e];exact hz
      · have hp:=okN_at hN (show 0≤n-1 by omega) (by omega);exact hs n (by omega) h1 (ih (rdN N (n-1)).f0.toNat (by omega) _ rfl hp.1 (by omega))
  exact fun n h0 h1=>this n.toNat n rfl h0 h1
theorem up_mem {N:List SN} (hN:okN N=true):∀n:Int,0≤n->n≤N.length->∀x∈upL N n,0≤x∧x≤n:=
  up_ind hN (by simp[up_zero]) fun n h0 h1 ih x hx=>by
    rw[up_pos hN h0 h1] at hx;have hp:=okN_at hN (show 0≤n-1 by omega) (by omega)
    rcases List.mem_cons.1 hx with rfl|hx
    · omega
    · have:=ih x hx;omega
theorem up_nodup {N:List SN} (hN:okN N=true):∀n:Int,0≤n->n≤N.length->(upL N n).Nodup:=
  up_ind hN (by simp[up_zero]) fun n h0 h1 ih=>by
    have hp:=okN_at hN (show 0≤n-1 by omega) (by omega);rw[up_pos hN h0 h1,List.nodup_cons];refine⟨fun h=>?_,ih⟩;have:=(up_mem hN _ hp.1 (by omega) n h).2
    omega
def belB (N:List SN) (O:List SO) (i n:Int):Bool:=(upL N (rdO O i).f0).contains n
def sumTo (N:List SN) (O:List SO) (s:List Int) (n:Int):Nat->Int
  |0=>0
  |k+1=>sumTo N O s n k+if belB N O k n then rd s k else 0
def capF (I:Int) (N:List SN) (n:Int):Int:=if n=0 then I else(rdN N (n-1)).f1
def flowL (N:List SN) (O:List SO) (s:List Int) (k:Nat) (pre:List Int):List Int:=(List.range (N.length+1)).map fun(m:Nat)=>sumTo N O s m k+if pre.contains (m:Int) then rd s k else 0
def flowsF (N:List SN) (O:List SO) (s:List Int):List Int:=flowL N O s O.length []
def fitsB (I:Int) (N:List SN) (O:List SO) (s:List Int):Bool:=(List.range (N.length+1)).all fun n=>decide (sumTo N O s n O.length≤capF I N n)
def areB (O:List SO) (s:List Int):Bool:=decide (s.length=O.length)&&(List.range s.length).all fun i=>decide (0≤rd s i)&&decide (rd s i≤(rdO O i).f1)
theorem flowL_len (N:List SN) (O:List SO) (s:List Int) (k:Nat) (pre:List Int):(flowL N O s k pre).length=N.length+1:=by simp[flowL]
theorem flowL_at (N:List SN) (O:List SO) (s:List Int) (k:Nat) (pre:List Int) {n:Int} (h0:0≤n) (h1:n≤N.length):rd (flowL N O s k pre) n=sumTo N O s n k+if pre.contains n then rd s k else 0:=by
  obtain⟨m,rfl⟩:=Int.eq_ofNat_of_zero_le h0;have hm:m<(List.range (N.length+1)).length:=by simp;omega
  simp[rd,flowL,List.getD,List.getElem?_map,List.getElem?_range (show m<N.length+1 by omega)]
theorem flowL_set {N:List SN} {O:List SO} {s:List Int} {k:Nat} {pre:List Int} {n:Int} (h0:0≤n) (h1:n≤N.length) (hn:n∉pre):(flowL N O s k pre).set n.toNat (rd (flowL N O s k pre) n+rd s k)=flowL N O s k (pre++[n]):=by
  rw[flowL_at N O s k pre h0 h1];apply List.ext_getElem
  · simp[flowL]
  · intro i hi _;simp only[List.getElem_set];have hil:i<N.length+1:=by simpa[flowL] using hi
    simp only[flowL,List.getElem_map,List.getElem_range]
    by_cases e:n.toNat=i
    · have en:((i:Nat):Int)=n:=by omega
      have h1:pre.contains n=false:=by simpa using hn
      have h2:(pre++[n]).contains n=true:=by simp
      rw[if_pos e,en,h1,h2];simp
    · rw[if_neg e]
      have:(pre++[n]).contains (i:Int)=pre.contains (i:Int):=by
        have hne:(i:Int)≠n:=by omega
        rw[Bool.eq_iff_iff];simp[hne]
      rw[this]
theorem flowL_next {N:List SN} {O:List SO} {s:List Int} {k:Nat}:flowL N O s k (upL N (rdO O k).f0)=flowL N O s (k+1) []:=by
  simp[flowL,sumTo,belB]
theorem sumTo_range {N:List SN} {O:List SO} {s:List Int} {n:Int}:∀ {k:Nat},(∀ i:Nat,i<k->0≤rd s i∧rd s i≤1000)->0≤sumTo N O s n k∧sumTo N O s n k≤1000*k
  |0,_=>by simp[sumTo]
  |k+1,h=>by
    have ih:=sumTo_range (N:=N) (O:=O) (n:=n) (k:=k) (fun i hi=>h i (by omega));have:=h k (by omega);simp only[sumTo]
    split<;>omega
def raiseL (s:List Int) (i:Int):List Int:=s.set i.toNat (rd s i+1)
def mayB (I:Int) (N:List SN) (O:List SO) (s:List Int) (i:Int):Bool:=areB O (raiseL s i)&&fitsB I N O (raiseL s i)
def roundF (I:Int) (N:List SN) (O:List SO) (c:Int) (s:List Int):Nat->List Int×Bool
  |0=>(s,false)
  |k+1=>if(rdO O k).f2=c then(if mayB I N O (roundF I N O c s k).1 k=true then(raiseL (roundF I N O c s k).1 k,true) else roundF I N O c s k) else roundF I N O c s k
def roundsF (I:Int) (N:List SN) (O:List SO) (c:Int):Nat->List Int->List Int
  |0,s=>s
  |f+1,s=>if(roundF I N O c s O.length).2=true then roundsF I N O c f (roundF I N O c s O.length).1 else(roundF I N O c s O.length).1
def leftTo (O:List SO) (s:List Int):Nat->Int
  |0=>0
  |k+1=>leftTo O s k+((rdO O k).f1-rd s k)
def leftF (O:List SO) (s:List Int):Nat:=(leftTo O s O.length).toNat
def classF (I:Int) (N:List SN) (O:List SO) (c:Int) (s:List Int):List Int:=roundsF I N O c (leftF O s+1) s
def orderF (I:Int) (N:List SN) (O:List SO) (s:List Int):List Int->List Int
  |[]=>s
  |c::l=>orderF I N O (classF I N O c s) l
def zerosF (m:Nat):List Int:=List.replicate m 0
def orderedF (I:Int) (N:List SN) (O:List SO) (order:List Int):List Int:=orderF I N O (zerosF O.length) order
def lawF (I:Int) (N:List SN) (O:List SO):List Int:=orderedF I N O [0,1,2,3]
end Go.Proofs.YtjioobfeikbffabGreatDoor.K
end
section
namespace Go.Proofs.YtjioobfeikbffabGreatDoor.K
open Go.RowKit Go.Shelf Go.Proofs.Zw Go.Proofs.Zl Go.Proofs.Zm
def onlyN (Q:Exit->Act->World->Prop):Exit->Act->World->Prop
  |.normal,a,w=>Q .normal a w
  |_,_,_=>False
def noDefer (ops:Array Oper):Bool:=ops.all fun o=>match o.op with
  |.defer _=>false
  |_=>true
theorem noDefer_at {ops:Array Oper} (h:noDefer ops=true) {i:Nat} {o:Oper} (ho:ops[i]? =some o):∀c,o.op≠ .defer c:=by
  intro c hc;have:=(Array.all_eq_true_iff_forall_mem.1 h) o (Array.mem_of_getElem? ho);rw[hc] at this
  cases this
theorem callsIn_wide_r {l n:Nat} {P:Program} {f:FuncId} {args:Array Value} {w:World} {R:Ending->World->Prop} (h:Calls P f args w R):CallsIn (Fence.wide.inRound l) n P f args w R:=CallsIn.inRound l (callsIn_wide.2 h)
theorem rowsIn_wide_r {l n:Nat} {P:Program} {row:String} {args:Array Value} {w:World} {R:Value->World->Prop} (h:Rows P row args w R):RowsIn (Fence.wide.inRound l) n P row args w R:=
  fun c cs _=>let ⟨v,w',r,s⟩:=h c cs;⟨v,w',r,(stepsIn_wide (P:=P)).2 s⟩
theorem wpOpIn_of_wpOp {l n:Nat} {P:Program} {ops:Array Oper} (hd:noDefer ops=true) {Q:Exit->Act->World->Prop} (hQ:∀a w,¬Q .outgrown a w) {i:Nat} {K:Act->World->Prop} {a:Act} {w:World} (h:wpOp P ops Q i K a w):wpOpIn (Fence.wide.inRound l) n P ops Q i K a w:=by
  unfold wpOp at h;unfold wpOpIn
  split
  · rename_i he;rw[he] at h;exact h
  · rename_i o ho
    rw[ho] at h;simp only at h
    split
    · rename_i hw
      rw[if_pos hw] at h;have h:=h.resolve_right (fun hn=>by obtain⟨a,w,hx⟩:=hn.2;exact hQ a w hx);unfold Oper.wp at h;unfold Oper.wpIn;refine⟨fun _ _=>trivial,?_⟩;rw[Oper.semAt_eq _ _ _ (noDefer_at hd ho)];generalize (execOp a.eval o).run P w=r at h⊢
      cases r with
      |ok x w'=>
        cases x<;>simp only[Oper.upon,Oper.uponIn] at h⊢ <;>
          first
            |exact h
            |exact⟨fun h0=>(by cases h0),(callsIn_wide_r h).mono fun e w he=>by cases e<;>exact he⟩
            |exact⟨fun h0=>(by cases h0),rowsIn_wide_r h⟩
            |exact h.elim
      |halt x w'=>cases x<;>simp only[Oper.upon,Oper.uponIn] at h⊢ <;>exact h
    · rename_i hw
      rw[if_neg hw] at h;exact⟨fun _ _=>trivial,h⟩
theorem wpAnyIn_of_wpAny {l n:Nat} {P:Program} {md:Region.Mode} {ops:Array Oper} (hd:noDefer ops=true) {Q:Exit->Act->World->Prop} (hQ:∀a w,¬Q .outgrown a w):∀(fuel:Nat) (listed:Array Bool) (a:Act) (w:World),wpAny P md ops Q fuel listed a w->wpAnyIn (Fence.wide.inRound l) n P md ops Q fuel listed a w
  |0,_,_,_,h=>h
  |fuel+1,listed,a,w,h=>⟨h.1,fun i hi=>wpOpIn_mono (fun a w=>wpAnyIn_of_wpAny hd hQ fuel _ a w) (wpOpIn_of_wpOp hd hQ (h.2 i hi))⟩
theorem startR_ {l id n m:Nat} {P:Program} {ops:Array Oper} {Q:Exit->Act->World->Prop} {S:World->Prop} {ds:List Nat} {a:Act} {w:World} (lst:Array Bool) (hm:P.follows .mixedOrders=true) (hd:noDefer ops=true) (hn:ops.size=m) (hl:Array.replicate m false=lst) (hS:S w.drew)
    (h:S w.drew->wpAnyLast P .any ops (onlyN Q) S ds m lst a w.drew):(Code.region id ops true).wpIn (Fence.wide.inRound l) n P Q a w:=by
  subst hn;subst hl;refine wpIn_mono (wpIn_region_any hm (wpAnyIn_of_wpAny hd (Q:=onlyN Q) (fun _ _ h=>h) _ _ _ _ (wpAny_of_last _ _ _ _ (h hS)))) ?_;intro e a w h
  cases e with
  |normal=>exact h
  |_=>exact h.elim
theorem startN_ {id n m:Nat} {P:Program} {ops:Array Oper} {Q:Exit->Act->World->Prop} {S:World->Prop} {ds:List Nat} {a:Act} {w:World} (lst:Array Bool) (hm:P.follows .mixedOrders=true) (hn:ops.size=m) (hl:Array.replicate m false=lst) (hS:S w.drew)
    (h:S w.drew->wpAnyLast P .any ops (onlyN Q) S ds m lst a w.drew):(Code.region id ops true).wpIn Fence.wide n P Q a w:=by
  refine wpIn_mono (wpIn_wide.2 (start_ (Q:=onlyN Q) lst hm hn hl hS h)) ?_;intro e a w h
  cases e with
  |normal=>exact h
  |_=>exact h.elim
theorem grow_n {P:Program} {md:Region.Mode} {ops:Array Oper} {Q:Exit->Act->World->Prop} {S S2:World->Prop} (hi:∀w,S2 w->S w):∀(fuel:Nat) (l:Array Bool) (a:Act) (w:World),S2 w->wpAnyLast P md ops Q S2 [] fuel l a w->wpAnyLast P md ops Q S [] fuel l a w
  |0,_,_,_,_,h=>h
  |fuel+1,l,a,w,h2,h=>⟨h.1,fun i hi2=>wpOp_mono (fun a' w' h'=>⟨fun _ _=>hi _ (h'.1 (by simp) h2),grow_n hi fuel _ a' w' (h'.1 (by simp) h2) h'.2⟩) (h.2 i hi2)⟩
theorem grow_ {P:Program} {md:Region.Mode} {ops:Array Oper} {Q:Exit->Act->World->Prop} {S S2:World->Prop} {fuel:Nat} {l:Array Bool} {a:Act} {w:World} (h2:S2 w) (hi:∀w,S2 w->S w) (h:S2 w->wpAnyLast P md ops Q S2 [] fuel l a w):wpAnyLast P md ops Q S [] fuel l a w:=
  grow_n hi fuel l a w h2 (h h2)
end Go.Proofs.YtjioobfeikbffabGreatDoor.K
end
section
namespace Go.Proofs.YtjioobfeikbffabGreatDoor.K
open Go.RowKit Go.Shelf Go.Proofs.Zw Go.Proofs.Zl Go.Proofs.Zm
attribute [local go_sem] Oper.semAt_some
theorem RoundIn.any_n {m m':Nat} {P:Program} {l:Nat} {f:FuncId} {tmps:Array Value} {assign body:Code} {w:World} {R:Ending->World->Prop} (h:RoundIn Fence.wide m P l f tmps assign body w R):RoundIn Fence.wide m' P l f tmps assign body w R:=⟨h.1,fun c cs _=>h.2 c cs (room_wide _)⟩
set_option maxHeartbeats 1000000 in
theorem up_any (I x:Int) (A1 A2:Option Addr) (n1 n2 c1 c2:Nat) (w:World):
    Calls Tryz.prog 90 #[.agg #[.int .i64 I,.slice A1 n1 c1,.slice A2 n2 c2],.int .i64 x] w fun e w'=>e=.returned (.func (.func 125) #[] #[.pointer (some ⟨w.heap.size+1,0,none⟩),.pointer (some ⟨w.heap.size,0,none⟩)])∧w'=(w.alloc (.cells #[.int .i64 I,.slice A1 n1 c1,.slice A2 n2 c2] 25)).alloc (.cells #[.int .i64 x] 3):=by
  have hu1:=Tryz.underlying25;have hmf:∀(fn:Fn) (first cap:Array Value) (w:World),(Instr.makeFunc fn first cap).run Tryz.prog w=.ok (.func fn first cap) w:=fun _ _ _ _=>rfl
  go_enter Tryz.func90,Tryz.ntmps90
  go_wp2;go_ret;exact⟨rfl,rfl⟩
theorem up_head {N:List SN} (hN:okN N=true) {x:Int} (h0:0≤x) (h1:x≤N.length):∃r,upL N x=x::r∧(0<x->r=upL N (rdN N (x-1)).f0)∧(x=0->r=[]):=by
  by_cases e:x=0
  · subst e;exact⟨[],up_zero N,fun h=>absurd h (by omega),fun _=>rfl⟩
  · exact⟨_,up_pos hN (by omega) h1,fun _=>rfl,fun h=>absurd h e⟩
set_option maxRecDepth 100000 in
set_option maxHeartbeats 2000000 in
theorem up_seq (n:Nat) (T0 N0:Nat) (I x:Int) (A1 A2:Option Addr) (n2 c1 c2:Nat) (N:List SN) (wB w:World) (hN:okN N=true) (hl:N.length≤1000) (x0:0≤x) (x1:x≤N.length)
    (hT:w.heap[T0]? =some (.cells #[.int .i64 I,.slice A1 N.length c1,.slice A2 n2 c2] 25 (0,0))) (hX:w.heap[N0]? =some (.cells #[.int .i64 x] 3 (0,0)))
    (hr:Kd.C k77 wB A1 N.length N) (hB:Below wB.heap.size wB w) (hNB:wB.heap.size≤N0):
    SeqU Fence.wide n Tryz.prog 125 #[.pointer (some ⟨N0,0,none⟩),.pointer (some ⟨T0,0,none⟩)] (fun k=>k=T0∨k=N0∨k<wB.heap.size) (fun k=>k=N0) (fun v:Int=>#[.int .i64 v]) (upL N x) w:=by
  intro l M J Jx W hkw hC0 hM hJ hY h0;have hBW:Below wB.heap.size wB W:=hB.trans (hkw.below hB.size (fun k hk hn=>hn (.inr (.inr hk))));have HT:Aside0 (W.heap[T0]? =some (.cells #[.int .i64 I,.slice A1 N.length c1,.slice A2 n2 c2] 25 (0,0))):=⟨hkw.at hT (fun hn=>hn (.inl rfl))⟩;have HX:Aside0 (W.heap[N0]? =some (.cells #[.int .i64 x] 3 (0,0))):=⟨hkw.at hX (fun hn=>hn (.inr (.inl rfl)))⟩;have HBW:=aM hBW;have H0:=aM h0;have HD:Aside0 (N0≠T0):=⟨fun e=>by rw[e] at hX;rw[hX] at hT;cases hT⟩;have HR:=aM hr;have HN:=aM hN;have HL:=aM hl;have HX01:=aM (And.intro x0 x1);clear h0 hBW hT hX hN hl x0 x1;have hMN:∀k,M k->k≠T0∧k≠N0∧wB.heap.size≤k:=fun k hk=>⟨fun e=>(hM k hk).2 (.inl e),fun e=>(hM k hk).2 (.inr (.inl e)),by have:=(hM k hk).2;apply Classical.byContradiction;intro h;exact this (.inr (.inr (by omega)))⟩;refine callsIn_of_wp Tryz.func125 rfl trivial ?_ rfl;simp only[Tryz.ntmps125,List.size_toArray,List.length_cons,List.length_nil,Nat.reduceAdd,Nat.reduceSub,Array.replicate_succ,Array.replicate_zero,List.push_toArray,List.append_toArray,List.nil_append,List.cons_append]
  gi_wp2
  gi_loopw [4] (fun v4 wr=>∃(y:Int) (pre:List Int),Aside0 (0≤y∧y≤N.length∧upL N x=pre++upL N y)∧Aside0 (wr.heap[N0]? =some (.cells #[.int .i64 y] 3 (0,0)))∧Aside0 (J pre wr)∧Aside0 (KB (fun k=>M k∨k=N0) W wr))
    (fun v4 wr=>match wr.cell? ⟨N0,0,none⟩ with|some (.int _ v)=>v.toNat|_=>0)
  case atStart=>exact⟨x,[],⟨HX01.out.1,HX01.out.2,rfl⟩,HX,H0,⟨KB.refl _ _⟩⟩
  case round=>
    obtain⟨y,pre,HY,HC,HJ,HK⟩:=hrel;have hy0:0≤y:=HY.out.1;have hy1:y≤N.length:=HY.out.2.1;obtain⟨r,hr1,hr2,hr3⟩:=up_head HN.out hy0 hy1;have hWr:W.heap.size≤wr.heap.size:=HK.out.size;obtain⟨fn_,tmps_,assign_,body_,hy_,hR_⟩:=hY pre y wr HJ.out hWr ⟨r,by rw[HY.out.2.2,hr1]⟩;have HR1:=aM (And.intro hr1 (And.intro hr2 hr3));have y00:wr.cell? ⟨N0,0,none⟩=some (.int .i64 y):=(blk_cell HC.out 0).trans rfl;clear hr1 hr2 hr3 hWr
    gi_wp2
    refine⟨fun h=>absurd h (by decide),?_⟩;refine(RoundIn.any_n hR_).mono ?_;rintro e w2 ⟨hk2,⟨rfl,hJ2⟩|⟨rfl,hJx⟩⟩
    case inr=>
      gi_wp2
      go_end0
      exact⟨⟨_,rfl⟩,.inr hJx,HK.out.trans (hk2.mono fun k _ h=>.inl h)⟩
    case inl=>
      have HK2:Aside0 (KB (fun k=>M k∨k=N0) W w2):=⟨HK.out.trans (hk2.mono fun k _ h=>.inl h)⟩;have HC2:=aM (hk2.at HC.out (fun h=>(hMN _ h).2.1 rfl));have HT2:Aside0 (w2.heap[T0]? =some (.cells #[.int .i64 I,.slice A1 N.length c1,.slice A2 n2 c2] 25 (0,0))):=⟨HK2.out.at HT.out (fun h=>h.elim (fun h=>(hMN _ h).1 rfl) (fun e=>HD.out e.symm))⟩;have HR2:Aside0 (Kd.C k77 w2 A1 N.length N):=⟨Kd.C_below HR.out (HBW.out.trans (HK2.out.below HBW.out.size (fun k hk h=>h.elim (fun h=>by have:=(hMN _ h).2.2;omega) (fun e=>by omega))))⟩;have HJ2:=aM hJ2;clear hJ2 hk2 hR_ hy_;have y0:w2.cell? ⟨N0,0,none⟩=some (.int .i64 y):=(blk_cell HC2.out 0).trans rfl;have y0f:w2.frozen? ⟨N0,0,none⟩=false:=blk_frozen HC2.out 0;have y1:w2.cell? ⟨T0,1,none⟩=some (.slice A1 N.length c1):=(blk_cell HT2.out 1).trans rfl
      by_cases hz:y=0
      · have HE:Aside0 (J (upL N x) w2):=⟨by rw[HY.out.2.2,HR1.out.1,HR1.out.2.2 hz];exact HJ2.out⟩;have q3:decide (0<y)=false:=decide_eq_false (by omega);clear hz
        gi_wp2
        go_end0
        exact⟨⟨_,rfl⟩,.inl HE.out,HK2.out⟩
      · have hyp:0<y:=by omega
        have p1:0≤y-1:=by omega
        have p2:y-1<(N.length:Int):=by omega
        have hp:=okN_at HN.out p1 p2;obtain⟨ad,ea,x0,-⟩:=at_T77 HR2.out (y-1) p1 p2;have q1:=eq_true p1;have q2:=eq_true p2;have q3:decide (0<y)=true:=decide_eq_true hyp;obtain⟨z,hzz⟩:∃z,(rdN N (y-1)).f0=z:=⟨_,rfl⟩;replace x0:w2.cell? (ad.add ((y-1).toNat*2))=some (.int .i64 z):=by rw[← hzz];exact x0
        rw[show (y-1).toNat=y.toNat-1 by omega] at x0;rw[hzz] at hp;have HZ:=aM hzz;have HP:=aM hp;have hlen:=HL.out;subst ea;have HYP:=aM hyp;clear hzz hp hz
        gi_wp2
        go_roundw
        case rel=>exact⟨z,pre++[y],⟨HP.out.1,by have:=HP.out.2.1;omega,by rw[HY.out.2.2,HR1.out.1,HR1.out.2.1 HYP.out,HZ.out,List.append_assoc];rfl⟩,⟨by have:=blk_set HC2.out 0 (.int .i64 z);simpa using this⟩,⟨hJ _ _ _ HJ2.out HK2.out.size (KB.setCell _ _ _ rfl)⟩,⟨HK2.out.trans (KB.setCell _ _ _ (.inr rfl))⟩⟩
        case measure=>
          have e:(w2.setCell ⟨N0,0,none⟩ (.int .i64 z)).cell? ⟨N0,0,none⟩=some (.int .i64 z):=World.cell?_setCell_same' _ _ _ (by rw[y0];rfl);rw[e,y00];have:=HP.out.2.1
          show z.toNat<y.toNat
          omega
end Go.Proofs.YtjioobfeikbffabGreatDoor.K
end
section
namespace Go.Proofs.YtjioobfeikbffabGreatDoor.K
open Go.RowKit Go.Shelf Go.Proofs.Zw Go.Proofs.Zl Go.Proofs.Zm
abbrev OwnI (w:World) (base:Nat) (v:Value) (xs:List Int):Prop:=Kd.R (Kd.int .i64) 3 w base (fun _=>True) v xs
theorem OwnI.keep {w w1:World} {base:Nat} {v:Value} {xs:List Int} {row:Option Nat} (h:OwnI w base v xs) (hg:w.grownBy w1 row) (hne:v.ownBlock=none∨v.ownBlock≠row):OwnI w1 base v xs:=
  Kd.R_of_own (own_other (Kd.own_of_R h) hg hne) (fun _ _=>trivial)
theorem OwnI.weak {w:World} {b b1:Nat} {v:Value} {xs:List Int} (h:OwnI w b v xs) (hb:b1≤b):OwnI w b1 v xs:=Kd.R_of_own (own_weaken (Kd.own_of_R h) hb) (fun _ _=>trivial)
theorem grown_setP (w:World) (p:Addr) (v:Value):w.grownBy (w.setCell p v) (some p.block):=⟨rfl,rfl,rfl,by simp[World.setCell],fun k hk hne=>Below.heap_setCell _ _ _ _ (fun e=>hne (by rw[e]))⟩
theorem OwnI.blk {w:World} {base:Nat} {v:Value} {xs:List Int} (h:OwnI w base v xs) {k:Nat} (hk:v.ownBlock=some k):base≤k∧k<w.heap.size:=⟨own_base (Kd.own_of_R h) k hk,own_lt (Kd.own_of_R h) k hk⟩
theorem OwnI.kb {W W1:World} {base:Nat} {v:Value} {xs:List Int} {M:Nat->Prop} (h:OwnI W base v xs) (hk:KB M W W1) (hM:∀k,v.ownBlock=some k->¬M k):OwnI W1 base v xs:=
  Kd.R_of_own (own_move (Kd.own_of_R h) (fun k e=>hk.block k (h.blk e).2 (hM k e))) (fun _ _=>trivial)
theorem OwnI.cells {W:World} {base:Nat} {v:Value} {xs:List Int} (h:OwnI W base v xs) {k:Nat} (hk:v.ownBlock=some k):∃o,W.heap[k]? =some o∧o.isCells=true:=by
  have h2:=(Kd.own_of_R h).2
  rcases h2 with⟨h2,_⟩|⟨g,cap,cur,e1,h3,h4,_⟩
  · rw[h2] at hk;cases hk
  · rw[e1] at hk;cases hk;exact⟨_,h4,rfl⟩
structure Marks (base:Nat) (ds:List Deferred) (w:World):Prop where
  ks:∃ks:List Nat,ds=ks.map (fun k=>{ target:=.collected k,args:=#[]})∧ks.Nodup∧∀k∈ks,base≤k∧w.heap[k]? =some (.deferred (some []))
theorem Marks.nil (base:Nat) (w:World):Marks base [] w:=⟨[],rfl,List.nodup_nil,fun _ h=>by cases h⟩
theorem Marks.kb {base:Nat} {ds:List Deferred} {w w1:World} {M:Nat->Prop} (h:Marks base ds w) (hk:KB M w w1) (hM:∀k,M k->w.heap[k]? ≠some (.deferred (some []))):Marks base ds w1:=by
  obtain⟨ks,h1,h2,h3⟩:=h.ks;exact⟨ks,h1,h2,fun k hm=>⟨(h3 k hm).1,hk.at (h3 k hm).2 (fun hh=>hM k hh (h3 k hm).2)⟩⟩
theorem Marks.cons {base k:Nat} {ds:List Deferred} {w w1:World} {M:Nat->Prop} (h:Marks base ds w) (hk:KB M w w1) (hM:∀k,M k->w.heap[k]? ≠some (.deferred (some []))) (hb:base≤k) (hn:w.heap.size≤k) (h1:w1.heap[k]? =some (.deferred (some []))):Marks base ({ target:=.collected k,args:=#[]}::ds) w1:=by
  obtain⟨ks,e,h2,h3⟩:=(h.kb hk hM).ks;obtain⟨ks',e',_,h3'⟩:=h.ks
  have:ks=ks':=by
    rw[e] at e';have hinj:Function.Injective (fun k:Nat=>({ target:=.collected k,args:=#[]}:Deferred)):=fun a b hab=>by injection hab with h1 _;injection h1
    exact(List.map_inj_right (fun a b hab=>hinj hab)).1 e'
  subst this;refine⟨k::ks,by rw[e];rfl,List.nodup_cons.2 ⟨fun hm=>?_,h2⟩,fun j hj=>?_⟩
  · have:=blk_lt (h3' k hm).2;omega
  · rcases List.mem_cons.1 hj with rfl|hj
    · exact⟨hb,h1⟩
    · exact h3 j hj
theorem leaves_marks {F:Fence} {n:Nat} {P:Program} {fn:Func} {tmps:Array Value} {R:Ending->World->Prop} {base:Nat} {u:FrameMode} (hu:u≠ .run) {ds:List Deferred} {w:World} (h:Marks base ds w)
    (hend:∀w',KB (fun k=>base≤k∧w.heap[k]? =some (.deferred (some []))) w w'->LeavesIn F n P fn tmps R [] u w'):LeavesInM F n P fn tmps R ds u w:=by
  obtain⟨ks,rfl,h2,h3⟩:=h.ks
  have key:∀(ks:List Nat) (w1:World),ks.Nodup->(∀ k∈ks,base≤k∧w.heap[k]? =some (.deferred (some []))∧w1.heap[k]? =some (.deferred (some [])))->KB (fun k=>base≤k∧w.heap[k]? =some (.deferred (some []))) w w1->
      LeavesInM F n P fn tmps R (ks.map (fun k=>{ target:=.collected k,args:=#[]})) u w1:=by
    intro ks
    induction ks with
    |nil=>intro w1 _ _ hk;exact hend w1 hk
    |cons k ks ih=>
      intro w1 hn hm hk;have hk1:=hm k (List.mem_cons_self ..);refine⟨hu,.inl ⟨k,_,rfl,run_takeDeferred hk1.2.2,ih _ (List.nodup_cons.1 hn).2 (fun j hj=>?_) (hk.step (KB.putObj (M:=fun j=>j=k) _ _ _ fun _=>rfl) (fun i _ e=>by subst e;exact⟨hk1.1,hk1.2.1⟩))⟩⟩;have hj1:=hm j (List.mem_cons_of_mem _ hj);exact⟨hj1.1,hj1.2.1,(World.putObj_heap_other (fun e=>(List.nodup_cons.1 hn).1 (by rw[← e];exact hj))).trans hj1.2.2⟩
  exact key ks w h2 (fun k hm=>⟨(h3 k hm).1,(h3 k hm).2,(h3 k hm).2⟩) (KB.refl _ _)
end Go.Proofs.YtjioobfeikbffabGreatDoor.K
end
section
namespace Go.Proofs.YtjioobfeikbffabGreatDoor.K
open Go.RowKit Go.Proofs.Zw Go.Proofs.Zl Go.Proofs.Zm
attribute [local go_sem] max2_int min2_int max_two min_two max_three min_three max_four min_four
def d7_sum.l0:Nat->Int->List Int->Int->Int->Option (Int)
 |0,_,_,_,_=>none
 |k+1,x3,x6,x7,x8=>if x8<x7 then(if 0≤x8 then(if x8<(x6.length:Int) then(d7_sum.l0 k (wrap64 (x3+(rd x6 x8))) x6 x7 (wrap64 (x8+1))) else(none)) else(none)) else(some x3)
def d7_sum.f (k:Nat) (l0:List Int):Option (Int):=d7_sum.l0 k 0 l0 (l0.length:Int) 0
set_option maxHeartbeats 8000000 in
set_option maxRecDepth 100000 in
theorem d7_sum.calls (k:Nat) (A0:Option Addr) (c0:Nat) (l0:List Int) (r:Int) (w:World) (hr0:Kd.C (Kd.int .i64) w A0 l0.length l0) (hc0:l0.length≤c0) (h:d7_sum.f k l0=some r):
  Calls Tryz.prog 140 #[.slice A0 l0.length c0] w fun e w'=>e=.returned (.int .i64 r)∧Drawn0 w w':=by
 have HR0:=aM hr0;have HC0:=aM hc0;clear hr0 hc0;have H:(d7_sum.l0 k 0 l0 (l0.length:Int) 0)=some r:=h;clear h;have H':=aM H;clear H
 go_enter Tryz.func140,Tryz.ntmps140
 go_wp2
 go_loopg [3,8] k (fun kq v3 v8 w'=>∃(x3_1:Int) (x8_1:Int),v3=.int .i64 x3_1∧v8=.int .i64 x8_1∧Aside0 (d7_sum.l0 kq x3_1 l0 (l0.length:Int) x8_1=some r)∧Aside0 (kq≤k)∧Drawn0 w w')
 case atStart=>exact⟨(0),(0),u0,u0,H',⟨Nat.le_refl _⟩,by repeat(first|exact Drawn0.refl _|apply Drawn0.step)⟩
 case round=>
  clear H';(try clear c1);obtain⟨x3_1,x8_1,rfl,rfl,HA,HK1,⟨m1,rfl⟩⟩:=hrel
  cases gk with
  |zero=>exact absurd HA.out (by simp[d7_sum.l0])
  |succ k1=>
   have H:=HA.out;clear HA;simp only[d7_sum.l0] at H
   by_cases c2:x8_1<(l0.length:Int)
   ·rw[if_pos c2] at H;replace c2:=decide_eq_true c2;obtain⟨c3,H⟩:=ifs H;replace c3:=decide_eq_true c3;obtain⟨c4,H⟩:=ifs H;replace c4:=decide_eq_true c4;have H':=aM H;clear H;have p110:0≤(x8_1:Int):=uD;have q110:x8_1<(l0.length:Int):=uD;obtain⟨ad110,e110,hx110_0⟩:=Kd.at_int HR0.out x8_1 p110 q110
    cases e110
    replace p110:=eq_true p110;replace q110:=eq_true q110;go_wp2
    go_roundg k1
    case measure=>have:=HK1.out;omega
    case rel=>exact⟨(wrap64 (x3_1+(rd l0 x8_1))),(wrap64 (x8_1+1)),u0,u0,H',⟨by have:=HK1.out;omega⟩,by repeat(first|exact Drawn0.refl _|apply Drawn0.step)⟩
   ·rw[if_neg c2] at H;replace c2:=decide_eq_false c2;obtain rfl:=Option.some.inj H;go_wp2;go_ret;exact⟨u0,by repeat(first|exact Drawn0.refl _|apply Drawn0.step)⟩
end Go.Proofs.YtjioobfeikbffabGreatDoor.K
end
section
namespace Go.Proofs.YtjioobfeikbffabGreatDoor.K
open Go.RowKit Go.Shelf Go.Proofs.Zw Go.Proofs.Zl Go.Proofs.Zm
attribute [local go_sem] Oper.semAt_some
theorem sum_two (a b:Int) (h0:0≤a) (h1:a≤4000000000000000) (h2:0≤b) (h3:b≤4000000000000000):d7_sum.f 3 [a,b]=some (a+b):=by
 have e1:wrap64 1=1:=IntWalk.wrap64_in _ (by omega);have e2:wrap64 2=2:=IntWalk.wrap64_in _ (by omega);have e3:wrap64 a=a:=IntWalk.wrap64_in _ (by omega);have e4:wrap64 (a+b)=a+b:=IntWalk.wrap64_in _ (by omega);simp[d7_sum.f,d7_sum.l0,rd,e1,e2,e3,e4]
theorem flowL_next' {N:List SN} {O:List SO} {s:List Int} {k:Nat} {o:SO} (h:rdO O (k:Int)=o):flowL N O s k (upL N o.f0)=flowL N O s (k+1) []:=by rw[← h];exact flowL_next
structure FlW (w:World) (I:Int) (A1 A2 As:Option Addr) (n1 n2 ns c1 c2 cs:Nat) (l:List Int) (W:World):Prop where
 hb:Below w.heap.size w W
 lt:w.heap.size+4≤W.heap.size
 t:W.heap[w.heap.size]? =some (.cells #[.int .i64 I,.slice A1 n1 c1,.slice A2 n2 c2] 25 (0,0))
 sb:W.heap[w.heap.size+1]? =some (.cells #[.slice As ns cs] 30 (0,0))
 row:OwnI W (w.heap.size+1+1) (.slice (some ⟨w.heap.size+1+1,0,none⟩) (n1+1) (n1+1)) l
 ob:W.heap[w.heap.size+1+1+1]? =some (.cells #[.slice (some ⟨w.heap.size+1+1,0,none⟩) (n1+1) (n1+1)] 30 (0,0))
theorem FlW.kb {w:World} {I:Int} {A1 A2 As:Option Addr} {n1 n2 ns c1 c2 cs:Nat} {l:List Int} {W W1:World} {M:Nat->Prop} (h:FlW w I A1 A2 As n1 n2 ns c1 c2 cs l W) (hk:KB M W W1) (hM:∀k,M k->w.heap.size+4≤k):FlW w I A1 A2 As n1 n2 ns c1 c2 cs l W1 where
 hb:=h.hb.trans (hk.below h.hb.size (fun k hk2 hm=>by have:=hM k hm;omega))
 lt:=Nat.le_trans h.lt hk.size
 t:=hk.at h.t (fun e=>by have:=hM _ e;omega)
 sb:=hk.at h.sb (fun e=>by have:=hM _ e;omega)
 row:=h.row.kb hk (fun k e hm=>by have e2:w.heap.size+1+1=k:=Option.some.inj e;have:=hM _ hm;omega)
 ob:=hk.at h.ob (fun e=>by have:=hM _ e;omega)
theorem FlW.turn {w:World} {I:Int} {A1 A2 As:Option Addr} {n1 n2 ns c1 c2 cs:Nat} {l l':List Int} {W W1:World} {M:Nat->Prop} (h:FlW w I A1 A2 As n1 n2 ns c1 c2 cs l W) (hk:KB M W W1) (hM:∀k,M k->k=w.heap.size+1+1∨w.heap.size+4≤k) (hr:OwnI W1 (w.heap.size+1+1) (.slice (some ⟨w.heap.size+1+1,0,none⟩) (n1+1) (n1+1)) l'):FlW w I A1 A2 As n1 n2 ns c1 c2 cs l' W1 where
 hb:=h.hb.trans (hk.below h.hb.size (fun k hk2 hm=>by have:=hM k hm;omega))
 lt:=Nat.le_trans h.lt hk.size
 t:=hk.at h.t (fun e=>by have:=hM _ e;omega)
 sb:=hk.at h.sb (fun e=>by have:=hM _ e;omega)
 row:=hr
 ob:=hk.at h.ob (fun e=>by have:=hM _ e;omega)
set_option maxRecDepth 100000 in
set_option maxHeartbeats 2000000 in
theorem flows_any (I:Int) (A1 A2 As:Option Addr) (c1 c2 cs:Nat) (N:List SN) (O:List SO) (s:List Int) (w:World) (hN:okN N=true) (hO:okO N.length O=true) (hl:N.length≤1000) (hl2:O.length≤1000) (hs:s.length=O.length) (hb:∀i:Nat,i<s.length->0≤rd s i∧rd s i≤1000)
  (hr1:Kd.C k77 w A1 N.length N) (hr2:Kd.C k51 w A2 O.length O) (hrs:Kd.C (Kd.int .i64) w As s.length s):
  Calls Tryz.prog 126 #[.agg #[.int .i64 I,.slice A1 N.length c1,.slice A2 O.length c2],.slice As s.length cs] w fun e w'=>∃v,e=.returned v∧OwnI w' w.heap.size v (flowsF N O s)∧Below w.heap.size w w':=by
 have hu1:=Tryz.underlying25;have hu2:=Tryz.underlying51;have hmk:=print_make (P:=Tryz.prog) 30 3 .i64 8 Tryz.underlying30 info3 (by omega) (N.length+1) (by omega);rw[Int.natCast_add,Int.natCast_one] at hmk;have HS:=aM hs;have HN:=aM hN;have HO:=aM hO;have HBD:=aM hb;have HR1:=aM hr1;have HR2:=aM hr2;have HRS:=aM hrs;clear hs hN hO hb hr1 hr2 hrs;refine(callsIn_wide (n:=5)).1 ?_;refine callsIn_of_wp_marks Tryz.func126 rfl trivial ?_ rfl;simp only[Tryz.ntmps126,List.size_toArray,List.length_cons,List.length_nil,Nat.reduceAdd,Nat.reduceSub,Array.replicate_succ,Array.replicate_zero,List.push_toArray,List.append_toArray,List.nil_append,List.cons_append]
 gi_wp2
 clear hmk;generalize hW0:World.alloc (World.alloc (World.alloc (World.alloc w _) _) _) _=W0
 have HF0:Aside0 (FlW w I A1 A2 As N.length O.length s.length c1 c2 cs (flowL N O s 0 []) W0):=⟨by
  rw[← hW0];have hr:=own_made ((w.alloc (.cells #[.int .i64 I,.slice A1 N.length c1,.slice A2 O.length c2] 25)).alloc (.cells #[.slice As s.length cs] 30)) (w.heap.size+1+1) 3 .i64 (N.length+1) (by simp) (by omega);simp only[World.size_alloc] at hr
  have e0:flowL N O s 0 []=List.replicate (N.length+1) 0:=by
   unfold flowL;apply List.ext_getElem
   ·simp
   ·intro i h1 h2;simp[sumTo]
  exact {
   hb:=((((Below.refl _ _).alloc (Nat.le_refl _) _).alloc (by simp) _).alloc (by simp;omega) _).alloc (by simp;omega) _
   lt:=by simp
   t:=blk_alloc (blk_alloc (blk_alloc (blk_new _ _) _) _) _
   sb:=by
    have:=blk_new (w.alloc (.cells #[.int .i64 I,.slice A1 N.length c1,.slice A2 O.length c2] 25)) (.cells #[.slice As s.length cs] 30);rw[World.size_alloc] at this;exact blk_alloc (blk_alloc this _) _
   row:=Kd.R_of_own (by rw[e0,List.length_replicate];exact own_alloc hr _) (fun _ _=>trivial)
   ob:=by
    have h:=fun o=>blk_new (((w.alloc (.cells #[.int .i64 I,.slice A1 N.length c1,.slice A2 O.length c2] 25)).alloc (.cells #[.slice As s.length cs] 30)).alloc (.cells (madeCells #[Value.int .i64 0] (N.length+1)) 3)) o;simp only[World.size_alloc] at h
    exact h _}⟩
 clear hW0;refine wpIn_loop (fun a' w'=>∃(j:Nat) (ds:List Deferred) (u6 u7 u8 u18 u19 u20 u21 u22 u23 u24 u25 u26 u27 u28 u29 u30 u31 u32 u33 u34 u35 u36 u37 u38 u39 u40:Value),a'={ tmps:=#[.agg #[.int .i64 I,.slice A1 N.length c1,.slice A2 O.length c2],.slice As s.length cs,.pointer (some ⟨w.heap.size,0,none⟩),.pointer (some ⟨w.heap.size+1,0,none⟩),.slice none 0 0,.pointer (some ⟨w.heap.size+1+1+1,0,none⟩),u6,u7,u8,.pointer (some ⟨w.heap.size,1,none⟩),.slice A1 N.length c1,.int .i64 N.length,.int .i64 ((N.length:Int)+1),.slice (some ⟨w.heap.size+1+1,0,none⟩) (N.length+1) (N.length+1),.pointer (some ⟨w.heap.size,2,none⟩),.slice A2 O.length c2,.int .i64 O.length,.int .i64 j,u18,u19,u20,u21,u22,u23,u24,u25,u26,u27,u28,u29,u30,u31,u32,u33,u34,u35,u36,u37,u38,u39,u40,undef],defers:=ds}∧Aside0 (j≤O.length)∧Aside0 (FlW w I A1 A2 As N.length O.length s.length c1 c2 cs (flowL N O s j []) w')∧Aside0 (Marks (w.heap.size+4) ds w')) (fun a' _=>O.length-(intOf (a'.tmps.getD 17 undef)).toNat) ?start ?round
 case start=>exact⟨0,[],_,_,_,_,_,_,_,_,_,_,_,_,_,_,_,_,_,_,_,_,_,_,_,_,_,_,rfl,⟨Nat.zero_le _⟩,HF0,⟨Marks.nil _ _⟩⟩
 case round=>
  clear HF0;rintro a' wr ⟨j,ds,u6,u7,u8,u18,u19,u20,u21,u22,u23,u24,u25,u26,u27,u28,u29,u30,u31,u32,u33,u34,u35,u36,u37,u38,u39,u40,rfl,HJ,HF,HM⟩
  dsimp only
  by_cases hj:j<O.length
  case neg=>
   have c3:decide ((j:Int)<(O.length:Int))=false:=decide_eq_false (by omega);have hje:j=O.length:=by have:=HJ.out;omega
   have y1:wr.cell? ⟨w.heap.size+1+1+1,0,none⟩=some (.slice (some ⟨w.heap.size+1+1,0,none⟩) (N.length+1) (N.length+1)):=(blk_cell HF.out.ob 0).trans rfl;have HE:=aM hje;have c4:¬(j<O.length):=hj;clear hje hj
   gi_wp2
   refine leaves_marks (u:=.returning) (by intro h;cases h) HM.out (fun w' hk=>?_);have hF:=HF.out.kb hk (fun k h=>h.1);have hrow:=hF.row.weak (show w.heap.size≤w.heap.size+1+1 by omega);rw[HE.out] at hrow;exact⟨_,by simp[results,Tryz.results126,go_sem],_,rfl,hrow,hF.hb⟩
  case pos=>
   have p1:(0:Int)≤(j:Int):=by omega
   have p2:(j:Int)<(O.length:Int):=by omega
   have c3:decide ((j:Int)<(O.length:Int))=true:=decide_eq_true p2;have hbw:Below w.heap.size w wr:=HF.out.hb;obtain⟨ad,ea,x0,x1,x2⟩:=at_T51 (Kd.C_below HR2.out hbw) (j:Int) p1 p2;rw[Int.toNat_natCast] at x0 x1 x2;obtain⟨o,ho⟩:∃o,rdO O (j:Int)=o:=⟨_,rfl⟩;replace x0:wr.cell? (ad.add (j*3))=some (.int .i64 o.f0):=by rw[← ho];exact x0
   replace x1:wr.cell? ⟨(ad.add (j*3)).block,(ad.add (j*3)).off+1,none⟩=some (.int .i64 o.f1):=by rw[← ho];exact x1
   replace x2:wr.cell? ⟨(ad.add (j*3)).block,(ad.add (j*3)).off+2,none⟩=some (.int .i64 o.f2):=by rw[← ho];exact x2
   have HOJ:=aM (okO_at HO.out p1 p2);rw[ho] at HOJ;have y0:wr.cell? ⟨w.heap.size,0,none⟩=some (.int .i64 I):=(blk_cell HF.out.t 0).trans rfl;have y1:wr.cell? ⟨w.heap.size,1,none⟩=some (.slice A1 N.length c1):=(blk_cell HF.out.t 1).trans rfl;have y2:wr.cell? ⟨w.heap.size,2,none⟩=some (.slice A2 O.length c2):=(blk_cell HF.out.t 2).trans rfl;have q1:=eq_true p1;have q2:=eq_true p2;have HOE:=aM ho;subst ea;have hk1:∀M:Nat->Prop,KB M wr ((wr.alloc (.cells #[.int .i64 (j:Int)] 3)).alloc (.cells #[.int .i64 o.f0,.int .i64 o.f1,.int .i64 o.f2] 51)):=fun M=>(KB.alloc _ _).trans (KB.alloc _ _);have HF1:=aM (HF.out.kb (hk1 (fun _=>False)) (fun _ h=>h.elim));have HM1:=aM (HM.out.kb (hk1 (fun _=>False)) (fun _ h=>h.elim));have z0:((wr.alloc (.cells #[.int .i64 (j:Int)] 3)).alloc (.cells #[.int .i64 o.f0,.int .i64 o.f1,.int .i64 o.f2] 51)).cell? ⟨w.heap.size,0,none⟩=some (.int .i64 I):=(blk_cell HF1.out.t 0).trans rfl;have z1:((wr.alloc (.cells #[.int .i64 (j:Int)] 3)).alloc (.cells #[.int .i64 o.f0,.int .i64 o.f1,.int .i64 o.f2] 51)).cell? ⟨w.heap.size,1,none⟩=some (.slice A1 N.length c1):=(blk_cell HF1.out.t 1).trans rfl;have z2:((wr.alloc (.cells #[.int .i64 (j:Int)] 3)).alloc (.cells #[.int .i64 o.f0,.int .i64 o.f1,.int .i64 o.f2] 51)).cell? ⟨w.heap.size,2,none⟩=some (.slice (some ad) O.length c2):=(blk_cell HF1.out.t 2).trans rfl;have HJB:Aside0 (((wr.alloc (.cells #[.int .i64 (j:Int)] 3)).alloc (.cells #[.int .i64 o.f0,.int .i64 o.f1,.int .i64 o.f2] 51)).heap[wr.heap.size]? =some (.cells #[.int .i64 (j:Int)] 3 (0,0))):=⟨blk_alloc (blk_new _ _) _⟩;clear ho hj hbw hk1
   gi_wp2
   refine⟨trivial,?_⟩;refine(callsIn_wide.2 (up_any _ _ _ _ _ _ _ _ _)).mono ?_;rintro e w2 ⟨rfl,rfl⟩
   gi_wp2
   have HJ3:Aside0 (((((wr.alloc (.cells #[.int .i64 (j:Int)] 3)).alloc (.cells #[.int .i64 o.f0,.int .i64 o.f1,.int .i64 o.f2] 51)).alloc (.cells #[.int .i64 I,.slice A1 N.length c1,.slice (some ad) O.length c2] 25)).alloc (.cells #[.int .i64 o.f0] 3)).heap[wr.heap.size]? =some (.cells #[.int .i64 (j:Int)] 3 (0,0))):=⟨blk_alloc (blk_alloc HJB.out _) _⟩
   have hT3:((((wr.alloc (.cells #[.int .i64 (j:Int)] 3)).alloc (.cells #[.int .i64 o.f0,.int .i64 o.f1,.int .i64 o.f2] 51)).alloc (.cells #[.int .i64 I,.slice A1 N.length c1,.slice (some ad) O.length c2] 25)).alloc (.cells #[.int .i64 o.f0] 3)).heap[wr.heap.size+1+1]? =some (.cells #[.int .i64 I,.slice A1 N.length c1,.slice (some ad) O.length c2] 25 (0,0)):=by
    have h:=blk_new ((wr.alloc (.cells #[.int .i64 (j:Int)] 3)).alloc (.cells #[.int .i64 o.f0,.int .i64 o.f1,.int .i64 o.f2] 51)) (.cells #[.int .i64 I,.slice A1 N.length c1,.slice (some ad) O.length c2] 25);simp only[World.size_alloc] at h;exact blk_alloc h _
   have hX3:((((wr.alloc (.cells #[.int .i64 (j:Int)] 3)).alloc (.cells #[.int .i64 o.f0,.int .i64 o.f1,.int .i64 o.f2] 51)).alloc (.cells #[.int .i64 I,.slice A1 N.length c1,.slice (some ad) O.length c2] 25)).alloc (.cells #[.int .i64 o.f0] 3)).heap[wr.heap.size+1+1+1]? =some (.cells #[.int .i64 o.f0] 3 (0,0)):=by
    have h:=blk_new (((wr.alloc (.cells #[.int .i64 (j:Int)] 3)).alloc (.cells #[.int .i64 o.f0,.int .i64 o.f1,.int .i64 o.f2] 51)).alloc (.cells #[.int .i64 I,.slice A1 N.length c1,.slice (some ad) O.length c2] 25)) (.cells #[.int .i64 o.f0] 3);simp only[World.size_alloc] at h;exact h
   have HF3:=aM (HF1.out.kb (M:=fun _=>False) (W1:=(((wr.alloc (.cells #[.int .i64 (j:Int)] 3)).alloc (.cells #[.int .i64 o.f0,.int .i64 o.f1,.int .i64 o.f2] 51)).alloc (.cells #[.int .i64 I,.slice A1 N.length c1,.slice (some ad) O.length c2] 25)).alloc (.cells #[.int .i64 o.f0] 3)) ((KB.alloc _ _).trans (KB.alloc _ _)) (fun _ h=>h.elim));have HM3:=aM (HM1.out.kb (M:=fun _=>False) (w1:=(((wr.alloc (.cells #[.int .i64 (j:Int)] 3)).alloc (.cells #[.int .i64 o.f0,.int .i64 o.f1,.int .i64 o.f2] 51)).alloc (.cells #[.int .i64 I,.slice A1 N.length c1,.slice (some ad) O.length c2] 25)).alloc (.cells #[.int .i64 o.f0] 3)) ((KB.alloc _ _).trans (KB.alloc _ _)) (fun _ h=>h.elim));have hz3:((((wr.alloc (.cells #[.int .i64 (j:Int)] 3)).alloc (.cells #[.int .i64 o.f0,.int .i64 o.f1,.int .i64 o.f2] 51)).alloc (.cells #[.int .i64 I,.slice A1 N.length c1,.slice (some ad) O.length c2] 25)).alloc (.cells #[.int .i64 o.f0] 3)).heap.size=wr.heap.size+4:=by simp
   generalize ((((wr.alloc (.cells #[.int .i64 (j:Int)] 3)).alloc (.cells #[.int .i64 o.f0,.int .i64 o.f1,.int .i64 o.f2] 51)).alloc (.cells #[.int .i64 I,.slice A1 N.length c1,.slice (some ad) O.length c2] 25)).alloc (.cells #[.int .i64 o.f0] 3))=W3 at hT3 hX3 hz3 HJ3 HF3 HM3⊢;clear z0 z1 z2 x0 x1 x2 y0 y1 y2 HF1 HM1 HJB;have hlw:w.heap.size+4≤wr.heap.size:=HF.out.lt;have hseq:=up_seq 4 (wr.heap.size+1+1) (wr.heap.size+1+1+1) I o.f0 A1 (some ad) O.length c1 c2 N w W3 HN.out hl HOJ.out.1 HOJ.out.2.1 hT3 hX3 HR1.out HF3.out.hb (by omega)
   refine wpIn_rangeU (n:=5) rfl (by omega) (gf:=125) rfl trivial (enters_of Tryz.func125 (by kernel_rfl) rfl) hseq (fun k=>k=w.heap.size+1+1) (KB.refl _ _) (fun k hk=>by rcases hk with rfl|rfl|hk<;>omega) (fun k e=>.inr (.inl e)) (fun k hk=>⟨by omega,fun h=>by rcases h with h|h|h<;>omega⟩) (fun _=>rfl)
    (fun pre W=>OwnI W (w.heap.size+1+1) (.slice (some ⟨w.heap.size+1+1,0,none⟩) (N.length+1) (N.length+1)) (flowL N O s j pre)) (fun _ _=>False)
    (fun x=>{ tmps:=#[.agg #[.int .i64 I,.slice A1 N.length c1,.slice (some ad) O.length c2],.slice As s.length cs,.pointer (some ⟨w.heap.size,0,none⟩),.pointer (some ⟨w.heap.size+1,0,none⟩),.slice none 0 0,.pointer (some ⟨w.heap.size+1+1+1,0,none⟩),.pointer (some ⟨wr.heap.size,0,none⟩),.pointer (some ⟨wr.heap.size+1,0,none⟩),.int .i64 x,.pointer (some ⟨w.heap.size,1,none⟩),.slice A1 N.length c1,.int .i64 N.length,.int .i64 ((N.length:Int)+1),.slice (some ⟨w.heap.size+1+1,0,none⟩) (N.length+1) (N.length+1),.pointer (some ⟨w.heap.size,2,none⟩),.slice (some ad) O.length c2,.int .i64 O.length,.int .i64 j,.bool true,.int .i64 (j:Int),.pointer (some (ad.add (j*3))),.agg #[.int .i64 o.f0,.int .i64 o.f1,.int .i64 o.f2],.agg #[.int .i64 I,.slice A1 N.length c1,.slice (some ad) O.length c2],.pointer (some ⟨wr.heap.size+1,0,none⟩),.int .i64 o.f0,.func (.func 125) #[] #[.pointer (some ⟨wr.heap.size+1+1+1,0,none⟩),.pointer (some ⟨wr.heap.size+1+1,0,none⟩)],.int .i64 x,u27,u28,u29,u30,u31,u32,u33,u34,u35,u36,u37,u38,u39,u40,undef],defers:=[]}) ?sI ?sX HF3.out.row ?assign ?body ?done ?stop
   case sI=>exact fun pre A A' h hs hk=>h.kb hk (fun k e hm=>by have e2:w.heap.size+1+1=k:=Option.some.inj e;omega)
   case sX=>exact fun c A A' h _ _=>h
   case stop=>exact fun c W h _ _=>h.elim
   case assign=>
    intro l x W K hK
    gi_wp2
    exact hK
   case body=>
    rintro l pre x W hI hsz ⟨rest,hrest⟩ hkb;have hnd:=up_nodup HN.out o.f0 HOJ.out.1 HOJ.out.2.1;have hxm:x∈upL N o.f0:=by rw[hrest];simp
    have hxp:x∉pre:=by
     rw[hrest,List.nodup_append] at hnd;intro h;exact hnd.2.2 x h x (List.mem_cons_self ..) rfl
    obtain⟨hx0,hx1⟩:=up_mem HN.out o.f0 HOJ.out.1 HOJ.out.2.1 x hxm;have hx1:x≤N.length:=by have:=HOJ.out.2.1;omega
    have hbW:Below w.heap.size w W:=HF3.out.hb.trans (hkb.below (by have:=HF3.out.lt;omega) (fun k hk h=>by rcases h with h|h<;>omega));have b1:W.cell? ⟨w.heap.size+1+1+1,0,none⟩=some (.slice (some ⟨w.heap.size+1+1,0,none⟩) (N.length+1) (N.length+1)):=(blk_cell (hkb.at HF3.out.ob (fun h=>by rcases h with h|h<;>omega)) 0).trans rfl;have b2:W.cell? ⟨w.heap.size+1,0,none⟩=some (.slice As s.length cs):=(blk_cell (hkb.at HF3.out.sb (fun h=>by rcases h with h|h<;>omega)) 0).trans rfl;have b3:W.cell? ⟨wr.heap.size,0,none⟩=some (.int .i64 (j:Int)):=(blk_cell (hkb.at HJ3.out (fun h=>by rcases h with h|h<;>omega)) 0).trans rfl;obtain⟨b4,b4f⟩:=Kd.R_celln (0:Int) hI x hx0 (by show x<((N.length+1:Nat):Int);omega);have hjs:(j:Int)<s.length:=by have:=HS.out;omega
    obtain⟨ads,es,b5⟩:=Kd.at_int (Kd.C_below HRS.out hbW) (j:Int) p1 hjs;rw[Int.toNat_natCast] at b5;subst es
    have hv:rd (flowL N O s j pre) x=sumTo N O s x j:=by
     rw[flowL_at N O s j pre hx0 hx1,if_neg (by simpa using hxp)];omega
    obtain⟨v0,hv0⟩:∃v0,rd (flowL N O s j pre) x=v0:=⟨_,rfl⟩;obtain⟨sj,hsj⟩:∃sj,rd s (j:Int)=sj:=⟨_,rfl⟩;have hvr:=sumTo_range (N:=N) (O:=O) (s:=s) (n:=x) (k:=j) (fun i hi=>HBD.out i (by have:=HS.out;omega));have hsr:=HBD.out j (by have:=HS.out;omega);have hset:=flowL_set (N:=N) (O:=O) (s:=s) (k:=j) (pre:=pre) hx0 hx1 hxp;rw[hsj] at hsr hset b5;rw[hv0] at hset;rw[← hv,hv0] at hvr;replace b4:W.cell? ⟨w.heap.size+1+1,x.toNat,none⟩=some (.int .i64 v0):=by rw[← hv0];exact b4
    have HSET:=aM hset;have HI:=aM hI;have hxl:x<((N.length:Int)+1):=by omega
    have q5:=eq_true hx0;have q6:=eq_true hxl;have q7:=eq_true hjs;have hmix:Tryz.prog.follows .mixedOrders=true:=by kernel_rfl
    clear hI hset hv hv0 hsj hnd hxm hxp hx1 hrest rest hseq hT3 hX3
    gi_wp2
    refine startR_ (m:=14) (S:=fun w'=>w'.cell? ⟨w.heap.size+1+1+1,0,none⟩=some (.slice (some ⟨w.heap.size+1+1,0,none⟩) (N.length+1) (N.length+1))∧w'.cell? ⟨w.heap.size+1,0,none⟩=some (.slice (some ads) s.length cs)∧w'.cell? ⟨wr.heap.size,0,none⟩=some (.int .i64 (j:Int))∧w'.cell? ⟨w.heap.size+1+1,x.toNat,none⟩=some (.int .i64 v0)∧w'.cell? (ads.add j)=some (.int .i64 sj)) (ds:=[13]) (bl 14 0) hmix (by kernel_rfl) rfl rfl ⟨b1,b2,b3,b4,b5⟩ (fun hHeld=>?_);refine take_ (i:=0) (N:=(some 27)) (v:=?_) (a':=?_) (bl 14 1) rfl rfl (by kernel_rfl) (fun _ _ _ h=>h) (Or.inl ⟨by rfl,?_⟩) hHeld ?_ ?_;rotate_left
    ·rintro w' ⟨s0,s1,s2,s3,s4⟩
     go_simp
     with_reducible rfl
    rotate_left
    ·simp only[Act.put,List.setIfInBounds_toArray,List.set_cons_zero,List.set_cons_succ,i64_w,i32_w]
     rfl
    refine pure_ (i:=1) (N:=(some 28)) (v:=?_) (a':=?_) (bl 14 3) rfl rfl (by kernel_rfl) (fun _ _ _ h=>h) (Or.inl ⟨by rfl,?_⟩) ?_ ?_;rotate_left
    ·intro w'
     go_simp
     with_reducible rfl
    rotate_left
    ·simp only[Act.put,List.setIfInBounds_toArray,List.set_cons_zero,List.set_cons_succ,i64_w,i32_w]
     rfl
    refine take_ (i:=2) (N:=(some 29)) (v:=?_) (a':=?_) (bl 14 7) rfl rfl (by kernel_rfl) (fun _ _ _ h=>h) (Or.inl ⟨by rfl,?_⟩) hHeld ?_ ?_;rotate_left
    ·rintro w' ⟨s0,s1,s2,s3,s4⟩
     go_simp
     with_reducible rfl
    rotate_left
    ·simp only[Act.put,List.setIfInBounds_toArray,List.set_cons_zero,List.set_cons_succ,i64_w,i32_w]
     rfl
    refine pure_ (i:=3) (N:=(some 30)) (v:=?_) (a':=?_) (bl 14 15) rfl rfl (by kernel_rfl) (fun _ _ _ h=>h) (Or.inl ⟨by rfl,?_⟩) ?_ ?_;rotate_left
    ·intro w'
     go_simp
     with_reducible rfl
    rotate_left
    ·simp only[Act.put,List.setIfInBounds_toArray,List.set_cons_zero,List.set_cons_succ,i64_w,i32_w]
     rfl
    refine pure_ (i:=4) (N:=(some 31)) (v:=?_) (a':=?_) (bl 14 31) rfl rfl (by kernel_rfl) (fun _ _ _ h=>h) (Or.inl ⟨by rfl,?_⟩) ?_ ?_;rotate_left
    ·intro w'
     go_simp
     with_reducible rfl
    rotate_left
    ·simp only[Act.put,List.setIfInBounds_toArray,List.set_cons_zero,List.set_cons_succ,i64_w,i32_w]
     rfl
    refine take_ (i:=5) (N:=(some 32)) (v:=?_) (a':=?_) (bl 14 63) rfl rfl (by kernel_rfl) (fun _ _ _ h=>h) (Or.inl ⟨by rfl,?_⟩) hHeld ?_ ?_;rotate_left
    ·rintro w' ⟨s0,s1,s2,s3,s4⟩
     go_simp
     with_reducible rfl
    rotate_left
    ·simp only[Act.put,List.setIfInBounds_toArray,List.set_cons_zero,List.set_cons_succ,i64_w,i32_w]
     rfl
    refine take_ (i:=6) (N:=(some 33)) (v:=?_) (a':=?_) (bl 14 127) rfl rfl (by kernel_rfl) (fun _ _ _ h=>h) (Or.inl ⟨by rfl,?_⟩) hHeld ?_ ?_;rotate_left
    ·rintro w' ⟨s0,s1,s2,s3,s4⟩
     go_simp
     with_reducible rfl
    rotate_left
    ·simp only[Act.put,List.setIfInBounds_toArray,List.set_cons_zero,List.set_cons_succ,i64_w,i32_w]
     rfl
    refine take_ (i:=7) (N:=(some 34)) (v:=?_) (a':=?_) (bl 14 255) rfl rfl (by kernel_rfl) (fun _ _ _ h=>h) (Or.inl ⟨by rfl,?_⟩) hHeld ?_ ?_;rotate_left
    ·rintro w' ⟨s0,s1,s2,s3,s4⟩
     go_simp
     with_reducible rfl
    rotate_left
    ·simp only[Act.put,List.setIfInBounds_toArray,List.set_cons_zero,List.set_cons_succ,i64_w,i32_w]
     rfl
    refine pure_ (i:=8) (N:=(some 35)) (v:=?_) (a':=?_) (bl 14 511) rfl rfl (by kernel_rfl) (fun _ _ _ h=>h) (Or.inl ⟨by rfl,?_⟩) ?_ ?_;rotate_left
    ·intro w'
     go_simp
     with_reducible rfl
    rotate_left
    ·simp only[Act.put,List.setIfInBounds_toArray,List.set_cons_zero,List.set_cons_succ,i64_w,i32_w]
     rfl
    refine take_ (i:=9) (N:=(some 36)) (v:=?_) (a':=?_) (bl 14 1023) rfl rfl (by kernel_rfl) (fun _ _ _ h=>h) (Or.inl ⟨by rfl,?_⟩) hHeld ?_ ?_;rotate_left
    ·rintro w' ⟨s0,s1,s2,s3,s4⟩
     go_simp
     with_reducible rfl
    rotate_left
    ·simp only[Act.put,List.setIfInBounds_toArray,List.set_cons_zero,List.set_cons_succ,i64_w,i32_w]
     rfl
    have hS:∀W':World,Below W.drew.heap.size W.drew W'->(W'.cell? ⟨w.heap.size+1+1+1,0,none⟩=some (.slice (some ⟨w.heap.size+1+1,0,none⟩) (N.length+1) (N.length+1))∧W'.cell? ⟨w.heap.size+1,0,none⟩=some (.slice (some ads) s.length cs)∧W'.cell? ⟨wr.heap.size,0,none⟩=some (.int .i64 (j:Int))∧W'.cell? ⟨w.heap.size+1+1,x.toNat,none⟩=some (.int .i64 v0)∧W'.cell? (ads.add j)=some (.int .i64 sj)):=fun W' hb=>by
     obtain⟨s0,s1,s2,s3,s4⟩:=hHeld;exact⟨(hb.cell (World.block_lt_of_cell? _ _ s0)).trans s0,(hb.cell (World.block_lt_of_cell? _ _ s1)).trans s1,(hb.cell (World.block_lt_of_cell? _ _ s2)).trans s2,(hb.cell (World.block_lt_of_cell? _ _ s3)).trans s3,(hb.cell (World.block_lt_of_cell? _ _ s4)).trans s4⟩
    have hbA:Below W.drew.heap.size W.drew (W.drew.alloc (.cells #[.int .i64 v0,.int .i64 sj] 3)):=(Below.refl _ _).alloc (Nat.le_refl _) _;refine one_ (i:=10) (N:=(some 37)) (bl 14 2047) rfl rfl (by kernel_rfl) (by decide) (fun K hK=>?_);refine value_ (v:=.slice (some ⟨W.drew.heap.size,0,none⟩) 2 2) (w1:=W.drew.alloc (.cells #[.int .i64 v0,.int .i64 sj] 3)) (by rfl) rfl ?_ ?_
    ·go_simp
    refine hK.out _ _ (hS _ hbA) (fun hH1=>?_);clear hK K;refine nm ?_
    have hCA:Kd.C (Kd.int .i64) (W.drew.alloc (.cells #[.int .i64 v0,.int .i64 sj] 3)) (some ⟨W.drew.heap.size,0,none⟩) [v0,sj].length [v0,sj]:=by
     have:=own_lit_of (enc:=Value.int .i64) W.drew W.drew.heap.size 3 [v0,sj] (Nat.le_refl _) (by simp);obtain⟨A,cc,e,hr⟩:=own_reads_of (d:=(0:Int)) this
     cases e
     exact Kd.C_of_reads hr
    refine one_ (i:=11) (N:=(some 38)) (bl 14 4095) rfl rfl (by kernel_rfl) (by decide) (fun K hK=>?_);refine call_ 140 #[.slice (some ⟨W.drew.heap.size,0,none⟩) 2 2] (by rfl) rfl ?_ ?_
    ·have he:=enters_ Tryz.func140 (by kernel_rfl) rfl #[.slice (some ⟨W.drew.heap.size,0,none⟩) 2 2] (W.drew.alloc (.cells #[.int .i64 v0,.int .i64 sj] 3));unfold execOp;simp[resolve,Deferred.ofValue,invoke,Act.eval,he]
    refine(d7_sum.calls 3 _ 2 [v0,sj] _ _ hCA (Nat.le_refl _) (sum_two v0 sj (by omega) (by omega) (by omega) (by omega))).mono ?_;rintro e w5 ⟨rfl,hb5⟩;refine⟨_,rfl,?_⟩;have hb5:Below W.drew.heap.size W.drew w5:=below_step hbA hb5.below;refine hK.out _ _ (hS _ hb5) (fun hH2=>?_);clear hK K hCA hbA hH1;refine nm ?_;refine pure_ (i:=12) (N:=(some 39)) (v:=?_) (a':=?_) (bl 14 8191) rfl rfl (by kernel_rfl) (fun _ _ _ h=>h) (Or.inl ⟨by rfl,?_⟩) ?_ ?_;rotate_left
    ·intro w'
     go_simp
     with_reducible rfl
    rotate_left
    ·simp only[Act.put,List.setIfInBounds_toArray,List.set_cons_zero,List.set_cons_succ,i64_w,i32_w]
     rfl
    have hbW5:Below W.heap.size W w5:=below_step (below_drew1 (Below.refl _ _)) hb5;have HI5:=aM (Kd.R_below HI.out hbW5);have hf5:w5.frozen? ⟨w.heap.size+1+1,x.toNat,none⟩=false:=(Kd.R_celln (0:Int) HI5.out x hx0 (by show x<((N.length+1:Nat):Int);omega)).2;have HB5:=aM hbW5;have c5:=hH2.2.2.2.1;refine last_ (i:=13) (N:=none) (bl 14 16383) rfl rfl (by kernel_rfl) (by decide) (fun K hK=>?_);refine skip_ (w1:=w5.setCell ⟨w.heap.size+1+1,x.toNat,none⟩ (.int .i64 (v0+sj))) (by rfl) rfl ?_ ?_
    ·go_simp
    refine hK.out _ _ ?_;clear hK K;refine done_ (by kernel_rfl) ?_;simp only[onlyN];have hput:=Kd.R_putn HI5.out x (v0+sj);rw[HSET.out] at hput;exact⟨(KB.of_below HB5.out).trans (KB.setCell _ _ _ rfl),hput⟩
   case done=>
    intro W hrow hkb hD;rw[flowL_next' HOE.out] at hrow;have HF4:=aM (HF3.out.turn hkb (fun k h=>h.elim .inl (fun e=>.inr (by omega))) hrow);have HM4:=aM (HM3.out.cons hkb (fun k h hh=>h.elim (fun e=>by subst e;have:=OwnI.cells HF3.out.row rfl;obtain⟨o,ho,hc⟩:=this;rw[ho] at hh;cases hh;cases hc) (fun e=>by subst e;rw[hX3] at hh;cases hh)) (by omega) (Nat.le_refl _) hD);clear hrow hkb hD hseq hT3 hX3
    gi_wp2
    rw[show (j:Int)+1=((j+1:Nat):Int) by omega];exact⟨⟨j+1,_,_,_,_,_,_,_,_,_,_,_,_,_,_,_,_,_,_,_,_,_,_,_,_,_,_,_,rfl,⟨by omega⟩,HF4,HM4⟩,by simp[intOf];omega⟩
def smallB (O:List SO) (s:List Int):Bool:=decide (s.length=O.length)&&(List.range s.length).all fun i=>decide (0≤rd s i)&&decide (rd s i≤1000)
theorem small_ok {O:List SO} {s:List Int} (h:smallB O s=true):s.length=O.length∧∀i:Nat,i<s.length->0≤rd s i∧rd s i≤1000:=by
 simp only[smallB,Bool.and_eq_true,decide_eq_true_eq,List.all_eq_true,List.mem_range] at h;exact⟨h.1,fun i hi=>h.2 i hi⟩
def d7_flows.f (a0_0:Int) (l0_1:List SN) (l0_2:List SO) (l1:List Int):Option (List Int):=
 if okN l0_1=true∧okO l0_1.length l0_2=true∧l0_1.length≤1000∧l0_2.length≤1000∧smallB l0_2 l1=true then some (flowsF l0_1 l0_2 l1) else none
theorem d7_flows.calls (a0_0:Int) (A0_1:Option Addr) (c0_1:Nat) (l0_1:List SN) (A0_2:Option Addr) (c0_2:Nat) (l0_2:List SO) (A1:Option Addr) (c1:Nat) (l1:List Int) (r:List Int) (w:World) (hr0_1:Kd.C k77 w A0_1 l0_1.length l0_1) (hc0_1:l0_1.length≤c0_1) (hr0_2:Kd.C k51 w A0_2 l0_2.length l0_2) (hc0_2:l0_2.length≤c0_2) (hr1:Kd.C (Kd.int .i64) w A1 l1.length l1) (hc1:l1.length≤c1) (h:d7_flows.f a0_0 l0_1 l0_2 l1=some r):
  Calls Tryz.prog 126 #[.agg #[.int .i64 a0_0,.slice A0_1 l0_1.length c0_1,.slice A0_2 l0_2.length c0_2],.slice A1 l1.length c1] w fun e w'=>∃v0_:Value,e=.returned v0_∧Kd.R (Kd.int .i64) 3 w' w.heap.size (fun _=>True) v0_ r∧Below w.heap.size w w':=by
 unfold d7_flows.f at h
 split at h
 ·rename_i hp
  obtain rfl:=Option.some.inj h;have hs:=small_ok hp.2.2.2.2;exact flows_any a0_0 A0_1 A0_2 A1 c0_1 c0_2 c1 l0_1 l0_2 l1 w hp.1 hp.2.1 hp.2.2.1 hp.2.2.2.1 hs.1 hs.2 hr0_1 hr0_2 hr1
 ·cases h
end Go.Proofs.YtjioobfeikbffabGreatDoor.K
end
section
namespace Go.Proofs.YtjioobfeikbffabGreatDoor.K
open Go.RowKit Go.Proofs.Zw Go.Proofs.Zl Go.Proofs.Zm
theorem catch_idle (p:Addr) (w:World):
    CallsD Tryz.prog 114 #[.pointer (some p)] .returning w fun e u' w'=>e=.returned (.tuple #[])∧u'=.returning∧w'=w:=by
  refine callsD_of_wpS Tryz.func114 rfl fun c₀ cs hu=>?_;apply wpS_seq;apply wpS_region;simp[wpOpsS,go_sem,recoverD,hu,Tryz.ntmps114,Exit.thenS,Array.replicate_succ,Array.replicate_zero];refine wpS_of_wp ?_;go_wp2
  cases c₀
  simp_all [bodyPostS,results,Tryz.results114]
theorem tas1 (v:Value) (W:World):(Instr.typeAssert (.iface 140 (.agg #[v])) 20 140 true).run Tryz.prog W=.ok (.tuple #[.agg #[v],.bool true]) W:=by kernel_rfl
theorem tas2 (v:Value) (W:World):(Instr.typeAssert (.iface 142 (.agg #[v])) 20 140 true).run Tryz.prog W=.ok (.tuple #[.agg #[.int .i64 0],.bool false]) W:=by kernel_rfl
theorem tas3 (v:Value) (W:World):(Instr.typeAssert (.iface 142 (.agg #[v])) 20 142 true).run Tryz.prog W=.ok (.tuple #[.agg #[v],.bool true]) W:=by kernel_rfl
theorem grown_alloc_set (w:World) (o:Obj) (p:Addr) (v:Value):w.grownBy ((w.alloc o).setCell p v) (some p.block):=
  ⟨rfl,rfl,rfl,by simp,fun i hi hne=>(Below.heap_setCell _ p v i (fun e=>hne (by rw[e]))).trans (Below.heap_alloc w o i hi)⟩
theorem grown_set (w:World) (p:Addr) (v:Value):w.grownBy (w.setCell p v) (some p.block):=
  ⟨rfl,rfl,rfl,by simp,fun i hi hne=>Below.heap_setCell _ p v i (fun e=>hne (by rw[e]))⟩
theorem cell_alloc_set (w:World) (o:Obj) (p:Addr) (v:Value) {u:Value} (hb:p.block<w.heap.size) (hc:w.cell? p=some u):((w.alloc o).setCell p v).cell? p=some v:=
  World.cell?_setCell_same' _ _ _ (by rw[World.cell?_alloc_lt w o p hb,hc];rfl)
set_option maxRecDepth 100000 in
theorem catch_rate (p:Addr) (x:Int) (u:Int) (w:World) (hc:w.cell? p=some (.int .i64 x)) (hz:w.frozen? p=false) (hb:p.block<w.heap.size):
    CallsD Tryz.prog 114 #[.pointer (some p)] (.panicking [{ v:=.iface 140 (.agg #[.int .i64 u]),recovered:=false}]) w fun e u' w'=>
      e=.returned (.tuple #[])∧u'=.panicking [{ v:=.iface 140 (.agg #[.int .i64 u]),recovered:=true}]∧w.grownBy w' (some p.block)∧w'.cell? p=some (.int .i64 7):=by
  refine callsD_of_wpS Tryz.func114 rfl fun c₀ cs hu=>?_;have h1:=tas1;have hu1:=Tryz.underlying140;have hne:¬p.block=w.heap.size:=by omega
  have hz':∀o,(w.alloc o).frozen? p=false:=fun o=>(World.frozen?_alloc_old w o p hne).trans hz;apply wpS_seq;apply wpS_region;simp[wpOpsS,go_sem,recoverD,hu,Tryz.ntmps114,Exit.thenS,Array.replicate_succ,Array.replicate_zero];refine wpS_of_wp ?_;go_wp2;exact⟨rfl,_,rfl,_,results_none rfl _ _ _,rfl,rfl,grown_alloc_set _ _ _ _,cell_alloc_set _ _ _ _ hb hc⟩
set_option maxRecDepth 100000 in
theorem catch_text (p:Addr) (x:Int) (u:ByteArray) (w:World) (hc:w.cell? p=some (.int .i64 x)) (hz:w.frozen? p=false) (hb:p.block<w.heap.size):
    CallsD Tryz.prog 114 #[.pointer (some p)] (.panicking [{ v:=.iface 142 (.agg #[.string u]),recovered:=false}]) w fun e u' w'=>
      e=.returned (.tuple #[])∧u'=.panicking [{ v:=.iface 142 (.agg #[.string u]),recovered:=true}]∧w.grownBy w' (some p.block)∧w'.cell? p=some (.int .i64 4):=by
  refine callsD_of_wpS Tryz.func114 rfl fun c₀ cs hu=>?_;have h2:=tas2;have h3:=tas3;have hu1:=Tryz.underlying142;have hne:¬p.block=w.heap.size:=by omega
  have hz':∀o,(w.alloc o).frozen? p=false:=fun o=>(World.frozen?_alloc_old w o p hne).trans hz;apply wpS_seq;apply wpS_region;simp[wpOpsS,go_sem,recoverD,hu,Tryz.ntmps114,Exit.thenS,Array.replicate_succ,Array.replicate_zero];refine wpS_of_wp ?_;go_wp2;exact⟨rfl,_,rfl,_,results_none rfl _ _ _,rfl,rfl,grown_alloc_set _ _ _ _,cell_alloc_set _ _ _ _ hb hc⟩
theorem try_any (g B:Nat) (lb:Array Value) (w:World) (hBn:B≠w.heap.size) (Ro Rr Rt:World->Prop) (eg:∀args w,(callFunc g args).run Tryz.prog w=.ok (.enter g args) w)
    (hdo:Calls Tryz.prog g lb (w.alloc (.cells #[.int .i64 0] 31)) fun e w'=>(w.alloc (.cells #[.int .i64 0] 31)).grownBy w' (some B)∧
      ((e=.returned (.tuple #[])∧Ro w')∨(∃ u,e=.panicked [{ v:=.iface 140 (.agg #[.int .i64 u]),recovered:=false}]∧Rr w')∨(∃ u,e=.panicked [{ v:=.iface 142 (.agg #[.string u]),recovered:=false}]∧Rt w'))):
    Calls Tryz.prog 78 #[.func (.func g) #[] lb] w fun e w'=>∃(w1:World) (n:Int),e=.returned (.int .i64 n)∧(w.alloc (.cells #[.int .i64 0] 31)).grownBy w1 (some B)∧w1.grownBy w' (some w.heap.size)∧
      ((n=0∧Ro w1)∨(n=7∧Rr w1)∨(n=4∧Rt w1)):=by
  have hmf:∀(fn:Fn) (first cap:Array Value) (w:World),(Instr.makeFunc fn first cap).run Tryz.prog w=.ok (.func fn first cap) w:=fun _ _ _ _=>rfl
  go_enter_defers Tryz.func78,Tryz.ntmps78
  go_wp2_with fail
  refine hdo.mono ?_;rintro e w1 ⟨hB,h⟩;have hlt:w.heap.size<w1.heap.size:=by have:=hB.size;simp at this;omega
  have hc:w1.cell? ⟨w.heap.size,0,none⟩=some (.int .i64 0):=(hB.cell_far ⟨w.heap.size,0,none⟩ (by simp) (by simpa using Ne.symm hBn)).trans (by simp);have hz:w1.frozen? ⟨w.heap.size,0,none⟩=false:=(hB.frozen_far ⟨w.heap.size,0,none⟩ (by simp) (by simpa using Ne.symm hBn)).trans (by simp)
  rcases h with⟨rfl,ho⟩|⟨u,rfl,hr⟩|⟨u,rfl,ht⟩
  · go_wp2;refine leaves_cons (f:=114) (args:=#[.pointer (some ⟨w.heap.size,0,none⟩)]) (by simp) (by simp[go_sem]) ?_;refine(catch_idle ⟨w.heap.size,0,none⟩ _).mono ?_;rintro e u' w'' ⟨rfl,rfl,rfl⟩;have hs:(w1.setCell ⟨w.heap.size,0,none⟩ (.int .i64 0)).cell? ⟨w.heap.size,0,none⟩=some (.int .i64 0):=World.cell?_setCell_same' _ _ _ (by rw[hc];rfl);exact⟨.int .i64 0,by simp[results,Tryz.results78,go_sem,hs],w1,0,rfl,hB,grown_set _ _ _,.inl ⟨rfl,ho⟩⟩
  · go_wp2;refine leaves_cons (f:=114) (args:=#[.pointer (some ⟨w.heap.size,0,none⟩)]) (by simp) (by simp[go_sem]) ?_;refine(catch_rate ⟨w.heap.size,0,none⟩ 0 u _ hc hz hlt).mono ?_;rintro e u' w'' ⟨rfl,rfl,hg,hs⟩;exact⟨.int .i64 7,by simp[results,Tryz.results78,go_sem,hs],w1,7,rfl,hB,hg,.inr (.inl ⟨rfl,hr⟩)⟩
  · go_wp2;refine leaves_cons (f:=114) (args:=#[.pointer (some ⟨w.heap.size,0,none⟩)]) (by simp) (by simp[go_sem]) ?_;refine(catch_text ⟨w.heap.size,0,none⟩ 0 u _ hc hz hlt).mono ?_;rintro e u' w'' ⟨rfl,rfl,hg,hs⟩;exact⟨.int .i64 4,by simp[results,Tryz.results78,go_sem,hs],w1,4,rfl,hB,hg,.inr (.inr ⟨rfl,ht⟩)⟩
end Go.Proofs.YtjioobfeikbffabGreatDoor.K
end
section
namespace Go.Proofs.YtjioobfeikbffabGreatDoor.K
open Go.RowKit Go.Proofs.Zw Go.Proofs.Zl Go.Proofs.Zm
attribute [local go_sem] max2_int min2_int max_two min_two max_three min_three max_four min_four
def d7_capacity.f (a0_0:Int) (l0_1:List (S77)) (l0_2:List (S51)) (a1:Int):Option (Int):=if a1=0 then(some a0_0) else(if 0≤(wrap64 (a1-1)) then(if (wrap64 (a1-1))<(l0_1.length:Int) then(some ((rd_T77 l0_1 (wrap64 (a1-1))).f1)) else(none)) else(none))
set_option maxHeartbeats 8000000 in
set_option maxRecDepth 100000 in
theorem d7_capacity.calls (a0_0:Int) (A0_1:Option Addr) (c0_1:Nat) (l0_1:List (S77)) (A0_2:Option Addr) (c0_2:Nat) (l0_2:List (S51)) (a1:Int) (r:Int) (w:World) (hr0_1:Kd.C k77 w A0_1 l0_1.length l0_1) (hc0_1:l0_1.length≤c0_1) (hr0_2:Kd.C k51 w A0_2 l0_2.length l0_2) (hc0_2:l0_2.length≤c0_2) (h:d7_capacity.f a0_0 l0_1 l0_2 a1=some r):
  Calls Tryz.prog 127 #[.agg #[.int .i64 a0_0,.slice A0_1 l0_1.length c0_1,.slice A0_2 l0_2.length c0_2],.int .i64 a1] w fun e w'=>e=.returned (.int .i64 r)∧Below w.heap.size w w':=by
 have hu25:=Tryz.underlying25;have HR0_1:=aM hr0_1;have HC0_1:=aM hc0_1;clear hr0_1 hc0_1;have HR0_2:=aM hr0_2;have HC0_2:=aM hc0_2;clear hr0_2 hc0_2;have HB:=aM (Below.refl w.heap.size w);have H:(if a1=0 then(some a0_0) else(if 0≤(wrap64 (a1-1)) then(if (wrap64 (a1-1))<(l0_1.length:Int) then(some ((rd_T77 l0_1 (wrap64 (a1-1))).f1)) else(none)) else(none)))=some r:=h;clear h
 by_cases c3:a1=0
 ·rw[if_pos c3] at H;have c3b0:(a1==0)=true:=beq_iff_eq.mpr c3;have c3b1:(a1 !=0)=false:=bne_eq_false_iff_eq.mpr c3;clear c3;obtain rfl:=Option.some.inj H
  go_enter Tryz.func127,Tryz.ntmps127
  go_wp2_with (first|((with_reducible refine gate_dst (N:=2) rfl ?_);refine bxe 2 #[.int .i64 a0_0,.slice A0_1 l0_1.length c0_1,.slice A0_2 l0_2.length c0_2] 25 ?_;intro gb101 hg w4 hbox hb;have n0_:=aM (below_step uB hb);have n1_:=aM (hbox);have n2_:=gw hg;have n3_:=gw hg;clear HB;have HB:=n0_;have BK101:=n1_;have GW101:=n2_;have GE101:=n3_;clear n0_ n1_ n2_ n3_;clear hb hbox hg;obtain⟨hcz5_0,hcz5_1,hcz5_2⟩:=cz3 BK101.out;obtain⟨hfz5_0,hfz5_1,hfz5_2⟩:=fz3 BK101.out))
  go_ret;exact⟨uE,uB⟩
 ·rw[if_neg c3] at H;have c3b0:(a1==0)=false:=beq_eq_false_iff_ne.mpr c3;have c3b1:(a1 !=0)=true:=bne_iff_ne.mpr c3;obtain⟨ji6,hji6⟩:∃j_:Int,(wrap64 (a1-1))=j_:=⟨_,rfl⟩;replace H:(if 0≤(ji6) then(if (ji6)<(l0_1.length:Int) then(some ((rd_T77 l0_1 (ji6)).f1)) else(none)) else(none))=some r:=by first|(rw [hji6] at H;exact H)|(simp only[hji6] at H⊢;exact H)
  have hji6w:(IntKind.i64.wrap (a1-1))=ji6:=(i64_w _).trans hji6;obtain⟨c7,H⟩:=ifs H;replace c7:=decide_eq_true c7;obtain⟨c8,H⟩:=ifs H;replace c8:=decide_eq_true c8;obtain rfl:=Option.some.inj H
  go_enter Tryz.func127,Tryz.ntmps127
  go_wp2_with (first|((with_reducible refine gate_dst (N:=2) rfl ?_);refine bxe 2 #[.int .i64 a0_0,.slice A0_1 l0_1.length c0_1,.slice A0_2 l0_2.length c0_2] 25 ?_;intro gb101 hg w9 hbox hb;have n0_:=aM (below_step uB hb);have n1_:=aM (hbox);have n2_:=gw hg;have n3_:=gw hg;clear HB;have HB:=n0_;have BK101:=n1_;have GW101:=n2_;have GE101:=n3_;clear n0_ n1_ n2_ n3_;clear hb hbox hg;obtain⟨hcz10_0,hcz10_1,hcz10_2⟩:=cz3 BK101.out;obtain⟨hfz10_0,hfz10_1,hfz10_2⟩:=fz3 BK101.out;have p102:0≤((ji6):Int):=uD;have q102:(ji6)<(l0_1.length:Int):=uD;obtain⟨ad102,e102,hx102_0,hx102_1⟩:=at_T77 HR0_1.out (ji6) p102 q102;cases e102;replace hx102_0:=hcell HB.out hx102_0;replace hx102_1:=hcell HB.out hx102_1;replace p102:=eq_true p102;replace q102:=eq_true q102))
  go_ret;exact⟨by first|rfl|(simp [errW_none,errW_some]<;>rfl)|(simp only[← hji6];first|rfl|(simp [errW_none,errW_some]<;>rfl))|(simp [*,errW_none,errW_some]<;>rfl),uB⟩
end Go.Proofs.YtjioobfeikbffabGreatDoor.K
end
section
namespace Go.Proofs.YtjioobfeikbffabGreatDoor.K
open Go.RowKit Go.Shelf Go.Proofs.Zw Go.Proofs.Zl Go.Proofs.Zm
theorem cap_f {I:Int} {N:List SN} {O:List SO} {n:Int} (h0:0≤n) (h1:n≤N.length) (hl:N.length≤1000):d7_capacity.f I N O n=some (capF I N n):=by
  unfold d7_capacity.f capF
  by_cases e:n=0
  · rw[if_pos e,if_pos e]
  · rw[if_neg e,if_neg e,IntWalk.wrap64_in _ (by omega),if_pos (by omega),if_pos (by omega)]
theorem flows_at (N:List SN) (O:List SO) (s:List Int) {n:Int} (h0:0≤n) (h1:n≤N.length):rd (flowsF N O s) n=sumTo N O s n O.length:=by
  unfold flowsF;rw[flowL_at N O s O.length [] h0 h1,if_neg (by simp)]
  omega
structure TrW (w:World) (I:Int) (A1 A2:Option Addr) (c1 c2:Nat) (N:List SN) (O:List SO):Prop where
  n:okN N=true
  o:okO N.length O=true
  nl:N.length≤1000
  ol:O.length≤1000
  r1:Kd.C k77 w A1 N.length N
  l1:N.length≤c1
  r2:Kd.C k51 w A2 O.length O
  l2:O.length≤c2
theorem TrW.below {w w1:World} {I:Int} {A1 A2:Option Addr} {c1 c2:Nat} {N:List SN} {O:List SO} (h:TrW w I A1 A2 c1 c2 N O) (hb:Below w.heap.size w w1):TrW w1 I A1 A2 c1 c2 N O:=
  ⟨h.n,h.o,h.nl,h.ol,Kd.C_below h.r1 hb,h.l1,Kd.C_below h.r2 hb,h.l2⟩
structure ShW (w:World) (As:Option Addr) (cs:Nat) (O:List SO) (s:List Int):Prop where
  ln:s.length=O.length
  rg:∀i:Nat,i<s.length->0≤rd s i∧rd s i≤1000
  c:Kd.C (Kd.int .i64) w As s.length s
  l:s.length≤cs
theorem ShW.below {w w1:World} {As:Option Addr} {cs:Nat} {O:List SO} {s:List Int} (h:ShW w As cs O s) (hb:Below w.heap.size w w1):ShW w1 As cs O s:=⟨h.ln,h.rg,Kd.C_below h.c hb,h.l⟩
theorem flows_w {w:World} {I:Int} {A1 A2 As:Option Addr} {c1 c2 cs:Nat} {N:List SN} {O:List SO} {s:List Int} (h:TrW w I A1 A2 c1 c2 N O) (k:ShW w As cs O s):
    Calls Tryz.prog 126 #[.agg #[.int .i64 I,.slice A1 N.length c1,.slice A2 O.length c2],.slice As s.length cs] w fun e w'=>∃A c,e=.returned (.slice A (N.length+1) c)∧Aside0 (Kd.C (Kd.int .i64) w' A (N.length+1) (flowsF N O s)∧N.length+1≤c)∧Below w.heap.size w w':=by
  refine(flows_any I A1 A2 As c1 c2 cs N O s w h.n h.o h.nl h.ol k.ln k.rg h.r1 h.r2 k.c).mono ?_;rintro e w' ⟨v,rfl,hR,hb⟩;obtain⟨A,c,rfl,hl,hC⟩:=Kd.R_reads hR;have e:(flowsF N O s).length=N.length+1:=flowL_len ..;rw[e] at hC hl;exact⟨A,c,by rw[e],⟨hC,hl⟩,hb⟩
theorem fits_true {I:Int} {N:List SN} {O:List SO} {s:List Int} (h:∀i:Nat,i<N.length+1->sumTo N O s i O.length≤capF I N i):fitsB I N O s=true:=by
  unfold fitsB;rw[List.all_eq_true];exact fun i hi=>decide_eq_true (h i (List.mem_range.1 hi))
theorem fits_false {I:Int} {N:List SN} {O:List SO} {s:List Int} (i:Nat) (hi:i<N.length+1) (h:¬sumTo N O s i O.length≤capF I N i):fitsB I N O s=false:=by
  rw[Bool.eq_false_iff];intro hf;unfold fitsB at hf;rw[List.all_eq_true] at hf;exact h (of_decide_eq_true (hf i (List.mem_range.2 hi)))
def CarryPost (I:Int) (N:List SN) (O:List SO) (s:List Int) (w:World) (e:Ending) (w':World):Prop:=
  Below w.heap.size w w'∧((fitsB I N O s=true∧e=.returned (.tuple #[]))∨(fitsB I N O s=false∧∃u:Int,e=.panicked [{ v:=.iface 140 (.agg #[.int .i64 u]),recovered:=false}]))
set_option maxRecDepth 100000 in
set_option maxHeartbeats 1000000 in
theorem carry_any {w:World} {I:Int} {A1 A2 As:Option Addr} {c1 c2 cs:Nat} {N:List SN} {O:List SO} {s:List Int} (h:TrW w I A1 A2 c1 c2 N O) (k:ShW w As cs O s):
    Calls Tryz.prog 107 #[.agg #[.int .i64 I,.slice A1 N.length c1,.slice A2 O.length c2],.slice As s.length cs] w (CarryPost I N O s w):=by
  have hu1:=Tryz.underlying25;have hu2:=Tryz.underlying140;have H:=aM (And.intro h k);have hnl:=h.nl;clear h k
  go_enter Tryz.func107,Tryz.ntmps107
  go_upto_region 1 with(fail)
  generalize hW0:World.alloc w _=W0;have HB0:Aside0 (Below w.heap.size w W0):=⟨by rw[← hW0];exact(Below.refl _ _).alloc (Nat.le_refl _) _⟩;have HT0:Aside0 (W0.heap[w.heap.size]? =some (.cells #[.int .i64 I,.slice A1 N.length c1,.slice A2 O.length c2] 25 (0,0))):=⟨by rw[← hW0];exact blk_new _ _⟩;clear hW0;have y0:W0.cell? ⟨w.heap.size,0,none⟩=some (.int .i64 I):=(blk_cell HT0.out 0).trans rfl;have y1:W0.cell? ⟨w.heap.size,1,none⟩=some (.slice A1 N.length c1):=(blk_cell HT0.out 1).trans rfl;have y2:W0.cell? ⟨w.heap.size,2,none⟩=some (.slice A2 O.length c2):=(blk_cell HT0.out 2).trans rfl
  go_wp2_with fail
  refine(flows_w (H.out.1.below HB0.out) (H.out.2.below HB0.out)).mono ?_;rintro e w1 ⟨Af,cf,rfl,HC,hb1⟩;have HB1:=aM (below_step HB0.out hb1);have HT1:=aM (blk_below HT0.out hb1);clear y0 y1 y2 hb1 HT0 HB0;go_wp2
  go_loopg [10] (N.length+1) (fun kq v10 w'=>∃j:Nat,v10=.int .i64 (j:Int)∧Aside0 (j+kq=N.length+1)∧Aside0 (∀ i:Nat,i<j->sumTo N O s i O.length≤capF I N i)∧Aside0 (Below w1.heap.size w1 w'))
  case atStart=>exact⟨0,rfl,⟨by omega⟩,⟨fun i hi=>by omega⟩,⟨Below.refl _ _⟩⟩
  case round=>
    obtain⟨j,rfl,HJ,HI,HW⟩:=hrel
    cases gk with
    |zero=>
      have c3:decide ((j:Int)<((N.length+1:Nat):Int))=false:=decide_eq_false (by have:=HJ.out;omega);have c4:¬(j<N.length+1):=by have:=HJ.out;omega
      go_wp2
      go_end0
      exact⟨below_step HB1.out HW.out,.inl ⟨fits_true (fun i hi=>HI.out i (by have:=HJ.out;omega)),rfl⟩⟩
    |succ k2=>
      have hjn:j<N.length+1:=by have:=HJ.out;omega
      have c3:decide ((j:Int)<((N.length+1:Nat):Int))=true:=decide_eq_true (by omega);have c4:j<N.length+1:=hjn;have p1:(0:Int)≤(j:Int):=by omega
      have p2:(j:Int)<((N.length+1:Nat):Int):=by omega
      obtain⟨ad,ea,x0⟩:=Kd.at_int (Kd.C_below HC.out.1 HW.out) (j:Int) p1 p2;rw[Int.toNat_natCast,flows_at N O s p1 (by omega)] at x0;subst ea;obtain⟨fl,hfl⟩:∃fl,sumTo N O s (j:Int) O.length=fl:=⟨_,rfl⟩;obtain⟨cp,hcp⟩:∃cp,capF I N (j:Int)=cp:=⟨_,rfl⟩;rw[hfl] at x0;have hbr:=below_step HB1.out HW.out;have CC:=aM (d7_capacity.calls I A1 c1 N A2 c2 O (j:Int) cp wr ((H.out.1.below hbr).r1) H.out.1.l1 ((H.out.1.below hbr).r2) H.out.1.l2 (by rw[cap_f p1 (by omega) hnl,hcp]));have y0:wr.cell? ⟨w.heap.size,0,none⟩=some (.int .i64 I):=(blk_cell (blk_below HT1.out HW.out) 0).trans rfl;have y1:wr.cell? ⟨w.heap.size,1,none⟩=some (.slice A1 N.length c1):=(blk_cell (blk_below HT1.out HW.out) 1).trans rfl;have y2:wr.cell? ⟨w.heap.size,2,none⟩=some (.slice A2 O.length c2):=(blk_cell (blk_below HT1.out HW.out) 2).trans rfl;have HBR:=aM hbr;have HFC:Aside0 (sumTo N O s (j:Int) O.length=fl∧capF I N (j:Int)=cp):=⟨hfl,hcp⟩;have q1:=eq_true p1;have q2:=eq_true p2;clear hbr hfl hcp
      by_cases hc:cp<fl
      · have hc':decide (cp<fl)=true:=decide_eq_true hc;have HNF:Aside0 (fitsB I N O s=false):=⟨fits_false j hjn (by have:=HFC.out;omega)⟩;clear hc
        go_wp2_with (go_at_call 127;refine CC.out.mono ?_;rintro e w3 ⟨rfl,hb3⟩)
        exact⟨rfl,below_step HBR.out hb3,.inr ⟨HNF.out,_,rfl⟩⟩
      · have hc':decide (cp<fl)=false:=decide_eq_false hc;have HLE:Aside0 (sumTo N O s (j:Int) O.length≤capF I N (j:Int)):=⟨by have:=HFC.out;omega⟩;clear hc
        go_wp2_with (go_at_call 127;refine CC.out.mono ?_;rintro e w3 ⟨rfl,hb3⟩)
        go_roundg k2
        case measure=>omega
        case rel=>exact⟨j+1,(by rw[Int.natCast_add,Int.natCast_one]),⟨by have:=HJ.out;omega⟩,⟨fun i hi=>(Nat.lt_or_eq_of_le (Nat.le_of_lt_succ hi)).elim (fun h=>HI.out i h) (fun h=>h▸HLE.out)⟩,⟨below_step HW.out hb3⟩⟩
set_option maxRecDepth 100000 in
set_option maxHeartbeats 1000000 in
theorem fits1_any {w:World} {I:Int} {A1 A2 As:Option Addr} {c1 c2 cs:Nat} {N:List SN} {O:List SO} {s:List Int} (h:TrW w I A1 A2 c1 c2 N O) (k:ShW w As cs O s) (T0 S0:Nat)
    (hT:w.heap[T0]? =some (.cells #[.int .i64 I,.slice A1 N.length c1,.slice A2 O.length c2] 25 (0,0))) (hS:w.heap[S0]? =some (.cells #[.slice As s.length cs] 30 (0,0))):
    Calls Tryz.prog 106 #[.pointer (some ⟨T0,0,none⟩),.pointer (some ⟨S0,0,none⟩)] w (CarryPost I N O s w):=by
  have hu1:=Tryz.underlying25;have CC:=aM (carry_any h k);have y0:w.cell? ⟨T0,0,none⟩=some (.int .i64 I):=(blk_cell hT 0).trans rfl;have y1:w.cell? ⟨T0,1,none⟩=some (.slice A1 N.length c1):=(blk_cell hT 1).trans rfl;have y2:w.cell? ⟨T0,2,none⟩=some (.slice A2 O.length c2):=(blk_cell hT 2).trans rfl;have y3:w.cell? ⟨S0,0,none⟩=some (.slice As s.length cs):=(blk_cell hS 0).trans rfl;clear h k hT hS
  go_enter Tryz.func106,Tryz.ntmps106
  go_wp2_with fail
  refine CC.out.mono ?_;rintro e w1 ⟨hb,⟨hf,rfl⟩|⟨hf,u,rfl⟩⟩
  · have HB:=aM hb;have HF:=aM hf;clear hb hf;go_wp2
    go_end0
    exact⟨HB.out,.inl ⟨HF.out,rfl⟩⟩
  · have HB:=aM hb;have HF:=aM hf;clear hb hf;go_wp2;exact⟨rfl,HB.out,.inr ⟨HF.out,u,rfl⟩⟩
theorem grown_of_below' {w w':World} {row:Option Nat} (h:Below w.heap.size w w'):w.grownBy w' row:=⟨h.os,h.tape,h.output,h.size,fun k hk _=>h.block k hk⟩
set_option maxRecDepth 100000 in
set_option maxHeartbeats 1000000 in
theorem fits_any {w:World} {I:Int} {A1 A2 As:Option Addr} {c1 c2 cs:Nat} {N:List SN} {O:List SO} {s:List Int} (h:TrW w I A1 A2 c1 c2 N O) (k:ShW w As cs O s):
    Calls Tryz.prog 67 #[.agg #[.int .i64 I,.slice A1 N.length c1,.slice A2 O.length c2],.slice As s.length cs] w fun e w'=>e=.returned (.bool (fitsB I N O s))∧Below w.heap.size w w':=by
  have hu1:=Tryz.underlying25;have hmf:∀(fn:Fn) (first cap:Array Value) (w:World),(Instr.makeFunc fn first cap).run Tryz.prog w=.ok (.func fn first cap) w:=fun _ _ _ _=>rfl
  have CA:Aside0 (∀ W:World,Below w.heap.size w W->w.heap.size+1<W.heap.size->W.heap[w.heap.size]? =some (.cells #[.int .i64 I,.slice A1 N.length c1,.slice A2 O.length c2] 25 (0,0))->W.heap[w.heap.size+1]? =some (.cells #[.slice As s.length cs] 30 (0,0))->
      Calls Tryz.prog 78 #[.func (.func 106) #[] #[.pointer (some ⟨w.heap.size,0,none⟩),.pointer (some ⟨w.heap.size+1,0,none⟩)]] W fun e w'=>
        Below w.heap.size w w'∧((e=.returned (.int .i64 0)∧fitsB I N O s=true)∨(e=.returned (.int .i64 7)∧fitsB I N O s=false))):=⟨by
    intro W hB hlt hT hS;have hb5:Below W.heap.size W (W.alloc (.cells #[.int .i64 0] 31)):=(Below.refl _ _).alloc (Nat.le_refl _) _;have hbw:=below_step hB hb5;have hdo:=fits1_any (h.below hbw) (k.below hbw) w.heap.size (w.heap.size+1) (blk_below hT hb5) (blk_below hS hb5)
    refine(try_any 106 w.heap.size _ W (by omega) (fun _=>fitsB I N O s=true) (fun _=>fitsB I N O s=false) (fun _=>False) (enters_of Tryz.func106 (by kernel_rfl) rfl)
      (hdo.mono fun e w' ⟨hg,h⟩=>⟨grown_of_below' hg,h.elim (fun ⟨ha,hb⟩=>.inl ⟨hb,ha⟩) (fun ⟨ha,u,hb⟩=>.inr (.inl ⟨u,hb,ha⟩))⟩)).mono ?_
    rintro e w' ⟨w1,n,rfl,hg1,hg2,h⟩;have hs1:W.heap.size+1≤w1.heap.size:=by have:=hg1.size;simpa using this
    refine⟨(hbw.grown hg1 (by have:=hbw.size;simp;omega) (by intro k e;cases e;exact Nat.le_refl _)).grown hg2 (by omega) (by intro k e;cases e;omega),?_⟩
    rcases h with⟨rfl,h⟩|⟨rfl,h⟩|⟨_,h⟩
    · exact .inl ⟨rfl,h⟩
    · exact .inr ⟨rfl,h⟩
    · exact h.elim⟩
  clear h k
  go_enter Tryz.func67,Tryz.ntmps67
  go_upto_region 1 with(fail)
  generalize hW0:World.alloc (World.alloc w _) _=W0;have HB0:Aside0 (Below w.heap.size w W0∧w.heap.size+1<W0.heap.size):=⟨by rw[← hW0];exact⟨((Below.refl _ _).alloc (Nat.le_refl _) _).alloc (by simp) _,by simp⟩⟩;have HT0:Aside0 (W0.heap[w.heap.size]? =some (.cells #[.int .i64 I,.slice A1 N.length c1,.slice A2 O.length c2] 25 (0,0))):=⟨by rw[← hW0];exact blk_alloc (blk_new _ _) _⟩
  have HS0:Aside0 (W0.heap[w.heap.size+1]? =some (.cells #[.slice As s.length cs] 30 (0,0))):=⟨by
    rw[← hW0];have:=blk_new (w.alloc (.cells #[.int .i64 I,.slice A1 N.length c1,.slice A2 O.length c2] 25)) (.cells #[.slice As s.length cs] 30)
    rwa [World.size_alloc] at this⟩
  clear hW0
  go_wp2_with fail
  refine(CA.out W0 HB0.out.1 HB0.out.2 HT0.out HS0.out).mono ?_;rintro e w1 ⟨hb,⟨rfl,hf⟩|⟨rfl,hf⟩⟩
  all_goals
    have HF:=aM hf;have HB:=aM hb;clear hf hb;go_wp2;go_ret;exact⟨by rw[HF.out];rfl,HB.out⟩
theorem small_are {m:Nat} {O:List SO} {s:List Int} (hO:okO m O=true) (h:areB O s=true):smallB O s=true:=by
  simp only[areB,Bool.and_eq_true,decide_eq_true_eq,List.all_eq_true,List.mem_range] at h;simp only[smallB,Bool.and_eq_true,decide_eq_true_eq,List.all_eq_true,List.mem_range];refine⟨h.1,fun i hi=>?_⟩;have:=h.2 i hi;have:=okO_at hO (show (0:Int)≤(i:Int) by omega) (by omega)
  omega
def d7_fits.f (a0_0:Int) (l0_1:List SN) (l0_2:List SO) (l1:List Int):Option Bool:=
  if okN l0_1=true∧okO l0_1.length l0_2=true∧l0_1.length≤1000∧l0_2.length≤1000∧smallB l0_2 l1=true then some (fitsB a0_0 l0_1 l0_2 l1) else none
end Go.Proofs.YtjioobfeikbffabGreatDoor.K
end
section
namespace Go.Proofs.YtjioobfeikbffabGreatDoor.K
open Go.RowKit Go.Proofs.Zw Go.Proofs.Zl Go.Proofs.Zm
attribute [local go_sem] max2_int min2_int max_two min_two max_three min_three max_four min_four
def d7_in.f (a0:Int) (a1:Int) (a2:Int):Option (Bool):=if a0≥a1 then(some (decide (a0≤a2))) else(some false)
set_option maxHeartbeats 8000000 in
set_option maxRecDepth 100000 in
theorem d7_in.calls (a0:Int) (a1:Int) (a2:Int) (r:Bool) (w:World) (h:d7_in.f a0 a1 a2=some r):
  Calls Tryz.prog 69 #[.int .i64 a0,.int .i64 a1,.int .i64 a2] w fun e w'=>e=.returned (.bool r)∧Drawn0 w w':=by
 have H:(if a0≥a1 then(some (decide (a0≤a2))) else(some false))=some r:=h;clear h
 by_cases c4:a0≥a1
 ·rw[if_pos c4] at H;replace c4:=decide_eq_true c4;obtain rfl:=Option.some.inj H
  go_enter Tryz.func69,Tryz.ntmps69
  go_wp2;go_ret;exact⟨u0,by repeat(first|exact Drawn0.refl _|apply Drawn0.step)⟩
 ·rw[if_neg c4] at H;replace c4:=decide_eq_false c4;obtain rfl:=Option.some.inj H
  go_enter Tryz.func69,Tryz.ntmps69
  go_wp2;go_ret;exact⟨u0,by repeat(first|exact Drawn0.refl _|apply Drawn0.step)⟩
def d7_isOutlet.f (a0_0:Int) (l0_1:List (S77)) (l0_2:List (S51)) (a1:Int):Option (Bool):=(d7_in.f a1 0 (wrap64 ((l0_2.length:Int)-1))).bind fun t104=>(some t104)
set_option maxHeartbeats 8000000 in
set_option maxRecDepth 100000 in
theorem d7_isOutlet.calls (a0_0:Int) (A0_1:Option Addr) (c0_1:Nat) (l0_1:List (S77)) (A0_2:Option Addr) (c0_2:Nat) (l0_2:List (S51)) (a1:Int) (r:Bool) (w:World) (hr0_1:Kd.C k77 w A0_1 l0_1.length l0_1) (hc0_1:l0_1.length≤c0_1) (hr0_2:Kd.C k51 w A0_2 l0_2.length l0_2) (hc0_2:l0_2.length≤c0_2) (h:d7_isOutlet.f a0_0 l0_1 l0_2 a1=some r):
  Calls Tryz.prog 60 #[.agg #[.int .i64 a0_0,.slice A0_1 l0_1.length c0_1,.slice A0_2 l0_2.length c0_2],.int .i64 a1] w fun e w'=>e=.returned (.bool r)∧Below w.heap.size w w':=by
 have hu25:=Tryz.underlying25;have HR0_1:=aM hr0_1;have HC0_1:=aM hc0_1;clear hr0_1 hc0_1;have HR0_2:=aM hr0_2;have HC0_2:=aM hc0_2;clear hr0_2 hc0_2;have HB:=aM (Below.refl w.heap.size w);have H:((d7_in.f a1 0 (wrap64 ((l0_2.length:Int)-1))).bind fun t104=>(some t104))=some r:=h;clear h;replace H:=Option.bind_eq_some_iff.mp H;obtain⟨t104,A30,H⟩:=H;replace H:(some t104)=some r:=H;have A3:=aM A30;clear A30;obtain rfl:=Option.some.inj H
 go_enter Tryz.func60,Tryz.ntmps60
 go_wp2_with (first|((with_reducible refine gate_dst (N:=2) rfl ?_);refine bxe 2 #[.int .i64 a0_0,.slice A0_1 l0_1.length c0_1,.slice A0_2 l0_2.length c0_2] 25 ?_;intro gb103 hg w4 hbox hb;have n0_:=aM (below_step uB hb);have n1_:=aM (hbox);have n2_:=gw hg;have n3_:=gw hg;clear HB;have HB:=n0_;have BK103:=n1_;have GW103:=n2_;have GE103:=n3_;clear n0_ n1_ n2_ n3_;clear hb hbox hg;obtain⟨hcz5_0,hcz5_1,hcz5_2⟩:=cz3 BK103.out;obtain⟨hfz5_0,hfz5_1,hfz5_2⟩:=fz3 BK103.out)|((with_reducible refine gate_callee (f:=69) rfl ?_);refine goesL_ (some 10) rfl rfl Tryz.func69 (by kernel_rfl) rfl #[.int .i64 a1,.int .i64 0,.int .i64 (wrap64 ((l0_2.length:Int)-1))] rfl uM ?_;(with_reducible refine(d7_in.calls a1 0 (wrap64 ((l0_2.length:Int)-1)) t104 _ A3.out).mono ?_);rintro e w' ⟨rfl,⟨nd,rfl⟩⟩;refine⟨_,rfl,?_⟩))
 go_ret;exact⟨uE,uB⟩
def d7_areShares.l0:Nat->List Int->List Int->Int->Int->Int->List (S77)->List (S51)->Option (Bool)
 |0,_,_,_,_,_,_,_=>none
 |k+1,x1,x7,x8,x9,x106000,x106001,x106002=>if x9<x8 then(if 0≤x9 then(if x9<(x7.length:Int) then((d7_isOutlet.f x106000 x106001 x106002 x9).bind fun t107=>(if t107=true then(if x9<(x106002.length:Int) then((d7_in.f (rd x7 x9) 0 ((rd_T51 x106002 x9).f1)).bind fun t109=>(if t109=true then(d7_areShares.l0 k x1 x7 x8 (wrap64 (x9+1)) x106000 x106001 x106002) else(some false))) else(none)) else(some false))) else(none)) else(none)) else(some ((x1.length:Int)==(x106002.length:Int)))
def d7_areShares.f (k:Nat) (a0_0:Int) (l0_1:List (S77)) (l0_2:List (S51)) (l1:List Int):Option (Bool):=d7_areShares.l0 k l1 l1 (l1.length:Int) 0 a0_0 l0_1 l0_2
set_option maxHeartbeats 8000000 in
set_option maxRecDepth 100000 in
theorem d7_areShares.calls (k:Nat) (a0_0:Int) (A0_1:Option Addr) (c0_1:Nat) (l0_1:List (S77)) (A0_2:Option Addr) (c0_2:Nat) (l0_2:List (S51)) (A1:Option Addr) (c1:Nat) (l1:List Int) (r:Bool) (w:World) (hr0_1:Kd.C k77 w A0_1 l0_1.length l0_1) (hc0_1:l0_1.length≤c0_1) (hr0_2:Kd.C k51 w A0_2 l0_2.length l0_2) (hc0_2:l0_2.length≤c0_2) (hr1:Kd.C (Kd.int .i64) w A1 l1.length l1) (hc1:l1.length≤c1) (h:d7_areShares.f k a0_0 l0_1 l0_2 l1=some r):
  Calls Tryz.prog 66 #[.agg #[.int .i64 a0_0,.slice A0_1 l0_1.length c0_1,.slice A0_2 l0_2.length c0_2],.slice A1 l1.length c1] w fun e w'=>e=.returned (.bool r)∧Below w.heap.size w w':=by
 have hu25:=Tryz.underlying25;have HR0_1:=aM hr0_1;have HC0_1:=aM hc0_1;clear hr0_1 hc0_1;have HR0_2:=aM hr0_2;have HC0_2:=aM hc0_2;clear hr0_2 hc0_2;have HR1:=aM hr1;have HC1:=aM hc1;clear hr1 hc1;have HB:=aM (Below.refl w.heap.size w);have H:(d7_areShares.l0 k l1 l1 (l1.length:Int) 0 a0_0 l0_1 l0_2)=some r:=h;clear h;have H':=aM H;clear H
 go_enter Tryz.func66,Tryz.ntmps66
 go_wp2_with (first|((with_reducible refine gate_dst (N:=2) rfl ?_);refine bxe 2 #[.int .i64 a0_0,.slice A0_1 l0_1.length c0_1,.slice A0_2 l0_2.length c0_2] 25 ?_;intro gb105 hg w3 hbox hb;have n0_:=aM (below_step uB hb);have n1_:=aM (hbox);have n2_:=gw hg;have n3_:=gw hg;clear HB;have HB:=n0_;have BK105:=n1_;have GW105:=n2_;have GE105:=n3_;clear n0_ n1_ n2_ n3_;clear hb hbox hg))
 go_loopg [9] k (fun kq v9 w'=>∃(x9_1:Int),v9=.int .i64 x9_1∧Aside0 (d7_areShares.l0 kq l1 l1 (l1.length:Int) x9_1 a0_0 l0_1 l0_2=some r)∧Aside0 (kq≤k)∧Aside0 (w'.heap[gb105]? =some (.cells #[.int .i64 a0_0,(.slice A0_1 l0_1.length c0_1),(.slice A0_2 l0_2.length c0_2)] 25 (0,0)))∧Aside0 (Below w.heap.size w w'))
 case atStart=>exact⟨(0),u0,H',⟨Nat.le_refl _⟩,⟨uK BK105.out⟩,⟨uB⟩⟩
 case round=>
  clear H';try clear c1;try clear p2
  obtain⟨x9_1,rfl,HA,HK1,BK105,HB⟩:=hrel
  cases gk with
  |zero=>exact absurd HA.out (by simp[d7_areShares.l0])
  |succ k1=>
   have H:=HA.out;clear HA;simp only[d7_areShares.l0] at H
   by_cases c4:x9_1<(l1.length:Int)
   ·rw[if_pos c4] at H;replace c4:=decide_eq_true c4;obtain⟨c5,H⟩:=ifs H;replace c5:=decide_eq_true c5;obtain⟨c6,H⟩:=ifs H;replace c6:=decide_eq_true c6;replace H:=Option.bind_eq_some_iff.mp H;obtain⟨t107,A70,H⟩:=H;replace H:(if t107=true then(if x9_1<(l0_2.length:Int) then((d7_in.f (rd l1 x9_1) 0 ((rd_T51 l0_2 x9_1).f1)).bind fun t109=>(if t109=true then(d7_areShares.l0 k1 l1 l1 (l1.length:Int) (wrap64 (x9_1+1)) a0_0 l0_1 l0_2) else(some false))) else(none)) else(some false))=some r:=H;have A7:=aM A70;clear A70
    by_cases c8:t107=true
    ·subst c8;have H1:(if x9_1<(l0_2.length:Int) then((d7_in.f (rd l1 x9_1) 0 ((rd_T51 l0_2 x9_1).f1)).bind fun t109=>(if t109=true then(d7_areShares.l0 k1 l1 l1 (l1.length:Int) (wrap64 (x9_1+1)) a0_0 l0_1 l0_2) else(some false))) else(none))=some r:=by rw[if_pos rfl] at H;exact H
     clear H;have H:=H1;clear H1;obtain⟨c9,H⟩:=ifs H;replace c9:=decide_eq_true c9;replace H:=Option.bind_eq_some_iff.mp H;obtain⟨t109,A100,H⟩:=H;replace H:(if t109=true then(d7_areShares.l0 k1 l1 l1 (l1.length:Int) (wrap64 (x9_1+1)) a0_0 l0_1 l0_2) else(some false))=some r:=H;have A10:=aM A100;clear A100
     by_cases c11:t109=true
     ·subst c11;have H1:(d7_areShares.l0 k1 l1 l1 (l1.length:Int) (wrap64 (x9_1+1)) a0_0 l0_1 l0_2)=some r:=by rw[if_pos rfl] at H;exact H
      clear H;have H:=H1;clear H1;have H':=aM H;clear H;have p106:0≤(x9_1:Int):=uD;have q106:x9_1<(l1.length:Int):=uD;obtain⟨ad106,e106,hx106_0⟩:=Kd.at_int HR1.out x9_1 p106 q106
      cases e106
      replace hx106_0:=hcell HB.out hx106_0;replace p106:=eq_true p106;replace q106:=eq_true q106;obtain⟨hcz12_0,hcz12_1,hcz12_2⟩:=cz3 BK105.out;obtain⟨hfz12_0,hfz12_1,hfz12_2⟩:=fz3 BK105.out
      go_wp2_with (first|((with_reducible refine gate_callee (f:=60) rfl ?_);refine goesL_ (some 16) rfl rfl Tryz.func60 (by kernel_rfl) rfl #[.agg #[.int .i64 a0_0,.slice A0_1 l0_1.length c0_1,.slice A0_2 l0_2.length c0_2],.int .i64 x9_1] rfl uM ?_;(with_reducible refine(d7_isOutlet.calls a0_0 _ _ l0_1 _ _ l0_2 x9_1 true _ ?side1 ?side2 ?side3 ?side4 A7.out).mono ?_);(case side1=>exact uY HR0_1 HB);(case side2=>exact HC0_1.out);(case side3=>exact uY HR0_2 HB);(case side4=>exact HC0_2.out);rintro e w13 ⟨rfl,hb⟩;refine⟨_,rfl,?_⟩;replace BK105:=aM (blk_below (uK BK105.out) hb);replace HB:=aM (below_step uB hb);(try clear hb);obtain⟨hcz14_0,hcz14_1,hcz14_2⟩:=cz3 BK105.out;obtain⟨hfz14_0,hfz14_1,hfz14_2⟩:=fz3 BK105.out;have p108:0≤(x9_1:Int):=uD;have q108:x9_1<(l0_2.length:Int):=uD;obtain⟨ad108,e108,hx108_0,hx108_1,hx108_2⟩:=at_T51 HR0_2.out x9_1 p108 q108;cases e108;replace hx108_0:=hcell HB.out hx108_0;replace hx108_1:=hcell HB.out hx108_1;replace hx108_2:=hcell HB.out hx108_2;replace p108:=eq_true p108;replace q108:=eq_true q108)|(go_at_call 69;(with_reducible refine(d7_in.calls (rd l1 x9_1) 0 ((rd_T51 l0_2 x9_1).f1) true _ A10.out).mono ?_);rintro e w' ⟨rfl,⟨nd,rfl⟩⟩))
      go_roundg k1
      case measure=>have:=HK1.out;omega
      case rel=>exact⟨(wrap64 (x9_1+1)),u0,H',⟨by have:=HK1.out;omega⟩,⟨uK BK105.out⟩,⟨uB⟩⟩
     ·replace c11:=Bool.eq_false_iff.mpr c11;subst c11;have H1:(some false)=some r:=by rw[if_neg (show ¬(false=true) by decide)] at H;exact H
      clear H;have H:=H1;clear H1;obtain rfl:=Option.some.inj H;have p106:0≤(x9_1:Int):=uD;have q106:x9_1<(l1.length:Int):=uD;obtain⟨ad106,e106,hx106_0⟩:=Kd.at_int HR1.out x9_1 p106 q106
      cases e106
      replace hx106_0:=hcell HB.out hx106_0;replace p106:=eq_true p106;replace q106:=eq_true q106;obtain⟨hcz15_0,hcz15_1,hcz15_2⟩:=cz3 BK105.out;obtain⟨hfz15_0,hfz15_1,hfz15_2⟩:=fz3 BK105.out
      go_wp2_with (first|((with_reducible refine gate_callee (f:=60) rfl ?_);refine goesL_ (some 16) rfl rfl Tryz.func60 (by kernel_rfl) rfl #[.agg #[.int .i64 a0_0,.slice A0_1 l0_1.length c0_1,.slice A0_2 l0_2.length c0_2],.int .i64 x9_1] rfl uM ?_;(with_reducible refine(d7_isOutlet.calls a0_0 _ _ l0_1 _ _ l0_2 x9_1 true _ ?side1 ?side2 ?side3 ?side4 A7.out).mono ?_);(case side1=>exact uY HR0_1 HB);(case side2=>exact HC0_1.out);(case side3=>exact uY HR0_2 HB);(case side4=>exact HC0_2.out);rintro e w16 ⟨rfl,hb⟩;refine⟨_,rfl,?_⟩;replace BK105:=aM (blk_below (uK BK105.out) hb);replace HB:=aM (below_step uB hb);(try clear hb);obtain⟨hcz17_0,hcz17_1,hcz17_2⟩:=cz3 BK105.out;obtain⟨hfz17_0,hfz17_1,hfz17_2⟩:=fz3 BK105.out;have p108:0≤(x9_1:Int):=uD;have q108:x9_1<(l0_2.length:Int):=uD;obtain⟨ad108,e108,hx108_0,hx108_1,hx108_2⟩:=at_T51 HR0_2.out x9_1 p108 q108;cases e108;replace hx108_0:=hcell HB.out hx108_0;replace hx108_1:=hcell HB.out hx108_1;replace hx108_2:=hcell HB.out hx108_2;replace p108:=eq_true p108;replace q108:=eq_true q108)|(go_at_call 69;(with_reducible refine(d7_in.calls (rd l1 x9_1) 0 ((rd_T51 l0_2 x9_1).f1) false _ A10.out).mono ?_);rintro e w' ⟨rfl,⟨nd,rfl⟩⟩))
      go_ret;exact⟨uE,uB⟩
    ·replace c8:=Bool.eq_false_iff.mpr c8;subst c8;have H1:(some false)=some r:=by rw[if_neg (show ¬(false=true) by decide)] at H;exact H
     clear H;have H:=H1;clear H1;obtain rfl:=Option.some.inj H;have p106:0≤(x9_1:Int):=uD;have q106:x9_1<(l1.length:Int):=uD;obtain⟨ad106,e106,hx106_0⟩:=Kd.at_int HR1.out x9_1 p106 q106
     cases e106
     replace hx106_0:=hcell HB.out hx106_0;replace p106:=eq_true p106;replace q106:=eq_true q106;obtain⟨hcz18_0,hcz18_1,hcz18_2⟩:=cz3 BK105.out;obtain⟨hfz18_0,hfz18_1,hfz18_2⟩:=fz3 BK105.out
     go_wp2_with (first|((with_reducible refine gate_callee (f:=60) rfl ?_);refine goesL_ (some 16) rfl rfl Tryz.func60 (by kernel_rfl) rfl #[.agg #[.int .i64 a0_0,.slice A0_1 l0_1.length c0_1,.slice A0_2 l0_2.length c0_2],.int .i64 x9_1] rfl uM ?_;(with_reducible refine(d7_isOutlet.calls a0_0 _ _ l0_1 _ _ l0_2 x9_1 false _ ?side1 ?side2 ?side3 ?side4 A7.out).mono ?_);(case side1=>exact uY HR0_1 HB);(case side2=>exact HC0_1.out);(case side3=>exact uY HR0_2 HB);(case side4=>exact HC0_2.out);rintro e w19 ⟨rfl,hb⟩;refine⟨_,rfl,?_⟩;replace BK105:=aM (blk_below (uK BK105.out) hb);replace HB:=aM (below_step uB hb);(try clear hb)))
     go_ret;exact⟨uE,uB⟩
   ·rw[if_neg c4] at H;replace c4:=decide_eq_false c4;obtain rfl:=Option.some.inj H;obtain⟨hcz20_0,hcz20_1,hcz20_2⟩:=cz3 BK105.out;obtain⟨hfz20_0,hfz20_1,hfz20_2⟩:=fz3 BK105.out;go_wp2;go_ret;exact⟨uE,uB⟩
end Go.Proofs.YtjioobfeikbffabGreatDoor.K
end
section
namespace Go.Proofs.YtjioobfeikbffabGreatDoor.K
open Go.RowKit Go.Shelf Go.Proofs.Zw Go.Proofs.Zl Go.Proofs.Zm
theorem inD_f (x lo hi:Int):d7_in.f x lo hi=some (decide (lo≤x)&&decide (x≤hi)):=by
  unfold d7_in.f
  by_cases h:x≥lo
  · rw[if_pos h,show decide (lo≤x)=true from decide_eq_true h];rfl
  · rw[if_neg h,show decide (lo≤x)=false from decide_eq_false h];rfl
theorem isOutlet_f (I:Int) (N:List SN) (O:List SO) (hl:O.length≤1000000) (n:Int):d7_isOutlet.f I N O n=some (decide (0≤n)&&decide (n≤(O.length:Int)-1)):=by
  unfold d7_isOutlet.f;rw[IntWalk.wrap64_in _ (by omega),inD_f];rfl
theorem areShares_from (I:Int) (N:List SN) (O:List SO) (l:List Int) (hl:l.length≤1000) (ho:O.length≤1000):∀(d j K:Nat),j+d=l.length->d<K->(∀ i:Nat,i<j->(i:Int)<O.length∧0≤rd l i∧rd l i≤(rdO O i).f1)->
    d7_areShares.l0 K l l (l.length:Int) (j:Int) I N O=some (areB O l)
  |0,j,K+1,hj,hK,h=>by
    rw[d7_areShares.l0,if_neg (by omega)];have hjl:j=l.length:=by omega
    congr 1
    unfold areB
    have hall:((List.range l.length).all fun i=>decide (0≤rd l i)&&decide (rd l i≤(rdO O i).f1))=true:=by
      rw[List.all_eq_true];intro i hi;have:=h i (by rw[hjl];exact List.mem_range.1 hi);simp[this.2.1,this.2.2]
    rw[hall,Bool.and_true];rw[Bool.eq_iff_iff];simp
    omega
  |d+1,j,K+1,hj,hK,h=>by
    rw[d7_areShares.l0,if_pos (by omega),if_pos (by omega),if_pos (by omega),isOutlet_f I N O (by omega),Option.bind_some]
    by_cases h1:(j:Int)<O.length
    · rw[show (decide ((0:Int)≤(j:Int))&&decide ((j:Int)≤(O.length:Int)-1))=true by simp;omega,if_pos rfl,if_pos h1,inD_f,Option.bind_some]
      by_cases h2:0≤rd l j∧rd l j≤(rdO O j).f1
      · rw[show (decide (0≤rd l (j:Int))&&decide (rd l (j:Int)≤(rd_T51 O (j:Int)).f1))=true by simp;exact h2,if_pos rfl,IntWalk.wrap64_in _ (by omega)]
        exact areShares_from I N O l hl ho d (j+1) K (by omega) (by omega) (fun i hi=>by
          by_cases e:i=j
          · subst e;exact⟨h1,h2⟩
          · exact h i (by omega))
      · rw[show (decide (0≤rd l (j:Int))&&decide (rd l (j:Int)≤(rd_T51 O (j:Int)).f1))=false by
          rw[Bool.and_eq_false_iff,decide_eq_false_iff_not,decide_eq_false_iff_not]
          by_cases h3:0≤rd l (j:Int)
          · exact .inr (fun h4=>h2 ⟨h3,h4⟩)
          · exact .inl h3,if_neg (by simp)]
        congr 1
        refine(Bool.eq_false_iff.2 (fun ha=>h2 ?_)).symm;simp only[areB,Bool.and_eq_true,decide_eq_true_eq,List.all_eq_true,List.mem_range] at ha;exact ha.2 j (by omega)
    · rw[show (decide ((0:Int)≤(j:Int))&&decide ((j:Int)≤(O.length:Int)-1))=false by simp;omega,if_neg (by simp)]
      congr 1
      refine(Bool.eq_false_iff.2 (fun ha=>?_)).symm;simp only[areB,Bool.and_eq_true,decide_eq_true_eq] at ha
      omega
theorem areShares_f (I:Int) (N:List SN) (O:List SO) (l:List Int) (hl:l.length≤1000) (ho:O.length≤1000) (K:Nat) (hK:l.length<K):d7_areShares.f K I N O l=some (areB O l):=
  areShares_from I N O l hl ho l.length 0 K (by omega) hK (fun i hi=>by omega)
structure RsW (I:Int) (A1 A2:Option Addr) (n1 n2 c1 c2 m:Nat) (T0 X0 g base:Nat) (s:List Int) (W:World):Prop where
  t:W.heap[T0]? =some (.cells #[.int .i64 I,.slice A1 n1 c1,.slice A2 n2 c2] 25 (0,0))
  x:W.heap[X0]? =some (.cells #[.int .i64 I,.slice A1 n1 c1,.slice A2 n2 c2,.slice (some ⟨g,0,none⟩) m m] 93 (0,0))
  row:OwnI W base (.slice (some ⟨g,0,none⟩) m m) s
  ne:T0≠g∧X0≠g
theorem RsW.kb {I:Int} {A1 A2:Option Addr} {n1 n2 c1 c2 m T0 X0 g base:Nat} {s:List Int} {W W1:World} {M:Nat->Prop} (h:RsW I A1 A2 n1 n2 c1 c2 m T0 X0 g base s W) (hk:KB M W W1) (hM:∀k,M k->k≠T0∧k≠X0∧k≠g):RsW I A1 A2 n1 n2 c1 c2 m T0 X0 g base s W1 where
  t:=hk.at h.t (fun e=>(hM _ e).1 rfl)
  x:=hk.at h.x (fun e=>(hM _ e).2.1 rfl)
  row:=h.row.kb hk (fun k e hm=>(hM k hm).2.2 (Option.some.inj e).symm)
  ne:=h.ne
theorem RsW.below {I:Int} {A1 A2:Option Addr} {n1 n2 c1 c2 m T0 X0 g base:Nat} {s:List Int} {W W1:World} (h:RsW I A1 A2 n1 n2 c1 c2 m T0 X0 g base s W) (hb:Below W.heap.size W W1):RsW I A1 A2 n1 n2 c1 c2 m T0 X0 g base s W1:=h.kb (KB.of_below (M:=fun _=>False) hb) (fun _ h=>h.elim)
theorem RsW.put {I:Int} {A1 A2:Option Addr} {n1 n2 c1 c2 m T0 X0 g base:Nat} {s:List Int} {W:World} (h:RsW I A1 A2 n1 n2 c1 c2 m T0 X0 g base s W) (i x:Int):RsW I A1 A2 n1 n2 c1 c2 m T0 X0 g base (s.set i.toNat x) (W.setCell ⟨g,i.toNat,none⟩ (.int .i64 x)):=by
  have hg:=grown_setP W ⟨g,i.toNat,none⟩ (.int .i64 x);exact⟨blk_grown h.t hg (fun e=>h.ne.1 (Option.some.inj e)),blk_grown h.x hg (fun e=>h.ne.2 (Option.some.inj e)),Kd.R_putn h.row i x,h.ne⟩
theorem raise_back {s:List Int} {i:Int} (h0:0≤i) (h1:i<s.length):(raiseL s i).set i.toNat (rd s i)=s:=by
  unfold raiseL;rw[List.set_set];have:i.toNat<s.length:=by omega
  have e:rd s i=s[i.toNat]:=by simp[rd,List.getD,List.getElem?_eq_getElem this]
  rw[e,List.set_getElem_self]
def RaisePost (I:Int) (A1 A2:Option Addr) (c1 c2 m T0 X0 g base:Nat) (N:List SN) (O:List SO) (s:List Int) (b:Bool) (s':List Int) (w:World) (e:Ending) (w':World):Prop:=
  e=.returned (.bool b)∧RsW I A1 A2 N.length O.length c1 c2 m T0 X0 g base s' w'∧KB (fun k=>k=g) w w'
def raisedF (I:Int) (N:List SN) (O:List SO) (s:List Int) (i:Int):List Int:=if mayB I N O s i=true then raiseL s i else s
set_option maxRecDepth 100000 in
set_option maxHeartbeats 1000000 in
theorem raise_any {w:World} {I:Int} {A1 A2:Option Addr} {c1 c2 m T0 X0 g base:Nat} {N:List SN} {O:List SO} {s:List Int} {i:Int} (h:TrW w I A1 A2 c1 c2 N O) (hk:∀W,KB (fun k=>k=g) w W->TrW W I A1 A2 c1 c2 N O) (hr:RsW I A1 A2 N.length O.length c1 c2 m T0 X0 g base s w) (hs:areB O s=true) (hm:m=O.length) (i0:0≤i) (i1:i<O.length):
    Calls Tryz.prog 123 #[.int .i64 i,.pointer (some ⟨X0,0,none⟩),.pointer (some ⟨T0,0,none⟩)] w (RaisePost I A1 A2 c1 c2 m T0 X0 g base N O s (mayB I N O s i) (raisedF I N O s i) w):=by
  have hu1:=Tryz.underlying25;have hu2:=Tryz.underlying93;subst hm;have hsm:=small_ok (small_are h.o hs);have hsl:s.length=O.length:=hsm.1;have hsi:=hsm.2 i.toNat (by omega);rw[Int.toNat_of_nonneg i0] at hsi;have hlen:(raiseL s i).length=O.length:=by simp[raiseL,hsl]
  have hol:=h.ol;have y1:w.cell? ⟨X0,3,none⟩=some (.slice (some ⟨g,0,none⟩) O.length O.length):=(blk_cell hr.x 3).trans rfl;have hil:i<(O.length:Int):=by omega
  obtain⟨y2,y2f⟩:=Kd.R_celln (0:Int) hr.row i i0 hil;obtain⟨si,hsi'⟩:∃si,rd s i=si:=⟨_,rfl⟩;replace y2:w.cell? ⟨g,i.toNat,none⟩=some (.int .i64 si):=by rw[← hsi'];exact y2
  rw[hsi'] at hsi
  
  have hW1:=hr.put i (si+1);have hkb1:KB (fun k=>k=g) w (w.setCell ⟨g,i.toNat,none⟩ (.int .i64 (si+1))):=KB.setCell _ _ _ rfl;have hraise:s.set i.toNat (si+1)=raiseL s i:=by rw[← hsi'];rfl
  rw[hraise] at hW1;obtain⟨W1,hW1e⟩:∃W1,w.setCell ⟨g,i.toNat,none⟩ (.int .i64 (si+1))=W1:=⟨_,rfl⟩;rw[hW1e] at hW1 hkb1;have hT1:=hk W1 hkb1;have hR1:=hW1
  
  have HCA:Aside0 (∀ W,Below W1.heap.size W1 W->Calls Tryz.prog 66 #[.agg #[.int .i64 I,.slice A1 N.length c1,.slice A2 O.length c2],.slice (some ⟨g,0,none⟩) O.length O.length] W fun e w'=>e=.returned (.bool (areB O (raiseL s i)))∧Below W.heap.size W w'):=⟨fun W hW=>by
    have ht:=hT1.below hW;have hR:=(hR1.below hW).row;obtain⟨_,_,e,hl,hC⟩:=Kd.R_reads hR;rw[hlen] at e hl hC;have:=d7_areShares.calls 2000 I A1 c1 N A2 c2 O (some ⟨g,0,none⟩) O.length (raiseL s i) _ W ht.r1 ht.l1 ht.r2 ht.l2 (by rw[hlen];cases e;exact hC) (by omega) (areShares_f I N O (raiseL s i) (by omega) hol 2000 (by omega));rw[hlen] at this
    exact this⟩
  have HCF:Aside0 (areB O (raiseL s i)=true->∀W,Below W1.heap.size W1 W->Calls Tryz.prog 67 #[.agg #[.int .i64 I,.slice A1 N.length c1,.slice A2 O.length c2],.slice (some ⟨g,0,none⟩) O.length O.length] W fun e w'=>e=.returned (.bool (fitsB I N O (raiseL s i)))∧Below W.heap.size W w'):=⟨fun ha W hW=>by
    have ht:=hT1.below hW;have hR:=(hR1.below hW).row;obtain⟨_,_,e,hl,hC⟩:=Kd.R_reads hR;rw[hlen] at e hl hC;have hs2:=small_ok (small_are h.o ha);have:=fits_any (As:=some ⟨g,0,none⟩) (cs:=O.length) ht (s:=raiseL s i) ⟨hs2.1,hs2.2,by rw[hlen];cases e;exact hC,by omega⟩;rw[hlen] at this
    exact this⟩
  have z1:W1.cell? ⟨T0,0,none⟩=some (.int .i64 I):=(blk_cell hR1.t 0).trans rfl;have z2:W1.cell? ⟨T0,1,none⟩=some (.slice A1 N.length c1):=(blk_cell hR1.t 1).trans rfl;have z3:W1.cell? ⟨T0,2,none⟩=some (.slice A2 O.length c2):=(blk_cell hR1.t 2).trans rfl;have z4:W1.cell? ⟨X0,3,none⟩=some (.slice (some ⟨g,0,none⟩) O.length O.length):=(blk_cell hR1.x 3).trans rfl;have HR1:=aM hR1;have HKB:=aM hkb1;have HM:Aside0 (mayB I N O s i=(areB O (raiseL s i)&&fitsB I N O (raiseL s i))):=⟨rfl⟩;have HBK:Aside0 ((raiseL s i).set i.toNat si=s):=⟨by rw[← hsi'];exact raise_back i0 (by omega)⟩
  have HLR:Aside0 (rd (raiseL s i) i=si+1):=⟨by
    rw[← hraise];have:i.toNat<s.length:=by omega
    simp[rd,List.getD,this]⟩
  have HIL:=aM hil;have q1:=eq_true i0;have q2:=eq_true hil;clear h hk hs hsm hlen hraise hW1 hkb1 hT1 hsi' hsl
  go_enter Tryz.func123,Tryz.ntmps123
  go_upto_region 2 with(fail)
  (try rw[hW1e]);clear y1 y2 y2f hW1e hr
  
  have HNO:Aside0 (∀ W,Below W1.heap.size W1 W->mayB I N O s i=false->W.cell? ⟨X0,3,none⟩=some (.slice (some ⟨g,0,none⟩) O.length O.length)∧W.cell? ⟨g,i.toNat,none⟩=some (.int .i64 (si+1))∧W.frozen? ⟨g,i.toNat,none⟩=false∧
      RaisePost I A1 A2 c1 c2 O.length T0 X0 g base N O s (mayB I N O s i) (raisedF I N O s i) w (.returned (.bool false)) (W.setCell ⟨g,i.toNat,none⟩ (.int .i64 si))):=⟨fun W hW hno=>by
    have hRW:=HR1.out.below hW;obtain⟨hc,hf⟩:=Kd.R_celln (0:Int) hRW.row i i0 HIL.out;refine⟨(blk_cell hRW.x 3).trans rfl,?_,hf,?_⟩
    · rw[hc];show some (Value.int .i64 (rd (raiseL s i) i))=_;rw[HLR.out]
    · have hp:=hRW.put i si;rw[HBK.out] at hp;unfold RaisePost raisedF;rw[hno,if_neg (by simp)]
      exact⟨rfl,hp,(HKB.out.trans (KB.of_below hW)).trans (KB.setCell _ _ _ rfl)⟩⟩
  have HYES:Aside0 (∀ W,Below W1.heap.size W1 W->mayB I N O s i=true->RaisePost I A1 A2 c1 c2 O.length T0 X0 g base N O s (mayB I N O s i) (raisedF I N O s i) w (.returned (.bool true)) W):=⟨fun W hW hy=>by
    unfold RaisePost raisedF;rw[hy,if_pos rfl]
    exact⟨rfl,HR1.out.below hW,HKB.out.trans (KB.of_below hW)⟩⟩
  have HZ:Aside0 (∀ W,Below W1.heap.size W1 W->W.cell? ⟨T0,0,none⟩=some (.int .i64 I)∧W.cell? ⟨T0,1,none⟩=some (.slice A1 N.length c1)∧W.cell? ⟨T0,2,none⟩=some (.slice A2 O.length c2)∧W.cell? ⟨X0,3,none⟩=some (.slice (some ⟨g,0,none⟩) O.length O.length)):=⟨fun W hW=>by
    have hRW:=HR1.out.below hW
    exact⟨(blk_cell hRW.t 0).trans rfl,(blk_cell hRW.t 1).trans rfl,(blk_cell hRW.t 2).trans rfl,(blk_cell hRW.x 3).trans rfl⟩⟩
  have hcase:areB O (raiseL s i)=false∨(areB O (raiseL s i)=true∧fitsB I N O (raiseL s i)=false)∨(areB O (raiseL s i)=true∧fitsB I N O (raiseL s i)=true):=by
    cases areB O (raiseL s i)<;>cases fitsB I N O (raiseL s i)<;>simp
  rcases hcase with h1|⟨h1,h2⟩|⟨h1,h2⟩
  · have hno:mayB I N O s i=false:=by rw[HM.out,h1];rfl
    rw[h1] at HCA;have HN:=aM hno;clear HCF h1 hno
    go_wp2_with fail
    refine(HCA.out _ (Below.refl _ _)).mono ?_;rintro e w2 ⟨rfl,hb2⟩;obtain⟨x1,x2,x3,HP⟩:=HNO.out w2 hb2 HN.out;have HP:=aM HP;clear z1 z2 z3 z4 hb2;go_wp2;go_ret;exact HP.out
  · have hno:mayB I N O s i=false:=by rw[HM.out,h1,h2];rfl
    have HCF2:=aM (HCF.out h1);rw[h1] at HCA;rw[h2] at HCF2;have HN:=aM hno;clear HCF h1 h2 hno
    go_wp2_with fail
    refine(HCA.out _ (Below.refl _ _)).mono ?_;rintro e w2 ⟨rfl,hb2⟩;obtain⟨u1,u2,u3,u4⟩:=HZ.out w2 hb2;have HB2:=aM hb2;clear z1 z2 z3 z4 hb2
    go_wp2_with fail
    refine(HCF2.out _ HB2.out).mono ?_;rintro e w3 ⟨rfl,hb3⟩;obtain⟨x1,x2,x3,HP⟩:=HNO.out w3 (below_step HB2.out hb3) HN.out;have HP:=aM HP;clear u1 u2 u3 u4 hb3;go_wp2;go_ret;exact HP.out
  · have hy:mayB I N O s i=true:=by rw[HM.out,h1,h2];rfl
    have HCF2:=aM (HCF.out h1);rw[h1] at HCA;rw[h2] at HCF2;have HN:=aM hy;clear HCF h1 h2 hy
    go_wp2_with fail
    refine(HCA.out _ (Below.refl _ _)).mono ?_;rintro e w2 ⟨rfl,hb2⟩;obtain⟨u1,u2,u3,u4⟩:=HZ.out w2 hb2;have HB2:=aM hb2;clear z1 z2 z3 z4 hb2
    go_wp2_with fail
    refine(HCF2.out _ HB2.out).mono ?_;rintro e w3 ⟨rfl,hb3⟩;have HP:=aM (HYES.out w3 (below_step HB2.out hb3) HN.out);clear u1 u2 u3 u4 hb3;go_wp2;go_ret;exact HP.out
end Go.Proofs.YtjioobfeikbffabGreatDoor.K
end
section
namespace Go.Proofs.YtjioobfeikbffabGreatDoor.K.Dr
def tot:Nat->(Nat->Int)->Int
  |0,_=>0
  |m+1,f=>tot m f+f m
structure Net where
  m:Nat
  N:Nat
  bel:Nat->Nat->Bool
  cap:Nat->Int
  claim:Nat->Int
  
  rk:Nat->Int
variable (T:Net)
def Net.S (s:Nat->Int) (n:Nat):Int:=tot T.m fun i=>if T.bel i n then s i else 0
def Net.Fits (s:Nat->Int):Prop:=∀n,n≤T.N->T.S s n≤T.cap n
def up (s:Nat->Int) (i:Nat):Nat->Int:=fun j=>if j=i then s i+1 else s j
def Net.Bound (s:Nat->Int) (j:Nat):Prop:=
  ∃n,n≤T.N∧T.bel j n=true∧T.S s n=T.cap n∧∀i,i<T.m->T.bel i n=true->(T.rk j<T.rk i->s i=0)∧(T.rk i=T.rk j->s i≤s j+1)
structure Net.Done (s:Nat->Int):Prop where
  fits:T.Fits s
  lo:∀i,i<T.m->0≤s i
  hi:∀i,i<T.m->s i≤T.claim i
  bound:∀i,i<T.m->s i=T.claim i∨T.Bound s i
theorem up_at (s:Nat->Int) (i:Nat):up s i i=s i+1:=by simp[up]
theorem up_ne (s:Nat->Int) {i j:Nat} (h:j≠i):up s i j=s j:=by simp[up,h]
structure Ok (T:Net) (s:Nat->Int):Prop where
  fits:T.Fits s
  lo:∀i,i<T.m->0≤s i
  hi:∀i,i<T.m->s i≤T.claim i
def Net.Stop (T:Net) (s:Nat->Int) (j:Nat):Prop:=s j=T.claim j∨T.Bound s j
structure Mid (T:Net) (c:Int) (r:Int) (k:Nat) (s:Nat->Int):Prop where
  ok:Ok T s
  late:∀j,j<T.m->c<T.rk j->s j=0
  le:∀j,j<T.m->T.rk j=c->s j≤if j<k then r+1 else r
  act:∀j,j<T.m->T.rk j=c->(s j=if j<k then r+1 else r)∨T.Stop s j
structure Part (T:Net) (C:Nat) (s:Nat->Int):Prop where
  ok:Ok T s
  late:∀j,j<T.m->(C:Int)≤T.rk j->s j=0
  stop:∀j,j<T.m->T.rk j<(C:Int)->T.Stop s j
def upto (T:Net) (c:Int) (s:Nat->Int):Nat->Int:=fun i=>if T.rk i≤c then s i else 0
end Go.Proofs.YtjioobfeikbffabGreatDoor.K.Dr
end
section
namespace Go.Proofs.YtjioobfeikbffabGreatDoor.K
open Go.RowKit Go.Proofs.Zw Go.Proofs.Zl Go.Proofs.Zm
open Go.Proofs.YtjioobfeikbffabGreatDoor.K
namespace Dr
def fn (s:List Int):Nat->Int:=fun i=>rd s i
theorem rd_nat (s:List Int) (i:Nat):rd s i=s.getD i 0:=by simp[rd]
theorem are_iff {O:List SO} {s:List Int}:areB O s=true↔s.length=O.length∧∀i:Nat,i<O.length->0≤rd s i∧rd s i≤(rdO O i).f1:=by
  unfold areB;rw[Bool.and_eq_true,decide_eq_true_eq,List.all_eq_true]
  constructor
  · rintro⟨h1,h2⟩;refine⟨h1,fun i hi=>?_⟩;have:=h2 i (List.mem_range.2 (by omega))
    simpa using this
  · rintro⟨h1,h2⟩;refine⟨h1,fun i hi=>?_⟩;have:=h2 i (by have:=List.mem_range.1 hi;omega)
    simpa using this
theorem fn_raise {s:List Int} {i:Nat} (hi:i<s.length):fn (raiseL s i)=up (fn s) i:=by
  funext j
  unfold fn raiseL up;rw[rd_nat,Int.toNat_natCast,List.getD_eq_getElem?_getD,List.getElem?_set]
  by_cases e:i=j
  · subst e;simp[hi]
  · rw[if_neg e,if_neg (fun h=>e h.symm)]
    show _=rd s j
    rw[rd_nat,List.getD_eq_getElem?_getD]
theorem are_may {I:Int} {N:List SN} {O:List SO} {s:List Int} {i:Int} (h:mayB I N O s i=true):areB O (raiseL s i)=true:=by
  unfold mayB at h;exact(Bool.and_eq_true _ _▸h).1
theorem are_round {I:Int} {N:List SN} {O:List SO} {c:Int} {s:List Int} (hs:areB O s=true) (k:Nat):areB O (roundF I N O c s k).1=true:=by
  induction k with
  |zero=>exact hs
  |succ k ih=>
    unfold roundF
    split
    · split
      · rename_i h;exact are_may h
      · exact ih
    · exact ih
theorem are_rounds {I:Int} {N:List SN} {O:List SO} {c:Int} (f:Nat) {s:List Int} (hs:areB O s=true):areB O (roundsF I N O c f s)=true:=by
  induction f generalizing s with
  |zero=>exact hs
  |succ f ih=>
    unfold roundsF
    split
    · exact ih (are_round hs _)
    · exact are_round hs _
theorem leftTo_raise {O:List SO} {s:List Int} {i:Nat} (hi:i<s.length):∀k:Nat,leftTo O (raiseL s i) k=leftTo O s k-if i<k then 1 else 0
  |0=>by simp[leftTo]
  |k+1=>by
    have h:=congrFun (fn_raise hi) k;simp only[leftTo];rw[leftTo_raise hi k];have e:rd (raiseL s i) k=up (fn s) i k:=h;rw[e]
    by_cases e2:k=i
    · subst e2;rw[up_at,if_neg (by omega),if_pos (by omega)];have e3:fn s k=rd s k:=rfl;rw[e3];omega
    · rw[up_ne _ e2];have e3:fn s k=rd s k:=rfl;rw[e3]
      by_cases h1:i<k
      · rw[if_pos h1,if_pos (by omega)];omega
      · rw[if_neg h1,if_neg (by omega)];omega
theorem leftTo_nonneg {O:List SO} {s:List Int} (h:∀i:Nat,i<O.length->rd s i≤(rdO O i).f1):∀k,k≤O.length->0≤leftTo O s k
  |0,_=>by simp[leftTo]
  |k+1,hk=>by
    have:=leftTo_nonneg h k (by omega);have:=h k (by omega);simp only[leftTo];omega
theorem left_round {I:Int} {N:List SN} {O:List SO} {c:Int} {s:List Int} (hs:areB O s=true) (k:Nat) (hk:k≤O.length):
    leftF O (roundF I N O c s k).1≤leftF O s∧((roundF I N O c s k).2=true->leftF O (roundF I N O c s k).1<leftF O s):=by
  induction k with
  |zero=>exact⟨Nat.le_refl _,by intro h;cases h⟩
  |succ k ih=>
    have ih:=ih (by omega);unfold roundF
    split
    · split
      · rename_i h
        have h1:=are_may h;have h2:=are_round (I:=I) (N:=N) (c:=c) hs k;have l1:=leftTo_raise (O:=O) (s:=(roundF I N O c s k).1) (i:=k) (by rw[(are_iff.1 h2).1];omega) O.length;rw[if_pos (by omega)] at l1;have l2:=leftTo_nonneg (O:=O) (s:=raiseL (roundF I N O c s k).1 k) (fun i hi=>((are_iff.1 h1).2 i hi).2) O.length (Nat.le_refl _)
        have:leftF O (raiseL (roundF I N O c s k).1 k)<leftF O (roundF I N O c s k).1:=by
          unfold leftF;omega
        exact⟨by show leftF O (raiseL _ _)≤_;omega,fun _=>by show leftF O (raiseL _ _)<_;omega⟩
      · exact ih
    · exact ih
theorem rounds_fuel {I:Int} {N:List SN} {O:List SO} {c:Int}:∀(f:Nat) {s:List Int},areB O s=true->leftF O s<f->roundsF I N O c f s=classF I N O c s
  |0,s,_,h=>absurd h (by omega)
  |f+1,s,hs,h=>by
    unfold classF;simp only[roundsF]
    split
    · rename_i hm
      have hl:=(left_round (I:=I) (N:=N) (c:=c) hs O.length (Nat.le_refl _)).2 hm;have ha:=are_round (I:=I) (N:=N) (c:=c) hs O.length;rw[rounds_fuel f ha (by omega)];obtain⟨d,hd⟩:∃d,leftF O s=leftF O (roundF I N O c s O.length).1+1+d:=⟨leftF O s-leftF O (roundF I N O c s O.length).1-1,by omega⟩;rw[hd]
      have:∀(f:Nat) (s:List Int) (d:Nat),areB O s=true->leftF O s<f->roundsF I N O c (f+d) s=roundsF I N O c f s:=by
        intro f
        induction f with
        |zero=>intro s d _ h;omega
        |succ f ih=>
          intro s d hs h;rw[show f+1+d=(f+d)+1 by omega];simp only[roundsF]
          split
          · rename_i hm
            have hl:=(left_round (I:=I) (N:=N) (c:=c) hs O.length (Nat.le_refl _)).2 hm;exact ih _ d (are_round hs _) (by omega)
          · rfl
      exact(this _ _ d ha (by omega)).symm
    · rfl
theorem class_step {I:Int} {N:List SN} {O:List SO} {c:Int} {s:List Int} (hs:areB O s=true):classF I N O c s=if(roundF I N O c s O.length).2=true then classF I N O c (roundF I N O c s O.length).1 else(roundF I N O c s O.length).1:=by
  rw[← rounds_fuel (leftF O s+1) hs (by omega)];simp only[roundsF]
  split
  · rename_i hm
    have hl:=(left_round (I:=I) (N:=N) (c:=c) hs O.length (Nat.le_refl _)).2 hm;exact rounds_fuel _ (are_round hs _) (by omega)
  · rfl
theorem are_class {I:Int} {N:List SN} {O:List SO} {c:Int} {s:List Int} (hs:areB O s=true):areB O (classF I N O c s)=true:=are_rounds _ hs
theorem are_order {I:Int} {N:List SN} {O:List SO}:∀(l:List Int) {s:List Int},areB O s=true->areB O (orderF I N O s l)=true
  |[],_,hs=>hs
  |c::l,_,hs=>are_order l (are_class hs)
theorem zeros_are {m:Nat} {O:List SO} (hO:okO m O=true):areB O (zerosF O.length)=true:=by
  refine are_iff.2 ⟨by simp[zerosF],fun i hi=>?_⟩;have h1:=okO_at hO (show (0:Int)≤(i:Int) by omega) (by omega);have:rd (zerosF O.length) i=0:=by rw[rd_nat];simp[zerosF,List.getD_eq_getElem?_getD,List.getElem?_replicate];split<;>rfl
  rw[this];omega
theorem ordered_are {I:Int} {N:List SN} {O:List SO} {order:List Int} (hO:okO N.length O=true):areB O (orderedF I N O order)=true:=are_order order (zeros_are hO)
variable {I:Int} {N:List SN} {O:List SO}
def tightB (I:Int) (N:List SN) (O:List SO) (s:List Int) (n:Int):Bool:=decide (sumTo N O s n O.length=capF I N n)
def cutB (I:Int) (N:List SN) (O:List SO) (s:List Int) (n:Int):Bool:=(upL N n).all fun a=>tightB I N O s a==(a==n)
def cutF (I:Int) (N:List SN) (O:List SO) (s:List Int):Nat->List Int
  |0=>[]
  |k+1=>if cutB I N O s k=true then cutF I N O s k++[(k:Int)] else cutF I N O s k
end Dr
end Go.Proofs.YtjioobfeikbffabGreatDoor.K
end
section
namespace Go.Proofs.YtjioobfeikbffabGreatDoor.K
open Go.RowKit Go.Shelf Go.Proofs.Zw Go.Proofs.Zl Go.Proofs.Zm
theorem round_succ {I:Int} {N:List SN} {O:List SO} {c:Int} {s:List Int} {i:Nat} (h:(rdO O (i:Int)).f2=c):roundF I N O c s (i+1)=(raisedF I N O (roundF I N O c s i).1 i,(roundF I N O c s i).2||mayB I N O (roundF I N O c s i).1 i):=by
 show(if (rdO O (i:Int)).f2=c then _ else _)=_
 rw[if_pos h];unfold raisedF
 cases hm:mayB I N O (roundF I N O c s i).1 (i:Int) with
 |true=>simp
 |false=>simp
abbrev zero4:Array Value:=#[.int .i64 0,.slice none 0 0,.slice none 0 0,.slice none 0 0]
structure FrW (W0:World) (m g X0:Nat) (W:World):Prop where
 hb:Below W0.heap.size W0 W
 row:OwnI W W0.heap.size (.slice (some ⟨g,0,none⟩) m m) (zerosF m)
 x:W.heap[X0]? =some (.cells zero4 93 (0,0))
 gx:W0.heap.size≤g∧W0.heap.size≤X0∧g≠X0
structure OdW (w:World) (I:Int) (A1 A2:Option Addr) (n1 n2 c1 c2 m g X0:Nat) (s:List Int) (W:World):Prop where
 hb:Below w.heap.size w W
 r:W.heap[w.heap.size+1]? =some (.cells zero4 93 (0,0))
 rs:RsW I A1 A2 n1 n2 c1 c2 m w.heap.size X0 g (w.heap.size+2) s W
 gx:w.heap.size+2≤g∧w.heap.size+2≤X0
theorem OdW.below {w:World} {I:Int} {A1 A2:Option Addr} {n1 n2 c1 c2 m g X0:Nat} {s:List Int} {W W1:World} (h:OdW w I A1 A2 n1 n2 c1 c2 m g X0 s W) (hb:Below W.heap.size W W1):OdW w I A1 A2 n1 n2 c1 c2 m g X0 s W1:=
 ⟨below_step h.hb hb,blk_below h.r hb,h.rs.below hb,h.gx⟩
theorem OdW.turn {w:World} {I:Int} {A1 A2:Option Addr} {n1 n2 c1 c2 m g X0:Nat} {s s':List Int} {W W1:World} (h:OdW w I A1 A2 n1 n2 c1 c2 m g X0 s W) (hk:KB (fun k=>k=g) W W1) (hr:RsW I A1 A2 n1 n2 c1 c2 m w.heap.size X0 g (w.heap.size+2) s' W1):OdW w I A1 A2 n1 n2 c1 c2 m g X0 s' W1:=
 ⟨h.hb.trans (hk.below h.hb.size (fun k hk2 e=>by have:=h.gx;omega)),hk.at h.r (fun e=>by have:=h.gx;omega),hr,h.gx⟩
theorem made_cells (m:Nat):∀W:World,OwnI (W.alloc (.cells (madeCells #[Value.int .i64 0] m) 3)) W.heap.size (.slice (some ⟨W.heap.size,0,none⟩) m m) (zerosF m)∨9223372036854775807<m:=fun W=>by
 by_cases h:m≤9223372036854775807
 ·left
  have hr:=own_made W W.heap.size 3 .i64 m (Nat.le_refl _) h;exact Kd.R_of_own (by rw[zerosF,List.length_replicate];exact hr) (fun _ _=>trivial)
 ·right;omega
theorem made_row {m:Nat} (h:m≤9223372036854775807) (W:World):OwnI (W.alloc (.cells (madeCells #[Value.int .i64 0] m) 3)) W.heap.size (.slice (some ⟨W.heap.size,0,none⟩) m m) (zerosF m):=(made_cells m W).resolve_right (by omega)
theorem kb_set4 (W:World) (k:Nat) (a b c d:Value):KB (fun j=>j=k) W ((((W.setCell ⟨k,0,none⟩ a).setCell ⟨k,1,none⟩ b).setCell ⟨k,2,none⟩ c).setCell ⟨k,3,none⟩ d):=
 ((KB.setCell (M:=fun j=>j=k) W ⟨k,0,none⟩ a rfl).trans (KB.setCell (M:=fun j=>j=k) _ ⟨k,1,none⟩ b rfl)).trans ((KB.setCell (M:=fun j=>j=k) _ ⟨k,2,none⟩ c rfl).trans (KB.setCell (M:=fun j=>j=k) _ ⟨k,3,none⟩ d rfl))
theorem blk_set4 {W:World} {k:Nat} (h:W.heap[k]? =some (.cells zero4 93 (0,0))) (a b c d:Value):((((W.setCell ⟨k,0,none⟩ a).setCell ⟨k,1,none⟩ b).setCell ⟨k,2,none⟩ c).setCell ⟨k,3,none⟩ d).heap[k]? =some (.cells #[a,b,c,d] 93 (0,0)):=by
 have:=blk_set (blk_set (blk_set (blk_set h 0 a) 1 b) 2 c) 3 d
 simpa using this
theorem od_start {w W0 W1:World} {I:Int} {A1 A2:Option Addr} {n1 n2 c1 c2 m g X0:Nat} (hB:Below w.heap.size w W0) (hsz:W0.heap.size=w.heap.size+2) (hT:W0.heap[w.heap.size]? =some (.cells #[.int .i64 I,.slice A1 n1 c1,.slice A2 n2 c2] 25 (0,0))) (hR:W0.heap[w.heap.size+1]? =some (.cells zero4 93 (0,0))) (hF:FrW W0 m g X0 W1):
  OdW w I A1 A2 n1 n2 c1 c2 m g X0 (zerosF m) ((((W1.setCell ⟨X0,0,none⟩ (.int .i64 I)).setCell ⟨X0,1,none⟩ (.slice A1 n1 c1)).setCell ⟨X0,2,none⟩ (.slice A2 n2 c2)).setCell ⟨X0,3,none⟩ (.slice (some ⟨g,0,none⟩) m m)):=by
 have hkb:=kb_set4 W1 X0 (.int .i64 I) (.slice A1 n1 c1) (.slice A2 n2 c2) (.slice (some ⟨g,0,none⟩) m m);have hgx:=hF.gx
 exact {
  hb:=(hB.trans (hF.hb.mono (by omega))).trans (hkb.below (Nat.le_trans hB.size hF.hb.size) (fun k hk e=>by omega))
  r:=hkb.at (blk_below hR hF.hb) (fun e=>by omega)
  rs:={
   t:=hkb.at (blk_below hT hF.hb) (fun e=>by omega)
   x:=blk_set4 hF.x _ _ _ _
   row:=by
    have:=hF.row.kb hkb (fun k e hk=>hgx.2.2 ((Option.some.inj e).trans hk))
    rwa [hsz] at this
   ne:=⟨by omega,fun e=>hgx.2.2 e.symm⟩}
  gx:=⟨by omega,by omega⟩}
def OrdPost (I:Int) (A1 A2:Option Addr) (n1 n2 c1 c2:Nat) (s:List Int) (w:World) (e:Ending) (w':World):Prop:=
 ∃v,e=.returned (.agg #[.int .i64 I,.slice A1 n1 c1,.slice A2 n2 c2,v])∧OwnI w' w.heap.size v s∧Below w.heap.size w w'
set_option maxRecDepth 100000 in
set_option maxHeartbeats 2000000 in
theorem ordered_any {w:World} {I:Int} {A1 A2 Ao:Option Addr} {c1 c2 co:Nat} {N:List SN} {O:List SO} {order:List Int} (h:TrW w I A1 A2 c1 c2 N O) (hol:order.length≤1000) (hro:Kd.C (Kd.int .i64) w Ao order.length order):
  Calls Tryz.prog 87 #[.agg #[.int .i64 I,.slice A1 N.length c1,.slice A2 O.length c2],.slice Ao order.length co] w (OrdPost I A1 A2 N.length O.length c1 c2 (orderedF I N O order) w):=by
 have hu1:=Tryz.underlying25;have hu2:=Tryz.underlying93;have hu3:=Tryz.underlying51;have hmf:∀(fn:Fn) (first cap:Array Value) (w:World),(Instr.makeFunc fn first cap).run Tryz.prog w=.ok (.func fn first cap) w:=fun _ _ _ _=>rfl;have hol2:=h.ol;have hmk:=print_make (P:=Tryz.prog) 30 3 .i64 8 Tryz.underlying30 info3 (by omega) O.length (by omega);have H:=aM h;have HRO:=aM hro;have hmix:Tryz.prog.follows .mixedOrders=true:=by kernel_rfl
 clear h hro
 go_enter Tryz.func87,Tryz.ntmps87
 go_upto_region 1 with(fail)
 generalize hW0:World.alloc (World.alloc w _) _=W0;have HB0:Aside0 (Below w.heap.size w W0∧W0.heap.size=w.heap.size+2):=⟨by rw[← hW0];exact⟨((Below.refl _ _).alloc (Nat.le_refl _) _).alloc (by simp) _,by simp⟩⟩;have HT0:Aside0 (W0.heap[w.heap.size]? =some (.cells #[.int .i64 I,.slice A1 N.length c1,.slice A2 O.length c2] 25 (0,0))):=⟨by rw[← hW0];exact blk_alloc (blk_new _ _) _⟩
 have HR0:Aside0 (W0.heap[w.heap.size+1]? =some (.cells zero4 93 (0,0))):=⟨by
  rw[← hW0];have:=blk_new (w.alloc (.cells #[.int .i64 I,.slice A1 N.length c1,.slice A2 O.length c2] 25)) (.cells zero4 93)
  rwa [World.size_alloc] at this⟩
 clear hW0;have hT0:=HT0.out;have y0:W0.cell? ⟨w.heap.size,0,none⟩=some (.int .i64 I):=(blk_cell hT0 0).trans rfl;have y1:W0.cell? ⟨w.heap.size,1,none⟩=some (.slice A1 N.length c1):=(blk_cell hT0 1).trans rfl;have y2:W0.cell? ⟨w.heap.size,2,none⟩=some (.slice A2 O.length c2):=(blk_cell hT0 2).trans rfl;clear hT0;go_wp2;refine start_ (n:=8) (S:=fun w'=>w'.cell? ⟨w.heap.size,0,none⟩=some (.int .i64 I)∧w'.cell? ⟨w.heap.size,1,none⟩=some (.slice A1 N.length c1)∧w'.cell? ⟨w.heap.size,2,none⟩=some (.slice A2 O.length c2)) (ds:=[7]) (bl 8 0) hmix rfl rfl ⟨y0,y1,y2⟩ (fun hHeld=>?_);refine take_ (i:=0) (N:=(some 13)) (v:=?_) (a':=?_) (bl 8 1) rfl rfl (by kernel_rfl) (fun _ _ _ h=>h) (Or.inl ⟨by rfl,?_⟩) hHeld ?_ ?_;rotate_left
 ·rintro w' ⟨s0,s1,s2⟩
  go_simp
  with_reducible rfl
 rotate_left
 ·simp only[Act.put,List.setIfInBounds_toArray,List.set_cons_zero,List.set_cons_succ,i64_w,i32_w]
  rfl
 refine pure_ (i:=1) (N:=(some 14)) (v:=?_) (a':=?_) (bl 8 3) rfl rfl (by kernel_rfl) (fun _ _ _ h=>h) (Or.inl ⟨by rfl,?_⟩) ?_ ?_;rotate_left
 ·intro w'
  go_simp
  with_reducible rfl
 rotate_left
 ·simp only[Act.put,List.setIfInBounds_toArray,List.set_cons_zero,List.set_cons_succ,i64_w,i32_w]
  rfl
 refine take_ (i:=2) (N:=(some 15)) (v:=?_) (a':=?_) (bl 8 7) rfl rfl (by kernel_rfl) (fun _ _ _ h=>h) (Or.inl ⟨by rfl,?_⟩) hHeld ?_ ?_;rotate_left
 ·rintro w' ⟨s0,s1,s2⟩
  go_simp
  with_reducible rfl
 rotate_left
 ·simp only[Act.put,List.setIfInBounds_toArray,List.set_cons_zero,List.set_cons_succ,i64_w,i32_w]
  rfl
 refine pure_ (i:=3) (N:=(some 16)) (v:=?_) (a':=?_) (bl 8 15) rfl rfl (by kernel_rfl) (fun _ _ _ h=>h) (Or.inl ⟨by rfl,?_⟩) ?_ ?_;rotate_left
 ·intro w'
  go_simp
  with_reducible rfl
 rotate_left
 ·simp only[Act.put,List.setIfInBounds_toArray,List.set_cons_zero,List.set_cons_succ,i64_w,i32_w]
  rfl
 refine join_ (σ:=Nat×Nat) 1 (bl 8 127) (fun p=>[(17,.slice (some ⟨p.1,0,none⟩) O.length O.length),(18,.agg #[.int .i64 I,.slice A1 N.length c1,.slice A2 O.length c2,.slice (some ⟨p.1,0,none⟩) O.length O.length]),(5,.pointer (some ⟨p.2,0,none⟩))]) (fun p W=>FrW W0 O.length p.1 p.2 W) ?cont ?h
 case h=>
  intro hj;have hbd:Below W0.heap.size W0 W0.drew:=below_drew1 (Below.refl _ _);have hSd:∀W,Below W0.heap.size W0 W->W.cell? ⟨w.heap.size,0,none⟩=some (.int .i64 I)∧W.cell? ⟨w.heap.size,1,none⟩=some (.slice A1 N.length c1)∧W.cell? ⟨w.heap.size,2,none⟩=some (.slice A2 O.length c2):=fun W hb=>⟨(hb.cell (World.block_lt_of_cell? _ _ y0)).trans y0,(hb.cell (World.block_lt_of_cell? _ _ y1)).trans y1,(hb.cell (World.block_lt_of_cell? _ _ y2)).trans y2⟩;have e0:W0.drew.heap.size=W0.heap.size:=rfl;refine two_ (i:=4) (j:=6) (Ni:=some 17) (Nj:=some 5) (bl 8 31) (bl 8 79) rfl rfl rfl rfl (by kernel_rfl) (by decide) (by decide) (fun K hK=>?_) (fun K hK=>?_)
  ·have hb1:=hbd.alloc hbd.size (.cells (madeCells #[Value.int .i64 0] O.length) 3);refine value_ (v:=.slice (some ⟨W0.drew.heap.size,0,none⟩) O.length O.length) (w1:=W0.drew.alloc (.cells (madeCells #[Value.int .i64 0] O.length) 3)) (by rfl) rfl ?_ ?_
   ·go_simp
   refine hK.out _ _ (hSd _ hb1) (fun hH1=>?_);clear hK K;refine nm ?_;refine pure_ (i:=5) (N:=(some 18)) (v:=?_) (a':=?_) (bl 8 63) rfl rfl (by kernel_rfl) (fun _ _ _ h=>h) (Or.inl ⟨by rfl,?_⟩) ?_ ?_;rotate_left
   ·intro w'
    go_simp
    with_reducible rfl
   rotate_left
   ·simp only[Act.put,List.setIfInBounds_toArray,List.set_cons_zero,List.set_cons_succ,i64_w,i32_w]
    rfl
   have hb2:=hb1.alloc hb1.size (.cells zero4 93);refine one_ (i:=6) (N:=(some 5)) (bl 8 127) rfl rfl (by kernel_rfl) (by decide) (fun K hK=>?_);refine value_ (v:=.pointer (some ⟨W0.heap.size+1,0,none⟩)) (w1:=(W0.drew.alloc (.cells (madeCells #[Value.int .i64 0] O.length) 3)).alloc (.cells zero4 93)) (by rfl) rfl ?_ ?_
   ·go_simp
   refine hK.out _ _ (hSd _ hb2) (fun hH2=>?_);clear hK K;refine norm_ ?_ (hj (W0.heap.size,W0.heap.size+1) _ ⟨hb2,?_,?_,?_⟩)
   ·rfl
   ·have:=made_row (m:=O.length) (by omega) W0.drew;exact Kd.R_alloc this _
   ·have:=blk_new (W0.drew.alloc (.cells (madeCells #[Value.int .i64 0] O.length) 3)) (.cells zero4 93)
    rwa [World.size_alloc] at this
   ·exact⟨Nat.le_refl _,Nat.le_succ _,by omega⟩
  ·have hb1:=hbd.alloc hbd.size (.cells zero4 93);refine value_ (v:=.pointer (some ⟨W0.drew.heap.size,0,none⟩)) (w1:=W0.drew.alloc (.cells zero4 93)) (by rfl) rfl ?_ ?_
   ·go_simp
   refine hK.out _ _ (hSd _ hb1) (fun hH1=>?_);clear hK K;refine nm ?_;have hb2:=hb1.alloc hb1.size (.cells (madeCells #[Value.int .i64 0] O.length) 3);refine one_ (i:=4) (N:=(some 17)) (bl 8 95) rfl rfl (by kernel_rfl) (by decide) (fun K hK=>?_);refine value_ (v:=.slice (some ⟨W0.heap.size+1,0,none⟩) O.length O.length) (w1:=(W0.drew.alloc (.cells zero4 93)).alloc (.cells (madeCells #[Value.int .i64 0] O.length) 3)) (by rfl) rfl ?_ ?_
   ·go_simp
   refine hK.out _ _ (hSd _ hb2) (fun hH2=>?_);clear hK K;refine nm ?_;refine pure_ (i:=5) (N:=(some 18)) (v:=?_) (a':=?_) (bl 8 127) rfl rfl (by kernel_rfl) (fun _ _ _ h=>h) (Or.inl ⟨by rfl,?_⟩) ?_ ?_;rotate_left
   ·intro w'
    go_simp
    with_reducible rfl
   rotate_left
   ·simp only[Act.put,List.setIfInBounds_toArray,List.set_cons_zero,List.set_cons_succ,i64_w,i32_w]
    rfl
   refine norm_ ?_ (hj (W0.heap.size+1,W0.heap.size) _ ⟨hb2,?_,?_,?_⟩)
   ·rfl
   ·have:=made_row (m:=O.length) (by omega) (W0.drew.alloc (.cells zero4 93));rw[World.size_alloc] at this;exact this.weak (Nat.le_succ _)
   ·exact blk_alloc (blk_new _ _) _
   ·exact⟨Nat.le_succ _,Nat.le_refl _,by omega⟩
 case cont=>
  rintro⟨g,X0⟩ W1 hF;have hF:=hF;have x0:W1.cell? ⟨X0,0,none⟩=some (.int .i64 0):=(blk_cell hF.x 0).trans rfl;have x1:W1.cell? ⟨X0,1,none⟩=some (.slice none 0 0):=(blk_cell hF.x 1).trans rfl;have x2:W1.cell? ⟨X0,2,none⟩=some (.slice none 0 0):=(blk_cell hF.x 2).trans rfl;have x3:W1.cell? ⟨X0,3,none⟩=some (.slice none 0 0):=(blk_cell hF.x 3).trans rfl;have f0:W1.frozen? ⟨X0,0,none⟩=false:=blk_frozen hF.x 0;have f1:W1.frozen? ⟨X0,1,none⟩=false:=blk_frozen hF.x 1;have f2:W1.frozen? ⟨X0,2,none⟩=false:=blk_frozen hF.x 2;have f3:W1.frozen? ⟨X0,3,none⟩=false:=blk_frozen hF.x 3;have HF:=aM hF;clear hF
  dsimp only[putAll]
  refine nm ?_;refine last_ (i:=7) (N:=none) (bl 8 255) rfl rfl (by kernel_rfl) (by decide) (fun K hK=>?_);refine skip_ (w1:=(((W1.setCell ⟨X0,0,none⟩ (.int .i64 I)).setCell ⟨X0,1,none⟩ (.slice A1 N.length c1)).setCell ⟨X0,2,none⟩ (.slice A2 O.length c2)).setCell ⟨X0,3,none⟩ (.slice (some ⟨g,0,none⟩) O.length O.length)) (by rfl) rfl ?_ ?_
  ·go_simp
  refine hK.out _ _ ?_;clear hK K;refine done_ (by kernel_rfl) ?_;have HO2:Aside0 (OdW w I A1 A2 N.length O.length c1 c2 O.length g X0 (zerosF O.length) ((((W1.setCell ⟨X0,0,none⟩ (.int .i64 I)).setCell ⟨X0,1,none⟩ (.slice A1 N.length c1)).setCell ⟨X0,2,none⟩ (.slice A2 O.length c2)).setCell ⟨X0,3,none⟩ (.slice (some ⟨g,0,none⟩) O.length O.length))):=⟨od_start HB0.out.1 HB0.out.2 HT0.out HR0.out HF.out⟩;generalize ((((W1.setCell ⟨X0,0,none⟩ (.int .i64 I)).setCell ⟨X0,1,none⟩ (.slice A1 N.length c1)).setCell ⟨X0,2,none⟩ (.slice A2 O.length c2)).setCell ⟨X0,3,none⟩ (.slice (some ⟨g,0,none⟩) O.length O.length))=W2 at HO2⊢;clear x0 x1 x2 x3 f0 f1 f2 f3 HF y0 y1 y2 hHeld HB0 HT0 HR0 hmk;(try simp only[Exit.then]);go_wp2
  go_loopg [22] order.length (fun kq v22 w'=>∃(j:Nat) (s:List Int),v22=.int .i64 (j:Int)∧Aside0 (j+kq=order.length)∧Aside0 (areB O s=true∧orderF I N O s (order.drop j)=orderedF I N O order)∧Aside0 (OdW w I A1 A2 N.length O.length c1 c2 O.length g X0 s w'))
  case atStart=>exact⟨0,_,rfl,⟨by omega⟩,⟨Dr.zeros_are H.out.o,rfl⟩,HO2⟩
  case round=>
   clear HO2;obtain⟨j,s,rfl,HJ,HS,HD⟩:=hrel
   cases gk with
   |zero=>
    have c3:decide ((j:Int)<(order.length:Int))=false:=decide_eq_false (by have:=HJ.out;omega);have c4:¬(j<order.length):=by have:=HJ.out;omega
    have HE:Aside0 (s=orderedF I N O order):=⟨by have:=HS.out.2;rwa [List.drop_eq_nil_of_le (by omega)] at this⟩;have hX:=HD.out.rs.x;have hR:=HD.out.r;have x0:wr.cell? ⟨X0,0,none⟩=some (.int .i64 I):=(blk_cell hX 0).trans rfl;have x1:wr.cell? ⟨X0,1,none⟩=some (.slice A1 N.length c1):=(blk_cell hX 1).trans rfl;have x2:wr.cell? ⟨X0,2,none⟩=some (.slice A2 O.length c2):=(blk_cell hX 2).trans rfl;have x3:wr.cell? ⟨X0,3,none⟩=some (.slice (some ⟨g,0,none⟩) O.length O.length):=(blk_cell hX 3).trans rfl;have z0:wr.cell? ⟨w.heap.size+1,0,none⟩=some (.int .i64 0):=(blk_cell hR 0).trans rfl;have z1:wr.cell? ⟨w.heap.size+1,1,none⟩=some (.slice none 0 0):=(blk_cell hR 1).trans rfl;have z2:wr.cell? ⟨w.heap.size+1,2,none⟩=some (.slice none 0 0):=(blk_cell hR 2).trans rfl;have z3:wr.cell? ⟨w.heap.size+1,3,none⟩=some (.slice none 0 0):=(blk_cell hR 3).trans rfl;have f0:wr.frozen? ⟨w.heap.size+1,0,none⟩=false:=blk_frozen hR 0;have f1:wr.frozen? ⟨w.heap.size+1,1,none⟩=false:=blk_frozen hR 1;have f2:wr.frozen? ⟨w.heap.size+1,2,none⟩=false:=blk_frozen hR 2;have f3:wr.frozen? ⟨w.heap.size+1,3,none⟩=false:=blk_frozen hR 3;clear hX hR;go_wp2;refine bodyPost_ret (results_cell_row rfl _ _ (w.heap.size+1) 93 #[.int .i64 I,.slice A1 N.length c1,.slice A2 O.length c2,.slice (some ⟨g,0,none⟩) O.length O.length] (0,0) _ rfl (blk_set4 HD.out.r _ _ _ _) Tryz.underlying93 rfl (by kernel_rfl)) rfl ?_;have hkb:=kb_set4 wr (w.heap.size+1) (.int .i64 I) (.slice A1 N.length c1) (.slice A2 O.length c2) (.slice (some ⟨g,0,none⟩) O.length O.length);have hrow:=(HD.out.rs.row.kb hkb (fun k e hk=>by have e2:g=k:=Option.some.inj e;have:=HD.out.gx;omega)).weak (show w.heap.size≤w.heap.size+2 by omega);rw[HE.out] at hrow;exact⟨_,rfl,hrow,HD.out.hb.trans (hkb.below HD.out.hb.size (fun k hk e=>by omega))⟩
   |succ k2=>
    have hjl:j<order.length:=by have:=HJ.out;omega
    have c3:decide ((j:Int)<(order.length:Int))=true:=decide_eq_true (by omega);have p1:(0:Int)≤(j:Int):=by omega
    have p2:(j:Int)<(order.length:Int):=by omega
    obtain⟨ado,eo,x0⟩:=Kd.at_int (Kd.C_below HRO.out HD.out.hb) (j:Int) p1 p2;rw[Int.toNat_natCast] at x0;subst eo;obtain⟨c,hc⟩:∃c,rd order (j:Int)=c:=⟨_,rfl⟩;rw[hc] at x0
    have HDR:Aside0 (order.drop j=c::order.drop (j+1)):=⟨by
     rw[List.drop_eq_getElem_cons hjl]
     congr 1
     rw[← hc]
     simp[rd,List.getD,List.getElem?_eq_getElem hjl]⟩
    have q1:=eq_true p1;have q2:=eq_true p2;have hjle:(j:Int)≤1000:=by omega
    clear hc hjl;go_wp2;refine wp_scope_straight (wp_seq (wp_label ?_));go_wp2;clear x0 c3 p1 p2 q1 q2
    go_loopg [9] (leftF O s+1) (fun kq v9 w'=>∃s1:List Int,Aside0 (kq=leftF O s1+1)∧Aside0 (areB O s1=true∧classF I N O c s1=classF I N O c s)∧Aside0 (OdW w I A1 A2 N.length O.length c1 c2 O.length g X0 s1 w'))
    case atStart=>exact⟨s,⟨rfl⟩,⟨HS.out.1,rfl⟩,HD⟩
    case round=>
     clear HD;obtain⟨s1,HK1,HS1,HD1⟩:=hrel
     cases gk with
     |zero=>exact absurd HK1.out (by omega)
     |succ k3=>
      have y2:wr.cell? ⟨w.heap.size,2,none⟩=some (.slice A2 O.length c2):=(blk_cell HD1.out.rs.t 2).trans rfl;go_wp2;clear y2
      go_loopg [9,29] O.length (fun kq v9 v29 w'=>∃(i:Nat) (b:Bool),v9=.bool b∧v29=.int .i64 (i:Int)∧Aside0 (i+kq=O.length)∧Aside0 (b=(roundF I N O c s1 i).2)∧Aside0 (OdW w I A1 A2 N.length O.length c1 c2 O.length g X0 (roundF I N O c s1 i).1 w'))
      case atStart=>exact⟨0,_,rfl,rfl,⟨by omega⟩,⟨rfl⟩,HD1⟩
      case round=>
       clear HD1;obtain⟨i,b,rfl,rfl,HI,HBV,HD2⟩:=hrel
       cases gk with
       |zero=>
        have c3:decide ((i:Int)<(O.length:Int))=false:=decide_eq_false (by have:=HI.out;omega);have c4:¬(i<O.length):=by have:=HI.out;omega
        have HIE:Aside0 (i=O.length):=⟨by have:=HI.out;omega⟩;rw[HIE.out] at HBV HD2
        cases b with
        |true=>
         go_wp2
         go_roundg (leftF O (roundF I N O c s1 O.length).1+1)
         case measure=>
          have:=(Dr.left_round (I:=I) (N:=N) (c:=c) HS1.out.1 O.length (Nat.le_refl _)).2 HBV.out.symm;have:=HK1.out
          omega
         case rel=>exact⟨_,⟨rfl⟩,⟨Dr.are_round HS1.out.1 _,by rw[← HS1.out.2,Dr.class_step HS1.out.1,if_pos HBV.out.symm]⟩,HD2⟩
        |false=>
         go_wp2
         dsimp only[Exit.noGoto]
         go_wp2
         go_roundg k2
         case measure=>omega
         case rel=>exact⟨j+1,_,(by rw[Int.natCast_add,Int.natCast_one]),⟨by have:=HJ.out;omega⟩,⟨Dr.are_round HS1.out.1 O.length,by
          rw[← HS.out.2,HDR.out]
          show _=orderF I N O (classF I N O c s) (order.drop (j+1))
          rw[← HS1.out.2,Dr.class_step HS1.out.1,if_neg (by rw[← HBV.out];simp)]⟩,HD2⟩
       |succ k4=>
        have hil:i<O.length:=by have:=HI.out;omega
        have c3:decide ((i:Int)<(O.length:Int))=true:=decide_eq_true (by omega);have p1:(0:Int)≤(i:Int):=by omega
        have p2:(i:Int)<(O.length:Int):=by omega
        obtain⟨ad,ea,x0,x1,x2⟩:=at_T51 (Kd.C_below H.out.r2 HD2.out.hb) (i:Int) p1 p2;rw[Int.toNat_natCast] at x0 x1 x2;obtain⟨o,ho⟩:∃o,rdO O (i:Int)=o:=⟨_,rfl⟩;replace x0:wr.cell? (ad.add (i*3))=some (.int .i64 o.f0):=by rw[← ho];exact x0
        replace x1:wr.cell? ⟨(ad.add (i*3)).block,(ad.add (i*3)).off+1,none⟩=some (.int .i64 o.f1):=by rw[← ho];exact x1
        replace x2:wr.cell? ⟨(ad.add (i*3)).block,(ad.add (i*3)).off+2,none⟩=some (.int .i64 o.f2):=by rw[← ho];exact x2
        have HOE:=aM ho;have q1:=eq_true p1;have q2:=eq_true p2;subst ea;have hbo:Below wr.heap.size wr (wr.alloc (.cells #[.int .i64 o.f0,.int .i64 o.f1,.int .i64 o.f2] 51)):=(Below.refl _ _).alloc (Nat.le_refl _) _;have HD3:=aM (HD2.out.below hbo);clear ho hbo
        by_cases hc:o.f2=c
        ·have hne:(o.f2 !=c)=false:=by rw[hc];simp
         have hne2:(o.f2==c)=true:=by rw[hc];simp
         have HC:=aM hc
         have HRC:Aside0 (∀ W,OdW w I A1 (some ad) N.length O.length c1 c2 O.length g X0 (roundF I N O c s1 i).1 W->Calls Tryz.prog 123 #[.int .i64 (i:Int),.pointer (some ⟨X0,0,none⟩),.pointer (some ⟨w.heap.size,0,none⟩)] W (RaisePost I A1 (some ad) c1 c2 O.length w.heap.size X0 g (w.heap.size+2) N O (roundF I N O c s1 i).1 (mayB I N O (roundF I N O c s1 i).1 i) (raisedF I N O (roundF I N O c s1 i).1 i) W)):=⟨fun W hW=>
          raise_any (H.out.below hW.hb) (fun W' hk=>H.out.below (hW.hb.trans (hk.below hW.hb.size (fun k hk2 e=>by have:=hW.gx;omega)))) hW.rs (Dr.are_round HS1.out.1 i) rfl p1 p2⟩
         clear hc;have HRS:Aside0 (roundF I N O c s1 (i+1)=(raisedF I N O (roundF I N O c s1 i).1 i,b||mayB I N O (roundF I N O c s1 i).1 i)):=⟨by rw[round_succ (by rw[HOE.out];exact HC.out),←HBV.out]⟩;obtain⟨mb,hmb⟩:∃mb,mayB I N O (roundF I N O c s1 i).1 i=mb:=⟨_,rfl⟩;rw[hmb] at HRS HRC;clear hmb
         cases b
         all_goals
          go_wp2_with (go_at_call 123;refine(HRC.out _ HD3.out).mono ?_;rintro e w5 ⟨rfl,hR5,hK5⟩)
          have HD5:=aM (HD3.out.turn hK5 hR5)
          go_roundg k4
          case measure=>omega
          case rel=>exact⟨i+1,_,rfl,(by rw[Int.natCast_add,Int.natCast_one]),⟨by have:=HI.out;omega⟩,⟨by rw[HRS.out];simp⟩,⟨by rw[HRS.out];exact HD5.out⟩⟩
        ·have hne:(o.f2 !=c)=true:=by simpa using hc
         have hne2:(o.f2==c)=false:=by simpa using hc
         have HC:=aM hc;clear hc;go_wp2
         go_roundg k4
         case measure=>omega
         case rel=>exact⟨i+1,b,rfl,(by rw[Int.natCast_add,Int.natCast_one]),⟨by have:=HI.out;omega⟩,⟨by rw[HBV.out];show _=(if (rdO O (i:Int)).f2=c then _ else roundF I N O c s1 i).2;rw[HOE.out,if_neg HC.out]⟩,⟨by show OdW w I A1 (some ad) N.length O.length c1 c2 O.length g X0 (if (rdO O (i:Int)).f2=c then _ else roundF I N O c s1 i).1 _;rw[HOE.out,if_neg HC.out];exact HD3.out⟩⟩
def firstL (j:Nat):List Int:=(List.range j).map fun(n:Nat)=>(n:Int)
theorem firstL_len (j:Nat):(firstL j).length=j:=by simp[firstL]
theorem firstL_succ (j:Nat):firstL (j+1)=firstL j++[(j:Int)]:=by simp[firstL,List.range_succ]
theorem firstL_four:firstL 4=[0,1,2,3]:=by decide
set_option maxRecDepth 100000 in
set_option maxHeartbeats 2000000 in
theorem law_any {w:World} {I I':Int} {A1 A2:Option Addr} {c1 c2:Nat} {N:List SN} {O:List SO} (h:TrW w I A1 A2 c1 c2 N O):
    Calls Tryz.prog 61 #[.agg #[.int .i64 I,.slice A1 N.length c1,.slice A2 O.length c2],.int .i64 I'] w (OrdPost I' A1 A2 N.length O.length c1 c2 (lawF I' N O) w):=by
  have hu1:=Tryz.underlying25;have hu2:=Tryz.underlying93;have H:=aM h;clear h
  go_enter Tryz.func61,Tryz.ntmps61
  go_upto_region 2 with(fail)
  generalize hW0:World.alloc (World.alloc w _) _=W0;have HB0:Aside0 (Below w.heap.size w W0∧w.heap.size+2≤W0.heap.size):=⟨by rw[← hW0];exact⟨((Below.refl _ _).alloc (Nat.le_refl _) _).alloc (by simp) _,by simp⟩⟩
  have HT0:Aside0 (W0.heap[w.heap.size]? =some (.cells #[.int .i64 I',.slice A1 N.length c1,.slice A2 O.length c2] 25 (0,0))):=⟨by
    rw[← hW0]
    exact blk_alloc (blk_new _ _) _⟩
  have HR0:Aside0 (W0.heap[w.heap.size+1]? =some (.cells zero4 93 (0,0))):=⟨by
    rw[← hW0];have:=blk_new (w.alloc (.cells #[.int .i64 I',.slice A1 N.length c1,.slice A2 O.length c2] 25)) (.cells zero4 93)
    rwa [World.size_alloc] at this⟩
  clear hW0;go_wp2
  go_loopg [5,9] 4 (fun kq v5 v9 w'=>∃j:Nat,v9=.int .i64 (j:Int)∧Aside0 (j+kq=4)∧Aside0 (OwnI w' W0.heap.size v5 (firstL j))∧Aside0 (Below W0.heap.size W0 w'))
  case atStart=>exact⟨0,rfl,⟨rfl⟩,⟨Kd.R_nil _ _ _ _ _⟩,⟨Below.refl _ _⟩⟩
  case round=>
    obtain⟨j,rfl,HJ,HO,HW⟩:=hrel;obtain⟨Ao,co,eo⟩:=Kd.R_slice HO.out;subst eo
    cases gk with
    |zero=>
      have c3:decide ((j:Int)<4)=false:=decide_eq_false (by have:=HJ.out;omega);have c4:¬((j:Int)<4):=by have:=HJ.out;omega
      have HE:Aside0 (firstL j=[0,1,2,3]):=⟨by rw[show j=4 by have:=HJ.out;omega];exact firstL_four⟩;have hT:=blk_below HT0.out HW.out;have y0:wr.cell? ⟨w.heap.size,0,none⟩=some (.int .i64 I'):=(blk_cell hT 0).trans rfl;have y1:wr.cell? ⟨w.heap.size,1,none⟩=some (.slice A1 N.length c1):=(blk_cell hT 1).trans rfl;have y2:wr.cell? ⟨w.heap.size,2,none⟩=some (.slice A2 O.length c2):=(blk_cell hT 2).trans rfl;have hbr:=below_step HB0.out.1 HW.out
      have HC:Aside0 (Calls Tryz.prog 87 #[.agg #[.int .i64 I',.slice A1 N.length c1,.slice A2 O.length c2],.slice Ao (firstL j).length co] wr (OrdPost I' A1 A2 N.length O.length c1 c2 (lawF I' N O) wr)):=⟨by
        obtain⟨_,_,e,hl,hC⟩:=Kd.R_reads HO.out
        cases e
        have:=ordered_any (I:=I') (co:=co) (order:=firstL j) ⟨H.out.n,H.out.o,H.out.nl,H.out.ol,(H.out.below hbr).r1,H.out.l1,(H.out.below hbr).r2,H.out.l2⟩ (by rw[firstL_len];have:=HJ.out;omega) hC;rw[show orderedF I' N O (firstL j)=lawF I' N O by rw[HE.out];rfl] at this
        exact this⟩
      have HBR:=aM hbr;clear hT hbr
      go_wp2_with fail
      refine HC.out.mono ?_;rintro e w5 ⟨v,rfl,hR,hb⟩;have hRB:=blk_below (blk_below HR0.out HW.out) hb;have HRB:=aM hRB;have z0:w5.cell? ⟨w.heap.size+1,0,none⟩=some (.int .i64 0):=(blk_cell hRB 0).trans rfl;have z1:w5.cell? ⟨w.heap.size+1,1,none⟩=some (.slice none 0 0):=(blk_cell hRB 1).trans rfl;have z2:w5.cell? ⟨w.heap.size+1,2,none⟩=some (.slice none 0 0):=(blk_cell hRB 2).trans rfl;have z3:w5.cell? ⟨w.heap.size+1,3,none⟩=some (.slice none 0 0):=(blk_cell hRB 3).trans rfl;have f0:w5.frozen? ⟨w.heap.size+1,0,none⟩=false:=blk_frozen hRB 0;have f1:w5.frozen? ⟨w.heap.size+1,1,none⟩=false:=blk_frozen hRB 1;have f2:w5.frozen? ⟨w.heap.size+1,2,none⟩=false:=blk_frozen hRB 2;have f3:w5.frozen? ⟨w.heap.size+1,3,none⟩=false:=blk_frozen hRB 3;obtain⟨Av,cv,ev⟩:=Kd.R_slice hR;subst ev;have HRR:=aM hR;have HBB:=aM hb;clear hRB hR hb;go_wp2;obtain⟨L,hL⟩:∃L,lawF I' N O=L:=⟨_,rfl⟩;rw[hL] at HRR⊢;refine bodyPost_ret (results_cell_row rfl _ _ (w.heap.size+1) 93 #[.int .i64 I',.slice A1 N.length c1,.slice A2 O.length c2,.slice Av L.length cv] (0,0) _ rfl (by rw[← hL];exact blk_set4 HRB.out _ _ _ _) Tryz.underlying93 rfl (by kernel_rfl)) rfl ?_;have hkb:=kb_set4 w5 (w.heap.size+1) (.int .i64 I') (.slice A1 N.length c1) (.slice A2 O.length c2) (.slice Av L.length cv);have hsz:w.heap.size+2≤wr.heap.size:=Nat.le_trans HB0.out.2 HW.out.size;have hrow:=(HRR.out.kb hkb (fun k e hk=>by have:=(HRR.out.blk e).1;omega)).weak (show w.heap.size≤wr.heap.size by omega);exact⟨_,rfl,hrow,(below_step HBR.out HBB.out).trans (hkb.below (Nat.le_trans HBR.out.size HBB.out.size) (fun k hk e=>by omega))⟩
    |succ k2=>
      have c3:decide ((j:Int)<4)=true:=decide_eq_true (by have:=HJ.out;omega);have hj4:(j:Int)<4:=by have:=HJ.out;omega
      go_wp2_with ((with_reducible refine gate_builtin (b:=.append) (xs:=#[.tmp 12,.tmp 14]) rfl ?_);at_builtin;(refine Kd.R_append (Kd.int .i64) (w0:=wr) W0.heap.size rfl (.tmp 12) (.tmp 14) 30 3 (.int .i64 0) 8 rfl Tryz.underlying30 info3 rfl (by decide) (by omega) (.slice Ao (firstL j).length co) (firstL j) (j:Int) [.int .i64 (j:Int)] (fun _=>True) (fun _=>False) rfl rfl ?aP (fun _ hk=>hk.elim) ?aF ?aO ?aB ?aS ?aL ?_);(case aP=>exact rfl);(case aB=>exact Below.refl _ _);(case aF=>exact(fun _ _=>trivial));(case aO=>exact HO.out);(case aS=>exact HW.out.size);(case aL=>rw[firstL_len];omega);intro vA wA ho hbA hgA hatA)
      have HOA:=aM ho;have HBA:=aM hbA;clear ho hbA hgA hatA
      go_roundg k2
      case measure=>omega
      case rel=>exact⟨j+1,(by rw[Int.natCast_add,Int.natCast_one]),⟨by have:=HJ.out;omega⟩,⟨by rw[firstL_succ];exact HOA.out⟩,⟨HW.out.trans HBA.out⟩⟩
def treeOk (N:List SN) (O:List SO):Bool:=okN N&&okO N.length O&&decide (N.length≤1000)&&decide (O.length≤1000)
theorem treeOk_w {N:List SN} {O:List SO} {I:Int} {A1 A2:Option Addr} {c1 c2:Nat} {w:World} (h:treeOk N O=true) (r1:Kd.C k77 w A1 N.length N) (l1:N.length≤c1) (r2:Kd.C k51 w A2 O.length O) (l2:O.length≤c2):TrW w I A1 A2 c1 c2 N O:=by
  simp only[treeOk,Bool.and_eq_true,decide_eq_true_eq] at h;exact⟨h.1.1.1,h.1.1.2,h.1.2,h.2,r1,l1,r2,l2⟩
theorem treeOk_of {I:Int} {N:List SN} {O:List SO} (h:treeB I N O=true):treeOk N O=true:=by
  have:=tree_ok h;simp only[treeOk,Bool.and_eq_true,decide_eq_true_eq];exact⟨⟨⟨this.n,this.o⟩,by have:=this.nl;omega⟩,by have:=this.ol;omega⟩
def d7_ordered.f (a0_0:Int) (l0_1:List SN) (l0_2:List SO) (l1:List Int):Option (Int×List SN×List SO×List Int):=
  if treeOk l0_1 l0_2=true∧l1.length≤1000 then some (a0_0,l0_1,l0_2,orderedF a0_0 l0_1 l0_2 l1) else none
theorem d7_ordered.calls (a0_0:Int) (A0_1:Option Addr) (c0_1:Nat) (l0_1:List SN) (A0_2:Option Addr) (c0_2:Nat) (l0_2:List SO) (A1:Option Addr) (c1:Nat) (l1:List Int) (r1:Int) (r2:List SN) (r3:List SO) (r4:List Int) (w:World) (hr0_1:Kd.C k77 w A0_1 l0_1.length l0_1) (hc0_1:l0_1.length≤c0_1) (hr0_2:Kd.C k51 w A0_2 l0_2.length l0_2) (hc0_2:l0_2.length≤c0_2) (hr1:Kd.C (Kd.int .i64) w A1 l1.length l1) (hc1:l1.length≤c1) (h:d7_ordered.f a0_0 l0_1 l0_2 l1=some (r1,r2,r3,r4)):
    Calls Tryz.prog 87 #[.agg #[.int .i64 a0_0,.slice A0_1 l0_1.length c0_1,.slice A0_2 l0_2.length c0_2],.slice A1 l1.length c1] w fun e w'=>∃v3_:Value,e=.returned (.agg #[.int .i64 r1,.slice A0_1 l0_1.length c0_1,.slice A0_2 l0_2.length c0_2,v3_])∧Kd.R (Kd.int .i64) 3 w' w.heap.size (fun _=>True) v3_ r4∧Below w.heap.size w w':=by
  unfold d7_ordered.f at h
  split at h
  · rename_i hp
    obtain⟨rfl,h2⟩:=Prod.mk.inj (Option.some.inj h);obtain⟨rfl,h3⟩:=Prod.mk.inj h2;obtain⟨rfl,rfl⟩:=Prod.mk.inj h3;exact ordered_any (treeOk_w hp.1 hr0_1 hc0_1 hr0_2 hc0_2) hp.2 hr1
  · cases h
def d7_law.f (a0_0:Int) (l0_1:List SN) (l0_2:List SO) (a1:Int):Option (Int×List SN×List SO×List Int):=
  if treeOk l0_1 l0_2=true then some (a1,l0_1,l0_2,lawF a1 l0_1 l0_2) else none
theorem d7_law.calls (a0_0:Int) (A0_1:Option Addr) (c0_1:Nat) (l0_1:List SN) (A0_2:Option Addr) (c0_2:Nat) (l0_2:List SO) (a1:Int) (r1:Int) (r2:List SN) (r3:List SO) (r4:List Int) (w:World) (hr0_1:Kd.C k77 w A0_1 l0_1.length l0_1) (hc0_1:l0_1.length≤c0_1) (hr0_2:Kd.C k51 w A0_2 l0_2.length l0_2) (hc0_2:l0_2.length≤c0_2) (h:d7_law.f a0_0 l0_1 l0_2 a1=some (r1,r2,r3,r4)):
    Calls Tryz.prog 61 #[.agg #[.int .i64 a0_0,.slice A0_1 l0_1.length c0_1,.slice A0_2 l0_2.length c0_2],.int .i64 a1] w fun e w'=>∃v3_:Value,e=.returned (.agg #[.int .i64 r1,.slice A0_1 l0_1.length c0_1,.slice A0_2 l0_2.length c0_2,v3_])∧Kd.R (Kd.int .i64) 3 w' w.heap.size (fun _=>True) v3_ r4∧Below w.heap.size w w':=by
  unfold d7_law.f at h
  split at h
  · rename_i hp
    obtain⟨rfl,h2⟩:=Prod.mk.inj (Option.some.inj h);obtain⟨rfl,h3⟩:=Prod.mk.inj h2;obtain⟨rfl,rfl⟩:=Prod.mk.inj h3;exact law_any (treeOk_w hp hr0_1 hc0_1 hr0_2 hc0_2)
  · cases h
end Go.Proofs.YtjioobfeikbffabGreatDoor.K
end
section
namespace Go.Proofs.YtjioobfeikbffabGreatDoor.K
open Go.RowKit Go.Proofs.Zw Go.Proofs.Zl Go.Proofs.Zm
theorem idxFuncOutlet (A:Option Addr) (c:Nat) (l:List S51) (g:Nat) (lb:Array Value) (p:S51->Bool) (w:World) (hr:Kd.C k51 w A l.length l) (hc:l.length≤c) (hl:l.length≤9223372036854775807)
    (eg:∀args w,(callFunc g args).run Tryz.prog w=.ok (.enter g args) w) (hp:PredB g lb (fun x=>.agg #[.int .i64 x.f0,.int .i64 x.f1,.int .i64 x.f2]) p w):
    Calls Tryz.prog 128 #[.slice A l.length c,.func (.func g) #[] lb] w fun e w'=>∃i,e=.returned (.int .i64 i)∧Aside0 (decide (0≤i)=l.any p)∧Below w.heap.size w w':=by
  have HR:=aM hr;have HC:=aM hc;clear hr hc
  go_enter Tryz.func128,Tryz.ntmps128
  go_wp2
  go_loopg [5,8] l.length (fun gg _ s8 wr=>∃kk:Nat,kk≤l.length∧l.length-kk≤gg∧s8=.int .i64 kk∧Aside0 (Below w.heap.size w wr)∧Aside0 ((l.take kk).any p=false))
  case atStart=>exact⟨0,Nat.zero_le _,by omega,rfl,⟨Below.refl _ w⟩,⟨by simp⟩⟩
  case round=>
    obtain⟨kk,hkk,hg,rfl,BW,AA⟩:=hrel
    by_cases hlt:kk<l.length
    · have hltz:(kk:Int)<(l.length:Int):=by omega
      obtain⟨ad,e1,hx0,hx1,hx2⟩:=at_T51 HR.out (kk:Int) (by omega) hltz
      cases e1
      replace hx0:=(BW.out.cell (World.block_lt_of_cell? w _ hx0)).trans hx0;replace hx1:=(BW.out.cell (World.block_lt_of_cell? w _ hx1)).trans hx1;replace hx2:=(BW.out.cell (World.block_lt_of_cell? w _ hx2)).trans hx2;rw[Int.toNat_natCast] at hx0 hx1 hx2;have hcall:=hp wr (rd_T51 l kk) BW.out;generalize hy:rd_T51 l kk=y at hx0 hx1 hx2 hcall;have HY:=aM hy;clear hy hp
      cases hq:p y with
      |true=>
        rw[hq] at hcall;have HQ:=aM hq;clear hq
        go_wp2_with fail
        refine hcall.mono ?_;rintro e w' ⟨rfl,hb'⟩;replace hb':=below_then BW.out BW.out.size hb';go_wp2;go_ret;exact⟨_,rfl,⟨by rw[any_of_at p z51 l kk hlt (by have:=HY.out;simp only[rd_T51,Int.toNat_natCast] at this;rw[this];exact HQ.out)];simp⟩,hb'⟩
      |false=>
        rw[hq] at hcall;have HQ:=aM hq;clear hq
        go_wp2_with fail
        refine hcall.mono ?_;rintro e w' ⟨rfl,hb'⟩;replace hb':=below_then BW.out BW.out.size hb';go_wp2
        go_roundg (l.length-(kk+1))
        case measure=>omega
        case rel=>exact⟨kk+1,by omega,by omega,by go_num,⟨hb'⟩,⟨any_take_succ p z51 l kk AA.out (by have:=HY.out;simp only[rd_T51,Int.toNat_natCast] at this;rw[this];exact HQ.out)⟩⟩
    · have hltz:¬(kk:Int)<(l.length:Int):=by omega
      go_wp2;go_ret;exact⟨_,rfl,⟨by rw[any_whole p l kk (by omega) AA.out];rfl⟩,BW.out⟩
theorem contFuncOutlet (A:Option Addr) (c:Nat) (l:List S51) (g:Nat) (lb:Array Value) (p:S51->Bool) (w:World) (hr:Kd.C k51 w A l.length l) (hc:l.length≤c) (hl:l.length≤9223372036854775807)
    (eg:∀args w,(callFunc g args).run Tryz.prog w=.ok (.enter g args) w) (hp:PredB g lb (fun x=>.agg #[.int .i64 x.f0,.int .i64 x.f1,.int .i64 x.f2]) p w):
    Calls Tryz.prog 99 #[.slice A l.length c,.func (.func g) #[] lb] w fun e w'=>e=.returned (.bool (l.any p))∧Below w.heap.size w w':=by
  have hi:=idxFuncOutlet A c l g lb p w hr hc hl eg hp;clear hr hp
  go_enter Tryz.func99,Tryz.ntmps99
  go_wp2_with fail
  refine hi.mono ?_;rintro e w' ⟨i,rfl,hd,hb'⟩;go_wp2;go_ret;exact⟨by rw[← hd.out];rfl,hb'⟩
def inB (x lo hi:Int):Bool:=decide (lo≤x)&&decide (x≤hi)
theorem in_any (x lo hi:Int) (w:World):Calls Tryz.prog 69 #[.int .i64 x,.int .i64 lo,.int .i64 hi] w fun e w'=>e=.returned (.bool (inB x lo hi))∧w=w':=by
  by_cases h1:lo≤x
  · by_cases h2:x≤hi
    · go_enter Tryz.func69,Tryz.ntmps69
      go_wp2;go_ret;exact⟨by simp[inB,h1,h2],rfl⟩
    · go_enter Tryz.func69,Tryz.ntmps69
      go_wp2;go_ret;exact⟨by simp[inB,h1,h2],rfl⟩
  · go_enter Tryz.func69,Tryz.ntmps69
    go_wp2;go_ret;exact⟨by unfold inB;rw[decide_eq_false (by omega)];rfl,rfl⟩
theorem isCups_any (x:Int) (w:World):Calls Tryz.prog 93 #[.int .i64 x] w fun e w'=>e=.returned (.bool (inB x 0 200))∧w=w':=by
  go_enter Tryz.func93,Tryz.ntmps93
  go_wp2_with (go_at_call 69;refine(in_any _ _ _ _).mono ?_;rintro e w' ⟨rfl,rfl⟩)
  go_ret;exact⟨rfl,rfl⟩
theorem isClass_any (x:Int) (w:World):Calls Tryz.prog 85 #[.int .i64 x] w fun e w'=>e=.returned (.bool (inB x 0 3))∧w=w':=by
  go_enter Tryz.func85,Tryz.ntmps85
  go_wp2_with (go_at_call 69;refine(in_any _ _ _ _).mono ?_;rintro e w' ⟨rfl,rfl⟩)
  go_ret;exact⟨rfl,rfl⟩
def outB (m:Int) (o:SO):Bool:=inB o.f0 0 m&&!decide (o.f1<1)&&inB o.f1 0 200&&inB o.f2 0 3
set_option maxHeartbeats 1000000 in
theorem isTree1_any (o:SO) (T0:Nat) (A:Option Addr) (n c:Nat) (hn:n≤9223372036854775807) (W:World) (hB:T0<W.heap.size) (hcell:W.cell? ⟨T0,1,none⟩=some (.slice A n c)):
    Calls Tryz.prog 100 #[.agg #[.int .i64 o.f0,.int .i64 o.f1,.int .i64 o.f2],.pointer (some ⟨T0,0,none⟩)] W fun e w'=>e=.returned (.bool (!outB n o))∧Below W.heap.size W w':=by
  have hu:=Tryz.underlying25;have hu2:=Tryz.underlying51;have hBW:¬T0=W.heap.size:=by omega
  have hne:T0≠W.heap.size:=by omega
  have n0:(0:Int)≤(n:Int):=by omega
  have n1:(n:Int)≤9223372036854775807:=by omega
  obtain⟨f0,f1,f2⟩:=o
  dsimp only
  cases h1:inB f0 0 n with
  |false=>
    go_enter Tryz.func100,Tryz.ntmps100
    go_wp2_with (go_at_call 69;refine(in_any _ _ _ _).mono ?_;rintro e w' ⟨rfl,rfl⟩)
    go_ret;exact⟨by simp[outB,h1],(Below.refl _ _).alloc (Nat.le_refl _) _⟩
  |true=>
  cases h2:decide (f1<1) with
  |true=>
    go_enter Tryz.func100,Tryz.ntmps100
    go_wp2_with (go_at_call 69;refine(in_any _ _ _ _).mono ?_;rintro e w' ⟨rfl,rfl⟩)
    go_ret;exact⟨by simp[outB,h1,h2],(Below.refl _ _).alloc (Nat.le_refl _) _⟩
  |false=>
  cases h3:inB f1 0 200 with
  |false=>
    go_enter Tryz.func100,Tryz.ntmps100
    go_wp2_with (first|(go_at_call 69;refine(in_any _ _ _ _).mono ?_;rintro e w' ⟨rfl,rfl⟩)|(go_at_call 93;refine(isCups_any _ _).mono ?_;rintro e w' ⟨rfl,rfl⟩))
    go_ret;exact⟨by simp[outB,h1,h2,h3],(Below.refl _ _).alloc (Nat.le_refl _) _⟩
  |true=>
    go_enter Tryz.func100,Tryz.ntmps100
    go_wp2_with (first|(go_at_call 69;refine(in_any _ _ _ _).mono ?_;rintro e w' ⟨rfl,rfl⟩)|(go_at_call 93;refine(isCups_any _ _).mono ?_;rintro e w' ⟨rfl,rfl⟩)|(go_at_call 85;refine(isClass_any _ _).mono ?_;rintro e w' ⟨rfl,rfl⟩))
    go_ret;exact⟨by simp[outB,h1,h2,h3],(Below.refl _ _).alloc (Nat.le_refl _) _⟩
def nodeB (i:Nat) (n:SN):Bool:=inB n.f0 0 i&&inB n.f1 0 200
theorem okE_all {N:List SN} (h:∀i:Nat,i<N.length->nodeB i (rdN N i)=true):okE N=true:=by
  unfold okE;rw[List.all_eq_true];intro i hi;have:=h i (List.mem_range.1 hi);simp only[nodeB,inB,Bool.and_eq_true,decide_eq_true_eq] at this⊢
  omega
theorem okE_not {N:List SN} {i:Nat} (hi:i<N.length) (h:nodeB i (rdN N i)=false):okE N=false:=by
  rw[Bool.eq_false_iff];intro hf;have:=okE_at hf (show (0:Int)≤(i:Int) by omega) (by omega);rw[Bool.eq_false_iff] at h;apply h;simp only[nodeB,inB,Bool.and_eq_true,decide_eq_true_eq]
  omega
theorem okO_any (m:Nat) (O:List SO):okO m O=!(O.any fun o=>!outB m o):=by
  unfold okO;rw[List.not_any_eq_all_not]
  congr 1
  funext o
  rw[Bool.eq_iff_iff];simp only[outB,inB,Bool.and_eq_true,Bool.not_eq_true',Bool.not_not,decide_eq_true_eq,decide_eq_false_iff_not]
  omega
theorem tree_parts (I:Int) (N:List SN) (O:List SO):treeB I N O=(inB I 0 200&&(!decide (6<(N.length:Int)))&&inB O.length 1 8&&okE N&&!(O.any fun o=>!outB N.length o)):=by
  rw[← okO_any];unfold treeB;generalize okE N=a;generalize okO N.length O=b;rw[Bool.eq_iff_iff];simp only[inB,Bool.and_eq_true,Bool.not_eq_true',decide_eq_true_eq,decide_eq_false_iff_not]
  constructor
  · rintro⟨⟨⟨⟨⟨⟨h1,h2⟩,h3⟩,h4⟩,h5⟩,h6⟩,h7⟩;exact⟨⟨⟨⟨⟨h1,h2⟩,by omega⟩,by omega,by omega⟩,h6⟩,h7⟩
  · rintro⟨⟨⟨⟨⟨h1,h2⟩,h3⟩,h4,h5⟩,h6⟩,h7⟩;exact⟨⟨⟨⟨⟨⟨h1,h2⟩,by omega⟩,by omega⟩,by omega⟩,h6⟩,h7⟩
set_option maxRecDepth 100000 in
set_option maxHeartbeats 2000000 in
theorem isTree_any (I:Int) (A1 A2:Option Addr) (c1 c2:Nat) (N:List SN) (O:List SO) (w:World) (r1:Kd.C k77 w A1 N.length N) (l1:N.length≤c1) (r2:Kd.C k51 w A2 O.length O) (l2:O.length≤c2) (n1:N.length≤9223372036854775807) (n2:O.length≤9223372036854775807):
    Calls Tryz.prog 59 #[.agg #[.int .i64 I,.slice A1 N.length c1,.slice A2 O.length c2]] w fun e w'=>e=.returned (.bool (treeB I N O))∧Below w.heap.size w w':=by
  have hu:=Tryz.underlying25;have hu2:=Tryz.underlying51;have hu3:=Tryz.underlying77;have hmf:∀(fn:Fn) (first cap:Array Value) (w:World),(Instr.makeFunc fn first cap).run Tryz.prog w=.ok (.func fn first cap) w:=fun _ _ _ _=>rfl;have HT:=aM (tree_parts I N O);have HR1:=aM r1;have HR2:=aM r2;have HL:=aM (And.intro l1 l2);obtain⟨w1,hw1⟩:∃w1,w.alloc (.cells #[.int .i64 I,.slice A1 N.length c1,.slice A2 O.length c2] 25)=w1:=⟨_,rfl⟩;have HB1:Aside0 (Below w.heap.size w w1):=⟨by rw[← hw1];exact(Below.refl _ _).alloc (Nat.le_refl _) _⟩;have HK1:Aside0 (w1.heap[w.heap.size]? =some (.cells #[.int .i64 I,.slice A1 N.length c1,.slice A2 O.length c2] 25 (0,0))):=⟨by rw[← hw1];exact blk_new _ _⟩;have y0:w1.cell? ⟨w.heap.size,0,none⟩=some (.int .i64 I):=(blk_cell HK1.out 0).trans rfl;have y1:w1.cell? ⟨w.heap.size,1,none⟩=some (.slice A1 N.length c1):=(blk_cell HK1.out 1).trans rfl;have y2:w1.cell? ⟨w.heap.size,2,none⟩=some (.slice A2 O.length c2):=(blk_cell HK1.out 2).trans rfl;clear r1 r2 l1 l2
  have hcase:inB I 0 200=false∨(inB I 0 200=true∧6<(N.length:Int))∨(inB I 0 200=true∧¬6<(N.length:Int)∧inB O.length 1 8=false)∨(inB I 0 200=true∧¬6<(N.length:Int)∧inB O.length 1 8=true):=by
    cases inB I 0 200<;>cases inB (O.length:Int) 1 8<;>by_cases h:6<(N.length:Int)<;>simp[h]
  rcases hcase with h1|⟨h1,h2⟩|⟨h1,h2,h3⟩|⟨h1,h2,h3⟩
  case inr.inr.inr=>
    have h2':decide (6<(N.length:Int))=false:=decide_eq_false h2;have h2n:¬6<N.length:=by omega
    rw[h1,h2',h3] at HT
    go_enter Tryz.func59,Tryz.ntmps59
    go_upto_region 1 with(fail)
    (try rw[hw1]);clear hw1
    go_wp2_with (first|(go_at_call 69;refine(in_any _ _ _ _).mono ?_;rintro e w' ⟨rfl,rfl⟩)|(go_at_call 93;refine(isCups_any _ _).mono ?_;rintro e w' ⟨rfl,rfl⟩))
    clear y0 y1 y2 h1 h3
    go_loopg [25] N.length (fun kq v25 w'=>∃j:Nat,v25=.int .i64 (j:Int)∧Aside0 (j+kq=N.length)∧Aside0 (∀ i:Nat,i<j->nodeB i (rdN N i)=true)∧Aside0 (Below w1.heap.size w1 w'))
    case atStart=>exact⟨0,rfl,⟨by omega⟩,⟨fun i hi=>by omega⟩,⟨Below.refl _ _⟩⟩
    case round=>
      obtain⟨j,rfl,HJ,HI,HW⟩:=hrel
      cases gk with
      |zero=>
        have c3:decide ((j:Int)<(N.length:Int))=false:=decide_eq_false (by have:=HJ.out;omega);have c4:¬(j<N.length):=by have:=HJ.out;omega
        have hN:okE N=true:=okE_all (fun i hi=>HI.out i (by have:=HJ.out;omega));rw[hN] at HT;have hbr:=below_step HB1.out HW.out;have y1:wr.cell? ⟨w.heap.size,1,none⟩=some (.slice A1 N.length c1):=(blk_cell (blk_below HK1.out HW.out) 1).trans rfl;have y2:wr.cell? ⟨w.heap.size,2,none⟩=some (.slice A2 O.length c2):=(blk_cell (blk_below HK1.out HW.out) 2).trans rfl;have hlt:=blk_lt (blk_below HK1.out HW.out)
        have HC:=aM (contFuncOutlet A2 c2 O 100 #[.pointer (some ⟨w.heap.size,0,none⟩)] (fun o=>!outB N.length o) wr (Kd.C_below HR2.out hbr) HL.out.2 n2 (enters_of Tryz.func100 (by kernel_rfl) rfl)
          (fun W o hW=>isTree1_any o w.heap.size A1 N.length c1 n1 W (Nat.lt_of_lt_of_le hlt hW.size) ((hW.cell (World.block_lt_of_cell? _ _ y1)).trans y1)))
        have HBR:=aM hbr;obtain⟨b,hb⟩:∃b,(O.any fun o=>!outB N.length o)=b:=⟨_,rfl⟩;rw[hb] at HC HT;clear hN hbr hb hlt
        go_wp2_with (go_at_call 99;refine HC.out.mono ?_;rintro e w3 ⟨rfl,hb3⟩)
        go_ret;exact⟨by rw[HT.out];rfl,below_step HBR.out hb3⟩
      |succ k2=>
        have hjl:j<N.length:=by have:=HJ.out;omega
        have c3:decide ((j:Int)<(N.length:Int))=true:=decide_eq_true (by omega);have p1:(0:Int)≤(j:Int):=by omega
        have p2:(j:Int)<(N.length:Int):=by omega
        have hbr:=below_step HB1.out HW.out;obtain⟨ad,ea,x0,x1⟩:=at_T77 (Kd.C_below HR1.out hbr) (j:Int) p1 p2;rw[Int.toNat_natCast] at x0 x1;obtain⟨nd,hnd⟩:∃nd,rdN N (j:Int)=nd:=⟨_,rfl⟩;replace x0:wr.cell? (ad.add (j*2))=some (.int .i64 nd.f0):=by rw[← hnd];exact x0
        replace x1:wr.cell? ⟨(ad.add (j*2)).block,(ad.add (j*2)).off+1,none⟩=some (.int .i64 nd.f1):=by rw[← hnd];exact x1
        have HND:=aM hnd;have HBR:=aM hbr;have q1:=eq_true p1;have q2:=eq_true p2;subst ea;clear hnd hbr
        have hcase:inB nd.f0 0 j=false∨(inB nd.f0 0 j=true∧inB nd.f1 0 200=false)∨(inB nd.f0 0 j=true∧inB nd.f1 0 200=true):=by
          cases inB nd.f0 0 (j:Int)<;>cases inB nd.f1 0 200<;>simp
        rcases hcase with h1|⟨h1,h3⟩|⟨h1,h3⟩
        · have HNO:Aside0 (okE N=false):=⟨okE_not hjl (by rw[HND.out];unfold nodeB;rw[h1];rfl)⟩
          go_wp2_with (first|(go_at_call 69;refine(in_any _ _ _ _).mono ?_;rintro e w' ⟨rfl,rfl⟩)|(go_at_call 93;refine(isCups_any _ _).mono ?_;rintro e w' ⟨rfl,rfl⟩))
          go_ret;exact⟨by rw[HT.out,HNO.out];rfl,HBR.out.alloc HBR.out.size _⟩
        · have HNO:Aside0 (okE N=false):=⟨okE_not hjl (by rw[HND.out];unfold nodeB;rw[h1,h3];rfl)⟩
          go_wp2_with (first|(go_at_call 69;refine(in_any _ _ _ _).mono ?_;rintro e w' ⟨rfl,rfl⟩)|(go_at_call 93;refine(isCups_any _ _).mono ?_;rintro e w' ⟨rfl,rfl⟩))
          go_ret;exact⟨by rw[HT.out,HNO.out];rfl,HBR.out.alloc HBR.out.size _⟩
        · have HOK:Aside0 (nodeB j (rdN N (j:Int))=true):=⟨by rw[HND.out];unfold nodeB;rw[h1,h3];rfl⟩
          go_wp2_with (first|(go_at_call 69;refine(in_any _ _ _ _).mono ?_;rintro e w' ⟨rfl,rfl⟩)|(go_at_call 93;refine(isCups_any _ _).mono ?_;rintro e w' ⟨rfl,rfl⟩))
          go_roundg k2
          case measure=>omega
          case rel=>exact⟨j+1,(by rw[Int.natCast_add,Int.natCast_one]),⟨by have:=HJ.out;omega⟩,⟨fun i hi=>(Nat.lt_or_eq_of_le (Nat.le_of_lt_succ hi)).elim (fun h=>HI.out i h) (fun h=>h▸HOK.out)⟩,⟨HW.out.alloc HW.out.size _⟩⟩
  case inr.inl=>
    have h2':decide (6<(N.length:Int))=true:=decide_eq_true h2;have h2n:6<N.length:=by omega
    rw[h1,h2'] at HT
    go_enter Tryz.func59,Tryz.ntmps59
    go_upto_region 1 with(fail)
    try rw[hw1]
    go_wp2_with (first|(go_at_call 69;refine(in_any _ _ _ _).mono ?_;rintro e w' ⟨rfl,rfl⟩)|(go_at_call 93;refine(isCups_any _ _).mono ?_;rintro e w' ⟨rfl,rfl⟩))
    go_ret;exact⟨by rw[HT.out];rfl,HB1.out⟩
  case inr.inr.inl=>
    have h2':decide (6<(N.length:Int))=false:=decide_eq_false h2;have h2n:¬6<N.length:=by omega
    rw[h1,h2',h3] at HT
    go_enter Tryz.func59,Tryz.ntmps59
    go_upto_region 1 with(fail)
    try rw[hw1]
    go_wp2_with (first|(go_at_call 69;refine(in_any _ _ _ _).mono ?_;rintro e w' ⟨rfl,rfl⟩)|(go_at_call 93;refine(isCups_any _ _).mono ?_;rintro e w' ⟨rfl,rfl⟩))
    go_ret;exact⟨by rw[HT.out];rfl,HB1.out⟩
  case inl=>
    rw[h1] at HT
    go_enter Tryz.func59,Tryz.ntmps59
    go_upto_region 1 with(fail)
    try rw[hw1]
    go_wp2_with (first|(go_at_call 69;refine(in_any _ _ _ _).mono ?_;rintro e w' ⟨rfl,rfl⟩)|(go_at_call 93;refine(isCups_any _ _).mono ?_;rintro e w' ⟨rfl,rfl⟩))
    go_ret;exact⟨by rw[HT.out];rfl,HB1.out⟩
def d7_isTree.f (a0_0:Int) (l0_1:List SN) (l0_2:List SO):Option Bool:=if l0_1.length≤9223372036854775807∧l0_2.length≤9223372036854775807 then some (treeB a0_0 l0_1 l0_2) else none
theorem d7_isTree.calls (a0_0:Int) (A0_1:Option Addr) (c0_1:Nat) (l0_1:List SN) (A0_2:Option Addr) (c0_2:Nat) (l0_2:List SO) (r:Bool) (w:World) (hr0_1:Kd.C k77 w A0_1 l0_1.length l0_1) (hc0_1:l0_1.length≤c0_1) (hr0_2:Kd.C k51 w A0_2 l0_2.length l0_2) (hc0_2:l0_2.length≤c0_2) (h:d7_isTree.f a0_0 l0_1 l0_2=some r):
    Calls Tryz.prog 59 #[.agg #[.int .i64 a0_0,.slice A0_1 l0_1.length c0_1,.slice A0_2 l0_2.length c0_2]] w fun e w'=>e=.returned (.bool r)∧Below w.heap.size w w':=by
  unfold d7_isTree.f at h
  split at h
  · rename_i hp
    obtain rfl:=Option.some.inj h;exact isTree_any a0_0 A0_1 A0_2 c0_1 c0_2 l0_1 l0_2 w hr0_1 hc0_1 hr0_2 hc0_2 hp.1 hp.2
  · cases h
end Go.Proofs.YtjioobfeikbffabGreatDoor.K
end
section
namespace Go.Proofs.YtjioobfeikbffabGreatDoor.K
open Go.RowKit Go.Shelf Go.Proofs.Zw Go.Proofs.Zl Go.Proofs.Zm
def binF (q:Int->Bool):Nat->Int->Int->Int
  |0,lo,_=>lo
  |k+1,lo,hi=>if lo<hi then(if q ((lo+hi) / 2)=true then binF q k lo ((lo+hi) / 2) else binF q k ((lo+hi) / 2+1) hi) else lo
def firstF (N:List SN) (O:List SO) (p:List Int->Bool):Int:=binF (fun m=>p (lawF m N O)) 200 0 200
def SuitsB (I:Int) (A1 A2:Option Addr) (c1 c2:Nat) (N:List SN) (O:List SO) (g:Nat) (lb:Array Value) (p:List Int->Bool) (w:World):Prop:=
  ∀(m:Int) (W:World) (A:Option Addr) (c:Nat),0≤m->m≤200->Below w.heap.size w W->Kd.C (Kd.int .i64) W A (lawF m N O).length (lawF m N O)->(lawF m N O).length≤c->
    Calls Tryz.prog g (#[.agg #[.int .i64 m,.slice A1 N.length c1,.slice A2 O.length c2,.slice A (lawF m N O).length c]]++lb) W fun e w'=>e=.returned (.bool (p (lawF m N O)))∧Below W.heap.size W w'
set_option maxRecDepth 100000 in
set_option maxHeartbeats 1000000 in
theorem first_any {w:World} {I:Int} {A1 A2:Option Addr} {c1 c2:Nat} {N:List SN} {O:List SO} (r1:Kd.C k77 w A1 N.length N) (l1:N.length≤c1) (r2:Kd.C k51 w A2 O.length O) (l2:O.length≤c2) (hok:treeOk N O=true)
    (g:Nat) (lb:Array Value) (p:List Int->Bool) (eg:∀args w,(callFunc g args).run Tryz.prog w=.ok (.enter g args) w) (hp:SuitsB I A1 A2 c1 c2 N O g lb p w):
    Calls Tryz.prog 96 #[.agg #[.int .i64 I,.slice A1 N.length c1,.slice A2 O.length c2],.func (.func g) #[] lb] w fun e w'=>e=.returned (.tuple #[.int .i64 (firstF N O p),.bool (p (lawF (firstF N O p) N O))])∧Below w.heap.size w w':=by
  have hu1:=Tryz.underlying25;have HR1:=aM r1;have HR2:=aM r2;have HL:=aM (And.intro l1 l2);have HOK:=aM hok;have HP:=aM hp;clear r1 r2 l1 l2 hok hp
  
  have CL:Aside0 (∀ (m:Int) (W:World),Below w.heap.size w W->Calls Tryz.prog 61 #[.agg #[.int .i64 I,.slice A1 N.length c1,.slice A2 O.length c2],.int .i64 m] W fun e w'=>∃(A:Option Addr) (c:Nat),e=.returned (.agg #[.int .i64 m,.slice A1 N.length c1,.slice A2 O.length c2,.slice A (lawF m N O).length c])∧Aside0 (Kd.C (Kd.int .i64) w' A (lawF m N O).length (lawF m N O)∧(lawF m N O).length≤c)∧Below W.heap.size W w'):=⟨fun m W hW=>by
    refine(d7_law.calls I A1 c1 N A2 c2 O m m N O (lawF m N O) W (Kd.C_below HR1.out hW) HL.out.1 (Kd.C_below HR2.out hW) HL.out.2 (by unfold d7_law.f;rw[if_pos HOK.out])).mono ?_;rintro e w' ⟨v,rfl,hR,hb⟩;obtain⟨A,c,rfl,hl,hC⟩:=Kd.R_reads hR
    exact⟨A,c,rfl,⟨hC,hl⟩,hb⟩⟩
  go_enter Tryz.func96,Tryz.ntmps96
  go_upto_region 1 with(fail)
  generalize hW0:World.alloc w _=W0;have HB0:Aside0 (Below w.heap.size w W0):=⟨by rw[← hW0];exact(Below.refl _ _).alloc (Nat.le_refl _) _⟩;have HT0:Aside0 (W0.heap[w.heap.size]? =some (.cells #[.int .i64 I,.slice A1 N.length c1,.slice A2 O.length c2] 25 (0,0))):=⟨by rw[← hW0];exact blk_new _ _⟩;clear hW0;go_wp2
  go_loopg [6,7] 200 (fun kq v6 v7 w'=>∃lo hi:Int,v6=.int .i64 lo∧v7=.int .i64 hi∧Aside0 (0≤lo∧lo≤hi∧hi≤200∧hi-lo≤kq)∧Aside0 (binF (fun m=>p (lawF m N O)) kq lo hi=firstF N O p)∧Aside0 (Below W0.heap.size W0 w'))
  case atStart=>exact⟨0,200,rfl,rfl,⟨by omega⟩,⟨rfl⟩,⟨Below.refl _ _⟩⟩
  case round=>
    obtain⟨lo,hi,rfl,rfl,HJ,HI,HW⟩:=hrel;have hbr:=below_step HB0.out HW.out;have hT:=blk_below HT0.out HW.out;have y0:wr.cell? ⟨w.heap.size,0,none⟩=some (.int .i64 I):=(blk_cell hT 0).trans rfl;have y1:wr.cell? ⟨w.heap.size,1,none⟩=some (.slice A1 N.length c1):=(blk_cell hT 1).trans rfl;have y2:wr.cell? ⟨w.heap.size,2,none⟩=some (.slice A2 O.length c2):=(blk_cell hT 2).trans rfl;have HBR:=aM hbr;clear hbr hT
    by_cases hlt:lo<hi
    · have c3:decide (lo<hi)=true:=decide_eq_true hlt;have hs:wrap64 (lo+hi)=lo+hi:=IntWalk.wrap64_in _ (by have:=HJ.out;omega);obtain⟨mid,hmid⟩:∃mid,(lo+hi) / 2=mid:=⟨_,rfl⟩
      have hm:wrap64 ((lo+hi).tdiv 2)=mid:=by
        have:=HJ.out;rw[Int.tdiv_eq_ediv_of_nonneg (by omega),IntWalk.wrap64_in _ (by omega),hmid]
      have HMD:Aside0 (lo≤mid∧mid<hi):=⟨by omega⟩;obtain⟨k2,rfl⟩:∃k2,gk=k2+1:=⟨gk-1,by have:=HJ.out;omega⟩
      have HI2:Aside0 ((if p (lawF mid N O)=true then binF (fun m=>p (lawF m N O)) k2 lo mid else binF (fun m=>p (lawF m N O)) k2 (mid+1) hi)=firstF N O p):=⟨by
        rw[← HI.out,←hmid]
        exact(if_pos hlt).symm⟩
      have hm1:wrap64 (mid+1)=mid+1:=IntWalk.wrap64_in _ (by have:=HJ.out;have:=HMD.out;omega);clear hmid hlt
      cases hq:p (lawF mid N O)
      · go_wp2_with (go_at_call 61;refine(CL.out _ _ HBR.out).mono ?_;rintro e w2 ⟨A,c,rfl,HC2,hb2⟩)
        (try rw[hm]);refine(HP.out mid w2 A c (by have:=HJ.out;have:=HMD.out;omega) (by have:=HJ.out;have:=HMD.out;omega) (below_step HBR.out hb2) HC2.out.1 HC2.out.2).mono ?_;rintro e w3 ⟨rfl,hb3⟩;rw[hq];have HW3:Aside0 (Below W0.heap.size W0 w3):=⟨below_step (below_step HW.out hb2) hb3⟩;have HI3:Aside0 (binF (fun m=>p (lawF m N O)) k2 (mid+1) hi=firstF N O p):=⟨by have:=HI2.out;rw[hq] at this;exact this⟩;clear hq
        dsimp only
        go_wp2
        go_roundg k2
        case measure=>omega
        case rel=>exact⟨mid+1,hi,by first|rfl|rw[hm1],rfl,⟨by have:=HJ.out;have:=HMD.out;omega⟩,HI3,HW3⟩
      · go_wp2_with (go_at_call 61;refine(CL.out _ _ HBR.out).mono ?_;rintro e w2 ⟨A,c,rfl,HC2,hb2⟩)
        (try rw[hm]);refine(HP.out mid w2 A c (by have:=HJ.out;have:=HMD.out;omega) (by have:=HJ.out;have:=HMD.out;omega) (below_step HBR.out hb2) HC2.out.1 HC2.out.2).mono ?_;rintro e w3 ⟨rfl,hb3⟩;rw[hq];have HW3:Aside0 (Below W0.heap.size W0 w3):=⟨below_step (below_step HW.out hb2) hb3⟩;have HI3:Aside0 (binF (fun m=>p (lawF m N O)) k2 lo mid=firstF N O p):=⟨by have:=HI2.out;rw[hq] at this;exact this⟩;clear hq
        dsimp only
        go_wp2
        go_roundg k2
        case measure=>omega
        case rel=>exact⟨lo,mid,rfl,rfl,⟨by have:=HJ.out;have:=HMD.out;omega⟩,HI3,HW3⟩
    · have c3:decide (lo<hi)=false:=decide_eq_false hlt
      have HE:Aside0 (lo=firstF N O p):=⟨by
        rw[← HI.out]
        cases gk with
        |zero=>rfl
        |succ k=>exact(if_neg hlt).symm⟩
      clear hlt
      go_wp2_with (go_at_call 61;refine(CL.out _ _ HBR.out).mono ?_;rintro e w2 ⟨A,c,rfl,HC2,hb2⟩)
      refine(HP.out lo w2 A c (by have:=HJ.out;omega) (by have:=HJ.out;omega) (below_step HBR.out hb2) HC2.out.1 HC2.out.2).mono ?_;rintro e w3 ⟨rfl,hb3⟩
      dsimp only
      go_wp2
      go_ret2
      exact⟨by rw[← HE.out];rfl,below_step (below_step HBR.out hb2) hb3⟩
end Go.Proofs.YtjioobfeikbffabGreatDoor.K
end
section
namespace Go.Proofs.YtjioobfeikbffabGreatDoor.K
open Go.RowKit Go.Proofs.Zw Go.Proofs.Zl Go.Proofs.Zm
attribute [local go_sem] max2_int min2_int max_two min_two max_three min_three max_four min_four
def d7_isClass.f (a0:Int):Option (Bool):=(d7_in.f a0 0 3).bind fun t122=>(some t122)
set_option maxHeartbeats 8000000 in
set_option maxRecDepth 100000 in
theorem d7_isClass.calls (a0:Int) (r:Bool) (w:World) (h:d7_isClass.f a0=some r):
  Calls Tryz.prog 85 #[.int .i64 a0] w fun e w'=>e=.returned (.bool r)∧Drawn0 w w':=by
 have H:((d7_in.f a0 0 3).bind fun t122=>(some t122))=some r:=h;clear h;replace H:=Option.bind_eq_some_iff.mp H;obtain⟨t122,A20,H⟩:=H;replace H:(some t122)=some r:=H;have A2:=aM A20;clear A20;obtain rfl:=Option.some.inj H
 go_enter Tryz.func85,Tryz.ntmps85
 go_wp2_with (first|((with_reducible refine gate_callee (f:=69) rfl ?_);refine goesL_ (some 4) rfl rfl Tryz.func69 (by kernel_rfl) rfl #[.int .i64 a0,.int .i64 0,.int .i64 3] rfl uM ?_;(with_reducible refine(d7_in.calls a0 0 3 t122 _ A2.out).mono ?_);rintro e w' ⟨rfl,⟨nd,rfl⟩⟩;refine⟨_,rfl,?_⟩))
 go_ret;exact⟨u0,by repeat(first|exact Drawn0.refl _|apply Drawn0.step)⟩
end Go.Proofs.YtjioobfeikbffabGreatDoor.K
end
