/-
  Proved: SignalAllowed: for every input the call returns true, and each argument reads afterwards as it read before; there is no condition.
-/
import Derived.Test.YtolfgnbldofcjaaT4
import Derived.Test.YtolfgnbldofcjaaProg
import Derived.KernelRfl
set_option linter.unusedVariables false
set_option linter.unusedSimpArgs false
set_option linter.unusedSectionVars false
set_option maxRecDepth 100000
set_option maxHeartbeats 0
noncomputable section
namespace Go.Am
def ctr21:Ctr:=
 ⟨21,[.agg [.list 2, .list 1], .agg [.int .i64, .int .i64]],[],[(.ret,⟨[(0, .tuple [.bool, .int .i64])],[],1⟩)]⟩
def la21:List LA:=
 []
def ja21:List JA:=
 []
def gam21:List CF:=
 [⟨ctr57,G57⟩,⟨ctr53,G53⟩,⟨ctr48,G48⟩]
def an21:Anns:=
 ⟨gam21,ja21,[]⟩
def g21 (it:It):(p:Prim)→(LD×(LD×T4))→Option T34:=
 fun p x=>
 opt.alt T0 ((LD×(LD×(LD×T1)))) _ (g48 it p (x.1,(x.2.1,()))) (fun a=>
 opt.ask _ (p.cmp .neq a.1 (0:Int)) (
 opt.ret _ (Bool.false,(a.1,()))) (
 opt.need _ (p.and Bool.true (p.and Bool.true (p.and (p.leN (p.add 0 1) (p.len [[(D.int .i64 x.2.2.1),(D.int .i64 x.2.2.2.1)]])) Bool.true)))<|
 opt.bnd T2 _ (g53 it p ((-1099511627776:Int),((1099511627776:Int),((p.cut [[(D.int .i64 x.2.2.1),(D.int .i64 x.2.2.2.1)]] 0 1),())))) fun b=>
 opt.ask _ (bif b.1 then Bool.false else Bool.true) (
 opt.ret _ (Bool.false,((3:Int),()))) (
 opt.no _ 41))) (fun c=>
 opt.bnd ((LD×(LD×(LD×T1)))) _ (some c) fun d=>
 opt.ask _ (p.cmp .neq d.2.2.2.1 (0:Int)) (
 opt.ret _ (Bool.false,(d.2.2.2.1,()))) (
 opt.need _ (p.and Bool.true (p.and Bool.true (p.and (p.leN (p.add 0 1) (p.len [[(D.int .i64 x.2.2.1),(D.int .i64 x.2.2.2.1)]])) Bool.true)))<|
 opt.bnd T2 _ (g53 it p ((-1099511627776:Int),((1099511627776:Int),((p.cut [[(D.int .i64 x.2.2.1),(D.int .i64 x.2.2.2.1)]] 0 1),())))) fun e=>
 opt.ask _ (bif e.1 then Bool.false else Bool.true) (
 opt.ret _ (Bool.false,((3:Int),()))) (
 opt.bnd T2 _ (g57 it p (d.2.2.1,(x.2.2.1,(x.2.2.2.1,((1:Int),()))))) fun f=>
 opt.ret _ (f.1,((0:Int),())))))
def G21:=g21 it0
theorem ok21:CtrOk PG ctr21 (G21 std):=okF (a:=an21) (l:=la21) (gC ok57 (gC ok53 (gC ok48 (gN)))) (by kernel_rfl) fun _ _=>by kernel_rfl
def ctr23:Ctr:=
 ⟨23,[.agg [.list 2, .list 1], .list 2],[],[(.ret,⟨[(0, .tuple [.agg [.int .i64, .int .i64], .int .i64])],[],1⟩)]⟩
def la23:List LA:=
 [⟨23,[false,true,false,true,true,true,true],0,⟨⟨[(4, .bptr 0 0),(8, .list 2),(37, .list 2),(38, .int .i64),(39, .int .i64)],[.box [.int .i64, .int .i64]],54⟩,[(AX.ret,⟨[(4, .bptr 0 0),(5, .int .i64)],[.box [.int .i64, .int .i64]],54⟩),((AX.exit 1),⟨[(4, .bptr 0 0)],[.box [.int .i64, .int .i64]],54⟩)]⟩⟩]
def ja23:List JA:=
 [⟨23,[true,true,true,false,false,true,true],0,[(AX.ret,⟨[(4, .bptr 0 0),(5, .int .i64)],[.box [.int .i64, .int .i64]],54⟩),(AX.normal,⟨[(1, .list 2),(4, .bptr 0 0),(6, .nilp)],[.box [.int .i64, .int .i64]],54⟩),(AX.normal,⟨[(1, .list 2),(4, .bptr 0 0),(6, .bptr 1 0)],[.box [.int .i64, .int .i64], .box [.list 2, .list 1, .list 2]],54⟩)]⟩,
 ⟨23,[true,false,false,true,true],0,[(AX.ret,⟨[(4, .bptr 0 0),(5, .int .i64)],[.box [.int .i64, .int .i64]],54⟩),(AX.normal,⟨[(1, .list 2),(4, .bptr 0 0),(6, .nilp)],[.box [.int .i64, .int .i64]],54⟩),(AX.normal,⟨[(1, .list 2),(4, .bptr 0 0),(6, .bptr 1 0)],[.box [.int .i64, .int .i64], .box [.list 2, .list 1, .list 2]],54⟩)]⟩]
def gam23:List CF:=
 [⟨ctr57,G57⟩,⟨ctr59,G59⟩,⟨ctr60,G60⟩,⟨ctr53,G53⟩,⟨ctr50,G50⟩,⟨ctr48,G48⟩]
def an23:Anns:=
 ⟨gam23,ja23,[]⟩
def c23_2 (it:It) (p:Prim):T72→Option T73:=
 fun a=>opt.run _ (
 opt.ask _ (p.cmp .lss a.2.2.2.2.2.1 a.2.2.2.2.1) (
 opt.need _ (p.rowOk a.2.2.2.1 (p.nat a.2.2.2.2.2.1) [ci,ci])<|
 opt.need _ (p.cmp .geq a.2.2.2.2.2.1 (0:Int))<|
 opt.bnd T2 _ (g57 it p (a.2.2.1,((p.rdI a.2.2.2.1 (p.nat a.2.2.2.2.2.1) 0),((p.rdI a.2.2.2.1 (p.nat a.2.2.2.2.2.1) 1),((1:Int),()))))) fun b=>
 opt.ask _ (bif b.1 then Bool.false else Bool.true) (
 opt.ret _ (Sum.inr (Sum.inl ((p.rdI a.2.2.2.1 (p.nat a.2.2.2.2.2.1) 0),((p.rdI a.2.2.2.1 (p.nat a.2.2.2.2.2.1) 1),((0:Int),())))))) (
 opt.ret _ (Sum.inl (a.1,(a.2.1,(a.2.2.1,(a.2.2.2.1,(a.2.2.2.2.1,((p.ar .add .i64 a.2.2.2.2.2.1 (1:Int)),()))))))))) (
 opt.ret _ (Sum.inr (Sum.inr (a.1,(a.2.1,()))))))
def c23_1 (it:It) (p:Prim):T72→Option T73:=
 fun a=>opt.run _ (
 opt.ask _ (p.cmp .lss a.2.2.2.2.2.1 a.2.2.2.2.1) (
 opt.need _ (p.rowOk a.2.2.2.1 (p.nat a.2.2.2.2.2.1) [ci,ci])<|
 opt.need _ (p.cmp .geq a.2.2.2.2.2.1 (0:Int))<|
 opt.bnd T2 _ (g57 it p (a.2.2.1,((p.rdI a.2.2.2.1 (p.nat a.2.2.2.2.2.1) 0),((p.rdI a.2.2.2.1 (p.nat a.2.2.2.2.2.1) 1),((1:Int),()))))) fun b=>
 opt.ask _ (bif b.1 then Bool.false else Bool.true) (
 opt.ret _ (Sum.inr (Sum.inl ((p.rdI a.2.2.2.1 (p.nat a.2.2.2.2.2.1) 0),((p.rdI a.2.2.2.1 (p.nat a.2.2.2.2.2.1) 1),((0:Int),())))))) (
 opt.ret _ (Sum.inl (a.1,(a.2.1,(a.2.2.1,(a.2.2.2.1,(a.2.2.2.2.1,((p.ar .add .i64 a.2.2.2.2.2.1 (1:Int)),()))))))))) (
 opt.ret _ (Sum.inr (Sum.inr (a.1,(a.2.1,()))))))
def g23 (it:It):(p:Prim)→(LD×(LD×(LD×Unit)))→Option T7:=
 fun p x=>
 opt.alt T0 ((LD×(LD×(LD×T1)))) _ (g48 it p (x.1,(x.2.1,()))) (fun a=>
 opt.alt T7 T35 _ (
 opt.run T36 (
 opt.ask _ (p.cmp .neq a.1 (0:Int)) (
 opt.ret _ (Sum.inl ((0:Int),((0:Int),(a.1,()))))) (
 opt.bnd T2 _ (G50 p (x.2.2.1,())) fun b=>
 opt.alt T7 T35 _ (
 opt.run T36 (
 opt.ask _ (bif b.1 then Bool.false else Bool.true) (
 opt.ret _ (Sum.inl ((0:Int),((0:Int),((6:Int),()))))) (
 opt.bnd T2 _ (g53 it p ((-10000:Int),((10000:Int),(x.2.2.1,())))) fun c=>
 opt.ask _ (bif c.1 then Bool.false else Bool.true) (
 opt.ret _ (Sum.inl ((0:Int),((0:Int),((3:Int),()))))) (
 opt.ret _ (Sum.inr (Sum.inl ((0:Int),((0:Int),(x.2.2.1,()))))))))) (fun d=>
 opt.ret _ (Sum.inl (d.1,(d.2.1,(d.2.2.1,()))))) (fun e=>
 opt.alt T23 T15 _ (some e) (fun f=>
 opt.ret _ (Sum.inr (Sum.inl (f.1,(f.2.1,(f.2.2.1,())))))) (fun g=>
 opt.bnd T15 _ (some g) fun h=>
 opt.ret _ (Sum.inr (Sum.inr (h.1,(h.2.1,(h.2.2.1,(h.2.2.2.1,(h.2.2.2.2.1,(h.2.2.2.2.2.1,()))))))))))))) (fun i=>
 opt.ret _ (i.1,(i.2.1,(i.2.2.1,())))) (fun j=>
 opt.alt T23 T15 _ (some j) (fun k=>
 opt.bnd ((LD×Unit)) _ (g60 it p (k.2.2.1,())) fun l=>
 opt.bnd ((LD×Unit)) _ (g59 it p (l.1,())) fun m=>
 opt.no _ 41) (fun n=>
 opt.bnd T15 _ (some n) fun o=>
 opt.bnd ((LD×Unit)) _ (g60 it p (o.2.2.2.2.2.1,())) fun q=>
 opt.bnd ((LD×Unit)) _ (g59 it p (q.1,())) fun r=>
 opt.alt T7 T5 _ (
 it _ _ (c23_1 it p) (o.1,(o.2.1,(r.1,(o.2.2.2.2.1,((p.ofNat (p.len o.2.2.2.2.1)),((0:Int),()))))))) (fun t=>
 opt.ret _ (t.1,(t.2.1,(t.2.2.1,())))) (fun u=>
 opt.bnd T5 _ (some u) fun v=>
 opt.ret _ ((0:Int),((0:Int),((5:Int),()))))))) (fun w=>
 opt.bnd ((LD×(LD×(LD×T1)))) _ (some w) fun z=>
 opt.alt T7 T35 _ (
 opt.run T36 (
 opt.ask _ (p.cmp .neq z.2.2.2.1 (0:Int)) (
 opt.ret _ (Sum.inl ((0:Int),((0:Int),(z.2.2.2.1,()))))) (
 opt.bnd T2 _ (G50 p (x.2.2.1,())) fun a1=>
 opt.alt T7 T35 _ (
 opt.run T36 (
 opt.ask _ (bif a1.1 then Bool.false else Bool.true) (
 opt.ret _ (Sum.inl ((0:Int),((0:Int),((6:Int),()))))) (
 opt.bnd T2 _ (g53 it p ((-10000:Int),((10000:Int),(x.2.2.1,())))) fun b1=>
 opt.ask _ (bif b1.1 then Bool.false else Bool.true) (
 opt.ret _ (Sum.inl ((0:Int),((0:Int),((3:Int),()))))) (
 opt.ret _ (Sum.inr (Sum.inr ((0:Int),((0:Int),(z.1,(z.2.1,(z.2.2.1,(x.2.2.1,())))))))))))) (fun c1=>
 opt.ret _ (Sum.inl (c1.1,(c1.2.1,(c1.2.2.1,()))))) (fun d1=>
 opt.alt T23 T15 _ (some d1) (fun e1=>
 opt.ret _ (Sum.inr (Sum.inl (e1.1,(e1.2.1,(e1.2.2.1,())))))) (fun f1=>
 opt.bnd T15 _ (some f1) fun g1=>
 opt.ret _ (Sum.inr (Sum.inr (g1.1,(g1.2.1,(g1.2.2.1,(g1.2.2.2.1,(g1.2.2.2.2.1,(g1.2.2.2.2.2.1,()))))))))))))) (fun h1=>
 opt.ret _ (h1.1,(h1.2.1,(h1.2.2.1,())))) (fun i1=>
 opt.alt T23 T15 _ (some i1) (fun j1=>
 opt.bnd ((LD×Unit)) _ (g60 it p (j1.2.2.1,())) fun k1=>
 opt.bnd ((LD×Unit)) _ (g59 it p (k1.1,())) fun l1=>
 opt.no _ 41) (fun m1=>
 opt.bnd T15 _ (some m1) fun n1=>
 opt.bnd ((LD×Unit)) _ (g60 it p (n1.2.2.2.2.2.1,())) fun o1=>
 opt.bnd ((LD×Unit)) _ (g59 it p (o1.1,())) fun q1=>
 opt.alt T7 T5 _ (
 it _ _ (c23_2 it p) (n1.1,(n1.2.1,(q1.1,(n1.2.2.2.2.1,((p.ofNat (p.len n1.2.2.2.2.1)),((0:Int),()))))))) (fun r1=>
 opt.ret _ (r1.1,(r1.2.1,(r1.2.2.1,())))) (fun t1=>
 opt.bnd T5 _ (some t1) fun u1=>
 opt.ret _ ((0:Int),((0:Int),((5:Int),())))))))
def G23:=g23 it0
theorem ok23:CtrOk PG ctr23 (G23 std):=okF (a:=an23) (l:=la23) (gC ok57 (gC ok59 (gC ok60 (gC ok53 (gC ok50 (gC ok48 (gN))))))) (by kernel_rfl) fun _ _=>by kernel_rfl
end Go.Am
end
section
namespace M06
def ml (a:Pt) (den:Int):Pt:=(a.1*den,a.2*den)
def sideOk (n:Nat) (a b p:Pt) (den:Int):Bool:=if crs (sb b a) (sb p (ml a den))<0 then false else if n=2 then !decide (dt (sb b a) (sb p (ml a den))<0) else true
def inC (c:List Pt) (p:Pt) (den:Int):Bool:=
 if c.length=1 then decide (p=ml (c.getD 0 (0,0)) den) else (List.range c.length).all fun i=>sideOk c.length (c.getD i (0,0)) (c.getD ((i+1) % c.length) (0,0)) p den
def InH (S:List Pt) (p:Pt) (den:Int):Prop:=∀ d:Pt,∃ x∈S,0≤crs d (sb p (ml x den))
theorem sb_ml (p a b:Pt) (k:Int) (d:Pt):crs d (sb p (ml b k))=crs d (sb p (ml a k))+k*crs d (sb a b):=by simp only [crs,sb,ml]; grind
theorem InH.sub {S T:List Pt} {p:Pt} {k:Int} (h:InH S p k) (hs:∀ x∈S,x∈T):InH T p k:=fun d=>by
 obtain ⟨x,hx,h0⟩:=h d
 exact ⟨x,hs x hx,h0⟩
theorem cyc_far {S c:List Pt} (h:Cyc S c) (d:Pt):∃ a∈c,∀ x∈S,0≤crs d (sb x a):=by
 by_cases hd:d=(0,0)
 ·subst hd
  match c,h with
  |a::r,_=>exact ⟨a,by simp,fun x _=>by simp [crs]⟩
 ·have h1:=cyc_face h hd
  have h2:=cyc_face (cyc_self h) hd
  exact ⟨_,h2.ina,h1.left⟩
theorem flat_corner {S:List Pt} {q a b:Pt} (hq:q∈S) (h1:Nx S q a) (h2:Nx S a b) (h0:crs (sb a q) (sb b a)=0):q=b:=by
 have z1:cr q a b=0:=by
  have e:cr q a b=crs (sb a q) (sb b a):=by simp only [cr,crs,sb]; grind
  omega
 have z2:cr a b q=0:=by
  have e:cr a b q=crs (sb a q) (sb b a):=by simp only [cr,crs,sb]; grind
  omega
 have d1:=((h1.2.2 b h2.1).2 z1).1
 refine nx_last h2 hq z2 ?_
 have hu:=dt_self_pos (u:=sb a q) (fun e=>h1.2.1 (sb_eq_zero.1 e).symm)
 have hl:=lag (sb a q) (sb b a)
 rw [h0] at hl
 have e1:far a q=dt (sb a q) (sb a q):=by simp only [far,dt,sb]
 have e2:far a b=dt (sb b a) (sb b a):=by simp only [far,dt,sb]; grind
 have e3:dt (sb a q) (sb b q)=dt (sb a q) (sb a q)+dt (sb a q) (sb b a):=by simp only [dt,sb]; grind
 have d2:=((h2.2.2 q hq).2 z2).1
 have e4:dt (sb b a) (sb q a)= - dt (sb a q) (sb b a):=by simp only [dt,sb]; grind
 rw [e1,e2]
 generalize dt (sb a q) (sb a q)=n at*
 generalize dt (sb b a) (sb b a)=m at*
 generalize dt (sb a q) (sb b a)=t at*
 have hm:(-t)*(-t)≤n*n:=Int.mul_le_mul (by omega) (by omega) (by omega) (by omega)
 rw [Int.neg_mul_neg] at hm
 have hnm:n*m≤n*n:=by omega
 refine Classical.byContradiction fun hc=>?_
 have:=Int.mul_lt_mul_of_pos_left (show n<m by omega) hu
 omega
theorem getD_some {α:Type} {l:List α} {i:Nat} {a d:α} (h:l[i]?=some a):l.getD i d=a:=by simp [List.getD_eq_getElem?_getD,h]
theorem corner_index {c:List Pt} (h:Cyc c c) (h2:2≤c.length) {a b:Pt} (ha:a∈c) (hn:Nx c a b):∃ i,i<c.length∧c[i]?=some a∧c[(i+1) % c.length]?=some b:=by
 obtain ⟨i,hi⟩:=List.getElem?_of_mem ha
 have hil:=(List.getElem?_eq_some_iff.1 hi).1
 have hx:∃ y,c[(i+1) % c.length]?=some y:=⟨_,List.getElem?_eq_getElem (Nat.mod_lt _ (by omega))⟩
 obtain ⟨y,hy⟩:=hx
 have:=nx_unique hn (cyc_get h h2 hi hy)
 subst this
 exact ⟨i,hil,hi,hy⟩
theorem nodup_idx {α:Type} {l:List α} (h:l.Nodup) {i j:Nat} {a:α} (hi:l[i]?=some a) (hj:l[j]?=some a):i=j:=by
 obtain ⟨i1,i2⟩:=List.getElem?_eq_some_iff.1 hi
 obtain ⟨j1,j2⟩:=List.getElem?_eq_some_iff.1 hj
 have hp:=List.pairwise_iff_getElem.1 h
 rcases Nat.lt_trichotomy i j with k|k|k
 ·exact absurd (i2.trans j2.symm) (hp i j i1 j1 k)
 ·exact k
 ·exact absurd (j2.trans i2.symm) (hp j i j1 i1 k)
theorem sideOk_iff {n:Nat} {a b p:Pt} {k:Int}:sideOk n a b p k=true↔0≤crs (sb b a) (sb p (ml a k))∧(n=2→0≤dt (sb b a) (sb p (ml a k))):=by
 unfold sideOk
 split
 ·rename_i h
  exact ⟨fun h=>by simp at h,fun h'=>by omega⟩
 ·rename_i h
  split
  ·rename_i h2
   rw [Bool.not_eq_true',decide_eq_false_iff_not]
   exact ⟨fun h'=>⟨by omega,fun _=>by omega⟩,fun h'=>by have:=h'.2 h2; omega⟩
  ·rename_i h2
   exact ⟨fun _=>⟨by omega,fun e=>absurd e h2⟩,fun _=>rfl⟩
theorem inC_iff {S c:List Pt} (h:Cyc S c) {p:Pt} {k:Int} (hk:0<k):inC c p k=true↔InH c p k:=by
 have hc:=cyc_self h
 have hne:1≤c.length:=by
  match c,h with
  |a::r,_=>simp
 unfold inC
 by_cases h1:c.length=1
 ·rw [if_pos h1]
  obtain ⟨a,rfl⟩:∃ a,c=[a]:=by
   match c,h1 with
   |[a],_=>exact ⟨a,rfl⟩
  show decide (p=ml a k)=true↔_
  rw [decide_eq_true_eq]
  constructor
  ·rintro rfl d
   exact ⟨a,by simp,by simp [crs,sb]⟩
  ·intro hp
   have q:∀ d:Pt,0≤crs d (sb p (ml a k)):=fun d=>by
    obtain ⟨x,hx,h0⟩:=hp d
    simp at hx; subst hx; exact h0
   have q1:=q (1,0)
   have q2:=q (-1,0)
   have q3:=q (0,1)
   have q4:=q (0, -1)
   simp only [crs,sb] at q1 q2 q3 q4
   exact Prod.ext (by omega) (by omega)
 ·have h2:2≤c.length:=by omega
  rw [if_neg h1,List.all_eq_true]
  constructor
  ·intro hall
   have side:∀ {a b:Pt},a∈c→Nx c a b→0≤crs (sb b a) (sb p (ml a k))∧(c.length=2→0≤dt (sb b a) (sb p (ml a k))):=by
    intro a b ha hn
    obtain ⟨i,hi,i1,i2⟩:=corner_index hc h2 ha hn
    have:=hall i (List.mem_range.2 hi)
    rw [getD_some i1,getD_some i2] at this
    exact sideOk_iff.1 this
   intro d
   by_cases hd:d=(0,0)
   ·subst hd
    obtain ⟨a,ha⟩:∃ a,a∈c:=by
     match c,hne with
     |a::r,_=>exact ⟨a,by simp⟩
    exact ⟨a,ha,by simp [crs]⟩
   ·obtain ⟨α,a1,_,a3⟩:∃ α,α∈c∧True∧((∃ β,Nx c α β∧Same d (sb β α))∨∃ q β,q∈c∧Nx c q α∧Nx c α β∧0<crs (sb α q) d∧0<crs d (sb β α)):=by
     match c,hc,h2 with
     |a::b::r,hc,_=>
      obtain ⟨α,k1,k2,k3⟩:=cyc_dir hc hd
      exact ⟨α,k1,trivial,k3.imp (fun ⟨β,x,y,_⟩=>⟨β,x,y⟩) (fun ⟨_,x⟩=>x)⟩
    refine ⟨α,a1,?_⟩
    rcases a3 with ⟨β,b1,b2⟩|⟨q,β,b1,b2,b3,b4,b5⟩
    ·have hs:=(side a1 b1).1
     have hm:=(b2.symm.mul (sb p (ml α k))).1
     exact (nonneg_of_mul (dt_self_pos b2.symm.ne) b2.symm.2 hm).1.2 hs
    ·have s1:=(side b1 b2).1
     have s2:=side a1 b3
     have e1:crs (sb α q) (sb p (ml q k))=crs (sb α q) (sb p (ml α k)):=by simp only [crs,sb,ml]; grind
     rw [e1] at s1
     have hD:0≤crs (sb α q) (sb β α):=by
      have:=(b2.2.2 β b3.1).1
      have e:cr q α β=crs (sb α q) (sb β α):=by simp only [cr,crs,sb]; grind
      omega
     have hflat:crs (sb α q) (sb β α)=0→c.length=2:=by
      intro h0
      have hqb:=flat_corner b1 b2 b3 h0
      subst hqb
      obtain ⟨i,i0,i1,i2⟩:=corner_index hc h2 a1 b3
      obtain ⟨j,j0,j1,j2⟩:=corner_index hc h2 b1 b2
      have hnd:=cyc_nodup hc
      have x1:=nodup_idx hnd i1 j2
      have x2:=nodup_idx hnd i2 j1
      by_cases w1:i+1<c.length
      ·rw [Nat.mod_eq_of_lt w1] at x2
       by_cases w2:j+1<c.length
       ·rw [Nat.mod_eq_of_lt w2] at x1; omega
       ·have:j+1=c.length:=by omega
        rw [this,Nat.mod_self] at x1; omega
      ·have:i+1=c.length:=by omega
       rw [this,Nat.mod_self] at x2
       by_cases w2:j+1<c.length
       ·rw [Nat.mod_eq_of_lt w2] at x1; omega
       ·omega
     have hn:sb β α≠(0,0):=fun e=>b3.2.1 (sb_eq_zero.1 e).symm
     generalize sb α q=u at*
     generalize sb β α=n at*
     generalize sb p (ml α k)=v at*
     have id1:crs u n*crs d v=crs d n*crs u v+crs u d*crs n v:=by simp only [crs]; grind
     have m1:=Int.mul_nonneg (Int.le_of_lt b5) s1
     have m2:=Int.mul_nonneg (Int.le_of_lt b4) s2.1
     rcases Int.lt_or_eq_of_le hD with hD|hD
     ·refine Classical.byContradiction fun hc=>?_
      have:=Int.mul_neg_of_pos_of_neg hD (Int.not_le.1 hc)
      omega
     ·have hdt:=s2.2 (hflat hD.symm)
      rw [←hD,Int.zero_mul] at id1
      have z2:crs u d*crs n v=0:=by omega
      have z2:crs n v=0:=by rcases Int.mul_eq_zero.1 z2 with h|h<;>omega
      have id2:dt n n*crs d v=dt n v*crs d n+crs n v*dt n d:=by simp only [crs,dt]; grind
      rw [z2,Int.zero_mul,Int.add_zero] at id2
      have m3:=Int.mul_nonneg hdt (Int.le_of_lt b5)
      refine Classical.byContradiction fun hc=>?_
      have:=Int.mul_neg_of_pos_of_neg (dt_self_pos hn) (Int.not_le.1 hc)
      omega
  ·intro hp i hi
   have hi:=List.mem_range.1 hi
   obtain ⟨a,ha⟩:∃ a,c[i]?=some a:=⟨_,List.getElem?_eq_getElem hi⟩
   obtain ⟨b,hb⟩:∃ b,c[(i+1) % c.length]?=some b:=⟨_,List.getElem?_eq_getElem (Nat.mod_lt _ (by omega))⟩
   rw [getD_some ha,getD_some hb,sideOk_iff]
   have hn:=cyc_get hc h2 ha hb
   refine ⟨?_,fun hl=>?_⟩
   ·obtain ⟨x,hx,h0⟩:=hp (sb b a)
    have:=(hn.2.2 x hx).1
    have e:cr a b x=crs (sb b a) (sb x a):=rfl
    rw [sb_ml p x a k]
    have:=Int.mul_nonneg (Int.le_of_lt hk) (show 0≤crs (sb b a) (sb x a) by omega)
    omega
   ·
    obtain ⟨x,hx,h0⟩:=hp ((sb b a).2, -(sb b a).1)
    have hab:x=a∨x=b:=by
     match c,hl,ha,hb,hx with
     |[u,v],_,ha,hb,hx=>
      have hi2:i<2:=by simpa using hi
      have:i=0∨i=1:=by omega
      rcases this with rfl|rfl
      ·simp at ha hb hx; subst ha; subst hb; exact hx
      ·simp at ha hb hx; subst ha; subst hb; exact hx.symm
    have e:∀ v:Pt,crs ((sb b a).2, -(sb b a).1) v=dt (sb b a) v:=fun v=>by simp only [crs,dt]; grind
    rw [e] at h0
    rcases hab with rfl|rfl
    ·exact h0
    ·have e2:dt (sb x a) (sb p (ml a k))=dt (sb x a) (sb p (ml x k))+k*dt (sb x a) (sb x a):=by simp only [dt,sb,ml]; grind
     rw [e2]
     have:=Int.mul_nonneg (Int.le_of_lt hk) (dt_self_nonneg (sb x a))
     omega
end M06
end
section
namespace Go.Am
open M06
def Big (p:Pt):Prop:=inBox (-1099511627776) 1099511627776 p
theorem bnd_mul {a b A B:Int} (hA:0≤A) (h1: -A≤a) (h2:a≤A) (h3: -B≤b) (h4:b≤B): -(A*B)≤a*b∧a*b≤A*B:=by
 have e1:=Int.mul_nonneg (show 0≤A - a by omega) (show 0≤B - b by omega)
 have e2:=Int.mul_nonneg (show 0≤A+a by omega) (show 0≤B+b by omega)
 have e3:=Int.mul_nonneg (show 0≤A - a by omega) (show 0≤B+b by omega)
 have e4:=Int.mul_nonneg (show 0≤A+a by omega) (show 0≤B - b by omega)
 simp only [Int.sub_mul,Int.add_mul,Int.mul_sub,Int.mul_add] at e1 e2 e3 e4
 omega
theorem side_wraps {a b p:Pt} {den:Int} (ha:inBox (-10000) 10000 a) (hb:inBox (-10000) 10000 b) (hp:Big p) (hd:1≤den) (hd2:den≤268435456):
  (IntKind.i64.wrap (b.1 - a.1)=(sb b a).1∧IntKind.i64.wrap (b.2 - a.2)=(sb b a).2)∧
  (IntKind.i64.wrap (a.1*den)=(ml a den).1∧IntKind.i64.wrap (a.2*den)=(ml a den).2)∧
  (IntKind.i64.wrap (p.1 - (ml a den).1)=(sb p (ml a den)).1∧IntKind.i64.wrap (p.2 - (ml a den).2)=(sb p (ml a den)).2)∧
  (IntKind.i64.wrap ((sb b a).1*(sb p (ml a den)).2)=(sb b a).1*(sb p (ml a den)).2∧IntKind.i64.wrap ((sb b a).2*(sb p (ml a den)).1)=(sb b a).2*(sb p (ml a den)).1)∧
  (IntKind.i64.wrap ((sb b a).1*(sb p (ml a den)).1)=(sb b a).1*(sb p (ml a den)).1∧IntKind.i64.wrap ((sb b a).2*(sb p (ml a den)).2)=(sb b a).2*(sb p (ml a den)).2)∧
  IntKind.i64.wrap ((sb b a).1*(sb p (ml a den)).2 - (sb b a).2*(sb p (ml a den)).1)=crs (sb b a) (sb p (ml a den))∧
  IntKind.i64.wrap ((sb b a).1*(sb p (ml a den)).1+(sb b a).2*(sb p (ml a den)).2)=dt (sb b a) (sb p (ml a den)):=by
 obtain ⟨a1,a2,a3,a4⟩:=ha
 obtain ⟨b1,b2,b3,b4⟩:=hb
 obtain ⟨p1,p2,p3,p4⟩:=hp
 have m1:=bnd_mul (A:=10000) (B:=268435456) (a:=a.1) (b:=den) (by omega) (by omega) (by omega) (by omega) (by omega)
 have m2:=bnd_mul (A:=10000) (B:=268435456) (a:=a.2) (b:=den) (by omega) (by omega) (by omega) (by omega) (by omega)
 have s1: -20000≤(sb b a).1∧(sb b a).1≤20000:=by simp only [sb]; omega
 have s2: -20000≤(sb b a).2∧(sb b a).2≤20000:=by simp only [sb]; omega
 have q1: -3783866187776≤(sb p (ml a den)).1∧(sb p (ml a den)).1≤3783866187776:=by simp only [sb,ml]; omega
 have q2: -3783866187776≤(sb p (ml a den)).2∧(sb p (ml a den)).2≤3783866187776:=by simp only [sb,ml]; omega
 have r1:=bnd_mul (A:=20000) (B:=3783866187776) (by omega) s1.1 s1.2 q2.1 q2.2
 have r2:=bnd_mul (A:=20000) (B:=3783866187776) (by omega) s2.1 s2.2 q1.1 q1.2
 have r3:=bnd_mul (A:=20000) (B:=3783866187776) (by omega) s1.1 s1.2 q1.1 q1.2
 have r4:=bnd_mul (A:=20000) (B:=3783866187776) (by omega) s2.1 s2.2 q2.1 q2.2
 have w:∀ x:Int, -9223372036854775808≤x→x≤9223372036854775807→IntKind.i64.wrap x=x:=fun x h1 h2=>wrap64 x h1 h2
 refine ⟨⟨w _ (by omega) (by omega),w _ (by omega) (by omega)⟩,⟨w _ (by omega) (by omega),w _ (by omega) (by omega)⟩,⟨w _ (by simp only [ml]; omega) (by simp only [ml]; omega),w _ (by simp only [ml]; omega) (by simp only [ml]; omega)⟩,⟨w _ (by omega) (by omega),w _ (by omega) (by omega)⟩,⟨w _ (by omega) (by omega),w _ (by omega) (by omega)⟩,w _ (by omega) (by omega),w _ (by omega) (by omega)⟩
theorem cyc_next_ne {S c:List Pt} (h:Cyc S c) (h2:2≤c.length) {i:Nat} {a b:Pt} (ha:c[i]?=some a) (hb:c[(i+1) % c.length]?=some b):sb b a≠(0,0):=fun e=>(cyc_get h h2 ha hb).2.1 (sb_eq_zero.1 e).symm
theorem all_range {n:Nat} {P:Nat→Bool} (h:∀ i,i<n→P i=true):(List.range n).all P=true:=by
 rw [List.all_eq_true]; intro i hi; exact h i (List.mem_range.1 hi)
theorem not_all_range {n:Nat} {P:Nat→Bool} {i:Nat} (hi:i<n) (h:P i=false):(List.range n).all P=false:=by
 rw [Bool.eq_false_iff]
 intro ha
 rw [List.all_eq_true] at ha
 have:=ha i (List.mem_range.2 hi)
 rw [h] at this; cases this
theorem G57_ok {S c:List Pt} (hc:Cyc S c) (hbx:∀ x∈c,inBox (-10000) 10000 x) (hl:c.length≤1000) {p:Pt} (hp:Big p) {den:Int} (hd:1≤den) (hd2:den≤268435456):
  G57 std (encP c,p.1,p.2,den,())=some (inC c p den,()):=by
 unfold G57
 by_cases h1:c.length=1
 ·obtain ⟨a,ha⟩:∃ a,c=[a]:=by
   match c,h1 with
   |[a],_=>exact ⟨a,rfl⟩
  subst ha
  have ga:=encP_get (l:=[a]) (i:=0) rfl
  obtain ⟨_,⟨w1,w2⟩,_⟩:=side_wraps (hbx a (by simp)) (hbx a (by simp)) hp hd hd2
  have z0:(0:Int).toNat=0:=rfl
  have c1:(([a]:List Pt).length:Int)=1:=rfl
  have c1':((1:Nat):Int)=1:=rfl
  have hin:inC [a] p den=decide (p=ml a den):=rfl
  rw [hin]
  by_cases q1:p.1=(ml a den).1
  ·by_cases q2:p.2=(ml a den).2
   ·have:p=ml a den:=Prod.ext q1 q2
    simp only [g57,stdS,stdL,cells_eP,dI_eP0,dI_eP1,eP_eq,encP_set,encP_len,z0,ga,std_ar_mul,w1,w2,c1',eq_true q1,eq_true q2,eq_true this]
   ·have:¬ p=ml a den:=fun e=>q2 (by rw [e])
    simp only [g57,stdS,stdL,cells_eP,dI_eP0,dI_eP1,eP_eq,encP_set,encP_len,z0,ga,std_ar_mul,w1,w2,c1',eq_true q1,q2,this]
  ·have:¬ p=ml a den:=fun e=>q1 (by rw [e])
   simp only [g57,stdS,stdL,cells_eP,dI_eP0,dI_eP1,eP_eq,encP_set,encP_len,z0,ga,std_ar_mul,w1,w2,c1',q1,this]
 ·have h2:2≤c.length:=by
   match c,hc,h1 with
   |_::_::_,_,_=>simp
   |[a],_,h1=>exact absurd rfl h1
  have c1:¬ (c.length:Int)=1:=by omega
  have key:=iter_find (b:=b57_1 std) c.length (fun i=>(encP c,p.1,p.2,den,false,encP c,encP c,(c.length:Int),(i:Int),())) (fun i=>!sideOk c.length (c.getD i (0,0)) (c.getD ((i+1) % c.length) (0,0)) p den)
   (fun i=> .inr (.inl (encP c,p.1,p.2,den,false,encP c,()))) (.inr (.inr (encP c,p.1,p.2,den,false,encP c,()))) (fun i hi=>by
   obtain ⟨a,ha⟩:=get_some hi
   obtain ⟨b,hb⟩:=get_some (l:=c) (i:=(i+1) % c.length) (Nat.mod_lt _ (by omega))
   have ga:=encP_get ha
   have gb:=encP_get hb
   have hne:=cyc_next_ne hc h2 ha hb
   rw [lgetD ha,lgetD hb]
   obtain ⟨⟨w1,w2⟩,⟨w3,w4⟩,⟨w5,w6⟩,⟨w7,w8⟩,⟨w9,w10⟩,w11,w12⟩:=side_wraps (hbx a (List.mem_of_getElem? ha)) (hbx b (List.mem_of_getElem? hb)) hp hd hd2
   obtain ⟨m1,m2⟩:=mod_int (i:=i) (n:=c.length) (by omega) (by omega)
   have c2:(i:Int)<(c.length:Int):=by omega
   have c3:(i:Int)≥0:=by omega
   have c4:¬ (c.length:Int)=0:=by omega
   have c5:(((i+1) % c.length:Nat):Int)≥0:=by omega
   have c6:(((i+1) % c.length:Nat):Int)<(c.length:Int):=by have:=Nat.mod_lt (i+1) (show 0<c.length by omega); omega
   have hz:(if (sb b a).1=0 then if (sb b a).2=0 then true else false else false)=false:=by
    by_cases q1:(sb b a).1=0
    ·rw [if_pos q1,if_neg (fun e=>hne (Prod.ext q1 e))]
    ·rw [if_neg q1]
   unfold sideOk
   by_cases k1:crs (sb b a) (sb p (ml a den))<0
   ·simp only [b57_1,stdS,stdL,cells_eP,dI_eP0,dI_eP1,eP_eq,encP_set,encP_len,std_ar_add,std_ar_sub,std_ar_mul,std_ar_rem,m1,m2,ga,gb,w1,w2,w3,w4,w5,w6,w7,w8,w9,w10,w11,w12,c2,c3,c4,c5,c6,hz,k1,not_false_eq_true]
   ·by_cases k2:c.length=2
    ·have k2':(c.length:Int)=2:=by omega
     by_cases k3:dt (sb b a) (sb p (ml a den))<0
     ·simp only [b57_1,stdS,stdL,cells_eP,dI_eP0,dI_eP1,eP_eq,encP_set,encP_len,std_ar_add,std_ar_sub,std_ar_mul,std_ar_rem,m1,m2,ga,gb,w1,w2,w3,w4,w5,w6,w7,w8,w9,w10,w11,w12,c2,c3,c4,c5,c6,hz,k1,eq_true k2,eq_true k2',k3,not_false_eq_true]
     ·simp only [b57_1,stdS,stdL,cells_eP,dI_eP0,dI_eP1,eP_eq,encP_set,encP_len,std_ar_add,std_ar_sub,std_ar_mul,std_ar_rem,m1,m2,ga,gb,w1,w2,w3,w4,w5,w6,w7,w8,w9,w10,w11,w12,c2,c3,c4,c5,c6,hz,k1,eq_true k2,eq_true k2',k3,not_false_eq_true]
    ·have k2':¬ (c.length:Int)=2:=by omega
     simp only [b57_1,stdS,stdL,cells_eP,dI_eP0,dI_eP1,eP_eq,encP_set,encP_len,std_ar_add,std_ar_sub,std_ar_mul,std_ar_rem,m1,m2,ga,gb,w1,w2,w3,w4,w5,w6,w7,w8,w9,w10,w11,w12,c2,c3,c4,c5,c6,hz,k1,k2,k2',not_false_eq_true]) (by
   have hn:¬ ((c.length:Int)<(c.length:Int)):=by omega
   simp only [b57_1,stdS,stdL,hn])
  have e0:(encP c,p.1,p.2,den,false,encP c,encP c,(c.length:Int),((0:Nat):Int),())=(encP c,p.1,p.2,den,false,encP c,encP c,(c.length:Int),(0:Int),()):=rfl
  rw [e0] at key
  unfold inC
  rw [if_neg h1]
  rcases key with ⟨i,i1,i2,_,i4⟩|⟨i1,i2⟩
  ·rw [not_all_range i1 (by simpa using i2)]
   simp only [g57,it0_eq,stdS,stdL,encP_len,c1,i4]
  ·rw [all_range (fun i hi=>by simpa using i1 i hi)]
   simp only [g57,it0_eq,stdS,stdL,encP_len,c1,i2]
end Go.Am
end
noncomputable section
namespace Go.Am
def ctr78:Ctr:=
 ⟨78,[.list 2, .clo 66 [.agg [.int .i64, .int .i64]] []],[],[(.ret,⟨[(0, .int .i64)],[],1⟩)]⟩
def la78:List LA:=
 [⟨78,[false,true,false,true,true],0,⟨⟨[(1, .clo 66 [.agg [.int .i64, .int .i64]] []),(5, .int .i64),(13, .list 2),(14, .int .i64),(15, .int .i64)],[],26⟩,[((AX.exit 0),⟨[(5, .int .i64)],[],26⟩)]⟩⟩]
def ja78:List JA:=
 []
def gam78:List CF:=
 []
def an78:Anns:=
 ⟨gam78,ja78,[]⟩
def b78_1 (p:Prim):T52→Option T74:=
 fun a=>opt.run _ (
 opt.ask _ (p.cmp .lss a.2.2.2.2.2.1 a.2.2.2.2.1) (
 opt.need _ (p.rowOk a.2.2.2.1 (p.nat a.2.2.2.2.2.1) [ci,ci])<|
 opt.need _ (p.cmp .geq a.2.2.2.2.2.1 (0:Int))<|
 opt.ret _ (Sum.inl (a.1,(a.2.1,((p.mm .gtr a.2.2.1 (p.ar .add .i64 (p.ar .mul .i64 a.1 (p.rdI a.2.2.2.1 (p.nat a.2.2.2.2.2.1) 0)) (p.ar .mul .i64 a.2.1 (p.rdI a.2.2.2.1 (p.nat a.2.2.2.2.2.1) 1)))),(a.2.2.2.1,(a.2.2.2.2.1,((p.ar .add .i64 a.2.2.2.2.2.1 (1:Int)),())))))))) (
 opt.ret _ (Sum.inr (a.2.2.1,()))))
def g78 (it:It):(p:Prim)→(LD×T4)→Option T0:=
 fun p x=>
 opt.need _ (p.rowOk x.1 (p.nat (0:Int)) [ci,ci])<|
 opt.bnd T0 _ (
 it _ _ (b78_1 p) (x.2.1,(x.2.2.1,((p.ar .add .i64 (p.ar .mul .i64 x.2.1 (p.rdI x.1 (p.nat (0:Int)) 0)) (p.ar .mul .i64 x.2.2.1 (p.rdI x.1 (p.nat (0:Int)) 1))),(x.1,((p.ofNat (p.len x.1)),((0:Int),()))))))) fun a=>
 opt.ret _ (a.1,())
def G78:=g78 it0
theorem ok78:CtrOk PG ctr78 (G78 std):=okF (a:=an78) (l:=la78) (gN) (by kernel_rfl) fun _ _=>by kernel_rfl
def ctr92:Ctr:=
 ⟨92,[.list 2, .list 2, .agg [.int .i64, .int .i64]],[],[(.ret,⟨[(0, .tuple [.int .i64, .bool])],[],1⟩)]⟩
def la92:List LA:=
 []
def ja92:List JA:=
 []
def gam92:List CF:=
 [⟨ctr78,G78⟩]
def an92:Anns:=
 ⟨gam92,ja92,[]⟩
def g92 (it:It):(p:Prim)→(LD×(LD×T4))→Option ((Int×(Bool×Unit))):=
 fun p x=>
 opt.bnd T0 _ (g78 it p (x.1,(x.2.2.1,(x.2.2.2.1,())))) fun a=>
 opt.bnd T0 _ (g78 it p (x.2.1,((p.ar .sub .i64 (0:Int) x.2.2.1),((p.ar .sub .i64 (0:Int) x.2.2.2.1),())))) fun b=>
 opt.ret _ (a.1,((p.cmp .lss a.1 (p.ar .sub .i64 (0:Int) b.1)),()))
def G92:=g92 it0
theorem ok92:CtrOk PG ctr92 (G92 std):=okF (a:=an92) (l:=la92) (gC ok78 (gN)) (by kernel_rfl) fun _ _=>by kernel_rfl
def ctr63:Ctr:=
 ⟨63,[.list 2, .list 2],[],[(.ret,⟨[(0, .tuple [.agg [.int .i64, .int .i64, .int .i64], .bool])],[],1⟩)]⟩
def la63:List LA:=
 [⟨63,[false,true,false,true,false,true],0,⟨⟨[(0, .list 2),(1, .list 2),(4, .bptr 0 0),(6, .bptr 1 0),(20, .list 2),(21, .int .i64),(22, .int .i64)],[.box [.int .i64, .int .i64, .int .i64], .box [.vec 2 2], .row [ci,ci]],94⟩,[((AX.exit 0),⟨[(0, .list 2),(1, .list 2),(4, .bptr 0 0),(6, .bptr 1 0)],[.box [.int .i64, .int .i64, .int .i64], .box [.vec 2 2], .row [ci,ci]],94⟩)]⟩⟩,
 ⟨63,[false,true,true,false,false,true,true,false,false,true,false,true,false,true],0,⟨⟨[(0, .list 2),(1, .list 2),(4, .bptr 0 0),(6, .bptr 1 0),(8, .bptr 2 0),(20, .list 2),(21, .int .i64),(22, .int .i64),(26, .list 2),(27, .int .i64),(28, .int .i64)],[.box [.int .i64, .int .i64, .int .i64], .box [.vec 3 2], .box [.int .i64, .int .i64], .row [ci,ci]],94⟩,[((AX.exit 2),⟨[(0, .list 2),(1, .list 2),(4, .bptr 0 0),(6, .bptr 1 0),(20, .list 2),(21, .int .i64),(22, .int .i64)],[.box [.int .i64, .int .i64, .int .i64], .box [.vec 2 2], .row [ci,ci]],94⟩)]⟩⟩,
 ⟨63,[false,true,false,true,true,false,true],0,⟨⟨[(0, .list 2),(1, .list 2),(4, .bptr 0 0),(6, .bptr 1 0),(42, .full 2 1),(43, .int .i64),(44, .int .i64)],[.box [.int .i64, .int .i64, .int .i64], .box [.vec 3 2], .row [(CK.list 2)], .row [ci,ci]],94⟩,[((AX.exit 4),⟨[(0, .list 2),(1, .list 2),(4, .bptr 0 0),(6, .bptr 1 0)],[.box [.int .i64, .int .i64, .int .i64], .box [.vec 2 2], .row [ci,ci]],94⟩)]⟩⟩,
 ⟨94,[false,true],6,⟨⟨[(0, .yld 5),(1, .bptr 4 0),(6, .list 2),(7, .int .i64),(8, .int .i64)],[.box [.int .i64, .int .i64, .int .i64], .box [.vec 6 2], .row [(CK.list 2)], .dead, .box [.list 2], .loop Go.LoopState.ready Option.none 63 [Bool.false,Bool.true,Bool.true,Bool.false,Bool.false,Bool.true,Bool.true,Bool.false,Bool.false,Bool.true,Bool.false,Bool.true,Bool.true,Bool.false,Bool.true] 94 [(49, .clo 94 [] [.bptr 4 0]),(43, .int .i64),(42, .full 2 1),(6, .bptr 1 0),(1, .list 2),(4, .bptr 0 0),(0, .list 2),(44, .int .i64)], .row [ci,ci]],33⟩,[(AX.ret,⟨[],[.box [.int .i64, .int .i64, .int .i64], .box [.vec 6 2], .row [(CK.list 2)], .dead, .box [.list 2], .loop Go.LoopState.ready Option.none 63 [Bool.false,Bool.true,Bool.true,Bool.false,Bool.false,Bool.true,Bool.true,Bool.false,Bool.false,Bool.true,Bool.false,Bool.true,Bool.true,Bool.false,Bool.true] 94 [(49, .clo 94 [] [.bptr 4 0]),(43, .int .i64),(42, .full 2 1),(6, .bptr 1 0),(1, .list 2),(4, .bptr 0 0),(0, .list 2),(44, .int .i64)], .row [ci,ci]],33⟩),((AX.exit 0),⟨[],[.box [.int .i64, .int .i64, .int .i64], .box [.vec 6 2], .row [(CK.list 2)], .dead, .box [.list 2], .loop Go.LoopState.ready Option.none 63 [Bool.false,Bool.true,Bool.true,Bool.false,Bool.false,Bool.true,Bool.true,Bool.false,Bool.false,Bool.true,Bool.false,Bool.true,Bool.true,Bool.false,Bool.true] 94 [(49, .clo 94 [] [.bptr 4 0]),(43, .int .i64),(42, .full 2 1),(6, .bptr 1 0),(1, .list 2),(4, .bptr 0 0),(0, .list 2),(44, .int .i64)], .row [ci,ci]],33⟩)]⟩⟩,
 ⟨63,[false,true,false,true,true,true,true,true,true,false,true],0,⟨⟨[(0, .list 2),(1, .list 2),(4, .bptr 0 0),(14, .bool),(15, .bptr 1 0),(71, .vec 2 2),(72, .int .i64),(73, .int .i64)],[.box [.int .i64, .int .i64, .int .i64], .box [.int .i64, .int .i64, .int .i64], .row [ci,ci]],94⟩,[((AX.exit 8),⟨[(4, .bptr 0 0),(14, .bool),(15, .bptr 1 0)],[.box [.int .i64, .int .i64, .int .i64], .box [.int .i64, .int .i64, .int .i64]],94⟩)]⟩⟩]
def ja63:List JA:=
 [⟨63,[true,true,false,false,true,true,false,false,true,false,true,true,false,true],0,[(AX.normal,⟨[(0, .list 2),(1, .list 2),(4, .bptr 0 0),(6, .bptr 1 0),(42, .full 2 1),(43, .int .i64),(44, .int .i64)],[.box [.int .i64, .int .i64, .int .i64], .box [.vec 3 2], .row [(CK.list 2)], .row [ci,ci]],94⟩)]⟩]
def gam63:List CF:=
 [⟨ctr92,G92⟩]
def an63:Anns:=
 ⟨gam63,ja63,[]⟩
def c63_5 (it:It) (p:Prim):(LD×T75)→Option ((LD×T75)⊕(Int×(Int×(Int×(Int×(Int×(Int×(Bool×Unit)))))))):=
 fun a=>opt.run _ (
 opt.ask _ (p.cmp .lss a.2.2.2.2.2.2.2.2.2.2.2.1 a.2.2.2.2.2.2.2.2.2.2.1) (
 opt.need _ (bif (p.cmp .geq a.2.2.2.2.2.2.2.2.2.2.2.1 (0:Int)) then (p.cmp .lss a.2.2.2.2.2.2.2.2.2.2.2.1 (p.ofNat (p.len a.1))) else Bool.false)<|
 opt.need _ (p.rowOk a.1 (p.add 0 (p.nat a.2.2.2.2.2.2.2.2.2.2.2.1)) [ci,ci])<|
 opt.bnd ((Int×(Bool×Unit))) _ (g92 it p (a.2.2.2.2.2.2.2.1,(a.2.2.2.2.2.2.2.2.1,((p.rdI a.1 (p.add 0 (p.nat a.2.2.2.2.2.2.2.2.2.2.2.1)) 0),((p.rdI a.1 (p.add 0 (p.nat a.2.2.2.2.2.2.2.2.2.2.2.1)) 1),()))))) fun b=>
 opt.ask _ b.2.1 (
 opt.ret _ (Sum.inr (a.2.1,(a.2.2.1,(a.2.2.2.1,((p.rdI a.1 (p.add 0 (p.nat a.2.2.2.2.2.2.2.2.2.2.2.1)) 0),((p.rdI a.1 (p.add 0 (p.nat a.2.2.2.2.2.2.2.2.2.2.2.1)) 1),(b.1,(Bool.true,()))))))))) (
 opt.need _ (p.eqN 0 0)<|
 opt.need _ (p.eqN (p.len a.1) (p.len a.1))<|
 opt.ret _ (Sum.inl (a.1,(a.2.1,(a.2.2.1,(a.2.2.2.1,(a.2.2.2.2.1,(a.2.2.2.2.2.1,(a.2.2.2.2.2.2.1,(a.2.2.2.2.2.2.2.1,(a.2.2.2.2.2.2.2.2.1,(a.2.2.2.2.2.2.2.2.2.1,(a.2.2.2.2.2.2.2.2.2.2.1,((p.ar .add .i64 a.2.2.2.2.2.2.2.2.2.2.2.1 (1:Int)),()))))))))))))))) (
 opt.ret _ (Sum.inr (a.2.1,(a.2.2.1,(a.2.2.2.1,(a.2.2.2.2.1,(a.2.2.2.2.2.1,(a.2.2.2.2.2.2.1,(a.2.2.2.2.2.2.2.2.2.1,()))))))))))
def b63_4 (p:Prim):(LD×(LD×T76))→Option ((LD×(LD×T76))⊕((LD×(LD×T25))⊕(LD×(LD×T25)))):=
 fun a=>opt.run _ (
 opt.ask _ (p.cmp .lss a.2.2.2.2.2.2.2.2.2.2.2.2.1 a.2.2.2.2.2.2.2.2.2.2.2.1) (
 opt.need _ (p.rowOk a.2.2.2.2.2.2.2.2.2.2.1 (p.nat a.2.2.2.2.2.2.2.2.2.2.2.2.1) [ci,ci])<|
 opt.need _ (p.cmp .geq a.2.2.2.2.2.2.2.2.2.2.2.2.1 (0:Int))<|
 opt.need _ (p.cmp .neq (p.ofNat (p.len a.2.2.2.2.2.1)) (0:Int))<|
 opt.need _ (p.rowOk a.2.2.2.2.2.1 (p.nat (p.ar .rem .i64 (p.ar .add .i64 a.2.2.2.2.2.2.2.2.2.2.2.2.1 (1:Int)) (p.ofNat (p.len a.2.2.2.2.2.1)))) [ci,ci])<|
 opt.need _ (p.cmp .geq (p.ar .rem .i64 (p.ar .add .i64 a.2.2.2.2.2.2.2.2.2.2.2.2.1 (1:Int)) (p.ofNat (p.len a.2.2.2.2.2.1))) (0:Int))<|
 opt.ask _ (bif (p.cmp .eql (p.ar .sub .i64 (p.rdI a.2.2.2.2.2.1 (p.nat (p.ar .rem .i64 (p.ar .add .i64 a.2.2.2.2.2.2.2.2.2.2.2.2.1 (1:Int)) (p.ofNat (p.len a.2.2.2.2.2.1)))) 0) (p.rdI a.2.2.2.2.2.2.2.2.2.2.1 (p.nat a.2.2.2.2.2.2.2.2.2.2.2.2.1) 0)) (0:Int)) then (bif (p.cmp .eql (p.ar .sub .i64 (p.rdI a.2.2.2.2.2.1 (p.nat (p.ar .rem .i64 (p.ar .add .i64 a.2.2.2.2.2.2.2.2.2.2.2.2.1 (1:Int)) (p.ofNat (p.len a.2.2.2.2.2.1)))) 1) (p.rdI a.2.2.2.2.2.2.2.2.2.2.1 (p.nat a.2.2.2.2.2.2.2.2.2.2.2.2.1) 1)) (0:Int)) then Bool.true else Bool.false) else Bool.false) (
 opt.need _ (p.eqN 0 0)<|
 opt.need _ (p.eqN (p.len a.2.1) (p.len a.2.1))<|
 opt.need _ (p.eqN 0 0)<|
 opt.need _ (p.eqN (p.len a.1) (p.len a.1))<|
 opt.need _ (p.eqN (p.len a.1) (p.len a.1))<|
 opt.ret _ (Sum.inr (Sum.inl (a.1,(a.2.1,(a.2.2.1,(a.2.2.2.1,(a.2.2.2.2.1,(a.2.2.2.2.2.1,(a.2.2.2.2.2.2.1,(a.2.2.2.2.2.2.2.1,(a.2.2.2.2.2.2.2.2.1,(a.2.2.2.2.2.2.2.2.2.1,()))))))))))))) (
 opt.need _ (p.and (p.leN (p.add 0 2) (p.len [[(D.int .i64 (p.ar .sub .i64 (p.rdI a.2.2.2.2.2.1 (p.nat (p.ar .rem .i64 (p.ar .add .i64 a.2.2.2.2.2.2.2.2.2.2.2.2.1 (1:Int)) (p.ofNat (p.len a.2.2.2.2.2.1)))) 1) (p.rdI a.2.2.2.2.2.2.2.2.2.2.1 (p.nat a.2.2.2.2.2.2.2.2.2.2.2.2.1) 1))),(D.int .i64 (p.ar .sub .i64 (0:Int) (p.ar .sub .i64 (p.rdI a.2.2.2.2.2.1 (p.nat (p.ar .rem .i64 (p.ar .add .i64 a.2.2.2.2.2.2.2.2.2.2.2.2.1 (1:Int)) (p.ofNat (p.len a.2.2.2.2.2.1)))) 0) (p.rdI a.2.2.2.2.2.2.2.2.2.2.1 (p.nat a.2.2.2.2.2.2.2.2.2.2.2.2.1) 0))))],[(D.int .i64 (p.ar .sub .i64 (0:Int) (p.ar .sub .i64 (p.rdI a.2.2.2.2.2.1 (p.nat (p.ar .rem .i64 (p.ar .add .i64 a.2.2.2.2.2.2.2.2.2.2.2.2.1 (1:Int)) (p.ofNat (p.len a.2.2.2.2.2.1)))) 1) (p.rdI a.2.2.2.2.2.2.2.2.2.2.1 (p.nat a.2.2.2.2.2.2.2.2.2.2.2.2.1) 1)))),(D.int .i64 (p.ar .sub .i64 (p.rdI a.2.2.2.2.2.1 (p.nat (p.ar .rem .i64 (p.ar .add .i64 a.2.2.2.2.2.2.2.2.2.2.2.2.1 (1:Int)) (p.ofNat (p.len a.2.2.2.2.2.1)))) 0) (p.rdI a.2.2.2.2.2.2.2.2.2.2.1 (p.nat a.2.2.2.2.2.2.2.2.2.2.2.2.1) 0)))]])) (p.and (p.leN (p.add 0 (p.len a.2.1)) (p.len a.2.1)) (p.and (p.leN 1 2) (p.leN (p.add (p.len a.2.1) 2) 1000000))))<|
 opt.need _ (p.eqN 0 0)<|
 opt.need _ (p.eqN (p.add (p.len a.2.1) 2) (p.len (p.app (p.cut a.2.1 0 (p.len a.2.1)) (p.cut [[(D.int .i64 (p.ar .sub .i64 (p.rdI a.2.2.2.2.2.1 (p.nat (p.ar .rem .i64 (p.ar .add .i64 a.2.2.2.2.2.2.2.2.2.2.2.2.1 (1:Int)) (p.ofNat (p.len a.2.2.2.2.2.1)))) 1) (p.rdI a.2.2.2.2.2.2.2.2.2.2.1 (p.nat a.2.2.2.2.2.2.2.2.2.2.2.2.1) 1))),(D.int .i64 (p.ar .sub .i64 (0:Int) (p.ar .sub .i64 (p.rdI a.2.2.2.2.2.1 (p.nat (p.ar .rem .i64 (p.ar .add .i64 a.2.2.2.2.2.2.2.2.2.2.2.2.1 (1:Int)) (p.ofNat (p.len a.2.2.2.2.2.1)))) 0) (p.rdI a.2.2.2.2.2.2.2.2.2.2.1 (p.nat a.2.2.2.2.2.2.2.2.2.2.2.2.1) 0))))],[(D.int .i64 (p.ar .sub .i64 (0:Int) (p.ar .sub .i64 (p.rdI a.2.2.2.2.2.1 (p.nat (p.ar .rem .i64 (p.ar .add .i64 a.2.2.2.2.2.2.2.2.2.2.2.2.1 (1:Int)) (p.ofNat (p.len a.2.2.2.2.2.1)))) 1) (p.rdI a.2.2.2.2.2.2.2.2.2.2.1 (p.nat a.2.2.2.2.2.2.2.2.2.2.2.2.1) 1)))),(D.int .i64 (p.ar .sub .i64 (p.rdI a.2.2.2.2.2.1 (p.nat (p.ar .rem .i64 (p.ar .add .i64 a.2.2.2.2.2.2.2.2.2.2.2.2.1 (1:Int)) (p.ofNat (p.len a.2.2.2.2.2.1)))) 0) (p.rdI a.2.2.2.2.2.2.2.2.2.2.1 (p.nat a.2.2.2.2.2.2.2.2.2.2.2.2.1) 0)))]] 0 2))))<|
 opt.need _ (p.eqN 0 0)<|
 opt.need _ (p.eqN (p.len a.1) (p.len a.1))<|
 opt.need _ (p.eqN (p.len a.1) (p.len a.1))<|
 opt.ret _ (Sum.inl (a.1,((p.app (p.cut a.2.1 0 (p.len a.2.1)) (p.cut [[(D.int .i64 (p.ar .sub .i64 (p.rdI a.2.2.2.2.2.1 (p.nat (p.ar .rem .i64 (p.ar .add .i64 a.2.2.2.2.2.2.2.2.2.2.2.2.1 (1:Int)) (p.ofNat (p.len a.2.2.2.2.2.1)))) 1) (p.rdI a.2.2.2.2.2.2.2.2.2.2.1 (p.nat a.2.2.2.2.2.2.2.2.2.2.2.2.1) 1))),(D.int .i64 (p.ar .sub .i64 (0:Int) (p.ar .sub .i64 (p.rdI a.2.2.2.2.2.1 (p.nat (p.ar .rem .i64 (p.ar .add .i64 a.2.2.2.2.2.2.2.2.2.2.2.2.1 (1:Int)) (p.ofNat (p.len a.2.2.2.2.2.1)))) 0) (p.rdI a.2.2.2.2.2.2.2.2.2.2.1 (p.nat a.2.2.2.2.2.2.2.2.2.2.2.2.1) 0))))],[(D.int .i64 (p.ar .sub .i64 (0:Int) (p.ar .sub .i64 (p.rdI a.2.2.2.2.2.1 (p.nat (p.ar .rem .i64 (p.ar .add .i64 a.2.2.2.2.2.2.2.2.2.2.2.2.1 (1:Int)) (p.ofNat (p.len a.2.2.2.2.2.1)))) 1) (p.rdI a.2.2.2.2.2.2.2.2.2.2.1 (p.nat a.2.2.2.2.2.2.2.2.2.2.2.2.1) 1)))),(D.int .i64 (p.ar .sub .i64 (p.rdI a.2.2.2.2.2.1 (p.nat (p.ar .rem .i64 (p.ar .add .i64 a.2.2.2.2.2.2.2.2.2.2.2.2.1 (1:Int)) (p.ofNat (p.len a.2.2.2.2.2.1)))) 0) (p.rdI a.2.2.2.2.2.2.2.2.2.2.1 (p.nat a.2.2.2.2.2.2.2.2.2.2.2.2.1) 0)))]] 0 2)),(a.2.2.1,(a.2.2.2.1,(a.2.2.2.2.1,(a.2.2.2.2.2.1,(a.2.2.2.2.2.2.1,(a.2.2.2.2.2.2.2.1,(a.2.2.2.2.2.2.2.2.1,(a.2.2.2.2.2.2.2.2.2.1,(a.2.2.2.2.2.2.2.2.2.2.1,(a.2.2.2.2.2.2.2.2.2.2.2.1,((p.ar .add .i64 a.2.2.2.2.2.2.2.2.2.2.2.2.1 (1:Int)),())))))))))))))))) (
 opt.need _ (p.eqN 0 0)<|
 opt.need _ (p.eqN (p.len a.2.1) (p.len a.2.1))<|
 opt.need _ (p.eqN 0 0)<|
 opt.need _ (p.eqN (p.len a.1) (p.len a.1))<|
 opt.need _ (p.eqN (p.len a.1) (p.len a.1))<|
 opt.ret _ (Sum.inr (Sum.inr (a.1,(a.2.1,(a.2.2.1,(a.2.2.2.1,(a.2.2.2.2.1,(a.2.2.2.2.2.1,(a.2.2.2.2.2.2.1,(a.2.2.2.2.2.2.2.1,(a.2.2.2.2.2.2.2.2.1,(a.2.2.2.2.2.2.2.2.2.1,()))))))))))))))
def c63_3 (it:It) (p:Prim):(LD×(LD×T37))→Option ((LD×(LD×T37))⊕(LD×T38)):=
 fun a=>opt.run _ (
 opt.ask _ (p.cmp .lss a.2.2.2.2.2.2.2.2.1 a.2.2.2.2.2.2.2.1) (
 opt.need _ (bif (p.cmp .geq a.2.2.2.2.2.2.2.2.1 (0:Int)) then (p.cmp .lss a.2.2.2.2.2.2.2.2.1 (p.ofNat (p.len a.1))) else Bool.false)<|
 opt.need _ (p.rowOk a.1 (p.add 0 (p.nat a.2.2.2.2.2.2.2.2.1)) [(CK.list 2)])<|
 opt.bnd ((LD×(LD×T37))) _ (
 opt.run ((LD×(LD×T37))) (
 opt.need _ (p.eqN 0 0)<|
 opt.need _ (p.eqN (p.len a.2.1) (p.len a.2.1))<|
 opt.need _ (p.eqN 0 0)<|
 opt.need _ (p.eqN (p.len a.1) (p.len a.1))<|
 opt.need _ (p.eqN (p.len a.1) (p.len a.1))<|
 opt.alt ((LD×(LD×T25))) ((LD×(LD×T25))) _ (
 it _ _ (b63_4 p) (a.1,(a.2.1,(a.2.2.1,(a.2.2.2.1,(a.2.2.2.2.1,((p.rdL a.1 (p.add 0 (p.nat a.2.2.2.2.2.2.2.2.1)) 0),(a.2.2.2.2.2.2.2.1,(a.2.2.2.2.2.2.1,(a.2.2.2.2.2.1,(a.2.2.2.2.2.2.2.2.1,((p.rdL a.1 (p.add 0 (p.nat a.2.2.2.2.2.2.2.2.1)) 0),((p.ofNat (p.len (p.rdL a.1 (p.add 0 (p.nat a.2.2.2.2.2.2.2.2.1)) 0))),((0:Int),())))))))))))))) (fun b=>
 opt.need _ (p.eqN 0 0)<|
 opt.need _ (p.eqN (p.len b.2.1) (p.len b.2.1))<|
 opt.need _ (p.eqN 0 0)<|
 opt.need _ (p.eqN (p.len a.1) (p.len b.1))<|
 opt.need _ (p.eqN (p.len a.1) (p.len b.1))<|
 opt.ret _ (b.1,(b.2.1,(b.2.2.1,(b.2.2.2.1,(b.2.2.2.2.1,(a.2.2.2.2.2.1,(a.2.2.2.2.2.2.1,(a.2.2.2.2.2.2.2.1,(a.2.2.2.2.2.2.2.2.1,())))))))))) (fun c=>
 opt.bnd ((LD×(LD×T25))) _ (some c) fun d=>
 opt.need _ (p.eqN 0 0)<|
 opt.need _ (p.eqN (p.len d.2.1) (p.len d.2.1))<|
 opt.need _ (p.eqN 0 0)<|
 opt.need _ (p.eqN (p.len a.1) (p.len d.1))<|
 opt.need _ (p.eqN (p.len a.1) (p.len d.1))<|
 opt.ret _ (d.1,(d.2.1,(d.2.2.1,(d.2.2.2.1,(d.2.2.2.2.1,(a.2.2.2.2.2.1,(a.2.2.2.2.2.2.1,(a.2.2.2.2.2.2.2.1,(a.2.2.2.2.2.2.2.2.1,())))))))))))) fun e=>
 opt.need _ (p.eqN 0 0)<|
 opt.need _ (p.eqN (p.len e.2.1) (p.len e.2.1))<|
 opt.need _ (p.eqN 0 0)<|
 opt.need _ (p.eqN (p.len e.1) (p.len e.1))<|
 opt.need _ (p.eqN (p.len e.1) (p.len e.1))<|
 opt.ret _ (Sum.inl (e.1,(e.2.1,(e.2.2.1,(e.2.2.2.1,(e.2.2.2.2.1,(e.2.2.2.2.2.1,(e.2.2.2.2.2.2.1,(e.2.2.2.2.2.2.2.1,((p.ar .add .i64 e.2.2.2.2.2.2.2.2.1 (1:Int)),()))))))))))) (
 opt.need _ (p.eqN 0 0)<|
 opt.need _ (p.eqN (p.len a.2.1) (p.len a.2.1))<|
 opt.ret _ (Sum.inr (a.2.1,(a.2.2.1,(a.2.2.2.1,(a.2.2.2.2.1,(a.2.2.2.2.2.1,(a.2.2.2.2.2.2.1,())))))))))
def b63_2 (p:Prim):(LD×T77)→Option ((LD×T77)⊕(LD×T39)):=
 fun a=>opt.run _ (
 opt.ask _ (p.cmp .lss a.2.2.2.2.2.2.2.2.2.2.2.2.2.1 a.2.2.2.2.2.2.2.2.2.2.2.2.1) (
 opt.need _ (p.rowOk a.2.2.2.2.2.2.2.2.2.2.2.1 (p.nat a.2.2.2.2.2.2.2.2.2.2.2.2.2.1) [ci,ci])<|
 opt.need _ (p.cmp .geq a.2.2.2.2.2.2.2.2.2.2.2.2.2.1 (0:Int))<|
 opt.need _ (p.and (p.leN (p.add 0 1) (p.len [[(D.int .i64 (p.ar .sub .i64 (p.rdI a.2.2.2.2.2.2.2.2.2.2.2.1 (p.nat a.2.2.2.2.2.2.2.2.2.2.2.2.2.1) 0) a.2.2.2.2.1)),(D.int .i64 (p.ar .sub .i64 (p.rdI a.2.2.2.2.2.2.2.2.2.2.2.1 (p.nat a.2.2.2.2.2.2.2.2.2.2.2.2.2.1) 1) a.2.2.2.2.2.1))]])) (p.and (p.leN (p.add 0 (p.len a.1)) (p.len a.1)) (p.and (p.leN 1 1) (p.leN (p.add (p.len a.1) 1) 1000000))))<|
 opt.need _ (p.eqN 0 0)<|
 opt.need _ (p.eqN (p.add (p.len a.1) 1) (p.len (p.app (p.cut a.1 0 (p.len a.1)) (p.cut [[(D.int .i64 (p.ar .sub .i64 (p.rdI a.2.2.2.2.2.2.2.2.2.2.2.1 (p.nat a.2.2.2.2.2.2.2.2.2.2.2.2.2.1) 0) a.2.2.2.2.1)),(D.int .i64 (p.ar .sub .i64 (p.rdI a.2.2.2.2.2.2.2.2.2.2.2.1 (p.nat a.2.2.2.2.2.2.2.2.2.2.2.2.2.1) 1) a.2.2.2.2.2.1))]] 0 1))))<|
 opt.ret _ (Sum.inl ((p.app (p.cut a.1 0 (p.len a.1)) (p.cut [[(D.int .i64 (p.ar .sub .i64 (p.rdI a.2.2.2.2.2.2.2.2.2.2.2.1 (p.nat a.2.2.2.2.2.2.2.2.2.2.2.2.2.1) 0) a.2.2.2.2.1)),(D.int .i64 (p.ar .sub .i64 (p.rdI a.2.2.2.2.2.2.2.2.2.2.2.1 (p.nat a.2.2.2.2.2.2.2.2.2.2.2.2.2.1) 1) a.2.2.2.2.2.1))]] 0 1)),(a.2.1,(a.2.2.1,(a.2.2.2.1,(a.2.2.2.2.1,(a.2.2.2.2.2.1,(a.2.2.2.2.2.2.1,(a.2.2.2.2.2.2.2.1,(a.2.2.2.2.2.2.2.2.1,(a.2.2.2.2.2.2.2.2.2.1,(a.2.2.2.2.2.2.2.2.2.2.1,(a.2.2.2.2.2.2.2.2.2.2.2.1,(a.2.2.2.2.2.2.2.2.2.2.2.2.1,((p.ar .add .i64 a.2.2.2.2.2.2.2.2.2.2.2.2.2.1 (1:Int)),())))))))))))))))) (
 opt.need _ (p.eqN 0 0)<|
 opt.need _ (p.eqN (p.len a.1) (p.len a.1))<|
 opt.ret _ (Sum.inr (a.1,(a.2.1,(a.2.2.1,(a.2.2.2.1,(a.2.2.2.2.2.2.1,(a.2.2.2.2.2.2.2.1,(a.2.2.2.2.2.2.2.2.1,(a.2.2.2.2.2.2.2.2.2.1,(a.2.2.2.2.2.2.2.2.2.2.1,()))))))))))))
def c63_1 (it:It) (p:Prim):(LD×T39)→Option ((LD×T39)⊕(LD×T38)):=
 fun a=>opt.run _ (
 opt.ask _ (p.cmp .lss a.2.2.2.2.2.2.2.2.1 a.2.2.2.2.2.2.2.1) (
 opt.need _ (p.rowOk a.2.2.2.2.2.2.1 (p.nat a.2.2.2.2.2.2.2.2.1) [ci,ci])<|
 opt.need _ (p.cmp .geq a.2.2.2.2.2.2.2.2.1 (0:Int))<|
 opt.need _ (p.eqN 0 0)<|
 opt.need _ (p.eqN (p.len a.1) (p.len a.1))<|
 opt.bnd ((LD×T39)) _ (
 it _ _ (b63_2 p) (a.1,(a.2.1,(a.2.2.1,(a.2.2.2.1,((p.rdI a.2.2.2.2.2.2.1 (p.nat a.2.2.2.2.2.2.2.2.1) 0),((p.rdI a.2.2.2.2.2.2.1 (p.nat a.2.2.2.2.2.2.2.2.1) 1),(a.2.2.2.2.1,(a.2.2.2.2.2.1,(a.2.2.2.2.2.2.1,(a.2.2.2.2.2.2.2.1,(a.2.2.2.2.2.2.2.2.1,(a.2.2.2.2.2.1,((p.ofNat (p.len a.2.2.2.2.2.1)),((0:Int),()))))))))))))))) fun b=>
 opt.need _ (p.eqN 0 0)<|
 opt.need _ (p.eqN (p.len b.1) (p.len b.1))<|
 opt.ret _ (Sum.inl (b.1,(b.2.1,(b.2.2.1,(b.2.2.2.1,(b.2.2.2.2.1,(b.2.2.2.2.2.1,(b.2.2.2.2.2.2.1,(b.2.2.2.2.2.2.2.1,((p.ar .add .i64 b.2.2.2.2.2.2.2.2.1 (1:Int)),()))))))))))) (
 opt.need _ (p.eqN 0 0)<|
 opt.need _ (p.eqN (p.len a.1) (p.len a.1))<|
 opt.ret _ (Sum.inr (a.1,(a.2.1,(a.2.2.1,(a.2.2.2.1,(a.2.2.2.2.1,(a.2.2.2.2.2.1,())))))))))
def g63 (it:It):(p:Prim)→(LD×(LD×Unit))→Option T22:=
 fun p x=>
 opt.bnd ((LD×T38)) _ (
 it _ _ (c63_1 it p) ([],((0:Int),((0:Int),((0:Int),(x.1,(x.2.1,(x.1,((p.ofNat (p.len x.1)),((0:Int),())))))))))) fun a=>
 opt.need _ (p.eqN 0 0)<|
 opt.need _ (p.eqN (p.len a.1) (p.len a.1))<|
 opt.need _ (p.eqN 0 0)<|
 opt.need _ (p.eqN 2 (p.len [[(D.list Bool.false 2 a.2.2.2.2.1)],[(D.list Bool.false 2 a.2.2.2.2.2.1)]]))<|
 opt.need _ (p.eqN 2 (p.len [[(D.list Bool.false 2 a.2.2.2.2.1)],[(D.list Bool.false 2 a.2.2.2.2.2.1)]]))<|
 opt.bnd ((LD×T38)) _ (
 it _ _ (c63_3 it p) ([[(D.list Bool.false 2 a.2.2.2.2.1)],[(D.list Bool.false 2 a.2.2.2.2.2.1)]],(a.1,(a.2.1,(a.2.2.1,(a.2.2.2.1,(a.2.2.2.2.1,(a.2.2.2.2.2.1,((p.ofNat 2),((0:Int),())))))))))) fun b=>
 opt.need _ (p.eqN 0 0)<|
 opt.need _ (p.eqN (p.len b.1) (p.len b.1))<|
 opt.bnd T53 _ (
 it _ _ (c63_5 it p) (b.1,(b.2.1,(b.2.2.1,(b.2.2.2.1,((0:Int),((0:Int),((0:Int),(b.2.2.2.2.1,(b.2.2.2.2.2.1,(Bool.false,((p.ofNat (p.len b.1)),((0:Int),()))))))))))))) fun c=>
 opt.ret _ (c.2.2.2.1,(c.2.2.2.2.1,(c.2.2.2.2.2.1,(c.2.2.2.2.2.2.1,()))))
def G63:=g63 it0
theorem ok63:CtrOk PG ctr63 (G63 std):=okF (a:=an63) (l:=la63) (gC ok92 (gN)) (by kernel_rfl) fun _ _=>by kernel_rfl
end Go.Am
end
noncomputable section
namespace Go.Am
def ctr32:Ctr:=
 ⟨32,[.agg [.list 2, .list 1], .agg [.list 2, .list 1]],[],[(.ret,⟨[(0, .tuple [.agg [.int .i64, .int .i64, .int .i64], .int .i64])],[],1⟩)]⟩
def la32:List LA:=
 []
def ja32:List JA:=
 []
def gam32:List CF:=
 [⟨ctr63,G63⟩,⟨ctr62,G62⟩]
def an32:Anns:=
 ⟨gam32,ja32,[]⟩
def g32 (it:It):(p:Prim)→(LD×(LD×(LD×(LD×Unit))))→Option T8:=
 fun p x=>
 opt.alt T0 (((LD×(LD×(LD×T1)))⊕((LD×(LD×(LD×T1)))⊕(LD×(LD×(LD×(LD×(LD×(LD×T1))))))))) _ (g62 it p (x.1,(x.2.1,(x.2.2.1,(x.2.2.2.1,()))))) (fun a=>
 opt.ask _ (p.cmp .neq a.1 (0:Int)) (
 opt.ret _ ((0:Int),((0:Int),((0:Int),(a.1,()))))) (
 opt.no _ 41)) (fun b=>
 opt.alt ((LD×(LD×(LD×T1)))) (((LD×(LD×(LD×T1)))⊕(LD×(LD×(LD×(LD×(LD×(LD×T1)))))))) _ (some b) (fun c=>
 opt.ask _ (p.cmp .neq c.2.2.2.1 (0:Int)) (
 opt.ret _ ((0:Int),((0:Int),((0:Int),(c.2.2.2.1,()))))) (
 opt.no _ 41)) (fun d=>
 opt.alt ((LD×(LD×(LD×T1)))) ((LD×(LD×(LD×(LD×(LD×(LD×T1))))))) _ (some d) (fun e=>
 opt.ask _ (p.cmp .neq e.2.2.2.1 (0:Int)) (
 opt.ret _ ((0:Int),((0:Int),((0:Int),(e.2.2.2.1,()))))) (
 opt.no _ 41)) (fun f=>
 opt.bnd ((LD×(LD×(LD×(LD×(LD×(LD×T1))))))) _ (some f) fun g=>
 opt.ask _ (p.cmp .neq g.2.2.2.2.2.2.1 (0:Int)) (
 opt.ret _ ((0:Int),((0:Int),((0:Int),(g.2.2.2.2.2.2.1,()))))) (
 opt.bnd T22 _ (g63 it p (g.2.2.1,(g.2.2.2.2.2.1,()))) fun h=>
 opt.ask _ (bif h.2.2.2.1 then Bool.false else Bool.true) (
 opt.ret _ ((0:Int),((0:Int),((0:Int),((21:Int),()))))) (
 opt.ret _ (h.1,(h.2.1,(h.2.2.1,((0:Int),())))))))))
def G32:=g32 it0
theorem ok32:CtrOk PG ctr32 (G32 std):=okF (a:=an32) (l:=la32) (gC ok63 (gC ok62 (gN))) (by kernel_rfl) fun _ _=>by kernel_rfl
end Go.Am
end
noncomputable section
namespace Go.Am
def ctr78m:Ctr:=
 ⟨78,[.list 2, .clo 66 [.agg [.int .i64, .int .i64]] []],[],[(.ret,⟨[(0, .int .i64)],[],1⟩)]⟩
def la78m:List LA:=
 [⟨78,[false,true,false,true,true],0,⟨⟨[(1, .clo 66 [.agg [.int .i64, .int .i64]] []),(5, .int .i64),(13, .list 2),(14, .int .i64),(15, .int .i64)],[],26⟩,[((AX.exit 0),⟨[(5, .int .i64)],[],26⟩)]⟩⟩]
def ja78m:List JA:=
 []
def gam78m:List CF:=
 []
def an78m:Anns:=
 ⟨gam78m,ja78m,[]⟩
def b78m_1 (p:Prim):T52→Option T74:=
 fun a=>opt.run _ (
 opt.ask _ (p.cmp .lss a.2.2.2.2.2.1 a.2.2.2.2.1) (
 opt.need _ (p.rowOk a.2.2.2.1 (p.nat a.2.2.2.2.2.1) [ci,ci])<|
 opt.need _ (p.cmp .geq a.2.2.2.2.2.1 (0:Int))<|
 opt.ret _ (Sum.inl (a.1,(a.2.1,((p.mm .gtr a.2.2.1 (p.ar .add .i64 (p.ar .mul .i64 a.1 (p.rdI a.2.2.2.1 (p.nat a.2.2.2.2.2.1) 0)) (p.ar .mul .i64 a.2.1 (p.rdI a.2.2.2.1 (p.nat a.2.2.2.2.2.1) 1)))),(a.2.2.2.1,(a.2.2.2.2.1,((p.ar .add .i64 a.2.2.2.2.2.1 (1:Int)),())))))))) (
 opt.ret _ (Sum.inr (a.2.2.1,()))))
def g78m (it:It):(p:Prim)→(LD×T4)→Option T0:=
 fun p x=>
 opt.need _ (p.rowOk x.1 (p.nat (0:Int)) [ci,ci])<|
 opt.bnd T0 _ (
 it _ _ (b78m_1 p) (x.2.1,(x.2.2.1,((p.ar .add .i64 (p.ar .mul .i64 x.2.1 (p.rdI x.1 (p.nat (0:Int)) 0)) (p.ar .mul .i64 x.2.2.1 (p.rdI x.1 (p.nat (0:Int)) 1))),(x.1,((p.ofNat (p.len x.1)),((0:Int),()))))))) fun a=>
 opt.ret _ (a.1,())
def G78m:=g78m it0
theorem ok78m:CtrOk PG ctr78m (G78m std):=okF (a:=an78m) (l:=la78m) (gN) (by kernel_rfl) fun _ _=>by kernel_rfl
def ctr39:Ctr:=
 ⟨39,[.agg [.list 2, .list 1], .agg [.list 2, .list 1], .agg [.int .i64, .int .i64, .int .i64]],[],[(.ret,⟨[(0, .int .i64)],[],1⟩)]⟩
def la39:List LA:=
 []
def ja39:List JA:=
 [⟨39,[true,true,true,false,false,true,true,true],0,[(AX.ret,⟨[(6, .int .i64)],[],90⟩),(AX.normal,⟨[],[],90⟩)]⟩,
 ⟨39,[true,false,false,true,true,true],0,[(AX.ret,⟨[(6, .int .i64)],[],90⟩),(AX.normal,⟨[],[],90⟩)]⟩]
def gam39:List CF:=
 [⟨ctr78m,G78m⟩,⟨ctr77,G77⟩,⟨ctr62,G62⟩]
def an39:Anns:=
 ⟨gam39,ja39,[]⟩
def g39 (it:It):(p:Prim)→(LD×(LD×(LD×(LD×T6))))→Option T0:=
 fun p x=>
 opt.alt T0 (((LD×(LD×(LD×T1)))⊕((LD×(LD×(LD×T1)))⊕(LD×(LD×(LD×(LD×(LD×(LD×T1))))))))) _ (g62 it p (x.1,(x.2.1,(x.2.2.1,(x.2.2.2.1,()))))) (fun a=>
 opt.alt T0 (Unit) _ (
 opt.run T3 (
 opt.ask _ (p.cmp .neq a.1 (0:Int)) (
 opt.ret _ (Sum.inl (a.1,()))) (
 opt.ask _ (bif (p.cmp .eql x.2.2.2.2.1 (0:Int)) then (bif (p.cmp .eql x.2.2.2.2.2.1 (0:Int)) then Bool.true else Bool.false) else Bool.false) (
 opt.alt T0 (Unit) _ (
 opt.run T3 (
 opt.ret _ (Sum.inl ((2:Int),())))) (fun b=>
 opt.ret _ (Sum.inl (b.1,()))) (fun c=>
 opt.bnd (Unit) _ (some c) fun d=>
 opt.ret _ (Sum.inr ()))) (
 opt.bnd T0 _ (G77 p (x.2.2.2.2.1,())) fun e=>
 opt.bnd T0 _ (G77 p (x.2.2.2.2.2.1,())) fun f=>
 opt.ask _ (p.cmp .gtr (p.mm .gtr e.1 f.1) (1048576:Int)) (
 opt.alt T0 (Unit) _ (
 opt.run T3 (
 opt.ret _ (Sum.inl ((2:Int),())))) (fun g=>
 opt.ret _ (Sum.inl (g.1,()))) (fun h=>
 opt.bnd (Unit) _ (some h) fun i=>
 opt.ret _ (Sum.inr ()))) (
 opt.bnd T0 _ (G77 p (x.2.2.2.2.2.2.1,())) fun j=>
 opt.ask _ (p.cmp .gtr j.1 (1099511627776:Int)) (
 opt.alt T0 (Unit) _ (
 opt.run T3 (
 opt.ret _ (Sum.inl ((2:Int),())))) (fun k=>
 opt.ret _ (Sum.inl (k.1,()))) (fun l=>
 opt.bnd (Unit) _ (some l) fun m=>
 opt.ret _ (Sum.inr ()))) (
 opt.ask _ (p.cmp .lss (p.mm .lss x.2.2.2.2.1 x.2.2.2.2.2.1) (-1048576:Int)) (
 opt.alt T0 (Unit) _ (
 opt.run T3 (
 opt.ret _ (Sum.inl ((2:Int),())))) (fun n=>
 opt.ret _ (Sum.inl (n.1,()))) (fun o=>
 opt.bnd (Unit) _ (some o) fun q=>
 opt.ret _ (Sum.inr ()))) (
 opt.alt T0 (Unit) _ (
 opt.run T3 (
 opt.ask _ (p.cmp .lss x.2.2.2.2.2.2.1 (-1099511627776:Int)) (
 opt.ret _ (Sum.inl ((2:Int),()))) (
 opt.no _ 41))) (fun r=>
 opt.ret _ (Sum.inl (r.1,()))) (fun t=>
 opt.bnd (Unit) _ (some t) fun u=>
 opt.ret _ (Sum.inr ()))))))))) (fun v=>
 opt.ret _ (v.1,())) (fun w=>
 opt.bnd (Unit) _ (some w) fun z=>
 opt.ret _ ((0:Int),()))) (fun a1=>
 opt.alt ((LD×(LD×(LD×T1)))) (((LD×(LD×(LD×T1)))⊕(LD×(LD×(LD×(LD×(LD×(LD×T1)))))))) _ (some a1) (fun b1=>
 opt.alt T0 (Unit) _ (
 opt.run T3 (
 opt.ask _ (p.cmp .neq b1.2.2.2.1 (0:Int)) (
 opt.ret _ (Sum.inl (b1.2.2.2.1,()))) (
 opt.ask _ (bif (p.cmp .eql x.2.2.2.2.1 (0:Int)) then (bif (p.cmp .eql x.2.2.2.2.2.1 (0:Int)) then Bool.true else Bool.false) else Bool.false) (
 opt.alt T0 (Unit) _ (
 opt.run T3 (
 opt.ret _ (Sum.inl ((2:Int),())))) (fun c1=>
 opt.ret _ (Sum.inl (c1.1,()))) (fun d1=>
 opt.bnd (Unit) _ (some d1) fun e1=>
 opt.ret _ (Sum.inr ()))) (
 opt.bnd T0 _ (G77 p (x.2.2.2.2.1,())) fun f1=>
 opt.bnd T0 _ (G77 p (x.2.2.2.2.2.1,())) fun g1=>
 opt.ask _ (p.cmp .gtr (p.mm .gtr f1.1 g1.1) (1048576:Int)) (
 opt.alt T0 (Unit) _ (
 opt.run T3 (
 opt.ret _ (Sum.inl ((2:Int),())))) (fun h1=>
 opt.ret _ (Sum.inl (h1.1,()))) (fun i1=>
 opt.bnd (Unit) _ (some i1) fun j1=>
 opt.ret _ (Sum.inr ()))) (
 opt.bnd T0 _ (G77 p (x.2.2.2.2.2.2.1,())) fun k1=>
 opt.ask _ (p.cmp .gtr k1.1 (1099511627776:Int)) (
 opt.alt T0 (Unit) _ (
 opt.run T3 (
 opt.ret _ (Sum.inl ((2:Int),())))) (fun l1=>
 opt.ret _ (Sum.inl (l1.1,()))) (fun m1=>
 opt.bnd (Unit) _ (some m1) fun n1=>
 opt.ret _ (Sum.inr ()))) (
 opt.ask _ (p.cmp .lss (p.mm .lss x.2.2.2.2.1 x.2.2.2.2.2.1) (-1048576:Int)) (
 opt.alt T0 (Unit) _ (
 opt.run T3 (
 opt.ret _ (Sum.inl ((2:Int),())))) (fun o1=>
 opt.ret _ (Sum.inl (o1.1,()))) (fun q1=>
 opt.bnd (Unit) _ (some q1) fun r1=>
 opt.ret _ (Sum.inr ()))) (
 opt.alt T0 (Unit) _ (
 opt.run T3 (
 opt.ask _ (p.cmp .lss x.2.2.2.2.2.2.1 (-1099511627776:Int)) (
 opt.ret _ (Sum.inl ((2:Int),()))) (
 opt.no _ 41))) (fun t1=>
 opt.ret _ (Sum.inl (t1.1,()))) (fun u1=>
 opt.bnd (Unit) _ (some u1) fun v1=>
 opt.ret _ (Sum.inr ()))))))))) (fun w1=>
 opt.ret _ (w1.1,())) (fun z1=>
 opt.bnd (Unit) _ (some z1) fun a2=>
 opt.ret _ ((0:Int),()))) (fun b2=>
 opt.alt ((LD×(LD×(LD×T1)))) ((LD×(LD×(LD×(LD×(LD×(LD×T1))))))) _ (some b2) (fun c2=>
 opt.alt T0 (Unit) _ (
 opt.run T3 (
 opt.ask _ (p.cmp .neq c2.2.2.2.1 (0:Int)) (
 opt.ret _ (Sum.inl (c2.2.2.2.1,()))) (
 opt.ask _ (bif (p.cmp .eql x.2.2.2.2.1 (0:Int)) then (bif (p.cmp .eql x.2.2.2.2.2.1 (0:Int)) then Bool.true else Bool.false) else Bool.false) (
 opt.alt T0 (Unit) _ (
 opt.run T3 (
 opt.ret _ (Sum.inl ((2:Int),())))) (fun d2=>
 opt.ret _ (Sum.inl (d2.1,()))) (fun e2=>
 opt.bnd (Unit) _ (some e2) fun f2=>
 opt.ret _ (Sum.inr ()))) (
 opt.bnd T0 _ (G77 p (x.2.2.2.2.1,())) fun g2=>
 opt.bnd T0 _ (G77 p (x.2.2.2.2.2.1,())) fun h2=>
 opt.ask _ (p.cmp .gtr (p.mm .gtr g2.1 h2.1) (1048576:Int)) (
 opt.alt T0 (Unit) _ (
 opt.run T3 (
 opt.ret _ (Sum.inl ((2:Int),())))) (fun i2=>
 opt.ret _ (Sum.inl (i2.1,()))) (fun j2=>
 opt.bnd (Unit) _ (some j2) fun k2=>
 opt.ret _ (Sum.inr ()))) (
 opt.bnd T0 _ (G77 p (x.2.2.2.2.2.2.1,())) fun l2=>
 opt.ask _ (p.cmp .gtr l2.1 (1099511627776:Int)) (
 opt.alt T0 (Unit) _ (
 opt.run T3 (
 opt.ret _ (Sum.inl ((2:Int),())))) (fun m2=>
 opt.ret _ (Sum.inl (m2.1,()))) (fun n2=>
 opt.bnd (Unit) _ (some n2) fun o2=>
 opt.ret _ (Sum.inr ()))) (
 opt.ask _ (p.cmp .lss (p.mm .lss x.2.2.2.2.1 x.2.2.2.2.2.1) (-1048576:Int)) (
 opt.alt T0 (Unit) _ (
 opt.run T3 (
 opt.ret _ (Sum.inl ((2:Int),())))) (fun q2=>
 opt.ret _ (Sum.inl (q2.1,()))) (fun r2=>
 opt.bnd (Unit) _ (some r2) fun t2=>
 opt.ret _ (Sum.inr ()))) (
 opt.alt T0 (Unit) _ (
 opt.run T3 (
 opt.ask _ (p.cmp .lss x.2.2.2.2.2.2.1 (-1099511627776:Int)) (
 opt.ret _ (Sum.inl ((2:Int),()))) (
 opt.bnd T0 _ (g78m it p (c2.2.2.1,(x.2.2.2.2.1,(x.2.2.2.2.2.1,())))) fun u2=>
 opt.ask _ (p.cmp .gtr u2.1 x.2.2.2.2.2.2.1) (
 opt.ret _ (Sum.inl ((14:Int),()))) (
 opt.no _ 41)))) (fun v2=>
 opt.ret _ (Sum.inl (v2.1,()))) (fun w2=>
 opt.bnd (Unit) _ (some w2) fun z2=>
 opt.ret _ (Sum.inr ()))))))))) (fun a3=>
 opt.ret _ (a3.1,())) (fun b3=>
 opt.bnd (Unit) _ (some b3) fun c3=>
 opt.ret _ ((0:Int),()))) (fun d3=>
 opt.bnd ((LD×(LD×(LD×(LD×(LD×(LD×T1))))))) _ (some d3) fun e3=>
 opt.alt T0 (Unit) _ (
 opt.run T3 (
 opt.ask _ (p.cmp .neq e3.2.2.2.2.2.2.1 (0:Int)) (
 opt.ret _ (Sum.inl (e3.2.2.2.2.2.2.1,()))) (
 opt.ask _ (bif (p.cmp .eql x.2.2.2.2.1 (0:Int)) then (bif (p.cmp .eql x.2.2.2.2.2.1 (0:Int)) then Bool.true else Bool.false) else Bool.false) (
 opt.alt T0 (Unit) _ (
 opt.run T3 (
 opt.ret _ (Sum.inl ((2:Int),())))) (fun f3=>
 opt.ret _ (Sum.inl (f3.1,()))) (fun g3=>
 opt.bnd (Unit) _ (some g3) fun h3=>
 opt.ret _ (Sum.inr ()))) (
 opt.bnd T0 _ (G77 p (x.2.2.2.2.1,())) fun i3=>
 opt.bnd T0 _ (G77 p (x.2.2.2.2.2.1,())) fun j3=>
 opt.ask _ (p.cmp .gtr (p.mm .gtr i3.1 j3.1) (1048576:Int)) (
 opt.alt T0 (Unit) _ (
 opt.run T3 (
 opt.ret _ (Sum.inl ((2:Int),())))) (fun k3=>
 opt.ret _ (Sum.inl (k3.1,()))) (fun l3=>
 opt.bnd (Unit) _ (some l3) fun m3=>
 opt.ret _ (Sum.inr ()))) (
 opt.bnd T0 _ (G77 p (x.2.2.2.2.2.2.1,())) fun n3=>
 opt.ask _ (p.cmp .gtr n3.1 (1099511627776:Int)) (
 opt.alt T0 (Unit) _ (
 opt.run T3 (
 opt.ret _ (Sum.inl ((2:Int),())))) (fun o3=>
 opt.ret _ (Sum.inl (o3.1,()))) (fun q3=>
 opt.bnd (Unit) _ (some q3) fun r3=>
 opt.ret _ (Sum.inr ()))) (
 opt.ask _ (p.cmp .lss (p.mm .lss x.2.2.2.2.1 x.2.2.2.2.2.1) (-1048576:Int)) (
 opt.alt T0 (Unit) _ (
 opt.run T3 (
 opt.ret _ (Sum.inl ((2:Int),())))) (fun t3=>
 opt.ret _ (Sum.inl (t3.1,()))) (fun u3=>
 opt.bnd (Unit) _ (some u3) fun v3=>
 opt.ret _ (Sum.inr ()))) (
 opt.alt T0 (Unit) _ (
 opt.run T3 (
 opt.ask _ (p.cmp .lss x.2.2.2.2.2.2.1 (-1099511627776:Int)) (
 opt.ret _ (Sum.inl ((2:Int),()))) (
 opt.bnd T0 _ (g78m it p (e3.2.2.1,(x.2.2.2.2.1,(x.2.2.2.2.2.1,())))) fun w3=>
 opt.ask _ (p.cmp .gtr w3.1 x.2.2.2.2.2.2.1) (
 opt.ret _ (Sum.inl ((14:Int),()))) (
 opt.bnd T0 _ (g78m it p (e3.2.2.2.2.2.1,((p.ar .sub .i64 (0:Int) x.2.2.2.2.1),((p.ar .sub .i64 (0:Int) x.2.2.2.2.2.1),())))) fun z3=>
 opt.ask _ (p.cmp .leq (p.ar .sub .i64 (0:Int) z3.1) x.2.2.2.2.2.2.1) (
 opt.ret _ (Sum.inl ((14:Int),()))) (
 opt.ret _ (Sum.inr ())))))) (fun a4=>
 opt.ret _ (Sum.inl (a4.1,()))) (fun b4=>
 opt.bnd (Unit) _ (some b4) fun c4=>
 opt.ret _ (Sum.inr ()))))))))) (fun d4=>
 opt.ret _ (d4.1,())) (fun e4=>
 opt.bnd (Unit) _ (some e4) fun f4=>
 opt.ret _ ((0:Int),())))))
def G39:=g39 it0
theorem ok39:CtrOk PG ctr39 (G39 std):=okF (a:=an39) (l:=la39) (gC ok78m (gC ok77 (gC ok62 (gN)))) (by kernel_rfl) fun _ _=>by kernel_rfl
end Go.Am
end
noncomputable section
namespace Go.Am
def ctr40:Ctr:=
 ⟨40,[.agg [.list 2, .list 1], .agg [.list 2, .list 1], .agg [.int .i64, .int .i64, .int .i64]],[],[(.ret,⟨[(0, .int .i64)],[],1⟩)]⟩
def la40:List LA:=
 []
def ja40:List JA:=
 [⟨40,[true,true,true,false,false,true,true,true],0,[(AX.ret,⟨[(6, .int .i64)],[],67⟩),(AX.normal,⟨[],[],67⟩)]⟩,
 ⟨40,[false,true,true,false,false,true,true,true],0,[(AX.normal,⟨[(5, .bptr 0 0),(7, .nilp),(8, .nilp),(10, .bptr 1 0),(27, .bool)],[.box [.int .i64, .int .i64, .int .i64], .box [.int .i64, .int .i64]],67⟩),(AX.normal,⟨[(5, .bptr 0 0),(7, .nilp),(8, .bptr 1 0),(10, .bptr 2 0),(27, .bool)],[.box [.int .i64, .int .i64, .int .i64], .box [.list 2, .list 1, .list 2], .box [.int .i64, .int .i64]],67⟩),(AX.normal,⟨[(5, .bptr 0 0),(7, .bptr 1 0),(8, .nilp),(10, .bptr 2 0),(27, .bool)],[.box [.int .i64, .int .i64, .int .i64], .box [.list 2, .list 1, .list 2], .box [.int .i64, .int .i64]],67⟩),(AX.normal,⟨[(5, .bptr 0 0),(7, .bptr 1 0),(8, .bptr 2 0),(10, .bptr 3 0),(27, .bool)],[.box [.int .i64, .int .i64, .int .i64], .box [.list 2, .list 1, .list 2], .box [.list 2, .list 1, .list 2], .box [.int .i64, .int .i64]],67⟩)]⟩,
 ⟨40,[true,false,false,true,true,true],0,[(AX.ret,⟨[(6, .int .i64)],[],67⟩),(AX.normal,⟨[],[],67⟩)]⟩]
def gam40:List CF:=
 [⟨ctr57,G57⟩,⟨ctr53,G53⟩,⟨ctr62,G62⟩]
def an40:Anns:=
 ⟨gam40,ja40,[]⟩
def g40 (it:It):(p:Prim)→(LD×(LD×(LD×(LD×T6))))→Option T0:=
 fun p x=>
 opt.alt T0 (((LD×(LD×(LD×T1)))⊕((LD×(LD×(LD×T1)))⊕(LD×(LD×(LD×(LD×(LD×(LD×T1))))))))) _ (g62 it p (x.1,(x.2.1,(x.2.2.1,(x.2.2.2.1,()))))) (fun a=>
 opt.alt T0 (Unit) _ (
 opt.run T3 (
 opt.ask _ (p.cmp .neq a.1 (0:Int)) (
 opt.ret _ (Sum.inl (a.1,()))) (
 opt.alt T40 T41 _ (
 opt.run T42 (
 opt.ask _ (p.cmp .lss x.2.2.2.2.2.2.1 (1:Int)) (
 opt.ret _ (Sum.inl (x.2.2.2.2.1,(x.2.2.2.2.2.1,(x.2.2.2.2.2.2.1,(x.2.2.2.2.1,(x.2.2.2.2.2.1,(Bool.true,())))))))) (
 opt.ask _ (p.cmp .gtr x.2.2.2.2.2.2.1 (268435456:Int)) (
 opt.ret _ (Sum.inl (x.2.2.2.2.1,(x.2.2.2.2.2.1,(x.2.2.2.2.2.2.1,(x.2.2.2.2.1,(x.2.2.2.2.2.1,(Bool.true,())))))))) (
 opt.need _ (p.and Bool.true (p.and Bool.true (p.and (p.leN (p.add 0 1) (p.len [[(D.int .i64 x.2.2.2.2.1),(D.int .i64 x.2.2.2.2.2.1)]])) Bool.true)))<|
 opt.bnd T2 _ (g53 it p ((-1099511627776:Int),((1099511627776:Int),((p.cut [[(D.int .i64 x.2.2.2.2.1),(D.int .i64 x.2.2.2.2.2.1)]] 0 1),())))) fun b=>
 opt.ret _ (Sum.inl (x.2.2.2.2.1,(x.2.2.2.2.2.1,(x.2.2.2.2.2.2.1,(x.2.2.2.2.1,(x.2.2.2.2.2.1,((bif b.1 then Bool.false else Bool.true),()))))))))))) (fun c=>
 opt.alt T0 (Unit) _ (
 opt.run T3 (
 opt.ask _ c.2.2.2.2.2.1 (
 opt.ret _ (Sum.inl ((2:Int),()))) (
 opt.no _ 41))) (fun d=>
 opt.ret _ (Sum.inl (d.1,()))) (fun e=>
 opt.bnd (Unit) _ (some e) fun f=>
 opt.ret _ (Sum.inr ()))) (fun g=>
 opt.alt T16 T43 _ (some g) (fun h=>
 opt.alt T0 (Unit) _ (
 opt.run T3 (
 opt.ask _ h.2.2.2.2.2.2.2.2.1 (
 opt.ret _ (Sum.inl ((2:Int),()))) (
 opt.no _ 41))) (fun i=>
 opt.ret _ (Sum.inl (i.1,()))) (fun j=>
 opt.bnd (Unit) _ (some j) fun k=>
 opt.ret _ (Sum.inr ()))) (fun l=>
 opt.alt T16 T17 _ (some l) (fun m=>
 opt.alt T0 (Unit) _ (
 opt.run T3 (
 opt.ask _ m.2.2.2.2.2.2.2.2.1 (
 opt.ret _ (Sum.inl ((2:Int),()))) (
 opt.bnd T2 _ (g57 it p (m.2.2.2.2.2.1,(m.2.2.2.2.2.2.1,(m.2.2.2.2.2.2.2.1,(m.2.2.1,()))))) fun n=>
 opt.ask _ (bif n.1 then Bool.false else Bool.true) (
 opt.ret _ (Sum.inl ((14:Int),()))) (
 opt.no _ 41)))) (fun o=>
 opt.ret _ (Sum.inl (o.1,()))) (fun q=>
 opt.bnd (Unit) _ (some q) fun r=>
 opt.ret _ (Sum.inr ()))) (fun t=>
 opt.bnd T17 _ (some t) fun u=>
 opt.alt T0 (Unit) _ (
 opt.run T3 (
 opt.ask _ u.2.2.2.2.2.2.2.2.2.2.2.1 (
 opt.ret _ (Sum.inl ((2:Int),()))) (
 opt.bnd T2 _ (g57 it p (u.2.2.2.2.2.1,(u.2.2.2.2.2.2.2.2.2.1,(u.2.2.2.2.2.2.2.2.2.2.1,(u.2.2.1,()))))) fun v=>
 opt.ask _ (bif v.1 then Bool.false else Bool.true) (
 opt.ret _ (Sum.inl ((14:Int),()))) (
 opt.bnd T2 _ (g57 it p (u.2.2.2.2.2.2.2.2.1,(u.2.2.2.2.2.2.2.2.2.1,(u.2.2.2.2.2.2.2.2.2.2.1,(u.2.2.1,()))))) fun w=>
 opt.ask _ (bif w.1 then Bool.false else Bool.true) (
 opt.ret _ (Sum.inl ((14:Int),()))) (
 opt.ret _ (Sum.inr ())))))) (fun z=>
 opt.ret _ (Sum.inl (z.1,()))) (fun a1=>
 opt.bnd (Unit) _ (some a1) fun b1=>
 opt.ret _ (Sum.inr ())))))))) (fun c1=>
 opt.ret _ (c1.1,())) (fun d1=>
 opt.bnd (Unit) _ (some d1) fun e1=>
 opt.ret _ ((0:Int),()))) (fun f1=>
 opt.alt ((LD×(LD×(LD×T1)))) (((LD×(LD×(LD×T1)))⊕(LD×(LD×(LD×(LD×(LD×(LD×T1)))))))) _ (some f1) (fun g1=>
 opt.alt T0 (Unit) _ (
 opt.run T3 (
 opt.ask _ (p.cmp .neq g1.2.2.2.1 (0:Int)) (
 opt.ret _ (Sum.inl (g1.2.2.2.1,()))) (
 opt.alt T40 T41 _ (
 opt.run T42 (
 opt.ask _ (p.cmp .lss x.2.2.2.2.2.2.1 (1:Int)) (
 opt.ret _ (Sum.inr (Sum.inl (x.2.2.2.2.1,(x.2.2.2.2.2.1,(x.2.2.2.2.2.2.1,(g1.1,(g1.2.1,(g1.2.2.1,(x.2.2.2.2.1,(x.2.2.2.2.2.1,(Bool.true,())))))))))))) (
 opt.ask _ (p.cmp .gtr x.2.2.2.2.2.2.1 (268435456:Int)) (
 opt.ret _ (Sum.inr (Sum.inl (x.2.2.2.2.1,(x.2.2.2.2.2.1,(x.2.2.2.2.2.2.1,(g1.1,(g1.2.1,(g1.2.2.1,(x.2.2.2.2.1,(x.2.2.2.2.2.1,(Bool.true,())))))))))))) (
 opt.need _ (p.and Bool.true (p.and Bool.true (p.and (p.leN (p.add 0 1) (p.len [[(D.int .i64 x.2.2.2.2.1),(D.int .i64 x.2.2.2.2.2.1)]])) Bool.true)))<|
 opt.bnd T2 _ (g53 it p ((-1099511627776:Int),((1099511627776:Int),((p.cut [[(D.int .i64 x.2.2.2.2.1),(D.int .i64 x.2.2.2.2.2.1)]] 0 1),())))) fun h1=>
 opt.ret _ (Sum.inr (Sum.inl (x.2.2.2.2.1,(x.2.2.2.2.2.1,(x.2.2.2.2.2.2.1,(g1.1,(g1.2.1,(g1.2.2.1,(x.2.2.2.2.1,(x.2.2.2.2.2.1,((bif h1.1 then Bool.false else Bool.true),()))))))))))))))) (fun i1=>
 opt.alt T0 (Unit) _ (
 opt.run T3 (
 opt.ask _ i1.2.2.2.2.2.1 (
 opt.ret _ (Sum.inl ((2:Int),()))) (
 opt.no _ 41))) (fun j1=>
 opt.ret _ (Sum.inl (j1.1,()))) (fun k1=>
 opt.bnd (Unit) _ (some k1) fun l1=>
 opt.ret _ (Sum.inr ()))) (fun m1=>
 opt.alt T16 T43 _ (some m1) (fun n1=>
 opt.alt T0 (Unit) _ (
 opt.run T3 (
 opt.ask _ n1.2.2.2.2.2.2.2.2.1 (
 opt.ret _ (Sum.inl ((2:Int),()))) (
 opt.no _ 41))) (fun o1=>
 opt.ret _ (Sum.inl (o1.1,()))) (fun q1=>
 opt.bnd (Unit) _ (some q1) fun r1=>
 opt.ret _ (Sum.inr ()))) (fun t1=>
 opt.alt T16 T17 _ (some t1) (fun u1=>
 opt.alt T0 (Unit) _ (
 opt.run T3 (
 opt.ask _ u1.2.2.2.2.2.2.2.2.1 (
 opt.ret _ (Sum.inl ((2:Int),()))) (
 opt.bnd T2 _ (g57 it p (u1.2.2.2.2.2.1,(u1.2.2.2.2.2.2.1,(u1.2.2.2.2.2.2.2.1,(u1.2.2.1,()))))) fun v1=>
 opt.ask _ (bif v1.1 then Bool.false else Bool.true) (
 opt.ret _ (Sum.inl ((14:Int),()))) (
 opt.no _ 41)))) (fun w1=>
 opt.ret _ (Sum.inl (w1.1,()))) (fun z1=>
 opt.bnd (Unit) _ (some z1) fun a2=>
 opt.ret _ (Sum.inr ()))) (fun b2=>
 opt.bnd T17 _ (some b2) fun c2=>
 opt.alt T0 (Unit) _ (
 opt.run T3 (
 opt.ask _ c2.2.2.2.2.2.2.2.2.2.2.2.1 (
 opt.ret _ (Sum.inl ((2:Int),()))) (
 opt.bnd T2 _ (g57 it p (c2.2.2.2.2.2.1,(c2.2.2.2.2.2.2.2.2.2.1,(c2.2.2.2.2.2.2.2.2.2.2.1,(c2.2.2.1,()))))) fun d2=>
 opt.ask _ (bif d2.1 then Bool.false else Bool.true) (
 opt.ret _ (Sum.inl ((14:Int),()))) (
 opt.bnd T2 _ (g57 it p (c2.2.2.2.2.2.2.2.2.1,(c2.2.2.2.2.2.2.2.2.2.1,(c2.2.2.2.2.2.2.2.2.2.2.1,(c2.2.2.1,()))))) fun e2=>
 opt.ask _ (bif e2.1 then Bool.false else Bool.true) (
 opt.ret _ (Sum.inl ((14:Int),()))) (
 opt.ret _ (Sum.inr ())))))) (fun f2=>
 opt.ret _ (Sum.inl (f2.1,()))) (fun g2=>
 opt.bnd (Unit) _ (some g2) fun h2=>
 opt.ret _ (Sum.inr ())))))))) (fun i2=>
 opt.ret _ (i2.1,())) (fun j2=>
 opt.bnd (Unit) _ (some j2) fun k2=>
 opt.ret _ ((0:Int),()))) (fun l2=>
 opt.alt ((LD×(LD×(LD×T1)))) ((LD×(LD×(LD×(LD×(LD×(LD×T1))))))) _ (some l2) (fun m2=>
 opt.alt T0 (Unit) _ (
 opt.run T3 (
 opt.ask _ (p.cmp .neq m2.2.2.2.1 (0:Int)) (
 opt.ret _ (Sum.inl (m2.2.2.2.1,()))) (
 opt.alt T40 T41 _ (
 opt.run T42 (
 opt.ask _ (p.cmp .lss x.2.2.2.2.2.2.1 (1:Int)) (
 opt.ret _ (Sum.inr (Sum.inr (Sum.inl (x.2.2.2.2.1,(x.2.2.2.2.2.1,(x.2.2.2.2.2.2.1,(m2.1,(m2.2.1,(m2.2.2.1,(x.2.2.2.2.1,(x.2.2.2.2.2.1,(Bool.true,()))))))))))))) (
 opt.ask _ (p.cmp .gtr x.2.2.2.2.2.2.1 (268435456:Int)) (
 opt.ret _ (Sum.inr (Sum.inr (Sum.inl (x.2.2.2.2.1,(x.2.2.2.2.2.1,(x.2.2.2.2.2.2.1,(m2.1,(m2.2.1,(m2.2.2.1,(x.2.2.2.2.1,(x.2.2.2.2.2.1,(Bool.true,()))))))))))))) (
 opt.need _ (p.and Bool.true (p.and Bool.true (p.and (p.leN (p.add 0 1) (p.len [[(D.int .i64 x.2.2.2.2.1),(D.int .i64 x.2.2.2.2.2.1)]])) Bool.true)))<|
 opt.bnd T2 _ (g53 it p ((-1099511627776:Int),((1099511627776:Int),((p.cut [[(D.int .i64 x.2.2.2.2.1),(D.int .i64 x.2.2.2.2.2.1)]] 0 1),())))) fun n2=>
 opt.ret _ (Sum.inr (Sum.inr (Sum.inl (x.2.2.2.2.1,(x.2.2.2.2.2.1,(x.2.2.2.2.2.2.1,(m2.1,(m2.2.1,(m2.2.2.1,(x.2.2.2.2.1,(x.2.2.2.2.2.1,((bif n2.1 then Bool.false else Bool.true),())))))))))))))))) (fun o2=>
 opt.alt T0 (Unit) _ (
 opt.run T3 (
 opt.ask _ o2.2.2.2.2.2.1 (
 opt.ret _ (Sum.inl ((2:Int),()))) (
 opt.no _ 41))) (fun q2=>
 opt.ret _ (Sum.inl (q2.1,()))) (fun r2=>
 opt.bnd (Unit) _ (some r2) fun t2=>
 opt.ret _ (Sum.inr ()))) (fun u2=>
 opt.alt T16 T43 _ (some u2) (fun v2=>
 opt.alt T0 (Unit) _ (
 opt.run T3 (
 opt.ask _ v2.2.2.2.2.2.2.2.2.1 (
 opt.ret _ (Sum.inl ((2:Int),()))) (
 opt.no _ 41))) (fun w2=>
 opt.ret _ (Sum.inl (w2.1,()))) (fun z2=>
 opt.bnd (Unit) _ (some z2) fun a3=>
 opt.ret _ (Sum.inr ()))) (fun b3=>
 opt.alt T16 T17 _ (some b3) (fun c3=>
 opt.alt T0 (Unit) _ (
 opt.run T3 (
 opt.ask _ c3.2.2.2.2.2.2.2.2.1 (
 opt.ret _ (Sum.inl ((2:Int),()))) (
 opt.bnd T2 _ (g57 it p (c3.2.2.2.2.2.1,(c3.2.2.2.2.2.2.1,(c3.2.2.2.2.2.2.2.1,(c3.2.2.1,()))))) fun d3=>
 opt.ask _ (bif d3.1 then Bool.false else Bool.true) (
 opt.ret _ (Sum.inl ((14:Int),()))) (
 opt.no _ 41)))) (fun e3=>
 opt.ret _ (Sum.inl (e3.1,()))) (fun f3=>
 opt.bnd (Unit) _ (some f3) fun g3=>
 opt.ret _ (Sum.inr ()))) (fun h3=>
 opt.bnd T17 _ (some h3) fun i3=>
 opt.alt T0 (Unit) _ (
 opt.run T3 (
 opt.ask _ i3.2.2.2.2.2.2.2.2.2.2.2.1 (
 opt.ret _ (Sum.inl ((2:Int),()))) (
 opt.bnd T2 _ (g57 it p (i3.2.2.2.2.2.1,(i3.2.2.2.2.2.2.2.2.2.1,(i3.2.2.2.2.2.2.2.2.2.2.1,(i3.2.2.1,()))))) fun j3=>
 opt.ask _ (bif j3.1 then Bool.false else Bool.true) (
 opt.ret _ (Sum.inl ((14:Int),()))) (
 opt.bnd T2 _ (g57 it p (i3.2.2.2.2.2.2.2.2.1,(i3.2.2.2.2.2.2.2.2.2.1,(i3.2.2.2.2.2.2.2.2.2.2.1,(i3.2.2.1,()))))) fun k3=>
 opt.ask _ (bif k3.1 then Bool.false else Bool.true) (
 opt.ret _ (Sum.inl ((14:Int),()))) (
 opt.ret _ (Sum.inr ())))))) (fun l3=>
 opt.ret _ (Sum.inl (l3.1,()))) (fun m3=>
 opt.bnd (Unit) _ (some m3) fun n3=>
 opt.ret _ (Sum.inr ())))))))) (fun o3=>
 opt.ret _ (o3.1,())) (fun q3=>
 opt.bnd (Unit) _ (some q3) fun r3=>
 opt.ret _ ((0:Int),()))) (fun t3=>
 opt.bnd ((LD×(LD×(LD×(LD×(LD×(LD×T1))))))) _ (some t3) fun u3=>
 opt.alt T0 (Unit) _ (
 opt.run T3 (
 opt.ask _ (p.cmp .neq u3.2.2.2.2.2.2.1 (0:Int)) (
 opt.ret _ (Sum.inl (u3.2.2.2.2.2.2.1,()))) (
 opt.alt T40 T41 _ (
 opt.run T42 (
 opt.ask _ (p.cmp .lss x.2.2.2.2.2.2.1 (1:Int)) (
 opt.ret _ (Sum.inr (Sum.inr (Sum.inr (x.2.2.2.2.1,(x.2.2.2.2.2.1,(x.2.2.2.2.2.2.1,(u3.1,(u3.2.1,(u3.2.2.1,(u3.2.2.2.1,(u3.2.2.2.2.1,(u3.2.2.2.2.2.1,(x.2.2.2.2.1,(x.2.2.2.2.2.1,(Bool.true,())))))))))))))))) (
 opt.ask _ (p.cmp .gtr x.2.2.2.2.2.2.1 (268435456:Int)) (
 opt.ret _ (Sum.inr (Sum.inr (Sum.inr (x.2.2.2.2.1,(x.2.2.2.2.2.1,(x.2.2.2.2.2.2.1,(u3.1,(u3.2.1,(u3.2.2.1,(u3.2.2.2.1,(u3.2.2.2.2.1,(u3.2.2.2.2.2.1,(x.2.2.2.2.1,(x.2.2.2.2.2.1,(Bool.true,())))))))))))))))) (
 opt.need _ (p.and Bool.true (p.and Bool.true (p.and (p.leN (p.add 0 1) (p.len [[(D.int .i64 x.2.2.2.2.1),(D.int .i64 x.2.2.2.2.2.1)]])) Bool.true)))<|
 opt.bnd T2 _ (g53 it p ((-1099511627776:Int),((1099511627776:Int),((p.cut [[(D.int .i64 x.2.2.2.2.1),(D.int .i64 x.2.2.2.2.2.1)]] 0 1),())))) fun v3=>
 opt.ret _ (Sum.inr (Sum.inr (Sum.inr (x.2.2.2.2.1,(x.2.2.2.2.2.1,(x.2.2.2.2.2.2.1,(u3.1,(u3.2.1,(u3.2.2.1,(u3.2.2.2.1,(u3.2.2.2.2.1,(u3.2.2.2.2.2.1,(x.2.2.2.2.1,(x.2.2.2.2.2.1,((bif v3.1 then Bool.false else Bool.true),()))))))))))))))))))) (fun w3=>
 opt.alt T0 (Unit) _ (
 opt.run T3 (
 opt.ask _ w3.2.2.2.2.2.1 (
 opt.ret _ (Sum.inl ((2:Int),()))) (
 opt.no _ 41))) (fun z3=>
 opt.ret _ (Sum.inl (z3.1,()))) (fun a4=>
 opt.bnd (Unit) _ (some a4) fun b4=>
 opt.ret _ (Sum.inr ()))) (fun c4=>
 opt.alt T16 T43 _ (some c4) (fun d4=>
 opt.alt T0 (Unit) _ (
 opt.run T3 (
 opt.ask _ d4.2.2.2.2.2.2.2.2.1 (
 opt.ret _ (Sum.inl ((2:Int),()))) (
 opt.no _ 41))) (fun e4=>
 opt.ret _ (Sum.inl (e4.1,()))) (fun f4=>
 opt.bnd (Unit) _ (some f4) fun g4=>
 opt.ret _ (Sum.inr ()))) (fun h4=>
 opt.alt T16 T17 _ (some h4) (fun i4=>
 opt.alt T0 (Unit) _ (
 opt.run T3 (
 opt.ask _ i4.2.2.2.2.2.2.2.2.1 (
 opt.ret _ (Sum.inl ((2:Int),()))) (
 opt.bnd T2 _ (g57 it p (i4.2.2.2.2.2.1,(i4.2.2.2.2.2.2.1,(i4.2.2.2.2.2.2.2.1,(i4.2.2.1,()))))) fun j4=>
 opt.ask _ (bif j4.1 then Bool.false else Bool.true) (
 opt.ret _ (Sum.inl ((14:Int),()))) (
 opt.no _ 41)))) (fun k4=>
 opt.ret _ (Sum.inl (k4.1,()))) (fun l4=>
 opt.bnd (Unit) _ (some l4) fun m4=>
 opt.ret _ (Sum.inr ()))) (fun n4=>
 opt.bnd T17 _ (some n4) fun o4=>
 opt.alt T0 (Unit) _ (
 opt.run T3 (
 opt.ask _ o4.2.2.2.2.2.2.2.2.2.2.2.1 (
 opt.ret _ (Sum.inl ((2:Int),()))) (
 opt.bnd T2 _ (g57 it p (o4.2.2.2.2.2.1,(o4.2.2.2.2.2.2.2.2.2.1,(o4.2.2.2.2.2.2.2.2.2.2.1,(o4.2.2.1,()))))) fun q4=>
 opt.ask _ (bif q4.1 then Bool.false else Bool.true) (
 opt.ret _ (Sum.inl ((14:Int),()))) (
 opt.bnd T2 _ (g57 it p (o4.2.2.2.2.2.2.2.2.1,(o4.2.2.2.2.2.2.2.2.2.1,(o4.2.2.2.2.2.2.2.2.2.2.1,(o4.2.2.1,()))))) fun r4=>
 opt.ask _ (bif r4.1 then Bool.false else Bool.true) (
 opt.ret _ (Sum.inl ((14:Int),()))) (
 opt.ret _ (Sum.inr ())))))) (fun t4=>
 opt.ret _ (Sum.inl (t4.1,()))) (fun u4=>
 opt.bnd (Unit) _ (some u4) fun v4=>
 opt.ret _ (Sum.inr ())))))))) (fun w4=>
 opt.ret _ (w4.1,())) (fun z4=>
 opt.bnd (Unit) _ (some z4) fun a5=>
 opt.ret _ ((0:Int),())))))
def G40:=g40 it0
theorem ok40:CtrOk PG ctr40 (G40 std):=okF (a:=an40) (l:=la40) (gC ok57 (gC ok53 (gC ok62 (gN)))) (by kernel_rfl) fun _ _=>by kernel_rfl
end Go.Am
end
noncomputable section
namespace Go.Am
def ctr37:Ctr:=
 ⟨37,[.agg [.list 2, .list 1], .agg [.list 2, .list 1]],[],[(.ret,⟨[(0, .tuple [.agg [.int .i64, .int .i64, .int .i64], .int .i64])],[],1⟩)]⟩
def la37:List LA:=
 [⟨37,[false,true,false,true,true,true],0,⟨⟨[(4, .bptr 0 0),(5, .bptr 1 0),(6, .bptr 2 0),(7, .bptr 3 0),(46, .agg [.list 2, .list 2, .list 2, .list 2]),(47, .int .i64)],[.box [.int .i64, .int .i64, .int .i64], .box [.int .i64], .box [.list 2, .list 1, .list 2], .box [.bptr 4 0], .box [.list 2, .list 1, .list 2]],89⟩,[(AX.ret,⟨[(4, .bptr 0 0),(5, .bptr 1 0)],[.box [.int .i64, .int .i64, .int .i64], .box [.int .i64]],89⟩),((AX.exit 0),⟨[(4, .bptr 0 0),(5, .bptr 1 0),(6, .bptr 2 0),(7, .bptr 3 0)],[.box [.int .i64, .int .i64, .int .i64], .box [.int .i64], .box [.list 2, .list 1, .list 2], .box [.bptr 4 0], .box [.list 2, .list 1, .list 2]],89⟩)]⟩⟩,
 ⟨37,[false,true,true,false,false,true,true,false,false,true,false,true,true,true],0,⟨⟨[(4, .bptr 0 0),(5, .bptr 1 0),(6, .bptr 2 0),(7, .bptr 3 0),(10, .bptr 4 0),(46, .agg [.list 2, .list 2, .list 2, .list 2]),(47, .int .i64),(51, .list 2),(52, .int .i64),(53, .int .i64)],[.box [.int .i64, .int .i64, .int .i64], .box [.int .i64], .box [.list 2, .list 1, .list 2], .box [.bptr 5 0], .box [.list 2, .list 2], .box [.list 2, .list 1, .list 2]],89⟩,[(AX.ret,⟨[(4, .bptr 0 0),(5, .bptr 1 0)],[.box [.int .i64, .int .i64, .int .i64], .box [.int .i64]],89⟩),((AX.exit 2),⟨[(4, .bptr 0 0),(5, .bptr 1 0),(6, .bptr 2 0),(7, .bptr 3 0),(46, .agg [.list 2, .list 2, .list 2, .list 2]),(47, .int .i64)],[.box [.int .i64, .int .i64, .int .i64], .box [.int .i64], .box [.list 2, .list 1, .list 2], .box [.bptr 4 0], .box [.list 2, .list 1, .list 2]],89⟩)]⟩⟩,
 ⟨94,[false,true],7,⟨⟨[(0, .yld 6),(1, .bptr 5 0),(6, .list 2),(7, .int .i64),(8, .int .i64)],[.box [.int .i64, .int .i64, .int .i64], .box [.int .i64], .box [.list 2, .list 1, .list 2], .box [.bptr 4 0], .box [.list 2, .list 1, .list 2], .box [.list 2], .loop Go.LoopState.ready Option.none 37 [Bool.false,Bool.true,Bool.false,Bool.true,Bool.true,Bool.true,Bool.true] 89 [(72, .clo 94 [] [.bptr 5 0]),(7, .bptr 3 0),(4, .bptr 0 0),(5, .bptr 1 0)]],33⟩,[(AX.ret,⟨[],[.box [.int .i64, .int .i64, .int .i64], .box [.int .i64], .box [.list 2, .list 1, .list 2], .box [.bptr 4 0], .box [.list 2, .list 1, .list 2], .box [.list 2], .loop Go.LoopState.ready Option.none 37 [Bool.false,Bool.true,Bool.false,Bool.true,Bool.true,Bool.true,Bool.true] 89 [(72, .clo 94 [] [.bptr 5 0]),(7, .bptr 3 0),(4, .bptr 0 0),(5, .bptr 1 0)]],33⟩),(AX.ret,⟨[],[.box [.int .i64, .int .i64, .int .i64], .box [.int .i64], .box [.list 2, .list 1, .list 2], .box [.bptr 4 0], .box [.list 2, .list 1, .list 2], .box [.list 2], .loop Go.LoopState.done (Option.some Go.Code.ret) 37 [Bool.false,Bool.true,Bool.false,Bool.true,Bool.true,Bool.true,Bool.true] 89 [(72, .clo 94 [] [.bptr 5 0]),(7, .bptr 3 0),(4, .bptr 0 0),(5, .bptr 1 0)]],33⟩),((AX.exit 0),⟨[],[.box [.int .i64, .int .i64, .int .i64], .box [.int .i64], .box [.list 2, .list 1, .list 2], .box [.bptr 4 0], .box [.list 2, .list 1, .list 2], .box [.list 2], .loop Go.LoopState.ready Option.none 37 [Bool.false,Bool.true,Bool.false,Bool.true,Bool.true,Bool.true,Bool.true] 89 [(72, .clo 94 [] [.bptr 5 0]),(7, .bptr 3 0),(4, .bptr 0 0),(5, .bptr 1 0)]],33⟩)]⟩⟩,
 ⟨94,[false,true],22,⟨⟨[(0, .yld 21),(1, .bptr 20 0),(6, .list 2),(7, .int .i64),(8, .int .i64)],[.box [.int .i64, .int .i64, .int .i64], .box [.int .i64], .box [.list 2, .list 1, .list 2], .box [.bptr 4 0], .box [.list 2, .list 1, .list 2], .box [.list 2], .dead, .box [.int .i64, .int .i64], .dead, .dead, .dead, .dead, .dead, .dead, .dead, .dead, .dead, .dead, .box [.int .i64, .int .i64], .box [.int .i64, .int .i64, .int .i64, .int .i64], .box [.list 2], .loop Go.LoopState.ready Option.none 37 [Bool.false,Bool.true,Bool.false,Bool.true,Bool.false,Bool.true,Bool.false,Bool.true,Bool.true,Bool.true,Bool.true] 89 [(78, .clo 94 [] [.bptr 20 0]),(13, .bptr 19 0),(7, .bptr 3 0),(4, .bptr 0 0),(5, .bptr 1 0)]],33⟩,[(AX.ret,⟨[],[.box [.int .i64, .int .i64, .int .i64], .box [.int .i64], .box [.list 2, .list 1, .list 2], .box [.bptr 4 0], .box [.list 2, .list 1, .list 2], .box [.list 2], .dead, .box [.int .i64, .int .i64], .dead, .dead, .dead, .dead, .dead, .dead, .dead, .dead, .dead, .dead, .box [.int .i64, .int .i64], .box [.int .i64, .int .i64, .int .i64, .int .i64], .box [.list 2], .loop Go.LoopState.ready Option.none 37 [Bool.false,Bool.true,Bool.false,Bool.true,Bool.false,Bool.true,Bool.false,Bool.true,Bool.true,Bool.true,Bool.true] 89 [(78, .clo 94 [] [.bptr 20 0]),(13, .bptr 19 0),(7, .bptr 3 0),(4, .bptr 0 0),(5, .bptr 1 0)]],33⟩),(AX.ret,⟨[],[.box [.int .i64, .int .i64, .int .i64], .box [.int .i64], .box [.list 2, .list 1, .list 2], .box [.bptr 4 0], .box [.list 2, .list 1, .list 2], .box [.list 2], .dead, .box [.int .i64, .int .i64], .dead, .dead, .dead, .dead, .dead, .dead, .dead, .dead, .dead, .dead, .box [.int .i64, .int .i64], .box [.int .i64, .int .i64, .int .i64, .int .i64], .box [.list 2], .loop Go.LoopState.done (Option.some Go.Code.ret) 37 [Bool.false,Bool.true,Bool.false,Bool.true,Bool.false,Bool.true,Bool.false,Bool.true,Bool.true,Bool.true,Bool.true] 89 [(78, .clo 94 [] [.bptr 20 0]),(13, .bptr 19 0),(7, .bptr 3 0),(4, .bptr 0 0),(5, .bptr 1 0)]],33⟩),((AX.exit 0),⟨[],[.box [.int .i64, .int .i64, .int .i64], .box [.int .i64], .box [.list 2, .list 1, .list 2], .box [.bptr 4 0], .box [.list 2, .list 1, .list 2], .box [.list 2], .dead, .box [.int .i64, .int .i64], .dead, .dead, .dead, .dead, .dead, .dead, .dead, .dead, .dead, .dead, .box [.int .i64, .int .i64], .box [.int .i64, .int .i64, .int .i64, .int .i64], .box [.list 2], .loop Go.LoopState.ready Option.none 37 [Bool.false,Bool.true,Bool.false,Bool.true,Bool.false,Bool.true,Bool.false,Bool.true,Bool.true,Bool.true,Bool.true] 89 [(78, .clo 94 [] [.bptr 20 0]),(13, .bptr 19 0),(7, .bptr 3 0),(4, .bptr 0 0),(5, .bptr 1 0)]],33⟩)]⟩⟩]
def ja37:List JA:=
 [⟨37,[true,false,true,false,true,false,true,true,true,true],19,[(AX.normal,⟨[(4, .bptr 0 0),(5, .bptr 1 0),(7, .bptr 3 0)],[.box [.int .i64, .int .i64, .int .i64], .box [.int .i64], .box [.list 2, .list 1, .list 2], .box [.bptr 4 0], .box [.list 2, .list 1, .list 2], .box [.list 2], .dead, .box [.int .i64, .int .i64], .dead, .dead, .dead, .dead, .dead, .dead, .dead, .dead, .dead, .dead, .box [.int .i64, .int .i64]],89⟩),(AX.ret,⟨[(4, .bptr 0 0),(5, .bptr 1 0)],[.box [.int .i64, .int .i64, .int .i64], .box [.int .i64], .box [.list 2, .list 1, .list 2], .box [.bptr 4 0], .box [.list 2, .list 1, .list 2], .box [.list 2], .dead, .box [.int .i64, .int .i64], .dead, .dead, .dead, .dead, .dead, .dead, .dead, .dead, .dead, .dead, .box [.int .i64, .int .i64]],89⟩)]⟩,
 ⟨37,[false,false,false,true,true,false,false,true,false,true,true,true],0,[(AX.normal,⟨[(4, .bptr 0 0),(5, .bptr 1 0),(6, .bptr 2 0),(7, .bptr 3 0),(10, .bptr 4 0),(46, .agg [.list 2, .list 2, .list 2, .list 2]),(47, .int .i64)],[.box [.int .i64, .int .i64, .int .i64], .box [.int .i64], .box [.list 2, .list 1, .list 2], .box [.bptr 5 0], .box [.list 2, .list 2], .box [.list 2, .list 1, .list 2]],89⟩)]⟩,
 ⟨37,[true,false,true,true,true,true],0,[(AX.normal,⟨[(4, .bptr 0 0),(5, .bptr 1 0)],[.box [.int .i64, .int .i64, .int .i64], .box [.int .i64]],89⟩),(AX.ret,⟨[(4, .bptr 0 0),(5, .bptr 1 0)],[.box [.int .i64, .int .i64, .int .i64], .box [.int .i64]],89⟩)]⟩]
def gam37:List CF:=
 [⟨ctr76,G76⟩,⟨ctr57,G57⟩,⟨ctr62,G62⟩]
def an37:Anns:=
 ⟨gam37,ja37,[]⟩
def c37_4 (it:It) (p:Prim):(Int×(Int×(Int×(Int×(LD×(LD×(LD×(LD×(LD×(LD×(LD×(Int×(Int×(Int×(Int×(Int×(Int×(Int×(Int×(LD×(LD×(Int×(Int×Unit)))))))))))))))))))))))→Option ((Int×(Int×(Int×(Int×(LD×(LD×(LD×(LD×(LD×(LD×(LD×(Int×(Int×(Int×(Int×(Int×(Int×(Int×(Int×(LD×(LD×(Int×(Int×Unit)))))))))))))))))))))))⊕((Int×(Int×(Int×(Int×(LD×(LD×(LD×(LD×(LD×(LD×(LD×(Int×(Int×(Int×(Int×(Int×(Int×(Int×(Int×(LD×Unit))))))))))))))))))))⊕((Int×(Int×(Int×(Int×(LD×(LD×(LD×(LD×(LD×(LD×(LD×(Int×(Int×(Int×(Int×(Int×(Int×(Int×(Int×(LD×Unit))))))))))))))))))))⊕(Int×(Int×(Int×(Int×(LD×(LD×(LD×(LD×(LD×(LD×(LD×(Int×(Int×(Int×(Int×(Int×(Int×(Int×(Int×(LD×Unit))))))))))))))))))))))):=
 fun a=>opt.run _ (
 opt.ask _ (p.cmp .lss a.2.2.2.2.2.2.2.2.2.2.2.2.2.2.2.2.2.2.2.2.2.2.1 a.2.2.2.2.2.2.2.2.2.2.2.2.2.2.2.2.2.2.2.2.2.1) (
 opt.need _ (p.rowOk a.2.2.2.2.2.2.2.2.2.2.2.2.2.2.2.2.2.2.2.2.1 (p.nat a.2.2.2.2.2.2.2.2.2.2.2.2.2.2.2.2.2.2.2.2.2.2.1) [ci,ci])<|
 opt.need _ (p.cmp .geq a.2.2.2.2.2.2.2.2.2.2.2.2.2.2.2.2.2.2.2.2.2.2.1 (0:Int))<|
 opt.need _ (p.cmp .neq (p.ofNat (p.len a.2.2.2.2.2.2.2.2.2.2.2.2.2.2.2.2.2.2.2.1)) (0:Int))<|
 opt.need _ (p.rowOk a.2.2.2.2.2.2.2.2.2.2.2.2.2.2.2.2.2.2.2.1 (p.nat (p.ar .rem .i64 (p.ar .add .i64 a.2.2.2.2.2.2.2.2.2.2.2.2.2.2.2.2.2.2.2.2.2.2.1 (1:Int)) (p.ofNat (p.len a.2.2.2.2.2.2.2.2.2.2.2.2.2.2.2.2.2.2.2.1)))) [ci,ci])<|
 opt.need _ (p.cmp .geq (p.ar .rem .i64 (p.ar .add .i64 a.2.2.2.2.2.2.2.2.2.2.2.2.2.2.2.2.2.2.2.2.2.2.1 (1:Int)) (p.ofNat (p.len a.2.2.2.2.2.2.2.2.2.2.2.2.2.2.2.2.2.2.2.1))) (0:Int))<|
 opt.ask _ (bif (p.cmp .eql (p.ar .sub .i64 (p.rdI a.2.2.2.2.2.2.2.2.2.2.2.2.2.2.2.2.2.2.2.1 (p.nat (p.ar .rem .i64 (p.ar .add .i64 a.2.2.2.2.2.2.2.2.2.2.2.2.2.2.2.2.2.2.2.2.2.2.1 (1:Int)) (p.ofNat (p.len a.2.2.2.2.2.2.2.2.2.2.2.2.2.2.2.2.2.2.2.1)))) 0) (p.rdI a.2.2.2.2.2.2.2.2.2.2.2.2.2.2.2.2.2.2.2.2.1 (p.nat a.2.2.2.2.2.2.2.2.2.2.2.2.2.2.2.2.2.2.2.2.2.2.1) 0)) (0:Int)) then (bif (p.cmp .eql (p.ar .sub .i64 (p.rdI a.2.2.2.2.2.2.2.2.2.2.2.2.2.2.2.2.2.2.2.1 (p.nat (p.ar .rem .i64 (p.ar .add .i64 a.2.2.2.2.2.2.2.2.2.2.2.2.2.2.2.2.2.2.2.2.2.2.1 (1:Int)) (p.ofNat (p.len a.2.2.2.2.2.2.2.2.2.2.2.2.2.2.2.2.2.2.2.1)))) 1) (p.rdI a.2.2.2.2.2.2.2.2.2.2.2.2.2.2.2.2.2.2.2.2.1 (p.nat a.2.2.2.2.2.2.2.2.2.2.2.2.2.2.2.2.2.2.2.2.2.2.1) 1)) (0:Int)) then Bool.true else Bool.false) else Bool.false) (
 opt.ret _ (Sum.inr (Sum.inl (a.1,(a.2.1,(a.2.2.1,(a.2.2.2.1,(a.2.2.2.2.1,(a.2.2.2.2.2.1,(a.2.2.2.2.2.2.1,(a.2.2.2.2.2.2.2.1,(a.2.2.2.2.2.2.2.2.1,(a.2.2.2.2.2.2.2.2.2.1,(a.2.2.2.2.2.2.2.2.2.2.1,(a.2.2.2.2.2.2.2.2.2.2.2.1,(a.2.2.2.2.2.2.2.2.2.2.2.2.1,(a.2.2.2.2.2.2.2.2.2.2.2.2.2.1,(a.2.2.2.2.2.2.2.2.2.2.2.2.2.2.1,(a.2.2.2.2.2.2.2.2.2.2.2.2.2.2.2.1,(a.2.2.2.2.2.2.2.2.2.2.2.2.2.2.2.2.1,(a.2.2.2.2.2.2.2.2.2.2.2.2.2.2.2.2.2.1,(a.2.2.2.2.2.2.2.2.2.2.2.2.2.2.2.2.2.2.1,(a.2.2.2.2.2.2.2.2.2.2.2.2.2.2.2.2.2.2.2.1,()))))))))))))))))))))))) (
 opt.bnd T22 _ (g76 it p (a.2.2.2.2.2.2.2.2.2.2.2.2.2.2.2.1,(a.2.2.2.2.2.2.2.2.2.2.2.2.2.2.2.2.1,(a.2.2.2.2.2.2.2.2.2.2.2.2.2.2.2.2.2.1,(a.2.2.2.2.2.2.2.2.2.2.2.2.2.2.2.2.2.2.1,((p.rdI a.2.2.2.2.2.2.2.2.2.2.2.2.2.2.2.2.2.2.2.2.1 (p.nat a.2.2.2.2.2.2.2.2.2.2.2.2.2.2.2.2.2.2.2.2.2.2.1) 0),((p.rdI a.2.2.2.2.2.2.2.2.2.2.2.2.2.2.2.2.2.2.2.2.1 (p.nat a.2.2.2.2.2.2.2.2.2.2.2.2.2.2.2.2.2.2.2.2.2.2.1) 1),((p.ar .sub .i64 (p.rdI a.2.2.2.2.2.2.2.2.2.2.2.2.2.2.2.2.2.2.2.1 (p.nat (p.ar .rem .i64 (p.ar .add .i64 a.2.2.2.2.2.2.2.2.2.2.2.2.2.2.2.2.2.2.2.2.2.2.1 (1:Int)) (p.ofNat (p.len a.2.2.2.2.2.2.2.2.2.2.2.2.2.2.2.2.2.2.2.1)))) 0) (p.rdI a.2.2.2.2.2.2.2.2.2.2.2.2.2.2.2.2.2.2.2.2.1 (p.nat a.2.2.2.2.2.2.2.2.2.2.2.2.2.2.2.2.2.2.2.2.2.2.1) 0)),((p.ar .sub .i64 (p.rdI a.2.2.2.2.2.2.2.2.2.2.2.2.2.2.2.2.2.2.2.1 (p.nat (p.ar .rem .i64 (p.ar .add .i64 a.2.2.2.2.2.2.2.2.2.2.2.2.2.2.2.2.2.2.2.2.2.2.1 (1:Int)) (p.ofNat (p.len a.2.2.2.2.2.2.2.2.2.2.2.2.2.2.2.2.2.2.2.1)))) 1) (p.rdI a.2.2.2.2.2.2.2.2.2.2.2.2.2.2.2.2.2.2.2.2.1 (p.nat a.2.2.2.2.2.2.2.2.2.2.2.2.2.2.2.2.2.2.2.2.2.2.1) 1)),()))))))))) fun b=>
 opt.ask _ b.2.2.2.1 (
 opt.ret _ (Sum.inr (Sum.inr (Sum.inl (b.1,(b.2.1,(b.2.2.1,((0:Int),(a.2.2.2.2.1,(a.2.2.2.2.2.1,(a.2.2.2.2.2.2.1,(a.2.2.2.2.2.2.2.1,(a.2.2.2.2.2.2.2.2.1,(a.2.2.2.2.2.2.2.2.2.1,(a.2.2.2.2.2.2.2.2.2.2.1,(a.2.2.2.2.2.2.2.2.2.2.2.1,(a.2.2.2.2.2.2.2.2.2.2.2.2.1,(a.2.2.2.2.2.2.2.2.2.2.2.2.2.1,(a.2.2.2.2.2.2.2.2.2.2.2.2.2.2.1,(a.2.2.2.2.2.2.2.2.2.2.2.2.2.2.2.1,(a.2.2.2.2.2.2.2.2.2.2.2.2.2.2.2.2.1,(a.2.2.2.2.2.2.2.2.2.2.2.2.2.2.2.2.2.1,(a.2.2.2.2.2.2.2.2.2.2.2.2.2.2.2.2.2.2.1,(a.2.2.2.2.2.2.2.2.2.2.2.2.2.2.2.2.2.2.2.1,())))))))))))))))))))))))) (
 opt.ret _ (Sum.inl (a.1,(a.2.1,(a.2.2.1,(a.2.2.2.1,(a.2.2.2.2.1,(a.2.2.2.2.2.1,(a.2.2.2.2.2.2.1,(a.2.2.2.2.2.2.2.1,(a.2.2.2.2.2.2.2.2.1,(a.2.2.2.2.2.2.2.2.2.1,(a.2.2.2.2.2.2.2.2.2.2.1,(a.2.2.2.2.2.2.2.2.2.2.2.1,(a.2.2.2.2.2.2.2.2.2.2.2.2.1,(a.2.2.2.2.2.2.2.2.2.2.2.2.2.1,(a.2.2.2.2.2.2.2.2.2.2.2.2.2.2.1,(a.2.2.2.2.2.2.2.2.2.2.2.2.2.2.2.1,(a.2.2.2.2.2.2.2.2.2.2.2.2.2.2.2.2.1,(a.2.2.2.2.2.2.2.2.2.2.2.2.2.2.2.2.2.1,(a.2.2.2.2.2.2.2.2.2.2.2.2.2.2.2.2.2.2.1,(a.2.2.2.2.2.2.2.2.2.2.2.2.2.2.2.2.2.2.2.1,(a.2.2.2.2.2.2.2.2.2.2.2.2.2.2.2.2.2.2.2.2.1,(a.2.2.2.2.2.2.2.2.2.2.2.2.2.2.2.2.2.2.2.2.2.1,((p.ar .add .i64 a.2.2.2.2.2.2.2.2.2.2.2.2.2.2.2.2.2.2.2.2.2.2.1 (1:Int)),()))))))))))))))))))))))))))) (
 opt.ret _ (Sum.inr (Sum.inr (Sum.inr (a.1,(a.2.1,(a.2.2.1,(a.2.2.2.1,(a.2.2.2.2.1,(a.2.2.2.2.2.1,(a.2.2.2.2.2.2.1,(a.2.2.2.2.2.2.2.1,(a.2.2.2.2.2.2.2.2.1,(a.2.2.2.2.2.2.2.2.2.1,(a.2.2.2.2.2.2.2.2.2.2.1,(a.2.2.2.2.2.2.2.2.2.2.2.1,(a.2.2.2.2.2.2.2.2.2.2.2.2.1,(a.2.2.2.2.2.2.2.2.2.2.2.2.2.1,(a.2.2.2.2.2.2.2.2.2.2.2.2.2.2.1,(a.2.2.2.2.2.2.2.2.2.2.2.2.2.2.2.1,(a.2.2.2.2.2.2.2.2.2.2.2.2.2.2.2.2.1,(a.2.2.2.2.2.2.2.2.2.2.2.2.2.2.2.2.2.1,(a.2.2.2.2.2.2.2.2.2.2.2.2.2.2.2.2.2.2.1,(a.2.2.2.2.2.2.2.2.2.2.2.2.2.2.2.2.2.2.2.1,())))))))))))))))))))))))))
def c37_3 (it:It) (p:Prim):(Int×(Int×(Int×(Int×(LD×(LD×(LD×(LD×(LD×(LD×(LD×(LD×(Int×(Int×Unit))))))))))))))→Option ((Int×(Int×(Int×(Int×(LD×(LD×(LD×(LD×(LD×(LD×(LD×(LD×(Int×(Int×Unit))))))))))))))⊕((Int×(Int×(Int×(Int×(LD×(LD×(LD×(LD×(LD×(LD×(LD×Unit)))))))))))⊕((Int×(Int×(Int×(Int×(LD×(LD×(LD×(LD×(LD×(LD×(LD×Unit)))))))))))⊕(Int×(Int×(Int×(Int×(LD×(LD×(LD×(LD×(LD×(LD×(LD×Unit)))))))))))))):=
 fun a=>opt.run _ (
 opt.ask _ (p.cmp .lss a.2.2.2.2.2.2.2.2.2.2.2.2.2.1 a.2.2.2.2.2.2.2.2.2.2.2.2.1) (
 opt.need _ (p.rowOk a.2.2.2.2.2.2.2.2.2.2.2.1 (p.nat a.2.2.2.2.2.2.2.2.2.2.2.2.2.1) [ci,ci])<|
 opt.need _ (p.cmp .geq a.2.2.2.2.2.2.2.2.2.2.2.2.2.1 (0:Int))<|
 opt.need _ (p.cmp .neq (p.ofNat (p.len a.2.2.2.2.2.2.2.2.2.2.1)) (0:Int))<|
 opt.need _ (p.rowOk a.2.2.2.2.2.2.2.2.2.2.1 (p.nat (p.ar .rem .i64 (p.ar .add .i64 a.2.2.2.2.2.2.2.2.2.2.2.2.2.1 (1:Int)) (p.ofNat (p.len a.2.2.2.2.2.2.2.2.2.2.1)))) [ci,ci])<|
 opt.need _ (p.cmp .geq (p.ar .rem .i64 (p.ar .add .i64 a.2.2.2.2.2.2.2.2.2.2.2.2.2.1 (1:Int)) (p.ofNat (p.len a.2.2.2.2.2.2.2.2.2.2.1))) (0:Int))<|
 opt.ask _ (bif (p.cmp .eql (p.ar .sub .i64 (p.rdI a.2.2.2.2.2.2.2.2.2.2.1 (p.nat (p.ar .rem .i64 (p.ar .add .i64 a.2.2.2.2.2.2.2.2.2.2.2.2.2.1 (1:Int)) (p.ofNat (p.len a.2.2.2.2.2.2.2.2.2.2.1)))) 0) (p.rdI a.2.2.2.2.2.2.2.2.2.2.2.1 (p.nat a.2.2.2.2.2.2.2.2.2.2.2.2.2.1) 0)) (0:Int)) then (bif (p.cmp .eql (p.ar .sub .i64 (p.rdI a.2.2.2.2.2.2.2.2.2.2.1 (p.nat (p.ar .rem .i64 (p.ar .add .i64 a.2.2.2.2.2.2.2.2.2.2.2.2.2.1 (1:Int)) (p.ofNat (p.len a.2.2.2.2.2.2.2.2.2.2.1)))) 1) (p.rdI a.2.2.2.2.2.2.2.2.2.2.2.1 (p.nat a.2.2.2.2.2.2.2.2.2.2.2.2.2.1) 1)) (0:Int)) then Bool.true else Bool.false) else Bool.false) (
 opt.ret _ (Sum.inr (Sum.inl (a.1,(a.2.1,(a.2.2.1,(a.2.2.2.1,(a.2.2.2.2.1,(a.2.2.2.2.2.1,(a.2.2.2.2.2.2.1,(a.2.2.2.2.2.2.2.1,(a.2.2.2.2.2.2.2.2.1,(a.2.2.2.2.2.2.2.2.2.1,(a.2.2.2.2.2.2.2.2.2.2.1,())))))))))))))) (
 opt.alt T54 T54 _ (
 opt.run (((Int×(Int×(Int×(Int×(LD×(LD×(LD×(LD×(LD×(LD×(LD×(Int×(Int×(Int×(Int×Unit)))))))))))))))⊕(Int×(Int×(Int×(Int×(LD×(LD×(LD×(LD×(LD×(LD×(LD×(Int×(Int×(Int×(Int×Unit))))))))))))))))) (
 opt.alt T44 (((Int×(Int×(Int×(Int×(LD×(LD×(LD×(LD×(LD×(LD×(LD×(Int×(Int×(Int×(Int×(Int×(Int×(Int×(Int×(LD×Unit))))))))))))))))))))⊕(Int×(Int×(Int×(Int×(LD×(LD×(LD×(LD×(LD×(LD×(LD×(Int×(Int×(Int×(Int×(Int×(Int×(Int×(Int×(LD×Unit)))))))))))))))))))))) _ (
 it _ _ (c37_4 it p) (a.1,(a.2.1,(a.2.2.1,(a.2.2.2.1,(a.2.2.2.2.1,(a.2.2.2.2.2.1,(a.2.2.2.2.2.2.1,(a.2.2.2.2.2.2.2.1,(a.2.2.2.2.2.2.2.2.1,(a.2.2.2.2.2.2.2.2.2.1,(a.2.2.2.2.2.2.2.2.2.2.1,((p.rdI a.2.2.2.2.2.2.2.2.2.2.2.1 (p.nat a.2.2.2.2.2.2.2.2.2.2.2.2.2.1) 0),((p.rdI a.2.2.2.2.2.2.2.2.2.2.2.1 (p.nat a.2.2.2.2.2.2.2.2.2.2.2.2.2.1) 1),((p.ar .sub .i64 (p.rdI a.2.2.2.2.2.2.2.2.2.2.1 (p.nat (p.ar .rem .i64 (p.ar .add .i64 a.2.2.2.2.2.2.2.2.2.2.2.2.2.1 (1:Int)) (p.ofNat (p.len a.2.2.2.2.2.2.2.2.2.2.1)))) 0) (p.rdI a.2.2.2.2.2.2.2.2.2.2.2.1 (p.nat a.2.2.2.2.2.2.2.2.2.2.2.2.2.1) 0)),((p.ar .sub .i64 (p.rdI a.2.2.2.2.2.2.2.2.2.2.1 (p.nat (p.ar .rem .i64 (p.ar .add .i64 a.2.2.2.2.2.2.2.2.2.2.2.2.2.1 (1:Int)) (p.ofNat (p.len a.2.2.2.2.2.2.2.2.2.2.1)))) 1) (p.rdI a.2.2.2.2.2.2.2.2.2.2.2.1 (p.nat a.2.2.2.2.2.2.2.2.2.2.2.2.2.1) 1)),((p.rdI a.2.2.2.2.2.2.2.2.2.2.2.1 (p.nat a.2.2.2.2.2.2.2.2.2.2.2.2.2.1) 0),((p.rdI a.2.2.2.2.2.2.2.2.2.2.2.1 (p.nat a.2.2.2.2.2.2.2.2.2.2.2.2.2.1) 1),((p.ar .sub .i64 (p.rdI a.2.2.2.2.2.2.2.2.2.2.1 (p.nat (p.ar .rem .i64 (p.ar .add .i64 a.2.2.2.2.2.2.2.2.2.2.2.2.2.1 (1:Int)) (p.ofNat (p.len a.2.2.2.2.2.2.2.2.2.2.1)))) 0) (p.rdI a.2.2.2.2.2.2.2.2.2.2.2.1 (p.nat a.2.2.2.2.2.2.2.2.2.2.2.2.2.1) 0)),((p.ar .sub .i64 (p.rdI a.2.2.2.2.2.2.2.2.2.2.1 (p.nat (p.ar .rem .i64 (p.ar .add .i64 a.2.2.2.2.2.2.2.2.2.2.2.2.2.1 (1:Int)) (p.ofNat (p.len a.2.2.2.2.2.2.2.2.2.2.1)))) 1) (p.rdI a.2.2.2.2.2.2.2.2.2.2.2.1 (p.nat a.2.2.2.2.2.2.2.2.2.2.2.2.2.1) 1)),(a.2.2.2.2.2.2.2.2.2.1,(a.2.2.2.2.2.2.2.2.2.1,((p.ofNat (p.len a.2.2.2.2.2.2.2.2.2.1)),((0:Int),())))))))))))))))))))))))) (fun b=>
 opt.ret _ (Sum.inl (b.1,(b.2.1,(b.2.2.1,(b.2.2.2.1,(b.2.2.2.2.1,(b.2.2.2.2.2.1,(b.2.2.2.2.2.2.1,(b.2.2.2.2.2.2.2.1,(b.2.2.2.2.2.2.2.2.1,(b.2.2.2.2.2.2.2.2.2.1,(b.2.2.2.2.2.2.2.2.2.2.1,(b.2.2.2.2.2.2.2.2.2.2.2.1,(b.2.2.2.2.2.2.2.2.2.2.2.2.1,(b.2.2.2.2.2.2.2.2.2.2.2.2.2.1,(b.2.2.2.2.2.2.2.2.2.2.2.2.2.2.1,()))))))))))))))))) (fun c=>
 opt.alt T44 T44 _ (some c) (fun d=>
 opt.ret _ (Sum.inr (d.1,(d.2.1,(d.2.2.1,(d.2.2.2.1,(d.2.2.2.2.1,(d.2.2.2.2.2.1,(d.2.2.2.2.2.2.1,(d.2.2.2.2.2.2.2.1,(d.2.2.2.2.2.2.2.2.1,(d.2.2.2.2.2.2.2.2.2.1,(d.2.2.2.2.2.2.2.2.2.2.1,(d.2.2.2.2.2.2.2.2.2.2.2.1,(d.2.2.2.2.2.2.2.2.2.2.2.2.1,(d.2.2.2.2.2.2.2.2.2.2.2.2.2.1,(d.2.2.2.2.2.2.2.2.2.2.2.2.2.2.1,()))))))))))))))))) (fun e=>
 opt.bnd T44 _ (some e) fun f=>
 opt.ret _ (Sum.inl (f.1,(f.2.1,(f.2.2.1,(f.2.2.2.1,(f.2.2.2.2.1,(f.2.2.2.2.2.1,(f.2.2.2.2.2.2.1,(f.2.2.2.2.2.2.2.1,(f.2.2.2.2.2.2.2.2.1,(f.2.2.2.2.2.2.2.2.2.1,(f.2.2.2.2.2.2.2.2.2.2.1,(f.2.2.2.2.2.2.2.2.2.2.2.1,(f.2.2.2.2.2.2.2.2.2.2.2.2.1,(f.2.2.2.2.2.2.2.2.2.2.2.2.2.1,(f.2.2.2.2.2.2.2.2.2.2.2.2.2.2.1,())))))))))))))))))))) (fun g=>
 opt.ret _ (Sum.inl (g.1,(g.2.1,(g.2.2.1,(g.2.2.2.1,(g.2.2.2.2.1,(g.2.2.2.2.2.1,(g.2.2.2.2.2.2.1,(g.2.2.2.2.2.2.2.1,(g.2.2.2.2.2.2.2.2.1,(g.2.2.2.2.2.2.2.2.2.1,(g.2.2.2.2.2.2.2.2.2.2.1,(a.2.2.2.2.2.2.2.2.2.2.2.1,(a.2.2.2.2.2.2.2.2.2.2.2.2.1,((p.ar .add .i64 a.2.2.2.2.2.2.2.2.2.2.2.2.2.1 (1:Int)),())))))))))))))))) (fun h=>
 opt.bnd T54 _ (some h) fun i=>
 opt.ret _ (Sum.inr (Sum.inr (Sum.inl (i.1,(i.2.1,(i.2.2.1,(i.2.2.2.1,(i.2.2.2.2.1,(i.2.2.2.2.2.1,(i.2.2.2.2.2.2.1,(i.2.2.2.2.2.2.2.1,(i.2.2.2.2.2.2.2.2.1,(i.2.2.2.2.2.2.2.2.2.1,(i.2.2.2.2.2.2.2.2.2.2.1,()))))))))))))))))) (
 opt.ret _ (Sum.inr (Sum.inr (Sum.inr (a.1,(a.2.1,(a.2.2.1,(a.2.2.2.1,(a.2.2.2.2.1,(a.2.2.2.2.2.1,(a.2.2.2.2.2.2.1,(a.2.2.2.2.2.2.2.1,(a.2.2.2.2.2.2.2.2.1,(a.2.2.2.2.2.2.2.2.2.1,(a.2.2.2.2.2.2.2.2.2.2.1,()))))))))))))))))
def c37_2 (it:It) (p:Prim):(Int×(Int×(Int×(Int×(LD×(LD×(LD×(LD×(LD×(LD×(LD×(LD×(LD×(LD×(LD×(LD×(Int×(LD×(Int×(Int×Unit))))))))))))))))))))→Option ((Int×(Int×(Int×(Int×(LD×(LD×(LD×(LD×(LD×(LD×(LD×(LD×(LD×(LD×(LD×(LD×(Int×(LD×(Int×(Int×Unit))))))))))))))))))))⊕((Int×(Int×(Int×(Int×Unit))))⊕(Int×(Int×(Int×(Int×(LD×(LD×(LD×(LD×(LD×(LD×(LD×(LD×(LD×(LD×(Int×Unit))))))))))))))))):=
 fun a=>opt.run _ (
 opt.ask _ (p.cmp .lss a.2.2.2.2.2.2.2.2.2.2.2.2.2.2.2.2.2.2.2.1 a.2.2.2.2.2.2.2.2.2.2.2.2.2.2.2.2.2.2.1) (
 opt.need _ (p.rowOk a.2.2.2.2.2.2.2.2.2.2.2.2.2.2.2.2.2.1 (p.nat a.2.2.2.2.2.2.2.2.2.2.2.2.2.2.2.2.2.2.2.1) [ci,ci])<|
 opt.need _ (p.cmp .geq a.2.2.2.2.2.2.2.2.2.2.2.2.2.2.2.2.2.2.2.1 (0:Int))<|
 opt.bnd T2 _ (g57 it p (a.2.2.2.2.2.2.2.2.1,((p.rdI a.2.2.2.2.2.2.2.2.2.2.2.2.2.2.2.2.2.1 (p.nat a.2.2.2.2.2.2.2.2.2.2.2.2.2.2.2.2.2.2.2.1) 0),((p.rdI a.2.2.2.2.2.2.2.2.2.2.2.2.2.2.2.2.2.1 (p.nat a.2.2.2.2.2.2.2.2.2.2.2.2.2.2.2.2.2.2.2.1) 1),((1:Int),()))))) fun b=>
 opt.ask _ b.1 (
 opt.ret _ (Sum.inr (Sum.inl ((p.rdI a.2.2.2.2.2.2.2.2.2.2.2.2.2.2.2.2.2.1 (p.nat a.2.2.2.2.2.2.2.2.2.2.2.2.2.2.2.2.2.2.2.1) 0),((p.rdI a.2.2.2.2.2.2.2.2.2.2.2.2.2.2.2.2.2.1 (p.nat a.2.2.2.2.2.2.2.2.2.2.2.2.2.2.2.2.2.2.2.1) 1),((1:Int),((0:Int),()))))))) (
 opt.ret _ (Sum.inl (a.1,(a.2.1,(a.2.2.1,(a.2.2.2.1,(a.2.2.2.2.1,(a.2.2.2.2.2.1,(a.2.2.2.2.2.2.1,(a.2.2.2.2.2.2.2.1,(a.2.2.2.2.2.2.2.2.1,(a.2.2.2.2.2.2.2.2.2.1,(a.2.2.2.2.2.2.2.2.2.2.1,(a.2.2.2.2.2.2.2.2.2.2.2.1,(a.2.2.2.2.2.2.2.2.2.2.2.2.1,(a.2.2.2.2.2.2.2.2.2.2.2.2.2.1,(a.2.2.2.2.2.2.2.2.2.2.2.2.2.2.1,(a.2.2.2.2.2.2.2.2.2.2.2.2.2.2.2.1,(a.2.2.2.2.2.2.2.2.2.2.2.2.2.2.2.2.1,(a.2.2.2.2.2.2.2.2.2.2.2.2.2.2.2.2.2.1,(a.2.2.2.2.2.2.2.2.2.2.2.2.2.2.2.2.2.2.1,((p.ar .add .i64 a.2.2.2.2.2.2.2.2.2.2.2.2.2.2.2.2.2.2.2.1 (1:Int)),()))))))))))))))))))))))) (
 opt.ret _ (Sum.inr (Sum.inr (a.1,(a.2.1,(a.2.2.1,(a.2.2.2.1,(a.2.2.2.2.1,(a.2.2.2.2.2.1,(a.2.2.2.2.2.2.1,(a.2.2.2.2.2.2.2.2.2.1,(a.2.2.2.2.2.2.2.2.2.2.1,(a.2.2.2.2.2.2.2.2.2.2.2.1,(a.2.2.2.2.2.2.2.2.2.2.2.2.1,(a.2.2.2.2.2.2.2.2.2.2.2.2.2.1,(a.2.2.2.2.2.2.2.2.2.2.2.2.2.2.1,(a.2.2.2.2.2.2.2.2.2.2.2.2.2.2.2.1,(a.2.2.2.2.2.2.2.2.2.2.2.2.2.2.2.2.1,())))))))))))))))))))
def c37_1 (it:It) (p:Prim):(Int×(Int×(Int×(Int×(LD×(LD×(LD×(LD×(LD×(LD×(LD×(LD×(LD×(LD×(Int×Unit)))))))))))))))→Option ((Int×(Int×(Int×(Int×(LD×(LD×(LD×(LD×(LD×(LD×(LD×(LD×(LD×(LD×(Int×Unit)))))))))))))))⊕((Int×(Int×(Int×(Int×Unit))))⊕(Int×(Int×(Int×(Int×(LD×(LD×(LD×(LD×(LD×(LD×Unit)))))))))))):=
 fun a=>opt.run _ (
 opt.ask _ (p.cmp .lss a.2.2.2.2.2.2.2.2.2.2.2.2.2.2.1 (2:Int)) (
 opt.bnd T78 _ (
 opt.run T78 (
 opt.ask _ (p.cmp .eql a.2.2.2.2.2.2.2.2.2.2.2.2.2.2.1 (0:Int)) (
 opt.need _ (bif (p.cmp .geq (0:Int) (0:Int)) then (p.cmp .lss (0:Int) (p.ofNat 2)) else Bool.false)<|
 opt.ret _ (a.1,(a.2.1,(a.2.2.1,(a.2.2.2.1,(a.2.2.2.2.1,(a.2.2.2.2.2.1,(a.2.2.2.2.2.2.1,(a.2.2.2.2.2.2.2.2.2.2.1,(a.2.2.2.2.2.2.2.2.2.2.2.1,(a.2.2.2.2.2.2.2.1,(a.2.2.2.2.2.2.2.2.1,(a.2.2.2.2.2.2.2.2.2.1,(a.2.2.2.2.2.2.2.2.2.2.1,(a.2.2.2.2.2.2.2.2.2.2.2.1,(a.2.2.2.2.2.2.2.2.2.2.2.2.1,(a.2.2.2.2.2.2.2.2.2.2.2.2.2.1,((0:Int),())))))))))))))))))) (
 opt.need _ (p.cmp .eql a.2.2.2.2.2.2.2.2.2.2.2.2.2.2.1 (1:Int))<|
 opt.need _ (bif (p.cmp .geq (1:Int) (0:Int)) then (p.cmp .lss (1:Int) (p.ofNat 2)) else Bool.false)<|
 opt.ret _ (a.1,(a.2.1,(a.2.2.1,(a.2.2.2.1,(a.2.2.2.2.1,(a.2.2.2.2.2.1,(a.2.2.2.2.2.2.1,(a.2.2.2.2.2.2.2.2.2.2.2.2.1,(a.2.2.2.2.2.2.2.2.2.2.2.2.2.1,(a.2.2.2.2.2.2.2.1,(a.2.2.2.2.2.2.2.2.1,(a.2.2.2.2.2.2.2.2.2.1,(a.2.2.2.2.2.2.2.2.2.2.1,(a.2.2.2.2.2.2.2.2.2.2.2.1,(a.2.2.2.2.2.2.2.2.2.2.2.2.1,(a.2.2.2.2.2.2.2.2.2.2.2.2.2.1,((1:Int),())))))))))))))))))))) fun b=>
 opt.alt T8 T79 _ (
 it _ _ (c37_2 it p) (b.1,(b.2.1,(b.2.2.1,(b.2.2.2.1,(b.2.2.2.2.1,(b.2.2.2.2.2.1,(b.2.2.2.2.2.2.1,(b.2.2.2.2.2.2.2.1,(b.2.2.2.2.2.2.2.2.1,(b.2.2.2.2.2.2.2.2.2.1,(b.2.2.2.2.2.2.2.2.2.2.1,(b.2.2.2.2.2.2.2.2.2.2.2.1,(b.2.2.2.2.2.2.2.2.2.2.2.2.1,(b.2.2.2.2.2.2.2.2.2.2.2.2.2.1,(b.2.2.2.2.2.2.2.2.2.2.2.2.2.2.1,(b.2.2.2.2.2.2.2.2.2.2.2.2.2.2.2.1,(b.2.2.2.2.2.2.2.2.2.2.2.2.2.2.2.2.1,(b.2.2.2.2.2.2.2.1,((p.ofNat (p.len b.2.2.2.2.2.2.2.1)),((0:Int),()))))))))))))))))))))) (fun c=>
 opt.ret _ (Sum.inr (Sum.inl (c.1,(c.2.1,(c.2.2.1,(c.2.2.2.1,()))))))) (fun d=>
 opt.bnd T79 _ (some d) fun e=>
 opt.ret _ (Sum.inl (e.1,(e.2.1,(e.2.2.1,(e.2.2.2.1,(e.2.2.2.2.1,(e.2.2.2.2.2.1,(e.2.2.2.2.2.2.1,(e.2.2.2.2.2.2.2.1,(e.2.2.2.2.2.2.2.2.1,(e.2.2.2.2.2.2.2.2.2.1,(e.2.2.2.2.2.2.2.2.2.2.1,(e.2.2.2.2.2.2.2.2.2.2.2.1,(e.2.2.2.2.2.2.2.2.2.2.2.2.1,(e.2.2.2.2.2.2.2.2.2.2.2.2.2.1,((p.ar .add .i64 e.2.2.2.2.2.2.2.2.2.2.2.2.2.2.1 (1:Int)),())))))))))))))))))) (
 opt.ret _ (Sum.inr (Sum.inr (a.1,(a.2.1,(a.2.2.1,(a.2.2.2.1,(a.2.2.2.2.1,(a.2.2.2.2.2.1,(a.2.2.2.2.2.2.1,(a.2.2.2.2.2.2.2.1,(a.2.2.2.2.2.2.2.2.1,(a.2.2.2.2.2.2.2.2.2.1,()))))))))))))))
def g37 (it:It):(p:Prim)→(LD×(LD×(LD×(LD×Unit))))→Option T8:=
 fun p x=>
 opt.alt T0 (((LD×(LD×(LD×T1)))⊕((LD×(LD×(LD×T1)))⊕(LD×(LD×(LD×(LD×(LD×(LD×T1))))))))) _ (g62 it p (x.1,(x.2.1,(x.2.2.1,(x.2.2.2.1,()))))) (fun a=>
 opt.ask _ (p.cmp .neq a.1 (0:Int)) (
 opt.ret _ ((0:Int),((0:Int),((0:Int),(a.1,()))))) (
 opt.no _ 41)) (fun b=>
 opt.alt ((LD×(LD×(LD×T1)))) (((LD×(LD×(LD×T1)))⊕(LD×(LD×(LD×(LD×(LD×(LD×T1)))))))) _ (some b) (fun c=>
 opt.ask _ (p.cmp .neq c.2.2.2.1 (0:Int)) (
 opt.ret _ ((0:Int),((0:Int),((0:Int),(c.2.2.2.1,()))))) (
 opt.no _ 41)) (fun d=>
 opt.alt ((LD×(LD×(LD×T1)))) ((LD×(LD×(LD×(LD×(LD×(LD×T1))))))) _ (some d) (fun e=>
 opt.ask _ (p.cmp .neq e.2.2.2.1 (0:Int)) (
 opt.ret _ ((0:Int),((0:Int),((0:Int),(e.2.2.2.1,()))))) (
 opt.no _ 41)) (fun f=>
 opt.bnd ((LD×(LD×(LD×(LD×(LD×(LD×T1))))))) _ (some f) fun g=>
 opt.ask _ (p.cmp .neq g.2.2.2.2.2.2.1 (0:Int)) (
 opt.ret _ ((0:Int),((0:Int),((0:Int),(g.2.2.2.2.2.2.1,()))))) (
 opt.alt T8 T80 _ (
 it _ _ (c37_1 it p) ((0:Int),((0:Int),((0:Int),((0:Int),(g.1,(g.2.1,(g.2.2.1,(g.2.2.2.1,(g.2.2.2.2.1,(g.2.2.2.2.2.1,(g.2.2.1,(g.2.2.2.2.2.1,(g.2.2.2.2.2.1,(g.2.2.1,((0:Int),())))))))))))))))) (fun h=>
 opt.ret _ (h.1,(h.2.1,(h.2.2.1,(h.2.2.2.1,()))))) (fun i=>
 opt.bnd T80 _ (some i) fun j=>
 opt.alt T8 T8 _ (
 opt.run (((Int×(Int×(Int×(Int×Unit))))⊕(Int×(Int×(Int×(Int×Unit)))))) (
 opt.alt T45 (((Int×(Int×(Int×(Int×(LD×(LD×(LD×(LD×(LD×(LD×(LD×Unit)))))))))))⊕(Int×(Int×(Int×(Int×(LD×(LD×(LD×(LD×(LD×(LD×(LD×Unit))))))))))))) _ (
 it _ _ (c37_3 it p) (j.1,(j.2.1,(j.2.2.1,(j.2.2.2.1,(j.2.2.2.2.1,(j.2.2.2.2.2.1,(j.2.2.2.2.2.2.1,(j.2.2.2.2.2.2.2.1,(j.2.2.2.2.2.2.2.2.1,(j.2.2.2.2.2.2.2.2.2.1,(j.2.2.2.2.2.2.1,(j.2.2.2.2.2.2.1,((p.ofNat (p.len j.2.2.2.2.2.2.1)),((0:Int),()))))))))))))))) (fun k=>
 opt.ret _ (Sum.inl (k.1,(k.2.1,(k.2.2.1,(k.2.2.2.1,())))))) (fun l=>
 opt.alt T45 T45 _ (some l) (fun m=>
 opt.ret _ (Sum.inr (m.1,(m.2.1,(m.2.2.1,(m.2.2.2.1,())))))) (fun n=>
 opt.bnd T45 _ (some n) fun o=>
 opt.ret _ (Sum.inl (o.1,(o.2.1,(o.2.2.1,(o.2.2.2.1,()))))))))) (fun q=>
 opt.ret _ ((0:Int),((0:Int),((0:Int),((5:Int),()))))) (fun r=>
 opt.bnd T8 _ (some r) fun t=>
 opt.ret _ (t.1,(t.2.1,(t.2.2.1,(t.2.2.2.1,()))))))))))
def G37:=g37 it0
theorem ok37:CtrOk PG ctr37 (G37 std):=okF (a:=an37) (l:=la37) (gC ok76 (gC ok57 (gC ok62 (gN)))) (by kernel_rfl) fun _ _=>by kernel_rfl
end Go.Am
end
noncomputable section
namespace Go.Am
def ctr70:Ctr:=
 ⟨70,[.agg [.int .i64, .int .i64], .agg [.int .i64, .int .i64]],[],[(.ret,⟨[(0, .int .i64)],[],1⟩)]⟩
def la70:List LA:=
 []
def ja70:List JA:=
 []
def gam70:List CF:=
 [⟨ctr71,F71⟩]
def an70:Anns:=
 ⟨gam70,ja70,[]⟩
def G70:(p:Prim)→T11→Option T0:=
 fun p x=>
 opt.bnd T2 _ (F71 p (x.1,(x.2.1,(x.2.2.1,(x.2.2.2.1,()))))) fun a=>
 opt.ask _ a.1 (
 opt.ret _ ((-1:Int),())) (
 opt.ret _ ((1:Int),()))
theorem ok70:CtrOk PG ctr70 (G70 std):=okF (a:=an70) (l:=la70) (gC ok71 (gN)) (by kernel_rfl) fun _ _=>by kernel_rfl
def ctr69:Ctr:=
 ⟨69,[.sl 0 2, .clo 70 [] []],[.row [ci,ci]],[(.ret,⟨[(0, .agg [.int .i64, .int .i64])],[.row [ci,ci]],1⟩)]⟩
def la69:List LA:=
 [⟨69,[false,true,false,true,true,true],1,⟨⟨[(0, .sl 0 2),(1, .clo 70 [] []),(4, .bptr 1 0),(5, .bptr 2 0),(6, .int .i64)],[.row [ci,ci], .box [.int .i64, .int .i64], .box [.int .i64, .int .i64]],33⟩,[((AX.exit 0),⟨[(4, .bptr 1 0),(5, .bptr 2 0)],[.row [ci,ci], .box [.int .i64, .int .i64], .box [.int .i64, .int .i64]],33⟩)]⟩⟩]
def ja69:List JA:=
 [⟨69,[true,false,false,true,false,false,true,false,true,true,true],1,[(AX.normal,⟨[(0, .sl 0 2),(1, .clo 70 [] []),(4, .bptr 1 0),(5, .bptr 2 0),(6, .int .i64)],[.row [ci,ci], .box [.int .i64, .int .i64], .box [.int .i64, .int .i64]],33⟩)]⟩]
def gam69:List CF:=
 [⟨ctr70,G70⟩]
def an69:Anns:=
 ⟨gam69,ja69,[]⟩
def b69_1 (p:Prim):(LD×T46)→Option ((LD×T46)⊕(LD×T11)):=
 fun a=>opt.run _ (
 opt.ask _ (p.cmp .lss a.2.2.2.2.2.2.2.1 (p.ofNat a.2.2.2.2.2.2.1)) (
 opt.need _ (bif (p.cmp .geq a.2.2.2.2.2.2.2.1 (0:Int)) then (p.cmp .lss a.2.2.2.2.2.2.2.1 (p.ofNat a.2.2.2.2.2.2.1)) else Bool.false)<|
 opt.need _ (p.rowOk a.1 (p.add a.2.2.2.2.2.1 (p.nat a.2.2.2.2.2.2.2.1)) [ci,ci])<|
 opt.bnd T0 _ (G70 p ((p.rdI a.1 (p.add a.2.2.2.2.2.1 (p.nat a.2.2.2.2.2.2.2.1)) 0),((p.rdI a.1 (p.add a.2.2.2.2.2.1 (p.nat a.2.2.2.2.2.2.2.1)) 1),(a.2.2.2.1,(a.2.2.2.2.1,()))))) fun b=>
 opt.bnd ((LD×T46)) _ (
 opt.run ((LD×T46)) (
 opt.ask _ (p.cmp .lss b.1 (0:Int)) (
 opt.need _ (bif (p.cmp .geq a.2.2.2.2.2.2.2.1 (0:Int)) then (p.cmp .lss a.2.2.2.2.2.2.2.1 (p.ofNat a.2.2.2.2.2.2.1)) else Bool.false)<|
 opt.need _ (p.rowOk a.1 (p.add a.2.2.2.2.2.1 (p.nat a.2.2.2.2.2.2.2.1)) [ci,ci])<|
 opt.ret _ (a.1,(a.2.1,(a.2.2.1,((p.rdI a.1 (p.add a.2.2.2.2.2.1 (p.nat a.2.2.2.2.2.2.2.1)) 0),((p.rdI a.1 (p.add a.2.2.2.2.2.1 (p.nat a.2.2.2.2.2.2.2.1)) 1),(a.2.2.2.2.2.1,(a.2.2.2.2.2.2.1,(a.2.2.2.2.2.2.2.1,()))))))))) (
 opt.ret _ (a.1,(a.2.1,(a.2.2.1,(a.2.2.2.1,(a.2.2.2.2.1,(a.2.2.2.2.2.1,(a.2.2.2.2.2.2.1,(a.2.2.2.2.2.2.2.1,()))))))))))) fun c=>
 opt.ret _ (Sum.inl (c.1,(c.2.1,(c.2.2.1,(c.2.2.2.1,(c.2.2.2.2.1,(c.2.2.2.2.2.1,(c.2.2.2.2.2.2.1,((p.ar .add .i64 c.2.2.2.2.2.2.2.1 (1:Int)),())))))))))) (
 opt.ret _ (Sum.inr (a.1,(a.2.1,(a.2.2.1,(a.2.2.2.1,(a.2.2.2.2.1,()))))))))
def g69 (it:It):(p:Prim)→(LD×T19)→Option ((LD×T4)):=
 fun p x=>
 opt.ask _ (p.cmp .lss (p.ofNat x.2.2.1) (1:Int)) (
 opt.no _ 41) (
 opt.need _ (bif (p.cmp .geq (0:Int) (0:Int)) then (p.cmp .lss (0:Int) (p.ofNat x.2.2.1)) else Bool.false)<|
 opt.need _ (p.rowOk x.1 (p.add x.2.1 (p.nat (0:Int))) [ci,ci])<|
 opt.bnd ((LD×T11)) _ (
 it _ _ (b69_1 p) (x.1,((0:Int),((0:Int),((p.rdI x.1 (p.add x.2.1 (p.nat (0:Int))) 0),((p.rdI x.1 (p.add x.2.1 (p.nat (0:Int))) 1),(x.2.1,(x.2.2.1,((1:Int),()))))))))) fun a=>
 opt.ret _ (a.1,(a.2.2.2.1,(a.2.2.2.2.1,()))))
def G69:=g69 it0
theorem ok69:CtrOk PG ctr69 (G69 std):=okF (a:=an69) (l:=la69) (gC ok70 (gN)) (by kernel_rfl) fun _ _=>by kernel_rfl
def ctr25:Ctr:=
 ⟨25,[.agg [.list 2, .list 1], .agg [.list 2, .list 1]],[],[(.ret,⟨[(0, .tuple [.agg [.int .i64, .int .i64], .int .i64])],[],1⟩)]⟩
def la25:List LA:=
 [⟨25,[false,true,false,true,true,true,true,true],0,⟨⟨[(4, .bptr 0 0),(11, .bptr 1 0),(67, .agg [.list 2, .list 2, .list 2, .list 2]),(68, .int .i64)],[.box [.int .i64, .int .i64], .box [.sl 2 2], .row [ci,ci]],115⟩,[((AX.exit 0),⟨[(4, .bptr 0 0),(11, .bptr 1 0)],[.box [.int .i64, .int .i64], .box [.sl 2 2], .row [ci,ci]],115⟩)]⟩⟩,
 ⟨25,[false,true,true,false,false,true,true,false,false,true,false,true,true,true,true,true],0,⟨⟨[(4, .bptr 0 0),(11, .bptr 1 0),(13, .bptr 2 0),(67, .agg [.list 2, .list 2, .list 2, .list 2]),(68, .int .i64),(72, .list 2),(73, .int .i64),(74, .int .i64)],[.box [.int .i64, .int .i64], .box [.sl 3 2], .box [.list 2, .list 2], .row [ci,ci]],115⟩,[((AX.exit 2),⟨[(4, .bptr 0 0),(11, .bptr 1 0),(67, .agg [.list 2, .list 2, .list 2, .list 2]),(68, .int .i64)],[.box [.int .i64, .int .i64], .box [.sl 2 2], .row [ci,ci]],115⟩)]⟩⟩,
 ⟨25,[false,true,false,true,false,false,true,true,false,false,true,true,false,false,true,true,false,false,true,false,true,true,true,true,true],0,⟨⟨[(4, .bptr 0 0),(11, .bptr 1 0),(13, .bptr 2 0),(15, .bptr 3 0),(67, .agg [.list 2, .list 2, .list 2, .list 2]),(68, .int .i64),(72, .list 2),(73, .int .i64),(74, .int .i64),(79, .list 2),(80, .int .i64),(81, .int .i64)],[.box [.int .i64, .int .i64], .box [.sl 4 2], .box [.list 2, .list 2], .box [.int .i64, .int .i64], .row [ci,ci]],115⟩,[((AX.exit 4),⟨[(4, .bptr 0 0),(11, .bptr 1 0),(13, .bptr 2 0),(15, .bptr 3 0),(67, .agg [.list 2, .list 2, .list 2, .list 2]),(68, .int .i64),(72, .list 2),(73, .int .i64),(74, .int .i64)],[.box [.int .i64, .int .i64], .box [.sl 4 2], .box [.list 2, .list 2], .box [.int .i64, .int .i64], .row [ci,ci]],115⟩)]⟩⟩,
 ⟨94,[false,true],7,⟨⟨[(0, .yld 6),(1, .bptr 5 0),(6, .list 2),(7, .int .i64),(8, .int .i64)],[.box [.int .i64, .int .i64], .box [.sl 7 2], .box [.list 2, .list 2], .box [.int .i64, .int .i64], .dead, .box [.list 2], .loop Go.LoopState.ready Option.none 25 [Bool.false,Bool.true,Bool.true,Bool.true,Bool.false,Bool.false,Bool.true,Bool.true,Bool.false,Bool.false,Bool.true,Bool.true,Bool.false,Bool.false,Bool.true,Bool.true,Bool.false,Bool.false,Bool.true,Bool.false,Bool.true,Bool.true,Bool.true,Bool.true,Bool.true] 115 [(98, .clo 94 [] [.bptr 5 0]),(15, .bptr 3 0),(73, .int .i64),(72, .list 2),(13, .bptr 2 0),(11, .bptr 1 0),(67, .agg [.list 2, .list 2, .list 2, .list 2]),(4, .bptr 0 0),(68, .int .i64),(74, .int .i64)], .row [ci,ci]],33⟩,[(AX.ret,⟨[],[.box [.int .i64, .int .i64], .box [.sl 7 2], .box [.list 2, .list 2], .box [.int .i64, .int .i64], .dead, .box [.list 2], .loop Go.LoopState.ready Option.none 25 [Bool.false,Bool.true,Bool.true,Bool.true,Bool.false,Bool.false,Bool.true,Bool.true,Bool.false,Bool.false,Bool.true,Bool.true,Bool.false,Bool.false,Bool.true,Bool.true,Bool.false,Bool.false,Bool.true,Bool.false,Bool.true,Bool.true,Bool.true,Bool.true,Bool.true] 115 [(98, .clo 94 [] [.bptr 5 0]),(15, .bptr 3 0),(73, .int .i64),(72, .list 2),(13, .bptr 2 0),(11, .bptr 1 0),(67, .agg [.list 2, .list 2, .list 2, .list 2]),(4, .bptr 0 0),(68, .int .i64),(74, .int .i64)], .row [ci,ci]],33⟩),((AX.exit 0),⟨[],[.box [.int .i64, .int .i64], .box [.sl 7 2], .box [.list 2, .list 2], .box [.int .i64, .int .i64], .dead, .box [.list 2], .loop Go.LoopState.ready Option.none 25 [Bool.false,Bool.true,Bool.true,Bool.true,Bool.false,Bool.false,Bool.true,Bool.true,Bool.false,Bool.false,Bool.true,Bool.true,Bool.false,Bool.false,Bool.true,Bool.true,Bool.false,Bool.false,Bool.true,Bool.false,Bool.true,Bool.true,Bool.true,Bool.true,Bool.true] 115 [(98, .clo 94 [] [.bptr 5 0]),(15, .bptr 3 0),(73, .int .i64),(72, .list 2),(13, .bptr 2 0),(11, .bptr 1 0),(67, .agg [.list 2, .list 2, .list 2, .list 2]),(4, .bptr 0 0),(68, .int .i64),(74, .int .i64)], .row [ci,ci]],33⟩)]⟩⟩]
def ja25:List JA:=
 [⟨25,[true,true,false,true,false,true,true,true,false,false,true,true,false,false,true,true,false,false,true,true,false,false,true,false,true,true,true,true,true],20,[(AX.normal,⟨[(4, .bptr 0 0),(11, .bptr 1 0),(13, .bptr 2 0),(15, .bptr 3 0),(67, .agg [.list 2, .list 2, .list 2, .list 2]),(68, .int .i64),(72, .list 2),(73, .int .i64),(74, .int .i64)],[.box [.int .i64, .int .i64], .box [.sl 20 2], .box [.list 2, .list 2], .box [.int .i64, .int .i64], .dead, .box [.list 2], .dead, .dead, .box [.int .i64, .int .i64], .dead, .dead, .dead, .dead, .dead, .dead, .dead, .dead, .dead, .dead, .box [.int .i64, .int .i64], .row [ci,ci]],115⟩)]⟩,
 ⟨25,[true,true,true,false,false,true,true,false,false,true,true,false,false,true,true,false,false,true,false,true,true,true,true,true],0,[(AX.normal,⟨[(4, .bptr 0 0),(11, .bptr 1 0),(13, .bptr 2 0),(67, .agg [.list 2, .list 2, .list 2, .list 2]),(68, .int .i64),(72, .list 2),(73, .int .i64),(74, .int .i64)],[.box [.int .i64, .int .i64], .box [.sl 3 2], .box [.list 2, .list 2], .row [ci,ci]],115⟩)]⟩,
 ⟨25,[false,false,false,true,true,false,false,true,false,true,true,true,true,true],0,[(AX.normal,⟨[(4, .bptr 0 0),(11, .bptr 1 0),(13, .bptr 2 0),(67, .agg [.list 2, .list 2, .list 2, .list 2]),(68, .int .i64)],[.box [.int .i64, .int .i64], .box [.sl 3 2], .box [.list 2, .list 2], .row [ci,ci]],115⟩)]⟩]
def gam25:List CF:=
 [⟨ctr69,G69⟩,⟨ctr68,G68⟩,⟨ctr65,G65⟩,⟨ctr63,G63⟩,⟨ctr62,G62⟩]
def an25:Anns:=
 ⟨gam25,ja25,[]⟩
def c25_4 (it:It) (p:Prim):(LD×T81)→Option ((LD×T81)⊕((LD×T26)⊕(LD×T26))):=
 fun a=>opt.run _ (
 opt.ask _ (p.cmp .lss a.2.2.2.2.2.2.2.2.2.2.2.2.2.2.2.2.2.2.2.2.1 a.2.2.2.2.2.2.2.2.2.2.2.2.2.2.2.2.2.2.2.1) (
 opt.need _ (p.rowOk a.2.2.2.2.2.2.2.2.2.2.2.2.2.2.2.2.2.2.1 (p.nat a.2.2.2.2.2.2.2.2.2.2.2.2.2.2.2.2.2.2.2.2.1) [ci,ci])<|
 opt.need _ (p.cmp .geq a.2.2.2.2.2.2.2.2.2.2.2.2.2.2.2.2.2.2.2.2.1 (0:Int))<|
 opt.need _ (p.cmp .neq (p.ofNat (p.len a.2.2.2.2.2.2.2.2.2.1)) (0:Int))<|
 opt.need _ (p.rowOk a.2.2.2.2.2.2.2.2.2.1 (p.nat (p.ar .rem .i64 (p.ar .add .i64 a.2.2.2.2.2.2.2.2.2.2.2.2.2.2.2.2.2.2.2.2.1 (1:Int)) (p.ofNat (p.len a.2.2.2.2.2.2.2.2.2.1)))) [ci,ci])<|
 opt.need _ (p.cmp .geq (p.ar .rem .i64 (p.ar .add .i64 a.2.2.2.2.2.2.2.2.2.2.2.2.2.2.2.2.2.2.2.2.1 (1:Int)) (p.ofNat (p.len a.2.2.2.2.2.2.2.2.2.1))) (0:Int))<|
 opt.ask _ (bif (p.cmp .eql (p.ar .sub .i64 (p.rdI a.2.2.2.2.2.2.2.2.2.1 (p.nat (p.ar .rem .i64 (p.ar .add .i64 a.2.2.2.2.2.2.2.2.2.2.2.2.2.2.2.2.2.2.2.2.1 (1:Int)) (p.ofNat (p.len a.2.2.2.2.2.2.2.2.2.1)))) 0) (p.rdI a.2.2.2.2.2.2.2.2.2.2.2.2.2.2.2.2.2.2.1 (p.nat a.2.2.2.2.2.2.2.2.2.2.2.2.2.2.2.2.2.2.2.2.1) 0)) (0:Int)) then (bif (p.cmp .eql (p.ar .sub .i64 (p.rdI a.2.2.2.2.2.2.2.2.2.1 (p.nat (p.ar .rem .i64 (p.ar .add .i64 a.2.2.2.2.2.2.2.2.2.2.2.2.2.2.2.2.2.2.2.2.1 (1:Int)) (p.ofNat (p.len a.2.2.2.2.2.2.2.2.2.1)))) 1) (p.rdI a.2.2.2.2.2.2.2.2.2.2.2.2.2.2.2.2.2.2.1 (p.nat a.2.2.2.2.2.2.2.2.2.2.2.2.2.2.2.2.2.2.2.2.1) 1)) (0:Int)) then Bool.true else Bool.false) else Bool.false) (
 opt.ret _ (Sum.inr (Sum.inl (a.1,(a.2.1,(a.2.2.1,(a.2.2.2.1,(a.2.2.2.2.1,(a.2.2.2.2.2.1,(a.2.2.2.2.2.2.1,(a.2.2.2.2.2.2.2.1,(a.2.2.2.2.2.2.2.2.1,(a.2.2.2.2.2.2.2.2.2.1,(a.2.2.2.2.2.2.2.2.2.2.1,(a.2.2.2.2.2.2.2.2.2.2.2.1,(a.2.2.2.2.2.2.2.2.2.2.2.2.1,(a.2.2.2.2.2.2.2.2.2.2.2.2.2.1,(a.2.2.2.2.2.2.2.2.2.2.2.2.2.2.1,(a.2.2.2.2.2.2.2.2.2.2.2.2.2.2.2.1,(a.2.2.2.2.2.2.2.2.2.2.2.2.2.2.2.2.1,(a.2.2.2.2.2.2.2.2.2.2.2.2.2.2.2.2.2.1,()))))))))))))))))))))) (
 opt.bnd T20 _ (g68 it p (a.2.2.2.2.2.2.2.1,(a.2.2.2.2.2.2.2.2.1,((p.rdI a.2.2.2.2.2.2.2.2.2.2.2.2.2.2.2.2.2.2.1 (p.nat a.2.2.2.2.2.2.2.2.2.2.2.2.2.2.2.2.2.2.2.2.1) 0),((p.rdI a.2.2.2.2.2.2.2.2.2.2.2.2.2.2.2.2.2.2.1 (p.nat a.2.2.2.2.2.2.2.2.2.2.2.2.2.2.2.2.2.2.2.2.1) 1),((p.ar .sub .i64 (p.rdI a.2.2.2.2.2.2.2.2.2.1 (p.nat (p.ar .rem .i64 (p.ar .add .i64 a.2.2.2.2.2.2.2.2.2.2.2.2.2.2.2.2.2.2.2.2.1 (1:Int)) (p.ofNat (p.len a.2.2.2.2.2.2.2.2.2.1)))) 0) (p.rdI a.2.2.2.2.2.2.2.2.2.2.2.2.2.2.2.2.2.2.1 (p.nat a.2.2.2.2.2.2.2.2.2.2.2.2.2.2.2.2.2.2.2.2.1) 0)),((p.ar .sub .i64 (p.rdI a.2.2.2.2.2.2.2.2.2.1 (p.nat (p.ar .rem .i64 (p.ar .add .i64 a.2.2.2.2.2.2.2.2.2.2.2.2.2.2.2.2.2.2.2.2.1 (1:Int)) (p.ofNat (p.len a.2.2.2.2.2.2.2.2.2.1)))) 1) (p.rdI a.2.2.2.2.2.2.2.2.2.2.2.2.2.2.2.2.2.2.1 (p.nat a.2.2.2.2.2.2.2.2.2.2.2.2.2.2.2.2.2.2.2.2.1) 1)),()))))))) fun b=>
 opt.bnd ((LD×T82)) _ (
 opt.run ((LD×T82)) (
 opt.ask _ b.2.2.1 (
 opt.need _ (p.and (p.leN (p.add 0 1) (p.len [[(D.int .i64 b.1),(D.int .i64 b.2.1)]])) (p.and (p.leN (p.add a.2.2.2.1 a.2.2.2.2.1) (p.len a.1)) (p.and (p.leN 1 1) (p.leN (p.add a.2.2.2.2.1 1) 1000000))))<|
 opt.ret _ ((p.app (p.cut a.1 a.2.2.2.1 a.2.2.2.2.1) (p.cut [[(D.int .i64 b.1),(D.int .i64 b.2.1)]] 0 1)),(a.2.1,(a.2.2.1,(0,((p.add a.2.2.2.2.1 1),(a.2.2.2.2.2.1,(a.2.2.2.2.2.2.1,(a.2.2.2.2.2.2.2.1,(a.2.2.2.2.2.2.2.2.1,(a.2.2.2.2.2.2.2.2.2.1,((p.rdI a.2.2.2.2.2.2.2.2.2.2.2.2.2.2.2.2.2.2.1 (p.nat a.2.2.2.2.2.2.2.2.2.2.2.2.2.2.2.2.2.2.2.2.1) 0),((p.rdI a.2.2.2.2.2.2.2.2.2.2.2.2.2.2.2.2.2.2.1 (p.nat a.2.2.2.2.2.2.2.2.2.2.2.2.2.2.2.2.2.2.2.2.1) 1),((p.ar .sub .i64 (p.rdI a.2.2.2.2.2.2.2.2.2.1 (p.nat (p.ar .rem .i64 (p.ar .add .i64 a.2.2.2.2.2.2.2.2.2.2.2.2.2.2.2.2.2.2.2.2.1 (1:Int)) (p.ofNat (p.len a.2.2.2.2.2.2.2.2.2.1)))) 0) (p.rdI a.2.2.2.2.2.2.2.2.2.2.2.2.2.2.2.2.2.2.1 (p.nat a.2.2.2.2.2.2.2.2.2.2.2.2.2.2.2.2.2.2.2.2.1) 0)),((p.ar .sub .i64 (p.rdI a.2.2.2.2.2.2.2.2.2.1 (p.nat (p.ar .rem .i64 (p.ar .add .i64 a.2.2.2.2.2.2.2.2.2.2.2.2.2.2.2.2.2.2.2.2.1 (1:Int)) (p.ofNat (p.len a.2.2.2.2.2.2.2.2.2.1)))) 1) (p.rdI a.2.2.2.2.2.2.2.2.2.2.2.2.2.2.2.2.2.2.1 (p.nat a.2.2.2.2.2.2.2.2.2.2.2.2.2.2.2.2.2.2.2.2.1) 1)),(a.2.2.2.2.2.2.2.2.2.2.2.2.1,(a.2.2.2.2.2.2.2.2.2.2.2.2.2.1,(a.2.2.2.2.2.2.2.2.2.2.2.2.2.2.1,(a.2.2.2.2.2.2.2.2.2.2.2.2.2.2.2.1,(a.2.2.2.2.2.2.2.2.2.2.2.2.2.2.2.2.1,(a.2.2.2.2.2.2.2.2.2.2.2.1,(a.2.2.2.2.2.2.2.2.2.2.1,(a.2.2.2.2.2.2.2.2.2.2.2.2.2.2.2.2.2.1,()))))))))))))))))))))))) (
 opt.ret _ (a.1,(a.2.1,(a.2.2.1,(a.2.2.2.1,(a.2.2.2.2.1,(a.2.2.2.2.2.1,(a.2.2.2.2.2.2.1,(a.2.2.2.2.2.2.2.1,(a.2.2.2.2.2.2.2.2.1,(a.2.2.2.2.2.2.2.2.2.1,((p.rdI a.2.2.2.2.2.2.2.2.2.2.2.2.2.2.2.2.2.2.1 (p.nat a.2.2.2.2.2.2.2.2.2.2.2.2.2.2.2.2.2.2.2.2.1) 0),((p.rdI a.2.2.2.2.2.2.2.2.2.2.2.2.2.2.2.2.2.2.1 (p.nat a.2.2.2.2.2.2.2.2.2.2.2.2.2.2.2.2.2.2.2.2.1) 1),((p.ar .sub .i64 (p.rdI a.2.2.2.2.2.2.2.2.2.1 (p.nat (p.ar .rem .i64 (p.ar .add .i64 a.2.2.2.2.2.2.2.2.2.2.2.2.2.2.2.2.2.2.2.2.1 (1:Int)) (p.ofNat (p.len a.2.2.2.2.2.2.2.2.2.1)))) 0) (p.rdI a.2.2.2.2.2.2.2.2.2.2.2.2.2.2.2.2.2.2.1 (p.nat a.2.2.2.2.2.2.2.2.2.2.2.2.2.2.2.2.2.2.2.2.1) 0)),((p.ar .sub .i64 (p.rdI a.2.2.2.2.2.2.2.2.2.1 (p.nat (p.ar .rem .i64 (p.ar .add .i64 a.2.2.2.2.2.2.2.2.2.2.2.2.2.2.2.2.2.2.2.2.1 (1:Int)) (p.ofNat (p.len a.2.2.2.2.2.2.2.2.2.1)))) 1) (p.rdI a.2.2.2.2.2.2.2.2.2.2.2.2.2.2.2.2.2.2.1 (p.nat a.2.2.2.2.2.2.2.2.2.2.2.2.2.2.2.2.2.2.2.2.1) 1)),(a.2.2.2.2.2.2.2.2.2.2.2.2.1,(a.2.2.2.2.2.2.2.2.2.2.2.2.2.1,(a.2.2.2.2.2.2.2.2.2.2.2.2.2.2.1,(a.2.2.2.2.2.2.2.2.2.2.2.2.2.2.2.1,(a.2.2.2.2.2.2.2.2.2.2.2.2.2.2.2.2.1,(a.2.2.2.2.2.2.2.2.2.2.2.1,(a.2.2.2.2.2.2.2.2.2.2.1,(a.2.2.2.2.2.2.2.2.2.2.2.2.2.2.2.2.2.1,()))))))))))))))))))))))))) fun c=>
 opt.ret _ (Sum.inl (c.1,(c.2.1,(c.2.2.1,(c.2.2.2.1,(c.2.2.2.2.1,(c.2.2.2.2.2.1,(c.2.2.2.2.2.2.1,(c.2.2.2.2.2.2.2.1,(c.2.2.2.2.2.2.2.2.1,(c.2.2.2.2.2.2.2.2.2.1,(a.2.2.2.2.2.2.2.2.2.2.1,(a.2.2.2.2.2.2.2.2.2.2.2.1,(a.2.2.2.2.2.2.2.2.2.2.2.2.1,(a.2.2.2.2.2.2.2.2.2.2.2.2.2.1,(a.2.2.2.2.2.2.2.2.2.2.2.2.2.2.1,(a.2.2.2.2.2.2.2.2.2.2.2.2.2.2.2.1,(a.2.2.2.2.2.2.2.2.2.2.2.2.2.2.2.2.1,(a.2.2.2.2.2.2.2.2.2.2.2.2.2.2.2.2.2.1,(a.2.2.2.2.2.2.2.2.2.2.2.2.2.2.2.2.2.2.1,(a.2.2.2.2.2.2.2.2.2.2.2.2.2.2.2.2.2.2.2.1,((p.ar .add .i64 a.2.2.2.2.2.2.2.2.2.2.2.2.2.2.2.2.2.2.2.2.1 (1:Int)),())))))))))))))))))))))))) (
 opt.ret _ (Sum.inr (Sum.inr (a.1,(a.2.1,(a.2.2.1,(a.2.2.2.1,(a.2.2.2.2.1,(a.2.2.2.2.2.1,(a.2.2.2.2.2.2.1,(a.2.2.2.2.2.2.2.1,(a.2.2.2.2.2.2.2.2.1,(a.2.2.2.2.2.2.2.2.2.1,(a.2.2.2.2.2.2.2.2.2.2.1,(a.2.2.2.2.2.2.2.2.2.2.2.1,(a.2.2.2.2.2.2.2.2.2.2.2.2.1,(a.2.2.2.2.2.2.2.2.2.2.2.2.2.1,(a.2.2.2.2.2.2.2.2.2.2.2.2.2.2.1,(a.2.2.2.2.2.2.2.2.2.2.2.2.2.2.2.1,(a.2.2.2.2.2.2.2.2.2.2.2.2.2.2.2.2.1,(a.2.2.2.2.2.2.2.2.2.2.2.2.2.2.2.2.2.1,()))))))))))))))))))))))
def c25_3 (it:It) (p:Prim):(LD×T83)→Option ((LD×T83)⊕(LD×T84)):=
 fun a=>opt.run _ (
 opt.ask _ (p.cmp .lss a.2.2.2.2.2.2.2.2.2.2.2.2.2.2.2.2.2.2.2.1 a.2.2.2.2.2.2.2.2.2.2.2.2.2.2.2.2.2.2.1) (
 opt.need _ (p.rowOk a.2.2.2.2.2.2.2.2.2.2.2.2.2.2.2.2.2.1 (p.nat a.2.2.2.2.2.2.2.2.2.2.2.2.2.2.2.2.2.2.2.1) [ci,ci])<|
 opt.need _ (p.cmp .geq a.2.2.2.2.2.2.2.2.2.2.2.2.2.2.2.2.2.2.2.1 (0:Int))<|
 opt.bnd T5 _ (g65 it p ((p.ar .add .i64 (p.ar .mul .i64 (p.ar .sub .i64 (p.rdI a.2.2.2.2.2.2.2.2.2.2.2.2.2.2.2.2.2.1 (p.nat a.2.2.2.2.2.2.2.2.2.2.2.2.2.2.2.2.2.2.2.1) 0) a.2.2.2.2.2.2.2.1) (p.ar .sub .i64 (p.rdI a.2.2.2.2.2.2.2.2.2.2.2.2.2.2.2.2.2.1 (p.nat a.2.2.2.2.2.2.2.2.2.2.2.2.2.2.2.2.2.2.2.1) 0) a.2.2.2.2.2.2.2.1)) (p.ar .mul .i64 (p.ar .sub .i64 (p.rdI a.2.2.2.2.2.2.2.2.2.2.2.2.2.2.2.2.2.1 (p.nat a.2.2.2.2.2.2.2.2.2.2.2.2.2.2.2.2.2.2.2.1) 1) a.2.2.2.2.2.2.2.2.1) (p.ar .sub .i64 (p.rdI a.2.2.2.2.2.2.2.2.2.2.2.2.2.2.2.2.2.1 (p.nat a.2.2.2.2.2.2.2.2.2.2.2.2.2.2.2.2.2.2.2.1) 1) a.2.2.2.2.2.2.2.2.1))),((1:Int),()))) fun b=>
 opt.need _ (p.and (p.leN (p.add 0 1) (p.len [[(D.int .i64 b.1),(D.int .i64 b.2.1)]])) (p.and (p.leN (p.add a.2.2.2.1 a.2.2.2.2.1) (p.len a.1)) (p.and (p.leN 1 1) (p.leN (p.add a.2.2.2.2.1 1) 1000000))))<|
 opt.ret _ (Sum.inl ((p.app (p.cut a.1 a.2.2.2.1 a.2.2.2.2.1) (p.cut [[(D.int .i64 b.1),(D.int .i64 b.2.1)]] 0 1)),(a.2.1,(a.2.2.1,(0,((p.add a.2.2.2.2.1 1),(a.2.2.2.2.2.1,(a.2.2.2.2.2.2.1,(a.2.2.2.2.2.2.2.1,(a.2.2.2.2.2.2.2.2.1,(a.2.2.2.2.2.2.2.2.2.1,(a.2.2.2.2.2.2.2.2.2.2.1,(a.2.2.2.2.2.2.2.2.2.2.2.1,(a.2.2.2.2.2.2.2.2.2.2.2.2.1,(a.2.2.2.2.2.2.2.2.2.2.2.2.2.1,(a.2.2.2.2.2.2.2.2.2.2.2.2.2.2.1,(a.2.2.2.2.2.2.2.2.2.2.2.2.2.2.2.1,(a.2.2.2.2.2.2.2.2.2.2.2.2.2.2.2.2.1,(a.2.2.2.2.2.2.2.2.2.2.2.2.2.2.2.2.2.1,(a.2.2.2.2.2.2.2.2.2.2.2.2.2.2.2.2.2.2.1,((p.ar .add .i64 a.2.2.2.2.2.2.2.2.2.2.2.2.2.2.2.2.2.2.2.1 (1:Int)),())))))))))))))))))))))) (
 opt.ret _ (Sum.inr (a.1,(a.2.1,(a.2.2.1,(a.2.2.2.1,(a.2.2.2.2.1,(a.2.2.2.2.2.1,(a.2.2.2.2.2.2.1,(a.2.2.2.2.2.2.2.1,(a.2.2.2.2.2.2.2.2.1,(a.2.2.2.2.2.2.2.2.2.1,(a.2.2.2.2.2.2.2.2.2.2.1,(a.2.2.2.2.2.2.2.2.2.2.2.1,(a.2.2.2.2.2.2.2.2.2.2.2.2.1,(a.2.2.2.2.2.2.2.2.2.2.2.2.2.1,(a.2.2.2.2.2.2.2.2.2.2.2.2.2.2.1,(a.2.2.2.2.2.2.2.2.2.2.2.2.2.2.2.1,(a.2.2.2.2.2.2.2.2.2.2.2.2.2.2.2.2.1,()))))))))))))))))))))
def c25_2 (it:It) (p:Prim):(LD×T47)→Option ((LD×T47)⊕(LD×T48)):=
 fun a=>opt.run _ (
 opt.ask _ (p.cmp .lss a.2.2.2.2.2.2.2.2.2.2.2.2.2.2.1 a.2.2.2.2.2.2.2.2.2.2.2.2.2.1) (
 opt.need _ (p.rowOk a.2.2.2.2.2.2.2.2.2.2.2.2.1 (p.nat a.2.2.2.2.2.2.2.2.2.2.2.2.2.2.1) [ci,ci])<|
 opt.need _ (p.cmp .geq a.2.2.2.2.2.2.2.2.2.2.2.2.2.2.1 (0:Int))<|
 opt.bnd ((LD×T84)) _ (
 it _ _ (c25_3 it p) (a.1,(a.2.1,(a.2.2.1,(a.2.2.2.1,(a.2.2.2.2.1,(a.2.2.2.2.2.1,(a.2.2.2.2.2.2.1,((p.rdI a.2.2.2.2.2.2.2.2.2.2.2.2.1 (p.nat a.2.2.2.2.2.2.2.2.2.2.2.2.2.2.1) 0),((p.rdI a.2.2.2.2.2.2.2.2.2.2.2.2.1 (p.nat a.2.2.2.2.2.2.2.2.2.2.2.2.2.2.1) 1),(a.2.2.2.2.2.2.2.1,(a.2.2.2.2.2.2.2.2.1,(a.2.2.2.2.2.2.2.2.2.1,(a.2.2.2.2.2.2.2.2.2.2.1,(a.2.2.2.2.2.2.2.2.2.2.2.1,(a.2.2.2.2.2.2.2.2.2.2.2.2.1,(a.2.2.2.2.2.2.2.2.2.2.2.2.2.1,(a.2.2.2.2.2.2.2.2.2.2.2.2.2.2.1,(a.2.2.2.2.2.2.1,((p.ofNat (p.len a.2.2.2.2.2.2.1)),((0:Int),()))))))))))))))))))))) fun b=>
 opt.bnd ((LD×T47)) _ (
 opt.run ((LD×T47)) (
 opt.alt ((LD×T26)) ((LD×T26)) _ (
 it _ _ (c25_4 it p) (b.1,(b.2.1,(b.2.2.1,(b.2.2.2.1,(b.2.2.2.2.1,(b.2.2.2.2.2.1,(b.2.2.2.2.2.2.1,(b.2.2.2.2.2.2.2.1,(b.2.2.2.2.2.2.2.2.1,(b.2.2.2.2.2.2.1,(b.2.2.2.2.2.2.2.2.2.2.2.2.2.2.2.1,(b.2.2.2.2.2.2.2.2.2.2.2.2.2.2.1,(b.2.2.2.2.2.2.2.2.2.1,(b.2.2.2.2.2.2.2.2.2.2.1,(b.2.2.2.2.2.2.2.2.2.2.2.1,(b.2.2.2.2.2.2.2.2.2.2.2.2.1,(b.2.2.2.2.2.2.2.2.2.2.2.2.2.1,(b.2.2.2.2.2.2.2.2.2.2.2.2.2.2.2.2.1,(b.2.2.2.2.2.2.1,((p.ofNat (p.len b.2.2.2.2.2.2.1)),((0:Int),())))))))))))))))))))))) (fun c=>
 opt.ret _ (c.1,(c.2.1,(c.2.2.1,(c.2.2.2.1,(c.2.2.2.2.1,(c.2.2.2.2.2.1,(c.2.2.2.2.2.2.1,(b.2.2.2.2.2.2.2.2.2.1,(b.2.2.2.2.2.2.2.2.2.2.1,(b.2.2.2.2.2.2.2.2.2.2.2.1,(b.2.2.2.2.2.2.2.2.2.2.2.2.1,(b.2.2.2.2.2.2.2.2.2.2.2.2.2.1,(b.2.2.2.2.2.2.2.2.2.2.2.2.2.2.1,(b.2.2.2.2.2.2.2.2.2.2.2.2.2.2.2.1,(b.2.2.2.2.2.2.2.2.2.2.2.2.2.2.2.2.1,())))))))))))))))) (fun d=>
 opt.bnd ((LD×T26)) _ (some d) fun e=>
 opt.ret _ (e.1,(e.2.1,(e.2.2.1,(e.2.2.2.1,(e.2.2.2.2.1,(e.2.2.2.2.2.1,(e.2.2.2.2.2.2.1,(b.2.2.2.2.2.2.2.2.2.1,(b.2.2.2.2.2.2.2.2.2.2.1,(b.2.2.2.2.2.2.2.2.2.2.2.1,(b.2.2.2.2.2.2.2.2.2.2.2.2.1,(b.2.2.2.2.2.2.2.2.2.2.2.2.2.1,(b.2.2.2.2.2.2.2.2.2.2.2.2.2.2.1,(b.2.2.2.2.2.2.2.2.2.2.2.2.2.2.2.1,(b.2.2.2.2.2.2.2.2.2.2.2.2.2.2.2.2.1,())))))))))))))))))) fun f=>
 opt.ret _ (Sum.inl (f.1,(f.2.1,(f.2.2.1,(f.2.2.2.1,(f.2.2.2.2.1,(f.2.2.2.2.2.1,(f.2.2.2.2.2.2.1,(f.2.2.2.2.2.2.2.1,(f.2.2.2.2.2.2.2.2.1,(f.2.2.2.2.2.2.2.2.2.1,(f.2.2.2.2.2.2.2.2.2.2.1,(f.2.2.2.2.2.2.2.2.2.2.2.1,(f.2.2.2.2.2.2.2.2.2.2.2.2.1,(f.2.2.2.2.2.2.2.2.2.2.2.2.2.1,((p.ar .add .i64 f.2.2.2.2.2.2.2.2.2.2.2.2.2.2.1 (1:Int)),()))))))))))))))))) (
 opt.ret _ (Sum.inr (a.1,(a.2.1,(a.2.2.1,(a.2.2.2.1,(a.2.2.2.2.1,(a.2.2.2.2.2.2.2.1,(a.2.2.2.2.2.2.2.2.1,(a.2.2.2.2.2.2.2.2.2.1,(a.2.2.2.2.2.2.2.2.2.2.1,(a.2.2.2.2.2.2.2.2.2.2.2.1,())))))))))))))
def c25_1 (it:It) (p:Prim):(LD×T48)→Option ((LD×T48)⊕(LD×T85)):=
 fun a=>opt.run _ (
 opt.ask _ (p.cmp .lss a.2.2.2.2.2.2.2.2.2.1 (2:Int)) (
 opt.bnd ((LD×T86)) _ (
 opt.run ((LD×T86)) (
 opt.ask _ (p.cmp .eql a.2.2.2.2.2.2.2.2.2.1 (0:Int)) (
 opt.need _ (bif (p.cmp .geq (0:Int) (0:Int)) then (p.cmp .lss (0:Int) (p.ofNat 2)) else Bool.false)<|
 opt.ret _ (a.1,(a.2.1,(a.2.2.1,(a.2.2.2.1,(a.2.2.2.2.1,(a.2.2.2.2.2.1,(a.2.2.2.2.2.2.1,(a.2.2.2.2.2.1,(a.2.2.2.2.2.2.1,(a.2.2.2.2.2.2.2.1,(a.2.2.2.2.2.2.2.2.1,((0:Int),()))))))))))))) (
 opt.need _ (p.cmp .eql a.2.2.2.2.2.2.2.2.2.1 (1:Int))<|
 opt.need _ (bif (p.cmp .geq (1:Int) (0:Int)) then (p.cmp .lss (1:Int) (p.ofNat 2)) else Bool.false)<|
 opt.ret _ (a.1,(a.2.1,(a.2.2.1,(a.2.2.2.1,(a.2.2.2.2.1,(a.2.2.2.2.2.2.2.1,(a.2.2.2.2.2.2.2.2.1,(a.2.2.2.2.2.1,(a.2.2.2.2.2.2.1,(a.2.2.2.2.2.2.2.1,(a.2.2.2.2.2.2.2.2.1,((1:Int),()))))))))))))))) fun b=>
 opt.bnd ((LD×T48)) _ (
 it _ _ (c25_2 it p) (b.1,(b.2.1,(b.2.2.1,(b.2.2.2.1,(b.2.2.2.2.1,(b.2.2.2.2.2.1,(b.2.2.2.2.2.2.1,(b.2.2.2.2.2.2.2.1,(b.2.2.2.2.2.2.2.2.1,(b.2.2.2.2.2.2.2.2.2.1,(b.2.2.2.2.2.2.2.2.2.2.1,(b.2.2.2.2.2.2.2.2.2.2.2.1,(b.2.2.2.2.2.1,((p.ofNat (p.len b.2.2.2.2.2.1)),((0:Int),())))))))))))))))) fun c=>
 opt.ret _ (Sum.inl (c.1,(c.2.1,(c.2.2.1,(c.2.2.2.1,(c.2.2.2.2.1,(c.2.2.2.2.2.1,(c.2.2.2.2.2.2.1,(c.2.2.2.2.2.2.2.1,(c.2.2.2.2.2.2.2.2.1,((p.ar .add .i64 c.2.2.2.2.2.2.2.2.2.1 (1:Int)),())))))))))))) (
 opt.ret _ (Sum.inr (a.1,(a.2.1,(a.2.2.1,(a.2.2.2.1,(a.2.2.2.2.1,()))))))))
def g25 (it:It):(p:Prim)→(LD×(LD×(LD×(LD×Unit))))→Option T7:=
 fun p x=>
 opt.alt T0 (((LD×(LD×(LD×T1)))⊕((LD×(LD×(LD×T1)))⊕(LD×(LD×(LD×(LD×(LD×(LD×T1))))))))) _ (g62 it p (x.1,(x.2.1,(x.2.2.1,(x.2.2.2.1,()))))) (fun a=>
 opt.ask _ (p.cmp .neq a.1 (0:Int)) (
 opt.ret _ ((0:Int),((0:Int),(a.1,())))) (
 opt.no _ 41)) (fun b=>
 opt.alt ((LD×(LD×(LD×T1)))) (((LD×(LD×(LD×T1)))⊕(LD×(LD×(LD×(LD×(LD×(LD×T1)))))))) _ (some b) (fun c=>
 opt.ask _ (p.cmp .neq c.2.2.2.1 (0:Int)) (
 opt.ret _ ((0:Int),((0:Int),(c.2.2.2.1,())))) (
 opt.no _ 41)) (fun d=>
 opt.alt ((LD×(LD×(LD×T1)))) ((LD×(LD×(LD×(LD×(LD×(LD×T1))))))) _ (some d) (fun e=>
 opt.ask _ (p.cmp .neq e.2.2.2.1 (0:Int)) (
 opt.ret _ ((0:Int),((0:Int),(e.2.2.2.1,())))) (
 opt.no _ 41)) (fun f=>
 opt.bnd ((LD×(LD×(LD×(LD×(LD×(LD×T1))))))) _ (some f) fun g=>
 opt.ask _ (p.cmp .neq g.2.2.2.2.2.2.1 (0:Int)) (
 opt.ret _ ((0:Int),((0:Int),(g.2.2.2.2.2.2.1,())))) (
 opt.bnd T22 _ (g63 it p (g.2.2.1,(g.2.2.2.2.2.1,()))) fun h=>
 opt.ask _ (bif h.2.2.2.1 then Bool.false else Bool.true) (
 opt.ret _ ((0:Int),((1:Int),((0:Int),())))) (
 opt.need _ (p.leN (p.add 0 0) (p.len []))<|
 opt.bnd ((LD×T85)) _ (
 it _ _ (c25_1 it p) ([],((0:Int),((0:Int),(0,(0,(g.2.2.1,(g.2.2.2.2.2.1,(g.2.2.2.2.2.1,(g.2.2.1,((0:Int),()))))))))))) fun i=>
 opt.bnd ((LD×T4)) _ (g69 it p (i.1,(i.2.2.2.1,(i.2.2.2.2.1,())))) fun j=>
 opt.ret _ (j.2.1,(j.2.2.1,((0:Int),()))))))))
def G25:=g25 it0
theorem ok25:CtrOk PG ctr25 (G25 std):=okF (a:=an25) (l:=la25) (gC ok69 (gC ok68 (gC ok65 (gC ok63 (gC ok62 (gN)))))) (by kernel_rfl) fun _ _=>by kernel_rfl
end Go.Am
end
noncomputable section
namespace Go.Am
def ctr27:Ctr:=
 ⟨27,[.list 2],[],[(.ret,⟨[(0, .tuple [.int .i64, .int .i64, .int .i64])],[],1⟩)]⟩
def la27:List LA:=
 [⟨27,[false,true,false,true,true,true],0,⟨⟨[(5, .vec 0 1),(22, .list 2),(23, .int .i64),(24, .int .i64)],[.row [(CK.ref [(CR.list 2),(CR.list 1),(CR.list 2)])]],103⟩,[(AX.ret,⟨[(2, .int .i64),(3, .int .i64),(4, .int .i64)],[],103⟩),((AX.exit 0),⟨[(5, .vec 0 1)],[.row [(CK.ref [(CR.list 2),(CR.list 1),(CR.list 2)])]],103⟩)]⟩⟩,
 ⟨27,[false,true,false,true,true,true,true,true],0,⟨⟨[(5, .vec 0 1),(10, .map 1),(42, .vec 0 1),(43, .int .i64),(44, .int .i64)],[.row [(CK.ref [(CR.list 2),(CR.list 1),(CR.list 2)])], .map],103⟩,[((AX.exit 2),⟨[(5, .vec 0 1),(10, .map 1)],[.row [(CK.ref [(CR.list 2),(CR.list 1),(CR.list 2)])], .map],103⟩)]⟩⟩,
 ⟨27,[false,true,true,false,false,true,true,false,false,true,false,true,true,true,true,true],0,⟨⟨[(5, .vec 0 1),(10, .map 1),(11, .int .i64),(12, .ref [.list 2, .list 1, .list 2]),(42, .vec 0 1),(43, .int .i64),(44, .int .i64),(52, .slc 0 1),(53, .int .i64),(54, .int .i64)],[.row [(CK.ref [(CR.list 2),(CR.list 1),(CR.list 2)])], .map],103⟩,[((AX.exit 4),⟨[(5, .vec 0 1),(10, .map 1),(42, .vec 0 1),(43, .int .i64),(44, .int .i64)],[.row [(CK.ref [(CR.list 2),(CR.list 1),(CR.list 2)])], .map],103⟩)]⟩⟩,
 ⟨27,[false,true,false,true,true,true,true,true,true],0,⟨⟨[(5, .vec 0 1),(10, .map 1),(84, .int .i64),(85, .int .i64)],[.row [(CK.ref [(CR.list 2),(CR.list 1),(CR.list 2)])], .map],103⟩,[(AX.ret,⟨[(2, .int .i64),(3, .int .i64),(4, .int .i64)],[],103⟩),((AX.exit 6),⟨[],[],103⟩)]⟩⟩,
 ⟨27,[false,true,true,false,false,true,true,false,false,true,false,true,true,true,true,true,true],0,⟨⟨[(5, .vec 0 1),(10, .map 1),(17, .int .i64),(84, .int .i64),(85, .int .i64),(89, .int .i64),(90, .int .i64)],[.row [(CK.ref [(CR.list 2),(CR.list 1),(CR.list 2)])], .map],103⟩,[(AX.ret,⟨[(2, .int .i64),(3, .int .i64),(4, .int .i64)],[],103⟩),((AX.exit 8),⟨[(5, .vec 0 1),(10, .map 1),(84, .int .i64),(85, .int .i64)],[.row [(CK.ref [(CR.list 2),(CR.list 1),(CR.list 2)])], .map],103⟩)]⟩⟩]
def ja27:List JA:=
 [⟨27,[true,true,true,false,false,true,true,false,false,true,true,false,false,true,true,false,false,true,false,true,true,true,true,true],0,[(AX.normal,⟨[(5, .vec 0 1),(10, .map 1),(11, .int .i64),(12, .ref [.list 2, .list 1, .list 2]),(42, .vec 0 1),(43, .int .i64),(44, .int .i64),(52, .slc 0 1),(53, .int .i64),(54, .int .i64)],[.row [(CK.ref [(CR.list 2),(CR.list 1),(CR.list 2)])], .map],103⟩)]⟩,
 ⟨27,[false,true,true,false,false,true,true,false,false,true,true,false,false,true,false,true,true,true,true,true,true],0,[(AX.ret,⟨[(2, .int .i64),(3, .int .i64),(4, .int .i64)],[],103⟩),(AX.normal,⟨[(5, .vec 0 1),(10, .map 1),(17, .int .i64),(84, .int .i64),(85, .int .i64),(89, .int .i64),(90, .int .i64)],[.row [(CK.ref [(CR.list 2),(CR.list 1),(CR.list 2)])], .map],103⟩)]⟩,
 ⟨27,[false,true,true,false,false,true,false,true,true,true],0,[(AX.ret,⟨[(2, .int .i64),(3, .int .i64),(4, .int .i64)],[],103⟩),(AX.normal,⟨[(5, .vec 0 1),(22, .list 2),(23, .int .i64),(24, .int .i64)],[.row [(CK.ref [(CR.list 2),(CR.list 1),(CR.list 2)])]],103⟩)]⟩]
def gam27:List CF:=
 [⟨ctr63,G63⟩,⟨ctr48,G48⟩]
def an27:Anns:=
 ⟨gam27,ja27,[⟨27,[true,true,true,false,false,true,true,false,false,true,false,true,true,true],⟨[(5, .vec 0 1),(8, .ref [.list 2, .list 1, .list 2]),(22, .list 2),(23, .int .i64),(24, .int .i64)],[.row [(CK.ref [(CR.list 2),(CR.list 1),(CR.list 2)])]],103⟩⟩]⟩
def b27_5 (p:Prim):(LD×T49)→Option ((LD×T49)⊕((Int×(Int×(Int×Unit)))⊕(LD×(List ((D×D))×(Int×(Int×Unit)))))):=
 fun a=>opt.run _ (
 opt.ask _ (p.cmp .lss a.2.2.2.2.2.2.1 a.2.2.2.2.2.1) (
 opt.alt T7 ((LD×T49)) _ (
 opt.run (((Int×(Int×(Int×Unit)))⊕(LD×(List ((D×D))×(Int×(Int×(Int×(Int×(Int×Unit))))))))) (
 opt.need _ (p.mOk a.2.1 [SK.i,SK.i] Bool.true (D.agg [(D.int .i64 a.2.2.1),(D.int .i64 a.2.2.2.2.2.2.1)]) Bool.false [ci])<|
 opt.ask _ (p.mhas a.2.1 [SK.i,SK.i] Bool.true (D.agg [(D.int .i64 a.2.2.1),(D.int .i64 a.2.2.2.2.2.2.1)])) (
 opt.ask _ (p.cmp .gtr (p.mI a.2.1 [SK.i,SK.i] Bool.true (D.agg [(D.int .i64 a.2.2.1),(D.int .i64 a.2.2.2.2.2.2.1)]) 0) (0:Int)) (
 opt.ret _ (Sum.inl (a.2.2.1,(a.2.2.2.2.2.2.1,((0:Int),()))))) (
 opt.need _ (p.eqN 0 0)<|
 opt.need _ (p.eqN (p.len a.1) (p.len a.1))<|
 opt.ret _ (Sum.inr (a.1,(a.2.1,(a.2.2.1,(a.2.2.2.1,(a.2.2.2.2.1,(a.2.2.2.2.2.1,(a.2.2.2.2.2.2.1,())))))))))) (
 opt.ask _ (p.cmp .gtr (0:Int) (0:Int)) (
 opt.ret _ (Sum.inl (a.2.2.1,(a.2.2.2.2.2.2.1,((0:Int),()))))) (
 opt.need _ (p.eqN 0 0)<|
 opt.need _ (p.eqN (p.len a.1) (p.len a.1))<|
 opt.ret _ (Sum.inr (a.1,(a.2.1,(a.2.2.1,(a.2.2.2.1,(a.2.2.2.2.1,(a.2.2.2.2.2.1,(a.2.2.2.2.2.2.1,())))))))))))) (fun b=>
 opt.ret _ (Sum.inr (Sum.inl (b.1,(b.2.1,(b.2.2.1,())))))) (fun c=>
 opt.bnd ((LD×T49)) _ (some c) fun d=>
 opt.need _ (p.eqN 0 0)<|
 opt.need _ (p.eqN (p.len d.1) (p.len d.1))<|
 opt.ret _ (Sum.inl (d.1,(d.2.1,(d.2.2.1,(d.2.2.2.1,(d.2.2.2.2.1,(d.2.2.2.2.2.1,((p.ar .add .i64 d.2.2.2.2.2.2.1 (1:Int)),())))))))))) (
 opt.need _ (p.eqN 0 0)<|
 opt.need _ (p.eqN (p.len a.1) (p.len a.1))<|
 opt.ret _ (Sum.inr (Sum.inr (a.1,(a.2.1,(a.2.2.2.1,(a.2.2.2.2.1,()))))))))
def c27_4 (it:It) (p:Prim):(LD×T18)→Option ((LD×T18)⊕((Int×(Int×(Int×Unit)))⊕Unit)):=
 fun a=>opt.run _ (
 opt.ask _ (p.cmp .lss a.2.2.2.1 a.2.2.1) (
 opt.need _ (p.eqN 0 0)<|
 opt.need _ (p.eqN (p.len a.1) (p.len a.1))<|
 opt.alt T7 ((LD×T18)) _ (
 it _ _ (b27_5 p) (a.1,(a.2.1,(a.2.2.2.1,(a.2.2.1,(a.2.2.2.1,((p.ofNat (p.len a.1)),((0:Int),())))))))) (fun b=>
 opt.ret _ (Sum.inr (Sum.inl (b.1,(b.2.1,(b.2.2.1,())))))) (fun c=>
 opt.bnd ((LD×T18)) _ (some c) fun d=>
 opt.need _ (p.eqN 0 0)<|
 opt.need _ (p.eqN (p.len d.1) (p.len d.1))<|
 opt.ret _ (Sum.inl (d.1,(d.2.1,(d.2.2.1,((p.ar .add .i64 d.2.2.2.1 (1:Int)),()))))))) (
 opt.ret _ (Sum.inr (Sum.inr ()))))
def c27_3 (it:It) (p:Prim):(LD×T50)→Option ((LD×T50)⊕(LD×T18)):=
 fun a=>opt.run _ (
 opt.ask _ (p.cmp .lss a.2.2.2.2.2.2.2.2.2.2.2.2.1 a.2.2.2.2.2.2.2.2.2.2.2.1) (
 opt.need _ (bif (p.cmp .geq a.2.2.2.2.2.2.2.2.2.2.2.2.1 (0:Int)) then (p.cmp .lss a.2.2.2.2.2.2.2.2.2.2.2.2.1 (p.ofNat a.2.2.2.2.2.2.2.2.2.1)) else Bool.false)<|
 opt.need _ (p.rowOk a.1 (p.add a.2.2.2.2.2.2.2.2.1 (p.nat a.2.2.2.2.2.2.2.2.2.2.2.2.1)) [(CK.ref [(CR.list 2),(CR.list 1),(CR.list 2)])])<|
 opt.bnd T22 _ (g63 it p ((p.rdL (p.rdR a.1 (p.add a.2.2.2.2.2.2.2.2.1 (p.nat a.2.2.2.2.2.2.2.2.2.2.2.2.1)) 0) 0 2),(a.2.2.2.2.2.1,()))) fun b=>
 opt.bnd ((LD×T50)) _ (
 opt.run ((LD×T50)) (
 opt.ask _ (bif b.2.2.2.1 then Bool.false else Bool.true) (
 opt.need _ (p.mOk a.2.1 [SK.i,SK.i] Bool.true (D.agg [(D.int .i64 a.2.2.2.2.2.2.2.2.2.2.2.2.1),(D.int .i64 a.2.2.1)]) Bool.false [ci])<|
 opt.ask _ (p.mhas a.2.1 [SK.i,SK.i] Bool.true (D.agg [(D.int .i64 a.2.2.2.2.2.2.2.2.2.2.2.2.1),(D.int .i64 a.2.2.1)])) (
 opt.need _ (p.eqN 0 0)<|
 opt.need _ (p.eqN (p.len a.1) (p.len a.1))<|
 opt.need _ (p.eqN 0 0)<|
 opt.need _ (p.eqN (p.len a.1) (p.len a.1))<|
 opt.ret _ (a.1,((p.mset a.2.1 (p.nat (p.ofNat (p.mpos a.2.1 [SK.i,SK.i] Bool.true (D.agg [(D.int .i64 a.2.2.2.2.2.2.2.2.2.2.2.2.1),(D.int .i64 a.2.2.1)])))) (D.agg [(D.int .i64 a.2.2.2.2.2.2.2.2.2.2.2.2.1),(D.int .i64 a.2.2.1)]) (D.int .i64 (p.ar .add .i64 (p.mI a.2.1 [SK.i,SK.i] Bool.true (D.agg [(D.int .i64 a.2.2.2.2.2.2.2.2.2.2.2.2.1),(D.int .i64 a.2.2.1)]) 0) (1:Int)))),(a.2.2.1,(a.2.2.2.1,(a.2.2.2.2.1,(a.2.2.2.2.2.1,(a.2.2.2.2.2.2.1,(a.2.2.2.2.2.2.2.1,(a.2.2.2.2.2.2.2.2.1,(a.2.2.2.2.2.2.2.2.2.1,(a.2.2.2.2.2.2.2.2.2.2.1,(a.2.2.2.2.2.2.2.2.2.2.2.1,(a.2.2.2.2.2.2.2.2.2.2.2.2.1,())))))))))))))) (
 opt.need _ (p.eqN 0 0)<|
 opt.need _ (p.eqN (p.len a.1) (p.len a.1))<|
 opt.need _ (p.eqN 0 0)<|
 opt.need _ (p.eqN (p.len a.1) (p.len a.1))<|
 opt.ret _ (a.1,((p.madd a.2.1 (D.agg [(D.int .i64 a.2.2.2.2.2.2.2.2.2.2.2.2.1),(D.int .i64 a.2.2.1)]) (D.int .i64 (p.ar .add .i64 (0:Int) (1:Int)))),(a.2.2.1,(a.2.2.2.1,(a.2.2.2.2.1,(a.2.2.2.2.2.1,(a.2.2.2.2.2.2.1,(a.2.2.2.2.2.2.2.1,(a.2.2.2.2.2.2.2.2.1,(a.2.2.2.2.2.2.2.2.2.1,(a.2.2.2.2.2.2.2.2.2.2.1,(a.2.2.2.2.2.2.2.2.2.2.2.1,(a.2.2.2.2.2.2.2.2.2.2.2.2.1,()))))))))))))))) (
 opt.need _ (p.eqN 0 0)<|
 opt.need _ (p.eqN (p.len a.1) (p.len a.1))<|
 opt.need _ (p.eqN 0 0)<|
 opt.need _ (p.eqN (p.len a.1) (p.len a.1))<|
 opt.ret _ (a.1,(a.2.1,(a.2.2.1,(a.2.2.2.1,(a.2.2.2.2.1,(a.2.2.2.2.2.1,(a.2.2.2.2.2.2.1,(a.2.2.2.2.2.2.2.1,(a.2.2.2.2.2.2.2.2.1,(a.2.2.2.2.2.2.2.2.2.1,(a.2.2.2.2.2.2.2.2.2.2.1,(a.2.2.2.2.2.2.2.2.2.2.2.1,(a.2.2.2.2.2.2.2.2.2.2.2.2.1,())))))))))))))))) fun c=>
 opt.need _ (p.eqN 0 0)<|
 opt.need _ (p.eqN (p.len c.1) (p.len c.1))<|
 opt.need _ (p.eqN 0 0)<|
 opt.need _ (p.eqN (p.len c.1) (p.len c.1))<|
 opt.ret _ (Sum.inl (c.1,(c.2.1,(c.2.2.1,(c.2.2.2.1,(c.2.2.2.2.1,(c.2.2.2.2.2.1,(c.2.2.2.2.2.2.1,(c.2.2.2.2.2.2.2.1,(c.2.2.2.2.2.2.2.2.1,(c.2.2.2.2.2.2.2.2.2.1,(c.2.2.2.2.2.2.2.2.2.2.1,(c.2.2.2.2.2.2.2.2.2.2.2.1,((p.ar .add .i64 c.2.2.2.2.2.2.2.2.2.2.2.2.1 (1:Int)),()))))))))))))))) (
 opt.need _ (p.eqN 0 0)<|
 opt.need _ (p.eqN (p.len a.1) (p.len a.1))<|
 opt.need _ (p.eqN 0 0)<|
 opt.need _ (p.eqN (p.len a.1) (p.len a.1))<|
 opt.ret _ (Sum.inr (a.1,(a.2.1,(a.2.2.2.2.2.2.1,(a.2.2.2.2.2.2.2.1,())))))))
def c27_2 (it:It) (p:Prim):(LD×T18)→Option ((LD×T18)⊕(LD×(List ((D×D))×Unit))):=
 fun a=>opt.run _ (
 opt.ask _ (p.cmp .lss a.2.2.2.1 a.2.2.1) (
 opt.need _ (bif (p.cmp .geq a.2.2.2.1 (0:Int)) then (p.cmp .lss a.2.2.2.1 (p.ofNat (p.len a.1))) else Bool.false)<|
 opt.need _ (p.rowOk a.1 (p.add 0 (p.nat a.2.2.2.1)) [(CK.ref [(CR.list 2),(CR.list 1),(CR.list 2)])])<|
 opt.need _ (p.and (p.cmp .geq (0:Int) (0:Int)) (p.and (p.cmp .leq (0:Int) a.2.2.2.1) (p.and (p.cmp .leq a.2.2.2.1 a.2.2.2.1) (p.cmp .leq a.2.2.2.1 (p.ofNat (p.len a.1))))))<|
 opt.need _ (p.eqN 0 0)<|
 opt.need _ (p.eqN (p.len a.1) (p.len a.1))<|
 opt.need _ (p.eqN 0 0)<|
 opt.need _ (p.eqN (p.len a.1) (p.len a.1))<|
 opt.bnd ((LD×T18)) _ (
 it _ _ (c27_3 it p) (a.1,(a.2.1,(a.2.2.2.1,((p.rdL (p.rdR a.1 (p.add 0 (p.nat a.2.2.2.1)) 0) 0 0),((p.rdL (p.rdR a.1 (p.add 0 (p.nat a.2.2.2.1)) 0) 0 1),((p.rdL (p.rdR a.1 (p.add 0 (p.nat a.2.2.2.1)) 0) 0 2),(a.2.2.1,(a.2.2.2.1,((p.add 0 (p.nat (0:Int))),((p.sub (p.nat a.2.2.2.1) (p.nat (0:Int))),((p.sub (p.nat a.2.2.2.1) (p.nat (0:Int))),((p.ofNat (p.sub (p.nat a.2.2.2.1) (p.nat (0:Int)))),((0:Int),())))))))))))))) fun b=>
 opt.need _ (p.eqN 0 0)<|
 opt.need _ (p.eqN (p.len b.1) (p.len b.1))<|
 opt.need _ (p.eqN 0 0)<|
 opt.need _ (p.eqN (p.len b.1) (p.len b.1))<|
 opt.ret _ (Sum.inl (b.1,(b.2.1,(b.2.2.1,((p.ar .add .i64 b.2.2.2.1 (1:Int)),())))))) (
 opt.need _ (p.eqN 0 0)<|
 opt.need _ (p.eqN (p.len a.1) (p.len a.1))<|
 opt.ret _ (Sum.inr (a.1,(a.2.1,())))))
def c27_1 (it:It) (p:Prim):(LD×(LD×T4))→Option ((LD×(LD×T4))⊕((Int×(Int×(Int×Unit)))⊕(LD×Unit))):=
 fun a=>opt.run _ (
 opt.ask _ (p.cmp .lss a.2.2.2.1 a.2.2.1) (
 opt.alt T7 ((LD×(LD×T4))) _ (
 opt.run (((Int×(Int×(Int×Unit)))⊕(LD×(LD×(Int×(Int×Unit)))))) (
 opt.need _ (p.rowOk a.2.1 (p.nat a.2.2.2.1) [(CK.list 2),(CK.list 1)])<|
 opt.need _ (p.cmp .geq a.2.2.2.1 (0:Int))<|
 opt.alt T0 ((LD×(LD×(LD×T1)))) _ (g48 it p ((p.rdL a.2.1 (p.nat a.2.2.2.1) 0),((p.rdL a.2.1 (p.nat a.2.2.2.1) 1),()))) (fun b=>
 opt.ask _ (p.cmp .neq b.1 (0:Int)) (
 opt.ret _ (Sum.inl ((0:Int),((0:Int),(b.1,()))))) (
 opt.no _ 96)) (fun c=>
 opt.bnd ((LD×(LD×(LD×T1)))) _ (some c) fun d=>
 opt.ask _ (p.cmp .neq d.2.2.2.1 (0:Int)) (
 opt.ret _ (Sum.inl ((0:Int),((0:Int),(d.2.2.2.1,()))))) (
 opt.need _ (p.eqN 0 0)<|
 opt.need _ (p.eqN (p.len a.1) (p.len a.1))<|
 opt.need _ (p.and (p.leN (p.add 0 1) (p.len [[(D.ref [(D.list Bool.false 2 d.1),(D.list Bool.false 1 d.2.1),(D.list Bool.false 2 d.2.2.1)])]])) (p.and (p.leN (p.add 0 (p.len a.1)) (p.len a.1)) (p.and (p.leN 1 1) (p.leN (p.add (p.len a.1) 1) 1000000))))<|
 opt.need _ (p.eqN 0 0)<|
 opt.need _ (p.eqN (p.add (p.len a.1) 1) (p.len (p.app (p.cut a.1 0 (p.len a.1)) (p.cut [[(D.ref [(D.list Bool.false 2 d.1),(D.list Bool.false 1 d.2.1),(D.list Bool.false 2 d.2.2.1)])]] 0 1))))<|
 opt.ret _ (Sum.inr ((p.app (p.cut a.1 0 (p.len a.1)) (p.cut [[(D.ref [(D.list Bool.false 2 d.1),(D.list Bool.false 1 d.2.1),(D.list Bool.false 2 d.2.2.1)])]] 0 1)),(a.2.1,(a.2.2.1,(a.2.2.2.1,()))))))))) (fun e=>
 opt.ret _ (Sum.inr (Sum.inl (e.1,(e.2.1,(e.2.2.1,())))))) (fun f=>
 opt.bnd ((LD×(LD×T4))) _ (some f) fun g=>
 opt.need _ (p.eqN 0 0)<|
 opt.need _ (p.eqN (p.len g.1) (p.len g.1))<|
 opt.ret _ (Sum.inl (g.1,(g.2.1,(g.2.2.1,((p.ar .add .i64 g.2.2.2.1 (1:Int)),()))))))) (
 opt.need _ (p.eqN 0 0)<|
 opt.need _ (p.eqN (p.len a.1) (p.len a.1))<|
 opt.ret _ (Sum.inr (Sum.inr (a.1,())))))
def g27 (it:It):(p:Prim)→(LD×Unit)→Option T7:=
 fun p x=>
 opt.ask _ (p.cmp .gtr (p.ofNat (p.len x.1)) (8:Int)) (
 opt.ret _ ((0:Int),((0:Int),((6:Int),())))) (
 opt.alt T7 ((LD×Unit)) _ (
 it _ _ (c27_1 it p) ([],(x.1,((p.ofNat (p.len x.1)),((0:Int),()))))) (fun a=>
 opt.ret _ (a.1,(a.2.1,(a.2.2.1,())))) (fun b=>
 opt.bnd ((LD×Unit)) _ (some b) fun c=>
 opt.need _ (p.eqN 0 0)<|
 opt.need _ (p.eqN (p.len c.1) (p.len c.1))<|
 opt.need _ (p.eqN 0 0)<|
 opt.need _ (p.eqN (p.len c.1) (p.len c.1))<|
 opt.bnd ((LD×(List ((D×D))×Unit))) _ (
 it _ _ (c27_2 it p) (c.1,([],((p.ofNat (p.len c.1)),((0:Int),()))))) fun d=>
 opt.need _ (p.eqN 0 0)<|
 opt.need _ (p.eqN (p.len d.1) (p.len d.1))<|
 opt.alt T7 (Unit) _ (
 it _ _ (c27_4 it p) (d.1,(d.2.1,((p.ofNat (p.len d.1)),((0:Int),()))))) (fun e=>
 opt.ret _ (e.1,(e.2.1,(e.2.2.1,())))) (fun f=>
 opt.bnd (Unit) _ (some f) fun g=>
 opt.ret _ ((0:Int),((0:Int),((5:Int),()))))))
def G27:=g27 it0
theorem ok27:CtrOk PG ctr27 (G27 std):=okF (a:=an27) (l:=la27) (gC ok63 (gC ok48 (gN))) (by kernel_rfl) fun _ _=>by kernel_rfl
end Go.Am
end
noncomputable section
namespace Go.Am
def ctr75:Ctr:=
 ⟨75,[.list 2, .int .i64, .list 1, .int .i64],[],[(.ret,⟨[(0, .agg [.int .i64, .int .i64])],[],1⟩)]⟩
def la75:List LA:=
 [⟨75,[false,true,false,true,true],0,⟨⟨[(0, .list 2),(1, .int .i64),(2, .list 1),(3, .int .i64),(8, .bptr 0 0),(9, .bptr 1 0),(10, .int .i64)],[.box [.int .i64, .int .i64], .box [.int .i64, .int .i64]],52⟩,[((AX.exit 0),⟨[(8, .bptr 0 0),(9, .bptr 1 0)],[.box [.int .i64, .int .i64], .box [.int .i64, .int .i64]],52⟩)]⟩⟩]
def ja75:List JA:=
 [⟨75,[true,false,true,false,false,true,false,false,true,false,true,true],0,[(AX.normal,⟨[(0, .list 2),(1, .int .i64),(2, .list 1),(3, .int .i64),(8, .bptr 0 0),(9, .bptr 1 0),(10, .int .i64),(11, .int .i64)],[.box [.int .i64, .int .i64], .box [.int .i64, .int .i64]],52⟩)]⟩]
def gam75:List CF:=
 []
def an75:Anns:=
 ⟨gam75,ja75,[]⟩
def b75_1 (p:Prim):(Int×(Int×(Int×(Int×(LD×(Int×(LD×(Int×(Int×Unit)))))))))→Option ((Int×(Int×(Int×(Int×(LD×(Int×(LD×(Int×(Int×Unit)))))))))⊕(Int×(Int×(Int×(Int×Unit))))):=
 fun a=>opt.run _ (
 opt.ask _ (p.cmp .lss a.2.2.2.2.2.2.2.2.1 a.2.2.2.2.2.1) (
 opt.bnd T87 _ (
 opt.run T87 (
 opt.ask _ (p.cmp .gtr (p.ofNat (p.len a.2.2.2.2.2.2.1)) (0:Int)) (
 opt.need _ (p.cmp .neq (p.ofNat (p.len a.2.2.2.2.2.2.1)) (0:Int))<|
 opt.need _ (p.rowOk a.2.2.2.2.2.2.1 (p.nat (p.ar .rem .i64 (p.ar .add .i64 a.2.2.2.2.2.2.2.1 a.2.2.2.2.2.2.2.2.1) (p.ofNat (p.len a.2.2.2.2.2.2.1)))) [(CK.int .u8)])<|
 opt.need _ (p.cmp .geq (p.ar .rem .i64 (p.ar .add .i64 a.2.2.2.2.2.2.2.1 a.2.2.2.2.2.2.2.2.1) (p.ofNat (p.len a.2.2.2.2.2.2.1))) (0:Int))<|
 opt.need _ (p.cmp .neq (p.ofNat (p.len a.2.2.2.2.1)) (0:Int))<|
 opt.ret _ (a.1,(a.2.1,(a.2.2.1,(a.2.2.2.1,(a.2.2.2.2.1,(a.2.2.2.2.2.1,(a.2.2.2.2.2.2.1,(a.2.2.2.2.2.2.2.1,(a.2.2.2.2.2.2.2.2.1,((p.ar .rem .i64 (p.cvt .i64 (p.rdI a.2.2.2.2.2.2.1 (p.nat (p.ar .rem .i64 (p.ar .add .i64 a.2.2.2.2.2.2.2.1 a.2.2.2.2.2.2.2.2.1) (p.ofNat (p.len a.2.2.2.2.2.2.1)))) 0)) (p.ofNat (p.len a.2.2.2.2.1))),()))))))))))) (
 opt.ret _ (a.1,(a.2.1,(a.2.2.1,(a.2.2.2.1,(a.2.2.2.2.1,(a.2.2.2.2.2.1,(a.2.2.2.2.2.2.1,(a.2.2.2.2.2.2.2.1,(a.2.2.2.2.2.2.2.2.1,((0:Int),()))))))))))))) fun b=>
 opt.need _ (p.rowOk b.2.2.2.2.1 (p.nat b.2.2.2.2.2.2.2.2.2.1) [ci,ci])<|
 opt.need _ (p.cmp .geq b.2.2.2.2.2.2.2.2.2.1 (0:Int))<|
 opt.need _ (p.rowOk b.2.2.2.2.1 (p.nat b.2.2.2.2.2.2.2.2.2.1) [ci,ci])<|
 opt.need _ (p.cmp .geq b.2.2.2.2.2.2.2.2.2.1 (0:Int))<|
 opt.ret _ (Sum.inl (b.1,(b.2.1,((p.ar .add .i64 b.2.2.1 (p.rdI b.2.2.2.2.1 (p.nat b.2.2.2.2.2.2.2.2.2.1) 0)),((p.ar .add .i64 b.2.2.2.1 (p.rdI b.2.2.2.2.1 (p.nat b.2.2.2.2.2.2.2.2.2.1) 1)),(b.2.2.2.2.1,(b.2.2.2.2.2.1,(b.2.2.2.2.2.2.1,(b.2.2.2.2.2.2.2.1,((p.ar .add .i64 b.2.2.2.2.2.2.2.2.1 (1:Int)),()))))))))))) (
 opt.ret _ (Sum.inr (a.1,(a.2.1,(a.2.2.1,(a.2.2.2.1,())))))))
def g75 (it:It):(p:Prim)→(LD×(Int×(LD×(Int×Unit))))→Option T5:=
 fun p x=>
 opt.bnd T8 _ (
 it _ _ (b75_1 p) ((0:Int),((0:Int),((0:Int),((0:Int),(x.1,(x.2.1,(x.2.2.1,(x.2.2.2.1,((0:Int),())))))))))) fun a=>
 opt.ret _ (a.2.2.1,(a.2.2.2.1,()))
def G75:=g75 it0
theorem ok75:CtrOk PG ctr75 (G75 std):=okF (a:=an75) (l:=la75) (gN) (by kernel_rfl) fun _ _=>by kernel_rfl
def ctr33:Ctr:=
 ⟨33,[.agg [.list 2, .list 1], .int .u8, .list 1],[],[(.ret,⟨[(0, .agg [.int .i64, .int .i64, .int .i64])],[],1⟩)]⟩
def la33:List LA:=
 [⟨33,[false,true,false,true,true,true],0,⟨⟨[(2, .list 1),(3, .bptr 0 0),(6, .bptr 1 0),(7, .int .i64),(8, .bptr 2 0),(9, .int .i64)],[.box [.list 2, .list 1], .box [.int .i64, .int .i64, .int .i64], .box [.int .i64, .int .i64]],57⟩,[((AX.exit 0),⟨[(6, .bptr 0 0),(7, .int .i64),(8, .bptr 1 0)],[.box [.int .i64, .int .i64, .int .i64], .box [.int .i64, .int .i64]],57⟩)]⟩⟩]
def ja33:List JA:=
 []
def gam33:List CF:=
 [⟨ctr75,G75⟩]
def an33:Anns:=
 ⟨gam33,ja33,[]⟩
def c33_1 (it:It) (p:Prim):(LD×(LD×T88))→Option ((LD×(LD×T88))⊕T51):=
 fun a=>opt.run _ (
 opt.ask _ (p.cmp .lss a.2.2.2.2.2.2.2.2.2.1 (p.ofNat (p.len a.2.1))) (
 opt.need _ (p.rowOk a.2.1 (p.nat a.2.2.2.2.2.2.2.2.2.1) [(CK.list 2)])<|
 opt.need _ (p.cmp .geq a.2.2.2.2.2.2.2.2.2.1 (0:Int))<|
 opt.bnd T5 _ (g75 it p ((p.rdL a.2.1 (p.nat a.2.2.2.2.2.2.2.2.2.1) 0),(a.2.2.2.2.2.2.2.2.1,(a.2.2.2.2.2.2.2.1,((p.ar .mul .i64 (p.ar .add .i64 a.2.2.2.2.2.2.2.2.2.1 (1:Int)) a.2.2.2.2.2.2.2.2.1),()))))) fun b=>
 opt.ret _ (Sum.inl (a.1,(a.2.1,(a.2.2.1,(a.2.2.2.1,(a.2.2.2.2.1,((p.ar .add .i64 a.2.2.2.2.2.1 b.1),((p.ar .add .i64 a.2.2.2.2.2.2.1 b.2.1),(a.2.2.2.2.2.2.2.1,(a.2.2.2.2.2.2.2.2.1,((p.ar .add .i64 a.2.2.2.2.2.2.2.2.2.1 (1:Int)),())))))))))))) (
 opt.ret _ (Sum.inr (a.2.2.1,(a.2.2.2.1,(a.2.2.2.2.1,(a.2.2.2.2.2.1,(a.2.2.2.2.2.2.1,(a.2.2.2.2.2.2.2.2.1,())))))))))
def g33 (it:It):(p:Prim)→(LD×(LD×(Int×(LD×Unit))))→Option T7:=
 fun p x=>
 opt.need _ (p.cmp .neq (20:Int) (0:Int))<|
 opt.bnd T5 _ (g75 it p (x.1,((p.ar .add .i64 (1:Int) (p.ar .rem .i64 (p.cvt .i64 x.2.2.1) (20:Int))),(x.2.2.2.1,((0:Int),()))))) fun a=>
 opt.bnd ((Int×(Int×(Int×(Int×(Int×(Int×Unit))))))) _ (
 it _ _ (c33_1 it p) (x.1,(x.2.1,((0:Int),((0:Int),((0:Int),(a.1,(a.2.1,(x.2.2.2.1,((p.ar .add .i64 (1:Int) (p.ar .rem .i64 (p.cvt .i64 x.2.2.1) (20:Int))),((0:Int),()))))))))))) fun b=>
 opt.ret _ (b.2.2.2.1,(b.2.2.2.2.1,(b.2.2.2.2.2.1,())))
def G33:=g33 it0
theorem ok33:CtrOk PG ctr33 (G33 std):=okF (a:=an33) (l:=la33) (gC ok75 (gN)) (by kernel_rfl) fun _ _=>by kernel_rfl
end Go.Am
end
noncomputable section
namespace Go.Am
def ctr15:Ctr:=
 ⟨15,[],[],[(.ret,⟨[(0, .bool)],[],1⟩)]⟩
def la15:List LA:=
 []
def ja15:List JA:=
 [⟨15,[false,false,true,true,true,true,true,true,true,true,true,true,true,true],0,[(AX.normal,⟨[(1, .bptr 0 0),(3, .bptr 1 0),(4, .bptr 2 0),(5, .vec 3 2),(7, .bool),(9, .bptr 4 0),(15, .bptr 5 0),(17, .bptr 6 0),(19, .bptr 7 0),(21, .int .i64),(22, .int .i64),(127, .bool)],[.box [.full 8 2, .full 9 1], .box [.full 10 2, .nils], .box [.full 11 2, .nils], .row [ci,ci], .box [.int .i64, .int .i64], .box [.int .i64, .int .i64, .int .i64], .box [.int .i64, .int .i64, .int .i64], .box [.int .i64, .int .i64], .row [ci,ci], .row [(CK.list 2)], .row [ci,ci], .row [ci,ci]],170⟩)]⟩]
def gam15:List CF:=
 [⟨ctr38,G38⟩,⟨ctr36,G36⟩,⟨ctr20,G20⟩,⟨ctr27,G27⟩,⟨ctr25,G25⟩,⟨ctr37,G37⟩,⟨ctr32,G32⟩,⟨ctr39,G39⟩,⟨ctr23,G23⟩,⟨ctr21,G21⟩,⟨ctr16,G16⟩]
def an15:Anns:=
 ⟨gam15,ja15,[⟨15,[false,true,true],⟨[(1, .bptr 0 0),(2, .bptr 1 0),(3, .bptr 2 0),(4, .bptr 3 0)],[.box [.full 4 2, .full 5 1], .box [.full 6 2, .nils], .box [.full 7 2, .nils], .box [.full 8 2, .nils], .row [ci,ci], .row [(CK.list 2)], .row [ci,ci], .row [ci,ci], .row [ci,ci]],170⟩⟩]⟩
def g15 (it:It):(p:Prim)→Unit→Option T2:=
 fun p x=>
 opt.need _ (p.eqN 0 0)<|
 opt.need _ (p.eqN 3 (p.len [[(D.int .i64 (0:Int)),(D.int .i64 (0:Int))],[(D.int .i64 (4:Int)),(D.int .i64 (0:Int))],[(D.int .i64 (0:Int)),(D.int .i64 (4:Int))]]))<|
 opt.need _ (p.eqN 3 (p.len [[(D.int .i64 (0:Int)),(D.int .i64 (0:Int))],[(D.int .i64 (4:Int)),(D.int .i64 (0:Int))],[(D.int .i64 (0:Int)),(D.int .i64 (4:Int))]]))<|
 opt.need _ (p.eqN 0 0)<|
 opt.need _ (p.eqN 1 (p.len [[(D.list Bool.true 2 [[(D.int .i64 (0:Int)),(D.int .i64 (0:Int))],[(D.int .i64 (1:Int)),(D.int .i64 (0:Int))]])]]))<|
 opt.need _ (p.eqN 1 (p.len [[(D.list Bool.true 2 [[(D.int .i64 (0:Int)),(D.int .i64 (0:Int))],[(D.int .i64 (1:Int)),(D.int .i64 (0:Int))]])]]))<|
 opt.need _ (p.eqN 0 0)<|
 opt.need _ (p.eqN 1 (p.len [[(D.int .i64 (6:Int)),(D.int .i64 (0:Int))]]))<|
 opt.need _ (p.eqN 1 (p.len [[(D.int .i64 (6:Int)),(D.int .i64 (0:Int))]]))<|
 opt.need _ (p.eqN 0 0)<|
 opt.need _ (p.eqN 1 (p.len [[(D.int .i64 (4:Int)),(D.int .i64 (2:Int))]]))<|
 opt.need _ (p.eqN 1 (p.len [[(D.int .i64 (4:Int)),(D.int .i64 (2:Int))]]))<|
 opt.need _ (p.eqN 0 0)<|
 opt.need _ (p.eqN 1 (p.len [[(D.int .i64 (3:Int)),(D.int .i64 (2:Int))]]))<|
 opt.need _ (p.eqN 1 (p.len [[(D.int .i64 (3:Int)),(D.int .i64 (2:Int))]]))<|
 opt.need _ (p.and (p.and (p.leN (p.add 0 (p.len [[(D.int .i64 (0:Int)),(D.int .i64 (0:Int))],[(D.int .i64 (4:Int)),(D.int .i64 (0:Int))],[(D.int .i64 (0:Int)),(D.int .i64 (4:Int))]])) (p.len [[(D.int .i64 (0:Int)),(D.int .i64 (0:Int))],[(D.int .i64 (4:Int)),(D.int .i64 (0:Int))],[(D.int .i64 (0:Int)),(D.int .i64 (4:Int))]])) (p.and (p.leN (p.add 0 (p.len [[(D.list Bool.true 2 [[(D.int .i64 (0:Int)),(D.int .i64 (0:Int))],[(D.int .i64 (1:Int)),(D.int .i64 (0:Int))]])]])) (p.len [[(D.list Bool.true 2 [[(D.int .i64 (0:Int)),(D.int .i64 (0:Int))],[(D.int .i64 (1:Int)),(D.int .i64 (0:Int))]])]])) Bool.true)) Bool.true)<|
 opt.bnd ((LD×T1)) _ (g16 it p ((p.cut [[(D.int .i64 (0:Int)),(D.int .i64 (0:Int))],[(D.int .i64 (4:Int)),(D.int .i64 (0:Int))],[(D.int .i64 (0:Int)),(D.int .i64 (4:Int))]] 0 (p.len [[(D.int .i64 (0:Int)),(D.int .i64 (0:Int))],[(D.int .i64 (4:Int)),(D.int .i64 (0:Int))],[(D.int .i64 (0:Int)),(D.int .i64 (4:Int))]])),((p.cut [[(D.list Bool.true 2 [[(D.int .i64 (0:Int)),(D.int .i64 (0:Int))],[(D.int .i64 (1:Int)),(D.int .i64 (0:Int))]])]] 0 (p.len [[(D.list Bool.true 2 [[(D.int .i64 (0:Int)),(D.int .i64 (0:Int))],[(D.int .i64 (1:Int)),(D.int .i64 (0:Int))]])]])),()))) fun a=>
 opt.need _ (p.plain a.1)<|
 opt.need _ (p.and (p.and (p.leN (p.add 0 (p.len [[(D.int .i64 (0:Int)),(D.int .i64 (0:Int))],[(D.int .i64 (4:Int)),(D.int .i64 (0:Int))],[(D.int .i64 (0:Int)),(D.int .i64 (4:Int))]])) (p.len [[(D.int .i64 (0:Int)),(D.int .i64 (0:Int))],[(D.int .i64 (4:Int)),(D.int .i64 (0:Int))],[(D.int .i64 (0:Int)),(D.int .i64 (4:Int))]])) (p.and (p.leN (p.add 0 (p.len [[(D.list Bool.true 2 [[(D.int .i64 (0:Int)),(D.int .i64 (0:Int))],[(D.int .i64 (1:Int)),(D.int .i64 (0:Int))]])]])) (p.len [[(D.list Bool.true 2 [[(D.int .i64 (0:Int)),(D.int .i64 (0:Int))],[(D.int .i64 (1:Int)),(D.int .i64 (0:Int))]])]])) Bool.true)) (p.and Bool.true Bool.true))<|
 opt.bnd T34 _ (g21 it p ((p.cut [[(D.int .i64 (0:Int)),(D.int .i64 (0:Int))],[(D.int .i64 (4:Int)),(D.int .i64 (0:Int))],[(D.int .i64 (0:Int)),(D.int .i64 (4:Int))]] 0 (p.len [[(D.int .i64 (0:Int)),(D.int .i64 (0:Int))],[(D.int .i64 (4:Int)),(D.int .i64 (0:Int))],[(D.int .i64 (0:Int)),(D.int .i64 (4:Int))]])),((p.cut [[(D.list Bool.true 2 [[(D.int .i64 (0:Int)),(D.int .i64 (0:Int))],[(D.int .i64 (1:Int)),(D.int .i64 (0:Int))]])]] 0 (p.len [[(D.list Bool.true 2 [[(D.int .i64 (0:Int)),(D.int .i64 (0:Int))],[(D.int .i64 (1:Int)),(D.int .i64 (0:Int))]])]])),((3:Int),((2:Int),()))))) fun b=>
 opt.need _ (p.and (p.and (p.leN (p.add 0 (p.len [[(D.int .i64 (0:Int)),(D.int .i64 (0:Int))],[(D.int .i64 (4:Int)),(D.int .i64 (0:Int))],[(D.int .i64 (0:Int)),(D.int .i64 (4:Int))]])) (p.len [[(D.int .i64 (0:Int)),(D.int .i64 (0:Int))],[(D.int .i64 (4:Int)),(D.int .i64 (0:Int))],[(D.int .i64 (0:Int)),(D.int .i64 (4:Int))]])) (p.and (p.leN (p.add 0 (p.len [[(D.list Bool.true 2 [[(D.int .i64 (0:Int)),(D.int .i64 (0:Int))],[(D.int .i64 (1:Int)),(D.int .i64 (0:Int))]])]])) (p.len [[(D.list Bool.true 2 [[(D.int .i64 (0:Int)),(D.int .i64 (0:Int))],[(D.int .i64 (1:Int)),(D.int .i64 (0:Int))]])]])) Bool.true)) (p.and (p.leN (p.add 0 4) (p.len [[(D.int .i64 (0:Int)),(D.int .i64 (0:Int))],[(D.int .i64 (4:Int)),(D.int .i64 (0:Int))],[(D.int .i64 (4:Int)),(D.int .i64 (4:Int))],[(D.int .i64 (0:Int)),(D.int .i64 (4:Int))]])) Bool.true))<|
 opt.bnd T7 _ (g23 it p ((p.cut [[(D.int .i64 (0:Int)),(D.int .i64 (0:Int))],[(D.int .i64 (4:Int)),(D.int .i64 (0:Int))],[(D.int .i64 (0:Int)),(D.int .i64 (4:Int))]] 0 (p.len [[(D.int .i64 (0:Int)),(D.int .i64 (0:Int))],[(D.int .i64 (4:Int)),(D.int .i64 (0:Int))],[(D.int .i64 (0:Int)),(D.int .i64 (4:Int))]])),((p.cut [[(D.list Bool.true 2 [[(D.int .i64 (0:Int)),(D.int .i64 (0:Int))],[(D.int .i64 (1:Int)),(D.int .i64 (0:Int))]])]] 0 (p.len [[(D.list Bool.true 2 [[(D.int .i64 (0:Int)),(D.int .i64 (0:Int))],[(D.int .i64 (1:Int)),(D.int .i64 (0:Int))]])]])),((p.cut [[(D.int .i64 (0:Int)),(D.int .i64 (0:Int))],[(D.int .i64 (4:Int)),(D.int .i64 (0:Int))],[(D.int .i64 (4:Int)),(D.int .i64 (4:Int))],[(D.int .i64 (0:Int)),(D.int .i64 (4:Int))]] 0 4),())))) fun c=>
 opt.need _ (p.and (p.and (p.leN (p.add 0 (p.len [[(D.int .i64 (0:Int)),(D.int .i64 (0:Int))],[(D.int .i64 (4:Int)),(D.int .i64 (0:Int))],[(D.int .i64 (0:Int)),(D.int .i64 (4:Int))]])) (p.len [[(D.int .i64 (0:Int)),(D.int .i64 (0:Int))],[(D.int .i64 (4:Int)),(D.int .i64 (0:Int))],[(D.int .i64 (0:Int)),(D.int .i64 (4:Int))]])) (p.and (p.leN (p.add 0 (p.len [[(D.list Bool.true 2 [[(D.int .i64 (0:Int)),(D.int .i64 (0:Int))],[(D.int .i64 (1:Int)),(D.int .i64 (0:Int))]])]])) (p.len [[(D.list Bool.true 2 [[(D.int .i64 (0:Int)),(D.int .i64 (0:Int))],[(D.int .i64 (1:Int)),(D.int .i64 (0:Int))]])]])) Bool.true)) (p.and (p.and (p.leN (p.add 0 (p.len [[(D.int .i64 (6:Int)),(D.int .i64 (0:Int))]])) (p.len [[(D.int .i64 (6:Int)),(D.int .i64 (0:Int))]])) (p.and Bool.true Bool.true)) (p.and Bool.true Bool.true)))<|
 opt.bnd T0 _ (g39 it p ((p.cut [[(D.int .i64 (0:Int)),(D.int .i64 (0:Int))],[(D.int .i64 (4:Int)),(D.int .i64 (0:Int))],[(D.int .i64 (0:Int)),(D.int .i64 (4:Int))]] 0 (p.len [[(D.int .i64 (0:Int)),(D.int .i64 (0:Int))],[(D.int .i64 (4:Int)),(D.int .i64 (0:Int))],[(D.int .i64 (0:Int)),(D.int .i64 (4:Int))]])),((p.cut [[(D.list Bool.true 2 [[(D.int .i64 (0:Int)),(D.int .i64 (0:Int))],[(D.int .i64 (1:Int)),(D.int .i64 (0:Int))]])]] 0 (p.len [[(D.list Bool.true 2 [[(D.int .i64 (0:Int)),(D.int .i64 (0:Int))],[(D.int .i64 (1:Int)),(D.int .i64 (0:Int))]])]])),((p.cut [[(D.int .i64 (6:Int)),(D.int .i64 (0:Int))]] 0 (p.len [[(D.int .i64 (6:Int)),(D.int .i64 (0:Int))]])),([],((1:Int),((0:Int),((5:Int),())))))))) fun d=>
 opt.need _ (p.and (p.and (p.leN (p.add 0 (p.len [[(D.int .i64 (0:Int)),(D.int .i64 (0:Int))],[(D.int .i64 (4:Int)),(D.int .i64 (0:Int))],[(D.int .i64 (0:Int)),(D.int .i64 (4:Int))]])) (p.len [[(D.int .i64 (0:Int)),(D.int .i64 (0:Int))],[(D.int .i64 (4:Int)),(D.int .i64 (0:Int))],[(D.int .i64 (0:Int)),(D.int .i64 (4:Int))]])) (p.and (p.leN (p.add 0 (p.len [[(D.list Bool.true 2 [[(D.int .i64 (0:Int)),(D.int .i64 (0:Int))],[(D.int .i64 (1:Int)),(D.int .i64 (0:Int))]])]])) (p.len [[(D.list Bool.true 2 [[(D.int .i64 (0:Int)),(D.int .i64 (0:Int))],[(D.int .i64 (1:Int)),(D.int .i64 (0:Int))]])]])) Bool.true)) (p.and (p.and (p.leN (p.add 0 (p.len [[(D.int .i64 (6:Int)),(D.int .i64 (0:Int))]])) (p.len [[(D.int .i64 (6:Int)),(D.int .i64 (0:Int))]])) (p.and Bool.true Bool.true)) (p.and Bool.true Bool.true)))<|
 opt.bnd T0 _ (g39 it p ((p.cut [[(D.int .i64 (0:Int)),(D.int .i64 (0:Int))],[(D.int .i64 (4:Int)),(D.int .i64 (0:Int))],[(D.int .i64 (0:Int)),(D.int .i64 (4:Int))]] 0 (p.len [[(D.int .i64 (0:Int)),(D.int .i64 (0:Int))],[(D.int .i64 (4:Int)),(D.int .i64 (0:Int))],[(D.int .i64 (0:Int)),(D.int .i64 (4:Int))]])),((p.cut [[(D.list Bool.true 2 [[(D.int .i64 (0:Int)),(D.int .i64 (0:Int))],[(D.int .i64 (1:Int)),(D.int .i64 (0:Int))]])]] 0 (p.len [[(D.list Bool.true 2 [[(D.int .i64 (0:Int)),(D.int .i64 (0:Int))],[(D.int .i64 (1:Int)),(D.int .i64 (0:Int))]])]])),((p.cut [[(D.int .i64 (6:Int)),(D.int .i64 (0:Int))]] 0 (p.len [[(D.int .i64 (6:Int)),(D.int .i64 (0:Int))]])),([],((1:Int),((0:Int),((6:Int),())))))))) fun e=>
 opt.need _ (p.and (p.and (p.leN (p.add 0 (p.len [[(D.int .i64 (0:Int)),(D.int .i64 (0:Int))],[(D.int .i64 (4:Int)),(D.int .i64 (0:Int))],[(D.int .i64 (0:Int)),(D.int .i64 (4:Int))]])) (p.len [[(D.int .i64 (0:Int)),(D.int .i64 (0:Int))],[(D.int .i64 (4:Int)),(D.int .i64 (0:Int))],[(D.int .i64 (0:Int)),(D.int .i64 (4:Int))]])) (p.and (p.leN (p.add 0 (p.len [[(D.list Bool.true 2 [[(D.int .i64 (0:Int)),(D.int .i64 (0:Int))],[(D.int .i64 (1:Int)),(D.int .i64 (0:Int))]])]])) (p.len [[(D.list Bool.true 2 [[(D.int .i64 (0:Int)),(D.int .i64 (0:Int))],[(D.int .i64 (1:Int)),(D.int .i64 (0:Int))]])]])) Bool.true)) (p.and (p.and (p.leN (p.add 0 (p.len [[(D.int .i64 (3:Int)),(D.int .i64 (2:Int))]])) (p.len [[(D.int .i64 (3:Int)),(D.int .i64 (2:Int))]])) (p.and Bool.true Bool.true)) Bool.true))<|
 opt.bnd T8 _ (g32 it p ((p.cut [[(D.int .i64 (0:Int)),(D.int .i64 (0:Int))],[(D.int .i64 (4:Int)),(D.int .i64 (0:Int))],[(D.int .i64 (0:Int)),(D.int .i64 (4:Int))]] 0 (p.len [[(D.int .i64 (0:Int)),(D.int .i64 (0:Int))],[(D.int .i64 (4:Int)),(D.int .i64 (0:Int))],[(D.int .i64 (0:Int)),(D.int .i64 (4:Int))]])),((p.cut [[(D.list Bool.true 2 [[(D.int .i64 (0:Int)),(D.int .i64 (0:Int))],[(D.int .i64 (1:Int)),(D.int .i64 (0:Int))]])]] 0 (p.len [[(D.list Bool.true 2 [[(D.int .i64 (0:Int)),(D.int .i64 (0:Int))],[(D.int .i64 (1:Int)),(D.int .i64 (0:Int))]])]])),((p.cut [[(D.int .i64 (3:Int)),(D.int .i64 (2:Int))]] 0 (p.len [[(D.int .i64 (3:Int)),(D.int .i64 (2:Int))]])),([],()))))) fun f=>
 opt.need _ (p.and (p.and (p.leN (p.add 0 (p.len [[(D.int .i64 (0:Int)),(D.int .i64 (0:Int))],[(D.int .i64 (4:Int)),(D.int .i64 (0:Int))],[(D.int .i64 (0:Int)),(D.int .i64 (4:Int))]])) (p.len [[(D.int .i64 (0:Int)),(D.int .i64 (0:Int))],[(D.int .i64 (4:Int)),(D.int .i64 (0:Int))],[(D.int .i64 (0:Int)),(D.int .i64 (4:Int))]])) (p.and (p.leN (p.add 0 (p.len [[(D.list Bool.true 2 [[(D.int .i64 (0:Int)),(D.int .i64 (0:Int))],[(D.int .i64 (1:Int)),(D.int .i64 (0:Int))]])]])) (p.len [[(D.list Bool.true 2 [[(D.int .i64 (0:Int)),(D.int .i64 (0:Int))],[(D.int .i64 (1:Int)),(D.int .i64 (0:Int))]])]])) Bool.true)) (p.and (p.and (p.leN (p.add 0 (p.len [[(D.int .i64 (4:Int)),(D.int .i64 (2:Int))]])) (p.len [[(D.int .i64 (4:Int)),(D.int .i64 (2:Int))]])) (p.and Bool.true Bool.true)) Bool.true))<|
 opt.bnd T8 _ (g32 it p ((p.cut [[(D.int .i64 (0:Int)),(D.int .i64 (0:Int))],[(D.int .i64 (4:Int)),(D.int .i64 (0:Int))],[(D.int .i64 (0:Int)),(D.int .i64 (4:Int))]] 0 (p.len [[(D.int .i64 (0:Int)),(D.int .i64 (0:Int))],[(D.int .i64 (4:Int)),(D.int .i64 (0:Int))],[(D.int .i64 (0:Int)),(D.int .i64 (4:Int))]])),((p.cut [[(D.list Bool.true 2 [[(D.int .i64 (0:Int)),(D.int .i64 (0:Int))],[(D.int .i64 (1:Int)),(D.int .i64 (0:Int))]])]] 0 (p.len [[(D.list Bool.true 2 [[(D.int .i64 (0:Int)),(D.int .i64 (0:Int))],[(D.int .i64 (1:Int)),(D.int .i64 (0:Int))]])]])),((p.cut [[(D.int .i64 (4:Int)),(D.int .i64 (2:Int))]] 0 (p.len [[(D.int .i64 (4:Int)),(D.int .i64 (2:Int))]])),([],()))))) fun g=>
 opt.need _ (p.and (p.and (p.leN (p.add 0 (p.len [[(D.int .i64 (0:Int)),(D.int .i64 (0:Int))],[(D.int .i64 (4:Int)),(D.int .i64 (0:Int))],[(D.int .i64 (0:Int)),(D.int .i64 (4:Int))]])) (p.len [[(D.int .i64 (0:Int)),(D.int .i64 (0:Int))],[(D.int .i64 (4:Int)),(D.int .i64 (0:Int))],[(D.int .i64 (0:Int)),(D.int .i64 (4:Int))]])) (p.and (p.leN (p.add 0 (p.len [[(D.list Bool.true 2 [[(D.int .i64 (0:Int)),(D.int .i64 (0:Int))],[(D.int .i64 (1:Int)),(D.int .i64 (0:Int))]])]])) (p.len [[(D.list Bool.true 2 [[(D.int .i64 (0:Int)),(D.int .i64 (0:Int))],[(D.int .i64 (1:Int)),(D.int .i64 (0:Int))]])]])) Bool.true)) (p.and (p.and (p.leN (p.add 0 (p.len [[(D.int .i64 (3:Int)),(D.int .i64 (2:Int))]])) (p.len [[(D.int .i64 (3:Int)),(D.int .i64 (2:Int))]])) (p.and Bool.true Bool.true)) Bool.true))<|
 opt.bnd T8 _ (g37 it p ((p.cut [[(D.int .i64 (0:Int)),(D.int .i64 (0:Int))],[(D.int .i64 (4:Int)),(D.int .i64 (0:Int))],[(D.int .i64 (0:Int)),(D.int .i64 (4:Int))]] 0 (p.len [[(D.int .i64 (0:Int)),(D.int .i64 (0:Int))],[(D.int .i64 (4:Int)),(D.int .i64 (0:Int))],[(D.int .i64 (0:Int)),(D.int .i64 (4:Int))]])),((p.cut [[(D.list Bool.true 2 [[(D.int .i64 (0:Int)),(D.int .i64 (0:Int))],[(D.int .i64 (1:Int)),(D.int .i64 (0:Int))]])]] 0 (p.len [[(D.list Bool.true 2 [[(D.int .i64 (0:Int)),(D.int .i64 (0:Int))],[(D.int .i64 (1:Int)),(D.int .i64 (0:Int))]])]])),((p.cut [[(D.int .i64 (3:Int)),(D.int .i64 (2:Int))]] 0 (p.len [[(D.int .i64 (3:Int)),(D.int .i64 (2:Int))]])),([],()))))) fun h=>
 opt.need _ (p.and (p.and (p.leN (p.add 0 (p.len [[(D.int .i64 (0:Int)),(D.int .i64 (0:Int))],[(D.int .i64 (4:Int)),(D.int .i64 (0:Int))],[(D.int .i64 (0:Int)),(D.int .i64 (4:Int))]])) (p.len [[(D.int .i64 (0:Int)),(D.int .i64 (0:Int))],[(D.int .i64 (4:Int)),(D.int .i64 (0:Int))],[(D.int .i64 (0:Int)),(D.int .i64 (4:Int))]])) (p.and (p.leN (p.add 0 (p.len [[(D.list Bool.true 2 [[(D.int .i64 (0:Int)),(D.int .i64 (0:Int))],[(D.int .i64 (1:Int)),(D.int .i64 (0:Int))]])]])) (p.len [[(D.list Bool.true 2 [[(D.int .i64 (0:Int)),(D.int .i64 (0:Int))],[(D.int .i64 (1:Int)),(D.int .i64 (0:Int))]])]])) Bool.true)) (p.and (p.and (p.leN (p.add 0 (p.len [[(D.int .i64 (4:Int)),(D.int .i64 (2:Int))]])) (p.len [[(D.int .i64 (4:Int)),(D.int .i64 (2:Int))]])) (p.and Bool.true Bool.true)) Bool.true))<|
 opt.bnd T7 _ (g25 it p ((p.cut [[(D.int .i64 (0:Int)),(D.int .i64 (0:Int))],[(D.int .i64 (4:Int)),(D.int .i64 (0:Int))],[(D.int .i64 (0:Int)),(D.int .i64 (4:Int))]] 0 (p.len [[(D.int .i64 (0:Int)),(D.int .i64 (0:Int))],[(D.int .i64 (4:Int)),(D.int .i64 (0:Int))],[(D.int .i64 (0:Int)),(D.int .i64 (4:Int))]])),((p.cut [[(D.list Bool.true 2 [[(D.int .i64 (0:Int)),(D.int .i64 (0:Int))],[(D.int .i64 (1:Int)),(D.int .i64 (0:Int))]])]] 0 (p.len [[(D.list Bool.true 2 [[(D.int .i64 (0:Int)),(D.int .i64 (0:Int))],[(D.int .i64 (1:Int)),(D.int .i64 (0:Int))]])]])),((p.cut [[(D.int .i64 (4:Int)),(D.int .i64 (2:Int))]] 0 (p.len [[(D.int .i64 (4:Int)),(D.int .i64 (2:Int))]])),([],()))))) fun i=>
 opt.need _ (p.and (bif (bif (p.leN (p.add 0 (p.len [[(D.int .i64 (0:Int)),(D.int .i64 (0:Int))],[(D.int .i64 (4:Int)),(D.int .i64 (0:Int))],[(D.int .i64 (0:Int)),(D.int .i64 (4:Int))]])) (p.len [[(D.int .i64 (0:Int)),(D.int .i64 (0:Int))],[(D.int .i64 (4:Int)),(D.int .i64 (0:Int))],[(D.int .i64 (0:Int)),(D.int .i64 (4:Int))]])) then (bif (p.leN (p.add 0 (p.len [[(D.list Bool.true 2 [[(D.int .i64 (0:Int)),(D.int .i64 (0:Int))],[(D.int .i64 (1:Int)),(D.int .i64 (0:Int))]])]])) (p.len [[(D.list Bool.true 2 [[(D.int .i64 (0:Int)),(D.int .i64 (0:Int))],[(D.int .i64 (1:Int)),(D.int .i64 (0:Int))]])]])) then Bool.true else Bool.false) else Bool.false) then (bif (bif (p.leN (p.add 0 (p.len [[(D.int .i64 (4:Int)),(D.int .i64 (2:Int))]])) (p.len [[(D.int .i64 (4:Int)),(D.int .i64 (2:Int))]])) then Bool.true else Bool.false) then (bif (bif (p.leN (p.add 0 (p.len [[(D.int .i64 (3:Int)),(D.int .i64 (2:Int))]])) (p.len [[(D.int .i64 (3:Int)),(D.int .i64 (2:Int))]])) then Bool.true else Bool.false) then Bool.true else Bool.false) else Bool.false) else Bool.false) Bool.true)<|
 opt.bnd T7 _ (g27 it p ([[(D.list Bool.false 2 (p.cut [[(D.int .i64 (0:Int)),(D.int .i64 (0:Int))],[(D.int .i64 (4:Int)),(D.int .i64 (0:Int))],[(D.int .i64 (0:Int)),(D.int .i64 (4:Int))]] 0 (p.len [[(D.int .i64 (0:Int)),(D.int .i64 (0:Int))],[(D.int .i64 (4:Int)),(D.int .i64 (0:Int))],[(D.int .i64 (0:Int)),(D.int .i64 (4:Int))]]))),(D.list Bool.false 1 (p.cut [[(D.list Bool.true 2 [[(D.int .i64 (0:Int)),(D.int .i64 (0:Int))],[(D.int .i64 (1:Int)),(D.int .i64 (0:Int))]])]] 0 (p.len [[(D.list Bool.true 2 [[(D.int .i64 (0:Int)),(D.int .i64 (0:Int))],[(D.int .i64 (1:Int)),(D.int .i64 (0:Int))]])]])))],[(D.list Bool.false 2 (p.cut [[(D.int .i64 (4:Int)),(D.int .i64 (2:Int))]] 0 (p.len [[(D.int .i64 (4:Int)),(D.int .i64 (2:Int))]]))),(D.list Bool.true 0 [])],[(D.list Bool.false 2 (p.cut [[(D.int .i64 (3:Int)),(D.int .i64 (2:Int))]] 0 (p.len [[(D.int .i64 (3:Int)),(D.int .i64 (2:Int))]]))),(D.list Bool.true 0 [])]],())) fun j=>
 opt.bnd ((LD×(LD×(LD×(LD×(LD×T89)))))) _ (
 opt.run ((LD×(LD×(LD×(LD×(LD×T89)))))) (
 opt.ask _ (p.cmp .neq a.2.1 (0:Int)) (
 opt.need _ (p.eqN 0 0)<|
 opt.need _ (p.eqN (p.len [[(D.int .i64 (0:Int)),(D.int .i64 (0:Int))],[(D.int .i64 (4:Int)),(D.int .i64 (0:Int))],[(D.int .i64 (0:Int)),(D.int .i64 (4:Int))]]) (p.len [[(D.int .i64 (0:Int)),(D.int .i64 (0:Int))],[(D.int .i64 (4:Int)),(D.int .i64 (0:Int))],[(D.int .i64 (0:Int)),(D.int .i64 (4:Int))]]))<|
 opt.need _ (p.eqN (p.len [[(D.int .i64 (0:Int)),(D.int .i64 (0:Int))],[(D.int .i64 (4:Int)),(D.int .i64 (0:Int))],[(D.int .i64 (0:Int)),(D.int .i64 (4:Int))]]) (p.len [[(D.int .i64 (0:Int)),(D.int .i64 (0:Int))],[(D.int .i64 (4:Int)),(D.int .i64 (0:Int))],[(D.int .i64 (0:Int)),(D.int .i64 (4:Int))]]))<|
 opt.need _ (p.eqN 0 0)<|
 opt.need _ (p.eqN (p.len [[(D.list Bool.true 2 [[(D.int .i64 (0:Int)),(D.int .i64 (0:Int))],[(D.int .i64 (1:Int)),(D.int .i64 (0:Int))]])]]) (p.len [[(D.list Bool.true 2 [[(D.int .i64 (0:Int)),(D.int .i64 (0:Int))],[(D.int .i64 (1:Int)),(D.int .i64 (0:Int))]])]]))<|
 opt.need _ (p.eqN (p.len [[(D.list Bool.true 2 [[(D.int .i64 (0:Int)),(D.int .i64 (0:Int))],[(D.int .i64 (1:Int)),(D.int .i64 (0:Int))]])]]) (p.len [[(D.list Bool.true 2 [[(D.int .i64 (0:Int)),(D.int .i64 (0:Int))],[(D.int .i64 (1:Int)),(D.int .i64 (0:Int))]])]]))<|
 opt.need _ (p.eqN 0 0)<|
 opt.need _ (p.eqN (p.len [[(D.int .i64 (4:Int)),(D.int .i64 (2:Int))]]) (p.len [[(D.int .i64 (4:Int)),(D.int .i64 (2:Int))]]))<|
 opt.need _ (p.eqN (p.len [[(D.int .i64 (4:Int)),(D.int .i64 (2:Int))]]) (p.len [[(D.int .i64 (4:Int)),(D.int .i64 (2:Int))]]))<|
 opt.need _ (p.eqN 0 0)<|
 opt.need _ (p.eqN (p.len [[(D.int .i64 (3:Int)),(D.int .i64 (2:Int))]]) (p.len [[(D.int .i64 (3:Int)),(D.int .i64 (2:Int))]]))<|
 opt.need _ (p.eqN (p.len [[(D.int .i64 (3:Int)),(D.int .i64 (2:Int))]]) (p.len [[(D.int .i64 (3:Int)),(D.int .i64 (2:Int))]]))<|
 opt.need _ (p.eqN 0 0)<|
 opt.need _ (p.eqN (p.len a.1) (p.len a.1))<|
 opt.ret _ (a.1,([[(D.int .i64 (0:Int)),(D.int .i64 (0:Int))],[(D.int .i64 (4:Int)),(D.int .i64 (0:Int))],[(D.int .i64 (0:Int)),(D.int .i64 (4:Int))]],([[(D.list Bool.true 2 [[(D.int .i64 (0:Int)),(D.int .i64 (0:Int))],[(D.int .i64 (1:Int)),(D.int .i64 (0:Int))]])]],([[(D.int .i64 (4:Int)),(D.int .i64 (2:Int))]],([[(D.int .i64 (3:Int)),(D.int .i64 (2:Int))]],(c.1,(c.2.1,(g.1,(g.2.1,(g.2.2.1,(h.1,(h.2.1,(h.2.2.1,(i.1,(i.2.1,(b.1,(j.1,(j.2.1,(Bool.true,())))))))))))))))))))) (
 opt.ask _ (p.cmp .neq b.2.1 (0:Int)) (
 opt.need _ (p.eqN 0 0)<|
 opt.need _ (p.eqN (p.len [[(D.int .i64 (0:Int)),(D.int .i64 (0:Int))],[(D.int .i64 (4:Int)),(D.int .i64 (0:Int))],[(D.int .i64 (0:Int)),(D.int .i64 (4:Int))]]) (p.len [[(D.int .i64 (0:Int)),(D.int .i64 (0:Int))],[(D.int .i64 (4:Int)),(D.int .i64 (0:Int))],[(D.int .i64 (0:Int)),(D.int .i64 (4:Int))]]))<|
 opt.need _ (p.eqN (p.len [[(D.int .i64 (0:Int)),(D.int .i64 (0:Int))],[(D.int .i64 (4:Int)),(D.int .i64 (0:Int))],[(D.int .i64 (0:Int)),(D.int .i64 (4:Int))]]) (p.len [[(D.int .i64 (0:Int)),(D.int .i64 (0:Int))],[(D.int .i64 (4:Int)),(D.int .i64 (0:Int))],[(D.int .i64 (0:Int)),(D.int .i64 (4:Int))]]))<|
 opt.need _ (p.eqN 0 0)<|
 opt.need _ (p.eqN (p.len [[(D.list Bool.true 2 [[(D.int .i64 (0:Int)),(D.int .i64 (0:Int))],[(D.int .i64 (1:Int)),(D.int .i64 (0:Int))]])]]) (p.len [[(D.list Bool.true 2 [[(D.int .i64 (0:Int)),(D.int .i64 (0:Int))],[(D.int .i64 (1:Int)),(D.int .i64 (0:Int))]])]]))<|
 opt.need _ (p.eqN (p.len [[(D.list Bool.true 2 [[(D.int .i64 (0:Int)),(D.int .i64 (0:Int))],[(D.int .i64 (1:Int)),(D.int .i64 (0:Int))]])]]) (p.len [[(D.list Bool.true 2 [[(D.int .i64 (0:Int)),(D.int .i64 (0:Int))],[(D.int .i64 (1:Int)),(D.int .i64 (0:Int))]])]]))<|
 opt.need _ (p.eqN 0 0)<|
 opt.need _ (p.eqN (p.len [[(D.int .i64 (4:Int)),(D.int .i64 (2:Int))]]) (p.len [[(D.int .i64 (4:Int)),(D.int .i64 (2:Int))]]))<|
 opt.need _ (p.eqN (p.len [[(D.int .i64 (4:Int)),(D.int .i64 (2:Int))]]) (p.len [[(D.int .i64 (4:Int)),(D.int .i64 (2:Int))]]))<|
 opt.need _ (p.eqN 0 0)<|
 opt.need _ (p.eqN (p.len [[(D.int .i64 (3:Int)),(D.int .i64 (2:Int))]]) (p.len [[(D.int .i64 (3:Int)),(D.int .i64 (2:Int))]]))<|
 opt.need _ (p.eqN (p.len [[(D.int .i64 (3:Int)),(D.int .i64 (2:Int))]]) (p.len [[(D.int .i64 (3:Int)),(D.int .i64 (2:Int))]]))<|
 opt.need _ (p.eqN 0 0)<|
 opt.need _ (p.eqN (p.len a.1) (p.len a.1))<|
 opt.ret _ (a.1,([[(D.int .i64 (0:Int)),(D.int .i64 (0:Int))],[(D.int .i64 (4:Int)),(D.int .i64 (0:Int))],[(D.int .i64 (0:Int)),(D.int .i64 (4:Int))]],([[(D.list Bool.true 2 [[(D.int .i64 (0:Int)),(D.int .i64 (0:Int))],[(D.int .i64 (1:Int)),(D.int .i64 (0:Int))]])]],([[(D.int .i64 (4:Int)),(D.int .i64 (2:Int))]],([[(D.int .i64 (3:Int)),(D.int .i64 (2:Int))]],(c.1,(c.2.1,(g.1,(g.2.1,(g.2.2.1,(h.1,(h.2.1,(h.2.2.1,(i.1,(i.2.1,(b.1,(j.1,(j.2.1,(Bool.true,())))))))))))))))))))) (
 opt.ask _ (p.cmp .neq c.2.2.1 (0:Int)) (
 opt.need _ (p.eqN 0 0)<|
 opt.need _ (p.eqN (p.len [[(D.int .i64 (0:Int)),(D.int .i64 (0:Int))],[(D.int .i64 (4:Int)),(D.int .i64 (0:Int))],[(D.int .i64 (0:Int)),(D.int .i64 (4:Int))]]) (p.len [[(D.int .i64 (0:Int)),(D.int .i64 (0:Int))],[(D.int .i64 (4:Int)),(D.int .i64 (0:Int))],[(D.int .i64 (0:Int)),(D.int .i64 (4:Int))]]))<|
 opt.need _ (p.eqN (p.len [[(D.int .i64 (0:Int)),(D.int .i64 (0:Int))],[(D.int .i64 (4:Int)),(D.int .i64 (0:Int))],[(D.int .i64 (0:Int)),(D.int .i64 (4:Int))]]) (p.len [[(D.int .i64 (0:Int)),(D.int .i64 (0:Int))],[(D.int .i64 (4:Int)),(D.int .i64 (0:Int))],[(D.int .i64 (0:Int)),(D.int .i64 (4:Int))]]))<|
 opt.need _ (p.eqN 0 0)<|
 opt.need _ (p.eqN (p.len [[(D.list Bool.true 2 [[(D.int .i64 (0:Int)),(D.int .i64 (0:Int))],[(D.int .i64 (1:Int)),(D.int .i64 (0:Int))]])]]) (p.len [[(D.list Bool.true 2 [[(D.int .i64 (0:Int)),(D.int .i64 (0:Int))],[(D.int .i64 (1:Int)),(D.int .i64 (0:Int))]])]]))<|
 opt.need _ (p.eqN (p.len [[(D.list Bool.true 2 [[(D.int .i64 (0:Int)),(D.int .i64 (0:Int))],[(D.int .i64 (1:Int)),(D.int .i64 (0:Int))]])]]) (p.len [[(D.list Bool.true 2 [[(D.int .i64 (0:Int)),(D.int .i64 (0:Int))],[(D.int .i64 (1:Int)),(D.int .i64 (0:Int))]])]]))<|
 opt.need _ (p.eqN 0 0)<|
 opt.need _ (p.eqN (p.len [[(D.int .i64 (4:Int)),(D.int .i64 (2:Int))]]) (p.len [[(D.int .i64 (4:Int)),(D.int .i64 (2:Int))]]))<|
 opt.need _ (p.eqN (p.len [[(D.int .i64 (4:Int)),(D.int .i64 (2:Int))]]) (p.len [[(D.int .i64 (4:Int)),(D.int .i64 (2:Int))]]))<|
 opt.need _ (p.eqN 0 0)<|
 opt.need _ (p.eqN (p.len [[(D.int .i64 (3:Int)),(D.int .i64 (2:Int))]]) (p.len [[(D.int .i64 (3:Int)),(D.int .i64 (2:Int))]]))<|
 opt.need _ (p.eqN (p.len [[(D.int .i64 (3:Int)),(D.int .i64 (2:Int))]]) (p.len [[(D.int .i64 (3:Int)),(D.int .i64 (2:Int))]]))<|
 opt.need _ (p.eqN 0 0)<|
 opt.need _ (p.eqN (p.len a.1) (p.len a.1))<|
 opt.ret _ (a.1,([[(D.int .i64 (0:Int)),(D.int .i64 (0:Int))],[(D.int .i64 (4:Int)),(D.int .i64 (0:Int))],[(D.int .i64 (0:Int)),(D.int .i64 (4:Int))]],([[(D.list Bool.true 2 [[(D.int .i64 (0:Int)),(D.int .i64 (0:Int))],[(D.int .i64 (1:Int)),(D.int .i64 (0:Int))]])]],([[(D.int .i64 (4:Int)),(D.int .i64 (2:Int))]],([[(D.int .i64 (3:Int)),(D.int .i64 (2:Int))]],(c.1,(c.2.1,(g.1,(g.2.1,(g.2.2.1,(h.1,(h.2.1,(h.2.2.1,(i.1,(i.2.1,(b.1,(j.1,(j.2.1,(Bool.true,())))))))))))))))))))) (
 opt.ask _ (p.cmp .neq d.1 (0:Int)) (
 opt.need _ (p.eqN 0 0)<|
 opt.need _ (p.eqN (p.len [[(D.int .i64 (0:Int)),(D.int .i64 (0:Int))],[(D.int .i64 (4:Int)),(D.int .i64 (0:Int))],[(D.int .i64 (0:Int)),(D.int .i64 (4:Int))]]) (p.len [[(D.int .i64 (0:Int)),(D.int .i64 (0:Int))],[(D.int .i64 (4:Int)),(D.int .i64 (0:Int))],[(D.int .i64 (0:Int)),(D.int .i64 (4:Int))]]))<|
 opt.need _ (p.eqN (p.len [[(D.int .i64 (0:Int)),(D.int .i64 (0:Int))],[(D.int .i64 (4:Int)),(D.int .i64 (0:Int))],[(D.int .i64 (0:Int)),(D.int .i64 (4:Int))]]) (p.len [[(D.int .i64 (0:Int)),(D.int .i64 (0:Int))],[(D.int .i64 (4:Int)),(D.int .i64 (0:Int))],[(D.int .i64 (0:Int)),(D.int .i64 (4:Int))]]))<|
 opt.need _ (p.eqN 0 0)<|
 opt.need _ (p.eqN (p.len [[(D.list Bool.true 2 [[(D.int .i64 (0:Int)),(D.int .i64 (0:Int))],[(D.int .i64 (1:Int)),(D.int .i64 (0:Int))]])]]) (p.len [[(D.list Bool.true 2 [[(D.int .i64 (0:Int)),(D.int .i64 (0:Int))],[(D.int .i64 (1:Int)),(D.int .i64 (0:Int))]])]]))<|
 opt.need _ (p.eqN (p.len [[(D.list Bool.true 2 [[(D.int .i64 (0:Int)),(D.int .i64 (0:Int))],[(D.int .i64 (1:Int)),(D.int .i64 (0:Int))]])]]) (p.len [[(D.list Bool.true 2 [[(D.int .i64 (0:Int)),(D.int .i64 (0:Int))],[(D.int .i64 (1:Int)),(D.int .i64 (0:Int))]])]]))<|
 opt.need _ (p.eqN 0 0)<|
 opt.need _ (p.eqN (p.len [[(D.int .i64 (4:Int)),(D.int .i64 (2:Int))]]) (p.len [[(D.int .i64 (4:Int)),(D.int .i64 (2:Int))]]))<|
 opt.need _ (p.eqN (p.len [[(D.int .i64 (4:Int)),(D.int .i64 (2:Int))]]) (p.len [[(D.int .i64 (4:Int)),(D.int .i64 (2:Int))]]))<|
 opt.need _ (p.eqN 0 0)<|
 opt.need _ (p.eqN (p.len [[(D.int .i64 (3:Int)),(D.int .i64 (2:Int))]]) (p.len [[(D.int .i64 (3:Int)),(D.int .i64 (2:Int))]]))<|
 opt.need _ (p.eqN (p.len [[(D.int .i64 (3:Int)),(D.int .i64 (2:Int))]]) (p.len [[(D.int .i64 (3:Int)),(D.int .i64 (2:Int))]]))<|
 opt.need _ (p.eqN 0 0)<|
 opt.need _ (p.eqN (p.len a.1) (p.len a.1))<|
 opt.ret _ (a.1,([[(D.int .i64 (0:Int)),(D.int .i64 (0:Int))],[(D.int .i64 (4:Int)),(D.int .i64 (0:Int))],[(D.int .i64 (0:Int)),(D.int .i64 (4:Int))]],([[(D.list Bool.true 2 [[(D.int .i64 (0:Int)),(D.int .i64 (0:Int))],[(D.int .i64 (1:Int)),(D.int .i64 (0:Int))]])]],([[(D.int .i64 (4:Int)),(D.int .i64 (2:Int))]],([[(D.int .i64 (3:Int)),(D.int .i64 (2:Int))]],(c.1,(c.2.1,(g.1,(g.2.1,(g.2.2.1,(h.1,(h.2.1,(h.2.2.1,(i.1,(i.2.1,(b.1,(j.1,(j.2.1,(Bool.true,())))))))))))))))))))) (
 opt.ask _ (p.cmp .neq e.1 (14:Int)) (
 opt.need _ (p.eqN 0 0)<|
 opt.need _ (p.eqN (p.len [[(D.int .i64 (0:Int)),(D.int .i64 (0:Int))],[(D.int .i64 (4:Int)),(D.int .i64 (0:Int))],[(D.int .i64 (0:Int)),(D.int .i64 (4:Int))]]) (p.len [[(D.int .i64 (0:Int)),(D.int .i64 (0:Int))],[(D.int .i64 (4:Int)),(D.int .i64 (0:Int))],[(D.int .i64 (0:Int)),(D.int .i64 (4:Int))]]))<|
 opt.need _ (p.eqN (p.len [[(D.int .i64 (0:Int)),(D.int .i64 (0:Int))],[(D.int .i64 (4:Int)),(D.int .i64 (0:Int))],[(D.int .i64 (0:Int)),(D.int .i64 (4:Int))]]) (p.len [[(D.int .i64 (0:Int)),(D.int .i64 (0:Int))],[(D.int .i64 (4:Int)),(D.int .i64 (0:Int))],[(D.int .i64 (0:Int)),(D.int .i64 (4:Int))]]))<|
 opt.need _ (p.eqN 0 0)<|
 opt.need _ (p.eqN (p.len [[(D.list Bool.true 2 [[(D.int .i64 (0:Int)),(D.int .i64 (0:Int))],[(D.int .i64 (1:Int)),(D.int .i64 (0:Int))]])]]) (p.len [[(D.list Bool.true 2 [[(D.int .i64 (0:Int)),(D.int .i64 (0:Int))],[(D.int .i64 (1:Int)),(D.int .i64 (0:Int))]])]]))<|
 opt.need _ (p.eqN (p.len [[(D.list Bool.true 2 [[(D.int .i64 (0:Int)),(D.int .i64 (0:Int))],[(D.int .i64 (1:Int)),(D.int .i64 (0:Int))]])]]) (p.len [[(D.list Bool.true 2 [[(D.int .i64 (0:Int)),(D.int .i64 (0:Int))],[(D.int .i64 (1:Int)),(D.int .i64 (0:Int))]])]]))<|
 opt.need _ (p.eqN 0 0)<|
 opt.need _ (p.eqN (p.len [[(D.int .i64 (4:Int)),(D.int .i64 (2:Int))]]) (p.len [[(D.int .i64 (4:Int)),(D.int .i64 (2:Int))]]))<|
 opt.need _ (p.eqN (p.len [[(D.int .i64 (4:Int)),(D.int .i64 (2:Int))]]) (p.len [[(D.int .i64 (4:Int)),(D.int .i64 (2:Int))]]))<|
 opt.need _ (p.eqN 0 0)<|
 opt.need _ (p.eqN (p.len [[(D.int .i64 (3:Int)),(D.int .i64 (2:Int))]]) (p.len [[(D.int .i64 (3:Int)),(D.int .i64 (2:Int))]]))<|
 opt.need _ (p.eqN (p.len [[(D.int .i64 (3:Int)),(D.int .i64 (2:Int))]]) (p.len [[(D.int .i64 (3:Int)),(D.int .i64 (2:Int))]]))<|
 opt.need _ (p.eqN 0 0)<|
 opt.need _ (p.eqN (p.len a.1) (p.len a.1))<|
 opt.ret _ (a.1,([[(D.int .i64 (0:Int)),(D.int .i64 (0:Int))],[(D.int .i64 (4:Int)),(D.int .i64 (0:Int))],[(D.int .i64 (0:Int)),(D.int .i64 (4:Int))]],([[(D.list Bool.true 2 [[(D.int .i64 (0:Int)),(D.int .i64 (0:Int))],[(D.int .i64 (1:Int)),(D.int .i64 (0:Int))]])]],([[(D.int .i64 (4:Int)),(D.int .i64 (2:Int))]],([[(D.int .i64 (3:Int)),(D.int .i64 (2:Int))]],(c.1,(c.2.1,(g.1,(g.2.1,(g.2.2.1,(h.1,(h.2.1,(h.2.2.1,(i.1,(i.2.1,(b.1,(j.1,(j.2.1,(Bool.true,())))))))))))))))))))) (
 opt.ask _ (p.cmp .neq f.2.2.2.1 (21:Int)) (
 opt.need _ (p.eqN 0 0)<|
 opt.need _ (p.eqN (p.len [[(D.int .i64 (0:Int)),(D.int .i64 (0:Int))],[(D.int .i64 (4:Int)),(D.int .i64 (0:Int))],[(D.int .i64 (0:Int)),(D.int .i64 (4:Int))]]) (p.len [[(D.int .i64 (0:Int)),(D.int .i64 (0:Int))],[(D.int .i64 (4:Int)),(D.int .i64 (0:Int))],[(D.int .i64 (0:Int)),(D.int .i64 (4:Int))]]))<|
 opt.need _ (p.eqN (p.len [[(D.int .i64 (0:Int)),(D.int .i64 (0:Int))],[(D.int .i64 (4:Int)),(D.int .i64 (0:Int))],[(D.int .i64 (0:Int)),(D.int .i64 (4:Int))]]) (p.len [[(D.int .i64 (0:Int)),(D.int .i64 (0:Int))],[(D.int .i64 (4:Int)),(D.int .i64 (0:Int))],[(D.int .i64 (0:Int)),(D.int .i64 (4:Int))]]))<|
 opt.need _ (p.eqN 0 0)<|
 opt.need _ (p.eqN (p.len [[(D.list Bool.true 2 [[(D.int .i64 (0:Int)),(D.int .i64 (0:Int))],[(D.int .i64 (1:Int)),(D.int .i64 (0:Int))]])]]) (p.len [[(D.list Bool.true 2 [[(D.int .i64 (0:Int)),(D.int .i64 (0:Int))],[(D.int .i64 (1:Int)),(D.int .i64 (0:Int))]])]]))<|
 opt.need _ (p.eqN (p.len [[(D.list Bool.true 2 [[(D.int .i64 (0:Int)),(D.int .i64 (0:Int))],[(D.int .i64 (1:Int)),(D.int .i64 (0:Int))]])]]) (p.len [[(D.list Bool.true 2 [[(D.int .i64 (0:Int)),(D.int .i64 (0:Int))],[(D.int .i64 (1:Int)),(D.int .i64 (0:Int))]])]]))<|
 opt.need _ (p.eqN 0 0)<|
 opt.need _ (p.eqN (p.len [[(D.int .i64 (4:Int)),(D.int .i64 (2:Int))]]) (p.len [[(D.int .i64 (4:Int)),(D.int .i64 (2:Int))]]))<|
 opt.need _ (p.eqN (p.len [[(D.int .i64 (4:Int)),(D.int .i64 (2:Int))]]) (p.len [[(D.int .i64 (4:Int)),(D.int .i64 (2:Int))]]))<|
 opt.need _ (p.eqN 0 0)<|
 opt.need _ (p.eqN (p.len [[(D.int .i64 (3:Int)),(D.int .i64 (2:Int))]]) (p.len [[(D.int .i64 (3:Int)),(D.int .i64 (2:Int))]]))<|
 opt.need _ (p.eqN (p.len [[(D.int .i64 (3:Int)),(D.int .i64 (2:Int))]]) (p.len [[(D.int .i64 (3:Int)),(D.int .i64 (2:Int))]]))<|
 opt.need _ (p.eqN 0 0)<|
 opt.need _ (p.eqN (p.len a.1) (p.len a.1))<|
 opt.ret _ (a.1,([[(D.int .i64 (0:Int)),(D.int .i64 (0:Int))],[(D.int .i64 (4:Int)),(D.int .i64 (0:Int))],[(D.int .i64 (0:Int)),(D.int .i64 (4:Int))]],([[(D.list Bool.true 2 [[(D.int .i64 (0:Int)),(D.int .i64 (0:Int))],[(D.int .i64 (1:Int)),(D.int .i64 (0:Int))]])]],([[(D.int .i64 (4:Int)),(D.int .i64 (2:Int))]],([[(D.int .i64 (3:Int)),(D.int .i64 (2:Int))]],(c.1,(c.2.1,(g.1,(g.2.1,(g.2.2.1,(h.1,(h.2.1,(h.2.2.1,(i.1,(i.2.1,(b.1,(j.1,(j.2.1,(Bool.true,())))))))))))))))))))) (
 opt.ask _ (p.cmp .neq g.2.2.2.1 (0:Int)) (
 opt.need _ (p.eqN 0 0)<|
 opt.need _ (p.eqN (p.len [[(D.int .i64 (0:Int)),(D.int .i64 (0:Int))],[(D.int .i64 (4:Int)),(D.int .i64 (0:Int))],[(D.int .i64 (0:Int)),(D.int .i64 (4:Int))]]) (p.len [[(D.int .i64 (0:Int)),(D.int .i64 (0:Int))],[(D.int .i64 (4:Int)),(D.int .i64 (0:Int))],[(D.int .i64 (0:Int)),(D.int .i64 (4:Int))]]))<|
 opt.need _ (p.eqN (p.len [[(D.int .i64 (0:Int)),(D.int .i64 (0:Int))],[(D.int .i64 (4:Int)),(D.int .i64 (0:Int))],[(D.int .i64 (0:Int)),(D.int .i64 (4:Int))]]) (p.len [[(D.int .i64 (0:Int)),(D.int .i64 (0:Int))],[(D.int .i64 (4:Int)),(D.int .i64 (0:Int))],[(D.int .i64 (0:Int)),(D.int .i64 (4:Int))]]))<|
 opt.need _ (p.eqN 0 0)<|
 opt.need _ (p.eqN (p.len [[(D.list Bool.true 2 [[(D.int .i64 (0:Int)),(D.int .i64 (0:Int))],[(D.int .i64 (1:Int)),(D.int .i64 (0:Int))]])]]) (p.len [[(D.list Bool.true 2 [[(D.int .i64 (0:Int)),(D.int .i64 (0:Int))],[(D.int .i64 (1:Int)),(D.int .i64 (0:Int))]])]]))<|
 opt.need _ (p.eqN (p.len [[(D.list Bool.true 2 [[(D.int .i64 (0:Int)),(D.int .i64 (0:Int))],[(D.int .i64 (1:Int)),(D.int .i64 (0:Int))]])]]) (p.len [[(D.list Bool.true 2 [[(D.int .i64 (0:Int)),(D.int .i64 (0:Int))],[(D.int .i64 (1:Int)),(D.int .i64 (0:Int))]])]]))<|
 opt.need _ (p.eqN 0 0)<|
 opt.need _ (p.eqN (p.len [[(D.int .i64 (4:Int)),(D.int .i64 (2:Int))]]) (p.len [[(D.int .i64 (4:Int)),(D.int .i64 (2:Int))]]))<|
 opt.need _ (p.eqN (p.len [[(D.int .i64 (4:Int)),(D.int .i64 (2:Int))]]) (p.len [[(D.int .i64 (4:Int)),(D.int .i64 (2:Int))]]))<|
 opt.need _ (p.eqN 0 0)<|
 opt.need _ (p.eqN (p.len [[(D.int .i64 (3:Int)),(D.int .i64 (2:Int))]]) (p.len [[(D.int .i64 (3:Int)),(D.int .i64 (2:Int))]]))<|
 opt.need _ (p.eqN (p.len [[(D.int .i64 (3:Int)),(D.int .i64 (2:Int))]]) (p.len [[(D.int .i64 (3:Int)),(D.int .i64 (2:Int))]]))<|
 opt.need _ (p.eqN 0 0)<|
 opt.need _ (p.eqN (p.len a.1) (p.len a.1))<|
 opt.ret _ (a.1,([[(D.int .i64 (0:Int)),(D.int .i64 (0:Int))],[(D.int .i64 (4:Int)),(D.int .i64 (0:Int))],[(D.int .i64 (0:Int)),(D.int .i64 (4:Int))]],([[(D.list Bool.true 2 [[(D.int .i64 (0:Int)),(D.int .i64 (0:Int))],[(D.int .i64 (1:Int)),(D.int .i64 (0:Int))]])]],([[(D.int .i64 (4:Int)),(D.int .i64 (2:Int))]],([[(D.int .i64 (3:Int)),(D.int .i64 (2:Int))]],(c.1,(c.2.1,(g.1,(g.2.1,(g.2.2.1,(h.1,(h.2.1,(h.2.2.1,(i.1,(i.2.1,(b.1,(j.1,(j.2.1,(Bool.true,())))))))))))))))))))) (
 opt.ask _ (p.cmp .neq h.2.2.2.1 (0:Int)) (
 opt.need _ (p.eqN 0 0)<|
 opt.need _ (p.eqN (p.len [[(D.int .i64 (0:Int)),(D.int .i64 (0:Int))],[(D.int .i64 (4:Int)),(D.int .i64 (0:Int))],[(D.int .i64 (0:Int)),(D.int .i64 (4:Int))]]) (p.len [[(D.int .i64 (0:Int)),(D.int .i64 (0:Int))],[(D.int .i64 (4:Int)),(D.int .i64 (0:Int))],[(D.int .i64 (0:Int)),(D.int .i64 (4:Int))]]))<|
 opt.need _ (p.eqN (p.len [[(D.int .i64 (0:Int)),(D.int .i64 (0:Int))],[(D.int .i64 (4:Int)),(D.int .i64 (0:Int))],[(D.int .i64 (0:Int)),(D.int .i64 (4:Int))]]) (p.len [[(D.int .i64 (0:Int)),(D.int .i64 (0:Int))],[(D.int .i64 (4:Int)),(D.int .i64 (0:Int))],[(D.int .i64 (0:Int)),(D.int .i64 (4:Int))]]))<|
 opt.need _ (p.eqN 0 0)<|
 opt.need _ (p.eqN (p.len [[(D.list Bool.true 2 [[(D.int .i64 (0:Int)),(D.int .i64 (0:Int))],[(D.int .i64 (1:Int)),(D.int .i64 (0:Int))]])]]) (p.len [[(D.list Bool.true 2 [[(D.int .i64 (0:Int)),(D.int .i64 (0:Int))],[(D.int .i64 (1:Int)),(D.int .i64 (0:Int))]])]]))<|
 opt.need _ (p.eqN (p.len [[(D.list Bool.true 2 [[(D.int .i64 (0:Int)),(D.int .i64 (0:Int))],[(D.int .i64 (1:Int)),(D.int .i64 (0:Int))]])]]) (p.len [[(D.list Bool.true 2 [[(D.int .i64 (0:Int)),(D.int .i64 (0:Int))],[(D.int .i64 (1:Int)),(D.int .i64 (0:Int))]])]]))<|
 opt.need _ (p.eqN 0 0)<|
 opt.need _ (p.eqN (p.len [[(D.int .i64 (4:Int)),(D.int .i64 (2:Int))]]) (p.len [[(D.int .i64 (4:Int)),(D.int .i64 (2:Int))]]))<|
 opt.need _ (p.eqN (p.len [[(D.int .i64 (4:Int)),(D.int .i64 (2:Int))]]) (p.len [[(D.int .i64 (4:Int)),(D.int .i64 (2:Int))]]))<|
 opt.need _ (p.eqN 0 0)<|
 opt.need _ (p.eqN (p.len [[(D.int .i64 (3:Int)),(D.int .i64 (2:Int))]]) (p.len [[(D.int .i64 (3:Int)),(D.int .i64 (2:Int))]]))<|
 opt.need _ (p.eqN (p.len [[(D.int .i64 (3:Int)),(D.int .i64 (2:Int))]]) (p.len [[(D.int .i64 (3:Int)),(D.int .i64 (2:Int))]]))<|
 opt.need _ (p.eqN 0 0)<|
 opt.need _ (p.eqN (p.len a.1) (p.len a.1))<|
 opt.ret _ (a.1,([[(D.int .i64 (0:Int)),(D.int .i64 (0:Int))],[(D.int .i64 (4:Int)),(D.int .i64 (0:Int))],[(D.int .i64 (0:Int)),(D.int .i64 (4:Int))]],([[(D.list Bool.true 2 [[(D.int .i64 (0:Int)),(D.int .i64 (0:Int))],[(D.int .i64 (1:Int)),(D.int .i64 (0:Int))]])]],([[(D.int .i64 (4:Int)),(D.int .i64 (2:Int))]],([[(D.int .i64 (3:Int)),(D.int .i64 (2:Int))]],(c.1,(c.2.1,(g.1,(g.2.1,(g.2.2.1,(h.1,(h.2.1,(h.2.2.1,(i.1,(i.2.1,(b.1,(j.1,(j.2.1,(Bool.true,())))))))))))))))))))) (
 opt.ask _ (p.cmp .neq i.2.2.1 (0:Int)) (
 opt.need _ (p.eqN 0 0)<|
 opt.need _ (p.eqN (p.len [[(D.int .i64 (0:Int)),(D.int .i64 (0:Int))],[(D.int .i64 (4:Int)),(D.int .i64 (0:Int))],[(D.int .i64 (0:Int)),(D.int .i64 (4:Int))]]) (p.len [[(D.int .i64 (0:Int)),(D.int .i64 (0:Int))],[(D.int .i64 (4:Int)),(D.int .i64 (0:Int))],[(D.int .i64 (0:Int)),(D.int .i64 (4:Int))]]))<|
 opt.need _ (p.eqN (p.len [[(D.int .i64 (0:Int)),(D.int .i64 (0:Int))],[(D.int .i64 (4:Int)),(D.int .i64 (0:Int))],[(D.int .i64 (0:Int)),(D.int .i64 (4:Int))]]) (p.len [[(D.int .i64 (0:Int)),(D.int .i64 (0:Int))],[(D.int .i64 (4:Int)),(D.int .i64 (0:Int))],[(D.int .i64 (0:Int)),(D.int .i64 (4:Int))]]))<|
 opt.need _ (p.eqN 0 0)<|
 opt.need _ (p.eqN (p.len [[(D.list Bool.true 2 [[(D.int .i64 (0:Int)),(D.int .i64 (0:Int))],[(D.int .i64 (1:Int)),(D.int .i64 (0:Int))]])]]) (p.len [[(D.list Bool.true 2 [[(D.int .i64 (0:Int)),(D.int .i64 (0:Int))],[(D.int .i64 (1:Int)),(D.int .i64 (0:Int))]])]]))<|
 opt.need _ (p.eqN (p.len [[(D.list Bool.true 2 [[(D.int .i64 (0:Int)),(D.int .i64 (0:Int))],[(D.int .i64 (1:Int)),(D.int .i64 (0:Int))]])]]) (p.len [[(D.list Bool.true 2 [[(D.int .i64 (0:Int)),(D.int .i64 (0:Int))],[(D.int .i64 (1:Int)),(D.int .i64 (0:Int))]])]]))<|
 opt.need _ (p.eqN 0 0)<|
 opt.need _ (p.eqN (p.len [[(D.int .i64 (4:Int)),(D.int .i64 (2:Int))]]) (p.len [[(D.int .i64 (4:Int)),(D.int .i64 (2:Int))]]))<|
 opt.need _ (p.eqN (p.len [[(D.int .i64 (4:Int)),(D.int .i64 (2:Int))]]) (p.len [[(D.int .i64 (4:Int)),(D.int .i64 (2:Int))]]))<|
 opt.need _ (p.eqN 0 0)<|
 opt.need _ (p.eqN (p.len [[(D.int .i64 (3:Int)),(D.int .i64 (2:Int))]]) (p.len [[(D.int .i64 (3:Int)),(D.int .i64 (2:Int))]]))<|
 opt.need _ (p.eqN (p.len [[(D.int .i64 (3:Int)),(D.int .i64 (2:Int))]]) (p.len [[(D.int .i64 (3:Int)),(D.int .i64 (2:Int))]]))<|
 opt.need _ (p.eqN 0 0)<|
 opt.need _ (p.eqN (p.len a.1) (p.len a.1))<|
 opt.ret _ (a.1,([[(D.int .i64 (0:Int)),(D.int .i64 (0:Int))],[(D.int .i64 (4:Int)),(D.int .i64 (0:Int))],[(D.int .i64 (0:Int)),(D.int .i64 (4:Int))]],([[(D.list Bool.true 2 [[(D.int .i64 (0:Int)),(D.int .i64 (0:Int))],[(D.int .i64 (1:Int)),(D.int .i64 (0:Int))]])]],([[(D.int .i64 (4:Int)),(D.int .i64 (2:Int))]],([[(D.int .i64 (3:Int)),(D.int .i64 (2:Int))]],(c.1,(c.2.1,(g.1,(g.2.1,(g.2.2.1,(h.1,(h.2.1,(h.2.2.1,(i.1,(i.2.1,(b.1,(j.1,(j.2.1,(Bool.true,())))))))))))))))))))) (
 opt.need _ (p.eqN 0 0)<|
 opt.need _ (p.eqN (p.len [[(D.int .i64 (0:Int)),(D.int .i64 (0:Int))],[(D.int .i64 (4:Int)),(D.int .i64 (0:Int))],[(D.int .i64 (0:Int)),(D.int .i64 (4:Int))]]) (p.len [[(D.int .i64 (0:Int)),(D.int .i64 (0:Int))],[(D.int .i64 (4:Int)),(D.int .i64 (0:Int))],[(D.int .i64 (0:Int)),(D.int .i64 (4:Int))]]))<|
 opt.need _ (p.eqN (p.len [[(D.int .i64 (0:Int)),(D.int .i64 (0:Int))],[(D.int .i64 (4:Int)),(D.int .i64 (0:Int))],[(D.int .i64 (0:Int)),(D.int .i64 (4:Int))]]) (p.len [[(D.int .i64 (0:Int)),(D.int .i64 (0:Int))],[(D.int .i64 (4:Int)),(D.int .i64 (0:Int))],[(D.int .i64 (0:Int)),(D.int .i64 (4:Int))]]))<|
 opt.need _ (p.eqN 0 0)<|
 opt.need _ (p.eqN (p.len [[(D.list Bool.true 2 [[(D.int .i64 (0:Int)),(D.int .i64 (0:Int))],[(D.int .i64 (1:Int)),(D.int .i64 (0:Int))]])]]) (p.len [[(D.list Bool.true 2 [[(D.int .i64 (0:Int)),(D.int .i64 (0:Int))],[(D.int .i64 (1:Int)),(D.int .i64 (0:Int))]])]]))<|
 opt.need _ (p.eqN (p.len [[(D.list Bool.true 2 [[(D.int .i64 (0:Int)),(D.int .i64 (0:Int))],[(D.int .i64 (1:Int)),(D.int .i64 (0:Int))]])]]) (p.len [[(D.list Bool.true 2 [[(D.int .i64 (0:Int)),(D.int .i64 (0:Int))],[(D.int .i64 (1:Int)),(D.int .i64 (0:Int))]])]]))<|
 opt.need _ (p.eqN 0 0)<|
 opt.need _ (p.eqN (p.len [[(D.int .i64 (4:Int)),(D.int .i64 (2:Int))]]) (p.len [[(D.int .i64 (4:Int)),(D.int .i64 (2:Int))]]))<|
 opt.need _ (p.eqN (p.len [[(D.int .i64 (4:Int)),(D.int .i64 (2:Int))]]) (p.len [[(D.int .i64 (4:Int)),(D.int .i64 (2:Int))]]))<|
 opt.need _ (p.eqN 0 0)<|
 opt.need _ (p.eqN (p.len [[(D.int .i64 (3:Int)),(D.int .i64 (2:Int))]]) (p.len [[(D.int .i64 (3:Int)),(D.int .i64 (2:Int))]]))<|
 opt.need _ (p.eqN (p.len [[(D.int .i64 (3:Int)),(D.int .i64 (2:Int))]]) (p.len [[(D.int .i64 (3:Int)),(D.int .i64 (2:Int))]]))<|
 opt.need _ (p.eqN 0 0)<|
 opt.need _ (p.eqN (p.len a.1) (p.len a.1))<|
 opt.ret _ (a.1,([[(D.int .i64 (0:Int)),(D.int .i64 (0:Int))],[(D.int .i64 (4:Int)),(D.int .i64 (0:Int))],[(D.int .i64 (0:Int)),(D.int .i64 (4:Int))]],([[(D.list Bool.true 2 [[(D.int .i64 (0:Int)),(D.int .i64 (0:Int))],[(D.int .i64 (1:Int)),(D.int .i64 (0:Int))]])]],([[(D.int .i64 (4:Int)),(D.int .i64 (2:Int))]],([[(D.int .i64 (3:Int)),(D.int .i64 (2:Int))]],(c.1,(c.2.1,(g.1,(g.2.1,(g.2.2.1,(h.1,(h.2.1,(h.2.2.1,(i.1,(i.2.1,(b.1,(j.1,(j.2.1,((p.cmp .neq j.2.2.1 (0:Int)),())))))))))))))))))))))))))))))) fun k=>
 opt.ask _ k.2.2.2.2.2.2.2.2.2.2.2.2.2.2.2.2.2.2.1 (
 opt.ret _ (Bool.false,())) (
 opt.need _ (p.and (p.leN (p.add 0 (p.len k.1)) (p.len k.1)) (p.and (p.leN (p.add 0 4) (p.len [[(D.int .i64 (0:Int)),(D.int .i64 (0:Int))],[(D.int .i64 (5:Int)),(D.int .i64 (0:Int))],[(D.int .i64 (1:Int)),(D.int .i64 (4:Int))],[(D.int .i64 (0:Int)),(D.int .i64 (4:Int))]])) Bool.true))<|
 opt.bnd T2 _ (g20 it p ((p.cut k.1 0 (p.len k.1)),((p.cut [[(D.int .i64 (0:Int)),(D.int .i64 (0:Int))],[(D.int .i64 (5:Int)),(D.int .i64 (0:Int))],[(D.int .i64 (1:Int)),(D.int .i64 (4:Int))],[(D.int .i64 (0:Int)),(D.int .i64 (4:Int))]] 0 4),()))) fun l=>
 opt.ask _ l.1 (
 opt.ask _ k.2.2.2.2.2.2.2.2.2.2.2.2.2.2.2.1 (
 opt.ask _ (bif (p.cmp .eql k.2.2.2.2.2.1 (5:Int)) then (bif (p.cmp .eql k.2.2.2.2.2.2.1 (0:Int)) then Bool.true else Bool.false) else Bool.false) (
 opt.need _ (p.and (p.and (p.leN (p.add 0 (p.len k.2.1)) (p.len k.2.1)) (p.and (p.leN (p.add 0 (p.len k.2.2.1)) (p.len k.2.2.1)) Bool.true)) (p.and (p.and (p.leN (p.add 0 (p.len k.2.2.2.1)) (p.len k.2.2.2.1)) (p.and Bool.true Bool.true)) (p.and Bool.true Bool.true)))<|
 opt.bnd T0 _ (g36 it p ((p.cut k.2.1 0 (p.len k.2.1)),((p.cut k.2.2.1 0 (p.len k.2.2.1)),((p.cut k.2.2.2.1 0 (p.len k.2.2.2.1)),([],(k.2.2.2.2.2.2.2.1,(k.2.2.2.2.2.2.2.2.1,(k.2.2.2.2.2.2.2.2.2.1,())))))))) fun m=>
 opt.ask _ (p.cmp .eql m.1 (0:Int)) (
 opt.need _ (p.and (p.and (p.leN (p.add 0 (p.len k.2.1)) (p.len k.2.1)) (p.and (p.leN (p.add 0 (p.len k.2.2.1)) (p.len k.2.2.1)) Bool.true)) (p.and (p.and (p.leN (p.add 0 (p.len k.2.2.2.2.1)) (p.len k.2.2.2.2.1)) (p.and Bool.true Bool.true)) (p.and Bool.true Bool.true)))<|
 opt.bnd T0 _ (g38 it p ((p.cut k.2.1 0 (p.len k.2.1)),((p.cut k.2.2.1 0 (p.len k.2.2.1)),((p.cut k.2.2.2.2.1 0 (p.len k.2.2.2.2.1)),([],(k.2.2.2.2.2.2.2.2.2.2.1,(k.2.2.2.2.2.2.2.2.2.2.2.1,(k.2.2.2.2.2.2.2.2.2.2.2.2.1,())))))))) fun n=>
 opt.ask _ (p.cmp .eql n.1 (0:Int)) (
 opt.ask _ (bif (p.cmp .eql k.2.2.2.2.2.2.2.2.2.2.2.2.2.1 (1:Int)) then (bif (p.cmp .eql k.2.2.2.2.2.2.2.2.2.2.2.2.2.2.1 (2:Int)) then Bool.true else Bool.false) else Bool.false) (
 opt.ask _ (p.cmp .eql k.2.2.2.2.2.2.2.2.2.2.2.2.2.2.2.2.1 (0:Int)) (
 opt.ret _ ((p.cmp .eql k.2.2.2.2.2.2.2.2.2.2.2.2.2.2.2.2.2.1 (2:Int)),())) (
 opt.ret _ (Bool.false,()))) (
 opt.ret _ (Bool.false,()))) (
 opt.ret _ (Bool.false,()))) (
 opt.ret _ (Bool.false,()))) (
 opt.ret _ (Bool.false,()))) (
 opt.ret _ (Bool.false,()))) (
 opt.ret _ (Bool.false,())))
def G15:=g15 it0
theorem ok15:CtrOk PG ctr15 (G15 std):=okF (a:=an15) (l:=la15) (gC ok38 (gC ok36 (gC ok20 (gC ok27 (gC ok25 (gC ok37 (gC ok32 (gC ok39 (gC ok23 (gC ok21 (gC ok16 (gN)))))))))))) (by kernel_rfl) fun _ _=>by kernel_rfl
end Go.Am
end
section
namespace Go.Am
theorem mg102 {i j:It} (h:i.Le j):∀ s,le (g102 i std s) (g102 j std s):=fun _=>le_alt (h _ _ _ _ _ (fun _=>le_refl _)) (fun _=>le_refl _) (fun _=>le_refl _)
theorem mg87 {i j:It} (h:i.Le j):∀ s,le (g87 i std s) (g87 j std s):=fun _=>le_bnd (le_refl _) (fun _=>le_bnd (le_refl _) (fun _=>le_need (le_bnd (mg102 h _) (fun _=>le_refl _))))
theorem mc99_1 {i j:It} (h:i.Le j):∀ s,le (c99_1 i std s) (c99_1 j std s):=fun _=>le_run (le_ask (le_need (le_need (le_bnd (h _ _ _ _ _ (fun _=>le_refl _)) (fun _=>le_refl _)))) (le_refl _))
theorem mg99 {i j:It} (h:i.Le j):∀ s,le (g99 i std s) (g99 j std s):=fun _=>le_bnd (h _ _ _ _ _ (mc99_1 h)) (fun _=>le_refl _)
theorem mg53 {i j:It} (h:i.Le j):∀ s,le (g53 i std s) (g53 j std s):=fun _=>le_alt (h _ _ _ _ _ (fun _=>le_refl _)) (fun _=>le_refl _) (fun _=>le_refl _)
theorem mg60 {i j:It} (h:i.Le j):∀ s,le (g60 i std s) (g60 j std s):=fun _=>le_need (le_need (le_need (le_need (le_bnd (h _ _ _ _ _ (fun _=>le_refl _)) (fun _=>le_refl _)))))
theorem mg20 {i j:It} (h:i.Le j):∀ s,le (g20 i std s) (g20 j std s):=fun _=>le_ask (le_refl _) (le_alt (h _ _ _ _ _ (fun _=>le_refl _)) (fun _=>le_refl _) (fun _=>le_refl _))
theorem mc18_2 {i j:It} (h:i.Le j):∀ s,le (c18_2 i std s) (c18_2 j std s):=fun _=>le_run (le_ask (le_need (le_need (le_bnd (mg53 h _) (fun _=>le_refl _)))) (le_refl _))
theorem mg18 {i j:It} (h:i.Le j):∀ s,le (g18 i std s) (g18 j std s):=fun _=>le_bnd (le_run (le_bnd (le_refl _) (fun _=>le_ask (le_refl _) (le_ask (le_refl _) (le_alt (h _ _ _ _ _ (fun _=>le_refl _)) (fun _=>le_refl _) (fun _=>le_refl _)))))) (fun _=>le_ask (le_refl _) (le_bnd (le_run (le_bnd (mg53 h _) (fun _=>le_ask (le_refl _) (le_alt (h _ _ _ _ _ (mc18_2 h)) (fun _=>le_refl _) (fun _=>le_refl _))))) (fun _=>le_refl _)))
theorem mg57 {i j:It} (h:i.Le j):∀ s,le (g57 i std s) (g57 j std s):=fun _=>le_ask (le_refl _) (le_alt (le_run (le_alt (h _ _ _ _ _ (fun _=>le_refl _)) (fun _=>le_refl _) (fun _=>le_refl _))) (fun _=>le_refl _) (fun _=>le_refl _))
theorem mc93_1 {i j:It} (h:i.Le j):∀ s,le (c93_1 i std s) (c93_1 j std s):=fun _=>le_run (le_ask (le_need (le_need (le_bnd (le_refl _) (fun _=>le_bnd (h _ _ _ _ _ (fun _=>le_refl _)) (fun _=>le_refl _))))) (le_refl _))
theorem mg93 {i j:It} (h:i.Le j):∀ s,le (g93 i std s) (g93 j std s):=fun _=>le_bnd (h _ _ _ _ _ (mc93_1 h)) (fun _=>le_refl _)
theorem mg65 {i j:It} (h:i.Le j):∀ s,le (g65 i std s) (g65 j std s):=fun _=>le_need (le_bnd (mg93 h _) (fun _=>le_refl _))
theorem mg76 {i j:It} (h:i.Le j):∀ s,le (g76 i std s) (g76 j std s):=fun _=>le_bnd (le_refl _) (fun _=>le_bnd (le_refl _) (fun _=>le_ask (le_refl _) (le_need (le_bnd (mg93 h _) (fun _=>le_refl _)))))
theorem mg68 {i j:It} (h:i.Le j):∀ s,le (g68 i std s) (g68 j std s):=fun _=>le_bnd (le_refl _) (fun _=>le_ask (le_refl _) (le_bnd (mg65 h _) (fun _=>le_refl _)))
theorem mg78 {i j:It} (h:i.Le j):∀ s,le (g78 i std s) (g78 j std s):=fun _=>le_need (le_bnd (h _ _ _ _ _ (fun _=>le_refl _)) (fun _=>le_refl _))
theorem mg92 {i j:It} (h:i.Le j):∀ s,le (g92 i std s) (g92 j std s):=fun _=>le_bnd (mg78 h _) (fun _=>le_bnd (mg78 h _) (fun _=>le_refl _))
theorem mc63_5 {i j:It} (h:i.Le j):∀ s,le (c63_5 i std s) (c63_5 j std s):=fun _=>le_run (le_ask (le_need (le_need (le_bnd (mg92 h _) (fun _=>le_refl _)))) (le_refl _))
theorem mc63_3 {i j:It} (h:i.Le j):∀ s,le (c63_3 i std s) (c63_3 j std s):=fun _=>le_run (le_ask (le_need (le_need (le_bnd (le_run (le_need (le_need (le_need (le_need (le_need (le_alt (h _ _ _ _ _ (fun _=>le_refl _)) (fun _=>le_refl _) (fun _=>le_refl _)))))))) (fun _=>le_refl _)))) (le_refl _))
theorem mc63_1 {i j:It} (h:i.Le j):∀ s,le (c63_1 i std s) (c63_1 j std s):=fun _=>le_run (le_ask (le_need (le_need (le_need (le_need (le_bnd (h _ _ _ _ _ (fun _=>le_refl _)) (fun _=>le_refl _)))))) (le_refl _))
theorem mg63 {i j:It} (h:i.Le j):∀ s,le (g63 i std s) (g63 j std s):=fun _=>le_bnd (h _ _ _ _ _ (mc63_1 h)) (fun _=>le_need (le_need (le_need (le_need (le_need (le_bnd (h _ _ _ _ _ (mc63_3 h)) (fun _=>le_need (le_need (le_bnd (h _ _ _ _ _ (mc63_5 h)) (fun _=>le_refl _))))))))))
theorem mc108o_2 {i j:It} (h:i.Le j):∀ s,le (c108o_2 i std s) (c108o_2 j std s):=fun _=>le_run (le_ask (le_need (le_need (le_need (le_need (le_bnd (mg87 h _) (fun _=>le_refl _)))))) (le_refl _))
theorem mc108o_1 {i j:It} (h:i.Le j):∀ s,le (c108o_1 i std s) (c108o_1 j std s):=fun _=>le_run (le_ask (le_need (le_need (le_need (le_bnd (h _ _ _ _ _ (mc108o_2 h)) (fun _=>le_refl _))))) (le_refl _))
theorem mg108o {i j:It} (h:i.Le j):∀ s,le (g108o i std s) (g108o j std s):=fun _=>le_need (le_need (le_need (le_bnd (h _ _ _ _ _ (mc108o_1 h)) (fun _=>le_refl _))))
theorem mc104o_1 {i j:It} (h:i.Le j):∀ s,le (c104o_1 i std s) (c104o_1 j std s):=fun _=>le_run (le_ask (le_need (le_need (le_need (le_bnd (mg108o h _) (fun _=>le_refl _))))) (le_refl _))
theorem mg104o {i j:It} (h:i.Le j):∀ s,le (g104o i std s) (g104o j std s):=fun _=>le_need (le_need (le_need (le_bnd (h _ _ _ _ _ (mc104o_1 h)) (fun _=>le_refl _))))
theorem mg97op {i j:It} (h:i.Le j):∀ s,le (g97op i std s) (g97op j std s):=fun _=>le_bnd (le_refl _) (fun _=>le_need (le_need (le_need (le_bnd (mg104o h _) (fun _=>le_refl _)))))
theorem mc108t_1 {i j:It} (h:i.Le j):∀ s,le (c108t_1 i std s) (c108t_1 j std s):=fun _=>le_run (le_ask (le_need (le_need (le_bnd (h _ _ _ _ _ (fun _=>le_refl _)) (fun _=>le_refl _)))) (le_refl _))
theorem mg108t {i j:It} (h:i.Le j):∀ s,le (g108t i std s) (g108t j std s):=fun _=>le_need (le_need (le_bnd (h _ _ _ _ _ (mc108t_1 h)) (fun _=>le_refl _)))
theorem mc104t_1 {i j:It} (h:i.Le j):∀ s,le (c104t_1 i std s) (c104t_1 j std s):=fun _=>le_run (le_ask (le_need (le_need (le_bnd (mg108t h _) (fun _=>le_refl _)))) (le_refl _))
theorem mg104t {i j:It} (h:i.Le j):∀ s,le (g104t i std s) (g104t j std s):=fun _=>le_need (le_need (le_bnd (h _ _ _ _ _ (mc104t_1 h)) (fun _=>le_refl _)))
theorem mg97tp {i j:It} (h:i.Le j):∀ s,le (g97tp i std s) (g97tp j std s):=fun _=>le_bnd (le_refl _) (fun _=>le_need (le_need (le_bnd (mg104t h _) (fun _=>le_refl _))))
theorem mg97o {i j:It} (h:i.Le j):∀ s,le (g97o i std s) (g97o j std s):=fun _=>le_cond (mg97op h _) (le_refl _)
theorem mg97t {i j:It} (h:i.Le j):∀ s,le (g97t i std s) (g97t j std s):=fun _=>le_cond (mg97tp h _) (le_refl _)
theorem mc88_1 {i j:It} (h:i.Le j):∀ s,le (c88_1 i std s) (c88_1 j std s):=fun _=>le_run (le_ask (le_need (le_need (le_bnd (h _ _ _ _ _ (fun _=>le_refl _)) (fun _=>le_refl _)))) (le_refl _))
theorem mg88 {i j:It} (h:i.Le j):∀ s,le (g88 i std s) (g88 j std s):=fun _=>le_bnd (h _ _ _ _ _ (mc88_1 h)) (fun _=>le_refl _)
theorem mc101_1 {i j:It} (h:i.Le j):∀ s,le (c101_1 i std s) (c101_1 j std s):=fun _=>le_run (le_ask (le_need (le_need (le_need (le_need (le_ask (le_need (le_bnd (h _ _ _ _ _ (fun _=>le_refl _)) (fun _=>le_refl _))) (le_refl _)))))) (le_refl _))
theorem mg101 {i j:It} (h:i.Le j):∀ s,le (g101 i std s) (g101 j std s):=fun _=>le_ask (le_refl _) (le_alt (h _ _ _ _ _ (mc101_1 h)) (fun _=>le_refl _) (fun _=>le_refl _))
theorem mg86 {i j:It} (h:i.Le j):∀ s,le (g86 i std s) (g86 j std s):=fun _=>le_need (le_need (le_need (le_need (le_need (le_bnd (mg97o h _) (fun _=>le_bnd (mg101 h _) (fun _=>le_refl _)))))))
theorem mg89 {i j:It} (h:i.Le j):∀ s,le (g89 i std s) (g89 j std s):=fun _=>le_bnd (h _ _ _ _ _ (fun _=>le_refl _)) (fun _=>le_refl _)
theorem mg59 {i j:It} (h:i.Le j):∀ s,le (g59 i std s) (g59 j std s):=fun _=>le_bnd (mg86 h _) (fun _=>le_ask (le_refl _) (le_need (le_bnd (mg88 h _) (fun _=>le_need (le_bnd (mg89 h _) (fun _=>le_need (le_bnd (mg88 h _) (fun _=>le_refl _))))))))
theorem mc80_3 {i j:It} (h:i.Le j):∀ s,le (c80_3 i std s) (c80_3 j std s):=fun _=>le_run (le_ask (le_bnd (le_run (le_need (le_need (le_need (le_bnd (mg99 h _) (fun _=>le_refl _)))))) (fun _=>le_refl _)) (le_refl _))
theorem mc80_1 {i j:It} (h:i.Le j):∀ s,le (c80_1 i std s) (c80_1 j std s):=fun _=>le_run (le_ask (le_need (le_need (le_bnd (le_run (le_need (le_need (le_need (le_need (le_need (le_alt (h _ _ _ _ _ (fun _=>le_refl _)) (fun _=>le_refl _) (fun _=>le_refl _)))))))) (fun _=>le_refl _)))) (le_refl _))
theorem mg80 {i j:It} (h:i.Le j):∀ s,le (g80 i std s) (g80 j std s):=fun _=>le_need (le_need (le_need (le_bnd (h _ _ _ _ _ (mc80_1 h)) (fun _=>le_need (le_need (le_bnd (mg97t h _) (fun _=>le_need (le_need (le_need (le_bnd (mg99 h _) (fun _=>le_need (le_need (le_need (le_need (le_need (le_bnd (h _ _ _ _ _ (mc80_3 h)) (fun _=>le_refl _)))))))))))))))))
theorem mc48_1 {i j:It} (h:i.Le j):∀ s,le (c48_1 i std s) (c48_1 j std s):=fun _=>le_run (le_ask (le_need (le_need (le_bnd (mg60 h _) (fun _=>le_bnd (mg59 h _) (fun _=>le_bnd (mg80 h _) (fun _=>le_refl _)))))) (le_refl _))
theorem mg48 {i j:It} (h:i.Le j):∀ s,le (g48 i std s) (g48 j std s):=fun _=>le_bnd (mg18 h _) (fun _=>le_ask (le_refl _) (le_bnd (mg60 h _) (fun _=>le_bnd (mg59 h _) (fun _=>le_bnd (h _ _ _ _ _ (mc48_1 h)) (fun _=>le_refl _)))))
theorem mg16 {i j:It} (h:i.Le j):∀ s,le (g16 i std s) (g16 j std s):=fun _=>le_alt (mg48 h _) (fun _=>le_refl _) (fun _=>le_bnd (le_refl _) (fun _=>le_ask (le_refl _) (le_bnd (h _ _ _ _ _ (fun _=>le_refl _)) (fun _=>le_refl _))))
theorem mg62 {i j:It} (h:i.Le j):∀ s,le (g62 i std s) (g62 j std s):=fun _=>le_alt (mg48 h _) (fun _=>le_ask (le_refl _) (le_alt (mg48 h _) (fun _=>le_refl _) (fun _=>le_refl _))) (fun _=>le_bnd (le_refl _) (fun _=>le_ask (le_refl _) (le_alt (mg48 h _) (fun _=>le_refl _) (fun _=>le_refl _))))
theorem mg21 {i j:It} (h:i.Le j):∀ s,le (g21 i std s) (g21 j std s):=fun _=>le_alt (mg48 h _) (fun _=>le_ask (le_refl _) (le_need (le_bnd (mg53 h _) (fun _=>le_refl _)))) (fun _=>le_bnd (le_refl _) (fun _=>le_ask (le_refl _) (le_need (le_bnd (mg53 h _) (fun _=>le_ask (le_refl _) (le_bnd (mg57 h _) (fun _=>le_refl _)))))))
theorem mc23_2 {i j:It} (h:i.Le j):∀ s,le (c23_2 i std s) (c23_2 j std s):=fun _=>le_run (le_ask (le_need (le_need (le_bnd (mg57 h _) (fun _=>le_refl _)))) (le_refl _))
theorem mc23_1 {i j:It} (h:i.Le j):∀ s,le (c23_1 i std s) (c23_1 j std s):=fun _=>le_run (le_ask (le_need (le_need (le_bnd (mg57 h _) (fun _=>le_refl _)))) (le_refl _))
theorem mg23 {i j:It} (h:i.Le j):∀ s,le (g23 i std s) (g23 j std s):=fun _=>le_alt (mg48 h _) (fun _=>le_alt (le_run (le_ask (le_refl _) (le_bnd (le_refl _) (fun _=>le_alt (le_run (le_ask (le_refl _) (le_bnd (mg53 h _) (fun _=>le_refl _)))) (fun _=>le_refl _) (fun _=>le_refl _))))) (fun _=>le_refl _) (fun _=>le_alt (le_refl _) (fun _=>le_bnd (mg60 h _) (fun _=>le_bnd (mg59 h _) (fun _=>le_refl _))) (fun _=>le_bnd (le_refl _) (fun _=>le_bnd (mg60 h _) (fun _=>le_bnd (mg59 h _) (fun _=>le_alt (h _ _ _ _ _ (mc23_1 h)) (fun _=>le_refl _) (fun _=>le_refl _))))))) (fun _=>le_bnd (le_refl _) (fun _=>le_alt (le_run (le_ask (le_refl _) (le_bnd (le_refl _) (fun _=>le_alt (le_run (le_ask (le_refl _) (le_bnd (mg53 h _) (fun _=>le_refl _)))) (fun _=>le_refl _) (fun _=>le_refl _))))) (fun _=>le_refl _) (fun _=>le_alt (le_refl _) (fun _=>le_bnd (mg60 h _) (fun _=>le_bnd (mg59 h _) (fun _=>le_refl _))) (fun _=>le_bnd (le_refl _) (fun _=>le_bnd (mg60 h _) (fun _=>le_bnd (mg59 h _) (fun _=>le_alt (h _ _ _ _ _ (mc23_2 h)) (fun _=>le_refl _) (fun _=>le_refl _))))))))
theorem mg32 {i j:It} (h:i.Le j):∀ s,le (g32 i std s) (g32 j std s):=fun _=>le_alt (mg62 h _) (fun _=>le_refl _) (fun _=>le_alt (le_refl _) (fun _=>le_refl _) (fun _=>le_alt (le_refl _) (fun _=>le_refl _) (fun _=>le_bnd (le_refl _) (fun _=>le_ask (le_refl _) (le_bnd (mg63 h _) (fun _=>le_refl _))))))
theorem mc27_4 {i j:It} (h:i.Le j):∀ s,le (c27_4 i std s) (c27_4 j std s):=fun _=>le_run (le_ask (le_need (le_need (le_alt (h _ _ _ _ _ (fun _=>le_refl _)) (fun _=>le_refl _) (fun _=>le_refl _)))) (le_refl _))
theorem mc27_3 {i j:It} (h:i.Le j):∀ s,le (c27_3 i std s) (c27_3 j std s):=fun _=>le_run (le_ask (le_need (le_need (le_bnd (mg63 h _) (fun _=>le_refl _)))) (le_refl _))
theorem mc27_2 {i j:It} (h:i.Le j):∀ s,le (c27_2 i std s) (c27_2 j std s):=fun _=>le_run (le_ask (le_need (le_need (le_need (le_need (le_need (le_need (le_need (le_bnd (h _ _ _ _ _ (mc27_3 h)) (fun _=>le_refl _))))))))) (le_refl _))
theorem mc27_1 {i j:It} (h:i.Le j):∀ s,le (c27_1 i std s) (c27_1 j std s):=fun _=>le_run (le_ask (le_alt (le_run (le_need (le_need (le_alt (mg48 h _) (fun _=>le_refl _) (fun _=>le_refl _))))) (fun _=>le_refl _) (fun _=>le_refl _)) (le_refl _))
theorem mg27 {i j:It} (h:i.Le j):∀ s,le (g27 i std s) (g27 j std s):=fun _=>le_ask (le_refl _) (le_alt (h _ _ _ _ _ (mc27_1 h)) (fun _=>le_refl _) (fun _=>le_bnd (le_refl _) (fun _=>le_need (le_need (le_need (le_need (le_bnd (h _ _ _ _ _ (mc27_2 h)) (fun _=>le_need (le_need (le_alt (h _ _ _ _ _ (mc27_4 h)) (fun _=>le_refl _) (fun _=>le_refl _)))))))))))
theorem mg78m {i j:It} (h:i.Le j):∀ s,le (g78m i std s) (g78m j std s):=fun _=>le_need (le_bnd (h _ _ _ _ _ (fun _=>le_refl _)) (fun _=>le_refl _))
theorem mg39 {i j:It} (h:i.Le j):∀ s,le (g39 i std s) (g39 j std s):=fun _=>le_alt (mg62 h _) (fun _=>le_refl _) (fun _=>le_alt (le_refl _) (fun _=>le_refl _) (fun _=>le_alt (le_refl _) (fun _=>le_alt (le_run (le_ask (le_refl _) (le_ask (le_refl _) (le_bnd (le_refl _) (fun _=>le_bnd (le_refl _) (fun _=>le_ask (le_refl _) (le_bnd (le_refl _) (fun _=>le_ask (le_refl _) (le_ask (le_refl _) (le_alt (le_run (le_ask (le_refl _) (le_bnd (mg78m h _) (fun _=>le_refl _)))) (fun _=>le_refl _) (fun _=>le_refl _))))))))))) (fun _=>le_refl _) (fun _=>le_refl _)) (fun _=>le_bnd (le_refl _) (fun _=>le_alt (le_run (le_ask (le_refl _) (le_ask (le_refl _) (le_bnd (le_refl _) (fun _=>le_bnd (le_refl _) (fun _=>le_ask (le_refl _) (le_bnd (le_refl _) (fun _=>le_ask (le_refl _) (le_ask (le_refl _) (le_alt (le_run (le_ask (le_refl _) (le_bnd (mg78m h _) (fun _=>le_ask (le_refl _) (le_bnd (mg78m h _) (fun _=>le_refl _)))))) (fun _=>le_refl _) (fun _=>le_refl _))))))))))) (fun _=>le_refl _) (fun _=>le_refl _)))))
theorem mc37_4 {i j:It} (h:i.Le j):∀ s,le (c37_4 i std s) (c37_4 j std s):=fun _=>le_run (le_ask (le_need (le_need (le_need (le_need (le_need (le_ask (le_refl _) (le_bnd (mg76 h _) (fun _=>le_refl _)))))))) (le_refl _))
theorem mc37_3 {i j:It} (h:i.Le j):∀ s,le (c37_3 i std s) (c37_3 j std s):=fun _=>le_run (le_ask (le_need (le_need (le_need (le_need (le_need (le_ask (le_refl _) (le_alt (le_run (le_alt (h _ _ _ _ _ (mc37_4 h)) (fun _=>le_refl _) (fun _=>le_refl _))) (fun _=>le_refl _) (fun _=>le_refl _)))))))) (le_refl _))
theorem mc37_2 {i j:It} (h:i.Le j):∀ s,le (c37_2 i std s) (c37_2 j std s):=fun _=>le_run (le_ask (le_need (le_need (le_bnd (mg57 h _) (fun _=>le_refl _)))) (le_refl _))
theorem mc37_1 {i j:It} (h:i.Le j):∀ s,le (c37_1 i std s) (c37_1 j std s):=fun _=>le_run (le_ask (le_bnd (le_refl _) (fun _=>le_alt (h _ _ _ _ _ (mc37_2 h)) (fun _=>le_refl _) (fun _=>le_refl _))) (le_refl _))
theorem mg37 {i j:It} (h:i.Le j):∀ s,le (g37 i std s) (g37 j std s):=fun _=>le_alt (mg62 h _) (fun _=>le_refl _) (fun _=>le_alt (le_refl _) (fun _=>le_refl _) (fun _=>le_alt (le_refl _) (fun _=>le_refl _) (fun _=>le_bnd (le_refl _) (fun _=>le_ask (le_refl _) (le_alt (h _ _ _ _ _ (mc37_1 h)) (fun _=>le_refl _) (fun _=>le_bnd (le_refl _) (fun _=>le_alt (le_run (le_alt (h _ _ _ _ _ (mc37_3 h)) (fun _=>le_refl _) (fun _=>le_refl _))) (fun _=>le_refl _) (fun _=>le_refl _))))))))
theorem mg69 {i j:It} (h:i.Le j):∀ s,le (g69 i std s) (g69 j std s):=fun _=>le_ask (le_refl _) (le_need (le_need (le_bnd (h _ _ _ _ _ (fun _=>le_refl _)) (fun _=>le_refl _))))
theorem mc25_4 {i j:It} (h:i.Le j):∀ s,le (c25_4 i std s) (c25_4 j std s):=fun _=>le_run (le_ask (le_need (le_need (le_need (le_need (le_need (le_ask (le_refl _) (le_bnd (mg68 h _) (fun _=>le_refl _)))))))) (le_refl _))
theorem mc25_3 {i j:It} (h:i.Le j):∀ s,le (c25_3 i std s) (c25_3 j std s):=fun _=>le_run (le_ask (le_need (le_need (le_bnd (mg65 h _) (fun _=>le_refl _)))) (le_refl _))
theorem mc25_2 {i j:It} (h:i.Le j):∀ s,le (c25_2 i std s) (c25_2 j std s):=fun _=>le_run (le_ask (le_need (le_need (le_bnd (h _ _ _ _ _ (mc25_3 h)) (fun _=>le_bnd (le_run (le_alt (h _ _ _ _ _ (mc25_4 h)) (fun _=>le_refl _) (fun _=>le_refl _))) (fun _=>le_refl _))))) (le_refl _))
theorem mc25_1 {i j:It} (h:i.Le j):∀ s,le (c25_1 i std s) (c25_1 j std s):=fun _=>le_run (le_ask (le_bnd (le_refl _) (fun _=>le_bnd (h _ _ _ _ _ (mc25_2 h)) (fun _=>le_refl _))) (le_refl _))
theorem mg25 {i j:It} (h:i.Le j):∀ s,le (g25 i std s) (g25 j std s):=fun _=>le_alt (mg62 h _) (fun _=>le_refl _) (fun _=>le_alt (le_refl _) (fun _=>le_refl _) (fun _=>le_alt (le_refl _) (fun _=>le_refl _) (fun _=>le_bnd (le_refl _) (fun _=>le_ask (le_refl _) (le_bnd (mg63 h _) (fun _=>le_ask (le_refl _) (le_need (le_bnd (h _ _ _ _ _ (mc25_1 h)) (fun _=>le_bnd (mg69 h _) (fun _=>le_refl _))))))))))
theorem mg56 {i j:It} (h:i.Le j):∀ s,le (g56 i std s) (g56 j std s):=fun _=>le_alt (h _ _ _ _ _ (fun _=>le_refl _)) (fun _=>le_refl _) (fun _=>le_refl _)
theorem mc61_2 {i j:It} (h:i.Le j):∀ s,le (c61_2 i std s) (c61_2 j std s):=fun _=>le_run (le_need (le_need (le_bnd (h _ _ _ _ _ (fun _=>le_refl _)) (fun _=>le_refl _))))
theorem mg61 {i j:It} (h:i.Le j):∀ s,le (g61 i std s) (g61 j std s):=fun _=>le_need (le_bnd (h _ _ _ _ _ (fun _=>le_refl _)) (fun _=>le_need (le_bnd (h _ _ _ _ _ (mc61_2 h)) (fun _=>le_refl _))))
theorem mc19_2 {i j:It} (h:i.Le j):∀ s,le (c19_2 i std s) (c19_2 j std s):=fun _=>le_run (le_ask (le_need (le_need (le_bnd (mg56 h _) (fun _=>le_refl _)))) (le_refl _))
theorem mg19 {i j:It} (h:i.Le j):∀ s,le (g19 i std s) (g19 j std s):=fun _=>le_bnd (le_refl _) (fun _=>le_ask (le_refl _) (le_alt (h _ _ _ _ _ (fun _=>le_refl _)) (fun _=>le_refl _) (fun _=>le_bnd (le_refl _) (fun _=>le_bnd (mg56 h _) (fun _=>le_ask (le_refl _) (le_alt (h _ _ _ _ _ (mc19_2 h)) (fun _=>le_refl _) (fun _=>le_refl _)))))))
theorem mg43 {i j:It} (h:i.Le j):∀ s,le (g43 i std s) (g43 j std s):=fun _=>le_alt (h _ _ _ _ _ (fun _=>le_refl _)) (fun _=>le_refl _) (fun _=>le_refl _)
theorem mc49_3 {i j:It} (h:i.Le j):∀ s,le (c49_3 i std s) (c49_3 j std s):=fun _=>le_run (le_ask (le_need (le_need (le_need (le_need (le_need (le_bnd (h _ _ _ _ _ (fun _=>le_refl _)) (fun _=>le_refl _))))))) (le_refl _))
theorem mc49_2 {i j:It} (h:i.Le j):∀ s,le (c49_2 i std s) (c49_2 j std s):=fun _=>le_run (le_ask (le_need (le_need (le_need (le_bnd (h _ _ _ _ _ (mc49_3 h)) (fun _=>le_refl _))))) (le_refl _))
theorem mc49_1 {i j:It} (h:i.Le j):∀ s,le (c49_1 i std s) (c49_1 j std s):=fun _=>le_run (le_ask (le_need (le_need (le_bnd (mg61 h _) (fun _=>le_need (le_need (le_need (le_bnd (h _ _ _ _ _ (mc49_2 h)) (fun _=>le_bnd (mg61 h _) (fun _=>le_refl _))))))))) (le_refl _))
theorem mg49 {i j:It} (h:i.Le j):∀ s,le (g49 i std s) (g49 j std s):=fun _=>le_bnd (mg61 h _) (fun _=>le_bnd (h _ _ _ _ _ (mc49_1 h)) (fun _=>le_refl _))
theorem mg72 {i j:It} (h:i.Le j):∀ s,le (g72 i std s) (g72 j std s):=fun _=>le_bnd (mg19 h _) (fun _=>le_ask (le_bnd (mg19 h _) (fun _=>le_refl _)) (le_bnd (mg19 h _) (fun _=>le_refl _)))
theorem mg36 {i j:It} (h:i.Le j):∀ s,le (g36 i std s) (g36 j std s):=fun _=>le_bnd (mg72 h _) (fun _=>le_ask (le_bnd (mg72 h _) (fun _=>le_refl _)) (le_bnd (le_refl _) (fun _=>le_ask (le_refl _) (le_bnd (mg49 h _) (fun _=>le_bnd (mg49 h _) (fun _=>le_alt (h _ _ _ _ _ (fun _=>le_refl _)) (fun _=>le_refl _) (fun _=>le_bnd (le_refl _) (fun _=>le_alt (h _ _ _ _ _ (fun _=>le_refl _)) (fun _=>le_refl _) (fun _=>le_refl _)))))))))
theorem mg38 {i j:It} (h:i.Le j):∀ s,le (g38 i std s) (g38 j std s):=fun _=>le_bnd (mg72 h _) (fun _=>le_ask (le_bnd (mg72 h _) (fun _=>le_refl _)) (le_bnd (le_refl _) (fun _=>le_ask (le_refl _) (le_bnd (mg49 h _) (fun _=>le_bnd (mg43 h _) (fun _=>le_ask (le_refl _) (le_bnd (mg49 h _) (fun _=>le_bnd (mg43 h _) (fun _=>le_refl _)))))))))
theorem mg15 {i j:It} (h:i.Le j):∀ s,le (g15 i std s) (g15 j std s):=fun _=>le_need (le_need (le_need (le_need (le_need (le_need (le_need (le_need (le_need (le_need (le_need (le_need (le_need (le_need (le_need (le_need (le_bnd (mg16 h _) (fun _=>le_need (le_need (le_bnd (mg21 h _) (fun _=>le_need (le_bnd (mg23 h _) (fun _=>le_need (le_bnd (mg39 h _) (fun _=>le_need (le_bnd (mg39 h _) (fun _=>le_need (le_bnd (mg32 h _) (fun _=>le_need (le_bnd (mg32 h _) (fun _=>le_need (le_bnd (mg37 h _) (fun _=>le_need (le_bnd (mg25 h _) (fun _=>le_need (le_bnd (mg27 h _) (fun _=>le_bnd (le_refl _) (fun _=>le_ask (le_refl _) (le_need (le_bnd (mg20 h _) (fun _=>le_ask (le_ask (le_ask (le_need (le_bnd (mg36 h _) (fun _=>le_ask (le_need (le_bnd (mg38 h _) (fun _=>le_refl _))) (le_refl _)))) (le_refl _)) (le_refl _)) (le_refl _)))))))))))))))))))))))))))))))))))))))))
end Go.Am
end
section
namespace Go.Am
theorem g15_ev:g15 (itN 200) std ()=some (true,()):=by kernel_rfl
theorem G15_ok:G15 std ()=some (true,()):=mg15 (itN_le 200) () _ g15_ev
end Go.Am
end
section
namespace Go.Am
open M06
def fineG (l:List Pt) (hs:List (List Pt)):Prop:=¬ greatG l hs∧chkG l hs=0
instance (l:List Pt) (hs:List (List Pt)):Decidable (fineG l hs):=by unfold fineG; infer_instance
theorem fineG_iff {l:List Pt} {hs:List (List Pt)}:fineG l hs↔Fine l hs:=by
 unfold fineG
 rw [chk_fine]
 refine ⟨fun h=>h.2,fun h=>⟨?_,h⟩⟩
 rintro (k|k|⟨x,hx,k⟩)
 ·have:=h.many.2; omega
 ·have:=h.few; omega
 ·have:=(h.manyH x hx).2; omega
instance (l:List Pt) (hs:List (List Pt)):Decidable (Fine l hs):=decidable_of_iff _ fineG_iff
theorem G29_ok (l:List Pt) (hs:List (List Pt)):G29 std (encP l,encH hs,())=some (decide (Fine l hs),()):=by
 unfold G29
 have h14:g14d it0 std (encP l,encH hs,())=some (decide (greatG l hs),()):=G14_ok l hs
 have h19:g19 it0 std (encP l,encH hs,())=some (chkG l hs,()):=G19_ok l hs
 have e:decide (Fine l hs)=decide (fineG l hs):=by rw [decide_eq_decide]; exact fineG_iff.symm
 rw [e]
 by_cases hg:greatG l hs
 ·have:¬ fineG l hs:=fun h=>h.1 hg
  simp only [g29,stdS,stdL,h14,hg,this]
 ·by_cases hc:chkG l hs=0
  ·have:fineG l hs:=⟨hg,hc⟩
   simp only [g29,stdS,stdL,h14,h19,hg,hc,this]
  ·have:¬ fineG l hs:=fun h=>hc h.2
   simp only [g29,stdS,stdL,h14,h19,hg,hc,this]
theorem find_some {α:Type} {l:List α} {P:α→Bool} {d:α}:∀ {i:Nat},i<l.length→P (l.getD i d)=true→(∀ j,j<i→P (l.getD j d)=false)→l.find? P=some (l.getD i d):=by
 induction l with
 |nil=>intro i hi; simp at hi
 |cons a l ih=>
  intro i hi h hm
  cases i with
  |zero=>
   have h:P a=true:=by simpa using h
   rw [List.find?_cons_of_pos h]; simp
  |succ i=>
   have h0:P a=false:=by simpa using hm 0 (by omega)
   rw [List.find?_cons_of_neg (by rw [h0]; simp)]
   have:=ih (i:=i) (by simpa using hi) (by simpa using h) (fun j hj=>by simpa using hm (j+1) (by omega))
   simpa using this
theorem find_none {α:Type} {l:List α} {P:α→Bool} {d:α} (h:∀ i,i<l.length→P (l.getD i d)=false):l.find? P=none:=by
 rw [List.find?_eq_none]
 intro x hx
 obtain ⟨i,hi⟩:=List.getElem?_of_mem hx
 have:=h i (List.getElem?_eq_some_iff.1 hi).1
 rw [lgetD hi] at this
 rw [this]; simp
theorem G62_bad1 {l:List Pt} {hs:List (List Pt)} (h:chkG l hs≠0) (m:List Pt) (ks:List (List Pt)):G62 std (encP l,encH hs,encP m,encH ks,())=some (.inl (chkG l hs,())):=by
 unfold G62
 have h48:g48 it0 std (encP l,encH hs,())=_:=G48_bad h
 simp only [g62,stdS,stdL,h48,h,not_false_eq_true]
theorem G62_bad2 {l:List Pt} {hs:List (List Pt)} (hf:Fine l hs) {m:List Pt} {ks:List (List Pt)} (h:chkG m ks≠0):
  G62 std (encP l,encH hs,encP m,encH ks,())=some (.inr (.inr (.inl (encP l,encH hs,encP (corn (allS l hs)),chkG m ks,())))):=by
 unfold G62
 have h48:g48 it0 std (encP l,encH hs,())=_:=G48_ok hf
 have h48':g48 it0 std (encP m,encH ks,())=_:=G48_bad h
 simp only [g62,stdS,stdL,h48,h48',not_true]
theorem G62_ok {l:List Pt} {hs:List (List Pt)} (hf:Fine l hs) {m:List Pt} {ks:List (List Pt)} (hk:Fine m ks):
  G62 std (encP l,encH hs,encP m,encH ks,())=some (.inr (.inr (.inr (encP l,encH hs,encP (corn (allS l hs)),encP m,encH ks,encP (corn (allS m ks)),0,())))):=by
 unfold G62
 have h48:g48 it0 std (encP l,encH hs,())=_:=G48_ok hf
 have h48':g48 it0 std (encP m,encH ks,())=_:=G48_ok hk
 simp only [g62,stdS,stdL,h48,h48',not_true]
instance (p:Pt):Decidable (Big p):=by unfold Big; infer_instance
noncomputable def bothV (l:List Pt) (hs:List (List Pt)) (m:List Pt) (ks:List (List Pt)) (p:Pt) (den:Int):Int:=
 if chkG l hs≠0 then chkG l hs else if chkG m ks≠0 then chkG m ks else if ¬ (1≤den∧den≤268435456∧Big p) then 2 else
  if inC (corn (allS l hs)) p den=true∧inC (corn (allS m ks)) p den=true then 0 else 14
theorem one_enc (p:Pt):[[D.int IntKind.i64 p.1,D.int IntKind.i64 p.2]]=encP [p]:=rfl
theorem one_take (p:Pt):(encP [p]).take 1=encP [p]:=rfl
theorem Fine.cbox' {l:List Pt} {hs:List (List Pt)} (h:Fine l hs):∀ p∈corn (allS l hs),inBox (-10000) 10000 p:=fun p hp=>by
 obtain ⟨h1,h2,h3,h4⟩:=h.cbox p hp
 exact ⟨by omega,by omega,by omega,by omega⟩
theorem G57_fine {l:List Pt} {hs:List (List Pt)} (hf:Fine l hs) {p:Pt} (hb:Big p) {den:Int} (h1:1≤den) (h2:den≤268435456):
  g57 it0 std (encP (corn (allS l hs)),p.1,p.2,den,())=some (inC (corn (allS l hs)) p den,()):=G57_ok hf.cyc hf.cbox' (by have:=corn_len hf; omega) hb h1 h2
theorem G53_one (p:Pt):g53 it0 std (-1099511627776,1099511627776,encP [p],())=some (decide (Big p),()):=by
 have h53:g53 it0 std (-1099511627776,1099511627776,encP [p],())=some (decide (∀ x∈[p],inBox (-1099511627776) 1099511627776 x),()):=G53_ok _ _ [p] (by simp)
 rw [h53]; congr 2; rw [decide_eq_decide]; simp [Big]
end Go.Am
end
section
namespace Go.Am
open M06
theorem G40_ok (l:List Pt) (hs:List (List Pt)) (m:List Pt) (ks:List (List Pt)) (p:Pt) (den:Int):
  G40 std (encP l,encH hs,encP m,encH ks,p.1,p.2,den,())=some (bothV l hs m ks p den,()):=by
 unfold G40 bothV
 by_cases h:chkG l hs=0
 case neg=>
  have h62:g62 it0 std (encP l,encH hs,encP m,encH ks,())=_:=G62_bad1 h m ks
  simp only [g40,stdS,stdL,h62,h,not_false_eq_true,ne_eq]
 have hf:=chk_fine.1 h
 by_cases h':chkG m ks=0
 case neg=>
  have h62:g62 it0 std (encP l,encH hs,encP m,encH ks,())=_:=G62_bad2 hf h'
  simp only [g40,stdS,stdL,h62,h,h',not_false_eq_true,ne_eq,not_true]
 have hk:=chk_fine.1 h'
 have h62:g62 it0 std (encP l,encH hs,encP m,encH ks,())=_:=G62_ok hf hk
 by_cases d1:den<1
 ·have:¬ (1≤den∧den≤268435456∧Big p):=fun h=>by omega
  simp only [g40,stdS,stdL,h62,h,h',d1,this,not_false_eq_true,ne_eq,not_true]
 by_cases d2:den>268435456
 ·have:¬ (1≤den∧den≤268435456∧Big p):=fun h=>by omega
  simp only [g40,stdS,stdL,h62,h,h',d1,d2,this,not_false_eq_true,ne_eq,not_true]
 have h53:=G53_one p
 by_cases hb:Big p
 case neg=>
  have:¬ (1≤den∧den≤268435456∧Big p):=fun h=>hb h.2.2
  simp only [g40,stdS,stdL,h62,h,h',d1,d2,this,List.drop_zero,List.take_succ_cons,List.take_zero,one_enc,one_take,h53,hb,Nat.le_refl,encP_len,not_false_eq_true,ne_eq,not_true,and_false]
 have hden:1≤den∧den≤268435456∧Big p:=⟨by omega,by omega,hb⟩
 have i1:=G57_fine hf hb (den:=den) (by omega) (by omega)
 have i2:=G57_fine hk hb (den:=den) (by omega) (by omega)
 by_cases k1:inC (corn (allS l hs)) p den=true
 ·by_cases k2:inC (corn (allS m ks)) p den=true
  ·simp only [g40,stdS,stdL,h62,h,h',d1,d2,hden,List.drop_zero,List.take_succ_cons,List.take_zero,one_enc,one_take,h53,hb,Nat.le_refl,encP_len,i1,i2,k1,k2,not_false_eq_true,ne_eq,not_true,and_self]
  ·have k2':inC (corn (allS m ks)) p den=false:=by simpa using k2
   simp only [g40,stdS,stdL,h62,h,h',d1,d2,hden,List.drop_zero,List.take_succ_cons,List.take_zero,one_enc,one_take,h53,hb,Nat.le_refl,encP_len,i1,i2,k1,k2',not_false_eq_true,ne_eq,not_true,and_self,and_false]
 ·have k1':inC (corn (allS l hs)) p den=false:=by simpa using k1
  simp only [g40,stdS,stdL,h62,h,h',d1,d2,hden,List.drop_zero,List.take_succ_cons,List.take_zero,one_enc,one_take,h53,hb,Nat.le_refl,encP_len,i1,i2,k1',not_false_eq_true,ne_eq,not_true,false_and,and_self,Bool.false_eq_true]
end Go.Am
end
section
namespace Go.Am
open M06
noncomputable def holdsV (l:List Pt) (hs:List (List Pt)) (p:Pt):Bool×Int:=
 if chkG l hs≠0 then (false,chkG l hs) else if ¬ Big p then (false,3) else (inC (corn (allS l hs)) p 1,0)
theorem G21_ok (l:List Pt) (hs:List (List Pt)) (p:Pt):G21 std (encP l,encH hs,p.1,p.2,())=some ((holdsV l hs p).1,(holdsV l hs p).2,()):=by
 unfold G21 holdsV
 have h53:g53 it0 std (-1099511627776,1099511627776,encP [p],())=some (decide (∀ x∈[p],inBox (-1099511627776) 1099511627776 x),()):=G53_ok _ _ [p] (by simp)
 have e1:decide (∀ x∈[p],inBox (-1099511627776) 1099511627776 x)=decide (Big p):=by
  rw [decide_eq_decide]; simp [Big]
 rw [e1] at h53
 by_cases h:chkG l hs=0
 ·have hf:=chk_fine.1 h
  have h48:g48 it0 std (encP l,encH hs,())=_:=G48_ok hf
  by_cases hb:Big p
  ·have h57:g57 it0 std (encP (corn (allS l hs)),p.1,p.2,1,())=_:=G57_ok hf.cyc hf.cbox' (by have:=corn_len hf; omega) hb (by omega) (by omega)
   simp only [g21,stdS,stdL,h48,h,not_true,List.drop_zero,List.take_succ_cons,List.take_zero,one_enc,one_take,h53,hb,h57,Nat.le_refl,encP_len,ne_eq]
  ·simp only [g21,stdS,stdL,h48,h,not_true,List.drop_zero,List.take_succ_cons,List.take_zero,one_enc,one_take,h53,hb,Nat.le_refl,encP_len,ne_eq,not_false_eq_true]
 ·have h48:g48 it0 std (encP l,encH hs,())=_:=G48_bad h
  simp only [g21,stdS,stdL,h48,h,not_false_eq_true,ne_eq]
noncomputable def outV (l:List Pt) (hs:List (List Pt)) (rule:List Pt):Pt×Int:=
 if chkG l hs≠0 then ((0,0),chkG l hs) else if ¬ manyP rule then ((0,0),6) else if ¬ ∀ p∈rule,inBox (-10000) 10000 p then ((0,0),3) else
 match (corn (allS l hs)).find? (fun p=>!inC (corn rule) p 1) with
 |some p=>(p,0)
 |none=>((0,0),5)
theorem rule_loop {rule c:List Pt} (hm:manyP rule) (hb:∀ p∈rule,inBox (-10000) 10000 p) (hlen:c.length≤60) (hcb:∀ p∈c,inBox (-5000) 5000 p):
  iter (c23_2 it0 std) ((0:Int),(0:Int),encP (corn rule),encP c,(c.length:Int),(0:Int),())=match c.find? (fun p=>!inC (corn rule) p 1) with
   |some p=>some (.inl (p.1,p.2,0,()))
   |none=>some (.inr (0,0,())):=by
 have hrn:rule≠[]:=by rintro rfl; have:=hm.1; simp at this
 have hrc:=corn_spec hrn
 have key:=iter_find (b:=c23_2 it0 std) c.length (fun i=>((0:Int),(0:Int),encP (corn rule),encP c,(c.length:Int),(i:Int),())) (fun i=>!inC (corn rule) (c.getD i (0,0)) 1) (fun i=> .inl ((c.getD i (0,0)).1,(c.getD i (0,0)).2,0,())) (.inr (0,0,())) (fun i hi=>by
  obtain ⟨a,ha⟩:=get_some hi
  have ga:=encP_get ha
  rw [lgetD ha]
  have hab:=hcb a (List.mem_of_getElem? ha)
  have h57:g57 it0 std (encP (corn rule),a.1,a.2,1,())=_:=G57_ok hrc (fun x hx=>hb x (cyc_mem hrc x hx)) (by have:=cyc_len hrc; have:=hm.2; omega) (p:=a) (by simp only [Big,inBox] at*; omega) (by omega) (by omega)
  have c1:(i:Int)<(c.length:Int):=by omega
  have c2:(i:Int)≥0:=by omega
  have hw:=wrap_nat (i:=i) (by omega)
  by_cases hin:inC (corn rule) a 1=true
  ·simp only [c23_2,stdS,stdL,cells_eP,dI_eP0,dI_eP1,eP_eq,encP_set,encP_len,std_ar_add,hw,c1,c2,ga,h57,hin]
  ·have hin:inC (corn rule) a 1=false:=by simpa using hin
   simp only [c23_2,stdS,stdL,cells_eP,dI_eP0,dI_eP1,eP_eq,encP_set,encP_len,std_ar_add,hw,c1,c2,ga,h57,hin]) (by
  have hn:¬ ((c.length:Int)<(c.length:Int)):=by omega
  simp only [c23_2,stdS,stdL,encP_len,hn])
 have e0:((0:Int),(0:Int),encP (corn rule),encP c,(c.length:Int),((0:Nat):Int),())=((0:Int),(0:Int),encP (corn rule),encP c,(c.length:Int),(0:Int),()):=rfl
 rw [e0] at key
 rcases key with ⟨i,i1,i2,i3,i4⟩|⟨i1,i2⟩
 ·rw [find_some (d:=(0,0)) i1 i2 i3]; exact i4
 ·rw [find_none (d:=(0,0)) i1]; exact i2
theorem G23_ok (l:List Pt) (hs:List (List Pt)) (rule:List Pt):G23 std (encP l,encH hs,encP rule,())=some ((outV l hs rule).1.1,(outV l hs rule).1.2,(outV l hs rule).2,()):=by
 unfold G23 outV
 by_cases h:chkG l hs=0
 case neg=>
  have h48:g48 it0 std (encP l,encH hs,())=_:=G48_bad h
  simp only [g23,stdS,stdL,h48,h,not_false_eq_true,ne_eq]
 have hf:=chk_fine.1 h
 have h48:g48 it0 std (encP l,encH hs,())=_:=G48_ok hf
 by_cases hm:manyP rule
 case neg=>simp only [g23,stdS,stdL,h48,h,G50_ok,hm,not_false_eq_true,ne_eq,not_true]
 have h53:g53 it0 std (-10000,10000,encP rule,())=some (decide (∀ x∈rule,inBox (-10000) 10000 x),()):=G53_ok _ _ rule (by have:=hm.2; omega)
 by_cases hb:∀ p∈rule,inBox (-10000) 10000 p
 case neg=>
  rw [decide_eq_false hb] at h53
  simp only [g23,stdS,stdL,h48,h,G50_ok,hm,h53,not_false_eq_true,ne_eq,not_true]
  rw [if_pos hb]
 rw [decide_eq_true hb] at h53
 have hrn:rule≠[]:=by rintro rfl; have:=hm.1; simp at this
 obtain ⟨b,hb1,hb2⟩:=G59_ok (l:=rule) hm.1 hm.2 (fun x hx=>small_box' (k:=10000) (by omega) (hb x hx))
 rw [←corn_eq hb2] at hb1
 have h59:g59 it0 std (encP rule,())=_:=hb1
 have h60:g60 it0 std (encP rule,())=_:=G60_ok (l:=rule) (by have:=hm.2; omega)
 have hl:=rule_loop hm hb (corn_len hf) hf.cbox
 rw [if_neg (by simp [h]),if_neg (by simp [hm]),if_neg (by simp only [Classical.not_not]; exact hb)]
 cases hfd:(corn (allS l hs)).find? (fun p=>!inC (corn rule) p 1) with
 |none=>
  rw [hfd] at hl
  simp only [g23,it0_eq,stdS,stdL,h48,h,G50_ok,hm,h53,h59,h60,hl,encP_len,not_true]
 |some q=>
  rw [hfd] at hl
  simp only [g23,it0_eq,stdS,stdL,h48,h,G50_ok,hm,h53,h59,h60,hl,encP_len,not_true]
end Go.Am
end
noncomputable section
namespace Go.Am
def ctr12:Ctr:=
 ⟨12,[.agg [.list 2, .list 1], .list 2, .int .u8, .list 1],[],[(.ret,⟨[(0, .bool)],[],1⟩)]⟩
def la12:List LA:=
 []
def ja12:List JA:=
 [⟨12,[false,false,true,true],0,[(AX.normal,⟨[(1, .list 2),(2, .int .u8),(3, .list 1),(4, .bptr 0 0),(9, .bptr 1 0),(30, .bool)],[.box [.list 2, .list 1], .box [.list 2, .nils]],88⟩)]⟩,
 ⟨12,[false,true,true,true,true,true,true,true],0,[(AX.normal,⟨[(8, .bool)],[],88⟩)]⟩,
 ⟨12,[true,false,true,true,true,true],0,[(AX.ret,⟨[(8, .bool)],[],88⟩),(AX.normal,⟨[(4, .bptr 0 0),(9, .bptr 1 0),(10, .bptr 2 0),(11, .int .i64)],[.box [.list 2, .list 1], .box [.list 2, .nils], .box [.int .i64, .int .i64]],88⟩)]⟩]
def gam12:List CF:=
 [⟨ctr21,G21⟩,⟨ctr40,G40⟩,⟨ctr33,G33⟩,⟨ctr23,G23⟩,⟨ctr15,G15⟩,⟨ctr29,G29⟩]
def an12:Anns:=
 ⟨gam12,ja12,[]⟩
def G12:(p:Prim)→(LD×(LD×(LD×(Int×(LD×Unit)))))→Option T2:=
 fun p x=>
 opt.bnd ((LD×(LD×(LD×(LD×(Int×(LD×(Bool×Unit)))))))) _ (
 opt.run ((LD×(LD×(LD×(LD×(Int×(LD×(Bool×Unit)))))))) (
 opt.bnd T2 _ (G29 p (x.1,(x.2.1,()))) fun a=>
 opt.ask _ (bif a.1 then Bool.false else Bool.true) (
 opt.ret _ (x.1,(x.2.1,(x.2.2.1,(x.2.2.1,(x.2.2.2.1,(x.2.2.2.2.1,(Bool.true,())))))))) (
 opt.bnd T2 _ (G29 p (x.2.2.1,([],()))) fun b=>
 opt.ask _ (bif b.1 then Bool.false else Bool.true) (
 opt.ret _ (x.1,(x.2.1,(x.2.2.1,(x.2.2.1,(x.2.2.2.1,(x.2.2.2.2.1,(Bool.true,())))))))) (
 opt.ret _ (x.1,(x.2.1,(x.2.2.1,(x.2.2.1,(x.2.2.2.1,(x.2.2.2.2.1,((p.cmp .gtr (p.ofNat (p.len x.2.2.2.2.1)) (50:Int)),()))))))))))) fun c=>
 opt.ask _ c.2.2.2.2.2.2.1 (
 opt.bnd T2 _ (G15 p ()) fun d=>
 opt.ret _ (d.1,())) (
 opt.bnd T7 _ (G23 p (c.1,(c.2.1,(c.2.2.2.1,())))) fun e=>
 opt.alt T2 ((LD×(LD×(LD×T6)))) _ (
 opt.run (((Bool×Unit)⊕(LD×(LD×(LD×(Int×(Int×(Int×Unit)))))))) (
 opt.ask _ (p.cmp .eql e.2.2.1 (5:Int)) (
 opt.ask _ (bif (p.cmp .eql e.1 (0:Int)) then (bif (p.cmp .eql e.2.1 (0:Int)) then Bool.true else Bool.false) else Bool.false) (
 opt.bnd T7 _ (G33 p (c.1,(c.2.1,(c.2.2.2.2.1,(c.2.2.2.2.2.1,()))))) fun f=>
 opt.bnd T0 _ (G40 p (c.1,(c.2.1,(c.2.2.1,([],(f.1,(f.2.1,(f.2.2.1,())))))))) fun g=>
 opt.ask _ (p.cmp .eql g.1 (0:Int)) (
 opt.bnd T2 _ (G15 p ()) fun h=>
 opt.ret _ (Sum.inl (h.1,()))) (
 opt.ret _ (Sum.inl (Bool.false,())))) (
 opt.ret _ (Sum.inl (Bool.false,())))) (
 opt.ret _ (Sum.inr (c.1,(c.2.1,(c.2.2.1,(e.1,(e.2.1,(e.2.2.1,())))))))))) (fun i=>
 opt.ret _ (i.1,())) (fun j=>
 opt.bnd ((LD×(LD×(LD×T6)))) _ (some j) fun k=>
 opt.bnd T34 _ (G21 p (k.1,(k.2.1,(k.2.2.2.1,(k.2.2.2.2.1,()))))) fun l=>
 opt.bnd T34 _ (G21 p (k.2.2.1,([],(k.2.2.2.1,(k.2.2.2.2.1,()))))) fun m=>
 opt.bnd T2 _ (
 opt.run T2 (
 opt.ask _ (p.cmp .eql k.2.2.2.2.2.1 (0:Int)) (
 opt.ask _ (p.cmp .eql l.2.1 (0:Int)) (
 opt.ask _ (p.cmp .eql m.2.1 (0:Int)) (
 opt.ask _ l.1 (
 opt.ask _ (bif m.1 then Bool.false else Bool.true) (
 opt.bnd T2 _ (G15 p ()) fun n=>
 opt.ret _ (n.1,())) (
 opt.ret _ (Bool.false,()))) (
 opt.ret _ (Bool.false,()))) (
 opt.ret _ (Bool.false,()))) (
 opt.ret _ (Bool.false,()))) (
 opt.ret _ (Bool.false,())))) fun o=>
 opt.ret _ (o.1,())))
theorem ok12:CtrOk PG ctr12 (G12 std):=okF (a:=an12) (l:=la12) (gC ok21 (gC ok40 (gC ok33 (gC ok23 (gC ok15 (gC ok29 (gN))))))) (by kernel_rfl) fun _ _=>by kernel_rfl
end Go.Am
end
section
namespace Go.Am
open M06
theorem encB8_len (l:List Int):(encB8 l).length=l.length:=by simp [encB8]
theorem encB8_get {l:List Int} {i:Nat} {n:Int} (h:l[i]?=some n):(encB8 l)[i]?=some (eB n):=by simp [encB8,h]
theorem cells_eB (n:Int):cellsOk [CK.int IntKind.u8] (eB n)=true:=rfl
theorem dI_eB (n:Int):dI ((eB n)[0]?.getD D.nilp)=n:=rfl
theorem u8_range {n:Int} (h:(Lit.int IntKind.u8 n).wf=true):0≤n∧n≤255:=by
 have h:IntKind.u8.min≤n∧n≤IntKind.u8.max:=by simpa [Lit.wf] using h
 have e1:IntKind.u8.min=0:=rfl
 have e2:IntKind.u8.max=255:=rfl
 omega
theorem G75_ok {l:List Pt} (hl:l≠[]) (hll:l.length≤1000) (hb:∀ x∈l,inBox (-1000) 1000 x) {n:Nat} (hn:n≤20) {bs:List Int} (hbs:∀ b∈bs,(Lit.int IntKind.u8 b).wf=true) (hbl:bs.length≤1000) {at':Nat} (hat:at'≤1000):
  ∃ ks:List Pt,G75 std (encP l,(n:Int),encB8 bs,(at':Int),())=some ((sumL ks).1,(sumL ks).2,())∧ks.length=n∧∀ x∈ks,x∈l:=by
 have hl1:1≤l.length:=List.length_pos_iff.2 hl
 have key:=iter_count (b:=b75_1 std) n (fun (ks:List Pt) (i:Nat)=>((0:Int),(0:Int),(sumL ks).1,(sumL ks).2,encP l,(n:Int),encB8 bs,(at':Int),(i:Int),())) (fun ks i=>ks.length=i∧∀ x∈ks,x∈l)
  (fun r=>∃ ks:List Pt,r=((0:Int),(0:Int),(sumL ks).1,(sumL ks).2,())∧ks.length=n∧∀ x∈ks,x∈l) (fun ks i hi ⟨h1,h2⟩=>by
  left
  have c1:(i:Int)<(n:Int):=by omega
  have c2:(i:Int)≥0:=by omega
  have hw:=wrap_nat (i:=i) (by omega)
  have hsum:∀ ks:List Pt,ks.length≤20→(∀ x∈ks,x∈l)→inBox (-20000) 20000 (sumL ks):=by
   intro ks
   have:∀ ks:List Pt,(∀ x∈ks,x∈l)→inBox (-(1000*(ks.length:Int))) (1000*(ks.length:Int)) (sumL ks):=by
    intro ks
    induction ks with
    |nil=>intro _; simp [sumL,inBox]
    |cons x ks ih=>
     intro h
     have b1:=hb x (h x (by simp))
     have b2:=ih (fun y hy=>h y (List.mem_cons_of_mem _ hy))
     rw [sumL_cons]
     simp only [inBox,ad,List.length_cons] at*
     omega
   intro hk h
   have:=this ks h
   simp only [inBox] at*
   omega
  have hb0:=hsum ks (by omega) h2
  have fin:∀ (j:Nat) (x:Pt),l[j]?=some x→IntKind.i64.wrap ((sumL ks).1+x.1)=(sumL (x::ks)).1∧IntKind.i64.wrap ((sumL ks).2+x.2)=(sumL (x::ks)).2:=by
   intro j x hx
   have b1:=hb x (List.mem_of_getElem? hx)
   rw [sumL_cons]
   simp only [inBox,ad] at*
   exact ⟨by rw [wrap64]<;>omega,by rw [wrap64]<;>omega⟩
  by_cases h0:bs.length=0
  ·obtain ⟨x,hx⟩:=get_some (l:=l) (i:=0) (by omega)
   obtain ⟨f1,f2⟩:=fin 0 x hx
   refine ⟨x::ks,?_,by simp [h1],fun y hy=>?_⟩
   ·have c3:¬ (bs.length:Int)>0:=by omega
    have gx:=encP_get hx
    simp only [b75_1,stdS,stdL,cells_eP,dI_eP0,dI_eP1,eP_eq,encP_set,encP_len,encB8_len,std_ar_add,hw,c1,c2,c3,Int.toNat_zero,gx,f1,f2,ge_iff_le,Int.le_refl]
   ·rcases List.mem_cons.1 hy with rfl|hy
    ·exact List.mem_of_getElem? hx
    ·exact h2 y hy
  ·obtain ⟨b,hbb⟩:=get_some (l:=bs) (i:=(at'+i) % bs.length) (Nat.mod_lt _ (by omega))
   have hbr:=u8_range (hbs b (List.mem_of_getElem? hbb))
   obtain ⟨x,hx⟩:=get_some (l:=l) (i:=b.toNat % l.length) (Nat.mod_lt _ (by omega))
   obtain ⟨f1,f2⟩:=fin _ x hx
   refine ⟨x::ks,?_,by simp [h1],fun y hy=>?_⟩
   ·have c3:(bs.length:Int)>0:=by omega
    have c4:¬ (bs.length:Int)=0:=by omega
    have c5:¬ (l.length:Int)=0:=by omega
    have w1:IntKind.i64.wrap ((at':Int)+(i:Int))=((at'+i:Nat):Int):=by rw [wrap64]<;>omega
    have w2:(((at'+i:Nat):Int)).tmod (bs.length:Int)=(((at'+i) % bs.length:Nat):Int):=by
     rw [Int.tmod_eq_emod_of_nonneg (by omega)]; rfl
    have w3:IntKind.i64.wrap b=b:=by rw [wrap64]<;>omega
    have w4:b.tmod (l.length:Int)=((b.toNat % l.length:Nat):Int):=by
     have:b=(b.toNat:Int):=by omega
     rw [this,Int.tmod_eq_emod_of_nonneg (by omega)]
     simp
    have c6:(((at'+i) % bs.length:Nat):Int)≥0:=by omega
    have c7:((b.toNat % l.length:Nat):Int)≥0:=by omega
    have gx:=encP_get hx
    have gb:=encB8_get hbb
    simp only [b75_1,stdS,stdL,cells_eP,dI_eP0,dI_eP1,eP_eq,encP_set,encP_len,encB8_len,cells_eB,dI_eB,std_ar_add,std_ar_rem,hw,c1,c2,c3,c4,c5,c6,c7,w1,w2,w3,w4,gx,gb,f1,f2,not_false_eq_true]
   ·rcases List.mem_cons.1 hy with rfl|hy
    ·exact List.mem_of_getElem? hx
    ·exact h2 y hy) (fun ks ⟨h1,h2⟩=>by
  have hn':¬ ((n:Int)<(n:Int)):=by omega
  exact ⟨((0:Int),(0:Int),(sumL ks).1,(sumL ks).2,()),by simp only [b75_1,stdS,stdL,hn'],ks,rfl,h1,h2⟩) [] 0 (Nat.zero_le _) ⟨rfl,by simp⟩
 obtain ⟨r,h1,ks,h2,h3,h4⟩:=key
 subst h2
 refine ⟨ks,?_,h3,h4⟩
 unfold G75
 have e0:(sumL ([]:List Pt)).1=0:=rfl
 have e1:(sumL ([]:List Pt)).2=0:=rfl
 have k0:((0:Nat):Int)=0:=rfl
 rw [e0,e1,k0] at h1
 simp only [g75,it0_eq,stdS,stdL,h1]
theorem sum_zip:∀ {a b:List Pt},a.length=b.length→sumL (List.zipWith ad a b)=ad (sumL a) (sumL b)
 |[],[],_=>rfl
 |x::a,y::b,h=>by
  have:=sum_zip (a:=a) (b:=b) (by simpa using h)
  rw [List.zipWith_cons_cons,sumL_cons,sumL_cons,sumL_cons,this]
  simp only [ad]; exact Prod.ext (by simp; omega) (by simp; omega)
theorem zip_sums2 {A B a b:List Pt} (ha:∀ x∈a,x∈A) (hb:∀ x∈b,x∈B):∀ z∈List.zipWith ad a b,z∈sums2 A B:=by
 intro z hz
 obtain ⟨i,hi⟩:=List.getElem?_of_mem hz
 rw [List.getElem?_zipWith] at hi
 cases h1:a[i]? with
 |none=>simp [h1] at hi
 |some x=>
  cases h2:b[i]? with
  |none=>simp [h1,h2] at hi
  |some y=>
   simp [h1,h2] at hi
   exact (mem_sums2 z).2 ⟨x,ha x (List.mem_of_getElem? h1),y,hb y (List.mem_of_getElem? h2),hi.symm⟩
def partsOf (n:Int):Int:=1+n % 20
theorem box_sum {A:List Pt} (hA:∀ x∈A,inBox (-5000) 5000 x):∀ {ks:List Pt},ks.length≤20→(∀ x∈ks,x∈A)→inBox (-100000) 100000 (sumL ks):=by
 have:∀ ks:List Pt,(∀ x∈ks,x∈A)→inBox (-(5000*(ks.length:Int))) (5000*(ks.length:Int)) (sumL ks):=by
  intro ks
  induction ks with
  |nil=>intro _; simp [sumL,inBox]
  |cons x ks ih=>
   intro h
   have b1:=hA x (h x (by simp))
   have b2:=ih (fun y hy=>h y (List.mem_cons_of_mem _ hy))
   rw [sumL_cons]
   simp only [inBox,ad,List.length_cons] at*
   omega
 intro ks hk h
 have:=this ks h
 simp only [inBox] at*
 omega
theorem G33_ok {l:List Pt} {hs:List (List Pt)} (hf:Fine l hs) {n:Int} (hn:(Lit.int IntKind.u8 n).wf=true) {bs:List Int} (hbs:∀ b∈bs,(Lit.int IntKind.u8 b).wf=true) (hbl:bs.length≤1000):
  ∃ ks:List Pt,G33 std (encP l,encH hs,n,encB8 bs,())=some ((sumL ks).1,(sumL ks).2,partsOf n,())∧(ks.length:Int)=partsOf n∧(∀ x∈ks,x∈allS l hs):=by
 have hr:=u8_range hn
 obtain ⟨m,hm⟩:∃ m:Nat,(m:Int)=partsOf n:=⟨(partsOf n).toNat,by unfold partsOf; omega⟩
 have hm20:m≤20:=by unfold partsOf at hm; omega
 have hlb:∀ x∈l,inBox (-1000) 1000 x:=fun x hx=>by obtain ⟨a,b,c,d⟩:=hf.box x hx; exact ⟨by omega,by omega,by omega,by omega⟩
 obtain ⟨k0,h1,h2,h3⟩:=G75_ok hf.ne (by have:=hf.many.2; omega) hlb hm20 hbs hbl (at':=0) (by omega)
 have key:=iter_count (b:=c33_1 it0 std) hs.length (fun (ks:List Pt) (i:Nat)=>(encP l,encH hs,(0:Int),(0:Int),(0:Int),(sumL ks).1,(sumL ks).2,encB8 bs,(m:Int),(i:Int),())) (fun ks i=>ks.length=m∧∀ x∈ks,x∈allS l (hs.take i))
  (fun r=>∃ ks:List Pt,r=((0:Int),(0:Int),(0:Int),(sumL ks).1,(sumL ks).2,(m:Int),())∧ks.length=m∧∀ x∈ks,x∈allS l hs) (fun ks i hi ⟨i1,i2⟩=>by
  left
  obtain ⟨h,hh⟩:=get_some hi
  have hmem:=List.mem_of_getElem? hh
  have gh:=encH_get hh
  have h4:=hf.few
  have him:(i+1)*m≤5*20:=Nat.mul_le_mul (by omega) hm20
  obtain ⟨qs,q1,q2,q3⟩:=G75_ok (hf.neH h hmem) (by have:=(hf.manyH h hmem).2; omega) (hf.boxH h hmem) hm20 hbs hbl (at':=(i+1)*m) (by omega)
  have c1:(i:Int)<(hs.length:Int):=by omega
  have c2:(i:Int)≥0:=by omega
  have hw:=wrap_nat (i:=i) (by omega)
  have hw2:IntKind.i64.wrap (((i+1:Nat):Int)*(m:Int))=(((i+1)*m:Nat):Int):=by
   rw [←Int.natCast_mul]
   rw [wrap64]<;>omega
  have b1:=box_sum (hf.take i).boxA (ks:=ks) (by omega) i2
  have b2:=box_sum (A:=h) (fun x hx=>by obtain ⟨a,b,c,d⟩:=hf.boxH h hmem x hx; exact ⟨by omega,by omega,by omega,by omega⟩) (ks:=qs) (by omega) q3
  have e1:(sumL (List.zipWith ad ks qs))=ad (sumL ks) (sumL qs):=sum_zip (by omega)
  have w1:IntKind.i64.wrap ((sumL ks).1+(sumL qs).1)=(sumL (List.zipWith ad ks qs)).1:=by
   rw [e1]; simp only [inBox,ad] at*; rw [wrap64]<;>omega
  have w2:IntKind.i64.wrap ((sumL ks).2+(sumL qs).2)=(sumL (List.zipWith ad ks qs)).2:=by
   rw [e1]; simp only [inBox,ad] at*; rw [wrap64]<;>omega
  refine ⟨List.zipWith ad ks qs,?_,by simp; omega,?_⟩
  ·have q1':g75 it0 std (encP h,(m:Int),encB8 bs,(((i+1)*m:Nat):Int),())=_:=q1
   simp only [c33_1,stdS,stdL,encH_len,std_ar_add,std_ar_mul,hw,hw2,c1,c2,gh,cells_eH,dL_eH,q1',w1,w2]
  ·rw [take_append_one hh,allS_snoc]
   exact zip_sums2 i2 q3) (fun ks ⟨i1,i2⟩=>by
  have hn':¬ ((hs.length:Int)<(hs.length:Int)):=by omega
  rw [List.take_length] at i2
  exact ⟨((0:Int),(0:Int),(0:Int),(sumL ks).1,(sumL ks).2,(m:Int),()),by simp only [c33_1,stdS,stdL,encH_len,hn'],ks,rfl,i1,i2⟩) k0 0 (Nat.zero_le _) ⟨h2,h3⟩
 obtain ⟨r,r1,ks,r2,r3,r4⟩:=key
 subst r2
 refine ⟨ks,?_,by rw [r3,hm],r4⟩
 unfold G33
 have w1:IntKind.i64.wrap n=n:=by rw [wrap64]<;>omega
 have w2:n.tmod 20=n % 20:=Int.tmod_eq_emod_of_nonneg hr.1
 have w3:IntKind.i64.wrap (1+n % 20)=(m:Int):=by
  rw [hm]; unfold partsOf; rw [wrap64]<;>omega
 have h1':g75 it0 std (encP l,(m:Int),encB8 bs,0,())=_:=h1
 have k0':((0:Nat):Int)=0:=rfl
 rw [k0'] at r1
 rw [←hm]
 simp only [g33,it0_eq,stdS,stdL,std_ar_add,std_ar_rem,w1,w2,w3,h1',r1,show ¬ (20:Int)=0 by decide,not_false_eq_true]
theorem light_in {S c:List Pt} (hc:Cyc S c) {ks:List Pt} (h:∀ x∈ks,x∈S):InH c (sumL ks) (ks.length:Int):=by
 intro d
 obtain ⟨a,ha,hall⟩:=cyc_far hc d
 refine ⟨a,ha,?_⟩
 have:∀ ks:List Pt,(∀ x∈ks,x∈S)→0≤crs d (sb (sumL ks) (ml a (ks.length:Int))):=by
  intro ks
  induction ks with
  |nil=>intro _; simp [sumL,ml,crs,sb]
  |cons x ks ih=>
   intro h
   have h1:=hall x (h x (by simp))
   have h2:=ih (fun y hy=>h y (List.mem_cons_of_mem _ hy))
   have e:crs d (sb (sumL (x::ks)) (ml a ((x::ks).length:Int)))=crs d (sb x a)+crs d (sb (sumL ks) (ml a (ks.length:Int))):=by
    rw [sumL_cons]
    simp only [crs,sb,ml,ad,List.length_cons]
    have:(((ks.length+1:Nat)):Int)=(ks.length:Int)+1:=by omega
    rw [this]; grind
   omega
 exact this ks h
theorem InH.trans {S T:List Pt} {p:Pt} {k:Int} (hk:0≤k) (h:InH S p k) (hs:∀ x∈S,InH T x 1):InH T p k:=by
 intro d
 obtain ⟨x,hx,h0⟩:=h d
 obtain ⟨y,hy,h1⟩:=hs x hx d
 refine ⟨y,hy,?_⟩
 rw [sb_ml p x y k d]
 have e:crs d (sb x (ml y 1))=crs d (sb x y):=by simp [ml]
 rw [e] at h1
 have:=Int.mul_nonneg hk h1
 omega
theorem InH.point {S:List Pt} {p:Pt} (h:p∈S):InH S p 1:=fun d=>⟨p,h,by simp [crs,sb,ml]⟩
theorem parts_range {n:Int} (hn:(Lit.int IntKind.u8 n).wf=true):1≤partsOf n∧partsOf n≤20:=by
 have:=u8_range hn
 unfold partsOf; omega
theorem G12_ok (l:List Pt) (hs:List (List Pt)) (rule:List Pt) (n:Int) (hn:(Lit.int IntKind.u8 n).wf=true) (bs:List Int) (hbs:∀ b∈bs,(Lit.int IntKind.u8 b).wf=true):
  G12 std (encP l,encH hs,encP rule,n,encB8 bs,())=some (true,()):=by
 unfold G12
 have h29:=G29_ok l hs
 have h29r:G29 std (encP rule,[],())=some (decide (Fine rule []),()):=G29_ok rule []
 by_cases hf:Fine l hs
 case neg=>simp only [stdS,stdL,h29,hf,G15_ok]
 by_cases hr:Fine rule []
 case neg=>simp only [stdS,stdL,h29,h29r,hf,hr,G15_ok]
 by_cases hb:(bs.length:Int)>50
 ·simp only [stdS,stdL,h29,h29r,hf,hr,encB8_len,hb,G15_ok]
 have h23:=G23_ok l hs rule
 have hc:=chk_fine.2 hf
 have hcr:=chk_fine.2 hr
 have hbox:∀ p∈rule,inBox (-10000) 10000 p:=fun p hp=>by obtain ⟨a,b,c,d⟩:=hr.box p hp; exact ⟨by omega,by omega,by omega,by omega⟩
 have ho:outV l hs rule=match (corn (allS l hs)).find? (fun p=>!inC (corn rule) p 1) with|some p=>(p,0)|none=>((0,0),5):=by
  unfold outV
  rw [if_neg (by simp [hc]),if_neg (by simp [hr.many]),if_neg (by simp only [Classical.not_not]; exact hbox)]
  try rfl
 have hrc:Cyc rule (corn rule):=corn_spec hr.ne
 cases hfd:(corn (allS l hs)).find? (fun p=>!inC (corn rule) p 1) with
 |none=>
  rw [hfd] at ho
  simp only at ho
  rw [ho] at h23
  simp only at h23
  obtain ⟨ks,k1,k2,k3⟩:=G33_ok hf hn hbs (by omega)
  have h40:G40 std (encP l,encH hs,encP rule,[],(sumL ks).1,(sumL ks).2,partsOf n,())=_:=G40_ok l hs rule [] (sumL ks) (partsOf n)
  have hp:=parts_range hn
  have hlight:=light_in hf.cyc k3
  rw [k2] at hlight
  have hbig:Big (sumL ks):=by
   have:=box_sum hf.boxA (ks:=ks) (by omega) k3
   simp only [Big,inBox] at*; omega
  have i1:inC (corn (allS l hs)) (sumL ks) (partsOf n)=true:=(inC_iff hf.cyc (by omega)).2 hlight
  have i2:inC (corn (allS rule [])) (sumL ks) (partsOf n)=true:=by
   refine (inC_iff (S:=rule) hrc (by omega)).2 (InH.trans (by omega) hlight fun x hx=>?_)
   have:=List.find?_eq_none.1 hfd x hx
   simp only [Bool.not_eq_true,Bool.not_eq_false'] at this
   exact (inC_iff hrc (by omega)).1 this
  have hv:bothV l hs rule [] (sumL ks) (partsOf n)=0:=by
   unfold bothV
   rw [if_neg (by simp [hc]),if_neg (by simp [hcr]),if_neg (by simp only [Classical.not_not]; exact ⟨by omega,by omega,hbig⟩),if_pos ⟨i1,i2⟩]
  rw [hv] at h40
  simp only [stdS,stdL,h29,h29r,hf,hr,encB8_len,hb,h23,k1,h40,G15_ok]
 |some p=>
  rw [hfd] at ho
  simp only at ho
  rw [ho] at h23
  simp only at h23
  have hpc:=List.mem_of_find?_eq_some hfd
  have hpn:=List.find?_some hfd
  have hpn:inC (corn rule) p 1=false:=by simpa using hpn
  have hbig:Big p:=by
   have:=hf.cbox p hpc
   simp only [Big,inBox] at*; omega
  have h21:=G21_ok l hs p
  have h21r:G21 std (encP rule,[],p.1,p.2,())=_:=G21_ok rule [] p
  have v1:holdsV l hs p=(true,0):=by
   unfold holdsV
   rw [if_neg (by simp [hc]),if_neg (by simp [hbig]),(inC_iff hf.cyc (by omega)).2 (InH.point hpc)]
  have v2:holdsV rule [] p=(false,0):=by
   unfold holdsV
   rw [if_neg (by simp [hcr]),if_neg (by simp [hbig])]
   show (inC (corn rule) p 1,(0:Int))=_
   rw [hpn]
  rw [v1] at h21
  rw [v2] at h21r
  simp only at h21 h21r
  simp only [stdS,stdL,h29,h29r,hf,hr,encB8_len,hb,h23,h21,h21r,G15_ok,show ¬ (0:Int)=5 by decide]
end Go.Am
end
section
namespace Go.Proofs.Ytolfgnbldofcjaa
open Go.ChangeShapes Go.WideShapes Go.ChangeAt Go.RowKit Go.Am
theorem walk12 {e0:List (List D)} {e1:List (List D)} {e2:List (List D)} {e3:Int} {e4:List (List D)} (h:G12 std (e0,e1,e2,e3,e4,())=some (true,())):∃ h',ARet Try.prog 12 (toA [.agg [.list false 2 e0, .list false 1 e1], .list false 2 e2, .int .u8 e3, .list false 1 e4]) [] (.d (.bool true)) h':=by
 have:=(ok12.2 (e0,e1,e2,e3,e4,()) (true,()) h).2
 exact ⟨_,this⟩
theorem shp12:shps Try.prog 6 Try.f12.params.toList=true:=by kernel_rfl
theorem rt12:Try.f12.resultTypes=#[Try.f12.resultTypes.getD 0 0]:=by kernel_rfl
theorem rb12:Try.prog.underlying (Try.f12.resultTypes.getD 0 0)=some .bool:=by kernel_rfl
theorem bools12:Try.f12.params.toList.all (fun t=>decide (t<Try.prog.types.size))=true:=by kernel_rfl
set_option maxRecDepth 100000 in
theorem contract12 (H:Type) (enc:TypeId×Value→H) (W:World) (base:Nat) (args:Array Value) (ds gs:List (DataW H)) (before:List MemPlace)
  (hval:∀ (j:Nat) t v,Try.f12.params[j]?=some t→args[j]?=some v→Value.okWide Try.prog W .any base t v)
  (hW:DataW.Whole enc Try.prog Try.f12.params.toList Rows.signalAllowedSpec.vars false W args.toList ds gs before):
  Calls Try.prog 12 args W fun e W'=>∃ v,e= .returned v∧Rows.signalAllowedSpec.post enc Try.prog Try.f12 false true false false W args v W':=by
 have hW':=hW
 obtain ⟨p,q,hA0,hV,rfl,hfz,hnd⟩:=hW
 have hA:DataW.TrodAll enc Try.prog W 0 (fun _=>true) true Try.f12.params.toList args.toList ds p:=hA0
 obtain ⟨xs,h1,h2,h3⟩:=args_ok (O:=fun _=>False) (fun _ h=>h) shp12 (hval_list hval) hA
 have hd:∃ x0 x1 x2 x3,xs=[x0,x1,x2,x3]∧(∃ ds,x0= .agg ds∧DKs [.list [.int .i64, .int .i64], .list [.list [.int .i64, .int .i64]]] ds)∧(DK (.list [.int .i64, .int .i64]) x1)∧(DK (.int .u8) x2)∧(DK (.list [.int .u8]) x3):=by
  match xs,h1 with
  |[x0,x1,x2,x3],h1=>exact ⟨x0,x1,x2,x3,rfl,h1.1,h1.2.1,h1.2.2.1,h1.2.2.2.1⟩
 obtain ⟨x0,x1,x2,x3,rfl,k0,k1,k2,k3⟩:=hd
 obtain ⟨l0,h0,rfl⟩:=glass_of k0
 obtain ⟨l1,rfl⟩:=places_of k1
 obtain ⟨n2,rfl,wf2⟩:=u8_of k2
 obtain ⟨l3,rfl,wf3⟩:=bytes_of k3
 obtain ⟨h',hr⟩:=walk12 (G12_ok l0 h0 l1 n2 wf2 l3 wf3)
 exact (calls_of_aret hr h2 h3).mono fun e W' ⟨he,hs⟩=>⟨_,he,law_post laid rowed sized bools12 rfl rt12 rb12 (fun ds hd=>by
  match ds,hd with
  |[d0,d1,d2,d3],_=>exact ⟨rfl,rfl,rfl⟩) hW' hs⟩
set_option maxRecDepth 100000 in
theorem lifted12 (os:Os) (started:os.Started) (H:Type) (enc:TypeId×Value→H):
  ReturnsInHanded {} Try.checked os 12 .any (Rows.signalAllowedSpec.pre6 enc Try.prog Try.f12 Rows.signalAllowedRow.domain false) (Rows.signalAllowedSpec.post enc Try.prog Try.f12 false true false false):=by
 refine returnsInHanded_of_change (C:=Try.checked) own started (by kernel_rfl) Try.func12
  (ChangeSpec.witness6 (enc:=enc) (C:=Try.checked) false ⟨#[],#[.agg #[.slice none 0 0, .slice none 0 0], .slice none 0 0, .int .u8 0, .slice none 0 0],[]⟩ 8 (by kernel_rfl) (by kernel_rfl) (by kernel_rfl) (by kernel_rfl)) ?_
 intro W base args ds gs before hval hW _ _
 exact contract12 H enc W base args ds gs before hval hW
set_option maxRecDepth 100000 in
theorem signalAllowed_over:Rows.signalAllowedRow.holds Try.pinned (OpenSpec.ofChange Rows.signalAllowedSpec):=
 OpenClaim.holds_of_wide 12 Try.f12 rfl rfl rfl rfl rfl rfl rfl ⟨rfl,rfl,rfl,rfl,rfl⟩ rfl rfl rfl rfl rfl (by kernel_rfl) Try.func12 (by kernel_rfl)
  (of_decide_eq_true (by kernel_rfl)) (by unfold Func.isWrapper; first|(rw [if_pos (by decide+kernel)]; kernel_rfl)|(rw [if_neg (by decide+kernel)]; exact ⟨rfl,rfl⟩))
  (fun os started H enc _=>lifted12 os started H enc)
theorem signalAllowed_holds:Rows.SignalAllowedSaid:=signalAllowed_over
end Go.Proofs.Ytolfgnbldofcjaa
end
