/- Texts of this claim. -/
import Derived.Test.YtejcgpekgbiooaaGreatDoorT13
import Derived.Test.YtejcgpekgbiooaaGreatDoorProg
import Derived.KernelRfl
import Derived.Test.YtejcgpekgbiooaaGreatDoorRows
import Derived.Lib.LaidTab
import Derived.LaidLaws
import Derived.OpenShut
import Derived.Shelf.Vars
import Derived.Lay
import Derived.JoinedCond
import Derived.JoinedOf
import Derived.JoinedAt
import Derived.WalkKit
import Derived.ProofKit
import Derived.LaidMore
import Derived.Stop.Joined
set_option linter.unusedVariables false
set_option linter.unusedSimpArgs false
set_option linter.unusedSectionVars false
set_option maxRecDepth 100000
set_option maxHeartbeats 0
open Nat renaming zero_le → eAo,le_refl → eAj,zero_add → eAq,le_trans → eBk,sub_self → eFl,ble_eq_true_of_le → eBj,add_assoc → eBv,mod_lt → eFc,eq_of_beq_eq_true → eAd
open List renaming getElem?_eq_some_iff → eAa,mem_range → eBs,mem_of_find?_eq_some → eCy,mem_of_getElem? → eAi,length_replicate → eDu,drop_zero → eBz,take_of_length_le → eBd,mem_cons → eAm,nodup_append → eDw,mem_cons_self → eAu,mem_of_getLast? → eDi,mem_append_left → eCw,mem_filter → eAz,mem_append → eCb,mem_singleton → eBh,map_append → eFf,map_cons → eDq,ext_getElem? → eBt,getElem?_map → eAf,getElem?_range → eDz,getElem?_set_ne → eDj,getElem?_append_left → eCl,getElem?_append_right → eDm,getElem?_eq_none → eCq,foldl_cons → eCj,idxOf_lt_length_of_mem → eCc,take_append_drop → eFg,length_take → eBo,take_add_one → eCs,length_map → eAy,length_append → eCv,take_zero → eFi,getElem?_cons_zero → eCt,length_nil → eDn,append_nil → eCp,map_set → eFe,take_length → eBi,getElem?_set → eBu,filter_cons → eFb,getElem?_take → eDs,length_set → eCd,pairwise_iff_getElem → eCm,mem_iff_getElem → eBy,getElem?_eq_getElem → eAb,getD_eq_getElem?_getD → eAn,getElem_mem → eCk,length_pos_iff → eFm,mem_map → eBe,getElem_idxOf → eCi,any_eq_true → eBq,any_eq_false → eDx,all_eq_true → eAx,getElem?_drop → eCg,mem_cons_of_mem → eBc
open Int renaming le_refl → eCo
open Option renaming map_some → eAw,getD_some → eBb,bind_some → eBp
open Bool renaming false_eq_true → eAg,and_self → eDy,not_true → eDl,not_false → eDd,and_true → eCu,and_eq_true → eAc
open Go.Proofs.Tryz renaming prog → PG
section
namespace Go.Am
open Go Go.RowKit Go.Proofs
theorem u5t:z9t (v09 t2e orcU 400 16 []) (.d (.bool true))=true:=by kernel_rfl
def v02:Ctr:=⟨16,[],[],[(.ret,⟨[(0, .bool)],[],1⟩)]⟩
def G16 (_:Prim) (_:Unit):Option (Bool×Unit):=some (true,())
def F16:Prim→Tup (v02).scs→Option (STup (scss (v02).outs)):=fun p x=>G16 p x
theorem ok16:CtrOk Tryz.prog v02 (F16 std):=by
 refine ⟨enters_of Tryz.func16 rfl rfl,fun x y a=>?_⟩
 cases a
 refine ⟨eAo _,?_⟩
 show z3m _ 16 [] [] (.d (.bool true)) []
 exact w0p (y7q follows_mixed) (w4p v6m _ _) u5t
end Go.Am
end
noncomputable section
namespace Go.Am
def ctr5:Ctr:=
 ⟨5,[.list 4, .list 4, .int .i64],[],[(.ret,⟨[(0, .bool)],[],1⟩)]⟩
def la5:List LA:=
 []
def ja5:List JA:=
 [⟨5,[fU,fU,tU],0,[(AX.normal,⟨[(0, .list 4),(1, .list 4),(2, .int .i64),(24, .bool)],[],98⟩)]⟩,
 ⟨5,[fU,tU,tU,tU,tU,tU,tU,tU,tU],0,[(AX.normal,⟨[(6, .bool)],[],98⟩)]⟩]
def gam5:List CF:=
 [⟨u1s,G32⟩,⟨u1t,G31⟩,⟨u1u,G29⟩,⟨u1v,G28⟩,⟨u1w,G27⟩,⟨u1o,G36⟩,⟨u1p,G35⟩,⟨u1q,G34⟩,⟨u1r,G33⟩,⟨v00,F30⟩,⟨v02,F16⟩,⟨u1z,G15⟩]
def an5:Anns:=
 ⟨gam5,ja5,[]⟩
def G5:(p:Prim)→V19v→Option (V4v):=
 fun p x=>
 opt.bnd ((LD×(LD×V29v))) _ (
 opt.run ((LD×(LD×V29v))) (
 opt.bnd (V4v) _ (G15 p (x.1,())) fun a=>
 opt.ask _ a.1 (
 opt.ret _ (x.1,(x.2.1,(x.2.2.1,(Bool.true,()))))) (
 opt.bnd (V4v) _ (G15 p (x.2.1,())) fun b=>
 opt.ret _ (x.1,(x.2.1,(x.2.2.1,b)))))) fun c=>let A:=(c.1,());
 opt.ask _ c.2.2.2.1 (
 opt.bnd (V4v) _ (G16 p ()) fun d=>
 opt.ret _ d) (
 opt.bnd (V11v) _ (G27 p A) fun e=>
 opt.bnd (V11v) _ (G28 p A) fun f=>
 opt.bnd (V11v) _ (G29 p A) fun g=>
 opt.bnd (V11v) _ (G30 p A) fun h=>
 opt.bnd (V11v) _ (G31 p (c.1,(c.2.2.1,()))) fun i=>
 opt.bnd (V11v) _ (G32 p (c.1,(c.2.2.1,()))) fun j=>
 opt.bnd (V4v) _ (
 opt.run (V4v) (
 opt.need _ (p.and (p.leN (p.add 0 (p.len e.1)) (p.len e.1)) (p.and (p.leN (p.add 0 (p.len f.1)) (p.len f.1)) Bool.true))<|
 opt.bnd (V4v) _ (G33 p ((p.cut e.1 0 (p.len e.1)),((p.cut f.1 0 (p.len f.1)),()))) fun k=>
 opt.ask _ k.1 (
 opt.ask _ (p.cmp .eql e.2.1 f.2.1) (
 opt.need _ (p.and (p.leN (p.add 0 (p.len g.1)) (p.len g.1)) (p.and Bool.true Bool.true))<|
 opt.bnd (V4v) _ (G34 p ((p.cut g.1 0 (p.len g.1)),(h.1,()))) fun l=>
 opt.ask _ l.1 (
 opt.ask _ (p.cmp .eql g.2.1 h.2.1) (
 opt.need _ (p.and (p.leN (p.add 0 (p.len i.1)) (p.len i.1)) (p.and (p.leN (p.add 0 (p.len j.1)) (p.len j.1)) Bool.true))<|
 opt.bnd (V4v) _ (G34 p ((p.cut i.1 0 (p.len i.1)),((p.cut j.1 0 (p.len j.1)),()))) fun m=>
 opt.ask _ m.1 (
 opt.ask _ (p.cmp .eql i.2.1 j.2.1) (
 opt.bnd (V1v) _ (G35 p (c.1,(c.2.1,()))) fun n=>
 opt.bnd (V1v) _ (G36 p (c.1,(c.2.1,()))) fun o=>
 opt.ask _ (p.cmp .eql n.1 o.1) (
 opt.bnd (V4v) _ (G16 p ()) fun q=>
 opt.ret _ q) (
 opt.ret _ (Bool.false,()))) (
 opt.ret _ (Bool.false,()))) (
 opt.ret _ (Bool.false,()))) (
 opt.ret _ (Bool.false,()))) (
 opt.ret _ (Bool.false,()))) (
 opt.ret _ (Bool.false,()))) (
 opt.ret _ (Bool.false,())))) fun r=>
 opt.ret _ r)
theorem ok5:CtrOk PG ctr5 (G5 std):=okF vE (a:=an5) (l:=la5) (gC ok32 (gC ok31 (gC ok29 (gC ok28 (gC ok27 (gC ok36 (gC ok35 (gC ok34 (gC ok33 (gC ok30 (gC ok16 (gC ok15 (gN)))))))))))))
end Go.Am
end
section
namespace Go.Am
open D12
variable {fl fl':List Int→Bool}
def u4c (b:List Th):Prop:=b.length≤1000∧(b.map (·.num)).Nodup∧∀ t∈b,0≤t.val∧t.val≤1000000∧0≤t.hrs∧t.hrs≤10000
end Go.Am
end
section
namespace Go.Am
open D12
variable {fl fl':List Int→Bool}
def u4d (m:Nat) (b:List Th):Prop:=b.length≤m∧(b.map (·.num)).Nodup∧∀ t∈b,0≤t.val∧t.val≤1000000∧0≤t.hrs∧t.hrs≤10000
theorem u4d.ok {m:Nat} {b:List Th} (h:u4d m b) (hm:m≤1000):u4c b:=⟨by have:=h.1; omega,h.2⟩
def no:Sf:=fun _=>none
end Go.Am
end
section
namespace Go.Am
open D12
variable {fl fl':List Int→Bool}
def nums (b:List Th):List Int:=b.map (·.num)
end Go.Am
end
section
namespace Go.Am
open D12
variable {fl fl':List Int→Bool}
def y3u (S:List Int):Nat→Int
 |0=>0
 |k+1=>S.getD k 0
end Go.Am
end
section
namespace Go.Am
open D12
variable {fl fl':List Int→Bool}
theorem w0o {l:List Cd} {c:Cd} (b:(l.map (·.n)).Nodup) {i:Nat} (h:l[i]?=some c):atI l c.n=(i:Int):=by
 unfold atI atO
 cases a:(List.range l.length).find? (fun i=>decide ((l.getD i default).n=c.n)) with
 |none=>
  rw [List.find?_eq_none] at a
  have f:i<l.length:=(eAa.1 h).1
  have:=a i (eBs.2 f)
  rw [z02 h] at this
  simp at this
 |some j=>
  have e:=List.find?_some a
  have g:=eBs.1 (eCy a)
  obtain ⟨m,hm⟩:=z0i g
  rw [z02 hm] at e
  simp only [decide_eq_true_eq] at e
  have d:m=c:=z2j b m (eAi hm) c (eAi h) e
  subst d
  show (j:Int)=i
  rw [←y1b b h, ←y1b b hm]
end Go.Am
end
section
namespace Go.Am
open D12
variable {fl fl':List Int→Bool}
theorem v71 (l:List Int) (m:l.length≤1000000) (j:l.Nodup):v73 std (z0e l,())=some (z0e (srt l),()):=by
 have c:=(srt_perm l).length_eq
 obtain ⟨R,k,i,hR,e⟩:=x7y (srt l) (by omega)
 have d:¬ Adj (srt l):=fun h=>z9r h ((srt_perm l).nodup_iff.2 j)
 have e:R=srt l∧k=(srt l).length:=by
  rcases e with ⟨_,g,f⟩|⟨h,_⟩
  ·exact ⟨g,f⟩
  ·exact absurd h d
 obtain ⟨rfl,rfl⟩:=e
 have b:=x7z l m
 rw [c] at i
 unfold v73
 have g:(0:Int)≤l.length:=by omega
 have f:(l.length:Int)≤1000000:=by omega
 simp only [z0k,z0l,z0q,Int.reduceLT,Int.reduceEq,Int.reduceLE,z0r,g,f,eDu,eAj,eCo,eAq]
 have a:=spl l
 simp only [z0r,eAq] at a
 simp only [a,b,z0k,z0l,i,z0r,c,eAj,eBz]
 have:(z0e (srt l)).take l.length=z0e (srt l):=eBd (by rw [z0r,c]; exact eAj _)
 simp [this]
namespace D12
def mxl (L:List (Int×Nat)):List Int→Nat
 |[]=>0
 |x::t=>max ((z1y L x).getD 0) (mxl L t)
theorem w40 {L:List (Int×Nat)} {t:List Int} {m:Nat}:mxl L t≤m↔∀ x∈t,(z1y L x).getD 0≤m:=by
 induction t with
 |nil=>simp [mxl]
 |cons x t a=>
  simp only [mxl,eAm,Nat.max_le,a]
  constructor
  ·rintro ⟨d,c⟩ y (rfl|h)
   ·exact d
   ·exact c y h
  ·intro h; exact ⟨h x (.inl rfl),fun y b=>h y (.inr b)⟩
structure u4x (l:List Cd) (F:Cd→Nat) (p:List Cd) (L:List (Int×Nat)):Prop where
 last:∀ x,z1y L x=(on x p).getLast?.map F
theorem w9d {l p q:List Cd} {c:Cd} (s:l.Nodup) (j:l=p++c::q) {F:Cd→Nat} (K:Rd l F) {L:List (Int×Nat)} (J:u4x l F p L):mxl L c.t+1=F c:=by
 have I:c∈l:=by rw [j]; simp
 have H:c∉p:=by
  rw [j] at s
  exact fun h=>(eDw.1 s).2.2 c h c (eAu ..) rfl
 have m:pre l c=p:=y6g j H
 rw [K c I]
 congr 1
 apply Nat.le_antisymm
 ·rw [w40]
  intro x P
  rw [J.last x]
  cases A:(on x p).getLast? with
  |none=>simp
  |some e=>
   have b:=z9s.1 (eDi A)
   have f:e∈l:=by rw [j]; exact eCw _ b.1
   refine y0f (eAz.2 ⟨f,?_⟩)
   have:e∈pre l c:=by rw [m]; exact b.1
   exact z1d.2 ⟨z8z.2 ⟨x,b.2,P⟩,(y10 f).1 this⟩
 ·rw [y9n]
  intro d S
  obtain ⟨r,G⟩:=eAz.1 S
  obtain ⟨Q,R⟩:=z1d.1 G
  obtain ⟨x,k,w⟩:=z8z.1 Q
  have o:d∈p:=by rw [←m]; exact (y10 r).2 R
  have a:d∈on x p:=z9s.2 ⟨o,k⟩
  obtain ⟨e,he⟩:∃ e,(on x p).getLast?=some e:=by
   cases A:(on x p).getLast? with
   |none=>rw [List.getLast?_eq_none_iff.1 A] at a; cases a
   |some e=>exact ⟨e,rfl⟩
  have M:=w40.1 (eAj (mxl L c.t)) x w
  rw [J.last x,he] at M
  refine eBk ?_ M
  show F d≤F e
  have b:=z9s.1 (eDi he)
  have f:e∈l:=by rw [j]; exact eCw _ b.1
  by_cases N:d=e
  ·rw [N]; exact eAj _
  ·have C:p.Nodup:=by rw [j] at s; exact (eDw.1 s).1
   have E:l.idxOf d<l.idxOf e:=by
    have n:∀ z∈p,l.idxOf z=p.idxOf z:=fun z O=>by rw [j,List.idxOf_append,if_pos O]
    rw [n d o,n e b.1]
    have B:=(x9l C).filter (fun c=>c.t.contains x)
    have i:on x p≠[]:=fun h=>by rw [h] at a; cases a
    have y:on x p=(on x p).dropLast++[e]:=by
     have:=List.dropLast_concat_getLast i
     have T:(on x p).getLast i=e:=by
      rw [List.getLast?_eq_some_getLast i] at he
      exact Option.some.inj he
     rw [T] at this; exact this.symm
    have g:(on x p).Pairwise fun u v=>p.idxOf u<p.idxOf v:=B
    rw [y] at g a
    rcases eCb.1 a with h|h
    ·exact (List.pairwise_append.1 g).2.2 d h e (by simp)
    ·exact absurd (eBh.1 h) N
   exact Nat.le_of_lt (u5v K r f (z1d.2 ⟨z8z.2 ⟨x,k,b.2⟩,E⟩))
def y4y (F:Cd→Nat) (p:List Cd):List (List Int):=(List.range (mxs F p)).map fun m=>z6h p F (m+1)
theorem w35 (F:Cd→Nat) (p:List Cd):(y4y F p).length=mxs F p:=by simp [y4y]
theorem x3q {F:Cd→Nat} {p:List Cd} {c:Cd} (m:Nat):z6h (p++[c]) F m=if F c=m then srt (z6h p F m++[c.n]) else z6h p F m:=by
 unfold z6h
 rw [List.filter_append,eFf]
 by_cases h:F c=m
 ·rw [if_pos h,List.filter_cons_of_pos (by simpa using h)]
  refine x3c ?_
  simp only [List.filter_nil,eDq,List.map_nil]
  exact List.Perm.append_right _ (srt_perm _).symm
 ·rw [if_neg h,List.filter_cons_of_neg (by simpa using h)]
  simp
theorem w1j {F:Cd→Nat} {p:List Cd} {c:Cd} {r:Nat} (hr:r+1=F c) (e:r≤mxs F p):
  ((y4y F p++if r=mxs F p then [[]] else []).set r (srt (z6h p F (r+1)++[c.n])))=y4y F (p++[c]):=by
 have hm:mxs F (p++[c])=if r=mxs F p then mxs F p+1 else mxs F p:=by
  rw [w1v]
  have:mxs F [c]=F c:=by simp [mxs]
  rw [this, ←hr]
  split<;>omega
 apply eBt
 intro i
 unfold y4y
 rw [hm]
 by_cases d:i=r
 ·subst d
  rw [List.getElem?_set_self (by simp; split<;>simp<;>omega),eAf,eDz (by split<;>omega)]
  simp only [eAw]
  rw [x3q,if_pos hr.symm]
 ·rw [eDj (fun h=>d h.symm)]
  have b:¬ F c=i+1:=by omega
  by_cases a:i<mxs F p
  ·rw [eCl (by simpa using a),eAf,eAf,eDz a,eDz (by split<;>omega)]
   simp only [eAw]
   rw [x3q,if_neg b]
  ·rw [eDm (by simpa using a),eCq (l:=(List.range _).map _) (by simp; split<;>omega)]
   split
   ·rename_i h
    rw [eCq]
    simp; omega
   ·simp
end D12
theorem v18 (R f e:List (List D)) (m o p n i:Int) (L:List (Int×Nat)) (t:List Int) (w:t.length≤1000000):
  z1e (w25 std) (z7y L,(R,(m,(o,(f,(p,((0:Int),(e,(n,(i,(z0e t,((t.length:Int),((0:Int),())))))))))))))=some (z7y L,(R,(m,(o,(f,(p,(((mxl L t:Nat):Int),(e,(n,(i,())))))))))):=by
 have key:=z3z (b:=w25 std) t (fun (r:Nat) j=>(z7y L,(R,(m,(o,(f,(p,((r:Int),(e,(n,(i,(z0e t,((t.length:Int),((j:Int),())))))))))))))) (fun r x=>max r ((z1y L x).getD 0)) (fun _ _=>True) (fun r=>(z7y L,(R,(m,(o,(f,(p,((r:Int),(e,(n,(i,())))))))))))
  (fun r j x g _=>by
   have y:j<t.length:=(eAa.1 g).1
   obtain ⟨s,u⟩:=stp j (by omega)
   have d:(j:Int)<t.length:=by omega
   have a:=w80 g
   refine ⟨?_,trivial⟩
   cases l:z1y L x with
   |none=>
    have z:(z1y L x).isSome=false:=by rw [l]; rfl
    have hm:max (r:Int) 0=((max r 0:Nat):Int):=by omega
    simp only [w25,z0k,z0l,z0e,z1b,z6e,z0q,Int.reduceLT,Int.reduceEq,Int.reduceLE,g,a,d,u,s,v2i,x2k,l,Option.isSome_none,eAg,if_false,hm,Option.getD_none]
   |some k=>
    have hg:=v7w l
    have hm:max (r:Int) (k:Int)=((max r k:Nat):Int):=by omega
    simp only [w25,z0k,z0l,z0e,z1b,z6e,z0q,Int.reduceLT,Int.reduceEq,Int.reduceLE,g,a,d,u,s,v2i,x2k,l,Option.isSome_some,hg,hm,eBb])
  (fun r _=>by
   have q:¬ (t.length:Int)<t.length:=by omega
   simp only [w25,z0k,z0l,q,if_false,z0q,Int.reduceLT,Int.reduceEq,Int.reduceLE]) 0 trivial
 have c:∀ (t:List Int) (r:Nat),t.foldl (fun r x=>max r ((z1y L x).getD 0)) r=max r (mxl L t):=by
  intro t
  induction t with
  |nil=>intro r; simp [mxl]
  |cons x t v=>intro r; rw [eCj,v,mxl]; omega
 have h:=key.1
 rw [c t 0] at h
 simp only [Nat.zero_max] at h
 exact h
theorem v17 (R e:List (List D)) (n i:Int) (r:Nat) (hr:r≤1000000) (t:List Int) (p:t.length≤1000000) (L:List (Int×Nat)):
  z1e (w24 std) (z7y L,(R,((r:Int),(e,(n,(i,(z0e t,((t.length:Int),((0:Int),())))))))))=some (z7y (t.foldl (fun L x=>x2j L x (r+1)) L),(R,(e,(n,(i,()))))):=by
 have key:=z3z (b:=w24 std) t (fun (L:List (Int×Nat)) j=>(z7y L,(R,((r:Int),(e,(n,(i,(z0e t,((t.length:Int),((j:Int),())))))))))) (fun L x=>x2j L x (r+1)) (fun _ _=>True) (fun L=>(z7y L,(R,(e,(n,(i,()))))))
  (fun L j x f _=>by
   have q:j<t.length:=(eAa.1 f).1
   obtain ⟨m,o⟩:=stp j (by omega)
   have d:(j:Int)<t.length:=by omega
   have a:=w80 f
   have c:IntKind.i64.wrap ((r:Int)+1)=((r+1:Nat):Int):=z8w (by omega)
   refine ⟨?_,trivial⟩
   cases g:z1y L x with
   |none=>
    have l:=v7x g (r+1)
    simp only [w24,z0k,z0l,z0e,z1b,z6e,z0q,Int.reduceLT,Int.reduceEq,Int.reduceLE,f,a,d,o,m,c,v2i,x2k,g,Option.isSome_none,eAg,if_false,l]
   |some k=>
    have l:=u2v g (r+1)
    simp only [w24,z0k,z0l,z0e,z1b,z6e,z0q,Int.reduceLT,Int.reduceEq,Int.reduceLE,f,a,d,o,m,c,v2i,x2k,g,Option.isSome_some,l])
  (fun L _=>by
   have h:¬ (t.length:Int)<t.length:=by omega
   simp only [w24,z0k,z0l,h,if_false,z0q,Int.reduceLT,Int.reduceEq,Int.reduceLE]) L trivial
 exact key.1
theorem x8j (r:Nat):∀ (t:List Int) (L:List (Int×Nat)) (x:Int),z1y (t.foldl (fun L x=>x2j L x r) L) x=if x∈t then some r else z1y L x
 |[],L,x=>by simp
 |y::t,L,x=>by
  rw [eCj,x8j r t,y09]
  by_cases h:x∈t
  ·simp [h]
  ·by_cases e:x=y
   ·simp [e]
   ·simp [h,e]
theorem w37 {l p:List Cd} {F:Cd→Nat} {L:List (Int×Nat)} {c:Cd} (h:u4x l F p L):u4x l F (p++[c]) (c.t.foldl (fun L x=>x2j L x (F c)) L):=by
 refine ⟨fun x=>?_⟩
 rw [x8j,x3z,h.last x]
 by_cases a:x∈c.t
 ·have:on x [c]=[c]:=by rw [w4s a]; rfl
  rw [if_pos a,this]; simp
 ·have:on x [c]=[]:=by simp [on,a]
  rw [if_neg a,this]; simp
def tru:List Int→Bool:=fun _=>true
theorem y01 {l:List Cd} (k:l.Nodup) {F:Cd→Nat} (j:Rd l F):∀ (p q:List Cd),l=p++q→mxs F p≤p.length:=by
 have key:∀ (n:Nat) (c:Cd),c∈l→l.idxOf c=n→F c≤n+1:=by
  intro n
  induction n using Nat.strongRecOn with
  |_ n h=>
   intro c a m
   rw [j c a]
   have:mxs F (l.filter fun d=>ord l d c)≤n:=y9n.2 fun d i=>by
    obtain ⟨g,f⟩:=eAz.1 i
    have o:=(z1d.1 f).2
    have:=h (l.idxOf d) (by omega) d g rfl
    omega
   omega
 intro p q e
 rw [y9n]
 intro c a
 have b:c∈l:=by rw [e]; exact eCw _ a
 have g:=key _ c b rfl
 have f:l.idxOf c<p.length:=by rw [e,List.idxOf_append,if_pos a]; exact eCc a
 omega
theorem v19 (l:List Cd) (hl:l.length≤60) (hm:(l.map (·.n)).Nodup) (hf:Few l):
  z1e (w26 std) ([],([],(z0a fl l,((l.length:Int),((0:Int),())))))=some (z3q tru (z4b l),()):=by
 have hn:=z3x hm
 have hF:=w4c l
 generalize hFF:x2p l=F at hF
 have key:=z09 (b:=w26 std) l.length (fun (L:List (Int×Nat)) i=>(z7y L,(z3q tru (y4y F (l.take i)),(z0a fl l,((l.length:Int),((i:Int),())))))) (fun L i=>u4x l F (l.take i) L) (fun r=>r=(z3q tru (z4b l),()))
  (fun L i hi Y=> .inl (by
   obtain ⟨c,O⟩:=z0i hi
   obtain ⟨hw,h0⟩:=stp i (by omega)
   have V:(i:Int)<l.length:=by omega
   have G:=y3l (fl:=fl) O
   have Q:l=l.take i++c::l.drop (i+1):=by
    conv=>lhs; rw [←eFg i l,x18 O]
   have hr:=w9d hn Q hF Y
   have I:=y01 hn hF (l.take i) _ Q
   rw [eBo] at I
   have K:l.take (i+1)=l.take i++[c]:=by rw [eCs,O]; rfl
   have W:mxl L c.t≤mxs F (l.take i):=by
    rw [w40]
    intro x hx
    rw [Y.last x]
    cases hq:(on x (l.take i)).getLast? with
    |none=>simp
    |some e=>exact y0f (x8z (eDi hq))
   have s:=w1j (F:=F) (p:=l.take i) (c:=c) hr W
   have Z:=v18 (z3q tru (y4y F (l.take i))) (c.t.map eI) (z0a fl l) c.n c.k c.a (l.length:Int) (i:Int) L c.t (hf c (eAi O))
   have hRn:(l.take i).length≤60:=by rw [eBo]; omega
   have o:∀ m,(z6h (l.take i) F m).length≤60∧(z6h (l.take i) F m++[c.n]).Nodup:=by
    intro m
    have hp:(z6h (l.take i) F m).Perm (((l.take i).filter fun c=>decide (F c=m)).map (·.n)):=srt_perm _
    refine ⟨?_,?_⟩
    ·rw [hp.length_eq,eAy]; exact eBk (List.length_filter_le _ _) hRn
    ·refine (List.Perm.append_right [c.n] hp).nodup_iff.2 ?_
     have J:((l.take (i+1)).map (·.n)).Nodup:=hm.sublist ((List.take_sublist _ _).map _)
     rw [K,eFf] at J
     exact J.sublist (List.Sublist.append ((List.filter_sublist).map _) (List.Sublist.refl _))
   have C:=fun m=>v71 (z6h (l.take i) F m++[c.n]) (by have:=(o m).1; simp; omega) (o m).2
   generalize hrr:mxl L c.t=r at*
   have J:=fun R=>v17 R (z0a fl l) (l.length:Int) (i:Int) r (by omega) c.t (hf c (eAi O)) L
   rw [hr] at J
   refine ⟨c.t.foldl (fun L x=>x2j L x (F c)) L,?_,by rw [K]; exact w37 Y⟩
   rw [K, ←s]
   have B:=w35 F (l.take i)
   have u:∀ m,m<mxs F (l.take i)→(y4y F (l.take i))[m]?=some (z6h (l.take i) F (m+1)):=fun m hm=>by
    unfold y4y; rw [eAf,eDz hm]; rfl
   generalize y4y F (l.take i)=R at*
   have v:(R.map (eLf tru)).length=mxs F (l.take i):=by rw [eAy,B]
   have T:(0:Int)≤(r:Int):=by omega
   have P:(c.t.map eI).length=c.t.length:=by simp
   have X:∀ (E:List (List D)) (f:Bool) (z:Nat) (es:List (List D)),E[r]?=some [D.list f z es]→std.rdF E r 0 1=(f&&(Nat.beq 1 z||es.isEmpty)):=fun E f z es h=>by
    show dF 1 (((E[r]?).bind fun r=>r[0]?).getD .nilp)=_
    rw [h]; rfl
   by_cases e:r=mxs F (l.take i)
   ·have H:z6h (l.take i) F (r+1)=[]:=by
     have:(l.take i).filter (fun c=>decide (F c=r+1))=[]:=by
      rw [List.filter_eq_nil_iff]
      intro d hd
      have:=y0f (F:=F) hd
      simp; omega
     unfold z6h; rw [this]; rfl
    have g:=C (r+1)
    rw [H] at g⊢
    rw [if_pos e]
    clear o C u s H
    rw [←e] at v B I W
    have hee:(mxs F (l.take i):Nat)=r:=e.symm
    have c2:(r:Int)<((r+1:Nat):Int):=by omega
    have c3:r+1≤1000000:=by omega
    have c4:(R.map (eLf tru)).take r=R.map (eLf tru):=eBd (by omega)
    have w:(R.map (eLf tru)++[[D.list true 0 []]])[r]?=some [D.list true 0 []]:=by
     rw [eDm (by omega),v,eFl]; rfl
    have y:=X _ _ _ _ w
    have j:(R.map (eLf tru)++[[D.list true 0 []]]).set r [D.list true 1 (z0e (srt ([]++[c.n])))]=((R++[[]]).set r (srt ([]++[c.n]))).map (eLf tru):=by
     rw [List.set_append_right _ _ (by omega),List.set_append_right _ _ (by omega),v,B,eFl]
     simp [eLf,tru]
    have hln:(R.map (eLf tru)++[[D.list true 0 []]]).length=r+1:=by rw [eCv,v]; rfl
    have q:(((R++[[]]).set r (srt ([]++[c.n]))).map (eLf tru)).length=r+1:=by simp [B]
    have A:z2b [CK.list 1] [D.list true 0 []]=true:=rfl
    have N:dL (D.list true 0 [])=[]:=rfl
    have y:std.rdF (R.map (eLf tru)++[[D.list true 0 []]]) r 0 1=true:=y
    have g:v73 std ([[D.int .i64 c.n]],())=some ((srt [c.n]).map eI,()):=g
    have j:(R.map (eLf tru)++[[D.list true 0 []]]).set r [D.list true 1 ((srt [c.n]).map eI)]=((R++[[]]).set r (srt [c.n])).map (eLf tru):=j
    have q:(((R++[[]]).set r (srt [c.n])).map (eLf tru)).length=r+1:=q
    have c5:1≤1000000:=by omega
    simp only [z3q,z0a,z0e] at Z J
    simp only [w26,z0k,z0l,z0a,z0e,z0x,z2o,z3q,z0a,z0e,z0q,Int.reduceLT,Int.reduceEq,Int.reduceLE,O,G,V,h0,hw,Z,v,c2,c3,c4,hln,eBz,List.take_succ_cons,eFi,eAj,eDy,if_true,T,w,A,N,y,eAq,List.nil_append,eCt,eBb,eDn,c5,g,j,q,J,P]
   ·have U:r<mxs F (l.take i):=by omega
    have g:=C (r+1)
    have hrl:=(o (r+1)).1
    have hg:=u r U
    rw [if_neg e,eCp]
    clear o C u s
    generalize z6h (l.take i) F (r+1)=S at*
    generalize mxs F (l.take i)=M at*
    have c1:¬ (r:Int)=(M:Int):=by omega
    have c2:(r:Int)<(M:Int):=by omega
    have w:(R.map (eLf tru))[r]?=some [D.list true 1 (S.map eI)]:=by rw [eAf,hg]; rfl
    have y:std.rdF (R.map (eLf tru)) r 0 1=true:=X _ _ _ _ w
    have j:(R.map (eLf tru)).set r [D.list true 1 ((srt (S++[c.n])).map eI)]=(R.set r (srt (S++[c.n]))).map (eLf tru):=by
     rw [eFe]; rfl
    have q:((R.set r (srt (S++[c.n]))).map (eLf tru)).length=M:=by simp [B]
    have A:z2b [CK.list 1] [D.list true 1 (S.map eI)]=true:=rfl
    have N:dL (D.list true 1 (S.map eI))=S.map eI:=rfl
    have hsl:(S.map eI).length=S.length:=by simp
    have c5:S.length+1≤1000000:=by omega
    have g:v73 std (S.map eI++[[D.int .i64 c.n]],())=some ((srt (S++[c.n])).map eI,()):=by
     have e2:S.map eI++[[D.int .i64 c.n]]=z0e (S++[c.n]):=by simp [z0e,eI]
     rw [e2]; exact g
    simp only [z3q,z0a,z0e] at Z J
    simp only [w26,z0k,z0l,z0a,z0e,z0x,z2o,z3q,z0a,z0e,z0q,Int.reduceLT,Int.reduceEq,Int.reduceLE,O,G,V,h0,hw,Z,v,c1,c2,eBz,List.take_succ_cons,eFi,eAj,eDy,if_true,T,w,A,N,y,eAq,eCt,eBb,hsl,c5,g,j,q,J,P]))
  (fun L Y=>⟨(z3q tru (z4b l),()),by
   have hno:¬ (l.length:Int)<l.length:=by omega
   rw [eBi]
   have:y4y F l=z4b l:=by unfold y4y z4b; rw [hFF]
   rw [this]
   simp only [w26,z0k,z0l,hno,if_false,z0q,Int.reduceLT,Int.reduceEq,Int.reduceLE],rfl⟩) [] 0 (eAo _) ⟨fun x=>by simp [z1y,on]⟩
 obtain ⟨r,h1,rfl⟩:=key
 exact h1
theorem u3t (l:List Cd) (c:Few l):G27 std (z0a fl l,())=some ((if z0w l=0 then z3q tru (z4b l) else []),(z0w l,())):=by
 have a:=y4q (fl:=fl) l c
 have b:(z0a fl l).length=l.length:=z0m l
 unfold G27
 by_cases h:z0w l=0
 ·obtain ⟨f,e,j,i,g⟩:=z1u h
  have d:=v19 (fl:=fl) l f e c
  simp only [z0k,z0l,z0q,Int.reduceLT,Int.reduceEq,Int.reduceLE,a,h,b,d]
 ·simp only [z0k,z0l,z0q,Int.reduceLT,Int.reduceEq,Int.reduceLE,a,h]
end Go.Am
end
section
namespace Go.Am.D12
theorem w1k {l:List Cd} (h:(l.map (·.n)).Nodup) (F:Cd→Nat) (m:Nat):(z6h l F m).Nodup:=by
 unfold z6h
 rw [(srt_perm _).nodup_iff]
 exact h.sublist (List.Sublist.map _ List.filter_sublist)
theorem v4x {l:List Cd} (h:(l.map (·.n)).Nodup) (F:Cd→Nat) (m:Nat):(z6h l F m).Pairwise (· < ·):=by
 have b:(z6h l F m).Pairwise (· ≤ ·):=z8a _
 have a:(z6h l F m).Pairwise (· ≠ ·):=w1k h F m
 exact (b.and a).imp fun h=>by omega
end Go.Am.D12
end
section
namespace Go.Am
open D12
variable {fl fl':List Int→Bool}
theorem setI (L:List Int) (i:Nat) (b z:Int):((L.set i b).map eI).set i [D.int .i64 z]=(L.set i z).map eI:=by
 rw [show ([D.int .i64 z])=eI z from rfl, ←eFe,List.set_set]
theorem u5n (L:List Int) (i:Nat) (z:Int):(L.map eI).set i [D.int .i64 z]=(L.set i z).map eI:=by
 rw [show ([D.int .i64 z])=eI z from rfl, ←eFe]
theorem getI {L:List Int} {i:Nat} (b:Int) (h:i<L.length):(L.set i b)[i]?=some b:=by
 rw [eBu,if_pos rfl,if_pos h]
theorem w1u (F:Cd→Nat) {l:List Cd} (k:l.Nodup) {i:Nat} {c:Cd} (m:l[i]?=some c):mxs F (l.filter fun d=>ord l d c)=mxs F ((l.take i).filter fun d=>tch d c):=by
 have e:l=l.take i++c::l.drop (i+1):=by
  conv=>lhs; rw [←eFg i l,x18 m]
 have j:c∉l.take i:=by
  intro h
  have b:=k
  rw [e] at b
  have:=(eDw.1 b).2.2 c h c eAu
  exact this rfl
 have a:=y6g e j
 refine y6v (fun d=>?_) fun _ _=>rfl
 simp only [eAz]
 constructor
 ·rintro ⟨f,b⟩
  obtain ⟨g,n⟩:=z1d.1 b
  exact ⟨by rw [←a]; exact (y10 f).2 n,g⟩
 ·rintro ⟨f,b⟩
  have g:=List.mem_of_mem_take f
  refine ⟨g,z1d.2 ⟨b,?_⟩⟩
  rw [←a] at f
  exact (y10 g).1 f
def x3s (F:Cd→Nat) (c:Cd) (r:Nat) (d:Cd):Nat:=if tch d c=true then max r (F d+1) else r
theorem w5t (F:Cd→Nat) (c:Cd):∀ (p:List Cd) (r:Nat),1≤r→p.foldl (x3s F c) r=max r (mxs F (p.filter fun d=>tch d c)+1)
 |[],r,h=>by simp only [List.foldl_nil,List.filter_nil,mxs]; omega
 |d::p,r,h=>by
  rw [eCj]
  unfold x3s
  by_cases a:tch d c=true
  ·rw [if_pos a]
   have:=w5t F c p (max r (F d+1)) (by omega)
   unfold x3s at this
   rw [this,eFb,if_pos a,mxs]
   omega
  ·rw [if_neg a]
   have:=w5t F c p r h
   unfold x3s at this
   rw [this,eFb,if_neg a]
theorem v43 {l:List Cd} (b:l.Nodup) {F:Cd→Nat} (d:Rd l F) {i:Nat} {c:Cd} (a:l[i]?=some c):(l.take i).foldl (x3s F c) 1=F c:=by
 rw [w5t F c _ 1 (eAj _),d c (eAi a),w1u F b a]
 omega
def rdL (F:Cd→Nat) (l:List Cd) (i:Nat):List Int:=(l.take i).map (fun d=>(F d:Int))++List.replicate (l.length - i) 0
theorem x6n (F:Cd→Nat) (l:List Cd) (i:Nat) (a:i≤l.length):(rdL F l i).length=l.length:=by
 simp [rdL]; omega
theorem v47 {F:Cd→Nat} {l:List Cd} {i k:Nat} {d:Cd} (c:k<i) (a:l[k]?=some d):(rdL F l i)[k]?=some (F d:Int):=by
 have b:=(eAa.1 a).1
 unfold rdL
 rw [eCl (by simp; omega),eAf,eDs,if_pos c,a]; rfl
theorem v45 {F:Cd→Nat} {l:List Cd} {i:Nat} {c:Cd} (b:l[i]?=some c):(rdL F l i).set i (F c:Int)=rdL F l (i+1):=by
 have f:=(eAa.1 b).1
 unfold rdL
 obtain ⟨m,hm⟩:∃ m,l.length - i=m+1:=⟨l.length - i - 1,by omega⟩
 have a:l.length - (i+1)=m:=by omega
 have e:((l.take i).map fun d=>(F d:Int)).length=i:=by simp; omega
 rw [hm,a,List.set_append_right _ _ (by omega),e,eFl,List.replicate_succ,List.set_cons_zero,eCs,b]
 simp
theorem v1s (l:List Cd) (K:l.length≤60) (B:Few l) (F:Cd→Nat) (J:∀ c∈l,F c≤60) (i:Nat) {c:Cd} (u:l[i]?=some c):
  z1e (w2x std) (z0e ((rdL F l i).set i 1),(z0a fl l,((i:Int),((0:Int),()))))=some (z0e ((rdL F l i).set i (((l.take i).foldl (x3s F c) 1:Nat):Int)),(z0a fl l,((i:Int),()))):=by
 have H:i<l.length:=(eAa.1 u).1
 have e:=y3l (fl:=fl) u
 have E:(0:Int)≤(i:Int):=by omega
 have C:(i:Int)<(l.length:Int):=by omega
 have j:(l.take i).length=i:=by simp; omega
 have w:=x6n F l i (by omega)
 have key:=z3z (b:=w2x std) (l.take i) (fun (r:Nat) k=>(z0e ((rdL F l i).set i (r:Int)),(z0a fl l,((i:Int),((k:Int),()))))) (x3s F c) (fun _ _=>True) (fun r=>(z0e ((rdL F l i).set i (r:Int)),(z0a fl l,((i:Int),()))))
  (fun r k d g _=>by
   have A:k<i:=by rw [←j]; exact (eAa.1 g).1
   have g:l[k]?=some d:=by rw [eDs,if_pos A] at g; exact g
   obtain ⟨x,G⟩:=stp k (by omega)
   have o:(k:Int)<(i:Int):=by omega
   have p:(k:Int)<(l.length:Int):=by omega
   have m:=y3l (fl:=fl) g
   have q:=w80 (getI (r:Int) (L:=rdL F l i) (i:=i) (by omega))
   have v:((rdL F l i).set i (r:Int))[k]?=some (F d:Int):=by rw [eDj (by omega)]; exact v47 A g
   have s:=w80 v
   have f:((rdL F l i).set i (r:Int)).length=l.length:=by rw [eCd,w]
   have z:=setI (rdL F l i) i (r:Int)
   have a:=w01 d c (B d (eAi g)) (B c (eAi u))
   have I:=J d (eAi g)
   have h:IntKind.i64.wrap ((F d:Int)+1)=((F d+1:Nat):Int):=z8w (by omega)
   have n:max (r:Int) ((F d+1:Nat):Int)=((max r (F d+1):Nat):Int):=by omega
   refine ⟨?_,trivial⟩
   simp only [z0e] at a
   unfold x3s
   cases y:tch d c with
   |true=>
    rw [y] at a
    simp only [w2x,z0k,z0l,z0a,z0e,z0x,z2o,z0a,z0e,z1b,z6e,z0q,Int.reduceLT,Int.reduceEq,Int.reduceLE,o,p,G,E,C,x,h,n,e,m,q,s,f,z,a,eCd,w,if_true]
   |false=>
    rw [y] at a
    simp only [w2x,z0k,z0l,z0a,z0e,z0x,z2o,z0a,z0e,z1b,z6e,z0q,Int.reduceLT,Int.reduceEq,Int.reduceLE,o,p,G,E,C,x,h,n,e,m,q,s,f,z,a,eCd,w,if_false,eAg])
  (fun r _=>by
   rw [j]
   have t:¬ (i:Int)<(i:Int):=by omega
   simp only [w2x,z0k,z0l,t,if_false,z0q,Int.reduceLT,Int.reduceEq,Int.reduceLE]) 1 trivial
 exact key.1
theorem v1t (l:List Cd) (p:l.length≤60) (s:Few l) (o:l.Nodup) (F:Cd→Nat) (u:Rd l F) (j:∀ c∈l,F c≤60):
  z1e (w67 std) (z0e (rdL F l 0),(z0a fl l,((0:Int),())))=some (z0e (rdL F l l.length),()):=by
 have key:=z09 (b:=w67 std) l.length (fun (_:Unit) i=>(z0e (rdL F l i),(z0a fl l,((i:Int),())))) (fun _ _=>True) (fun r=>r=(z0e (rdL F l l.length),()))
  (fun _ i q _=> .inl ⟨(),by
   obtain ⟨c,g⟩:=z0i q
   obtain ⟨m,w⟩:=stp i (by omega)
   have f:(i:Int)<l.length:=by omega
   have t:=x6n F l i (by omega)
   obtain ⟨z,k⟩:=z0i (show i<(rdL F l i).length by omega)
   have d:=w80 k
   have n:=u5n (rdL F l i) i 1
   have a:=v1s (fl:=fl) l p s F j i g
   rw [v43 o u g,v45 g] at a
   have h:=x6n F l (i+1) (by omega)
   simp only [z0a,z0e] at a
   simp only [w67,z0k,z0l,z0a,z0e,z0x,z2o,z0a,z0e,z1b,z6e,z0q,Int.reduceLT,Int.reduceEq,Int.reduceLE,f,w,m,t,h,d,n,a,eCd],trivial⟩)
  (fun _ _=>⟨_,by
   have e:¬ (l.length:Int)<l.length:=by omega
   simp only [w67,z0k,z0l,z0m,e,if_false,z0q,Int.reduceLT,Int.reduceEq,Int.reduceLE],rfl⟩) () 0 (eAo _) trivial
 obtain ⟨r,v,rfl⟩:=key
 exact v
theorem v42 {l:List Cd} (a:l.Nodup) (d:l.length≤60):∀ c∈l,x2p l c≤60:=by
 intro c b
 have f:=y01 a (w4c l) l [] (by simp)
 have e:=y0f (F:=x2p l) b
 omega
theorem u3k (l:List Cd) (g:l.length≤60) (h:Few l) (f:l.Nodup):G65 std (z0a fl l,())=some (z0e (l.map fun c=>(x2p l c:Int)),()):=by
 have e:=v1t (fl:=fl) l g h f (x2p l) (w4c l) (v42 f g)
 have j:(0:Int)≤(l.length:Int):=by omega
 have i:(l.length:Int)≤1000000:=by omega
 have a:List.replicate l.length [D.int .i64 0]=z0e (rdL (x2p l) l 0):=by simp [z0e,rdL,eI]
 have b:rdL (x2p l) l l.length=l.map fun c=>(x2p l c:Int):=by simp [rdL]
 have d:(z0a fl l).length=l.length:=z0m l
 rw [b] at e
 unfold G65
 simp only [z0k,z0l,z0q,Int.reduceLT,Int.reduceEq,Int.reduceLE,d,j,i,eCo,a,e,z0r,eDu,if_true]
 simp [rdL]
def x70 (l:List Cd) (F:Cd→Nat) (m:Nat) (last b:Int) (i:Nat):Prop:=
 (b=0∧∀ k d,k<i→l[k]?=some d→F d=m→d.n≤last)∨(∃ c∈l,F c=m∧last<c.n∧b=c.n∧∀ k d,k<i→l[k]?=some d→F d=m→last<d.n→b≤d.n)
theorem w6w {l:List Cd} {F:Cd→Nat} {m:Nat} (hm:(l.map (·.n)).Nodup) (t:∀ c∈l,1≤c.n) {j:Nat} (M:j≤(z6h l F m).length) {b:Int} (h:x70 l F m (y3u (z6h l F m) j) b l.length):b=((z6h l F m)[j]?).getD 0:=by
 have C:=v4x hm F m
 have a:∀ x,x∈z6h l F m↔∃ c∈l,F c=m∧c.n=x:=fun x=>y48
 have o:∀ x∈z6h l F m,1≤x:=fun x z=>by obtain ⟨c,s,_,rfl⟩:=(a x).1 z; exact t c s
 have mono:∀ (p q:Nat) (o:p<(z6h l F m).length) (H:q<(z6h l F m).length),p<q→(z6h l F m)[p]<(z6h l F m)[q]:=fun p q o H A=>eCm.1 C p q o H A
 generalize z6h l F m=S at*
 have v:∀ x∈S,(∃ (k:Nat) (d:Cd),k<l.length∧l[k]?=some d∧F d=m∧d.n=x):=fun x z=>by
  obtain ⟨c,s,y,J⟩:=(a x).1 z
  obtain ⟨k,u,he⟩:=eBy.1 s
  exact ⟨k,c,u,by rw [eAb u,he],y,J⟩
 have f:∀ p (o:p<S.length),p<j→S[p]≤y3u S j:=fun p o K=>by
  cases j with
  |zero=>omega
  |succ k=>
   show _≤S.getD k 0
   rw [eAn,eAb (by omega:k<S.length)]
   simp only [eBb]
   by_cases e:p=k
   ·subst e; exact eCo _
   ·have:=mono p k o (by omega) (by omega); omega
 by_cases g:j<S.length
 ·have E:y3u S j<S[j]:=by
   cases j with
   |zero=>have:=o _ (eCk g); show (0:Int)<_; omega
   |succ k=>
    show S.getD k 0<_
    rw [eAn,eAb (by omega:k<S.length)]
    exact mono k (k+1) (by omega) g (by omega)
  obtain ⟨k,d,u,I,y,J⟩:=v _ (eCk g)
  rw [eAb g,eBb]
  rcases h with ⟨_,h⟩|⟨c,s,r,G,rfl,h⟩
  ·have:=h k d u I y; omega
  ·have L:=h k d u I y (by omega)
   obtain ⟨p,i,B⟩:=eBy.1 ((a c.n).2 ⟨c,s,r,rfl⟩)
   rcases Nat.lt_trichotomy p j with w|w|w
   ·have:=f p i w; omega
   ·subst w; omega
   ·have:=mono j p g i w; omega
 ·rw [eCq (by omega)]
  rcases h with ⟨h,_⟩|⟨c,s,r,G,rfl,h⟩
  ·exact h
  ·obtain ⟨p,i,B⟩:=eBy.1 ((a c.n).2 ⟨c,s,r,rfl⟩)
   have:=f p i (by omega)
   omega
theorem w0l (O:List (List D)) (l:List Cd) (hl:l.length≤60) (I:∀ c∈l,1≤c.n) (F:Cd→Nat) (m:Nat) (S:List Int) (hS:∀ x∈S,1≤x) (j:Nat) (hj:j≤S.length) (hSl:S.length≤60):
  ∃ b:Int,z1e (y43 std) (z0e (l.map fun c=>(F c:Int)),(O,(z0e (S.take j),(z0a fl l,((m:Int),((0:Int),((0:Int),())))))))=some (z0e (l.map fun c=>(F c:Int)),(O,(z0e (S.take j),(z0a fl l,((m:Int),(b,()))))))∧x70 l F m (y3u S j) b l.length:=by
 have key:=z09 (b:=y43 std) l.length (fun (b:Int) i=>(z0e (l.map fun c=>(F c:Int)),(O,(z0e (S.take j),(z0a fl l,((m:Int),(b,((i:Int),()))))))))
  (fun b i=>x70 l F m (y3u S j) b i) (fun r=>∃ b:Int,r=(z0e (l.map fun c=>(F c:Int)),(O,(z0e (S.take j),(z0a fl l,((m:Int),(b,()))))))∧x70 l F m (y3u S j) b l.length)
  (fun b i hi Q=> .inl (by
   obtain ⟨c,K⟩:=z0i hi
   obtain ⟨H,J⟩:=stp i (by omega)
   have p:(i:Int)<l.length:=by omega
   have a:=y3l (fl:=fl) K
   have N:=eAi K
   have f:(l.map fun c=>(F c:Int))[i]?=some (F c:Int):=by rw [eAf,K]; rfl
   have f:=w80 f
   have q:(l.map fun c=>(F c:Int)).length=l.length:=by simp
   have hpc:=I c N
   have s:(S.take j).length=j:=by rw [eBo]; omega
   have skip:¬ (F c=m∧y3u S j<c.n∧(b=0∨c.n<b))→x70 l F m (y3u S j) b (i+1):=fun A=>by
    rcases Q with ⟨rfl,h⟩|⟨d,X,T,R,rfl,h⟩
    ·refine .inl ⟨rfl,fun k e V he hm=>?_⟩
     by_cases P:k=i
     ·subst P; rw [K] at he; cases he
      exact Int.not_lt.1 fun W=>A ⟨hm,W, .inl rfl⟩
     ·exact h k e (by omega) he hm
    ·refine .inr ⟨d,X,T,R,rfl,fun k e V he hm C=>?_⟩
     by_cases P:k=i
     ·subst P; rw [K] at he; cases he
      exact Int.not_lt.1 fun W=>A ⟨hm,C, .inr W⟩
     ·exact h k e (by omega) he hm C
   have v:F c=m→y3u S j<c.n→(b=0∨c.n<b)→x70 l F m (y3u S j) c.n (i+1):=fun hm g Y=>by
    refine .inr ⟨c,N,hm,g,rfl,fun k e V he M C=>?_⟩
    by_cases P:k=i
    ·subst P; rw [K] at he; cases he; exact eCo _
    ·rcases Q with ⟨rfl,h⟩|⟨d,X,T,R,rfl,h⟩
     ·have:=h k e (by omega) he M; omega
     ·have h3:=h k e (by omega) he M C
      rcases Y with Y|Y
      ·have:=I d X; omega
      ·omega
   by_cases hm:(F c:Int)=(m:Int)
   ·have B:F c=m:=by omega
    by_cases u:(j:Int)=0
    ·have L:j=0:=by omega
     subst L
     have g:y3u S 0<c.n:=by show (0:Int)<_; omega
     by_cases o:b=0
     ·refine ⟨c.n,?_,v B g (.inl o)⟩
      simp only [y43,z0k,z0l,z0a,z0e,z0x,z2o,z0a,z0e,z1b,z6e,z0q,Int.reduceLT,Int.reduceEq,Int.reduceLE,p,J,H,a,f,q,hm,o,s,u]
     ·by_cases t:c.n<b
      ·refine ⟨c.n,?_,v B g (.inr t)⟩
       simp only [y43,z0k,z0l,z0a,z0e,z0x,z2o,z0a,z0e,z1b,z6e,z0q,Int.reduceLT,Int.reduceEq,Int.reduceLE,p,J,H,a,f,q,hm,o,t,s,u]
      ·refine ⟨b,?_,skip fun h=>by omega⟩
       simp only [y43,z0k,z0l,z0a,z0e,z0x,z2o,z0a,z0e,z1b,z6e,z0q,Int.reduceLT,Int.reduceEq,Int.reduceLE,p,J,H,a,f,q,hm,o,t,s,u]
    ·obtain ⟨k,rfl⟩:∃ k,j=k+1:=⟨j - 1,by omega⟩
     obtain ⟨z,Z⟩:=z0i (show k<S.length by omega)
     have U:(S.take (k+1))[k]?=some z:=by rw [eDs,if_pos (by omega)]; exact Z
     have w:=w80 U
     have hls:y3u S (k+1)=z:=by show S.getD k 0=z; exact z02 Z
     have y:IntKind.i64.wrap (((k+1:Nat):Int) - 1)=(k:Int):=by rw [y8z _ (by omega) (by omega)]; omega
     have G:(0:Int)≤(k:Int):=by omega
     have E:(k:Int)<((k+1:Nat):Int):=by omega
     by_cases g:z<c.n
     ·by_cases o:b=0
      ·refine ⟨c.n,?_,v B (by omega) (.inl o)⟩
       simp only [y43,z0k,z0l,z0a,z0e,z0x,z2o,z0a,z0e,z1b,z6e,z0q,Int.reduceLT,Int.reduceEq,Int.reduceLE,p,J,H,a,f,q,hm,o,s,u,z3o,y,G,E,w,g]
      ·by_cases t:c.n<b
       ·refine ⟨c.n,?_,v B (by omega) (.inr t)⟩
        simp only [y43,z0k,z0l,z0a,z0e,z0x,z2o,z0a,z0e,z1b,z6e,z0q,Int.reduceLT,Int.reduceEq,Int.reduceLE,p,J,H,a,f,q,hm,o,t,s,u,z3o,y,G,E,w,g]
       ·refine ⟨b,?_,skip fun h=>by omega⟩
        simp only [y43,z0k,z0l,z0a,z0e,z0x,z2o,z0a,z0e,z1b,z6e,z0q,Int.reduceLT,Int.reduceEq,Int.reduceLE,p,J,H,a,f,q,hm,o,t,s,u,z3o,y,G,E,w,g]
     ·refine ⟨b,?_,skip fun h=>by omega⟩
      simp only [y43,z0k,z0l,z0a,z0e,z0x,z2o,z0a,z0e,z1b,z6e,z0q,Int.reduceLT,Int.reduceEq,Int.reduceLE,p,J,H,a,f,q,hm,s,u,z3o,y,G,E,w,g]
   ·refine ⟨b,?_,skip fun h=>hm (by omega)⟩
    simp only [y43,z0k,z0l,z0a,z0e,z0x,z2o,z0a,z0e,z1b,z6e,z0q,Int.reduceLT,Int.reduceEq,Int.reduceLE,p,J,H,a,f,q,hm]))
  (fun b Q=>by
   have A:¬ (l.length:Int)<l.length:=by omega
   exact ⟨_,by simp only [y43,z0k,z0l,z0m,A,if_false,z0q,Int.reduceLT,Int.reduceEq,Int.reduceLE],b,rfl,Q⟩) 0 0 (eAo _) (.inl ⟨rfl,fun k d V=>by omega⟩)
 obtain ⟨r,T,b,rfl,R⟩:=key
 exact ⟨b,T,R⟩
theorem v15 (O:List (List D)) (l:List Cd) (o:l.length≤60) (hm:(l.map (·.n)).Nodup) (a:∀ c∈l,1≤c.n) (F:Cd→Nat) (m:Nat):
  z1e (w7c std) (z0e (l.map fun c=>(F c:Int)),(O,([],(z0a fl l,((m:Int),())))))=some (z0e (l.map fun c=>(F c:Int)),(O,(z0e (z6h l F m),(z0a fl l,((m:Int),()))))):=by
 have d:∀ x∈z6h l F m,1≤x:=fun x w=>by obtain ⟨c,C,_,rfl⟩:=y48.1 w; exact a c C
 have f:(z6h l F m).length≤60:=by
  unfold z6h
  rw [(srt_perm _).length_eq,eAy]
  exact eBk (List.length_filter_le _ _) o
 have g:∀ (j:Nat),j≤(z6h l F m).length→∀ b,x70 l F m (y3u (z6h l F m) j) b l.length→b=((z6h l F m)[j]?).getD 0:=fun j p b h=>w6w hm a p h
 generalize E:z6h l F m=S at*
 have key:=z09 (b:=w7c std) S.length (fun (_:Unit) j=>(z0e (l.map fun c=>(F c:Int)),(O,(z0e (S.take j),(z0a fl l,((m:Int),())))))) (fun _ _=>True) (fun r=>r=(z0e (l.map fun c=>(F c:Int)),(O,(z0e S,(z0a fl l,((m:Int),()))))))
  (fun _ j p _=> .inl ⟨(),by
   obtain ⟨b,i,s⟩:=w0l (fl:=fl) O l o a F m S d j (by omega) f
   obtain ⟨z,k⟩:=z0i p
   have e:=g j (by omega) b s
   rw [k,eBb] at e
   subst e
   have v:=d b (eAi k)
   have q:¬ b=0:=by omega
   have A:S.take (j+1)=S.take j++[b]:=by rw [eCs,k]; rfl
   have y:(S.take j).length=j:=by rw [eBo]; omega
   have B:(l.map fun c=>(F c:Int)).length=l.length:=by simp
   rw [A]
   generalize S.take j=T at*
   have u:T.length+1≤1000000:=by omega
   have t:(T.map eI).take T.length=T.map eI:=eBd (by simp)
   simp only [z0a,z0e] at i
   simp only [w7c,z0k,z0l,z0a,z0e,z0x,z2o,z0a,z0e,z0q,Int.reduceLT,Int.reduceEq,Int.reduceLE,i,q,u,t,eAj,eBz]
   simp [eI,t,u],trivial⟩)
  (fun _ _=>by
   obtain ⟨b,i,s⟩:=w0l (fl:=fl) O l o a F m S d S.length (eAj _) f
   have e:=g S.length (eAj _) b s
   rw [eCq (eAj _),Option.getD_none] at e
   subst e
   rw [eBi] at*
   exact ⟨_,by simp only [w7c,z0k,z0l,z0q,Int.reduceLT,Int.reduceEq,Int.reduceLE,i],rfl⟩) () 0 (eAo _) trivial
 obtain ⟨r,G,rfl⟩:=key
 exact G
theorem v16 (l:List Cd) (E:l.length≤60) (hm:(l.map (·.n)).Nodup) (f:∀ c∈l,1≤c.n):
  z1e (w23 std) (z0e (l.map fun c=>(x2p l c:Int)),([],(z0a fl l,((1:Int),()))))=some (z3q (fun _=>false) (z4b l),()):=by
 have C:=z3x hm
 have w:=w4c l
 have p:mxs (x2p l) l≤l.length:=y01 C w l [] (by simp)
 have k:z4b l=(List.range (mxs (x2p l) l)).map fun m=>z6h l (x2p l) (m+1):=rfl
 generalize x2p l=F at*
 rw [k]
 have key:=z09 (b:=w23 std) l.length (fun (_:Unit) i=>(z0e (l.map fun c=>(F c:Int)),(z3q (fun _=>false) ((List.range (min i (mxs F l))).map fun m=>z6h l F (m+1)),(z0a fl l,(((i+1:Nat):Int),()))))) (fun _ _=>True)
  (fun r=>r=(z3q (fun _=>false) ((List.range (mxs F l)).map fun m=>z6h l F (m+1)),()))
  (fun _ i H _=> .inl ⟨(),by
   have g:((i+1:Nat):Int)≤l.length:=by omega
   have j:IntKind.i64.wrap (((i+1:Nat):Int)+1)=((i+1+1:Nat):Int):=z8w (by omega)
   have a:=v15 (fl:=fl) (z3q (fun _=>false) ((List.range (min i (mxs F l))).map fun m=>z6h l F (m+1))) l E hm f F (i+1)
   have h:((List.range (min i (mxs F l))).map fun m=>z6h l F (m+1)).length≤60:=by rw [eAy,List.length_range]; omega
   by_cases q:i<mxs F l
   ·have o:=v4w w q
    have v:min i (mxs F l)=i:=by omega
    have u:min (i+1) (mxs F l)=i+1:=by omega
    rw [u,List.range_succ,eFf,List.map_singleton]
    rw [v] at a h⊢
    generalize (List.range i).map (fun m=>z6h l F (m+1))=T at*
    generalize z6h l F (i+1)=S at*
    have d:(0:Int)<(S.length:Int):=by
     have:0<S.length:=eFm.2 o
     omega
    have A:T.length+1≤1000000:=by omega
    have z:(T.map (eLf fun _=>false)).take T.length=T.map (eLf fun _=>false):=eBd (by simp)
    have y:(S.map eI).take S.length=S.map eI:=eBd (by simp)
    simp only [z0a,z0e,z3q] at a
    simp only [w23,z0k,z0l,z0a,z0e,z0x,z2o,z0a,z0e,z3q,z0q,Int.reduceLT,Int.reduceEq,Int.reduceLE,g,j,a,d,A,z,y,eAj,eBz]
    simp [eLf,z0e,z,y,A]
    simpa using j
   ·have s:z6h l F (i+1)=[]:=by
     rw [List.eq_nil_iff_forall_not_mem]
     intro x B
     obtain ⟨c,G,t,_⟩:=y48.1 B
     have:=y0f (F:=F) G
     omega
    have v:min i (mxs F l)=mxs F l:=by omega
    have u:min (i+1) (mxs F l)=mxs F l:=by omega
    rw [s] at a
    rw [u]
    rw [v] at a h⊢
    generalize (List.range (mxs F l)).map (fun m=>z6h l F (m+1))=T at*
    have e:¬ (0:Int)<((0:Nat):Int):=by omega
    simp only [z0a,z0e,z3q,List.map_nil] at a
    simp only [w23,z0k,z0l,z0a,z0e,z0x,z2o,z0a,z0e,z3q,z0q,Int.reduceLT,Int.reduceEq,Int.reduceLE,g,j,a,e,if_false],trivial⟩)
  (fun _ _=>⟨_,by
   have e:¬ (((l.length+1:Nat):Int))≤(l.length:Int):=by omega
   rw [Nat.min_eq_right p]
   simp only [w23,z0k,z0l,z0m,e,if_false,z0q,Int.reduceLT,Int.reduceEq,Int.reduceLE],rfl⟩) () 0 (eAo _) trivial
 obtain ⟨r,t,rfl⟩:=key
 rw [Nat.zero_min] at t
 exact t
theorem u3s (l:List Cd) (g:Few l):G28 std (z0a fl l,())=some ((if z0w l=0 then z3q (fun _=>false) (z4b l) else []),(z0w l,())):=by
 have b:=y7v (fl:=fl) l g
 unfold G28
 by_cases h:z0w l=0
 ·obtain ⟨f,hm,j,e,_⟩:=z1u h
  have a:∀ c∈l,1≤c.n:=fun c k=>((y7o.1 (e c k)).1).1
  have d:=u3k (fl:=fl) l f g j
  have i:=v16 (fl:=fl) l f hm a
  simp only [z0k,z0l,z0q,Int.reduceLT,Int.reduceEq,Int.reduceLE,b,h,d,i,ne_eq,not_true,if_false,if_true]
 ·simp only [z0k,z0l,z0q,Int.reduceLT,Int.reduceEq,Int.reduceLE,b,h,ne_eq,not_false_eq_true,if_true,if_false]
end Go.Am
end
section
namespace Go.Am
open D12
variable {fl fl':List Int→Bool}
theorem v79 (a b:List Int) (v:a.length≤1000000):v8m std (z0e a,(z0e b,()))=some (decide (a=b),()):=by
 by_cases g:a.length=b.length
 ·have key:=z3g (b:=x0l std) a.length (fun i=>(z0e a,(z0e b,((a.length:Int),((i:Int),()))))) (fun i=>!decide (a.getD i default=b.getD i default)) (.inl (false,())) (.inr ()) (fun i t=>by
   obtain ⟨m,hm⟩:=z0i t
   obtain ⟨q,c⟩:=z0i (l:=b) (i:=i) (by omega)
   obtain ⟨r,s⟩:=stp i (by omega)
   have d:(i:Int)<a.length:=by omega
   have p:=w80 hm
   have o:(b.map eI)[i]?=some (eI q):=by rw [eAf,c]; rfl
   rw [z02 hm,z02 c]
   by_cases e:m=q
   ·subst e
    simp only [x0l,z0k,z0l,z0e,z1b,z6e,z0q,Int.reduceLT,Int.reduceEq,Int.reduceLE,p,o,d,s,r,eAy, ←g,eAg,if_false]
   ·simp only [x0l,z0k,z0l,z0e,z1b,z6e,z0q,Int.reduceLT,Int.reduceEq,Int.reduceLE,p,o,d,s,r,e,eAy, ←g]) (by
   have n:¬ (a.length:Int)<a.length:=by omega
   simp only [x0l,z0k,z0l,n,if_false])
  have key:z1e (x0l std) (z0e a,(z0e b,((a.length:Int),((0:Int),()))))=_:=key
  rw [x85 default g] at key
  unfold v8m
  have k:(z0e a).length=a.length:=z0r a
  have j:(z0e b).length=b.length:=z0r b
  have f:(a.length:Int)=(b.length:Int):=by omega
  rw [f] at key
  by_cases e:a=b
  ·simp only [e,decide_true,eDl,eAg,if_false] at key
   subst e
   simp only [z0k,z0l,z0q,Int.reduceLT,Int.reduceEq,Int.reduceLE,k,j,f,key]
  ·simp only [e,decide_false,eDd,if_true] at key
   simp only [z0k,z0l,z0q,Int.reduceLT,Int.reduceEq,Int.reduceLE,k,j,f,key,e]
 ·unfold v8m
  have k:(z0e a).length=a.length:=z0r a
  have j:(z0e b).length=b.length:=z0r b
  have f:¬ (a.length:Int)=(b.length:Int):=by omega
  have u:a≠b:=fun h=>g (by rw [h])
  simp only [z0k,z0l,z0q,Int.reduceLT,Int.reduceEq,Int.reduceLE,k,j,f,u,ne_eq]
theorem v3y (c d:Cd) (l:c.t.length≤1000000):G80 std (c.n,(c.k,(z0e c.t,(c.a,(d.n,(d.k,(z0e d.t,(d.a,()))))))))=some (decide (c=d),()):=by
 have b:=v79 c.t d.t l
 unfold G80
 by_cases e:c=d
 ·subst e
  rw [decide_eq_true rfl] at b
  simp only [z0k,z0l,z0q,Int.reduceLT,Int.reduceEq,Int.reduceLE,b]
 ·have j:¬ (c.n=d.n∧c.k=d.k∧c.t=d.t∧c.a=d.a):=by
   rintro ⟨r,q,p,o⟩; exact e (by cases c; cases d; simp_all)
  by_cases f:c.n=d.n
  ·by_cases g:c.k=d.k
   ·by_cases i:c.a=d.a
    ·have m:¬ c.t=d.t:=fun h=>j ⟨f,g,h,i⟩
     rw [decide_eq_false m] at b
     simp only [z0k,z0l,z0q,Int.reduceLT,Int.reduceEq,Int.reduceLE,b,e,f,g,i]
    ·simp only [z0k,z0l,z0q,Int.reduceLT,Int.reduceEq,Int.reduceLE,e,f,g,i]
   ·simp only [z0k,z0l,z0q,Int.reduceLT,Int.reduceEq,Int.reduceLE,e,f,g]
  ·simp only [z0k,z0l,z0q,Int.reduceLT,Int.reduceEq,Int.reduceLE,e,f]
theorem u3b (a b:List Cd) (w:a.length≤1000000) (hr:Few a):G81 std (z0a fl a,(z0a fl' b,()))=some (decide (a=b),()):=by
 by_cases s:a.length=b.length
 ·have key:=z3g (b:=w2t std) a.length (fun i=>(z0a fl' b,(z0a fl a,((a.length:Int),((i:Int),()))))) (fun i=>!decide (a.getD i default=b.getD i default)) (.inl (false,())) (.inr ()) (fun i u=>by
   obtain ⟨m,hm⟩:=z0i u
   obtain ⟨n,d⟩:=z0i (l:=b) (i:=i) (by omega)
   obtain ⟨r,t⟩:=stp i (by omega)
   have f:(i:Int)<a.length:=by omega
   have q:=y3l (fl:=fl) hm
   have p:(b.map (eC fl'))[i]?=some (eC fl' n):=by rw [eAf,d]; rfl
   have c:=v3y m n (hr m (eAi hm))
   simp only [z0e] at c
   rw [z02 hm,z02 d]
   by_cases e:m=n
   ·subst e
    rw [decide_eq_true rfl] at c
    simp only [w2t,z0k,z0l,z0a,z0e,z0x,z2o,z0a,z0e,z0q,Int.reduceLT,Int.reduceEq,Int.reduceLE,q,p,f,t,r,c,eAy,eAg,if_false]
   ·rw [decide_eq_false e] at c
    simp only [w2t,z0k,z0l,z0a,z0e,z0x,z2o,z0a,z0e,z0q,Int.reduceLT,Int.reduceEq,Int.reduceLE,q,p,f,t,r,c,e,eAy]) (by
   have o:¬ (a.length:Int)<a.length:=by omega
   simp only [w2t,z0k,z0l,o,if_false])
  have key:z1e (w2t std) (z0a fl' b,(z0a fl a,((a.length:Int),((0:Int),()))))=_:=key
  rw [x85 default s] at key
  unfold G81
  have k:(z0a fl a).length=a.length:=z0m a
  have j:(z0a fl' b).length=b.length:=z0m b
  have g:(a.length:Int)=(b.length:Int):=by omega
  rw [g] at key
  by_cases e:a=b
  ·simp only [e,decide_true,eDl,eAg,if_false] at key
   subst e
   simp only [z0k,z0l,z0q,Int.reduceLT,Int.reduceEq,Int.reduceLE,k,j,g,key]
  ·simp only [e,decide_false,eDd,if_true] at key
   simp only [z0k,z0l,z0q,Int.reduceLT,Int.reduceEq,Int.reduceLE,k,j,g,key,e]
 ·unfold G81
  have k:(z0a fl a).length=a.length:=z0m a
  have j:(z0a fl' b).length=b.length:=z0m b
  have g:¬ (a.length:Int)=(b.length:Int):=by omega
  have v:a≠b:=fun h=>s (by rw [h])
  simp only [z0k,z0l,z0q,Int.reduceLT,Int.reduceEq,Int.reduceLE,k,j,g,v,ne_eq]
def EM (fl:List Int→Bool):w3f Int Cd:=⟨fun k=> .int .i64 k,fun c=> .agg (eC fl c),[.i],false,true,[.int .i64, .int .i64, .list 1, .int .i64]⟩
theorem x5w:(EM fl).Ok where
 agg:=fun _=>rfl
 kinds:=fun _=>rfl
 eq:=fun a b=>by
  show (bif IntKind.i64==IntKind.i64 then (some (z3r .eql a b&&true)) else none)=_
  rw [eCu]; rfl
 vagg:=fun _=>rfl
 vok:=fun _=>rfl
def x30 (l:List Cd):List (Int×Cd):=l.map fun c=>(c.n,c)
def y7k (fl:List Int→Bool) (m:List (Int×Cd)):List (D×D):=(EM fl).enc m
def fdC (l:List Cd) (x:Int):Option Cd:=l.find? fun c=>decide (c.n=x)
theorem w0u (x:Int):∀ l:List Cd,z1y (x30 l) x=fdC l x
 |[]=>rfl
 |c::l=>by
  have a:=w0u x l
  unfold x30 fdC at a⊢
  simp only [eDq,z1y,List.find?_cons]
  by_cases h:x=c.n
  ·simp [h]
  ·have:decide (c.n=x)=false:=by simpa using fun e=>h e.symm
   simp [h,this,a]
theorem x12 {l:List Cd} (e:(l.map (·.n)).Nodup) {c:Cd} (h:c∈l):fdC l c.n=some c:=by
 unfold fdC
 cases a:l.find? fun d=>decide (d.n=c.n) with
 |none=>
  rw [List.find?_eq_none] at a
  have:=a c h
  simp at this
 |some d=>
  have f:=eCy a
  have b:=List.find?_some a
  simp only [decide_eq_true_eq] at b
  rw [z2j e d f c h b]
theorem x7h {l:List Cd} {x:Int} {c:Cd} (h:fdC l x=some c):c∈l∧c.n=x:=by
 have b:=eCy h
 have a:=List.find?_some h
 simp only [decide_eq_true_eq] at a
 exact ⟨b,a⟩
section
variable (m:List (Int×Cd)) (x:Int)
theorem u4z:std.mOk (y7k fl m) [SK.i] false (.int .i64 x) true [.int .i64, .int .i64, .list 1, .int .i64]=true:=w45 x5w m x
theorem v2k:std.mhas (y7k fl m) [SK.i] false (.int .i64 x)=(z1y m x).isSome:=x9a x5w m x
variable {m x}
theorem M_0 {c:Cd} (h:z1y m x=some c):std.mI (y7k fl m) [SK.i] false (.int .i64 x) 0=c.n:=x9d x5w m x 0 h
theorem M_1 {c:Cd} (h:z1y m x=some c):std.mI (y7k fl m) [SK.i] false (.int .i64 x) 1=c.k:=x9d x5w m x 1 h
theorem M_2 {c:Cd} (h:z1y m x=some c):std.mL (y7k fl m) [SK.i] false (.int .i64 x) 2=z0e c.t:=by
 show dL (y4z _ _ _ _ _)=_
 rw [show y4z (y7k fl m) [SK.i] false (.int .i64 x) 2=_ from x38 x5w m x 2 h]; rfl
theorem M_3 {c:Cd} (h:z1y m x=some c):std.mI (y7k fl m) [SK.i] false (.int .i64 x) 3=c.a:=x9d x5w m x 3 h
theorem t08 (h:z1y m x=none) (c:Cd):std.madd (y7k fl m) (.int .i64 x) (.agg [.int .i64 c.n, .int .i64 c.k, .list (fl c.t) 1 (z0e c.t), .int .i64 c.a])=y7k fl (x2j m x c):=x9c x5w m x h c
theorem t07 {c:Cd} (h:z1y m x=some c):std.mdel (y7k fl m) (std.mpos (y7k fl m) [SK.i] false (.int .i64 x))=y7k fl (w7r m x):=w9h x5w m x h
end
theorem x80 {l:List Cd} {i:Nat} {c:Cd} (b:(l.map (·.n)).Nodup) (h:l[i]?=some c):z1y (x30 (l.take i)) c.n=none∧x2j (x30 (l.take i)) c.n c=x30 (l.take (i+1)):=by
 have g:z1y (x30 (l.take i)) c.n=none:=by
  rw [y27]
  intro hm
  unfold x30 at hm
  rw [List.map_map] at hm
  obtain ⟨d,f,he⟩:=eBe.1 hm
  have he:d.n=c.n:=he
  have e:=List.mem_of_mem_take f
  have:=z2j b d e c (eAi h) he
  subst this
  obtain ⟨j,k,a⟩:=eBy.1 f
  rw [eBo] at k
  rw [List.getElem_take] at a
  have:=y1b b (i:=j) (by rw [eAb (by omega),a])
  have:=y1b b h
  omega
 refine ⟨g,?_⟩
 unfold x2j
 rw [g,eCs,h]
 simp [x30]
theorem u3c (l:List Cd) (v:l.length≤60) (m:(l.map (·.n)).Nodup):G79 std (z0a fl l,())=some (y7k fl (x30 l),()):=by
 have key:=z09 (b:=w6z std) l.length (fun (_:Unit) i=>(y7k fl (x30 (l.take i)),(z0a fl l,((l.length:Int),((i:Int),()))))) (fun _ _=>True) (fun r=>r=(y7k fl (x30 l),()))
  (fun _ i o _=> .inl ⟨(),by
   obtain ⟨c,j⟩:=z0i o
   obtain ⟨k,u⟩:=stp i (by omega)
   have f:(i:Int)<l.length:=by omega
   obtain ⟨a,s⟩:=x80 m j
   have d:=y3l (fl:=fl) j
   have p:(z1y (x30 (l.take i)) c.n).isSome=false:=by rw [a]; rfl
   have h:=t08 (fl:=fl) a c
   rw [s] at h
   have q:std.rdF (l.map (eC fl)) i 2 1=fl c.t:=u4k ‹_›
   simp only [z0e] at h
   simp only [w6z,z0k,z0l,z0a,z0e,z0x,z2o,z0a,z0e,z0q,Int.reduceLT,Int.reduceEq,Int.reduceLE,d,f,u,k,u4z,v2k,p,q,h],trivial⟩)
  (fun _ _=>⟨(y7k fl (x30 l),()),by
   have e:¬ (l.length:Int)<l.length:=by omega
   rw [eBi]
   simp only [w6z,z0k,z0l,e,if_false],rfl⟩) () 0 (eAo _) trivial
 obtain ⟨r,a,rfl⟩:=key
 have a:z1e (w6z std) ([],(z0a fl l,((l.length:Int),((0:Int),()))))=_:=a
 unfold G79
 have g:(z0a fl l).length=l.length:=z0m l
 simp only [z0k,z0l,g,a]
theorem y80 {a b:List Cd}:y76 a b=0↔z0w a=0∧z0w b=0:=by
 unfold y76; split
 ·rename_i h; exact ⟨fun e=>absurd e h,fun e=>absurd e.1 h⟩
 ·rename_i h; simp only [ne_eq,Decidable.not_not] at h; simp [h]
def u2y (a b:List Cd) (i:Nat) (M:List (Int×Cd)):Prop:=(M.map (·.1)).Nodup∧∀ x,z1y M x=if x∈(a.take i).map (·.n) then none else fdC b x
theorem v9p {M:List (Int×Cd)} (h:M≠[]):∃ x c,z1y M x=some c:=by
 match M,h with
 |(x,c)::M,_=>exact ⟨x,c,by simp [z1y]⟩
theorem v1y (A B:List (List D)) (a b:List Cd) (Q:a.length≤60) (G:(a.map (·.n)).Nodup) (o:(b.map (·.n)).Nodup) (F:∀ c∈b,c.t.length≤1000000):
  ∃ r,z1e (x7s std) (y7k fl' (x30 b),(A,(B,(z0a fl a,((a.length:Int),((0:Int),()))))))=some r∧
   ((r= .inl (15,())∧¬ ∀ c∈a,c∈b)∨∃ M,r= .inr (y7k fl' M,(A,(B,())))∧(∀ c∈a,c∈b)∧u2y a b a.length M):=by
 refine z09 (b:=x7s std) a.length (fun (M:List (Int×Cd)) i=>(y7k fl' M,(A,(B,(z0a fl a,((a.length:Int),((i:Int),()))))))) (fun M i=>u2y a b i M∧∀ c∈a.take i,c∈b) _
  (fun M i P u=>?_) (fun M u=>?_) (x30 b) 0 (eAo _) ⟨⟨by unfold x30; rw [List.map_map]; exact o,fun x=>by simp [w0u]⟩,fun c l=>by simp at l⟩
 ·obtain ⟨⟨q,N⟩,E⟩:=u
  obtain ⟨c,l⟩:=z0i P
  obtain ⟨w,H⟩:=stp i (by omega)
  have m:(i:Int)<a.length:=by omega
  have f:=y3l (fl:=fl) l
  have C:c.n∉(a.take i).map (·.n):=by
   intro hm
   have:=x80 G l
   rw [y27] at this
   apply this.1
   unfold x30
   rw [List.map_map]
   exact hm
  have j:=N c.n
  rw [if_neg C] at j
  cases k:fdC b c.n with
  |none=>
   rw [k] at j
   have s:(z1y M c.n).isSome=false:=by rw [j]; rfl
   refine .inr ⟨.inl (15,()),by simp only [x7s,z0k,z0l,z0a,z0e,z0x,z2o,z0a,z0e,z0q,Int.reduceLT,Int.reduceEq,Int.reduceLE,f,m,H,w,u4z,v2k,s], .inl ⟨rfl,fun g=>?_⟩⟩
   rw [x12 o (g c (eAi l))] at k
   cases k
  |some x=>
   rw [k] at j
   have s:(z1y M c.n).isSome=true:=by rw [j]; rfl
   have K:=M_0 (fl:=fl') j
   have J:=M_1 (fl:=fl') j
   have v:=M_2 (fl:=fl') j
   have I:=M_3 (fl:=fl') j
   have O:=t07 (fl:=fl') j
   have h:=v3y x c (F x (x7h k).1)
   simp only [z0e] at v h
   by_cases e:x=c
   ·subst e
    rw [decide_eq_true rfl] at h
    refine .inl ⟨w7r M x.n,by simp only [x7s,z0k,z0l,z0a,z0e,z0x,z2o,z0a,z0e,z0q,Int.reduceLT,Int.reduceEq,Int.reduceLE,f,m,H,w,u4z,v2k,s,K,J,v,I,h,O,eAg,if_false],⟨q.sublist (w0y _ _),fun y=>?_⟩,fun d p=>?_⟩
    ·rw [w0v y q,N y,eCs,l]
     by_cases L:y=x.n
     ·subst L; simp
     ·simp [L]
    ·rw [eCs,l] at p
     rcases eCb.1 p with p|p
     ·exact E d p
     ·have:d=x:=by simpa using p
      subst this
      exact (x7h k).1
   ·rw [decide_eq_false e] at h
    refine .inr ⟨.inl (15,()),by simp only [x7s,z0k,z0l,z0a,z0e,z0x,z2o,z0a,z0e,z0q,Int.reduceLT,Int.reduceEq,Int.reduceLE,f,m,H,w,u4z,v2k,s,K,J,v,I,h,e], .inl ⟨rfl,fun g=>?_⟩⟩
    rw [x12 o (g c (eAi l))] at k
    exact e (Option.some.inj k).symm
 ·have z:¬ (a.length:Int)<a.length:=by omega
  refine ⟨.inr (y7k fl' M,(A,(B,()))),by simp only [x7s,z0k,z0l,z,if_false,z0q,Int.reduceLT,Int.reduceEq,Int.reduceLE], .inr ⟨M,rfl,?_,u.1⟩⟩
  have:=u.2
  rwa [eBi] at this
def x8d (a b:List Cd):Int:=if y76 a b≠0 then y76 a b else if ¬ a.Perm b then 15 else if z11 a=z11 b then 0 else 24
theorem u3m (a b:List Cd) (O:Few a) (I:Few b):G35 std (z0a fl a,(z0a fl' b,()))=some (x8d a b,()):=by
 have i:=u3d (fl:=fl) (fl':=fl') a b O I
 unfold G35 x8d
 by_cases h:y76 a b=0
 ·obtain ⟨K,J⟩:=y80.1 h
  obtain ⟨X,W,F,a4,V⟩:=z1u K
  obtain ⟨U,A,T,b4,b5⟩:=z1u J
  have o:=u3c (fl:=fl') b U A
  have m:(z0a fl a).length=a.length:=z0m a
  obtain ⟨r,z,P⟩:=v1y (fl:=fl) (fl':=fl') (z0a fl a) (z0a fl' b) a b X W A I
  rcases P with ⟨rfl,B⟩|⟨M,rfl,p,Q⟩
  ·have k:¬ a.Perm b:=fun k=>B fun c f=>k.mem_iff.1 f
   simp only [z0k,z0l,z0q,Int.reduceLT,Int.reduceEq,Int.reduceLE,i,h,o,m,z,k,ne_eq]
  ·have l:std.mlen (y7k fl' M)=M.length:=by show (y7k fl' M).length=_; simp [y7k,w3f.enc]
   have t:=Q.2
   rw [eBi] at t
   by_cases s:M=[]
   ·subst s
    have k:a.Perm b:=by
     refine z89 F T fun c=>⟨p c,fun f=>?_⟩
     have:=t c.n
     rw [x12 A f] at this
     split at this
     ·rename_i hm
      obtain ⟨d,H,he⟩:=eBe.1 hm
      rw [←z2j A d (p d H) c f he]
      exact H
     ·cases this
    obtain ⟨IX,Z,y,w⟩:=y64 (fl:=fl) K
    obtain ⟨Y,L,q,j⟩:=y64 (fl:=fl') J
    have v:=(z62 F).1.length_eq
    have g:=u3b (fl:=fun _=>false) (fl':=fun _=>false) (z11 a) (z11 b) (by rw [←v]; omega) (fun c f=>by have:=(V c ((z62 F).1.mem_iff.2 f)).2.1; omega)
    have G:∀ E:List (List D),E.take E.length=E:=fun E=>eBi
    have u:¬ (0:Int)<((0:Nat):Int):=by omega
    simp only [eDn] at l
    by_cases e:z11 a=z11 b
    ·rw [decide_eq_true e] at g
     rw [←e] at j g
     have N:(if z11 a=z11 b then (0:Int) else 24)=0:=if_pos e
     simp only [z0k,z0l,z0q,Int.reduceLT,Int.reduceEq,Int.reduceLE,i,h,o,m,z,k,ne_eq,l,u,y,w,q,j,g,G,eAq,eAj,eBz,N,eDy,eAg,if_false]
    ·rw [decide_eq_false e] at g
     simp only [z0k,z0l,z0q,Int.reduceLT,Int.reduceEq,Int.reduceLE,i,h,o,m,z,k,ne_eq,l,u,y,w,q,j,g,G,eAq,eAj,eBz,e,eDy]
   ·have k:¬ a.Perm b:=by
     intro k
     obtain ⟨x,c,f⟩:=v9p s
     rw [t x] at f
     split at f
     ·cases f
     ·rename_i hm
      obtain ⟨S,R⟩:=x7h f
      exact hm (eBe.2 ⟨c,k.mem_iff.2 S,R⟩)
    have C:(0:Int)<(M.length:Int):=by
     have:0<M.length:=eFm.2 s
     omega
    simp only [z0k,z0l,z0q,Int.reduceLT,Int.reduceEq,Int.reduceLE,i,h,o,m,z,k,ne_eq,l,C]
 ·simp only [z0k,z0l,z0q,Int.reduceLT,Int.reduceEq,Int.reduceLE,i,h,ne_eq]
end Go.Am
end
section
namespace Go.Am
open D12
variable {fl fl':List Int→Bool}
def Chn (B:Cd→Cd→Bool):List Cd→Prop
 |[]=>True
 |[_]=>True
 |x::y::l=>B x y=true∧Chn B (y::l)
theorem Chn.left {B:Cd→Cd→Bool}:∀ {p q:List Cd},Chn B (p++q)→Chn B p
 |[],_,_=>trivial
 |[_],_,_=>trivial
 |x::y::p,q,h=>⟨h.1,Chn.left (p:=y::p) (q:=q) h.2⟩
end Go.Am
end
section
namespace Go.Am
open D12
variable {fl fl':List Int→Bool}
theorem u2o {l:List Cd} {x:Int} {i:Nat} (h:atO l x=some i):i<l.length:=eBs.1 (eCy h)
end Go.Am
end
section
namespace Go.Am
open D12
variable {fl fl':List Int→Bool}
theorem u9s {b:List Cd} (i:(b.map (·.n)).Nodup) (c:Cd):(∃ k d,atO b c.n=some k∧b[k]?=some d∧c=d)↔c∈b:=by
 constructor
 ·rintro ⟨k,d,_,h,rfl⟩; exact eAi h
 ·intro h
  obtain ⟨k,g,he⟩:=eBy.1 h
  have a:b[k]?=some c:=by rw [eAb g,he]
  have e:=w0o i a
  unfold atI at e
  cases f:atO b c.n with
  |none=>rw [f] at e; simp only at e; omega
  |some j=>
   rw [f] at e
   simp only at e
   have:j=k:=by omega
   subst this
   exact ⟨j,c,rfl,a,rfl⟩
theorem v1x (a b:List Cd) (G:Few a) (C:a.length≤60) (B:b.length≤60) (F:(b.map (·.n)).Nodup):
  z1e (x5q std) (z0a fl a,(z0a fl' b,((0:Int),())))=some (if (a.any fun c=>!decide (c∈b))=true then .inl (15,()) else .inr (z0a fl a,(z0a fl' b,()))):=by
 have key:=z3g (b:=x5q std) a.length (fun i=>(z0a fl a,(z0a fl' b,((i:Int),())))) (fun i=>!decide (a.getD i default∈b)) (.inl ((15:Int),())) (.inr (z0a fl a,(z0a fl' b,()))) (fun i E=>by
  obtain ⟨c,o⟩:=z0i E
  obtain ⟨r,v⟩:=stp i (by omega)
  have m:(i:Int)<a.length:=by omega
  have g:=y3l (fl:=fl) o
  have j:(a.map (eC fl)).length=a.length:=by simp
  have f:=w7y (fl:=fl') b c.n (by omega)
  unfold atI at f
  rw [z02 o]
  have q:=u9s F c
  cases s:atO b c.n with
  |none=>
   rw [s] at f q
   have hm:¬ c∈b:=fun h=>by obtain ⟨k,d,u,_⟩:=q.2 h; cases u
   have A:(-1:Int)<0:=by omega
   simp only [z0a] at f
   simp only [x5q,z0k,z0l,z0a,z0e,z0x,z2o,z0a,z0e,z0q,Int.reduceLT,Int.reduceEq,Int.reduceLE,o,g,j,m,v,r,f,A,hm]
  |some k=>
   rw [s] at f q
   have y:¬ (k:Int)<0:=by omega
   have x:(0:Int)≤(k:Int):=by omega
   obtain ⟨d,p⟩:=z0i (u2o s)
   have w:=y3l (fl:=fl') p
   have l:=v3z c d (G c (eAi o))
   simp only [z0a,z0e] at f l
   by_cases e:c=d
   ·have hm:c∈b:=e▸eAi p
    rw [decide_eq_true e] at l
    simp only [x5q,z0k,z0l,z0a,z0e,z0x,z2o,z0a,z0e,z0q,Int.reduceLT,Int.reduceEq,Int.reduceLE,o,g,j,m,v,r,f,y,x,p,w,l,hm,eAg,if_false]
   ·have hm:¬ c∈b:=fun h=>by
     obtain ⟨I,J,u,z,H⟩:=q.2 h
     cases u
     rw [p] at z; cases z
     exact e H
    rw [decide_eq_false e] at l
    simp only [x5q,z0k,z0l,z0a,z0e,z0x,z2o,z0a,z0e,z0q,Int.reduceLT,Int.reduceEq,Int.reduceLE,o,g,j,m,v,r,f,y,x,p,w,l,hm,eAg,if_false]) (by
  have t:¬ (a.length:Int)<a.length:=by omega
  have j:(z0a fl a).length=a.length:=z0m a
  simp only [x5q,z0k,z0l,j,t,if_false])
 have key:z1e (x5q std) (z0a fl a,(z0a fl' b,((0:Int),())))=_:=key
 rw [y37 a default fun c=>!decide (c∈b)] at key
 exact key
def y72 (b:List Cd) (x y:Cd):Bool:=tch x y&&decide (atI b x.n>atI b y.n)
theorem v1v (a b:List Cd) (w:Few a) (y:a.length≤60) (x:b.length≤60) (i:Nat) {c:Cd} (l:a[i]?=some c):
  z1e (x7r std) (z0a fl a,(z0a fl' b,((i:Int),((0:Int),()))))=some (if ((List.range i).any fun k=>y72 b (a.getD k default) c)=true then .inl (24,()) else .inr (z0a fl a,(z0a fl' b,((i:Int),())))):=by
 have z:i<a.length:=(eAa.1 l).1
 have key:=z3g (b:=x7r std) i (fun k=>(z0a fl a,(z0a fl' b,((i:Int),((k:Int),()))))) (fun k=>y72 b (a.getD k default) c) (.inl ((24:Int),())) (.inr (z0a fl a,(z0a fl' b,((i:Int),())))) (fun k A=>by
  obtain ⟨d,j⟩:=z0i (show k<a.length by omega)
  obtain ⟨p,r⟩:=stp k (by omega)
  have g:(k:Int)<(i:Int):=by omega
  have h:(0:Int)≤(i:Int):=by omega
  have o:=y3l (fl:=fl) l
  have m:=y3l (fl:=fl) j
  have f:=w01 d c (w d (eAi j)) (w c (eAi l))
  have t:=w7y (fl:=fl') b d.n (by omega)
  have s:=w7y (fl:=fl') b c.n (by omega)
  rw [z02 j]
  unfold y72
  simp only [z0a,z0e] at f t s
  cases v:tch d c with
  |false=>
   rw [v] at f
   simp only [x7r,z0k,z0l,z0a,z0e,z0x,z2o,z0a,z0e,z0q,Int.reduceLT,Int.reduceEq,Int.reduceLE,l,j,o,m,g,r,h,p,f,Bool.false_and,eAg,if_false]
  |true=>
   rw [v] at f
   by_cases e:atI b d.n>atI b c.n
   ·have u:atI b c.n<atI b d.n:=e
    simp only [x7r,z0k,z0l,z0a,z0e,z0x,z2o,z0a,z0e,z0q,Int.reduceLT,Int.reduceEq,Int.reduceLE,l,j,o,m,g,r,h,p,f,t,s,u,Bool.true_and,if_true]
   ·have u:¬ atI b c.n<atI b d.n:=e
    simp only [x7r,z0k,z0l,z0a,z0e,z0x,z2o,z0a,z0e,z0q,Int.reduceLT,Int.reduceEq,Int.reduceLE,l,j,o,m,g,r,h,p,f,t,s,u,Bool.true_and,eAg,if_false]) (by
  have q:¬ (i:Int)<(i:Int):=by omega
  simp only [x7r,z0k,z0l,q,if_false])
 exact key
theorem v1w (a b:List Cd) (q:Few a) (j:a.length≤60) (h:b.length≤60):
  z1e (w2y std) (z0a fl a,(z0a fl' b,((0:Int),())))=some (if ((List.range a.length).any fun i=>(List.range i).any fun k=>y72 b (a.getD k default) (a.getD i default))=true then .inl (24,()) else .inr ()):=by
 have key:=z3g (b:=w2y std) a.length (fun i=>(z0a fl a,(z0a fl' b,((i:Int),())))) (fun i=>(List.range i).any fun k=>y72 b (a.getD k default) (a.getD i default)) (.inl ((24:Int),())) (.inr ()) (fun i p=>by
  obtain ⟨c,n⟩:=z0i p
  obtain ⟨l,o⟩:=stp i (by omega)
  have f:(i:Int)<a.length:=by omega
  have d:(z0a fl a).length=a.length:=z0m a
  have e:=v1v (fl:=fl) (fl':=fl') a b q j h i n
  rw [z02 n]
  cases m:(List.range i).any fun k=>y72 b (a.getD k default) c with
  |true=>
   rw [m] at e
   simp only [if_true] at e
   simp only [w2y,z0k,z0l,z0q,Int.reduceLT,Int.reduceEq,Int.reduceLE,d,f,o,l,e]
  |false=>
   rw [m] at e
   simp only [eAg,if_false] at e
   simp only [w2y,z0k,z0l,z0q,Int.reduceLT,Int.reduceEq,Int.reduceLE,d,f,o,l,e,eAg,if_false]) (by
  have g:¬ (a.length:Int)<a.length:=by omega
  have d:(z0a fl a).length=a.length:=z0m a
  simp only [w2y,z0k,z0l,d,g,if_false])
 exact key
theorem x6r {a b:List Cd} (g:a.Nodup) (f:b.Nodup) (j:a.length=b.length) (h:∀ c∈a,c∈b):a.Perm b:=by
 have i:a.Perm (b.filter fun x=>decide (x∈a)):=z89 g (f.filter _) fun x=>by
  rw [eAz,decide_eq_true_eq]; exact ⟨fun d=>⟨h x d,d⟩,fun d=>d.2⟩
 have:(b.filter fun x=>decide (x∈a)).length=b.length:=by rw [←i.length_eq,j]
 have e:=List.length_filter_eq_length_iff.1 this
 exact z89 g f fun x=>⟨h x,fun d=>by simpa using e x d⟩
theorem w3h {a b:List Cd} (m:(a.map (·.n)).Nodup) (C:(b.map (·.n)).Nodup) (q:a.Perm b):((List.range a.length).any fun i=>(List.range i).any fun k=>y72 b (a.getD k default) (a.getD i default))=true↔¬ Eqv a b:=by
 have f:∀ x∈a,atI b x.n=(b.idxOf x:Int):=fun x d=>by
  have p:=q.mem_iff.1 d
  have t:=eCc p
  exact w0o C (by rw [eAb t,eCi])
 constructor
 ·intro h he
  obtain ⟨i,l,h⟩:=eBq.1 h
  obtain ⟨k,w,h⟩:=eBq.1 h
  have l:=eBs.1 l
  have w:=eBs.1 w
  obtain ⟨x,d⟩:=z0i (show k<a.length by omega)
  obtain ⟨y,e⟩:=z0i l
  rw [z02 d,z02 e] at h
  unfold y72 at h
  rw [eAc,decide_eq_true_eq,f x (eAi d),f y (eAi e)] at h
  have B:a.idxOf x=k:=by
   have:=y1b m d
   have g:=y1b m (i:=a.idxOf x) (c:=x) (by have:=eCc (eAi d); rw [eAb this,eCi])
   omega
  have A:a.idxOf y=i:=by
   have:=y1b m e
   have g:=y1b m (i:=a.idxOf y) (c:=y) (by have:=eCc (eAi e); rw [eAb this,eCi])
   omega
  have j:ord a x y=true:=z1d.2 ⟨h.1,by omega⟩
  rw [he.2 x (eAi d) y (eAi e)] at j
  have:=(z1d.1 j).2
  omega
 ·intro s
  refine Decidable.byContradiction fun r=>s ⟨q,?_⟩
  have key:∀ x∈a,∀ y∈a,ord a x y=true→ord b x y=true:=by
   intro x d y e j
   obtain ⟨v,l⟩:=z1d.1 j
   refine z1d.2 ⟨v,?_⟩
   rcases Nat.lt_trichotomy (b.idxOf x) (b.idxOf y) with h|h|h
   ·exact h
   ·exact absurd (w5k (q.mem_iff.1 d) h) (x8v j)
   ·exfalso
    apply r
    have z:=eCc d
    have u:=eCc e
    refine eBq.2 ⟨a.idxOf y,eBs.2 u,eBq.2 ⟨a.idxOf x,eBs.2 l,?_⟩⟩
    have F:a[a.idxOf x]?=some x:=by rw [eAb z,eCi]
    have E:a[a.idxOf y]?=some y:=by rw [eAb u,eCi]
    rw [z02 F,z02 E]
    unfold y72
    rw [eAc,decide_eq_true_eq,f x d,f y e]
    exact ⟨v,by omega⟩
  intro x d y e
  cases h:ord a x y with
  |true=>exact (key x d y e h).symm
  |false=>
   cases g:ord b x y with
   |false=>rfl
   |true=>
    exfalso
    rcases y6n d (x8v g) (z1d.1 g).1 with o|o
    ·rw [h] at o; cases o
    ·have:=key y e x d o
     rw [y6o this] at g; cases g
theorem u3l (a b:List Cd) (t:Few a) (C:Few b):G36 std (z0a fl a,(z0a fl' b,()))=some (x8d a b,()):=by
 have g:=u3a (fl:=fl) (fl':=fl') a b t C
 have q:(z0a fl a).length=a.length:=z0m a
 have p:(z0a fl' b).length=b.length:=z0m b
 unfold G36 x8d
 by_cases h:y76 a b=0
 ·obtain ⟨F,E⟩:=y80.1 h
  obtain ⟨A,z,y,K,J⟩:=z1u F
  obtain ⟨x,w,G,I,H⟩:=z1u E
  by_cases v:a.length=b.length
  ·have f:(a.length:Int)=(b.length:Int):=by omega
   have j:=v1x (fl:=fl) (fl':=fl') a b t A x w
   cases m:a.any (fun c=>!decide (c∈b)) with
   |true=>
    have d:¬ a.Perm b:=fun d=>by
     obtain ⟨c,s,B⟩:=eBq.1 m
     simp [d.mem_iff.1 s] at B
    rw [m] at j
    simp only [if_true] at j
    simp only [z0k,z0l,z0q,Int.reduceLT,Int.reduceEq,Int.reduceLE,g,h,q,p,f,j,d,ne_eq]
   |false=>
    have o:∀ c∈a,c∈b:=fun c s=>by
     rw [eDx] at m
     simpa using m c s
    have d:=x6r y G v o
    rw [m] at j
    simp only [eAg,if_false] at j
    have l:=v1w (fl:=fl) (fl':=fl') a b t A x
    have u:=w3h z w d
    have n:=x14 (z2j z) y d
    by_cases he:Eqv a b
    ·have:((List.range a.length).any fun i=>(List.range i).any fun k=>y72 b (a.getD k default) (a.getD i default))=false:=by
      rw [Bool.eq_false_iff]; exact fun e=>u.1 e he
     rw [this] at l
     simp only [eAg,if_false] at l
     have r:(if z11 a=z11 b then (0:Int) else 24)=0:=if_pos (n.2 he)
     simp only [z0k,z0l,z0q,Int.reduceLT,Int.reduceEq,Int.reduceLE,g,h,q,p,f,j,l,d,r,ne_eq]
    ·rw [u.2 he] at l
     simp only [if_true] at l
     have r:(if z11 a=z11 b then (0:Int) else 24)=24:=if_neg fun e=>he (n.1 e)
     simp only [z0k,z0l,z0q,Int.reduceLT,Int.reduceEq,Int.reduceLE,g,h,q,p,f,j,l,d,r,ne_eq]
  ·have f:¬ (a.length:Int)=(b.length:Int):=by omega
   have d:¬ a.Perm b:=fun d=>v d.length_eq
   simp only [z0k,z0l,z0q,Int.reduceLT,Int.reduceEq,Int.reduceLE,g,h,q,p,f,d,ne_eq]
 ·simp only [z0k,z0l,z0q,Int.reduceLT,Int.reduceEq,Int.reduceLE,g,h,ne_eq]
end Go.Am
end
section
namespace Go.Am
open D12
variable {fl fl':List Int→Bool}
theorem x5k (c:Cd) (es:List (List D)) (l:List Cd) (h:z9u es=some l):z9u (eC fl c::es)=some (c::l):=by
 have b:y6p (z0e c.t)=some c.t:=y9m c.t
 show (match y6p (z0e c.t),z9u es with|some t,some r=>some ((⟨c.n,c.k,t,c.a⟩:Cd)::r)|_,_=>none)=_
 rw [b,h]
theorem x7p (l:List Cd):z9u (z0a fl l)=some l:=by
 induction l with
 |nil=>rfl
 |cons c l a=>exact x5k c _ l a
theorem u3q (l:List Cd) (a:Few l):G30 std (z0a fl l,())=some (z0a ff0 (z2s l),(z0w l,())):=by
 unfold G30
 have d:w6r l=true:=eAx.2 fun c b=>eBj (a c b)
 simp only [x7p,d,cond_true]
theorem x67 (l:List Cd):(if z0w l=0 then z0a (fun _=>false) (z11 l) else [])=z0a (fun _=>false) (z2s l):=by
 unfold z2s; split<;>rfl
def z40 (l:List Cd) (x:Int):List Cd:=if y4g l x=0 then z4d x l else []
theorem w88 (fl:List Int→Bool) (l:List Cd) (x:Int):(if y4g l x=0 then z0a fl (z4d x l) else [])=z0a fl (z40 l x):=by
 unfold z40; split<;>rfl
def z5c (l:List Cd):List (List Int):=if z0w l=0 then z4b l else []
theorem w81 (fl:List Int→Bool) (l:List Cd):(if z0w l=0 then z3q fl (z4b l) else [])=z3q fl (z5c l):=by
 unfold z5c; split<;>rfl
theorem w1l {l:List Cd}:(z5c l).length≤1000000∧∀ r∈z5c l,r.length≤1000000:=by
 unfold z5c
 split
 ·rename_i h
  obtain ⟨e,d,c,_⟩:=z1u h
  have b:mxs (x2p l) l≤l.length:=y01 c (w4c l) l [] (by simp)
  refine ⟨by simp [z4b]; omega,fun r a=>?_⟩
  unfold z4b at a
  obtain ⟨m,_,rfl⟩:=eBe.1 a
  unfold z6h
  rw [(srt_perm _).length_eq,eAy]
  exact eBk (List.length_filter_le _ _) (by omega)
 ·simp
theorem t1g (a b:List Cd) (x:Int):G5 std (z0a fl a,(z0a fl b,(x,())))=some (true,()):=by
 have n:=v4c (fl:=fl) a
 have v:=v4c (fl:=fl) b
 unfold G5
 by_cases E:x4l a=true
 ·rw [E] at n
  simp only [z0k,z0l,z0q,Int.reduceLT,Int.reduceEq,Int.reduceLE,n,G16,if_true]
 ·have m:x4l a=false:=by simpa using E
  rw [m] at n
  by_cases C:x4l b=true
  ·rw [C] at v
   simp only [z0k,z0l,z0q,Int.reduceLT,Int.reduceEq,Int.reduceLE,n,v,G16,if_true,if_false,eAg]
  ·have k:x4l b=false:=by simpa using C
   rw [k] at v
   obtain ⟨d,U,S⟩:=y4l m
   obtain ⟨j,T,R⟩:=y4l k
   have u:=u3t (fl:=fl) a d
   have t:=u3s (fl:=fl) a d
   have s:=u3r (fl:=fl) a d
   have B:=u3q (fl:=fl) a d
   have r:=u3p (fl:=fl) a x d
   have q:=u3o (fl:=fl) a x d
   have A:=u3m (fl:=fl) (fl':=fl) a b d j
   have z:=u3l (fl:=fl) (fl':=fl) a b d j
   rw [w81] at u t
   rw [x67] at s
   rw [w88] at r q
   obtain ⟨G,F⟩:=w1l (l:=a)
   have p:=u3n (fl:=tru) (fl':=fun _=>false) (z5c a) (z5c a) G F
   have i:∀ c∈z2s a,c∈a:=by
    intro c e
    unfold z2s at e
    split at e
    ·exact y6y (ord a) a.length a c e
    ·cases e
   have y:(z2s a).length≤1000000:=by
    unfold z2s
    split
    ·rename_i h
     have:=(z62 (z1u h).2.2.1).1.length_eq
     omega
    ·simp
   have o:=v4b (fl:=fun _=>false) (fl':=ff0) (z2s a) (z2s a) y fun c e=>d c (i c e)
   have g:∀ c∈z40 a x,c∈a:=by
    intro c e
    unfold z40 at e
    split at e
    ·exact (z99 x a).subset e
    ·cases e
   have w:(z40 a x).length≤1000000:=by
    unfold z40
    split
    ·have:=(z99 x a).length_le; omega
    ·simp
   have f:=v4b (fl:=fun _=>false) (fl':=fl) (z40 a x) (z40 a x) w fun c e=>d c (g c e)
   simp only [decide_true] at p o f
   have L:(z3q tru (z5c a)).length=(z5c a).length:=y5h _
   have K:(z3q (fun _=>false) (z5c a)).length=(z5c a).length:=y5h _
   have J:(z0a (fun _=>false) (z2s a)).length=(z2s a).length:=z0m _
   have I:(z0a (fun _=>false) (z40 a x)).length=(z40 a x).length:=z0m _
   have H:(z0a fl (z40 a x)).length=(z40 a x).length:=z0m _
   have Q:(z3q tru (z5c a)).take (z5c a).length=z3q tru (z5c a):=eBd (by omega)
   have P:(z3q (fun _=>false) (z5c a)).take (z5c a).length=z3q (fun _=>false) (z5c a):=eBd (by omega)
   have O:(z0a (fun _=>false) (z2s a)).take (z2s a).length=z0a (fun _=>false) (z2s a):=eBd (by omega)
   have N:(z0a (fun _=>false) (z40 a x)).take (z40 a x).length=z0a (fun _=>false) (z40 a x):=eBd (by omega)
   have M:(z0a fl (z40 a x)).take (z40 a x).length=z0a fl (z40 a x):=eBd (by omega)
   generalize z3q tru (z5c a)=A1 at*
   generalize z3q (fun _=>false) (z5c a)=Z at*
   generalize z0a (fun _=>false) (z2s a)=Y at*
   generalize z0a ff0 (z2s a)=X at*
   generalize z0a (fun _=>false) (z40 a x)=W at*
   generalize z0a fl (z40 a x)=V at*
   simp only [z0k,z0l,z0q,Int.reduceLT,Int.reduceEq,Int.reduceLE,n,v,u,t,s,B,r,q,p,o,f,A,z,L,K,J,I,H,Q,P,O,N,M,G16,eAj,eAq,eBz,eDy,if_true,if_false,eAg]
end Go.Am
end
section
namespace Go.Am
open Go Go.RowKit Go.Proofs
theorem y5b {P:Program} {w:World}:∀ {l:List (String×DataW Unit)} {b:List MemPlace},DataW.LaidVars P w l b→∀ x∈l,∃ g t cs fuel p,P.globalNamed x.1=some g∧(P.globals[g]?).map (·.type)=some t∧w.var? P x.1=some cs∧
  DataW.trod (fun _=>()) P w 0 (fun _=>true) false fuel t cs.toList=some (x.2,p)
 |[],_,_,x,a=>by cases a
 |(n,d)::r,b,h,x,a=>by
  obtain ⟨g,t,cs,fuel,p,q,j,i,f,e,c,_⟩:=h
  rcases eAm.1 a with rfl|a
  ·exact ⟨g,t,cs,fuel,p,j,i,f,e⟩
  ·exact y5b c x a
theorem y5m {P:Program} {w:World} {n:String} {g:Nat} {cs:Array Value} (hg:P.globalNamed n=some g) (h:w.var? P n=some cs):z1a w g=some cs.size:=by
 unfold World.var? at h
 rw [hg] at h
 simp only [eBp] at h
 unfold z1a
 split at h<;>simp_all
theorem v8o {P:Program} {w:World} {n:String} {g:Nat} {cs:Array Value} (hg:P.globalNamed n=some g) (h:w.var? P n=some cs):g<w.heap.size:=z7s (y5m hg h)
theorem u0f {α:Type} (f:Int→α):∀ (l:List (Int×Int)) (j:Nat),(l.flatMap fun q=>[f q.1,f q.2])[j]?=(l[j / 2]?).map fun q=>if j % 2=0 then f q.1 else f q.2
 |[],j=>by simp
 |q::l,0=>by simp
 |q::l,1=>by simp
 |q::l,j+2=>by
  have b:(j+2) / 2=j / 2+1:=by omega
  have a:(j+2) % 2=j % 2:=by omega
  rw [b,a,List.flatMap_cons]
  show (f q.1::f q.2::l.flatMap fun q=>[f q.1,f q.2])[j+2]?=_
  simpa using u0f f l j
def unp:DataW Unit→List Int
 | .agg l=>l.map fun| .lit (.int _ z)=>z|_=>0
 |_=>[]
def v4i:DataW Unit→List (Int×Int)
 | .agg l=>l.map fun| .agg [.lit (.int _ a), .lit (.int _ b)]=>(a,b)|_=>(0,0)
 |_=>[]
def x1j (k:IntKind) (l:List (Int×Int)):DataW Unit:= .agg (l.map fun q=> .agg [.lit (.int k q.1), .lit (.int k q.2)])
theorem y8r {P:Program} {w:World} {base:Nat} {sp:Nat→Bool} {held:Bool} {fuel:Nat} {t e u:TypeId} {n:Nat} {k:IntKind} {fs:Array Field} {cs:List Value} {l:List (Int×Int)} {p:List MemPlace} {enc:TypeId×Value→Unit}
  (ht:P.underlying t=some (.array n e)) (he:P.underlying e=some (.struct fs)) (hu:P.underlying u=some (.int k)) (M:P.cellsOf e=2) (K:P.cellsOf u=1) (L:P.cellsOf t=n*2)
  (Q:(fs.toList.map fun f=>(f.type,f.offset))=[(u,0),(u,1)])
  (h:DataW.trod enc P w base sp held fuel t cs=some (x1j k l,p)):cs=l.flatMap fun q=>[Value.int k q.1,Value.int k q.2]:=by
 obtain ⟨E,m,rfl,Z,hl,Y,hi⟩:=DataW.trod_array ht h
 have r:E.map (·.1)=l.map fun q=>(DataW.agg [.lit (.int k q.1), .lit (.int k q.2)]:DataW Unit):=by
  have:=congrArg Prod.fst Z
  simpa [x1j] using this.symm
 have hll:l.length=n:=by
  have:=congrArg List.length r
  simp at this; omega
 have hfs:fs.size=2:=by
  have:=congrArg List.length Q
  simpa using this
 apply eBt
 intro j
 rw [u0f]
 by_cases hj:j / 2<n
 ·obtain ⟨q,O⟩:∃ q,l[j / 2]?=some q:=⟨l[j / 2]'(by omega),eAb (by omega)⟩
  have T:=hi (j / 2) hj
  have A:(E.map (·.1))[j / 2]?=some (.agg [.lit (.int k q.1), .lit (.int k q.2)]):=by rw [r,eAf,O]; rfl
  rw [eAf] at A
  cases R:E[j / 2]? with
  |none=>rw [R] at A; cases A
  |some b=>
  rw [R] at T A
  obtain ⟨C,m',rfl,X,W,V,hg⟩:=DataW.trod_struct he T
  have G:C.map (·.1)=[.lit (.int k q.1), .lit (.int k q.2)]:=by
   have U:=congrArg Prod.fst X
   have e2:b.1= .agg [.lit (.int k q.1), .lit (.int k q.2)]:=Option.some.inj A
   rw [e2] at U
   simpa using U.symm
  have B:∀ (i:Nat) (z:Int),i<2→([q.1,q.2]:List Int)[i]?=some z→cs[j / 2*2+i]?=some (.int k z):=by
   intro i z c g
   have a:(fs.toList.map fun f=>(f.type,f.offset))[i]?=some (u,i):=by
    rw [Q]
    match i,c with
    |0,_=>rfl
    |1,_=>rfl
   rw [eAf] at a
   cases d:fs.toList[i]? with
   |none=>rw [d] at a; cases a
   |some f=>
   rw [d] at a
   have v:=Option.some.inj a
   have H:f.type=u:=congrArg Prod.fst v
   have I:f.offset=i:=congrArg Prod.snd v
   have N:=hg i f (by simpa using d)
   rw [H,I] at N
   have x:(C.map (·.1))[i]?=some (.lit (.int k z)):=by
    rw [G]
    match i,c,g with
    |0,_,g=>cases g; rfl
    |1,_,g=>cases g; rfl
   rw [eAf] at x
   cases o:C[i]? with
   |none=>rw [o] at x; cases x
   |some y=>
   rw [o] at N x
   obtain ⟨z',hc,F,_⟩:=DataW.trod_int hu N
   have:y.1= .lit (.int k z):=Option.some.inj x
   rw [F] at this
   simp only [DataW.lit.injEq,Lit.int.injEq,true_and] at this
   subst this
   have S:=congrArg (·[0]?) hc
   simp only [K,M,eDs,eCg,eCt] at S
   simpa [eBv,show i<2 from c] using S
  rw [O]
  simp only [eAw]
  have hj2:j=j / 2*2+j % 2:=by omega
  have hm:j % 2<2:=eFc _ (by omega)
  by_cases s:j % 2=0
  ·rw [if_pos s]
   have:=B 0 q.1 (by omega) rfl
   rw [show j=j / 2*2+0 by omega]
   simpa using this
  ·rw [if_neg s]
   have:=B 1 q.2 (by omega) rfl
   rw [show j=j / 2*2+1 by omega]
   have e:(j / 2*2+1) / 2=j / 2:=by omega
   simpa [e] using this
 ·have J:l[j / 2]?=none:=eCq (by omega)
  rw [J,eCq (by rw [hl,L]; omega)]
  rfl
theorem x53 {W:World} {n:String} {d:DataW Unit} {l:List (String×DataW Unit)} {u:List MemPlace} (A:DataW.LaidVars Tryz.prog W l u) {i:Nat} (v:l[i]?=some (n,d)) {g t e m:Nat} {k:IntKind}
  (hg:Tryz.prog.globalNamed n=some g) (a:(Tryz.prog.globals[g]?).map (·.type)=some t) (w:Tryz.prog.underlying t=some (.array m e)) (he:Tryz.prog.underlying e=some (.int k)) (f:Tryz.prog.cellsOf e=1) (c:Tryz.prog.cellsOf t=m)
  (y:d=Lib.tabData k (unp d)):g<W.heap.size∧z1a W g=some (unp d).length∧∀ (j:Nat) (z:Int),(unp d)[j]?=some z→W.cell? ⟨g,j,none⟩=some (.int k z):=by
 obtain ⟨F,E,cs,s,p,C,B,r,h⟩:=y5b A (n,d) (eAi v)
 obtain rfl:=Option.some.inj (hg.symm.trans C)
 obtain rfl:=Option.some.inj (a.symm.trans B)
 simp only at h
 rw [y] at h
 have o:=Lib.cells_of_tab w he f c h
 have q:=y5m hg r
 have b:cs.size=(unp d).length:=by
  have:=congrArg List.length o
  simpa using this
 refine ⟨z7s q,by rw [q,b],fun j z x=>?_⟩
 rw [World.var?_cell hg r j]
 have:=congrArg (·[j]?) o
 simp only [eAf,x,eAw] at this
 simpa using this
theorem w89 {W:World} {n:String} {d:DataW Unit} {l:List (String×DataW Unit)} {y:List MemPlace} (H:DataW.LaidVars Tryz.prog W l y) {i:Nat} (A:l[i]?=some (n,d)) {g t e u m:Nat} {k:IntKind} {fs:Array Field}
  (hg:Tryz.prog.globalNamed n=some g) (a:(Tryz.prog.globals[g]?).map (·.type)=some t) (C:Tryz.prog.underlying t=some (.array m e)) (he:Tryz.prog.underlying e=some (.struct fs)) (B:Tryz.prog.underlying u=some (.int k))
  (o:Tryz.prog.cellsOf e=2) (c:Tryz.prog.cellsOf u=1) (h:Tryz.prog.cellsOf t=m*2) (F:(fs.toList.map fun f=>(f.type,f.offset))=[(u,0),(u,1)])
  (G:d=x1j k (v4i d)):g<W.heap.size∧z1a W g=some ((v4i d).flatMap fun q=>[q.1,q.2]).length∧∀ (j:Nat) (z:Int),((v4i d).flatMap fun q=>[q.1,q.2])[j]?=some z→W.cell? ⟨g,j,none⟩=some (.int k z):=by
 obtain ⟨L,K,cs,x,p,J,I,w,s⟩:=y5b H (n,d) (eAi A)
 obtain rfl:=Option.some.inj (hg.symm.trans J)
 obtain rfl:=Option.some.inj (a.symm.trans I)
 simp only at s
 rw [G] at s
 have r:=y8r C he B o c h F s
 have hm:((v4i d).flatMap fun q=>[Value.int k q.1,Value.int k q.2])=((v4i d).flatMap fun q=>[q.1,q.2]).map (Value.int k):=by
  rw [List.map_flatMap]; rfl
 rw [hm] at r
 have v:=y5m hg w
 have b:cs.size=((v4i d).flatMap fun q=>[q.1,q.2]).length:=by
  have:=congrArg List.length r
  simpa using this
 refine ⟨z7s v,by rw [v,b],fun j z E=>?_⟩
 rw [World.var?_cell hg w j]
 have:=congrArg (·[j]?) r
 simp only [eAf,E,eAw] at this
 simpa using this
theorem w5j {W:World} {n c:String} {d:DataW Unit} {l:List (String×DataW Unit)} {h:List MemPlace} (o:DataW.LaidVars Tryz.prog W l h) {i:Nat} (j:l[i]?=some (n, .iface c d)) {g t:Nat} {ms:Array (String×TypeId)}
  (hg:Tryz.prog.globalNamed n=some g) (a:(Tryz.prog.globals[g]?).map (·.type)=some t) (k:Tryz.prog.underlying t=some (.interface ms)):g<W.heap.size∧∃ u v,W.cell? ⟨g,0,none⟩=some (.iface u v):=by
 obtain ⟨x,w,cs,f,p,s,r,e,q⟩:=y5b o (n, .iface c d) (eAi j)
 obtain rfl:=Option.some.inj (hg.symm.trans s)
 obtain rfl:=Option.some.inj (a.symm.trans r)
 obtain ⟨b,u,v,m,_⟩:=iface_of_trod k q
 refine ⟨v8o hg e,u,v,?_⟩
 rw [World.var?_cell hg e 0]
 have:=congrArg (·[0]?) m
 simpa using this
open YtejcgpekgbiooaaGreatDoor in
abbrev w5f:List (String×DataW Unit):=Rows.docketCardsRow.laid
theorem x83:(w5f.filter fun x=>x.2.handleName?.isSome)=[]:=by kernel_rfl
theorem w9q {w:World} (h:laidMet Tryz.prog w5f w):laidMetH Tryz.prog w5f w:=by
 unfold laidMetH
 rw [x83]
 exact h
open YtejcgpekgbiooaaGreatDoor in
theorem v4h:w3n Tryz.prog=[(7,((v4i Rows.laid_unicode_utf8_acceptRanges).flatMap fun q=>[q.1,q.2]).map (.int .u8)),(1,(unp Rows.laid_internal_strconv_uint64pow10).map (.int .u64)),(5,(unp Rows.laid_math_bits_deBruijn64tab).map (.int .u8)),(4,(unp Rows.laid_math_bits_deBruijn32tab).map (.int .u8))]:=by kernel_rfl
theorem nm0 : Tryz.prog.globalNamed "internal/bytealg.MaxLen" = some 0 := by kernel_rfl
theorem nm1 : Tryz.prog.globalNamed "internal/strconv.uint64pow10" = some 1 := by kernel_rfl
theorem nm2 : Tryz.prog.globalNamed "strconv.ErrSyntax" = some 2 := by kernel_rfl
theorem nm3 : Tryz.prog.globalNamed "strconv.ErrRange" = some 3 := by kernel_rfl
theorem nm4 : Tryz.prog.globalNamed "math/bits.deBruijn32tab" = some 4 := by kernel_rfl
theorem nm5 : Tryz.prog.globalNamed "math/bits.deBruijn64tab" = some 5 := by kernel_rfl
theorem nm7 : Tryz.prog.globalNamed "unicode/utf8.acceptRanges" = some 7 := by kernel_rfl
open YtejcgpekgbiooaaGreatDoor in
theorem u8e {W : World} (hL0 : laidMetH Tryz.prog w5f W) (hsh : W.ShapedOpen Tryz.prog) : GL Tryz.prog (fun _ => False) W := by
 unfold laidMetH at hL0
 rw [x83] at hL0
 obtain ⟨ps, hL, _, _⟩ : laidMet Tryz.prog w5f W := hL0
 refine ⟨fun g cells hgl => ?_, fun g b hs => ?_⟩
 ·unfold y14 at hgl
  rw [v4h] at hgl
  have fin : ∀ {k : IntKind} {zs : List Int}, (g < W.heap.size ∧ z1a W g = some zs.length ∧ ∀ (j : Nat) (z : Int), zs[j]? = some z → W.cell? ⟨g, j, none⟩ = some (.int k z)) → zs.map (.int k) = cells →
    g < W.heap.size ∧ ¬ False ∧ z1a W g = some cells.length ∧ ∀ (k : Nat) (x : D), cells[k]? = some x → ∃ v, W.cell? ⟨g, k, none⟩ = some v ∧ ∀ (O' : Nat → Prop) (w' : World), z1k O' w' x v := by
   rintro k zs ⟨a, b, c⟩ rfl
   refine ⟨a, id, by rw [b]; simp, fun j x hx => ?_⟩
   rw [eAf] at hx
   cases hz : zs[j]? with
   | none => rw [hz] at hx; cases hx
   | some z =>
    rw [hz] at hx
    cases hx
    exact ⟨_, c j z hz, fun _ _ => .int _ _⟩
  simp only [v5r] at hgl
  cases h7 : Nat.beq 7 g with
  | true =>
   obtain rfl := eAd h7
   simp only [h7, cond_true, Option.some.injEq] at hgl
   exact fin (w89 hL (i := 3) rfl nm7 (t := 231) (by kernel_rfl) (m := 16) (e := 230) (fs := match Tryz.prog.underlying 230 with | some (.struct fs) => fs | _ => #[]) (by kernel_rfl) (by kernel_rfl) (u := 5) (by kernel_rfl) (by kernel_rfl) (by kernel_rfl) (by kernel_rfl) (by kernel_rfl) (by kernel_rfl)) hgl
  | false =>
  cases h1 : Nat.beq 1 g with
  | true =>
   obtain rfl := eAd h1
   simp only [h7, h1, cond_false, cond_true, Option.some.injEq] at hgl
   exact fin (x53 hL (i := 2) rfl nm1 (t := 206) (by kernel_rfl) (m := 20) (e := 100) (by kernel_rfl) (by kernel_rfl) (by kernel_rfl) (by kernel_rfl) (by kernel_rfl)) hgl
  | false =>
  cases h5 : Nat.beq 5 g with
  | true =>
   obtain rfl := eAd h5
   simp only [h7, h1, h5, cond_false, cond_true, Option.some.injEq] at hgl
   exact fin (x53 hL (i := 1) rfl nm5 (t := 227) (by kernel_rfl) (m := 64) (e := 5) (by kernel_rfl) (by kernel_rfl) (by kernel_rfl) (by kernel_rfl) (by kernel_rfl)) hgl
  | false =>
  cases h4 : Nat.beq 4 g with
  | true =>
   obtain rfl := eAd h4
   simp only [h7, h1, h5, h4, cond_false, cond_true, Option.some.injEq] at hgl
   exact fin (x53 hL (i := 0) rfl nm4 (t := 226) (by kernel_rfl) (m := 32) (e := 5) (by kernel_rfl) (by kernel_rfl) (by kernel_rfl) (by kernel_rfl) (by kernel_rfl)) hgl
  | false =>
   simp only [h7, h1, h5, h4, cond_false] at hgl
   cases hgl
 ·unfold y1e at hs
  rw [nm0, nm2, nm3] at hs
  split at hs
  ·rename_i h0
   obtain rfl := Option.some.inj h0
   cases hs
   obtain ⟨m, hm⟩ := cell_of_shapedOpen_int (t := 3) (k := .i64) hsh (g := 0) (of_decide_eq_true (by kernel_rfl)) (zero := #[.int .i64 0]) (by kernel_rfl) rfl (by kernel_rfl) (by kernel_rfl) (by kernel_rfl)
   exact ⟨y2b hm, id, _, hm, m, rfl⟩
  ·split at hs
   ·rename_i h0
    cases hs
    rcases h0 with h0 | h0
    ·obtain rfl := Option.some.inj h0
     obtain ⟨a, u, v, hc⟩ := w5j hL (i := 5) rfl nm2 (t := 120) (ms := #[("Error", 71)]) (by kernel_rfl) (by kernel_rfl)
     exact ⟨a, id, _, hc, .inr ⟨u, v, rfl⟩⟩
    ·obtain rfl := Option.some.inj h0
     obtain ⟨a, u, v, hc⟩ := w5j hL (i := 4) rfl nm3 (t := 120) (ms := #[("Error", 71)]) (by kernel_rfl) (by kernel_rfl)
     exact ⟨a, id, _, hc, .inr ⟨u, v, rfl⟩⟩
   ·cases hs
end Go.Am
end
section
namespace Go.Am
open Go Go.RowKit Go.Proofs D12
theorem x4d {k:IntKind} {x:D} (h:DK (.int k) x):∃ n,x= .int k n∧(Lit.int k n).wf=true:=by
 match x,h with
 | .int a n,h=>obtain ⟨rfl,h⟩:=h; exact ⟨n,rfl,h⟩
theorem v6d {x:D} (h:DK (.list [.int .i64]) x):∃ l:List Int,x= .list false 1 (z0e l)∧(∀ z∈l,(Lit.int .i64 z).wf=true)∧l.length≤maxLen:=by
 match x,h with
 | .list f z es,h=>
  obtain ⟨rfl,rfl,i,e⟩:=h
  rw [y1a] at e
  have:∃ l:List Int,es=z0e l∧∀ z∈l,(Lit.int .i64 z).wf=true:=by
   clear i
   induction es with
   |nil=>exact ⟨[],rfl,fun z h=>by cases h⟩
   |cons r es j=>
    obtain ⟨l,rfl,c⟩:=j fun r d=>e r (eBc _ d)
    have g:=e r (eAu ..)
    match r,g with
    |[y],g=>
     obtain ⟨a,rfl,k⟩:=x4d g.1
     refine ⟨a::l,rfl,fun z b=>?_⟩
     rcases eAm.1 b with rfl|b
     ·exact k
     ·exact c z b
  obtain ⟨l,rfl,c⟩:=this
  exact ⟨l,rfl,c,by simpa [z0e] using i⟩
def t15:List Int→Bool:=fun _=>false
def u4b (c:Cd):Prop:=(Lit.int .i64 c.n).wf=true∧(Lit.int .i64 c.k).wf=true∧(∀ z∈c.t,(Lit.int .i64 z).wf=true)∧(Lit.int .i64 c.a).wf=true∧c.t.length≤maxLen
theorem w0d {x:D} (h:DK (.list [.int .i64, .int .i64, .list [.int .i64], .int .i64]) x):∃ l:List Cd,x= .list false 4 (z0a t15 l)∧(∀ c∈l,u4b c)∧l.length≤maxLen:=by
 match x,h with
 | .list f z es,h=>
  obtain ⟨rfl,rfl,m,i⟩:=h
  rw [y1a] at i
  have:∃ l:List Cd,es=z0a t15 l∧∀ c∈l,u4b c:=by
   clear m
   induction es with
   |nil=>exact ⟨[],rfl,fun z h=>by cases h⟩
   |cons r es o=>
    obtain ⟨l,rfl,d⟩:=o fun r g=>i r (eBc _ g)
    have b:=i r (eAu ..)
    match r,b with
    |[y,z,w,v],b=>
     obtain ⟨n,rfl,q⟩:=x4d b.1
     obtain ⟨k,rfl,s⟩:=x4d b.2.1
     obtain ⟨t,rfl,p,e⟩:=v6d b.2.2.1
     obtain ⟨a,rfl,u⟩:=x4d b.2.2.2.1
     refine ⟨⟨n,k,t,a⟩::l,rfl,fun c j=>?_⟩
     rcases eAm.1 j with rfl|j
     ·exact ⟨q,s,p,u,e⟩
     ·exact d c j
  obtain ⟨l,rfl,d⟩:=this
  exact ⟨l,rfl,d,by simpa [z0a] using m⟩
end Go.Am
namespace Go.Proofs.YtejcgpekgbiooaaGreatDoor
open Go.ChangeShapes Go.WideShapes Go.ChangeAt Go.RowKit Go.Am
theorem w5l {a:Array TypeId} {args:Array Value} {p:TypeId→Value→Prop} (h:∀ (j:Nat) t v,a[j]?=some t→args[j]?=some v→p t v):
  ∀ (j:Nat) t v,a.toList[j]?=some t→args.toList[j]?=some v→p t v:=fun j t v c b=>h j t v (by simpa using c) (by simpa using b)
theorem own:ownKnob Tryz.prog.godebug=none:=by kernel_rfl
theorem laid:laidOutB Tryz.prog=true:=by kernel_rfl
theorem rowed:mapsRowed Tryz.prog=true:=by kernel_rfl
theorem sized:((List.range Tryz.prog.types.size).all fun t=>match Tryz.prog.underlying t with|some (.slice e)=>decide (0<Tryz.prog.cellsOf e)|_=>true)=true:=by kernel_rfl
theorem wrap {a:Assume} {C:Checked} {os:Os} {H:Type} {enc:TypeId×Value→H} {f:FuncId} {fn:Func} {s:ChangeSpec} {k:List PathCond} {y2d fresh c l:Bool} {L:List (String×DataW Unit)}
  (own:ownKnob C.prog.godebug=none) (h:os.Started) (m:C.prog.inits.idxOf? f=none) (y:C.prog.funcs[f]?=some fn)
  (g:∃ (w:World) (tape:Tape) (i:Input),w.os=os∧(w.forCall tape i).Shaped C.prog∧i.vars=[]∧Input.okWide C.prog (w.forCall tape i) .any w.heap.size f i∧
   ((s.pre enc C.prog fn k y2d (w.forCall tape i).memory i.args∧laidMetH C.prog L (w.forCall tape i).memory)∧sizedMet enc C.prog fn (OpenSpec.ofChange s) y2d (w.forCall tape i).memory i.args)∧a.holds C.prog (lone (Frame.enter C.prog f i.args .normal) [] (w.forCall tape i)))
  (d:∀ (W:World) (base:Nat) (args:Array Value) (ds z:List (DataW H)) (b:List MemPlace),
   (∀ (j:Nat) t v,fn.params[j]?=some t→args[j]?=some v→Value.okWide C.prog W .any base t v)→
   DataW.Whole enc C.prog fn.params.toList s.vars y2d W args.toList ds z b→laidMetH C.prog L W→W.ShapedOpen C.prog→
   Calls C.prog f args W fun e B=>∃ v,e= .returned v∧s.post enc C.prog fn y2d fresh c l W args v B):
  ReturnsInHanded a C os f .any (fun w args=>(s.pre enc C.prog fn k y2d w args∧laidMetH C.prog L w)∧sizedMet enc C.prog fn (OpenSpec.ofChange s) y2d w args) (s.post enc C.prog fn y2d fresh c l):=by
 refine returnsInHanded_of_calls own h m g ?_
 intro w tape i _ u _ x o q
 obtain ⟨_,_,_,A,p,_,_,_,_,n⟩:=x
 obtain rfl:A=fn:=Option.some.inj (p.symm.trans y)
 obtain ⟨⟨⟨ds,z,b,E,J⟩,G⟩,I⟩:=o
 have r:=DataW.Whole.of_heap (w':=w.forCall tape i) (by rfl) E
 refine (d (w.forCall tape i) w.heap.size i.args ds z b n r (G.of_heap (by rfl)) u).mono fun e B ⟨v,he,F⟩=>?_
 subst he
 exact ChangeSpec.post_blind F
end Go.Proofs.YtejcgpekgbiooaaGreatDoor
end
