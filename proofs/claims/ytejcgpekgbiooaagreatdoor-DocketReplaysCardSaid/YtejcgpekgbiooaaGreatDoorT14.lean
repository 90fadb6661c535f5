/- Texts of this claim. -/
import Derived.Test.YtejcgpekgbiooaaGreatDoorT13
import Derived.Test.YtejcgpekgbiooaaGreatDoorProg
import Derived.KernelRfl
set_option linter.unusedVariables false
set_option linter.unusedSimpArgs false
set_option linter.unusedSectionVars false
set_option maxRecDepth 100000
set_option maxHeartbeats 0
section
namespace Go.Am
def autoEnvD (own:List Nat) (P:Program):Env:=⟨w8g P,x0x P,w9l P,w9k P,z4g P,fun g=>!x4x g own,true,false,fun _=>false,false,fun _=>none⟩
theorem autoEnvD_ok {own:List Nat} {P:Program} (hm:P.follows .mixedOrders=true):z96 P (autoEnvD own P) where
 ti:=fun t ti h=>x81 h
 gl:=fun _ _ h=>by first|exact h|cases h
 fn:=fun g i h=>y40 h
 code:=fun g pos c h=>h
 mixed:=hm
end Go.Am
end
section
namespace Go.Am.D12
theorem cardSt_zero {c:Cd}:z3x c=0↔z7m c.n∧z3u c.k≠0∧c.t.length=z3u c.k∧(∀ x∈c.t,z7m x)∧c.t.Nodup∧w2o c.k c.a:=by
 unfold z3x
 constructor
 ·intro h
  repeat' split at h
  all_goals first|(exfalso; omega)|skip
  rename_i h1 h2 h3 h4 h5
  simp only [not_or,Decidable.not_not] at h1 h2 h4 h5
  refine ⟨h1.1,h1.2,h2,fun x hx=>Decidable.byContradiction fun hn=>h3 ⟨x,hx,hn⟩,h4,h5⟩
 ·rintro ⟨h1,h2,h3,h4,h5,h6⟩
  rw [if_neg (by simp only [not_or,Decidable.not_not]; exact ⟨h1,h2⟩),if_neg (by simpa using h3),if_neg (by rintro ⟨x,hx,hn⟩; exact hn (h4 x hx)),if_neg (by simpa using h5),if_neg (by simpa using h6)]
theorem dockSt_zero {l:List Cd}:z5l l=0↔l.length≤60∧(∀ c∈l,z3x c=0)∧(l.map (·.n)).Nodup:=by
 unfold z5l
 split
 ·constructor
  ·intro h; omega
  ·intro h; omega
 ·rename_i hlen
  split
  ·rename_i c hc
   have h1:=List.find?_some hc
   have h2:=List.mem_of_find?_eq_some hc
   simp at h1
   constructor
   ·intro h; exact absurd h h1
   ·intro h; exact absurd (h.2.1 c h2) h1
  ·rename_i hc
   rw [List.find?_eq_none] at hc
   have hc':∀ c∈l,z3x c=0:=fun c h=>by simpa using hc c h
   split
   ·rename_i hn; exact ⟨fun _=>⟨by omega,hc',hn⟩,fun _=>rfl⟩
   ·rename_i hn; exact ⟨fun h=>by omega,fun h=>absurd h.2.2 hn⟩
def fnd (b:List Th) (x:Int):Option Th:=b.find? fun t=>decide (t.num=x)
def play (b:List Th) (c:Cd):List Th:=
 if errC (fnd b) c≠0 then b
 else if c.k=1 then b++[⟨x0 c,c.a,0,false⟩]
 else if c.k=4 then upd b (x0 c) (v3l (fnd b) c)++[⟨x1 c,w03 (fnd b) (x0 c),0,false⟩]
 else upd b (x0 c) (v3l (fnd b) c)
theorem turn_num (s:Sf) (c:Cd) (t:Th):(v3l s c t).num=t.num:=by
 unfold v3l; repeat' split
 all_goals rfl
theorem fnd_upd {b:List Th} {x:Int} {f:Th→Th} (hf:∀ t,(f t).num=t.num) (y:Int):fnd (upd b x f) y=if y=x then (fnd b y).map f else fnd b y:=by
 induction b with
 |nil=>simp [fnd,upd]
 |cons t b ih=>
  simp only [fnd,upd,List.map_cons,List.find?_cons] at ih⊢
  by_cases h1:t.num=x
  ·rw [if_pos h1]
   by_cases h2:t.num=y
   ·have h3:y=x:=by omega
    have h4:(f t).num=y:=by rw [hf,h2]
    simp [h2,h3,h4,hf,h1]
   ·have h4:¬ (f t).num=y:=by rw [hf]; exact h2
    have e4:decide ((f t).num=y)=false:=by simpa using h4
    have e2:decide (t.num=y)=false:=by simpa using h2
    simp only [e4,e2]
    exact ih
  ·rw [if_neg h1]
   by_cases h2:t.num=y
   ·have h3:¬ y=x:=by omega
    simp [h2,h3]
   ·have e2:decide (t.num=y)=false:=by simpa using h2
    simp only [e2]
    exact ih
theorem fnd_app {b:List Th} {t:Th} (h:fnd b t.num=none) (y:Int):fnd (b++[t]) y=if y=t.num then some t else fnd b y:=by
 unfold fnd at*
 rw [List.find?_append]
 by_cases e:y=t.num
 ·subst e; rw [h]; simp
 ·rw [if_neg e]
  have:decide (t.num=y)=false:=by simpa using fun h=>e h.symm
  simp [this]
theorem fnd_play (b:List Th) (c:Cd) (hk:z3u c.k≠0) (hne:c.k=4→x0 c≠x1 c):fnd (play b c)=after (fnd b) c:=by
 unfold play after
 split
 ·rfl
 ·rename_i he
  have he:errC (fnd b) c=0:=by simpa using he
  split
  ·rename_i h1
   funext y
   refine fnd_app (t:=⟨x0 c,c.a,0,false⟩) ?_ y
   unfold errC at he
   rw [if_pos h1] at he
   cases hq:fnd b (x0 c) with
   |none=>rfl
   |some t=>rw [hq] at he; simp at he
  ·rename_i h1
   split
   ·rename_i h4
    funext y
    have hx1:fnd b (x1 c)=none:=by
     unfold errC at he
     rw [if_neg h1] at he
     split at he
     ·rename_i hh; exact absurd he hh
     ·simp only [h4,Int.reduceEq,if_false,if_true] at he
      cases hq:fnd b (x1 c) with
      |none=>rfl
      |some t=>rw [hq] at he; simp at he
    rw [fnd_app (t:=⟨x1 c,w03 (fnd b) (x0 c),0,false⟩)]
    ·show (if y=x1 c then _ else _)=_
     split
     ·rfl
     ·exact fnd_upd (turn_num _ _) y
    ·show fnd _ (x1 c)=none
     rw [fnd_upd (turn_num _ _),if_neg (fun e=>hne h4 e.symm)]
     exact hx1
   ·funext y
    exact fnd_upd (turn_num _ _) y
def bookOf (l:List Cd):List Th:=l.foldl play []
def errs:Sf→List Cd→List Int
 |_,[]=>[]
 |s,c::l=>errC s c::errs (after s c) l
theorem st_snoc (p:List Cd) (c:Cd):st (p++[c])=after (st p) c:=by simp [st]
theorem errs_length (s:Sf) (l:List Cd):(errs s l).length=l.length:=by
 induction l generalizing s with
 |nil=>rfl
 |cons c l ih=>simp [errs,ih]
def Wf (c:Cd):Prop:=z3u c.k≠0∧c.t.length=z3u c.k∧c.t.Nodup
theorem wf_of {c:Cd} (h:z3x c=0):Wf c:=by
 obtain ⟨_,h2,h3,_,h5,_⟩:=cardSt_zero.1 h
 exact ⟨h2,h3,h5⟩
theorem x0_mem {c:Cd} (h:Wf c):x0 c∈c.t:=by
 have:0<c.t.length:=by rw [h.2.1]; exact Nat.pos_of_ne_zero h.1
 unfold x0
 rw [List.getD_eq_getElem?_getD,List.getElem?_eq_getElem this]
 exact List.getElem_mem _
theorem x1_mem {c:Cd} (h:Wf c) (h1:1<z3u c.k):x1 c∈c.t:=by
 have:1<c.t.length:=by rw [h.2.1]; exact h1
 unfold x1
 rw [List.getD_eq_getElem?_getD,List.getElem?_eq_getElem this]
 exact List.getElem_mem _
theorem x01_ne {c:Cd} (h:Wf c) (h1:1<z3u c.k):x0 c≠x1 c:=by
 have hl:1<c.t.length:=by rw [h.2.1]; exact h1
 unfold x0 x1
 rw [List.getD_eq_getElem?_getD,List.getD_eq_getElem?_getD,List.getElem?_eq_getElem hl,List.getElem?_eq_getElem (by omega:0<c.t.length)]
 intro e
 have:=(List.getElem_inj h.2.2).1 e
 omega
end Go.Am.D12
end
section
namespace Go.Am
section
variable (es l:List (List D)) (i j a b n:Nat) (x y:Int) (c d:Bool)
theorem std_bEq:std.bEq c d=(c==d):=rfl
theorem std_rdB:std.rdB es i j=dB (rdD es i j):=rfl
theorem std_ar_mul:std.ar .mul .i64 x y=IntKind.i64.wrap (x*y):=rfl
theorem std_ar_quo:std.ar .quo .i64 x y=IntKind.i64.wrap (x.tdiv y):=rfl
end
end Go.Am
namespace Go.Am
end Go.Am
end
section
namespace Go.Am.D12
theorem Tc.last {B:Cd→Cd→Bool} {x y:Cd} (h:Tc B x y):B x y=true∨∃ z,Tc B x z∧B z y=true:=by
 cases h with
 |one h=>exact .inl h
 |step h k=>exact .inr ⟨_,h,k⟩
instance (a b:List Cd):Decidable (unkn a b):=inferInstanceAs (Decidable (∃ x,x∈w7d a b∧∃ y,y∈w7d a b∧x≠y∧tch x y=true∧kn a b x y=false∧kn a b y x=false))
instance (a b:List Cd):Decidable (circ a b):=inferInstanceAs (Decidable (∃ x,x∈w7d a b∧kn a b x x=true))
end Go.Am.D12
end
noncomputable section
namespace Go.Am
def ctr25:Ctr:=
 ⟨25,[.list 1, .list 1],[],[(.ret,⟨[(0, .bool)],[],1⟩)]⟩
def la25:List LA:=
 [⟨25,[false,true,false,true,true],0,⟨⟨[(0, .list 1),(1, .list 1),(5, .int .i64)],[],26⟩,[(AX.ret,⟨[(4, .bool)],[],26⟩),((AX.exit 0),⟨[],[],26⟩)]⟩⟩]
def ja25:List JA:=
 []
def gam25:List CF:=
 []
def an25:y5o:=
 ⟨gam25,ja25,[]⟩
def b25_1 (p:z0n):(LD×(LD×(Int×Unit)))→Option ((LD×(LD×(Int×Unit)))⊕((Bool×Unit)⊕Unit)):=
 fun a=>opt.run _ (
 opt.ask _ (p.cmp .lss a.2.2.1 (p.ofNat (p.len a.1))) (
 opt.need _ (p.rowOk a.1 (p.nat a.2.2.1) [ci])<|
 opt.need _ (p.cmp .geq a.2.2.1 (0:Int))<|
 opt.need _ (p.rowOk a.2.1 (p.nat a.2.2.1) [ci])<|
 opt.need _ (p.cmp .geq a.2.2.1 (0:Int))<|
 opt.ask _ (p.cmp .neq (p.rdI a.1 (p.nat a.2.2.1) 0) (p.rdI a.2.1 (p.nat a.2.2.1) 0)) (
 opt.ret _ (Sum.inr (Sum.inl (Bool.false,())))) (
 opt.ret _ (Sum.inl (a.1,(a.2.1,((p.ar .add .i64 a.2.2.1 (1:Int)),())))))) (
 opt.ret _ (Sum.inr (Sum.inr ()))))
def G25:(p:z0n)→(LD×(LD×Unit))→Option ((Bool×Unit)):=
 fun p x=>
 opt.ask _ (p.cmp .neq (p.ofNat (p.len x.1)) (p.ofNat (p.len x.2.1))) (
 opt.ret _ (Bool.false,())) (
 opt.alt ((Bool×Unit)) (Unit) _ (
 z6j (b25_1 p) (x.1,(x.2.1,((0:Int),())))) (fun a=>
 opt.ret _ (a.1,())) (fun b=>
 opt.bnd (Unit) _ (some b) fun c=>
 opt.ret _ (Bool.true,())))
def F25:z0n→Tup (ctr25).scs→Option (z6k (z6i (ctr25).outs)):=
 fun p x=>G25 p x
theorem eq25 (p:z0n) (x:Tup (ctr25).scs):z2r opt p (z0r [] Go.Proofs.Tryz.prog) (z6d opt p (z0r [] Go.Proofs.Tryz.prog) 400 (an25) la25) 400 ctr25 x=G25 p x:=by kernel_rfl
theorem gok25:z5q Go.Proofs.Tryz.prog gam25:=fun cf h=>by cases h
theorem enters25:z1m Go.Proofs.Tryz.prog 25:=z0v (b:=_) rfl (by kernel_rfl)
theorem ok25:z27 Go.Proofs.Tryz.prog ctr25 (F25 std):=z0w (z0h z0c) (z1v (z0h z0c) gok25 _) enters25 (fun x=>eq25 std x)
def ctr26:Ctr:=
 ⟨26,[.list 4, .list 4],[],[(.ret,⟨[(0, .bool)],[],1⟩)]⟩
def la26:List LA:=
 [⟨26,[false,true,false,true,true],0,⟨⟨[(0, .list 4),(1, .list 4),(5, .int .i64)],[],26⟩,[(AX.ret,⟨[(4, .bool)],[],26⟩),((AX.exit 0),⟨[],[],26⟩)]⟩⟩]
def ja26:List JA:=
 []
def gam26:List CF:=
 []
def an26:y5o:=
 ⟨gam26,ja26,[]⟩
def b26_1 (p:z0n):(LD×(LD×(Int×Unit)))→Option ((LD×(LD×(Int×Unit)))⊕((Bool×Unit)⊕Unit)):=
 fun a=>opt.run _ (
 opt.ask _ (p.cmp .lss a.2.2.1 (p.ofNat (p.len a.1))) (
 opt.need _ (p.rowOk a.1 (p.nat a.2.2.1) [ci,ci,ci,CK.bool])<|
 opt.need _ (p.cmp .geq a.2.2.1 (0:Int))<|
 opt.need _ (p.rowOk a.2.1 (p.nat a.2.2.1) [ci,ci,ci,CK.bool])<|
 opt.need _ (p.cmp .geq a.2.2.1 (0:Int))<|
 opt.ask _ (bif (bif (p.cmp .eql (p.rdI a.1 (p.nat a.2.2.1) 0) (p.rdI a.2.1 (p.nat a.2.2.1) 0)) then (bif (p.cmp .eql (p.rdI a.1 (p.nat a.2.2.1) 1) (p.rdI a.2.1 (p.nat a.2.2.1) 1)) then (bif (p.cmp .eql (p.rdI a.1 (p.nat a.2.2.1) 2) (p.rdI a.2.1 (p.nat a.2.2.1) 2)) then (bif (p.bEq (p.rdB a.1 (p.nat a.2.2.1) 3) (p.rdB a.2.1 (p.nat a.2.2.1) 3)) then Bool.true else Bool.false) else Bool.false) else Bool.false) else Bool.false) then Bool.false else Bool.true) (
 opt.ret _ (Sum.inr (Sum.inl (Bool.false,())))) (
 opt.ret _ (Sum.inl (a.1,(a.2.1,((p.ar .add .i64 a.2.2.1 (1:Int)),())))))) (
 opt.ret _ (Sum.inr (Sum.inr ()))))
def G26:(p:z0n)→(LD×(LD×Unit))→Option ((Bool×Unit)):=
 fun p x=>
 opt.ask _ (p.cmp .neq (p.ofNat (p.len x.1)) (p.ofNat (p.len x.2.1))) (
 opt.ret _ (Bool.false,())) (
 opt.alt ((Bool×Unit)) (Unit) _ (
 z6j (b26_1 p) (x.1,(x.2.1,((0:Int),())))) (fun a=>
 opt.ret _ (a.1,())) (fun b=>
 opt.bnd (Unit) _ (some b) fun c=>
 opt.ret _ (Bool.true,())))
def F26:z0n→Tup (ctr26).scs→Option (z6k (z6i (ctr26).outs)):=
 fun p x=>G26 p x
theorem eq26 (p:z0n) (x:Tup (ctr26).scs):z2r opt p (z0r [] Go.Proofs.Tryz.prog) (z6d opt p (z0r [] Go.Proofs.Tryz.prog) 400 (an26) la26) 400 ctr26 x=G26 p x:=by kernel_rfl
theorem gok26:z5q Go.Proofs.Tryz.prog gam26:=fun cf h=>by cases h
theorem enters26:z1m Go.Proofs.Tryz.prog 26:=z0v (b:=_) rfl (by kernel_rfl)
theorem ok26:z27 Go.Proofs.Tryz.prog ctr26 (F26 std):=z0w (z0h z0c) (z1v (z0h z0c) gok26 _) enters26 (fun x=>eq26 std x)
end Go.Am
end
section
namespace Go.Am
open D12
variable {fl fl':List Int→Bool}
theorem ne_get {α:Type} [DecidableEq α] {a b:List α} (d:α) (h:a.length=b.length):((List.range a.length).any fun i=>!decide (a.getD i d=b.getD i d))=!decide (a=b):=by
 rw [Bool.eq_iff_iff,List.any_eq_true]
 simp only [Bool.not_eq_true',decide_eq_false_iff_not,List.mem_range]
 constructor
 ·rintro ⟨i,hi,hne⟩ rfl; exact hne rfl
 ·intro hne
  refine Decidable.byContradiction fun hno=>hne (List.ext_getElem h fun i h1 h2=>?_)
  have:=Decidable.byContradiction fun hh=>hno ⟨i,h1,hh⟩
  simpa [List.getD_eq_getElem?_getD,h1,h2] using this
theorem eqL {α:Type} [DecidableEq α] (ea eb:List α→List (List D)) (he:∀ l,(ea l).length=l.length) (hf:∀ l,(eb l).length=l.length)
  {b:(List (List D)×(List (List D)×(Int×Unit)))→Option ((List (List D)×(List (List D)×(Int×Unit)))⊕((Bool×Unit)⊕Unit))} (a c:List α) (d:α)
  (step:∀ (i:Nat) m m',a[i]?=some m→c[i]?=some m'→(i:Int)<a.length→(i:Int)<c.length→b (ea a,(eb c,((i:Int),())))=if (!decide (m=m'))=true then some (.inr (.inl (false,()))) else some (.inl (ea a,(eb c,(((i+1:Nat):Int),())))))
  (stop:¬ (a.length:Int)<a.length→b (ea a,(eb c,((a.length:Int),())))=some (.inr (.inr ()))):
  opt.ask _ (std.cmp .neq (std.ofNat (std.len (ea a))) (std.ofNat (std.len (eb c)))) (opt.ret _ (false,())) (opt.alt (Bool×Unit) Unit _ (z6j b (ea a,(eb c,((0:Int),())))) (fun y=>opt.ret _ (y.1,())) (fun y=>opt.bnd Unit _ (some y) fun _=>opt.ret _ (true,())))=some (decide (a=c),()):=by
 by_cases hl:a.length=c.length
 ·have key:=z9w (b:=b) a.length (fun i=>(ea a,(eb c,((i:Int),())))) (fun i=>!decide (a.getD i d=c.getD i d)) (.inl (false,())) (.inr ()) (fun i hi=>by
   obtain ⟨m,hm⟩:=z2b hi
   obtain ⟨m',hm'⟩:=z2b (l:=c) (i:=i) (by omega)
   rw [z2x hm,z2x hm']
   exact step i m m' hm hm' (by omega) (by omega)) (stop (by omega))
  have key:z6j b (ea a,(eb c,((0:Int),())))=_:=key
  rw [ne_get d hl] at key
  have hc:std.cmp .neq (std.ofNat (std.len (ea a))) (std.ofNat (std.len (eb c)))=false:=by simp [std,z4d,he,hf,hl]
  rw [hc,key]
  by_cases e:a=c
  ·simp [e,opt]
  ·simp [e,opt]
 ·have hne:a≠c:=fun h=>hl (by rw [h])
  have hc:std.cmp .neq (std.ofNat (std.len (ea a))) (std.ofNat (std.len (eb c)))=true:=by simp [std,z4d,he,hf]; omega
  rw [hc]
  simp [hne,opt]
theorem G25_ok (a b:List Int) (ha:a.length≤1000000):G25 std (z1j a,(z1j b,()))=some (decide (a=b),()):=by
 unfold G25
 refine eqL z1j z1j z08 z08 a b 0 (fun i m m' hm hm' hlt hlb=>?_) (fun hn=>?_)
 ·obtain ⟨hw,h0⟩:=stp i (by omega)
  simp only [b25_1,z2t,z2u,z0u,z1j,z6l,z1k,z3o,z3n,z3l,z3m,z3p,z09,z5x,z00,z17,z16,z15,z18,eq_self,not_true,not_false_eq_true,decide_true,decide_false,Bool.not_true,Bool.not_false,Int.reduceLT,Int.reduceNeg,Int.reduceGT,Int.reduceEq,Int.reduceLE,cond_true,cond_false,ge_iff_le,gt_iff_lt,z0b,hm,hm',hlt,hlb,h0,hw]
 ·simp only [b25_1,z2t,z2u,z0u,z1j,z6l,z1k,z3o,z3n,z3l,z3m,z3p,z09,z5x,z00,z17,z16,z15,z18,hn]
theorem encTh_len (l:List Th):(z6l l).length=l.length:=by simp [z6l]
theorem G26_ok (a b:List Th) (ha:a.length≤1000000):G26 std (z6l a,(z6l b,()))=some (decide (a=b),()):=by
 unfold G26
 refine eqL z6l z6l encTh_len encTh_len a b default (fun i m m' hm hm' hlt hlb=>?_) (fun hn=>?_)
 ·obtain ⟨hw,h0⟩:=stp i (by omega)
  obtain ⟨n1,v1,h1,o1⟩:=m
  obtain ⟨n2,v2,h2,o2⟩:=m'
  simp only [b26_1,z2t,z2u,z0u,z1j,z6l,z1k,z3o,z3n,z3l,z3m,z3p,z09,z5x,z00,z17,z16,z15,z18,eq_self,not_true,not_false_eq_true,decide_true,decide_false,Bool.not_true,Bool.not_false,Int.reduceLT,Int.reduceNeg,Int.reduceGT,Int.reduceEq,Int.reduceLE,cond_true,cond_false,ge_iff_le,gt_iff_lt,z0b,hm,hm',hlt,hlb,h0,hw,Th.mk.injEq,std_rdB,std_bEq]
  by_cases e1:n1=n2<;>by_cases e2:v1=v2<;>by_cases e3:h1=h2<;>cases o1<;>cases o2<;>simp [e1,e2,e3]
 ·simp only [b26_1,z2t,z2u,z0u,z1j,z6l,z1k,z3o,z3n,z3l,z3m,z3p,z09,z5x,z00,z17,z16,z15,z18,hn]
end Go.Am
end
noncomputable section
namespace Go.Am
def ctr137:Ctr:=
 ⟨137,[.map 0, .list 1],[.map],[(.ret,⟨[(0, .int .i64)],[.map],1⟩)]⟩
def la137:List LA:=
 [⟨137,[false,true,false,true],1,⟨⟨[(0, .map 0),(9, .list 1),(10, .int .i64),(11, .int .i64)],[.map],29⟩,[(AX.ret,⟨[(4, .int .i64)],[.map],29⟩),((AX.exit 0),⟨[],[.map],29⟩)]⟩⟩]
def ja137:List JA:=
 [⟨137,[false,true,true,false,false,true,false,true],1,[(AX.ret,⟨[(4, .int .i64)],[.map],29⟩),(AX.normal,⟨[(0, .map 0),(9, .list 1),(10, .int .i64),(11, .int .i64)],[.map],29⟩)]⟩]
def gam137:List CF:=
 []
def an137:y5o:=
 ⟨gam137,ja137,[]⟩
def b137_1 (p:z0n):(List ((D×D))×(LD×(Int×(Int×Unit))))→Option ((List ((D×D))×(LD×(Int×(Int×Unit))))⊕((List ((D×D))×(Int×Unit))⊕(List ((D×D))×Unit))):=
 fun a=>opt.run _ (
 opt.ask _ (p.cmp .lss a.2.2.2.1 a.2.2.1) (
 opt.alt ((List ((D×D))×(Int×Unit))) ((List ((D×D))×(LD×(Int×(Int×Unit))))) _ (
 opt.run (((List ((D×D))×(Int×Unit))⊕(List ((D×D))×(LD×(Int×(Int×Unit)))))) (
 opt.need _ (p.rowOk a.2.1 (p.nat a.2.2.2.1) [ci])<|
 opt.need _ (p.cmp .geq a.2.2.2.1 (0:Int))<|
 opt.need _ (p.mOk a.1 [SK.i] Bool.false (D.int .i64 (p.rdI a.2.1 (p.nat a.2.2.2.1) 0)) Bool.true [ci,ci,ci,CK.bool])<|
 opt.ask _ (p.mhas a.1 [SK.i] Bool.false (D.int .i64 (p.rdI a.2.1 (p.nat a.2.2.2.1) 0))) (
 opt.ask _ (p.mB a.1 [SK.i] Bool.false (D.int .i64 (p.rdI a.2.1 (p.nat a.2.2.2.1) 0)) 3) (
 opt.ret _ (Sum.inl (a.1,((9:Int),())))) (
 opt.ret _ (Sum.inr (a.1,(a.2.1,(a.2.2.1,(a.2.2.2.1,()))))))) (
 opt.ret _ (Sum.inl (a.1,((5:Int),())))))) (fun b=>
 opt.ret _ (Sum.inr (Sum.inl (b.1,(b.2.1,()))))) (fun c=>
 opt.bnd ((List ((D×D))×(LD×(Int×(Int×Unit))))) _ (some c) fun d=>
 opt.ret _ (Sum.inl (d.1,(d.2.1,(d.2.2.1,((p.ar .add .i64 d.2.2.2.1 (1:Int)),()))))))) (
 opt.ret _ (Sum.inr (Sum.inr (a.1,())))))
def G137:(p:z0n)→(List ((D×D))×(LD×Unit))→Option ((List ((D×D))×(Int×Unit))):=
 fun p x=>
 opt.alt ((List ((D×D))×(Int×Unit))) ((List ((D×D))×Unit)) _ (
 z6j (b137_1 p) (x.1,(x.2.1,((p.ofNat (p.len x.2.1)),((0:Int),()))))) (fun a=>
 opt.ret _ (a.1,(a.2.1,()))) (fun b=>
 opt.bnd ((List ((D×D))×Unit)) _ (some b) fun c=>
 opt.ret _ (c.1,((0:Int),())))
def F137:z0n→Tup (ctr137).scs→Option (z6k (z6i (ctr137).outs)):=
 fun p x=>G137 p x
theorem eq137 (p:z0n) (x:Tup (ctr137).scs):z2r opt p (autoEnvD [] Go.Proofs.Tryz.prog) (z6d opt p (autoEnvD [] Go.Proofs.Tryz.prog) 400 (an137) la137) 400 ctr137 x=G137 p x:=by kernel_rfl
theorem gok137:z5q Go.Proofs.Tryz.prog gam137:=fun cf h=>by cases h
theorem enters137:z1m Go.Proofs.Tryz.prog 137:=z0v (b:=_) rfl (by kernel_rfl)
theorem ok137:z27 Go.Proofs.Tryz.prog ctr137 (F137 std):=z0w (autoEnvD_ok z0c) (z1v (autoEnvD_ok z0c) gok137 _) enters137 (fun x=>eq137 std x)
def ctr136:Ctr:=
 ⟨136,[.map 0, .int .i64, .int .i64],[.map],[(.ret,⟨[(0, .int .i64)],[.map],1⟩)]⟩
def la136:List LA:=
 []
def ja136:List JA:=
 []
def gam136:List CF:=
 []
def an136:y5o:=
 ⟨gam136,ja136,[]⟩
def G136:(p:z0n)→(List ((D×D))×(Int×(Int×Unit)))→Option ((List ((D×D))×(Int×Unit))):=
 fun p x=>
 opt.need _ (p.mOk x.1 [SK.i] Bool.false (D.int .i64 x.2.1) Bool.true [ci,ci,ci,CK.bool])<|
 opt.ask _ (p.mhas x.1 [SK.i] Bool.false (D.int .i64 x.2.1)) (
 opt.ask _ (bif (bif (p.cmp .eql (p.mI x.1 [SK.i] Bool.false (D.int .i64 x.2.1) 0) (0:Int)) then (bif (p.cmp .eql (p.mI x.1 [SK.i] Bool.false (D.int .i64 x.2.1) 1) (0:Int)) then (bif (p.cmp .eql (p.mI x.1 [SK.i] Bool.false (D.int .i64 x.2.1) 2) (0:Int)) then (bif (p.bEq (p.mB x.1 [SK.i] Bool.false (D.int .i64 x.2.1) 3) Bool.false) then Bool.true else Bool.false) else Bool.false) else Bool.false) else Bool.false) then Bool.false else Bool.true) (
 opt.ret _ (x.1,((11:Int),()))) (
 opt.need _ (p.mOk x.1 [SK.i] Bool.false (D.int .i64 x.2.1) Bool.true [ci,ci,ci,CK.bool])<|
 opt.ask _ (p.mhas x.1 [SK.i] Bool.false (D.int .i64 x.2.1)) (
 opt.ret _ ((p.mset x.1 (p.nat (p.ofNat (p.mpos x.1 [SK.i] Bool.false (D.int .i64 x.2.1)))) (D.int .i64 x.2.1) (D.agg [(D.int .i64 x.2.1),(D.int .i64 x.2.2.1),(D.int .i64 (0:Int)),(D.bool Bool.false)])),((0:Int),()))) (
 opt.ret _ ((p.madd x.1 (D.int .i64 x.2.1) (D.agg [(D.int .i64 x.2.1),(D.int .i64 x.2.2.1),(D.int .i64 (0:Int)),(D.bool Bool.false)])),((0:Int),()))))) (
 opt.ask _ (bif (bif (p.cmp .eql (0:Int) (0:Int)) then (bif (p.cmp .eql (0:Int) (0:Int)) then (bif (p.cmp .eql (0:Int) (0:Int)) then (bif (p.bEq Bool.false Bool.false) then Bool.true else Bool.false) else Bool.false) else Bool.false) else Bool.false) then Bool.false else Bool.true) (
 opt.ret _ (x.1,((11:Int),()))) (
 opt.need _ (p.mOk x.1 [SK.i] Bool.false (D.int .i64 x.2.1) Bool.true [ci,ci,ci,CK.bool])<|
 opt.ask _ (p.mhas x.1 [SK.i] Bool.false (D.int .i64 x.2.1)) (
 opt.ret _ ((p.mset x.1 (p.nat (p.ofNat (p.mpos x.1 [SK.i] Bool.false (D.int .i64 x.2.1)))) (D.int .i64 x.2.1) (D.agg [(D.int .i64 x.2.1),(D.int .i64 x.2.2.1),(D.int .i64 (0:Int)),(D.bool Bool.false)])),((0:Int),()))) (
 opt.ret _ ((p.madd x.1 (D.int .i64 x.2.1) (D.agg [(D.int .i64 x.2.1),(D.int .i64 x.2.2.1),(D.int .i64 (0:Int)),(D.bool Bool.false)])),((0:Int),())))))
def F136:z0n→Tup (ctr136).scs→Option (z6k (z6i (ctr136).outs)):=
 fun p x=>G136 p x
theorem eq136 (p:z0n) (x:Tup (ctr136).scs):z2r opt p (autoEnvD [] Go.Proofs.Tryz.prog) (z6d opt p (autoEnvD [] Go.Proofs.Tryz.prog) 400 (an136) la136) 400 ctr136 x=G136 p x:=by kernel_rfl
theorem gok136:z5q Go.Proofs.Tryz.prog gam136:=fun cf h=>by cases h
theorem enters136:z1m Go.Proofs.Tryz.prog 136:=z0v (b:=_) rfl (by kernel_rfl)
theorem ok136:z27 Go.Proofs.Tryz.prog ctr136 (F136 std):=z0w (autoEnvD_ok z0c) (z1v (autoEnvD_ok z0c) gok136 _) enters136 (fun x=>eq136 std x)
def ctr140:Ctr:=
 ⟨140,[.bptr 0 0, .int .i64],[.box [.int .i64, .int .i64, .int .i64, .bool]],[(.ret,⟨[(0, .tuple [])],[.box [.int .i64, .int .i64, .int .i64, .bool]],1⟩)]⟩
def la140:List LA:=
 []
def ja140:List JA:=
 []
def gam140:List CF:=
 []
def an140:y5o:=
 ⟨gam140,ja140,[]⟩
def G140:(p:z0n)→(Int×(Int×(Int×(Bool×(Int×Unit)))))→Option ((Int×(Int×(Int×(Bool×Unit))))):=
 fun p x=>
 opt.ret _ (x.1,(x.2.1,(x.2.2.2.2.1,(x.2.2.2.1,()))))
def F140:z0n→Tup (ctr140).scs→Option (z6k (z6i (ctr140).outs)):=
 fun p x=>G140 p x
theorem eq140 (p:z0n) (x:Tup (ctr140).scs):z2r opt p (autoEnvD [] Go.Proofs.Tryz.prog) (z6d opt p (autoEnvD [] Go.Proofs.Tryz.prog) 400 (an140) la140) 400 ctr140 x=G140 p x:=by kernel_rfl
theorem gok140:z5q Go.Proofs.Tryz.prog gam140:=fun cf h=>by cases h
theorem enters140:z1m Go.Proofs.Tryz.prog 140:=z0v (b:=_) rfl (by kernel_rfl)
theorem ok140:z27 Go.Proofs.Tryz.prog ctr140 (F140 std):=z0w (autoEnvD_ok z0c) (z1v (autoEnvD_ok z0c) gok140 _) enters140 (fun x=>eq140 std x)
def ctr139:Ctr:=
 ⟨139,[.map 0, .int .i64, .int .i64, .int .i64, .int .i64, .clo 140 [] []],[.map],[(.ret,⟨[(0, .int .i64)],[.map],1⟩)]⟩
def la139:List LA:=
 []
def ja139:List JA:=
 []
def gam139:List CF:=
 [⟨ctr140,F140⟩,⟨x7b,F56⟩]
def an139:y5o:=
 ⟨gam139,ja139,[]⟩
def G139:(p:z0n)→(List ((D×D))×(Int×(Int×(Int×(Int×Unit)))))→Option ((List ((D×D))×(Int×Unit))):=
 fun p x=>
 opt.bnd ((Bool×Unit)) _ (G56 p (x.2.2.2.1,(x.2.2.2.2.1,([[(D.int .i64 x.2.2.1)]],())))) fun a=>
 opt.ask _ (bif a.1 then Bool.false else Bool.true) (
 opt.ret _ (x.1,((4:Int),()))) (
 opt.need _ (p.mOk x.1 [SK.i] Bool.false (D.int .i64 x.2.1) Bool.true [ci,ci,ci,CK.bool])<|
 opt.ask _ (p.mhas x.1 [SK.i] Bool.false (D.int .i64 x.2.1)) (
 opt.bnd ((Int×(Int×(Int×(Bool×Unit))))) _ (G140 p ((p.mI x.1 [SK.i] Bool.false (D.int .i64 x.2.1) 0),((p.mI x.1 [SK.i] Bool.false (D.int .i64 x.2.1) 1),((p.mI x.1 [SK.i] Bool.false (D.int .i64 x.2.1) 2),((p.mB x.1 [SK.i] Bool.false (D.int .i64 x.2.1) 3),(x.2.2.1,())))))) fun b=>
 opt.need _ (p.mOk x.1 [SK.i] Bool.false (D.int .i64 x.2.1) Bool.true [ci,ci,ci,CK.bool])<|
 opt.ask _ (p.mhas x.1 [SK.i] Bool.false (D.int .i64 x.2.1)) (
 opt.ret _ ((p.mset x.1 (p.nat (p.ofNat (p.mpos x.1 [SK.i] Bool.false (D.int .i64 x.2.1)))) (D.int .i64 x.2.1) (D.agg [(D.int .i64 b.1),(D.int .i64 b.2.1),(D.int .i64 b.2.2.1),(D.bool b.2.2.2.1)])),((0:Int),()))) (
 opt.ret _ ((p.madd x.1 (D.int .i64 x.2.1) (D.agg [(D.int .i64 b.1),(D.int .i64 b.2.1),(D.int .i64 b.2.2.1),(D.bool b.2.2.2.1)])),((0:Int),())))) (
 opt.bnd ((Int×(Int×(Int×(Bool×Unit))))) _ (G140 p ((0:Int),((0:Int),((0:Int),(Bool.false,(x.2.2.1,())))))) fun c=>
 opt.need _ (p.mOk x.1 [SK.i] Bool.false (D.int .i64 x.2.1) Bool.true [ci,ci,ci,CK.bool])<|
 opt.ask _ (p.mhas x.1 [SK.i] Bool.false (D.int .i64 x.2.1)) (
 opt.ret _ ((p.mset x.1 (p.nat (p.ofNat (p.mpos x.1 [SK.i] Bool.false (D.int .i64 x.2.1)))) (D.int .i64 x.2.1) (D.agg [(D.int .i64 c.1),(D.int .i64 c.2.1),(D.int .i64 c.2.2.1),(D.bool c.2.2.2.1)])),((0:Int),()))) (
 opt.ret _ ((p.madd x.1 (D.int .i64 x.2.1) (D.agg [(D.int .i64 c.1),(D.int .i64 c.2.1),(D.int .i64 c.2.2.1),(D.bool c.2.2.2.1)])),((0:Int),())))))
def F139:z0n→Tup (ctr139).scs→Option (z6k (z6i (ctr139).outs)):=
 fun p x=>G139 p x
theorem eq139 (p:z0n) (x:Tup (ctr139).scs):z2r opt p (autoEnvD [] Go.Proofs.Tryz.prog) (z6d opt p (autoEnvD [] Go.Proofs.Tryz.prog) 400 (an139) la139) 400 ctr139 x=G139 p x:=by kernel_rfl
theorem gok139:z5q Go.Proofs.Tryz.prog (gam139):=by
 intro cf h
 simp only [gam139,List.mem_cons,List.not_mem_nil,or_false] at h
 rcases h with rfl|rfl
 ·exact ok140
 ·exact ok56
theorem enters139:z1m Go.Proofs.Tryz.prog 139:=z0v (b:=_) rfl (by kernel_rfl)
theorem ok139:z27 Go.Proofs.Tryz.prog ctr139 (F139 std):=z0w (autoEnvD_ok z0c) (z1v (autoEnvD_ok z0c) gok139 _) enters139 (fun x=>eq139 std x)
def ctr141:Ctr:=
 ⟨141,[.bptr 0 0, .int .i64],[.box [.int .i64, .int .i64, .int .i64, .bool]],[(.ret,⟨[(0, .tuple [])],[.box [.int .i64, .int .i64, .int .i64, .bool]],1⟩)]⟩
def la141:List LA:=
 []
def ja141:List JA:=
 []
def gam141:List CF:=
 []
def an141:y5o:=
 ⟨gam141,ja141,[]⟩
def G141:(p:z0n)→(Int×(Int×(Int×(Bool×(Int×Unit)))))→Option ((Int×(Int×(Int×(Bool×Unit))))):=
 fun p x=>
 opt.ret _ (x.1,(x.2.2.2.2.1,(x.2.2.1,(x.2.2.2.1,()))))
def F141:z0n→Tup (ctr141).scs→Option (z6k (z6i (ctr141).outs)):=
 fun p x=>G141 p x
theorem eq141 (p:z0n) (x:Tup (ctr141).scs):z2r opt p (autoEnvD [] Go.Proofs.Tryz.prog) (z6d opt p (autoEnvD [] Go.Proofs.Tryz.prog) 400 (an141) la141) 400 ctr141 x=G141 p x:=by kernel_rfl
theorem gok141:z5q Go.Proofs.Tryz.prog gam141:=fun cf h=>by cases h
theorem enters141:z1m Go.Proofs.Tryz.prog 141:=z0v (b:=_) rfl (by kernel_rfl)
theorem ok141:z27 Go.Proofs.Tryz.prog ctr141 (F141 std):=z0w (autoEnvD_ok z0c) (z1v (autoEnvD_ok z0c) gok141 _) enters141 (fun x=>eq141 std x)
def ctr139_1:Ctr:=
 ⟨139,[.map 0, .int .i64, .int .i64, .int .i64, .int .i64, .clo 141 [] []],[.map],[(.ret,⟨[(0, .int .i64)],[.map],1⟩)]⟩
def la139_1:List LA:=
 []
def ja139_1:List JA:=
 []
def gam139_1:List CF:=
 [⟨ctr141,F141⟩,⟨x7b,F56⟩]
def an139_1:y5o:=
 ⟨gam139_1,ja139_1,[]⟩
def G139_1:(p:z0n)→(List ((D×D))×(Int×(Int×(Int×(Int×Unit)))))→Option ((List ((D×D))×(Int×Unit))):=
 fun p x=>
 opt.bnd ((Bool×Unit)) _ (G56 p (x.2.2.2.1,(x.2.2.2.2.1,([[(D.int .i64 x.2.2.1)]],())))) fun a=>
 opt.ask _ (bif a.1 then Bool.false else Bool.true) (
 opt.ret _ (x.1,((4:Int),()))) (
 opt.need _ (p.mOk x.1 [SK.i] Bool.false (D.int .i64 x.2.1) Bool.true [ci,ci,ci,CK.bool])<|
 opt.ask _ (p.mhas x.1 [SK.i] Bool.false (D.int .i64 x.2.1)) (
 opt.bnd ((Int×(Int×(Int×(Bool×Unit))))) _ (G141 p ((p.mI x.1 [SK.i] Bool.false (D.int .i64 x.2.1) 0),((p.mI x.1 [SK.i] Bool.false (D.int .i64 x.2.1) 1),((p.mI x.1 [SK.i] Bool.false (D.int .i64 x.2.1) 2),((p.mB x.1 [SK.i] Bool.false (D.int .i64 x.2.1) 3),(x.2.2.1,())))))) fun b=>
 opt.need _ (p.mOk x.1 [SK.i] Bool.false (D.int .i64 x.2.1) Bool.true [ci,ci,ci,CK.bool])<|
 opt.ask _ (p.mhas x.1 [SK.i] Bool.false (D.int .i64 x.2.1)) (
 opt.ret _ ((p.mset x.1 (p.nat (p.ofNat (p.mpos x.1 [SK.i] Bool.false (D.int .i64 x.2.1)))) (D.int .i64 x.2.1) (D.agg [(D.int .i64 b.1),(D.int .i64 b.2.1),(D.int .i64 b.2.2.1),(D.bool b.2.2.2.1)])),((0:Int),()))) (
 opt.ret _ ((p.madd x.1 (D.int .i64 x.2.1) (D.agg [(D.int .i64 b.1),(D.int .i64 b.2.1),(D.int .i64 b.2.2.1),(D.bool b.2.2.2.1)])),((0:Int),())))) (
 opt.bnd ((Int×(Int×(Int×(Bool×Unit))))) _ (G141 p ((0:Int),((0:Int),((0:Int),(Bool.false,(x.2.2.1,())))))) fun c=>
 opt.need _ (p.mOk x.1 [SK.i] Bool.false (D.int .i64 x.2.1) Bool.true [ci,ci,ci,CK.bool])<|
 opt.ask _ (p.mhas x.1 [SK.i] Bool.false (D.int .i64 x.2.1)) (
 opt.ret _ ((p.mset x.1 (p.nat (p.ofNat (p.mpos x.1 [SK.i] Bool.false (D.int .i64 x.2.1)))) (D.int .i64 x.2.1) (D.agg [(D.int .i64 c.1),(D.int .i64 c.2.1),(D.int .i64 c.2.2.1),(D.bool c.2.2.2.1)])),((0:Int),()))) (
 opt.ret _ ((p.madd x.1 (D.int .i64 x.2.1) (D.agg [(D.int .i64 c.1),(D.int .i64 c.2.1),(D.int .i64 c.2.2.1),(D.bool c.2.2.2.1)])),((0:Int),())))))
def F139_1:z0n→Tup (ctr139_1).scs→Option (z6k (z6i (ctr139_1).outs)):=
 fun p x=>G139_1 p x
theorem eq139_1 (p:z0n) (x:Tup (ctr139_1).scs):z2r opt p (autoEnvD [] Go.Proofs.Tryz.prog) (z6d opt p (autoEnvD [] Go.Proofs.Tryz.prog) 400 (an139_1) la139_1) 400 ctr139_1 x=G139_1 p x:=by kernel_rfl
theorem gok139_1:z5q Go.Proofs.Tryz.prog (gam139_1):=by
 intro cf h
 simp only [gam139_1,List.mem_cons,List.not_mem_nil,or_false] at h
 rcases h with rfl|rfl
 ·exact ok141
 ·exact ok56
theorem enters139_1:z1m Go.Proofs.Tryz.prog 139:=z0v (b:=_) rfl (by kernel_rfl)
theorem ok139_1:z27 Go.Proofs.Tryz.prog ctr139_1 (F139_1 std):=z0w (autoEnvD_ok z0c) (z1v (autoEnvD_ok z0c) gok139_1 _) enters139_1 (fun x=>eq139_1 std x)
def ctr138:Ctr:=
 ⟨138,[.bptr 0 0, .int .i64],[.box [.int .i64, .int .i64, .int .i64, .bool]],[(.ret,⟨[(0, .tuple [])],[.box [.int .i64, .int .i64, .int .i64, .bool]],1⟩)]⟩
def la138:List LA:=
 []
def ja138:List JA:=
 []
def gam138:List CF:=
 []
def an138:y5o:=
 ⟨gam138,ja138,[]⟩
def G138:(p:z0n)→(Int×(Int×(Int×(Bool×(Int×Unit)))))→Option ((Int×(Int×(Int×(Bool×Unit))))):=
 fun p x=>
 opt.ret _ (x.1,(x.2.1,(x.2.2.1,(Bool.true,()))))
def F138:z0n→Tup (ctr138).scs→Option (z6k (z6i (ctr138).outs)):=
 fun p x=>G138 p x
theorem eq138 (p:z0n) (x:Tup (ctr138).scs):z2r opt p (autoEnvD [] Go.Proofs.Tryz.prog) (z6d opt p (autoEnvD [] Go.Proofs.Tryz.prog) 400 (an138) la138) 400 ctr138 x=G138 p x:=by kernel_rfl
theorem gok138:z5q Go.Proofs.Tryz.prog gam138:=fun cf h=>by cases h
theorem enters138:z1m Go.Proofs.Tryz.prog 138:=z0v (b:=_) rfl (by kernel_rfl)
theorem ok138:z27 Go.Proofs.Tryz.prog ctr138 (F138 std):=z0w (autoEnvD_ok z0c) (z1v (autoEnvD_ok z0c) gok138 _) enters138 (fun x=>eq138 std x)
def ctr139_2:Ctr:=
 ⟨139,[.map 0, .int .i64, .int .i64, .int .i64, .int .i64, .clo 138 [] []],[.map],[(.ret,⟨[(0, .int .i64)],[.map],1⟩)]⟩
def la139_2:List LA:=
 []
def ja139_2:List JA:=
 []
def gam139_2:List CF:=
 [⟨ctr138,F138⟩,⟨x7b,F56⟩]
def an139_2:y5o:=
 ⟨gam139_2,ja139_2,[]⟩
def G139_2:(p:z0n)→(List ((D×D))×(Int×(Int×(Int×(Int×Unit)))))→Option ((List ((D×D))×(Int×Unit))):=
 fun p x=>
 opt.bnd ((Bool×Unit)) _ (G56 p (x.2.2.2.1,(x.2.2.2.2.1,([[(D.int .i64 x.2.2.1)]],())))) fun a=>
 opt.ask _ (bif a.1 then Bool.false else Bool.true) (
 opt.ret _ (x.1,((4:Int),()))) (
 opt.need _ (p.mOk x.1 [SK.i] Bool.false (D.int .i64 x.2.1) Bool.true [ci,ci,ci,CK.bool])<|
 opt.ask _ (p.mhas x.1 [SK.i] Bool.false (D.int .i64 x.2.1)) (
 opt.bnd ((Int×(Int×(Int×(Bool×Unit))))) _ (G138 p ((p.mI x.1 [SK.i] Bool.false (D.int .i64 x.2.1) 0),((p.mI x.1 [SK.i] Bool.false (D.int .i64 x.2.1) 1),((p.mI x.1 [SK.i] Bool.false (D.int .i64 x.2.1) 2),((p.mB x.1 [SK.i] Bool.false (D.int .i64 x.2.1) 3),(x.2.2.1,())))))) fun b=>
 opt.need _ (p.mOk x.1 [SK.i] Bool.false (D.int .i64 x.2.1) Bool.true [ci,ci,ci,CK.bool])<|
 opt.ask _ (p.mhas x.1 [SK.i] Bool.false (D.int .i64 x.2.1)) (
 opt.ret _ ((p.mset x.1 (p.nat (p.ofNat (p.mpos x.1 [SK.i] Bool.false (D.int .i64 x.2.1)))) (D.int .i64 x.2.1) (D.agg [(D.int .i64 b.1),(D.int .i64 b.2.1),(D.int .i64 b.2.2.1),(D.bool b.2.2.2.1)])),((0:Int),()))) (
 opt.ret _ ((p.madd x.1 (D.int .i64 x.2.1) (D.agg [(D.int .i64 b.1),(D.int .i64 b.2.1),(D.int .i64 b.2.2.1),(D.bool b.2.2.2.1)])),((0:Int),())))) (
 opt.bnd ((Int×(Int×(Int×(Bool×Unit))))) _ (G138 p ((0:Int),((0:Int),((0:Int),(Bool.false,(x.2.2.1,())))))) fun c=>
 opt.need _ (p.mOk x.1 [SK.i] Bool.false (D.int .i64 x.2.1) Bool.true [ci,ci,ci,CK.bool])<|
 opt.ask _ (p.mhas x.1 [SK.i] Bool.false (D.int .i64 x.2.1)) (
 opt.ret _ ((p.mset x.1 (p.nat (p.ofNat (p.mpos x.1 [SK.i] Bool.false (D.int .i64 x.2.1)))) (D.int .i64 x.2.1) (D.agg [(D.int .i64 c.1),(D.int .i64 c.2.1),(D.int .i64 c.2.2.1),(D.bool c.2.2.2.1)])),((0:Int),()))) (
 opt.ret _ ((p.madd x.1 (D.int .i64 x.2.1) (D.agg [(D.int .i64 c.1),(D.int .i64 c.2.1),(D.int .i64 c.2.2.1),(D.bool c.2.2.2.1)])),((0:Int),())))))
def F139_2:z0n→Tup (ctr139_2).scs→Option (z6k (z6i (ctr139_2).outs)):=
 fun p x=>G139_2 p x
theorem eq139_2 (p:z0n) (x:Tup (ctr139_2).scs):z2r opt p (autoEnvD [] Go.Proofs.Tryz.prog) (z6d opt p (autoEnvD [] Go.Proofs.Tryz.prog) 400 (an139_2) la139_2) 400 ctr139_2 x=G139_2 p x:=by kernel_rfl
theorem gok139_2:z5q Go.Proofs.Tryz.prog (gam139_2):=by
 intro cf h
 simp only [gam139_2,List.mem_cons,List.not_mem_nil,or_false] at h
 rcases h with rfl|rfl
 ·exact ok138
 ·exact ok56
theorem enters139_2:z1m Go.Proofs.Tryz.prog 139:=z0v (b:=_) rfl (by kernel_rfl)
theorem ok139_2:z27 Go.Proofs.Tryz.prog ctr139_2 (F139_2 std):=z0w (autoEnvD_ok z0c) (z1v (autoEnvD_ok z0c) gok139_2 _) enters139_2 (fun x=>eq139_2 std x)
def ctr110:Ctr:=
 ⟨110,[.map 0, .agg [.int .i64, .int .i64, .list 1, .int .i64]],[.map],[(.ret,⟨[(0, .int .i64)],[.map],1⟩)]⟩
def la110:List LA:=
 []
def ja110:List JA:=
 [⟨110,[true,false,true,true,true,true],1,[(AX.normal,⟨[(0, .map 0),(3, .bptr 1 0),(5, .int .i64),(6, .list 1)],[.map, .box [.int .i64, .int .i64, .list 1, .int .i64]],135⟩)]⟩,
 ⟨110,[true,true,true,true,true,false,true,true,false,true,true,true,true,true,true,true],1,[(AX.ret,⟨[(4, .int .i64)],[.map],135⟩),(AX.normal,⟨[],[.map],135⟩)]⟩,
 ⟨110,[true,true,true,false,true,true,false,true,true,true,true,true,true,true],1,[(AX.ret,⟨[(4, .int .i64)],[.map],135⟩),(AX.normal,⟨[],[.map],135⟩)]⟩,
 ⟨110,[true,false,true,true,false,true,true,true,true,true,true,true],1,[(AX.ret,⟨[(4, .int .i64)],[.map],135⟩),(AX.normal,⟨[],[.map],135⟩)]⟩,
 ⟨110,[true,true,true,true,true,true,true,false,true,true,false,true,true,true,true,true,true,true],1,[(AX.ret,⟨[(4, .int .i64)],[.map],135⟩),(AX.normal,⟨[],[.map],135⟩)]⟩]
def gam110:List CF:=
 [⟨ctr139_2,F139_2⟩,⟨ctr139_1,F139_1⟩,⟨ctr139,F139⟩,⟨ctr137,F137⟩,⟨ctr136,F136⟩,⟨x7b,F56⟩]
def an110:y5o:=
 ⟨gam110,ja110,[]⟩
def G110:(p:z0n)→(List ((D×D))×(Int×(Int×(LD×(Int×Unit)))))→Option ((List ((D×D))×(Int×Unit))):=
 fun p x=>
 opt.need _ (p.rowOk x.2.2.2.1 (p.nat (0:Int)) [ci])<|
 opt.ask _ (p.cmp .eql x.2.2.1 (1:Int)) (
 opt.bnd ((List ((D×D))×(Int×Unit))) _ (G136 p (x.1,((p.rdI x.2.2.2.1 (p.nat (0:Int)) 0),(x.2.2.2.2.1,())))) fun a=>
 opt.ret _ (a.1,(a.2.1,()))) (
 opt.need _ (p.and (p.cmp .geq (0:Int) (0:Int)) (p.and (p.cmp .leq (0:Int) (p.ofNat (p.len x.2.2.2.1))) (p.and (p.cmp .leq (p.ofNat (p.len x.2.2.2.1)) (p.ofNat (p.len x.2.2.2.1))) (p.cmp .leq (p.ofNat (p.len x.2.2.2.1)) (p.ofNat (p.len x.2.2.2.1))))))<|
 opt.bnd ((List ((D×D))×(Int×(Int×(LD×(Int×(Int×(LD×Unit)))))))) _ (
 opt.run ((List ((D×D))×(Int×(Int×(LD×(Int×(Int×(LD×Unit)))))))) (
 opt.ask _ (p.cmp .eql x.2.2.1 (4:Int)) (
 opt.need _ (p.and (p.cmp .geq (0:Int) (0:Int)) (p.and (p.cmp .leq (0:Int) (1:Int)) (p.cmp .leq (1:Int) (p.ofNat (p.len (p.cut x.2.2.2.1 (p.nat (0:Int)) (p.sub (p.nat (p.ofNat (p.len x.2.2.2.1))) (p.nat (0:Int)))))))))<|
 opt.ret _ (x.1,(x.2.1,(x.2.2.1,(x.2.2.2.1,(x.2.2.2.2.1,((p.rdI x.2.2.2.1 (p.nat (0:Int)) 0),((p.cut (p.cut x.2.2.2.1 (p.nat (0:Int)) (p.sub (p.nat (p.ofNat (p.len x.2.2.2.1))) (p.nat (0:Int)))) (p.nat (0:Int)) (p.sub (p.nat (1:Int)) (p.nat (0:Int)))),())))))))) (
 opt.ret _ (x.1,(x.2.1,(x.2.2.1,(x.2.2.2.1,(x.2.2.2.2.1,((p.rdI x.2.2.2.1 (p.nat (0:Int)) 0),((p.cut x.2.2.2.1 (p.nat (0:Int)) (p.sub (p.nat (p.ofNat (p.len x.2.2.2.1))) (p.nat (0:Int)))),())))))))))) fun b=>
 opt.bnd ((List ((D×D))×(Int×Unit))) _ (G137 p (b.1,(b.2.2.2.2.2.2.1,()))) fun c=>
 opt.ask _ (p.cmp .neq c.2.1 (0:Int)) (
 opt.ret _ (c.1,(c.2.1,()))) (
 opt.need _ (p.mOk c.1 [SK.i] Bool.false (D.int .i64 b.2.2.2.2.2.1) Bool.true [ci,ci,ci,CK.bool])<|
 opt.ask _ (p.mhas c.1 [SK.i] Bool.false (D.int .i64 b.2.2.2.2.2.1)) (
 opt.alt ((List ((D×D))×(Int×Unit))) ((List ((D×D))×Unit)) _ (
 opt.run (((List ((D×D))×(Int×Unit))⊕(List ((D×D))×Unit))) (
 opt.ask _ (p.cmp .eql b.2.2.1 (2:Int)) (
 opt.bnd ((List ((D×D))×(Int×Unit))) _ (G139 p (c.1,(b.2.2.2.2.2.1,((p.ar .add .i64 (p.mI c.1 [SK.i] Bool.false (D.int .i64 b.2.2.2.2.2.1) 2) b.2.2.2.2.1),((0:Int),((10000:Int),())))))) fun d=>
 opt.ret _ (Sum.inl (d.1,(d.2.1,())))) (
 opt.alt ((List ((D×D))×(Int×Unit))) ((List ((D×D))×Unit)) _ (
 opt.run (((List ((D×D))×(Int×Unit))⊕(List ((D×D))×Unit))) (
 opt.ask _ (p.cmp .eql b.2.2.1 (3:Int)) (
 opt.need _ (p.rowOk b.2.2.2.1 (p.nat (1:Int)) [ci])<|
 opt.need _ (p.mOk c.1 [SK.i] Bool.false (D.int .i64 (p.rdI b.2.2.2.1 (p.nat (1:Int)) 0)) Bool.true [ci,ci,ci,CK.bool])<|
 opt.ask _ (p.mhas c.1 [SK.i] Bool.false (D.int .i64 (p.rdI b.2.2.2.1 (p.nat (1:Int)) 0))) (
 opt.need _ (p.cmp .neq (1000:Int) (0:Int))<|
 opt.bnd ((List ((D×D))×(Int×Unit))) _ (G139_1 p (c.1,(b.2.2.2.2.2.1,((p.ar .quo .i64 (p.ar .mul .i64 (p.mI c.1 [SK.i] Bool.false (D.int .i64 (p.rdI b.2.2.2.1 (p.nat (1:Int)) 0)) 1) b.2.2.2.2.1) (1000:Int)),((1:Int),((1000000:Int),())))))) fun e=>
 opt.ret _ (Sum.inl (e.1,(e.2.1,())))) (
 opt.need _ (p.cmp .neq (1000:Int) (0:Int))<|
 opt.bnd ((List ((D×D))×(Int×Unit))) _ (G139_1 p (c.1,(b.2.2.2.2.2.1,((p.ar .quo .i64 (p.ar .mul .i64 (0:Int) b.2.2.2.2.1) (1000:Int)),((1:Int),((1000000:Int),())))))) fun f=>
 opt.ret _ (Sum.inl (f.1,(f.2.1,()))))) (
 opt.alt ((List ((D×D))×(Int×Unit))) ((List ((D×D))×Unit)) _ (
 opt.run (((List ((D×D))×(Int×Unit))⊕(List ((D×D))×Unit))) (
 opt.ask _ (p.cmp .eql b.2.2.1 (4:Int)) (
 opt.need _ (p.rowOk b.2.2.2.1 (p.nat (1:Int)) [ci])<|
 opt.bnd ((List ((D×D))×(Int×Unit))) _ (G136 p (c.1,((p.rdI b.2.2.2.1 (p.nat (1:Int)) 0),((p.mI c.1 [SK.i] Bool.false (D.int .i64 b.2.2.2.2.2.1) 1),())))) fun g=>
 opt.ask _ (p.cmp .neq g.2.1 (0:Int)) (
 opt.ret _ (Sum.inl (g.1,(g.2.1,())))) (
 opt.bnd ((List ((D×D))×(Int×Unit))) _ (G139_2 p (g.1,(b.2.2.2.2.2.1,((0:Int),((0:Int),((0:Int),())))))) fun h=>
 opt.ret _ (Sum.inl (h.1,(h.2.1,()))))) (
 opt.alt ((List ((D×D))×(Int×Unit))) ((List ((D×D))×Unit)) _ (
 opt.run (((List ((D×D))×(Int×Unit))⊕(List ((D×D))×Unit))) (
 opt.ask _ (p.cmp .eql b.2.2.1 (5:Int)) (
 opt.bnd ((List ((D×D))×(Int×Unit))) _ (G139_2 p (c.1,(b.2.2.2.2.2.1,((0:Int),((0:Int),((0:Int),())))))) fun i=>
 opt.ret _ (Sum.inl (i.1,(i.2.1,())))) (
 opt.need _ (p.rowOk b.2.2.2.1 (p.nat (1:Int)) [ci])<|
 opt.need _ (p.mOk c.1 [SK.i] Bool.false (D.int .i64 (p.rdI b.2.2.2.1 (p.nat (1:Int)) 0)) Bool.true [ci,ci,ci,CK.bool])<|
 opt.ask _ (p.mhas c.1 [SK.i] Bool.false (D.int .i64 (p.rdI b.2.2.2.1 (p.nat (1:Int)) 0))) (
 opt.need _ (p.rowOk b.2.2.2.1 (p.nat (2:Int)) [ci])<|
 opt.need _ (p.mOk c.1 [SK.i] Bool.false (D.int .i64 (p.rdI b.2.2.2.1 (p.nat (2:Int)) 0)) Bool.true [ci,ci,ci,CK.bool])<|
 opt.ask _ (p.mhas c.1 [SK.i] Bool.false (D.int .i64 (p.rdI b.2.2.2.1 (p.nat (2:Int)) 0))) (
 opt.bnd ((Bool×Unit)) _ (G56 p ((p.ar .sub .i64 (0:Int) b.2.2.2.2.1),(b.2.2.2.2.1,([[(D.int .i64 (p.ar .sub .i64 (p.ar .add .i64 (p.mI c.1 [SK.i] Bool.false (D.int .i64 b.2.2.2.2.2.1) 1) (p.mI c.1 [SK.i] Bool.false (D.int .i64 (p.rdI b.2.2.2.1 (p.nat (1:Int)) 0)) 1)) (p.mI c.1 [SK.i] Bool.false (D.int .i64 (p.rdI b.2.2.2.1 (p.nat (2:Int)) 0)) 1)))]],())))) fun j=>
 opt.ask _ (bif j.1 then Bool.false else Bool.true) (
 opt.ret _ (Sum.inl (c.1,((23:Int),())))) (
 opt.ret _ (Sum.inr (c.1,())))) (
 opt.bnd ((Bool×Unit)) _ (G56 p ((p.ar .sub .i64 (0:Int) b.2.2.2.2.1),(b.2.2.2.2.1,([[(D.int .i64 (p.ar .sub .i64 (p.ar .add .i64 (p.mI c.1 [SK.i] Bool.false (D.int .i64 b.2.2.2.2.2.1) 1) (p.mI c.1 [SK.i] Bool.false (D.int .i64 (p.rdI b.2.2.2.1 (p.nat (1:Int)) 0)) 1)) (0:Int)))]],())))) fun k=>
 opt.ask _ (bif k.1 then Bool.false else Bool.true) (
 opt.ret _ (Sum.inl (c.1,((23:Int),())))) (
 opt.ret _ (Sum.inr (c.1,()))))) (
 opt.need _ (p.rowOk b.2.2.2.1 (p.nat (2:Int)) [ci])<|
 opt.need _ (p.mOk c.1 [SK.i] Bool.false (D.int .i64 (p.rdI b.2.2.2.1 (p.nat (2:Int)) 0)) Bool.true [ci,ci,ci,CK.bool])<|
 opt.ask _ (p.mhas c.1 [SK.i] Bool.false (D.int .i64 (p.rdI b.2.2.2.1 (p.nat (2:Int)) 0))) (
 opt.bnd ((Bool×Unit)) _ (G56 p ((p.ar .sub .i64 (0:Int) b.2.2.2.2.1),(b.2.2.2.2.1,([[(D.int .i64 (p.ar .sub .i64 (p.ar .add .i64 (p.mI c.1 [SK.i] Bool.false (D.int .i64 b.2.2.2.2.2.1) 1) (0:Int)) (p.mI c.1 [SK.i] Bool.false (D.int .i64 (p.rdI b.2.2.2.1 (p.nat (2:Int)) 0)) 1)))]],())))) fun l=>
 opt.ask _ (bif l.1 then Bool.false else Bool.true) (
 opt.ret _ (Sum.inl (c.1,((23:Int),())))) (
 opt.ret _ (Sum.inr (c.1,())))) (
 opt.bnd ((Bool×Unit)) _ (G56 p ((p.ar .sub .i64 (0:Int) b.2.2.2.2.1),(b.2.2.2.2.1,([[(D.int .i64 (p.ar .sub .i64 (p.ar .add .i64 (p.mI c.1 [SK.i] Bool.false (D.int .i64 b.2.2.2.2.2.1) 1) (0:Int)) (0:Int)))]],())))) fun m=>
 opt.ask _ (bif m.1 then Bool.false else Bool.true) (
 opt.ret _ (Sum.inl (c.1,((23:Int),())))) (
 opt.ret _ (Sum.inr (c.1,())))))))) (fun n=>
 opt.ret _ (Sum.inl (n.1,(n.2.1,())))) (fun o=>
 opt.bnd ((List ((D×D))×Unit)) _ (some o) fun q=>
 opt.ret _ (Sum.inr (q.1,())))))) (fun r=>
 opt.ret _ (Sum.inl (r.1,(r.2.1,())))) (fun t=>
 opt.bnd ((List ((D×D))×Unit)) _ (some t) fun u=>
 opt.ret _ (Sum.inr (u.1,())))))) (fun v=>
 opt.ret _ (Sum.inl (v.1,(v.2.1,())))) (fun w=>
 opt.bnd ((List ((D×D))×Unit)) _ (some w) fun z=>
 opt.ret _ (Sum.inr (z.1,())))))) (fun a1=>
 opt.ret _ (a1.1,(a1.2.1,()))) (fun b1=>
 opt.bnd ((List ((D×D))×Unit)) _ (some b1) fun c1=>
 opt.ret _ (c1.1,((0:Int),())))) (
 opt.alt ((List ((D×D))×(Int×Unit))) ((List ((D×D))×Unit)) _ (
 opt.run (((List ((D×D))×(Int×Unit))⊕(List ((D×D))×Unit))) (
 opt.ask _ (p.cmp .eql b.2.2.1 (2:Int)) (
 opt.bnd ((List ((D×D))×(Int×Unit))) _ (G139 p (c.1,(b.2.2.2.2.2.1,((p.ar .add .i64 (0:Int) b.2.2.2.2.1),((0:Int),((10000:Int),())))))) fun d1=>
 opt.ret _ (Sum.inl (d1.1,(d1.2.1,())))) (
 opt.alt ((List ((D×D))×(Int×Unit))) ((List ((D×D))×Unit)) _ (
 opt.run (((List ((D×D))×(Int×Unit))⊕(List ((D×D))×Unit))) (
 opt.ask _ (p.cmp .eql b.2.2.1 (3:Int)) (
 opt.need _ (p.rowOk b.2.2.2.1 (p.nat (1:Int)) [ci])<|
 opt.need _ (p.mOk c.1 [SK.i] Bool.false (D.int .i64 (p.rdI b.2.2.2.1 (p.nat (1:Int)) 0)) Bool.true [ci,ci,ci,CK.bool])<|
 opt.ask _ (p.mhas c.1 [SK.i] Bool.false (D.int .i64 (p.rdI b.2.2.2.1 (p.nat (1:Int)) 0))) (
 opt.need _ (p.cmp .neq (1000:Int) (0:Int))<|
 opt.bnd ((List ((D×D))×(Int×Unit))) _ (G139_1 p (c.1,(b.2.2.2.2.2.1,((p.ar .quo .i64 (p.ar .mul .i64 (p.mI c.1 [SK.i] Bool.false (D.int .i64 (p.rdI b.2.2.2.1 (p.nat (1:Int)) 0)) 1) b.2.2.2.2.1) (1000:Int)),((1:Int),((1000000:Int),())))))) fun e1=>
 opt.ret _ (Sum.inl (e1.1,(e1.2.1,())))) (
 opt.need _ (p.cmp .neq (1000:Int) (0:Int))<|
 opt.bnd ((List ((D×D))×(Int×Unit))) _ (G139_1 p (c.1,(b.2.2.2.2.2.1,((p.ar .quo .i64 (p.ar .mul .i64 (0:Int) b.2.2.2.2.1) (1000:Int)),((1:Int),((1000000:Int),())))))) fun f1=>
 opt.ret _ (Sum.inl (f1.1,(f1.2.1,()))))) (
 opt.alt ((List ((D×D))×(Int×Unit))) ((List ((D×D))×Unit)) _ (
 opt.run (((List ((D×D))×(Int×Unit))⊕(List ((D×D))×Unit))) (
 opt.ask _ (p.cmp .eql b.2.2.1 (4:Int)) (
 opt.need _ (p.rowOk b.2.2.2.1 (p.nat (1:Int)) [ci])<|
 opt.bnd ((List ((D×D))×(Int×Unit))) _ (G136 p (c.1,((p.rdI b.2.2.2.1 (p.nat (1:Int)) 0),((0:Int),())))) fun g1=>
 opt.ask _ (p.cmp .neq g1.2.1 (0:Int)) (
 opt.ret _ (Sum.inl (g1.1,(g1.2.1,())))) (
 opt.bnd ((List ((D×D))×(Int×Unit))) _ (G139_2 p (g1.1,(b.2.2.2.2.2.1,((0:Int),((0:Int),((0:Int),())))))) fun h1=>
 opt.ret _ (Sum.inl (h1.1,(h1.2.1,()))))) (
 opt.alt ((List ((D×D))×(Int×Unit))) ((List ((D×D))×Unit)) _ (
 opt.run (((List ((D×D))×(Int×Unit))⊕(List ((D×D))×Unit))) (
 opt.ask _ (p.cmp .eql b.2.2.1 (5:Int)) (
 opt.bnd ((List ((D×D))×(Int×Unit))) _ (G139_2 p (c.1,(b.2.2.2.2.2.1,((0:Int),((0:Int),((0:Int),())))))) fun i1=>
 opt.ret _ (Sum.inl (i1.1,(i1.2.1,())))) (
 opt.need _ (p.rowOk b.2.2.2.1 (p.nat (1:Int)) [ci])<|
 opt.need _ (p.mOk c.1 [SK.i] Bool.false (D.int .i64 (p.rdI b.2.2.2.1 (p.nat (1:Int)) 0)) Bool.true [ci,ci,ci,CK.bool])<|
 opt.ask _ (p.mhas c.1 [SK.i] Bool.false (D.int .i64 (p.rdI b.2.2.2.1 (p.nat (1:Int)) 0))) (
 opt.need _ (p.rowOk b.2.2.2.1 (p.nat (2:Int)) [ci])<|
 opt.need _ (p.mOk c.1 [SK.i] Bool.false (D.int .i64 (p.rdI b.2.2.2.1 (p.nat (2:Int)) 0)) Bool.true [ci,ci,ci,CK.bool])<|
 opt.ask _ (p.mhas c.1 [SK.i] Bool.false (D.int .i64 (p.rdI b.2.2.2.1 (p.nat (2:Int)) 0))) (
 opt.bnd ((Bool×Unit)) _ (G56 p ((p.ar .sub .i64 (0:Int) b.2.2.2.2.1),(b.2.2.2.2.1,([[(D.int .i64 (p.ar .sub .i64 (p.ar .add .i64 (0:Int) (p.mI c.1 [SK.i] Bool.false (D.int .i64 (p.rdI b.2.2.2.1 (p.nat (1:Int)) 0)) 1)) (p.mI c.1 [SK.i] Bool.false (D.int .i64 (p.rdI b.2.2.2.1 (p.nat (2:Int)) 0)) 1)))]],())))) fun j1=>
 opt.ask _ (bif j1.1 then Bool.false else Bool.true) (
 opt.ret _ (Sum.inl (c.1,((23:Int),())))) (
 opt.ret _ (Sum.inr (c.1,())))) (
 opt.bnd ((Bool×Unit)) _ (G56 p ((p.ar .sub .i64 (0:Int) b.2.2.2.2.1),(b.2.2.2.2.1,([[(D.int .i64 (p.ar .sub .i64 (p.ar .add .i64 (0:Int) (p.mI c.1 [SK.i] Bool.false (D.int .i64 (p.rdI b.2.2.2.1 (p.nat (1:Int)) 0)) 1)) (0:Int)))]],())))) fun k1=>
 opt.ask _ (bif k1.1 then Bool.false else Bool.true) (
 opt.ret _ (Sum.inl (c.1,((23:Int),())))) (
 opt.ret _ (Sum.inr (c.1,()))))) (
 opt.need _ (p.rowOk b.2.2.2.1 (p.nat (2:Int)) [ci])<|
 opt.need _ (p.mOk c.1 [SK.i] Bool.false (D.int .i64 (p.rdI b.2.2.2.1 (p.nat (2:Int)) 0)) Bool.true [ci,ci,ci,CK.bool])<|
 opt.ask _ (p.mhas c.1 [SK.i] Bool.false (D.int .i64 (p.rdI b.2.2.2.1 (p.nat (2:Int)) 0))) (
 opt.bnd ((Bool×Unit)) _ (G56 p ((p.ar .sub .i64 (0:Int) b.2.2.2.2.1),(b.2.2.2.2.1,([[(D.int .i64 (p.ar .sub .i64 (p.ar .add .i64 (0:Int) (0:Int)) (p.mI c.1 [SK.i] Bool.false (D.int .i64 (p.rdI b.2.2.2.1 (p.nat (2:Int)) 0)) 1)))]],())))) fun l1=>
 opt.ask _ (bif l1.1 then Bool.false else Bool.true) (
 opt.ret _ (Sum.inl (c.1,((23:Int),())))) (
 opt.ret _ (Sum.inr (c.1,())))) (
 opt.bnd ((Bool×Unit)) _ (G56 p ((p.ar .sub .i64 (0:Int) b.2.2.2.2.1),(b.2.2.2.2.1,([[(D.int .i64 (p.ar .sub .i64 (p.ar .add .i64 (0:Int) (0:Int)) (0:Int)))]],())))) fun m1=>
 opt.ask _ (bif m1.1 then Bool.false else Bool.true) (
 opt.ret _ (Sum.inl (c.1,((23:Int),())))) (
 opt.ret _ (Sum.inr (c.1,())))))))) (fun n1=>
 opt.ret _ (Sum.inl (n1.1,(n1.2.1,())))) (fun o1=>
 opt.bnd ((List ((D×D))×Unit)) _ (some o1) fun q1=>
 opt.ret _ (Sum.inr (q1.1,())))))) (fun r1=>
 opt.ret _ (Sum.inl (r1.1,(r1.2.1,())))) (fun t1=>
 opt.bnd ((List ((D×D))×Unit)) _ (some t1) fun u1=>
 opt.ret _ (Sum.inr (u1.1,())))))) (fun v1=>
 opt.ret _ (Sum.inl (v1.1,(v1.2.1,())))) (fun w1=>
 opt.bnd ((List ((D×D))×Unit)) _ (some w1) fun z1=>
 opt.ret _ (Sum.inr (z1.1,())))))) (fun a2=>
 opt.ret _ (a2.1,(a2.2.1,()))) (fun b2=>
 opt.bnd ((List ((D×D))×Unit)) _ (some b2) fun c2=>
 opt.ret _ (c2.1,((0:Int),()))))))
def F110:z0n→Tup (ctr110).scs→Option (z6k (z6i (ctr110).outs)):=
 fun p x=>G110 p x
theorem eq110 (p:z0n) (x:Tup (ctr110).scs):z2r opt p (autoEnvD [] Go.Proofs.Tryz.prog) (z6d opt p (autoEnvD [] Go.Proofs.Tryz.prog) 400 (an110) la110) 400 ctr110 x=G110 p x:=by kernel_rfl
theorem gok110:z5q Go.Proofs.Tryz.prog (gam110):=by
 intro cf h
 simp only [gam110,List.mem_cons,List.not_mem_nil,or_false] at h
 rcases h with rfl|rfl|rfl|rfl|rfl|rfl
 ·exact ok139_2
 ·exact ok139_1
 ·exact ok139
 ·exact ok137
 ·exact ok136
 ·exact ok56
theorem enters110:z1m Go.Proofs.Tryz.prog 110:=z0v (b:=_) rfl (by kernel_rfl)
theorem ok110:z27 Go.Proofs.Tryz.prog ctr110 (F110 std):=z0w (autoEnvD_ok z0c) (z1v (autoEnvD_ok z0c) gok110 _) enters110 (fun x=>eq110 std x)
def ctr61:Ctr:=
 ⟨61,[.list 4],[],[(.ret,⟨[(0, .tuple [.map 0, .vec 1 1])],[.map, .row [ci]],1⟩)]⟩
def la61:List LA:=
 [⟨61,[false,true,false,true,true,true,true],0,⟨⟨[(4, .map 0),(5, .clo 110 [.map 0] []),(6, .vec 1 1),(12, .list 4),(13, .int .i64),(14, .int .i64)],[.map, .row [ci]],27⟩,[((AX.exit 0),⟨[(4, .map 0),(6, .vec 1 1)],[.map, .row [ci]],27⟩)]⟩⟩]
def ja61:List JA:=
 []
def gam61:List CF:=
 [⟨ctr110,F110⟩]
def an61:y5o:=
 ⟨gam61,ja61,[]⟩
def b61_1 (p:z0n):(List ((D×D))×(LD×(LD×(Int×(Int×Unit)))))→Option ((List ((D×D))×(LD×(LD×(Int×(Int×Unit)))))⊕(List ((D×D))×(LD×Unit))):=
 fun a=>opt.run _ (
 opt.ask _ (p.cmp .lss a.2.2.2.2.1 a.2.2.2.1) (
 opt.need _ (p.rowOk a.2.2.1 (p.nat a.2.2.2.2.1) [ci,ci,(CK.list 1),ci])<|
 opt.need _ (p.cmp .geq a.2.2.2.2.1 (0:Int))<|
 opt.bnd ((List ((D×D))×(Int×Unit))) _ (G110 p (a.1,((p.rdI a.2.2.1 (p.nat a.2.2.2.2.1) 0),((p.rdI a.2.2.1 (p.nat a.2.2.2.2.1) 1),((p.rdL a.2.2.1 (p.nat a.2.2.2.2.1) 2),((p.rdI a.2.2.1 (p.nat a.2.2.2.2.1) 3),())))))) fun b=>
 opt.need _ (p.and (p.leN (p.add 0 1) (p.len [[(D.int .i64 b.2.1)]])) (p.and (p.leN (p.add 0 (p.len a.2.1)) (p.len a.2.1)) (p.and (p.leN 1 1) (p.leN (p.add (p.len a.2.1) 1) 1000000))))<|
 opt.need _ (p.eqN 0 0)<|
 opt.need _ (p.eqN (p.add (p.len a.2.1) 1) (p.len (p.app (p.cut a.2.1 0 (p.len a.2.1)) (p.cut [[(D.int .i64 b.2.1)]] 0 1))))<|
 opt.ret _ (Sum.inl (b.1,((p.app (p.cut a.2.1 0 (p.len a.2.1)) (p.cut [[(D.int .i64 b.2.1)]] 0 1)),(a.2.2.1,(a.2.2.2.1,((p.ar .add .i64 a.2.2.2.2.1 (1:Int)),()))))))) (
 opt.need _ (p.eqN 0 0)<|
 opt.need _ (p.eqN (p.len a.2.1) (p.len a.2.1))<|
 opt.ret _ (Sum.inr (a.1,(a.2.1,())))))
def G61:(p:z0n)→(LD×Unit)→Option ((List ((D×D))×(LD×Unit))):=
 fun p x=>
 opt.bnd ((List ((D×D))×(LD×Unit))) _ (
 z6j (b61_1 p) ([],([],(x.1,((p.ofNat (p.len x.1)),((0:Int),())))))) fun a=>
 opt.need _ (p.eqN 0 0)<|
 opt.need _ (p.eqN (p.len a.2.1) (p.len a.2.1))<|
 opt.ret _ (a.1,(a.2.1,()))
def F61:z0n→Tup (ctr61).scs→Option (z6k (z6i (ctr61).outs)):=
 fun p x=>G61 p x
theorem eq61 (p:z0n) (x:Tup (ctr61).scs):z2r opt p (autoEnvD [] Go.Proofs.Tryz.prog) (z6d opt p (autoEnvD [] Go.Proofs.Tryz.prog) 400 (an61) la61) 400 ctr61 x=G61 p x:=by kernel_rfl
theorem gok61:z5q Go.Proofs.Tryz.prog (gam61):=by
 intro cf h
 simp only [gam61,List.mem_cons,List.not_mem_nil,or_false] at h
 rcases h with rfl
 ·exact ok110
theorem enters61:z1m Go.Proofs.Tryz.prog 61:=z0v (b:=_) rfl (by kernel_rfl)
theorem ok61:z27 Go.Proofs.Tryz.prog ctr61 (F61 std):=z0w (autoEnvD_ok z0c) (z1v (autoEnvD_ok z0c) gok61 _) enters61 (fun x=>eq61 std x)
def ctr21:Ctr:=
 ⟨21,[.list 4],[],[(.ret,⟨[(0, .tuple [.vec 0 1, .int .i64])],[.row [ci]],1⟩)]⟩
def la21:List LA:=
 []
def ja21:List JA:=
 []
def gam21:List CF:=
 [⟨ctr61,F61⟩,⟨x7d,F19⟩]
def an21:y5o:=
 ⟨gam21,ja21,[]⟩
def G21:(p:z0n)→(LD×Unit)→Option ((LD×(Int×Unit))):=
 fun p x=>
 opt.bnd ((Int×Unit)) _ (G19 p (x.1,())) fun a=>
 opt.ask _ (p.cmp .neq a.1 (0:Int)) (
 opt.ret _ ([],(a.1,()))) (
 opt.bnd ((List ((D×D))×(LD×Unit))) _ (G61 p (x.1,())) fun b=>
 opt.need _ (p.eqN 0 0)<|
 opt.need _ (p.eqN (p.len b.2.1) (p.len b.2.1))<|
 opt.ret _ (b.2.1,((0:Int),())))
def F21:z0n→Tup (ctr21).scs→Option (z6k (z6i (ctr21).outs)):=
 fun p x=>G21 p x
theorem eq21 (p:z0n) (x:Tup (ctr21).scs):z2r opt p (autoEnvD [] Go.Proofs.Tryz.prog) (z6d opt p (autoEnvD [] Go.Proofs.Tryz.prog) 400 (an21) la21) 400 ctr21 x=G21 p x:=by kernel_rfl
theorem gok21:z5q Go.Proofs.Tryz.prog (gam21):=by
 intro cf h
 simp only [gam21,List.mem_cons,List.not_mem_nil,or_false] at h
 rcases h with rfl|rfl
 ·exact ok61
 ·exact v3r
theorem enters21:z1m Go.Proofs.Tryz.prog 21:=z0v (b:=_) rfl (by kernel_rfl)
theorem ok21:z27 Go.Proofs.Tryz.prog ctr21 (F21 std):=z0w (autoEnvD_ok z0c) (z1v (autoEnvD_ok z0c) gok21 _) enters21 (fun x=>eq21 std x)
end Go.Am
end
noncomputable section
namespace Go.Am
def ctr64:Ctr:=
 ⟨64,[.map 0],[.map],[(.ret,⟨[(0, .clo 115 [] [.bptr 1 0])],[.map, .box [.map 0]],1⟩)]⟩
def la64:List LA:=
 []
def ja64:List JA:=
 []
def gam64:List CF:=
 []
def an64:y5o:=
 ⟨gam64,ja64,[]⟩
def G64:(p:z0n)→(List ((D×D))×Unit)→Option ((List ((D×D))×Unit)):=
 fun p x=>
 opt.ret _ (x.1,())
def F64:z0n→Tup (ctr64).scs→Option (z6k (z6i (ctr64).outs)):=
 fun p x=>G64 p x
theorem eq64 (p:z0n) (x:Tup (ctr64).scs):z2r opt p (z0r [] Go.Proofs.Tryz.prog) (z6d opt p (z0r [] Go.Proofs.Tryz.prog) 400 (an64) la64) 400 ctr64 x=G64 p x:=by kernel_rfl
theorem gok64:z5q Go.Proofs.Tryz.prog gam64:=fun cf h=>by cases h
theorem enters64:z1m Go.Proofs.Tryz.prog 64:=z0v (b:=_) rfl (by kernel_rfl)
theorem ok64:z27 Go.Proofs.Tryz.prog ctr64 (F64 std):=z0w (z0h z0c) (z1v (z0h z0c) gok64 _) enters64 (fun x=>eq64 std x)
def ctr23:Ctr:=
 ⟨23,[.list 4],[],[(.ret,⟨[(0, .tuple [.vec 0 4, .int .i64])],[.row [ci,ci,ci,CK.bool]],1⟩)]⟩
def la23:List LA:=
 [⟨23,[false,true,false,true,true,true,true],0,⟨⟨[(5, .map 0),(7, .vec 1 4),(24, .list 1),(25, .int .i64),(26, .int .i64)],[.map, .row [ci,ci,ci,CK.bool]],40⟩,[((AX.exit 0),⟨[(7, .vec 0 4)],[.row [ci,ci,ci,CK.bool]],40⟩)]⟩⟩]
def ja23:List JA:=
 [⟨23,[false,true,true,false,false,true,false,true,true,true,true],0,[(AX.normal,⟨[(5, .map 0),(7, .vec 1 4),(24, .list 1),(25, .int .i64),(26, .int .i64)],[.map, .row [ci,ci,ci,CK.bool]],40⟩)]⟩]
def gam23:List CF:=
 [⟨w3h,F63⟩,⟨ctr64,F64⟩,⟨ctr61,F61⟩,⟨x5k,v4g⟩,⟨x7d,F19⟩]
def an23:y5o:=
 ⟨gam23,ja23,[]⟩
def b23_1 (p:z0n):(List ((D×D))×(LD×(LD×(Int×(Int×Unit)))))→Option ((List ((D×D))×(LD×(LD×(Int×(Int×Unit)))))⊕(LD×Unit)):=
 fun a=>opt.run _ (
 opt.ask _ (p.cmp .lss a.2.2.2.2.1 a.2.2.2.1) (
 opt.bnd ((List ((D×D))×(LD×(LD×(Int×(Int×Unit)))))) _ (
 opt.run ((List ((D×D))×(LD×(LD×(Int×(Int×Unit)))))) (
 opt.need _ (p.rowOk a.2.2.1 (p.nat a.2.2.2.2.1) [ci])<|
 opt.need _ (p.cmp .geq a.2.2.2.2.1 (0:Int))<|
 opt.need _ (p.mOk a.1 [SK.i] Bool.false (D.int .i64 (p.rdI a.2.2.1 (p.nat a.2.2.2.2.1) 0)) Bool.true [ci,ci,ci,CK.bool])<|
 opt.ask _ (p.mhas a.1 [SK.i] Bool.false (D.int .i64 (p.rdI a.2.2.1 (p.nat a.2.2.2.2.1) 0))) (
 opt.need _ (p.and (p.leN (p.add 0 1) (p.len [[(D.int .i64 (p.mI a.1 [SK.i] Bool.false (D.int .i64 (p.rdI a.2.2.1 (p.nat a.2.2.2.2.1) 0)) 0)),(D.int .i64 (p.mI a.1 [SK.i] Bool.false (D.int .i64 (p.rdI a.2.2.1 (p.nat a.2.2.2.2.1) 0)) 1)),(D.int .i64 (p.mI a.1 [SK.i] Bool.false (D.int .i64 (p.rdI a.2.2.1 (p.nat a.2.2.2.2.1) 0)) 2)),(D.bool (p.mB a.1 [SK.i] Bool.false (D.int .i64 (p.rdI a.2.2.1 (p.nat a.2.2.2.2.1) 0)) 3))]])) (p.and (p.leN (p.add 0 (p.len a.2.1)) (p.len a.2.1)) (p.and (p.leN 1 1) (p.leN (p.add (p.len a.2.1) 1) 1000000))))<|
 opt.need _ (p.eqN 0 0)<|
 opt.need _ (p.eqN (p.add (p.len a.2.1) 1) (p.len (p.app (p.cut a.2.1 0 (p.len a.2.1)) (p.cut [[(D.int .i64 (p.mI a.1 [SK.i] Bool.false (D.int .i64 (p.rdI a.2.2.1 (p.nat a.2.2.2.2.1) 0)) 0)),(D.int .i64 (p.mI a.1 [SK.i] Bool.false (D.int .i64 (p.rdI a.2.2.1 (p.nat a.2.2.2.2.1) 0)) 1)),(D.int .i64 (p.mI a.1 [SK.i] Bool.false (D.int .i64 (p.rdI a.2.2.1 (p.nat a.2.2.2.2.1) 0)) 2)),(D.bool (p.mB a.1 [SK.i] Bool.false (D.int .i64 (p.rdI a.2.2.1 (p.nat a.2.2.2.2.1) 0)) 3))]] 0 1))))<|
 opt.ret _ (a.1,((p.app (p.cut a.2.1 0 (p.len a.2.1)) (p.cut [[(D.int .i64 (p.mI a.1 [SK.i] Bool.false (D.int .i64 (p.rdI a.2.2.1 (p.nat a.2.2.2.2.1) 0)) 0)),(D.int .i64 (p.mI a.1 [SK.i] Bool.false (D.int .i64 (p.rdI a.2.2.1 (p.nat a.2.2.2.2.1) 0)) 1)),(D.int .i64 (p.mI a.1 [SK.i] Bool.false (D.int .i64 (p.rdI a.2.2.1 (p.nat a.2.2.2.2.1) 0)) 2)),(D.bool (p.mB a.1 [SK.i] Bool.false (D.int .i64 (p.rdI a.2.2.1 (p.nat a.2.2.2.2.1) 0)) 3))]] 0 1)),(a.2.2.1,(a.2.2.2.1,(a.2.2.2.2.1,())))))) (
 opt.need _ (p.and (p.leN (p.add 0 1) (p.len [[(D.int .i64 (0:Int)),(D.int .i64 (0:Int)),(D.int .i64 (0:Int)),(D.bool Bool.false)]])) (p.and (p.leN (p.add 0 (p.len a.2.1)) (p.len a.2.1)) (p.and (p.leN 1 1) (p.leN (p.add (p.len a.2.1) 1) 1000000))))<|
 opt.need _ (p.eqN 0 0)<|
 opt.need _ (p.eqN (p.add (p.len a.2.1) 1) (p.len (p.app (p.cut a.2.1 0 (p.len a.2.1)) (p.cut [[(D.int .i64 (0:Int)),(D.int .i64 (0:Int)),(D.int .i64 (0:Int)),(D.bool Bool.false)]] 0 1))))<|
 opt.ret _ (a.1,((p.app (p.cut a.2.1 0 (p.len a.2.1)) (p.cut [[(D.int .i64 (0:Int)),(D.int .i64 (0:Int)),(D.int .i64 (0:Int)),(D.bool Bool.false)]] 0 1)),(a.2.2.1,(a.2.2.2.1,(a.2.2.2.2.1,())))))))) fun b=>
 opt.need _ (p.eqN 0 0)<|
 opt.need _ (p.eqN (p.len b.2.1) (p.len b.2.1))<|
 opt.ret _ (Sum.inl (b.1,(b.2.1,(b.2.2.1,(b.2.2.2.1,((p.ar .add .i64 b.2.2.2.2.1 (1:Int)),()))))))) (
 opt.need _ (p.eqN 0 0)<|
 opt.need _ (p.eqN (p.len a.2.1) (p.len a.2.1))<|
 opt.ret _ (Sum.inr (a.2.1,()))))
def G23:(p:z0n)→(LD×Unit)→Option ((LD×(Int×Unit))):=
 fun p x=>
 opt.bnd ((Int×Unit)) _ (G19 p (x.1,())) fun a=>
 opt.ask _ (p.cmp .neq a.1 (0:Int)) (
 opt.ret _ ([],(a.1,()))) (
 opt.bnd ((List ((D×D))×(LD×Unit))) _ (G61 p (x.1,())) fun b=>
 opt.bnd ((List ((D×D))×Unit)) _ (G64 p (b.1,())) fun c=>
 opt.bnd ((List ((D×D))×(LD×Unit))) _ (G63 p (c.1,())) fun d=>
 opt.bnd ((LD×Unit)) _ (v3b p (d.2.1,())) fun e=>
 opt.bnd ((LD×Unit)) _ (
 z6j (b23_1 p) (d.1,([],(e.1,((p.ofNat (p.len e.1)),((0:Int),())))))) fun f=>
 opt.need _ (p.eqN 0 0)<|
 opt.need _ (p.eqN (p.len f.1) (p.len f.1))<|
 opt.ret _ (f.1,((0:Int),())))
def F23:z0n→Tup (ctr23).scs→Option (z6k (z6i (ctr23).outs)):=
 fun p x=>G23 p x
theorem eq23 (p:z0n) (x:Tup (ctr23).scs):z2r opt p (z0r [] Go.Proofs.Tryz.prog) (z6d opt p (z0r [] Go.Proofs.Tryz.prog) 400 (an23) la23) 400 ctr23 x=G23 p x:=by kernel_rfl
theorem gok23:z5q Go.Proofs.Tryz.prog (gam23):=by
 intro cf h
 simp only [gam23,List.mem_cons,List.not_mem_nil,or_false] at h
 rcases h with rfl|rfl|rfl|rfl|rfl
 ·exact ok63
 ·exact ok64
 ·exact ok61
 ·exact v05
 ·exact v3r
theorem enters23:z1m Go.Proofs.Tryz.prog 23:=z0v (b:=_) rfl (by kernel_rfl)
theorem ok23:z27 Go.Proofs.Tryz.prog ctr23 (F23 std):=z0w (z0h z0c) (z1v (z0h z0c) gok23 _) enters23 (fun x=>eq23 std x)
end Go.Am
end
noncomputable section
namespace Go.Am
def ctr111:Ctr:=
 ⟨111,[.list 4, .int .i64],[],[(.ret,⟨[(0, .int .i64)],[],1⟩)]⟩
def la111:List LA:=
 [⟨111,[false,true,false,true],0,⟨⟨[(0, .list 4),(1, .int .i64),(5, .int .i64)],[],20⟩,[(AX.ret,⟨[(4, .int .i64)],[],20⟩),((AX.exit 0),⟨[],[],20⟩)]⟩⟩]
def ja111:List JA:=
 []
def gam111:List CF:=
 []
def an111:y5o:=
 ⟨gam111,ja111,[]⟩
def b111_1 (p:z0n):(LD×(Int×(Int×Unit)))→Option ((LD×(Int×(Int×Unit)))⊕((Int×Unit)⊕Unit)):=
 fun a=>opt.run _ (
 opt.ask _ (p.cmp .lss a.2.2.1 (p.ofNat (p.len a.1))) (
 opt.need _ (p.rowOk a.1 (p.nat a.2.2.1) [ci,ci,ci,CK.bool])<|
 opt.need _ (p.cmp .geq a.2.2.1 (0:Int))<|
 opt.ask _ (p.cmp .eql (p.rdI a.1 (p.nat a.2.2.1) 0) a.2.1) (
 opt.ret _ (Sum.inr (Sum.inl (a.2.2.1,())))) (
 opt.ret _ (Sum.inl (a.1,(a.2.1,((p.ar .add .i64 a.2.2.1 (1:Int)),())))))) (
 opt.ret _ (Sum.inr (Sum.inr ()))))
def G111:(p:z0n)→(LD×(Int×Unit))→Option ((Int×Unit)):=
 fun p x=>
 opt.alt ((Int×Unit)) (Unit) _ (
 z6j (b111_1 p) (x.1,(x.2.1,((0:Int),())))) (fun a=>
 opt.ret _ (a.1,())) (fun b=>
 opt.bnd (Unit) _ (some b) fun c=>
 opt.ret _ ((-1:Int),()))
def F111:z0n→Tup (ctr111).scs→Option (z6k (z6i (ctr111).outs)):=
 fun p x=>G111 p x
theorem eq111 (p:z0n) (x:Tup (ctr111).scs):z2r opt p (z0r [] Go.Proofs.Tryz.prog) (z6d opt p (z0r [] Go.Proofs.Tryz.prog) 400 (an111) la111) 400 ctr111 x=G111 p x:=by kernel_rfl
theorem gok111:z5q Go.Proofs.Tryz.prog gam111:=fun cf h=>by cases h
theorem enters111:z1m Go.Proofs.Tryz.prog 111:=z0v (b:=_) rfl (by kernel_rfl)
theorem ok111:z27 Go.Proofs.Tryz.prog ctr111 (F111 std):=z0w (z0h z0c) (z1v (z0h z0c) gok111 _) enters111 (fun x=>eq111 std x)
def ctr112:Ctr:=
 ⟨112,[.list 4, .int .i64],[],[(.ret,⟨[(0, .int .i64)],[],1⟩)]⟩
def la112:List LA:=
 []
def ja112:List JA:=
 []
def gam112:List CF:=
 [⟨ctr111,F111⟩]
def an112:y5o:=
 ⟨gam112,ja112,[]⟩
def G112:(p:z0n)→(LD×(Int×Unit))→Option ((Int×Unit)):=
 fun p x=>
 opt.bnd ((Int×Unit)) _ (G111 p (x.1,(x.2.1,()))) fun a=>
 opt.ask _ (p.cmp .lss a.1 (0:Int)) (
 opt.ret _ ((5:Int),())) (
 opt.need _ (p.rowOk x.1 (p.nat a.1) [ci,ci,ci,CK.bool])<|
 opt.need _ (p.cmp .geq a.1 (0:Int))<|
 opt.ask _ (p.rdB x.1 (p.nat a.1) 3) (
 opt.ret _ ((9:Int),())) (
 opt.ret _ ((0:Int),())))
def F112:z0n→Tup (ctr112).scs→Option (z6k (z6i (ctr112).outs)):=
 fun p x=>G112 p x
theorem eq112 (p:z0n) (x:Tup (ctr112).scs):z2r opt p (z0r [] Go.Proofs.Tryz.prog) (z6d opt p (z0r [] Go.Proofs.Tryz.prog) 400 (an112) la112) 400 ctr112 x=G112 p x:=by kernel_rfl
theorem gok112:z5q Go.Proofs.Tryz.prog (gam112):=by
 intro cf h
 simp only [gam112,List.mem_cons,List.not_mem_nil,or_false] at h
 rcases h with rfl
 ·exact ok111
theorem enters112:z1m Go.Proofs.Tryz.prog 112:=z0v (b:=_) rfl (by kernel_rfl)
theorem ok112:z27 Go.Proofs.Tryz.prog ctr112 (F112 std):=z0w (z0h z0c) (z1v (z0h z0c) gok112 _) enters112 (fun x=>eq112 std x)
def ctr113:Ctr:=
 ⟨113,[.list 4, .int .i64],[],[(.ret,⟨[(0, .int .i64)],[],1⟩)]⟩
def la113:List LA:=
 []
def ja113:List JA:=
 []
def gam113:List CF:=
 [⟨ctr111,F111⟩]
def an113:y5o:=
 ⟨gam113,ja113,[]⟩
def G113:(p:z0n)→(LD×(Int×Unit))→Option ((Int×Unit)):=
 fun p x=>
 opt.bnd ((Int×Unit)) _ (G111 p (x.1,(x.2.1,()))) fun a=>
 opt.need _ (p.rowOk x.1 (p.nat a.1) [ci,ci,ci,CK.bool])<|
 opt.need _ (p.cmp .geq a.1 (0:Int))<|
 opt.ret _ ((p.rdI x.1 (p.nat a.1) 1),())
def F113:z0n→Tup (ctr113).scs→Option (z6k (z6i (ctr113).outs)):=
 fun p x=>G113 p x
theorem eq113 (p:z0n) (x:Tup (ctr113).scs):z2r opt p (z0r [] Go.Proofs.Tryz.prog) (z6d opt p (z0r [] Go.Proofs.Tryz.prog) 400 (an113) la113) 400 ctr113 x=G113 p x:=by kernel_rfl
theorem gok113:z5q Go.Proofs.Tryz.prog (gam113):=by
 intro cf h
 simp only [gam113,List.mem_cons,List.not_mem_nil,or_false] at h
 rcases h with rfl
 ·exact ok111
theorem enters113:z1m Go.Proofs.Tryz.prog 113:=z0v (b:=_) rfl (by kernel_rfl)
theorem ok113:z27 Go.Proofs.Tryz.prog ctr113 (F113 std):=z0w (z0h z0c) (z1v (z0h z0c) gok113 _) enters113 (fun x=>eq113 std x)
def ctr62:Ctr:=
 ⟨62,[.list 4, .agg [.int .i64, .int .i64, .list 1, .int .i64]],[],[(.ret,⟨[(0, .tuple [.list 4, .int .i64])],[],1⟩)]⟩
def la62:List LA:=
 [⟨62,[false,true,false,true,true,true,true,true,true],0,⟨⟨[(0, .list 4),(3, .bptr 0 0),(6, .sl 1 4),(7, .int .i64),(8, .int .i64),(9, .int .i64)],[.box [.int .i64, .int .i64, .list 1, .int .i64], .row [ci,ci,ci,CK.bool]],184⟩,[(AX.ret,⟨[(4, .list 4),(5, .int .i64)],[],184⟩),((AX.exit 0),⟨[(0, .list 4),(3, .bptr 0 0),(6, .sl 1 4),(7, .int .i64)],[.box [.int .i64, .int .i64, .list 1, .int .i64], .row [ci,ci,ci,CK.bool]],184⟩)]⟩⟩]
def ja62:List JA:=
 [⟨62,[false,true,false,true,false,true,true,true,true,true,true,true,true,true,true,true,true],0,[(AX.normal,⟨[(0, .list 4),(6, .sl 0 4),(181, .bool)],[.row [ci,ci,ci,CK.bool]],184⟩)]⟩,
 ⟨62,[true,false,true,true,true,true,true,true,true,true],0,[(AX.ret,⟨[(4, .list 4),(5, .int .i64)],[],184⟩),(AX.normal,⟨[(0, .list 4),(3, .bptr 0 0),(6, .sl 1 4),(7, .int .i64),(10, .int .i64)],[.box [.int .i64, .int .i64, .list 1, .int .i64], .row [ci,ci,ci,CK.bool]],184⟩)]⟩,
 ⟨62,[true,false,true,true,true,true,true],0,[(AX.normal,⟨[(0, .list 4),(3, .bptr 0 0),(6, .sl 1 4),(7, .int .i64),(8, .int .i64)],[.box [.int .i64, .int .i64, .list 1, .int .i64], .row [ci,ci,ci,CK.bool]],184⟩)]⟩,
 ⟨62,[true,false,true,true,true,true,true,true,true,true,true],0,[(AX.ret,⟨[(4, .list 4),(5, .int .i64)],[],184⟩),(AX.normal,⟨[(0, .list 4),(3, .bptr 0 0),(6, .sl 1 4),(7, .int .i64),(10, .int .i64)],[.box [.int .i64, .int .i64, .list 1, .int .i64], .row [ci,ci,ci,CK.bool]],184⟩)]⟩,
 ⟨62,[false,false,true,true,true,true,true],0,[(AX.normal,⟨[(0, .list 4),(3, .bptr 0 0),(6, .sl 1 4),(7, .int .i64),(8, .int .i64),(42, .bool)],[.box [.int .i64, .int .i64, .list 1, .int .i64], .row [ci,ci,ci,CK.bool]],184⟩)]⟩,
 ⟨62,[true,false,true,true,true,true,true,true,true,true,true,true,true,true],0,[(AX.ret,⟨[(4, .list 4),(5, .int .i64)],[],184⟩),(AX.normal,⟨[(6, .sl 0 4)],[.row [ci,ci,ci,CK.bool]],184⟩)]⟩,
 ⟨62,[false,false,true,false,true,false,true,true,true,true,true,true,true,true,true],0,[(AX.normal,⟨[(0, .list 4),(3, .bptr 0 0),(6, .sl 1 4),(7, .int .i64),(10, .int .i64),(11, .int .i64),(111, .bool)],[.box [.int .i64, .int .i64, .list 1, .int .i64], .row [ci,ci,ci,CK.bool]],184⟩)]⟩,
 ⟨62,[true,false,true,true,true,true,true,true,true,true,true,true],0,[(AX.ret,⟨[(4, .list 4),(5, .int .i64)],[],184⟩),(AX.normal,⟨[(0, .list 4),(3, .bptr 0 0),(6, .sl 1 4),(7, .int .i64),(10, .int .i64)],[.box [.int .i64, .int .i64, .list 1, .int .i64], .row [ci,ci,ci,CK.bool]],184⟩)]⟩,
 ⟨62,[true,false,true,true,true,true,true,true,true,true,true,true,true],0,[(AX.normal,⟨[(0, .list 4),(3, .bptr 0 0),(6, .sl 1 4),(7, .int .i64)],[.box [.int .i64, .int .i64, .list 1, .int .i64], .row [ci,ci,ci,CK.bool]],184⟩)]⟩,
 ⟨62,[true,false,true,true,true],0,[(AX.ret,⟨[(4, .list 4),(5, .int .i64)],[],184⟩),(AX.normal,⟨[(0, .list 4),(3, .bptr 0 0),(6, .sl 1 4),(7, .int .i64)],[.box [.int .i64, .int .i64, .list 1, .int .i64], .row [ci,ci,ci,CK.bool]],184⟩)]⟩]
def gam62:List CF:=
 [⟨ctr113,F113⟩,⟨ctr112,F112⟩,⟨ctr111,F111⟩]
def an62:y5o:=
 ⟨gam62,ja62,[]⟩
def b62_2 (p:z0n):(LD×(Int×(Int×(LD×(Int×(LD×(Nat×(Nat×(Int×(Int×(Int×Unit)))))))))))→Option ((LD×(Int×(Int×(LD×(Int×(LD×(Nat×(Nat×(Int×(Int×(Int×Unit)))))))))))⊕((LD×(Int×Unit))⊕(LD×(Int×(Int×(LD×(Int×(LD×(Nat×(Nat×(Int×Unit))))))))))):=
 fun a=>opt.run _ (
 opt.ask _ (p.cmp .lss a.2.2.2.2.2.2.2.2.2.2.1 a.2.2.2.2.2.2.2.2.2.1) (
 opt.need _ (p.rowOk a.2.2.2.1 (p.nat a.2.2.2.2.2.2.2.2.2.2.1) [ci])<|
 opt.need _ (p.cmp .geq a.2.2.2.2.2.2.2.2.2.2.1 (0:Int))<|
 opt.need _ (p.and (p.leN (p.add a.2.2.2.2.2.2.1 a.2.2.2.2.2.2.2.1) (p.len a.1)) (p.and Bool.true Bool.true))<|
 opt.bnd ((Int×Unit)) _ (G112 p ((p.cut a.1 a.2.2.2.2.2.2.1 a.2.2.2.2.2.2.2.1),((p.rdI a.2.2.2.1 (p.nat a.2.2.2.2.2.2.2.2.2.2.1) 0),()))) fun b=>
 opt.ask _ (p.cmp .neq b.1 (0:Int)) (
 opt.need _ (p.rowOk a.2.2.2.1 (p.nat a.2.2.2.2.2.2.2.2.2.2.1) [ci])<|
 opt.need _ (p.cmp .geq a.2.2.2.2.2.2.2.2.2.2.1 (0:Int))<|
 opt.need _ (p.and (p.leN (p.add a.2.2.2.2.2.2.1 a.2.2.2.2.2.2.2.1) (p.len a.1)) (p.and Bool.true Bool.true))<|
 opt.bnd ((Int×Unit)) _ (G112 p ((p.cut a.1 a.2.2.2.2.2.2.1 a.2.2.2.2.2.2.2.1),((p.rdI a.2.2.2.1 (p.nat a.2.2.2.2.2.2.2.2.2.2.1) 0),()))) fun c=>
 opt.ret _ (Sum.inr (Sum.inl (a.2.2.2.2.2.1,(c.1,()))))) (
 opt.ret _ (Sum.inl (a.1,(a.2.1,(a.2.2.1,(a.2.2.2.1,(a.2.2.2.2.1,(a.2.2.2.2.2.1,(a.2.2.2.2.2.2.1,(a.2.2.2.2.2.2.2.1,(a.2.2.2.2.2.2.2.2.1,(a.2.2.2.2.2.2.2.2.2.1,((p.ar .add .i64 a.2.2.2.2.2.2.2.2.2.2.1 (1:Int)),())))))))))))))) (
 opt.ret _ (Sum.inr (Sum.inr (a.1,(a.2.1,(a.2.2.1,(a.2.2.2.1,(a.2.2.2.2.1,(a.2.2.2.2.2.1,(a.2.2.2.2.2.2.1,(a.2.2.2.2.2.2.2.1,(a.2.2.2.2.2.2.2.2.1,())))))))))))))
def b62_1 (p:z0n):(LD×(Int×(Int×(LD×(Int×(LD×(Nat×(Nat×(Int×(Int×(Int×Unit)))))))))))→Option ((LD×(Int×(Int×(LD×(Int×(LD×(Nat×(Nat×(Int×(Int×(Int×Unit)))))))))))⊕((LD×(Int×Unit))⊕(LD×(Int×(Int×(LD×(Int×(LD×(Nat×(Nat×(Int×Unit))))))))))):=
 fun a=>opt.run _ (
 opt.ask _ (p.cmp .lss a.2.2.2.2.2.2.2.2.2.2.1 a.2.2.2.2.2.2.2.2.2.1) (
 opt.need _ (p.rowOk a.2.2.2.1 (p.nat a.2.2.2.2.2.2.2.2.2.2.1) [ci])<|
 opt.need _ (p.cmp .geq a.2.2.2.2.2.2.2.2.2.2.1 (0:Int))<|
 opt.need _ (p.and (p.leN (p.add a.2.2.2.2.2.2.1 a.2.2.2.2.2.2.2.1) (p.len a.1)) (p.and Bool.true Bool.true))<|
 opt.bnd ((Int×Unit)) _ (G112 p ((p.cut a.1 a.2.2.2.2.2.2.1 a.2.2.2.2.2.2.2.1),((p.rdI a.2.2.2.1 (p.nat a.2.2.2.2.2.2.2.2.2.2.1) 0),()))) fun b=>
 opt.ask _ (p.cmp .neq b.1 (0:Int)) (
 opt.need _ (p.rowOk a.2.2.2.1 (p.nat a.2.2.2.2.2.2.2.2.2.2.1) [ci])<|
 opt.need _ (p.cmp .geq a.2.2.2.2.2.2.2.2.2.2.1 (0:Int))<|
 opt.need _ (p.and (p.leN (p.add a.2.2.2.2.2.2.1 a.2.2.2.2.2.2.2.1) (p.len a.1)) (p.and Bool.true Bool.true))<|
 opt.bnd ((Int×Unit)) _ (G112 p ((p.cut a.1 a.2.2.2.2.2.2.1 a.2.2.2.2.2.2.2.1),((p.rdI a.2.2.2.1 (p.nat a.2.2.2.2.2.2.2.2.2.2.1) 0),()))) fun c=>
 opt.ret _ (Sum.inr (Sum.inl (a.2.2.2.2.2.1,(c.1,()))))) (
 opt.ret _ (Sum.inl (a.1,(a.2.1,(a.2.2.1,(a.2.2.2.1,(a.2.2.2.2.1,(a.2.2.2.2.2.1,(a.2.2.2.2.2.2.1,(a.2.2.2.2.2.2.2.1,(a.2.2.2.2.2.2.2.2.1,(a.2.2.2.2.2.2.2.2.2.1,((p.ar .add .i64 a.2.2.2.2.2.2.2.2.2.2.1 (1:Int)),())))))))))))))) (
 opt.ret _ (Sum.inr (Sum.inr (a.1,(a.2.1,(a.2.2.1,(a.2.2.2.1,(a.2.2.2.2.1,(a.2.2.2.2.2.1,(a.2.2.2.2.2.2.1,(a.2.2.2.2.2.2.2.1,(a.2.2.2.2.2.2.2.2.1,())))))))))))))
def G62:(p:z0n)→(LD×(Int×(Int×(LD×(Int×Unit)))))→Option ((LD×(Int×Unit))):=
 fun p x=>
 opt.ask _ (p.leN (p.add 0 (p.len x.1)) 0) (
 opt.need _ (p.and Bool.true (p.and (p.leN (p.add 0 0) (p.len [])) (p.leN (p.add 0 0) (p.len []))))<|
 opt.need _ (p.rowOk x.2.2.2.1 (p.nat (0:Int)) [ci])<|
 opt.alt ((LD×(Int×Unit))) ((LD×(Int×(Int×(LD×(Int×(LD×(Nat×(Nat×(Int×Unit)))))))))) _ (
 opt.run (((LD×(Int×Unit))⊕(LD×(Int×(Int×(LD×(Int×(LD×(Nat×(Nat×(Int×Unit))))))))))) (
 opt.ask _ (p.cmp .eql x.2.2.1 (1:Int)) (
 opt.need _ (p.and (p.leN (p.add 0 (p.add 0 (p.len x.1))) (p.len (p.splice [] (p.add 0 0) x.1))) (p.and Bool.true Bool.true))<|
 opt.bnd ((Int×Unit)) _ (G111 p ((p.cut (p.splice [] (p.add 0 0) x.1) 0 (p.add 0 (p.len x.1))),((p.rdI x.2.2.2.1 (p.nat (0:Int)) 0),()))) fun a=>
 opt.ask _ (p.cmp .geq a.1 (0:Int)) (
 opt.ret _ (Sum.inl (x.1,((11:Int),())))) (
 opt.ask _ (p.leN (p.add (p.add 0 (p.len x.1)) 1) 0) (
 opt.need _ (p.and (p.leN (p.add 0 1) (p.len [[(D.int .i64 (p.rdI x.2.2.2.1 (p.nat (0:Int)) 0)),(D.int .i64 x.2.2.2.2.1),(D.int .i64 (0:Int)),(D.bool Bool.false)]])) (p.and (p.leN (p.add 0 (p.add 0 (p.len x.1))) (p.len (p.splice [] (p.add 0 0) x.1))) (p.and (p.leN 1 1) (p.leN (p.add 0 0) (p.len (p.splice [] (p.add 0 0) x.1))))))<|
 opt.need _ (p.leN (p.add 0 (p.add (p.add 0 (p.len x.1)) 1)) (p.len (p.splice (p.splice [] (p.add 0 0) x.1) (p.add 0 (p.add 0 (p.len x.1))) (p.cut [[(D.int .i64 (p.rdI x.2.2.2.1 (p.nat (0:Int)) 0)),(D.int .i64 x.2.2.2.2.1),(D.int .i64 (0:Int)),(D.bool Bool.false)]] 0 1))))<|
 opt.ret _ (Sum.inl ((p.cut (p.splice (p.splice [] (p.add 0 0) x.1) (p.add 0 (p.add 0 (p.len x.1))) (p.cut [[(D.int .i64 (p.rdI x.2.2.2.1 (p.nat (0:Int)) 0)),(D.int .i64 x.2.2.2.2.1),(D.int .i64 (0:Int)),(D.bool Bool.false)]] 0 1)) 0 (p.add (p.add 0 (p.len x.1)) 1)),((0:Int),())))) (
 opt.need _ (p.and (p.leN (p.add 0 1) (p.len [[(D.int .i64 (p.rdI x.2.2.2.1 (p.nat (0:Int)) 0)),(D.int .i64 x.2.2.2.2.1),(D.int .i64 (0:Int)),(D.bool Bool.false)]])) (p.and (p.leN (p.add 0 (p.add 0 (p.len x.1))) (p.len (p.splice [] (p.add 0 0) x.1))) (p.and (p.leN 1 1) (p.leN (p.add (p.add 0 (p.len x.1)) 1) 1000000))))<|
 opt.need _ (p.leN (p.add 0 (p.add (p.add 0 (p.len x.1)) 1)) (p.len (p.app (p.cut (p.splice [] (p.add 0 0) x.1) 0 (p.add 0 (p.len x.1))) (p.cut [[(D.int .i64 (p.rdI x.2.2.2.1 (p.nat (0:Int)) 0)),(D.int .i64 x.2.2.2.2.1),(D.int .i64 (0:Int)),(D.bool Bool.false)]] 0 1))))<|
 opt.ret _ (Sum.inl ((p.cut (p.app (p.cut (p.splice [] (p.add 0 0) x.1) 0 (p.add 0 (p.len x.1))) (p.cut [[(D.int .i64 (p.rdI x.2.2.2.1 (p.nat (0:Int)) 0)),(D.int .i64 x.2.2.2.2.1),(D.int .i64 (0:Int)),(D.bool Bool.false)]] 0 1)) 0 (p.add (p.add 0 (p.len x.1)) 1)),((0:Int),())))))) (
 opt.need _ (p.leN (p.add 0 0) (p.len (p.splice [] (p.add 0 0) x.1)))<|
 opt.ret _ (Sum.inr ((p.splice [] (p.add 0 0) x.1),(x.2.1,(x.2.2.1,(x.2.2.2.1,(x.2.2.2.2.1,(x.1,(0,((p.add 0 (p.len x.1)),((p.rdI x.2.2.2.1 (p.nat (0:Int)) 0),()))))))))))))) (fun b=>
 opt.ret _ (b.1,(b.2.1,()))) (fun c=>
 opt.bnd ((LD×(Int×(Int×(LD×(Int×(LD×(Nat×(Nat×(Int×Unit)))))))))) _ (some c) fun d=>
 opt.bnd ((LD×(Int×(Int×(LD×(Int×(LD×(Nat×(Nat×(Int×(Int×(Bool×Unit)))))))))))) _ (
 opt.run ((LD×(Int×(Int×(LD×(Int×(LD×(Nat×(Nat×(Int×(Int×(Bool×Unit)))))))))))) (
 opt.ask _ (p.cmp .eql d.2.2.1 (3:Int)) (
 opt.ret _ (d.1,(d.2.1,(d.2.2.1,(d.2.2.2.1,(d.2.2.2.2.1,(d.2.2.2.2.2.1,(d.2.2.2.2.2.2.1,(d.2.2.2.2.2.2.2.1,(d.2.2.2.2.2.2.2.2.1,((1:Int),(Bool.true,())))))))))))) (
 opt.ret _ (d.1,(d.2.1,(d.2.2.1,(d.2.2.2.1,(d.2.2.2.2.1,(d.2.2.2.2.2.1,(d.2.2.2.2.2.2.1,(d.2.2.2.2.2.2.2.1,(d.2.2.2.2.2.2.2.2.1,((1:Int),((p.cmp .eql d.2.2.1 (6:Int)),())))))))))))))) fun e=>
 opt.bnd ((LD×(Int×(Int×(LD×(Int×(LD×(Nat×(Nat×(Int×(Int×Unit))))))))))) _ (
 opt.run ((LD×(Int×(Int×(LD×(Int×(LD×(Nat×(Nat×(Int×(Int×Unit))))))))))) (
 opt.ask _ e.2.2.2.2.2.2.2.2.2.2.1 (
 opt.ret _ (e.1,(e.2.1,(e.2.2.1,(e.2.2.2.1,(e.2.2.2.2.1,(e.2.2.2.2.2.1,(e.2.2.2.2.2.2.1,(e.2.2.2.2.2.2.2.1,(e.2.2.2.2.2.2.2.2.1,((p.ofNat (p.len e.2.2.2.1)),()))))))))))) (
 opt.ret _ (e.1,(e.2.1,(e.2.2.1,(e.2.2.2.1,(e.2.2.2.2.1,(e.2.2.2.2.2.1,(e.2.2.2.2.2.2.1,(e.2.2.2.2.2.2.2.1,(e.2.2.2.2.2.2.2.2.1,(e.2.2.2.2.2.2.2.2.2.1,()))))))))))))) fun f=>
 opt.alt ((LD×(Int×Unit))) ((LD×(Int×(Int×(LD×(Int×(LD×(Nat×(Nat×(Int×Unit)))))))))) _ (
 z6j (b62_1 p) (f.1,(f.2.1,(f.2.2.1,(f.2.2.2.1,(f.2.2.2.2.1,(f.2.2.2.2.2.1,(f.2.2.2.2.2.2.1,(f.2.2.2.2.2.2.2.1,(f.2.2.2.2.2.2.2.2.1,(f.2.2.2.2.2.2.2.2.2.1,((0:Int),())))))))))))) (fun g=>
 opt.ret _ (g.1,(g.2.1,()))) (fun h=>
 opt.bnd ((LD×(Int×(Int×(LD×(Int×(LD×(Nat×(Nat×(Int×Unit)))))))))) _ (some h) fun i=>
 opt.need _ (p.and (p.leN (p.add i.2.2.2.2.2.2.1 i.2.2.2.2.2.2.2.1) (p.len i.1)) (p.and Bool.true Bool.true))<|
 opt.bnd ((Int×Unit)) _ (G111 p ((p.cut i.1 i.2.2.2.2.2.2.1 i.2.2.2.2.2.2.2.1),(i.2.2.2.2.2.2.2.2.1,()))) fun j=>
 opt.alt ((LD×(Int×Unit))) ((LD×(Int×(Int×(LD×(Int×(LD×(Nat×(Nat×(Int×(Int×Unit))))))))))) _ (
 opt.run (((LD×(Int×Unit))⊕(LD×(Int×(Int×(LD×(Int×(LD×(Nat×(Nat×(Int×(Int×Unit)))))))))))) (
 opt.ask _ (p.cmp .eql i.2.2.1 (2:Int)) (
 opt.need _ (bif (p.cmp .geq j.1 (0:Int)) then (p.cmp .lss j.1 (p.ofNat i.2.2.2.2.2.2.2.1)) else Bool.false)<|
 opt.need _ (p.rowOk i.1 (p.add i.2.2.2.2.2.2.1 (p.nat j.1)) [ci,ci,ci,CK.bool])<|
 opt.ask _ (p.cmp .gtr (p.ar .add .i64 (p.rdI i.1 (p.add i.2.2.2.2.2.2.1 (p.nat j.1)) 2) i.2.2.2.2.1) (10000:Int)) (
 opt.ret _ (Sum.inl (i.2.2.2.2.2.1,((4:Int),())))) (
 opt.need _ (bif (p.cmp .geq j.1 (0:Int)) then (p.cmp .lss j.1 (p.ofNat i.2.2.2.2.2.2.2.1)) else Bool.false)<|
 opt.need _ (p.rowOk i.1 (p.add i.2.2.2.2.2.2.1 (p.nat j.1)) [ci,ci,ci,CK.bool])<|
 opt.need _ (bif (p.cmp .geq j.1 (0:Int)) then (p.cmp .lss j.1 (p.ofNat i.2.2.2.2.2.2.2.1)) else Bool.false)<|
 opt.need _ (p.rowOk i.1 (p.add i.2.2.2.2.2.2.1 (p.nat j.1)) [ci,ci,ci,CK.bool])<|
 opt.ret _ (Sum.inr ((p.set i.1 (p.add i.2.2.2.2.2.2.1 (p.nat j.1)) [(D.int .i64 (p.rdI i.1 (p.add i.2.2.2.2.2.2.1 (p.nat j.1)) 0)),(D.int .i64 (p.rdI i.1 (p.add i.2.2.2.2.2.2.1 (p.nat j.1)) 1)),(D.int .i64 (p.ar .add .i64 (p.rdI i.1 (p.add i.2.2.2.2.2.2.1 (p.nat j.1)) 2) i.2.2.2.2.1)),(D.bool (p.rdB i.1 (p.add i.2.2.2.2.2.2.1 (p.nat j.1)) 3))]),(i.2.1,(i.2.2.1,(i.2.2.2.1,(i.2.2.2.2.1,(i.2.2.2.2.2.1,(i.2.2.2.2.2.2.1,(i.2.2.2.2.2.2.2.1,(i.2.2.2.2.2.2.2.2.1,(j.1,()))))))))))))) (
 opt.ret _ (Sum.inr (i.1,(i.2.1,(i.2.2.1,(i.2.2.2.1,(i.2.2.2.2.1,(i.2.2.2.2.2.1,(i.2.2.2.2.2.2.1,(i.2.2.2.2.2.2.2.1,(i.2.2.2.2.2.2.2.2.1,(j.1,())))))))))))))) (fun k=>
 opt.ret _ (k.1,(k.2.1,()))) (fun l=>
 opt.bnd ((LD×(Int×(Int×(LD×(Int×(LD×(Nat×(Nat×(Int×(Int×Unit))))))))))) _ (some l) fun m=>
 opt.alt ((LD×(Int×Unit))) ((LD×(Int×(Int×(LD×(Int×(LD×(Nat×(Nat×(Int×(Int×Unit))))))))))) _ (
 opt.run (((LD×(Int×Unit))⊕(LD×(Int×(Int×(LD×(Int×(LD×(Nat×(Nat×(Int×(Int×Unit)))))))))))) (
 opt.ask _ (p.cmp .eql m.2.2.1 (3:Int)) (
 opt.need _ (p.rowOk m.2.2.2.1 (p.nat (1:Int)) [ci])<|
 opt.need _ (p.and (p.leN (p.add m.2.2.2.2.2.2.1 m.2.2.2.2.2.2.2.1) (p.len m.1)) (p.and Bool.true Bool.true))<|
 opt.bnd ((Int×Unit)) _ (G113 p ((p.cut m.1 m.2.2.2.2.2.2.1 m.2.2.2.2.2.2.2.1),((p.rdI m.2.2.2.1 (p.nat (1:Int)) 0),()))) fun n=>
 opt.need _ (p.cmp .neq (1000:Int) (0:Int))<|
 opt.bnd ((LD×(Int×(Int×(LD×(Int×(LD×(Nat×(Nat×(Int×(Int×(Int×(Bool×Unit))))))))))))) _ (
 opt.run ((LD×(Int×(Int×(LD×(Int×(LD×(Nat×(Nat×(Int×(Int×(Int×(Bool×Unit))))))))))))) (
 opt.ask _ (p.cmp .lss (p.ar .quo .i64 (p.ar .mul .i64 n.1 m.2.2.2.2.1) (1000:Int)) (1:Int)) (
 opt.ret _ (m.1,(m.2.1,(m.2.2.1,(m.2.2.2.1,(m.2.2.2.2.1,(m.2.2.2.2.2.1,(m.2.2.2.2.2.2.1,(m.2.2.2.2.2.2.2.1,(m.2.2.2.2.2.2.2.2.1,(m.2.2.2.2.2.2.2.2.2.1,((p.ar .quo .i64 (p.ar .mul .i64 n.1 m.2.2.2.2.1) (1000:Int)),(Bool.true,()))))))))))))) (
 opt.ret _ (m.1,(m.2.1,(m.2.2.1,(m.2.2.2.1,(m.2.2.2.2.1,(m.2.2.2.2.2.1,(m.2.2.2.2.2.2.1,(m.2.2.2.2.2.2.2.1,(m.2.2.2.2.2.2.2.2.1,(m.2.2.2.2.2.2.2.2.2.1,((p.ar .quo .i64 (p.ar .mul .i64 n.1 m.2.2.2.2.1) (1000:Int)),((p.cmp .gtr (p.ar .quo .i64 (p.ar .mul .i64 n.1 m.2.2.2.2.1) (1000:Int)) (1000000:Int)),()))))))))))))))) fun o=>
 opt.ask _ o.2.2.2.2.2.2.2.2.2.2.2.1 (
 opt.ret _ (Sum.inl (o.2.2.2.2.2.1,((4:Int),())))) (
 opt.need _ (bif (p.cmp .geq o.2.2.2.2.2.2.2.2.2.1 (0:Int)) then (p.cmp .lss o.2.2.2.2.2.2.2.2.2.1 (p.ofNat o.2.2.2.2.2.2.2.1)) else Bool.false)<|
 opt.need _ (p.rowOk o.1 (p.add o.2.2.2.2.2.2.1 (p.nat o.2.2.2.2.2.2.2.2.2.1)) [ci,ci,ci,CK.bool])<|
 opt.ret _ (Sum.inr ((p.set o.1 (p.add o.2.2.2.2.2.2.1 (p.nat o.2.2.2.2.2.2.2.2.2.1)) [(D.int .i64 (p.rdI o.1 (p.add o.2.2.2.2.2.2.1 (p.nat o.2.2.2.2.2.2.2.2.2.1)) 0)),(D.int .i64 o.2.2.2.2.2.2.2.2.2.2.1),(D.int .i64 (p.rdI o.1 (p.add o.2.2.2.2.2.2.1 (p.nat o.2.2.2.2.2.2.2.2.2.1)) 2)),(D.bool (p.rdB o.1 (p.add o.2.2.2.2.2.2.1 (p.nat o.2.2.2.2.2.2.2.2.2.1)) 3))]),(o.2.1,(o.2.2.1,(o.2.2.2.1,(o.2.2.2.2.1,(o.2.2.2.2.2.1,(o.2.2.2.2.2.2.1,(o.2.2.2.2.2.2.2.1,(o.2.2.2.2.2.2.2.2.1,(o.2.2.2.2.2.2.2.2.2.1,()))))))))))))) (
 opt.ret _ (Sum.inr (m.1,(m.2.1,(m.2.2.1,(m.2.2.2.1,(m.2.2.2.2.1,(m.2.2.2.2.2.1,(m.2.2.2.2.2.2.1,(m.2.2.2.2.2.2.2.1,(m.2.2.2.2.2.2.2.2.1,(m.2.2.2.2.2.2.2.2.2.1,())))))))))))))) (fun q=>
 opt.ret _ (q.1,(q.2.1,()))) (fun r=>
 opt.bnd ((LD×(Int×(Int×(LD×(Int×(LD×(Nat×(Nat×(Int×(Int×Unit))))))))))) _ (some r) fun t=>
 opt.alt ((LD×(Int×Unit))) ((LD×(Int×(Int×(LD×(Int×(LD×(Nat×(Nat×(Int×(Int×Unit))))))))))) _ (
 opt.run (((LD×(Int×Unit))⊕(LD×(Int×(Int×(LD×(Int×(LD×(Nat×(Nat×(Int×(Int×Unit)))))))))))) (
 opt.ask _ (p.cmp .eql t.2.2.1 (4:Int)) (
 opt.need _ (p.rowOk t.2.2.2.1 (p.nat (1:Int)) [ci])<|
 opt.need _ (p.and (p.leN (p.add t.2.2.2.2.2.2.1 t.2.2.2.2.2.2.2.1) (p.len t.1)) (p.and Bool.true Bool.true))<|
 opt.bnd ((Int×Unit)) _ (G111 p ((p.cut t.1 t.2.2.2.2.2.2.1 t.2.2.2.2.2.2.2.1),((p.rdI t.2.2.2.1 (p.nat (1:Int)) 0),()))) fun u=>
 opt.ask _ (p.cmp .geq u.1 (0:Int)) (
 opt.ret _ (Sum.inl (t.2.2.2.2.2.1,((11:Int),())))) (
 opt.need _ (bif (p.cmp .geq t.2.2.2.2.2.2.2.2.2.1 (0:Int)) then (p.cmp .lss t.2.2.2.2.2.2.2.2.2.1 (p.ofNat t.2.2.2.2.2.2.2.1)) else Bool.false)<|
 opt.need _ (p.rowOk t.1 (p.add t.2.2.2.2.2.2.1 (p.nat t.2.2.2.2.2.2.2.2.2.1)) [ci,ci,ci,CK.bool])<|
 opt.need _ (p.rowOk t.2.2.2.1 (p.nat (1:Int)) [ci])<|
 opt.need _ (p.and (p.leN (p.add t.2.2.2.2.2.2.1 t.2.2.2.2.2.2.2.1) (p.len (p.set t.1 (p.add t.2.2.2.2.2.2.1 (p.nat t.2.2.2.2.2.2.2.2.2.1)) [(D.int .i64 (p.rdI t.1 (p.add t.2.2.2.2.2.2.1 (p.nat t.2.2.2.2.2.2.2.2.2.1)) 0)),(D.int .i64 (p.rdI t.1 (p.add t.2.2.2.2.2.2.1 (p.nat t.2.2.2.2.2.2.2.2.2.1)) 1)),(D.int .i64 (p.rdI t.1 (p.add t.2.2.2.2.2.2.1 (p.nat t.2.2.2.2.2.2.2.2.2.1)) 2)),(D.bool Bool.true)]))) (p.and Bool.true Bool.true))<|
 opt.bnd ((Int×Unit)) _ (G113 p ((p.cut (p.set t.1 (p.add t.2.2.2.2.2.2.1 (p.nat t.2.2.2.2.2.2.2.2.2.1)) [(D.int .i64 (p.rdI t.1 (p.add t.2.2.2.2.2.2.1 (p.nat t.2.2.2.2.2.2.2.2.2.1)) 0)),(D.int .i64 (p.rdI t.1 (p.add t.2.2.2.2.2.2.1 (p.nat t.2.2.2.2.2.2.2.2.2.1)) 1)),(D.int .i64 (p.rdI t.1 (p.add t.2.2.2.2.2.2.1 (p.nat t.2.2.2.2.2.2.2.2.2.1)) 2)),(D.bool Bool.true)]) t.2.2.2.2.2.2.1 t.2.2.2.2.2.2.2.1),(t.2.2.2.2.2.2.2.2.1,()))) fun v=>
 opt.need _ (p.and (p.leN (p.add 0 1) (p.len [[(D.int .i64 (p.rdI t.2.2.2.1 (p.nat (1:Int)) 0)),(D.int .i64 v.1),(D.int .i64 (0:Int)),(D.bool Bool.false)]])) (p.and (p.leN (p.add t.2.2.2.2.2.2.1 t.2.2.2.2.2.2.2.1) (p.len (p.set t.1 (p.add t.2.2.2.2.2.2.1 (p.nat t.2.2.2.2.2.2.2.2.2.1)) [(D.int .i64 (p.rdI t.1 (p.add t.2.2.2.2.2.2.1 (p.nat t.2.2.2.2.2.2.2.2.2.1)) 0)),(D.int .i64 (p.rdI t.1 (p.add t.2.2.2.2.2.2.1 (p.nat t.2.2.2.2.2.2.2.2.2.1)) 1)),(D.int .i64 (p.rdI t.1 (p.add t.2.2.2.2.2.2.1 (p.nat t.2.2.2.2.2.2.2.2.2.1)) 2)),(D.bool Bool.true)]))) (p.and (p.leN 1 1) (p.leN (p.add t.2.2.2.2.2.2.2.1 1) 1000000))))<|
 opt.need _ (p.leN (p.add 0 (p.add t.2.2.2.2.2.2.2.1 1)) (p.len (p.app (p.cut (p.set t.1 (p.add t.2.2.2.2.2.2.1 (p.nat t.2.2.2.2.2.2.2.2.2.1)) [(D.int .i64 (p.rdI t.1 (p.add t.2.2.2.2.2.2.1 (p.nat t.2.2.2.2.2.2.2.2.2.1)) 0)),(D.int .i64 (p.rdI t.1 (p.add t.2.2.2.2.2.2.1 (p.nat t.2.2.2.2.2.2.2.2.2.1)) 1)),(D.int .i64 (p.rdI t.1 (p.add t.2.2.2.2.2.2.1 (p.nat t.2.2.2.2.2.2.2.2.2.1)) 2)),(D.bool Bool.true)]) t.2.2.2.2.2.2.1 t.2.2.2.2.2.2.2.1) (p.cut [[(D.int .i64 (p.rdI t.2.2.2.1 (p.nat (1:Int)) 0)),(D.int .i64 v.1),(D.int .i64 (0:Int)),(D.bool Bool.false)]] 0 1))))<|
 opt.ret _ (Sum.inl ((p.cut (p.app (p.cut (p.set t.1 (p.add t.2.2.2.2.2.2.1 (p.nat t.2.2.2.2.2.2.2.2.2.1)) [(D.int .i64 (p.rdI t.1 (p.add t.2.2.2.2.2.2.1 (p.nat t.2.2.2.2.2.2.2.2.2.1)) 0)),(D.int .i64 (p.rdI t.1 (p.add t.2.2.2.2.2.2.1 (p.nat t.2.2.2.2.2.2.2.2.2.1)) 1)),(D.int .i64 (p.rdI t.1 (p.add t.2.2.2.2.2.2.1 (p.nat t.2.2.2.2.2.2.2.2.2.1)) 2)),(D.bool Bool.true)]) t.2.2.2.2.2.2.1 t.2.2.2.2.2.2.2.1) (p.cut [[(D.int .i64 (p.rdI t.2.2.2.1 (p.nat (1:Int)) 0)),(D.int .i64 v.1),(D.int .i64 (0:Int)),(D.bool Bool.false)]] 0 1)) 0 (p.add t.2.2.2.2.2.2.2.1 1)),((0:Int),()))))) (
 opt.ret _ (Sum.inr (t.1,(t.2.1,(t.2.2.1,(t.2.2.2.1,(t.2.2.2.2.1,(t.2.2.2.2.2.1,(t.2.2.2.2.2.2.1,(t.2.2.2.2.2.2.2.1,(t.2.2.2.2.2.2.2.2.1,(t.2.2.2.2.2.2.2.2.2.1,())))))))))))))) (fun w=>
 opt.ret _ (w.1,(w.2.1,()))) (fun z=>
 opt.bnd ((LD×(Int×(Int×(LD×(Int×(LD×(Nat×(Nat×(Int×(Int×Unit))))))))))) _ (some z) fun a1=>
 opt.bnd ((LD×(Int×(Int×(LD×(Int×(LD×(Nat×(Nat×(Int×Unit)))))))))) _ (
 opt.run ((LD×(Int×(Int×(LD×(Int×(LD×(Nat×(Nat×(Int×Unit)))))))))) (
 opt.ask _ (p.cmp .eql a1.2.2.1 (5:Int)) (
 opt.need _ (bif (p.cmp .geq a1.2.2.2.2.2.2.2.2.2.1 (0:Int)) then (p.cmp .lss a1.2.2.2.2.2.2.2.2.2.1 (p.ofNat a1.2.2.2.2.2.2.2.1)) else Bool.false)<|
 opt.need _ (p.rowOk a1.1 (p.add a1.2.2.2.2.2.2.1 (p.nat a1.2.2.2.2.2.2.2.2.2.1)) [ci,ci,ci,CK.bool])<|
 opt.ret _ ((p.set a1.1 (p.add a1.2.2.2.2.2.2.1 (p.nat a1.2.2.2.2.2.2.2.2.2.1)) [(D.int .i64 (p.rdI a1.1 (p.add a1.2.2.2.2.2.2.1 (p.nat a1.2.2.2.2.2.2.2.2.2.1)) 0)),(D.int .i64 (p.rdI a1.1 (p.add a1.2.2.2.2.2.2.1 (p.nat a1.2.2.2.2.2.2.2.2.2.1)) 1)),(D.int .i64 (p.rdI a1.1 (p.add a1.2.2.2.2.2.2.1 (p.nat a1.2.2.2.2.2.2.2.2.2.1)) 2)),(D.bool Bool.true)]),(a1.2.1,(a1.2.2.1,(a1.2.2.2.1,(a1.2.2.2.2.1,(a1.2.2.2.2.2.1,(a1.2.2.2.2.2.2.1,(a1.2.2.2.2.2.2.2.1,(a1.2.2.2.2.2.2.2.2.1,())))))))))) (
 opt.ret _ (a1.1,(a1.2.1,(a1.2.2.1,(a1.2.2.2.1,(a1.2.2.2.2.1,(a1.2.2.2.2.2.1,(a1.2.2.2.2.2.2.1,(a1.2.2.2.2.2.2.2.1,(a1.2.2.2.2.2.2.2.2.1,())))))))))))) fun b1=>
 opt.alt ((LD×(Int×Unit))) ((LD×(Nat×(Nat×Unit)))) _ (
 opt.run (((LD×(Int×Unit))⊕(LD×(Nat×(Nat×Unit))))) (
 opt.ask _ (p.cmp .eql b1.2.2.1 (6:Int)) (
 opt.need _ (p.and (p.leN (p.add b1.2.2.2.2.2.2.1 b1.2.2.2.2.2.2.2.1) (p.len b1.1)) (p.and Bool.true Bool.true))<|
 opt.bnd ((Int×Unit)) _ (G113 p ((p.cut b1.1 b1.2.2.2.2.2.2.1 b1.2.2.2.2.2.2.2.1),(b1.2.2.2.2.2.2.2.2.1,()))) fun c1=>
 opt.need _ (p.rowOk b1.2.2.2.1 (p.nat (1:Int)) [ci])<|
 opt.need _ (p.and (p.leN (p.add b1.2.2.2.2.2.2.1 b1.2.2.2.2.2.2.2.1) (p.len b1.1)) (p.and Bool.true Bool.true))<|
 opt.bnd ((Int×Unit)) _ (G113 p ((p.cut b1.1 b1.2.2.2.2.2.2.1 b1.2.2.2.2.2.2.2.1),((p.rdI b1.2.2.2.1 (p.nat (1:Int)) 0),()))) fun d1=>
 opt.need _ (p.rowOk b1.2.2.2.1 (p.nat (2:Int)) [ci])<|
 opt.need _ (p.and (p.leN (p.add b1.2.2.2.2.2.2.1 b1.2.2.2.2.2.2.2.1) (p.len b1.1)) (p.and Bool.true Bool.true))<|
 opt.bnd ((Int×Unit)) _ (G113 p ((p.cut b1.1 b1.2.2.2.2.2.2.1 b1.2.2.2.2.2.2.2.1),((p.rdI b1.2.2.2.1 (p.nat (2:Int)) 0),()))) fun e1=>
 opt.bnd ((LD×(LD×(Nat×(Nat×(Bool×Unit)))))) _ (
 opt.run ((LD×(LD×(Nat×(Nat×(Bool×Unit)))))) (
 opt.ask _ (p.cmp .gtr (p.ar .sub .i64 (p.ar .add .i64 c1.1 d1.1) e1.1) b1.2.2.2.2.1) (
 opt.ret _ (b1.1,(b1.2.2.2.2.2.1,(b1.2.2.2.2.2.2.1,(b1.2.2.2.2.2.2.2.1,(Bool.true,())))))) (
 opt.ret _ (b1.1,(b1.2.2.2.2.2.1,(b1.2.2.2.2.2.2.1,(b1.2.2.2.2.2.2.2.1,((p.cmp .gtr (p.ar .sub .i64 (0:Int) (p.ar .sub .i64 (p.ar .add .i64 c1.1 d1.1) e1.1)) b1.2.2.2.2.1),())))))))) fun f1=>
 opt.ask _ f1.2.2.2.2.1 (
 opt.ret _ (Sum.inl (f1.2.1,((23:Int),())))) (
 opt.ret _ (Sum.inr (f1.1,(f1.2.2.1,(f1.2.2.2.1,())))))) (
 opt.ret _ (Sum.inr (b1.1,(b1.2.2.2.2.2.2.1,(b1.2.2.2.2.2.2.2.1,()))))))) (fun g1=>
 opt.ret _ (g1.1,(g1.2.1,()))) (fun h1=>
 opt.bnd ((LD×(Nat×(Nat×Unit)))) _ (some h1) fun i1=>
 opt.need _ (p.leN (p.add i1.2.1 i1.2.2.1) (p.len i1.1))<|
 opt.ret _ ((p.cut i1.1 i1.2.1 i1.2.2.1),((0:Int),()))))))))) (
 opt.need _ (p.and Bool.true (p.and (p.leN (p.add 0 0) (p.len [])) (p.and (p.leN 1 (p.len x.1)) (p.leN (p.add 0 (p.len x.1)) 1000000))))<|
 opt.need _ (p.rowOk x.2.2.2.1 (p.nat (0:Int)) [ci])<|
 opt.alt ((LD×(Int×Unit))) ((LD×(Int×(Int×(LD×(Int×(LD×(Nat×(Nat×(Int×Unit)))))))))) _ (
 opt.run (((LD×(Int×Unit))⊕(LD×(Int×(Int×(LD×(Int×(LD×(Nat×(Nat×(Int×Unit))))))))))) (
 opt.ask _ (p.cmp .eql x.2.2.1 (1:Int)) (
 opt.need _ (p.and (p.leN (p.add 0 (p.add 0 (p.len x.1))) (p.len (p.app (p.cut [] 0 0) x.1))) (p.and Bool.true Bool.true))<|
 opt.bnd ((Int×Unit)) _ (G111 p ((p.cut (p.app (p.cut [] 0 0) x.1) 0 (p.add 0 (p.len x.1))),((p.rdI x.2.2.2.1 (p.nat (0:Int)) 0),()))) fun j1=>
 opt.ask _ (p.cmp .geq j1.1 (0:Int)) (
 opt.ret _ (Sum.inl (x.1,((11:Int),())))) (
 opt.need _ (p.and (p.leN (p.add 0 1) (p.len [[(D.int .i64 (p.rdI x.2.2.2.1 (p.nat (0:Int)) 0)),(D.int .i64 x.2.2.2.2.1),(D.int .i64 (0:Int)),(D.bool Bool.false)]])) (p.and (p.leN (p.add 0 (p.add 0 (p.len x.1))) (p.len (p.app (p.cut [] 0 0) x.1))) (p.and (p.leN 1 1) (p.leN (p.add (p.add 0 (p.len x.1)) 1) 1000000))))<|
 opt.need _ (p.leN (p.add 0 (p.add (p.add 0 (p.len x.1)) 1)) (p.len (p.app (p.cut (p.app (p.cut [] 0 0) x.1) 0 (p.add 0 (p.len x.1))) (p.cut [[(D.int .i64 (p.rdI x.2.2.2.1 (p.nat (0:Int)) 0)),(D.int .i64 x.2.2.2.2.1),(D.int .i64 (0:Int)),(D.bool Bool.false)]] 0 1))))<|
 opt.ret _ (Sum.inl ((p.cut (p.app (p.cut (p.app (p.cut [] 0 0) x.1) 0 (p.add 0 (p.len x.1))) (p.cut [[(D.int .i64 (p.rdI x.2.2.2.1 (p.nat (0:Int)) 0)),(D.int .i64 x.2.2.2.2.1),(D.int .i64 (0:Int)),(D.bool Bool.false)]] 0 1)) 0 (p.add (p.add 0 (p.len x.1)) 1)),((0:Int),()))))) (
 opt.ret _ (Sum.inr ((p.app (p.cut [] 0 0) x.1),(x.2.1,(x.2.2.1,(x.2.2.2.1,(x.2.2.2.2.1,(x.1,(0,((p.add 0 (p.len x.1)),((p.rdI x.2.2.2.1 (p.nat (0:Int)) 0),()))))))))))))) (fun k1=>
 opt.ret _ (k1.1,(k1.2.1,()))) (fun l1=>
 opt.bnd ((LD×(Int×(Int×(LD×(Int×(LD×(Nat×(Nat×(Int×Unit)))))))))) _ (some l1) fun m1=>
 opt.bnd ((LD×(Int×(Int×(LD×(Int×(LD×(Nat×(Nat×(Int×(Int×(Bool×Unit)))))))))))) _ (
 opt.run ((LD×(Int×(Int×(LD×(Int×(LD×(Nat×(Nat×(Int×(Int×(Bool×Unit)))))))))))) (
 opt.ask _ (p.cmp .eql m1.2.2.1 (3:Int)) (
 opt.ret _ (m1.1,(m1.2.1,(m1.2.2.1,(m1.2.2.2.1,(m1.2.2.2.2.1,(m1.2.2.2.2.2.1,(m1.2.2.2.2.2.2.1,(m1.2.2.2.2.2.2.2.1,(m1.2.2.2.2.2.2.2.2.1,((1:Int),(Bool.true,())))))))))))) (
 opt.ret _ (m1.1,(m1.2.1,(m1.2.2.1,(m1.2.2.2.1,(m1.2.2.2.2.1,(m1.2.2.2.2.2.1,(m1.2.2.2.2.2.2.1,(m1.2.2.2.2.2.2.2.1,(m1.2.2.2.2.2.2.2.2.1,((1:Int),((p.cmp .eql m1.2.2.1 (6:Int)),())))))))))))))) fun n1=>
 opt.bnd ((LD×(Int×(Int×(LD×(Int×(LD×(Nat×(Nat×(Int×(Int×Unit))))))))))) _ (
 opt.run ((LD×(Int×(Int×(LD×(Int×(LD×(Nat×(Nat×(Int×(Int×Unit))))))))))) (
 opt.ask _ n1.2.2.2.2.2.2.2.2.2.2.1 (
 opt.ret _ (n1.1,(n1.2.1,(n1.2.2.1,(n1.2.2.2.1,(n1.2.2.2.2.1,(n1.2.2.2.2.2.1,(n1.2.2.2.2.2.2.1,(n1.2.2.2.2.2.2.2.1,(n1.2.2.2.2.2.2.2.2.1,((p.ofNat (p.len n1.2.2.2.1)),()))))))))))) (
 opt.ret _ (n1.1,(n1.2.1,(n1.2.2.1,(n1.2.2.2.1,(n1.2.2.2.2.1,(n1.2.2.2.2.2.1,(n1.2.2.2.2.2.2.1,(n1.2.2.2.2.2.2.2.1,(n1.2.2.2.2.2.2.2.2.1,(n1.2.2.2.2.2.2.2.2.2.1,()))))))))))))) fun o1=>
 opt.alt ((LD×(Int×Unit))) ((LD×(Int×(Int×(LD×(Int×(LD×(Nat×(Nat×(Int×Unit)))))))))) _ (
 z6j (b62_2 p) (o1.1,(o1.2.1,(o1.2.2.1,(o1.2.2.2.1,(o1.2.2.2.2.1,(o1.2.2.2.2.2.1,(o1.2.2.2.2.2.2.1,(o1.2.2.2.2.2.2.2.1,(o1.2.2.2.2.2.2.2.2.1,(o1.2.2.2.2.2.2.2.2.2.1,((0:Int),())))))))))))) (fun q1=>
 opt.ret _ (q1.1,(q1.2.1,()))) (fun r1=>
 opt.bnd ((LD×(Int×(Int×(LD×(Int×(LD×(Nat×(Nat×(Int×Unit)))))))))) _ (some r1) fun t1=>
 opt.need _ (p.and (p.leN (p.add t1.2.2.2.2.2.2.1 t1.2.2.2.2.2.2.2.1) (p.len t1.1)) (p.and Bool.true Bool.true))<|
 opt.bnd ((Int×Unit)) _ (G111 p ((p.cut t1.1 t1.2.2.2.2.2.2.1 t1.2.2.2.2.2.2.2.1),(t1.2.2.2.2.2.2.2.2.1,()))) fun u1=>
 opt.alt ((LD×(Int×Unit))) ((LD×(Int×(Int×(LD×(Int×(LD×(Nat×(Nat×(Int×(Int×Unit))))))))))) _ (
 opt.run (((LD×(Int×Unit))⊕(LD×(Int×(Int×(LD×(Int×(LD×(Nat×(Nat×(Int×(Int×Unit)))))))))))) (
 opt.ask _ (p.cmp .eql t1.2.2.1 (2:Int)) (
 opt.need _ (bif (p.cmp .geq u1.1 (0:Int)) then (p.cmp .lss u1.1 (p.ofNat t1.2.2.2.2.2.2.2.1)) else Bool.false)<|
 opt.need _ (p.rowOk t1.1 (p.add t1.2.2.2.2.2.2.1 (p.nat u1.1)) [ci,ci,ci,CK.bool])<|
 opt.ask _ (p.cmp .gtr (p.ar .add .i64 (p.rdI t1.1 (p.add t1.2.2.2.2.2.2.1 (p.nat u1.1)) 2) t1.2.2.2.2.1) (10000:Int)) (
 opt.ret _ (Sum.inl (t1.2.2.2.2.2.1,((4:Int),())))) (
 opt.need _ (bif (p.cmp .geq u1.1 (0:Int)) then (p.cmp .lss u1.1 (p.ofNat t1.2.2.2.2.2.2.2.1)) else Bool.false)<|
 opt.need _ (p.rowOk t1.1 (p.add t1.2.2.2.2.2.2.1 (p.nat u1.1)) [ci,ci,ci,CK.bool])<|
 opt.need _ (bif (p.cmp .geq u1.1 (0:Int)) then (p.cmp .lss u1.1 (p.ofNat t1.2.2.2.2.2.2.2.1)) else Bool.false)<|
 opt.need _ (p.rowOk t1.1 (p.add t1.2.2.2.2.2.2.1 (p.nat u1.1)) [ci,ci,ci,CK.bool])<|
 opt.ret _ (Sum.inr ((p.set t1.1 (p.add t1.2.2.2.2.2.2.1 (p.nat u1.1)) [(D.int .i64 (p.rdI t1.1 (p.add t1.2.2.2.2.2.2.1 (p.nat u1.1)) 0)),(D.int .i64 (p.rdI t1.1 (p.add t1.2.2.2.2.2.2.1 (p.nat u1.1)) 1)),(D.int .i64 (p.ar .add .i64 (p.rdI t1.1 (p.add t1.2.2.2.2.2.2.1 (p.nat u1.1)) 2) t1.2.2.2.2.1)),(D.bool (p.rdB t1.1 (p.add t1.2.2.2.2.2.2.1 (p.nat u1.1)) 3))]),(t1.2.1,(t1.2.2.1,(t1.2.2.2.1,(t1.2.2.2.2.1,(t1.2.2.2.2.2.1,(t1.2.2.2.2.2.2.1,(t1.2.2.2.2.2.2.2.1,(t1.2.2.2.2.2.2.2.2.1,(u1.1,()))))))))))))) (
 opt.ret _ (Sum.inr (t1.1,(t1.2.1,(t1.2.2.1,(t1.2.2.2.1,(t1.2.2.2.2.1,(t1.2.2.2.2.2.1,(t1.2.2.2.2.2.2.1,(t1.2.2.2.2.2.2.2.1,(t1.2.2.2.2.2.2.2.2.1,(u1.1,())))))))))))))) (fun v1=>
 opt.ret _ (v1.1,(v1.2.1,()))) (fun w1=>
 opt.bnd ((LD×(Int×(Int×(LD×(Int×(LD×(Nat×(Nat×(Int×(Int×Unit))))))))))) _ (some w1) fun z1=>
 opt.alt ((LD×(Int×Unit))) ((LD×(Int×(Int×(LD×(Int×(LD×(Nat×(Nat×(Int×(Int×Unit))))))))))) _ (
 opt.run (((LD×(Int×Unit))⊕(LD×(Int×(Int×(LD×(Int×(LD×(Nat×(Nat×(Int×(Int×Unit)))))))))))) (
 opt.ask _ (p.cmp .eql z1.2.2.1 (3:Int)) (
 opt.need _ (p.rowOk z1.2.2.2.1 (p.nat (1:Int)) [ci])<|
 opt.need _ (p.and (p.leN (p.add z1.2.2.2.2.2.2.1 z1.2.2.2.2.2.2.2.1) (p.len z1.1)) (p.and Bool.true Bool.true))<|
 opt.bnd ((Int×Unit)) _ (G113 p ((p.cut z1.1 z1.2.2.2.2.2.2.1 z1.2.2.2.2.2.2.2.1),((p.rdI z1.2.2.2.1 (p.nat (1:Int)) 0),()))) fun a2=>
 opt.need _ (p.cmp .neq (1000:Int) (0:Int))<|
 opt.bnd ((LD×(Int×(Int×(LD×(Int×(LD×(Nat×(Nat×(Int×(Int×(Int×(Bool×Unit))))))))))))) _ (
 opt.run ((LD×(Int×(Int×(LD×(Int×(LD×(Nat×(Nat×(Int×(Int×(Int×(Bool×Unit))))))))))))) (
 opt.ask _ (p.cmp .lss (p.ar .quo .i64 (p.ar .mul .i64 a2.1 z1.2.2.2.2.1) (1000:Int)) (1:Int)) (
 opt.ret _ (z1.1,(z1.2.1,(z1.2.2.1,(z1.2.2.2.1,(z1.2.2.2.2.1,(z1.2.2.2.2.2.1,(z1.2.2.2.2.2.2.1,(z1.2.2.2.2.2.2.2.1,(z1.2.2.2.2.2.2.2.2.1,(z1.2.2.2.2.2.2.2.2.2.1,((p.ar .quo .i64 (p.ar .mul .i64 a2.1 z1.2.2.2.2.1) (1000:Int)),(Bool.true,()))))))))))))) (
 opt.ret _ (z1.1,(z1.2.1,(z1.2.2.1,(z1.2.2.2.1,(z1.2.2.2.2.1,(z1.2.2.2.2.2.1,(z1.2.2.2.2.2.2.1,(z1.2.2.2.2.2.2.2.1,(z1.2.2.2.2.2.2.2.2.1,(z1.2.2.2.2.2.2.2.2.2.1,((p.ar .quo .i64 (p.ar .mul .i64 a2.1 z1.2.2.2.2.1) (1000:Int)),((p.cmp .gtr (p.ar .quo .i64 (p.ar .mul .i64 a2.1 z1.2.2.2.2.1) (1000:Int)) (1000000:Int)),()))))))))))))))) fun b2=>
 opt.ask _ b2.2.2.2.2.2.2.2.2.2.2.2.1 (
 opt.ret _ (Sum.inl (b2.2.2.2.2.2.1,((4:Int),())))) (
 opt.need _ (bif (p.cmp .geq b2.2.2.2.2.2.2.2.2.2.1 (0:Int)) then (p.cmp .lss b2.2.2.2.2.2.2.2.2.2.1 (p.ofNat b2.2.2.2.2.2.2.2.1)) else Bool.false)<|
 opt.need _ (p.rowOk b2.1 (p.add b2.2.2.2.2.2.2.1 (p.nat b2.2.2.2.2.2.2.2.2.2.1)) [ci,ci,ci,CK.bool])<|
 opt.ret _ (Sum.inr ((p.set b2.1 (p.add b2.2.2.2.2.2.2.1 (p.nat b2.2.2.2.2.2.2.2.2.2.1)) [(D.int .i64 (p.rdI b2.1 (p.add b2.2.2.2.2.2.2.1 (p.nat b2.2.2.2.2.2.2.2.2.2.1)) 0)),(D.int .i64 b2.2.2.2.2.2.2.2.2.2.2.1),(D.int .i64 (p.rdI b2.1 (p.add b2.2.2.2.2.2.2.1 (p.nat b2.2.2.2.2.2.2.2.2.2.1)) 2)),(D.bool (p.rdB b2.1 (p.add b2.2.2.2.2.2.2.1 (p.nat b2.2.2.2.2.2.2.2.2.2.1)) 3))]),(b2.2.1,(b2.2.2.1,(b2.2.2.2.1,(b2.2.2.2.2.1,(b2.2.2.2.2.2.1,(b2.2.2.2.2.2.2.1,(b2.2.2.2.2.2.2.2.1,(b2.2.2.2.2.2.2.2.2.1,(b2.2.2.2.2.2.2.2.2.2.1,()))))))))))))) (
 opt.ret _ (Sum.inr (z1.1,(z1.2.1,(z1.2.2.1,(z1.2.2.2.1,(z1.2.2.2.2.1,(z1.2.2.2.2.2.1,(z1.2.2.2.2.2.2.1,(z1.2.2.2.2.2.2.2.1,(z1.2.2.2.2.2.2.2.2.1,(z1.2.2.2.2.2.2.2.2.2.1,())))))))))))))) (fun c2=>
 opt.ret _ (c2.1,(c2.2.1,()))) (fun d2=>
 opt.bnd ((LD×(Int×(Int×(LD×(Int×(LD×(Nat×(Nat×(Int×(Int×Unit))))))))))) _ (some d2) fun e2=>
 opt.alt ((LD×(Int×Unit))) ((LD×(Int×(Int×(LD×(Int×(LD×(Nat×(Nat×(Int×(Int×Unit))))))))))) _ (
 opt.run (((LD×(Int×Unit))⊕(LD×(Int×(Int×(LD×(Int×(LD×(Nat×(Nat×(Int×(Int×Unit)))))))))))) (
 opt.ask _ (p.cmp .eql e2.2.2.1 (4:Int)) (
 opt.need _ (p.rowOk e2.2.2.2.1 (p.nat (1:Int)) [ci])<|
 opt.need _ (p.and (p.leN (p.add e2.2.2.2.2.2.2.1 e2.2.2.2.2.2.2.2.1) (p.len e2.1)) (p.and Bool.true Bool.true))<|
 opt.bnd ((Int×Unit)) _ (G111 p ((p.cut e2.1 e2.2.2.2.2.2.2.1 e2.2.2.2.2.2.2.2.1),((p.rdI e2.2.2.2.1 (p.nat (1:Int)) 0),()))) fun f2=>
 opt.ask _ (p.cmp .geq f2.1 (0:Int)) (
 opt.ret _ (Sum.inl (e2.2.2.2.2.2.1,((11:Int),())))) (
 opt.need _ (bif (p.cmp .geq e2.2.2.2.2.2.2.2.2.2.1 (0:Int)) then (p.cmp .lss e2.2.2.2.2.2.2.2.2.2.1 (p.ofNat e2.2.2.2.2.2.2.2.1)) else Bool.false)<|
 opt.need _ (p.rowOk e2.1 (p.add e2.2.2.2.2.2.2.1 (p.nat e2.2.2.2.2.2.2.2.2.2.1)) [ci,ci,ci,CK.bool])<|
 opt.need _ (p.rowOk e2.2.2.2.1 (p.nat (1:Int)) [ci])<|
 opt.need _ (p.and (p.leN (p.add e2.2.2.2.2.2.2.1 e2.2.2.2.2.2.2.2.1) (p.len (p.set e2.1 (p.add e2.2.2.2.2.2.2.1 (p.nat e2.2.2.2.2.2.2.2.2.2.1)) [(D.int .i64 (p.rdI e2.1 (p.add e2.2.2.2.2.2.2.1 (p.nat e2.2.2.2.2.2.2.2.2.2.1)) 0)),(D.int .i64 (p.rdI e2.1 (p.add e2.2.2.2.2.2.2.1 (p.nat e2.2.2.2.2.2.2.2.2.2.1)) 1)),(D.int .i64 (p.rdI e2.1 (p.add e2.2.2.2.2.2.2.1 (p.nat e2.2.2.2.2.2.2.2.2.2.1)) 2)),(D.bool Bool.true)]))) (p.and Bool.true Bool.true))<|
 opt.bnd ((Int×Unit)) _ (G113 p ((p.cut (p.set e2.1 (p.add e2.2.2.2.2.2.2.1 (p.nat e2.2.2.2.2.2.2.2.2.2.1)) [(D.int .i64 (p.rdI e2.1 (p.add e2.2.2.2.2.2.2.1 (p.nat e2.2.2.2.2.2.2.2.2.2.1)) 0)),(D.int .i64 (p.rdI e2.1 (p.add e2.2.2.2.2.2.2.1 (p.nat e2.2.2.2.2.2.2.2.2.2.1)) 1)),(D.int .i64 (p.rdI e2.1 (p.add e2.2.2.2.2.2.2.1 (p.nat e2.2.2.2.2.2.2.2.2.2.1)) 2)),(D.bool Bool.true)]) e2.2.2.2.2.2.2.1 e2.2.2.2.2.2.2.2.1),(e2.2.2.2.2.2.2.2.2.1,()))) fun g2=>
 opt.need _ (p.and (p.leN (p.add 0 1) (p.len [[(D.int .i64 (p.rdI e2.2.2.2.1 (p.nat (1:Int)) 0)),(D.int .i64 g2.1),(D.int .i64 (0:Int)),(D.bool Bool.false)]])) (p.and (p.leN (p.add e2.2.2.2.2.2.2.1 e2.2.2.2.2.2.2.2.1) (p.len (p.set e2.1 (p.add e2.2.2.2.2.2.2.1 (p.nat e2.2.2.2.2.2.2.2.2.2.1)) [(D.int .i64 (p.rdI e2.1 (p.add e2.2.2.2.2.2.2.1 (p.nat e2.2.2.2.2.2.2.2.2.2.1)) 0)),(D.int .i64 (p.rdI e2.1 (p.add e2.2.2.2.2.2.2.1 (p.nat e2.2.2.2.2.2.2.2.2.2.1)) 1)),(D.int .i64 (p.rdI e2.1 (p.add e2.2.2.2.2.2.2.1 (p.nat e2.2.2.2.2.2.2.2.2.2.1)) 2)),(D.bool Bool.true)]))) (p.and (p.leN 1 1) (p.leN (p.add e2.2.2.2.2.2.2.2.1 1) 1000000))))<|
 opt.need _ (p.leN (p.add 0 (p.add e2.2.2.2.2.2.2.2.1 1)) (p.len (p.app (p.cut (p.set e2.1 (p.add e2.2.2.2.2.2.2.1 (p.nat e2.2.2.2.2.2.2.2.2.2.1)) [(D.int .i64 (p.rdI e2.1 (p.add e2.2.2.2.2.2.2.1 (p.nat e2.2.2.2.2.2.2.2.2.2.1)) 0)),(D.int .i64 (p.rdI e2.1 (p.add e2.2.2.2.2.2.2.1 (p.nat e2.2.2.2.2.2.2.2.2.2.1)) 1)),(D.int .i64 (p.rdI e2.1 (p.add e2.2.2.2.2.2.2.1 (p.nat e2.2.2.2.2.2.2.2.2.2.1)) 2)),(D.bool Bool.true)]) e2.2.2.2.2.2.2.1 e2.2.2.2.2.2.2.2.1) (p.cut [[(D.int .i64 (p.rdI e2.2.2.2.1 (p.nat (1:Int)) 0)),(D.int .i64 g2.1),(D.int .i64 (0:Int)),(D.bool Bool.false)]] 0 1))))<|
 opt.ret _ (Sum.inl ((p.cut (p.app (p.cut (p.set e2.1 (p.add e2.2.2.2.2.2.2.1 (p.nat e2.2.2.2.2.2.2.2.2.2.1)) [(D.int .i64 (p.rdI e2.1 (p.add e2.2.2.2.2.2.2.1 (p.nat e2.2.2.2.2.2.2.2.2.2.1)) 0)),(D.int .i64 (p.rdI e2.1 (p.add e2.2.2.2.2.2.2.1 (p.nat e2.2.2.2.2.2.2.2.2.2.1)) 1)),(D.int .i64 (p.rdI e2.1 (p.add e2.2.2.2.2.2.2.1 (p.nat e2.2.2.2.2.2.2.2.2.2.1)) 2)),(D.bool Bool.true)]) e2.2.2.2.2.2.2.1 e2.2.2.2.2.2.2.2.1) (p.cut [[(D.int .i64 (p.rdI e2.2.2.2.1 (p.nat (1:Int)) 0)),(D.int .i64 g2.1),(D.int .i64 (0:Int)),(D.bool Bool.false)]] 0 1)) 0 (p.add e2.2.2.2.2.2.2.2.1 1)),((0:Int),()))))) (
 opt.ret _ (Sum.inr (e2.1,(e2.2.1,(e2.2.2.1,(e2.2.2.2.1,(e2.2.2.2.2.1,(e2.2.2.2.2.2.1,(e2.2.2.2.2.2.2.1,(e2.2.2.2.2.2.2.2.1,(e2.2.2.2.2.2.2.2.2.1,(e2.2.2.2.2.2.2.2.2.2.1,())))))))))))))) (fun h2=>
 opt.ret _ (h2.1,(h2.2.1,()))) (fun i2=>
 opt.bnd ((LD×(Int×(Int×(LD×(Int×(LD×(Nat×(Nat×(Int×(Int×Unit))))))))))) _ (some i2) fun j2=>
 opt.bnd ((LD×(Int×(Int×(LD×(Int×(LD×(Nat×(Nat×(Int×Unit)))))))))) _ (
 opt.run ((LD×(Int×(Int×(LD×(Int×(LD×(Nat×(Nat×(Int×Unit)))))))))) (
 opt.ask _ (p.cmp .eql j2.2.2.1 (5:Int)) (
 opt.need _ (bif (p.cmp .geq j2.2.2.2.2.2.2.2.2.2.1 (0:Int)) then (p.cmp .lss j2.2.2.2.2.2.2.2.2.2.1 (p.ofNat j2.2.2.2.2.2.2.2.1)) else Bool.false)<|
 opt.need _ (p.rowOk j2.1 (p.add j2.2.2.2.2.2.2.1 (p.nat j2.2.2.2.2.2.2.2.2.2.1)) [ci,ci,ci,CK.bool])<|
 opt.ret _ ((p.set j2.1 (p.add j2.2.2.2.2.2.2.1 (p.nat j2.2.2.2.2.2.2.2.2.2.1)) [(D.int .i64 (p.rdI j2.1 (p.add j2.2.2.2.2.2.2.1 (p.nat j2.2.2.2.2.2.2.2.2.2.1)) 0)),(D.int .i64 (p.rdI j2.1 (p.add j2.2.2.2.2.2.2.1 (p.nat j2.2.2.2.2.2.2.2.2.2.1)) 1)),(D.int .i64 (p.rdI j2.1 (p.add j2.2.2.2.2.2.2.1 (p.nat j2.2.2.2.2.2.2.2.2.2.1)) 2)),(D.bool Bool.true)]),(j2.2.1,(j2.2.2.1,(j2.2.2.2.1,(j2.2.2.2.2.1,(j2.2.2.2.2.2.1,(j2.2.2.2.2.2.2.1,(j2.2.2.2.2.2.2.2.1,(j2.2.2.2.2.2.2.2.2.1,())))))))))) (
 opt.ret _ (j2.1,(j2.2.1,(j2.2.2.1,(j2.2.2.2.1,(j2.2.2.2.2.1,(j2.2.2.2.2.2.1,(j2.2.2.2.2.2.2.1,(j2.2.2.2.2.2.2.2.1,(j2.2.2.2.2.2.2.2.2.1,())))))))))))) fun k2=>
 opt.alt ((LD×(Int×Unit))) ((LD×(Nat×(Nat×Unit)))) _ (
 opt.run (((LD×(Int×Unit))⊕(LD×(Nat×(Nat×Unit))))) (
 opt.ask _ (p.cmp .eql k2.2.2.1 (6:Int)) (
 opt.need _ (p.and (p.leN (p.add k2.2.2.2.2.2.2.1 k2.2.2.2.2.2.2.2.1) (p.len k2.1)) (p.and Bool.true Bool.true))<|
 opt.bnd ((Int×Unit)) _ (G113 p ((p.cut k2.1 k2.2.2.2.2.2.2.1 k2.2.2.2.2.2.2.2.1),(k2.2.2.2.2.2.2.2.2.1,()))) fun l2=>
 opt.need _ (p.rowOk k2.2.2.2.1 (p.nat (1:Int)) [ci])<|
 opt.need _ (p.and (p.leN (p.add k2.2.2.2.2.2.2.1 k2.2.2.2.2.2.2.2.1) (p.len k2.1)) (p.and Bool.true Bool.true))<|
 opt.bnd ((Int×Unit)) _ (G113 p ((p.cut k2.1 k2.2.2.2.2.2.2.1 k2.2.2.2.2.2.2.2.1),((p.rdI k2.2.2.2.1 (p.nat (1:Int)) 0),()))) fun m2=>
 opt.need _ (p.rowOk k2.2.2.2.1 (p.nat (2:Int)) [ci])<|
 opt.need _ (p.and (p.leN (p.add k2.2.2.2.2.2.2.1 k2.2.2.2.2.2.2.2.1) (p.len k2.1)) (p.and Bool.true Bool.true))<|
 opt.bnd ((Int×Unit)) _ (G113 p ((p.cut k2.1 k2.2.2.2.2.2.2.1 k2.2.2.2.2.2.2.2.1),((p.rdI k2.2.2.2.1 (p.nat (2:Int)) 0),()))) fun n2=>
 opt.bnd ((LD×(LD×(Nat×(Nat×(Bool×Unit)))))) _ (
 opt.run ((LD×(LD×(Nat×(Nat×(Bool×Unit)))))) (
 opt.ask _ (p.cmp .gtr (p.ar .sub .i64 (p.ar .add .i64 l2.1 m2.1) n2.1) k2.2.2.2.2.1) (
 opt.ret _ (k2.1,(k2.2.2.2.2.2.1,(k2.2.2.2.2.2.2.1,(k2.2.2.2.2.2.2.2.1,(Bool.true,())))))) (
 opt.ret _ (k2.1,(k2.2.2.2.2.2.1,(k2.2.2.2.2.2.2.1,(k2.2.2.2.2.2.2.2.1,((p.cmp .gtr (p.ar .sub .i64 (0:Int) (p.ar .sub .i64 (p.ar .add .i64 l2.1 m2.1) n2.1)) k2.2.2.2.2.1),())))))))) fun o2=>
 opt.ask _ o2.2.2.2.2.1 (
 opt.ret _ (Sum.inl (o2.2.1,((23:Int),())))) (
 opt.ret _ (Sum.inr (o2.1,(o2.2.2.1,(o2.2.2.2.1,())))))) (
 opt.ret _ (Sum.inr (k2.1,(k2.2.2.2.2.2.2.1,(k2.2.2.2.2.2.2.2.1,()))))))) (fun q2=>
 opt.ret _ (q2.1,(q2.2.1,()))) (fun r2=>
 opt.bnd ((LD×(Nat×(Nat×Unit)))) _ (some r2) fun t2=>
 opt.need _ (p.leN (p.add t2.2.1 t2.2.2.1) (p.len t2.1))<|
 opt.ret _ ((p.cut t2.1 t2.2.1 t2.2.2.1),((0:Int),())))))))))
def F62:z0n→Tup (ctr62).scs→Option (z6k (z6i (ctr62).outs)):=
 fun p x=>G62 p x
theorem eq62 (p:z0n) (x:Tup (ctr62).scs):z2r opt p (z0r [] Go.Proofs.Tryz.prog) (z6d opt p (z0r [] Go.Proofs.Tryz.prog) 400 (an62) la62) 400 ctr62 x=G62 p x:=by kernel_rfl
theorem gok62:z5q Go.Proofs.Tryz.prog (gam62):=by
 intro cf h
 simp only [gam62,List.mem_cons,List.not_mem_nil,or_false] at h
 rcases h with rfl|rfl|rfl
 ·exact ok113
 ·exact ok112
 ·exact ok111
theorem enters62:z1m Go.Proofs.Tryz.prog 62:=z0v (b:=_) rfl (by kernel_rfl)
theorem ok62:z27 Go.Proofs.Tryz.prog ctr62 (F62 std):=z0w (z0h z0c) (z1v (z0h z0c) gok62 _) enters62 (fun x=>eq62 std x)
def ctr22:Ctr:=
 ⟨22,[.list 4],[],[(.ret,⟨[(0, .tuple [.vec 0 1, .int .i64])],[.row [ci]],1⟩)]⟩
def la22:List LA:=
 [⟨22,[false,true,false,true,true,true,true],0,⟨⟨[(0, .list 4),(4, .list 4),(5, .vec 0 1),(6, .int .i64)],[.row [ci]],35⟩,[((AX.exit 0),⟨[(5, .vec 0 1)],[.row [ci]],35⟩)]⟩⟩]
def ja22:List JA:=
 []
def gam22:List CF:=
 [⟨ctr62,F62⟩,⟨x7c,F20⟩]
def an22:y5o:=
 ⟨gam22,ja22,[]⟩
def b22_1 (p:z0n):(LD×(LD×(LD×(Int×Unit))))→Option ((LD×(LD×(LD×(Int×Unit))))⊕(LD×Unit)):=
 fun a=>opt.run _ (
 opt.ask _ (p.cmp .lss a.2.2.2.1 (p.ofNat (p.len a.2.1))) (
 opt.need _ (p.rowOk a.2.1 (p.nat a.2.2.2.1) [ci,ci,(CK.list 1),ci])<|
 opt.need _ (p.cmp .geq a.2.2.2.1 (0:Int))<|
 opt.bnd ((LD×(Int×Unit))) _ (G62 p (a.2.2.1,((p.rdI a.2.1 (p.nat a.2.2.2.1) 0),((p.rdI a.2.1 (p.nat a.2.2.2.1) 1),((p.rdL a.2.1 (p.nat a.2.2.2.1) 2),((p.rdI a.2.1 (p.nat a.2.2.2.1) 3),())))))) fun b=>
 opt.need _ (p.and (p.leN (p.add 0 1) (p.len [[(D.int .i64 b.2.1)]])) (p.and (p.leN (p.add 0 (p.len a.1)) (p.len a.1)) (p.and (p.leN 1 1) (p.leN (p.add (p.len a.1) 1) 1000000))))<|
 opt.need _ (p.eqN 0 0)<|
 opt.need _ (p.eqN (p.add (p.len a.1) 1) (p.len (p.app (p.cut a.1 0 (p.len a.1)) (p.cut [[(D.int .i64 b.2.1)]] 0 1))))<|
 opt.ret _ (Sum.inl ((p.app (p.cut a.1 0 (p.len a.1)) (p.cut [[(D.int .i64 b.2.1)]] 0 1)),(a.2.1,(b.1,((p.ar .add .i64 a.2.2.2.1 (1:Int)),())))))) (
 opt.need _ (p.eqN 0 0)<|
 opt.need _ (p.eqN (p.len a.1) (p.len a.1))<|
 opt.ret _ (Sum.inr (a.1,()))))
def G22:(p:z0n)→(LD×Unit)→Option ((LD×(Int×Unit))):=
 fun p x=>
 opt.bnd ((Int×Unit)) _ (G20 p (x.1,())) fun a=>
 opt.ask _ (p.cmp .neq a.1 (0:Int)) (
 opt.bnd ((Int×Unit)) _ (G20 p (x.1,())) fun b=>
 opt.ret _ ([],(b.1,()))) (
 opt.bnd ((LD×Unit)) _ (
 z6j (b22_1 p) ([],(x.1,([],((0:Int),()))))) fun c=>
 opt.need _ (p.eqN 0 0)<|
 opt.need _ (p.eqN (p.len c.1) (p.len c.1))<|
 opt.ret _ (c.1,((0:Int),())))
def F22:z0n→Tup (ctr22).scs→Option (z6k (z6i (ctr22).outs)):=
 fun p x=>G22 p x
theorem eq22 (p:z0n) (x:Tup (ctr22).scs):z2r opt p (z0r [] Go.Proofs.Tryz.prog) (z6d opt p (z0r [] Go.Proofs.Tryz.prog) 400 (an22) la22) 400 ctr22 x=G22 p x:=by kernel_rfl
theorem gok22:z5q Go.Proofs.Tryz.prog (gam22):=by
 intro cf h
 simp only [gam22,List.mem_cons,List.not_mem_nil,or_false] at h
 rcases h with rfl|rfl
 ·exact ok62
 ·exact ok20
theorem enters22:z1m Go.Proofs.Tryz.prog 22:=z0v (b:=_) rfl (by kernel_rfl)
theorem ok22:z27 Go.Proofs.Tryz.prog ctr22 (F22 std):=z0w (z0h z0c) (z1v (z0h z0c) gok22 _) enters22 (fun x=>eq22 std x)
def ctr24:Ctr:=
 ⟨24,[.list 4],[],[(.ret,⟨[(0, .tuple [.vec 0 4, .int .i64])],[.row [ci,ci,ci,CK.bool]],1⟩)]⟩
def la24:List LA:=
 [⟨24,[false,true,false,true,true,true],0,⟨⟨[(0, .list 4),(4, .list 4),(5, .int .i64)],[],82⟩,[((AX.exit 0),⟨[(4, .list 4)],[],82⟩)]⟩⟩,
 ⟨24,[false,false,true,true,true,true,true,true],0,⟨⟨[(4, .list 4),(8, .vec 0 4),(9, .int .i64)],[.row [ci,ci,ci,CK.bool]],82⟩,[((AX.exit 2),⟨[(8, .vec 0 4)],[.row [ci,ci,ci,CK.bool]],82⟩)]⟩⟩,
 ⟨24,[false,true,false,true,false,true,false,false,false,true,true,true,true,true,true],0,⟨⟨[(4, .list 4),(8, .vec 0 4),(9, .int .i64),(10, .int .i64),(11, .int .i64)],[.row [ci,ci,ci,CK.bool]],82⟩,[((AX.exit 4),⟨[(4, .list 4),(8, .vec 0 4),(10, .int .i64)],[.row [ci,ci,ci,CK.bool]],82⟩)]⟩⟩]
def ja24:List JA:=
 [⟨24,[false,true,false,false,true,false,true,false,true,false,false,false,true,true,true,true,true,true],0,[(AX.normal,⟨[(4, .list 4),(8, .vec 0 4),(9, .int .i64),(10, .int .i64),(11, .int .i64)],[.row [ci,ci,ci,CK.bool]],82⟩)]⟩,
 ⟨24,[true,false,false,true,false,false,true,false,true,false,true,false,false,false,true,true,true,true,true,true],0,[(AX.normal,⟨[(4, .list 4),(8, .vec 0 4),(9, .int .i64),(10, .int .i64),(11, .int .i64)],[.row [ci,ci,ci,CK.bool]],82⟩)]⟩]
def gam24:List CF:=
 [⟨ctr62,F62⟩,⟨x7c,F20⟩]
def an24:y5o:=
 ⟨gam24,ja24,[]⟩
def b24_3 (p:z0n):(LD×(LD×(Int×(Int×(Int×Unit)))))→Option ((LD×(LD×(Int×(Int×(Int×Unit)))))⊕(LD×(LD×(Int×Unit)))):=
 fun a=>opt.run _ (
 opt.ask _ (p.cmp .lss a.2.2.2.2.1 (p.ofNat (p.len a.2.1))) (
 opt.bnd ((LD×(LD×(Int×(Int×(Int×Unit)))))) _ (
 opt.run ((LD×(LD×(Int×(Int×(Int×Unit)))))) (
 opt.need _ (p.rowOk a.2.1 (p.nat a.2.2.2.2.1) [ci,ci,ci,CK.bool])<|
 opt.need _ (p.cmp .geq a.2.2.2.2.1 (0:Int))<|
 opt.ask _ (p.cmp .gtr (p.rdI a.2.1 (p.nat a.2.2.2.2.1) 0) a.2.2.1) (
 opt.ask _ (p.cmp .lss a.2.2.2.1 (0:Int)) (
 opt.bnd ((LD×(LD×(Int×(Int×(Int×Unit)))))) _ (
 opt.run ((LD×(LD×(Int×(Int×(Int×Unit)))))) (
 opt.need _ (p.eqN 0 0)<|
 opt.need _ (p.eqN (p.len a.1) (p.len a.1))<|
 opt.ret _ (a.1,(a.2.1,(a.2.2.1,(a.2.2.2.2.1,(a.2.2.2.2.1,()))))))) fun b=>
 opt.need _ (p.eqN 0 0)<|
 opt.need _ (p.eqN (p.len b.1) (p.len b.1))<|
 opt.ret _ (b.1,(b.2.1,(b.2.2.1,(b.2.2.2.1,(b.2.2.2.2.1,())))))) (
 opt.need _ (p.rowOk a.2.1 (p.nat a.2.2.2.2.1) [ci,ci,ci,CK.bool])<|
 opt.need _ (p.cmp .geq a.2.2.2.2.1 (0:Int))<|
 opt.need _ (p.rowOk a.2.1 (p.nat a.2.2.2.1) [ci,ci,ci,CK.bool])<|
 opt.need _ (p.cmp .geq a.2.2.2.1 (0:Int))<|
 opt.bnd ((LD×(LD×(Int×(Int×(Int×Unit)))))) _ (
 opt.run ((LD×(LD×(Int×(Int×(Int×Unit)))))) (
 opt.ask _ (p.cmp .lss (p.rdI a.2.1 (p.nat a.2.2.2.2.1) 0) (p.rdI a.2.1 (p.nat a.2.2.2.1) 0)) (
 opt.need _ (p.eqN 0 0)<|
 opt.need _ (p.eqN (p.len a.1) (p.len a.1))<|
 opt.ret _ (a.1,(a.2.1,(a.2.2.1,(a.2.2.2.2.1,(a.2.2.2.2.1,())))))) (
 opt.need _ (p.eqN 0 0)<|
 opt.need _ (p.eqN (p.len a.1) (p.len a.1))<|
 opt.ret _ (a.1,(a.2.1,(a.2.2.1,(a.2.2.2.1,(a.2.2.2.2.1,())))))))) fun c=>
 opt.need _ (p.eqN 0 0)<|
 opt.need _ (p.eqN (p.len c.1) (p.len c.1))<|
 opt.ret _ (c.1,(c.2.1,(c.2.2.1,(c.2.2.2.1,(c.2.2.2.2.1,()))))))) (
 opt.bnd ((LD×(LD×(Int×(Int×(Int×Unit)))))) _ (
 opt.run ((LD×(LD×(Int×(Int×(Int×Unit)))))) (
 opt.need _ (p.eqN 0 0)<|
 opt.need _ (p.eqN (p.len a.1) (p.len a.1))<|
 opt.ret _ (a.1,(a.2.1,(a.2.2.1,(a.2.2.2.1,(a.2.2.2.2.1,()))))))) fun d=>
 opt.need _ (p.eqN 0 0)<|
 opt.need _ (p.eqN (p.len d.1) (p.len d.1))<|
 opt.ret _ (d.1,(d.2.1,(d.2.2.1,(d.2.2.2.1,(d.2.2.2.2.1,())))))))) fun e=>
 opt.need _ (p.eqN 0 0)<|
 opt.need _ (p.eqN (p.len e.1) (p.len e.1))<|
 opt.ret _ (Sum.inl (e.1,(e.2.1,(e.2.2.1,(e.2.2.2.1,((p.ar .add .i64 e.2.2.2.2.1 (1:Int)),()))))))) (
 opt.need _ (p.eqN 0 0)<|
 opt.need _ (p.eqN (p.len a.1) (p.len a.1))<|
 opt.ret _ (Sum.inr (a.1,(a.2.1,(a.2.2.2.1,()))))))
def b24_2 (p:z0n):(LD×(LD×(Int×Unit)))→Option ((LD×(LD×(Int×Unit)))⊕(LD×Unit)):=
 fun a=>opt.run _ (
 opt.ask _ (p.cmp .lss (p.ofNat (p.len a.1)) (p.ofNat (p.len a.2.1))) (
 opt.need _ (p.eqN 0 0)<|
 opt.need _ (p.eqN (p.len a.1) (p.len a.1))<|
 opt.bnd ((LD×(LD×(Int×Unit)))) _ (
 z6j (b24_3 p) (a.1,(a.2.1,(a.2.2.1,((-1:Int),((0:Int),())))))) fun b=>
 opt.need _ (p.rowOk b.2.1 (p.nat b.2.2.1) [ci,ci,ci,CK.bool])<|
 opt.need _ (p.cmp .geq b.2.2.1 (0:Int))<|
 opt.need _ (p.and (p.leN (p.add 0 1) (p.len [[(D.int .i64 (p.rdI b.2.1 (p.nat b.2.2.1) 0)),(D.int .i64 (p.rdI b.2.1 (p.nat b.2.2.1) 1)),(D.int .i64 (p.rdI b.2.1 (p.nat b.2.2.1) 2)),(D.bool (p.rdB b.2.1 (p.nat b.2.2.1) 3))]])) (p.and (p.leN (p.add 0 (p.len b.1)) (p.len b.1)) (p.and (p.leN 1 1) (p.leN (p.add (p.len b.1) 1) 1000000))))<|
 opt.need _ (p.rowOk b.2.1 (p.nat b.2.2.1) [ci,ci,ci,CK.bool])<|
 opt.need _ (p.cmp .geq b.2.2.1 (0:Int))<|
 opt.need _ (p.eqN 0 0)<|
 opt.need _ (p.eqN (p.add (p.len b.1) 1) (p.len (p.app (p.cut b.1 0 (p.len b.1)) (p.cut [[(D.int .i64 (p.rdI b.2.1 (p.nat b.2.2.1) 0)),(D.int .i64 (p.rdI b.2.1 (p.nat b.2.2.1) 1)),(D.int .i64 (p.rdI b.2.1 (p.nat b.2.2.1) 2)),(D.bool (p.rdB b.2.1 (p.nat b.2.2.1) 3))]] 0 1))))<|
 opt.ret _ (Sum.inl ((p.app (p.cut b.1 0 (p.len b.1)) (p.cut [[(D.int .i64 (p.rdI b.2.1 (p.nat b.2.2.1) 0)),(D.int .i64 (p.rdI b.2.1 (p.nat b.2.2.1) 1)),(D.int .i64 (p.rdI b.2.1 (p.nat b.2.2.1) 2)),(D.bool (p.rdB b.2.1 (p.nat b.2.2.1) 3))]] 0 1)),(b.2.1,((p.rdI b.2.1 (p.nat b.2.2.1) 0),()))))) (
 opt.need _ (p.eqN 0 0)<|
 opt.need _ (p.eqN (p.len a.1) (p.len a.1))<|
 opt.ret _ (Sum.inr (a.1,()))))
def b24_1 (p:z0n):(LD×(LD×(Int×Unit)))→Option ((LD×(LD×(Int×Unit)))⊕(LD×Unit)):=
 fun a=>opt.run _ (
 opt.ask _ (p.cmp .lss a.2.2.1 (p.ofNat (p.len a.1))) (
 opt.need _ (p.rowOk a.1 (p.nat a.2.2.1) [ci,ci,(CK.list 1),ci])<|
 opt.need _ (p.cmp .geq a.2.2.1 (0:Int))<|
 opt.bnd ((LD×(Int×Unit))) _ (G62 p (a.2.1,((p.rdI a.1 (p.nat a.2.2.1) 0),((p.rdI a.1 (p.nat a.2.2.1) 1),((p.rdL a.1 (p.nat a.2.2.1) 2),((p.rdI a.1 (p.nat a.2.2.1) 3),())))))) fun b=>
 opt.ret _ (Sum.inl (a.1,(b.1,((p.ar .add .i64 a.2.2.1 (1:Int)),()))))) (
 opt.ret _ (Sum.inr (a.2.1,()))))
def G24:(p:z0n)→(LD×Unit)→Option ((LD×(Int×Unit))):=
 fun p x=>
 opt.bnd ((Int×Unit)) _ (G20 p (x.1,())) fun a=>
 opt.ask _ (p.cmp .neq a.1 (0:Int)) (
 opt.bnd ((Int×Unit)) _ (G20 p (x.1,())) fun b=>
 opt.ret _ ([],(b.1,()))) (
 opt.bnd ((LD×Unit)) _ (
 z6j (b24_1 p) (x.1,([],((0:Int),())))) fun c=>
 opt.bnd ((LD×Unit)) _ (
 z6j (b24_2 p) ([],(c.1,((0:Int),())))) fun d=>
 opt.need _ (p.eqN 0 0)<|
 opt.need _ (p.eqN (p.len d.1) (p.len d.1))<|
 opt.ret _ (d.1,((0:Int),())))
def F24:z0n→Tup (ctr24).scs→Option (z6k (z6i (ctr24).outs)):=
 fun p x=>G24 p x
theorem eq24 (p:z0n) (x:Tup (ctr24).scs):z2r opt p (z0r [] Go.Proofs.Tryz.prog) (z6d opt p (z0r [] Go.Proofs.Tryz.prog) 400 (an24) la24) 400 ctr24 x=G24 p x:=by kernel_rfl
theorem gok24:z5q Go.Proofs.Tryz.prog (gam24):=by
 intro cf h
 simp only [gam24,List.mem_cons,List.not_mem_nil,or_false] at h
 rcases h with rfl|rfl
 ·exact ok62
 ·exact ok20
theorem enters24:z1m Go.Proofs.Tryz.prog 24:=z0v (b:=_) rfl (by kernel_rfl)
theorem ok24:z27 Go.Proofs.Tryz.prog ctr24 (F24 std):=z0w (z0h z0c) (z1v (z0h z0c) gok24 _) enters24 (fun x=>eq24 std x)
end Go.Am
end
noncomputable section
namespace Go.Am
def ctr4:Ctr:=
 ⟨4,[.list 4],[],[(.ret,⟨[(0, .bool)],[],1⟩)]⟩
def la4:List LA:=
 []
def ja4:List JA:=
 [⟨4,[false,true,true,true,true,true,true],0,[(AX.normal,⟨[(2, .bool)],[],55⟩)]⟩]
def gam4:List CF:=
 [⟨ctr24,F24⟩,⟨ctr23,F23⟩,⟨ctr22,F22⟩,⟨ctr21,F21⟩,⟨ctr26,F26⟩,⟨ctr25,F25⟩,⟨w3j,F16⟩,⟨x7e,F15⟩]
def an4:y5o:=
 ⟨gam4,ja4,[]⟩
def G4:(p:z0n)→(LD×Unit)→Option ((Bool×Unit)):=
 fun p x=>
 opt.bnd ((Bool×Unit)) _ (G15 p (x.1,())) fun a=>
 opt.ask _ a.1 (
 opt.bnd ((Bool×Unit)) _ (G16 p ()) fun b=>
 opt.ret _ (b.1,())) (
 opt.bnd ((LD×(Int×Unit))) _ (G21 p (x.1,())) fun c=>
 opt.bnd ((LD×(Int×Unit))) _ (G22 p (x.1,())) fun d=>
 opt.bnd ((LD×(Int×Unit))) _ (G23 p (x.1,())) fun e=>
 opt.bnd ((LD×(Int×Unit))) _ (G24 p (x.1,())) fun f=>
 opt.bnd ((Bool×Unit)) _ (
 opt.run ((Bool×Unit)) (
 opt.need _ (p.and (p.leN (p.add 0 (p.len c.1)) (p.len c.1)) (p.and (p.leN (p.add 0 (p.len d.1)) (p.len d.1)) Bool.true))<|
 opt.bnd ((Bool×Unit)) _ (G25 p ((p.cut c.1 0 (p.len c.1)),((p.cut d.1 0 (p.len d.1)),()))) fun g=>
 opt.ask _ g.1 (
 opt.ask _ (p.cmp .eql c.2.1 d.2.1) (
 opt.need _ (p.and (p.leN (p.add 0 (p.len e.1)) (p.len e.1)) (p.and (p.leN (p.add 0 (p.len f.1)) (p.len f.1)) Bool.true))<|
 opt.bnd ((Bool×Unit)) _ (G26 p ((p.cut e.1 0 (p.len e.1)),((p.cut f.1 0 (p.len f.1)),()))) fun h=>
 opt.ask _ h.1 (
 opt.ask _ (p.cmp .eql e.2.1 f.2.1) (
 opt.bnd ((Bool×Unit)) _ (G16 p ()) fun i=>
 opt.ret _ (i.1,())) (
 opt.ret _ (Bool.false,()))) (
 opt.ret _ (Bool.false,()))) (
 opt.ret _ (Bool.false,()))) (
 opt.ret _ (Bool.false,())))) fun j=>
 opt.ret _ (j.1,()))
def F4:z0n→Tup (ctr4).scs→Option (z6k (z6i (ctr4).outs)):=
 fun p x=>G4 p x
theorem eq4 (p:z0n) (x:Tup (ctr4).scs):z2r opt p (z0r [] Go.Proofs.Tryz.prog) (z6d opt p (z0r [] Go.Proofs.Tryz.prog) 400 (an4) la4) 400 ctr4 x=G4 p x:=by kernel_rfl
theorem gok4:z5q Go.Proofs.Tryz.prog (gam4):=by
 intro cf h
 simp only [gam4,List.mem_cons,List.not_mem_nil,or_false] at h
 rcases h with rfl|rfl|rfl|rfl|rfl|rfl|rfl|rfl
 ·exact ok24
 ·exact ok23
 ·exact ok22
 ·exact ok21
 ·exact ok26
 ·exact ok25
 ·exact ok16
 ·exact ok15
theorem enters4:z1m Go.Proofs.Tryz.prog 4:=z0v (b:=_) rfl (by kernel_rfl)
theorem ok4:z27 Go.Proofs.Tryz.prog ctr4 (F4 std):=z0w (z0h z0c) (z1v (z0h z0c) gok4 _) enters4 (fun x=>eq4 std x)
end Go.Am
end
section
namespace Go.Am
open D12
variable {fl fl':List Int→Bool}
def ixO (b:List Th) (x:Int):Option Nat:=(List.range b.length).find? fun i=>decide ((b.getD i default).num=x)
def ixT (b:List Th) (x:Int):Int:=match ixO b x with
 |some i=>(i:Int)
 |none=> -1
theorem G111_ok (b:List Th) (x:Int) (hl:b.length≤1000000):G111 std (z6l b,(x,()))=some (ixT b x,()):=by
 unfold G111 ixT ixO
 have key:=z7r (b:=b111_1 std) b.length (fun i=>(z6l b,(x,((i:Int),())))) (fun i=>decide ((b.getD i default).num=x)) (fun i=> .inl ((i:Int),())) (.inr ()) (fun i hi=>by
  obtain ⟨m,hm⟩:=z2b hi
  obtain ⟨hw,h0⟩:=stp i (by omega)
  have hlt:(i:Int)<b.length:=by omega
  simp only [z2x hm,b111_1,z2t,z2u,z0u,z1j,z6l,z1k,z3o,z3n,z3l,z3m,z3p,z09,z5x,z00,z17,z16,z15,z18,eq_self,not_true,not_false_eq_true,decide_true,decide_false,Bool.not_true,Bool.not_false,Int.reduceLT,Int.reduceNeg,Int.reduceGT,Int.reduceEq,Int.reduceLE,cond_true,cond_false,ge_iff_le,gt_iff_lt,z0b,hm,hlt,h0,hw]) (by
  have hn:¬ (b.length:Int)<b.length:=by omega
  simp only [b111_1,z2t,z2u,z0u,z1j,z6l,z1k,z3o,z3n,z3l,z3m,z3p,z09,z5x,z00,z17,z16,z15,z18,hn])
 have key:z6j (b111_1 std) (z6l b,(x,((0:Int),())))=_:=key
 simp only [z2t,z2u,key]
 cases (List.range b.length).find? fun i=>decide ((b.getD i default).num=x)<;>rfl
theorem ixO_fnd (b:List Th) (x:Int):(ixO b x).map (fun i=>b.getD i default)=fnd b x:=x45 b default fun t=>decide (t.num=x)
theorem ixO_some {b:List Th} {x:Int} {i:Nat} (h:ixO b x=some i):∃ t,b[i]?=some t∧t.num=x∧fnd b x=some t∧i<b.length:=by
 have h1:=List.find?_some h
 have h2:=List.mem_range.1 (List.mem_of_find?_eq_some h)
 obtain ⟨t,ht⟩:=z2b h2
 have e:b.getD i default=t:=z2x ht
 rw [e] at h1
 refine ⟨t,ht,by simpa using h1,?_,h2⟩
 rw [←ixO_fnd,h]
 simp only [Option.map_some,e]
theorem ixO_none {b:List Th} {x:Int} (h:ixO b x=none):fnd b x=none:=by rw [←ixO_fnd,h]; rfl
theorem fnd_ix {b:List Th} {x:Int} {t:Th} (h:fnd b x=some t):∃ i,ixO b x=some i∧b[i]?=some t∧t.num=x∧i<b.length:=by
 cases hq:ixO b x with
 |none=>rw [ixO_none hq] at h; cases h
 |some i=>
  obtain ⟨t',h1,h2,h3,h4⟩:=ixO_some hq
  rw [h] at h3; cases h3
  exact ⟨i,rfl,h1,h2,h4⟩
theorem G112_ok (b:List Th) (x:Int) (hl:b.length≤1000000):G112 std (z6l b,(x,()))=some (w7u (fnd b) x,()):=by
 unfold G112 w7u
 have h:=G111_ok b x hl
 cases hq:ixO b x with
 |none=>
  have e:ixT b x= -1:=by unfold ixT; rw [hq]
  rw [e] at h
  simp only [z2t,z2u,eq_self,not_true,not_false_eq_true,decide_true,decide_false,Bool.not_true,Bool.not_false,Int.reduceLT,Int.reduceNeg,Int.reduceGT,Int.reduceEq,Int.reduceLE,cond_true,cond_false,ge_iff_le,gt_iff_lt,z0b,h,ixO_none hq]
 |some i=>
  obtain ⟨t,h1,h2,h3,h4⟩:=ixO_some hq
  have e:ixT b x=(i:Int):=by unfold ixT; rw [hq]
  rw [e] at h
  have hn:¬ (i:Int)<0:=by omega
  have h0:(0:Int)≤i:=by omega
  simp only [z6l] at h
  cases ho:t.out<;>simp only [z2t,z2u,z0u,z1j,z6l,z1k,z3o,z3n,z3l,z3m,z3p,z09,z5x,z00,z17,z16,z15,z18,eq_self,not_true,not_false_eq_true,decide_true,decide_false,Bool.not_true,Bool.not_false,Int.reduceLT,Int.reduceNeg,Int.reduceGT,Int.reduceEq,Int.reduceLE,cond_true,cond_false,ge_iff_le,gt_iff_lt,z0b,h,hn,h0,h1,h3,ho,std_rdB,Bool.false_eq_true,if_false,if_true]
theorem G113_ok (b:List Th) (x:Int) (hl:b.length≤1000000) (hs:(fnd b x).isSome=true):G113 std (z6l b,(x,()))=some (w03 (fnd b) x,()):=by
 unfold G113 w03
 have h:=G111_ok b x hl
 cases hq:ixO b x with
 |none=>rw [ixO_none hq] at hs; cases hs
 |some i=>
  obtain ⟨t,h1,h2,h3,h4⟩:=ixO_some hq
  have e:ixT b x=(i:Int):=by unfold ixT; rw [hq]
  rw [e] at h
  have h0:(0:Int)≤i:=by omega
  simp only [z6l] at h
  simp only [z2t,z2u,z0u,z1j,z6l,z1k,z3o,z3n,z3l,z3m,z3p,z09,z5x,z00,z17,z16,z15,z18,eq_self,not_true,not_false_eq_true,decide_true,decide_false,Bool.not_true,Bool.not_false,Int.reduceLT,Int.reduceNeg,Int.reduceGT,Int.reduceEq,Int.reduceLE,cond_true,cond_false,ge_iff_le,gt_iff_lt,z0b,h,h0,h1,h3,Option.map_some,Option.getD_some]
end Go.Am
end
section
namespace Go.Am
open D12
variable {fl fl':List Int→Bool}
def BookOk (b:List Th):Prop:=b.length≤1000∧(b.map (·.num)).Nodup∧∀ t∈b,0≤t.val∧t.val≤1000000∧0≤t.hrs∧t.hrs≤10000
theorem isSome_ix {b:List Th} {x:Int}:(fnd b x).isSome=decide (0≤ixT b x):=by
 unfold ixT
 cases hq:ixO b x with
 |none=>rw [ixO_none hq]; rfl
 |some i=>
  obtain ⟨t,h1,h2,h3,h4⟩:=ixO_some hq
  rw [h3]
  have:(0:Int)≤i:=by omega
  simp [this]
set_option maxHeartbeats 1000000 in
theorem G62_1 (b:List Th) (n x a:Int) (hb:BookOk b):G62 std (z6l b,(n,(1,(z1j [x],(a,())))))=some (z6l (play b ⟨n,1,[x],a⟩),(errC (fnd b) ⟨n,1,[x],a⟩,())):=by
 obtain ⟨hl,_,_⟩:=hb
 have h:=G111_ok b x (by omega)
 have he:errC (fnd b) ⟨n,1,[x],a⟩=if 0≤ixT b x then 11 else 0:=by
  unfold errC x0
  simp only [if_true,isSome_ix,decide_eq_true_eq,List.getD_cons_zero]
 have hp:play b ⟨n,1,[x],a⟩=if 0≤ixT b x then b else b++[⟨x,a,0,false⟩]:=by
  unfold play
  rw [he]
  by_cases hx:0≤ixT b x
  ·simp [hx]
  ·simp [hx,x0]
 rw [he,hp]
 cases b with
 |nil=>
  have e:ixT [] x= -1:=rfl
  rw [e] at h
  simp only [z6l,List.map_nil] at h
  unfold G62
  simp only [z2t,z2u,z0u,z1j,z6l,z1k,z3o,z3n,z3l,z3m,z3p,z09,z5x,z00,z17,z16,z15,z18,eq_self,not_true,not_false_eq_true,decide_true,decide_false,Bool.not_true,Bool.not_false,Int.reduceLT,Int.reduceNeg,Int.reduceGT,Int.reduceEq,Int.reduceLE,cond_true,cond_false,ge_iff_le,gt_iff_lt,z0b,h,e,List.map_nil,List.length_nil,Nat.add_zero,Nat.zero_add,Nat.le_refl]
  simp [h,z09,z5x,eTh]
 |cons t r=>
  have hBl:(z6l (t::r)).length=(t::r).length:=encTh_len _
  have g1:1≤(z6l (t::r)).length:=by rw [hBl]; simp
  have g2:(z6l (t::r)).length≤1000:=by rw [hBl]; exact hl
  have hap:z6l ((t::r)++[⟨x,a,0,false⟩])=z6l (t::r)++[[.int .i64 x, .int .i64 a, .int .i64 0, .bool false]]:=by simp [z6l,eTh]
  rw [apply_ite z6l,hap]
  generalize z6l (t::r)=B at*
  have g3:¬ B.length=0:=by omega
  have g4:¬ B.length≤0:=by omega
  have g5:B.length≤1000000:=by omega
  have g6:B.length+1≤1000000:=by omega
  have g7:B≠[]:=fun e=>by rw [e] at g3; exact g3 rfl
  unfold G62
  simp only [z2t,z2u,z0u,z1j,z6l,z1k,z3o,z3n,z3l,z3m,z3p,z09,z5x,z00,z17,z16,z15,z18,eq_self,not_true,not_false_eq_true,decide_true,decide_false,Bool.not_true,Bool.not_false,Int.reduceLT,Int.reduceNeg,Int.reduceGT,Int.reduceEq,Int.reduceLE,cond_true,cond_false,ge_iff_le,gt_iff_lt,z0b,h]
  by_cases hx:0≤ixT (t::r) x
  ·simp [h,z09,z5x,eTh,hx,g1,g2,g3,g4,g5,g6,g7]
  ·simp [h,z09,z5x,eTh,hx,g1,g2,g3,g4,g5,g6,g7]
   rw [List.take_of_length_le (by simp)]
theorem find_congr {α:Type} {p q:α→Bool}:∀ {l:List α},(∀ x∈l,p x=q x)→l.find? p=l.find? q
 |[],_=>rfl
 |x::l,h=>by
  rw [List.find?_cons,List.find?_cons,h x (List.mem_cons_self ..),find_congr fun y hy=>h y (List.mem_cons_of_mem _ hy)]
theorem needErr_find (s:Sf) (l:List Int):x22 s l=match l.find? fun x=>!decide (w7u s x=0) with
 |some x=>w7u s x
 |none=>0:=by
 induction l with
 |nil=>rfl
 |cons x l ih=>
  unfold x22
  by_cases h:w7u s x=0
  ·simp only [h,if_true,List.find?_cons,decide_true,Bool.not_true]; exact ih
  ·simp [h]
theorem need62 (b:List Th) (B0:List (List D)) (n k a x:Int) (t:List Int) (m:Nat) (hm:m≤t.length) (hl:b.length≤1000) (ht:t.length≤1000):
  z6j (b62_2 std) (z6l b,(n,(k,(z1j t,(a,(B0,(0,(b.length,(x,((m:Int),((0:Int),())))))))))))=
   some (if x22 (fnd b) (t.take m)=0 then .inr (z6l b,(n,(k,(z1j t,(a,(B0,(0,(b.length,(x,()))))))))) else .inl (B0,(x22 (fnd b) (t.take m),()))):=by
 have key:=z7r (b:=b62_2 std) m (fun i=>(z6l b,(n,(k,(z1j t,(a,(B0,(0,(b.length,(x,((m:Int),((i:Int),())))))))))))) (fun i=>!decide (w7u (fnd b) (t.getD i default)=0)) (fun i=> .inl (B0,(w7u (fnd b) (t.getD i default),())))
  (.inr (z6l b,(n,(k,(z1j t,(a,(B0,(0,(b.length,(x,())))))))))) (fun i hi=>by
  obtain ⟨y,hy⟩:=z2b (l:=t) (i:=i) (by omega)
  obtain ⟨hw,h0⟩:=stp i (by omega)
  have hlt:(i:Int)<m:=by omega
  have h12:=G112_ok b y (by omega)
  have hc:List.take b.length (List.drop 0 (z6l b))=z6l b:=by rw [List.drop_zero,List.take_of_length_le (by rw [encTh_len]; exact Nat.le_refl _)]
  have hbl:(z6l b).length=b.length:=encTh_len b
  generalize z6l b=B at*
  have hle:b.length≤B.length:=by omega
  by_cases he:w7u (fnd b) y=0
  ·simp only [z2x hy,b62_2,z2t,z2u,z1j,z09,z5x,eq_self,not_true,not_false_eq_true,decide_true,decide_false,Bool.not_true,Bool.not_false,Int.reduceLT,Int.reduceNeg,Int.reduceGT,Int.reduceEq,Int.reduceLE,cond_true,cond_false,ge_iff_le,gt_iff_lt,z0b,hy,hlt,h0,hw,hc,h12,he,hbl,Nat.zero_add,Nat.le_refl,Bool.and_self,ne_eq,if_true,if_false,Bool.false_eq_true,List.getElem?_map,Option.map_some]
  ·simp only [z2x hy,b62_2,z2t,z2u,z1j,z09,z5x,eq_self,not_true,not_false_eq_true,decide_true,decide_false,Bool.not_true,Bool.not_false,Int.reduceLT,Int.reduceNeg,Int.reduceGT,Int.reduceEq,Int.reduceLE,cond_true,cond_false,ge_iff_le,gt_iff_lt,z0b,hy,hlt,h0,hw,hc,h12,he,hbl,Nat.zero_add,Nat.le_refl,Bool.and_self,ne_eq,if_true,if_false,Bool.false_eq_true,List.getElem?_map,Option.map_some]) (by
  have hn:¬ (m:Int)<m:=by omega
  simp only [b62_2,z2t,z2u,hn,if_false])
 have key:z6j (b62_2 std) (z6l b,(n,(k,(z1j t,(a,(B0,(0,(b.length,(x,((m:Int),((0:Int),())))))))))))=_:=key
 rw [key]
 have e:=x45 (t.take m) default fun x=>!decide (w7u (fnd b) x=0)
 have hml:(t.take m).length=m:=by rw [List.length_take]; omega
 rw [hml] at e
 have eq1:((List.range m).find? fun i=>!decide (w7u (fnd b) ((t.take m).getD i default)=0))=(List.range m).find? fun i=>!decide (w7u (fnd b) (t.getD i default)=0):=by
  refine find_congr fun i hi=>?_
  have:i<m:=List.mem_range.1 hi
  rw [List.getD_eq_getElem?_getD,List.getD_eq_getElem?_getD,List.getElem?_take,if_pos this]
 rw [needErr_find, ←e]
 rw [eq1]
 cases hq:(List.range m).find? fun i=>!decide (w7u (fnd b) (t.getD i default)=0) with
 |none=>simp
 |some i=>
  have hi:i<m:=List.mem_range.1 (List.mem_of_find?_eq_some hq)
  have h2:=List.find?_some hq
  simp only [Bool.not_eq_true',decide_eq_false_iff_not] at h2
  have e2:(t.take m).getD i default=t.getD i default:=by
   rw [List.getD_eq_getElem?_getD,List.getD_eq_getElem?_getD,List.getElem?_take,if_pos hi]
  simp only [Option.map_some,e2,if_neg h2]
theorem rdD_3 {B:List (List D)} {i:Nat} {t:Th} (h:B[i]?=some (eTh t)):dB (rdD B i 3)=t.out:=by
 unfold rdD; rw [h]; rfl
theorem upd_set {b:List Th} {x:Int} {i:Nat} {t:Th} {f:Th→Th} (hn:(b.map (·.num)).Nodup) (hi:b[i]?=some t) (ht:t.num=x):upd b x f=b.set i (f t):=by
 unfold upd
 apply List.ext_getElem?
 intro j
 have hil:i<b.length:=(List.getElem?_eq_some_iff.1 hi).1
 rw [List.getElem?_map,List.getElem?_set]
 by_cases hj:i=j
 ·subst hj
  have e1:b[i]=t:=(List.getElem?_eq_some_iff.1 hi).2
  simp [hi,ht,hil,e1]
 ·rw [if_neg hj]
  cases hq:b[j]? with
  |none=>rfl
  |some u=>
   have hu:u.num≠x:=by
    intro e
    have hjl:j<b.length:=(List.getElem?_eq_some_iff.1 hq).1
    have e1:b[i]=t:=(List.getElem?_eq_some_iff.1 hi).2
    have e2:b[j]=u:=(List.getElem?_eq_some_iff.1 hq).2
    exact hj ((List.getElem_inj (xs:=b.map (·.num)) (i:=i) (j:=j) (h₀:=by simpa using hil) (h₁:=by simpa using hjl) hn).1 (by simp [e1,e2,ht,e]))
   simp [hu]
theorem encTh_set (b:List Th) (i:Nat) (t:Th):z6l (b.set i t)=(z6l b).set i (eTh t):=by simp [z6l,List.map_set]
theorem encTh_get {b:List Th} {i:Nat} {t:Th} (h:b[i]?=some t):(z6l b)[i]?=some (eTh t):=by simp [z6l,h]
theorem book_facts {b:List Th} (hb:BookOk b) (h0:b≠[]):1≤b.length∧b.length≤1000∧(z6l b).length=b.length∧¬ b.length=0∧¬ b.length≤0∧b.length≤1000000∧b.length+1≤1000000∧List.take b.length (z6l b)=z6l b∧z6l b≠[]:=by
 have h1:1≤b.length:=by cases b with|nil=>exact absurd rfl h0|cons t r=>simp
 have h2:=hb.1
 refine ⟨h1,h2,encTh_len b,by omega,by omega,by omega,by omega,List.take_of_length_le (by rw [encTh_len]; exact Nat.le_refl _),fun e=>?_⟩
 have:=encTh_len b
 rw [e] at this
 simp at this; omega
set_option maxHeartbeats 1000000 in
theorem G62_2 (b:List Th) (n x a:Int) (hb:BookOk b) (h0:b≠[]) (ha:1≤a∧a≤10000):G62 std (z6l b,(n,(2,(z1j [x],(a,())))))=some (z6l (play b ⟨n,2,[x],a⟩),(errC (fnd b) ⟨n,2,[x],a⟩,())):=by
 obtain ⟨g1,g2,gl,g3,g4,g5,g6,gt,gn⟩:=book_facts hb h0
 have h:=G111_ok b x (by omega)
 have hN:=need62 b (z6l b) n 2 a x [x] 1 (by simp) g2 (by simp)
 have hnx:x22 (fnd b) ((⟨n,2,[x],a⟩:Cd).t.take 1)=w7u (fnd b) x:=by simp [x22]; intro h; exact h.symm
 have hn2:x22 (fnd b) (D12.needs ⟨n,2,[x],a⟩)=w7u (fnd b) x:=by simpa [D12.needs] using hnx
 have hnx':x22 (fnd b) (List.take 1 [x])=w7u (fnd b) x:=hnx
 rw [hnx'] at hN
 by_cases he:w7u (fnd b) x=0
 ·obtain ⟨t,ht⟩:∃ t,fnd b x=some t:=by
   cases hq:fnd b x with
   |none=>simp [w7u,hq] at he
   |some t=>exact ⟨t,rfl⟩
  obtain ⟨i,hix,hbi,hnum,hil⟩:=fnd_ix ht
  have hei:ixT b x=(i:Int):=by unfold ixT; rw [hix]
  rw [hei] at h
  obtain ⟨v1,v2,v3,v4⟩:=hb.2.2 t (List.mem_of_getElem? hbi)
  have hw:IntKind.i64.wrap (t.hrs+a)=t.hrs+a:=w4a _ (by omega) (by omega)
  have hBi:=encTh_get hbi
  have hil':(i:Int)<b.length:=by omega
  have hi0:(0:Int)≤i:=by omega
  have hhr:hrsS (fnd b) x=t.hrs:=by simp [hrsS,ht]
  have hep:errC (fnd b) ⟨n,2,[x],a⟩=if 10000<t.hrs+a then 4 else 0:=by
   unfold errC
   simp [hn2,he,x0,hhr]
  have hpp:play b ⟨n,2,[x],a⟩=if 10000<t.hrs+a then b else b.set i { t with hrs:=t.hrs+a }:=by
   unfold play
   rw [hep]
   by_cases h4:10000<t.hrs+a
   ·simp [h4]
   ·simp [h4,x0,v3l]
    exact upd_set hb.2.1 hbi hnum
  rw [hep,hpp]
  rw [he,if_pos rfl] at hN
  have hN:z6j (b62_2 std) (z6l b,(n,(2,([eI x],(a,(z6l b,(0,(b.length,(x,((1:Int),((0:Int),())))))))))))=some (.inr (z6l b,(n,(2,([eI x],(a,(z6l b,(0,(b.length,(x,())))))))))):=hN
  have hset:=encTh_set b i { t with hrs:=t.hrs+a }
  rw [apply_ite z6l,hset]
  generalize z6l b=B at*
  unfold G62
  simp only [z2t,z2u,z0u,z1j,z6l,z1k,z3o,z3n,z3l,z3m,z3p,z09,z5x,z00,z17,z16,z15,z18,eq_self,not_true,not_false_eq_true,decide_true,decide_false,Bool.not_true,Bool.not_false,Int.reduceLT,Int.reduceNeg,Int.reduceGT,Int.reduceEq,Int.reduceLE,cond_true,cond_false,ge_iff_le,gt_iff_lt,z0b,h]
  by_cases h4:10000<t.hrs+a
  ·simp [h,hN,z09,z5x,g1,g2,gl,g3,g4,g5,g6,gt,gn,hBi,hil',hi0,z00,z17,z16,z15,z18,std_rdB,rdD_3 hBi,hw,h4]
  ·simp [h,hN,z09,z5x,g1,g2,gl,g3,g4,g5,g6,gt,gn,hBi,hil',hi0,z00,z17,z16,z15,z18,std_rdB,rdD_3 hBi,hw,h4]
   rw [List.take_of_length_le (by rw [List.length_set]; omega)]
   simp [eTh]
 ·rw [if_neg he] at hN
  have hN:z6j (b62_2 std) (z6l b,(n,(2,([eI x],(a,(z6l b,(0,(b.length,(x,((1:Int),((0:Int),())))))))))))=some (.inl (z6l b,(w7u (fnd b) x,()))):=hN
  have hep:errC (fnd b) ⟨n,2,[x],a⟩=w7u (fnd b) x:=by
   unfold errC
   simp [hn2,he]
  have hpp:play b ⟨n,2,[x],a⟩=b:=by
   unfold play
   rw [hep,if_pos he]
  rw [hep,hpp]
  generalize z6l b=B at*
  unfold G62
  simp only [z2t,z2u,z0u,z1j,z6l,z1k,z3o,z3n,z3l,z3m,z3p,z09,z5x,z00,z17,z16,z15,z18,eq_self,not_true,not_false_eq_true,decide_true,decide_false,Bool.not_true,Bool.not_false,Int.reduceLT,Int.reduceNeg,Int.reduceGT,Int.reduceEq,Int.reduceLE,cond_true,cond_false,ge_iff_le,gt_iff_lt,z0b,h]
  simp [h,hN,z09,z5x,g1,g2,gl,g3,g4,g5,g6,gt,gn]
set_option maxHeartbeats 1000000 in
theorem G62_5 (b:List Th) (n x:Int) (hb:BookOk b) (h0:b≠[]):G62 std (z6l b,(n,(5,(z1j [x],(0,())))))=some (z6l (play b ⟨n,5,[x],0⟩),(errC (fnd b) ⟨n,5,[x],0⟩,())):=by
 obtain ⟨g1,g2,gl,g3,g4,g5,g6,gt,gn⟩:=book_facts hb h0
 have h:=G111_ok b x (by omega)
 have hN:=need62 b (z6l b) n 5 0 x [x] 1 (by simp) g2 (by simp)
 have hnx:x22 (fnd b) ((⟨n,5,[x],0⟩:Cd).t.take 1)=w7u (fnd b) x:=by simp [x22]; intro h; exact h.symm
 have hn2:x22 (fnd b) (D12.needs ⟨n,5,[x],0⟩)=w7u (fnd b) x:=by simpa [D12.needs] using hnx
 have hnx':x22 (fnd b) (List.take 1 [x])=w7u (fnd b) x:=hnx
 rw [hnx'] at hN
 by_cases he:w7u (fnd b) x=0
 ·obtain ⟨t,ht⟩:∃ t,fnd b x=some t:=by
   cases hq:fnd b x with
   |none=>simp [w7u,hq] at he
   |some t=>exact ⟨t,rfl⟩
  obtain ⟨i,hix,hbi,hnum,hil⟩:=fnd_ix ht
  have hei:ixT b x=(i:Int):=by unfold ixT; rw [hix]
  rw [hei] at h
  have hBi:=encTh_get hbi
  have hil':(i:Int)<b.length:=by omega
  have hi0:(0:Int)≤i:=by omega
  have hep:errC (fnd b) ⟨n,5,[x],0⟩=0:=by
   unfold errC
   simp [hn2,he]
  have hpp:play b ⟨n,5,[x],0⟩=b.set i { t with out:=true }:=by
   unfold play
   rw [hep]
   simp [x0,v3l]
   exact upd_set hb.2.1 hbi hnum
  rw [hep,hpp]
  rw [he,if_pos rfl] at hN
  have hN:z6j (b62_2 std) (z6l b,(n,(5,([eI x],(0,(z6l b,(0,(b.length,(x,((1:Int),((0:Int),())))))))))))=some (.inr (z6l b,(n,(5,([eI x],(0,(z6l b,(0,(b.length,(x,())))))))))):=hN
  rw [encTh_set b i { t with out:=true }]
  generalize z6l b=B at*
  unfold G62
  simp only [z2t,z2u,z0u,z1j,z6l,z1k,z3o,z3n,z3l,z3m,z3p,z09,z5x,z00,z17,z16,z15,z18,eq_self,not_true,not_false_eq_true,decide_true,decide_false,Bool.not_true,Bool.not_false,Int.reduceLT,Int.reduceNeg,Int.reduceGT,Int.reduceEq,Int.reduceLE,cond_true,cond_false,ge_iff_le,gt_iff_lt,z0b,h]
  simp [h,hN,z09,z5x,g1,g2,gl,g3,g4,g5,g6,gt,gn,hBi,hil',hi0,z00,z17,z16,z15,z18,std_rdB,rdD_3 hBi]
  rw [List.take_of_length_le (by rw [List.length_set]; omega)]
  simp [eTh]
 ·rw [if_neg he] at hN
  have hN:z6j (b62_2 std) (z6l b,(n,(5,([eI x],(0,(z6l b,(0,(b.length,(x,((1:Int),((0:Int),())))))))))))=some (.inl (z6l b,(w7u (fnd b) x,()))):=hN
  have hep:errC (fnd b) ⟨n,5,[x],0⟩=w7u (fnd b) x:=by
   unfold errC
   simp [hn2,he]
  have hpp:play b ⟨n,5,[x],0⟩=b:=by
   unfold play
   rw [hep,if_pos he]
  rw [hep,hpp]
  generalize z6l b=B at*
  unfold G62
  simp only [z2t,z2u,z0u,z1j,z6l,z1k,z3o,z3n,z3l,z3m,z3p,z09,z5x,z00,z17,z16,z15,z18,eq_self,not_true,not_false_eq_true,decide_true,decide_false,Bool.not_true,Bool.not_false,Int.reduceLT,Int.reduceNeg,Int.reduceGT,Int.reduceEq,Int.reduceLE,cond_true,cond_false,ge_iff_le,gt_iff_lt,z0b,h]
  simp [h,hN,z09,z5x,g1,g2,gl,g3,g4,g5,g6,gt,gn]
end Go.Am
end
section
namespace Go.Am
open D12
theorem thErr_zero {s:Sf} {x:Int} (h:w7u s x=0):∃ t,s x=some t∧t.out=false:=by
 unfold w7u at h
 cases hq:s x with
 |none=>rw [hq] at h; simp at h
 |some t=>
  rw [hq] at h
  cases ho:t.out with
  |true=>simp [ho] at h
  |false=>exact ⟨t,rfl,ho⟩
theorem need_zero {s:Sf}:∀ {l:List Int},x22 s l=0→∀ x∈l,w7u s x=0
 |[],_,x,hx=>by cases hx
 |y::l,h,x,hx=>by
  unfold x22 at h
  by_cases hy:w7u s y=0
  ·rw [if_pos hy] at h
   rcases List.mem_cons.1 hx with rfl|hx
   ·exact hy
   ·exact need_zero h x hx
  ·rw [if_neg hy] at h; exact absurd h hy
theorem quo_wrap {v a:Int} (hv0:0≤v) (hv:v≤1000000) (ha0:0≤a) (ha:a≤100000):IntKind.i64.wrap (v*a)=v*a∧0≤v*a∧v*a≤100000000000:=by
 have h1:0≤v*a:=Int.mul_nonneg hv0 ha0
 have h2:v*a≤1000000*100000:=Int.mul_le_mul hv ha ha0 (by omega)
 exact ⟨w4a _ (by omega) (by omega),h1,by omega⟩
set_option maxHeartbeats 2000000 in
theorem G62_3 (b:List Th) (n x y a:Int) (hb:BookOk b) (h0:b≠[]) (ha:1≤a∧a≤100000):G62 std (z6l b,(n,(3,(z1j [x,y],(a,())))))=some (z6l (play b ⟨n,3,[x,y],a⟩),(errC (fnd b) ⟨n,3,[x,y],a⟩,())):=by
 obtain ⟨g1,g2,gl,g3,g4,g5,g6,gt,gn⟩:=book_facts hb h0
 have h:=G111_ok b x (by omega)
 have hN:=need62 b (z6l b) n 3 a x [x,y] 2 (by simp) g2 (by simp)
 have hn2:D12.needs ⟨n,3,[x,y],a⟩=[x,y]:=rfl
 have hnx':List.take 2 [x,y]=[x,y]:=rfl
 rw [hnx'] at hN
 by_cases he:x22 (fnd b) [x,y]=0
 ·obtain ⟨t,ht,_⟩:=thErr_zero (need_zero he x (by simp))
  obtain ⟨u,hu,_⟩:=thErr_zero (need_zero he y (by simp))
  obtain ⟨i,hix,hbi,hnum,hil⟩:=fnd_ix ht
  obtain ⟨j,_,hbj,_,_⟩:=fnd_ix hu
  have hei:ixT b x=(i:Int):=by unfold ixT; rw [hix]
  rw [hei] at h
  obtain ⟨v1,v2,_,_⟩:=hb.2.2 u (List.mem_of_getElem? hbj)
  obtain ⟨hw,w1,w2⟩:=quo_wrap v1 v2 (by omega:0≤a) ha.2
  have h13:=G113_ok b y (by omega) (by rw [hu]; rfl)
  have hvy:w03 (fnd b) y=u.val:=by simp [w03,hu]
  rw [hvy] at h13
  have hBi:=encTh_get hbi
  have hil':(i:Int)<b.length:=by omega
  have hi0:(0:Int)≤i:=by omega
  have hq:IntKind.i64.wrap ((u.val*a).tdiv 1000)=(u.val*a).tdiv 1000:=w4a _ (by rw [Int.tdiv_eq_ediv_of_nonneg w1]; omega) (by rw [Int.tdiv_eq_ediv_of_nonneg w1]; omega)
  have hep:errC (fnd b) ⟨n,3,[x,y],a⟩=if (u.val*a).tdiv 1000<1∨1000000<(u.val*a).tdiv 1000 then 4 else 0:=by
   unfold errC
   simp [hn2,he,x1,hvy]
  have hpp:play b ⟨n,3,[x,y],a⟩=if (u.val*a).tdiv 1000<1∨1000000<(u.val*a).tdiv 1000 then b else b.set i { t with val:=(u.val*a).tdiv 1000 }:=by
   unfold play
   rw [hep]
   by_cases h4:(u.val*a).tdiv 1000<1∨1000000<(u.val*a).tdiv 1000
   ·simp [h4]
   ·have hu:=upd_set (f:=v3l (fnd b) ⟨n,3,[x,y],a⟩) hb.2.1 hbi hnum
    have ht:v3l (fnd b) ⟨n,3,[x,y],a⟩ t={ t with val:=(u.val*a).tdiv 1000 }:=by simp [v3l,x1,hvy]
    rw [ht] at hu
    simp [h4,x0]
    exact hu
  rw [hep,hpp]
  rw [he,if_pos rfl] at hN
  have hN:z6j (b62_2 std) (z6l b,(n,(3,([eI x,eI y],(a,(z6l b,(0,(b.length,(x,((2:Int),((0:Int),())))))))))))=some (.inr (z6l b,(n,(3,([eI x,eI y],(a,(z6l b,(0,(b.length,(x,())))))))))):=hN
  have hset:=encTh_set b i { t with val:=(u.val*a).tdiv 1000 }
  have hqq:std.ar .quo .i64 (std.ar .mul .i64 u.val a) 1000=(u.val*a).tdiv 1000:=by rw [std_ar_mul,std_ar_quo,hw,hq]
  rw [apply_ite z6l,hset]
  generalize z6l b=B at*
  generalize (u.val*a).tdiv 1000=q at*
  unfold G62
  simp only [z2t,z2u,z0u,z1j,z6l,z1k,z3o,z3n,z3l,z3m,z3p,z09,z5x,z00,z17,z16,z15,z18,eq_self,not_true,not_false_eq_true,decide_true,decide_false,Bool.not_true,Bool.not_false,Int.reduceLT,Int.reduceNeg,Int.reduceGT,Int.reduceEq,Int.reduceLE,cond_true,cond_false,ge_iff_le,gt_iff_lt,z0b,h]
  by_cases h4:q<1
  ·simp [h,hN,z09,z5x,g1,g2,gl,g3,g4,g5,g6,gt,gn,hBi,hil',hi0,z00,z17,z16,z15,z18,std_rdB,rdD_3 hBi,hqq,h13,h4]
  ·by_cases h5:1000000<q
   ·simp [h,hN,z09,z5x,g1,g2,gl,g3,g4,g5,g6,gt,gn,hBi,hil',hi0,z00,z17,z16,z15,z18,std_rdB,rdD_3 hBi,hqq,h13,h4,h5]
   ·simp [h,hN,z09,z5x,g1,g2,gl,g3,g4,g5,g6,gt,gn,hBi,hil',hi0,z00,z17,z16,z15,z18,std_rdB,rdD_3 hBi,hqq,h13,h4,h5]
    rw [List.take_of_length_le (by rw [List.length_set]; omega)]
    simp [eTh]
 ·rw [if_neg he] at hN
  have hN:z6j (b62_2 std) (z6l b,(n,(3,([eI x,eI y],(a,(z6l b,(0,(b.length,(x,((2:Int),((0:Int),())))))))))))=some (.inl (z6l b,(x22 (fnd b) [x,y],()))):=hN
  have hep:errC (fnd b) ⟨n,3,[x,y],a⟩=x22 (fnd b) [x,y]:=by
   unfold errC
   simp [hn2,he]
  have hpp:play b ⟨n,3,[x,y],a⟩=b:=by
   unfold play
   rw [hep,if_pos he]
  rw [hep,hpp]
  generalize z6l b=B at*
  unfold G62
  simp only [z2t,z2u,z0u,z1j,z6l,z1k,z3o,z3n,z3l,z3m,z3p,z09,z5x,z00,z17,z16,z15,z18,eq_self,not_true,not_false_eq_true,decide_true,decide_false,Bool.not_true,Bool.not_false,Int.reduceLT,Int.reduceNeg,Int.reduceGT,Int.reduceEq,Int.reduceLE,cond_true,cond_false,ge_iff_le,gt_iff_lt,z0b,h]
  simp [h,hN,z09,z5x,g1,g2,gl,g3,g4,g5,g6,gt,gn]
theorem upd_id {b:List Th} {x:Int} {f:Th→Th} (h:∀ t,f t=t):upd b x f=b:=by
 unfold upd
 conv=>rhs; rw [←List.map_id b]
 apply List.map_congr_left
 intro t _
 simp [h]
set_option maxHeartbeats 2000000 in
theorem G62_6 (b:List Th) (n x y z a:Int) (hb:BookOk b) (h0:b≠[]) (ha:0≤a∧a≤1000000):G62 std (z6l b,(n,(6,(z1j [x,y,z],(a,())))))=some (z6l (play b ⟨n,6,[x,y,z],a⟩),(errC (fnd b) ⟨n,6,[x,y,z],a⟩,())):=by
 obtain ⟨g1,g2,gl,g3,g4,g5,g6,gt,gn⟩:=book_facts hb h0
 have h:=G111_ok b x (by omega)
 have hN:=need62 b (z6l b) n 6 a x [x,y,z] 3 (by simp) g2 (by simp)
 have hn2:D12.needs ⟨n,6,[x,y,z],a⟩=[x,y,z]:=rfl
 have hnx':List.take 3 [x,y,z]=[x,y,z]:=rfl
 rw [hnx'] at hN
 by_cases he:x22 (fnd b) [x,y,z]=0
 ·obtain ⟨t,ht,_⟩:=thErr_zero (need_zero he x (by simp))
  obtain ⟨u,hu,_⟩:=thErr_zero (need_zero he y (by simp))
  obtain ⟨v,hv,_⟩:=thErr_zero (need_zero he z (by simp))
  obtain ⟨i,hix,hbi,hnum,hil⟩:=fnd_ix ht
  obtain ⟨j,_,hbj,_,_⟩:=fnd_ix hu
  obtain ⟨k,_,hbk,_,_⟩:=fnd_ix hv
  have hei:ixT b x=(i:Int):=by unfold ixT; rw [hix]
  rw [hei] at h
  obtain ⟨t1,t2,_,_⟩:=hb.2.2 t (List.mem_of_getElem? hbi)
  obtain ⟨u1,u2,_,_⟩:=hb.2.2 u (List.mem_of_getElem? hbj)
  obtain ⟨v1,v2,_,_⟩:=hb.2.2 v (List.mem_of_getElem? hbk)
  have h1:=G113_ok b x (by omega) (by rw [ht]; rfl)
  have h2:=G113_ok b y (by omega) (by rw [hu]; rfl)
  have h3:=G113_ok b z (by omega) (by rw [hv]; rfl)
  have e1:w03 (fnd b) x=t.val:=by simp [w03,ht]
  have e2:w03 (fnd b) y=u.val:=by simp [w03,hu]
  have e3:w03 (fnd b) z=v.val:=by simp [w03,hv]
  rw [e1] at h1
  rw [e2] at h2
  rw [e3] at h3
  have hBi:=encTh_get hbi
  have hil':(i:Int)<b.length:=by omega
  have hi0:(0:Int)≤i:=by omega
  have hep:errC (fnd b) ⟨n,6,[x,y,z],a⟩=if a<t.val+u.val - v.val∨a< -(t.val+u.val - v.val) then 23 else 0:=by
   unfold errC
   simp [hn2,he,x0,x1,x2,e1,e2,e3]
  have hpp:play b ⟨n,6,[x,y,z],a⟩=b:=by
   unfold play
   rw [hep]
   split
   ·rfl
   ·simp
    exact upd_id fun t=>by simp [v3l]
  rw [hep,hpp]
  rw [he,if_pos rfl] at hN
  have hN:z6j (b62_2 std) (z6l b,(n,(6,([eI x,eI y,eI z],(a,(z6l b,(0,(b.length,(x,((3:Int),((0:Int),())))))))))))=some (.inr (z6l b,(n,(6,([eI x,eI y,eI z],(a,(z6l b,(0,(b.length,(x,())))))))))):=hN
  have q1:std.ar .sub .i64 (IntKind.i64.wrap (t.val+u.val)) v.val=t.val+u.val - v.val:=by
   rw [z9r,w4a (t.val+u.val) (by omega) (by omega),w4a _ (by omega) (by omega)]
  have q2:std.ar .sub .i64 0 (t.val+u.val - v.val)= -(t.val+u.val - v.val):=by
   rw [z9r,w4a _ (by omega) (by omega)]; omega
  generalize z6l b=B at*
  generalize t.val+u.val - v.val=q at*
  generalize -q=q' at*
  unfold G62
  simp only [z2t,z2u,z0u,z1j,z6l,z1k,z3o,z3n,z3l,z3m,z3p,z09,z5x,z00,z17,z16,z15,z18,eq_self,not_true,not_false_eq_true,decide_true,decide_false,Bool.not_true,Bool.not_false,Int.reduceLT,Int.reduceNeg,Int.reduceGT,Int.reduceEq,Int.reduceLE,cond_true,cond_false,ge_iff_le,gt_iff_lt,z0b,h]
  by_cases h4:a<q
  ·simp [h,hN,z09,z5x,g1,g2,gl,g3,g4,g5,g6,gt,gn,hBi,hil',hi0,z00,z17,z16,z15,z18,std_rdB,rdD_3 hBi,h1,h2,h3,q1,q2,h4]
  ·by_cases h5:a<q'
   ·simp [h,hN,z09,z5x,g1,g2,gl,g3,g4,g5,g6,gt,gn,hBi,hil',hi0,z00,z17,z16,z15,z18,std_rdB,rdD_3 hBi,h1,h2,h3,q1,q2,h4,h5]
   ·simp [h,hN,z09,z5x,g1,g2,gl,g3,g4,g5,g6,gt,gn,hBi,hil',hi0,z00,z17,z16,z15,z18,std_rdB,rdD_3 hBi,h1,h2,h3,q1,q2,h4,h5]
 ·rw [if_neg he] at hN
  have hN:z6j (b62_2 std) (z6l b,(n,(6,([eI x,eI y,eI z],(a,(z6l b,(0,(b.length,(x,((3:Int),((0:Int),())))))))))))=some (.inl (z6l b,(x22 (fnd b) [x,y,z],()))):=hN
  have hep:errC (fnd b) ⟨n,6,[x,y,z],a⟩=x22 (fnd b) [x,y,z]:=by
   unfold errC
   simp [hn2,he]
  have hpp:play b ⟨n,6,[x,y,z],a⟩=b:=by
   unfold play
   rw [hep,if_pos he]
  rw [hep,hpp]
  generalize z6l b=B at*
  unfold G62
  simp only [z2t,z2u,z0u,z1j,z6l,z1k,z3o,z3n,z3l,z3m,z3p,z09,z5x,z00,z17,z16,z15,z18,eq_self,not_true,not_false_eq_true,decide_true,decide_false,Bool.not_true,Bool.not_false,Int.reduceLT,Int.reduceNeg,Int.reduceGT,Int.reduceEq,Int.reduceLE,cond_true,cond_false,ge_iff_le,gt_iff_lt,z0b,h]
  simp [h,hN,z09,z5x,g1,g2,gl,g3,g4,g5,g6,gt,gn]
set_option maxHeartbeats 2000000 in
theorem G62_4 (b:List Th) (n x y:Int) (hb:BookOk b) (h0:b≠[]):G62 std (z6l b,(n,(4,(z1j [x,y],(0,())))))=some (z6l (play b ⟨n,4,[x,y],0⟩),(errC (fnd b) ⟨n,4,[x,y],0⟩,())):=by
 obtain ⟨g1,g2,gl,g3,g4,g5,g6,gt,gn⟩:=book_facts hb h0
 have h:=G111_ok b x (by omega)
 have hy:=G111_ok b y (by omega)
 have hN:=need62 b (z6l b) n 4 0 x [x,y] 1 (by simp) g2 (by simp)
 have hnx':x22 (fnd b) (List.take 1 [x,y])=w7u (fnd b) x:=by simp [x22]; intro h; exact h.symm
 have hn2:x22 (fnd b) (D12.needs ⟨n,4,[x,y],0⟩)=w7u (fnd b) x:=by simpa [D12.needs] using hnx'
 rw [hnx'] at hN
 by_cases he:w7u (fnd b) x=0
 ·obtain ⟨t,ht,_⟩:=thErr_zero he
  obtain ⟨i,hix,hbi,hnum,hil⟩:=fnd_ix ht
  have hei:ixT b x=(i:Int):=by unfold ixT; rw [hix]
  rw [hei] at h
  have hBi:=encTh_get hbi
  have hil':(i:Int)<b.length:=by omega
  have hi0:(0:Int)≤i:=by omega
  have hvx:w03 (fnd b) x=t.val:=by simp [w03,ht]
  have hu:=upd_set (f:=fun t=>{ t with out:=true }) hb.2.1 hbi hnum
  have hf:fnd (b.set i { t with out:=true }) x=some { t with out:=true }:=by
   rw [←hu,fnd_upd (f:=fun t=>{ t with out:=true }) (fun t=>rfl),if_pos rfl,ht]; rfl
  have h13:=G113_ok (b.set i { t with out:=true }) x (by rw [List.length_set]; omega) (by rw [hf]; rfl)
  have hv2:w03 (fnd (b.set i { t with out:=true })) x=t.val:=by simp [w03,hf]
  rw [hv2,encTh_set] at h13
  have hep:errC (fnd b) ⟨n,4,[x,y],0⟩=if 0≤ixT b y then 11 else 0:=by
   unfold errC
   simp [hn2,he,x1,isSome_ix]
  have hpp:play b ⟨n,4,[x,y],0⟩=if 0≤ixT b y then b else b.set i { t with out:=true }++[⟨y,t.val,0,false⟩]:=by
   unfold play
   rw [hep]
   by_cases h4:0≤ixT b y
   ·simp [h4]
   ·have hu':=upd_set (f:=v3l (fnd b) ⟨n,4,[x,y],0⟩) hb.2.1 hbi hnum
    have htt:v3l (fnd b) ⟨n,4,[x,y],0⟩ t={ t with out:=true }:=by simp [v3l]
    rw [htt] at hu'
    simp [h4,x0,x1,hvx,hu']
  rw [hep,hpp]
  rw [he,if_pos rfl] at hN
  have hN:z6j (b62_2 std) (z6l b,(n,(4,([eI x,eI y],(0,(z6l b,(0,(b.length,(x,((1:Int),((0:Int),())))))))))))=some (.inr (z6l b,(n,(4,([eI x,eI y],(0,(z6l b,(0,(b.length,(x,())))))))))):=hN
  have hset:z6l (b.set i { t with out:=true }++[⟨y,t.val,0,false⟩])=(z6l b).set i (eTh { t with out:=true })++[[.int .i64 y, .int .i64 t.val, .int .i64 0, .bool false]]:=by
   rw [←encTh_set]; simp [z6l,eTh]
  rw [apply_ite z6l,hset]
  have hBl:((z6l b).set i (eTh { t with out:=true })).length=b.length:=by rw [List.length_set]; exact gl
  have hBt:List.take b.length ((z6l b).set i (eTh { t with out:=true }))=(z6l b).set i (eTh { t with out:=true }):=List.take_of_length_le (by rw [hBl]; exact Nat.le_refl _)
  have hrow:[D.int .i64 t.num,D.int .i64 t.val,D.int .i64 t.hrs,D.bool true]=eTh { t with out:=true }:=rfl
  generalize z6l b=B at*
  generalize eTh { t with out:=true }=w at*
  unfold G62
  simp only [z2t,z2u,z0u,z1j,z6l,z1k,z3o,z3n,z3l,z3m,z3p,z09,z5x,z00,z17,z16,z15,z18,eq_self,not_true,not_false_eq_true,decide_true,decide_false,Bool.not_true,Bool.not_false,Int.reduceLT,Int.reduceNeg,Int.reduceGT,Int.reduceEq,Int.reduceLE,cond_true,cond_false,ge_iff_le,gt_iff_lt,z0b,h]
  by_cases h4:0≤ixT b y
  ·simp [h,hN,z09,z5x,g1,g2,gl,g3,g4,g5,g6,gt,gn,hBi,hil',hi0,z00,z17,z16,z15,z18,std_rdB,rdD_3 hBi,hy,h4]
  ·have g8:b.length≤999999:=by omega
   have hl1:(B.set i w++[[D.int .i64 y,D.int .i64 t.val,D.int .i64 0,D.bool false]]).length=b.length+1:=by rw [List.length_append,hBl]; rfl
   simp [h,hN,z09,z5x,g1,g2,gl,g3,g4,g5,g6,gt,gn,hBi,hil',hi0,z00,z17,z16,z15,z18,std_rdB,rdD_3 hBi,hy,h4,hrow,h13,hBl,hBt,g8]
   rw [List.take_of_length_le (by rw [hl1]; exact Nat.le_refl _)]
 ·rw [if_neg he] at hN
  have hN:z6j (b62_2 std) (z6l b,(n,(4,([eI x,eI y],(0,(z6l b,(0,(b.length,(x,((1:Int),((0:Int),())))))))))))=some (.inl (z6l b,(w7u (fnd b) x,()))):=hN
  have hep:errC (fnd b) ⟨n,4,[x,y],0⟩=w7u (fnd b) x:=by
   unfold errC
   simp [hn2,he]
  have hpp:play b ⟨n,4,[x,y],0⟩=b:=by
   unfold play
   rw [hep,if_pos he]
  rw [hep,hpp]
  generalize z6l b=B at*
  unfold G62
  simp only [z2t,z2u,z0u,z1j,z6l,z1k,z3o,z3n,z3l,z3m,z3p,z09,z5x,z00,z17,z16,z15,z18,eq_self,not_true,not_false_eq_true,decide_true,decide_false,Bool.not_true,Bool.not_false,Int.reduceLT,Int.reduceNeg,Int.reduceGT,Int.reduceEq,Int.reduceLE,cond_true,cond_false,ge_iff_le,gt_iff_lt,z0b,h]
  simp [h,hN,z09,z5x,g1,g2,gl,g3,g4,g5,g6,gt,gn]
end Go.Am
end
section
namespace Go.Am
open D12
variable {fl fl':List Int→Bool}
theorem b62_eq:b62_1 std=b62_2 std:=rfl
theorem need_nil (x:Int) (l:List Int):x22 (fnd []) (x::l)=5:=by
 unfold x22
 have:w7u (fnd []) x=5:=rfl
 rw [this]; rfl
set_option maxHeartbeats 2000000 in
theorem G62_nil (n k a x:Int) (r:List Int) (hk:k≠1) (hr:r.length≤100) (m:Nat) (hm0:1≤m) (hm:m≤(x::r).length) (hmk:m=if k=3∨k=6 then (x::r).length else 1):
  G62 std (z6l [],(n,(k,(z1j (x::r),(a,())))))=some (z6l [],(5,())):=by
 have hN:=need62 [] [] n k a x (x::r) m hm (by simp) (by simp; omega)
 obtain ⟨m',rfl⟩:∃ m',m=m'+1:=⟨m - 1,by omega⟩
 have hnx:x22 (fnd []) (List.take (m'+1) (x::r))=5:=by rw [List.take_succ_cons]; exact need_nil _ _
 rw [hnx,if_neg (by omega), ←b62_eq] at hN
 have hN:z6j (b62_1 std) ([],(n,(k,(eI x::List.map eI r,(a,([],(0,(0,(x,(((m'+1:Nat):Int),((0:Int),())))))))))))=some (.inl ([],(5,()))):=hN
 unfold G62
 by_cases h36:k=3∨k=6
 ·rw [if_pos h36] at hmk
  have hm2:m'=r.length:=by simpa using hmk
  rw [hm2] at hN
  rcases h36 with rfl|rfl
  ·simp only [z2t,z2u,z0u,z1j,z6l,z1k,z3o,z3n,z3l,z3m,z3p,z09,z5x,z00,z17,z16,z15,z18,eq_self,not_true,not_false_eq_true,decide_true,decide_false,Bool.not_true,Bool.not_false,Int.reduceLT,Int.reduceNeg,Int.reduceGT,Int.reduceEq,Int.reduceLE,cond_true,cond_false,ge_iff_le,gt_iff_lt,z0b]
   simp [z6l,z09,z5x] at hN⊢
   simp [hN]
  ·simp only [z2t,z2u,z0u,z1j,z6l,z1k,z3o,z3n,z3l,z3m,z3p,z09,z5x,z00,z17,z16,z15,z18,eq_self,not_true,not_false_eq_true,decide_true,decide_false,Bool.not_true,Bool.not_false,Int.reduceLT,Int.reduceNeg,Int.reduceGT,Int.reduceEq,Int.reduceLE,cond_true,cond_false,ge_iff_le,gt_iff_lt,z0b]
   simp [z6l,z09,z5x] at hN⊢
   simp [hN]
 ·rw [if_neg h36] at hmk
  have hm2:m'=0:=by omega
  subst hm2
  have h3:¬ k=3:=fun e=>h36 (.inl e)
  have h6:¬ k=6:=fun e=>h36 (.inr e)
  simp only [z2t,z2u,z0u,z1j,z6l,z1k,z3o,z3n,z3l,z3m,z3p,z09,z5x,z00,z17,z16,z15,z18,eq_self,not_true,not_false_eq_true,decide_true,decide_false,Bool.not_true,Bool.not_false,Int.reduceLT,Int.reduceNeg,Int.reduceGT,Int.reduceEq,Int.reduceLE,cond_true,cond_false,ge_iff_le,gt_iff_lt,z0b]
  simp [z6l,z09,z5x,hk,h3,h6] at hN⊢
  simp [hN]
theorem G62_ok (b:List Th) (c:Cd) (hb:BookOk b) (hc:z3x c=0):G62 std (z6l b,(c.n,(c.k,(z1j c.t,(c.a,())))))=some (z6l (play b c),(errC (fnd b) c,())):=by
 obtain ⟨n,k,t,a⟩:=c
 obtain ⟨_,hk,hlen,_,_,hfit⟩:=cardSt_zero.1 hc
 simp only at hk hlen hfit⊢
 rcases y4s hk with ⟨hks,hm⟩|⟨hks,hm⟩|⟨rfl,hm⟩
 ·rw [hm] at hlen
  obtain ⟨x,rfl⟩:=List.length_eq_one_iff.1 hlen
  rcases hks with rfl|rfl|rfl
  ·exact G62_1 b n x a hb
  ·have ha:1≤a∧a≤10000:=by unfold w2o at hfit; omega
   by_cases h0:b=[]
   ·subst h0
    rw [G62_nil n 2 a x [] (by omega) (by simp) 1 (by omega) (by simp) (by simp)]
    have e:errC (fnd []) ⟨n,2,[x],a⟩=5:=by unfold errC; simp [D12.needs,need_nil]
    have p:play [] ⟨n,2,[x],a⟩=[]:=by unfold play; rw [e]; rfl
    rw [e,p]
   ·exact G62_2 b n x a hb h0 ha
  ·have ha:a=0:=by unfold w2o at hfit; omega
   subst ha
   by_cases h0:b=[]
   ·subst h0
    rw [G62_nil n 5 0 x [] (by omega) (by simp) 1 (by omega) (by simp) (by simp)]
    have e:errC (fnd []) ⟨n,5,[x],0⟩=5:=by unfold errC; simp [D12.needs,need_nil]
    have p:play [] ⟨n,5,[x],0⟩=[]:=by unfold play; rw [e]; rfl
    rw [e,p]
   ·exact G62_5 b n x hb h0
 ·rw [hm] at hlen
  obtain ⟨x,y,rfl⟩:∃ x y,t=[x,y]:=by
   match t,hlen with
   |[x,y],_=>exact ⟨x,y,rfl⟩
  rcases hks with rfl|rfl
  ·have ha:1≤a∧a≤100000:=by unfold w2o at hfit; omega
   by_cases h0:b=[]
   ·subst h0
    rw [G62_nil n 3 a x [y] (by omega) (by simp) 2 (by omega) (by simp) (by simp)]
    have e:errC (fnd []) ⟨n,3,[x,y],a⟩=5:=by unfold errC; simp [D12.needs,need_nil]
    have p:play [] ⟨n,3,[x,y],a⟩=[]:=by unfold play; rw [e]; rfl
    rw [e,p]
   ·exact G62_3 b n x y a hb h0 ha
  ·have ha:a=0:=by unfold w2o at hfit; omega
   subst ha
   by_cases h0:b=[]
   ·subst h0
    rw [G62_nil n 4 0 x [y] (by omega) (by simp) 1 (by omega) (by simp) (by simp)]
    have e:errC (fnd []) ⟨n,4,[x,y],0⟩=5:=by unfold errC; simp [D12.needs,need_nil]
    have p:play [] ⟨n,4,[x,y],0⟩=[]:=by unfold play; rw [e]; rfl
    rw [e,p]
   ·exact G62_4 b n x y hb h0
 ·rw [hm] at hlen
  obtain ⟨x,y,z,rfl⟩:∃ x y z,t=[x,y,z]:=by
   match t,hlen with
   |[x,y,z],_=>exact ⟨x,y,z,rfl⟩
  have ha:0≤a∧a≤1000000:=by unfold w2o at hfit; omega
  by_cases h0:b=[]
  ·subst h0
   rw [G62_nil n 6 a x [y,z] (by omega) (by simp) 3 (by omega) (by simp) (by simp)]
   have e:errC (fnd []) ⟨n,6,[x,y,z],a⟩=5:=by unfold errC; simp [D12.needs,need_nil]
   have p:play [] ⟨n,6,[x,y,z],a⟩=[]:=by unfold play; rw [e]; rfl
   rw [e,p]
  ·exact G62_6 b n x y z a hb h0 ha
def BookN (m:Nat) (b:List Th):Prop:=b.length≤m∧(b.map (·.num)).Nodup∧∀ t∈b,0≤t.val∧t.val≤1000000∧0≤t.hrs∧t.hrs≤10000
theorem BookN.ok {m:Nat} {b:List Th} (h:BookN m b) (hm:m≤1000):BookOk b:=⟨by have:=h.1; omega,h.2⟩
theorem fnd_notin {b:List Th} {x:Int} (h:fnd b x=none):x∉b.map (·.num):=by
 intro hx
 obtain ⟨t,ht,rfl⟩:=List.mem_map.1 hx
 have:=List.find?_eq_none.1 h t ht
 simp at this
theorem upd_nums {b:List Th} {x:Int} {f:Th→Th} (hf:∀ t,(f t).num=t.num):(upd b x f).map (·.num)=b.map (·.num):=by
 unfold upd
 rw [List.map_map]
 apply List.map_congr_left
 intro t _
 simp only [Function.comp_def]
 split
 ·exact hf t
 ·rfl
theorem val_le {m:Nat} {b:List Th} (hb:BookN m b) (x:Int):0≤w03 (fnd b) x∧w03 (fnd b) x≤1000000:=by
 unfold w03
 cases hq:fnd b x with
 |none=>simp
 |some t=>
  have:=hb.2.2 t (List.mem_of_find?_eq_some hq)
  simp; omega
theorem play_ok {m:Nat} {b:List Th} {c:Cd} (hb:BookN m b) (hc:z3x c=0):BookN (m+1) (play b c):=by
 obtain ⟨_,hk,hlen,_,hnd,hfit⟩:=cardSt_zero.1 hc
 obtain ⟨h1,h2,h3⟩:=hb
 unfold play
 split
 ·exact ⟨by omega,h2,h3⟩
 ·rename_i he
  have he:errC (fnd b) c=0:=by simpa using he
  split
  ·rename_i hk1
   have hn:fnd b (x0 c)=none:=by
    unfold errC at he
    rw [if_pos hk1] at he
    cases hq:fnd b (x0 c) with
    |none=>rfl
    |some t=>rw [hq] at he; simp at he
   have ha:1≤c.a∧c.a≤1000000:=by unfold w2o at hfit; omega
   refine ⟨by simp; omega,?_,fun t ht=>?_⟩
   ·rw [List.map_append,List.nodup_append]
    refine ⟨h2,by simp,fun a ha b' hb'=>?_⟩
    simp at hb'
    subst hb'
    exact fun e=>fnd_notin hn (e▸ha)
   ·rcases List.mem_append.1 ht with ht|ht
    ·exact h3 t ht
    ·simp at ht; subst ht; simp; omega
  ·rename_i hk1
   have turn_ok:∀ t∈upd b (x0 c) (v3l (fnd b) c),0≤t.val∧t.val≤1000000∧0≤t.hrs∧t.hrs≤10000:=by
    intro t ht
    unfold upd at ht
    obtain ⟨u,hu,rfl⟩:=List.mem_map.1 ht
    have hu3:=h3 u hu
    split
    ·rename_i hx
     unfold v3l
     split
     ·rename_i hk2
      have hfu:fnd b (x0 c)=some u:=by
       cases hq:fnd b (x0 c) with
       |none=>exact absurd (hx▸List.mem_map.2 ⟨u,hu,rfl⟩) (fnd_notin hq)
       |some v=>
        obtain ⟨i,_,hbi,hnum,_⟩:=fnd_ix hq
        obtain ⟨j,hj,hju⟩:=List.mem_iff_getElem.1 hu
        have hil:i<b.length:=(List.getElem?_eq_some_iff.1 hbi).1
        have hiv:b[i]=v:=(List.getElem?_eq_some_iff.1 hbi).2
        have:=(List.getElem_inj (xs:=b.map (·.num)) (i:=i) (j:=j) (h₀:=by simpa using hil) (h₁:=by simpa using hj) h2).1 (by simp [hiv,hju,hnum,hx])
        subst this
        rw [←hiv,hju]
      have ha:1≤c.a∧c.a≤10000:=by unfold w2o at hfit; omega
      have hh:hrsS (fnd b) (x0 c)=u.hrs:=by simp [hrsS,hfu]
      have:¬ 10000<u.hrs+c.a:=by
       intro h4
       unfold errC at he
       rw [if_neg hk1] at he
       split at he
       ·rename_i hne; exact hne he
       ·first|(rw [if_pos hk2,hh,if_pos h4] at he; omega)|(rw [hh,if_pos h4] at he; omega)
      simp; omega
     ·split
      ·rename_i hk2 hk3
       have h4:¬ ((w03 (fnd b) (x1 c)*c.a).tdiv 1000<1∨1000000<(w03 (fnd b) (x1 c)*c.a).tdiv 1000):=by
        intro h4
        unfold errC at he
        rw [if_neg hk1] at he
        split at he
        ·rename_i hne; exact hne he
        ·first|(rw [if_neg hk2,if_pos hk3,if_pos h4] at he; omega)|omega
       simp only [not_or] at h4
       simp; omega
      ·split
       ·simpa using hu3
       ·exact hu3
    ·exact hu3
   split
   ·rename_i hk4
    have hn:fnd b (x1 c)=none:=by
     unfold errC at he
     rw [if_neg hk1] at he
     split at he
     ·rename_i hne; exact absurd he hne
     ·simp only [hk4,Int.reduceEq,if_false,if_true] at he
      cases hq:fnd b (x1 c) with
      |none=>rfl
      |some t=>rw [hq] at he; simp at he
    refine ⟨by simp [upd]; omega,?_,fun t ht=>?_⟩
    ·rw [List.map_append,List.nodup_append,upd_nums (turn_num _ _)]
     refine ⟨h2,by simp,fun a ha b' hb'=>?_⟩
     simp at hb'
     subst hb'
     exact fun e=>fnd_notin hn (e▸ha)
    ·rcases List.mem_append.1 ht with ht|ht
     ·exact turn_ok t ht
     ·simp at ht; subst ht
      have:=val_le (m:=m) ⟨h1,h2,h3⟩ (x0 c)
      simp; omega
   ·exact ⟨by simp [upd]; omega,by rw [upd_nums (turn_num _ _)]; exact h2,turn_ok⟩
theorem book_snoc (p:List Cd) (c:Cd):bookOf (p++[c])=play (bookOf p) c:=by simp [bookOf]
theorem book_rev:∀ (l:List Cd),(∀ c∈l,z3x c=0)→BookN l.length (bookOf l)∧fnd (bookOf l)=st l:=by
 intro l
 induction hn:l.length generalizing l with
 |zero=>intro _; have:l=[]:=List.length_eq_zero_iff.1 hn; subst this; exact ⟨⟨by simp [bookOf],by simp [bookOf],by simp [bookOf]⟩,rfl⟩
 |succ n ih=>
  intro h
  obtain ⟨p,c,rfl⟩:∃ p c,l=p++[c]:=by
   have hne:l≠[]:=by intro e; rw [e] at hn; simp at hn
   exact ⟨l.dropLast,l.getLast hne,(List.dropLast_concat_getLast hne).symm⟩
  have hc:=h c (by simp)
  obtain ⟨h1,h2⟩:=ih p (by simpa using hn) fun d hd=>h d (by simp [hd])
  have hw:=wf_of hc
  rw [book_snoc,st_snoc, ←h2]
  exact ⟨play_ok h1 hc,fnd_play _ _ hw.1 fun h4=>x01_ne hw (by unfold z3u; simp [h4])⟩
theorem errs_snoc (s:Sf) (p:List Cd) (c:Cd):errs s (p++[c])=errs s p++[errC (p.foldl after s) c]:=by
 induction p generalizing s with
 |nil=>rfl
 |cons d p ih=>simp [errs,ih]
def no:Sf:=fun _=>none
theorem st_eq (l:List Cd):l.foldl after no=st l:=rfl
theorem b22_1_ok (l:List Cd) (hl:l.length≤60) (hc:∀ c∈l,z3x c=0) (hf:Few l):z6j (b22_1 std) ([],(z0u fl l,([],((0:Int),()))))=some (z1j (errs no l),()):=by
 have key:=y64 (b:=b22_1 std) l.length (fun (_:Unit) i=>(z1j (errs no (l.take i)),(z0u fl l,(z6l (bookOf (l.take i)),((i:Int),()))))) (fun _ _=>True) (fun r=>r=(z1j (errs no l),()))
  (fun _ i hi _=> .inl ⟨(),by
   obtain ⟨c,hm⟩:=z2b hi
   obtain ⟨hw,h0⟩:=stp i (by omega)
   have hlt:(i:Int)<l.length:=by omega
   have hcm:=List.mem_of_getElem? hm
   obtain ⟨k1,k2⟩:=book_rev (l.take i) fun d hd=>hc d (List.mem_of_mem_take hd)
   have h62:=G62_ok (bookOf (l.take i)) c (k1.ok (by simp; omega)) (hc c hcm)
   have ht:l.take (i+1)=l.take i++[c]:=by rw [List.take_add_one,hm]; rfl
   have he:errs no (l.take (i+1))=errs no (l.take i)++[errC (fnd (bookOf (l.take i))) c]:=by rw [ht,errs_snoc,st_eq,k2]
   have hen:z1j (errs no (l.take (i+1)))=z1j (errs no (l.take i))++[[.int .i64 (errC (fnd (bookOf (l.take i))) c)]]:=by rw [he]; simp [z1j,eI]
   have hel:(z1j (errs no (l.take i))).length≤60:=by simp [z1j,errs_length]; omega
   have hbk:bookOf (l.take (i+1))=play (bookOf (l.take i)) c:=by rw [ht,book_snoc]
   rw [hen,hbk]
   generalize z1j (errs no (l.take i))=E at*
   have e1:E.length+1≤1000000:=by omega
   have et:List.take E.length (List.drop 0 E)=E:=by rw [List.drop_zero,List.take_length]
   simp only [z1j,z6l] at h62
   simp only [z2x hm,b22_1,z2t,z2u,z0u,z1j,z6l,z1k,z3o,z3n,z3l,z3m,z3p,z09,z5x,z00,z17,z16,z15,z18,eq_self,not_true,not_false_eq_true,decide_true,decide_false,Bool.not_true,Bool.not_false,Int.reduceLT,Int.reduceNeg,Int.reduceGT,Int.reduceEq,Int.reduceLE,cond_true,cond_false,ge_iff_le,gt_iff_lt,z0b,hm,hlt,h0,hw,h62,e1,et]
   simp [et,e1],trivial⟩)
  (fun _ _=>⟨_,by
   have hn:¬ (l.length:Int)<l.length:=by omega
   simp only [b22_1,z2t,z2u,z2y,hn,if_false,Nat.le_refl,eq_self,not_true,not_false_eq_true,decide_true,decide_false,Bool.not_true,Bool.not_false,Int.reduceLT,Int.reduceNeg,Int.reduceGT,Int.reduceEq,Int.reduceLE,cond_true,cond_false,ge_iff_le,gt_iff_lt,z0b,List.take_length],rfl⟩) () 0 (Nat.zero_le _) trivial
 obtain ⟨r,h1,rfl⟩:=key
 exact h1
theorem G22_ok (l:List Cd) (hf:Few l):G22 std (z0u fl l,())=some ((if z5l l=0 then z1j (errs no l) else []),(z5l l,())):=by
 unfold G22
 by_cases hd:z5l l=0
 ·obtain ⟨h1,h2,_⟩:=dockSt_zero.1 hd
  have hk:=b22_1_ok (fl:=fl) l h1 h2 hf
  simp only [z2t,z2u,eq_self,not_true,not_false_eq_true,decide_true,decide_false,Bool.not_true,Bool.not_false,Int.reduceLT,Int.reduceNeg,Int.reduceGT,Int.reduceEq,Int.reduceLE,cond_true,cond_false,ge_iff_le,gt_iff_lt,z0b,w9y l hf,hd,hk]
  try simp
 ·simp only [z2t,z2u,eq_self,not_true,not_false_eq_true,decide_true,decide_false,Bool.not_true,Bool.not_false,Int.reduceLT,Int.reduceNeg,Int.reduceGT,Int.reduceEq,Int.reduceLE,cond_true,cond_false,ge_iff_le,gt_iff_lt,z0b,w9y l hf,hd]
  try simp [hd]
end Go.Am
end
section
namespace Go.Am
section
variable {κ ν:Type} [DecidableEq κ]
def aIdx:List (κ×ν)→κ→Nat→Option (Nat×ν)
 |[],_,_=>none
 |(k',v)::r,k,i=>if k=k' then some (i,v) else aIdx r k (i+1)
def aVal:List (κ×ν)→κ→Option ν
 |[],_=>none
 |(k',v)::r,k=>if k=k' then some v else aVal r k
def aSet:List (κ×ν)→κ→ν→List (κ×ν)
 |[],_,_=>[]
 |(k',w)::r,k,v=>if k=k' then (k,v)::r else (k',w)::aSet r k v
def aPut (m:List (κ×ν)) (k:κ) (v:ν):List (κ×ν):=match aVal m k with
 |some _=>aSet m k v
 |none=>m++[(k,v)]
theorem aIdx_val (k:κ):∀ (m:List (κ×ν)) (i:Nat),(aIdx m k i).map (·.2)=aVal m k
 |[],i=>rfl
 |(k',v)::r,i=>by
  simp only [aIdx,aVal]
  split
  ·rfl
  ·exact aIdx_val k r (i+1)
theorem aIdx_ge {k:κ}:∀ {m:List (κ×ν)} {i j:Nat} {v:ν},aIdx m k i=some (j,v)→i≤j∧j<i+m.length
 |(k',w)::r,i,j,v,h=>by
  simp only [aIdx] at h
  split at h
  ·cases h; simp
  ·have:=aIdx_ge h; simp only [List.length_cons]; omega
theorem aIdx_set {k:κ}:∀ {m:List (κ×ν)} {i j:Nat} {v:ν},aIdx m k i=some (j,v)→∀ w,m.set (j - i) (k,w)=aSet m k w
 |(k',u)::r,i,j,v,h,w=>by
  simp only [aIdx] at h
  simp only [aSet]
  split at h
  ·rename_i e; cases h; rw [if_pos e,Nat.sub_self]; rfl
  ·rename_i e
   have:=aIdx_ge h
   rw [if_neg e, ←aIdx_set h w]
   have:j - i=(j - (i+1))+1:=by omega
   rw [this]; rfl
end
structure MEnc (κ ν:Type) where
 ke:κ→D
 ve:ν→D
 ks:List SK
 ka:Bool
 va:Bool
 ck:List CK
structure MEnc.Ok {κ ν:Type} [DecidableEq κ] (E:MEnc κ ν):Prop where
 agg:∀ k,z1s (E.ke k)=E.ka
 kinds:∀ k,z1d E.ks (z0x (E.ke k))=true
 eq:∀ a b,z90 E.ks (z0x (E.ke a)) (z0x (E.ke b))=some (decide (a=b))
 vagg:∀ v,z1s (E.ve v)=E.va
 vok:∀ v,z5p E.ck (z0x (E.ve v))=true
def MEnc.enc {κ ν:Type} (E:MEnc κ ν) (m:List (κ×ν)):List (D×D):=m.map fun e=>(E.ke e.1,E.ve e.2)
section
variable {κ ν:Type} [DecidableEq κ] {E:MEnc κ ν} (h:E.Ok)
include h
theorem findS_enc (k:κ):∀ (m:List (κ×ν)) (i:Nat),x07 E.ks E.ka (E.ke k) (E.enc m) i=some ((aIdx m k i).map fun x=>(x.1,E.ve x.2))
 |[],i=>rfl
 |(k',v)::r,i=>by
  have ih:=findS_enc k r (i+1)
  unfold MEnc.enc at ih⊢
  simp only [List.map_cons,x07,h.agg,beq_self_eq_true,Bool.and_self,cond_true,h.eq,aIdx]
  by_cases e:k=k'
  ·simp [e]
  ·simp [e,ih]
theorem mOk_enc (m:List (κ×ν)) (k:κ):std.mOk (E.enc m) E.ks E.ka (E.ke k) E.va E.ck=true:=by
 show ((z1s (E.ke k)==E.ka)&&z1d E.ks (z0x (E.ke k))&&match x07 E.ks E.ka (E.ke k) (E.enc m) 0 with|some none=>true|some (some (_,v))=>(z1s v==E.va)&&z5p E.ck (z0x v)|none=>false)=true
 rw [findS_enc h,h.agg,h.kinds]
 cases aIdx m k 0 with
 |none=>simp
 |some x=>simp [h.vagg,h.vok]
theorem mget_enc (m:List (κ×ν)) (k:κ):w5v (E.enc m) E.ks E.ka (E.ke k)=(aIdx m k 0).map fun x=>(x.1,E.ve x.2):=by
 unfold w5v; rw [findS_enc h]; rfl
theorem mhas_enc (m:List (κ×ν)) (k:κ):std.mhas (E.enc m) E.ks E.ka (E.ke k)=(aVal m k).isSome:=by
 show (w5v _ _ _ _).isSome=_
 rw [mget_enc h, ←aIdx_val k m 0]; simp
theorem mcell_enc (m:List (κ×ν)) (k:κ) (j:Nat) {v:ν} (hv:aVal m k=some v):x23 (E.enc m) E.ks E.ka (E.ke k) j=((z0x (E.ve v))[j]?).getD .nilp:=by
 unfold x23
 rw [mget_enc h]
 rw [←aIdx_val k m 0] at hv
 cases ha:aIdx m k 0 with
 |none=>rw [ha] at hv; cases hv
 |some x=>rw [ha] at hv; cases hv; rfl
theorem mI_enc (m:List (κ×ν)) (k:κ) (j:Nat) {v:ν} (hv:aVal m k=some v):std.mI (E.enc m) E.ks E.ka (E.ke k) j=dI (((z0x (E.ve v))[j]?).getD .nilp):=by
 show dI (x23 _ _ _ _ _)=_
 rw [mcell_enc h m k j hv]
theorem mB_enc (m:List (κ×ν)) (k:κ) (j:Nat) {v:ν} (hv:aVal m k=some v):std.mB (E.enc m) E.ks E.ka (E.ke k) j=dB (((z0x (E.ve v))[j]?).getD .nilp):=by
 show dB (x23 _ _ _ _ _)=_
 rw [mcell_enc h m k j hv]
theorem mset_enc (m:List (κ×ν)) (k:κ) {v:ν} (hv:aVal m k=some v) (w:ν):std.mset (E.enc m) (std.nat (std.ofNat (std.mpos (E.enc m) E.ks E.ka (E.ke k)))) (E.ke k) (E.ve w)=E.enc (aPut m k w):=by
 show (E.enc m).set (Int.toNat ((((w5v (E.enc m) E.ks E.ka (E.ke k)).map (·.1)).getD 0:Nat):Int)) (E.ke k,E.ve w)=_
 rw [mget_enc h]
 have hv':=hv
 rw [←aIdx_val k m 0] at hv
 cases ha:aIdx m k 0 with
 |none=>rw [ha] at hv; cases hv
 |some x=>
  obtain ⟨j,u⟩:=x
  simp only [Option.map_some,Option.getD_some,Int.toNat_natCast,aPut,hv',MEnc.enc]
  rw [←aIdx_set ha w,Nat.sub_zero,List.map_set]
theorem madd_enc (m:List (κ×ν)) (k:κ) (hv:aVal m k=none) (w:ν):std.madd (E.enc m) (E.ke k) (E.ve w)=E.enc (aPut m k w):=by
 show E.enc m++[(E.ke k,E.ve w)]=_
 simp [aPut,hv,MEnc.enc]
end
end Go.Am
end
section
namespace Go.Am
open D12
variable {fl fl':List Int→Bool}
def EB:MEnc Int Th:=⟨fun k=> .int .i64 k,fun t=> .agg (eTh t),[.i],false,true,[.int .i64, .int .i64, .int .i64, .bool]⟩
theorem EB_ok:EB.Ok where
 agg:=fun _=>rfl
 kinds:=fun _=>rfl
 eq:=fun a b=>by
  show (bif IntKind.i64==IntKind.i64 then (some (z4d .eql a b&&true)) else none)=_
  rw [Bool.and_true]; rfl
 vagg:=fun _=>rfl
 vok:=fun _=>rfl
def mb (b:List Th):List (Int×Th):=b.map fun t=>(t.num,t)
def encB (b:List Th):List (D×D):=EB.enc (mb b)
theorem aVal_mb (x:Int):∀ b:List Th,aVal (mb b) x=fnd b x
 |[]=>rfl
 |t::b=>by
  have ih:=aVal_mb x b
  unfold fnd at*
  simp only [mb,List.map_cons,aVal,List.find?_cons] at ih⊢
  by_cases h:t.num=x
  ·simp [h]
  ·have h':¬ x=t.num:=fun e=>h e.symm
   simp [h,h',ih]
theorem put_new {b:List Th} {w:Th} (h:fnd b w.num=none):aPut (mb b) w.num w=mb (b++[w]):=by
 unfold aPut
 rw [aVal_mb,h]
 simp [mb]
theorem put_old {b:List Th} {x:Int} {t w:Th} (hn:(b.map (·.num)).Nodup) (h:fnd b x=some t) (hw:w.num=x):aPut (mb b) x w=mb (upd b x fun _=>w):=by
 unfold aPut
 rw [aVal_mb,h]
 have key:∀ b:List Th,(b.map (·.num)).Nodup→(fnd b x).isSome=true→aSet (mb b) x w=mb (upd b x fun _=>w):=by
  intro b
  induction b with
  |nil=>intro _ h; simp [fnd] at h
  |cons u b ih=>
   intro hn h
   simp only [List.map_cons,List.nodup_cons] at hn
   unfold fnd at h ih
   simp only [mb,upd,List.map_cons,aSet,List.find?_cons] at h ih⊢
   by_cases he:u.num=x
   ·have:∀ v∈b,v.num≠x:=fun v hv e=>hn.1 (he▸e▸List.mem_map.2 ⟨v,hv,rfl⟩)
    have e2:(b.map fun t=>if t.num=x then w else t)=b:=by
     conv=>rhs; rw [←List.map_id b]
     exact List.map_congr_left fun v hv=>by simp [this v hv]
    simp [he,hw,e2]
   ·have he':¬ x=u.num:=fun e=>he e.symm
    simp [he,he'] at h⊢
    have:=ih hn.2 (by simpa using h)
    simpa [mb,upd] using this
 exact key b hn (by rw [h]; rfl)
section
variable (b:List Th) (x:Int)
theorem B_ok:std.mOk (encB b) [SK.i] false (.int .i64 x) true [.int .i64, .int .i64, .int .i64, .bool]=true:=mOk_enc EB_ok (mb b) x
theorem B_has:std.mhas (encB b) [SK.i] false (.int .i64 x)=(fnd b x).isSome:=by rw [←aVal_mb]; exact mhas_enc EB_ok (mb b) x
variable {b x} {t:Th} (h:fnd b x=some t)
include h
theorem B_0:std.mI (encB b) [SK.i] false (.int .i64 x) 0=t.num:=mI_enc EB_ok (mb b) x 0 (by rw [aVal_mb]; exact h)
theorem B_1:std.mI (encB b) [SK.i] false (.int .i64 x) 1=t.val:=mI_enc EB_ok (mb b) x 1 (by rw [aVal_mb]; exact h)
theorem B_2:std.mI (encB b) [SK.i] false (.int .i64 x) 2=t.hrs:=mI_enc EB_ok (mb b) x 2 (by rw [aVal_mb]; exact h)
theorem B_3:std.mB (encB b) [SK.i] false (.int .i64 x) 3=t.out:=mB_enc EB_ok (mb b) x 3 (by rw [aVal_mb]; exact h)
theorem B_set (hn:(b.map (·.num)).Nodup) (n v r:Int) (o:Bool) (hw:n=x):
  std.mset (encB b) (std.mpos (encB b) [SK.i] false (.int .i64 x)) (.int .i64 x) (.agg [.int .i64 n, .int .i64 v, .int .i64 r, .bool o])=encB (upd b x fun _=>⟨n,v,r,o⟩):=by
 have:=mset_enc EB_ok (mb b) x (by rw [aVal_mb]; exact h) ⟨n,v,r,o⟩
 rw [put_old hn h hw] at this
 exact this
end
theorem B_add {b:List Th} {x:Int} (h:fnd b x=none) (v r:Int) (o:Bool):std.madd (encB b) (.int .i64 x) (.agg [.int .i64 x, .int .i64 v, .int .i64 r, .bool o])=encB (b++[⟨x,v,r,o⟩]):=by
 have:=madd_enc EB_ok (mb b) x (by rw [aVal_mb]; exact h) ⟨x,v,r,o⟩
 have e:=put_new (w:=⟨x,v,r,o⟩) h
 simp only at e
 rw [e] at this
 exact this
theorem G137_ok (b:List Th) (l:List Int) (hl:l.length≤1000):G137 std (encB b,(z1j l,()))=some (encB b,(x22 (fnd b) l,())):=by
 unfold G137
 have key:=z7r (b:=b137_1 std) l.length (fun i=>(encB b,(z1j l,((l.length:Int),((i:Int),()))))) (fun i=>!decide (w7u (fnd b) (l.getD i default)=0)) (fun i=> .inl (encB b,(w7u (fnd b) (l.getD i default),()))) (.inr (encB b,())) (fun i hi=>by
  obtain ⟨y,hy⟩:=z2b hi
  obtain ⟨hw,h0⟩:=stp i (by omega)
  have hlt:(i:Int)<l.length:=by omega
  cases hq:fnd b y with
  |none=>
   have he:w7u (fnd b) y=5:=by simp [w7u,hq]
   have hh:(fnd b y).isSome=false:=by rw [hq]; rfl
   simp only [z2x hy,b137_1,z2t,z2u,z1j,z09,z5x,eq_self,not_true,not_false_eq_true,decide_true,decide_false,Bool.not_true,Bool.not_false,Int.reduceLT,Int.reduceNeg,Int.reduceGT,Int.reduceEq,Int.reduceLE,cond_true,cond_false,ge_iff_le,gt_iff_lt,z0b,hy,hlt,h0,hw,B_ok,B_has,hh,he,List.getElem?_map,Option.map_some]
  |some t=>
   have hh:(fnd b y).isSome=true:=by rw [hq]; rfl
   have h3:=B_3 hq
   cases ho:t.out with
   |true=>
    have he:w7u (fnd b) y=9:=by simp [w7u,hq,ho]
    rw [ho] at h3
    simp only [z2x hy,b137_1,z2t,z2u,z1j,z09,z5x,eq_self,not_true,not_false_eq_true,decide_true,decide_false,Bool.not_true,Bool.not_false,Int.reduceLT,Int.reduceNeg,Int.reduceGT,Int.reduceEq,Int.reduceLE,cond_true,cond_false,ge_iff_le,gt_iff_lt,z0b,hy,hlt,h0,hw,B_ok,B_has,hh,he,h3,List.getElem?_map,Option.map_some]
   |false=>
    have he:w7u (fnd b) y=0:=by simp [w7u,hq,ho]
    rw [ho] at h3
    simp only [z2x hy,b137_1,z2t,z2u,z1j,z09,z5x,eq_self,not_true,not_false_eq_true,decide_true,decide_false,Bool.not_true,Bool.not_false,Int.reduceLT,Int.reduceNeg,Int.reduceGT,Int.reduceEq,Int.reduceLE,cond_true,cond_false,ge_iff_le,gt_iff_lt,z0b,hy,hlt,h0,hw,B_ok,B_has,hh,he,h3,List.getElem?_map,Option.map_some]) (by
  have hn:¬ (l.length:Int)<l.length:=by omega
  simp only [b137_1,z2t,z2u,hn,if_false])
 have key:z6j (b137_1 std) (encB b,(z1j l,((l.length:Int),((0:Int),()))))=_:=key
 have e:=x45 l default fun x=>!decide (w7u (fnd b) x=0)
 rw [needErr_find, ←e]
 have hlen:(z1j l).length=l.length:=by simp [z1j]
 simp only [z2t,z2u,hlen,key]
 cases hq:(List.range l.length).find? fun i=>!decide (w7u (fnd b) (l.getD i default)=0) with
 |none=>simp
 |some i=>simp
theorem fnd_num {b:List Th} {x:Int} {t:Th} (h:fnd b x=some t):t.num=x:=by
 have:=List.find?_some h
 simpa using this
theorem G136_ok (b:List Th) (x v:Int) (hx:x≠0):G136 std (encB b,(x,(v,())))=some (if (fnd b x).isSome=true then (encB b,(11,())) else (encB (b++[⟨x,v,0,false⟩]),(0,()))):=by
 unfold G136
 cases hq:fnd b x with
 |none=>
  have hh:(fnd b x).isSome=false:=by rw [hq]; rfl
  have ha:=B_add hq v 0 false
  simp only [z2t,z2u,eq_self,not_true,not_false_eq_true,decide_true,decide_false,Bool.not_true,Bool.not_false,Int.reduceLT,Int.reduceNeg,Int.reduceGT,Int.reduceEq,Int.reduceLE,cond_true,cond_false,ge_iff_le,gt_iff_lt,z0b,B_ok,B_has,hh,ha,std_bEq]
  simp
 |some t=>
  have hh:(fnd b x).isSome=true:=by rw [hq]; rfl
  have h0:=B_0 hq
  have hn:=fnd_num hq
  have hn0:¬ t.num=0:=by omega
  simp only [z2t,z2u,eq_self,not_true,not_false_eq_true,decide_true,decide_false,Bool.not_true,Bool.not_false,Int.reduceLT,Int.reduceNeg,Int.reduceGT,Int.reduceEq,Int.reduceLE,cond_true,cond_false,ge_iff_le,gt_iff_lt,z0b,B_ok,B_has,hh,h0,hn0]
  simp [hn0]
theorem G139_ok (b:List Th) (x r lo hi:Int) (hn:(b.map (·.num)).Nodup) {t:Th} (h:fnd b x=some t):G139 std (encB b,(x,(r,(lo,(hi,())))))=some (if lo≤r∧r≤hi then (encB (upd b x fun _=>{ t with hrs:=r }),(0,())) else (encB b,(4,()))):=by
 unfold G139 G140
 have h56:=w00 lo hi [r] (by simp)
 have h56:G56 std (lo,(hi,([eI r],())))=some (!(decide (r<lo∨r>hi)||false),()):=h56
 have hh:(fnd b x).isSome=true:=by rw [h]; rfl
 have h0:=B_0 h
 have h1:=B_1 h
 have h2:=B_2 h
 have h3:=B_3 h
 have hs:=B_set h hn t.num t.val r t.out (fnd_num h)
 simp only [eI] at h56
 by_cases hb:lo≤r∧r≤hi
 ·have hd:decide (r<lo∨r>hi)=false:=by simp; omega
  rw [hd] at h56
  simp only [z2t,z2u,eq_self,not_true,not_false_eq_true,decide_true,decide_false,Bool.not_true,Bool.not_false,Int.reduceLT,Int.reduceNeg,Int.reduceGT,Int.reduceEq,Int.reduceLE,cond_true,cond_false,ge_iff_le,gt_iff_lt,z0b,B_ok,B_has,hh,h0,h1,h2,h3,h56,hs]
  simp [hb]
 ·have hd:decide (r<lo∨r>hi)=true:=by simp; omega
  rw [hd] at h56
  simp only [z2t,z2u,eq_self,not_true,not_false_eq_true,decide_true,decide_false,Bool.not_true,Bool.not_false,Int.reduceLT,Int.reduceNeg,Int.reduceGT,Int.reduceEq,Int.reduceLE,cond_true,cond_false,ge_iff_le,gt_iff_lt,z0b,B_ok,B_has,hh,h0,h1,h2,h3,h56,hs]
  simp [hb]
theorem G139_1_ok (b:List Th) (x r lo hi:Int) (hn:(b.map (·.num)).Nodup) {t:Th} (h:fnd b x=some t):G139_1 std (encB b,(x,(r,(lo,(hi,())))))=some (if lo≤r∧r≤hi then (encB (upd b x fun _=>{ t with val:=r }),(0,())) else (encB b,(4,()))):=by
 unfold G139_1 G141
 have h56:=w00 lo hi [r] (by simp)
 have h56:G56 std (lo,(hi,([eI r],())))=some (!(decide (r<lo∨r>hi)||false),()):=h56
 have hh:(fnd b x).isSome=true:=by rw [h]; rfl
 have h0:=B_0 h
 have h1:=B_1 h
 have h2:=B_2 h
 have h3:=B_3 h
 have hs:=B_set h hn t.num r t.hrs t.out (fnd_num h)
 simp only [eI] at h56
 by_cases hb:lo≤r∧r≤hi
 ·have hd:decide (r<lo∨r>hi)=false:=by simp; omega
  rw [hd] at h56
  simp only [z2t,z2u,eq_self,not_true,not_false_eq_true,decide_true,decide_false,Bool.not_true,Bool.not_false,Int.reduceLT,Int.reduceNeg,Int.reduceGT,Int.reduceEq,Int.reduceLE,cond_true,cond_false,ge_iff_le,gt_iff_lt,z0b,B_ok,B_has,hh,h0,h1,h2,h3,h56,hs]
  simp [hb]
 ·have hd:decide (r<lo∨r>hi)=true:=by simp; omega
  rw [hd] at h56
  simp only [z2t,z2u,eq_self,not_true,not_false_eq_true,decide_true,decide_false,Bool.not_true,Bool.not_false,Int.reduceLT,Int.reduceNeg,Int.reduceGT,Int.reduceEq,Int.reduceLE,cond_true,cond_false,ge_iff_le,gt_iff_lt,z0b,B_ok,B_has,hh,h0,h1,h2,h3,h56,hs]
  simp [hb]
theorem G139_2_ok (b:List Th) (x:Int) (hn:(b.map (·.num)).Nodup) {t:Th} (h:fnd b x=some t):G139_2 std (encB b,(x,(0,(0,(0,())))))=some (encB (upd b x fun _=>{ t with out:=true }),(0,())):=by
 unfold G139_2 G138
 have h56:=w00 0 0 [0] (by simp)
 have h56:G56 std (0,(0,([eI 0],())))=some (true,()):=h56
 have hh:(fnd b x).isSome=true:=by rw [h]; rfl
 have h0:=B_0 h
 have h1:=B_1 h
 have h2:=B_2 h
 have h3:=B_3 h
 have hs:=B_set h hn t.num t.val t.hrs true (fnd_num h)
 simp only [eI] at h56
 simp only [z2t,z2u,eq_self,not_true,not_false_eq_true,decide_true,decide_false,Bool.not_true,Bool.not_false,Int.reduceLT,Int.reduceNeg,Int.reduceGT,Int.reduceEq,Int.reduceLE,cond_true,cond_false,ge_iff_le,gt_iff_lt,z0b,B_ok,B_has,hh,h0,h1,h2,h3,h56,hs]
end Go.Am
end
section
namespace Go.Am
open D12
variable {fl fl':List Int→Bool}
theorem upd_const {b:List Th} {x:Int} {t:Th} {f:Th→Th} (hn:(b.map (·.num)).Nodup) (h:fnd b x=some t):upd b x f=upd b x fun _=>f t:=by
 obtain ⟨i,_,hbi,hnum,_⟩:=fnd_ix h
 rw [upd_set hn hbi hnum,upd_set hn hbi hnum]
theorem G110_1 (b:List Th) (n x a:Int) (hx:x≠0):G110 std (encB b,(n,(1,(z1j [x],(a,())))))=some (encB (play b ⟨n,1,[x],a⟩),(errC (fnd b) ⟨n,1,[x],a⟩,())):=by
 have h:=G136_ok b x a hx
 have he:errC (fnd b) ⟨n,1,[x],a⟩=if (fnd b x).isSome then 11 else 0:=by unfold errC x0; simp
 have hp:play b ⟨n,1,[x],a⟩=if (fnd b x).isSome then b else b++[⟨x,a,0,false⟩]:=by
  unfold play
  rw [he]
  cases (fnd b x).isSome<;>simp [x0]
 rw [he,hp]
 unfold G110
 cases hh:(fnd b x).isSome with
 |true=>
  rw [hh] at h
  simp only [z2t,z2u,z1j,z09,z5x,eq_self,not_true,not_false_eq_true,decide_true,decide_false,Bool.not_true,Bool.not_false,Int.reduceLT,Int.reduceNeg,Int.reduceGT,Int.reduceEq,Int.reduceLE,cond_true,cond_false,ge_iff_le,gt_iff_lt,z0b,List.map_cons,List.map_nil]
  simp [h,z09,z5x]
 |false=>
  rw [hh] at h
  simp only [z2t,z2u,z1j,z09,z5x,eq_self,not_true,not_false_eq_true,decide_true,decide_false,Bool.not_true,Bool.not_false,Int.reduceLT,Int.reduceNeg,Int.reduceGT,Int.reduceEq,Int.reduceLE,cond_true,cond_false,ge_iff_le,gt_iff_lt,z0b,List.map_cons,List.map_nil]
  simp [h,z09,z5x]
set_option maxHeartbeats 2000000 in
theorem G110_2 (b:List Th) (n x a:Int) (hb:BookOk b) (ha:1≤a∧a≤10000):G110 std (encB b,(n,(2,(z1j [x],(a,())))))=some (encB (play b ⟨n,2,[x],a⟩),(errC (fnd b) ⟨n,2,[x],a⟩,())):=by
 have hN:=G137_ok b [x] (by simp)
 have hnx:x22 (fnd b) [x]=w7u (fnd b) x:=by simp [x22]; intro h; exact h.symm
 have hn2:x22 (fnd b) (D12.needs ⟨n,2,[x],a⟩)=w7u (fnd b) x:=by simpa [D12.needs] using hnx
 rw [hnx] at hN
 have hN:G137 std (encB b,([eI x],()))=some (encB b,(w7u (fnd b) x,())):=hN
 by_cases he:w7u (fnd b) x=0
 ·obtain ⟨t,ht,_⟩:=thErr_zero he
  have htm:=List.mem_of_find?_eq_some ht
  obtain ⟨v1,v2,v3,v4⟩:=hb.2.2 t htm
  have hw:IntKind.i64.wrap (t.hrs+a)=t.hrs+a:=w4a _ (by omega) (by omega)
  have hhr:hrsS (fnd b) x=t.hrs:=by simp [hrsS,ht]
  have h139:=G139_ok b x (t.hrs+a) 0 10000 hb.2.1 ht
  have hh:(fnd b x).isSome=true:=by rw [ht]; rfl
  have h2:=B_2 ht
  have hep:errC (fnd b) ⟨n,2,[x],a⟩=if 10000<t.hrs+a then 4 else 0:=by
   unfold errC
   simp [hn2,he,x0,hhr]
  have hpp:play b ⟨n,2,[x],a⟩=if 10000<t.hrs+a then b else upd b x fun _=>{ t with hrs:=t.hrs+a }:=by
   unfold play
   rw [hep]
   by_cases h4:10000<t.hrs+a
   ·simp [h4]
   ·simp [h4,x0]
    rw [upd_const hb.2.1 ht]
    simp [v3l]
  rw [hep,hpp]
  rw [he] at hN
  unfold G110
  by_cases h4:10000<t.hrs+a
  ·have hlo:¬ (0≤t.hrs+a∧t.hrs+a≤10000):=by omega
   rw [if_neg hlo] at h139
   simp only [z2t,z2u,z1j,z09,z5x,eq_self,not_true,not_false_eq_true,decide_true,decide_false,Bool.not_true,Bool.not_false,Int.reduceLT,Int.reduceNeg,Int.reduceGT,Int.reduceEq,Int.reduceLE,cond_true,cond_false,ge_iff_le,gt_iff_lt,z0b,List.map_cons,List.map_nil]
   simp [hN,z09,z5x,B_ok,B_has,hh,h2,hw,h139,h4]
  ·have hlo:0≤t.hrs+a∧t.hrs+a≤10000:=by omega
   rw [if_pos hlo] at h139
   simp only [z2t,z2u,z1j,z09,z5x,eq_self,not_true,not_false_eq_true,decide_true,decide_false,Bool.not_true,Bool.not_false,Int.reduceLT,Int.reduceNeg,Int.reduceGT,Int.reduceEq,Int.reduceLE,cond_true,cond_false,ge_iff_le,gt_iff_lt,z0b,List.map_cons,List.map_nil]
   simp [hN,z09,z5x,B_ok,B_has,hh,h2,hw,h139,h4]
 ·have hep:errC (fnd b) ⟨n,2,[x],a⟩=w7u (fnd b) x:=by
   unfold errC
   simp [hn2,he]
  have hpp:play b ⟨n,2,[x],a⟩=b:=by
   unfold play
   rw [hep,if_pos he]
  rw [hep,hpp]
  unfold G110
  simp only [z2t,z2u,z1j,z09,z5x,eq_self,not_true,not_false_eq_true,decide_true,decide_false,Bool.not_true,Bool.not_false,Int.reduceLT,Int.reduceNeg,Int.reduceGT,Int.reduceEq,Int.reduceLE,cond_true,cond_false,ge_iff_le,gt_iff_lt,z0b,List.map_cons,List.map_nil]
  simp [hN,z09,z5x,he]
set_option maxHeartbeats 2000000 in
theorem G110_5 (b:List Th) (n x:Int) (hb:BookOk b):G110 std (encB b,(n,(5,(z1j [x],(0,())))))=some (encB (play b ⟨n,5,[x],0⟩),(errC (fnd b) ⟨n,5,[x],0⟩,())):=by
 have hN:=G137_ok b [x] (by simp)
 have hnx:x22 (fnd b) [x]=w7u (fnd b) x:=by simp [x22]; intro h; exact h.symm
 have hn2:x22 (fnd b) (D12.needs ⟨n,5,[x],0⟩)=w7u (fnd b) x:=by simpa [D12.needs] using hnx
 rw [hnx] at hN
 have hN:G137 std (encB b,([eI x],()))=some (encB b,(w7u (fnd b) x,())):=hN
 by_cases he:w7u (fnd b) x=0
 ·obtain ⟨t,ht,_⟩:=thErr_zero he
  have h139:=G139_2_ok b x hb.2.1 ht
  have hh:(fnd b x).isSome=true:=by rw [ht]; rfl
  have hep:errC (fnd b) ⟨n,5,[x],0⟩=0:=by
   unfold errC
   simp [hn2,he]
  have hpp:play b ⟨n,5,[x],0⟩=upd b x fun _=>{ t with out:=true }:=by
   unfold play
   rw [hep]
   simp [x0]
   rw [upd_const hb.2.1 ht]
   simp [v3l]
  rw [hep,hpp]
  rw [he] at hN
  unfold G110
  simp only [z2t,z2u,z1j,z09,z5x,eq_self,not_true,not_false_eq_true,decide_true,decide_false,Bool.not_true,Bool.not_false,Int.reduceLT,Int.reduceNeg,Int.reduceGT,Int.reduceEq,Int.reduceLE,cond_true,cond_false,ge_iff_le,gt_iff_lt,z0b,List.map_cons,List.map_nil]
  simp [hN,z09,z5x,B_ok,B_has,hh,h139]
 ·have hep:errC (fnd b) ⟨n,5,[x],0⟩=w7u (fnd b) x:=by
   unfold errC
   simp [hn2,he]
  have hpp:play b ⟨n,5,[x],0⟩=b:=by
   unfold play
   rw [hep,if_pos he]
  rw [hep,hpp]
  unfold G110
  simp only [z2t,z2u,z1j,z09,z5x,eq_self,not_true,not_false_eq_true,decide_true,decide_false,Bool.not_true,Bool.not_false,Int.reduceLT,Int.reduceNeg,Int.reduceGT,Int.reduceEq,Int.reduceLE,cond_true,cond_false,ge_iff_le,gt_iff_lt,z0b,List.map_cons,List.map_nil]
  simp [hN,z09,z5x,he]
set_option maxHeartbeats 2000000 in
theorem G110_3 (b:List Th) (n x y a:Int) (hb:BookOk b) (ha:1≤a∧a≤100000):G110 std (encB b,(n,(3,(z1j [x,y],(a,())))))=some (encB (play b ⟨n,3,[x,y],a⟩),(errC (fnd b) ⟨n,3,[x,y],a⟩,())):=by
 have hN:=G137_ok b [x,y] (by simp)
 have hn2:D12.needs ⟨n,3,[x,y],a⟩=[x,y]:=rfl
 have hN:G137 std (encB b,([eI x,eI y],()))=some (encB b,(x22 (fnd b) [x,y],())):=hN
 by_cases he:x22 (fnd b) [x,y]=0
 ·obtain ⟨t,ht,_⟩:=thErr_zero (need_zero he x (by simp))
  obtain ⟨u,hu,_⟩:=thErr_zero (need_zero he y (by simp))
  obtain ⟨v1,v2,_,_⟩:=hb.2.2 u (List.mem_of_find?_eq_some hu)
  obtain ⟨hw,w1,w2⟩:=quo_wrap v1 v2 (by omega:0≤a) ha.2
  have hvy:w03 (fnd b) y=u.val:=by simp [w03,hu]
  have hq:IntKind.i64.wrap ((u.val*a).tdiv 1000)=(u.val*a).tdiv 1000:=w4a _ (by rw [Int.tdiv_eq_ediv_of_nonneg w1]; omega) (by rw [Int.tdiv_eq_ediv_of_nonneg w1]; omega)
  have hqq:std.ar .quo .i64 (std.ar .mul .i64 u.val a) 1000=(u.val*a).tdiv 1000:=by rw [std_ar_mul,std_ar_quo,hw,hq]
  have h139:=G139_1_ok b x ((u.val*a).tdiv 1000) 1 1000000 hb.2.1 ht
  have hh:(fnd b x).isSome=true:=by rw [ht]; rfl
  have hhy:(fnd b y).isSome=true:=by rw [hu]; rfl
  have h1:=B_1 hu
  have hep:errC (fnd b) ⟨n,3,[x,y],a⟩=if (u.val*a).tdiv 1000<1∨1000000<(u.val*a).tdiv 1000 then 4 else 0:=by
   unfold errC
   simp [hn2,he,x1,hvy]
  have hpp:play b ⟨n,3,[x,y],a⟩=if (u.val*a).tdiv 1000<1∨1000000<(u.val*a).tdiv 1000 then b else upd b x fun _=>{ t with val:=(u.val*a).tdiv 1000 }:=by
   unfold play
   rw [hep]
   by_cases h4:(u.val*a).tdiv 1000<1∨1000000<(u.val*a).tdiv 1000
   ·simp [h4]
   ·have hc:=upd_const (f:=v3l (fnd b) ⟨n,3,[x,y],a⟩) hb.2.1 ht
    have htt:v3l (fnd b) ⟨n,3,[x,y],a⟩ t={ t with val:=(u.val*a).tdiv 1000 }:=by simp [v3l,x1,hvy]
    rw [htt] at hc
    simp [h4,x0]
    exact hc
  rw [hep,hpp]
  rw [he] at hN
  generalize (u.val*a).tdiv 1000=q at*
  unfold G110
  by_cases h4:q<1∨1000000<q
  ·have hlo:¬ (1≤q∧q≤1000000):=by omega
   rw [if_neg hlo] at h139
   simp only [z2t,z2u,z1j,z09,z5x,eq_self,not_true,not_false_eq_true,decide_true,decide_false,Bool.not_true,Bool.not_false,Int.reduceLT,Int.reduceNeg,Int.reduceGT,Int.reduceEq,Int.reduceLE,cond_true,cond_false,ge_iff_le,gt_iff_lt,z0b,List.map_cons,List.map_nil]
   simp [hN,z09,z5x,B_ok,B_has,hh,hhy,h1,hqq,h139,h4]
  ·have hlo:1≤q∧q≤1000000:=by omega
   rw [if_pos hlo] at h139
   simp only [z2t,z2u,z1j,z09,z5x,eq_self,not_true,not_false_eq_true,decide_true,decide_false,Bool.not_true,Bool.not_false,Int.reduceLT,Int.reduceNeg,Int.reduceGT,Int.reduceEq,Int.reduceLE,cond_true,cond_false,ge_iff_le,gt_iff_lt,z0b,List.map_cons,List.map_nil]
   simp [hN,z09,z5x,B_ok,B_has,hh,hhy,h1,hqq,h139,h4]
 ·have hep:errC (fnd b) ⟨n,3,[x,y],a⟩=x22 (fnd b) [x,y]:=by
   unfold errC
   simp [hn2,he]
  have hpp:play b ⟨n,3,[x,y],a⟩=b:=by
   unfold play
   rw [hep,if_pos he]
  rw [hep,hpp]
  unfold G110
  simp only [z2t,z2u,z1j,z09,z5x,eq_self,not_true,not_false_eq_true,decide_true,decide_false,Bool.not_true,Bool.not_false,Int.reduceLT,Int.reduceNeg,Int.reduceGT,Int.reduceEq,Int.reduceLE,cond_true,cond_false,ge_iff_le,gt_iff_lt,z0b,List.map_cons,List.map_nil]
  simp [hN,z09,z5x,he]
set_option maxHeartbeats 2000000 in
theorem G110_6 (b:List Th) (n x y z a:Int) (hb:BookOk b) (ha:0≤a∧a≤1000000):G110 std (encB b,(n,(6,(z1j [x,y,z],(a,())))))=some (encB (play b ⟨n,6,[x,y,z],a⟩),(errC (fnd b) ⟨n,6,[x,y,z],a⟩,())):=by
 have hN:=G137_ok b [x,y,z] (by simp)
 have hn2:D12.needs ⟨n,6,[x,y,z],a⟩=[x,y,z]:=rfl
 have hN:G137 std (encB b,([eI x,eI y,eI z],()))=some (encB b,(x22 (fnd b) [x,y,z],())):=hN
 by_cases he:x22 (fnd b) [x,y,z]=0
 ·obtain ⟨t,ht,_⟩:=thErr_zero (need_zero he x (by simp))
  obtain ⟨u,hu,_⟩:=thErr_zero (need_zero he y (by simp))
  obtain ⟨v,hv,_⟩:=thErr_zero (need_zero he z (by simp))
  obtain ⟨t1,t2,_,_⟩:=hb.2.2 t (List.mem_of_find?_eq_some ht)
  obtain ⟨u1,u2,_,_⟩:=hb.2.2 u (List.mem_of_find?_eq_some hu)
  obtain ⟨v1,v2,_,_⟩:=hb.2.2 v (List.mem_of_find?_eq_some hv)
  have e1:w03 (fnd b) x=t.val:=by simp [w03,ht]
  have e2:w03 (fnd b) y=u.val:=by simp [w03,hu]
  have e3:w03 (fnd b) z=v.val:=by simp [w03,hv]
  have hx:(fnd b x).isSome=true:=by rw [ht]; rfl
  have hy:(fnd b y).isSome=true:=by rw [hu]; rfl
  have hz:(fnd b z).isSome=true:=by rw [hv]; rfl
  have b1:=B_1 ht
  have b2:=B_1 hu
  have b3:=B_1 hv
  have hep:errC (fnd b) ⟨n,6,[x,y,z],a⟩=if a<t.val+u.val - v.val∨a< -(t.val+u.val - v.val) then 23 else 0:=by
   unfold errC
   simp [hn2,he,x0,x1,x2,e1,e2,e3]
  have hpp:play b ⟨n,6,[x,y,z],a⟩=b:=by
   unfold play
   rw [hep]
   split
   ·rfl
   ·simp
    exact upd_id fun t=>by simp [v3l]
  rw [hep,hpp]
  rw [he] at hN
  have q1:std.ar .sub .i64 (IntKind.i64.wrap (t.val+u.val)) v.val=t.val+u.val - v.val:=by
   rw [z9r,w4a (t.val+u.val) (by omega) (by omega),w4a _ (by omega) (by omega)]
  have q2:std.ar .sub .i64 0 a= -a:=by
   rw [z9r,w4a _ (by omega) (by omega)]; omega
  have h56:=w00 (-a) a [t.val+u.val - v.val] (by simp)
  generalize t.val+u.val - v.val=q at*
  have h56:G56 std (-a,(a,([[.int .i64 q]],())))=some (!(decide (q< -a∨q>a)||false),()):=h56
  unfold G110
  by_cases h4:a<q∨a< -q
  ·have hd:decide (q< -a∨q>a)=true:=by simp; omega
   rw [hd] at h56
   simp only [z2t,z2u,z1j,z09,z5x,eq_self,not_true,not_false_eq_true,decide_true,decide_false,Bool.not_true,Bool.not_false,Int.reduceLT,Int.reduceNeg,Int.reduceGT,Int.reduceEq,Int.reduceLE,cond_true,cond_false,ge_iff_le,gt_iff_lt,z0b,List.map_cons,List.map_nil]
   simp [hN,z09,z5x,B_ok,B_has,hx,hy,hz,b1,b2,b3,q1,q2,h56,h4]
  ·have hd:decide (q< -a∨q>a)=false:=by simp; omega
   rw [hd] at h56
   simp only [z2t,z2u,z1j,z09,z5x,eq_self,not_true,not_false_eq_true,decide_true,decide_false,Bool.not_true,Bool.not_false,Int.reduceLT,Int.reduceNeg,Int.reduceGT,Int.reduceEq,Int.reduceLE,cond_true,cond_false,ge_iff_le,gt_iff_lt,z0b,List.map_cons,List.map_nil]
   simp [hN,z09,z5x,B_ok,B_has,hx,hy,hz,b1,b2,b3,q1,q2,h56,h4]
 ·have hep:errC (fnd b) ⟨n,6,[x,y,z],a⟩=x22 (fnd b) [x,y,z]:=by
   unfold errC
   simp [hn2,he]
  have hpp:play b ⟨n,6,[x,y,z],a⟩=b:=by
   unfold play
   rw [hep,if_pos he]
  rw [hep,hpp]
  unfold G110
  simp only [z2t,z2u,z1j,z09,z5x,eq_self,not_true,not_false_eq_true,decide_true,decide_false,Bool.not_true,Bool.not_false,Int.reduceLT,Int.reduceNeg,Int.reduceGT,Int.reduceEq,Int.reduceLE,cond_true,cond_false,ge_iff_le,gt_iff_lt,z0b,List.map_cons,List.map_nil]
  simp [hN,z09,z5x,he]
theorem upd_append (a b:List Th) (x:Int) (f:Th→Th):upd (a++b) x f=upd a x f++upd b x f:=by simp [upd]
set_option maxHeartbeats 2000000 in
theorem G110_4 (b:List Th) (n x y:Int) (hb:BookOk b) (hxy:x≠y) (hy0:y≠0):G110 std (encB b,(n,(4,(z1j [x,y],(0,())))))=some (encB (play b ⟨n,4,[x,y],0⟩),(errC (fnd b) ⟨n,4,[x,y],0⟩,())):=by
 have hN:=G137_ok b [x] (by simp)
 have hnx:x22 (fnd b) [x]=w7u (fnd b) x:=by simp [x22]; intro h; exact h.symm
 have hn2:x22 (fnd b) (D12.needs ⟨n,4,[x,y],0⟩)=w7u (fnd b) x:=by simpa [D12.needs] using hnx
 rw [hnx] at hN
 have hN:G137 std (encB b,([eI x],()))=some (encB b,(w7u (fnd b) x,())):=hN
 by_cases he:w7u (fnd b) x=0
 ·obtain ⟨t,ht,_⟩:=thErr_zero he
  have hh:(fnd b x).isSome=true:=by rw [ht]; rfl
  have h1:=B_1 ht
  have h136:=G136_ok b y t.val hy0
  have hvx:w03 (fnd b) x=t.val:=by simp [w03,ht]
  have hep:errC (fnd b) ⟨n,4,[x,y],0⟩=if (fnd b y).isSome=true then 11 else 0:=by
   unfold errC
   simp [hn2,he,x1]
  rw [he] at hN
  cases hy:(fnd b y).isSome with
  |true=>
   rw [hy] at h136 hep
   have hep:errC (fnd b) ⟨n,4,[x,y],0⟩=11:=by rw [hep]; rfl
   have hpp:play b ⟨n,4,[x,y],0⟩=b:=by unfold play; rw [hep]; rfl
   have h136:G136 std (encB b,(y,(t.val,())))=some (encB b,(11,())):=h136
   rw [hep,hpp]
   unfold G110
   simp only [z2t,z2u,z1j,z09,z5x,eq_self,not_true,not_false_eq_true,decide_true,decide_false,Bool.not_true,Bool.not_false,Int.reduceLT,Int.reduceNeg,Int.reduceGT,Int.reduceEq,Int.reduceLE,cond_true,cond_false,ge_iff_le,gt_iff_lt,z0b,List.map_cons,List.map_nil]
   simp [hN,z09,z5x,B_ok,B_has,hh,h1,h136]
  |false=>
   rw [hy] at h136 hep
   have hep:errC (fnd b) ⟨n,4,[x,y],0⟩=0:=by rw [hep]; rfl
   have hyn:fnd b y=none:=by
    cases hq:fnd b y with
    |none=>rfl
    |some u=>rw [hq] at hy; cases hy
   have h136:G136 std (encB b,(y,(t.val,())))=some (encB (b++[⟨y,t.val,0,false⟩]),(0,())):=h136
   have hpp:play b ⟨n,4,[x,y],0⟩=upd (b++[⟨y,t.val,0,false⟩]) x fun _=>{ t with out:=true }:=by
    unfold play
    rw [hep,upd_append]
    have e1:upd [⟨y,t.val,0,false⟩] x (fun _=>{ t with out:=true })=[⟨y,t.val,0,false⟩]:=by
     simp [upd]; intro e; exact absurd e.symm hxy
    rw [e1]
    have hc:=upd_const (f:=v3l (fnd b) ⟨n,4,[x,y],0⟩) hb.2.1 ht
    have htt:v3l (fnd b) ⟨n,4,[x,y],0⟩ t={ t with out:=true }:=by simp [v3l]
    rw [htt] at hc
    simp [x0,x1,hvx,hc]
   have hnd:((b++[⟨y,t.val,0,false⟩]:List Th).map (·.num)).Nodup:=by
    rw [List.map_append,List.nodup_append]
    refine ⟨hb.2.1,by simp,fun a ha b' hb'=>?_⟩
    simp at hb'
    subst hb'
    exact fun e=>fnd_notin hyn (e▸ha)
   have hfx:fnd (b++[⟨y,t.val,0,false⟩]) x=some t:=by
    rw [fnd_app (t:=⟨y,t.val,0,false⟩) hyn,if_neg hxy]; exact ht
   have h139:=G139_2_ok (b++[⟨y,t.val,0,false⟩]) x hnd hfx
   rw [hep,hpp]
   unfold G110
   simp only [z2t,z2u,z1j,z09,z5x,eq_self,not_true,not_false_eq_true,decide_true,decide_false,Bool.not_true,Bool.not_false,Int.reduceLT,Int.reduceNeg,Int.reduceGT,Int.reduceEq,Int.reduceLE,cond_true,cond_false,ge_iff_le,gt_iff_lt,z0b,List.map_cons,List.map_nil]
   simp [hN,z09,z5x,B_ok,B_has,hh,h1,h136,h139]
 ·have hep:errC (fnd b) ⟨n,4,[x,y],0⟩=w7u (fnd b) x:=by
   unfold errC
   simp [hn2,he]
  have hpp:play b ⟨n,4,[x,y],0⟩=b:=by
   unfold play
   rw [hep,if_pos he]
  rw [hep,hpp]
  unfold G110
  simp only [z2t,z2u,z1j,z09,z5x,eq_self,not_true,not_false_eq_true,decide_true,decide_false,Bool.not_true,Bool.not_false,Int.reduceLT,Int.reduceNeg,Int.reduceGT,Int.reduceEq,Int.reduceLE,cond_true,cond_false,ge_iff_le,gt_iff_lt,z0b,List.map_cons,List.map_nil]
  simp [hN,z09,z5x,he]
end Go.Am
end
section
namespace Go.Am
open D12
variable {fl fl':List Int→Bool}
theorem G110_ok (b:List Th) (c:Cd) (hb:BookOk b) (hc:z3x c=0):G110 std (encB b,(c.n,(c.k,(z1j c.t,(c.a,())))))=some (encB (play b c),(errC (fnd b) c,())):=by
 have hw:=wf_of hc
 obtain ⟨_,hk,hlen,hnum,hnd,hfit⟩:=cardSt_zero.1 hc
 obtain ⟨n,k,t,a⟩:=c
 simp only at hk hlen hfit hnum hnd⊢
 have nz:∀ x∈t,x≠0:=fun x hx=>by have:=hnum x hx; unfold z7m at this; omega
 rcases y4s hk with ⟨hks,hm⟩|⟨hks,hm⟩|⟨rfl,hm⟩
 ·rw [hm] at hlen
  obtain ⟨x,rfl⟩:=List.length_eq_one_iff.1 hlen
  rcases hks with rfl|rfl|rfl
  ·exact G110_1 b n x a (nz x (by simp))
  ·exact G110_2 b n x a hb (by unfold w2o at hfit; omega)
  ·have ha:a=0:=by unfold w2o at hfit; omega
   subst ha
   exact G110_5 b n x hb
 ·rw [hm] at hlen
  obtain ⟨x,y,rfl⟩:∃ x y,t=[x,y]:=by
   match t,hlen with
   |[x,y],_=>exact ⟨x,y,rfl⟩
  rcases hks with rfl|rfl
  ·exact G110_3 b n x y a hb (by unfold w2o at hfit; omega)
  ·have ha:a=0:=by unfold w2o at hfit; omega
   subst ha
   have hxy:x≠y:=by simpa using hnd
   exact G110_4 b n x y hb hxy (nz y (by simp))
 ·rw [hm] at hlen
  obtain ⟨x,y,z,rfl⟩:∃ x y z,t=[x,y,z]:=by
   match t,hlen with
   |[x,y,z],_=>exact ⟨x,y,z,rfl⟩
  exact G110_6 b n x y z a hb (by unfold w2o at hfit; omega)
theorem b61_1_ok (l:List Cd) (hl:l.length≤60) (hc:∀ c∈l,z3x c=0) (hf:Few l):z6j (b61_1 std) ([],([],(z0u fl l,((l.length:Int),((0:Int),())))))=some (encB (bookOf l),(z1j (errs no l),())):=by
 have key:=y64 (b:=b61_1 std) l.length (fun (_:Unit) i=>(encB (bookOf (l.take i)),(z1j (errs no (l.take i)),(z0u fl l,((l.length:Int),((i:Int),())))))) (fun _ _=>True) (fun r=>r=(encB (bookOf l),(z1j (errs no l),())))
  (fun _ i hi _=> .inl ⟨(),by
   obtain ⟨c,hm⟩:=z2b hi
   obtain ⟨hw,h0⟩:=stp i (by omega)
   have hlt:(i:Int)<l.length:=by omega
   have hcm:=List.mem_of_getElem? hm
   obtain ⟨k1,k2⟩:=book_rev (l.take i) fun d hd=>hc d (List.mem_of_mem_take hd)
   have h62:=G110_ok (bookOf (l.take i)) c (k1.ok (by simp; omega)) (hc c hcm)
   have ht:l.take (i+1)=l.take i++[c]:=by rw [List.take_add_one,hm]; rfl
   have he:errs no (l.take (i+1))=errs no (l.take i)++[errC (fnd (bookOf (l.take i))) c]:=by rw [ht,errs_snoc,st_eq,k2]
   have hen:z1j (errs no (l.take (i+1)))=z1j (errs no (l.take i))++[[.int .i64 (errC (fnd (bookOf (l.take i))) c)]]:=by rw [he]; simp [z1j,eI]
   have hel:(z1j (errs no (l.take i))).length≤60:=by simp [z1j,errs_length]; omega
   have hbk:bookOf (l.take (i+1))=play (bookOf (l.take i)) c:=by rw [ht,book_snoc]
   rw [hen,hbk]
   generalize z1j (errs no (l.take i))=E at*
   have e1:E.length+1≤1000000:=by omega
   have et:List.take E.length (List.drop 0 E)=E:=by rw [List.drop_zero,List.take_length]
   simp only [z1j] at h62
   simp only [z2x hm,b61_1,z2t,z2u,z0u,z1j,z1k,z3o,z3n,z3l,z3m,eq_self,not_true,not_false_eq_true,decide_true,decide_false,Bool.not_true,Bool.not_false,Int.reduceLT,Int.reduceNeg,Int.reduceGT,Int.reduceEq,Int.reduceLE,cond_true,cond_false,ge_iff_le,gt_iff_lt,z0b,hm,hlt,h0,hw,h62,e1,et,List.getElem?_map,Option.map_some]
   simp [et,e1],trivial⟩)
  (fun _ _=>⟨_,by
   have hn:¬ (l.length:Int)<l.length:=by omega
   simp only [b61_1,z2t,z2u,z2y,hn,if_false,Nat.le_refl,eq_self,not_true,not_false_eq_true,decide_true,decide_false,Bool.not_true,Bool.not_false,Int.reduceLT,Int.reduceNeg,Int.reduceGT,Int.reduceEq,Int.reduceLE,cond_true,cond_false,ge_iff_le,gt_iff_lt,z0b,List.take_length],rfl⟩) () 0 (Nat.zero_le _) trivial
 obtain ⟨r,h1,rfl⟩:=key
 exact h1
theorem G61_ok (l:List Cd) (hl:l.length≤60) (hc:∀ c∈l,z3x c=0) (hf:Few l):G61 std (z0u fl l,())=some (encB (bookOf l),(z1j (errs no l),())):=by
 unfold G61
 have hk:=b61_1_ok (fl:=fl) l hl hc hf
 simp only [z2t,z2u,eq_self,not_true,not_false_eq_true,decide_true,decide_false,Bool.not_true,Bool.not_false,Int.reduceLT,Int.reduceNeg,Int.reduceGT,Int.reduceEq,Int.reduceLE,cond_true,cond_false,ge_iff_le,gt_iff_lt,z0b,z2y,hk]
theorem G21_ok (l:List Cd) (hf:Few l):G21 std (z0u fl l,())=some ((if z5l l=0 then z1j (errs no l) else []),(z5l l,())):=by
 unfold G21
 by_cases hd:z5l l=0
 ·obtain ⟨h1,h2,_⟩:=dockSt_zero.1 hd
  have hk:=G61_ok (fl:=fl) l h1 h2 hf
  simp only [z2t,z2u,eq_self,not_true,not_false_eq_true,decide_true,decide_false,Bool.not_true,Bool.not_false,Int.reduceLT,Int.reduceNeg,Int.reduceGT,Int.reduceEq,Int.reduceLE,cond_true,cond_false,ge_iff_le,gt_iff_lt,z0b,w4x l hf,hd,hk]
 ·simp only [z2t,z2u,eq_self,not_true,not_false_eq_true,decide_true,decide_false,Bool.not_true,Bool.not_false,Int.reduceLT,Int.reduceNeg,Int.reduceGT,Int.reduceEq,Int.reduceLE,cond_true,cond_false,ge_iff_le,gt_iff_lt,z0b,w4x l hf,hd]
  try simp [hd]
end Go.Am
end
section
namespace Go.Am
open D12
variable {fl fl':List Int→Bool}
def nums (b:List Th):List Int:=b.map (·.num)
def things (b:List Th):List Th:=(srt (nums b)).map fun x=>(fnd b x).getD default
def GoodN (b:List Th):Prop:=b.length≤1000∧(nums b).Nodup∧∀ t∈b,z7m t.num
theorem keysI_B (b:List Th):y51 (encB b)=nums b:=by
 unfold y51 encB MEnc.enc mb nums
 rw [List.map_map,List.map_map]; rfl
theorem G63_ok (b:List Th) (hb:GoodN b):G63 std (encB b,())=some (encB b,(y50 (nums b),())):=by
 unfold G63
 have hg:z8e (encB b)=true:=by
  unfold z8e
  rw [Bool.and_eq_true]
  refine ⟨?_,?_⟩
  ·exact Nat.ble_eq_true_of_le (by unfold encB MEnc.enc mb; rw [List.length_map,List.length_map]; have:=hb.1; omega)
  ·rw [Bool.and_eq_true]
   refine ⟨?_,by rw [keysI_B]; exact z9g.2 hb.2.1⟩
   rw [List.all_eq_true]
   intro e he
   unfold encB MEnc.enc mb at he
   rw [List.map_map] at he
   obtain ⟨t,ht,rfl⟩:=List.mem_map.1 he
   have hn:=hb.2.2 t ht
   unfold z7m at hn
   show (Lit.int .i64 t.num).wf=true
   simp only [Lit.wf,IntKind.min,IntKind.max,IntKind.signed,IntKind.bits]
   simp
   omega
 rw [hg,keysI_B]
 rfl
theorem G57p_ok (b:List Th) (hb:GoodN b):v3b std (y50 (nums b),())=some (z1j (srt (nums b)),()):=by
 unfold v3b
 have h1:y8y (y50 (nums b))=some (nums b):=x6i (nums b)
 have h2:z8l (nums b)=true:=z9g.2 hb.2.1
 have h3:Nat.ble (nums b).length 1000000=true:=Nat.ble_eq_true_of_le (by unfold nums; rw [List.length_map]; have:=hb.1; omega)
 simp only [h1,h2,h3,Bool.and_self,cond_true]
 rfl
theorem fnd_mem {b:List Th} {x:Int} (h:x∈nums b):∃ t,fnd b x=some t:=by
 cases hq:fnd b x with
 |none=>exact absurd h (fnd_notin hq)
 |some t=>exact ⟨t,rfl⟩
theorem b23_1_ok (b:List Th) (hb:GoodN b):z6j (b23_1 std) (encB b,([],(z1j (srt (nums b)),(((srt (nums b)).length:Int),((0:Int),())))))=some (z6l (things b),()):=by
 have hsl:(srt (nums b)).length≤1000:=by rw [(srt_perm _).length_eq]; unfold nums; rw [List.length_map]; exact hb.1
 have hmem:∀ x∈srt (nums b),∃ t,fnd b x=some t:=fun x hx=>fnd_mem ((srt_perm _).mem_iff.1 hx)
 unfold things
 generalize srt (nums b)=S at*
 have key:=y64 (b:=b23_1 std) S.length (fun (_:Unit) i=>(encB b,(z6l ((S.take i).map fun x=>(fnd b x).getD default),(z1j S,((S.length:Int),((i:Int),())))))) (fun _ _=>True) (fun r=>r=(z6l (S.map fun x=>(fnd b x).getD default),()))
  (fun _ i hi _=> .inl ⟨(),by
   obtain ⟨x,hm⟩:=z2b hi
   obtain ⟨hw,h0⟩:=stp i (by omega)
   have hlt:(i:Int)<S.length:=by omega
   obtain ⟨t,hx⟩:=hmem x (List.mem_of_getElem? hm)
   have ht:S.take (i+1)=S.take i++[x]:=by rw [List.take_add_one,hm]; rfl
   have hen:z6l ((S.take (i+1)).map fun x=>(fnd b x).getD default)=z6l ((S.take i).map fun x=>(fnd b x).getD default)++[eTh t]:=by rw [ht]; simp [z6l,hx]
   have hel:(z6l ((S.take i).map fun x=>(fnd b x).getD default)).length≤1000:=by simp [z6l]; omega
   have hh:(fnd b x).isSome=true:=by rw [hx]; rfl
   have q0:=B_0 hx
   have q1:=B_1 hx
   have q2:=B_2 hx
   have q3:=B_3 hx
   rw [hen]
   generalize z6l ((S.take i).map fun x=>(fnd b x).getD default)=E at*
   have e1:E.length+1≤1000000:=by omega
   have et:List.take E.length (List.drop 0 E)=E:=by rw [List.drop_zero,List.take_length]
   simp only [b23_1,z2t,z2u,z1j,z09,z5x,eq_self,not_true,not_false_eq_true,decide_true,decide_false,Bool.not_true,Bool.not_false,Int.reduceLT,Int.reduceNeg,Int.reduceGT,Int.reduceEq,Int.reduceLE,cond_true,cond_false,ge_iff_le,gt_iff_lt,z0b,hm,hlt,h0,hw,B_ok,B_has,hh,q0,q1,q2,q3,e1,et,List.getElem?_map,Option.map_some]
   simp [et,e1,eTh]
   simpa using hw,trivial⟩)
  (fun _ _=>⟨_,by
   have hn:¬ (S.length:Int)<S.length:=by omega
   simp only [b23_1,z2t,z2u,hn,if_false,Nat.le_refl,eq_self,not_true,not_false_eq_true,decide_true,decide_false,Bool.not_true,Bool.not_false,Int.reduceLT,Int.reduceNeg,Int.reduceGT,Int.reduceEq,Int.reduceLE,cond_true,cond_false,ge_iff_le,gt_iff_lt,z0b,List.take_length],rfl⟩) () 0 (Nat.zero_le _) trivial
 obtain ⟨r,h1,rfl⟩:=key
 exact h1
theorem play_nums {b:List Th} {c:Cd} (hc:z3x c=0) (hb:∀ t∈b,z7m t.num):∀ t∈play b c,z7m t.num:=by
 have hw:=wf_of hc
 obtain ⟨_,hk,hlen,hnum,_,_⟩:=cardSt_zero.1 hc
 have hu:∀ t∈upd b (x0 c) (v3l (fnd b) c),z7m t.num:=by
  intro t ht
  unfold upd at ht
  obtain ⟨u,hu,rfl⟩:=List.mem_map.1 ht
  split
  ·rw [turn_num]; exact hb u hu
  ·exact hb u hu
 unfold play
 split
 ·exact hb
 ·split
  ·intro t ht
   rcases List.mem_append.1 ht with ht|ht
   ·exact hb t ht
   ·simp at ht; subst ht; exact hnum _ (x0_mem hw)
  ·split
   ·rename_i h4
    intro t ht
    rcases List.mem_append.1 ht with ht|ht
    ·exact hu t ht
    ·simp at ht; subst ht; exact hnum _ (x1_mem hw (by unfold z3u; simp [h4]))
   ·exact hu
theorem book_good (l:List Cd) (hl:l.length≤60) (h:∀ c∈l,z3x c=0):GoodN (bookOf l):=by
 obtain ⟨h1,_⟩:=book_rev l h
 refine ⟨by have:=h1.1; omega,h1.2.1,?_⟩
 have key:∀ (l:List Cd) (b:List Th),(∀ c∈l,z3x c=0)→(∀ t∈b,z7m t.num)→∀ t∈l.foldl play b,z7m t.num:=by
  intro l
  induction l with
  |nil=>intro b _ hb; exact hb
  |cons c l ih=>intro b hc hb; exact ih _ (fun d hd=>hc d (List.mem_cons_of_mem _ hd)) (play_nums (hc c (List.mem_cons_self ..)) hb)
 exact key l [] h (by simp)
theorem G23_ok (l:List Cd) (hf:Few l):G23 std (z0u fl l,())=some ((if z5l l=0 then z6l (things (bookOf l)) else []),(z5l l,())):=by
 unfold G23 G64
 by_cases hd:z5l l=0
 ·obtain ⟨h1,h2,_⟩:=dockSt_zero.1 hd
  have hk:=G61_ok (fl:=fl) l h1 h2 hf
  have hg:=book_good l h1 h2
  have h63:=G63_ok _ hg
  have h57:=G57p_ok _ hg
  have h23:=b23_1_ok _ hg
  have hlen:(z1j (srt (nums (bookOf l)))).length=(srt (nums (bookOf l))).length:=by simp [z1j]
  simp only [z2t,z2u,eq_self,not_true,not_false_eq_true,decide_true,decide_false,Bool.not_true,Bool.not_false,Int.reduceLT,Int.reduceNeg,Int.reduceGT,Int.reduceEq,Int.reduceLE,cond_true,cond_false,ge_iff_le,gt_iff_lt,z0b,w4x l hf,hd,hk,h63,h57,hlen,h23]
 ·simp only [z2t,z2u,eq_self,not_true,not_false_eq_true,decide_true,decide_false,Bool.not_true,Bool.not_false,Int.reduceLT,Int.reduceNeg,Int.reduceGT,Int.reduceEq,Int.reduceLE,cond_true,cond_false,ge_iff_le,gt_iff_lt,z0b,w4x l hf,hd]
  try simp [hd]
end Go.Am
end
section
namespace Go.Am
open D12
variable {fl fl':List Int→Bool}
def Best (b:List Th) (last:Int) (best:Int) (j:Nat):Prop:=
 (best= -1∧∀ (m:Nat) (t:Th),m<j→b[m]?=some t→t.num≤last)∨
 ∃ (k:Nat) (u:Th),best=k∧k<j∧b[k]?=some u∧last<u.num∧∀ (m:Nat) (t:Th),m<j→b[m]?=some t→last<t.num→u.num≤t.num
theorem b24_3_ok (b:List Th) (E:List (List D)) (last:Int) (hl:b.length≤1000):∃ best,z6j (b24_3 std) (E,(z6l b,(last,((-1:Int),((0:Int),())))))=some (E,(z6l b,(best,())))∧Best b last best b.length:=by
 have key:=y64 (b:=b24_3 std) b.length (fun (best:Int) i=>(E,(z6l b,(last,(best,((i:Int),()))))) ) (fun best i=>Best b last best i) (fun r=>∃ best,r=(E,(z6l b,(best,())))∧Best b last best b.length)
  (fun best i hi hI=>by
   left
   obtain ⟨t,hm⟩:=z2b hi
   obtain ⟨hw,h0⟩:=stp i (by omega)
   have hlt:(i:Int)<b.length:=by omega
   have hBi:=encTh_get hm
   have hBl:=encTh_len b
   by_cases hgt:last<t.num
   ·rcases hI with ⟨rfl,hno⟩|⟨k,u,rfl,hk,hu,hlu,hmin⟩
    ·refine ⟨(i:Int),?_, .inr ⟨i,t,rfl,by omega,hm,hgt,fun m t' hmi ht' hlt'=>?_⟩⟩
     ·generalize z6l b=B at*
      simp only [b24_3,z2t,z2u,eq_self,not_true,not_false_eq_true,decide_true,decide_false,Bool.not_true,Bool.not_false,Int.reduceLT,Int.reduceNeg,Int.reduceGT,Int.reduceEq,Int.reduceLE,cond_true,cond_false,ge_iff_le,gt_iff_lt,z0b,hBi,hBl,hlt,h0,hw,z00,z17,hgt]
      try simp
     ·by_cases e:m=i
      ·subst e; rw [hm] at ht'; cases ht'; exact Int.le_refl _
      ·exact absurd (hno m t' (by omega) ht') (by omega)
    ·have hk0:¬ (k:Int)<0:=by omega
     have hk1:(0:Int)≤k:=by omega
     have hBk:=encTh_get hu
     by_cases hlt2:t.num<u.num
     ·refine ⟨(i:Int),?_, .inr ⟨i,t,rfl,by omega,hm,hgt,fun m t' hmi ht' hlt'=>?_⟩⟩
      ·generalize z6l b=B at*
       simp only [b24_3,z2t,z2u,eq_self,not_true,not_false_eq_true,decide_true,decide_false,Bool.not_true,Bool.not_false,Int.reduceLT,Int.reduceNeg,Int.reduceGT,Int.reduceEq,Int.reduceLE,cond_true,cond_false,ge_iff_le,gt_iff_lt,z0b,hBi,hBk,hBl,hlt,h0,hk0,hk1,hw,z00,z17,hgt,hlt2]
       try simp
      ·by_cases e:m=i
       ·subst e; rw [hm] at ht'; cases ht'; exact Int.le_refl _
       ·have:=hmin m t' (by omega) ht' hlt'; omega
     ·refine ⟨(k:Int),?_, .inr ⟨k,u,rfl,by omega,hu,hlu,fun m t' hmi ht' hlt'=>?_⟩⟩
      ·generalize z6l b=B at*
       simp only [b24_3,z2t,z2u,eq_self,not_true,not_false_eq_true,decide_true,decide_false,Bool.not_true,Bool.not_false,Int.reduceLT,Int.reduceNeg,Int.reduceGT,Int.reduceEq,Int.reduceLE,cond_true,cond_false,ge_iff_le,gt_iff_lt,z0b,hBi,hBk,hBl,hlt,h0,hk0,hk1,hw,z00,z17,hgt,hlt2]
       try simp
      ·by_cases e:m=i
       ·subst e; rw [hm] at ht'; cases ht'; omega
       ·exact hmin m t' (by omega) ht' hlt'
   ·refine ⟨best,?_,?_⟩
    ·generalize z6l b=B at*
     simp only [b24_3,z2t,z2u,eq_self,not_true,not_false_eq_true,decide_true,decide_false,Bool.not_true,Bool.not_false,Int.reduceLT,Int.reduceNeg,Int.reduceGT,Int.reduceEq,Int.reduceLE,cond_true,cond_false,ge_iff_le,gt_iff_lt,z0b,hBi,hBl,hlt,h0,hw,z00,z17,hgt]
     try simp
    ·rcases hI with ⟨rfl,hno⟩|⟨k,u,rfl,hk,hu,hlu,hmin⟩
     ·refine .inl ⟨rfl,fun m t' hmi ht'=>?_⟩
      by_cases e:m=i
      ·subst e; rw [hm] at ht'; cases ht'; omega
      ·exact hno m t' (by omega) ht'
     ·refine .inr ⟨k,u,rfl,by omega,hu,hlu,fun m t' hmi ht' hlt'=>?_⟩
      by_cases e:m=i
      ·subst e; rw [hm] at ht'; cases ht'; exact absurd hlt' hgt
      ·exact hmin m t' (by omega) ht' hlt')
  (fun best hI=>⟨_,by
   have hn:¬ (b.length:Int)<b.length:=by omega
   simp only [b24_3,z2t,z2u,encTh_len,hn,if_false,Nat.le_refl,eq_self,not_true,not_false_eq_true,decide_true,decide_false,Bool.not_true,Bool.not_false,Int.reduceLT,Int.reduceNeg,Int.reduceGT,Int.reduceEq,Int.reduceLE,cond_true,cond_false,ge_iff_le,gt_iff_lt,z0b],best,rfl,hI⟩) (-1) 0 (Nat.zero_le _) (.inl ⟨rfl,fun m t h=>by omega⟩)
 obtain ⟨r,h1,best,rfl,hB⟩:=key
 exact ⟨best,h1,hB⟩
def lastS (S:List Int):Nat→Int
 |0=>0
 |k+1=>S.getD k 0
theorem best_is {b:List Th} (hb:GoodN b) {i:Nat} {x:Int} (hx:(srt (nums b))[i]?=some x) {best:Int} (hB:Best b (lastS (srt (nums b)) i) best b.length):∃ (k:Nat) (u:Th),best=k∧b[k]?=some u∧u.num=x∧fnd b x=some u:=by
 have hmem:x∈nums b:=(srt_perm _).mem_iff.1 (List.mem_of_getElem? hx)
 have hsorted:=z9s (nums b)
 have hnd:(srt (nums b)).Nodup:=(srt_perm _).nodup_iff.2 hb.2.1
 have hpos:∀ y∈srt (nums b),0<y:=by
  intro y hy
  obtain ⟨t,ht,rfl⟩:=List.mem_map.1 ((srt_perm _).mem_iff.1 hy)
  have:=hb.2.2 t ht
  unfold z7m at this; omega
 have hsub:∀ t∈b,t.num∈srt (nums b):=fun t ht=>(srt_perm _).mem_iff.2 (List.mem_map.2 ⟨t,ht,rfl⟩)
 generalize srt (nums b)=S at*
 have hi:i<S.length:=(List.getElem?_eq_some_iff.1 hx).1
 have hSi:S[i]=x:=(List.getElem?_eq_some_iff.1 hx).2
 have mono:∀ (p q:Nat) (hp:p<S.length) (hq:q<S.length),p<q→S[p]<S[q]:=by
  intro p q hp hq hpq
  have h1:=List.pairwise_iff_getElem.1 hsorted p q hp hq hpq
  have h2:S[p]≠S[q]:=fun e=>by
   have:=(List.getElem_inj (xs:=S) (i:=p) (j:=q) (h₀:=hp) (h₁:=hq) hnd).1 e
   omega
  omega
 have hlast:lastS S i<x:=by
  cases i with
  |zero=>exact hpos x (List.mem_of_getElem? hx)
  |succ k=>
   show S.getD k 0<x
   have hk:k<S.length:=by omega
   rw [List.getD_eq_getElem?_getD,List.getElem?_eq_getElem hk, ←hSi]
   exact mono k (k+1) hk hi (by omega)
 obtain ⟨t,ht,htx⟩:=List.mem_map.1 hmem
 obtain ⟨m,hm,hmt⟩:=List.mem_iff_getElem.1 ht
 have hbm:b[m]?=some t:=by rw [List.getElem?_eq_getElem hm,hmt]
 rcases hB with ⟨_,hno⟩|⟨k,u,rfl,hk,hu,hlu,hmin⟩
 ·have:=hno m t hm hbm
  omega
 ·have h1:=hmin m t hm hbm (by omega)
  obtain ⟨p,hp,hpu⟩:=List.mem_iff_getElem.1 (hsub u (List.mem_of_getElem? hu))
  have hpi:i≤p:=by
   refine Decidable.byContradiction fun hn=>?_
   have hn:p<i:=by omega
   cases i with
   |zero=>omega
   |succ j=>
    have hlu:S.getD j 0<u.num:=hlu
    have hj:j<S.length:=by omega
    rw [List.getD_eq_getElem?_getD,List.getElem?_eq_getElem hj] at hlu
    simp only [Option.getD_some] at hlu
    by_cases e:p=j
    ·subst e; omega
    ·have:=mono p j hp hj (by omega); omega
  have hux:u.num=x:=by
   by_cases e:i=p
   ·subst e; omega
   ·have:=mono i p hi hp (by omega); omega
  refine ⟨k,u,rfl,hu,hux,?_⟩
  cases hq:fnd b x with
  |none=>exact absurd hmem (fnd_notin hq)
  |some v=>
   obtain ⟨j,_,hbj,hjn,hjl⟩:=fnd_ix hq
   have hkl:k<b.length:=hk
   have e1:b[k]=u:=(List.getElem?_eq_some_iff.1 hu).2
   have e2:b[j]=v:=(List.getElem?_eq_some_iff.1 hbj).2
   have:=(List.getElem_inj (xs:=b.map (·.num)) (i:=k) (j:=j) (h₀:=by simpa using hkl) (h₁:=by simpa using hjl) (by have:=hb.2.1; unfold nums at this; exact this)).1 (by simp [e1,e2,hux,hjn])
   subst this
   rw [←e2,e1]
end Go.Am
end
section
namespace Go.Am
open D12
variable {fl fl':List Int→Bool}
theorem b24_1_ok (l:List Cd) (hl:l.length≤60) (hc:∀ c∈l,z3x c=0) (hf:Few l):z6j (b24_1 std) (z0u fl l,([],((0:Int),())))=some (z6l (bookOf l),()):=by
 have key:=y64 (b:=b24_1 std) l.length (fun (_:Unit) i=>(z0u fl l,(z6l (bookOf (l.take i)),((i:Int),())))) (fun _ _=>True) (fun r=>r=(z6l (bookOf l),()))
  (fun _ i hi _=> .inl ⟨(),by
   obtain ⟨c,hm⟩:=z2b hi
   obtain ⟨hw,h0⟩:=stp i (by omega)
   have hlt:(i:Int)<l.length:=by omega
   have hcm:=List.mem_of_getElem? hm
   obtain ⟨k1,k2⟩:=book_rev (l.take i) fun d hd=>hc d (List.mem_of_mem_take hd)
   have h62:=G62_ok (bookOf (l.take i)) c (k1.ok (by simp; omega)) (hc c hcm)
   have ht:l.take (i+1)=l.take i++[c]:=by rw [List.take_add_one,hm]; rfl
   have hbk:bookOf (l.take (i+1))=play (bookOf (l.take i)) c:=by rw [ht,book_snoc]
   rw [hbk]
   simp only [z1j,z6l] at h62
   simp only [z2x hm,b24_1,z2t,z2u,z0u,z1j,z6l,z1k,z3o,z3n,z3l,z3m,z3p,z09,z5x,z00,z17,z16,z15,z18,eq_self,not_true,not_false_eq_true,decide_true,decide_false,Bool.not_true,Bool.not_false,Int.reduceLT,Int.reduceNeg,Int.reduceGT,Int.reduceEq,Int.reduceLE,cond_true,cond_false,ge_iff_le,gt_iff_lt,z0b,hm,hlt,h0,hw,h62],trivial⟩)
  (fun _ _=>⟨_,by
   have hn:¬ (l.length:Int)<l.length:=by omega
   simp only [b24_1,z2t,z2u,z2y,hn,if_false,List.take_length],rfl⟩) () 0 (Nat.zero_le _) trivial
 obtain ⟨r,h1,rfl⟩:=key
 exact h1
theorem b24_2_ok (b:List Th) (hb:GoodN b):z6j (b24_2 std) ([],(z6l b,((0:Int),())))=some (z6l (things b),()):=by
 have hSl:(srt (nums b)).length=b.length:=by rw [(srt_perm _).length_eq]; unfold nums; rw [List.length_map]
 have hl:=hb.1
 have hBl:=encTh_len b
 have htl:(things b).length=b.length:=by unfold things; rw [List.length_map,hSl]
 have key:=y64 (b:=b24_2 std) b.length (fun (_:Unit) i=>(z6l ((things b).take i),(z6l b,(lastS (srt (nums b)) i,())))) (fun _ _=>True) (fun r=>r=(z6l (things b),()))
  (fun _ i hi _=> .inl ⟨(),by
   obtain ⟨x,hx⟩:=z2b (l:=srt (nums b)) (i:=i) (by omega)
   obtain ⟨best,h3,hB⟩:=b24_3_ok b (z6l ((things b).take i)) (lastS (srt (nums b)) i) hl
   obtain ⟨k,u,rfl,hu,hux,hfx⟩:=best_is hb hx hB
   have hBk:=encTh_get hu
   have hk0:(0:Int)≤k:=by omega
   have hth:(things b)[i]?=some u:=by unfold things; rw [List.getElem?_map,hx]; simp [hfx]
   have ht:(things b).take (i+1)=(things b).take i++[u]:=by rw [List.take_add_one,hth]; rfl
   have hen:z6l ((things b).take (i+1))=z6l ((things b).take i)++[eTh u]:=by rw [ht]; simp [z6l]
   have hlast:lastS (srt (nums b)) (i+1)=u.num:=by
    show (srt (nums b)).getD i 0=u.num
    rw [List.getD_eq_getElem?_getD,hx,hux]; rfl
   have hEl:(z6l ((things b).take i)).length=i:=by rw [encTh_len,List.length_take]; omega
   rw [hen,hlast]
   generalize z6l ((things b).take i)=E at*
   have e1:E.length+1≤1000000:=by omega
   have et:List.take E.length (List.drop 0 E)=E:=by rw [List.drop_zero,List.take_length]
   have hlt:(E.length:Int)<b.length:=by omega
   have h3b:=rdD_3 hBk
   generalize z6l b=B at*
   simp only [b24_2,z2t,z2u,eq_self,not_true,not_false_eq_true,decide_true,decide_false,Bool.not_true,Bool.not_false,Int.reduceLT,Int.reduceNeg,Int.reduceGT,Int.reduceEq,Int.reduceLE,cond_true,cond_false,ge_iff_le,gt_iff_lt,z0b,hBl,hlt,h3,hBk,hk0,z00,z17,z16,z15,z18,std_rdB,h3b,e1,et]
   simp [et,e1,eTh],trivial⟩)
  (fun _ _=>⟨_,by
   have h1:(things b).take b.length=things b:=by rw [←htl,List.take_length]
   rw [h1]
   have h2:(z6l (things b)).length=b.length:=by rw [encTh_len,htl]
   have hn:¬ ((b.length:Int)<b.length):=by omega
   simp only [b24_2,z2t,z2u,h2,hBl,hn,if_false,eq_self,not_true,not_false_eq_true,decide_true,decide_false,Bool.not_true,Bool.not_false,Int.reduceLT,Int.reduceNeg,Int.reduceGT,Int.reduceEq,Int.reduceLE,cond_true,cond_false,ge_iff_le,gt_iff_lt,z0b],rfl⟩) () 0 (Nat.zero_le _) trivial
 obtain ⟨r,h1,rfl⟩:=key
 exact h1
theorem G24_ok (l:List Cd) (hf:Few l):G24 std (z0u fl l,())=some ((if z5l l=0 then z6l (things (bookOf l)) else []),(z5l l,())):=by
 unfold G24
 by_cases hd:z5l l=0
 ·obtain ⟨h1,h2,_⟩:=dockSt_zero.1 hd
  have hk:=b24_1_ok (fl:=fl) l h1 h2 hf
  have h24:=b24_2_ok _ (book_good l h1 h2)
  simp only [z2t,z2u,eq_self,not_true,not_false_eq_true,decide_true,decide_false,Bool.not_true,Bool.not_false,Int.reduceLT,Int.reduceNeg,Int.reduceGT,Int.reduceEq,Int.reduceLE,cond_true,cond_false,ge_iff_le,gt_iff_lt,z0b,w9y l hf,hd,hk,h24]
 ·simp only [z2t,z2u,eq_self,not_true,not_false_eq_true,decide_true,decide_false,Bool.not_true,Bool.not_false,Int.reduceLT,Int.reduceNeg,Int.reduceGT,Int.reduceEq,Int.reduceLE,cond_true,cond_false,ge_iff_le,gt_iff_lt,z0b,w9y l hf,hd]
  try simp [hd]
end Go.Am
end
section
namespace Go.Am
open D12
variable {fl:List Int→Bool}
theorem G4_ok (l:List Cd):G4 std (z0u fl l,())=some (true,()):=by
 unfold G4
 cases h:x9g l with
 |true=>simp only [z2t,z2u,eq_self,not_true,not_false_eq_true,decide_true,decide_false,Bool.not_true,Bool.not_false,Int.reduceLT,Int.reduceNeg,Int.reduceGT,Int.reduceEq,Int.reduceLE,cond_true,cond_false,ge_iff_le,gt_iff_lt,z0b,w40,h,G16]
 |false=>
  obtain ⟨h1,h2,_⟩:=x1b h
  have e1:(if z5l l=0 then z1j (errs no l) else [])=z1j (if z5l l=0 then errs no l else []):=by split<;>rfl
  have e2:(if z5l l=0 then z6l (things (bookOf l)) else [])=z6l (if z5l l=0 then things (bookOf l) else []):=by split<;>rfl
  have g21:=G21_ok (fl:=fl) l h1
  have g22:=G22_ok (fl:=fl) l h1
  have g23:=G23_ok (fl:=fl) l h1
  have g24:=G24_ok (fl:=fl) l h1
  rw [e1] at g21 g22
  rw [e2] at g23 g24
  have hA:(if z5l l=0 then errs no l else []).length≤1000000:=by
   split
   ·rw [errs_length]; omega
   ·simp
  have hT:(if z5l l=0 then things (bookOf l) else []).length≤1000000:=by
   split
   ·rename_i hd
    obtain ⟨d1,d2,_⟩:=dockSt_zero.1 hd
    have:=(book_good l d1 d2).1
    unfold things nums; rw [List.length_map,(srt_perm _).length_eq,List.length_map]; omega
   ·simp
  have g25:=G25_ok _ (if z5l l=0 then errs no l else []) hA
  have g26:=G26_ok _ (if z5l l=0 then things (bookOf l) else []) hT
  generalize (if z5l l=0 then errs no l else [])=A at*
  generalize (if z5l l=0 then things (bookOf l) else [])=B at*
  have g25:=G25_ok A A hA
  have g26:=G26_ok B B hT
  have tA:List.take (z1j A).length (List.drop 0 (z1j A))=z1j A:=by rw [List.drop_zero,List.take_length]
  have tB:List.take (z6l B).length (List.drop 0 (z6l B))=z6l B:=by rw [List.drop_zero,List.take_length]
  rw [decide_eq_true rfl] at g25 g26
  simp only [z2t,z2u,eq_self,not_true,not_false_eq_true,decide_true,decide_false,Bool.not_true,Bool.not_false,Int.reduceLT,Int.reduceNeg,Int.reduceGT,Int.reduceEq,Int.reduceLE,cond_true,cond_false,ge_iff_le,gt_iff_lt,z0b,w40,h,G16,g21,g22,g23,g24,tA,tB,g25,g26,Nat.zero_add,Nat.le_refl,Bool.and_self]
  try simp
end Go.Am
end
