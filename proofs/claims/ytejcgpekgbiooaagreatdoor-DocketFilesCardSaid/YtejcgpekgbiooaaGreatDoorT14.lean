/- Texts of this claim. -/
import Derived.Test.YtejcgpekgbiooaaGreatDoorT13
import Derived.Test.YtejcgpekgbiooaaGreatDoorProg
import Derived.KernelRfl
import Derived.Lib.Split
import Derived.Lib.ParseIntBTie
import Derived.Lib.ItoaMem
import Derived.Lib.Join
import Derived.Lib.Strings
import Derived.Lib.ItoaLen
set_option linter.unusedVariables false
set_option linter.unusedSimpArgs false
set_option linter.unusedSectionVars false
set_option maxRecDepth 100000
set_option maxHeartbeats 0
open List renaming getElem?_map → eAg,any_eq_true → eCz,mem_range → eBo,getD_eq_getElem?_getD → eCi,mem_of_getElem? → eAu,mem_cons → eAz,cons_append → eDd,mem_cons_of_mem → eCm,mem_cons_self → eBq,length_cons → eBi,mem_singleton → eBe,mem_append → eBj,drop_eq_getElem_cons → eDg,getElem?_eq_getElem → eAa,length_eq_zero_iff → eBn,mem_iff_getElem → eDh,length_take → eBv,length_singleton → eDb,length_drop → eCx,map_cons → eDe,flatten_cons → eDi,append_assoc → eCg,mem_map → eBb,mem_flatten → eCj,append_nil → eCn,getElem?_eq_some_iff → eAd,take_length → eDf,length_append → eBu,take_of_length_le → eDa,drop_zero → eDc,getElem?_append_left → eBz,getElem?_append_right → eCv,getElem?_eq_none → eCt,length_map → eBt,getElem_mem → eCp,all_eq_true → eAr
open Bool renaming eq_iff_iff → eCu,not_eq_true' → eBy,and_true → eCc,false_eq_true → eAi,and_eq_true → eAb,not_false → eCq
open Nat renaming le_refl → eAk,lt_of_lt_of_le → eAn,mul_le_mul_right → eAo,mul_comm → eCb,zero_add → eAp,lt_or_ge → eBw,add_zero → eAt,zero_le → eAv,ble_eq_true_of_le → eBg
open Int renaming toNat_natCast → eCh
open Option renaming getD_some → eBk,bind_some → eAx
open Go.Proofs.Tryz renaming prog → PG
section
namespace Go.Am.D12
theorem v4j {c:Cd}:z3d c=0↔z6x c.n∧z3a c.k≠0∧c.t.length=z3a c.k∧(∀ x∈c.t,z6x x)∧c.t.Nodup∧w1p c.k c.a:=by
 unfold z3d
 constructor
 ·intro h
  repeat' split at h
  all_goals first|(exfalso; omega)|skip
  rename_i h1 h2 h3 h4 h5
  simp only [not_or,Decidable.not_not] at h1 h2 h4 h5
  refine ⟨h1.1,h1.2,h2,fun x hx=>Decidable.byContradiction fun hn=>h3 ⟨x,hx,hn⟩,h4,h5⟩
 ·rintro ⟨h1,h2,h3,h4,h5,h6⟩
  rw [if_neg (by simp only [not_or,Decidable.not_not]; exact ⟨h1,h2⟩),if_neg (by simpa using h3),if_neg (by rintro ⟨x,hx,hn⟩; exact hn (h4 x hx)),if_neg (by simpa using h5),if_neg (by simpa using h6)]
theorem v23 {l:List Cd}:z4y l=0↔l.length≤60∧(∀ c∈l,z3d c=0)∧(l.map (·.n)).Nodup:=by
 unfold z4y
 split
 ·constructor
  ·intro h; omega
  ·intro h; omega
 ·rename_i hlen
  split
  ·rename_i c hc
   have h1:=List.find?_some hc
   have h2:=List.mem_of_find?_eq_some hc
   simp at h1
   constructor
   ·intro h; exact absurd h h1
   ·intro h; exact absurd (h.2.1 c h2) h1
  ·rename_i hc
   rw [List.find?_eq_none] at hc
   have hc':∀ c∈l,z3d c=0:=fun c h=>by simpa using hc c h
   split
   ·rename_i hn; exact ⟨fun _=>⟨by omega,hc',hn⟩,fun _=>rfl⟩
   ·rename_i hn; exact ⟨fun h=>by omega,fun h=>absurd h.2.2 hn⟩
end Go.Am.D12
end
section
namespace Go.Am
section
variable (es l:List (List D)) (i j a b n:Nat) (x y:Int) (c d:Bool)
theorem v6w (k:IntKind):std.cvt k x=k.wrap x:=rfl
theorem z63:std.cmp .eql x y=decide (x=y):=rfl
theorem z80:std.cmp .leq x y=decide (x≤y):=rfl
theorem z31:std.cmp .gtr x y=decide (x>y):=rfl
theorem v4w:std.ar .mul .i64 x y=IntKind.i64.wrap (x*y):=rfl
theorem v4v:std.ar .quo .i64 x y=IntKind.i64.wrap (x.tdiv y):=rfl
theorem v4u:std.ar .rem .i64 x y=x.tmod y:=rfl
end
end Go.Am
namespace Go.Am
end Go.Am
end
noncomputable section
namespace Go.Am

abbrev q0m : OT := .box [.int .i64, .int .i64, .vec 3 1, .int .i64]
abbrev q1m : OT := .box [.int .i64, .int .i64, .list 1, .int .i64]
abbrev q2m : OT := .box [.int .i64, .int .i64, .nils, .int .i64]
abbrev q3m : OT := .row [ci, ci, (CK.list 1), ci]
abbrev q4m : OT := .row [CK.str]
abbrev q5m : OT := .row [ci]
abbrev q6m : List OT := [q2m, q4m, q0m, q5m]
abbrev tT := true
abbrev fF := false
abbrev W0w := (ByteArray×Unit)
abbrev W1w := (Int×Unit)
abbrev W21w := (LD×W1w)
abbrev W2w := (Int×(Int×(Int×(Int×(Int×(Int×(ByteArray×W21w)))))))
abbrev W3w := (Bool×Unit)
abbrev W4w := (LD×(LD×(Int×(Int×(Int×(Int×(Int×(Int×(Nat×(Nat×(Bool×W1w)))))))))))
abbrev W5w := (LD×(Int×(Int×(Int×(Int×(Int×(Int×(ByteArray×(LD×(Int×W1w))))))))))
abbrev W6w := (LD×(Int×(Int×(Int×(Int×(Int×(Int×(Nat×(Nat×W1w)))))))))
abbrev W15w := (Int×W3w)
abbrev W7w := (Int×(Int×(LD×W15w)))
abbrev W8w := (ByteArray×W1w)
abbrev W9w := (Int×(Int×W15w))
abbrev W10w := (LD×(ByteArray×(Nat×(Nat×W1w))))
abbrev W11w := (ByteArray×W3w)
abbrev W12w := (LD×(Int×(Int×(Int×(Int×(Int×(Int×W0w)))))))
abbrev W13w := (LD×(LD×(Int×(Int×(Int×(Int×(Int×(Int×(Nat×(Nat×(Bool×(Int×W1w))))))))))))
abbrev W14w := (Nat×(Nat×Unit))
abbrev W16w := (LD×(Int×(Int×(Int×(Int×(Int×(Int×(Nat×(Nat×W3w)))))))))
abbrev W17w := (Int×(Int×(Int×(Int×(Int×(Int×(ByteArray×(LD×Unit))))))))
abbrev W18w := (LD×(ByteArray×W8w))
abbrev W19w := (Int×(Int×(LD×(Int×(Int×(Int×(LD×(Int×W1w))))))))
abbrev W20w := (LD×(Int×(Int×(Int×(Int×(Int×(Int×W14w)))))))
abbrev W22w := (LD×(Int×(Int×(LD×(Int×(Bool×W0w))))))
def v7w:Ctr:=
 ⟨77,[.agg [.int .i64, .int .i64, .list 1, .int .i64], .agg [.int .i64, .int .i64, .list 1, .int .i64]],[],[(.ret,⟨[(0, .bool)],[],1⟩)]⟩
def la77:List LA:=
 [⟨77,[fF,tT,fF,tT,tT],0,⟨⟨[(2, .bptr 0 0),(3, .bptr 1 0),(5, .int .i64)],[q1m,q1m],52⟩,[(AX.ret,⟨[(4, .bool)],[],52⟩),((AX.exit 0),⟨[],[],52⟩)]⟩⟩]
def ja77:List JA:=
 [⟨77,[fF,fF,tT],0,[(AX.normal,⟨[(2, .bptr 0 0),(3, .bptr 1 0),(33, .bool)],[q1m,q1m],52⟩)]⟩]
def v8t:List CF:=
 []
def an77:Anns:=
 ⟨v8t,ja77,[]⟩
def v5q (p:Prim):W19w→Option (W19w⊕(W3w⊕Unit)):=
 fun a=>let A:=a.2.2.2.2.2.2.2.2.1;let B:=a.2.2.2.2.2.2.1;let C:=p.cmp .geq A (0:Int);let E:=p.nat A; opt.run _ (
 opt.ask _ (p.cmp .lss A (p.ofNat (p.len a.2.2.1))) (
 opt.need _ (p.rowOk a.2.2.1 E [ci])<|
 opt.need _ C<|
 opt.need _ (p.rowOk B E [ci])<|
 opt.need _ C<|
 opt.ask _ (p.cmp .neq (p.rdI a.2.2.1 E 0) (p.rdI B E 0)) (
 opt.ret _ (Sum.inr (Sum.inl (Bool.false,())))) (
 opt.ret _ (Sum.inl (a.1,(a.2.1,(a.2.2.1,(a.2.2.2.1,(a.2.2.2.2.1,(a.2.2.2.2.2.1,(B,(a.2.2.2.2.2.2.2.1,((p.ar .add .i64 A (1:Int)),())))))))))))) (
 opt.ret _ (Sum.inr (Sum.inr ()))))
def G77:(p:Prim)→(Int×(Int×(LD×(Int×(Int×(Int×W21w))))))→Option (W3w):=
 fun p x=>let E:=x.2.2.2.2.2.1;let C:=x.2.2.2.2.2.2.1;let B:=x.2.2.2.2.2.2.2.1;let A:=(x.1,(x.2.1,(x.2.2.1,(x.2.2.2.1,(x.2.2.2.2.1,(E,(C,(B,(Bool.true,())))))))));
 opt.bnd ((Int×(Int×(LD×(Int×W7w))))) _ (
 opt.run ((Int×(Int×(LD×(Int×W7w))))) (
 opt.ask _ (p.cmp .neq x.1 x.2.2.2.2.1) (
 opt.ret _ A) (
 opt.ask _ (p.cmp .neq x.2.1 E) (
 opt.ret _ A) (
 opt.ask _ (p.cmp .neq x.2.2.2.1 B) (
 opt.ret _ A) (
 opt.ret _ (x.1,(x.2.1,(x.2.2.1,(x.2.2.2.1,(x.2.2.2.2.1,(E,(C,(B,((p.cmp .neq (p.ofNat (p.len x.2.2.1)) (p.ofNat (p.len C))),())))))))))))))) fun a=>
 opt.ask _ a.2.2.2.2.2.2.2.2.1 (
 opt.ret _ (Bool.false,())) (
 opt.alt (W3w) (Unit) _ (
 z5r (v5q p) (a.1,(a.2.1,(a.2.2.1,(a.2.2.2.1,(a.2.2.2.2.1,(a.2.2.2.2.2.1,(a.2.2.2.2.2.2.1,(a.2.2.2.2.2.2.2.1,((0:Int),())))))))))) (fun b=>
 opt.ret _ b) (fun c=>
 opt.bnd (Unit) _ (some c) fun d=>
 opt.ret _ (Bool.true,())))
theorem ok77:CtrOk PG v7w (G77 std):=okF vE (a:=an77) (l:=la77) (gN)
def v70:Ctr:=
 ⟨34,[.list 4, .list 4],[],[(.ret,⟨[(0, .bool)],[],1⟩)]⟩
def la34:List LA:=
 [⟨34,[fF,tT,fF,tT,tT],0,⟨⟨[(0, .list 4),(1, .list 4),(5, .int .i64)],[],27⟩,[(AX.ret,⟨[(4, .bool)],[],27⟩),((AX.exit 0),⟨[],[],27⟩)]⟩⟩]
def ja34:List JA:=
 []
def v8x:List CF:=
 [⟨v7w,G77⟩]
def an34:Anns:=
 ⟨v8x,ja34,[]⟩
def v7c (p:Prim):(LD×W21w)→Option ((LD×W21w)⊕(W3w⊕Unit)):=
 fun a=>let A:=p.nat a.2.2.1;let B:=p.cmp .geq a.2.2.1 (0:Int);let C:=[ci,ci,(CK.list 1),ci]; opt.run _ (
 opt.ask _ (p.cmp .lss a.2.2.1 (p.ofNat (p.len a.1))) (
 opt.need _ (p.rowOk a.1 A C)<|
 opt.need _ B<|
 opt.need _ (p.rowOk a.2.1 A C)<|
 opt.need _ B<|
 opt.bnd (W3w) _ (G77 p ((p.rdI a.1 A 0),((p.rdI a.1 A 1),((p.rdL a.1 A 2),((p.rdI a.1 A 3),((p.rdI a.2.1 A 0),((p.rdI a.2.1 A 1),((p.rdL a.2.1 A 2),((p.rdI a.2.1 A 3),()))))))))) fun b=>
 opt.ask _ (bif b.1 then Bool.false else Bool.true) (
 opt.ret _ (Sum.inr (Sum.inl (Bool.false,())))) (
 opt.ret _ (Sum.inl (a.1,(a.2.1,((p.ar .add .i64 a.2.2.1 (1:Int)),())))))) (
 opt.ret _ (Sum.inr (Sum.inr ()))))
def G34:(p:Prim)→(LD×(LD×Unit))→Option (W3w):=
 fun p x=>
 opt.ask _ (p.cmp .neq (p.ofNat (p.len x.1)) (p.ofNat (p.len x.2.1))) (
 opt.ret _ (Bool.false,())) (
 opt.alt (W3w) (Unit) _ (
 z5r (v7c p) (x.1,(x.2.1,((0:Int),())))) (fun a=>
 opt.ret _ a) (fun b=>
 opt.bnd (Unit) _ (some b) fun c=>
 opt.ret _ (Bool.true,())))
theorem ok34:CtrOk PG v70 (G34 std):=okF vE (a:=an34) (l:=la34) (gC ok77 (gN))
def F15:Prim→Tup (w8h).scs→Option (STup (scss (w8h).outs)):=
 fun p x=>G15 p x
def F59:Prim→Tup (w8b).scs→Option (STup (scss (w8b).outs)):=
 fun p x=>G59 p x
def F20:Prim→Tup (w8f).scs→Option (STup (scss (w8f).outs)):=
 fun p x=>G20 p x
end Go.Am
end
section
namespace Go.Am
open D12
variable {fl fl':List Int→Bool}
theorem rowC {fl:List Int→Bool} {l:List Cd} {i:Nat} {c:Cd} (h:l[i]?=some c):(l.map (eC fl))[i]?=some (eC fl c):=by
 rw [eAg,h]; rfl
theorem rowI {l:List Int} {i:Nat} {c:Int} (h:l[i]?=some c):(l.map eI)[i]?=some (eI c):=by
 rw [eAg,h]; rfl
theorem v6l {α:Type} [DecidableEq α] {a b:List α} (d:α) (h:a.length=b.length):((List.range a.length).any fun i=>!decide (a.getD i d=b.getD i d))=!decide (a=b):=by
 rw [eCu,eCz]
 simp only [eBy,decide_eq_false_iff_not,eBo]
 constructor
 ·rintro ⟨i,hi,hne⟩ rfl; exact hne rfl
 ·intro hne
  refine Decidable.byContradiction fun hno=>hne (List.ext_getElem h fun i h1 h2=>?_)
  have:=Decidable.byContradiction fun hh=>hno ⟨i,h1,hh⟩
  simpa [eCi,h1,h2] using this
theorem eqL {α:Type} [DecidableEq α] (ea eb:List α→List (List D)) (he:∀ l,(ea l).length=l.length) (hf:∀ l,(eb l).length=l.length)
  {b:(List (List D)×(List (List D)×(Int×Unit)))→Option ((List (List D)×(List (List D)×(Int×Unit)))⊕((Bool×Unit)⊕Unit))} (a c:List α) (d:α)
  (step:∀ (i:Nat) m m',a[i]?=some m→c[i]?=some m'→(i:Int)<a.length→(i:Int)<c.length→b (ea a,(eb c,((i:Int),())))=if (!decide (m=m'))=true then some (.inr (.inl (false,()))) else some (.inl (ea a,(eb c,(((i+1:Nat):Int),())))))
  (stop:¬ (a.length:Int)<a.length→b (ea a,(eb c,((a.length:Int),())))=some (.inr (.inr ()))):
  opt.ask _ (std.cmp .neq (std.ofNat (std.len (ea a))) (std.ofNat (std.len (eb c)))) (opt.ret _ (false,())) (opt.alt (Bool×Unit) Unit _ (z5r b (ea a,(eb c,((0:Int),())))) (fun y=>opt.ret _ (y.1,())) (fun y=>opt.bnd Unit _ (some y) fun _=>opt.ret _ (true,())))=some (decide (a=c),()):=by
 by_cases hl:a.length=c.length
 ·have key:=z9b (b:=b) a.length (fun i=>(ea a,(eb c,((i:Int),())))) (fun i=>!decide (a.getD i d=c.getD i d)) (.inl (false,())) (.inr ()) (fun i hi=>by
   obtain ⟨m,hm⟩:=z1v hi
   obtain ⟨m',hm'⟩:=z1v (l:=c) (i:=i) (by omega)
   rw [z2h hm,z2h hm']
   exact step i m m' hm hm' (by omega) (by omega)) (stop (by omega))
  have key:z5r b (ea a,(eb c,((0:Int),())))=_:=key
  rw [v6l d hl] at key
  have hc:std.cmp .neq (std.ofNat (std.len (ea a))) (std.ofNat (std.len (eb c)))=false:=by simp [std,z3o,he,hf,hl]
  rw [hc,key]
  by_cases e:a=c
  ·simp [e,opt]
  ·simp [e,opt]
 ·have hne:a≠c:=fun h=>hl (by rw [h])
  have hc:std.cmp .neq (std.ofNat (std.len (ea a))) (std.ofNat (std.len (eb c)))=true:=by simp [std,z3o,he,hf]; omega
  rw [hc]
  simp [hne,opt]
theorem v74 (c d:Cd) (hc:c.t.length≤1000000):G77 std (c.n,(c.k,(z1a c.t,(c.a,(d.n,(d.k,(z1a d.t,(d.a,()))))))))=some (decide (c=d),()):=by
 obtain ⟨n1,k1,t1,a1⟩:=c
 obtain ⟨n2,k2,t2,a2⟩:=d
 simp only at hc⊢
 unfold G77
 by_cases e1:n1=n2
 ·by_cases e2:k1=k2
  ·by_cases e3:a1=a2
   ·subst e1 e2 e3
    by_cases hl:t1.length=t2.length
    ·have key:=z9b (b:=v5q std) t1.length (fun i=>(n1,(k1,(z1a t1,(a1,(n1,(k1,(z1a t2,(a1,((i:Int),())))))))))) (fun i=>!decide (t1.getD i 0=t2.getD i 0)) (.inl (false,())) (.inr ()) (fun i hi=>by
      obtain ⟨m,hm⟩:=z1v hi
      obtain ⟨m',hm'⟩:=z1v (l:=t2) (i:=i) (by omega)
      obtain ⟨hw,h0⟩:=stp i (by omega)
      have hlt:(i:Int)<t1.length:=by omega
      have hlb:(i:Int)<t2.length:=by omega
      simp only [z2h hm,z2h hm',v5q,z2d,z2e,z0p,z1a,z5s,y4y,z4b,Int.reduceLT,Int.reduceEq,Int.reduceLE,hm,hm',hlt,hlb,h0,hw]) (by
      have hn:¬ (t1.length:Int)<t1.length:=by omega
      simp only [v5q,z2d,z2e,z0p,z1a,z5s,y4y,hn])
     have key:z5r (v5q std) (n1,(k1,(z1a t1,(a1,(n1,(k1,(z1a t2,(a1,((0:Int),())))))))))=_:=key
     rw [v6l 0 hl] at key
     have hll:((t1.length:Nat):Int)=(t2.length:Nat):=by omega
     simp only [z2d,z2e,z00,z4b,Int.reduceLT,Int.reduceEq,Int.reduceLE,hll,key]
     by_cases e:t1=t2<;>simp [e]
    ·have hne:t1≠t2:=fun h=>hl (by rw [h])
     have hll:¬ ((t1.length:Nat):Int)=(t2.length:Nat):=by omega
     simp only [z2d,z2e,z00,z4b,Int.reduceLT,Int.reduceEq,Int.reduceLE,hll,Cd.mk.injEq,hne]
     simp
   ·simp only [z2d,z2e,z4b,Int.reduceLT,Int.reduceEq,Int.reduceLE,e1,e2,e3,Cd.mk.injEq]
    simp
  ·simp only [z2d,z2e,z4b,Int.reduceLT,Int.reduceEq,Int.reduceLE,e1,e2,Cd.mk.injEq]
   simp
 ·simp only [z2d,z2e,z4b,Int.reduceLT,Int.reduceEq,Int.reduceLE,e1,Cd.mk.injEq]
  simp
theorem v79 (a b:List Cd) (ha:a.length≤1000000) (hr:∀ c∈a,c.t.length≤1000000):G34 std (z0p fl a,(z0p fl' b,()))=some (decide (a=b),()):=by
 unfold G34
 refine eqL (z0p fl) (z0p fl') z2i z2i a b default (fun i m m' hm hm' hlt hlb=>?_) (fun hn=>?_)
 ·obtain ⟨hw,h0⟩:=stp i (by omega)
  have h77:=v74 m m' (hr m (eAu hm))
  simp only [v7c,z2d,z2e,z0p,z1a,z5s,y4y,z4b,Int.reduceLT,Int.reduceEq,Int.reduceLE,hm,hm',hlt,hlb,h0,hw]
  simp only [z1a] at h77
  simp only [h77,z2d,z2e]
  by_cases e:m=m'<;>simp [e]
 ·simp only [v7c,z2d,z2e,z0p,z1a,z5s,y4y,hn]
end Go.Am
end
noncomputable section
namespace Go.Am
def F55:Prim→Tup (w5w).scs→Option (STup (scss (w5w).outs)):=
 fun p x=>G55 p x
def F56:Prim→Tup (w8e).scs→Option (STup (scss (w8e).outs)):=
 fun p x=>G56 p x
def F19:Prim→Tup (w8g).scs→Option (STup (scss (w8g).outs)):=
 fun p x=>G19 p x
end Go.Am
end
noncomputable section
namespace Go.Am
def F84:Prim→Tup (v1k).scs→Option (STup (scss (v1k).outs)):=
 fun p x=>G84 p x
def v7u:Ctr:=
 ⟨88,[.str],[],[(.ret,⟨[(0, .tuple [.agg [.int .i64, .int .i64, .list 1, .int .i64], .bool])],[],1⟩)]⟩
def la88:List LA:=
 [⟨88,[fF,tT,fF,tT,tT,tT],0,⟨⟨[(0, .str),(2, .bptr 0 0),(4, .list 1),(5, .bptr 1 0),(6, .int .i64)],[q2m,q2m],93⟩,[((AX.exit 0),⟨[(0, .str),(2, .bptr 0 0),(4, .list 1),(5, .bptr 1 0)],[q2m,q2m],93⟩)]⟩⟩,
 ⟨88,[fF,tT,fF,tT,tT,tT,tT,tT,tT],0,⟨⟨[(0, .str),(2, .bptr 0 0),(5, .bptr 1 0),(8, .vec 2 1),(43, .list 1),(44, .int .i64),(45, .int .i64)],[q2m,q2m,q5m],93⟩,[(AX.ret,⟨[(2, .bptr 0 0),(3, .bool)],[q2m],93⟩),((AX.exit 2),⟨[(0, .str),(2, .bptr 0 0),(5, .bptr 1 0),(8, .vec 2 1)],[q2m,q2m,q5m],93⟩)]⟩⟩]
def ja88:List JA:=
 [⟨88,[fF,tT,tT,fF,fF,tT,fF,tT,tT,tT,tT,tT,tT],0,[(AX.ret,⟨[(2, .bptr 0 0),(3, .bool)],[q2m],93⟩),(AX.normal,⟨[(0, .str),(2, .bptr 0 0),(5, .bptr 1 0),(8, .vec 2 1),(43, .list 1),(44, .int .i64),(45, .int .i64)],[q2m,q2m,q5m],93⟩)]⟩,
 ⟨88,[tT,tT,fF,fF,tT,fF,fF,tT,fF,tT,tT,tT],0,[(AX.normal,⟨[(0, .str),(2, .bptr 0 0),(4, .list 1),(5, .bptr 1 0),(6, .int .i64)],[q2m,q2m],93⟩)]⟩,
 ⟨88,[fF,tT,fF,fF,tT,fF,tT,tT,tT],0,[(AX.normal,⟨[(0, .str),(2, .bptr 0 0),(4, .list 1),(5, .bptr 1 0),(6, .int .i64)],[q2m,q2m],93⟩)]⟩]
def v8r:List CF:=
 [⟨x4v,v2x⟩,⟨v1k,F84⟩,⟨w8e,F56⟩,⟨w5w,F55⟩,⟨x4x,v2z⟩,⟨x4w,v2y⟩]
def an88:Anns:=
 ⟨v8r,ja88,[⟨88,[false,true,true,true,true,true,true,true],⟨[(0, .str),(2, .bptr 0 0),(5, .bptr 1 0),(8, .list 1)],[.box [.int .i64, .int .i64, .nils, .int .i64], .box [.int .i64, .int .i64, .nils, .int .i64]],93⟩⟩]⟩
def v34 (p:Prim):W5w→Option (W5w⊕(W9w⊕W12w)):=
 fun a=>let A:=(a.2.2.2.2.1,(a.2.2.2.2.2.1,(a.2.2.2.2.2.2.1,(Bool.false,()))));let E:=p.len a.1;let C:=a.2.2.2.2.2.2.2.2.2.2.1; opt.run _ (
 opt.ask _ (p.cmp .lss C a.2.2.2.2.2.2.2.2.2.1) (
 opt.alt (W9w) (W5w) _ (
 opt.run ((W9w⊕W5w)) (
 opt.need _ (p.rowOk a.2.2.2.2.2.2.2.2.1 (p.nat C) [CK.str])<|
 opt.need _ (p.cmp .geq C (0:Int))<|
 opt.alt (W1w) (W1w) _ (v10 p ((p.rdS a.2.2.2.2.2.2.2.2.1 (p.nat C) 0),((10:Int),((64:Int),())))) (fun b=>let F:=[[(D.int .i64 b.1)]];let B:=p.app (p.cut a.1 0 E) (p.cut F 0 1);
 opt.bnd (W3w) _ (G56 p ((-1099511627776:Int),((1099511627776:Int),(F,())))) fun c=>
 opt.ask _ (bif c.1 then Bool.false else Bool.true) (
 opt.ret _ (Sum.inl A)) (
 opt.need _ (p.and (p.leN (p.add 0 1) (p.len F)) (p.and (p.leN (p.add 0 E) E) (p.and (p.leN 1 1) (p.leN (p.add E 1) 1000000))))<|
 opt.need _ (p.eqN 0 0)<|
 opt.need _ (p.eqN (p.add E 1) (p.len B))<|
 opt.ret _ (Sum.inr (B,a.2)))) (fun d=>
 opt.bnd (W1w) _ (some d) fun e=>
 opt.ret _ (Sum.inl A)))) (fun f=>
 opt.ret _ (Sum.inr (Sum.inl f))) (fun g=>
 opt.bnd (W5w) _ (some g) fun h=>
 opt.need _ (p.eqN 0 0)<|
 opt.need _ (p.eqN (p.len h.1) (p.len h.1))<|
 opt.ret _ (Sum.inl (h.1,(h.2.1,(h.2.2.1,(h.2.2.2.1,(h.2.2.2.2.1,(h.2.2.2.2.2.1,(h.2.2.2.2.2.2.1,(h.2.2.2.2.2.2.2.1,(h.2.2.2.2.2.2.2.2.1,(h.2.2.2.2.2.2.2.2.2.1,((p.ar .add .i64 h.2.2.2.2.2.2.2.2.2.2.1 (1:Int)),())))))))))))))) (
 opt.need _ (p.eqN 0 0)<|
 opt.need _ (p.eqN E E)<|
 opt.ret _ (Sum.inr (Sum.inr (a.1,(a.2.1,(a.2.2.1,(a.2.2.2.1,(a.2.2.2.2.1,(a.2.2.2.2.2.1,(a.2.2.2.2.2.2.1,(a.2.2.2.2.2.2.2.1,()))))))))))))
def v4k (p:Prim):W2w→Option (W2w⊕W17w):=
 fun a=>let A:=a.2.2.2.2.2.2.2.1; opt.run _ (
 opt.ask _ (p.cmp .leq a.2.2.2.2.2.2.2.2.1 (6:Int)) (
 opt.bnd (W2w) _ (
 opt.run (W2w) (
 opt.bnd ((ByteArray×(Int×(Int×W1w)))) _ (G55 p a.2.2.2.2.2.2.2.2) fun b=>
 opt.need _ (p.rowOk A (p.nat (0:Int)) [CK.str])<|
 opt.ask _ (p.strEq b.1 (p.rdS A (p.nat (0:Int)) 0)) (
 opt.bnd (W2w) _ (
 opt.run (W2w) (
 opt.ask _ (p.cmp .eql (p.ofNat (p.len A)) (p.ar .add .i64 b.2.1 (3:Int))) (
 opt.ret _ (a.1,(a.2.1,(a.2.2.1,(a.2.2.2.1,(a.2.2.2.2.2.2.2.2.1,a.2.2.2.2.2)))))) (
 opt.ret _ a))) fun c=>
 opt.ret _ c) (
 opt.bnd (W2w) _ (
 opt.run (W2w) (
 opt.ret _ a)) fun d=>
 opt.ret _ d))) fun e=>
 opt.ret _ (Sum.inl (e.1,(e.2.1,(e.2.2.1,(e.2.2.2.1,(e.2.2.2.2.1,(e.2.2.2.2.2.1,(e.2.2.2.2.2.2.1,(e.2.2.2.2.2.2.2.1,((p.ar .add .i64 e.2.2.2.2.2.2.2.2.1 (1:Int)),()))))))))))) (
 opt.ret _ (Sum.inr (a.1,(a.2.1,(a.2.2.1,(a.2.2.2.1,(a.2.2.2.2.1,(a.2.2.2.2.2.1,(a.2.2.2.2.2.2.1,(A,())))))))))))
def G88:(p:Prim)→W0w→Option (W7w):=
 fun p x=>let H:=(1:Int);let E:=p.nat H;let F:=(0:Int);
 opt.bnd (W0w) _ (v11 p (x.1,((ByteArray.mk #[10]),()))) fun a=>
 opt.bnd ((LD×Unit)) _ (v12 p (a.1,((ByteArray.mk #[32]),()))) fun b=>
 opt.bnd (W17w) _ (
 z5r (v4k p) (F,(F,(F,(F,(F,(F,(x.1,(b.1,(H,())))))))))) fun c=>let C:=p.ofNat (p.len c.2.2.2.2.2.2.2.1);let G:=p.cut c.2.2.2.2.2.2.2.1 E (p.sub (p.nat C) E);
 opt.ask _ (p.cmp .eql c.2.2.2.2.1 F) (
 opt.ret _ (c.2.2.2.1,(c.2.2.2.2.1,([],(c.2.2.2.2.2.1,(Bool.false,())))))) (
 opt.need _ (p.and (p.cmp .geq H F) (p.and (p.cmp .leq H C) (p.cmp .leq C C)))<|
 opt.alt (W9w) (W12w) _ (
 z5r (v34 p) ([],(c.1,(c.2.1,(c.2.2.1,(c.2.2.2.1,(c.2.2.2.2.1,(c.2.2.2.2.2.1,(c.2.2.2.2.2.2.1,(G,((p.ofNat (p.len G)),(F,())))))))))))) (fun d=>
 opt.ret _ (d.1,(d.2.1,([],d.2.2)))) (fun e=>
 opt.bnd (W12w) _ (some e) fun f=>let B:=p.cut f.1 0 (p.len f.1);let A:=p.ar .sub .i64 (p.ofNat (p.len B)) H;let J:=p.nat A;let I:=p.cut B E (p.sub J E);
 opt.need _ (p.leN (p.add 0 (p.len f.1)) (p.len f.1))<|
 opt.need _ (p.rowOk B (p.nat F) [ci])<|
 opt.need _ (p.and (p.cmp .geq H F) (p.and (p.cmp .leq H A) (p.and (p.cmp .leq A A) (p.cmp .leq A (p.ofNat (p.len B))))))<|
 opt.need _ (p.rowOk B J [ci])<|
 opt.need _ (p.cmp .geq A F)<|
 opt.bnd (W0w) _ (G84 p ((p.rdI B (p.nat F) 0),(f.2.2.2.2.2.1,(I,((p.rdI B J 0),()))))) fun g=>
 opt.ret _ ((p.rdI B (p.nat F) 0),(f.2.2.2.2.2.1,(I,((p.rdI B J 0),((p.strEq g.1 f.2.2.2.2.2.2.2.1),())))))))
theorem ok88:CtrOk PG v7u (G88 std):=okF vE (a:=an88) (l:=la88) (gC w97 (gC ok84 (gC ok56 (gC v2c (gC w99 (gC w98 (gN)))))))
def v7y:Ctr:=
 ⟨39,[.str],[],[(.ret,⟨[(0, .tuple [.vec 0 4, .int .i64])],[q3m],1⟩)]⟩
def la39:List LA:=
 [⟨39,[fF,fF,tT,tT,tT,tT,fF,tT],0,⟨⟨[(0, .str),(4, .vec 0 4),(5, .bool)],[q3m],48⟩,[((AX.exit 0),⟨[(4, .vec 0 4),(5, .bool)],[q3m],48⟩)]⟩⟩]
def ja39:List JA:=
 [⟨39,[fF,tT,tT,fF,tT,fF,fF,fF,tT,tT,tT,tT,fF,tT],0,[(AX.normal,⟨[(4, .vec 0 4),(5, .bool),(7, .str),(9, .bptr 1 0)],[q3m,q1m],48⟩)]⟩]
def v8v:List CF:=
 [⟨w8g,F19⟩,⟨v7u,G88⟩,⟨w15,F87⟩]
def an39:Anns:=
 ⟨v8v,ja39,[]⟩
def v28 (p:Prim):(LD×W11w)→Option ((LD×W11w)⊕(LD×W3w)):=
 fun a=>let C:=p.eqN (p.len a.1) (p.len a.1);let E:=p.eqN 0 0;let F:=ByteArray.mk #[10]; opt.run _ (
 opt.ask _ (bif (p.strEq a.2.1 (ByteArray.mk #[])) then Bool.false else Bool.true) (
 opt.bnd ((ByteArray×W11w)) _ (G87 p (a.2.1,(F,()))) fun b=>
 opt.need _ (p.leN (p.add (p.slen b.1) (p.slen F)) 1000000)<|
 opt.bnd (W7w) _ (G88 p ((p.scat b.1 F),())) fun c=>
 opt.bnd (W22w) _ (
 opt.run (W22w) (
 opt.ask _ b.2.2.1 (
 opt.need _ E<|
 opt.need _ C<|
 opt.ret _ (a.1,(c.1,(c.2.1,(c.2.2.1,(c.2.2.2.1,(c.2.2.2.2.1,(b.2.1,())))))))) (
 opt.need _ E<|
 opt.need _ C<|
 opt.ret _ (a.1,(c.1,(c.2.1,(c.2.2.1,(c.2.2.2.1,(Bool.false,(b.2.1,())))))))))) fun d=>let A:=[[(D.int .i64 d.2.1),(D.int .i64 d.2.2.1),(D.list Bool.false 1 d.2.2.2.1),(D.int .i64 d.2.2.2.2.1)]];let B:=p.len d.1;let G:=p.app (p.cut d.1 0 B) (p.cut A 0 1);let H:=d.2.2.2.2.2.1;
 opt.ask _ (bif H then Bool.false else Bool.true) (
 opt.need _ E<|
 opt.need _ (p.eqN B B)<|
 opt.ret _ (Sum.inr (d.1,(H,())))) (
 opt.need _ (p.and (p.leN (p.add 0 1) (p.len A)) (p.and (p.leN (p.add 0 B) B) (p.and (p.leN 1 1) (p.leN (p.add B 1) 1000000))))<|
 opt.need _ E<|
 opt.need _ (p.eqN (p.add B 1) (p.len G))<|
 opt.ret _ (Sum.inl (G,(d.2.2.2.2.2.2.1,(H,())))))) (
 opt.need _ E<|
 opt.need _ C<|
 opt.ret _ (Sum.inr (a.1,a.2.2))))
def G39:(p:Prim)→W0w→Option (W21w):=
 fun p x=>
 opt.ask _ (p.cmp .gtr (p.ofNat (p.slen x.1)) (65536:Int)) (
 opt.ret _ ([],((7:Int),()))) (
 opt.bnd ((LD×W3w)) _ (
 z5r (v28 p) ([],(x.1,(Bool.true,())))) fun a=>let A:=p.len a.1;
 opt.ask _ (bif a.2.1 then Bool.false else Bool.true) (
 opt.ret _ ([],((8:Int),()))) (
 opt.need _ (p.and (p.leN (p.add 0 A) A) Bool.true)<|
 opt.bnd (W1w) _ (G19 p ((p.cut a.1 0 A),())) fun b=>
 opt.ask _ (p.cmp .neq b.1 (0:Int)) (
 opt.ret _ ([],b)) (
 opt.need _ (p.eqN 0 0)<|
 opt.need _ (p.eqN A A)<|
 opt.ret _ (a.1,((0:Int),())))))
theorem ok39:CtrOk PG v7y (G39 std):=okF vE (a:=an39) (l:=la39) (gC v2d (gC ok88 (gC ok87 (gN))))
end Go.Am
end
noncomputable section
namespace Go.Am
def v5n:Ctr:=
 ⟨122,[.int .i64],[],[(.ret,⟨[(0, .str)],[],1⟩)]⟩
def v8l:List LA:=
 []
def v8p:List JA:=
 [⟨122,[tT,tT,tT,fF,tT,fF,tT],0,[(AX.ret,⟨[(2, .str)],[],14⟩),(AX.normal,⟨[],[],14⟩)]⟩,
 ⟨122,[tT,tT,tT,tT,tT,fF,tT,fF,tT],0,[(AX.ret,⟨[(2, .str)],[],14⟩),(AX.normal,⟨[],[],14⟩)]⟩,
 ⟨122,[tT,tT,tT,tT,tT,tT,tT,fF,tT,fF,tT],0,[(AX.ret,⟨[(2, .str)],[],14⟩),(AX.normal,⟨[],[],14⟩)]⟩,
 ⟨122,[tT,fF,tT,fF,tT],0,[(AX.ret,⟨[(2, .str)],[],14⟩),(AX.normal,⟨[],[],14⟩)]⟩]
def v7q:List CF:=
 []
def v84:Anns:=
 ⟨v7q,v8p,[]⟩
def v7f:(p:Prim)→W1w→Option (W0w):=
 fun p x=>
 opt.alt (W0w) (Unit) _ (
 opt.run ((W0w⊕Unit)) (
 opt.ask _ (p.cmp .eql x.1 (1:Int)) (
 opt.ret _ (Sum.inl ((ByteArray.mk #[101,110,116,101,114]),()))) (
 opt.alt (W0w) (Unit) _ (
 opt.run ((W0w⊕Unit)) (
 opt.ask _ (p.cmp .eql x.1 (2:Int)) (
 opt.ret _ (Sum.inl ((ByteArray.mk #[98,117,114,110]),()))) (
 opt.alt (W0w) (Unit) _ (
 opt.run ((W0w⊕Unit)) (
 opt.ask _ (p.cmp .eql x.1 (3:Int)) (
 opt.ret _ (Sum.inl ((ByteArray.mk #[99,111,109,112,97,114,101]),()))) (
 opt.alt (W0w) (Unit) _ (
 opt.run ((W0w⊕Unit)) (
 opt.ask _ (p.cmp .eql x.1 (4:Int)) (
 opt.ret _ (Sum.inl ((ByteArray.mk #[114,101,112,108,97,99,101]),()))) (
 opt.ask _ (p.cmp .eql x.1 (5:Int)) (
 opt.ret _ (Sum.inl ((ByteArray.mk #[111,117,116]),()))) (
 opt.ret _ (Sum.inr ()))))) (fun a=>
 opt.ret _ (Sum.inl a)) (fun b=>
 opt.bnd (Unit) _ (some b) fun c=>
 opt.ret _ (Sum.inr ()))))) (fun d=>
 opt.ret _ (Sum.inl d)) (fun e=>
 opt.bnd (Unit) _ (some e) fun f=>
 opt.ret _ (Sum.inr ()))))) (fun g=>
 opt.ret _ (Sum.inl g)) (fun h=>
 opt.bnd (Unit) _ (some h) fun i=>
 opt.ret _ (Sum.inr ()))))) (fun j=>
 opt.ret _ j) (fun k=>
 opt.bnd (Unit) _ (some k) fun l=>
 opt.ret _ ((ByteArray.mk #[99,108,97,105,109]),()))
theorem v7l:CtrOk PG v5n (v7f std):=okF vE (a:=v84) (l:=v8l) (gN)
def z25:Ctr:=
 ⟨123,[.int .i64],[],[(.ret,⟨[(0, .str)],[],1⟩)]⟩
def v8k:List LA:=
 []
def v8o:List JA:=
 []
def v5i:(Prim→Tup (z25).scs→Option (STup (scss (z25).outs)))→List CF:=
 fun R=>[⟨z25,R⟩]
def v83:(Prim→Tup (z25).scs→Option (STup (scss (z25).outs)))→Anns:=
 fun R=>⟨v5i R,v8o,[]⟩
def v6s:(Prim→W1w→Option W0w)→(p:Prim)→W1w→Option (W0w):=
 fun R=>fun p x=>let A:=(10:Int);let B:=p.cmp .neq A (0:Int);
 opt.ask _ (p.cmp .lss x.1 (0:Int)) (
 opt.bnd (W0w) _ (R p ((p.ar .sub .i64 (0:Int) x.1),())) fun a=>
 opt.need _ (p.leN (p.add (p.slen (ByteArray.mk #[45])) (p.slen a.1)) 1000000)<|
 opt.ret _ ((p.scat (ByteArray.mk #[45]) a.1),())) (
 opt.ask _ (p.cmp .lss x.1 A) (
 opt.ret _ ((p.schr (p.cvt .i32 (p.ar .add .i64 (48:Int) x.1))),())) (
 opt.need _ B<|
 opt.bnd (W0w) _ (R p ((p.ar .quo .i64 x.1 A),())) fun b=>
 opt.need _ B<|
 opt.bnd (W0w) _ (R p ((p.ar .rem .i64 x.1 A),())) fun c=>
 opt.need _ (p.leN (p.add (p.slen b.1) (p.slen c.1)) 1000000)<|
 opt.ret _ ((p.scat b.1 c.1),())))
def v45:Nat→Prim→Tup (z25).scs→Option (STup (scss (z25).outs)):=
 fun n=>Nat.rec (motive:=fun _=>(Prim→Tup (z25).scs→Option (STup (scss (z25).outs)))) (fun _ _=>none) (fun _ f p x=>v6s f p x) n
def v88:Prim→Tup (z25).scs→Option (STup (scss (z25).outs)):=
 v45 100
def v8b:Prim→(Int×Unit)→Option (ByteArray×Unit):=v88
theorem v8z (R:(Prim→Tup (z25).scs→Option (STup (scss (z25).outs)))) (p:Prim) (x:Tup (z25).scs):bodyRun opt p (autoEnvE [] PG) (mkOrc opt p (autoEnvE [] PG) 400 (v83 R) v8k) 400 z25 x=v6s R p x:=by kernel_rfl
theorem v7o (R:(Prim→Tup (z25).scs→Option (STup (scss (z25).outs)))) (hR:CtrOk PG z25 (R std)):GamOk PG (v5i R):=by
 intro cf h
 simp only [v5i,eAz,List.not_mem_nil,or_false] at h
 rcases h with rfl
 ·exact hR
theorem v31:z42 PG 123:=enters_auto (b:=_) rfl (by kernel_rfl)
theorem v4y (R:(Prim→Tup (z25).scs→Option (STup (scss (z25).outs)))) (hR:CtrOk PG z25 (R std)):CtrOk PG z25 (fun x=>v6s R std x):=ctr_of_body (autoEnvE_ok follows_mixed) (mkOrc_ok (autoEnvE_ok follows_mixed) (v7o R hR) _) v31 (fun x=>v8z R std x)
theorem v5a:∀ n,CtrOk PG z25 (v45 n std)
 |0=>⟨v31,fun x y h=>nomatch h⟩
 |n+1=>v4y (v45 n) (v5a n)
theorem v8h:CtrOk PG z25 (v88 std):=v5a 100
def v7v:Ctr:=
 ⟨86,[.agg [.int .i64, .int .i64, .list 1, .int .i64]],[],[(.ret,⟨[(0, .str)],[],1⟩)]⟩
def la86:List LA:=
 [⟨86,[fF,tT,fF,tT,tT],0,⟨⟨[(1, .bptr 0 0),(3, .str),(4, .int .i64)],[q1m],36⟩,[((AX.exit 0),⟨[(1, .bptr 0 0),(3, .str)],[q1m],36⟩)]⟩⟩]
def ja86:List JA:=
 []
def v8s:List CF:=
 [⟨z25,v88⟩,⟨v5n,v7f⟩]
def an86:Anns:=
 ⟨v8s,ja86,[]⟩
def v5p (p:Prim):(Int×(Int×(LD×(Int×W8w))))→Option ((Int×(Int×(LD×(Int×W8w))))⊕(Int×(Int×(LD×(Int×W0w))))):=
 fun a=>let A:=a.2.2.2.2.2.1;let B:=ByteArray.mk #[32];let C:=a.2.2.1; opt.run _ (
 opt.ask _ (p.cmp .lss A (p.ofNat (p.len C))) (
 opt.need _ (p.rowOk C (p.nat A) [ci])<|
 opt.need _ (p.cmp .geq A (0:Int))<|
 opt.bnd (W0w) _ (v8b p ((p.rdI C (p.nat A) 0),())) fun b=>
 opt.need _ (p.leN (p.add (p.slen B) (p.slen b.1)) 1000000)<|
 opt.need _ (p.leN (p.add (p.slen a.2.2.2.2.1) (p.slen (p.scat B b.1))) 1000000)<|
 opt.ret _ (Sum.inl (a.1,(a.2.1,(C,(a.2.2.2.1,((p.scat a.2.2.2.2.1 (p.scat B b.1)),((p.ar .add .i64 A (1:Int)),())))))))) (
 opt.ret _ (Sum.inr (a.1,(a.2.1,(C,(a.2.2.2.1,(a.2.2.2.2.1,()))))))))
def G86:(p:Prim)→(Int×(Int×W21w))→Option (W0w):=
 fun p x=>let A:=ByteArray.mk #[32];
 opt.bnd (W0w) _ (v7f p (x.2.1,())) fun a=>
 opt.need _ (p.leN (p.add (p.slen a.1) (p.slen A)) 1000000)<|
 opt.bnd (W0w) _ (v8b p (x.1,())) fun b=>
 opt.need _ (p.leN (p.add (p.slen (p.scat a.1 A)) (p.slen b.1)) 1000000)<|
 opt.bnd ((Int×(Int×(LD×(Int×W0w))))) _ (
 z5r (v5p p) (x.1,(x.2.1,(x.2.2.1,(x.2.2.2.1,((p.scat (p.scat a.1 A) b.1),((0:Int),()))))))) fun c=>let B:=p.scat c.2.2.2.2.1 A;
 opt.need _ (p.leN (p.add (p.slen c.2.2.2.2.1) (p.slen A)) 1000000)<|
 opt.bnd (W0w) _ (v8b p (c.2.2.2.1,())) fun d=>
 opt.need _ (p.leN (p.add (p.slen B) (p.slen d.1)) 1000000)<|
 opt.need _ (p.leN (p.add (p.slen (p.scat B d.1)) (p.slen (ByteArray.mk #[10]))) 1000000)<|
 opt.ret _ ((p.scat (p.scat B d.1) (ByteArray.mk #[10])),())
theorem ok86:CtrOk PG v7v (G86 std):=okF vE (a:=an86) (l:=la86) (gC v8h (gC v7l (gN)))
def v7z:Ctr:=
 ⟨38,[.list 4],[],[(.ret,⟨[(0, .tuple [.str, .int .i64])],[],1⟩)]⟩
def la38:List LA:=
 [⟨38,[fF,tT,fF,tT,tT,tT],0,⟨⟨[(0, .list 4),(4, .str),(5, .int .i64)],[],25⟩,[((AX.exit 0),⟨[(4, .str)],[],25⟩)]⟩⟩]
def ja38:List JA:=
 []
def v8w:List CF:=
 [⟨v7v,G86⟩,⟨w8f,F20⟩]
def an38:Anns:=
 ⟨v8w,ja38,[]⟩
def v5r (p:Prim):(LD×W8w)→Option ((LD×W8w)⊕W0w):=
 fun a=>let A:=p.nat a.2.2.1; opt.run _ (
 opt.ask _ (p.cmp .lss a.2.2.1 (p.ofNat (p.len a.1))) (
 opt.need _ (p.rowOk a.1 A [ci,ci,(CK.list 1),ci])<|
 opt.need _ (p.cmp .geq a.2.2.1 (0:Int))<|
 opt.bnd (W0w) _ (G86 p ((p.rdI a.1 A 0),((p.rdI a.1 A 1),((p.rdL a.1 A 2),((p.rdI a.1 A 3),()))))) fun b=>
 opt.need _ (p.leN (p.add (p.slen a.2.1) (p.slen b.1)) 1000000)<|
 opt.ret _ (Sum.inl (a.1,((p.scat a.2.1 b.1),((p.ar .add .i64 a.2.2.1 (1:Int)),()))))) (
 opt.ret _ (Sum.inr (a.2.1,()))))
def G38:(p:Prim)→(LD×Unit)→Option (W8w):=
 fun p x=>
 opt.bnd (W1w) _ (G20 p x) fun a=>
 opt.ask _ (p.cmp .neq a.1 (0:Int)) (
 opt.bnd (W1w) _ (G20 p x) fun b=>
 opt.ret _ ((ByteArray.mk #[]),b)) (
 opt.bnd (W0w) _ (
 z5r (v5r p) (x.1,((ByteArray.mk #[]),((0:Int),())))) fun c=>
 opt.ret _ (c.1,((0:Int),())))
theorem ok38:CtrOk PG v7z (G38 std):=okF vE (a:=an38) (l:=la38) (gC ok86 (gC ok20 (gN)))
def v6p:Ctr:=
 ⟨128,[.str],[],[(.ret,⟨[(0, .sl 0 1)],[q4m],1⟩)]⟩
def v8j:List LA:=
 [⟨128,[fF,tT,fF,tT,tT],0,⟨⟨[(0, .str),(3, .sl 0 1),(4, .int .i64)],[q4m],33⟩,[((AX.exit 0),⟨[(3, .sl 0 1)],[q4m],33⟩)]⟩⟩]
def v8n:List JA:=
 [⟨128,[fF,tT,fF,fF,tT,fF,tT,tT],0,[(AX.normal,⟨[(0, .str),(3, .sl 0 1),(4, .int .i64)],[q4m],33⟩)]⟩]
def v7p:List CF:=
 []
def v82:Anns:=
 ⟨v7p,v8n,[]⟩
def v3m (p:Prim):W10w→Option (W10w⊕(LD×W14w)):=
 fun a=>let H:=a.2.2.2.1;let A:=p.ar .sub .i64 (p.ofNat H) (1:Int);let F:=a.2.2.2.2.1;let B:=p.ar .add .i64 F (1:Int);let C:=p.add a.2.2.1 (p.nat A);let E:=bif (p.cmp .geq A (0:Int)) then (p.cmp .lss A (p.ofNat H)) else Bool.false;let G:=p.ofNat (p.slen a.2.1);let I:=p.scut a.2.1 (p.nat F) (p.nat B);let J:=[[(D.str (ByteArray.mk #[]))]];let K:=p.rowOk a.1 C [CK.str];let L:=p.cmp .geq F (0:Int); opt.run _ (
 opt.ask _ (p.cmp .lss F G) (
 opt.bnd (W10w) _ (
 opt.run (W10w) (
 opt.need _ (bif L then (p.cmp .lss F G) else Bool.false)<|
 opt.ask _ (p.cmp .eql (p.byte a.2.1 F) (32:Int)) (
 opt.need _ (p.and (p.leN (p.add 0 1) (p.len J)) (p.and (p.leN (p.add a.2.2.1 H) (p.len a.1)) (p.and (p.leN 1 1) (p.leN (p.add H 1) 1000000))))<|
 opt.ret _ ((p.app (p.cut a.1 a.2.2.1 H) (p.cut J 0 1)),(a.2.1,(0,((p.add H 1),a.2.2.2.2))))) (
 opt.need _ E<|
 opt.need _ K<|
 opt.need _ (p.and L (p.and (p.cmp .leq F B) (p.cmp .leq B G)))<|
 opt.need _ (p.leN (p.add (p.slen (p.rdS a.1 C 0)) (p.slen I)) 1000000)<|
 opt.need _ E<|
 opt.need _ K<|
 opt.ret _ ((p.set a.1 C [(D.str (p.scat (p.rdS a.1 C 0) I))]),a.2)))) fun b=>
 opt.ret _ (Sum.inl (b.1,(b.2.1,(b.2.2.1,(b.2.2.2.1,((p.ar .add .i64 b.2.2.2.2.1 (1:Int)),()))))))) (
 opt.ret _ (Sum.inr (a.1,(a.2.2.1,(H,()))))))
def v8a:(p:Prim)→W0w→Option ((LD×W14w)):=
 fun p x=>let A:=[[(D.str (ByteArray.mk #[]))]];
 opt.need _ (p.leN (p.add 0 1) (p.len A))<|
 opt.bnd ((LD×W14w)) _ (
 z5r (v3m p) (A,(x.1,(0,(1,((0:Int),())))))) fun a=>
 opt.ret _ a
theorem v8g:CtrOk PG v6p (v8a std):=okF vE (a:=v82) (l:=v8j) (gN)
def z24:Ctr:=
 ⟨129,[.str],[],[(.ret,⟨[(0, .tuple [.int .i64, .bool])],[],1⟩)]⟩
def v8i:List LA:=
 [⟨129,[fF,tT,fF,tT,tT,tT,tT],0,⟨⟨[(0, .str),(6, .int .i64),(7, .int .i64)],[],79⟩,[(AX.ret,⟨[(2, .int .i64),(3, .bool)],[],79⟩),((AX.exit 0),⟨[(6, .int .i64)],[],79⟩)]⟩⟩]
def v8m:List JA:=
 [⟨129,[fF,fF,tT,tT],0,[(AX.normal,⟨[(0, .str),(51, .bool)],[],79⟩)]⟩,
 ⟨129,[fF,fF,fF,fF,tT,fF,fF,tT,fF,tT,tT,tT,tT],0,[(AX.normal,⟨[(0, .str),(6, .int .i64),(7, .int .i64),(67, .bool)],[],79⟩)]⟩,
 ⟨129,[tT,fF,tT],0,[(AX.ret,⟨[(2, .int .i64),(3, .bool)],[],79⟩),(AX.normal,⟨[(0, .str)],[],79⟩)]⟩,
 ⟨129,[fF,fF,tT],0,[(AX.normal,⟨[(0, .str),(15, .bool)],[],79⟩)]⟩]
def v5h:(Prim→Tup (z24).scs→Option (STup (scss (z24).outs)))→List CF:=
 fun R=>[⟨z24,R⟩]
def v81:(Prim→Tup (z24).scs→Option (STup (scss (z24).outs)))→Anns:=
 fun R=>⟨v5h R,v8m,[]⟩
def v3i (p:Prim):(ByteArray×(Int×W1w))→Option ((ByteArray×(Int×W1w))⊕(W15w⊕W1w)):=
 fun a=>let C:=a.2.2.1;let B:=p.cmp .lss C (p.ofNat (p.slen a.1));let A:=bif (p.cmp .geq C (0:Int)) then B else Bool.false; opt.run _ (
 opt.ask _ B (
 opt.bnd ((ByteArray×(Int×W15w))) _ (
 opt.run ((ByteArray×(Int×W15w))) (
 opt.need _ A<|
 opt.ask _ (p.cmp .lss (p.byte a.1 C) (48:Int)) (
 opt.ret _ (a.1,(a.2.1,(C,(Bool.true,()))))) (
 opt.need _ A<|
 opt.ret _ (a.1,(a.2.1,(C,((p.cmp .gtr (p.byte a.1 C) (57:Int)),()))))))) fun b=>
 opt.ask _ b.2.2.2.1 (
 opt.ret _ (Sum.inr (Sum.inl ((0:Int),(Bool.false,()))))) (
 opt.need _ (bif (p.cmp .geq b.2.2.1 (0:Int)) then (p.cmp .lss b.2.2.1 (p.ofNat (p.slen b.1))) else Bool.false)<|
 opt.ret _ (Sum.inl (b.1,((p.ar .add .i64 (p.ar .mul .i64 (10:Int) b.2.1) (p.cvt .i64 (p.ar .sub .u8 (p.byte b.1 b.2.2.1) (48:Int)))),((p.ar .add .i64 b.2.2.1 (1:Int)),())))))) (
 opt.ret _ (Sum.inr (Sum.inr (a.2.1,())))))
def v38:(Prim→W0w→Option W15w)→(p:Prim)→W0w→Option (W15w):=
 fun R=>fun p x=>let A:=(0:Int);let E:=(1:Int);let G:=p.ofNat (p.slen x.1);
 opt.bnd (W11w) _ (
 opt.run (W11w) (
 opt.ask _ (p.cmp .gtr G E) (
 opt.need _ (bif (p.cmp .geq A A) then (p.cmp .lss A G) else Bool.false)<|
 opt.ret _ (x.1,((p.cmp .eql (p.byte x.1 A) (45:Int)),()))) (
 opt.ret _ (x.1,(Bool.false,()))))) fun a=>let B:=p.ofNat (p.slen a.1);
 opt.alt (W15w) (W0w) _ (
 opt.run ((W15w⊕W0w)) (
 opt.ask _ a.2.1 (
 opt.need _ (p.and (p.cmp .geq E A) (p.and (p.cmp .leq E B) (p.cmp .leq B B)))<|
 opt.bnd (W15w) _ (R p ((p.scut a.1 (p.nat E) (p.nat B)),())) fun b=>let F:=p.ar .sub .i64 A b.1;
 opt.ask _ b.2.1 (
 opt.ask _ (p.cmp .gtr b.1 A) (
 opt.need _ (bif (p.cmp .geq E A) then (p.cmp .lss E B) else Bool.false)<|
 opt.ret _ (Sum.inl (F,((p.cmp .neq (p.byte a.1 E) (45:Int)),())))) (
 opt.ret _ (Sum.inl (F,(Bool.false,()))))) (
 opt.ret _ (Sum.inl (F,(Bool.false,()))))) (
 opt.ret _ (Sum.inr (a.1,()))))) (fun c=>
 opt.ret _ c) (fun d=>
 opt.bnd (W0w) _ (some d) fun e=>let C:=p.ofNat (p.slen e.1);let H:=(e.1,(Bool.true,()));
 opt.bnd (W11w) _ (
 opt.run (W11w) (
 opt.ask _ (p.cmp .lss C E) (
 opt.ret _ H) (
 opt.ask _ (p.cmp .gtr C (13:Int)) (
 opt.ret _ H) (
 opt.need _ (bif (p.cmp .geq A A) then (p.cmp .lss A C) else Bool.false)<|
 opt.ask _ (p.cmp .eql (p.byte e.1 A) (48:Int)) (
 opt.ret _ (e.1,((p.cmp .gtr C E),()))) (
 opt.ret _ (e.1,(Bool.false,()))))))) fun f=>
 opt.ask _ f.2.1 (
 opt.ret _ (A,(Bool.false,()))) (
 opt.alt (W15w) (W1w) _ (
 z5r (v3i p) (f.1,(A,(A,())))) (fun g=>
 opt.ret _ g) (fun h=>
 opt.bnd (W1w) _ (some h) fun i=>
 opt.ret _ (i.1,((p.cmp .leq i.1 (1099511627776:Int)),())))))
def v5x:Nat→Prim→Tup (z24).scs→Option (STup (scss (z24).outs)):=
 fun n=>Nat.rec (motive:=fun _=>(Prim→Tup (z24).scs→Option (STup (scss (z24).outs)))) (fun _ _=>none) (fun _ f p x=>v38 f p x) n
def v87:Prim→Tup (z24).scs→Option (STup (scss (z24).outs)):=
 v5x 1000000
def v9b:Prim→(ByteArray×Unit)→Option (Int×(Bool×Unit)):=v87
theorem v8y (R:(Prim→Tup (z24).scs→Option (STup (scss (z24).outs)))) (p:Prim) (x:Tup (z24).scs):bodyRun opt p (autoEnvE [] PG) (mkOrc opt p (autoEnvE [] PG) 400 (v81 R) v8i) 400 z24 x=v38 R p x:=by kernel_rfl
theorem v7n (R:(Prim→Tup (z24).scs→Option (STup (scss (z24).outs)))) (hR:CtrOk PG z24 (R std)):GamOk PG (v5h R):=by
 intro cf h
 simp only [v5h,eAz,List.not_mem_nil,or_false] at h
 rcases h with rfl
 ·exact hR
theorem v30:z42 PG 129:=enters_auto (b:=_) rfl (by kernel_rfl)
theorem v4x (R:(Prim→Tup (z24).scs→Option (STup (scss (z24).outs)))) (hR:CtrOk PG z24 (R std)):CtrOk PG z24 (fun x=>v38 R std x):=ctr_of_body (autoEnvE_ok follows_mixed) (mkOrc_ok (autoEnvE_ok follows_mixed) (v7n R hR) _) v30 (fun x=>v8y R std x)
theorem v49:∀ n,CtrOk PG z24 (v5x n std)
 |0=>⟨v30,fun x y h=>nomatch h⟩
 |n+1=>v4x (v5x n) (v49 n)
theorem v8f:CtrOk PG z24 (v87 std):=v49 1000000
def v7t:Ctr:=
 ⟨89,[.str],[],[(.ret,⟨[(0, .tuple [.agg [.int .i64, .int .i64, .list 1, .int .i64], .bool])],[],1⟩)]⟩
def la89:List LA:=
 [⟨89,[fF,tT,fF,tT,tT,tT],0,⟨⟨[(2, .bptr 0 0),(4, .sl 1 1),(5, .bptr 2 0),(6, .int .i64)],[q2m,q4m,q2m],75⟩,[((AX.exit 0),⟨[(2, .bptr 0 0),(4, .sl 1 1),(5, .bptr 2 0)],[q2m,q4m,q2m],75⟩)]⟩⟩,
 ⟨89,[fF,tT,fF,tT,tT,tT,tT,tT,tT],0,⟨⟨[(2, .bptr 0 0),(4, .sl 1 1),(5, .bptr 2 0),(7, .bool),(8, .int .i64)],q6m,75⟩,[((AX.exit 2),⟨[(2, .bptr 0 0),(5, .bptr 1 0),(7, .bool)],[q2m, .box [.int .i64, .int .i64, .vec 2 1, .int .i64],q5m],75⟩)]⟩⟩]
def ja89:List JA:=
 [⟨89,[tT,tT,tT,fF,fF,tT,fF,fF,tT,fF,tT,tT,tT,tT,tT,tT],0,[(AX.normal,⟨[(2, .bptr 0 0),(4, .sl 1 1),(5, .bptr 2 0),(7, .bool),(8, .int .i64)],q6m,75⟩)]⟩,
 ⟨89,[tT,fF,fF,tT,fF,fF,tT,fF,tT,tT,tT],0,[(AX.normal,⟨[(2, .bptr 0 0),(4, .sl 1 1),(5, .bptr 2 0),(6, .int .i64)],[q2m,q4m,q2m],75⟩)]⟩,
 ⟨89,[tT,tT,tT,tT,tT,fF,fF,tT,fF,fF,tT,fF,tT,tT,tT,tT,tT,tT],0,[(AX.normal,⟨[(2, .bptr 0 0),(4, .sl 1 1),(5, .bptr 2 0),(7, .bool),(8, .int .i64)],q6m,75⟩)]⟩,
 ⟨89,[fF,tT,fF,fF,tT,fF,fF,tT,fF,tT,tT,tT,tT,tT,tT],0,[(AX.normal,⟨[(2, .bptr 0 0),(4, .sl 1 1),(5, .bptr 2 0),(7, .bool),(8, .int .i64),(9, .int .i64)],q6m,75⟩)]⟩,
 ⟨89,[fF,fF,tT,tT,tT,tT],0,[(AX.normal,⟨[(2, .bptr 0 0),(4, .sl 1 1),(5, .bptr 2 0),(36, .bool)],[q2m,q4m,q2m],75⟩)]⟩]
def v8q:List CF:=
 [⟨v6p,v8a⟩,⟨z24,v87⟩,⟨w8b,F59⟩,⟨v5n,v7f⟩]
def an89:Anns:=
 ⟨v8q,ja89,[]⟩
def v3k (p:Prim):W4w→Option (W4w⊕(LD×(Int×(Int×(Int×W9w))))):=
 fun a=>let B:=a.2.2.2.2.2.2.2.2.2.2.2.1;let F:=p.eqN (p.len a.2.1) (p.len a.2.1);let G:=p.eqN 0 0;let H:=a.2.2.2.2.2.2.2.2.2.1;let J:=a.2.2.2.2.2.2.2.2.1;let M:=a.2.2.2.2.2.2.2.1;let N:=a.2.2.2.2.2.2.1;let O:=p.cmp .lss B (p.ofNat H);let P:=a.2.2.2.2.2.1;let Q:=a.2.2.2.2.2.2.2.2.2.2.1; opt.run _ (
 opt.ask _ O (
 opt.need _ (bif (p.cmp .geq B (0:Int)) then O else Bool.false)<|
 opt.need _ (p.rowOk a.1 (p.add J (p.nat B)) [CK.str])<|
 opt.bnd (W15w) _ (v9b p ((p.rdS a.1 (p.add J (p.nat B)) 0),())) fun b=>
 opt.bnd (W13w) _ (
 opt.run (W13w) (
 opt.ask _ Q (
 opt.need _ G<|
 opt.need _ F<|
 opt.ret _ (a.1,(a.2.1,(a.2.2.1,(a.2.2.2.1,(a.2.2.2.2.1,(P,(N,(M,(J,(H,(b.2.1,(B,(b.1,())))))))))))))) (
 opt.need _ G<|
 opt.need _ F<|
 opt.ret _ (a.1,(a.2.1,(a.2.2.1,(a.2.2.2.1,(a.2.2.2.2.1,(P,(N,(M,(J,(H,(Bool.false,(B,(b.1,())))))))))))))))) fun c=>let K:=c.2.2.2.2.2.2.2.2.2.2.2.1;let A:=(c.2.2.2.2.2.2.2.2.1,(c.2.2.2.2.2.2.2.2.2.1,(c.2.2.2.2.2.2.2.2.2.2.1,(K,()))));let C:=c.2.2.2.2.2.2.2.2.2.2.2.2.1;let E:=p.len c.2.1;let I:=p.app (p.cut c.2.1 0 E) (p.cut [[(D.int .i64 C)]] 0 1);let L:=(c.2.2.2.2.2.2.1,(c.2.2.2.2.2.2.2.1,A));
 opt.bnd (W4w) _ (
 opt.run (W4w) (
 opt.ask _ (p.cmp .eql K (1:Int)) (
 opt.need _ G<|
 opt.need _ (p.eqN E E)<|
 opt.ret _ (c.1,(c.2.1,(c.2.2.1,(c.2.2.2.1,(c.2.2.2.2.1,(C,L))))))) (
 opt.bnd (W4w) _ (
 opt.run (W4w) (
 opt.ask _ (p.cmp .eql K (p.ar .sub .i64 (p.ofNat c.2.2.2.2.2.2.2.2.2.1) (1:Int))) (
 opt.need _ G<|
 opt.need _ (p.eqN E E)<|
 opt.ret _ (c.1,(c.2.1,(c.2.2.1,(c.2.2.2.1,(c.2.2.2.2.1,(c.2.2.2.2.2.1,(c.2.2.2.2.2.2.1,(C,A))))))))) (
 opt.need _ (p.and (p.leN (p.add 0 1) (p.len [[(D.int .i64 C)]])) (p.and (p.leN (p.add 0 E) E) (p.and (p.leN 1 1) (p.leN (p.add E 1) 1000000))))<|
 opt.need _ G<|
 opt.need _ (p.eqN (p.add E 1) (p.len I))<|
 opt.ret _ (c.1,(I,(c.2.2.1,(c.2.2.2.1,(c.2.2.2.2.1,(c.2.2.2.2.2.1,L))))))))) fun d=>
 opt.need _ G<|
 opt.need _ (p.eqN (p.len d.2.1) (p.len d.2.1))<|
 opt.ret _ d))) fun e=>
 opt.need _ G<|
 opt.need _ (p.eqN (p.len e.2.1) (p.len e.2.1))<|
 opt.ret _ (Sum.inl (e.1,(e.2.1,(e.2.2.1,(e.2.2.2.1,(e.2.2.2.2.1,(e.2.2.2.2.2.1,(e.2.2.2.2.2.2.1,(e.2.2.2.2.2.2.2.1,(e.2.2.2.2.2.2.2.2.1,(e.2.2.2.2.2.2.2.2.2.1,(e.2.2.2.2.2.2.2.2.2.2.1,((p.ar .add .i64 e.2.2.2.2.2.2.2.2.2.2.2.1 (1:Int)),())))))))))))))) (
 opt.need _ G<|
 opt.need _ F<|
 opt.ret _ (Sum.inr (a.2.1,(a.2.2.1,(a.2.2.2.1,(a.2.2.2.2.1,(P,(N,(M,(Q,())))))))))))
def v44 (p:Prim):W6w→Option (W6w⊕W20w):=
 fun a=>let B:=(0:Int);let A:=p.add a.2.2.2.2.2.2.2.1 (p.nat B); opt.run _ (
 opt.ask _ (p.cmp .leq a.2.2.2.2.2.2.2.2.2.1 (6:Int)) (
 opt.need _ (bif (p.cmp .geq B B) then (p.cmp .lss B (p.ofNat a.2.2.2.2.2.2.2.2.1)) else Bool.false)<|
 opt.need _ (p.rowOk a.1 A [CK.str])<|
 opt.bnd (W0w) _ (v7f p a.2.2.2.2.2.2.2.2.2) fun b=>
 opt.bnd (W6w) _ (
 opt.run (W6w) (
 opt.ask _ (p.strEq (p.rdS a.1 A 0) b.1) (
 opt.ret _ (a.1,(a.2.1,(a.2.2.1,(a.2.2.2.1,(a.2.2.2.2.1,(a.2.2.2.2.2.2.2.2.2.1,a.2.2.2.2.2.2))))))) (
 opt.ret _ a))) fun c=>
 opt.ret _ (Sum.inl (c.1,(c.2.1,(c.2.2.1,(c.2.2.2.1,(c.2.2.2.2.1,(c.2.2.2.2.2.1,(c.2.2.2.2.2.2.1,(c.2.2.2.2.2.2.2.1,(c.2.2.2.2.2.2.2.2.1,((p.ar .add .i64 c.2.2.2.2.2.2.2.2.2.1 (1:Int)),())))))))))))) (
 opt.ret _ (Sum.inr (a.1,(a.2.1,(a.2.2.1,(a.2.2.2.1,(a.2.2.2.2.1,(a.2.2.2.2.2.1,(a.2.2.2.2.2.2.1,(a.2.2.2.2.2.2.2.1,(a.2.2.2.2.2.2.2.2.1,()))))))))))))
def G89:(p:Prim)→W0w→Option (W7w):=
 fun p x=>let A:=(0:Int);
 opt.bnd ((LD×W14w)) _ (v8a p x) fun a=>
 opt.bnd (W20w) _ (
 z5r (v44 p) (a.1,(A,(A,(A,(A,(A,(A,(a.2.1,(a.2.2.1,((1:Int),()))))))))))) fun b=>let B:=b.2.2.2.2.2.2.2.2.1;let C:=b.2.2.2.2.2.1;
 opt.bnd (W16w) _ (
 opt.run (W16w) (
 opt.ask _ (p.cmp .eql C A) (
 opt.ret _ (b.1,(b.2.1,(b.2.2.1,(b.2.2.2.1,(b.2.2.2.2.1,(C,(b.2.2.2.2.2.2.1,(b.2.2.2.2.2.2.2.1,(B,(Bool.true,()))))))))))) (
 opt.bnd (W1w) _ (G59 p (C,())) fun c=>
 opt.ret _ (b.1,(b.2.1,(b.2.2.1,(b.2.2.2.1,(b.2.2.2.2.1,(C,(b.2.2.2.2.2.2.1,(b.2.2.2.2.2.2.2.1,(B,((p.cmp .neq (p.ofNat B) (p.ar .add .i64 c.1 (3:Int))),()))))))))))))) fun d=>
 opt.ask _ d.2.2.2.2.2.2.2.2.2.1 (
 opt.ret _ (d.2.2.2.2.1,(d.2.2.2.2.2.1,([],(d.2.2.2.2.2.2.1,(Bool.false,())))))) (
 opt.bnd ((LD×(Int×(Int×(Int×W9w))))) _ (
 z5r (v3k p) (d.1,([],(d.2.1,(d.2.2.1,(d.2.2.2.1,(d.2.2.2.2.1,(d.2.2.2.2.2.1,(d.2.2.2.2.2.2.1,(d.2.2.2.2.2.2.2.1,(d.2.2.2.2.2.2.2.2.1,(Bool.true,((1:Int),()))))))))))))) fun e=>
 opt.need _ (p.leN (p.add 0 (p.len e.1)) (p.len e.1))<|
 opt.ret _ (e.2.2.2.2.1,(e.2.2.2.2.2.1,((p.cut e.1 0 (p.len e.1)),e.2.2.2.2.2.2))))
theorem ok89:CtrOk PG v7t (G89 std):=okF vE (a:=an89) (l:=la89) (gC v8g (gC v8f (gC ok59 (gC v7l (gN)))))
def v7x:Ctr:=
 ⟨40,[.str],[],[(.ret,⟨[(0, .tuple [.vec 0 4, .int .i64])],[q3m],1⟩)]⟩
def la40:List LA:=
 [⟨40,[fF,tT,fF,tT,tT,tT,tT],0,⟨⟨[(0, .str),(4, .vec 0 4),(5, .str),(6, .int .i64)],[q3m],48⟩,[(AX.ret,⟨[(2, .nils),(3, .int .i64)],[],48⟩),((AX.exit 0),⟨[(4, .vec 0 4),(5, .str)],[q3m],48⟩)]⟩⟩]
def ja40:List JA:=
 [⟨40,[fF,tT,fF,fF,tT,fF,tT,tT,tT,tT],0,[(AX.normal,⟨[(0, .str),(4, .vec 0 4),(5, .str),(6, .int .i64)],[q3m],48⟩),(AX.ret,⟨[(2, .nils),(3, .int .i64)],[],48⟩)]⟩]
def v8u:List CF:=
 [⟨w8f,F20⟩,⟨v7t,G89⟩]
def an40:Anns:=
 ⟨v8u,ja40,[]⟩
def v4l (p:Prim):W18w→Option (W18w⊕(W1w⊕(LD×W0w))):=
 fun a=>let E:=a.2.2.2.1;let B:=p.ar .add .i64 E (1:Int);let C:=p.len a.1;let F:=p.ofNat (p.slen a.2.1);let H:=p.scut a.2.1 (p.nat E) (p.nat B);let I:=p.eqN 0 0;let J:=p.cmp .geq E (0:Int); opt.run _ (
 opt.ask _ (p.cmp .lss E F) (
 opt.alt (W18w) (W1w) _ (
 opt.run ((W18w⊕W1w)) (
 opt.need _ (bif J then (p.cmp .lss E F) else Bool.false)<|
 opt.ask _ (p.cmp .neq (p.byte a.2.1 E) (10:Int)) (
 opt.need _ (p.and J (p.and (p.cmp .leq E B) (p.cmp .leq B F)))<|
 opt.need _ (p.leN (p.add (p.slen a.2.2.1) (p.slen H)) 1000000)<|
 opt.need _ I<|
 opt.need _ (p.eqN C C)<|
 opt.ret _ (Sum.inl (a.1,(a.2.1,((p.scat a.2.2.1 H),a.2.2.2))))) (
 opt.bnd (W7w) _ (G89 p (a.2.2.1,())) fun b=>let A:=[[(D.int .i64 b.1),(D.int .i64 b.2.1),(D.list Bool.false 1 b.2.2.1),(D.int .i64 b.2.2.2.1)]];let G:=p.app (p.cut a.1 0 C) (p.cut A 0 1);
 opt.ask _ (bif b.2.2.2.2.1 then Bool.false else Bool.true) (
 opt.ret _ (Sum.inr ((8:Int),()))) (
 opt.need _ (p.and (p.leN (p.add 0 1) (p.len A)) (p.and (p.leN (p.add 0 C) C) (p.and (p.leN 1 1) (p.leN (p.add C 1) 1000000))))<|
 opt.need _ I<|
 opt.need _ (p.eqN (p.add C 1) (p.len G))<|
 opt.ret _ (Sum.inl (G,(a.2.1,((ByteArray.mk #[]),a.2.2.2)))))))) (fun c=>
 opt.need _ I<|
 opt.need _ (p.eqN (p.len c.1) (p.len c.1))<|
 opt.ret _ (Sum.inl (c.1,(c.2.1,(c.2.2.1,((p.ar .add .i64 c.2.2.2.1 (1:Int)),())))))) (fun d=>
 opt.bnd (W1w) _ (some d) fun e=>
 opt.ret _ (Sum.inr (Sum.inl e)))) (
 opt.need _ I<|
 opt.need _ (p.eqN C C)<|
 opt.ret _ (Sum.inr (Sum.inr (a.1,(a.2.2.1,()))))))
def G40:(p:Prim)→W0w→Option (W21w):=
 fun p x=>
 opt.ask _ (p.cmp .gtr (p.ofNat (p.slen x.1)) (65536:Int)) (
 opt.ret _ ([],((7:Int),()))) (
 opt.alt (W1w) ((LD×W0w)) _ (
 z5r (v4l p) ([],(x.1,((ByteArray.mk #[]),((0:Int),()))))) (fun a=>
 opt.ret _ ([],a)) (fun b=>
 opt.bnd ((LD×W0w)) _ (some b) fun c=>let A:=p.len c.1;let B:=p.and (p.leN (p.add 0 A) A) Bool.true;let C:=G20 p ((p.cut c.1 0 A),());
 opt.ask _ (bif (p.strEq c.2.1 (ByteArray.mk #[])) then Bool.false else Bool.true) (
 opt.ret _ ([],((8:Int),()))) (
 opt.need _ B<|
 opt.bnd (W1w) _ C fun d=>
 opt.ask _ (p.cmp .neq d.1 (0:Int)) (
 opt.need _ B<|
 opt.bnd (W1w) _ C fun e=>
 opt.ret _ ([],e)) (
 opt.need _ (p.eqN 0 0)<|
 opt.need _ (p.eqN A A)<|
 opt.ret _ (c.1,((0:Int),()))))))
theorem ok40:CtrOk PG v7x (G40 std):=okF vE (a:=an40) (l:=la40) (gC ok20 (gC ok89 (gN)))
end Go.Am
end
section
namespace Go.Am
open D12
theorem v5w (k:Int) (hk:z3a k≠0):v7f std (k,())=some (z7k k,()):=by
 unfold v7f z7k
 rcases y35 hk with ⟨rfl|rfl|rfl,_⟩|⟨rfl|rfl,_⟩|⟨rfl,_⟩<;>simp only [z2d,z2e,z4b,Int.reduceLT,Int.reduceEq,Int.reduceLE]<;>simp
end Go.Am
end
section
namespace Go.Am.D12
open Go.Lib (decDigits itoa)
abbrev Bs:=List UInt8
def z35 (b:UInt8):Prop:=48≤b.toNat∧b.toNat≤57
def dv (b:UInt8):Nat:=b.toNat - 48
theorem v42 {b:UInt8} (h:z35 b):b.toNat=48+dv b∧dv b<10:=by unfold z35 at h; unfold dv; omega
def stD (a:Nat) (b:UInt8):Nat:=10*a+dv b
def v21 (acc:Nat) (l:Bs):Nat:=l.foldl stD acc
theorem z57 (acc:Nat):v21 acc []=acc:=by unfold v21; rw [List.foldl_nil]
theorem z37 (acc:Nat) (b:UInt8) (l:Bs):v21 acc (b::l)=v21 (10*acc+dv b) l:=by unfold v21; rw [List.foldl_cons]; unfold stD; exact Eq.refl _
theorem v3c (b:UInt8) (l:Bs):∀ acc:Nat,v21 acc (l++[b])=10*v21 acc l+dv b:=by
 induction l with
 |nil=>intro acc; rw [List.nil_append,z37,z57,z57]
 |cons c l ih=>intro acc; rw [eDd,z37,z37]; exact ih _
theorem v6v (l:Bs):∀ acc:Nat,acc≤v21 acc l:=by
 induction l with
 |nil=>intro acc; rw [z57]; exact eAk _
 |cons b l ih=>intro acc; have:=ih (10*acc+dv b); rw [z37]; omega
theorem v46 (l:Bs):∀ acc:Nat,(∀ b∈l,z35 b)→v21 acc l<(acc+1)*10 ^ l.length:=by
 induction l with
 |nil=>intro acc _; rw [z57]; simp
 |cons b l ih=>
  intro acc h
  have h1:=ih (10*acc+dv b) fun c hc=>h c (eCm _ hc)
  have h2:=(v42 (h b eBq)).2
  simp only [z37,eBi,Nat.pow_succ]
  refine eAn h1 ?_
  have:10*acc+dv b+1≤(acc+1)*10:=by omega
  calc (10*acc+dv b+1)*10 ^ l.length≤((acc+1)*10)*10 ^ l.length:=eAo _ this
   _=(acc+1)*(10 ^ l.length*10):=by rw [Nat.mul_assoc,eCb 10]
theorem v4s {u:Nat} (h:u<10):(UInt8.ofNat (48+u)).toNat=48+u:=by
 rw [UInt8.toNat_ofNat']; omega
theorem v3u {b:UInt8} (h:z35 b):UInt8.ofNat (48+dv b)=b:=by
 rw [←(v42 h).1]
 exact UInt8.ofNat_toNat
theorem v6n {u:Nat} (h:u<10):dv (UInt8.ofNat (48+u))=u:=by
 unfold dv; rw [v4s h]; omega
theorem v3h {u:Nat} (h:¬ u<10):decDigits u=decDigits (u / 10)++[UInt8.ofNat (48+u % 10)]:=by
 rw [decDigits,dif_neg h]
theorem z72 (u:Nat):∀ b∈decDigits u,z35 b:=by
 induction u using Nat.strongRecOn with
 |_ u ih=>
  by_cases h:u<10
  ·rw [Lib.decDigits_one h]
   intro b hb
   simp only [eBe] at hb
   subst hb
   have:=v4s h
   unfold z35; omega
  ·rw [v3h h]
   intro b hb
   rcases eBj.1 hb with hb|hb
   ·exact ih (u / 10) (by omega) b hb
   ·simp only [eBe] at hb
    subst hb
    have:=v4s (u:=u % 10) (by omega)
    unfold z35; omega
theorem v32 (u:Nat):decDigits u≠[]:=by
 rw [decDigits]; split<;>simp
theorem v3g (u:Nat):v21 0 (decDigits u)=u:=by
 induction u using Nat.strongRecOn with
 |_ u ih=>
  by_cases h:u<10
  ·rw [Lib.decDigits_one h]
   simp only [z37,z57]
   rw [v6n h]; omega
  ·rw [v3h h,v3c,ih (u / 10) (by omega),v6n (by omega)]
   omega
theorem v5m {u v:Nat} (h:decDigits u=decDigits v):u=v:=by rw [←v3g u,h,v3g]
theorem v55 (u:Nat) (h:(decDigits u).head?=some 48):u=0:=by
 induction u using Nat.strongRecOn with
 |_ u ih=>
  by_cases h10:u<10
  ·rw [Lib.decDigits_one h10] at h
   have:=v4s h10
   simp only [List.head?_cons,Option.some.injEq] at h
   rw [h] at this
   have e:(48:UInt8).toNat=48:=rfl
   omega
  ·rw [v3h h10] at h
   have hne:=v32 (u / 10)
   have:(decDigits (u / 10)).head?=some 48:=by
    cases hd:decDigits (u / 10) with
    |nil=>exact absurd hd hne
    |cons a l=>rw [hd] at h; simpa using h
   have:=ih (u / 10) (by omega) this
   omega
theorem v7s (n:Nat):∀ l:Bs,l.length=n+1→(∀ b∈l,z35 b)→(l.head?=some 48→l.length=1)→decDigits (v21 0 l)=l:=by
 induction n with
 |zero=>
  intro l hl hd _
  obtain ⟨b,rfl⟩:=List.length_eq_one_iff.1 hl
  have hb:=hd b eBq
  have h10:=(v42 hb).2
  simp only [z37,z57]
  rw [Nat.mul_zero,eAp,Lib.decDigits_one h10,v3u hb]
 |succ n ih=>
  intro l hl hd hh
  have hne:l≠[]:=by intro e; rw [e] at hl; simp at hl
  obtain ⟨m,b,rfl⟩:∃ m b,l=m++[b]:=⟨l.dropLast,l.getLast hne,(List.dropLast_concat_getLast hne).symm⟩
  have hml:m.length=n+1:=by simpa using hl
  have hb:=hd b (by simp)
  have hm0:m.head?≠some 48:=by
   intro e
   have:(m++[b]).head?=some 48:=by
    cases m with
    |nil=>simp at e
    |cons a r=>simpa using e
   have:=hh this
   rw [hl] at this; omega
  have ih:=ih m hml (fun c hc=>hd c (by simp [hc])) fun e=>absurd e hm0
  have hv:1≤v21 0 m:=by
   rcases Nat.eq_zero_or_pos (v21 0 m) with h|h
   ·rw [h,Lib.decDigits_one (by omega)] at ih
    rw [←ih] at hm0
    exact absurd rfl hm0
   ·exact h
  have hb':=(v42 hb).2
  rw [v3c,v3h (by omega),show (10*v21 0 m+dv b) / 10=v21 0 m by omega,show (10*v21 0 m+dv b) % 10=dv b by omega,ih,v3u hb]
def MX:Int:=1099511627776
def Rng (n:Int):Prop:= -MX≤n∧n≤MX
instance (n:Int):Decidable (Rng n):=inferInstanceAs (Decidable (_∧_))
theorem v26 (u:Nat):itoa (u:Int)=decDigits u:=Lib.itoa_nonneg u
theorem v5g (u:Nat) (h:1≤u):itoa (-(u:Int))=45::decDigits u:=Lib.itoa_neg u h
theorem z33 (n:Int):(∃ u:Nat,n=(u:Int)∧itoa n=decDigits u)∨(∃ u:Nat,1≤u∧n= -(u:Int)∧itoa n=45::decDigits u):=by
 by_cases h:0≤n
 ·exact .inl ⟨n.toNat,by omega,by rw [←v26]; congr 1; omega⟩
 ·exact .inr ⟨n.natAbs,by omega,by omega,by rw [←v5g _ (by omega)]; congr 1; omega⟩
theorem v3b {b:UInt8} (h:z35 b):b≠45:=by
 rintro rfl; exact absurd h (by unfold z35; decide)
theorem v53 {b:UInt8} (h:z35 b):b≠32:=by
 rintro rfl; exact absurd h (by unfold z35; decide)
theorem v54 {b:UInt8} (h:z35 b):b≠10:=by
 rintro rfl; exact absurd h (by unfold z35; decide)
theorem v4z (n:Int):∀ b∈itoa n,b=45∨z35 b:=by
 rcases z33 n with ⟨u,rfl,e⟩|⟨u,_,rfl,e⟩<;>rw [e]<;>intro b hb
 ·exact .inr (z72 u b hb)
 ·rcases eAz.1 hb with rfl|hb
  ·exact .inl rfl
  ·exact .inr (z72 u b hb)
theorem v3t {m n:Int} (h:itoa m=itoa n):m=n:=by
 rcases z33 m with ⟨u,rfl,e⟩|⟨u,_,rfl,e⟩<;>rcases z33 n with ⟨v,rfl,f⟩|⟨v,_,rfl,f⟩<;>rw [e,f] at h
 ·rw [v5m h]
 ·have:=z72 u 45 (by rw [h]; exact eBq)
  exact absurd rfl (v3b this)
 ·have:=z72 v 45 (by rw [←h]; exact eBq)
  exact absurd rfl (v3b this)
 ·rw [List.cons.injEq] at h; rw [v5m h.2]
theorem v68 (n:Int):itoa n≠[]:=by
 rcases z33 n with ⟨u,rfl,e⟩|⟨u,_,rfl,e⟩<;>rw [e]
 ·exact v32 u
 ·simp
theorem v5l {u:Nat} (h:(u:Int)≤MX):(decDigits u).length≤13:=by
 rw [Lib.decDigits_length]
 unfold MX at h
 have h1:u≤1099511627776:=by omega
 refine Decidable.byContradiction fun hn=>?_
 have key:∀ (k u:Nat),k<Lib.nDigits u→10 ^ k≤u∨k=0:=by
  intro k
  induction k with
  |zero=>intro u _; exact .inr rfl
  |succ k ih=>
   intro u hk
   by_cases h:u<10
   ·rw [Lib.nDigits_small h] at hk; omega
   ·rw [Lib.nDigits_big h] at hk
    rcases ih (u / 10) (by omega) with h2|h2
    ·left; rw [Nat.pow_succ]; omega
    ·subst h2; left; simpa using (by omega:10≤u)
 rcases key 13 u (by omega) with h2|h2
 ·have:(10:Nat) ^ 13=10000000000000:=by decide
  omega
 ·omega
theorem v3j (M:Nat) (hM:1844674407370955162≤M) (l:Bs):∀ acc:Nat,(∀ b∈l,z35 b)→v21 acc l<1844674407370955162→Lib.parseUintM M acc l= .ok (v21 acc l):=by
 induction l with
 |nil=>intro acc _ _; rw [z57]; rfl
 |cons b l ih=>
  intro acc hd h
  have hb:=hd b eBq
  have hge:=v6v l (10*acc+dv b)
  rw [z37] at h⊢
  have e:acc*10+(b.toNat - 48)=10*acc+dv b:=by unfold dv; rw [eCb]
  rw [Lib.parseUintM,if_pos (show 48≤b.toNat∧b.toNat≤57 from hb),e,if_neg (by omega),if_neg (by omega)]
  exact ih _ (fun c hc=>hd c (eCm _ hc)) h
theorem v3l {n:Int} (h:Rng n):Lib.parseIntB 64 (itoa n)= .ok n:=by
 unfold Rng MX at h
 have p63:(2:Nat) ^ (64 - 1)=9223372036854775808:=by decide
 have hu:∀ u:Nat,u≤1099511627776→Lib.parseUintB 64 (decDigits u)= .ok u:=fun u hu=>by
  unfold Lib.parseUintB
  rw [if_neg (v32 u),v3j _ (by decide) _ _ (z72 u) (by rw [v3g]; omega),v3g]
 rcases z33 n with ⟨u,rfl,e⟩|⟨u,h1,rfl,e⟩<;>rw [e]
 ·cases hd:decDigits u with
  |nil=>exact absurd hd (v32 u)
  |cons c r=>
   have hc:=z72 u c (by rw [hd]; exact eBq)
   unfold z35 at hc
   rw [Lib.parseIntB_plain 64 c r (by omega) (by omega), ←hd,hu u (by omega),Lib.signlessC,p63,if_neg (by omega)]
 ·rw [Lib.parseIntB_minus,hu u (by omega),Lib.signedC,p63,if_neg (by omega)]
def sps:Bs→List Bs
 |[]=>[[]]
 |b::l=>match sps l with
  |[]=>[]
  |w::ws=>if b=32 then []::w::ws else (b::w)::ws
theorem v3d:∀ l:Bs,sps l≠[]
 |[]=>by simp [sps]
 |b::l=>by
  have:=v3d l
  cases h:sps l with
  |nil=>exact absurd h this
  |cons w ws=>simp only [sps,h]; split<;>simp
theorem v3n:∀ {w:Bs},(32:UInt8)∉w→sps w=[w]
 |[],_=>rfl
 |b::w,h=>by
  have h1:=v3n (w:=w) fun hh=>h (eCm _ hh)
  have h2:b≠32:=fun e=>h (by rw [e]; exact eBq)
  simp only [sps,h1,if_neg h2]
theorem v4a:∀ {w:Bs},(32:UInt8)∉w→∀ l,sps (w++32::l)=w::sps l
 |[],_,l=>by
  have:=v3d l
  cases h:sps l with
  |nil=>exact absurd h this
  |cons v vs=>simp [sps,h]
 |b::w,h,l=>by
  have h1:=v4a (w:=w) (fun hh=>h (eCm _ hh)) l
  have h2:b≠32:=fun e=>h (by rw [e]; exact eBq)
  simp only [eDd,sps,h1,if_neg h2]
def jn:List Bs→Bs
 |[]=>[]
 |w::ws=>w++(ws.map ((32:UInt8):: ·)).flatten
theorem v4r (w v:Bs) (ws:List Bs):jn (w::v::ws)=w++32::jn (v::ws):=by simp [jn]
theorem v67:∀ ws:List Bs,Lib.join ws [32]=jn ws
 |[]=>Lib.join_nil _
 |w::ws=>by rw [Lib.join_cons,jn,Lib.joinTail]; rfl
theorem v6m:∀ l:Bs,jn (sps l)=l
 |[]=>by simp [sps,jn]
 |b::l=>by
  have ih:=v6m l
  cases hs:sps l with
  |nil=>exact absurd hs (v3d l)
  |cons v vs=>
   rw [hs] at ih
   simp only [sps,hs]
   split
   ·rename_i hb
    rw [v4r,ih,hb]; rfl
   ·simp only [jn] at ih⊢
    rw [eDd,ih]
theorem v6i:∀ {ws:List Bs},ws≠[]→(∀ w∈ws,(32:UInt8)∉w)→sps (jn ws)=ws
 |[],h,_=>absurd rfl h
 |[w],_,h=>by
  have:jn [w]=w:=by simp [jn]
  rw [this,v3n (h w eBq)]
 |w::v::ws,_,h=>by
  rw [v4r,v4a (h w eBq),v6i (by simp) fun x hx=>h x (eCm _ hx)]
theorem v6z {s:Bs} {i:Nat} (hi:i<s.length):Lib.occAt s [32] i=decide (s[i]?=some 32):=by
 rw [Lib.occAt,eDg hi,eAa hi]
 simp only [List.isPrefixOf,eCc,Option.some.injEq]
 rw [eCu,beq_iff_eq,decide_eq_true_eq]
 exact ⟨Eq.symm,Eq.symm⟩
theorem v6y {s:Bs}:Lib.occAt s [32] s.length=false:=by simp [Lib.occAt,List.isPrefixOf]
theorem v47:∀ (n:Nat) (s:Bs),s.length≤n→Lib.splitK [32] 0 (Lib.count s [32]) s=sps s:=by
 intro n
 induction n with
 |zero=>
  intro s hs
  have:s=[]:=eBn.1 (by omega)
  subst this
  rw [Lib.count_miss (by rfl)]; rfl
 |succ n ih=>
  intro s hs
  rcases Lib.index_spec s [32] with ⟨h1,h2⟩|⟨i,h1,h2,h3,h4⟩
  ·rw [Lib.count_miss h1,Lib.splitK,v3n]
   intro hm
   obtain ⟨j,hj,he⟩:=eDh.1 hm
   have:=h2 j (by omega)
   rw [v6z hj,eAa hj,he] at this
   simp at this
  ·have hil:i<s.length:=by
    rcases eBw i s.length with h|h
    ·exact h
    ·have:i=s.length:=by omega
     subst this
     rw [v6y] at h3; cases h3
   rw [v6z hil] at h3
   have h32:s[i]?=some 32:=by simpa using h3
   have hc:=Lib.count_hit (s:=s) (sub:=[32]) (by simp) h1
   rw [hc,Nat.add_comm,Lib.splitK]
   have hb:¬ (Lib.index s [32]== -1)=true:=by rw [h1,beq_iff_eq]; omega
   rw [if_neg hb,h1]
   have ed:s.drop i=32::s.drop (i+1):=by
    rw [eDg hil]
    rw [eAa hil] at h32
    rw [Option.some.inj h32]
   have et:s=s.take i++32::s.drop (i+1):=by
    conv=>lhs; rw [←List.take_append_drop i s,ed]
   have hno:(32:UInt8)∉s.take i:=by
    intro hm
    obtain ⟨j,hj,he⟩:=eDh.1 hm
    rw [eBv] at hj
    have h5:Lib.occAt s [32] j=false:=h4 j (by omega)
    rw [v6z (by omega),eAa (by omega)] at h5
    rw [List.getElem_take] at he
    rw [he] at h5; simp at h5
   simp only [eCh,eAt,eDb]
   rw [ih _ (by rw [eCx]; omega)]
   conv=>rhs; rw [et,v4a hno]
def lns:Bs→List Bs×Bs
 |[]=>([],[])
 |b::l=>if b=10 then ([]::(lns l).1,(lns l).2) else match lns l with
  |([],r)=>([],b::r)
  |(x::xs,r)=>((b::x)::xs,r)
theorem v3q:∀ {w:Bs},(10:UInt8)∉w→∀ l,lns (w++10::l)=(w::(lns l).1,(lns l).2)
 |[],_,l=>by simp [lns]
 |b::w,h,l=>by
  have ih:=v3q (w:=w) (fun hh=>h (eCm _ hh)) l
  have hb:b≠10:=fun e=>h (by rw [e]; exact eBq)
  simp only [eDd,lns,if_neg hb,ih]
theorem v4q:∀ {w:Bs},(10:UInt8)∉w→lns w=([],w)
 |[],_=>rfl
 |b::w,h=>by
  have ih:=v4q (w:=w) fun hh=>h (eCm _ hh)
  have hb:b≠10:=fun e=>h (by rw [e]; exact eBq)
  simp only [lns,if_neg hb,ih]
theorem v5d:∀ l:Bs,(((lns l).1.map (· ++[10])).flatten++(lns l).2)=l
 |[]=>rfl
 |b::l=>by
  have ih:=v5d l
  simp only [lns]
  split
  ·rename_i hb
   simp only [eDe,eDi,List.nil_append,eDd,eCg]
   rw [ih,hb]
  ·cases h:lns l with
   |mk xs r=>
    rw [h] at ih
    cases xs with
    |nil=>simp only [List.map_nil,List.flatten_nil,List.nil_append] at ih⊢; rw [ih]
    |cons x xs=>simp only [eDe,eDi,eDd] at ih⊢; rw [ih]
theorem v3v:∀ {ws:List Bs},(∀ w∈ws,(10:UInt8)∉w)→lns ((ws.map (· ++[10])).flatten)=(ws,[])
 |[],_=>rfl
 |w::ws,h=>by
  rw [eDe,eDi,eCg]
  have:=v3q (h w eBq) ((ws.map (· ++[10])).flatten)
  rw [List.singleton_append,this,v3v fun x hx=>h x (eCm _ hx)]
theorem v60 {s:Bs} {i:Nat} (hi:i<s.length):Lib.occAt s [10] i=decide (s[i]?=some 10):=by
 rw [Lib.occAt,eDg hi,eAa hi]
 simp only [List.isPrefixOf,eCc,Option.some.injEq]
 rw [eCu,beq_iff_eq,decide_eq_true_eq]
 exact ⟨Eq.symm,Eq.symm⟩
theorem v80 (s:Bs):(∃ w r,s=w++10::r∧(10:UInt8)∉w∧Lib.cut s [10]=(w,r,true))∨((10:UInt8)∉s∧Lib.cut s [10]=(s,[],false)):=by
 rcases Lib.index_spec s [10] with ⟨h1,h2⟩|⟨i,h1,h2,h3,h4⟩
 ·right
  refine ⟨fun hm=>?_,by unfold Lib.cut; rw [h1,if_neg (by omega)]⟩
  obtain ⟨j,hj,he⟩:=eDh.1 hm
  have:=h2 j (by omega)
  rw [v60 hj,eAa hj,he] at this
  simp at this
 ·left
  have hil:i<s.length:=by
   rcases eBw i s.length with h|h
   ·exact h
   ·have:i=s.length:=by omega
    subst this
    have:Lib.occAt s [10] s.length=false:=by simp [Lib.occAt,List.isPrefixOf]
    rw [this] at h3; cases h3
  rw [v60 hil] at h3
  have h10:s[i]?=some 10:=by simpa using h3
  have ed:s.drop i=10::s.drop (i+1):=by
   rw [eDg hil]
   rw [eAa hil] at h10
   rw [Option.some.inj h10]
  refine ⟨s.take i,s.drop (i+1),by conv=>lhs; rw [←List.take_append_drop i s,ed],fun hm=>?_,?_⟩
  ·obtain ⟨j,hj,he⟩:=eDh.1 hm
   rw [eBv] at hj
   have h5:Lib.occAt s [10] j=false:=h4 j (by omega)
   rw [v60 (by omega),eAa (by omega)] at h5
   rw [List.getElem_take] at he
   rw [he] at h5; simp at h5
  ·unfold Lib.cut
   rw [h1,if_pos (by omega)]
   simp
theorem v7h (w:Bs):Lib.trimSuffix (w++[10]) [10]=w:=by
 unfold Lib.trimSuffix Lib.hasSuffix
 have:List.isSuffixOf [10] (w++[(10:UInt8)])=true:=by
  rw [List.isSuffixOf_iff_suffix]; exact List.suffix_append _ _
 rw [if_pos this]
 simp
def kwL (k:Int):Bs:=if k=1 then [101,110,116,101,114] else if k=2 then [98,117,114,110] else if k=3 then [99,111,109,112,97,114,101] else if k=4 then [114,101,112,108,97,99,101] else if k=5 then [111,117,116] else if k=6 then [99,108,97,105,109] else []
def wdC (c:Cd):List Bs:=kwL c.k::itoa c.n::(c.t.map itoa++[itoa c.a])
def CdL (c:Cd):Prop:=z3a c.k≠0∧c.t.length=z3a c.k∧Rng c.n∧(∀ x∈c.t,Rng x)∧Rng c.a
theorem z64 {k:Int} (h:z3a k≠0):k=1∨k=2∨k=3∨k=4∨k=5∨k=6:=by
 rcases y35 h with ⟨h|h|h,_⟩|⟨h|h,_⟩|⟨h,_⟩<;>simp [h]
theorem v4e {k j:Int} (hk:z3a k≠0) (hj:z3a j≠0) (h:kwL k=kwL j):k=j:=by
 rcases z64 hk with rfl|rfl|rfl|rfl|rfl|rfl<;>rcases z64 hj with rfl|rfl|rfl|rfl|rfl|rfl<;>first|rfl|(exact absurd h (by decide))
theorem v7m {k:Int} (hk:z3a k≠0):(32:UInt8)∉kwL k∧(10:UInt8)∉kwL k:=by
 rcases z64 hk with rfl|rfl|rfl|rfl|rfl|rfl<;>decide
theorem v4f (n:Int):(32:UInt8)∉itoa n∧(10:UInt8)∉itoa n:=by
 refine ⟨fun h=>?_,fun h=>?_⟩<;>rcases v4z n _ h with h|h
 ·exact absurd h (by decide)
 ·exact absurd rfl (v53 h)
 ·exact absurd h (by decide)
 ·exact absurd rfl (v54 h)
theorem v6h {c:Cd} (hk:z3a c.k≠0):∀ w∈wdC c,(32:UInt8)∉w∧(10:UInt8)∉w:=by
 intro w hw
 unfold wdC at hw
 rcases eAz.1 hw with rfl|hw
 ·exact v7m hk
 ·rcases eAz.1 hw with rfl|hw
  ·exact v4f _
  ·rcases eBj.1 hw with hw|hw
   ·obtain ⟨x,_,rfl⟩:=eBb.1 hw; exact v4f _
   ·simp only [eBe] at hw; subst hw; exact v4f _
theorem v63 {l m:List Int} (h:l.map itoa=m.map itoa):l=m:=by
 induction l generalizing m with
 |nil=>cases m with
  |nil=>rfl
  |cons y m=>simp at h
 |cons x l ih=>cases m with
  |nil=>simp at h
  |cons y m=>
   simp only [eDe,List.cons.injEq] at h
   rw [v3t h.1,ih h.2]
theorem v6u {c d:Cd} (hc:z3a c.k≠0) (hd:z3a d.k≠0) (h:wdC c=wdC d):c=d:=by
 unfold wdC at h
 simp only [List.cons.injEq] at h
 obtain ⟨h1,h2,h3⟩:=h
 have h4:=List.append_inj' h3 rfl
 have e1:=v4e hc hd h1
 have e2:=v3t h2
 have e3:=v63 h4.1
 have e4:=v3t (List.cons.inj h4.2).1
 cases c; cases d; simp_all
def lnC (c:Cd):Bs:=jn (wdC c)
theorem v3s {c:Cd} (hc:z3a c.k≠0):sps (lnC c)=wdC c:=v6i (by simp [wdC]) fun w hw=>(v6h hc w hw).1
theorem v65 {c d:Cd} (hc:z3a c.k≠0) (hd:z3a d.k≠0) (h:lnC c=lnC d):c=d:=v6u hc hd (by rw [←v3s hc,h,v3s hd])
theorem v52 {c:Cd} (hc:z3a c.k≠0):(10:UInt8)∉lnC c:=by
 unfold lnC
 have h:=v6h hc
 cases hw:wdC c with
 |nil=>simp [jn]
 |cons w ws=>
  rw [hw] at h
  simp only [jn,eBj,eCj,eBb,not_or]
  refine ⟨(h w eBq).2,?_⟩
  rintro ⟨l,⟨v,hv,rfl⟩,hl⟩
  rcases eAz.1 hl with hl|hl
  ·exact absurd hl (by decide)
  ·exact (h v (eCm _ hv)).2 hl
open Classical in
noncomputable def cdL (w:Bs):Option Cd:=if h:∃ c,CdL c∧lnC c=w then some h.choose else none
theorem z53 {w:Bs} {c:Cd}:cdL w=some c↔CdL c∧lnC c=w:=by
 unfold cdL
 constructor
 ·intro h
  split at h
  ·rename_i hh
   cases h
   exact hh.choose_spec
  ·cases h
 ·rintro ⟨h1,h2⟩
  have hh:∃ c,CdL c∧lnC c=w:=⟨c,h1,h2⟩
  rw [dif_pos hh]
  have:=hh.choose_spec
  rw [v65 this.1.1 h1.1 (this.2.trans h2.symm)]
theorem v20 {w:Bs}:cdL w=none↔∀ c,CdL c→lnC c≠w:=by
 constructor
 ·intro h c h1 h2
  have:=z53.2 ⟨h1,h2⟩
  rw [h] at this; cases this
 ·intro h
  cases hc:cdL w with
  |none=>rfl
  |some c=>obtain ⟨h1,h2⟩:=z53.1 hc; exact absurd h2 (h c h1)
noncomputable def v37:List Bs→Option (List Cd)
 |[]=>some []
 |w::ws=>match cdL w,v37 ws with
  |some c,some l=>some (c::l)
  |_,_=>none
noncomputable def z28 (s:Bs):Option (List Cd):=if (lns s).2=[] then v37 (lns s).1 else none
def z51 (l:List Cd):Bs:=(l.map fun c=>lnC c++[10]).flatten
theorem z41:∀ {ws:List Bs} {l:List Cd},v37 ws=some l↔ws=l.map lnC∧∀ c∈l,CdL c
 |[],l=>by
  simp only [v37,Option.some.injEq]
  constructor
  ·rintro rfl; exact ⟨rfl,by simp⟩
  ·rintro ⟨h,_⟩
   cases l with
   |nil=>rfl
   |cons c l=>simp at h
 |w::ws,l=>by
  simp only [v37]
  constructor
  ·intro h
   split at h
   ·rename_i c l' h1 h2
    cases h
    obtain ⟨h3,h4⟩:=z53.1 h1
    obtain ⟨h5,h6⟩:=z41.1 h2
    refine ⟨by rw [eDe, ←h5,h4],fun d hd=>?_⟩
    rcases eAz.1 hd with rfl|hd
    ·exact h3
    ·exact h6 d hd
   ·cases h
  ·rintro ⟨h1,h2⟩
   cases l with
   |nil=>simp at h1
   |cons c l=>
    simp only [eDe,List.cons.injEq] at h1
    rw [z53.2 ⟨h2 c eBq,h1.1.symm⟩,z41.2 ⟨h1.2,fun d hd=>h2 d (eCm _ hd)⟩]
theorem v22 {s:Bs} {l:List Cd}:z28 s=some l↔s=z51 l∧∀ c∈l,CdL c:=by
 unfold z28
 constructor
 ·intro h
  split at h
  ·rename_i h0
   obtain ⟨h1,h2⟩:=z41.1 h
   refine ⟨?_,h2⟩
   have:=v5d s
   rw [h0,h1,eCn,List.map_map] at this
   exact this.symm
  ·cases h
 ·rintro ⟨h1,h2⟩
  have e:z51 l=((l.map lnC).map (· ++[10])).flatten:=by rw [List.map_map]; rfl
  have h3:=v3v (ws:=l.map lnC) fun w hw=>by
   obtain ⟨c,hc,rfl⟩:=eBb.1 hw
   exact v52 (h2 c hc).1
  rw [←e, ←h1] at h3
  rw [h3,if_pos rfl]
  exact z41.2 ⟨rfl,h2⟩
end Go.Am.D12
end
section
namespace Go.Am
open D12
variable {fl fl':List Int→Bool}
def mkB (l:Bs):ByteArray:=⟨l.toArray⟩
theorem z26 (l:Bs):(mkB l).data.toList=l:=by simp [mkB]
theorem v4p (s:ByteArray):mkB s.data.toList=s:=by cases s; simp [mkB]
theorem z59 (l:Bs):(mkB l).size=l.length:=by rw [Lib.size_eq,z26]
theorem v4b (l m:Bs):mkB l++mkB m=mkB (l++m):=by
 rw [←v4p (mkB l++mkB m),ByteArray.data_append,Array.toList_append,z26,z26]
theorem z46 (l m:Bs):std.scat (mkB l) (mkB m)=mkB (l++m):=v4b l m
theorem z20 (l:Bs):std.slen (mkB l)=l.length:=z59 l
theorem v3o (l:Bs) (a b:Nat):std.scut (mkB l) a b=mkB ((l.drop a).take (b - a)):=by
 show (mkB l).extract a b=_
 rw [←v4p ((mkB l).extract a b),Lib.extract_data,z26]
theorem z75 {l:Bs} {i:Nat} {b:UInt8} (h:l[i]?=some b):std.byte (mkB l) (i:Int)=(b.toNat:Int):=by
 have hi:=(eAd.1 h)
 obtain ⟨h1,h2⟩:=hi
 show (((mkB l)[((i:Int)).toNat]?.map fun b=>(b.toNat:Int)).getD 0)=_
 have hs:i<(mkB l).size:=by rw [z59]; exact h1
 rw [eCh,getElem?_pos (mkB l) i hs]
 have:(mkB l)[i]=b:=by
  rw [←h2]
  show (mkB l).data[i]'_=_
  simp [mkB]
 rw [this]; rfl
theorem z21 (l m:Bs):std.strEq (mkB l) (mkB m)=decide (l=m):=by
 show ((mkB l).toList==(mkB m).toList)=_
 rw [Lib.toList_data,Lib.toList_data,z26,z26,eCu,beq_iff_eq,decide_eq_true_eq]
theorem v3w {k:Int} (h:z3a k≠0):z7k k=mkB (kwL k):=by
 rcases z64 h with rfl|rfl|rfl|rfl|rfl|rfl<;>rfl
theorem v3y (n:Int):z3i n=mkB (Lib.itoa n):=rfl
theorem v89:ByteArray.mk #[32]=mkB [32]:=rfl
theorem v62:ByteArray.mk #[10]=mkB [10]:=rfl
theorem mk0:ByteArray.mk #[]=mkB []:=rfl
theorem v50 (u:Nat) (h:u<10):std.schr (std.cvt .i32 (std.ar .add .i64 48 (u:Int)))=mkB (Lib.decDigits u):=by
 rw [Lib.decDigits_one h]
 match u,h with
 |0,_=>rfl
 |1,_=>rfl
 |2,_=>rfl
 |3,_=>rfl
 |4,_=>rfl
 |5,_=>rfl
 |6,_=>rfl
 |7,_=>rfl
 |8,_=>rfl
 |9,_=>rfl
theorem v33 {u:Nat} (h:u<10 ^ 18):(Lib.decDigits u).length≤100:=by
 have:=Go.Lib.itoa_length_le (u:Int) (by omega) (by omega)
 rw [v26] at this
 omega
theorem v36 (R:Prim→(Int×Unit)→Option (ByteArray×Unit)) (u:Nat) (h18:u<10 ^ 18)
  (hR:¬ u<10→R std (((u / 10:Nat):Int),())=some (mkB (Lib.decDigits (u / 10)),())∧R std (((u % 10:Nat):Int),())=some (mkB (Lib.decDigits (u % 10)),())):
  v6s R std ((u:Int),())=some (mkB (Lib.decDigits u),()):=by
 have n0:¬ (u:Int)<0:=by omega
 by_cases h10:u<10
 ·have h10':(u:Int)<10:=by omega
  have hs:=v50 u h10
  simp only [z86] at hs
  simp only [v6s,z2d,z2e,z4b,Int.reduceLT,Int.reduceEq,Int.reduceLE,n0,h10',hs,if_true,if_false,eAi]
  simp only [v6w] at hs
  rw [hs]
 ·have h10':¬ (u:Int)<10:=by omega
  obtain ⟨i1,i2⟩:=hR h10
  have l1:=v33 (u:=u / 10) (by omega)
  have l2:=v33 (u:=u % 10) (by omega)
  have q1:std.ar .quo .i64 (u:Int) 10=((u / 10:Nat):Int):=by
   rw [v4v,Int.tdiv_eq_ediv_of_nonneg (by omega),w21 _ (by omega) (by omega)]; omega
  have q2:std.ar .rem .i64 (u:Int) 10=((u % 10:Nat):Int):=by
   rw [v4u,Int.tmod_eq_emod_of_nonneg (by omega)]; omega
  have hd:Lib.decDigits u=Lib.decDigits (u / 10)++Lib.decDigits (u % 10):=by
   rw [v3h h10,Lib.decDigits_one (show u % 10<10 by omega)]
  have hne:¬ (10:Int)=0:=by omega
  have hz:(Lib.decDigits (u / 10)).length+(Lib.decDigits (u % 10)).length≤1000000:=by omega
  rw [hd]
  simp only [v6s,z2d,z2e,z4b,Int.reduceLT,Int.reduceEq,Int.reduceLE,n0,h10',hne,q1,q2,i1,i2,z46,z20,hz,if_true,if_false,eAi]
theorem v6g (f:Nat):∀ u:Nat,u<10 ^ (f+1)→u<10 ^ 18→v45 (f+1) std ((u:Int),())=some (mkB (Lib.decDigits u),()):=by
 induction f with
 |zero=>
  intro u h h18
  show v6s (v45 0) std ((u:Int),())=_
  exact v36 _ u h18 fun hn=>absurd (by simpa using h) hn
 |succ f ih=>
  intro u h h18
  show v6s (v45 (f+1)) std ((u:Int),())=_
  exact v36 _ u h18 fun hn=>⟨ih (u / 10) (by rw [Nat.pow_succ] at h; omega) (by omega),ih (u % 10) (by have:10 ^ 1≤10 ^ (f+1):=Nat.pow_le_pow_right (by omega) (by omega); omega) (by omega)⟩
theorem v4n {n:Int} (h0:0≤n) (h1:n<10 ^ 18):v8b std (n,())=some (mkB (Lib.itoa n),()):=by
 obtain ⟨u,rfl⟩:=Int.eq_ofNat_of_zero_le h0
 rw [v26]
 have hu:u<10 ^ 18:=by omega
 exact v6g 99 u (eAn hu (Nat.pow_le_pow_right (by omega) (by omega))) hu
def v4t (c:Cd):Prop:=(0≤c.n∧c.n≤MX)∧(∀ x∈c.t,0≤x∧x≤MX)∧(0≤c.a∧c.a≤MX)
theorem v29 {c:Cd} (h:z3d c=0):v4t c∧CdL c:=by
 obtain ⟨h1,h2,h3,h4,h5,h6⟩:=v4j.1 h
 unfold z6x at h1 h4
 have ha:0≤c.a∧c.a≤1000000:=by unfold w1p at h6; omega
 unfold v4t CdL Rng MX
 exact ⟨⟨⟨by omega,by omega⟩,fun x hx=>by have:=h4 x hx; omega,by omega⟩,h2,h3,⟨by omega,by omega⟩,fun x hx=>by have:=h4 x hx; omega,by omega,by omega⟩
theorem z70 {n:Int} (h: -MX≤n∧n≤MX):(Lib.itoa n).length≤21:=by
 unfold MX at h
 exact Go.Lib.itoa_length_le n (by omega) (by omega)
theorem v5e (k:Int):(kwL k).length≤7:=by
 unfold kwL; repeat' split
 all_goals simp
def lnP (c:Cd) (i:Nat):Bs:=kwL c.k++[32]++Lib.itoa c.n++((c.t.take i).map fun x=>(32:UInt8)::Lib.itoa x).flatten
theorem v51 {c:Cd} {i:Nat} {x:Int} (h:c.t[i]?=some x):lnP c (i+1)=lnP c i++([32]++Lib.itoa x):=by
 unfold lnP
 rw [List.take_add_one,h]
 simp
theorem v4c (c:Cd):lnC c=lnP c c.t.length++[32]++Lib.itoa c.a:=by
 unfold lnC wdC lnP
 rw [eDf]
 simp [jn,List.map_map,Function.comp_def]
theorem v3r {c:Cd} (hs:v4t c) (i:Nat):(lnP c i).length≤40+22*i:=by
 have hn:=z70 (n:=c.n) (by have:=hs.1; unfold MX at*; omega)
 have hk:=v5e c.k
 have:∀ l:List Int,(∀ x∈l,0≤x∧x≤MX)→((l.map fun x=>(32:UInt8)::Lib.itoa x).flatten).length≤22*l.length:=by
  intro l
  induction l with
  |nil=>intro _; simp
  |cons x l ih=>
   intro h
   have h1:=ih fun y hy=>h y (eCm _ hy)
   have h2:=z70 (n:=x) (by have:=h x eBq; unfold MX at*; omega)
   simp only [eDe,eDi,eBu,eBi]
   omega
 have h3:=this (c.t.take i) fun x hx=>hs.2.1 x (List.mem_of_mem_take hx)
 have h4:(c.t.take i).length≤i:=by rw [eBv]; omega
 unfold lnP
 simp only [eBu,eDb]
 omega
theorem v6b (c:Cd) (hs:v4t c) (ht:c.t.length≤3):z5r (v5p std) (c.n,(c.k,(z1a c.t,(c.a,(mkB (lnP c 0),((0:Int),()))))))=some (c.n,(c.k,(z1a c.t,(c.a,(mkB (lnP c c.t.length),()))))):=by
 have key:=y6h (b:=v5p std) c.t.length (fun (_:Unit) i=>(c.n,(c.k,(z1a c.t,(c.a,(mkB (lnP c i),((i:Int),()))))))) (fun _ _=>True) (fun r=>r=(c.n,(c.k,(z1a c.t,(c.a,(mkB (lnP c c.t.length),()))))))
  (fun _ i hi _=> .inl ⟨(),by
   obtain ⟨x,hx⟩:=z1v hi
   obtain ⟨hw,h0⟩:=stp i (by omega)
   have hlt:(i:Int)<c.t.length:=by omega
   have hry:=rowI hx
   have hx0:=hs.2.1 x (eAu hx)
   have hF:=v4n hx0.1 (by have:=hx0.2; unfold MX at this; omega)
   have hl:=v3r hs i
   have hxl:=z70 (n:=x) (by unfold MX at*; omega)
   have e1:1+(Lib.itoa x).length≤1000000:=by omega
   have e2:(lnP c i).length+([32]++Lib.itoa x).length≤1000000:=by simp; omega
   rw [v51 hx]
   simp only [v5p,z2d,z2e,z0p,z1a,z5s,y4y,z1a,y8q,w5s,z4b,Int.reduceLT,Int.reduceEq,Int.reduceLE,hlt,h0,hw,hry,hF,v89,z46,z20,eDb,e1,e2],trivial⟩)
  (fun _ _=>⟨_,by
   have hno:¬ (c.t.length:Int)<c.t.length:=by omega
   simp only [v5p,z2d,z2e,z00,hno,if_false,z4b,Int.reduceLT,Int.reduceEq,Int.reduceLE],rfl⟩) () 0 (eAv _) trivial
 obtain ⟨r,h1,rfl⟩:=key
 exact h1
theorem v73 (c:Cd) (h:z3d c=0):G86 std (c.n,(c.k,(z1a c.t,(c.a,()))))=some (mkB (lnC c++[10]),()):=by
 obtain ⟨hs,hk,ht,_⟩:=v29 h
 have ht3:c.t.length≤3:=by
  rw [ht]; unfold z3a; repeat' split
  all_goals omega
 have h122:=v5w c.k hk
 rw [v3w hk] at h122
 have hn:=v4n hs.1.1 (by have:=hs.1.2; unfold MX at this; omega)
 have ha:=v4n hs.2.2.1 (by have:=hs.2.2.2; unfold MX at this; omega)
 have h1:=v6b c hs ht3
 have hl0:=v3r hs 0
 have hl:=v3r hs c.t.length
 have e0:lnP c 0=kwL c.k++[32]++Lib.itoa c.n:=by simp [lnP]
 have hal:=z70 (n:=c.a) (by have:=hs.2.2; unfold MX at*; omega)
 have hnl:=z70 (n:=c.n) (by have:=hs.1; unfold MX at*; omega)
 have hkl:=v5e c.k
 rw [e0] at h1
 have e1:(kwL c.k).length+1≤1000000:=by omega
 have e2:(kwL c.k++[32]).length+(Lib.itoa c.n).length≤1000000:=by simp; omega
 have e3:(lnP c c.t.length).length+1≤1000000:=by omega
 have e4:(lnP c c.t.length++[32]).length+(Lib.itoa c.a).length≤1000000:=by simp; omega
 have e5:(lnP c c.t.length++[32]++Lib.itoa c.a).length+1≤1000000:=by simp; omega
 rw [v4c]
 unfold G86
 simp only [z2d,z2e,z4b,Int.reduceLT,Int.reduceEq,Int.reduceLE,h122,hn,ha,h1,v89,v62,z46,z20,eDb,e1,e2,e3,e4,e5]
theorem v41 {l:List Cd} {i:Nat} {c:Cd} (h:l[i]?=some c):z51 (l.take (i+1))=z51 (l.take i)++(lnC c++[10]):=by
 unfold z51
 rw [List.take_add_one,h]
 simp
theorem v4d {c:Cd} (h:z3d c=0):(lnC c).length≤200:=by
 obtain ⟨hs,hk,ht,_⟩:=v29 h
 have ht3:c.t.length≤3:=by
  rw [ht]; unfold z3a; repeat' split
  all_goals omega
 have hl:=v3r hs c.t.length
 have hal:=z70 (n:=c.a) (by have:=hs.2.2; unfold MX at*; omega)
 rw [v4c]
 simp only [eBu,eDb]
 omega
theorem v5k {l:List Cd} (h:∀ c∈l,z3d c=0):(z51 l).length≤201*l.length:=by
 induction l with
 |nil=>simp [z51]
 |cons c l ih=>
  have h1:=ih fun d hd=>h d (eCm _ hd)
  have h2:=v4d (h c eBq)
  unfold z51 at*
  simp only [eDe,eDi,eBu,eBi,List.length_nil]
  omega
theorem v6e (l:List Cd) (hl:l.length≤60) (hc:∀ c∈l,z3d c=0):z5r (v5r std) (z0p fl l,(mkB [],((0:Int),())))=some (mkB (z51 l),()):=by
 have key:=y6h (b:=v5r std) l.length (fun (_:Unit) i=>(z0p fl l,(mkB (z51 (l.take i)),((i:Int),())))) (fun _ _=>True) (fun r=>r=(mkB (z51 l),()))
  (fun _ i hi _=> .inl ⟨(),by
   obtain ⟨c,hx⟩:=z1v hi
   obtain ⟨hw,h0⟩:=stp i (by omega)
   have hlt:(i:Int)<l.length:=by omega
   have hrow:=rowC (fl:=fl) hx
   have hcm:=hc c (eAu hx)
   have h86:=v73 c hcm
   have hfl:=v5k (l:=l.take i) fun d hd=>hc d (List.mem_of_mem_take hd)
   have htl:(l.take i).length≤60:=by rw [eBv]; omega
   have hcl:=v4d hcm
   have e1:(z51 (l.take i)).length+(lnC c++[10]).length≤1000000:=by simp; omega
   rw [v41 hx]
   simp only [z1a] at h86
   simp only [v5r,z2d,z2e,z0p,z1a,z5s,y4y,z0p,z1a,z4b,Int.reduceLT,Int.reduceEq,Int.reduceLE,hlt,h0,hw,hrow,h86,z46,z20,e1],trivial⟩)
  (fun _ _=>⟨_,by
   have hno:¬ (l.length:Int)<l.length:=by omega
   simp only [v5r,z2d,z2e,z2i,hno,if_false,z4b,Int.reduceLT,Int.reduceEq,Int.reduceLE,eDf],rfl⟩) () 0 (eAv _) trivial
 obtain ⟨r,h1,rfl⟩:=key
 have e:z51 (l.take 0)=[]:=by simp [z51]
 rw [e] at h1
 exact h1
theorem v77 (l:List Cd) (hf:Few l):G38 std (z0p fl l,())=some (if z4y l=0 then mkB (z51 l) else mkB [],(z4y l,())):=by
 have h20:=w8x (fl:=fl) l hf
 unfold G38
 by_cases h:z4y l=0
 ·obtain ⟨h1,h2,_⟩:=v23.1 h
  have k1:=v6e (fl:=fl) l h1 h2
  simp only [z2d,z2e,z4b,Int.reduceLT,Int.reduceEq,Int.reduceLE,h20,h,k1,mk0,ne_eq,not_true,if_false,if_true]
 ·simp only [z2d,z2e,z4b,Int.reduceLT,Int.reduceEq,Int.reduceLE,h20,h,mk0,ne_eq,not_false_eq_true,if_true,if_false]
end Go.Am
end
section
namespace Go.Am
open D12
variable {fl fl':List Int→Bool}
def eSt (s:ByteArray):List D:=[.str s]
def z32 (W:List Bs):List (List D):=W.map fun w=>eSt (mkB w)
theorem z22 (s:ByteArray):z3k [CK.str] (eSt s)=true:=rfl
theorem z44 (s:ByteArray):dS ((eSt s)[0]?.getD D.nilp)=s:=rfl
theorem v8e {W:List Bs} {i:Nat} {w:Bs} (h:W[i]?=some w):(z32 W)[i]?=some (eSt (mkB w)):=by
 unfold z32; rw [eAg,h]; rfl
theorem z36 (W:List Bs):(z32 W).length=W.length:=by simp [z32]
theorem z23 (es:List (List D)) (i j:Nat):std.rdS es i j=dS (rdD es i j):=rfl
theorem v48 (w:Bs) (hl:w.length≤1000000):v12 std (mkB w,(ByteArray.mk #[32],()))=some (z32 (sps w),()):=by
 have h1:(z9k (mkB w) (ByteArray.mk #[32])).map (·.data.toList)=sps w:=by
  unfold z9k
  rw [Lib.splitB_data,z26]
  show Lib.splitK [32] 0 (Lib.count (mkB w).data.toList [32]) w=_
  rw [z26]
  exact v47 _ w (eAk _)
 have h2:z27 (z9k (mkB w) (ByteArray.mk #[32]))=z32 (sps w):=by
  rw [←h1]
  unfold z27 z32
  rw [List.map_map]
  refine List.map_congr_left fun s _=>?_
  show [D.str s]=[D.str (mkB s.data.toList)]
  rw [v4p]
 unfold v12
 have hs:(mkB w).size≤1000000:=by rw [z59]; exact hl
 have hb:(Nat.ble (mkB w).size 1000000&&Nat.ble 1 (ByteArray.mk #[32]).size)=true:=by
  rw [eBg hs]; rfl
 simp only [hb,cond_true,h2]
theorem v5y (w:Bs) (hl:w.length≤999999):v11 std (mkB (w++[10]),(ByteArray.mk #[10],()))=some (mkB w,()):=by
 unfold v11 w6l
 have hs:(mkB (w++[10])).size≤1000000:=by rw [z59]; simp; omega
 rw [eBg hs,cond_true,z26]
 have:(ByteArray.mk #[10]).data.toList=[(10:UInt8)]:=rfl
 rw [this,v7h]
 rfl
theorem v3f {c:Cd} (hk:z3a c.k≠0):z7z c=mkB (lnC c++[10]):=by
 have e1:(y37 c).map (·.data.toList)=wdC c:=by
  unfold y37 wdC
  simp only [eDe,List.map_append,List.map_map,List.map_nil,v3w hk,z26,v3y,eDd]
  simp [v3y,z26,Function.comp_def]
 unfold z7z nl z4k
 rw [e1]
 have:sp.data.toList=[(32:UInt8)]:=rfl
 rw [this,v67,v62]
 exact v4b _ _
def v35 (W:List Bs) (k:Int):Prop:=kwL k=W.headD []∧W.length=z3a k+3
def v85 (W:List Bs) (K:Int):Prop:=(K=0∧∀ k,z3a k≠0→¬ v35 W k)∨(z3a K≠0∧v35 W K)
theorem v5f (k:Int):z7k k=mkB (kwL k):=by
 unfold z7k kwL
 by_cases h1:k=1
 ·rw [if_pos h1,if_pos h1]; rfl
 by_cases h2:k=2
 ·rw [if_neg h1,if_neg h1,if_pos h2,if_pos h2]; rfl
 by_cases h3:k=3
 ·rw [if_neg h1,if_neg h1,if_neg h2,if_neg h2,if_pos h3,if_pos h3]; rfl
 by_cases h4:k=4
 ·rw [if_neg h1,if_neg h1,if_neg h2,if_neg h2,if_neg h3,if_neg h3,if_pos h4,if_pos h4]; rfl
 by_cases h5:k=5
 ·rw [if_neg h1,if_neg h1,if_neg h2,if_neg h2,if_neg h3,if_neg h3,if_neg h4,if_neg h4,if_pos h5,if_pos h5]; rfl
 by_cases h6:k=6
 ·rw [if_neg h1,if_neg h1,if_neg h2,if_neg h2,if_neg h3,if_neg h3,if_neg h4,if_neg h4,if_neg h5,if_neg h5,if_pos h6,if_pos h6]; rfl
 ·rw [if_neg h1,if_neg h1,if_neg h2,if_neg h2,if_neg h3,if_neg h3,if_neg h4,if_neg h4,if_neg h5,if_neg h5,if_neg h6,if_neg h6]; rfl
theorem v3e {i:Nat} (h:i<6):z3a ((i+1:Nat):Int)≠0:=by
 have:i=0∨i=1∨i=2∨i=3∨i=4∨i=5:=by omega
 rcases this with rfl|rfl|rfl|rfl|rfl|rfl<;>decide
theorem v3a (k:Int):z3a k≤3:=by
 unfold z3a; repeat' split
 all_goals omega
theorem v6j {k:Int} (h:z3a k≠0):∃ j:Nat,j<6∧k=((j+1:Nat):Int):=by
 rcases z64 h with rfl|rfl|rfl|rfl|rfl|rfl
 ·exact ⟨0,by omega,rfl⟩
 ·exact ⟨1,by omega,rfl⟩
 ·exact ⟨2,by omega,rfl⟩
 ·exact ⟨3,by omega,rfl⟩
 ·exact ⟨4,by omega,rfl⟩
 ·exact ⟨5,by omega,rfl⟩
def v4m (m:Int→Prop) (K:Int) (i:Nat):Prop:=(K=0∧∀ j:Nat,j<i→¬ m ((j+1:Nat):Int))∨(∃ j:Nat,j<i∧K=((j+1:Nat):Int)∧m K)
theorem v3x {m:Int→Prop} {i:Nat} (h:m ((i+1:Nat):Int)):v4m m ((i+1:Nat):Int) (i+1):= .inr ⟨i,by omega,rfl,h⟩
theorem v25 {m:Int→Prop} {K:Int} {i:Nat} (hI:v4m m K i) (h:¬ m ((i+1:Nat):Int)):v4m m K (i+1):=by
 rcases hI with ⟨rfl,hn⟩|⟨j,hj,h1,h2⟩
 ·refine .inl ⟨rfl,fun j hj=>?_⟩
  by_cases e:j=i
  ·subst e; exact h
  ·exact hn j (by omega)
 ·exact .inr ⟨j,by omega,h1,h2⟩
theorem v6a (W:List Bs) (hW:W≠[]) (hl:W.length≤1000000) (s:ByteArray):
  ∃ K:Int,z5r (v4k std) ((0:Int),((0:Int),((0:Int),((0:Int),((0:Int),((0:Int),(s,(z32 W,((1:Int),())))))))))=some ((0:Int),((0:Int),((0:Int),((0:Int),(K,((0:Int),(s,(z32 W,()))))))))∧v85 W K:=by
 obtain ⟨w0,W',rfl⟩:=List.exists_cons_of_ne_nil hW
 have hr0:(z32 (w0::W'))[0]?=some (eSt (mkB w0)):=rfl
 have key:=y6h (b:=v4k std) 6 (fun (K:Int) i=>((0:Int),((0:Int),((0:Int),((0:Int),(K,((0:Int),(s,(z32 (w0::W'),(((i+1:Nat):Int),()))))))))))
  (fun K i=>v4m (v35 (w0::W')) K i) (fun r=>∃ K:Int,r=((0:Int),((0:Int),((0:Int),((0:Int),(K,((0:Int),(s,(z32 (w0::W'),()))))))))∧v4m (v35 (w0::W')) K 6)
  (fun K i hi hI=> .inl (by
   have hw:IntKind.i64.wrap (((i+1:Nat):Int)+1)=((i+1+1:Nat):Int):=w0a (by omega)
   have hle:((i+1:Nat):Int)≤6:=by omega
   have h55:=w3p ((i+1:Nat):Int)
   have hk:=v5f ((i+1:Nat):Int)
   rw [hk] at h55
   have hen:(z32 (w0::W')).length=(w0::W').length:=z36 _
   have hmt:=v3a ((i+1:Nat):Int)
   have hw3:IntKind.i64.wrap ((z3a ((i+1:Nat):Int):Int)+3)=((z3a ((i+1:Nat):Int)+3:Nat):Int):=by rw [w21 _ (by omega) (by omega)]; omega
   by_cases h1:kwL ((i+1:Nat):Int)=w0
   ·by_cases h2:(w0::W').length=z3a ((i+1:Nat):Int)+3
    ·refine ⟨((i+1:Nat):Int),?_,v3x ⟨h1,h2⟩⟩
     have h2':((w0::W').length:Int)=((z3a ((i+1:Nat):Int)+3:Nat):Int):=by omega
     generalize z32 (w0::W')=E at*
     generalize (w0::W').length=n at*
     simp only [v4k,z2d,z2e,z4b,Int.reduceLT,Int.reduceEq,Int.reduceLE,hle,hw,h55,hr0,z22,z44,z23,z21,h1,hen,hw3,h2',Int.reduceToNat,if_true]
    ·refine ⟨K,?_,v25 hI fun h=>h2 h.2⟩
     have h2':¬ ((w0::W').length:Int)=((z3a ((i+1:Nat):Int)+3:Nat):Int):=by omega
     generalize z32 (w0::W')=E at*
     generalize (w0::W').length=n at*
     simp only [v4k,z2d,z2e,z4b,Int.reduceLT,Int.reduceEq,Int.reduceLE,hle,hw,h55,hr0,z22,z44,z23,z21,h1,hen,hw3,h2',Int.reduceToNat,if_true,if_false,eAi]
   ·refine ⟨K,?_,v25 hI fun h=>h1 h.1⟩
    generalize z32 (w0::W')=E at*
    simp only [v4k,z2d,z2e,z4b,Int.reduceLT,Int.reduceEq,Int.reduceLE,hle,hw,h55,hr0,z22,z44,z23,z21,h1,Int.reduceToNat,if_true,if_false,eAi]))
  (fun K hI=>⟨_,by
   have hno:¬ ((6+1:Nat):Int)≤6:=by omega
   simp only [v4k,z2d,z2e,hno,if_false,z4b,Int.reduceLT,Int.reduceEq,Int.reduceLE],K,rfl,hI⟩) 0 0 (eAv _) (.inl ⟨rfl,fun j hj=>by omega⟩)
 obtain ⟨r,h1,K,rfl,h2⟩:=key
 refine ⟨K,h1,?_⟩
 rcases h2 with ⟨rfl,h⟩|⟨j,hj,rfl,hm⟩
 ·refine .inl ⟨rfl,fun k hk hm=>?_⟩
  obtain ⟨j,hj,rfl⟩:=v6j hk
  exact h j hj hm
 ·exact .inr ⟨v3e hj,hm⟩
def v7g (w:Bs) (v:Int):Prop:=Lib.parseIntB 64 w= .ok v∧Rng v
theorem v59 (X:List Bs) (hl:X.length≤100000) (hx:∀ x∈X,x.length≤1000000) (K:Int) (s:ByteArray):
  ∃ r,z5r (v34 std) ([],((0:Int),((0:Int),((0:Int),((0:Int),(K,((0:Int),(s,(z32 X,((X.length:Int),((0:Int),())))))))))))=some r∧
   ((r= .inl ((0:Int),(K,((0:Int),(false,()))))∧∃ x∈X,∀ v,¬ v7g x v)∨∃ ns:List Int,r= .inr (z1a ns,((0:Int),((0:Int),((0:Int),((0:Int),(K,((0:Int),(s,()))))))))∧ns.length=X.length∧∀ (i:Nat) (x:Bs) (v:Int),X[i]?=some x→ns[i]?=some v→v7g x v):=by
 have key:=y6h (b:=v34 std) X.length (fun (ns:List Int) i=>(z1a ns,((0:Int),((0:Int),((0:Int),((0:Int),(K,((0:Int),(s,(z32 X,((X.length:Int),((i:Int),()))))))))))))
  (fun ns i=>ns.length=i∧∀ (j:Nat) (x:Bs) (v:Int),X[j]?=some x→ns[j]?=some v→v7g x v)
  (fun r=>(r= .inl ((0:Int),(K,((0:Int),(false,()))))∧∃ x∈X,∀ v,¬ v7g x v)∨∃ ns:List Int,r= .inr (z1a ns,((0:Int),((0:Int),((0:Int),((0:Int),(K,((0:Int),(s,()))))))))∧ns.length=X.length∧∀ (i:Nat) (x:Bs) (v:Int),X[i]?=some x→ns[i]?=some v→v7g x v)
  (fun ns i hi hI=>by
   obtain ⟨hnl,hI⟩:=hI
   obtain ⟨x,hxi⟩:=z1v hi
   obtain ⟨hw,h0⟩:=stp i (by omega)
   have hlt:(i:Int)<X.length:=by omega
   have hrow:=v8e hxi
   have hxm:=eAu hxi
   have hsz:Nat.ble (mkB x).size 1000000=true:=eBg (by rw [z59]; exact hx x hxm)
   have h127:v10 std (mkB x,(10,(64,())))=match Lib.parseIntB 64 x with| .ok v=>some (.inl (v,()))| .range=>some (.inr (Lib.intSat 64 x,()))|_=>some (.inr (0,())):=by
    unfold v10
    simp only [hsz,z26]
    rfl
   cases hp:Lib.parseIntB 64 x with
   |ok v=>
    simp only [hp] at h127
    have h56:=x9z (-1099511627776) 1099511627776 [v] (by simp)
    have e56:z1a [v]=[[D.int .i64 v]]:=rfl
    rw [e56] at h56
    by_cases hr:Rng v
    ·left
     have hq:(!([v].any fun n=>decide (n< -1099511627776∨n>1099511627776)))=true:=by unfold Rng MX at hr; simp; omega
     rw [hq] at h56
     refine ⟨ns++[v],?_,by simp [hnl],fun j y u hy hu=>?_⟩
     ·have e1:ns.length+1≤1000000:=by omega
      have e5:(ns.map eI).take ns.length=ns.map eI:=eDa (by simp)
      simp only [v34,z2d,z2e,z1a,z4b,Int.reduceLT,Int.reduceEq,Int.reduceLE,hlt,h0,hw,hrow,z22,z44,z23,h127,h56,e1,e5,eAk,eDc]
      simp [eI,e1,e5]
      simpa using hw
     ·by_cases e:j<ns.length
      ·rw [eBz e] at hu
       exact hI j y u hy hu
      ·rw [eCv (by omega)] at hu
       have:j - ns.length=0:=by
        rcases Nat.eq_zero_or_pos (j - ns.length) with h|h
        ·exact h
        ·rw [eCt (by simp; omega)] at hu; cases hu
       rw [this] at hu
       cases hu
       have:j=i:=by omega
       subst this
       rw [hxi] at hy; cases hy
       exact ⟨hp,hr⟩
    ·right
     have hq:(!([v].any fun n=>decide (n< -1099511627776∨n>1099511627776)))=false:=by unfold Rng MX at hr; simp; omega
     rw [hq] at h56
     refine ⟨_,by simp only [v34,z2d,z2e,z4b,Int.reduceLT,Int.reduceEq,Int.reduceLE,hlt,h0,hw,hrow,z22,z44,z23,h127,h56,if_true,if_false,eAi], .inl ⟨rfl,x,hxm,fun u hu=>?_⟩⟩
     have:=hu.1
     rw [hp] at this; cases this
     exact hr hu.2
   |range=>
    right
    simp only [hp] at h127
    refine ⟨_,by simp only [v34,z2d,z2e,z4b,Int.reduceLT,Int.reduceEq,Int.reduceLE,hlt,h0,hw,hrow,z22,z44,z23,h127,if_true,if_false,eAi], .inl ⟨rfl,x,hxm,fun u hu=>?_⟩⟩
    have:=hu.1
    rw [hp] at this; cases this
   | «syntax» =>
    right
    simp only [hp] at h127
    refine ⟨_,by simp only [v34,z2d,z2e,z4b,Int.reduceLT,Int.reduceEq,Int.reduceLE,hlt,h0,hw,hrow,z22,z44,z23,h127,if_true,if_false,eAi], .inl ⟨rfl,x,hxm,fun u hu=>?_⟩⟩
    have:=hu.1
    rw [hp] at this; cases this)
  (fun ns hI=>by
   have hno:¬ (X.length:Int)<X.length:=by omega
   exact ⟨_,by simp only [v34,z2d,z2e,hno,if_false,z4b,Int.reduceLT,Int.reduceEq,Int.reduceLE], .inr ⟨ns,rfl,hI.1,hI.2⟩⟩) [] 0 (eAv _) ⟨rfl,fun j x v _ h=>by simp at h⟩
 obtain ⟨r,h1,h2⟩:=key
 exact ⟨r,h1,h2⟩
theorem v39 (w:Bs):(sps w).length≤w.length+1∧∀ x∈sps w,x.length≤w.length:=by
 induction w with
 |nil=>simp [sps]
 |cons b l ih=>
  cases h:sps l with
  |nil=>exact absurd h (v3d l)
  |cons v vs=>
   rw [h] at ih
   simp only [sps,h]
   split
   ·refine ⟨by have:=ih.1; simp only [eBi] at*; omega,fun x hx=>?_⟩
    rcases eAz.1 hx with rfl|hx
    ·simp
    ·have:=ih.2 x hx; simp only [eBi]; omega
   ·refine ⟨by have:=ih.1; simp only [eBi] at*; omega,fun x hx=>?_⟩
    rcases eAz.1 hx with rfl|hx
    ·have:=ih.2 v eBq; simp only [eBi]; omega
    ·have:=ih.2 x (eCm _ hx); simp only [eBi]; omega
theorem v9a {ns:List Int} {m:Nat} (h:ns.length=m+2):∃ n t a,ns=n::(t++[a])∧t.length=m:=by
 cases ns with
 |nil=>simp at h
 |cons n r=>
  have hne:r≠[]:=by intro e; rw [e] at h; simp at h
  exact ⟨n,r.dropLast,r.getLast hne,by rw [List.dropLast_concat_getLast hne],by simp at h⊢; omega⟩
theorem v61 {c:Cd} (hc:CdL c) {w0:Bs} {X:List Bs} (h:wdC c=w0::X) {ns:List Int} (hl:ns.length=X.length) (hn:∀ (i:Nat) (x:Bs) (v:Int),X[i]?=some x→ns[i]?=some v→v7g x v):ns=c.n::(c.t++[c.a]):=by
 have hX:X=(c.n::(c.t++[c.a])).map Lib.itoa:=by
  unfold wdC at h
  simp only [List.cons.injEq] at h
  rw [←h.2]; simp
 have hr:∀ v∈c.n::(c.t++[c.a]),Rng v:=by
  intro v hv
  rcases eAz.1 hv with rfl|hv
  ·exact hc.2.2.1
  ·rcases eBj.1 hv with hv|hv
   ·exact hc.2.2.2.1 v hv
   ·simp only [eBe] at hv; subst hv; exact hc.2.2.2.2
 generalize c.n::(c.t++[c.a])=L at*
 subst hX
 rw [eBt] at hl
 refine List.ext_getElem hl fun i h1 h2=>?_
 have h3:=hn i (Lib.itoa L[i]) ns[i] (by rw [eAg,eAa h2]; rfl) (eAa h1)
 have h4:=v3l (hr L[i] (eCp h2))
 have h5:=h3.1
 rw [h4] at h5
 injection h5 with h5
 exact h5.symm
theorem v6r (w:Bs) (hl:w.length≤99990):∃ (n k:Int) (t:List Int) (a:Int) (ok:Bool),G88 std (mkB (w++[10]),())=some (n,(k,(z1a t,(a,(ok,())))))∧(ok=true→cdL w=some ⟨n,k,t,a⟩)∧(ok=false→cdL w=none):=by
 have h126:=v5y w (by omega)
 have h125:=v48 w (by omega)
 obtain ⟨hsl,hsx⟩:=v39 w
 have hne:=v3d w
 have hcd:∀ c,CdL c→lnC c=w→sps w=wdC c:=fun c h1 h2=>by rw [←h2,v3s h1.1]
 generalize hW:sps w=W at*
 obtain ⟨K,k1,hK⟩:=v6a W hne (by omega) (mkB (w++[10]))
 have hmatch:∀ c,CdL c→lnC c=w→v35 W c.k:=fun c h1 h2=>by
  have:=hcd c h1 h2
  rw [this]
  exact ⟨rfl,by simp [wdC,h1.2.1]⟩
 rcases hK with ⟨rfl,hno⟩|⟨hkm,hm1,hm2⟩
 ·refine ⟨0,0,[],0,false,?_,(by simp),fun _=>v20.2 fun c h1 h2=>hno c.k h1.1 (hmatch c h1 h2)⟩
  unfold G88
  simp only [z2d,z2e,z4b,Int.reduceLT,Int.reduceEq,Int.reduceLE,h126,h125,k1,if_true]
  rfl
 ·have hK0:¬ K=0:=by rintro rfl; exact hkm (by decide)
  obtain ⟨w0,X,rfl⟩:=List.exists_cons_of_ne_nil hne
  have hXl:X.length=z3a K+2:=by simp only [eBi] at hm2; omega
  have hmt:=v3a K
  obtain ⟨r,k2,hr⟩:=v59 X (by omega) (fun x hx=>by have:=hsx x (eCm _ hx); omega) K (mkB (w++[10]))
  have hen:(z32 (w0::X)).length=X.length+1:=by rw [z36]; rfl
  have hd1:(z32 (w0::X)).drop 1=z32 X:=rfl
  have htk:(z32 X).take X.length=z32 X:=eDa (by rw [z36]; exact eAk _)
  have hkk:∀ c,CdL c→lnC c=w→c.k=K:=fun c h1 h2=>by
   have:=hmatch c h1 h2
   exact v4e h1.1 hkm (by rw [this.1,hm1])
  have q1:(1:Int)≤((X.length+1:Nat):Int):=by omega
  have q2:(0:Int)≤1:=by omega
  have hexl:(z32 X).length=X.length:=z36 X
  rcases hr with ⟨rfl,x,hx,hbad⟩|⟨ns,rfl,hnl,hns⟩
  ·refine ⟨0,K,[],0,false,?_,(by simp),fun _=>v20.2 fun c h1 h2=>?_⟩
   ·unfold G88
    simp only [z2d,z2e,z4b,Int.reduceLT,Int.reduceEq,Int.reduceLE,h126,h125,k1,hK0,hen,q1,q2,Int.le_refl,Int.reduceToNat,hd1,Nat.add_sub_cancel,htk,hexl,k2,if_true,if_false]
    rfl
   ·have hwd:=hcd c h1 h2
    have:x∈(c.n::(c.t++[c.a])).map Lib.itoa:=by
     unfold wdC at hwd
     simp only [List.cons.injEq] at hwd
     rw [hwd.2] at hx; simpa using hx
    obtain ⟨v,hv,rfl⟩:=eBb.1 this
    have hrv:Rng v:=by
     rcases eAz.1 hv with rfl|hv
     ·exact h1.2.2.1
     ·rcases eBj.1 hv with hv|hv
      ·exact h1.2.2.2.1 v hv
      ·simp only [eBe] at hv; subst hv; exact h1.2.2.2.2
    exact hbad v ⟨v3l hrv,hrv⟩
  ·obtain ⟨n,t,a,rfl,htl⟩:=v9a (hnl.trans hXl)
   have hrng:∀ v∈n::(t++[a]),Rng v:=by
    intro v hv
    obtain ⟨i,hi,he⟩:=eDh.1 hv
    obtain ⟨x,hx⟩:=z1v (show i<X.length by omega)
    exact (hns i x v hx (by rw [eAa hi,he])).2
   have hc:CdL ⟨n,K,t,a⟩:=⟨hkm,htl,hrng n (by simp),fun x hx=>hrng x (by simp [hx]),hrng a (by simp)⟩
   have hr64:∀ v,Rng v→y5g v=true:=fun v hv=>by
    unfold Rng MX at hv
    unfold y5g
    rw [eAb]
    exact ⟨decide_eq_true (by omega),decide_eq_true (by omega)⟩
   have hls:=v3f (c:=⟨n,K,t,a⟩) hkm
   have hln:(lnC ⟨n,K,t,a⟩).length≤1000:=by
    have e:=v4c ⟨n,K,t,a⟩
    rw [e]
    have h1:=z70 (n:=n) hc.2.2.1
    have h2:=z70 (n:=a) hc.2.2.2.2
    have h3:=v5e K
    have h4:∀ l:List Int,(∀ x∈l,Rng x)→((l.map fun x=>(32:UInt8)::Lib.itoa x).flatten).length≤22*l.length:=by
     intro l
     induction l with
     |nil=>intro _; simp
     |cons x l ih=>
      intro h
      have h1:=ih fun y hy=>h y (eCm _ hy)
      have h2:=z70 (n:=x) (h x eBq)
      simp only [eDe,eDi,eBu,eBi]
      omega
    have h5:=h4 t hc.2.2.2.1
    unfold lnP
    simp only [eBu,eDb,eDf]
    omega
   have h84:=w8w ⟨n,K,t,a⟩ ⟨hr64 n hc.2.2.1,fun x hx=>hr64 x (hc.2.2.2.1 x hx),hr64 a hc.2.2.2.2⟩ (by show t.length≤1000; omega) (by rw [hls,z59]; simp; omega)
   rw [hls] at h84
   refine ⟨n,K,t,a,decide (lnC ⟨n,K,t,a⟩++[10]=w++[10]),?_,fun h=>?_,fun h=>v20.2 fun c h1 h2=>?_⟩
   ·have hEl:(z1a (n::(t++[a]))).length=z3a K+2:=by rw [z00]; simp [htl]
    have hE0:(z1a (n::(t++[a])))[0]?=some (eI n):=rfl
    have hEa:(z1a (n::(t++[a])))[z3a K+1]?=some (eI a):=by
     rw [←htl]; simp [z1a]
    have hEt:((z1a (n::(t++[a]))).drop 1).take (z3a K)=z1a t:=by
     rw [←htl]; simp [z1a]
    have hEk:(z1a (n::(t++[a]))).take (z3a K+2)=z1a (n::(t++[a])):=eDa (by omega)
    have hws:IntKind.i64.wrap (((z3a K+2:Nat):Int) - 1)=((z3a K+1:Nat):Int):=by rw [w21 _ (by omega) (by omega)]; omega
    have q3:(1:Int)≤((z3a K+1:Nat):Int):=by omega
    have q4:((z3a K+1:Nat):Int)≤((z3a K+2:Nat):Int):=by omega
    have q5:(0:Int)≤((z3a K+1:Nat):Int):=by omega
    generalize z1a (n::(t++[a]))=E at*
    unfold G88
    simp only [z2d,z2e,z4b,Int.reduceLT,Int.reduceEq,Int.reduceLE,h126,h125,k1,hK0,hen,q1,q2,Int.le_refl,Int.reduceToNat,hd1,Nat.add_sub_cancel,htk,hexl,k2,if_true,if_false,hEl,hEk,eDc,hE0,hEa,hEt,hws,q3,q4,q5,z84,eAk,y8q,w5s,h84,z21]
   ·have h:=of_decide_eq_true h
    exact z53.2 ⟨hc,List.append_cancel_right h⟩
   ·have hwd:=hcd c h1 h2
    have e2:=v61 h1 hwd.symm hnl hns
    have e1:=hkk c h1 h2
    have hce:c=⟨n,K,t,a⟩:=by
     simp only [List.cons.injEq] at e2
     have h4:=List.append_inj' e2.2 rfl
     cases c
     simp only at*
     subst e1
     rw [e2.1,h4.1]
     have:=(List.cons.inj h4.2).1
     rw [this]
    rw [←hce,h2] at h
    simp at h
theorem v6x {w r:Bs} (h:(10:UInt8)∉w):z28 (w++10::r)=match cdL w,z28 r with|some c,some l=>some (c::l)|_,_=>none:=by
 unfold z28
 rw [v3q h]
 cases hl:lns r with
 |mk ls q=>
  simp only [v37]
  by_cases hq:q=[]
  ·simp only [hq,if_true]<;>cases cdL w<;>cases v37 ls<;>rfl
  ·simp only [hq,if_false]<;>cases cdL w<;>rfl
theorem v7j {w:Bs} (h:(10:UInt8)∉w) (hne:w≠[]):z28 w=none:=by
 unfold z28
 rw [v4q h]
 simp [hne]
theorem v6k:z28 []=some []:=by simp [z28,lns,v37]
theorem v7a (s:Bs) (hl:s.length≤1000000):G87 std (mkB s,(ByteArray.mk #[10],()))=some (mkB (Lib.cut s [10]).1,(mkB (Lib.cut s [10]).2.1,((Lib.cut s [10]).2.2,()))):=by
 unfold G87 w6h
 have hs:(mkB s).size≤1000000:=by rw [z59]; exact hl
 rw [eBg hs,cond_true,z26]
 rfl
def ffl:List Int→Bool:=fun _=>false
theorem v6d (N:Nat):∀ (s:Bs) (out:List Cd),s.length≤N→s.length≤90000→out.length+s.length≤100000→∃ (L:List Cd) (ok:Bool),z5r (v28 std) (z0p ffl out,(mkB s,(true,())))=some (z0p ffl L,(ok,()))∧(ok=true→∃ l,z28 s=some l∧L=out++l)∧(ok=false→z28 s=none):=by
 induction N with
 |zero=>
  intro s out hN _ _
  have:s=[]:=eBn.1 (by omega)
  subst this
  refine ⟨out,true,?_,fun _=>⟨[],v6k,by simp⟩,by simp⟩
  rw [z7m]
  have:v28 std (z0p ffl out,(mkB [],(true,())))=some (.inr (z0p ffl out,(true,()))):=by
   simp only [v28,z2d,z2e,z4b,Int.reduceLT,Int.reduceEq,Int.reduceLE,mk0,z21,if_true,if_false,eAi]
  rw [this]
 |succ N ih=>
  intro s out hN hs hout
  rw [z7m]
  by_cases hne:s=[]
  ·subst hne
   refine ⟨out,true,?_,fun _=>⟨[],v6k,by simp⟩,by simp⟩
   have:v28 std (z0p ffl out,(mkB [],(true,())))=some (.inr (z0p ffl out,(true,()))):=by
    simp only [v28,z2d,z2e,z4b,Int.reduceLT,Int.reduceEq,Int.reduceLE,mk0,z21,if_true,if_false,eAi]
   rw [this]
  ·have h87:=v7a s (by omega)
   rcases v80 s with ⟨w,r,rfl,hw,hcut⟩|⟨hno,hcut⟩
   ·rw [hcut,v62] at h87
    simp only [eBu,eBi] at hN hs hout
    obtain ⟨n,k,t,a,ok,h88,hok,hbad⟩:=v6r w (by omega)
    have e1:w.length+1≤1000000:=by omega
    rw [v6x hw]
    cases ok with
    |false=>
     refine ⟨out,false,?_,(by simp),fun _=>by rw [hbad rfl]⟩
     have:v28 std (z0p ffl out,(mkB (w++10::r),(true,())))=some (.inr (z0p ffl out,(false,()))):=by
      simp only [v28,z2d,z2e,z4b,Int.reduceLT,Int.reduceEq,Int.reduceLE,mk0,v62,z21,hne,h87,z20,z46,e1,h88,if_true,if_false,eAi]
     rw [this]
    |true=>
     have hc:=hok rfl
     have hcd:=(z53.1 hc).1
     obtain ⟨L,ok2,k1,k2,k3⟩:=ih r (out++[⟨n,k,t,a⟩]) (by omega) (by omega) (by simp; omega)
     refine ⟨L,ok2,?_,fun h=>?_,fun h=>?_⟩
     ·have e2:out.length+1≤1000000:=by omega
      have e5:(out.map (eC ffl)).take out.length=out.map (eC ffl):=eDa (by simp)
      have:v28 std (z0p ffl out,(mkB (w++10::r),(true,())))=some (.inl (z0p ffl (out++[⟨n,k,t,a⟩]),(mkB r,(true,())))):=by
       simp only [v28,z2d,z2e,z4b,Int.reduceLT,Int.reduceEq,Int.reduceLE,z0p,z1a,mk0,v62,z21,hne,h87,z20,z46,e1,e2,e5,h88,if_true,if_false,eAi,eAk,eDc]
       simp [eC,z1a,ffl,e2,e5]
      rw [this]
      exact k1
     ·obtain ⟨l,h1,rfl⟩:=k2 h
      exact ⟨⟨n,k,t,a⟩::l,by rw [hc,h1],by simp⟩
     ·rw [k3 h,hc]
   ·rw [hcut,v62] at h87
    obtain ⟨n,k,t,a,ok,h88,hok,hbad⟩:=v6r s (by omega)
    have e1:s.length+1≤1000000:=by omega
    refine ⟨out,false,?_,(by simp),fun _=>v7j hno hne⟩
    have:v28 std (z0p ffl out,(mkB s,(true,())))=some (.inr (z0p ffl out,(false,()))):=by
     simp only [v28,z2d,z2e,z4b,Int.reduceLT,Int.reduceEq,Int.reduceLE,mk0,v62,z21,hne,h87,z20,z46,e1,h88,if_true,if_false,eAi]
    rw [this]
noncomputable def v7k (s:Bs):Int:=if 65536<s.length then 7 else match z28 s with|none=>8|some l=>z4y l
noncomputable def v4o (s:Bs):List Cd:=if v7k s=0 then (z28 s).getD [] else []
theorem v4h {l:List Cd} (h:∀ c∈l,CdL c):Few l:=fun c hc=>by
 have h1:=(h c hc).2.1
 have h2:=v3a c.k
 omega
theorem v76 (s:Bs) (hl:s.length≤1000000):G39 std (mkB s,())=some (z0p ffl (v4o s),(v7k s,())):=by
 unfold G39 v4o v7k
 by_cases h:65536<s.length
 ·have h':(65536:Int)<(s.length:Int):=by omega
  simp only [z2d,z2e,z4b,Int.reduceLT,Int.reduceEq,Int.reduceLE,z20,h,h',if_true]
  rfl
 ·have h':¬ (65536:Int)<(s.length:Int):=by omega
  obtain ⟨L,ok,k1,k2,k3⟩:=v6d s.length s [] (eAk _) (by omega) (by simp; omega)
  have e0:z0p ffl []=[]:=rfl
  rw [e0] at k1
  cases ok with
  |false=>
   have hn:=k3 rfl
   simp only [z2d,z2e,z4b,Int.reduceLT,Int.reduceEq,Int.reduceLE,z20,h,h',k1,hn,if_true,if_false,eAi]
   rfl
  |true=>
   obtain ⟨l,h1,hL⟩:=k2 rfl
   rw [List.nil_append] at hL
   subst hL
   have hfew:=v4h (v22.1 h1).2
   have h19:=w3q (fl:=ffl) L hfew
   have hle:(z0p ffl L).length=L.length:=z2i L
   have htk:(z0p ffl L).take L.length=z0p ffl L:=eDa (by rw [hle]; exact eAk _)
   by_cases hd:z4y L=0
   ·simp only [z2d,z2e,z4b,Int.reduceLT,Int.reduceEq,Int.reduceLE,z20,h,h',k1,h1,hle,htk,eDc,eAk,h19,hd,ne_eq,not_true,if_true,if_false,eBk]
   ·simp only [z2d,z2e,z4b,Int.reduceLT,Int.reduceEq,Int.reduceLE,z20,h,h',k1,h1,hle,htk,eDc,eAk,h19,hd,ne_eq,not_false_eq_true,if_true,if_false]
    rfl
end Go.Am
end
section
namespace Go.Am
open D12
variable {fl fl':List Int→Bool}
theorem v5z (p:Bs):(∃ X v,sps p=X++[v]∧∀ b,b≠32→sps (p++[b])=X++[v++[b]])∧sps (p++[32])=sps p++[[]]:=by
 induction p with
 |nil=>exact ⟨⟨[],[],rfl,fun b hb=>by simp [sps,hb]⟩,rfl⟩
 |cons c p ih=>
  obtain ⟨⟨X,v,h1,h2⟩,h3⟩:=ih
  constructor
  ·cases X with
   |nil=>
    by_cases hc:c=32
    ·exact ⟨[[]],v,by simp [sps,h1,hc],fun b hb=>by simp [sps,h2 b hb,hc]⟩
    ·exact ⟨[],c::v,by simp [sps,h1,hc],fun b hb=>by simp [sps,h2 b hb,hc]⟩
   |cons x X=>
    by_cases hc:c=32
    ·exact ⟨[]::x::X,v,by simp [sps,h1,hc],fun b hb=>by simp [sps,h2 b hb,hc]⟩
    ·exact ⟨(c::x)::X,v,by simp [sps,h1,hc],fun b hb=>by simp [sps,h2 b hb,hc]⟩
  ·cases hs:sps p with
   |nil=>exact absurd hs (v3d p)
   |cons x xs=>
    rw [hs] at h3
    by_cases hc:c=32
    ·simp [sps,h3,hs,hc]
    ·simp [sps,h3,hs,hc]
theorem z76 {w:Bs} {i:Nat} {b:UInt8} (h:w[i]?=some b):w.take (i+1)=w.take i++[b]:=by rw [List.take_add_one,h]; rfl
theorem v6o {w:Bs} {i:Nat} {b:UInt8} (h:w[i]?=some b):(w.drop i).take (i+1 - i)=[b]:=by
 have hi:=(eAd.1 h)
 rw [eDg hi.1,hi.2,Nat.add_sub_cancel_left]; rfl
theorem v24 {b c:UInt8}:((b.toNat:Int)=(c.toNat:Int))↔b=c:=by
 constructor
 ·intro h; exact UInt8.toNat_inj.1 (by omega)
 ·rintro rfl; rfl
theorem v5t (w:Bs) (hl:w.length≤99990):z5r (v3m std) (z32 [[]],(mkB w,(0,(1,((0:Int),())))))=some (z32 (sps w),(0,((sps w).length,()))):=by
 have key:=y6h (b:=v3m std) w.length (fun (_:Unit) i=>(z32 (sps (w.take i)),(mkB w,(0,((sps (w.take i)).length,((i:Int),())))))) (fun _ _=>True) (fun r=>r=(z32 (sps w),(0,((sps w).length,()))))
  (fun _ i hi _=> .inl ⟨(),by
   obtain ⟨b,hb⟩:=z1v hi
   obtain ⟨hw,h0⟩:=stp i (by omega)
   have hlt:(i:Int)<(w.length:Int):=by omega
   have hby:=z75 hb
   obtain ⟨⟨X,v,h1,h2⟩,h3⟩:=v5z (w.take i)
   obtain ⟨hsl,hsx⟩:=v39 (w.take i)
   have htl:(w.take i).length≤99990:=by rw [eBv]; omega
   rw [z76 hb]
   by_cases hb32:b=32
   ·have hbi:(b.toNat:Int)=32:=by rw [hb32]; rfl
    rw [hb32,h3]
    have hen:z32 (sps (w.take i)++[[]])=z32 (sps (w.take i))++[[D.str (mkB [])]]:=by simp [z32,eSt]
    rw [hen]
    have hel:=z36 (sps (w.take i))
    have e1:(sps (w.take i)).length+1≤1000000:=by omega
    have e5:(z32 (sps (w.take i))).take (sps (w.take i)).length=z32 (sps (w.take i)):=eDa (by rw [hel]; exact eAk _)
    rw [eBu,eDb]
    generalize z32 (sps (w.take i))=E at*
    generalize (sps (w.take i)).length=n at*
    simp only [v3m,z2d,z2e,z4b,Int.reduceLT,Int.reduceEq,Int.reduceLE,hlt,h0,hw,z20,hby,hbi,mk0,hel,e1,e5,eAk,eAp,eDc,if_true]
    simp [e5,hel]
   ·have hbi:¬ (b.toNat:Int)=32:=fun h=>hb32 (v24.1 h)
    rw [h1,h2 b hb32]
    have hv:v.length≤99990:=by have:=hsx v (by rw [h1]; simp); omega
    have hrow:(z32 (X++[v]))[X.length]?=some (eSt (mkB v)):=v8e (by simp)
    have hset:(z32 (X++[v])).set X.length [D.str (mkB (v++[b]))]=z32 (X++[v++[b]]):=by
     have:(z32 X).length=X.length:=z36 X
     have e:z32 (X++[v])=z32 X++[eSt (mkB v)]:=by simp [z32]
     rw [e,List.set_append_right _ _ (by omega),this,Nat.sub_self,List.set_cons_zero]
     simp [z32,eSt]
    have hws:IntKind.i64.wrap (((X.length+1:Nat):Int) - 1)=(X.length:Int):=by
     have:=congrArg List.length h1
     rw [eBu,eDb] at this
     rw [w21 _ (by omega) (by omega)]; omega
    have q1:(0:Int)≤(X.length:Int):=by omega
    have q2:(X.length:Int)<((X.length+1:Nat):Int):=by omega
    have q3:(i:Int)≤((i+1:Nat):Int):=by omega
    have q4:((i+1:Nat):Int)≤(w.length:Int):=by omega
    have hct:=v6o hb
    have e1:v.length+1≤1000000:=by omega
    have hl1:(X++[v]).length=X.length+1:=by simp
    have hl2:(X++[v++[b]]).length=X.length+1:=by simp
    have hel:(z32 (X++[v])).length=X.length+1:=by rw [z36,hl1]
    have hel2:(z32 (X++[v++[b]])).length=X.length+1:=by rw [z36,hl2]
    rw [hl1,hl2]
    generalize z32 (X++[v])=E at*
    simp only [v3m,z2d,z2e,z4b,Int.reduceLT,Int.reduceEq,Int.reduceLE,hlt,h0,hw,z20,z46,v3o,hby,hbi,hct,hws,q1,q2,q3,q4,hrow,z22,z44,z23,hset,hel,hel2,e1,eDb,z84,eAp,if_true,if_false,eAi],trivial⟩)
  (fun _ _=>⟨_,by
   have hno:¬ (w.length:Int)<w.length:=by omega
   rw [eDf]
   simp only [v3m,z2d,z2e,z20,hno,if_false,z36,z4b,Int.reduceLT,Int.reduceEq,Int.reduceLE],rfl⟩) () 0 (eAv _) trivial
 obtain ⟨r,h1,rfl⟩:=key
 exact h1
theorem v7e (w:Bs) (hl:w.length≤99990):v8a std (mkB w,())=some (z32 (sps w),(0,((sps w).length,()))):=by
 have h1:=v5t w hl
 have e:z32 [[]]=[[D.str (ByteArray.mk #[])]]:=rfl
 rw [e] at h1
 have hel:=z36 (sps w)
 unfold v8a
 simp only [z2d,z2e,z4b,Int.reduceLT,Int.reduceEq,Int.reduceLE,h1,hel,eAk,eAp,if_true]
def v6q (w:Bs) (n:Int) (ok:Bool):Prop:=(-100000000000000≤n∧n≤100000000000000)∧(ok=true→w=Lib.itoa n∧Rng n)∧∀ m,Rng m→w=Lib.itoa m→ok=true∧n=m
theorem v8d {b:UInt8} (h:z35 b):std.cvt .i64 (std.ar .sub .u8 (b.toNat:Int) 48)=(dv b:Int):=by
 obtain ⟨h1,h2⟩:=v42 h
 rw [h1]
 generalize dv b=d at*
 match d,h2 with
 |0,_=>rfl
 |1,_=>rfl
 |2,_=>rfl
 |3,_=>rfl
 |4,_=>rfl
 |5,_=>rfl
 |6,_=>rfl
 |7,_=>rfl
 |8,_=>rfl
 |9,_=>rfl
theorem v5s (w:Bs) (hl:w.length≤13):∃ r,z5r (v3i std) (mkB w,((0:Int),((0:Int),())))=some r∧((r= .inl ((0:Int),(false,()))∧∃ b∈w,¬ z35 b)∨(r= .inr ((v21 0 w:Int),())∧∀ b∈w,z35 b)):=by
 have key:=y6h (b:=v3i std) w.length (fun (_:Unit) i=>(mkB w,((v21 0 (w.take i):Int),((i:Int),())))) (fun _ i=>∀ b∈w.take i,z35 b)
  (fun r=>((r= .inl ((0:Int),(false,()))∧∃ b∈w,¬ z35 b)∨(r= .inr ((v21 0 w:Int),())∧∀ b∈w,z35 b)))
  (fun _ i hi hI=>by
   obtain ⟨b,hb⟩:=z1v hi
   obtain ⟨hw,h0⟩:=stp i (by omega)
   have hlt:(i:Int)<(w.length:Int):=by omega
   have hby:=z75 hb
   by_cases hd:z35 b
   ·left
    have h1:¬ (b.toNat:Int)<48:=by unfold z35 at hd; omega
    have h2:¬ (57:Int)<(b.toNat:Int):=by unfold z35 at hd; omega
    have hv:v21 0 (w.take i)<10 ^ 13:=by
     have h3:=v46 (w.take i) 0 hI
     have h4:(10:Nat) ^ (w.take i).length≤10 ^ 13:=Nat.pow_le_pow_right (by omega) (by rw [eBv]; omega)
     omega
    have hdv:=(v42 hd).2
    have hs:=v8d hd
    have hm1:std.ar .mul .i64 10 (v21 0 (w.take i):Int)=((10*v21 0 (w.take i):Nat):Int):=by
     rw [v4w,w21 _ (by omega) (by omega)]; omega
    have hm2:std.ar .add .i64 ((10*v21 0 (w.take i):Nat):Int) (dv b:Int)=((10*v21 0 (w.take i)+dv b:Nat):Int):=by
     rw [z86,w21 _ (by omega) (by omega)]; omega
    have hwr:std.ar .add .i64 (i:Int) 1=((i+1:Nat):Int):=by rw [z86]; exact hw
    refine ⟨(),?_,fun c hc=>?_⟩
    ·rw [z76 hb,v3c]
     generalize v21 0 (w.take i)=z at*
     simp only [v3i,y1l,y68,y50,y63,y5z,x1x,z31,x1y,y0o,z20,hlt,h0,hby,h1,h2,hs,hm1,hm2,hwr,decide_true,decide_false,if_true,if_false,eAi,cond_true,cond_false,eAx,ge_iff_le,gt_iff_lt]
    ·rw [z76 hb] at hc
     rcases eBj.1 hc with hc|hc
     ·exact hI c hc
     ·simp only [eBe] at hc; subst hc; exact hd
   ·right
    refine ⟨.inl ((0:Int),(false,())),?_, .inl ⟨rfl,b,eAu hb,hd⟩⟩
    by_cases h1:(b.toNat:Int)<48
    ·simp only [v3i,y1l,y68,y50,y63,y5z,x1x,z31,x1y,y0o,z20,hlt,h0,hby,h1,decide_true,decide_false,if_true,if_false,eAi,cond_true,cond_false,eAx,ge_iff_le,gt_iff_lt]
    ·have h2:(57:Int)<(b.toNat:Int):=by unfold z35 at hd; omega
     simp only [v3i,y1l,y68,y50,y63,y5z,x1x,z31,x1y,y0o,z20,hlt,h0,hby,h1,h2,decide_true,decide_false,if_true,if_false,eAi,cond_true,cond_false,eAx,ge_iff_le,gt_iff_lt])
  (fun _ hI=>⟨_,by
   have hno:¬ (w.length:Int)<w.length:=by omega
   rw [eDf]
   simp only [v3i,y1l,y68,y50,y63,y5z,x1x,y0o,z20,hno,decide_false,if_false,eAi], .inr ⟨rfl,by rw [eDf] at hI; exact hI⟩⟩) () 0 (eAv _) (fun b hb=>by simp at hb)
 obtain ⟨r,h1,h2⟩:=key
 refine ⟨r,?_,h2⟩
 rw [List.take_zero,z57] at h1
 exact h1
theorem v4g {m:Int} {r:Bs} (h:45::r=Lib.itoa m):∃ u:Nat,1≤u∧m= -(u:Int)∧r=Lib.decDigits u:=by
 rcases z33 m with ⟨u,rfl,e⟩|⟨u,h1,rfl,e⟩
 ·rw [e] at h
  have:=z72 u 45 (by rw [←h]; exact eBq)
  exact absurd rfl (v3b this)
 ·rw [e] at h
  exact ⟨u,h1,rfl,(List.cons.inj h).2⟩
theorem v5v (R:Prim→(ByteArray×Unit)→Option (Int×(Bool×Unit))) (w:Bs) (hl:w.length≤100000)
  (hR:∀ b r,w=b::r→∃ (n:Int) (ok:Bool),R std (mkB r,())=some (n,(ok,()))∧v6q r n ok):
  ∃ (n:Int) (ok:Bool),v38 R std (mkB w,())=some (n,(ok,()))∧v6q w n ok:=by
 by_cases hA:1<w.length∧w.head?=some 45
 ·obtain ⟨hl1,hh⟩:=hA
  cases w with
  |nil=>simp at hl1
  |cons b r=>
   simp only [List.head?_cons,Option.some.injEq] at hh
   subst hh
   cases r with
   |nil=>simp at hl1
   |cons d r=>
    obtain ⟨n,ok,hRr,⟨hb1,hb2⟩,hq1,hq2⟩:=hR _ _ rfl
    have q0:(1:Int)<(((45:UInt8)::d::r).length:Int):=by omega
    have hby0:=z75 (l:=45::d::r) (i:=0) rfl
    have hby1:=z75 (l:=45::d::r) (i:=1) rfl
    have hb45:(((45:UInt8).toNat:Nat):Int)=45:=rfl
    have q2:(0:Int)<(((45:UInt8)::d::r).length:Int):=by omega
    have q3:(1:Int)≤(((45:UInt8)::d::r).length:Int):=by omega
    have hcut:std.scut (mkB (45::d::r)) 1 ((45:UInt8)::d::r).length=mkB (d::r):=by
     rw [v3o]
     congr 1
     exact eDa (by simp)
    have hneg:std.ar .sub .i64 0 n= -n:=by rw [z84,w21 _ (by omega) (by omega)]; omega
    have q0':std.slen (mkB (45::d::r))=((45:UInt8)::d::r).length:=z20 _
    have q01:(0:Int)≤1:=by omega
    have q00:(0:Int)≤0:=by omega
    have Z0:((0:Nat):Int)=0:=rfl
    have Z1:((1:Nat):Int)=1:=rfl
    rw [Z0,hb45] at hby0
    rw [Z1] at hby1
    have t1:((1:Int)).toNat=1:=rfl
    generalize hL:((45:UInt8)::d::r).length=L at*
    have hres:∀ ok':Bool,v38 R std (mkB (45::d::r),())=some (-n,(ok',()))→(ok'=true↔ok=true∧0<n∧d≠45)→∃ (n:Int) (ok:Bool),v38 R std (mkB (45::d::r),())=some (n,(ok,()))∧v6q (45::d::r) n ok:=by
     intro ok' he hok
     refine ⟨-n,ok',he,⟨by omega,by omega⟩,fun h=>?_,fun m hm hw=>?_⟩
     ·obtain ⟨h1,h2,h3⟩:=hok.1 h
      obtain ⟨h4,h5⟩:=hq1 h1
      obtain ⟨u,rfl⟩:=Int.eq_ofNat_of_zero_le (Int.le_of_lt h2)
      rw [v26] at h4
      rw [v5g u (by omega),h4]
      refine ⟨rfl,?_⟩
      unfold Rng MX at*; omega
     ·obtain ⟨u,hu,rfl,hd⟩:=v4g hw
      have hru:Rng (u:Int):=by unfold Rng MX at*; omega
      obtain ⟨h1,h2⟩:=hq2 u hru (by rw [v26]; exact hd)
      have hd45:d≠45:=v3b (z72 u d (by rw [←hd]; exact eBq))
      exact ⟨hok.2 ⟨h1,by omega,hd45⟩,by omega⟩
    cases ok with
    |false=>
     refine hres false ?_ (by simp)
     simp only [v38,y1l,y68,y50,y63,y5z,x46,x1x,z31,x1y,z80,z63,x64,y7w,y0o,y7r,q0',q0,q2,q3,q01,q00,hby0,hcut,t1,eCh,Int.le_refl,hRr,hneg,decide_true,decide_false,if_true,if_false,eAi,cond_true,cond_false,eAx,ge_iff_le,gt_iff_lt,Sum.elim_inl,Bool.and_self]
    |true=>
     by_cases hn:0<n
     ·by_cases hd:d=45
      ·refine hres false ?_ (by simp [hd])
       have hbd:(d.toNat:Int)=45:=by rw [hd]; rfl
       simp only [v38,y1l,y68,y50,y63,y5z,x46,x1x,z31,x1y,z80,z63,x64,y7w,y0o,y7r,q0',q0,q2,q3,q01,q00,hby0,hby1,hbd,hcut,t1,eCh,Int.le_refl,hRr,hneg,hn,decide_true,decide_false,if_true,if_false,eAi,cond_true,cond_false,eAx,ge_iff_le,gt_iff_lt,Sum.elim_inl,Bool.and_self,Bool.not_true]
      ·refine hres true ?_ (by simp [hn,hd])
       have hbd:¬ (d.toNat:Int)=45:=fun h=>hd (v24 (c:=45).1 h)
       simp only [v38,y1l,y68,y50,y63,y5z,x46,x1x,z31,x1y,z80,z63,x64,y7w,y0o,y7r,q0',q0,q2,q3,q01,q00,hby0,hby1,hbd,hcut,t1,eCh,Int.le_refl,hRr,hneg,hn,decide_true,decide_false,if_true,if_false,eAi,cond_true,cond_false,eAx,ge_iff_le,gt_iff_lt,Sum.elim_inl,Bool.and_self,eCq]
     ·refine hres false ?_ (by simp [hn])
      simp only [v38,y1l,y68,y50,y63,y5z,x46,x1x,z31,x1y,z80,z63,x64,y7w,y0o,y7r,q0',q0,q2,q3,q01,q00,hby0,hcut,t1,eCh,Int.le_refl,hRr,hneg,hn,decide_true,decide_false,if_true,if_false,eAi,cond_true,cond_false,eAx,ge_iff_le,gt_iff_lt,Sum.elim_inl,Bool.and_self]
 ·
  have first:∀ (β:Type) (f:(ByteArray×(Bool×Unit))→Option β),(opt.run _ (opt.ask (ByteArray×(Bool×Unit)) (std.cmp .gtr (std.ofNat (std.slen (mkB w))) (1:Int)) (opt.need _ (bif (std.cmp .geq (0:Int) (0:Int)) then (std.cmp .lss (0:Int) (std.ofNat (std.slen (mkB w)))) else Bool.false) (opt.ret _ (mkB w,((std.cmp .eql (std.byte (mkB w) (0:Int)) (45:Int)),())))) (opt.ret _ (mkB w,(Bool.false,()))))).bind f=f (mkB w,(false,())):=by
   intro β f
   by_cases h1:1<w.length
   ·obtain ⟨b,hb⟩:=z1v (show 0<w.length by omega)
    have hby:=z75 hb
    have hne:b≠45:=fun e=>hA ⟨h1,by rw [List.head?_eq_getElem?,hb,e]⟩
    have hne':¬ (b.toNat:Int)=45:=fun h=>hne (v24 (c:=45).1 h)
    have Z0:((0:Nat):Int)=0:=rfl
    rw [Z0] at hby
    have q1:(1:Int)<(w.length:Int):=by omega
    have q2:(0:Int)<(w.length:Int):=by omega
    have q00:(0:Int)≤0:=by omega
    simp only [y1l,y68,y50,y5z,z31,x1y,x1x,z63,y0o,z20,q1,q2,q00,hby,hne',decide_true,decide_false,if_true,if_false,cond_true,ge_iff_le,gt_iff_lt,eAx]
   ·have q1:¬ (1:Int)<(w.length:Int):=by omega
    simp only [y1l,y68,y50,y5z,z31,y0o,z20,q1,decide_false,if_false,eAi,gt_iff_lt,eAx]
  have none_of:(∀ m,Rng m→w≠Lib.itoa m)→v6q w 0 false:=fun h=>⟨⟨by omega,by omega⟩,by simp,fun m hm hw=>absurd hw (h m hm)⟩
  have nonneg:∀ m,w=Lib.itoa m→∃ u:Nat,m=(u:Int)∧w=Lib.decDigits u:=fun m hw=>by
   rcases z33 m with ⟨u,rfl,e⟩|⟨u,h1,rfl,e⟩
   ·exact ⟨u,rfl,by rw [hw,e]⟩
   ·rw [e] at hw
    have hdl:0<(Lib.decDigits u).length:=List.length_pos_iff.2 (v32 u)
    exact absurd ⟨by rw [hw]; simp; omega,by rw [hw]; rfl⟩ hA
  by_cases h0:w.length<1
  ·refine ⟨0,false,?_,none_of fun m _ hw=>v68 m (by rw [←hw]; exact eBn.1 (by omega))⟩
   have q0:(w.length:Int)<1:=by omega
   unfold v38
   refine (first _ _).trans ?_
   simp only [y1l,y68,y50,y63,y5z,x46,x1x,y0o,z20,q0,decide_true,if_true,if_false,eAi,eAx,Sum.elim_inr]
  ·have q0:¬ (w.length:Int)<1:=by omega
   by_cases h13:13<w.length
   ·refine ⟨0,false,?_,none_of fun m hm hw=>?_⟩
    ·have q1:(13:Int)<(w.length:Int):=by omega
     unfold v38
     refine (first _ _).trans ?_
     simp only [y1l,y68,y50,y63,y5z,x46,x1x,z31,y0o,z20,q0,q1,decide_true,decide_false,if_true,if_false,eAi,eAx,Sum.elim_inr,gt_iff_lt]
    ·obtain ⟨u,rfl,hd⟩:=nonneg m hw
     have:=v5l (u:=u) hm.2
     rw [←hd] at this; omega
   ·have q1:¬ (13:Int)<(w.length:Int):=by omega
    obtain ⟨b,hb⟩:=z1v (show 0<w.length by omega)
    have hby:=z75 hb
    have Z0:((0:Nat):Int)=0:=rfl
    rw [Z0] at hby
    have hhd:w.head?=some b:=by rw [List.head?_eq_getElem?,hb]
    have q2:(0:Int)<(w.length:Int):=by omega
    have q00:(0:Int)≤0:=by omega
    by_cases h48:b=48∧1<w.length
    ·refine ⟨0,false,?_,none_of fun m hm hw=>?_⟩
     ·have q3:(b.toNat:Int)=48:=by rw [h48.1]; rfl
      have q4:(1:Int)<(w.length:Int):=by omega
      unfold v38
      refine (first _ _).trans ?_
      simp only [y1l,y68,y50,y63,y5z,x46,x1x,z31,x1y,z63,y0o,z20,q0,q1,q2,q00,hby,q3,q4,decide_true,decide_false,if_true,if_false,eAi,eAx,Sum.elim_inr,gt_iff_lt,ge_iff_le,cond_true]
     ·obtain ⟨u,rfl,hd⟩:=nonneg m hw
      have:=v55 u (by rw [←hd,hhd,h48.1])
      subst this
      rw [Lib.decDigits_one (by omega)] at hd
      rw [hd] at h48; simp at h48
    ·obtain ⟨r,k1,k2⟩:=v5s w (by omega)
     have hdec:((b.toNat:Int)=48∧¬ (1:Int)<(w.length:Int))∨¬ (b.toNat:Int)=48:=by
      by_cases hb48:b=48
      ·exact .inl ⟨by rw [hb48]; rfl,fun h=>h48 ⟨hb48,by omega⟩⟩
      ·exact .inr fun h=>hb48 (v24 (c:=48).1 h)
     rcases k2 with ⟨rfl,c,hc,hcd⟩|⟨rfl,hall⟩
     ·refine ⟨0,false,?_,none_of fun m hm hw=>?_⟩
      ·unfold v38
       refine (first _ _).trans ?_
       rcases hdec with ⟨q3,q4⟩|q3
       ·simp only [y1l,y68,y50,y63,y5z,x46,x1x,z31,x1y,z63,z80,y0o,z20,q0,q1,q2,q00,hby,k1,decide_true,decide_false,if_true,if_false,eAi,eAx,Sum.elim_inr,Sum.elim_inl,gt_iff_lt,ge_iff_le,cond_true,q3,q4]
       ·simp only [y1l,y68,y50,y63,y5z,x46,x1x,z31,x1y,z63,z80,y0o,z20,q0,q1,q2,q00,hby,k1,decide_true,decide_false,if_true,if_false,eAi,eAx,Sum.elim_inr,Sum.elim_inl,gt_iff_lt,ge_iff_le,cond_true,q3]
      ·obtain ⟨u,rfl,hd⟩:=nonneg m hw
       exact hcd (z72 u c (by rw [←hd]; exact hc))
     ·have hv:v21 0 w<10 ^ 13:=by
       have h3:=v46 w 0 hall
       have h4:(10:Nat) ^ w.length≤10 ^ 13:=Nat.pow_le_pow_right (by omega) (by omega)
       omega
      have hdo:=v7s (w.length - 1) w (by omega) hall (fun h=>by
       rw [hhd] at h
       refine Decidable.byContradiction fun hn=>h48 ⟨by simpa using h,by omega⟩)
      refine ⟨(v21 0 w:Int),decide ((v21 0 w:Int)≤1099511627776),?_,⟨by omega,by omega⟩,fun h=>?_,fun m hm hw=>?_⟩
      ·unfold v38
       refine (first _ _).trans ?_
       rcases hdec with ⟨q3,q4⟩|q3
       ·simp only [y1l,y68,y50,y63,y5z,x46,x1x,z31,x1y,z63,z80,y0o,z20,q0,q1,q2,q00,hby,k1,decide_true,decide_false,if_true,if_false,eAi,eAx,Sum.elim_inr,Sum.elim_inl,gt_iff_lt,ge_iff_le,cond_true,q3,q4]
       ·simp only [y1l,y68,y50,y63,y5z,x46,x1x,z31,x1y,z63,z80,y0o,z20,q0,q1,q2,q00,hby,k1,decide_true,decide_false,if_true,if_false,eAi,eAx,Sum.elim_inr,Sum.elim_inl,gt_iff_lt,ge_iff_le,cond_true,q3]
      ·have h:=of_decide_eq_true h
       rw [v26,hdo]
       refine ⟨rfl,?_⟩
       unfold Rng MX; omega
      ·obtain ⟨u,rfl,hd⟩:=nonneg m hw
       have:v21 0 w=u:=by rw [hd,v3g]
       rw [this]
       unfold Rng MX at hm
       exact ⟨decide_eq_true (by omega),rfl⟩
theorem v6f (f:Nat):∀ w:Bs,w.length<f→w.length≤100000→∃ (n:Int) (ok:Bool),v5x f std (mkB w,())=some (n,(ok,()))∧v6q w n ok:=by
 induction f with
 |zero=>intro w h; omega
 |succ f ih=>
  intro w h hl
  show ∃ (n:Int) (ok:Bool),v38 (v5x f) std (mkB w,())=some (n,(ok,()))∧v6q w n ok
  exact v5v _ w hl fun b r hr=>ih r (by rw [hr] at h; simp at h; omega) (by rw [hr] at hl; simp at hl; omega)
theorem v7d (w:Bs) (hl:w.length≤100000):∃ (n:Int) (ok:Bool),v9b std (mkB w,())=some (n,(ok,()))∧v6q w n ok:=v6f 1000000 w (by omega) hl
end Go.Am
end
noncomputable section
namespace Go.Am
def ctr6:Ctr:=
 ⟨6,[.list 4, .str],[],[(.ret,⟨[(0, .bool)],[],1⟩)]⟩
def la6:List LA:=
 []
def ja6:List JA:=
 [⟨6,[fF,fF,tT],0,[(AX.normal,⟨[(0, .list 4),(1, .str),(29, .bool)],[],72⟩)]⟩,
 ⟨6,[fF,tT,tT,tT,tT,tT,tT],0,[(AX.normal,⟨[(4, .bool)],[],72⟩)]⟩]
def gam6:List CF:=
 [⟨v7x,G40⟩,⟨v7y,G39⟩,⟨v70,G34⟩,⟨v7z,G38⟩,⟨w17,F37⟩,⟨w18,F16⟩,⟨w8h,F15⟩]
def an6:Anns:=
 ⟨gam6,ja6,[]⟩
def G6:(p:Prim)→(LD×W0w)→Option (W3w):=
 fun p x=>let B:=p.ofNat (p.slen x.2.1);let A:=(x.1,(x.2.1,((p.cmp .gtr B (65600:Int)),())));let C:=(x.1,(x.2.1,(Bool.true,())));
 opt.bnd ((LD×W11w)) _ (
 opt.run ((LD×W11w)) (
 opt.bnd (W3w) _ (G15 p (x.1,())) fun a=>
 opt.ask _ a.1 (
 opt.ret _ C) (
 opt.ask _ (p.cmp .gtr B (4000:Int)) (
 opt.ask _ (p.cmp .leq B (65536:Int)) (
 opt.ret _ C) (
 opt.ret _ A)) (
 opt.ret _ A)))) fun b=>
 opt.ask _ b.2.2.1 (
 opt.bnd (W3w) _ (G16 p ()) fun c=>
 opt.ret _ c) (
 opt.bnd (W8w) _ (G37 p (b.1,())) fun d=>
 opt.bnd (W8w) _ (G38 p (b.1,())) fun e=>
 opt.bnd (W21w) _ (G39 p (b.2.1,())) fun f=>
 opt.bnd (W21w) _ (G40 p (b.2.1,())) fun g=>
 opt.bnd (W3w) _ (
 opt.run (W3w) (
 opt.ask _ (p.strEq d.1 e.1) (
 opt.ask _ (p.cmp .eql d.2.1 e.2.1) (
 opt.need _ (p.and (p.leN (p.add 0 (p.len f.1)) (p.len f.1)) (p.and (p.leN (p.add 0 (p.len g.1)) (p.len g.1)) Bool.true))<|
 opt.bnd (W3w) _ (G34 p ((p.cut f.1 0 (p.len f.1)),((p.cut g.1 0 (p.len g.1)),()))) fun h=>
 opt.ask _ h.1 (
 opt.ask _ (p.cmp .eql f.2.1 g.2.1) (
 opt.bnd (W3w) _ (G16 p ()) fun i=>
 opt.ret _ i) (
 opt.ret _ (Bool.false,()))) (
 opt.ret _ (Bool.false,()))) (
 opt.ret _ (Bool.false,()))) (
 opt.ret _ (Bool.false,())))) fun j=>
 opt.ret _ j)
theorem ok6:CtrOk PG ctr6 (G6 std):=okF vE (a:=an6) (l:=la6) (gC ok40 (gC ok39 (gC ok34 (gC ok38 (gC ok37 (gC ok16 (gC ok15 (gN))))))))
end Go.Am
end
section
namespace Go.Am
open D12
variable {fl fl':List Int→Bool}
theorem v58 (W:List Bs) (w0:Bs) (X:List Bs) (hW:W=w0::X) (hl:W.length≤1000000):
  ∃ K:Int,z5r (v44 std) (z32 W,((0:Int),((0:Int),((0:Int),((0:Int),((0:Int),((0:Int),(0,(W.length,((1:Int),()))))))))))=some (z32 W,((0:Int),((0:Int),((0:Int),((0:Int),(K,((0:Int),(0,(W.length,())))))))))∧
   ((K=0∧∀ k,z3a k≠0→kwL k≠w0)∨(z3a K≠0∧kwL K=w0)):=by
 subst hW
 have hr0:(z32 (w0::X))[0]?=some (eSt (mkB w0)):=rfl
 have hpos:(0:Int)<((w0::X).length:Int):=by simp only [eBi]; omega
 have key:=y6h (b:=v44 std) 6 (fun (K:Int) i=>(z32 (w0::X),((0:Int),((0:Int),((0:Int),((0:Int),(K,((0:Int),(0,((w0::X).length,(((i+1:Nat):Int),())))))))))))
  (fun K i=>v4m (fun k=>kwL k=w0) K i) (fun r=>∃ K:Int,r=(z32 (w0::X),((0:Int),((0:Int),((0:Int),((0:Int),(K,((0:Int),(0,((w0::X).length,())))))))))∧v4m (fun k=>kwL k=w0) K 6)
  (fun K i hi hI=> .inl (by
   have hw:IntKind.i64.wrap (((i+1:Nat):Int)+1)=((i+1+1:Nat):Int):=w0a (by omega)
   have hle:((i+1:Nat):Int)≤6:=by omega
   have h122:=v5w ((i+1:Nat):Int) (v3e hi)
   rw [v5f] at h122
   have q0:(0:Int)≤0:=by omega
   generalize z32 (w0::X)=E at*
   generalize (w0::X).length=n at*
   by_cases h1:kwL ((i+1:Nat):Int)=w0
   ·refine ⟨((i+1:Nat):Int),?_,v3x h1⟩
    have h1':w0=kwL ((i+1:Nat):Int):=h1.symm
    simp only [v44,z2d,z2e,z4b,Int.reduceLT,Int.reduceEq,Int.reduceLE,hle,hw,h122,hr0,hpos,q0,z22,z44,z23,z21,h1',Int.reduceToNat,eAt,if_true]
   ·refine ⟨K,?_,v25 hI h1⟩
    have h1':¬ w0=kwL ((i+1:Nat):Int):=fun h=>h1 h.symm
    simp only [v44,z2d,z2e,z4b,Int.reduceLT,Int.reduceEq,Int.reduceLE,hle,hw,h122,hr0,hpos,q0,z22,z44,z23,z21,h1',Int.reduceToNat,eAt,if_true,if_false,eAi]))
  (fun K hI=>⟨_,by
   have hno:¬ ((6+1:Nat):Int)≤6:=by omega
   simp only [v44,z2d,z2e,hno,if_false,z4b,Int.reduceLT,Int.reduceEq,Int.reduceLE],K,rfl,hI⟩) 0 0 (eAv _) (.inl ⟨rfl,fun j hj=>by omega⟩)
 obtain ⟨r,h1,K,rfl,h2⟩:=key
 refine ⟨K,h1,?_⟩
 rcases h2 with ⟨rfl,h⟩|⟨j,hj,rfl,hm⟩
 ·refine .inl ⟨rfl,fun k hk hm=>?_⟩
  obtain ⟨j,hj,rfl⟩:=v6j hk
  exact h j hj hm
 ·exact .inr ⟨v3e hj,hm⟩
theorem v7r {ns:List Int} {n:Int} {j:Nat} (h:j<ns.length):(ns++[n]).getD j 0=ns.getD j 0:=by
 rw [eCi,eCi,eBz h]
theorem v69 {ns:List Int} {n:Int}:(ns++[n]).getD ns.length 0=n:=by
 rw [eCi,eCv (eAk _),Nat.sub_self]; rfl
theorem v3z {ns:List Int} {j:Nat} (h:ns.length≤j):ns.getD j 0=0:=by
 rw [eCi,eCt h]; rfl
def v5u (X:List Bs) (ns:List Int) (good:Bool):Prop:=(good=true→∀ (j:Nat) (x:Bs) (v:Int),X[j]?=some x→ns[j]?=some v→x=Lib.itoa v∧Rng v)∧(good=false→∃ x∈X,∀ v,Rng v→x≠Lib.itoa v)
theorem v40 {X:List Bs} {ns:List Int} {good:Bool} (h:v5u X ns good) {x:Bs} (hx:X[ns.length]?=some x) {n:Int} {ok:Bool} (hq:v6q x n ok):v5u X (ns++[n]) (good&&ok):=by
 refine ⟨fun hg=>?_,fun hg=>?_⟩
 ·rw [eAb] at hg
  intro j y v hy hv
  by_cases hj:j<ns.length
  ·rw [eBz hj] at hv
   exact h.1 hg.1 j y v hy hv
  ·rw [eCv (by omega)] at hv
   have:j - ns.length=0:=by
    rcases Nat.eq_zero_or_pos (j - ns.length) with h|h
    ·exact h
    ·rw [eCt (by simp; omega)] at hv; cases hv
   rw [this] at hv
   cases hv
   have:j=ns.length:=by omega
   subst this
   rw [hx] at hy; cases hy
   exact hq.2.1 hg.2
 ·cases good with
  |false=>exact h.2 rfl
  |true=>
   have hok:ok=false:=by simpa using hg
   refine ⟨x,eAu hx,fun v hv e=>?_⟩
   have:=(hq.2.2 v hv e).1
   rw [hok] at this; cases this
theorem v57 (w0:Bs) (X:List Bs) (m:Nat) (hX:X.length=m+2) (hm1:1≤m) (hm:m≤3) (hx:∀ x∈X,x.length≤100000) (K:Int):
  ∃ (ns:List Int) (good:Bool),z5r (v3k std) (z32 (w0::X),([],((0:Int),((0:Int),((0:Int),((0:Int),(K,((0:Int),(0,(m+3,(true,((1:Int),()))))))))))))=
   some (z1a ((ns.drop 1).take m),((0:Int),((0:Int),((0:Int),(ns.getD 0 0,(K,(ns.getD (m+1) 0,(good,()))))))))  ∧ns.length=m+2∧v5u X ns good:=by
 have key:=y6h (b:=v3k std) (m+2) (fun (t:List Int×Bool) i=>(z32 (w0::X),(z1a ((t.1.drop 1).take m),((0:Int),((0:Int),((0:Int),(t.1.getD 0 0,(K,(t.1.getD (m+1) 0,(0,(m+3,(t.2,(((i+1:Nat):Int),())))))))))))))
  (fun t i=>t.1.length=i∧v5u X t.1 t.2)
  (fun r=>∃ (ns:List Int) (good:Bool),r=(z1a ((ns.drop 1).take m),((0:Int),((0:Int),((0:Int),(ns.getD 0 0,(K,(ns.getD (m+1) 0,(good,()))))))))∧ns.length=m+2∧v5u X ns good)
  (fun t i hi hI=> .inl (by
   obtain ⟨ns,good⟩:=t
   obtain ⟨hnl,hG⟩:=hI
   simp only at hnl hG
   obtain ⟨x,hxi⟩:=z1v (show i<X.length by omega)
   obtain ⟨n,ok,h129,hq⟩:=v7d x (hx x (eAu hxi))
   have hw:IntKind.i64.wrap (((i+1:Nat):Int)+1)=((i+1+1:Nat):Int):=w0a (by omega)
   have hrow:(z32 (w0::X))[i+1]?=some (eSt (mkB x)):=v8e (by simpa using hxi)
   have q1:(0:Int)≤((i+1:Nat):Int):=by omega
   have q2:((i+1:Nat):Int)<((m+3:Nat):Int):=by omega
   have hws:IntKind.i64.wrap (((m+3:Nat):Int) - 1)=((m+2:Nat):Int):=by rw [w21 _ (by omega) (by omega)]; omega
   have hgood:=v40 hG (by rw [hnl]; exact hxi) hq
   refine ⟨(ns++[n],good&&ok),?_,by simp [hnl],hgood⟩
   have hTl:((ns.drop 1).take m).length≤3:=by rw [eBv]; omega
   generalize z32 (w0::X)=E at*
   by_cases hi0:i=0
   ·subst hi0
    have hns:ns=[]:=eBn.1 hnl
    subst hns
    have q3:((0+1:Nat):Int)=1:=rfl
    have g1:([n]:List Int).getD (m+1) 0=0:=v3z (by simp)
    have g2:([]:List Int).getD (m+1) 0=0:=v3z (by simp)
    have g3:([n]:List Int).getD 0 0=n:=rfl
    have g4:([]:List Int).getD 0 0=0:=rfl
    have t1:(([n]:List Int).drop 1).take m=[]:=by simp
    have t2:(([]:List Int).drop 1).take m=[]:=by simp
    have e0:z1a []=[]:=rfl
    simp only [List.nil_append,g1,g2,g3,g4,t1,t2,e0]
    have q1:(1:Int)<((m+3:Nat):Int):=by omega
    have q2:(0:Int)≤1:=by omega
    have hw:IntKind.i64.wrap ((1:Int)+1)=((0+1+1:Nat):Int):=hw
    have hrow:E[1]?=some (eSt (mkB x)):=hrow
    have tn:(1:Int).toNat=1:=rfl
    cases good with
    |true=>simp only [v3k,z2d,z2e,z4b,Int.reduceLT,Int.reduceEq,Int.reduceLE,q1,q2,hw,hrow,tn,z22,z44,z23,h129,q3,eAp,Bool.true_and,if_true,if_false,eAi]
    |false=>simp only [v3k,z2d,z2e,z4b,Int.reduceLT,Int.reduceEq,Int.reduceLE,q1,q2,hw,hrow,tn,z22,z44,z23,h129,q3,eAp,Bool.false_and,if_true,if_false,eAi]
   ·have q3:¬ ((i+1:Nat):Int)=1:=by omega
    have g0:(ns++[n]).getD 0 0=ns.getD 0 0:=v7r (by omega)
    have hd:(ns++[n]).drop 1=ns.drop 1++[n]:=by rw [List.drop_append_of_le_length (by omega)]
    have hdl:(ns.drop 1).length=i - 1:=by rw [eCx,hnl]
    by_cases him:i=m+1
    ·have q4:((i+1:Nat):Int)=((m+2:Nat):Int):=by omega
     have g1:(ns++[n]).getD (m+1) 0=n:=by rw [←him, ←hnl]; exact v69
     have t1:((ns++[n]).drop 1).take m=(ns.drop 1).take m:=by
      rw [hd,List.take_append_of_le_length (by omega)]
     simp only [g0,g1,t1]
     generalize z1a ((ns.drop 1).take m)=T at*
     have q5:¬ ((m+2:Nat):Int)=1:=by omega
     have q1:(0:Int)≤((m+2:Nat):Int):=by omega
     have q2:((m+2:Nat):Int)<((m+3:Nat):Int):=by omega
     have hw:IntKind.i64.wrap (((m+2:Nat):Int)+1)=((i+1+1:Nat):Int):=by rw [←q4]; exact hw
     have hrow:E[m+2]?=some (eSt (mkB x)):=by rw [him] at hrow; exact hrow
     cases good with
     |true=>simp only [v3k,z2d,z2e,z4b,Int.reduceLT,Int.reduceEq,Int.reduceLE,q1,q2,hw,hws,hrow,z22,z44,z23,h129,q4,q5,z84,eAp,Bool.true_and,if_true,if_false,eAi]
     |false=>simp only [v3k,z2d,z2e,z4b,Int.reduceLT,Int.reduceEq,Int.reduceLE,q1,q2,hw,hws,hrow,z22,z44,z23,h129,q4,q5,z84,eAp,Bool.false_and,if_true,if_false,eAi]
    ·have q4:¬ ((i+1:Nat):Int)=((m+2:Nat):Int):=by omega
     have g1:(ns++[n]).getD (m+1) 0=0:=v3z (by simp; omega)
     have g2:ns.getD (m+1) 0=0:=v3z (by omega)
     have t1:((ns++[n]).drop 1).take m=(ns.drop 1).take m++[n]:=by
      rw [hd,eDa (by simp; omega),eDa (by omega)]
     simp only [g0,g1,g2,t1]
     generalize (ns.drop 1).take m=T at*
     have e1:T.length+1≤1000000:=by omega
     have e5:(T.map eI).take T.length=T.map eI:=eDa (by simp)
     cases good with
     |true=>
      simp only [v3k,z2d,z2e,z4b,Int.reduceLT,Int.reduceEq,Int.reduceLE,z1a,q1,q2,hw,hws,hrow,z22,z44,z23,h129,q3,q4,e1,e5,z84,eAp,eAk,eDc,Bool.true_and,if_true,if_false,eAi]
      simp [eI,e1,e5]
      simpa using hw
     |false=>
      simp only [v3k,z2d,z2e,z4b,Int.reduceLT,Int.reduceEq,Int.reduceLE,z1a,q1,q2,hw,hws,hrow,z22,z44,z23,h129,q3,q4,e1,e5,z84,eAp,eAk,eDc,Bool.false_and,if_true,if_false,eAi]
      simp [eI,e1,e5]
      simpa using hw))
  (fun t hI=>by
   obtain ⟨ns,good⟩:=t
   have hno:¬ ((m+2+1:Nat):Int)<((m+3:Nat):Int):=by omega
   exact ⟨_,by simp only [v3k,z2d,z2e,z4b,Int.reduceLT,Int.reduceEq,Int.reduceLE,hno,if_false],ns,good,rfl,hI.1,hI.2⟩) ([],true) 0 (eAv _) ⟨rfl,fun _ j x v _ h=>by simp at h,by simp⟩
 obtain ⟨r,h1,ns,good,rfl,h2,h3⟩:=key
 refine ⟨ns,good,?_,h2,h3⟩
 have e0:(([]:List Int).drop 1).take m=[]:=by simp
 have e1:([]:List Int).getD (m+1) 0=0:=v3z (by simp)
 simp only [e0,e1] at h1
 exact h1
theorem v72 (w:Bs) (hl:w.length≤99990):∃ (n k:Int) (t:List Int) (a:Int) (ok:Bool),G89 std (mkB w,())=some (n,(k,(z1a t,(a,(ok,())))))∧(ok=true→cdL w=some ⟨n,k,t,a⟩)∧(ok=false→cdL w=none):=by
 have h128:=v7e w hl
 obtain ⟨hsl,hsx⟩:=v39 w
 have hcd:∀ c,CdL c→lnC c=w→sps w=wdC c:=fun c h1 h2=>by rw [←h2,v3s h1.1]
 have hne:=v3d w
 generalize hW:sps w=W at*
 obtain ⟨w0,X,rfl⟩:=List.exists_cons_of_ne_nil hne
 obtain ⟨K,k1,hK⟩:=v58 (w0::X) w0 X rfl (by omega)
 have hmatch:∀ c,CdL c→lnC c=w→kwL c.k=w0∧X.length=z3a c.k+2:=fun c h1 h2=>by
  have:=hcd c h1 h2
  unfold wdC at this
  simp only [List.cons.injEq] at this
  refine ⟨this.1.symm,?_⟩
  rw [this.2]; simp [h1.2.1]
 rcases hK with ⟨rfl,hno⟩|⟨hkm,hkw⟩
 ·refine ⟨0,0,[],0,false,?_,by simp,fun _=>v20.2 fun c h1 h2=>hno c.k h1.1 (hmatch c h1 h2).1⟩
  generalize z32 (w0::X)=E at*
  generalize (w0::X).length=L at*
  unfold G89
  simp only [z2d,z2e,z4b,Int.reduceLT,Int.reduceEq,Int.reduceLE,h128,k1,if_true]
  rfl
 ·have hK0:¬ K=0:=by rintro rfl; exact hkm (by decide)
  have h59:=y7c K
  have hmt:=v3a K
  have hw3:IntKind.i64.wrap ((z3a K:Int)+3)=((z3a K+3:Nat):Int):=by rw [w21 _ (by omega) (by omega)]; omega
  by_cases hX:X.length=z3a K+2
  ·have hlen:(w0::X).length=z3a K+3:=by simp only [eBi]; omega
   obtain ⟨ns,good,k2,hnl,hG⟩:=v57 w0 X (z3a K) hX (by omega) hmt (fun x hx=>by have:=hsx x (eCm _ hx); omega) K
   obtain ⟨n,t,a,rfl,htl⟩:=v9a hnl
   have g0:(n::(t++[a])).getD 0 0=n:=rfl
   have g1:(n::(t++[a])).getD (z3a K+1) 0=a:=by rw [eCi, ←htl]; simp
   have g2:((n::(t++[a])).drop 1).take (z3a K)=t:=by rw [←htl]; simp
   rw [g0,g1,g2] at k2
   rw [hlen] at k1 h128
   have q1:((z3a K+3:Nat):Int)=((z3a K+3:Nat):Int):=rfl
   have htk:(z1a t).take (z1a t).length=z1a t:=eDf
   refine ⟨n,K,t,a,good,?_,fun hg=>?_,fun hg=>v20.2 fun c h1 h2=>?_⟩
   ·generalize z32 (w0::X)=E at*
    generalize z1a t=T at*
    unfold G89
    simp only [z2d,z2e,z4b,Int.reduceLT,Int.reduceEq,Int.reduceLE,h128,k1,hK0,h59,hw3,k2,eAk,eDc,htk,if_true,if_false,eAi]
   ·have hall:=hG.1 hg
    have hrng:∀ v∈n::(t++[a]),Rng v:=by
     intro v hv
     obtain ⟨i,hi,he⟩:=eDh.1 hv
     obtain ⟨x,hx⟩:=z1v (show i<X.length by omega)
     exact (hall i x v hx (by rw [eAa hi,he])).2
    have hc:CdL ⟨n,K,t,a⟩:=⟨hkm,htl,hrng n (by simp),fun x hx=>hrng x (by simp [hx]),hrng a (by simp)⟩
    refine z53.2 ⟨hc,?_⟩
    have hXe:X=(n::(t++[a])).map Lib.itoa:=by
     refine List.ext_getElem (by rw [eBt]; omega) fun i h1 h2=>?_
     rw [eBt] at h2
     rw [List.getElem_map]
     exact (hall i X[i] (n::(t++[a]))[i] (eAa h1) (eAa h2)).1
    have hwd:wdC ⟨n,K,t,a⟩=w0::X:=by
     unfold wdC
     rw [hXe,hkw]; simp
    have:=v6m w
    rw [hW, ←hwd] at this
    exact this
   ·obtain ⟨x,hx,hbad⟩:=hG.2 hg
    have hwd:=hcd c h1 h2
    have:x∈(c.n::(c.t++[c.a])).map Lib.itoa:=by
     unfold wdC at hwd
     simp only [List.cons.injEq] at hwd
     rw [hwd.2] at hx; simpa using hx
    obtain ⟨v,hv,rfl⟩:=eBb.1 this
    have hrv:Rng v:=by
     rcases eAz.1 hv with rfl|hv
     ·exact h1.2.2.1
     ·rcases eBj.1 hv with hv|hv
      ·exact h1.2.2.2.1 v hv
      ·simp only [eBe] at hv; subst hv; exact h1.2.2.2.2
    exact hbad v hrv rfl
  ·refine ⟨0,K,[],0,false,?_,by simp,fun _=>v20.2 fun c h1 h2=>?_⟩
   ·have q1:¬ ((w0::X).length:Int)=((z3a K+3:Nat):Int):=by simp only [eBi]; omega
    generalize z32 (w0::X)=E at*
    generalize (w0::X).length=L at*
    unfold G89
    simp only [z2d,z2e,z4b,Int.reduceLT,Int.reduceEq,Int.reduceLE,h128,k1,hK0,h59,hw3,q1,if_true,if_false]
    rfl
   ·obtain ⟨e1,e2⟩:=hmatch c h1 h2
    have:c.k=K:=v4e h1.1 hkm (by rw [e1,hkw])
    rw [this] at e2
    exact hX e2
theorem z85 (p:Bs):lns (p++[10])=((lns p).1++[(lns p).2],[]):=by
 induction p with
 |nil=>rfl
 |cons c p ih=>
  rw [eDd]
  by_cases hc:c=10
  ·simp [lns,hc,ih]
  ·cases h:lns p with
   |mk ls r=>
    rw [h] at ih
    cases ls with
    |nil=>simp [lns,hc,ih,h]
    |cons x xs=>simp [lns,hc,ih,h]
theorem v3p (p:Bs) {b:UInt8} (hb:b≠10):lns (p++[b])=((lns p).1,(lns p).2++[b]):=by
 induction p with
 |nil=>simp [lns,hb]
 |cons c p ih=>
  rw [eDd]
  by_cases hc:c=10
  ·simp [lns,hc,ih]
  ·cases h:lns p with
   |mk ls r=>
    rw [h] at ih
    cases ls with
    |nil=>simp [lns,hc,ih,h]
    |cons x xs=>simp [lns,hc,ih,h]
theorem v64 (p:Bs):(lns p).1.length+(lns p).2.length≤p.length:=by
 induction p with
 |nil=>simp [lns]
 |cons c p ih=>
  by_cases hc:c=10
  ·simp [lns,hc]; omega
  ·cases h:lns p with
   |mk ls r=>
    rw [h] at ih
    cases ls with
    |nil=>simp [lns,hc,h] at*; omega
    |cons x xs=>simp [lns,hc,h] at*; omega
theorem v5c:∀ (q p:Bs),∀ x∈(lns p).1,x∈(lns (p++q)).1
 |[],p,x,h=>by rw [eCn]; exact h
 |b::q,p,x,h=>by
  have:p++b::q=(p++[b])++q:=by simp
  rw [this]
  refine v5c q (p++[b]) x ?_
  by_cases hb:b=10
  ·subst hb
   rw [z85]; simp [h]
  ·rw [v3p p hb]; exact h
theorem v7b {ws:List Bs} {w:Bs} (hw:w∈ws) (h:cdL w=none):v37 ws=none:=by
 cases hc:v37 ws with
 |none=>rfl
 |some l=>
  obtain ⟨h1,h2⟩:=z41.1 hc
  rw [h1] at hw
  obtain ⟨c,hc,rfl⟩:=eBb.1 hw
  rw [z53.2 ⟨h2 c hc,rfl⟩] at h; cases h
theorem v56 {ws:List Bs} {l:List Cd} (h:v37 ws=some l) {w:Bs} {c:Cd} (hc:cdL w=some c):v37 (ws++[w])=some (l++[c]):=by
 obtain ⟨h1,h2⟩:=z41.1 h
 obtain ⟨h3,h4⟩:=z53.1 hc
 refine z41.2 ⟨by rw [h1,List.map_append, ←h4]; rfl,fun d hd=>?_⟩
 rcases eBj.1 hd with hd|hd
 ·exact h2 d hd
 ·simp only [eBe] at hd; subst hd; exact h3
theorem v6c (s:Bs) (hl:s.length≤90000):∃ r,z5r (v4l std) ([],(mkB s,(mkB [],((0:Int),()))))=some r∧
  ((r= .inl ((8:Int),())∧z28 s=none)∨∃ L,r= .inr (z0p ffl L,(mkB (lns s).2,()))∧v37 (lns s).1=some L):=by
 have key:=y6h (b:=v4l std) s.length (fun (L:List Cd) i=>(z0p ffl L,(mkB s,(mkB (lns (s.take i)).2,((i:Int),())))))
  (fun L i=>v37 (lns (s.take i)).1=some L)
  (fun r=>(r= .inl ((8:Int),())∧z28 s=none)∨∃ L,r= .inr (z0p ffl L,(mkB (lns s).2,()))∧v37 (lns s).1=some L)
  (fun L i hi hI=>by
   obtain ⟨b,hb⟩:=z1v hi
   obtain ⟨hw,h0⟩:=stp i (by omega)
   have hlt:(i:Int)<(s.length:Int):=by omega
   have hby:=z75 hb
   have hln:=v64 (s.take i)
   have htl:(s.take i).length≤90000:=by rw [eBv]; omega
   have hLl:L.length=(lns (s.take i)).1.length:=by
    obtain ⟨h1,_⟩:=z41.1 hI
    rw [h1,eBt]
   by_cases hb10:b=10
   ·subst hb10
    have hbi:(((10:UInt8).toNat:Nat):Int)=10:=rfl
    rw [hbi] at hby
    obtain ⟨n,k,t,a,ok,h89,hok,hbad⟩:=v72 (lns (s.take i)).2 (by omega)
    cases ok with
    |true=>
     left
     refine ⟨L++[⟨n,k,t,a⟩],?_,?_⟩
     ·rw [z76 hb,z85]
      have e1:L.length+1≤1000000:=by omega
      have e5:(L.map (eC ffl)).take L.length=L.map (eC ffl):=eDa (by simp)
      generalize (lns (s.take i)).2=R at*
      simp only [v4l,z2d,z2e,z4b,Int.reduceLT,Int.reduceEq,Int.reduceLE,z0p,z20,mk0,hlt,h0,hw,hby,h89,e1,e5,eAk,eDc,if_true,if_false,eAi]
      simp [eC,z1a,ffl,e1,e5]
      simpa using hw
     ·rw [z76 hb,z85]
      exact v56 hI (hok rfl)
    |false=>
     right
     refine ⟨.inl ((8:Int),()),?_, .inl ⟨rfl,?_⟩⟩
     ·generalize (lns (s.take i)).2=R at*
      simp only [v4l,z2d,z2e,z4b,Int.reduceLT,Int.reduceEq,Int.reduceLE,z20,mk0,hlt,h0,hby,h89,if_true,if_false,eAi]
     ·have hm:(lns (s.take i)).2∈(lns (s.take (i+1))).1:=by rw [z76 hb,z85]; simp
      have hm2:=v5c (s.drop (i+1)) (s.take (i+1)) _ hm
      rw [List.take_append_drop] at hm2
      unfold z28
      rw [v7b hm2 (hbad rfl)]
      simp
   ·left
    have hbi:¬ (b.toNat:Int)=10:=fun h=>hb10 (v24 (c:=10).1 h)
    refine ⟨L,?_,?_⟩
    ·rw [z76 hb,v3p _ hb10]
     have q3:(i:Int)≤((i+1:Nat):Int):=by omega
     have q4:((i+1:Nat):Int)≤(s.length:Int):=by omega
     have hct:=v6o hb
     have e1:(lns (s.take i)).2.length+1≤1000000:=by omega
     generalize (lns (s.take i)).2=R at*
     generalize z0p ffl L=E at*
     simp only [v4l,z2d,z2e,z4b,Int.reduceLT,Int.reduceEq,Int.reduceLE,z20,z46,v3o,hlt,h0,hw,hby,hbi,q3,q4,hct,e1,eDb,if_true,if_false,eAi]
    ·rw [z76 hb,v3p _ hb10]; exact hI)
  (fun L hI=>by
   have hno:¬ (s.length:Int)<s.length:=by omega
   rw [eDf] at*
   exact ⟨_,by simp only [v4l,z2d,z2e,z4b,Int.reduceLT,Int.reduceEq,Int.reduceLE,z20,hno,if_false], .inr ⟨L,rfl,hI⟩⟩) [] 0 (eAv _) (by simp [lns,v37])
 obtain ⟨r,h1,h2⟩:=key
 exact ⟨r,h1,h2⟩
theorem v75 (s:Bs) (hl:s.length≤1000000):G40 std (mkB s,())=some (z0p ffl (v4o s),(v7k s,())):=by
 unfold G40 v4o v7k
 by_cases h:65536<s.length
 ·have h':(65536:Int)<(s.length:Int):=by omega
  simp only [z2d,z2e,z4b,Int.reduceLT,Int.reduceEq,Int.reduceLE,z20,h,h',if_true]
  rfl
 ·have h':¬ (65536:Int)<(s.length:Int):=by omega
  obtain ⟨r,k1,k2⟩:=v6c s (by omega)
  rcases k2 with ⟨rfl,hn⟩|⟨L,rfl,hL⟩
  ·simp only [z2d,z2e,z4b,Int.reduceLT,Int.reduceEq,Int.reduceLE,z20,mk0,h,h',k1,hn,if_true,if_false]
   rfl
  ·by_cases hr:(lns s).2=[]
   ·have h1:z28 s=some L:=by unfold z28; rw [if_pos hr]; exact hL
    have hfew:=v4h (v22.1 h1).2
    have h20:=w8x (fl:=ffl) L hfew
    have hle:(z0p ffl L).length=L.length:=z2i L
    have htk:(z0p ffl L).take L.length=z0p ffl L:=eDa (by rw [hle]; exact eAk _)
    by_cases hd:z4y L=0
    ·simp only [z2d,z2e,z4b,Int.reduceLT,Int.reduceEq,Int.reduceLE,z20,h,h',k1,h1,hr,mk0,z21,hle,htk,eDc,eAk,h20,hd,ne_eq,not_true,if_true,if_false,eBk]
    ·simp only [z2d,z2e,z4b,Int.reduceLT,Int.reduceEq,Int.reduceLE,z20,h,h',k1,h1,hr,mk0,z21,hle,htk,eDc,eAk,h20,hd,ne_eq,not_false_eq_true,if_true,if_false]
     rfl
   ·have h1:z28 s=none:=by unfold z28; rw [if_neg hr]
    simp only [z2d,z2e,z4b,Int.reduceLT,Int.reduceEq,Int.reduceLE,z20,h,h',k1,h1,hr,mk0,z21,if_true,if_false]
    rfl
theorem v5b (l:List Int):y8b (z1a l)=some l:=x5s l
theorem v4i (c:Cd) (es:List (List D)) (l:List Cd) (h:y60 es=some l):y60 (eC fl c::es)=some (c::l):=by
 have h1:=v5b c.t
 show (match y8b (z1a c.t),y60 es with|some t,some r=>some ((⟨c.n,c.k,t,c.a⟩:Cd)::r)|_,_=>none)=_
 rw [h1,h]
theorem v43 (l:List Cd):y60 (z0p fl l)=some l:=by
 induction l with
 |nil=>rfl
 |cons c l ih=>exact v4i c _ l ih
theorem v5j {l:List Cd} (h:∀ c∈l,z3d c=0):y1q l=mkB (z51 l):=by
 have:∀ (l:List Cd) (p:Bs),(∀ c∈l,z3d c=0)→l.foldl (fun s c=>s++z7z c) (mkB p)=mkB (p++z51 l):=by
  intro l
  induction l with
  |nil=>intro p _; simp [z51]
  |cons c l ih=>
   intro p h
   rw [List.foldl_cons,v3f (v29 (h c eBq)).2.1,v4b,ih _ fun d hd=>h d (eCm _ hd)]
   simp [z51]
 exact this l [] h
theorem v6t {l:List Cd} (hl:l.length≤1000) (ht:∀ c∈l,c.t.length≤1000):w9n l=true:=by
 unfold w9n
 rw [eAb]
 refine ⟨eBg (by omega),eAr.2 fun c hc=>?_⟩
 rw [eAb]
 refine ⟨eBg (ht c hc),?_⟩
 by_cases hd:z4y l=0
 ·have hcs:=(v23.1 hd).2.1 c hc
  obtain ⟨hs,hcl⟩:=v29 hcs
  have hr64:∀ v,0≤v∧v≤MX→y5g v=true:=fun v hv=>by
   unfold MX at hv
   unfold y5g
   rw [eAb]
   exact ⟨decide_eq_true (by omega),decide_eq_true (by omega)⟩
  have h1:=hr64 _ hs.1
  have h2:=hr64 _ hs.2.2
  have h3:c.t.all y5g=true:=eAr.2 fun x hx=>hr64 x (hs.2.1 x hx)
  have h4:=v4d hcs
  have h5:Nat.ble (z7z c).size 1000=true:=eBg (by rw [v3f hcl.1,z59]; simp; omega)
  simp [hd,h1,h2,h3,h5]
 ·simp [hd]
theorem v78 (l:List Cd) (hl:l.length≤1000) (ht:∀ c∈l,c.t.length≤1000):G37 std (z0p fl l,())=some (if z4y l=0 then mkB (z51 l) else mkB [],(z4y l,())):=by
 unfold G37
 rw [v43]
 simp only [v6t hl ht,cond_true]
 by_cases hd:z4y l=0
 ·rw [if_pos hd,if_pos hd,v5j (v23.1 hd).2.1]
 ·rw [if_neg hd,if_neg hd]; rfl
theorem v86 (l:List Cd) (s:ByteArray) (hs:s.size≤maxLen):G6 std (z0p fl l,(s,()))=some (true,()):=by
 rw [←v4p s]
 generalize s.data.toList=w
 have g15:=w3t (fl:=fl) l
 unfold G6
 by_cases hg:x8g l=true
 ·rw [hg] at g15
  simp only [z2d,z2e,z4b,Int.reduceLT,Int.reduceEq,Int.reduceLE,g15,G16,if_true]
 ·have hgf:x8g l=false:=by simpa using hg
  rw [hgf] at g15
  obtain ⟨hf,hl70,ht10⟩:=x0p hgf
  have h37:=v78 (fl:=fl) l (by omega) fun c hc=>by have:=ht10 c hc; omega
  have h38:=v77 (fl:=fl) l hf
  have main:w.length≤65600→∃ hw:w.length≤1000000,True:=fun h=>⟨by omega,trivial⟩
  by_cases h1:4000<w.length∧w.length≤65536
  ·have q1:(4000:Int)<(w.length:Int):=by omega
   have q2:(w.length:Int)≤65536:=by omega
   simp only [z2d,z2e,z4b,Int.reduceLT,Int.reduceEq,Int.reduceLE,g15,z20,q1,q2,G16,if_true,if_false,eAi]
  ·by_cases h2:65600<w.length
   ·have q1:(4000:Int)<(w.length:Int):=by omega
    have q2:¬ (w.length:Int)≤65536:=by omega
    have q3:(65600:Int)<(w.length:Int):=by omega
    simp only [z2d,z2e,z4b,Int.reduceLT,Int.reduceEq,Int.reduceLE,g15,z20,q1,q2,q3,G16,if_true,if_false,eAi]
   ·have q3:¬ (65600:Int)<(w.length:Int):=by omega
    have h39:=v76 w (by omega)
    have h40:=v75 w (by omega)
    have hle:(z0p ffl (v4o w)).length=(v4o w).length:=z2i _
    have htk:(z0p ffl (v4o w)).take (v4o w).length=z0p ffl (v4o w):=eDa (by rw [hle]; exact eAk _)
    have hrd:(∀ c∈v4o w,c.t.length≤1000000)∧(v4o w).length≤1000000:=by
     unfold v4o
     split
     ·cases hr:z28 w with
      |none=>simp
      |some L=>
       obtain ⟨e1,e2⟩:=v22.1 hr
       refine ⟨v4h e2,?_⟩
       have:∀ L:List Cd,L.length≤(z51 L).length:=fun L=>by
        induction L with
        |nil=>simp
        |cons c L ih=>unfold z51 at*; simp only [eDe,eDi,eBu,eBi,List.length_nil]; omega
       have h3:=this L
       rw [←e1] at h3
       simp only [eBk]
       omega
     ·simp
    have h34:=v79 (fl:=ffl) (fl':=ffl) (v4o w) (v4o w) hrd.2 hrd.1
    have hst:std.strEq (if z4y l=0 then mkB (z51 l) else mkB []) (if z4y l=0 then mkB (z51 l) else mkB [])=true:=by
     split
     ·rw [z21]; simp
     ·rw [z21]; simp
    simp only [decide_true] at h34
    by_cases h4:4000<w.length
    ·have q1:(4000:Int)<(w.length:Int):=by omega
     have q2:¬ (w.length:Int)≤65536:=by omega
     simp only [z2d,z2e,z4b,Int.reduceLT,Int.reduceEq,Int.reduceLE,g15,z20,q1,q2,q3,h37,h38,h39,h40,hst,hle,htk,h34,eAk,eAp,eDc,Bool.and_self,G16,if_true,if_false,eAi]
    ·have q1:¬ (4000:Int)<(w.length:Int):=by omega
     simp only [z2d,z2e,z4b,Int.reduceLT,Int.reduceEq,Int.reduceLE,g15,z20,q1,q3,h37,h38,h39,h40,hst,hle,htk,h34,eAk,eAp,eDc,Bool.and_self,G16,if_true,if_false,eAi]
end Go.Am
end
