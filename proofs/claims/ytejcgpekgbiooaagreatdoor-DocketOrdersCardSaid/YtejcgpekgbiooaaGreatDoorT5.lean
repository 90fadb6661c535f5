/- Texts of this claim. -/
import Derived.Test.YtejcgpekgbiooaaGreatDoorT4
import Derived.Below
import Derived.Shelf.Lays
import Derived.Shelf.Strings.OnBuilder
import Derived.Test.YtejcgpekgbiooaaGreatDoorProg
import Derived.Shelf.Strconv.Itoa4
import Derived.Shelf.Strconv.ParseIntPublic10
import Derived.Shelf.Strings.Prefix
import Derived.Shelf.Strings.Cut
import Derived.Shelf.Strings.Split
import Derived.Lib.SmallJoins
import Derived.Lib.AppendIntMem
import Derived.KernelRfl
import Derived.WalkKit
import Derived.BigCall
import Derived.Lib.SlKeysI
import Derived.Shelf.SlIterI.Sorted
set_option linter.unusedVariables false
set_option linter.unusedSimpArgs false
set_option linter.unusedSectionVars false
set_option maxRecDepth 100000
set_option maxHeartbeats 0
open List renaming pairwise_iff_getElem → eCm,getElem?_eq_getElem → eAb,map_set → eFe,take_length → eBi,length_take → eBo,length_replicate → eDu,drop_zero → eBz,any_eq_false → eDx,any_eq_true → eBq,mem_of_find?_eq_some → eCy,map_cons → eDq,mem_of_getElem? → eAi,take_add_one → eCs,length_map → eAy,getElem?_map → eAf,take_of_length_le → eBd,idxOf_lt_length_of_mem → eCc,idxOf_lt_length_iff → eDe,mem_cons → eAm,mem_cons_self → eAu,nodup_append → eDw,nodup_cons → eCx,mem_cons_of_mem → eBc,map_append → eFf,foldl_cons → eCj,mem_singleton → eBh,getD_eq_getElem?_getD → eAn,filter_cons → eFb,append_nil → eCp,mem_iff_getElem → eBy,getElem?_set → eBu,getElem?_cons_zero → eCt,getElem?_cons_succ → eDf,length_cons → eBn,getElem?_eq_some_iff → eAa,length_set → eCd,getElem?_drop → eCg,getElem?_set_ne → eDj,append_assoc → eCr,all_eq_true → eAx,length_eq_zero_iff → eBr,length_nil → eDn,getElem?_replicate → eCe,not_mem_nil → eBg,getElem?_range → eDz,getElem_mem → eCk,ext_getElem? → eBt,getElem?_of_mem → eDp,getElem?_take_of_lt → eDv,mem_map → eBe
open Int renaming le_refl → eCo,toNat_natCast → eCz
open Nat renaming le_refl → eAj,zero_add → eAq,add_zero → eBa,sub_zero → eFk,ble_eq_true_of_le → eBj,lt_or_ge → eCf,zero_le → eAo,le_trans → eBk,sub_self → eFl,eq_of_beq_eq_true → eAd,mul_one → eCn,le_of_ble_eq_true → eAh,mul_le_mul_right → eAv,beq_refl → eFd
open Bool renaming eq_iff_iff → eBx,not_eq_true' → eDa,false_eq_true → eAg,not_false → eDd,not_true → eDl,and_self → eDy,or_eq_true → eAt,and_eq_true → eAc
open Option renaming bind_some → eBp,map_some → eAw,getD_some → eBb,map_eq_some_iff → eBm
open Array renaming getElem?_eq_getElem → eAs,getElem?_eq_some_iff → eAe,getElem?_toList → eAl,getD_eq_getD_getElem? → eAk
open Go.Proofs.Tryz renaming prog → PG
section
namespace Go.Am
open D12
variable {fl fl':List Int→Bool}
def Adj (l:List Int):Prop:=∃ i,0<i∧i<l.length∧l.getD i 0=l.getD (i - 1) 0
theorem x32 {l:List Int} (a:l.Pairwise (· ≤ ·)) (h:¬ Adj l):l.Nodup:=by
 rw [List.nodup_iff_pairwise_ne,eCm]
 intro i j b c d he
 refine h ⟨i+1,by omega,by omega,?_⟩
 have g:=eCm.1 a i (i+1) b (by omega) (by omega)
 have f:l[i+1]'(by omega)≤l[j]:=by
  by_cases e:i+1=j
  ·subst e; exact eCo _
  ·exact eCm.1 a (i+1) j (by omega) c (by omega)
 rw [z02 (eAb (by omega:i+1<l.length)),Nat.add_sub_cancel,z02 (eAb b)]
 omega
theorem z9r {l:List Int} (h:Adj l):¬ l.Nodup:=by
 obtain ⟨i,c,b,he⟩:=h
 intro a
 rw [z02 (eAb b),z02 (eAb (by omega:i - 1<l.length))] at he
 have:=(List.getElem_inj a).1 he
 omega
theorem u9z (n:Int):[D.int IntKind.i64 n]=eI n:=rfl
theorem x2s {i:Nat} (a:1≤i) (h:i<9223372036854775807):IntKind.i64.wrap ((i:Int) - 1)=((i - 1:Nat):Int):=by
 rw [y8z]<;>omega
theorem w7j (n a:Nat) (cap:Nat) (G:1≤a) (C:a<n) (F:n≤1000000) (l:List Int) (B:l.length=n):
  ∃ r,z1e (x0n std) (z0e l,(0,(n,(cap,((a:Int),(0+a,(n - a,(cap - a,((1:Int),())))))))))=some r∧
   ∃ (R:List Int) (k:Nat),r=(z0e R,(0,(n,(cap,((k:Int),())))))∧R.length=n∧k<n:=by
 have key:=z09 (b:=x0n std) (n - a) (fun (t:List Int×Nat) i=>(z0e t.1,(0,(n,(cap,((t.2:Int),(0+a,(n - a,(cap - a,((i:Int),())))))))))) (fun t i=>t.1.length=n∧a≤t.2∧1≤i∧t.2+1≤a+i)
  (fun r=>∃ (R:List Int) (k:Nat),r=(z0e R,(0,(n,(cap,((k:Int),())))))∧R.length=n∧k<n) (fun t i H ⟨c,p,o,v⟩=>by
   obtain ⟨R,k⟩:=t
   simp only at c p o v⊢
   obtain ⟨m,hm⟩:=z0i (l:=R) (i:=a+i) (by omega)
   obtain ⟨A,g⟩:=z0i (l:=R) (i:=a+(i - 1)) (by omega)
   obtain ⟨E,u⟩:=z0i (l:=R) (i:=k) (by omega)
   obtain ⟨x,z⟩:=stp i (by omega)
   obtain ⟨q,w⟩:=stp k (by omega)
   have h:(i:Int)<(n - a:Nat):=by omega
   have y:=x2s o (by omega:i<9223372036854775807)
   have f:(0:Int)≤((i - 1:Nat):Int):=by omega
   have d:((i - 1:Nat):Int)<(n - a:Nat):=by omega
   have j:(k:Int)<n:=by omega
   left
   by_cases e:m=A
   ·refine ⟨(R,k),?_,c,p,by omega,by omega⟩
    simp only [x0n,z0k,z0l,z0a,z0e,z0x,z2o,z0q,Int.reduceLT,Int.reduceEq,Int.reduceLE,z3o,hm,g,h,z,x,y,f,d,e]
   ·refine ⟨(R.set k m,k+1),?_,by simp [c],by omega,by omega,by omega⟩
    simp only [x0n,z0k,z0l,z0a,z0e,z0x,z2o,z0q,Int.reduceLT,Int.reduceEq,Int.reduceLE,z3o,hm,g,u,h,z,x,y,f,d,e,w,j,q,u9z,eFe]) (fun t ⟨c,p,o,v⟩=>by
   obtain ⟨R,k⟩:=t
   simp only at c p o v⊢
   refine ⟨_,?_,R,k,rfl,c,by omega⟩
   have s:¬ ((n - a:Nat):Int)<(n - a:Nat):=by omega
   simp only [x0n,z0k,z0l,z0a,z0e,z0x,z2o,z0q,Int.reduceLT,Int.reduceEq,Int.reduceLE,s]) (l,a) 1 (by omega) ⟨B,eAj _,eAj _,eAj _⟩
 exact key
theorem w7k (l:List Int) (C:l.length≤1000000) (F:2≤l.length):
  ∃ r,z1e (x0o std) (z0e l,(0,(l.length,(l.length,((1:Int),())))))=some r∧
   ((¬ Adj l∧r= .inr (z0e l,(0,(l.length,(l.length,())))))∨(Adj l∧∃ (R:List Int) (k:Nat),r= .inl (z0e R,(0,(k,(l.length,()))))∧R.length=l.length∧k<l.length)):=by
 have key:=z09 (b:=x0o std) l.length (fun (_:Unit) i=>(z0e l,(0,(l.length,(l.length,((i:Int),())))))) (fun _ i=>1≤i∧∀ j,0<j→j<i→l.getD j 0≠l.getD (j - 1) 0)
  (fun r=>(¬ Adj l∧r= .inr (z0e l,(0,(l.length,(l.length,())))))∨(Adj l∧∃ (R:List Int) (k:Nat),r= .inl (z0e R,(0,(k,(l.length,()))))∧R.length=l.length∧k<l.length)) (fun _ i h ⟨n,x⟩=>by
   obtain ⟨m,hm⟩:=z0i h
   obtain ⟨B,a⟩:=z0i (l:=l) (i:=i - 1) (by omega)
   obtain ⟨z,o⟩:=stp i (by omega)
   have g:(i:Int)<l.length:=by omega
   have A:=x2s n (by omega:i<9223372036854775807)
   have f:(0:Int)≤((i - 1:Nat):Int):=by omega
   have d:((i - 1:Nat):Int)<l.length:=by omega
   by_cases e:m=B
   ·right
    obtain ⟨r,q,R,k,rfl,hR,E⟩:=w7j l.length i l.length n h C l rfl
    have t:(i:Int)≤l.length:=by omega
    have u:(k:Int)≤l.length:=by omega
    have v:(0:Int)≤k:=by omega
    have c:0+k+(l.length - k)≤(z0e R).length:=by rw [z0r,hR]; omega
    refine ⟨.inl (z0e (R.take k++List.replicate (l.length - k) 0),(0,(k,(l.length,())))),?_, .inr ⟨⟨i,by omega,h,by rw [z02 hm,z02 a]; exact e⟩,_,k,rfl,by simp [hR]; omega,E⟩⟩
    have p:(z0e R).take (0+k)++List.replicate (l.length - k) [D.int IntKind.i64 0]++(z0e R).drop (0+k+(List.replicate (l.length - k) [D.int IntKind.i64 0]).length)=z0e (R.take k++List.replicate (l.length - k) 0):=by
     have:R.length≤k+(l.length - k):=by omega
     simp [z0e,List.map_take,List.map_replicate,eI,this]
    simp only [eAq] at q p c
    simp only [x0o,z0k,z0l,z1b,z6e,z0q,Int.reduceLT,Int.reduceEq,Int.reduceLE,z3o,hm,a,g,o,z,A,f,d,e,z0e,t,eCo]
    simp only [z0e] at q p c
    simp only [z0k,z0l,q,u,v,c,z0q,Int.reduceLT,Int.reduceEq,Int.reduceLE,p,Int.toNat_zero,eBa,eFk,eAq,eCo]
    rw [if_pos (by omega)]
   ·left
    refine ⟨(),?_,by omega,fun j y G=>?_⟩
    ·simp only [x0o,z0k,z0l,z0a,z0e,z0x,z2o,z0q,Int.reduceLT,Int.reduceEq,Int.reduceLE,z3o,hm,a,g,o,z,A,f,d,e]
    ·by_cases w:j=i
     ·subst w; rw [z02 hm,z02 a]; exact e
     ·exact x j y (by omega)) (fun _ ⟨n,x⟩=>by
   refine ⟨.inr (z0e l,(0,(l.length,(l.length,())))),?_, .inl ⟨?_,rfl⟩⟩
   ·have s:¬ (l.length:Int)<l.length:=by omega
    simp only [x0o,z0k,z0l,z0a,z0e,z0x,z2o,z0q,Int.reduceLT,Int.reduceEq,Int.reduceLE,s]
   ·rintro ⟨i,o,h,he⟩; exact x i o h he) () 1 (by omega) ⟨eAj _,fun j n F=>by omega⟩
 exact key
theorem x7y (l:List Int) (d:l.length≤1000000):
  ∃ (R:List Int) (k:Nat),w77 std (z0e l,(0,(l.length,(l.length,()))))=some (z0e R,(0,(k,(l.length,()))))∧R.length=l.length∧((¬ Adj l∧R=l∧k=l.length)∨(Adj l∧k<l.length)):=by
 by_cases g:l.length<2
 ·refine ⟨l,l.length,?_,rfl, .inl ⟨?_,rfl,rfl⟩⟩
  ·have a:(l.length:Int)<2:=by omega
   simp only [w77,z0k,z0l,z0q,Int.reduceLT,Int.reduceEq,Int.reduceLE,a]
  ·rintro ⟨i,j,f,_⟩; omega
 ·have a:¬ (l.length:Int)<2:=by omega
  obtain ⟨r,c,h|h⟩:=w7k l d (by omega)
  ·obtain ⟨b,rfl⟩:=h
   refine ⟨l,l.length,?_,rfl, .inl ⟨b,rfl,rfl⟩⟩
   simp only [w77,z0k,z0l,z0q,Int.reduceLT,Int.reduceEq,Int.reduceLE,a,c]
  ·obtain ⟨b,R,k,rfl,hR,e⟩:=h
   refine ⟨R,k,?_,hR, .inr ⟨b,e⟩⟩
   simp only [w77,z0k,z0l,z0q,Int.reduceLT,Int.reduceEq,Int.reduceLE,a,c]
theorem x7z (l:List Int) (a:l.length≤1000000):v4e std (z0e l,())=some (z0e (srt l),()):=by
 unfold v4e
 simp only
 have h:y6p (z0e l)=some l:=y9m l
 have b:Nat.ble l.length 1000000=true:=eBj a
 rw [h]
 simp only [b,cond_true]
 rfl
def u4y (l r:List Int):Prop:=(l.Nodup→r=srt l)∧(¬ l.Nodup→r.length<l.length)
theorem x8u {l r:List Int} (h:u4y l r):r.length=l.length↔l.Nodup:=by
 constructor
 ·intro e; exact Decidable.byContradiction fun a=>by have:=h.2 a; omega
 ·intro a; rw [h.1 a]; exact (srt_perm l).length_eq
theorem w4m {l R:List Int} {k:Nat} (hR:R.length=(srt l).length) (h:(¬ Adj (srt l)∧R=srt l∧k=(srt l).length)∨(Adj (srt l)∧k<(srt l).length)):u4y l (R.take k):=by
 rcases h with ⟨b,rfl,rfl⟩|⟨b,c⟩
 ·have a:l.Nodup:=(srt_perm l).nodup_iff.1 (x32 (z8a l) b)
  exact ⟨fun _=>by rw [eBi],fun h=>absurd a h⟩
 ·have a:¬ l.Nodup:=fun h=>z9r b ((srt_perm l).nodup_iff.2 h)
  have:=(srt_perm l).length_eq
  exact ⟨fun h=>absurd h a,fun _=>by rw [eBo]; omega⟩
theorem spl (l:List Int):(List.replicate l.length [D.int IntKind.i64 0]).take 0++z0e l++(List.replicate l.length [D.int IntKind.i64 0]).drop (0+(z0e l).length)=z0e l:=by
 simp [z0e]
theorem v39 (l:List Int) (g:l.length≤1000000):∃ r,G57 std (z0e l,())=some (z0e r,())∧u4y l r:=by
 have f:=(srt_perm l).length_eq
 obtain ⟨R,k,d,hR,e⟩:=x7y (srt l) (by omega)
 refine ⟨R.take k,?_,w4m hR e⟩
 have b:=x7z l g
 have c:k≤R.length:=by rcases e with h|h<;>omega
 rw [f] at d
 unfold G57
 have j:(0:Int)≤l.length:=by omega
 have i:(l.length:Int)≤1000000:=by omega
 simp only [z0k,z0l,z0q,Int.reduceLT,Int.reduceEq,Int.reduceLE,z0r,j,i,eDu,eAj,eCo,eAq]
 have a:=spl l
 simp only [z0r,eAq] at a
 simp only [a,b,z0k,z0l,d,z0r,c,eBz]
 simp [z0e,List.map_take]
theorem v2l (l:List Int) (i:l.length≤1000000):∃ r,w7x std (z0e l,())=some (z0e l,(z0e r,()))∧u4y l r:=by
 have g:=(srt_perm l).length_eq
 obtain ⟨R,k,d,hR,e⟩:=x7y (srt l) (by omega)
 refine ⟨R.take k,?_,w4m hR e⟩
 have b:=x7z l i
 have c:k≤R.length:=by rcases e with h|h<;>omega
 rw [g] at d
 unfold w7x
 have m:(0:Int)≤l.length:=by omega
 have j:(l.length:Int)≤1000000:=by omega
 simp only [z0k,z0l,z0q,Int.reduceLT,Int.reduceEq,Int.reduceLE,z0r,m,j,eDu,eAj,eCo,eAq]
 have a:=spl l
 simp only [z0r,eAq] at a
 have f:(z0e l).take l.length=z0e l:=by rw [←z0r l,eBi]
 simp only [eBz,f,a,b,z0k,z0l,d,z0r,c]
 simp [z0e,List.map_take]
theorem v8b (a b n:Int):u3y std (a,(b,(n,())))=some (a,(b,(decide (n<a∨n>b),()))):=by
 unfold u3y
 by_cases c:n<a
 ·simp only [z0k,z0l,z0q,Int.reduceLT,Int.reduceEq,Int.reduceLE,c,true_or]
 ·simp only [z0k,z0l,z0q,Int.reduceLT,Int.reduceEq,Int.reduceLE,c,false_or]
theorem w00 (a c:Int) (l:List Int) (o:l.length≤1000000):G56 std (a,(c,(z0e l,())))=some (!(l.any fun n=>decide (n<a∨n>c)),()):=by
 unfold G56 u5d u5b
 have key:=z66 (b:=x5r std) l.length (fun i=>(a,(c,(z0e l,((l.length:Int),((i:Int),())))))) (fun i=>decide (l.getD i 0<a∨l.getD i 0>c)) (fun i=> .inl (a,(c,((i:Int),())))) (.inr (a,(c,()))) (fun i f=>by
  obtain ⟨m,hm⟩:=z0i f
  obtain ⟨g,k⟩:=stp i (by omega)
  have d:(i:Int)<l.length:=by omega
  simp only [z02 hm,x5r,z0k,z0l,z0a,z0e,z0x,z2o,z79,ge_iff_le,hm,d,k,g,v8b]) (by
  have j:¬ (l.length:Int)<l.length:=by omega
  simp only [x5r,z0k,z0l,z0a,z0e,z0x,z2o,j])
 have key:z1e (x5r std) (a,(c,(z0e l,((l.length:Int),((0:Int),())))))=_:=key
 have e:=y37 l 0 fun n=>decide (n<a∨n>c)
 simp only [z0k,z0l,z0r,key]
 cases h:(List.range l.length).find? fun i=>decide (l.getD i 0<a∨l.getD i 0>c) with
 |none=>
  have:((List.range l.length).any fun i=>decide (l.getD i 0<a∨l.getD i 0>c))=false:=by
   rw [eDx]; rw [List.find?_eq_none] at h; exact h
  rw [this] at e
  rw [←e]
  simp
 |some i=>
  have:((List.range l.length).any fun i=>decide (l.getD i 0<a∨l.getD i 0>c))=true:=eBq.2 ⟨i,eCy h,List.find?_some (p:=fun i=>decide (l.getD i 0<a∨l.getD i 0>c)) h⟩
  rw [this] at e
  rw [←e]
  simp
def z9a (k:Int):ByteArray:=if k=1 then ByteArray.mk #[101,110,116,101,114] else if k=2 then ByteArray.mk #[98,117,114,110] else if k=3 then ByteArray.mk #[99,111,109,112,97,114,101] else if k=4 then ByteArray.mk #[114,101,112,108,97,99,101] else if k=5 then ByteArray.mk #[111,117,116] else if k=6 then ByteArray.mk #[99,108,97,105,109] else ByteArray.mk #[]
def klo (k:Int):Int:=if k=1∨k=2∨k=3 then 1 else 0
def khi (k:Int):Int:=if k=1∨k=6 then 1000000 else if k=2 then 10000 else if k=3 then 100000 else 0
theorem v4a (k:Int):G55 std (k,())=some (z9a k,((z3s k:Int),(klo k,(khi k,())))):=by
 unfold G55 z9a z3s klo khi
 by_cases f:k=1
 ·simp [z0k,z0l,f]
 by_cases e:k=2
 ·simp [z0k,z0l,e]
 by_cases d:k=3
 ·simp [z0k,z0l,d]
 by_cases c:k=4
 ·simp [z0k,z0l,c]
 by_cases b:k=5
 ·simp [z0k,z0l,b]
 by_cases a:k=6
 ·simp [z0k,z0l,a]
 simp [z0k,z0l,f,e,d,c,b,a]
theorem u7i (k:Int):(bif std.strEq (z9a k) (ByteArray.mk #[]) then bif std.cmp .eql (z3s k:Int) 0 then bif std.cmp .eql (klo k) 0 then bif std.cmp .eql (khi k) 0 then true else false else false else false else false)=decide (z3s k=0):=by
 by_cases a:z3s k=0
 ·have h:z9a k=ByteArray.mk #[]∧klo k=0∧khi k=0:=by
   unfold z3s at a
   unfold z9a klo khi
   repeat' split at a
   all_goals first|omega|skip
   rename_i l j b
   have i:¬ k=1:=by omega
   have g:¬ k=2:=by omega
   have f:¬ k=3:=by omega
   have d:¬ k=4:=by omega
   have c:¬ k=5:=by omega
   simp [i,g,f,d,c,b]
  rw [h.1,h.2.1,h.2.2,a]
  simp [std,z3r]
 ·have:¬ ((z3s k:Nat):Int)=0:=by omega
  have e:std.cmp .eql (z3s k:Int) 0=false:=by rw [show std.cmp .eql (z3s k:Int) 0=decide ((z3s k:Int)=0) from rfl]; simpa using this
  rw [e]
  simp [a]
theorem w5x {k a:Int} (b:z3s k≠0):w76 k a↔¬ (a<klo k∨a>khi k):=by
 unfold w76 klo khi
 rcases y6x b with ⟨b,_⟩|⟨b,_⟩|⟨b,_⟩
 ·rcases b with rfl|rfl|rfl<;>simp<;>omega
 ·rcases b with rfl|rfl<;>simp<;>omega
 ·subst b; simp
theorem v5c (a b n:Int):(!([n].any fun n=>decide (n<a∨n>b)))=!decide (n<a∨n>b):=by simp
theorem y6q (n:Int):z5s n↔¬ (n<1∨n>1099511627776):=by unfold z5s; omega
theorem u3v (c:Cd) (s:c.t.length≤1000000):G17 std (c.n,(c.k,(z0e c.t,(c.a,()))))=some (z3c c,()):=by
 have f:=w00 1 1099511627776 [c.n] (by simp)
 have u:=w00 1 1099511627776 c.t s
 have p:=w00 (klo c.k) (khi c.k) [c.a] (by simp)
 obtain ⟨r,z,A⟩:=v39 c.t s
 have e:=x8u A
 rw [v5c] at f p
 have E:(!decide (c.n<1∨c.n>1099511627776))=decide (z5s c.n):=by rw [eBx]; simp only [eDa,decide_eq_false_iff_not,decide_eq_true_eq]; exact (y6q _).symm
 have C:(!(c.t.any fun n=>decide (n<1∨n>1099511627776)))=decide (¬ ∃ x∈c.t,¬ z5s x):=by
  rw [eBx]
  simp only [eDa,eDx,decide_eq_true_eq]
  constructor
  ·rintro h ⟨x,m,o⟩; exact o ((y6q x).2 (h x m))
  ·intro h x m o; exact h ⟨x,m,fun B=>(y6q x).1 B o⟩
 rw [E] at f
 rw [C] at u
 have y:=u7i c.k
 unfold G17 z3c
 simp only [z0e,eDq,List.map_nil,eI] at f p
 simp only [y3r,x0p,y89,x0h,y88,w0q,eBp,v4a,f]
 by_cases w:z5s c.n
 ·simp only [w,decide_true,cond_true,eAg,if_false,eBp,y,not_true,false_or]
  by_cases l:z3s c.k=0
  ·simp only [l,decide_true,if_true,eBp,Sum.elim_inl]
  ·simp only [l,decide_false,eAg,if_false]
   by_cases j:c.t.length=z3s c.k
   ·have d:std.cmp .neq (std.ofNat (std.len (z0e c.t))) (z3s c.k:Int)=false:=by simp [std,z3r,z0r,j]
    simp only [d,eAg,if_false,u,eBp,j,ne_eq,not_true]
    by_cases v:∃ x∈c.t,¬ z5s x
    ·simp only [v,not_true,decide_false,cond_false,if_true,eBp,Sum.elim_inl]
    ·simp only [v,not_false_eq_true,decide_true,cond_true,eAg,if_false,z,eBp]
     by_cases i:c.t.Nodup
     ·have q:=e.2 i
      have b:std.cmp .neq (std.ofNat (std.len (z0e r))) (z3s c.k:Int)=false:=by simp [std,z3r,z0r,q,j]
      simp only [b,eAg,if_false,p,eBp,i,not_true]
      by_cases g:w76 c.k c.a
      ·have:=(w5x l).1 g
       simp only [this,g,decide_false,eDd,cond_true,eAg,if_false,Sum.elim_inr,eBp,not_true]
      ·have:c.a<klo c.k∨c.a>khi c.k:=Decidable.byContradiction fun h=>g ((w5x l).2 h)
       simp only [this,g,decide_true,eDl,cond_false,if_true,Sum.elim_inl,eBp,not_false_eq_true]
     ·have q:r.length≠c.t.length:=fun h=>i (e.1 h)
      have b:std.cmp .neq (std.ofNat (std.len (z0e r))) (z3s c.k:Int)=true:=by simp [std,z3r,z0r]; omega
      simp only [b,if_true,Sum.elim_inl,eBp,i,not_false_eq_true]
   ·have d:std.cmp .neq (std.ofNat (std.len (z0e c.t))) (z3s c.k:Int)=true:=by simp [std,z3r,z0r]; omega
    simp only [d,if_true,eBp,Sum.elim_inl,j,ne_eq,not_false_eq_true]
 ·simp only [w,decide_false,cond_false,if_true,eBp,Sum.elim_inl,not_false_eq_true,true_or]
theorem v2d (l:List Cd) (t:l.length≤60) (s:Few l):
  z1e (x7u std) ([],(z0a fl l,(z0a fl l,((l.length:Int),((0:Int),())))))=some (match l.find? fun c=>!decide (z3c c=0) with|some c=> .inl (z3c c,())|none=> .inr (z0e (l.map (·.n)),(z0a fl l,()))):=by
 have key:=z66 (b:=x7u std) l.length (fun i=>(z0e ((l.take i).map (·.n)),(z0a fl l,(z0a fl l,((l.length:Int),((i:Int),())))))) (fun i=>!decide (z3c (l.getD i default)=0)) (fun i=> .inl (z3c (l.getD i default),())) (.inr (z0e (l.map (·.n)),(z0a fl l,()))) (fun i r=>by
  obtain ⟨m,hm⟩:=z0i r
  obtain ⟨k,o⟩:=stp i (by omega)
  have f:(i:Int)<l.length:=by omega
  have d:=u3v m (s m (eAi hm))
  have g:l.take (i+1)=l.take i++[m]:=by rw [eCs,hm]; rfl
  have a:(z0e ((l.take i).map (·.n))).length=i:=by rw [z0r,eAy,eBo]; omega
  simp only [z0e] at d
  by_cases e:z3c m=0
  ·simp only [z02 hm,x7u,y3r,x0p,y89,v5g,x0h,y88,w0q,y1q,z6w,x07,y54,y3j,y3k,x09,y53,z7v,y1r,x06,x6f,w3x,rdD,y52,z79,w0k,z0a,z0e,z0x,z2o,z0q,Int.reduceLT,Int.reduceEq,Int.reduceLE,eAf,eAw,eBp,eBb,eCz,hm,f,o,k,d,e,decide_true,if_true,if_false,eAg,eDy]
   simp only [z0e] at a
   have p:List.map eI (List.map (fun x=>x.n) (List.take i l))++[[D.int IntKind.i64 m.n]]=List.map eI (List.map (fun x=>x.n) (List.take (i+1) l)):=by
    rw [g]; simp [eI]
   have u:i+1≤y25:=by unfold y25; omega
   generalize List.map eI (List.map (fun x=>x.n) (List.take i l))=L at a p⊢
   have j:i≤999999:=by omega
   simp [a,p,j,y25,x08,eBd]
   omega
  ·simp only [z02 hm,x7u,y3r,x0p,y89,v5g,x0h,y88,w0q,y1q,z6w,x07,y54,y3j,y3k,x09,y53,z7v,y1r,x06,x6f,w3x,rdD,y52,z79,w0k,z0a,z0e,z0x,z2o,z0q,Int.reduceLT,Int.reduceEq,Int.reduceLE,eAf,eAw,eBp,eBb,eCz,hm,f,o,k,d,e,decide_true,decide_false,eDd,if_true]) (by
  have q:¬ (l.length:Int)<l.length:=by omega
  rw [eBi]
  simp only [x7u,z0k,z0l,z0a,z0e,z0x,z2o,q])
 have key:z1e (x7u std) ([],(z0a fl l,(z0a fl l,((l.length:Int),((0:Int),())))))=_:=key
 rw [key]
 have e:=x1z l default fun c=>!decide (z3c c=0)
 cases h:(List.range l.length).find? fun i=>!decide (z3c (l.getD i default)=0) with
 |none=>rw [h] at e; simp only [Option.map_none] at e; rw [←e]
 |some i=>rw [h] at e; simp only [eAw] at e; rw [←e]
theorem y4q (l:List Cd) (k:Few l):G19 std (z0a fl l,())=some (z0w l,()):=by
 unfold G19 z0w
 by_cases f:60<l.length
 ·have a:(60:Int)<l.length:=by omega
  simp only [z0k,z0l,z0q,Int.reduceLT,Int.reduceEq,Int.reduceLE,z0m,f,a]
 ·have a:¬ (60:Int)<l.length:=by omega
  have d:=v2d (fl:=fl) l (by omega) k
  cases i:l.find? fun c=>!decide (z3c c=0) with
  |some c=>
   rw [i] at d
   simp only [z0k,z0l,z0q,Int.reduceLT,Int.reduceEq,Int.reduceLE,z0m,f,a,d]
  |none=>
   rw [i] at d
   obtain ⟨r,g,j⟩:=v2l (l.map (·.n)) (by simp; omega)
   have b:=x8u j
   rw [eAy] at b
   by_cases e:(l.map (·.n)).Nodup
   ·have:=b.2 e
    simp only [z0k,z0l,z0q,Int.reduceLT,Int.reduceEq,Int.reduceLE,z0m,z0r,f,a,d,g,e,this]
   ·have:¬ r.length=l.length:=fun h=>e (b.1 h)
    have:¬ (r.length:Int)=l.length:=by omega
    simp only [z0k,z0l,z0q,Int.reduceLT,Int.reduceEq,Int.reduceLE,z0m,z0r,f,a,d,g,e,this]
theorem u3d (a b:List Cd) (d:Few a) (c:Few b):G78 std (z0a fl a,(z0a fl' b,()))=some (y76 a b,()):=by
 unfold G78 y76
 by_cases h:z0w a=0
 ·simp only [z0k,z0l,z0q,Int.reduceLT,Int.reduceEq,Int.reduceLE,y4q a d,y4q b c,h]; simp
 ·simp only [z0k,z0l,z0q,Int.reduceLT,Int.reduceEq,Int.reduceLE,y4q a d,y4q b c,h]; simp [h]
end Go.Am
end
section
namespace Go.Am.D12
theorem v8w {l:List Cd} (a:l.Nodup) {x y:Cd}:Tc (ltc l) x y→Tc (ord l) x y:=fun h=>h.mono fun u v h=> .one (y3t h).1
theorem x1l {l:List Cd} {x y:Cd} (a:y∈l) (h:ord l x y=true):x∈l:=by
 have c:=(z1d.1 h).2
 have b:=eCc a
 exact eDe.1 (by omega)
theorem v8x {l:List Cd} (b:l.Nodup) {x y:Cd} (a:y∈l) (h:Tc (ord l) x y):Tc (ltc l) x y:=by
 induction h with
 |one h=>exact w4n b _ _ _ (x1l a h) a (eAj _) h
 |step _ h c=>exact (c (x1l a h)).trans (w4n b _ _ _ (x1l a h) a (eAj _) h)
theorem x8n {x:Int} {l:List Cd} (v:l.Nodup):∀ (s p:List Cd),l=p++s→∀ c∈z4d x s,∃ e∈s,x∈e.t∧(c=e∨Tc (ord l) c e)
 |[],_,_,c,h=>by cases h
 |d::s,p,n,c,h=>by
  have j:=x8n (x:=x) v s (p++[d]) (by simp [n])
  simp only [z4d] at h
  split at h
  ·rename_i g
   rcases eAm.1 h with rfl|h
   ·rcases eAt _ _▸g with g|g
    ·exact ⟨c,eAu ..,by simpa using g, .inl rfl⟩
    ·obtain ⟨f,w,z⟩:=eBq.1 g
     obtain ⟨e,he,y,k⟩:=j f w
     have b:f∈s:=(z99 x s).subset w
     have a:=v
     rw [n] at a
     have i:ord l c f=true:=by
      rw [z1d]
      refine ⟨z,?_⟩
      have u:=eDw.1 a
      have A:=eCx.1 u.2.1
      have q:c∉p:=fun h=>u.2.2 c h c (eAu ..) rfl
      have o:f∉p:=fun h=>u.2.2 f h f (eBc _ b) rfl
      have m:c≠f:=fun e=>A.1 (e▸b)
      rw [n,v27 q,List.idxOf_append,if_neg o,List.idxOf_cons]
      have:(c==f)=false:=by simpa using m
      rw [this]; simp
     refine ⟨e,eBc _ he,y, .inr ?_⟩
     rcases k with rfl|k
     ·exact .one i
     ·exact (Tc.one i).trans k
   ·obtain ⟨e,he,r⟩:=j c h
    exact ⟨e,eBc _ he,r⟩
  ·obtain ⟨e,he,r⟩:=j c h
   exact ⟨e,eBc _ he,r⟩
theorem w4i {x:Int} {l:List Cd} (j:l.Nodup) {c e:Cd} (he:e∈z4d x l) (h:Tc (ord l) c e):c∈z4d x l:=by
 have one:∀ y z:Cd,z∈z4d x l→ord l y z=true→y∈z4d x l:=by
  intro y z f d
  have a:=(z99 x l).subset f
  have b:=x1l a d
  obtain ⟨r,i⟩:=w8u a
  have hyp:y∈pre l z:=(y10 b).2 (z1d.1 d).2
  have:=x6s x j (pre l z) z r i (by simpa using f) y hyp (z1d.1 d).1
  simpa using this
 induction h with
 |one h=>exact one _ _ he h
 |step _ h g=>exact g (one _ _ he h)
theorem w87 {x:Int} {l:List Cd} (b:l.Nodup) {c:Cd} (f:c∈l):c∈z4d x l↔∃ e∈l,x∈e.t∧(c=e∨Tc (ltc l) c e):=by
 constructor
 ·intro h
  obtain ⟨e,he,a,d⟩:=x8n b l [] rfl c h
  refine ⟨e,he,a,?_⟩
  rcases d with h|h
  ·exact .inl h
  ·exact .inr (v8x b he h)
 ·rintro ⟨e,he,a,rfl|d⟩
  ·exact y6k he a
  ·exact w4i b (y6k he a) (v8w b d)
end Go.Am.D12
end
section
namespace Go.Am
open D12
variable {fl fl':List Int→Bool}
theorem u3f (l:List Int) (x:Int) (n:l.length≤1000000):G71 std (z0e l,(x,()))=some (l.contains x,()):=by
 have key:=z66 (b:=x0m std) l.length (fun i=>(z0e l,(x,((l.length:Int),((i:Int),()))))) (fun i=>decide (x=l.getD i default)) (fun i=> .inl ((i:Int),())) (.inr ()) (fun i j=>by
  obtain ⟨y,d⟩:=z0i j
  obtain ⟨f,g⟩:=stp i (by omega)
  have a:(i:Int)<l.length:=by omega
  by_cases e:x=y
  ·subst e
   simp only [z02 d,x0m,z0k,z0l,z0e,z1b,z6e,z0q,Int.reduceLT,Int.reduceEq,Int.reduceLE,d,a,g,f,eAf,eAw]
  ·simp only [z02 d,x0m,z0k,z0l,z0e,z1b,z6e,z0q,Int.reduceLT,Int.reduceEq,Int.reduceLE,d,a,g,f,e,eAf,eAw]) (by
  have h:¬ (l.length:Int)<l.length:=by omega
  simp only [x0m,z0k,z0l,h,if_false])
 have key:z1e (x0m std) (z0e l,(x,((l.length:Int),((0:Int),()))))=_:=key
 unfold G71 u5c
 have c:(z0e l).length=l.length:=by simp [z0e]
 have e:=x1z l default fun y=>decide (x=y)
 have k:l.contains x=(l.find? fun y=>decide (x=y)).isSome:=by
  rw [eBx,List.find?_isSome]; simp
 rw [k, ←e]
 simp only [z0k,z0l,c,key]
 cases m:(List.range l.length).find? fun i=>decide (x=l.getD i default) with
 |none=>simp
 |some i=>simp
theorem z9m {l:List Cd} (h:(l.map (·.n)).Nodup):z5x [l]=l:=by
 have:∀ (q p:List Cd),((p++q).map (·.n)).Nodup→q.foldl x7v p=p++q:=by
  intro q
  induction q with
  |nil=>intro p _; simp
  |cons c q f=>
   intro p a
   have b:(p.any fun d=>decide (d.n=c.n))=false:=by
    rw [eDx]
    intro d g
    simp only [decide_eq_true_eq]
    rw [eFf,eDw] at a
    exact fun e=>a.2.2 d.n (List.mem_map_of_mem g) c.n (by simp) e
   have e:p++c::q=(p++[c])++q:=by simp
   rw [eCj]
   have:x7v p c=p++[c]:=by unfold x7v; rw [b]; rfl
   rw [this,e]
   exact f _ (by rw [←e]; exact a)
 exact this l [] (by simpa using h)
theorem z1u {l:List Cd} (h:z0w l=0):l.length≤60∧(l.map (·.n)).Nodup∧l.Nodup∧(∀ c∈l,z3c c=0)∧(∀ c∈l,1≤c.t.length∧c.t.length≤3∧c.t.Nodup):=by
 obtain ⟨m,i,g⟩:=x7m.1 h
 refine ⟨m,g,z3x g,i,fun c j=>?_⟩
 obtain ⟨a,b,o,d,e,f⟩:=y7o.1 (i c j)
 refine ⟨?_,?_,e⟩
 ·omega
 ·have:z3s c.k≤3:=by unfold z3s; split<;>(try split)<;>(try split)<;>omega
  omega
theorem y2v {l:List Cd} (h:z0w l=0):t2k (z5x [l]) [l]:=by
 obtain ⟨f,b,e,g,d⟩:=z1u h
 refine ⟨by rw [z9m b]; exact b,fun m hm c a=>?_,fun m hm=>?_⟩
 ·rw [eBh.1 hm] at a; rw [z9m b]; exact a
 ·rw [eBh.1 hm]; exact ⟨f,e,fun c a=>⟨(d c a).2.2,by have:=(d c a).2.1; omega⟩⟩
theorem x4m {l:List Cd} (h:z0w l=0):∃ a,G66 std ([[.list false 4 (z0a fl l)]],())=some (z0a fl l,(z7y (ixM l),(z4i a,(0,(l.length,())))))∧Rp a l (ltc l):=by
 obtain ⟨n,e,k,j,i⟩:=z1u h
 have g:=u3j (fl:=fl) [l] (by simp) (y2v h)
 have b:=v4t (g:=z5x [l]) (dks:=[l]) (y2v h).nums (by rw [z9m e]; omega) (fun m hm=>⟨(y2v h).mem m hm,((y2v h).wf m hm).2.1,fun c f=>(((y2v h).wf m hm).2.2 c f).1⟩)
 rw [z9m e] at g b
 exact ⟨_,g,b.congr fun d _ c _=>by simp⟩
theorem v5n {l:List Cd} (d:l.Nodup):Lin (ltc l) l:=by
 have h:=x1n d
 have a:∀ x y,ord l x y=false→ltc l x y=false:=fun x y h=>by
  cases c:ltc l x y with
  |false=>rfl
  |true=>rw [(y3t c).1] at h; cases h
 exact ⟨h.1.imp fun h=>a _ _ h,fun x b=>a _ _ (h.2 x b)⟩
theorem w5a {l:List Cd} (hm:(l.map (·.n)).Nodup):lst (ltc l) l.length l=z11 l:=by
 have e:=z3x hm
 exact x39 l (fun x _ y _ h=>(y3t h).1) (fun x d y a h=>by
  rcases w4o e d a h with h|⟨z,c,g,f⟩
  ·exact .inl h
  ·exact .inr ⟨z,c,g,f⟩) (z2j hm) l.length l (fun x h=>h) (fun x _ y a b _=>absurd a b)
theorem y64 {l:List Cd} (h:z0w l=0):∃ d a,G66 std ([[.list false 4 (z0a fl l)]],())=some (z0a fl l,(d,(z4i a,(0,(l.length,())))))∧
  G67 std (z0a fl l,(d,(z4i a,(0,(l.length,())))))=some (z0a fl l,(d,(z4i a,(z0a (fun _=>false) (z11 l),(0,(l.length,())))))):=by
 obtain ⟨n,i,k,m,f⟩:=z1u h
 obtain ⟨a,g,j⟩:=x4m (fl:=fl) h
 have b:=u3i (fl:=fl) (z7y (ixM l)) l a j (by omega) i (w0g (v5n k) fun x h=>h) (fun c e=>⟨(f c e).1,by have:=(f c e).2.1; omega⟩)
 rw [w5a i] at b
 exact ⟨_,a,g,b⟩
theorem u3r (l:List Cd) (d:Few l):G29 std (z0a fl l,())=some ((if z0w l=0 then z0a (fun _=>false) (z11 l) else []),(z0w l,())):=by
 have a:=y4q (fl:=fl) l d
 unfold G29
 by_cases h:z0w l=0
 ·obtain ⟨f,e,c,b⟩:=y64 (fl:=fl) h
  simp only [z0k,z0l,z0q,Int.reduceLT,Int.reduceEq,Int.reduceLE,a,h,c,b]
 ·simp only [z0k,z0l,z0q,Int.reduceLT,Int.reduceEq,Int.reduceLE,a,h]
def InP (x:Int) (l:List Cd) (R:Cd→Cd→Bool) (i:Nat) (s:Sg):Prop:=
 ∀ k d,l[k]?=some d→(s.has k=true↔∃ j e,j<i∧l[j]?=some e∧x∈e.t∧(k=j∨R d e=true))
theorem v14 (C:List (List D)) (L:List (D×D)) (off len:Nat) (l:List Cd) (x:Int) (O:l.length≤60) (M:Few l) (n:List Sg) {R:Cd→Cd→Bool} (hr:Rp n l R):
  ∃ s:Sg,z1e (w22 std) (C,(L,(z4i n,(off,(len,((0:Int),((0:Int),(z0a fl l,(x,(z0a fl l,((l.length:Int),((0:Int),()))))))))))))=some ((s.a:Int),((s.b:Int),(z0a fl l,())))∧InP x l R l.length s:=by
 have key:=z09 (b:=w22 std) l.length (fun (s:Sg) i=>(C,(L,(z4i n,(off,(len,((s.a:Int),((s.b:Int),(z0a fl l,(x,(z0a fl l,((l.length:Int),((i:Int),())))))))))))))
  (fun s i=>InP x l R i s) (fun r=>∃ s:Sg,r=((s.a:Int),((s.b:Int),(z0a fl l,())))∧InP x l R l.length s)
  (fun s i J A=> .inl (by
   obtain ⟨c,u⟩:=z0i J
   obtain ⟨I,K⟩:=stp i (by omega)
   have w:(i:Int)<l.length:=by omega
   have o:=y3l (fl:=fl) u
   have g:=u3f c.t x (M c (eAi u))
   have F:(n.map eS).length=l.length:=by rw [eAy,hr.1]
   have B:(n.map eS)[i]?=some (eS (n.getD i Sg.none)):=by
    rw [eAf,eAn,eAb (by rw [hr.1]; exact J)]; rfl
   simp only [z0e] at g
   by_cases v:x∈c.t
   ·have q:c.t.contains x=true:=by simpa using v
    rw [q] at g
    have H:=w7w s i (by omega)
    have G:=v34 (s.wth i) (n.getD i Sg.none)
    refine ⟨(s.wth i).or (n.getD i Sg.none),?_,fun k d y=>?_⟩
    ·simp only [w22,z0k,z0l,z0a,z0e,z0x,z2o,z4i,z0a,z0e,z5i,y0n,y0m,z0q,Int.reduceLT,Int.reduceEq,Int.reduceLE,w,K,I,o,g,F,B,H,G]
    ·rw [Sg.has_or,Sg.has_wth _ (by omega),hr.2 i c u k,y]
     simp only [eAt,decide_eq_true_eq]
     rw [A k d y]
     constructor
     ·rintro ((⟨j,e,z,f,p,m⟩|rfl)|h)
      ·exact ⟨j,e,by omega,f,p,m⟩
      ·exact ⟨k,c,by omega,u,v, .inl rfl⟩
      ·exact ⟨i,c,by omega,u,v, .inr h⟩
     ·rintro ⟨j,e,z,f,p,m⟩
      by_cases N:j=i
      ·subst N
       rw [u] at f; cases f
       rcases m with rfl|m
       ·exact .inl (.inr rfl)
       ·exact .inr m
      ·exact .inl (.inl ⟨j,e,by omega,f,p,m⟩)
   ·have q:c.t.contains x=false:=by simpa using v
    rw [q] at g
    refine ⟨s,?_,fun k d y=>?_⟩
    ·simp only [w22,z0k,z0l,z0a,z0e,z0x,z2o,z4i,z0a,z0e,z5i,y0n,y0m,z0q,Int.reduceLT,Int.reduceEq,Int.reduceLE,w,K,I,o,g]
    ·rw [A k d y]
     constructor
     ·rintro ⟨j,e,z,f,p,m⟩; exact ⟨j,e,by omega,f,p,m⟩
     ·rintro ⟨j,e,z,f,p,m⟩
      refine ⟨j,e,?_,f,p,m⟩
      rcases eCf j i with h|h
      ·exact h
      ·have:j=i:=by omega
       subst this
       rw [u] at f; cases f
       exact absurd p v))
  (fun s A=>by
   have E:¬ (l.length:Int)<l.length:=by omega
   exact ⟨((s.a:Int),((s.b:Int),(z0a fl l,()))),by simp only [w22,z0k,z0l,E,if_false,z0q,Int.reduceLT,Int.reduceEq,Int.reduceLE],s,rfl,A⟩) Sg.none 0 (eAo _) (fun k d y=>by rw [Sg.has_none]; simp)
 obtain ⟨r,z,s,rfl,f⟩:=key
 exact ⟨s,z,f⟩
theorem x51 {l:List Cd} {P:Cd→Bool} {i:Nat} {c:Cd} (h:l[i]?=some c):(l.take (i+1)).filter P=(l.take i).filter P++(if P c=true then [c] else []):=by
 rw [eCs,h,List.filter_append]
 congr 1
 simp [eFb]
theorem v13 (l:List Cd) (s:Sg) (P:Cd→Bool) (B:l.length≤60) (x:∀ c∈l,1≤c.t.length∧c.t.length≤1000000) (z:∀ k d,l[k]?=some d→s.has k=P d):
  z1e (w21 std) ([],((s.a:Int),((s.b:Int),(z0a fl l,((l.length:Int),((0:Int),()))))))=some (z0a (fun _=>false) (l.filter P),()):=by
 have key:=z09 (b:=w21 std) l.length (fun (_:Unit) i=>(z0a (fun _=>false) ((l.take i).filter P),((s.a:Int),((s.b:Int),(z0a fl l,((l.length:Int),((i:Int),())))))))
  (fun _ _=>True) (fun r=>r=(z0a (fun _=>false) (l.filter P),()))
  (fun _ i y _=> .inl ⟨(),by
   obtain ⟨c,n⟩:=z0i y
   obtain ⟨g,u⟩:=stp i (by omega)
   have h:(i:Int)<l.length:=by omega
   have f:=y3l (fl:=fl) n
   have e:=w7v s i (by omega)
   rw [z i c n] at e
   have j:=x c (eAi n)
   have m:=v30 c j.1 j.2
   have q:((l.take i).filter P).length≤60:=eBk (List.length_filter_le _ _) (by rw [eBo]; omega)
   rw [x51 n]
   generalize (l.take i).filter P=O at*
   simp only [z0e] at m
   cases p:P c with
   |false=>
    rw [p] at e
    simp only [w21,z0k,z0l,z0a,z0e,z0x,z2o,z0a,z0q,Int.reduceLT,Int.reduceEq,Int.reduceLE,h,u,g,f,e,eCp]
   |true=>
    rw [p] at e
    have w:O.length+1≤1000000:=by omega
    have v:(O.map (eC fun _=>false)).take O.length=O.map (eC fun _=>false):=eBd (by simp)
    simp only [w21,z0k,z0l,z0a,z0e,z0x,z2o,z0a,z0e,z0q,Int.reduceLT,Int.reduceEq,Int.reduceLE,h,u,g,f,e,m,w,v,eAj,eBz]
    simp [eC,z0e,v,w]
    simpa using g,trivial⟩)
  (fun _ _=>⟨(z0a (fun _=>false) (l.filter P),()),by
   have o:¬ (l.length:Int)<l.length:=by omega
   rw [eBi]
   simp only [w21,z0k,z0l,o,if_false,z0q,Int.reduceLT,Int.reduceEq,Int.reduceLE],rfl⟩) () 0 (eAo _) trivial
 obtain ⟨r,A,rfl⟩:=key
 exact A
def y4g (l:List Cd) (x:Int):Int:=if z0w l≠0 then z0w l else if z5s x then 0 else 3
theorem u3p (l:List Cd) (x:Int) (G:Few l):G31 std (z0a fl l,(x,()))=some ((if y4g l x=0 then z0a (fun _=>false) (z4d x l) else []),(y4g l x,())):=by
 have g:=y4q (fl:=fl) l G
 have a:=w00 1 1099511627776 [x] (by simp)
 have F:z0e [x]=[[D.int .i64 x]]:=rfl
 rw [F] at a
 unfold G31 y4g
 by_cases h:z0w l=0
 ·by_cases b:z5s x
  ·have t:(!([x].any fun n=>decide (n<1∨n>1099511627776)))=true:=by unfold z5s at b; simp; omega
   rw [t] at a
   obtain ⟨L,K,J,R,I⟩:=z1u h
   obtain ⟨M,E,N⟩:=x4m (fl:=fl) h
   obtain ⟨q,C,r⟩:=u3g (z0a fl l) (z7y (ixM l)) 0 l (by omega) M N
   obtain ⟨s,B,Q⟩:=v14 (fl:=fl) (z0a fl l) (z7y (ixM l)) 0 l.length l x L G q r
   have P:∀ k d,l[k]?=some d→s.has k=decide (d∈z4d x l):=by
    intro k d o
    have O:=eAi o
    rw [eBx,Q k d o,decide_eq_true_eq,w87 J O]
    constructor
    ·rintro ⟨j,e,p,he,b,y⟩
     refine ⟨e,eAi he,b,?_⟩
     rcases y with rfl|h
     ·rw [o] at he; exact .inl (Option.some.inj he)
     ·exact .inr ((w6m fun u v f=>(y3t f).2).1 h)
    ·rintro ⟨e,he,b,A⟩
     obtain ⟨j,p,i⟩:=eBy.1 he
     refine ⟨j,e,p,by rw [eAb p,i],b,?_⟩
     rcases A with rfl|h
     ·left
      have z:l[j]?=some d:=by rw [eAb p,i]
      exact (y1b K o).symm.trans (y1b K z)
     ·exact .inr ((w6m fun u v f=>(y3t f).2).2 h)
   have m:=v13 (fl:=fl) l s (fun d=>decide (d∈z4d x l)) L (fun c H=>⟨(I c H).1,by have:=(I c H).2.1; omega⟩) P
   rw [x3w x J] at m
   have w:(z0a fl l).length=l.length:=z0m l
   simp only [z0k,z0l,z0q,Int.reduceLT,Int.reduceEq,Int.reduceLE,g,h,a,E,C,B,m,w,b,ne_eq]
  ·have t:(!([x].any fun n=>decide (n<1∨n>1099511627776)))=false:=by unfold z5s at b; simp; omega
   rw [t] at a
   simp only [z0k,z0l,z0q,Int.reduceLT,Int.reduceEq,Int.reduceLE,g,h,a,b,ne_eq]
 ·simp only [z0k,z0l,z0q,Int.reduceLT,Int.reduceEq,Int.reduceLE,g,h,ne_eq]
end Go.Am
end
section
namespace Go.Am
open D12
variable {fl fl':List Int→Bool}
def eBl (b:Bool):List D:=[.bool b]
def z05 (l:List Bool):List (List D):=l.map eBl
theorem z2f (b:Bool):z2b [CK.bool] (eBl b)=true:=rfl
theorem z7r (b:Bool):dB ((eBl b)[0]?.getD D.nilp)=b:=rfl
theorem v2t {l:List Bool} {i:Nat} {b:Bool} (h:l[i]?=some b):(l.map eBl)[i]?=some (eBl b):=by
 rw [eAf,h]; rfl
theorem t1s (L:List Bool) (i:Nat) (b z:Bool):((L.set i b).map eBl).set i [D.bool z]=(L.set i z).map eBl:=by
 rw [show ([D.bool z])=eBl z from rfl, ←eFe,List.set_set]
theorem t2c {L:List Bool} {i:Nat} (b:Bool) (h:i<L.length):(L.set i b)[i]?=some b:=by
 rw [eBu,if_pos rfl,if_pos h]
theorem x7d {α:Type} (q:α→Bool):∀ (l:List α) (b:Bool),l.foldl (fun b p=>b||q p) b=(b||l.any q)
 |[],b=>by simp
 |x::l,b=>by rw [eCj,x7d q l,List.any_cons,Bool.or_assoc]
def flg (x:Int):List Cd→List Bool
 |[]=>[]
 |c::l=>(c.t.contains x||((flg x l).zip l).any fun p=>p.1&&tch c p.2)::flg x l
theorem x1y (x:Int):∀ l:List Cd,(flg x l).length=l.length
 |[]=>rfl
 |c::l=>by simp [flg,x1y x l]
def y86:List Bool→List Cd→List Cd
 |b::a,c::l=>if b=true then c::y86 a l else y86 a l
 |_,_=>[]
theorem x8c (p:Cd→Bool):∀ (a:List Bool) (l:List Cd),a.length=l.length→(y86 a l).any p=(a.zip l).any fun q=>q.1&&p q.2
 |[],[],_=>rfl
 |b::a,c::l,h=>by
  have d:=x8c p a l (by simpa using h)
  cases b<;>simp [y86,d]
 |[],_::_,h=>by simp at h
 |_::_,[],h=>by simp at h
theorem x8b (x:Int):∀ l:List Cd,y86 (flg x l) l=z4d x l
 |[]=>rfl
 |c::l=>by
  have a:=x8b x l
  have b:=x8c (tch c) (flg x l) l (x1y x l)
  rw [a] at b
  simp only [flg,y86,z4d,a,b]
theorem x3i:∀ (a:List Bool) (l:List Cd) (i:Nat) (b:Bool) (c:Cd),a[i]?=some b→l[i]?=some c→y86 (a.take (i+1)) (l.take (i+1))=y86 (a.take i) (l.take i)++if b=true then [c] else []
 |[],_,_,_,_,h,_=>by simp at h
 |_::_,[],_,_,_,_,h=>by simp at h
 |j::a,g::l,0,b,c,e,d=>by
  simp only [eCt,Option.some.injEq] at e d
  subst e; subst d
  simp [y86]
 |j::a,g::l,i+1,b,c,e,d=>by
  simp only [eDf] at e d
  have f:=x3i a l i b c e d
  simp only [List.take_succ_cons,y86,f]
  split<;>simp
theorem x8a:∀ (a:List Bool) (l:List Cd),(y86 a l).length≤l.length
 |[],l=>by simp [y86]
 |_::_,[]=>by simp [y86]
 |b::a,c::l=>by
  have:=x8a a l
  simp only [y86]
  split<;>simp only [eBn]<;>omega
theorem v11 (l:List Cd) (x:Int) (L:List Bool) (i:Nat) {c:Cd} (r:l[i]?=some c) (m:L.length=l.length) (A:l.length≤60) (z:c.t.length≤1000000) (b:Bool):
  z1e (w20 std) (z05 (L.set i b),(z0a fl l,(x,((i:Int),((0:Int),())))))=some (z05 (L.set i (b||c.t.contains x)),(z0a fl l,(x,((i:Int),())))):=by
 have w:i<l.length:=(eAa.1 r).1
 have a:=y3l (fl:=fl) r
 have n:(0:Int)≤(i:Int):=by omega
 have s:(i:Int)<(l.length:Int):=by omega
 have key:=z3z (b:=w20 std) c.t (fun (b:Bool) k=>(z05 (L.set i b),(z0a fl l,(x,((i:Int),((k:Int),())))))) (fun b y=>b||decide (y=x)) (fun _ _=>True) (fun b=>(z05 (L.set i b),(z0a fl l,(x,((i:Int),())))))
  (fun b k y o _=>by
   have B:k<c.t.length:=(eAa.1 o).1
   obtain ⟨p,u⟩:=stp k (by omega)
   have f:(k:Int)<c.t.length:=by omega
   have e:=w80 o
   have g:=v2t (t2c b (L:=L) (i:=i) (by omega))
   have d:(L.set i b).length=l.length:=by rw [eCd,m]
   have q:=t1s L i b
   refine ⟨?_,trivial⟩
   cases b with
   |true=>simp only [w20,z0k,z0l,z0a,z0e,z0x,z2o,z0a,z0e,z05,z1b,z6e,z2f,z7r,z47,z0q,Int.reduceLT,Int.reduceEq,Int.reduceLE,f,u,n,s,p,a,e,g,d,q,Bool.true_or,eCd,m]
   |false=>simp only [w20,z0k,z0l,z0a,z0e,z0x,z2o,z0a,z0e,z05,z1b,z6e,z2f,z7r,z47,z0q,Int.reduceLT,Int.reduceEq,Int.reduceLE,f,u,n,s,p,a,e,g,d,q,Bool.false_or,eCd,m])
  (fun b _=>by
   have j:¬ (c.t.length:Int)<c.t.length:=by omega
   simp only [w20,z0k,z0l,z0a,z0e,z0x,z2o,z0a,z0e,z05,j,a,n,if_false,if_true,z0q,Int.reduceLT,Int.reduceEq,Int.reduceLE]) b trivial
 have h:=key.1
 rw [x7d] at h
 have v:(c.t.any fun y=>decide (y=x))=c.t.contains x:=by
  rw [eBx]; simp
 rw [v] at h
 exact h
theorem v10 (l:List Cd) (x:Int) (L:List Bool) (i:Nat) {c:Cd} (z:l[i]?=some c) (q:L.length=l.length) (J:l.length≤60) (F:Few l) (b:Bool):
  z1e (x7t std) (z05 (L.set i b),(z0a fl l,(x,((i:Int),(((i+1:Nat):Int),())))))=some (z05 (L.set i (b||((L.drop (i+1)).zip (l.drop (i+1))).any fun p=>p.1&&tch c p.2)),(z0a fl l,(x,((i:Int),())))):=by
 have I:i<l.length:=(eAa.1 z).1
 have a:=y3l (fl:=fl) z
 have C:(0:Int)≤(i:Int):=by omega
 have B:(i:Int)<(l.length:Int):=by omega
 have o:((L.drop (i+1)).zip (l.drop (i+1))).length=l.length - (i+1):=by simp [q]
 have key:=z3z (b:=x7t std) ((L.drop (i+1)).zip (l.drop (i+1))) (fun (b:Bool) k=>(z05 (L.set i b),(z0a fl l,(x,((i:Int),(((i+1+k:Nat):Int),())))))) (fun b p=>b||(p.1&&tch c p.2)) (fun _ _=>True) (fun b=>(z05 (L.set i b),(z0a fl l,(x,((i:Int),())))))
  (fun b k p v _=>by
   have K:k<l.length - (i+1):=by rw [←o]; exact (eAa.1 v).1
   obtain ⟨u,d⟩:=p
   obtain ⟨H,G⟩:L[i+1+k]?=some u∧l[i+1+k]?=some d:=by
    rw [List.getElem?_zip_eq_some,eCg,eCg] at v
    exact v
   obtain ⟨s,E⟩:=stp (i+1+k) (by omega)
   have g:((i+1+k:Nat):Int)<l.length:=by omega
   have f:=y3l (fl:=fl) G
   have j:=v2t (t2c b (L:=L) (i:=i) (by omega))
   have A:(L.set i b)[i+1+k]?=some u:=by rw [eDj (by omega)]; exact H
   have n:=v2t A
   have e:(L.set i b).length=l.length:=by rw [eCd,q]
   have t:=t1s L i b
   have r:=w01 c d (F c (eAi z)) (F d (eAi G))
   have y:i+1+k+1=i+1+(k+1):=by omega
   rw [y] at s
   refine ⟨?_,trivial⟩
   generalize i+1+k=m at*
   cases b with
   |true=>simp only [x7t,z0k,z0l,z0a,z0e,z0x,z2o,z0a,z0e,z05,z2f,z7r,z47,z0q,Int.reduceLT,Int.reduceEq,Int.reduceLE,g,E,C,B,s,a,f,j,n,e,t,Bool.true_or,eCd,q]
   |false=>
    simp only [z0e] at r
    cases u with
    |true=>simp only [x7t,z0k,z0l,z0a,z0e,z0x,z2o,z0a,z0e,z05,z2f,z7r,z47,z0q,Int.reduceLT,Int.reduceEq,Int.reduceLE,g,E,C,B,s,a,f,j,n,e,t,r,Bool.false_or,Bool.true_and,eCd,q]
    |false=>simp only [x7t,z0k,z0l,z0a,z0e,z0x,z2o,z0a,z0e,z05,z2f,z7r,z47,z0q,Int.reduceLT,Int.reduceEq,Int.reduceLE,g,E,C,B,s,a,f,j,n,e,t,Bool.false_or,Bool.false_and,eCd,q])
  (fun b _=>by
   have w:¬ ((i+1+(l.length - (i+1)):Nat):Int)<l.length:=by omega
   rw [o]
   simp only [x7t,z0k,z0l,z0a,z0e,z0x,z2o,z0a,z0e,z05,w,a,if_false,z0q,Int.reduceLT,Int.reduceEq,Int.reduceLE]) b trivial
 have h:=key.1
 rw [x7d] at h
 exact h
theorem v4u (i:Nat) (a z:Bool) (F:List Bool):(List.replicate i false++a::F).set i z=List.replicate i false++z::F:=by
 rw [List.set_append_right _ _ (by simp)]; simp
theorem v12 (l:List Cd) (x:Int) (v:l.length≤60) (w:Few l):
  z1e (w7b std) (z05 (List.replicate l.length false),(z0a fl l,(x,((l.length:Int) - 1,()))))=some (z05 (flg x l),(z0a fl l,())):=by
 have key:=z09 (b:=w7b std) l.length (fun (_:Unit) m=>(z05 (List.replicate (l.length - m) false++flg x (l.drop (l.length - m))),(z0a fl l,(x,((l.length:Int) - 1 - (m:Int),()))))) (fun _ _=>True) (fun r=>r=(z05 (flg x l),(z0a fl l,())))
  (fun _ m hm _=> .inl ⟨(),by
   obtain ⟨i,F⟩:∃ i,l.length=i+1+m:=⟨l.length - 1 - m,by omega⟩
   have C:l.length - m=i+1:=by omega
   have B:l.length - (m+1)=i:=by omega
   have u:(l.length:Int) - 1 - (m:Int)=(i:Int):=by omega
   obtain ⟨c,f⟩:=z0i (show i<l.length by omega)
   have g:(0:Int)≤(i:Int):=by omega
   have A:=x1y x (l.drop (i+1))
   have q:l.drop i=c::l.drop (i+1):=x18 f
   have d:List.replicate (i+1) false++flg x (l.drop (i+1))=List.replicate i false++false::flg x (l.drop (i+1)):=by
    rw [List.replicate_succ',eCr]; rfl
   have a:∀ z,(List.replicate (i+1) false++flg x (l.drop (i+1))).set i z=List.replicate i false++z::flg x (l.drop (i+1)):=fun z=>by rw [d,v4u]
   have e:(List.replicate (i+1) false++flg x (l.drop (i+1))).length=l.length:=by simp [A]; omega
   have s:(List.replicate (i+1) false++flg x (l.drop (i+1))).drop (i+1)=flg x (l.drop (i+1)):=by
    rw [List.drop_append_of_le_length (by simp)]; simp
   have j:=v11 (fl:=fl) l x _ i f e v (w c (eAi f)) false
   have h:=v10 (fl:=fl) l x _ i f e v w (false||c.t.contains x)
   rw [s] at h
   rw [a,a] at j h
   rw [←d] at j
   have o:flg x (l.drop i)=((false||c.t.contains x)||((flg x (l.drop (i+1))).zip (l.drop (i+1))).any fun p=>p.1&&tch c p.2)::flg x (l.drop (i+1)):=by
    rw [q]; simp [flg]
   have y:IntKind.i64.wrap ((i:Int)+1)=((i+1:Nat):Int):=z8w (by omega)
   have k:IntKind.i64.wrap ((i:Int) - 1)=(l.length:Int) - 1 - ((m+1:Nat):Int):=by rw [y8z _ (by omega) (by omega)]; omega
   rw [C,B,u,o]
   generalize z05 (List.replicate (i+1) false++flg x (l.drop (i+1)))=X at*
   simp only [w7b,z0k,z0l,z0q,Int.reduceLT,Int.reduceEq,Int.reduceLE,g,j,y,h,z3o,k],trivial⟩)
  (fun _ _=>⟨(z05 (flg x l),(z0a fl l,())),by
   have u:(l.length:Int) - 1 - ((l.length:Nat):Int)= -1:=by omega
   have n:¬ (0:Int)≤ -1:=by omega
   rw [eFl,u]
   simp only [List.replicate_zero,List.nil_append,eBz]
   simp only [w7b,z0k,z0l,z0q,Int.reduceLT,Int.reduceEq,Int.reduceLE,n,if_false],rfl⟩) () 0 (eAo _) trivial
 obtain ⟨r,g,rfl⟩:=key
 have E:(l.length:Int) - 1 - ((0:Nat):Int)=(l.length:Int) - 1:=by omega
 rw [eFk,E,List.drop_length] at g
 simpa [flg] using g
theorem v1z (l:List Cd) (a:List Bool) (w:l.length≤60) (j:a.length=l.length):
  z1e (w2z std) (z05 a,([],(z0a fl l,((0:Int),()))))=some (z0a fl (y86 a l),()):=by
 have key:=z09 (b:=w2z std) l.length (fun (_:Unit) i=>(z05 a,(z0a fl (y86 (a.take i) (l.take i)),(z0a fl l,((i:Int),()))))) (fun _ _=>True) (fun r=>r=(z0a fl (y86 a l),()))
  (fun _ i u _=> .inl ⟨(),by
   obtain ⟨c,n⟩:=z0i u
   obtain ⟨b,h⟩:=z0i (show i<a.length by omega)
   obtain ⟨k,p⟩:=stp i (by omega)
   have f:(i:Int)<l.length:=by omega
   have d:=y3l (fl:=fl) n
   have g:=v2t h
   have o:std.rdF (l.map (eC fl)) i 2 1=fl c.t:=u4k n
   have e:=x8a (a.take i) (l.take i)
   have e:(y86 (a.take i) (l.take i)).length≤60:=by rw [eBo] at e; omega
   rw [x3i a l i b c h n]
   generalize y86 (a.take i) (l.take i)=O at*
   cases b with
   |false=>simp only [w2z,z0k,z0l,z0a,z0e,z0x,z2o,z0a,z05,z2f,z7r,z47,z0q,Int.reduceLT,Int.reduceEq,Int.reduceLE,f,p,k,d,g,j,eCp,eAg,if_false]
   |true=>
    have s:O.length+1≤1000000:=by omega
    have q:(O.map (eC fl)).take O.length=O.map (eC fl):=eBd (by simp)
    simp only [w2z,z0k,z0l,z0a,z0e,z0x,z2o,z0a,z0e,z05,z2f,z7r,z47,z0q,Int.reduceLT,Int.reduceEq,Int.reduceLE,f,p,k,d,g,j,o,s,q,eAj,eBz]
    simp [eC,z0e,q,s]
    simpa using k,trivial⟩)
  (fun _ _=>⟨(z0a fl (y86 a l),()),by
   have m:¬ (l.length:Int)<l.length:=by omega
   rw [eBi, ←j,eBi,j]
   simp only [w2z,z0k,z0l,z0a,m,if_false,z0q,Int.reduceLT,Int.reduceEq,Int.reduceLE],rfl⟩) () 0 (eAo _) trivial
 obtain ⟨r,v,rfl⟩:=key
 exact v
theorem u3o (l:List Cd) (x:Int) (k:Few l):G32 std (z0a fl l,(x,()))=some ((if y4g l x=0 then z0a fl (z4d x l) else []),(y4g l x,())):=by
 have a:=y7v (fl:=fl) l k
 have c:=y3a x
 unfold G32 y4g
 by_cases h:z0w l=0
 ·by_cases i:z5s x
  ·have j:=(z1u h).1
   have m:=v12 (fl:=fl) l x j k
   have g:=v1z (fl:=fl) l (flg x l) j (x1y x l)
   rw [x8b] at g
   have o:(0:Int)≤(l.length:Int):=by omega
   have n:(l.length:Int)≤1000000:=by omega
   have d:IntKind.i64.wrap ((l.length:Int) - 1)=(l.length:Int) - 1:=y8z _ (by omega) (by omega)
   have b:List.replicate l.length [D.bool false]=z05 (List.replicate l.length false):=by simp [z05,eBl]
   have e:(z0a fl l).length=l.length:=z0m l
   have f:(z05 (List.replicate l.length false)).length=l.length:=by simp [z05]
   simp only [z0k,z0l,z0q,Int.reduceLT,Int.reduceEq,Int.reduceLE,f,a,h,c,i,e,o,n,eCo,b,z3o,d,m,g,eDu,eAj,ne_eq,not_true,if_false,if_true]
  ·simp only [z0k,z0l,z0q,Int.reduceLT,Int.reduceEq,Int.reduceLE,a,h,c,i,ne_eq,not_true,if_false,if_true]
   try simp
 ·simp only [z0k,z0l,z0q,Int.reduceLT,Int.reduceEq,Int.reduceLE,a,h,ne_eq,not_false_eq_true,if_true,if_false]
end Go.Am
end
section
namespace Go.Am
open D12
variable {fl fl':List Int→Bool}
def eBB (r:List Bool):List D:=[.list false 1 (z05 r)]
def z4w (M:List (List Bool)):List (List D):=M.map eBB
theorem x5i (r:List Bool):z2b [CK.list 1] (eBB r)=true:=rfl
theorem v3f (r:List Bool):dL ((eBB r)[0]?.getD D.nilp)=z05 r:=rfl
def z5y (l:List Cd) (B:Cd→Cd→Bool):List (List Bool):=l.map fun d=>l.map fun c=>B d c
theorem u5u {l:List Cd} {B:Cd→Cd→Bool} {k:Nat} {d:Cd} (h:l[k]?=some d):(z4w (z5y l B))[k]?=some (eBB (l.map fun c=>B d c)):=by
 unfold z4w z5y
 rw [eAf,eAf,h]; rfl
def v8d (l rem:List Cd) (a:List Bool):Prop:=a.length=l.length∧∀ (k:Nat) (d:Cd),l[k]?=some d→a[k]?=some (!decide (d∈rem))
theorem x9s {α:Type} (q:α→Bool):∀ (l:List α) (b:Bool),l.foldl (fun b p=>b&&q p) b=(b&&l.all q)
 |[],b=>by simp
 |x::l,b=>by rw [eCj,x9s q l,List.all_cons,Bool.and_assoc]
theorem w96 {B:Cd→Cd→Bool} {l rem:List Cd} (e:∀ x∈rem,x∈l) (c:Cd):(l.all fun d=>!B d c||!decide (d∈rem))=z7p B rem c:=by
 rw [eBx,z4f,eAx]
 constructor
 ·intro h d a
  have:=h d (e d a)
  simpa [a] using this
 ·intro h d a
  by_cases b:d∈rem
  ·simp [h d b]
  ·simp [b]
theorem v1k (g:List Bool) (O:List (List D)) (l rem:List Cd) (B:Cd→Cd→Bool) (y36:Int) (i:Nat) {c:Cd} (q:l[i]?=some c) (x:v8d l rem g) (y:l.length≤1000) (b:Bool):
  z1e (x7q std) (z05 g,(O,(z0a fl l,(z4w (z5y l B),(y36,((i:Int),(b,((0:Int),()))))))))=some (z05 g,(O,(z0a fl l,(z4w (z5y l B),(y36,((i:Int),(b&&l.all fun d=>!B d c||!decide (d∈rem),()))))))):=by
 have w:i<l.length:=(eAa.1 q).1
 have u:(0:Int)≤(i:Int):=by omega
 have t:(i:Int)<(l.length:Int):=by omega
 obtain ⟨e,o⟩:=x
 have key:=z3z (b:=x7q std) l (fun (b:Bool) k=>(z05 g,(O,(z0a fl l,(z4w (z5y l B),(y36,((i:Int),(b,((k:Int),()))))))))) (fun b d=>b&&(!B d c||!decide (d∈rem))) (fun _ _=>True) (fun b=>(z05 g,(O,(z0a fl l,(z4w (z5y l B),(y36,((i:Int),(b,()))))))))
  (fun b k d n _=>by
   have v:k<l.length:=(eAa.1 n).1
   obtain ⟨j,r⟩:=stp k (by omega)
   have a:(k:Int)<l.length:=by omega
   have f:=u5u (B:=B) n
   have p:=v2t (o k d n)
   refine ⟨?_,trivial⟩
   cases b with
   |false=>simp only [x7q,z0k,z0l,z0a,z0e,z0x,z2o,z0a,z05,z0q,Int.reduceLT,Int.reduceEq,Int.reduceLE,a,r,j,e,Bool.false_and,eAg,if_false]
   |true=>
    cases s:B d c with
    |false=>simp only [x7q,z0k,z0l,z0a,z0e,z0x,z2o,z0a,z05,z2f,z7r,x5i,v3f,z47,z0q,Int.reduceLT,Int.reduceEq,Int.reduceLE,a,r,u,t,j,e,f,q,s,Bool.true_and,eDd,Bool.true_or,eAg,if_false,if_true]
    |true=>simp only [x7q,z0k,z0l,z0a,z0e,z0x,z2o,z0a,z05,z2f,z7r,x5i,v3f,z47,z0q,Int.reduceLT,Int.reduceEq,Int.reduceLE,a,r,u,t,j,e,f,p,q,s,Bool.true_and,eDl,Bool.false_or,eAg,if_false,if_true])
  (fun b _=>by
   have m:¬ (l.length:Int)<l.length:=by omega
   simp only [x7q,z0k,z0l,z0m,m,if_false,z0q,Int.reduceLT,Int.reduceEq,Int.reduceLE]) b trivial
 have h:=key.1
 rw [x9s] at h
 exact h
theorem v1l (y:List Bool) (O:List (List D)) (l rem:List Cd) {B:Cd→Cd→Bool} (L:v8d l rem y) (Q:l.length≤1000) (S:Inj l) (q:∀ x∈rem,x∈l) {c0:Cd} (T:y36 B rem=some c0):
  ∃ k:Nat,z1e (x2h std) (z05 y,(O,(z0a fl l,(z4w (z5y l B),((-1:Int),((0:Int),()))))))=some (z05 y,(O,(z0a fl l,(z4w (z5y l B),((k:Int),())))))∧l[k]?=some c0:=by
 have key:=z09 (b:=x2h std) l.length (fun (b:Int) j=>(z05 y,(O,(z0a fl l,(z4w (z5y l B),(b,((j:Int),())))))))
  (fun b j=>w70 B l rem b j) (fun r=>∃ k:Nat,r=(z05 y,(O,(z0a fl l,(z4w (z5y l B),((k:Int),())))))∧l[k]?=some c0)
  (fun b j R v=> .inl (by
   obtain ⟨d,a⟩:=z0i R
   obtain ⟨z,H⟩:=stp j (by omega)
   have f:(j:Int)<l.length:=by omega
   have m:=v2t (L.2 j d a)
   have g:=L.1
   have p:=v1k (fl:=fl) y O l rem B b j a L Q (decide (d∈rem))
   rw [w96 q] at p
   have o:=y3l (fl:=fl) a
   by_cases hm:d∈rem
   ·by_cases E:z7p B rem d=true
    ·simp only [hm,E,decide_true,eDy,z05,z0a] at p
     rcases v with ⟨rfl,v⟩|⟨k,c,rfl,I,P,M,N,F⟩
     ·refine ⟨(j:Int),?_, .inr ⟨j,d,rfl,by omega,a,hm,E,fun i e u he w G=>?_⟩⟩
      ·simp only [x2h,z0k,z0l,z0a,z0e,z0x,z2o,z05,z0a,z2f,z7r,z47,z0q,Int.reduceLT,Int.reduceEq,Int.reduceLE,f,H,z,m,g,hm,p,decide_true,eDl,eAg,if_false,if_true]
      ·rcases eCf i j with h|h
       ·exact (v i e h he w G).elim
       ·have:i=j:=by omega
        subst this
        rw [a] at he; cases he; exact eCo _
     ·have t:=y3l (fl:=fl) P
      have C:¬ (k:Int)<0:=by omega
      have A:(0:Int)≤(k:Int):=by omega
      by_cases s:d.n<c.n
      ·refine ⟨(j:Int),?_, .inr ⟨j,d,rfl,by omega,a,hm,E,fun i e u he w G=>?_⟩⟩
       ·simp only [x2h,z0k,z0l,z0a,z0e,z0x,z2o,z05,z0a,z2f,z7r,z47,z0q,Int.reduceLT,Int.reduceEq,Int.reduceLE,f,H,z,m,g,hm,p,o,t,C,A,s,decide_true,eDl,eAg,if_false,if_true]
       ·rcases eCf i j with h|h
        ·have:=F i e h he w G; omega
        ·have:i=j:=by omega
         subst this
         rw [a] at he; cases he; exact eCo _
      ·refine ⟨(k:Int),?_, .inr ⟨k,c,rfl,by omega,P,M,N,fun i e u he w G=>?_⟩⟩
       ·simp only [x2h,z0k,z0l,z0a,z0e,z0x,z2o,z05,z0a,z2f,z7r,z47,z0q,Int.reduceLT,Int.reduceEq,Int.reduceLE,f,H,z,m,g,hm,p,o,t,C,A,s,decide_true,eDl,eAg,if_false,if_true]
       ·rcases eCf i j with h|h
        ·exact F i e h he w G
        ·have:i=j:=by omega
         subst this
         rw [a] at he; cases he; omega
    ·have K:z7p B rem d=false:=by simpa using E
     simp only [hm,K,decide_true,Bool.and_false,z05,z0a] at p
     refine ⟨b,?_,y07 v a fun h=>E h.2⟩
     simp only [x2h,z0k,z0l,z0a,z0e,z0x,z2o,z05,z0a,z2f,z7r,z47,z0q,Int.reduceLT,Int.reduceEq,Int.reduceLE,f,H,z,m,g,hm,p,decide_true,eDl,eAg,if_false,if_true]
   ·simp only [hm,decide_false,Bool.false_and,z05,z0a] at p
    refine ⟨b,?_,y07 v a fun h=>hm h.1⟩
    simp only [x2h,z0k,z0l,z0a,z0e,z0x,z2o,z05,z0a,z2f,z7r,z47,z0q,Int.reduceLT,Int.reduceEq,Int.reduceLE,f,H,z,m,g,hm,p,decide_false,eDd,eAg,if_false,if_true]))
  (fun b v=>by
   obtain ⟨k,rfl,I⟩:=x5p S q v T
   have J:¬ (l.length:Int)<l.length:=by omega
   exact ⟨_,by simp only [x2h,z0k,z0l,z0m,J,if_false,z0q,Int.reduceLT,Int.reduceEq,Int.reduceLE],k,rfl,I⟩) (-1) 0 (eAo _) (.inl ⟨rfl,fun i d u=>by omega⟩)
 obtain ⟨r,w,k,rfl,I⟩:=key
 exact ⟨k,w,I⟩
structure v7y (B:Cd→Cd→Bool) (g:List Cd) (t:List Cd×List Cd×List Bool) (i:Nat):Prop where
 len:t.2.1.length+i=g.length
 olen:t.1.length=i
 sub:∀ x∈t.2.1,x∈g
 nd:t.2.1.Nodup
 done:v8d g t.2.1 t.2.2
 res:t.1++lst B t.2.1.length t.2.1=lst B g.length g
theorem w1y {B:Cd→Cd→Bool} {g:List Cd} (f:(g.map (·.n)).Nodup) {t:List Cd×List Cd×List Bool} {i:Nat} (h:v7y B g t i) {c:Cd} (p:y36 B t.2.1=some c) {k:Nat} (l:g[k]?=some c):
  v7y B g (t.1++[c],rm c t.2.1,t.2.2.set k true) (i+1):=by
 have s:=z2j f
 have u:=((y35 B (s.sub h.sub)).1 p).1
 have b:=y6c h.nd u
 have r:k<g.length:=(eAa.1 l).1
 have m:=h.done.1
 refine ⟨?_,by simp [h.olen],fun x q=>h.sub x (z5d.1 q).1,h.nd.filter _,⟨by simp [m],fun j d a=>?_⟩,?_⟩
 ·have:=h.len; simp only; omega
 ·simp only
  by_cases e:k=j
  ·subst e
   rw [l] at a; cases a
   rw [eBu,if_pos rfl,if_pos (by omega)]
   simp [z5d]
  ·rw [eDj e,h.done.2 j d a]
   have o:d≠c:=by
    rintro rfl
    exact e ((y1b f l).symm.trans (y1b f a))
   simp [z5d,o]
 ·simp only
  rw [←h.res, ←b]
  conv=>rhs; rw [lst]
  rw [p]
  simp only [eCr,List.singleton_append,Nat.add_sub_cancel]
theorem u3h (l:List Cd) {B:Cd→Cd→Bool} (M:l.length≤1000) (u:(l.map (·.n)).Nodup) (o:u5f B l):
  G69 std (z0a fl l,(z4w (z5y l B),()))=some (z0a fl (lst B l.length l),()):=by
 have N:=z2j u
 have key:=z09 (b:=w62 std) l.length (fun (t:List Cd×List Cd×List Bool) (i:Nat)=>(z05 t.2.2,(z0a fl t.1,(z0a fl l,(z4w (z5y l B),())))))
  (v7y B l) (fun r=>r=(z0a fl (lst B l.length l),()))
  (fun t i L a=> .inl (by
   have s:t.2.1≠[]:=by intro e; have:=a.len; rw [e] at this; simp at this; omega
   obtain ⟨c,H⟩:=o t.2.1 a.sub s
   obtain ⟨k,I,d⟩:=v1l (fl:=fl) t.2.2 (z0a fl t.1) l t.2.1 a.done M N a.sub H
   have m:k<l.length:=(eAa.1 d).1
   refine ⟨(t.1++[c],rm c t.2.1,t.2.2.set k true),?_,w1y u a H d⟩
   have f:=y3l (fl:=fl) d
   have C:std.rdF (l.map (eC fl)) k 2 1=fl c.t:=u4k d
   have y:(0:Int)≤(k:Int):=by omega
   have w:(k:Int)<(l.length:Int):=by omega
   have G:=a.olen
   have z:=a.done.1
   have A:=v2t (a.done.2 k c d)
   have j:(i:Int)<(l.length:Int):=by omega
   have p:i+1≤1000000:=by omega
   have F:(t.1.map (eC fl)).length=i:=by simp [G]
   have J:(t.1.map (eC fl)).take i=t.1.map (eC fl):=by rw [←F,eBi]
   have K:(t.2.2.map eBl).set k [D.bool true]=(t.2.2.set k true).map eBl:=by
    rw [show ([D.bool true])=eBl true from rfl, ←eFe]
   simp only [z0a,z0e,z05] at I
   simp only [w62,z0k,z0l,z0a,z0e,z0x,z2o,z0a,z0e,z05,z2f,z0q,Int.reduceLT,Int.reduceEq,Int.reduceLE,G,j,I,f,C,z,A,y,w,K,p,F,J,eAq,eAj,eBz,eCd]
   simp [eC,z0e,p,F,J]))
  (fun t a=>⟨(z0a fl t.1,()),by
   have q:¬ (l.length:Int)<l.length:=by omega
   simp only [w62,z0k,z0l,z0m,a.olen,q,if_false,z0q,Int.reduceLT,Int.reduceEq,Int.reduceLE],by
   have O:t.2.1=[]:=eBr.1 (by have:=a.len; omega)
   have:=a.res
   rw [O] at this
   simp only [eDn,lst,eCp] at this
   simp only [this]⟩) ([],l,List.replicate l.length false) 0 (eAo _) ⟨by simp,rfl,fun x h=>h,z3x u,⟨by simp,fun k c d=>by
    have m:=(eAa.1 d).1
    rw [eCe,if_pos m]
    simp [eAi d]⟩,rfl⟩
 obtain ⟨r,E,rfl⟩:=key
 have p:(0:Int)≤(l.length:Int):=by omega
 have P:(l.length:Int)≤1000000:=by omega
 have g:List.replicate l.length [D.bool false]=z05 (List.replicate l.length false):=by simp [z05,eBl]
 have v:(z0a fl l).length=l.length:=z0m l
 have E:z1e (w62 std) (z05 (List.replicate l.length false),([],(z0a fl l,(z4w (z5y l B),()))))=_:=E
 unfold G69
 simp only [z0k,z0l,z0q,Int.reduceLT,Int.reduceEq,Int.reduceLE,v,p,P,eCo,g,E,eDu,eAj,if_true]
 simp [z05]
end Go.Am
end
section
namespace Go.Am
open D12
noncomputable abbrev PZ:Program:=PG
noncomputable def EZ:Env:=autoEnvE [] PZ
theorem hEZ:EnvOk PZ EZ:=autoEnvE_ok follows_mixed
theorem hTZ:y1c PZ EZ.T:=hEZ.ti
def gZ:Nat→Option (List D):=fun _=>none
theorem t2b:GOk PZ gZ:=fun _ _ h=>by cases h
def u4g:TI:=⟨1,24,false,[.list true 0 []], .slc 98 1 24 false [.list true 0 []],none⟩
def t1q:TI:=⟨1,24,false,[.list true 0 []], .slc 4 1 1 false [.bool false],none⟩
def ti4:TI:=⟨1,1,false,[.bool false], .bool,some [.b]⟩
theorem x72:EZ.T 96=some u4g:=by kernel_rfl
theorem w3q:EZ.T 98=some t1q:=by kernel_rfl
theorem u5k:EZ.T 4=some ti4:=by kernel_rfl
noncomputable def cdZ (f:Nat) (pos:List Bool):Code:=(z1v PZ f pos).getD .skip
noncomputable def y8i (f:Nat) (pos:List Bool):Array Oper:=
 match cdZ f pos with
 | .region _ ops _=>ops
 |_=>#[]
theorem z6m {f:Nat} {p:List Bool} {i:Nat} {dst:Option Tmp} {op:Op} (h:((y8i f p)[i]?.map fun o=>(o.dst,o.op,o.guard))=some (dst,op,none)):∃ o,(y8i f p)[i]?=some o∧o.dst=dst∧o.op=op∧o.guard=none:=by
 cases a:(y8i f p)[i]? with
 |none=>rw [a] at h; cases h
 |some o=>
  rw [a] at h
  simp only [eAw,Option.some.injEq,Prod.mk.injEq] at h
  exact ⟨o,rfl,h.1,h.2.1,h.2.2⟩
theorem osZ {ops:Array Oper} {i:Nat} {rest:List Nat} {s:AS} {Q:AS→Prop} {o:Oper} {dst:Option Tmp} {op:Op} (d:ops[i]?=some o∧o.dst=dst∧o.op=op∧o.guard=none)
  {q:Bool} {r:List D} {ra:List AV} {res:Res} (a:(z1q std EZ.T s.env s.heap op).ok q r ra) (b:z01 std EZ.T gZ s.env s.heap s.heap.length q r ra op=some res) (f:res.c=true) (e:z5g s.nt dst=true)
  (h:y4a PZ 0 ops rest (z5l s dst res.v res.u) Q):y4a PZ 0 ops (i::rest) s Q:=by
 obtain ⟨g,rfl,rfl,hg⟩:=d
 exact x3y hTZ t2b g (by rw [hg]; rfl) (eAo _) a b f e h
theorem x3r {f:Nat} {c:Code} {pos:List Bool} {b:SS} {e:AX} {a:SS} (d:z1v PZ f pos=some c) (h:sym opt std EZ (u5w opt) 20 (AX×SS) 0 f pos c b (fun e s=>some (e,s))=some (e,a)):
  z54 PZ 0 c b.s (fun k g=>k=e∧g=a.s):=by
 obtain ⟨m,l,_,j,i⟩:=x74 hEZ v5a 20 (AX×SS) 0 f pos c b _ _ d (eAo _) h
 cases i; exact j
noncomputable abbrev w1h (f nt:Nat) (pos:List Bool) (env:List (Nat×AV)) (h:List AO):Option (AX×SS):=sym opt std EZ (u5w opt) 20 (AX×SS) 0 f pos (cdZ f pos) ⟨⟨env,h,nt⟩,[]⟩ fun e s=>some (e,s)
theorem z2a {env' env:List (Nat×AV)} (h:∀ x∈env',z00 env x.1=x.2):v2n env' env:=by
 intro t
 induction env' with
 |nil=>exact .inl rfl
 |cons x r a=>
  obtain ⟨k,v⟩:=x
  simp only [z00]
  cases c:Nat.beq k t with
  |true=>
   have:=eAd c
   subst this
   exact .inr (h (k,v) (eAu ..)).symm
  |false=>exact a fun x b=>h x (eBc _ b)
theorem y9d {h:List AO} {k:Nat} (a:h.length=k) (o:AO):(z03 h k o).length=k+1:=by
 subst a
 have b:=z1w h h.length o
 have:(z03 h h.length o).length=h.length+1:=by rw [x1i]; simp
 exact this
def z97 (n i:Nat):List (List AV):=(List.range i).map fun j=>[AV.slice (3*j) 1 0 n (some n)]
theorem x3m (n i:Nat):(z97 n i).length=i:=by simp [z97]
theorem w1i (n i:Nat):z97 n (i+1)=z97 n i++[[AV.slice (3*i) 1 0 n (some n)]]:=by simp [z97,List.range_succ]
def x6v (i:Nat):AV:=if i=0 then .d (.list true 0 []) else .slice (3*i - 1) 1 0 i none
def hpT (n:Nat):Nat→List AO
 |0=>[]
 |i+1=>z07 (z07 (z07 (hpT n i) [(3*i, .row (List.replicate n [.bool false]))]) [(3*i+1, .arow [[.slice (3*i) 1 0 n (some n)]])]) (if i=0 then [(3*i+2, .arow (z97 n (i+1)))] else [(3*i - 1, .dead),(3*i+2, .arow (z97 n (i+1)))])
structure FamT (h:List AO) (n i:Nat):Prop where
 len:h.length=3*i
 arr:0<i→z0f h (3*i - 1)= .arow (z97 n i)
 row:∀ j,j<i→z0f h (3*j)= .row (List.replicate n [.bool false])
theorem u9v (n:Nat):∀ i,FamT (hpT n i) n i
 |0=>⟨rfl,fun h=>by omega,fun j h=>by omega⟩
 |i+1=>by
  have g:=u9v n i
  have o:=g.len
  have m:=y9d o (.row (List.replicate n [.bool false]))
  have f:=y9d m (.arow [[.slice (3*i) 1 0 n (some n)]])
  have c:∀ j,j≠3*i→z0f (z03 (hpT n i) (3*i) (.row (List.replicate n [.bool false]))) j=z0f (hpT n i) j:=fun j d=>z0c _ _ _ _ (Ne.symm d)
  have b:∀ j,j≠3*i+1→z0f (z03 (z03 (hpT n i) (3*i) (.row (List.replicate n [.bool false]))) (3*i+1) (.arow [[.slice (3*i) 1 0 n (some n)]])) j=z0f (z03 (hpT n i) (3*i) (.row (List.replicate n [.bool false]))) j:=fun j d=>z0c _ _ _ _ (Ne.symm d)
  have a:z0f (z03 (hpT n i) (3*i) (.row (List.replicate n [.bool false]))) (3*i)= .row (List.replicate n [.bool false]):=z0h _ _ _
  simp only [hpT,z07]
  generalize z03 (z03 (hpT n i) (3*i) (.row (List.replicate n [.bool false]))) (3*i+1) (.arow [[.slice (3*i) 1 0 n (some n)]])=p at*
  generalize z03 (hpT n i) (3*i) (.row (List.replicate n [.bool false]))=q at*
  by_cases k:i=0
  ·subst k
   simp only [if_true,z07]
   refine ⟨by rw [y9d f],fun _=>?_,fun j d=>?_⟩
   ·show z0f _ 2=_; exact z0h _ _ _
   ·have:j=0:=by omega
    subst this
    rw [z0c _ _ _ _ (by omega),b _ (by omega)]; exact a
  ·rw [if_neg k]
   simp only [z07]
   have l:(z03 p (3*i - 1) .dead).length=3*i+1+1:=by rw [z3p _ _ _ (by omega)]; exact f
   refine ⟨by rw [y9d l]; omega,fun _=>?_,fun j d=>?_⟩
   ·rw [show 3*(i+1) - 1=3*i+2 by omega]; exact z0h _ _ _
   ·rw [z0c _ _ _ _ (by omega),z0c _ _ _ _ (by omega),b _ (by omega)]
    by_cases e:j=i
    ·subst e; exact a
    ·rw [c _ (by omega)]; exact g.row j (by omega)
def mkT (n m i:Nat):List (Nat×AV):=[(0, .d (.int .i64 n)),(3,x6v m),(4, .d (.int .i64 i))]
def pT:List Bool:=[false,true,false,true,true]
def pTB:List Bool:=false::pT
def pT5:List Bool:=[false,false,true]++pTB
theorem mkSl {env:List (Nat×AV)} {h:List AO} {new a n:Nat} (b:z00 env a= .d (.int .i64 (n:Int))):
  z01 std EZ.T gZ env h new false [] [] (.makeSlice 98 (.tmp a) (.tmp a))=some ⟨std.and (std.cmp .geq (n:Int) 0) (std.and (std.cmp .leq (n:Int) n) (std.cmp .leq (n:Int) 1000000)), .slice new 1 0 n (some n),[(new, .row (List.replicate n [.bool false]))]⟩:=by
 simp only [z01,w3q,z0p,b]
 rfl
theorem litT {env:List (Nat×AV)} {h:List AO} {new c x n:Nat} (a:z00 env c= .slice x 1 0 n (some n)):
  z01 std EZ.T gZ env h new false [] [] (.buildSlice 96 1 #[(0, .tmp c)])=some ⟨true, .slice new 1 0 1 (some 1),[(new, .arow [[.slice x 1 0 n (some n)]])]⟩:=by
 simp only [z01,x72]
 show z3u u4g new 1 [(0,z00 env c)] []=_
 rw [a]; rfl
theorem w8c {env:List (Nat×AV)} {h:List AO} {a c:Nat} (b:z00 env a= .d (.list true 0 [])):(z1q std EZ.T env h (.call ⟨.builtin .append,#[.tmp a, .tmp c],#[96,96]⟩)).ok true [] []:=by
 show (match [z00 env a,z00 env c] with|[s,x]=>w3m (z3n std s x)|_=> .none).ok true [] []
 rw [b]; rfl
theorem w8b {env:List (Nat×AV)} {h:List AO} {a c id l:Nat} (b:z00 env a= .slice id 1 0 l none):(z1q std EZ.T env h (.call ⟨.builtin .append,#[.tmp a, .tmp c],#[96,96]⟩)).ok false [] []:=by
 show (match [z00 env a,z00 env c] with|[s,x]=>w3m (z3n std s x)|_=> .none).ok false [] []
 rw [b]; exact trivial
theorem v7t {env:List (Nat×AV)} {h:List AO} {new a c lit x n:Nat} (f:z00 env a= .d (.list true 0 [])) (e:z00 env c= .slice lit 1 0 1 (some 1)) (b:z0f h lit= .arow [[.slice x 1 0 n (some n)]]):
  z01 std EZ.T gZ env h new true [] [] (.call ⟨.builtin .append,#[.tmp a, .tmp c],#[96,96]⟩)=some ⟨true, .slice new 1 0 1 none,[(new, .arow [[.slice x 1 0 n (some n)]])]⟩:=by
 show z1m std EZ.T h new true [] .append [96,96] [z00 env a,z00 env c]=_
 rw [f,e]
 simp only [z1m,x72,u4g,z2q,z2r,z1z,z2y,b]
 rfl
theorem v7s {env:List (Nat×AV)} {h:List AO} {new a c lit id x n m:Nat} {E:List (List AV)} (e:z00 env a= .slice id 1 0 m none) (d:z00 env c= .slice lit 1 0 1 (some 1)) (b:z0f h lit= .arow [[.slice x 1 0 n (some n)]]) (hid:z0f h id= .arow E) (hE:E.length=m) (j:m≤100000):
  z01 std EZ.T gZ env h new false [] [] (.call ⟨.builtin .append,#[.tmp a, .tmp c],#[96,96]⟩)=some ⟨true, .slice new 1 0 (m+1) none,[(id, .dead),(new, .arow (E++[[.slice x 1 0 n (some n)]]))]⟩:=by
 show z1m std EZ.T h new false [] .append [96,96] [z00 env a,z00 env c]=_
 rw [e,d]
 have i:std.leN (std.add 0 m) E.length=true:=by
  show Nat.ble (0+m) E.length=true
  exact eBj (by omega)
 have g:std.leN (std.add m 1) y25=true:=by
  show Nat.ble (m+1) 1000000=true
  exact eBj (by omega)
 have f:(E.drop 0).take m=E:=by rw [eBz]; exact eBd (by omega)
 simp only [z1m,x72,u4g,z2q,z2r,z1z,z2y,b,hid,z7b,i,g,f]
 rfl
theorem v81 {n i:Nat} (P:n≤100000) (R:i<n) {Q:AS→Prop} (k:Q ⟨mkT n (i+1) i,hpT n (i+1),16⟩):y4a PZ 0 (y8i 68 pT5) (List.range (y8i 68 pT5).size) ⟨mkT n i i,hpT n i,16⟩ (fun s=>∃ s',z5z 0 s s'∧Q s'):=by
 have H:List.range (y8i 68 pT5).size=[0,1,2,3,4,5]:=by kernel_rfl
 obtain ⟨N,G⟩:=z6m (f:=68) (p:=pT5) (i:=0) (dst:=some 10) (op:= .move (.tmp 3)) (by kernel_rfl)
 obtain ⟨w1,F⟩:=z6m (f:=68) (p:=pT5) (i:=1) (dst:=some 11) (op:= .move (.tmp 0)) (by kernel_rfl)
 obtain ⟨M,E⟩:=z6m (f:=68) (p:=pT5) (i:=2) (dst:=some 12) (op:= .makeSlice 98 (.tmp 11) (.tmp 11)) (by kernel_rfl)
 obtain ⟨L,C⟩:=z6m (f:=68) (p:=pT5) (i:=3) (dst:=some 13) (op:= .buildSlice 96 1 #[(0, .tmp 12)]) (by kernel_rfl)
 obtain ⟨K,w⟩:=z6m (f:=68) (p:=pT5) (i:=4) (dst:=some 14) (op:= .call ⟨.builtin .append,#[.tmp 10, .tmp 13],#[96,96]⟩) (by kernel_rfl)
 obtain ⟨J,v⟩:=z6m (f:=68) (p:=pT5) (i:=5) (dst:=some 3) (op:= .assign (.tmp 14)) (by kernel_rfl)
 have B:=u9v n i
 have I:std.and (std.cmp .geq (n:Int) 0) (std.and (std.cmp .leq (n:Int) n) (std.cmp .leq (n:Int) 1000000))=true:=by
  rw [y1r,w3y,w3y,y3k,y3k,decide_eq_true (show (n:Int)≥0 by omega),decide_eq_true (eCo _),decide_eq_true (show (n:Int)≤1000000 by omega)]; rfl
 have A:=B.len
 have z:=y9d A (.row (List.replicate n [.bool false]))
 have y:=y9d z (.arow [[.slice (3*i) 1 0 n (some n)]])
 have c:∀ j,j≠3*i→z0f (z03 (hpT n i) (3*i) (.row (List.replicate n [.bool false]))) j=z0f (hpT n i) j:=fun j o=>z0c _ _ _ _ (Ne.symm o)
 have b:∀ j,j≠3*i+1→z0f (z03 (z03 (hpT n i) (3*i) (.row (List.replicate n [.bool false]))) (3*i+1) (.arow [[.slice (3*i) 1 0 n (some n)]])) j=z0f (z03 (hpT n i) (3*i) (.row (List.replicate n [.bool false]))) j:=fun j o=>z0c _ _ _ _ (Ne.symm o)
 have a:z0f (z03 (z03 (hpT n i) (3*i) (.row (List.replicate n [.bool false]))) (3*i+1) (.arow [[.slice (3*i) 1 0 n (some n)]])) (3*i+1)= .arow [[.slice (3*i) 1 0 n (some n)]]:=z0h _ _ _
 have t:hpT n (i+1)=z07 (z03 (z03 (hpT n i) (3*i) (.row (List.replicate n [.bool false]))) (3*i+1) (.arow [[.slice (3*i) 1 0 n (some n)]])) (if i=0 then [(3*i+2, .arow (z97 n (i+1)))] else [(3*i - 1, .dead),(3*i+2, .arow (z97 n (i+1)))]):=rfl
 rw [t] at k
 have O:List.replicate n [D.bool false]=List.replicate n [.bool false]:=rfl
 rw [H]
 refine osZ G (q:=false) (r:=[]) (ra:=[]) (res:=⟨true,x6v i,[]⟩) trivial rfl rfl rfl ?_
 refine osZ F (q:=false) (r:=[]) (ra:=[]) (res:=⟨true, .d (.int .i64 n),[]⟩) trivial rfl rfl rfl ?_
 refine osZ E (q:=false) (r:=[]) (ra:=[]) (res:=⟨std.and (std.cmp .geq (n:Int) 0) (std.and (std.cmp .leq (n:Int) n) (std.cmp .leq (n:Int) 1000000)), .slice (3*i) 1 0 n (some n),[(3*i, .row (List.replicate n [.bool false]))]⟩) trivial ((mkSl (n:=n) rfl).trans (by rw [show (z5l (z5l (⟨mkT n i i,hpT n i,16⟩:AS) (some 10) (x6v i) []) (some 11) (.d (.int .i64 n)) []).heap.length=3*i from A])) I rfl ?_
 refine osZ C (q:=false) (r:=[]) (ra:=[]) (res:=⟨true, .slice (3*i+1) 1 0 1 (some 1),[(3*i+1, .arow [[.slice (3*i) 1 0 n (some n)]])]⟩) trivial ((litT (x:=3*i) (n:=n) rfl).trans (by
  show some (⟨true, .slice (z03 (hpT n i) (3*i) (.row (List.replicate n [.bool false]))).length 1 0 1 (some 1),[((z03 (hpT n i) (3*i) (.row (List.replicate n [.bool false]))).length, .arow [[.slice (3*i) 1 0 n (some n)]])]⟩:Res)=_
  rw [z])) rfl rfl ?_
 show y4a PZ 0 _ [4,5] ⟨_,z03 (z03 (hpT n i) (3*i) (.row (List.replicate n [.bool false]))) (3*i+1) (.arow [[.slice (3*i) 1 0 n (some n)]]),16⟩ _
 generalize z03 (z03 (hpT n i) (3*i) (.row (List.replicate n [.bool false]))) (3*i+1) (.arow [[.slice (3*i) 1 0 n (some n)]])=u at*
 by_cases l:i=0
 ·subst l
  refine osZ w (q:=true) (r:=[]) (ra:=[]) (res:=⟨true, .slice 2 1 0 1 none,[(2, .arow [[.slice 0 1 0 n (some n)]])]⟩) (w8c rfl) ((v7t (x:=0) (n:=n) rfl rfl a).trans (by rw [y])) rfl rfl ?_
  refine osZ v (q:=false) (r:=[]) (ra:=[]) (res:=⟨true, .slice 2 1 0 1 none,[]⟩) trivial rfl rfl rfl ?_
  refine z7j ⟨_,?_,k⟩
  exact z5z.env (n:=0) (s:=⟨_,z03 u 2 (.arow [[.slice 0 1 0 n (some n)]]),16⟩) (z2a fun x e=>by
   simp only [mkT,eAm,eBg,or_false] at e
   rcases e with rfl|rfl|rfl<;>rfl)
 ·have g:x6v i= .slice (3*i - 1) 1 0 i none:=if_neg l
  have m:x6v (i+1)= .slice (3*i+2) 1 0 (i+1) none:=by unfold x6v; rw [if_neg (by omega),show 3*(i+1) - 1=3*i+2 by omega]
  have h:z0f u (3*i - 1)= .arow (z97 n i):=by rw [b _ (by omega),c _ (by omega)]; exact B.arr (by omega)
  refine osZ w (q:=false) (r:=[]) (ra:=[]) (res:=⟨true, .slice (3*i+2) 1 0 (i+1) none,[(3*i - 1, .dead),(3*i+2, .arow (z97 n (i+1)))]⟩) (w8b g) (by refine Eq.trans (v7s (x:=3*i) (n:=n) g rfl a h (x3m n i) (by omega)) ?_; rw [y,w1i]) rfl rfl ?_
  refine osZ v (q:=false) (r:=[]) (ra:=[]) (res:=⟨true, .slice (3*i+2) 1 0 (i+1) none,[]⟩) trivial rfl rfl rfl ?_
  rw [if_neg l] at k
  refine z7j ⟨_,?_,k⟩
  exact z5z.env (n:=0) (s:=⟨_,z07 u [(3*i - 1, .dead),(3*i+2, .arow (z97 n (i+1)))],16⟩) (z2a fun x e=>by
   simp only [mkT,m,eAm,eBg,or_false] at e
   rcases e with rfl|rfl|rfl<;>rfl)
theorem s68:cdZ 68 []= .seq (cdZ 68 [false]) (.seq (cdZ 68 [false,true]) (.seq (.seq (cdZ 68 [false,false,true,true]) (.block 0 (.loop (cdZ 68 pTB)))) (cdZ 68 [true,true,true]))):=by kernel_rfl
theorem sB68:cdZ 68 pTB= .seq (cdZ 68 (false::pTB)) (.seq (.block 1 (.region 5 (y8i 68 pT5) false)) (cdZ 68 ([true,true]++pTB))):=by kernel_rfl
theorem t0s:z1v PZ 68 [false]=some (cdZ 68 [false]):=by kernel_rfl
theorem t0r:z1v PZ 68 [false,true]=some (cdZ 68 [false,true]):=by kernel_rfl
theorem t0q:z1v PZ 68 [false,false,true,true]=some (cdZ 68 [false,false,true,true]):=by kernel_rfl
theorem u2h:z1v PZ 68 (false::pTB)=some (cdZ 68 (false::pTB)):=by kernel_rfl
theorem t0o:z1v PZ 68 ([true,true]++pTB)=some (cdZ 68 ([true,true]++pTB)):=by kernel_rfl
theorem t0n:z1v PZ 68 [true,true,true]=some (cdZ 68 [true,true,true]):=by kernel_rfl
theorem t0f (n:Int):w1h 68 16 [false] [(0, .d (.int .i64 n))] []=some (.normal,⟨⟨[(2, .d (.list true 0 [])),(0, .d (.int .i64 n))],[],16⟩,[]⟩):=by kernel_rfl
theorem t0e (n:Int):w1h 68 16 [false,true] [(0, .d (.int .i64 n))] []=some (.normal,⟨⟨[(3, .d (.list true 0 [])),(0, .d (.int .i64 n))],[],16⟩,[]⟩):=by kernel_rfl
theorem t0d (n:Int):w1h 68 16 [false,false,true,true] [(3, .d (.list true 0 [])),(0, .d (.int .i64 n))] []=some (.normal,⟨⟨[(4, .d (.int .i64 0)),(3, .d (.list true 0 [])),(0, .d (.int .i64 n))],[],16⟩,[]⟩):=by kernel_rfl
theorem u0t (n i:Int) (v:AV) (h:List AO):w1h 68 16 (false::pTB) [(0, .d (.int .i64 n)),(3,v),(4, .d (.int .i64 i))] h=opt.ask _ (std.cmp .lss i n)
  (some (.normal,⟨⟨[(7, .d (.bool true)),(6, .d (.int .i64 n)),(5, .d (.int .i64 i)),(0, .d (.int .i64 n)),(3,v),(4, .d (.int .i64 i))],h,16⟩,[]⟩))
  (some (.exit 0,⟨⟨[(7, .d (.bool false)),(6, .d (.int .i64 n)),(5, .d (.int .i64 i)),(0, .d (.int .i64 n)),(3,v),(4, .d (.int .i64 i))],h,16⟩,[]⟩)):=by kernel_rfl
theorem t0b (n i:Int) (v:AV) (h:List AO):w1h 68 16 ([true,true]++pTB) [(0, .d (.int .i64 n)),(3,v),(4, .d (.int .i64 i))] h=
  some (.normal,⟨⟨[(4, .d (.int .i64 (std.ar .add .i64 i 1))),(9, .d (.int .i64 (std.ar .add .i64 i 1))),(8, .d (.int .i64 i)),(0, .d (.int .i64 n)),(3,v),(4, .d (.int .i64 i))],h,16⟩,[]⟩):=by kernel_rfl
theorem t0a (n i:Int) (v:AV) (h:List AO):w1h 68 16 [true,true,true] [(0, .d (.int .i64 n)),(3,v),(4, .d (.int .i64 i))] h=
  some (.ret,⟨⟨[(2,v),(15,v),(0, .d (.int .i64 n)),(3,v),(4, .d (.int .i64 i))],h,16⟩,[]⟩):=by kernel_rfl
theorem wrZ {i:Nat} (h:i≤1000000):std.ar .add .i64 (i:Int) 1=((i+1:Nat):Int):=by rw [z79]; exact z8w (by omega)
theorem v9q {n:Nat} (f:n≤100000) {Q:AX→AS→Prop} (h:Q (.exit 0) ⟨mkT n n n,hpT n n,16⟩):z54 PZ 0 (.loop (cdZ 68 pTB)) ⟨mkT n 0 0,hpT n 0,16⟩ Q:=by
 let ι:={ i:Nat // i≤n }
 let I:ι→AS:=fun g=>⟨mkT n g.1 g.1,hpT n g.1,16⟩
 refine y23 (ι:=ι) I (fun g=>n - g.1) (fun _ _=>rfl) ?_ ⟨0,eAo _⟩
 rintro ⟨i,j⟩
 rw [sB68]
 refine z1o ?_
 by_cases b:i<n
 ·have d:std.cmp .lss ((i:Nat):Int) (n:Int)=true:=by rw [z7v]; exact decide_eq_true (by omega)
  refine (x3r u2h ((u0t n i (x6v i) (hpT n i)).trans (by rw [d]; rfl))).mono ?_
  rintro e s ⟨rfl,rfl⟩
  refine z2l (s':=⟨mkT n i i,hpT n i,16⟩) (z5z.env (n:=0) (s:=⟨_,hpT n i,16⟩) (z2a fun x a=>by
   simp only [mkT,eAm,eBg,or_false] at a
   rcases a with rfl|rfl|rfl<;>rfl)) (z1o (z27 (z2z (z5v ?_))))
  refine v81 f b (Q:=fun s'=>z54 PZ 0 (cdZ 68 ([true,true]++pTB)) s' _) ?_
  refine z2z ((x3r t0o (t0b n i (x6v (i+1)) (hpT n (i+1)))).mono ?_)
  rintro e s ⟨rfl,rfl⟩
  rw [wrZ (i:=i) (by omega)]
  exact ⟨⟨mkT n (i+1) ((i+1:Nat)),hpT n (i+1),16⟩,z5z.env (n:=0) (s:=⟨_,hpT n (i+1),16⟩) (z2a fun x a=>by
   simp only [mkT,eAm,eBg,or_false] at a
   rcases a with rfl|rfl|rfl<;>rfl),⟨⟨i+1,b⟩,rfl,by show n - (i+1)<n - i; omega⟩⟩
 ·have d:std.cmp .lss ((i:Nat):Int) (n:Int)=false:=by rw [z7v]; exact decide_eq_false (by omega)
  have c:i=n:=by omega
  subst c
  refine z2z ((x3r u2h ((u0t i i (x6v i) (hpT i i)).trans (by rw [d]; rfl))).mono ?_)
  rintro e s ⟨rfl,rfl⟩
  exact ⟨⟨mkT i i i,hpT i i,16⟩,z5z.env (n:=0) (s:=⟨_,hpT i i,16⟩) (z2a fun x a=>by
   simp only [mkT,eAm,eBg,or_false] at a
   rcases a with rfl|rfl|rfl<;>rfl),h⟩
theorem u2r {n:Nat} (h:n≤100000):z3m PZ 68 [.d (.int .i64 (n:Int))] [] (x6v n) (hpT n n):=by
 have f:∃ fn,PZ.funcs[68]?=some fn∧fn.body=some (cdZ 68 [])∧fn.ntmps=16∧fn.results.toList=[.tmp 2]:=by
  have:(PZ.funcs[68]?.map fun fn=>(fn.body,fn.ntmps,fn.results.toList))=some (some (cdZ 68 []),16,[.tmp 2]):=by kernel_rfl
  cases g:PZ.funcs[68]? with
  |none=>rw [g] at this; cases this
  |some fn=>
   rw [g] at this
   simp only [eAw,Option.some.injEq,Prod.mk.injEq] at this
   exact ⟨fn,rfl,this.1,this.2.1,this.2.2⟩
 obtain ⟨fn,i,j,c,b⟩:=f
 refine y0s hTZ i j c (by show 1≤16; omega) ?_
 rw [b,s68]
 refine z1o ((x3r t0s (t0f n)).mono ?_)
 rintro e s1 ⟨rfl,rfl⟩
 refine z2l (s':=⟨[(0, .d (.int .i64 n))],[],16⟩) (z5z.env (n:=0) (s:=⟨_,[],16⟩) (z2a fun x a=>by
   simp only [eAm,eBg,or_false] at a
   rcases a with rfl
   rfl)) ?_
 refine z1o ((x3r t0r (t0e n)).mono ?_)
 rintro e s1 ⟨rfl,rfl⟩
 refine z1o (z1o ((x3r t0q (t0d n)).mono ?_))
 rintro e s1 ⟨rfl,rfl⟩
 refine z2l (s':=⟨mkT n 0 0,hpT n 0,16⟩) (z5z.env (n:=0) (s:=⟨_,[],16⟩) (z2a fun x a=>by
   simp only [mkT,eAm,eBg,or_false] at a
   rcases a with rfl|rfl|rfl<;>rfl)) ?_
 refine z27 (v9q h ?_)
 simp only [if_true]
 refine (x3r t0n (t0a n n (x6v n) (hpT n n))).mono ?_
 rintro e s1 ⟨rfl,rfl⟩
 exact ⟨.inr rfl,rfl,rfl⟩
structure Mat (h:List AO) (o:Nat) (E:List (List AV)) (R:List (List Bool)) (N:Nat):Prop where
 olt:o<h.length
 arr:z0f h o= .arow E
 len:E.length=R.length
 cell:∀ (j:Nat) (row:List Bool),R[j]?=some row→∃ id:Nat,E[j]?=some [AV.slice id 1 0 N (some N)]∧z0f h id= .row (z05 row)∧row.length=N∧id≠o∧id<h.length
 inj:∀ (j j' id:Nat),E[j]?=some [AV.slice id 1 0 N (some N)]→E[j']?=some [AV.slice id 1 0 N (some N)]→j=j'
theorem mat0 {n:Nat} (h:0<n):Mat (hpT n n) (3*n - 1) (z97 n n) (List.replicate n (List.replicate n false)) n:=by
 have g:=u9v n n
 refine ⟨by rw [g.len]; omega,g.arr h,by rw [x3m]; simp,fun j row f=>?_,fun j l id d c=>?_⟩
 ·rw [eCe] at f
  split at f
  ·rename_i e
   cases f
   refine ⟨3*j,?_,?_,by simp,by omega,by rw [g.len]; omega⟩
   ·unfold z97
    rw [eAf,eDz e]; rfl
   ·rw [g.row j e]
    simp [z05,eBl]
  ·cases f
 ·unfold z97 at d c
  rw [eAf] at d c
  cases k:(List.range n)[j]? with
  |none=>rw [k] at d; cases d
  |some a=>
   cases i:(List.range n)[l]? with
   |none=>rw [i] at c; cases c
   |some b=>
    rw [k] at d; rw [i] at c
    have o:j=a:=by
     have:=(eAa.1 k)
     obtain ⟨p,q⟩:=this
     rw [List.getElem_range] at q; exact q
    have m:l=b:=by
     obtain ⟨p,q⟩:=(eAa.1 i)
     rw [List.getElem_range] at q; exact q
    simp only [eAw,Option.some.injEq,List.cons.injEq,AV.slice.injEq,and_true,true_and] at d c
    omega
theorem Mat.store {h:List AO} {o N:Nat} {E:List (List AV)} {R:List (List Bool)} (hm:Mat h o E R N) {x:Nat} {row:List Bool} (hr:R[x]?=some row) {id:Nat} (hE:E[x]?=some [AV.slice id 1 0 N (some N)]) (y:Nat) (v:Bool):
  Mat (z03 h id (.row ((z05 row).set y [.bool v]))) o E (R.set x (row.set y v)) N:=by
 obtain ⟨p,n,w,u,m,l⟩:=hm.cell x row hr
 rw [hE] at n; cases n
 have g:=z3p h id (.row ((z05 row).set y [.bool v])) l
 have d:=(eAa.1 hr).1
 have a:(z05 row).set y [.bool v]=z05 (row.set y v):=by
  unfold z05
  rw [show ([D.bool v])=eBl v from rfl, ←eFe]
 refine ⟨by rw [g]; exact hm.olt,by rw [z0c _ _ _ _ m]; exact hm.arr,by rw [eCd]; exact hm.len,fun j c b=>?_,hm.inj⟩
 by_cases e:x=j
 ·subst e
  rw [eBu,if_pos rfl,if_pos d] at b
  cases b
  exact ⟨id,hE,by rw [z0h,a],by rw [eCd]; exact u,m,by rw [g]; exact l⟩
 ·rw [eDj e] at b
  obtain ⟨i,k,t,s,r,q⟩:=hm.cell j c b
  have f:id≠i:=fun h=>by
   subst h
   exact e (hm.inj _ _ _ hE k)
  exact ⟨i,k,by rw [z0c _ _ _ _ f]; exact t,s,r,by rw [g]; exact q⟩
end Go.Am
end
section
namespace Go.Am
open D12
variable {fl:List Int→Bool}
theorem x43 (l:List Bool):(z05 l).length=l.length:=by simp [z05]
theorem w58 (l:List (List Bool)):(z4w l).length=l.length:=by simp [z4w]
theorem w9i {h:List AO} {o N M nt a:Nat} {E:List (List AV)} {R:List (List Bool)} {c0:Option Nat} {env env':List (Nat×AV)} (hm:Mat h o E R N) (hR:R.length=M) (he:z00 env a= .slice o 1 0 M c0)
  (hd:∀ t,z00 env' t= .bot∨(t=a∧z00 env' t= .d (.list false 1 (z4w R)))∨∃ d,z00 env' t= .d d∧z00 env t= .d d):z5z 0 ⟨env,h,nt⟩ ⟨env',[],nt⟩:=⟨by
 intro P ρ tm w A
 have T:w7u (fun _=>false) h []:=⟨fun id=>by rw [z4k]; rfl,fun id z=>by cases z⟩
 have C:=A.view (h':=[]) T
 refine ⟨ρ.only fun _=>false,⟨C.heap,fun t=>?_,C.size,C.dom⟩,rfl,Ext.view' (fun id hid=>absurd hid (Nat.not_lt_zero _)) ρ w T,fun id hid=>absurd hid (Nat.not_lt_zero _)⟩
 show z0n (ρ.only fun _=>false) (z0d (ρ.only fun _=>false) []) w (z00 env' t) _
 rcases hd t with y|⟨rfl,y⟩|⟨d,y,K⟩
 ·rw [y]; exact .bot _
 ·rw [y]
  have s:z0n ρ (z0d ρ h) w (z00 env t) (tm.getD t undef):=A.env t
  rw [he] at s
  generalize tm.getD t undef=v at s
  have g:(z4w R).length=M:=by rw [w58,hR]
  have p:M=0→z4w R=[]:=fun S=>eBr.1 (by rw [g]; exact S)
  cases s with
  |nils _ _ _ _ a hc=>
   rw [p rfl]
   exact .d (.lnil _ _ _ _ (by simp))
  |slice _ _ _ _ _ L a c X Z ha hc hl=>
   by_cases S:M=0
   ·subst S
    rw [p rfl]
    exact .d (.lnil _ _ _ _ (by simp))
   ·have Q:=ha (by omega)
    subst Q
    obtain ⟨W,m⟩:=A.heap.obj o L X
    have m:z1c P ρ (z0d ρ h) w L (z0f h o):=m
    rw [hm.arr] at m
    obtain ⟨Y,cs,t0,H,G,x⟩:=m
    have key:∀ (i:Nat) (row:List Bool),R[i]?=some row→∃ u,cs[L.base+i]?=some u∧u.oneCell'=true∧z1k (z0d (ρ.only fun _=>false) []) w (.list false 1 (z05 row)) u:=by
     intro i row f
     obtain ⟨id,hE,hid,F,_,_⟩:=hm.cell i row f
     obtain ⟨u,a,b,e⟩:=x i _ 0 _ hE rfl
     rw [Z,eCn,eBa] at a
     refine ⟨u,a,b,?_⟩
     have J:(bV std h (.slice id 1 0 N (some N))).1=true:=by
      simp only [bV,hid]
      rw [y3j,y54,y1q,x43]; exact decide_eq_true (by omega)
     have:=v7m A.heap e J
     have I:(bV std h (.slice id 1 0 N (some N))).2= .d (.list false 1 (z05 row)):=by
      simp only [bV,hid]
      rw [y53,eBz,eBd (by rw [x43,F]; exact eAj _)]
     rw [I] at this
     cases this with|d this=>exact this
    have q:∀ (i:Nat) (r:List D),(z4w R)[i]?=some r→∃ row:List Bool,R[i]?=some row∧r=[D.list false 1 (z05 row)]:=by
     intro i r n
     rw [z4w,eAf] at n
     cases U:R[i]? with
     |none=>rw [U] at n; cases n
     |some row=>rw [U] at n; cases n; exact ⟨row,rfl,rfl⟩
    refine .d ?_
    have B:=z1k.list (O:=z0d (ρ.only fun _=>false) []) (w:=w) false (z4w R) L.blk (L.base+0*L.esz) 1 c (by omega) (by intro e; rw [e] at g; simp at g; omega)
     (fun y=>A.heap.sep o L X (by show (z0f h o).live=true; rw [hm.arr]; rfl) (z4r.1 y)) (by rw [g]; exact hl) (by simp) (fun i r n=>by obtain ⟨row,_,rfl⟩:=q i r n; rfl)
     (fun k=>(cs[L.base+k]?).getD undef) (fun k z=>?_) (fun k z=>?_) (fun i r j d n V=>?_)
    ·rw [g] at B; exact B
    ·rw [g,eCn] at z
     obtain ⟨row,f⟩:=z0i (l:=R) (i:=k) (by omega)
     obtain ⟨u,a,b,_⟩:=key k row f
     rw [a]; exact b
    ·rw [g,eCn] at z
     obtain ⟨row,f⟩:=z0i (l:=R) (i:=k) (by omega)
     obtain ⟨u,a,_,_⟩:=key k row f
     rw [Nat.zero_mul,eBa,a]; exact y34 H a
    ·obtain ⟨row,f,rfl⟩:=q i r n
     obtain ⟨u,a,_,e⟩:=key i row f
     cases j with
     |zero=>
      cases V
      rw [eCn,eBa,a]; exact e
     |succ j=>simp at V
 ·have:=C.env t
  have this:z0n (ρ.only fun _=>false) (z0d (ρ.only fun _=>false) []) w (z00 (y75 h (fun _=>false) env) t) (tm.getD t undef):=this
  rw [y3v,K] at this
  rw [y]; exact this⟩
theorem x84 {env env':List (Nat×AV)} {nt a z:Nat} (he:z00 env a= .d (.list true 0 [])) (j:∀ t,z00 env' t= .bot∨(t=a∧z00 env' t= .d (.list false z []))∨∃ d,z00 env' t= .d d∧z00 env t= .d d):z5z 0 ⟨env,[],nt⟩ ⟨env',[],nt⟩:=⟨by
 intro P ρ tm w g
 refine ⟨ρ,⟨g.heap,fun t=>?_,g.size,g.dom⟩,rfl,Ext.refl _ _ _ _,fun _ _=>rfl⟩
 show z0n ρ (z0d ρ []) w (z00 env' t) _
 have e:=g.env t
 have e:z0n ρ (z0d ρ []) w (z00 env t) (tm.getD t undef):=e
 rcases j t with f|⟨rfl,f⟩|⟨d,f,i⟩
 ·rw [f]; exact .bot _
 ·rw [f]
  rw [he] at e
  generalize tm.getD t undef=v at e⊢
  cases e with|d e=>
  cases e with
  |lnil _ _ a c _=>exact .d (.lnil _ _ _ _ (by simp))
  |list _ _ b o z c k h=>exact absurd rfl h
 ·rw [f]; rw [i] at e; exact e⟩
theorem v3o {x M:Nat} (h:x<M):(std.cmp .geq (x:Int) 0&&std.cmp .lss (x:Int) (std.ofNat M))=true:=by
 rw [y1r,z7v,eAc]
 exact ⟨decide_eq_true (by omega),decide_eq_true (by show (x:Int)<(M:Int); omega)⟩
theorem u8c {env:List (Nat×AV)} {h:List AO} {new a b o M x:Nat} {c:Option Nat} (g:z00 env a= .slice o 1 0 M c) (f:z00 env b= .d (.int .i64 (x:Int))):
  z01 std EZ.T gZ env h new false [] [] (.indexAddr 96 (.tmp a) (.tmp b))=some ⟨std.cmp .geq (x:Int) 0&&std.cmp .lss (x:Int) (std.ofNat M), .ptr o x 0,[]⟩:=by
 simp only [z01,x72,z0p,z9h,g,f]
 have e:(.ptr o (0+x) 0:AV)= .ptr o x 0:=by rw [eAq]
 exact congrArg (fun y=>some (⟨_,y,[]⟩:Res)) e
theorem u8b {env:List (Nat×AV)} {h:List AO} {new a b o M x:Nat} {c:Option Nat} (g:z00 env a= .slice o 1 0 M c) (f:z00 env b= .d (.int .i64 (x:Int))):
  z01 std EZ.T gZ env h new false [] [] (.indexAddr 98 (.tmp a) (.tmp b))=some ⟨std.cmp .geq (x:Int) 0&&std.cmp .lss (x:Int) (std.ofNat M), .ptr o x 0,[]⟩:=by
 simp only [z01,w3q,z0p,z9h,g,f]
 have e:(.ptr o (0+x) 0:AV)= .ptr o x 0:=by rw [eAq]
 exact congrArg (fun y=>some (⟨_,y,[]⟩:Res)) e
theorem w8d {env:List (Nat×AV)} {h:List AO} {a o x:Nat} {E:List (List AV)} {ra:List AV} (c:z00 env a= .ptr o x 0) (b:z0f h o= .arow E) (hE:E[x]?=some ra):(z1q std EZ.T env h (.load 98 (.tmp a))).ok false [] ra:=by
 simp only [z1q,z0p,c,y4r,z7u,b,w28.ok,hE]
theorem ld98 {env:List (Nat×AV)} {h:List AO} {new a o x id N:Nat} {E:List (List AV)} (c:z00 env a= .ptr o x 0) (b:z0f h o= .arow E):
  z01 std EZ.T gZ env h new false [] [.slice id 1 0 N (some N)] (.load 98 (.tmp a))=some ⟨true, .slice id 1 0 N (some N),[]⟩:=by
 simp only [z01,w3q,z9h,z0p,c,y4r,z4a,b,t1q,part]
 rfl
theorem v4g {env:List (Nat×AV)} {h:List AO} {a id x:Nat} {v:Operand} {row:List Bool} {b:Bool} (e:z00 env a= .ptr id x 0) (c:z0f h id= .row (z05 row)) (d:row[x]?=some b):(z1q std EZ.T env h (.store 4 (.tmp a) v)).ok false [.bool b] []:=by
 simp only [z1q,z0p,e,z7u,c,w28.ok]
 have:(z05 row)[x]?=some [.bool b]:=v2t d
 exact ⟨_,this,y7t.refl _⟩
theorem st4 {env:List (Nat×AV)} {h:List AO} {new a id x:Nat} {op:Operand} {row:List Bool} {b v:Bool} (f:z00 env a= .ptr id x 0) (c:z0p env op= .d (.bool v)) (e:z0f h id= .row (z05 row)):
  z01 std EZ.T gZ env h new false [.bool b] [] (.store 4 (.tmp a) op)=some ⟨true, .bot,[(id, .row ((z05 row).set x [.bool v]))]⟩:=by
 simp only [z01,u5k]
 rw [c,show z0p env (.tmp a)= .ptr id x 0 from f]
 simp only [z45,z2h,ti4,z4s,e]
 rfl
end Go.Am
end
section
namespace Go.Am
open Go Go.RowKit
variable {P:Program}
theorem z6n {O:Nat→Prop} {w w':World} (c:Below w.heap.size w w'):z43 O O w w':=
 ⟨c.size,fun b a _=>c.block b a,fun _ _ h=>h,fun b n h=>by
  have:=z7s h
  unfold z1a; rw [c.block b this]; exact h,trivial⟩
theorem z2n {g:FuncId} {args:List AV} {r:AV}
  (h:∀ (ρ:Rho) (vs:Array Value) (w:World),(∀ id,ρ id=none)→GL P (z0d ρ []) w→z04 ρ (z0d ρ []) w args vs→
   Calls P g vs w fun e w'=>∃ v,e= .returned v∧z0n ρ (z0d ρ []) w' r v∧Below w.heap.size w w'):z3m P g args [] r []:=⟨by
 intro ρ vs w cs d c m
 have i:∀ id,ρ id=none:=fun id=>by
  cases p:ρ id with
  |none=>rfl
  |some M=>exact absurd (c id (by rw [p]; simp)) (by simp)
 obtain ⟨e,w',fr,⟨v,rfl,o,a⟩,l,k,j⟩:=h ρ vs w i d.gl m cs
 have n:z43 (z0d ρ []) (z0d ρ []) w w':=z6n a
 exact ⟨ρ,v,w',fr,l,k,j,o,d.of_keep n fun b f=>a.block b (z7i d f),c,
  ⟨a.os,a.tape,a.output,n,fun _ _=>rfl,rfl,fun b q=>a.block b (d.fr b q)⟩⟩⟩
theorem y8t {g:FuncId} {args:List AV} {r:AV}
  (h:∀ (ρ:Rho) (vs:Array Value) (w:World),(∀ id,ρ id=none)→(∀ b,ρ.fr b→b<w.heap.size)→GL P (z0d ρ []) w→z04 ρ (z0d ρ []) w args vs→
   Calls P g vs w fun e w'=>∃ v,e= .returned v∧z0n ρ (z0d ρ []) w' r v∧Below w.heap.size w w'):z3m P g args [] r []:=⟨by
 intro ρ vs w cs c d m
 have i:∀ id,ρ id=none:=fun id=>by
  cases p:ρ id with
  |none=>rfl
  |some M=>exact absurd (d id (by rw [p]; simp)) (by simp)
 obtain ⟨e,w',fr,⟨v,rfl,o,a⟩,l,k,j⟩:=h ρ vs w i c.fr c.gl m cs
 have n:z43 (z0d ρ []) (z0d ρ []) w w':=z6n a
 exact ⟨ρ,v,w',fr,l,k,j,o,c.of_keep n fun b f=>a.block b (z7i c f),d,
  ⟨a.os,a.tape,a.output,n,fun _ _=>rfl,rfl,fun b q=>a.block b (c.fr b q)⟩⟩⟩
end Go.Am
end
section
namespace Go.Proofs
def y9r:Go.Shelf.Ren:=⟨fun|276=>142|277=>189|241=>165|240=>119|169=>85|166=>83|165=>144|156=>121|n=>n,fun|80=>71|5=>5|164=>168|75=>120|127=>149|37=>53|70=>116|76=>121|72=>118|20=>20|0=>0|4=>4|3=>3|9=>9|31=>147|n=>n,fun|n=>n⟩
theorem x1u : Go.Proofs.Lays.n156 Tryz.prog y9r :=
  { mixed := by kernel_rfl,
    f156 := by first | exact ⟨Tryz.f121.name, by decide, Tryz.func121.trans (congrArg some (by kernel_rfl))⟩ | exact Tryz.func121.trans (congrArg some (by kernel_rfl)),
    f165 := by first | exact ⟨Tryz.f144.name, by decide, Tryz.func144.trans (congrArg some (by kernel_rfl))⟩ | exact Tryz.func144.trans (congrArg some (by kernel_rfl)),
    f166 := by first | exact ⟨Tryz.f83.name, by decide, Tryz.func83.trans (congrArg some (by kernel_rfl))⟩ | exact Tryz.func83.trans (congrArg some (by kernel_rfl)),
    f169 := by first | exact ⟨Tryz.f85.name, by decide, Tryz.func85.trans (congrArg some (by kernel_rfl))⟩ | exact Tryz.func85.trans (congrArg some (by kernel_rfl)),
    f240 := by first | exact ⟨Tryz.f119.name, by decide, Tryz.func119.trans (congrArg some (by kernel_rfl))⟩ | exact Tryz.func119.trans (congrArg some (by kernel_rfl)),
    f241 := by first | exact ⟨Tryz.f165.name, by decide, Tryz.func165.trans (congrArg some (by kernel_rfl))⟩ | exact Tryz.func165.trans (congrArg some (by kernel_rfl)),
    f276 := by first | exact ⟨Tryz.f142.name, by decide, Tryz.func142.trans (congrArg some (by kernel_rfl))⟩ | exact Tryz.func142.trans (congrArg some (by kernel_rfl)),
    f277 := by first | exact ⟨Tryz.f189.name, by decide, Tryz.func189.trans (congrArg some (by kernel_rfl))⟩ | exact Tryz.func189.trans (congrArg some (by kernel_rfl)),
    t0 := by exact Tryz.underlying0,
    a0 := by exact Tryz.isAgg0,
    z0 := by exact Tryz.sizeOf0,
    v0 := by exact Tryz.zeroValue0,
    t3 := by exact Tryz.underlying3,
    a3 := by exact Tryz.isAgg3,
    z3 := by exact Tryz.sizeOf3,
    v3 := by exact Tryz.zeroValue3,
    t4 := by exact Tryz.underlying4,
    a4 := by exact Tryz.isAgg4,
    z4 := by exact Tryz.sizeOf4,
    v4 := by exact Tryz.zeroValue4,
    t9 := by exact Tryz.underlying9,
    a9 := by exact Tryz.isAgg9,
    z9 := by exact Tryz.sizeOf9,
    v9 := by exact Tryz.zeroValue9,
    t20 := by exact Tryz.underlying20,
    a20 := by exact Tryz.isAgg20,
    z20 := by exact Tryz.sizeOf20,
    v20 := by exact Tryz.zeroValue20,
    t31 := by exact Tryz.underlying147,
    a31 := by exact Tryz.isAgg147,
    z31 := by exact Tryz.sizeOf147,
    v31 := by exact Tryz.zeroValue147,
    t37 := by exact Tryz.underlying53,
    a37 := by exact Tryz.isAgg53,
    z37 := by exact Tryz.sizeOf53,
    v37 := by exact Tryz.zeroValue53,
    t70 := by exact Tryz.underlying116,
    a70 := by exact Tryz.isAgg116,
    z70 := by exact Tryz.sizeOf116,
    v70 := by exact Tryz.zeroValue116,
    t72 := by exact Tryz.underlying118,
    a72 := by exact Tryz.isAgg118,
    z72 := by exact Tryz.sizeOf118,
    v72 := by exact Tryz.zeroValue118,
    t75 := by exact Tryz.underlying120,
    a75 := by exact Tryz.isAgg120,
    z75 := by exact Tryz.sizeOf120,
    v75 := by exact Tryz.zeroValue120,
    t76 := by exact Tryz.underlying121,
    a76 := by exact Tryz.isAgg121,
    z76 := by exact Tryz.sizeOf121,
    v76 := by exact Tryz.zeroValue121,
    t127 := by exact Tryz.underlying149,
    a127 := by exact Tryz.isAgg149,
    z127 := by exact Tryz.sizeOf149,
    v127 := by exact Tryz.zeroValue149,
    t164 := by exact Tryz.underlying168,
    a164 := by exact Tryz.isAgg168,
    z164 := by exact Tryz.sizeOf168,
    v164 := by exact Tryz.zeroValue168 }
def w5e:Go.Shelf.Ren:=⟨fun|266=>190|314=>191|267=>169|224=>168|225=>167|217=>166|219=>145|220=>124|145=>87|n=>n,fun|51=>183|146=>209|46=>162|5=>5|3=>3|59=>124|4=>4|9=>9|n=>n,fun|1=>0|n=>n⟩
theorem v9x : Go.Proofs.Lays.n145 Tryz.prog w5e :=
  { mixed := by kernel_rfl,
    f145 := by first | exact ⟨Tryz.f87.name, by decide, Tryz.func87.trans (congrArg some (by kernel_rfl))⟩ | exact Tryz.func87.trans (congrArg some (by kernel_rfl)),
    f217 := by first | exact ⟨Tryz.f166.name, by decide, Tryz.func166.trans (congrArg some (by kernel_rfl))⟩ | exact Tryz.func166.trans (congrArg some (by kernel_rfl)),
    f219 := by first | exact ⟨Tryz.f145.name, by decide, Tryz.func145.trans (congrArg some (by kernel_rfl))⟩ | exact Tryz.func145.trans (congrArg some (by kernel_rfl)),
    f220 := by first | exact ⟨Tryz.f124.name, by decide, Tryz.func124.trans (congrArg some (by kernel_rfl))⟩ | exact Tryz.func124.trans (congrArg some (by kernel_rfl)),
    f224 := by first | exact ⟨Tryz.f168.name, by decide, Tryz.func168.trans (congrArg some (by kernel_rfl))⟩ | exact Tryz.func168.trans (congrArg some (by kernel_rfl)),
    f225 := by first | exact ⟨Tryz.f167.name, by decide, Tryz.func167.trans (congrArg some (by kernel_rfl))⟩ | exact Tryz.func167.trans (congrArg some (by kernel_rfl)),
    f266 := by first | exact ⟨Tryz.f190.name, by decide, Tryz.func190.trans (congrArg some (by kernel_rfl))⟩ | exact Tryz.func190.trans (congrArg some (by kernel_rfl)),
    f267 := by first | exact ⟨Tryz.f169.name, by decide, Tryz.func169.trans (congrArg some (by kernel_rfl))⟩ | exact Tryz.func169.trans (congrArg some (by kernel_rfl)),
    f314 := by first | exact ⟨Tryz.f191.name, by decide, Tryz.func191.trans (congrArg some (by kernel_rfl))⟩ | exact Tryz.func191.trans (congrArg some (by kernel_rfl)),
    t3 := by exact Tryz.underlying3,
    a3 := by exact Tryz.isAgg3,
    z3 := by exact Tryz.sizeOf3,
    v3 := by exact Tryz.zeroValue3,
    t4 := by exact Tryz.underlying4,
    a4 := by exact Tryz.isAgg4,
    z4 := by exact Tryz.sizeOf4,
    v4 := by exact Tryz.zeroValue4,
    t5 := by exact Tryz.underlying5,
    a5 := by exact Tryz.isAgg5,
    z5 := by exact Tryz.sizeOf5,
    v5 := by exact Tryz.zeroValue5,
    t9 := by exact Tryz.underlying9,
    a9 := by exact Tryz.isAgg9,
    z9 := by exact Tryz.sizeOf9,
    v9 := by exact Tryz.zeroValue9,
    t46 := by exact Tryz.underlying162,
    a46 := by exact Tryz.isAgg162,
    z46 := by exact Tryz.sizeOf162,
    v46 := by exact Tryz.zeroValue162,
    t51 := by exact Tryz.underlying183,
    a51 := by exact Tryz.isAgg183,
    z51 := by exact Tryz.sizeOf183,
    v51 := by exact Tryz.zeroValue183,
    t59 := by exact Tryz.underlying124,
    a59 := by exact Tryz.isAgg124,
    z59 := by exact Tryz.sizeOf124,
    v59 := by exact Tryz.zeroValue124,
    t146 := by exact Tryz.underlying209,
    a146 := by exact Tryz.isAgg209,
    z146 := by exact Tryz.sizeOf209,
    v146 := by exact Tryz.zeroValue209,
    g1 := by kernel_rfl }
def w12:Go.Shelf.Ren:=⟨fun|207=>173|209=>147|102=>126|n=>n,fun|3=>3|4=>4|9=>9|n=>n,fun|n=>n⟩
theorem v5w : Go.Proofs.Lays.n102 Tryz.prog w12 :=
  { mixed := by kernel_rfl,
    f102 := by first | exact ⟨Tryz.f126.name, by decide, Tryz.func126.trans (congrArg some (by kernel_rfl))⟩ | exact Tryz.func126.trans (congrArg some (by kernel_rfl)),
    f207 := by first | exact ⟨Tryz.f173.name, by decide, Tryz.func173.trans (congrArg some (by kernel_rfl))⟩ | exact Tryz.func173.trans (congrArg some (by kernel_rfl)),
    f209 := by first | exact ⟨Tryz.f147.name, by decide, Tryz.func147.trans (congrArg some (by kernel_rfl))⟩ | exact Tryz.func147.trans (congrArg some (by kernel_rfl)),
    t3 := by exact Tryz.underlying3,
    a3 := by exact Tryz.isAgg3,
    z3 := by exact Tryz.sizeOf3,
    v3 := by exact Tryz.zeroValue3,
    t4 := by exact Tryz.underlying4,
    a4 := by exact Tryz.isAgg4,
    z4 := by exact Tryz.sizeOf4,
    v4 := by exact Tryz.zeroValue4,
    t9 := by exact Tryz.underlying9,
    a9 := by exact Tryz.isAgg9,
    z9 := by exact Tryz.sizeOf9,
    v9 := by exact Tryz.zeroValue9 }
def y65:Go.Shelf.Ren:=⟨fun|266=>190|314=>191|267=>169|224=>168|225=>167|217=>166|260=>203|197=>193|218=>194|195=>192|219=>145|143=>172|138=>171|268=>170|221=>146|146=>125|n=>n,fun|138=>230|139=>231|119=>228|51=>183|146=>209|46=>162|21=>21|105=>212|5=>5|0=>0|4=>4|3=>3|31=>147|9=>9|n=>n,fun|4=>7|3=>6|1=>0|n=>n⟩
theorem w9o : Go.Proofs.Lays.n146 Tryz.prog y65 :=
  { mixed := by kernel_rfl,
    f138 := by first | exact ⟨Tryz.f171.name, by decide, Tryz.func171.trans (congrArg some (by kernel_rfl))⟩ | exact Tryz.func171.trans (congrArg some (by kernel_rfl)),
    f143 := by first | exact ⟨Tryz.f172.name, by decide, Tryz.func172.trans (congrArg some (by kernel_rfl))⟩ | exact Tryz.func172.trans (congrArg some (by kernel_rfl)),
    f146 := by first | exact ⟨Tryz.f125.name, by decide, Tryz.func125.trans (congrArg some (by kernel_rfl))⟩ | exact Tryz.func125.trans (congrArg some (by kernel_rfl)),
    f195 := by first | exact ⟨Tryz.f192.name, by decide, Tryz.func192.trans (congrArg some (by kernel_rfl))⟩ | exact Tryz.func192.trans (congrArg some (by kernel_rfl)),
    f197 := by first | exact ⟨Tryz.f193.name, by decide, Tryz.func193.trans (congrArg some (by kernel_rfl))⟩ | exact Tryz.func193.trans (congrArg some (by kernel_rfl)),
    f217 := by first | exact ⟨Tryz.f166.name, by decide, Tryz.func166.trans (congrArg some (by kernel_rfl))⟩ | exact Tryz.func166.trans (congrArg some (by kernel_rfl)),
    f218 := by first | exact ⟨Tryz.f194.name, by decide, Tryz.func194.trans (congrArg some (by kernel_rfl))⟩ | exact Tryz.func194.trans (congrArg some (by kernel_rfl)),
    f219 := by first | exact ⟨Tryz.f145.name, by decide, Tryz.func145.trans (congrArg some (by kernel_rfl))⟩ | exact Tryz.func145.trans (congrArg some (by kernel_rfl)),
    f221 := by first | exact ⟨Tryz.f146.name, by decide, Tryz.func146.trans (congrArg some (by kernel_rfl))⟩ | exact Tryz.func146.trans (congrArg some (by kernel_rfl)),
    f224 := by first | exact ⟨Tryz.f168.name, by decide, Tryz.func168.trans (congrArg some (by kernel_rfl))⟩ | exact Tryz.func168.trans (congrArg some (by kernel_rfl)),
    f225 := by first | exact ⟨Tryz.f167.name, by decide, Tryz.func167.trans (congrArg some (by kernel_rfl))⟩ | exact Tryz.func167.trans (congrArg some (by kernel_rfl)),
    f260 := by first | exact ⟨Tryz.f203.name, by decide, Tryz.func203.trans (congrArg some (by kernel_rfl))⟩ | exact Tryz.func203.trans (congrArg some (by kernel_rfl)),
    f266 := by first | exact ⟨Tryz.f190.name, by decide, Tryz.func190.trans (congrArg some (by kernel_rfl))⟩ | exact Tryz.func190.trans (congrArg some (by kernel_rfl)),
    f267 := by first | exact ⟨Tryz.f169.name, by decide, Tryz.func169.trans (congrArg some (by kernel_rfl))⟩ | exact Tryz.func169.trans (congrArg some (by kernel_rfl)),
    f268 := by first | exact ⟨Tryz.f170.name, by decide, Tryz.func170.trans (congrArg some (by kernel_rfl))⟩ | exact Tryz.func170.trans (congrArg some (by kernel_rfl)),
    f314 := by first | exact ⟨Tryz.f191.name, by decide, Tryz.func191.trans (congrArg some (by kernel_rfl))⟩ | exact Tryz.func191.trans (congrArg some (by kernel_rfl)),
    t0 := by exact Tryz.underlying0,
    a0 := by exact Tryz.isAgg0,
    z0 := by exact Tryz.sizeOf0,
    v0 := by exact Tryz.zeroValue0,
    t3 := by exact Tryz.underlying3,
    a3 := by exact Tryz.isAgg3,
    z3 := by exact Tryz.sizeOf3,
    v3 := by exact Tryz.zeroValue3,
    t4 := by exact Tryz.underlying4,
    a4 := by exact Tryz.isAgg4,
    z4 := by exact Tryz.sizeOf4,
    v4 := by exact Tryz.zeroValue4,
    t5 := by exact Tryz.underlying5,
    a5 := by exact Tryz.isAgg5,
    z5 := by exact Tryz.sizeOf5,
    v5 := by exact Tryz.zeroValue5,
    t9 := by exact Tryz.underlying9,
    a9 := by exact Tryz.isAgg9,
    z9 := by exact Tryz.sizeOf9,
    v9 := by exact Tryz.zeroValue9,
    t21 := by exact Tryz.underlying21,
    a21 := by exact Tryz.isAgg21,
    z21 := by exact Tryz.sizeOf21,
    v21 := by exact Tryz.zeroValue21,
    t31 := by exact Tryz.underlying147,
    a31 := by exact Tryz.isAgg147,
    z31 := by exact Tryz.sizeOf147,
    v31 := by exact Tryz.zeroValue147,
    t46 := by exact Tryz.underlying162,
    a46 := by exact Tryz.isAgg162,
    z46 := by exact Tryz.sizeOf162,
    v46 := by exact Tryz.zeroValue162,
    t51 := by exact Tryz.underlying183,
    a51 := by exact Tryz.isAgg183,
    z51 := by exact Tryz.sizeOf183,
    v51 := by exact Tryz.zeroValue183,
    t105 := by exact Tryz.underlying212,
    a105 := by exact Tryz.isAgg212,
    z105 := by exact Tryz.sizeOf212,
    v105 := by exact Tryz.zeroValue212,
    t119 := by exact Tryz.underlying228,
    a119 := by exact Tryz.isAgg228,
    z119 := by exact Tryz.sizeOf228,
    t138 := by exact Tryz.underlying230,
    a138 := by exact Tryz.isAgg230,
    z138 := by exact Tryz.sizeOf230,
    v138 := by exact Tryz.zeroValue230,
    t139 := by exact Tryz.underlying231,
    a139 := by exact Tryz.isAgg231,
    z139 := by exact Tryz.sizeOf231,
    v139 := by exact Tryz.zeroValue231,
    t146 := by exact Tryz.underlying209,
    a146 := by exact Tryz.isAgg209,
    z146 := by exact Tryz.sizeOf209,
    v146 := by exact Tryz.zeroValue209,
    g1 := by kernel_rfl,
    g3 := by kernel_rfl,
    g4 := by kernel_rfl }
end Go.Proofs
end
section
namespace Go.Am
open Go Go.RowKit Go.Proofs
def w05:List (List D)→Option (List ByteArray)
 |[]=>some []
 |[.str s]::l=>match w05 l with
  |some r=>some (s::r)
  |none=>none
 |_=>none
theorem x75:∀ {es:List (List D)} {xs:List ByteArray},w05 es=some xs→es=xs.map fun s=>[.str s]
 |[],xs,h=>by cases h; rfl
 |r::l,xs,h=>by
  unfold w05 at h
  split at h
  ·rename_i heq; cases heq
  ·rename_i s a heq
   cases heq
   split at h
   ·rename_i r' hr
    cases h
    rw [x75 hr]; rfl
   ·cases h
  ·cases h
def z5u (xs:List ByteArray) (sep:ByteArray):ByteArray:=⟨(Lib.join (xs.map (·.data.toList)) sep.data.toList).toArray⟩
def x48:Ctr:=⟨121,[.list 1, .str],[],[(.ret,⟨[(0, .str)],[],1⟩)]⟩
def v78 (_:Prim) (y:List (List D)×(ByteArray×Unit)):Option (ByteArray×Unit):=
 match w05 y.1 with
 |some a=>bif Nat.ble (z5u a y.2.1).size 1000000&&Nat.ble a.length 1000000 then some ((z5u a y.2.1,())) else none
 |none=>none
def t1l:Prim→Tup (x48).scs→Option (STup (scss (x48).outs)):=fun p x=>v78 p x
theorem u2p {ρ:Rho} {O:Nat→Prop} {w:World} {a:AV} {vs:Array Value} (h:z04 ρ O w [a] vs):∃ x,vs=#[x]∧z0n ρ O w a x:=by
 obtain ⟨b,e⟩:=h
 have b:vs.size=1:=b
 refine ⟨vs.getD 0 undef,?_,e 0 a rfl⟩
 apply Array.ext (by simpa using b)
 intro i d c
 have c:i<1:=c
 have:i=0:=by omega
 subst this
 simp [Array.getD,d]
theorem w7n {ρ:Rho} {O:Nat→Prop} {w:World} {a b:AV} {vs:Array Value} (h:z04 ρ O w [a,b] vs):∃ x y,vs=#[x,y]∧z0n ρ O w a x∧z0n ρ O w b y:=by
 obtain ⟨d,f⟩:=h
 have d:vs.size=2:=d
 refine ⟨vs.getD 0 undef,vs.getD 1 undef,?_,f 0 a rfl,f 1 b rfl⟩
 apply Array.ext (by simpa using d)
 intro i e c
 have c:i<2:=c
 match i,c with
 |0,_=>simp [Array.getD,e]
 |1,_=>simp [Array.getD,e]
theorem y2y:Builder.Extra Tryz.prog y9r where
 sizeBuilder:=by kernel_rfl
 liesBuilder:=by kernel_rfl
 t5:=by exact Tryz.underlying5
 a5:=by exact Tryz.isAgg5
 z5:=by exact Tryz.sizeOf5
 v5:=by exact Tryz.zeroValue5
 infoByte:=by kernel_rfl
 cellsByte:=by kernel_rfl
 sizeByte:=by kernel_rfl
 neB5:=by decide
theorem v9l:CtrOk Tryz.prog x48 (t1l std):=by
 refine ⟨enters_of Tryz.func121 rfl rfl,fun x y i=>?_⟩
 obtain ⟨es,sep,u⟩:=x
 change v78 std (es,sep,u)=_ at i
 unfold v78 at i
 simp only at i
 split at i
 ·rename_i g H
  cases m:(Nat.ble (z5u g sep).size 1000000&&Nat.ble g.length 1000000) with
  |false=>rw [m] at i; cases i
  |true=>
   rw [m] at i
   cases i
   simp only [eAc] at m
   have N:=eAh m.1
   have M:=eAh m.2
   refine ⟨eAo _,?_⟩
   show z3m _ 121 [.d (.list false 1 es), .d (.str sep)] [] (.d (.str (z5u g sep))) []
   have l:=x75 H
   refine z2n fun ρ O w I K B=>?_
   obtain ⟨a,b,rfl,C,k⟩:=w7n B
   cases k with|d k=>
   cases k
   cases C with|d C=>
   have p:(Lib.join (g.map (·.data.toList)) sep.data.toList).length≤140737488355328:=by
    have:(z5u g sep).size=(Lib.join (g.map (·.data.toList)) sep.data.toList).length:=by simp [z5u,ByteArray.size]
    omega
   cases C with
   |lnil _ _ a c h=>
    cases g with
    |cons _ _=>cases l
    |nil=>
    exact (Any.strings_Join_none x1u y2y a c sep w).mono fun e G ⟨he,n⟩=>⟨_,he, .d (.str _),n▸Below.refl _ _⟩
   |list _ _ b o z c P s hO v Q E cell R L h=>
    subst l
    have f:∀ (j:Nat) x,g[j]?=some x→w.cell? ⟨b,o+j,none⟩=some (.string x):=fun j x F=>by
     have J:j<g.length:=(eAa.1 F).1
     have A:=h j [.str x] 0 (.str x) (by rw [eAf,F]; rfl) rfl
     rw [L j (by rw [eAy]; omega)]
     simp only [eCn,eBa] at A
     generalize cell j=q at A
     cases A; rfl
    have t:b<w.heap.size:=by
     cases g with
     |nil=>exact absurd rfl s
     |cons x r=>exact y2b (f 0 x rfl)
    have:=Any.strings_Join x1u y2y b o c g sep w f t (by omega) (by simpa using v) p
    rw [eAy]
    exact this.mono fun e G ⟨he,n⟩=>⟨_,he, .d (.str _),n⟩
 ·cases i
end Go.Am
end
section
namespace Go.Proofs
def x4a:Go.Shelf.Ren:=⟨fun|338=>202|337=>201|318=>186|317=>185|129=>160|320=>188|319=>187|286=>164|285=>163|284=>162|283=>161|246=>143|173=>120|n=>n,fun|232=>226|233=>227|212=>206|51=>183|46=>162|213=>207|20=>20|173=>188|5=>5|37=>53|53=>100|0=>0|171=>186|4=>4|9=>9|3=>3|2=>2|n=>n,fun|18=>4|19=>5|17=>1|n=>n⟩
theorem v9w : Go.Proofs.Lays.n173 Tryz.prog x4a :=
  { mixed := by kernel_rfl,
    f129 := by first | exact ⟨Tryz.f160.name, by decide, Tryz.func160.trans (congrArg some (by kernel_rfl))⟩ | exact Tryz.func160.trans (congrArg some (by kernel_rfl)),
    f173 := by first | exact ⟨Tryz.f120.name, by decide, Tryz.func120.trans (congrArg some (by kernel_rfl))⟩ | exact Tryz.func120.trans (congrArg some (by kernel_rfl)),
    f246 := by first | exact ⟨Tryz.f143.name, by decide, Tryz.func143.trans (congrArg some (by kernel_rfl))⟩ | exact Tryz.func143.trans (congrArg some (by kernel_rfl)),
    f283 := by first | exact ⟨Tryz.f161.name, by decide, Tryz.func161.trans (congrArg some (by kernel_rfl))⟩ | exact Tryz.func161.trans (congrArg some (by kernel_rfl)),
    f284 := by first | exact ⟨Tryz.f162.name, by decide, Tryz.func162.trans (congrArg some (by kernel_rfl))⟩ | exact Tryz.func162.trans (congrArg some (by kernel_rfl)),
    f285 := by first | exact ⟨Tryz.f163.name, by decide, Tryz.func163.trans (congrArg some (by kernel_rfl))⟩ | exact Tryz.func163.trans (congrArg some (by kernel_rfl)),
    f286 := by first | exact ⟨Tryz.f164.name, by decide, Tryz.func164.trans (congrArg some (by kernel_rfl))⟩ | exact Tryz.func164.trans (congrArg some (by kernel_rfl)),
    f317 := by first | exact ⟨Tryz.f185.name, by decide, Tryz.func185.trans (congrArg some (by kernel_rfl))⟩ | exact Tryz.func185.trans (congrArg some (by kernel_rfl)),
    f318 := by first | exact ⟨Tryz.f186.name, by decide, Tryz.func186.trans (congrArg some (by kernel_rfl))⟩ | exact Tryz.func186.trans (congrArg some (by kernel_rfl)),
    f319 := by first | exact ⟨Tryz.f187.name, by decide, Tryz.func187.trans (congrArg some (by kernel_rfl))⟩ | exact Tryz.func187.trans (congrArg some (by kernel_rfl)),
    f320 := by first | exact ⟨Tryz.f188.name, by decide, Tryz.func188.trans (congrArg some (by kernel_rfl))⟩ | exact Tryz.func188.trans (congrArg some (by kernel_rfl)),
    f337 := by first | exact ⟨Tryz.f201.name, by decide, Tryz.func201.trans (congrArg some (by kernel_rfl))⟩ | exact Tryz.func201.trans (congrArg some (by kernel_rfl)),
    f338 := by first | exact ⟨Tryz.f202.name, by decide, Tryz.func202.trans (congrArg some (by kernel_rfl))⟩ | exact Tryz.func202.trans (congrArg some (by kernel_rfl)),
    t0 := by exact Tryz.underlying0,
    a0 := by exact Tryz.isAgg0,
    z0 := by exact Tryz.sizeOf0,
    v0 := by exact Tryz.zeroValue0,
    t2 := by exact Tryz.underlying2,
    a2 := by exact Tryz.isAgg2,
    z2 := by exact Tryz.sizeOf2,
    v2 := by exact Tryz.zeroValue2,
    t3 := by exact Tryz.underlying3,
    a3 := by exact Tryz.isAgg3,
    z3 := by exact Tryz.sizeOf3,
    v3 := by exact Tryz.zeroValue3,
    t4 := by exact Tryz.underlying4,
    a4 := by exact Tryz.isAgg4,
    z4 := by exact Tryz.sizeOf4,
    v4 := by exact Tryz.zeroValue4,
    t5 := by exact Tryz.underlying5,
    a5 := by exact Tryz.isAgg5,
    z5 := by exact Tryz.sizeOf5,
    v5 := by exact Tryz.zeroValue5,
    t9 := by exact Tryz.underlying9,
    a9 := by exact Tryz.isAgg9,
    z9 := by exact Tryz.sizeOf9,
    v9 := by exact Tryz.zeroValue9,
    t20 := by exact Tryz.underlying20,
    a20 := by exact Tryz.isAgg20,
    z20 := by exact Tryz.sizeOf20,
    v20 := by exact Tryz.zeroValue20,
    t37 := by exact Tryz.underlying53,
    a37 := by exact Tryz.isAgg53,
    z37 := by exact Tryz.sizeOf53,
    v37 := by exact Tryz.zeroValue53,
    t46 := by exact Tryz.underlying162,
    a46 := by exact Tryz.isAgg162,
    z46 := by exact Tryz.sizeOf162,
    v46 := by exact Tryz.zeroValue162,
    t51 := by exact Tryz.underlying183,
    a51 := by exact Tryz.isAgg183,
    z51 := by exact Tryz.sizeOf183,
    v51 := by exact Tryz.zeroValue183,
    t53 := by exact Tryz.underlying100,
    a53 := by exact Tryz.isAgg100,
    z53 := by exact Tryz.sizeOf100,
    v53 := by exact Tryz.zeroValue100,
    t171 := by exact Tryz.underlying186,
    a171 := by exact Tryz.isAgg186,
    z171 := by exact Tryz.sizeOf186,
    v171 := by exact Tryz.zeroValue186,
    t173 := by exact Tryz.underlying188,
    a173 := by exact Tryz.isAgg188,
    z173 := by exact Tryz.sizeOf188,
    v173 := by exact Tryz.zeroValue188,
    t212 := by exact Tryz.underlying206,
    a212 := by exact Tryz.isAgg206,
    z212 := by exact Tryz.sizeOf206,
    v212 := by exact Tryz.zeroValue206,
    t213 := by exact Tryz.underlying207,
    a213 := by exact Tryz.isAgg207,
    z213 := by exact Tryz.sizeOf207,
    t232 := by exact Tryz.underlying226,
    a232 := by exact Tryz.isAgg226,
    z232 := by exact Tryz.sizeOf226,
    v232 := by exact Tryz.zeroValue226,
    t233 := by exact Tryz.underlying227,
    a233 := by exact Tryz.isAgg227,
    z233 := by exact Tryz.sizeOf227,
    v233 := by exact Tryz.zeroValue227,
    g17 := by kernel_rfl,
    g18 := by kernel_rfl,
    g19 := by kernel_rfl }
def y66:Go.Shelf.Ren:=⟨fun|338=>202|337=>201|318=>186|317=>185|129=>160|320=>188|319=>187|286=>164|285=>163|284=>162|283=>161|246=>143|243=>204|205=>198|171=>199|316=>197|322=>196|321=>195|287=>174|282=>178|281=>177|280=>176|279=>175|245=>149|247=>148|174=>127|n=>n,fun|80=>71|232=>226|233=>227|212=>206|51=>183|213=>207|20=>20|173=>188|171=>186|21=>21|127=>149|143=>223|145=>225|210=>218|0=>0|37=>53|46=>162|175=>194|53=>100|5=>5|168=>196|167=>193|4=>4|85=>154|75=>120|2=>2|3=>3|9=>9|n=>n,fun|18=>4|19=>5|17=>1|15=>2|16=>3|n=>n⟩
theorem v9v : Go.Proofs.Lays.n174 Tryz.prog y66 :=
  { mixed := by kernel_rfl,
    f129 := by first | exact ⟨Tryz.f160.name, by decide, Tryz.func160.trans (congrArg some (by kernel_rfl))⟩ | exact Tryz.func160.trans (congrArg some (by kernel_rfl)),
    f171 := by first | exact ⟨Tryz.f199.name, by decide, Tryz.func199.trans (congrArg some (by kernel_rfl))⟩ | exact Tryz.func199.trans (congrArg some (by kernel_rfl)),
    f174 := by first | exact ⟨Tryz.f127.name, by decide, Tryz.func127.trans (congrArg some (by kernel_rfl))⟩ | exact Tryz.func127.trans (congrArg some (by kernel_rfl)),
    f205 := by first | exact ⟨Tryz.f198.name, by decide, Tryz.func198.trans (congrArg some (by kernel_rfl))⟩ | exact Tryz.func198.trans (congrArg some (by kernel_rfl)),
    f243 := by first | exact ⟨Tryz.f204.name, by decide, Tryz.func204.trans (congrArg some (by kernel_rfl))⟩ | exact Tryz.func204.trans (congrArg some (by kernel_rfl)),
    f245 := by first | exact ⟨Tryz.f149.name, by decide, Tryz.func149.trans (congrArg some (by kernel_rfl))⟩ | exact Tryz.func149.trans (congrArg some (by kernel_rfl)),
    f246 := by first | exact ⟨Tryz.f143.name, by decide, Tryz.func143.trans (congrArg some (by kernel_rfl))⟩ | exact Tryz.func143.trans (congrArg some (by kernel_rfl)),
    f247 := by first | exact ⟨Tryz.f148.name, by decide, Tryz.func148.trans (congrArg some (by kernel_rfl))⟩ | exact Tryz.func148.trans (congrArg some (by kernel_rfl)),
    f279 := by first | exact ⟨Tryz.f175.name, by decide, Tryz.func175.trans (congrArg some (by kernel_rfl))⟩ | exact Tryz.func175.trans (congrArg some (by kernel_rfl)),
    f280 := by first | exact ⟨Tryz.f176.name, by decide, Tryz.func176.trans (congrArg some (by kernel_rfl))⟩ | exact Tryz.func176.trans (congrArg some (by kernel_rfl)),
    f281 := by first | exact ⟨Tryz.f177.name, by decide, Tryz.func177.trans (congrArg some (by kernel_rfl))⟩ | exact Tryz.func177.trans (congrArg some (by kernel_rfl)),
    f282 := by first | exact ⟨Tryz.f178.name, by decide, Tryz.func178.trans (congrArg some (by kernel_rfl))⟩ | exact Tryz.func178.trans (congrArg some (by kernel_rfl)),
    f283 := by first | exact ⟨Tryz.f161.name, by decide, Tryz.func161.trans (congrArg some (by kernel_rfl))⟩ | exact Tryz.func161.trans (congrArg some (by kernel_rfl)),
    f284 := by first | exact ⟨Tryz.f162.name, by decide, Tryz.func162.trans (congrArg some (by kernel_rfl))⟩ | exact Tryz.func162.trans (congrArg some (by kernel_rfl)),
    f285 := by first | exact ⟨Tryz.f163.name, by decide, Tryz.func163.trans (congrArg some (by kernel_rfl))⟩ | exact Tryz.func163.trans (congrArg some (by kernel_rfl)),
    f286 := by first | exact ⟨Tryz.f164.name, by decide, Tryz.func164.trans (congrArg some (by kernel_rfl))⟩ | exact Tryz.func164.trans (congrArg some (by kernel_rfl)),
    f287 := by first | exact ⟨Tryz.f174.name, by decide, Tryz.func174.trans (congrArg some (by kernel_rfl))⟩ | exact Tryz.func174.trans (congrArg some (by kernel_rfl)),
    f316 := by first | exact ⟨Tryz.f197.name, by decide, Tryz.func197.trans (congrArg some (by kernel_rfl))⟩ | exact Tryz.func197.trans (congrArg some (by kernel_rfl)),
    f317 := by first | exact ⟨Tryz.f185.name, by decide, Tryz.func185.trans (congrArg some (by kernel_rfl))⟩ | exact Tryz.func185.trans (congrArg some (by kernel_rfl)),
    f318 := by first | exact ⟨Tryz.f186.name, by decide, Tryz.func186.trans (congrArg some (by kernel_rfl))⟩ | exact Tryz.func186.trans (congrArg some (by kernel_rfl)),
    f319 := by first | exact ⟨Tryz.f187.name, by decide, Tryz.func187.trans (congrArg some (by kernel_rfl))⟩ | exact Tryz.func187.trans (congrArg some (by kernel_rfl)),
    f320 := by first | exact ⟨Tryz.f188.name, by decide, Tryz.func188.trans (congrArg some (by kernel_rfl))⟩ | exact Tryz.func188.trans (congrArg some (by kernel_rfl)),
    f321 := by first | exact ⟨Tryz.f195.name, by decide, Tryz.func195.trans (congrArg some (by kernel_rfl))⟩ | exact Tryz.func195.trans (congrArg some (by kernel_rfl)),
    f322 := by first | exact ⟨Tryz.f196.name, by decide, Tryz.func196.trans (congrArg some (by kernel_rfl))⟩ | exact Tryz.func196.trans (congrArg some (by kernel_rfl)),
    f337 := by first | exact ⟨Tryz.f201.name, by decide, Tryz.func201.trans (congrArg some (by kernel_rfl))⟩ | exact Tryz.func201.trans (congrArg some (by kernel_rfl)),
    f338 := by first | exact ⟨Tryz.f202.name, by decide, Tryz.func202.trans (congrArg some (by kernel_rfl))⟩ | exact Tryz.func202.trans (congrArg some (by kernel_rfl)),
    t0 := by exact Tryz.underlying0,
    a0 := by exact Tryz.isAgg0,
    z0 := by exact Tryz.sizeOf0,
    v0 := by exact Tryz.zeroValue0,
    t2 := by exact Tryz.underlying2,
    a2 := by exact Tryz.isAgg2,
    z2 := by exact Tryz.sizeOf2,
    v2 := by exact Tryz.zeroValue2,
    t3 := by exact Tryz.underlying3,
    a3 := by exact Tryz.isAgg3,
    z3 := by exact Tryz.sizeOf3,
    v3 := by exact Tryz.zeroValue3,
    t4 := by exact Tryz.underlying4,
    a4 := by exact Tryz.isAgg4,
    z4 := by exact Tryz.sizeOf4,
    v4 := by exact Tryz.zeroValue4,
    t5 := by exact Tryz.underlying5,
    a5 := by exact Tryz.isAgg5,
    z5 := by exact Tryz.sizeOf5,
    v5 := by exact Tryz.zeroValue5,
    t9 := by exact Tryz.underlying9,
    a9 := by exact Tryz.isAgg9,
    z9 := by exact Tryz.sizeOf9,
    v9 := by exact Tryz.zeroValue9,
    t20 := by exact Tryz.underlying20,
    a20 := by exact Tryz.isAgg20,
    z20 := by exact Tryz.sizeOf20,
    v20 := by exact Tryz.zeroValue20,
    t21 := by exact Tryz.underlying21,
    a21 := by exact Tryz.isAgg21,
    z21 := by exact Tryz.sizeOf21,
    v21 := by exact Tryz.zeroValue21,
    t37 := by exact Tryz.underlying53,
    a37 := by exact Tryz.isAgg53,
    z37 := by exact Tryz.sizeOf53,
    v37 := by exact Tryz.zeroValue53,
    t46 := by exact Tryz.underlying162,
    a46 := by exact Tryz.isAgg162,
    z46 := by exact Tryz.sizeOf162,
    v46 := by exact Tryz.zeroValue162,
    t51 := by exact Tryz.underlying183,
    a51 := by exact Tryz.isAgg183,
    z51 := by exact Tryz.sizeOf183,
    v51 := by exact Tryz.zeroValue183,
    t53 := by exact Tryz.underlying100,
    a53 := by exact Tryz.isAgg100,
    z53 := by exact Tryz.sizeOf100,
    v53 := by exact Tryz.zeroValue100,
    t75 := by exact Tryz.underlying120,
    a75 := by exact Tryz.isAgg120,
    z75 := by exact Tryz.sizeOf120,
    v75 := by exact Tryz.zeroValue120,
    t85 := by exact Tryz.underlying154,
    a85 := by exact Tryz.isAgg154,
    z85 := by exact Tryz.sizeOf154,
    v85 := by exact Tryz.zeroValue154,
    t127 := by exact Tryz.underlying149,
    a127 := by exact Tryz.isAgg149,
    z127 := by exact Tryz.sizeOf149,
    v127 := by exact Tryz.zeroValue149,
    t143 := by exact Tryz.underlying223,
    a143 := by exact Tryz.isAgg223,
    z143 := by exact Tryz.sizeOf223,
    v143 := by exact Tryz.zeroValue223,
    t145 := by exact Tryz.underlying225,
    a145 := by exact Tryz.isAgg225,
    z145 := by exact Tryz.sizeOf225,
    v145 := by exact Tryz.zeroValue225,
    t167 := by exact Tryz.underlying193,
    a167 := by exact Tryz.isAgg193,
    z167 := by exact Tryz.sizeOf193,
    v167 := by exact Tryz.zeroValue193,
    t168 := by exact Tryz.underlying196,
    a168 := by exact Tryz.isAgg196,
    z168 := by exact Tryz.sizeOf196,
    v168 := by exact Tryz.zeroValue196,
    t171 := by exact Tryz.underlying186,
    a171 := by exact Tryz.isAgg186,
    z171 := by exact Tryz.sizeOf186,
    v171 := by exact Tryz.zeroValue186,
    t173 := by exact Tryz.underlying188,
    a173 := by exact Tryz.isAgg188,
    z173 := by exact Tryz.sizeOf188,
    v173 := by exact Tryz.zeroValue188,
    t175 := by exact Tryz.underlying194,
    a175 := by exact Tryz.isAgg194,
    z175 := by exact Tryz.sizeOf194,
    v175 := by exact Tryz.zeroValue194,
    t210 := by exact Tryz.underlying218,
    a210 := by exact Tryz.isAgg218,
    z210 := by exact Tryz.sizeOf218,
    v210 := by exact Tryz.zeroValue218,
    t212 := by exact Tryz.underlying206,
    a212 := by exact Tryz.isAgg206,
    z212 := by exact Tryz.sizeOf206,
    v212 := by exact Tryz.zeroValue206,
    t213 := by exact Tryz.underlying207,
    a213 := by exact Tryz.isAgg207,
    z213 := by exact Tryz.sizeOf207,
    t232 := by exact Tryz.underlying226,
    a232 := by exact Tryz.isAgg226,
    z232 := by exact Tryz.sizeOf226,
    v232 := by exact Tryz.zeroValue226,
    t233 := by exact Tryz.underlying227,
    a233 := by exact Tryz.isAgg227,
    z233 := by exact Tryz.sizeOf227,
    v233 := by exact Tryz.zeroValue227,
    g15 := by kernel_rfl,
    g16 := by kernel_rfl,
    g17 := by kernel_rfl,
    g18 := by kernel_rfl,
    g19 := by kernel_rfl }
theorem w5d : Go.Proofs.LaysM.n173 Tryz.prog x4a :=
  { v9w with
    i0 := by kernel_rfl,
    i2 := by kernel_rfl,
    i3 := by kernel_rfl,
    i4 := by kernel_rfl,
    i5 := by kernel_rfl,
    i9 := by kernel_rfl,
    i20 := by kernel_rfl,
    i37 := by kernel_rfl,
    i46 := by kernel_rfl,
    i51 := by kernel_rfl,
    i53 := by kernel_rfl,
    i171 := by kernel_rfl,
    i173 := by kernel_rfl,
    i212 := by kernel_rfl,
    i232 := by kernel_rfl,
    i233 := by kernel_rfl,
    m17 := by kernel_rfl,
    m18 := by kernel_rfl,
    m19 := by kernel_rfl }
theorem v5x : Go.Proofs.LaysM.n174 Tryz.prog y66 :=
  { v9v with
    t80 := by exact Tryz.underlying71,
    a80 := by exact Tryz.isAgg71,
    z80 := by exact Tryz.sizeOf71,
    v80 := by exact Tryz.zeroValue71,
    i0 := by kernel_rfl,
    i2 := by kernel_rfl,
    i3 := by kernel_rfl,
    i4 := by kernel_rfl,
    i5 := by kernel_rfl,
    i9 := by kernel_rfl,
    i20 := by kernel_rfl,
    i21 := by kernel_rfl,
    i37 := by kernel_rfl,
    i46 := by kernel_rfl,
    i51 := by kernel_rfl,
    i53 := by kernel_rfl,
    i75 := by kernel_rfl,
    i80 := by kernel_rfl,
    i85 := by kernel_rfl,
    i127 := by kernel_rfl,
    i143 := by kernel_rfl,
    i145 := by kernel_rfl,
    i167 := by kernel_rfl,
    i168 := by kernel_rfl,
    i171 := by kernel_rfl,
    i173 := by kernel_rfl,
    i175 := by kernel_rfl,
    i210 := by kernel_rfl,
    i212 := by kernel_rfl,
    i232 := by kernel_rfl,
    i233 := by kernel_rfl,
    m15 := by kernel_rfl,
    m16 := by kernel_rfl,
    m17 := by kernel_rfl,
    m18 := by kernel_rfl,
    m19 := by kernel_rfl }
theorem x68 : Go.Proofs.LaysC.n174 Tryz.prog y66 :=
  { toM := v5x,
    c0 := by kernel_rfl,
    c2 := by kernel_rfl,
    c3 := by kernel_rfl,
    c4 := by kernel_rfl,
    c5 := by kernel_rfl,
    c9 := by kernel_rfl,
    c20 := by kernel_rfl,
    c21 := by kernel_rfl,
    c37 := by kernel_rfl,
    c46 := by kernel_rfl,
    c51 := by kernel_rfl,
    c53 := by kernel_rfl,
    c75 := by kernel_rfl,
    c80 := by kernel_rfl,
    c85 := by kernel_rfl,
    c127 := by kernel_rfl,
    c143 := by kernel_rfl,
    c145 := by kernel_rfl,
    c167 := by kernel_rfl,
    c168 := by kernel_rfl,
    c171 := by kernel_rfl,
    c173 := by kernel_rfl,
    c175 := by kernel_rfl,
    c210 := by kernel_rfl,
    c212 := by kernel_rfl,
    c213 := by kernel_rfl,
    c232 := by kernel_rfl,
    c233 := by kernel_rfl }
end Go.Proofs
namespace Go.Am
open Go Go.RowKit Go.Proofs
theorem v7r {ρ:Rho} {O:Nat→Prop} {w:World} {a b c:AV} {vs:Array Value} (h:z04 ρ O w [a,b,c] vs):∃ x y z,vs=#[x,y,z]∧z0n ρ O w a x∧z0n ρ O w b y∧z0n ρ O w c z:=by
 obtain ⟨g,f⟩:=h
 have g:vs.size=3:=g
 refine ⟨vs.getD 0 undef,vs.getD 1 undef,vs.getD 2 undef,?_,f 0 a rfl,f 1 b rfl,f 2 c rfl⟩
 apply Array.ext (by simpa using g)
 intro i e d
 have d:i<3:=d
 match i,d with
 |0,_=>simp [Array.getD,e]
 |1,_=>simp [Array.getD,e]
 |2,_=>simp [Array.getD,e]
theorem x54 {P:Program} {O:Nat→Prop} {w:World} (hg:GL P O w) {g:Nat} {name:String} {k:IntKind} {zs:List Int} (f:P.globalNamed name=some g) (j:y14 P g=some (zs.map fun z=>D.int k z)):Lib.TabIs P w name k zs:=by
 obtain ⟨h,_,a,n⟩:=hg.lay g _ j
 unfold Lib.TabIs World.var?
 rw [f]
 unfold z1a at a
 cases d:w.heap[g]? with
 |none=>rw [d] at a; cases a
 |some o=>
  cases o with
  |cells c t fr=>
   rw [d] at a
   simp only [Option.some.injEq,eAy] at a
   simp only [eBp,d,Option.some.injEq]
   apply Array.ext (by simpa using a)
   intro i p q
   have l:i<zs.length:=by omega
   obtain ⟨v,e,m⟩:=n i (.int k zs[i]) (by rw [eAf,eAb l]; rfl)
   have b:c[i]?=some v:=by
    unfold World.cell? at e
    simp only [d] at e
    simpa using e
   rw [eAs p] at b
   have:=m (fun _=>False) w
   cases this
   simpa using b
  |_=>rw [d] at a; cases a
theorem y4j {P:Program} {O:Nat→Prop} {w:World} (hg:GL P O w) {g:Nat} (h:y1e P g=some true):∃ m,w.cell? ⟨g,0,none⟩=some (.int .i64 m):=by
 obtain ⟨_,_,v,a,n,rfl⟩:=hg.shp g true h
 exact ⟨n,a⟩
theorem x4x {P:Program} {O:Nat→Prop} {w:World} (hg:GL P O w) {g:Nat} (h:y1e P g=some false):∃ v,w.cell? ⟨g,0,none⟩=some v∧(v= .nilIface∨∃ t p,v= .iface t p):=by
 obtain ⟨_,_,v,a,b⟩:=hg.shp g false h
 exact ⟨v,a,b⟩
theorem w1o:y14 Tryz.prog 1=some (Lib.pow10Tab.map fun z=>D.int .u64 z):=by kernel_rfl
theorem t1r:y1e Tryz.prog 0=some true:=by kernel_rfl
theorem shp2:y1e Tryz.prog 2=some false:=by kernel_rfl
theorem shp3:y1e Tryz.prog 3=some false:=by kernel_rfl
def y8l (n:Int):Bool:=decide (-9223372036854775808≤n)&&decide (n≤9223372036854775807)
def z4u (n:Int):ByteArray:=⟨(Lib.itoa n).toArray⟩
def x49:Ctr:=⟨120,[.int .i64, .int .i64],[],[(.ret,⟨[(0, .str)],[],1⟩)]⟩
def v4d (_:Prim) (x:Int×(Int×Unit)):Option (ByteArray×Unit):=bif y8l x.1&&decide (x.2.1=10) then some (z4u x.1,()) else none
def t1m:Prim→Tup (x49).scs→Option (STup (scss (x49).outs)):=fun p x=>v4d p x
theorem v9m:CtrOk Tryz.prog x49 (t1m std):=by
 refine ⟨enters_of Tryz.func120 rfl rfl,fun (x:Int×(Int×Unit)) y f=>?_⟩
 obtain ⟨n,b,u⟩:=x
 change v4d std (n,b,u)=_ at f
 unfold v4d at f
 cases c:(y8l n&&decide (b=10)) with
 |false=>rw [c] at f; cases f
 |true=>
  rw [c] at f
  cases f
  simp only [y8l,eAc,decide_eq_true_eq] at c
  obtain ⟨⟨o,m⟩,rfl⟩:=c
  refine ⟨eAo _,?_⟩
  show z3m _ 120 [.d (.int .i64 n), .d (.int .i64 10)] [] (.d (.str (z4u n))) []
  refine z2n fun ρ q w l g h=>?_
  obtain ⟨a,b,rfl,i,c⟩:=w7n h
  cases i with|d i=>cases c with|d c=>
  cases i; cases c
  refine (Any.strconv_FormatInt_10 w5d n o m w (x54 g w5d.m17 w1o)).mono fun e p ⟨he,k,r,j⟩=>⟨_,he, .d (.str _),?_⟩
  rw [j]; exact Go.Lib.below_grow _ _ (eAj _) _ _
def v8s (s p:ByteArray):ByteArray:=⟨(Lib.trimSuffix s.data.toList p.data.toList).toArray⟩
def w0a:Ctr:=⟨126,[.str, .str],[],[(.ret,⟨[(0, .str)],[],1⟩)]⟩
def t1j (_:Prim) (x:ByteArray×(ByteArray×Unit)):Option (ByteArray×Unit):=bif Nat.ble x.1.size 1000000 then some (v8s x.1 x.2.1,()) else none
def t2u:Prim→Tup (w0a).scs→Option (STup (scss (w0a).outs)):=fun p x=>t1j p x
theorem u6n:CtrOk Tryz.prog w0a (t2u std):=by
 refine ⟨enters_of Tryz.func126 rfl rfl,fun x y f=>?_⟩
 obtain ⟨s,q,u⟩:=x
 change t1j std (s,q,u)=_ at f
 unfold t1j at f
 cases g:Nat.ble s.size 1000000 with
 |false=>rw [g] at f; cases f
 |true=>
  rw [g] at f
  cases f
  have g:=eAh g
  refine ⟨eAo _,?_⟩
  show z3m _ 126 [.d (.str s), .d (.str q)] [] (.d (.str (v8s s q))) []
  refine z2n fun ρ n w k l h=>?_
  obtain ⟨a,b,rfl,i,c⟩:=w7n h
  cases i with|d i=>cases c with|d c=>
  cases i; cases c
  exact (Any.strings_TrimSuffix v5w s q w (by omega)).mono fun e m ⟨he,j⟩=>⟨_,he, .d (.str _),j▸Below.refl _ _⟩
def y1d (s sep:ByteArray):List ByteArray:=Lib.splitB sep 0 (Lib.countB s sep) s
def z4l (l:List ByteArray):List (List D):=l.map fun s=>[.str s]
def w0b:Ctr:=⟨125,[.str, .str],[],[(.ret,⟨[(0, .list 1)],[],1⟩)]⟩
def t1k (_:Prim) (x:ByteArray×(ByteArray×Unit)):Option (List (List D)×Unit):=bif Nat.ble x.1.size 1000000&&Nat.ble 1 x.2.1.size then some (z4l (y1d x.1 x.2.1),()) else none
def t2v:Prim→Tup (w0b).scs→Option (STup (scss (w0b).outs)):=fun p x=>t1k p x
theorem hi9:(Tryz.prog.info? (y65.t 9)).map (fun i=>(i.zero,i.size,i.bytes))=some (some (.string ByteArray.empty),1,16):=by kernel_rfl
theorem u6o:CtrOk Tryz.prog w0b (t2v std):=by
 refine ⟨enters_of Tryz.func125 rfl rfl,fun x y l=>?_⟩
 obtain ⟨s,sep,u⟩:=x
 change t1k std (s,sep,u)=_ at l
 unfold t1k at l
 cases t:(Nat.ble s.size 1000000&&Nat.ble 1 sep.size) with
 |false=>rw [t] at l; cases l
 |true=>
  rw [t] at l
  cases l
  simp only [eAc] at t
  have N:=eAh t.1
  have q:=eAh t.2
  refine ⟨eAo _,?_⟩
  show z3m _ 125 [.d (.str s), .d (.str sep)] [] (.d (.list false 1 (z4l (y1d s sep)))) []
  refine y8t fun ρ P w v C B E=>?_
  obtain ⟨a,b,rfl,F,h⟩:=w7n E
  cases F with|d F=>cases h with|d h=>
  cases F; cases h
  obtain ⟨m,hm⟩:=y4j B t1r
  refine (Any.strings_Split w9o hi9 s sep m w (by omega) hm q).mono fun e G ⟨he,H⟩=>⟨_,he,?_,?_⟩
  ·have c:(y1d s sep).length=Lib.countB s sep+1:=Lib.splitB_all sep q 0 _ s rfl
   have z:z4l (y1d s sep)≠[]:=by
    intro e
    have:=congrArg List.length e
    simp [z4l,c] at this
   have n:(z4l (y1d s sep)).length=Lib.countB s sep+1:=by simp [z4l,c]
   have g:∀ k,k<Lib.countB s sep+1→G.cell? ⟨w.heap.size,k,none⟩=some (.string ((y1d s sep).getD k ByteArray.empty)):=by
    intro k A
    rw [H]
    unfold World.cell? World.alloc
    have o:k<(y1d s sep).length:=by omega
    simp [y1d] at o⊢
    simp [o]
   have key:=z1k.list (O:=z0d ρ []) (w:=G) false (z4l (y1d s sep)) w.heap.size 0 1 (Lib.countB s sep+1) (by omega) z (fun K=>by
     rcases K with M|⟨id,L,I,_⟩
     ·exact Nat.lt_irrefl _ (C _ M)
     ·rw [v id] at I; cases I) (by omega) (by simp) (fun i r f=>by
     unfold z4l at f
     rw [eAf] at f
     obtain ⟨x,_,rfl⟩:=eBm.1 f
     rfl) (fun k=> .string ((y1d s sep).getD k ByteArray.empty)) (fun k _=>rfl) (fun k A=>by
     rw [eCn,n] at A
     rw [eAq]
     exact g k A) (fun i r j d f p=>by
     unfold z4l at f
     rw [eAf] at f
     obtain ⟨x,J,rfl⟩:=eBm.1 f
     match j,p with
     |0,p=>
      cases p
      rw [eCn,eBa,eAn,J]
      exact .str _
     |j+1,p=>simp at p)
   rw [n] at key
   exact .d key
  ·rw [H]; exact (Below.refl _ w).alloc (eAj _) _
def v8l (s sep:ByteArray):ByteArray×ByteArray×Bool:=(⟨(Lib.cut s.data.toList sep.data.toList).1.toArray⟩,⟨(Lib.cut s.data.toList sep.data.toList).2.1.toArray⟩,(Lib.cut s.data.toList sep.data.toList).2.2)
def v0t:Ctr:=⟨87,[.str, .str],[],[(.ret,⟨[(0, .tuple [.str, .str, .bool])],[],1⟩)]⟩
def G87 (_:Prim) (x:ByteArray×(ByteArray×Unit)):Option (ByteArray×(ByteArray×(Bool×Unit))):=bif Nat.ble x.1.size 1000000 then some ((v8l x.1 x.2.1).1,((v8l x.1 x.2.1).2.1,((v8l x.1 x.2.1).2.2,()))) else none
def F87:Prim→Tup (v0t).scs→Option (STup (scss (v0t).outs)):=fun p x=>G87 p x
theorem ok87:CtrOk Tryz.prog v0t (F87 std):=by
 refine ⟨enters_of Tryz.func87 rfl rfl,fun x y g=>?_⟩
 obtain ⟨s,sep,u⟩:=x
 change G87 std (s,sep,u)=_ at g
 unfold G87 at g
 cases h:Nat.ble s.size 1000000 with
 |false=>rw [h] at g; cases g
 |true=>
  rw [h] at g
  cases g
  have h:=eAh h
  refine ⟨eAo _,?_⟩
  show z3m _ 87 [.d (.str s), .d (.str sep)] [] (.tuple [.d (.str (v8l s sep).1), .d (.str (v8l s sep).2.1), .d (.bool (v8l s sep).2.2)]) []
  refine z2n fun ρ r w p j k=>?_
  obtain ⟨a,b,rfl,l,f⟩:=w7n k
  cases l with|d l=>cases f with|d f=>
  cases l; cases f
  obtain ⟨m,hm⟩:=y4j j t1r
  refine (Any.strings_Cut v9x s sep m w (by omega) hm).mono fun e q ⟨he,n,o⟩=>⟨_,he, .tuple _ _ rfl fun i x c=>?_,?_⟩
  ·match i,c with
   |0,c=>cases c; exact .d (.str _)
   |1,c=>cases c; exact .d (.str _)
   |2,c=>cases c; exact .d (.bool _)
   |i+3,c=>simp at c
  ·rw [o]; exact ⟨rfl,rfl,rfl,eAj _,fun _ _=>rfl⟩
def x99:Ctr:=⟨127,[.str, .int .i64, .int .i64],[],[(.ret,⟨[(0, .tuple [.int .i64, .nili])],[],1⟩),(.ret,⟨[(0, .tuple [.int .i64, .ifc 196])],[],1⟩)]⟩
def t1i (_:Prim) (x:ByteArray×(Int×(Int×Unit))):Option ((Int×Unit)⊕(Int×Unit)):=
 bif Nat.ble x.1.size 1000000&&(decide (x.2.1=10)&&decide (x.2.2.1=64)) then
  match Lib.parseIntB 64 x.1.data.toList with
  | .ok v=>some (.inl (v,()))
  | .range=>some (.inr (Lib.intSat 64 x.1.data.toList,()))
  |_=>some (.inr (0,()))
 else none
def t2t:Prim→Tup (x99).scs→Option (STup (scss (x99).outs)):=fun p x=>t1i p x
theorem u6m:CtrOk Tryz.prog x99 (t2t std):=by
 refine ⟨enters_of Tryz.func127 rfl rfl,fun (x:ByteArray×(Int×(Int×Unit))) y m=>?_⟩
 obtain ⟨s,b,k,u⟩:=x
 change t1i std (s,b,k,u)=_ at m
 unfold t1i at m
 cases r:(Nat.ble s.size 1000000&&(decide (b=10)&&decide (k=64))) with
 |false=>rw [r] at m; cases m
 |true=>
  rw [r] at m
  simp only [eAc,decide_eq_true_eq] at r
  obtain ⟨I,rfl,rfl⟩:=r
  have I:=eAh I
  simp only [cond_true] at m
  split at m
  ·rename_i v B
   cases m
   refine ⟨eAo _,?_⟩
   show z3m _ 127 [.d (.str s), .d (.int .i64 10), .d (.int .i64 64)] [] (.tuple [.d (.int .i64 v), .d .nili]) []
   refine z2n fun ρ H w q n j=>?_
   obtain ⟨a,b,c,rfl,l,g,h⟩:=v7r j
   cases l with|d l=>cases g with|d g=>cases h with|d h=>
   cases l; cases g; cases h
   refine (Any.strconv_ParseInt_10_at64_ok x68 s (by omega) v B w).mono fun e G ⟨he,p⟩=>⟨_,he, .tuple _ _ rfl fun i x f=>?_,?_⟩
   ·match i,f with
    |0,f=>cases f; exact .d (.int _ _)
    |1,f=>cases f; exact .d .nili
    |i+2,f=>simp at f
   ·rcases p with rfl|⟨t,rfl⟩
    ·exact Below.refl _ _
    ·exact Go.Joins.below_bytesWorld _ _ _ _ (eAj _)
  ·rename_i B
   cases m
   refine ⟨eAo _,?_⟩
   show z3m _ 127 [.d (.str s), .d (.int .i64 10), .d (.int .i64 64)] [] (.tuple [.d (.int .i64 (Lib.intSat 64 s.data.toList)), .iface 196 .bot]) []
   refine z2n fun ρ H w q n j=>?_
   obtain ⟨a,b,c,rfl,l,g,h⟩:=v7r j
   cases l with|d l=>cases g with|d g=>cases h with|d h=>
   cases l; cases g; cases h
   obtain ⟨F,o,C⟩:=x4x n shp3
   refine (Any.strconv_ParseInt_10_at64_range x68 s (by omega) B F w o C).mono fun e G ⟨N,he,_,_,p⟩=>⟨_,he, .tuple _ _ rfl fun i x f=>?_,p⟩
   match i,f with
   |0,f=>cases f; exact .d (.int _ _)
   |1,f=>cases f; exact .iface _ _ _ (.bot _)
   |i+2,f=>simp at f
  ·rename_i A z
   cases m
   refine ⟨eAo _,?_⟩
   show z3m _ 127 [.d (.str s), .d (.int .i64 10), .d (.int .i64 64)] [] (.tuple [.d (.int .i64 0), .iface 196 .bot]) []
   refine z2n fun ρ H w q n j=>?_
   obtain ⟨a,b,c,rfl,l,g,h⟩:=v7r j
   cases l with|d l=>cases g with|d g=>cases h with|d h=>
   cases l; cases g; cases h
   obtain ⟨F,o,C⟩:=x4x n shp2
   cases E:Lib.parseIntB 64 s.data.toList with
   |ok v=>exact absurd E (A v)
   |range=>exact absurd E z
   |_=>
   refine (Any.strconv_ParseInt_10_at64_syntax x68 s (by omega) E F w o C).mono fun e G ⟨N,he,_,_,p⟩=>⟨_,he, .tuple _ _ rfl fun i x f=>?_,p⟩
   match i,f with
   |0,f=>cases f; exact .d (.int _ _)
   |1,f=>cases f; exact .iface _ _ _ (.bot _)
   |i+2,f=>simp at f
end Go.Am
end
noncomputable section
namespace Go.Am
def t0k:Ctr:=
 ⟨84,[.agg [.int .i64, .int .i64, .list 1, .int .i64]],[],[(.ret,⟨[(0, .str)],[],1⟩)]⟩
def la84:List LA:=
 [⟨84,[fU,tU,fU,tU,tU,tU],0,⟨⟨[(1, .bptr 0 0),(4, .sl 1 1),(17, .list 1),(18, .int .i64),(19, .int .i64)],[o0m, .row [CK.str]],37⟩,[((AX.exit 0),⟨[(1, .bptr 0 0),(4, .sl 1 1)],[o0m, .row [CK.str]],37⟩)]⟩⟩]
def ja84:List JA:=
 []
def u8f:List CF:=
 [⟨x48,t1l⟩,⟨x49,t1m⟩,⟨v7g,G55⟩]
def an84:Anns:=
 ⟨u8f,ja84,[]⟩
def w6y (p:Prim):V49v→Option (V49v⊕(LD×(Int×(Int×(LD×(Int×V16v)))))):=
 fun a=>let A:=a.2.2.2.2.2.2.2.2.2.1;let B:=a.2.2.2.2.2.2.1;let C:=a.2.2.2.2.2.2.2.1;let E:=a.2.2.2.2.2.1; opt.run _ (
 opt.ask _ (p.cmp .lss A a.2.2.2.2.2.2.2.2.1) (
 opt.need _ (p.rowOk C (p.nat A) [ci])<|
 opt.need _ (p.cmp .geq A (0:Int))<|
 opt.bnd (V46v) _ (v4d p ((p.rdI C (p.nat A) 0),((10:Int),()))) fun b=>
 opt.need _ (p.and (p.leN (p.add 0 1) (p.len [[(D.str b.1)]])) (p.and (p.leN (p.add E B) (p.len a.1)) (p.and (p.leN 1 1) (p.leN (p.add B 1) 1000000))))<|
 opt.ret _ (Sum.inl ((p.app (p.cut a.1 E B) (p.cut [[(D.str b.1)]] 0 1)),(a.2.1,(a.2.2.1,(a.2.2.2.1,(a.2.2.2.2.1,(0,((p.add B 1),(C,(a.2.2.2.2.2.2.2.2.1,((p.ar .add .i64 A (1:Int)),())))))))))))) (
 opt.ret _ (Sum.inr (a.1,(a.2.1,(a.2.2.1,(a.2.2.2.1,(a.2.2.2.2.1,(E,(B,()))))))))))
def G84:(p:Prim)→V18v→Option (V46v):=
 fun p x=>
 opt.bnd (V14v) _ (G55 p (x.2.1,())) fun a=>
 opt.bnd (V46v) _ (v4d p (x.1,((10:Int),()))) fun b=>let C:=[[(D.str a.1)],[(D.str b.1)]];
 opt.need _ (p.leN (p.add 0 2) (p.len C))<|
 opt.bnd ((LD×(Int×(Int×(LD×(Int×V16v)))))) _ (
 z1e (w6y p) (C,(x.1,(x.2.1,(x.2.2.1,(x.2.2.2.1,(0,(2,(x.2.2.1,((p.ofNat (p.len x.2.2.1)),((0:Int),()))))))))))) fun c=>let B:=c.2.2.2.2.2.2.1;
 opt.bnd (V46v) _ (v4d p (c.2.2.2.2.1,((10:Int),()))) fun d=>let A:=p.app (p.cut c.1 c.2.2.2.2.2.1 B) (p.cut [[(D.str d.1)]] 0 1);
 opt.need _ (p.and (p.leN (p.add 0 1) (p.len [[(D.str d.1)]])) (p.and (p.leN (p.add c.2.2.2.2.2.1 B) (p.len c.1)) (p.and (p.leN 1 1) (p.leN (p.add B 1) 1000000))))<|
 opt.need _ (p.and (p.leN (p.add 0 (p.add B 1)) (p.len A)) (p.and Bool.true Bool.true))<|
 opt.bnd (V46v) _ (v78 p ((p.cut A 0 (p.add B 1)),((ByteArray.mk #[32]),()))) fun e=>
 opt.need _ (p.leN (p.add (p.slen e.1) (p.slen (ByteArray.mk #[10]))) 1000000)<|
 opt.ret _ ((p.scat e.1 (ByteArray.mk #[10])),())
theorem ok84:CtrOk PG t0k (G84 std):=okF vE (a:=an84) (l:=la84) (gC v9l (gC v9m (gC t14 (gN))))
end Go.Am
end
section
namespace Go.Am
open D12
def sp:ByteArray:=ByteArray.mk #[32]
def nl:ByteArray:=ByteArray.mk #[10]
def y61 (c:Cd):List ByteArray:=z9a c.k::z4u c.n::c.t.map z4u++[z4u c.a]
def z9v (c:Cd):ByteArray:=z5u (y61 c) sp++nl
def u5a (c:Cd):Prop:=y8l c.n=true∧(∀ x∈c.t,y8l x=true)∧y8l c.a=true
theorem x7x {n:Int} (h:y8l n=true):v4d std (n,(10,()))=some (z4u n,()):=by
 unfold v4d
 simp [h]
theorem w04 (l:List ByteArray):w05 (z4l l)=some l:=by
 induction l with
 |nil=>rfl
 |cons x l a=>simp only [z4l,eDq,w05] at a⊢; rw [a]
theorem v77 {l:List ByteArray} {sep:ByteArray} (h:(z5u l sep).size≤1000000) (a:l.length≤1000000):v78 std (z4l l,(sep,()))=some (z5u l sep,()):=by
 unfold v78
 rw [w04]
 have c:Nat.ble (z5u l sep).size 1000000=true:=eBj h
 have b:Nat.ble l.length 1000000=true:=eBj a
 simp [c,b]
theorem y6b (l:List ByteArray):(z4l l).length=l.length:=by simp [z4l]
theorem w8p (s:ByteArray):std.slen s=s.size:=rfl
theorem w8q (s t:ByteArray):std.scat s t=s++t:=rfl
theorem v1h (c:Cd) (p:u5a c) (r:c.t.length≤1000):
  z1e (w6y std) (z4l [z9a c.k,z4u c.n],(c.n,(c.k,(z0e c.t,(c.a,(0,(2,(z0e c.t,((c.t.length:Int),((0:Int),()))))))))))=
   some (z4l (z9a c.k::z4u c.n::c.t.map z4u),(c.n,(c.k,(z0e c.t,(c.a,(0,(2+c.t.length,()))))))):=by
 have key:=w9v (b:=w6y std) c.t.length (fun i=>(z4l (z9a c.k::z4u c.n::(c.t.take i).map z4u),(c.n,(c.k,(z0e c.t,(c.a,(0,(2+i,(z0e c.t,((c.t.length:Int),((i:Int),())))))))))))
  (z4l (z9a c.k::z4u c.n::c.t.map z4u),(c.n,(c.k,(z0e c.t,(c.a,(0,(2+c.t.length,()))))))) (fun i o=>by
   obtain ⟨m,hm⟩:=z0i o
   obtain ⟨j,q⟩:=stp i (by omega)
   have g:(i:Int)<c.t.length:=by omega
   have e:(z4l (z9a c.k::z4u c.n::(c.t.take i).map z4u)).length=2+i:=by rw [y6b]; simp; omega
   have d:z4l (z9a c.k::z4u c.n::(c.t.take i).map z4u)++[[D.str (z4u m)]]=z4l (z9a c.k::z4u c.n::(c.t.take (i+1)).map z4u):=by
    rw [eCs,hm]; simp [z4l]
   have f:=x7x (p.2.1 m (eAi hm))
   generalize z4l (z9a c.k::z4u c.n::(c.t.take i).map z4u)=L at e d⊢
   have h:2+i≤999999:=by omega
   simp only [w6y,y3r,x0p,y89,x0h,y88,y1q,z6w,x07,y54,y3j,y3k,x09,y53,z7v,y1r,x6f,rdD,y52,z79,w0k,x08,z0e,eAf,eAw,eBp,eBb,eCz,hm,g,q,j,z1b,z6e,f,decide_true,if_true,ge_iff_le]
   simp [e,d,h,y25,eBd]
   omega) (by
   have l:¬ (c.t.length:Int)<c.t.length:=by omega
   rw [eBi]
   simp only [w6y,z0k,z0l,l])
 exact key
theorem u2z (c:Cd) (i:u5a c) (o:c.t.length≤1000) (m:(z9v c).size≤1000000):G84 std (c.n,(c.k,(z0e c.t,(c.a,()))))=some (z9v c,()):=by
 have p:=v1h c i o
 have j:z4l (z9a c.k::z4u c.n::c.t.map z4u)++[[D.str (z4u c.a)]]=z4l (y61 c):=by simp [z4l,y61]
 have e:(z4l (z9a c.k::z4u c.n::c.t.map z4u)).length=2+c.t.length:=by rw [y6b]; simp; omega
 have d:(z5u (y61 c) sp).size+(ByteArray.mk #[10]).size≤1000000:=by
  have:(z9v c).size=(z5u (y61 c) sp).size+nl.size:=ByteArray.size_append
  unfold nl at this
  omega
 have f:=v77 (l:=y61 c) (sep:=sp) (by omega) (by simp [y61]; omega)
 have g:(z4l (y61 c)).length=2+c.t.length+1:=by rw [y6b]; simp [y61]; omega
 unfold G84
 have q:[[D.str (z9a c.k)],[D.str (z4u c.n)]]=z4l [z9a c.k,z4u c.n]:=rfl
 simp only [y3r,x0p,y89,x0h,y88,y1q,z6w,x07,y54,y3j,y3k,x09,y53,x08,eBp,v4a,x7x i.1,x7x i.2.2,z0r,q,p]
 generalize z4l (z9a c.k::z4u c.n::c.t.map z4u)=L at e j
 have h:2+c.t.length≤999999:=by omega
 have b:v78 std (z4l (y61 c),(ByteArray.mk #[32],()))=some (z5u (y61 c) sp,()):=f
 simp [e,j,h,g,y25,eBd,b,w8p,w8q,d]
 exact ⟨by simp [z4l],rfl⟩
end Go.Am
end
section
namespace Go.Am
open Go Go.RowKit Go.Proofs D12
theorem y2t {T e:TypeId} {B b:Nat} {a:List Value} {w w':World} (h:Lib.IsBuilder T e B b a w) (l:∀ k,k<w.heap.size→w'.heap[k]?=w.heap[k]?):Lib.IsBuilder T e B b a w':=by
 have key:∀ p,Lib.BuilderAt T e B b p a w→Lib.BuilderAt T e B b p a w':=by
  rintro p ⟨n,v,j,⟨o,f⟩,c⟩
  have d:b<w.heap.size:=(eAe.1 j).1
  refine ⟨n,v,(l b d).trans j,⟨o,?_⟩,c⟩
  rcases f with f|⟨g,cap,i,s,r,m,q⟩
  ·exact .inl f
  ·have hg:g<w.heap.size:=(eAe.1 m).1
   exact .inr ⟨g,cap,i,s,r,(l g hg).trans m,q⟩
 exact h.imp (key _) (key _)
theorem y7p {P:Program} {g:FuncId} {args:List AV} {r:AV} {h':List AO} (t:z3m P g args [] r h') {vs:Array Value} {w:World} (hg:GL P (fun _=>False) w) (j:∀ ρ:Rho,z04 ρ (fun _=>False) w args vs):
  Calls P g vs w fun e w'=>∃ v,e= .returned v∧(∃ (ρ:Rho) (O:Nat→Prop),z0n ρ O w' r v)∧Below w.heap.size w w':=by
 intro cs
 let i:Rho:=⟨fun _=>none,fun _=>False⟩
 have a:z0d i []=fun _=>False:=by
  funext c
  apply propext
  refine ⟨fun h=>?_,False.elim⟩
  rcases h with h|⟨id,L,d,_⟩
  ·exact h
  ·cases d
 have p:z0b P i [] w:=⟨fun id L d=>(by cases d),fun id o L y d=>(by cases d),fun b s=>s.elim,fun id L d=>(by cases d),a▸hg⟩
 obtain ⟨ρ',v,w',fr,s1,n,m,l,x,u,f⟩:=t.run i vs w cs p (fun id hid=>absurd rfl hid) (a▸j i)
 exact ⟨.returned v,w',fr,⟨v,rfl,⟨_,_,l⟩,⟨f.os,f.tape,f.output,f.keep.size,fun k q=>f.keep.frame k q (by rw [a]; exact id)⟩⟩,s1,n,m⟩
theorem w90 {P:Program} {w w':World} (hg:GL P (fun _=>False) w) (a:Below w.heap.size w w'):GL P (fun _=>False) w':=hg.keep (z6n a)
def y7x (l:List Cd) (w:World) (v:Value):Prop:=z1k (fun _=>False) w (.list false 4 (z0a (fun _=>false) l)) v
theorem u2d {l:List Cd} {w:World} {v:Value} (hg:GL Tryz.prog (fun _=>False) w) (c:y7x l w v) (f:Few l):Calls Tryz.prog 19 #[v] w fun e w'=>e= .returned (.int .i64 (z0w l))∧Below w.heap.size w w':=by
 have h:=y4q (fl:=fun _=>false) l f
 have j:z3m Tryz.prog 19 [.d (.list false 4 (z0a (fun _=>false) l))] [] (.d (.int .i64 (z0w l))) []:=(v9k.2 (z0a (fun _=>false) l,()) (z0w l,()) h).2
 refine (y7p j hg fun ρ=>⟨rfl,fun i x a=>?_⟩).mono fun e w' ⟨u,he,⟨_,_,b⟩,g⟩=>⟨?_,g⟩
 ·match i,a with
  |0,a=>cases a; exact .d c
  |i+1,a=>simp at a
 ·cases b with|d b=>cases b; exact he
theorem u2c {c:Cd} {w:World} {t:Value} (hg:GL Tryz.prog (fun _=>False) w) (j:z1k (fun _=>False) w (.list false 1 (z0e c.t)) t) (p:u5a c) (l:c.t.length≤1000) (h:(z9v c).size≤1000000):
  Calls Tryz.prog 84 #[.agg #[.int .i64 c.n, .int .i64 c.k,t, .int .i64 c.a]] w fun e w'=>e= .returned (.string (z9v c))∧Below w.heap.size w w':=by
 have o:z3m Tryz.prog 84 [.d (.agg [.int .i64 c.n, .int .i64 c.k, .list false 1 (z0e c.t), .int .i64 c.a])] [] (.d (.str (z9v c))) []:=(ok84.2 (c.n,(c.k,(z0e c.t,(c.a,())))) (z9v c,()) (u2z c p l h)).2
 refine (y7p o hg fun ρ=>⟨rfl,fun i x f=>?_⟩).mono fun e w' ⟨u,he,⟨_,_,g⟩,m⟩=>⟨?_,m⟩
 ·match i,f with
  |0,f=>
   cases f
   refine .d (.agg _ _ rfl fun i d b=>?_)
   match i,b with
   |0,b=>cases b; exact .int _ _
   |1,b=>cases b; exact .int _ _
   |2,b=>cases b; exact j
   |3,b=>cases b; exact .int _ _
   |i+4,b=>simp at b
  |i+1,f=>simp at f
 ·cases g with|d g=>cases g; exact he
def y3z (l:List Cd):ByteArray:=l.foldl (fun s c=>s++z9v c) ByteArray.empty
theorem w6s {l:List Cd} {w:World} {v:Value} (g:y7x l w v):∃ a c,v= .slice a l.length c∧l.length≤c∧
  ∀ (k:Nat) (x:Cd),l[k]?=some x→∃ b o t,a=some ⟨b,o,none⟩∧b<w.heap.size∧w.cell? ⟨b,o+k*4,none⟩=some (.int .i64 x.n)∧w.cell? ⟨b,o+k*4+1,none⟩=some (.int .i64 x.k)∧
   w.cell? ⟨b,o+k*4+2,none⟩=some t∧w.cell? ⟨b,o+k*4+3,none⟩=some (.int .i64 x.a)∧z1k (fun _=>False) w (.list false 1 (z0e x.t)) t:=by
 unfold y7x at g
 generalize he:z0a (fun _=>false) l=es at g
 have e:es.length=l.length:=by rw [←he]; simp [z0a]
 cases g with
 |lnil _ _ a c h=>
  have:l=[]:=by cases l with|nil=>rfl|cons _ _=>cases he
  subst this
  exact ⟨a,c,rfl,eAo _,fun k x h=>by simp at h⟩
 |list _ _ b o z c J C hO E K B cell L f h=>
  refine ⟨some ⟨b,o,none⟩,c,by rw [e],by omega,fun k x j=>?_⟩
  have F:k<l.length:=(eAa.1 j).1
  have d:es[k]?=some (eC (fun _=>false) x):=by rw [←he]; simp [z0a,j]
  have r:=h k _ 0 _ d (show (eC (fun _=>false) x)[0]?=some (.int .i64 x.n) from rfl)
  have q:=h k _ 1 _ d (show (eC (fun _=>false) x)[1]?=some (.int .i64 x.k) from rfl)
  have p:=h k _ 2 _ d (show (eC (fun _=>false) x)[2]?=some (.list false 1 (z0e x.t)) from rfl)
  have m:=h k _ 3 _ d (show (eC (fun _=>false) x)[3]?=some (.int .i64 x.a) from rfl)
  have i:=f (k*4+0) (by omega)
  have y:=f (k*4+1) (by omega)
  have u:=f (k*4+2) (by omega)
  have s:=f (k*4+3) (by omega)
  generalize cell (k*4+0)=I at r i
  generalize cell (k*4+1)=H at q y
  generalize cell (k*4+2)=A at p u
  generalize cell (k*4+3)=G at m s
  cases r; cases q; cases m
  exact ⟨b,o,A,rfl,y2b i,i,y,u,s,p⟩
theorem w2g {l:List Cd} {k:Nat} {x:Cd} (h:l[k]?=some x):(y3z (l.take (k+1))).data.toList=(y3z (l.take k)).data.toList++(z9v x).data.toList:=by
 have:l.take (k+1)=l.take k++[x]:=by rw [eCs,h]; rfl
 rw [this]
 simp [y3z,List.foldl_append]
theorem w2h {l:List Cd} (h:∀ c∈l,(z9v c).size≤1000):(y3z l).size≤l.length*1000:=by
 have key:∀ (l:List Cd) (s:ByteArray),(∀ c∈l,(z9v c).size≤1000)→(l.foldl (fun s c=>s++z9v c) s).size≤s.size+l.length*1000:=by
  intro l
  induction l with
  |nil=>intro s _; simp
  |cons a r b=>
   intro s h
   have:=b (s++z9v a) fun c d=>h c (eBc _ d)
   have e:=h a (eAu ..)
   rw [ByteArray.size_append] at this
   simp only [eCj,eBn]
   omega
 have:=key l ByteArray.empty h
 simpa [y3z] using this
set_option maxHeartbeats 1000000 in
theorem v4f {l:List Cd} {w:World} {v:Value} (hg:GL Tryz.prog (fun _=>False) w) (hv:y7x l w v) (hf:Few l) (hlen:l.length≤1000000) (hI:z0w l=0→∀ c∈l,u5a c∧c.t.length≤1000∧(z9v c).size≤1000):
  Calls Tryz.prog 37 #[v] w fun e w'=>e= .returned (.tuple #[.string (if z0w l=0 then y3z l else ByteArray.empty), .int .i64 (z0w l)])∧Below w.heap.size w w':=by
 have h19:=u2d hg hv hf
 by_cases hd:z0w l=0
 ·rw [hd] at h19⊢
  rw [if_pos rfl]
  obtain ⟨a,c,rfl,hcap,hcl⟩:=w6s hv
  have HI:=Any.hidJ (hI hd)
  have HV:=Any.hidJ hcl
  have HG:=Any.hidJ hg
  clear hI hcl hg hv hf
  go_enter Tryz.func37,Tryz.ntmps37
  go_wp2_with (go_at_call 19; refine h19.mono ?_)
  rintro e W1 ⟨rfl,b1⟩
  have h0:=Lib.fresh_isBuilder 118 5 W1
  have H0:Hid (Lib.IsBuilder 118 5 W1.heap.size W1.heap.size (Lib.byteCells (y3z (l.take 0)).data.toList) (W1.alloc (.cells #[.pointer none, .slice none 0 0] 118))):=Any.hidJ h0
  have B1:=Any.hidJ b1
  clear h0 h19
  go_wp2_with fail
  go_loopw [15] (fun i wr=>∃ k:Nat,k≤l.length∧i= .int .i64 k∧Hid (Lib.IsBuilder 118 5 W1.heap.size W1.heap.size (Lib.byteCells (y3z (l.take k)).data.toList) wr)∧Hid (Below W1.heap.size W1 wr)) (fun i _=>l.length - (Proofs.intOf i).toNat)
  case atStart=>exact ⟨0,eAo _,rfl,H0,Any.hidJ ((Below.refl W1.heap.size W1).alloc (eAj _) _)⟩
  case round=>
   obtain ⟨k,hk,rfl,HB,HW⟩:=hrel
   by_cases hkl:k<l.length
   ·obtain ⟨x,hx⟩:∃ x,l[k]?=some x:=⟨l[k],eAb hkl⟩
    obtain ⟨b,o,t,rfl,hb,c0,c1,c2,c3,ht⟩:=HV.out k x hx
    have kp:Below w.heap.size w wr:=B1.out.trans (HW.out.mono B1.out.size)
    have d0:=(kp.cell (p:=⟨b,o+k*4,none⟩) hb).trans c0
    have d1:=(kp.cell (p:=⟨b,o+k*4+1,none⟩) hb).trans c1
    have d2:=(kp.cell (p:=⟨b,o+k*4+2,none⟩) hb).trans c2
    have d3:=(kp.cell (p:=⟨b,o+k*4+3,none⟩) hb).trans c3
    obtain ⟨a',n',c',rfl⟩:∃ a' n' c',t= .slice a' n' c':=by
     generalize z0e x.t=q at ht
     cases ht with
     |lnil _ _ a c h=>exact ⟨_,_,_,rfl⟩
     |list=>exact ⟨_,_,_,rfl⟩
    have HT:=Any.hidJ ht
    have HK:=Any.hidJ kp
    clear c0 c1 c2 c3 ht kp
    have hxl:x∈l:=eAi hx
    have hn:Lib.byteCells (y3z (l.take (k+1))).data.toList=Lib.byteCells (y3z (l.take k)).data.toList++Lib.strCells (z9v x):=by
     rw [w2g hx,Lib.byteCells_append]; rfl
    have hl0:(Lib.byteCells (y3z (l.take k)).data.toList).length+(z9v x).size≤140737488355328:=by
     rw [Lib.byteCells_length, ←Lib.size_eq]
     have e1:=w2h (l:=l.take k) fun c hc=>(HI.out c (List.mem_of_mem_take hc)).2.2
     have e2:=(HI.out x hxl).2.2
     have e3:(l.take k).length≤k:=by simp; omega
     have e4:(l.take k).length*1000≤k*1000:=eAv _ e3
     omega
    have HN:=Any.hidJ hn
    clear hn
    go_wp2_with fail
    have kp:=HK.out.trans ((Below.refl w.heap.size wr).alloc HK.out.size (.cells #[.int .i64 x.n, .int .i64 x.k, .slice a' n' c', .int .i64 x.a] 29))
    have k2:=HW.out.trans ((Below.refl W1.heap.size wr).alloc HW.out.size (.cells #[.int .i64 x.n, .int .i64 x.k, .slice a' n' c', .int .i64 x.a] 29))
    have hb0:=y2t (w':=wr.alloc (.cells #[.int .i64 x.n, .int .i64 x.k, .slice a' n' c', .int .i64 x.a] 29)) HB.out fun j hj=>Below.heap_alloc _ _ _ hj
    have hi:=HI.out x hxl
    refine (u2c (w90 HG.out kp) (HT.out.keep (z6n kp)) hi.1 hi.2.1 (by omega)).mono ?_
    rintro e w3 ⟨rfl,b3⟩
    have hb1:=y2t hb0 fun j hj=>b3.block j hj
    have k3:=k2.trans (b3.mono k2.size)
    have HB1:=Any.hidJ hb1
    have K3:=Any.hidJ k3
    clear kp k2 hb0 hb1 k3 b3 hi
    go_wp2_with fail
    refine (Any.Builder_WriteString { x1u with } y2y W1.heap.size W1.heap.size _ (z9v x) w3 HB1.out hl0 K3.out.size).mono ?_
    rintro e w4 ⟨rfl,h4,b4⟩
    rw [←HN.out] at h4
    have H4:=Any.hidJ (Or.inr h4:Lib.IsBuilder 118 5 W1.heap.size W1.heap.size _ w4)
    have K4:=Any.hidJ (K3.out.trans b4)
    clear h4 b4
    go_wp2
    exact ⟨⟨k+1,by omega,by go_num,H4,K4⟩,by simp [Proofs.intOf]; omega⟩
   ·have hke:k=l.length:=by omega
    subst hke
    have hB':=HB.out
    rw [eBi] at hB'
    go_wp2_with fail
    refine (Any.Builder_String_any { x1u with } y2y W1.heap.size W1.heap.size _ wr hB' HW.out.size).mono ?_
    rintro e w5 ⟨rfl,hb5⟩
    have Hb5:=Any.hidJ (HW.out.trans hb5)
    clear hb5 hB'
    go_wp2
    go_ret2
    exact ⟨rfl,B1.out.trans (Hb5.out.mono B1.out.size)⟩
 ·have hb:(z0w l !=0)=true:=by simpa using hd
  rw [if_neg hd]
  go_enter Tryz.func37,Tryz.ntmps37
  go_wp2_with (go_at_call 19; refine h19.mono ?_)
  rintro e W1 ⟨rfl,b1⟩
  go_wp2_with fail
  go_ret2; exact ⟨rfl,b1⟩
end Go.Am
end
section
namespace Go.Am
open Go Go.RowKit Go.Proofs D12
def z9u:List (List D)→Option (List Cd)
 |[]=>some []
 |[.int .i64 n, .int .i64 k, .list _ 1 es, .int .i64 a]::l=>match y6p es,z9u l with
  |some t,some r=>some (⟨n,k,t,a⟩::r)
  |_,_=>none
 |_=>none
theorem y24:∀ {es:List (List D)} {l:List Cd},z9u es=some l→es.length=l.length∧∀ (i:Nat) (r r':List D),es[i]?=some r→(z0a (fun _=>false) l)[i]?=some r'→y7t r r'
 |[],l,h=>by cases h; exact ⟨rfl,fun i r r' h=>by simp at h⟩
 |q::es,l,h=>by
  unfold z9u at h
  split at h
  ·rename_i heq; cases heq
  ·rename_i n k b o a p heq
   cases heq
   split at h
   ·rename_i t r f hr
    cases h
    obtain ⟨m,g⟩:=y24 hr
    refine ⟨by simp [m],fun i r r' e d=>?_⟩
    match i,e,d with
    |0,e,d=>
     cases e
     cases d
     refine ⟨rfl,fun j y c=>?_⟩
     match j,c with
     |0,c=>cases c; exact ⟨_,rfl, .refl _⟩
     |1,c=>cases c; exact ⟨_,rfl, .refl _⟩
     |2,c=>cases c; exact ⟨_,rfl, .inl (.inr (.inl ⟨1,by rw [y49 f]; rfl, .inl rfl⟩))⟩
     |3,c=>cases c; exact ⟨_,rfl, .refl _⟩
     |j+4,c=>simp [eC] at c
    |i+1,e,d=>exact g i r r' (by simpa using e) (by simpa [z0a] using d)
   ·cases h
  ·cases h
theorem y60 {O:Nat→Prop} {w:World} {es g:List (List D)} {z:Nat} {v:Value} (h:z1k O w (.list false z es) v) (m:es.length=g.length) (hr:∀ (i:Nat) (r r':List D),es[i]?=some r→g[i]?=some r'→y7t r r'):z1k O w (.list false z g) v:=by
 cases h with
 |lnil f z a c C=>
  have:g=[]:=eBr.1 m.symm
  subst this
  exact .lnil false z a c (by simp)
 |list full es b o z c y q hO A C p cell H E h=>
  have get:∀ (i:Nat) (r':List D),g[i]?=some r'→∃ r,es[i]?=some r∧y7t r r':=fun i r' l=>by
   have:i<g.length:=(eAa.1 l).1
   have n:i<es.length:=by omega
   exact ⟨es[i],eAb n,hr i _ _ (eAb n) l⟩
  have:=z1k.list (O:=O) (w:=w) false g b o z c y (fun e=>q (eBr.1 (by rw [m,e]; rfl))) hO (by omega) (by simp) (fun i r' l=>by
   obtain ⟨r,u,t⟩:=get i r' l
   rw [t.1]; exact p i r u) cell (fun k s=>H k (by rw [m]; exact s)) (fun k s=>E k (by rw [m]; exact s)) fun i r' j d l B=>by
   obtain ⟨r,u,t⟩:=get i r' l
   obtain ⟨x,G,F⟩:=t.2 j d B
   exact (h i r j x u G).le F
  rw [m]; exact this
def u5h (l:List Cd):Bool:=
 Nat.ble l.length 1000000&&l.all fun c=>Nat.ble c.t.length 1000&&(!decide (z0w l=0)||(y8l c.n&&c.t.all y8l&&y8l c.a&&Nat.ble (z9v c).size 1000))
def v0z:Ctr:=⟨37,[.list 4],[],[(.ret,⟨[(0, .tuple [.str, .int .i64])],[],1⟩)]⟩
def G37 (_:Prim) (x:List (List D)×Unit):Option (ByteArray×(Int×Unit)):=
 match z9u x.1 with
 |some l=>bif u5h l then some (if z0w l=0 then y3z l else ByteArray.empty,(z0w l,())) else none
 |none=>none
def F37:Prim→Tup (v0z).scs→Option (STup (scss (v0z).outs)):=fun p x=>G37 p x
theorem ok37:CtrOk Tryz.prog v0z (F37 std):=by
 refine ⟨enters_of Tryz.func37 rfl rfl,fun (x:List (List D)×Unit) y b=>?_⟩
 obtain ⟨es,u⟩:=x
 change G37 std (es,u)=_ at b
 unfold G37 at b
 cases o:z9u es with
 |none=>rw [o] at b; cases b
 |some l=>
  simp only [o] at b
  cases m:u5h l with
  |false=>rw [m] at b; cases b
  |true=>
   rw [m] at b
   cases b
   obtain ⟨C,B⟩:=y24 o
   unfold u5h at m
   simp only [eAc,eAx,eAt,eDa] at m
   obtain ⟨j,k⟩:=m
   have j:=eAh j
   refine ⟨eAo _,?_⟩
   show z3m _ 37 [.d (.list false 4 es)] [] (.tuple [.d (.str (if z0w l=0 then y3z l else ByteArray.empty)), .d (.int .i64 (z0w l))]) []
   refine z2n fun ρ G w v n q=>?_
   obtain ⟨a,rfl,r⟩:=u2p q
   cases r with|d r=>
   have kp:z43 (z0d ρ []) (fun _=>False) w w:=⟨eAj _,fun _ _ _=>rfl,fun _ _ h=>h.elim,fun _ _ h=>h,trivial⟩
   have t:y7x l w a:=(y60 r (by rw [C]; simp [z0a]) B).keep kp
   refine (v4f (n.keep kp) t (fun c p=>eBk (eAh (k c p).1) (by omega)) j fun E c p=>?_).mono fun e F ⟨he,s⟩=>⟨_,he, .tuple _ _ rfl fun i x g=>?_,s⟩
   ·have A:=k c p
    obtain ⟨z,f⟩:=A
    rcases f with f|f
    ·simp [E] at f
    ·exact ⟨⟨f.1.1.1,f.1.1.2,f.1.2⟩,eAh z,eAh f.2⟩
   ·match i,g with
    |0,g=>cases g; exact .d (.str _)
    |1,g=>cases g; exact .d (.int _ _)
    |i+2,g=>simp at g
end Go.Am
end
section
namespace Go.Am
open D12
def ff0:List Int→Bool:=fun _=>false
abbrev eC0 (c:Cd):List D:=[.int .i64 c.n, .int .i64 c.k, .list false 1 (z0e c.t), .int .i64 c.a]
theorem w0e {l:List Cd} {i:Nat} {c:Cd} (h:l[i]?=some c):(z0a ff0 l)[i]?=some (eC0 c):=y3l (fl:=ff0) h
theorem v6s (xs:List D):∀ (i:Nat) (x:AV),(xs.map AV.d)[i]?=some x→x2o x:=fun i x h=>by
 rw [eAf] at h
 cases a:xs[i]? with
 |none=>rw [a] at h; cases h
 |some d=>rw [a] at h; cases h; exact .d d
theorem p44 (c d:Cd) (e:c.t.length≤1000000) (b:d.t.length≤1000000):w7t PZ 44 [.d (.agg (eC0 c)), .d (.agg (eC0 d))] (.d (.bool (tch c d))):=
 (u4o.2 (c.n,c.k,z0e c.t,c.a,d.n,d.k,z0e d.t,d.a,()) _ (w01 c d e b)).2
theorem a44 (c d:Cd) (b:c.t.length≤1000000) (a:d.t.length≤1000000) (h:List AO):z3m PZ 44 [.d (.agg (eC0 c)), .d (.agg (eC0 d))] h (.d (.bool (tch c d))) h:=
 (p44 c d b a).at (v6s [.agg (eC0 c), .agg (eC0 d)]) (.d _) h
noncomputable def x8w (f:Nat) (p:List Bool) (i:Nat):Oper:=((y8i f p).toList[i]?).getD default
theorem dsZ {ops:List Oper} {nt base:Nat} {K:AS→Prop} {a:List (List Nat)} {i:Nat} {o:Oper} {rest:List Oper} {s:AS} {dst:Option Tmp} {op:Op} (g:o.dst=dst∧o.op=op∧o.guard=none) {q:Bool} {r:List D} {ra:List AV} {res:Res}
  (f:y9j ops a i o (z7a s.env o.op)=true) (b:(z1q std EZ.T s.env s.heap op).ok q r ra) (e:z01 std EZ.T gZ s.env s.heap (base+i) q r ra op=some res) (k:res.c=true) (j:z5g nt dst=true) (d:∀ id∈z7a s.env op,id<base)
  (h:DS PZ EZ.T ops nt base K (a++[z7a s.env o.op]) (i+1) rest (z5l s dst res.v res.u)):DS PZ EZ.T ops nt base K a i (o::rest) s:=by
 obtain ⟨rfl,rfl,hg⟩:=g
 exact .cons f j (.step (by rw [hg]; rfl) t2b b e k fun id hid=> .inl (d id hid)) h
theorem dsC {ops:List Oper} {nt base:Nat} {K:AS→Prop} {a:List (List Nat)} {i:Nat} {o:Oper} {rest:List Oper} {s:AS} {dst:Option Tmp} {g:FuncId} {args:Array Operand} {ts:Array TypeId} (j:o.dst=dst∧o.op= .call ⟨.value (.func g),args,ts⟩∧o.guard=none)
  (f:y9j ops a i o (z7a s.env o.op)=true) (d:z3d PZ g) {r:AV} (b:∀ h,z3m PZ g (z06 s.env args.toList) h r h) (k:z5g nt dst=true) (e:∀ id∈z7a s.env (.call ⟨.value (.func g),args,ts⟩),id<base)
  (h:DS PZ EZ.T ops nt base K (a++[z7a s.env o.op]) (i+1) rest (z5l s dst r [])):DS PZ EZ.T ops nt base K a i (o::rest) s:=by
 obtain ⟨rfl,c,hg⟩:=j
 refine .cons f k (.call (by rw [hg]; rfl) c (first:=[]) (captured:=[]) rfl d (fun h _=>?_) fun id hid=> .inl ?_) h
 ·have:=b h
  simpa using this
 ·rw [c] at hid; exact e id hid
def v8u:TI:=⟨1,24,false,[.list true 0 []], .slc 29 4 48 true [.int .i64 0, .int .i64 0, .list true 0 [], .int .i64 0],none⟩
theorem v2q:EZ.T 22=some v8u:=by kernel_rfl
def v8t:TI:=⟨4,48,true,[.int .i64 0, .int .i64 0, .list true 0 [], .int .i64 0], .struct [(0,1,false),(1,1,false),(2,1,false),(3,1,false)],none⟩
theorem v8r:EZ.T 29=some v8t:=by kernel_rfl
theorem v94 {env:List (Nat×AV)} {h:List AO} {new a b:Nat} {V:List (List D)} {i:Int} {g f e c:D} (k:z00 env a= .d (.list false 4 V)) (j:z00 env b= .d (.int .i64 i)):
  z01 std EZ.T gZ env h new false [g,f,e,c] [] (.indexAddr 22 (.tmp a) (.tmp b))=some ⟨std.cmp .geq i 0, .lptr [g,f,e,c] 0,[]⟩:=by
 simp only [z01,z0p,z9h,k,j,v2q]
 rfl
theorem x2t {env:List (Nat×AV)} {h:List AO} {a b:Nat} {V:List (List D)} {i:Nat} {r:List D} (f:z00 env a= .d (.list false 4 V)) (e:z00 env b= .d (.int .i64 (i:Int))) (c:V[i]?=some r):
  (z1q std EZ.T env h (.indexAddr 22 (.tmp a) (.tmp b))).ok false r []:=by
 simp only [z1q,z0p,f,e]
 simp only [w3l,w28.ok]
 exact ⟨r,c,y7t.refl r⟩
theorem t16 {env:List (Nat×AV)} {h:List AO} {new a:Nat} {f e c b:D} (g:z00 env a= .lptr [f,e,c,b] 0):
  z01 std EZ.T gZ env h new false [] [] (.load 29 (.tmp a))=some ⟨true, .d (.agg [f,e,c,b]),[]⟩:=by
 simp only [z01,z0p,z9h,g,v8r,v8t,y4r,z4a]
 rfl
theorem w8e {env:List (Nat×AV)} {h:List AO} {a b o M:Nat} {c:Option Nat} (d:z00 env a= .slice o 1 0 M c):(z1q std EZ.T env h (.indexAddr 98 (.tmp a) (.tmp b))).ok false [] []:=by
 simp only [z1q,z0p,d]
 exact trivial
def w1w (L:List (List D)) (o N:Nat) (i k:Int):List (Nat×AV):=[(0, .d (.list false 4 L)),(4, .slice o 1 0 N none),(5, .d (.int .i64 i)),(6, .d (.int .i64 k))]
def w3d:List Bool:=[false,false,true,false,true,true,true]
def v9h:List Bool:=[false,false,true]++w3d
def w3c:List Bool:=[false,false,true]++v9h
def y9k:List Bool:=[false,false,true]++w3c
theorem u2b {h : List AO} {o N : Nat} {E : List (List AV)} {R : List (List Bool)} {l : List Cd} (hm : Mat h o E R N) (hRl : R.length = N) (hf : Few l) {i k : Nat} {c d : Cd} (hc : l[i]? = some c) (hd : l[k]? = some d) (hiN : i < N) (hkN : k < N) {row : List Bool} (hrow : R[k]? = some row) {Q : AX → AS → Prop}
    (hQ : ∀ h', Mat h' o E (R.set k (row.set i (tch d c))) N → Q .normal ⟨w1w (z0a ff0 l) o N i k, h', 44⟩) :
    z54 PZ 0 (.region 10 (y8i 30 y9k) true) ⟨w1w (z0a ff0 l) o N i k, h, 44⟩ (fun e s => ∃ s', z5z 0 s s' ∧ Q e s') := by
  have htake : (y8i 30 y9k).toList.take 14 = [x8w 30 y9k 0, x8w 30 y9k 1, x8w 30 y9k 2, x8w 30 y9k 3, x8w 30 y9k 4, x8w 30 y9k 5, x8w 30 y9k 6, x8w 30 y9k 7, x8w 30 y9k 8, x8w 30 y9k 9, x8w 30 y9k 10, x8w 30 y9k 11, x8w 30 y9k 12, x8w 30 y9k 13] := by kernel_rfl
  obtain ⟨id, hE, hid, hrl, hne, hidl⟩ := hm.cell k row hrow
  refine x5a (T := EZ.T) follows_mixed hTZ (eAo _) (by kernel_rfl) (by kernel_rfl) (m := 14) (by decide +kernel) (by kernel_rfl)
    (K := fun s1 => s1.heap = h ∧ z00 s1.env 29 = .slice id 1 0 N (some N) ∧ z00 s1.env 30 = .d (.int .i64 (i : Int)) ∧ z00 s1.env 39 = .d (.bool (tch d c)) ∧ ∀ v, v2n (w1w (z0a ff0 l) o N i k) ((40, v) :: s1.env)) ?_ ?_
  · rw [htake]
    refine dsZ (dst := some 26) (op := .move (.tmp 4)) ⟨by kernel_rfl, by kernel_rfl, by kernel_rfl⟩ (q := false) (r := []) (ra := []) (res := ⟨true, .slice o 1 0 N none, []⟩) (by kernel_rfl) trivial rfl rfl rfl (by intro id hid; cases hid) ?_
    refine dsZ (dst := some 27) (op := .move (.tmp 6)) ⟨by kernel_rfl, by kernel_rfl, by kernel_rfl⟩ (q := false) (r := []) (ra := []) (res := ⟨true, .d (.int .i64 (k : Int)), []⟩) (by kernel_rfl) trivial rfl rfl rfl (by intro id hid; cases hid) ?_
    refine dsZ (dst := some 28) (op := .indexAddr 96 (.tmp 26) (.tmp 27)) ⟨by kernel_rfl, by kernel_rfl, by kernel_rfl⟩ (q := false) (r := []) (ra := []) (res := ⟨std.cmp .geq (k : Int) 0 && std.cmp .lss (k : Int) (std.ofNat N), .ptr o k 0, []⟩) (by kernel_rfl) trivial (u8c rfl rfl) (v3o hkN) rfl (by intro id hid; cases hid) ?_
    refine dsZ (dst := some 29) (op := .load 98 (.tmp 28)) ⟨by kernel_rfl, by kernel_rfl, by kernel_rfl⟩ (q := false) (r := []) (ra := [.slice id 1 0 N (some N)]) (res := ⟨true, .slice id 1 0 N (some N), []⟩) (by kernel_rfl) (w8d rfl hm.arr hE) (ld98 rfl hm.arr) rfl rfl (by
      show ∀ id ∈ [o], id < h.length
      intro id hid; cases hid with | head => exact hm.olt | tail _ h => cases h) ?_
    refine dsZ (dst := some 30) (op := .move (.tmp 5)) ⟨by kernel_rfl, by kernel_rfl, by kernel_rfl⟩ (q := false) (r := []) (ra := []) (res := ⟨true, .d (.int .i64 (i : Int)), []⟩) (by kernel_rfl) trivial rfl rfl rfl (by intro id hid; cases hid) ?_
    refine dsZ (dst := some 31) (op := .move (.tmp 0)) ⟨by kernel_rfl, by kernel_rfl, by kernel_rfl⟩ (q := false) (r := []) (ra := []) (res := ⟨true, .d (.list false 4 (z0a ff0 l)), []⟩) (by kernel_rfl) trivial rfl rfl rfl (by intro id hid; cases hid) ?_
    refine dsZ (dst := some 32) (op := .move (.tmp 6)) ⟨by kernel_rfl, by kernel_rfl, by kernel_rfl⟩ (q := false) (r := []) (ra := []) (res := ⟨true, .d (.int .i64 (k : Int)), []⟩) (by kernel_rfl) trivial rfl rfl rfl (by intro id hid; cases hid) ?_
    refine dsZ (dst := some 33) (op := .indexAddr 22 (.tmp 31) (.tmp 32)) ⟨by kernel_rfl, by kernel_rfl, by kernel_rfl⟩ (q := false) (r := eC0 d) (ra := []) (res := ⟨std.cmp .geq (k : Int) 0, .lptr (eC0 d) 0, []⟩) (by kernel_rfl) (x2t rfl rfl (w0e hd)) (v94 rfl rfl) (by rw [y1r]; exact decide_eq_true (show (k : Int) ≥ 0 by omega)) rfl (by intro id hid; cases hid) ?_
    refine dsZ (dst := some 34) (op := .load 29 (.tmp 33)) ⟨by kernel_rfl, by kernel_rfl, by kernel_rfl⟩ (q := false) (r := []) (ra := []) (res := ⟨true, .d (.agg (eC0 d)), []⟩) (by kernel_rfl) trivial (t16 rfl) rfl rfl (by intro id hid; cases hid) ?_
    refine dsZ (dst := some 35) (op := .move (.tmp 0)) ⟨by kernel_rfl, by kernel_rfl, by kernel_rfl⟩ (q := false) (r := []) (ra := []) (res := ⟨true, .d (.list false 4 (z0a ff0 l)), []⟩) (by kernel_rfl) trivial rfl rfl rfl (by intro id hid; cases hid) ?_
    refine dsZ (dst := some 36) (op := .move (.tmp 5)) ⟨by kernel_rfl, by kernel_rfl, by kernel_rfl⟩ (q := false) (r := []) (ra := []) (res := ⟨true, .d (.int .i64 (i : Int)), []⟩) (by kernel_rfl) trivial rfl rfl rfl (by intro id hid; cases hid) ?_
    refine dsZ (dst := some 37) (op := .indexAddr 22 (.tmp 35) (.tmp 36)) ⟨by kernel_rfl, by kernel_rfl, by kernel_rfl⟩ (q := false) (r := eC0 c) (ra := []) (res := ⟨std.cmp .geq (i : Int) 0, .lptr (eC0 c) 0, []⟩) (by kernel_rfl) (x2t rfl rfl (w0e hc)) (v94 rfl rfl) (by rw [y1r]; exact decide_eq_true (show (i : Int) ≥ 0 by omega)) rfl (by intro id hid; cases hid) ?_
    refine dsZ (dst := some 38) (op := .load 29 (.tmp 37)) ⟨by kernel_rfl, by kernel_rfl, by kernel_rfl⟩ (q := false) (r := []) (ra := []) (res := ⟨true, .d (.agg (eC0 c)), []⟩) (by kernel_rfl) trivial (t16 rfl) rfl rfl (by intro id hid; cases hid) ?_
    refine dsC (dst := some 39) (g := 44) (args := #[.tmp 34, .tmp 38]) (ts := #[29, 29]) ⟨by kernel_rfl, by kernel_rfl, by kernel_rfl⟩ (by kernel_rfl) v0i (r := .d (.bool (tch d c))) (fun h => a44 d c (hf d (eAi hd)) (hf c (eAi hc)) h) rfl (by intro id hid; cases hid) ?_
    refine .nil ⟨rfl, rfl, rfl, rfl, fun v => z2a fun x hx => ?_⟩
    simp only [w1w, eAm, eBg, or_false] at hx
    rcases hx with rfl | rfl | rfl | rfl <;> rfl
  · rintro ⟨env1, h1, nt1⟩ ⟨rfl, g29, g30, g39, hle⟩ hnt _
    have hnt : nt1 = 44 := hnt
    subst hnt
    have hr : List.range' 14 ((y8i 30 y9k).size - 14) = [14, 15] := by kernel_rfl
    rw [hr]
    obtain ⟨w0, o0⟩ := z6m (f := 30) (p := y9k) (i := 14) (dst := some 40) (op := .indexAddr 98 (.tmp 29) (.tmp 30)) (by kernel_rfl)
    obtain ⟨w1, o1⟩ := z6m (f := 30) (p := y9k) (i := 15) (dst := none) (op := .store 4 (.tmp 40) (.tmp 39)) (by kernel_rfl)
    obtain ⟨b, hb⟩ := z0i (l := row) (i := i) (by omega)
    refine osZ o0 (q := false) (r := []) (ra := []) (res := ⟨std.cmp .geq (i : Int) 0 && std.cmp .lss (i : Int) (std.ofNat N), .ptr id i 0, []⟩) (w8e g29) (u8b g29 g30) (v3o hiN) rfl ?_
    refine osZ o1 (q := false) (r := [.bool b]) (ra := []) (res := ⟨true, .bot, [(id, .row ((z05 row).set i [.bool (tch d c)]))]⟩) (v4g rfl hid hb) (st4 rfl g39 hid) rfl rfl ?_
    exact z7j ⟨⟨w1w (z0a ff0 l) o N i k, _, 44⟩, z5z.env (n := 0) (s := ⟨_, _, 44⟩) (hle _), hQ _ (hm.store hrow hE i (tch d c))⟩
end Go.Am
end
section
namespace Go.Am
open D12
def v6l (R:List (List Bool)) (a b:Nat):Bool:=(R.getD a []).getD b false
theorem w92 {R:List (List Bool)} {k:Nat} {row:List Bool} (hr:R[k]?=some row) {i:Nat} (f:i<row.length) (v:Bool) (a b:Nat):v6l (R.set k (row.set i v)) a b=if a=k∧b=i then v else v6l R a b:=by
 have e:=(eAa.1 hr).1
 unfold v6l
 by_cases d:a=k
 ·subst d
  rw [eAn (l:=R.set a _),eBu,if_pos rfl,if_pos e,eAn (l:=R),hr]
  simp only [eBb,true_and]
  by_cases c:b=i
  ·subst c
   rw [if_pos rfl,eAn,eBu,if_pos rfl,if_pos f]; rfl
  ·rw [if_neg c,eAn,eDj (Ne.symm c),eAn]
 ·rw [if_neg (fun h=>d h.1),eAn (l:=R.set k _),eDj (Ne.symm d),eAn (l:=R)]
theorem v4m {R:List (List Bool)} {l:List Cd} {B:Cd→Cd→Bool} (m:R.length=l.length) (i:∀ row∈R,row.length=l.length) (k:∀ a b c d,l[a]?=some c→l[b]?=some d→v6l R a b=B c d):R=z5y l B:=by
 refine List.ext_getElem (by rw [m]; simp [z5y]) fun a h n=>?_
 have g:a<l.length:=by omega
 simp only [z5y,List.getElem_map]
 refine List.ext_getElem (by rw [i _ (eCk h)]; simp) fun b e j=>?_
 have f:b<l.length:=by rw [i _ (eCk h)] at e; exact e
 rw [List.getElem_map]
 have:=k a b l[a] l[b] (eAb g) (eAb f)
 rw [←this]
 unfold v6l
 rw [eAn (l:=R),eAb h,eBb,eAn,eAb e,eBb]
structure y7u (l:List Cd) (o N i k:Nat) (h:List AO) (E:List (List AV)) (R:List (List Bool)):Prop where
 mat:Mat h o E R N
 len:R.length=N
 cells:∀ a b,a<N→b<N→v6l R a b=((decide (b<i)||(decide (b=i)&&decide (a<k)))&&(decide (a<b)&&tch (l.getD a default) (l.getD b default)))
theorem w2a {l:List Cd} {o N i k:Nat} {h h':List AO} {E:List (List AV)} {R:List (List Bool)} (g:y7u l o N i k h E R) (m:k<i) (t:i<N) {c d:Cd} (p:l[i]?=some c) (n:l[k]?=some d) {row:List Bool} (hr:R[k]?=some row) (hm:Mat h' o E (R.set k (row.set i (tch d c))) N):y7u l o N i (k+1) h' E (R.set k (row.set i (tch d c))):=by
 obtain ⟨id,_,_,j,_⟩:=g.mat.cell k row hr
 refine ⟨hm,by rw [eCd]; exact g.len,fun a b r q=>?_⟩
 rw [w92 hr (by omega)]
 by_cases e:a=k∧b=i
 ·obtain ⟨rfl,rfl⟩:=e
  rw [if_pos ⟨rfl,rfl⟩,z02 p,z02 n]
  simp [m]
 ·rw [if_neg e,g.cells a b r q]
  congr 2
  by_cases f:b=i
  ·have:a≠k:=fun h=>e ⟨h,f⟩
   have s:decide (a<k)=decide (a<k+1):=by rw [eBx,decide_eq_true_eq,decide_eq_true_eq]; omega
   rw [s]
  ·simp [f]
theorem w2b {l:List Cd} {o N i:Nat} {h:List AO} {E:List (List AV)} {R:List (List Bool)} (c:y7u l o N i i h E R):y7u l o N (i+1) 0 h E R:=by
 refine ⟨c.mat,c.len,fun a b g f=>?_⟩
 rw [c.cells a b g f]
 by_cases e:b=i
 ·subst e
  by_cases d:a<b<;>simp [d]
 ·have d:decide (b<i+1)=decide (b<i):=by rw [eBx,decide_eq_true_eq,decide_eq_true_eq]; omega
  simp [e,d]
def x87 (L:List (List D)) (o N:Nat) (i:Int):List (Nat×AV):=[(0, .d (.list false 4 L)),(4, .slice o 1 0 N none),(5, .d (.int .i64 i))]
theorem sK30:cdZ 30 w3c= .seq (cdZ 30 (false::w3c)) (.seq (.block 3 (.region 10 (y8i 30 y9k) true)) (cdZ 30 ([true,true]++w3c))):=by kernel_rfl
theorem t1u:cdZ 30 w3d= .seq (cdZ 30 (false::w3d)) (.seq (.block 1 (.seq (cdZ 30 (false::v9h)) (.block 2 (.loop (cdZ 30 w3c))))) (cdZ 30 ([true,true]++w3d))):=by kernel_rfl
theorem v3s:z1v PZ 30 (false::w3c)=some (cdZ 30 (false::w3c)):=by kernel_rfl
theorem u2e:z1v PZ 30 ([true,true]++w3c)=some (cdZ 30 ([true,true]++w3c)):=by kernel_rfl
theorem w6u:z1v PZ 30 (false::w3d)=some (cdZ 30 (false::w3d)):=by kernel_rfl
theorem u2f:z1v PZ 30 (false::v9h)=some (cdZ 30 (false::v9h)):=by kernel_rfl
theorem u2g:z1v PZ 30 ([true,true]++w3d)=some (cdZ 30 ([true,true]++w3d)):=by kernel_rfl
theorem v3d (x v:AV) (i k:Int) (h:List AO):w1h 30 44 (false::w3c) [(0,x),(4,v),(5, .d (.int .i64 i)),(6, .d (.int .i64 k))] h=opt.ask _ (std.cmp .lss k i)
  (some (.normal,⟨⟨[(23, .d (.bool true)),(22, .d (.int .i64 i)),(21, .d (.int .i64 k)),(0,x),(4,v),(5, .d (.int .i64 i)),(6, .d (.int .i64 k))],h,44⟩,[]⟩))
  (some (.exit 2,⟨⟨[(23, .d (.bool false)),(22, .d (.int .i64 i)),(21, .d (.int .i64 k)),(0,x),(4,v),(5, .d (.int .i64 i)),(6, .d (.int .i64 k))],h,44⟩,[]⟩)):=by kernel_rfl
theorem u0q (x v:AV) (i k:Int) (h:List AO):w1h 30 44 ([true,true]++w3c) [(0,x),(4,v),(5, .d (.int .i64 i)),(6, .d (.int .i64 k))] h=
  some (.normal,⟨⟨[(6, .d (.int .i64 (std.ar .add .i64 k 1))),(25, .d (.int .i64 (std.ar .add .i64 k 1))),(24, .d (.int .i64 k)),(0,x),(4,v),(5, .d (.int .i64 i)),(6, .d (.int .i64 k))],h,44⟩,[]⟩):=by kernel_rfl
theorem w59 (L:List (List D)) (v:AV) (i:Int) (h:List AO):w1h 30 44 (false::w3d) [(0, .d (.list false 4 L)),(4,v),(5, .d (.int .i64 i))] h=opt.ask _ (std.cmp .lss i (std.ofNat (std.len L)))
  (some (.normal,⟨⟨[(18, .d (.bool true)),(17, .d (.int .i64 (std.ofNat (std.len L)))),(16, .d (.list false 4 L)),(15, .d (.int .i64 i)),(0, .d (.list false 4 L)),(4,v),(5, .d (.int .i64 i))],h,44⟩,[]⟩))
  (some (.exit 0,⟨⟨[(18, .d (.bool false)),(17, .d (.int .i64 (std.ofNat (std.len L)))),(16, .d (.list false 4 L)),(15, .d (.int .i64 i)),(0, .d (.list false 4 L)),(4,v),(5, .d (.int .i64 i))],h,44⟩,[]⟩)):=by kernel_rfl
theorem u0r (x v:AV) (i:Int) (h:List AO):w1h 30 44 (false::v9h) [(0,x),(4,v),(5, .d (.int .i64 i))] h=
  some (.normal,⟨⟨[(6, .d (.int .i64 0)),(0,x),(4,v),(5, .d (.int .i64 i))],h,44⟩,[]⟩):=by kernel_rfl
theorem u0s (x v:AV) (i:Int) (h:List AO):w1h 30 44 ([true,true]++w3d) [(0,x),(4,v),(5, .d (.int .i64 i))] h=
  some (.normal,⟨⟨[(5, .d (.int .i64 (std.ar .add .i64 i 1))),(20, .d (.int .i64 (std.ar .add .i64 i 1))),(19, .d (.int .i64 i)),(0,x),(4,v),(5, .d (.int .i64 i))],h,44⟩,[]⟩):=by kernel_rfl
theorem v6f {l:List Cd} (z:Few l) (F:l.length≤100000) {o N i:Nat} (H:l.length=N) (v:i<N) {h:List AO} {E:List (List AV)} {R:List (List Bool)} (B:y7u l o N i 0 h E R) {Q:AX→AS→Prop}
  (A:∀ h' C,y7u l o N (i+1) 0 h' E C→Q (.exit 2) ⟨x87 (z0a ff0 l) o N i,h',44⟩):
  z54 PZ 0 (.loop (cdZ 30 w3c)) ⟨w1w (z0a ff0 l) o N i ((0:Nat):Int),h,44⟩ Q:=by
 let ι:={ x:Nat×List AO×List (List Bool) // x.1≤i∧y7u l o N i x.1 x.2.1 E x.2.2 }
 let I:ι→AS:=fun g=>⟨w1w (z0a ff0 l) o N i (g.1.1:Nat),g.1.2.1,44⟩
 refine y23 (ι:=ι) I (fun g=>i - g.1.1) (fun _ _=>rfl) ?_ ⟨(0,h,R),eAo _,B⟩
 rintro ⟨⟨k,j,y⟩,G,a⟩
 rw [sK30]
 refine z1o ?_
 by_cases p:k<i
 ·have m:std.cmp .lss ((k:Nat):Int) (i:Int)=true:=by rw [z7v]; exact decide_eq_true (by omega)
  refine (x3r v3s ((v3d (.d (.list false 4 (z0a ff0 l))) (.slice o 1 0 N none) i k j).trans (by rw [m]; rfl))).mono ?_
  rintro e s ⟨rfl,rfl⟩
  obtain ⟨c,m⟩:=z0i (l:=l) (i:=i) (by omega)
  obtain ⟨d,w⟩:=z0i (l:=l) (i:=k) (by omega)
  have q:=a.len
  simp only at q
  obtain ⟨row,f⟩:=z0i (l:=y) (i:=k) (by omega)
  refine z2l (s':=⟨w1w (z0a ff0 l) o N i k,j,44⟩) (z5z.env (n:=0) (s:=⟨_,j,44⟩) (z2a fun x b=>by
   simp only [w1w,eAm,eBg,or_false] at b
   rcases b with rfl|rfl|rfl|rfl<;>rfl)) (z1o (z27 (z2z ?_)))
  refine u2b a.mat q z m w v (by omega) f fun r t=>?_
  refine z2z ((x3r u2e (u0q (.d (.list false 4 (z0a ff0 l))) (.slice o 1 0 N none) i k r)).mono ?_)
  rintro e s ⟨rfl,rfl⟩
  rw [wrZ (i:=k) (by omega)]
  exact ⟨⟨w1w (z0a ff0 l) o N i ((k+1:Nat):Int),r,44⟩,z5z.env (n:=0) (s:=⟨_,r,44⟩) (z2a fun x b=>by
   simp only [w1w,eAm,eBg,or_false] at b
   rcases b with rfl|rfl|rfl|rfl<;>rfl),⟨⟨(k+1,r,_),p,w2a a p v m w f t⟩,rfl,by show i - (k+1)<i - k; omega⟩⟩
 ·have m:std.cmp .lss ((k:Nat):Int) (i:Int)=false:=by rw [z7v]; exact decide_eq_false (by omega)
  have u:k=i:=by omega
  subst u
  refine z2z ((x3r v3s ((v3d (.d (.list false 4 (z0a ff0 l))) (.slice o 1 0 N none) k k j).trans (by rw [m]; rfl))).mono ?_)
  rintro e s ⟨rfl,rfl⟩
  exact ⟨⟨x87 (z0a ff0 l) o N k,j,44⟩,z5z.env (n:=0) (s:=⟨_,j,44⟩) (z2a fun x b=>by
   simp only [x87,eAm,eBg,or_false] at b
   rcases b with rfl|rfl|rfl<;>rfl),A j y (w2b a)⟩
theorem v49 {l:List Cd} (u:Few l) (t:l.length≤100000) {o N:Nat} (r:l.length=N) {h:List AO} {E:List (List AV)} {R:List (List Bool)} (w:y7u l o N 0 0 h E R) {Q:AX→AS→Prop}
  (v:∀ h' A,y7u l o N N 0 h' E A→Q (.exit 0) ⟨x87 (z0a ff0 l) o N N,h',44⟩):
  z54 PZ 0 (.loop (cdZ 30 w3d)) ⟨x87 (z0a ff0 l) o N ((0:Nat):Int),h,44⟩ Q:=by
 let ι:={ x:Nat×List AO×List (List Bool) // x.1≤N∧y7u l o N x.1 0 x.2.1 E x.2.2 }
 let I:ι→AS:=fun g=>⟨x87 (z0a ff0 l) o N (g.1.1:Nat),g.1.2.1,44⟩
 refine y23 (ι:=ι) I (fun g=>N - g.1.1) (fun _ _=>rfl) ?_ ⟨(0,h,R),eAo _,w⟩
 rintro ⟨⟨i,b,z⟩,B,j⟩
 rw [t1u]
 refine z1o ?_
 have f:std.ofNat (std.len (z0a ff0 l))=(N:Int):=by rw [z6w,y1q,z0m,r]
 by_cases c:i<N
 ·have p:std.cmp .lss ((i:Nat):Int) (std.ofNat (std.len (z0a ff0 l)))=true:=by rw [f,z7v]; exact decide_eq_true (by omega)
  refine (x3r w6u ((w59 (z0a ff0 l) (.slice o 1 0 N none) i b).trans (by rw [p]; rfl))).mono ?_
  rintro e s ⟨rfl,rfl⟩
  refine z2l (s':=⟨x87 (z0a ff0 l) o N i,b,44⟩) (z5z.env (n:=0) (s:=⟨_,b,44⟩) (z2a fun x a=>by
   simp only [x87,eAm,eBg,or_false] at a
   rcases a with rfl|rfl|rfl<;>rfl)) (z1o (z27 (z1o ((x3r u2f (u0r (.d (.list false 4 (z0a ff0 l))) (.slice o 1 0 N none) i b)).mono ?_))))
  rintro e s ⟨rfl,rfl⟩
  refine z2l (s':=⟨w1w (z0a ff0 l) o N i ((0:Nat):Int),b,44⟩) (z5z.env (n:=0) (s:=⟨_,b,44⟩) (z2a fun x a=>by
   simp only [w1w,eAm,eBg,or_false] at a
   rcases a with rfl|rfl|rfl|rfl<;>rfl)) (z27 ?_)
  refine v6f u t r c j fun k y q=>?_
  simp only [if_true]
  refine z2z ((x3r u2g (u0s (.d (.list false 4 (z0a ff0 l))) (.slice o 1 0 N none) i k)).mono ?_)
  rintro e s ⟨rfl,rfl⟩
  rw [wrZ (i:=i) (by omega)]
  exact ⟨⟨x87 (z0a ff0 l) o N ((i+1:Nat):Int),k,44⟩,z5z.env (n:=0) (s:=⟨_,k,44⟩) (z2a fun x a=>by
   simp only [x87,eAm,eBg,or_false] at a
   rcases a with rfl|rfl|rfl<;>rfl),⟨⟨(i+1,k,y),c,q⟩,rfl,by show N - (i+1)<N - i; omega⟩⟩
 ·have p:std.cmp .lss ((i:Nat):Int) (std.ofNat (std.len (z0a ff0 l)))=false:=by rw [f,z7v]; exact decide_eq_false (by omega)
  have m:i=N:=by omega
  subst m
  refine z2z ((x3r w6u ((w59 (z0a ff0 l) (.slice o 1 0 i none) i b).trans (by rw [p]; rfl))).mono ?_)
  rintro e s ⟨rfl,rfl⟩
  exact ⟨⟨x87 (z0a ff0 l) o i i,b,44⟩,z5z.env (n:=0) (s:=⟨_,b,44⟩) (z2a fun x a=>by
   simp only [x87,eAm,eBg,or_false] at a
   rcases a with rfl|rfl|rfl<;>rfl),v b z j⟩
end Go.Am
end
section
namespace Go.Am
open D12
theorem p20 (l:List Cd) (a:Few l):w7t PZ 20 [.d (.list false 4 (z0a ff0 l))] (.d (.int .i64 (z0w l))):=
 (u4p.2 (z0a ff0 l,()) _ (y7v l a)).2
theorem v6p (X:List (List D)) (z:Nat):frz (.row X) z 0 X.length none= .d (.list false z X):=by
 have h:Nat.ble (0+X.length) X.length=true:=eBj (by omega)
 unfold frz x7n
 simp only [h,cond_true,x4c,eBz,eBi]
theorem p69 {l:List Cd} {B:Cd→Cd→Bool} (e:l.length≤1000) (c:(l.map (·.n)).Nodup) (a:u5f B l):w7t PZ 69 [.d (.list false 4 (z0a ff0 l)), .d (.list false 1 (z4w (z5y l B)))] (.d (.list false 4 (z0a ff0 (lst B l.length l)))):=by
 have g:=(ok69.2 (z0a ff0 l,z4w (z5y l B),()) _ (u3h l e c a)).2
 have f:=z3m.pret g
 have b:w7t PZ 69 [.d (.list false 4 (z0a ff0 l)), .d (.list false 1 (z4w (z5y l B)))] (frz (.row (z0a ff0 (lst B l.length l))) 4 0 (z0a ff0 (lst B l.length l)).length none):=f
 rw [v6p] at b
 exact b
theorem s30:cdZ 30 []= .seq (cdZ 30 [false]) (.seq (.seq (.region 1 (y8i 30 [false,false,true]) false) (.cond (.tmp 9) (.seq (.region 2 (y8i 30 [false,false,true,false,true]) false) .ret) .skip)) (.seq (.region 3 (y8i 30 [false,true,true]) false) (.seq (.seq (cdZ 30 [false,false,true,true,true]) (.block 0 (.loop (cdZ 30 w3d)))) (.seq (.region 11 (y8i 30 [false,true,true,true,true]) false) .ret)))):=by kernel_rfl
theorem t0t:z1v PZ 30 [false]=some (cdZ 30 [false]):=by kernel_rfl
theorem t0p:z1v PZ 30 [false,false,true,true,true]=some (cdZ 30 [false,false,true,true,true]):=by kernel_rfl
theorem t0g (x:AV):w1h 30 44 [false] [(0,x)] []=some (.normal,⟨⟨[(3, .d (.int .i64 0)),(2, .d (.list true 0 [])),(0,x)],[],44⟩,[]⟩):=by kernel_rfl
theorem t0c (x v:AV) (h:List AO):w1h 30 44 [false,false,true,true,true] [(0,x),(4,v)] h=some (.normal,⟨⟨[(5, .d (.int .i64 0)),(0,x),(4,v)],h,44⟩,[]⟩):=by kernel_rfl
theorem fn30:∃ fn,PZ.funcs[30]?=some fn∧fn.body=some (cdZ 30 [])∧fn.ntmps=44∧fn.results.toList=[.tmp 2, .tmp 3]:=by
 have:(PZ.funcs[30]?.map fun fn=>(fn.body,fn.ntmps,fn.results.toList))=some (some (cdZ 30 []),44,[.tmp 2, .tmp 3]):=by kernel_rfl
 cases a:PZ.funcs[30]? with
 |none=>rw [a] at this; cases this
 |some fn=>
  rw [a] at this
  simp only [eAw,Option.some.injEq,Prod.mk.injEq] at this
  exact ⟨fn,rfl,this.1,this.2.1,this.2.2⟩
theorem u6y {env:List (Nat×AV)} {h:List AO} {new a:Nat} {L:List (List D)} (b:z00 env a= .d (.list false 4 L)):
  z01 std EZ.T gZ env h new false [] [] (.call ⟨.builtin .len,#[.tmp a],#[22]⟩)=some ⟨true, .d (.int .i64 (std.ofNat (std.len L))),[]⟩:=by
 show z1m std EZ.T h new false [] .len [22] [z00 env a]=_
 rw [b]
 simp only [z1m,v2q,v8u]
 rfl
theorem ocZ {ops:Array Oper} {i:Nat} {rest:List Nat} {s:AS} {Q:AS→Prop} {o:Oper} {dst:Option Tmp} {g:FuncId} {args:Array Operand} {ts:Array TypeId} (e:ops[i]?=some o∧o.dst=dst∧o.op= .call ⟨.value (.func g),args,ts⟩∧o.guard=none)
  (d:z3d PZ g) {r:AV} {h':List AO} (a:z3m PZ g (z06 s.env args.toList) s.heap r h') (b:s.heap.length≤h'.length) (f:z5g s.nt dst=true) (h:y4a PZ 0 ops rest ⟨y4f s.env dst r,h',s.nt⟩ Q):y4a PZ 0 ops (i::rest) s Q:=by
 obtain ⟨j,rfl,c,hg⟩:=e
 exact w4l j (by rw [hg]; rfl) (eAo _) c (first:=[]) (captured:=[]) rfl d (by simpa using a) b f h
theorem v0h:z3d PZ 68:=enters_auto (b:=_) rfl (by kernel_rfl)
theorem v0j:z3d PZ 30:=enters_auto (b:=_) rfl (by kernel_rfl)
def z2s (l:List Cd):List Cd:=if z0w l=0 then z11 l else []
theorem v2s {l:List Cd} (o:z0w l=0):z54 PZ 0 (.seq (.region 11 (y8i 30 [false,true,true,true,true]) false) .ret) ⟨[(0, .d (.list false 4 (z0a ff0 l))),(4, .d (.list false 1 (z4w (z5y l (ord l)))))],[],44⟩
  (fun e s=>(e= .normal∨e= .ret)∧v8f EZ.T s [.tmp 2, .tmp 3]=some (.tuple [.d (.list false 4 (z0a ff0 (z11 l))), .d (.int .i64 0)])∧s.heap=[]):=by
 obtain ⟨A,n,m,z,y⟩:=z1u o
 have k:List.range (y8i 30 [false,true,true,true,true]).size=[0,1,2,3,4]:=by kernel_rfl
 obtain ⟨w,j⟩:=z6m (f:=30) (p:=[false,true,true,true,true]) (i:=0) (dst:=some 41) (op:= .move (.tmp 0)) (by kernel_rfl)
 obtain ⟨w1,g⟩:=z6m (f:=30) (p:=[false,true,true,true,true]) (i:=1) (dst:=some 42) (op:= .move (.tmp 4)) (by kernel_rfl)
 obtain ⟨v,c⟩:=z6m (f:=30) (p:=[false,true,true,true,true]) (i:=2) (dst:=some 43) (op:= .call ⟨.value (.func 69),#[.tmp 41, .tmp 42],#[22,96]⟩) (by kernel_rfl)
 obtain ⟨u,b⟩:=z6m (f:=30) (p:=[false,true,true,true,true]) (i:=3) (dst:=some 2) (op:= .assign (.tmp 43)) (by kernel_rfl)
 obtain ⟨t,a⟩:=z6m (f:=30) (p:=[false,true,true,true,true]) (i:=4) (dst:=some 3) (op:= .assign (.const (.int .i64 0))) (by kernel_rfl)
 refine z1o (z5v ?_)
 rw [k]
 refine osZ j (q:=false) (r:=[]) (ra:=[]) (res:=⟨true, .d (.list false 4 (z0a ff0 l)),[]⟩) trivial rfl rfl rfl ?_
 refine osZ g (q:=false) (r:=[]) (ra:=[]) (res:=⟨true, .d (.list false 1 (z4w (z5y l (ord l)))),[]⟩) trivial rfl rfl rfl ?_
 refine ocZ c v0g (p69 (by omega) n (w0g (x1n m) fun x h=>h)) (eAo _) rfl ?_
 refine osZ b (q:=false) (r:=[]) (ra:=[]) (res:=⟨true, .d (.list false 4 (z0a ff0 (lst (ord l) l.length l))),[]⟩) trivial rfl rfl rfl ?_
 refine osZ a (q:=false) (r:=[]) (ra:=[]) (res:=⟨true, .d (.int .i64 0),[]⟩) trivial rfl rfl rfl ?_
 exact z7j (x19 ⟨.inr rfl,rfl,rfl⟩)
theorem w8k {env:List (Nat×AV)} {x d:D} (he:z00 env 3= .d d) (t:Nat):z00 [(2, .d x),(3, .d d)] t= .bot∨(t=2∧z00 [(2, .d x),(3, .d d)] t= .d x)∨∃ e,z00 [(2, .d x),(3, .d d)] t= .d e∧z00 env t= .d e:=by
 by_cases c:t=3
 ·subst c; exact .inr (.inr ⟨_,rfl,he⟩)
 ·by_cases b:t=2
  ·subst b; exact .inr (.inl ⟨rfl,rfl⟩)
  ·left
   have g:Nat.beq 3 t=false:=by
    cases a:Nat.beq 3 t with
    |false=>rfl
    |true=>exact absurd (eAd a).symm c
   have f:Nat.beq 2 t=false:=by
    cases a:Nat.beq 2 t with
    |false=>rfl
    |true=>exact absurd (eAd a).symm b
   simp only [z00,g,f]; rfl
theorem u2s {l:List Cd} (S:Few l):z3m PZ 30 [.d (.list false 4 (z0a ff0 l))] [] (.tuple [.d (.list false 4 (z0a ff0 (z2s l))), .d (.int .i64 (z0w l))]) []:=by
 obtain ⟨fn,R,k,O,A⟩:=fn30
 refine y0s hTZ R k O (by show 1≤44; omega) ?_
 rw [A,s30]
 refine z1o ((x3r t0t (t0g (.d (.list false 4 (z0a ff0 l))))).mono ?_)
 rintro e s1 ⟨rfl,rfl⟩
 have N:List.range (y8i 30 [false,false,true]).size=[0,1,2]:=by kernel_rfl
 obtain ⟨w0,o0⟩:=z6m (f:=30) (p:=[false,false,true]) (i:=0) (dst:=some 7) (op:= .move (.tmp 0)) (by kernel_rfl)
 obtain ⟨w1,o1⟩:=z6m (f:=30) (p:=[false,false,true]) (i:=1) (dst:=some 8) (op:= .call ⟨.value (.func 20),#[.tmp 7],#[22]⟩) (by kernel_rfl)
 obtain ⟨w2,o2⟩:=z6m (f:=30) (p:=[false,false,true]) (i:=2) (dst:=some 9) (op:= .binOp .neq 25 (.tmp 8) (.const (.int .i64 0)) 25) (by kernel_rfl)
 refine z1o (z1o (z5v ?_))
 rw [N]
 refine osZ o0 (q:=false) (r:=[]) (ra:=[]) (res:=⟨true, .d (.list false 4 (z0a ff0 l)),[]⟩) trivial rfl rfl rfl ?_
 refine ocZ o1 x9x (p20 l S) (eAo _) rfl ?_
 refine osZ o2 (q:=false) (r:=[]) (ra:=[]) (res:=⟨true, .d (.bool (std.cmp .neq (z0w l) 0)),[]⟩) trivial (by kernel_rfl) rfl rfl ?_
 refine z7j ?_
 refine y7n (t:=std.cmp .neq (z0w l) 0) rfl ?_
 by_cases m:z0w l=0
 ·have o:std.cmp .neq (z0w l) 0=false:=by rw [x06,m]; rfl
  rw [o,if_neg (by simp)]
  refine x5b ?_
  have u:z2s l=z11 l:=if_pos m
  rw [u,m]
  obtain ⟨h1,h2,Y,h4,h5⟩:=z1u m
  have K:List.range (y8i 30 [false,true,true]).size=[0,1,2,3]:=by kernel_rfl
  obtain ⟨w3,G⟩:=z6m (f:=30) (p:=[false,true,true]) (i:=0) (dst:=some 12) (op:= .move (.tmp 0)) (by kernel_rfl)
  obtain ⟨w4,F⟩:=z6m (f:=30) (p:=[false,true,true]) (i:=1) (dst:=some 13) (op:= .call ⟨.builtin .len,#[.tmp 12],#[22]⟩) (by kernel_rfl)
  obtain ⟨w5,E⟩:=z6m (f:=30) (p:=[false,true,true]) (i:=2) (dst:=some 14) (op:= .call ⟨.value (.func 68),#[.tmp 13],#[3]⟩) (by kernel_rfl)
  obtain ⟨w6,C⟩:=z6m (f:=30) (p:=[false,true,true]) (i:=3) (dst:=some 4) (op:= .assign (.tmp 14)) (by kernel_rfl)
  have P:std.ofNat (std.len (z0a ff0 l))=(l.length:Int):=by rw [z6w,y1q,z0m]
  refine z1o (z5v ?_)
  rw [K]
  refine osZ G (q:=false) (r:=[]) (ra:=[]) (res:=⟨true, .d (.list false 4 (z0a ff0 l)),[]⟩) trivial rfl rfl rfl ?_
  refine osZ F (q:=false) (r:=[]) (ra:=[]) (res:=⟨true, .d (.int .i64 (l.length:Int)),[]⟩) trivial (by refine Eq.trans (u6y (L:=z0a ff0 l) rfl) ?_; rw [P]) rfl rfl ?_
  refine ocZ E v0h (u2r (n:=l.length) (by omega)) (eAo _) rfl ?_
  refine osZ C (q:=false) (r:=[]) (ra:=[]) (res:=⟨true,x6v l.length,[]⟩) trivial rfl rfl rfl ?_
  refine z7j ?_
  refine z2l (s':=⟨[(0, .d (.list false 4 (z0a ff0 l))),(4,x6v l.length)],hpT l.length l.length,44⟩) (z5z.env (n:=0) (s:=⟨_,hpT l.length l.length,44⟩) (z2a fun x h=>by
   simp only [eAm,eBg,or_false] at h
   rcases h with rfl|rfl<;>rfl)) ?_
  refine z1o (z1o ((x3r t0p (t0c (.d (.list false 4 (z0a ff0 l))) (x6v l.length) (hpT l.length l.length))).mono ?_))
  rintro e s1 ⟨rfl,rfl⟩
  have data:∀ (env:List (Nat×AV)),z00 env 0= .d (.list false 4 (z0a ff0 l))→∀ t,z00 [(0, .d (.list false 4 (z0a ff0 l))),(4, .d (.list false 1 (z4w (z5y l (ord l)))))] t= .bot∨(t=4∧z00 [(0, .d (.list false 4 (z0a ff0 l))),(4, .d (.list false 1 (z4w (z5y l (ord l)))))] t= .d (.list false 1 (z4w (z5y l (ord l)))))∨∃ d,z00 [(0, .d (.list false 4 (z0a ff0 l))),(4, .d (.list false 1 (z4w (z5y l (ord l)))))] t= .d d∧z00 env t= .d d:=by
   intro env he t
   by_cases e0:t=0
   ·subst e0; exact .inr (.inr ⟨_,rfl,he⟩)
   ·by_cases Z:t=4
    ·subst Z; exact .inr (.inl ⟨rfl,rfl⟩)
    ·left
     have b0:Nat.beq 0 t=false:=by
      cases k:Nat.beq 0 t with
      |false=>rfl
      |true=>exact absurd (eAd k).symm e0
     have b4:Nat.beq 4 t=false:=by
      cases k:Nat.beq 4 t with
      |false=>rfl
      |true=>exact absurd (eAd k).symm Z
     simp only [z00,b0,b4]; rfl
  rcases Nat.eq_zero_or_pos l.length with H|H
  ·have Q:l=[]:=eBr.1 H
   subst Q
   have w:z4w (z5y [] (ord []))=[]:=rfl
   rw [w] at data
   refine z2l (s':=⟨[(0, .d (.list false 4 (z0a ff0 []))),(4, .d (.list true 0 [])),(5, .d (.int .i64 0))],[],44⟩) (z5z.env (n:=0) (s:=⟨_,[],44⟩) (z2a fun x h=>by
    simp only [eAm,eBg,or_false] at h
    rcases h with rfl|rfl|rfl<;>rfl)) ?_
   refine z27 ?_
   let I:Unit→AS:=fun _=>⟨[(0, .d (.list false 4 (z0a ff0 []))),(4, .d (.list true 0 [])),(5, .d (.int .i64 0))],[],44⟩
   refine y23 (ι:=Unit) I (fun _=>0) (fun _ _=>rfl) (fun _=>?_) ()
   rw [t1u]
   refine z1o ?_
   refine z2z ((x3r w6u ((w59 (z0a ff0 []) (.d (.list true 0 [])) 0 []).trans (by rfl))).mono ?_)
   rintro e s ⟨rfl,rfl⟩
   refine ⟨⟨[(0, .d (.list false 4 (z0a ff0 []))),(4, .d (.list true 0 []))],[],44⟩,z5z.env (n:=0) (s:=⟨_,[],44⟩) (z2a fun x h=>by
    simp only [eAm,eBg,or_false] at h
    rcases h with rfl|rfl<;>rfl),?_⟩
   simp only [if_true]
   exact z2l (x84 (a:=4) rfl (data _ rfl)) (v2s (l:=[]) m)
  ·have J:x6v l.length= .slice (3*l.length - 1) 1 0 l.length none:=if_neg (by omega)
   rw [J]
   have hI:y7u l (3*l.length - 1) l.length 0 0 (hpT l.length l.length) (z97 l.length l.length) (List.replicate l.length (List.replicate l.length false)):=by
    refine ⟨mat0 H,by simp,fun a b V k=>?_⟩
    unfold v6l
    rw [eAn (l:=List.replicate _ _),eCe,if_pos V]
    simp [eAn,eCe,k]
   refine z2l (s':=⟨x87 (z0a ff0 l) (3*l.length - 1) l.length ((0:Nat):Int),hpT l.length l.length,44⟩) (z5z.env (n:=0) (s:=⟨_,hpT l.length l.length,44⟩) (z2a fun x h=>by
    simp only [x87,eAm,eBg,or_false] at h
    rcases h with rfl|rfl|rfl<;>rfl)) ?_
   refine z27 (v49 S (by omega) rfl hI fun h' R' g=>?_)
   simp only [if_true]
   have hR:R'=z5y l (ord l):=by
    refine v4m g.len (fun row y=>?_) fun a b c d X W=>?_
    ·obtain ⟨j,hj,he⟩:=eBy.1 y
     obtain ⟨_,_,_,h6,_⟩:=g.mat.cell j row (by rw [eAb hj,he])
     exact h6
    ·have V:=(eAa.1 X)
     have k:=(eAa.1 W)
     obtain ⟨B,U⟩:=V
     obtain ⟨v,T⟩:=k
     rw [g.cells a b B v,z02 X,z02 W]
     have i1:l.idxOf c=a:=by rw [←U]; exact Y.idxOf_getElem a B
     have i2:l.idxOf d=b:=by rw [←T]; exact Y.idxOf_getElem b v
     unfold ord
     rw [i1,i2]
     simp [v,Bool.and_comm]
   rw [hR] at g
   exact z2l (w9i g.mat g.len rfl (data _ rfl)) (v2s m)
 ·have o:std.cmp .neq (z0w l) 0=true:=by rw [x06]; simp [m]
  rw [o,if_pos rfl]
  have u:z2s l=[]:=if_neg m
  rw [u]
  have M:List.range (y8i 30 [false,false,true,false,true]).size=[0,1,2,3]:=by kernel_rfl
  obtain ⟨w3,G⟩:=z6m (f:=30) (p:=[false,false,true,false,true]) (i:=0) (dst:=some 10) (op:= .move (.tmp 0)) (by kernel_rfl)
  obtain ⟨w4,F⟩:=z6m (f:=30) (p:=[false,false,true,false,true]) (i:=1) (dst:=some 11) (op:= .call ⟨.value (.func 20),#[.tmp 10],#[22]⟩) (by kernel_rfl)
  obtain ⟨w5,E⟩:=z6m (f:=30) (p:=[false,false,true,false,true]) (i:=2) (dst:=some 2) (op:= .assign (.const (.slice none 0 0))) (by kernel_rfl)
  obtain ⟨w6,C⟩:=z6m (f:=30) (p:=[false,false,true,false,true]) (i:=3) (dst:=some 3) (op:= .assign (.tmp 11)) (by kernel_rfl)
  refine z1o (z5v ?_)
  rw [M]
  refine osZ G (q:=false) (r:=[]) (ra:=[]) (res:=⟨true, .d (.list false 4 (z0a ff0 l)),[]⟩) trivial rfl rfl rfl ?_
  refine ocZ F x9x (p20 l S) (eAo _) rfl ?_
  refine osZ E (q:=false) (r:=[]) (ra:=[]) (res:=⟨true, .d (.list true 0 []),[]⟩) trivial rfl rfl rfl ?_
  refine osZ C (q:=false) (r:=[]) (ra:=[]) (res:=⟨true, .d (.int .i64 (z0w l)),[]⟩) trivial rfl rfl rfl ?_
  refine z7j (z2l (s':=⟨[(2, .d (.list false 4 [])),(3, .d (.int .i64 (z0w l)))],[],44⟩) (x84 (a:=2) (z:=4) rfl (w8k rfl)) (x19 ?_))
  exact ⟨.inr rfl,rfl,rfl⟩
def w6r (l:List Cd):Bool:=l.all fun c=>Nat.ble c.t.length 1000000
noncomputable def v00:Ctr:=⟨30,[.list 4],[],[(.ret,⟨[(0, .tuple [.list 4, .int .i64])],[],1⟩)]⟩
noncomputable def G30 (_:Prim) (x:List (List D)×Unit):Option (List (List D)×(Int×Unit)):=
 match z9u x.1 with
 |some l=>bif w6r l then some (z0a ff0 (z2s l),(z0w l,())) else none
 |none=>none
noncomputable def F30:Prim→Tup (v00).scs→Option (STup (scss (v00).outs)):=fun p x=>G30 p x
theorem w7o {f:FuncId} {args d:List AV} {r:AV} {h':List AO} (h:z3m PZ f args [] r h') (e:∀ (ρ:Rho) (O:Nat→Prop) (w:World) (vs:Array Value),z04 ρ O w d vs→z04 ρ O w args vs):z3m PZ f d [] r h':=
 ⟨fun ρ vs w cs a b c=>h.run ρ vs w cs a b (e _ _ _ _ c)⟩
theorem v2h {ρ:Rho} {O:Nat→Prop} {w:World} {x:AV} {v:Value} (h:z0n ρ O w x v):z04 ρ O w [x] #[v]:=
 ⟨rfl,fun i y a=>by
  match i,a with
  |0,a=>cases a; exact h
  |i+1,a=>simp at a⟩
theorem ok30:CtrOk PZ v00 (F30 std):=by
 refine ⟨v0j,fun (x:List (List D)×Unit) y b=>?_⟩
 obtain ⟨es,u⟩:=x
 change G30 std (es,u)=_ at b
 unfold G30 at b
 cases e:z9u es with
 |none=>simp only [e] at b; cases b
 |some l=>
  simp only [e] at b
  cases f:w6r l with
  |false=>rw [f] at b; cases b
  |true=>
   rw [f] at b
   cases b
   obtain ⟨k,j⟩:=y24 e
   refine ⟨eAo _,?_⟩
   show z3m _ 30 [.d (.list false 4 es)] [] (.tuple [.d (.list false 4 (z0a ff0 (z2s l))), .d (.int .i64 (z0w l))]) []
   refine w7o (u2s (l:=l) fun c i=>eAh (eAx.1 f c i)) fun ρ O w m g=>?_
   obtain ⟨a,rfl,h⟩:=u2p g
   cases h with|d h=>
   exact v2h (.d (y60 h (by rw [k]; simp [z0a]) j))
end Go.Am
end
section
namespace Go.Am
def t18:D→Int
 | .int _ n=>n
 |_=>0
def y8j (es:List (D×D)):List Int:=es.map fun e=>t18 e.1
def v6c:D→Bool
 | .int .i64 n=>(Lit.int .i64 n).wf
 |_=>false
def w4w (x:Int):List Int→Bool
 |[]=>true
 |y::l=>!(x==y)&&w4w x l
def z9k:List Int→Bool
 |[]=>true
 |x::l=>w4w x l&&z9k l
theorem x31 {x:Int}:∀ {l:List Int},w4w x l=true↔x∉l
 |[]=>by simp [w4w]
 |y::l=>by
  simp only [w4w,eAc,eDa,beq_eq_false_iff_ne,eAm,not_or,x31 (l:=l),ne_eq]
theorem y0l:∀ {l:List Int},z9k l=true↔l.Nodup
 |[]=>by simp [z9k]
 |x::l=>by simp only [z9k,eAc,x31,y0l (l:=l),eCx]
def z9b (es:List (D×D)):Bool:=Nat.ble es.length 1000000&&(es.all (fun e=>v6c e.1)&&z9k (y8j es))
def y8h (l:List Int):List (List D):=l.map fun n=>[.int .i64 n]
theorem w19 {d:D} (h:v6c d=true):∃ n,d= .int .i64 n∧(Lit.int .i64 n).wf=true:=by
 unfold v6c at h
 split at h
 ·exact ⟨_,rfl,h⟩
 ·cases h
section
variable {P:Program} {T:TypeId}
open Go.WideElems (Fit rd rg pl)
open Go.RowKit Go.Proofs
def v3w:Value→Option (DataW Unit×List MemPlace):=fun _=>some (.nil,[])
theorem x9g {x:Int} (hT:P.underlying T=some (.int .i64)) (a:(Lit.int .i64 x).wf=true):keyOf P T (encZ x)=some (.int .i64 x):=by
 simp [keyOf,hT,mapKey,encZ,a]
theorem w9j (hT:P.underlying T=some (.int .i64)) {ρ:Rho} {O:Nat→Prop} {w:World} {L:Loc} {es:List (D×D)} (y:z1c P ρ O w L (.map es)) (hg:z9b es=true):
  ∃ u:DataW Unit,w.ownsMap P T v3w L.blk es.length u∧Maps.size u≤es.length∧(intKeys u).Perm (y8j es):=by
 obtain ⟨f,l,B,⟨k,v⟩,A⟩:=y
 simp only [z9b,eAc,eAx] at hg
 obtain ⟨t,E,s⟩:=hg
 have t:=eAh t
 have s:=y0l.1 s
 have c:∀ (i:Nat) (e:MapEntry),f[i]?=some e→∃ n,(y8j es)[i]?=some n∧e.key=encZ n∧(Lit.int .i64 n).wf=true:=by
  intro i e he
  have o:i<es.length:=by rw [←k]; exact (eAe.1 he).1
  have m:es[i]?=some (es[i]):=eAb o
  obtain ⟨G,d,c,_⟩:=A i es[i].1 es[i].2 m
  rw [he] at d
  have d:=Option.some.inj d
  subst d
  obtain ⟨n,h,j⟩:=w19 (E es[i] (eCk o))
  rw [h] at c
  generalize z:e.key=F at c
  cases c with
  |int=>exact ⟨n,by simp [y8j,m,h,t18],rfl,j⟩
 have g:f.toList.map (·.key)=(y8j es).map encZ:=by
  apply eBt
  intro i
  simp only [eAf,eAl]
  cases he:f[i]? with
  |none=>
   have:es.length≤i:=by rw [←k]; exact Array.getElem?_eq_none_iff.1 he
   simp [y8j,this]
  |some e=>
   obtain ⟨n,h,c,_⟩:=c i e he
   simp [h,c]
 have C:Fit P T v3w f l:=by
  refine ⟨by rw [k]; exact eBk t (by decide),⟨v.1,v.2,?_⟩,fun x m=>?_⟩
  ·rw [g]
   exact List.pairwise_map.2 (s.imp fun {a b} r e=>r (encZ_inj e))
  ·obtain ⟨i,o⟩:=eDp m
   obtain ⟨n,_,c,j⟩:=c i x (by simpa using o)
   exact ⟨(.int .i64 n, .nil),by simp [rd,c,x9g hT j,v3w]⟩
 have q:(f.toList.map (rg P T v3w)).map (fun p=>intOf p.1)=y8j es:=by
  apply eBt
  intro i
  simp only [eAf,eAl]
  cases he:f[i]? with
  |none=>
   have:es.length≤i:=by rw [←k]; exact Array.getElem?_eq_none_iff.1 he
   simp [y8j,this]
  |some e=>
   obtain ⟨n,h,c,j⟩:=c i e he
   simp [h,rg,rd,c,x9g hT j,v3w,intOf]
 refine ⟨_,⟨f,l,B,C,by omega,rfl⟩,?_,?_⟩
 ·show (List.foldr DataW.insert [] (f.toList.map (rg P T v3w))).length≤_
  rw [(Go.WideShapes.sorted_perm _).length_eq]; simp [k]
 ·show ((List.foldr DataW.insert [] (f.toList.map (rg P T v3w))).map fun p=>intOf p.1).Perm _
  rw [←q]
  exact (Go.WideShapes.sorted_perm _).map _
theorem w36 (l:List Int):(y8h l).length=l.length:=by simp [y8h]
end
end Go.Am
end
section
namespace Go.Am
section
variable {P:Program} {T:TypeId}
open Go.RowKit Go.Proofs
def CollectCall (P:Program) (T:TypeId) (g i:FuncId):Prop:=
 ∀ (d b h:Nat) (a:DataW Unit) (R:Value→Option (DataW Unit×List MemPlace)) (w:World),w.cell? ⟨d,0,none⟩=some (.map (some b))→d<w.heap.size→w.ownsMap P T R b h a→Maps.size a≤maxLen→Maps.size a*8≤140737488355328→
  Calls P g #[.func (.func i) #[] #[.pointer (some ⟨d,0,none⟩)]] w fun e f=>∃ (v:Value) (c:List Int),e= .returned v∧c.Perm (intKeys a)∧
   f.ownsRow w.heap.size T 1 v c.length (c.map encZ)∧Below w.heap.size w f
theorem x5c (hT:P.underlying T=some (.int .i64)) {g gk:FuncId} (hc:CollectCall P T g gk) {es:List (D×D)} (hg:z9b es=true):
  z3m P g [.clo (.func gk) [] [.bptr 0 0]] [.box [.map 1], .map es] (.perm (y8h (y8j es))) [.box [.map 1], .map es]:=⟨by
 intro ρ I w cs H hdm har
 obtain ⟨Y,X⟩:=har
 have hs1:I.size=1:=Y
 have y:I=#[I.getD 0 undef]:=by
  apply Array.ext (by simpa using hs1)
  intro i s o
  match i,s,o with
  |0,s,o=>simp [eAk,eAs s]
  |i+1,s,o=>simp at o
 have hv:=X 0 _ rfl
 obtain ⟨L,hL,hq⟩:∃ L,ρ 0=some L∧I.getD 0 undef= .func (.func gk) #[] #[.pointer (some ⟨L.blk,L.base+0,none⟩)]:=by
  generalize I.getD 0 undef=q at hv
  cases hv with
  |clo _ _ _ vf V hf hcc s o=>
   have e1:vf=#[]:=Array.size_eq_zero_iff.1 (by simpa using hf)
   have hcs:V.size=1:=hcc
   have m:=o 0 _ rfl
   have e2:V=#[V.getD 0 undef]:=by
    apply Array.ext (by simpa using hcs)
    intro i s o
    match i,s,o with
    |0,s,o=>simp [eAk,eAs s]
    |i+1,s,o=>simp at o
   generalize V.getD 0 undef=z at m e2
   cases m with
   |bptr _ _ L hL=>exact ⟨L,hL,by rw [e1,e2]⟩
 rw [hq] at y
 rw [y]
 obtain ⟨C,l,c,t,hcb,F⟩:=H.obj 0 L hL
 rw [l]
 obtain ⟨v0,J,hr0⟩:=F 0 (.map 1) rfl
 rw [l] at J
 obtain ⟨u,hL1,rfl⟩:∃ u,ρ 1=some u∧v0= .map (some u.blk):=by
  cases hr0 with
  |map _ u h=>exact ⟨u,h,rfl⟩
 have G:w.cell? ⟨L.blk,0,none⟩=some (.map (some u.blk)):=by
  unfold World.cell?
  simp only [hcb]
  simpa using J
 obtain ⟨hlt1,ho1⟩:=H.obj 1 u hL1
 obtain ⟨D0,M,Z,B⟩:=w9j (P:=P) (T:=T) hT (show z1c P ρ _ w u (.map es) from ho1) hg
 have Q:es.length≤1000000:=by
  simp only [z9b,eAc] at hg
  exact eAh hg.1
 obtain ⟨e,W,fr,⟨v,a,rfl,hp,K,m⟩,hcm,hfn,hlv⟩:=hc L.blk u.blk es.length D0 v3w w G C M (eBk Z (eBk Q (by decide))) (by omega) cs
 have f:z43 (z0d ρ [.box [.map 1], .map es]) (z0d ρ [.box [.map 1], .map es]) w W:=⟨m.size,fun b C _=>m.block b C,fun _ _ h=>h,fun b n h=>by
  have:=z7s h
  unfold z1a; rw [m.block b this]; exact h,trivial⟩
 refine ⟨ρ,v,W,fr,hcm,hfn,hlv,?_,H.of_keep f fun b hob=>m.block b (z7i H hob),hdm,⟨m.os,m.tape,m.output,f,fun _ _=>rfl,rfl,fun b hf=>m.block b (H.fr b hf)⟩⟩
 refine .perm _ (y8h a) _ ((hp.trans B).map _) ?_
 rcases K.2 with ⟨rfl,h0⟩|⟨gb,cap,U,rfl,hge,S,R,hmax,hsize,A⟩
 ·have h00:a=[]:=eBr.1 h0
  subst h00
  exact .lnil _ _ _ _ (by simp)
 ·have hcl:∀ i n,a[i]?=some n→U[i]?=some (encZ n):=fun i n p=>by
   have hil:i<a.length:=(eAa.1 p).1
   have:(U.toList.take (a.length*1))[i]?=(a.map encZ)[i]?:=by rw [A]
   rw [eDv (by omega),eAf,p] at this
   simpa using this
  by_cases N:a=[]
  ·subst N
   exact .lnil _ _ _ _ (by simp)
  ·have E:(y8h a).length=a.length:=w36 a
   have key:=z1k.list (O:=z0d ρ [.box [.map 1], .map es]) (w:=W) false (y8h a) gb 0 1 cap (by omega) (by simpa [y8h] using N) (fun ho=>by have:=z7i H ho; omega) (by rw [E]; exact R) (by simp) (fun i r p=>by
     unfold y8h at p
     rw [eAf] at p
     obtain ⟨x,_,rfl⟩:=eBm.1 p
     rfl) (fun k=> .int .i64 (a.getD k 0)) (fun k _=>rfl) (fun k hk=>by
     rw [eCn,E] at hk
     rw [eAq]
     have:=hcl k _ (eAb hk)
     unfold World.cell?
     simp only [S]
     rw [eAn,eAb hk]
     simpa [encZ] using this) (fun i r j d p F=>by
     unfold y8h at p
     rw [eAf] at p
     obtain ⟨x,hx,rfl⟩:=eBm.1 p
     match j,F with
     |0,F=>
      cases F
      rw [eCn,eBa,eAn,hx]
      exact .int _ _
     |j+1,F=>simp at F)
   rw [E] at key
   exact key⟩
end
end Go.Am
end
section
namespace Go.Proofs
open Go.RowKit Go.Maps Go.Sort Go.Shelf
def w15:Go.Shelf.Ren:=⟨fun|11=>114|8=>63|n=>n,fun|33=>77|0=>0|24=>27|28=>87|26=>2|n=>n,fun|n=>n⟩
theorem v5z : Go.Proofs.SlLaysZI.n8 Tryz.prog w15 :=
  { mixed := by kernel_rfl,
    f8 := by first | exact ⟨Tryz.f63.name, by decide, Tryz.func63.trans (congrArg some (by kernel_rfl))⟩ | exact Tryz.func63.trans (congrArg some (by kernel_rfl)),
    f11 := by first | exact ⟨Tryz.f114.name, by decide, Tryz.func114.trans (congrArg some (by kernel_rfl))⟩ | exact Tryz.func114.trans (congrArg some (by kernel_rfl)),
    t0 := by exact Tryz.underlying0,
    a0 := by exact Tryz.isAgg0,
    z0 := by exact Tryz.sizeOf0,
    v0 := by exact Tryz.zeroValue0,
    t24 := by exact Tryz.underlying27,
    a24 := by exact Tryz.isAgg27,
    z24 := by exact Tryz.sizeOf27,
    v24 := by exact Tryz.zeroValue27,
    t26 := by exact Tryz.underlying2,
    a26 := by exact Tryz.isAgg2,
    z26 := by exact Tryz.sizeOf2,
    v26 := by exact Tryz.zeroValue2,
    t28 := by exact Tryz.underlying87,
    a28 := by exact Tryz.isAgg87,
    z28 := by exact Tryz.sizeOf87,
    v28 := by exact Tryz.zeroValue87,
    i26 := by kernel_rfl }
def w14:Go.Shelf.Ren:=⟨fun|10=>115|n=>n,fun|3=>90|26=>2|4=>4|0=>0|23=>81|33=>77|n=>n,fun|n=>n⟩
theorem v5y : Go.Proofs.SlLaysZI.n10 Tryz.prog w14 :=
  { mixed := by kernel_rfl,
    f10 := by first | exact ⟨Tryz.f115.name, by decide, Tryz.func115.trans (congrArg some (by kernel_rfl))⟩ | exact Tryz.func115.trans (congrArg some (by kernel_rfl)),
    t0 := by exact Tryz.underlying0,
    a0 := by exact Tryz.isAgg0,
    z0 := by exact Tryz.sizeOf0,
    v0 := by exact Tryz.zeroValue0,
    t4 := by exact Tryz.underlying4,
    a4 := by exact Tryz.isAgg4,
    z4 := by exact Tryz.sizeOf4,
    v4 := by exact Tryz.zeroValue4,
    t23 := by exact Tryz.underlying81,
    a23 := by exact Tryz.isAgg81,
    z23 := by exact Tryz.sizeOf81,
    v23 := by exact Tryz.zeroValue81,
    t26 := by exact Tryz.underlying2,
    a26 := by exact Tryz.isAgg2,
    z26 := by exact Tryz.sizeOf2,
    v26 := by exact Tryz.zeroValue2,
    t33 := by exact Tryz.underlying77,
    a33 := by exact Tryz.isAgg77,
    z33 := by exact Tryz.sizeOf77,
    v33 := by exact Tryz.zeroValue77 }
theorem w6k:Go.Am.CollectCall Tryz.prog 2 63 115:=fun k b l i R w hm j g h a=>by
 refine (callsIn_wide (n:=6)).1 ?_
 have d:SeqGives Fence.wide 4 Tryz.prog 115 #[.pointer (some ⟨k,0,none⟩)] encZ (fun c=>c.Perm (intKeys i)) (Maps.size i) w:=
  AnyZI.keys_gives v5y Fence.wide _ trivial rfl (by omega) k b l i w j hm g
 have:=AnyZI.collect_in v5z Fence.wide 6 trivial trivial rfl (by omega) 115 #[.pointer (some ⟨k,0,none⟩)] trivial (enters_of Tryz.func115 (by kernel_rfl) rfl) (fun c=>c.Perm (intKeys i)) (Maps.size i) h a w d
 exact this.mono fun e o ⟨v,c,he,hS,f,_,m⟩=>⟨v,c,he,hS,f,m⟩
end Go.Proofs
namespace Go.Am
open Go Go.Proofs D12
noncomputable def v0x:Ctr:=⟨63,[.clo 115 [] [.bptr 0 0]],[.box [.map 1], .map],[(.ret,⟨[(0, .prm)],[.box [.map 1], .map],1⟩)]⟩
noncomputable def G63 (_:Prim) (x:List (D×D)×Unit):Option (List (D×D)×(List (List D)×Unit)):=bif z9b x.1 then some (x.1,(y8h (y8j x.1),())) else none
noncomputable def F63:Prim→Tup (v0x).scs→Option (STup (scss (v0x).outs)):=fun p x=>G63 p x
theorem ok63:CtrOk Tryz.prog v0x (F63 std):=by
 refine ⟨enters_of Tryz.func63 rfl rfl,fun x y a=>?_⟩
 obtain ⟨es,u⟩:=x
 change (bif z9b es then some _ else none)=_ at a
 cases hg:z9b es with
 |false=>rw [hg] at a; cases a
 |true=>
  rw [hg] at a
  cases a
  exact ⟨by show 2≤2; omega,x5c (P:=Tryz.prog) (T:=2) Tryz.underlying2 w6k hg⟩
def u4v:List D→Int
 |[.int _ n]=>n
 |_=>0
theorem w4h {a:List (List D)} {l:List Int} (h:a.Perm (z2k l)):∃ c:List Int,a=z2k c∧c.Perm l:=by
 refine ⟨a.map u4v,?_,?_⟩
 ·have:∀ r∈a,r=[.int .i64 (u4v r)]:=fun r b=>by
   obtain ⟨n,_,rfl⟩:=eBe.1 (h.mem_iff.1 b)
   rfl
  unfold z2k
  rw [List.map_map]
  conv=>lhs; rw [←List.map_id a]
  exact List.map_congr_left fun r b=>this r b
 ·have:=h.map u4v
  unfold z2k at this
  rw [List.map_map] at this
  have e:(u4v∘fun n:Int=>[D.int IntKind.i64 n])=id:=by funext n; rfl
  rw [e,List.map_id] at this
  exact this
noncomputable def x98:Ctr:=⟨57,[.prm],[],[(.ret,⟨[(0, .list 1)],[],1⟩)]⟩
noncomputable def t1h (_:Prim) (x:List (List D)×Unit):Option (List (List D)×Unit):=
 match y6p x.1 with
 |some l=>bif Nat.ble l.length 1000000&&z9k l then some (z2k (srt l),()) else none
 |none=>none
noncomputable def t2r:Prim→Tup (x98).scs→Option (STup (scss (x98).outs)):=fun p x=>t1h p x
theorem u6h:CtrOk Tryz.prog x98 (t2r std):=by
 refine ⟨u6j.1,fun x y a=>?_⟩
 obtain ⟨es,u⟩:=x
 change t1h std (es,u)=_ at a
 unfold t1h at a
 simp only at a
 split at a
 ·rename_i l C
  cases j:(Nat.ble l.length 1000000&&z9k l) with
  |false=>rw [j] at a; cases a
  |true=>
   rw [j] at a
   cases a
   simp only [eAc] at j
   have v:=eAh j.1
   have t:=y0l.1 j.2
   have p:=y49 C
   subst p
   refine ⟨eAo _,?_⟩
   show z3m _ 57 [.perm (z2k l)] [] (.d (.list false 1 (z2k (srt l)))) []
   refine ⟨?_⟩
   intro ρ m w cs A s k
   have z:=k.2 0 _ rfl
   obtain ⟨b,g,E⟩:∃ b:List Int,b.Perm l∧z1k (z0d ρ []) w (.list false 1 (z2k b)) (m.getD 0 undef):=by
    generalize m.getD 0 undef=q at z
    cases z with
    |perm _ F _ g h=>
     obtain ⟨b,rfl,o⟩:=w4h g
     exact ⟨b,o,h⟩
   obtain ⟨r,f,B⟩:=v39 b (by rw [g.length_eq]; exact v)
   have n:r=srt l:=by rw [B.1 (g.nodup_iff.2 t),x3c g]
   subst n
   have c:z3m Tryz.prog 57 [.d (.list false 1 (z2k b))] [] (.d (.list false 1 (z2k (srt l)))) []:=(u6j.2 (z2k b,()) (z2k (srt l),()) f).2
   exact c.run ρ m w cs A s ⟨k.1,fun i x e=>by
    match i,e with
    |0,e=>cases e; exact .d E
    |i+1,e=>simp at e⟩
 ·cases a
end Go.Am
end
section
namespace Go.Am
def z98 (b:Nat):List Nat→List (Nat×AV)→List (Nat×AV)
 |_,[]=>[]
 |seen,(t,v)::l=>bif Nat.blt t b then (bif y3s t seen then z98 b seen l else (t,v)::z98 b (t::seen) l) else z98 b seen l
theorem z88 (b:Nat):∀ (env:List (Nat×AV)) (seen:List Nat) (t:Nat),(Nat.blt t b=false∨y3s t seen=true)→z00 (z98 b seen env) t= .bot
 |[],seen,t,h=>rfl
 |(k,v)::l,seen,t,h=>by
  simp only [z98]
  cases c:Nat.blt k b with
  |false=>exact z88 b l seen t h
  |true=>
   cases hm:y3s k seen with
   |true=>exact z88 b l seen t h
   |false=>
    simp only [cond_true,cond_false,z00]
    cases a:Nat.beq k t with
    |true=>
     have:=eAd a
     subst this
     rcases h with h|h
     ·rw [c] at h; cases h
     ·rw [hm] at h; cases h
    |false=>
     refine z88 b l (k::seen) t ?_
     rcases h with h|h
     ·exact .inl h
     ·right; simp only [y3s,h,Bool.or_true]
theorem z8j (b:Nat):∀ (env:List (Nat×AV)) (seen:List Nat) (t:Nat),y3s t seen=false→z00 (z98 b seen env) t= .bot∨z00 (z98 b seen env) t=z00 env t
 |[],seen,t,h=> .inl rfl
 |(k,v)::l,seen,t,h=>by
  simp only [z98]
  cases a:Nat.beq k t with
  |true=>
   have:=eAd a
   subst this
   cases c:Nat.blt k b with
   |false=>exact .inl (z88 b l seen k (.inl c))
   |true=>rw [h]; simp [z00,a]
  |false=>
   have e:z00 ((k,v)::l) t=z00 l t:=by simp only [z00,a,cond_false]
   rw [e]
   cases c:Nat.blt k b with
   |false=>exact z8j b l seen t h
   |true=>
    cases hm:y3s k seen with
    |true=>exact z8j b l seen t h
    |false=>
     simp only [cond_true,cond_false,z00,a]
     refine z8j b l (k::seen) t ?_
     simp only [y3s,h,Bool.or_false]
     cases d:Nat.beq t k with
     |false=>rfl
     |true=>have:=eAd d; subst this; rw [eFd] at a; cases a
def x2f:List (Nat×Nat)→Nat→Nat
 |[],_=>1000000
 |(g,b)::l,h=>bif Nat.beq g h then b else x2f l h
def v2u (B:List (Nat×Nat)) (g:Nat):SS→SS
 |⟨⟨env,heap,nt⟩,K⟩=>⟨⟨z98 (x2f B g) [] env,heap,nt⟩,K⟩
def t1v:AO→Bool
 | .row _=>true
 |_=>false
def v6r (n:Nat) (s:AS):AS:=
 ⟨y75 s.heap (fun id=>Nat.blt id n||!t1v (z0f s.heap id)) s.env,z38 s.heap (fun id=>Nat.blt id n||!t1v (z0f s.heap id)) 0 s.heap,s.nt⟩
theorem v6q (n:Nat) (s:AS):z5z n s (v6r n s):=
 z5z.view _ (fun id h=>by rw [eAt]; exact .inl (by simpa using h)) ⟨fun _=>rfl,fun id _ h=>by rw [z55]; exact h⟩
def v93:List Bool→Bool
 |[]=>true
 |_=>false
def inV:List (Nat×List Bool)→Nat→List Bool→Bool
 |[],_,_=>false
 |(a,q)::l,g,pos=>(Nat.beq a g&&(v93 q||y8n q pos))||inV l g pos
def u4m (A:Alg) (p:Prim) (Γ:List CF) (B:List (Nat×Nat)) (V:List (Nat×List Bool)):Orc A:=
 ⟨fun β _ _ _ _ g args a=>w2s A p Γ β g args a,fun β _ _ _ g args _=>x6p A p Γ β g args,fun _ _ _ _ _=>none,fun β _ _ _ b k=>b β k,
  fun _ n g pos a k=>bif inV V g pos then k (v2u B g ⟨v6r n a.s,a.K⟩) else k (v2u B g a)⟩
theorem w4p {P:Program} {Γ:List CF} (hG:GamOk P Γ) (B:List (Nat×Nat)) (V:List (Nat×List Bool)):y39 P (u4m opt std Γ B V) where
 call:=(x6w (a:=⟨Γ,[],[]⟩) hG).call
 pure:=(x6w (a:=⟨Γ,[],[]⟩) hG).pure
 loop:=fun _ _ _ _ _ _ _ _ _ _ _ h=>by cases h
 join:=fun β n g pos body k b G hb h=>by
  obtain ⟨e,ss',hg,hk⟩:=hb β k b h
  exact ⟨e,ss',ss',hg,z5z.refl _ _,fun h=>h,hk⟩
 view:=fun β n g pos ss k b hn h=>by
  simp only [u4m] at h
  cases hv:inV V g pos with
  |true=>
   rw [hv] at h
   exact ⟨⟨⟨z98 (x2f B g) [] (v6r n ss.s).env,(v6r n ss.s).heap,(v6r n ss.s).nt⟩,ss.K⟩,(v6q n ss.s).trans (z5z.env (fun t=>z8j _ _ [] t rfl)),by
    show n≤(v6r n ss.s).heap.length
    unfold v6r; rw [z55]; exact hn,h⟩
  |false=>
   rw [hv] at h
   exact ⟨⟨⟨z98 (x2f B g) [] ss.s.env,ss.s.heap,ss.s.nt⟩,ss.K⟩,z5z.env (fun t=>z8j _ _ [] t rfl),hn,h⟩
end Go.Am
end
section
namespace Go.Am
open Go Go.RowKit Go.Proofs
def v3u:List (Nat×Nat):=[(2,1),(3,4),(4,11),(5,19),(6,13),(7,24),(8,19),(9,18),(10,19),(11,20),(12,13),(13,23),(14,9),(15,4),(16,23),(17,4),(18,6),(19,13),(20,6),(21,7),(22,9),(23,27),(24,12),(25,6),(26,6),(27,62),(28,10),(29,5),(30,7),(31,57),(32,12),(33,6),(34,6),(35,22),(36,9),(37,16),(38,6),(39,12),(40,9),(41,1),(42,8),(43,6),(44,7),(45,6),(46,51),(47,10),(48,74),(49,2),(50,33),(51,8),(52,7),(53,1),(54,1),(55,4),(56,5),(57,4),(58,1),(59,4),(60,6),(61,15),(62,13),(63,1),(64,2),(65,6),(66,114),(67,18),(68,5),(69,11),(70,18),(71,2),(72,5),(73,7),(74,3),(75,3),(76,6),(77,6),(78,6),(79,10),(80,4),(81,18),(82,2),(83,2),(84,20),(85,1),(86,5),(87,2),(88,46),(89,11),(90,22),(91,11),(92,4),(93,7),(94,7),(95,16),(96,4),(97,4),(98,9),(99,4),(100,4),(101,9),(102,3),(103,3),(104,9),(105,9),(106,2),(107,3),(108,3),(109,6),(110,51),(111,6),(112,6),(113,2),(114,8),(115,6),(116,9),(117,1),(118,14),(119,1),(120,2),(121,66),(122,4),(123,1),(124,8),(125,2),(126,2),(127,9),(128,5),(129,8),(130,2),(131,12),(132,7),(133,9),(134,19),(135,1),(136,8),(137,12),(138,1),(139,14),(140,2),(141,2),(143,10),(144,2),(145,14),(146,12),(147,2),(148,17),(149,12),(150,8),(151,11),(152,11),(153,50),(154,8),(155,11),(156,2),(157,11),(158,12),(159,3),(160,3),(161,1),(162,4),(163,17),(164,19),(165,5),(166,2),(168,1),(169,11),(170,10),(171,7),(172,2),(173,2),(174,102),(175,2),(176,2),(177,3),(178,3),(179,10),(180,1),(181,1),(182,3),(183,5),(184,1),(185,1),(186,1),(187,1),(188,1),(191,9),(192,5),(193,1),(195,1),(196,6),(197,4),(198,1),(199,1),(200,4),(201,1),(202,1),(203,13),(204,1),(234,1)]
noncomputable def u4t:List CF:=[⟨x0b,u5e⟩,⟨v0x,F63⟩,⟨x98,t2r⟩,⟨x49,t1m⟩,⟨x48,t1l⟩,⟨w0b,t2v⟩,⟨w0a,t2u⟩,⟨v0t,F87⟩,⟨x99,t2t⟩,⟨v0z,F37⟩]
theorem w5o:GamOk Tryz.prog u4t:=by
 intro cf h
 simp only [u4t,eAm,eBg,or_false] at h
 rcases h with rfl|rfl|rfl|rfl|rfl|rfl|rfl|rfl|rfl|rfl
 ·exact w9b
 ·exact ok63
 ·exact u6h
 ·exact v9m
 ·exact v9l
 ·exact u6o
 ·exact u6n
 ·exact ok87
 ·exact u6m
 ·exact ok37
end Go.Am
end
section
namespace Go.Am
open Go Go.RowKit Go.Proofs D12
def leD : D → D → Bool
  | .list f z es, .list false z' es' => (Nat.beq z z' || isNilD es) && x40 es es'
  | x, y => eqD x y
where isNilD:List (List D)→Bool
 |[]=>true
 |_=>false
theorem v2x {O : Nat → Prop} {w : World} {x y : D} {v : Value} (h : leD x y = true) (hx : z1k O w x v) : z1k O w y v := by
  unfold leD at h
  split at h
  · rename_i f z es z' es'
    simp only [eAc, eAt] at h
    obtain ⟨h1, h2⟩ := h
    have h2 := z8t _ _ h2
    subst h2
    have hle : v8e (.list f z es) (.list false z' es) := by
      right; left
      refine ⟨z', rfl, ?_⟩
      rcases h1 with h1 | h1
      · exact .inl (eAd h1).symm
      · right
        unfold leD.isNilD at h1
        split at h1
        · rfl
        · cases h1
    exact hx.le0 hle
  · exact y21 _ _ h ▸ hx
def v9t:List AV→List AV→Bool
 |[],[]=>true
 | .d x::l, .d y::a=>leD x y&&v9t l a
 |_,_=>false
theorem w5b {ρ:Rho} {O:Nat→Prop} {w:World}:∀ {l a:List AV},v9t l a=true→a.length=l.length∧∀ (i:Nat) (y:AV),a[i]?=some y→∃ x,l[i]?=some x∧∀ v,z0n ρ O w x v→z0n ρ O w y v
 |[],a,h=>by
  unfold v9t at h
  split at h
  ·exact ⟨rfl,fun i y h=>by simp at h⟩
  ·next heq=>cases heq
  ·cases h
 |x::l,a,h=>by
  unfold v9t at h
  split at h
  ·rename_i heq; cases heq
  ·rename_i j k y e heq
   cases heq
   simp only [eAc] at h
   obtain ⟨g,f⟩:=w5b (ρ:=ρ) (O:=O) (w:=w) h.2
   refine ⟨by simp [g],fun i z b=>?_⟩
   match i,b with
   |0,b=>cases b; exact ⟨_,rfl,fun v c=>by cases c with|d c=>exact .d (v2x h.1 c)⟩
   |i+1,b=>exact f i z b
  ·cases h
def leA:AV→AV→Bool
 | .d x, .d y=>leD x y
 | .tuple l, .tuple a=>v9t l a
 |_,_=>false
theorem v9u {ρ:Rho} {O:Nat→Prop} {w:World} {x y:AV} {v:Value} (h:leA x y=true) (a:z0n ρ O w x v):z0n ρ O w y v:=by
 unfold leA at h
 split at h
 ·cases a with|d a=>exact .d (v2x h a)
 ·obtain ⟨k,j⟩:=w5b (ρ:=ρ) (O:=O) (w:=w) h
  cases a with
  |tuple l b f g=>
   refine .tuple _ b (by rw [k]; exact f) fun i z c=>?_
   obtain ⟨x,a,e⟩:=j i z c
   exact e _ (g i x a)
 ·cases h
def z9t (x:Option (AV×List AO)) (t:AV):Bool:=
 match x with
 |some (r,h)=>leA (z3j h (fun id=>Nat.blt id 0) r) t
 |none=>false
theorem w0p {P:Program} {E:Env} {O:Orc opt} (hE:EnvOk P E) (hO:y39 P O) {f:Nat} {g:FuncId} {args:List AV} {t:AV} (h:z9t (v09 E O f g args) t=true):z3m P g args [] t []:=by
 unfold z9t at h
 split at h
 ·rename_i r h' heq
  have l:=(v08 hE hO heq).view
  have:y1m h' 0=[]:=rfl
  refine ⟨fun ρ b w cs o n m=>?_⟩
  obtain ⟨ρ',v,a,fr,s1,k,j,i,e,d,c⟩:=l.run ρ b w cs o n m
  exact ⟨ρ',v,a,fr,s1,k,j,v9u h i,e,d,c⟩
 ·cases h
theorem z6g {P:Program} {g:FuncId} {args a:List AV} {h h':List AO} {r:AV} (c:z3m P g args h r h') (b:∀ (ρ:Rho) (O:Nat→Prop) (w:World) (vs:Array Value),z04 ρ O w a vs→z04 ρ O w args vs):z3m P g a h r h':=
 ⟨fun ρ vs w cs f e d=>c.run ρ vs w cs f e (b _ _ _ _ d)⟩
def ff:List Int→Bool:=fun _=>false
def z1i (es:List (List D)) (l:List Cd):Bool:=
 match z9u es with
 |some a=>x40 (z0a ff a) (z0a ff l)
 |none=>false
theorem y31 {es:List (List D)} {l:List Cd} (h:z1i es l=true) {O:Nat→Prop} {w:World} {v:Value} (b:z1k O w (.list false 4 es) v):z1k O w (.list false 4 (z0a ff l)) v:=by
 unfold z1i at h
 split at h
 ·rename_i e a
  obtain ⟨d,c⟩:=y24 a
  rw [←z8t _ _ h]
  exact y60 b (by rw [d]; simp [z0a]) c
 ·cases h
theorem v7q {es:List (List D)} {l:List Cd} (h:z1i es l=true) (rest:List AV) (ρ:Rho) (O:Nat→Prop) (w:World) (vs:Array Value) (b:z04 ρ O w (.d (.list false 4 es)::rest) vs):z04 ρ O w (.d (.list false 4 (z0a ff l))::rest) vs:=by
 refine ⟨b.1,fun i x a=>?_⟩
 match i,a with
 |0,a=>
  cases a
  cases b.2 0 _ rfl with
  |d c=>exact .d (y31 h c)
 |i+1,a=>exact b.2 (i+1) x a
theorem x5s {es b:List (List D)} {l f:List Cd} (h:z1i es l=true) (g:z1i b f=true) (ρ:Rho) (O:Nat→Prop) (w:World) (vs:Array Value) (e:z04 ρ O w [.d (.list false 4 es), .d (.list false 4 b)] vs):z04 ρ O w [.d (.list false 4 (z0a ff l)), .d (.list false 4 (z0a ff f))] vs:=by
 refine ⟨e.1,fun i x a=>?_⟩
 match i,a with
 |0,a=>
  cases a
  cases e.2 0 _ rfl with
  |d c=>exact .d (y31 h c)
 |1,a=>
  cases a
  cases e.2 1 _ rfl with
  |d c=>exact .d (y31 g c)
 |i+2,a=>simp at a
def d0:Cd:=⟨5,1,[1],100⟩
def d1:Cd:=⟨3,1,[2],40⟩
def d2:Cd:=⟨4,3,[2,1],500⟩
def d3:Cd:=⟨9,2,[1],7⟩
def z90:List Cd:=[d0,d1,d2,d3]
noncomputable def t2e:Env:=w0n [] [53,19,17,57,56,55,75,74,73,72,132,67,116,71,108,109,110,139,136,137,21,27,29,31,46,48] Tryz.prog
noncomputable def orcW:Orc opt:=u4m opt std u4t v3u [(88,[false,true,true,true,true,true,true,true]),(16,[])]
noncomputable def w8x (g:Nat) (args:List AV):Option (AV×List AO):=v09 t2e orcW 400 g args
theorem z7g {g:Nat} {args:List AV} {t:AV} (h:z9t (w8x g args) t=true):z3m Tryz.prog g args [] t []:=w0p (y7q follows_mixed) (w4p w5o _ _) h
def cdA (l:List Cd):AV:= .d (.list false 4 (z0a ff l))
end Go.Am
end
