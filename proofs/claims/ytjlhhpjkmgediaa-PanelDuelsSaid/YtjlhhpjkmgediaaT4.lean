/- Texts of this claim. -/
import Derived.Test.YtjlhhpjkmgediaaT3
import Derived.Test.YtjlhhpjkmgediaaProg
import Derived.KernelRfl
import Derived.Shelf.Spec.SlicesInsertGrow
set_option linter.unusedVariables false
set_option linter.unusedSimpArgs false
set_option linter.unusedSectionVars false
set_option maxRecDepth 100000
set_option maxHeartbeats 0
section
namespace Go.Am
variable {fl:List Int→Bool}
def z8d (d:List (List Int)) (i:Nat):Prop:=
 (i:Int)∈d.getD i []∨∃ k∈List.range i,decide ((i:Int)∈d.getD k [])=decide ((k:Int)∈d.getD i [])
instance (d:List (List Int)) (i:Nat):Decidable (z8d d i):=by unfold z8d; infer_instance
def z0w (d:List (List Int)):Int:=
 if d.length<1∨10<d.length then 6
 else if ∃ i∈List.range d.length,¬ z19 (d.getD i []) d.length then 3
 else if ∃ i∈List.range d.length,z8d d i then 16
 else 0
theorem x9n (d:List (List Int)) (hr:∀ l∈d,l.length≤1000000) (n:Int) (i:Nat) (hi:i<d.length) (hi1:i≤1000000):
  z4n (y8a it0 std) (z0d fl d,(n,((i:Int),((0:Int),()))))=
   if ∃ k∈List.range i,decide ((i:Int)∈d.getD k [])=decide ((k:Int)∈d.getD i []) then some (.inl (16,())) else some (.inr (z0d fl d,(n,((i:Int),())))):=by
 have key:=z15 (b:=y8a it0 std) i (fun k=>(z0d fl d,(n,((i:Int),((k:Int),()))))) (fun k=>decide (decide ((i:Int)∈d.getD k [])=decide ((k:Int)∈d.getD i []))) (fun k=> .inl (16,())) (.inr (z0d fl d,(n,((i:Int),())))) (fun k hk=>by
  obtain ⟨m,hm⟩:=z1e (l:=d) (i:=k) (by omega)
  obtain ⟨m',hm'⟩:=z1e hi
  have hw:=z0x (i:=k) (by omega)
  have hlt:(k:Int)<i:=by omega
  have h1:g40 it0 std (z0d fl d,((i:Int),((k:Int),())))=some (decide ((k:Int)∈m'),()):=x1o d i k m' hm' (hr m' (List.mem_of_getElem? hm'))
  have h2:g40 it0 std (z0d fl d,((k:Int),((i:Int),())))=some (decide ((i:Int)∈m),()):=x1o d k i m hm (hr m (List.mem_of_getElem? hm))
  simp only [z0d] at h1 h2
  simp only [z1g hm,z1g hm',y8a,z01,z02,z0h,z0j,z1l,z1y,z0n,z0d,hlt,z0e,hw,h1,h2]
  by_cases a:(k:Int)∈m'<;>by_cases b:(i:Int)∈m<;>simp only [a,b,z01,z02,decide_true,decide_false]<;>rfl) (by
  have hn:¬ (i:Int)<i:=by omega
  simp only [y8a,z01,z02,z0h,z0j,z1l,z1y,z0n,z0d,hn])
 rcases key with ⟨k,h1,h2,_,h4⟩|⟨h1,h2⟩
 ·rw [if_pos ⟨k,List.mem_range.2 h1,by simpa using h2⟩]
  exact h4
 ·rw [if_neg]
  ·exact h2
  ·rintro ⟨k,hk,h⟩
   have:=h1 k (List.mem_range.1 hk)
   simp only [h,decide_true] at this
   exact Bool.noConfusion this
theorem x9o (d:List (List Int)) (hr:∀ l∈d,l.length≤1000000) (hl:d.length≤1000000):
  z4n (y3p it0 std) (z0d fl d,((d.length:Int),((0:Int),())))=
   if ∃ i∈List.range d.length,z8d d i then some (.inl (16,())) else some (.inr ()):=by
 have key:=z15 (b:=y3p it0 std) d.length (fun i=>(z0d fl d,((d.length:Int),((i:Int),())))) (fun i=>decide (z8d d i)) (fun i=> .inl (16,())) (.inr ()) (fun i hi=>by
  obtain ⟨m,hm⟩:=z1e hi
  have hw:=z0x (i:=i) (by omega)
  have hlt:(i:Int)<d.length:=by omega
  have h1:g40 it0 std (z0d fl d,((i:Int),((i:Int),())))=some (decide ((i:Int)∈m),()):=x1o d i i m hm (hr m (List.mem_of_getElem? hm))
  have h3:it0 _ _ (y8a it0 std) (z0d fl d,((d.length:Int),((i:Int),((0:Int),()))))=_:=x9n d hr d.length i hi (by omega)
  simp only [z0d] at h1 h3
  by_cases a:(i:Int)∈m
  ·have hb:z8d d i:= .inl (by rw [z1g hm]; exact a)
   simp only [hb,y3p,z01,z02,z0h,z0j,z1l,z1y,z0n,z0d,hlt,z0e,hw,h1,a,decide_true]
  ·by_cases b:∃ k∈List.range i,decide ((i:Int)∈d.getD k [])=decide ((k:Int)∈d.getD i [])
   ·have hb:z8d d i:= .inr b
    rw [if_pos b] at h3
    simp only [hb,y3p,z01,z02,z0h,z0j,z1l,z1y,z0n,z0d,hlt,z0e,hw,h1,h3,a,decide_false,decide_true]
   ·have hb:¬ z8d d i:=by
     rintro (h|h)
     ·rw [z1g hm] at h; exact a h
     ·exact b h
    rw [if_neg b] at h3
    simp only [hb,y3p,z01,z02,z0h,z0j,z1l,z1y,z0n,z0d,hlt,z0e,hw,h1,h3,a,decide_false]) (by
  have hn:¬ (d.length:Int)<d.length:=by omega
  simp only [y3p,z01,z02,z0h,z0j,z1l,z1y,z0n,z0d,hn])
 rcases key with ⟨k,h1,h2,_,h4⟩|⟨h1,h2⟩
 ·rw [if_pos ⟨k,List.mem_range.2 h1,by simpa using h2⟩]
  exact h4
 ·rw [if_neg]
  ·exact h2
  ·rintro ⟨k,hk,h⟩
   have:=h1 k (List.mem_range.1 hk)
   simp only [h,decide_true] at this
   exact Bool.noConfusion this
theorem x9p (d:List (List Int)) (hr:∀ l∈d,l.length≤1000000) (hl:d.length≤1000000):
  z4n (y6d it0 std) (z0d fl d,((d.length:Int),((0:Int),())))=
   if ∃ i∈List.range d.length,¬ z19 (d.getD i []) d.length then some (.inl (3,())) else some (.inr (z0d fl d,((d.length:Int),()))):=by
 have key:=z15 (b:=y6d it0 std) d.length (fun i=>(z0d fl d,((d.length:Int),((i:Int),())))) (fun i=>decide (¬ z19 (d.getD i []) d.length)) (fun i=> .inl (3,())) (.inr (z0d fl d,((d.length:Int),()))) (fun i hi=>by
  obtain ⟨m,hm⟩:=z1e hi
  have hw:=z0x (i:=i) (by omega)
  have hlt:(i:Int)<d.length:=by omega
  have h0:(0:Int)≤i:=by omega
  have h1:g38 it0 std (z0h m,((d.length:Int),()))=some (decide (z19 m d.length),()):=w69 m d.length (hr m (List.mem_of_getElem? hm))
  simp only [z0h] at h1
  by_cases a:z19 m d.length
  ·simp only [z1g hm,y6d,z01,z02,z0h,z0j,z1l,z1y,z0n,z0d,hm,hlt,h0,ge_iff_le,z0e,hw,h1,a,decide_true,not_true,decide_false]
  ·simp only [z1g hm,y6d,z01,z02,z0h,z0j,z1l,z1y,z0n,z0d,hm,hlt,h0,ge_iff_le,z0e,hw,h1,a,decide_true,not_false_eq_true,decide_false]) (by
  have hn:¬ (d.length:Int)<d.length:=by omega
  simp only [y6d,z01,z02,z0h,z0j,z1l,z1y,z0n,z0d,hn])
 rcases key with ⟨k,h1,h2,_,h4⟩|⟨h1,h2⟩
 ·rw [if_pos ⟨k,List.mem_range.2 h1,of_decide_eq_true h2⟩]
  exact h4
 ·rw [if_neg]
  ·exact h2
  ·rintro ⟨k,hk,h⟩
   exact of_decide_eq_false (h1 k (List.mem_range.1 hk)) h
theorem x1p (d:List (List Int)) (hr:∀ l∈d,l.length≤1000000):G27 std (z0d fl d,())=some (z0w d,()):=by
 unfold G27
 by_cases h1:d.length<1
 ·have h1':((d.length:Nat):Int)<1:=by omega
  simp only [g27,z01,z02,z04,h1',z0w,h1,true_or]
 ·have h1':¬ ((d.length:Nat):Int)<1:=by omega
  by_cases h2:10<d.length
  ·have h2':((d.length:Nat):Int)>10:=by omega
   simp only [g27,z01,z02,z04,h1',h2',z0w,h2,or_true]
  ·have h2':¬ ((d.length:Nat):Int)>10:=by omega
   have e1:it0 _ _ (y6d it0 std) (z0d fl d,((d.length:Int),((0:Int),())))=_:=x9p d hr (by omega)
   have e2:it0 _ _ (y3p it0 std) (z0d fl d,((d.length:Int),((0:Int),())))=_:=x9o d hr (by omega)
   have hd:z0w d=if ∃ i∈List.range d.length,¬ z19 (d.getD i []) d.length then 3 else if ∃ i∈List.range d.length,z8d d i then 16 else 0:=by
    rw [z0w,if_neg (by omega)]
   rw [hd]
   by_cases a:∃ i∈List.range d.length,¬ z19 (d.getD i []) d.length
   ·rw [if_pos a] at e1⊢
    simp only [g27,z01,z02,z04,h1',h2',e1]
   ·rw [if_neg a] at e1⊢
    by_cases b:∃ i∈List.range d.length,z8d d i
    ·rw [if_pos b] at e2⊢
     simp only [g27,z01,z02,z04,h1',h2',e1,e2]
    ·rw [if_neg b] at e2⊢
     simp only [g27,z01,z02,z04,h1',h2',e1,e2]
end Go.Am
end
section
namespace Go.Am
variable {fl:List Int→Bool}
theorem z2t {S R:Type} {b:S→Option (S⊕R)} (n:Nat) (e:Nat→S) (r:R) (step:∀ i,i<n→b (e i)=some (.inl (e (i+1)))) (stop:b (e n)=some (.inr r)):z4n b (e 0)=some r:=by
 rcases z15 (b:=b) n e (fun _=>false) (fun _=>r) r (fun i hi=>by rw [step i hi]; rfl) stop with ⟨i,_,h,_⟩|⟨_,h⟩
 ·exact Bool.noConfusion h
 ·exact h
def z1f (d:List (List Int)):List Int:=d.map fun l=>(l.length:Int)
theorem z2q (d:List (List Int)):(z1f d).length=d.length:=by simp [z1f]
theorem x9m (d:List (List Int)) (hl:d.length≤1000):z4n (x3a std) ([],(z0d fl d,((0:Int),())))=some (z0h (z1f d),()):=by
 have key:=z2t (b:=x3a std) d.length (fun i=>(z0h (z1f (d.take i)),(z0d fl d,((i:Int),())))) (z0h (z1f d),()) (fun i hi=>by
  obtain ⟨m,hm⟩:=z1e hi
  have hw:=z0x (i:=i) (by omega)
  have hlt:(i:Int)<d.length:=by omega
  have h0:(0:Int)≤i:=by omega
  have ht:d.take (i+1)=d.take i++[m]:=by
   have:=(List.getElem?_eq_some_iff.1 hm)
   obtain ⟨h1,rfl⟩:=this
   rw [List.take_succ_eq_append_getElem h1]
  have hlen:(z0h (z1f (d.take i))).length=i:=by rw [z1k,z2q,List.length_take]; omega
  have hle:i+1≤1000000:=by omega
  rw [ht]
  simp only [z1f,List.map_append,List.map_cons,List.map_nil] at hlen⊢
  have e1:z0h ((d.take i).map (fun l=>(l.length:Int))++[(m.length:Int)])=z0h ((d.take i).map (fun l=>(l.length:Int)))++[eI m.length]:=by simp [z0h]
  rw [e1]
  generalize z0h ((d.take i).map (fun l=>(l.length:Int)))=W at hlen⊢
  have hdl:(m.map eI).length=m.length:=by simp
  simp only [x3a,z01,z02,z0d,z0n,z1y,z0h,List.length_map,List.getElem?_map,Option.map_some,Option.getD_some,hm,hlt,h0,ge_iff_le,z0e,hw,hlen,List.drop_zero,List.take_of_length_le (Nat.le_of_eq hlen),List.length_append,List.length_cons,List.length_nil,Nat.zero_add,hle,eI,Nat.le_refl,decide_true,Bool.and_true,List.take_succ_cons,List.take_zero]) (by
  have hn:¬ (d.length:Int)<d.length:=by omega
  simp only [List.take_length,x3a,z01,z02,z0d,List.length_map,hn])
 exact key
theorem w7c (d:List (List Int)) (hr:∀ l∈d,l.length≤1000000):G33 std (z0d fl d,())=some (if z0w d=0 then (z0h (z1f d),((0:Int),())) else ([],(z0w d,()))):=by
 unfold G33
 have h27:g27 it0 std (z0d fl d,())=some (z0w d,()):=x1p d hr
 by_cases h:z0w d=0
 ·have hl:d.length≤10:=by
   refine Nat.le_of_not_lt fun h'=>?_
   rw [z0w,if_pos (.inr h')] at h
   exact absurd h (by decide)
  have e1:it0 _ _ (x3a std) ([],(z0d fl d,((0:Int),())))=_:=x9m d (by omega)
  simp only [g33,z01,z02,h27,h,e1,ne_eq,not_true]
  done
 ·simp only [g33,z01,z02,h27,h,ne_eq,not_false_eq_true]
  done
def bt (d:List (List Int)) (i k:Nat):Bool:=decide ((k:Int)∈d.getD i [])
def tri (d:List (List Int)) (i k m:Nat):Bool:=bt d i k&&bt d k m&&bt d m i||bt d k i&&bt d m k&&bt d i m
def C3 (d:List (List Int)) (i k:Nat):Nat→Nat
 |0=>0
 |m+1=>C3 d i k m+(bif tri d i k m then 1 else 0)
def C2 (d:List (List Int)) (i:Nat):Nat→Nat
 |0=>0
 |k+1=>C2 d i k+C3 d i k k
def C1 (d:List (List Int)):Nat→Nat
 |0=>0
 |i+1=>C1 d i+C2 d i i
theorem w7l (d:List (List Int)) (i k m:Nat):C3 d i k m≤m:=by
 induction m with
 |zero=>exact Nat.le_refl _
 |succ m ih=>
  rw [C3]
  cases tri d i k m<;>simp<;>omega
theorem w7m (d:List (List Int)) (i k:Nat) (hk:k≤10):C2 d i k≤10*k:=by
 induction k with
 |zero=>exact Nat.le_refl _
 |succ k ih=>
  have:=ih (by omega)
  have:=w7l d i k k
  rw [C2]; omega
theorem v2m (d:List (List Int)) (i:Nat) (hi:i≤10):C1 d i≤100*i:=by
 induction i with
 |zero=>exact Nat.le_refl _
 |succ i ih=>
  have:=ih (by omega)
  have:=w7m d i i (by omega)
  rw [C1]; omega
theorem y4l (d:List (List Int)) (hr:∀ l∈d,l.length≤1000000) (i k:Nat) (hi:i<d.length):g40 it0 std (z0d fl d,((i:Int),((k:Int),())))=some (bt d i k,()):=by
 obtain ⟨m,hm⟩:=z1e hi
 rw [bt,z1g hm]
 exact x1o d i k m hm (hr m (List.mem_of_getElem? hm))
theorem x86 (d:List (List Int)) (hr:∀ l∈d,l.length≤1000000) (hl:d.length≤10) (c i k:Nat) (hc:c≤1000) (hi:i<d.length) (hk:k<i):
  z4n (x21 it0 std) (z0d fl d,((c:Int),((i:Int),((k:Int),((0:Int),())))))=some (z0d fl d,(((c+C3 d i k k:Nat):Int),((i:Int),((k:Int),())))):=by
 refine z2t (b:=x21 it0 std) k (fun m=>(z0d fl d,(((c+C3 d i k m:Nat):Int),((i:Int),((k:Int),((m:Int),())))))) _ (fun m hm=>?_) ?_
 ·have hw:=z0x (i:=m) (by omega)
  have:=w7l d i k m
  have hw':=z0x (i:=c+C3 d i k m) (by omega)
  have hlt:(m:Int)<k:=by omega
  have h1:=y4l (fl:=fl) d hr i k hi
  have h2:=y4l (fl:=fl) d hr k m (by omega)
  have h3:=y4l (fl:=fl) d hr m i (by omega)
  have h4:=y4l (fl:=fl) d hr k i (by omega)
  have h5:=y4l (fl:=fl) d hr m k (by omega)
  have h6:=y4l (fl:=fl) d hr i m hi
  rw [C3,tri]
  revert h1 h2 h3 h4 h5 h6
  cases bt d i k<;>cases bt d k m<;>cases bt d m i<;>cases bt d k i<;>cases bt d m k<;>cases bt d i m<;>intro h1 h2 h3 h4 h5 h6<;>
   simp only [x21,z01,z02,hlt,z0e,hw,hw',h1,h2,h3,h4,h5,h6,Bool.and_true,Bool.and_false,Bool.or_true,Bool.or_false,cond_true,cond_false,Nat.add_zero,Nat.add_assoc]<;>rfl
 ·have hn:¬ (k:Int)<k:=by omega
  simp only [x21,z01,z02,hn]
theorem x87 (d:List (List Int)) (hr:∀ l∈d,l.length≤1000000) (hl:d.length≤10) (c i:Nat) (hc:c≤900) (hi:i<d.length):
  z4n (x22 it0 std) (z0d fl d,((c:Int),((i:Int),((0:Int),()))))=some (z0d fl d,(((c+C2 d i i:Nat):Int),((i:Int),()))):=by
 refine z2t (b:=x22 it0 std) i (fun k=>(z0d fl d,(((c+C2 d i k:Nat):Int),((i:Int),((k:Int),()))))) _ (fun k hk=>?_) ?_
 ·have hw:=z0x (i:=k) (by omega)
  have:=w7m d i k (by omega)
  have hlt:(k:Int)<i:=by omega
  have h1:it0 _ _ (x21 it0 std) (z0d fl d,(((c+C2 d i k:Nat):Int),((i:Int),((k:Int),((0:Int),())))))=_:=x86 d hr hl (c+C2 d i k) i k (by omega) hi hk
  rw [C2, ←Nat.add_assoc]
  simp only [x22,z01,z02,hlt,z0e,hw,h1]
 ·have hn:¬ (i:Int)<i:=by omega
  simp only [x22,z01,z02,hn]
theorem x88 (d:List (List Int)) (hr:∀ l∈d,l.length≤1000000) (hl:d.length≤10):
  z4n (x23 it0 std) (z0d fl d,((0:Int),((0:Int),())))=some (((C1 d d.length:Nat):Int),()):=by
 refine z2t (b:=x23 it0 std) d.length (fun i=>(z0d fl d,(((C1 d i:Nat):Int),((i:Int),())))) _ (fun i hi=>?_) ?_
 ·have hw:=z0x (i:=i) (by omega)
  have:=v2m d i (by omega)
  have hlt:(i:Int)<d.length:=by omega
  have h1:it0 _ _ (x22 it0 std) (z0d fl d,(((C1 d i:Nat):Int),((i:Int),((0:Int),()))))=_:=x87 d hr hl (C1 d i) i (by omega) hi
  rw [C1]
  simp only [x23,z01,z02,z04,hlt,z0e,hw,h1]
 ·have hn:¬ (d.length:Int)<d.length:=by omega
  simp only [x23,z01,z02,z04,hn]
theorem x5k {d:List (List Int)} (h:z0w d=0):d.length≤10:=by
 refine Nat.le_of_not_lt fun h'=>?_
 rw [z0w,if_pos (.inr h')] at h
 exact absurd h (by decide)
theorem w67 (d:List (List Int)) (hr:∀ l∈d,l.length≤1000000):G42 std (z0d fl d,())=some (if z0w d=0 then (((C1 d d.length:Nat):Int),((0:Int),())) else ((0:Int),(z0w d,()))):=by
 unfold G42
 have h27:g27 it0 std (z0d fl d,())=some (z0w d,()):=x1p d hr
 by_cases h:z0w d=0
 ·have e1:it0 _ _ (x23 it0 std) (z0d fl d,((0:Int),((0:Int),())))=_:=x88 d hr (x5k h)
  simp only [g42,z01,z02,h27,h,e1,ne_eq,not_true]
  done
 ·simp only [g42,z01,z02,h27,h,ne_eq,not_false_eq_true]
  done
end Go.Am
end
noncomputable section
namespace Go.Am
def w53:Ctr:=
 ⟨52,[.int .i64, .int .i64, .list 1],[],[(.ret,⟨[(0, .bool)],[],1⟩)]⟩
def la52:List LA:=
 [⟨91,[false,true,false,true],2,⟨⟨[(0, .list 1),(1, .clo 80 [] [.bptr 0 0, .bptr 1 0]),(7, .int .i64),(8, .int .i64)],[.box [.int .i64], .box [.int .i64]],19⟩,[(AX.ret,⟨[(4, .int .i64)],[.box [.int .i64], .box [.int .i64]],19⟩),((AX.exit 0),⟨[],[.box [.int .i64], .box [.int .i64]],19⟩)]⟩⟩]
def ja52:List JA:=
 [⟨80,[false,true],2,[(AX.normal,⟨[(4, .bool)],[.box [.int .i64], .box [.int .i64]],13⟩)]⟩]
def v0r:List CF:=
 []
def an52:Anns:=
 ⟨v0r,ja52,[]⟩
def v10 (p:Prim):T9→Option ((Int×(Int×(LD×(Int×(Int×Unit)))))⊕((Int×(Int×(Int×Unit)))⊕(Int×(Int×Unit)))):=
 fun a=>opt.run _ (
 opt.ask _ (p.cmp .lss a.2.2.2.2.1 a.2.2.2.1) (
 opt.need _ (p.rowOk a.2.2.1 (p.nat a.2.2.2.2.1) [ci])<|
 opt.need _ (p.cmp .geq a.2.2.2.2.1 (0:Int))<|
 opt.bnd T29 _ (
 opt.run T29 (
 opt.ask _ (p.cmp .lss (p.rdI a.2.2.1 (p.nat a.2.2.2.2.1) 0) a.1) (
 opt.ret _ (a.1,(a.2.1,(Bool.true,())))) (
 opt.ret _ (a.1,(a.2.1,((p.cmp .gtr (p.rdI a.2.2.1 (p.nat a.2.2.2.2.1) 0) a.2.1),())))))) fun b=>
 opt.ask _ b.2.2.1 (
 opt.ret _ (Sum.inr (Sum.inl (b.1,(b.2.1,(a.2.2.2.2.1,())))))) (
 opt.ret _ (Sum.inl (b.1,(b.2.1,(a.2.2.1,(a.2.2.2.1,((p.ar .add .i64 a.2.2.2.2.1 (1:Int)),())))))))) (
 opt.ret _ (Sum.inr (Sum.inr (a.1,(a.2.1,()))))))
def g52 (it:It):(p:Prim)→(Int×(Int×(LD×Unit)))→Option T0:=
 fun p x=>
 opt.alt ((Int×(Int×(Int×Unit)))) T7 _ (
 it _ _ (v10 p) (x.1,(x.2.1,(x.2.2.1,((p.ofNat (p.len x.2.2.1)),((0:Int),())))))) (fun a=>
 opt.ret _ ((bif (p.cmp .geq a.2.2.1 (0:Int)) then Bool.false else Bool.true),())) (fun b=>
 opt.bnd T7 _ (some b) fun c=>
 opt.ret _ ((bif (p.cmp .geq (-1:Int) (0:Int)) then Bool.false else Bool.true),()))
def G52:=g52 it0
theorem ok52:CtrOk PG w53 (G52 std):=okF (a:=an52) (l:=la52) (gN) (by kernel_rfl) fun _ _=>by kernel_rfl
def x8t:Ctr:=
 ⟨56,[.list 1, .int .i64],[],[(.ret,⟨[(0, .bool)],[],1⟩)]⟩
def la56:List LA:=
 [⟨56,[false,true,false,true,true],0,⟨⟨[(1, .int .i64),(5, .int .i64),(8, .list 1),(9, .int .i64),(10, .int .i64)],[],24⟩,[(AX.ret,⟨[(4, .bool)],[],24⟩),((AX.exit 0),⟨[],[],24⟩)]⟩⟩]
def ja56:List JA:=
 [⟨56,[false,false,true,false,false,true,true,false,false,true,false,true,true],0,[(AX.normal,⟨[(1, .int .i64),(7, .int .i64),(8, .list 1),(9, .int .i64),(10, .int .i64),(21, .bool)],[],24⟩)]⟩]
def v0p:List CF:=
 []
def an56:Anns:=
 ⟨v0p,ja56,[]⟩
def y8f (p:Prim):T9→Option ((Int×(Int×(LD×(Int×(Int×Unit)))))⊕((Bool×Unit)⊕Unit)):=
 fun a=>opt.run _ (
 opt.ask _ (p.cmp .lss a.2.2.2.2.1 a.2.2.2.1) (
 opt.need _ (p.rowOk a.2.2.1 (p.nat a.2.2.2.2.1) [ci])<|
 opt.need _ (p.cmp .geq a.2.2.2.2.1 (0:Int))<|
 opt.bnd T30 _ (
 opt.run T30 (
 opt.ask _ (p.cmp .leq (p.rdI a.2.2.1 (p.nat a.2.2.2.2.1) 0) a.2.1) (
 opt.ret _ (a.1,((p.rdI a.2.2.1 (p.nat a.2.2.2.2.1) 0),(a.2.2.1,(a.2.2.2.1,(a.2.2.2.2.1,(Bool.true,()))))))) (
 opt.ret _ (a.1,((p.rdI a.2.2.1 (p.nat a.2.2.2.2.1) 0),(a.2.2.1,(a.2.2.2.1,(a.2.2.2.2.1,((p.cmp .geq (p.rdI a.2.2.1 (p.nat a.2.2.2.2.1) 0) a.1),()))))))))) fun b=>
 opt.ask _ b.2.2.2.2.2.1 (
 opt.ret _ (Sum.inr (Sum.inl (Bool.false,())))) (
 opt.ret _ (Sum.inl (b.1,(b.2.1,(b.2.2.1,(b.2.2.2.1,((p.ar .add .i64 b.2.2.2.2.1 (1:Int)),())))))))) (
 opt.ret _ (Sum.inr (Sum.inr ()))))
def g56 (it:It):(p:Prim)→(LD×T1)→Option T0:=
 fun p x=>
 opt.alt T0 (Unit) _ (
 it _ _ (y8f p) (x.2.1,((-1:Int),(x.1,((p.ofNat (p.len x.1)),((0:Int),())))))) (fun a=>
 opt.ret _ (a.1,())) (fun b=>
 opt.bnd (Unit) _ (some b) fun c=>
 opt.ret _ (Bool.true,()))
def G56:=g56 it0
theorem w8s:CtrOk PG x8t (G56 std):=okF (a:=an56) (l:=la56) (gN) (by kernel_rfl) fun _ _=>by kernel_rfl
def w5y:Ctr:=
 ⟨70,[.list 1],[],[(.ret,⟨[(0, .int .i64)],[],1⟩)]⟩
def la70:List LA:=
 [⟨70,[false,true,false,true,true],0,⟨⟨[(3, .int .i64),(6, .list 1),(7, .int .i64),(8, .int .i64)],[],17⟩,[((AX.exit 0),⟨[(3, .int .i64)],[],17⟩)]⟩⟩]
def ja70:List JA:=
 []
def v0i:List CF:=
 []
def an70:Anns:=
 ⟨v0i,ja70,[]⟩
def x6e (p:Prim):(Int×(LD×(Int×(Int×Unit))))→Option ((Int×(LD×(Int×(Int×Unit))))⊕(Int×Unit)):=
 fun a=>opt.run _ (
 opt.ask _ (p.cmp .lss a.2.2.2.1 a.2.2.1) (
 opt.need _ (p.rowOk a.2.1 (p.nat a.2.2.2.1) [ci])<|
 opt.need _ (p.cmp .geq a.2.2.2.1 (0:Int))<|
 opt.ret _ (Sum.inl ((p.ar .add .i64 a.1 (p.rdI a.2.1 (p.nat a.2.2.2.1) 0)),(a.2.1,(a.2.2.1,((p.ar .add .i64 a.2.2.2.1 (1:Int)),())))))) (
 opt.ret _ (Sum.inr (a.1,()))))
def g70 (it:It):(p:Prim)→(LD×Unit)→Option T2:=
 fun p x=>
 opt.bnd T2 _ (
 it _ _ (x6e p) ((0:Int),(x.1,((p.ofNat (p.len x.1)),((0:Int),()))))) fun a=>
 opt.ret _ (a.1,())
def G70:=g70 it0
theorem ok70:CtrOk PG w5y (G70 std):=okF (a:=an70) (l:=la70) (gN) (by kernel_rfl) fun _ _=>by kernel_rfl
def x8s:Ctr:=
 ⟨61,[.list 1],[],[(.ret,⟨[(0, .int .i64)],[],1⟩)]⟩
def la61:List LA:=
 []
def ja61:List JA:=
 [⟨61,[false,false,false,true],0,[(AX.normal,⟨[(0, .list 1),(3, .bool)],[],16⟩)]⟩,
 ⟨61,[true,false,false,true],0,[(AX.ret,⟨[(2, .int .i64)],[],16⟩),(AX.normal,⟨[],[],16⟩)]⟩]
def v0o:List CF:=
 [⟨w53,G52⟩]
def an61:Anns:=
 ⟨v0o,ja61,[]⟩
def g61 (it:It):(p:Prim)→(LD×Unit)→Option T2:=
 fun p x=>
 opt.bnd ((LD×T8)) _ (
 opt.run ((LD×T8)) (
 opt.ask _ (p.cmp .eql (p.ofNat (p.len x.1)) (0:Int)) (
 opt.ret _ (x.1,(Bool.true,()))) (
 opt.ret _ (x.1,((p.cmp .gtr (p.ofNat (p.len x.1)) (10:Int)),()))))) fun a=>
 opt.alt T2 (Unit) _ (
 opt.run (((Int×Unit)⊕Unit)) (
 opt.ask _ a.2.1 (
 opt.ret _ (Sum.inl ((6:Int),()))) (
 opt.bnd T0 _ (g52 it p ((0:Int),((9:Int),(a.1,())))) fun b=>
 opt.ask _ (bif b.1 then Bool.false else Bool.true) (
 opt.ret _ (Sum.inl ((3:Int),()))) (
 opt.ret _ (Sum.inr ()))))) (fun c=>
 opt.ret _ (c.1,())) (fun d=>
 opt.bnd (Unit) _ (some d) fun e=>
 opt.ret _ ((0:Int),()))
def G61:=g61 it0
theorem w8r:CtrOk PG x8s (G61 std):=okF (a:=an61) (l:=la61) (gC ok52 (gN)) (by kernel_rfl) fun _ _=>by kernel_rfl
def w0n:Ctr:=
 ⟨102,[.int .u64],[],[(.ret,⟨[(0, .int .i64)],[],1⟩)]⟩
def w9q:List LA:=
 []
def w92:List JA:=
 [⟨102,[true,false,true,true,true],0,[(AX.normal,⟨[(0, .int .u64),(2, .int .i64)],[],25⟩)]⟩,
 ⟨102,[true,false,true],0,[(AX.normal,⟨[(0, .int .u64),(2, .int .i64)],[],25⟩)]⟩,
 ⟨102,[true,false,true,true],0,[(AX.normal,⟨[(0, .int .u64),(2, .int .i64)],[],25⟩)]⟩]
def w5e:List CF:=
 []
def v2i:Anns:=
 ⟨w5e,w92,[]⟩
def v2j:(p:Prim)→T1→Option T2:=
 fun p x=>
 opt.bnd T7 _ (
 opt.run T7 (
 opt.ask _ (p.cmp .geq x.1 (4294967296:Int)) (
 opt.need _ (p.cmp .geq (32:Int) (0:Int))<|
 opt.ret _ ((p.ar .shr .u64 x.1 (32:Int)),((32:Int),()))) (
 opt.ret _ (x.1,((0:Int),()))))) fun a=>
 opt.bnd T7 _ (
 opt.run T7 (
 opt.ask _ (p.cmp .geq a.1 (65536:Int)) (
 opt.need _ (p.cmp .geq (16:Int) (0:Int))<|
 opt.ret _ ((p.ar .shr .u64 a.1 (16:Int)),((p.ar .add .i64 a.2.1 (16:Int)),()))) (
 opt.ret _ (a.1,(a.2.1,()))))) fun b=>
 opt.bnd T7 _ (
 opt.run T7 (
 opt.ask _ (p.cmp .geq b.1 (256:Int)) (
 opt.need _ (p.cmp .geq (8:Int) (0:Int))<|
 opt.ret _ ((p.ar .shr .u64 b.1 (8:Int)),((p.ar .add .i64 b.2.1 (8:Int)),()))) (
 opt.ret _ (b.1,(b.2.1,()))))) fun c=>
 opt.need _ (bif (p.cmp .geq (p.cvt .u8 c.1) (0:Int)) then (p.cmp .lss (p.cvt .u8 c.1) (p.ofNat 256)) else Bool.false)<|
 opt.ret _ ((p.ar .add .i64 c.2.1 (p.cvt .i64 (p.byte (ByteArray.mk #[0,1,2,2,3,3,3,3,4,4,4,4,4,4,4,4,5,5,5,5,5,5,5,5,5,5,5,5,5,5,5,5,6,6,6,6,6,6,6,6,6,6,6,6,6,6,6,6,6,6,6,6,6,6,6,6,6,6,6,6,6,6,6,6,7,7,7,7,7,7,7,7,7,7,7,7,7,7,7,7,7,7,7,7,7,7,7,7,7,7,7,7,7,7,7,7,7,7,7,7,7,7,7,7,7,7,7,7,7,7,7,7,7,7,7,7,7,7,7,7,7,7,7,7,7,7,7,7,8,8,8,8,8,8,8,8,8,8,8,8,8,8,8,8,8,8,8,8,8,8,8,8,8,8,8,8,8,8,8,8,8,8,8,8,8,8,8,8,8,8,8,8,8,8,8,8,8,8,8,8,8,8,8,8,8,8,8,8,8,8,8,8,8,8,8,8,8,8,8,8,8,8,8,8,8,8,8,8,8,8,8,8,8,8,8,8,8,8,8,8,8,8,8,8,8,8,8,8,8,8,8,8,8,8,8,8,8,8,8,8,8,8,8,8,8,8,8,8,8,8,8,8,8,8,8,8]) (p.cvt .u8 c.1)))),())
theorem w8z:CtrOk PG w0n (v2j std):=okF (a:=v2i) (l:=w9q) (gN) (by kernel_rfl) fun _ _=>by kernel_rfl
def w22:Ctr:=
 ⟨83,[.int .u64],[],[(.ret,⟨[(0, .int .i64)],[],1⟩)]⟩
def la83:List LA:=
 []
def ja83:List JA:=
 []
def v0e:List CF:=
 [⟨w0n,v2j⟩]
def an83:Anns:=
 ⟨v0e,ja83,[]⟩
def G83:(p:Prim)→T1→Option T2:=
 fun p x=>
 opt.bnd T2 _ (v2j p (x.1,())) fun a=>
 opt.ret _ (a.1,())
theorem v2q:CtrOk PG w22 (G83 std):=okF (a:=an83) (l:=la83) (gC w8z (gN)) (by kernel_rfl) fun _ _=>by kernel_rfl
def w21:Ctr:=
 ⟨98,[.int .i64, .int .i64],[],[(.ret,⟨[(0, .bool)],[],1⟩)]⟩
def la98:List LA:=
 []
def ja98:List JA:=
 [⟨98,[false,true],0,[(AX.normal,⟨[(4, .bool)],[],17⟩)]⟩]
def v0c:List CF:=
 []
def an98:Anns:=
 ⟨v0c,ja98,[]⟩
def G98:(p:Prim)→T3→Option T0:=
 fun p x=>
 opt.bnd T0 _ (
 opt.run T0 (
 opt.ask _ (p.cmp .neq x.1 x.1) (
 opt.ask _ (bif (p.cmp .neq x.2.1 x.2.1) then Bool.false else Bool.true) (
 opt.ret _ (Bool.true,())) (
 opt.ret _ ((p.cmp .lss x.1 x.2.1),()))) (
 opt.ret _ ((p.cmp .lss x.1 x.2.1),())))) fun a=>
 opt.ret _ (a.1,())
theorem v2p:CtrOk PG w21 (G98 std):=okF (a:=an98) (l:=la98) (gN) (by kernel_rfl) fun _ _=>by kernel_rfl
def w50:Ctr:=
 ⟨65,[.list 1],[],[(.ret,⟨[(0, .sl 0 1)],[.row [ci]],1⟩)]⟩
def la65:List LA:=
 []
def ja65:List JA:=
 []
def v0k:List CF:=
 []
def an65:Anns:=
 ⟨v0k,ja65,[]⟩
def G65:(p:Prim)→(LD×Unit)→Option ((LD×T5)):=
 fun p x=>
 opt.need _ (p.leN 1 (p.len x.1))<|
 opt.ask _ (p.leN (p.add 0 (p.len x.1)) 0) (
 opt.need _ (p.and Bool.true (p.and (p.leN (p.add 0 0) (p.len [])) (p.and (p.leN 1 (p.len x.1)) (p.leN (p.add 0 0) (p.len [])))))<|
 opt.need _ (p.leN (p.add 0 0) (p.len (p.splice [] (p.add 0 0) x.1)))<|
 opt.ret _ ((p.splice [] (p.add 0 0) x.1),(0,((p.add 0 (p.len x.1)),())))) (
 opt.need _ (p.and Bool.true (p.and (p.leN (p.add 0 0) (p.len [])) (p.and (p.leN 1 (p.len x.1)) (p.leN (p.add 0 (p.len x.1)) 1000000))))<|
 opt.ret _ ((p.app (p.cut [] 0 0) x.1),(0,((p.add 0 (p.len x.1)),()))))
theorem ok65:CtrOk PG w50 (G65 std):=okF (a:=an65) (l:=la65) (gN) (by kernel_rfl) fun _ _=>by kernel_rfl
def x5m:Ctr:=
 ⟨54,[.list 1],[],[(.ret,⟨[(0, .tuple [.nilp, .int .i64])],[],1⟩),(.ret,⟨[(0, .tuple [.bptr 0 0, .int .i64])],[.row [ci]],1⟩)]⟩
def la54:List LA:=
 [⟨54,[false,true,false,true,true,true,true],0,⟨⟨[(2, .bptr 0 0),(3, .bptr 1 0),(4, .int .i64),(5, .bptr 2 0),(23, .list 1),(24, .int .i64),(25, .int .i64)],[.box [.nilp], .box [.int .i64], .box [.bptr 3 0], .row [ci]],75⟩,[(AX.ret,⟨[(2, .bptr 0 0),(3, .bptr 1 0)],[.box [.nilp], .box [.int .i64]],75⟩),((AX.exit 0),⟨[(2, .bptr 0 0),(3, .bptr 1 0),(4, .int .i64),(5, .bptr 2 0)],[.box [.nilp], .box [.int .i64], .box [.bptr 3 0], .row [ci]],75⟩)]⟩⟩,
 ⟨54,[false,true,true,true,false,false,true,true,false,false,true,false,true,true,true,true],0,⟨⟨[(2, .bptr 0 0),(3, .bptr 1 0),(4, .int .i64),(5, .bptr 2 0),(6, .int .i64),(23, .list 1),(24, .int .i64),(25, .int .i64),(34, .list 1),(35, .int .i64),(36, .int .i64)],[.box [.nilp], .box [.int .i64], .box [.bptr 3 0], .row [ci]],75⟩,[((AX.exit 2),⟨[(2, .bptr 0 0),(3, .bptr 1 0),(4, .int .i64),(5, .bptr 2 0),(23, .list 1),(24, .int .i64),(25, .int .i64)],[.box [.nilp], .box [.int .i64], .box [.bptr 3 0], .row [ci]],75⟩)]⟩⟩,
 ⟨54,[false,true,false,true,true,true,true,true],0,⟨⟨[(2, .bptr 0 0),(3, .bptr 1 0),(5, .bptr 2 0),(49, .int .i64),(50, .int .i64)],[.box [.nilp], .box [.int .i64], .box [.bptr 3 0], .row [ci]],75⟩,[(AX.ret,⟨[(2, .bptr 0 0),(3, .bptr 1 0)],[.box [.nilp], .box [.int .i64]],75⟩),((AX.exit 4),⟨[(2, .bptr 0 0),(3, .bptr 1 0),(5, .bptr 2 0)],[.box [.nilp], .box [.int .i64], .box [.bptr 3 0], .row [ci]],75⟩)]⟩⟩,
 ⟨78,[false,true],6,⟨⟨[(0, .yld 5),(8, .int .i64),(9, .int .i64)],[.box [.nilp], .box [.int .i64], .box [.bptr 3 0], .row [ci], .box [.bptr 3 0], .loop Go.LoopState.ready Option.none 54 [Bool.false,Bool.true,Bool.false,Bool.true,Bool.true,Bool.true,Bool.true,Bool.true,Bool.true] 75 [(59, .clo 78 [] [.bptr 4 0]),(2, .bptr 0 0),(3, .bptr 1 0),(5, .bptr 2 0)]],24⟩,[(AX.ret,⟨[],[.box [.nilp], .box [.int .i64], .box [.bptr 3 0], .row [ci], .box [.bptr 3 0], .loop Go.LoopState.done (Option.some Go.Code.ret) 54 [Bool.false,Bool.true,Bool.false,Bool.true,Bool.true,Bool.true,Bool.true,Bool.true,Bool.true] 75 [(59, .clo 78 [] [.bptr 4 0]),(2, .bptr 0 0),(3, .bptr 1 0),(5, .bptr 2 0)]],24⟩),((AX.exit 0),⟨[],[.box [.nilp], .box [.int .i64], .box [.bptr 3 0], .row [ci], .box [.bptr 3 0], .loop Go.LoopState.ready Option.none 54 [Bool.false,Bool.true,Bool.false,Bool.true,Bool.true,Bool.true,Bool.true,Bool.true,Bool.true] 75 [(59, .clo 78 [] [.bptr 4 0]),(2, .bptr 0 0),(3, .bptr 1 0),(5, .bptr 2 0)]],24⟩)]⟩⟩,
 ⟨78,[false,true,true,false,false,true,true,false,false,true],6,⟨⟨[(0, .yld 5),(3, .int .i64),(8, .int .i64),(9, .int .i64),(12, .int .i64),(13, .int .i64)],[.box [.nilp], .box [.int .i64], .box [.bptr 3 0], .row [ci], .box [.bptr 3 0], .loop Go.LoopState.ready Option.none 54 [Bool.false,Bool.true,Bool.false,Bool.true,Bool.true,Bool.true,Bool.true,Bool.true,Bool.true] 75 [(59, .clo 78 [] [.bptr 4 0]),(2, .bptr 0 0),(3, .bptr 1 0),(5, .bptr 2 0)]],24⟩,[(AX.ret,⟨[],[.box [.nilp], .box [.int .i64], .box [.bptr 3 0], .row [ci], .box [.bptr 3 0], .loop Go.LoopState.done (Option.some Go.Code.ret) 54 [Bool.false,Bool.true,Bool.false,Bool.true,Bool.true,Bool.true,Bool.true,Bool.true,Bool.true] 75 [(59, .clo 78 [] [.bptr 4 0]),(2, .bptr 0 0),(3, .bptr 1 0),(5, .bptr 2 0)]],24⟩),((AX.exit 2),⟨[(0, .yld 5),(8, .int .i64),(9, .int .i64)],[.box [.nilp], .box [.int .i64], .box [.bptr 3 0], .row [ci], .box [.bptr 3 0], .loop Go.LoopState.ready Option.none 54 [Bool.false,Bool.true,Bool.false,Bool.true,Bool.true,Bool.true,Bool.true,Bool.true,Bool.true] 75 [(59, .clo 78 [] [.bptr 4 0]),(2, .bptr 0 0),(3, .bptr 1 0),(5, .bptr 2 0)]],24⟩)]⟩⟩]
def ja54:List JA:=
 [⟨54,[false,false,true,true],0,[(AX.normal,⟨[(0, .list 1),(2, .bptr 0 0),(3, .bptr 1 0),(4, .int .i64),(19, .bool)],[.box [.nilp], .box [.int .i64]],75⟩)]⟩]
def v0q:List CF:=
 [⟨x8t,G56⟩]
def an54:Anns:=
 ⟨v0q,ja54,[]⟩
def x26 (p:Prim):(LD×T31)→Option ((LD×T31)⊕((LD×T1)⊕(LD×T4))):=
 fun a=>opt.run _ (
 opt.ask _ (p.cmp .lss a.2.2.2.2.2.2.1 a.2.2.2.2.2.1) (
 opt.need _ (p.and Bool.true (p.and Bool.true (p.and Bool.true Bool.true)))<|
 opt.need _ (bif (p.cmp .geq a.2.2.2.2.2.2.1 (0:Int)) then (p.cmp .lss a.2.2.2.2.2.2.1 (p.ofNat 10)) else Bool.false)<|
 opt.need _ (bif (p.cmp .geq a.2.2.1 (0:Int)) then (p.cmp .lss a.2.2.1 (p.ofNat 10)) else Bool.false)<|
 opt.need _ (p.rowOk a.1 (p.add (p.add 1 (p.mul (p.nat a.2.2.2.2.2.2.1) 10)) (p.nat a.2.2.1)) [ci])<|
 opt.need _ (bif (p.cmp .geq a.2.2.1 (0:Int)) then (p.cmp .lss a.2.2.1 (p.ofNat 10)) else Bool.false)<|
 opt.need _ (bif (p.cmp .geq a.2.2.2.2.2.2.1 (0:Int)) then (p.cmp .lss a.2.2.2.2.2.2.1 (p.ofNat 10)) else Bool.false)<|
 opt.need _ (p.rowOk a.1 (p.add (p.add 1 (p.mul (p.nat a.2.2.1) 10)) (p.nat a.2.2.2.2.2.2.1)) [ci])<|
 opt.ask _ (bif (p.bEq (p.cmp .eql (p.rdI a.1 (p.add (p.add 1 (p.mul (p.nat a.2.2.2.2.2.2.1) 10)) (p.nat a.2.2.1)) 0) (1:Int)) (p.cmp .eql (p.rdI a.1 (p.add (p.add 1 (p.mul (p.nat a.2.2.1) 10)) (p.nat a.2.2.2.2.2.2.1)) 0) (1:Int))) then Bool.true else Bool.false) (
 opt.ret _ (Sum.inr (Sum.inl (a.1,((16:Int),()))))) (
 opt.ret _ (Sum.inl (a.1,(a.2.1,(a.2.2.1,(a.2.2.2.1,(a.2.2.2.2.1,(a.2.2.2.2.2.1,((p.ar .add .i64 a.2.2.2.2.2.2.1 (1:Int)),())))))))))) (
 opt.ret _ (Sum.inr (Sum.inr (a.1,(a.2.1,(a.2.2.2.1,(a.2.2.2.2.1,()))))))))
def y6a (it:It) (p:Prim):(LD×T4)→Option ((LD×T4)⊕((LD×T1)⊕(LD×T1))):=
 fun a=>opt.run _ (
 opt.ask _ (p.cmp .lss a.2.2.2.1 a.2.2.1) (
 opt.alt ((LD×T1)) ((LD×T4)) _ (
 it _ _ (x26 p) (a.1,(a.2.1,(a.2.2.2.1,(a.2.2.1,(a.2.2.2.1,(a.2.2.2.1,((0:Int),())))))))) (fun b=>
 opt.ret _ (Sum.inr (Sum.inl (b.1,(b.2.1,()))))) (fun c=>
 opt.bnd ((LD×T4)) _ (some c) fun d=>
 opt.ret _ (Sum.inl (d.1,(d.2.1,(d.2.2.1,((p.ar .add .i64 d.2.2.2.1 (1:Int)),()))))))) (
 opt.ret _ (Sum.inr (Sum.inr (a.1,(a.2.1,()))))))
def x27 (p:Prim):(LD×T4)→Option ((LD×T4)⊕T26):=
 fun a=>opt.run _ (
 opt.ask _ (p.cmp .lss a.2.2.2.1 a.2.2.1) (
 opt.need _ (bif (p.cmp .geq a.2.2.2.1 (0:Int)) then (p.cmp .lss a.2.2.2.1 (p.ofNat 10)) else Bool.false)<|
 opt.need _ (bif (p.cmp .geq a.2.2.2.1 (0:Int)) then (p.cmp .lss a.2.2.2.1 (p.ofNat 10)) else Bool.false)<|
 opt.need _ (p.rowOk a.1 (p.add (p.add 1 (p.mul (p.nat a.2.2.2.1) 10)) (p.nat a.2.2.2.1)) [ci])<|
 opt.ask _ (p.cmp .eql (p.rdI a.1 (p.add (p.add 1 (p.mul (p.nat a.2.2.2.1) 10)) (p.nat a.2.2.2.1)) 0) (1:Int)) (
 opt.ret _ (Sum.inr (Sum.inl ((16:Int),())))) (
 opt.ret _ (Sum.inl (a.1,(a.2.1,(a.2.2.1,((p.ar .add .i64 a.2.2.2.1 (1:Int)),()))))))) (
 opt.ret _ (Sum.inr (Sum.inr (a.1,(a.2.1,()))))))
def x28 (p:Prim):(LD×T32)→Option ((LD×T32)⊕(LD×T9)):=
 fun a=>opt.run _ (
 opt.ask _ (p.cmp .lss a.2.2.2.2.2.2.2.2.2.1 a.2.2.2.2.2.2.2.2.1) (
 opt.need _ (p.rowOk a.2.2.2.2.2.2.2.1 (p.nat a.2.2.2.2.2.2.2.2.2.1) [ci])<|
 opt.need _ (p.cmp .geq a.2.2.2.2.2.2.2.2.2.1 (0:Int))<|
 opt.need _ (bif (p.cmp .geq a.2.2.2.1 (0:Int)) then (p.cmp .lss a.2.2.2.1 (p.ofNat 10)) else Bool.false)<|
 opt.need _ (bif (p.cmp .geq (p.rdI a.2.2.2.2.2.2.2.1 (p.nat a.2.2.2.2.2.2.2.2.2.1) 0) (0:Int)) then (p.cmp .lss (p.rdI a.2.2.2.2.2.2.2.1 (p.nat a.2.2.2.2.2.2.2.2.2.1) 0) (p.ofNat 10)) else Bool.false)<|
 opt.need _ (p.rowOk a.1 (p.add (p.add 1 (p.mul (p.nat a.2.2.2.1) 10)) (p.nat (p.rdI a.2.2.2.2.2.2.2.1 (p.nat a.2.2.2.2.2.2.2.2.2.1) 0))) [ci])<|
 opt.ret _ (Sum.inl ((p.set a.1 (p.add (p.add 1 (p.mul (p.nat a.2.2.2.1) 10)) (p.nat (p.rdI a.2.2.2.2.2.2.2.1 (p.nat a.2.2.2.2.2.2.2.2.2.1) 0))) [k1k]),(a.2.1,(a.2.2.1,(a.2.2.2.1,(a.2.2.2.2.1,(a.2.2.2.2.2.1,(a.2.2.2.2.2.2.1,(a.2.2.2.2.2.2.2.1,(a.2.2.2.2.2.2.2.2.1,((p.ar .add .i64 a.2.2.2.2.2.2.2.2.2.1 (1:Int)),())))))))))))) (
 opt.ret _ (Sum.inr (a.1,(a.2.1,(a.2.2.1,(a.2.2.2.2.1,(a.2.2.2.2.2.1,(a.2.2.2.2.2.2.1,())))))))))
def y6b (it:It) (p:Prim):(LD×T9)→Option ((LD×T9)⊕T25):=
 fun a=>opt.run _ (
 opt.ask _ (p.cmp .lss a.2.2.2.2.2.1 a.2.2.2.2.1) (
 opt.need _ (p.rowOk a.2.2.2.1 (p.nat a.2.2.2.2.2.1) [(CK.list 1)])<|
 opt.need _ (p.cmp .geq a.2.2.2.2.2.1 (0:Int))<|
 opt.bnd T0 _ (g56 it p ((p.rdL a.2.2.2.1 (p.nat a.2.2.2.2.2.1) 0),(a.2.2.1,()))) fun b=>
 opt.ask _ (bif b.1 then Bool.false else Bool.true) (
 opt.ret _ (Sum.inr (Sum.inl ((3:Int),())))) (
 opt.bnd ((LD×T9)) _ (
 it _ _ (x28 p) (a.1,(a.2.1,(a.2.2.1,(a.2.2.2.2.2.1,(a.2.2.2.1,(a.2.2.2.2.1,(a.2.2.2.2.2.1,((p.rdL a.2.2.2.1 (p.nat a.2.2.2.2.2.1) 0),((p.ofNat (p.len (p.rdL a.2.2.2.1 (p.nat a.2.2.2.2.2.1) 0))),((0:Int),()))))))))))) fun c=>
 opt.ret _ (Sum.inl (c.1,(c.2.1,(c.2.2.1,(c.2.2.2.1,(c.2.2.2.2.1,((p.ar .add .i64 c.2.2.2.2.2.1 (1:Int)),()))))))))) (
 opt.ret _ (Sum.inr (Sum.inr (a.1,(a.2.1,(a.2.2.1,())))))))
def g54 (it:It):(p:Prim)→(LD×Unit)→Option (((Int×Unit)⊕(LD×(Int×Unit)))):=
 fun p x=>
 opt.bnd T33 _ (
 opt.run T33 (
 opt.ask _ (p.cmp .eql (p.ofNat (p.len x.1)) (0:Int)) (
 opt.ret _ ((0:Int),(x.1,((p.ofNat (p.len x.1)),(Bool.true,()))))) (
 opt.ret _ ((0:Int),(x.1,((p.ofNat (p.len x.1)),((p.cmp .gtr (p.ofNat (p.len x.1)) (10:Int)),()))))))) fun a=>
 opt.ask _ a.2.2.2.1 (
 opt.ret _ (Sum.inl ((6:Int),()))) (
 opt.alt T2 ((LD×T3)) _ (
 it _ _ (y6b it p) ([[(D.int .i64 a.2.2.1)],k0k,k0k,k0k,k0k,k0k,k0k,k0k,k0k,k0k,k0k,k0k,k0k,k0k,k0k,k0k,k0k,k0k,k0k,k0k,k0k,k0k,k0k,k0k,k0k,k0k,k0k,k0k,k0k,k0k,k0k,k0k,k0k,k0k,k0k,k0k,k0k,k0k,k0k,k0k,k0k,k0k,k0k,k0k,k0k,k0k,k0k,k0k,k0k,k0k,k0k,k0k,k0k,k0k,k0k,k0k,k0k,k0k,k0k,k0k,k0k,k0k,k0k,k0k,k0k,k0k,k0k,k0k,k0k,k0k,k0k,k0k,k0k,k0k,k0k,k0k,k0k,k0k,k0k,k0k,k0k,k0k,k0k,k0k,k0k,k0k,k0k,k0k,k0k,k0k,k0k,k0k,k0k,k0k,k0k,k0k,k0k,k0k,k0k,k0k,k0k],(a.1,(a.2.2.1,(a.2.1,((p.ofNat (p.len a.2.1)),((0:Int),()))))))) (fun b=>
 opt.ret _ (Sum.inl (b.1,()))) (fun c=>
 opt.bnd ((LD×T3)) _ (some c) fun d=>
 opt.alt T2 ((LD×T1)) _ (
 it _ _ (x27 p) (d.1,(d.2.1,(d.2.2.1,((0:Int),()))))) (fun e=>
 opt.ret _ (Sum.inl (e.1,()))) (fun f=>
 opt.bnd ((LD×T1)) _ (some f) fun g=>
 opt.need _ (p.rowOk g.1 0 [ci])<|
 opt.alt ((LD×T1)) ((LD×T1)) _ (
 it _ _ (y6a it p) (g.1,(g.2.1,((p.rdI g.1 0 0),((0:Int),()))))) (fun h=>
 opt.ret _ (Sum.inl (h.2.1,()))) (fun i=>
 opt.bnd ((LD×T1)) _ (some i) fun j=>
 opt.ret _ (Sum.inr (j.1,((0:Int),())))))))
def G54:=g54 it0
theorem w7s:CtrOk PG x5m (G54 std):=okF (a:=an54) (l:=la54) (gC w8s (gN)) (by kernel_rfl) fun _ _=>by kernel_rfl
def w56:Ctr:=
 ⟨44,[.list 1],[],[(.ret,⟨[(0, .int .i64)],[],1⟩)]⟩
def la44:List LA:=
 []
def ja44:List JA:=
 []
def v0u:List CF:=
 [⟨x5m,G54⟩]
def an44:Anns:=
 ⟨v0u,ja44,[]⟩
def g44 (it:It):(p:Prim)→(LD×Unit)→Option T2:=
 fun p x=>
 opt.alt T2 ((LD×T1)) _ (g54 it p (x.1,())) (fun a=>
 opt.ret _ (a.1,())) (fun b=>
 opt.bnd ((LD×T1)) _ (some b) fun c=>
 opt.ret _ (c.2.1,()))
def G44:=g44 it0
theorem ok44:CtrOk PG w56 (G44 std):=okF (a:=an44) (l:=la44) (gC w7s (gN)) (by kernel_rfl) fun _ _=>by kernel_rfl
def x5n:Ctr:=
 ⟨35,[.list 1],[],[(.ret,⟨[(0, .tuple [.vec 0 1, .int .i64])],[.row [ci]],1⟩)]⟩
def la35:List LA:=
 [⟨35,[false,true,false,true,true,true,true],0,⟨⟨[(4, .bptr 0 0),(6, .full 1 1),(22, .int .i64),(23, .int .i64)],[.row [ci], .row [ci]],38⟩,[((AX.exit 0),⟨[(6, .full 0 1)],[.row [ci]],38⟩)]⟩⟩]
def ja35:List JA:=
 []
def v03:List CF:=
 [⟨w5y,G70⟩,⟨x5m,G54⟩]
def an35:Anns:=
 ⟨v03,ja35,[]⟩
def y9w (it:It) (p:Prim):(LD×(LD×T3))→Option ((LD×(LD×T3))⊕(LD×Unit)):=
 fun a=>opt.run _ (
 opt.ask _ (p.cmp .lss a.2.2.2.1 a.2.2.1) (
 opt.need _ (bif (p.cmp .geq a.2.2.2.1 (0:Int)) then (p.cmp .lss a.2.2.2.1 (p.ofNat 10)) else Bool.false)<|
 opt.need _ (p.rowOk a.1 (p.add 1 (p.mul (p.nat a.2.2.2.1) 10)) [ci])<|
 opt.need _ (p.and (p.leN (p.add (p.add 1 (p.mul (p.nat a.2.2.2.1) 10)) 10) (p.len a.1)) Bool.true)<|
 opt.bnd T2 _ (g70 it p ((p.cut a.1 (p.add 1 (p.mul (p.nat a.2.2.2.1) 10)) 10),())) fun b=>
 opt.need _ (bif (p.cmp .geq a.2.2.2.1 (0:Int)) then (p.cmp .lss a.2.2.2.1 (p.ofNat (p.len a.2.1))) else Bool.false)<|
 opt.need _ (p.rowOk a.2.1 (p.add 0 (p.nat a.2.2.2.1)) [ci])<|
 opt.need _ (p.eqN 0 0)<|
 opt.need _ (p.eqN (p.len a.2.1) (p.len (p.set a.2.1 (p.add 0 (p.nat a.2.2.2.1)) [(D.int .i64 b.1)])))<|
 opt.need _ (p.eqN (p.len a.2.1) (p.len (p.set a.2.1 (p.add 0 (p.nat a.2.2.2.1)) [(D.int .i64 b.1)])))<|
 opt.ret _ (Sum.inl (a.1,((p.set a.2.1 (p.add 0 (p.nat a.2.2.2.1)) [(D.int .i64 b.1)]),(a.2.2.1,((p.ar .add .i64 a.2.2.2.1 (1:Int)),())))))) (
 opt.need _ (p.eqN 0 0)<|
 opt.need _ (p.eqN (p.len a.2.1) (p.len a.2.1))<|
 opt.need _ (p.eqN (p.len a.2.1) (p.len a.2.1))<|
 opt.ret _ (Sum.inr (a.2.1,()))))
def g35 (it:It):(p:Prim)→(LD×Unit)→Option ((LD×T1)):=
 fun p x=>
 opt.alt T2 ((LD×T1)) _ (g54 it p (x.1,())) (fun a=>
 opt.ask _ (p.cmp .neq a.1 (0:Int)) (
 opt.ret _ ([],(a.1,()))) (
 opt.no _ 41)) (fun b=>
 opt.bnd ((LD×T1)) _ (some b) fun c=>
 opt.ask _ (p.cmp .neq c.2.1 (0:Int)) (
 opt.ret _ ([],(c.2.1,()))) (
 opt.need _ (p.rowOk c.1 0 [ci])<|
 opt.need _ (p.and (p.cmp .geq (p.rdI c.1 0 0) (0:Int)) (p.and (p.cmp .leq (p.rdI c.1 0 0) (p.rdI c.1 0 0)) (p.cmp .leq (p.rdI c.1 0 0) (1000000:Int))))<|
 opt.need _ (p.eqN 0 0)<|
 opt.need _ (p.eqN (p.nat (p.rdI c.1 0 0)) (p.len (p.rep (p.nat (p.rdI c.1 0 0)) k0k)))<|
 opt.need _ (p.eqN (p.nat (p.rdI c.1 0 0)) (p.len (p.rep (p.nat (p.rdI c.1 0 0)) k0k)))<|
 opt.bnd ((LD×Unit)) _ (
 it _ _ (y9w it p) (c.1,((p.rep (p.nat (p.rdI c.1 0 0)) k0k),((p.ofNat (p.nat (p.rdI c.1 0 0))),((0:Int),()))))) fun d=>
 opt.need _ (p.eqN 0 0)<|
 opt.need _ (p.eqN (p.len d.1) (p.len d.1))<|
 opt.need _ (p.leN (p.add 0 (p.len d.1)) (p.len d.1))<|
 opt.ret _ (d.1,((0:Int),()))))
def G35:=g35 it0
theorem w7t:CtrOk PG x5n (G35 std):=okF (a:=an35) (l:=la35) (gC ok70 (gC w7s (gN))) (by kernel_rfl) fun _ _=>by kernel_rfl
def w28:Ctr:=
 ⟨36,[.list 1],[],[(.ret,⟨[(0, .tuple [.int .i64, .int .i64])],[],1⟩)]⟩
def la36:List LA:=
 [⟨36,[false,true,false,true,true,true,true,true],0,⟨⟨[(7, .int .i64),(28, .vec 0 1),(29, .int .i64),(30, .int .i64)],[.row [ci]],43⟩,[((AX.exit 0),⟨[(7, .int .i64)],[],43⟩)]⟩⟩]
def ja36:List JA:=
 []
def v02:List CF:=
 [⟨x5n,G35⟩]
def an36:Anns:=
 ⟨v02,ja36,[]⟩
def x6f (p:Prim):(LD×T4)→Option ((LD×T4)⊕T1):=
 fun a=>opt.run _ (
 opt.ask _ (p.cmp .lss a.2.2.2.1 a.2.2.1) (
 opt.need _ (bif (p.cmp .geq a.2.2.2.1 (0:Int)) then (p.cmp .lss a.2.2.2.1 (p.ofNat (p.len a.1))) else Bool.false)<|
 opt.need _ (p.rowOk a.1 (p.add 0 (p.nat a.2.2.2.1)) [ci])<|
 opt.need _ (p.cmp .neq (2:Int) (0:Int))<|
 opt.need _ (p.eqN 0 0)<|
 opt.need _ (p.eqN (p.len a.1) (p.len a.1))<|
 opt.ret _ (Sum.inl (a.1,((p.ar .sub .i64 a.2.1 (p.ar .quo .i64 (p.ar .mul .i64 (p.rdI a.1 (p.add 0 (p.nat a.2.2.2.1)) 0) (p.ar .sub .i64 (p.rdI a.1 (p.add 0 (p.nat a.2.2.2.1)) 0) (1:Int))) (2:Int))),(a.2.2.1,((p.ar .add .i64 a.2.2.2.1 (1:Int)),())))))) (
 opt.ret _ (Sum.inr (a.2.1,()))))
def g36 (it:It):(p:Prim)→(LD×Unit)→Option T7:=
 fun p x=>
 opt.bnd ((LD×T1)) _ (g35 it p (x.1,())) fun a=>
 opt.ask _ (p.cmp .neq a.2.1 (0:Int)) (
 opt.ret _ ((0:Int),(a.2.1,()))) (
 opt.need _ (p.cmp .neq (6:Int) (0:Int))<|
 opt.need _ (p.eqN 0 0)<|
 opt.need _ (p.eqN (p.len a.1) (p.len a.1))<|
 opt.bnd T2 _ (
 it _ _ (x6f p) (a.1,((p.ar .quo .i64 (p.ar .mul .i64 (p.ar .mul .i64 (p.ofNat (p.len a.1)) (p.ar .sub .i64 (p.ofNat (p.len a.1)) (1:Int))) (p.ar .sub .i64 (p.ofNat (p.len a.1)) (2:Int))) (6:Int)),((p.ofNat (p.len a.1)),((0:Int),()))))) fun b=>
 opt.ret _ (b.1,((0:Int),())))
def G36:=g36 it0
theorem v2w:CtrOk PG w28 (G36 std):=okF (a:=an36) (l:=la36) (gC w7t (gN)) (by kernel_rfl) fun _ _=>by kernel_rfl
end Go.Am
end
section
namespace Go.Am
variable {fl:List Int→Bool}
def z9l (l:List Int):Nat→Int
 |0=> -1
 |i+1=>l.getD i 0
def z8c (l:List Int) (n:Int) (i:Nat):Prop:=l.getD i 0≤z9l l i∨n≤l.getD i 0
instance (l:List Int) (n:Int) (i:Nat):Decidable (z8c l n i):=by unfold z8c; infer_instance
theorem y32 (l:List Int) (n:Int):z19 l n↔∀ i,i<l.length→¬ z8c l n i:=by
 constructor
 ·intro h i hi
  obtain ⟨h1,h2,h3⟩:=h i hi
  cases i with
  |zero=>rw [z8c,z9l]; omega
  |succ i=>
   have:=h3 (by omega)
   rw [z8c,z9l]
   rw [Nat.add_sub_cancel] at this
   omega
 ·intro h
  have h0:∀ i,i<l.length→0≤l.getD i 0:=by
   intro i
   induction i with
   |zero=>
    intro hi
    have:=h 0 hi
    rw [z8c,z9l] at this; omega
   |succ i ih=>
    intro hi
    have:=h (i+1) hi
    have:=ih (by omega)
    rw [z8c,z9l] at*; omega
  intro i hi
  have hf:=h i hi
  refine ⟨h0 i hi,?_,fun h1=>?_⟩
  ·rw [z8c] at hf; omega
  ·cases i with
   |zero=>omega
   |succ i=>
    rw [z8c,z9l] at hf
    rw [Nat.add_sub_cancel]
    omega
theorem w64 (l:List Int) (n:Int) (hL:l.length≤1000000):G56 std (z0h l,(n,()))=some (decide (z19 l n),()):=by
 unfold G56
 have key:=z15 (b:=y8f std) l.length (fun i=>(n,(z9l l i,(z0h l,((l.length:Int),((i:Int),())))))) (fun i=>decide (z8c l n i)) (fun i=> .inl (false,())) (.inr ()) (fun i hi=>by
  obtain ⟨m,hm⟩:=z1e hi
  have hw:=z0x (i:=i) (by omega)
  have hlt:(i:Int)<l.length:=by omega
  have h0:(0:Int)≤i:=by omega
  have hla:z9l l (i+1)=m:=z1g hm
  by_cases h1:m≤z9l l i
  ·have hr:z8c l n i:=by rw [z8c,z1g hm]; exact .inl h1
   simp only [hr,y8f,z01,z02,z0h,z0j,z1l,z1y,z0n,z0d,hm,hlt,h0,ge_iff_le,z0e,hw,h1,hla,decide_true]
  ·by_cases h2:n≤m
   ·have hr:z8c l n i:=by rw [z8c,z1g hm]; exact .inr h2
    simp only [hr,y8f,z01,z02,z0h,z0j,z1l,z1y,z0n,z0d,hm,hlt,h0,ge_iff_le,z0e,hw,h1,h2,hla,decide_true]
   ·have hr:¬ z8c l n i:=by rw [z8c,z1g hm]; omega
    simp only [hr,y8f,z01,z02,z0h,z0j,z1l,z1y,z0n,z0d,hm,hlt,h0,ge_iff_le,z0e,hw,h1,h2,hla,decide_false]) (by
  have hn:¬ (l.length:Int)<l.length:=by omega
  simp only [y8f,z01,z02,z0h,z0j,z1l,z1y,z0n,z0d,hn])
 have e:∀ {r:(Bool×Unit)⊕Unit},z4n (y8f std) (n,((-1:Int),(z0h l,((l.length:Int),((0:Int),())))))=some r→g56 it0 std (z0h l,(n,()))=some (match r with| .inl y=>y| .inr _=>(true,())):=by
  intro r hr
  have hr':it0 _ _ (y8f std) (n,((-1:Int),(z0h l,((l.length:Int),((0:Int),())))))=some r:=hr
  simp only [g56,z01,z02,z1k,hr']
  rcases r with ⟨y,u⟩|u<;>rfl
 rcases key with ⟨i,h1,h2,_,h4⟩|⟨h1,h2⟩
 ·have:¬ z19 l n:=fun h=>(y32 l n).1 h i h1 (by simpa using h2)
  rw [e h4]
  simp [this]
 ·have:z19 l n:=(y32 l n).2 fun i hi=>by simpa using h1 i hi
  rw [e h2]
  simp [this]
end Go.Am
end
section
namespace Go.Am
variable {fl:List Int→Bool}
def eC (b:Bool):List D:=eI (bif b then 1 else 0)
def fld (n:Int) (f:Nat→Nat→Bool):List (List D):=eI n::(List.range 100).map fun j=>eC (f (j / 10) (j % 10))
theorem w2p (n:Int) (f:Nat→Nat→Bool):(fld n f).length=101:=by simp [fld]
theorem x76 (n:Int):fld n (fun _ _=>false)=eI n::List.replicate 100 (eI 0):=rfl
theorem y0f (n:Int) (f:Nat→Nat→Bool) (i k:Nat) (hi:i<10) (hk:k<10):(fld n f)[1+i*10+k]?=some (eC (f i k)):=by
 have h:1+i*10+k=(i*10+k)+1:=by omega
 have h1:(i*10+k) / 10=i:=by omega
 have h2:(i*10+k) % 10=k:=by omega
 rw [h,fld,List.getElem?_cons_succ,List.getElem?_map,List.getElem?_range (by omega)]
 simp only [Option.map_some,h1,h2]
theorem w2n (n:Int) (f:Nat→Nat→Bool) (i k:Nat) (hi:i<10) (hk:k<10):(fld n f).set (1+i*10+k) (eI 1)=fld n (fun a b=>f a b||(decide (a=i)&&decide (b=k))):=by
 have h:1+i*10+k=(i*10+k)+1:=by omega
 rw [h,fld,fld,List.set_cons_succ]
 congr 1
 apply List.ext_getElem?
 intro j
 rw [List.getElem?_set,List.getElem?_map,List.getElem?_map,List.length_map,List.length_range]
 by_cases hj:i*10+k=j
 ·subst hj
  rw [if_pos rfl,if_pos (by omega),List.getElem?_range (by omega)]
  have h1:(i*10+k) / 10=i:=by omega
  have h2:(i*10+k) % 10=k:=by omega
  simp [h1,h2,eC]
 ·rw [if_neg hj]
  by_cases hl:j<100
  ·rw [List.getElem?_range hl]
   have:¬ (j / 10=i∧j % 10=k):=by omega
   have:(decide (j / 10=i)&&decide (j % 10=k))=false:=by
    cases h:(decide (j / 10=i)&&decide (j % 10=k)) with
    |false=>rfl
    |true=>simp at h; exact absurd h this
   simp [this]
  ·rw [List.getElem?_eq_none (by simp; omega)]; rfl
theorem y1q (b:Bool):z5f [CK.int IntKind.i64] (eC b)=true:=rfl
theorem w5v (b:Bool):dI ((eC b)[0]?.getD D.nilp)=bif b then 1 else 0:=rfl
theorem x9j (d:List (List Int)) (n:Int) (i:Nat) (l:List Int) (hi:i<10) (hL:l.length≤1000000) (hg:∀ x∈l,0≤x∧x<10) (f:Nat→Nat→Bool):
  z4n (x28 std) (fld n f,((0:Int),(n,((i:Int),(z0d fl d,(n,((i:Int),(z0h l,((l.length:Int),((0:Int),()))))))))))=
   some (fld n (fun a b=>f a b||(decide (a=i)&&decide ((b:Int)∈l))),((0:Int),(n,(z0d fl d,(n,((i:Int),())))))):=by
 have key:=z2t (b:=x28 std) l.length (fun j=>(fld n (fun a b=>f a b||(decide (a=i)&&decide ((b:Int)∈l.take j))),((0:Int),(n,((i:Int),(z0d fl d,(n,((i:Int),(z0h l,((l.length:Int),((j:Int),()))))))))))) (fld n (fun a b=>f a b||(decide (a=i)&&decide ((b:Int)∈l))),((0:Int),(n,(z0d fl d,(n,((i:Int),())))))) (fun j hj=>by
  obtain ⟨m,hm⟩:=z1e hj
  have hw:=z0x (i:=j) (by omega)
  have hlt:(j:Int)<l.length:=by omega
  have h0:(0:Int)≤j:=by omega
  obtain ⟨hm0,hm1⟩:=hg m (List.mem_of_getElem? hm)
  obtain ⟨k,rfl⟩:∃ k:Nat,m=(k:Int):=⟨m.toNat,by omega⟩
  have hk:k<10:=by omega
  have hi0:(0:Int)≤i:=by omega
  have hi1:(i:Int)<((10:Nat):Int):=by omega
  have hk1:(k:Int)<((10:Nat):Int):=by omega
  have ht:l.take (j+1)=l.take j++[(k:Int)]:=by
   obtain ⟨h1,h2⟩:=List.getElem?_eq_some_iff.1 hm
   rw [List.take_succ_eq_append_getElem h1,h2]
  have hfe:(fun a b=>f a b||(decide (a=i)&&decide ((b:Int)∈l.take (j+1))))=(fun a b=>(f a b||(decide (a=i)&&decide ((b:Int)∈l.take j)))||(decide (a=i)&&decide (b=k))):=by
   funext a b
   have:decide ((b:Int)∈l.take (j+1))=(decide ((b:Int)∈l.take j)||decide (b=k)):=by
    rw [ht]
    by_cases x:(b:Int)∈l.take j<;>by_cases y:b=k<;>simp [x,y]<;>omega
   rw [this]
   cases f a b<;>cases decide (a=i)<;>rfl
  rw [hfe, ←w2n _ _ _ _ hi hk]
  have hg':=y0f n (fun a b=>f a b||(decide (a=i)&&decide ((b:Int)∈l.take j))) i k hi hk
  generalize fld n (fun a b=>f a b||(decide (a=i)&&decide ((b:Int)∈l.take j)))=F at hg'⊢
  simp only [x28,z01,z02,z0h,z0j,z1l,z1y,z0n,z0d,hm,hlt,h0,hi0,hi1,hm0,hk1,ge_iff_le,z0e,hw,hg',y1q,show [D.int IntKind.i64 (1:Int)]=eI 1 from rfl]) (by
  have hn:¬ (l.length:Int)<l.length:=by omega
  simp only [x28,z01,z02,z0h,z0j,z1l,z1y,z0n,z0d,hn,List.take_length])
 simpa using key
theorem x59 {d:List (List Int)} {i:Nat} {m:List Int} (hm:d[i]?=some m) (k:Nat):bt d i k=decide ((k:Int)∈m):=by rw [bt,z1g hm]
theorem w0q {d:List (List Int)} {i:Nat} (h:d.length≤i) (k:Nat):bt d i k=false:=by
 rw [bt,List.getD_eq_getElem?_getD,List.getElem?_eq_none h]; simp
theorem x83 (d:List (List Int)) (hr:∀ l∈d,l.length≤1000000) (hl:d.length≤10):
  z4n (y6b it0 std) (fld d.length (fun _ _=>false),((0:Int),((d.length:Int),(z0d fl d,((d.length:Int),((0:Int),()))))))=
   if ∃ i∈List.range d.length,¬ z19 (d.getD i []) d.length then some (.inl (3,())) else some (.inr (fld d.length (bt d),((0:Int),((d.length:Int),())))):=by
 have hz:(fun (_ _:Nat)=>false)=(fun a b=>decide (a<0)&&bt d a b):=by
  funext a b; simp
 have hz':bt d=(fun a b=>decide (a<d.length)&&bt d a b):=by
  funext a b
  by_cases h:a<d.length
  ·simp [h]
  ·rw [w0q (by omega)]; simp
 have key:=z15 (b:=y6b it0 std) d.length (fun i=>(fld d.length (fun a b=>decide (a<i)&&bt d a b),((0:Int),((d.length:Int),(z0d fl d,((d.length:Int),((i:Int),()))))))) (fun i=>decide (¬ z19 (d.getD i []) d.length)) (fun i=> .inl (3,())) (.inr (fld d.length (bt d),((0:Int),((d.length:Int),())))) (fun i hi=>by
  obtain ⟨m,hm⟩:=z1e hi
  have hw:=z0x (i:=i) (by omega)
  have hlt:(i:Int)<d.length:=by omega
  have h0:(0:Int)≤i:=by omega
  have h1:g56 it0 std (z0h m,((d.length:Int),()))=some (decide (z19 m d.length),()):=w64 m d.length (hr m (List.mem_of_getElem? hm))
  simp only [z0h] at h1
  by_cases a:z19 m d.length
  ·have hg:∀ x∈m,0≤x∧x<10:=fun x hx=>by
    obtain ⟨j,hj⟩:=List.getElem?_of_mem hx
    obtain ⟨q1,q2,_⟩:=a j (List.getElem?_eq_some_iff.1 hj).1
    rw [z1g hj] at q1 q2
    omega
   have h2:it0 _ _ (x28 std) (fld d.length (fun a b=>decide (a<i)&&bt d a b),((0:Int),((d.length:Int),((i:Int),(z0d fl d,((d.length:Int),((i:Int),(z0h m,((m.length:Int),((0:Int),()))))))))))=_:=
    x9j d d.length i m (by omega) (hr m (List.mem_of_getElem? hm)) hg _
   have hfe:(fun x b=>(decide (x<i)&&bt d x b)||(decide (x=i)&&decide ((b:Int)∈m)))=(fun x b=>decide (x<i+1)&&bt d x b):=by
    funext x b
    by_cases e:x=i
    ·subst e; simp [x59 hm]
    ·have:decide (x<i+1)=decide (x<i):=by
      by_cases q:x<i
      ·simp [q]; omega
      ·simp [q]; omega
     simp [e,this]
   rw [hfe] at h2
   simp only [z0d,z0h] at h2
   simp only [z1g hm,y6b,z01,z02,z0h,z0j,z1l,z1y,z0n,z0d,hm,hlt,h0,ge_iff_le,z0e,hw,h1,h2,a,List.length_map,decide_true,not_true,decide_false]
  ·simp only [z1g hm,y6b,z01,z02,z0h,z0j,z1l,z1y,z0n,z0d,hm,hlt,h0,ge_iff_le,z0e,hw,h1,a,decide_true,not_false_eq_true,decide_false]) (by
  have hn:¬ (d.length:Int)<d.length:=by omega
  rw [←hz']
  simp only [y6b,z01,z02,z0h,z0j,z1l,z1y,z0n,z0d,hn])
 rw [←hz] at key
 rcases key with ⟨k,h1,h2,_,h4⟩|⟨h1,h2⟩
 ·rw [if_pos ⟨k,List.mem_range.2 h1,of_decide_eq_true h2⟩]
  exact h4
 ·rw [if_neg]
  ·exact h2
  ·rintro ⟨k,hk,h⟩
   exact of_decide_eq_false (h1 k (List.mem_range.1 hk)) h
theorem x9i (d:List (List Int)) (hl:d.length≤10) (f:Nat→Nat→Bool):
  z4n (x27 std) (fld d.length f,((0:Int),((d.length:Int),((0:Int),()))))=
   if ∃ i∈List.range d.length,f i i=true then some (.inl (16,())) else some (.inr (fld d.length f,((0:Int),()))):=by
 have key:=z15 (b:=x27 std) d.length (fun i=>(fld d.length f,((0:Int),((d.length:Int),((i:Int),()))))) (fun i=>f i i) (fun i=> .inl (16,())) (.inr (fld d.length f,((0:Int),()))) (fun i hi=>by
  have hw:=z0x (i:=i) (by omega)
  have hlt:(i:Int)<d.length:=by omega
  have h0:(0:Int)≤i:=by omega
  have hi1:(i:Int)<((10:Nat):Int):=by omega
  have hg:=y0f d.length f i i (by omega) (by omega)
  generalize fld d.length f=F at hg⊢
  revert hg
  cases f i i<;>intro hg<;>simp only [x27,z01,z02,hlt,h0,hi1,ge_iff_le,z0e,hw,hg,y1q,w5v,cond_true,cond_false]<;>rfl) (by
  have hn:¬ (d.length:Int)<d.length:=by omega
  simp only [x27,z01,z02,hn])
 rcases key with ⟨k,h1,h2,_,h4⟩|⟨h1,h2⟩
 ·rw [if_pos ⟨k,List.mem_range.2 h1,h2⟩]
  exact h4
 ·rw [if_neg]
  ·exact h2
  ·rintro ⟨k,hk,h⟩
   rw [h1 k (List.mem_range.1 hk)] at h
   exact Bool.noConfusion h
theorem x9h (n:Int) (N k:Nat) (hk:k<10) (f:Nat→Nat→Bool):
  z4n (x26 std) (fld n f,((0:Int),((k:Int),((N:Int),((k:Int),((k:Int),((0:Int),())))))))=
   if ∃ i∈List.range k,f i k=f k i then some (.inl (fld n f,(16,()))) else some (.inr (fld n f,((0:Int),((N:Int),((k:Int),()))))):=by
 have key:=z15 (b:=x26 std) k (fun i=>(fld n f,((0:Int),((k:Int),((N:Int),((k:Int),((k:Int),((i:Int),())))))))) (fun i=>f i k==f k i) (fun i=> .inl (fld n f,(16,()))) (.inr (fld n f,((0:Int),((N:Int),((k:Int),()))))) (fun i hi=>by
  have hw:=z0x (i:=i) (by omega)
  have hlt:(i:Int)<k:=by omega
  have h0:(0:Int)≤i:=by omega
  have h0':(0:Int)≤k:=by omega
  have hi1:(i:Int)<((10:Nat):Int):=by omega
  have hk1:(k:Int)<((10:Nat):Int):=by omega
  have hg:=y0f n f i k (by omega) (by omega)
  have hg':=y0f n f k i (by omega) (by omega)
  generalize fld n f=F at hg hg'⊢
  revert hg hg'
  cases f i k<;>cases f k i<;>intro hg hg'<;>simp only [x26,z01,z02,hlt,h0,h0',hi1,hk1,ge_iff_le,z0e,hw,hg,hg',y1q,w5v,cond_true,cond_false]<;>rfl) (by
  have hn:¬ (k:Int)<k:=by omega
  simp only [x26,z01,z02,hn])
 rcases key with ⟨i,h1,h2,_,h4⟩|⟨h1,h2⟩
 ·rw [if_pos ⟨i,List.mem_range.2 h1,by simpa using h2⟩]
  exact h4
 ·rw [if_neg]
  ·exact h2
  ·rintro ⟨i,hi,h⟩
   have:=h1 i (List.mem_range.1 hi)
   simp [h] at this
theorem x82 (n:Int) (N:Nat) (hN:N≤10) (f:Nat→Nat→Bool):
  z4n (y6a it0 std) (fld n f,((0:Int),((N:Int),((0:Int),()))))=
   if ∃ k∈List.range N,∃ i∈List.range k,f i k=f k i then some (.inl (fld n f,(16,()))) else some (.inr (fld n f,((0:Int),()))):=by
 have key:=z15 (b:=y6a it0 std) N (fun k=>(fld n f,((0:Int),((N:Int),((k:Int),()))))) (fun k=>decide (∃ i∈List.range k,f i k=f k i)) (fun k=> .inl (fld n f,(16,()))) (.inr (fld n f,((0:Int),()))) (fun k hk=>by
  have hw:=z0x (i:=k) (by omega)
  have hlt:(k:Int)<N:=by omega
  have h1:it0 _ _ (x26 std) (fld n f,((0:Int),((k:Int),((N:Int),((k:Int),((k:Int),((0:Int),())))))))=_:=x9h n N k (by omega) f
  by_cases a:∃ i∈List.range k,f i k=f k i
  ·rw [if_pos a] at h1
   simp only [y6a,z01,z02,hlt,z0e,hw,h1,a,decide_true]
  ·rw [if_neg a] at h1
   simp only [y6a,z01,z02,hlt,z0e,hw,h1,a,decide_false]) (by
  have hn:¬ (N:Int)<N:=by omega
  simp only [y6a,z01,z02,hn])
 rcases key with ⟨i,h1,h2,_,h4⟩|⟨h1,h2⟩
 ·rw [if_pos ⟨i,List.mem_range.2 h1,of_decide_eq_true h2⟩]
  exact h4
 ·rw [if_neg]
  ·exact h2
  ·rintro ⟨i,hi,h⟩
   exact of_decide_eq_false (h1 i (List.mem_range.1 hi)) h
theorem w0v (d:List (List Int)) (hr:∀ l∈d,l.length≤1000000):G54 std (z0d fl d,())=some (if z0w d=0 then .inr (fld d.length (bt d),((0:Int),())) else .inl (z0w d,())):=by
 unfold G54
 by_cases h1:d.length=0
 ·have h1':((d.length:Nat):Int)=0:=by omega
  have hd:z0w d=6:=by rw [z0w,if_pos (.inl (by omega))]
  rw [hd]
  simp only [g54,z01,z02,z04,h1']
  rfl
 ·have h1':¬ ((d.length:Nat):Int)=0:=by omega
  by_cases h2:10<d.length
  ·have h2':((d.length:Nat):Int)>10:=by omega
   have hd:z0w d=6:=by rw [z0w,if_pos (.inr h2)]
   rw [hd]
   simp only [g54,z01,z02,z04,h1',h2']
   rfl
  ·have h2':¬ ((d.length:Nat):Int)>10:=by omega
   have e1:it0 _ _ (y6b it0 std) (fld d.length (fun _ _=>false),((0:Int),((d.length:Int),(z0d fl d,((d.length:Int),((0:Int),()))))))=_:=x83 d hr (by omega)
   have e2:it0 _ _ (x27 std) (fld d.length (bt d),((0:Int),((d.length:Int),((0:Int),()))))=_:=x9i d (by omega) (bt d)
   have e3:it0 _ _ (y6a it0 std) (fld d.length (bt d),((0:Int),((d.length:Int),((0:Int),()))))=_:=x82 d.length d.length (by omega) (bt d)
   have hf0:(fld d.length (bt d))[0]?=some (eI d.length):=rfl
   rw [x76] at e1
   simp only [List.replicate_succ,List.replicate_zero] at e1
   have hd:z0w d=if ∃ i∈List.range d.length,¬ z19 (d.getD i []) d.length then 3 else if ∃ i∈List.range d.length,z8d d i then 16 else 0:=by
    rw [z0w,if_neg (by omega)]
   rw [hd]
   simp only [eI] at e1
   by_cases a:∃ i∈List.range d.length,¬ z19 (d.getD i []) d.length
   ·rw [if_pos a] at e1⊢
    simp only [g54,z01,z02,z04,h1',h2',e1]
    rfl
   ·rw [if_neg a] at e1⊢
    by_cases b:∃ i∈List.range d.length,bt d i i=true
    ·rw [if_pos b] at e2
     have hb:∃ i∈List.range d.length,z8d d i:=by
      obtain ⟨i,hi,h⟩:=b
      exact ⟨i,hi, .inl (by rw [bt] at h; exact of_decide_eq_true h)⟩
     rw [if_pos hb]
     simp only [g54,z01,z02,z04,h1',h2',e1,e2]
     rfl
    ·rw [if_neg b] at e2
     by_cases c:∃ k∈List.range d.length,∃ i∈List.range k,bt d i k=bt d k i
     ·rw [if_pos c] at e3
      have hb:∃ i∈List.range d.length,z8d d i:=by
       obtain ⟨k,hk,i,hi,h⟩:=c
       exact ⟨k,hk, .inr ⟨i,hi,h⟩⟩
      rw [if_pos hb]
      simp only [g54,z01,z02,z04,h1',h2',e1,e2,e3,hf0,z0j,z1l]
      rfl
     ·rw [if_neg c] at e3
      have hb:¬ ∃ i∈List.range d.length,z8d d i:=by
       rintro ⟨k,hk,h|⟨i,hi,h⟩⟩
       ·exact b ⟨k,hk,by rw [bt]; exact decide_eq_true h⟩
       ·exact c ⟨k,hk,i,hi,h⟩
      rw [if_neg hb]
      simp only [g54,z01,z02,z04,h1',h2',e1,e2,e3,hf0,z0j,z1l]
end Go.Am
end
section
namespace Go.Am
variable {fl:List Int→Bool}
theorem w65 (d:List (List Int)) (hr:∀ l∈d,l.length≤1000000):G44 std (z0d fl d,())=some (z0w d,()):=by
 unfold G44
 have h54:g54 it0 std (z0d fl d,())=_:=w0v d hr
 by_cases h:z0w d=0
 ·rw [if_pos h] at h54
  simp only [g44,z01,z02,h54,h]
  done
 ·rw [if_neg h] at h54
  simp only [g44,z01,z02,h54]
  done
end Go.Am
end
section
namespace Go.Am
variable {fl:List Int→Bool}
theorem w05 {l:List Int} (h:∀ x∈l,0≤x∧x≤100):0≤l.sum∧l.sum≤100*l.length:=by
 induction l with
 |nil=>simp
 |cons a l ih=>
  have h1:=h a (List.mem_cons_self ..)
  have h2:=ih fun x hx=>h x (List.mem_cons_of_mem _ hx)
  rw [List.sum_cons,List.length_cons]
  omega
theorem w63 (l:List Int) (hL:l.length≤1000) (h:∀ x∈l,0≤x∧x≤100):G70 std (z0h l,())=some (l.sum,()):=by
 unfold G70
 have key:it0 _ _ (x6e std) ((0:Int),(z0h l,((l.length:Int),((0:Int),()))))=some (l.sum,()):=by
  have:=z2t (b:=x6e std) l.length (fun i=>((l.take i).sum,(z0h l,((l.length:Int),((i:Int),()))))) (l.sum,()) (fun i hi=>by
   obtain ⟨m,hm⟩:=z1e hi
   have hw:=z0x (i:=i) (by omega)
   have hlt:(i:Int)<l.length:=by omega
   have h0:(0:Int)≤i:=by omega
   have ht:(l.take (i+1)).sum=(l.take i).sum+m:=by
    obtain ⟨h1,h2⟩:=List.getElem?_eq_some_iff.1 hm
    rw [List.take_succ_eq_append_getElem h1,h2,List.sum_append]
    simp
   have hb:=w05 (l:=l.take (i+1)) fun x hx=>h x (List.mem_of_mem_take hx)
   rw [ht,List.length_take] at hb
   have hw':IntKind.i64.wrap ((l.take i).sum+m)=(l.take i).sum+m:=y43 _ (by omega) (by omega)
   rw [ht]
   simp only [x6e,z01,z02,z0h,z0j,z1l,z1y,z0n,z0d,hm,hlt,h0,ge_iff_le,z0e,hw,hw']) (by
   have hn:¬ (l.length:Int)<l.length:=by omega
   simp only [x6e,z01,z02,z0h,z0j,z1l,z1y,z0n,z0d,hn,List.take_length])
  exact this
 simp only [g70,z01,z02,z1k,key]
end Go.Am
end
section
namespace Go.Am.T11
def o1 (b:Bool):Nat:=bif b then 1 else 0
def sm (n:Nat) (f:Nat→Nat):Nat:=
 match n with
 |0=>0
 |n+1=>sm n f+f n
def cnt (n:Nat) (p:Nat→Bool):Nat:=sm n fun i=>o1 (p i)
theorem z2k (n:Nat) (f:Nat→Nat):sm (n+1) f=sm n f+f n:=rfl
theorem z3g {n:Nat} {f g:Nat→Nat} (h:∀ i,i<n→f i=g i):sm n f=sm n g:=by
 induction n with
 |zero=>rfl
 |succ n ih=>rw [z2k,z2k,ih fun i hi=>h i (by omega),h n (by omega)]
theorem x3v {n:Nat} {f g:Nat→Nat} (h:∀ i,i<n→f i≤g i):sm n f≤sm n g:=by
 induction n with
 |zero=>exact Nat.le_refl _
 |succ n ih=>
  have:=ih fun i hi=>h i (by omega)
  have:=h n (by omega)
  rw [z2k,z2k]; omega
theorem z9d (n:Nat) (f g:Nat→Nat):sm n (fun i=>f i+g i)=sm n f+sm n g:=by
 induction n with
 |zero=>rfl
 |succ n ih=>rw [z2k,z2k,z2k,ih]; omega
theorem x3t (n:Nat):sm n (fun _=>0)=0:=by
 induction n with
 |zero=>rfl
 |succ n ih=>rw [z2k,ih]
theorem z5n (n c:Nat):sm n (fun _=>c)=n*c:=by
 induction n with
 |zero=>simp [sm]
 |succ n ih=>rw [z2k,ih,Nat.succ_mul]
theorem y1f {n:Nat} {f g:Nat→Nat} (h:∀ i,i<n→f i≤g i) (he:sm n f=sm n g):∀ i,i<n→f i=g i:=by
 induction n with
 |zero=>intro i hi; omega
 |succ n ih=>
  intro i hi
  have h1:=x3v (n:=n) fun i hi=>h i (by omega)
  have h2:=h n (by omega)
  rw [z2k,z2k] at he
  by_cases e:i=n
  ·subst e; omega
  ·exact ih (fun i hi=>h i (by omega)) (by omega) i (by omega)
theorem y98 (n k:Nat) (f:Nat→Nat):sm (n+k) f=sm n f+sm k fun i=>f (n+i):=by
 induction k with
 |zero=>rfl
 |succ k ih=>rw [←Nat.add_assoc,z2k,z2k,ih]; omega
theorem w4g (b:Bool):o1 b≤1:=by cases b<;>simp [o1]
theorem z5v (n:Nat) (p:Nat→Bool):cnt (n+1) p=cnt n p+o1 (p n):=rfl
theorem z6p {n:Nat} {p q:Nat→Bool} (h:∀ i,i<n→p i=q i):cnt n p=cnt n q:=z3g fun i hi=>by rw [h i hi]
theorem y75 (n:Nat) (p:Nat→Bool):cnt n p≤n:=by
 have:=x3v (n:=n) (f:=fun i=>o1 (p i)) (g:=fun _=>1) fun i _=>w4g _
 rw [z5n] at this; rw [cnt]; omega
theorem y1p {n:Nat} {p q:Nat→Bool} (h:∀ i,i<n→p i=true→q i=true):cnt n p≤cnt n q:=
 x3v fun i hi=>by
  have:=h i hi
  cases hp:p i with
  |false=>simp [o1]
  |true=>rw [this hp]; exact Nat.le_refl _
theorem y55 (n:Nat):cnt n (fun _=>true)=n:=by
 rw [cnt]
 have:=z5n n 1
 simpa [o1] using this
theorem y21 (n:Nat):cnt n (fun _=>false)=0:=x3t n
theorem y9s (n:Nat) (p:Nat→Bool):cnt n p+cnt n (fun i=>!p i)=n:=by
 rw [cnt,cnt, ←z9d]
 rw [z3g (g:=fun _=>1) fun i _=>by cases p i<;>rfl,z5n,Nat.mul_one]
theorem x80 {n:Nat} {p:Nat→Bool} (h:cnt n p=n):∀ i,i<n→p i=true:=by
 intro i hi
 have:=y1f (n:=n) (f:=fun i=>o1 (p i)) (g:=fun _=>1) (fun i _=>w4g _) (by rw [z5n,Nat.mul_one]; exact h) i hi
 cases hp:p i with
 |true=>rfl
 |false=>simp [hp,o1] at this
theorem x8z {n:Nat} {p:Nat→Bool} (h:cnt n p=0):∀ i,i<n→p i=false:=by
 intro i hi
 have:=y1f (n:=n) (f:=fun _=>0) (g:=fun i=>o1 (p i)) (fun i _=>Nat.zero_le _) (by rw [x3t]; exact h.symm) i hi
 cases hp:p i with
 |false=>rfl
 |true=>simp [hp,o1] at this
theorem y9r {n:Nat} {p:Nat→Bool} {i:Nat} (hi:i<n) (h:p i=true):0<cnt n p:=by
 refine Nat.pos_of_ne_zero fun h0=>?_
 rw [x8z h0 i hi] at h; cases h
def c2:Nat→Nat
 |0=>0
 |n+1=>c2 n+n
def c3:Nat→Nat
 |0=>0
 |n+1=>c3 n+c2 n
theorem w3g (n:Nat):2*c2 n=n*(n - 1):=by
 induction n with
 |zero=>rfl
 |succ n ih=>
  rw [c2,Nat.mul_add,ih,Nat.add_sub_cancel]
  cases n with
  |zero=>rfl
  |succ n=>rw [Nat.add_sub_cancel,Nat.mul_comm (n+1) n, ←Nat.add_mul]
theorem x57 (w:Nat) (b:Bool):c2 (w+o1 b)=c2 w+o1 b*w:=by
 cases b<;>simp [o1,c2]
section
variable (b:Nat→Nat→Bool)
def tri (i k m:Nat):Bool:=b i k&&b k m&&b m i||b k i&&b m k&&b i m
def Tr3 (i k n:Nat):Nat:=cnt n (tri b i k)
def Tr2 (i n:Nat):Nat:=sm n fun k=>Tr3 b i k k
def Tr1 (n:Nat):Nat:=sm n fun i=>Tr2 b i i
def y8j (n:Nat):Prop:=(∀ i,i<n→b i i=false)∧∀ i k,i<n→k<n→i≠k→b i k=!b k i
end
variable {b:Nat→Nat→Bool} {N:Nat}
theorem x5w (n:Nat) (x:Bool) (p:Nat→Bool):cnt n (fun i=>x&&p i)=o1 x*cnt n p:=by
 cases x with
 |false=>simp only [Bool.false_and,y21,o1,cond_false,Nat.zero_mul]
 |true=>simp only [Bool.true_and,o1,cond_true,Nat.one_mul]
theorem w94 (h:y8j b N) (v k n:Nat) (hv:v<N) (hk:k<v) (hn:n≤k):
  n=Tr3 b v k n+(o1 (b k v)*cnt n (b k)+cnt n (fun m=>b m v&&b m k)+o1 (b v k)*cnt n (b v)):=by
 rw [←x5w, ←x5w,Tr3]
 simp only [cnt]
 rw [←z9d, ←z9d, ←z9d]
 have:n=sm n (fun _=>1):=by rw [z5n]; omega
 refine this.trans (z3g fun m hm=>?_)
 have h1:=h.2 k v (by omega) hv (by omega)
 have h2:=h.2 m v (by omega) hv (by omega)
 have h3:=h.2 m k (by omega) (by omega) (by omega)
 unfold tri
 rw [h1,h2,h3]
 cases b v k<;>cases b v m<;>cases b k m<;>rfl
theorem w8c (h:y8j b N) (v n:Nat) (hv:v<N) (hn:n≤v):
  c2 n=Tr2 b v n+(sm n (fun i=>o1 (b i v)*cnt n (b i))+c2 (cnt n (b v))):=by
 induction n with
 |zero=>rfl
 |succ n ih=>
  have h1:=ih (by omega)
  have h2:=w94 h v n n hv (by omega) (Nat.le_refl _)
  have e1:sm (n+1) (fun i=>o1 (b i v)*cnt (n+1) (b i))=sm n (fun i=>o1 (b i v)*cnt n (b i))+cnt n (fun m=>b m v&&b m n)+o1 (b n v)*cnt n (b n):=by
   rw [z2k]
   simp only [z5v]
   rw [h.1 n (by omega)]
   have:sm n (fun i=>o1 (b i v)*(cnt n (b i)+o1 (b i n)))=sm n (fun i=>o1 (b i v)*cnt n (b i))+cnt n (fun m=>b m v&&b m n):=by
    rw [cnt, ←z9d]
    refine z3g fun i hi=>?_
    rw [Nat.mul_add]
    congr 1
    cases b i v<;>cases b i n<;>rfl
   rw [this]
   rfl
  have e2:Tr2 b v (n+1)=Tr2 b v n+Tr3 b v n n:=rfl
  rw [c2,e1,e2,z5v,x57]
  omega
theorem w3d (h:y8j b N) (n:Nat) (hn:n≤N):c3 n=Tr1 b n+sm n fun i=>c2 (cnt n (b i)):=by
 induction n with
 |zero=>rfl
 |succ n ih=>
  have h1:=ih (by omega)
  have h2:=w8c h n n (by omega) (Nat.le_refl _)
  have e1:sm (n+1) (fun i=>c2 (cnt (n+1) (b i)))=sm n (fun i=>c2 (cnt n (b i)))+sm n (fun i=>o1 (b i n)*cnt n (b i))+c2 (cnt n (b n)):=by
   rw [z2k]
   simp only [z5v]
   rw [h.1 n (by omega), ←z9d]
   congr 1
   refine z3g fun i hi=>?_
   rw [x57]
  have e2:Tr1 b (n+1)=Tr1 b n+Tr2 b n n:=rfl
  rw [c3,e1,e2]
  omega
end Go.Am.T11
end
section
namespace Go.Am.T11
variable {b:Nat→Nat→Bool} {N n:Nat}
theorem x61 (h:y8j b N) (k:Nat) (hk:k≤N):sm k (fun q=>cnt k (b q))=c2 k:=by
 induction k with
 |zero=>rfl
 |succ k ih=>
  rw [z2k,c2]
  simp only [z5v]
  rw [z9d,ih (by omega),h.1 k (by omega)]
  have:sm k (fun i=>o1 (b i k))+cnt k (b k)=k:=by
   have:=y9s k (b k)
   have e:sm k (fun i=>o1 (b i k))=cnt k fun i=>!b k i:=z3g fun i hi=>by rw [h.2 i k (by omega) (by omega) (by omega)]
   rw [e]; omega
  simp only [o1,cond_false] at this⊢
  omega
theorem y20 (k m:Nat) (p:Nat→Bool):cnt (k+m) p=cnt k p+cnt m fun j=>p (k+j):=y98 k m _
def cut (b:Nat→Nat→Bool) (n k:Nat):Prop:=sm k (fun q=>cnt n (b q))=c2 k+k*(n - k)
instance (b:Nat→Nat→Bool) (n k:Nat):Decidable (cut b n k):=by unfold cut; infer_instance
theorem x8r (b:Nat→Nat→Bool) (n:Nat):cut b n 0:=by simp [cut,sm,c2]
theorem y9p (h:y8j b n) {k:Nat} (hk:k≤n):cut b n k↔∀ q r,q<k→k≤r→r<n→b q r=true:=by
 have e:sm k (fun q=>cnt n (b q))=c2 k+sm k (fun q=>cnt (n - k) fun j=>b q (k+j)):=by
  rw [←x61 h k hk, ←z9d]
  refine z3g fun q hq=>?_
  rw [←y20]; congr 1; omega
 rw [cut,e]
 have e2:k*(n - k)=sm k (fun _=>n - k):=(z5n _ _).symm
 rw [e2]
 constructor
 ·intro he q r hq hr hrn
  have:=y1f (n:=k) (f:=fun q=>cnt (n - k) fun j=>b q (k+j)) (g:=fun _=>n - k) (fun i _=>y75 _ _) (by omega) q hq
  have:=x80 this (r - k) (by omega)
  rwa [show k+(r - k)=r by omega] at this
 ·intro hall
  congr 1
  refine z3g fun q hq=>?_
  have:cnt (n - k) (fun j=>b q (k+j))=cnt (n - k) (fun _=>true):=z6p fun j hj=>hall q (k+j) hq (by omega) (by omega)
  rw [this,y55]
theorem w2z (h:y8j b n):cut b n n:=(y9p h (Nat.le_refl _)).2 fun q r _ h1 h2=>by omega
theorem x14 (S:Nat→Bool) (n:Nat) (h:∀ q r,q<n→r<q→S q=true→S r=true):∀ q,q<n→S q=decide (q<cnt n S):=by
 induction n with
 |zero=>intro q hq; omega
 |succ n ih=>
  intro q hq
  have ih':=ih fun q r hq=>h q r (by omega)
  rw [z5v]
  cases hn:S n with
  |true=>
   have hall:∀ i,i<n→S i=true:=fun i hi=>h n i (by omega) hi hn
   have hc:cnt n S=n:=by
    rw [z6p (q:=fun _=>true) hall,y55]
   rw [hc]
   simp only [o1,cond_true]
   by_cases e:q=n
   ·subst e; simp [hn]
   ·rw [hall q (by omega)]; exact (decide_eq_true (by omega)).symm
  |false=>
   simp only [o1,cond_false,Nat.add_zero]
   by_cases e:q=n
   ·subst e
    have:=y75 q S
    rw [hn]; exact (decide_eq_false (by omega)).symm
   ·exact ih' q (by omega)
theorem x2q (h:y8j b n) (hw:∀ q r,q≤r→r<n→cnt n (b r)≤cnt n (b q)) (S:Nat→Bool)
  (hd:∀ q r,q<n→r<n→S q=true→S r=false→b q r=true):(∀ q,q<n→S q=decide (q<cnt n S))∧cut b n (cnt n S):=by
 have hin:∀ q,q<n→S q=true→cnt n (fun i=>!S i)≤cnt n (b q):=fun q hq hs=>y1p fun i hi hi'=>hd q i hq hi hs (by simpa using hi')
 have hout:∀ r,r<n→S r=false→cnt n (b r)+1≤cnt n (fun i=>!S i):=by
  intro r hr hs
  have h1:cnt n (fun i=>b r i||decide (i=r))≤cnt n (fun i=>!S i):=y1p fun i hi hi'=>by
   by_cases e:i=r
   ·subst e; simp [hs]
   ·cases hS:S i with
    |false=>rfl
    |true=>
     have:=hd i r hi hr hS hs
     have h2:=h.2 r i hr hi (Ne.symm e)
     rw [this] at h2
     simp [e,h2] at hi'
  have h2:cnt n (fun i=>b r i||decide (i=r))=cnt n (b r)+cnt n (fun i=>decide (i=r)):=by
   rw [cnt,cnt,cnt, ←z9d]
   refine z3g fun i hi=>?_
   by_cases e:i=r
   ·subst e; simp [h.1 i hi,o1]
   ·simp [e,o1]
  have:=y9r (n:=n) (p:=fun i=>decide (i=r)) hr (by simp)
  omega
 have hp:=x14 S n fun q r hq hr hs=>by
  cases hS:S r with
  |true=>rfl
  |false=>
   have h1:=hin q hq hs
   have h2:=hout r (by omega) hS
   have h3:=hw r q (by omega) hq
   omega
 refine ⟨hp,(y9p h (y75 _ _)).2 fun q r hq hr hrn=>hd q r (by omega) hrn ?_ ?_⟩
 ·rw [hp q (by omega)]; simpa using hq
 ·rw [hp r hrn]; simp; omega
def z91 (b:Nat→Nat→Bool) (n:Nat) (R:Nat→Bool):Prop:=∀ i k,i<n→k<n→R i=true→b i k=true→R k=true
def Rch (b:Nat→Nat→Bool) (n i:Nat) (R:Nat→Bool):Prop:=R i=true∧z91 b n R∧∀ C,z91 b n C→C i=true→∀ k,k<n→R k=true→C k=true
theorem x7f (h:y8j b n) (hw:∀ q r,q≤r→r<n→cnt n (b r)≤cnt n (b q)) {p:Nat} (hp:p<n) {R:Nat→Bool} (hR:Rch b n p R):
  ∃ m,m≤p∧cut b n m∧cnt n R=n - m∧(∀ q,q<n→R q=decide (m≤q))∧∀ k,k≤p→cut b n k→k≤m:=by
 obtain ⟨h1,h2,h3⟩:=hR
 obtain ⟨e1,e2⟩:=x2q h hw (fun i=>!R i) fun q r hq hr hs hs'=>by
  have hRr:R r=true:=by simpa using hs'
  have hRq:R q=false:=by simpa using hs
  have hne:q≠r:=by rintro rfl; rw [hRq] at hRr; cases hRr
  rw [h.2 q r hq hr hne]
  cases hb:b r q with
  |false=>rfl
  |true=>
   have:=h2 r q hr hq hRr hb
   rw [hRq] at this; cases this
 have hc:=y9s n R
 refine ⟨cnt n (fun i=>!R i),?_,e2,by omega,fun q hq=>?_,fun k hk hcut=>?_⟩
 ·have:=e1 p hp
  rw [h1] at this
  simp at this
  exact this
 ·have:=e1 q hq
  cases hRq:R q with
  |true=>rw [hRq] at this; simp at this; exact (decide_eq_true this).symm
  |false=>rw [hRq] at this; simp at this; exact (decide_eq_false (by omega)).symm
 ·have hcl:z91 b n (fun q=>decide (k≤q)):=fun i j hi hj hik hb=>by
   simp only [decide_eq_true_eq] at hik⊢
   refine Nat.le_of_not_lt fun hlt=>?_
   have h4:=(y9p h (by omega)).1 hcut j i hlt hik hi
   have h5:=h.2 i j hi hj (by omega)
   rw [hb,h4] at h5; cases h5
  have h6:=h3 _ hcl (by simpa using hk)
  have h7:cnt n R≤cnt n (fun q=>decide (k≤q)):=y1p h6
  have h8:cnt n (fun q=>decide (k≤q))=n - k:=by
   have e:n=k+(n - k):=by omega
   have:=y20 k (n - k) (fun q=>decide (k≤q))
   rw [←e] at this
   rw [this,z6p (n:=k) (q:=fun _=>false) fun i hi=>by simp; omega,y21,z6p (n:=n - k) (q:=fun _=>true) fun i hi=>by simp,y55]
   omega
  omega
def at_ (s:List Nat) (q:Nat):Nat:=s.getD q 0
theorem x3u (l:List Nat) (f:Nat→Nat):sm l.length (fun q=>f (at_ l q))=(l.map f).sum:=by
 induction l with
 |nil=>rfl
 |cons a l ih=>
  rw [List.length_cons,Nat.add_comm,y98,List.map_cons,List.sum_cons, ←ih]
  congr 1
  ·simp [sm,at_]
  ·refine z3g fun i hi=>?_
   simp [at_,Nat.add_comm 1 i]
theorem x69 (n:Nat) (f:Nat→Nat):sm n f=((List.range n).map f).sum:=by
 have:=x3u (List.range n) f
 rw [List.length_range] at this
 rw [←this]
 refine z3g fun i hi=>?_
 rw [at_,List.getD_eq_getElem?_getD,List.getElem?_range hi]; rfl
def y3t (n:Nat) (s:List Nat):Prop:=s.Perm (List.range n)
variable {s:List Nat}
theorem y3t.len (h:y3t n s):s.length=n:=by rw [h.length_eq,List.length_range]
theorem y3t.sum (h:y3t n s) (f:Nat→Nat):sm n (fun q=>f (at_ s q))=sm n f:=by
 have:=x3u s f
 rw [h.len] at this
 rw [this,x69]
 exact (h.map f).sum_nat
theorem y3t.count (h:y3t n s) (p:Nat→Bool):cnt n (fun q=>p (at_ s q))=cnt n p:=h.sum fun i=>o1 (p i)
theorem y3t.get (h:y3t n s) {q:Nat} (hq:q<n):s[q]?=some (at_ s q):=by
 rw [at_,List.getD_eq_getElem?_getD,List.getElem?_eq_getElem (by rw [h.len]; exact hq)]; rfl
theorem y3t.lt (h:y3t n s) {q:Nat} (hq:q<n):at_ s q<n:=List.mem_range.1 (h.mem_iff.1 (List.mem_of_getElem? (h.get hq)))
theorem y3t.nodup (h:y3t n s):s.Nodup:=h.nodup_iff.2 List.nodup_range
theorem y3t.inj (h:y3t n s) {q r:Nat} (hq:q<n) (hr:r<n) (he:at_ s q=at_ s r):q=r:=by
 have h1:=h.get hq
 have h2:=h.get hr
 rw [←he] at h2
 exact (List.getElem?_inj (by rw [h.len]; exact hq) h.nodup).1 (h1.trans h2.symm)
theorem y3t.ex (h:y3t n s) {i:Nat} (hi:i<n):∃ q,q<n∧at_ s q=i:=by
 have:=h.mem_iff.2 (List.mem_range.2 hi)
 obtain ⟨q,hq⟩:=List.getElem?_of_mem this
 have hl:q<n:=by rw [←h.len]; exact (List.getElem?_eq_some_iff.1 hq).1
 refine ⟨q,hl,?_⟩
 have:=h.get hl
 rw [hq] at this; cases this; rfl
def byR (b:Nat→Nat→Bool) (s:List Nat) (q r:Nat):Bool:=b (at_ s q) (at_ s r)
theorem x1k (h:y8j b n) (hs:y3t n s):y8j (byR b s) n:=
 ⟨fun i hi=>h.1 _ (hs.lt hi),fun i k hi hk hne=>h.2 _ _ (hs.lt hi) (hs.lt hk) fun e=>hne (hs.inj hi hk e)⟩
theorem y9z (hs:y3t n s) (q:Nat):cnt n (byR b s q)=cnt n (b (at_ s q)):=hs.count (b (at_ s q))
theorem x35 (hs:y3t n s) {p:Nat} (hp:p<n) {R:Nat→Bool} (hR:Rch b n (at_ s p) R):Rch (byR b s) n p (fun q=>R (at_ s q)):=by
 obtain ⟨h1,h2,h3⟩:=hR
 refine ⟨h1,fun i k hi hk hRi hb=>h2 _ _ (hs.lt hi) (hs.lt hk) hRi hb,fun C hC hCp k hk hRk=>?_⟩
 have key:=h3 (fun i=>decide (∃ q∈List.range n,at_ s q=i∧C q=true)) (fun i k hi hk hCi hb=>by
  simp only [decide_eq_true_eq] at hCi⊢
  obtain ⟨q,hq,rfl,hCq⟩:=hCi
  obtain ⟨r,hr,rfl⟩:=hs.ex hk
  exact ⟨r,List.mem_range.2 hr,rfl,hC q r (List.mem_range.1 hq) hr hCq hb⟩) (by
  simp only [decide_eq_true_eq]
  exact ⟨p,List.mem_range.2 hp,rfl,hCp⟩) (at_ s k) (hs.lt hk) hRk
 simp only [decide_eq_true_eq] at key
 obtain ⟨q,hq,he,hCq⟩:=key
 rw [←hs.inj (List.mem_range.1 hq) hk he]; exact hCq
def w3s (b:Nat→Nat→Bool) (n:Nat) (s:List Nat):Prop:=y3t n s∧∀ q r,q≤r→r<n→cnt n (b (at_ s r))≤cnt n (b (at_ s q))
theorem x12 (h:y8j b n) (hs:w3s b n s) {p:Nat} (hp:p<n) {R:Nat→Bool} (hR:Rch b n (at_ s p) R):
  ∃ m,m≤p∧cut (byR b s) n m∧cnt n R=n - m∧(∀ q,q<n→R (at_ s q)=decide (m≤q))∧∀ k,k≤p→cut (byR b s) n k→k≤m:=by
 obtain ⟨m,h1,h2,h3,h4,h5⟩:=x7f (x1k h hs.1) (fun q r hq hr=>by rw [y9z hs.1,y9z hs.1]; exact hs.2 q r hq hr) hp (x35 hs.1 hp hR)
 refine ⟨m,h1,h2,?_,h4,h5⟩
 rw [←hs.1.count R]; exact h3
theorem x90 {l l':List Nat} (h:l.Pairwise (· < ·)) (h':l'.Pairwise (· < ·)) (he:∀ x,x∈l↔x∈l'):l=l':=by
 induction l generalizing l' with
 |nil=>cases l' with
  |nil=>rfl
  |cons a l'=>exact absurd ((he a).2 (List.mem_cons_self ..)) (by simp)
 |cons a l ih=>cases l' with
  |nil=>exact absurd ((he a).1 (List.mem_cons_self ..)) (by simp)
  |cons a' l'=>
   rw [List.pairwise_cons] at h h'
   have e:a=a':=by
    have h1:=(he a).1 (List.mem_cons_self ..)
    have h2:=(he a').2 (List.mem_cons_self ..)
    rcases List.mem_cons.1 h1 with h1|h1
    ·exact h1
    ·rcases List.mem_cons.1 h2 with h2|h2
     ·exact h2.symm
     ·have:=h.1 _ h2; have:=h'.1 _ h1; omega
   subst e
   rw [ih h.2 h'.2 fun x=>?_]
   have:=he x
   simp only [List.mem_cons] at this
   constructor
   ·intro hx
    rcases this.1 (.inr hx) with rfl|h1
    ·have:=h.1 _ hx; omega
    ·exact h1
   ·intro hx
    rcases this.2 (.inr hx) with rfl|h1
    ·have:=h'.1 _ hx; omega
    ·exact h1
def lG (rc:Nat→Nat) (n j:Nat):List Nat:=(List.range n).filter fun i=>rc i==n - j
def RG (rc:Nat→Nat) (n:Nat):Nat→List (List Nat)
 |0=>[]
 |j+1=>bif (lG rc n j).isEmpty then RG rc n j else RG rc n j++[lG rc n j]
theorem w9s (rc:Nat→Nat) (n j:Nat):(lG rc n j).Pairwise (· < ·):=List.Pairwise.filter _ List.pairwise_lt_range
theorem x95 {rc:Nat→Nat} {j i:Nat}:i∈lG rc n j↔i<n∧rc i=n - j:=by simp [lG]
def RC (b:Nat→Nat→Bool) (n:Nat) (rc:Nat→Nat):Prop:=∀ i,i<n→∃ R,Rch b n i R∧rc i=cnt n R
variable {rc:Nat→Nat}
theorem y82 (h:y8j b n) (hs:w3s b n s) (hrc:RC b n rc) {p:Nat} (hp:p<n):
  ∃ m,m≤p∧cut (byR b s) n m∧rc (at_ s p)=n - m∧∀ k,k≤p→cut (byR b s) n k→k≤m:=by
 obtain ⟨R,h1,h2⟩:=hrc _ (hs.1.lt hp)
 obtain ⟨m,h3,h4,h5,_,h6⟩:=x12 h hs hp h1
 exact ⟨m,h3,h4,h2.trans h5,h6⟩
theorem w16 (h:y8j b n) (hs:w3s b n s) (hrc:RC b n rc) {j:Nat} (hj:j<n) (hc:¬ cut (byR b s) n j):lG rc n j=[]:=by
 refine List.eq_nil_iff_forall_not_mem.2 fun i hi=>?_
 obtain ⟨h1,h2⟩:=x95.1 hi
 obtain ⟨p,hp,rfl⟩:=hs.1.ex h1
 obtain ⟨m,h3,h4,h5,_⟩:=y82 h hs hrc hp
 have:m=j:=by omega
 subst this; exact hc h4
theorem x96 (h:y8j b n) (hs:w3s b n s) (hrc:RC b n rc) {j k:Nat} (hj:j<k) (hk:k≤n) (hc:cut (byR b s) n j) (hck:cut (byR b s) n k)
  (hno:∀ m,j<m→m<k→¬ cut (byR b s) n m) (i:Nat):i∈lG rc n j↔i∈(s.drop j).take (k - j):=by
 have hmem:i∈(s.drop j).take (k - j)↔∃ q,j≤q∧q<k∧at_ s q=i:=by
  constructor
  ·intro hi
   obtain ⟨q,hq⟩:=List.getElem?_of_mem hi
   have hlt:q<k - j:=by
    have:=(List.getElem?_eq_some_iff.1 hq).1
    rw [List.length_take] at this; omega
   rw [List.getElem?_take_of_lt hlt,List.getElem?_drop,hs.1.get (by omega)] at hq
   cases hq
   exact ⟨j+q,by omega,by omega,rfl⟩
  ·rintro ⟨q,h1,h2,rfl⟩
   refine List.mem_of_getElem? (i:=q - j) ?_
   rw [List.getElem?_take_of_lt (by omega),List.getElem?_drop,show j+(q - j)=q by omega,hs.1.get (by omega)]
 rw [hmem,x95]
 constructor
 ·rintro ⟨h1,h2⟩
  obtain ⟨p,hp,rfl⟩:=hs.1.ex h1
  obtain ⟨m,h3,h4,h5,h6⟩:=y82 h hs hrc hp
  have:m=j:=by omega
  subst this
  refine ⟨p,h3,Nat.lt_of_not_le fun hge=>?_,rfl⟩
  have:=h6 k hge hck
  omega
 ·rintro ⟨q,h1,h2,rfl⟩
  refine ⟨hs.1.lt (by omega),?_⟩
  obtain ⟨m,h3,h4,h5,h6⟩:=y82 h hs hrc (p:=q) (by omega)
  have h7:=h6 j h1 hc
  have:m=j:=by
   refine Nat.le_antisymm (Nat.le_of_not_lt fun hlt=>hno m hlt (by omega) h4) h7
  rw [h5,this]
theorem w3o (h:y8j b n) (hs:w3s b n s) (hrc:RC b n rc) {j k:Nat} (hj:j≤k) (hk:k≤n) (hno:∀ m,j≤m→m<k→¬ cut (byR b s) n m):RG rc n k=RG rc n j:=by
 induction k with
 |zero=>rw [show j=0 by omega]
 |succ k ih=>
  by_cases e:j=k+1
  ·rw [e]
  ·rw [RG,w16 h hs hrc (by omega) (hno k (by omega) (by omega))]
   exact ih (by omega) (by omega) fun m h1 h2=>hno m h1 (by omega)
theorem w6y (h:y8j b n) (hs:w3s b n s) (hrc:RC b n rc) {j k:Nat} (hj:j<k) (hk:k≤n) (hc:cut (byR b s) n j) (hck:cut (byR b s) n k)
  (hno:∀ m,j<m→m<k→¬ cut (byR b s) n m):RG rc n k=RG rc n j++[lG rc n j]:=by
 rw [w3o h hs hrc (j:=j+1) (by omega) hk fun m h1 h2=>hno m (by omega) h2,RG]
 have:(lG rc n j).isEmpty=false:=by
  rw [List.isEmpty_eq_false_iff]
  intro e
  have:=(x96 h hs hrc hj hk hc hck hno (at_ s j)).2 (by
   refine List.mem_of_getElem? (i:=0) ?_
   rw [List.getElem?_take_of_lt (by omega),List.getElem?_drop,Nat.add_zero,hs.1.get (by omega)])
  rw [e] at this; cases this
 rw [this]; rfl
end Go.Am.T11
end
section
namespace Go.Am.T11
def Lan (L:List Int):Prop:=(∀ T:List Int,T.Sublist L→(c2 T.length:Int)≤T.sum)∧L.sum=c2 L.length
theorem x62 {L L':List Int} (h:L.Perm L'):L.sum=L'.sum:=by
 induction h with
 |nil=>rfl
 |cons a _ ih=>simp [ih]
 |swap a b l=>simp; omega
 |trans _ _ h1 h2=>exact h1.trans h2
theorem x7l {T K:List Int} (h:T.Sublist K) (hne:T≠K):∃ (y:Int) (K1:List Int),y∈K∧K1.Sublist K∧K1.Perm (y::T):=by
 induction h with
 |slnil=>exact absurd rfl hne
 |cons a hs ih=>exact ⟨a,a::_,List.mem_cons_self .., .cons_cons a hs, .refl _⟩
 |cons_cons a hs ih=>
  obtain ⟨y,K1,h1,h2,h3⟩:=ih fun e=>hne (by rw [e])
  exact ⟨y,a::K1,List.mem_cons_of_mem _ h1, .cons_cons a h2,(h3.cons a).trans (.swap _ _ _)⟩
theorem x3n (L:List Int):(L.map (· - 1)).sum=L.sum - L.length:=by
 induction L with
 |nil=>rfl
 |cons a L ih=>simp [ih]; omega
theorem Lan.step {v:Int} {L:List Int} (h:Lan (v::L)) (hs:L.Pairwise (· ≤ ·)):
  0≤v∧v≤L.length∧Lan (L.take v.toNat++(L.drop v.toNat).map (· - 1)):=by
 have h0:0≤v:=by
  have:=h.1 [v] (.cons_cons v (List.nil_sublist _))
  simpa [c2] using this
 have htot:=h.2
 rw [List.sum_cons,List.length_cons,c2] at htot
 have h1:v≤L.length:=by
  have:=h.1 L (.cons v (List.Sublist.refl _))
  omega
 refine ⟨h0,h1,?_,?_⟩
 ·intro T hT
  obtain ⟨T1,T2',rfl,hT1,hT2'⟩:=List.sublist_append_iff.1 hT
  obtain ⟨T2,hT2,rfl⟩:=List.sublist_map_iff.1 hT2'
  rw [List.length_append,List.length_map,List.sum_append,x3n]
  have hKD:∀ y∈L.take v.toNat,∀ z∈L.drop v.toNat,y≤z:=by
   intro y hy z hz
   have:=hs
   rw [←List.take_append_drop v.toNat L,List.pairwise_append] at this
   exact this.2.2 y hy z hz
  have hKl:(L.take v.toNat).length=v.toNat:=by rw [List.length_take]; omega
  have hDl:(L.drop v.toNat).length=L.length - v.toNat:=List.length_drop ..
  have hall:∀ T1 T2:List Int,T1.Sublist (L.take v.toNat)→T2.Sublist (L.drop v.toNat)→(T1++T2).Sublist L:=fun T1 T2 a b=>by
   have:=a.append b
   rwa [List.take_append_drop] at this
  have key:∀ m:Nat,∀ T1 T2:List Int,T1.Sublist (L.take v.toNat)→T2.Sublist (L.drop v.toNat)→
    (T1.sum+T2.sum - T2.length - c2 (T1.length+T2.length)+L.length).toNat*(L.length+1)+(T1.length+T2.length)≤m→
    (c2 (T1.length+T2.length):Int)≤T1.sum+(T2.sum - T2.length):=by
   intro m
   induction m with
   |zero=>
    intro T1 T2 a b hm
    have e1:T1.length+T2.length=0:=by omega
    have e2:T1=[]:=List.length_eq_zero_iff.1 (by omega)
    have e3:T2=[]:=List.length_eq_zero_iff.1 (by omega)
    subst e2 e3; simp [c2]
   |succ m ih=>
    intro T1 T2 a b hm
    have hsub:=h.1 (T1++T2) (.cons v (hall T1 T2 a b))
    rw [List.length_append,List.sum_append] at hsub
    have hl1:=a.length_le
    have hl2:=b.length_le
    refine Int.not_lt.1 fun hneg=>?_
    match T2,b with
    |[],_=>simp at hneg hsub; omega
    |z::T2,b=>
     rw [List.length_cons,List.sum_cons] at*
     have hz:z∈L.drop v.toNat:=b.subset (List.mem_cons_self ..)
     by_cases hK:T1=L.take v.toNat
     ·have:=h.1 (v::(T1++(z::T2))) (.cons_cons v (hall T1 (z::T2) a b))
      rw [List.length_cons,List.sum_cons,List.length_append,List.sum_append,c2,List.length_cons,List.sum_cons] at this
      have hTl:T1.length=v.toNat:=by rw [hK,hKl]
      push_cast at*
      omega
     ·obtain ⟨y,K1,hy,hK1,hp⟩:=x7l a hK
      have hyz:=hKD y hy z hz
      have hv1:=List.length_pos_of_mem hy
      rw [hKl] at hv1
      rw [hDl] at hl2
      have hKl1:=hp.length_eq
      have hKs:=x62 hp
      rw [List.length_cons] at hKl1
      rw [List.sum_cons] at hKs
      by_cases hyk:y<(T1.length+(T2.length+1):Nat)
      ·have:=ih K1 (z::T2) hK1 b (by
        rw [List.length_cons,List.sum_cons,hKl1,hKs,show T1.length+1+(T2.length+1)=T1.length+(T2.length+1)+1 by omega,c2]
        generalize c2 (T1.length+(T2.length+1))=C at*
        have hd:(y+T1.sum+(z+T2.sum) - ((T2.length+1:Nat):Int) - ((C+(T1.length+(T2.length+1)):Nat):Int)+(L.length:Int)).toNat+1≤
          (T1.sum+(z+T2.sum) - ((T2.length+1:Nat):Int) - (C:Int)+(L.length:Int)).toNat:=by omega
        have hmul:=Nat.mul_le_mul_right (L.length+1) hd
        rw [Nat.add_mul,Nat.one_mul] at hmul
        have:0<L.length:=by
         have:=List.length_pos_of_mem hz
         omega
        omega)
       rw [List.length_cons,List.sum_cons,hKl1,hKs,show T1.length+1+(T2.length+1)=T1.length+(T2.length+1)+1 by omega,c2] at this
       push_cast at*
       omega
      ·have b':T2.Sublist (L.drop v.toNat):=(List.sublist_cons_self z T2).trans b
       have e1:T1.length+(T2.length+1)=T1.length+T2.length+1:=by omega
       have hc2:c2 (T1.length+(T2.length+1))=c2 (T1.length+T2.length)+(T1.length+T2.length):=by rw [e1,c2]
       rw [hc2] at hneg hm hsub
       have hsub':=h.1 (T1++T2) (.cons v (hall T1 T2 a b'))
       rw [List.length_append,List.sum_append] at hsub'
       have:=ih T1 T2 a b' (by
        generalize c2 (T1.length+T2.length)=C at*
        have hd:(T1.sum+T2.sum - ((T2.length:Nat):Int) - (C:Int)+(L.length:Int)).toNat≤
          (T1.sum+(z+T2.sum) - ((T2.length+1:Nat):Int) - ((C+(T1.length+T2.length):Nat):Int)+(L.length:Int)).toNat:=by omega
        have hmul:=Nat.mul_le_mul_right (L.length+1) hd
        omega)
       push_cast at*
       omega
  exact key _ T1 T2 hT1 hT2 (Nat.le_refl _)
 ·have hl:(L.take v.toNat++(L.drop v.toNat).map (· - 1)).length=L.length:=by
   rw [List.length_append,List.length_map, ←List.length_append,List.take_append_drop]
  have hsum:(L.take v.toNat).sum+(L.drop v.toNat).sum=L.sum:=by
   rw [←List.sum_append,List.take_append_drop]
  rw [hl,List.sum_append,x3n,List.length_drop]
  push_cast at*
  omega
def x9y (n k:Nat) (sum:Int):Prop:=sum<c2 k∨k=n∧sum≠c2 k
instance (n k:Nat) (sum:Int):Decidable (x9y n k sum):=by unfold x9y; infer_instance
end Go.Am.T11
end
section
namespace Go.Am.T11
def gI (l:List Int) (q:Nat):Int:=l.getD q 0
def sw (l:List Int) (j:Nat):List Int:=(l.set (j+1) (gI l j)).set j (gI l (j+1))
def y5u (κ:Int→Int):Nat→List Int→List Int
 |0,l=>l
 |j+1,l=>if κ (gI l (j+1))<κ (gI l j) then y5u κ j (sw l j) else l
def x0z (κ:Int→Int):Nat→Nat→List Int→List Int
 |0,_,l=>l
 |k+1,i,l=>x0z κ k (i+1) (y5u κ i l)
def z4u (κ:Int→Int) (l:List Int):List Int:=x0z κ (l.length - 1) 1 l
theorem z68 (l:List Int) (j:Nat):(sw l j).length=l.length:=by simp [sw]
theorem x2l {l:List Int} {j:Nat} (hj:j+1<l.length) (q:Nat):gI (sw l j) q=if q=j then gI l (j+1) else if q=j+1 then gI l j else gI l q:=by
 have e:gI (sw l j) q=((sw l j)[q]?).getD 0:=by rw [gI,List.getD_eq_getElem?_getD]
 rw [e,sw,List.getElem?_set,List.getElem?_set,List.length_set]
 by_cases h1:q=j
 ·subst h1; rw [if_pos rfl,if_pos (by omega),if_pos rfl]; rfl
 ·by_cases h2:q=j+1
  ·subst h2; rw [if_neg (by omega),if_pos rfl,if_pos hj,if_neg h1,if_pos rfl]; rfl
  ·rw [if_neg (by omega),if_neg (by omega),if_neg h1,if_neg h2,gI,List.getD_eq_getElem?_getD]
theorem y7r {l l':List Int} (hl:l.length=l'.length) (h:∀ q,q<l.length→gI l q=gI l' q):l=l':=by
 apply List.ext_getElem hl
 intro i h1 h2
 have:=h i h1
 simpa [gI,List.getD_eq_getElem?_getD,h1,h2] using this
theorem w04 {l:List Int} {j:Nat} (hj:j+1<l.length):(sw l j).Perm l:=by
 have e:l=l.take j++(gI l j::gI l (j+1)::l.drop (j+2)):=by
  conv=>lhs; rw [←List.take_append_drop j l]
  congr 1
  rw [List.drop_eq_getElem_cons (by omega),List.drop_eq_getElem_cons (by omega)]
  simp [gI,List.getD_eq_getElem?_getD,show j<l.length by omega,hj]
 have e2:sw l j=l.take j++(gI l (j+1)::gI l j::l.drop (j+2)):=by
  apply y7r
  ·simp only [z68,List.length_append,List.length_take,List.length_cons,List.length_drop]; omega
  ·intro q hq
   rw [z68] at hq
   rw [x2l hj]
   have hlt:(l.take j).length=j:=by rw [List.length_take]; omega
   have hR:gI (l.take j++(gI l (j+1)::gI l j::l.drop (j+2))) q=((l.take j++(gI l (j+1)::gI l j::l.drop (j+2)))[q]?).getD 0:=by rw [gI,List.getD_eq_getElem?_getD]
   rw [hR,List.getElem?_append,hlt]
   by_cases h1:q<j
   ·rw [if_neg (by omega),if_neg (by omega),if_pos h1,List.getElem?_take_of_lt h1,gI,List.getD_eq_getElem?_getD]
   ·rw [if_neg h1]
    by_cases h2:q=j
    ·subst h2; rw [if_pos rfl,Nat.sub_self]; rfl
    ·by_cases h3:q=j+1
     ·subst h3; rw [if_neg h2,if_pos rfl,show j+1 - j=1 by omega]; rfl
     ·rw [if_neg h2,if_neg h3]
      obtain ⟨m,rfl⟩:∃ m,q=j+2+m:=⟨q - (j+2),by omega⟩
      rw [show j+2+m - j=m+2 by omega,List.getElem?_cons_succ,List.getElem?_cons_succ,List.getElem?_drop,gI,List.getD_eq_getElem?_getD]
 rw [e2]
 conv=>rhs; rw [e]
 exact List.Perm.append_left _ (.swap _ _ _)
theorem z9o (κ:Int→Int) (j:Nat) (l:List Int):(y5u κ j l).length=l.length:=by
 induction j generalizing l with
 |zero=>rfl
 |succ j ih=>
  rw [y5u]
  split
  ·rw [ih,z68]
  ·rfl
theorem x73 (κ:Int→Int) (k i:Nat) (l:List Int):(x0z κ k i l).length=l.length:=by
 induction k generalizing i l with
 |zero=>rfl
 |succ k ih=>rw [x0z,ih,z9o]
theorem x4s (κ:Int→Int) (j:Nat) (l:List Int) (hj:j<l.length):(y5u κ j l).Perm l:=by
 induction j generalizing l with
 |zero=>exact .refl _
 |succ j ih=>
  rw [y5u]
  split
  ·exact (ih _ (by rw [z68]; omega)).trans (w04 hj)
  ·exact .refl _
theorem x4r (κ:Int→Int) (k i:Nat) (l:List Int) (h:i+k≤l.length):(x0z κ k i l).Perm l:=by
 induction k generalizing i l with
 |zero=>exact .refl _
 |succ k ih=>
  rw [x0z]
  exact (ih _ _ (by rw [z9o]; omega)).trans (x4s κ i l (by omega))
def w1i (κ:Int→Int) (l:List Int) (i:Nat):Prop:=∀ p q,p<q→q≤i→κ (gI l p)≤κ (gI l q)
theorem x74 (κ:Int→Int) (i j:Nat) (l:List Int) (hj:j≤i) (hi:i<l.length)
  (h1:∀ p q,p<q→q≤i→p≠j→q≠j→κ (gI l p)≤κ (gI l q)) (h2:∀ q,j<q→q≤i→κ (gI l j)≤κ (gI l q)):w1i κ (y5u κ j l) i:=by
 induction j generalizing l with
 |zero=>
  intro p q hpq hq
  by_cases hp:p=0
  ·subst hp; exact h2 q hpq hq
  ·exact h1 p q hpq hq hp (by omega)
 |succ j ih=>
  rw [y5u]
  split
  ·rename_i hlt
   refine ih _ (by omega) (by rw [z68]; exact hi) (fun p q hpq hq hp hqj=>?_) (fun q hjq hq=>?_)
   ·rw [x2l (by omega),x2l (by omega),if_neg hp,if_neg hqj]
    by_cases e:p=j+1
    ·rw [if_pos e,if_neg (by omega)]
     exact h1 j q (by omega) hq (by omega) (by omega)
    ·rw [if_neg e]
     by_cases e2:q=j+1
     ·rw [if_pos e2]
      exact h1 p j (by omega) (by omega) e (by omega)
     ·rw [if_neg e2]
      exact h1 p q hpq hq e e2
   ·rw [x2l (by omega),x2l (by omega),if_pos rfl,if_neg (by omega)]
    by_cases e2:q=j+1
    ·rw [if_pos e2]; omega
    ·rw [if_neg e2]; exact h2 q (by omega) hq
  ·rename_i hge
   intro p q hpq hq
   by_cases e:q=j+1
   ·subst e
    by_cases e2:p=j
    ·subst e2; omega
    ·have:=h1 p j (by omega) (by omega) (by omega) (by omega)
     omega
   ·by_cases e2:p=j+1
    ·subst e2; exact h2 q hpq hq
    ·exact h1 p q hpq hq e2 e
theorem x72 (κ:Int→Int) (k i:Nat) (l:List Int) (hi:1≤i) (h:i+k≤l.length) (ho:w1i κ l (i - 1)):w1i κ (x0z κ k i l) (i+k - 1):=by
 induction k generalizing i l with
 |zero=>exact ho
 |succ k ih=>
  rw [x0z]
  have:=ih (i+1) (y5u κ i l) (by omega) (by rw [z9o]; omega) (by
   rw [Nat.add_sub_cancel]
   exact x74 κ i i l (Nat.le_refl _) (by omega) (fun p q hpq hq hp hqi=>ho p q hpq (by omega)) (fun q h1 h2=>by omega))
  rwa [show i+1+k - 1=i+(k+1) - 1 by omega] at this
theorem z69 (κ:Int→Int) (l:List Int):(z4u κ l).length=l.length:=x73 ..
theorem y30 (κ:Int→Int) (l:List Int):(z4u κ l).Perm l:=by
 cases hl:l.length with
 |zero=>
  have:l=[]:=List.length_eq_zero_iff.1 hl
  subst this; exact .refl _
 |succ n=>exact x4r κ _ _ _ (by omega)
theorem y67 (κ:Int→Int) (l:List Int):∀ p q,p≤q→q<l.length→κ (gI (z4u κ l) p)≤κ (gI (z4u κ l) q):=by
 intro p q hpq hq
 by_cases e:p=q
 ·subst e; exact Int.le_refl _
 ·exact x72 κ (l.length - 1) 1 l (Nat.le_refl _) (by omega) (fun p q h1 h2=>by omega) p q (by omega) (by omega)
theorem x68 (κ:Int→Int) (l:List Int):(z4u κ l).Pairwise fun a b=>κ a≤κ b:=by
 rw [List.pairwise_iff_getElem]
 intro i j hi hj hij
 have:=y67 κ l i j (by omega) (by rw [z69] at hj; exact hj)
 simpa [gI,List.getD_eq_getElem?_getD,hi,hj] using this
end Go.Am.T11
end
noncomputable section
namespace Go.Am
def x1g:Ctr:=
 ⟨93,[.full 0 1, .int .i64, .int .i64],[.row [ci]],[]⟩
def v3p:Prim→Tup (x1g).scs→Option (STup (scss (x1g).outs)):=
 fun _ _=>none
theorem x5h:z2i Go.Proofs.Try.prog 93:=enters_auto (b:=_) rfl (by kernel_rfl)
theorem w8k:CtrOk Go.Proofs.Try.prog x1g (v3p std):=⟨x5h,fun x y h=>by cases h⟩
def x1e:Ctr:=
 ⟨94,[.full 0 1, .int .i64, .int .i64],[.row [ci]],[]⟩
def v3n:Prim→Tup (x1e).scs→Option (STup (scss (x1e).outs)):=
 fun _ _=>none
theorem x5f:z2i Go.Proofs.Try.prog 94:=enters_auto (b:=_) rfl (by kernel_rfl)
theorem w8i:CtrOk Go.Proofs.Try.prog x1e (v3n std):=⟨x5f,fun x y h=>by cases h⟩
def x1c:Ctr:=
 ⟨95,[.full 0 1, .int .i64, .int .i64],[.row [ci]],[]⟩
def v3l:Prim→Tup (x1c).scs→Option (STup (scss (x1c).outs)):=
 fun _ _=>none
theorem x5d:z2i Go.Proofs.Try.prog 95:=enters_auto (b:=_) rfl (by kernel_rfl)
theorem w8g:CtrOk Go.Proofs.Try.prog x1c (v3l std):=⟨x5d,fun x y h=>by cases h⟩
def w0f:Ctr:=
 ⟨92,[.full 0 1, .int .i64, .int .i64],[.row [ci]],[(.ret,⟨[(0, .tuple [])],[.row [ci]],1⟩)]⟩
def w9i:List LA:=
 [⟨92,[false,true],1,⟨⟨[(0, .full 0 1),(1, .int .i64),(2, .int .i64),(6, .int .i64)],[.row [ci]],49⟩,[((AX.exit 0),⟨[],[.row [ci]],49⟩)]⟩⟩,
 ⟨92,[false,true,false,false,true,false,false,true],1,⟨⟨[(0, .full 0 1),(1, .int .i64),(2, .int .i64),(6, .int .i64),(7, .int .i64)],[.row [ci]],49⟩,[((AX.exit 2),⟨[(0, .full 0 1),(1, .int .i64),(2, .int .i64),(6, .int .i64)],[.row [ci]],49⟩)]⟩⟩]
def w9u:List JA:=
 []
def w46:List CF:=
 [⟨w21,G98⟩]
def v2a:Anns:=
 ⟨w46,w9u,[]⟩
def w6s (p:Prim):(LD×T6)→Option ((LD×T6)⊕(LD×T4)):=
 fun a=>opt.run _ (
 opt.ask _ (p.cmp .gtr a.2.2.2.2.1 a.2.1) (
 opt.need _ (bif (p.cmp .geq a.2.2.2.2.1 (0:Int)) then (p.cmp .lss a.2.2.2.2.1 (p.ofNat (p.len a.1))) else Bool.false)<|
 opt.need _ (p.rowOk a.1 (p.add 0 (p.nat a.2.2.2.2.1)) [ci])<|
 opt.need _ (bif (p.cmp .geq (p.ar .sub .i64 a.2.2.2.2.1 (1:Int)) (0:Int)) then (p.cmp .lss (p.ar .sub .i64 a.2.2.2.2.1 (1:Int)) (p.ofNat (p.len a.1))) else Bool.false)<|
 opt.need _ (p.rowOk a.1 (p.add 0 (p.nat (p.ar .sub .i64 a.2.2.2.2.1 (1:Int)))) [ci])<|
 opt.bnd T0 _ (G98 p ((p.rdI a.1 (p.add 0 (p.nat a.2.2.2.2.1)) 0),((p.rdI a.1 (p.add 0 (p.nat (p.ar .sub .i64 a.2.2.2.2.1 (1:Int)))) 0),()))) fun b=>
 opt.ask _ b.1 (
 opt.need _ (bif (p.cmp .geq (p.ar .sub .i64 a.2.2.2.2.1 (1:Int)) (0:Int)) then (p.cmp .lss (p.ar .sub .i64 a.2.2.2.2.1 (1:Int)) (p.ofNat (p.len a.1))) else Bool.false)<|
 opt.need _ (p.rowOk a.1 (p.add 0 (p.nat (p.ar .sub .i64 a.2.2.2.2.1 (1:Int)))) [ci])<|
 opt.need _ (bif (p.cmp .geq a.2.2.2.2.1 (0:Int)) then (p.cmp .lss a.2.2.2.2.1 (p.ofNat (p.len a.1))) else Bool.false)<|
 opt.need _ (p.rowOk a.1 (p.add 0 (p.nat a.2.2.2.2.1)) [ci])<|
 opt.need _ (bif (p.cmp .geq a.2.2.2.2.1 (0:Int)) then (p.cmp .lss a.2.2.2.2.1 (p.ofNat (p.len a.1))) else Bool.false)<|
 opt.need _ (p.rowOk a.1 (p.add 0 (p.nat a.2.2.2.2.1)) [ci])<|
 opt.need _ (bif (p.cmp .geq (p.ar .sub .i64 a.2.2.2.2.1 (1:Int)) (0:Int)) then (p.cmp .lss (p.ar .sub .i64 a.2.2.2.2.1 (1:Int)) (p.ofNat (p.len a.1))) else Bool.false)<|
 opt.need _ (p.rowOk (p.set a.1 (p.add 0 (p.nat a.2.2.2.2.1)) [(D.int .i64 (p.rdI a.1 (p.add 0 (p.nat (p.ar .sub .i64 a.2.2.2.2.1 (1:Int)))) 0))]) (p.add 0 (p.nat (p.ar .sub .i64 a.2.2.2.2.1 (1:Int)))) [ci])<|
 opt.need _ (p.eqN 0 0)<|
 opt.need _ (p.eqN (p.len a.1) (p.len (p.set (p.set a.1 (p.add 0 (p.nat a.2.2.2.2.1)) [(D.int .i64 (p.rdI a.1 (p.add 0 (p.nat (p.ar .sub .i64 a.2.2.2.2.1 (1:Int)))) 0))]) (p.add 0 (p.nat (p.ar .sub .i64 a.2.2.2.2.1 (1:Int)))) [(D.int .i64 (p.rdI a.1 (p.add 0 (p.nat a.2.2.2.2.1)) 0))])))<|
 opt.need _ (p.eqN (p.len a.1) (p.len (p.set (p.set a.1 (p.add 0 (p.nat a.2.2.2.2.1)) [(D.int .i64 (p.rdI a.1 (p.add 0 (p.nat (p.ar .sub .i64 a.2.2.2.2.1 (1:Int)))) 0))]) (p.add 0 (p.nat (p.ar .sub .i64 a.2.2.2.2.1 (1:Int)))) [(D.int .i64 (p.rdI a.1 (p.add 0 (p.nat a.2.2.2.2.1)) 0))])))<|
 opt.ret _ (Sum.inl ((p.set (p.set a.1 (p.add 0 (p.nat a.2.2.2.2.1)) [(D.int .i64 (p.rdI a.1 (p.add 0 (p.nat (p.ar .sub .i64 a.2.2.2.2.1 (1:Int)))) 0))]) (p.add 0 (p.nat (p.ar .sub .i64 a.2.2.2.2.1 (1:Int)))) [(D.int .i64 (p.rdI a.1 (p.add 0 (p.nat a.2.2.2.2.1)) 0))]),(a.2.1,(a.2.2.1,(a.2.2.2.1,((p.ar .sub .i64 a.2.2.2.2.1 (1:Int)),()))))))) (
 opt.need _ (p.eqN 0 0)<|
 opt.need _ (p.eqN (p.len a.1) (p.len a.1))<|
 opt.need _ (p.eqN (p.len a.1) (p.len a.1))<|
 opt.ret _ (Sum.inr (a.1,(a.2.1,(a.2.2.1,(a.2.2.2.1,()))))))) (
 opt.need _ (p.eqN 0 0)<|
 opt.need _ (p.eqN (p.len a.1) (p.len a.1))<|
 opt.need _ (p.eqN (p.len a.1) (p.len a.1))<|
 opt.ret _ (Sum.inr (a.1,(a.2.1,(a.2.2.1,(a.2.2.2.1,())))))))
def x50 (it:It) (p:Prim):(LD×T4)→Option ((LD×T4)⊕(LD×Unit)):=
 fun a=>opt.run _ (
 opt.ask _ (p.cmp .lss a.2.2.2.1 a.2.2.1) (
 opt.need _ (p.eqN 0 0)<|
 opt.need _ (p.eqN (p.len a.1) (p.len a.1))<|
 opt.need _ (p.eqN (p.len a.1) (p.len a.1))<|
 opt.bnd ((LD×T4)) _ (
 it _ _ (w6s p) (a.1,(a.2.1,(a.2.2.1,(a.2.2.2.1,(a.2.2.2.1,())))))) fun b=>
 opt.need _ (p.eqN 0 0)<|
 opt.need _ (p.eqN (p.len b.1) (p.len b.1))<|
 opt.need _ (p.eqN (p.len b.1) (p.len b.1))<|
 opt.ret _ (Sum.inl (b.1,(b.2.1,(b.2.2.1,((p.ar .add .i64 b.2.2.2.1 (1:Int)),())))))) (
 opt.ret _ (Sum.inr (a.1,()))))
def w70 (it:It):(p:Prim)→(LD×T3)→Option ((LD×Unit)):=
 fun p x=>
 opt.need _ (p.eqN 0 0)<|
 opt.need _ (p.eqN (p.len x.1) (p.len x.1))<|
 opt.need _ (p.eqN (p.len x.1) (p.len x.1))<|
 opt.bnd ((LD×Unit)) _ (
 it _ _ (x50 it p) (x.1,(x.2.1,(x.2.2.1,((p.ar .add .i64 x.2.1 (1:Int)),()))))) fun a=>
 opt.ret _ (a.1,())
def v3d:=w70 it0
theorem w8m:CtrOk PG w0f (v3d std):=okF (a:=v2a) (l:=w9i) (gC v2p (gN)) (by kernel_rfl) fun _ _=>by kernel_rfl
def w0i:Ctr:=
 ⟨82,[.full 0 1, .int .i64, .int .i64, .int .i64],[.row [ci]],[(.ret,⟨[(0, .tuple [])],[.row [ci]],1⟩)]⟩
def w9l:List LA:=
 [⟨82,[false,true,true],1,⟨⟨[(0, .full 0 1),(1, .int .i64),(2, .int .i64),(3, .int .i64),(8, .bool),(9, .bool)],[.row [ci]],134⟩,[(AX.ret,⟨[],[.row [ci]],134⟩)]⟩⟩]
def w9x:List JA:=
 []
def w49:List CF:=
 [⟨x1c,v3l⟩,⟨x1e,v3n⟩,⟨x1g,v3p⟩,⟨w0f,v3d⟩]
def v2d:Anns:=
 ⟨w49,w9x,[]⟩
def x55 (it:It) (p:Prim):(LD×T20)→Option ((LD×T20)⊕(LD×Unit)):=
 fun a=>opt.run _ (
 opt.ask _ (p.cmp .leq (p.ar .sub .i64 a.2.2.1 a.2.1) (12:Int)) (
 opt.need _ (p.eqN 0 0)<|
 opt.need _ (p.eqN (p.len a.1) (p.len a.1))<|
 opt.need _ (p.eqN (p.len a.1) (p.len a.1))<|
 opt.bnd ((LD×Unit)) _ (w70 it p (a.1,(a.2.1,(a.2.2.1,())))) fun b=>
 opt.ret _ (Sum.inr (b.1,()))) (
 opt.ask _ (p.cmp .eql a.2.2.2.1 (0:Int)) (
 opt.need _ (p.eqN 0 0)<|
 opt.need _ (p.eqN (p.len a.1) (p.len a.1))<|
 opt.need _ (p.eqN (p.len a.1) (p.len a.1))<|
 opt.no _ 81) (
 opt.ask _ (bif a.2.2.2.2.1 then Bool.false else Bool.true) (
 opt.need _ (p.eqN 0 0)<|
 opt.need _ (p.eqN (p.len a.1) (p.len a.1))<|
 opt.need _ (p.eqN (p.len a.1) (p.len a.1))<|
 opt.no _ 81) (
 opt.need _ (p.eqN 0 0)<|
 opt.need _ (p.eqN (p.len a.1) (p.len a.1))<|
 opt.need _ (p.eqN (p.len a.1) (p.len a.1))<|
 opt.no _ 81))))
def w72 (it:It):(p:Prim)→(LD×T4)→Option ((LD×Unit)):=
 fun p x=>
 opt.need _ (p.eqN 0 0)<|
 opt.need _ (p.eqN (p.len x.1) (p.len x.1))<|
 opt.need _ (p.eqN (p.len x.1) (p.len x.1))<|
 opt.bnd ((LD×Unit)) _ (
 it _ _ (x55 it p) (x.1,(x.2.1,(x.2.2.1,(x.2.2.2.1,(Bool.true,(Bool.true,()))))))) fun a=>
 opt.ret _ (a.1,())
def v3g:=w72 it0
theorem w8p:CtrOk PG w0i (v3g std):=okF (a:=v2d) (l:=w9l) (gC w8g (gC w8i (gC w8k (gC w8m (gN))))) (by kernel_rfl) fun _ _=>by kernel_rfl
def w0l:Ctr:=
 ⟨55,[.full 0 1],[.row [ci]],[(.ret,⟨[(0, .tuple [])],[.row [ci]],1⟩)]⟩
def w9o:List LA:=
 []
def w90:List JA:=
 []
def w5c:List CF:=
 [⟨w0i,v3g⟩,⟨w22,G83⟩]
def v2g:Anns:=
 ⟨w5c,w90,[]⟩
def w5h (it:It):(p:Prim)→(LD×Unit)→Option ((LD×Unit)):=
 fun p x=>
 opt.bnd T2 _ (G83 p ((p.cvt .u64 (p.ofNat (p.len x.1))),())) fun a=>
 opt.need _ (p.eqN 0 0)<|
 opt.need _ (p.eqN (p.len x.1) (p.len x.1))<|
 opt.need _ (p.eqN (p.len x.1) (p.len x.1))<|
 opt.bnd ((LD×Unit)) _ (w72 it p (x.1,((0:Int),((p.ofNat (p.len x.1)),(a.1,()))))) fun b=>
 opt.ret _ (b.1,())
def v3i:=w5h it0
theorem w8u:CtrOk PG w0l (v3i std):=okF (a:=v2g) (l:=w9o) (gC w8p (gC v2q (gN))) (by kernel_rfl) fun _ _=>by kernel_rfl
end Go.Am
end
noncomputable section
namespace Go.Am
def x1f:Ctr:=
 ⟨93,[.vec 0 1, .int .i64, .int .i64],[.row [ci]],[]⟩
def v3o:Prim→Tup (x1f).scs→Option (STup (scss (x1f).outs)):=
 fun _ _=>none
theorem x5g:z2i Go.Proofs.Try.prog 93:=enters_auto (b:=_) rfl (by kernel_rfl)
theorem w8j:CtrOk Go.Proofs.Try.prog x1f (v3o std):=⟨x5g,fun x y h=>by cases h⟩
def x1d:Ctr:=
 ⟨94,[.vec 0 1, .int .i64, .int .i64],[.row [ci]],[]⟩
def v3m:Prim→Tup (x1d).scs→Option (STup (scss (x1d).outs)):=
 fun _ _=>none
theorem x5e:z2i Go.Proofs.Try.prog 94:=enters_auto (b:=_) rfl (by kernel_rfl)
theorem w8h:CtrOk Go.Proofs.Try.prog x1d (v3m std):=⟨x5e,fun x y h=>by cases h⟩
def x1b:Ctr:=
 ⟨95,[.vec 0 1, .int .i64, .int .i64],[.row [ci]],[]⟩
def v3k:Prim→Tup (x1b).scs→Option (STup (scss (x1b).outs)):=
 fun _ _=>none
theorem x5c:z2i Go.Proofs.Try.prog 95:=enters_auto (b:=_) rfl (by kernel_rfl)
theorem w8f:CtrOk Go.Proofs.Try.prog x1b (v3k std):=⟨x5c,fun x y h=>by cases h⟩
def w0e:Ctr:=
 ⟨92,[.vec 0 1, .int .i64, .int .i64],[.row [ci]],[(.ret,⟨[(0, .tuple [])],[.row [ci]],1⟩)]⟩
def w9h:List LA:=
 [⟨92,[false,true],1,⟨⟨[(0, .vec 0 1),(1, .int .i64),(2, .int .i64),(6, .int .i64)],[.row [ci]],49⟩,[((AX.exit 0),⟨[],[.row [ci]],49⟩)]⟩⟩,
 ⟨92,[false,true,false,false,true,false,false,true],1,⟨⟨[(0, .vec 0 1),(1, .int .i64),(2, .int .i64),(6, .int .i64),(7, .int .i64)],[.row [ci]],49⟩,[((AX.exit 2),⟨[(0, .vec 0 1),(1, .int .i64),(2, .int .i64),(6, .int .i64)],[.row [ci]],49⟩)]⟩⟩]
def w9t:List JA:=
 []
def w45:List CF:=
 [⟨w21,G98⟩]
def v19:Anns:=
 ⟨w45,w9t,[]⟩
def z9w (p:Prim):(LD×T6)→Option ((LD×T6)⊕(LD×T4)):=
 fun a=>opt.run _ (
 opt.ask _ (p.cmp .gtr a.2.2.2.2.1 a.2.1) (
 opt.need _ (bif (p.cmp .geq a.2.2.2.2.1 (0:Int)) then (p.cmp .lss a.2.2.2.2.1 (p.ofNat (p.len a.1))) else Bool.false)<|
 opt.need _ (p.rowOk a.1 (p.add 0 (p.nat a.2.2.2.2.1)) [ci])<|
 opt.need _ (bif (p.cmp .geq (p.ar .sub .i64 a.2.2.2.2.1 (1:Int)) (0:Int)) then (p.cmp .lss (p.ar .sub .i64 a.2.2.2.2.1 (1:Int)) (p.ofNat (p.len a.1))) else Bool.false)<|
 opt.need _ (p.rowOk a.1 (p.add 0 (p.nat (p.ar .sub .i64 a.2.2.2.2.1 (1:Int)))) [ci])<|
 opt.bnd T0 _ (G98 p ((p.rdI a.1 (p.add 0 (p.nat a.2.2.2.2.1)) 0),((p.rdI a.1 (p.add 0 (p.nat (p.ar .sub .i64 a.2.2.2.2.1 (1:Int)))) 0),()))) fun b=>
 opt.ask _ b.1 (
 opt.need _ (bif (p.cmp .geq (p.ar .sub .i64 a.2.2.2.2.1 (1:Int)) (0:Int)) then (p.cmp .lss (p.ar .sub .i64 a.2.2.2.2.1 (1:Int)) (p.ofNat (p.len a.1))) else Bool.false)<|
 opt.need _ (p.rowOk a.1 (p.add 0 (p.nat (p.ar .sub .i64 a.2.2.2.2.1 (1:Int)))) [ci])<|
 opt.need _ (bif (p.cmp .geq a.2.2.2.2.1 (0:Int)) then (p.cmp .lss a.2.2.2.2.1 (p.ofNat (p.len a.1))) else Bool.false)<|
 opt.need _ (p.rowOk a.1 (p.add 0 (p.nat a.2.2.2.2.1)) [ci])<|
 opt.need _ (bif (p.cmp .geq a.2.2.2.2.1 (0:Int)) then (p.cmp .lss a.2.2.2.2.1 (p.ofNat (p.len a.1))) else Bool.false)<|
 opt.need _ (p.rowOk a.1 (p.add 0 (p.nat a.2.2.2.2.1)) [ci])<|
 opt.need _ (bif (p.cmp .geq (p.ar .sub .i64 a.2.2.2.2.1 (1:Int)) (0:Int)) then (p.cmp .lss (p.ar .sub .i64 a.2.2.2.2.1 (1:Int)) (p.ofNat (p.len a.1))) else Bool.false)<|
 opt.need _ (p.rowOk (p.set a.1 (p.add 0 (p.nat a.2.2.2.2.1)) [(D.int .i64 (p.rdI a.1 (p.add 0 (p.nat (p.ar .sub .i64 a.2.2.2.2.1 (1:Int)))) 0))]) (p.add 0 (p.nat (p.ar .sub .i64 a.2.2.2.2.1 (1:Int)))) [ci])<|
 opt.need _ (p.eqN 0 0)<|
 opt.need _ (p.eqN (p.len a.1) (p.len (p.set (p.set a.1 (p.add 0 (p.nat a.2.2.2.2.1)) [(D.int .i64 (p.rdI a.1 (p.add 0 (p.nat (p.ar .sub .i64 a.2.2.2.2.1 (1:Int)))) 0))]) (p.add 0 (p.nat (p.ar .sub .i64 a.2.2.2.2.1 (1:Int)))) [(D.int .i64 (p.rdI a.1 (p.add 0 (p.nat a.2.2.2.2.1)) 0))])))<|
 opt.ret _ (Sum.inl ((p.set (p.set a.1 (p.add 0 (p.nat a.2.2.2.2.1)) [(D.int .i64 (p.rdI a.1 (p.add 0 (p.nat (p.ar .sub .i64 a.2.2.2.2.1 (1:Int)))) 0))]) (p.add 0 (p.nat (p.ar .sub .i64 a.2.2.2.2.1 (1:Int)))) [(D.int .i64 (p.rdI a.1 (p.add 0 (p.nat a.2.2.2.2.1)) 0))]),(a.2.1,(a.2.2.1,(a.2.2.2.1,((p.ar .sub .i64 a.2.2.2.2.1 (1:Int)),()))))))) (
 opt.need _ (p.eqN 0 0)<|
 opt.need _ (p.eqN (p.len a.1) (p.len a.1))<|
 opt.ret _ (Sum.inr (a.1,(a.2.1,(a.2.2.1,(a.2.2.2.1,()))))))) (
 opt.need _ (p.eqN 0 0)<|
 opt.need _ (p.eqN (p.len a.1) (p.len a.1))<|
 opt.ret _ (Sum.inr (a.1,(a.2.1,(a.2.2.1,(a.2.2.2.1,())))))))
def z64 (it:It) (p:Prim):(LD×T4)→Option ((LD×T4)⊕(LD×Unit)):=
 fun a=>opt.run _ (
 opt.ask _ (p.cmp .lss a.2.2.2.1 a.2.2.1) (
 opt.need _ (p.eqN 0 0)<|
 opt.need _ (p.eqN (p.len a.1) (p.len a.1))<|
 opt.bnd ((LD×T4)) _ (
 it _ _ (z9w p) (a.1,(a.2.1,(a.2.2.1,(a.2.2.2.1,(a.2.2.2.1,())))))) fun b=>
 opt.need _ (p.eqN 0 0)<|
 opt.need _ (p.eqN (p.len b.1) (p.len b.1))<|
 opt.ret _ (Sum.inl (b.1,(b.2.1,(b.2.2.1,((p.ar .add .i64 b.2.2.2.1 (1:Int)),())))))) (
 opt.ret _ (Sum.inr (a.1,()))))
def w2k (it:It):(p:Prim)→(LD×T3)→Option ((LD×Unit)):=
 fun p x=>
 opt.need _ (p.eqN 0 0)<|
 opt.need _ (p.eqN (p.len x.1) (p.len x.1))<|
 opt.bnd ((LD×Unit)) _ (
 it _ _ (z64 it p) (x.1,(x.2.1,(x.2.2.1,((p.ar .add .i64 x.2.1 (1:Int)),()))))) fun a=>
 opt.ret _ (a.1,())
def v3c:=w2k it0
theorem w8l:CtrOk PG w0e (v3c std):=okF (a:=v19) (l:=w9h) (gC v2p (gN)) (by kernel_rfl) fun _ _=>by kernel_rfl
def w0h:Ctr:=
 ⟨82,[.vec 0 1, .int .i64, .int .i64, .int .i64],[.row [ci]],[(.ret,⟨[(0, .tuple [])],[.row [ci]],1⟩)]⟩
def w9k:List LA:=
 [⟨82,[false,true,true],1,⟨⟨[(0, .vec 0 1),(1, .int .i64),(2, .int .i64),(3, .int .i64),(8, .bool),(9, .bool)],[.row [ci]],134⟩,[(AX.ret,⟨[],[.row [ci]],134⟩)]⟩⟩]
def w9w:List JA:=
 []
def w48:List CF:=
 [⟨x1b,v3k⟩,⟨x1d,v3m⟩,⟨x1f,v3o⟩,⟨w0e,v3c⟩]
def v2c:Anns:=
 ⟨w48,w9w,[]⟩
def y79 (it:It) (p:Prim):(LD×T20)→Option ((LD×T20)⊕(LD×Unit)):=
 fun a=>opt.run _ (
 opt.ask _ (p.cmp .leq (p.ar .sub .i64 a.2.2.1 a.2.1) (12:Int)) (
 opt.need _ (p.eqN 0 0)<|
 opt.need _ (p.eqN (p.len a.1) (p.len a.1))<|
 opt.bnd ((LD×Unit)) _ (w2k it p (a.1,(a.2.1,(a.2.2.1,())))) fun b=>
 opt.ret _ (Sum.inr (b.1,()))) (
 opt.ask _ (p.cmp .eql a.2.2.2.1 (0:Int)) (
 opt.need _ (p.eqN 0 0)<|
 opt.need _ (p.eqN (p.len a.1) (p.len a.1))<|
 opt.no _ 81) (
 opt.ask _ (bif a.2.2.2.2.1 then Bool.false else Bool.true) (
 opt.need _ (p.eqN 0 0)<|
 opt.need _ (p.eqN (p.len a.1) (p.len a.1))<|
 opt.no _ 81) (
 opt.need _ (p.eqN 0 0)<|
 opt.need _ (p.eqN (p.len a.1) (p.len a.1))<|
 opt.no _ 81))))
def w5f (it:It):(p:Prim)→(LD×T4)→Option ((LD×Unit)):=
 fun p x=>
 opt.need _ (p.eqN 0 0)<|
 opt.need _ (p.eqN (p.len x.1) (p.len x.1))<|
 opt.bnd ((LD×Unit)) _ (
 it _ _ (y79 it p) (x.1,(x.2.1,(x.2.2.1,(x.2.2.2.1,(Bool.true,(Bool.true,()))))))) fun a=>
 opt.ret _ (a.1,())
def v3f:=w5f it0
theorem w8o:CtrOk PG w0h (v3f std):=okF (a:=v2c) (l:=w9k) (gC w8f (gC w8h (gC w8j (gC w8l (gN))))) (by kernel_rfl) fun _ _=>by kernel_rfl
def w0k:Ctr:=
 ⟨55,[.vec 0 1],[.row [ci]],[(.ret,⟨[(0, .tuple [])],[.row [ci]],1⟩)]⟩
def w9n:List LA:=
 []
def w9z:List JA:=
 []
def w5b:List CF:=
 [⟨w0h,v3f⟩,⟨w22,G83⟩]
def v2f:Anns:=
 ⟨w5b,w9z,[]⟩
def w3w (it:It):(p:Prim)→(LD×Unit)→Option ((LD×Unit)):=
 fun p x=>
 opt.bnd T2 _ (G83 p ((p.cvt .u64 (p.ofNat (p.len x.1))),())) fun a=>
 opt.need _ (p.eqN 0 0)<|
 opt.need _ (p.eqN (p.len x.1) (p.len x.1))<|
 opt.bnd ((LD×Unit)) _ (w5f it p (x.1,((0:Int),((p.ofNat (p.len x.1)),(a.1,()))))) fun b=>
 opt.ret _ (b.1,())
def w76:=w3w it0
theorem w8t:CtrOk PG w0k (w76 std):=okF (a:=v2f) (l:=w9n) (gC w8o (gC v2q (gN))) (by kernel_rfl) fun _ _=>by kernel_rfl
end Go.Am
end
noncomputable section
namespace Go.Am
def x1h:Ctr:=
 ⟨105,[.vec 0 1, .int .i64, .int .i64, .int .i64, .clo 88 [] [.bptr 1 0]],[.row [ci], .box [.list 1]],[]⟩
def v3q:Prim→Tup (x1h).scs→Option (STup (scss (x1h).outs)):=
 fun _ _=>none
theorem x5i:z2i Go.Proofs.Try.prog 105:=enters_auto (b:=_) rfl (by kernel_rfl)
theorem w8x:CtrOk Go.Proofs.Try.prog x1h (v3q std):=⟨x5i,fun x y h=>by cases h⟩
def w0m:Ctr:=
 ⟨104,[.vec 0 1, .int .i64, .int .i64, .clo 88 [] [.bptr 1 0]],[.row [ci], .box [.list 1]],[(.ret,⟨[(0, .tuple [])],[.row [ci], .box [.list 1]],1⟩)]⟩
def w9p:List LA:=
 [⟨104,[false,true],2,⟨⟨[(0, .vec 0 1),(1, .int .i64),(2, .int .i64),(3, .clo 88 [] [.bptr 1 0]),(8, .int .i64)],[.row [ci], .box [.list 1]],53⟩,[((AX.exit 0),⟨[],[.row [ci], .box [.list 1]],53⟩)]⟩⟩,
 ⟨104,[false,true,false,false,true,false,false,true],2,⟨⟨[(0, .vec 0 1),(1, .int .i64),(2, .int .i64),(3, .clo 88 [] [.bptr 1 0]),(8, .int .i64),(9, .int .i64)],[.row [ci], .box [.list 1]],53⟩,[((AX.exit 2),⟨[(0, .vec 0 1),(1, .int .i64),(2, .int .i64),(3, .clo 88 [] [.bptr 1 0]),(8, .int .i64)],[.row [ci], .box [.list 1]],53⟩)]⟩⟩]
def w91:List JA:=
 [⟨68,[true,false,true,true,true],2,[(AX.ret,⟨[(4, .int .i64)],[.row [ci], .box [.list 1]],20⟩),(AX.normal,⟨[(0, .int .i64),(1, .int .i64),(6, .bool)],[.row [ci], .box [.list 1]],20⟩)]⟩]
def w5d:List CF:=
 []
def v2h:Anns:=
 ⟨w5d,w91,[]⟩
def z8i (p:Prim):(LD×(LD×T6))→Option ((LD×(LD×T6))⊕(LD×(LD×T4))):=
 fun a=>opt.run _ (
 opt.ask _ (p.cmp .gtr a.2.2.2.2.2.1 a.2.2.1) (
 opt.need _ (bif (p.cmp .geq a.2.2.2.2.2.1 (0:Int)) then (p.cmp .lss a.2.2.2.2.2.1 (p.ofNat (p.len a.1))) else Bool.false)<|
 opt.need _ (p.rowOk a.1 (p.add 0 (p.nat a.2.2.2.2.2.1)) [ci])<|
 opt.need _ (bif (p.cmp .geq (p.ar .sub .i64 a.2.2.2.2.2.1 (1:Int)) (0:Int)) then (p.cmp .lss (p.ar .sub .i64 a.2.2.2.2.2.1 (1:Int)) (p.ofNat (p.len a.1))) else Bool.false)<|
 opt.need _ (p.rowOk a.1 (p.add 0 (p.nat (p.ar .sub .i64 a.2.2.2.2.2.1 (1:Int)))) [ci])<|
 opt.need _ (p.rowOk a.2.1 (p.nat (p.rdI a.1 (p.add 0 (p.nat a.2.2.2.2.2.1)) 0)) [ci])<|
 opt.need _ (p.cmp .geq (p.rdI a.1 (p.add 0 (p.nat a.2.2.2.2.2.1)) 0) (0:Int))<|
 opt.need _ (p.rowOk a.2.1 (p.nat (p.rdI a.1 (p.add 0 (p.nat (p.ar .sub .i64 a.2.2.2.2.2.1 (1:Int)))) 0)) [ci])<|
 opt.need _ (p.cmp .geq (p.rdI a.1 (p.add 0 (p.nat (p.ar .sub .i64 a.2.2.2.2.2.1 (1:Int)))) 0) (0:Int))<|
 opt.alt ((LD×(LD×T1))) ((LD×(LD×T16))) _ (
 opt.run (((LD×(LD×T1))⊕(LD×(LD×T16)))) (
 opt.ask _ (p.cmp .neq (p.rdI a.2.1 (p.nat (p.rdI a.1 (p.add 0 (p.nat a.2.2.2.2.2.1)) 0)) 0) (p.rdI a.2.1 (p.nat (p.rdI a.1 (p.add 0 (p.nat a.2.2.2.2.2.1)) 0)) 0)) (
 opt.ask _ (p.cmp .neq (p.rdI a.2.1 (p.nat (p.rdI a.1 (p.add 0 (p.nat (p.ar .sub .i64 a.2.2.2.2.2.1 (1:Int)))) 0)) 0) (p.rdI a.2.1 (p.nat (p.rdI a.1 (p.add 0 (p.nat (p.ar .sub .i64 a.2.2.2.2.2.1 (1:Int)))) 0)) 0)) (
 opt.ret _ (Sum.inl (a.1,(a.2.1,((0:Int),()))))) (
 opt.ret _ (Sum.inl (a.1,(a.2.1,((-1:Int),())))))) (
 opt.ret _ (Sum.inr (a.1,(a.2.1,((p.rdI a.2.1 (p.nat (p.rdI a.1 (p.add 0 (p.nat a.2.2.2.2.2.1)) 0)) 0),((p.rdI a.2.1 (p.nat (p.rdI a.1 (p.add 0 (p.nat (p.ar .sub .i64 a.2.2.2.2.2.1 (1:Int)))) 0)) 0),((p.cmp .neq (p.rdI a.2.1 (p.nat (p.rdI a.1 (p.add 0 (p.nat (p.ar .sub .i64 a.2.2.2.2.2.1 (1:Int)))) 0)) 0) (p.rdI a.2.1 (p.nat (p.rdI a.1 (p.add 0 (p.nat (p.ar .sub .i64 a.2.2.2.2.2.1 (1:Int)))) 0)) 0)),()))))))))) (fun b=>
 opt.ask _ (p.cmp .lss b.2.2.1 (0:Int)) (
 opt.need _ (bif (p.cmp .geq (p.ar .sub .i64 a.2.2.2.2.2.1 (1:Int)) (0:Int)) then (p.cmp .lss (p.ar .sub .i64 a.2.2.2.2.2.1 (1:Int)) (p.ofNat (p.len a.1))) else Bool.false)<|
 opt.need _ (p.rowOk b.1 (p.add 0 (p.nat (p.ar .sub .i64 a.2.2.2.2.2.1 (1:Int)))) [ci])<|
 opt.need _ (bif (p.cmp .geq a.2.2.2.2.2.1 (0:Int)) then (p.cmp .lss a.2.2.2.2.2.1 (p.ofNat (p.len a.1))) else Bool.false)<|
 opt.need _ (p.rowOk b.1 (p.add 0 (p.nat a.2.2.2.2.2.1)) [ci])<|
 opt.need _ (bif (p.cmp .geq a.2.2.2.2.2.1 (0:Int)) then (p.cmp .lss a.2.2.2.2.2.1 (p.ofNat (p.len a.1))) else Bool.false)<|
 opt.need _ (p.rowOk b.1 (p.add 0 (p.nat a.2.2.2.2.2.1)) [ci])<|
 opt.need _ (bif (p.cmp .geq (p.ar .sub .i64 a.2.2.2.2.2.1 (1:Int)) (0:Int)) then (p.cmp .lss (p.ar .sub .i64 a.2.2.2.2.2.1 (1:Int)) (p.ofNat (p.len a.1))) else Bool.false)<|
 opt.need _ (p.rowOk (p.set b.1 (p.add 0 (p.nat a.2.2.2.2.2.1)) [(D.int .i64 (p.rdI b.1 (p.add 0 (p.nat (p.ar .sub .i64 a.2.2.2.2.2.1 (1:Int)))) 0))]) (p.add 0 (p.nat (p.ar .sub .i64 a.2.2.2.2.2.1 (1:Int)))) [ci])<|
 opt.need _ (p.eqN 0 0)<|
 opt.need _ (p.eqN (p.len a.1) (p.len (p.set (p.set b.1 (p.add 0 (p.nat a.2.2.2.2.2.1)) [(D.int .i64 (p.rdI b.1 (p.add 0 (p.nat (p.ar .sub .i64 a.2.2.2.2.2.1 (1:Int)))) 0))]) (p.add 0 (p.nat (p.ar .sub .i64 a.2.2.2.2.2.1 (1:Int)))) [(D.int .i64 (p.rdI b.1 (p.add 0 (p.nat a.2.2.2.2.2.1)) 0))])))<|
 opt.ret _ (Sum.inl ((p.set (p.set b.1 (p.add 0 (p.nat a.2.2.2.2.2.1)) [(D.int .i64 (p.rdI b.1 (p.add 0 (p.nat (p.ar .sub .i64 a.2.2.2.2.2.1 (1:Int)))) 0))]) (p.add 0 (p.nat (p.ar .sub .i64 a.2.2.2.2.2.1 (1:Int)))) [(D.int .i64 (p.rdI b.1 (p.add 0 (p.nat a.2.2.2.2.2.1)) 0))]),(b.2.1,(a.2.2.1,(a.2.2.2.1,(a.2.2.2.2.1,((p.ar .sub .i64 a.2.2.2.2.2.1 (1:Int)),())))))))) (
 opt.need _ (p.eqN 0 0)<|
 opt.need _ (p.eqN (p.len a.1) (p.len b.1))<|
 opt.ret _ (Sum.inr (b.1,(b.2.1,(a.2.2.1,(a.2.2.2.1,(a.2.2.2.2.1,())))))))) (fun c=>
 opt.bnd ((LD×(LD×T16))) _ (some c) fun d=>
 opt.ask _ d.2.2.2.2.1 (
 opt.ask _ (p.cmp .lss (1:Int) (0:Int)) (
 opt.need _ (bif (p.cmp .geq (p.ar .sub .i64 a.2.2.2.2.2.1 (1:Int)) (0:Int)) then (p.cmp .lss (p.ar .sub .i64 a.2.2.2.2.2.1 (1:Int)) (p.ofNat (p.len a.1))) else Bool.false)<|
 opt.need _ (p.rowOk d.1 (p.add 0 (p.nat (p.ar .sub .i64 a.2.2.2.2.2.1 (1:Int)))) [ci])<|
 opt.need _ (bif (p.cmp .geq a.2.2.2.2.2.1 (0:Int)) then (p.cmp .lss a.2.2.2.2.2.1 (p.ofNat (p.len a.1))) else Bool.false)<|
 opt.need _ (p.rowOk d.1 (p.add 0 (p.nat a.2.2.2.2.2.1)) [ci])<|
 opt.need _ (bif (p.cmp .geq a.2.2.2.2.2.1 (0:Int)) then (p.cmp .lss a.2.2.2.2.2.1 (p.ofNat (p.len a.1))) else Bool.false)<|
 opt.need _ (p.rowOk d.1 (p.add 0 (p.nat a.2.2.2.2.2.1)) [ci])<|
 opt.need _ (bif (p.cmp .geq (p.ar .sub .i64 a.2.2.2.2.2.1 (1:Int)) (0:Int)) then (p.cmp .lss (p.ar .sub .i64 a.2.2.2.2.2.1 (1:Int)) (p.ofNat (p.len a.1))) else Bool.false)<|
 opt.need _ (p.rowOk (p.set d.1 (p.add 0 (p.nat a.2.2.2.2.2.1)) [(D.int .i64 (p.rdI d.1 (p.add 0 (p.nat (p.ar .sub .i64 a.2.2.2.2.2.1 (1:Int)))) 0))]) (p.add 0 (p.nat (p.ar .sub .i64 a.2.2.2.2.2.1 (1:Int)))) [ci])<|
 opt.need _ (p.eqN 0 0)<|
 opt.need _ (p.eqN (p.len a.1) (p.len (p.set (p.set d.1 (p.add 0 (p.nat a.2.2.2.2.2.1)) [(D.int .i64 (p.rdI d.1 (p.add 0 (p.nat (p.ar .sub .i64 a.2.2.2.2.2.1 (1:Int)))) 0))]) (p.add 0 (p.nat (p.ar .sub .i64 a.2.2.2.2.2.1 (1:Int)))) [(D.int .i64 (p.rdI d.1 (p.add 0 (p.nat a.2.2.2.2.2.1)) 0))])))<|
 opt.ret _ (Sum.inl ((p.set (p.set d.1 (p.add 0 (p.nat a.2.2.2.2.2.1)) [(D.int .i64 (p.rdI d.1 (p.add 0 (p.nat (p.ar .sub .i64 a.2.2.2.2.2.1 (1:Int)))) 0))]) (p.add 0 (p.nat (p.ar .sub .i64 a.2.2.2.2.2.1 (1:Int)))) [(D.int .i64 (p.rdI d.1 (p.add 0 (p.nat a.2.2.2.2.2.1)) 0))]),(d.2.1,(a.2.2.1,(a.2.2.2.1,(a.2.2.2.2.1,((p.ar .sub .i64 a.2.2.2.2.2.1 (1:Int)),())))))))) (
 opt.need _ (p.eqN 0 0)<|
 opt.need _ (p.eqN (p.len a.1) (p.len d.1))<|
 opt.ret _ (Sum.inr (d.1,(d.2.1,(a.2.2.1,(a.2.2.2.1,(a.2.2.2.2.1,())))))))) (
 opt.ask _ (p.cmp .lss d.2.2.1 d.2.2.2.1) (
 opt.ask _ (p.cmp .lss (-1:Int) (0:Int)) (
 opt.need _ (bif (p.cmp .geq (p.ar .sub .i64 a.2.2.2.2.2.1 (1:Int)) (0:Int)) then (p.cmp .lss (p.ar .sub .i64 a.2.2.2.2.2.1 (1:Int)) (p.ofNat (p.len a.1))) else Bool.false)<|
 opt.need _ (p.rowOk d.1 (p.add 0 (p.nat (p.ar .sub .i64 a.2.2.2.2.2.1 (1:Int)))) [ci])<|
 opt.need _ (bif (p.cmp .geq a.2.2.2.2.2.1 (0:Int)) then (p.cmp .lss a.2.2.2.2.2.1 (p.ofNat (p.len a.1))) else Bool.false)<|
 opt.need _ (p.rowOk d.1 (p.add 0 (p.nat a.2.2.2.2.2.1)) [ci])<|
 opt.need _ (bif (p.cmp .geq a.2.2.2.2.2.1 (0:Int)) then (p.cmp .lss a.2.2.2.2.2.1 (p.ofNat (p.len a.1))) else Bool.false)<|
 opt.need _ (p.rowOk d.1 (p.add 0 (p.nat a.2.2.2.2.2.1)) [ci])<|
 opt.need _ (bif (p.cmp .geq (p.ar .sub .i64 a.2.2.2.2.2.1 (1:Int)) (0:Int)) then (p.cmp .lss (p.ar .sub .i64 a.2.2.2.2.2.1 (1:Int)) (p.ofNat (p.len a.1))) else Bool.false)<|
 opt.need _ (p.rowOk (p.set d.1 (p.add 0 (p.nat a.2.2.2.2.2.1)) [(D.int .i64 (p.rdI d.1 (p.add 0 (p.nat (p.ar .sub .i64 a.2.2.2.2.2.1 (1:Int)))) 0))]) (p.add 0 (p.nat (p.ar .sub .i64 a.2.2.2.2.2.1 (1:Int)))) [ci])<|
 opt.need _ (p.eqN 0 0)<|
 opt.need _ (p.eqN (p.len a.1) (p.len (p.set (p.set d.1 (p.add 0 (p.nat a.2.2.2.2.2.1)) [(D.int .i64 (p.rdI d.1 (p.add 0 (p.nat (p.ar .sub .i64 a.2.2.2.2.2.1 (1:Int)))) 0))]) (p.add 0 (p.nat (p.ar .sub .i64 a.2.2.2.2.2.1 (1:Int)))) [(D.int .i64 (p.rdI d.1 (p.add 0 (p.nat a.2.2.2.2.2.1)) 0))])))<|
 opt.ret _ (Sum.inl ((p.set (p.set d.1 (p.add 0 (p.nat a.2.2.2.2.2.1)) [(D.int .i64 (p.rdI d.1 (p.add 0 (p.nat (p.ar .sub .i64 a.2.2.2.2.2.1 (1:Int)))) 0))]) (p.add 0 (p.nat (p.ar .sub .i64 a.2.2.2.2.2.1 (1:Int)))) [(D.int .i64 (p.rdI d.1 (p.add 0 (p.nat a.2.2.2.2.2.1)) 0))]),(d.2.1,(a.2.2.1,(a.2.2.2.1,(a.2.2.2.2.1,((p.ar .sub .i64 a.2.2.2.2.2.1 (1:Int)),())))))))) (
 opt.need _ (p.eqN 0 0)<|
 opt.need _ (p.eqN (p.len a.1) (p.len d.1))<|
 opt.ret _ (Sum.inr (d.1,(d.2.1,(a.2.2.1,(a.2.2.2.1,(a.2.2.2.2.1,())))))))) (
 opt.ask _ (p.cmp .gtr d.2.2.1 d.2.2.2.1) (
 opt.ask _ (p.cmp .lss (1:Int) (0:Int)) (
 opt.need _ (bif (p.cmp .geq (p.ar .sub .i64 a.2.2.2.2.2.1 (1:Int)) (0:Int)) then (p.cmp .lss (p.ar .sub .i64 a.2.2.2.2.2.1 (1:Int)) (p.ofNat (p.len a.1))) else Bool.false)<|
 opt.need _ (p.rowOk d.1 (p.add 0 (p.nat (p.ar .sub .i64 a.2.2.2.2.2.1 (1:Int)))) [ci])<|
 opt.need _ (bif (p.cmp .geq a.2.2.2.2.2.1 (0:Int)) then (p.cmp .lss a.2.2.2.2.2.1 (p.ofNat (p.len a.1))) else Bool.false)<|
 opt.need _ (p.rowOk d.1 (p.add 0 (p.nat a.2.2.2.2.2.1)) [ci])<|
 opt.need _ (bif (p.cmp .geq a.2.2.2.2.2.1 (0:Int)) then (p.cmp .lss a.2.2.2.2.2.1 (p.ofNat (p.len a.1))) else Bool.false)<|
 opt.need _ (p.rowOk d.1 (p.add 0 (p.nat a.2.2.2.2.2.1)) [ci])<|
 opt.need _ (bif (p.cmp .geq (p.ar .sub .i64 a.2.2.2.2.2.1 (1:Int)) (0:Int)) then (p.cmp .lss (p.ar .sub .i64 a.2.2.2.2.2.1 (1:Int)) (p.ofNat (p.len a.1))) else Bool.false)<|
 opt.need _ (p.rowOk (p.set d.1 (p.add 0 (p.nat a.2.2.2.2.2.1)) [(D.int .i64 (p.rdI d.1 (p.add 0 (p.nat (p.ar .sub .i64 a.2.2.2.2.2.1 (1:Int)))) 0))]) (p.add 0 (p.nat (p.ar .sub .i64 a.2.2.2.2.2.1 (1:Int)))) [ci])<|
 opt.need _ (p.eqN 0 0)<|
 opt.need _ (p.eqN (p.len a.1) (p.len (p.set (p.set d.1 (p.add 0 (p.nat a.2.2.2.2.2.1)) [(D.int .i64 (p.rdI d.1 (p.add 0 (p.nat (p.ar .sub .i64 a.2.2.2.2.2.1 (1:Int)))) 0))]) (p.add 0 (p.nat (p.ar .sub .i64 a.2.2.2.2.2.1 (1:Int)))) [(D.int .i64 (p.rdI d.1 (p.add 0 (p.nat a.2.2.2.2.2.1)) 0))])))<|
 opt.ret _ (Sum.inl ((p.set (p.set d.1 (p.add 0 (p.nat a.2.2.2.2.2.1)) [(D.int .i64 (p.rdI d.1 (p.add 0 (p.nat (p.ar .sub .i64 a.2.2.2.2.2.1 (1:Int)))) 0))]) (p.add 0 (p.nat (p.ar .sub .i64 a.2.2.2.2.2.1 (1:Int)))) [(D.int .i64 (p.rdI d.1 (p.add 0 (p.nat a.2.2.2.2.2.1)) 0))]),(d.2.1,(a.2.2.1,(a.2.2.2.1,(a.2.2.2.2.1,((p.ar .sub .i64 a.2.2.2.2.2.1 (1:Int)),())))))))) (
 opt.need _ (p.eqN 0 0)<|
 opt.need _ (p.eqN (p.len a.1) (p.len d.1))<|
 opt.ret _ (Sum.inr (d.1,(d.2.1,(a.2.2.1,(a.2.2.2.1,(a.2.2.2.2.1,())))))))) (
 opt.ask _ (p.cmp .lss (0:Int) (0:Int)) (
 opt.need _ (bif (p.cmp .geq (p.ar .sub .i64 a.2.2.2.2.2.1 (1:Int)) (0:Int)) then (p.cmp .lss (p.ar .sub .i64 a.2.2.2.2.2.1 (1:Int)) (p.ofNat (p.len a.1))) else Bool.false)<|
 opt.need _ (p.rowOk d.1 (p.add 0 (p.nat (p.ar .sub .i64 a.2.2.2.2.2.1 (1:Int)))) [ci])<|
 opt.need _ (bif (p.cmp .geq a.2.2.2.2.2.1 (0:Int)) then (p.cmp .lss a.2.2.2.2.2.1 (p.ofNat (p.len a.1))) else Bool.false)<|
 opt.need _ (p.rowOk d.1 (p.add 0 (p.nat a.2.2.2.2.2.1)) [ci])<|
 opt.need _ (bif (p.cmp .geq a.2.2.2.2.2.1 (0:Int)) then (p.cmp .lss a.2.2.2.2.2.1 (p.ofNat (p.len a.1))) else Bool.false)<|
 opt.need _ (p.rowOk d.1 (p.add 0 (p.nat a.2.2.2.2.2.1)) [ci])<|
 opt.need _ (bif (p.cmp .geq (p.ar .sub .i64 a.2.2.2.2.2.1 (1:Int)) (0:Int)) then (p.cmp .lss (p.ar .sub .i64 a.2.2.2.2.2.1 (1:Int)) (p.ofNat (p.len a.1))) else Bool.false)<|
 opt.need _ (p.rowOk (p.set d.1 (p.add 0 (p.nat a.2.2.2.2.2.1)) [(D.int .i64 (p.rdI d.1 (p.add 0 (p.nat (p.ar .sub .i64 a.2.2.2.2.2.1 (1:Int)))) 0))]) (p.add 0 (p.nat (p.ar .sub .i64 a.2.2.2.2.2.1 (1:Int)))) [ci])<|
 opt.need _ (p.eqN 0 0)<|
 opt.need _ (p.eqN (p.len a.1) (p.len (p.set (p.set d.1 (p.add 0 (p.nat a.2.2.2.2.2.1)) [(D.int .i64 (p.rdI d.1 (p.add 0 (p.nat (p.ar .sub .i64 a.2.2.2.2.2.1 (1:Int)))) 0))]) (p.add 0 (p.nat (p.ar .sub .i64 a.2.2.2.2.2.1 (1:Int)))) [(D.int .i64 (p.rdI d.1 (p.add 0 (p.nat a.2.2.2.2.2.1)) 0))])))<|
 opt.ret _ (Sum.inl ((p.set (p.set d.1 (p.add 0 (p.nat a.2.2.2.2.2.1)) [(D.int .i64 (p.rdI d.1 (p.add 0 (p.nat (p.ar .sub .i64 a.2.2.2.2.2.1 (1:Int)))) 0))]) (p.add 0 (p.nat (p.ar .sub .i64 a.2.2.2.2.2.1 (1:Int)))) [(D.int .i64 (p.rdI d.1 (p.add 0 (p.nat a.2.2.2.2.2.1)) 0))]),(d.2.1,(a.2.2.1,(a.2.2.2.1,(a.2.2.2.2.1,((p.ar .sub .i64 a.2.2.2.2.2.1 (1:Int)),())))))))) (
 opt.need _ (p.eqN 0 0)<|
 opt.need _ (p.eqN (p.len a.1) (p.len d.1))<|
 opt.ret _ (Sum.inr (d.1,(d.2.1,(a.2.2.1,(a.2.2.2.1,(a.2.2.2.2.1,())))))))))))) (
 opt.need _ (p.eqN 0 0)<|
 opt.need _ (p.eqN (p.len a.1) (p.len a.1))<|
 opt.ret _ (Sum.inr (a.1,(a.2.1,(a.2.2.1,(a.2.2.2.1,(a.2.2.2.2.1,()))))))))
def z65 (it:It) (p:Prim):(LD×(LD×T4))→Option ((LD×(LD×T4))⊕(LD×(LD×Unit))):=
 fun a=>opt.run _ (
 opt.ask _ (p.cmp .lss a.2.2.2.2.1 a.2.2.2.1) (
 opt.need _ (p.eqN 0 0)<|
 opt.need _ (p.eqN (p.len a.1) (p.len a.1))<|
 opt.bnd ((LD×(LD×T4))) _ (
 it _ _ (z8i p) (a.1,(a.2.1,(a.2.2.1,(a.2.2.2.1,(a.2.2.2.2.1,(a.2.2.2.2.1,()))))))) fun b=>
 opt.need _ (p.eqN 0 0)<|
 opt.need _ (p.eqN (p.len b.1) (p.len b.1))<|
 opt.ret _ (Sum.inl (b.1,(b.2.1,(b.2.2.1,(b.2.2.2.1,((p.ar .add .i64 b.2.2.2.2.1 (1:Int)),()))))))) (
 opt.ret _ (Sum.inr (a.1,(a.2.1,())))))
def w0b (it:It):(p:Prim)→(LD×(LD×T3))→Option ((LD×(LD×Unit))):=
 fun p x=>
 opt.need _ (p.eqN 0 0)<|
 opt.need _ (p.eqN (p.len x.1) (p.len x.1))<|
 opt.bnd ((LD×(LD×Unit))) _ (
 it _ _ (z65 it p) (x.1,(x.2.1,(x.2.2.1,(x.2.2.2.1,((p.ar .add .i64 x.2.2.1 (1:Int)),())))))) fun a=>
 opt.ret _ (a.1,(a.2.1,()))
def v3j:=w0b it0
theorem w8y:CtrOk PG w0m (v3j std):=okF (a:=v2h) (l:=w9p) (gN) (by kernel_rfl) fun _ _=>by kernel_rfl
def w5w:Ctr:=
 ⟨86,[.vec 0 1, .int .i64, .clo 88 [] [.bptr 1 0]],[.row [ci], .box [.list 1]],[(.ret,⟨[(0, .tuple [])],[.row [ci], .box [.list 1]],1⟩)]⟩
def la86:List LA:=
 [⟨86,[false,false,true,true],2,⟨⟨[(0, .vec 0 1),(1, .int .i64),(2, .clo 88 [] [.bptr 1 0]),(6, .int .i64),(7, .int .i64),(8, .int .i64)],[.row [ci], .box [.list 1]],63⟩,[((AX.exit 0),⟨[(0, .vec 0 1),(1, .int .i64),(2, .clo 88 [] [.bptr 1 0]),(6, .int .i64),(7, .int .i64)],[.row [ci], .box [.list 1]],63⟩)]⟩⟩,
 ⟨86,[false,true,true,true,true],2,⟨⟨[(0, .vec 0 1),(1, .int .i64),(2, .clo 88 [] [.bptr 1 0]),(6, .int .i64)],[.row [ci], .box [.list 1]],63⟩,[((AX.exit 2),⟨[],[.row [ci], .box [.list 1]],63⟩)]⟩⟩,
 ⟨86,[false,false,true,false,true,false,false,true,true,true,true],2,⟨⟨[(0, .vec 0 1),(1, .int .i64),(2, .clo 88 [] [.bptr 1 0]),(6, .int .i64),(7, .int .i64),(8, .int .i64)],[.row [ci], .box [.list 1]],63⟩,[((AX.exit 4),⟨[(0, .vec 0 1),(1, .int .i64),(2, .clo 88 [] [.bptr 1 0]),(6, .int .i64),(7, .int .i64)],[.row [ci], .box [.list 1]],63⟩)]⟩⟩]
def ja86:List JA:=
 []
def v0d:List CF:=
 [⟨x1h,v3q⟩,⟨w0m,v3j⟩]
def an86:Anns:=
 ⟨v0d,ja86,[]⟩
def v1v (p:Prim):(LD×(LD×T6))→Option ((LD×(LD×T6))⊕(LD×(LD×T4))):=
 fun a=>opt.run _ (
 opt.ask _ (p.cmp .leq a.2.2.2.2.2.1 a.2.2.1) (
 opt.need _ (p.eqN 0 0)<|
 opt.need _ (p.eqN (p.len a.1) (p.len a.1))<|
 opt.no _ 81) (
 opt.need _ (p.eqN 0 0)<|
 opt.need _ (p.eqN (p.len a.1) (p.len a.1))<|
 opt.ret _ (Sum.inr (a.1,(a.2.1,(a.2.2.1,(a.2.2.2.1,(a.2.2.2.2.1,()))))))))
def x53 (it:It) (p:Prim):(LD×(LD×T3))→Option ((LD×(LD×T3))⊕(LD×(LD×Unit))):=
 fun a=>opt.run _ (
 opt.ask _ (p.cmp .lss a.2.2.2.1 a.2.2.1) (
 opt.need _ (p.eqN 0 0)<|
 opt.need _ (p.eqN (p.len a.1) (p.len a.1))<|
 opt.bnd ((LD×(LD×T4))) _ (
 it _ _ (v1v p) (a.1,(a.2.1,(a.2.2.1,(a.2.2.2.1,((0:Int),((p.ar .mul .i64 (2:Int) a.2.2.2.1),()))))))) fun b=>
 opt.ask _ (p.cmp .lss (p.ar .add .i64 b.2.2.2.2.1 b.2.2.2.1) b.2.2.1) (
 opt.need _ (p.eqN 0 0)<|
 opt.need _ (p.eqN (p.len b.1) (p.len b.1))<|
 opt.no _ 81) (
 opt.need _ (p.eqN 0 0)<|
 opt.need _ (p.eqN (p.len b.1) (p.len b.1))<|
 opt.ret _ (Sum.inl (b.1,(b.2.1,(b.2.2.1,((p.ar .mul .i64 b.2.2.2.1 (2:Int)),()))))))) (
 opt.ret _ (Sum.inr (a.1,(a.2.1,())))))
def x54 (it:It) (p:Prim):(LD×(LD×T6))→Option ((LD×(LD×T6))⊕(LD×(LD×T4))):=
 fun a=>opt.run _ (
 opt.ask _ (p.cmp .leq a.2.2.2.2.2.1 a.2.2.1) (
 opt.need _ (p.eqN 0 0)<|
 opt.need _ (p.eqN (p.len a.1) (p.len a.1))<|
 opt.bnd ((LD×(LD×Unit))) _ (w0b it p (a.1,(a.2.1,(a.2.2.2.2.1,(a.2.2.2.2.2.1,()))))) fun b=>
 opt.need _ (p.eqN 0 0)<|
 opt.need _ (p.eqN (p.len a.1) (p.len b.1))<|
 opt.ret _ (Sum.inl (b.1,(b.2.1,(a.2.2.1,(a.2.2.2.1,(a.2.2.2.2.2.1,((p.ar .add .i64 a.2.2.2.2.2.1 a.2.2.2.1),())))))))) (
 opt.need _ (p.eqN 0 0)<|
 opt.need _ (p.eqN (p.len a.1) (p.len a.1))<|
 opt.ret _ (Sum.inr (a.1,(a.2.1,(a.2.2.1,(a.2.2.2.1,(a.2.2.2.2.1,()))))))))
def g86 (it:It):(p:Prim)→(LD×(LD×T1))→Option ((LD×(LD×Unit))):=
 fun p x=>
 opt.need _ (p.eqN 0 0)<|
 opt.need _ (p.eqN (p.len x.1) (p.len x.1))<|
 opt.bnd ((LD×(LD×T4))) _ (
 it _ _ (x54 it p) (x.1,(x.2.1,(x.2.2.1,((20:Int),((0:Int),((20:Int),()))))))) fun a=>
 opt.need _ (p.eqN 0 0)<|
 opt.need _ (p.eqN (p.len a.1) (p.len a.1))<|
 opt.bnd ((LD×(LD×Unit))) _ (w0b it p (a.1,(a.2.1,(a.2.2.2.2.1,(a.2.2.1,()))))) fun b=>
 opt.need _ (p.eqN 0 0)<|
 opt.need _ (p.eqN (p.len a.1) (p.len b.1))<|
 opt.bnd ((LD×(LD×Unit))) _ (
 it _ _ (x53 it p) (b.1,(b.2.1,(a.2.2.1,(a.2.2.2.1,()))))) fun c=>
 opt.ret _ (c.1,(c.2.1,()))
def G86:=g86 it0
theorem ok86:CtrOk PG w5w (G86 std):=okF (a:=an86) (l:=la86) (gC w8x (gC w8y (gN))) (by kernel_rfl) fun _ _=>by kernel_rfl
def w5z:Ctr:=
 ⟨66,[.vec 0 1, .clo 88 [] [.bptr 1 0]],[.row [ci], .box [.list 1]],[(.ret,⟨[(0, .tuple [])],[.row [ci], .box [.list 1]],1⟩)]⟩
def la66:List LA:=
 []
def ja66:List JA:=
 []
def v0j:List CF:=
 [⟨w5w,G86⟩]
def an66:Anns:=
 ⟨v0j,ja66,[]⟩
def g66 (it:It):(p:Prim)→(LD×(LD×Unit))→Option ((LD×(LD×Unit))):=
 fun p x=>
 opt.need _ (p.eqN 0 0)<|
 opt.need _ (p.eqN (p.len x.1) (p.len x.1))<|
 opt.bnd ((LD×(LD×Unit))) _ (g86 it p (x.1,(x.2.1,((p.ofNat (p.len x.1)),())))) fun a=>
 opt.ret _ (a.1,(a.2.1,()))
def G66:=g66 it0
theorem ok66:CtrOk PG w5z (G66 std):=okF (a:=an66) (l:=la66) (gC ok86 (gN)) (by kernel_rfl) fun _ _=>by kernel_rfl
def w24:Ctr:=
 ⟨71,[.list 1],[],[(.ret,⟨[(0, .vec 0 1)],[.row [ci]],1⟩)]⟩
def la71:List LA:=
 [⟨71,[false,true,false,true,true],0,⟨⟨[(1, .bptr 0 0),(3, .vec 1 1),(6, .int .i64),(7, .int .i64)],[.box [.list 1], .row [ci]],19⟩,[((AX.exit 0),⟨[(1, .bptr 0 0),(3, .vec 1 1)],[.box [.list 1], .row [ci]],19⟩)]⟩⟩]
def ja71:List JA:=
 []
def v0h:List CF:=
 [⟨w5z,G66⟩]
def an71:Anns:=
 ⟨v0h,ja71,[]⟩
def x6d (p:Prim):(LD×(LD×T3))→Option ((LD×(LD×T3))⊕(LD×(LD×Unit))):=
 fun a=>opt.run _ (
 opt.ask _ (p.cmp .lss a.2.2.2.1 a.2.2.1) (
 opt.need _ (p.and (p.leN (p.add 0 1) (p.len [[(D.int .i64 a.2.2.2.1)]])) (p.and (p.leN (p.add 0 (p.len a.1)) (p.len a.1)) (p.and (p.leN 1 1) (p.leN (p.add (p.len a.1) 1) 1000000))))<|
 opt.need _ (p.eqN 0 0)<|
 opt.need _ (p.eqN (p.add (p.len a.1) 1) (p.len (p.app (p.cut a.1 0 (p.len a.1)) (p.cut [[(D.int .i64 a.2.2.2.1)]] 0 1))))<|
 opt.ret _ (Sum.inl ((p.app (p.cut a.1 0 (p.len a.1)) (p.cut [[(D.int .i64 a.2.2.2.1)]] 0 1)),(a.2.1,(a.2.2.1,((p.ar .add .i64 a.2.2.2.1 (1:Int)),())))))) (
 opt.need _ (p.eqN 0 0)<|
 opt.need _ (p.eqN (p.len a.1) (p.len a.1))<|
 opt.ret _ (Sum.inr (a.1,(a.2.1,())))))
def g71 (it:It):(p:Prim)→(LD×Unit)→Option ((LD×Unit)):=
 fun p x=>
 opt.bnd ((LD×(LD×Unit))) _ (
 it _ _ (x6d p) ([],(x.1,((p.ofNat (p.len x.1)),((0:Int),()))))) fun a=>
 opt.need _ (p.eqN 0 0)<|
 opt.need _ (p.eqN (p.len a.1) (p.len a.1))<|
 opt.bnd ((LD×(LD×Unit))) _ (g66 it p (a.1,(a.2.1,()))) fun b=>
 opt.need _ (p.eqN 0 0)<|
 opt.need _ (p.eqN (p.len a.1) (p.len b.1))<|
 opt.ret _ (b.1,())
def G71:=g71 it0
theorem v2s:CtrOk PG w24 (G71 std):=okF (a:=an71) (l:=la71) (gC ok66 (gN)) (by kernel_rfl) fun _ _=>by kernel_rfl
end Go.Am
end
noncomputable section
namespace Go.Am
def w23:Ctr:=
 ⟨73,[.clo 90 [] [.bptr 0 0]],[.box [.sl 1 1], .row [ci]],[(.ret,⟨[(0, .vec 2 1)],[.box [.sl 1 1], .row [ci], .row [ci]],1⟩)]⟩
def la73:List LA:=
 [⟨90,[false,true],4,⟨⟨[(0, .yld 3),(5, .sl 1 1),(6, .int .i64),(7, .int .i64)],[.box [.sl 1 1], .row [ci], .box [.vec 4 1], .loop Go.LoopState.ready Option.none 106 [Bool.false,Bool.true,Bool.false,Bool.true] 13 [(6, .clo 90 [] [.bptr 0 0]),(2, .bptr 2 0)], .row [ci]],16⟩,[((AX.exit 0),⟨[],[.box [.sl 1 1], .row [ci], .box [.vec 4 1], .loop Go.LoopState.ready Option.none 106 [Bool.false,Bool.true,Bool.false,Bool.true] 13 [(6, .clo 90 [] [.bptr 0 0]),(2, .bptr 2 0)], .row [ci]],16⟩)]⟩⟩]
def ja73:List JA:=
 []
def v0f:List CF:=
 [⟨w0k,w76⟩]
def an73:Anns:=
 ⟨v0f,ja73,[]⟩
def x25 (p:Prim):(LD×(LD×T17))→Option ((LD×(LD×T17))⊕(LD×(LD×T5))):=
 fun a=>opt.run _ (
 opt.ask _ (p.cmp .lss a.2.2.2.2.2.2.2.1 a.2.2.2.2.2.2.1) (
 opt.need _ (bif (p.cmp .geq a.2.2.2.2.2.2.2.1 (0:Int)) then (p.cmp .lss a.2.2.2.2.2.2.2.1 (p.ofNat a.2.2.2.2.2.1)) else Bool.false)<|
 opt.need _ (p.rowOk a.1 (p.add a.2.2.2.2.1 (p.nat a.2.2.2.2.2.2.2.1)) [ci])<|
 opt.need _ (p.and (p.leN (p.add 0 1) (p.len [[(D.int .i64 (p.rdI a.1 (p.add a.2.2.2.2.1 (p.nat a.2.2.2.2.2.2.2.1)) 0))]])) (p.and (p.leN (p.add 0 (p.len a.2.1)) (p.len a.2.1)) (p.and (p.leN 1 1) (p.leN (p.add (p.len a.2.1) 1) 1000000))))<|
 opt.need _ (p.eqN 0 0)<|
 opt.need _ (p.eqN (p.add (p.len a.2.1) 1) (p.len (p.app (p.cut a.2.1 0 (p.len a.2.1)) (p.cut [[(D.int .i64 (p.rdI a.1 (p.add a.2.2.2.2.1 (p.nat a.2.2.2.2.2.2.2.1)) 0))]] 0 1))))<|
 opt.ret _ (Sum.inl (a.1,((p.app (p.cut a.2.1 0 (p.len a.2.1)) (p.cut [[(D.int .i64 (p.rdI a.1 (p.add a.2.2.2.2.1 (p.nat a.2.2.2.2.2.2.2.1)) 0))]] 0 1)),(a.2.2.1,(a.2.2.2.1,(a.2.2.2.2.1,(a.2.2.2.2.2.1,(a.2.2.2.2.2.2.1,((p.ar .add .i64 a.2.2.2.2.2.2.2.1 (1:Int)),())))))))))) (
 opt.need _ (p.eqN 0 0)<|
 opt.need _ (p.eqN (p.len a.2.1) (p.len a.2.1))<|
 opt.ret _ (Sum.inr (a.1,(a.2.1,(a.2.2.1,(a.2.2.2.1,())))))))
def g73 (it:It):(p:Prim)→(LD×T5)→Option ((LD×(LD×T5))):=
 fun p x=>
 opt.bnd ((LD×(LD×T5))) _ (
 it _ _ (x25 p) (x.1,([],(x.2.1,(x.2.2.1,(x.2.1,(x.2.2.1,((p.ofNat x.2.2.1),((0:Int),()))))))))) fun a=>
 opt.need _ (p.eqN 0 0)<|
 opt.need _ (p.eqN (p.len a.2.1) (p.len a.2.1))<|
 opt.bnd ((LD×Unit)) _ (w3w it p (a.2.1,())) fun b=>
 opt.need _ (p.eqN 0 0)<|
 opt.need _ (p.eqN (p.len a.2.1) (p.len b.1))<|
 opt.ret _ (a.1,(b.1,(a.2.2.1,(a.2.2.2.1,()))))
def G73:=g73 it0
theorem v2r:CtrOk PG w23 (G73 std):=okF (a:=an73) (l:=la73) (gC w8t (gN)) (by kernel_rfl) fun _ _=>by kernel_rfl
end Go.Am
end
section
namespace Go.Am
open T11
theorem z5t {l:List Int} {q:Nat} (h:q<l.length):l[q]?=some (gI l q):=by
 rw [gI,List.getD_eq_getElem?_getD,List.getElem?_eq_getElem h]; rfl
theorem z6b (x:Int):[D.int IntKind.i64 x]=eI x:=rfl
theorem x94 (l:List Int) (j:Nat):(sw l j).map eI=((l.map eI).set (j+1) (eI (gI l j))).set j (eI (gI l (j+1))):=by
 simp [sw,List.map_set]
theorem w0u (x y:Int):G98 std (x,(y,()))=some (decide (x<y),()):=by
 unfold G98
 simp only [z01,z02,eq_self,not_true,not_false_eq_true,decide_true,decide_false,Bool.not_true,Bool.not_false,Int.reduceLT,Int.reduceNeg,Int.reduceGT,cond_true,cond_false]
theorem y6m {j:Nat} (h:j≤1000000):IntKind.i64.wrap (((j+1:Nat):Int) - 1)=(j:Int):=by rw [z31]<;>omega
theorem x9t (n:Nat) (h:n≤12):∃ y,G83 std (IntKind.u64.wrap (n:Int),())=some y:=by
 have hs:n=0∨n=1∨n=2∨n=3∨n=4∨n=5∨n=6∨n=7∨n=8∨n=9∨n=10∨n=11∨n=12:=by omega
 rcases hs with h|h|h|h|h|h|h|h|h|h|h|h|h<;>rw [h]<;>exact ⟨_,rfl⟩
theorem x6b (b i:Int):∀ (j:Nat) (l:List Int),j<l.length→l.length≤1000→
  z4n (z9w std) (z0h l,((0:Int),(b,(i,((j:Int),())))))=some (z0h (y5u id j l),((0:Int),(b,(i,())))):=by
 intro j
 induction j with
 |zero=>
  intro l hj hl
  have:z9w std (z0h l,((0:Int),(b,(i,(((0:Nat):Int),())))))=some (.inr (z0h l,((0:Int),(b,(i,()))))):=by
   have hn:¬ ((0:Nat):Int)>0:=by omega
   simp only [z9w,z01,z02,hn]
  rw [z0y,this]; rfl
 |succ j ih=>
  intro l hj hl
  have hx:=z5t hj
  have hy:=z5t (l:=l) (q:=j) (by omega)
  have hw:=y6m (j:=j) (by omega)
  have hg:((j+1:Nat):Int)>0:=by omega
  have hsj:((l.map eI).set (j+1) (eI (gI l j)))[j]?=some (eI (gI l j)):=by rw [List.getElem?_set_ne (by omega),List.getElem?_map,hy]; rfl
  have h0:((j+1:Nat):Int)≥0:=by omega
  have h1:((j+1:Nat):Int)<(l.length:Int):=by omega
  have h2:(j:Int)≥0:=by omega
  have h3:(j:Int)<(l.length:Int):=by omega
  by_cases hlt:gI l (j+1)<gI l j
  ·have hb:z9w std (z0h l,((0:Int),(b,(i,(((j+1:Nat):Int),())))))=some (.inl (z0h (sw l j),((0:Int),(b,(i,((j:Int),())))))):=by
    simp only [z9w,w0u,z01,z02,z0h,z0j,z1l,z1y,z0n,z0d,z1h,hg,h0,h1,h2,h3,hw,hx,hy,hlt,z6b,x94,hsj,List.length_set]
   rw [z0y,hb,y5u,if_pos (show id (gI l (j+1))<id (gI l j) from hlt)]
   exact ih (sw l j) (by rw [z68]; omega) (by rw [z68]; exact hl)
  ·have hb:z9w std (z0h l,((0:Int),(b,(i,(((j+1:Nat):Int),())))))=some (.inr (z0h l,((0:Int),(b,(i,()))))):=by
    simp only [z9w,w0u,z01,z02,z0h,z0j,z1l,z1y,z0n,z0d,z1h,hg,h0,h1,h2,h3,hw,hx,hy,hlt,z6b,List.length_set]
   rw [z0y,hb,y5u,if_neg (show ¬ id (gI l (j+1))<id (gI l j) from hlt)]
theorem x5z (n:Nat):∀ (k i:Nat) (l:List Int),l.length=n→n≤1000→i+k=n→
  z4n (z64 it0 std) (z0h l,((0:Int),((n:Int),((i:Int),()))))=some (z0h (x0z id k i l),()):=by
 intro k
 induction k with
 |zero=>
  intro i l hl hn hi
  have:z64 it0 std (z0h l,((0:Int),((n:Int),((i:Int),()))))=some (.inr (z0h l,())):=by
   have hn:¬ (i:Int)<n:=by omega
   simp only [z64,z01,z02,hn]
  rw [z0y,this]; rfl
 |succ k ih=>
  intro i l hl hn hi
  have hw:=z0x (i:=i) (by omega)
  have hlt:(i:Int)<n:=by omega
  have h1:it0 _ _ (z9w std) (z0h l,((0:Int),((n:Int),((i:Int),((i:Int),())))))=_:=x6b n i i l (by omega) (by omega)
  have:z64 it0 std (z0h l,((0:Int),((n:Int),((i:Int),()))))=some (.inl (z0h (y5u id i l),((0:Int),((n:Int),(((i+1:Nat):Int),()))))):=by
   simp only [z64,z01,z02,hlt,h1,z0e,hw]
  rw [z0y,this,x0z]
  exact ih (i+1) _ (by rw [z9o]; exact hl) hn (by omega)
theorem w2j (l:List Int) (hl:l.length≤1000):w2k it0 std (z0h l,((0:Int),((l.length:Int),())))=some (z0h (z4u id l),()):=by
 have hw:IntKind.i64.wrap ((0:Int)+1)=((1:Nat):Int):=by decide
 cases hn:l.length with
 |zero=>
  have e:l=[]:=List.length_eq_zero_iff.1 hn
  subst e
  have hb:z64 it0 std (z0h [],((0:Int),(((0:Nat):Int),(((1:Nat):Int),()))))=some (.inr (z0h [],())):=by
   have hn:¬ ((1:Nat):Int)<((0:Nat):Int):=by omega
   simp only [z64,z01,z02,hn]
  have h1:it0 _ _ (z64 it0 std) (z0h [],((0:Int),(((0:Nat):Int),(((1:Nat):Int),()))))=some (z0h [],()):=by
   show z4n _ _=_
   rw [z0y,hb]
  simp only [w2k,z01,z02,z0e,hw,h1]
  rfl
 |succ n=>
  have h1:it0 _ _ (z64 it0 std) (z0h l,((0:Int),(((n+1:Nat):Int),(((1:Nat):Int),()))))=_:=x5z (n+1) n 1 l hn (by omega) (by omega)
  have e:z4u id l=x0z id n 1 l:=by rw [z4u,hn]; rfl
  simp only [w2k,z01,z02,z0e,hw,h1,e]
theorem w3r (l:List Int) (hl:l.length≤12):w76 std (z0h l,())=some (z0h (z4u id l),()):=by
 obtain ⟨y,hy⟩:=x9t l.length hl
 have h92:=w2j l (by omega)
 have hw:IntKind.i64.wrap ((l.length:Int) - 0)=(l.length:Int):=by rw [z31]<;>omega
 have h12:(l.length:Int)≤12:=by omega
 have hb:∀ q:Int,it0 _ _ (y79 it0 std) (z0h l,((0:Int),((l.length:Int),(q,(true,(true,()))))))=some (z0h (z4u id l),()):=by
  intro q
  show z4n _ _=_
  rw [z0y]
  simp only [y79,z01,z02,z1h,hw,h12,h92]
 unfold w76
 simp only [w3w,w5f,z01,z02,z1k,hy,hb]
theorem x9g (A:List Int) (off len:Nat) (hl:off+len≤A.length) (h12:len≤1000):
  z4n (x25 std) (z0h A,(z0h [],(off,(len,(off,(len,((len:Int),((0:Int),()))))))))=some (z0h A,(z0h ((A.drop off).take len),(off,(len,())))):=by
 have key:=z2t (b:=x25 std) len (fun i=>(z0h A,(z0h ((A.drop off).take i),(off,(len,(off,(len,((len:Int),((i:Int),())))))))))
  (z0h A,(z0h ((A.drop off).take len),(off,(len,())))) (fun i hi=>by
  have hm:=z5t (l:=A) (q:=off+i) (by omega)
  have hw:=z0x (i:=i) (by omega)
  have hlt:(i:Int)<len:=by omega
  have h0:(0:Int)≤i:=by omega
  have ht:(A.drop off).take (i+1)=(A.drop off).take i++[gI A (off+i)]:=by
   have h1:i<(A.drop off).length:=by rw [List.length_drop]; omega
   have h2:(A.drop off)[i]?=some (gI A (off+i)):=by rw [List.getElem?_drop]; exact hm
   rw [List.take_succ_eq_append_getElem h1,(List.getElem?_eq_some_iff.1 h2).2]
  have hll:((A.drop off).take i).length=i:=by rw [List.length_take,List.length_drop]; omega
  rw [ht]
  generalize (A.drop off).take i=B at hll⊢
  have hle:i+1≤1000000:=by omega
  have hbl:(B.map eI).length=i:=by rw [List.length_map,hll]
  simp only [x25,z01,z02,z0h,z0j,z1l,z1y,z0n,z0d,hm,hlt,h0,ge_iff_le,z0e,hw,hbl,hle,z6b,List.map_append,List.map_cons,List.map_nil,List.drop_zero,List.take_of_length_le (Nat.le_of_eq hbl),Nat.le_refl,decide_true,Bool.and_true,
   List.take_succ_cons,List.take_zero,List.length_append,List.length_cons,List.length_nil,Nat.zero_add,cond_true,hll]) (by
  have hn:¬ (len:Int)<len:=by omega
  simp only [x25,z01,z02,hn,decide_true])
 exact key
theorem w60 (A:List Int) (off len:Nat) (hl:off+len≤A.length) (h12:len≤12):
  G73 std (z0h A,(off,(len,())))=some (z0h A,(z0h (z4u id ((A.drop off).take len)),(off,(len,())))):=by
 have h1:it0 _ _ (x25 std) (z0h A,([],(off,(len,(off,(len,((len:Int),((0:Int),()))))))))=_:=x9g A off len hl (by omega)
 have hll:((A.drop off).take len).length=len:=by rw [List.length_take,List.length_drop]; omega
 have h2:w3w it0 std (z0h ((A.drop off).take len),())=_:=w3r ((A.drop off).take len) (by omega)
 unfold G73
 simp only [g73,z01,z02,h1,h2,z1k,z69,decide_true]
def key (w:List Int) (x:Int):Int:=gI w x.toNat
def z9h (w l:List Int):Prop:=∀ q,q<l.length→0≤gI l q∧gI l q<w.length
theorem y7e {w l:List Int} (h:z9h w l) {j:Nat} (hj:j+1<l.length):z9h w (sw l j):=by
 intro q hq
 rw [z68] at hq
 rw [x2l hj]
 split
 ·exact h _ hj
 ·split
  ·exact h _ (by omega)
  ·exact h _ hq
theorem y84 {w:List Int} (κ:Int→Int) (j:Nat) (l:List Int) (h:z9h w l) (hj:j<l.length):z9h w (y5u κ j l):=by
 induction j generalizing l with
 |zero=>exact h
 |succ j ih=>
  rw [y5u]
  split
  ·exact ih _ (y7e h hj) (by rw [z68]; omega)
  ·exact h
theorem x6h (w:List Int) (b i:Int):∀ (j:Nat) (l:List Int),z9h w l→j<l.length→l.length≤1000→
  z4n (z8i std) (z0h l,(z0h w,((0:Int),(b,(i,((j:Int),()))))))=some (z0h (y5u (key w) j l),(z0h w,((0:Int),(b,(i,()))))):=by
 intro j
 induction j with
 |zero=>
  intro l hp hj hl
  have:z8i std (z0h l,(z0h w,((0:Int),(b,(i,(((0:Nat):Int),()))))))=some (.inr (z0h l,(z0h w,((0:Int),(b,(i,())))))):=by
   have hn:¬ ((0:Nat):Int)>0:=by omega
   simp only [z8i,z01,z02,hn]
  rw [z0y,this]; rfl
 |succ j ih=>
  intro l hp hj hl
  have hx:=z5t hj
  have hy:=z5t (l:=l) (q:=j) (by omega)
  obtain ⟨p0,p1⟩:=hp (j+1) hj
  obtain ⟨q0,q1⟩:=hp j (by omega)
  have hkx:w[(gI l (j+1)).toNat]?=some (key w (gI l (j+1))):=z5t (by omega)
  have hky:w[(gI l j).toNat]?=some (key w (gI l j)):=z5t (by omega)
  have hw:=y6m (j:=j) (by omega)
  have hg:((j+1:Nat):Int)>0:=by omega
  have hsj:((l.map eI).set (j+1) (eI (gI l j)))[j]?=some (eI (gI l j)):=by rw [List.getElem?_set_ne (by omega),List.getElem?_map,hy]; rfl
  have h0:((j+1:Nat):Int)≥0:=by omega
  have h1:((j+1:Nat):Int)<(l.length:Int):=by omega
  have h2:(j:Int)≥0:=by omega
  have h3:(j:Int)<(l.length:Int):=by omega
  by_cases hlt:key w (gI l (j+1))<key w (gI l j)
  ·have hb:z8i std (z0h l,(z0h w,((0:Int),(b,(i,(((j+1:Nat):Int),()))))))=some (.inl (z0h (sw l j),(z0h w,((0:Int),(b,(i,((j:Int),()))))))):=by
    simp only [z8i,z01,z02,z0h,z0j,z1l,z1y,z0n,z0d,eq_self,not_true,not_false_eq_true,decide_true,decide_false,Bool.not_true,Bool.not_false,Int.reduceLT,Int.reduceNeg,Int.reduceGT,cond_true,cond_false,z1h,hg,h0,h1,h2,h3,hw,hx,hy,hkx,hky,ge_iff_le,p0,q0,hlt,z6b,x94,hsj,List.length_set]
   rw [z0y,hb,y5u,if_pos hlt]
   exact ih (sw l j) (y7e hp hj) (by rw [z68]; omega) (by rw [z68]; exact hl)
  ·have hb:z8i std (z0h l,(z0h w,((0:Int),(b,(i,(((j+1:Nat):Int),()))))))=some (.inr (z0h l,(z0h w,((0:Int),(b,(i,())))))):=by
    by_cases hgt:key w (gI l (j+1))>key w (gI l j)
    ·simp only [z8i,z01,z02,z0h,z0j,z1l,z1y,z0n,z0d,eq_self,not_true,not_false_eq_true,decide_true,decide_false,Bool.not_true,Bool.not_false,Int.reduceLT,Int.reduceNeg,Int.reduceGT,cond_true,cond_false,z1h,hg,h0,h1,h2,h3,hw,hx,hy,hkx,hky,ge_iff_le,p0,q0,hlt,hgt,z6b,List.length_set]
    ·simp only [z8i,z01,z02,z0h,z0j,z1l,z1y,z0n,z0d,eq_self,not_true,not_false_eq_true,decide_true,decide_false,Bool.not_true,Bool.not_false,Int.reduceLT,Int.reduceNeg,Int.reduceGT,cond_true,cond_false,z1h,hg,h0,h1,h2,h3,hw,hx,hy,hkx,hky,ge_iff_le,p0,q0,hlt,hgt,z6b,List.length_set]
   rw [z0y,hb,y5u,if_neg hlt]
theorem x58 (w:List Int) (n:Nat):∀ (k i:Nat) (l:List Int),z9h w l→l.length=n→n≤1000→i+k=n→
  z4n (z65 it0 std) (z0h l,(z0h w,((0:Int),((n:Int),((i:Int),())))))=some (z0h (x0z (key w) k i l),(z0h w,())):=by
 intro k
 induction k with
 |zero=>
  intro i l hp hl hn hi
  have:z65 it0 std (z0h l,(z0h w,((0:Int),((n:Int),((i:Int),())))))=some (.inr (z0h l,(z0h w,()))):=by
   have hn:¬ (i:Int)<n:=by omega
   simp only [z65,z01,z02,hn]
  rw [z0y,this]; rfl
 |succ k ih=>
  intro i l hp hl hn hi
  have hw:=z0x (i:=i) (by omega)
  have hlt:(i:Int)<n:=by omega
  have h1:it0 _ _ (z8i std) (z0h l,(z0h w,((0:Int),((n:Int),((i:Int),((i:Int),()))))))=_:=x6h w n i i l hp (by omega) (by omega)
  have:z65 it0 std (z0h l,(z0h w,((0:Int),((n:Int),((i:Int),())))))=some (.inl (z0h (y5u (key w) i l),(z0h w,((0:Int),((n:Int),(((i+1:Nat):Int),())))))):=by
   simp only [z65,z01,z02,hlt,h1,z0e,hw]
  rw [z0y,this,x0z]
  exact ih (i+1) _ (y84 _ _ _ hp (by omega)) (by rw [z9o]; exact hl) hn (by omega)
theorem w2l (w l:List Int) (hp:z9h w l) (hl:l.length≤1000):w0b it0 std (z0h l,(z0h w,((0:Int),((l.length:Int),()))))=some (z0h (z4u (key w) l),(z0h w,())):=by
 have hw:IntKind.i64.wrap ((0:Int)+1)=((1:Nat):Int):=by decide
 cases hn:l.length with
 |zero=>
  have e:l=[]:=List.length_eq_zero_iff.1 hn
  subst e
  have hb:z65 it0 std (z0h [],(z0h w,((0:Int),(((0:Nat):Int),(((1:Nat):Int),())))))=some (.inr (z0h [],(z0h w,()))):=by
   have hn:¬ ((1:Nat):Int)<((0:Nat):Int):=by omega
   simp only [z65,z01,z02,hn]
  have h1:it0 _ _ (z65 it0 std) (z0h [],(z0h w,((0:Int),(((0:Nat):Int),(((1:Nat):Int),())))))=some (z0h [],(z0h w,())):=by
   show z4n _ _=_
   rw [z0y,hb]
  simp only [w0b,z01,z02,z0e,hw,h1]
  rfl
 |succ n=>
  have h1:it0 _ _ (z65 it0 std) (z0h l,(z0h w,((0:Int),(((n+1:Nat):Int),(((1:Nat):Int),())))))=_:=x58 w (n+1) n 1 l hp hn (by omega) (by omega)
  have e:z4u (key w) l=x0z (key w) n 1 l:=by rw [z4u,hn]; rfl
  simp only [w0b,z01,z02,z0e,hw,h1,e]
theorem w5g (w l:List Int) (hp:z9h w l) (hl:l.length≤12):g66 it0 std (z0h l,(z0h w,()))=some (z0h (z4u (key w) l),(z0h w,())):=by
 have h1:=w2l w l hp (by omega)
 have n20:¬ (20:Int)≤(l.length:Int):=by omega
 have n20':¬ (20:Int)<(l.length:Int):=by omega
 have e1:it0 _ _ (x54 it0 std) (z0h l,(z0h w,((l.length:Int),((20:Int),((0:Int),((20:Int),()))))))=some (z0h l,(z0h w,((l.length:Int),((20:Int),((0:Int),()))))):=by
  show z4n _ _=_
  rw [z0y]
  simp only [x54,z01,z02,n20]
 have e2:it0 _ _ (x53 it0 std) (z0h (z4u (key w) l),(z0h w,((l.length:Int),((20:Int),()))))=some (z0h (z4u (key w) l),(z0h w,())):=by
  show z4n _ _=_
  rw [z0y]
  simp only [x53,z01,z02,n20']
 simp only [g66,g86,z01,z02,z1k,e1,h1,e2,z69]
def y3r (n:Nat):List Int:=(List.range n).map fun (i:Nat)=>(i:Int)
theorem z79 (n:Nat):(y3r n).length=n:=by simp [y3r]
theorem x6k (n:Nat):y3r (n+1)=y3r n++[(n:Int)]:=by simp [y3r,List.range_succ]
theorem x15 (w:List Int):z9h w (y3r w.length):=by
 intro q hq
 rw [z79] at hq
 have:gI (y3r w.length) q=(q:Int):=by
  rw [gI,y3r,List.getD_eq_getElem?_getD,List.getElem?_map,List.getElem?_range hq]; rfl
 rw [this]; omega
def y0b (w:List Int):List Int:=z4u (key w) (y3r w.length)
theorem w62 (w:List Int) (hl:w.length≤12):G71 std (z0h w,())=some (z0h (y0b w),()):=by
 have h1:it0 _ _ (x6d std) ([],(z0h w,((w.length:Int),((0:Int),()))))=some (z0h (y3r w.length),(z0h w,())):=by
  have key:=z2t (b:=x6d std) w.length (fun i=>(z0h (y3r i),(z0h w,((w.length:Int),((i:Int),()))))) (z0h (y3r w.length),(z0h w,())) (fun i hi=>by
   have hw:=z0x (i:=i) (by omega)
   have hlt:(i:Int)<w.length:=by omega
   have hle:i+1≤1000000:=by omega
   have hll:=z79 i
   rw [x6k]
   generalize y3r i=B at hll⊢
   have hbl:(B.map eI).length=i:=by rw [List.length_map,hll]
   simp only [x6d,z01,z02,z0h,hlt,z0e,hw,hbl,hle,z6b,List.map_append,List.map_cons,List.map_nil,List.drop_zero,List.take_of_length_le (Nat.le_of_eq hbl),Nat.le_refl,decide_true,Bool.and_true,
    List.take_succ_cons,List.take_zero,List.length_append,List.length_cons,List.length_nil,Nat.zero_add,hll]) (by
   have hn:¬ (w.length:Int)<w.length:=by omega
   simp only [x6d,z01,z02,hn,decide_true])
  exact key
 have h2:=w5g w (y3r w.length) (x15 w) (by rw [z79]; exact hl)
 unfold G71
 simp only [g71,z01,z02,z1k,h1,h2,y0b,z69,z79,decide_true]
end Go.Am
end
section
namespace Go.Am
open T11
variable {fl:List Int→Bool}
theorem z3v {d:List (List Int)} (h:z0w d=0):1≤d.length∧d.length≤10:=by
 refine ⟨Nat.le_of_not_lt fun h'=>?_,Nat.le_of_not_lt fun h'=>?_⟩
 ·rw [z0w,if_pos (.inl (by omega))] at h; exact absurd h (by decide)
 ·rw [z0w,if_pos (.inr h')] at h; exact absurd h (by decide)
theorem y1n {d:List (List Int)} (h:z0w d=0):∀ i,i<d.length→z19 (d.getD i []) d.length:=by
 have hl:=z3v h
 rw [z0w,if_neg (by omega)] at h
 by_cases a:∃ i∈List.range d.length,¬ z19 (d.getD i []) d.length
 ·rw [if_pos a] at h; exact absurd h (by decide)
 ·intro i hi
  exact Classical.byContradiction fun hn=>a ⟨i,List.mem_range.2 hi,hn⟩
theorem y2y {d:List (List Int)} (h:z0w d=0):y8j (bt d) d.length:=by
 have hl:=z3v h
 have hr:=y1n h
 rw [z0w,if_neg (by omega)] at h
 rw [if_neg (by rintro ⟨i,hi,hn⟩; exact hn (hr i (List.mem_range.1 hi)))] at h
 by_cases a:∃ i∈List.range d.length,z8d d i
 ·rw [if_pos a] at h; exact absurd h (by decide)
 have hno:∀ i,i<d.length→¬ z8d d i:=fun i hi hb=>a ⟨i,List.mem_range.2 hi,hb⟩
 have h1:∀ i k,i<d.length→k<i→bt d i k=!bt d k i:=by
  intro i k hi hk
  have:=hno i hi
  have h2:¬ decide ((i:Int)∈d.getD k [])=decide ((k:Int)∈d.getD i []):=fun e=>this (.inr ⟨k,List.mem_range.2 hk,e⟩)
  rw [bt,bt]
  cases h3:decide ((i:Int)∈d.getD k [])<;>cases h4:decide ((k:Int)∈d.getD i [])<;>rw [h3,h4] at h2
  ·exact absurd rfl h2
  ·rfl
  ·rfl
  ·exact absurd rfl h2
 refine ⟨fun i hi=>?_,fun i k hi hk hne=>?_⟩
 ·rw [bt]; exact decide_eq_false fun hm=>hno i hi (.inl hm)
 ·by_cases hlt:k<i
  ·exact h1 i k hi hlt
  ·rw [h1 k i hk (by omega),Bool.not_not]
theorem w38 {l:List Int} {n:Int} (h:z19 l n):l.Pairwise (· < ·):=by
 have hstep:∀ i,i+1<l.length→gI l i<gI l (i+1):=fun i hi=>by
  have:=(h (i+1) hi).2.2 (by omega)
  rwa [Nat.add_sub_cancel] at this
 have hall:∀ k i,i+k+1<l.length→gI l i<gI l (i+k+1):=by
  intro k
  induction k with
  |zero=>intro i hi; exact hstep i hi
  |succ k ih=>
   intro i hi
   have h1:=ih i (by omega)
   have h2:=hstep (i+k+1) (by omega)
   rw [show i+(k+1)+1=i+k+1+1 by omega]
   omega
 rw [List.pairwise_iff_getElem]
 intro i j hi hj hij
 have:=hall (j - i - 1) i (by omega)
 rw [show i+(j - i - 1)+1=j by omega] at this
 simpa [gI,List.getD_eq_getElem?_getD,hi,hj] using this
theorem y2d {l:List Int} {n:Int} (h:z19 l n) {x:Int} (hx:x∈l):0≤x∧x<n:=by
 obtain ⟨i,hi⟩:=List.getElem?_of_mem hx
 have:=h i (List.getElem?_eq_some_iff.1 hi).1
 rw [z8r,z1g hi] at this
 exact ⟨this.1,this.2.1⟩
theorem x2w (n:Nat) (p:Nat→Bool):cnt n p=((List.range n).filter p).length:=by
 induction n with
 |zero=>rfl
 |succ n ih=>
  rw [z5v,ih,List.range_succ,List.filter_append,List.length_append]
  congr 1
  cases h:p n<;>simp [h,o1]
theorem x1y {l:List Int} {n:Nat} (h:z19 l n):(List.range n).filter (fun (k:Nat)=>decide ((k:Int)∈l))=l.map Int.toNat:=by
 refine x90 (List.Pairwise.filter _ List.pairwise_lt_range) ?_ fun x=>?_
 ·rw [List.pairwise_map]
  exact (w38 h).imp_of_mem fun {a b} ha hb hab=>by
   have:=y2d h ha; have:=y2d h hb; omega
 ·simp only [List.mem_filter,List.mem_range,decide_eq_true_eq,List.mem_map]
  constructor
  ·rintro ⟨_,h2⟩; exact ⟨(x:Int),h2,by omega⟩
  ·rintro ⟨y,hy,rfl⟩
   have:=y2d h hy
   have e:((y.toNat:Nat):Int)=y:=by omega
   exact ⟨by omega,by rw [e]; exact hy⟩
theorem w1e {l:List Int} {n:Nat} (h:z19 l n):cnt n (fun (k:Nat)=>decide ((k:Int)∈l))=l.length:=by
 rw [x2w,x1y h,List.length_map]
def wn (d:List (List Int)) (i:Nat):Nat:=cnt d.length (bt d i)
theorem w3z {d:List (List Int)} (h:z0w d=0) {i:Nat} {m:List Int} (hm:d[i]?=some m):m.length=wn d i:=by
 have hi:=(List.getElem?_eq_some_iff.1 hm).1
 have hr:=y1n h i hi
 rw [z1g hm] at hr
 rw [wn, ←w1e hr]
 exact z6p fun k _=>(x59 hm k).symm
theorem x6u {d:List (List Int)} (h:z0w d=0):z1f d=(List.range d.length).map fun i=>((wn d i:Nat):Int):=by
 apply List.ext_getElem?
 intro i
 rw [z1f,List.getElem?_map,List.getElem?_map]
 by_cases hi:i<d.length
 ·obtain ⟨m,hm⟩:=z1e hi
  rw [hm,List.getElem?_range hi,Option.map_some,Option.map_some,w3z h hm]
 ·rw [List.getElem?_eq_none (by omega),List.getElem?_eq_none (by simp; omega)]; rfl
theorem z86 {d:List (List Int)} (h:z0w d=0) {i:Nat} (hi:i<d.length):(z1f d)[i]?=some ((wn d i:Nat):Int):=by
 rw [x6u h,List.getElem?_map,List.getElem?_range hi]; rfl
theorem w0y {d:List (List Int)} (h:z0w d=0) {i:Nat} (hi:i<d.length):wn d i<d.length:=by
 have h1:=y2y h
 have h2:=y9s d.length (bt d i)
 have h3:=y9r (p:=fun k=>!bt d i k) hi (by rw [h1.1 i hi]; rfl)
 rw [wn]; omega
theorem w2o (n:Int) (f:Nat→Nat→Bool) (i:Nat) (hi:i<10):((fld n f).drop (1+i*10)).take 10=z0h ((List.range 10).map fun k=>bif f i k then 1 else 0):=by
 apply List.ext_getElem?
 intro k
 rw [z0h,List.map_map,List.getElem?_map]
 by_cases hk:k<10
 ·rw [List.getElem?_take_of_lt hk,List.getElem?_drop,y0f n f i k hi hk,List.getElem?_range hk]; rfl
 ·rw [List.getElem?_eq_none (by rw [List.length_take]; omega),List.getElem?_eq_none (by simp; omega)]; rfl
theorem x63 (p:Nat→Bool) (n:Nat):((List.range n).map fun k=>(bif p k then 1 else 0:Int)).sum=(cnt n p:Nat):=by
 induction n with
 |zero=>rfl
 |succ n ih=>
  rw [List.range_succ,List.map_append,List.sum_append,ih,z5v]
  cases h:p n<;>simp [h,o1]
theorem v1t {d:List (List Int)} (h:z0w d=0) {i k:Nat} (hk:d.length≤k):bt d i k=false:=by
 by_cases hi:i<d.length
 ·rw [bt]
  refine decide_eq_false fun hm=>?_
  have:=y2d (y1n h i hi) hm
  omega
 ·exact w0q (by omega) k
theorem w3c {d:List (List Int)} (h:z0w d=0) (i:Nat):cnt 10 (bt d i)=wn d i:=by
 have hl:=z3v h
 have e:cnt 10 (bt d i)=cnt d.length (bt d i)+cnt (10 - d.length) fun j=>bt d i (d.length+j):=by
  rw [←y20]; congr 1; omega
 rw [e,z6p (n:=10 - d.length) (q:=fun _=>false) fun j _=>v1t h (by omega),y21]; rfl
theorem x6o (d:List (List Int)) (hr:∀ l∈d,l.length≤1000000):G35 std (z0d fl d,())=some (if z0w d=0 then (z0h (z1f d),((0:Int),())) else ([],(z0w d,()))):=by
 have h54:g54 it0 std (z0d fl d,())=_:=w0v d hr
 unfold G35
 by_cases h:z0w d=0
 ·rw [if_pos h] at h54
  have hl:=z3v h
  have key:=z2t (b:=y9w it0 std) d.length (fun i=>(fld d.length (bt d),(z0h ((z1f d).take i++List.replicate (d.length - i) 0),((d.length:Int),((i:Int),()))))) (z0h (z1f d),()) (fun i hi=>by
   have hw:=z0x (i:=i) (by omega)
   have hlt:(i:Int)<d.length:=by omega
   have h0:(0:Int)≤i:=by omega
   have hi1:(i:Int)<((10:Nat):Int):=by omega
   have hrow:=w2o d.length (bt d) i (by omega)
   have hfl:=w2p d.length (bt d)
   have hsum:=x63 (bt d i) 10
   rw [w3c h] at hsum
   have h70:g70 it0 std (z0h ((List.range 10).map fun k=>bif bt d i k then 1 else 0),())=some (((wn d i:Nat):Int),()):=by
    have:=w63 ((List.range 10).map fun k=>bif bt d i k then 1 else 0) (by simp) (fun x hx=>by
     simp only [List.mem_map] at hx
     obtain ⟨k,_,rfl⟩:=hx
     cases bt d i k<;>simp)
    rw [hsum] at this
    exact this
   have hget:=z86 h hi
   have hwl:=z2q d
   have hset:((z1f d).take i++List.replicate (d.length - i) 0).set i ((wn d i:Nat):Int)=(z1f d).take (i+1)++List.replicate (d.length - (i+1)) 0:=by
    have hti:((z1f d).take i).length=i:=by rw [List.length_take]; omega
    rw [List.take_succ_eq_append_getElem (by omega),(List.getElem?_eq_some_iff.1 hget).2,show d.length - i=(d.length - (i+1))+1 by omega,List.replicate_succ,List.set_append_right (h:=by omega),hti,Nat.sub_self,List.set_cons_zero,List.append_assoc]
    rfl
   rw [←hset]
   have hBl:((z1f d).take i++List.replicate (d.length - i) 0).length=d.length:=by
    rw [List.length_append,List.length_take,List.length_replicate]; omega
   generalize (z1f d).take i++List.replicate (d.length - i) (0:Int)=B at hBl⊢
   have hEl:(B.map eI).length=d.length:=by rw [List.length_map,hBl]
   have h111:1+i*10+10≤101:=by omega
   have hF0:(fld d.length (bt d))[1+i*10]?=some (eC (bt d i 0)):=y0f d.length (bt d) i 0 (by omega) (by omega)
   have hBi:=z5t (l:=B) (q:=i) (by omega)
   have hms:(B.set i ((wn d i:Nat):Int)).map eI=(B.map eI).set i (eI ((wn d i:Nat):Int)):=by rw [List.map_set]
   generalize fld d.length (bt d)=F at hrow hfl hF0⊢
   simp only [z0h] at h70 hrow
   generalize ((List.range 10).map fun k=>(bif bt d i k then 1 else 0:Int))=ROW at hrow h70
   simp only [y9w,z01,z02,z0h,hlt,h0,hi1,ge_iff_le,z0e,hw,hfl,h111,hrow,h70,hEl,hBl,z6b,hms,hF0,hBi,y1q,z0j,decide_true,cond_true,Bool.and_true,List.length_set]) (by
   have hn:¬ (d.length:Int)<d.length:=by omega
   rw [Nat.sub_self,List.replicate_zero,List.append_nil,List.take_of_length_le (by rw [z2q]; exact Nat.le_refl _)]
   simp only [y9w,z01,z02,hn,decide_true])
  have key':it0 _ _ (y9w it0 std) (fld d.length (bt d),(z0h (List.replicate d.length 0),((d.length:Int),((0:Int),()))))=some (z0h (z1f d),()):=by
   have:=key
   simp only [List.take_zero,List.nil_append,Nat.sub_zero] at this
   exact this
  have hf0:(fld d.length (bt d))[0]?=some (eI d.length):=rfl
  have hrep:z0h (List.replicate d.length 0)=List.replicate d.length (eI 0):=by rw [z0h,List.map_replicate]
  rw [hrep] at key'
  have hn0:(0:Int)≤d.length:=by omega
  have hnm:(d.length:Int)≤1000000:=by omega
  have hwl:=z2q d
  simp only [g35,z01,z02,eq_self,not_true,not_false_eq_true,decide_true,decide_false,Bool.not_true,Bool.not_false,Int.reduceLT,Int.reduceNeg,Int.reduceGT,cond_true,cond_false,h54,h,hf0,z0j,z1l,ge_iff_le,hn0,hnm,Int.le_refl,Bool.and_true,z6b,key',z1k,Nat.le_refl,ne_eq,List.length_replicate]
  done
 ·rw [if_neg h] at h54
  simp only [g35,z01,z02,eq_self,not_true,not_false_eq_true,decide_true,decide_false,Bool.not_true,Bool.not_false,Int.reduceLT,Int.reduceNeg,Int.reduceGT,cond_true,cond_false,h54,h,ne_eq]
  done
theorem v2n (d : List (List Int)) (n : Nat) : C1 d n = Tr1 (bt d) n := by
  have h3 : ∀ i k m, C3 d i k m = Tr3 (bt d) i k m := by
    intro i k m
    induction m with
    | zero => rfl
    | succ m ih => rw [C3, ih]; rfl
  have h2 : ∀ i k, C2 d i k = Tr2 (bt d) i k := by
    intro i k
    induction k with
    | zero => rfl
    | succ k ih => rw [C2, ih, h3]; rfl
  induction n with
  | zero => rfl
  | succ n ih => rw [C1, ih, h2]; rfl
theorem w0p (w:Nat):((w:Int)*((w:Int) - 1)).tdiv 2=(c2 w:Nat):=by
 have:=w3g w
 cases w with
 |zero=>rfl
 |succ w=>
  rw [Nat.add_sub_cancel] at this
  have e:(((w+1:Nat):Int)*(((w+1:Nat):Int) - 1))=2*(c2 (w+1):Nat):=by
   have e1:(((w+1:Nat):Int) - 1)=(w:Int):=by omega
   rw [e1]
   have:=congrArg (fun (n:Nat)=>(n:Int)) this
   simp only [Int.natCast_mul] at this
   rw [←this]; rfl
  rw [e]
  exact Int.mul_tdiv_cancel_left _ (by decide)
theorem y9x {w:Nat} (h:w≤10):c2 w≤45:=by
 have hs:w=0∨w=1∨w=2∨w=3∨w=4∨w=5∨w=6∨w=7∨w=8∨w=9∨w=10:=by omega
 rcases hs with h|h|h|h|h|h|h|h|h|h|h<;>subst h<;>decide
theorem w7b (d:List (List Int)) (hr:∀ l∈d,l.length≤1000000):G36 std (z0d fl d,())=some (if z0w d=0 then (((C1 d d.length:Nat):Int),((0:Int),())) else ((0:Int),(z0w d,()))):=by
 have h35:g35 it0 std (z0d fl d,())=_:=x6o d hr
 unfold G36
 by_cases h:z0w d=0
 ·rw [if_pos h] at h35
  have hl:=z3v h
  have hcirc:=w3d (y2y h) d.length (Nat.le_refl _)
  have hbnd:∀ i,i≤d.length→sm i (fun q=>c2 (wn d q))≤45*i:=by
   intro i hi
   have:=x3v (n:=i) (f:=fun q=>c2 (wn d q)) (g:=fun _=>45) fun q hq=>y9x (by have:=w0y h (i:=q) (by omega); omega)
   rw [z5n] at this; omega
  have hc3:c3 d.length≤120:=by
   have hs:d.length=1∨d.length=2∨d.length=3∨d.length=4∨d.length=5∨d.length=6∨d.length=7∨d.length=8∨d.length=9∨d.length=10:=by omega
   rcases hs with h|h|h|h|h|h|h|h|h|h<;>rw [h]<;>decide
  have key:=z2t (b:=x6f std) d.length (fun i=>(z0h (z1f d),((c3 d.length:Int) - (sm i (fun q=>c2 (wn d q)):Nat),((d.length:Int),((i:Int),()))))) (((C1 d d.length:Nat):Int),()) (fun i hi=>by
   have hw:=z0x (i:=i) (by omega)
   have hlt:(i:Int)<d.length:=by omega
   have h0:(0:Int)≤i:=by omega
   have hget:=z86 h hi
   have hwl:=z2q d
   have hb:=hbnd i (by omega)
   have hwi:=w0y h hi
   have hc:=y9x (w:=wn d i) (by omega)
   have e1:IntKind.i64.wrap (((wn d i:Nat):Int) - 1)=((wn d i:Nat):Int) - 1:=z31 _ (by omega) (by omega)
   have hmul:0≤2*(c2 (wn d i):Int)∧2*(c2 (wn d i):Int)≤90:=by omega
   have e0:((wn d i:Nat):Int)*(((wn d i:Nat):Int) - 1)=2*(c2 (wn d i):Nat):=by
    have h2:=w3g (wn d i)
    cases hwn:wn d i with
    |zero=>rfl
    |succ w=>
     rw [hwn,Nat.add_sub_cancel] at h2
     have e1:(((w+1:Nat):Int) - 1)=(w:Int):=by omega
     rw [e1]
     have:=congrArg (fun (n:Nat)=>(n:Int)) h2
     simp only [Int.natCast_mul] at this
     rw [←this]; rfl
   have e2:IntKind.i64.wrap (((wn d i:Nat):Int)*(((wn d i:Nat):Int) - 1))=((wn d i:Nat):Int)*(((wn d i:Nat):Int) - 1):=z31 _ (by rw [e0]; omega) (by rw [e0]; omega)
   have e3:IntKind.i64.wrap (c2 (wn d i):Int)=(c2 (wn d i):Int):=z31 _ (by omega) (by omega)
   have e4:IntKind.i64.wrap ((c3 d.length:Int) - (sm i (fun q=>c2 (wn d q)):Nat) - (c2 (wn d i):Int))=(c3 d.length:Int) - (sm (i+1) (fun q=>c2 (wn d q)):Nat):=by
    rw [z2k]
    have:(c3 d.length:Int) - ((sm i (fun q=>c2 (wn d q))+c2 (wn d i):Nat):Int)=(c3 d.length:Int) - (sm i (fun q=>c2 (wn d q)):Nat) - (c2 (wn d i):Int):=by omega
    rw [this]
    exact z31 _ (by omega) (by omega)
   have h2ne:¬ ((2:Int)=0):=by decide
   simp only [x6f,z01,z02,z0h,hwl,hlt,h0,ge_iff_le,z0e,z1h,z7x,z7w,hw,hget,z0j,z1l,e1,e2,w0p,e3,e4,h2ne,decide_true,decide_false,cond_true,Bool.not_false]) (by
   have hn:¬ (d.length:Int)<d.length:=by omega
   have e:(c3 d.length:Int) - (sm d.length (fun q=>c2 (wn d q)):Nat)=((C1 d d.length:Nat):Int):=by
    rw [v2n]
    have:sm d.length (fun q=>c2 (wn d q))=sm d.length fun i=>c2 (cnt d.length (bt d i)):=rfl
    omega
   simp only [x6f,z01,z02,hn,e])
  have hz:(c3 d.length:Int) - (sm 0 (fun q=>c2 (wn d q)):Nat)=(c3 d.length:Int):=by
   have:sm 0 (fun q=>c2 (wn d q))=0:=rfl
   rw [this]; simp
  rw [hz] at key
  have key':it0 _ _ (x6f std) (z0h (z1f d),((c3 d.length:Int),((d.length:Int),((0:Int),()))))=some (((C1 d d.length:Nat):Int),()):=key
  have hwl:=z2q d
  have e6:IntKind.i64.wrap ((IntKind.i64.wrap (IntKind.i64.wrap ((d.length:Int)*IntKind.i64.wrap ((d.length:Int) - 1))*IntKind.i64.wrap ((d.length:Int) - 2))).tdiv 6)=(c3 d.length:Int):=by
   have hs:d.length=1∨d.length=2∨d.length=3∨d.length=4∨d.length=5∨d.length=6∨d.length=7∨d.length=8∨d.length=9∨d.length=10:=by omega
   rcases hs with h|h|h|h|h|h|h|h|h|h<;>rw [h]<;>decide
  have h6ne:¬ ((6:Int)=0):=by decide
  simp only [g36,z01,z02,eq_self,not_true,not_false_eq_true,decide_true,decide_false,Bool.not_true,Bool.not_false,Int.reduceLT,Int.reduceNeg,Int.reduceGT,cond_true,cond_false,h35,h,z1k,hwl,z1h,z7x,z7w,e6,key',h6ne,ne_eq]
  done
 ·rw [if_neg h] at h35
  simp only [g36,z01,z02,eq_self,not_true,not_false_eq_true,decide_true,decide_false,Bool.not_true,Bool.not_false,Int.reduceLT,Int.reduceNeg,Int.reduceGT,cond_true,cond_false,h35,h,ne_eq]
  done
end Go.Am
end
noncomputable section
namespace Go.Am
def w6h:Ctr:=
 ⟨24,[.list 1, .list 1],[],[(.ret,⟨[(0, .int .i64)],[],1⟩)]⟩
def la24:List LA:=
 [⟨24,[false,true,false,true,true,true,true,true,true,true],0,⟨⟨[(1, .list 1),(5, .bptr 0 0),(8, .int .i64)],[.row [ci]],59⟩,[(AX.ret,⟨[(4, .int .i64)],[],59⟩),((AX.exit 1),⟨[],[],59⟩)]⟩⟩]
def ja24:List JA:=
 [⟨24,[true,false,false,true,true],0,[(AX.ret,⟨[(4, .int .i64)],[],59⟩),(AX.normal,⟨[(1, .list 1),(5, .bptr 0 0)],[.row [ci]],59⟩)]⟩]
def v1c:List CF:=
 [⟨x8t,G56⟩,⟨w0l,v3i⟩,⟨x5m,G54⟩]
def an24:Anns:=
 ⟨v1c,ja24,[]⟩
def v17 (p:Prim):(LD×(LD×T1))→Option ((LD×(LD×T1))⊕T15):=
 fun a=>opt.run _ (
 opt.ask _ (p.cmp .lss a.2.2.1 (p.ofNat (p.len a.2.1))) (
 opt.need _ (p.rowOk a.2.1 (p.nat (p.ar .sub .i64 a.2.2.1 (1:Int))) [ci])<|
 opt.need _ (p.cmp .geq (p.ar .sub .i64 a.2.2.1 (1:Int)) (0:Int))<|
 opt.need _ (p.rowOk a.2.1 (p.nat a.2.2.1) [ci])<|
 opt.need _ (p.cmp .geq a.2.2.1 (0:Int))<|
 opt.need _ (bif (p.cmp .geq (p.rdI a.2.1 (p.nat (p.ar .sub .i64 a.2.2.1 (1:Int))) 0) (0:Int)) then (p.cmp .lss (p.rdI a.2.1 (p.nat (p.ar .sub .i64 a.2.2.1 (1:Int))) 0) (p.ofNat 10)) else Bool.false)<|
 opt.need _ (bif (p.cmp .geq (p.rdI a.2.1 (p.nat a.2.2.1) 0) (0:Int)) then (p.cmp .lss (p.rdI a.2.1 (p.nat a.2.2.1) 0) (p.ofNat 10)) else Bool.false)<|
 opt.need _ (p.rowOk a.1 (p.add (p.add 1 (p.mul (p.nat (p.rdI a.2.1 (p.nat (p.ar .sub .i64 a.2.2.1 (1:Int))) 0)) 10)) (p.nat (p.rdI a.2.1 (p.nat a.2.2.1) 0))) [ci])<|
 opt.ask _ (bif (p.cmp .eql (p.rdI a.1 (p.add (p.add 1 (p.mul (p.nat (p.rdI a.2.1 (p.nat (p.ar .sub .i64 a.2.2.1 (1:Int))) 0)) 10)) (p.nat (p.rdI a.2.1 (p.nat a.2.2.1) 0))) 0) (1:Int)) then Bool.false else Bool.true) (
 opt.ret _ (Sum.inr (Sum.inl ((16:Int),())))) (
 opt.ret _ (Sum.inl (a.1,(a.2.1,((p.ar .add .i64 a.2.2.1 (1:Int)),())))))) (
 opt.ret _ (Sum.inr (Sum.inr ()))))
def v18 (p:Prim):(LD×(LD×T1))→Option ((LD×(LD×T1))⊕T15):=
 fun a=>opt.run _ (
 opt.ask _ (p.cmp .lss a.2.2.1 (p.ofNat (p.len a.2.1))) (
 opt.need _ (p.rowOk a.2.1 (p.nat (p.ar .sub .i64 a.2.2.1 (1:Int))) [ci])<|
 opt.need _ (p.cmp .geq (p.ar .sub .i64 a.2.2.1 (1:Int)) (0:Int))<|
 opt.need _ (p.rowOk a.2.1 (p.nat a.2.2.1) [ci])<|
 opt.need _ (p.cmp .geq a.2.2.1 (0:Int))<|
 opt.need _ (bif (p.cmp .geq (p.rdI a.2.1 (p.nat (p.ar .sub .i64 a.2.2.1 (1:Int))) 0) (0:Int)) then (p.cmp .lss (p.rdI a.2.1 (p.nat (p.ar .sub .i64 a.2.2.1 (1:Int))) 0) (p.ofNat 10)) else Bool.false)<|
 opt.need _ (bif (p.cmp .geq (p.rdI a.2.1 (p.nat a.2.2.1) 0) (0:Int)) then (p.cmp .lss (p.rdI a.2.1 (p.nat a.2.2.1) 0) (p.ofNat 10)) else Bool.false)<|
 opt.need _ (p.rowOk a.1 (p.add (p.add 1 (p.mul (p.nat (p.rdI a.2.1 (p.nat (p.ar .sub .i64 a.2.2.1 (1:Int))) 0)) 10)) (p.nat (p.rdI a.2.1 (p.nat a.2.2.1) 0))) [ci])<|
 opt.ask _ (bif (p.cmp .eql (p.rdI a.1 (p.add (p.add 1 (p.mul (p.nat (p.rdI a.2.1 (p.nat (p.ar .sub .i64 a.2.2.1 (1:Int))) 0)) 10)) (p.nat (p.rdI a.2.1 (p.nat a.2.2.1) 0))) 0) (1:Int)) then Bool.false else Bool.true) (
 opt.ret _ (Sum.inr (Sum.inl ((16:Int),())))) (
 opt.ret _ (Sum.inl (a.1,(a.2.1,((p.ar .add .i64 a.2.2.1 (1:Int)),())))))) (
 opt.ret _ (Sum.inr (Sum.inr ()))))
def g24 (it:It):(p:Prim)→(LD×(LD×Unit))→Option T2:=
 fun p x=>
 opt.alt T2 ((LD×T1)) _ (g54 it p (x.1,())) (fun a=>
 opt.alt T2 ((LD×(LD×Unit))) _ (
 opt.run T34 (
 opt.ask _ (p.cmp .neq a.1 (0:Int)) (
 opt.ret _ (Sum.inl (a.1,()))) (
 opt.no _ 41))) (fun b=>
 opt.ret _ (b.1,())) (fun c=>
 opt.bnd ((LD×(LD×Unit))) _ (some c) fun d=>
 opt.need _ (p.and (p.cmp .geq (p.ofNat (p.len d.2.1)) (0:Int)) (p.and (p.cmp .leq (p.ofNat (p.len d.2.1)) (p.ofNat (p.len d.2.1))) (p.cmp .leq (p.ofNat (p.len d.2.1)) (1000000:Int))))<|
 opt.need _ (p.and Bool.true (p.and (p.leN (p.len d.2.1) (p.nat (p.ofNat (p.len d.2.1)))) (p.leN (p.add 0 (p.nat (p.ofNat (p.len d.2.1)))) (p.len (p.rep (p.nat (p.ofNat (p.len d.2.1))) k0k)))))<|
 opt.need _ (p.eqN 0 0)<|
 opt.need _ (p.eqN (p.nat (p.ofNat (p.len d.2.1))) (p.len (p.splice (p.rep (p.nat (p.ofNat (p.len d.2.1))) k0k) 0 d.2.1)))<|
 opt.need _ (p.eqN (p.nat (p.ofNat (p.len d.2.1))) (p.len (p.splice (p.rep (p.nat (p.ofNat (p.len d.2.1))) k0k) 0 d.2.1)))<|
 opt.bnd ((LD×Unit)) _ (w5h it p ((p.splice (p.rep (p.nat (p.ofNat (p.len d.2.1))) k0k) 0 d.2.1),())) fun e=>
 opt.need _ (p.rowOk d.1 0 [ci])<|
 opt.need _ (p.and (p.leN (p.add 0 (p.nat (p.ofNat (p.len d.2.1)))) (p.len e.1)) (p.and Bool.true Bool.true))<|
 opt.bnd T0 _ (g56 it p ((p.cut e.1 0 (p.nat (p.ofNat (p.len d.2.1)))),((p.rdI d.1 0 0),()))) fun f=>
 opt.ask _ (bif f.1 then Bool.false else Bool.true) (
 opt.ret _ ((3:Int),())) (
 opt.alt T2 (Unit) _ (
 it _ _ (v18 p) (d.1,(d.2.1,((1:Int),())))) (fun g=>
 opt.ret _ (g.1,())) (fun h=>
 opt.bnd (Unit) _ (some h) fun i=>
 opt.ret _ ((0:Int),()))))) (fun j=>
 opt.bnd ((LD×T1)) _ (some j) fun k=>
 opt.alt T2 ((LD×(LD×Unit))) _ (
 opt.run T34 (
 opt.ask _ (p.cmp .neq k.2.1 (0:Int)) (
 opt.ret _ (Sum.inl (k.2.1,()))) (
 opt.need _ (p.rowOk k.1 0 [ci])<|
 opt.ask _ (p.cmp .neq (p.ofNat (p.len x.2.1)) (p.rdI k.1 0 0)) (
 opt.ret _ (Sum.inl ((15:Int),()))) (
 opt.ret _ (Sum.inr (k.1,(x.2.1,()))))))) (fun l=>
 opt.ret _ (l.1,())) (fun m=>
 opt.bnd ((LD×(LD×Unit))) _ (some m) fun n=>
 opt.need _ (p.and (p.cmp .geq (p.ofNat (p.len n.2.1)) (0:Int)) (p.and (p.cmp .leq (p.ofNat (p.len n.2.1)) (p.ofNat (p.len n.2.1))) (p.cmp .leq (p.ofNat (p.len n.2.1)) (1000000:Int))))<|
 opt.need _ (p.and Bool.true (p.and (p.leN (p.len n.2.1) (p.nat (p.ofNat (p.len n.2.1)))) (p.leN (p.add 0 (p.nat (p.ofNat (p.len n.2.1)))) (p.len (p.rep (p.nat (p.ofNat (p.len n.2.1))) k0k)))))<|
 opt.need _ (p.eqN 0 0)<|
 opt.need _ (p.eqN (p.nat (p.ofNat (p.len n.2.1))) (p.len (p.splice (p.rep (p.nat (p.ofNat (p.len n.2.1))) k0k) 0 n.2.1)))<|
 opt.need _ (p.eqN (p.nat (p.ofNat (p.len n.2.1))) (p.len (p.splice (p.rep (p.nat (p.ofNat (p.len n.2.1))) k0k) 0 n.2.1)))<|
 opt.bnd ((LD×Unit)) _ (w5h it p ((p.splice (p.rep (p.nat (p.ofNat (p.len n.2.1))) k0k) 0 n.2.1),())) fun o=>
 opt.need _ (p.rowOk n.1 0 [ci])<|
 opt.need _ (p.and (p.leN (p.add 0 (p.nat (p.ofNat (p.len n.2.1)))) (p.len o.1)) (p.and Bool.true Bool.true))<|
 opt.bnd T0 _ (g56 it p ((p.cut o.1 0 (p.nat (p.ofNat (p.len n.2.1)))),((p.rdI n.1 0 0),()))) fun q=>
 opt.ask _ (bif q.1 then Bool.false else Bool.true) (
 opt.ret _ ((3:Int),())) (
 opt.alt T2 (Unit) _ (
 it _ _ (v17 p) (n.1,(n.2.1,((1:Int),())))) (fun r=>
 opt.ret _ (r.1,())) (fun t=>
 opt.bnd (Unit) _ (some t) fun u=>
 opt.ret _ ((0:Int),())))))
def G24:=g24 it0
theorem ok24:CtrOk PG w6h (G24 std):=okF (a:=an24) (l:=la24) (gC w8s (gC w8u (gC w7s (gN)))) (by kernel_rfl) fun _ _=>by kernel_rfl
end Go.Am
end
section
namespace Go.Am
open T11
variable {fl:List Int→Bool}
def v3a (o:List Int) (n:Nat) (i:Nat):Prop:=gI o i<0∨(n:Int)≤gI o i∨∃ k∈List.range i,gI o i=gI o k
instance v1m (o:List Int) (n i:Nat):Decidable (v3a o n i):=by unfold v3a; infer_instance
def w75 (d:List (List Int)) (o:List Int) (i:Nat):Prop:=bt d (gI o i).toNat (gI o (i+1)).toNat=false
instance v1n (d:List (List Int)) (o:List Int) (i:Nat):Decidable (w75 d o i):=by unfold w75; infer_instance
def anyN (d:List (List Int)) (o:List Int):Prop:=∃ i∈List.range (d.length - 1),w75 d o i
instance v1o (d:List (List Int)) (o:List Int):Decidable (anyN d o):=inferInstanceAs (Decidable (∃ i,i∈List.range (d.length - 1)∧w75 d o i))
theorem x9q {n:Nat} {x:Int}:x∈y3r n↔0≤x∧x<n:=by
 rw [y3r,List.mem_map]
 constructor
 ·rintro ⟨a,ha,rfl⟩; have:=List.mem_range.1 ha; omega
 ·rintro ⟨h1,h2⟩; exact ⟨x.toNat,List.mem_range.2 (by omega),by omega⟩
end Go.Am
end
noncomputable section
namespace Go.Am
def w57:Ctr:=
 ⟨43,[.list 1],[],[(.ret,⟨[(0, .tuple [.list 1, .int .i64])],[],1⟩)]⟩
def la43:List LA:=
 [⟨43,[false,true,false,true,true,true,true],0,⟨⟨[(0, .list 1),(4, .int .i64),(5, .vec 0 1),(6, .int .i64)],[.row [(CK.list 1)]],58⟩,[((AX.exit 0),⟨[(5, .vec 0 1)],[.row [(CK.list 1)]],58⟩)]⟩⟩,
 ⟨43,[false,true,false,true,false,false,true,false,false,true,false,true,true,true,true],0,⟨⟨[(0, .list 1),(4, .int .i64),(5, .vec 0 1),(6, .int .i64),(7, .vec 1 1),(8, .int .i64)],[.row [(CK.list 1)], .row [ci]],58⟩,[((AX.exit 2),⟨[(0, .list 1),(4, .int .i64),(5, .vec 0 1),(6, .int .i64),(7, .vec 1 1)],[.row [(CK.list 1)], .row [ci]],58⟩)]⟩⟩,
 ⟨43,[false,true,false,true,true,false,false,true,false,false,true,false,true,false,false,true,false,false,true,false,true,true,true,true],0,⟨⟨[(0, .list 1),(4, .int .i64),(5, .vec 0 1),(6, .int .i64),(7, .vec 1 1),(8, .int .i64),(9, .int .i64),(10, .full 2 1),(11, .int .i64)],[.row [(CK.list 1)], .row [ci], .row [ci]],58⟩,[((AX.exit 4),⟨[(0, .list 1),(4, .int .i64),(5, .vec 0 1),(6, .int .i64),(7, .vec 1 1),(8, .int .i64),(9, .int .i64)],[.row [(CK.list 1)], .row [ci]],58⟩)]⟩⟩]
def ja43:List JA:=
 [⟨43,[true,true,true,false,false,true,false,false,true,false,true,true,true,true],0,[(AX.normal,⟨[(0, .list 1),(4, .int .i64),(5, .vec 0 1),(6, .int .i64)],[.row [(CK.list 1)]],58⟩)]⟩,
 ⟨43,[true,true,true,true,false,false,true,false,false,true,false,true,false,false,true,false,false,true,false,true,true,true,true],0,[(AX.normal,⟨[(0, .list 1),(4, .int .i64),(5, .vec 0 1),(6, .int .i64),(7, .vec 1 1),(8, .int .i64)],[.row [(CK.list 1)], .row [ci]],58⟩)]⟩]
def v0v:List CF:=
 [⟨w6a,G39⟩,⟨x2r,G27⟩]
def an43:Anns:=
 ⟨v0v,ja43,[⟨43,[false,true,true,true,false,false,true,false,false,true,false,true,true,true,true],⟨[(0, .list 1),(4, .int .i64),(5, .vec 0 1),(6, .int .i64),(7, .list 1)],[.row [(CK.list 1)]],58⟩⟩]⟩
def x29 (p:Prim):(LD×(LD×(LD×(LD×T12))))→Option ((LD×(LD×(LD×(LD×T12))))⊕(LD×(LD×(LD×T6)))):=
 fun a=>opt.run _ (
 opt.ask _ (p.cmp .lss a.2.2.2.2.2.2.2.2.1 a.2.2.2.2.1) (
 opt.need _ (bif (p.cmp .geq a.2.2.2.2.2.2.2.2.1 (0:Int)) then (p.cmp .lss a.2.2.2.2.2.2.2.2.1 (p.ofNat (p.len a.2.2.1))) else Bool.false)<|
 opt.need _ (p.rowOk a.2.2.1 (p.add 0 (p.nat a.2.2.2.2.2.2.2.2.1)) [ci])<|
 opt.need _ (p.eqN 0 0)<|
 opt.need _ (p.eqN (p.len a.1) (p.len a.1))<|
 opt.need _ (p.eqN 0 0)<|
 opt.need _ (p.eqN (p.len a.2.1) (p.len a.2.1))<|
 opt.need _ (p.eqN 0 0)<|
 opt.need _ (p.eqN (p.len a.2.2.1) (p.len a.2.2.1))<|
 opt.need _ (p.eqN (p.len a.2.2.1) (p.len a.2.2.1))<|
 opt.ret _ (Sum.inl (a.1,(a.2.1,(a.2.2.1,(a.2.2.2.1,(a.2.2.2.2.1,(a.2.2.2.2.2.1,(a.2.2.2.2.2.2.1,((p.ar .add .i64 a.2.2.2.2.2.2.2.1 (p.rdI a.2.2.1 (p.add 0 (p.nat a.2.2.2.2.2.2.2.2.1)) 0)),((p.ar .add .i64 a.2.2.2.2.2.2.2.2.1 (1:Int)),()))))))))))) (
 opt.need _ (p.eqN 0 0)<|
 opt.need _ (p.eqN (p.len a.1) (p.len a.1))<|
 opt.need _ (p.eqN 0 0)<|
 opt.need _ (p.eqN (p.len a.2.1) (p.len a.2.1))<|
 opt.ret _ (Sum.inr (a.1,(a.2.1,(a.2.2.2.1,(a.2.2.2.2.1,(a.2.2.2.2.2.1,(a.2.2.2.2.2.2.1,(a.2.2.2.2.2.2.2.1,()))))))))))
def y9u (it:It) (p:Prim):(LD×(LD×(LD×T4)))→Option ((LD×(LD×(LD×T4)))⊕(LD×(LD×(LD×T3)))):=
 fun a=>opt.run _ (
 opt.ask _ (p.cmp .lss a.2.2.2.2.2.1 a.2.2.2.1) (
 opt.bnd ((LD×Unit)) _ (g39 it p (a.2.2.1,(a.2.2.2.2.2.1,()))) fun b=>
 opt.need _ (p.eqN 0 0)<|
 opt.need _ (p.eqN (p.len a.1) (p.len a.1))<|
 opt.need _ (p.eqN 0 0)<|
 opt.need _ (p.eqN (p.len a.2.1) (p.len a.2.1))<|
 opt.need _ (p.eqN 0 0)<|
 opt.need _ (p.eqN (p.len b.1) (p.len b.1))<|
 opt.need _ (p.eqN (p.len b.1) (p.len b.1))<|
 opt.bnd ((LD×(LD×(LD×T6)))) _ (
 it _ _ (x29 p) (a.1,(a.2.1,(b.1,(a.2.2.1,(a.2.2.2.1,(a.2.2.2.2.1,(a.2.2.2.2.2.1,((0:Int),((0:Int),())))))))))) fun c=>
 opt.bnd ((LD×(LD×(LD×T4)))) _ (
 opt.run ((LD×(LD×(LD×T4)))) (
 opt.ask _ (p.cmp .eql c.2.2.2.2.2.2.1 c.2.2.2.2.1) (
 opt.need _ (p.and (p.leN (p.add 0 1) (p.len [[(D.int .i64 c.2.2.2.2.2.1)]])) (p.and (p.leN (p.add 0 (p.len c.2.1)) (p.len c.2.1)) (p.and (p.leN 1 1) (p.leN (p.add (p.len c.2.1) 1) 1000000))))<|
 opt.need _ (p.eqN 0 0)<|
 opt.need _ (p.eqN (p.len c.1) (p.len c.1))<|
 opt.need _ (p.eqN 0 0)<|
 opt.need _ (p.eqN (p.add (p.len c.2.1) 1) (p.len (p.app (p.cut c.2.1 0 (p.len c.2.1)) (p.cut [[(D.int .i64 c.2.2.2.2.2.1)]] 0 1))))<|
 opt.ret _ (c.1,((p.app (p.cut c.2.1 0 (p.len c.2.1)) (p.cut [[(D.int .i64 c.2.2.2.2.2.1)]] 0 1)),(c.2.2.1,(c.2.2.2.1,(c.2.2.2.2.1,(c.2.2.2.2.2.1,()))))))) (
 opt.need _ (p.eqN 0 0)<|
 opt.need _ (p.eqN (p.len c.1) (p.len c.1))<|
 opt.need _ (p.eqN 0 0)<|
 opt.need _ (p.eqN (p.len c.2.1) (p.len c.2.1))<|
 opt.ret _ (c.1,(c.2.1,(c.2.2.1,(c.2.2.2.1,(c.2.2.2.2.1,(c.2.2.2.2.2.1,()))))))))) fun d=>
 opt.need _ (p.eqN 0 0)<|
 opt.need _ (p.eqN (p.len d.1) (p.len d.1))<|
 opt.need _ (p.eqN 0 0)<|
 opt.need _ (p.eqN (p.len d.2.1) (p.len d.2.1))<|
 opt.ret _ (Sum.inl (d.1,(d.2.1,(d.2.2.1,(d.2.2.2.1,(d.2.2.2.2.1,((p.ar .add .i64 d.2.2.2.2.2.1 (1:Int)),())))))))) (
 opt.need _ (p.eqN 0 0)<|
 opt.need _ (p.eqN (p.len a.1) (p.len a.1))<|
 opt.need _ (p.eqN 0 0)<|
 opt.need _ (p.eqN (p.len a.2.1) (p.len a.2.1))<|
 opt.ret _ (Sum.inr (a.1,(a.2.1,(a.2.2.1,(a.2.2.2.1,(a.2.2.2.2.1,()))))))))
def y9v (it:It) (p:Prim):(LD×(LD×T3))→Option ((LD×(LD×T3))⊕(LD×Unit)):=
 fun a=>opt.run _ (
 opt.ask _ (p.cmp .geq a.2.2.2.1 (1:Int)) (
 opt.need _ (p.eqN 0 0)<|
 opt.need _ (p.eqN (p.len a.1) (p.len a.1))<|
 opt.bnd ((LD×(LD×(LD×T3)))) _ (
 it _ _ (y9u it p) (a.1,([],(a.2.1,(a.2.2.1,(a.2.2.2.1,((0:Int),()))))))) fun b=>
 opt.bnd ((LD×(LD×T3))) _ (
 opt.run ((LD×(LD×T3))) (
 opt.ask _ (p.cmp .gtr (p.ofNat (p.len b.2.1)) (0:Int)) (
 opt.need _ (p.eqN 0 0)<|
 opt.need _ (p.eqN (p.len b.1) (p.len b.1))<|
 opt.need _ (p.leN (p.add 0 (p.len b.2.1)) (p.len b.2.1))<|
 opt.need _ (p.and (p.leN (p.add 0 1) (p.len [[(D.list Bool.false 1 (p.cut b.2.1 0 (p.len b.2.1)))]])) (p.and (p.leN (p.add 0 (p.len b.1)) (p.len b.1)) (p.and (p.leN 1 1) (p.leN (p.add (p.len b.1) 1) 1000000))))<|
 opt.need _ (p.eqN 0 0)<|
 opt.need _ (p.eqN (p.add (p.len b.1) 1) (p.len (p.app (p.cut b.1 0 (p.len b.1)) (p.cut [[(D.list Bool.false 1 (p.cut b.2.1 0 (p.len b.2.1)))]] 0 1))))<|
 opt.ret _ ((p.app (p.cut b.1 0 (p.len b.1)) (p.cut [[(D.list Bool.false 1 (p.cut b.2.1 0 (p.len b.2.1)))]] 0 1)),(b.2.2.1,(b.2.2.2.1,(b.2.2.2.2.1,()))))) (
 opt.need _ (p.eqN 0 0)<|
 opt.need _ (p.eqN (p.len b.1) (p.len b.1))<|
 opt.ret _ (b.1,(b.2.2.1,(b.2.2.2.1,(b.2.2.2.2.1,()))))))) fun c=>
 opt.need _ (p.eqN 0 0)<|
 opt.need _ (p.eqN (p.len c.1) (p.len c.1))<|
 opt.ret _ (Sum.inl (c.1,(c.2.1,(c.2.2.1,((p.ar .sub .i64 c.2.2.2.1 (1:Int)),())))))) (
 opt.need _ (p.eqN 0 0)<|
 opt.need _ (p.eqN (p.len a.1) (p.len a.1))<|
 opt.ret _ (Sum.inr (a.1,()))))
def g43 (it:It):(p:Prim)→(LD×Unit)→Option ((LD×T1)):=
 fun p x=>
 opt.bnd T2 _ (g27 it p (x.1,())) fun a=>
 opt.ask _ (p.cmp .neq a.1 (0:Int)) (
 opt.bnd T2 _ (g27 it p (x.1,())) fun b=>
 opt.ret _ ([],(b.1,()))) (
 opt.bnd ((LD×Unit)) _ (
 it _ _ (y9v it p) ([],(x.1,((p.ofNat (p.len x.1)),((p.ofNat (p.len x.1)),()))))) fun c=>
 opt.need _ (p.leN (p.add 0 (p.len c.1)) (p.len c.1))<|
 opt.ret _ ((p.cut c.1 0 (p.len c.1)),((0:Int),())))
def G43:=g43 it0
theorem ok43:CtrOk PG w57 (G43 std):=okF (a:=an43) (l:=la43) (gC ok39 (gC w4d (gN))) (by kernel_rfl) fun _ _=>by kernel_rfl
end Go.Am
end
noncomputable section
namespace Go.Am
def w5x:Ctr:=
 ⟨72,[.vec 0 1],[.row [ci]],[(.ret,⟨[(0, .tuple [])],[.row [ci]],1⟩)]⟩
def la72:List LA:=
 [⟨72,[false,true],1,⟨⟨[(0, .vec 0 1),(2, .int .i64),(3, .int .i64)],[.row [ci]],28⟩,[((AX.exit 0),⟨[],[.row [ci]],28⟩)]⟩⟩]
def ja72:List JA:=
 []
def v0g:List CF:=
 []
def an72:Anns:=
 ⟨v0g,ja72,[]⟩
def x6c (p:Prim):(LD×T3)→Option ((LD×T3)⊕(LD×Unit)):=
 fun a=>opt.run _ (
 opt.ask _ (p.cmp .lss a.2.1 a.2.2.1) (
 opt.need _ (bif (p.cmp .geq a.2.2.1 (0:Int)) then (p.cmp .lss a.2.2.1 (p.ofNat (p.len a.1))) else Bool.false)<|
 opt.need _ (p.rowOk a.1 (p.add 0 (p.nat a.2.2.1)) [ci])<|
 opt.need _ (bif (p.cmp .geq a.2.1 (0:Int)) then (p.cmp .lss a.2.1 (p.ofNat (p.len a.1))) else Bool.false)<|
 opt.need _ (p.rowOk a.1 (p.add 0 (p.nat a.2.1)) [ci])<|
 opt.need _ (bif (p.cmp .geq a.2.1 (0:Int)) then (p.cmp .lss a.2.1 (p.ofNat (p.len a.1))) else Bool.false)<|
 opt.need _ (p.rowOk a.1 (p.add 0 (p.nat a.2.1)) [ci])<|
 opt.need _ (bif (p.cmp .geq a.2.2.1 (0:Int)) then (p.cmp .lss a.2.2.1 (p.ofNat (p.len a.1))) else Bool.false)<|
 opt.need _ (p.rowOk (p.set a.1 (p.add 0 (p.nat a.2.1)) [(D.int .i64 (p.rdI a.1 (p.add 0 (p.nat a.2.2.1)) 0))]) (p.add 0 (p.nat a.2.2.1)) [ci])<|
 opt.need _ (p.eqN 0 0)<|
 opt.need _ (p.eqN (p.len a.1) (p.len (p.set (p.set a.1 (p.add 0 (p.nat a.2.1)) [(D.int .i64 (p.rdI a.1 (p.add 0 (p.nat a.2.2.1)) 0))]) (p.add 0 (p.nat a.2.2.1)) [(D.int .i64 (p.rdI a.1 (p.add 0 (p.nat a.2.1)) 0))])))<|
 opt.ret _ (Sum.inl ((p.set (p.set a.1 (p.add 0 (p.nat a.2.1)) [(D.int .i64 (p.rdI a.1 (p.add 0 (p.nat a.2.2.1)) 0))]) (p.add 0 (p.nat a.2.2.1)) [(D.int .i64 (p.rdI a.1 (p.add 0 (p.nat a.2.1)) 0))]),((p.ar .add .i64 a.2.1 (1:Int)),((p.ar .sub .i64 a.2.2.1 (1:Int)),()))))) (
 opt.ret _ (Sum.inr (a.1,()))))
def g72 (it:It):(p:Prim)→(LD×Unit)→Option ((LD×Unit)):=
 fun p x=>
 opt.need _ (p.eqN 0 0)<|
 opt.need _ (p.eqN (p.len x.1) (p.len x.1))<|
 opt.bnd ((LD×Unit)) _ (
 it _ _ (x6c p) (x.1,((0:Int),((p.ar .sub .i64 (p.ofNat (p.len x.1)) (1:Int)),())))) fun a=>
 opt.ret _ (a.1,())
def G72:=g72 it0
theorem ok72:CtrOk PG w5x (G72 std):=okF (a:=an72) (l:=la72) (gN) (by kernel_rfl) fun _ _=>by kernel_rfl
def w27:Ctr:=
 ⟨37,[.list 1],[],[(.ret,⟨[(0, .tuple [.list 1, .int .i64])],[],1⟩)]⟩
def la37:List LA:=
 [⟨37,[false,true,false,true,true,true,true,true,true,true,true],0,⟨⟨[(4, .vec 0 1),(6, .vec 1 1),(7, .int .i64),(8, .vec 2 1),(9, .int .i64),(10, .int .i64),(29, .vec 1 1),(30, .int .i64),(31, .int .i64)],[.row [ci], .row [ci], .row [(CK.list 1)]],70⟩,[((AX.exit 0),⟨[(8, .vec 0 1)],[.row [(CK.list 1)]],70⟩)]⟩⟩]
def ja37:List JA:=
 [⟨37,[true,true,true,true,false,false,true,true,false,false,true,false,true,true,true,true,true,true,true,true],0,[(AX.normal,⟨[(4, .vec 0 1),(6, .vec 1 1),(7, .int .i64),(8, .vec 2 1),(9, .int .i64),(10, .int .i64),(29, .vec 1 1),(30, .int .i64),(31, .int .i64)],[.row [ci], .row [ci], .row [(CK.list 1)]],70⟩)]⟩]
def v01:List CF:=
 [⟨w23,G73⟩,⟨w5x,G72⟩,⟨w24,G71⟩,⟨x5n,G35⟩]
def an37:Anns:=
 ⟨v01,ja37,[⟨37,[false,true,false,true,true,true,true,false,false,true,true,false,false,true,false,true,true,true,true,true,true,true,true],⟨[(4, .vec 0 1),(6, .vec 1 1),(7, .int .i64),(8, .vec 2 1),(10, .int .i64),(13, .int .i64),(14, .list 1),(29, .vec 1 1),(30, .int .i64),(31, .int .i64)],[.row [ci], .row [ci], .row [(CK.list 1)]],70⟩⟩]⟩
def y6c (it:It) (p:Prim):(LD×(LD×(LD×T12)))→Option ((LD×(LD×(LD×T12)))⊕(LD×Unit)):=
 fun a=>opt.run _ (
 opt.ask _ (p.cmp .lss a.2.2.2.2.2.2.2.1 a.2.2.2.2.2.2.1) (
 opt.need _ (bif (p.cmp .geq a.2.2.2.2.2.2.2.1 (0:Int)) then (p.cmp .lss a.2.2.2.2.2.2.2.1 (p.ofNat (p.len a.2.1))) else Bool.false)<|
 opt.need _ (p.rowOk a.2.1 (p.add 0 (p.nat a.2.2.2.2.2.2.2.1)) [ci])<|
 opt.need _ (bif (p.cmp .geq (p.rdI a.2.1 (p.add 0 (p.nat a.2.2.2.2.2.2.2.1)) 0) (0:Int)) then (p.cmp .lss (p.rdI a.2.1 (p.add 0 (p.nat a.2.2.2.2.2.2.2.1)) 0) (p.ofNat (p.len a.1))) else Bool.false)<|
 opt.need _ (p.rowOk a.1 (p.add 0 (p.nat (p.rdI a.2.1 (p.add 0 (p.nat a.2.2.2.2.2.2.2.1)) 0))) [ci])<|
 opt.need _ (p.cmp .neq (2:Int) (0:Int))<|
 opt.bnd ((LD×(LD×(LD×T12)))) _ (
 opt.run ((LD×(LD×(LD×T12)))) (
 opt.ask _ (p.cmp .eql (p.ar .add .i64 a.2.2.2.2.2.1 (p.rdI a.1 (p.add 0 (p.nat (p.rdI a.2.1 (p.add 0 (p.nat a.2.2.2.2.2.2.2.1)) 0))) 0)) (p.ar .add .i64 (p.ar .quo .i64 (p.ar .mul .i64 (p.ar .add .i64 a.2.2.2.2.2.2.2.1 (1:Int)) (p.ar .sub .i64 (p.ar .add .i64 a.2.2.2.2.2.2.2.1 (1:Int)) (1:Int))) (2:Int)) (p.ar .mul .i64 (p.ar .add .i64 a.2.2.2.2.2.2.2.1 (1:Int)) (p.ar .sub .i64 a.2.2.2.1 (p.ar .add .i64 a.2.2.2.2.2.2.2.1 (1:Int)))))) (
 opt.need _ (p.and (p.cmp .geq a.2.2.2.2.1 (0:Int)) (p.and (p.cmp .leq a.2.2.2.2.1 (p.ar .add .i64 a.2.2.2.2.2.2.2.1 (1:Int))) (p.cmp .leq (p.ar .add .i64 a.2.2.2.2.2.2.2.1 (1:Int)) (p.ofNat (p.len a.2.1)))))<|
 opt.bnd ((LD×(LD×T5))) _ (g73 it p (a.2.1,((p.add 0 (p.nat a.2.2.2.2.1)),((p.sub (p.nat (p.ar .add .i64 a.2.2.2.2.2.2.2.1 (1:Int))) (p.nat a.2.2.2.2.1)),())))) fun b=>
 opt.need _ (p.eqN 0 0)<|
 opt.need _ (p.eqN (p.len a.1) (p.len a.1))<|
 opt.need _ (p.eqN 0 0)<|
 opt.need _ (p.eqN (p.len a.2.1) (p.len b.1))<|
 opt.need _ (p.eqN 0 0)<|
 opt.need _ (p.eqN (p.len a.2.2.1) (p.len a.2.2.1))<|
 opt.need _ (p.leN (p.add 0 (p.len b.2.1)) (p.len b.2.1))<|
 opt.need _ (p.eqN 0 0)<|
 opt.need _ (p.eqN (p.len a.2.1) (p.len b.1))<|
 opt.need _ (p.and (p.leN (p.add 0 1) (p.len [[(D.list Bool.false 1 (p.cut b.2.1 0 (p.len b.2.1)))]])) (p.and (p.leN (p.add 0 (p.len a.2.2.1)) (p.len a.2.2.1)) (p.and (p.leN 1 1) (p.leN (p.add (p.len a.2.2.1) 1) 1000000))))<|
 opt.need _ (p.eqN 0 0)<|
 opt.need _ (p.eqN (p.len a.1) (p.len a.1))<|
 opt.need _ (p.eqN 0 0)<|
 opt.need _ (p.eqN (p.len b.1) (p.len b.1))<|
 opt.need _ (p.eqN 0 0)<|
 opt.need _ (p.eqN (p.add (p.len a.2.2.1) 1) (p.len (p.app (p.cut a.2.2.1 0 (p.len a.2.2.1)) (p.cut [[(D.list Bool.false 1 (p.cut b.2.1 0 (p.len b.2.1)))]] 0 1))))<|
 opt.need _ (p.eqN 0 0)<|
 opt.need _ (p.eqN (p.len b.1) (p.len b.1))<|
 opt.ret _ (a.1,(b.1,((p.app (p.cut a.2.2.1 0 (p.len a.2.2.1)) (p.cut [[(D.list Bool.false 1 (p.cut b.2.1 0 (p.len b.2.1)))]] 0 1)),(a.2.2.2.1,((p.ar .add .i64 a.2.2.2.2.2.2.2.1 (1:Int)),((p.ar .add .i64 a.2.2.2.2.2.1 (p.rdI a.1 (p.add 0 (p.nat (p.rdI a.2.1 (p.add 0 (p.nat a.2.2.2.2.2.2.2.1)) 0))) 0)),(a.2.2.2.2.2.2.1,(a.2.2.2.2.2.2.2.1,()))))))))) (
 opt.need _ (p.eqN 0 0)<|
 opt.need _ (p.eqN (p.len a.1) (p.len a.1))<|
 opt.need _ (p.eqN 0 0)<|
 opt.need _ (p.eqN (p.len a.2.1) (p.len a.2.1))<|
 opt.need _ (p.eqN 0 0)<|
 opt.need _ (p.eqN (p.len a.2.2.1) (p.len a.2.2.1))<|
 opt.need _ (p.eqN 0 0)<|
 opt.need _ (p.eqN (p.len a.2.1) (p.len a.2.1))<|
 opt.ret _ (a.1,(a.2.1,(a.2.2.1,(a.2.2.2.1,(a.2.2.2.2.1,((p.ar .add .i64 a.2.2.2.2.2.1 (p.rdI a.1 (p.add 0 (p.nat (p.rdI a.2.1 (p.add 0 (p.nat a.2.2.2.2.2.2.2.1)) 0))) 0)),(a.2.2.2.2.2.2.1,(a.2.2.2.2.2.2.2.1,()))))))))))) fun c=>
 opt.need _ (p.eqN 0 0)<|
 opt.need _ (p.eqN (p.len c.1) (p.len c.1))<|
 opt.need _ (p.eqN 0 0)<|
 opt.need _ (p.eqN (p.len c.2.1) (p.len c.2.1))<|
 opt.need _ (p.eqN 0 0)<|
 opt.need _ (p.eqN (p.len c.2.2.1) (p.len c.2.2.1))<|
 opt.need _ (p.eqN 0 0)<|
 opt.need _ (p.eqN (p.len c.2.1) (p.len c.2.1))<|
 opt.ret _ (Sum.inl (c.1,(c.2.1,(c.2.2.1,(c.2.2.2.1,(c.2.2.2.2.1,(c.2.2.2.2.2.1,(c.2.2.2.2.2.2.1,((p.ar .add .i64 c.2.2.2.2.2.2.2.1 (1:Int)),())))))))))) (
 opt.need _ (p.eqN 0 0)<|
 opt.need _ (p.eqN (p.len a.2.2.1) (p.len a.2.2.1))<|
 opt.ret _ (Sum.inr (a.2.2.1,()))))
def g37 (it:It):(p:Prim)→(LD×Unit)→Option ((LD×T1)):=
 fun p x=>
 opt.bnd ((LD×T1)) _ (g35 it p (x.1,())) fun a=>
 opt.ask _ (p.cmp .neq a.2.1 (0:Int)) (
 opt.ret _ ([],(a.2.1,()))) (
 opt.need _ (p.and (p.leN (p.add 0 (p.len a.1)) (p.len a.1)) Bool.true)<|
 opt.bnd ((LD×Unit)) _ (g71 it p ((p.cut a.1 0 (p.len a.1)),())) fun b=>
 opt.need _ (p.plain b.1)<|
 opt.need _ (p.eqN 0 0)<|
 opt.need _ (p.eqN (p.len b.1) (p.len b.1))<|
 opt.bnd ((LD×Unit)) _ (g72 it p (b.1,())) fun c=>
 opt.need _ (p.eqN 0 0)<|
 opt.need _ (p.eqN (p.len a.1) (p.len a.1))<|
 opt.need _ (p.eqN 0 0)<|
 opt.need _ (p.eqN (p.len b.1) (p.len c.1))<|
 opt.need _ (p.eqN 0 0)<|
 opt.need _ (p.eqN (p.len b.1) (p.len c.1))<|
 opt.bnd ((LD×Unit)) _ (
 it _ _ (y6c it p) (a.1,(c.1,([],((p.ofNat (p.len a.1)),((0:Int),((0:Int),((p.ofNat (p.len b.1)),((0:Int),()))))))))) fun d=>
 opt.need _ (p.leN (p.add 0 (p.len d.1)) (p.len d.1))<|
 opt.ret _ ((p.cut d.1 0 (p.len d.1)),((0:Int),())))
def G37:=g37 it0
theorem v2v:CtrOk PG w27 (G37 std):=okF (a:=an37) (l:=la37) (gC v2r (gC ok72 (gC v2s (gC w7t (gN))))) (by kernel_rfl) fun _ _=>by kernel_rfl
end Go.Am
end
section
namespace Go.Am
open T11
variable {fl:List Int→Bool}
def fz:List Int→Bool:=fun _=>false
def z2v (n:Nat) (R:Nat→Bool):List Int:=(List.range n).map fun k=>bif R k then 1 else 0
theorem z3c (n:Nat) (R:Nat→Bool):(z2v n R).length=n:=by simp [z2v]
theorem z5g {n:Nat} (R:Nat→Bool) {k:Nat} (hk:k<n):(z2v n R)[k]?=some (bif R k then 1 else 0):=by
 rw [z2v,List.getElem?_map,List.getElem?_range hk]; rfl
theorem y91 {n:Nat} {R R':Nat→Bool} (h:∀ k,k<n→R k=R' k):z2v n R=z2v n R':=by
 apply List.ext_getElem?
 intro k
 by_cases hk:k<n
 ·rw [z5g R hk,z5g R' hk,h k hk]
 ·rw [List.getElem?_eq_none (by rw [z3c]; omega),List.getElem?_eq_none (by rw [z3c]; omega)]
theorem y8d {n:Nat} (R:Nat→Bool) {j:Nat} (hj:j<n):(z2v n R).set j 1=z2v n fun x=>R x||decide (x=j):=by
 apply List.ext_getElem?
 intro k
 rw [List.getElem?_set,z3c]
 by_cases hk:k<n
 ·rw [z5g R hk,z5g _ hk]
  by_cases e:j=k
  ·subst e; rw [if_pos rfl,if_pos hj]; simp
  ·rw [if_neg e]; simp [Ne.symm e]
 ·rw [if_neg (by omega),List.getElem?_eq_none (by rw [z3c]; omega),List.getElem?_eq_none (by rw [z3c]; omega)]
def z95 (d:List (List Int)) (i:Nat) (R:Nat→Bool):Nat→Bool:=fun x=>R x||(R i&&bt d i x)
def z5i (d:List (List Int)) (R:Nat→Bool):Nat→Nat→Bool
 |0=>R
 |i+1=>z95 d i (z5i d R i)
def y3k (d:List (List Int)) (R:Nat→Bool):Nat→Nat→Bool
 |0=>R
 |r+1=>z5i d (y3k d R r) d.length
def z5u (d:List (List Int)) (i:Nat):Nat→Bool:=y3k d (fun x=>decide (x=i)) d.length
theorem z6f {d:List (List Int)} {R:Nat→Bool} {i j:Nat} (hij:i≤j) {x:Nat} (h:z5i d R i x=true):z5i d R j x=true:=by
 induction j with
 |zero=>rwa [show i=0 by omega] at h
 |succ j ih=>
  by_cases e:i=j+1
  ·rwa [e] at h
  ·rw [z5i,z95,ih (by omega)]; rfl
theorem y7f {d:List (List Int)} {R:Nat→Bool} (h:∀ x,x<d.length→z5i d R d.length x=true→R x=true):z91 (bt d) d.length R:=by
 intro i k hi hk hR hb
 refine h k hk (z6f (i:=i+1) (by omega) ?_)
 rw [z5i,z95,z6f (i:=0) (j:=i) (by omega) hR,hb]
 simp
theorem x39 {d:List (List Int)} {R:Nat→Bool} (h:z91 (bt d) d.length R) (i:Nat) (hi:i≤d.length):∀ x,x<d.length→z5i d R i x=R x:=by
 induction i with
 |zero=>intro x _; rfl
 |succ i ih=>
  intro x hx
  have ih:=ih (by omega)
  rw [z5i,z95,ih x hx,ih i (by omega)]
  cases hRx:R x with
  |true=>rfl
  |false=>
   cases hRi:R i with
   |false=>rfl
   |true=>
    cases hb:bt d i x with
    |false=>rfl
    |true=>rw [h i x (by omega) hx hRi hb] at hRx; cases hRx
theorem x7i {d:List (List Int)} {R C:Nat→Bool} (hC:z91 (bt d) d.length C) (h:∀ x,x<d.length→R x=true→C x=true) (i:Nat) (hi:i≤d.length):∀ x,x<d.length→z5i d R i x=true→C x=true:=by
 induction i with
 |zero=>exact h
 |succ i ih=>
  intro x hx hp
  have ih:=ih (by omega)
  rw [z5i,z95,Bool.or_eq_true,Bool.and_eq_true] at hp
  rcases hp with hp|⟨hp,hb⟩
  ·exact ih x hx hp
  ·exact hC i x (by omega) hx (ih i (by omega) hp) hb
theorem w1d {d:List (List Int)} {R C:Nat→Bool} (hC:z91 (bt d) d.length C) (h:∀ x,x<d.length→R x=true→C x=true) (r:Nat):∀ x,x<d.length→y3k d R r x=true→C x=true:=by
 induction r with
 |zero=>exact h
 |succ r ih=>exact x7i hC ih d.length (Nat.le_refl _)
theorem x1x {d:List (List Int)} {R:Nat→Bool} (h:1≤cnt d.length R) (r:Nat):z91 (bt d) d.length (y3k d R r)∨r+1≤cnt d.length (y3k d R r):=by
 induction r with
 |zero=>exact .inr h
 |succ r ih=>
  by_cases hc:z91 (bt d) d.length (y3k d R r)
  ·refine .inl fun i k hi hk hR hb=>?_
   have e:=x39 hc d.length (Nat.le_refl _)
   have hR:z5i d (y3k d R r) d.length i=true:=hR
   show z5i d (y3k d R r) d.length k=true
   rw [e i hi] at hR
   rw [e k hk]; exact hc i k hi hk hR hb
  ·rcases ih with ih|ih
   ·exact absurd ih hc
   ·refine .inr ?_
    have hle:cnt d.length (y3k d R r)≤cnt d.length (z5i d (y3k d R r) d.length):=y1p fun x hx hp=>z6f (i:=0) (by omega) hp
    have hne:cnt d.length (y3k d R r)≠cnt d.length (z5i d (y3k d R r) d.length):=by
     intro e
     refine hc (y7f fun x hx hp=>?_)
     have:=y1f (n:=d.length) (f:=fun i=>o1 (y3k d R r i)) (g:=fun i=>o1 (z5i d (y3k d R r) d.length i)) (fun i hi=>by
      cases hq:y3k d R r i with
      |false=>simp [o1]
      |true=>rw [z6f (i:=0) (by omega) hq]; exact Nat.le_refl _) e x hx
     simp only [hp,o1,cond_true] at this
     cases hq:y3k d R r x with
     |true=>rfl
     |false=>rw [hq] at this; cases this
    show r+1+1≤cnt d.length (z5i d (y3k d R r) d.length)
    omega
theorem x3z {d:List (List Int)} {R:Nat→Bool} (r:Nat) {x:Nat} (h:R x=true):y3k d R r x=true:=by
 induction r with
 |zero=>exact h
 |succ r ih=>exact z6f (i:=0) (by omega) ih
theorem y74 (d:List (List Int)) {i:Nat} (hi:i<d.length):Rch (bt d) d.length i (z5u d i):=by
 refine ⟨x3z _ (by simp),?_,fun C hC hCi k hk hR=>w1d hC (fun x hx hx'=>by rw [of_decide_eq_true hx']; exact hCi) _ k hk hR⟩
 have h1:1≤cnt d.length fun x=>decide (x=i):=y9r hi (by simp)
 rcases x1x h1 d.length with h|h
 ·exact h
 ·have:=y75 d.length (z5u d i)
  have h:d.length+1≤cnt d.length (z5u d i):=h
  omega
theorem x9l (d:List (List Int)) (h10:d.length≤1000) (hd:∀ i,i<d.length→∀ x∈d.getD i [],0≤x∧x<d.length) (hr:∀ l∈d,l.length≤1000000) (R:Nat→Bool) (r:Int) (i:Nat) (hi:i<d.length):
  z4n (y6e std) (z0h (z2v d.length R),(z0d fl d,(r,((i:Int),((0:Int),())))))=some (z0h (z2v d.length (z95 d i R)),(z0d fl d,(r,((i:Int),())))):=by
 obtain ⟨m,hm⟩:=z1e hi
 have hmg:d.getD i []=m:=z1g hm
 have hml:=hr m (List.mem_of_getElem? hm)
 have hi0:(0:Int)≤i:=by omega
 have hin:(i:Int)<d.length:=by omega
 cases hR:R i with
 |false=>
  have e:z95 d i R=R:=by funext x; simp [z95,hR]
  have hb:y6e std (z0h (z2v d.length R),(z0d fl d,(r,((i:Int),((0:Int),())))))=some (.inr (z0h (z2v d.length R),(z0d fl d,(r,((i:Int),()))))):=by
   have hg:=z5g R hi
   rw [hR] at hg
   have hbl:=z3c d.length R
   generalize z2v d.length R=B at hg hbl⊢
   have hEl:(B.map eI).length=d.length:=by rw [List.length_map,hbl]
   have hne:¬ ((0:Int)=1):=by decide
   simp only [cond_false] at hg
   by_cases c:(0:Int)<(m.length:Int)
   ·simp only [y6e,z01,z02,z0h,z0j,z1l,z1y,z0n,z0d,eq_self,not_true,not_false_eq_true,decide_true,decide_false,Bool.not_true,Bool.not_false,Int.reduceLT,Int.reduceNeg,Int.reduceGT,cond_true,cond_false,hm,hg,hEl,hbl,c,hi0,hin,ge_iff_le,hne]
   ·simp only [y6e,z01,z02,z0h,z0j,z1l,z1y,z0n,z0d,eq_self,not_true,not_false_eq_true,decide_true,decide_false,Bool.not_true,Bool.not_false,Int.reduceLT,Int.reduceNeg,Int.reduceGT,cond_true,cond_false,hm,hg,hEl,hbl,c,hi0,hin,ge_iff_le,hne]
  rw [z0y,hb,e]
 |true=>
  have key:=z2t (b:=y6e std) m.length (fun k=>(z0h (z2v d.length fun x=>R x||decide ((x:Int)∈m.take k)),(z0d fl d,(r,((i:Int),((k:Int),())))))) (z0h (z2v d.length (z95 d i R)),(z0d fl d,(r,((i:Int),())))) (fun k hk=>by
   have hx:=z5t hk
   have hxm:=hd i hi (gI m k) (by rw [hmg]; exact List.mem_of_getElem? hx)
   have hw:=z0x (i:=k) (by omega)
   have hlt:(k:Int)<m.length:=by omega
   have h0:(0:Int)≤k:=by omega
   have hg:=z5g (fun x=>R x||decide ((x:Int)∈m.take k)) hi
   simp only [hR,Bool.true_or,cond_true] at hg
   have hset:(z2v d.length fun x=>R x||decide ((x:Int)∈m.take k)).set (gI m k).toNat 1=z2v d.length fun x=>R x||decide ((x:Int)∈m.take (k+1)):=by
    rw [y8d _ (by omega)]
    refine y91 fun x hx'=>?_
    have ht:m.take (k+1)=m.take k++[gI m k]:=by
     rw [List.take_succ_eq_append_getElem hk,(List.getElem?_eq_some_iff.1 hx).2]
    have:decide ((x:Int)∈m.take (k+1))=(decide ((x:Int)∈m.take k)||decide (x=(gI m k).toNat)):=by
     rw [ht]
     by_cases a:(x:Int)∈m.take k<;>by_cases b:x=(gI m k).toNat<;>simp [a,b]<;>omega
    rw [this,Bool.or_assoc]
   rw [←hset]
   have hbl:=z3c d.length fun x=>R x||decide ((x:Int)∈m.take k)
   generalize (z2v d.length fun x=>R x||decide ((x:Int)∈m.take k))=B at hg hbl⊢
   have hEl:(B.map eI).length=d.length:=by rw [List.length_map,hbl]
   have hms:(B.set (gI m k).toNat 1).map eI=(B.map eI).set (gI m k).toNat (eI 1):=by rw [List.map_set]
   obtain ⟨hx0,hx1⟩:=hxm
   have hg2:=z5t (l:=B) (q:=(gI m k).toNat) (by omega)
   simp only [y6e,z01,z02,z0h,z0j,z1l,z1y,z0n,z0d,eq_self,not_true,not_false_eq_true,decide_true,decide_false,Bool.not_true,Bool.not_false,Int.reduceLT,Int.reduceNeg,Int.reduceGT,cond_true,cond_false,hm,hg,hg2,hx,hEl,hbl,hlt,h0,hi0,hin,hx0,hx1,ge_iff_le,z0e,hw,z6b,hms,List.length_set]) (by
   have e:(fun x=>R x||decide ((x:Int)∈m.take m.length))=z95 d i R:=by
    funext x
    rw [List.take_length,z95,hR,Bool.true_and,x59 hm]
   have hn:¬ (m.length:Int)<m.length:=by omega
   rw [e]
   have hbl:=z3c d.length (z95 d i R)
   generalize z2v d.length (z95 d i R)=B at hbl⊢
   have hEl:(B.map eI).length=d.length:=by rw [List.length_map,hbl]
   simp only [y6e,z01,z02,z0h,z0j,z1l,z1y,z0n,z0d,eq_self,not_true,not_false_eq_true,decide_true,decide_false,Bool.not_true,Bool.not_false,Int.reduceLT,Int.reduceNeg,Int.reduceGT,cond_true,cond_false,hm,hEl,hbl,hi0,hin,ge_iff_le,hn])
  have e0:(fun x=>R x||decide ((x:Int)∈m.take 0))=R:=by funext x; simp
  rw [e0] at key
  exact key
theorem x89 (d:List (List Int)) (h10:d.length≤1000) (hd:∀ i,i<d.length→∀ x∈d.getD i [],0≤x∧x<d.length) (hr:∀ l∈d,l.length≤1000000) (R:Nat→Bool) (r:Int):
  z4n (x24 it0 std) (z0h (z2v d.length R),(z0d fl d,(r,((0:Int),()))))=some (z0h (z2v d.length (z5i d R d.length)),(z0d fl d,(r,()))):=by
 exact z2t (b:=x24 it0 std) d.length (fun i=>(z0h (z2v d.length (z5i d R i)),(z0d fl d,(r,((i:Int),()))))) _ (fun i hi=>by
  have hw:=z0x (i:=i) (by omega)
  have hlt:(i:Int)<d.length:=by omega
  have h1:it0 _ _ (y6e std) (z0h (z2v d.length (z5i d R i)),(z0d fl d,(r,((i:Int),((0:Int),())))))=_:=x9l d h10 hd hr (z5i d R i) r i hi
  simp only [x24,z01,z02,eq_self,not_true,not_false_eq_true,decide_true,decide_false,Bool.not_true,Bool.not_false,Int.reduceLT,Int.reduceNeg,Int.reduceGT,cond_true,cond_false,z04,hlt,h1,z0e,hw,z5i]) (by
  have hn:¬ (d.length:Int)<d.length:=by omega
  simp only [x24,z01,z02,eq_self,not_true,not_false_eq_true,decide_true,decide_false,Bool.not_true,Bool.not_false,Int.reduceLT,Int.reduceNeg,Int.reduceGT,cond_true,cond_false,z04,hn])
theorem w68 (d:List (List Int)) (h10:d.length≤1000) (hd:∀ i,i<d.length→∀ x∈d.getD i [],0≤x∧x<d.length) (hr:∀ l∈d,l.length≤1000000) (i:Nat) (hi:i<d.length):
  G39 std (z0d fl d,((i:Int),()))=some (z0h (z2v d.length (z5u d i)),()):=by
 have key:it0 _ _ (x56 it0 std) (z0h (z2v d.length fun x=>decide (x=i)),(z0d fl d,((0:Int),())))=some (z0h (z2v d.length (z5u d i)),()):=
  z2t (b:=x56 it0 std) d.length (fun r=>(z0h (z2v d.length (y3k d (fun x=>decide (x=i)) r)),(z0d fl d,((r:Int),())))) (z0h (z2v d.length (z5u d i)),()) (fun r hr'=>by
   have hw:=z0x (i:=r) (by omega)
   have hlt:(r:Int)<d.length:=by omega
   have h1:it0 _ _ (x24 it0 std) (z0h (z2v d.length (y3k d (fun x=>decide (x=i)) r)),(z0d fl d,((r:Int),((0:Int),()))))=_:=x89 d h10 hd hr _ r
   simp only [x56,z01,z02,eq_self,not_true,not_false_eq_true,decide_true,decide_false,Bool.not_true,Bool.not_false,Int.reduceLT,Int.reduceNeg,Int.reduceGT,cond_true,cond_false,z04,hlt,h1,z0e,hw,y3k]) (by
   have hn:¬ (d.length:Int)<d.length:=by omega
   simp only [x56,z01,z02,eq_self,not_true,not_false_eq_true,decide_true,decide_false,Bool.not_true,Bool.not_false,Int.reduceLT,Int.reduceNeg,Int.reduceGT,cond_true,cond_false,z04,hn,z5u])
 have hset:(List.replicate d.length (eI 0)).set i (eI 1)=z0h (z2v d.length fun x=>decide (x=i)):=by
  have:=y8d (n:=d.length) (fun _=>false) hi
  have e:z2v d.length (fun _=>false)=List.replicate d.length 0:=by
   rw [z2v]
   simp only [cond_false,List.map_const',List.length_range]
  rw [e] at this
  simp only [Bool.false_or] at this
  rw [←this,z0h,List.map_set,List.map_replicate]
 have hi0:(0:Int)≤i:=by omega
 have hin:(i:Int)<d.length:=by omega
 have hn0:(0:Int)≤d.length:=by omega
 have hnm:(d.length:Int)≤1000000:=by omega
 have hl:(z0h (z2v d.length fun x=>decide (x=i))).length=d.length:=by rw [z1k,z3c]
 have hri:(List.replicate d.length (eI 0))[i]?=some (eI 0):=by simp [hi]
 unfold G39
 simp only [g39,z01,z02,eq_self,not_true,not_false_eq_true,decide_true,decide_false,Bool.not_true,Bool.not_false,Int.reduceLT,Int.reduceNeg,Int.reduceGT,cond_true,cond_false,hri,z0j,z04,hi0,hin,hn0,hnm,ge_iff_le,Int.le_refl,Bool.and_true,z6b,hset,hl,key]
theorem x9z (l:List Int):[D.list false 1 (z0h l)]=eLf fz l:=rfl
theorem x06 (a:List (List Int)) (l:List Int):z0d fz (a++[l])=z0d fz a++[eLf fz l]:=by simp [z0d]
def rcD (d:List (List Int)) (i:Nat):Nat:=cnt d.length (z5u d i)
theorem w4b (d:List (List Int)):RC (bt d) d.length (rcD d):=fun i hi=>⟨z5u d i,y74 d hi,rfl⟩
def toI (l:List Nat):List Int:=l.map fun (n:Nat)=>(n:Int)
theorem w02 (a b:List Nat):toI (a++b)=toI a++toI b:=by simp [toI]
theorem y45 (l:List Nat):(toI l).length=l.length:=by simp [toI]
def z13 (d:List (List Int)):List (List Int):=(RG (rcD d) d.length d.length).map toI
theorem x9k (out l:List (List D)) (d:List (List Int)) (R:Nat→Bool) (reach i:Int) (h10:d.length≤1000):
  z4n (x29 std) (out,(l,(z0h (z2v d.length R),(z0d fl d,((d.length:Int),(reach,(i,((0:Int),((0:Int),())))))))))=
   some (out,(l,(z0d fl d,((d.length:Int),(reach,(i,(((cnt d.length R:Nat):Int),()))))))):=by
 exact z2t (b:=x29 std) d.length (fun k=>(out,(l,(z0h (z2v d.length R),(z0d fl d,((d.length:Int),(reach,(i,(((cnt k R:Nat):Int),((k:Int),())))))))))) _ (fun k hk=>by
  have hw:=z0x (i:=k) (by omega)
  have hlt:(k:Int)<d.length:=by omega
  have h0:(0:Int)≤k:=by omega
  have hg:=z5g R hk
  have hbl:=z3c d.length R
  have hc:=y75 k R
  have hadd:IntKind.i64.wrap (((cnt k R:Nat):Int)+(bif R k then 1 else 0))=((cnt (k+1) R:Nat):Int):=by
   rw [z5v,z31]
   ·cases R k<;>simp [o1]
   ·cases R k<;>simp<;>omega
   ·cases R k<;>simp<;>omega
  generalize z2v d.length R=B at hg hbl⊢
  have hEl:(B.map eI).length=d.length:=by rw [List.length_map,hbl]
  generalize (bif R k then 1 else 0:Int)=v at hg hadd
  simp only [x29,z01,z02,z0h,z0j,z1l,eq_self,not_true,not_false_eq_true,decide_true,decide_false,Bool.not_true,Bool.not_false,Int.reduceLT,Int.reduceNeg,Int.reduceGT,cond_true,cond_false,hg,hEl,hbl,hlt,h0,ge_iff_le,z0e,hw,hadd]) (by
  have hn:¬ (d.length:Int)<d.length:=by omega
  simp only [x29,z01,z02,eq_self,not_true,not_false_eq_true,decide_true,decide_false,Bool.not_true,Bool.not_false,Int.reduceLT,Int.reduceNeg,Int.reduceGT,cond_true,cond_false,hn])
def lGi (d:List (List Int)) (reach i:Nat):List Nat:=(List.range i).filter fun k=>rcD d k==reach
theorem x84 (out:List (List D)) (d:List (List Int)) (reach:Nat) (h10:d.length≤1000) (hd:∀ i,i<d.length→∀ x∈d.getD i [],0≤x∧x<d.length) (hr:∀ l∈d,l.length≤1000000):
  z4n (y9u it0 std) (out,([],(z0d fl d,((d.length:Int),((reach:Int),((0:Int),()))))))=
   some (out,(z0h (toI (lGi d reach d.length)),(z0d fl d,((d.length:Int),((reach:Int),()))))):=by
 have key:=z2t (b:=y9u it0 std) d.length (fun i=>(out,(z0h (toI (lGi d reach i)),(z0d fl d,((d.length:Int),((reach:Int),((i:Int),()))))))) (out,(z0h (toI (lGi d reach d.length)),(z0d fl d,((d.length:Int),((reach:Int),()))))) (fun i hi=>by
  have hw:=z0x (i:=i) (by omega)
  have hlt:(i:Int)<d.length:=by omega
  have h39:g39 it0 std (z0d fl d,((i:Int),()))=_:=w68 d h10 hd hr i hi
  have h3:∀ l:List (List D),it0 _ _ (x29 std) (out,(l,(z0h (z2v d.length (z5u d i)),(z0d fl d,((d.length:Int),((reach:Int),((i:Int),((0:Int),((0:Int),())))))))))=
    some (out,(l,(z0d fl d,((d.length:Int),((reach:Int),((i:Int),(((cnt d.length (z5u d i):Nat):Int),()))))))):=fun l=>x9k out l d (z5u d i) reach i h10
  have hll:(toI (lGi d reach i)).length≤i:=by
   rw [y45,lGi]
   have:=List.length_filter_le (fun k=>rcD d k==reach) (List.range i)
   rw [List.length_range] at this; exact this
  have hs:lGi d reach (i+1)=lGi d reach i++(if rcD d i=reach then [i] else []):=by
   rw [lGi,List.range_succ,List.filter_append, ←lGi]
   congr 1
   by_cases e:rcD d i=reach<;>simp [e]
  rw [hs,w02]
  by_cases e:rcD d i=reach
  ·rw [if_pos e,show toI [i]=[(i:Int)] from rfl]
   have e':((cnt d.length (z5u d i):Nat):Int)=(reach:Int):=by rw [←e]; rfl
   rw [e'] at h3
   generalize toI (lGi d reach i)=B at hll⊢
   have hle:B.length+1≤1000000:=by omega
   have hbl:(B.map eI).length=B.length:=by rw [List.length_map]
   simp only [z0h] at h3 h39
   simp only [y9u,z01,z02,z0h,eq_self,not_true,not_false_eq_true,decide_true,decide_false,Bool.not_true,Bool.not_false,Int.reduceLT,Int.reduceNeg,Int.reduceGT,cond_true,cond_false,hlt,h39,h3,e',z0e,hw,hbl,hle,z6b,List.map_append,List.map_cons,List.map_nil,List.drop_zero,List.take_of_length_le (Nat.le_of_eq hbl),Nat.le_refl,Bool.and_true,
    List.take_succ_cons,List.take_zero,List.length_append,List.length_cons,List.length_nil,Nat.zero_add]
  ·rw [if_neg e,show toI []=[] from rfl,List.append_nil]
   have e':¬ ((cnt d.length (z5u d i):Nat):Int)=(reach:Int):=by
    intro h; exact e (by have h:((rcD d i:Nat):Int)=(reach:Int):=h; omega)
   simp only [y9u,z01,z02,eq_self,not_true,not_false_eq_true,decide_true,decide_false,Bool.not_true,Bool.not_false,Int.reduceLT,Int.reduceNeg,Int.reduceGT,cond_true,cond_false,hlt,h39,h3,e',z0e,hw]) (by
  have hn:¬ (d.length:Int)<d.length:=by omega
  simp only [y9u,z01,z02,eq_self,not_true,not_false_eq_true,decide_true,decide_false,Bool.not_true,Bool.not_false,Int.reduceLT,Int.reduceNeg,Int.reduceGT,cond_true,cond_false,hn])
 exact key
theorem x85 (d:List (List Int)) (h10:d.length≤1000) (hd:∀ i,i<d.length→∀ x∈d.getD i [],0≤x∧x<d.length) (hr:∀ l∈d,l.length≤1000000):
  z4n (y9v it0 std) ([],(z0d fl d,((d.length:Int),((d.length:Int),()))))=some (z0d fz (z13 d),()):=by
 have key:=z2t (b:=y9v it0 std) d.length (fun j=>(z0d fz ((RG (rcD d) d.length j).map toI),(z0d fl d,((d.length:Int),(((d.length - j:Nat):Int),()))))) (z0d fz (z13 d),()) (fun j hj=>by
  have hge:(1:Int)≤((d.length - j:Nat):Int):=by omega
  have hw:IntKind.i64.wrap (((d.length - j:Nat):Int) - 1)=((d.length - (j+1):Nat):Int):=by rw [z31]<;>omega
  have h2:it0 _ _ (y9u it0 std) (z0d fz ((RG (rcD d) d.length j).map toI),([],(z0d fl d,((d.length:Int),(((d.length - j:Nat):Int),((0:Int),()))))))=_:=x84 (z0d fz ((RG (rcD d) d.length j).map toI)) d (d.length - j) h10 hd hr
  have hlg:lGi d (d.length - j) d.length=lG (rcD d) d.length j:=rfl
  rw [hlg] at h2
  have hRl:(RG (rcD d) d.length j).length≤j:=by
   clear h2 hw hge hlg
   induction j with
   |zero=>exact Nat.le_refl _
   |succ j ih=>
    have:=ih (by omega)
    rw [RG]
    cases (lG (rcD d) d.length j).isEmpty<;>simp<;>omega
  rw [RG]
  cases he:lG (rcD d) d.length j with
  |nil=>
   rw [he] at h2
   have e0:z0h (toI [])=[]:=rfl
   rw [e0] at h2
   have hz:¬ (((([]:List (List D)).length:Nat):Int)>0):=by decide
   simp only [y9v,z01,z02,eq_self,not_true,not_false_eq_true,decide_true,decide_false,Bool.not_true,Bool.not_false,Int.reduceLT,Int.reduceNeg,Int.reduceGT,cond_true,cond_false,ge_iff_le,hge,h2,hz,List.isEmpty_nil,z1h,hw,Int.lt_irrefl,gt_iff_lt,Int.natCast_zero]
  |cons a l=>
   rw [he] at h2
   have hne:(toI (a::l)).length=l.length+1:=by rw [y45]; rfl
   generalize hT:toI (a::l)=T at h2 hne
   have hz:((T.length:Nat):Int)>0:=by omega
   have hEl:=z1k T
   have hmap:z0d fz ((RG (rcD d) d.length j++[a::l]).map toI)=z0d fz ((RG (rcD d) d.length j).map toI)++[eLf fz (toI (a::l))]:=by rw [List.map_append,List.map_cons,List.map_nil,x06]
   have hAl:(z0d fz ((RG (rcD d) d.length j).map toI)).length≤j:=by rw [z04,List.length_map]; exact hRl
   simp only [List.isEmpty_cons,cond_false]
   rw [hmap,hT]
   generalize z0d fz ((RG (rcD d) d.length j).map toI)=A at h2 hAl⊢
   have hle:A.length+1≤1000000:=by omega
   have hca:A.take A.length=A:=List.take_length
   have hct:(z0h T).take T.length=z0h T:=by rw [←hEl,List.take_length]
   simp only [y9v,z01,z02,eq_self,not_true,not_false_eq_true,decide_true,decide_false,Bool.not_true,Bool.not_false,Int.reduceLT,Int.reduceNeg,Int.reduceGT,cond_true,cond_false,ge_iff_le,hge,h2,hz,hEl,hct,hca,hle,x9z,List.drop_zero,Nat.le_refl,Bool.and_true,List.take_succ_cons,List.take_zero,List.length_append,List.length_cons,List.length_nil,Nat.zero_add,z1h,hw]) (by
  have hn:¬ (1:Int)≤((d.length - d.length:Nat):Int):=by omega
  simp only [y9v,z01,z02,eq_self,not_true,not_false_eq_true,decide_true,decide_false,Bool.not_true,Bool.not_false,Int.reduceLT,Int.reduceNeg,Int.reduceGT,cond_true,cond_false,ge_iff_le,hn,z13])
 exact key
theorem w2w {d:List (List Int)} (h:z0w d=0):∀ i,i<d.length→∀ x∈d.getD i [],0≤x∧x<d.length:=fun i hi x hx=>y2d (y1n h i hi) hx
theorem w66 (d:List (List Int)) (hr:∀ l∈d,l.length≤1000000):G43 std (z0d fl d,())=some (if z0w d=0 then (z0d fz (z13 d),((0:Int),())) else ([],(z0w d,()))):=by
 have h27:g27 it0 std (z0d fl d,())=_:=x1p d hr
 unfold G43
 by_cases h:z0w d=0
 ·have hl:=z3v h
  have e1:it0 _ _ (y9v it0 std) ([],(z0d fl d,((d.length:Int),((d.length:Int),()))))=_:=x85 d (by omega) (w2w h) hr
  have ht:(z0d fz (z13 d)).take (z0d fz (z13 d)).length=z0d fz (z13 d):=List.take_length
  simp only [g43,z01,z02,eq_self,not_true,not_false_eq_true,decide_true,decide_false,Bool.not_true,Bool.not_false,Int.reduceLT,Int.reduceNeg,Int.reduceGT,cond_true,cond_false,h27,h,z04,e1,ne_eq,Nat.le_refl,List.drop_zero]
  rw [z04] at ht
  simp only [ht]
 ·simp only [g43,z01,z02,eq_self,not_true,not_false_eq_true,decide_true,decide_false,Bool.not_true,Bool.not_false,Int.reduceLT,Int.reduceNeg,Int.reduceGT,cond_true,cond_false,h27,h,ne_eq]
def x0c (l:List Int) (t:Nat):List Int:=(List.range l.length).map fun q=>if q<t∨l.length - t≤q then gI l (l.length - 1 - q) else gI l q
theorem z4d (l:List Int) (t:Nat):(x0c l t).length=l.length:=by simp [x0c]
theorem y0e (l:List Int) (t q:Nat) (hq:q<l.length):gI (x0c l t) q=if q<t∨l.length - t≤q then gI l (l.length - 1 - q) else gI l q:=by
 rw [gI,x0c,List.getD_eq_getElem?_getD,List.getElem?_map,List.getElem?_range hq]; rfl
theorem x30 (l:List Int):x0c l 0=l:=y7r (z4d l 0) fun q hq=>by
 rw [z4d] at hq
 rw [y0e l 0 q hq,if_neg (by omega)]
theorem w0a (l:List Int) (q:Nat) (hq:q<l.length):gI l.reverse q=gI l (l.length - 1 - q):=by
 rw [gI,gI,List.getD_eq_getElem?_getD,List.getD_eq_getElem?_getD,List.getElem?_reverse hq]
theorem x32 (l:List Int):x0c l (l.length / 2)=l.reverse:=y7r (by rw [z4d,List.length_reverse]) fun q hq=>by
 rw [z4d] at hq
 rw [y0e l _ q hq,w0a l q hq]
 split
 ·rfl
 ·congr 1; omega
theorem x99 {l:List Int} {j:Nat} (hj:j<l.length) (v:Int) (q:Nat):gI (l.set j v) q=if q=j then v else gI l q:=by
 rw [gI,gI,List.getD_eq_getElem?_getD,List.getD_eq_getElem?_getD,List.getElem?_set]
 by_cases h:j=q
 ·subst h; rw [if_pos rfl,if_pos hj,if_pos rfl]; rfl
 ·rw [if_neg h,if_neg (Ne.symm h)]
theorem x31 (l:List Int) (t:Nat) (ht:t<l.length / 2):((x0c l t).set t (gI (x0c l t) (l.length - 1 - t))).set (l.length - 1 - t) (gI (x0c l t) t)=x0c l (t+1):=
 y7r (by rw [List.length_set,List.length_set,z4d,z4d]) fun q hq=>by
  rw [List.length_set,List.length_set,z4d] at hq
  rw [x99 (by rw [List.length_set,z4d]; omega),x99 (by rw [z4d]; omega),y0e l _ q hq,y0e l _ q hq,y0e l _ _ (by omega),y0e l _ _ (by omega)]
  by_cases h1:q=l.length - 1 - t
  ·subst h1
   rw [if_pos rfl,if_neg (by omega),if_pos (by omega)]
   congr 1; omega
  ·rw [if_neg h1]
   by_cases h2:q=t
   ·subst h2
    rw [if_pos rfl,if_neg (by omega),if_pos (by omega)]
   ·rw [if_neg h2]
    by_cases h3:q<t∨l.length - t≤q
    ·rw [if_pos h3,if_pos (by omega)]
    ·rw [if_neg h3,if_neg (by omega)]
theorem w61 (l:List Int) (hl:l.length≤1000):G72 std (z0h l,())=some (z0h l.reverse,()):=by
 have key:=z2t (b:=x6c std) (l.length / 2) (fun t=>(z0h (x0c l t),((t:Int),((l.length:Int) - 1 - (t:Int),())))) (z0h l.reverse,()) (fun t ht=>by
  have hw:=z0x (i:=t) (by omega)
  have hw2:IntKind.i64.wrap ((l.length:Int) - 1 - (t:Int) - 1)=(l.length:Int) - 1 - ((t+1:Nat):Int):=by rw [z31]<;>omega
  have hlt:(t:Int)<(l.length:Int) - 1 - (t:Int):=by omega
  have h0:(0:Int)≤t:=by omega
  have h1:(t:Int)<l.length:=by omega
  have h2:(0:Int)≤(l.length:Int) - 1 - (t:Int):=by omega
  have h3:(l.length:Int) - 1 - (t:Int)<l.length:=by omega
  have e:((l.length:Int) - 1 - (t:Int)).toNat=l.length - 1 - t:=by omega
  have hrl:=z4d l t
  have hx:=z5t (l:=x0c l t) (q:=t) (by omega)
  have hy:=z5t (l:=x0c l t) (q:=l.length - 1 - t) (by omega)
  rw [←x31 l t ht]
  generalize x0c l t=B at hrl hx hy⊢
  have hEl:(B.map eI).length=l.length:=by rw [List.length_map,hrl]
  have hsj:((B.map eI).set t (eI (gI B (l.length - 1 - t))))[l.length - 1 - t]?=some (eI (gI B (l.length - 1 - t))):=by rw [List.getElem?_set_ne (by omega),List.getElem?_map,hy]; rfl
  have hms:((B.set t (gI B (l.length - 1 - t))).set (l.length - 1 - t) (gI B t)).map eI=((B.map eI).set t (eI (gI B (l.length - 1 - t)))).set (l.length - 1 - t) (eI (gI B t)):=by rw [List.map_set,List.map_set]
  simp only [x6c,z01,z02,z0h,z0j,z1l,eq_self,not_true,not_false_eq_true,decide_true,decide_false,Bool.not_true,Bool.not_false,Int.reduceLT,Int.reduceNeg,Int.reduceGT,cond_true,cond_false,hlt,h0,h1,h2,h3,e,hx,hy,hEl,hrl,ge_iff_le,z0e,z1h,hw,hw2,z6b,hms,hsj,List.length_set]) (by
  have hn:¬ (((l.length / 2:Nat):Int)<(l.length:Int) - 1 - ((l.length / 2:Nat):Int)):=by omega
  rw [x32]
  simp only [x6c,z01,z02,eq_self,not_true,not_false_eq_true,decide_true,decide_false,Bool.not_true,Bool.not_false,Int.reduceLT,Int.reduceNeg,Int.reduceGT,cond_true,cond_false,hn])
 rw [x30] at key
 have hw:IntKind.i64.wrap ((l.length:Int) - 1)=(l.length:Int) - 1:=by rw [z31]<;>omega
 have key':it0 _ _ (x6c std) (z0h l,((0:Int),((l.length:Int) - 1,())))=some (z0h l.reverse,()):=by
  have:=key
  simp only [Int.natCast_zero,Int.sub_zero] at this
  exact this
 unfold G72
 simp only [g72,z01,z02,z1k,z1h,hw,key']
def byL (d:List (List Int)):List Int:=(y0b (z1f d)).reverse
def byN (d:List (List Int)):List Nat:=(byL d).map Int.toNat
theorem y35 (w:List Int):(y0b w).Perm (y3r w.length):=y30 _ _
theorem y2f (w:List Int):(y0b w).length=w.length:=by rw [y0b,z69,z79]
theorem y0m (d:List (List Int)):(byL d).length=d.length:=by rw [byL,List.length_reverse,y2f,z2q]
theorem y90 (d:List (List Int)) {q:Nat} (hq:q<d.length):gI (byL d) q=((at_ (byN d) q:Nat):Int):=by
 have hx:=z5t (l:=byL d) (q:=q) (by rw [y0m]; exact hq)
 have hm:gI (byL d) q∈y0b (z1f d):=List.mem_reverse.1 (List.mem_of_getElem? hx)
 have:=x9q.1 ((y35 _).mem_iff.1 hm)
 have e:at_ (byN d) q=(gI (byL d) q).toNat:=by
  rw [at_,byN,List.getD_eq_getElem?_getD,List.getElem?_map,hx]; rfl
 rw [e]; omega
theorem z4z (d:List (List Int)):y3t d.length (byN d):=by
 have h1:(byL d).Perm (y3r d.length):=by
  have:=(List.reverse_perm (y0b (z1f d))).trans (y35 (z1f d))
  rwa [z2q] at this
 have h2:=h1.map Int.toNat
 have e:(y3r d.length).map Int.toNat=List.range d.length:=by
  rw [y3r,List.map_map]
  exact (List.map_congr_left fun a _=>by simp).trans (List.map_id _)
 rw [e] at h2
 exact h2
theorem x9b {d:List (List Int)} (h:z0w d=0):w3s (bt d) d.length (byN d):=by
 refine ⟨z4z d,fun q r hqr hr=>?_⟩
 have hk:∀ q,q<d.length→key (z1f d) (gI (byL d) q)=((wn d (at_ (byN d) q):Nat):Int):=fun q hq=>by
  rw [y90 d hq,key]
  have hlt:=(z4z d).lt hq
  have hw:=z86 h hlt
  rw [show (((at_ (byN d) q:Nat):Int)).toNat=at_ (byN d) q by omega,gI,List.getD_eq_getElem?_getD,hw]; rfl
 have h1:=hk q (by omega)
 have h2:=hk r hr
 have hrl:=y2f (z1f d)
 have hwl:=z2q d
 rw [byL,w0a _ _ (by omega)] at h1 h2
 have h3:=y67 (key (z1f d)) (y3r (z1f d).length) (d.length - 1 - r) (d.length - 1 - q) (by omega) (by rw [z79,hwl]; omega)
 rw [←y0b] at h3
 rw [hrl,hwl] at h1 h2
 rw [h1,h2] at h3
 have h3:wn d (at_ (byN d) r)≤wn d (at_ (byN d) q):=by omega
 exact h3
theorem w0x {d:List (List Int)} (h:z0w d=0) (k:Nat) (hk:k≤d.length):sm k (fun q=>wn d (at_ (byN d) q))≤100:=by
 have hl:=z3v h
 have:=x3v (n:=k) (f:=fun q=>wn d (at_ (byN d) q)) (g:=fun _=>10) fun q hq=>by
  have:=w0y h (i:=at_ (byN d) q) ((z4z d).lt (by omega)); omega
 rw [z5n] at this; omega
theorem w2y {d:List (List Int)} (h:z0w d=0) (k:Nat) (hk:k≤d.length) (hk0:1≤k):
  ((sm k (fun q=>wn d (at_ (byN d) q)):Nat):Int)=IntKind.i64.wrap (IntKind.i64.wrap ((IntKind.i64.wrap ((k:Int)*IntKind.i64.wrap ((k:Int) - 1))).tdiv 2)+IntKind.i64.wrap ((k:Int)*IntKind.i64.wrap ((d.length:Int) - (k:Int))))↔cut (byR (bt d) (byN d)) d.length k:=by
 have hl:=z3v h
 have e1:IntKind.i64.wrap ((k:Int) - 1)=(k:Int) - 1:=by rw [z31]<;>omega
 have h2:=w3g k
 have hc:=y9x (w:=k) (by omega)
 have e0:(k:Int)*((k:Int) - 1)=2*(c2 k:Nat):=by
  have e1:((k:Int) - 1)=((k - 1:Nat):Int):=by omega
  rw [e1]
  have:=congrArg (fun (n:Nat)=>(n:Int)) h2
  simp only [Int.natCast_mul] at this
  rw [←this]; rfl
 have e2:IntKind.i64.wrap ((k:Int)*((k:Int) - 1))=(k:Int)*((k:Int) - 1):=by rw [z31]<;>rw [e0]<;>omega
 have e3:IntKind.i64.wrap (c2 k:Int)=(c2 k:Int):=by rw [z31]<;>omega
 have e4:IntKind.i64.wrap ((d.length:Int) - (k:Int))=((d.length - k:Nat):Int):=by rw [z31]<;>omega
 have hmul:k*(d.length - k)≤100:=by
  have:=Nat.mul_le_mul (show k≤10 by omega) (show d.length - k≤10 by omega); omega
 have e5:IntKind.i64.wrap ((k:Int)*((d.length - k:Nat):Int))=((k*(d.length - k):Nat):Int):=by
  rw [←Int.natCast_mul,z31]<;>omega
 rw [e1,e2,w0p,e3,e4,e5]
 have e6:IntKind.i64.wrap ((c2 k:Int)+((k*(d.length - k):Nat):Int))=((c2 k+k*(d.length - k):Nat):Int):=by rw [z31]<;>omega
 rw [e6]
 have e7:sm k (fun q=>cnt d.length (byR (bt d) (byN d) q))=sm k (fun q=>wn d (at_ (byN d) q)):=z3g fun q hq=>y9z (z4z d) q
 rw [cut,e7]
 omega
def z3i (d:List (List Int)):Nat→Nat
 |0=>0
 |i+1=>if cut (byR (bt d) (byN d)) d.length (i+1) then i+1 else z3i d i
theorem x0x (d:List (List Int)) (i:Nat):z3i d i≤i∧cut (byR (bt d) (byN d)) d.length (z3i d i)∧∀ m,z3i d i<m→m≤i→¬ cut (byR (bt d) (byN d)) d.length m:=by
 induction i with
 |zero=>exact ⟨Nat.le_refl _,x8r _ _,fun m h1 h2=>by simp [z3i] at h1; omega⟩
 |succ i ih=>
  obtain ⟨h1,h2,h3⟩:=ih
  rw [z3i]
  by_cases c:cut (byR (bt d) (byN d)) d.length (i+1)
  ·rw [if_pos c]; exact ⟨Nat.le_refl _,c,fun m a b=>by omega⟩
  ·rw [if_neg c]
   refine ⟨by omega,h2,fun m a b=>?_⟩
   by_cases e:m=i+1
   ·subst e; exact c
   ·exact h3 m a (by omega)
theorem w6m (d:List (List Int)):byL d=toI (byN d):=by
 apply y7r
 ·rw [y0m,y45,(z4z d).len]
 ·intro q hq
  rw [y0m] at hq
  rw [y90 d hq]
  have:=(z4z d).get hq
  rw [gI,toI,List.getD_eq_getElem?_getD,List.getElem?_map,this]; rfl
theorem x67 {X:List Nat} (hn:X.Nodup) {l:List Nat} (hl:l.Pairwise (· < ·)) (hm:∀ i,i∈l↔i∈X):z4u id (toI X)=toI l:=by
 have hp:=y30 id (toI X)
 have hpw:=x68 id (toI X)
 have hge:∀ x∈z4u id (toI X),∃ i∈X,x=(i:Int):=fun x hx=>by
  have:=hp.mem_iff.1 hx
  rw [toI,List.mem_map] at this
  obtain ⟨i,hi,rfl⟩:=this
  exact ⟨i,hi,rfl⟩
 have hnd:(z4u id (toI X)).Nodup:=hp.nodup_iff.2 (by
  rw [toI,List.nodup_iff_pairwise_ne,List.pairwise_map]
  exact hn.imp fun {a b} hab=>by omega)
 have e:z4u id (toI X)=toI ((z4u id (toI X)).map Int.toNat):=by
  generalize z4u id (toI X)=S at hge⊢
  rw [toI,List.map_map]
  refine (List.map_id _).symm.trans (List.map_congr_left fun x hx=>?_)
  obtain ⟨i,_,rfl⟩:=hge x hx
  simp
 rw [e]
 congr 1
 refine x90 ?_ hl fun i=>?_
 ·rw [List.pairwise_map]
  refine (hpw.and (List.nodup_iff_pairwise_ne.1 hnd)).imp_of_mem fun {a b} ha hb hab=>?_
  obtain ⟨i,_,rfl⟩:=hge a ha
  obtain ⟨j,_,rfl⟩:=hge b hb
  simp only [id] at hab
  omega
 ·rw [hm,List.mem_map]
  constructor
  ·rintro ⟨x,hx,rfl⟩
   obtain ⟨i,hi,rfl⟩:=hge x hx
   simpa using hi
  ·intro hi
   exact ⟨(i:Int),hp.mem_iff.2 (by rw [toI,List.mem_map]; exact ⟨i,hi,rfl⟩),by simp⟩
theorem x9a {d:List (List Int)} (h:z0w d=0):
  z4n (y6c it0 std) (z0h (z1f d),(z0h (byL d),([],((d.length:Int),((0:Int),((0:Int),((d.length:Int),((0:Int),()))))))))=some (z0d fz (z13 d),()):=by
 have hl:=z3v h
 have ht:=y2y h
 have hs:=x9b h
 have hrc:=w4b d
 have key:=z2t (b:=y6c it0 std) d.length (fun i=>(z0h (z1f d),(z0h (byL d),(z0d fz ((RG (rcD d) d.length (z3i d i)).map toI),((d.length:Int),(((z3i d i:Nat):Int),(((sm i (fun q=>wn d (at_ (byN d) q)):Nat):Int),((d.length:Int),((i:Int),()))))))))) (z0d fz (z13 d),()) (fun i hi=>by
  have hw:=z0x (i:=i) (by omega)
  have hlt:(i:Int)<d.length:=by omega
  have h0:(0:Int)≤i:=by omega
  have hby:=z5t (l:=byL d) (q:=i) (by rw [y0m]; exact hi)
  have hbn:=y90 d hi
  rw [hbn] at hby
  have hat:=(z4z d).lt hi
  have ha0:(0:Int)≤((at_ (byN d) i:Nat):Int):=by omega
  have ha1:((at_ (byN d) i:Nat):Int)<d.length:=by omega
  have hwg:=z86 h hat
  have hwl:=z2q d
  have hbl:=y0m d
  have hsum:=w0x h (i+1) (by omega)
  rw [z2k] at hsum
  have hadd:IntKind.i64.wrap (((sm i (fun q=>wn d (at_ (byN d) q)):Nat):Int)+((wn d (at_ (byN d) i):Nat):Int))=((sm (i+1) (fun q=>wn d (at_ (byN d) q)):Nat):Int):=by
   rw [z2k,z31]<;>omega
  have hcut:=w2y h (i+1) (by omega) (by omega)
  obtain ⟨l1,l2,l3⟩:=x0x d i
  have h2ne:¬ ((2:Int)=0):=by decide
  have hRl:(RG (rcD d) d.length (z3i d i)).length≤z3i d i:=by
   generalize z3i d i=j
   induction j with
   |zero=>exact Nat.le_refl _
   |succ j ih=>
    rw [RG]
    cases (lG (rcD d) d.length j).isEmpty<;>simp<;>omega
  rw [z3i]
  by_cases c:cut (byR (bt d) (byN d)) d.length (i+1)
  ·rw [if_pos c]
   have hc:=hcut.2 c
   have h73:g73 it0 std (z0h (byL d),(z3i d i,(i+1 - z3i d i,())))=_:=w60 (byL d) (z3i d i) (i+1 - z3i d i) (by omega) (by omega)
   have hX:((byL d).drop (z3i d i)).take (i+1 - z3i d i)=toI (((byN d).drop (z3i d i)).take (i+1 - z3i d i)):=by
    rw [w6m,toI,toI,List.map_take,List.map_drop]
   have hsort:=x67 (X:=((byN d).drop (z3i d i)).take (i+1 - z3i d i)) ((z4z d).nodup.sublist ((List.take_sublist _ _).trans (List.drop_sublist _ _))) (w9s (rcD d) d.length (z3i d i))
    (x96 ht hs hrc (by omega) (by omega) l2 c fun m a b=>l3 m a (by omega))
   rw [hX,hsort] at h73
   have hR:=w6y ht hs hrc (j:=z3i d i) (k:=i+1) (by omega) (by omega) l2 c fun m a b=>l3 m a (by omega)
   rw [hR,List.map_append,List.map_cons,List.map_nil,x06]
   have hAl:(z0d fz ((RG (rcD d) d.length (z3i d i)).map toI)).length≤z3i d i:=by rw [z04,List.length_map]; exact hRl
   generalize z0d fz ((RG (rcD d) d.length (z3i d i)).map toI)=A at hAl⊢
   generalize toI (lG (rcD d) d.length (z3i d i))=T at h73⊢
   have hle:A.length+1≤1000000:=by omega
   have hca:A.take A.length=A:=List.take_length
   have hct:(z0h T).take (z0h T).length=z0h T:=List.take_length
   have hf0:(0:Int)≤((z3i d i:Nat):Int):=by omega
   have hf1:((z3i d i:Nat):Int)≤((i+1:Nat):Int):=by omega
   have hf2:((i+1:Nat):Int)≤d.length:=by omega
   have hbl':(z0h (byL d)).length=d.length:=by rw [z1k,hbl]
   have hwl':(z0h (z1f d)).length=d.length:=by rw [z1k,hwl]
   have hby':(z0h (byL d))[i]?=some (eI ((at_ (byN d) i:Nat):Int)):=by rw [z0h,List.getElem?_map,hby]; rfl
   have hwg':(z0h (z1f d))[at_ (byN d) i]?=some (eI ((wn d (at_ (byN d) i):Nat):Int)):=by rw [z0h,List.getElem?_map,hwg]; rfl
   generalize z0h (byL d)=BY at hbl' hby' h73⊢
   generalize z0h (z1f d)=WL at hwl' hwg'⊢
   simp only [y6c,z01,z02,z0j,z1l,eq_self,not_true,not_false_eq_true,decide_true,decide_false,Bool.not_true,Bool.not_false,Int.reduceLT,Int.reduceNeg,Int.reduceGT,cond_true,cond_false,hlt,h0,ge_iff_le,hbl',hwl',hby',hwg',ha0,ha1,z0e,z1h,z7x,z7w,hw,hadd,h2ne, ←hc,h73,hf0,hf1,hf2,hct,hca,hle,x9z,List.drop_zero,Nat.le_refl,Bool.and_true,List.take_succ_cons,List.take_zero,List.length_append,List.length_cons,List.length_nil,Nat.zero_add]
  ·rw [if_neg c]
   have hc:¬ _:=fun e=>c (hcut.1 e)
   have hbl':(z0h (byL d)).length=d.length:=by rw [z1k,hbl]
   have hwl':(z0h (z1f d)).length=d.length:=by rw [z1k,hwl]
   have hby':(z0h (byL d))[i]?=some (eI ((at_ (byN d) i:Nat):Int)):=by rw [z0h,List.getElem?_map,hby]; rfl
   have hwg':(z0h (z1f d))[at_ (byN d) i]?=some (eI ((wn d (at_ (byN d) i):Nat):Int)):=by rw [z0h,List.getElem?_map,hwg]; rfl
   generalize z0h (byL d)=BY at hbl' hby'⊢
   generalize z0h (z1f d)=WL at hwl' hwg'⊢
   simp only [y6c,z01,z02,z0j,z1l,eq_self,not_true,not_false_eq_true,decide_true,decide_false,Bool.not_true,Bool.not_false,Int.reduceLT,Int.reduceNeg,Int.reduceGT,cond_true,cond_false,hlt,h0,ge_iff_le,hbl',hwl',hby',hwg',ha0,ha1,z0e,z1h,z7x,z7w,hw,hadd,h2ne,hc]) (by
  have hn:¬ (d.length:Int)<d.length:=by omega
  have e:z3i d d.length=d.length:=by
   obtain ⟨l1,l2,l3⟩:=x0x d d.length
   refine Nat.le_antisymm l1 (Nat.le_of_not_lt fun hlt=>l3 d.length hlt (Nat.le_refl _) (w2z (x1k ht (z4z d))))
  rw [e]
  simp only [y6c,z01,z02,eq_self,not_true,not_false_eq_true,decide_true,decide_false,Bool.not_true,Bool.not_false,Int.reduceLT,Int.reduceNeg,Int.reduceGT,cond_true,cond_false,hn,z13])
 exact key
theorem x2p (l:List Int):std.plain (z0h l)=true:=by
 show (z0h l).all (fun r=>r.all z6e)=true
 rw [z0h,List.all_map,List.all_eq_true]
 intro x _; rfl
theorem w7a (d:List (List Int)) (hr:∀ l∈d,l.length≤1000000):G37 std (z0d fl d,())=some (if z0w d=0 then (z0d fz (z13 d),((0:Int),())) else ([],(z0w d,()))):=by
 have h35:g35 it0 std (z0d fl d,())=_:=x6o d hr
 unfold G37
 by_cases h:z0w d=0
 ·rw [if_pos h] at h35⊢
  have hl:=z3v h
  have hwl:=z2q d
  have hrl:=y2f (z1f d)
  have h71:g71 it0 std (z0h (z1f d),())=_:=w62 (z1f d) (by omega)
  have h72:g72 it0 std (z0h (y0b (z1f d)),())=_:=w61 (y0b (z1f d)) (by omega)
  have h37:it0 _ _ (y6c it0 std) (z0h (z1f d),(z0h (byL d),([],((d.length:Int),((0:Int),((0:Int),((d.length:Int),((0:Int),()))))))))=_:=x9a h
  have hpl:=x2p (y0b (z1f d))
  have hwl':(z0h (z1f d)).length=d.length:=by rw [z1k,hwl]
  have hrl':(z0h (y0b (z1f d))).length=d.length:=by rw [z1k,hrl,hwl]
  have hbl':(z0h (byL d)).length=d.length:=by rw [z1k,y0m]
  have htw:(z0h (z1f d)).take d.length=z0h (z1f d):=by rw [←hwl',List.take_length]
  have hgl:(z0d fz (z13 d)).take (z0d fz (z13 d)).length=z0d fz (z13 d):=List.take_length
  rw [←byL] at h72
  simp only [g37,z01,z02,eq_self,not_true,not_false_eq_true,decide_true,decide_false,Bool.not_true,Bool.not_false,Int.reduceLT,Int.reduceNeg,Int.reduceGT,cond_true,cond_false,h35,h,hwl',hrl',hbl',htw,List.drop_zero,Nat.le_refl,Bool.and_true,h71,hpl,h72,h37,hgl,ne_eq]
 ·rw [if_neg h] at h35⊢
  simp only [g37,z01,z02,eq_self,not_true,not_false_eq_true,decide_true,decide_false,Bool.not_true,Bool.not_false,Int.reduceLT,Int.reduceNeg,Int.reduceGT,cond_true,cond_false,h35,h,ne_eq]
end Go.Am
end
section
namespace Go.Am
open Go.ChangeShapes Go.WideShapes Go.ChangeAt
theorem w44 {x:D} (h:DK (.int .i64) x):∃ n:Int,x= .int .i64 n∧(Lit.int IntKind.i64 n).wf=true:=by
 match x,h with
 | .int k n,h=>obtain ⟨rfl,h⟩:=h; exact ⟨n,rfl,h⟩
theorem w2b {x:D} (h:DK (.list [.int .i64]) x):∃ l:List Int,x= .list false 1 (z0h l):=by
 match x,h with
 | .list f z es,h=>
  obtain ⟨rfl,rfl,hl,hr⟩:=h
  rw [z8b] at hr
  clear hl
  have:∃ l:List Int,es=z0h l:=by
   induction es with
   |nil=>exact ⟨[],rfl⟩
   |cons r es ih=>
    obtain ⟨l,rfl⟩:=ih fun r hr'=>hr r (List.mem_cons_of_mem _ hr')
    have h0:=hr r (List.mem_cons_self ..)
    match r,h0 with
    |[y],h0=>
     obtain ⟨n,rfl,w⟩:=w44 h0.1
     exact ⟨n::l,rfl⟩
  obtain ⟨l,rfl⟩:=this
  exact ⟨l,rfl⟩
theorem x7p {x:D} (h:DK (.list [.list [.int .i64]]) x):∃ d:List (List Int),x= .list false 1 (z0d fz d):=by
 match x,h with
 | .list f z es,h=>
  obtain ⟨rfl,rfl,hl,hr⟩:=h
  rw [z8b] at hr
  clear hl
  have:∃ d:List (List Int),es=z0d fz d:=by
   induction es with
   |nil=>exact ⟨[],rfl⟩
   |cons r es ih=>
    obtain ⟨d,rfl⟩:=ih fun r hr'=>hr r (List.mem_cons_of_mem _ hr')
    have h0:=hr r (List.mem_cons_self ..)
    match r,h0 with
    |[y],h0=>
     obtain ⟨l,rfl⟩:=w2b h0.1
     exact ⟨l::d,rfl⟩
  obtain ⟨d,rfl⟩:=this
  exact ⟨d,rfl⟩
end Go.Am
end
section
namespace Go.Am
open Go.Proofs Go.Shelf
structure x6n (P:Program) (f:FuncId) (t:TypeId):Prop where
 shift:∀ (b off n c i vb voff vc:Nat) (cs:List Value) (v:Value) (w:World),i<n→n+1≤c→n+1≤9223372036854775807→vb≠b→cs.length=n→
  (∀ j v,cs[j]?=some v→w.cell? ⟨b,off+j,none⟩=some v)→(∀ j,j<n+1→(w.cell? ⟨b,off+j,none⟩).isSome=true)→(∀ j,j<n+1→w.frozen? ⟨b,off+j,none⟩=false)→
  w.cell? ⟨vb,voff,none⟩=some v→(∀ v∈cs,v.oneCell'=true)→v.oneCell'=true→
  (∀ x,w.frozen? ⟨vb,x,none⟩=false)→(∃ tA kA,w.shape? vb=some (tA,kA))→(∃ tB kB,w.shape? b=some (tB,kB)∧kB≠0)→
  Calls P f #[.slice (some ⟨b,off,none⟩) n c, .int .i64 i, .slice (some ⟨vb,voff,none⟩) 1 vc] w fun e w'=>
   e= .returned (.slice (some ⟨b,off,none⟩) (n+1) c)∧w'=(w.drew.setCells b (off+(i+1)) (cs.drop i)).setCells b (off+i) [v]
 room:∀ (b off n c vb voff vc:Nat) (v:Value) (w:World),n+1≤c→n+1≤9223372036854775807→(w.cell? ⟨b,off+n,none⟩).isSome=true→w.frozen? ⟨b,off+n,none⟩=false→
  w.cell? ⟨vb,voff,none⟩=some v→v.oneCell'=true→
  Calls P f #[.slice (some ⟨b,off,none⟩) n c, .int .i64 n, .slice (some ⟨vb,voff,none⟩) 1 vc] w fun e w'=>
   e= .returned (.slice (some ⟨b,off,none⟩) (n+1) c)∧w'=w.setCells b (off+n) [v]
 last:∀ (base:Option Addr) (n c vb voff vc:Nat) (cs:List Value) (v:Value) (w:World),n≤c→c<n+1→(n+1)*8≤140737488355328→cs.length=n→(base=none→n=0)→
  (∀ a,base=some a→∀ j v,cs[j]?=some v→w.cell? (a.add j)=some v)→w.cell? ⟨vb,voff,none⟩=some v→v.oneCell'=true→
  Calls P f #[.slice base n c, .int .i64 n, .slice (some ⟨vb,voff,none⟩) 1 vc] w fun e w'=>
   e= .returned (.slice (some ⟨w.heap.size,0,none⟩) (n+1) (grownCap w (n+1) c t))∧
   w'=w.drew.alloc (.cells ((cs++[v]).toArray++Builtin.zeroCells (Value.int .i64 0).cells (grownCap w (n+1) c t - (n+1))) t)
 grow:∀ (b off n c i vb voff vc:Nat) (cs:List Value) (v:Value) (w:World),i<n→n≤c→c<n+1→(n+1)*8≤140737488355328→cs.length=n→
  (∀ j v,cs[j]?=some v→w.cell? ⟨b,off+j,none⟩=some v)→w.cell? ⟨vb,voff,none⟩=some v→(∀ v∈cs,v.oneCell'=true)→v.oneCell'=true→
  Calls P f #[.slice (some ⟨b,off,none⟩) n c, .int .i64 i, .slice (some ⟨vb,voff,none⟩) 1 vc] w fun e w'=>
   e= .returned (.slice (some ⟨w.heap.size,0,none⟩) (n+1) (grownCap w (n+1) c t))∧
   w'=(((w.alloc (.cells ((cs.take i).toArray++Builtin.zeroCells (Value.int .i64 0).cells (n+1 - i)++Builtin.zeroCells (Value.int .i64 0).cells (grownCap w (n+1) c t - (n+1))) t)).drew.setCells w.heap.size i [v]).drew).setCells w.heap.size (i+1) (cs.drop i)
 cap:∀ (w:World) (n c:Nat),c<n→n≤1000001→n≤grownCap w n c t
theorem z9e (w:World) (b:Nat) (x y:Obj):World.setObj (World.setObj w b x) b y=World.setObj w b y:=by
 unfold World.setObj
 congr 1
 apply Array.ext_getElem?
 intro i
 simp only [Array.getElem?_setIfInBounds,Array.size_setIfInBounds]
 by_cases h:b=i
 ·subst h; simp
 ·simp [h]
theorem z3n (b:Nat) (t:TypeId):∀ (vs:List Value) (o:Nat) (w:World) (c:Array Value),w.heap[b]?=some (.cells c t (0,0))→o+vs.length≤c.size→
  ∃ c':Array Value,c'.size=c.size∧(∀ j,c'[j]?=if o≤j∧j<o+vs.length then vs[j - o]? else c[j]?)∧w.setCells b o vs=World.setObj w b (.cells c' t (0,0))
 |[],o,w,c,h,hl=>by
  refine ⟨c,rfl,fun j=>by simp; omega,?_⟩
  simp only [World.setCells,World.setObj]
  have hlt:b<w.heap.size:=(Array.getElem?_eq_some_iff.1 h).1
  have:w.heap.setIfInBounds b (.cells c t (0,0))=w.heap:=by
   apply Array.ext_getElem?
   intro i
   rw [Array.getElem?_setIfInBounds]
   by_cases hi:b=i
   ·subst hi; rw [h]; simp [hlt]
   ·simp [hi]
  rw [this]
 |v::vs,o,w,c,h,hl=>by
  have hlt:b<w.heap.size:=(Array.getElem?_eq_some_iff.1 h).1
  have h1:w.setCell ⟨b,o,none⟩ v=World.setObj w b (.cells (c.setIfInBounds o v) t (0,0)):=by
   unfold World.setCell World.setObj
   congr 1
   apply Array.ext_getElem?
   intro i
   rw [Array.getElem?_modify,Array.getElem?_setIfInBounds]
   by_cases hi:b=i
   ·subst hi; rw [h]; simp [hlt]
   ·simp [hi]
  simp only [List.length_cons] at hl
  obtain ⟨c',a1,a2,a3⟩:=z3n b t vs (o+1) (World.setObj w b (.cells (c.setIfInBounds o v) t (0,0))) (c.setIfInBounds o v) (z0o _ _ _ hlt) (by simp; omega)
  refine ⟨c',by rw [a1]; simp,fun j=>?_,by rw [World.setCells,h1,a3,z9e]⟩
  rw [a2 j]
  by_cases hj:o+1≤j∧j<o+1+vs.length
  ·rw [if_pos hj,if_pos (by simp; omega)]
   rw [show j - o=(j - (o+1))+1 by omega]; rfl
  ·rw [if_neg hj,Array.getElem?_setIfInBounds]
   by_cases he:o=j
   ·subst he
    rw [if_pos rfl,if_pos (by omega),if_pos (by simp)]; simp
   ·rw [if_neg he,if_neg (by simp; omega)]
section
variable {P:Program}
theorem y1i {es:List (List D)} {x:D} {i:Nat} (hi:i≤es.length) (k:Nat):(es.take i++[x]::es.drop i)[k]?=if k<i then es[k]? else if k=i then some [x] else es[k - 1]?:=by
 rw [List.getElem?_append]
 have hl:(es.take i).length=i:=by simp; omega
 rw [hl]
 by_cases h1:k<i
 ·rw [if_pos h1,if_pos h1,List.getElem?_take,if_pos h1]
 ·rw [if_neg h1,if_neg h1]
  by_cases h2:k=i
  ·subst h2; simp
  ·rw [if_neg h2,show k - i=(k - i - 1)+1 by omega,List.getElem?_cons_succ,List.getElem?_drop]
   congr 1; omega
theorem x71 {f:FuncId} {t:TypeId} (hS:x6n P f t) {es:List (List D)} {x:D} {i:Nat} (hi:i≤es.length) (hn:es.length≤1000000):
  z85 P f [.slice 0 1 0 es.length none, .d (.int .i64 i), .slice 1 1 0 1 (some 1)] [.row es, .row [[x]]] (.slice 2 1 0 (es.length+1) none) [.dead, .row [[x]], .row (es.take i++[x]::es.drop i)]:=⟨by
 intro ρ vs w cs0 hr hdm har
 obtain ⟨hv1,hv2⟩:=har
 have hs1:vs.size=3:=hv1
 have hnew:ρ 2=none:=by
  cases hq:ρ 2 with
  |none=>rfl
  |some L=>have:=hdm 2 (by rw [hq]; simp); simp at this
 obtain ⟨L1,vc,hL1,hz1,hvs2⟩:∃ L vc,ρ 1=some L∧L.esz=1∧vs.getD 2 undef= .slice (some ⟨L.blk,L.base,none⟩) 1 vc:=by
  have hv:=hv2 2 _ rfl
  generalize hq:vs.getD 2 undef=q at hv
  cases hv with
  |slice _ _ _ _ _ L a c h1 h2 h3 h4 h5=>
   refine ⟨L,c,h1,h2,?_⟩
   rw [h3 (by omega)]; simp
 have hvs1:vs.getD 1 undef= .int .i64 i:=by
  have hv:=hv2 1 _ rfl
  generalize hq:vs.getD 1 undef=q at hv
  cases hv with|d hv=>cases hv; rfl
 obtain ⟨hlt1,ho1⟩:=hr.obj 1 L1 hL1
 obtain ⟨_,c1,t1,hcb1,_,hcell1⟩:=(show z1o P ρ _ w L1 (.row [[x]]) from ho1)
 obtain ⟨v,hv,hvone,hvrel⟩:=hcell1 0 [x] 0 x rfl rfl
 rw [hz1] at hv
 simp only [Nat.zero_mul,Nat.add_zero] at hv
 have hvc:w.cell? ⟨L1.blk,L1.base,none⟩=some v:=z7n hcb1 hv
 have hargs:∀ q,vs.getD 0 undef=q→vs=#[q, .int .i64 i, .slice (some ⟨L1.blk,L1.base,none⟩) 1 vc]:=by
  intro q hq
  apply Array.ext (by simpa using hs1)
  intro k h1 h2
  simp only [Array.getD_eq_getD_getElem?] at hq hvs1 hvs2
  match k,h1,h2 with
  |0,h1,h2=>rw [Array.getElem?_eq_getElem h1] at hq; simpa using hq
  |1,h1,h2=>rw [Array.getElem?_eq_getElem h1] at hvs1; simpa using hvs1
  |2,h1,h2=>rw [Array.getElem?_eq_getElem h1] at hvs2; simpa using hvs2
  |k+3,h1,h2=>simp at h2; omega
 have grown:∀ (c:Nat) (cs:List Value) (cells:Array Value) (d nc:Nat),cs.length=es.length→(∀ (k:Nat) (r:List D),es[k]?=some r→∃ y u,r=[y]∧cs[k]?=some u∧u.oneCell'=true∧z1n (z0g ρ [.row es, .row [[x]]]) w y u)→
   z0r w.drawn d→es.length+1≤nc→(∀ k,k<es.length+1→cells[k]?=if k<i then cs[k]? else if k=i then some v else cs[k - 1]?)→cells.size=nc→
   ∀ fr,Comes P (lone (Frame.enter P f vs .normal) cs0 w) (lone fr cs0 { World.push w (.cells cells t) with drawn:=d }) (.returned (.slice (some ⟨w.heap.size,0,none⟩) (es.length+1) nc))→fr.fn=f→fr.leaving P { World.push w (.cells cells t) with drawn:=d } (.returned (.slice (some ⟨w.heap.size,0,none⟩) (es.length+1) nc))→
   ∃ ρ' v w' fr,Steps P (lone (Frame.enter P f vs .normal) cs0 w) (lone fr cs0 w')∧fr.fn=f∧fr.leaving P w' (.returned v)∧z0q ρ' (z0g ρ' [.dead, .row [[x]], .row (es.take i++[x]::es.drop i)]) w' (.slice 2 1 0 (es.length+1) none) v∧
    z0b P ρ' [.dead, .row [[x]], .row (es.take i++[x]::es.drop i)] w'∧Dom ρ' [.dead, .row [[x]], .row (es.take i++[x]::es.drop i)]∧Ext (· <2) ρ [.row es, .row [[x]]] w ρ' [.dead, .row [[x]], .row (es.take i++[x]::es.drop i)] w':=by
  intro c cs cells d nc hcs hrows hd hnc hcells hsz fr h1 h2 h3
  have hr0:=hr.kill 0
  have hx0:=Ext.kill (· <2) ρ [.row es, .row [[x]]] w 0
  have hk0:=hx0.keep
  have hkp:=z5b hr0 hnew ⟨w.heap.size,0,1⟩ (.row (es.take i++[x]::es.drop i)) (.cells cells t) rfl
  have hobj:z1o P (ρ.put 2 ⟨w.heap.size,0,1⟩) (z0g (ρ.put 2 ⟨w.heap.size,0,1⟩) (z06 [.dead, .row [[x]]] 2 (.row (es.take i++[x]::es.drop i)))) (World.push w (.cells cells t)) ⟨w.heap.size,0,1⟩ (.row (es.take i++[x]::es.drop i)):=by
   refine ⟨Nat.one_pos,cells,t,z2l _ _,fun k r hk=>?_,fun k r j y hk hy=>?_⟩
   ·rw [y1i hi] at hk
    split at hk
    ·obtain ⟨y,_,rfl,_⟩:=hrows k r hk; rfl
    ·split at hk
     ·cases hk; rfl
     ·obtain ⟨y,_,rfl,_⟩:=hrows _ r hk; rfl
   ·have hkl:k<es.length+1:=by
     have:=(List.getElem?_eq_some_iff.1 hk).1
     simp at this; omega
    rw [Nat.mul_one,Nat.zero_add]
    rw [y1i hi] at hk
    have hc:=hcells k hkl
    have fin:∀ (y0:D) (u:Value),r=[y0]→u.oneCell'=true→z1n (z0g ρ [.row es, .row [[x]]]) w y0 u→cells[k]?=some u→∃ v,cells[k+j]?=some v∧v.oneCell'=true∧z1n (z0g (ρ.put 2 ⟨w.heap.size,0,1⟩) (z06 [.dead, .row [[x]]] 2 (.row (es.take i++[x]::es.drop i)))) (World.push w (.cells cells t)) y v:=by
     intro y0 u hr1 hu hrel hcu
     subst hr1
     cases j with
     |succ j=>simp at hy
     |zero=>simp at hy; subst hy; exact ⟨u,hcu,hu,(hrel.keep hk0).keep hkp⟩
    split at hk
    ·rename_i hlt
     obtain ⟨y0,u,hr1,hcu,hu,hrel⟩:=hrows k r hk
     exact fin y0 u hr1 hu hrel (by rw [hc,if_pos hlt]; exact hcu)
    ·rename_i hge
     split at hk
     ·rename_i hki
      cases hk
      exact fin x v rfl hvone hvrel (by rw [hc,if_neg hge,if_pos hki])
     ·rename_i hne
      obtain ⟨y0,u,hr1,hcu,hu,hrel⟩:=hrows _ r hk
      exact fin y0 u hr1 hu hrel (by rw [hc,if_neg hge,if_neg hne]; exact hcu)
  have hnw:=hr0.new hnew 1 _ _ hobj
  have hnw2:=hnw.drawn d hd
  refine ⟨ρ.put 2 ⟨w.heap.size,0,1⟩,_,_,fr,h1,h2,h3,?_,hnw2,?_,?_⟩
  ·refine .slice 2 1 0 _ none ⟨w.heap.size,0,1⟩ _ nc (Rho.put_same _ _ _) rfl (fun _=>by simp) (.inr ⟨rfl,nc,?_,by simp⟩) hnc
   show z1a (World.push w _) _=_
   rw [z0s (z2l _ _),hsz]
  ·intro id hid
   by_cases he:id=2
   ·subst he; simp
   ·rw [Rho.put_ne _ _ _ _ he] at hid
    have:=hdm id hid
    simp at this⊢; omega
  ·exact hx0.trans (((Ext.new hr0 hnew ⟨w.heap.size,0,1⟩ (.row (es.take i++[x]::es.drop i)) (.cells cells t) rfl).trans (Ext.drawn _ _ _ _ d hd)).mono (fun id hid=>by show id≠2; have hid:id<2:=hid; omega))
 have hv0:=hv2 0 _ rfl
 generalize hq0:vs.getD 0 undef=q0 at hv0
 have hva:=hargs q0 hq0
 have key:∀ n,n=es.length→z0q ρ (z0g ρ [.row es, .row [[x]]]) w (.slice 0 1 0 n none) q0→(n=0∧∃ a,q0= .slice a 0 0)∨(∃ L a c,ρ 0=some L∧L.esz=1∧q0= .slice a n c∧n≤c∧(0<c→a=some ⟨L.blk,L.base,none⟩)∧∃ m,z1a w L.blk=some m∧L.base+c≤m):=by
  intro n hn hv
  cases hv with
  |nils _ _ _ _ a _=>exact .inl ⟨rfl,_,rfl⟩
  |slice _ _ _ _ _ L a c h1 h2 h3 h4 h5=>
   rcases h4 with h4|⟨_,m,hm,hle⟩
   ·cases h4
   ·exact .inr ⟨L,a,c,h1,h2,rfl,h5,fun h=>by rw [h3 h]; simp,m,hm,by rw [h2] at hle; omega⟩
 rcases key _ rfl hv0 with ⟨h0,a,rfl⟩|⟨L,a,c,hL,hz,rfl,hnc,haa,m,hm,hroom⟩
 ·
  have hes:es=[]:=List.length_eq_zero_iff.1 h0
  have hi0:i=0:=by omega
  subst hes; subst hi0
  rw [hva] at grown⊢
  obtain ⟨e,w',fr,⟨rfl,hw'⟩,hcm,hfn,hlv⟩:=hS.last a 0 0 L1.blk L1.base vc [] v w (by omega) (by omega) (by omega) rfl (fun _=>rfl) (fun _ _ j u hj=>by simp at hj) hvc hvone cs0
  subst hw'
  have hcp:=hS.cap w 1 0 (by omega) (by omega)
  refine grown 0 [] _ (w.drawn+1) _ rfl (fun k r hk=>by simp at hk) (Nat.le_succ _) hcp (fun k hk=>?_) ?_ fr hcm hfn hlv
  ·have:k=0:=by simp at hk; omega
   subst this
   rw [Array.getElem?_append_left (by simp)]; simp
  ·simp [Builtin.zeroCells,Value.cells]; omega
 ·obtain ⟨hlt,ho⟩:=hr.obj 0 L hL
  obtain ⟨_,c0,t0,hcb,hlen,hcell⟩:=(show z1o P ρ _ w L (.row es) from ho)
  rw [hz] at hlen hcell
  rw [z0s hcb] at hm; cases hm
  have hrow:∀ (k:Nat) (r:List D),es[k]?=some r→∃ y u,r=[y]∧c0[L.base+k]?=some u∧u.oneCell'=true∧z1n (z0g ρ [.row es, .row [[x]]]) w y u:=by
   intro k r hk
   have hl:=hlen k r hk
   match r,hl with
   |[y],_=>
    obtain ⟨u,hu,h1,hrel⟩:=hcell k [y] 0 y hk rfl
    exact ⟨y,u,rfl,by simpa using hu,h1,hrel⟩
  let cs:=(c0.toList.drop L.base).take es.length
  have hcsg:∀ k,k<es.length→cs[k]?=c0[L.base+k]?:=by
   intro k hk
   show ((c0.toList.drop L.base).take es.length)[k]?=_
   rw [List.getElem?_take,if_pos hk,List.getElem?_drop]; simp
  have hcsl:cs.length=es.length:=by
   show ((c0.toList.drop L.base).take es.length).length=_
   rw [List.length_take,List.length_drop]; simp; omega
  have hcs1:∀ u∈cs,u.oneCell'=true:=by
   intro u hu
   obtain ⟨k,hk⟩:=List.getElem?_of_mem hu
   have hkl:k<es.length:=by rw [←hcsl]; exact (List.getElem?_eq_some_iff.1 hk).1
   obtain ⟨y,u',_,h2,h3,_⟩:=hrow k _ (List.getElem?_eq_getElem hkl)
   rw [hcsg k hkl,h2] at hk; cases hk; exact h3
  have hcsc:∀ j u,cs[j]?=some u→w.cell? ⟨L.blk,L.base+j,none⟩=some u:=by
   intro j u hj
   have hjl:j<es.length:=by rw [←hcsl]; exact (List.getElem?_eq_some_iff.1 hj).1
   rw [hcsg j hjl] at hj
   exact z7n hcb hj
  have hrows:∀ (k:Nat) (r:List D),es[k]?=some r→∃ y u,r=[y]∧cs[k]?=some u∧u.oneCell'=true∧z1n (z0g ρ [.row es, .row [[x]]]) w y u:=by
   intro k r hk
   obtain ⟨y,u,h1,h2,h3,h4⟩:=hrow k r hk
   exact ⟨y,u,h1,by rw [hcsg k (List.getElem?_eq_some_iff.1 hk).1]; exact h2,h3,h4⟩
  have hne:L1.blk≠L.blk:=fun e=>by have:=hr.inj 1 0 L1 L hL1 hL rfl rfl e; omega
  have place:∀ (c':Array Value) (d:Nat),c'.size=c0.size→z0r w.drawn d→(∀ k,k<es.length+1→c'[L.base+k]?=if k<i then cs[k]? else if k=i then some v else cs[k - 1]?)→a=some ⟨L.blk,L.base,none⟩→es.length+1≤c→
    ∀ fr,Comes P (lone (Frame.enter P f vs .normal) cs0 w) (lone fr cs0 (World.setObj { w with drawn:=d } L.blk (.cells c' t0 (0,0)))) (.returned (.slice a (es.length+1) c))→fr.fn=f→fr.leaving P (World.setObj { w with drawn:=d } L.blk (.cells c' t0 (0,0))) (.returned (.slice a (es.length+1) c))→
    ∃ ρ' v w' fr,Steps P (lone (Frame.enter P f vs .normal) cs0 w) (lone fr cs0 w')∧fr.fn=f∧fr.leaving P w' (.returned v)∧z0q ρ' (z0g ρ' [.dead, .row [[x]], .row (es.take i++[x]::es.drop i)]) w' (.slice 2 1 0 (es.length+1) none) v∧
     z0b P ρ' [.dead, .row [[x]], .row (es.take i++[x]::es.drop i)] w'∧Dom ρ' [.dead, .row [[x]], .row (es.take i++[x]::es.drop i)]∧Ext (· <2) ρ [.row es, .row [[x]]] w ρ' [.dead, .row [[x]], .row (es.take i++[x]::es.drop i)] w':=by
   intro c' d hsz hd hcells hae hroom1 fr h1 h2 h3
   have hr1:=hr.drawn d hd
   have hx1:Ext (· <2) ρ [.row es, .row [[x]]] w ρ [.row es, .row [[x]]] { w with drawn:=d }:=Ext.drawn _ _ _ _ d hd
   have hbs:∀ k,z1a { w with drawn:=d } L.blk=some k→z1a (World.setObj { w with drawn:=d } L.blk (.cells c' t0 (0,0))) L.blk=some k:=by
    intro k hk
    rw [z0s (w:={ w with drawn:=d }) hcb] at hk; cases hk
    rw [z0s (z0o { w with drawn:=d } L.blk _ hlt),hsz]
   obtain ⟨g1,g2⟩:=hr1.move hL rfl hnew L.base 1 (.row (es.take i++[x]::es.drop i)) rfl (.cells c' t0 (0,0)) hbs (fun kp=>by
    refine ⟨Nat.one_pos,c',t0,z0o _ _ _ hlt,fun k r hk=>?_,fun k r j y hk hy=>?_⟩
    ·rw [y1i hi] at hk
     split at hk
     ·obtain ⟨y,_,rfl,_⟩:=hrows k r hk; rfl
     ·split at hk
      ·cases hk; rfl
      ·obtain ⟨y,_,rfl,_⟩:=hrows _ r hk; rfl
    ·have hkl:k<es.length+1:=by
      have:=(List.getElem?_eq_some_iff.1 hk).1
      simp at this; omega
     rw [Nat.mul_one]
     rw [y1i hi] at hk
     have hc:=hcells k hkl
     have fin:∀ (y0:D) (u:Value),r=[y0]→u.oneCell'=true→z1n (z0g ρ [.row es, .row [[x]]]) w y0 u→c'[L.base+k]?=some u→∃ v,c'[L.base+k+j]?=some v∧v.oneCell'=true∧z1n (z0g (ρ.put 2 ⟨L.blk,L.base,1⟩) (z06 (z06 [.row es, .row [[x]]] 0 .dead) 2 (.row (es.take i++[x]::es.drop i)))) (World.setObj { w with drawn:=d } L.blk (.cells c' t0 (0,0))) y v:=by
      intro y0 u hr1 hu hrel hcu
      subst hr1
      cases j with
      |succ j=>simp at hy
      |zero=>simp at hy; subst hy; exact ⟨u,hcu,hu,(hrel.keep hx1.keep).keep kp⟩
     split at hk
     ·rename_i hlt
      obtain ⟨y0,u,hr1,hcu,hu,hrel⟩:=hrows k r hk
      exact fin y0 u hr1 hu hrel (by rw [hc,if_pos hlt]; exact hcu)
     ·rename_i hge
      split at hk
      ·rename_i hki
       cases hk
       exact fin x v rfl hvone hvrel (by rw [hc,if_neg hge,if_pos hki])
      ·rename_i hne
       obtain ⟨y0,u,hr1,hcu,hu,hrel⟩:=hrows _ r hk
       exact fin y0 u hr1 hu hrel (by rw [hc,if_neg hge,if_neg hne]; exact hcu))
   refine ⟨ρ.put 2 ⟨L.blk,L.base,1⟩,_,_,fr,h1,h2,h3,?_,g1,?_,hx1.trans (g2.mono (fun id hid=>by show id≠2; have hid:id<2:=hid; omega))⟩
   ·refine .slice 2 1 0 _ none ⟨L.blk,L.base,1⟩ _ c (Rho.put_same _ _ _) rfl (fun _=>by rw [hae]; simp) (.inr ⟨rfl,c0.size,?_,by simp; omega⟩) hroom1
    rw [z0s (z0o { w with drawn:=d } L.blk _ hlt),hsz]
   ·intro id hid
    by_cases he:id=2
    ·subst he; simp
    ·rw [Rho.put_ne _ _ _ _ he] at hid
     have:=hdm id hid
     simp at this⊢; omega
  have hin:∀ j,j<c→∃ u,c0[L.base+j]?=some u:=fun j hj=>⟨_,Array.getElem?_eq_getElem (by omega)⟩
  have hsp:∀ j,j<c→(w.cell? ⟨L.blk,L.base+j,none⟩).isSome=true:=fun j hj=>by
   obtain ⟨u,hu⟩:=hin j hj
   rw [z7n hcb hu]; rfl
  have hfz:∀ b ct tt,w.heap[b]?=some (.cells ct tt (0,0))→∀ k,w.frozen? ⟨b,k,none⟩=false:=fun b ct tt hb k=>by
   unfold World.frozen?; simp only [hb]; simp
  by_cases hfit:es.length+1≤c
  ·have hae:=haa (by omega)
   by_cases hlast:i=es.length
   ·
    have hva':vs=#[.slice (some ⟨L.blk,L.base,none⟩) es.length c, .int .i64 es.length, .slice (some ⟨L1.blk,L1.base,none⟩) 1 vc]:=by rw [hva,hae,hlast]
    obtain ⟨e,w',fr,⟨rfl,hw'⟩,hcm,hfn,hlv⟩:=hS.room L.blk L.base es.length c L1.blk L1.base vc v w hfit (by omega) (hsp _ (by omega)) (hfz _ _ _ hcb _) hvc hvone cs0
    rw [←hva'] at hcm
    obtain ⟨c',g1,g2,g3⟩:=z3n L.blk t0 [v] (L.base+es.length) w c0 hcb (by simp; omega)
    rw [g3] at hw'
    subst hw'
    refine place c' w.drawn g1 (z0r.refl _) (fun k hk=>?_) hae hfit fr (by rw [hae]; exact hcm) hfn (by rw [hae]; exact hlv)
    rw [g2]
    by_cases hki:k=es.length
    ·subst hki
     rw [if_pos (by simp),if_neg (by omega),if_pos hlast.symm]; simp
    ·rw [if_neg (by simp; omega),if_pos (by omega),hcsg k (by omega)]
   ·
    have hva':vs=#[.slice (some ⟨L.blk,L.base,none⟩) es.length c, .int .i64 i, .slice (some ⟨L1.blk,L1.base,none⟩) 1 vc]:=by rw [hva,hae]
    obtain ⟨e,w',fr,⟨rfl,hw'⟩,hcm,hfn,hlv⟩:=hS.shift L.blk L.base es.length c i L1.blk L1.base vc cs v w (by omega) hfit (by omega) hne hcsl hcsc (fun j hj=>hsp j (by omega)) (fun j _=>hfz _ _ _ hcb _) hvc hcs1 hvone
     (hfz _ _ _ hcb1) ⟨t1,c1.size,by unfold World.shape?; rw [hcb1]⟩ ⟨t0,c0.size,by unfold World.shape?; rw [hcb],by omega⟩ cs0
    rw [←hva'] at hcm
    have hcbd:w.drew.heap[L.blk]?=some (.cells c0 t0 (0,0)):=hcb
    have hdl:(cs.drop i).length=es.length - i:=by rw [List.length_drop,hcsl]
    obtain ⟨c',g1,g2,g3⟩:=z3n L.blk t0 (cs.drop i) (L.base+(i+1)) w.drew c0 hcbd (by rw [hdl]; omega)
    have hlt':L.blk<w.drew.heap.size:=hlt
    obtain ⟨c2,k1,k2,k3⟩:=z3n L.blk t0 [v] (L.base+i) (World.setObj w.drew L.blk (.cells c' t0 (0,0))) c' (z0o _ _ _ hlt') (by simp; omega)
    rw [g3,k3,z9e] at hw'
    subst hw'
    refine place c2 (w.drawn+1) (k1.trans g1) (Nat.le_succ _) (fun k hk=>?_) hae hfit fr (by rw [hae]; exact hcm) hfn (by rw [hae]; exact hlv)
    rw [k2]
    by_cases hki:k=i
    ·subst hki
     rw [if_pos (by simp),if_neg (by omega),if_pos rfl]; simp
    ·rw [if_neg (by simp; omega),g2]
     by_cases hlt2:k<i
     ·rw [if_neg (by omega),if_pos hlt2,hcsg k (by omega)]
     ·rw [if_pos (by rw [hdl]; omega),if_neg hlt2,if_neg hki,List.getElem?_drop]
      congr 1; omega
  ·have hce:c=es.length:=by omega
   have hcap:=hS.cap w (es.length+1) c (by omega) (by omega)
   by_cases hlast:i=es.length
   ·
    have hva':vs=#[.slice a es.length c, .int .i64 es.length, .slice (some ⟨L1.blk,L1.base,none⟩) 1 vc]:=by rw [hva,hlast]
    obtain ⟨e,w',fr,⟨rfl,hw'⟩,hcm,hfn,hlv⟩:=hS.last a es.length c L1.blk L1.base vc cs v w hnc (by omega) (by omega) hcsl (fun ha=>by
      by_cases h0:0<c
      ·rw [haa h0] at ha; cases ha
      ·omega) (fun a' ha' j u hj=>by
      have hjl:j<es.length:=by rw [←hcsl]; exact (List.getElem?_eq_some_iff.1 hj).1
      rw [haa (by omega)] at ha'
      cases ha'
      rw [z3z]; exact hcsc j u hj) hvc hvone cs0
    rw [←hva'] at hcm
    subst hw'
    refine grown c cs _ (w.drawn+1) _ hcsl hrows (Nat.le_succ _) hcap (fun k hk=>?_) ?_ fr hcm hfn hlv
    ·have hkk:k<(cs++[v]).length:=by simp [hcsl]; omega
     have e1:((cs++[v]).toArray++Builtin.zeroCells (Value.int .i64 0).cells (grownCap w (es.length+1) c t - (es.length+1)))[k]?=(cs++[v])[k]?:=by
      rw [Array.getElem?_append_left (by simpa using hkk)]; simp
     rw [e1,List.getElem?_append,hcsl]
     by_cases hkn:k<es.length
     ·rw [if_pos hkn,if_pos (by omega)]
     ·rw [if_neg hkn,if_neg (by omega),if_pos (by omega),show k - es.length=0 by omega]; rfl
    ·simp [Builtin.zeroCells,Value.cells,hcsl]; omega
   ·
    have hae:=haa (by omega)
    have hva':vs=#[.slice (some ⟨L.blk,L.base,none⟩) es.length c, .int .i64 i, .slice (some ⟨L1.blk,L1.base,none⟩) 1 vc]:=by rw [hva,hae]
    obtain ⟨e,w',fr,⟨rfl,hw'⟩,hcm,hfn,hlv⟩:=hS.grow L.blk L.base es.length c i L1.blk L1.base vc cs v w (by omega) hnc (by omega) (by omega) hcsl hcsc hvc hcs1 hvone cs0
    rw [←hva'] at hcm
    generalize hG:grownCap w (es.length+1) c t=G at hw' hcm hlv hcap
    generalize hROW:(cs.take i).toArray++Builtin.zeroCells (Value.int .i64 0).cells (es.length+1 - i)++Builtin.zeroCells (Value.int .i64 0).cells (G - (es.length+1))=ROW at hw'
    have hRs:ROW.size=G:=by
     rw [←hROW]; simp [Builtin.zeroCells,Value.cells,hcsl]; omega
    have hRg:∀ k,k<i→ROW[k]?=cs[k]?:=by
     intro k hk
     rw [←hROW,Array.append_assoc,Array.getElem?_append_left (by simp [hcsl]; omega)]
     simp [List.getElem?_take,hk]
    have hb0:(w.alloc (.cells ROW t)).drew.heap[w.heap.size]?=some (.cells ROW t (0,0)):=by
     show (w.heap.push _)[w.heap.size]?=_
     simp
    obtain ⟨c',g1,g2,g3⟩:=z3n w.heap.size t [v] i _ ROW hb0 (by simp; omega)
    have hdl:(cs.drop i).length=es.length - i:=by rw [List.length_drop,hcsl]
    have hb1:(World.setObj (w.alloc (.cells ROW t)).drew w.heap.size (.cells c' t (0,0))).drew.heap[w.heap.size]?=some (.cells c' t (0,0)):=by
     show (World.setObj (w.alloc (.cells ROW t)).drew w.heap.size (.cells c' t (0,0))).heap[w.heap.size]?=_
     exact z0o _ _ _ (by show _<(w.heap.push _).size; simp)
    obtain ⟨c2,k1,k2,k3⟩:=z3n w.heap.size t (cs.drop i) (i+1) _ c' hb1 (by rw [hdl,g1]; omega)
    rw [g3,k3] at hw'
    have hwe:World.setObj (World.setObj (w.alloc (.cells ROW t)).drew w.heap.size (.cells c' t (0,0))).drew w.heap.size (.cells c2 t (0,0))={ World.push w (.cells c2 t) with drawn:=w.drawn+2 }:=by
     unfold World.setObj World.drew World.alloc World.push
     simp only
     congr 1
     apply Array.ext_getElem?
     intro k
     simp only [Array.getElem?_setIfInBounds,Array.getElem?_push,Array.size_push,Array.size_setIfInBounds]
     by_cases hk:w.heap.size=k
     ·subst hk; simp
     ·have hk2:¬ k=w.heap.size:=fun e=>hk e.symm
      simp [hk,hk2]
    rw [hwe] at hw'
    subst hw'
    refine grown c cs c2 (w.drawn+2) G hcsl hrows (by show w.drawn≤_; omega) hcap (fun k hk=>?_) (by rw [k1,g1,hRs]) fr hcm hfn hlv
    rw [k2]
    by_cases hgt:i+1≤k
    ·rw [if_pos (by rw [hdl]; omega),if_neg (by omega),if_neg (by omega),List.getElem?_drop]
     congr 1; omega
    ·rw [if_neg (by omega),g2]
     by_cases hki:k=i
     ·subst hki
      rw [if_pos (by simp),if_neg (by omega),if_pos rfl]; simp
     ·rw [if_neg (by simp; omega),if_pos (by omega),hRg k (by omega)]⟩
end
end Go.Am
end
section
namespace Go.Proofs
open Go.Shelf Go.RowKit Go.Lib
def x4n:Go.Shelf.Ren:=⟨fun|39=>72|35=>103|28=>85|27=>84|21=>60|n=>n,fun|0=>0|4=>4|3=>3|22=>26|n=>n,fun|n=>n⟩
theorem x0w : Go.Proofs.Lays2.n21 Try.prog x4n :=
  { mixed := by kernel_rfl,
    f21 := by first | exact ⟨Try.f60.name, by decide, Try.func60.trans (congrArg some (by kernel_rfl))⟩ | exact Try.func60.trans (congrArg some (by kernel_rfl)),
    f27 := by first | exact ⟨Try.f84.name, by decide, Try.func84.trans (congrArg some (by kernel_rfl))⟩ | exact Try.func84.trans (congrArg some (by kernel_rfl)),
    f28 := by first | exact ⟨Try.f85.name, by decide, Try.func85.trans (congrArg some (by kernel_rfl))⟩ | exact Try.func85.trans (congrArg some (by kernel_rfl)),
    f35 := by first | exact ⟨Try.f103.name, by decide, Try.func103.trans (congrArg some (by kernel_rfl))⟩ | exact Try.func103.trans (congrArg some (by kernel_rfl)),
    f39 := by first | exact ⟨Try.f72.name, by decide, Try.func72.trans (congrArg some (by kernel_rfl))⟩ | exact Try.func72.trans (congrArg some (by kernel_rfl)),
    t0 := by exact Try.underlying0,
    a0 := by exact Try.isAgg0,
    z0 := by exact Try.sizeOf0,
    v0 := by exact Try.zeroValue0,
    t3 := by exact Try.underlying3,
    a3 := by exact Try.isAgg3,
    z3 := by exact Try.sizeOf3,
    v3 := by exact Try.zeroValue3,
    t4 := by exact Try.underlying4,
    a4 := by exact Try.isAgg4,
    z4 := by exact Try.sizeOf4,
    v4 := by exact Try.zeroValue4,
    t22 := by exact Try.underlying26,
    a22 := by exact Try.isAgg26,
    z22 := by exact Try.sizeOf26,
    v22 := by exact Try.zeroValue26,
    i3 := by kernel_rfl }
variable {P:Program} {ρ:Ren}
set_option maxHeartbeats 4000000 in
set_option maxRecDepth 100000 in
theorem x4q (L:Lays2.n21 P ρ) (b off n c i vb voff m vc:Nat) (cs vs:List Value) (w:World) (hi:i<n) (hm:0<m) (hroom:n+m≤c) (hc63:n+m≤9223372036854775807) (hvb:vb≠b)
  (hcl:cs.length=n) (hvl:vs.length=m) (hcs:∀ j v,cs[j]?=some v→w.cell? ⟨b,off+j,none⟩=some v) (hsp:∀ j,j<n+m→(w.cell? ⟨b,off+j,none⟩).isSome=true) (hfz:∀ j,j<n+m→w.frozen? ⟨b,off+j,none⟩=false)
  (hvs:∀ j v,vs[j]?=some v→w.cell? ⟨vb,voff+j,none⟩=some v) (h1c:∀ v∈cs,v.oneCell'=true) (h1v:∀ v∈vs,v.oneCell'=true)
  (tA tB:TypeId) (kA kB:Nat) (hsa:w.shape? vb=some (tA,kA)) (hsb:w.shape? b=some (tB,kB)) (hkB:kB≠0) (hfa:w.frozen? ⟨vb,voff,none⟩=false) (hfe:w.frozen? ⟨vb,kA,none⟩=false):
  Calls P (ρ.f 21) #[.slice (some ⟨b,off,none⟩) n c, .int .i64 i, .slice (some ⟨vb,voff,none⟩) m vc] w fun e w'=>
   e= .returned (.slice (some ⟨b,off,none⟩) (n+m) c)∧w'=(w.drew.setCells b (off+(i+m)) (cs.drop i)).setCells b (off+i) vs:=by
 have t0:=L.t0; have a0:=L.a0; have z0:=L.z0; have v0:=L.v0; have t3:=L.t3; have a3:=L.a3; have z3:=L.z3; have v3:=L.v3; have t4:=L.t4; have a4:=L.a4; have z4:=L.z4; have v4:=L.v4; have t22:=L.t22; have a22:=L.a22; have z22:=L.z22; have v22:=L.v22
 have u0:=run_underlying L.t0; have u3:=run_underlying L.t3; have u4:=run_underlying L.t4; have u22:=run_underlying L.t22
 have hz1:¬ ((m:Int)=0):=by omega
 have hz2:¬ ((i:Int)=(n:Int)):=by omega
 have hsz:(P.info? (ρ.t 3)).map (·.size)=some 1:=by
  obtain ⟨i0,hi0,h0,h1,h2⟩:=info_parts L.i3
  rw [hi0]; simp [h1]
 have hov:∀ lb cb,(callFunc (ρ.f 27) #[.slice (some ⟨vb,voff,none⟩) m vc, .slice (some ⟨b,off+(i+m),none⟩) lb cb]).run P w= .ok (.value (.bool false)) w:=fun lb cb=>by
  rw [run_callFunc_extern L.f27 (by kernel_rfl) (by kernel_rfl) (by kernel_rfl) (e:=Extern.SlicesOverlaps.overlaps #[(ρ.t 22),(ρ.t 22)] #[(ρ.t 4)]) (by kernel_rfl),
   Lib.run_overlaps_apart w (ρ.t 22) (ρ.t 4) (ρ.t 3) L.t22 1 L.z3 ⟨vb,voff,none⟩ ⟨b,off+(i+m),none⟩ m vc lb cb hvb tA tB kA kB hsa hsb hkB hfa hfe]
  rfl
 have hdl:(cs.drop i).length=n - i:=by rw [List.length_drop,hcl]
 have mixed:=L.mixed
 have hw1:IntKind.i64.wrap ((i:Int)+(m:Int))=(i:Int)+(m:Int):=by rw [IntKind.wrap_i64]; omega
 have hb1:(0:Int)≤(i:Int)+(m:Int):=by omega
 have hin:i≤n:=by omega
 have htn:((i:Int)+(m:Int)).toNat=i+m:=by omega
 have hb2:¬ (c=i+m):=by omega
 have hb3:(i:Int)≤(n:Int)+(m:Int):=by omega
 have hb4:¬ (c=i):=by omega
 have hcp1:∀ ty dc sc,(Builtin.copy_ #[(ρ.t 22),(ρ.t 22)] ty #[.slice (some ⟨b,off+(i+m),none⟩) (n+m - (i+m)) dc, .slice (some ⟨b,off+i,none⟩) (n+m - i) sc]).run P w.drew= .ok (goInt (cs.drop i).length) (w.drew.setCells b (off+(i+m)) (cs.drop i)):=fun ty dc sc=>
  run_copy_cells w.drew _ _ ty (ρ.t 3) b (off+(i+m)) (n+m - (i+m)) dc ⟨b,off+i,none⟩ (n+m - i) sc (cs.drop i) L.t22 hsz (by rw [hdl]; simp only [Nat.min_def]; split<;>omega)
   (fun j v hj=>by rw [Addr.add_lit,Nat.add_assoc]; exact hcs (i+j) v (by rwa [List.getElem?_drop] at hj))
   (fun j hj=>by rw [Nat.add_assoc]; exact hsp _ (by omega)) (fun j hj=>by rw [Nat.add_assoc]; exact hfz _ (by omega)) (fun v hv=>h1c v (List.mem_of_mem_drop hv))
 obtain ⟨W1,hW1⟩:∃ W1,W1=w.drew.setCells b (off+(i+m)) (cs.drop i):=⟨_,rfl⟩
 have hsp1:∀ k,k<n+m→(W1.cell? ⟨b,off+k,none⟩).isSome=true:=fun k hk=>by
  rw [hW1]
  exact isSome_setCells b _ _ _ (fun j hj=>by rw [Nat.add_assoc]; exact hsp _ (by omega)) _ (hsp k hk)
 have hcp2:∀ (W:World),(∀ x,W.cell? x=W1.cell? x)→(∀ x,W.frozen? x=W1.frozen? x)→∀ ty dc,(Builtin.copy_ #[(ρ.t 22),(ρ.t 22)] ty #[.slice (some ⟨b,off+i,none⟩) (n+m - i) dc, .slice (some ⟨vb,voff,none⟩) m vc]).run P W= .ok (goInt vs.length) (W.setCells b (off+i) vs):=fun W hWc hWf ty dc=>
  run_copy_cells W _ _ ty (ρ.t 3) b (off+i) (n+m - i) dc ⟨vb,voff,none⟩ m vc vs L.t22 hsz (by rw [hvl]; simp only [Nat.min_def]; split<;>omega)
   (fun j v hj=>by
    rw [Addr.add_lit,hWc,hW1,World.cell?_setCells_out b _ _ _ _ (fun h _=>absurd h hvb)]
    exact hvs j v hj)
   (fun j hj=>by rw [hWc,Nat.add_assoc]; exact hsp1 _ (by omega)) (fun j hj=>by rw [hWf,hW1,World.frozen?_setCells,Nat.add_assoc]; exact hfz _ (by omega)) h1v
 rw [←hW1] at hcp1
 go_enter L.f21,Body2.n21_ntmps ρ
 go_wp2_with (simp only [hov])
 go_region_law_o (refine step_copy_runI rfl _ _ (ρ.t 22) (ρ.t 22) rfl _ _ (by simp [Act.eval,Act.put]) (by simp [Act.eval,Act.put]) (hcp1 _ _ _) ?_)
 go_wp2_with (at_builtin; refine wpList_copy_runI _ rfl _ _ (ρ.t 22) (ρ.t 22) rfl _ _ rfl rfl (hcp2 _ (fun _=>rfl) (fun _=>rfl) _ _) ?_)
 go_ret
 first|exact ⟨rfl,rfl⟩|exact ⟨rfl,by rw [hW1]⟩
set_option maxHeartbeats 4000000 in
set_option maxRecDepth 100000 in
theorem x70 (L:Lays2.n21 P ρ) (b off n c vb voff m vc:Nat) (vs:List Value) (w:World) (hm:0<m) (hroom:n+m≤c) (hc63:n+m≤9223372036854775807)
  (hvl:vs.length=m) (hsp:∀ j,j<m→(w.cell? ⟨b,off+n+j,none⟩).isSome=true) (hfz:∀ j,j<m→w.frozen? ⟨b,off+n+j,none⟩=false)
  (hvs:∀ j v,vs[j]?=some v→w.cell? ⟨vb,voff+j,none⟩=some v) (h1v:∀ v∈vs,v.oneCell'=true):
  Calls P (ρ.f 21) #[.slice (some ⟨b,off,none⟩) n c, .int .i64 n, .slice (some ⟨vb,voff,none⟩) m vc] w fun e w'=>
   e= .returned (.slice (some ⟨b,off,none⟩) (n+m) c)∧w'=w.setCells b (off+n) vs:=by
 have t0:=L.t0; have a0:=L.a0; have z0:=L.z0; have v0:=L.v0; have t3:=L.t3; have a3:=L.a3; have z3:=L.z3; have v3:=L.v3; have t4:=L.t4; have a4:=L.a4; have z4:=L.z4; have v4:=L.v4; have t22:=L.t22; have a22:=L.a22; have z22:=L.z22; have v22:=L.v22
 have u0:=run_underlying L.t0; have u3:=run_underlying L.t3; have u4:=run_underlying L.t4; have u22:=run_underlying L.t22
 have mixed:=L.mixed
 have hz1:¬ ((m:Int)=0):=by omega
 have hsrc:Src P 1 (ρ.t 22) (.slice (some ⟨vb,voff,none⟩) m vc) m vs w:=Src.ofSlice w L.t22 ⟨vb,voff,none⟩ m vc vs (by omega) (fun j u hj=>by rw [Addr.add_lit]; exact hvs j u hj) h1v
 go_enter L.f21,Body2.n21_ntmps ρ
 go_wp2_with (at_builtin; refine wpList_append_room1 _ rfl _ _ (ρ.t 22) (ρ.t 22) rfl (ρ.t 3) _ _ L.t22 L.i3 b off n c rfl _ rfl m vs hsrc hroom (by rw [hvl]; exact hsp) (by rw [hvl]; exact hfz) ?_)
 go_ret
 exact ⟨rfl,rfl⟩
end Go.Proofs
namespace Go.Am
open Go.Proofs Go.Shelf
theorem w2c:x6n Try.prog 60 3 where
 shift:=fun b off n c i vb voff vc cs v w h1 h2 h3 h4 h5 h6 h7 h8 h9 h10 h11 h12 ⟨tA,kA,h13⟩ ⟨tB,kB,h14,h15⟩=>x4q x0w b off n c i vb voff 1 vc cs [v] w h1 (by omega) h2 h3 h4 h5 rfl h6 h7 h8 (fun j u hj=>by
  cases j with
  |zero=>cases hj; exact h9
  |succ j=>simp at hj) h10 (by simpa using h11) tA tB kA kB h13 h14 h15 (h12 _) (h12 _)
 room:=fun b off n c vb voff vc v w h1 h2 h3 h4 h5 h6=>x70 x0w b off n c vb voff 1 vc [v] w (by omega) h1 h2 rfl (fun j hj=>by
   have:j=0:=by omega
   subst this; exact h3) (fun j hj=>by
   have:j=0:=by omega
   subst this; exact h4) (fun j u hj=>by
   cases j with
   |zero=>cases hj; exact h5
   |succ j=>simp at hj) (by simpa using h6)
 last:=fun base n c vb voff vc cs v w h1 h2 h3 h4 h5 h6 h7 h8=>Any2.slices_Insert_int_end_grow x0w base n c vb voff 1 vc cs [v] w (by omega) h1 h2 h3 h4 rfl h5 h6 (fun j u hj=>by
  cases j with
  |zero=>cases hj; exact h7
  |succ j=>simp at hj) (by simpa using h8)
 grow:=fun b off n c i vb voff vc cs v w h1 h2 h3 h4 h5 h6 h7 h8 h9=>Any2.slices_Insert_int_grow x0w b off n c i vb voff 1 vc cs [v] w h1 (by omega) h2 h3 h4 h5 rfl h6 (fun j u hj=>by
  cases j with
  |zero=>cases hj; exact h7
  |succ j=>simp at hj) h8 (by simpa using h9)
 cap:=fun w n c h1 h2=>by unfold grownCap; simp [Question.cut]
noncomputable def z9t:Ctr:=
 ⟨60,[.vec 0 1, .int .i64, .full 1 1],[.row [(Go.Am.CK.int Go.IntKind.i64)], .row [(Go.Am.CK.int Go.IntKind.i64)]],[(.ret,⟨[(0, .vec 2 1)],[.dead, .row [(Go.Am.CK.int Go.IntKind.i64)], .row [(Go.Am.CK.int Go.IntKind.i64)]],1⟩)]⟩
def q60 (x:List (List D)×(List (List D)×(Int×Unit))):Option (List (List D)×(List (List D)×Unit)):=
 match x.2.1 with
 |[[v]]=>bif decide (0≤x.2.2.1)&&(Nat.ble x.2.2.1.toNat x.1.length&&Nat.ble x.1.length 1000000) then some ([[v]],(x.1.take x.2.2.1.toNat++[v]::x.1.drop x.2.2.1.toNat,())) else none
 |_=>none
noncomputable def G60:(p:Prim)→(List (List D)×(List (List D)×(Int×Unit)))→Option (List (List D)×(List (List D)×Unit)):=
 fun p x=>q60 x
noncomputable def F60:Prim→Tup (z9t).scs→Option (STup (scss (z9t).outs)):=
 fun p x=>G60 p x
theorem x8f:z2i Go.Proofs.Try.prog 60:=enters_auto (b:=_) rfl (by kernel_rfl)
theorem ok60:CtrOk Go.Proofs.Try.prog z9t (F60 std):=by
 have key:∀ (es r:List (List D)) (i:Int) (y:STup (scss (z9t).outs)),q60 (es,(r,(i,())))=some y→(y52 std z9t (y04 (z9t).scs (es,(r,(i,()))))).2.length≤(z1u std (z9t).outs y).2.s.heap.length∧
   z85 Try.prog 60 (y52 std z9t (y04 (z9t).scs (es,(r,(i,()))))).1 (y52 std z9t (y04 (z9t).scs (es,(r,(i,()))))).2 (z12 (z1u std (z9t).outs y).2.s.env 0) (z1u std (z9t).outs y).2.s.heap:=by
  intro es r i y hy
  unfold q60 at hy
  simp only at hy
  match r,hy with
  |[[v]],hy=>
   simp only at hy
   cases hb:(decide (0≤i)&&(Nat.ble i.toNat es.length&&Nat.ble es.length 1000000)) with
   |false=>rw [hb] at hy; cases hy
   |true=>
    rw [hb] at hy; cases hy
    simp only [Bool.and_eq_true,decide_eq_true_eq] at hb
    obtain ⟨h0,h1,h2⟩:=hb
    have h1:=Nat.le_of_ble_eq_true h1
    have h2:=Nat.le_of_ble_eq_true h2
    have hi:((i.toNat:Nat):Int)=i:=by omega
    have:=x71 w2c (es:=es) (x:=v) (i:=i.toNat) h1 h2
    have hl:es.length+1=(es.take i.toNat++[v]::es.drop i.toNat).length:=by simp; omega
    rw [hl,hi] at this
    exact ⟨(by show 2≤3; omega),this⟩
 exact ⟨x8f,fun x y hy=>key x.1 x.2.1 x.2.2.1 y hy⟩
end Go.Am
end
noncomputable section
namespace Go.Am
def w6f:Ctr:=
 ⟨26,[.list 1],[],[(.ret,⟨[(0, .tuple [.vec 0 1, .int .i64])],[.row [ci]],1⟩)]⟩
def la26:List LA:=
 [⟨26,[false,true,false,true,true,true,true,true],0,⟨⟨[(6, .bptr 0 0),(7, .vec 2 1),(23, .int .i64),(24, .int .i64)],[.box [.clo 57 [.bptr 1 0] []], .row [ci], .row [ci]],37⟩,[((AX.exit 0),⟨[(7, .vec 0 1)],[.row [ci]],37⟩)]⟩⟩,
 ⟨58,[false,true,false,true],4,⟨⟨[(0, .vec 2 1),(1, .clo 59 [] [.bptr 0 0, .bptr 3 0]),(7, .vec 2 1),(8, .int .i64),(9, .int .i64)],[.box [.clo 57 [.bptr 1 0] []], .row [ci], .row [ci], .box [.int .i64]],21⟩,[(AX.ret,⟨[(4, .int .i64)],[.box [.clo 57 [.bptr 1 0] []], .row [ci], .row [ci], .box [.int .i64]],21⟩),((AX.exit 0),⟨[(0, .vec 2 1)],[.box [.clo 57 [.bptr 1 0] []], .row [ci], .row [ci], .box [.int .i64]],21⟩)]⟩⟩]
def ja26:List JA:=
 [⟨26,[false,true,true,false,false,true,false,true,true,true,true,true],0,[(AX.normal,⟨[(6, .bptr 0 0),(7, .vec 1 1),(23, .int .i64),(24, .int .i64)],[.box [.clo 57 [.bptr 2 0] []], .row [ci], .row [ci]],37⟩)]⟩]
def v1a:List CF:=
 [⟨z9t,F60⟩,⟨x5m,G54⟩]
def an26:Anns:=
 ⟨v1a,ja26,[]⟩
def v15 (p:Prim):(LD×(LD×T4))→Option ((LD×(LD×T4))⊕((LD×(LD×T3))⊕(LD×(LD×T1)))):=
 fun a=>opt.run _ (
 opt.ask _ (p.cmp .lss a.2.2.2.2.1 a.2.2.2.1) (
 opt.need _ (bif (p.cmp .geq a.2.2.2.2.1 (0:Int)) then (p.cmp .lss a.2.2.2.2.1 (p.ofNat (p.len a.2.1))) else Bool.false)<|
 opt.need _ (p.rowOk a.2.1 (p.add 0 (p.nat a.2.2.2.2.1)) [ci])<|
 opt.need _ (bif (p.cmp .geq a.2.2.1 (0:Int)) then (p.cmp .lss a.2.2.1 (p.ofNat 10)) else Bool.false)<|
 opt.need _ (bif (p.cmp .geq (p.rdI a.2.1 (p.add 0 (p.nat a.2.2.2.2.1)) 0) (0:Int)) then (p.cmp .lss (p.rdI a.2.1 (p.add 0 (p.nat a.2.2.2.2.1)) 0) (p.ofNat 10)) else Bool.false)<|
 opt.need _ (p.rowOk a.1 (p.add (p.add 1 (p.mul (p.nat a.2.2.1) 10)) (p.nat (p.rdI a.2.1 (p.add 0 (p.nat a.2.2.2.2.1)) 0))) [ci])<|
 opt.ask _ (p.cmp .eql (p.rdI a.1 (p.add (p.add 1 (p.mul (p.nat a.2.2.1) 10)) (p.nat (p.rdI a.2.1 (p.add 0 (p.nat a.2.2.2.2.1)) 0))) 0) (1:Int)) (
 opt.ret _ (Sum.inr (Sum.inl (a.1,(a.2.1,(a.2.2.1,(a.2.2.2.2.1,()))))))) (
 opt.need _ (p.eqN 0 0)<|
 opt.need _ (p.eqN (p.len a.2.1) (p.len a.2.1))<|
 opt.need _ (p.eqN 0 0)<|
 opt.need _ (p.eqN (p.len a.2.1) (p.len a.2.1))<|
 opt.ret _ (Sum.inl (a.1,(a.2.1,(a.2.2.1,(a.2.2.2.1,((p.ar .add .i64 a.2.2.2.2.1 (1:Int)),())))))))) (
 opt.need _ (p.eqN 0 0)<|
 opt.need _ (p.eqN (p.len a.2.1) (p.len a.2.1))<|
 opt.ret _ (Sum.inr (Sum.inr (a.1,(a.2.1,(a.2.2.1,())))))))
def w3h (it:It) (p:Prim):(LD×(LD×T3))→Option ((LD×(LD×T3))⊕(LD×Unit)):=
 fun a=>opt.run _ (
 opt.ask _ (p.cmp .lss a.2.2.2.1 a.2.2.1) (
 opt.bnd ((LD×(LD×T3))) _ (
 opt.run ((LD×(LD×T3))) (
 opt.need _ (p.eqN 0 0)<|
 opt.need _ (p.eqN (p.len a.2.1) (p.len a.2.1))<|
 opt.need _ (p.eqN 0 0)<|
 opt.need _ (p.eqN (p.len a.2.1) (p.len a.2.1))<|
 opt.alt ((LD×(LD×T3))) ((LD×(LD×T1))) _ (
 it _ _ (v15 p) (a.1,(a.2.1,(a.2.2.2.1,((p.ofNat (p.len a.2.1)),((0:Int),())))))) (fun b=>
 opt.need _ (p.eqN 0 0)<|
 opt.need _ (p.eqN (p.len a.2.1) (p.len b.2.1))<|
 opt.need _ (p.eqN 0 0)<|
 opt.need _ (p.eqN 1 (p.len [[(D.int .i64 b.2.2.1)]]))<|
 opt.need _ (p.eqN 1 (p.len [[(D.int .i64 b.2.2.1)]]))<|
 opt.bnd ((LD×(LD×Unit))) _ (G60 p (b.2.1,([[(D.int .i64 b.2.2.1)]],(b.2.2.2.1,())))) fun c=>
 opt.need _ (p.eqN 0 0)<|
 opt.need _ (p.eqN (p.len c.2.1) (p.len c.2.1))<|
 opt.ret _ (c.2.1,(b.1,(a.2.2.1,(a.2.2.2.1,()))))) (fun d=>
 opt.bnd ((LD×(LD×T1))) _ (some d) fun e=>
 opt.need _ (p.eqN 0 0)<|
 opt.need _ (p.eqN (p.len a.2.1) (p.len e.2.1))<|
 opt.need _ (p.eqN 0 0)<|
 opt.need _ (p.eqN 1 (p.len [[(D.int .i64 e.2.2.1)]]))<|
 opt.need _ (p.eqN 1 (p.len [[(D.int .i64 e.2.2.1)]]))<|
 opt.bnd ((LD×(LD×Unit))) _ (G60 p (e.2.1,([[(D.int .i64 e.2.2.1)]],((p.ofNat (p.len e.2.1)),())))) fun f=>
 opt.need _ (p.eqN 0 0)<|
 opt.need _ (p.eqN (p.len f.2.1) (p.len f.2.1))<|
 opt.ret _ (f.2.1,(e.1,(a.2.2.1,(a.2.2.2.1,()))))))) fun g=>
 opt.need _ (p.eqN 0 0)<|
 opt.need _ (p.eqN (p.len g.1) (p.len g.1))<|
 opt.ret _ (Sum.inl (g.2.1,(g.1,(g.2.2.1,((p.ar .add .i64 g.2.2.2.1 (1:Int)),())))))) (
 opt.need _ (p.eqN 0 0)<|
 opt.need _ (p.eqN (p.len a.2.1) (p.len a.2.1))<|
 opt.ret _ (Sum.inr (a.2.1,()))))
def g26 (it:It):(p:Prim)→(LD×Unit)→Option ((LD×T1)):=
 fun p x=>
 opt.alt T2 ((LD×T1)) _ (g54 it p (x.1,())) (fun a=>
 opt.ask _ (p.cmp .neq a.1 (0:Int)) (
 opt.ret _ ([],(a.1,()))) (
 opt.no _ 41)) (fun b=>
 opt.bnd ((LD×T1)) _ (some b) fun c=>
 opt.ask _ (p.cmp .neq c.2.1 (0:Int)) (
 opt.ret _ ([],(c.2.1,()))) (
 opt.need _ (p.rowOk c.1 0 [ci])<|
 opt.bnd ((LD×Unit)) _ (
 it _ _ (w3h it p) (c.1,([],((p.rdI c.1 0 0),((0:Int),()))))) fun d=>
 opt.need _ (p.eqN 0 0)<|
 opt.need _ (p.eqN (p.len d.1) (p.len d.1))<|
 opt.ret _ (d.1,((0:Int),()))))
def G26:=g26 it0
theorem ok26:CtrOk PG w6f (G26 std):=okF (a:=an26) (l:=la26) (gC ok60 (gC w7s (gN))) (by kernel_rfl) fun _ _=>by kernel_rfl
end Go.Am
end
section
namespace Go.Am
noncomputable def x5p:Ctr:=
 ⟨15,[.agg [.int .i64, .int .i64, .int .i64, .list 3]],[],[(.ret,⟨[(0, .tuple [.list 1, .int .i64])],[],1⟩)]⟩
noncomputable def x5o:Ctr:=
 ⟨17,[.agg [.int .i64, .int .i64, .int .i64, .list 3]],[],[(.ret,⟨[(0, .tuple [.list 1, .int .i64])],[],1⟩)]⟩
noncomputable def G15:(p:Prim)→(Int×(Int×(Int×(List (List D)×Unit))))→Option (List (List D)×(Int×Unit)):=
 fun p x=>bodyRun opt std (autoEnvD [] Go.Proofs.Try.prog) (w8d opt) 3000 x5p x
noncomputable def G17:(p:Prim)→(Int×(Int×(Int×(List (List D)×Unit))))→Option (List (List D)×(Int×Unit)):=
 fun p x=>bodyRun opt std (autoEnvD [] Go.Proofs.Try.prog) (w8d opt) 3000 x5o x
noncomputable def F15:Prim→Tup (x5p).scs→Option (STup (scss (x5p).outs)):=fun p x=>G15 p x
noncomputable def F17:Prim→Tup (x5o).scs→Option (STup (scss (x5o).outs)):=fun p x=>G17 p x
theorem x8h:z2i Go.Proofs.Try.prog 15:=enters_auto (b:=_) rfl (by kernel_rfl)
theorem x8g:z2i Go.Proofs.Try.prog 17:=enters_auto (b:=_) rfl (by kernel_rfl)
theorem ok15:CtrOk Go.Proofs.Try.prog x5p (F15 std):=ctr_of_body (autoEnvD_ok follows_mixed) x4c x8h fun x=>rfl
theorem ok17:CtrOk Go.Proofs.Try.prog x5o (F17 std):=ctr_of_body (autoEnvD_ok follows_mixed) x4c x8g fun x=>rfl
end Go.Am
end
noncomputable section
namespace Go.Am
def w59:Ctr:=
 ⟨41,[],[],[(.ret,⟨[(0, .list 1)],[],1⟩)]⟩
def la41:List LA:=
 []
def ja41:List JA:=
 []
def v0x:List CF:=
 []
def an41:Anns:=
 ⟨v0x,ja41,[]⟩
def G41:(p:Prim)→Unit→Option ((LD×Unit)):=
 fun p x=>
 opt.need _ (p.leN (p.add 0 4) (p.len [[(D.list Bool.true 1 [[k1k]])],[(D.list Bool.true 1 [[k3k],k4k])],[(D.list Bool.true 1 [k0k,k4k])],[(D.list Bool.true 1 [k0k])]]))<|
 opt.ret _ ((p.cut [[(D.list Bool.true 1 [[k1k]])],[(D.list Bool.true 1 [[k3k],k4k])],[(D.list Bool.true 1 [k0k,k4k])],[(D.list Bool.true 1 [k0k])]] 0 4),())
theorem ok41:CtrOk PG w59 (G41 std):=okF (a:=an41) (l:=la41) (gN) (by kernel_rfl) fun _ _=>by kernel_rfl
def w55:Ctr:=
 ⟨45,[],[],[(.ret,⟨[(0, .agg [.int .i64, .int .i64, .int .i64, .list 3])],[],1⟩)]⟩
def la45:List LA:=
 []
def ja45:List JA:=
 []
def v0t:List CF:=
 []
def an45:Anns:=
 ⟨v0t,ja45,[]⟩
def G45:(p:Prim)→Unit→Option T23:=
 fun p x=>
 opt.need _ (p.leN (p.add 0 5) (p.len [[k2k,k2k,k1k],[k2k,k1k,k3k],[k2k,k3k,k2k],[k1k,k2k,k1k],[k1k,k1k,k2k]]))<|
 opt.ret _ ((3:Int),((2:Int),((0:Int),((p.cut [[k2k,k2k,k1k],[k2k,k1k,k3k],[k2k,k3k,k2k],[k1k,k2k,k1k],[k1k,k1k,k2k]] 0 5),()))))
theorem ok45:CtrOk PG w55 (G45 std):=okF (a:=an45) (l:=la45) (gN) (by kernel_rfl) fun _ _=>by kernel_rfl
end Go.Am
end
noncomputable section
namespace Go.Am
def w25:Ctr:=
 ⟨64,[.list 1],[],[(.ret,⟨[(0, .tuple [.list 1, .bool])],[],1⟩)]⟩
def la64:List LA:=
 [⟨64,[false,true,false,true,true,true,true,false,true],0,⟨⟨[(0, .list 1),(4, .vec 0 1),(5, .int .i64),(6, .int .i64),(12, .vec 0 1),(13, .int .i64),(14, .int .i64)],[.row [ci]],58⟩,[((AX.exit 0),⟨[(4, .vec 0 1),(6, .int .i64)],[.row [ci]],58⟩)]⟩⟩]
def ja64:List JA:=
 [⟨64,[false,true,true,true,false,false,true,true,false,false,true,false,true,true,true,true,false,true],0,[(AX.normal,⟨[(0, .list 1),(4, .vec 0 1),(5, .int .i64),(6, .int .i64),(9, .int .i64),(12, .vec 0 1),(13, .int .i64),(14, .int .i64),(48, .bool)],[.row [ci]],58⟩)]⟩]
def v0l:List CF:=
 [⟨w23,G73⟩,⟨w24,G71⟩]
def an64:Anns:=
 ⟨v0l,ja64,[]⟩
def v1x (p:Prim):(LD×(LD×T6))→Option ((LD×(LD×T6))⊕(LD×T1)):=
 fun a=>opt.run _ (
 opt.ask _ (p.cmp .lss a.2.2.2.2.2.1 a.2.2.2.2.1) (
 opt.need _ (bif (p.cmp .geq a.2.2.2.2.2.1 (0:Int)) then (p.cmp .lss a.2.2.2.2.2.1 (p.ofNat (p.len a.1))) else Bool.false)<|
 opt.need _ (p.rowOk a.1 (p.add 0 (p.nat a.2.2.2.2.2.1)) [ci])<|
 opt.need _ (p.rowOk a.2.1 (p.nat (p.rdI a.1 (p.add 0 (p.nat a.2.2.2.2.2.1)) 0)) [ci])<|
 opt.need _ (p.cmp .geq (p.rdI a.1 (p.add 0 (p.nat a.2.2.2.2.2.1)) 0) (0:Int))<|
 opt.bnd ((LD×(LD×T35))) _ (
 opt.run ((LD×(LD×T35))) (
 opt.need _ (p.cmp .neq (2:Int) (0:Int))<|
 opt.ask _ (p.cmp .lss (p.ar .add .i64 a.2.2.1 (p.rdI a.2.1 (p.nat (p.rdI a.1 (p.add 0 (p.nat a.2.2.2.2.2.1)) 0)) 0)) (p.ar .quo .i64 (p.ar .mul .i64 (p.ar .add .i64 a.2.2.2.2.2.1 (1:Int)) (p.ar .sub .i64 (p.ar .add .i64 a.2.2.2.2.2.1 (1:Int)) (1:Int))) (2:Int))) (
 opt.need _ (p.eqN 0 0)<|
 opt.need _ (p.eqN (p.len a.1) (p.len a.1))<|
 opt.need _ (p.eqN 0 0)<|
 opt.need _ (p.eqN (p.len a.1) (p.len a.1))<|
 opt.ret _ (a.1,(a.2.1,((p.ar .add .i64 a.2.2.1 (p.rdI a.2.1 (p.nat (p.rdI a.1 (p.add 0 (p.nat a.2.2.2.2.2.1)) 0)) 0)),(a.2.2.2.1,((p.ar .add .i64 a.2.2.2.2.2.1 (1:Int)),(a.2.2.2.2.1,(a.2.2.2.2.2.1,(Bool.true,()))))))))) (
 opt.ask _ (p.cmp .eql (p.ar .add .i64 a.2.2.2.2.2.1 (1:Int)) (p.ofNat (p.len a.1))) (
 opt.need _ (p.cmp .neq (2:Int) (0:Int))<|
 opt.need _ (p.eqN 0 0)<|
 opt.need _ (p.eqN (p.len a.1) (p.len a.1))<|
 opt.need _ (p.eqN 0 0)<|
 opt.need _ (p.eqN (p.len a.1) (p.len a.1))<|
 opt.ret _ (a.1,(a.2.1,((p.ar .add .i64 a.2.2.1 (p.rdI a.2.1 (p.nat (p.rdI a.1 (p.add 0 (p.nat a.2.2.2.2.2.1)) 0)) 0)),(a.2.2.2.1,((p.ar .add .i64 a.2.2.2.2.2.1 (1:Int)),(a.2.2.2.2.1,(a.2.2.2.2.2.1,((p.cmp .neq (p.ar .add .i64 a.2.2.1 (p.rdI a.2.1 (p.nat (p.rdI a.1 (p.add 0 (p.nat a.2.2.2.2.2.1)) 0)) 0)) (p.ar .quo .i64 (p.ar .mul .i64 (p.ar .add .i64 a.2.2.2.2.2.1 (1:Int)) (p.ar .sub .i64 (p.ar .add .i64 a.2.2.2.2.2.1 (1:Int)) (1:Int))) (2:Int))),()))))))))) (
 opt.need _ (p.eqN 0 0)<|
 opt.need _ (p.eqN (p.len a.1) (p.len a.1))<|
 opt.need _ (p.eqN 0 0)<|
 opt.need _ (p.eqN (p.len a.1) (p.len a.1))<|
 opt.ret _ (a.1,(a.2.1,((p.ar .add .i64 a.2.2.1 (p.rdI a.2.1 (p.nat (p.rdI a.1 (p.add 0 (p.nat a.2.2.2.2.2.1)) 0)) 0)),(a.2.2.2.1,((p.ar .add .i64 a.2.2.2.2.2.1 (1:Int)),(a.2.2.2.2.1,(a.2.2.2.2.2.1,(Bool.false,())))))))))))) fun b=>
 opt.ask _ b.2.2.2.2.2.2.2.1 (
 opt.need _ (p.eqN 0 0)<|
 opt.need _ (p.eqN (p.len b.1) (p.len b.1))<|
 opt.ret _ (Sum.inr (b.1,(b.2.2.2.2.1,())))) (
 opt.need _ (p.eqN 0 0)<|
 opt.need _ (p.eqN (p.len b.1) (p.len b.1))<|
 opt.need _ (p.eqN 0 0)<|
 opt.need _ (p.eqN (p.len b.1) (p.len b.1))<|
 opt.ret _ (Sum.inl (b.1,(b.2.1,(b.2.2.1,(b.2.2.2.1,(b.2.2.2.2.2.1,((p.ar .add .i64 b.2.2.2.2.2.2.1 (1:Int)),()))))))))) (
 opt.need _ (p.eqN 0 0)<|
 opt.need _ (p.eqN (p.len a.1) (p.len a.1))<|
 opt.ret _ (Sum.inr (a.1,(a.2.2.2.1,())))))
def g64 (it:It):(p:Prim)→(LD×Unit)→Option ((LD×T8)):=
 fun p x=>
 opt.bnd ((LD×Unit)) _ (g71 it p (x.1,())) fun a=>
 opt.need _ (p.eqN 0 0)<|
 opt.need _ (p.eqN (p.len a.1) (p.len a.1))<|
 opt.need _ (p.eqN 0 0)<|
 opt.need _ (p.eqN (p.len a.1) (p.len a.1))<|
 opt.bnd ((LD×T1)) _ (
 it _ _ (v1x p) (a.1,(x.1,((0:Int),((-1:Int),((p.ofNat (p.len a.1)),((0:Int),()))))))) fun b=>
 opt.ask _ (p.cmp .lss b.2.1 (0:Int)) (
 opt.ret _ ([],(Bool.false,()))) (
 opt.need _ (p.and (p.cmp .geq (0:Int) (0:Int)) (p.and (p.cmp .leq (0:Int) b.2.1) (p.cmp .leq b.2.1 (p.ofNat (p.len b.1)))))<|
 opt.bnd ((LD×(LD×T5))) _ (g73 it p (b.1,((p.add 0 (p.nat (0:Int))),((p.sub (p.nat b.2.1) (p.nat (0:Int))),())))) fun c=>
 opt.need _ (p.leN (p.add 0 (p.len c.2.1)) (p.len c.2.1))<|
 opt.ret _ ((p.cut c.2.1 0 (p.len c.2.1)),(Bool.true,())))
def G64:=g64 it0
theorem v2t:CtrOk PG w25 (G64 std):=okF (a:=an64) (l:=la64) (gC v2r (gC v2s (gN))) (by kernel_rfl) fun _ _=>by kernel_rfl
def w6b:Ctr:=
 ⟨31,[.list 1],[],[(.ret,⟨[(0, .tuple [.list 1, .int .i64])],[],1⟩)]⟩
def la31:List LA:=
 []
def ja31:List JA:=
 []
def v05:List CF:=
 [⟨w25,G64⟩,⟨x8s,G61⟩]
def an31:Anns:=
 ⟨v05,ja31,[]⟩
def g31 (it:It):(p:Prim)→(LD×Unit)→Option ((LD×T1)):=
 fun p x=>
 opt.bnd T2 _ (g61 it p (x.1,())) fun a=>
 opt.ask _ (p.cmp .neq a.1 (0:Int)) (
 opt.ret _ ([],(a.1,()))) (
 opt.bnd ((LD×T8)) _ (g64 it p (x.1,())) fun b=>
 opt.ask _ (bif b.2.1 then Bool.false else Bool.true) (
 opt.ret _ ([],((5:Int),()))) (
 opt.ret _ (b.1,((0:Int),()))))
def G31:=g31 it0
theorem ok31:CtrOk PG w6b (G31 std):=okF (a:=an31) (l:=la31) (gC v2t (gC w8r (gN))) (by kernel_rfl) fun _ _=>by kernel_rfl
def w6e:Ctr:=
 ⟨28,[.list 1, .list 1],[],[(.ret,⟨[(0, .int .i64)],[],1⟩)]⟩
def la28:List LA:=
 [⟨28,[false,true,false,true,true,true,true],0,⟨⟨[(0, .list 1),(6, .int .i64),(7, .int .i64),(22, .list 1),(23, .int .i64),(24, .int .i64)],[],57⟩,[((AX.exit 0),⟨[(0, .list 1),(6, .int .i64),(7, .int .i64)],[],57⟩)]⟩⟩]
def ja28:List JA:=
 [⟨28,[false,false,true,true,true,true,true],0,[(AX.normal,⟨[(56, .bool)],[],57⟩)]⟩]
def v08:List CF:=
 [⟨x8t,G56⟩,⟨x8s,G61⟩]
def an28:Anns:=
 ⟨v08,ja28,[]⟩
def v14 (p:Prim):(LD×T9)→Option ((LD×T9)⊕(LD×T3)):=
 fun a=>opt.run _ (
 opt.ask _ (p.cmp .lss a.2.2.2.2.2.1 a.2.2.2.2.1) (
 opt.need _ (p.rowOk a.2.2.2.1 (p.nat a.2.2.2.2.2.1) [ci])<|
 opt.need _ (p.cmp .geq a.2.2.2.2.2.1 (0:Int))<|
 opt.need _ (p.rowOk a.1 (p.nat (p.rdI a.2.2.2.1 (p.nat a.2.2.2.2.2.1) 0)) [ci])<|
 opt.need _ (p.cmp .geq (p.rdI a.2.2.2.1 (p.nat a.2.2.2.2.2.1) 0) (0:Int))<|
 opt.ret _ (Sum.inl (a.1,((p.ar .add .i64 a.2.1 (p.rdI a.1 (p.nat (p.rdI a.2.2.2.1 (p.nat a.2.2.2.2.2.1) 0)) 0)),(a.2.2.1,(a.2.2.2.1,(a.2.2.2.2.1,((p.ar .add .i64 a.2.2.2.2.2.1 (1:Int)),())))))))) (
 opt.ret _ (Sum.inr (a.1,(a.2.1,(a.2.2.1,()))))))
def g28 (it:It):(p:Prim)→(LD×(LD×Unit))→Option T2:=
 fun p x=>
 opt.bnd T2 _ (g61 it p (x.1,())) fun a=>
 opt.ask _ (p.cmp .neq a.1 (0:Int)) (
 opt.ret _ (a.1,())) (
 opt.bnd T0 _ (g56 it p (x.2.1,((p.ofNat (p.len x.1)),()))) fun b=>
 opt.ask _ (bif b.1 then Bool.false else Bool.true) (
 opt.ret _ ((3:Int),())) (
 opt.bnd ((LD×T3)) _ (
 it _ _ (v14 p) (x.1,((0:Int),((p.ofNat (p.len x.2.1)),(x.2.1,((p.ofNat (p.len x.2.1)),((0:Int),()))))))) fun c=>
 opt.bnd T0 _ (
 opt.run T0 (
 opt.need _ (p.cmp .neq (2:Int) (0:Int))<|
 opt.ask _ (p.cmp .lss c.2.1 (p.ar .quo .i64 (p.ar .mul .i64 c.2.2.1 (p.ar .sub .i64 c.2.2.1 (1:Int))) (2:Int))) (
 opt.ret _ (Bool.true,())) (
 opt.ask _ (p.cmp .eql c.2.2.1 (p.ofNat (p.len c.1))) (
 opt.need _ (p.cmp .neq (2:Int) (0:Int))<|
 opt.ret _ ((p.cmp .neq c.2.1 (p.ar .quo .i64 (p.ar .mul .i64 c.2.2.1 (p.ar .sub .i64 c.2.2.1 (1:Int))) (2:Int))),())) (
 opt.ret _ (Bool.false,()))))) fun d=>
 opt.ask _ d.1 (
 opt.ret _ ((0:Int),())) (
 opt.ret _ ((14:Int),()))))
def G28:=g28 it0
theorem ok28:CtrOk PG w6e (G28 std):=okF (a:=an28) (l:=la28) (gC w8s (gC w8r (gN))) (by kernel_rfl) fun _ _=>by kernel_rfl
end Go.Am
end
