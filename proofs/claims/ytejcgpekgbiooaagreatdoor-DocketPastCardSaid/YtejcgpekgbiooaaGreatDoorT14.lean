/- Texts of this claim. -/
import Derived.Test.YtejcgpekgbiooaaGreatDoorT13
import Derived.Test.YtejcgpekgbiooaaGreatDoorProg
import Derived.KernelRfl
set_option linter.unusedVariables false
set_option linter.unusedSimpArgs false
set_option linter.unusedSectionVars false
set_option maxRecDepth 100000
set_option maxHeartbeats 0
section
namespace Go.Am
def autoEnvD (own:List Nat) (P:Program):Env:=⟨w8g P,x0x P,w9l P,w9k P,z4g P,fun g=>!x4x g own,true,false,fun _=>false,false,fun _=>none⟩
theorem autoEnvD_ok {own:List Nat} {P:Program} (hm:P.follows .mixedOrders=true):z96 P (autoEnvD own P) where
 ti:=fun t ti h=>x81 h
 gl:=fun _ _ h=>by first|exact h|cases h
 fn:=fun g i h=>y40 h
 code:=fun g pos c h=>h
 mixed:=hm
end Go.Am
end
section
namespace Go.Am.D12
theorem idx_at {p q:List Cd} {x:Cd} (hx:x∉p):(p++x::q).idxOf x=p.length:=by
 rw [List.idxOf_append,if_neg hx]; simp
end Go.Am.D12
end
section
namespace Go.Am.D12
theorem cardSt_zero {c:Cd}:z3x c=0↔z7m c.n∧z3u c.k≠0∧c.t.length=z3u c.k∧(∀ x∈c.t,z7m x)∧c.t.Nodup∧w2o c.k c.a:=by
 unfold z3x
 constructor
 ·intro h
  repeat' split at h
  all_goals first|(exfalso; omega)|skip
  rename_i h1 h2 h3 h4 h5
  simp only [not_or,Decidable.not_not] at h1 h2 h4 h5
  refine ⟨h1.1,h1.2,h2,fun x hx=>Decidable.byContradiction fun hn=>h3 ⟨x,hx,hn⟩,h4,h5⟩
 ·rintro ⟨h1,h2,h3,h4,h5,h6⟩
  rw [if_neg (by simp only [not_or,Decidable.not_not]; exact ⟨h1,h2⟩),if_neg (by simpa using h3),if_neg (by rintro ⟨x,hx,hn⟩; exact hn (h4 x hx)),if_neg (by simpa using h5),if_neg (by simpa using h6)]
theorem dockSt_zero {l:List Cd}:z5l l=0↔l.length≤60∧(∀ c∈l,z3x c=0)∧(l.map (·.n)).Nodup:=by
 unfold z5l
 split
 ·constructor
  ·intro h; omega
  ·intro h; omega
 ·rename_i hlen
  split
  ·rename_i c hc
   have h1:=List.find?_some hc
   have h2:=List.mem_of_find?_eq_some hc
   simp at h1
   constructor
   ·intro h; exact absurd h h1
   ·intro h; exact absurd (h.2.1 c h2) h1
  ·rename_i hc
   rw [List.find?_eq_none] at hc
   have hc':∀ c∈l,z3x c=0:=fun c h=>by simpa using hc c h
   split
   ·rename_i hn; exact ⟨fun _=>⟨by omega,hc',hn⟩,fun _=>rfl⟩
   ·rename_i hn; exact ⟨fun h=>by omega,fun h=>absurd h.2.2 hn⟩
theorem nodup_of_map {l:List Cd} (h:(l.map (·.n)).Nodup):l.Nodup:=by
 rw [List.nodup_iff_pairwise_ne] at h⊢
 rw [List.pairwise_map] at h
 exact h.imp fun h e=>h (by rw [e])
theorem inj_of_map {l:List Cd} (h:(l.map (·.n)).Nodup):Inj l:=by
 intro x hx y hy e
 obtain ⟨i,hi,rfl⟩:=List.mem_iff_getElem.1 hx
 obtain ⟨j,hj,rfl⟩:=List.mem_iff_getElem.1 hy
 have:=(List.getElem_inj (xs:=l.map (·.n)) (i:=i) (j:=j) (h₀:=by simpa using hi) (h₁:=by simpa using hj) h).1 (by simpa using e)
 subst this; rfl
def fnd (b:List Th) (x:Int):Option Th:=b.find? fun t=>decide (t.num=x)
def play (b:List Th) (c:Cd):List Th:=
 if errC (fnd b) c≠0 then b
 else if c.k=1 then b++[⟨x0 c,c.a,0,false⟩]
 else if c.k=4 then upd b (x0 c) (v3l (fnd b) c)++[⟨x1 c,w03 (fnd b) (x0 c),0,false⟩]
 else upd b (x0 c) (v3l (fnd b) c)
theorem turn_num (s:Sf) (c:Cd) (t:Th):(v3l s c t).num=t.num:=by
 unfold v3l; repeat' split
 all_goals rfl
theorem fnd_upd {b:List Th} {x:Int} {f:Th→Th} (hf:∀ t,(f t).num=t.num) (y:Int):fnd (upd b x f) y=if y=x then (fnd b y).map f else fnd b y:=by
 induction b with
 |nil=>simp [fnd,upd]
 |cons t b ih=>
  simp only [fnd,upd,List.map_cons,List.find?_cons] at ih⊢
  by_cases h1:t.num=x
  ·rw [if_pos h1]
   by_cases h2:t.num=y
   ·have h3:y=x:=by omega
    have h4:(f t).num=y:=by rw [hf,h2]
    simp [h2,h3,h4,hf,h1]
   ·have h4:¬ (f t).num=y:=by rw [hf]; exact h2
    have e4:decide ((f t).num=y)=false:=by simpa using h4
    have e2:decide (t.num=y)=false:=by simpa using h2
    simp only [e4,e2]
    exact ih
  ·rw [if_neg h1]
   by_cases h2:t.num=y
   ·have h3:¬ y=x:=by omega
    simp [h2,h3]
   ·have e2:decide (t.num=y)=false:=by simpa using h2
    simp only [e2]
    exact ih
theorem fnd_app {b:List Th} {t:Th} (h:fnd b t.num=none) (y:Int):fnd (b++[t]) y=if y=t.num then some t else fnd b y:=by
 unfold fnd at*
 rw [List.find?_append]
 by_cases e:y=t.num
 ·subst e; rw [h]; simp
 ·rw [if_neg e]
  have:decide (t.num=y)=false:=by simpa using fun h=>e h.symm
  simp [this]
theorem fnd_play (b:List Th) (c:Cd) (hk:z3u c.k≠0) (hne:c.k=4→x0 c≠x1 c):fnd (play b c)=after (fnd b) c:=by
 unfold play after
 split
 ·rfl
 ·rename_i he
  have he:errC (fnd b) c=0:=by simpa using he
  split
  ·rename_i h1
   funext y
   refine fnd_app (t:=⟨x0 c,c.a,0,false⟩) ?_ y
   unfold errC at he
   rw [if_pos h1] at he
   cases hq:fnd b (x0 c) with
   |none=>rfl
   |some t=>rw [hq] at he; simp at he
  ·rename_i h1
   split
   ·rename_i h4
    funext y
    have hx1:fnd b (x1 c)=none:=by
     unfold errC at he
     rw [if_neg h1] at he
     split at he
     ·rename_i hh; exact absurd he hh
     ·simp only [h4,Int.reduceEq,if_false,if_true] at he
      cases hq:fnd b (x1 c) with
      |none=>rfl
      |some t=>rw [hq] at he; simp at he
    rw [fnd_app (t:=⟨x1 c,w03 (fnd b) (x0 c),0,false⟩)]
    ·show (if y=x1 c then _ else _)=_
     split
     ·rfl
     ·exact fnd_upd (turn_num _ _) y
    ·show fnd _ (x1 c)=none
     rw [fnd_upd (turn_num _ _),if_neg (fun e=>hne h4 e.symm)]
     exact hx1
   ·funext y
    exact fnd_upd (turn_num _ _) y
def bookOf (l:List Cd):List Th:=l.foldl play []
def errs:Sf→List Cd→List Int
 |_,[]=>[]
 |s,c::l=>errC s c::errs (after s c) l
theorem st_snoc (p:List Cd) (c:Cd):st (p++[c])=after (st p) c:=by simp [st]
theorem errs_length (s:Sf) (l:List Cd):(errs s l).length=l.length:=by
 induction l generalizing s with
 |nil=>rfl
 |cons c l ih=>simp [errs,ih]
def Wf (c:Cd):Prop:=z3u c.k≠0∧c.t.length=z3u c.k∧c.t.Nodup
theorem wf_of {c:Cd} (h:z3x c=0):Wf c:=by
 obtain ⟨_,h2,h3,_,h5,_⟩:=cardSt_zero.1 h
 exact ⟨h2,h3,h5⟩
theorem x0_mem {c:Cd} (h:Wf c):x0 c∈c.t:=by
 have:0<c.t.length:=by rw [h.2.1]; exact Nat.pos_of_ne_zero h.1
 unfold x0
 rw [List.getD_eq_getElem?_getD,List.getElem?_eq_getElem this]
 exact List.getElem_mem _
theorem x1_mem {c:Cd} (h:Wf c) (h1:1<z3u c.k):x1 c∈c.t:=by
 have:1<c.t.length:=by rw [h.2.1]; exact h1
 unfold x1
 rw [List.getD_eq_getElem?_getD,List.getElem?_eq_getElem this]
 exact List.getElem_mem _
theorem x2_mem {c:Cd} (h:Wf c) (h1:2<z3u c.k):x2 c∈c.t:=by
 have:2<c.t.length:=by rw [h.2.1]; exact h1
 unfold x2
 rw [List.getD_eq_getElem?_getD,List.getElem?_eq_getElem this]
 exact List.getElem_mem _
theorem x01_ne {c:Cd} (h:Wf c) (h1:1<z3u c.k):x0 c≠x1 c:=by
 have hl:1<c.t.length:=by rw [h.2.1]; exact h1
 unfold x0 x1
 rw [List.getD_eq_getElem?_getD,List.getD_eq_getElem?_getD,List.getElem?_eq_getElem hl,List.getElem?_eq_getElem (by omega:0<c.t.length)]
 intro e
 have:=(List.getElem_inj h.2.2).1 e
 omega
theorem needErr_congr {s s':Sf}:∀ {l:List Int},(∀ y∈l,s y=s' y)→x22 s l=x22 s' l
 |[],_=>rfl
 |x::l,h=>by
  have hx:w7u s x=w7u s' x:=by unfold w7u; rw [h x List.mem_cons_self]
  simp only [x22,hx,needErr_congr fun y hy=>h y (List.mem_cons_of_mem _ hy)]
theorem needs_sub {c:Cd}:∀ y∈needs c,y∈c.t:=by
 intro y hy
 unfold needs at hy
 split at hy
 ·exact hy
 ·exact List.mem_of_mem_take hy
theorem errC_congr {s s':Sf} {c:Cd} (hw:Wf c) (h:∀ y∈c.t,s y=s' y):errC s c=errC s' c:=by
 have e0:=h _ (x0_mem hw)
 have en:=needErr_congr fun y hy=>h y (needs_sub (c:=c) y hy)
 unfold errC hrsS w03
 rw [e0,en]
 rcases y4s hw.1 with ⟨hk,hm⟩|⟨hk,hm⟩|⟨hk,hm⟩
 ·rcases hk with hk|hk|hk<;>simp [hk]
 ·rw [h _ (x1_mem hw (by omega))]
  rcases hk with hk|hk<;>simp [hk]
 ·rw [h _ (x1_mem hw (by omega)),h _ (x2_mem hw (by omega))]
theorem after_congr {s s':Sf} {c:Cd} (hw:Wf c) (h:∀ y∈c.t,s y=s' y):∀ y∈c.t,after s c y=after s' c y:=by
 intro y hy
 have e:=errC_congr hw h
 have e0:=h _ (x0_mem hw)
 have ey:=h y hy
 have ht:∀ t,v3l s c t=v3l s' c t:=by
  intro t
  unfold v3l w03
  rcases y4s hw.1 with ⟨hk,hm⟩|⟨hk,hm⟩|⟨hk,hm⟩
  ·rcases hk with hk|hk|hk<;>simp [hk]
  ·rw [h _ (x1_mem hw (by omega))]
  ·simp [hk]
 have ht':v3l s c=v3l s' c:=funext ht
 unfold after
 rw [e]
 have ev:w03 s (x0 c)=w03 s' (x0 c):=by unfold w03; rw [e0]
 repeat' split
 all_goals simp_all
theorem after_other {s:Sf} {c:Cd} (hw:Wf c) {y:Int} (hy:y∉c.t):after s c y=s y:=by
 have h0:y≠x0 c:=fun e=>hy (e▸x0_mem hw)
 unfold after
 split
 ·rfl
 ·split
  ·simp [h0]
  ·split
   ·rename_i h4
    have h1:y≠x1 c:=fun e=>hy (e▸x1_mem hw (by simp [z3u,h4]))
    simp [h0,h1]
   ·simp [h0]
theorem st_other {p q:List Cd} (hw:∀ c∈q,Wf c) {y:Int} (hy:on y q=[]):st (p++q) y=st p y:=by
 induction q generalizing p with
 |nil=>simp
 |cons c q ih=>
  have hc:y∉c.t:=fun h=>by
   have:c∈on y (c::q):=x4o.2 ⟨List.mem_cons_self,h⟩
   rw [hy] at this; cases this
  have hq:on y q=[]:=by
   unfold on at hy⊢
   rw [List.filter_eq_nil_iff] at hy⊢
   exact fun d hd=>hy d (List.mem_cons_of_mem _ hd)
  have e:p++c::q=(p++[c])++q:=by simp
  rw [e,ih (fun d hd=>hw d (List.mem_cons_of_mem _ hd)) hq,st_snoc,after_other (hw c List.mem_cons_self) hc]
theorem last_split (x:Int) (p:List Cd):on x p=[]∨∃ p1 e p2,p=p1++e::p2∧x∈e.t∧on x p2=[]∧on x p=on x p1++[e]:=by
 induction p with
 |nil=>exact .inl rfl
 |cons c p ih=>
  rcases ih with h|⟨p1,e,p2,rfl,h1,h2,h3⟩
  ·by_cases hc:x∈c.t
   ·refine .inr ⟨[],c,p,rfl,hc,h,?_⟩
    have:on x (c::p)=c::on x p:=by simp [on,hc]
    rw [this,h]; rfl
   ·left
    have:on x (c::p)=on x p:=by simp [on,hc]
    rw [this,h]
  ·refine .inr ⟨c::p1,e,p2,rfl,h1,h2,?_⟩
   by_cases hc:x∈c.t
   ·have a:on x (c::(p1++e::p2))=c::on x (p1++e::p2):=by simp [on,hc]
    have b:on x (c::p1)=c::on x p1:=by simp [on,hc]
    rw [a,b,h3]; rfl
   ·have a:on x (c::(p1++e::p2))=on x (p1++e::p2):=by simp [on,hc]
    have b:on x (c::p1)=on x p1:=by simp [on,hc]
    rw [a,b,h3]
def Hist (S:Cd→Prop) (a b:List Cd):Prop:=
 ∀ e p r p' r',S e→a=p++e::r→b=p'++e::r'→∀ y∈e.t,on y p=on y p'∧∀ f∈on y p,S f
theorem hist_st {S:Cd→Prop} {a b:List Cd} (ha:∀ c∈a,Wf c) (hb:∀ c∈b,Wf c) (H:Hist S a b):∀ (n:Nat) (p r p' r':List Cd),p.length≤n→a=p++r→b=p'++r'→∀ x,on x p=on x p'→(∀ e∈on x p,S e)→st p x=st p' x:=by
 intro n
 induction n with
 |zero=>
  intro p r p' r' hn e1 e2 x ho _
  have:p=[]:=List.length_eq_zero_iff.1 (by omega)
  subst this
  have h0:on x p'=[]:=by rw [←ho]; rfl
  have:=st_other (p:=[]) (fun c hc=>hb c (by rw [e2]; exact List.mem_append_left _ hc)) h0
  simpa using this.symm
 |succ n ih=>
  intro p r p' r' hn e1 e2 x ho hS
  have hwp:∀ c∈p,Wf c:=fun c hc=>ha c (by rw [e1]; exact List.mem_append_left _ hc)
  have hwp':∀ c∈p',Wf c:=fun c hc=>hb c (by rw [e2]; exact List.mem_append_left _ hc)
  rcases last_split x p with h|⟨p1,e,p2,rfl,hx,h2,h3⟩
  ·have h':on x p'=[]:=by rw [←ho]; exact h
   have a1:=st_other (p:=[]) hwp h
   have a2:=st_other (p:=[]) hwp' h'
   simp only [List.nil_append] at a1 a2
   rw [a1,a2]
  ·rcases last_split x p' with h'|⟨q1,f,q2,rfl,hx',h2',h3'⟩
   ·rw [←ho,h3] at h'; simp at h'
   ·have hef:e=f:=by
     rw [h3,h3'] at ho
     have:=congrArg List.getLast? ho
     simpa using this
    subst hef
    have hSe:S e:=hS e (by rw [h3]; simp)
    have key:∀ y∈e.t,st p1 y=st q1 y:=fun y hy=>by
     have hH:=H e p1 (p2++r) q1 (q2++r') hSe (by rw [e1]; simp) (by rw [e2]; simp) y hy
     exact ih p1 (e::p2++r) q1 (e::q2++r') (by simp at hn; omega) (by rw [e1]; simp) (by rw [e2]; simp) y hH.1 hH.2
    have hwe:Wf e:=hwp e (by simp)
    have c1:p1++e::p2=(p1++[e])++p2:=by simp
    have c2:q1++e::q2=(q1++[e])++q2:=by simp
    rw [c1,c2,st_other (fun c hc=>hwp c (by simp [hc])) h2,st_other (fun c hc=>hwp' c (by simp [hc])) h2',st_snoc,st_snoc]
    exact after_congr hwe key x hx
theorem split_uniq {α:Type}:∀ {l1 l2 r1 r2:List α} {e:α},l1++e::r1=l2++e::r2→e∉l1→e∉l2→l1=l2
 |[],[],_,_,_,_,_,_=>rfl
 |[],y::l2,_,_,e,h,_,h2=>by
  simp only [List.nil_append,List.cons_append,List.cons.injEq] at h
  exact absurd (h.1▸List.mem_cons_self) h2
 |x::l1,[],_,_,e,h,h1,_=>by
  simp only [List.nil_append,List.cons_append,List.cons.injEq] at h
  exact absurd (h.1▸List.mem_cons_self) h1
 |x::l1,y::l2,_,_,e,h,h1,h2=>by
  simp only [List.cons_append,List.cons.injEq] at h
  rw [h.1,split_uniq h.2 (fun h=>h1 (List.mem_cons_of_mem _ h)) (fun h=>h2 (List.mem_cons_of_mem _ h))]
theorem on_append (x:Int) (p q:List Cd):on x (p++q)=on x p++on x q:=by simp [on]
theorem on_cons {x:Int} {e:Cd} (h:x∈e.t) (q:List Cd):on x (e::q)=e::on x q:=by simp [on,h]
theorem on_sub {x:Int} {p:List Cd} {c:Cd} (h:c∈on x p):c∈p:=(x4o.1 h).1
theorem hist_part {a:List Cd} (hn:a.Nodup) {S:Cd→Bool} (hS:∀ p e r,a=p++e::r→S e=true→∀ f∈p,tch f e=true→S f=true):Hist (fun c=>S c=true) a (a.filter S):=by
 intro e p r p' r' hSe h1 h2 y hy
 have hp':p'=p.filter S:=by
  have:a.filter S=p.filter S++e::r.filter S:=by rw [h1,List.filter_append,List.filter_cons,if_pos hSe]
  rw [this] at h2
  have hf:=hn.sublist (List.filter_sublist (p:=S) (l:=a))
  rw [this] at hf
  have hf2:=hf
  rw [h2] at hf2
  refine (split_uniq h2 (fun hm=>?_) fun hm=>?_).symm
  ·exact (List.nodup_append.1 hf).2.2 e hm e List.mem_cons_self rfl
  ·exact (List.nodup_append.1 hf2).2.2 e hm e List.mem_cons_self rfl
 have hall:∀ f∈on y p,S f=true:=fun f hf=>hS p e r h1 hSe f (on_sub hf) (w5a.2 ⟨y,(x4o.1 hf).2,hy⟩)
 refine ⟨?_,hall⟩
 subst hp'
 unfold on at hall⊢
 rw [List.filter_filter]
 refine (List.filter_congr fun c hc=>?_)
 cases hh:c.t.contains y with
 |false=>simp
 |true=>simp [hall c (List.mem_filter.2 ⟨hc,hh⟩)]
end Go.Am.D12
end
section
namespace Go.Am.D12
def pastL (x:Int):List Cd→List Cd
 |[]=>[]
 |c::l=>if c.t.contains x||(pastL x l).any (tch c) then c::pastL x l else pastL x l
theorem pastL_sub (x:Int) (l:List Cd):(pastL x l).Sublist l:=by
 induction l with
 |nil=>exact .slnil
 |cons c l ih=>
  simp only [pastL]
  split
  ·exact ih.cons_cons c
  ·exact ih.cons c
theorem pastL_idem (x:Int) (l:List Cd):pastL x (pastL x l)=pastL x l:=by
 induction l with
 |nil=>rfl
 |cons c l ih=>
  simp only [pastL]
  split
  ·rename_i h
   simp only [pastL,ih,h,if_true]
  ·exact ih
theorem pastL_back (x:Int):∀ (p:List Cd) (e:Cd) (r:List Cd),∀ f∈p,e∈pastL x (e::r)→tch f e=true→f∈pastL x (p++e::r)
 |[],_,_,f,h,_,_=>by cases h
 |c::p,e,r,f,h,he,ht=>by
  have hmem:∀ (p:List Cd),e∈pastL x (p++e::r):=fun p=>by
   induction p with
   |nil=>exact he
   |cons d p ih=>
    simp only [List.cons_append,pastL]
    split
    ·exact List.mem_cons_of_mem _ ih
    ·exact ih
  simp only [List.cons_append,pastL]
  rcases List.mem_cons.1 h with rfl|h
  ·rw [if_pos]
   ·exact List.mem_cons_self
   ·rw [Bool.or_eq_true]; right
    exact List.any_eq_true.2 ⟨e,hmem p,ht⟩
  ·have:=pastL_back x p e r f h he ht
   split
   ·exact List.mem_cons_of_mem _ this
   ·exact this
theorem pastL_filter (x:Int) {l:List Cd} (hn:l.Nodup):l.filter (fun c=>decide (c∈pastL x l))=pastL x l:=by
 have:∀ {p l:List Cd},p.Sublist l→l.Nodup→l.filter (fun c=>decide (c∈p))=p:=by
  intro p l h
  induction h with
  |slnil=>intro _; rfl
  |cons a h ih=>
   intro hn
   obtain ⟨h1,h2⟩:=List.nodup_cons.1 hn
   rw [List.filter_cons,if_neg,ih h2]
   simpa using fun h'=>h1 (h.subset h')
  |cons_cons a h ih=>
   intro hn
   obtain ⟨h1,h2⟩:=List.nodup_cons.1 hn
   rw [List.filter_cons,if_pos (by simp)]
   congr 1
   refine Eq.trans ?_ (ih h2)
   refine List.filter_congr fun c hc=>?_
   have:c≠a:=fun e=>h1 (e▸hc)
   simp [this]
 exact this (pastL_sub x l) hn
theorem past_of_mem {x:Int}:∀ {l:List Cd},l.Nodup→∀ {p r:List Cd} {e:Cd},l=p++e::r→e∈pastL x l→e∈pastL x (e::r)
 |_,hn,[],r,e,h,he=>by subst h; exact he
 |_,hn,c::p,r,e,h,he=>by
  subst h
  obtain ⟨h1,h2⟩:=List.nodup_cons.1 hn
  have hne:e≠c:=fun h=>h1 (by simp [h])
  simp only [List.cons_append,pastL] at he
  refine past_of_mem (l:=p++e::r) h2 rfl ?_
  split at he
  ·rcases List.mem_cons.1 he with h|h
   ·exact absurd h hne
   ·exact h
  ·exact he
theorem past_closed (x:Int) {l:List Cd} (hn:l.Nodup):∀ p e r,l=p++e::r→decide (e∈pastL x l)=true→∀ f∈p,tch f e=true→decide (f∈pastL x l)=true:=by
 intro p e r h he f hf ht
 have he':=past_of_mem hn h (by simpa using he)
 have:=pastL_back x p e r f hf he' ht
 rw [←h] at this
 simpa using this
theorem pastL_touch {x:Int} {l:List Cd} {c:Cd} (hc:c∈l) (hx:x∈c.t):c∈pastL x l:=by
 induction l with
 |nil=>cases hc
 |cons d l ih=>
  simp only [pastL]
  rcases List.mem_cons.1 hc with rfl|hc
  ·rw [if_pos (by simp [hx])]; exact List.mem_cons_self
  ·split
   ·exact List.mem_cons_of_mem _ (ih hc)
   ·exact ih hc
theorem past_st (x:Int) {l:List Cd} (hn:l.Nodup) (hw:∀ c∈l,Wf c):st l x=st (pastL x l) x:=by
 have hH:=hist_part hn (S:=fun c=>decide (c∈pastL x l)) (past_closed x hn)
 rw [pastL_filter x hn] at hH
 have hsub:=(pastL_sub x l).subset
 refine hist_st hw (fun c hc=>hw c (hsub hc)) hH _ l [] (pastL x l) [] (Nat.le_refl _) (by simp) (by simp) x ?_ fun e he=>?_
 ·have:pastL x l=l.filter (fun c=>decide (c∈pastL x l)):=(pastL_filter x hn).symm
  conv=>rhs; rw [this]
  unfold on
  rw [List.filter_filter]
  refine List.filter_congr fun c hc=>?_
  cases hh:c.t.contains x with
  |false=>simp
  |true=>
   have:c∈pastL x l:=pastL_touch hc (by simpa using hh)
   simp [this]
 ·have:=x4o.1 he
  simpa using pastL_touch this.1 this.2
end Go.Am.D12
end
section
namespace Go.Am
section
variable (es l:List (List D)) (i j a b n:Nat) (x y:Int) (c d:Bool)
theorem std_bEq:std.bEq c d=(c==d):=rfl
theorem std_eql:std.cmp .eql x y=decide (x=y):=rfl
theorem std_ar_mul:std.ar .mul .i64 x y=IntKind.i64.wrap (x*y):=rfl
theorem std_ar_quo:std.ar .quo .i64 x y=IntKind.i64.wrap (x.tdiv y):=rfl
theorem std_ar_rem:std.ar .rem .i64 x y=x.tmod y:=rfl
end
end Go.Am
namespace Go.Am
theorem drop_get {α:Type} {l:List α} {i:Nat} {m:α} (h:l[i]?=some m):l.drop i=m::l.drop (i+1):=by
 obtain ⟨h1,h2⟩:=List.getElem?_eq_some_iff.1 h
 rw [List.drop_eq_getElem_cons h1,h2]
end Go.Am
end
section
namespace Go.Am.D12
theorem Tc.last {B:Cd→Cd→Bool} {x y:Cd} (h:Tc B x y):B x y=true∨∃ z,Tc B x z∧B z y=true:=by
 cases h with
 |one h=>exact .inl h
 |step h k=>exact .inr ⟨_,h,k⟩
theorem clo_tc {B:Cd→Cd→Bool}:∀ {ks:List Cd} {x y:Cd},clo B ks x y=true→Tc B x y
 |[],x,y,h=> .one h
 |k::ks,x,y,h=>by
  have:=clo_tc (ks:=ks) h
  refine this.mono fun u v hu=>?_
  simp only [Bool.or_eq_true,Bool.and_eq_true] at hu
  rcases hu with h1|h1
  ·exact .one h1
  ·exact (Tc.one h1.1).step h1.2
theorem clo_mono {B:Cd→Cd→Bool}:∀ {ks:List Cd} {x y:Cd},B x y=true→clo B ks x y=true
 |[],_,_,h=>h
 |k::ks,x,y,h=>clo_mono (ks:=ks) (by simp [h])
theorem clo_trans {B:Cd→Cd→Bool} {k:Cd} (hk:∀ x y,B x k=true→B k y=true→B x y=true):∀ {ks:List Cd} {x y:Cd},clo B ks x k=true→clo B ks k y=true→clo B ks x y=true
 |[],x,y,h1,h2=>hk x y h1 h2
 |m::ks,x,y,h1,h2=>by
  refine clo_trans (ks:=ks) (k:=k) ?_ h1 h2
  intro u v hu hv
  simp only [Bool.or_eq_true,Bool.and_eq_true] at hu hv⊢
  rcases hu with hu|⟨hu1,hu2⟩<;>rcases hv with hv|⟨hv1,hv2⟩
  ·exact .inl (hk _ _ hu hv)
  ·exact .inr ⟨hk _ _ hu hv1,hv2⟩
  ·exact .inr ⟨hu1,hk _ _ hu2 hv⟩
  ·exact .inr ⟨hu1,hv2⟩
theorem clo_via {B:Cd→Cd→Bool}:∀ {ks:List Cd} {k:Cd},k∈ks→∀ {x y:Cd},clo B ks x k=true→clo B ks k y=true→clo B ks x y=true
 |[],_,h,_,_,_,_=>by cases h
 |m::ks,k,h,x,y,h1,h2=>by
  rcases List.mem_cons.1 h with rfl|h
  ·refine clo_trans (B:=fun i j=>B i j||(B i k&&B k j)) (ks:=ks) ?_ h1 h2
   intro u v hu hv
   simp only [Bool.or_eq_true,Bool.and_eq_true] at hu hv⊢
   rcases hu with hu|⟨hu1,_⟩<;>rcases hv with hv|⟨_,hv2⟩
   ·exact .inr ⟨hu,hv⟩
   ·exact .inr ⟨hu,hv2⟩
   ·exact .inr ⟨hu1,hv⟩
   ·exact .inr ⟨hu1,hv2⟩
  ·exact clo_via (ks:=ks) h h1 h2
theorem clo_iff {B:Cd→Cd→Bool} {g:List Cd} (hB:∀ x y,B x y=true→x∈g) {x y:Cd}:clo B g x y=true↔Tc B x y:=by
 refine ⟨clo_tc,fun h=>?_⟩
 induction h with
 |one h=>exact clo_mono h
 |step h k ih=>exact clo_via (hB _ _ k) ih (clo_mono k)
theorem pre_split {l p r:List Cd} {c:Cd} (h:l=p++c::r) (hc:c∉p):pre l c=p:=by
 subst h
 unfold pre
 rw [idx_at hc]; simp
theorem split_at {l:List Cd} {c:Cd} (hc:c∈l):∃ r,l=pre l c++c::r:=by
 have hlt:=List.idxOf_lt_length_iff.2 hc
 refine ⟨l.drop (l.idxOf c+1),?_⟩
 unfold pre
 conv=>lhs; rw [←List.take_append_drop (l.idxOf c) l,List.drop_eq_getElem_cons hlt,List.getElem_idxOf]
theorem mem_pre {l:List Cd} {c d:Cd} (hd:d∈l):d∈pre l c↔l.idxOf d<l.idxOf c:=by
 unfold pre
 constructor
 ·intro h
  obtain ⟨i,hi,he⟩:=List.mem_iff_getElem.1 h
  have hi':=hi
  rw [List.length_take] at hi
  rw [List.getElem_take] at he
  have:l.idxOf d≤i:=by
   refine Nat.le_of_not_lt fun hlt=>?_
   have:=List.not_of_lt_findIdx (p:=(· ==d)) (xs:=l) (i:=i) hlt
   rw [he] at this
   simp at this
  omega
 ·intro h
  have hlt:=List.idxOf_lt_length_iff.2 hd
  have e:(l.take (l.idxOf c))[l.idxOf d]'(by rw [List.length_take]; omega)=d:=by
   rw [List.getElem_take,List.getElem_idxOf]
  exact e▸List.getElem_mem _
def ltc (l:List Cd) (d c:Cd):Bool:=decide (c∈l)&&c.t.any fun x=>decide ((on x (pre l c)).getLast?=some d)
theorem ltc_iff {l:List Cd} {d c:Cd}:ltc l d c=true↔c∈l∧∃ x∈c.t,(on x (pre l c)).getLast?=some d:=by simp [ltc]
theorem pre_sub {l:List Cd} {c d:Cd} (h:d∈pre l c):d∈l:=List.mem_of_mem_take h
theorem ltc_ord {l:List Cd} {d c:Cd} (h:ltc l d c=true):ord l d c=true∧d∈l:=by
 obtain ⟨hc,x,hx,hl⟩:=ltc_iff.1 h
 have hd:=List.mem_of_getLast? hl
 have hdp:=x4o.1 hd
 have hdl:=pre_sub hdp.1
 exact ⟨x2v.2 ⟨w5a.2 ⟨x,hdp.2,hx⟩,(mem_pre hdl).1 hdp.1⟩,hdl⟩
theorem ord_ltc {l:List Cd} (hn:l.Nodup) {d c:Cd} (hd:d∈l) (hc:c∈l) (h:ord l d c=true):ltc l d c=true∨∃ z∈l,ord l d z=true∧ltc l z c=true:=by
 obtain ⟨ht,hlt⟩:=x2v.1 h
 obtain ⟨x,hxd,hxc⟩:=w5a.1 ht
 have hdo:d∈on x (pre l c):=x4o.2 ⟨(mem_pre hd).2 hlt,hxd⟩
 cases hl:(on x (pre l c)).getLast? with
 |none=>rw [List.getLast?_eq_none_iff] at hl; rw [hl] at hdo; cases hdo
 |some z=>
  have hz:=List.mem_of_getLast? hl
  have hzl:=pre_sub (x4o.1 hz).1
  have hlz:ltc l z c=true:=ltc_iff.2 ⟨hc,x,hxc,hl⟩
  by_cases e:d=z
  ·subst e; exact .inl hlz
  ·right
   refine ⟨z,hzl,x2v.2 ⟨w5a.2 ⟨x,hxd,(x4o.1 hz).2⟩,?_⟩,hlz⟩
   have hpw:(on x (pre l c)).Pairwise fun u v=>l.idxOf u<l.idxOf v:=((w4i hn).sublist (List.take_sublist _ _)).filter _
   obtain ⟨q,hq⟩:∃ q,on x (pre l c)=q++[z]:=⟨_,List.getLast?_eq_some_iff.1 hl|>.choose_spec⟩
   rw [hq] at hpw hdo
   rcases List.mem_append.1 hdo with h1|h1
   ·exact (List.pairwise_append.1 hpw).2.2 d h1 z List.mem_cons_self
   ·exact absurd (List.mem_singleton.1 h1) e
theorem ord_tcl {l:List Cd} (hn:l.Nodup):∀ (n:Nat) (x y:Cd),x∈l→y∈l→l.idxOf y - l.idxOf x≤n→ord l x y=true→Tc (ltc l) x y:=by
 intro n
 induction n with
 |zero=>intro x y _ _ hle h; have:=(x2v.1 h).2; omega
 |succ n ih=>
  intro x y hx hy hle h
  rcases ord_ltc hn hx hy h with h1|⟨z,hz,h1,h2⟩
  ·exact .one h1
  ·have a:=(x2v.1 (ltc_ord h2).1).2
   have b:=(x2v.1 h1).2
   exact (ih x z hx hz (by omega) h1).step h2
instance (a b:List Cd):Decidable (unkn a b):=inferInstanceAs (Decidable (∃ x,x∈w7d a b∧∃ y,y∈w7d a b∧x≠y∧tch x y=true∧kn a b x y=false∧kn a b y x=false))
instance (a b:List Cd):Decidable (circ a b):=inferInstanceAs (Decidable (∃ x,x∈w7d a b∧kn a b x x=true))
end Go.Am.D12
end
noncomputable section
namespace Go.Am
def ctr43:Ctr:=
 ⟨43,[.list 4, .int .i64],[],[(.ret,⟨[(0, .int .i64)],[],1⟩)]⟩
def la43:List LA:=
 [⟨43,[false,true,false,true],0,⟨⟨[(0, .list 4),(1, .int .i64),(5, .int .i64)],[],20⟩,[(AX.ret,⟨[(4, .int .i64)],[],20⟩),((AX.exit 0),⟨[],[],20⟩)]⟩⟩]
def ja43:List JA:=
 []
def gam43:List CF:=
 []
def an43:y5o:=
 ⟨gam43,ja43,[]⟩
def b43_1 (p:z0n):(LD×(Int×(Int×Unit)))→Option ((LD×(Int×(Int×Unit)))⊕((Int×Unit)⊕Unit)):=
 fun a=>opt.run _ (
 opt.ask _ (p.cmp .lss a.2.2.1 (p.ofNat (p.len a.1))) (
 opt.need _ (p.rowOk a.1 (p.nat a.2.2.1) [ci,ci,(CK.list 1),ci])<|
 opt.need _ (p.cmp .geq a.2.2.1 (0:Int))<|
 opt.ask _ (p.cmp .eql (p.rdI a.1 (p.nat a.2.2.1) 0) a.2.1) (
 opt.ret _ (Sum.inr (Sum.inl (a.2.2.1,())))) (
 opt.ret _ (Sum.inl (a.1,(a.2.1,((p.ar .add .i64 a.2.2.1 (1:Int)),())))))) (
 opt.ret _ (Sum.inr (Sum.inr ()))))
def G43:(p:z0n)→(LD×(Int×Unit))→Option ((Int×Unit)):=
 fun p x=>
 opt.alt ((Int×Unit)) (Unit) _ (
 z6j (b43_1 p) (x.1,(x.2.1,((0:Int),())))) (fun a=>
 opt.ret _ (a.1,())) (fun b=>
 opt.bnd (Unit) _ (some b) fun c=>
 opt.ret _ ((-1:Int),()))
def F43:z0n→Tup (ctr43).scs→Option (z6k (z6i (ctr43).outs)):=
 fun p x=>G43 p x
theorem eq43 (p:z0n) (x:Tup (ctr43).scs):z2r opt p (z0r [] Go.Proofs.Tryz.prog) (z6d opt p (z0r [] Go.Proofs.Tryz.prog) 400 (an43) la43) 400 ctr43 x=G43 p x:=by kernel_rfl
theorem gok43:z5q Go.Proofs.Tryz.prog gam43:=fun cf h=>by cases h
theorem enters43:z1m Go.Proofs.Tryz.prog 43:=z0v (b:=_) rfl (by kernel_rfl)
theorem ok43:z27 Go.Proofs.Tryz.prog ctr43 (F43 std):=z0w (z0h z0c) (z1v (z0h z0c) gok43 _) enters43 (fun x=>eq43 std x)
def ctr44:Ctr:=
 ⟨44,[.agg [.int .i64, .int .i64, .list 1, .int .i64], .agg [.int .i64, .int .i64, .list 1, .int .i64]],[],[(.ret,⟨[(0, .bool)],[],1⟩)]⟩
def la44:List LA:=
 [⟨44,[false,true,false,true],0,⟨⟨[(2, .bptr 0 0),(3, .bptr 1 0),(5, .int .i64)],[.box [.int .i64, .int .i64, .list 1, .int .i64], .box [.int .i64, .int .i64, .list 1, .int .i64]],32⟩,[(AX.ret,⟨[(4, .bool)],[],32⟩),((AX.exit 0),⟨[],[],32⟩)]⟩⟩,
 ⟨44,[false,true,false,false,true,false,false,true,false,true],0,⟨⟨[(2, .bptr 0 0),(3, .bptr 1 0),(5, .int .i64),(6, .int .i64)],[.box [.int .i64, .int .i64, .list 1, .int .i64], .box [.int .i64, .int .i64, .list 1, .int .i64]],32⟩,[(AX.ret,⟨[(4, .bool)],[],32⟩),((AX.exit 2),⟨[(2, .bptr 0 0),(3, .bptr 1 0),(5, .int .i64)],[.box [.int .i64, .int .i64, .list 1, .int .i64], .box [.int .i64, .int .i64, .list 1, .int .i64]],32⟩)]⟩⟩]
def ja44:List JA:=
 []
def gam44:List CF:=
 []
def an44:y5o:=
 ⟨gam44,ja44,[]⟩
def b44_2 (p:z0n):(Int×(Int×(LD×(Int×(Int×(Int×(LD×(Int×(Int×(Int×Unit))))))))))→Option ((Int×(Int×(LD×(Int×(Int×(Int×(LD×(Int×(Int×(Int×Unit))))))))))⊕((Bool×Unit)⊕(Int×(Int×(LD×(Int×(Int×(Int×(LD×(Int×(Int×Unit))))))))))):=
 fun a=>opt.run _ (
 opt.ask _ (p.cmp .lss a.2.2.2.2.2.2.2.2.2.1 (p.ofNat (p.len a.2.2.2.2.2.2.1))) (
 opt.need _ (p.rowOk a.2.2.1 (p.nat a.2.2.2.2.2.2.2.2.1) [ci])<|
 opt.need _ (p.cmp .geq a.2.2.2.2.2.2.2.2.1 (0:Int))<|
 opt.need _ (p.rowOk a.2.2.2.2.2.2.1 (p.nat a.2.2.2.2.2.2.2.2.2.1) [ci])<|
 opt.need _ (p.cmp .geq a.2.2.2.2.2.2.2.2.2.1 (0:Int))<|
 opt.ask _ (p.cmp .eql (p.rdI a.2.2.1 (p.nat a.2.2.2.2.2.2.2.2.1) 0) (p.rdI a.2.2.2.2.2.2.1 (p.nat a.2.2.2.2.2.2.2.2.2.1) 0)) (
 opt.ret _ (Sum.inr (Sum.inl (Bool.true,())))) (
 opt.ret _ (Sum.inl (a.1,(a.2.1,(a.2.2.1,(a.2.2.2.1,(a.2.2.2.2.1,(a.2.2.2.2.2.1,(a.2.2.2.2.2.2.1,(a.2.2.2.2.2.2.2.1,(a.2.2.2.2.2.2.2.2.1,((p.ar .add .i64 a.2.2.2.2.2.2.2.2.2.1 (1:Int)),()))))))))))))) (
 opt.ret _ (Sum.inr (Sum.inr (a.1,(a.2.1,(a.2.2.1,(a.2.2.2.1,(a.2.2.2.2.1,(a.2.2.2.2.2.1,(a.2.2.2.2.2.2.1,(a.2.2.2.2.2.2.2.1,(a.2.2.2.2.2.2.2.2.1,())))))))))))))
def b44_1 (p:z0n):(Int×(Int×(LD×(Int×(Int×(Int×(LD×(Int×(Int×Unit)))))))))→Option ((Int×(Int×(LD×(Int×(Int×(Int×(LD×(Int×(Int×Unit)))))))))⊕((Bool×Unit)⊕Unit)):=
 fun a=>opt.run _ (
 opt.ask _ (p.cmp .lss a.2.2.2.2.2.2.2.2.1 (p.ofNat (p.len a.2.2.1))) (
 opt.alt ((Bool×Unit)) ((Int×(Int×(LD×(Int×(Int×(Int×(LD×(Int×(Int×Unit)))))))))) _ (
 z6j (b44_2 p) (a.1,(a.2.1,(a.2.2.1,(a.2.2.2.1,(a.2.2.2.2.1,(a.2.2.2.2.2.1,(a.2.2.2.2.2.2.1,(a.2.2.2.2.2.2.2.1,(a.2.2.2.2.2.2.2.2.1,((0:Int),()))))))))))) (fun b=>
 opt.ret _ (Sum.inr (Sum.inl (b.1,())))) (fun c=>
 opt.bnd ((Int×(Int×(LD×(Int×(Int×(Int×(LD×(Int×(Int×Unit)))))))))) _ (some c) fun d=>
 opt.ret _ (Sum.inl (d.1,(d.2.1,(d.2.2.1,(d.2.2.2.1,(d.2.2.2.2.1,(d.2.2.2.2.2.1,(d.2.2.2.2.2.2.1,(d.2.2.2.2.2.2.2.1,((p.ar .add .i64 d.2.2.2.2.2.2.2.2.1 (1:Int)),())))))))))))) (
 opt.ret _ (Sum.inr (Sum.inr ()))))
def G44:(p:z0n)→(Int×(Int×(LD×(Int×(Int×(Int×(LD×(Int×Unit))))))))→Option ((Bool×Unit)):=
 fun p x=>
 opt.alt ((Bool×Unit)) (Unit) _ (
 z6j (b44_1 p) (x.1,(x.2.1,(x.2.2.1,(x.2.2.2.1,(x.2.2.2.2.1,(x.2.2.2.2.2.1,(x.2.2.2.2.2.2.1,(x.2.2.2.2.2.2.2.1,((0:Int),())))))))))) (fun a=>
 opt.ret _ (a.1,())) (fun b=>
 opt.bnd (Unit) _ (some b) fun c=>
 opt.ret _ (Bool.false,()))
def F44:z0n→Tup (ctr44).scs→Option (z6k (z6i (ctr44).outs)):=
 fun p x=>G44 p x
theorem eq44 (p:z0n) (x:Tup (ctr44).scs):z2r opt p (z0r [] Go.Proofs.Tryz.prog) (z6d opt p (z0r [] Go.Proofs.Tryz.prog) 400 (an44) la44) 400 ctr44 x=G44 p x:=by kernel_rfl
theorem gok44:z5q Go.Proofs.Tryz.prog gam44:=fun cf h=>by cases h
theorem enters44:z1m Go.Proofs.Tryz.prog 44:=z0v (b:=_) rfl (by kernel_rfl)
theorem ok44:z27 Go.Proofs.Tryz.prog ctr44 (F44 std):=z0w (z0h z0c) (z1v (z0h z0c) gok44 _) enters44 (fun x=>eq44 std x)
def ctr77:Ctr:=
 ⟨77,[.agg [.int .i64, .int .i64, .list 1, .int .i64], .agg [.int .i64, .int .i64, .list 1, .int .i64]],[],[(.ret,⟨[(0, .bool)],[],1⟩)]⟩
def la77:List LA:=
 [⟨77,[false,true,false,true,true],0,⟨⟨[(2, .bptr 0 0),(3, .bptr 1 0),(5, .int .i64)],[.box [.int .i64, .int .i64, .list 1, .int .i64], .box [.int .i64, .int .i64, .list 1, .int .i64]],52⟩,[(AX.ret,⟨[(4, .bool)],[],52⟩),((AX.exit 0),⟨[],[],52⟩)]⟩⟩]
def ja77:List JA:=
 [⟨77,[false,false,true],0,[(AX.normal,⟨[(2, .bptr 0 0),(3, .bptr 1 0),(33, .bool)],[.box [.int .i64, .int .i64, .list 1, .int .i64], .box [.int .i64, .int .i64, .list 1, .int .i64]],52⟩)]⟩]
def gam77:List CF:=
 []
def an77:y5o:=
 ⟨gam77,ja77,[]⟩
def b77_1 (p:z0n):(Int×(Int×(LD×(Int×(Int×(Int×(LD×(Int×(Int×Unit)))))))))→Option ((Int×(Int×(LD×(Int×(Int×(Int×(LD×(Int×(Int×Unit)))))))))⊕((Bool×Unit)⊕Unit)):=
 fun a=>opt.run _ (
 opt.ask _ (p.cmp .lss a.2.2.2.2.2.2.2.2.1 (p.ofNat (p.len a.2.2.1))) (
 opt.need _ (p.rowOk a.2.2.1 (p.nat a.2.2.2.2.2.2.2.2.1) [ci])<|
 opt.need _ (p.cmp .geq a.2.2.2.2.2.2.2.2.1 (0:Int))<|
 opt.need _ (p.rowOk a.2.2.2.2.2.2.1 (p.nat a.2.2.2.2.2.2.2.2.1) [ci])<|
 opt.need _ (p.cmp .geq a.2.2.2.2.2.2.2.2.1 (0:Int))<|
 opt.ask _ (p.cmp .neq (p.rdI a.2.2.1 (p.nat a.2.2.2.2.2.2.2.2.1) 0) (p.rdI a.2.2.2.2.2.2.1 (p.nat a.2.2.2.2.2.2.2.2.1) 0)) (
 opt.ret _ (Sum.inr (Sum.inl (Bool.false,())))) (
 opt.ret _ (Sum.inl (a.1,(a.2.1,(a.2.2.1,(a.2.2.2.1,(a.2.2.2.2.1,(a.2.2.2.2.2.1,(a.2.2.2.2.2.2.1,(a.2.2.2.2.2.2.2.1,((p.ar .add .i64 a.2.2.2.2.2.2.2.2.1 (1:Int)),())))))))))))) (
 opt.ret _ (Sum.inr (Sum.inr ()))))
def G77:(p:z0n)→(Int×(Int×(LD×(Int×(Int×(Int×(LD×(Int×Unit))))))))→Option ((Bool×Unit)):=
 fun p x=>
 opt.bnd ((Int×(Int×(LD×(Int×(Int×(Int×(LD×(Int×(Bool×Unit)))))))))) _ (
 opt.run ((Int×(Int×(LD×(Int×(Int×(Int×(LD×(Int×(Bool×Unit)))))))))) (
 opt.ask _ (p.cmp .neq x.1 x.2.2.2.2.1) (
 opt.ret _ (x.1,(x.2.1,(x.2.2.1,(x.2.2.2.1,(x.2.2.2.2.1,(x.2.2.2.2.2.1,(x.2.2.2.2.2.2.1,(x.2.2.2.2.2.2.2.1,(Bool.true,())))))))))) (
 opt.ask _ (p.cmp .neq x.2.1 x.2.2.2.2.2.1) (
 opt.ret _ (x.1,(x.2.1,(x.2.2.1,(x.2.2.2.1,(x.2.2.2.2.1,(x.2.2.2.2.2.1,(x.2.2.2.2.2.2.1,(x.2.2.2.2.2.2.2.1,(Bool.true,())))))))))) (
 opt.ask _ (p.cmp .neq x.2.2.2.1 x.2.2.2.2.2.2.2.1) (
 opt.ret _ (x.1,(x.2.1,(x.2.2.1,(x.2.2.2.1,(x.2.2.2.2.1,(x.2.2.2.2.2.1,(x.2.2.2.2.2.2.1,(x.2.2.2.2.2.2.2.1,(Bool.true,())))))))))) (
 opt.ret _ (x.1,(x.2.1,(x.2.2.1,(x.2.2.2.1,(x.2.2.2.2.1,(x.2.2.2.2.2.1,(x.2.2.2.2.2.2.1,(x.2.2.2.2.2.2.2.1,((p.cmp .neq (p.ofNat (p.len x.2.2.1)) (p.ofNat (p.len x.2.2.2.2.2.2.1))),())))))))))))))) fun a=>
 opt.ask _ a.2.2.2.2.2.2.2.2.1 (
 opt.ret _ (Bool.false,())) (
 opt.alt ((Bool×Unit)) (Unit) _ (
 z6j (b77_1 p) (a.1,(a.2.1,(a.2.2.1,(a.2.2.2.1,(a.2.2.2.2.1,(a.2.2.2.2.2.1,(a.2.2.2.2.2.2.1,(a.2.2.2.2.2.2.2.1,((0:Int),())))))))))) (fun b=>
 opt.ret _ (b.1,())) (fun c=>
 opt.bnd (Unit) _ (some c) fun d=>
 opt.ret _ (Bool.true,())))
def F77:z0n→Tup (ctr77).scs→Option (z6k (z6i (ctr77).outs)):=
 fun p x=>G77 p x
theorem eq77 (p:z0n) (x:Tup (ctr77).scs):z2r opt p (z0r [] Go.Proofs.Tryz.prog) (z6d opt p (z0r [] Go.Proofs.Tryz.prog) 400 (an77) la77) 400 ctr77 x=G77 p x:=by kernel_rfl
theorem gok77:z5q Go.Proofs.Tryz.prog gam77:=fun cf h=>by cases h
theorem enters77:z1m Go.Proofs.Tryz.prog 77:=z0v (b:=_) rfl (by kernel_rfl)
theorem ok77:z27 Go.Proofs.Tryz.prog ctr77 (F77 std):=z0w (z0h z0c) (z1v (z0h z0c) gok77 _) enters77 (fun x=>eq77 std x)
def ctr34:Ctr:=
 ⟨34,[.list 4, .list 4],[],[(.ret,⟨[(0, .bool)],[],1⟩)]⟩
def la34:List LA:=
 [⟨34,[false,true,false,true,true],0,⟨⟨[(0, .list 4),(1, .list 4),(5, .int .i64)],[],27⟩,[(AX.ret,⟨[(4, .bool)],[],27⟩),((AX.exit 0),⟨[],[],27⟩)]⟩⟩]
def ja34:List JA:=
 []
def gam34:List CF:=
 [⟨ctr77,F77⟩]
def an34:y5o:=
 ⟨gam34,ja34,[]⟩
def b34_1 (p:z0n):(LD×(LD×(Int×Unit)))→Option ((LD×(LD×(Int×Unit)))⊕((Bool×Unit)⊕Unit)):=
 fun a=>opt.run _ (
 opt.ask _ (p.cmp .lss a.2.2.1 (p.ofNat (p.len a.1))) (
 opt.need _ (p.rowOk a.1 (p.nat a.2.2.1) [ci,ci,(CK.list 1),ci])<|
 opt.need _ (p.cmp .geq a.2.2.1 (0:Int))<|
 opt.need _ (p.rowOk a.2.1 (p.nat a.2.2.1) [ci,ci,(CK.list 1),ci])<|
 opt.need _ (p.cmp .geq a.2.2.1 (0:Int))<|
 opt.bnd ((Bool×Unit)) _ (G77 p ((p.rdI a.1 (p.nat a.2.2.1) 0),((p.rdI a.1 (p.nat a.2.2.1) 1),((p.rdL a.1 (p.nat a.2.2.1) 2),((p.rdI a.1 (p.nat a.2.2.1) 3),((p.rdI a.2.1 (p.nat a.2.2.1) 0),((p.rdI a.2.1 (p.nat a.2.2.1) 1),((p.rdL a.2.1 (p.nat a.2.2.1) 2),((p.rdI a.2.1 (p.nat a.2.2.1) 3),()))))))))) fun b=>
 opt.ask _ (bif b.1 then Bool.false else Bool.true) (
 opt.ret _ (Sum.inr (Sum.inl (Bool.false,())))) (
 opt.ret _ (Sum.inl (a.1,(a.2.1,((p.ar .add .i64 a.2.2.1 (1:Int)),())))))) (
 opt.ret _ (Sum.inr (Sum.inr ()))))
def G34:(p:z0n)→(LD×(LD×Unit))→Option ((Bool×Unit)):=
 fun p x=>
 opt.ask _ (p.cmp .neq (p.ofNat (p.len x.1)) (p.ofNat (p.len x.2.1))) (
 opt.ret _ (Bool.false,())) (
 opt.alt ((Bool×Unit)) (Unit) _ (
 z6j (b34_1 p) (x.1,(x.2.1,((0:Int),())))) (fun a=>
 opt.ret _ (a.1,())) (fun b=>
 opt.bnd (Unit) _ (some b) fun c=>
 opt.ret _ (Bool.true,())))
def F34:z0n→Tup (ctr34).scs→Option (z6k (z6i (ctr34).outs)):=
 fun p x=>G34 p x
theorem eq34 (p:z0n) (x:Tup (ctr34).scs):z2r opt p (z0r [] Go.Proofs.Tryz.prog) (z6d opt p (z0r [] Go.Proofs.Tryz.prog) 400 (an34) la34) 400 ctr34 x=G34 p x:=by kernel_rfl
theorem gok34:z5q Go.Proofs.Tryz.prog (gam34):=by
 intro cf h
 simp only [gam34,List.mem_cons,List.not_mem_nil,or_false] at h
 rcases h with rfl
 ·exact ok77
theorem enters34:z1m Go.Proofs.Tryz.prog 34:=z0v (b:=_) rfl (by kernel_rfl)
theorem ok34:z27 Go.Proofs.Tryz.prog ctr34 (F34 std):=z0w (z0h z0c) (z1v (z0h z0c) gok34 _) enters34 (fun x=>eq34 std x)
def ctr41:Ctr:=
 ⟨41,[.list 4],[],[(.ret,⟨[(0, .bool)],[],1⟩)]⟩
def la41:List LA:=
 []
def ja41:List JA:=
 [⟨41,[false,true],0,[(AX.normal,⟨[(2, .bool)],[],11⟩)]⟩]
def gam41:List CF:=
 [⟨x7c,F20⟩,⟨x7e,F15⟩]
def an41:y5o:=
 ⟨gam41,ja41,[]⟩
def G41:(p:z0n)→(LD×Unit)→Option ((Bool×Unit)):=
 fun p x=>
 opt.bnd ((Bool×Unit)) _ (
 opt.run ((Bool×Unit)) (
 opt.bnd ((Bool×Unit)) _ (G15 p (x.1,())) fun a=>
 opt.ask _ (bif a.1 then Bool.false else Bool.true) (
 opt.bnd ((Int×Unit)) _ (G20 p (x.1,())) fun b=>
 opt.ret _ ((p.cmp .eql b.1 (0:Int)),())) (
 opt.ret _ (Bool.false,())))) fun c=>
 opt.ret _ (c.1,())
def F41:z0n→Tup (ctr41).scs→Option (z6k (z6i (ctr41).outs)):=
 fun p x=>G41 p x
theorem eq41 (p:z0n) (x:Tup (ctr41).scs):z2r opt p (z0r [] Go.Proofs.Tryz.prog) (z6d opt p (z0r [] Go.Proofs.Tryz.prog) 400 (an41) la41) 400 ctr41 x=G41 p x:=by kernel_rfl
theorem gok41:z5q Go.Proofs.Tryz.prog (gam41):=by
 intro cf h
 simp only [gam41,List.mem_cons,List.not_mem_nil,or_false] at h
 rcases h with rfl|rfl
 ·exact ok20
 ·exact ok15
theorem enters41:z1m Go.Proofs.Tryz.prog 41:=z0v (b:=_) rfl (by kernel_rfl)
theorem ok41:z27 Go.Proofs.Tryz.prog ctr41 (F41 std):=z0w (z0h z0c) (z1v (z0h z0c) gok41 _) enters41 (fun x=>eq41 std x)
end Go.Am
end
section
namespace Go.Am
open D12
variable {fl fl':List Int→Bool}
theorem ne_get {α:Type} [DecidableEq α] {a b:List α} (d:α) (h:a.length=b.length):((List.range a.length).any fun i=>!decide (a.getD i d=b.getD i d))=!decide (a=b):=by
 rw [Bool.eq_iff_iff,List.any_eq_true]
 simp only [Bool.not_eq_true',decide_eq_false_iff_not,List.mem_range]
 constructor
 ·rintro ⟨i,hi,hne⟩ rfl; exact hne rfl
 ·intro hne
  refine Decidable.byContradiction fun hno=>hne (List.ext_getElem h fun i h1 h2=>?_)
  have:=Decidable.byContradiction fun hh=>hno ⟨i,h1,hh⟩
  simpa [List.getD_eq_getElem?_getD,h1,h2] using this
theorem eqL {α:Type} [DecidableEq α] (ea eb:List α→List (List D)) (he:∀ l,(ea l).length=l.length) (hf:∀ l,(eb l).length=l.length)
  {b:(List (List D)×(List (List D)×(Int×Unit)))→Option ((List (List D)×(List (List D)×(Int×Unit)))⊕((Bool×Unit)⊕Unit))} (a c:List α) (d:α)
  (step:∀ (i:Nat) m m',a[i]?=some m→c[i]?=some m'→(i:Int)<a.length→(i:Int)<c.length→b (ea a,(eb c,((i:Int),())))=if (!decide (m=m'))=true then some (.inr (.inl (false,()))) else some (.inl (ea a,(eb c,(((i+1:Nat):Int),())))))
  (stop:¬ (a.length:Int)<a.length→b (ea a,(eb c,((a.length:Int),())))=some (.inr (.inr ()))):
  opt.ask _ (std.cmp .neq (std.ofNat (std.len (ea a))) (std.ofNat (std.len (eb c)))) (opt.ret _ (false,())) (opt.alt (Bool×Unit) Unit _ (z6j b (ea a,(eb c,((0:Int),())))) (fun y=>opt.ret _ (y.1,())) (fun y=>opt.bnd Unit _ (some y) fun _=>opt.ret _ (true,())))=some (decide (a=c),()):=by
 by_cases hl:a.length=c.length
 ·have key:=z9w (b:=b) a.length (fun i=>(ea a,(eb c,((i:Int),())))) (fun i=>!decide (a.getD i d=c.getD i d)) (.inl (false,())) (.inr ()) (fun i hi=>by
   obtain ⟨m,hm⟩:=z2b hi
   obtain ⟨m',hm'⟩:=z2b (l:=c) (i:=i) (by omega)
   rw [z2x hm,z2x hm']
   exact step i m m' hm hm' (by omega) (by omega)) (stop (by omega))
  have key:z6j b (ea a,(eb c,((0:Int),())))=_:=key
  rw [ne_get d hl] at key
  have hc:std.cmp .neq (std.ofNat (std.len (ea a))) (std.ofNat (std.len (eb c)))=false:=by simp [std,z4d,he,hf,hl]
  rw [hc,key]
  by_cases e:a=c
  ·simp [e,opt]
  ·simp [e,opt]
 ·have hne:a≠c:=fun h=>hl (by rw [h])
  have hc:std.cmp .neq (std.ofNat (std.len (ea a))) (std.ofNat (std.len (eb c)))=true:=by simp [std,z4d,he,hf]; omega
  rw [hc]
  simp [hne,opt]
theorem encTh_len (l:List Th):(z6l l).length=l.length:=by simp [z6l]
theorem G77_ok (c d:Cd) (hc:c.t.length≤1000000):G77 std (c.n,(c.k,(z1j c.t,(c.a,(d.n,(d.k,(z1j d.t,(d.a,()))))))))=some (decide (c=d),()):=by
 obtain ⟨n1,k1,t1,a1⟩:=c
 obtain ⟨n2,k2,t2,a2⟩:=d
 simp only at hc⊢
 unfold G77
 by_cases e1:n1=n2
 ·by_cases e2:k1=k2
  ·by_cases e3:a1=a2
   ·subst e1 e2 e3
    by_cases hl:t1.length=t2.length
    ·have key:=z9w (b:=b77_1 std) t1.length (fun i=>(n1,(k1,(z1j t1,(a1,(n1,(k1,(z1j t2,(a1,((i:Int),())))))))))) (fun i=>!decide (t1.getD i 0=t2.getD i 0)) (.inl (false,())) (.inr ()) (fun i hi=>by
      obtain ⟨m,hm⟩:=z2b hi
      obtain ⟨m',hm'⟩:=z2b (l:=t2) (i:=i) (by omega)
      obtain ⟨hw,h0⟩:=stp i (by omega)
      have hlt:(i:Int)<t1.length:=by omega
      have hlb:(i:Int)<t2.length:=by omega
      simp only [z2x hm,z2x hm',b77_1,z2t,z2u,z0u,z1j,z6l,z1k,z3o,z3n,z3l,z3m,z3p,z09,z5x,z00,z17,z16,z15,z18,eq_self,not_true,not_false_eq_true,decide_true,decide_false,Bool.not_true,Bool.not_false,Int.reduceLT,Int.reduceNeg,Int.reduceGT,Int.reduceEq,Int.reduceLE,cond_true,cond_false,ge_iff_le,gt_iff_lt,z0b,hm,hm',hlt,hlb,h0,hw]) (by
      have hn:¬ (t1.length:Int)<t1.length:=by omega
      simp only [b77_1,z2t,z2u,z0u,z1j,z6l,z1k,z3o,z3n,z3l,z3m,z3p,z09,z5x,z00,z17,z16,z15,z18,hn])
     have key:z6j (b77_1 std) (n1,(k1,(z1j t1,(a1,(n1,(k1,(z1j t2,(a1,((0:Int),())))))))))=_:=key
     rw [ne_get 0 hl] at key
     have hll:((t1.length:Nat):Int)=(t2.length:Nat):=by omega
     simp only [z2t,z2u,z08,eq_self,not_true,not_false_eq_true,decide_true,decide_false,Bool.not_true,Bool.not_false,Int.reduceLT,Int.reduceNeg,Int.reduceGT,Int.reduceEq,Int.reduceLE,cond_true,cond_false,ge_iff_le,gt_iff_lt,z0b,hll,key]
     by_cases e:t1=t2<;>simp [e]
    ·have hne:t1≠t2:=fun h=>hl (by rw [h])
     have hll:¬ ((t1.length:Nat):Int)=(t2.length:Nat):=by omega
     simp only [z2t,z2u,z08,eq_self,not_true,not_false_eq_true,decide_true,decide_false,Bool.not_true,Bool.not_false,Int.reduceLT,Int.reduceNeg,Int.reduceGT,Int.reduceEq,Int.reduceLE,cond_true,cond_false,ge_iff_le,gt_iff_lt,z0b,hll,Cd.mk.injEq,hne]
     simp
   ·simp only [z2t,z2u,eq_self,not_true,not_false_eq_true,decide_true,decide_false,Bool.not_true,Bool.not_false,Int.reduceLT,Int.reduceNeg,Int.reduceGT,Int.reduceEq,Int.reduceLE,cond_true,cond_false,ge_iff_le,gt_iff_lt,z0b,e1,e2,e3,Cd.mk.injEq]
    simp
  ·simp only [z2t,z2u,eq_self,not_true,not_false_eq_true,decide_true,decide_false,Bool.not_true,Bool.not_false,Int.reduceLT,Int.reduceNeg,Int.reduceGT,Int.reduceEq,Int.reduceLE,cond_true,cond_false,ge_iff_le,gt_iff_lt,z0b,e1,e2,Cd.mk.injEq]
   simp
 ·simp only [z2t,z2u,eq_self,not_true,not_false_eq_true,decide_true,decide_false,Bool.not_true,Bool.not_false,Int.reduceLT,Int.reduceNeg,Int.reduceGT,Int.reduceEq,Int.reduceLE,cond_true,cond_false,ge_iff_le,gt_iff_lt,z0b,e1,Cd.mk.injEq]
  simp
theorem G34_ok (a b:List Cd) (ha:a.length≤1000000) (hr:∀ c∈a,c.t.length≤1000000):G34 std (z0u fl a,(z0u fl' b,()))=some (decide (a=b),()):=by
 unfold G34
 refine eqL (z0u fl) (z0u fl') z2y z2y a b default (fun i m m' hm hm' hlt hlb=>?_) (fun hn=>?_)
 ·obtain ⟨hw,h0⟩:=stp i (by omega)
  have h77:=G77_ok m m' (hr m (List.mem_of_getElem? hm))
  simp only [b34_1,z2t,z2u,z0u,z1j,z6l,z1k,z3o,z3n,z3l,z3m,z3p,z09,z5x,z00,z17,z16,z15,z18,eq_self,not_true,not_false_eq_true,decide_true,decide_false,Bool.not_true,Bool.not_false,Int.reduceLT,Int.reduceNeg,Int.reduceGT,Int.reduceEq,Int.reduceLE,cond_true,cond_false,ge_iff_le,gt_iff_lt,z0b,hm,hm',hlt,hlb,h0,hw]
  simp only [z1j] at h77
  simp only [h77,z2t,z2u]
  by_cases e:m=m'<;>simp [e]
 ·simp only [b34_1,z2t,z2u,z0u,z1j,z6l,z1k,z3o,z3n,z3l,z3m,z3p,z09,z5x,z00,z17,z16,z15,z18,hn]
def atO (l:List Cd) (x:Int):Option Nat:=(List.range l.length).find? fun i=>decide ((l.getD i default).n=x)
def atI (l:List Cd) (x:Int):Int:=match atO l x with|some i=>(i:Int)|none=> -1
theorem G43_ok (l:List Cd) (x:Int) (hl:l.length≤1000000):G43 std (z0u fl l,(x,()))=some (atI l x,()):=by
 unfold G43 atI atO
 have key:=z7r (b:=b43_1 std) l.length (fun i=>(z0u fl l,(x,((i:Int),())))) (fun i=>decide ((l.getD i default).n=x)) (fun i=> .inl ((i:Int),())) (.inr ()) (fun i hi=>by
  obtain ⟨m,hm⟩:=z2b hi
  obtain ⟨hw,h0⟩:=stp i (by omega)
  have hlt:(i:Int)<l.length:=by omega
  simp only [z2x hm,b43_1,z2t,z2u,z0u,z1j,z6l,z1k,z3o,z3n,z3l,z3m,z3p,z09,z5x,z00,z17,z16,z15,z18,eq_self,not_true,not_false_eq_true,decide_true,decide_false,Bool.not_true,Bool.not_false,Int.reduceLT,Int.reduceNeg,Int.reduceGT,Int.reduceEq,Int.reduceLE,cond_true,cond_false,ge_iff_le,gt_iff_lt,z0b,hm,hlt,h0,hw]) (by
  have hn:¬ (l.length:Int)<l.length:=by omega
  simp only [b43_1,z2t,z2u,z0u,z1j,z6l,z1k,z3o,z3n,z3l,z3m,z3p,z09,z5x,z00,z17,z16,z15,z18,hn])
 have key:z6j (b43_1 std) (z0u fl l,(x,((0:Int),())))=_:=key
 simp only [z2t,z2u,key]
 cases (List.range l.length).find? fun i=>decide ((l.getD i default).n=x)<;>rfl
theorem b44_2_ok (c d:Cd) (i:Nat) (m:Int) (hm:c.t[i]?=some m) (hd:d.t.length≤1000000):
  z6j (b44_2 std) (c.n,(c.k,(z1j c.t,(c.a,(d.n,(d.k,(z1j d.t,(d.a,((i:Int),((0:Int),()))))))))))=some (if d.t.contains m=true then .inl (true,()) else .inr (c.n,(c.k,(z1j c.t,(c.a,(d.n,(d.k,(z1j d.t,(d.a,((i:Int),())))))))))):=by
 have key:=z9w (b:=b44_2 std) d.t.length (fun j=>(c.n,(c.k,(z1j c.t,(c.a,(d.n,(d.k,(z1j d.t,(d.a,((i:Int),((j:Int),()))))))))))) (fun j=>decide (m=d.t.getD j 0)) (.inl (true,())) (.inr (c.n,(c.k,(z1j c.t,(c.a,(d.n,(d.k,(z1j d.t,(d.a,((i:Int),())))))))))) (fun j hj=>by
  obtain ⟨m',hm'⟩:=z2b hj
  have hw:=w1b (i:=j) (by omega)
  have h0:(0:Int)≤i:=by omega
  have h0':(0:Int)≤j:=by omega
  have hlt:(j:Int)<d.t.length:=by omega
  simp only [z2x hm',b44_2,z2t,z2u,z0u,z1j,z6l,z1k,z3o,z3n,z3l,z3m,z3p,z09,z5x,z00,z17,z16,z15,z18,eq_self,not_true,not_false_eq_true,decide_true,decide_false,Bool.not_true,Bool.not_false,Int.reduceLT,Int.reduceNeg,Int.reduceGT,Int.reduceEq,Int.reduceLE,cond_true,cond_false,ge_iff_le,gt_iff_lt,z0b,hm,hm',hlt,h0,h0',hw]) (by
  have hn:¬ (d.t.length:Int)<d.t.length:=by omega
  simp only [b44_2,z2t,z2u,z0u,z1j,z6l,z1k,z3o,z3n,z3l,z3m,z3p,z09,z5x,z00,z17,z16,z15,z18,hn])
 have e:((List.range d.t.length).any fun j=>decide (m=d.t.getD j 0))=d.t.contains m:=by
  rw [x3r d.t 0 fun x=>decide (m=x),List.contains_eq_any_beq]
  congr 1
 rw [e] at key
 exact key
theorem G44_ok (c d:Cd) (hc:c.t.length≤1000000) (hd:d.t.length≤1000000):G44 std (c.n,(c.k,(z1j c.t,(c.a,(d.n,(d.k,(z1j d.t,(d.a,()))))))))=some (tch c d,()):=by
 unfold G44
 have key:=z9w (b:=b44_1 std) c.t.length (fun i=>(c.n,(c.k,(z1j c.t,(c.a,(d.n,(d.k,(z1j d.t,(d.a,((i:Int),())))))))))) (fun i=>d.t.contains (c.t.getD i 0)) (.inl (true,())) (.inr ()) (fun i hi=>by
  obtain ⟨m,hm⟩:=z2b hi
  obtain ⟨hw,h0⟩:=stp i (by omega)
  have hlt:(i:Int)<c.t.length:=by omega
  have h2:=b44_2_ok c d i m hm hd
  simp only [z1j] at h2
  simp only [z2x hm,b44_1,z2t,z2u,z0u,z1j,z6l,z1k,z3o,z3n,z3l,z3m,z3p,z09,z5x,z00,z17,z16,z15,z18,eq_self,not_true,not_false_eq_true,decide_true,decide_false,Bool.not_true,Bool.not_false,Int.reduceLT,Int.reduceNeg,Int.reduceGT,Int.reduceEq,Int.reduceLE,cond_true,cond_false,ge_iff_le,gt_iff_lt,z0b,hm,hlt,h0,hw,h2]
  cases hq:d.t.contains m<;>simp [hw]) (by
  have hn:¬ (c.t.length:Int)<c.t.length:=by omega
  simp only [b44_1,z2t,z2u,z0u,z1j,z6l,z1k,z3o,z3n,z3l,z3m,z3p,z09,z5x,z00,z17,z16,z15,z18,hn])
 have key:z6j (b44_1 std) (c.n,(c.k,(z1j c.t,(c.a,(d.n,(d.k,(z1j d.t,(d.a,((0:Int),())))))))))=_:=key
 rw [x3r c.t 0 fun x=>d.t.contains x] at key
 have e:(c.t.any fun x=>d.t.contains x)=tch c d:=rfl
 rw [e] at key
 simp only [z2t,z2u,key]
 cases tch c d<;>rfl
end Go.Am
end
