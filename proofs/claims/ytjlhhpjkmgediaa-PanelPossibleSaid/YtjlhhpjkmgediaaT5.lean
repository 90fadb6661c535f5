/-
  Proved: PanelPossible: for every input the call returns true, and each argument reads afterwards as it read before; there is no condition.
-/
import Derived.Test.YtjlhhpjkmgediaaT4
import Derived.Shelf.Spec.SlicesInsertGrow
import Derived.Test.YtjlhhpjkmgediaaProg
import Derived.KernelRfl
set_option linter.unusedVariables false
set_option linter.unusedSimpArgs false
set_option linter.unusedSectionVars false
set_option maxRecDepth 100000
set_option maxHeartbeats 0
section
namespace Go.Am
open Go.Proofs Go.Shelf
structure x8d (P:Program) (f:FuncId) (t:TypeId):Prop where
 shift:∀ (b off n c i vb voff vc:Nat) (cs:List Value) (v:Value) (w:World),i<n→n+1≤c→n+1≤9223372036854775807→vb≠b→cs.length=n→
  (∀ j v,cs[j]?=some v→w.cell? ⟨b,off+j,none⟩=some v)→(∀ j,j<n+1→(w.cell? ⟨b,off+j,none⟩).isSome=true)→(∀ j,j<n+1→w.frozen? ⟨b,off+j,none⟩=false)→
  w.cell? ⟨vb,voff,none⟩=some v→(∀ v∈cs,v.oneCell'=true)→v.oneCell'=true→
  (∀ x,w.frozen? ⟨vb,x,none⟩=false)→(∃ tA kA,w.shape? vb=some (tA,kA))→(∃ tB kB,w.shape? b=some (tB,kB)∧kB≠0)→
  Calls P f #[.slice (some ⟨b,off,none⟩) n c, .int .i64 i, .slice (some ⟨vb,voff,none⟩) 1 vc] w fun e w'=>
   e= .returned (.slice (some ⟨b,off,none⟩) (n+1) c)∧w'=(w.drew.setCells b (off+(i+1)) (cs.drop i)).setCells b (off+i) [v]
 room:∀ (b off n c vb voff vc:Nat) (v:Value) (w:World),n+1≤c→n+1≤9223372036854775807→(w.cell? ⟨b,off+n,none⟩).isSome=true→w.frozen? ⟨b,off+n,none⟩=false→
  w.cell? ⟨vb,voff,none⟩=some v→v.oneCell'=true→
  Calls P f #[.slice (some ⟨b,off,none⟩) n c, .int .i64 n, .slice (some ⟨vb,voff,none⟩) 1 vc] w fun e w'=>
   e= .returned (.slice (some ⟨b,off,none⟩) (n+1) c)∧w'=w.setCells b (off+n) [v]
 last:∀ (base:Option Addr) (n c vb voff vc:Nat) (cs:List Value) (v:Value) (w:World),n≤c→c<n+1→(n+1)*8≤140737488355328→cs.length=n→(base=none→n=0)→
  (∀ a,base=some a→∀ j v,cs[j]?=some v→w.cell? (a.add j)=some v)→w.cell? ⟨vb,voff,none⟩=some v→v.oneCell'=true→
  Calls P f #[.slice base n c, .int .i64 n, .slice (some ⟨vb,voff,none⟩) 1 vc] w fun e w'=>
   e= .returned (.slice (some ⟨w.heap.size,0,none⟩) (n+1) (grownCap w (n+1) c t))∧
   w'=w.drew.alloc (.cells ((cs++[v]).toArray++Builtin.zeroCells (Value.int .i64 0).cells (grownCap w (n+1) c t - (n+1))) t)
 grow:∀ (b off n c i vb voff vc:Nat) (cs:List Value) (v:Value) (w:World),i<n→n≤c→c<n+1→(n+1)*8≤140737488355328→cs.length=n→
  (∀ j v,cs[j]?=some v→w.cell? ⟨b,off+j,none⟩=some v)→w.cell? ⟨vb,voff,none⟩=some v→(∀ v∈cs,v.oneCell'=true)→v.oneCell'=true→
  Calls P f #[.slice (some ⟨b,off,none⟩) n c, .int .i64 i, .slice (some ⟨vb,voff,none⟩) 1 vc] w fun e w'=>
   e= .returned (.slice (some ⟨w.heap.size,0,none⟩) (n+1) (grownCap w (n+1) c t))∧
   w'=(((w.alloc (.cells ((cs.take i).toArray++Builtin.zeroCells (Value.int .i64 0).cells (n+1 - i)++Builtin.zeroCells (Value.int .i64 0).cells (grownCap w (n+1) c t - (n+1))) t)).drew.setCells w.heap.size i [v]).drew).setCells w.heap.size (i+1) (cs.drop i)
 cap:∀ (w:World) (n c:Nat),c<n→n≤1000001→n≤grownCap w n c t
theorem y0b (w:World) (b:Nat) (x y:Obj):World.setObj (World.setObj w b x) b y=World.setObj w b y:=by
 unfold World.setObj
 congr 1
 apply Array.ext_getElem?
 intro i
 simp only [Array.getElem?_setIfInBounds,Array.size_setIfInBounds]
 by_cases h:b=i
 ·subst h; simp
 ·simp [h]
theorem z30 (b:Nat) (t:TypeId):∀ (vs:List Value) (o:Nat) (w:World) (c:Array Value),w.heap[b]?=some (.cells c t (0,0))→o+vs.length≤c.size→
  ∃ c':Array Value,c'.size=c.size∧(∀ j,c'[j]?=if o≤j∧j<o+vs.length then vs[j - o]? else c[j]?)∧w.setCells b o vs=World.setObj w b (.cells c' t (0,0))
 |[],o,w,c,h,hl=>by
  refine ⟨c,rfl,fun j=>by simp; omega,?_⟩
  simp only [World.setCells,World.setObj]
  have hlt:b<w.heap.size:=(Array.getElem?_eq_some_iff.1 h).1
  have:w.heap.setIfInBounds b (.cells c t (0,0))=w.heap:=by
   apply Array.ext_getElem?
   intro i
   rw [Array.getElem?_setIfInBounds]
   by_cases hi:b=i
   ·subst hi; rw [h]; simp [hlt]
   ·simp [hi]
  rw [this]
 |v::vs,o,w,c,h,hl=>by
  have hlt:b<w.heap.size:=(Array.getElem?_eq_some_iff.1 h).1
  have h1:w.setCell ⟨b,o,none⟩ v=World.setObj w b (.cells (c.setIfInBounds o v) t (0,0)):=by
   unfold World.setCell World.setObj
   congr 1
   apply Array.ext_getElem?
   intro i
   rw [Array.getElem?_modify,Array.getElem?_setIfInBounds]
   by_cases hi:b=i
   ·subst hi; rw [h]; simp [hlt]
   ·simp [hi]
  simp only [List.length_cons] at hl
  obtain ⟨c',a1,a2,a3⟩:=z30 b t vs (o+1) (World.setObj w b (.cells (c.setIfInBounds o v) t (0,0))) (c.setIfInBounds o v) (z0q _ _ _ hlt) (by simp; omega)
  refine ⟨c',by rw [a1]; simp,fun j=>?_,by rw [World.setCells,h1,a3,y0b]⟩
  rw [a2 j]
  by_cases hj:o+1≤j∧j<o+1+vs.length
  ·rw [if_pos hj,if_pos (by simp; omega)]
   rw [show j - o=(j - (o+1))+1 by omega]; rfl
  ·rw [if_neg hj,Array.getElem?_setIfInBounds]
   by_cases he:o=j
   ·subst he
    rw [if_pos rfl,if_pos (by omega),if_pos (by simp)]; simp
   ·rw [if_neg he,if_neg (by simp; omega)]
section
variable {P:Program}
theorem y2g {es:List (List D)} {x:D} {i:Nat} (hi:i≤es.length) (k:Nat):(es.take i++[x]::es.drop i)[k]?=if k<i then es[k]? else if k=i then some [x] else es[k - 1]?:=by
 rw [List.getElem?_append]
 have hl:(es.take i).length=i:=by simp; omega
 rw [hl]
 by_cases h1:k<i
 ·rw [if_pos h1,if_pos h1,List.getElem?_take,if_pos h1]
 ·rw [if_neg h1,if_neg h1]
  by_cases h2:k=i
  ·subst h2; simp
  ·rw [if_neg h2,show k - i=(k - i - 1)+1 by omega,List.getElem?_cons_succ,List.getElem?_drop]
   congr 1; omega
theorem x9x {f:FuncId} {t:TypeId} (hS:x8d P f t) {es:List (List D)} {x:D} {i:Nat} (hi:i≤es.length) (hn:es.length≤1000000):
  z9b P f [.slice 0 1 0 es.length none, .d (.int .i64 i), .slice 1 1 0 1 (some 1)] [.row es, .row [[x]]] (.slice 2 1 0 (es.length+1) none) [.dead, .row [[x]], .row (es.take i++[x]::es.drop i)]:=⟨by
 intro ρ vs w cs0 hr hdm har
 obtain ⟨hv1,hv2⟩:=har
 have hs1:vs.size=3:=hv1
 have hnew:ρ 2=none:=by
  cases hq:ρ 2 with
  |none=>rfl
  |some L=>have:=hdm 2 (by rw [hq]; simp); simp at this
 obtain ⟨L1,vc,hL1,hz1,hvs2⟩:∃ L vc,ρ 1=some L∧L.esz=1∧vs.getD 2 undef= .slice (some ⟨L.blk,L.base,none⟩) 1 vc:=by
  have hv:=hv2 2 _ rfl
  generalize hq:vs.getD 2 undef=q at hv
  cases hv with
  |slice _ _ _ _ _ L a c h1 h2 h3 h4 h5=>
   refine ⟨L,c,h1,h2,?_⟩
   rw [h3 (by omega)]; simp
 have hvs1:vs.getD 1 undef= .int .i64 i:=by
  have hv:=hv2 1 _ rfl
  generalize hq:vs.getD 1 undef=q at hv
  cases hv with|d hv=>cases hv; rfl
 obtain ⟨hlt1,ho1⟩:=hr.obj 1 L1 hL1
 obtain ⟨_,c1,t1,hcb1,_,hcell1⟩:=(show z1q P ρ _ w L1 (.row [[x]]) from ho1)
 obtain ⟨v,hv,hvone,hvrel⟩:=hcell1 0 [x] 0 x rfl rfl
 rw [hz1] at hv
 simp only [Nat.zero_mul,Nat.add_zero] at hv
 have hvc:w.cell? ⟨L1.blk,L1.base,none⟩=some v:=z7r hcb1 hv
 have hargs:∀ q,vs.getD 0 undef=q→vs=#[q, .int .i64 i, .slice (some ⟨L1.blk,L1.base,none⟩) 1 vc]:=by
  intro q hq
  apply Array.ext (by simpa using hs1)
  intro k h1 h2
  simp only [Array.getD_eq_getD_getElem?] at hq hvs1 hvs2
  match k,h1,h2 with
  |0,h1,h2=>rw [Array.getElem?_eq_getElem h1] at hq; simpa using hq
  |1,h1,h2=>rw [Array.getElem?_eq_getElem h1] at hvs1; simpa using hvs1
  |2,h1,h2=>rw [Array.getElem?_eq_getElem h1] at hvs2; simpa using hvs2
  |k+3,h1,h2=>simp at h2; omega
 have grown:∀ (c:Nat) (cs:List Value) (cells:Array Value) (d nc:Nat),cs.length=es.length→(∀ (k:Nat) (r:List D),es[k]?=some r→∃ y u,r=[y]∧cs[k]?=some u∧u.oneCell'=true∧z1t (z0i ρ [.row es, .row [[x]]]) w y u)→
   z0u w.drawn d→es.length+1≤nc→(∀ k,k<es.length+1→cells[k]?=if k<i then cs[k]? else if k=i then some v else cs[k - 1]?)→cells.size=nc→
   ∀ fr,Comes P (lone (Frame.enter P f vs .normal) cs0 w) (lone fr cs0 { World.push w (.cells cells t) with drawn:=d }) (.returned (.slice (some ⟨w.heap.size,0,none⟩) (es.length+1) nc))→fr.fn=f→fr.leaving P { World.push w (.cells cells t) with drawn:=d } (.returned (.slice (some ⟨w.heap.size,0,none⟩) (es.length+1) nc))→
   ∃ ρ' v w' fr,Steps P (lone (Frame.enter P f vs .normal) cs0 w) (lone fr cs0 w')∧fr.fn=f∧fr.leaving P w' (.returned v)∧z0s ρ' (z0i ρ' [.dead, .row [[x]], .row (es.take i++[x]::es.drop i)]) w' (.slice 2 1 0 (es.length+1) none) v∧
    z0b P ρ' [.dead, .row [[x]], .row (es.take i++[x]::es.drop i)] w'∧Dom ρ' [.dead, .row [[x]], .row (es.take i++[x]::es.drop i)]∧Ext (· <2) ρ [.row es, .row [[x]]] w ρ' [.dead, .row [[x]], .row (es.take i++[x]::es.drop i)] w':=by
  intro c cs cells d nc hcs hrows hd hnc hcells hsz fr h1 h2 h3
  have hr0:=hr.kill 0
  have hx0:=Ext.kill (· <2) ρ [.row es, .row [[x]]] w 0
  have hk0:=hx0.keep
  have hkp:=z5v hr0 hnew ⟨w.heap.size,0,1⟩ (.row (es.take i++[x]::es.drop i)) (.cells cells t) rfl
  have hobj:z1q P (ρ.put 2 ⟨w.heap.size,0,1⟩) (z0i (ρ.put 2 ⟨w.heap.size,0,1⟩) (z03 [.dead, .row [[x]]] 2 (.row (es.take i++[x]::es.drop i)))) (World.push w (.cells cells t)) ⟨w.heap.size,0,1⟩ (.row (es.take i++[x]::es.drop i)):=by
   refine ⟨Nat.one_pos,cells,t,z2v _ _,fun k r hk=>?_,fun k r j y hk hy=>?_⟩
   ·rw [y2g hi] at hk
    split at hk
    ·obtain ⟨y,_,rfl,_⟩:=hrows k r hk; rfl
    ·split at hk
     ·cases hk; rfl
     ·obtain ⟨y,_,rfl,_⟩:=hrows _ r hk; rfl
   ·have hkl:k<es.length+1:=by
     have:=(List.getElem?_eq_some_iff.1 hk).1
     simp at this; omega
    rw [Nat.mul_one,Nat.zero_add]
    rw [y2g hi] at hk
    have hc:=hcells k hkl
    have fin:∀ (y0:D) (u:Value),r=[y0]→u.oneCell'=true→z1t (z0i ρ [.row es, .row [[x]]]) w y0 u→cells[k]?=some u→∃ v,cells[k+j]?=some v∧v.oneCell'=true∧z1t (z0i (ρ.put 2 ⟨w.heap.size,0,1⟩) (z03 [.dead, .row [[x]]] 2 (.row (es.take i++[x]::es.drop i)))) (World.push w (.cells cells t)) y v:=by
     intro y0 u hr1 hu hrel hcu
     subst hr1
     cases j with
     |succ j=>simp at hy
     |zero=>simp at hy; subst hy; exact ⟨u,hcu,hu,(hrel.keep hk0).keep hkp⟩
    split at hk
    ·rename_i hlt
     obtain ⟨y0,u,hr1,hcu,hu,hrel⟩:=hrows k r hk
     exact fin y0 u hr1 hu hrel (by rw [hc,if_pos hlt]; exact hcu)
    ·rename_i hge
     split at hk
     ·rename_i hki
      cases hk
      exact fin x v rfl hvone hvrel (by rw [hc,if_neg hge,if_pos hki])
     ·rename_i hne
      obtain ⟨y0,u,hr1,hcu,hu,hrel⟩:=hrows _ r hk
      exact fin y0 u hr1 hu hrel (by rw [hc,if_neg hge,if_neg hne]; exact hcu)
  have hnw:=hr0.new hnew 1 _ _ hobj
  have hnw2:=hnw.drawn d hd
  refine ⟨ρ.put 2 ⟨w.heap.size,0,1⟩,_,_,fr,h1,h2,h3,?_,hnw2,?_,?_⟩
  ·refine .slice 2 1 0 _ none ⟨w.heap.size,0,1⟩ _ nc (Rho.put_same _ _ _) rfl (fun _=>by simp) (.inr ⟨rfl,nc,?_,by simp⟩) hnc
   show z1j (World.push w _) _=_
   rw [z0v (z2v _ _),hsz]
  ·intro id hid
   by_cases he:id=2
   ·subst he; simp
   ·rw [Rho.put_ne _ _ _ _ he] at hid
    have:=hdm id hid
    simp at this⊢; omega
  ·exact hx0.trans (((Ext.new hr0 hnew ⟨w.heap.size,0,1⟩ (.row (es.take i++[x]::es.drop i)) (.cells cells t) rfl).trans (Ext.drawn _ _ _ _ d hd)).mono (fun id hid=>by show id≠2; have hid:id<2:=hid; omega))
 have hv0:=hv2 0 _ rfl
 generalize hq0:vs.getD 0 undef=q0 at hv0
 have hva:=hargs q0 hq0
 have key:∀ n,n=es.length→z0s ρ (z0i ρ [.row es, .row [[x]]]) w (.slice 0 1 0 n none) q0→(n=0∧∃ a,q0= .slice a 0 0)∨(∃ L a c,ρ 0=some L∧L.esz=1∧q0= .slice a n c∧n≤c∧(0<c→a=some ⟨L.blk,L.base,none⟩)∧∃ m,z1j w L.blk=some m∧L.base+c≤m):=by
  intro n hn hv
  cases hv with
  |nils _ _ _ _ a _=>exact .inl ⟨rfl,_,rfl⟩
  |slice _ _ _ _ _ L a c h1 h2 h3 h4 h5=>
   rcases h4 with h4|⟨_,m,hm,hle⟩
   ·cases h4
   ·exact .inr ⟨L,a,c,h1,h2,rfl,h5,fun h=>by rw [h3 h]; simp,m,hm,by rw [h2] at hle; omega⟩
 rcases key _ rfl hv0 with ⟨h0,a,rfl⟩|⟨L,a,c,hL,hz,rfl,hnc,haa,m,hm,hroom⟩
 ·
  have hes:es=[]:=List.length_eq_zero_iff.1 h0
  have hi0:i=0:=by omega
  subst hes; subst hi0
  rw [hva] at grown⊢
  obtain ⟨e,w',fr,⟨rfl,hw'⟩,hcm,hfn,hlv⟩:=hS.last a 0 0 L1.blk L1.base vc [] v w (by omega) (by omega) (by omega) rfl (fun _=>rfl) (fun _ _ j u hj=>by simp at hj) hvc hvone cs0
  subst hw'
  have hcp:=hS.cap w 1 0 (by omega) (by omega)
  refine grown 0 [] _ (w.drawn+1) _ rfl (fun k r hk=>by simp at hk) (Nat.le_succ _) hcp (fun k hk=>?_) ?_ fr hcm hfn hlv
  ·have:k=0:=by simp at hk; omega
   subst this
   rw [Array.getElem?_append_left (by simp)]; simp
  ·simp [Builtin.zeroCells,Value.cells]; omega
 ·obtain ⟨hlt,ho⟩:=hr.obj 0 L hL
  obtain ⟨_,c0,t0,hcb,hlen,hcell⟩:=(show z1q P ρ _ w L (.row es) from ho)
  rw [hz] at hlen hcell
  rw [z0v hcb] at hm; cases hm
  have hrow:∀ (k:Nat) (r:List D),es[k]?=some r→∃ y u,r=[y]∧c0[L.base+k]?=some u∧u.oneCell'=true∧z1t (z0i ρ [.row es, .row [[x]]]) w y u:=by
   intro k r hk
   have hl:=hlen k r hk
   match r,hl with
   |[y],_=>
    obtain ⟨u,hu,h1,hrel⟩:=hcell k [y] 0 y hk rfl
    exact ⟨y,u,rfl,by simpa using hu,h1,hrel⟩
  let cs:=(c0.toList.drop L.base).take es.length
  have hcsg:∀ k,k<es.length→cs[k]?=c0[L.base+k]?:=by
   intro k hk
   show ((c0.toList.drop L.base).take es.length)[k]?=_
   rw [List.getElem?_take,if_pos hk,List.getElem?_drop]; simp
  have hcsl:cs.length=es.length:=by
   show ((c0.toList.drop L.base).take es.length).length=_
   rw [List.length_take,List.length_drop]; simp; omega
  have hcs1:∀ u∈cs,u.oneCell'=true:=by
   intro u hu
   obtain ⟨k,hk⟩:=List.getElem?_of_mem hu
   have hkl:k<es.length:=by rw [←hcsl]; exact (List.getElem?_eq_some_iff.1 hk).1
   obtain ⟨y,u',_,h2,h3,_⟩:=hrow k _ (List.getElem?_eq_getElem hkl)
   rw [hcsg k hkl,h2] at hk; cases hk; exact h3
  have hcsc:∀ j u,cs[j]?=some u→w.cell? ⟨L.blk,L.base+j,none⟩=some u:=by
   intro j u hj
   have hjl:j<es.length:=by rw [←hcsl]; exact (List.getElem?_eq_some_iff.1 hj).1
   rw [hcsg j hjl] at hj
   exact z7r hcb hj
  have hrows:∀ (k:Nat) (r:List D),es[k]?=some r→∃ y u,r=[y]∧cs[k]?=some u∧u.oneCell'=true∧z1t (z0i ρ [.row es, .row [[x]]]) w y u:=by
   intro k r hk
   obtain ⟨y,u,h1,h2,h3,h4⟩:=hrow k r hk
   exact ⟨y,u,h1,by rw [hcsg k (List.getElem?_eq_some_iff.1 hk).1]; exact h2,h3,h4⟩
  have hne:L1.blk≠L.blk:=fun e=>by have:=hr.inj 1 0 L1 L hL1 hL rfl rfl e; omega
  have place:∀ (c':Array Value) (d:Nat),c'.size=c0.size→z0u w.drawn d→(∀ k,k<es.length+1→c'[L.base+k]?=if k<i then cs[k]? else if k=i then some v else cs[k - 1]?)→a=some ⟨L.blk,L.base,none⟩→es.length+1≤c→
    ∀ fr,Comes P (lone (Frame.enter P f vs .normal) cs0 w) (lone fr cs0 (World.setObj { w with drawn:=d } L.blk (.cells c' t0 (0,0)))) (.returned (.slice a (es.length+1) c))→fr.fn=f→fr.leaving P (World.setObj { w with drawn:=d } L.blk (.cells c' t0 (0,0))) (.returned (.slice a (es.length+1) c))→
    ∃ ρ' v w' fr,Steps P (lone (Frame.enter P f vs .normal) cs0 w) (lone fr cs0 w')∧fr.fn=f∧fr.leaving P w' (.returned v)∧z0s ρ' (z0i ρ' [.dead, .row [[x]], .row (es.take i++[x]::es.drop i)]) w' (.slice 2 1 0 (es.length+1) none) v∧
     z0b P ρ' [.dead, .row [[x]], .row (es.take i++[x]::es.drop i)] w'∧Dom ρ' [.dead, .row [[x]], .row (es.take i++[x]::es.drop i)]∧Ext (· <2) ρ [.row es, .row [[x]]] w ρ' [.dead, .row [[x]], .row (es.take i++[x]::es.drop i)] w':=by
   intro c' d hsz hd hcells hae hroom1 fr h1 h2 h3
   have hr1:=hr.drawn d hd
   have hx1:Ext (· <2) ρ [.row es, .row [[x]]] w ρ [.row es, .row [[x]]] { w with drawn:=d }:=Ext.drawn _ _ _ _ d hd
   have hbs:∀ k,z1j { w with drawn:=d } L.blk=some k→z1j (World.setObj { w with drawn:=d } L.blk (.cells c' t0 (0,0))) L.blk=some k:=by
    intro k hk
    rw [z0v (w:={ w with drawn:=d }) hcb] at hk; cases hk
    rw [z0v (z0q { w with drawn:=d } L.blk _ hlt),hsz]
   obtain ⟨g1,g2⟩:=hr1.move hL rfl hnew L.base 1 (.row (es.take i++[x]::es.drop i)) rfl (.cells c' t0 (0,0)) hbs (fun kp=>by
    refine ⟨Nat.one_pos,c',t0,z0q _ _ _ hlt,fun k r hk=>?_,fun k r j y hk hy=>?_⟩
    ·rw [y2g hi] at hk
     split at hk
     ·obtain ⟨y,_,rfl,_⟩:=hrows k r hk; rfl
     ·split at hk
      ·cases hk; rfl
      ·obtain ⟨y,_,rfl,_⟩:=hrows _ r hk; rfl
    ·have hkl:k<es.length+1:=by
      have:=(List.getElem?_eq_some_iff.1 hk).1
      simp at this; omega
     rw [Nat.mul_one]
     rw [y2g hi] at hk
     have hc:=hcells k hkl
     have fin:∀ (y0:D) (u:Value),r=[y0]→u.oneCell'=true→z1t (z0i ρ [.row es, .row [[x]]]) w y0 u→c'[L.base+k]?=some u→∃ v,c'[L.base+k+j]?=some v∧v.oneCell'=true∧z1t (z0i (ρ.put 2 ⟨L.blk,L.base,1⟩) (z03 (z03 [.row es, .row [[x]]] 0 .dead) 2 (.row (es.take i++[x]::es.drop i)))) (World.setObj { w with drawn:=d } L.blk (.cells c' t0 (0,0))) y v:=by
      intro y0 u hr1 hu hrel hcu
      subst hr1
      cases j with
      |succ j=>simp at hy
      |zero=>simp at hy; subst hy; exact ⟨u,hcu,hu,(hrel.keep hx1.keep).keep kp⟩
     split at hk
     ·rename_i hlt
      obtain ⟨y0,u,hr1,hcu,hu,hrel⟩:=hrows k r hk
      exact fin y0 u hr1 hu hrel (by rw [hc,if_pos hlt]; exact hcu)
     ·rename_i hge
      split at hk
      ·rename_i hki
       cases hk
       exact fin x v rfl hvone hvrel (by rw [hc,if_neg hge,if_pos hki])
      ·rename_i hne
       obtain ⟨y0,u,hr1,hcu,hu,hrel⟩:=hrows _ r hk
       exact fin y0 u hr1 hu hrel (by rw [hc,if_neg hge,if_neg hne]; exact hcu))
   refine ⟨ρ.put 2 ⟨L.blk,L.base,1⟩,_,_,fr,h1,h2,h3,?_,g1,?_,hx1.trans (g2.mono (fun id hid=>by show id≠2; have hid:id<2:=hid; omega))⟩
   ·refine .slice 2 1 0 _ none ⟨L.blk,L.base,1⟩ _ c (Rho.put_same _ _ _) rfl (fun _=>by rw [hae]; simp) (.inr ⟨rfl,c0.size,?_,by simp; omega⟩) hroom1
    rw [z0v (z0q { w with drawn:=d } L.blk _ hlt),hsz]
   ·intro id hid
    by_cases he:id=2
    ·subst he; simp
    ·rw [Rho.put_ne _ _ _ _ he] at hid
     have:=hdm id hid
     simp at this⊢; omega
  have hin:∀ j,j<c→∃ u,c0[L.base+j]?=some u:=fun j hj=>⟨_,Array.getElem?_eq_getElem (by omega)⟩
  have hsp:∀ j,j<c→(w.cell? ⟨L.blk,L.base+j,none⟩).isSome=true:=fun j hj=>by
   obtain ⟨u,hu⟩:=hin j hj
   rw [z7r hcb hu]; rfl
  have hfz:∀ b ct tt,w.heap[b]?=some (.cells ct tt (0,0))→∀ k,w.frozen? ⟨b,k,none⟩=false:=fun b ct tt hb k=>by
   unfold World.frozen?; simp only [hb]; simp
  by_cases hfit:es.length+1≤c
  ·have hae:=haa (by omega)
   by_cases hlast:i=es.length
   ·
    have hva':vs=#[.slice (some ⟨L.blk,L.base,none⟩) es.length c, .int .i64 es.length, .slice (some ⟨L1.blk,L1.base,none⟩) 1 vc]:=by rw [hva,hae,hlast]
    obtain ⟨e,w',fr,⟨rfl,hw'⟩,hcm,hfn,hlv⟩:=hS.room L.blk L.base es.length c L1.blk L1.base vc v w hfit (by omega) (hsp _ (by omega)) (hfz _ _ _ hcb _) hvc hvone cs0
    rw [←hva'] at hcm
    obtain ⟨c',g1,g2,g3⟩:=z30 L.blk t0 [v] (L.base+es.length) w c0 hcb (by simp; omega)
    rw [g3] at hw'
    subst hw'
    refine place c' w.drawn g1 (z0u.refl _) (fun k hk=>?_) hae hfit fr (by rw [hae]; exact hcm) hfn (by rw [hae]; exact hlv)
    rw [g2]
    by_cases hki:k=es.length
    ·subst hki
     rw [if_pos (by simp),if_neg (by omega),if_pos hlast.symm]; simp
    ·rw [if_neg (by simp; omega),if_pos (by omega),hcsg k (by omega)]
   ·
    have hva':vs=#[.slice (some ⟨L.blk,L.base,none⟩) es.length c, .int .i64 i, .slice (some ⟨L1.blk,L1.base,none⟩) 1 vc]:=by rw [hva,hae]
    obtain ⟨e,w',fr,⟨rfl,hw'⟩,hcm,hfn,hlv⟩:=hS.shift L.blk L.base es.length c i L1.blk L1.base vc cs v w (by omega) hfit (by omega) hne hcsl hcsc (fun j hj=>hsp j (by omega)) (fun j _=>hfz _ _ _ hcb _) hvc hcs1 hvone
     (hfz _ _ _ hcb1) ⟨t1,c1.size,by unfold World.shape?; rw [hcb1]⟩ ⟨t0,c0.size,by unfold World.shape?; rw [hcb],by omega⟩ cs0
    rw [←hva'] at hcm
    have hcbd:w.drew.heap[L.blk]?=some (.cells c0 t0 (0,0)):=hcb
    have hdl:(cs.drop i).length=es.length - i:=by rw [List.length_drop,hcsl]
    obtain ⟨c',g1,g2,g3⟩:=z30 L.blk t0 (cs.drop i) (L.base+(i+1)) w.drew c0 hcbd (by rw [hdl]; omega)
    have hlt':L.blk<w.drew.heap.size:=hlt
    obtain ⟨c2,k1,k2,k3⟩:=z30 L.blk t0 [v] (L.base+i) (World.setObj w.drew L.blk (.cells c' t0 (0,0))) c' (z0q _ _ _ hlt') (by simp; omega)
    rw [g3,k3,y0b] at hw'
    subst hw'
    refine place c2 (w.drawn+1) (k1.trans g1) (Nat.le_succ _) (fun k hk=>?_) hae hfit fr (by rw [hae]; exact hcm) hfn (by rw [hae]; exact hlv)
    rw [k2]
    by_cases hki:k=i
    ·subst hki
     rw [if_pos (by simp),if_neg (by omega),if_pos rfl]; simp
    ·rw [if_neg (by simp; omega),g2]
     by_cases hlt2:k<i
     ·rw [if_neg (by omega),if_pos hlt2,hcsg k (by omega)]
     ·rw [if_pos (by rw [hdl]; omega),if_neg hlt2,if_neg hki,List.getElem?_drop]
      congr 1; omega
  ·have hce:c=es.length:=by omega
   have hcap:=hS.cap w (es.length+1) c (by omega) (by omega)
   by_cases hlast:i=es.length
   ·
    have hva':vs=#[.slice a es.length c, .int .i64 es.length, .slice (some ⟨L1.blk,L1.base,none⟩) 1 vc]:=by rw [hva,hlast]
    obtain ⟨e,w',fr,⟨rfl,hw'⟩,hcm,hfn,hlv⟩:=hS.last a es.length c L1.blk L1.base vc cs v w hnc (by omega) (by omega) hcsl (fun ha=>by
      by_cases h0:0<c
      ·rw [haa h0] at ha; cases ha
      ·omega) (fun a' ha' j u hj=>by
      have hjl:j<es.length:=by rw [←hcsl]; exact (List.getElem?_eq_some_iff.1 hj).1
      rw [haa (by omega)] at ha'
      cases ha'
      rw [z4e]; exact hcsc j u hj) hvc hvone cs0
    rw [←hva'] at hcm
    subst hw'
    refine grown c cs _ (w.drawn+1) _ hcsl hrows (Nat.le_succ _) hcap (fun k hk=>?_) ?_ fr hcm hfn hlv
    ·have hkk:k<(cs++[v]).length:=by simp [hcsl]; omega
     have e1:((cs++[v]).toArray++Builtin.zeroCells (Value.int .i64 0).cells (grownCap w (es.length+1) c t - (es.length+1)))[k]?=(cs++[v])[k]?:=by
      rw [Array.getElem?_append_left (by simpa using hkk)]; simp
     rw [e1,List.getElem?_append,hcsl]
     by_cases hkn:k<es.length
     ·rw [if_pos hkn,if_pos (by omega)]
     ·rw [if_neg hkn,if_neg (by omega),if_pos (by omega),show k - es.length=0 by omega]; rfl
    ·simp [Builtin.zeroCells,Value.cells,hcsl]; omega
   ·
    have hae:=haa (by omega)
    have hva':vs=#[.slice (some ⟨L.blk,L.base,none⟩) es.length c, .int .i64 i, .slice (some ⟨L1.blk,L1.base,none⟩) 1 vc]:=by rw [hva,hae]
    obtain ⟨e,w',fr,⟨rfl,hw'⟩,hcm,hfn,hlv⟩:=hS.grow L.blk L.base es.length c i L1.blk L1.base vc cs v w (by omega) hnc (by omega) (by omega) hcsl hcsc hvc hcs1 hvone cs0
    rw [←hva'] at hcm
    generalize hG:grownCap w (es.length+1) c t=G at hw' hcm hlv hcap
    generalize hROW:(cs.take i).toArray++Builtin.zeroCells (Value.int .i64 0).cells (es.length+1 - i)++Builtin.zeroCells (Value.int .i64 0).cells (G - (es.length+1))=ROW at hw'
    have hRs:ROW.size=G:=by
     rw [←hROW]; simp [Builtin.zeroCells,Value.cells,hcsl]; omega
    have hRg:∀ k,k<i→ROW[k]?=cs[k]?:=by
     intro k hk
     rw [←hROW,Array.append_assoc,Array.getElem?_append_left (by simp [hcsl]; omega)]
     simp [List.getElem?_take,hk]
    have hb0:(w.alloc (.cells ROW t)).drew.heap[w.heap.size]?=some (.cells ROW t (0,0)):=by
     show (w.heap.push _)[w.heap.size]?=_
     simp
    obtain ⟨c',g1,g2,g3⟩:=z30 w.heap.size t [v] i _ ROW hb0 (by simp; omega)
    have hdl:(cs.drop i).length=es.length - i:=by rw [List.length_drop,hcsl]
    have hb1:(World.setObj (w.alloc (.cells ROW t)).drew w.heap.size (.cells c' t (0,0))).drew.heap[w.heap.size]?=some (.cells c' t (0,0)):=by
     show (World.setObj (w.alloc (.cells ROW t)).drew w.heap.size (.cells c' t (0,0))).heap[w.heap.size]?=_
     exact z0q _ _ _ (by show _<(w.heap.push _).size; simp)
    obtain ⟨c2,k1,k2,k3⟩:=z30 w.heap.size t (cs.drop i) (i+1) _ c' hb1 (by rw [hdl,g1]; omega)
    rw [g3,k3] at hw'
    have hwe:World.setObj (World.setObj (w.alloc (.cells ROW t)).drew w.heap.size (.cells c' t (0,0))).drew w.heap.size (.cells c2 t (0,0))={ World.push w (.cells c2 t) with drawn:=w.drawn+2 }:=by
     unfold World.setObj World.drew World.alloc World.push
     simp only
     congr 1
     apply Array.ext_getElem?
     intro k
     simp only [Array.getElem?_setIfInBounds,Array.getElem?_push,Array.size_push,Array.size_setIfInBounds]
     by_cases hk:w.heap.size=k
     ·subst hk; simp
     ·have hk2:¬ k=w.heap.size:=fun e=>hk e.symm
      simp [hk,hk2]
    rw [hwe] at hw'
    subst hw'
    refine grown c cs c2 (w.drawn+2) G hcsl hrows (by show w.drawn≤_; omega) hcap (fun k hk=>?_) (by rw [k1,g1,hRs]) fr hcm hfn hlv
    rw [k2]
    by_cases hgt:i+1≤k
    ·rw [if_pos (by rw [hdl]; omega),if_neg (by omega),if_neg (by omega),List.getElem?_drop]
     congr 1; omega
    ·rw [if_neg (by omega),g2]
     by_cases hki:k=i
     ·subst hki
      rw [if_pos (by simp),if_neg (by omega),if_pos rfl]; simp
     ·rw [if_neg (by simp; omega),if_pos (by omega),hRg k (by omega)]⟩
end
end Go.Am
end
section
namespace Go.Proofs
open Go.Shelf Go.RowKit Go.Lib
def x6c:Go.Shelf.Ren:=⟨fun|39=>72|35=>103|28=>85|27=>84|21=>60|n=>n,fun|0=>0|4=>4|3=>3|22=>26|n=>n,fun|n=>n⟩
theorem x2b : Go.Proofs.Lays2.n21 Try.prog x6c :=
  { mixed := by kernel_rfl,
    f21 := by first | exact ⟨Try.f60.name, by decide, Try.func60.trans (congrArg some (by kernel_rfl))⟩ | exact Try.func60.trans (congrArg some (by kernel_rfl)),
    f27 := by first | exact ⟨Try.f84.name, by decide, Try.func84.trans (congrArg some (by kernel_rfl))⟩ | exact Try.func84.trans (congrArg some (by kernel_rfl)),
    f28 := by first | exact ⟨Try.f85.name, by decide, Try.func85.trans (congrArg some (by kernel_rfl))⟩ | exact Try.func85.trans (congrArg some (by kernel_rfl)),
    f35 := by first | exact ⟨Try.f103.name, by decide, Try.func103.trans (congrArg some (by kernel_rfl))⟩ | exact Try.func103.trans (congrArg some (by kernel_rfl)),
    f39 := by first | exact ⟨Try.f72.name, by decide, Try.func72.trans (congrArg some (by kernel_rfl))⟩ | exact Try.func72.trans (congrArg some (by kernel_rfl)),
    t0 := by exact Try.underlying0,
    a0 := by exact Try.isAgg0,
    z0 := by exact Try.sizeOf0,
    v0 := by exact Try.zeroValue0,
    t3 := by exact Try.underlying3,
    a3 := by exact Try.isAgg3,
    z3 := by exact Try.sizeOf3,
    v3 := by exact Try.zeroValue3,
    t4 := by exact Try.underlying4,
    a4 := by exact Try.isAgg4,
    z4 := by exact Try.sizeOf4,
    v4 := by exact Try.zeroValue4,
    t22 := by exact Try.underlying26,
    a22 := by exact Try.isAgg26,
    z22 := by exact Try.sizeOf26,
    v22 := by exact Try.zeroValue26,
    i3 := by kernel_rfl }
variable {P:Program} {ρ:Ren}
set_option maxHeartbeats 4000000 in
set_option maxRecDepth 100000 in
theorem x6g (L:Lays2.n21 P ρ) (b off n c i vb voff m vc:Nat) (cs vs:List Value) (w:World) (hi:i<n) (hm:0<m) (hroom:n+m≤c) (hc63:n+m≤9223372036854775807) (hvb:vb≠b)
  (hcl:cs.length=n) (hvl:vs.length=m) (hcs:∀ j v,cs[j]?=some v→w.cell? ⟨b,off+j,none⟩=some v) (hsp:∀ j,j<n+m→(w.cell? ⟨b,off+j,none⟩).isSome=true) (hfz:∀ j,j<n+m→w.frozen? ⟨b,off+j,none⟩=false)
  (hvs:∀ j v,vs[j]?=some v→w.cell? ⟨vb,voff+j,none⟩=some v) (h1c:∀ v∈cs,v.oneCell'=true) (h1v:∀ v∈vs,v.oneCell'=true)
  (tA tB:TypeId) (kA kB:Nat) (hsa:w.shape? vb=some (tA,kA)) (hsb:w.shape? b=some (tB,kB)) (hkB:kB≠0) (hfa:w.frozen? ⟨vb,voff,none⟩=false) (hfe:w.frozen? ⟨vb,kA,none⟩=false):
  Calls P (ρ.f 21) #[.slice (some ⟨b,off,none⟩) n c, .int .i64 i, .slice (some ⟨vb,voff,none⟩) m vc] w fun e w'=>
   e= .returned (.slice (some ⟨b,off,none⟩) (n+m) c)∧w'=(w.drew.setCells b (off+(i+m)) (cs.drop i)).setCells b (off+i) vs:=by
 have t0:=L.t0; have a0:=L.a0; have z0:=L.z0; have v0:=L.v0; have t3:=L.t3; have a3:=L.a3; have z3:=L.z3; have v3:=L.v3; have t4:=L.t4; have a4:=L.a4; have z4:=L.z4; have v4:=L.v4; have t22:=L.t22; have a22:=L.a22; have z22:=L.z22; have v22:=L.v22
 have u0:=run_underlying L.t0; have u3:=run_underlying L.t3; have u4:=run_underlying L.t4; have u22:=run_underlying L.t22
 have hz1:¬ ((m:Int)=0):=by omega
 have hz2:¬ ((i:Int)=(n:Int)):=by omega
 have hsz:(P.info? (ρ.t 3)).map (·.size)=some 1:=by
  obtain ⟨i0,hi0,h0,h1,h2⟩:=info_parts L.i3
  rw [hi0]; simp [h1]
 have hov:∀ lb cb,(callFunc (ρ.f 27) #[.slice (some ⟨vb,voff,none⟩) m vc, .slice (some ⟨b,off+(i+m),none⟩) lb cb]).run P w= .ok (.value (.bool false)) w:=fun lb cb=>by
  rw [run_callFunc_extern L.f27 (by kernel_rfl) (by kernel_rfl) (by kernel_rfl) (e:=Extern.SlicesOverlaps.overlaps #[(ρ.t 22),(ρ.t 22)] #[(ρ.t 4)]) (by kernel_rfl),
   Lib.run_overlaps_apart w (ρ.t 22) (ρ.t 4) (ρ.t 3) L.t22 1 L.z3 ⟨vb,voff,none⟩ ⟨b,off+(i+m),none⟩ m vc lb cb hvb tA tB kA kB hsa hsb hkB hfa hfe]
  rfl
 have hdl:(cs.drop i).length=n - i:=by rw [List.length_drop,hcl]
 have mixed:=L.mixed
 have hw1:IntKind.i64.wrap ((i:Int)+(m:Int))=(i:Int)+(m:Int):=by rw [IntKind.wrap_i64]; omega
 have hb1:(0:Int)≤(i:Int)+(m:Int):=by omega
 have hin:i≤n:=by omega
 have htn:((i:Int)+(m:Int)).toNat=i+m:=by omega
 have hb2:¬ (c=i+m):=by omega
 have hb3:(i:Int)≤(n:Int)+(m:Int):=by omega
 have hb4:¬ (c=i):=by omega
 have hcp1:∀ ty dc sc,(Builtin.copy_ #[(ρ.t 22),(ρ.t 22)] ty #[.slice (some ⟨b,off+(i+m),none⟩) (n+m - (i+m)) dc, .slice (some ⟨b,off+i,none⟩) (n+m - i) sc]).run P w.drew= .ok (goInt (cs.drop i).length) (w.drew.setCells b (off+(i+m)) (cs.drop i)):=fun ty dc sc=>
  run_copy_cells w.drew _ _ ty (ρ.t 3) b (off+(i+m)) (n+m - (i+m)) dc ⟨b,off+i,none⟩ (n+m - i) sc (cs.drop i) L.t22 hsz (by rw [hdl]; simp only [Nat.min_def]; split<;>omega)
   (fun j v hj=>by rw [Addr.add_lit,Nat.add_assoc]; exact hcs (i+j) v (by rwa [List.getElem?_drop] at hj))
   (fun j hj=>by rw [Nat.add_assoc]; exact hsp _ (by omega)) (fun j hj=>by rw [Nat.add_assoc]; exact hfz _ (by omega)) (fun v hv=>h1c v (List.mem_of_mem_drop hv))
 obtain ⟨W1,hW1⟩:∃ W1,W1=w.drew.setCells b (off+(i+m)) (cs.drop i):=⟨_,rfl⟩
 have hsp1:∀ k,k<n+m→(W1.cell? ⟨b,off+k,none⟩).isSome=true:=fun k hk=>by
  rw [hW1]
  exact isSome_setCells b _ _ _ (fun j hj=>by rw [Nat.add_assoc]; exact hsp _ (by omega)) _ (hsp k hk)
 have hcp2:∀ (W:World),(∀ x,W.cell? x=W1.cell? x)→(∀ x,W.frozen? x=W1.frozen? x)→∀ ty dc,(Builtin.copy_ #[(ρ.t 22),(ρ.t 22)] ty #[.slice (some ⟨b,off+i,none⟩) (n+m - i) dc, .slice (some ⟨vb,voff,none⟩) m vc]).run P W= .ok (goInt vs.length) (W.setCells b (off+i) vs):=fun W hWc hWf ty dc=>
  run_copy_cells W _ _ ty (ρ.t 3) b (off+i) (n+m - i) dc ⟨vb,voff,none⟩ m vc vs L.t22 hsz (by rw [hvl]; simp only [Nat.min_def]; split<;>omega)
   (fun j v hj=>by
    rw [Addr.add_lit,hWc,hW1,World.cell?_setCells_out b _ _ _ _ (fun h _=>absurd h hvb)]
    exact hvs j v hj)
   (fun j hj=>by rw [hWc,Nat.add_assoc]; exact hsp1 _ (by omega)) (fun j hj=>by rw [hWf,hW1,World.frozen?_setCells,Nat.add_assoc]; exact hfz _ (by omega)) h1v
 rw [←hW1] at hcp1
 go_enter L.f21,Body2.n21_ntmps ρ
 go_wp2_with (simp only [hov])
 go_region_law_o (refine step_copy_runI rfl _ _ (ρ.t 22) (ρ.t 22) rfl _ _ (by simp [Act.eval,Act.put]) (by simp [Act.eval,Act.put]) (hcp1 _ _ _) ?_)
 go_wp2_with (at_builtin; refine wpList_copy_runI _ rfl _ _ (ρ.t 22) (ρ.t 22) rfl _ _ rfl rfl (hcp2 _ (fun _=>rfl) (fun _=>rfl) _ _) ?_)
 go_ret
 first|exact ⟨rfl,rfl⟩|exact ⟨rfl,by rw [hW1]⟩
set_option maxHeartbeats 4000000 in
set_option maxRecDepth 100000 in
theorem x9w (L:Lays2.n21 P ρ) (b off n c vb voff m vc:Nat) (vs:List Value) (w:World) (hm:0<m) (hroom:n+m≤c) (hc63:n+m≤9223372036854775807)
  (hvl:vs.length=m) (hsp:∀ j,j<m→(w.cell? ⟨b,off+n+j,none⟩).isSome=true) (hfz:∀ j,j<m→w.frozen? ⟨b,off+n+j,none⟩=false)
  (hvs:∀ j v,vs[j]?=some v→w.cell? ⟨vb,voff+j,none⟩=some v) (h1v:∀ v∈vs,v.oneCell'=true):
  Calls P (ρ.f 21) #[.slice (some ⟨b,off,none⟩) n c, .int .i64 n, .slice (some ⟨vb,voff,none⟩) m vc] w fun e w'=>
   e= .returned (.slice (some ⟨b,off,none⟩) (n+m) c)∧w'=w.setCells b (off+n) vs:=by
 have t0:=L.t0; have a0:=L.a0; have z0:=L.z0; have v0:=L.v0; have t3:=L.t3; have a3:=L.a3; have z3:=L.z3; have v3:=L.v3; have t4:=L.t4; have a4:=L.a4; have z4:=L.z4; have v4:=L.v4; have t22:=L.t22; have a22:=L.a22; have z22:=L.z22; have v22:=L.v22
 have u0:=run_underlying L.t0; have u3:=run_underlying L.t3; have u4:=run_underlying L.t4; have u22:=run_underlying L.t22
 have mixed:=L.mixed
 have hz1:¬ ((m:Int)=0):=by omega
 have hsrc:Src P 1 (ρ.t 22) (.slice (some ⟨vb,voff,none⟩) m vc) m vs w:=Src.ofSlice w L.t22 ⟨vb,voff,none⟩ m vc vs (by omega) (fun j u hj=>by rw [Addr.add_lit]; exact hvs j u hj) h1v
 go_enter L.f21,Body2.n21_ntmps ρ
 go_wp2_with (at_builtin; refine wpList_append_room1 _ rfl _ _ (ρ.t 22) (ρ.t 22) rfl (ρ.t 3) _ _ L.t22 L.i3 b off n c rfl _ rfl m vs hsrc hroom (by rw [hvl]; exact hsp) (by rw [hvl]; exact hfz) ?_)
 go_ret
 exact ⟨rfl,rfl⟩
end Go.Proofs
namespace Go.Am
open Go.Proofs Go.Shelf
theorem w39:x8d Try.prog 60 3 where
 shift:=fun b off n c i vb voff vc cs v w h1 h2 h3 h4 h5 h6 h7 h8 h9 h10 h11 h12 ⟨tA,kA,h13⟩ ⟨tB,kB,h14,h15⟩=>x6g x2b b off n c i vb voff 1 vc cs [v] w h1 (by omega) h2 h3 h4 h5 rfl h6 h7 h8 (fun j u hj=>by
  cases j with
  |zero=>cases hj; exact h9
  |succ j=>simp at hj) h10 (by simpa using h11) tA tB kA kB h13 h14 h15 (h12 _) (h12 _)
 room:=fun b off n c vb voff vc v w h1 h2 h3 h4 h5 h6=>x9w x2b b off n c vb voff 1 vc [v] w (by omega) h1 h2 rfl (fun j hj=>by
   have:j=0:=by omega
   subst this; exact h3) (fun j hj=>by
   have:j=0:=by omega
   subst this; exact h4) (fun j u hj=>by
   cases j with
   |zero=>cases hj; exact h5
   |succ j=>simp at hj) (by simpa using h6)
 last:=fun base n c vb voff vc cs v w h1 h2 h3 h4 h5 h6 h7 h8=>Any2.slices_Insert_int_end_grow x2b base n c vb voff 1 vc cs [v] w (by omega) h1 h2 h3 h4 rfl h5 h6 (fun j u hj=>by
  cases j with
  |zero=>cases hj; exact h7
  |succ j=>simp at hj) (by simpa using h8)
 grow:=fun b off n c i vb voff vc cs v w h1 h2 h3 h4 h5 h6 h7 h8 h9=>Any2.slices_Insert_int_grow x2b b off n c i vb voff 1 vc cs [v] w h1 (by omega) h2 h3 h4 h5 rfl h6 (fun j u hj=>by
  cases j with
  |zero=>cases hj; exact h7
  |succ j=>simp at hj) h8 (by simpa using h9)
 cap:=fun w n c h1 h2=>by unfold grownCap; simp [Question.cut]
noncomputable def y0p:Ctr:=
 ⟨60,[.vec 0 1, .int .i64, .full 1 1],[.row [(Go.Am.CK.int Go.IntKind.i64)], .row [(Go.Am.CK.int Go.IntKind.i64)]],[(.ret,⟨[(0, .vec 2 1)],[.dead, .row [(Go.Am.CK.int Go.IntKind.i64)], .row [(Go.Am.CK.int Go.IntKind.i64)]],1⟩)]⟩
def q60 (x:List (List D)×(List (List D)×(Int×Unit))):Option (List (List D)×(List (List D)×Unit)):=
 match x.2.1 with
 |[[v]]=>bif decide (0≤x.2.2.1)&&(Nat.ble x.2.2.1.toNat x.1.length&&Nat.ble x.1.length 1000000) then some ([[v]],(x.1.take x.2.2.1.toNat++[v]::x.1.drop x.2.2.1.toNat,())) else none
 |_=>none
noncomputable def G60:(p:Prim)→(List (List D)×(List (List D)×(Int×Unit)))→Option (List (List D)×(List (List D)×Unit)):=
 fun p x=>q60 x
noncomputable def F60:Prim→Tup (y0p).scs→Option (STup (scss (y0p).outs)):=
 fun p x=>G60 p x
theorem w0b:z2r Go.Proofs.Try.prog 60:=enters_auto (b:=_) rfl (by kernel_rfl)
theorem ok60:CtrOk Go.Proofs.Try.prog y0p (F60 std):=by
 have key:∀ (es r:List (List D)) (i:Int) (y:STup (scss (y0p).outs)),q60 (es,(r,(i,())))=some y→(y4e std y0p (y0y (y0p).scs (es,(r,(i,()))))).2.length≤(z1p std (y0p).outs y).2.s.heap.length∧
   z9b Try.prog 60 (y4e std y0p (y0y (y0p).scs (es,(r,(i,()))))).1 (y4e std y0p (y0y (y0p).scs (es,(r,(i,()))))).2 (z1h (z1p std (y0p).outs y).2.s.env 0) (z1p std (y0p).outs y).2.s.heap:=by
  intro es r i y hy
  unfold q60 at hy
  simp only at hy
  match r,hy with
  |[[v]],hy=>
   simp only at hy
   cases hb:(decide (0≤i)&&(Nat.ble i.toNat es.length&&Nat.ble es.length 1000000)) with
   |false=>rw [hb] at hy; cases hy
   |true=>
    rw [hb] at hy; cases hy
    simp only [Bool.and_eq_true,decide_eq_true_eq] at hb
    obtain ⟨h0,h1,h2⟩:=hb
    have h1:=Nat.le_of_ble_eq_true h1
    have h2:=Nat.le_of_ble_eq_true h2
    have hi:((i.toNat:Nat):Int)=i:=by omega
    have:=x9x w39 (es:=es) (x:=v) (i:=i.toNat) h1 h2
    have hl:es.length+1=(es.take i.toNat++[v]::es.drop i.toNat).length:=by simp; omega
    rw [hl,hi] at this
    exact ⟨(by show 2≤3; omega),this⟩
 exact ⟨w0b,fun x y hy=>key x.1 x.2.1 x.2.2.1 y hy⟩
end Go.Am
end
noncomputable section
namespace Go.Am
def w8i:Ctr:=
 ⟨26,[.list 1],[],[(.ret,⟨[(0, .tuple [.vec 0 1, .int .i64])],[.row [ci]],1⟩)]⟩
def la26:List LA:=
 [⟨26,[false,true,false,true,true,true,true,true],0,⟨⟨[(6, .bptr 0 0),(7, .vec 2 1),(23, .int .i64),(24, .int .i64)],[.box [.clo 57 [.bptr 1 0] []], .row [ci], .row [ci]],37⟩,[((AX.exit 0),⟨[(7, .vec 0 1)],[.row [ci]],37⟩)]⟩⟩,
 ⟨58,[false,true,false,true],4,⟨⟨[(0, .vec 2 1),(1, .clo 59 [] [.bptr 0 0, .bptr 3 0]),(7, .vec 2 1),(8, .int .i64),(9, .int .i64)],[.box [.clo 57 [.bptr 1 0] []], .row [ci], .row [ci], .box [.int .i64]],21⟩,[(AX.ret,⟨[(4, .int .i64)],[.box [.clo 57 [.bptr 1 0] []], .row [ci], .row [ci], .box [.int .i64]],21⟩),((AX.exit 0),⟨[(0, .vec 2 1)],[.box [.clo 57 [.bptr 1 0] []], .row [ci], .row [ci], .box [.int .i64]],21⟩)]⟩⟩]
def ja26:List JA:=
 [⟨26,[false,true,true,false,false,true,false,true,true,true,true,true],0,[(AX.normal,⟨[(6, .bptr 0 0),(7, .vec 1 1),(23, .int .i64),(24, .int .i64)],[.box [.clo 57 [.bptr 2 0] []], .row [ci], .row [ci]],37⟩)]⟩]
def v3i:List CF:=
 [⟨y0p,F60⟩,⟨w0r,G54⟩]
def an26:Anns:=
 ⟨v3i,ja26,[]⟩
def v4g (p:Prim):(LD×(LD×T4))→Option ((LD×(LD×T4))⊕((LD×(LD×T3))⊕(LD×(LD×T1)))):=
 fun a=>opt.run _ (
 opt.ask _ (p.cmp .lss a.2.2.2.2.1 a.2.2.2.1) (
 opt.need _ (bif (p.cmp .geq a.2.2.2.2.1 (0:Int)) then (p.cmp .lss a.2.2.2.2.1 (p.ofNat (p.len a.2.1))) else Bool.false)<|
 opt.need _ (p.rowOk a.2.1 (p.add 0 (p.nat a.2.2.2.2.1)) [ci])<|
 opt.need _ (bif (p.cmp .geq a.2.2.1 (0:Int)) then (p.cmp .lss a.2.2.1 (p.ofNat 10)) else Bool.false)<|
 opt.need _ (bif (p.cmp .geq (p.rdI a.2.1 (p.add 0 (p.nat a.2.2.2.2.1)) 0) (0:Int)) then (p.cmp .lss (p.rdI a.2.1 (p.add 0 (p.nat a.2.2.2.2.1)) 0) (p.ofNat 10)) else Bool.false)<|
 opt.need _ (p.rowOk a.1 (p.add (p.add 1 (p.mul (p.nat a.2.2.1) 10)) (p.nat (p.rdI a.2.1 (p.add 0 (p.nat a.2.2.2.2.1)) 0))) [ci])<|
 opt.ask _ (p.cmp .eql (p.rdI a.1 (p.add (p.add 1 (p.mul (p.nat a.2.2.1) 10)) (p.nat (p.rdI a.2.1 (p.add 0 (p.nat a.2.2.2.2.1)) 0))) 0) (1:Int)) (
 opt.ret _ (Sum.inr (Sum.inl (a.1,(a.2.1,(a.2.2.1,(a.2.2.2.2.1,()))))))) (
 opt.need _ (p.eqN 0 0)<|
 opt.need _ (p.eqN (p.len a.2.1) (p.len a.2.1))<|
 opt.need _ (p.eqN 0 0)<|
 opt.need _ (p.eqN (p.len a.2.1) (p.len a.2.1))<|
 opt.ret _ (Sum.inl (a.1,(a.2.1,(a.2.2.1,(a.2.2.2.1,((p.ar .add .i64 a.2.2.2.2.1 (1:Int)),())))))))) (
 opt.need _ (p.eqN 0 0)<|
 opt.need _ (p.eqN (p.len a.2.1) (p.len a.2.1))<|
 opt.ret _ (Sum.inr (Sum.inr (a.1,(a.2.1,(a.2.2.1,())))))))
def w5e (it:It) (p:Prim):(LD×(LD×T3))→Option ((LD×(LD×T3))⊕(LD×Unit)):=
 fun a=>opt.run _ (
 opt.ask _ (p.cmp .lss a.2.2.2.1 a.2.2.1) (
 opt.bnd ((LD×(LD×T3))) _ (
 opt.run ((LD×(LD×T3))) (
 opt.need _ (p.eqN 0 0)<|
 opt.need _ (p.eqN (p.len a.2.1) (p.len a.2.1))<|
 opt.need _ (p.eqN 0 0)<|
 opt.need _ (p.eqN (p.len a.2.1) (p.len a.2.1))<|
 opt.alt ((LD×(LD×T3))) ((LD×(LD×T1))) _ (
 it _ _ (v4g p) (a.1,(a.2.1,(a.2.2.2.1,((p.ofNat (p.len a.2.1)),((0:Int),())))))) (fun b=>
 opt.need _ (p.eqN 0 0)<|
 opt.need _ (p.eqN (p.len a.2.1) (p.len b.2.1))<|
 opt.need _ (p.eqN 0 0)<|
 opt.need _ (p.eqN 1 (p.len [[(D.int .i64 b.2.2.1)]]))<|
 opt.need _ (p.eqN 1 (p.len [[(D.int .i64 b.2.2.1)]]))<|
 opt.bnd ((LD×(LD×Unit))) _ (G60 p (b.2.1,([[(D.int .i64 b.2.2.1)]],(b.2.2.2.1,())))) fun c=>
 opt.need _ (p.eqN 0 0)<|
 opt.need _ (p.eqN (p.len c.2.1) (p.len c.2.1))<|
 opt.ret _ (c.2.1,(b.1,(a.2.2.1,(a.2.2.2.1,()))))) (fun d=>
 opt.bnd ((LD×(LD×T1))) _ (some d) fun e=>
 opt.need _ (p.eqN 0 0)<|
 opt.need _ (p.eqN (p.len a.2.1) (p.len e.2.1))<|
 opt.need _ (p.eqN 0 0)<|
 opt.need _ (p.eqN 1 (p.len [[(D.int .i64 e.2.2.1)]]))<|
 opt.need _ (p.eqN 1 (p.len [[(D.int .i64 e.2.2.1)]]))<|
 opt.bnd ((LD×(LD×Unit))) _ (G60 p (e.2.1,([[(D.int .i64 e.2.2.1)]],((p.ofNat (p.len e.2.1)),())))) fun f=>
 opt.need _ (p.eqN 0 0)<|
 opt.need _ (p.eqN (p.len f.2.1) (p.len f.2.1))<|
 opt.ret _ (f.2.1,(e.1,(a.2.2.1,(a.2.2.2.1,()))))))) fun g=>
 opt.need _ (p.eqN 0 0)<|
 opt.need _ (p.eqN (p.len g.1) (p.len g.1))<|
 opt.ret _ (Sum.inl (g.2.1,(g.1,(g.2.2.1,((p.ar .add .i64 g.2.2.2.1 (1:Int)),())))))) (
 opt.need _ (p.eqN 0 0)<|
 opt.need _ (p.eqN (p.len a.2.1) (p.len a.2.1))<|
 opt.ret _ (Sum.inr (a.2.1,()))))
def g26 (it:It):(p:Prim)→(LD×Unit)→Option ((LD×T1)):=
 fun p x=>
 opt.alt T2 ((LD×T1)) _ (g54 it p (x.1,())) (fun a=>
 opt.ask _ (p.cmp .neq a.1 (0:Int)) (
 opt.ret _ ([],(a.1,()))) (
 opt.no _ 41)) (fun b=>
 opt.bnd ((LD×T1)) _ (some b) fun c=>
 opt.ask _ (p.cmp .neq c.2.1 (0:Int)) (
 opt.ret _ ([],(c.2.1,()))) (
 opt.need _ (p.rowOk c.1 0 [ci])<|
 opt.bnd ((LD×Unit)) _ (
 it _ _ (w5e it p) (c.1,([],((p.rdI c.1 0 0),((0:Int),()))))) fun d=>
 opt.need _ (p.eqN 0 0)<|
 opt.need _ (p.eqN (p.len d.1) (p.len d.1))<|
 opt.ret _ (d.1,((0:Int),()))))
def G26:=g26 it0
theorem ok26:CtrOk PG w8i (G26 std):=okF (a:=an26) (l:=la26) (gC ok60 (gC v05 (gN))) (by kernel_rfl) fun _ _=>by kernel_rfl
end Go.Am
end
section
namespace Go.Am
noncomputable def x7g:Ctr:=
 ⟨15,[.agg [.int .i64, .int .i64, .int .i64, .list 3]],[],[(.ret,⟨[(0, .tuple [.list 1, .int .i64])],[],1⟩)]⟩
noncomputable def x7f:Ctr:=
 ⟨17,[.agg [.int .i64, .int .i64, .int .i64, .list 3]],[],[(.ret,⟨[(0, .tuple [.list 1, .int .i64])],[],1⟩)]⟩
noncomputable def G15:(p:Prim)→(Int×(Int×(Int×(List (List D)×Unit))))→Option (List (List D)×(Int×Unit)):=
 fun p x=>bodyRun opt std (autoEnvD [] Go.Proofs.Try.prog) (w6k opt) 3000 x7g x
noncomputable def G17:(p:Prim)→(Int×(Int×(Int×(List (List D)×Unit))))→Option (List (List D)×(Int×Unit)):=
 fun p x=>bodyRun opt std (autoEnvD [] Go.Proofs.Try.prog) (w6k opt) 3000 x7f x
noncomputable def F15:Prim→Tup (x7g).scs→Option (STup (scss (x7g).outs)):=fun p x=>G15 p x
noncomputable def F17:Prim→Tup (x7f).scs→Option (STup (scss (x7f).outs)):=fun p x=>G17 p x
theorem w0e:z2r Go.Proofs.Try.prog 15:=enters_auto (b:=_) rfl (by kernel_rfl)
theorem w0d:z2r Go.Proofs.Try.prog 17:=enters_auto (b:=_) rfl (by kernel_rfl)
theorem ok15:CtrOk Go.Proofs.Try.prog x7g (F15 std):=ctr_of_body (autoEnvD_ok follows_mixed) x0q w0e fun x=>rfl
theorem ok17:CtrOk Go.Proofs.Try.prog x7f (F17 std):=ctr_of_body (autoEnvD_ok follows_mixed) x0q w0d fun x=>rfl
end Go.Am
end
noncomputable section
namespace Go.Am
def w8f:Ctr:=
 ⟨41,[],[],[(.ret,⟨[(0, .list 1)],[],1⟩)]⟩
def la41:List LA:=
 []
def ja41:List JA:=
 []
def v26:List CF:=
 []
def an41:Anns:=
 ⟨v26,ja41,[]⟩
def G41:(p:Prim)→Unit→Option ((LD×Unit)):=
 fun p x=>
 opt.need _ (p.leN (p.add 0 4) (p.len [[(D.list Bool.true 1 [[k1k]])],[(D.list Bool.true 1 [[k3k],k4k])],[(D.list Bool.true 1 [k0k,k4k])],[(D.list Bool.true 1 [k0k])]]))<|
 opt.ret _ ((p.cut [[(D.list Bool.true 1 [[k1k]])],[(D.list Bool.true 1 [[k3k],k4k])],[(D.list Bool.true 1 [k0k,k4k])],[(D.list Bool.true 1 [k0k])]] 0 4),())
theorem ok41:CtrOk PG w8f (G41 std):=okF (a:=an41) (l:=la41) (gN) (by kernel_rfl) fun _ _=>by kernel_rfl
def w8e:Ctr:=
 ⟨45,[],[],[(.ret,⟨[(0, .agg [.int .i64, .int .i64, .int .i64, .list 3])],[],1⟩)]⟩
def la45:List LA:=
 []
def ja45:List JA:=
 []
def v25:List CF:=
 []
def an45:Anns:=
 ⟨v25,ja45,[]⟩
def G45:(p:Prim)→Unit→Option T24:=
 fun p x=>
 opt.need _ (p.leN (p.add 0 5) (p.len [[k2k,k2k,k1k],[k2k,k1k,k3k],[k2k,k3k,k2k],[k1k,k2k,k1k],[k1k,k1k,k2k]]))<|
 opt.ret _ ((3:Int),((2:Int),((0:Int),((p.cut [[k2k,k2k,k1k],[k2k,k1k,k3k],[k2k,k3k,k2k],[k1k,k2k,k1k],[k1k,k1k,k2k]] 0 5),()))))
theorem ok45:CtrOk PG w8e (G45 std):=okF (a:=an45) (l:=la45) (gN) (by kernel_rfl) fun _ _=>by kernel_rfl
end Go.Am
end
noncomputable section
namespace Go.Am
def w8m:Ctr:=
 ⟨14,[],[],[(.ret,⟨[(0, .bool)],[],1⟩)]⟩
def la14:List LA:=
 []
def ja14:List JA:=
 [⟨14,[false,false,true,true,true,true,true,true,true,true,true,true,true,true],0,[(AX.normal,⟨[(1, .list 1),(3, .list 1),(5, .vec 0 1),(7, .int .i64),(10, .vec 1 1),(12, .list 1),(14, .list 1),(18, .list 1),(115, .bool)],[.row [ci], .row [ci]],168⟩)]⟩,
 ⟨14,[false,true,true,true,true,true,true,true,true,true,true,true,true,true,true],0,[(AX.normal,⟨[(0, .bool)],[],168⟩)]⟩]
def v3n:List CF:=
 [⟨w47,G29⟩,⟨w8j,G25⟩,⟨w8l,G22⟩,⟨w0s,G21⟩,⟨w44,G33⟩,⟨w48,G28⟩,⟨w45,G31⟩,⟨w46,G30⟩,⟨w8g,G37⟩,⟨w8i,G26⟩,⟨w8k,G24⟩,⟨w8h,G36⟩,⟨x7e,G35⟩,⟨w8f,G41⟩,⟨x7f,F17⟩,⟨x7g,F15⟩,⟨w8e,G45⟩]
def an14:Anns:=
 ⟨v3n,ja14,[]⟩
def g14 (it:It):(p:Prim)→Unit→Option T0:=
 fun p x=>
 opt.bnd T24 _ (G45 p ()) fun a=>
 opt.bnd ((LD×T1)) _ (G15 p (a.1,(a.2.1,(a.2.2.1,(a.2.2.2.1,()))))) fun b=>
 opt.bnd T24 _ (G45 p ()) fun c=>
 opt.bnd ((LD×T1)) _ (G17 p (c.1,(c.2.1,(c.2.2.1,(c.2.2.2.1,()))))) fun d=>
 opt.bnd ((LD×Unit)) _ (G41 p ()) fun e=>
 opt.bnd ((LD×T1)) _ (g35 it p (e.1,())) fun f=>
 opt.bnd ((LD×Unit)) _ (G41 p ()) fun g=>
 opt.bnd T8 _ (g36 it p (g.1,())) fun h=>
 opt.bnd ((LD×Unit)) _ (G41 p ()) fun i=>
 opt.bnd T2 _ (g24 it p (i.1,([k0k,[k1k],[k3k],k4k],()))) fun j=>
 opt.bnd ((LD×Unit)) _ (G41 p ()) fun k=>
 opt.bnd ((LD×T1)) _ (g26 it p (k.1,())) fun l=>
 opt.bnd ((LD×Unit)) _ (G41 p ()) fun m=>
 opt.bnd ((LD×T1)) _ (g37 it p (m.1,())) fun n=>
 opt.bnd ((LD×T1)) _ (g30 it p ([[k1k],[k1k],[k1k]],())) fun o=>
 opt.bnd ((LD×T1)) _ (g30 it p ([k0k,k0k,k4k],())) fun q=>
 opt.bnd ((LD×T1)) _ (g31 it p ([k0k,k0k,k4k],())) fun r=>
 opt.bnd T2 _ (g28 it p ([k0k,k0k,k4k],([k0k,[k1k]],()))) fun t=>
 opt.bnd ((LD×(LD×(LD×(LD×T35))))) _ (
 opt.run ((LD×(LD×(LD×(LD×T35))))) (
 opt.ask _ (p.cmp .neq b.2.1 (0:Int)) (
 opt.need _ (p.eqN 0 0)<|
 opt.need _ (p.eqN (p.len f.1) (p.len f.1))<|
 opt.need _ (p.eqN 0 0)<|
 opt.need _ (p.eqN (p.len l.1) (p.len l.1))<|
 opt.ret _ (f.1,(l.1,(b.1,(d.1,(h.1,(n.1,(o.1,(r.1,(Bool.true,())))))))))) (
 opt.ask _ (p.cmp .neq d.2.1 (0:Int)) (
 opt.need _ (p.eqN 0 0)<|
 opt.need _ (p.eqN (p.len f.1) (p.len f.1))<|
 opt.need _ (p.eqN 0 0)<|
 opt.need _ (p.eqN (p.len l.1) (p.len l.1))<|
 opt.ret _ (f.1,(l.1,(b.1,(d.1,(h.1,(n.1,(o.1,(r.1,(Bool.true,())))))))))) (
 opt.ask _ (p.cmp .neq f.2.1 (0:Int)) (
 opt.need _ (p.eqN 0 0)<|
 opt.need _ (p.eqN (p.len f.1) (p.len f.1))<|
 opt.need _ (p.eqN 0 0)<|
 opt.need _ (p.eqN (p.len l.1) (p.len l.1))<|
 opt.ret _ (f.1,(l.1,(b.1,(d.1,(h.1,(n.1,(o.1,(r.1,(Bool.true,())))))))))) (
 opt.ask _ (p.cmp .neq h.2.1 (0:Int)) (
 opt.need _ (p.eqN 0 0)<|
 opt.need _ (p.eqN (p.len f.1) (p.len f.1))<|
 opt.need _ (p.eqN 0 0)<|
 opt.need _ (p.eqN (p.len l.1) (p.len l.1))<|
 opt.ret _ (f.1,(l.1,(b.1,(d.1,(h.1,(n.1,(o.1,(r.1,(Bool.true,())))))))))) (
 opt.ask _ (p.cmp .neq j.1 (0:Int)) (
 opt.need _ (p.eqN 0 0)<|
 opt.need _ (p.eqN (p.len f.1) (p.len f.1))<|
 opt.need _ (p.eqN 0 0)<|
 opt.need _ (p.eqN (p.len l.1) (p.len l.1))<|
 opt.ret _ (f.1,(l.1,(b.1,(d.1,(h.1,(n.1,(o.1,(r.1,(Bool.true,())))))))))) (
 opt.ask _ (p.cmp .neq l.2.1 (0:Int)) (
 opt.need _ (p.eqN 0 0)<|
 opt.need _ (p.eqN (p.len f.1) (p.len f.1))<|
 opt.need _ (p.eqN 0 0)<|
 opt.need _ (p.eqN (p.len l.1) (p.len l.1))<|
 opt.ret _ (f.1,(l.1,(b.1,(d.1,(h.1,(n.1,(o.1,(r.1,(Bool.true,())))))))))) (
 opt.ask _ (p.cmp .neq n.2.1 (0:Int)) (
 opt.need _ (p.eqN 0 0)<|
 opt.need _ (p.eqN (p.len f.1) (p.len f.1))<|
 opt.need _ (p.eqN 0 0)<|
 opt.need _ (p.eqN (p.len l.1) (p.len l.1))<|
 opt.ret _ (f.1,(l.1,(b.1,(d.1,(h.1,(n.1,(o.1,(r.1,(Bool.true,())))))))))) (
 opt.ask _ (p.cmp .neq o.2.1 (0:Int)) (
 opt.need _ (p.eqN 0 0)<|
 opt.need _ (p.eqN (p.len f.1) (p.len f.1))<|
 opt.need _ (p.eqN 0 0)<|
 opt.need _ (p.eqN (p.len l.1) (p.len l.1))<|
 opt.ret _ (f.1,(l.1,(b.1,(d.1,(h.1,(n.1,(o.1,(r.1,(Bool.true,())))))))))) (
 opt.ask _ (p.cmp .neq q.2.1 (13:Int)) (
 opt.need _ (p.eqN 0 0)<|
 opt.need _ (p.eqN (p.len f.1) (p.len f.1))<|
 opt.need _ (p.eqN 0 0)<|
 opt.need _ (p.eqN (p.len l.1) (p.len l.1))<|
 opt.ret _ (f.1,(l.1,(b.1,(d.1,(h.1,(n.1,(o.1,(r.1,(Bool.true,())))))))))) (
 opt.ask _ (p.cmp .neq r.2.1 (0:Int)) (
 opt.need _ (p.eqN 0 0)<|
 opt.need _ (p.eqN (p.len f.1) (p.len f.1))<|
 opt.need _ (p.eqN 0 0)<|
 opt.need _ (p.eqN (p.len l.1) (p.len l.1))<|
 opt.ret _ (f.1,(l.1,(b.1,(d.1,(h.1,(n.1,(o.1,(r.1,(Bool.true,())))))))))) (
 opt.need _ (p.eqN 0 0)<|
 opt.need _ (p.eqN (p.len f.1) (p.len f.1))<|
 opt.need _ (p.eqN 0 0)<|
 opt.need _ (p.eqN (p.len l.1) (p.len l.1))<|
 opt.ret _ (f.1,(l.1,(b.1,(d.1,(h.1,(n.1,(o.1,(r.1,((p.cmp .neq t.1 (0:Int)),()))))))))))))))))))))) fun u=>
 opt.ask _ u.2.2.2.2.2.2.2.2.1 (
 opt.ret _ (Bool.false,())) (
 opt.bnd ((LD×T1)) _ (g33 it p (u.2.2.2.2.2.2.1,())) fun v=>
 opt.bnd T0 _ (
 opt.run T0 (
 opt.ask _ (p.cmp .eql v.2.1 (0:Int)) (
 opt.need _ (p.and (p.leN (p.add 0 (p.len v.1)) (p.len v.1)) (p.and Bool.true Bool.true))<|
 opt.bnd T0 _ (g21 it p ((p.cut v.1 0 (p.len v.1)),([[k1k],[k1k],[k1k]],()))) fun w=>
 opt.ask _ w.1 (
 opt.bnd T0 _ (g21 it p (u.2.2.1,([k0k,[k1k]],()))) fun z=>
 opt.ask _ z.1 (
 opt.bnd T0 _ (g22 it p (u.2.2.2.1,([[(D.list Bool.true 1 [[k1k]])],[(D.list Bool.true 1 [[k3k]])],[(D.list Bool.true 1 [k0k])]],()))) fun a1=>
 opt.ask _ a1.1 (
 opt.need _ (p.and (p.leN (p.add 0 (p.len u.1)) (p.len u.1)) (p.and Bool.true Bool.true))<|
 opt.bnd T0 _ (g21 it p ((p.cut u.1 0 (p.len u.1)),([[k1k],[k3k],[k3k],[k1k]],()))) fun b1=>
 opt.ask _ b1.1 (
 opt.ask _ (p.cmp .eql u.2.2.2.2.1 (2:Int)) (
 opt.bnd ((LD×Unit)) _ (G41 p ()) fun c1=>
 opt.need _ (p.and Bool.true (p.and (p.leN (p.add 0 (p.len u.2.1)) (p.len u.2.1)) Bool.true))<|
 opt.bnd T2 _ (g25 it p (c1.1,((p.cut u.2.1 0 (p.len u.2.1)),()))) fun d1=>
 opt.ask _ (p.cmp .eql d1.1 (0:Int)) (
 opt.bnd T0 _ (g22 it p (u.2.2.2.2.2.1,([[(D.list Bool.true 1 [k0k,[k1k],[k3k],k4k])]],()))) fun e1=>
 opt.ask _ e1.1 (
 opt.bnd T2 _ (g29 it p ([k0k,k0k,k4k],(u.2.2.2.2.2.2.2.1,()))) fun f1=>
 opt.ret _ ((p.cmp .eql f1.1 (0:Int)),())) (
 opt.ret _ (Bool.false,()))) (
 opt.ret _ (Bool.false,()))) (
 opt.ret _ (Bool.false,()))) (
 opt.ret _ (Bool.false,()))) (
 opt.ret _ (Bool.false,()))) (
 opt.ret _ (Bool.false,()))) (
 opt.ret _ (Bool.false,()))) (
 opt.ret _ (Bool.false,())))) fun g1=>
 opt.ret _ (g1.1,()))
def G14:=g14 it0
theorem ok14:CtrOk PG w8m (G14 std):=okF (a:=an14) (l:=la14) (gC v5a (gC ok25 (gC ok22 (gC v06 (gC v47 (gC v5b (gC v48 (gC v49 (gC ok37 (gC ok26 (gC ok24 (gC ok36 (gC w9x (gC ok41 (gC ok17 (gC ok15 (gC ok45 (gN)))))))))))))))))) (by kernel_rfl) fun _ _=>by kernel_rfl
end Go.Am
end
section
namespace Go.Am
theorem w92 {i j:It} (h:i.Le j):∀ s,le (g21 i std s) (g21 j std s):=fun _=>z00 (le_refl _) (z2l (h _ _ _ _ _ (fun _=>le_refl _)) (fun _=>le_refl _) (fun _=>le_refl _))
theorem w65 {i j:It} (h:i.Le j):∀ s,le (w5h i std s) (w5h j std s):=fun _=>z2a (z00 (z0a (z0a (z0a (z0a (z0f (w92 h _) (fun _=>le_refl _)))))) (le_refl _))
theorem v5j {i j:It} (h:i.Le j):∀ s,le (g22 i std s) (g22 j std s):=fun _=>z00 (le_refl _) (z2l (h _ _ _ _ _ (w65 h)) (fun _=>le_refl _) (fun _=>le_refl _))
theorem v5h {i j:It} (h:i.Le j):∀ s,le (g38 i std s) (g38 j std s):=fun _=>z2l (h _ _ _ _ _ (fun _=>le_refl _)) (fun _=>le_refl _) (fun _=>le_refl _)
theorem w90 {i j:It} (h:i.Le j):∀ s,le (g40 i std s) (g40 j std s):=fun _=>z2l (h _ _ _ _ _ (fun _=>le_refl _)) (fun _=>le_refl _) (fun _=>le_refl _)
theorem w6z {i j:It} (h:i.Le j):∀ s,le (y9p i std s) (y9p j std s):=fun _=>z2a (z00 (z0f (w90 h _) (fun _=>z0f (w90 h _) (fun _=>le_refl _))) (le_refl _))
theorem w60 {i j:It} (h:i.Le j):∀ s,le (y4w i std s) (y4w j std s):=fun _=>z2a (z00 (z2l (z2a (z0f (w90 h _) (fun _=>z00 (le_refl _) (z2l (h _ _ _ _ _ (w6z h)) (fun _=>le_refl _) (fun _=>le_refl _))))) (fun _=>le_refl _) (fun _=>le_refl _)) (le_refl _))
theorem w61 {i j:It} (h:i.Le j):∀ s,le (y7n i std s) (y7n j std s):=fun _=>z2a (z00 (z0a (z0a (z0f (v5h h _) (fun _=>le_refl _)))) (le_refl _))
theorem w91 {i j:It} (h:i.Le j):∀ s,le (g27 i std s) (g27 j std s):=fun _=>z0f (le_refl _) (fun _=>z00 (le_refl _) (z2l (h _ _ _ _ _ (w61 h)) (fun _=>le_refl _) (fun _=>z0f (le_refl _) (fun _=>z2l (h _ _ _ _ _ (w60 h)) (fun _=>le_refl _) (fun _=>le_refl _)))))
theorem mg33 {i j:It} (h:i.Le j):∀ s,le (g33 i std s) (g33 j std s):=fun _=>z0f (w91 h _) (fun _=>z00 (z0f (w91 h _) (fun _=>le_refl _)) (z0f (h _ _ _ _ _ (fun _=>le_refl _)) (fun _=>le_refl _)))
theorem w63 {i j:It} (h:i.Le j):∀ s,le (w5f i std s) (w5f j std s):=fun _=>z2a (z00 (z0a (z0a (z0a (z0a (z0f (w90 h _) (fun _=>le_refl _)))))) (le_refl _))
theorem w64 {i j:It} (h:i.Le j):∀ s,le (w5g i std s) (w5g j std s):=fun _=>z2a (z00 (z2l (z2a (z0f (le_refl _) (fun _=>z00 (le_refl _) (z2l (h _ _ _ _ _ (fun _=>le_refl _)) (fun _=>le_refl _) (fun _=>le_refl _))))) (fun _=>le_refl _) (fun _=>le_refl _)) (le_refl _))
theorem mg25 {i j:It} (h:i.Le j):∀ s,le (g25 i std s) (g25 j std s):=fun _=>z0f (w91 h _) (fun _=>z00 (z0f (w91 h _) (fun _=>le_refl _)) (z00 (le_refl _) (z2l (h _ _ _ _ _ (w64 h)) (fun _=>le_refl _) (fun _=>z0f (le_refl _) (fun _=>z2l (h _ _ _ _ _ (w63 h)) (fun _=>le_refl _) (fun _=>le_refl _))))))
theorem v5g {i j:It} (h:i.Le j):∀ s,le (g62 i std s) (g62 j std s):=fun _=>z0f (le_refl _) (fun _=>z00 (le_refl _) (z2l (h _ _ _ _ _ (fun _=>le_refl _)) (fun _=>le_refl _) (fun _=>le_refl _)))
theorem mg63 {i j:It} (h:i.Le j):∀ s,le (g63 i std s) (g63 j std s):=fun _=>z0f (h _ _ _ _ _ (fun _=>le_refl _)) (fun _=>le_refl _)
theorem mg29 {i j:It} (h:i.Le j):∀ s,le (g29 i std s) (g29 j std s):=fun _=>z0f (v5g h _) (fun _=>z00 (z0f (v5g h _) (fun _=>le_refl _)) (z0f (v5h h _) (fun _=>z00 (le_refl _) (z0f (mg63 h _) (fun _=>le_refl _)))))
theorem mg52 {i j:It} (h:i.Le j):∀ s,le (g52 i std s) (g52 j std s):=fun _=>z2l (h _ _ _ _ _ (fun _=>le_refl _)) (fun _=>le_refl _) (fun _=>le_refl _)
theorem w9z {i j:It} (h:i.Le j):∀ s,le (g56 i std s) (g56 j std s):=fun _=>z2l (h _ _ _ _ _ (fun _=>le_refl _)) (fun _=>le_refl _) (fun _=>le_refl _)
theorem mg70 {i j:It} (h:i.Le j):∀ s,le (g70 i std s) (g70 j std s):=fun _=>z0f (h _ _ _ _ _ (fun _=>le_refl _)) (fun _=>le_refl _)
theorem v1n {i j:It} (h:i.Le j):∀ s,le (g61 i std s) (g61 j std s):=fun _=>z0f (le_refl _) (fun _=>z2l (z2a (z00 (le_refl _) (z0f (mg52 h _) (fun _=>le_refl _)))) (fun _=>le_refl _) (fun _=>le_refl _))
theorem w6t {i j:It} (h:i.Le j):∀ s,le (y7l i std s) (y7l j std s):=fun _=>z2a (z00 (z2l (h _ _ _ _ _ (fun _=>le_refl _)) (fun _=>le_refl _) (fun _=>le_refl _)) (le_refl _))
theorem w6u {i j:It} (h:i.Le j):∀ s,le (y7m i std s) (y7m j std s):=fun _=>z2a (z00 (z0a (z0a (z0f (w9z h _) (fun _=>z00 (le_refl _) (z0f (h _ _ _ _ _ (fun _=>le_refl _)) (fun _=>le_refl _)))))) (le_refl _))
theorem v1p {i j:It} (h:i.Le j):∀ s,le (g54 i std s) (g54 j std s):=fun _=>z0f (le_refl _) (fun _=>z00 (le_refl _) (z2l (h _ _ _ _ _ (w6u h)) (fun _=>le_refl _) (fun _=>z0f (le_refl _) (fun _=>z2l (h _ _ _ _ _ (fun _=>le_refl _)) (fun _=>le_refl _) (fun _=>z0f (le_refl _) (fun _=>z0a (z2l (h _ _ _ _ _ (w6t h)) (fun _=>le_refl _) (fun _=>le_refl _))))))))
theorem w6x {i j:It} (h:i.Le j):∀ s,le (x1b i std s) (x1b j std s):=fun _=>z2a (z00 (z0a (z0a (z0a (z0f (mg70 h _) (fun _=>le_refl _))))) (le_refl _))
theorem v1q {i j:It} (h:i.Le j):∀ s,le (g35 i std s) (g35 j std s):=fun _=>z2l (v1p h _) (fun _=>le_refl _) (fun _=>z0f (le_refl _) (fun _=>z00 (le_refl _) (z0a (z0a (z0a (z0a (z0a (z0f (h _ _ _ _ _ (w6x h)) (fun _=>le_refl _)))))))))
theorem mg36 {i j:It} (h:i.Le j):∀ s,le (g36 i std s) (g36 j std s):=fun _=>z0f (v1q h _) (fun _=>z00 (le_refl _) (z0a (z0a (z0a (z0f (h _ _ _ _ _ (fun _=>le_refl _)) (fun _=>le_refl _))))))
theorem w3r {i j:It} (h:i.Le j):∀ s,le (x7s i std s) (x7s j std s):=fun _=>z2a (z00 (z0a (z0a (z0a (z0f (h _ _ _ _ _ (fun _=>le_refl _)) (fun _=>le_refl _))))) (le_refl _))
theorem v1i {i j:It} (h:i.Le j):∀ s,le (w94 i std s) (w94 j std s):=fun _=>z0a (z0a (z0a (z0f (h _ _ _ _ _ (w3r h)) (fun _=>le_refl _))))
theorem w3v {i j:It} (h:i.Le j):∀ s,le (x7v i std s) (x7v j std s):=fun _=>z2a (z00 (z0a (z0a (z0a (z0f (v1i h _) (fun _=>le_refl _))))) (le_refl _))
theorem v1l {i j:It} (h:i.Le j):∀ s,le (w95 i std s) (w95 j std s):=fun _=>z0a (z0a (z0a (z0f (h _ _ _ _ _ (w3v h)) (fun _=>le_refl _))))
theorem w6p {i j:It} (h:i.Le j):∀ s,le (w7r i std s) (w7r j std s):=fun _=>z0f (le_refl _) (fun _=>z0a (z0a (z0a (z0f (v1l h _) (fun _=>le_refl _)))))
theorem w3q {i j:It} (h:i.Le j):∀ s,le (z7v i std s) (z7v j std s):=fun _=>z2a (z00 (z0a (z0a (z0f (h _ _ _ _ _ (fun _=>le_refl _)) (fun _=>le_refl _)))) (le_refl _))
theorem v1h {i j:It} (h:i.Le j):∀ s,le (w4i i std s) (w4i j std s):=fun _=>z0a (z0a (z0f (h _ _ _ _ _ (w3q h)) (fun _=>le_refl _)))
theorem w3u {i j:It} (h:i.Le j):∀ s,le (y9n i std s) (y9n j std s):=fun _=>z2a (z00 (z0a (z0a (z0f (v1h h _) (fun _=>le_refl _)))) (le_refl _))
theorem v1k {i j:It} (h:i.Le j):∀ s,le (w7p i std s) (w7p j std s):=fun _=>z0a (z0a (z0f (h _ _ _ _ _ (w3u h)) (fun _=>le_refl _)))
theorem v1o {i j:It} (h:i.Le j):∀ s,le (w52 i std s) (w52 j std s):=fun _=>z0f (le_refl _) (fun _=>z0a (z0a (z0f (v1k h _) (fun _=>le_refl _))))
theorem w3w {i j:It} (h:i.Le j):∀ s,le (z7w i std s) (z7w j std s):=fun _=>z2a (z00 (z0a (z0a (z0f (h _ _ _ _ _ (fun _=>le_refl _)) (fun _=>le_refl _)))) (le_refl _))
theorem w6q {i j:It} (h:i.Le j):∀ s,le (w13 i std s) (w13 j std s):=fun _=>z0a (z0a (z0f (h _ _ _ _ _ (w3w h)) (fun _=>le_refl _)))
theorem w6r {i j:It} (h:i.Le j):∀ s,le (x7t i std s) (x7t j std s):=fun _=>z2a (z00 (z0a (z0a (z0f (h _ _ _ _ _ (fun _=>le_refl _)) (fun _=>le_refl _)))) (le_refl _))
theorem w6s {i j:It} (h:i.Le j):∀ s,le (x7u i std s) (x7u j std s):=fun _=>z2a (z00 (z0a (z0a (z0f (w6q h _) (fun _=>le_refl _)))) (le_refl _))
theorem mg86 {i j:It} (h:i.Le j):∀ s,le (g86 i std s) (g86 j std s):=fun _=>z0a (z0a (z0f (h _ _ _ _ _ (w6s h)) (fun _=>z0a (z0a (z0f (w6q h _) (fun _=>z0a (z0a (z0f (h _ _ _ _ _ (w6r h)) (fun _=>le_refl _)))))))))
theorem mg66 {i j:It} (h:i.Le j):∀ s,le (g66 i std s) (g66 j std s):=fun _=>z0a (z0a (z0f (mg86 h _) (fun _=>le_refl _)))
theorem v5e {i j:It} (h:i.Le j):∀ s,le (g71 i std s) (g71 j std s):=fun _=>z0f (h _ _ _ _ _ (fun _=>le_refl _)) (fun _=>z0a (z0a (z0f (mg66 h _) (fun _=>le_refl _))))
theorem x9i {i j:It} (h:i.Le j):∀ s,le (z5a i std s) (z5a j std s):=fun _=>z2a (z00 (z0f (h _ _ _ _ _ (fun _=>le_refl _)) (fun _=>le_refl _)) (le_refl _))
theorem w1x {i j:It} (h:i.Le j):∀ s,le (y84 i std s) (y84 j std s):=fun _=>z0f (h _ _ _ _ _ (x9i h)) (fun _=>le_refl _)
theorem w3s {i j:It} (h:i.Le j):∀ s,le (y9l i std s) (y9l j std s):=fun _=>z2a (z00 (z0f (h _ _ _ _ _ (fun _=>le_refl _)) (fun _=>le_refl _)) (le_refl _))
theorem w3t {i j:It} (h:i.Le j):∀ s,le (y9m i std s) (y9m j std s):=fun _=>z2a (z00 (z0f (w1x h _) (fun _=>le_refl _)) (le_refl _))
theorem v1j {i j:It} (h:i.Le j):∀ s,le (w7o i std s) (w7o j std s):=fun _=>z0f (h _ _ _ _ _ (w3t h)) (fun _=>z0f (w1x h _) (fun _=>z0f (h _ _ _ _ _ (w3s h)) (fun _=>le_refl _)))
theorem v1m {i j:It} (h:i.Le j):∀ s,le (w51 i std s) (w51 j std s):=fun _=>z0f (v1j h _) (fun _=>le_refl _)
theorem mg24 {i j:It} (h:i.Le j):∀ s,le (g24 i std s) (g24 j std s):=fun _=>z2l (v1p h _) (fun _=>z2l (le_refl _) (fun _=>le_refl _) (fun _=>z0f (le_refl _) (fun _=>z0a (z0a (z0a (z0a (z0a (z0f (w6p h _) (fun _=>z0a (z0a (z0f (w9z h _) (fun _=>z00 (le_refl _) (z2l (h _ _ _ _ _ (fun _=>le_refl _)) (fun _=>le_refl _) (fun _=>le_refl _)))))))))))))) (fun _=>z0f (le_refl _) (fun _=>z2l (le_refl _) (fun _=>le_refl _) (fun _=>z0f (le_refl _) (fun _=>z0a (z0a (z0a (z0a (z0a (z0f (w6p h _) (fun _=>z0a (z0a (z0f (w9z h _) (fun _=>z00 (le_refl _) (z2l (h _ _ _ _ _ (fun _=>le_refl _)) (fun _=>le_refl _) (fun _=>le_refl _)))))))))))))))
theorem v5d {i j:It} (h:i.Le j):∀ s,le (g73 i std s) (g73 j std s):=fun _=>z0f (h _ _ _ _ _ (fun _=>le_refl _)) (fun _=>z0a (z0a (z0f (v1o h _) (fun _=>le_refl _))))
theorem w62 {i j:It} (h:i.Le j):∀ s,le (w5e i std s) (w5e j std s):=fun _=>z2a (z00 (z0f (z2a (z0a (z0a (z0a (z0a (z2l (h _ _ _ _ _ (fun _=>le_refl _)) (fun _=>le_refl _) (fun _=>le_refl _))))))) (fun _=>le_refl _)) (le_refl _))
theorem mg26 {i j:It} (h:i.Le j):∀ s,le (g26 i std s) (g26 j std s):=fun _=>z2l (v1p h _) (fun _=>le_refl _) (fun _=>z0f (le_refl _) (fun _=>z00 (le_refl _) (z0a (z0f (h _ _ _ _ _ (w62 h)) (fun _=>le_refl _)))))
theorem mg72 {i j:It} (h:i.Le j):∀ s,le (g72 i std s) (g72 j std s):=fun _=>z0a (z0a (z0f (h _ _ _ _ _ (fun _=>le_refl _)) (fun _=>le_refl _)))
theorem w6w {i j:It} (h:i.Le j):∀ s,le (w5d i std s) (w5d j std s):=fun _=>z2a (z00 (z0a (z0a (z0a (z0a (z0a (z0f (z2a (z00 (z0a (z0f (v5d h _) (fun _=>le_refl _))) (le_refl _))) (fun _=>le_refl _))))))) (le_refl _))
theorem mg37 {i j:It} (h:i.Le j):∀ s,le (g37 i std s) (g37 j std s):=fun _=>z0f (v1q h _) (fun _=>z00 (le_refl _) (z0a (z0f (v5e h _) (fun _=>z0a (z0a (z0a (z0f (mg72 h _) (fun _=>z0a (z0a (z0a (z0a (z0a (z0a (z0f (h _ _ _ _ _ (w6w h)) (fun _=>le_refl _)))))))))))))))
theorem v5f {i j:It} (h:i.Le j):∀ s,le (g64 i std s) (g64 j std s):=fun _=>z0f (v5e h _) (fun _=>z0a (z0a (z0a (z0a (z0f (h _ _ _ _ _ (fun _=>le_refl _)) (fun _=>z00 (le_refl _) (z0a (z0f (v5d h _) (fun _=>le_refl _)))))))))
theorem mg31 {i j:It} (h:i.Le j):∀ s,le (g31 i std s) (g31 j std s):=fun _=>z0f (v1n h _) (fun _=>z00 (le_refl _) (z0f (v5f h _) (fun _=>le_refl _)))
theorem mg28 {i j:It} (h:i.Le j):∀ s,le (g28 i std s) (g28 j std s):=fun _=>z0f (v1n h _) (fun _=>z00 (le_refl _) (z0f (w9z h _) (fun _=>z00 (le_refl _) (z0f (h _ _ _ _ _ (fun _=>le_refl _)) (fun _=>le_refl _)))))
theorem w6v {i j:It} (h:i.Le j):∀ s,le (z7y i std s) (z7y j std s):=fun _=>z2a (z00 (z0f (z2a (z0a (z0a (z0a (z0a (z0a (z0a (z0a (z0a (z0a (z0a (z0a (z00 (le_refl _) (z0a (z0a (z0a (z0a (z0f (h _ _ _ _ _ (fun _=>le_refl _)) (fun _=>le_refl _))))))))))))))))))) (fun _=>le_refl _)) (le_refl _))
theorem mg49 {i j:It} (h:i.Le j):∀ s,le (g49 i std s) (g49 j std s):=fun _=>z0a (z0a (z0a (z0a (z0a (z0f (h _ _ _ _ _ (w6v h)) (fun _=>le_refl _))))))
theorem w6y {i j:It} (h:i.Le j):∀ s,le (y9o i std s) (y9o j std s):=fun _=>z2a (z00 (z0a (z0a (z0a (z0f (v1m h _) (fun _=>z0f (h _ _ _ _ _ (fun _=>le_refl _)) (fun _=>le_refl _)))))) (le_refl _))
theorem v5i {i j:It} (h:i.Le j):∀ s,le (g30 i std s) (g30 j std s):=fun _=>z0f (v1n h _) (fun _=>z00 (le_refl _) (z0f (v5f h _) (fun _=>z00 (le_refl _) (z0a (z0a (z0f (le_refl _) (fun _=>z0f (h _ _ _ _ _ (fun _=>le_refl _)) (fun _=>z0f (h _ _ _ _ _ (w6y h)) (fun _=>z0f (mg49 h _) (fun _=>le_refl _))))))))))
theorem mg14 {i j:It} (h:i.Le j):∀ s,le (g14 i std s) (g14 j std s):=fun _=>z0f (le_refl _) (fun _=>z0f (le_refl _) (fun _=>z0f (le_refl _) (fun _=>z0f (le_refl _) (fun _=>z0f (le_refl _) (fun _=>z0f (v1q h _) (fun _=>z0f (le_refl _) (fun _=>z0f (mg36 h _) (fun _=>z0f (le_refl _) (fun _=>z0f (mg24 h _) (fun _=>z0f (le_refl _) (fun _=>z0f (mg26 h _) (fun _=>z0f (le_refl _) (fun _=>z0f (mg37 h _) (fun _=>z0f (v5i h _) (fun _=>z0f (v5i h _) (fun _=>z0f (mg31 h _) (fun _=>z0f (mg28 h _) (fun _=>z0f (le_refl _) (fun _=>z00 (le_refl _) (z0f (mg33 h _) (fun _=>z0f (z2a (z00 (z0a (z0f (w92 h _) (fun _=>z00 (z0f (w92 h _) (fun _=>z00 (z0f (v5j h _) (fun _=>z00 (z0a (z0f (w92 h _) (fun _=>z00 (z00 (z0f (le_refl _) (fun _=>z0a (z0f (mg25 h _) (fun _=>z00 (z0f (v5j h _) (fun _=>z00 (z0f (mg29 h _) (fun _=>le_refl _)) (le_refl _))) (le_refl _))))) (le_refl _)) (le_refl _)))) (le_refl _))) (le_refl _))) (le_refl _)))) (le_refl _))) (fun _=>le_refl _))))))))))))))))))))))
end Go.Am
end
section
namespace Go.Am
theorem w7s:g14 (itN 400) std ()=some (true,()):=by kernel_rfl
theorem w9n:G14 std ()=some (true,()):=mg14 (w7b 400) () _ w7s
end Go.Am
end
noncomputable section
namespace Go.Am
def g4 (it:It):(p:Prim)→(LD×(LD×Unit))→Option T0:=
 fun p x=>
 opt.bnd ((LD×(LD×T6))) _ (
 opt.run ((LD×(LD×T6))) (
 opt.bnd T0 _ (g23 it p (x.1,())) fun a=>
 opt.ask _ a.1 (
 opt.ret _ (x.1,(x.2.1,(Bool.true,())))) (
 opt.ask _ (p.cmp .gtr (p.ofNat (p.len x.2.1)) (14:Int)) (
 opt.ret _ (x.1,(x.2.1,(Bool.true,())))) (
 opt.bnd T2 _ (g24 it p (x.1,(x.2.1,()))) fun b=>
 opt.bnd T2 _ (g25 it p (x.1,(x.2.1,()))) fun c=>
 opt.ret _ (x.1,(x.2.1,((p.cmp .neq b.1 c.1),()))))))) fun d=>
 opt.ask _ d.2.2.1 (
 opt.bnd T0 _ (
 opt.run T0 (
 opt.bnd T0 _ (g23 it p (d.1,())) fun e=>
 opt.ask _ e.1 (
 opt.bnd T0 _ (g14 it p ()) fun f=>
 opt.ret _ (f.1,())) (
 opt.ask _ (p.cmp .gtr (p.ofNat (p.len d.2.1)) (14:Int)) (
 opt.bnd T0 _ (g14 it p ()) fun g=>
 opt.ret _ (g.1,())) (
 opt.ret _ (Bool.false,()))))) fun h=>
 opt.ret _ (h.1,())) (
 opt.bnd ((LD×T1)) _ (g26 it p (d.1,())) fun i=>
 opt.bnd T2 _ (g27 it p (d.1,())) fun j=>
 opt.ask _ (p.cmp .neq j.1 (0:Int)) (
 opt.bnd T0 _ (
 opt.run T0 (
 opt.bnd T2 _ (g27 it p (d.1,())) fun k=>
 opt.ask _ (p.cmp .eql i.2.1 k.1) (
 opt.ask _ (p.cmp .eql (p.ofNat (p.len i.1)) (0:Int)) (
 opt.bnd T0 _ (g14 it p ()) fun l=>
 opt.ret _ (l.1,())) (
 opt.ret _ (Bool.false,()))) (
 opt.ret _ (Bool.false,())))) fun m=>
 opt.ret _ (m.1,())) (
 opt.bnd T0 _ (
 opt.run T0 (
 opt.ask _ (p.cmp .eql i.2.1 (0:Int)) (
 opt.need _ (p.and Bool.true (p.and (p.leN (p.add 0 (p.len i.1)) (p.len i.1)) Bool.true))<|
 opt.bnd T2 _ (g25 it p (d.1,((p.cut i.1 0 (p.len i.1)),()))) fun n=>
 opt.ask _ (p.cmp .eql n.1 (0:Int)) (
 opt.bnd T0 _ (g14 it p ()) fun o=>
 opt.ret _ (o.1,())) (
 opt.ret _ (Bool.false,()))) (
 opt.ret _ (Bool.false,())))) fun q=>
 opt.ret _ (q.1,())))
def g5 (it:It):(p:Prim)→(LD×(LD×Unit))→Option T0:=
 fun p x=>
 opt.bnd ((LD×(LD×T6))) _ (
 opt.run ((LD×(LD×T6))) (
 opt.ask _ (p.cmp .gtr (p.ofNat (p.len x.1)) (14:Int)) (
 opt.ret _ (x.1,(x.2.1,(Bool.true,())))) (
 opt.ret _ (x.1,(x.2.1,((p.cmp .gtr (p.ofNat (p.len x.2.1)) (14:Int)),())))))) fun a=>
 opt.ask _ a.2.2.1 (
 opt.bnd T0 _ (g14 it p ()) fun b=>
 opt.ret _ (b.1,())) (
 opt.bnd T2 _ (g28 it p (a.1,(a.2.1,()))) fun c=>
 opt.bnd T2 _ (g29 it p (a.1,(a.2.1,()))) fun d=>
 opt.ask _ (p.cmp .neq c.1 d.1) (
 opt.ret _ (Bool.false,())) (
 opt.bnd ((LD×T1)) _ (g30 it p (a.1,())) fun e=>
 opt.bnd ((LD×T1)) _ (g31 it p (a.1,())) fun f=>
 opt.bnd T2 _ (g32 it p (a.1,())) fun g=>
 opt.ask _ (p.cmp .neq e.2.1 g.1) (
 opt.ret _ (Bool.false,())) (
 opt.ask _ (p.cmp .eql g.1 (0:Int)) (
 opt.bnd ((LD×T1)) _ (g33 it p (e.1,())) fun h=>
 opt.bnd T0 _ (
 opt.run T0 (
 opt.ask _ (p.cmp .eql h.2.1 (0:Int)) (
 opt.need _ (p.and (p.leN (p.add 0 (p.len h.1)) (p.len h.1)) (p.and Bool.true Bool.true))<|
 opt.bnd T0 _ (g21 it p ((p.cut h.1 0 (p.len h.1)),(a.1,()))) fun i=>
 opt.ask _ i.1 (
 opt.ask _ (p.cmp .eql f.2.1 (5:Int)) (
 opt.ask _ (p.cmp .eql (p.ofNat (p.len f.1)) (0:Int)) (
 opt.bnd T0 _ (g14 it p ()) fun j=>
 opt.ret _ (j.1,())) (
 opt.ret _ (Bool.false,()))) (
 opt.ret _ (Bool.false,()))) (
 opt.ret _ (Bool.false,()))) (
 opt.ret _ (Bool.false,())))) fun k=>
 opt.ret _ (k.1,())) (
 opt.ask _ (p.cmp .eql g.1 (13:Int)) (
 opt.bnd T0 _ (
 opt.run T0 (
 opt.ask _ (p.cmp .eql (p.ofNat (p.len e.1)) (0:Int)) (
 opt.ask _ (p.cmp .eql f.2.1 (0:Int)) (
 opt.bnd T2 _ (g29 it p (a.1,(f.1,()))) fun l=>
 opt.ask _ (p.cmp .eql l.1 (0:Int)) (
 opt.bnd T0 _ (g14 it p ()) fun m=>
 opt.ret _ (m.1,())) (
 opt.ret _ (Bool.false,()))) (
 opt.ret _ (Bool.false,()))) (
 opt.ret _ (Bool.false,())))) fun n=>
 opt.ret _ (n.1,())) (
 opt.bnd T0 _ (
 opt.run T0 (
 opt.ask _ (p.cmp .eql (p.ofNat (p.len e.1)) (0:Int)) (
 opt.ask _ (p.cmp .eql f.2.1 g.1) (
 opt.ask _ (p.cmp .eql (p.ofNat (p.len f.1)) (0:Int)) (
 opt.bnd T0 _ (g14 it p ()) fun o=>
 opt.ret _ (o.1,())) (
 opt.ret _ (Bool.false,()))) (
 opt.ret _ (Bool.false,()))) (
 opt.ret _ (Bool.false,())))) fun q=>
 opt.ret _ (q.1,()))))))
end Go.Am
end
section
namespace Go.Am
open T11
theorem w5u (w:List Int) (h:z1a w=0) (hL:¬ Lan w):G30 std (z0d w,())=some ([],(13,())):=by
 have h61:g61 it0 std (z0d w,())=_:=y39 w
 obtain ⟨k,h1,h2,h3⟩:=x8f w h hL
 have h64:g64 it0 std (z0d w,())=_:=h3
 unfold G30
 simp only [g30,z0x,z0y,eq_self,not_true,not_false_eq_true,decide_true,decide_false,Bool.not_true,Bool.not_false,Int.reduceLT,Int.reduceNeg,Int.reduceGT,cond_true,cond_false,Int.reduceEq,Int.reduceLE,Int.reduceGE,h61,h,h64,ne_eq]
theorem w5v (w:List Int) (h:z1a w≠0):G30 std (z0d w,())=some ([],(z1a w,())):=by
 have h61:g61 it0 std (z0d w,())=_:=y39 w
 unfold G30
 simp only [g30,z0x,z0y,eq_self,not_true,not_false_eq_true,decide_true,decide_false,Bool.not_true,Bool.not_false,Int.reduceLT,Int.reduceNeg,Int.reduceGT,cond_true,cond_false,Int.reduceEq,Int.reduceLE,Int.reduceGE,h61,h,ne_eq]
theorem y31 {d:List (List Int)} (h:z1c d=0):∀ l∈d,l.length≤1000000:=fun l hl=>by
 obtain ⟨i,hi⟩:=List.getElem?_of_mem hl
 have hlt:=(List.getElem?_eq_some_iff.1 hi).1
 have hr:=y2l h i hlt
 rw [z1v hi] at hr
 have:=x0l hr
 have:=z6a h
 omega
theorem x59 {w:List Int} (h:z1a w≠0):z1a w=6∨z1a w=3:=by
 unfold z1a at h⊢
 split
 ·exact .inl rfl
 ·split
  ·rename_i h1 h2
   rw [if_neg h1,if_pos h2] at h
   exact absurd rfl h
  ·exact .inr rfl
end Go.Am
end
section
namespace Go.Am
noncomputable abbrev P34:Program:=Go.Proofs.Try.prog
noncomputable def E34:Env:=autoEnvD [] P34
theorem v5m:y2a P34 E34:=autoEnvD_ok follows_mixed
theorem v5l:z90 P34 E34.T:=v5m.ti
def ti30:TI:=⟨1,24,false,[.list true 0 []], .slc 26 1 24 false [.list true 0 []],none⟩
def w5w:TI:=⟨1,24,false,[.list true 0 []], .slc 3 1 8 false [.int .i64 0],none⟩
theorem w58:E34.T 30=some ti30:=by kernel_rfl
theorem y72:E34.T 26=some w5w:=by kernel_rfl
noncomputable def z6n (pos:List Bool):Code:=(z1w P34 34 pos).getD .skip
noncomputable def y1b (pos:List Bool):Array Oper:=
 match z6n pos with
 | .region _ ops _=>ops
 |_=>#[]
def pA:List Bool:=[false,true,true,true,true]
def pL:List Bool:=false::true::pA
def pLB:List Bool:=false::pL
def pM:List Bool:=[false,true,false,false,true]++pLB
def pLK:List Bool:=false::pM
def pX:List Bool:=[false,false,true]++pLK
def p11:List Bool:=[false,true,false]++pX
def p12:List Bool:=[true,true,false]++pX
def mkE (b at_ i k:Int) (N:Nat):List (Nat×AV):=[(1, .d (.int .u64 b)),(5, .d (.int .i64 N)),(6, .slice 0 1 0 N (some N)),(7, .d (.int .i64 at_)),(8, .d (.int .i64 i)),(9, .d (.int .i64 k))]
theorem z7o {b at_ i k:Int} {N:Nat} {env:List (Nat×AV)} (h:∃ r,env=mkE b at_ i k N++r):w1s (mkE b at_ i k N) env:=by
 obtain ⟨r,rfl⟩:=h
 intro t
 unfold mkE
 simp only [List.cons_append,List.nil_append,z1h]
 cases Nat.beq 1 t<;>cases Nat.beq 5 t<;>cases Nat.beq 6 t<;>cases Nat.beq 7 t<;>cases Nat.beq 8 t<;>cases Nat.beq 9 t<;>simp
structure Fam (h:List AO) (E:List (List AV)) (R:List (List Int)):Prop where
 pos:0<h.length
 arr:z0j h 0= .arow E
 len:E.length=R.length
 cell:∀ (j:Nat) (row:List Int),R[j]?=some row→(E[j]?=some [AV.d (.list true 0 [])]∧row=[])∨∃ id:Nat,E[j]?=some [AV.slice id 1 0 row.length none]∧z0j h id= .row (z0d row)∧0<id∧id<h.length
 inj:∀ (j j' id l l':Nat),E[j]?=some [AV.slice id 1 0 l none]→E[j']?=some [AV.slice id 1 0 l' none]→j=j'
theorem x31 {env:List (Nat×AV)} {h:List AO} {new:Nat} {N x a b:Nat} (ha:z1h env a= .slice 0 1 0 N (some N)) (hb:z1h env b= .d (.int .i64 x)):
  z08 std E34.T env h new false [] [] (.indexAddr 30 (.tmp a) (.tmp b))=some ⟨std.cmp .geq (x:Int) 0&&std.cmp .lss (x:Int) (std.ofNat N), .ptr 0 (0+x) 0,[]⟩:=by
 simp only [z08,w58,z0t,ha,hb]
 rfl
theorem z8h {env:List (Nat×AV)} {h:List AO} {a x:Nat} {E:List (List AV)} {ra:List AV} (ha:z1h env a= .ptr 0 x 0) (hh:z0j h 0= .arow E) (hE:E[x]?=some ra):(z17 std E34.T env h (.load 26 (.tmp a))).ok false [] ra:=by
 simp only [z17,z0t,ha,y4i,z6d,hh,x4u.ok,hE]
theorem z7a {env:List (Nat×AV)} {h:List AO} {a c x:Nat} {E:List (List AV)} {ra:List AV} (ha:z1h env a= .ptr 0 x 0) (hh:z0j h 0= .arow E) (hE:E[x]?=some ra):(z17 std E34.T env h (.store 26 (.tmp a) (.tmp c))).ok false [] ra:=by
 simp only [z17,z0t,ha,z6d,hh,x4u.ok,hE]
theorem x2a {env:List (Nat×AV)} {h:List AO} {new a x:Nat} {E:List (List AV)} {v:AV} (ha:z1h env a= .ptr 0 x 0) (hh:z0j h 0= .arow E) (hv:z46 false [v]=some v):
  z08 std E34.T env h new false [] [v] (.load 26 (.tmp a))=some ⟨true,v,[]⟩:=by
 simp only [z08,y72,z0t,ha,y4i,z3r,hh,w5w,part,hv,Option.bind_some,ok]
theorem y6d {env:List (Nat×AV)} {h:List AO} {new a c x id l:Nat} {E:List (List AV)} {v:AV} (ha:z1h env a= .ptr 0 x 0) (hc:z1h env c= .slice id 1 0 l none) (hh:z0j h 0= .arow E):
  z08 std E34.T env h new false [] [v] (.store 26 (.tmp a) (.tmp c))=some ⟨true, .bot,[(0, .arow (E.set x [AV.slice id 1 0 l none]))]⟩:=by
 simp only [z08,y72,z0t,ha,hc,z35,z2g,w5w,z3s,hh]
 rfl
theorem x9k {env:List (Nat×AV)} {h:List AO} {c:Nat} {y:Int} (hc:z1h env c= .d (.int .i64 y)):
  z08 std E34.T env h h.length false [] [] (.buildSlice 26 1 #[(0, .tmp c)])=some ⟨true, .slice h.length 1 0 1 (some 1),[(h.length, .row [[.int .i64 y]])]⟩:=by
 simp only [z08,y72]
 show z29 w5w h.length 1 [(0,z1h env c)] []=_
 rw [hc]
 rfl
theorem y7x {env:List (Nat×AV)} {h:List AO} {a c:Nat} (ha:z1h env a= .d (.list true 0 [])):(z17 std E34.T env h (.call ⟨.builtin .append,#[.tmp a, .tmp c],#[26,26]⟩)).ok true [] []:=by
 show (match [z1h env a,z1h env c] with|[s,x]=>x8q (z6o std s x)|_=> .none).ok true [] []
 rw [ha]
 rfl
theorem x22 {env:List (Nat×AV)} {h:List AO} {new a c lit:Nat} {y:Int} (ha:z1h env a= .d (.list true 0 [])) (hc:z1h env c= .slice lit 1 0 1 (some 1)) (hh:z0j h lit= .row [[.int .i64 y]]):
  z08 std E34.T env h new true [] [] (.call ⟨.builtin .append,#[.tmp a, .tmp c],#[26,26]⟩)=some ⟨true, .slice new 1 0 1 none,[(new, .row [[.int .i64 y]])]⟩:=by
 show z1y std E34.T h new true [] .append [26,26] [z1h env a,z1h env c]=_
 rw [ha,hc]
 simp only [z1y,y72,w5w,z25,z50,hh]
 rfl
theorem x21 {env:List (Nat×AV)} {h:List AO} {new a c lit id:Nat} {y:Int} {row:List Int} (ha:z1h env a= .slice id 1 0 row.length none) (hc:z1h env c= .slice lit 1 0 1 (some 1)) (hh:z0j h lit= .row [[.int .i64 y]]) (hid:z0j h id= .row (z0d row)) (hl:row.length≤1000):
  z08 std E34.T env h new false [] [] (.call ⟨.builtin .append,#[.tmp a, .tmp c],#[26,26]⟩)=some ⟨true, .slice new 1 0 (row.length+1) none,[(id, .dead),(new, .row (z0d (row++[y])))]⟩:=by
 show z1y std E34.T h new false [] .append [26,26] [z1h env a,z1h env c]=_
 rw [ha,hc]
 have h1:std.leN (std.add 0 row.length) (std.len (z0d row))=true:=by
  rw [y6l,x0f,x49,z0k]; exact decide_eq_true (by omega)
 have h2:std.leN (std.add row.length 1) y7o=true:=by
  rw [y6l,x0f]; exact decide_eq_true (by show row.length+1≤1000000; omega)
 have h3:std.cut (z0d row) 0 row.length=z0d row:=by
  rw [x5a,List.drop_zero,List.take_of_length_le (by rw [z0k]; exact Nat.le_refl _)]
 have h4:std.app (z0d row) (std.cut [[D.int .i64 y]] 0 1)=z0d (row++[y]):=by
  show z0d row++[[D.int .i64 y]]=_
  simp [z0d,eI]
 simp only [z1y,y72,w5w,z25,z50,hh,hid,z88,h1,h2,h3]
 rw [←h4]
 rfl
theorem Fam.app0 {h:List AO} {E:List (List AV)} {R:List (List Int)} (hf:Fam h E R) {x:Nat} (hrow:R[x]?=some []) (hE:E[x]?=some [AV.d (.list true 0 [])]) (y:Int) {H1 H2:List AO} (e1:H1=z0w h [(h.length, .row [[.int .i64 y]])]) (e2:H2=z0w H1 [(H1.length, .row [[.int .i64 y]])]):
  z0j H2 0= .arow E∧Fam (z0w H2 [(0, .arow (E.set x [AV.slice H1.length 1 0 1 none]))]) (E.set x [AV.slice H1.length 1 0 1 none]) (R.set x ([]++[y])):=by
 subst e1
 subst e2
 simp only [z0w]
 have hl1:(z03 h h.length (.row [[.int .i64 y]])).length=h.length+1:=z5t _ _
 have hl2:=z5t (z03 h h.length (.row [[.int .i64 y]])) (.row [[.int .i64 y]])
 have hp:=hf.pos
 have hold:∀ id,id<h.length→z0j (z03 (z03 h h.length (.row [[.int .i64 y]])) (z03 h h.length (.row [[.int .i64 y]])).length (.row [[.int .i64 y]])) id=z0j h id:=fun id hid=>by
  rw [z0e _ _ _ _ (by omega),z0e _ _ _ _ (by omega)]
 have hxl:=(List.getElem?_eq_some_iff.1 hE).1
 have hnew:z0j (z03 (z03 h h.length (.row [[.int .i64 y]])) (z03 h h.length (.row [[.int .i64 y]])).length (.row [[.int .i64 y]])) (z03 h h.length (.row [[.int .i64 y]])).length= .row [[.int .i64 y]]:=z0h _ _ _
 generalize (z03 h h.length (.row [[.int .i64 y]])).length=nw at hl1 hl2 hold hnew⊢
 generalize z03 (z03 h h.length (.row [[.int .i64 y]])) nw (.row [[.int .i64 y]])=h2 at hl2 hold hnew⊢
 have hlen3:(z03 h2 0 (.arow (E.set x [AV.slice nw 1 0 1 none]))).length=h2.length:=z2j _ _ _ (by omega)
 refine ⟨by rw [hold 0 hp]; exact hf.arr,by omega,z0h _ _ _,by rw [List.length_set,List.length_set]; exact hf.len,fun j row hj=>?_,fun j j' id l l' h1 h2'=>?_⟩
 ·by_cases e:x=j
  ·subst e
   rw [List.getElem?_set,if_pos rfl] at hj
   split at hj
   ·cases hj
    refine .inr ⟨nw,by rw [List.getElem?_set,if_pos rfl,if_pos hxl]; rfl,?_,by omega,by omega⟩
    rw [z0e _ _ _ _ (by omega)]; exact hnew
   ·cases hj
  ·rw [List.getElem?_set_ne e] at hj
   rw [List.getElem?_set_ne e]
   rcases hf.cell j row hj with ⟨a,b⟩|⟨id,a,b,c,d⟩
   ·exact .inl ⟨a,b⟩
   ·refine .inr ⟨id,a,?_,c,by omega⟩
    rw [z0e _ _ _ _ (by omega),hold id d]; exact b
 ·have hcell:∀ (j id l:Nat),(E.set x [AV.slice nw 1 0 1 none])[j]?=some [AV.slice id 1 0 l none]→(j=x∧id=nw)∨(j≠x∧E[j]?=some [AV.slice id 1 0 l none]):=fun j id l hj=>by
   rw [List.getElem?_set] at hj
   by_cases e:x=j
   ·rw [if_pos e,if_pos hxl] at hj; cases hj; exact .inl ⟨e.symm,rfl⟩
   ·rw [if_neg e] at hj; exact .inr ⟨Ne.symm e,hj⟩
  have hlt:∀ (j id l:Nat),E[j]?=some [AV.slice id 1 0 l none]→id<h.length:=fun j id l hj=>by
   have hjl:=(List.getElem?_eq_some_iff.1 hj).1
   obtain ⟨row,hrow⟩:=z1e (l:=R) (i:=j) (by rw [←hf.len]; exact hjl)
   rcases hf.cell j row hrow with ⟨a,_⟩|⟨id',a,_,_,d⟩
   ·rw [hj] at a; cases a
   ·rw [hj] at a; cases a; exact d
  rcases hcell j id l h1 with ⟨e1,e2⟩|⟨hne,g1⟩<;>rcases hcell j' _ l' h2' with ⟨e3,e4⟩|⟨hne',g2⟩
  ·omega
  ·have:=hlt _ _ _ g2; omega
  ·have:=hlt _ _ _ g1; omega
  ·exact hf.inj _ _ _ _ _ g1 g2
theorem Fam.app1 {h:List AO} {E:List (List AV)} {R:List (List Int)} (hf:Fam h E R) {x id:Nat} {row:List Int} (hrow:R[x]?=some row) (hE:E[x]?=some [AV.slice id 1 0 row.length none]) (hid:z0j h id= .row (z0d row)) (hid0:0<id) (hidl:id<h.length) (y:Int) {H1 H2:List AO} (e1:H1=z0w h [(h.length, .row [[.int .i64 y]])]) (e2:H2=z0w H1 [(id, .dead),(H1.length, .row (z0d (row++[y])))]):
  z0j H2 0= .arow E∧Fam (z0w H2 [(0, .arow (E.set x [AV.slice H1.length 1 0 (row.length+1) none]))]) (E.set x [AV.slice H1.length 1 0 (row.length+1) none]) (R.set x (row++[y])):=by
 subst e1
 subst e2
 simp only [z0w]
 have hl1:(z03 h h.length (.row [[.int .i64 y]])).length=h.length+1:=z5t _ _
 have hp:=hf.pos
 have hk1:(z03 (z03 h h.length (.row [[.int .i64 y]])) id .dead).length=h.length+1:=by rw [z2j _ _ _ (by omega)]; exact hl1
 have hl2:=z1r (z03 (z03 h h.length (.row [[.int .i64 y]])) id .dead) (z03 h h.length (.row [[.int .i64 y]])).length (.row (z0d (row++[y])))
 have hold:∀ j,j<h.length→j≠id→z0j (z03 (z03 (z03 h h.length (.row [[.int .i64 y]])) id .dead) (z03 h h.length (.row [[.int .i64 y]])).length (.row (z0d (row++[y])))) j=z0j h j:=fun j hj hne=>by
  rw [z0e _ _ _ _ (by omega),z0e _ _ _ _ (by omega),z0e _ _ _ _ (by omega)]
 have hxl:=(List.getElem?_eq_some_iff.1 hE).1
 have hnew:z0j (z03 (z03 (z03 h h.length (.row [[.int .i64 y]])) id .dead) (z03 h h.length (.row [[.int .i64 y]])).length (.row (z0d (row++[y])))) (z03 h h.length (.row [[.int .i64 y]])).length= .row (z0d (row++[y])):=z0h _ _ _
 generalize (z03 h h.length (.row [[.int .i64 y]])).length=nw at hl1 hl2 hold hnew⊢
 generalize z03 (z03 (z03 h h.length (.row [[.int .i64 y]])) id .dead) nw (.row (z0d (row++[y])))=h2 at hl2 hold hnew⊢
 have hlen3:(z03 h2 0 (.arow (E.set x [AV.slice nw 1 0 (row.length+1) none]))).length=h2.length:=z2j _ _ _ (by omega)
 refine ⟨by rw [hold 0 hp (by omega)]; exact hf.arr,by omega,z0h _ _ _,by rw [List.length_set,List.length_set]; exact hf.len,fun j row' hj=>?_,fun j j' id' l l' h1 h2'=>?_⟩
 ·by_cases e:x=j
  ·subst e
   rw [List.getElem?_set,if_pos rfl] at hj
   split at hj
   ·cases hj
    refine .inr ⟨nw,by rw [List.getElem?_set,if_pos rfl,if_pos hxl]; simp,?_,by omega,by omega⟩
    rw [z0e _ _ _ _ (by omega)]; exact hnew
   ·cases hj
  ·rw [List.getElem?_set_ne e] at hj
   rw [List.getElem?_set_ne e]
   rcases hf.cell j row' hj with ⟨a,b⟩|⟨id',a,b,c,d⟩
   ·exact .inl ⟨a,b⟩
   ·have hne:id'≠id:=by
     rintro rfl
     exact e (hf.inj _ _ _ _ _ hE a)
    refine .inr ⟨id',a,?_,c,by omega⟩
    rw [z0e _ _ _ _ (by omega),hold id' d hne]; exact b
 ·have hcell:∀ (j id l:Nat),(E.set x [AV.slice nw 1 0 (row.length+1) none])[j]?=some [AV.slice id 1 0 l none]→(j=x∧id=nw)∨(j≠x∧E[j]?=some [AV.slice id 1 0 l none]):=fun j id l hj=>by
   rw [List.getElem?_set] at hj
   by_cases e:x=j
   ·rw [if_pos e,if_pos hxl] at hj; cases hj; exact .inl ⟨e.symm,rfl⟩
   ·rw [if_neg e] at hj; exact .inr ⟨Ne.symm e,hj⟩
  have hlt:∀ (j id l:Nat),E[j]?=some [AV.slice id 1 0 l none]→id<h.length:=fun j id l hj=>by
   have hjl:=(List.getElem?_eq_some_iff.1 hj).1
   obtain ⟨row,hrow⟩:=z1e (l:=R) (i:=j) (by rw [←hf.len]; exact hjl)
   rcases hf.cell j row hrow with ⟨a,_⟩|⟨id',a,_,_,d⟩
   ·rw [hj] at a; cases a
   ·rw [hj] at a; cases a; exact d
  rcases hcell j id' l h1 with ⟨e1,e2⟩|⟨hne,g1⟩<;>rcases hcell j' _ l' h2' with ⟨e3,e4⟩|⟨hne',g2⟩
  ·omega
  ·have:=hlt _ _ _ g2; omega
  ·have:=hlt _ _ _ g1; omega
  ·exact hf.inj _ _ _ _ _ g1 g2
theorem z3l {p:List Bool} {i:Nat} {dst:Option Tmp} {op:Op} (h:((y1b p)[i]?.map fun o=>(o.dst,o.op,o.guard))=some (dst,op,none)):∃ o,(y1b p)[i]?=some o∧o.dst=dst∧o.op=op∧o.guard=none:=by
 cases ho:(y1b p)[i]? with
 |none=>rw [ho] at h; cases h
 |some o=>
  rw [ho] at h
  simp only [Option.map_some,Option.some.injEq,Prod.mk.injEq] at h
  exact ⟨o,rfl,h.1,h.2.1,h.2.2⟩
theorem z8r {ops:Array Oper} {i:Nat} {rest:List Nat} {s:AS} {Q:AS→Prop} {o:Oper} {dst:Option Tmp} {op:Op} (ho:ops[i]?=some o∧o.dst=dst∧o.op=op∧o.guard=none)
  {q:Bool} {r:List D} {ra:List AV} {res:Res} (hw:(z17 std E34.T s.env s.heap op).ok q r ra) (hs:z08 std E34.T s.env s.heap s.heap.length q r ra op=some res) (hc:res.c=true) (hd:z48 s.nt dst=true)
  (h:z91 P34 0 ops rest (z5g s dst res.v res.u) Q):z91 P34 0 ops (i::rest) s Q:=by
 obtain ⟨h1,rfl,rfl,hg⟩:=ho
 exact y8v v5l h1 (by rw [hg]; rfl) (Nat.zero_le _) hw hs hc hd h
set_option maxHeartbeats 4000000 in
theorem v0m {h:List AO} {E:List (List AV)} {R:List (List Int)} {N:Nat} {b at_ i k:Int} {x:Nat} {row:List Int} (hf:Fam h E R) (hx:i=(x:Int)) (hN:R.length=N) (hrow:R[x]?=some row) (hl:row.length≤1000)
  {Q:AS→Prop} (hQ:∀ h' E',Fam h' E' (R.set x (row++[k]))→Q ⟨mkE b at_ i k N,h',54⟩):z91 P34 0 (y1b p11) (List.range (y1b p11).size) ⟨mkE b at_ i k N,h,54⟩ (fun s=>∃ s',z5c 0 s s'∧Q s'):=by
 have hr:List.range (y1b p11).size=[0,1,2,3,4,5,6,7,8,9,10]:=by kernel_rfl
 obtain ⟨w0,o0⟩:=z3l (p:=p11) (i:=0) (dst:=some 31) (op:= .move (.tmp 6)) (by kernel_rfl)
 obtain ⟨w1,o1⟩:=z3l (p:=p11) (i:=1) (dst:=some 32) (op:= .move (.tmp 8)) (by kernel_rfl)
 obtain ⟨w2,o2⟩:=z3l (p:=p11) (i:=2) (dst:=some 33) (op:= .move (.tmp 6)) (by kernel_rfl)
 obtain ⟨w3,o3⟩:=z3l (p:=p11) (i:=3) (dst:=some 34) (op:= .move (.tmp 8)) (by kernel_rfl)
 obtain ⟨w4,o4⟩:=z3l (p:=p11) (i:=4) (dst:=some 35) (op:= .indexAddr 30 (.tmp 33) (.tmp 34)) (by kernel_rfl)
 obtain ⟨w5,o5⟩:=z3l (p:=p11) (i:=5) (dst:=some 36) (op:= .load 26 (.tmp 35)) (by kernel_rfl)
 obtain ⟨w6,o6⟩:=z3l (p:=p11) (i:=6) (dst:=some 37) (op:= .move (.tmp 9)) (by kernel_rfl)
 obtain ⟨w7,o7⟩:=z3l (p:=p11) (i:=7) (dst:=some 38) (op:= .buildSlice 26 1 #[(0, .tmp 37)]) (by kernel_rfl)
 obtain ⟨w8,o8⟩:=z3l (p:=p11) (i:=8) (dst:=some 39) (op:= .call ⟨.builtin .append,#[.tmp 36, .tmp 38],#[26,26]⟩) (by kernel_rfl)
 obtain ⟨w9,o9⟩:=z3l (p:=p11) (i:=9) (dst:=some 40) (op:= .indexAddr 30 (.tmp 31) (.tmp 32)) (by kernel_rfl)
 obtain ⟨w10,o10⟩:=z3l (p:=p11) (i:=10) (dst:=none) (op:= .store 26 (.tmp 40) (.tmp 39)) (by kernel_rfl)
 have hxlt:x<N:=by rw [←hN]; exact (List.getElem?_eq_some_iff.1 hrow).1
 have hc0:(std.cmp .geq (x:Int) 0&&std.cmp .lss (x:Int) (std.ofNat N))=true:=by
  rw [y6m,y05,Bool.and_eq_true]
  exact ⟨decide_eq_true (by omega),decide_eq_true (by show (x:Int)<(N:Int); omega)⟩
 subst hx
 rw [hr]
 refine z8r o0 (q:=false) (r:=[]) (ra:=[]) (res:=⟨true, .slice 0 1 0 N (some N),[]⟩) trivial rfl rfl rfl ?_
 refine z8r o1 (q:=false) (r:=[]) (ra:=[]) (res:=⟨true, .d (.int .i64 x),[]⟩) trivial rfl rfl rfl ?_
 refine z8r o2 (q:=false) (r:=[]) (ra:=[]) (res:=⟨true, .slice 0 1 0 N (some N),[]⟩) trivial rfl rfl rfl ?_
 refine z8r o3 (q:=false) (r:=[]) (ra:=[]) (res:=⟨true, .d (.int .i64 x),[]⟩) trivial rfl rfl rfl ?_
 refine z8r o4 (q:=false) (r:=[]) (ra:=[]) (res:=⟨std.cmp .geq (x:Int) 0&&std.cmp .lss (x:Int) (std.ofNat N), .ptr 0 (0+x) 0,[]⟩) trivial (x31 rfl rfl) hc0 rfl ?_
 rw [Nat.zero_add]
 have hpe:(R.set x (row++[k])).length=N:=by rw [List.length_set,hN]
 rcases hf.cell x row hrow with ⟨hE,rfl⟩|⟨id,hE,hid,hid0,hidl⟩
 ·refine z8r o5 (q:=false) (r:=[]) (ra:=[.d (.list true 0 [])]) (res:=⟨true, .d (.list true 0 []),[]⟩) (z8h rfl hf.arr hE) (x2a rfl hf.arr rfl) rfl rfl ?_
  refine z8r o6 (q:=false) (r:=[]) (ra:=[]) (res:=⟨true, .d (.int .i64 k),[]⟩) trivial rfl rfl rfl ?_
  refine z8r o7 (q:=false) (r:=[]) (ra:=[]) (res:=⟨true, .slice h.length 1 0 1 (some 1),[(h.length, .row [[.int .i64 k]])]⟩) trivial (x9k rfl) rfl rfl ?_
  show z91 P34 0 _ [8,9,10] ⟨_,z0w h [(h.length, .row [[.int .i64 k]])],54⟩ _
  obtain ⟨H1,e1⟩:∃ H,H=z0w h [(h.length, .row [[.int .i64 k]])]:=⟨_,rfl⟩
  have hlit:z0j H1 h.length= .row [[.int .i64 k]]:=by rw [e1]; exact z0h _ _ _
  rw [←e1]
  refine z8r o8 (q:=true) (r:=[]) (ra:=[]) (res:=⟨true, .slice H1.length 1 0 1 none,[(H1.length, .row [[.int .i64 k]])]⟩) (y7x rfl) (x22 rfl rfl hlit) rfl rfl ?_
  show z91 P34 0 _ [9,10] ⟨_,z0w H1 [(H1.length, .row [[.int .i64 k]])],54⟩ _
  obtain ⟨H2,e2⟩:∃ H,H=z0w H1 [(H1.length, .row [[.int .i64 k]])]:=⟨_,rfl⟩
  obtain ⟨hh1,hh2⟩:=hf.app0 hrow hE k e1 e2
  rw [←e2]
  refine z8r o9 (q:=false) (r:=[]) (ra:=[]) (res:=⟨std.cmp .geq (x:Int) 0&&std.cmp .lss (x:Int) (std.ofNat N), .ptr 0 (0+x) 0,[]⟩) trivial (x31 rfl rfl) hc0 rfl ?_
  rw [Nat.zero_add]
  refine z8r o10 (q:=false) (r:=[]) (ra:=[.d (.list true 0 [])]) (res:=⟨true, .bot,[(0, .arow (E.set x [.slice H1.length 1 0 1 none]))]⟩) (z7a rfl hh1 hE) (y6d rfl rfl hh1) rfl rfl ?_
  refine y0g ?_
  refine ⟨⟨mkE b at_ _ _ N,z0w H2 [(0, .arow (E.set x [.slice H1.length 1 0 1 none]))],54⟩,?_,hQ _ _ hh2⟩
  exact z5c.env (n:=0) (s:=⟨_,z0w H2 [(0, .arow (E.set x [.slice H1.length 1 0 1 none]))],54⟩) (z7o ⟨_,rfl⟩)
 ·refine z8r o5 (q:=false) (r:=[]) (ra:=[.slice id 1 0 row.length none]) (res:=⟨true, .slice id 1 0 row.length none,[]⟩) (z8h rfl hf.arr hE) (x2a rfl hf.arr rfl) rfl rfl ?_
  refine z8r o6 (q:=false) (r:=[]) (ra:=[]) (res:=⟨true, .d (.int .i64 k),[]⟩) trivial rfl rfl rfl ?_
  refine z8r o7 (q:=false) (r:=[]) (ra:=[]) (res:=⟨true, .slice h.length 1 0 1 (some 1),[(h.length, .row [[.int .i64 k]])]⟩) trivial (x9k rfl) rfl rfl ?_
  show z91 P34 0 _ [8,9,10] ⟨_,z0w h [(h.length, .row [[.int .i64 k]])],54⟩ _
  obtain ⟨H1,e1⟩:∃ H,H=z0w h [(h.length, .row [[.int .i64 k]])]:=⟨_,rfl⟩
  have hlit:z0j H1 h.length= .row [[.int .i64 k]]:=by rw [e1]; exact z0h _ _ _
  have hid':z0j H1 id= .row (z0d row):=by rw [e1]; show z0j (z03 _ _ _) _=_; rw [z0e _ _ _ _ (by omega)]; exact hid
  rw [←e1]
  refine z8r o8 (q:=false) (r:=[]) (ra:=[]) (res:=⟨true, .slice H1.length 1 0 (row.length+1) none,[(id, .dead),(H1.length, .row (z0d (row++[k])))]⟩) trivial (x21 rfl rfl hlit hid' hl) rfl rfl ?_
  show z91 P34 0 _ [9,10] ⟨_,z0w H1 [(id, .dead),(H1.length, .row (z0d (row++[k])))],54⟩ _
  obtain ⟨H2,e2⟩:∃ H,H=z0w H1 [(id, .dead),(H1.length, .row (z0d (row++[k])))]:=⟨_,rfl⟩
  obtain ⟨hh1,hh2⟩:=hf.app1 hrow hE hid hid0 hidl k e1 e2
  rw [←e2]
  refine z8r o9 (q:=false) (r:=[]) (ra:=[]) (res:=⟨std.cmp .geq (x:Int) 0&&std.cmp .lss (x:Int) (std.ofNat N), .ptr 0 (0+x) 0,[]⟩) trivial (x31 rfl rfl) hc0 rfl ?_
  rw [Nat.zero_add]
  refine z8r o10 (q:=false) (r:=[]) (ra:=[.slice id 1 0 row.length none]) (res:=⟨true, .bot,[(0, .arow (E.set x [.slice H1.length 1 0 (row.length+1) none]))]⟩) (z7a rfl hh1 hE) (y6d rfl rfl hh1) rfl rfl ?_
  refine y0g ?_
  refine ⟨⟨mkE b at_ _ _ N,z0w H2 [(0, .arow (E.set x [.slice H1.length 1 0 (row.length+1) none]))],54⟩,?_,hQ _ _ hh2⟩
  exact z5c.env (n:=0) (s:=⟨_,z0w H2 [(0, .arow (E.set x [.slice H1.length 1 0 (row.length+1) none]))],54⟩) (z7o ⟨_,rfl⟩)
set_option maxHeartbeats 4000000 in
theorem v0l {h:List AO} {E:List (List AV)} {R:List (List Int)} {N:Nat} {b at_ i k:Int} {x:Nat} {row:List Int} (hf:Fam h E R) (hx:k=(x:Int)) (hN:R.length=N) (hrow:R[x]?=some row) (hl:row.length≤1000)
  {Q:AS→Prop} (hQ:∀ h' E',Fam h' E' (R.set x (row++[i]))→Q ⟨mkE b at_ i k N,h',54⟩):z91 P34 0 (y1b p12) (List.range (y1b p12).size) ⟨mkE b at_ i k N,h,54⟩ (fun s=>∃ s',z5c 0 s s'∧Q s'):=by
 have hr:List.range (y1b p12).size=[0,1,2,3,4,5,6,7,8,9,10]:=by kernel_rfl
 obtain ⟨w0,o0⟩:=z3l (p:=p12) (i:=0) (dst:=some 41) (op:= .move (.tmp 6)) (by kernel_rfl)
 obtain ⟨w1,o1⟩:=z3l (p:=p12) (i:=1) (dst:=some 42) (op:= .move (.tmp 9)) (by kernel_rfl)
 obtain ⟨w2,o2⟩:=z3l (p:=p12) (i:=2) (dst:=some 43) (op:= .move (.tmp 6)) (by kernel_rfl)
 obtain ⟨w3,o3⟩:=z3l (p:=p12) (i:=3) (dst:=some 44) (op:= .move (.tmp 9)) (by kernel_rfl)
 obtain ⟨w4,o4⟩:=z3l (p:=p12) (i:=4) (dst:=some 45) (op:= .indexAddr 30 (.tmp 43) (.tmp 44)) (by kernel_rfl)
 obtain ⟨w5,o5⟩:=z3l (p:=p12) (i:=5) (dst:=some 46) (op:= .load 26 (.tmp 45)) (by kernel_rfl)
 obtain ⟨w6,o6⟩:=z3l (p:=p12) (i:=6) (dst:=some 47) (op:= .move (.tmp 8)) (by kernel_rfl)
 obtain ⟨w7,o7⟩:=z3l (p:=p12) (i:=7) (dst:=some 48) (op:= .buildSlice 26 1 #[(0, .tmp 47)]) (by kernel_rfl)
 obtain ⟨w8,o8⟩:=z3l (p:=p12) (i:=8) (dst:=some 49) (op:= .call ⟨.builtin .append,#[.tmp 46, .tmp 48],#[26,26]⟩) (by kernel_rfl)
 obtain ⟨w9,o9⟩:=z3l (p:=p12) (i:=9) (dst:=some 50) (op:= .indexAddr 30 (.tmp 41) (.tmp 42)) (by kernel_rfl)
 obtain ⟨w10,o10⟩:=z3l (p:=p12) (i:=10) (dst:=none) (op:= .store 26 (.tmp 50) (.tmp 49)) (by kernel_rfl)
 have hxlt:x<N:=by rw [←hN]; exact (List.getElem?_eq_some_iff.1 hrow).1
 have hc0:(std.cmp .geq (x:Int) 0&&std.cmp .lss (x:Int) (std.ofNat N))=true:=by
  rw [y6m,y05,Bool.and_eq_true]
  exact ⟨decide_eq_true (by omega),decide_eq_true (by show (x:Int)<(N:Int); omega)⟩
 subst hx
 rw [hr]
 refine z8r o0 (q:=false) (r:=[]) (ra:=[]) (res:=⟨true, .slice 0 1 0 N (some N),[]⟩) trivial rfl rfl rfl ?_
 refine z8r o1 (q:=false) (r:=[]) (ra:=[]) (res:=⟨true, .d (.int .i64 x),[]⟩) trivial rfl rfl rfl ?_
 refine z8r o2 (q:=false) (r:=[]) (ra:=[]) (res:=⟨true, .slice 0 1 0 N (some N),[]⟩) trivial rfl rfl rfl ?_
 refine z8r o3 (q:=false) (r:=[]) (ra:=[]) (res:=⟨true, .d (.int .i64 x),[]⟩) trivial rfl rfl rfl ?_
 refine z8r o4 (q:=false) (r:=[]) (ra:=[]) (res:=⟨std.cmp .geq (x:Int) 0&&std.cmp .lss (x:Int) (std.ofNat N), .ptr 0 (0+x) 0,[]⟩) trivial (x31 rfl rfl) hc0 rfl ?_
 rw [Nat.zero_add]
 have hpe:(R.set x (row++[i])).length=N:=by rw [List.length_set,hN]
 rcases hf.cell x row hrow with ⟨hE,rfl⟩|⟨id,hE,hid,hid0,hidl⟩
 ·refine z8r o5 (q:=false) (r:=[]) (ra:=[.d (.list true 0 [])]) (res:=⟨true, .d (.list true 0 []),[]⟩) (z8h rfl hf.arr hE) (x2a rfl hf.arr rfl) rfl rfl ?_
  refine z8r o6 (q:=false) (r:=[]) (ra:=[]) (res:=⟨true, .d (.int .i64 i),[]⟩) trivial rfl rfl rfl ?_
  refine z8r o7 (q:=false) (r:=[]) (ra:=[]) (res:=⟨true, .slice h.length 1 0 1 (some 1),[(h.length, .row [[.int .i64 i]])]⟩) trivial (x9k rfl) rfl rfl ?_
  show z91 P34 0 _ [8,9,10] ⟨_,z0w h [(h.length, .row [[.int .i64 i]])],54⟩ _
  obtain ⟨H1,e1⟩:∃ H,H=z0w h [(h.length, .row [[.int .i64 i]])]:=⟨_,rfl⟩
  have hlit:z0j H1 h.length= .row [[.int .i64 i]]:=by rw [e1]; exact z0h _ _ _
  rw [←e1]
  refine z8r o8 (q:=true) (r:=[]) (ra:=[]) (res:=⟨true, .slice H1.length 1 0 1 none,[(H1.length, .row [[.int .i64 i]])]⟩) (y7x rfl) (x22 rfl rfl hlit) rfl rfl ?_
  show z91 P34 0 _ [9,10] ⟨_,z0w H1 [(H1.length, .row [[.int .i64 i]])],54⟩ _
  obtain ⟨H2,e2⟩:∃ H,H=z0w H1 [(H1.length, .row [[.int .i64 i]])]:=⟨_,rfl⟩
  obtain ⟨hh1,hh2⟩:=hf.app0 hrow hE i e1 e2
  rw [←e2]
  refine z8r o9 (q:=false) (r:=[]) (ra:=[]) (res:=⟨std.cmp .geq (x:Int) 0&&std.cmp .lss (x:Int) (std.ofNat N), .ptr 0 (0+x) 0,[]⟩) trivial (x31 rfl rfl) hc0 rfl ?_
  rw [Nat.zero_add]
  refine z8r o10 (q:=false) (r:=[]) (ra:=[.d (.list true 0 [])]) (res:=⟨true, .bot,[(0, .arow (E.set x [.slice H1.length 1 0 1 none]))]⟩) (z7a rfl hh1 hE) (y6d rfl rfl hh1) rfl rfl ?_
  refine y0g ?_
  refine ⟨⟨mkE b at_ _ _ N,z0w H2 [(0, .arow (E.set x [.slice H1.length 1 0 1 none]))],54⟩,?_,hQ _ _ hh2⟩
  exact z5c.env (n:=0) (s:=⟨_,z0w H2 [(0, .arow (E.set x [.slice H1.length 1 0 1 none]))],54⟩) (z7o ⟨_,rfl⟩)
 ·refine z8r o5 (q:=false) (r:=[]) (ra:=[.slice id 1 0 row.length none]) (res:=⟨true, .slice id 1 0 row.length none,[]⟩) (z8h rfl hf.arr hE) (x2a rfl hf.arr rfl) rfl rfl ?_
  refine z8r o6 (q:=false) (r:=[]) (ra:=[]) (res:=⟨true, .d (.int .i64 i),[]⟩) trivial rfl rfl rfl ?_
  refine z8r o7 (q:=false) (r:=[]) (ra:=[]) (res:=⟨true, .slice h.length 1 0 1 (some 1),[(h.length, .row [[.int .i64 i]])]⟩) trivial (x9k rfl) rfl rfl ?_
  show z91 P34 0 _ [8,9,10] ⟨_,z0w h [(h.length, .row [[.int .i64 i]])],54⟩ _
  obtain ⟨H1,e1⟩:∃ H,H=z0w h [(h.length, .row [[.int .i64 i]])]:=⟨_,rfl⟩
  have hlit:z0j H1 h.length= .row [[.int .i64 i]]:=by rw [e1]; exact z0h _ _ _
  have hid':z0j H1 id= .row (z0d row):=by rw [e1]; show z0j (z03 _ _ _) _=_; rw [z0e _ _ _ _ (by omega)]; exact hid
  rw [←e1]
  refine z8r o8 (q:=false) (r:=[]) (ra:=[]) (res:=⟨true, .slice H1.length 1 0 (row.length+1) none,[(id, .dead),(H1.length, .row (z0d (row++[i])))]⟩) trivial (x21 rfl rfl hlit hid' hl) rfl rfl ?_
  show z91 P34 0 _ [9,10] ⟨_,z0w H1 [(id, .dead),(H1.length, .row (z0d (row++[i])))],54⟩ _
  obtain ⟨H2,e2⟩:∃ H,H=z0w H1 [(id, .dead),(H1.length, .row (z0d (row++[i])))]:=⟨_,rfl⟩
  obtain ⟨hh1,hh2⟩:=hf.app1 hrow hE hid hid0 hidl i e1 e2
  rw [←e2]
  refine z8r o9 (q:=false) (r:=[]) (ra:=[]) (res:=⟨std.cmp .geq (x:Int) 0&&std.cmp .lss (x:Int) (std.ofNat N), .ptr 0 (0+x) 0,[]⟩) trivial (x31 rfl rfl) hc0 rfl ?_
  rw [Nat.zero_add]
  refine z8r o10 (q:=false) (r:=[]) (ra:=[.slice id 1 0 row.length none]) (res:=⟨true, .bot,[(0, .arow (E.set x [.slice H1.length 1 0 (row.length+1) none]))]⟩) (z7a rfl hh1 hE) (y6d rfl rfl hh1) rfl rfl ?_
  refine y0g ?_
  refine ⟨⟨mkE b at_ _ _ N,z0w H2 [(0, .arow (E.set x [.slice H1.length 1 0 (row.length+1) none]))],54⟩,?_,hQ _ _ hh2⟩
  exact z5c.env (n:=0) (s:=⟨_,z0w H2 [(0, .arow (E.set x [.slice H1.length 1 0 (row.length+1) none]))],54⟩) (z7o ⟨_,rfl⟩)
theorem z9l {c:Code} {pos:List Bool} {ss:SS} {e:AX} {ss':SS} (hcd:z1w P34 34 pos=some c) (h:sym opt std E34 (w6k opt) 20 (AX×SS) 0 34 pos c ss (fun e s=>some (e,s))=some (e,ss')):
  z4v P34 0 c ss.s (fun e' s2=>e'=e∧s2=ss'.s):=by
 obtain ⟨e0,s0,_,hc,hk⟩:=x45 v5m x0q 20 (AX×SS) 0 34 pos c ss _ _ hcd (Nat.zero_le _) h
 cases hk; exact hc
theorem z8x {env' env:List (Nat×AV)} (h:∀ x∈env',z1h env x.1=x.2):w1s env' env:=by
 intro t
 induction env' with
 |nil=>exact .inl rfl
 |cons x r ih=>
  obtain ⟨k,v⟩:=x
  simp only [z1h]
  cases hb:Nat.beq k t with
  |true=>
   have:=Nat.eq_of_beq_eq_true hb
   subst this
   exact .inr (h (k,v) (List.mem_cons_self ..)).symm
  |false=>exact ih fun x hx=>h x (List.mem_cons_of_mem _ hx)
def mkO (b at_ i:Int) (N:Nat):List (Nat×AV):=[(1, .d (.int .u64 b)),(5, .d (.int .i64 N)),(6, .slice 0 1 0 N (some N)),(7, .d (.int .i64 at_)),(8, .d (.int .i64 i))]
theorem s34:z6n []= .seq (z6n [false]) (.seq (z6n [false,true]) (.seq (z6n [false,true,true]) (.seq (z6n [false,true,true,true]) (.seq (.seq (z6n (false::pA)) (.block 0 (.loop (z6n pLB)))) (z6n [true,true,true,true,true]))))):=by kernel_rfl
theorem v0k:z6n pLB= .seq (z6n (false::pLB)) (.seq (.block 1 (.seq (z6n ([false,false,false,true]++pLB)) (.block 2 (.loop (z6n pLK))))) (z6n ([true,true]++pLB))):=by kernel_rfl
theorem v0j:z6n pLK= .seq (z6n (false::pLK)) (.seq (.block 3 (.seq (.seq (z6n ([false,false]++pX)) (.cond (.tmp 30) (.region 11 (y1b p11) false) (.region 12 (y1b p12) false))) (z6n (true::pX)))) (z6n ([true,true]++pLK))):=by kernel_rfl
theorem v39:z1w P34 34 [false]=some (z6n [false]):=by kernel_rfl
theorem v38:z1w P34 34 [false,true]=some (z6n [false,true]):=by kernel_rfl
theorem v37:z1w P34 34 [false,true,true]=some (z6n [false,true,true]):=by kernel_rfl
theorem v36:z1w P34 34 [false,true,true,true]=some (z6n [false,true,true,true]):=by kernel_rfl
theorem v35:z1w P34 34 (false::pA)=some (z6n (false::pA)):=by kernel_rfl
theorem v33:z1w P34 34 [true,true,true,true,true]=some (z6n [true,true,true,true,true]):=by kernel_rfl
theorem w2j:z1w P34 34 (false::pLB)=some (z6n (false::pLB)):=by kernel_rfl
theorem w8u:z1w P34 34 ([false,false,false,true]++pLB)=some (z6n ([false,false,false,true]++pLB)):=by kernel_rfl
theorem w8t:z1w P34 34 ([true,true]++pLB)=some (z6n ([true,true]++pLB)):=by kernel_rfl
theorem w2i:z1w P34 34 (false::pLK)=some (z6n (false::pLK)):=by kernel_rfl
theorem w8s:z1w P34 34 ([false,false]++pX)=some (z6n ([false,false]++pX)):=by kernel_rfl
theorem w8r:z1w P34 34 (true::pX)=some (z6n (true::pX)):=by kernel_rfl
theorem w8q:z1w P34 34 ([true,true]++pLK)=some (z6n ([true,true]++pLK)):=by kernel_rfl
def x4f (b at_:Int):Bool:=std.cmp .eql (std.ar .and .u64 (std.ar .shr .u64 b at_) 1) 1
noncomputable abbrev y06 (pos:List Bool) (env:List (Nat×AV)) (h:List AO):Option (AX×SS):=sym opt std E34 (w6k opt) 20 (AX×SS) 0 34 pos (z6n pos) ⟨⟨env,h,54⟩,[]⟩ fun e s=>some (e,s)
theorem eK1 (b at_ i k:Int) (N:Nat) (h:List AO):y06 (false::pLK) (mkE b at_ i k N) h=opt.ask _ (std.cmp .lss k i)
  (some (.normal,⟨⟨mkE b at_ i k N++[(21, .d (.int .i64 k)),(22, .d (.int .i64 i)),(23, .d (.bool true))],h,54⟩,[]⟩))
  (some (.exit 2,⟨⟨mkE b at_ i k N++[(21, .d (.int .i64 k)),(22, .d (.int .i64 i)),(23, .d (.bool false))],h,54⟩,[]⟩)):=by kernel_rfl
theorem eK2 (b at_ i k:Int) (N:Nat) (h:List AO):y06 ([false,false]++pX) (mkE b at_ i k N) h=opt.need _ (std.cmp .geq at_ 0)
  (some (.normal,⟨⟨mkE b at_ i k N++[(26, .d (.int .u64 b)),(27, .d (.int .i64 at_)),(28, .d (.int .u64 (std.ar .shr .u64 b at_))),(29, .d (.int .u64 (std.ar .and .u64 (std.ar .shr .u64 b at_) 1))),(30, .d (.bool (x4f b at_)))],h,54⟩,[]⟩)):=by kernel_rfl
theorem eK3 (b at_ i k:Int) (N:Nat) (h:List AO):y06 (true::pX) (mkE b at_ i k N) h=
  some (.normal,⟨⟨mkE b (std.ar .add .i64 at_ 1) i k N++[(51, .d (.int .i64 at_)),(52, .d (.int .i64 (std.ar .add .i64 at_ 1)))],h,54⟩,[]⟩):=by kernel_rfl
theorem eK4 (b at_ i k:Int) (N:Nat) (h:List AO):y06 ([true,true]++pLK) (mkE b at_ i k N) h=
  some (.normal,⟨⟨mkE b at_ i (std.ar .add .i64 k 1) N++[(24, .d (.int .i64 k)),(25, .d (.int .i64 (std.ar .add .i64 k 1)))],h,54⟩,[]⟩):=by kernel_rfl
theorem eB1 (b at_ i:Int) (N:Nat) (h:List AO):y06 (false::pLB) (mkO b at_ i N) h=opt.ask _ (std.cmp .lss i N)
  (some (.normal,⟨⟨mkO b at_ i N++[(16, .d (.int .i64 i)),(17, .d (.int .i64 N)),(18, .d (.bool true))],h,54⟩,[]⟩))
  (some (.exit 0,⟨⟨mkO b at_ i N++[(16, .d (.int .i64 i)),(17, .d (.int .i64 N)),(18, .d (.bool false))],h,54⟩,[]⟩)):=by kernel_rfl
theorem eB2 (b at_ i:Int) (N:Nat) (h:List AO):y06 ([false,false,false,true]++pLB) (mkO b at_ i N) h=some (.normal,⟨⟨mkE b at_ i 0 N,h,54⟩,[]⟩):=by kernel_rfl
theorem eB3 (b at_ i:Int) (N:Nat) (h:List AO):y06 ([true,true]++pLB) (mkO b at_ i N) h=
  some (.normal,⟨⟨mkO b at_ (std.ar .add .i64 i 1) N++[(19, .d (.int .i64 i)),(20, .d (.int .i64 (std.ar .add .i64 i 1)))],h,54⟩,[]⟩):=by kernel_rfl
theorem v3x (s b:Int):y06 [false] [(0, .d (.int .u8 s)),(1, .d (.int .u64 b))] []=some (.normal,⟨⟨[(0, .d (.int .u8 s)),(1, .d (.int .u64 b)),(4, .d (.list true 0 []))],[],54⟩,[]⟩):=by kernel_rfl
def nB (s:Int):Int:=std.ar .add .i64 1 (std.ar .rem .i64 (std.cvt .i64 s) 10)
theorem v3w (s b:Int):y06 [false,true] [(0, .d (.int .u8 s)),(1, .d (.int .u64 b)),(4, .d (.list true 0 []))] []=
  some (.normal,⟨⟨[(0, .d (.int .u8 s)),(1, .d (.int .u64 b)),(4, .d (.list true 0 [])),(10, .d (.int .u8 s)),(11, .d (.int .i64 (std.cvt .i64 s))),(12, .d (.int .i64 (std.ar .rem .i64 (std.cvt .i64 s) 10))),(13, .d (.int .i64 (nB s))),(5, .d (.int .i64 (nB s)))],[],54⟩,[]⟩):=by kernel_rfl
theorem v3v (b n:Int):y06 [false,true,true] [(1, .d (.int .u64 b)),(5, .d (.int .i64 n))] []=opt.need _ (std.and (std.cmp .geq n 0) (std.and (std.cmp .leq n n) (std.cmp .leq n 1000000)))
  (some (.normal,⟨⟨[(1, .d (.int .u64 b)),(5, .d (.int .i64 n)),(14, .d (.int .i64 n)),(15, .slice 0 1 0 n.toNat (some n.toNat)),(6, .slice 0 1 0 n.toNat (some n.toNat))],[.row (List.replicate n.toNat [.list true 0 []])],54⟩,[[.list 1]]⟩)):=by kernel_rfl
theorem v3u (b n:Int) (N:Nat) (h:List AO):y06 [false,true,true,true] [(1, .d (.int .u64 b)),(5, .d (.int .i64 n)),(6, .slice 0 1 0 N (some N))] h=
  some (.normal,⟨⟨[(1, .d (.int .u64 b)),(5, .d (.int .i64 n)),(6, .slice 0 1 0 N (some N)),(7, .d (.int .i64 0))],h,54⟩,[]⟩):=by kernel_rfl
theorem v3t (b n:Int) (N:Nat) (h:List AO):y06 (false::pA) [(1, .d (.int .u64 b)),(5, .d (.int .i64 n)),(6, .slice 0 1 0 N (some N)),(7, .d (.int .i64 0))] h=
  some (.normal,⟨⟨[(1, .d (.int .u64 b)),(5, .d (.int .i64 n)),(6, .slice 0 1 0 N (some N)),(7, .d (.int .i64 0)),(8, .d (.int .i64 0))],h,54⟩,[]⟩):=by kernel_rfl
theorem v3s (b at_ i:Int) (N:Nat) (h:List AO):y06 [true,true,true,true,true] (mkO b at_ i N) h=
  some (.ret,⟨⟨mkO b at_ i N++[(53, .slice 0 1 0 N (some N)),(4, .slice 0 1 0 N (some N))],h,54⟩,[]⟩):=by kernel_rfl
def z99 (b:Int) (at_ i k:Nat) (R:List (List Int)):List (List Int):=bif x4f b at_ then R.set i (R.getD i []++[(k:Int)]) else R.set k (R.getD k []++[(i:Int)])
def byK (b:Int) (i at_:Nat) (R:List (List Int)):Nat→List (List Int)
 |0=>R
 |k+1=>z99 b (at_+k) i k (byK b i at_ R k)
def prs:Nat→Nat
 |0=>0
 |n+1=>prs n+n
def byI (b:Int) (R:List (List Int)):Nat→List (List Int)
 |0=>R
 |i+1=>byK b i (prs i) (byI b R i) i
theorem y8b (b:Int) (at_ i k:Nat) (R:List (List Int)):(z99 b at_ i k R).length=R.length:=by
 unfold z99; cases x4f b at_<;>simp
theorem x7y (b:Int) (i at_:Nat) (R:List (List Int)) (k:Nat):(byK b i at_ R k).length=R.length:=by
 induction k with
 |zero=>rfl
 |succ k ih=>rw [byK,y8b,ih]
theorem x70 (b:Int) (R:List (List Int)) (i:Nat):(byI b R i).length=R.length:=by
 induction i with
 |zero=>rfl
 |succ i ih=>rw [byI,x7y,ih]
def z5p (m:Nat) (R:List (List Int)):Prop:=∀ l∈R,l.length≤m
theorem x0d {b:Int} {at_ i k m:Nat} {R:List (List Int)} (h:z5p m R):z5p (m+1) (z99 b at_ i k R):=by
 have key:∀ x y,z5p (m+1) (R.set x (R.getD x []++[y])):=fun x y l hl=>by
  rcases List.mem_or_eq_of_mem_set hl with hl|rfl
  ·have:=h l hl; omega
  ·rw [List.length_append,List.length_singleton,List.getD_eq_getElem?_getD]
   cases hx:R[x]? with
   |none=>simp
   |some r=>have:=h r (List.mem_of_getElem? hx); simpa using this
 unfold z99
 cases x4f b at_
 ·exact key k i
 ·exact key i k
theorem y9q {b:Int} {i at_ m:Nat} {R:List (List Int)} (h:z5p m R) (k:Nat):z5p (m+k) (byK b i at_ R k):=by
 induction k with
 |zero=>exact h
 |succ k ih=>rw [byK, ←Nat.add_assoc]; exact x0d (b:=b) ih
theorem x7z {b:Int} {m:Nat} {R:List (List Int)} (h:z5p m R) (i:Nat):z5p (m+prs i) (byI b R i):=by
 induction i with
 |zero=>exact h
 |succ i ih=>rw [byI,prs, ←Nat.add_assoc]; exact y9q (b:=b) (at_:=prs i) (i:=i) ih i
theorem w6j {n:Nat} (h:n≤10):prs n≤45:=by
 have hs:n=0∨n=1∨n=2∨n=3∨n=4∨n=5∨n=6∨n=7∨n=8∨n=9∨n=10:=by omega
 rcases hs with h|h|h|h|h|h|h|h|h|h|h<;>subst h<;>decide
theorem v0b {i:Nat} (h:i≤1000000):std.ar .add .i64 (i:Int) 1=((i+1:Nat):Int):=by rw [z0c]; exact z02 (by omega)
theorem v1g {b:Int} {at_ i k N:Nat} {h:List AO} {E:List (List AV)} {R:List (List Int)} (hf:Fam h E R) (hN:R.length=N) (hi:i<N) (hk:k<i) (hat:at_≤1000) (hsh:z5p 900 R) {Q:AX→AS→Prop}
  (hQ:∀ h' E',Fam h' E' (z99 b at_ i k R)→Q .normal ⟨mkE b ((at_+1:Nat):Int) i k N,h',54⟩):
  z4v P34 0 (.seq (.seq (z6n ([false,false]++pX)) (.cond (.tmp 30) (.region 11 (y1b p11) false) (.region 12 (y1b p12) false))) (z6n (true::pX))) ⟨mkE b at_ i k N,h,54⟩ (fun e s=>∃ s',z5c 0 s s'∧Q e s'):=by
 have hge:std.cmp .geq (at_:Int) 0=true:=by rw [y6m]; exact decide_eq_true (by omega)
 refine z2n (z2n ((z9l w8s ((eK2 b at_ i k N h).trans (by rw [hge]; rfl))).mono ?_))
 rintro e s ⟨rfl,rfl⟩
 have hc:z0t (mkE b at_ i k N++[(26, .d (.int .u64 b)),(27, .d (.int .i64 (at_:Int))),(28, .d (.int .u64 (std.ar .shr .u64 b at_))),(29, .d (.int .u64 (std.ar .and .u64 (std.ar .shr .u64 b at_) 1))),(30, .d (.bool (x4f b at_)))]) (.tmp 30)= .d (.bool (x4f b at_)):=rfl
 refine y33 (t:=x4f b at_) hc ?_
 have fin:∀ h' E',Fam h' E' (z99 b at_ i k R)→z4v P34 0 (z6n (true::pX)) ⟨mkE b at_ i k N,h',54⟩ (fun e s=>∃ s',z5c 0 s s'∧Q e s'):=by
  intro h' E' hf'
  refine (z9l w8r (eK3 b at_ i k N h')).mono ?_
  rintro e s ⟨rfl,rfl⟩
  rw [v0b (i:=at_) (by omega)]
  exact ⟨⟨mkE b ((at_+1:Nat):Int) i k N,h',54⟩,z5c.env (n:=0) (s:=⟨_,h',54⟩) (z7o ⟨_,rfl⟩),hQ h' E' hf'⟩
 cases hb:x4f b at_ with
 |true=>
  rw [if_pos rfl]
  obtain ⟨row,hrow⟩:=z1e (l:=R) (i:=i) (by omega)
  have hst:z99 b at_ i k R=R.set i (row++[(k:Int)]):=by rw [z99,hb,cond_true,z1v hrow]
  refine z4c (s':=⟨mkE b at_ i k N,h,54⟩) (z5c.env (n:=0) (s:=⟨_,h,54⟩) (z7o ⟨_,rfl⟩)) (z23 (z9w ?_))
  have:=v0m (b:=b) (at_:=at_) (i:=i) (k:=k) (N:=N) (x:=i) hf rfl hN hrow (by have:=hsh row (List.mem_of_getElem? hrow); omega) (Q:=fun s'=>z4v P34 0 (z6n (true::pX)) s' (fun e s=>∃ s',z5c 0 s s'∧Q e s')) (fun h' E' hf'=>fin h' E' (by rw [hst]; exact hf'))
  exact this
 |false=>
  rw [if_neg (by simp)]
  obtain ⟨row,hrow⟩:=z1e (l:=R) (i:=k) (by omega)
  have hst:z99 b at_ i k R=R.set k (row++[(i:Int)]):=by rw [z99,hb,cond_false,z1v hrow]
  refine z4c (s':=⟨mkE b at_ i k N,h,54⟩) (z5c.env (n:=0) (s:=⟨_,h,54⟩) (z7o ⟨_,rfl⟩)) (z23 (z9w ?_))
  have:=v0l (b:=b) (at_:=at_) (i:=i) (k:=k) (N:=N) (x:=k) hf rfl hN hrow (by have:=hsh row (List.mem_of_getElem? hrow); omega) (Q:=fun s'=>z4v P34 0 (z6n (true::pX)) s' (fun e s=>∃ s',z5c 0 s s'∧Q e s')) (fun h' E' hf'=>fin h' E' (by rw [hst]; exact hf'))
  exact this
theorem w4a {b:Int} {at_ i N:Nat} {h:List AO} {E:List (List AV)} {R:List (List Int)} (hf:Fam h E R) (hN:R.length=N) (hi:i<N) (hi10:N≤10) (hat:at_≤100) (hsh:z5p 100 R) {Q:AX→AS→Prop}
  (hQ:∀ h' E',Fam h' E' (byK b i at_ R i)→Q (.exit 2) ⟨mkO b ((at_+i:Nat):Int) i N,h',54⟩):
  z4v P34 0 (.loop (z6n pLK)) ⟨mkE b at_ i ((0:Nat):Int) N,h,54⟩ Q:=by
 let ι:={ x:Nat×List AO×List (List AV) // x.1≤i∧Fam x.2.1 x.2.2 (byK b i at_ R x.1) }
 let I:ι→AS:=fun g=>⟨mkE b ((at_+g.1.1:Nat):Int) i (g.1.1:Nat) N,g.1.2.1,54⟩
 refine y9h (ι:=ι) I (fun g=>i - g.1.1) (fun _ _=>rfl) ?_ ⟨(0,h,E),Nat.zero_le _,hf⟩
 rintro ⟨⟨k,h1,E1⟩,hk,hf1⟩
 rw [v0j]
 refine z2n ?_
 by_cases hlt:k<i
 ·have hc:std.cmp .lss ((k:Nat):Int) (i:Int)=true:=by rw [y05]; exact decide_eq_true (by omega)
  refine (z9l w2i ((eK1 b ((at_+k:Nat):Int) i k N h1).trans (by rw [hc]; rfl))).mono ?_
  rintro e s ⟨rfl,rfl⟩
  refine z4c (s':=⟨mkE b ((at_+k:Nat):Int) i k N,h1,54⟩) (z5c.env (n:=0) (s:=⟨_,h1,54⟩) (z7o ⟨_,rfl⟩)) (z2n (z31 (z23 ?_)))
  have hshk:=y9q (b:=b) (i:=i) (at_:=at_) hsh k
  have hsh1:z5p 900 (byK b i at_ R k):=fun l hl=>Nat.le_trans (hshk l hl) (by omega)
  refine v1g hf1 (by rw [x7y]; exact hN) hi hlt (by omega) hsh1 fun h2 E2 hf2=>?_
  refine z23 ((z9l w8q (eK4 b ((at_+k+1:Nat):Int) i k N h2)).mono ?_)
  rintro e s ⟨rfl,rfl⟩
  rw [v0b (i:=k) (by omega)]
  exact ⟨⟨mkE b ((at_+k+1:Nat):Int) i ((k+1:Nat):Int) N,h2,54⟩,z5c.env (n:=0) (s:=⟨_,h2,54⟩) (z7o ⟨_,rfl⟩),⟨⟨(k+1,h2,E2),hlt,hf2⟩,rfl,by show i - (k+1)<i - k; omega⟩⟩
 ·have hc:std.cmp .lss ((k:Nat):Int) (i:Int)=false:=by rw [y05]; exact decide_eq_false (by omega)
  have hki:k=i:=by omega
  subst hki
  refine z23 ((z9l w2i ((eK1 b ((at_+k:Nat):Int) k k N h1).trans (by rw [hc]; rfl))).mono ?_)
  rintro e s ⟨rfl,rfl⟩
  exact ⟨⟨mkO b ((at_+k:Nat):Int) k N,h1,54⟩,z5c.env (n:=0) (s:=⟨_,h1,54⟩) (z8x fun x hx=>by
   simp only [mkO,List.mem_cons,List.not_mem_nil,or_false] at hx
   rcases hx with rfl|rfl|rfl|rfl|rfl<;>rfl),hQ h1 E1 hf1⟩
theorem w3d {b:Int} {N:Nat} {h:List AO} {E:List (List AV)} {R:List (List Int)} (hf:Fam h E R) (hN:R.length=N) (hi10:N≤10) (hsh:z5p 0 R) {Q:AX→AS→Prop}
  (hQ:∀ h' E',Fam h' E' (byI b R N)→Q (.exit 0) ⟨mkO b (prs N:Nat) N N,h',54⟩):
  z4v P34 0 (.loop (z6n pLB)) ⟨mkO b ((0:Nat):Int) ((0:Nat):Int) N,h,54⟩ Q:=by
 let ι:={ x:Nat×List AO×List (List AV) // x.1≤N∧Fam x.2.1 x.2.2 (byI b R x.1) }
 let I:ι→AS:=fun g=>⟨mkO b (prs g.1.1:Nat) (g.1.1:Nat) N,g.1.2.1,54⟩
 refine y9h (ι:=ι) I (fun g=>N - g.1.1) (fun _ _=>rfl) ?_ ⟨(0,h,E),Nat.zero_le _,hf⟩
 rintro ⟨⟨i,h1,E1⟩,hi,hf1⟩
 rw [v0k]
 refine z2n ?_
 have hp:=w6j (n:=i) (by omega)
 by_cases hlt:i<N
 ·have hc:std.cmp .lss ((i:Nat):Int) (N:Int)=true:=by rw [y05]; exact decide_eq_true (by omega)
  refine (z9l w2j ((eB1 b (prs i:Nat) i N h1).trans (by rw [hc]; rfl))).mono ?_
  rintro e s ⟨rfl,rfl⟩
  refine z4c (s':=⟨mkO b (prs i:Nat) i N,h1,54⟩) (z5c.env (n:=0) (s:=⟨_,h1,54⟩) (z8x fun x hx=>by
   simp only [mkO,List.mem_cons,List.not_mem_nil,or_false] at hx
   rcases hx with rfl|rfl|rfl|rfl|rfl<;>rfl)) (z2n (z31 (z2n ((z9l w8u (eB2 b (prs i:Nat) i N h1)).mono ?_))))
  rintro e s ⟨rfl,rfl⟩
  refine z31 ?_
  have hshi:=x7z (b:=b) hsh i
  refine w4a (at_:=prs i) (i:=i) hf1 (by rw [x70]; exact hN) hlt hi10 (by omega) (fun l hl=>Nat.le_trans (hshi l hl) (by omega)) fun h2 E2 hf2=>?_
  simp only [if_true]
  refine z23 ((z9l w8t (eB3 b ((prs i+i:Nat):Int) i N h2)).mono ?_)
  rintro e s ⟨rfl,rfl⟩
  rw [v0b (i:=i) (by omega)]
  exact ⟨⟨mkO b ((prs i+i:Nat):Int) ((i+1:Nat):Int) N,h2,54⟩,z5c.env (n:=0) (s:=⟨_,h2,54⟩) (z8x fun x hx=>by
   simp only [mkO,List.mem_cons,List.not_mem_nil,or_false] at hx
   rcases hx with rfl|rfl|rfl|rfl|rfl<;>rfl),⟨⟨(i+1,h2,E2),hlt,hf2⟩,rfl,by show N - (i+1)<N - i; omega⟩⟩
 ·have hc:std.cmp .lss ((i:Nat):Int) (N:Int)=false:=by rw [y05]; exact decide_eq_false (by omega)
  have hki:i=N:=by omega
  subst hki
  refine z23 ((z9l w2j ((eB1 b (prs i:Nat) i i h1).trans (by rw [hc]; rfl))).mono ?_)
  rintro e s ⟨rfl,rfl⟩
  exact ⟨⟨mkO b (prs i:Nat) i i,h1,54⟩,z5c.env (n:=0) (s:=⟨_,h1,54⟩) (z8x fun x hx=>by
   simp only [mkO,List.mem_cons,List.not_mem_nil,or_false] at hx
   rcases hx with rfl|rfl|rfl|rfl|rfl<;>rfl),hQ h1 E1 hf1⟩
end Go.Am
end
section
namespace Go.Am
theorem x5n {env:List (Nat×AV)} {es:List (List D)} {nt:Nat}:z5c 0 ⟨env,[.row es],nt⟩ ⟨env,[.arow (es.map (List.map AV.d))],nt⟩:=⟨by
 intro P ρ tm w h
 have hlive:∀ id,(z0j [AO.row es] id).live=(z0j [AO.arow (es.map (List.map AV.d))] id).live:=fun id=>by cases id<;>rfl
 have hO:z0i ρ [AO.row es]=z0i ρ [AO.arow (es.map (List.map AV.d))]:=by
  funext b; unfold z0i; simp only [hlive]
 have hh:=h.heap
 refine ⟨ρ,⟨⟨fun id L hL=>?_,fun id id' L L' a b c d e=>hh.inj id id' L L' a b (by rw [hlive]; exact c) (by rw [hlive]; exact d) e,hh.fr,fun id L hL hl=>hh.sep id L hL (by rw [hlive]; exact hl)⟩,fun t=>?_,h.size,fun id hid=>h.dom id hid⟩,rfl,?_,fun _ _=>rfl⟩
 ·obtain ⟨h1,h2⟩:=hh.obj id L hL
  refine ⟨h1,?_⟩
  show z1q P ρ (z0i ρ [AO.arow (es.map (List.map AV.d))]) w L (z0j [AO.arow (es.map (List.map AV.d))] id)
  rw [←hO]
  cases id with
  |zero=>
   obtain ⟨hz,c,t,hc,hl,hj⟩:=h2
   refine ⟨hz,c,t,hc,fun i r hi=>?_,fun i r j x hi hj'=>?_⟩
   ·rw [List.getElem?_map] at hi
    cases he:es[i]? with
    |none=>rw [he] at hi; cases hi
    |some r0=>rw [he] at hi; cases hi; rw [List.length_map]; exact hl i r0 he
   ·rw [List.getElem?_map] at hi
    cases he:es[i]? with
    |none=>rw [he] at hi; cases hi
    |some r0=>
     rw [he] at hi; cases hi
     rw [List.getElem?_map] at hj'
     cases hd:r0[j]? with
     |none=>rw [hd] at hj'; cases hj'
     |some d0=>
      rw [hd] at hj'; cases hj'
      obtain ⟨v,a,b,e⟩:=hj i r0 j d0 he hd
      exact ⟨v,a,b, .d e⟩
  |succ n=>exact h2
 ·show z0s ρ (z0i ρ [AO.arow (es.map (List.map AV.d))]) w _ _
  rw [←hO]; exact h.env t
 ·exact ⟨rfl,rfl,rfl,⟨Nat.le_refl _,fun _ _ _=>rfl,fun b _ hb=>by rw [hO]; exact hb,fun _ _ h=>h,z0u.refl _⟩,fun _ _=>rfl,rfl,fun _ _=>rfl⟩⟩
theorem fam0 (N:Nat):Fam [.arow (List.replicate N [AV.d (.list true 0 [])])] (List.replicate N [AV.d (.list true 0 [])]) (List.replicate N []):=by
 refine ⟨by simp,rfl,by simp,fun j row hj=> .inl ?_,fun j j' id l l' h1 _=>?_⟩
 ·rw [List.getElem?_replicate] at hj⊢
  split at hj
  ·rename_i hlt; cases hj; rw [if_pos hlt]; exact ⟨rfl,rfl⟩
  ·cases hj
 ·rw [List.getElem?_replicate] at h1
  split at h1<;>cases h1
theorem x5m {h:List AO} {E:List (List AV)} {R:List (List Int)} {env:List (Nat×AV)} {N nt:Nat} (hf:Fam h E R) (hN:R.length=N) (he:z1h env 4= .slice 0 1 0 N (some N)):
  z5c 0 ⟨env,h,nt⟩ ⟨[(4, .d (.list false 1 (z0o (fun _=>false) R)))],[],nt⟩:=⟨by
 intro P ρ tm w h1
 have hv:x8e (fun _=>false) h []:=⟨fun id=>by rw [z34]; rfl,fun id hk=>by cases hk⟩
 have h2:=h1.view (h':=[]) hv
 refine ⟨ρ.only fun _=>false,⟨h2.heap,fun t=>?_,h2.size,h2.dom⟩,rfl,Ext.view' (fun id hid=>absurd hid (Nat.not_lt_zero _)) ρ w hv,fun id hid=>absurd hid (Nat.not_lt_zero _)⟩
 show z0s (ρ.only fun _=>false) (z0i (ρ.only fun _=>false) []) w (bif Nat.beq 4 t then _ else _) _
 cases hb:Nat.beq 4 t with
 |false=>exact .bot _
 |true=>
  have ht:=Nat.eq_of_beq_eq_true hb
  subst ht
  simp only [cond_true]
  have hv4:=h1.env 4
  have hv4:z0s ρ (z0i ρ h) w (z1h env 4) (tm.getD 4 undef):=hv4
  rw [he] at hv4
  generalize tm.getD 4 undef=v at hv4
  have hlen:(z0o (fun _=>false) R).length=N:=by rw [z2m,hN]
  have hnil:N=0→z0o (fun _=>false) R=[]:=fun h0=>List.length_eq_zero_iff.1 (by rw [hlen]; exact h0)
  cases hv4 with
  |nils _ _ _ _ a hc=>
   rw [hnil rfl]
   exact .d (.lnil _ _ _ _ (by simp))
  |slice _ _ _ _ _ L a c hL hz ha hc hl=>
   by_cases h0:N=0
   ·subst h0
    rw [hnil rfl]
    exact .d (.lnil _ _ _ _ (by simp))
   ·have ha':=ha (by omega)
    subst ha'
    obtain ⟨hblk,hob⟩:=h1.heap.obj 0 L hL
    have hob:z1q P ρ (z0i ρ h) w L (z0j h 0):=hob
    rw [hf.arr] at hob
    obtain ⟨hz0,cs,t0,hcs,hlens,hcell⟩:=hob
    have key:∀ (i:Nat) (row:List Int),R[i]?=some row→∃ u,cs[L.base+i]?=some u∧u.oneCell'=true∧z1t (z0i (ρ.only fun _=>false) []) w (.list false 1 (z0d row)) u:=by
     intro i row hrow
     rcases hf.cell i row hrow with ⟨hE,rfl⟩|⟨id,hE,hid,hid0,hidl⟩
     ·obtain ⟨u,a,b,e⟩:=hcell i _ 0 _ hE rfl
      rw [hz,Nat.mul_one,Nat.add_zero] at a
      refine ⟨u,a,b,?_⟩
      cases e with|d e=>
      cases e with
      |lnil _ _ a c h=>exact .lnil _ _ _ _ (by simp)
      |list _ _ b o z c hz hne=>exact absurd rfl hne
     ·obtain ⟨u,a,b,e⟩:=hcell i _ 0 _ hE rfl
      rw [hz,Nat.mul_one,Nat.add_zero] at a
      refine ⟨u,a,b,?_⟩
      have hc1:(bV std h (.slice id 1 0 row.length none)).1=true:=by
       simp only [bV,hid]
       rw [y6l,x0f,x49,z0k]; exact decide_eq_true (by omega)
      have:=w5n h1.heap e hc1
      have hc2:(bV std h (.slice id 1 0 row.length none)).2= .d (.list false 1 (z0d row)):=by
       simp only [bV,hid]
       rw [x5a,List.drop_zero,List.take_of_length_le (by rw [z0k]; exact Nat.le_refl _)]
      rw [hc2] at this
      cases this with|d this=>exact this
    have hget:∀ (i:Nat) (r:List D),(z0o (fun _=>false) R)[i]?=some r→∃ row:List Int,R[i]?=some row∧r=[D.list false 1 (z0d row)]:=by
     intro i r hi
     rw [z0o,List.getElem?_map] at hi
     cases hr:R[i]? with
     |none=>rw [hr] at hi; cases hi
     |some row=>rw [hr] at hi; cases hi; exact ⟨row,rfl,rfl⟩
    refine .d ?_
    have fin:=z1t.list (O:=z0i (ρ.only fun _=>false) []) (w:=w) false (z0o (fun _=>false) R) L.blk (L.base+0*L.esz) 1 c (by omega) (by intro e; rw [e] at hlen; simp at hlen; omega)
     (fun hb=>h1.heap.sep 0 L hL (by show (z0j h 0).live=true; rw [hf.arr]; rfl) (z4s.1 hb)) (by rw [hlen]; exact hl) (by simp) (fun i r hi=>by obtain ⟨row,_,rfl⟩:=hget i r hi; rfl)
     (fun k=>(cs[L.base+k]?).getD undef) (fun k hk=>?_) (fun k hk=>?_) (fun i r j d hi hj=>?_)
    ·rw [hlen] at fin; exact fin
    ·rw [hlen,Nat.mul_one] at hk
     obtain ⟨row,hrow⟩:=z1e (l:=R) (i:=k) (by omega)
     obtain ⟨u,a,b,_⟩:=key k row hrow
     rw [a]; exact b
    ·rw [hlen,Nat.mul_one] at hk
     obtain ⟨row,hrow⟩:=z1e (l:=R) (i:=k) (by omega)
     obtain ⟨u,a,_,_⟩:=key k row hrow
     rw [Nat.zero_mul,Nat.add_zero,a]; exact z7r hcs a
    ·obtain ⟨row,hrow,rfl⟩:=hget i r hi
     obtain ⟨u,a,_,e⟩:=key i row hrow
     cases j with
     |zero=>
      cases hj
      rw [Nat.mul_one,Nat.add_zero,a]; exact e
     |succ j=>simp at hj⟩
def x1c (n:Nat) (b:Int):List (List Int):=byI b (List.replicate n []) n
theorem w87 {s b:Int} {n:Nat} (hn:nB s=(n:Int)) (h10:n≤10):z9b P34 34 [.d (.int .u8 s), .d (.int .u64 b)] [] (.d (.list false 1 (z0o (fun _=>false) (x1c n b)))) []:=by
 have hfn:∃ fn,P34.funcs[34]?=some fn∧fn.body=some (z6n [])∧fn.ntmps=54∧fn.results.toList=[.tmp 4]:=by
  have:(P34.funcs[34]?.map fun fn=>(fn.body,fn.ntmps,fn.results.toList))=some (some (z6n []),54,[.tmp 4]):=by kernel_rfl
  cases hq:P34.funcs[34]? with
  |none=>rw [hq] at this; cases this
  |some fn=>
   rw [hq] at this
   simp only [Option.map_some,Option.some.injEq,Prod.mk.injEq] at this
   exact ⟨fn,rfl,this.1,this.2.1,this.2.2⟩
 obtain ⟨fn,hf,hb,hnt,hres⟩:=hfn
 refine y1z v5l hf hb hnt (by show 2≤54; omega) ?_
 rw [hres,s34]
 refine z2n ((z9l v39 (v3x s b)).mono ?_)
 rintro e s1 ⟨rfl,rfl⟩
 refine z2n ((z9l v38 (v3w s b)).mono ?_)
 rintro e s1 ⟨rfl,rfl⟩
 refine z4c (s':=⟨[(1, .d (.int .u64 b)),(5, .d (.int .i64 n))],[],54⟩) (z5c.env (n:=0) (s:=⟨_,[],54⟩) (z8x fun x hx=>by
   simp only [List.mem_cons,List.not_mem_nil,or_false] at hx
   rcases hx with rfl|rfl
   ·rfl
   ·rw [←hn]; rfl)) ?_
 have hc:std.and (std.cmp .geq (n:Int) 0) (std.and (std.cmp .leq (n:Int) n) (std.cmp .leq (n:Int) 1000000))=true:=by
  rw [y6m,x48,x48,x5b,x5b,decide_eq_true (show (n:Int)≥0 by omega),decide_eq_true (Int.le_refl _),decide_eq_true (show (n:Int)≤1000000 by omega)]; rfl
 refine z2n ((z9l v37 ((v3v b n).trans (by rw [hc]; rfl))).mono ?_)
 rintro e s1 ⟨rfl,rfl⟩
 have ht:((n:Int)).toNat=n:=by omega
 simp only [ht]
 refine z4c (s':=⟨[(1, .d (.int .u64 b)),(5, .d (.int .i64 n)),(6, .slice 0 1 0 n (some n))],[.arow (List.replicate n [AV.d (.list true 0 [])])],54⟩) ?_ ?_
 ·have h1:=x5n (env:=[(1, .d (.int .u64 b)),(5, .d (.int .i64 n)),(6, .slice 0 1 0 n (some n))]) (es:=List.replicate n [.list true 0 []]) (nt:=54)
  rw [List.map_replicate] at h1
  exact (z5c.env (n:=0) (s:=⟨_,[.row (List.replicate n [.list true 0 []])],54⟩) (z8x fun x hx=>by
   simp only [List.mem_cons,List.not_mem_nil,or_false] at hx
   rcases hx with rfl|rfl|rfl<;>rfl)).trans h1
 refine z2n ((z9l v36 (v3u b n n _)).mono ?_)
 rintro e s1 ⟨rfl,rfl⟩
 refine z2n (z2n ((z9l v35 (v3t b n n _)).mono ?_))
 rintro e s1 ⟨rfl,rfl⟩
 refine z31 ?_
 refine w3d (b:=b) (fam0 n) (by simp) h10 (fun l hl=>by rw [(List.mem_replicate.1 hl).2]; simp) fun h' E' hf'=>?_
 simp only [if_true]
 refine z23 ((z9l v33 (v3s b (prs n:Nat) n n h')).mono ?_)
 rintro e s1 ⟨rfl,rfl⟩
 refine ⟨⟨[(4, .d (.list false 1 (z0o (fun _=>false) (x1c n b))))],[],54⟩,?_, .inr rfl,rfl,rfl⟩
 exact x5m (R:=x1c n b) (N:=n) hf' (by rw [x1c,x70]; simp) rfl
noncomputable def y0q:Ctr:=
 ⟨34,[.int .u8, .int .u64],[],[(.ret,⟨[(0, .list 1)],[],1⟩)]⟩
def q34 (x:Int×(Int×Unit)):Option (List (List D)×Unit):=
 bif decide (0≤x.1)&&decide (x.1≤255) then some (z0o (fun _=>false) (x1c (1+x.1.toNat % 10) x.2.1),()) else none
noncomputable def G34:(p:Prim)→(Int×(Int×Unit))→Option (List (List D)×Unit):=fun p x=>q34 x
noncomputable def F34:Prim→Tup (y0q).scs→Option (STup (scss (y0q).outs)):=fun p x=>G34 p x
theorem w0c:z2r Go.Proofs.Try.prog 34:=enters_auto (b:=_) rfl (by kernel_rfl)
theorem v1c {s:Int} (h0:0≤s) (h1:s≤255):nB s=((1+s.toNat % 10:Nat):Int):=by
 obtain ⟨m,rfl⟩:∃ m:Nat,s=(m:Int):=⟨s.toNat,by omega⟩
 have e1:std.cvt .i64 (m:Int)=(m:Int):=by rw [w23,z7s]<;>omega
 have e2:((m:Int)).tmod 10=((m % 10:Nat):Int):=(Int.ofNat_tmod m 10).symm
 rw [nB,e1,x3b,z0c,e2,z7s]<;>simp<;>omega
theorem ok34:CtrOk Go.Proofs.Try.prog y0q (F34 std):=by
 have key:∀ (s b:Int) (y:STup (scss (y0q).outs)),q34 (s,(b,()))=some y→(y4e std y0q (y0y (y0q).scs (s,(b,())))).2.length≤(z1p std (y0q).outs y).2.s.heap.length∧
   z9b Go.Proofs.Try.prog 34 (y4e std y0q (y0y (y0q).scs (s,(b,())))).1 (y4e std y0q (y0y (y0q).scs (s,(b,())))).2 (z1h (z1p std (y0q).outs y).2.s.env 0) (z1p std (y0q).outs y).2.s.heap:=by
  intro s b y hy
  unfold q34 at hy
  simp only at hy
  cases hb:(decide (0≤s)&&decide (s≤255)) with
  |false=>rw [hb] at hy; cases hy
  |true=>
   rw [hb] at hy; cases hy
   simp only [Bool.and_eq_true,decide_eq_true_eq] at hb
   have:=w87 (b:=b) (v1c hb.1 hb.2) (by omega)
   exact ⟨Nat.le_refl _,this⟩
 exact ⟨w0c,fun x y hy=>key x.1 x.2.1 y hy⟩
end Go.Am
end
section
namespace Go.Am
open T11
def beB (b:Int) (r x:Nat):Bool:=if x<r then x4f b ((prs r+x:Nat):Int) else if r<x then !x4f b ((prs x+r:Nat):Int) else false
theorem w07 (b:Int) (n:Nat):w2p (beB b) n:=by
 refine ⟨fun i _=>by simp [beB],fun i k _ _ hne=>?_⟩
 unfold beB
 by_cases h:k<i
 ·rw [if_pos h,if_neg (by omega),if_pos h,Bool.not_not]
 ·rw [if_neg h,if_pos (by omega),if_pos (by omega)]
def y91 (i k r:Nat):Nat:=if r<k then i+1 else if r<i then i else if r=i then k else 0
def y07 (b:Int) (n i k:Nat):List (List Int):=(List.range n).map fun r=>toI ((List.range (y91 i k r)).filter (beB b r))
theorem z72 (b:Int) (n i k:Nat):(y07 b n i k).length=n:=by simp [y07]
theorem z6y (b:Int) {n i k r:Nat} (hr:r<n):(y07 b n i k)[r]?=some (toI ((List.range (y91 i k r)).filter (beB b r))):=by
 rw [y07,List.getElem?_map,List.getElem?_range hr]; rfl
theorem y3v (b:Int) (r m:Nat):toI ((List.range (m+1)).filter (beB b r))=toI ((List.range m).filter (beB b r))++(if beB b r m=true then [(m:Int)] else []):=by
 rw [List.range_succ,List.filter_append,y94]
 congr 1
 cases h:beB b r m<;>simp [h,toI]
theorem x3a (b:Int) {n i k:Nat} (hi:i<n) (hk:k<i):z99 b (prs i+k) i k (y07 b n i k)=y07 b n i (k+1):=by
 have hik:beB b i k=x4f b ((prs i+k:Nat):Int):=by unfold beB; rw [if_pos hk]
 have hki:beB b k i=!x4f b ((prs i+k:Nat):Int):=by unfold beB; rw [if_neg (by omega),if_pos hk]
 have li:y91 i k i=k:=by unfold y91; rw [if_neg (by omega),if_neg (by omega),if_pos rfl]
 have li':y91 i (k+1) i=k+1:=by unfold y91; rw [if_neg (by omega),if_neg (by omega),if_pos rfl]
 have lk:y91 i k k=i:=by unfold y91; rw [if_neg (by omega),if_pos hk]
 have lk':y91 i (k+1) k=i+1:=by unfold y91; rw [if_pos (by omega)]
 have lo:∀ r,r≠i→r≠k→y91 i (k+1) r=y91 i k r:=fun r h1 h2=>by
  unfold y91
  by_cases a:r<k
  ·rw [if_pos (by omega),if_pos a]
  ·rw [if_neg (by omega),if_neg a]
   by_cases c:r<i
   ·rw [if_pos c,if_pos c]
   ·rw [if_neg c,if_neg c,if_neg h1,if_neg h1]
 have gi:(y07 b n i k).getD i []=toI ((List.range k).filter (beB b i)):=by rw [List.getD_eq_getElem?_getD,z6y b hi,li]; rfl
 have gk:(y07 b n i k).getD k []=toI ((List.range i).filter (beB b k)):=by rw [List.getD_eq_getElem?_getD,z6y b (show k<n by omega),lk]; rfl
 have fi:=y3v b i k
 have fk:=y3v b k i
 rw [hik] at fi
 rw [hki] at fk
 apply List.ext_getElem?
 intro r
 by_cases hr:r<n
 ·rw [z6y b hr]
  cases hb:x4f b ((prs i+k:Nat):Int) with
  |true=>
   rw [hb] at fi fk
   simp only [Bool.not_true,Bool.false_eq_true,if_true,if_false,List.append_nil] at fi fk
   rw [z99,hb,cond_true,List.getElem?_set,z72,gi]
   by_cases e:i=r
   ·subst e; rw [if_pos rfl,if_pos hi,li',fi]
   ·rw [if_neg e,z6y b hr]
    by_cases e2:r=k
    ·subst e2; rw [lk,lk',fk]
    ·rw [lo r (Ne.symm e) e2]
  |false=>
   rw [hb] at fi fk
   simp only [Bool.not_false,Bool.false_eq_true,if_true,if_false,List.append_nil] at fi fk
   rw [z99,hb,cond_false,List.getElem?_set,z72,gk]
   by_cases e:k=r
   ·subst e; rw [if_pos rfl,if_pos hr,lk',fk]
   ·rw [if_neg e,z6y b hr]
    by_cases e2:r=i
    ·subst e2; rw [li,li',fi]
    ·rw [lo r e2 (Ne.symm e)]
 ·rw [List.getElem?_eq_none (by rw [y8b,z72]; omega),List.getElem?_eq_none (by rw [z72]; omega)]
theorem w02 (b:Int) {n i:Nat} (hi:i<n):∀ k,k≤i→byK b i (prs i) (y07 b n i 0) k=y07 b n i k:=by
 intro k
 induction k with
 |zero=>intro _; rfl
 |succ k ih=>intro hk; rw [byK,ih (by omega),x3a b hi (by omega)]
theorem x3g (b:Int) {n i:Nat}:y07 b n i i=y07 b n (i+1) 0:=by
 refine List.map_congr_left fun r _=>?_
 unfold y91
 by_cases h:r<i
 ·rw [if_pos h,if_neg (show ¬ r<0 by omega),if_pos (show r<i+1 by omega)]
 ·rw [if_neg h,if_neg h,if_neg (show ¬ r<0 by omega)]
  by_cases e:r=i
  ·subst e
   rw [if_pos rfl,if_pos (show r<r+1 by omega),y3v,if_neg (by simp [beB]),List.append_nil]
  ·rw [if_neg e,if_neg (show ¬ r<i+1 by omega)]
   split<;>rfl
theorem w03 (b:Int) {n:Nat}:∀ i,i≤n→byI b (List.replicate n []) i=y07 b n i 0:=by
 intro i
 induction i with
 |zero=>
  intro _
  apply List.ext_getElem?
  intro r
  by_cases hr:r<n
  ·rw [z6y b hr,byI,List.getElem?_replicate,if_pos hr]
   unfold y91
   rw [if_neg (by omega),if_neg (by omega)]
   split<;>rfl
  ·rw [byI,List.getElem?_eq_none (by simp; omega),List.getElem?_eq_none (by rw [z72]; omega)]
 |succ i ih=>
  intro hi
  rw [byI,ih (by omega),w02 b (by omega) i (Nat.le_refl _),x3g]
theorem w5j (b:Int) (n:Nat):x1c n b=dOf (beB b) n:=by
 rw [x1c,w03 b n (Nat.le_refl _)]
 refine List.map_congr_left fun r hr=>?_
 have hr:=List.mem_range.1 hr
 unfold y91
 rw [if_neg (by omega),if_pos hr]
theorem w9j {s b:Int} (h0:0≤s) (h1:s≤255):G34 std (s,(b,()))=some (z0o fz (dOf (beB b) (1+s.toNat % 10)),()):=by
 unfold G34 q34
 simp only [h0,h1,decide_true,Bool.and_self,cond_true,w5j]
 rfl
theorem x7x (b:Int) {n:Nat} (h1:1≤n) (h10:n≤10):z1c (dOf (beB b) n)=0:=x2l h1 h10 (w07 b n)
theorem w5i (b:Int) {n:Nat} (h1:1≤n) (h10:n≤10):∀ l∈dOf (beB b) n,l.length≤1000000:=y31 (x7x b h1 h10)
end Go.Am
end
section
namespace Go.Am
open T11
theorem v0f {n:Int} (h:(Lit.int IntKind.u8 n).wf=true):0≤n∧n≤255:=by
 have h:IntKind.u8.min≤n∧n≤IntKind.u8.max:=by simpa [Lit.wf] using h
 have e1:IntKind.u8.min=0:=rfl
 have e2:IntKind.u8.max=255:=rfl
 omega
def d7 (s b:Int):List (List Int):=dOf (beB b) (1+s.toNat % 10)
theorem w4v (s b:Int):z1c (d7 s b)=0:=x7x b (by omega) (by omega)
theorem w4u (s b:Int):∀ l∈d7 s b,l.length≤1000000:=w5i b (by omega) (by omega)
end Go.Am
end
section
namespace Go.Am
open T11
section
variable {b b':Nat→Nat→Bool} {n:Nat} {s s':List Nat} {rc rc':Nat→Nat}
def Trn (b b':Nat→Nat→Bool) (n:Nat):Prop:=∀ i k,i<n→k<n→b' i k=b k i
theorem Trn.symm (h:Trn b b' n):Trn b' b n:=fun i k hi hk=>(h k i hk hi).symm
end
end Go.Am
end
noncomputable section
namespace Go.Am
def ctr6:Ctr:=
 ⟨6,[.list 1, .list 1, .int .u8, .int .u64],[],[(.ret,⟨[(0, .bool)],[],1⟩)]⟩
def la6:List LA:=
 []
def ja6:List JA:=
 [⟨6,[false,true,false,true,false,true,true,true,true,true,true,true,true,true,true,true],0,[(AX.normal,⟨[(8, .bool)],[],149⟩)]⟩,
 ⟨6,[false,true,true,true,true,true,true,true,true,true,true,true,true,true],0,[(AX.normal,⟨[(8, .bool)],[],149⟩)]⟩,
 ⟨6,[false,false,true,false,true,true,true,true,true,true,true,true,true,true,true,true],0,[(AX.normal,⟨[(8, .bool)],[],149⟩)]⟩,
 ⟨6,[false,false,true,true,true,true,true,true,true,true],0,[(AX.normal,⟨[(0, .list 1),(1, .list 1),(10, .list 1),(70, .bool)],[],149⟩)]⟩,
 ⟨6,[false,false,true],0,[(AX.normal,⟨[(0, .list 1),(1, .list 1),(2, .int .u8),(3, .int .u64),(28, .bool)],[],149⟩)]⟩]
def gam6:List CF:=
 [⟨w47,G29⟩,⟨w48,G28⟩,⟨w44,G33⟩,⟨w0s,G21⟩,⟨w45,G31⟩,⟨w46,G30⟩,⟨x7e,G35⟩,⟨y0q,F34⟩,⟨w8m,G14⟩]
def an6:Anns:=
 ⟨gam6,ja6,[⟨6,[false,true,true,true,true,true],⟨[(0, .list 1),(1, .list 1),(10, .list 1)],[],149⟩⟩]⟩
def G6:(p:Prim)→(LD×(LD×T3))→Option T0:=
 fun p x=>
 opt.bnd ((LD×(LD×T11))) _ (
 opt.run ((LD×(LD×T11))) (
 opt.ask _ (p.cmp .gtr (p.ofNat (p.len x.1)) (14:Int)) (
 opt.ret _ (x.1,(x.2.1,(x.2.2.1,(x.2.2.2.1,(Bool.true,())))))) (
 opt.ret _ (x.1,(x.2.1,(x.2.2.1,(x.2.2.2.1,((p.cmp .gtr (p.ofNat (p.len x.2.1)) (14:Int)),())))))))) fun a=>
 opt.ask _ a.2.2.2.2.1 (
 opt.bnd T0 _ (G14 p ()) fun b=>
 opt.ret _ (b.1,())) (
 opt.bnd ((LD×Unit)) _ (G34 p (a.2.2.1,(a.2.2.2.1,()))) fun c=>
 opt.bnd ((LD×T1)) _ (G35 p (c.1,())) fun d=>
 opt.ask _ (p.cmp .neq d.2.1 (0:Int)) (
 opt.ret _ (Bool.false,())) (
 opt.need _ (p.leN (p.add 0 (p.len d.1)) (p.len d.1))<|
 opt.bnd ((LD×T1)) _ (G30 p ((p.cut d.1 0 (p.len d.1)),())) fun e=>
 opt.bnd ((LD×T1)) _ (G35 p (e.1,())) fun f=>
 opt.bnd ((LD×T1)) _ (G31 p ((p.cut d.1 0 (p.len d.1)),())) fun g=>
 opt.bnd ((LD×(LD×(LD×T6)))) _ (
 opt.run ((LD×(LD×(LD×T6)))) (
 opt.ask _ (p.cmp .neq e.2.1 (0:Int)) (
 opt.ret _ (a.1,(a.2.1,((p.cut d.1 0 (p.len d.1)),(Bool.true,()))))) (
 opt.ask _ (p.cmp .neq f.2.1 (0:Int)) (
 opt.ret _ (a.1,(a.2.1,((p.cut d.1 0 (p.len d.1)),(Bool.true,()))))) (
 opt.need _ (p.and (p.leN (p.add 0 (p.len f.1)) (p.len f.1)) (p.and Bool.true Bool.true))<|
 opt.bnd T0 _ (G21 p ((p.cut f.1 0 (p.len f.1)),((p.cut d.1 0 (p.len d.1)),()))) fun h=>
 opt.ask _ (bif h.1 then Bool.false else Bool.true) (
 opt.ret _ (a.1,(a.2.1,((p.cut d.1 0 (p.len d.1)),(Bool.true,()))))) (
 opt.ret _ (a.1,(a.2.1,((p.cut d.1 0 (p.len d.1)),((p.cmp .neq g.2.1 (5:Int)),()))))))))) fun i=>
 opt.ask _ i.2.2.2.1 (
 opt.ret _ (Bool.false,())) (
 opt.bnd ((LD×T1)) _ (G30 p (i.1,())) fun j=>
 opt.bnd ((LD×T1)) _ (G31 p (i.1,())) fun k=>
 opt.ask _ (p.cmp .eql j.2.1 (0:Int)) (
 opt.bnd ((LD×T1)) _ (G33 p (j.1,())) fun l=>
 opt.bnd T0 _ (
 opt.run T0 (
 opt.ask _ (p.cmp .eql k.2.1 (5:Int)) (
 opt.ask _ (p.cmp .eql l.2.1 (0:Int)) (
 opt.need _ (p.and (p.leN (p.add 0 (p.len l.1)) (p.len l.1)) (p.and Bool.true Bool.true))<|
 opt.bnd T0 _ (G21 p ((p.cut l.1 0 (p.len l.1)),(i.1,()))) fun m=>
 opt.ask _ m.1 (
 opt.bnd T2 _ (G28 p (i.1,(i.2.1,()))) fun n=>
 opt.ask _ (p.cmp .neq n.1 (0:Int)) (
 opt.bnd T0 _ (G14 p ()) fun o=>
 opt.ret _ (o.1,())) (
 opt.ret _ (Bool.false,()))) (
 opt.ret _ (Bool.false,()))) (
 opt.ret _ (Bool.false,()))) (
 opt.ret _ (Bool.false,())))) fun q=>
 opt.ret _ (q.1,())) (
 opt.ask _ (p.cmp .neq j.2.1 (13:Int)) (
 opt.bnd T0 _ (
 opt.run T0 (
 opt.ask _ (p.cmp .eql j.2.1 k.2.1) (
 opt.ask _ (p.cmp .eql (p.ofNat (p.len j.1)) (0:Int)) (
 opt.ask _ (p.cmp .eql (p.ofNat (p.len k.1)) (0:Int)) (
 opt.bnd T0 _ (G14 p ()) fun r=>
 opt.ret _ (r.1,())) (
 opt.ret _ (Bool.false,()))) (
 opt.ret _ (Bool.false,()))) (
 opt.ret _ (Bool.false,())))) fun t=>
 opt.ret _ (t.1,())) (
 opt.bnd T0 _ (
 opt.run T0 (
 opt.ask _ (p.cmp .eql k.2.1 (0:Int)) (
 opt.bnd T2 _ (G28 p (i.1,(k.1,()))) fun u=>
 opt.ask _ (p.cmp .eql u.1 (0:Int)) (
 opt.bnd T2 _ (G29 p (i.1,(k.1,()))) fun v=>
 opt.ask _ (p.cmp .eql v.1 (0:Int)) (
 opt.bnd T0 _ (G21 p (i.2.2.1,(i.1,()))) fun w=>
 opt.ask _ (bif w.1 then Bool.false else Bool.true) (
 opt.bnd T0 _ (G14 p ()) fun z=>
 opt.ret _ (z.1,())) (
 opt.ret _ (Bool.false,()))) (
 opt.ret _ (Bool.false,()))) (
 opt.ret _ (Bool.false,()))) (
 opt.ret _ (Bool.false,())))) fun a1=>
 opt.ret _ (a1.1,()))))))
theorem ok6:CtrOk PG ctr6 (G6 std):=okF (a:=an6) (l:=la6) (gC v5a (gC v5b (gC v47 (gC v06 (gC v48 (gC v49 (gC w9x (gC ok34 (gC ok14 (gN)))))))))) (by kernel_rfl) fun _ _=>by kernel_rfl
end Go.Am
end
section
namespace Go.Am
open T11
theorem y93 {d:List (List Int)} (h:z1c d=0):z1a (z1l d)=0:=by
 have hl:=z6a h
 have hwl:=z5l d
 rw [z1a,if_neg (by omega),if_pos]
 intro i hi
 have hi':i<d.length:=by omega
 have h1:=v0c h hi'
 have h2:gI (z1l d) i=(wn d i:Nat):=by rw [gI,z1v (y2u h hi')]
 unfold y1a
 rw [h2]
 omega
theorem x8o {d:List (List Int)} (h:z1c d=0):Lan (z1l d):=by
 have hl:=z6a h
 have hwl:=z5l d
 have ht:=y9e h
 have hrl:=z5s (z1l d)
 have hs:y7q d.length ((z09 (z1l d)).map Int.toNat):=by
  have h1:=z4o (z1l d)
  rw [hwl] at h1
  have h2:=h1.map Int.toNat
  have e:(y2p d.length).map Int.toNat=List.range d.length:=by
   rw [y2p,List.map_map]
   exact (List.map_congr_left fun a _=>by simp).trans (List.map_id _)
  rw [e] at h2
  exact h2
 have hT:=w01 ht hs
 rw [y65,hwl]
 have hsum:∀ k,k≤d.length→z1i (z1l d) ((z09 (z1l d)).take k)=((sm k fun q=>cnt d.length (byR (bt d) ((z09 (z1l d)).map Int.toNat) q):Nat):Int):=by
  intro k
  induction k with
  |zero=>intro _; rfl
  |succ k ih=>
   intro hk
   have hx:=z2f (l:=z09 (z1l d)) (q:=k) (by omega)
   have ea:at_ ((z09 (z1l d)).map Int.toNat) k=(gI (z09 (z1l d)) k).toNat:=by
    rw [at_,List.getD_eq_getElem?_getD,List.getElem?_map,hx]; rfl
   have hlt:=hs.lt (show k<d.length by omega)
   rw [List.take_add_one,hx,z6t,ih (by omega),z3u]
   have:z1i (z1l d) (some (gI (z09 (z1l d)) k)).toList=((cnt d.length (byR (bt d) ((z09 (z1l d)).map Int.toNat) k):Nat):Int):=by
    rw [w5k hs,ea]
    show z1i (z1l d) [gI (z09 (z1l d)) k]=_
    rw [z6s,gI,z1v (y2u h (by rw [←ea]; exact hlt))]
    rfl
   rw [this]
   omega
 intro k h1 h2 hsh
 have hL:=w67 hT k h2
 rw [hsum k h2] at hsh
 rcases hsh with hsh|⟨e,hsh⟩
 ·omega
 ·subst e
  have:=x1i hT d.length (Nat.le_refl _)
  omega
theorem x0z {w l:List Int} (hL:Lan w):z5o w l≠0:=by
 intro h
 unfold z5o at h
 by_cases h1:z1a w=0
 ·rw [if_pos h1] at h
  by_cases h2:z1o l w.length
  ·rw [if_pos h2] at h
   by_cases h3:z3z w.length l.length (z1i w l)
   ·have hf:=y48 h2
    have hsub:(l.map Int.toNat).Sublist (List.range w.length):=by rw [←hf]; exact List.filter_sublist
    have hm:=hsub.map fun i=>gI w i
    have ew:(List.range w.length).map (fun i=>gI w i)=w:=by
     apply List.ext_getElem?
     intro i
     by_cases hi:i<w.length
     ·rw [List.getElem?_map,List.getElem?_range hi,z2f hi]; rfl
     ·rw [List.getElem?_eq_none (by simp; omega),List.getElem?_eq_none (by omega)]
    rw [ew,List.map_map] at hm
    refine (z9p w).2 ⟨_,hm,?_⟩ hL
    rw [List.length_map]
    exact h3
   ·rw [if_neg h3] at h; cases h
  ·rw [if_neg h2] at h; cases h
 ·rw [if_neg h1] at h; exact h1 h
theorem v4v (w l:List Int) (s:Int) (hs:(Lit.int IntKind.u8 s).wf=true) (b:Int) (hb:(Lit.int IntKind.u64 b).wf=true):G6 std (z0d w,(z0d l,(s,(b,()))))=some (true,()):=by
 have hg:G14 std ()=some (true,()):=w9n
 unfold G6
 by_cases a:14<w.length
 ·have a':((w.length:Nat):Int)>14:=by omega
  simp only [z0x,z0y,eq_self,not_true,not_false_eq_true,decide_true,decide_false,Bool.not_true,Bool.not_false,Int.reduceLT,Int.reduceLE,Int.reduceNeg,Int.reduceGT,cond_true,cond_false,Int.reduceEq,Nat.le_refl,Bool.and_true,List.drop_zero,z0k,a',hg]
 ·have a':¬ ((w.length:Nat):Int)>14:=by omega
  by_cases c:14<l.length
  ·have c':((l.length:Nat):Int)>14:=by omega
   simp only [z0x,z0y,eq_self,not_true,not_false_eq_true,decide_true,decide_false,Bool.not_true,Bool.not_false,Int.reduceLT,Int.reduceLE,Int.reduceNeg,Int.reduceGT,cond_true,cond_false,Int.reduceEq,Nat.le_refl,Bool.and_true,List.drop_zero,z0k,a',c',hg]
  ·have c':¬ ((l.length:Nat):Int)>14:=by omega
   have hsr:=v0f hs
   have h34:G34 std (s,(b,()))=some (z0o fz (d7 s b),()):=w9j hsr.1 hsr.2
   have hd:=w4v s b
   have hr:=w4u s b
   generalize d7 s b=d at h34 hd hr
   have hl:=z6a hd
   have hwl:=z5l d
   have h35:G35 std (z0o fz d,())=_:=w2u d hr
   rw [if_pos hd] at h35
   have hLx:=x8o hd
   have hSx:=y93 hd
   obtain ⟨y,h30,hy,hyw⟩:=x8j (z1l d) hSx hLx
   have h31:G31 std (z0d (z1l d),())=_:=x8i (z1l d) hSx hLx
   have h35y:G35 std (z0o fe y,())=_:=w2u y (y31 hy)
   rw [if_pos hy,hyw] at h35y
   have h21:G21 std (z0d (z1l d),(z0d (z1l d),()))=_:=x8k (z1l d) (z1l d) (by omega)
   have ht:(z0d (z1l d)).take (z0d (z1l d)).length=z0d (z1l d):=List.take_length
   have h28:G28 std (z0d w,(z0d l,()))=_:=w2v w l (by omega)
   have e21:G21 std (z0d (z1l d),(z0d w,()))=_:=x8k (z1l d) w (by omega)
   simp only [decide_true] at h21
   have hX:(z0d (z1l d)).length=d.length:=by rw [z0k,hwl]
   rw [hX] at ht
   by_cases h:z1a w=0
   ·by_cases hL:Lan w
    ·obtain ⟨d',k30,hd',hw'⟩:=x8j w h hL
     have k31:G31 std (z0d w,())=_:=x8i w h hL
     have k33:G33 std (z0o fe d',())=_:=w9k d' (y31 hd')
     rw [if_pos hd',hw'] at k33
     have k21:G21 std (z0d w,(z0d w,()))=_:=x8k w w (by omega)
     have kt:(z0d w).take w.length=z0d w:=by rw [←z0k w,List.take_length]
     simp only [decide_true] at k21
     have hns:¬ z5o w l=0:=x0z hL
     have hlw:=z0k w
     have hll:=z0k l
     generalize z0d (z1l d)=X at*
     generalize z0d w=W at*
     generalize z0d l=LL at*
     simp only [z0x,z0y,eq_self,not_true,not_false_eq_true,decide_true,decide_false,Bool.not_true,Bool.not_false,Int.reduceLT,Int.reduceLE,Int.reduceNeg,Int.reduceGT,cond_true,cond_false,Int.reduceEq,Nat.le_refl,Bool.and_true,List.drop_zero,hlw,hll,a',c',h34,h35,hX,ht,h30,h31,h35y,h21,k30,k31,k33,kt,k21,h28,hns,hg,ne_eq]
    ·obtain ⟨k,hk,hkl,k31⟩:=w5s w h hL
     have k30:G30 std (z0d w,())=_:=w5u w h hL
     have hsl:(z37 w k).length≤1000000:=by rw [z37,z4x,List.length_take]; omega
     have k28:G28 std (z0d w,(z0d (z37 w k),()))=_:=w2v w (z37 w k) hsl
     have k29:G29 std (z0d w,(z0d (z37 w k),()))=_:=w9l w (z37 w k) hsl
     rw [hk] at k28 k29
     have hne:¬ z1l d=w:=fun e=>hL (by rw [←e]; exact hLx)
     rw [decide_eq_false hne] at e21
     have hlw:=z0k w
     have hll:=z0k l
     generalize z0d (z1l d)=X at*
     generalize z0d w=W at*
     generalize z0d l=LL at*
     simp only [z0x,z0y,eq_self,not_true,not_false_eq_true,decide_true,decide_false,Bool.not_true,Bool.not_false,Int.reduceLT,Int.reduceLE,Int.reduceNeg,Int.reduceGT,cond_true,cond_false,Int.reduceEq,Nat.le_refl,Bool.and_true,List.drop_zero,hlw,hll,a',c',h34,h35,hX,ht,h30,h31,h35y,h21,k30,k31,k28,k29,e21,hg,ne_eq]
   ·have k30:G30 std (z0d w,())=_:=w5v w h
    have k31:G31 std (z0d w,())=_:=w5t w h
    have h13:¬ z1a w=13:=by
     rcases x59 h with e|e<;>rw [e]<;>decide
    have hlw:=z0k w
    have hll:=z0k l
    generalize z0d (z1l d)=X at*
    generalize z0d w=W at*
    generalize z0d l=LL at*
    simp only [z0x,z0y,eq_self,not_true,not_false_eq_true,decide_true,decide_false,Bool.not_true,Bool.not_false,Int.reduceLT,Int.reduceLE,Int.reduceNeg,Int.reduceGT,cond_true,cond_false,Int.reduceEq,Nat.le_refl,Bool.and_true,List.drop_zero,hlw,hll,a',c',h34,h35,hX,ht,h30,h31,h35y,h21,k30,k31,h,h13,hg,ne_eq,List.length_nil,Int.natCast_zero]
end Go.Am
end
section
namespace Go.Proofs.Ytjlhhpjkmgediaa
open Go.ChangeShapes Go.WideShapes Go.ChangeAt Go.RowKit Go.Am
theorem v0e {e0:List (List D)} {e1:List (List D)} {e2:Int} {e3:Int} (h:G6 std (e0,e1,e2,e3,())=some (true,())):∃ h',z9b Try.prog 6 (toA [.list false 1 e0, .list false 1 e1, .int .u8 e2, .int .u64 e3]) [] (.d (.bool true)) h':=by
 have:=(ok6.2 (e0,e1,e2,e3,()) (true,()) h).2
 exact ⟨_,this⟩
theorem shp6:w29 Try.prog 6 Try.f6.params.toList=true:=by kernel_rfl
theorem rt6:Try.f6.resultTypes=#[Try.f6.resultTypes.getD 0 0]:=by kernel_rfl
theorem rb6:Try.prog.underlying (Try.f6.resultTypes.getD 0 0)=some .bool:=by kernel_rfl
theorem w8y:Try.f6.params.toList.all (fun t=>decide (t<Try.prog.types.size))=true:=by kernel_rfl
set_option maxRecDepth 100000 in
theorem x7n (H:Type) (enc:TypeId×Value→H) (W:World) (base:Nat) (args:Array Value) (ds gs:List (DataW H)) (before:List MemPlace)
  (hval:∀ (j:Nat) t v,Try.f6.params[j]?=some t→args[j]?=some v→Value.okWide Try.prog W .any base t v)
  (hW:DataW.Whole enc Try.prog Try.f6.params.toList Rows.panelPossibleSpec.vars false W args.toList ds gs before):
  Calls Try.prog 6 args W fun e W'=>∃ v,e= .returned v∧Rows.panelPossibleSpec.post enc Try.prog Try.f6 false true false false W args v W':=by
 have hW':=hW
 obtain ⟨p,q,hA0,hV,rfl,hfz,hnd⟩:=hW
 have hA:DataW.TrodAll enc Try.prog W 0 (fun _=>true) true Try.f6.params.toList args.toList ds p:=hA0
 obtain ⟨xs,h1,h2,h3⟩:=x77 (O:=fun _=>False) (fun _ h=>h) shp6 (x6k hval) hA
 have hd:∃ x0 x1 x2 x3,xs=[x0,x1,x2,x3]∧(DK (.list [.int .i64]) x0)∧(DK (.list [.int .i64]) x1)∧(DK (.int .u8) x2)∧(DK (.int .u64) x3):=by
  match xs,h1 with
  |[x0,x1,x2,x3],h1=>exact ⟨x0,x1,x2,x3,rfl,h1.1,h1.2.1,h1.2.2.1,h1.2.2.2.1⟩
 obtain ⟨x0,x1,x2,x3,rfl,k0,k1,k2,k3⟩:=hd
 obtain ⟨l0,rfl⟩:=x6f k0
 obtain ⟨l1,rfl⟩:=x6f k1
 obtain ⟨n2,rfl,wf2⟩:=v0g k2
 obtain ⟨n3,rfl,wf3⟩:=w57 k3
 obtain ⟨h',hr⟩:=v0e (v4v l0 l1 n2 wf2 n3 wf3)
 exact (y7j hr h2 h3).mono fun e W' ⟨he,hs⟩=>⟨_,he,x9q laid rowed sized w8y rfl rt6 rb6 (fun ds hd=>by
  match ds,hd with
  |[d0,d1,d2,d3],_=>exact ⟨rfl,rfl,rfl⟩) hW' hs⟩
set_option maxRecDepth 100000 in
theorem w30 (os:Os) (started:os.Started) (H:Type) (enc:TypeId×Value→H):
  ReturnsInHanded {} Try.checked os 6 .any (Rows.panelPossibleSpec.pre6 enc Try.prog Try.f6 Rows.panelPossibleRow.domain false) (Rows.panelPossibleSpec.post enc Try.prog Try.f6 false true false false):=by
 refine returnsInHanded_of_change (C:=Try.checked) own started (by kernel_rfl) Try.func6
  (ChangeSpec.witness6 (enc:=enc) (C:=Try.checked) false ⟨#[],#[.slice none 0 0, .slice none 0 0, .int .u8 0, .int .u64 0],[]⟩ 8 (by kernel_rfl) (by kernel_rfl) (by kernel_rfl) (by kernel_rfl)) ?_
 intro W base args ds gs before hval hW _ _
 exact x7n H enc W base args ds gs before hval hW
set_option maxRecDepth 100000 in
theorem y0e:Rows.panelPossibleRow.holds Try.pinned (OpenSpec.ofChange Rows.panelPossibleSpec):=
 OpenClaim.holds_of_wide 6 Try.f6 rfl rfl rfl rfl rfl rfl rfl ⟨rfl,rfl,rfl,rfl,rfl⟩ rfl rfl rfl rfl rfl (by kernel_rfl) Try.func6 (by kernel_rfl)
  (of_decide_eq_true (by kernel_rfl)) (by unfold Func.isWrapper; first|(rw [if_pos (by decide+kernel)]; kernel_rfl)|(rw [if_neg (by decide+kernel)]; exact ⟨rfl,rfl⟩))
  (fun os started H enc _=>w30 os started H enc)
theorem panelPossible_holds:Rows.PanelPossibleSaid:=y0e
end Go.Proofs.Ytjlhhpjkmgediaa
end
