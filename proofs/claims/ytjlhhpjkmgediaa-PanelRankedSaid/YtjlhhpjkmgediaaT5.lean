/-
  Proved: PanelRanked: for every input the call returns true, and each argument reads afterwards as it read before; there is no condition.
-/
import Derived.Test.YtjlhhpjkmgediaaT4
import Derived.Shelf.Spec.SlicesInsertGrow
import Derived.Test.YtjlhhpjkmgediaaProg
import Derived.KernelRfl
set_option linter.unusedVariables false
set_option linter.unusedSimpArgs false
set_option linter.unusedSectionVars false
set_option maxRecDepth 100000
set_option maxHeartbeats 0
section
namespace Go.Am
open Go.Proofs Go.Shelf
structure x85 (P:Program) (f:FuncId) (t:TypeId):Prop where
 shift:∀ (b off n c i vb voff vc:Nat) (cs:List Value) (v:Value) (w:World),i<n→n+1≤c→n+1≤9223372036854775807→vb≠b→cs.length=n→
  (∀ j v,cs[j]?=some v→w.cell? ⟨b,off+j,none⟩=some v)→(∀ j,j<n+1→(w.cell? ⟨b,off+j,none⟩).isSome=true)→(∀ j,j<n+1→w.frozen? ⟨b,off+j,none⟩=false)→
  w.cell? ⟨vb,voff,none⟩=some v→(∀ v∈cs,v.oneCell'=true)→v.oneCell'=true→
  (∀ x,w.frozen? ⟨vb,x,none⟩=false)→(∃ tA kA,w.shape? vb=some (tA,kA))→(∃ tB kB,w.shape? b=some (tB,kB)∧kB≠0)→
  Calls P f #[.slice (some ⟨b,off,none⟩) n c, .int .i64 i, .slice (some ⟨vb,voff,none⟩) 1 vc] w fun e w'=>
   e= .returned (.slice (some ⟨b,off,none⟩) (n+1) c)∧w'=(w.drew.setCells b (off+(i+1)) (cs.drop i)).setCells b (off+i) [v]
 room:∀ (b off n c vb voff vc:Nat) (v:Value) (w:World),n+1≤c→n+1≤9223372036854775807→(w.cell? ⟨b,off+n,none⟩).isSome=true→w.frozen? ⟨b,off+n,none⟩=false→
  w.cell? ⟨vb,voff,none⟩=some v→v.oneCell'=true→
  Calls P f #[.slice (some ⟨b,off,none⟩) n c, .int .i64 n, .slice (some ⟨vb,voff,none⟩) 1 vc] w fun e w'=>
   e= .returned (.slice (some ⟨b,off,none⟩) (n+1) c)∧w'=w.setCells b (off+n) [v]
 last:∀ (base:Option Addr) (n c vb voff vc:Nat) (cs:List Value) (v:Value) (w:World),n≤c→c<n+1→(n+1)*8≤140737488355328→cs.length=n→(base=none→n=0)→
  (∀ a,base=some a→∀ j v,cs[j]?=some v→w.cell? (a.add j)=some v)→w.cell? ⟨vb,voff,none⟩=some v→v.oneCell'=true→
  Calls P f #[.slice base n c, .int .i64 n, .slice (some ⟨vb,voff,none⟩) 1 vc] w fun e w'=>
   e= .returned (.slice (some ⟨w.heap.size,0,none⟩) (n+1) (grownCap w (n+1) c t))∧
   w'=w.drew.alloc (.cells ((cs++[v]).toArray++Builtin.zeroCells (Value.int .i64 0).cells (grownCap w (n+1) c t - (n+1))) t)
 grow:∀ (b off n c i vb voff vc:Nat) (cs:List Value) (v:Value) (w:World),i<n→n≤c→c<n+1→(n+1)*8≤140737488355328→cs.length=n→
  (∀ j v,cs[j]?=some v→w.cell? ⟨b,off+j,none⟩=some v)→w.cell? ⟨vb,voff,none⟩=some v→(∀ v∈cs,v.oneCell'=true)→v.oneCell'=true→
  Calls P f #[.slice (some ⟨b,off,none⟩) n c, .int .i64 i, .slice (some ⟨vb,voff,none⟩) 1 vc] w fun e w'=>
   e= .returned (.slice (some ⟨w.heap.size,0,none⟩) (n+1) (grownCap w (n+1) c t))∧
   w'=(((w.alloc (.cells ((cs.take i).toArray++Builtin.zeroCells (Value.int .i64 0).cells (n+1 - i)++Builtin.zeroCells (Value.int .i64 0).cells (grownCap w (n+1) c t - (n+1))) t)).drew.setCells w.heap.size i [v]).drew).setCells w.heap.size (i+1) (cs.drop i)
 cap:∀ (w:World) (n c:Nat),c<n→n≤1000001→n≤grownCap w n c t
theorem y0f (w:World) (b:Nat) (x y:Obj):World.setObj (World.setObj w b x) b y=World.setObj w b y:=by
 unfold World.setObj
 congr 1
 apply Array.ext_getElem?
 intro i
 simp only [Array.getElem?_setIfInBounds,Array.size_setIfInBounds]
 by_cases h:b=i
 ·subst h; simp
 ·simp [h]
theorem z3y (b:Nat) (t:TypeId):∀ (vs:List Value) (o:Nat) (w:World) (c:Array Value),w.heap[b]?=some (.cells c t (0,0))→o+vs.length≤c.size→
  ∃ c':Array Value,c'.size=c.size∧(∀ j,c'[j]?=if o≤j∧j<o+vs.length then vs[j - o]? else c[j]?)∧w.setCells b o vs=World.setObj w b (.cells c' t (0,0))
 |[],o,w,c,h,hl=>by
  refine ⟨c,rfl,fun j=>by simp; omega,?_⟩
  simp only [World.setCells,World.setObj]
  have hlt:b<w.heap.size:=(Array.getElem?_eq_some_iff.1 h).1
  have:w.heap.setIfInBounds b (.cells c t (0,0))=w.heap:=by
   apply Array.ext_getElem?
   intro i
   rw [Array.getElem?_setIfInBounds]
   by_cases hi:b=i
   ·subst hi; rw [h]; simp [hlt]
   ·simp [hi]
  rw [this]
 |v::vs,o,w,c,h,hl=>by
  have hlt:b<w.heap.size:=(Array.getElem?_eq_some_iff.1 h).1
  have h1:w.setCell ⟨b,o,none⟩ v=World.setObj w b (.cells (c.setIfInBounds o v) t (0,0)):=by
   unfold World.setCell World.setObj
   congr 1
   apply Array.ext_getElem?
   intro i
   rw [Array.getElem?_modify,Array.getElem?_setIfInBounds]
   by_cases hi:b=i
   ·subst hi; rw [h]; simp [hlt]
   ·simp [hi]
  simp only [List.length_cons] at hl
  obtain ⟨c',a1,a2,a3⟩:=z3y b t vs (o+1) (World.setObj w b (.cells (c.setIfInBounds o v) t (0,0))) (c.setIfInBounds o v) (z0p _ _ _ hlt) (by simp; omega)
  refine ⟨c',by rw [a1]; simp,fun j=>?_,by rw [World.setCells,h1,a3,y0f]⟩
  rw [a2 j]
  by_cases hj:o+1≤j∧j<o+1+vs.length
  ·rw [if_pos hj,if_pos (by simp; omega)]
   rw [show j - o=(j - (o+1))+1 by omega]; rfl
  ·rw [if_neg hj,Array.getElem?_setIfInBounds]
   by_cases he:o=j
   ·subst he
    rw [if_pos rfl,if_pos (by omega),if_pos (by simp)]; simp
   ·rw [if_neg he,if_neg (by simp; omega)]
section
variable {P:Program}
theorem y2t {es:List (List D)} {x:D} {i:Nat} (hi:i≤es.length) (k:Nat):(es.take i++[x]::es.drop i)[k]?=if k<i then es[k]? else if k=i then some [x] else es[k - 1]?:=by
 rw [List.getElem?_append]
 have hl:(es.take i).length=i:=by simp; omega
 rw [hl]
 by_cases h1:k<i
 ·rw [if_pos h1,if_pos h1,List.getElem?_take,if_pos h1]
 ·rw [if_neg h1,if_neg h1]
  by_cases h2:k=i
  ·subst h2; simp
  ·rw [if_neg h2,show k - i=(k - i - 1)+1 by omega,List.getElem?_cons_succ,List.getElem?_drop]
   congr 1; omega
theorem w0l {f:FuncId} {t:TypeId} (hS:x85 P f t) {es:List (List D)} {x:D} {i:Nat} (hi:i≤es.length) (hn:es.length≤1000000):
  z9h P f [.slice 0 1 0 es.length none, .d (.int .i64 i), .slice 1 1 0 1 (some 1)] [.row es, .row [[x]]] (.slice 2 1 0 (es.length+1) none) [.dead, .row [[x]], .row (es.take i++[x]::es.drop i)]:=⟨by
 intro ρ vs w cs0 hr hdm har
 obtain ⟨hv1,hv2⟩:=har
 have hs1:vs.size=3:=hv1
 have hnew:ρ 2=none:=by
  cases hq:ρ 2 with
  |none=>rfl
  |some L=>have:=hdm 2 (by rw [hq]; simp); simp at this
 obtain ⟨L1,vc,hL1,hz1,hvs2⟩:∃ L vc,ρ 1=some L∧L.esz=1∧vs.getD 2 undef= .slice (some ⟨L.blk,L.base,none⟩) 1 vc:=by
  have hv:=hv2 2 _ rfl
  generalize hq:vs.getD 2 undef=q at hv
  cases hv with
  |slice _ _ _ _ _ L a c h1 h2 h3 h4 h5=>
   refine ⟨L,c,h1,h2,?_⟩
   rw [h3 (by omega)]; simp
 have hvs1:vs.getD 1 undef= .int .i64 i:=by
  have hv:=hv2 1 _ rfl
  generalize hq:vs.getD 1 undef=q at hv
  cases hv with|d hv=>cases hv; rfl
 obtain ⟨hlt1,ho1⟩:=hr.obj 1 L1 hL1
 obtain ⟨_,c1,t1,hcb1,_,hcell1⟩:=(show z1n P ρ _ w L1 (.row [[x]]) from ho1)
 obtain ⟨v,hv,hvone,hvrel⟩:=hcell1 0 [x] 0 x rfl rfl
 rw [hz1] at hv
 simp only [Nat.zero_mul,Nat.add_zero] at hv
 have hvc:w.cell? ⟨L1.blk,L1.base,none⟩=some v:=z7s hcb1 hv
 have hargs:∀ q,vs.getD 0 undef=q→vs=#[q, .int .i64 i, .slice (some ⟨L1.blk,L1.base,none⟩) 1 vc]:=by
  intro q hq
  apply Array.ext (by simpa using hs1)
  intro k h1 h2
  simp only [Array.getD_eq_getD_getElem?] at hq hvs1 hvs2
  match k,h1,h2 with
  |0,h1,h2=>rw [Array.getElem?_eq_getElem h1] at hq; simpa using hq
  |1,h1,h2=>rw [Array.getElem?_eq_getElem h1] at hvs1; simpa using hvs1
  |2,h1,h2=>rw [Array.getElem?_eq_getElem h1] at hvs2; simpa using hvs2
  |k+3,h1,h2=>simp at h2; omega
 have grown:∀ (c:Nat) (cs:List Value) (cells:Array Value) (d nc:Nat),cs.length=es.length→(∀ (k:Nat) (r:List D),es[k]?=some r→∃ y u,r=[y]∧cs[k]?=some u∧u.oneCell'=true∧z1q (z0j ρ [.row es, .row [[x]]]) w y u)→
   z0u w.drawn d→es.length+1≤nc→(∀ k,k<es.length+1→cells[k]?=if k<i then cs[k]? else if k=i then some v else cs[k - 1]?)→cells.size=nc→
   ∀ fr,Comes P (lone (Frame.enter P f vs .normal) cs0 w) (lone fr cs0 { World.push w (.cells cells t) with drawn:=d }) (.returned (.slice (some ⟨w.heap.size,0,none⟩) (es.length+1) nc))→fr.fn=f→fr.leaving P { World.push w (.cells cells t) with drawn:=d } (.returned (.slice (some ⟨w.heap.size,0,none⟩) (es.length+1) nc))→
   ∃ ρ' v w' fr,Steps P (lone (Frame.enter P f vs .normal) cs0 w) (lone fr cs0 w')∧fr.fn=f∧fr.leaving P w' (.returned v)∧z0s ρ' (z0j ρ' [.dead, .row [[x]], .row (es.take i++[x]::es.drop i)]) w' (.slice 2 1 0 (es.length+1) none) v∧
    z0b P ρ' [.dead, .row [[x]], .row (es.take i++[x]::es.drop i)] w'∧Dom ρ' [.dead, .row [[x]], .row (es.take i++[x]::es.drop i)]∧Ext (· <2) ρ [.row es, .row [[x]]] w ρ' [.dead, .row [[x]], .row (es.take i++[x]::es.drop i)] w':=by
  intro c cs cells d nc hcs hrows hd hnc hcells hsz fr h1 h2 h3
  have hr0:=hr.kill 0
  have hx0:=Ext.kill (· <2) ρ [.row es, .row [[x]]] w 0
  have hk0:=hx0.keep
  have hkp:=z5r hr0 hnew ⟨w.heap.size,0,1⟩ (.row (es.take i++[x]::es.drop i)) (.cells cells t) rfl
  have hobj:z1n P (ρ.put 2 ⟨w.heap.size,0,1⟩) (z0j (ρ.put 2 ⟨w.heap.size,0,1⟩) (z03 [.dead, .row [[x]]] 2 (.row (es.take i++[x]::es.drop i)))) (World.push w (.cells cells t)) ⟨w.heap.size,0,1⟩ (.row (es.take i++[x]::es.drop i)):=by
   refine ⟨Nat.one_pos,cells,t,z2r _ _,fun k r hk=>?_,fun k r j y hk hy=>?_⟩
   ·rw [y2t hi] at hk
    split at hk
    ·obtain ⟨y,_,rfl,_⟩:=hrows k r hk; rfl
    ·split at hk
     ·cases hk; rfl
     ·obtain ⟨y,_,rfl,_⟩:=hrows _ r hk; rfl
   ·have hkl:k<es.length+1:=by
     have:=(List.getElem?_eq_some_iff.1 hk).1
     simp at this; omega
    rw [Nat.mul_one,Nat.zero_add]
    rw [y2t hi] at hk
    have hc:=hcells k hkl
    have fin:∀ (y0:D) (u:Value),r=[y0]→u.oneCell'=true→z1q (z0j ρ [.row es, .row [[x]]]) w y0 u→cells[k]?=some u→∃ v,cells[k+j]?=some v∧v.oneCell'=true∧z1q (z0j (ρ.put 2 ⟨w.heap.size,0,1⟩) (z03 [.dead, .row [[x]]] 2 (.row (es.take i++[x]::es.drop i)))) (World.push w (.cells cells t)) y v:=by
     intro y0 u hr1 hu hrel hcu
     subst hr1
     cases j with
     |succ j=>simp at hy
     |zero=>simp at hy; subst hy; exact ⟨u,hcu,hu,(hrel.keep hk0).keep hkp⟩
    split at hk
    ·rename_i hlt
     obtain ⟨y0,u,hr1,hcu,hu,hrel⟩:=hrows k r hk
     exact fin y0 u hr1 hu hrel (by rw [hc,if_pos hlt]; exact hcu)
    ·rename_i hge
     split at hk
     ·rename_i hki
      cases hk
      exact fin x v rfl hvone hvrel (by rw [hc,if_neg hge,if_pos hki])
     ·rename_i hne
      obtain ⟨y0,u,hr1,hcu,hu,hrel⟩:=hrows _ r hk
      exact fin y0 u hr1 hu hrel (by rw [hc,if_neg hge,if_neg hne]; exact hcu)
  have hnw:=hr0.new hnew 1 _ _ hobj
  have hnw2:=hnw.drawn d hd
  refine ⟨ρ.put 2 ⟨w.heap.size,0,1⟩,_,_,fr,h1,h2,h3,?_,hnw2,?_,?_⟩
  ·refine .slice 2 1 0 _ none ⟨w.heap.size,0,1⟩ _ nc (Rho.put_same _ _ _) rfl (fun _=>by simp) (.inr ⟨rfl,nc,?_,by simp⟩) hnc
   show z1h (World.push w _) _=_
   rw [z0v (z2r _ _),hsz]
  ·intro id hid
   by_cases he:id=2
   ·subst he; simp
   ·rw [Rho.put_ne _ _ _ _ he] at hid
    have:=hdm id hid
    simp at this⊢; omega
  ·exact hx0.trans (((Ext.new hr0 hnew ⟨w.heap.size,0,1⟩ (.row (es.take i++[x]::es.drop i)) (.cells cells t) rfl).trans (Ext.drawn _ _ _ _ d hd)).mono (fun id hid=>by show id≠2; have hid:id<2:=hid; omega))
 have hv0:=hv2 0 _ rfl
 generalize hq0:vs.getD 0 undef=q0 at hv0
 have hva:=hargs q0 hq0
 have key:∀ n,n=es.length→z0s ρ (z0j ρ [.row es, .row [[x]]]) w (.slice 0 1 0 n none) q0→(n=0∧∃ a,q0= .slice a 0 0)∨(∃ L a c,ρ 0=some L∧L.esz=1∧q0= .slice a n c∧n≤c∧(0<c→a=some ⟨L.blk,L.base,none⟩)∧∃ m,z1h w L.blk=some m∧L.base+c≤m):=by
  intro n hn hv
  cases hv with
  |nils _ _ _ _ a _=>exact .inl ⟨rfl,_,rfl⟩
  |slice _ _ _ _ _ L a c h1 h2 h3 h4 h5=>
   rcases h4 with h4|⟨_,m,hm,hle⟩
   ·cases h4
   ·exact .inr ⟨L,a,c,h1,h2,rfl,h5,fun h=>by rw [h3 h]; simp,m,hm,by rw [h2] at hle; omega⟩
 rcases key _ rfl hv0 with ⟨h0,a,rfl⟩|⟨L,a,c,hL,hz,rfl,hnc,haa,m,hm,hroom⟩
 ·
  have hes:es=[]:=List.length_eq_zero_iff.1 h0
  have hi0:i=0:=by omega
  subst hes; subst hi0
  rw [hva] at grown⊢
  obtain ⟨e,w',fr,⟨rfl,hw'⟩,hcm,hfn,hlv⟩:=hS.last a 0 0 L1.blk L1.base vc [] v w (by omega) (by omega) (by omega) rfl (fun _=>rfl) (fun _ _ j u hj=>by simp at hj) hvc hvone cs0
  subst hw'
  have hcp:=hS.cap w 1 0 (by omega) (by omega)
  refine grown 0 [] _ (w.drawn+1) _ rfl (fun k r hk=>by simp at hk) (Nat.le_succ _) hcp (fun k hk=>?_) ?_ fr hcm hfn hlv
  ·have:k=0:=by simp at hk; omega
   subst this
   rw [Array.getElem?_append_left (by simp)]; simp
  ·simp [Builtin.zeroCells,Value.cells]; omega
 ·obtain ⟨hlt,ho⟩:=hr.obj 0 L hL
  obtain ⟨_,c0,t0,hcb,hlen,hcell⟩:=(show z1n P ρ _ w L (.row es) from ho)
  rw [hz] at hlen hcell
  rw [z0v hcb] at hm; cases hm
  have hrow:∀ (k:Nat) (r:List D),es[k]?=some r→∃ y u,r=[y]∧c0[L.base+k]?=some u∧u.oneCell'=true∧z1q (z0j ρ [.row es, .row [[x]]]) w y u:=by
   intro k r hk
   have hl:=hlen k r hk
   match r,hl with
   |[y],_=>
    obtain ⟨u,hu,h1,hrel⟩:=hcell k [y] 0 y hk rfl
    exact ⟨y,u,rfl,by simpa using hu,h1,hrel⟩
  let cs:=(c0.toList.drop L.base).take es.length
  have hcsg:∀ k,k<es.length→cs[k]?=c0[L.base+k]?:=by
   intro k hk
   show ((c0.toList.drop L.base).take es.length)[k]?=_
   rw [List.getElem?_take,if_pos hk,List.getElem?_drop]; simp
  have hcsl:cs.length=es.length:=by
   show ((c0.toList.drop L.base).take es.length).length=_
   rw [List.length_take,List.length_drop]; simp; omega
  have hcs1:∀ u∈cs,u.oneCell'=true:=by
   intro u hu
   obtain ⟨k,hk⟩:=List.getElem?_of_mem hu
   have hkl:k<es.length:=by rw [←hcsl]; exact (List.getElem?_eq_some_iff.1 hk).1
   obtain ⟨y,u',_,h2,h3,_⟩:=hrow k _ (List.getElem?_eq_getElem hkl)
   rw [hcsg k hkl,h2] at hk; cases hk; exact h3
  have hcsc:∀ j u,cs[j]?=some u→w.cell? ⟨L.blk,L.base+j,none⟩=some u:=by
   intro j u hj
   have hjl:j<es.length:=by rw [←hcsl]; exact (List.getElem?_eq_some_iff.1 hj).1
   rw [hcsg j hjl] at hj
   exact z7s hcb hj
  have hrows:∀ (k:Nat) (r:List D),es[k]?=some r→∃ y u,r=[y]∧cs[k]?=some u∧u.oneCell'=true∧z1q (z0j ρ [.row es, .row [[x]]]) w y u:=by
   intro k r hk
   obtain ⟨y,u,h1,h2,h3,h4⟩:=hrow k r hk
   exact ⟨y,u,h1,by rw [hcsg k (List.getElem?_eq_some_iff.1 hk).1]; exact h2,h3,h4⟩
  have hne:L1.blk≠L.blk:=fun e=>by have:=hr.inj 1 0 L1 L hL1 hL rfl rfl e; omega
  have place:∀ (c':Array Value) (d:Nat),c'.size=c0.size→z0u w.drawn d→(∀ k,k<es.length+1→c'[L.base+k]?=if k<i then cs[k]? else if k=i then some v else cs[k - 1]?)→a=some ⟨L.blk,L.base,none⟩→es.length+1≤c→
    ∀ fr,Comes P (lone (Frame.enter P f vs .normal) cs0 w) (lone fr cs0 (World.setObj { w with drawn:=d } L.blk (.cells c' t0 (0,0)))) (.returned (.slice a (es.length+1) c))→fr.fn=f→fr.leaving P (World.setObj { w with drawn:=d } L.blk (.cells c' t0 (0,0))) (.returned (.slice a (es.length+1) c))→
    ∃ ρ' v w' fr,Steps P (lone (Frame.enter P f vs .normal) cs0 w) (lone fr cs0 w')∧fr.fn=f∧fr.leaving P w' (.returned v)∧z0s ρ' (z0j ρ' [.dead, .row [[x]], .row (es.take i++[x]::es.drop i)]) w' (.slice 2 1 0 (es.length+1) none) v∧
     z0b P ρ' [.dead, .row [[x]], .row (es.take i++[x]::es.drop i)] w'∧Dom ρ' [.dead, .row [[x]], .row (es.take i++[x]::es.drop i)]∧Ext (· <2) ρ [.row es, .row [[x]]] w ρ' [.dead, .row [[x]], .row (es.take i++[x]::es.drop i)] w':=by
   intro c' d hsz hd hcells hae hroom1 fr h1 h2 h3
   have hr1:=hr.drawn d hd
   have hx1:Ext (· <2) ρ [.row es, .row [[x]]] w ρ [.row es, .row [[x]]] { w with drawn:=d }:=Ext.drawn _ _ _ _ d hd
   have hbs:∀ k,z1h { w with drawn:=d } L.blk=some k→z1h (World.setObj { w with drawn:=d } L.blk (.cells c' t0 (0,0))) L.blk=some k:=by
    intro k hk
    rw [z0v (w:={ w with drawn:=d }) hcb] at hk; cases hk
    rw [z0v (z0p { w with drawn:=d } L.blk _ hlt),hsz]
   obtain ⟨g1,g2⟩:=hr1.move hL rfl hnew L.base 1 (.row (es.take i++[x]::es.drop i)) rfl (.cells c' t0 (0,0)) hbs (fun kp=>by
    refine ⟨Nat.one_pos,c',t0,z0p _ _ _ hlt,fun k r hk=>?_,fun k r j y hk hy=>?_⟩
    ·rw [y2t hi] at hk
     split at hk
     ·obtain ⟨y,_,rfl,_⟩:=hrows k r hk; rfl
     ·split at hk
      ·cases hk; rfl
      ·obtain ⟨y,_,rfl,_⟩:=hrows _ r hk; rfl
    ·have hkl:k<es.length+1:=by
      have:=(List.getElem?_eq_some_iff.1 hk).1
      simp at this; omega
     rw [Nat.mul_one]
     rw [y2t hi] at hk
     have hc:=hcells k hkl
     have fin:∀ (y0:D) (u:Value),r=[y0]→u.oneCell'=true→z1q (z0j ρ [.row es, .row [[x]]]) w y0 u→c'[L.base+k]?=some u→∃ v,c'[L.base+k+j]?=some v∧v.oneCell'=true∧z1q (z0j (ρ.put 2 ⟨L.blk,L.base,1⟩) (z03 (z03 [.row es, .row [[x]]] 0 .dead) 2 (.row (es.take i++[x]::es.drop i)))) (World.setObj { w with drawn:=d } L.blk (.cells c' t0 (0,0))) y v:=by
      intro y0 u hr1 hu hrel hcu
      subst hr1
      cases j with
      |succ j=>simp at hy
      |zero=>simp at hy; subst hy; exact ⟨u,hcu,hu,(hrel.keep hx1.keep).keep kp⟩
     split at hk
     ·rename_i hlt
      obtain ⟨y0,u,hr1,hcu,hu,hrel⟩:=hrows k r hk
      exact fin y0 u hr1 hu hrel (by rw [hc,if_pos hlt]; exact hcu)
     ·rename_i hge
      split at hk
      ·rename_i hki
       cases hk
       exact fin x v rfl hvone hvrel (by rw [hc,if_neg hge,if_pos hki])
      ·rename_i hne
       obtain ⟨y0,u,hr1,hcu,hu,hrel⟩:=hrows _ r hk
       exact fin y0 u hr1 hu hrel (by rw [hc,if_neg hge,if_neg hne]; exact hcu))
   refine ⟨ρ.put 2 ⟨L.blk,L.base,1⟩,_,_,fr,h1,h2,h3,?_,g1,?_,hx1.trans (g2.mono (fun id hid=>by show id≠2; have hid:id<2:=hid; omega))⟩
   ·refine .slice 2 1 0 _ none ⟨L.blk,L.base,1⟩ _ c (Rho.put_same _ _ _) rfl (fun _=>by rw [hae]; simp) (.inr ⟨rfl,c0.size,?_,by simp; omega⟩) hroom1
    rw [z0v (z0p { w with drawn:=d } L.blk _ hlt),hsz]
   ·intro id hid
    by_cases he:id=2
    ·subst he; simp
    ·rw [Rho.put_ne _ _ _ _ he] at hid
     have:=hdm id hid
     simp at this⊢; omega
  have hin:∀ j,j<c→∃ u,c0[L.base+j]?=some u:=fun j hj=>⟨_,Array.getElem?_eq_getElem (by omega)⟩
  have hsp:∀ j,j<c→(w.cell? ⟨L.blk,L.base+j,none⟩).isSome=true:=fun j hj=>by
   obtain ⟨u,hu⟩:=hin j hj
   rw [z7s hcb hu]; rfl
  have hfz:∀ b ct tt,w.heap[b]?=some (.cells ct tt (0,0))→∀ k,w.frozen? ⟨b,k,none⟩=false:=fun b ct tt hb k=>by
   unfold World.frozen?; simp only [hb]; simp
  by_cases hfit:es.length+1≤c
  ·have hae:=haa (by omega)
   by_cases hlast:i=es.length
   ·
    have hva':vs=#[.slice (some ⟨L.blk,L.base,none⟩) es.length c, .int .i64 es.length, .slice (some ⟨L1.blk,L1.base,none⟩) 1 vc]:=by rw [hva,hae,hlast]
    obtain ⟨e,w',fr,⟨rfl,hw'⟩,hcm,hfn,hlv⟩:=hS.room L.blk L.base es.length c L1.blk L1.base vc v w hfit (by omega) (hsp _ (by omega)) (hfz _ _ _ hcb _) hvc hvone cs0
    rw [←hva'] at hcm
    obtain ⟨c',g1,g2,g3⟩:=z3y L.blk t0 [v] (L.base+es.length) w c0 hcb (by simp; omega)
    rw [g3] at hw'
    subst hw'
    refine place c' w.drawn g1 (z0u.refl _) (fun k hk=>?_) hae hfit fr (by rw [hae]; exact hcm) hfn (by rw [hae]; exact hlv)
    rw [g2]
    by_cases hki:k=es.length
    ·subst hki
     rw [if_pos (by simp),if_neg (by omega),if_pos hlast.symm]; simp
    ·rw [if_neg (by simp; omega),if_pos (by omega),hcsg k (by omega)]
   ·
    have hva':vs=#[.slice (some ⟨L.blk,L.base,none⟩) es.length c, .int .i64 i, .slice (some ⟨L1.blk,L1.base,none⟩) 1 vc]:=by rw [hva,hae]
    obtain ⟨e,w',fr,⟨rfl,hw'⟩,hcm,hfn,hlv⟩:=hS.shift L.blk L.base es.length c i L1.blk L1.base vc cs v w (by omega) hfit (by omega) hne hcsl hcsc (fun j hj=>hsp j (by omega)) (fun j _=>hfz _ _ _ hcb _) hvc hcs1 hvone
     (hfz _ _ _ hcb1) ⟨t1,c1.size,by unfold World.shape?; rw [hcb1]⟩ ⟨t0,c0.size,by unfold World.shape?; rw [hcb],by omega⟩ cs0
    rw [←hva'] at hcm
    have hcbd:w.drew.heap[L.blk]?=some (.cells c0 t0 (0,0)):=hcb
    have hdl:(cs.drop i).length=es.length - i:=by rw [List.length_drop,hcsl]
    obtain ⟨c',g1,g2,g3⟩:=z3y L.blk t0 (cs.drop i) (L.base+(i+1)) w.drew c0 hcbd (by rw [hdl]; omega)
    have hlt':L.blk<w.drew.heap.size:=hlt
    obtain ⟨c2,k1,k2,k3⟩:=z3y L.blk t0 [v] (L.base+i) (World.setObj w.drew L.blk (.cells c' t0 (0,0))) c' (z0p _ _ _ hlt') (by simp; omega)
    rw [g3,k3,y0f] at hw'
    subst hw'
    refine place c2 (w.drawn+1) (k1.trans g1) (Nat.le_succ _) (fun k hk=>?_) hae hfit fr (by rw [hae]; exact hcm) hfn (by rw [hae]; exact hlv)
    rw [k2]
    by_cases hki:k=i
    ·subst hki
     rw [if_pos (by simp),if_neg (by omega),if_pos rfl]; simp
    ·rw [if_neg (by simp; omega),g2]
     by_cases hlt2:k<i
     ·rw [if_neg (by omega),if_pos hlt2,hcsg k (by omega)]
     ·rw [if_pos (by rw [hdl]; omega),if_neg hlt2,if_neg hki,List.getElem?_drop]
      congr 1; omega
  ·have hce:c=es.length:=by omega
   have hcap:=hS.cap w (es.length+1) c (by omega) (by omega)
   by_cases hlast:i=es.length
   ·
    have hva':vs=#[.slice a es.length c, .int .i64 es.length, .slice (some ⟨L1.blk,L1.base,none⟩) 1 vc]:=by rw [hva,hlast]
    obtain ⟨e,w',fr,⟨rfl,hw'⟩,hcm,hfn,hlv⟩:=hS.last a es.length c L1.blk L1.base vc cs v w hnc (by omega) (by omega) hcsl (fun ha=>by
      by_cases h0:0<c
      ·rw [haa h0] at ha; cases ha
      ·omega) (fun a' ha' j u hj=>by
      have hjl:j<es.length:=by rw [←hcsl]; exact (List.getElem?_eq_some_iff.1 hj).1
      rw [haa (by omega)] at ha'
      cases ha'
      rw [z4c]; exact hcsc j u hj) hvc hvone cs0
    rw [←hva'] at hcm
    subst hw'
    refine grown c cs _ (w.drawn+1) _ hcsl hrows (Nat.le_succ _) hcap (fun k hk=>?_) ?_ fr hcm hfn hlv
    ·have hkk:k<(cs++[v]).length:=by simp [hcsl]; omega
     have e1:((cs++[v]).toArray++Builtin.zeroCells (Value.int .i64 0).cells (grownCap w (es.length+1) c t - (es.length+1)))[k]?=(cs++[v])[k]?:=by
      rw [Array.getElem?_append_left (by simpa using hkk)]; simp
     rw [e1,List.getElem?_append,hcsl]
     by_cases hkn:k<es.length
     ·rw [if_pos hkn,if_pos (by omega)]
     ·rw [if_neg hkn,if_neg (by omega),if_pos (by omega),show k - es.length=0 by omega]; rfl
    ·simp [Builtin.zeroCells,Value.cells,hcsl]; omega
   ·
    have hae:=haa (by omega)
    have hva':vs=#[.slice (some ⟨L.blk,L.base,none⟩) es.length c, .int .i64 i, .slice (some ⟨L1.blk,L1.base,none⟩) 1 vc]:=by rw [hva,hae]
    obtain ⟨e,w',fr,⟨rfl,hw'⟩,hcm,hfn,hlv⟩:=hS.grow L.blk L.base es.length c i L1.blk L1.base vc cs v w (by omega) hnc (by omega) (by omega) hcsl hcsc hvc hcs1 hvone cs0
    rw [←hva'] at hcm
    generalize hG:grownCap w (es.length+1) c t=G at hw' hcm hlv hcap
    generalize hROW:(cs.take i).toArray++Builtin.zeroCells (Value.int .i64 0).cells (es.length+1 - i)++Builtin.zeroCells (Value.int .i64 0).cells (G - (es.length+1))=ROW at hw'
    have hRs:ROW.size=G:=by
     rw [←hROW]; simp [Builtin.zeroCells,Value.cells,hcsl]; omega
    have hRg:∀ k,k<i→ROW[k]?=cs[k]?:=by
     intro k hk
     rw [←hROW,Array.append_assoc,Array.getElem?_append_left (by simp [hcsl]; omega)]
     simp [List.getElem?_take,hk]
    have hb0:(w.alloc (.cells ROW t)).drew.heap[w.heap.size]?=some (.cells ROW t (0,0)):=by
     show (w.heap.push _)[w.heap.size]?=_
     simp
    obtain ⟨c',g1,g2,g3⟩:=z3y w.heap.size t [v] i _ ROW hb0 (by simp; omega)
    have hdl:(cs.drop i).length=es.length - i:=by rw [List.length_drop,hcsl]
    have hb1:(World.setObj (w.alloc (.cells ROW t)).drew w.heap.size (.cells c' t (0,0))).drew.heap[w.heap.size]?=some (.cells c' t (0,0)):=by
     show (World.setObj (w.alloc (.cells ROW t)).drew w.heap.size (.cells c' t (0,0))).heap[w.heap.size]?=_
     exact z0p _ _ _ (by show _<(w.heap.push _).size; simp)
    obtain ⟨c2,k1,k2,k3⟩:=z3y w.heap.size t (cs.drop i) (i+1) _ c' hb1 (by rw [hdl,g1]; omega)
    rw [g3,k3] at hw'
    have hwe:World.setObj (World.setObj (w.alloc (.cells ROW t)).drew w.heap.size (.cells c' t (0,0))).drew w.heap.size (.cells c2 t (0,0))={ World.push w (.cells c2 t) with drawn:=w.drawn+2 }:=by
     unfold World.setObj World.drew World.alloc World.push
     simp only
     congr 1
     apply Array.ext_getElem?
     intro k
     simp only [Array.getElem?_setIfInBounds,Array.getElem?_push,Array.size_push,Array.size_setIfInBounds]
     by_cases hk:w.heap.size=k
     ·subst hk; simp
     ·have hk2:¬ k=w.heap.size:=fun e=>hk e.symm
      simp [hk,hk2]
    rw [hwe] at hw'
    subst hw'
    refine grown c cs c2 (w.drawn+2) G hcsl hrows (by show w.drawn≤_; omega) hcap (fun k hk=>?_) (by rw [k1,g1,hRs]) fr hcm hfn hlv
    rw [k2]
    by_cases hgt:i+1≤k
    ·rw [if_pos (by rw [hdl]; omega),if_neg (by omega),if_neg (by omega),List.getElem?_drop]
     congr 1; omega
    ·rw [if_neg (by omega),g2]
     by_cases hki:k=i
     ·subst hki
      rw [if_pos (by simp),if_neg (by omega),if_pos rfl]; simp
     ·rw [if_neg (by simp; omega),if_pos (by omega),hRg k (by omega)]⟩
end
end Go.Am
end
section
namespace Go.Proofs
open Go.Shelf Go.RowKit Go.Lib
def x61:Go.Shelf.Ren:=⟨fun|39=>72|35=>103|28=>85|27=>84|21=>60|n=>n,fun|0=>0|4=>4|3=>3|22=>26|n=>n,fun|n=>n⟩
theorem x2v : Go.Proofs.Lays2.n21 Try.prog x61 :=
  { mixed := by kernel_rfl,
    f21 := by first | exact ⟨Try.f60.name, by decide, Try.func60.trans (congrArg some (by kernel_rfl))⟩ | exact Try.func60.trans (congrArg some (by kernel_rfl)),
    f27 := by first | exact ⟨Try.f84.name, by decide, Try.func84.trans (congrArg some (by kernel_rfl))⟩ | exact Try.func84.trans (congrArg some (by kernel_rfl)),
    f28 := by first | exact ⟨Try.f85.name, by decide, Try.func85.trans (congrArg some (by kernel_rfl))⟩ | exact Try.func85.trans (congrArg some (by kernel_rfl)),
    f35 := by first | exact ⟨Try.f103.name, by decide, Try.func103.trans (congrArg some (by kernel_rfl))⟩ | exact Try.func103.trans (congrArg some (by kernel_rfl)),
    f39 := by first | exact ⟨Try.f72.name, by decide, Try.func72.trans (congrArg some (by kernel_rfl))⟩ | exact Try.func72.trans (congrArg some (by kernel_rfl)),
    t0 := by exact Try.underlying0,
    a0 := by exact Try.isAgg0,
    z0 := by exact Try.sizeOf0,
    v0 := by exact Try.zeroValue0,
    t3 := by exact Try.underlying3,
    a3 := by exact Try.isAgg3,
    z3 := by exact Try.sizeOf3,
    v3 := by exact Try.zeroValue3,
    t4 := by exact Try.underlying4,
    a4 := by exact Try.isAgg4,
    z4 := by exact Try.sizeOf4,
    v4 := by exact Try.zeroValue4,
    t22 := by exact Try.underlying26,
    a22 := by exact Try.isAgg26,
    z22 := by exact Try.sizeOf26,
    v22 := by exact Try.zeroValue26,
    i3 := by kernel_rfl }
variable {P:Program} {ρ:Ren}
set_option maxHeartbeats 4000000 in
set_option maxRecDepth 100000 in
theorem x66 (L:Lays2.n21 P ρ) (b off n c i vb voff m vc:Nat) (cs vs:List Value) (w:World) (hi:i<n) (hm:0<m) (hroom:n+m≤c) (hc63:n+m≤9223372036854775807) (hvb:vb≠b)
  (hcl:cs.length=n) (hvl:vs.length=m) (hcs:∀ j v,cs[j]?=some v→w.cell? ⟨b,off+j,none⟩=some v) (hsp:∀ j,j<n+m→(w.cell? ⟨b,off+j,none⟩).isSome=true) (hfz:∀ j,j<n+m→w.frozen? ⟨b,off+j,none⟩=false)
  (hvs:∀ j v,vs[j]?=some v→w.cell? ⟨vb,voff+j,none⟩=some v) (h1c:∀ v∈cs,v.oneCell'=true) (h1v:∀ v∈vs,v.oneCell'=true)
  (tA tB:TypeId) (kA kB:Nat) (hsa:w.shape? vb=some (tA,kA)) (hsb:w.shape? b=some (tB,kB)) (hkB:kB≠0) (hfa:w.frozen? ⟨vb,voff,none⟩=false) (hfe:w.frozen? ⟨vb,kA,none⟩=false):
  Calls P (ρ.f 21) #[.slice (some ⟨b,off,none⟩) n c, .int .i64 i, .slice (some ⟨vb,voff,none⟩) m vc] w fun e w'=>
   e= .returned (.slice (some ⟨b,off,none⟩) (n+m) c)∧w'=(w.drew.setCells b (off+(i+m)) (cs.drop i)).setCells b (off+i) vs:=by
 have t0:=L.t0; have a0:=L.a0; have z0:=L.z0; have v0:=L.v0; have t3:=L.t3; have a3:=L.a3; have z3:=L.z3; have v3:=L.v3; have t4:=L.t4; have a4:=L.a4; have z4:=L.z4; have v4:=L.v4; have t22:=L.t22; have a22:=L.a22; have z22:=L.z22; have v22:=L.v22
 have u0:=run_underlying L.t0; have u3:=run_underlying L.t3; have u4:=run_underlying L.t4; have u22:=run_underlying L.t22
 have hz1:¬ ((m:Int)=0):=by omega
 have hz2:¬ ((i:Int)=(n:Int)):=by omega
 have hsz:(P.info? (ρ.t 3)).map (·.size)=some 1:=by
  obtain ⟨i0,hi0,h0,h1,h2⟩:=info_parts L.i3
  rw [hi0]; simp [h1]
 have hov:∀ lb cb,(callFunc (ρ.f 27) #[.slice (some ⟨vb,voff,none⟩) m vc, .slice (some ⟨b,off+(i+m),none⟩) lb cb]).run P w= .ok (.value (.bool false)) w:=fun lb cb=>by
  rw [run_callFunc_extern L.f27 (by kernel_rfl) (by kernel_rfl) (by kernel_rfl) (e:=Extern.SlicesOverlaps.overlaps #[(ρ.t 22),(ρ.t 22)] #[(ρ.t 4)]) (by kernel_rfl),
   Lib.run_overlaps_apart w (ρ.t 22) (ρ.t 4) (ρ.t 3) L.t22 1 L.z3 ⟨vb,voff,none⟩ ⟨b,off+(i+m),none⟩ m vc lb cb hvb tA tB kA kB hsa hsb hkB hfa hfe]
  rfl
 have hdl:(cs.drop i).length=n - i:=by rw [List.length_drop,hcl]
 have mixed:=L.mixed
 have hw1:IntKind.i64.wrap ((i:Int)+(m:Int))=(i:Int)+(m:Int):=by rw [IntKind.wrap_i64]; omega
 have hb1:(0:Int)≤(i:Int)+(m:Int):=by omega
 have hin:i≤n:=by omega
 have htn:((i:Int)+(m:Int)).toNat=i+m:=by omega
 have hb2:¬ (c=i+m):=by omega
 have hb3:(i:Int)≤(n:Int)+(m:Int):=by omega
 have hb4:¬ (c=i):=by omega
 have hcp1:∀ ty dc sc,(Builtin.copy_ #[(ρ.t 22),(ρ.t 22)] ty #[.slice (some ⟨b,off+(i+m),none⟩) (n+m - (i+m)) dc, .slice (some ⟨b,off+i,none⟩) (n+m - i) sc]).run P w.drew= .ok (goInt (cs.drop i).length) (w.drew.setCells b (off+(i+m)) (cs.drop i)):=fun ty dc sc=>
  run_copy_cells w.drew _ _ ty (ρ.t 3) b (off+(i+m)) (n+m - (i+m)) dc ⟨b,off+i,none⟩ (n+m - i) sc (cs.drop i) L.t22 hsz (by rw [hdl]; simp only [Nat.min_def]; split<;>omega)
   (fun j v hj=>by rw [Addr.add_lit,Nat.add_assoc]; exact hcs (i+j) v (by rwa [List.getElem?_drop] at hj))
   (fun j hj=>by rw [Nat.add_assoc]; exact hsp _ (by omega)) (fun j hj=>by rw [Nat.add_assoc]; exact hfz _ (by omega)) (fun v hv=>h1c v (List.mem_of_mem_drop hv))
 obtain ⟨W1,hW1⟩:∃ W1,W1=w.drew.setCells b (off+(i+m)) (cs.drop i):=⟨_,rfl⟩
 have hsp1:∀ k,k<n+m→(W1.cell? ⟨b,off+k,none⟩).isSome=true:=fun k hk=>by
  rw [hW1]
  exact isSome_setCells b _ _ _ (fun j hj=>by rw [Nat.add_assoc]; exact hsp _ (by omega)) _ (hsp k hk)
 have hcp2:∀ (W:World),(∀ x,W.cell? x=W1.cell? x)→(∀ x,W.frozen? x=W1.frozen? x)→∀ ty dc,(Builtin.copy_ #[(ρ.t 22),(ρ.t 22)] ty #[.slice (some ⟨b,off+i,none⟩) (n+m - i) dc, .slice (some ⟨vb,voff,none⟩) m vc]).run P W= .ok (goInt vs.length) (W.setCells b (off+i) vs):=fun W hWc hWf ty dc=>
  run_copy_cells W _ _ ty (ρ.t 3) b (off+i) (n+m - i) dc ⟨vb,voff,none⟩ m vc vs L.t22 hsz (by rw [hvl]; simp only [Nat.min_def]; split<;>omega)
   (fun j v hj=>by
    rw [Addr.add_lit,hWc,hW1,World.cell?_setCells_out b _ _ _ _ (fun h _=>absurd h hvb)]
    exact hvs j v hj)
   (fun j hj=>by rw [hWc,Nat.add_assoc]; exact hsp1 _ (by omega)) (fun j hj=>by rw [hWf,hW1,World.frozen?_setCells,Nat.add_assoc]; exact hfz _ (by omega)) h1v
 rw [←hW1] at hcp1
 go_enter L.f21,Body2.n21_ntmps ρ
 go_wp2_with (simp only [hov])
 go_region_law_o (refine step_copy_runI rfl _ _ (ρ.t 22) (ρ.t 22) rfl _ _ (by simp [Act.eval,Act.put]) (by simp [Act.eval,Act.put]) (hcp1 _ _ _) ?_)
 go_wp2_with (at_builtin; refine wpList_copy_runI _ rfl _ _ (ρ.t 22) (ρ.t 22) rfl _ _ rfl rfl (hcp2 _ (fun _=>rfl) (fun _=>rfl) _ _) ?_)
 go_ret
 first|exact ⟨rfl,rfl⟩|exact ⟨rfl,by rw [hW1]⟩
set_option maxHeartbeats 4000000 in
set_option maxRecDepth 100000 in
theorem w0k (L:Lays2.n21 P ρ) (b off n c vb voff m vc:Nat) (vs:List Value) (w:World) (hm:0<m) (hroom:n+m≤c) (hc63:n+m≤9223372036854775807)
  (hvl:vs.length=m) (hsp:∀ j,j<m→(w.cell? ⟨b,off+n+j,none⟩).isSome=true) (hfz:∀ j,j<m→w.frozen? ⟨b,off+n+j,none⟩=false)
  (hvs:∀ j v,vs[j]?=some v→w.cell? ⟨vb,voff+j,none⟩=some v) (h1v:∀ v∈vs,v.oneCell'=true):
  Calls P (ρ.f 21) #[.slice (some ⟨b,off,none⟩) n c, .int .i64 n, .slice (some ⟨vb,voff,none⟩) m vc] w fun e w'=>
   e= .returned (.slice (some ⟨b,off,none⟩) (n+m) c)∧w'=w.setCells b (off+n) vs:=by
 have t0:=L.t0; have a0:=L.a0; have z0:=L.z0; have v0:=L.v0; have t3:=L.t3; have a3:=L.a3; have z3:=L.z3; have v3:=L.v3; have t4:=L.t4; have a4:=L.a4; have z4:=L.z4; have v4:=L.v4; have t22:=L.t22; have a22:=L.a22; have z22:=L.z22; have v22:=L.v22
 have u0:=run_underlying L.t0; have u3:=run_underlying L.t3; have u4:=run_underlying L.t4; have u22:=run_underlying L.t22
 have mixed:=L.mixed
 have hz1:¬ ((m:Int)=0):=by omega
 have hsrc:Src P 1 (ρ.t 22) (.slice (some ⟨vb,voff,none⟩) m vc) m vs w:=Src.ofSlice w L.t22 ⟨vb,voff,none⟩ m vc vs (by omega) (fun j u hj=>by rw [Addr.add_lit]; exact hvs j u hj) h1v
 go_enter L.f21,Body2.n21_ntmps ρ
 go_wp2_with (at_builtin; refine wpList_append_room1 _ rfl _ _ (ρ.t 22) (ρ.t 22) rfl (ρ.t 3) _ _ L.t22 L.i3 b off n c rfl _ rfl m vs hsrc hroom (by rw [hvl]; exact hsp) (by rw [hvl]; exact hfz) ?_)
 go_ret
 exact ⟨rfl,rfl⟩
end Go.Proofs
namespace Go.Am
open Go.Proofs Go.Shelf
theorem w48:x85 Try.prog 60 3 where
 shift:=fun b off n c i vb voff vc cs v w h1 h2 h3 h4 h5 h6 h7 h8 h9 h10 h11 h12 ⟨tA,kA,h13⟩ ⟨tB,kB,h14,h15⟩=>x66 x2v b off n c i vb voff 1 vc cs [v] w h1 (by omega) h2 h3 h4 h5 rfl h6 h7 h8 (fun j u hj=>by
  cases j with
  |zero=>cases hj; exact h9
  |succ j=>simp at hj) h10 (by simpa using h11) tA tB kA kB h13 h14 h15 (h12 _) (h12 _)
 room:=fun b off n c vb voff vc v w h1 h2 h3 h4 h5 h6=>w0k x2v b off n c vb voff 1 vc [v] w (by omega) h1 h2 rfl (fun j hj=>by
   have:j=0:=by omega
   subst this; exact h3) (fun j hj=>by
   have:j=0:=by omega
   subst this; exact h4) (fun j u hj=>by
   cases j with
   |zero=>cases hj; exact h5
   |succ j=>simp at hj) (by simpa using h6)
 last:=fun base n c vb voff vc cs v w h1 h2 h3 h4 h5 h6 h7 h8=>Any2.slices_Insert_int_end_grow x2v base n c vb voff 1 vc cs [v] w (by omega) h1 h2 h3 h4 rfl h5 h6 (fun j u hj=>by
  cases j with
  |zero=>cases hj; exact h7
  |succ j=>simp at hj) (by simpa using h8)
 grow:=fun b off n c i vb voff vc cs v w h1 h2 h3 h4 h5 h6 h7 h8 h9=>Any2.slices_Insert_int_grow x2v b off n c i vb voff 1 vc cs [v] w h1 (by omega) h2 h3 h4 h5 rfl h6 (fun j u hj=>by
  cases j with
  |zero=>cases hj; exact h7
  |succ j=>simp at hj) h8 (by simpa using h9)
 cap:=fun w n c h1 h2=>by unfold grownCap; simp [Question.cut]
noncomputable def y0v:Ctr:=
 ⟨60,[.vec 0 1, .int .i64, .full 1 1],[.row [(Go.Am.CK.int Go.IntKind.i64)], .row [(Go.Am.CK.int Go.IntKind.i64)]],[(.ret,⟨[(0, .vec 2 1)],[.dead, .row [(Go.Am.CK.int Go.IntKind.i64)], .row [(Go.Am.CK.int Go.IntKind.i64)]],1⟩)]⟩
def q60 (x:List (List D)×(List (List D)×(Int×Unit))):Option (List (List D)×(List (List D)×Unit)):=
 match x.2.1 with
 |[[v]]=>bif decide (0≤x.2.2.1)&&(Nat.ble x.2.2.1.toNat x.1.length&&Nat.ble x.1.length 1000000) then some ([[v]],(x.1.take x.2.2.1.toNat++[v]::x.1.drop x.2.2.1.toNat,())) else none
 |_=>none
noncomputable def G60:(p:Prim)→(List (List D)×(List (List D)×(Int×Unit)))→Option (List (List D)×(List (List D)×Unit)):=
 fun p x=>q60 x
noncomputable def F60:Prim→Tup (y0v).scs→Option (STup (scss (y0v).outs)):=
 fun p x=>G60 p x
theorem w0z:z2n Go.Proofs.Try.prog 60:=enters_auto (b:=_) rfl (by kernel_rfl)
theorem ok60:CtrOk Go.Proofs.Try.prog y0v (F60 std):=by
 have key:∀ (es r:List (List D)) (i:Int) (y:STup (scss (y0v).outs)),q60 (es,(r,(i,())))=some y→(y4l std y0v (y05 (y0v).scs (es,(r,(i,()))))).2.length≤(z1m std (y0v).outs y).2.s.heap.length∧
   z9h Try.prog 60 (y4l std y0v (y05 (y0v).scs (es,(r,(i,()))))).1 (y4l std y0v (y05 (y0v).scs (es,(r,(i,()))))).2 (z1g (z1m std (y0v).outs y).2.s.env 0) (z1m std (y0v).outs y).2.s.heap:=by
  intro es r i y hy
  unfold q60 at hy
  simp only at hy
  match r,hy with
  |[[v]],hy=>
   simp only at hy
   cases hb:(decide (0≤i)&&(Nat.ble i.toNat es.length&&Nat.ble es.length 1000000)) with
   |false=>rw [hb] at hy; cases hy
   |true=>
    rw [hb] at hy; cases hy
    simp only [Bool.and_eq_true,decide_eq_true_eq] at hb
    obtain ⟨h0,h1,h2⟩:=hb
    have h1:=Nat.le_of_ble_eq_true h1
    have h2:=Nat.le_of_ble_eq_true h2
    have hi:((i.toNat:Nat):Int)=i:=by omega
    have:=w0l w48 (es:=es) (x:=v) (i:=i.toNat) h1 h2
    have hl:es.length+1=(es.take i.toNat++[v]::es.drop i.toNat).length:=by simp; omega
    rw [hl,hi] at this
    exact ⟨(by show 2≤3; omega),this⟩
 exact ⟨w0z,fun x y hy=>key x.1 x.2.1 x.2.2.1 y hy⟩
end Go.Am
end
noncomputable section
namespace Go.Am
def w6d:Ctr:=
 ⟨26,[.list 1],[],[(.ret,⟨[(0, .tuple [.vec 0 1, .int .i64])],[.row [ci]],1⟩)]⟩
def la26:List LA:=
 [⟨26,[false,true,false,true,true,true,true,true],0,⟨⟨[(6, .bptr 0 0),(7, .vec 2 1),(23, .int .i64),(24, .int .i64)],[.box [.clo 57 [.bptr 1 0] []], .row [ci], .row [ci]],37⟩,[((AX.exit 0),⟨[(7, .vec 0 1)],[.row [ci]],37⟩)]⟩⟩,
 ⟨58,[false,true,false,true],4,⟨⟨[(0, .vec 2 1),(1, .clo 59 [] [.bptr 0 0, .bptr 3 0]),(7, .vec 2 1),(8, .int .i64),(9, .int .i64)],[.box [.clo 57 [.bptr 1 0] []], .row [ci], .row [ci], .box [.int .i64]],21⟩,[(AX.ret,⟨[(4, .int .i64)],[.box [.clo 57 [.bptr 1 0] []], .row [ci], .row [ci], .box [.int .i64]],21⟩),((AX.exit 0),⟨[(0, .vec 2 1)],[.box [.clo 57 [.bptr 1 0] []], .row [ci], .row [ci], .box [.int .i64]],21⟩)]⟩⟩]
def ja26:List JA:=
 [⟨26,[false,true,true,false,false,true,false,true,true,true,true,true],0,[(AX.normal,⟨[(6, .bptr 0 0),(7, .vec 1 1),(23, .int .i64),(24, .int .i64)],[.box [.clo 57 [.bptr 2 0] []], .row [ci], .row [ci]],37⟩)]⟩]
def v4x:List CF:=
 [⟨y0v,F60⟩,⟨w1h,G54⟩]
def an26:Anns:=
 ⟨v4x,ja26,[]⟩
def x5e (p:Prim):(LD×(LD×T4))→Option ((LD×(LD×T4))⊕((LD×(LD×T3))⊕(LD×(LD×T1)))):=
 fun a=>opt.run _ (
 opt.ask _ (p.cmp .lss a.2.2.2.2.1 a.2.2.2.1) (
 opt.need _ (bif (p.cmp .geq a.2.2.2.2.1 (0:Int)) then (p.cmp .lss a.2.2.2.2.1 (p.ofNat (p.len a.2.1))) else Bool.false)<|
 opt.need _ (p.rowOk a.2.1 (p.add 0 (p.nat a.2.2.2.2.1)) [ci])<|
 opt.need _ (bif (p.cmp .geq a.2.2.1 (0:Int)) then (p.cmp .lss a.2.2.1 (p.ofNat 10)) else Bool.false)<|
 opt.need _ (bif (p.cmp .geq (p.rdI a.2.1 (p.add 0 (p.nat a.2.2.2.2.1)) 0) (0:Int)) then (p.cmp .lss (p.rdI a.2.1 (p.add 0 (p.nat a.2.2.2.2.1)) 0) (p.ofNat 10)) else Bool.false)<|
 opt.need _ (p.rowOk a.1 (p.add (p.add 1 (p.mul (p.nat a.2.2.1) 10)) (p.nat (p.rdI a.2.1 (p.add 0 (p.nat a.2.2.2.2.1)) 0))) [ci])<|
 opt.ask _ (p.cmp .eql (p.rdI a.1 (p.add (p.add 1 (p.mul (p.nat a.2.2.1) 10)) (p.nat (p.rdI a.2.1 (p.add 0 (p.nat a.2.2.2.2.1)) 0))) 0) (1:Int)) (
 opt.ret _ (Sum.inr (Sum.inl (a.1,(a.2.1,(a.2.2.1,(a.2.2.2.2.1,()))))))) (
 opt.need _ (p.eqN 0 0)<|
 opt.need _ (p.eqN (p.len a.2.1) (p.len a.2.1))<|
 opt.need _ (p.eqN 0 0)<|
 opt.need _ (p.eqN (p.len a.2.1) (p.len a.2.1))<|
 opt.ret _ (Sum.inl (a.1,(a.2.1,(a.2.2.1,(a.2.2.2.1,((p.ar .add .i64 a.2.2.2.2.1 (1:Int)),())))))))) (
 opt.need _ (p.eqN 0 0)<|
 opt.need _ (p.eqN (p.len a.2.1) (p.len a.2.1))<|
 opt.ret _ (Sum.inr (Sum.inr (a.1,(a.2.1,(a.2.2.1,())))))))
def y90 (it:It) (p:Prim):(LD×(LD×T3))→Option ((LD×(LD×T3))⊕(LD×Unit)):=
 fun a=>opt.run _ (
 opt.ask _ (p.cmp .lss a.2.2.2.1 a.2.2.1) (
 opt.bnd ((LD×(LD×T3))) _ (
 opt.run ((LD×(LD×T3))) (
 opt.need _ (p.eqN 0 0)<|
 opt.need _ (p.eqN (p.len a.2.1) (p.len a.2.1))<|
 opt.need _ (p.eqN 0 0)<|
 opt.need _ (p.eqN (p.len a.2.1) (p.len a.2.1))<|
 opt.alt ((LD×(LD×T3))) ((LD×(LD×T1))) _ (
 it _ _ (x5e p) (a.1,(a.2.1,(a.2.2.2.1,((p.ofNat (p.len a.2.1)),((0:Int),())))))) (fun b=>
 opt.need _ (p.eqN 0 0)<|
 opt.need _ (p.eqN (p.len a.2.1) (p.len b.2.1))<|
 opt.need _ (p.eqN 0 0)<|
 opt.need _ (p.eqN 1 (p.len [[(D.int .i64 b.2.2.1)]]))<|
 opt.need _ (p.eqN 1 (p.len [[(D.int .i64 b.2.2.1)]]))<|
 opt.bnd ((LD×(LD×Unit))) _ (G60 p (b.2.1,([[(D.int .i64 b.2.2.1)]],(b.2.2.2.1,())))) fun c=>
 opt.need _ (p.eqN 0 0)<|
 opt.need _ (p.eqN (p.len c.2.1) (p.len c.2.1))<|
 opt.ret _ (c.2.1,(b.1,(a.2.2.1,(a.2.2.2.1,()))))) (fun d=>
 opt.bnd ((LD×(LD×T1))) _ (some d) fun e=>
 opt.need _ (p.eqN 0 0)<|
 opt.need _ (p.eqN (p.len a.2.1) (p.len e.2.1))<|
 opt.need _ (p.eqN 0 0)<|
 opt.need _ (p.eqN 1 (p.len [[(D.int .i64 e.2.2.1)]]))<|
 opt.need _ (p.eqN 1 (p.len [[(D.int .i64 e.2.2.1)]]))<|
 opt.bnd ((LD×(LD×Unit))) _ (G60 p (e.2.1,([[(D.int .i64 e.2.2.1)]],((p.ofNat (p.len e.2.1)),())))) fun f=>
 opt.need _ (p.eqN 0 0)<|
 opt.need _ (p.eqN (p.len f.2.1) (p.len f.2.1))<|
 opt.ret _ (f.2.1,(e.1,(a.2.2.1,(a.2.2.2.1,()))))))) fun g=>
 opt.need _ (p.eqN 0 0)<|
 opt.need _ (p.eqN (p.len g.1) (p.len g.1))<|
 opt.ret _ (Sum.inl (g.2.1,(g.1,(g.2.2.1,((p.ar .add .i64 g.2.2.2.1 (1:Int)),())))))) (
 opt.need _ (p.eqN 0 0)<|
 opt.need _ (p.eqN (p.len a.2.1) (p.len a.2.1))<|
 opt.ret _ (Sum.inr (a.2.1,()))))
def g26 (it:It):(p:Prim)→(LD×Unit)→Option ((LD×T1)):=
 fun p x=>
 opt.alt T2 ((LD×T1)) _ (g54 it p (x.1,())) (fun a=>
 opt.ask _ (p.cmp .neq a.1 (0:Int)) (
 opt.ret _ ([],(a.1,()))) (
 opt.no _ 41)) (fun b=>
 opt.bnd ((LD×T1)) _ (some b) fun c=>
 opt.ask _ (p.cmp .neq c.2.1 (0:Int)) (
 opt.ret _ ([],(c.2.1,()))) (
 opt.need _ (p.rowOk c.1 0 [ci])<|
 opt.bnd ((LD×Unit)) _ (
 it _ _ (y90 it p) (c.1,([],((p.rdI c.1 0 0),((0:Int),()))))) fun d=>
 opt.need _ (p.eqN 0 0)<|
 opt.need _ (p.eqN (p.len d.1) (p.len d.1))<|
 opt.ret _ (d.1,((0:Int),()))))
def G26:=g26 it0
theorem v6t:CtrOk PG w6d (G26 std):=okF (a:=an26) (l:=la26) (gC ok60 (gC v2i (gN))) (by kernel_rfl) fun _ _=>by kernel_rfl
end Go.Am
end
section
namespace Go.Am
open T11
variable {fl:List Int→Bool}
def y4k (P:Int→Bool):List Int→Nat
 |[]=>0
 |x::l=>bif P x then 0 else y4k P l+1
theorem y31 (P:Int→Bool) (l:List Int):y4k P l≤l.length:=by
 induction l with
 |nil=>exact Nat.le_refl _
 |cons x l ih=>rw [y4k]; cases P x<;>simp<;>omega
theorem x21 (P:Int→Bool) (l:List Int):∀ j,j<y4k P l→P (gI l j)=false:=by
 induction l with
 |nil=>intro j hj; simp [y4k] at hj
 |cons x l ih=>
  intro j hj
  rw [y4k] at hj
  cases hx:P x with
  |true=>rw [hx] at hj; simp at hj
  |false=>
   rw [hx] at hj
   cases j with
   |zero=>exact hx
   |succ j=>exact ih j (by simpa using hj)
theorem x1d (P:Int→Bool) (l:List Int):y4k P l<l.length→P (gI l (y4k P l))=true:=by
 induction l with
 |nil=>intro h; simp at h
 |cons x l ih=>
  intro h
  rw [y4k] at h⊢
  cases hx:P x with
  |true=>exact hx
  |false=>
   rw [hx] at h
   exact ih (by simpa using h)
theorem w5o (P:Int→Bool) (l:List Int) (i:Nat) (hi:i<l.length) (h1:P (gI l i)=true) (h2:∀ j,j<i→P (gI l j)=false):y4k P l=i:=by
 rcases Nat.lt_trichotomy (y4k P l) i with h|h|h
 ·have:=x1d P l (by omega)
  rw [h2 _ h] at this; cases this
 ·exact h
 ·rw [x21 P l i h] at h1; cases h1
theorem w0p (P:Int→Bool) (l:List Int) (h:∀ j,j<l.length→P (gI l j)=false):y4k P l=l.length:=by
 refine Nat.le_antisymm (y31 P l) (Nat.le_of_not_lt fun hlt=>?_)
 have:=x1d P l hlt
 rw [h _ hlt] at this; cases this
def x91 (d:List (List Int)) (i:Nat) (l:List Int):List Int:=l.take (y4k (fun x=>bt d i x.toNat) l)++(i:Int)::l.drop (y4k (fun x=>bt d i x.toNat) l)
def z4r (d:List (List Int)):Nat→List Int
 |0=>[]
 |i+1=>x91 d i (z4r d i)
theorem x90 (d:List (List Int)) (i:Nat) (l:List Int):(x91 d i l).length=l.length+1:=by
 have:=y31 (fun x=>bt d i x.toNat) l
 simp [x91]; omega
theorem z5c (d:List (List Int)) (n:Nat):(z4r d n).length=n:=by
 induction n with
 |zero=>rfl
 |succ n ih=>rw [z4r,x90,ih]
theorem y87 (d:List (List Int)) (n:Nat):(z4r d n).Perm (y20 n):=by
 induction n with
 |zero=>exact .refl _
 |succ n ih=>
  rw [z4r,x91,y98]
  refine List.perm_middle.trans ?_
  rw [List.take_append_drop]
  exact (ih.cons _).trans (List.perm_append_singleton _ _).symm
theorem y0l (d:List (List Int)) (n:Nat) {q:Nat} (hq:q<n):0≤gI (z4r d n) q∧gI (z4r d n) q<n:=
 x3p.1 ((y87 d n).mem_iff.1 (List.mem_of_getElem? (z1t (by rw [z5c]; exact hq))))
theorem w22 (d:List (List Int)) (i:Nat) (l:List Int) (q:Nat):
  gI (x91 d i l) q=if q<y4k (fun x=>bt d i x.toNat) l then gI l q else if q=y4k (fun x=>bt d i x.toNat) l then (i:Int) else gI l (q - 1):=by
 have hle:=y31 (fun x=>bt d i x.toNat) l
 have e:gI (x91 d i l) q=((x91 d i l)[q]?).getD 0:=by rw [gI,List.getD_eq_getElem?_getD]
 rw [e,x91]
 generalize y4k (fun x=>bt d i x.toNat) l=a at hle⊢
 have hl:(l.take a).length=a:=by rw [List.length_take]; omega
 rw [List.getElem?_append,hl]
 by_cases h1:q<a
 ·rw [if_pos h1,if_pos h1,List.getElem?_take_of_lt h1,gI,List.getD_eq_getElem?_getD]
 ·rw [if_neg h1,if_neg h1]
  by_cases h2:q=a
  ·subst h2; rw [if_pos rfl,Nat.sub_self]; rfl
  ·rw [if_neg h2]
   obtain ⟨m,rfl⟩:∃ m,q=a+m+1:=⟨q - a - 1,by omega⟩
   rw [show a+m+1 - a=m+1 by omega,List.getElem?_cons_succ,List.getElem?_drop,Nat.add_sub_cancel,gI,List.getD_eq_getElem?_getD]
theorem y5n {d:List (List Int)} (ht:y4e (bt d) d.length) (n:Nat) (hn:n≤d.length):∀ j,j+1<n→bt d (gI (z4r d n) j).toNat (gI (z4r d n) (j+1)).toNat=true:=by
 induction n with
 |zero=>intro j hj; omega
 |succ n ih=>
  have ih:=ih (by omega)
  intro j hj
  rw [z4r,w22,w22]
  have hn1:=x21 (fun x=>bt d n x.toNat) (z4r d n)
  have hn2:=x1d (fun x=>bt d n x.toNat) (z4r d n)
  have hle:=y31 (fun x=>bt d n x.toNat) (z4r d n)
  rw [z5c] at hn2 hle
  generalize y4k (fun x=>bt d n x.toNat) (z4r d n)=a at hn1 hn2 hle⊢
  by_cases h1:j+1<a
  ·rw [if_pos (by omega),if_pos h1]; exact ih j (by omega)
  ·by_cases h2:j+1=a
   ·rw [if_pos (by omega),if_neg (by omega),if_pos h2]
    have h3:=hn1 j (by omega)
    have hg:=y0l d n (q:=j) (by omega)
    rw [show ((n:Int)).toNat=n by omega,ht.2 _ n (by omega) (by omega) (by omega),h3]; rfl
   ·by_cases h3:j=a
    ·rw [if_neg (by omega),if_pos h3,if_neg (by omega),if_neg (by omega),Nat.add_sub_cancel]
     have:=hn2 (by omega)
     subst h3
     rw [show ((n:Int)).toNat=n by omega]; exact this
    ·rw [if_neg (by omega),if_neg (by omega),if_neg (by omega),if_neg (by omega)]
     have:=ih (j - 1) (by omega)
     rwa [show j - 1+1=j by omega] at this
theorem x00 {d:List (List Int)} (h:z00 d=0):y1k d (z4r d d.length)=0:=by
 have hno:(z4r d d.length).Nodup:=(y87 d d.length).nodup_iff.2 (x5g _)
 rw [y1k,if_pos h,if_pos (z5c d _),if_neg,if_neg]
 ·rintro ⟨i,hi,hb⟩
  have hi:=List.mem_range.1 hi
  rw [w14,y5n (z3n h) d.length (Nat.le_refl _) i (by omega)] at hb; cases hb
 ·rintro ⟨i,hi,hb⟩
  have hi:=List.mem_range.1 hi
  have hg:=y0l d d.length hi
  rcases hb with hb|hb|⟨k,hk,hb⟩
  ·omega
  ·omega
  ·have hk:=List.mem_range.1 hk
   have hx:=z1t (l:=z4r d d.length) (q:=i) (by rw [z5c]; exact hi)
   have hy:=z1t (l:=z4r d d.length) (q:=k) (by rw [z5c]; omega)
   rw [←hb, ←hx] at hy
   have:=(List.getElem?_inj (by rw [z5c]; omega) hno).1 hy
   omega
theorem w2e (d:List (List Int)) (n:Int) (i:Nat) (l:List Int) (hi:i<10) (hl:l.length≤1000) (hg:∀ q,q<l.length→0≤gI l q∧gI l q<10):
  z30 (x5e std) (fld n (bt d),(z0e l,((i:Int),((l.length:Int),((0:Int),())))))=
   if y4k (fun x=>bt d i x.toNat) l<l.length then some (.inl (fld n (bt d),(z0e l,((i:Int),((y4k (fun x=>bt d i x.toNat) l:Int),()))))) else some (.inr (fld n (bt d),(z0e l,((i:Int),())))):=by
 have key:=z11 (b:=x5e std) l.length (fun j=>(fld n (bt d),(z0e l,((i:Int),((l.length:Int),((j:Int),())))))) (fun j=>bt d i (gI l j).toNat) (fun j=> .inl (fld n (bt d),(z0e l,((i:Int),((j:Int),()))))) (.inr (fld n (bt d),(z0e l,((i:Int),())))) (fun j hj=>by
  have hx:=z1t hj
  have hw:=z0z (i:=j) (by omega)
  have hlt:(j:Int)<l.length:=by omega
  have h0:(0:Int)≤j:=by omega
  have h1:(0:Int)≤i:=by omega
  have h2:(i:Int)<((10:Nat):Int):=by omega
  obtain ⟨a0,a1⟩:=hg j hj
  have a2:gI l j<((10:Nat):Int):=by omega
  have hf:=w25 (d:=d) (n:=n) (i:=i) (k:=(gI l j).toNat) hi (by omega)
  generalize fld n (bt d)=F at hf⊢
  revert hf
  cases bt d i (gI l j).toNat<;>intro hf<;>simp only [x5e,z01,z02,z0e,z0g,z09,z7r,x73,eq_self,not_true,not_false_eq_true,decide_true,decide_false,Bool.not_true,Bool.not_false,Int.reduceLT,Int.reduceNeg,Int.reduceGT,cond_true,cond_false,hx,hlt,h0,h1,h2,a0,a2,hf,ge_iff_le,z0d,hw]<;>rfl) (by
  have hn:¬ (l.length:Int)<l.length:=by omega
  simp only [x5e,z01,z02,hn,decide_true])
 rcases key with ⟨j,h1,h2,h3,h4⟩|⟨h1,h2⟩
 ·have e:=w5o (fun x=>bt d i x.toNat) l j h1 h2 h3
  rw [e,if_pos h1]; exact h4
 ·have e:=w0p (fun x=>bt d i x.toNat) l h1
  rw [e,if_neg (by omega)]; exact h2
theorem v0t (l:List Int) (v:Int) (a:Nat) (h:a≤l.length) (hl:l.length≤1000):G60 std (z0e l,([[D.int IntKind.i64 v]],((a:Int),())))=some ([[D.int IntKind.i64 v]],(z0e (l.take a++v::l.drop a),())):=by
 have h1:Nat.ble a (z0e l).length=true:=Nat.ble_eq_true_of_le (by rw [z0o]; exact h)
 have h2:Nat.ble (z0e l).length 1000000=true:=Nat.ble_eq_true_of_le (by rw [z0o]; omega)
 have h0:decide ((0:Int)≤(a:Int))=true:=decide_eq_true (by omega)
 have e:((a:Nat):Int).toNat=a:=by omega
 simp only [G60,q60,e,h1,h2,h0,Bool.and_self,cond_true]
 simp [z0e,List.map_take,List.map_drop,eI]
theorem v0z (d:List (List Int)) (hr:∀ l∈d,l.length≤1000000):G26 std (z0i fl d,())=some (if z00 d=0 then (z0e (z4r d d.length),((0:Int),())) else ([],(z00 d,()))):=by
 have h54:g54 it0 std (z0i fl d,())=_:=x87 d hr
 unfold G26
 by_cases h:z00 d=0
 ·rw [if_pos h] at h54⊢
  have hl:=z2h h
  have hf0:(fld d.length (bt d))[0]?=some (eI d.length):=rfl
  have key:=z3i (b:=y90 it0 std) d.length (fun i=>(fld d.length (bt d),(z0e (z4r d i),((d.length:Int),((i:Int),()))))) (z0e (z4r d d.length),()) (fun i hi=>by
   have hw:=z0z (i:=i) (by omega)
   have hlt:(i:Int)<d.length:=by omega
   have hol:=z5c d i
   have h1:it0 _ _ (x5e std) (fld d.length (bt d),(z0e (z4r d i),((i:Int),(((z4r d i).length:Int),((0:Int),())))))=_:=w2e d d.length i (z4r d i) (by omega) (by omega) fun q hq=>by
    have:=y0l d i (q:=q) (by omega); omega
   have hle:=y31 (fun x=>bt d i x.toNat) (z4r d i)
   have h60:=v0t (z4r d i) i _ hle (by omega)
   rw [←x91] at h60
   have hel:=z0o (z4r d i)
   rw [z4r]
   by_cases c:y4k (fun x=>bt d i x.toNat) (z4r d i)<(z4r d i).length
   ·rw [if_pos c] at h1
    simp only [y90,z01,z02,eq_self,not_true,not_false_eq_true,decide_true,decide_false,Bool.not_true,Bool.not_false,Int.reduceLT,Int.reduceNeg,Int.reduceGT,cond_true,cond_false,hlt,hel,h1,h60,z0d,hw]
   ·have e:y4k (fun x=>bt d i x.toNat) (z4r d i)=(z4r d i).length:=by omega
    rw [if_neg c] at h1
    rw [e] at h60
    simp only [y90,z01,z02,eq_self,not_true,not_false_eq_true,decide_true,decide_false,Bool.not_true,Bool.not_false,Int.reduceLT,Int.reduceNeg,Int.reduceGT,cond_true,cond_false,hlt,hel,h1,h60,z0d,hw]) (by
   have hn:¬ (d.length:Int)<d.length:=by omega
   simp only [y90,z01,z02,eq_self,not_true,not_false_eq_true,decide_true,decide_false,Bool.not_true,Bool.not_false,Int.reduceLT,Int.reduceNeg,Int.reduceGT,cond_true,cond_false,hn])
  have key':it0 _ _ (y90 it0 std) (fld d.length (bt d),([],((d.length:Int),((0:Int),()))))=some (z0e (z4r d d.length),()):=key
  simp only [g26,z01,z02,eq_self,not_true,not_false_eq_true,decide_true,decide_false,Bool.not_true,Bool.not_false,Int.reduceLT,Int.reduceNeg,Int.reduceGT,cond_true,cond_false,h54,h,hf0,z0g,z09,key',ne_eq]
 ·rw [if_neg h] at h54⊢
  simp only [g26,z01,z02,eq_self,not_true,not_false_eq_true,decide_true,decide_false,Bool.not_true,Bool.not_false,Int.reduceLT,Int.reduceNeg,Int.reduceGT,cond_true,cond_false,h54,h,ne_eq]
end Go.Am
end
section
namespace Go.Am
noncomputable def x75:Ctr:=
 ⟨15,[.agg [.int .i64, .int .i64, .int .i64, .list 3]],[],[(.ret,⟨[(0, .tuple [.list 1, .int .i64])],[],1⟩)]⟩
noncomputable def x74:Ctr:=
 ⟨17,[.agg [.int .i64, .int .i64, .int .i64, .list 3]],[],[(.ret,⟨[(0, .tuple [.list 1, .int .i64])],[],1⟩)]⟩
noncomputable def G15:(p:Prim)→(Int×(Int×(Int×(List (List D)×Unit))))→Option (List (List D)×(Int×Unit)):=
 fun p x=>bodyRun opt std (autoEnvD [] Go.Proofs.Try.prog) (w7t opt) 3000 x75 x
noncomputable def G17:(p:Prim)→(Int×(Int×(Int×(List (List D)×Unit))))→Option (List (List D)×(Int×Unit)):=
 fun p x=>bodyRun opt std (autoEnvD [] Go.Proofs.Try.prog) (w7t opt) 3000 x74 x
noncomputable def F15:Prim→Tup (x75).scs→Option (STup (scss (x75).outs)):=fun p x=>G15 p x
noncomputable def F17:Prim→Tup (x74).scs→Option (STup (scss (x74).outs)):=fun p x=>G17 p x
theorem w02:z2n Go.Proofs.Try.prog 15:=enters_auto (b:=_) rfl (by kernel_rfl)
theorem w01:z2n Go.Proofs.Try.prog 17:=enters_auto (b:=_) rfl (by kernel_rfl)
theorem ok15:CtrOk Go.Proofs.Try.prog x75 (F15 std):=ctr_of_body (autoEnvD_ok follows_mixed) x01 w02 fun x=>rfl
theorem ok17:CtrOk Go.Proofs.Try.prog x74 (F17 std):=ctr_of_body (autoEnvD_ok follows_mixed) x01 w01 fun x=>rfl
end Go.Am
end
noncomputable section
namespace Go.Am
def w9n:Ctr:=
 ⟨41,[],[],[(.ret,⟨[(0, .list 1)],[],1⟩)]⟩
def la41:List LA:=
 []
def ja41:List JA:=
 []
def v4k:List CF:=
 []
def an41:Anns:=
 ⟨v4k,ja41,[]⟩
def G41:(p:Prim)→Unit→Option ((LD×Unit)):=
 fun p x=>
 opt.need _ (p.leN (p.add 0 4) (p.len [[(D.list Bool.true 1 [[k1k]])],[(D.list Bool.true 1 [[k3k],k4k])],[(D.list Bool.true 1 [k0k,k4k])],[(D.list Bool.true 1 [k0k])]]))<|
 opt.ret _ ((p.cut [[(D.list Bool.true 1 [[k1k]])],[(D.list Bool.true 1 [[k3k],k4k])],[(D.list Bool.true 1 [k0k,k4k])],[(D.list Bool.true 1 [k0k])]] 0 4),())
theorem ok41:CtrOk PG w9n (G41 std):=okF (a:=an41) (l:=la41) (gN) (by kernel_rfl) fun _ _=>by kernel_rfl
def w9m:Ctr:=
 ⟨45,[],[],[(.ret,⟨[(0, .agg [.int .i64, .int .i64, .int .i64, .list 3])],[],1⟩)]⟩
def la45:List LA:=
 []
def ja45:List JA:=
 []
def v4j:List CF:=
 []
def an45:Anns:=
 ⟨v4j,ja45,[]⟩
def G45:(p:Prim)→Unit→Option T26:=
 fun p x=>
 opt.need _ (p.leN (p.add 0 5) (p.len [[k2k,k2k,k1k],[k2k,k1k,k3k],[k2k,k3k,k2k],[k1k,k2k,k1k],[k1k,k1k,k2k]]))<|
 opt.ret _ ((3:Int),((2:Int),((0:Int),((p.cut [[k2k,k2k,k1k],[k2k,k1k,k3k],[k2k,k3k,k2k],[k1k,k2k,k1k],[k1k,k1k,k2k]] 0 5),()))))
theorem ok45:CtrOk PG w9m (G45 std):=okF (a:=an45) (l:=la45) (gN) (by kernel_rfl) fun _ _=>by kernel_rfl
end Go.Am
end
noncomputable section
namespace Go.Am
def w9w:Ctr:=
 ⟨14,[],[],[(.ret,⟨[(0, .bool)],[],1⟩)]⟩
def la14:List LA:=
 []
def ja14:List JA:=
 [⟨14,[false,false,true,true,true,true,true,true,true,true,true,true,true,true],0,[(AX.normal,⟨[(1, .list 1),(3, .list 1),(5, .vec 0 1),(7, .int .i64),(10, .vec 1 1),(12, .list 1),(14, .list 1),(18, .list 1),(115, .bool)],[.row [ci], .row [ci]],168⟩)]⟩,
 ⟨14,[false,true,true,true,true,true,true,true,true,true,true,true,true,true,true],0,[(AX.normal,⟨[(0, .bool)],[],168⟩)]⟩]
def v42:List CF:=
 [⟨w9t,G29⟩,⟨w6e,G25⟩,⟨w9v,G22⟩,⟨w6g,G21⟩,⟨w9q,G33⟩,⟨w9u,G28⟩,⟨w9r,G31⟩,⟨w9s,G30⟩,⟨w6b,G37⟩,⟨w6d,G26⟩,⟨w6f,G24⟩,⟨w9p,G36⟩,⟨w1k,G35⟩,⟨w9n,G41⟩,⟨x74,F17⟩,⟨x75,F15⟩,⟨w9m,G45⟩]
def an14:Anns:=
 ⟨v42,ja14,[]⟩
def g14 (it:It):(p:Prim)→Unit→Option T0:=
 fun p x=>
 opt.bnd T26 _ (G45 p ()) fun a=>
 opt.bnd ((LD×T1)) _ (G15 p (a.1,(a.2.1,(a.2.2.1,(a.2.2.2.1,()))))) fun b=>
 opt.bnd T26 _ (G45 p ()) fun c=>
 opt.bnd ((LD×T1)) _ (G17 p (c.1,(c.2.1,(c.2.2.1,(c.2.2.2.1,()))))) fun d=>
 opt.bnd ((LD×Unit)) _ (G41 p ()) fun e=>
 opt.bnd ((LD×T1)) _ (g35 it p (e.1,())) fun f=>
 opt.bnd ((LD×Unit)) _ (G41 p ()) fun g=>
 opt.bnd T8 _ (g36 it p (g.1,())) fun h=>
 opt.bnd ((LD×Unit)) _ (G41 p ()) fun i=>
 opt.bnd T2 _ (g24 it p (i.1,([k0k,[k1k],[k3k],k4k],()))) fun j=>
 opt.bnd ((LD×Unit)) _ (G41 p ()) fun k=>
 opt.bnd ((LD×T1)) _ (g26 it p (k.1,())) fun l=>
 opt.bnd ((LD×Unit)) _ (G41 p ()) fun m=>
 opt.bnd ((LD×T1)) _ (g37 it p (m.1,())) fun n=>
 opt.bnd ((LD×T1)) _ (g30 it p ([[k1k],[k1k],[k1k]],())) fun o=>
 opt.bnd ((LD×T1)) _ (g30 it p ([k0k,k0k,k4k],())) fun q=>
 opt.bnd ((LD×T1)) _ (g31 it p ([k0k,k0k,k4k],())) fun r=>
 opt.bnd T2 _ (g28 it p ([k0k,k0k,k4k],([k0k,[k1k]],()))) fun t=>
 opt.bnd ((LD×(LD×(LD×(LD×T38))))) _ (
 opt.run ((LD×(LD×(LD×(LD×T38))))) (
 opt.ask _ (p.cmp .neq b.2.1 (0:Int)) (
 opt.need _ (p.eqN 0 0)<|
 opt.need _ (p.eqN (p.len f.1) (p.len f.1))<|
 opt.need _ (p.eqN 0 0)<|
 opt.need _ (p.eqN (p.len l.1) (p.len l.1))<|
 opt.ret _ (f.1,(l.1,(b.1,(d.1,(h.1,(n.1,(o.1,(r.1,(Bool.true,())))))))))) (
 opt.ask _ (p.cmp .neq d.2.1 (0:Int)) (
 opt.need _ (p.eqN 0 0)<|
 opt.need _ (p.eqN (p.len f.1) (p.len f.1))<|
 opt.need _ (p.eqN 0 0)<|
 opt.need _ (p.eqN (p.len l.1) (p.len l.1))<|
 opt.ret _ (f.1,(l.1,(b.1,(d.1,(h.1,(n.1,(o.1,(r.1,(Bool.true,())))))))))) (
 opt.ask _ (p.cmp .neq f.2.1 (0:Int)) (
 opt.need _ (p.eqN 0 0)<|
 opt.need _ (p.eqN (p.len f.1) (p.len f.1))<|
 opt.need _ (p.eqN 0 0)<|
 opt.need _ (p.eqN (p.len l.1) (p.len l.1))<|
 opt.ret _ (f.1,(l.1,(b.1,(d.1,(h.1,(n.1,(o.1,(r.1,(Bool.true,())))))))))) (
 opt.ask _ (p.cmp .neq h.2.1 (0:Int)) (
 opt.need _ (p.eqN 0 0)<|
 opt.need _ (p.eqN (p.len f.1) (p.len f.1))<|
 opt.need _ (p.eqN 0 0)<|
 opt.need _ (p.eqN (p.len l.1) (p.len l.1))<|
 opt.ret _ (f.1,(l.1,(b.1,(d.1,(h.1,(n.1,(o.1,(r.1,(Bool.true,())))))))))) (
 opt.ask _ (p.cmp .neq j.1 (0:Int)) (
 opt.need _ (p.eqN 0 0)<|
 opt.need _ (p.eqN (p.len f.1) (p.len f.1))<|
 opt.need _ (p.eqN 0 0)<|
 opt.need _ (p.eqN (p.len l.1) (p.len l.1))<|
 opt.ret _ (f.1,(l.1,(b.1,(d.1,(h.1,(n.1,(o.1,(r.1,(Bool.true,())))))))))) (
 opt.ask _ (p.cmp .neq l.2.1 (0:Int)) (
 opt.need _ (p.eqN 0 0)<|
 opt.need _ (p.eqN (p.len f.1) (p.len f.1))<|
 opt.need _ (p.eqN 0 0)<|
 opt.need _ (p.eqN (p.len l.1) (p.len l.1))<|
 opt.ret _ (f.1,(l.1,(b.1,(d.1,(h.1,(n.1,(o.1,(r.1,(Bool.true,())))))))))) (
 opt.ask _ (p.cmp .neq n.2.1 (0:Int)) (
 opt.need _ (p.eqN 0 0)<|
 opt.need _ (p.eqN (p.len f.1) (p.len f.1))<|
 opt.need _ (p.eqN 0 0)<|
 opt.need _ (p.eqN (p.len l.1) (p.len l.1))<|
 opt.ret _ (f.1,(l.1,(b.1,(d.1,(h.1,(n.1,(o.1,(r.1,(Bool.true,())))))))))) (
 opt.ask _ (p.cmp .neq o.2.1 (0:Int)) (
 opt.need _ (p.eqN 0 0)<|
 opt.need _ (p.eqN (p.len f.1) (p.len f.1))<|
 opt.need _ (p.eqN 0 0)<|
 opt.need _ (p.eqN (p.len l.1) (p.len l.1))<|
 opt.ret _ (f.1,(l.1,(b.1,(d.1,(h.1,(n.1,(o.1,(r.1,(Bool.true,())))))))))) (
 opt.ask _ (p.cmp .neq q.2.1 (13:Int)) (
 opt.need _ (p.eqN 0 0)<|
 opt.need _ (p.eqN (p.len f.1) (p.len f.1))<|
 opt.need _ (p.eqN 0 0)<|
 opt.need _ (p.eqN (p.len l.1) (p.len l.1))<|
 opt.ret _ (f.1,(l.1,(b.1,(d.1,(h.1,(n.1,(o.1,(r.1,(Bool.true,())))))))))) (
 opt.ask _ (p.cmp .neq r.2.1 (0:Int)) (
 opt.need _ (p.eqN 0 0)<|
 opt.need _ (p.eqN (p.len f.1) (p.len f.1))<|
 opt.need _ (p.eqN 0 0)<|
 opt.need _ (p.eqN (p.len l.1) (p.len l.1))<|
 opt.ret _ (f.1,(l.1,(b.1,(d.1,(h.1,(n.1,(o.1,(r.1,(Bool.true,())))))))))) (
 opt.need _ (p.eqN 0 0)<|
 opt.need _ (p.eqN (p.len f.1) (p.len f.1))<|
 opt.need _ (p.eqN 0 0)<|
 opt.need _ (p.eqN (p.len l.1) (p.len l.1))<|
 opt.ret _ (f.1,(l.1,(b.1,(d.1,(h.1,(n.1,(o.1,(r.1,((p.cmp .neq t.1 (0:Int)),()))))))))))))))))))))) fun u=>
 opt.ask _ u.2.2.2.2.2.2.2.2.1 (
 opt.ret _ (Bool.false,())) (
 opt.bnd ((LD×T1)) _ (g33 it p (u.2.2.2.2.2.2.1,())) fun v=>
 opt.bnd T0 _ (
 opt.run T0 (
 opt.ask _ (p.cmp .eql v.2.1 (0:Int)) (
 opt.need _ (p.and (p.leN (p.add 0 (p.len v.1)) (p.len v.1)) (p.and Bool.true Bool.true))<|
 opt.bnd T0 _ (g21 it p ((p.cut v.1 0 (p.len v.1)),([[k1k],[k1k],[k1k]],()))) fun w=>
 opt.ask _ w.1 (
 opt.bnd T0 _ (g21 it p (u.2.2.1,([k0k,[k1k]],()))) fun z=>
 opt.ask _ z.1 (
 opt.bnd T0 _ (g22 it p (u.2.2.2.1,([[(D.list Bool.true 1 [[k1k]])],[(D.list Bool.true 1 [[k3k]])],[(D.list Bool.true 1 [k0k])]],()))) fun a1=>
 opt.ask _ a1.1 (
 opt.need _ (p.and (p.leN (p.add 0 (p.len u.1)) (p.len u.1)) (p.and Bool.true Bool.true))<|
 opt.bnd T0 _ (g21 it p ((p.cut u.1 0 (p.len u.1)),([[k1k],[k3k],[k3k],[k1k]],()))) fun b1=>
 opt.ask _ b1.1 (
 opt.ask _ (p.cmp .eql u.2.2.2.2.1 (2:Int)) (
 opt.bnd ((LD×Unit)) _ (G41 p ()) fun c1=>
 opt.need _ (p.and Bool.true (p.and (p.leN (p.add 0 (p.len u.2.1)) (p.len u.2.1)) Bool.true))<|
 opt.bnd T2 _ (g25 it p (c1.1,((p.cut u.2.1 0 (p.len u.2.1)),()))) fun d1=>
 opt.ask _ (p.cmp .eql d1.1 (0:Int)) (
 opt.bnd T0 _ (g22 it p (u.2.2.2.2.2.1,([[(D.list Bool.true 1 [k0k,[k1k],[k3k],k4k])]],()))) fun e1=>
 opt.ask _ e1.1 (
 opt.bnd T2 _ (g29 it p ([k0k,k0k,k4k],(u.2.2.2.2.2.2.2.1,()))) fun f1=>
 opt.ret _ ((p.cmp .eql f1.1 (0:Int)),())) (
 opt.ret _ (Bool.false,()))) (
 opt.ret _ (Bool.false,()))) (
 opt.ret _ (Bool.false,()))) (
 opt.ret _ (Bool.false,()))) (
 opt.ret _ (Bool.false,()))) (
 opt.ret _ (Bool.false,()))) (
 opt.ret _ (Bool.false,()))) (
 opt.ret _ (Bool.false,())))) fun g1=>
 opt.ret _ (g1.1,()))
def G14:=g14 it0
theorem ok14:CtrOk PG w9w (G14 std):=okF (a:=an14) (l:=la14) (gC ok29 (gC v6u (gC ok22 (gC v6w (gC ok33 (gC ok28 (gC ok31 (gC ok30 (gC v6r (gC v6t (gC v6v (gC ok36 (gC v2l (gC ok41 (gC ok17 (gC ok15 (gC ok45 (gN)))))))))))))))))) (by kernel_rfl) fun _ _=>by kernel_rfl
end Go.Am
end
section
namespace Go.Am
theorem v1g {i j:It} (h:i.Le j):∀ s,le (g21 i std s) (g21 j std s):=fun _=>z0y (le_refl _) (z2g (h _ _ _ _ _ (fun _=>le_refl _)) (fun _=>le_refl _) (fun _=>le_refl _))
theorem w8f {i j:It} (h:i.Le j):∀ s,le (w6m i std s) (w6m j std s):=fun _=>z19 (z0y (z0a (z0a (z0a (z0a (z0f (v1g h _) (fun _=>le_refl _)))))) (le_refl _))
theorem v63 {i j:It} (h:i.Le j):∀ s,le (g22 i std s) (g22 j std s):=fun _=>z0y (le_refl _) (z2g (h _ _ _ _ _ (w8f h)) (fun _=>le_refl _) (fun _=>le_refl _))
theorem v61 {i j:It} (h:i.Le j):∀ s,le (g38 i std s) (g38 j std s):=fun _=>z2g (h _ _ _ _ _ (fun _=>le_refl _)) (fun _=>le_refl _) (fun _=>le_refl _)
theorem v1e {i j:It} (h:i.Le j):∀ s,le (g40 i std s) (g40 j std s):=fun _=>z2g (h _ _ _ _ _ (fun _=>le_refl _)) (fun _=>le_refl _) (fun _=>le_refl _)
theorem w79 {i j:It} (h:i.Le j):∀ s,le (y9z i std s) (y9z j std s):=fun _=>z19 (z0y (z0f (v1e h _) (fun _=>z0f (v1e h _) (fun _=>le_refl _))) (le_refl _))
theorem w8a {i j:It} (h:i.Le j):∀ s,le (y42 i std s) (y42 j std s):=fun _=>z19 (z0y (z2g (z19 (z0f (v1e h _) (fun _=>z0y (le_refl _) (z2g (h _ _ _ _ _ (w79 h)) (fun _=>le_refl _) (fun _=>le_refl _))))) (fun _=>le_refl _) (fun _=>le_refl _)) (le_refl _))
theorem w8b {i j:It} (h:i.Le j):∀ s,le (y7v i std s) (y7v j std s):=fun _=>z19 (z0y (z0a (z0a (z0f (v61 h _) (fun _=>le_refl _)))) (le_refl _))
theorem v1f {i j:It} (h:i.Le j):∀ s,le (g27 i std s) (g27 j std s):=fun _=>z0f (le_refl _) (fun _=>z0y (le_refl _) (z2g (h _ _ _ _ _ (w8b h)) (fun _=>le_refl _) (fun _=>z0f (le_refl _) (fun _=>z2g (h _ _ _ _ _ (w8a h)) (fun _=>le_refl _) (fun _=>le_refl _)))))
theorem mg33 {i j:It} (h:i.Le j):∀ s,le (g33 i std s) (g33 j std s):=fun _=>z0f (v1f h _) (fun _=>z0y (z0f (v1f h _) (fun _=>le_refl _)) (z0f (h _ _ _ _ _ (fun _=>le_refl _)) (fun _=>le_refl _)))
theorem w8d {i j:It} (h:i.Le j):∀ s,le (y7w i std s) (y7w j std s):=fun _=>z19 (z0y (z0a (z0a (z0a (z0a (z0f (v1e h _) (fun _=>le_refl _)))))) (le_refl _))
theorem w8e {i j:It} (h:i.Le j):∀ s,le (y4b i std s) (y4b j std s):=fun _=>z19 (z0y (z2g (z19 (z0f (le_refl _) (fun _=>z0y (le_refl _) (z2g (h _ _ _ _ _ (fun _=>le_refl _)) (fun _=>le_refl _) (fun _=>le_refl _))))) (fun _=>le_refl _) (fun _=>le_refl _)) (le_refl _))
theorem mg25 {i j:It} (h:i.Le j):∀ s,le (g25 i std s) (g25 j std s):=fun _=>z0f (v1f h _) (fun _=>z0y (z0f (v1f h _) (fun _=>le_refl _)) (z0y (le_refl _) (z2g (h _ _ _ _ _ (w8e h)) (fun _=>le_refl _) (fun _=>z0f (le_refl _) (fun _=>z2g (h _ _ _ _ _ (w8d h)) (fun _=>le_refl _) (fun _=>le_refl _))))))
theorem v60 {i j:It} (h:i.Le j):∀ s,le (g62 i std s) (g62 j std s):=fun _=>z0f (le_refl _) (fun _=>z0y (le_refl _) (z2g (h _ _ _ _ _ (fun _=>le_refl _)) (fun _=>le_refl _) (fun _=>le_refl _)))
theorem mg63 {i j:It} (h:i.Le j):∀ s,le (g63 i std s) (g63 j std s):=fun _=>z0f (h _ _ _ _ _ (fun _=>le_refl _)) (fun _=>le_refl _)
theorem mg29 {i j:It} (h:i.Le j):∀ s,le (g29 i std s) (g29 j std s):=fun _=>z0f (v60 h _) (fun _=>z0y (z0f (v60 h _) (fun _=>le_refl _)) (z0f (v61 h _) (fun _=>z0y (le_refl _) (z0f (mg63 h _) (fun _=>le_refl _)))))
theorem mg52 {i j:It} (h:i.Le j):∀ s,le (g52 i std s) (g52 j std s):=fun _=>z2g (h _ _ _ _ _ (fun _=>le_refl _)) (fun _=>le_refl _) (fun _=>le_refl _)
theorem v1d {i j:It} (h:i.Le j):∀ s,le (g56 i std s) (g56 j std s):=fun _=>z2g (h _ _ _ _ _ (fun _=>le_refl _)) (fun _=>le_refl _) (fun _=>le_refl _)
theorem mg70 {i j:It} (h:i.Le j):∀ s,le (g70 i std s) (g70 j std s):=fun _=>z0f (h _ _ _ _ _ (fun _=>le_refl _)) (fun _=>le_refl _)
theorem v21 {i j:It} (h:i.Le j):∀ s,le (g61 i std s) (g61 j std s):=fun _=>z0f (le_refl _) (fun _=>z2g (z19 (z0y (le_refl _) (z0f (mg52 h _) (fun _=>le_refl _)))) (fun _=>le_refl _) (fun _=>le_refl _))
theorem w73 {i j:It} (h:i.Le j):∀ s,le (y7s i std s) (y7s j std s):=fun _=>z19 (z0y (z2g (h _ _ _ _ _ (fun _=>le_refl _)) (fun _=>le_refl _) (fun _=>le_refl _)) (le_refl _))
theorem w74 {i j:It} (h:i.Le j):∀ s,le (y7t i std s) (y7t j std s):=fun _=>z19 (z0y (z0a (z0a (z0f (v1d h _) (fun _=>z0y (le_refl _) (z0f (h _ _ _ _ _ (fun _=>le_refl _)) (fun _=>le_refl _)))))) (le_refl _))
theorem v24 {i j:It} (h:i.Le j):∀ s,le (g54 i std s) (g54 j std s):=fun _=>z0f (le_refl _) (fun _=>z0y (le_refl _) (z2g (h _ _ _ _ _ (w74 h)) (fun _=>le_refl _) (fun _=>z0f (le_refl _) (fun _=>z2g (h _ _ _ _ _ (fun _=>le_refl _)) (fun _=>le_refl _) (fun _=>z0f (le_refl _) (fun _=>z0a (z2g (h _ _ _ _ _ (w73 h)) (fun _=>le_refl _) (fun _=>le_refl _))))))))
theorem w77 {i j:It} (h:i.Le j):∀ s,le (x1o i std s) (x1o j std s):=fun _=>z19 (z0y (z0a (z0a (z0a (z0f (mg70 h _) (fun _=>le_refl _))))) (le_refl _))
theorem v25 {i j:It} (h:i.Le j):∀ s,le (g35 i std s) (g35 j std s):=fun _=>z2g (v24 h _) (fun _=>le_refl _) (fun _=>z0f (le_refl _) (fun _=>z0y (le_refl _) (z0a (z0a (z0a (z0a (z0a (z0f (h _ _ _ _ _ (w77 h)) (fun _=>le_refl _)))))))))
theorem mg36 {i j:It} (h:i.Le j):∀ s,le (g36 i std s) (g36 j std s):=fun _=>z0f (v25 h _) (fun _=>z0y (le_refl _) (z0a (z0a (z0a (z0f (h _ _ _ _ _ (fun _=>le_refl _)) (fun _=>le_refl _))))))
theorem w4q {i j:It} (h:i.Le j):∀ s,le (z7x i std s) (z7x j std s):=fun _=>z19 (z0y (z0a (z0a (z0a (z0f (h _ _ _ _ _ (fun _=>le_refl _)) (fun _=>le_refl _))))) (le_refl _))
theorem v2w {i j:It} (h:i.Le j):∀ s,le (w5l i std s) (w5l j std s):=fun _=>z0a (z0a (z0a (z0f (h _ _ _ _ _ (w4q h)) (fun _=>le_refl _))))
theorem w4u {i j:It} (h:i.Le j):∀ s,le (y9y i std s) (y9y j std s):=fun _=>z19 (z0y (z0a (z0a (z0a (z0f (v2w h _) (fun _=>le_refl _))))) (le_refl _))
theorem v2z {i j:It} (h:i.Le j):∀ s,le (w8y i std s) (w8y j std s):=fun _=>z0a (z0a (z0a (z0f (h _ _ _ _ _ (w4u h)) (fun _=>le_refl _))))
theorem w7z {i j:It} (h:i.Le j):∀ s,le (w5m i std s) (w5m j std s):=fun _=>z0f (le_refl _) (fun _=>z0a (z0a (z0a (z0f (v2z h _) (fun _=>le_refl _)))))
theorem w4p {i j:It} (h:i.Le j):∀ s,le (z7w i std s) (z7w j std s):=fun _=>z19 (z0y (z0a (z0a (z0f (h _ _ _ _ _ (fun _=>le_refl _)) (fun _=>le_refl _)))) (le_refl _))
theorem v2v {i j:It} (h:i.Le j):∀ s,le (w5j i std s) (w5j j std s):=fun _=>z0a (z0a (z0f (h _ _ _ _ _ (w4p h)) (fun _=>le_refl _)))
theorem w4t {i j:It} (h:i.Le j):∀ s,le (y9x i std s) (y9x j std s):=fun _=>z19 (z0y (z0a (z0a (z0f (v2v h _) (fun _=>le_refl _)))) (le_refl _))
theorem v2y {i j:It} (h:i.Le j):∀ s,le (w8x i std s) (w8x j std s):=fun _=>z0a (z0a (z0f (h _ _ _ _ _ (w4t h)) (fun _=>le_refl _)))
theorem v23 {i j:It} (h:i.Le j):∀ s,le (w68 i std s) (w68 j std s):=fun _=>z0f (le_refl _) (fun _=>z0a (z0a (z0f (v2y h _) (fun _=>le_refl _))))
theorem w4v {i j:It} (h:i.Le j):∀ s,le (z7y i std s) (z7y j std s):=fun _=>z19 (z0y (z0a (z0a (z0f (h _ _ _ _ _ (fun _=>le_refl _)) (fun _=>le_refl _)))) (le_refl _))
theorem w70 {i j:It} (h:i.Le j):∀ s,le (w24 i std s) (w24 j std s):=fun _=>z0a (z0a (z0f (h _ _ _ _ _ (w4v h)) (fun _=>le_refl _)))
theorem w71 {i j:It} (h:i.Le j):∀ s,le (x8k i std s) (x8k j std s):=fun _=>z19 (z0y (z0a (z0a (z0f (h _ _ _ _ _ (fun _=>le_refl _)) (fun _=>le_refl _)))) (le_refl _))
theorem w72 {i j:It} (h:i.Le j):∀ s,le (x8l i std s) (x8l j std s):=fun _=>z19 (z0y (z0a (z0a (z0f (w70 h _) (fun _=>le_refl _)))) (le_refl _))
theorem mg86 {i j:It} (h:i.Le j):∀ s,le (g86 i std s) (g86 j std s):=fun _=>z0a (z0a (z0f (h _ _ _ _ _ (w72 h)) (fun _=>z0a (z0a (z0f (w70 h _) (fun _=>z0a (z0a (z0f (h _ _ _ _ _ (w71 h)) (fun _=>le_refl _)))))))))
theorem mg66 {i j:It} (h:i.Le j):∀ s,le (g66 i std s) (g66 j std s):=fun _=>z0a (z0a (z0f (mg86 h _) (fun _=>le_refl _)))
theorem v6y {i j:It} (h:i.Le j):∀ s,le (g71 i std s) (g71 j std s):=fun _=>z0f (h _ _ _ _ _ (fun _=>le_refl _)) (fun _=>z0a (z0a (z0f (mg66 h _) (fun _=>le_refl _))))
theorem x98 {i j:It} (h:i.Le j):∀ s,le (x1p i std s) (x1p j std s):=fun _=>z19 (z0y (z0f (h _ _ _ _ _ (fun _=>le_refl _)) (fun _=>le_refl _)) (le_refl _))
theorem w2t {i j:It} (h:i.Le j):∀ s,le (x7d i std s) (x7d j std s):=fun _=>z0f (h _ _ _ _ _ (x98 h)) (fun _=>le_refl _)
theorem w4r {i j:It} (h:i.Le j):∀ s,le (x8i i std s) (x8i j std s):=fun _=>z19 (z0y (z0f (h _ _ _ _ _ (fun _=>le_refl _)) (fun _=>le_refl _)) (le_refl _))
theorem w4s {i j:It} (h:i.Le j):∀ s,le (x8j i std s) (x8j j std s):=fun _=>z19 (z0y (z0f (w2t h _) (fun _=>le_refl _)) (le_refl _))
theorem v2x {i j:It} (h:i.Le j):∀ s,le (v1i i std s) (v1i j std s):=fun _=>z0f (h _ _ _ _ _ (w4s h)) (fun _=>z0f (w2t h _) (fun _=>z0f (h _ _ _ _ _ (w4r h)) (fun _=>le_refl _)))
theorem v20 {i j:It} (h:i.Le j):∀ s,le (v1j i std s) (v1j j std s):=fun _=>z0f (v2x h _) (fun _=>le_refl _)
theorem mg24 {i j:It} (h:i.Le j):∀ s,le (g24 i std s) (g24 j std s):=fun _=>z2g (v24 h _) (fun _=>z2g (le_refl _) (fun _=>le_refl _) (fun _=>z0f (le_refl _) (fun _=>z0a (z0a (z0a (z0a (z0a (z0f (w7z h _) (fun _=>z0a (z0a (z0f (v1d h _) (fun _=>z0y (le_refl _) (z2g (h _ _ _ _ _ (fun _=>le_refl _)) (fun _=>le_refl _) (fun _=>le_refl _)))))))))))))) (fun _=>z0f (le_refl _) (fun _=>z2g (le_refl _) (fun _=>le_refl _) (fun _=>z0f (le_refl _) (fun _=>z0a (z0a (z0a (z0a (z0a (z0f (w7z h _) (fun _=>z0a (z0a (z0f (v1d h _) (fun _=>z0y (le_refl _) (z2g (h _ _ _ _ _ (fun _=>le_refl _)) (fun _=>le_refl _) (fun _=>le_refl _)))))))))))))))
theorem v6x {i j:It} (h:i.Le j):∀ s,le (g73 i std s) (g73 j std s):=fun _=>z0f (h _ _ _ _ _ (fun _=>le_refl _)) (fun _=>z0a (z0a (z0f (v23 h _) (fun _=>le_refl _))))
theorem w8c {i j:It} (h:i.Le j):∀ s,le (y90 i std s) (y90 j std s):=fun _=>z19 (z0y (z0f (z19 (z0a (z0a (z0a (z0a (z2g (h _ _ _ _ _ (fun _=>le_refl _)) (fun _=>le_refl _) (fun _=>le_refl _))))))) (fun _=>le_refl _)) (le_refl _))
theorem mg26 {i j:It} (h:i.Le j):∀ s,le (g26 i std s) (g26 j std s):=fun _=>z2g (v24 h _) (fun _=>le_refl _) (fun _=>z0f (le_refl _) (fun _=>z0y (le_refl _) (z0a (z0f (h _ _ _ _ _ (w8c h)) (fun _=>le_refl _)))))
theorem mg72 {i j:It} (h:i.Le j):∀ s,le (g72 i std s) (g72 j std s):=fun _=>z0a (z0a (z0f (h _ _ _ _ _ (fun _=>le_refl _)) (fun _=>le_refl _)))
theorem w76 {i j:It} (h:i.Le j):∀ s,le (y7u i std s) (y7u j std s):=fun _=>z19 (z0y (z0a (z0a (z0a (z0a (z0a (z0f (z19 (z0y (z0a (z0f (v6x h _) (fun _=>le_refl _))) (le_refl _))) (fun _=>le_refl _))))))) (le_refl _))
theorem mg37 {i j:It} (h:i.Le j):∀ s,le (g37 i std s) (g37 j std s):=fun _=>z0f (v25 h _) (fun _=>z0y (le_refl _) (z0a (z0f (v6y h _) (fun _=>z0a (z0a (z0a (z0f (mg72 h _) (fun _=>z0a (z0a (z0a (z0a (z0a (z0a (z0f (h _ _ _ _ _ (w76 h)) (fun _=>le_refl _)))))))))))))))
theorem v6z {i j:It} (h:i.Le j):∀ s,le (g64 i std s) (g64 j std s):=fun _=>z0f (v6y h _) (fun _=>z0a (z0a (z0a (z0a (z0f (h _ _ _ _ _ (fun _=>le_refl _)) (fun _=>z0y (le_refl _) (z0a (z0f (v6x h _) (fun _=>le_refl _)))))))))
theorem mg31 {i j:It} (h:i.Le j):∀ s,le (g31 i std s) (g31 j std s):=fun _=>z0f (v21 h _) (fun _=>z0y (le_refl _) (z0f (v6z h _) (fun _=>le_refl _)))
theorem mg28 {i j:It} (h:i.Le j):∀ s,le (g28 i std s) (g28 j std s):=fun _=>z0f (v21 h _) (fun _=>z0y (le_refl _) (z0f (v1d h _) (fun _=>z0y (le_refl _) (z0f (h _ _ _ _ _ (fun _=>le_refl _)) (fun _=>le_refl _)))))
theorem w75 {i j:It} (h:i.Le j):∀ s,le (w6j i std s) (w6j j std s):=fun _=>z19 (z0y (z0f (z19 (z0a (z0a (z0a (z0a (z0a (z0a (z0a (z0a (z0a (z0a (z0a (z0y (le_refl _) (z0a (z0a (z0a (z0a (z0f (h _ _ _ _ _ (fun _=>le_refl _)) (fun _=>le_refl _))))))))))))))))))) (fun _=>le_refl _)) (le_refl _))
theorem mg49 {i j:It} (h:i.Le j):∀ s,le (g49 i std s) (g49 j std s):=fun _=>z0a (z0a (z0a (z0a (z0a (z0f (h _ _ _ _ _ (w75 h)) (fun _=>le_refl _))))))
theorem w78 {i j:It} (h:i.Le j):∀ s,le (w6k i std s) (w6k j std s):=fun _=>z19 (z0y (z0a (z0a (z0a (z0f (v20 h _) (fun _=>z0f (h _ _ _ _ _ (fun _=>le_refl _)) (fun _=>le_refl _)))))) (le_refl _))
theorem v62 {i j:It} (h:i.Le j):∀ s,le (g30 i std s) (g30 j std s):=fun _=>z0f (v21 h _) (fun _=>z0y (le_refl _) (z0f (v6z h _) (fun _=>z0y (le_refl _) (z0a (z0a (z0f (le_refl _) (fun _=>z0f (h _ _ _ _ _ (fun _=>le_refl _)) (fun _=>z0f (h _ _ _ _ _ (w78 h)) (fun _=>z0f (mg49 h _) (fun _=>le_refl _))))))))))
theorem mg14 {i j:It} (h:i.Le j):∀ s,le (g14 i std s) (g14 j std s):=fun _=>z0f (le_refl _) (fun _=>z0f (le_refl _) (fun _=>z0f (le_refl _) (fun _=>z0f (le_refl _) (fun _=>z0f (le_refl _) (fun _=>z0f (v25 h _) (fun _=>z0f (le_refl _) (fun _=>z0f (mg36 h _) (fun _=>z0f (le_refl _) (fun _=>z0f (mg24 h _) (fun _=>z0f (le_refl _) (fun _=>z0f (mg26 h _) (fun _=>z0f (le_refl _) (fun _=>z0f (mg37 h _) (fun _=>z0f (v62 h _) (fun _=>z0f (v62 h _) (fun _=>z0f (mg31 h _) (fun _=>z0f (mg28 h _) (fun _=>z0f (le_refl _) (fun _=>z0y (le_refl _) (z0f (mg33 h _) (fun _=>z0f (z19 (z0y (z0a (z0f (v1g h _) (fun _=>z0y (z0f (v1g h _) (fun _=>z0y (z0f (v63 h _) (fun _=>z0y (z0a (z0f (v1g h _) (fun _=>z0y (z0y (z0f (le_refl _) (fun _=>z0a (z0f (mg25 h _) (fun _=>z0y (z0f (v63 h _) (fun _=>z0y (z0f (mg29 h _) (fun _=>le_refl _)) (le_refl _))) (le_refl _))))) (le_refl _)) (le_refl _)))) (le_refl _))) (le_refl _))) (le_refl _)))) (le_refl _))) (fun _=>le_refl _))))))))))))))))))))))
end Go.Am
end
section
namespace Go.Am
theorem w80:g14 (itN 400) std ()=some (true,()):=by kernel_rfl
theorem v02:G14 std ()=some (true,()):=mg14 (w8l 400) () _ w80
end Go.Am
end
noncomputable section
namespace Go.Am
def g4 (it:It):(p:Prim)→(LD×(LD×Unit))→Option T0:=
 fun p x=>
 opt.bnd ((LD×(LD×T7))) _ (
 opt.run ((LD×(LD×T7))) (
 opt.bnd T0 _ (g23 it p (x.1,())) fun a=>
 opt.ask _ a.1 (
 opt.ret _ (x.1,(x.2.1,(Bool.true,())))) (
 opt.ask _ (p.cmp .gtr (p.ofNat (p.len x.2.1)) (14:Int)) (
 opt.ret _ (x.1,(x.2.1,(Bool.true,())))) (
 opt.bnd T2 _ (g24 it p (x.1,(x.2.1,()))) fun b=>
 opt.bnd T2 _ (g25 it p (x.1,(x.2.1,()))) fun c=>
 opt.ret _ (x.1,(x.2.1,((p.cmp .neq b.1 c.1),()))))))) fun d=>
 opt.ask _ d.2.2.1 (
 opt.bnd T0 _ (
 opt.run T0 (
 opt.bnd T0 _ (g23 it p (d.1,())) fun e=>
 opt.ask _ e.1 (
 opt.bnd T0 _ (g14 it p ()) fun f=>
 opt.ret _ (f.1,())) (
 opt.ask _ (p.cmp .gtr (p.ofNat (p.len d.2.1)) (14:Int)) (
 opt.bnd T0 _ (g14 it p ()) fun g=>
 opt.ret _ (g.1,())) (
 opt.ret _ (Bool.false,()))))) fun h=>
 opt.ret _ (h.1,())) (
 opt.bnd ((LD×T1)) _ (g26 it p (d.1,())) fun i=>
 opt.bnd T2 _ (g27 it p (d.1,())) fun j=>
 opt.ask _ (p.cmp .neq j.1 (0:Int)) (
 opt.bnd T0 _ (
 opt.run T0 (
 opt.bnd T2 _ (g27 it p (d.1,())) fun k=>
 opt.ask _ (p.cmp .eql i.2.1 k.1) (
 opt.ask _ (p.cmp .eql (p.ofNat (p.len i.1)) (0:Int)) (
 opt.bnd T0 _ (g14 it p ()) fun l=>
 opt.ret _ (l.1,())) (
 opt.ret _ (Bool.false,()))) (
 opt.ret _ (Bool.false,())))) fun m=>
 opt.ret _ (m.1,())) (
 opt.bnd T0 _ (
 opt.run T0 (
 opt.ask _ (p.cmp .eql i.2.1 (0:Int)) (
 opt.need _ (p.and Bool.true (p.and (p.leN (p.add 0 (p.len i.1)) (p.len i.1)) Bool.true))<|
 opt.bnd T2 _ (g25 it p (d.1,((p.cut i.1 0 (p.len i.1)),()))) fun n=>
 opt.ask _ (p.cmp .eql n.1 (0:Int)) (
 opt.bnd T0 _ (g14 it p ()) fun o=>
 opt.ret _ (o.1,())) (
 opt.ret _ (Bool.false,()))) (
 opt.ret _ (Bool.false,())))) fun q=>
 opt.ret _ (q.1,())))
def g5 (it:It):(p:Prim)→(LD×(LD×Unit))→Option T0:=
 fun p x=>
 opt.bnd ((LD×(LD×T7))) _ (
 opt.run ((LD×(LD×T7))) (
 opt.ask _ (p.cmp .gtr (p.ofNat (p.len x.1)) (14:Int)) (
 opt.ret _ (x.1,(x.2.1,(Bool.true,())))) (
 opt.ret _ (x.1,(x.2.1,((p.cmp .gtr (p.ofNat (p.len x.2.1)) (14:Int)),())))))) fun a=>
 opt.ask _ a.2.2.1 (
 opt.bnd T0 _ (g14 it p ()) fun b=>
 opt.ret _ (b.1,())) (
 opt.bnd T2 _ (g28 it p (a.1,(a.2.1,()))) fun c=>
 opt.bnd T2 _ (g29 it p (a.1,(a.2.1,()))) fun d=>
 opt.ask _ (p.cmp .neq c.1 d.1) (
 opt.ret _ (Bool.false,())) (
 opt.bnd ((LD×T1)) _ (g30 it p (a.1,())) fun e=>
 opt.bnd ((LD×T1)) _ (g31 it p (a.1,())) fun f=>
 opt.bnd T2 _ (g32 it p (a.1,())) fun g=>
 opt.ask _ (p.cmp .neq e.2.1 g.1) (
 opt.ret _ (Bool.false,())) (
 opt.ask _ (p.cmp .eql g.1 (0:Int)) (
 opt.bnd ((LD×T1)) _ (g33 it p (e.1,())) fun h=>
 opt.bnd T0 _ (
 opt.run T0 (
 opt.ask _ (p.cmp .eql h.2.1 (0:Int)) (
 opt.need _ (p.and (p.leN (p.add 0 (p.len h.1)) (p.len h.1)) (p.and Bool.true Bool.true))<|
 opt.bnd T0 _ (g21 it p ((p.cut h.1 0 (p.len h.1)),(a.1,()))) fun i=>
 opt.ask _ i.1 (
 opt.ask _ (p.cmp .eql f.2.1 (5:Int)) (
 opt.ask _ (p.cmp .eql (p.ofNat (p.len f.1)) (0:Int)) (
 opt.bnd T0 _ (g14 it p ()) fun j=>
 opt.ret _ (j.1,())) (
 opt.ret _ (Bool.false,()))) (
 opt.ret _ (Bool.false,()))) (
 opt.ret _ (Bool.false,()))) (
 opt.ret _ (Bool.false,())))) fun k=>
 opt.ret _ (k.1,())) (
 opt.ask _ (p.cmp .eql g.1 (13:Int)) (
 opt.bnd T0 _ (
 opt.run T0 (
 opt.ask _ (p.cmp .eql (p.ofNat (p.len e.1)) (0:Int)) (
 opt.ask _ (p.cmp .eql f.2.1 (0:Int)) (
 opt.bnd T2 _ (g29 it p (a.1,(f.1,()))) fun l=>
 opt.ask _ (p.cmp .eql l.1 (0:Int)) (
 opt.bnd T0 _ (g14 it p ()) fun m=>
 opt.ret _ (m.1,())) (
 opt.ret _ (Bool.false,()))) (
 opt.ret _ (Bool.false,()))) (
 opt.ret _ (Bool.false,())))) fun n=>
 opt.ret _ (n.1,())) (
 opt.bnd T0 _ (
 opt.run T0 (
 opt.ask _ (p.cmp .eql (p.ofNat (p.len e.1)) (0:Int)) (
 opt.ask _ (p.cmp .eql f.2.1 g.1) (
 opt.ask _ (p.cmp .eql (p.ofNat (p.len f.1)) (0:Int)) (
 opt.bnd T0 _ (g14 it p ()) fun o=>
 opt.ret _ (o.1,())) (
 opt.ret _ (Bool.false,()))) (
 opt.ret _ (Bool.false,()))) (
 opt.ret _ (Bool.false,())))) fun q=>
 opt.ret _ (q.1,()))))))
end Go.Am
end
section
namespace Go.Am
open T11
theorem x70 {d:List (List Int)} (h:z00 d=0):∀ l∈d,l.length≤1000000:=fun l hl=>by
 obtain ⟨i,hi⟩:=List.getElem?_of_mem hl
 have hlt:=(List.getElem?_eq_some_iff.1 hi).1
 have hr:=y0t h i hlt
 rw [z15 hi] at hr
 have:=w37 hr
 have:=z2h h
 omega
end Go.Am
end
section
namespace Go.Am
noncomputable abbrev P34:Program:=Go.Proofs.Try.prog
noncomputable def E34:Env:=autoEnvD [] P34
theorem v66:y2n P34 E34:=autoEnvD_ok follows_mixed
theorem v65:z96 P34 E34.T:=v66.ti
def ti30:TI:=⟨1,24,false,[.list true 0 []], .slc 26 1 24 false [.list true 0 []],none⟩
def w64:TI:=⟨1,24,false,[.list true 0 []], .slc 3 1 8 false [.int .i64 0],none⟩
theorem w7g:E34.T 30=some ti30:=by kernel_rfl
theorem y8b:E34.T 26=some w64:=by kernel_rfl
noncomputable def z6m (pos:List Bool):Code:=(z1u P34 34 pos).getD .skip
noncomputable def y1l (pos:List Bool):Array Oper:=
 match z6m pos with
 | .region _ ops _=>ops
 |_=>#[]
def pA:List Bool:=[false,true,true,true,true]
def pL:List Bool:=false::true::pA
def pLB:List Bool:=false::pL
def pM:List Bool:=[false,true,false,false,true]++pLB
def pLK:List Bool:=false::pM
def pX:List Bool:=[false,false,true]++pLK
def p11:List Bool:=[false,true,false]++pX
def p12:List Bool:=[true,true,false]++pX
def mkE (b at_ i k:Int) (N:Nat):List (Nat×AV):=[(1, .d (.int .u64 b)),(5, .d (.int .i64 N)),(6, .slice 0 1 0 N (some N)),(7, .d (.int .i64 at_)),(8, .d (.int .i64 i)),(9, .d (.int .i64 k))]
theorem z7p {b at_ i k:Int} {N:Nat} {env:List (Nat×AV)} (h:∃ r,env=mkE b at_ i k N++r):w2m (mkE b at_ i k N) env:=by
 obtain ⟨r,rfl⟩:=h
 intro t
 unfold mkE
 simp only [List.cons_append,List.nil_append,z1g]
 cases Nat.beq 1 t<;>cases Nat.beq 5 t<;>cases Nat.beq 6 t<;>cases Nat.beq 7 t<;>cases Nat.beq 8 t<;>cases Nat.beq 9 t<;>simp
structure Fam (h:List AO) (E:List (List AV)) (R:List (List Int)):Prop where
 pos:0<h.length
 arr:z0k h 0= .arow E
 len:E.length=R.length
 cell:∀ (j:Nat) (row:List Int),R[j]?=some row→(E[j]?=some [AV.d (.list true 0 [])]∧row=[])∨∃ id:Nat,E[j]?=some [AV.slice id 1 0 row.length none]∧z0k h id= .row (z0e row)∧0<id∧id<h.length
 inj:∀ (j j' id l l':Nat),E[j]?=some [AV.slice id 1 0 l none]→E[j']?=some [AV.slice id 1 0 l' none]→j=j'
theorem x4t {env:List (Nat×AV)} {h:List AO} {new:Nat} {N x a b:Nat} (ha:z1g env a= .slice 0 1 0 N (some N)) (hb:z1g env b= .d (.int .i64 x)):
  z08 std E34.T env h new false [] [] (.indexAddr 30 (.tmp a) (.tmp b))=some ⟨std.cmp .geq (x:Int) 0&&std.cmp .lss (x:Int) (std.ofNat N), .ptr 0 (0+x) 0,[]⟩:=by
 simp only [z08,w7g,z0t,ha,hb]
 rfl
theorem z8j {env:List (Nat×AV)} {h:List AO} {a x:Nat} {E:List (List AV)} {ra:List AV} (ha:z1g env a= .ptr 0 x 0) (hh:z0k h 0= .arow E) (hE:E[x]?=some ra):(z17 std E34.T env h (.load 26 (.tmp a))).ok false [] ra:=by
 simp only [z17,z0t,ha,y4p,z6c,hh,x5j.ok,hE]
theorem z7c {env:List (Nat×AV)} {h:List AO} {a c x:Nat} {E:List (List AV)} {ra:List AV} (ha:z1g env a= .ptr 0 x 0) (hh:z0k h 0= .arow E) (hE:E[x]?=some ra):(z17 std E34.T env h (.store 26 (.tmp a) (.tmp c))).ok false [] ra:=by
 simp only [z17,z0t,ha,z6c,hh,x5j.ok,hE]
theorem x2u {env:List (Nat×AV)} {h:List AO} {new a x:Nat} {E:List (List AV)} {v:AV} (ha:z1g env a= .ptr 0 x 0) (hh:z0k h 0= .arow E) (hv:z46 false [v]=some v):
  z08 std E34.T env h new false [] [v] (.load 26 (.tmp a))=some ⟨true,v,[]⟩:=by
 simp only [z08,y8b,z0t,ha,y4p,z3r,hh,w64,part,hv,Option.bind_some,ok]
theorem y6n {env:List (Nat×AV)} {h:List AO} {new a c x id l:Nat} {E:List (List AV)} {v:AV} (ha:z1g env a= .ptr 0 x 0) (hc:z1g env c= .slice id 1 0 l none) (hh:z0k h 0= .arow E):
  z08 std E34.T env h new false [] [v] (.store 26 (.tmp a) (.tmp c))=some ⟨true, .bot,[(0, .arow (E.set x [AV.slice id 1 0 l none]))]⟩:=by
 simp only [z08,y8b,z0t,ha,hc,z34,z2b,w64,z3s,hh]
 rfl
theorem w0a {env:List (Nat×AV)} {h:List AO} {c:Nat} {y:Int} (hc:z1g env c= .d (.int .i64 y)):
  z08 std E34.T env h h.length false [] [] (.buildSlice 26 1 #[(0, .tmp c)])=some ⟨true, .slice h.length 1 0 1 (some 1),[(h.length, .row [[.int .i64 y]])]⟩:=by
 simp only [z08,y8b]
 show z25 w64 h.length 1 [(0,z1g env c)] []=_
 rw [hc]
 rfl
theorem y76 {env:List (Nat×AV)} {h:List AO} {a c:Nat} (ha:z1g env a= .d (.list true 0 [])):(z17 std E34.T env h (.call ⟨.builtin .append,#[.tmp a, .tmp c],#[26,26]⟩)).ok true [] []:=by
 show (match [z1g env a,z1g env c] with|[s,x]=>x9d (z6n std s x)|_=> .none).ok true [] []
 rw [ha]
 rfl
theorem x3o {env:List (Nat×AV)} {h:List AO} {new a c lit:Nat} {y:Int} (ha:z1g env a= .d (.list true 0 [])) (hc:z1g env c= .slice lit 1 0 1 (some 1)) (hh:z0k h lit= .row [[.int .i64 y]]):
  z08 std E34.T env h new true [] [] (.call ⟨.builtin .append,#[.tmp a, .tmp c],#[26,26]⟩)=some ⟨true, .slice new 1 0 1 none,[(new, .row [[.int .i64 y]])]⟩:=by
 show z1w std E34.T h new true [] .append [26,26] [z1g env a,z1g env c]=_
 rw [ha,hc]
 simp only [z1w,y8b,w64,z2z,z50,hh]
 rfl
theorem x3n {env:List (Nat×AV)} {h:List AO} {new a c lit id:Nat} {y:Int} {row:List Int} (ha:z1g env a= .slice id 1 0 row.length none) (hc:z1g env c= .slice lit 1 0 1 (some 1)) (hh:z0k h lit= .row [[.int .i64 y]]) (hid:z0k h id= .row (z0e row)) (hl:row.length≤1000):
  z08 std E34.T env h new false [] [] (.call ⟨.builtin .append,#[.tmp a, .tmp c],#[26,26]⟩)=some ⟨true, .slice new 1 0 (row.length+1) none,[(id, .dead),(new, .row (z0e (row++[y])))]⟩:=by
 show z1w std E34.T h new false [] .append [26,26] [z1g env a,z1g env c]=_
 rw [ha,hc]
 have h1:std.leN (std.add 0 row.length) (std.len (z0e row))=true:=by
  rw [y6v,x0q,x5x,z0o]; exact decide_eq_true (by omega)
 have h2:std.leN (std.add row.length 1) y7y=true:=by
  rw [y6v,x0q]; exact decide_eq_true (by show row.length+1≤1000000; omega)
 have h3:std.cut (z0e row) 0 row.length=z0e row:=by
  rw [x5y,List.drop_zero,List.take_of_length_le (by rw [z0o]; exact Nat.le_refl _)]
 have h4:std.app (z0e row) (std.cut [[D.int .i64 y]] 0 1)=z0e (row++[y]):=by
  show z0e row++[[D.int .i64 y]]=_
  simp [z0e,eI]
 simp only [z1w,y8b,w64,z2z,z50,hh,hid,z9d,h1,h2,h3]
 rw [←h4]
 rfl
theorem Fam.app0 {h:List AO} {E:List (List AV)} {R:List (List Int)} (hf:Fam h E R) {x:Nat} (hrow:R[x]?=some []) (hE:E[x]?=some [AV.d (.list true 0 [])]) (y:Int) {H1 H2:List AO} (e1:H1=z0w h [(h.length, .row [[.int .i64 y]])]) (e2:H2=z0w H1 [(H1.length, .row [[.int .i64 y]])]):
  z0k H2 0= .arow E∧Fam (z0w H2 [(0, .arow (E.set x [AV.slice H1.length 1 0 1 none]))]) (E.set x [AV.slice H1.length 1 0 1 none]) (R.set x ([]++[y])):=by
 subst e1
 subst e2
 simp only [z0w]
 have hl1:(z03 h h.length (.row [[.int .i64 y]])).length=h.length+1:=z5p _ _
 have hl2:=z5p (z03 h h.length (.row [[.int .i64 y]])) (.row [[.int .i64 y]])
 have hp:=hf.pos
 have hold:∀ id,id<h.length→z0k (z03 (z03 h h.length (.row [[.int .i64 y]])) (z03 h h.length (.row [[.int .i64 y]])).length (.row [[.int .i64 y]])) id=z0k h id:=fun id hid=>by
  rw [z0c _ _ _ _ (by omega),z0c _ _ _ _ (by omega)]
 have hxl:=(List.getElem?_eq_some_iff.1 hE).1
 have hnew:z0k (z03 (z03 h h.length (.row [[.int .i64 y]])) (z03 h h.length (.row [[.int .i64 y]])).length (.row [[.int .i64 y]])) (z03 h h.length (.row [[.int .i64 y]])).length= .row [[.int .i64 y]]:=z0h _ _ _
 generalize (z03 h h.length (.row [[.int .i64 y]])).length=nw at hl1 hl2 hold hnew⊢
 generalize z03 (z03 h h.length (.row [[.int .i64 y]])) nw (.row [[.int .i64 y]])=h2 at hl2 hold hnew⊢
 have hlen3:(z03 h2 0 (.arow (E.set x [AV.slice nw 1 0 1 none]))).length=h2.length:=z2e _ _ _ (by omega)
 refine ⟨by rw [hold 0 hp]; exact hf.arr,by omega,z0h _ _ _,by rw [List.length_set,List.length_set]; exact hf.len,fun j row hj=>?_,fun j j' id l l' h1 h2'=>?_⟩
 ·by_cases e:x=j
  ·subst e
   rw [List.getElem?_set,if_pos rfl] at hj
   split at hj
   ·cases hj
    refine .inr ⟨nw,by rw [List.getElem?_set,if_pos rfl,if_pos hxl]; rfl,?_,by omega,by omega⟩
    rw [z0c _ _ _ _ (by omega)]; exact hnew
   ·cases hj
  ·rw [List.getElem?_set_ne e] at hj
   rw [List.getElem?_set_ne e]
   rcases hf.cell j row hj with ⟨a,b⟩|⟨id,a,b,c,d⟩
   ·exact .inl ⟨a,b⟩
   ·refine .inr ⟨id,a,?_,c,by omega⟩
    rw [z0c _ _ _ _ (by omega),hold id d]; exact b
 ·have hcell:∀ (j id l:Nat),(E.set x [AV.slice nw 1 0 1 none])[j]?=some [AV.slice id 1 0 l none]→(j=x∧id=nw)∨(j≠x∧E[j]?=some [AV.slice id 1 0 l none]):=fun j id l hj=>by
   rw [List.getElem?_set] at hj
   by_cases e:x=j
   ·rw [if_pos e,if_pos hxl] at hj; cases hj; exact .inl ⟨e.symm,rfl⟩
   ·rw [if_neg e] at hj; exact .inr ⟨Ne.symm e,hj⟩
  have hlt:∀ (j id l:Nat),E[j]?=some [AV.slice id 1 0 l none]→id<h.length:=fun j id l hj=>by
   have hjl:=(List.getElem?_eq_some_iff.1 hj).1
   obtain ⟨row,hrow⟩:=z1d (l:=R) (i:=j) (by rw [←hf.len]; exact hjl)
   rcases hf.cell j row hrow with ⟨a,_⟩|⟨id',a,_,_,d⟩
   ·rw [hj] at a; cases a
   ·rw [hj] at a; cases a; exact d
  rcases hcell j id l h1 with ⟨e1,e2⟩|⟨hne,g1⟩<;>rcases hcell j' _ l' h2' with ⟨e3,e4⟩|⟨hne',g2⟩
  ·omega
  ·have:=hlt _ _ _ g2; omega
  ·have:=hlt _ _ _ g1; omega
  ·exact hf.inj _ _ _ _ _ g1 g2
theorem Fam.app1 {h:List AO} {E:List (List AV)} {R:List (List Int)} (hf:Fam h E R) {x id:Nat} {row:List Int} (hrow:R[x]?=some row) (hE:E[x]?=some [AV.slice id 1 0 row.length none]) (hid:z0k h id= .row (z0e row)) (hid0:0<id) (hidl:id<h.length) (y:Int) {H1 H2:List AO} (e1:H1=z0w h [(h.length, .row [[.int .i64 y]])]) (e2:H2=z0w H1 [(id, .dead),(H1.length, .row (z0e (row++[y])))]):
  z0k H2 0= .arow E∧Fam (z0w H2 [(0, .arow (E.set x [AV.slice H1.length 1 0 (row.length+1) none]))]) (E.set x [AV.slice H1.length 1 0 (row.length+1) none]) (R.set x (row++[y])):=by
 subst e1
 subst e2
 simp only [z0w]
 have hl1:(z03 h h.length (.row [[.int .i64 y]])).length=h.length+1:=z5p _ _
 have hp:=hf.pos
 have hk1:(z03 (z03 h h.length (.row [[.int .i64 y]])) id .dead).length=h.length+1:=by rw [z2e _ _ _ (by omega)]; exact hl1
 have hl2:=z1o (z03 (z03 h h.length (.row [[.int .i64 y]])) id .dead) (z03 h h.length (.row [[.int .i64 y]])).length (.row (z0e (row++[y])))
 have hold:∀ j,j<h.length→j≠id→z0k (z03 (z03 (z03 h h.length (.row [[.int .i64 y]])) id .dead) (z03 h h.length (.row [[.int .i64 y]])).length (.row (z0e (row++[y])))) j=z0k h j:=fun j hj hne=>by
  rw [z0c _ _ _ _ (by omega),z0c _ _ _ _ (by omega),z0c _ _ _ _ (by omega)]
 have hxl:=(List.getElem?_eq_some_iff.1 hE).1
 have hnew:z0k (z03 (z03 (z03 h h.length (.row [[.int .i64 y]])) id .dead) (z03 h h.length (.row [[.int .i64 y]])).length (.row (z0e (row++[y])))) (z03 h h.length (.row [[.int .i64 y]])).length= .row (z0e (row++[y])):=z0h _ _ _
 generalize (z03 h h.length (.row [[.int .i64 y]])).length=nw at hl1 hl2 hold hnew⊢
 generalize z03 (z03 (z03 h h.length (.row [[.int .i64 y]])) id .dead) nw (.row (z0e (row++[y])))=h2 at hl2 hold hnew⊢
 have hlen3:(z03 h2 0 (.arow (E.set x [AV.slice nw 1 0 (row.length+1) none]))).length=h2.length:=z2e _ _ _ (by omega)
 refine ⟨by rw [hold 0 hp (by omega)]; exact hf.arr,by omega,z0h _ _ _,by rw [List.length_set,List.length_set]; exact hf.len,fun j row' hj=>?_,fun j j' id' l l' h1 h2'=>?_⟩
 ·by_cases e:x=j
  ·subst e
   rw [List.getElem?_set,if_pos rfl] at hj
   split at hj
   ·cases hj
    refine .inr ⟨nw,by rw [List.getElem?_set,if_pos rfl,if_pos hxl]; simp,?_,by omega,by omega⟩
    rw [z0c _ _ _ _ (by omega)]; exact hnew
   ·cases hj
  ·rw [List.getElem?_set_ne e] at hj
   rw [List.getElem?_set_ne e]
   rcases hf.cell j row' hj with ⟨a,b⟩|⟨id',a,b,c,d⟩
   ·exact .inl ⟨a,b⟩
   ·have hne:id'≠id:=by
     rintro rfl
     exact e (hf.inj _ _ _ _ _ hE a)
    refine .inr ⟨id',a,?_,c,by omega⟩
    rw [z0c _ _ _ _ (by omega),hold id' d hne]; exact b
 ·have hcell:∀ (j id l:Nat),(E.set x [AV.slice nw 1 0 (row.length+1) none])[j]?=some [AV.slice id 1 0 l none]→(j=x∧id=nw)∨(j≠x∧E[j]?=some [AV.slice id 1 0 l none]):=fun j id l hj=>by
   rw [List.getElem?_set] at hj
   by_cases e:x=j
   ·rw [if_pos e,if_pos hxl] at hj; cases hj; exact .inl ⟨e.symm,rfl⟩
   ·rw [if_neg e] at hj; exact .inr ⟨Ne.symm e,hj⟩
  have hlt:∀ (j id l:Nat),E[j]?=some [AV.slice id 1 0 l none]→id<h.length:=fun j id l hj=>by
   have hjl:=(List.getElem?_eq_some_iff.1 hj).1
   obtain ⟨row,hrow⟩:=z1d (l:=R) (i:=j) (by rw [←hf.len]; exact hjl)
   rcases hf.cell j row hrow with ⟨a,_⟩|⟨id',a,_,_,d⟩
   ·rw [hj] at a; cases a
   ·rw [hj] at a; cases a; exact d
  rcases hcell j id' l h1 with ⟨e1,e2⟩|⟨hne,g1⟩<;>rcases hcell j' _ l' h2' with ⟨e3,e4⟩|⟨hne',g2⟩
  ·omega
  ·have:=hlt _ _ _ g2; omega
  ·have:=hlt _ _ _ g1; omega
  ·exact hf.inj _ _ _ _ _ g1 g2
theorem z3g {p:List Bool} {i:Nat} {dst:Option Tmp} {op:Op} (h:((y1l p)[i]?.map fun o=>(o.dst,o.op,o.guard))=some (dst,op,none)):∃ o,(y1l p)[i]?=some o∧o.dst=dst∧o.op=op∧o.guard=none:=by
 cases ho:(y1l p)[i]? with
 |none=>rw [ho] at h; cases h
 |some o=>
  rw [ho] at h
  simp only [Option.map_some,Option.some.injEq,Prod.mk.injEq] at h
  exact ⟨o,rfl,h.1,h.2.1,h.2.2⟩
theorem z8s {ops:Array Oper} {i:Nat} {rest:List Nat} {s:AS} {Q:AS→Prop} {o:Oper} {dst:Option Tmp} {op:Op} (ho:ops[i]?=some o∧o.dst=dst∧o.op=op∧o.guard=none)
  {q:Bool} {r:List D} {ra:List AV} {res:Res} (hw:(z17 std E34.T s.env s.heap op).ok q r ra) (hs:z08 std E34.T s.env s.heap s.heap.length q r ra op=some res) (hc:res.c=true) (hd:z47 s.nt dst=true)
  (h:z97 P34 0 ops rest (z5f s dst res.v res.u) Q):z97 P34 0 ops (i::rest) s Q:=by
 obtain ⟨h1,rfl,rfl,hg⟩:=ho
 exact y86 v65 h1 (by rw [hg]; rfl) (Nat.zero_le _) hw hs hc hd h
set_option maxHeartbeats 4000000 in
theorem v1z {h:List AO} {E:List (List AV)} {R:List (List Int)} {N:Nat} {b at_ i k:Int} {x:Nat} {row:List Int} (hf:Fam h E R) (hx:i=(x:Int)) (hN:R.length=N) (hrow:R[x]?=some row) (hl:row.length≤1000)
  {Q:AS→Prop} (hQ:∀ h' E',Fam h' E' (R.set x (row++[k]))→Q ⟨mkE b at_ i k N,h',54⟩):z97 P34 0 (y1l p11) (List.range (y1l p11).size) ⟨mkE b at_ i k N,h,54⟩ (fun s=>∃ s',z49 0 s s'∧Q s'):=by
 have hr:List.range (y1l p11).size=[0,1,2,3,4,5,6,7,8,9,10]:=by kernel_rfl
 obtain ⟨w0,o0⟩:=z3g (p:=p11) (i:=0) (dst:=some 31) (op:= .move (.tmp 6)) (by kernel_rfl)
 obtain ⟨w1,o1⟩:=z3g (p:=p11) (i:=1) (dst:=some 32) (op:= .move (.tmp 8)) (by kernel_rfl)
 obtain ⟨w2,o2⟩:=z3g (p:=p11) (i:=2) (dst:=some 33) (op:= .move (.tmp 6)) (by kernel_rfl)
 obtain ⟨w3,o3⟩:=z3g (p:=p11) (i:=3) (dst:=some 34) (op:= .move (.tmp 8)) (by kernel_rfl)
 obtain ⟨w4,o4⟩:=z3g (p:=p11) (i:=4) (dst:=some 35) (op:= .indexAddr 30 (.tmp 33) (.tmp 34)) (by kernel_rfl)
 obtain ⟨w5,o5⟩:=z3g (p:=p11) (i:=5) (dst:=some 36) (op:= .load 26 (.tmp 35)) (by kernel_rfl)
 obtain ⟨w6,o6⟩:=z3g (p:=p11) (i:=6) (dst:=some 37) (op:= .move (.tmp 9)) (by kernel_rfl)
 obtain ⟨w7,o7⟩:=z3g (p:=p11) (i:=7) (dst:=some 38) (op:= .buildSlice 26 1 #[(0, .tmp 37)]) (by kernel_rfl)
 obtain ⟨w8,o8⟩:=z3g (p:=p11) (i:=8) (dst:=some 39) (op:= .call ⟨.builtin .append,#[.tmp 36, .tmp 38],#[26,26]⟩) (by kernel_rfl)
 obtain ⟨w9,o9⟩:=z3g (p:=p11) (i:=9) (dst:=some 40) (op:= .indexAddr 30 (.tmp 31) (.tmp 32)) (by kernel_rfl)
 obtain ⟨w10,o10⟩:=z3g (p:=p11) (i:=10) (dst:=none) (op:= .store 26 (.tmp 40) (.tmp 39)) (by kernel_rfl)
 have hxlt:x<N:=by rw [←hN]; exact (List.getElem?_eq_some_iff.1 hrow).1
 have hc0:(std.cmp .geq (x:Int) 0&&std.cmp .lss (x:Int) (std.ofNat N))=true:=by
  rw [y6w,y1d,Bool.and_eq_true]
  exact ⟨decide_eq_true (by omega),decide_eq_true (by show (x:Int)<(N:Int); omega)⟩
 subst hx
 rw [hr]
 refine z8s o0 (q:=false) (r:=[]) (ra:=[]) (res:=⟨true, .slice 0 1 0 N (some N),[]⟩) trivial rfl rfl rfl ?_
 refine z8s o1 (q:=false) (r:=[]) (ra:=[]) (res:=⟨true, .d (.int .i64 x),[]⟩) trivial rfl rfl rfl ?_
 refine z8s o2 (q:=false) (r:=[]) (ra:=[]) (res:=⟨true, .slice 0 1 0 N (some N),[]⟩) trivial rfl rfl rfl ?_
 refine z8s o3 (q:=false) (r:=[]) (ra:=[]) (res:=⟨true, .d (.int .i64 x),[]⟩) trivial rfl rfl rfl ?_
 refine z8s o4 (q:=false) (r:=[]) (ra:=[]) (res:=⟨std.cmp .geq (x:Int) 0&&std.cmp .lss (x:Int) (std.ofNat N), .ptr 0 (0+x) 0,[]⟩) trivial (x4t rfl rfl) hc0 rfl ?_
 rw [Nat.zero_add]
 have hpe:(R.set x (row++[k])).length=N:=by rw [List.length_set,hN]
 rcases hf.cell x row hrow with ⟨hE,rfl⟩|⟨id,hE,hid,hid0,hidl⟩
 ·refine z8s o5 (q:=false) (r:=[]) (ra:=[.d (.list true 0 [])]) (res:=⟨true, .d (.list true 0 []),[]⟩) (z8j rfl hf.arr hE) (x2u rfl hf.arr rfl) rfl rfl ?_
  refine z8s o6 (q:=false) (r:=[]) (ra:=[]) (res:=⟨true, .d (.int .i64 k),[]⟩) trivial rfl rfl rfl ?_
  refine z8s o7 (q:=false) (r:=[]) (ra:=[]) (res:=⟨true, .slice h.length 1 0 1 (some 1),[(h.length, .row [[.int .i64 k]])]⟩) trivial (w0a rfl) rfl rfl ?_
  show z97 P34 0 _ [8,9,10] ⟨_,z0w h [(h.length, .row [[.int .i64 k]])],54⟩ _
  obtain ⟨H1,e1⟩:∃ H,H=z0w h [(h.length, .row [[.int .i64 k]])]:=⟨_,rfl⟩
  have hlit:z0k H1 h.length= .row [[.int .i64 k]]:=by rw [e1]; exact z0h _ _ _
  rw [←e1]
  refine z8s o8 (q:=true) (r:=[]) (ra:=[]) (res:=⟨true, .slice H1.length 1 0 1 none,[(H1.length, .row [[.int .i64 k]])]⟩) (y76 rfl) (x3o rfl rfl hlit) rfl rfl ?_
  show z97 P34 0 _ [9,10] ⟨_,z0w H1 [(H1.length, .row [[.int .i64 k]])],54⟩ _
  obtain ⟨H2,e2⟩:∃ H,H=z0w H1 [(H1.length, .row [[.int .i64 k]])]:=⟨_,rfl⟩
  obtain ⟨hh1,hh2⟩:=hf.app0 hrow hE k e1 e2
  rw [←e2]
  refine z8s o9 (q:=false) (r:=[]) (ra:=[]) (res:=⟨std.cmp .geq (x:Int) 0&&std.cmp .lss (x:Int) (std.ofNat N), .ptr 0 (0+x) 0,[]⟩) trivial (x4t rfl rfl) hc0 rfl ?_
  rw [Nat.zero_add]
  refine z8s o10 (q:=false) (r:=[]) (ra:=[.d (.list true 0 [])]) (res:=⟨true, .bot,[(0, .arow (E.set x [.slice H1.length 1 0 1 none]))]⟩) (z7c rfl hh1 hE) (y6n rfl rfl hh1) rfl rfl ?_
  refine y0k ?_
  refine ⟨⟨mkE b at_ _ _ N,z0w H2 [(0, .arow (E.set x [.slice H1.length 1 0 1 none]))],54⟩,?_,hQ _ _ hh2⟩
  exact z49.env (n:=0) (s:=⟨_,z0w H2 [(0, .arow (E.set x [.slice H1.length 1 0 1 none]))],54⟩) (z7p ⟨_,rfl⟩)
 ·refine z8s o5 (q:=false) (r:=[]) (ra:=[.slice id 1 0 row.length none]) (res:=⟨true, .slice id 1 0 row.length none,[]⟩) (z8j rfl hf.arr hE) (x2u rfl hf.arr rfl) rfl rfl ?_
  refine z8s o6 (q:=false) (r:=[]) (ra:=[]) (res:=⟨true, .d (.int .i64 k),[]⟩) trivial rfl rfl rfl ?_
  refine z8s o7 (q:=false) (r:=[]) (ra:=[]) (res:=⟨true, .slice h.length 1 0 1 (some 1),[(h.length, .row [[.int .i64 k]])]⟩) trivial (w0a rfl) rfl rfl ?_
  show z97 P34 0 _ [8,9,10] ⟨_,z0w h [(h.length, .row [[.int .i64 k]])],54⟩ _
  obtain ⟨H1,e1⟩:∃ H,H=z0w h [(h.length, .row [[.int .i64 k]])]:=⟨_,rfl⟩
  have hlit:z0k H1 h.length= .row [[.int .i64 k]]:=by rw [e1]; exact z0h _ _ _
  have hid':z0k H1 id= .row (z0e row):=by rw [e1]; show z0k (z03 _ _ _) _=_; rw [z0c _ _ _ _ (by omega)]; exact hid
  rw [←e1]
  refine z8s o8 (q:=false) (r:=[]) (ra:=[]) (res:=⟨true, .slice H1.length 1 0 (row.length+1) none,[(id, .dead),(H1.length, .row (z0e (row++[k])))]⟩) trivial (x3n rfl rfl hlit hid' hl) rfl rfl ?_
  show z97 P34 0 _ [9,10] ⟨_,z0w H1 [(id, .dead),(H1.length, .row (z0e (row++[k])))],54⟩ _
  obtain ⟨H2,e2⟩:∃ H,H=z0w H1 [(id, .dead),(H1.length, .row (z0e (row++[k])))]:=⟨_,rfl⟩
  obtain ⟨hh1,hh2⟩:=hf.app1 hrow hE hid hid0 hidl k e1 e2
  rw [←e2]
  refine z8s o9 (q:=false) (r:=[]) (ra:=[]) (res:=⟨std.cmp .geq (x:Int) 0&&std.cmp .lss (x:Int) (std.ofNat N), .ptr 0 (0+x) 0,[]⟩) trivial (x4t rfl rfl) hc0 rfl ?_
  rw [Nat.zero_add]
  refine z8s o10 (q:=false) (r:=[]) (ra:=[.slice id 1 0 row.length none]) (res:=⟨true, .bot,[(0, .arow (E.set x [.slice H1.length 1 0 (row.length+1) none]))]⟩) (z7c rfl hh1 hE) (y6n rfl rfl hh1) rfl rfl ?_
  refine y0k ?_
  refine ⟨⟨mkE b at_ _ _ N,z0w H2 [(0, .arow (E.set x [.slice H1.length 1 0 (row.length+1) none]))],54⟩,?_,hQ _ _ hh2⟩
  exact z49.env (n:=0) (s:=⟨_,z0w H2 [(0, .arow (E.set x [.slice H1.length 1 0 (row.length+1) none]))],54⟩) (z7p ⟨_,rfl⟩)
set_option maxHeartbeats 4000000 in
theorem v1y {h:List AO} {E:List (List AV)} {R:List (List Int)} {N:Nat} {b at_ i k:Int} {x:Nat} {row:List Int} (hf:Fam h E R) (hx:k=(x:Int)) (hN:R.length=N) (hrow:R[x]?=some row) (hl:row.length≤1000)
  {Q:AS→Prop} (hQ:∀ h' E',Fam h' E' (R.set x (row++[i]))→Q ⟨mkE b at_ i k N,h',54⟩):z97 P34 0 (y1l p12) (List.range (y1l p12).size) ⟨mkE b at_ i k N,h,54⟩ (fun s=>∃ s',z49 0 s s'∧Q s'):=by
 have hr:List.range (y1l p12).size=[0,1,2,3,4,5,6,7,8,9,10]:=by kernel_rfl
 obtain ⟨w0,o0⟩:=z3g (p:=p12) (i:=0) (dst:=some 41) (op:= .move (.tmp 6)) (by kernel_rfl)
 obtain ⟨w1,o1⟩:=z3g (p:=p12) (i:=1) (dst:=some 42) (op:= .move (.tmp 9)) (by kernel_rfl)
 obtain ⟨w2,o2⟩:=z3g (p:=p12) (i:=2) (dst:=some 43) (op:= .move (.tmp 6)) (by kernel_rfl)
 obtain ⟨w3,o3⟩:=z3g (p:=p12) (i:=3) (dst:=some 44) (op:= .move (.tmp 9)) (by kernel_rfl)
 obtain ⟨w4,o4⟩:=z3g (p:=p12) (i:=4) (dst:=some 45) (op:= .indexAddr 30 (.tmp 43) (.tmp 44)) (by kernel_rfl)
 obtain ⟨w5,o5⟩:=z3g (p:=p12) (i:=5) (dst:=some 46) (op:= .load 26 (.tmp 45)) (by kernel_rfl)
 obtain ⟨w6,o6⟩:=z3g (p:=p12) (i:=6) (dst:=some 47) (op:= .move (.tmp 8)) (by kernel_rfl)
 obtain ⟨w7,o7⟩:=z3g (p:=p12) (i:=7) (dst:=some 48) (op:= .buildSlice 26 1 #[(0, .tmp 47)]) (by kernel_rfl)
 obtain ⟨w8,o8⟩:=z3g (p:=p12) (i:=8) (dst:=some 49) (op:= .call ⟨.builtin .append,#[.tmp 46, .tmp 48],#[26,26]⟩) (by kernel_rfl)
 obtain ⟨w9,o9⟩:=z3g (p:=p12) (i:=9) (dst:=some 50) (op:= .indexAddr 30 (.tmp 41) (.tmp 42)) (by kernel_rfl)
 obtain ⟨w10,o10⟩:=z3g (p:=p12) (i:=10) (dst:=none) (op:= .store 26 (.tmp 50) (.tmp 49)) (by kernel_rfl)
 have hxlt:x<N:=by rw [←hN]; exact (List.getElem?_eq_some_iff.1 hrow).1
 have hc0:(std.cmp .geq (x:Int) 0&&std.cmp .lss (x:Int) (std.ofNat N))=true:=by
  rw [y6w,y1d,Bool.and_eq_true]
  exact ⟨decide_eq_true (by omega),decide_eq_true (by show (x:Int)<(N:Int); omega)⟩
 subst hx
 rw [hr]
 refine z8s o0 (q:=false) (r:=[]) (ra:=[]) (res:=⟨true, .slice 0 1 0 N (some N),[]⟩) trivial rfl rfl rfl ?_
 refine z8s o1 (q:=false) (r:=[]) (ra:=[]) (res:=⟨true, .d (.int .i64 x),[]⟩) trivial rfl rfl rfl ?_
 refine z8s o2 (q:=false) (r:=[]) (ra:=[]) (res:=⟨true, .slice 0 1 0 N (some N),[]⟩) trivial rfl rfl rfl ?_
 refine z8s o3 (q:=false) (r:=[]) (ra:=[]) (res:=⟨true, .d (.int .i64 x),[]⟩) trivial rfl rfl rfl ?_
 refine z8s o4 (q:=false) (r:=[]) (ra:=[]) (res:=⟨std.cmp .geq (x:Int) 0&&std.cmp .lss (x:Int) (std.ofNat N), .ptr 0 (0+x) 0,[]⟩) trivial (x4t rfl rfl) hc0 rfl ?_
 rw [Nat.zero_add]
 have hpe:(R.set x (row++[i])).length=N:=by rw [List.length_set,hN]
 rcases hf.cell x row hrow with ⟨hE,rfl⟩|⟨id,hE,hid,hid0,hidl⟩
 ·refine z8s o5 (q:=false) (r:=[]) (ra:=[.d (.list true 0 [])]) (res:=⟨true, .d (.list true 0 []),[]⟩) (z8j rfl hf.arr hE) (x2u rfl hf.arr rfl) rfl rfl ?_
  refine z8s o6 (q:=false) (r:=[]) (ra:=[]) (res:=⟨true, .d (.int .i64 i),[]⟩) trivial rfl rfl rfl ?_
  refine z8s o7 (q:=false) (r:=[]) (ra:=[]) (res:=⟨true, .slice h.length 1 0 1 (some 1),[(h.length, .row [[.int .i64 i]])]⟩) trivial (w0a rfl) rfl rfl ?_
  show z97 P34 0 _ [8,9,10] ⟨_,z0w h [(h.length, .row [[.int .i64 i]])],54⟩ _
  obtain ⟨H1,e1⟩:∃ H,H=z0w h [(h.length, .row [[.int .i64 i]])]:=⟨_,rfl⟩
  have hlit:z0k H1 h.length= .row [[.int .i64 i]]:=by rw [e1]; exact z0h _ _ _
  rw [←e1]
  refine z8s o8 (q:=true) (r:=[]) (ra:=[]) (res:=⟨true, .slice H1.length 1 0 1 none,[(H1.length, .row [[.int .i64 i]])]⟩) (y76 rfl) (x3o rfl rfl hlit) rfl rfl ?_
  show z97 P34 0 _ [9,10] ⟨_,z0w H1 [(H1.length, .row [[.int .i64 i]])],54⟩ _
  obtain ⟨H2,e2⟩:∃ H,H=z0w H1 [(H1.length, .row [[.int .i64 i]])]:=⟨_,rfl⟩
  obtain ⟨hh1,hh2⟩:=hf.app0 hrow hE i e1 e2
  rw [←e2]
  refine z8s o9 (q:=false) (r:=[]) (ra:=[]) (res:=⟨std.cmp .geq (x:Int) 0&&std.cmp .lss (x:Int) (std.ofNat N), .ptr 0 (0+x) 0,[]⟩) trivial (x4t rfl rfl) hc0 rfl ?_
  rw [Nat.zero_add]
  refine z8s o10 (q:=false) (r:=[]) (ra:=[.d (.list true 0 [])]) (res:=⟨true, .bot,[(0, .arow (E.set x [.slice H1.length 1 0 1 none]))]⟩) (z7c rfl hh1 hE) (y6n rfl rfl hh1) rfl rfl ?_
  refine y0k ?_
  refine ⟨⟨mkE b at_ _ _ N,z0w H2 [(0, .arow (E.set x [.slice H1.length 1 0 1 none]))],54⟩,?_,hQ _ _ hh2⟩
  exact z49.env (n:=0) (s:=⟨_,z0w H2 [(0, .arow (E.set x [.slice H1.length 1 0 1 none]))],54⟩) (z7p ⟨_,rfl⟩)
 ·refine z8s o5 (q:=false) (r:=[]) (ra:=[.slice id 1 0 row.length none]) (res:=⟨true, .slice id 1 0 row.length none,[]⟩) (z8j rfl hf.arr hE) (x2u rfl hf.arr rfl) rfl rfl ?_
  refine z8s o6 (q:=false) (r:=[]) (ra:=[]) (res:=⟨true, .d (.int .i64 i),[]⟩) trivial rfl rfl rfl ?_
  refine z8s o7 (q:=false) (r:=[]) (ra:=[]) (res:=⟨true, .slice h.length 1 0 1 (some 1),[(h.length, .row [[.int .i64 i]])]⟩) trivial (w0a rfl) rfl rfl ?_
  show z97 P34 0 _ [8,9,10] ⟨_,z0w h [(h.length, .row [[.int .i64 i]])],54⟩ _
  obtain ⟨H1,e1⟩:∃ H,H=z0w h [(h.length, .row [[.int .i64 i]])]:=⟨_,rfl⟩
  have hlit:z0k H1 h.length= .row [[.int .i64 i]]:=by rw [e1]; exact z0h _ _ _
  have hid':z0k H1 id= .row (z0e row):=by rw [e1]; show z0k (z03 _ _ _) _=_; rw [z0c _ _ _ _ (by omega)]; exact hid
  rw [←e1]
  refine z8s o8 (q:=false) (r:=[]) (ra:=[]) (res:=⟨true, .slice H1.length 1 0 (row.length+1) none,[(id, .dead),(H1.length, .row (z0e (row++[i])))]⟩) trivial (x3n rfl rfl hlit hid' hl) rfl rfl ?_
  show z97 P34 0 _ [9,10] ⟨_,z0w H1 [(id, .dead),(H1.length, .row (z0e (row++[i])))],54⟩ _
  obtain ⟨H2,e2⟩:∃ H,H=z0w H1 [(id, .dead),(H1.length, .row (z0e (row++[i])))]:=⟨_,rfl⟩
  obtain ⟨hh1,hh2⟩:=hf.app1 hrow hE hid hid0 hidl i e1 e2
  rw [←e2]
  refine z8s o9 (q:=false) (r:=[]) (ra:=[]) (res:=⟨std.cmp .geq (x:Int) 0&&std.cmp .lss (x:Int) (std.ofNat N), .ptr 0 (0+x) 0,[]⟩) trivial (x4t rfl rfl) hc0 rfl ?_
  rw [Nat.zero_add]
  refine z8s o10 (q:=false) (r:=[]) (ra:=[.slice id 1 0 row.length none]) (res:=⟨true, .bot,[(0, .arow (E.set x [.slice H1.length 1 0 (row.length+1) none]))]⟩) (z7c rfl hh1 hE) (y6n rfl rfl hh1) rfl rfl ?_
  refine y0k ?_
  refine ⟨⟨mkE b at_ _ _ N,z0w H2 [(0, .arow (E.set x [.slice H1.length 1 0 (row.length+1) none]))],54⟩,?_,hQ _ _ hh2⟩
  exact z49.env (n:=0) (s:=⟨_,z0w H2 [(0, .arow (E.set x [.slice H1.length 1 0 (row.length+1) none]))],54⟩) (z7p ⟨_,rfl⟩)
theorem z9s {c:Code} {pos:List Bool} {ss:SS} {e:AX} {ss':SS} (hcd:z1u P34 34 pos=some c) (h:sym opt std E34 (w7t opt) 20 (AX×SS) 0 34 pos c ss (fun e s=>some (e,s))=some (e,ss')):
  z4u P34 0 c ss.s (fun e' s2=>e'=e∧s2=ss'.s):=by
 obtain ⟨e0,s0,_,hc,hk⟩:=x5t v66 x01 20 (AX×SS) 0 34 pos c ss _ _ hcd (Nat.zero_le _) h
 cases hk; exact hc
theorem z8z {env' env:List (Nat×AV)} (h:∀ x∈env',z1g env x.1=x.2):w2m env' env:=by
 intro t
 induction env' with
 |nil=>exact .inl rfl
 |cons x r ih=>
  obtain ⟨k,v⟩:=x
  simp only [z1g]
  cases hb:Nat.beq k t with
  |true=>
   have:=Nat.eq_of_beq_eq_true hb
   subst this
   exact .inr (h (k,v) (List.mem_cons_self ..)).symm
  |false=>exact ih fun x hx=>h x (List.mem_cons_of_mem _ hx)
def mkO (b at_ i:Int) (N:Nat):List (Nat×AV):=[(1, .d (.int .u64 b)),(5, .d (.int .i64 N)),(6, .slice 0 1 0 N (some N)),(7, .d (.int .i64 at_)),(8, .d (.int .i64 i))]
theorem s34:z6m []= .seq (z6m [false]) (.seq (z6m [false,true]) (.seq (z6m [false,true,true]) (.seq (z6m [false,true,true,true]) (.seq (.seq (z6m (false::pA)) (.block 0 (.loop (z6m pLB)))) (z6m [true,true,true,true,true]))))):=by kernel_rfl
theorem v1x:z6m pLB= .seq (z6m (false::pLB)) (.seq (.block 1 (.seq (z6m ([false,false,false,true]++pLB)) (.block 2 (.loop (z6m pLK))))) (z6m ([true,true]++pLB))):=by kernel_rfl
theorem v1w:z6m pLK= .seq (z6m (false::pLK)) (.seq (.block 3 (.seq (.seq (z6m ([false,false]++pX)) (.cond (.tmp 30) (.region 11 (y1l p11) false) (.region 12 (y1l p12) false))) (z6m (true::pX)))) (z6m ([true,true]++pLK))):=by kernel_rfl
theorem v5o:z1u P34 34 [false]=some (z6m [false]):=by kernel_rfl
theorem v5n:z1u P34 34 [false,true]=some (z6m [false,true]):=by kernel_rfl
theorem v5m:z1u P34 34 [false,true,true]=some (z6m [false,true,true]):=by kernel_rfl
theorem v5l:z1u P34 34 [false,true,true,true]=some (z6m [false,true,true,true]):=by kernel_rfl
theorem v5k:z1u P34 34 (false::pA)=some (z6m (false::pA)):=by kernel_rfl
theorem v5i:z1u P34 34 [true,true,true,true,true]=some (z6m [true,true,true,true,true]):=by kernel_rfl
theorem w3k:z1u P34 34 (false::pLB)=some (z6m (false::pLB)):=by kernel_rfl
theorem w93:z1u P34 34 ([false,false,false,true]++pLB)=some (z6m ([false,false,false,true]++pLB)):=by kernel_rfl
theorem w92:z1u P34 34 ([true,true]++pLB)=some (z6m ([true,true]++pLB)):=by kernel_rfl
theorem w3j:z1u P34 34 (false::pLK)=some (z6m (false::pLK)):=by kernel_rfl
theorem w91:z1u P34 34 ([false,false]++pX)=some (z6m ([false,false]++pX)):=by kernel_rfl
theorem w90:z1u P34 34 (true::pX)=some (z6m (true::pX)):=by kernel_rfl
theorem w9z:z1u P34 34 ([true,true]++pLK)=some (z6m ([true,true]++pLK)):=by kernel_rfl
def x49 (b at_:Int):Bool:=std.cmp .eql (std.ar .and .u64 (std.ar .shr .u64 b at_) 1) 1
noncomputable abbrev y1e (pos:List Bool) (env:List (Nat×AV)) (h:List AO):Option (AX×SS):=sym opt std E34 (w7t opt) 20 (AX×SS) 0 34 pos (z6m pos) ⟨⟨env,h,54⟩,[]⟩ fun e s=>some (e,s)
theorem eK1 (b at_ i k:Int) (N:Nat) (h:List AO):y1e (false::pLK) (mkE b at_ i k N) h=opt.ask _ (std.cmp .lss k i)
  (some (.normal,⟨⟨mkE b at_ i k N++[(21, .d (.int .i64 k)),(22, .d (.int .i64 i)),(23, .d (.bool true))],h,54⟩,[]⟩))
  (some (.exit 2,⟨⟨mkE b at_ i k N++[(21, .d (.int .i64 k)),(22, .d (.int .i64 i)),(23, .d (.bool false))],h,54⟩,[]⟩)):=by kernel_rfl
theorem eK2 (b at_ i k:Int) (N:Nat) (h:List AO):y1e ([false,false]++pX) (mkE b at_ i k N) h=opt.need _ (std.cmp .geq at_ 0)
  (some (.normal,⟨⟨mkE b at_ i k N++[(26, .d (.int .u64 b)),(27, .d (.int .i64 at_)),(28, .d (.int .u64 (std.ar .shr .u64 b at_))),(29, .d (.int .u64 (std.ar .and .u64 (std.ar .shr .u64 b at_) 1))),(30, .d (.bool (x49 b at_)))],h,54⟩,[]⟩)):=by kernel_rfl
theorem eK3 (b at_ i k:Int) (N:Nat) (h:List AO):y1e (true::pX) (mkE b at_ i k N) h=
  some (.normal,⟨⟨mkE b (std.ar .add .i64 at_ 1) i k N++[(51, .d (.int .i64 at_)),(52, .d (.int .i64 (std.ar .add .i64 at_ 1)))],h,54⟩,[]⟩):=by kernel_rfl
theorem eK4 (b at_ i k:Int) (N:Nat) (h:List AO):y1e ([true,true]++pLK) (mkE b at_ i k N) h=
  some (.normal,⟨⟨mkE b at_ i (std.ar .add .i64 k 1) N++[(24, .d (.int .i64 k)),(25, .d (.int .i64 (std.ar .add .i64 k 1)))],h,54⟩,[]⟩):=by kernel_rfl
theorem eB1 (b at_ i:Int) (N:Nat) (h:List AO):y1e (false::pLB) (mkO b at_ i N) h=opt.ask _ (std.cmp .lss i N)
  (some (.normal,⟨⟨mkO b at_ i N++[(16, .d (.int .i64 i)),(17, .d (.int .i64 N)),(18, .d (.bool true))],h,54⟩,[]⟩))
  (some (.exit 0,⟨⟨mkO b at_ i N++[(16, .d (.int .i64 i)),(17, .d (.int .i64 N)),(18, .d (.bool false))],h,54⟩,[]⟩)):=by kernel_rfl
theorem eB2 (b at_ i:Int) (N:Nat) (h:List AO):y1e ([false,false,false,true]++pLB) (mkO b at_ i N) h=some (.normal,⟨⟨mkE b at_ i 0 N,h,54⟩,[]⟩):=by kernel_rfl
theorem eB3 (b at_ i:Int) (N:Nat) (h:List AO):y1e ([true,true]++pLB) (mkO b at_ i N) h=
  some (.normal,⟨⟨mkO b at_ (std.ar .add .i64 i 1) N++[(19, .d (.int .i64 i)),(20, .d (.int .i64 (std.ar .add .i64 i 1)))],h,54⟩,[]⟩):=by kernel_rfl
theorem v5c (s b:Int):y1e [false] [(0, .d (.int .u8 s)),(1, .d (.int .u64 b))] []=some (.normal,⟨⟨[(0, .d (.int .u8 s)),(1, .d (.int .u64 b)),(4, .d (.list true 0 []))],[],54⟩,[]⟩):=by kernel_rfl
def nB (s:Int):Int:=std.ar .add .i64 1 (std.ar .rem .i64 (std.cvt .i64 s) 10)
theorem v5b (s b:Int):y1e [false,true] [(0, .d (.int .u8 s)),(1, .d (.int .u64 b)),(4, .d (.list true 0 []))] []=
  some (.normal,⟨⟨[(0, .d (.int .u8 s)),(1, .d (.int .u64 b)),(4, .d (.list true 0 [])),(10, .d (.int .u8 s)),(11, .d (.int .i64 (std.cvt .i64 s))),(12, .d (.int .i64 (std.ar .rem .i64 (std.cvt .i64 s) 10))),(13, .d (.int .i64 (nB s))),(5, .d (.int .i64 (nB s)))],[],54⟩,[]⟩):=by kernel_rfl
theorem v5a (b n:Int):y1e [false,true,true] [(1, .d (.int .u64 b)),(5, .d (.int .i64 n))] []=opt.need _ (std.and (std.cmp .geq n 0) (std.and (std.cmp .leq n n) (std.cmp .leq n 1000000)))
  (some (.normal,⟨⟨[(1, .d (.int .u64 b)),(5, .d (.int .i64 n)),(14, .d (.int .i64 n)),(15, .slice 0 1 0 n.toNat (some n.toNat)),(6, .slice 0 1 0 n.toNat (some n.toNat))],[.row (List.replicate n.toNat [.list true 0 []])],54⟩,[[.list 1]]⟩)):=by kernel_rfl
theorem v49 (b n:Int) (N:Nat) (h:List AO):y1e [false,true,true,true] [(1, .d (.int .u64 b)),(5, .d (.int .i64 n)),(6, .slice 0 1 0 N (some N))] h=
  some (.normal,⟨⟨[(1, .d (.int .u64 b)),(5, .d (.int .i64 n)),(6, .slice 0 1 0 N (some N)),(7, .d (.int .i64 0))],h,54⟩,[]⟩):=by kernel_rfl
theorem v48 (b n:Int) (N:Nat) (h:List AO):y1e (false::pA) [(1, .d (.int .u64 b)),(5, .d (.int .i64 n)),(6, .slice 0 1 0 N (some N)),(7, .d (.int .i64 0))] h=
  some (.normal,⟨⟨[(1, .d (.int .u64 b)),(5, .d (.int .i64 n)),(6, .slice 0 1 0 N (some N)),(7, .d (.int .i64 0)),(8, .d (.int .i64 0))],h,54⟩,[]⟩):=by kernel_rfl
theorem v47 (b at_ i:Int) (N:Nat) (h:List AO):y1e [true,true,true,true,true] (mkO b at_ i N) h=
  some (.ret,⟨⟨mkO b at_ i N++[(53, .slice 0 1 0 N (some N)),(4, .slice 0 1 0 N (some N))],h,54⟩,[]⟩):=by kernel_rfl
def y0d (b:Int) (at_ i k:Nat) (R:List (List Int)):List (List Int):=bif x49 b at_ then R.set i (R.getD i []++[(k:Int)]) else R.set k (R.getD k []++[(i:Int)])
def byK (b:Int) (i at_:Nat) (R:List (List Int)):Nat→List (List Int)
 |0=>R
 |k+1=>y0d b (at_+k) i k (byK b i at_ R k)
def prs:Nat→Nat
 |0=>0
 |n+1=>prs n+n
def byI (b:Int) (R:List (List Int)):Nat→List (List Int)
 |0=>R
 |i+1=>byK b i (prs i) (byI b R i) i
theorem y8k (b:Int) (at_ i k:Nat) (R:List (List Int)):(y0d b at_ i k R).length=R.length:=by
 unfold y0d; cases x49 b at_<;>simp
theorem x8p (b:Int) (i at_:Nat) (R:List (List Int)) (k:Nat):(byK b i at_ R k).length=R.length:=by
 induction k with
 |zero=>rfl
 |succ k ih=>rw [byK,y8k,ih]
theorem x8r (b:Int) (R:List (List Int)) (i:Nat):(byI b R i).length=R.length:=by
 induction i with
 |zero=>rfl
 |succ i ih=>rw [byI,x8p,ih]
def z5m (m:Nat) (R:List (List Int)):Prop:=∀ l∈R,l.length≤m
theorem x0o {b:Int} {at_ i k m:Nat} {R:List (List Int)} (h:z5m m R):z5m (m+1) (y0d b at_ i k R):=by
 have key:∀ x y,z5m (m+1) (R.set x (R.getD x []++[y])):=fun x y l hl=>by
  rcases List.mem_or_eq_of_mem_set hl with hl|rfl
  ·have:=h l hl; omega
  ·rw [List.length_append,List.length_singleton,List.getD_eq_getElem?_getD]
   cases hx:R[x]? with
   |none=>simp
   |some r=>have:=h r (List.mem_of_getElem? hx); simpa using this
 unfold y0d
 cases x49 b at_
 ·exact key k i
 ·exact key i k
theorem y91 {b:Int} {i at_ m:Nat} {R:List (List Int)} (h:z5m m R) (k:Nat):z5m (m+k) (byK b i at_ R k):=by
 induction k with
 |zero=>exact h
 |succ k ih=>rw [byK, ←Nat.add_assoc]; exact x0o (b:=b) ih
theorem x8q {b:Int} {m:Nat} {R:List (List Int)} (h:z5m m R) (i:Nat):z5m (m+prs i) (byI b R i):=by
 induction i with
 |zero=>exact h
 |succ i ih=>rw [byI,prs, ←Nat.add_assoc]; exact y91 (b:=b) (at_:=prs i) (i:=i) ih i
theorem w7s {n:Nat} (h:n≤10):prs n≤45:=by
 have hs:n=0∨n=1∨n=2∨n=3∨n=4∨n=5∨n=6∨n=7∨n=8∨n=9∨n=10:=by omega
 rcases hs with h|h|h|h|h|h|h|h|h|h|h<;>subst h<;>decide
theorem v1o {i:Nat} (h:i≤1000000):std.ar .add .i64 (i:Int) 1=((i+1:Nat):Int):=by rw [z0d]; exact z0z (by omega)
theorem v2u {b:Int} {at_ i k N:Nat} {h:List AO} {E:List (List AV)} {R:List (List Int)} (hf:Fam h E R) (hN:R.length=N) (hi:i<N) (hk:k<i) (hat:at_≤1000) (hsh:z5m 900 R) {Q:AX→AS→Prop}
  (hQ:∀ h' E',Fam h' E' (y0d b at_ i k R)→Q .normal ⟨mkE b ((at_+1:Nat):Int) i k N,h',54⟩):
  z4u P34 0 (.seq (.seq (z6m ([false,false]++pX)) (.cond (.tmp 30) (.region 11 (y1l p11) false) (.region 12 (y1l p12) false))) (z6m (true::pX))) ⟨mkE b at_ i k N,h,54⟩ (fun e s=>∃ s',z49 0 s s'∧Q e s'):=by
 have hge:std.cmp .geq (at_:Int) 0=true:=by rw [y6w]; exact decide_eq_true (by omega)
 refine z2i (z2i ((z9s w91 ((eK2 b at_ i k N h).trans (by rw [hge]; rfl))).mono ?_))
 rintro e s ⟨rfl,rfl⟩
 have hc:z0t (mkE b at_ i k N++[(26, .d (.int .u64 b)),(27, .d (.int .i64 (at_:Int))),(28, .d (.int .u64 (std.ar .shr .u64 b at_))),(29, .d (.int .u64 (std.ar .and .u64 (std.ar .shr .u64 b at_) 1))),(30, .d (.bool (x49 b at_)))]) (.tmp 30)= .d (.bool (x49 b at_)):=rfl
 refine y4a (t:=x49 b at_) hc ?_
 have fin:∀ h' E',Fam h' E' (y0d b at_ i k R)→z4u P34 0 (z6m (true::pX)) ⟨mkE b at_ i k N,h',54⟩ (fun e s=>∃ s',z49 0 s s'∧Q e s'):=by
  intro h' E' hf'
  refine (z9s w90 (eK3 b at_ i k N h')).mono ?_
  rintro e s ⟨rfl,rfl⟩
  rw [v1o (i:=at_) (by omega)]
  exact ⟨⟨mkE b ((at_+1:Nat):Int) i k N,h',54⟩,z49.env (n:=0) (s:=⟨_,h',54⟩) (z7p ⟨_,rfl⟩),hQ h' E' hf'⟩
 cases hb:x49 b at_ with
 |true=>
  rw [if_pos rfl]
  obtain ⟨row,hrow⟩:=z1d (l:=R) (i:=i) (by omega)
  have hst:y0d b at_ i k R=R.set i (row++[(k:Int)]):=by rw [y0d,hb,cond_true,z15 hrow]
  refine z4a (s':=⟨mkE b at_ i k N,h,54⟩) (z49.env (n:=0) (s:=⟨_,h,54⟩) (z7p ⟨_,rfl⟩)) (z2x (z92 ?_))
  have:=v1z (b:=b) (at_:=at_) (i:=i) (k:=k) (N:=N) (x:=i) hf rfl hN hrow (by have:=hsh row (List.mem_of_getElem? hrow); omega) (Q:=fun s'=>z4u P34 0 (z6m (true::pX)) s' (fun e s=>∃ s',z49 0 s s'∧Q e s')) (fun h' E' hf'=>fin h' E' (by rw [hst]; exact hf'))
  exact this
 |false=>
  rw [if_neg (by simp)]
  obtain ⟨row,hrow⟩:=z1d (l:=R) (i:=k) (by omega)
  have hst:y0d b at_ i k R=R.set k (row++[(i:Int)]):=by rw [y0d,hb,cond_false,z15 hrow]
  refine z4a (s':=⟨mkE b at_ i k N,h,54⟩) (z49.env (n:=0) (s:=⟨_,h,54⟩) (z7p ⟨_,rfl⟩)) (z2x (z92 ?_))
  have:=v1y (b:=b) (at_:=at_) (i:=i) (k:=k) (N:=N) (x:=k) hf rfl hN hrow (by have:=hsh row (List.mem_of_getElem? hrow); omega) (Q:=fun s'=>z4u P34 0 (z6m (true::pX)) s' (fun e s=>∃ s',z49 0 s s'∧Q e s')) (fun h' E' hf'=>fin h' E' (by rw [hst]; exact hf'))
  exact this
theorem w49 {b:Int} {at_ i N:Nat} {h:List AO} {E:List (List AV)} {R:List (List Int)} (hf:Fam h E R) (hN:R.length=N) (hi:i<N) (hi10:N≤10) (hat:at_≤100) (hsh:z5m 100 R) {Q:AX→AS→Prop}
  (hQ:∀ h' E',Fam h' E' (byK b i at_ R i)→Q (.exit 2) ⟨mkO b ((at_+i:Nat):Int) i N,h',54⟩):
  z4u P34 0 (.loop (z6m pLK)) ⟨mkE b at_ i ((0:Nat):Int) N,h,54⟩ Q:=by
 let ι:={ x:Nat×List AO×List (List AV) // x.1≤i∧Fam x.2.1 x.2.2 (byK b i at_ R x.1) }
 let I:ι→AS:=fun g=>⟨mkE b ((at_+g.1.1:Nat):Int) i (g.1.1:Nat) N,g.1.2.1,54⟩
 refine y9t (ι:=ι) I (fun g=>i - g.1.1) (fun _ _=>rfl) ?_ ⟨(0,h,E),Nat.zero_le _,hf⟩
 rintro ⟨⟨k,h1,E1⟩,hk,hf1⟩
 rw [v1w]
 refine z2i ?_
 by_cases hlt:k<i
 ·have hc:std.cmp .lss ((k:Nat):Int) (i:Int)=true:=by rw [y1d]; exact decide_eq_true (by omega)
  refine (z9s w3j ((eK1 b ((at_+k:Nat):Int) i k N h1).trans (by rw [hc]; rfl))).mono ?_
  rintro e s ⟨rfl,rfl⟩
  refine z4a (s':=⟨mkE b ((at_+k:Nat):Int) i k N,h1,54⟩) (z49.env (n:=0) (s:=⟨_,h1,54⟩) (z7p ⟨_,rfl⟩)) (z2i (z31 (z2x ?_)))
  have hshk:=y91 (b:=b) (i:=i) (at_:=at_) hsh k
  have hsh1:z5m 900 (byK b i at_ R k):=fun l hl=>Nat.le_trans (hshk l hl) (by omega)
  refine v2u hf1 (by rw [x8p]; exact hN) hi hlt (by omega) hsh1 fun h2 E2 hf2=>?_
  refine z2x ((z9s w9z (eK4 b ((at_+k+1:Nat):Int) i k N h2)).mono ?_)
  rintro e s ⟨rfl,rfl⟩
  rw [v1o (i:=k) (by omega)]
  exact ⟨⟨mkE b ((at_+k+1:Nat):Int) i ((k+1:Nat):Int) N,h2,54⟩,z49.env (n:=0) (s:=⟨_,h2,54⟩) (z7p ⟨_,rfl⟩),⟨⟨(k+1,h2,E2),hlt,hf2⟩,rfl,by show i - (k+1)<i - k; omega⟩⟩
 ·have hc:std.cmp .lss ((k:Nat):Int) (i:Int)=false:=by rw [y1d]; exact decide_eq_false (by omega)
  have hki:k=i:=by omega
  subst hki
  refine z2x ((z9s w3j ((eK1 b ((at_+k:Nat):Int) k k N h1).trans (by rw [hc]; rfl))).mono ?_)
  rintro e s ⟨rfl,rfl⟩
  exact ⟨⟨mkO b ((at_+k:Nat):Int) k N,h1,54⟩,z49.env (n:=0) (s:=⟨_,h1,54⟩) (z8z fun x hx=>by
   simp only [mkO,List.mem_cons,List.not_mem_nil,or_false] at hx
   rcases hx with rfl|rfl|rfl|rfl|rfl<;>rfl),hQ h1 E1 hf1⟩
theorem w4b {b:Int} {N:Nat} {h:List AO} {E:List (List AV)} {R:List (List Int)} (hf:Fam h E R) (hN:R.length=N) (hi10:N≤10) (hsh:z5m 0 R) {Q:AX→AS→Prop}
  (hQ:∀ h' E',Fam h' E' (byI b R N)→Q (.exit 0) ⟨mkO b (prs N:Nat) N N,h',54⟩):
  z4u P34 0 (.loop (z6m pLB)) ⟨mkO b ((0:Nat):Int) ((0:Nat):Int) N,h,54⟩ Q:=by
 let ι:={ x:Nat×List AO×List (List AV) // x.1≤N∧Fam x.2.1 x.2.2 (byI b R x.1) }
 let I:ι→AS:=fun g=>⟨mkO b (prs g.1.1:Nat) (g.1.1:Nat) N,g.1.2.1,54⟩
 refine y9t (ι:=ι) I (fun g=>N - g.1.1) (fun _ _=>rfl) ?_ ⟨(0,h,E),Nat.zero_le _,hf⟩
 rintro ⟨⟨i,h1,E1⟩,hi,hf1⟩
 rw [v1x]
 refine z2i ?_
 have hp:=w7s (n:=i) (by omega)
 by_cases hlt:i<N
 ·have hc:std.cmp .lss ((i:Nat):Int) (N:Int)=true:=by rw [y1d]; exact decide_eq_true (by omega)
  refine (z9s w3k ((eB1 b (prs i:Nat) i N h1).trans (by rw [hc]; rfl))).mono ?_
  rintro e s ⟨rfl,rfl⟩
  refine z4a (s':=⟨mkO b (prs i:Nat) i N,h1,54⟩) (z49.env (n:=0) (s:=⟨_,h1,54⟩) (z8z fun x hx=>by
   simp only [mkO,List.mem_cons,List.not_mem_nil,or_false] at hx
   rcases hx with rfl|rfl|rfl|rfl|rfl<;>rfl)) (z2i (z31 (z2i ((z9s w93 (eB2 b (prs i:Nat) i N h1)).mono ?_))))
  rintro e s ⟨rfl,rfl⟩
  refine z31 ?_
  have hshi:=x8q (b:=b) hsh i
  refine w49 (at_:=prs i) (i:=i) hf1 (by rw [x8r]; exact hN) hlt hi10 (by omega) (fun l hl=>Nat.le_trans (hshi l hl) (by omega)) fun h2 E2 hf2=>?_
  simp only [if_true]
  refine z2x ((z9s w92 (eB3 b ((prs i+i:Nat):Int) i N h2)).mono ?_)
  rintro e s ⟨rfl,rfl⟩
  rw [v1o (i:=i) (by omega)]
  exact ⟨⟨mkO b ((prs i+i:Nat):Int) ((i+1:Nat):Int) N,h2,54⟩,z49.env (n:=0) (s:=⟨_,h2,54⟩) (z8z fun x hx=>by
   simp only [mkO,List.mem_cons,List.not_mem_nil,or_false] at hx
   rcases hx with rfl|rfl|rfl|rfl|rfl<;>rfl),⟨⟨(i+1,h2,E2),hlt,hf2⟩,rfl,by show N - (i+1)<N - i; omega⟩⟩
 ·have hc:std.cmp .lss ((i:Nat):Int) (N:Int)=false:=by rw [y1d]; exact decide_eq_false (by omega)
  have hki:i=N:=by omega
  subst hki
  refine z2x ((z9s w3k ((eB1 b (prs i:Nat) i i h1).trans (by rw [hc]; rfl))).mono ?_)
  rintro e s ⟨rfl,rfl⟩
  exact ⟨⟨mkO b (prs i:Nat) i i,h1,54⟩,z49.env (n:=0) (s:=⟨_,h1,54⟩) (z8z fun x hx=>by
   simp only [mkO,List.mem_cons,List.not_mem_nil,or_false] at hx
   rcases hx with rfl|rfl|rfl|rfl|rfl<;>rfl),hQ h1 E1 hf1⟩
end Go.Am
end
section
namespace Go.Am
theorem x58 {env:List (Nat×AV)} {es:List (List D)} {nt:Nat}:z49 0 ⟨env,[.row es],nt⟩ ⟨env,[.arow (es.map (List.map AV.d))],nt⟩:=⟨by
 intro P ρ tm w h
 have hlive:∀ id,(z0k [AO.row es] id).live=(z0k [AO.arow (es.map (List.map AV.d))] id).live:=fun id=>by cases id<;>rfl
 have hO:z0j ρ [AO.row es]=z0j ρ [AO.arow (es.map (List.map AV.d))]:=by
  funext b; unfold z0j; simp only [hlive]
 have hh:=h.heap
 refine ⟨ρ,⟨⟨fun id L hL=>?_,fun id id' L L' a b c d e=>hh.inj id id' L L' a b (by rw [hlive]; exact c) (by rw [hlive]; exact d) e,hh.fr,fun id L hL hl=>hh.sep id L hL (by rw [hlive]; exact hl)⟩,fun t=>?_,h.size,fun id hid=>h.dom id hid⟩,rfl,?_,fun _ _=>rfl⟩
 ·obtain ⟨h1,h2⟩:=hh.obj id L hL
  refine ⟨h1,?_⟩
  show z1n P ρ (z0j ρ [AO.arow (es.map (List.map AV.d))]) w L (z0k [AO.arow (es.map (List.map AV.d))] id)
  rw [←hO]
  cases id with
  |zero=>
   obtain ⟨hz,c,t,hc,hl,hj⟩:=h2
   refine ⟨hz,c,t,hc,fun i r hi=>?_,fun i r j x hi hj'=>?_⟩
   ·rw [List.getElem?_map] at hi
    cases he:es[i]? with
    |none=>rw [he] at hi; cases hi
    |some r0=>rw [he] at hi; cases hi; rw [List.length_map]; exact hl i r0 he
   ·rw [List.getElem?_map] at hi
    cases he:es[i]? with
    |none=>rw [he] at hi; cases hi
    |some r0=>
     rw [he] at hi; cases hi
     rw [List.getElem?_map] at hj'
     cases hd:r0[j]? with
     |none=>rw [hd] at hj'; cases hj'
     |some d0=>
      rw [hd] at hj'; cases hj'
      obtain ⟨v,a,b,e⟩:=hj i r0 j d0 he hd
      exact ⟨v,a,b, .d e⟩
  |succ n=>exact h2
 ·show z0s ρ (z0j ρ [AO.arow (es.map (List.map AV.d))]) w _ _
  rw [←hO]; exact h.env t
 ·exact ⟨rfl,rfl,rfl,⟨Nat.le_refl _,fun _ _ _=>rfl,fun b _ hb=>by rw [hO]; exact hb,fun _ _ h=>h,z0u.refl _⟩,fun _ _=>rfl,rfl,fun _ _=>rfl⟩⟩
theorem fam0 (N:Nat):Fam [.arow (List.replicate N [AV.d (.list true 0 [])])] (List.replicate N [AV.d (.list true 0 [])]) (List.replicate N []):=by
 refine ⟨by simp,rfl,by simp,fun j row hj=> .inl ?_,fun j j' id l l' h1 _=>?_⟩
 ·rw [List.getElem?_replicate] at hj⊢
  split at hj
  ·rename_i hlt; cases hj; rw [if_pos hlt]; exact ⟨rfl,rfl⟩
  ·cases hj
 ·rw [List.getElem?_replicate] at h1
  split at h1<;>cases h1
theorem x57 {h:List AO} {E:List (List AV)} {R:List (List Int)} {env:List (Nat×AV)} {N nt:Nat} (hf:Fam h E R) (hN:R.length=N) (he:z1g env 4= .slice 0 1 0 N (some N)):
  z49 0 ⟨env,h,nt⟩ ⟨[(4, .d (.list false 1 (z0i (fun _=>false) R)))],[],nt⟩:=⟨by
 intro P ρ tm w h1
 have hv:x86 (fun _=>false) h []:=⟨fun id=>by rw [z33]; rfl,fun id hk=>by cases hk⟩
 have h2:=h1.view (h':=[]) hv
 refine ⟨ρ.only fun _=>false,⟨h2.heap,fun t=>?_,h2.size,h2.dom⟩,rfl,Ext.view' (fun id hid=>absurd hid (Nat.not_lt_zero _)) ρ w hv,fun id hid=>absurd hid (Nat.not_lt_zero _)⟩
 show z0s (ρ.only fun _=>false) (z0j (ρ.only fun _=>false) []) w (bif Nat.beq 4 t then _ else _) _
 cases hb:Nat.beq 4 t with
 |false=>exact .bot _
 |true=>
  have ht:=Nat.eq_of_beq_eq_true hb
  subst ht
  simp only [cond_true]
  have hv4:=h1.env 4
  have hv4:z0s ρ (z0j ρ h) w (z1g env 4) (tm.getD 4 undef):=hv4
  rw [he] at hv4
  generalize tm.getD 4 undef=v at hv4
  have hlen:(z0i (fun _=>false) R).length=N:=by rw [z1a,hN]
  have hnil:N=0→z0i (fun _=>false) R=[]:=fun h0=>List.length_eq_zero_iff.1 (by rw [hlen]; exact h0)
  cases hv4 with
  |nils _ _ _ _ a hc=>
   rw [hnil rfl]
   exact .d (.lnil _ _ _ _ (by simp))
  |slice _ _ _ _ _ L a c hL hz ha hc hl=>
   by_cases h0:N=0
   ·subst h0
    rw [hnil rfl]
    exact .d (.lnil _ _ _ _ (by simp))
   ·have ha':=ha (by omega)
    subst ha'
    obtain ⟨hblk,hob⟩:=h1.heap.obj 0 L hL
    have hob:z1n P ρ (z0j ρ h) w L (z0k h 0):=hob
    rw [hf.arr] at hob
    obtain ⟨hz0,cs,t0,hcs,hlens,hcell⟩:=hob
    have key:∀ (i:Nat) (row:List Int),R[i]?=some row→∃ u,cs[L.base+i]?=some u∧u.oneCell'=true∧z1q (z0j (ρ.only fun _=>false) []) w (.list false 1 (z0e row)) u:=by
     intro i row hrow
     rcases hf.cell i row hrow with ⟨hE,rfl⟩|⟨id,hE,hid,hid0,hidl⟩
     ·obtain ⟨u,a,b,e⟩:=hcell i _ 0 _ hE rfl
      rw [hz,Nat.mul_one,Nat.add_zero] at a
      refine ⟨u,a,b,?_⟩
      cases e with|d e=>
      cases e with
      |lnil _ _ a c h=>exact .lnil _ _ _ _ (by simp)
      |list _ _ b o z c hz hne=>exact absurd rfl hne
     ·obtain ⟨u,a,b,e⟩:=hcell i _ 0 _ hE rfl
      rw [hz,Nat.mul_one,Nat.add_zero] at a
      refine ⟨u,a,b,?_⟩
      have hc1:(bV std h (.slice id 1 0 row.length none)).1=true:=by
       simp only [bV,hid]
       rw [y6v,x0q,x5x,z0o]; exact decide_eq_true (by omega)
      have:=w6r h1.heap e hc1
      have hc2:(bV std h (.slice id 1 0 row.length none)).2= .d (.list false 1 (z0e row)):=by
       simp only [bV,hid]
       rw [x5y,List.drop_zero,List.take_of_length_le (by rw [z0o]; exact Nat.le_refl _)]
      rw [hc2] at this
      cases this with|d this=>exact this
    have hget:∀ (i:Nat) (r:List D),(z0i (fun _=>false) R)[i]?=some r→∃ row:List Int,R[i]?=some row∧r=[D.list false 1 (z0e row)]:=by
     intro i r hi
     rw [z0i,List.getElem?_map] at hi
     cases hr:R[i]? with
     |none=>rw [hr] at hi; cases hi
     |some row=>rw [hr] at hi; cases hi; exact ⟨row,rfl,rfl⟩
    refine .d ?_
    have fin:=z1q.list (O:=z0j (ρ.only fun _=>false) []) (w:=w) false (z0i (fun _=>false) R) L.blk (L.base+0*L.esz) 1 c (by omega) (by intro e; rw [e] at hlen; simp at hlen; omega)
     (fun hb=>h1.heap.sep 0 L hL (by show (z0k h 0).live=true; rw [hf.arr]; rfl) (z4q.1 hb)) (by rw [hlen]; exact hl) (by simp) (fun i r hi=>by obtain ⟨row,_,rfl⟩:=hget i r hi; rfl)
     (fun k=>(cs[L.base+k]?).getD undef) (fun k hk=>?_) (fun k hk=>?_) (fun i r j d hi hj=>?_)
    ·rw [hlen] at fin; exact fin
    ·rw [hlen,Nat.mul_one] at hk
     obtain ⟨row,hrow⟩:=z1d (l:=R) (i:=k) (by omega)
     obtain ⟨u,a,b,_⟩:=key k row hrow
     rw [a]; exact b
    ·rw [hlen,Nat.mul_one] at hk
     obtain ⟨row,hrow⟩:=z1d (l:=R) (i:=k) (by omega)
     obtain ⟨u,a,_,_⟩:=key k row hrow
     rw [Nat.zero_mul,Nat.add_zero,a]; exact z7s hcs a
    ·obtain ⟨row,hrow,rfl⟩:=hget i r hi
     obtain ⟨u,a,_,e⟩:=key i row hrow
     cases j with
     |zero=>
      cases hj
      rw [Nat.mul_one,Nat.add_zero,a]; exact e
     |succ j=>simp at hj⟩
def x1r (n:Nat) (b:Int):List (List Int):=byI b (List.replicate n []) n
theorem v0j {s b:Int} {n:Nat} (hn:nB s=(n:Int)) (h10:n≤10):z9h P34 34 [.d (.int .u8 s), .d (.int .u64 b)] [] (.d (.list false 1 (z0i (fun _=>false) (x1r n b)))) []:=by
 have hfn:∃ fn,P34.funcs[34]?=some fn∧fn.body=some (z6m [])∧fn.ntmps=54∧fn.results.toList=[.tmp 4]:=by
  have:(P34.funcs[34]?.map fun fn=>(fn.body,fn.ntmps,fn.results.toList))=some (some (z6m []),54,[.tmp 4]):=by kernel_rfl
  cases hq:P34.funcs[34]? with
  |none=>rw [hq] at this; cases this
  |some fn=>
   rw [hq] at this
   simp only [Option.map_some,Option.some.injEq,Prod.mk.injEq] at this
   exact ⟨fn,rfl,this.1,this.2.1,this.2.2⟩
 obtain ⟨fn,hf,hb,hnt,hres⟩:=hfn
 refine y2b v65 hf hb hnt (by show 2≤54; omega) ?_
 rw [hres,s34]
 refine z2i ((z9s v5o (v5c s b)).mono ?_)
 rintro e s1 ⟨rfl,rfl⟩
 refine z2i ((z9s v5n (v5b s b)).mono ?_)
 rintro e s1 ⟨rfl,rfl⟩
 refine z4a (s':=⟨[(1, .d (.int .u64 b)),(5, .d (.int .i64 n))],[],54⟩) (z49.env (n:=0) (s:=⟨_,[],54⟩) (z8z fun x hx=>by
   simp only [List.mem_cons,List.not_mem_nil,or_false] at hx
   rcases hx with rfl|rfl
   ·rfl
   ·rw [←hn]; rfl)) ?_
 have hc:std.and (std.cmp .geq (n:Int) 0) (std.and (std.cmp .leq (n:Int) n) (std.cmp .leq (n:Int) 1000000))=true:=by
  rw [y6w,x5w,x5w,x5z,x5z,decide_eq_true (show (n:Int)≥0 by omega),decide_eq_true (Int.le_refl _),decide_eq_true (show (n:Int)≤1000000 by omega)]; rfl
 refine z2i ((z9s v5m ((v5a b n).trans (by rw [hc]; rfl))).mono ?_)
 rintro e s1 ⟨rfl,rfl⟩
 have ht:((n:Int)).toNat=n:=by omega
 simp only [ht]
 refine z4a (s':=⟨[(1, .d (.int .u64 b)),(5, .d (.int .i64 n)),(6, .slice 0 1 0 n (some n))],[.arow (List.replicate n [AV.d (.list true 0 [])])],54⟩) ?_ ?_
 ·have h1:=x58 (env:=[(1, .d (.int .u64 b)),(5, .d (.int .i64 n)),(6, .slice 0 1 0 n (some n))]) (es:=List.replicate n [.list true 0 []]) (nt:=54)
  rw [List.map_replicate] at h1
  exact (z49.env (n:=0) (s:=⟨_,[.row (List.replicate n [.list true 0 []])],54⟩) (z8z fun x hx=>by
   simp only [List.mem_cons,List.not_mem_nil,or_false] at hx
   rcases hx with rfl|rfl|rfl<;>rfl)).trans h1
 refine z2i ((z9s v5l (v49 b n n _)).mono ?_)
 rintro e s1 ⟨rfl,rfl⟩
 refine z2i (z2i ((z9s v5k (v48 b n n _)).mono ?_))
 rintro e s1 ⟨rfl,rfl⟩
 refine z31 ?_
 refine w4b (b:=b) (fam0 n) (by simp) h10 (fun l hl=>by rw [(List.mem_replicate.1 hl).2]; simp) fun h' E' hf'=>?_
 simp only [if_true]
 refine z2x ((z9s v5i (v47 b (prs n:Nat) n n h')).mono ?_)
 rintro e s1 ⟨rfl,rfl⟩
 refine ⟨⟨[(4, .d (.list false 1 (z0i (fun _=>false) (x1r n b))))],[],54⟩,?_, .inr rfl,rfl,rfl⟩
 exact x57 (R:=x1r n b) (N:=n) hf' (by rw [x1r,x8r]; simp) rfl
noncomputable def y0w:Ctr:=
 ⟨34,[.int .u8, .int .u64],[],[(.ret,⟨[(0, .list 1)],[],1⟩)]⟩
def q34 (x:Int×(Int×Unit)):Option (List (List D)×Unit):=
 bif decide (0≤x.1)&&decide (x.1≤255) then some (z0i (fun _=>false) (x1r (1+x.1.toNat % 10) x.2.1),()) else none
noncomputable def G34:(p:Prim)→(Int×(Int×Unit))→Option (List (List D)×Unit):=fun p x=>q34 x
noncomputable def F34:Prim→Tup (y0w).scs→Option (STup (scss (y0w).outs)):=fun p x=>G34 p x
theorem w00:z2n Go.Proofs.Try.prog 34:=enters_auto (b:=_) rfl (by kernel_rfl)
theorem v2q {s:Int} (h0:0≤s) (h1:s≤255):nB s=((1+s.toNat % 10:Nat):Int):=by
 obtain ⟨m,rfl⟩:∃ m:Nat,s=(m:Int):=⟨s.toNat,by omega⟩
 have e1:std.cvt .i64 (m:Int)=(m:Int):=by rw [w31,z48]<;>omega
 have e2:((m:Int)).tmod 10=((m % 10:Nat):Int):=(Int.ofNat_tmod m 10).symm
 rw [nB,e1,x30,z0d,e2,z48]<;>simp<;>omega
theorem ok34:CtrOk Go.Proofs.Try.prog y0w (F34 std):=by
 have key:∀ (s b:Int) (y:STup (scss (y0w).outs)),q34 (s,(b,()))=some y→(y4l std y0w (y05 (y0w).scs (s,(b,())))).2.length≤(z1m std (y0w).outs y).2.s.heap.length∧
   z9h Go.Proofs.Try.prog 34 (y4l std y0w (y05 (y0w).scs (s,(b,())))).1 (y4l std y0w (y05 (y0w).scs (s,(b,())))).2 (z1g (z1m std (y0w).outs y).2.s.env 0) (z1m std (y0w).outs y).2.s.heap:=by
  intro s b y hy
  unfold q34 at hy
  simp only at hy
  cases hb:(decide (0≤s)&&decide (s≤255)) with
  |false=>rw [hb] at hy; cases hy
  |true=>
   rw [hb] at hy; cases hy
   simp only [Bool.and_eq_true,decide_eq_true_eq] at hb
   have:=v0j (b:=b) (v2q hb.1 hb.2) (by omega)
   exact ⟨Nat.le_refl _,this⟩
 exact ⟨w00,fun x y hy=>key x.1 x.2.1 y hy⟩
end Go.Am
end
section
namespace Go.Am
open T11
def beB (b:Int) (r x:Nat):Bool:=if x<r then x49 b ((prs r+x:Nat):Int) else if r<x then !x49 b ((prs x+r:Nat):Int) else false
theorem w13 (b:Int) (n:Nat):y4e (beB b) n:=by
 refine ⟨fun i _=>by simp [beB],fun i k _ _ hne=>?_⟩
 unfold beB
 by_cases h:k<i
 ·rw [if_pos h,if_neg (by omega),if_pos h,Bool.not_not]
 ·rw [if_neg h,if_pos (by omega),if_pos (by omega)]
def x0f (i k r:Nat):Nat:=if r<k then i+1 else if r<i then i else if r=i then k else 0
def y1f (b:Int) (n i k:Nat):List (List Int):=(List.range n).map fun r=>toI ((List.range (x0f i k r)).filter (beB b r))
theorem z72 (b:Int) (n i k:Nat):(y1f b n i k).length=n:=by simp [y1f]
theorem z6v (b:Int) {n i k r:Nat} (hr:r<n):(y1f b n i k)[r]?=some (toI ((List.range (x0f i k r)).filter (beB b r))):=by
 rw [y1f,List.getElem?_map,List.getElem?_range hr]; rfl
theorem y33 (b:Int) (r m:Nat):toI ((List.range (m+1)).filter (beB b r))=toI ((List.range m).filter (beB b r))++(if beB b r m=true then [(m:Int)] else []):=by
 rw [List.range_succ,List.filter_append,w3v]
 congr 1
 cases h:beB b r m<;>simp [h,toI]
theorem x3z (b:Int) {n i k:Nat} (hi:i<n) (hk:k<i):y0d b (prs i+k) i k (y1f b n i k)=y1f b n i (k+1):=by
 have hik:beB b i k=x49 b ((prs i+k:Nat):Int):=by unfold beB; rw [if_pos hk]
 have hki:beB b k i=!x49 b ((prs i+k:Nat):Int):=by unfold beB; rw [if_neg (by omega),if_pos hk]
 have li:x0f i k i=k:=by unfold x0f; rw [if_neg (by omega),if_neg (by omega),if_pos rfl]
 have li':x0f i (k+1) i=k+1:=by unfold x0f; rw [if_neg (by omega),if_neg (by omega),if_pos rfl]
 have lk:x0f i k k=i:=by unfold x0f; rw [if_neg (by omega),if_pos hk]
 have lk':x0f i (k+1) k=i+1:=by unfold x0f; rw [if_pos (by omega)]
 have lo:∀ r,r≠i→r≠k→x0f i (k+1) r=x0f i k r:=fun r h1 h2=>by
  unfold x0f
  by_cases a:r<k
  ·rw [if_pos (by omega),if_pos a]
  ·rw [if_neg (by omega),if_neg a]
   by_cases c:r<i
   ·rw [if_pos c,if_pos c]
   ·rw [if_neg c,if_neg c,if_neg h1,if_neg h1]
 have gi:(y1f b n i k).getD i []=toI ((List.range k).filter (beB b i)):=by rw [List.getD_eq_getElem?_getD,z6v b hi,li]; rfl
 have gk:(y1f b n i k).getD k []=toI ((List.range i).filter (beB b k)):=by rw [List.getD_eq_getElem?_getD,z6v b (show k<n by omega),lk]; rfl
 have fi:=y33 b i k
 have fk:=y33 b k i
 rw [hik] at fi
 rw [hki] at fk
 apply List.ext_getElem?
 intro r
 by_cases hr:r<n
 ·rw [z6v b hr]
  cases hb:x49 b ((prs i+k:Nat):Int) with
  |true=>
   rw [hb] at fi fk
   simp only [Bool.not_true,Bool.false_eq_true,if_true,if_false,List.append_nil] at fi fk
   rw [y0d,hb,cond_true,List.getElem?_set,z72,gi]
   by_cases e:i=r
   ·subst e; rw [if_pos rfl,if_pos hi,li',fi]
   ·rw [if_neg e,z6v b hr]
    by_cases e2:r=k
    ·subst e2; rw [lk,lk',fk]
    ·rw [lo r (Ne.symm e) e2]
  |false=>
   rw [hb] at fi fk
   simp only [Bool.not_false,Bool.false_eq_true,if_true,if_false,List.append_nil] at fi fk
   rw [y0d,hb,cond_false,List.getElem?_set,z72,gk]
   by_cases e:k=r
   ·subst e; rw [if_pos rfl,if_pos hr,lk',fk]
   ·rw [if_neg e,z6v b hr]
    by_cases e2:r=i
    ·subst e2; rw [li,li',fi]
    ·rw [lo r e2 (Ne.symm e)]
 ·rw [List.getElem?_eq_none (by rw [y8k,z72]; omega),List.getElem?_eq_none (by rw [z72]; omega)]
theorem w1x (b:Int) {n i:Nat} (hi:i<n):∀ k,k≤i→byK b i (prs i) (y1f b n i 0) k=y1f b n i k:=by
 intro k
 induction k with
 |zero=>intro _; rfl
 |succ k ih=>intro hk; rw [byK,ih (by omega),x3z b hi (by omega)]
theorem x33 (b:Int) {n i:Nat}:y1f b n i i=y1f b n (i+1) 0:=by
 refine List.map_congr_left fun r _=>?_
 unfold x0f
 by_cases h:r<i
 ·rw [if_pos h,if_neg (show ¬ r<0 by omega),if_pos (show r<i+1 by omega)]
 ·rw [if_neg h,if_neg h,if_neg (show ¬ r<0 by omega)]
  by_cases e:r=i
  ·subst e
   rw [if_pos rfl,if_pos (show r<r+1 by omega),y33,if_neg (by simp [beB]),List.append_nil]
  ·rw [if_neg e,if_neg (show ¬ r<i+1 by omega)]
   split<;>rfl
theorem w1y (b:Int) {n:Nat}:∀ i,i≤n→byI b (List.replicate n []) i=y1f b n i 0:=by
 intro i
 induction i with
 |zero=>
  intro _
  apply List.ext_getElem?
  intro r
  by_cases hr:r<n
  ·rw [z6v b hr,byI,List.getElem?_replicate,if_pos hr]
   unfold x0f
   rw [if_neg (by omega),if_neg (by omega)]
   split<;>rfl
  ·rw [byI,List.getElem?_eq_none (by simp; omega),List.getElem?_eq_none (by rw [z72]; omega)]
 |succ i ih=>
  intro hi
  rw [byI,ih (by omega),w1x b (by omega) i (Nat.le_refl _),x33]
theorem w6o (b:Int) (n:Nat):x1r n b=dOf (beB b) n:=by
 rw [x1r,w1y b n (Nat.le_refl _)]
 refine List.map_congr_left fun r hr=>?_
 have hr:=List.mem_range.1 hr
 unfold x0f
 rw [if_neg (by omega),if_pos hr]
theorem v0x {s b:Int} (h0:0≤s) (h1:s≤255):G34 std (s,(b,()))=some (z0i fz (dOf (beB b) (1+s.toNat % 10)),()):=by
 unfold G34 q34
 simp only [h0,h1,decide_true,Bool.and_self,cond_true,w6o]
 rfl
theorem x8o (b:Int) {n:Nat} (h1:1≤n) (h10:n≤10):z00 (dOf (beB b) n)=0:=w1e h1 h10 (w13 b n)
theorem w6n (b:Int) {n:Nat} (h1:1≤n) (h10:n≤10):∀ l∈dOf (beB b) n,l.length≤1000000:=x70 (x8o b h1 h10)
end Go.Am
end
section
namespace Go.Am
open T11
section
variable {b:Nat→Nat→Bool} {n:Nat} {s:List Nat} {rc:Nat→Nat}
theorem x62 (ht:y4e b n) (hs:x88 b n s) (hrc:RC b n rc) {j:Nat} (hj:j<n) (hc:cut (byR b s) n j):at_ s j∈lG rc n j:=by
 obtain ⟨m,h1,h2,h3,h4⟩:=y1i ht hs hrc hj
 have:=h4 j (Nat.le_refl _) hc
 have e:m=j:=by omega
 rw [e] at h3
 exact z7v.2 ⟨hs.1.lt hj,h3⟩
theorem w3p (ht:y4e b n) (hs:x88 b n s) (hrc:RC b n rc):∀ m,m≤n→(RG rc n m).length=cnt m fun j=>decide (cut (byR b s) n j):=by
 intro m
 induction m with
 |zero=>intro _; rfl
 |succ m ih=>
  intro hm
  rw [RG,y0x, ←ih (by omega)]
  by_cases c:cut (byR b s) n m
  ·have:=x62 ht hs hrc (by omega) c
   have hne:(lG rc n m).isEmpty=false:=by
    rw [List.isEmpty_eq_false_iff]; intro e; rw [e] at this; cases this
   rw [hne,decide_eq_true c]; simp [o1]
  ·rw [x63 ht hs hrc (by omega) c,decide_eq_false c]; simp [o1]
theorem x0d (rc:Nat→Nat) (n m:Nat):∀ m',m≤m'→∃ t,RG rc n m'=RG rc n m++t:=by
 intro m'
 induction m' with
 |zero=>intro h; rw [show m=0 by omega]; exact ⟨[],by simp⟩
 |succ m' ih=>
  intro h
  by_cases e:m=m'+1
  ·exact ⟨[],by rw [e]; simp⟩
  ·obtain ⟨t,ht⟩:=ih (by omega)
   rw [RG]
   cases (lG rc n m').isEmpty
   ·exact ⟨t++[lG rc n m'],by rw [cond_false,ht,List.append_assoc]⟩
   ·exact ⟨t,ht⟩
theorem w2j (ht:y4e b n) (hs:x88 b n s) (hrc:RC b n rc) (hn:0<n):∃ t,RG rc n n=lG rc n 0::t:=by
 obtain ⟨t,h⟩:=x0d rc n 1 n hn
 have:=x62 ht hs hrc hn (x3a _ _)
 have hne:(lG rc n 0).isEmpty=false:=by
  rw [List.isEmpty_eq_false_iff]; intro e; rw [e] at this; cases this
 have h1:RG rc n 1=[lG rc n 0]:=by rw [RG,hne]; rfl
 exact ⟨t,by rw [h,h1]; rfl⟩
end
end Go.Am
end
section
namespace Go.Am
open T11
theorem v1s {n:Int} (h:(Lit.int IntKind.u8 n).wf=true):0≤n∧n≤255:=by
 have h:IntKind.u8.min≤n∧n≤IntKind.u8.max:=by simpa [Lit.wf] using h
 have e1:IntKind.u8.min=0:=rfl
 have e2:IntKind.u8.max=255:=rfl
 omega
def d7 (s b:Int):List (List Int):=dOf (beB b) (1+s.toNat % 10)
theorem w52 (s b:Int):z00 (d7 s b)=0:=x8o b (by omega) (by omega)
theorem w51 (s b:Int):∀ l∈d7 s b,l.length≤1000000:=w6n b (by omega) (by omega)
end Go.Am
end
section
namespace Go.Am
open T11
def gix (rc:Nat→Nat) (n j:Nat):Nat:=(RG rc n j).length
def grd (rc:Nat→Nat) (n i:Nat):Nat:=gix rc n (n - rc i)
section
variable {b:Nat→Nat→Bool} {n:Nat} {s:List Nat} {rc:Nat→Nat}
theorem x6j (hrc:RC b n rc) {i:Nat} (hi:i<n):1≤rc i∧rc i≤n:=by
 obtain ⟨R,hR,he⟩:=hrc i hi
 have h1:=y7n hi hR.1
 have h2:=y17 n R
 omega
theorem v0m {rc:Nat→Nat} {n:Nat}:∀ m t g,(RG rc n m)[t]?=some g→∃ j,j<m∧lG rc n j=g∧g≠[]∧gix rc n j=t:=by
 intro m
 induction m with
 |zero=>intro t g h; cases h
 |succ m ih=>
  intro t g h
  rw [RG] at h
  cases he:(lG rc n m).isEmpty with
  |true=>
   rw [he,cond_true] at h
   obtain ⟨j,h1,h2⟩:=ih t g h
   exact ⟨j,by omega,h2⟩
  |false=>
   rw [he,cond_false] at h
   by_cases ht:t<(RG rc n m).length
   ·rw [List.getElem?_append_left ht] at h
    obtain ⟨j,h1,h2⟩:=ih t g h
    exact ⟨j,by omega,h2⟩
   ·rw [List.getElem?_append_right (by omega)] at h
    have hlt:=(List.getElem?_eq_some_iff.1 h).1
    have h0:t - (RG rc n m).length=0:=by rw [List.length_singleton] at hlt; omega
    rw [h0] at h
    have:lG rc n m=g:=by simpa using h
    refine ⟨m,by omega,this,?_,?_⟩
    ·rintro rfl; rw [this] at he; cases he
    ·unfold gix; omega
theorem w20 {rc:Nat→Nat} {n j k:Nat} (h:j<k) (hne:lG rc n j≠[]):gix rc n j<gix rc n k:=by
 obtain ⟨t,ht⟩:=x0d rc n (j+1) k h
 have he:(lG rc n j).isEmpty=false:=List.isEmpty_eq_false_iff.2 hne
 have h1:RG rc n (j+1)=RG rc n j++[lG rc n j]:=by rw [RG,he]; rfl
 unfold gix
 rw [ht,h1,List.length_append,List.length_append,List.length_singleton]
 omega
theorem w2u (hrc:RC b n rc) {i:Nat} (hi:i<n):i∈lG rc n (n - rc i):=by
 have:=x6j hrc hi
 exact z7v.2 ⟨hi,by omega⟩
theorem w2z (hrc:RC b n rc) {i k:Nat} (hi:i<n) (hk:k<n) (h:rc k<rc i):grd rc n i<grd rc n k:=by
 have h1:=x6j hrc hi
 exact w20 (by omega) fun e=>by have:=w2u hrc hi; rw [e] at this; cases this
theorem z8v (hrc:RC b n rc) {i k:Nat} (hi:i<n) (hk:k<n):grd rc n i<grd rc n k↔rc k<rc i:=by
 refine ⟨fun h=>Nat.lt_of_not_le fun hle=>?_,w2z hrc hi hk⟩
 by_cases e:rc i=rc k
 ·unfold grd at h; rw [e] at h; omega
 ·have:=w2z hrc hk hi (by omega); omega
theorem y5z (hrc:RC b n rc) {i k:Nat} (hi:i<n) (hk:k<n):grd rc n i=grd rc n k↔rc i=rc k:=by
 have h1:=z8v hrc hi hk
 have h2:=z8v hrc hk hi
 omega
theorem w5f (hrc:RC b n rc) {i:Nat} (hi:i<n):grd rc n i<(RG rc n n).length:=by
 have h1:=x6j hrc hi
 exact w20 (k:=n) (by omega) fun e=>by have:=w2u hrc hi; rw [e] at this; cases this
theorem w8m {rc:Nat→Nat} {j i:Nat} (hj:j<n) (hm:i∈lG rc n j):grd rc n i=gix rc n j:=by
 have:=(z7v.1 hm).2
 unfold grd
 congr 1
 omega
theorem x9z (ht:y4e b n) (hs:x88 b n s) (hrc:RC b n rc) {i k:Nat} (hi:i<n) (hk:k<n) (h:rc k<rc i):b i k=true:=by
 obtain ⟨p,hp,rfl⟩:=hs.1.ex hi
 obtain ⟨q,hq,rfl⟩:=hs.1.ex hk
 obtain ⟨m,h1,h2,h3,h4⟩:=y1i ht hs hrc hp
 obtain ⟨m',a1,a2,a3,a4⟩:=y1i ht hs hrc hq
 have hpm:p<m':=Nat.lt_of_not_le fun hle=>by
  have:=h4 m' hle a2
  omega
 exact (y7k (y7x ht hs.1) (by omega)).1 a2 p q hpm a1 hq
theorem x6k (hrc:RC b n rc) {i k:Nat} (hi:i<n) (hk:k<n) (h:b i k=true):rc k≤rc i:=by
 obtain ⟨R,hR,he⟩:=hrc i hi
 obtain ⟨S,hS,he'⟩:=hrc k hk
 rw [he,he']
 exact z80 fun m hm hm'=>hS.2.2 R hR.2.1 (hR.2.1 i k hi hk hR.1 h) m hm hm'
theorem x2c (ht:y4e b n) (hrc:RC b n rc) {i k:Nat} (hi:i<n) (hk:k<n) (h:rc i=rc k) {R:Nat→Bool} (hR:Rch b n i R) (he:rc i=cnt n R):R k=true:=by
 cases hq:R k with
 |true=>rfl
 |false=>
  obtain ⟨S,hS,he'⟩:=hrc k hk
  have hne:k≠i:=by rintro rfl; rw [hR.1] at hq; cases hq
  have hki:b k i=true:=by
   cases hb:b k i with
   |true=>rfl
   |false=>
    have:=ht.2 i k hi hk (Ne.symm hne)
    rw [hb] at this
    have:=hR.2.1 i k hi hk hR.1 this
    rw [hq] at this; cases this
  have h1:cnt n R+1≤cnt n S:=by
   rw [←x8d hk hq]
   exact z80 fun m hm hm'=>by
    rw [Bool.or_eq_true] at hm'
    rcases hm' with hm'|hm'
    ·exact hR.2.2 S hS.2.1 (hS.2.1 k i hk hi hS.1 hki) m hm hm'
    ·rw [of_decide_eq_true hm']; exact hS.1
  omega
theorem w8i (ht:y4e b n) (hrc:RC b n rc) {j:Nat} (hj:j<n):(lG rc n j).length≠2:=by
 intro h2
 obtain ⟨x,y,hxy⟩:∃ x y,lG rc n j=[x,y]:=by
  match hl:lG rc n j,h2 with
  |[x,y],_=>exact ⟨x,y,rfl⟩
 have hpw:=w43 rc n j
 rw [hxy] at hpw
 have hlt:x<y:=by simpa using hpw
 have key:∀ x y,x≠y→(∀ z,z∈lG rc n j↔z=x∨z=y)→b x y=true→False:=by
  intro x y hne hmem hb
  obtain ⟨hx,ex⟩:=z7v.1 ((hmem x).2 (.inl rfl))
  obtain ⟨hy,ey⟩:=z7v.1 ((hmem y).2 (.inr rfl))
  obtain ⟨S,hS,he⟩:=hrc y hy
  have hSx:=x2c ht hrc hy hx (by omega) hS he
  have hcl:z9g b n fun z=>decide (rc z<rc y)||decide (z=y):=by
   intro i k hi hk hi' hb'
   have hm:=x6k hrc hi hk hb'
   simp only [Bool.or_eq_true,decide_eq_true_eq] at hi'⊢
   rcases hi' with h|h
   ·exact .inl (by omega)
   ·subst h
    by_cases e:rc k=rc i
    ·rcases (hmem k).1 (z7v.2 ⟨hk,by omega⟩) with h|h
     ·subst h
      have:=ht.2 k i hk hi hne
      rw [hb,hb'] at this; cases this
     ·exact .inr h
    ·exact .inl (by omega)
  have:=hS.2.2 _ hcl (by simp) x hx hSx
  simp only [Bool.or_eq_true,decide_eq_true_eq] at this
  omega
 have hmem:∀ z,z∈lG rc n j↔z=x∨z=y:=fun z=>by rw [hxy]; simp
 cases hb:b x y with
 |true=>exact key x y (by omega) hmem hb
 |false=>
  have hx:=(z7v.1 ((hmem x).2 (.inl rfl))).1
  have hy:=(z7v.1 ((hmem y).2 (.inr rfl))).1
  have:=ht.2 y x hy hx (by omega)
  rw [hb] at this
  exact key y x (by omega) (fun z=>(hmem z).trans Or.comm) this
end
def z7b (n:Nat) (P:Nat→Bool) (v:Nat→Nat):List Int:=(List.range n).map fun i=>if P i=true then (v i:Int) else -1
theorem z7t (n:Nat) (P:Nat→Bool) (v:Nat→Nat):(z7b n P v).length=n:=by simp [z7b]
theorem z59 {n:Nat} (P:Nat→Bool) (v:Nat→Nat) {i:Nat} (hi:i<n):(z7b n P v)[i]?=some (if P i=true then (v i:Int) else -1):=by
 rw [z7b,List.getElem?_map,List.getElem?_range hi]; rfl
theorem z69 {n:Nat} {P Q:Nat→Bool} (v:Nat→Nat) (h:∀ i,i<n→P i=Q i):z7b n P v=z7b n Q v:=
 List.map_congr_left fun i hi=>by rw [h i (List.mem_range.1 hi)]
theorem w2h {n:Nat} (P:Nat→Bool) (v:Nat→Nat) {x:Nat} (hx:x<n):(z7b n P v).set x (v x:Int)=z7b n (fun i=>P i||decide (i=x)) v:=by
 apply List.ext_getElem?
 intro i
 by_cases hi:i<n
 ·rw [List.getElem?_set,z7t,z59 _ _ hi,z59 _ _ hi]
  by_cases e:x=i
  ·subst e; simp [hx]
  ·rw [if_neg e]; simp [Ne.symm e]
 ·rw [List.getElem?_eq_none (by rw [List.length_set,z7t]; omega),List.getElem?_eq_none (by rw [z7t]; omega)]
theorem x80 (n:Nat) (v:Nat→Nat):z7b n (fun _=>false) v=List.replicate n (-1):=by
 apply List.ext_getElem?
 intro i
 by_cases hi:i<n
 ·rw [z59 _ _ hi,List.getElem?_replicate,if_pos hi]; rfl
 ·rw [List.getElem?_eq_none (by rw [z7t]; omega),List.getElem?_eq_none (by simp; omega)]
end Go.Am
end
noncomputable section
namespace Go.Am
def ctr8:Ctr:=
 ⟨8,[.int .u8, .int .u64],[],[(.ret,⟨[(0, .bool)],[],1⟩)]⟩
def la8:List LA:=
 [⟨8,[false,true,false,true,true,true,true,true,true,true],0,⟨⟨[(5, .list 1),(6, .int .i64),(7, .vec 0 1),(9, .list 1),(11, .full 1 1),(12, .int .i64)],[.row [ci], .row [ci]],206⟩,[((AX.exit 0),⟨[(5, .list 1),(6, .int .i64),(7, .vec 0 1),(9, .list 1),(11, .full 1 1)],[.row [ci], .row [ci]],206⟩)]⟩⟩,
 ⟨8,[false,true,false,true,true,true,true,true,true,true,true],0,⟨⟨[(5, .list 1),(6, .int .i64),(7, .vec 0 1),(9, .list 1),(11, .full 1 1),(13, .int .i64)],[.row [ci], .row [ci]],206⟩,[(AX.ret,⟨[(4, .bool)],[],206⟩),((AX.exit 2),⟨[(5, .list 1),(6, .int .i64),(7, .vec 0 1),(11, .full 1 1)],[.row [ci], .row [ci]],206⟩)]⟩⟩,
 ⟨8,[false,true,true,false,false,true,false,false,true,false,true,true,true,true,true,true,true,true],0,⟨⟨[(5, .list 1),(6, .int .i64),(7, .vec 0 1),(9, .list 1),(11, .full 1 1),(13, .int .i64),(14, .int .i64)],[.row [ci], .row [ci]],206⟩,[(AX.ret,⟨[(4, .bool)],[],206⟩),((AX.exit 4),⟨[(5, .list 1),(6, .int .i64),(7, .vec 0 1),(9, .list 1),(11, .full 1 1),(13, .int .i64)],[.row [ci], .row [ci]],206⟩)]⟩⟩,
 ⟨8,[false,true,false,true,true,true,true,true,true,true,true,true],0,⟨⟨[(5, .list 1),(6, .int .i64),(7, .vec 0 1),(11, .full 1 1),(15, .int .i64)],[.row [ci], .row [ci]],206⟩,[(AX.ret,⟨[(4, .bool)],[],206⟩),((AX.exit 6),⟨[],[],206⟩)]⟩⟩,
 ⟨8,[false,true,false,true,false,false,true,false,false,true,false,true,true,true,true,true,true,true,true,true],0,⟨⟨[(5, .list 1),(6, .int .i64),(7, .vec 0 1),(11, .full 1 1),(15, .int .i64),(16, .full 2 1),(17, .int .i64)],[.row [ci], .row [ci], .row [ci]],206⟩,[(AX.ret,⟨[(4, .bool)],[],206⟩),((AX.exit 8),⟨[(5, .list 1),(6, .int .i64),(7, .vec 0 1),(11, .full 1 1),(15, .int .i64)],[.row [ci], .row [ci]],206⟩)]⟩⟩]
def ja8:List JA:=
 [⟨8,[false,false,false,false,true,false,false,true,false,true,true,true,true,true,true,true,true],0,[(AX.normal,⟨[(5, .list 1),(6, .int .i64),(7, .vec 0 1),(9, .list 1),(11, .full 1 1),(13, .int .i64),(100, .bool)],[.row [ci], .row [ci]],206⟩)]⟩,
 ⟨8,[false,true,false,false,true,false,true,true,true,true,true,true,true,true,true],0,[(AX.ret,⟨[(4, .bool)],[],206⟩),(AX.normal,⟨[(5, .list 1),(6, .int .i64),(7, .vec 0 1),(11, .full 1 1),(15, .int .i64)],[.row [ci], .row [ci]],206⟩)]⟩,
 ⟨8,[false,true,false,false,true,false,true,true,true,true,true,true,true,true],0,[(AX.ret,⟨[(4, .bool)],[],206⟩),(AX.normal,⟨[(5, .list 1),(6, .int .i64),(7, .vec 0 1),(9, .list 1),(11, .full 1 1),(13, .int .i64)],[.row [ci], .row [ci]],206⟩)]⟩,
 ⟨8,[false,false,true,true,true,true,true],0,[(AX.normal,⟨[(5, .list 1),(6, .int .i64),(7, .vec 0 1),(9, .list 1),(61, .bool)],[.row [ci]],206⟩)]⟩,
 ⟨8,[false,true,false,false,true,false,true,false,false,true,false,false,true,false,true,true,true,true,true,true,true,true,true],0,[(AX.ret,⟨[(4, .bool)],[],206⟩),(AX.normal,⟨[(5, .list 1),(6, .int .i64),(7, .vec 0 1),(11, .full 1 1),(15, .int .i64),(16, .full 2 1),(17, .int .i64)],[.row [ci], .row [ci], .row [ci]],206⟩)]⟩]
def gam8:List CF:=
 [⟨w9w,G14⟩,⟨w1i,G40⟩,⟨w9o,G39⟩,⟨w1j,G38⟩,⟨w6f,G24⟩,⟨w6e,G25⟩,⟨w6b,G37⟩,⟨w6d,G26⟩,⟨y0w,F34⟩]
def an8:Anns:=
 ⟨gam8,ja8,[]⟩
def w6t (p:Prim):(LD×(LD×(LD×(LD×T4))))→Option ((LD×(LD×(LD×(LD×T4))))⊕((Bool×Unit)⊕(LD×(LD×(LD×(Int×(Int×Unit))))))):=
 fun a=>opt.run _ (
 opt.ask _ (p.cmp .lss a.2.2.2.2.2.2.1 a.2.2.2.2.1) (
 opt.alt T0 ((LD×(LD×(LD×(LD×T4))))) _ (
 opt.run (((Bool×Unit)⊕(LD×(LD×(LD×(LD×(Int×(Int×(Int×Unit))))))))) (
 opt.need _ (bif (p.cmp .geq a.2.2.2.2.2.2.1 (0:Int)) then (p.cmp .lss a.2.2.2.2.2.2.1 (p.ofNat (p.len a.2.1))) else Bool.false)<|
 opt.need _ (p.rowOk a.2.1 (p.add 0 (p.nat a.2.2.2.2.2.2.1)) [ci])<|
 opt.ask _ (p.cmp .lss (p.rdI a.2.1 (p.add 0 (p.nat a.2.2.2.2.2.2.1)) 0) (0:Int)) (
 opt.ret _ (Sum.inl (Bool.false,()))) (
 opt.need _ (bif (p.cmp .geq a.2.2.2.2.2.1 (0:Int)) then (p.cmp .lss a.2.2.2.2.2.1 (p.ofNat (p.len a.2.1))) else Bool.false)<|
 opt.need _ (p.rowOk a.2.1 (p.add 0 (p.nat a.2.2.2.2.2.1)) [ci])<|
 opt.need _ (bif (p.cmp .geq a.2.2.2.2.2.2.1 (0:Int)) then (p.cmp .lss a.2.2.2.2.2.2.1 (p.ofNat (p.len a.2.1))) else Bool.false)<|
 opt.need _ (p.rowOk a.2.1 (p.add 0 (p.nat a.2.2.2.2.2.2.1)) [ci])<|
 opt.ask _ (p.cmp .lss (p.rdI a.2.1 (p.add 0 (p.nat a.2.2.2.2.2.1)) 0) (p.rdI a.2.1 (p.add 0 (p.nat a.2.2.2.2.2.2.1)) 0)) (
 opt.bnd T0 _ (G40 p (a.2.2.2.1,(a.2.2.2.2.2.1,(a.2.2.2.2.2.2.1,())))) fun b=>
 opt.ask _ (bif b.1 then Bool.false else Bool.true) (
 opt.ret _ (Sum.inl (Bool.false,()))) (
 opt.need _ (bif (p.cmp .geq a.2.2.2.2.2.1 (0:Int)) then (p.cmp .lss a.2.2.2.2.2.1 (p.ofNat (p.len a.2.1))) else Bool.false)<|
 opt.need _ (p.rowOk a.2.1 (p.add 0 (p.nat a.2.2.2.2.2.1)) [ci])<|
 opt.need _ (bif (p.cmp .geq a.2.2.2.2.2.2.1 (0:Int)) then (p.cmp .lss a.2.2.2.2.2.2.1 (p.ofNat (p.len a.2.1))) else Bool.false)<|
 opt.need _ (p.rowOk a.2.1 (p.add 0 (p.nat a.2.2.2.2.2.2.1)) [ci])<|
 opt.ask _ (p.cmp .eql (p.rdI a.2.1 (p.add 0 (p.nat a.2.2.2.2.2.1)) 0) (p.rdI a.2.1 (p.add 0 (p.nat a.2.2.2.2.2.2.1)) 0)) (
 opt.need _ (bif (p.cmp .geq a.2.2.2.2.2.2.1 (0:Int)) then (p.cmp .lss a.2.2.2.2.2.2.1 (p.ofNat (p.len a.2.2.1))) else Bool.false)<|
 opt.need _ (p.rowOk a.2.2.1 (p.add 0 (p.nat a.2.2.2.2.2.2.1)) [ci])<|
 opt.ask _ (p.cmp .eql (p.rdI a.2.2.1 (p.add 0 (p.nat a.2.2.2.2.2.2.1)) 0) (0:Int)) (
 opt.ret _ (Sum.inl (Bool.false,()))) (
 opt.need _ (p.eqN 0 0)<|
 opt.need _ (p.eqN (p.len a.1) (p.len a.1))<|
 opt.need _ (p.eqN 0 0)<|
 opt.need _ (p.eqN (p.len a.2.1) (p.len a.2.1))<|
 opt.need _ (p.eqN (p.len a.2.1) (p.len a.2.1))<|
 opt.need _ (p.eqN 0 0)<|
 opt.need _ (p.eqN (p.len a.2.2.1) (p.len a.2.2.1))<|
 opt.need _ (p.eqN (p.len a.2.2.1) (p.len a.2.2.1))<|
 opt.ret _ (Sum.inr (a.1,(a.2.1,(a.2.2.1,(a.2.2.2.1,(a.2.2.2.2.1,(a.2.2.2.2.2.1,(a.2.2.2.2.2.2.1,())))))))))) (
 opt.need _ (p.eqN 0 0)<|
 opt.need _ (p.eqN (p.len a.1) (p.len a.1))<|
 opt.need _ (p.eqN 0 0)<|
 opt.need _ (p.eqN (p.len a.2.1) (p.len a.2.1))<|
 opt.need _ (p.eqN (p.len a.2.1) (p.len a.2.1))<|
 opt.need _ (p.eqN 0 0)<|
 opt.need _ (p.eqN (p.len a.2.2.1) (p.len a.2.2.1))<|
 opt.need _ (p.eqN (p.len a.2.2.1) (p.len a.2.2.1))<|
 opt.ret _ (Sum.inr (a.1,(a.2.1,(a.2.2.1,(a.2.2.2.1,(a.2.2.2.2.1,(a.2.2.2.2.2.1,(a.2.2.2.2.2.2.1,()))))))))))) (
 opt.need _ (bif (p.cmp .geq a.2.2.2.2.2.1 (0:Int)) then (p.cmp .lss a.2.2.2.2.2.1 (p.ofNat (p.len a.2.1))) else Bool.false)<|
 opt.need _ (p.rowOk a.2.1 (p.add 0 (p.nat a.2.2.2.2.2.1)) [ci])<|
 opt.need _ (bif (p.cmp .geq a.2.2.2.2.2.2.1 (0:Int)) then (p.cmp .lss a.2.2.2.2.2.2.1 (p.ofNat (p.len a.2.1))) else Bool.false)<|
 opt.need _ (p.rowOk a.2.1 (p.add 0 (p.nat a.2.2.2.2.2.2.1)) [ci])<|
 opt.ask _ (p.cmp .eql (p.rdI a.2.1 (p.add 0 (p.nat a.2.2.2.2.2.1)) 0) (p.rdI a.2.1 (p.add 0 (p.nat a.2.2.2.2.2.2.1)) 0)) (
 opt.need _ (bif (p.cmp .geq a.2.2.2.2.2.2.1 (0:Int)) then (p.cmp .lss a.2.2.2.2.2.2.1 (p.ofNat (p.len a.2.2.1))) else Bool.false)<|
 opt.need _ (p.rowOk a.2.2.1 (p.add 0 (p.nat a.2.2.2.2.2.2.1)) [ci])<|
 opt.ask _ (p.cmp .eql (p.rdI a.2.2.1 (p.add 0 (p.nat a.2.2.2.2.2.2.1)) 0) (0:Int)) (
 opt.ret _ (Sum.inl (Bool.false,()))) (
 opt.need _ (p.eqN 0 0)<|
 opt.need _ (p.eqN (p.len a.1) (p.len a.1))<|
 opt.need _ (p.eqN 0 0)<|
 opt.need _ (p.eqN (p.len a.2.1) (p.len a.2.1))<|
 opt.need _ (p.eqN (p.len a.2.1) (p.len a.2.1))<|
 opt.need _ (p.eqN 0 0)<|
 opt.need _ (p.eqN (p.len a.2.2.1) (p.len a.2.2.1))<|
 opt.need _ (p.eqN (p.len a.2.2.1) (p.len a.2.2.1))<|
 opt.ret _ (Sum.inr (a.1,(a.2.1,(a.2.2.1,(a.2.2.2.1,(a.2.2.2.2.1,(a.2.2.2.2.2.1,(a.2.2.2.2.2.2.1,())))))))))) (
 opt.need _ (p.eqN 0 0)<|
 opt.need _ (p.eqN (p.len a.1) (p.len a.1))<|
 opt.need _ (p.eqN 0 0)<|
 opt.need _ (p.eqN (p.len a.2.1) (p.len a.2.1))<|
 opt.need _ (p.eqN (p.len a.2.1) (p.len a.2.1))<|
 opt.need _ (p.eqN 0 0)<|
 opt.need _ (p.eqN (p.len a.2.2.1) (p.len a.2.2.1))<|
 opt.need _ (p.eqN (p.len a.2.2.1) (p.len a.2.2.1))<|
 opt.ret _ (Sum.inr (a.1,(a.2.1,(a.2.2.1,(a.2.2.2.1,(a.2.2.2.2.1,(a.2.2.2.2.2.1,(a.2.2.2.2.2.2.1,()))))))))))))) (fun c=>
 opt.ret _ (Sum.inr (Sum.inl (c.1,())))) (fun d=>
 opt.bnd ((LD×(LD×(LD×(LD×T4))))) _ (some d) fun e=>
 opt.need _ (p.eqN 0 0)<|
 opt.need _ (p.eqN (p.len e.1) (p.len e.1))<|
 opt.need _ (p.eqN 0 0)<|
 opt.need _ (p.eqN (p.len e.2.1) (p.len e.2.1))<|
 opt.need _ (p.eqN (p.len e.2.1) (p.len e.2.1))<|
 opt.need _ (p.eqN 0 0)<|
 opt.need _ (p.eqN (p.len e.2.2.1) (p.len e.2.2.1))<|
 opt.need _ (p.eqN (p.len e.2.2.1) (p.len e.2.2.1))<|
 opt.ret _ (Sum.inl (e.1,(e.2.1,(e.2.2.1,(e.2.2.2.1,(e.2.2.2.2.1,(e.2.2.2.2.2.1,((p.ar .add .i64 e.2.2.2.2.2.2.1 (1:Int)),())))))))))) (
 opt.need _ (p.eqN 0 0)<|
 opt.need _ (p.eqN (p.len a.1) (p.len a.1))<|
 opt.need _ (p.eqN 0 0)<|
 opt.need _ (p.eqN (p.len a.2.1) (p.len a.2.1))<|
 opt.need _ (p.eqN (p.len a.2.1) (p.len a.2.1))<|
 opt.ret _ (Sum.inr (Sum.inr (a.1,(a.2.1,(a.2.2.2.1,(a.2.2.2.2.1,(a.2.2.2.2.2.1,())))))))))
def w7a (p:Prim):(LD×(LD×(LD×T3)))→Option ((LD×(LD×(LD×T3)))⊕T12):=
 fun a=>opt.run _ (
 opt.ask _ (p.cmp .lss a.2.2.2.2.1 a.2.2.2.1) (
 opt.alt T0 ((LD×(LD×(LD×T3)))) _ (
 opt.run (((Bool×Unit)⊕(LD×(LD×(LD×(Int×(Int×Unit))))))) (
 opt.bnd ((LD×Unit)) _ (G39 p (a.2.2.1,(a.2.2.2.2.1,()))) fun b=>
 opt.need _ (p.eqN 0 0)<|
 opt.need _ (p.eqN (p.len a.1) (p.len a.1))<|
 opt.need _ (p.eqN 0 0)<|
 opt.need _ (p.eqN (p.len a.2.1) (p.len a.2.1))<|
 opt.need _ (p.eqN (p.len a.2.1) (p.len a.2.1))<|
 opt.need _ (p.eqN 0 0)<|
 opt.need _ (p.eqN (p.len b.1) (p.len b.1))<|
 opt.need _ (p.eqN (p.len b.1) (p.len b.1))<|
 opt.alt T0 ((LD×(LD×(LD×T3)))) _ (
 z30 (w6t p) (a.1,(a.2.1,(b.1,(a.2.2.1,(a.2.2.2.1,(a.2.2.2.2.1,((0:Int),())))))))) (fun c=>
 opt.ret _ (Sum.inl (c.1,()))) (fun d=>
 opt.bnd ((LD×(LD×(LD×T3)))) _ (some d) fun e=>
 opt.ask _ (p.cmp .gtr e.2.2.2.2.1 (0:Int)) (
 opt.need _ (bif (p.cmp .geq e.2.2.2.2.1 (0:Int)) then (p.cmp .lss e.2.2.2.2.1 (p.ofNat (p.len e.1))) else Bool.false)<|
 opt.need _ (p.rowOk e.1 (p.add 0 (p.nat e.2.2.2.2.1)) [ci])<|
 opt.need _ (bif (p.cmp .geq (p.rdI e.1 (p.add 0 (p.nat e.2.2.2.2.1)) 0) (0:Int)) then (p.cmp .lss (p.rdI e.1 (p.add 0 (p.nat e.2.2.2.2.1)) 0) (p.ofNat (p.len e.2.1))) else Bool.false)<|
 opt.need _ (p.rowOk e.2.1 (p.add 0 (p.nat (p.rdI e.1 (p.add 0 (p.nat e.2.2.2.2.1)) 0))) [ci])<|
 opt.need _ (bif (p.cmp .geq (p.ar .sub .i64 e.2.2.2.2.1 (1:Int)) (0:Int)) then (p.cmp .lss (p.ar .sub .i64 e.2.2.2.2.1 (1:Int)) (p.ofNat (p.len e.1))) else Bool.false)<|
 opt.need _ (p.rowOk e.1 (p.add 0 (p.nat (p.ar .sub .i64 e.2.2.2.2.1 (1:Int)))) [ci])<|
 opt.need _ (bif (p.cmp .geq (p.rdI e.1 (p.add 0 (p.nat (p.ar .sub .i64 e.2.2.2.2.1 (1:Int)))) 0) (0:Int)) then (p.cmp .lss (p.rdI e.1 (p.add 0 (p.nat (p.ar .sub .i64 e.2.2.2.2.1 (1:Int)))) 0) (p.ofNat (p.len e.2.1))) else Bool.false)<|
 opt.need _ (p.rowOk e.2.1 (p.add 0 (p.nat (p.rdI e.1 (p.add 0 (p.nat (p.ar .sub .i64 e.2.2.2.2.1 (1:Int)))) 0))) [ci])<|
 opt.ask _ (p.cmp .lss (p.rdI e.2.1 (p.add 0 (p.nat (p.rdI e.1 (p.add 0 (p.nat e.2.2.2.2.1)) 0))) 0) (p.rdI e.2.1 (p.add 0 (p.nat (p.rdI e.1 (p.add 0 (p.nat (p.ar .sub .i64 e.2.2.2.2.1 (1:Int)))) 0))) 0)) (
 opt.ret _ (Sum.inl (Bool.false,()))) (
 opt.need _ (p.eqN 0 0)<|
 opt.need _ (p.eqN (p.len e.1) (p.len e.1))<|
 opt.need _ (p.eqN 0 0)<|
 opt.need _ (p.eqN (p.len e.2.1) (p.len e.2.1))<|
 opt.need _ (p.eqN (p.len e.2.1) (p.len e.2.1))<|
 opt.ret _ (Sum.inr (e.1,(e.2.1,(e.2.2.1,(e.2.2.2.1,(e.2.2.2.2.1,())))))))) (
 opt.need _ (p.eqN 0 0)<|
 opt.need _ (p.eqN (p.len e.1) (p.len e.1))<|
 opt.need _ (p.eqN 0 0)<|
 opt.need _ (p.eqN (p.len e.2.1) (p.len e.2.1))<|
 opt.need _ (p.eqN (p.len e.2.1) (p.len e.2.1))<|
 opt.ret _ (Sum.inr (e.1,(e.2.1,(e.2.2.1,(e.2.2.2.1,(e.2.2.2.2.1,())))))))))) (fun f=>
 opt.ret _ (Sum.inr (Sum.inl (f.1,())))) (fun g=>
 opt.bnd ((LD×(LD×(LD×T3)))) _ (some g) fun h=>
 opt.need _ (p.eqN 0 0)<|
 opt.need _ (p.eqN (p.len h.1) (p.len h.1))<|
 opt.need _ (p.eqN 0 0)<|
 opt.need _ (p.eqN (p.len h.2.1) (p.len h.2.1))<|
 opt.need _ (p.eqN (p.len h.2.1) (p.len h.2.1))<|
 opt.ret _ (Sum.inl (h.1,(h.2.1,(h.2.2.1,(h.2.2.2.1,((p.ar .add .i64 h.2.2.2.2.1 (1:Int)),())))))))) (
 opt.ret _ (Sum.inr (Sum.inr ()))))
def v0c (p:Prim):(LD×(LD×(LD×T24)))→Option ((LD×(LD×(LD×T24)))⊕((Bool×Unit)⊕(LD×(LD×(LD×(Int×(LD×(Int×Unit)))))))):=
 fun a=>opt.run _ (
 opt.need _ (p.rowOk a.2.2.2.2.1 (p.nat a.2.2.2.2.2.1) [(CK.list 1)])<|
 opt.need _ (p.cmp .geq a.2.2.2.2.2.1 (0:Int))<|
 opt.ask _ (p.cmp .lss a.2.2.2.2.2.2.1 (p.ofNat (p.len (p.rdL a.2.2.2.2.1 (p.nat a.2.2.2.2.2.1) 0)))) (
 opt.need _ (p.rowOk a.2.2.2.2.1 (p.nat a.2.2.2.2.2.1) [(CK.list 1)])<|
 opt.need _ (p.cmp .geq a.2.2.2.2.2.1 (0:Int))<|
 opt.need _ (p.rowOk (p.rdL a.2.2.2.2.1 (p.nat a.2.2.2.2.2.1) 0) (p.nat a.2.2.2.2.2.2.1) [ci])<|
 opt.need _ (p.cmp .geq a.2.2.2.2.2.2.1 (0:Int))<|
 opt.need _ (bif (p.cmp .geq (p.rdI (p.rdL a.2.2.2.2.1 (p.nat a.2.2.2.2.2.1) 0) (p.nat a.2.2.2.2.2.2.1) 0) (0:Int)) then (p.cmp .lss (p.rdI (p.rdL a.2.2.2.2.1 (p.nat a.2.2.2.2.2.1) 0) (p.nat a.2.2.2.2.2.2.1) 0) (p.ofNat (p.len a.2.1))) else Bool.false)<|
 opt.need _ (p.rowOk a.2.1 (p.add 0 (p.nat (p.rdI (p.rdL a.2.2.2.2.1 (p.nat a.2.2.2.2.2.1) 0) (p.nat a.2.2.2.2.2.2.1) 0))) [ci])<|
 opt.ask _ (p.cmp .geq (p.rdI a.2.1 (p.add 0 (p.nat (p.rdI (p.rdL a.2.2.2.2.1 (p.nat a.2.2.2.2.2.1) 0) (p.nat a.2.2.2.2.2.2.1) 0))) 0) (0:Int)) (
 opt.ret _ (Sum.inr (Sum.inl (Bool.false,())))) (
 opt.need _ (p.rowOk a.2.2.2.2.1 (p.nat a.2.2.2.2.2.1) [(CK.list 1)])<|
 opt.need _ (p.cmp .geq a.2.2.2.2.2.1 (0:Int))<|
 opt.need _ (p.rowOk (p.rdL a.2.2.2.2.1 (p.nat a.2.2.2.2.2.1) 0) (p.nat a.2.2.2.2.2.2.1) [ci])<|
 opt.need _ (p.cmp .geq a.2.2.2.2.2.2.1 (0:Int))<|
 opt.need _ (bif (p.cmp .geq (p.rdI (p.rdL a.2.2.2.2.1 (p.nat a.2.2.2.2.2.1) 0) (p.nat a.2.2.2.2.2.2.1) 0) (0:Int)) then (p.cmp .lss (p.rdI (p.rdL a.2.2.2.2.1 (p.nat a.2.2.2.2.2.1) 0) (p.nat a.2.2.2.2.2.2.1) 0) (p.ofNat (p.len a.2.1))) else Bool.false)<|
 opt.need _ (p.rowOk a.2.1 (p.add 0 (p.nat (p.rdI (p.rdL a.2.2.2.2.1 (p.nat a.2.2.2.2.2.1) 0) (p.nat a.2.2.2.2.2.2.1) 0))) [ci])<|
 opt.need _ (p.eqN 0 0)<|
 opt.need _ (p.eqN (p.len a.1) (p.len a.1))<|
 opt.need _ (p.eqN 0 0)<|
 opt.need _ (p.eqN (p.len a.2.1) (p.len (p.set a.2.1 (p.add 0 (p.nat (p.rdI (p.rdL a.2.2.2.2.1 (p.nat a.2.2.2.2.2.1) 0) (p.nat a.2.2.2.2.2.2.1) 0))) [(D.int .i64 a.2.2.2.2.2.1)])))<|
 opt.need _ (p.eqN (p.len a.2.1) (p.len (p.set a.2.1 (p.add 0 (p.nat (p.rdI (p.rdL a.2.2.2.2.1 (p.nat a.2.2.2.2.2.1) 0) (p.nat a.2.2.2.2.2.2.1) 0))) [(D.int .i64 a.2.2.2.2.2.1)])))<|
 opt.ret _ (Sum.inl (a.1,((p.set a.2.1 (p.add 0 (p.nat (p.rdI (p.rdL a.2.2.2.2.1 (p.nat a.2.2.2.2.2.1) 0) (p.nat a.2.2.2.2.2.2.1) 0))) [(D.int .i64 a.2.2.2.2.2.1)]),(a.2.2.1,(a.2.2.2.1,(a.2.2.2.2.1,(a.2.2.2.2.2.1,((p.ar .add .i64 a.2.2.2.2.2.2.1 (1:Int)),())))))))))) (
 opt.need _ (p.eqN 0 0)<|
 opt.need _ (p.eqN (p.len a.1) (p.len a.1))<|
 opt.need _ (p.eqN 0 0)<|
 opt.need _ (p.eqN (p.len a.2.1) (p.len a.2.1))<|
 opt.need _ (p.eqN (p.len a.2.1) (p.len a.2.1))<|
 opt.ret _ (Sum.inr (Sum.inr (a.1,(a.2.1,(a.2.2.1,(a.2.2.2.1,(a.2.2.2.2.1,(a.2.2.2.2.2.1,()))))))))))
def v0d (p:Prim):(LD×(LD×(LD×T11)))→Option ((LD×(LD×(LD×T11)))⊕((Bool×Unit)⊕(LD×(LD×(LD×(Int×Unit)))))):=
 fun a=>opt.run _ (
 opt.ask _ (p.cmp .lss a.2.2.2.2.2.1 (p.ofNat (p.len a.2.2.2.2.1))) (
 opt.alt T0 ((LD×(LD×(LD×T11)))) _ (
 opt.run (((Bool×Unit)⊕(LD×(LD×(LD×(Int×(LD×(Int×Unit)))))))) (
 opt.bnd ((LD×(LD×(LD×T39)))) _ (
 opt.run ((LD×(LD×(LD×T39)))) (
 opt.need _ (p.rowOk a.2.2.2.2.1 (p.nat a.2.2.2.2.2.1) [(CK.list 1)])<|
 opt.need _ (p.cmp .geq a.2.2.2.2.2.1 (0:Int))<|
 opt.ask _ (p.cmp .eql (p.ofNat (p.len (p.rdL a.2.2.2.2.1 (p.nat a.2.2.2.2.2.1) 0))) (0:Int)) (
 opt.need _ (p.eqN 0 0)<|
 opt.need _ (p.eqN (p.len a.1) (p.len a.1))<|
 opt.need _ (p.eqN 0 0)<|
 opt.need _ (p.eqN (p.len a.2.1) (p.len a.2.1))<|
 opt.need _ (p.eqN (p.len a.2.1) (p.len a.2.1))<|
 opt.ret _ (a.1,(a.2.1,(a.2.2.1,(a.2.2.2.1,(a.2.2.2.2.1,(a.2.2.2.2.2.1,(Bool.true,())))))))) (
 opt.need _ (p.rowOk a.2.2.2.2.1 (p.nat a.2.2.2.2.2.1) [(CK.list 1)])<|
 opt.need _ (p.cmp .geq a.2.2.2.2.2.1 (0:Int))<|
 opt.ask _ (p.cmp .eql (p.ofNat (p.len (p.rdL a.2.2.2.2.1 (p.nat a.2.2.2.2.2.1) 0))) (2:Int)) (
 opt.need _ (p.eqN 0 0)<|
 opt.need _ (p.eqN (p.len a.1) (p.len a.1))<|
 opt.need _ (p.eqN 0 0)<|
 opt.need _ (p.eqN (p.len a.2.1) (p.len a.2.1))<|
 opt.need _ (p.eqN (p.len a.2.1) (p.len a.2.1))<|
 opt.ret _ (a.1,(a.2.1,(a.2.2.1,(a.2.2.2.1,(a.2.2.2.2.1,(a.2.2.2.2.2.1,(Bool.true,())))))))) (
 opt.need _ (p.rowOk a.2.2.2.2.1 (p.nat a.2.2.2.2.2.1) [(CK.list 1)])<|
 opt.need _ (p.cmp .geq a.2.2.2.2.2.1 (0:Int))<|
 opt.bnd T0 _ (G38 p ((p.rdL a.2.2.2.2.1 (p.nat a.2.2.2.2.2.1) 0),(a.2.2.2.1,()))) fun b=>
 opt.need _ (p.eqN 0 0)<|
 opt.need _ (p.eqN (p.len a.1) (p.len a.1))<|
 opt.need _ (p.eqN 0 0)<|
 opt.need _ (p.eqN (p.len a.2.1) (p.len a.2.1))<|
 opt.need _ (p.eqN (p.len a.2.1) (p.len a.2.1))<|
 opt.ret _ (a.1,(a.2.1,(a.2.2.1,(a.2.2.2.1,(a.2.2.2.2.1,(a.2.2.2.2.2.1,((bif b.1 then Bool.false else Bool.true),()))))))))))) fun c=>
 opt.ask _ c.2.2.2.2.2.2.1 (
 opt.ret _ (Sum.inl (Bool.false,()))) (
 opt.need _ (p.eqN 0 0)<|
 opt.need _ (p.eqN (p.len c.1) (p.len c.1))<|
 opt.need _ (p.eqN 0 0)<|
 opt.need _ (p.eqN (p.len c.2.1) (p.len c.2.1))<|
 opt.need _ (p.eqN (p.len c.2.1) (p.len c.2.1))<|
 opt.alt T0 ((LD×(LD×(LD×T11)))) _ (
 z30 (v0c p) (c.1,(c.2.1,(c.2.2.1,(c.2.2.2.1,(c.2.2.2.2.1,(c.2.2.2.2.2.1,((0:Int),())))))))) (fun d=>
 opt.ret _ (Sum.inl (d.1,()))) (fun e=>
 opt.bnd ((LD×(LD×(LD×T11)))) _ (some e) fun f=>
 opt.need _ (p.eqN 0 0)<|
 opt.need _ (p.eqN (p.len f.1) (p.len f.1))<|
 opt.need _ (p.eqN 0 0)<|
 opt.need _ (p.eqN (p.len f.2.1) (p.len f.2.1))<|
 opt.need _ (p.eqN (p.len f.2.1) (p.len f.2.1))<|
 opt.ret _ (Sum.inr (f.1,(f.2.1,(f.2.2.1,(f.2.2.2.1,(f.2.2.2.2.1,(f.2.2.2.2.2.1,()))))))))))) (fun g=>
 opt.ret _ (Sum.inr (Sum.inl (g.1,())))) (fun h=>
 opt.bnd ((LD×(LD×(LD×T11)))) _ (some h) fun i=>
 opt.need _ (p.eqN 0 0)<|
 opt.need _ (p.eqN (p.len i.1) (p.len i.1))<|
 opt.need _ (p.eqN 0 0)<|
 opt.need _ (p.eqN (p.len i.2.1) (p.len i.2.1))<|
 opt.need _ (p.eqN (p.len i.2.1) (p.len i.2.1))<|
 opt.ret _ (Sum.inl (i.1,(i.2.1,(i.2.2.1,(i.2.2.2.1,(i.2.2.2.2.1,((p.ar .add .i64 i.2.2.2.2.2.1 (1:Int)),()))))))))) (
 opt.need _ (p.eqN 0 0)<|
 opt.need _ (p.eqN (p.len a.1) (p.len a.1))<|
 opt.need _ (p.eqN 0 0)<|
 opt.need _ (p.eqN (p.len a.2.1) (p.len a.2.1))<|
 opt.need _ (p.eqN (p.len a.2.1) (p.len a.2.1))<|
 opt.ret _ (Sum.inr (Sum.inr (a.1,(a.2.1,(a.2.2.1,(a.2.2.2.1,()))))))))
def v0e (p:Prim):(LD×(LD×(LD×T11)))→Option ((LD×(LD×(LD×T11)))⊕(LD×(LD×(LD×(Int×(LD×Unit)))))):=
 fun a=>opt.run _ (
 opt.ask _ (p.cmp .lss a.2.2.2.2.2.1 a.2.2.2.1) (
 opt.need _ (bif (p.cmp .geq a.2.2.2.2.2.1 (0:Int)) then (p.cmp .lss a.2.2.2.2.2.1 (p.ofNat (p.len a.2.1))) else Bool.false)<|
 opt.need _ (p.rowOk a.2.1 (p.add 0 (p.nat a.2.2.2.2.2.1)) [ci])<|
 opt.need _ (p.eqN 0 0)<|
 opt.need _ (p.eqN (p.len a.1) (p.len a.1))<|
 opt.need _ (p.eqN 0 0)<|
 opt.need _ (p.eqN (p.len a.2.1) (p.len (p.set a.2.1 (p.add 0 (p.nat a.2.2.2.2.2.1)) [(D.int .i64 (-1:Int))])))<|
 opt.need _ (p.eqN (p.len a.2.1) (p.len (p.set a.2.1 (p.add 0 (p.nat a.2.2.2.2.2.1)) [(D.int .i64 (-1:Int))])))<|
 opt.ret _ (Sum.inl (a.1,((p.set a.2.1 (p.add 0 (p.nat a.2.2.2.2.2.1)) [(D.int .i64 (-1:Int))]),(a.2.2.1,(a.2.2.2.1,(a.2.2.2.2.1,((p.ar .add .i64 a.2.2.2.2.2.1 (1:Int)),())))))))) (
 opt.need _ (p.eqN 0 0)<|
 opt.need _ (p.eqN (p.len a.1) (p.len a.1))<|
 opt.need _ (p.eqN 0 0)<|
 opt.need _ (p.eqN (p.len a.2.1) (p.len a.2.1))<|
 opt.need _ (p.eqN (p.len a.2.1) (p.len a.2.1))<|
 opt.ret _ (Sum.inr (a.1,(a.2.1,(a.2.2.1,(a.2.2.2.1,(a.2.2.2.2.1,()))))))))
def G8:(p:Prim)→T3→Option T0:=
 fun p x=>
 opt.bnd ((LD×Unit)) _ (G34 p (x.1,(x.2.1,()))) fun a=>
 opt.bnd ((LD×T1)) _ (G26 p (a.1,())) fun b=>
 opt.bnd ((LD×T1)) _ (G37 p (a.1,())) fun c=>
 opt.bnd ((LD×(LD×(Int×(LD×(Bool×Unit)))))) _ (
 opt.run ((LD×(LD×(Int×(LD×(Bool×Unit)))))) (
 opt.ask _ (p.cmp .neq b.2.1 (0:Int)) (
 opt.need _ (p.eqN 0 0)<|
 opt.need _ (p.eqN (p.len b.1) (p.len b.1))<|
 opt.ret _ (b.1,(a.1,((p.ofNat (p.len a.1)),(c.1,(Bool.true,())))))) (
 opt.ask _ (p.cmp .neq c.2.1 (0:Int)) (
 opt.need _ (p.eqN 0 0)<|
 opt.need _ (p.eqN (p.len b.1) (p.len b.1))<|
 opt.ret _ (b.1,(a.1,((p.ofNat (p.len a.1)),(c.1,(Bool.true,())))))) (
 opt.need _ (p.and Bool.true (p.and (p.leN (p.add 0 (p.len b.1)) (p.len b.1)) Bool.true))<|
 opt.bnd T2 _ (G25 p (a.1,((p.cut b.1 0 (p.len b.1)),()))) fun d=>
 opt.ask _ (p.cmp .neq d.1 (0:Int)) (
 opt.need _ (p.eqN 0 0)<|
 opt.need _ (p.eqN (p.len b.1) (p.len b.1))<|
 opt.ret _ (b.1,(a.1,((p.ofNat (p.len a.1)),(c.1,(Bool.true,())))))) (
 opt.need _ (p.and Bool.true (p.and (p.leN (p.add 0 (p.len b.1)) (p.len b.1)) Bool.true))<|
 opt.bnd T2 _ (G24 p (a.1,((p.cut b.1 0 (p.len b.1)),()))) fun e=>
 opt.ask _ (p.cmp .neq e.1 (0:Int)) (
 opt.need _ (p.eqN 0 0)<|
 opt.need _ (p.eqN (p.len b.1) (p.len b.1))<|
 opt.ret _ (b.1,(a.1,((p.ofNat (p.len a.1)),(c.1,(Bool.true,())))))) (
 opt.ask _ (p.cmp .lss (p.ofNat (p.len c.1)) (1:Int)) (
 opt.need _ (p.eqN 0 0)<|
 opt.need _ (p.eqN (p.len b.1) (p.len b.1))<|
 opt.ret _ (b.1,(a.1,((p.ofNat (p.len a.1)),(c.1,(Bool.true,())))))) (
 opt.need _ (p.eqN 0 0)<|
 opt.need _ (p.eqN (p.len b.1) (p.len b.1))<|
 opt.ret _ (b.1,(a.1,((p.ofNat (p.len a.1)),(c.1,((p.cmp .gtr (p.ofNat (p.len c.1)) (p.ofNat (p.len a.1))),())))))))))))) fun f=>
 opt.ask _ f.2.2.2.2.1 (
 opt.ret _ (Bool.false,())) (
 opt.need _ (p.and (p.cmp .geq f.2.2.1 (0:Int)) (p.and (p.cmp .leq f.2.2.1 f.2.2.1) (p.cmp .leq f.2.2.1 (1000000:Int))))<|
 opt.need _ (p.eqN 0 0)<|
 opt.need _ (p.eqN (p.len f.1) (p.len f.1))<|
 opt.need _ (p.eqN 0 0)<|
 opt.need _ (p.eqN (p.nat f.2.2.1) (p.len (p.rep (p.nat f.2.2.1) k0k)))<|
 opt.need _ (p.eqN (p.nat f.2.2.1) (p.len (p.rep (p.nat f.2.2.1) k0k)))<|
 opt.bnd ((LD×(LD×(LD×(Int×(LD×Unit)))))) _ (
 z30 (v0e p) (f.1,((p.rep (p.nat f.2.2.1) k0k),(f.2.1,(f.2.2.1,(f.2.2.2.1,((0:Int),()))))))) fun g=>
 opt.need _ (p.eqN 0 0)<|
 opt.need _ (p.eqN (p.len g.1) (p.len g.1))<|
 opt.need _ (p.eqN 0 0)<|
 opt.need _ (p.eqN (p.len g.2.1) (p.len g.2.1))<|
 opt.need _ (p.eqN (p.len g.2.1) (p.len g.2.1))<|
 opt.alt T0 ((LD×(LD×(LD×T1)))) _ (
 z30 (v0d p) (g.1,(g.2.1,(g.2.2.1,(g.2.2.2.1,(g.2.2.2.2.1,((0:Int),()))))))) (fun h=>
 opt.ret _ (h.1,())) (fun i=>
 opt.bnd ((LD×(LD×(LD×T1)))) _ (some i) fun j=>
 opt.need _ (p.eqN 0 0)<|
 opt.need _ (p.eqN (p.len j.1) (p.len j.1))<|
 opt.need _ (p.eqN 0 0)<|
 opt.need _ (p.eqN (p.len j.2.1) (p.len j.2.1))<|
 opt.need _ (p.eqN (p.len j.2.1) (p.len j.2.1))<|
 opt.alt T0 (Unit) _ (
 z30 (w7a p) (j.1,(j.2.1,(j.2.2.1,(j.2.2.2.1,((0:Int),())))))) (fun k=>
 opt.ret _ (k.1,())) (fun l=>
 opt.bnd (Unit) _ (some l) fun m=>
 opt.bnd T0 _ (G14 p ()) fun n=>
 opt.ret _ (n.1,()))))
theorem ok8:CtrOk PG ctr8 (G8 std):=okF (a:=an8) (l:=la8) (gC ok14 (gC v2j (gC ok39 (gC v2k (gC v6v (gC v6u (gC v6r (gC v6t (gC ok34 (gN)))))))))) (by kernel_rfl) fun _ _=>by kernel_rfl
end Go.Am
end
section
namespace Go.Am
open T11
variable {fl:List Int→Bool}
section
variable {d:List (List Int)}
theorem z6h {l:List Int} {i:Nat} {n:Int} (h:l[i]?=some n):(z0e l)[i]?=some (eI n):=by rw [z0e,List.getElem?_map,h]; rfl
theorem w7h {l:List Nat} {i:Nat} {n:Nat} (h:l[i]?=some n):(z0e (toI l))[i]?=some (eI n):=z6h (by rw [toI,List.getElem?_map,h]; rfl)
theorem x1k {d:List (List Int)} {i:Nat} {m:List Int} (h:d[i]?=some m):(z0i fl d)[i]?=some (eLf fl m):=by rw [z0i,List.getElem?_map,h]; rfl
theorem x25 {l:List Int} {i:Nat} {n:Int}:(z0e l).set i (eI n)=z0e (l.set i n):=by rw [z0e,z0e,List.map_set]
theorem w6x (O DD GL:List (List D)) (n:Nat) (hn:n≤1000):
  z30 (v0e std) (O,(z0e (List.replicate n 0),(DD,((n:Int),(GL,((0:Int),()))))))=some (O,(z0e (List.replicate n (-1)),(DD,((n:Int),(GL,()))))):=by
 have key:=z3i (b:=v0e std) n (fun i=>(O,(z0e (List.replicate i (-1)++List.replicate (n - i) 0),(DD,((n:Int),(GL,((i:Int),()))))))) (O,(z0e (List.replicate n (-1)),(DD,((n:Int),(GL,()))))) (fun i hi=>by
  have hw:=z0z (i:=i) (by omega)
  have h0:(0:Int)≤i:=by omega
  have h1:(i:Int)<n:=by omega
  have hset:(List.replicate i (-1:Int)++List.replicate (n - i) 0).set i (-1)=List.replicate (i+1) (-1)++List.replicate (n - (i+1)) 0:=by
   rw [List.set_append_right (h:=by simp),List.length_replicate,Nat.sub_self,show n - i=(n - (i+1))+1 by omega,List.replicate_succ (n:=n - (i+1)),List.set_cons_zero,show List.replicate (i+1) (-1:Int)=List.replicate i (-1)++[-1] from List.replicate_succ',List.append_assoc]
   rfl
  rw [←hset]
  have hBl:(List.replicate i (-1:Int)++List.replicate (n - i) 0).length=n:=by simp; omega
  generalize (List.replicate i (-1:Int)++List.replicate (n - i) 0)=B at hBl⊢
  have hBl':(z0e B).length=n:=by rw [z0o,hBl]
  have hBi:=z6h (z1t (l:=B) (q:=i) (by omega))
  rw [←x25]
  generalize z0e B=BB at hBl' hBi⊢
  simp only [v0e,z01,z02,h0,h1,ge_iff_le,z0d,hw,hBl',hBi,z0g,z3z,List.length_set,eq_self,not_true,not_false_eq_true,decide_true,decide_false,Bool.not_true,Bool.not_false,Int.reduceLT,Int.reduceLE,Int.reduceNeg,Int.reduceGT,cond_true,cond_false,Int.reduceEq,Nat.le_refl,Bool.and_true,List.drop_zero]) (by
  have hn:¬ (n:Int)<n:=by omega
  simp only [v0e,z01,z02,hn,Nat.sub_self,List.replicate_zero,List.append_nil,eq_self,not_true,not_false_eq_true,decide_true,decide_false,Bool.not_true,Bool.not_false,Int.reduceLT,Int.reduceLE,Int.reduceNeg,Int.reduceGT,cond_true,cond_false,Int.reduceEq,Nat.le_refl,Bool.and_true,List.drop_zero])
 have e0:z0e (List.replicate 0 (-1)++List.replicate (n - 0) 0)=z0e (List.replicate n 0):=by rw [List.replicate_zero,List.nil_append,Nat.sub_zero]
 rw [e0] at key
 exact key
theorem w6v (O DD:List (List D)) (GR:List (List Int)) {n:Nat} (hn:n≤1000) {t:Nat} {g:List Nat} (hg:GR[t]?=some (toI g)) (hnd:g.Nodup) (P:Nat→Bool) (v:Nat→Nat) (hm:∀ x∈g,x<n∧P x=false∧v x=t):
  z30 (v0c std) (O,(z0e (z7b n P v),(DD,((n:Int),(z0i fz GR,((t:Int),((0:Int),())))))))=some (.inr (O,(z0e (z7b n (fun i=>P i||decide (i∈g)) v),(DD,((n:Int),(z0i fz GR,((t:Int),()))))))):=by
 have hgl:g.length≤1000:=by
  have h1:=hnd.length_le_of_subset fun x hx=>List.mem_range.2 (hm x hx).1
  rw [List.length_range] at h1; omega
 have key:=z3i (b:=v0c std) g.length (fun k=>(O,(z0e (z7b n (fun i=>P i||decide (i∈g.take k)) v),(DD,((n:Int),(z0i fz GR,((t:Int),((k:Int),())))))))) (.inr (O,(z0e (z7b n (fun i=>P i||decide (i∈g)) v),(DD,((n:Int),(z0i fz GR,((t:Int),()))))))) (fun k hk=>by
  have hw:=z0z (i:=k) (by omega)
  have h0:(0:Int)≤k:=by omega
  have h1:(k:Int)<g.length:=by omega
  have hx:g[k]?=some g[k]:=List.getElem?_eq_getElem hk
  have hxm:=hm g[k] (List.getElem_mem hk)
  have hnot:g[k]∉g.take k:=fun hmem=>by
   rw [List.mem_take_iff_getElem] at hmem
   obtain ⟨j,hj,he⟩:=hmem
   have:=y96 hnd (q:=j) (r:=k) (by omega) hk (by rw [at_,at_,List.getD_eq_getElem?_getD,List.getD_eq_getElem?_getD,List.getElem?_eq_getElem (show j<g.length by omega),List.getElem?_eq_getElem hk]; exact he)
   omega
  have e:z7b n (fun i=>P i||decide (i∈g.take (k+1))) v=z7b n (fun i=>(P i||decide (i∈g.take k))||decide (i=g[k])) v:=z69 v fun i _=>by
   have h:i∈g.take (k+1)↔i∈g.take k∨i=g[k]:=by rw [List.take_succ_eq_append_getElem hk,List.mem_append,List.mem_singleton]
   rw [Bool.or_assoc, ←Bool.decide_or,decide_eq_decide.2 h]
  rw [e, ←w2h _ v hxm.1, ←x25]
  have hA:(z7b n (fun i=>P i||decide (i∈g.take k)) v)[g[k]]?=some (-1):=by
   rw [z59 _ _ hxm.1,if_neg]
   rw [hxm.2.1]; simp [hnot]
  have hAl:(z0e (z7b n (fun i=>P i||decide (i∈g.take k)) v)).length=n:=by rw [z0o,z7t]
  have hA':=z6h hA
  have hGt:=x1k (fl:=fz) hg
  have hgk:=w7h hx
  have hvx:=hxm.2.2
  have hgl':(z0e (toI g)).length=g.length:=by rw [z0o,z9j]
  have hx0:(0:Int)≤(g[k]:Nat):=by omega
  have hxn:((g[k]:Nat):Int)<n:=by have:=hxm.1; omega
  generalize z0e (z7b n (fun i=>P i||decide (i∈g.take k)) v)=A at hAl hA'⊢
  rw [hvx]
  generalize g[k]=x at hA' hgk hx0 hxn⊢
  generalize z0i fz GR=GG at hGt⊢
  have ht0:(0:Int)≤t:=by omega
  simp only [v0c,z01,z02,hGt,z0n,z13,z0o,z9j,h0,h1,ht0,ge_iff_le,z0d,hw,hgk,hgl',z0g,z09,hx0,hxn,hAl,hA',z3z,List.length_set,eq_self,not_true,not_false_eq_true,decide_true,decide_false,Bool.not_true,Bool.not_false,Int.reduceLT,Int.reduceLE,Int.reduceNeg,Int.reduceGT,cond_true,cond_false,Int.reduceEq,Nat.le_refl,Bool.and_true,List.drop_zero]) (by
  have hn:¬ (g.length:Int)<g.length:=by omega
  have hGt:=x1k (fl:=fz) hg
  rw [List.take_length]
  have ht0:(0:Int)≤t:=by omega
  generalize z0i fz GR=GG at hGt⊢
  simp only [v0c,z01,z02,hGt,z0n,z13,z0o,z9j,ht0,ge_iff_le,hn,eq_self,not_true,not_false_eq_true,decide_true,decide_false,Bool.not_true,Bool.not_false,Int.reduceLT,Int.reduceLE,Int.reduceNeg,Int.reduceGT,cond_true,cond_false,Int.reduceEq,Nat.le_refl,Bool.and_true,List.drop_zero])
 have e0:z7b n (fun i=>P i||decide (i∈g.take 0)) v=z7b n P v:=z69 v fun i _=>by simp
 rw [e0] at key
 exact key
def grD (d:List (List Int)) (i:Nat):Nat:=grd (rcD d) d.length i
theorem w07 (h:z00 d=0):∀ i,i<d.length→∀ x∈d.getD i [],0≤x∧x<d.length:=fun i hi x hx=>y1g (y0t h i hi) hx
theorem w6w (h:z00 d=0) (O DD:List (List D)):
  z30 (v0d std) (O,(z0e (List.replicate d.length (-1)),(DD,((d.length:Int),(z0i fz (z1j d),((0:Int),()))))))=some (.inr (O,(z0e (z7b d.length (fun _=>true) (grD d)),(DD,((d.length:Int),()))))):=by
 have hl:=z2h h
 have hgl:(z1j d).length=(RG (rcD d) d.length d.length).length:=by rw [z1j,List.length_map]
 have hgn:(z1j d).length≤1000:=by
  rw [hgl,w3p (z3n h) (y0z h) (z6w d) _ (Nat.le_refl _)]
  have:=y17 d.length fun j=>decide (cut (byR (bt d) (byN d)) d.length j)
  omega
 have key:=z3i (b:=v0d std) (z1j d).length (fun t=>(O,(z0e (z7b d.length (fun i=>decide (grD d i<t)) (grD d)),(DD,((d.length:Int),(z0i fz (z1j d),((t:Int),()))))))) (.inr (O,(z0e (z7b d.length (fun _=>true) (grD d)),(DD,((d.length:Int),()))))) (fun t ht=>by
  have hw:=z0z (i:=t) (by omega)
  have h0:(0:Int)≤t:=by omega
  have h1:(t:Int)<(z1j d).length:=by omega
  obtain ⟨g,hg⟩:=z1d (l:=RG (rcD d) d.length d.length) (i:=t) (by omega)
  have hg':(z1j d)[t]?=some (toI g):=by rw [z1j,List.getElem?_map,hg]; rfl
  obtain ⟨j,hj,hjg,hne,hgix⟩:=v0m _ _ _ hg
  have hmem:∀ x∈g,x<d.length∧rcD d x=d.length - j:=fun x hx=>by rw [←hjg] at hx; exact z7v.1 hx
  have hgr:∀ x∈g,grD d x=t:=fun x hx=>by rw [←hjg] at hx; rw [←hgix]; exact w8m hj hx
  have hback:∀ i,i<d.length→grD d i=t→i∈g:=fun i hi he=>by
   obtain ⟨x,hx⟩:=List.exists_mem_of_ne_nil g hne
   have:=(y5z (z6w d) hi (hmem x hx).1).1 (he.trans (hgr x hx).symm)
   rw [←hjg]
   exact z7v.2 ⟨hi,this.trans (hmem x hx).2⟩
  have hpw:g.Pairwise (· < ·):=by rw [←hjg]; exact w43 _ _ _
  have hnd:g.Nodup:=hpw.imp fun hab=>Nat.ne_of_lt hab
  have h3:=w6v O DD (z1j d) (n:=d.length) (by omega) hg' hnd (fun i=>decide (grD d i<t)) (grD d) fun x hx=>⟨(hmem x hx).1,by rw [hgr x hx]; simp,hgr x hx⟩
  have e:z7b d.length (fun i=>decide (grD d i<t)||decide (i∈g)) (grD d)=z7b d.length (fun i=>decide (grD d i<t+1)) (grD d):=z69 _ fun i hi=>by
   rw [←Bool.decide_or]
   refine decide_eq_decide.2 ⟨fun hq=>?_,fun hq=>?_⟩
   ·rcases hq with hq|hq
    ·omega
    ·have:=hgr i hq; omega
   ·by_cases e:grD d i=t
    ·exact .inr (hback i hi e)
    ·exact .inl (by omega)
  rw [e] at h3
  have hlen:g.length≤d.length:=by
   have h1:=hnd.length_le_of_subset fun x hx=>List.mem_range.2 (hmem x hx).1
   rw [List.length_range] at h1; exact h1
  have h38:G38 std (z0e (toI g),((d.length:Int),()))=_:=w3r (toI g) d.length (by rw [z9j]; omega)
  rw [decide_eq_true (y49 hpw fun x hx=>(hmem x hx).1)] at h38
  have n0:¬ ((g.length:Nat):Int)=0:=by have:=List.length_pos_iff.2 hne; omega
  have n2:¬ ((g.length:Nat):Int)=2:=by have:=w8i (z3n h) (z6w d) hj; rw [hjg] at this; omega
  have hGt:=x1k (fl:=fz) hg'
  have hGl:(z0i fz (z1j d)).length=(z1j d).length:=z1a _
  generalize z0i fz (z1j d)=GG at hGt hGl h3⊢
  generalize z0e (z7b d.length (fun i=>decide (grD d i<t)) (grD d))=A at h3⊢
  generalize z0e (z7b d.length (fun i=>decide (grD d i<t+1)) (grD d))=A' at h3⊢
  simp only [v0d,z01,z02,hGt,hGl,z0n,z13,z0o,z9j,h0,h1,n0,n2,ge_iff_le,z0d,hw,h38,h3,eq_self,not_true,not_false_eq_true,decide_true,decide_false,Bool.not_true,Bool.not_false,Int.reduceLT,Int.reduceLE,Int.reduceNeg,Int.reduceGT,cond_true,cond_false,Int.reduceEq,Nat.le_refl,Bool.and_true,List.drop_zero]) (by
  have hn:¬ ((z1j d).length:Int)<(z1j d).length:=by omega
  have e:z7b d.length (fun i=>decide (grD d i<(z1j d).length)) (grD d)=z7b d.length (fun _=>true) (grD d):=z69 _ fun i hi=>decide_eq_true (by
   rw [hgl]; exact w5f (z6w d) hi)
  rw [e]
  simp only [v0d,z01,z02,z1a,hn,eq_self,not_true,not_false_eq_true,decide_true,decide_false,Bool.not_true,Bool.not_false,Int.reduceLT,Int.reduceLE,Int.reduceNeg,Int.reduceGT,cond_true,cond_false,Int.reduceEq,Nat.le_refl,Bool.and_true,List.drop_zero])
 have e0:z7b d.length (fun i=>decide (grD d i<0)) (grD d)=List.replicate d.length (-1):=by
  rw [←x80 d.length (grD d)]
  exact z69 _ fun i _=>by simp
 rw [e0] at key
 exact key
theorem w6s (h:z00 d=0) (hr:∀ l∈d,l.length≤1000000) (O:List (List D)) {i:Nat} (hi:i<d.length):
  z30 (w6t std) (O,(z0e (z7b d.length (fun _=>true) (grD d)),(z0e (z21 d.length (z5v d i)),(z0i fl d,((d.length:Int),((i:Int),((0:Int),())))))))=some (.inr (O,(z0e (z7b d.length (fun _=>true) (grD d)),(z0i fl d,((d.length:Int),((i:Int),())))))):=by
 have hl:=z2h h
 exact z3i (b:=w6t std) d.length (fun k=>(O,(z0e (z7b d.length (fun _=>true) (grD d)),(z0e (z21 d.length (z5v d i)),(z0i fl d,((d.length:Int),((i:Int),((k:Int),())))))))) (.inr (O,(z0e (z7b d.length (fun _=>true) (grD d)),(z0i fl d,((d.length:Int),((i:Int),())))))) (fun k hk=>by
  have hw:=z0z (i:=k) (by omega)
  have h0:(0:Int)≤k:=by omega
  have h1:(k:Int)<d.length:=by omega
  have h2:(0:Int)≤i:=by omega
  have h3:(i:Int)<d.length:=by omega
  have hAi:=z6h (z59 (fun _=>true) (grD d) hi)
  have hAk:=z6h (z59 (fun _=>true) (grD d) hk)
  have hAl:(z0e (z7b d.length (fun _=>true) (grD d))).length=d.length:=by rw [z0o,z7t]
  have hBk:=z6h (z5x (z5v d i) hk)
  have hBl:(z0e (z21 d.length (z5v d i))).length=d.length:=by rw [z0o,z3o]
  have g1:G40 std (z0i fl d,((i:Int),((k:Int),())))=_:=w23 d hr i k hi
  have c1:grD d i<grD d k→bt d i k=true:=fun hlt=>x9z (z3n h) (y0z h) (z6w d) hi hk ((z8v (z6w d) hi hk).1 hlt)
  have c2:grD d i=grD d k→z5v d i k=true:=fun he=>x2c (z3n h) (z6w d) hi hk ((y5z (z6w d) hi hk).1 he) (y16 d hi) rfl
  rw [if_pos rfl] at hAi hAk
  generalize z0e (z7b d.length (fun _=>true) (grD d))=A at hAi hAk hAl⊢
  generalize z0e (z21 d.length (z5v d i))=B at hBk hBl⊢
  have z1:¬ ((grD d k:Nat):Int)<0:=by omega
  by_cases e:grD d i=grD d k
  ·have z2:¬ ((grD d i:Nat):Int)<(grD d k:Nat):=by omega
   have z3:((grD d i:Nat):Int)=(grD d k:Nat):=by omega
   rw [c2 e] at hBk
   have z4:¬ (1:Int)=0:=by decide
   rw [cond_true] at hBk
   simp only [w6t,z01,z02,h0,h1,h2,h3,ge_iff_le,z0d,hw,hAi,hAk,hAl,hBk,hBl,z0g,z09,z1,z2,z3,z4,Int.lt_irrefl,eq_self,not_true,not_false_eq_true,decide_true,decide_false,Bool.not_true,Bool.not_false,Int.reduceLT,Int.reduceLE,Int.reduceNeg,Int.reduceGT,cond_true,cond_false,Int.reduceEq,Nat.le_refl,Bool.and_true,List.drop_zero]
  ·have z3:¬ ((grD d i:Nat):Int)=(grD d k:Nat):=by omega
   by_cases lt:grD d i<grD d k
   ·have z2:((grD d i:Nat):Int)<(grD d k:Nat):=by omega
    rw [c1 lt] at g1
    simp only [w6t,z01,z02,h0,h1,h2,h3,ge_iff_le,z0d,hw,hAi,hAk,hAl,hBk,hBl,z0g,z09,z1,z2,z3,g1,eq_self,not_true,not_false_eq_true,decide_true,decide_false,Bool.not_true,Bool.not_false,Int.reduceLT,Int.reduceLE,Int.reduceNeg,Int.reduceGT,cond_true,cond_false,Int.reduceEq,Nat.le_refl,Bool.and_true,List.drop_zero]
   ·have z2:¬ ((grD d i:Nat):Int)<(grD d k:Nat):=by omega
    simp only [w6t,z01,z02,h0,h1,h2,h3,ge_iff_le,z0d,hw,hAi,hAk,hAl,hBk,hBl,z0g,z09,z1,z2,z3,eq_self,not_true,not_false_eq_true,decide_true,decide_false,Bool.not_true,Bool.not_false,Int.reduceLT,Int.reduceLE,Int.reduceNeg,Int.reduceGT,cond_true,cond_false,Int.reduceEq,Nat.le_refl,Bool.and_true,List.drop_zero]) (by
  have hn:¬ (d.length:Int)<d.length:=by omega
  simp only [w6t,z01,z02,hn,eq_self,not_true,not_false_eq_true,decide_true,decide_false,Bool.not_true,Bool.not_false,Int.reduceLT,Int.reduceLE,Int.reduceNeg,Int.reduceGT,cond_true,cond_false,Int.reduceEq,Nat.le_refl,Bool.and_true,List.drop_zero])
theorem w6u (h:z00 d=0) (hr:∀ l∈d,l.length≤1000000):
  z30 (w7a std) (z0e (z4r d d.length),(z0e (z7b d.length (fun _=>true) (grD d)),(z0i fl d,((d.length:Int),((0:Int),())))))=some (.inr ()):=by
 have hl:=z2h h
 exact z3i (b:=w7a std) d.length (fun i=>(z0e (z4r d d.length),(z0e (z7b d.length (fun _=>true) (grD d)),(z0i fl d,((d.length:Int),((i:Int),())))))) (.inr ()) (fun i hi=>by
  have hw:=z0z (i:=i) (by omega)
  have h0:(0:Int)≤i:=by omega
  have h1:(i:Int)<d.length:=by omega
  have h39:G39 std (z0i fl d,((i:Int),()))=_:=v0u d (by omega) (w07 h) hr i hi
  have h5:=w6s (fl:=fl) h hr (z0e (z4r d d.length)) hi
  by_cases e:i=0
  ·have z:¬ (i:Int)>0:=by omega
   simp only [w7a,z01,z02,h1,h39,h5,z,z0d,hw,eq_self,not_true,not_false_eq_true,decide_true,decide_false,Bool.not_true,Bool.not_false,Int.reduceLT,Int.reduceLE,Int.reduceNeg,Int.reduceGT,cond_true,cond_false,Int.reduceEq,Nat.le_refl,Bool.and_true,List.drop_zero]
  ·obtain ⟨j,rfl⟩:∃ j,i=j+1:=⟨i - 1,by omega⟩
   have z:((j+1:Nat):Int)>0:=by omega
   have hol:=z5c d d.length
   have ho1:=y0l d d.length hi
   have ho0:=y0l d d.length (q:=j) (by omega)
   have hch:=y5n (z3n h) d.length (Nat.le_refl _) j hi
   have hO1:=z6h (z1t (l:=z4r d d.length) (q:=j+1) (by omega))
   have hO0:=z6h (z1t (l:=z4r d d.length) (q:=j) (by omega))
   have hOl:(z0e (z4r d d.length)).length=d.length:=by rw [z0o,hol]
   have hAl:(z0e (z7b d.length (fun _=>true) (grD d))).length=d.length:=by rw [z0o,z7t]
   have hs:IntKind.i64.wrap (((j+1:Nat):Int) - 1)=(j:Int):=by rw [z48]<;>omega
   obtain ⟨x,hx⟩:∃ x:Nat,gI (z4r d d.length) (j+1)=x:=⟨(gI (z4r d d.length) (j+1)).toNat,by omega⟩
   obtain ⟨y,hy⟩:∃ y:Nat,gI (z4r d d.length) j=y:=⟨(gI (z4r d d.length) j).toNat,by omega⟩
   rw [hx] at hO1 ho1 hch
   rw [hy] at hO0 ho0 hch
   rw [Int.toNat_natCast,Int.toNat_natCast] at hch
   have hm:=x6k (z6w d) (show y<d.length by omega) (show x<d.length by omega) hch
   have hg:¬ ((grD d x:Nat):Int)<(grD d y:Nat):=by
    have:=z8v (z6w d) (show x<d.length by omega) (show y<d.length by omega)
    unfold grD
    omega
   have hAx:=z6h (z59 (fun _=>true) (grD d) (show x<d.length by omega))
   have hAy:=z6h (z59 (fun _=>true) (grD d) (show y<d.length by omega))
   rw [if_pos rfl] at hAx hAy
   have j0:(0:Int)≤j:=by omega
   have j1:(j:Int)<d.length:=by omega
   generalize z0e (z7b d.length (fun _=>true) (grD d))=A at hAl hAx hAy h5⊢
   generalize z0e (z4r d d.length)=O at hO0 hO1 hOl h5⊢
   simp only [w7a,z01,z02,h0,h1,h39,h5,z,z0d,z07,hw,hs,ge_iff_le,hOl,hAl,hO0,hO1,hAx,hAy,z0g,z09,ho0,ho1,j0,j1,hg,eq_self,not_true,not_false_eq_true,decide_true,decide_false,Bool.not_true,Bool.not_false,Int.reduceLT,Int.reduceLE,Int.reduceNeg,Int.reduceGT,cond_true,cond_false,Int.reduceEq,Nat.le_refl,Bool.and_true,List.drop_zero]) (by
  have hn:¬ (d.length:Int)<d.length:=by omega
  simp only [w7a,z01,z02,hn,eq_self,not_true,not_false_eq_true,decide_true,decide_false,Bool.not_true,Bool.not_false,Int.reduceLT,Int.reduceLE,Int.reduceNeg,Int.reduceGT,cond_true,cond_false,Int.reduceEq,Nat.le_refl,Bool.and_true,List.drop_zero])
end
theorem v6h (s:Int) (hs:(Lit.int IntKind.u8 s).wf=true) (b:Int) (hb:(Lit.int IntKind.u64 b).wf=true):G8 std (s,(b,()))=some (true,()):=by
 have hsr:=v1s hs
 have h34:G34 std (s,(b,()))=some (z0i fz (d7 s b),()):=v0x hsr.1 hsr.2
 have h:=w52 s b
 have hr:=w51 s b
 generalize d7 s b=d at h34 h hr
 have hl:=z2h h
 have h26:G26 std (z0i fz d,())=_:=v0z d hr
 have h37:G37 std (z0i fz d,())=_:=v0v d hr
 rw [if_pos h] at h26 h37
 have h25:G25 std (z0i fz d,(z0e (z4r d d.length),()))=_:=v00 d hr (z4r d d.length)
 have h24:G24 std (z0i fz d,(z0e (z4r d d.length),()))=_:=v01 d hr (z4r d d.length)
 rw [x00 h] at h25 h24
 have h14:G14 std ()=some (true,()):=v02
 have hol:=z5c d d.length
 have hOt:(z0e (z4r d d.length)).take d.length=z0e (z4r d d.length):=List.take_of_length_le (by rw [z0o,hol]; exact Nat.le_refl _)
 have hOl:(z0e (z4r d d.length)).length=d.length:=by rw [z0o,hol]
 obtain ⟨t,ht⟩:=w2j (z3n h) (y0z h) (z6w d) (by omega)
 have hgl:(z1j d).length=(RG (rcD d) d.length d.length).length:=by rw [z1j,List.length_map]
 have hg1:¬ (((z1j d).length:Nat):Int)<1:=by rw [hgl,ht]; simp; omega
 have hg2:¬ (((z1j d).length:Nat):Int)>d.length:=by
  rw [hgl,w3p (z3n h) (y0z h) (z6w d) _ (Nat.le_refl _)]
  have:=y17 d.length fun j=>decide (cut (byR (bt d) (byN d)) d.length j)
  omega
 have n0:(0:Int)≤d.length:=by omega
 have nm:(d.length:Int)≤1000000:=by omega
 have hrep:List.replicate d.length (eI 0)=z0e (List.replicate d.length 0):=by rw [z0e,List.map_replicate]
 have h1:=w6x (z0e (z4r d d.length)) (z0i fz d) (z0i fz (z1j d)) d.length (by omega)
 have h2:=w6w h (z0e (z4r d d.length)) (z0i fz d)
 have h4:=w6u (fl:=fz) h hr
 generalize z0e (z4r d d.length)=O at hOt hOl h25 h24 h26 h1 h2 h4
 simp only [G8,h34,h26,h37,z01,z02,eq_self,not_true,not_false_eq_true,decide_true,decide_false,Bool.not_true,Bool.not_false,Int.reduceLT,Int.reduceLE,Int.reduceNeg,Int.reduceGT,cond_true,cond_false,Int.reduceEq,Nat.le_refl,Bool.and_true,List.drop_zero,z1a,hOl,hOt,h25,h24,ne_eq,hg1,hg2,ge_iff_le,Int.le_refl,n0,nm,z3z,hrep,z0o,List.length_replicate,h1,h2,h4,h14]
end Go.Am
end
section
namespace Go.Proofs.Ytjlhhpjkmgediaa
open Go.ChangeShapes Go.WideShapes Go.ChangeAt Go.RowKit Go.Am
theorem v1r {e0:Int} {e1:Int} (h:G8 std (e0,e1,())=some (true,())):∃ h',z9h Try.prog 8 (toA [.int .u8 e0, .int .u64 e1]) [] (.d (.bool true)) h':=by
 have:=(ok8.2 (e0,e1,()) (true,()) h).2
 exact ⟨_,this⟩
theorem shp8:w35 Try.prog 6 Try.f8.params.toList=true:=by kernel_rfl
theorem rt8:Try.f8.resultTypes=#[Try.f8.resultTypes.getD 0 0]:=by kernel_rfl
theorem rb8:Try.prog.underlying (Try.f8.resultTypes.getD 0 0)=some .bool:=by kernel_rfl
theorem w98:Try.f8.params.toList.all (fun t=>decide (t<Try.prog.types.size))=true:=by kernel_rfl
set_option maxRecDepth 100000 in
theorem x8c (H:Type) (enc:TypeId×Value→H) (W:World) (base:Nat) (args:Array Value) (ds gs:List (DataW H)) (before:List MemPlace)
  (hval:∀ (j:Nat) t v,Try.f8.params[j]?=some t→args[j]?=some v→Value.okWide Try.prog W .any base t v)
  (hW:DataW.Whole enc Try.prog Try.f8.params.toList Rows.panelRankedSpec.vars false W args.toList ds gs before):
  Calls Try.prog 8 args W fun e W'=>∃ v,e= .returned v∧Rows.panelRankedSpec.post enc Try.prog Try.f8 false true false false W args v W':=by
 have hW':=hW
 obtain ⟨p,q,hA0,hV,rfl,hfz,hnd⟩:=hW
 have hA:DataW.TrodAll enc Try.prog W 0 (fun _=>true) true Try.f8.params.toList args.toList ds p:=hA0
 obtain ⟨xs,h1,h2,h3⟩:=x81 (O:=fun _=>False) (fun _ h=>h) shp8 (x7a hval) hA
 have hd:∃ x0 x1,xs=[x0,x1]∧(DK (.int .u8) x0)∧(DK (.int .u64) x1):=by
  match xs,h1 with
  |[x0,x1],h1=>exact ⟨x0,x1,rfl,h1.1,h1.2.1⟩
 obtain ⟨x0,x1,rfl,k0,k1⟩:=hd
 obtain ⟨n0,rfl,wf0⟩:=v1t k0
 obtain ⟨n1,rfl,wf1⟩:=w7f k1
 obtain ⟨h',hr⟩:=v1r (v6h n0 wf0 n1 wf1)
 exact (y7q hr h2 h3).mono fun e W' ⟨he,hs⟩=>⟨_,he,w0f laid rowed sized w98 rfl rt8 rb8 (fun ds hd=>by
  match ds,hd with
  |[d0,d1],_=>exact ⟨rfl,rfl,rfl⟩) hW' hs⟩
set_option maxRecDepth 100000 in
theorem w4y (os:Os) (started:os.Started) (H:Type) (enc:TypeId×Value→H):
  ReturnsInHanded {} Try.checked os 8 .any (Rows.panelRankedSpec.pre6 enc Try.prog Try.f8 Rows.panelRankedRow.domain false) (Rows.panelRankedSpec.post enc Try.prog Try.f8 false true false false):=by
 refine returnsInHanded_of_change (C:=Try.checked) own started (by kernel_rfl) Try.func8
  (ChangeSpec.witness6 (enc:=enc) (C:=Try.checked) false ⟨#[],#[.int .u8 0, .int .u64 0],[]⟩ 8 (by kernel_rfl) (by kernel_rfl) (by kernel_rfl) (by kernel_rfl)) ?_
 intro W base args ds gs before hval hW _ _
 exact x8c H enc W base args ds gs before hval hW
set_option maxRecDepth 100000 in
theorem y2j:Rows.panelRankedRow.holds Try.pinned (OpenSpec.ofChange Rows.panelRankedSpec):=
 OpenClaim.holds_of_wide 8 Try.f8 rfl rfl rfl rfl rfl rfl rfl ⟨rfl,rfl,rfl,rfl,rfl⟩ rfl rfl rfl rfl rfl (by kernel_rfl) Try.func8 (by kernel_rfl)
  (of_decide_eq_true (by kernel_rfl)) (by unfold Func.isWrapper; first|(rw [if_pos (by decide+kernel)]; kernel_rfl)|(rw [if_neg (by decide+kernel)]; exact ⟨rfl,rfl⟩))
  (fun os started H enc _=>w4y os started H enc)
theorem panelRanked_holds:Rows.PanelRankedSaid:=y2j
end Go.Proofs.Ytjlhhpjkmgediaa
end
