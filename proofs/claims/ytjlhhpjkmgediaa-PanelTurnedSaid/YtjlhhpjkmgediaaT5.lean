/-
  Proved: PanelTurned: for every input the call returns true, and each argument reads afterwards as it read before; there is no condition.
-/
import Derived.Test.YtjlhhpjkmgediaaT4
import Derived.Shelf.Spec.SlicesInsertGrow
import Derived.Test.YtjlhhpjkmgediaaProg
import Derived.KernelRfl
set_option linter.unusedVariables false
set_option linter.unusedSimpArgs false
set_option linter.unusedSectionVars false
set_option maxRecDepth 100000
set_option maxHeartbeats 0
section
namespace Go.Am
open Go.Proofs Go.Shelf
structure x84 (P:Program) (f:FuncId) (t:TypeId):Prop where
 shift:∀ (b off n c i vb voff vc:Nat) (cs:List Value) (v:Value) (w:World),i<n→n+1≤c→n+1≤9223372036854775807→vb≠b→cs.length=n→
  (∀ j v,cs[j]?=some v→w.cell? ⟨b,off+j,none⟩=some v)→(∀ j,j<n+1→(w.cell? ⟨b,off+j,none⟩).isSome=true)→(∀ j,j<n+1→w.frozen? ⟨b,off+j,none⟩=false)→
  w.cell? ⟨vb,voff,none⟩=some v→(∀ v∈cs,v.oneCell'=true)→v.oneCell'=true→
  (∀ x,w.frozen? ⟨vb,x,none⟩=false)→(∃ tA kA,w.shape? vb=some (tA,kA))→(∃ tB kB,w.shape? b=some (tB,kB)∧kB≠0)→
  Calls P f #[.slice (some ⟨b,off,none⟩) n c, .int .i64 i, .slice (some ⟨vb,voff,none⟩) 1 vc] w fun e w'=>
   e= .returned (.slice (some ⟨b,off,none⟩) (n+1) c)∧w'=(w.drew.setCells b (off+(i+1)) (cs.drop i)).setCells b (off+i) [v]
 room:∀ (b off n c vb voff vc:Nat) (v:Value) (w:World),n+1≤c→n+1≤9223372036854775807→(w.cell? ⟨b,off+n,none⟩).isSome=true→w.frozen? ⟨b,off+n,none⟩=false→
  w.cell? ⟨vb,voff,none⟩=some v→v.oneCell'=true→
  Calls P f #[.slice (some ⟨b,off,none⟩) n c, .int .i64 n, .slice (some ⟨vb,voff,none⟩) 1 vc] w fun e w'=>
   e= .returned (.slice (some ⟨b,off,none⟩) (n+1) c)∧w'=w.setCells b (off+n) [v]
 last:∀ (base:Option Addr) (n c vb voff vc:Nat) (cs:List Value) (v:Value) (w:World),n≤c→c<n+1→(n+1)*8≤140737488355328→cs.length=n→(base=none→n=0)→
  (∀ a,base=some a→∀ j v,cs[j]?=some v→w.cell? (a.add j)=some v)→w.cell? ⟨vb,voff,none⟩=some v→v.oneCell'=true→
  Calls P f #[.slice base n c, .int .i64 n, .slice (some ⟨vb,voff,none⟩) 1 vc] w fun e w'=>
   e= .returned (.slice (some ⟨w.heap.size,0,none⟩) (n+1) (grownCap w (n+1) c t))∧
   w'=w.drew.alloc (.cells ((cs++[v]).toArray++Builtin.zeroCells (Value.int .i64 0).cells (grownCap w (n+1) c t - (n+1))) t)
 grow:∀ (b off n c i vb voff vc:Nat) (cs:List Value) (v:Value) (w:World),i<n→n≤c→c<n+1→(n+1)*8≤140737488355328→cs.length=n→
  (∀ j v,cs[j]?=some v→w.cell? ⟨b,off+j,none⟩=some v)→w.cell? ⟨vb,voff,none⟩=some v→(∀ v∈cs,v.oneCell'=true)→v.oneCell'=true→
  Calls P f #[.slice (some ⟨b,off,none⟩) n c, .int .i64 i, .slice (some ⟨vb,voff,none⟩) 1 vc] w fun e w'=>
   e= .returned (.slice (some ⟨w.heap.size,0,none⟩) (n+1) (grownCap w (n+1) c t))∧
   w'=(((w.alloc (.cells ((cs.take i).toArray++Builtin.zeroCells (Value.int .i64 0).cells (n+1 - i)++Builtin.zeroCells (Value.int .i64 0).cells (grownCap w (n+1) c t - (n+1))) t)).drew.setCells w.heap.size i [v]).drew).setCells w.heap.size (i+1) (cs.drop i)
 cap:∀ (w:World) (n c:Nat),c<n→n≤1000001→n≤grownCap w n c t
theorem z97 (w:World) (b:Nat) (x y:Obj):World.setObj (World.setObj w b x) b y=World.setObj w b y:=by
 unfold World.setObj
 congr 1
 apply Array.ext_getElem?
 intro i
 simp only [Array.getElem?_setIfInBounds,Array.size_setIfInBounds]
 by_cases h:b=i
 ·subst h; simp
 ·simp [h]
theorem z3v (b:Nat) (t:TypeId):∀ (vs:List Value) (o:Nat) (w:World) (c:Array Value),w.heap[b]?=some (.cells c t (0,0))→o+vs.length≤c.size→
  ∃ c':Array Value,c'.size=c.size∧(∀ j,c'[j]?=if o≤j∧j<o+vs.length then vs[j - o]? else c[j]?)∧w.setCells b o vs=World.setObj w b (.cells c' t (0,0))
 |[],o,w,c,h,hl=>by
  refine ⟨c,rfl,fun j=>by simp; omega,?_⟩
  simp only [World.setCells,World.setObj]
  have hlt:b<w.heap.size:=(Array.getElem?_eq_some_iff.1 h).1
  have:w.heap.setIfInBounds b (.cells c t (0,0))=w.heap:=by
   apply Array.ext_getElem?
   intro i
   rw [Array.getElem?_setIfInBounds]
   by_cases hi:b=i
   ·subst hi; rw [h]; simp [hlt]
   ·simp [hi]
  rw [this]
 |v::vs,o,w,c,h,hl=>by
  have hlt:b<w.heap.size:=(Array.getElem?_eq_some_iff.1 h).1
  have h1:w.setCell ⟨b,o,none⟩ v=World.setObj w b (.cells (c.setIfInBounds o v) t (0,0)):=by
   unfold World.setCell World.setObj
   congr 1
   apply Array.ext_getElem?
   intro i
   rw [Array.getElem?_modify,Array.getElem?_setIfInBounds]
   by_cases hi:b=i
   ·subst hi; rw [h]; simp [hlt]
   ·simp [hi]
  simp only [List.length_cons] at hl
  obtain ⟨c',a1,a2,a3⟩:=z3v b t vs (o+1) (World.setObj w b (.cells (c.setIfInBounds o v) t (0,0))) (c.setIfInBounds o v) (z0l _ _ _ hlt) (by simp; omega)
  refine ⟨c',by rw [a1]; simp,fun j=>?_,by rw [World.setCells,h1,a3,z97]⟩
  rw [a2 j]
  by_cases hj:o+1≤j∧j<o+1+vs.length
  ·rw [if_pos hj,if_pos (by simp; omega)]
   rw [show j - o=(j - (o+1))+1 by omega]; rfl
  ·rw [if_neg hj,Array.getElem?_setIfInBounds]
   by_cases he:o=j
   ·subst he
    rw [if_pos rfl,if_pos (by omega),if_pos (by simp)]; simp
   ·rw [if_neg he,if_neg (by simp; omega)]
section
variable {P:Program}
theorem y2d {es:List (List D)} {x:D} {i:Nat} (hi:i≤es.length) (k:Nat):(es.take i++[x]::es.drop i)[k]?=if k<i then es[k]? else if k=i then some [x] else es[k - 1]?:=by
 rw [List.getElem?_append]
 have hl:(es.take i).length=i:=by simp; omega
 rw [hl]
 by_cases h1:k<i
 ·rw [if_pos h1,if_pos h1,List.getElem?_take,if_pos h1]
 ·rw [if_neg h1,if_neg h1]
  by_cases h2:k=i
  ·subst h2; simp
  ·rw [if_neg h2,show k - i=(k - i - 1)+1 by omega,List.getElem?_cons_succ,List.getElem?_drop]
   congr 1; omega
theorem w0n {f:FuncId} {t:TypeId} (hS:x84 P f t) {es:List (List D)} {x:D} {i:Nat} (hi:i≤es.length) (hn:es.length≤1000000):
  z89 P f [.slice 0 1 0 es.length none, .d (.int .i64 i), .slice 1 1 0 1 (some 1)] [.row es, .row [[x]]] (.slice 2 1 0 (es.length+1) none) [.dead, .row [[x]], .row (es.take i++[x]::es.drop i)]:=⟨by
 intro ρ vs w cs0 hr hdm har
 obtain ⟨hv1,hv2⟩:=har
 have hs1:vs.size=3:=hv1
 have hnew:ρ 2=none:=by
  cases hq:ρ 2 with
  |none=>rfl
  |some L=>have:=hdm 2 (by rw [hq]; simp); simp at this
 obtain ⟨L1,vc,hL1,hz1,hvs2⟩:∃ L vc,ρ 1=some L∧L.esz=1∧vs.getD 2 undef= .slice (some ⟨L.blk,L.base,none⟩) 1 vc:=by
  have hv:=hv2 2 _ rfl
  generalize hq:vs.getD 2 undef=q at hv
  cases hv with
  |slice _ _ _ _ _ L a c h1 h2 h3 h4 h5=>
   refine ⟨L,c,h1,h2,?_⟩
   rw [h3 (by omega)]; simp
 have hvs1:vs.getD 1 undef= .int .i64 i:=by
  have hv:=hv2 1 _ rfl
  generalize hq:vs.getD 1 undef=q at hv
  cases hv with|d hv=>cases hv; rfl
 obtain ⟨hlt1,ho1⟩:=hr.obj 1 L1 hL1
 obtain ⟨_,c1,t1,hcb1,_,hcell1⟩:=(show z1i P ρ _ w L1 (.row [[x]]) from ho1)
 obtain ⟨v,hv,hvone,hvrel⟩:=hcell1 0 [x] 0 x rfl rfl
 rw [hz1] at hv
 simp only [Nat.zero_mul,Nat.add_zero] at hv
 have hvc:w.cell? ⟨L1.blk,L1.base,none⟩=some v:=z7l hcb1 hv
 have hargs:∀ q,vs.getD 0 undef=q→vs=#[q, .int .i64 i, .slice (some ⟨L1.blk,L1.base,none⟩) 1 vc]:=by
  intro q hq
  apply Array.ext (by simpa using hs1)
  intro k h1 h2
  simp only [Array.getD_eq_getD_getElem?] at hq hvs1 hvs2
  match k,h1,h2 with
  |0,h1,h2=>rw [Array.getElem?_eq_getElem h1] at hq; simpa using hq
  |1,h1,h2=>rw [Array.getElem?_eq_getElem h1] at hvs1; simpa using hvs1
  |2,h1,h2=>rw [Array.getElem?_eq_getElem h1] at hvs2; simpa using hvs2
  |k+3,h1,h2=>simp at h2; omega
 have grown:∀ (c:Nat) (cs:List Value) (cells:Array Value) (d nc:Nat),cs.length=es.length→(∀ (k:Nat) (r:List D),es[k]?=some r→∃ y u,r=[y]∧cs[k]?=some u∧u.oneCell'=true∧z1l (z0g ρ [.row es, .row [[x]]]) w y u)→
   z0q w.drawn d→es.length+1≤nc→(∀ k,k<es.length+1→cells[k]?=if k<i then cs[k]? else if k=i then some v else cs[k - 1]?)→cells.size=nc→
   ∀ fr,Comes P (lone (Frame.enter P f vs .normal) cs0 w) (lone fr cs0 { World.push w (.cells cells t) with drawn:=d }) (.returned (.slice (some ⟨w.heap.size,0,none⟩) (es.length+1) nc))→fr.fn=f→fr.leaving P { World.push w (.cells cells t) with drawn:=d } (.returned (.slice (some ⟨w.heap.size,0,none⟩) (es.length+1) nc))→
   ∃ ρ' v w' fr,Steps P (lone (Frame.enter P f vs .normal) cs0 w) (lone fr cs0 w')∧fr.fn=f∧fr.leaving P w' (.returned v)∧z0n ρ' (z0g ρ' [.dead, .row [[x]], .row (es.take i++[x]::es.drop i)]) w' (.slice 2 1 0 (es.length+1) none) v∧
    z0b P ρ' [.dead, .row [[x]], .row (es.take i++[x]::es.drop i)] w'∧Dom ρ' [.dead, .row [[x]], .row (es.take i++[x]::es.drop i)]∧Ext (· <2) ρ [.row es, .row [[x]]] w ρ' [.dead, .row [[x]], .row (es.take i++[x]::es.drop i)] w':=by
  intro c cs cells d nc hcs hrows hd hnc hcells hsz fr h1 h2 h3
  have hr0:=hr.kill 0
  have hx0:=Ext.kill (· <2) ρ [.row es, .row [[x]]] w 0
  have hk0:=hx0.keep
  have hkp:=z5m hr0 hnew ⟨w.heap.size,0,1⟩ (.row (es.take i++[x]::es.drop i)) (.cells cells t) rfl
  have hobj:z1i P (ρ.put 2 ⟨w.heap.size,0,1⟩) (z0g (ρ.put 2 ⟨w.heap.size,0,1⟩) (z0y [.dead, .row [[x]]] 2 (.row (es.take i++[x]::es.drop i)))) (World.push w (.cells cells t)) ⟨w.heap.size,0,1⟩ (.row (es.take i++[x]::es.drop i)):=by
   refine ⟨Nat.one_pos,cells,t,z2n _ _,fun k r hk=>?_,fun k r j y hk hy=>?_⟩
   ·rw [y2d hi] at hk
    split at hk
    ·obtain ⟨y,_,rfl,_⟩:=hrows k r hk; rfl
    ·split at hk
     ·cases hk; rfl
     ·obtain ⟨y,_,rfl,_⟩:=hrows _ r hk; rfl
   ·have hkl:k<es.length+1:=by
     have:=(List.getElem?_eq_some_iff.1 hk).1
     simp at this; omega
    rw [Nat.mul_one,Nat.zero_add]
    rw [y2d hi] at hk
    have hc:=hcells k hkl
    have fin:∀ (y0:D) (u:Value),r=[y0]→u.oneCell'=true→z1l (z0g ρ [.row es, .row [[x]]]) w y0 u→cells[k]?=some u→∃ v,cells[k+j]?=some v∧v.oneCell'=true∧z1l (z0g (ρ.put 2 ⟨w.heap.size,0,1⟩) (z0y [.dead, .row [[x]]] 2 (.row (es.take i++[x]::es.drop i)))) (World.push w (.cells cells t)) y v:=by
     intro y0 u hr1 hu hrel hcu
     subst hr1
     cases j with
     |succ j=>simp at hy
     |zero=>simp at hy; subst hy; exact ⟨u,hcu,hu,(hrel.keep hk0).keep hkp⟩
    split at hk
    ·rename_i hlt
     obtain ⟨y0,u,hr1,hcu,hu,hrel⟩:=hrows k r hk
     exact fin y0 u hr1 hu hrel (by rw [hc,if_pos hlt]; exact hcu)
    ·rename_i hge
     split at hk
     ·rename_i hki
      cases hk
      exact fin x v rfl hvone hvrel (by rw [hc,if_neg hge,if_pos hki])
     ·rename_i hne
      obtain ⟨y0,u,hr1,hcu,hu,hrel⟩:=hrows _ r hk
      exact fin y0 u hr1 hu hrel (by rw [hc,if_neg hge,if_neg hne]; exact hcu)
  have hnw:=hr0.new hnew 1 _ _ hobj
  have hnw2:=hnw.drawn d hd
  refine ⟨ρ.put 2 ⟨w.heap.size,0,1⟩,_,_,fr,h1,h2,h3,?_,hnw2,?_,?_⟩
  ·refine .slice 2 1 0 _ none ⟨w.heap.size,0,1⟩ _ nc (Rho.put_same _ _ _) rfl (fun _=>by simp) (.inr ⟨rfl,nc,?_,by simp⟩) hnc
   show z1b (World.push w _) _=_
   rw [z0s (z2n _ _),hsz]
  ·intro id hid
   by_cases he:id=2
   ·subst he; simp
   ·rw [Rho.put_ne _ _ _ _ he] at hid
    have:=hdm id hid
    simp at this⊢; omega
  ·exact hx0.trans (((Ext.new hr0 hnew ⟨w.heap.size,0,1⟩ (.row (es.take i++[x]::es.drop i)) (.cells cells t) rfl).trans (Ext.drawn _ _ _ _ d hd)).mono (fun id hid=>by show id≠2; have hid:id<2:=hid; omega))
 have hv0:=hv2 0 _ rfl
 generalize hq0:vs.getD 0 undef=q0 at hv0
 have hva:=hargs q0 hq0
 have key:∀ n,n=es.length→z0n ρ (z0g ρ [.row es, .row [[x]]]) w (.slice 0 1 0 n none) q0→(n=0∧∃ a,q0= .slice a 0 0)∨(∃ L a c,ρ 0=some L∧L.esz=1∧q0= .slice a n c∧n≤c∧(0<c→a=some ⟨L.blk,L.base,none⟩)∧∃ m,z1b w L.blk=some m∧L.base+c≤m):=by
  intro n hn hv
  cases hv with
  |nils _ _ _ _ a _=>exact .inl ⟨rfl,_,rfl⟩
  |slice _ _ _ _ _ L a c h1 h2 h3 h4 h5=>
   rcases h4 with h4|⟨_,m,hm,hle⟩
   ·cases h4
   ·exact .inr ⟨L,a,c,h1,h2,rfl,h5,fun h=>by rw [h3 h]; simp,m,hm,by rw [h2] at hle; omega⟩
 rcases key _ rfl hv0 with ⟨h0,a,rfl⟩|⟨L,a,c,hL,hz,rfl,hnc,haa,m,hm,hroom⟩
 ·
  have hes:es=[]:=List.length_eq_zero_iff.1 h0
  have hi0:i=0:=by omega
  subst hes; subst hi0
  rw [hva] at grown⊢
  obtain ⟨e,w',fr,⟨rfl,hw'⟩,hcm,hfn,hlv⟩:=hS.last a 0 0 L1.blk L1.base vc [] v w (by omega) (by omega) (by omega) rfl (fun _=>rfl) (fun _ _ j u hj=>by simp at hj) hvc hvone cs0
  subst hw'
  have hcp:=hS.cap w 1 0 (by omega) (by omega)
  refine grown 0 [] _ (w.drawn+1) _ rfl (fun k r hk=>by simp at hk) (Nat.le_succ _) hcp (fun k hk=>?_) ?_ fr hcm hfn hlv
  ·have:k=0:=by simp at hk; omega
   subst this
   rw [Array.getElem?_append_left (by simp)]; simp
  ·simp [Builtin.zeroCells,Value.cells]; omega
 ·obtain ⟨hlt,ho⟩:=hr.obj 0 L hL
  obtain ⟨_,c0,t0,hcb,hlen,hcell⟩:=(show z1i P ρ _ w L (.row es) from ho)
  rw [hz] at hlen hcell
  rw [z0s hcb] at hm; cases hm
  have hrow:∀ (k:Nat) (r:List D),es[k]?=some r→∃ y u,r=[y]∧c0[L.base+k]?=some u∧u.oneCell'=true∧z1l (z0g ρ [.row es, .row [[x]]]) w y u:=by
   intro k r hk
   have hl:=hlen k r hk
   match r,hl with
   |[y],_=>
    obtain ⟨u,hu,h1,hrel⟩:=hcell k [y] 0 y hk rfl
    exact ⟨y,u,rfl,by simpa using hu,h1,hrel⟩
  let cs:=(c0.toList.drop L.base).take es.length
  have hcsg:∀ k,k<es.length→cs[k]?=c0[L.base+k]?:=by
   intro k hk
   show ((c0.toList.drop L.base).take es.length)[k]?=_
   rw [List.getElem?_take,if_pos hk,List.getElem?_drop]; simp
  have hcsl:cs.length=es.length:=by
   show ((c0.toList.drop L.base).take es.length).length=_
   rw [List.length_take,List.length_drop]; simp; omega
  have hcs1:∀ u∈cs,u.oneCell'=true:=by
   intro u hu
   obtain ⟨k,hk⟩:=List.getElem?_of_mem hu
   have hkl:k<es.length:=by rw [←hcsl]; exact (List.getElem?_eq_some_iff.1 hk).1
   obtain ⟨y,u',_,h2,h3,_⟩:=hrow k _ (List.getElem?_eq_getElem hkl)
   rw [hcsg k hkl,h2] at hk; cases hk; exact h3
  have hcsc:∀ j u,cs[j]?=some u→w.cell? ⟨L.blk,L.base+j,none⟩=some u:=by
   intro j u hj
   have hjl:j<es.length:=by rw [←hcsl]; exact (List.getElem?_eq_some_iff.1 hj).1
   rw [hcsg j hjl] at hj
   exact z7l hcb hj
  have hrows:∀ (k:Nat) (r:List D),es[k]?=some r→∃ y u,r=[y]∧cs[k]?=some u∧u.oneCell'=true∧z1l (z0g ρ [.row es, .row [[x]]]) w y u:=by
   intro k r hk
   obtain ⟨y,u,h1,h2,h3,h4⟩:=hrow k r hk
   exact ⟨y,u,h1,by rw [hcsg k (List.getElem?_eq_some_iff.1 hk).1]; exact h2,h3,h4⟩
  have hne:L1.blk≠L.blk:=fun e=>by have:=hr.inj 1 0 L1 L hL1 hL rfl rfl e; omega
  have place:∀ (c':Array Value) (d:Nat),c'.size=c0.size→z0q w.drawn d→(∀ k,k<es.length+1→c'[L.base+k]?=if k<i then cs[k]? else if k=i then some v else cs[k - 1]?)→a=some ⟨L.blk,L.base,none⟩→es.length+1≤c→
    ∀ fr,Comes P (lone (Frame.enter P f vs .normal) cs0 w) (lone fr cs0 (World.setObj { w with drawn:=d } L.blk (.cells c' t0 (0,0)))) (.returned (.slice a (es.length+1) c))→fr.fn=f→fr.leaving P (World.setObj { w with drawn:=d } L.blk (.cells c' t0 (0,0))) (.returned (.slice a (es.length+1) c))→
    ∃ ρ' v w' fr,Steps P (lone (Frame.enter P f vs .normal) cs0 w) (lone fr cs0 w')∧fr.fn=f∧fr.leaving P w' (.returned v)∧z0n ρ' (z0g ρ' [.dead, .row [[x]], .row (es.take i++[x]::es.drop i)]) w' (.slice 2 1 0 (es.length+1) none) v∧
     z0b P ρ' [.dead, .row [[x]], .row (es.take i++[x]::es.drop i)] w'∧Dom ρ' [.dead, .row [[x]], .row (es.take i++[x]::es.drop i)]∧Ext (· <2) ρ [.row es, .row [[x]]] w ρ' [.dead, .row [[x]], .row (es.take i++[x]::es.drop i)] w':=by
   intro c' d hsz hd hcells hae hroom1 fr h1 h2 h3
   have hr1:=hr.drawn d hd
   have hx1:Ext (· <2) ρ [.row es, .row [[x]]] w ρ [.row es, .row [[x]]] { w with drawn:=d }:=Ext.drawn _ _ _ _ d hd
   have hbs:∀ k,z1b { w with drawn:=d } L.blk=some k→z1b (World.setObj { w with drawn:=d } L.blk (.cells c' t0 (0,0))) L.blk=some k:=by
    intro k hk
    rw [z0s (w:={ w with drawn:=d }) hcb] at hk; cases hk
    rw [z0s (z0l { w with drawn:=d } L.blk _ hlt),hsz]
   obtain ⟨g1,g2⟩:=hr1.move hL rfl hnew L.base 1 (.row (es.take i++[x]::es.drop i)) rfl (.cells c' t0 (0,0)) hbs (fun kp=>by
    refine ⟨Nat.one_pos,c',t0,z0l _ _ _ hlt,fun k r hk=>?_,fun k r j y hk hy=>?_⟩
    ·rw [y2d hi] at hk
     split at hk
     ·obtain ⟨y,_,rfl,_⟩:=hrows k r hk; rfl
     ·split at hk
      ·cases hk; rfl
      ·obtain ⟨y,_,rfl,_⟩:=hrows _ r hk; rfl
    ·have hkl:k<es.length+1:=by
      have:=(List.getElem?_eq_some_iff.1 hk).1
      simp at this; omega
     rw [Nat.mul_one]
     rw [y2d hi] at hk
     have hc:=hcells k hkl
     have fin:∀ (y0:D) (u:Value),r=[y0]→u.oneCell'=true→z1l (z0g ρ [.row es, .row [[x]]]) w y0 u→c'[L.base+k]?=some u→∃ v,c'[L.base+k+j]?=some v∧v.oneCell'=true∧z1l (z0g (ρ.put 2 ⟨L.blk,L.base,1⟩) (z0y (z0y [.row es, .row [[x]]] 0 .dead) 2 (.row (es.take i++[x]::es.drop i)))) (World.setObj { w with drawn:=d } L.blk (.cells c' t0 (0,0))) y v:=by
      intro y0 u hr1 hu hrel hcu
      subst hr1
      cases j with
      |succ j=>simp at hy
      |zero=>simp at hy; subst hy; exact ⟨u,hcu,hu,(hrel.keep hx1.keep).keep kp⟩
     split at hk
     ·rename_i hlt
      obtain ⟨y0,u,hr1,hcu,hu,hrel⟩:=hrows k r hk
      exact fin y0 u hr1 hu hrel (by rw [hc,if_pos hlt]; exact hcu)
     ·rename_i hge
      split at hk
      ·rename_i hki
       cases hk
       exact fin x v rfl hvone hvrel (by rw [hc,if_neg hge,if_pos hki])
      ·rename_i hne
       obtain ⟨y0,u,hr1,hcu,hu,hrel⟩:=hrows _ r hk
       exact fin y0 u hr1 hu hrel (by rw [hc,if_neg hge,if_neg hne]; exact hcu))
   refine ⟨ρ.put 2 ⟨L.blk,L.base,1⟩,_,_,fr,h1,h2,h3,?_,g1,?_,hx1.trans (g2.mono (fun id hid=>by show id≠2; have hid:id<2:=hid; omega))⟩
   ·refine .slice 2 1 0 _ none ⟨L.blk,L.base,1⟩ _ c (Rho.put_same _ _ _) rfl (fun _=>by rw [hae]; simp) (.inr ⟨rfl,c0.size,?_,by simp; omega⟩) hroom1
    rw [z0s (z0l { w with drawn:=d } L.blk _ hlt),hsz]
   ·intro id hid
    by_cases he:id=2
    ·subst he; simp
    ·rw [Rho.put_ne _ _ _ _ he] at hid
     have:=hdm id hid
     simp at this⊢; omega
  have hin:∀ j,j<c→∃ u,c0[L.base+j]?=some u:=fun j hj=>⟨_,Array.getElem?_eq_getElem (by omega)⟩
  have hsp:∀ j,j<c→(w.cell? ⟨L.blk,L.base+j,none⟩).isSome=true:=fun j hj=>by
   obtain ⟨u,hu⟩:=hin j hj
   rw [z7l hcb hu]; rfl
  have hfz:∀ b ct tt,w.heap[b]?=some (.cells ct tt (0,0))→∀ k,w.frozen? ⟨b,k,none⟩=false:=fun b ct tt hb k=>by
   unfold World.frozen?; simp only [hb]; simp
  by_cases hfit:es.length+1≤c
  ·have hae:=haa (by omega)
   by_cases hlast:i=es.length
   ·
    have hva':vs=#[.slice (some ⟨L.blk,L.base,none⟩) es.length c, .int .i64 es.length, .slice (some ⟨L1.blk,L1.base,none⟩) 1 vc]:=by rw [hva,hae,hlast]
    obtain ⟨e,w',fr,⟨rfl,hw'⟩,hcm,hfn,hlv⟩:=hS.room L.blk L.base es.length c L1.blk L1.base vc v w hfit (by omega) (hsp _ (by omega)) (hfz _ _ _ hcb _) hvc hvone cs0
    rw [←hva'] at hcm
    obtain ⟨c',g1,g2,g3⟩:=z3v L.blk t0 [v] (L.base+es.length) w c0 hcb (by simp; omega)
    rw [g3] at hw'
    subst hw'
    refine place c' w.drawn g1 (z0q.refl _) (fun k hk=>?_) hae hfit fr (by rw [hae]; exact hcm) hfn (by rw [hae]; exact hlv)
    rw [g2]
    by_cases hki:k=es.length
    ·subst hki
     rw [if_pos (by simp),if_neg (by omega),if_pos hlast.symm]; simp
    ·rw [if_neg (by simp; omega),if_pos (by omega),hcsg k (by omega)]
   ·
    have hva':vs=#[.slice (some ⟨L.blk,L.base,none⟩) es.length c, .int .i64 i, .slice (some ⟨L1.blk,L1.base,none⟩) 1 vc]:=by rw [hva,hae]
    obtain ⟨e,w',fr,⟨rfl,hw'⟩,hcm,hfn,hlv⟩:=hS.shift L.blk L.base es.length c i L1.blk L1.base vc cs v w (by omega) hfit (by omega) hne hcsl hcsc (fun j hj=>hsp j (by omega)) (fun j _=>hfz _ _ _ hcb _) hvc hcs1 hvone
     (hfz _ _ _ hcb1) ⟨t1,c1.size,by unfold World.shape?; rw [hcb1]⟩ ⟨t0,c0.size,by unfold World.shape?; rw [hcb],by omega⟩ cs0
    rw [←hva'] at hcm
    have hcbd:w.drew.heap[L.blk]?=some (.cells c0 t0 (0,0)):=hcb
    have hdl:(cs.drop i).length=es.length - i:=by rw [List.length_drop,hcsl]
    obtain ⟨c',g1,g2,g3⟩:=z3v L.blk t0 (cs.drop i) (L.base+(i+1)) w.drew c0 hcbd (by rw [hdl]; omega)
    have hlt':L.blk<w.drew.heap.size:=hlt
    obtain ⟨c2,k1,k2,k3⟩:=z3v L.blk t0 [v] (L.base+i) (World.setObj w.drew L.blk (.cells c' t0 (0,0))) c' (z0l _ _ _ hlt') (by simp; omega)
    rw [g3,k3,z97] at hw'
    subst hw'
    refine place c2 (w.drawn+1) (k1.trans g1) (Nat.le_succ _) (fun k hk=>?_) hae hfit fr (by rw [hae]; exact hcm) hfn (by rw [hae]; exact hlv)
    rw [k2]
    by_cases hki:k=i
    ·subst hki
     rw [if_pos (by simp),if_neg (by omega),if_pos rfl]; simp
    ·rw [if_neg (by simp; omega),g2]
     by_cases hlt2:k<i
     ·rw [if_neg (by omega),if_pos hlt2,hcsg k (by omega)]
     ·rw [if_pos (by rw [hdl]; omega),if_neg hlt2,if_neg hki,List.getElem?_drop]
      congr 1; omega
  ·have hce:c=es.length:=by omega
   have hcap:=hS.cap w (es.length+1) c (by omega) (by omega)
   by_cases hlast:i=es.length
   ·
    have hva':vs=#[.slice a es.length c, .int .i64 es.length, .slice (some ⟨L1.blk,L1.base,none⟩) 1 vc]:=by rw [hva,hlast]
    obtain ⟨e,w',fr,⟨rfl,hw'⟩,hcm,hfn,hlv⟩:=hS.last a es.length c L1.blk L1.base vc cs v w hnc (by omega) (by omega) hcsl (fun ha=>by
      by_cases h0:0<c
      ·rw [haa h0] at ha; cases ha
      ·omega) (fun a' ha' j u hj=>by
      have hjl:j<es.length:=by rw [←hcsl]; exact (List.getElem?_eq_some_iff.1 hj).1
      rw [haa (by omega)] at ha'
      cases ha'
      rw [z38]; exact hcsc j u hj) hvc hvone cs0
    rw [←hva'] at hcm
    subst hw'
    refine grown c cs _ (w.drawn+1) _ hcsl hrows (Nat.le_succ _) hcap (fun k hk=>?_) ?_ fr hcm hfn hlv
    ·have hkk:k<(cs++[v]).length:=by simp [hcsl]; omega
     have e1:((cs++[v]).toArray++Builtin.zeroCells (Value.int .i64 0).cells (grownCap w (es.length+1) c t - (es.length+1)))[k]?=(cs++[v])[k]?:=by
      rw [Array.getElem?_append_left (by simpa using hkk)]; simp
     rw [e1,List.getElem?_append,hcsl]
     by_cases hkn:k<es.length
     ·rw [if_pos hkn,if_pos (by omega)]
     ·rw [if_neg hkn,if_neg (by omega),if_pos (by omega),show k - es.length=0 by omega]; rfl
    ·simp [Builtin.zeroCells,Value.cells,hcsl]; omega
   ·
    have hae:=haa (by omega)
    have hva':vs=#[.slice (some ⟨L.blk,L.base,none⟩) es.length c, .int .i64 i, .slice (some ⟨L1.blk,L1.base,none⟩) 1 vc]:=by rw [hva,hae]
    obtain ⟨e,w',fr,⟨rfl,hw'⟩,hcm,hfn,hlv⟩:=hS.grow L.blk L.base es.length c i L1.blk L1.base vc cs v w (by omega) hnc (by omega) (by omega) hcsl hcsc hvc hcs1 hvone cs0
    rw [←hva'] at hcm
    generalize hG:grownCap w (es.length+1) c t=G at hw' hcm hlv hcap
    generalize hROW:(cs.take i).toArray++Builtin.zeroCells (Value.int .i64 0).cells (es.length+1 - i)++Builtin.zeroCells (Value.int .i64 0).cells (G - (es.length+1))=ROW at hw'
    have hRs:ROW.size=G:=by
     rw [←hROW]; simp [Builtin.zeroCells,Value.cells,hcsl]; omega
    have hRg:∀ k,k<i→ROW[k]?=cs[k]?:=by
     intro k hk
     rw [←hROW,Array.append_assoc,Array.getElem?_append_left (by simp [hcsl]; omega)]
     simp [List.getElem?_take,hk]
    have hb0:(w.alloc (.cells ROW t)).drew.heap[w.heap.size]?=some (.cells ROW t (0,0)):=by
     show (w.heap.push _)[w.heap.size]?=_
     simp
    obtain ⟨c',g1,g2,g3⟩:=z3v w.heap.size t [v] i _ ROW hb0 (by simp; omega)
    have hdl:(cs.drop i).length=es.length - i:=by rw [List.length_drop,hcsl]
    have hb1:(World.setObj (w.alloc (.cells ROW t)).drew w.heap.size (.cells c' t (0,0))).drew.heap[w.heap.size]?=some (.cells c' t (0,0)):=by
     show (World.setObj (w.alloc (.cells ROW t)).drew w.heap.size (.cells c' t (0,0))).heap[w.heap.size]?=_
     exact z0l _ _ _ (by show _<(w.heap.push _).size; simp)
    obtain ⟨c2,k1,k2,k3⟩:=z3v w.heap.size t (cs.drop i) (i+1) _ c' hb1 (by rw [hdl,g1]; omega)
    rw [g3,k3] at hw'
    have hwe:World.setObj (World.setObj (w.alloc (.cells ROW t)).drew w.heap.size (.cells c' t (0,0))).drew w.heap.size (.cells c2 t (0,0))={ World.push w (.cells c2 t) with drawn:=w.drawn+2 }:=by
     unfold World.setObj World.drew World.alloc World.push
     simp only
     congr 1
     apply Array.ext_getElem?
     intro k
     simp only [Array.getElem?_setIfInBounds,Array.getElem?_push,Array.size_push,Array.size_setIfInBounds]
     by_cases hk:w.heap.size=k
     ·subst hk; simp
     ·have hk2:¬ k=w.heap.size:=fun e=>hk e.symm
      simp [hk,hk2]
    rw [hwe] at hw'
    subst hw'
    refine grown c cs c2 (w.drawn+2) G hcsl hrows (by show w.drawn≤_; omega) hcap (fun k hk=>?_) (by rw [k1,g1,hRs]) fr hcm hfn hlv
    rw [k2]
    by_cases hgt:i+1≤k
    ·rw [if_pos (by rw [hdl]; omega),if_neg (by omega),if_neg (by omega),List.getElem?_drop]
     congr 1; omega
    ·rw [if_neg (by omega),g2]
     by_cases hki:k=i
     ·subst hki
      rw [if_pos (by simp),if_neg (by omega),if_pos rfl]; simp
     ·rw [if_neg (by simp; omega),if_pos (by omega),hRg k (by omega)]⟩
end
end Go.Am
end
section
namespace Go.Proofs
open Go.Shelf Go.RowKit Go.Lib
def x6r:Go.Shelf.Ren:=⟨fun|39=>72|35=>103|28=>85|27=>84|21=>60|n=>n,fun|0=>0|4=>4|3=>3|22=>26|n=>n,fun|n=>n⟩
theorem x2e : Go.Proofs.Lays2.n21 Try.prog x6r :=
  { mixed := by kernel_rfl,
    f21 := by first | exact ⟨Try.f60.name, by decide, Try.func60.trans (congrArg some (by kernel_rfl))⟩ | exact Try.func60.trans (congrArg some (by kernel_rfl)),
    f27 := by first | exact ⟨Try.f84.name, by decide, Try.func84.trans (congrArg some (by kernel_rfl))⟩ | exact Try.func84.trans (congrArg some (by kernel_rfl)),
    f28 := by first | exact ⟨Try.f85.name, by decide, Try.func85.trans (congrArg some (by kernel_rfl))⟩ | exact Try.func85.trans (congrArg some (by kernel_rfl)),
    f35 := by first | exact ⟨Try.f103.name, by decide, Try.func103.trans (congrArg some (by kernel_rfl))⟩ | exact Try.func103.trans (congrArg some (by kernel_rfl)),
    f39 := by first | exact ⟨Try.f72.name, by decide, Try.func72.trans (congrArg some (by kernel_rfl))⟩ | exact Try.func72.trans (congrArg some (by kernel_rfl)),
    t0 := by exact Try.underlying0,
    a0 := by exact Try.isAgg0,
    z0 := by exact Try.sizeOf0,
    v0 := by exact Try.zeroValue0,
    t3 := by exact Try.underlying3,
    a3 := by exact Try.isAgg3,
    z3 := by exact Try.sizeOf3,
    v3 := by exact Try.zeroValue3,
    t4 := by exact Try.underlying4,
    a4 := by exact Try.isAgg4,
    z4 := by exact Try.sizeOf4,
    v4 := by exact Try.zeroValue4,
    t22 := by exact Try.underlying26,
    a22 := by exact Try.isAgg26,
    z22 := by exact Try.sizeOf26,
    v22 := by exact Try.zeroValue26,
    i3 := by kernel_rfl }
variable {P:Program} {ρ:Ren}
set_option maxHeartbeats 4000000 in
set_option maxRecDepth 100000 in
theorem x6v (L:Lays2.n21 P ρ) (b off n c i vb voff m vc:Nat) (cs vs:List Value) (w:World) (hi:i<n) (hm:0<m) (hroom:n+m≤c) (hc63:n+m≤9223372036854775807) (hvb:vb≠b)
  (hcl:cs.length=n) (hvl:vs.length=m) (hcs:∀ j v,cs[j]?=some v→w.cell? ⟨b,off+j,none⟩=some v) (hsp:∀ j,j<n+m→(w.cell? ⟨b,off+j,none⟩).isSome=true) (hfz:∀ j,j<n+m→w.frozen? ⟨b,off+j,none⟩=false)
  (hvs:∀ j v,vs[j]?=some v→w.cell? ⟨vb,voff+j,none⟩=some v) (h1c:∀ v∈cs,v.oneCell'=true) (h1v:∀ v∈vs,v.oneCell'=true)
  (tA tB:TypeId) (kA kB:Nat) (hsa:w.shape? vb=some (tA,kA)) (hsb:w.shape? b=some (tB,kB)) (hkB:kB≠0) (hfa:w.frozen? ⟨vb,voff,none⟩=false) (hfe:w.frozen? ⟨vb,kA,none⟩=false):
  Calls P (ρ.f 21) #[.slice (some ⟨b,off,none⟩) n c, .int .i64 i, .slice (some ⟨vb,voff,none⟩) m vc] w fun e w'=>
   e= .returned (.slice (some ⟨b,off,none⟩) (n+m) c)∧w'=(w.drew.setCells b (off+(i+m)) (cs.drop i)).setCells b (off+i) vs:=by
 have t0:=L.t0; have a0:=L.a0; have z0:=L.z0; have v0:=L.v0; have t3:=L.t3; have a3:=L.a3; have z3:=L.z3; have v3:=L.v3; have t4:=L.t4; have a4:=L.a4; have z4:=L.z4; have v4:=L.v4; have t22:=L.t22; have a22:=L.a22; have z22:=L.z22; have v22:=L.v22
 have u0:=run_underlying L.t0; have u3:=run_underlying L.t3; have u4:=run_underlying L.t4; have u22:=run_underlying L.t22
 have hz1:¬ ((m:Int)=0):=by omega
 have hz2:¬ ((i:Int)=(n:Int)):=by omega
 have hsz:(P.info? (ρ.t 3)).map (·.size)=some 1:=by
  obtain ⟨i0,hi0,h0,h1,h2⟩:=info_parts L.i3
  rw [hi0]; simp [h1]
 have hov:∀ lb cb,(callFunc (ρ.f 27) #[.slice (some ⟨vb,voff,none⟩) m vc, .slice (some ⟨b,off+(i+m),none⟩) lb cb]).run P w= .ok (.value (.bool false)) w:=fun lb cb=>by
  rw [run_callFunc_extern L.f27 (by kernel_rfl) (by kernel_rfl) (by kernel_rfl) (e:=Extern.SlicesOverlaps.overlaps #[(ρ.t 22),(ρ.t 22)] #[(ρ.t 4)]) (by kernel_rfl),
   Lib.run_overlaps_apart w (ρ.t 22) (ρ.t 4) (ρ.t 3) L.t22 1 L.z3 ⟨vb,voff,none⟩ ⟨b,off+(i+m),none⟩ m vc lb cb hvb tA tB kA kB hsa hsb hkB hfa hfe]
  rfl
 have hdl:(cs.drop i).length=n - i:=by rw [List.length_drop,hcl]
 have mixed:=L.mixed
 have hw1:IntKind.i64.wrap ((i:Int)+(m:Int))=(i:Int)+(m:Int):=by rw [IntKind.wrap_i64]; omega
 have hb1:(0:Int)≤(i:Int)+(m:Int):=by omega
 have hin:i≤n:=by omega
 have htn:((i:Int)+(m:Int)).toNat=i+m:=by omega
 have hb2:¬ (c=i+m):=by omega
 have hb3:(i:Int)≤(n:Int)+(m:Int):=by omega
 have hb4:¬ (c=i):=by omega
 have hcp1:∀ ty dc sc,(Builtin.copy_ #[(ρ.t 22),(ρ.t 22)] ty #[.slice (some ⟨b,off+(i+m),none⟩) (n+m - (i+m)) dc, .slice (some ⟨b,off+i,none⟩) (n+m - i) sc]).run P w.drew= .ok (goInt (cs.drop i).length) (w.drew.setCells b (off+(i+m)) (cs.drop i)):=fun ty dc sc=>
  run_copy_cells w.drew _ _ ty (ρ.t 3) b (off+(i+m)) (n+m - (i+m)) dc ⟨b,off+i,none⟩ (n+m - i) sc (cs.drop i) L.t22 hsz (by rw [hdl]; simp only [Nat.min_def]; split<;>omega)
   (fun j v hj=>by rw [Addr.add_lit,Nat.add_assoc]; exact hcs (i+j) v (by rwa [List.getElem?_drop] at hj))
   (fun j hj=>by rw [Nat.add_assoc]; exact hsp _ (by omega)) (fun j hj=>by rw [Nat.add_assoc]; exact hfz _ (by omega)) (fun v hv=>h1c v (List.mem_of_mem_drop hv))
 obtain ⟨W1,hW1⟩:∃ W1,W1=w.drew.setCells b (off+(i+m)) (cs.drop i):=⟨_,rfl⟩
 have hsp1:∀ k,k<n+m→(W1.cell? ⟨b,off+k,none⟩).isSome=true:=fun k hk=>by
  rw [hW1]
  exact isSome_setCells b _ _ _ (fun j hj=>by rw [Nat.add_assoc]; exact hsp _ (by omega)) _ (hsp k hk)
 have hcp2:∀ (W:World),(∀ x,W.cell? x=W1.cell? x)→(∀ x,W.frozen? x=W1.frozen? x)→∀ ty dc,(Builtin.copy_ #[(ρ.t 22),(ρ.t 22)] ty #[.slice (some ⟨b,off+i,none⟩) (n+m - i) dc, .slice (some ⟨vb,voff,none⟩) m vc]).run P W= .ok (goInt vs.length) (W.setCells b (off+i) vs):=fun W hWc hWf ty dc=>
  run_copy_cells W _ _ ty (ρ.t 3) b (off+i) (n+m - i) dc ⟨vb,voff,none⟩ m vc vs L.t22 hsz (by rw [hvl]; simp only [Nat.min_def]; split<;>omega)
   (fun j v hj=>by
    rw [Addr.add_lit,hWc,hW1,World.cell?_setCells_out b _ _ _ _ (fun h _=>absurd h hvb)]
    exact hvs j v hj)
   (fun j hj=>by rw [hWc,Nat.add_assoc]; exact hsp1 _ (by omega)) (fun j hj=>by rw [hWf,hW1,World.frozen?_setCells,Nat.add_assoc]; exact hfz _ (by omega)) h1v
 rw [←hW1] at hcp1
 go_enter L.f21,Body2.n21_ntmps ρ
 go_wp2_with (simp only [hov])
 go_region_law_o (refine step_copy_runI rfl _ _ (ρ.t 22) (ρ.t 22) rfl _ _ (by simp [Act.eval,Act.put]) (by simp [Act.eval,Act.put]) (hcp1 _ _ _) ?_)
 go_wp2_with (at_builtin; refine wpList_copy_runI _ rfl _ _ (ρ.t 22) (ρ.t 22) rfl _ _ rfl rfl (hcp2 _ (fun _=>rfl) (fun _=>rfl) _ _) ?_)
 go_ret
 first|exact ⟨rfl,rfl⟩|exact ⟨rfl,by rw [hW1]⟩
set_option maxHeartbeats 4000000 in
set_option maxRecDepth 100000 in
theorem w0m (L:Lays2.n21 P ρ) (b off n c vb voff m vc:Nat) (vs:List Value) (w:World) (hm:0<m) (hroom:n+m≤c) (hc63:n+m≤9223372036854775807)
  (hvl:vs.length=m) (hsp:∀ j,j<m→(w.cell? ⟨b,off+n+j,none⟩).isSome=true) (hfz:∀ j,j<m→w.frozen? ⟨b,off+n+j,none⟩=false)
  (hvs:∀ j v,vs[j]?=some v→w.cell? ⟨vb,voff+j,none⟩=some v) (h1v:∀ v∈vs,v.oneCell'=true):
  Calls P (ρ.f 21) #[.slice (some ⟨b,off,none⟩) n c, .int .i64 n, .slice (some ⟨vb,voff,none⟩) m vc] w fun e w'=>
   e= .returned (.slice (some ⟨b,off,none⟩) (n+m) c)∧w'=w.setCells b (off+n) vs:=by
 have t0:=L.t0; have a0:=L.a0; have z0:=L.z0; have v0:=L.v0; have t3:=L.t3; have a3:=L.a3; have z3:=L.z3; have v3:=L.v3; have t4:=L.t4; have a4:=L.a4; have z4:=L.z4; have v4:=L.v4; have t22:=L.t22; have a22:=L.a22; have z22:=L.z22; have v22:=L.v22
 have u0:=run_underlying L.t0; have u3:=run_underlying L.t3; have u4:=run_underlying L.t4; have u22:=run_underlying L.t22
 have mixed:=L.mixed
 have hz1:¬ ((m:Int)=0):=by omega
 have hsrc:Src P 1 (ρ.t 22) (.slice (some ⟨vb,voff,none⟩) m vc) m vs w:=Src.ofSlice w L.t22 ⟨vb,voff,none⟩ m vc vs (by omega) (fun j u hj=>by rw [Addr.add_lit]; exact hvs j u hj) h1v
 go_enter L.f21,Body2.n21_ntmps ρ
 go_wp2_with (at_builtin; refine wpList_append_room1 _ rfl _ _ (ρ.t 22) (ρ.t 22) rfl (ρ.t 3) _ _ L.t22 L.i3 b off n c rfl _ rfl m vs hsrc hroom (by rw [hvl]; exact hsp) (by rw [hvl]; exact hfz) ?_)
 go_ret
 exact ⟨rfl,rfl⟩
end Go.Proofs
namespace Go.Am
open Go.Proofs Go.Shelf
theorem w5b:x84 Try.prog 60 3 where
 shift:=fun b off n c i vb voff vc cs v w h1 h2 h3 h4 h5 h6 h7 h8 h9 h10 h11 h12 ⟨tA,kA,h13⟩ ⟨tB,kB,h14,h15⟩=>x6v x2e b off n c i vb voff 1 vc cs [v] w h1 (by omega) h2 h3 h4 h5 rfl h6 h7 h8 (fun j u hj=>by
  cases j with
  |zero=>cases hj; exact h9
  |succ j=>simp at hj) h10 (by simpa using h11) tA tB kA kB h13 h14 h15 (h12 _) (h12 _)
 room:=fun b off n c vb voff vc v w h1 h2 h3 h4 h5 h6=>w0m x2e b off n c vb voff 1 vc [v] w (by omega) h1 h2 rfl (fun j hj=>by
   have:j=0:=by omega
   subst this; exact h3) (fun j hj=>by
   have:j=0:=by omega
   subst this; exact h4) (fun j u hj=>by
   cases j with
   |zero=>cases hj; exact h5
   |succ j=>simp at hj) (by simpa using h6)
 last:=fun base n c vb voff vc cs v w h1 h2 h3 h4 h5 h6 h7 h8=>Any2.slices_Insert_int_end_grow x2e base n c vb voff 1 vc cs [v] w (by omega) h1 h2 h3 h4 rfl h5 h6 (fun j u hj=>by
  cases j with
  |zero=>cases hj; exact h7
  |succ j=>simp at hj) (by simpa using h8)
 grow:=fun b off n c i vb voff vc cs v w h1 h2 h3 h4 h5 h6 h7 h8 h9=>Any2.slices_Insert_int_grow x2e b off n c i vb voff 1 vc cs [v] w h1 (by omega) h2 h3 h4 h5 rfl h6 (fun j u hj=>by
  cases j with
  |zero=>cases hj; exact h7
  |succ j=>simp at hj) h8 (by simpa using h9)
 cap:=fun w n c h1 h2=>by unfold grownCap; simp [Question.cut]
noncomputable def y0n:Ctr:=
 ⟨60,[.vec 0 1, .int .i64, .full 1 1],[.row [(Go.Am.CK.int Go.IntKind.i64)], .row [(Go.Am.CK.int Go.IntKind.i64)]],[(.ret,⟨[(0, .vec 2 1)],[.dead, .row [(Go.Am.CK.int Go.IntKind.i64)], .row [(Go.Am.CK.int Go.IntKind.i64)]],1⟩)]⟩
def q60 (x:List (List D)×(List (List D)×(Int×Unit))):Option (List (List D)×(List (List D)×Unit)):=
 match x.2.1 with
 |[[v]]=>bif decide (0≤x.2.2.1)&&(Nat.ble x.2.2.1.toNat x.1.length&&Nat.ble x.1.length 1000000) then some ([[v]],(x.1.take x.2.2.1.toNat++[v]::x.1.drop x.2.2.1.toNat,())) else none
 |_=>none
noncomputable def G60:(p:Prim)→(List (List D)×(List (List D)×(Int×Unit)))→Option (List (List D)×(List (List D)×Unit)):=
 fun p x=>q60 x
noncomputable def F60:Prim→Tup (y0n).scs→Option (STup (scss (y0n).outs)):=
 fun p x=>G60 p x
theorem w02:z2h Go.Proofs.Try.prog 60:=enters_auto (b:=_) rfl (by kernel_rfl)
theorem ok60:CtrOk Go.Proofs.Try.prog y0n (F60 std):=by
 have key:∀ (es r:List (List D)) (i:Int) (y:STup (scss (y0n).outs)),q60 (es,(r,(i,())))=some y→(y37 std y0n (y0u (y0n).scs (es,(r,(i,()))))).2.length≤(z1h std (y0n).outs y).2.s.heap.length∧
   z89 Try.prog 60 (y37 std y0n (y0u (y0n).scs (es,(r,(i,()))))).1 (y37 std y0n (y0u (y0n).scs (es,(r,(i,()))))).2 (z1a (z1h std (y0n).outs y).2.s.env 0) (z1h std (y0n).outs y).2.s.heap:=by
  intro es r i y hy
  unfold q60 at hy
  simp only at hy
  match r,hy with
  |[[v]],hy=>
   simp only at hy
   cases hb:(decide (0≤i)&&(Nat.ble i.toNat es.length&&Nat.ble es.length 1000000)) with
   |false=>rw [hb] at hy; cases hy
   |true=>
    rw [hb] at hy; cases hy
    simp only [Bool.and_eq_true,decide_eq_true_eq] at hb
    obtain ⟨h0,h1,h2⟩:=hb
    have h1:=Nat.le_of_ble_eq_true h1
    have h2:=Nat.le_of_ble_eq_true h2
    have hi:((i.toNat:Nat):Int)=i:=by omega
    have:=w0n w5b (es:=es) (x:=v) (i:=i.toNat) h1 h2
    have hl:es.length+1=(es.take i.toNat++[v]::es.drop i.toNat).length:=by simp; omega
    rw [hl,hi] at this
    exact ⟨(by show 2≤3; omega),this⟩
 exact ⟨w02,fun x y hy=>key x.1 x.2.1 x.2.2.1 y hy⟩
end Go.Am
end
noncomputable section
namespace Go.Am
def w6g:Ctr:=
 ⟨26,[.list 1],[],[(.ret,⟨[(0, .tuple [.vec 0 1, .int .i64])],[.row [ci]],1⟩)]⟩
def la26:List LA:=
 [⟨26,[false,true,false,true,true,true,true,true],0,⟨⟨[(6, .bptr 0 0),(7, .vec 2 1),(23, .int .i64),(24, .int .i64)],[.box [.clo 57 [.bptr 1 0] []], .row [ci], .row [ci]],37⟩,[((AX.exit 0),⟨[(7, .vec 0 1)],[.row [ci]],37⟩)]⟩⟩,
 ⟨58,[false,true,false,true],4,⟨⟨[(0, .vec 2 1),(1, .clo 59 [] [.bptr 0 0, .bptr 3 0]),(7, .vec 2 1),(8, .int .i64),(9, .int .i64)],[.box [.clo 57 [.bptr 1 0] []], .row [ci], .row [ci], .box [.int .i64]],21⟩,[(AX.ret,⟨[(4, .int .i64)],[.box [.clo 57 [.bptr 1 0] []], .row [ci], .row [ci], .box [.int .i64]],21⟩),((AX.exit 0),⟨[(0, .vec 2 1)],[.box [.clo 57 [.bptr 1 0] []], .row [ci], .row [ci], .box [.int .i64]],21⟩)]⟩⟩]
def ja26:List JA:=
 [⟨26,[false,true,true,false,false,true,false,true,true,true,true,true],0,[(AX.normal,⟨[(6, .bptr 0 0),(7, .vec 1 1),(23, .int .i64),(24, .int .i64)],[.box [.clo 57 [.bptr 2 0] []], .row [ci], .row [ci]],37⟩)]⟩]
def v4p:List CF:=
 [⟨y0n,F60⟩,⟨w1k,G54⟩]
def an26:Anns:=
 ⟨v4p,ja26,[]⟩
def x42 (p:Prim):(LD×(LD×T4))→Option ((LD×(LD×T4))⊕((LD×(LD×T3))⊕(LD×(LD×T1)))):=
 fun a=>opt.run _ (
 opt.ask _ (p.cmp .lss a.2.2.2.2.1 a.2.2.2.1) (
 opt.need _ (bif (p.cmp .geq a.2.2.2.2.1 (0:Int)) then (p.cmp .lss a.2.2.2.2.1 (p.ofNat (p.len a.2.1))) else Bool.false)<|
 opt.need _ (p.rowOk a.2.1 (p.add 0 (p.nat a.2.2.2.2.1)) [ci])<|
 opt.need _ (bif (p.cmp .geq a.2.2.1 (0:Int)) then (p.cmp .lss a.2.2.1 (p.ofNat 10)) else Bool.false)<|
 opt.need _ (bif (p.cmp .geq (p.rdI a.2.1 (p.add 0 (p.nat a.2.2.2.2.1)) 0) (0:Int)) then (p.cmp .lss (p.rdI a.2.1 (p.add 0 (p.nat a.2.2.2.2.1)) 0) (p.ofNat 10)) else Bool.false)<|
 opt.need _ (p.rowOk a.1 (p.add (p.add 1 (p.mul (p.nat a.2.2.1) 10)) (p.nat (p.rdI a.2.1 (p.add 0 (p.nat a.2.2.2.2.1)) 0))) [ci])<|
 opt.ask _ (p.cmp .eql (p.rdI a.1 (p.add (p.add 1 (p.mul (p.nat a.2.2.1) 10)) (p.nat (p.rdI a.2.1 (p.add 0 (p.nat a.2.2.2.2.1)) 0))) 0) (1:Int)) (
 opt.ret _ (Sum.inr (Sum.inl (a.1,(a.2.1,(a.2.2.1,(a.2.2.2.2.1,()))))))) (
 opt.need _ (p.eqN 0 0)<|
 opt.need _ (p.eqN (p.len a.2.1) (p.len a.2.1))<|
 opt.need _ (p.eqN 0 0)<|
 opt.need _ (p.eqN (p.len a.2.1) (p.len a.2.1))<|
 opt.ret _ (Sum.inl (a.1,(a.2.1,(a.2.2.1,(a.2.2.2.1,((p.ar .add .i64 a.2.2.2.2.1 (1:Int)),())))))))) (
 opt.need _ (p.eqN 0 0)<|
 opt.need _ (p.eqN (p.len a.2.1) (p.len a.2.1))<|
 opt.ret _ (Sum.inr (Sum.inr (a.1,(a.2.1,(a.2.2.1,())))))))
def y9j (it:It) (p:Prim):(LD×(LD×T3))→Option ((LD×(LD×T3))⊕(LD×Unit)):=
 fun a=>opt.run _ (
 opt.ask _ (p.cmp .lss a.2.2.2.1 a.2.2.1) (
 opt.bnd ((LD×(LD×T3))) _ (
 opt.run ((LD×(LD×T3))) (
 opt.need _ (p.eqN 0 0)<|
 opt.need _ (p.eqN (p.len a.2.1) (p.len a.2.1))<|
 opt.need _ (p.eqN 0 0)<|
 opt.need _ (p.eqN (p.len a.2.1) (p.len a.2.1))<|
 opt.alt ((LD×(LD×T3))) ((LD×(LD×T1))) _ (
 it _ _ (x42 p) (a.1,(a.2.1,(a.2.2.2.1,((p.ofNat (p.len a.2.1)),((0:Int),())))))) (fun b=>
 opt.need _ (p.eqN 0 0)<|
 opt.need _ (p.eqN (p.len a.2.1) (p.len b.2.1))<|
 opt.need _ (p.eqN 0 0)<|
 opt.need _ (p.eqN 1 (p.len [[(D.int .i64 b.2.2.1)]]))<|
 opt.need _ (p.eqN 1 (p.len [[(D.int .i64 b.2.2.1)]]))<|
 opt.bnd ((LD×(LD×Unit))) _ (G60 p (b.2.1,([[(D.int .i64 b.2.2.1)]],(b.2.2.2.1,())))) fun c=>
 opt.need _ (p.eqN 0 0)<|
 opt.need _ (p.eqN (p.len c.2.1) (p.len c.2.1))<|
 opt.ret _ (c.2.1,(b.1,(a.2.2.1,(a.2.2.2.1,()))))) (fun d=>
 opt.bnd ((LD×(LD×T1))) _ (some d) fun e=>
 opt.need _ (p.eqN 0 0)<|
 opt.need _ (p.eqN (p.len a.2.1) (p.len e.2.1))<|
 opt.need _ (p.eqN 0 0)<|
 opt.need _ (p.eqN 1 (p.len [[(D.int .i64 e.2.2.1)]]))<|
 opt.need _ (p.eqN 1 (p.len [[(D.int .i64 e.2.2.1)]]))<|
 opt.bnd ((LD×(LD×Unit))) _ (G60 p (e.2.1,([[(D.int .i64 e.2.2.1)]],((p.ofNat (p.len e.2.1)),())))) fun f=>
 opt.need _ (p.eqN 0 0)<|
 opt.need _ (p.eqN (p.len f.2.1) (p.len f.2.1))<|
 opt.ret _ (f.2.1,(e.1,(a.2.2.1,(a.2.2.2.1,()))))))) fun g=>
 opt.need _ (p.eqN 0 0)<|
 opt.need _ (p.eqN (p.len g.1) (p.len g.1))<|
 opt.ret _ (Sum.inl (g.2.1,(g.1,(g.2.2.1,((p.ar .add .i64 g.2.2.2.1 (1:Int)),())))))) (
 opt.need _ (p.eqN 0 0)<|
 opt.need _ (p.eqN (p.len a.2.1) (p.len a.2.1))<|
 opt.ret _ (Sum.inr (a.2.1,()))))
def g26 (it:It):(p:Prim)→(LD×Unit)→Option ((LD×T1)):=
 fun p x=>
 opt.alt T2 ((LD×T1)) _ (g54 it p (x.1,())) (fun a=>
 opt.ask _ (p.cmp .neq a.1 (0:Int)) (
 opt.ret _ ([],(a.1,()))) (
 opt.no _ 41)) (fun b=>
 opt.bnd ((LD×T1)) _ (some b) fun c=>
 opt.ask _ (p.cmp .neq c.2.1 (0:Int)) (
 opt.ret _ ([],(c.2.1,()))) (
 opt.need _ (p.rowOk c.1 0 [ci])<|
 opt.bnd ((LD×Unit)) _ (
 it _ _ (y9j it p) (c.1,([],((p.rdI c.1 0 0),((0:Int),()))))) fun d=>
 opt.need _ (p.eqN 0 0)<|
 opt.need _ (p.eqN (p.len d.1) (p.len d.1))<|
 opt.ret _ (d.1,((0:Int),()))))
def G26:=g26 it0
theorem v6q:CtrOk PG w6g (G26 std):=okF (a:=an26) (l:=la26) (gC ok60 (gC v2b (gN))) (by kernel_rfl) fun _ _=>by kernel_rfl
end Go.Am
end
section
namespace Go.Am
open T11
variable {fl:List Int→Bool}
def y36 (P:Int→Bool):List Int→Nat
 |[]=>0
 |x::l=>bif P x then 0 else y36 P l+1
theorem y3o (P:Int→Bool) (l:List Int):y36 P l≤l.length:=by
 induction l with
 |nil=>exact Nat.le_refl _
 |cons x l ih=>rw [y36]; cases P x<;>simp<;>omega
theorem x2l (P:Int→Bool) (l:List Int):∀ j,j<y36 P l→P (gI l j)=false:=by
 induction l with
 |nil=>intro j hj; simp [y36] at hj
 |cons x l ih=>
  intro j hj
  rw [y36] at hj
  cases hx:P x with
  |true=>rw [hx] at hj; simp at hj
  |false=>
   rw [hx] at hj
   cases j with
   |zero=>exact hx
   |succ j=>exact ih j (by simpa using hj)
theorem x0x (P:Int→Bool) (l:List Int):y36 P l<l.length→P (gI l (y36 P l))=true:=by
 induction l with
 |nil=>intro h; simp at h
 |cons x l ih=>
  intro h
  rw [y36] at h⊢
  cases hx:P x with
  |true=>exact hx
  |false=>
   rw [hx] at h
   exact ih (by simpa using h)
theorem w5p (P:Int→Bool) (l:List Int) (i:Nat) (hi:i<l.length) (h1:P (gI l i)=true) (h2:∀ j,j<i→P (gI l j)=false):y36 P l=i:=by
 rcases Nat.lt_trichotomy (y36 P l) i with h|h|h
 ·have:=x0x P l (by omega)
  rw [h2 _ h] at this; cases this
 ·exact h
 ·rw [x2l P l i h] at h1; cases h1
theorem w0s (P:Int→Bool) (l:List Int) (h:∀ j,j<l.length→P (gI l j)=false):y36 P l=l.length:=by
 refine Nat.le_antisymm (y3o P l) (Nat.le_of_not_lt fun hlt=>?_)
 have:=x0x P l hlt
 rw [h _ hlt] at this; cases this
def x92 (d:List (List Int)) (i:Nat) (l:List Int):List Int:=l.take (y36 (fun x=>bt d i x.toNat) l)++(i:Int)::l.drop (y36 (fun x=>bt d i x.toNat) l)
def z5s (d:List (List Int)):Nat→List Int
 |0=>[]
 |i+1=>x92 d i (z5s d i)
theorem x91 (d:List (List Int)) (i:Nat) (l:List Int):(x92 d i l).length=l.length+1:=by
 have:=y3o (fun x=>bt d i x.toNat) l
 simp [x92]; omega
theorem y0d (d:List (List Int)) (n:Nat):(z5s d n).length=n:=by
 induction n with
 |zero=>rfl
 |succ n ih=>rw [z5s,x91,ih]
theorem y8o (d:List (List Int)) (n:Nat):(z5s d n).Perm (y2m n):=by
 induction n with
 |zero=>exact .refl _
 |succ n ih=>
  rw [z5s,x92,y9q]
  refine List.perm_middle.trans ?_
  rw [List.take_append_drop]
  exact (ih.cons _).trans (List.perm_append_singleton _ _).symm
theorem y0e (d:List (List Int)) (n:Nat) {q:Nat} (hq:q<n):0≤gI (z5s d n) q∧gI (z5s d n) q<n:=
 x3a.1 ((y8o d n).mem_iff.1 (List.mem_of_getElem? (z2f (by rw [y0d]; exact hq))))
theorem w2x (d:List (List Int)) (i:Nat) (l:List Int) (q:Nat):
  gI (x92 d i l) q=if q<y36 (fun x=>bt d i x.toNat) l then gI l q else if q=y36 (fun x=>bt d i x.toNat) l then (i:Int) else gI l (q - 1):=by
 have hle:=y3o (fun x=>bt d i x.toNat) l
 have e:gI (x92 d i l) q=((x92 d i l)[q]?).getD 0:=by rw [gI,List.getD_eq_getElem?_getD]
 rw [e,x92]
 generalize y36 (fun x=>bt d i x.toNat) l=a at hle⊢
 have hl:(l.take a).length=a:=by rw [List.length_take]; omega
 rw [List.getElem?_append,hl]
 by_cases h1:q<a
 ·rw [if_pos h1,if_pos h1,List.getElem?_take_of_lt h1,gI,List.getD_eq_getElem?_getD]
 ·rw [if_neg h1,if_neg h1]
  by_cases h2:q=a
  ·subst h2; rw [if_pos rfl,Nat.sub_self]; rfl
  ·rw [if_neg h2]
   obtain ⟨m,rfl⟩:∃ m,q=a+m+1:=⟨q - a - 1,by omega⟩
   rw [show a+m+1 - a=m+1 by omega,List.getElem?_cons_succ,List.getElem?_drop,Nat.add_sub_cancel,gI,List.getD_eq_getElem?_getD]
theorem x34 {d:List (List Int)} (ht:z9y (bt d) d.length) (n:Nat) (hn:n≤d.length):∀ j,j+1<n→bt d (gI (z5s d n) j).toNat (gI (z5s d n) (j+1)).toNat=true:=by
 induction n with
 |zero=>intro j hj; omega
 |succ n ih=>
  have ih:=ih (by omega)
  intro j hj
  rw [z5s,w2x,w2x]
  have hn1:=x2l (fun x=>bt d n x.toNat) (z5s d n)
  have hn2:=x0x (fun x=>bt d n x.toNat) (z5s d n)
  have hle:=y3o (fun x=>bt d n x.toNat) (z5s d n)
  rw [y0d] at hn2 hle
  generalize y36 (fun x=>bt d n x.toNat) (z5s d n)=a at hn1 hn2 hle⊢
  by_cases h1:j+1<a
  ·rw [if_pos (by omega),if_pos h1]; exact ih j (by omega)
  ·by_cases h2:j+1=a
   ·rw [if_pos (by omega),if_neg (by omega),if_pos h2]
    have h3:=hn1 j (by omega)
    have hg:=y0e d n (q:=j) (by omega)
    rw [show ((n:Int)).toNat=n by omega,ht.2 _ n (by omega) (by omega) (by omega),h3]; rfl
   ·by_cases h3:j=a
    ·rw [if_neg (by omega),if_pos h3,if_neg (by omega),if_neg (by omega),Nat.add_sub_cancel]
     have:=hn2 (by omega)
     subst h3
     rw [show ((n:Int)).toNat=n by omega]; exact this
    ·rw [if_neg (by omega),if_neg (by omega),if_neg (by omega),if_neg (by omega)]
     have:=ih (j - 1) (by omega)
     rwa [show j - 1+1=j by omega] at this
theorem w18 (d:List (List Int)) (n:Int) (i:Nat) (l:List Int) (hi:i<10) (hl:l.length≤1000) (hg:∀ q,q<l.length→0≤gI l q∧gI l q<10):
  z46 (x42 std) (fld n (bt d),(z0f l,((i:Int),((l.length:Int),((0:Int),())))))=
   if y36 (fun x=>bt d i x.toNat) l<l.length then some (.inl (fld n (bt d),(z0f l,((i:Int),((y36 (fun x=>bt d i x.toNat) l:Int),()))))) else some (.inr (fld n (bt d),(z0f l,((i:Int),())))):=by
 have key:=z34 (b:=x42 std) l.length (fun j=>(fld n (bt d),(z0f l,((i:Int),((l.length:Int),((j:Int),())))))) (fun j=>bt d i (gI l j).toNat) (fun j=> .inl (fld n (bt d),(z0f l,((i:Int),((j:Int),()))))) (.inr (fld n (bt d),(z0f l,((i:Int),())))) (fun j hj=>by
  have hx:=z2f hj
  have hw:=z06 (i:=j) (by omega)
  have hlt:(j:Int)<l.length:=by omega
  have h0:(0:Int)≤j:=by omega
  have h1:(0:Int)≤i:=by omega
  have h2:(i:Int)<((10:Nat):Int):=by omega
  obtain ⟨a0,a1⟩:=hg j hj
  have a2:gI l j<((10:Nat):Int):=by omega
  have hf:=w2z (d:=d) (n:=n) (i:=i) (k:=(gI l j).toNat) hi (by omega)
  generalize fld n (bt d)=F at hf⊢
  revert hf
  cases bt d i (gI l j).toNat<;>intro hf<;>simp only [x42,z1m,z1n,z0f,z0r,z2u,z7k,x7v,eq_self,not_true,not_false_eq_true,decide_true,decide_false,Bool.not_true,Bool.not_false,Int.reduceLT,Int.reduceNeg,Int.reduceGT,cond_true,cond_false,hx,hlt,h0,h1,h2,a0,a2,hf,ge_iff_le,z0j,hw]<;>rfl) (by
  have hn:¬ (l.length:Int)<l.length:=by omega
  simp only [x42,z1m,z1n,hn,decide_true])
 rcases key with ⟨j,h1,h2,h3,h4⟩|⟨h1,h2⟩
 ·have e:=w5p (fun x=>bt d i x.toNat) l j h1 h2 h3
  rw [e,if_pos h1]; exact h4
 ·have e:=w0s (fun x=>bt d i x.toNat) l h1
  rw [e,if_neg (by omega)]; exact h2
theorem v0o (l:List Int) (v:Int) (a:Nat) (h:a≤l.length) (hl:l.length≤1000):G60 std (z0f l,([[D.int IntKind.i64 v]],((a:Int),())))=some ([[D.int IntKind.i64 v]],(z0f (l.take a++v::l.drop a),())):=by
 have h1:Nat.ble a (z0f l).length=true:=Nat.ble_eq_true_of_le (by rw [z0t]; exact h)
 have h2:Nat.ble (z0f l).length 1000000=true:=Nat.ble_eq_true_of_le (by rw [z0t]; omega)
 have h0:decide ((0:Int)≤(a:Int))=true:=decide_eq_true (by omega)
 have e:((a:Nat):Int).toNat=a:=by omega
 simp only [G60,q60,e,h1,h2,h0,Bool.and_self,cond_true]
 simp [z0f,List.map_take,List.map_drop,eI]
theorem v0p (d:List (List Int)) (hr:∀ l∈d,l.length≤1000000):G26 std (z0x fl d,())=some (if z02 d=0 then (z0f (z5s d d.length),((0:Int),())) else ([],(z02 d,()))):=by
 have h54:g54 it0 std (z0x fl d,())=_:=x86 d hr
 unfold G26
 by_cases h:z02 d=0
 ·rw [if_pos h] at h54⊢
  have hl:=z21 h
  have hf0:(fld d.length (bt d))[0]?=some (eI d.length):=rfl
  have key:=z40 (b:=y9j it0 std) d.length (fun i=>(fld d.length (bt d),(z0f (z5s d i),((d.length:Int),((i:Int),()))))) (z0f (z5s d d.length),()) (fun i hi=>by
   have hw:=z06 (i:=i) (by omega)
   have hlt:(i:Int)<d.length:=by omega
   have hol:=y0d d i
   have h1:it0 _ _ (x42 std) (fld d.length (bt d),(z0f (z5s d i),((i:Int),(((z5s d i).length:Int),((0:Int),())))))=_:=w18 d d.length i (z5s d i) (by omega) (by omega) fun q hq=>by
    have:=y0e d i (q:=q) (by omega); omega
   have hle:=y3o (fun x=>bt d i x.toNat) (z5s d i)
   have h60:=v0o (z5s d i) i _ hle (by omega)
   rw [←x92] at h60
   have hel:=z0t (z5s d i)
   rw [z5s]
   by_cases c:y36 (fun x=>bt d i x.toNat) (z5s d i)<(z5s d i).length
   ·rw [if_pos c] at h1
    simp only [y9j,z1m,z1n,eq_self,not_true,not_false_eq_true,decide_true,decide_false,Bool.not_true,Bool.not_false,Int.reduceLT,Int.reduceNeg,Int.reduceGT,cond_true,cond_false,hlt,hel,h1,h60,z0j,hw]
   ·have e:y36 (fun x=>bt d i x.toNat) (z5s d i)=(z5s d i).length:=by omega
    rw [if_neg c] at h1
    rw [e] at h60
    simp only [y9j,z1m,z1n,eq_self,not_true,not_false_eq_true,decide_true,decide_false,Bool.not_true,Bool.not_false,Int.reduceLT,Int.reduceNeg,Int.reduceGT,cond_true,cond_false,hlt,hel,h1,h60,z0j,hw]) (by
   have hn:¬ (d.length:Int)<d.length:=by omega
   simp only [y9j,z1m,z1n,eq_self,not_true,not_false_eq_true,decide_true,decide_false,Bool.not_true,Bool.not_false,Int.reduceLT,Int.reduceNeg,Int.reduceGT,cond_true,cond_false,hn])
  have key':it0 _ _ (y9j it0 std) (fld d.length (bt d),([],((d.length:Int),((0:Int),()))))=some (z0f (z5s d d.length),()):=key
  simp only [g26,z1m,z1n,eq_self,not_true,not_false_eq_true,decide_true,decide_false,Bool.not_true,Bool.not_false,Int.reduceLT,Int.reduceNeg,Int.reduceGT,cond_true,cond_false,h54,h,hf0,z0r,z2u,key',ne_eq]
 ·rw [if_neg h] at h54⊢
  simp only [g26,z1m,z1n,eq_self,not_true,not_false_eq_true,decide_true,decide_false,Bool.not_true,Bool.not_false,Int.reduceLT,Int.reduceNeg,Int.reduceGT,cond_true,cond_false,h54,h,ne_eq]
end Go.Am
end
section
namespace Go.Am
noncomputable def x71:Ctr:=
 ⟨15,[.agg [.int .i64, .int .i64, .int .i64, .list 3]],[],[(.ret,⟨[(0, .tuple [.list 1, .int .i64])],[],1⟩)]⟩
noncomputable def x70:Ctr:=
 ⟨17,[.agg [.int .i64, .int .i64, .int .i64, .list 3]],[],[(.ret,⟨[(0, .tuple [.list 1, .int .i64])],[],1⟩)]⟩
noncomputable def G15:(p:Prim)→(Int×(Int×(Int×(List (List D)×Unit))))→Option (List (List D)×(Int×Unit)):=
 fun p x=>bodyRun opt std (autoEnvD [] Go.Proofs.Try.prog) (w7w opt) 3000 x71 x
noncomputable def G17:(p:Prim)→(Int×(Int×(Int×(List (List D)×Unit))))→Option (List (List D)×(Int×Unit)):=
 fun p x=>bodyRun opt std (autoEnvD [] Go.Proofs.Try.prog) (w7w opt) 3000 x70 x
noncomputable def F15:Prim→Tup (x71).scs→Option (STup (scss (x71).outs)):=fun p x=>G15 p x
noncomputable def F17:Prim→Tup (x70).scs→Option (STup (scss (x70).outs)):=fun p x=>G17 p x
theorem w05:z2h Go.Proofs.Try.prog 15:=enters_auto (b:=_) rfl (by kernel_rfl)
theorem w04:z2h Go.Proofs.Try.prog 17:=enters_auto (b:=_) rfl (by kernel_rfl)
theorem ok15:CtrOk Go.Proofs.Try.prog x71 (F15 std):=ctr_of_body (autoEnvD_ok follows_mixed) x0l w05 fun x=>rfl
theorem ok17:CtrOk Go.Proofs.Try.prog x70 (F17 std):=ctr_of_body (autoEnvD_ok follows_mixed) x0l w04 fun x=>rfl
end Go.Am
end
noncomputable section
namespace Go.Am
def w9p:Ctr:=
 ⟨41,[],[],[(.ret,⟨[(0, .list 1)],[],1⟩)]⟩
def la41:List LA:=
 []
def ja41:List JA:=
 []
def v4d:List CF:=
 []
def an41:Anns:=
 ⟨v4d,ja41,[]⟩
def G41:(p:Prim)→Unit→Option ((LD×Unit)):=
 fun p x=>
 opt.need _ (p.leN (p.add 0 4) (p.len [[(D.list Bool.true 1 [[k1k]])],[(D.list Bool.true 1 [[k3k],k4k])],[(D.list Bool.true 1 [k0k,k4k])],[(D.list Bool.true 1 [k0k])]]))<|
 opt.ret _ ((p.cut [[(D.list Bool.true 1 [[k1k]])],[(D.list Bool.true 1 [[k3k],k4k])],[(D.list Bool.true 1 [k0k,k4k])],[(D.list Bool.true 1 [k0k])]] 0 4),())
theorem ok41:CtrOk PG w9p (G41 std):=okF (a:=an41) (l:=la41) (gN) (by kernel_rfl) fun _ _=>by kernel_rfl
def w9o:Ctr:=
 ⟨45,[],[],[(.ret,⟨[(0, .agg [.int .i64, .int .i64, .int .i64, .list 3])],[],1⟩)]⟩
def la45:List LA:=
 []
def ja45:List JA:=
 []
def v4c:List CF:=
 []
def an45:Anns:=
 ⟨v4c,ja45,[]⟩
def G45:(p:Prim)→Unit→Option T25:=
 fun p x=>
 opt.need _ (p.leN (p.add 0 5) (p.len [[k2k,k2k,k1k],[k2k,k1k,k3k],[k2k,k3k,k2k],[k1k,k2k,k1k],[k1k,k1k,k2k]]))<|
 opt.ret _ ((3:Int),((2:Int),((0:Int),((p.cut [[k2k,k2k,k1k],[k2k,k1k,k3k],[k2k,k3k,k2k],[k1k,k2k,k1k],[k1k,k1k,k2k]] 0 5),()))))
theorem ok45:CtrOk PG w9o (G45 std):=okF (a:=an45) (l:=la45) (gN) (by kernel_rfl) fun _ _=>by kernel_rfl
end Go.Am
end
noncomputable section
namespace Go.Am
def w9x:Ctr:=
 ⟨14,[],[],[(.ret,⟨[(0, .bool)],[],1⟩)]⟩
def la14:List LA:=
 []
def ja14:List JA:=
 [⟨14,[false,false,true,true,true,true,true,true,true,true,true,true,true,true],0,[(AX.normal,⟨[(1, .list 1),(3, .list 1),(5, .vec 0 1),(7, .int .i64),(10, .vec 1 1),(12, .list 1),(14, .list 1),(18, .list 1),(115, .bool)],[.row [ci], .row [ci]],168⟩)]⟩,
 ⟨14,[false,true,true,true,true,true,true,true,true,true,true,true,true,true,true],0,[(AX.normal,⟨[(0, .bool)],[],168⟩)]⟩]
def v4u:List CF:=
 [⟨w9t,G29⟩,⟨w9v,G25⟩,⟨w9w,G22⟩,⟨w1l,G21⟩,⟨w9q,G33⟩,⟨w9u,G28⟩,⟨w9r,G31⟩,⟨w9s,G30⟩,⟨w6d,G37⟩,⟨w6g,G26⟩,⟨w6h,G24⟩,⟨w6e,G36⟩,⟨x7z,G35⟩,⟨w9p,G41⟩,⟨x70,F17⟩,⟨x71,F15⟩,⟨w9o,G45⟩]
def an14:Anns:=
 ⟨v4u,ja14,[]⟩
def g14 (it:It):(p:Prim)→Unit→Option T0:=
 fun p x=>
 opt.bnd T25 _ (G45 p ()) fun a=>
 opt.bnd ((LD×T1)) _ (G15 p (a.1,(a.2.1,(a.2.2.1,(a.2.2.2.1,()))))) fun b=>
 opt.bnd T25 _ (G45 p ()) fun c=>
 opt.bnd ((LD×T1)) _ (G17 p (c.1,(c.2.1,(c.2.2.1,(c.2.2.2.1,()))))) fun d=>
 opt.bnd ((LD×Unit)) _ (G41 p ()) fun e=>
 opt.bnd ((LD×T1)) _ (g35 it p (e.1,())) fun f=>
 opt.bnd ((LD×Unit)) _ (G41 p ()) fun g=>
 opt.bnd T6 _ (g36 it p (g.1,())) fun h=>
 opt.bnd ((LD×Unit)) _ (G41 p ()) fun i=>
 opt.bnd T2 _ (g24 it p (i.1,([k0k,[k1k],[k3k],k4k],()))) fun j=>
 opt.bnd ((LD×Unit)) _ (G41 p ()) fun k=>
 opt.bnd ((LD×T1)) _ (g26 it p (k.1,())) fun l=>
 opt.bnd ((LD×Unit)) _ (G41 p ()) fun m=>
 opt.bnd ((LD×T1)) _ (g37 it p (m.1,())) fun n=>
 opt.bnd ((LD×T1)) _ (g30 it p ([[k1k],[k1k],[k1k]],())) fun o=>
 opt.bnd ((LD×T1)) _ (g30 it p ([k0k,k0k,k4k],())) fun q=>
 opt.bnd ((LD×T1)) _ (g31 it p ([k0k,k0k,k4k],())) fun r=>
 opt.bnd T2 _ (g28 it p ([k0k,k0k,k4k],([k0k,[k1k]],()))) fun t=>
 opt.bnd ((LD×(LD×(LD×(LD×T36))))) _ (
 opt.run ((LD×(LD×(LD×(LD×T36))))) (
 opt.ask _ (p.cmp .neq b.2.1 (0:Int)) (
 opt.need _ (p.eqN 0 0)<|
 opt.need _ (p.eqN (p.len f.1) (p.len f.1))<|
 opt.need _ (p.eqN 0 0)<|
 opt.need _ (p.eqN (p.len l.1) (p.len l.1))<|
 opt.ret _ (f.1,(l.1,(b.1,(d.1,(h.1,(n.1,(o.1,(r.1,(Bool.true,())))))))))) (
 opt.ask _ (p.cmp .neq d.2.1 (0:Int)) (
 opt.need _ (p.eqN 0 0)<|
 opt.need _ (p.eqN (p.len f.1) (p.len f.1))<|
 opt.need _ (p.eqN 0 0)<|
 opt.need _ (p.eqN (p.len l.1) (p.len l.1))<|
 opt.ret _ (f.1,(l.1,(b.1,(d.1,(h.1,(n.1,(o.1,(r.1,(Bool.true,())))))))))) (
 opt.ask _ (p.cmp .neq f.2.1 (0:Int)) (
 opt.need _ (p.eqN 0 0)<|
 opt.need _ (p.eqN (p.len f.1) (p.len f.1))<|
 opt.need _ (p.eqN 0 0)<|
 opt.need _ (p.eqN (p.len l.1) (p.len l.1))<|
 opt.ret _ (f.1,(l.1,(b.1,(d.1,(h.1,(n.1,(o.1,(r.1,(Bool.true,())))))))))) (
 opt.ask _ (p.cmp .neq h.2.1 (0:Int)) (
 opt.need _ (p.eqN 0 0)<|
 opt.need _ (p.eqN (p.len f.1) (p.len f.1))<|
 opt.need _ (p.eqN 0 0)<|
 opt.need _ (p.eqN (p.len l.1) (p.len l.1))<|
 opt.ret _ (f.1,(l.1,(b.1,(d.1,(h.1,(n.1,(o.1,(r.1,(Bool.true,())))))))))) (
 opt.ask _ (p.cmp .neq j.1 (0:Int)) (
 opt.need _ (p.eqN 0 0)<|
 opt.need _ (p.eqN (p.len f.1) (p.len f.1))<|
 opt.need _ (p.eqN 0 0)<|
 opt.need _ (p.eqN (p.len l.1) (p.len l.1))<|
 opt.ret _ (f.1,(l.1,(b.1,(d.1,(h.1,(n.1,(o.1,(r.1,(Bool.true,())))))))))) (
 opt.ask _ (p.cmp .neq l.2.1 (0:Int)) (
 opt.need _ (p.eqN 0 0)<|
 opt.need _ (p.eqN (p.len f.1) (p.len f.1))<|
 opt.need _ (p.eqN 0 0)<|
 opt.need _ (p.eqN (p.len l.1) (p.len l.1))<|
 opt.ret _ (f.1,(l.1,(b.1,(d.1,(h.1,(n.1,(o.1,(r.1,(Bool.true,())))))))))) (
 opt.ask _ (p.cmp .neq n.2.1 (0:Int)) (
 opt.need _ (p.eqN 0 0)<|
 opt.need _ (p.eqN (p.len f.1) (p.len f.1))<|
 opt.need _ (p.eqN 0 0)<|
 opt.need _ (p.eqN (p.len l.1) (p.len l.1))<|
 opt.ret _ (f.1,(l.1,(b.1,(d.1,(h.1,(n.1,(o.1,(r.1,(Bool.true,())))))))))) (
 opt.ask _ (p.cmp .neq o.2.1 (0:Int)) (
 opt.need _ (p.eqN 0 0)<|
 opt.need _ (p.eqN (p.len f.1) (p.len f.1))<|
 opt.need _ (p.eqN 0 0)<|
 opt.need _ (p.eqN (p.len l.1) (p.len l.1))<|
 opt.ret _ (f.1,(l.1,(b.1,(d.1,(h.1,(n.1,(o.1,(r.1,(Bool.true,())))))))))) (
 opt.ask _ (p.cmp .neq q.2.1 (13:Int)) (
 opt.need _ (p.eqN 0 0)<|
 opt.need _ (p.eqN (p.len f.1) (p.len f.1))<|
 opt.need _ (p.eqN 0 0)<|
 opt.need _ (p.eqN (p.len l.1) (p.len l.1))<|
 opt.ret _ (f.1,(l.1,(b.1,(d.1,(h.1,(n.1,(o.1,(r.1,(Bool.true,())))))))))) (
 opt.ask _ (p.cmp .neq r.2.1 (0:Int)) (
 opt.need _ (p.eqN 0 0)<|
 opt.need _ (p.eqN (p.len f.1) (p.len f.1))<|
 opt.need _ (p.eqN 0 0)<|
 opt.need _ (p.eqN (p.len l.1) (p.len l.1))<|
 opt.ret _ (f.1,(l.1,(b.1,(d.1,(h.1,(n.1,(o.1,(r.1,(Bool.true,())))))))))) (
 opt.need _ (p.eqN 0 0)<|
 opt.need _ (p.eqN (p.len f.1) (p.len f.1))<|
 opt.need _ (p.eqN 0 0)<|
 opt.need _ (p.eqN (p.len l.1) (p.len l.1))<|
 opt.ret _ (f.1,(l.1,(b.1,(d.1,(h.1,(n.1,(o.1,(r.1,((p.cmp .neq t.1 (0:Int)),()))))))))))))))))))))) fun u=>
 opt.ask _ u.2.2.2.2.2.2.2.2.1 (
 opt.ret _ (Bool.false,())) (
 opt.bnd ((LD×T1)) _ (g33 it p (u.2.2.2.2.2.2.1,())) fun v=>
 opt.bnd T0 _ (
 opt.run T0 (
 opt.ask _ (p.cmp .eql v.2.1 (0:Int)) (
 opt.need _ (p.and (p.leN (p.add 0 (p.len v.1)) (p.len v.1)) (p.and Bool.true Bool.true))<|
 opt.bnd T0 _ (g21 it p ((p.cut v.1 0 (p.len v.1)),([[k1k],[k1k],[k1k]],()))) fun w=>
 opt.ask _ w.1 (
 opt.bnd T0 _ (g21 it p (u.2.2.1,([k0k,[k1k]],()))) fun z=>
 opt.ask _ z.1 (
 opt.bnd T0 _ (g22 it p (u.2.2.2.1,([[(D.list Bool.true 1 [[k1k]])],[(D.list Bool.true 1 [[k3k]])],[(D.list Bool.true 1 [k0k])]],()))) fun a1=>
 opt.ask _ a1.1 (
 opt.need _ (p.and (p.leN (p.add 0 (p.len u.1)) (p.len u.1)) (p.and Bool.true Bool.true))<|
 opt.bnd T0 _ (g21 it p ((p.cut u.1 0 (p.len u.1)),([[k1k],[k3k],[k3k],[k1k]],()))) fun b1=>
 opt.ask _ b1.1 (
 opt.ask _ (p.cmp .eql u.2.2.2.2.1 (2:Int)) (
 opt.bnd ((LD×Unit)) _ (G41 p ()) fun c1=>
 opt.need _ (p.and Bool.true (p.and (p.leN (p.add 0 (p.len u.2.1)) (p.len u.2.1)) Bool.true))<|
 opt.bnd T2 _ (g25 it p (c1.1,((p.cut u.2.1 0 (p.len u.2.1)),()))) fun d1=>
 opt.ask _ (p.cmp .eql d1.1 (0:Int)) (
 opt.bnd T0 _ (g22 it p (u.2.2.2.2.2.1,([[(D.list Bool.true 1 [k0k,[k1k],[k3k],k4k])]],()))) fun e1=>
 opt.ask _ e1.1 (
 opt.bnd T2 _ (g29 it p ([k0k,k0k,k4k],(u.2.2.2.2.2.2.2.1,()))) fun f1=>
 opt.ret _ ((p.cmp .eql f1.1 (0:Int)),())) (
 opt.ret _ (Bool.false,()))) (
 opt.ret _ (Bool.false,()))) (
 opt.ret _ (Bool.false,()))) (
 opt.ret _ (Bool.false,()))) (
 opt.ret _ (Bool.false,()))) (
 opt.ret _ (Bool.false,()))) (
 opt.ret _ (Bool.false,()))) (
 opt.ret _ (Bool.false,())))) fun g1=>
 opt.ret _ (g1.1,()))
def G14:=g14 it0
theorem ok14:CtrOk PG w9x (G14 std):=okF (a:=an14) (l:=la14) (gC ok29 (gC ok25 (gC ok22 (gC v2c (gC ok33 (gC ok28 (gC ok31 (gC ok30 (gC v6n (gC v6q (gC v6r (gC v6o (gC v03 (gC ok41 (gC ok17 (gC ok15 (gC ok45 (gN)))))))))))))))))) (by kernel_rfl) fun _ _=>by kernel_rfl
end Go.Am
end
section
namespace Go.Am
theorem v08 {i j:It} (h:i.Le j):∀ s,le (g21 i std s) (g21 j std s):=fun _=>z0w (le_refl _) (z2b (h _ _ _ _ _ (fun _=>le_refl _)) (fun _=>le_refl _) (fun _=>le_refl _))
theorem w8i {i j:It} (h:i.Le j):∀ s,le (w6t i std s) (w6t j std s):=fun _=>z12 (z0w (z0a (z0a (z0a (z0a (z0d (v08 h _) (fun _=>le_refl _)))))) (le_refl _))
theorem v6y {i j:It} (h:i.Le j):∀ s,le (g22 i std s) (g22 j std s):=fun _=>z0w (le_refl _) (z2b (h _ _ _ _ _ (w8i h)) (fun _=>le_refl _) (fun _=>le_refl _))
theorem v6w {i j:It} (h:i.Le j):∀ s,le (g38 i std s) (g38 j std s):=fun _=>z2b (h _ _ _ _ _ (fun _=>le_refl _)) (fun _=>le_refl _) (fun _=>le_refl _)
theorem v06 {i j:It} (h:i.Le j):∀ s,le (g40 i std s) (g40 j std s):=fun _=>z2b (h _ _ _ _ _ (fun _=>le_refl _)) (fun _=>le_refl _) (fun _=>le_refl _)
theorem w8c {i j:It} (h:i.Le j):∀ s,le (w6o i std s) (w6o j std s):=fun _=>z12 (z0w (z0d (v06 h _) (fun _=>z0d (v06 h _) (fun _=>le_refl _))) (le_refl _))
theorem w8d {i j:It} (h:i.Le j):∀ s,le (w6p i std s) (w6p j std s):=fun _=>z12 (z0w (z2b (z12 (z0d (v06 h _) (fun _=>z0w (le_refl _) (z2b (h _ _ _ _ _ (w8c h)) (fun _=>le_refl _) (fun _=>le_refl _))))) (fun _=>le_refl _) (fun _=>le_refl _)) (le_refl _))
theorem w8e {i j:It} (h:i.Le j):∀ s,le (w6q i std s) (w6q j std s):=fun _=>z12 (z0w (z0a (z0a (z0d (v6w h _) (fun _=>le_refl _)))) (le_refl _))
theorem v07 {i j:It} (h:i.Le j):∀ s,le (g27 i std s) (g27 j std s):=fun _=>z0d (le_refl _) (fun _=>z0w (le_refl _) (z2b (h _ _ _ _ _ (w8e h)) (fun _=>le_refl _) (fun _=>z0d (le_refl _) (fun _=>z2b (h _ _ _ _ _ (w8d h)) (fun _=>le_refl _) (fun _=>le_refl _)))))
theorem mg33 {i j:It} (h:i.Le j):∀ s,le (g33 i std s) (g33 j std s):=fun _=>z0d (v07 h _) (fun _=>z0w (z0d (v07 h _) (fun _=>le_refl _)) (z0d (h _ _ _ _ _ (fun _=>le_refl _)) (fun _=>le_refl _)))
theorem w8g {i j:It} (h:i.Le j):∀ s,le (w6r i std s) (w6r j std s):=fun _=>z12 (z0w (z0a (z0a (z0a (z0a (z0d (v06 h _) (fun _=>le_refl _)))))) (le_refl _))
theorem w8h {i j:It} (h:i.Le j):∀ s,le (w6s i std s) (w6s j std s):=fun _=>z12 (z0w (z2b (z12 (z0d (le_refl _) (fun _=>z0w (le_refl _) (z2b (h _ _ _ _ _ (fun _=>le_refl _)) (fun _=>le_refl _) (fun _=>le_refl _))))) (fun _=>le_refl _) (fun _=>le_refl _)) (le_refl _))
theorem mg25 {i j:It} (h:i.Le j):∀ s,le (g25 i std s) (g25 j std s):=fun _=>z0d (v07 h _) (fun _=>z0w (z0d (v07 h _) (fun _=>le_refl _)) (z0w (le_refl _) (z2b (h _ _ _ _ _ (w8h h)) (fun _=>le_refl _) (fun _=>z0d (le_refl _) (fun _=>z2b (h _ _ _ _ _ (w8g h)) (fun _=>le_refl _) (fun _=>le_refl _))))))
theorem v6v {i j:It} (h:i.Le j):∀ s,le (g62 i std s) (g62 j std s):=fun _=>z0d (le_refl _) (fun _=>z0w (le_refl _) (z2b (h _ _ _ _ _ (fun _=>le_refl _)) (fun _=>le_refl _) (fun _=>le_refl _)))
theorem mg63 {i j:It} (h:i.Le j):∀ s,le (g63 i std s) (g63 j std s):=fun _=>z0d (h _ _ _ _ _ (fun _=>le_refl _)) (fun _=>le_refl _)
theorem mg29 {i j:It} (h:i.Le j):∀ s,le (g29 i std s) (g29 j std s):=fun _=>z0d (v6v h _) (fun _=>z0w (z0d (v6v h _) (fun _=>le_refl _)) (z0d (v6w h _) (fun _=>z0w (le_refl _) (z0d (mg63 h _) (fun _=>le_refl _)))))
theorem mg52 {i j:It} (h:i.Le j):∀ s,le (g52 i std s) (g52 j std s):=fun _=>z2b (h _ _ _ _ _ (fun _=>le_refl _)) (fun _=>le_refl _) (fun _=>le_refl _)
theorem v05 {i j:It} (h:i.Le j):∀ s,le (g56 i std s) (g56 j std s):=fun _=>z2b (h _ _ _ _ _ (fun _=>le_refl _)) (fun _=>le_refl _) (fun _=>le_refl _)
theorem mg70 {i j:It} (h:i.Le j):∀ s,le (g70 i std s) (g70 j std s):=fun _=>z0d (h _ _ _ _ _ (fun _=>le_refl _)) (fun _=>le_refl _)
theorem v2s {i j:It} (h:i.Le j):∀ s,le (g61 i std s) (g61 j std s):=fun _=>z0d (le_refl _) (fun _=>z2b (z12 (z0w (le_refl _) (z0d (mg52 h _) (fun _=>le_refl _)))) (fun _=>le_refl _) (fun _=>le_refl _))
theorem w76 {i j:It} (h:i.Le j):∀ s,le (y69 i std s) (y69 j std s):=fun _=>z12 (z0w (z2b (h _ _ _ _ _ (fun _=>le_refl _)) (fun _=>le_refl _) (fun _=>le_refl _)) (le_refl _))
theorem w77 {i j:It} (h:i.Le j):∀ s,le (y7a i std s) (y7a j std s):=fun _=>z12 (z0w (z0a (z0a (z0d (v05 h _) (fun _=>z0w (le_refl _) (z0d (h _ _ _ _ _ (fun _=>le_refl _)) (fun _=>le_refl _)))))) (le_refl _))
theorem v2u {i j:It} (h:i.Le j):∀ s,le (g54 i std s) (g54 j std s):=fun _=>z0d (le_refl _) (fun _=>z0w (le_refl _) (z2b (h _ _ _ _ _ (w77 h)) (fun _=>le_refl _) (fun _=>z0d (le_refl _) (fun _=>z2b (h _ _ _ _ _ (fun _=>le_refl _)) (fun _=>le_refl _) (fun _=>z0d (le_refl _) (fun _=>z0a (z2b (h _ _ _ _ _ (w76 h)) (fun _=>le_refl _) (fun _=>le_refl _))))))))
theorem w8a {i j:It} (h:i.Le j):∀ s,le (x07 i std s) (x07 j std s):=fun _=>z12 (z0w (z0a (z0a (z0a (z0d (mg70 h _) (fun _=>le_refl _))))) (le_refl _))
theorem v2v {i j:It} (h:i.Le j):∀ s,le (g35 i std s) (g35 j std s):=fun _=>z2b (v2u h _) (fun _=>le_refl _) (fun _=>z0d (le_refl _) (fun _=>z0w (le_refl _) (z0a (z0a (z0a (z0a (z0a (z0d (h _ _ _ _ _ (w8a h)) (fun _=>le_refl _)))))))))
theorem mg36 {i j:It} (h:i.Le j):∀ s,le (g36 i std s) (g36 j std s):=fun _=>z0d (v2v h _) (fun _=>z0w (le_refl _) (z0a (z0a (z0a (z0d (h _ _ _ _ _ (fun _=>le_refl _)) (fun _=>le_refl _))))))
theorem w4u {i j:It} (h:i.Le j):∀ s,le (z7o i std s) (z7o j std s):=fun _=>z12 (z0w (z0a (z0a (z0a (z0d (h _ _ _ _ _ (fun _=>le_refl _)) (fun _=>le_refl _))))) (le_refl _))
theorem v2n {i j:It} (h:i.Le j):∀ s,le (w5m i std s) (w5m j std s):=fun _=>z0a (z0a (z0a (z0d (h _ _ _ _ _ (w4u h)) (fun _=>le_refl _))))
theorem w4y {i j:It} (h:i.Le j):∀ s,le (y9i i std s) (y9i j std s):=fun _=>z12 (z0w (z0a (z0a (z0a (z0d (v2n h _) (fun _=>le_refl _))))) (le_refl _))
theorem v2q {i j:It} (h:i.Le j):∀ s,le (w80 i std s) (w80 j std s):=fun _=>z0a (z0a (z0a (z0d (h _ _ _ _ _ (w4y h)) (fun _=>le_refl _))))
theorem w72 {i j:It} (h:i.Le j):∀ s,le (w5n i std s) (w5n j std s):=fun _=>z0d (le_refl _) (fun _=>z0a (z0a (z0a (z0d (v2q h _) (fun _=>le_refl _)))))
theorem w4t {i j:It} (h:i.Le j):∀ s,le (z7n i std s) (z7n j std s):=fun _=>z12 (z0w (z0a (z0a (z0d (h _ _ _ _ _ (fun _=>le_refl _)) (fun _=>le_refl _)))) (le_refl _))
theorem v2m {i j:It} (h:i.Le j):∀ s,le (w5k i std s) (w5k j std s):=fun _=>z0a (z0a (z0d (h _ _ _ _ _ (w4t h)) (fun _=>le_refl _)))
theorem w4x {i j:It} (h:i.Le j):∀ s,le (y9h i std s) (y9h j std s):=fun _=>z12 (z0w (z0a (z0a (z0d (v2m h _) (fun _=>le_refl _)))) (le_refl _))
theorem v2p {i j:It} (h:i.Le j):∀ s,le (w8z i std s) (w8z j std s):=fun _=>z0a (z0a (z0d (h _ _ _ _ _ (w4x h)) (fun _=>le_refl _)))
theorem v2t {i j:It} (h:i.Le j):∀ s,le (w7c i std s) (w7c j std s):=fun _=>z0d (le_refl _) (fun _=>z0a (z0a (z0d (v2p h _) (fun _=>le_refl _))))
theorem w4z {i j:It} (h:i.Le j):∀ s,le (z7p i std s) (z7p j std s):=fun _=>z12 (z0w (z0a (z0a (z0d (h _ _ _ _ _ (fun _=>le_refl _)) (fun _=>le_refl _)))) (le_refl _))
theorem w73 {i j:It} (h:i.Le j):∀ s,le (w2y i std s) (w2y j std s):=fun _=>z0a (z0a (z0d (h _ _ _ _ _ (w4z h)) (fun _=>le_refl _)))
theorem w74 {i j:It} (h:i.Le j):∀ s,le (x8f i std s) (x8f j std s):=fun _=>z12 (z0w (z0a (z0a (z0d (h _ _ _ _ _ (fun _=>le_refl _)) (fun _=>le_refl _)))) (le_refl _))
theorem w75 {i j:It} (h:i.Le j):∀ s,le (x8g i std s) (x8g j std s):=fun _=>z12 (z0w (z0a (z0a (z0d (w73 h _) (fun _=>le_refl _)))) (le_refl _))
theorem mg86 {i j:It} (h:i.Le j):∀ s,le (g86 i std s) (g86 j std s):=fun _=>z0a (z0a (z0d (h _ _ _ _ _ (w75 h)) (fun _=>z0a (z0a (z0d (w73 h _) (fun _=>z0a (z0a (z0d (h _ _ _ _ _ (w74 h)) (fun _=>le_refl _)))))))))
theorem mg66 {i j:It} (h:i.Le j):∀ s,le (g66 i std s) (g66 j std s):=fun _=>z0a (z0a (z0d (mg86 h _) (fun _=>le_refl _)))
theorem v6t {i j:It} (h:i.Le j):∀ s,le (g71 i std s) (g71 j std s):=fun _=>z0d (h _ _ _ _ _ (fun _=>le_refl _)) (fun _=>z0a (z0a (z0d (mg66 h _) (fun _=>le_refl _))))
theorem x99 {i j:It} (h:i.Le j):∀ s,le (x09 i std s) (x09 j std s):=fun _=>z12 (z0w (z0d (h _ _ _ _ _ (fun _=>le_refl _)) (fun _=>le_refl _)) (le_refl _))
theorem w2o {i j:It} (h:i.Le j):∀ s,le (x65 i std s) (x65 j std s):=fun _=>z0d (h _ _ _ _ _ (x99 h)) (fun _=>le_refl _)
theorem w4v {i j:It} (h:i.Le j):∀ s,le (x8d i std s) (x8d j std s):=fun _=>z12 (z0w (z0d (h _ _ _ _ _ (fun _=>le_refl _)) (fun _=>le_refl _)) (le_refl _))
theorem w4w {i j:It} (h:i.Le j):∀ s,le (x8e i std s) (x8e j std s):=fun _=>z12 (z0w (z0d (w2o h _) (fun _=>le_refl _)) (le_refl _))
theorem v2o {i j:It} (h:i.Le j):∀ s,le (v1a i std s) (v1a j std s):=fun _=>z0d (h _ _ _ _ _ (w4w h)) (fun _=>z0d (w2o h _) (fun _=>z0d (h _ _ _ _ _ (w4v h)) (fun _=>le_refl _)))
theorem v2r {i j:It} (h:i.Le j):∀ s,le (v1b i std s) (v1b j std s):=fun _=>z0d (v2o h _) (fun _=>le_refl _)
theorem mg24 {i j:It} (h:i.Le j):∀ s,le (g24 i std s) (g24 j std s):=fun _=>z2b (v2u h _) (fun _=>z2b (le_refl _) (fun _=>le_refl _) (fun _=>z0d (le_refl _) (fun _=>z0a (z0a (z0a (z0a (z0a (z0d (w72 h _) (fun _=>z0a (z0a (z0d (v05 h _) (fun _=>z0w (le_refl _) (z2b (h _ _ _ _ _ (fun _=>le_refl _)) (fun _=>le_refl _) (fun _=>le_refl _)))))))))))))) (fun _=>z0d (le_refl _) (fun _=>z2b (le_refl _) (fun _=>le_refl _) (fun _=>z0d (le_refl _) (fun _=>z0a (z0a (z0a (z0a (z0a (z0d (w72 h _) (fun _=>z0a (z0a (z0d (v05 h _) (fun _=>z0w (le_refl _) (z2b (h _ _ _ _ _ (fun _=>le_refl _)) (fun _=>le_refl _) (fun _=>le_refl _)))))))))))))))
theorem v6s {i j:It} (h:i.Le j):∀ s,le (g73 i std s) (g73 j std s):=fun _=>z0d (h _ _ _ _ _ (fun _=>le_refl _)) (fun _=>z0a (z0a (z0d (v2t h _) (fun _=>le_refl _))))
theorem w8f {i j:It} (h:i.Le j):∀ s,le (y9j i std s) (y9j j std s):=fun _=>z12 (z0w (z0d (z12 (z0a (z0a (z0a (z0a (z2b (h _ _ _ _ _ (fun _=>le_refl _)) (fun _=>le_refl _) (fun _=>le_refl _))))))) (fun _=>le_refl _)) (le_refl _))
theorem mg26 {i j:It} (h:i.Le j):∀ s,le (g26 i std s) (g26 j std s):=fun _=>z2b (v2u h _) (fun _=>le_refl _) (fun _=>z0d (le_refl _) (fun _=>z0w (le_refl _) (z0a (z0d (h _ _ _ _ _ (w8f h)) (fun _=>le_refl _)))))
theorem mg72 {i j:It} (h:i.Le j):∀ s,le (g72 i std s) (g72 j std s):=fun _=>z0a (z0a (z0d (h _ _ _ _ _ (fun _=>le_refl _)) (fun _=>le_refl _)))
theorem w79 {i j:It} (h:i.Le j):∀ s,le (y7b i std s) (y7b j std s):=fun _=>z12 (z0w (z0a (z0a (z0a (z0a (z0a (z0d (z12 (z0w (z0a (z0d (v6s h _) (fun _=>le_refl _))) (le_refl _))) (fun _=>le_refl _))))))) (le_refl _))
theorem mg37 {i j:It} (h:i.Le j):∀ s,le (g37 i std s) (g37 j std s):=fun _=>z0d (v2v h _) (fun _=>z0w (le_refl _) (z0a (z0d (v6t h _) (fun _=>z0a (z0a (z0a (z0d (mg72 h _) (fun _=>z0a (z0a (z0a (z0a (z0a (z0a (z0d (h _ _ _ _ _ (w79 h)) (fun _=>le_refl _)))))))))))))))
theorem v6u {i j:It} (h:i.Le j):∀ s,le (g64 i std s) (g64 j std s):=fun _=>z0d (v6t h _) (fun _=>z0a (z0a (z0a (z0a (z0d (h _ _ _ _ _ (fun _=>le_refl _)) (fun _=>z0w (le_refl _) (z0a (z0d (v6s h _) (fun _=>le_refl _)))))))))
theorem mg31 {i j:It} (h:i.Le j):∀ s,le (g31 i std s) (g31 j std s):=fun _=>z0d (v2s h _) (fun _=>z0w (le_refl _) (z0d (v6u h _) (fun _=>le_refl _)))
theorem mg28 {i j:It} (h:i.Le j):∀ s,le (g28 i std s) (g28 j std s):=fun _=>z0d (v2s h _) (fun _=>z0w (le_refl _) (z0d (v05 h _) (fun _=>z0w (le_refl _) (z0d (h _ _ _ _ _ (fun _=>le_refl _)) (fun _=>le_refl _)))))
theorem w78 {i j:It} (h:i.Le j):∀ s,le (w6l i std s) (w6l j std s):=fun _=>z12 (z0w (z0d (z12 (z0a (z0a (z0a (z0a (z0a (z0a (z0a (z0a (z0a (z0a (z0a (z0w (le_refl _) (z0a (z0a (z0a (z0a (z0d (h _ _ _ _ _ (fun _=>le_refl _)) (fun _=>le_refl _))))))))))))))))))) (fun _=>le_refl _)) (le_refl _))
theorem mg49 {i j:It} (h:i.Le j):∀ s,le (g49 i std s) (g49 j std s):=fun _=>z0a (z0a (z0a (z0a (z0a (z0d (h _ _ _ _ _ (w78 h)) (fun _=>le_refl _))))))
theorem w8b {i j:It} (h:i.Le j):∀ s,le (w6m i std s) (w6m j std s):=fun _=>z12 (z0w (z0a (z0a (z0a (z0d (v2r h _) (fun _=>z0d (h _ _ _ _ _ (fun _=>le_refl _)) (fun _=>le_refl _)))))) (le_refl _))
theorem v6x {i j:It} (h:i.Le j):∀ s,le (g30 i std s) (g30 j std s):=fun _=>z0d (v2s h _) (fun _=>z0w (le_refl _) (z0d (v6u h _) (fun _=>z0w (le_refl _) (z0a (z0a (z0d (le_refl _) (fun _=>z0d (h _ _ _ _ _ (fun _=>le_refl _)) (fun _=>z0d (h _ _ _ _ _ (w8b h)) (fun _=>z0d (mg49 h _) (fun _=>le_refl _))))))))))
theorem mg14 {i j:It} (h:i.Le j):∀ s,le (g14 i std s) (g14 j std s):=fun _=>z0d (le_refl _) (fun _=>z0d (le_refl _) (fun _=>z0d (le_refl _) (fun _=>z0d (le_refl _) (fun _=>z0d (le_refl _) (fun _=>z0d (v2v h _) (fun _=>z0d (le_refl _) (fun _=>z0d (mg36 h _) (fun _=>z0d (le_refl _) (fun _=>z0d (mg24 h _) (fun _=>z0d (le_refl _) (fun _=>z0d (mg26 h _) (fun _=>z0d (le_refl _) (fun _=>z0d (mg37 h _) (fun _=>z0d (v6x h _) (fun _=>z0d (v6x h _) (fun _=>z0d (mg31 h _) (fun _=>z0d (mg28 h _) (fun _=>z0d (le_refl _) (fun _=>z0w (le_refl _) (z0d (mg33 h _) (fun _=>z0d (z12 (z0w (z0a (z0d (v08 h _) (fun _=>z0w (z0d (v08 h _) (fun _=>z0w (z0d (v6y h _) (fun _=>z0w (z0a (z0d (v08 h _) (fun _=>z0w (z0w (z0d (le_refl _) (fun _=>z0a (z0d (mg25 h _) (fun _=>z0w (z0d (v6y h _) (fun _=>z0w (z0d (mg29 h _) (fun _=>le_refl _)) (le_refl _))) (le_refl _))))) (le_refl _)) (le_refl _)))) (le_refl _))) (le_refl _))) (le_refl _)))) (le_refl _))) (fun _=>le_refl _))))))))))))))))))))))
end Go.Am
end
section
namespace Go.Am
theorem w82:g14 (itN 400) std ()=some (true,()):=by kernel_rfl
theorem v0s:G14 std ()=some (true,()):=mg14 (w8n 400) () _ w82
end Go.Am
end
noncomputable section
namespace Go.Am
def g4 (it:It):(p:Prim)→(LD×(LD×Unit))→Option T0:=
 fun p x=>
 opt.bnd ((LD×(LD×T8))) _ (
 opt.run ((LD×(LD×T8))) (
 opt.bnd T0 _ (g23 it p (x.1,())) fun a=>
 opt.ask _ a.1 (
 opt.ret _ (x.1,(x.2.1,(Bool.true,())))) (
 opt.ask _ (p.cmp .gtr (p.ofNat (p.len x.2.1)) (14:Int)) (
 opt.ret _ (x.1,(x.2.1,(Bool.true,())))) (
 opt.bnd T2 _ (g24 it p (x.1,(x.2.1,()))) fun b=>
 opt.bnd T2 _ (g25 it p (x.1,(x.2.1,()))) fun c=>
 opt.ret _ (x.1,(x.2.1,((p.cmp .neq b.1 c.1),()))))))) fun d=>
 opt.ask _ d.2.2.1 (
 opt.bnd T0 _ (
 opt.run T0 (
 opt.bnd T0 _ (g23 it p (d.1,())) fun e=>
 opt.ask _ e.1 (
 opt.bnd T0 _ (g14 it p ()) fun f=>
 opt.ret _ (f.1,())) (
 opt.ask _ (p.cmp .gtr (p.ofNat (p.len d.2.1)) (14:Int)) (
 opt.bnd T0 _ (g14 it p ()) fun g=>
 opt.ret _ (g.1,())) (
 opt.ret _ (Bool.false,()))))) fun h=>
 opt.ret _ (h.1,())) (
 opt.bnd ((LD×T1)) _ (g26 it p (d.1,())) fun i=>
 opt.bnd T2 _ (g27 it p (d.1,())) fun j=>
 opt.ask _ (p.cmp .neq j.1 (0:Int)) (
 opt.bnd T0 _ (
 opt.run T0 (
 opt.bnd T2 _ (g27 it p (d.1,())) fun k=>
 opt.ask _ (p.cmp .eql i.2.1 k.1) (
 opt.ask _ (p.cmp .eql (p.ofNat (p.len i.1)) (0:Int)) (
 opt.bnd T0 _ (g14 it p ()) fun l=>
 opt.ret _ (l.1,())) (
 opt.ret _ (Bool.false,()))) (
 opt.ret _ (Bool.false,())))) fun m=>
 opt.ret _ (m.1,())) (
 opt.bnd T0 _ (
 opt.run T0 (
 opt.ask _ (p.cmp .eql i.2.1 (0:Int)) (
 opt.need _ (p.and Bool.true (p.and (p.leN (p.add 0 (p.len i.1)) (p.len i.1)) Bool.true))<|
 opt.bnd T2 _ (g25 it p (d.1,((p.cut i.1 0 (p.len i.1)),()))) fun n=>
 opt.ask _ (p.cmp .eql n.1 (0:Int)) (
 opt.bnd T0 _ (g14 it p ()) fun o=>
 opt.ret _ (o.1,())) (
 opt.ret _ (Bool.false,()))) (
 opt.ret _ (Bool.false,())))) fun q=>
 opt.ret _ (q.1,())))
def g5 (it:It):(p:Prim)→(LD×(LD×Unit))→Option T0:=
 fun p x=>
 opt.bnd ((LD×(LD×T8))) _ (
 opt.run ((LD×(LD×T8))) (
 opt.ask _ (p.cmp .gtr (p.ofNat (p.len x.1)) (14:Int)) (
 opt.ret _ (x.1,(x.2.1,(Bool.true,())))) (
 opt.ret _ (x.1,(x.2.1,((p.cmp .gtr (p.ofNat (p.len x.2.1)) (14:Int)),())))))) fun a=>
 opt.ask _ a.2.2.1 (
 opt.bnd T0 _ (g14 it p ()) fun b=>
 opt.ret _ (b.1,())) (
 opt.bnd T2 _ (g28 it p (a.1,(a.2.1,()))) fun c=>
 opt.bnd T2 _ (g29 it p (a.1,(a.2.1,()))) fun d=>
 opt.ask _ (p.cmp .neq c.1 d.1) (
 opt.ret _ (Bool.false,())) (
 opt.bnd ((LD×T1)) _ (g30 it p (a.1,())) fun e=>
 opt.bnd ((LD×T1)) _ (g31 it p (a.1,())) fun f=>
 opt.bnd T2 _ (g32 it p (a.1,())) fun g=>
 opt.ask _ (p.cmp .neq e.2.1 g.1) (
 opt.ret _ (Bool.false,())) (
 opt.ask _ (p.cmp .eql g.1 (0:Int)) (
 opt.bnd ((LD×T1)) _ (g33 it p (e.1,())) fun h=>
 opt.bnd T0 _ (
 opt.run T0 (
 opt.ask _ (p.cmp .eql h.2.1 (0:Int)) (
 opt.need _ (p.and (p.leN (p.add 0 (p.len h.1)) (p.len h.1)) (p.and Bool.true Bool.true))<|
 opt.bnd T0 _ (g21 it p ((p.cut h.1 0 (p.len h.1)),(a.1,()))) fun i=>
 opt.ask _ i.1 (
 opt.ask _ (p.cmp .eql f.2.1 (5:Int)) (
 opt.ask _ (p.cmp .eql (p.ofNat (p.len f.1)) (0:Int)) (
 opt.bnd T0 _ (g14 it p ()) fun j=>
 opt.ret _ (j.1,())) (
 opt.ret _ (Bool.false,()))) (
 opt.ret _ (Bool.false,()))) (
 opt.ret _ (Bool.false,()))) (
 opt.ret _ (Bool.false,())))) fun k=>
 opt.ret _ (k.1,())) (
 opt.ask _ (p.cmp .eql g.1 (13:Int)) (
 opt.bnd T0 _ (
 opt.run T0 (
 opt.ask _ (p.cmp .eql (p.ofNat (p.len e.1)) (0:Int)) (
 opt.ask _ (p.cmp .eql f.2.1 (0:Int)) (
 opt.bnd T2 _ (g29 it p (a.1,(f.1,()))) fun l=>
 opt.ask _ (p.cmp .eql l.1 (0:Int)) (
 opt.bnd T0 _ (g14 it p ()) fun m=>
 opt.ret _ (m.1,())) (
 opt.ret _ (Bool.false,()))) (
 opt.ret _ (Bool.false,()))) (
 opt.ret _ (Bool.false,())))) fun n=>
 opt.ret _ (n.1,())) (
 opt.bnd T0 _ (
 opt.run T0 (
 opt.ask _ (p.cmp .eql (p.ofNat (p.len e.1)) (0:Int)) (
 opt.ask _ (p.cmp .eql f.2.1 g.1) (
 opt.ask _ (p.cmp .eql (p.ofNat (p.len f.1)) (0:Int)) (
 opt.bnd T0 _ (g14 it p ()) fun o=>
 opt.ret _ (o.1,())) (
 opt.ret _ (Bool.false,()))) (
 opt.ret _ (Bool.false,()))) (
 opt.ret _ (Bool.false,())))) fun q=>
 opt.ret _ (q.1,()))))))
end Go.Am
end
section
namespace Go.Am
open T11
variable {fl:List Int→Bool}
theorem y6t {d:List (List Int)} (hl:d.length≤1000):(z1f d).length≤1000000∧∀ l∈z1f d,l.length≤1000000:=by
 have h1:∀ j,(RG (rcD d) d.length j).length≤j:=by
  intro j
  induction j with
  |zero=>exact Nat.le_refl _
  |succ j ih=>
   rw [RG]
   cases (lG (rcD d) d.length j).isEmpty<;>simp<;>omega
 have h2:∀ j,∀ l∈RG (rcD d) d.length j,l.length≤d.length:=by
  intro j
  induction j with
  |zero=>intro l hl; cases hl
  |succ j ih=>
   intro l hl
   rw [RG] at hl
   have h3:(lG (rcD d) d.length j).length≤d.length:=by
    have:=List.length_filter_le (fun i=>rcD d i==d.length - j) (List.range d.length)
    rw [List.length_range] at this; exact this
   cases he:(lG (rcD d) d.length j).isEmpty with
   |true=>rw [he] at hl; exact ih l hl
   |false=>
    rw [he,cond_false,List.mem_append] at hl
    rcases hl with hl|hl
    ·exact ih l hl
    ·rw [List.mem_singleton.1 hl]; exact h3
 have h3:=h1 d.length
 refine ⟨by rw [z1f,List.length_map]; omega,fun l hl'=>?_⟩
 rw [z1f,List.mem_map] at hl'
 obtain ⟨m,hm,rfl⟩:=hl'
 have:=h2 d.length m hm
 rw [y90]; omega
end Go.Am
end
section
namespace Go.Am
open T11
theorem x7t {d:List (List Int)} (h:z02 d=0):∀ l∈d,l.length≤1000000:=fun l hl=>by
 obtain ⟨i,hi⟩:=List.getElem?_of_mem hl
 have hlt:=(List.getElem?_eq_some_iff.1 hi).1
 have hr:=y2i h i hlt
 rw [z5l hi] at hr
 have:=w39 hr
 have:=z21 h
 omega
end Go.Am
end
section
namespace Go.Am
noncomputable abbrev P34:Program:=Go.Proofs.Try.prog
noncomputable def E34:Env:=autoEnvD [] P34
theorem v61:y17 P34 E34:=autoEnvD_ok follows_mixed
theorem v60:z9w P34 E34.T:=v61.ti
def ti30:TI:=⟨1,24,false,[.list true 0 []], .slc 26 1 24 false [.list true 0 []],none⟩
def w68:TI:=⟨1,24,false,[.list true 0 []], .slc 3 1 8 false [.int .i64 0],none⟩
theorem w7j:E34.T 30=some ti30:=by kernel_rfl
theorem y7r:E34.T 26=some w68:=by kernel_rfl
noncomputable def z6h (pos:List Bool):Code:=(z1q P34 34 pos).getD .skip
noncomputable def y07 (pos:List Bool):Array Oper:=
 match z6h pos with
 | .region _ ops _=>ops
 |_=>#[]
def pA:List Bool:=[false,true,true,true,true]
def pL:List Bool:=false::true::pA
def pLB:List Bool:=false::pL
def pM:List Bool:=[false,true,false,false,true]++pLB
def pLK:List Bool:=false::pM
def pX:List Bool:=[false,false,true]++pLK
def p11:List Bool:=[false,true,false]++pX
def p12:List Bool:=[true,true,false]++pX
def mkE (b at_ i k:Int) (N:Nat):List (Nat×AV):=[(1, .d (.int .u64 b)),(5, .d (.int .i64 N)),(6, .slice 0 1 0 N (some N)),(7, .d (.int .i64 at_)),(8, .d (.int .i64 i)),(9, .d (.int .i64 k))]
theorem z7i {b at_ i k:Int} {N:Nat} {env:List (Nat×AV)} (h:∃ r,env=mkE b at_ i k N++r):w2g (mkE b at_ i k N) env:=by
 obtain ⟨r,rfl⟩:=h
 intro t
 unfold mkE
 simp only [List.cons_append,List.nil_append,z1a]
 cases Nat.beq 1 t<;>cases Nat.beq 5 t<;>cases Nat.beq 6 t<;>cases Nat.beq 7 t<;>cases Nat.beq 8 t<;>cases Nat.beq 9 t<;>simp
structure Fam (h:List AO) (E:List (List AV)) (R:List (List Int)):Prop where
 pos:0<h.length
 arr:z0h h 0= .arow E
 len:E.length=R.length
 cell:∀ (j:Nat) (row:List Int),R[j]?=some row→(E[j]?=some [AV.d (.list true 0 [])]∧row=[])∨∃ id:Nat,E[j]?=some [AV.slice id 1 0 row.length none]∧z0h h id= .row (z0f row)∧0<id∧id<h.length
 inj:∀ (j j' id l l':Nat),E[j]?=some [AV.slice id 1 0 l none]→E[j']?=some [AV.slice id 1 0 l' none]→j=j'
theorem x4h {env:List (Nat×AV)} {h:List AO} {new:Nat} {N x a b:Nat} (ha:z1a env a= .slice 0 1 0 N (some N)) (hb:z1a env b= .d (.int .i64 x)):
  z04 std E34.T env h new false [] [] (.indexAddr 30 (.tmp a) (.tmp b))=some ⟨std.cmp .geq (x:Int) 0&&std.cmp .lss (x:Int) (std.ofNat N), .ptr 0 (0+x) 0,[]⟩:=by
 simp only [z04,w7j,z0p,ha,hb]
 rfl
theorem z8b {env:List (Nat×AV)} {h:List AO} {a x:Nat} {E:List (List AV)} {ra:List AV} (ha:z1a env a= .ptr 0 x 0) (hh:z0h h 0= .arow E) (hE:E[x]?=some ra):(z10 std E34.T env h (.load 26 (.tmp a))).ok false [] ra:=by
 simp only [z10,z0p,ha,y4b,z58,hh,x48.ok,hE]
theorem z65 {env:List (Nat×AV)} {h:List AO} {a c x:Nat} {E:List (List AV)} {ra:List AV} (ha:z1a env a= .ptr 0 x 0) (hh:z0h h 0= .arow E) (hE:E[x]?=some ra):(z10 std E34.T env h (.store 26 (.tmp a) (.tmp c))).ok false [] ra:=by
 simp only [z10,z0p,ha,z58,hh,x48.ok,hE]
theorem x2d {env:List (Nat×AV)} {h:List AO} {new a x:Nat} {E:List (List AV)} {v:AV} (ha:z1a env a= .ptr 0 x 0) (hh:z0h h 0= .arow E) (hv:z4z false [v]=some v):
  z04 std E34.T env h new false [] [v] (.load 26 (.tmp a))=some ⟨true,v,[]⟩:=by
 simp only [z04,y7r,z0p,ha,y4b,z3n,hh,w68,part,hv,Option.bind_some,ok]
theorem y51 {env:List (Nat×AV)} {h:List AO} {new a c x id l:Nat} {E:List (List AV)} {v:AV} (ha:z1a env a= .ptr 0 x 0) (hc:z1a env c= .slice id 1 0 l none) (hh:z0h h 0= .arow E):
  z04 std E34.T env h new false [] [v] (.store 26 (.tmp a) (.tmp c))=some ⟨true, .bot,[(0, .arow (E.set x [AV.slice id 1 0 l none]))]⟩:=by
 simp only [z04,y7r,z0p,ha,hc,z3z,z16,w68,z3p,hh]
 rfl
theorem w0b {env:List (Nat×AV)} {h:List AO} {c:Nat} {y:Int} (hc:z1a env c= .d (.int .i64 y)):
  z04 std E34.T env h h.length false [] [] (.buildSlice 26 1 #[(0, .tmp c)])=some ⟨true, .slice h.length 1 0 1 (some 1),[(h.length, .row [[.int .i64 y]])]⟩:=by
 simp only [z04,y7r]
 show z24 w68 h.length 1 [(0,z1a env c)] []=_
 rw [hc]
 rfl
theorem y7m {env:List (Nat×AV)} {h:List AO} {a c:Nat} (ha:z1a env a= .d (.list true 0 [])):(z10 std E34.T env h (.call ⟨.builtin .append,#[.tmp a, .tmp c],#[26,26]⟩)).ok true [] []:=by
 show (match [z1a env a,z1a env c] with|[s,x]=>x9b (z6j std s x)|_=> .none).ok true [] []
 rw [ha]
 rfl
theorem x29 {env:List (Nat×AV)} {h:List AO} {new a c lit:Nat} {y:Int} (ha:z1a env a= .d (.list true 0 [])) (hc:z1a env c= .slice lit 1 0 1 (some 1)) (hh:z0h h lit= .row [[.int .i64 y]]):
  z04 std E34.T env h new true [] [] (.call ⟨.builtin .append,#[.tmp a, .tmp c],#[26,26]⟩)=some ⟨true, .slice new 1 0 1 none,[(new, .row [[.int .i64 y]])]⟩:=by
 show z1t std E34.T h new true [] .append [26,26] [z1a env a,z1a env c]=_
 rw [ha,hc]
 simp only [z1t,y7r,w68,z2x,z5t,hh]
 rfl
theorem x28 {env:List (Nat×AV)} {h:List AO} {new a c lit id:Nat} {y:Int} {row:List Int} (ha:z1a env a= .slice id 1 0 row.length none) (hc:z1a env c= .slice lit 1 0 1 (some 1)) (hh:z0h h lit= .row [[.int .i64 y]]) (hid:z0h h id= .row (z0f row)) (hl:row.length≤1000):
  z04 std E34.T env h new false [] [] (.call ⟨.builtin .append,#[.tmp a, .tmp c],#[26,26]⟩)=some ⟨true, .slice new 1 0 (row.length+1) none,[(id, .dead),(new, .row (z0f (row++[y])))]⟩:=by
 show z1t std E34.T h new false [] .append [26,26] [z1a env a,z1a env c]=_
 rw [ha,hc]
 have h1:std.leN (std.add 0 row.length) (std.len (z0f row))=true:=by
  rw [y59,x0a,x5n,z0t]; exact decide_eq_true (by omega)
 have h2:std.leN (std.add row.length 1) y7d=true:=by
  rw [y59,x0a]; exact decide_eq_true (by show row.length+1≤1000000; omega)
 have h3:std.cut (z0f row) 0 row.length=z0f row:=by
  rw [x5o,List.drop_zero,List.take_of_length_le (by rw [z0t]; exact Nat.le_refl _)]
 have h4:std.app (z0f row) (std.cut [[D.int .i64 y]] 0 1)=z0f (row++[y]):=by
  show z0f row++[[D.int .i64 y]]=_
  simp [z0f,eI]
 simp only [z1t,y7r,w68,z2x,z5t,hh,hid,z85,h1,h2,h3]
 rw [←h4]
 rfl
theorem Fam.app0 {h:List AO} {E:List (List AV)} {R:List (List Int)} (hf:Fam h E R) {x:Nat} (hrow:R[x]?=some []) (hE:E[x]?=some [AV.d (.list true 0 [])]) (y:Int) {H1 H2:List AO} (e1:H1=z0u h [(h.length, .row [[.int .i64 y]])]) (e2:H2=z0u H1 [(H1.length, .row [[.int .i64 y]])]):
  z0h H2 0= .arow E∧Fam (z0u H2 [(0, .arow (E.set x [AV.slice H1.length 1 0 1 none]))]) (E.set x [AV.slice H1.length 1 0 1 none]) (R.set x ([]++[y])):=by
 subst e1
 subst e2
 simp only [z0u]
 have hl1:(z0y h h.length (.row [[.int .i64 y]])).length=h.length+1:=z5j _ _
 have hl2:=z5j (z0y h h.length (.row [[.int .i64 y]])) (.row [[.int .i64 y]])
 have hp:=hf.pos
 have hold:∀ id,id<h.length→z0h (z0y (z0y h h.length (.row [[.int .i64 y]])) (z0y h h.length (.row [[.int .i64 y]])).length (.row [[.int .i64 y]])) id=z0h h id:=fun id hid=>by
  rw [z0c _ _ _ _ (by omega),z0c _ _ _ _ (by omega)]
 have hxl:=(List.getElem?_eq_some_iff.1 hE).1
 have hnew:z0h (z0y (z0y h h.length (.row [[.int .i64 y]])) (z0y h h.length (.row [[.int .i64 y]])).length (.row [[.int .i64 y]])) (z0y h h.length (.row [[.int .i64 y]])).length= .row [[.int .i64 y]]:=z0e _ _ _
 generalize (z0y h h.length (.row [[.int .i64 y]])).length=nw at hl1 hl2 hold hnew⊢
 generalize z0y (z0y h h.length (.row [[.int .i64 y]])) nw (.row [[.int .i64 y]])=h2 at hl2 hold hnew⊢
 have hlen3:(z0y h2 0 (.arow (E.set x [AV.slice nw 1 0 1 none]))).length=h2.length:=z19 _ _ _ (by omega)
 refine ⟨by rw [hold 0 hp]; exact hf.arr,by omega,z0e _ _ _,by rw [List.length_set,List.length_set]; exact hf.len,fun j row hj=>?_,fun j j' id l l' h1 h2'=>?_⟩
 ·by_cases e:x=j
  ·subst e
   rw [List.getElem?_set,if_pos rfl] at hj
   split at hj
   ·cases hj
    refine .inr ⟨nw,by rw [List.getElem?_set,if_pos rfl,if_pos hxl]; rfl,?_,by omega,by omega⟩
    rw [z0c _ _ _ _ (by omega)]; exact hnew
   ·cases hj
  ·rw [List.getElem?_set_ne e] at hj
   rw [List.getElem?_set_ne e]
   rcases hf.cell j row hj with ⟨a,b⟩|⟨id,a,b,c,d⟩
   ·exact .inl ⟨a,b⟩
   ·refine .inr ⟨id,a,?_,c,by omega⟩
    rw [z0c _ _ _ _ (by omega),hold id d]; exact b
 ·have hcell:∀ (j id l:Nat),(E.set x [AV.slice nw 1 0 1 none])[j]?=some [AV.slice id 1 0 l none]→(j=x∧id=nw)∨(j≠x∧E[j]?=some [AV.slice id 1 0 l none]):=fun j id l hj=>by
   rw [List.getElem?_set] at hj
   by_cases e:x=j
   ·rw [if_pos e,if_pos hxl] at hj; cases hj; exact .inl ⟨e.symm,rfl⟩
   ·rw [if_neg e] at hj; exact .inr ⟨Ne.symm e,hj⟩
  have hlt:∀ (j id l:Nat),E[j]?=some [AV.slice id 1 0 l none]→id<h.length:=fun j id l hj=>by
   have hjl:=(List.getElem?_eq_some_iff.1 hj).1
   obtain ⟨row,hrow⟩:=z15 (l:=R) (i:=j) (by rw [←hf.len]; exact hjl)
   rcases hf.cell j row hrow with ⟨a,_⟩|⟨id',a,_,_,d⟩
   ·rw [hj] at a; cases a
   ·rw [hj] at a; cases a; exact d
  rcases hcell j id l h1 with ⟨e1,e2⟩|⟨hne,g1⟩<;>rcases hcell j' _ l' h2' with ⟨e3,e4⟩|⟨hne',g2⟩
  ·omega
  ·have:=hlt _ _ _ g2; omega
  ·have:=hlt _ _ _ g1; omega
  ·exact hf.inj _ _ _ _ _ g1 g2
theorem Fam.app1 {h:List AO} {E:List (List AV)} {R:List (List Int)} (hf:Fam h E R) {x id:Nat} {row:List Int} (hrow:R[x]?=some row) (hE:E[x]?=some [AV.slice id 1 0 row.length none]) (hid:z0h h id= .row (z0f row)) (hid0:0<id) (hidl:id<h.length) (y:Int) {H1 H2:List AO} (e1:H1=z0u h [(h.length, .row [[.int .i64 y]])]) (e2:H2=z0u H1 [(id, .dead),(H1.length, .row (z0f (row++[y])))]):
  z0h H2 0= .arow E∧Fam (z0u H2 [(0, .arow (E.set x [AV.slice H1.length 1 0 (row.length+1) none]))]) (E.set x [AV.slice H1.length 1 0 (row.length+1) none]) (R.set x (row++[y])):=by
 subst e1
 subst e2
 simp only [z0u]
 have hl1:(z0y h h.length (.row [[.int .i64 y]])).length=h.length+1:=z5j _ _
 have hp:=hf.pos
 have hk1:(z0y (z0y h h.length (.row [[.int .i64 y]])) id .dead).length=h.length+1:=by rw [z19 _ _ _ (by omega)]; exact hl1
 have hl2:=z1j (z0y (z0y h h.length (.row [[.int .i64 y]])) id .dead) (z0y h h.length (.row [[.int .i64 y]])).length (.row (z0f (row++[y])))
 have hold:∀ j,j<h.length→j≠id→z0h (z0y (z0y (z0y h h.length (.row [[.int .i64 y]])) id .dead) (z0y h h.length (.row [[.int .i64 y]])).length (.row (z0f (row++[y])))) j=z0h h j:=fun j hj hne=>by
  rw [z0c _ _ _ _ (by omega),z0c _ _ _ _ (by omega),z0c _ _ _ _ (by omega)]
 have hxl:=(List.getElem?_eq_some_iff.1 hE).1
 have hnew:z0h (z0y (z0y (z0y h h.length (.row [[.int .i64 y]])) id .dead) (z0y h h.length (.row [[.int .i64 y]])).length (.row (z0f (row++[y])))) (z0y h h.length (.row [[.int .i64 y]])).length= .row (z0f (row++[y])):=z0e _ _ _
 generalize (z0y h h.length (.row [[.int .i64 y]])).length=nw at hl1 hl2 hold hnew⊢
 generalize z0y (z0y (z0y h h.length (.row [[.int .i64 y]])) id .dead) nw (.row (z0f (row++[y])))=h2 at hl2 hold hnew⊢
 have hlen3:(z0y h2 0 (.arow (E.set x [AV.slice nw 1 0 (row.length+1) none]))).length=h2.length:=z19 _ _ _ (by omega)
 refine ⟨by rw [hold 0 hp (by omega)]; exact hf.arr,by omega,z0e _ _ _,by rw [List.length_set,List.length_set]; exact hf.len,fun j row' hj=>?_,fun j j' id' l l' h1 h2'=>?_⟩
 ·by_cases e:x=j
  ·subst e
   rw [List.getElem?_set,if_pos rfl] at hj
   split at hj
   ·cases hj
    refine .inr ⟨nw,by rw [List.getElem?_set,if_pos rfl,if_pos hxl]; simp,?_,by omega,by omega⟩
    rw [z0c _ _ _ _ (by omega)]; exact hnew
   ·cases hj
  ·rw [List.getElem?_set_ne e] at hj
   rw [List.getElem?_set_ne e]
   rcases hf.cell j row' hj with ⟨a,b⟩|⟨id',a,b,c,d⟩
   ·exact .inl ⟨a,b⟩
   ·have hne:id'≠id:=by
     rintro rfl
     exact e (hf.inj _ _ _ _ _ hE a)
    refine .inr ⟨id',a,?_,c,by omega⟩
    rw [z0c _ _ _ _ (by omega),hold id' d hne]; exact b
 ·have hcell:∀ (j id l:Nat),(E.set x [AV.slice nw 1 0 (row.length+1) none])[j]?=some [AV.slice id 1 0 l none]→(j=x∧id=nw)∨(j≠x∧E[j]?=some [AV.slice id 1 0 l none]):=fun j id l hj=>by
   rw [List.getElem?_set] at hj
   by_cases e:x=j
   ·rw [if_pos e,if_pos hxl] at hj; cases hj; exact .inl ⟨e.symm,rfl⟩
   ·rw [if_neg e] at hj; exact .inr ⟨Ne.symm e,hj⟩
  have hlt:∀ (j id l:Nat),E[j]?=some [AV.slice id 1 0 l none]→id<h.length:=fun j id l hj=>by
   have hjl:=(List.getElem?_eq_some_iff.1 hj).1
   obtain ⟨row,hrow⟩:=z15 (l:=R) (i:=j) (by rw [←hf.len]; exact hjl)
   rcases hf.cell j row hrow with ⟨a,_⟩|⟨id',a,_,_,d⟩
   ·rw [hj] at a; cases a
   ·rw [hj] at a; cases a; exact d
  rcases hcell j id' l h1 with ⟨e1,e2⟩|⟨hne,g1⟩<;>rcases hcell j' _ l' h2' with ⟨e3,e4⟩|⟨hne',g2⟩
  ·omega
  ·have:=hlt _ _ _ g2; omega
  ·have:=hlt _ _ _ g1; omega
  ·exact hf.inj _ _ _ _ _ g1 g2
theorem z3f {p:List Bool} {i:Nat} {dst:Option Tmp} {op:Op} (h:((y07 p)[i]?.map fun o=>(o.dst,o.op,o.guard))=some (dst,op,none)):∃ o,(y07 p)[i]?=some o∧o.dst=dst∧o.op=op∧o.guard=none:=by
 cases ho:(y07 p)[i]? with
 |none=>rw [ho] at h; cases h
 |some o=>
  rw [ho] at h
  simp only [Option.map_some,Option.some.injEq,Prod.mk.injEq] at h
  exact ⟨o,rfl,h.1,h.2.1,h.2.2⟩
theorem z8l {ops:Array Oper} {i:Nat} {rest:List Nat} {s:AS} {Q:AS→Prop} {o:Oper} {dst:Option Tmp} {op:Op} (ho:ops[i]?=some o∧o.dst=dst∧o.op=op∧o.guard=none)
  {q:Bool} {r:List D} {ra:List AV} {res:Res} (hw:(z10 std E34.T s.env s.heap op).ok q r ra) (hs:z04 std E34.T s.env s.heap s.heap.length q r ra op=some res) (hc:res.c=true) (hd:z41 s.nt dst=true)
  (h:z9x P34 0 ops rest (z49 s dst res.v res.u) Q):z9x P34 0 ops (i::rest) s Q:=by
 obtain ⟨h1,rfl,rfl,hg⟩:=ho
 exact y8n v60 h1 (by rw [hg]; rfl) (Nat.zero_le _) hw hs hc hd h
set_option maxHeartbeats 4000000 in
theorem v1r {h:List AO} {E:List (List AV)} {R:List (List Int)} {N:Nat} {b at_ i k:Int} {x:Nat} {row:List Int} (hf:Fam h E R) (hx:i=(x:Int)) (hN:R.length=N) (hrow:R[x]?=some row) (hl:row.length≤1000)
  {Q:AS→Prop} (hQ:∀ h' E',Fam h' E' (R.set x (row++[k]))→Q ⟨mkE b at_ i k N,h',54⟩):z9x P34 0 (y07 p11) (List.range (y07 p11).size) ⟨mkE b at_ i k N,h,54⟩ (fun s=>∃ s',z43 0 s s'∧Q s'):=by
 have hr:List.range (y07 p11).size=[0,1,2,3,4,5,6,7,8,9,10]:=by kernel_rfl
 obtain ⟨w0,o0⟩:=z3f (p:=p11) (i:=0) (dst:=some 31) (op:= .move (.tmp 6)) (by kernel_rfl)
 obtain ⟨w1,o1⟩:=z3f (p:=p11) (i:=1) (dst:=some 32) (op:= .move (.tmp 8)) (by kernel_rfl)
 obtain ⟨w2,o2⟩:=z3f (p:=p11) (i:=2) (dst:=some 33) (op:= .move (.tmp 6)) (by kernel_rfl)
 obtain ⟨w3,o3⟩:=z3f (p:=p11) (i:=3) (dst:=some 34) (op:= .move (.tmp 8)) (by kernel_rfl)
 obtain ⟨w4,o4⟩:=z3f (p:=p11) (i:=4) (dst:=some 35) (op:= .indexAddr 30 (.tmp 33) (.tmp 34)) (by kernel_rfl)
 obtain ⟨w5,o5⟩:=z3f (p:=p11) (i:=5) (dst:=some 36) (op:= .load 26 (.tmp 35)) (by kernel_rfl)
 obtain ⟨w6,o6⟩:=z3f (p:=p11) (i:=6) (dst:=some 37) (op:= .move (.tmp 9)) (by kernel_rfl)
 obtain ⟨w7,o7⟩:=z3f (p:=p11) (i:=7) (dst:=some 38) (op:= .buildSlice 26 1 #[(0, .tmp 37)]) (by kernel_rfl)
 obtain ⟨w8,o8⟩:=z3f (p:=p11) (i:=8) (dst:=some 39) (op:= .call ⟨.builtin .append,#[.tmp 36, .tmp 38],#[26,26]⟩) (by kernel_rfl)
 obtain ⟨w9,o9⟩:=z3f (p:=p11) (i:=9) (dst:=some 40) (op:= .indexAddr 30 (.tmp 31) (.tmp 32)) (by kernel_rfl)
 obtain ⟨w10,o10⟩:=z3f (p:=p11) (i:=10) (dst:=none) (op:= .store 26 (.tmp 40) (.tmp 39)) (by kernel_rfl)
 have hxlt:x<N:=by rw [←hN]; exact (List.getElem?_eq_some_iff.1 hrow).1
 have hc0:(std.cmp .geq (x:Int) 0&&std.cmp .lss (x:Int) (std.ofNat N))=true:=by
  rw [y6a,y01,Bool.and_eq_true]
  exact ⟨decide_eq_true (by omega),decide_eq_true (by show (x:Int)<(N:Int); omega)⟩
 subst hx
 rw [hr]
 refine z8l o0 (q:=false) (r:=[]) (ra:=[]) (res:=⟨true, .slice 0 1 0 N (some N),[]⟩) trivial rfl rfl rfl ?_
 refine z8l o1 (q:=false) (r:=[]) (ra:=[]) (res:=⟨true, .d (.int .i64 x),[]⟩) trivial rfl rfl rfl ?_
 refine z8l o2 (q:=false) (r:=[]) (ra:=[]) (res:=⟨true, .slice 0 1 0 N (some N),[]⟩) trivial rfl rfl rfl ?_
 refine z8l o3 (q:=false) (r:=[]) (ra:=[]) (res:=⟨true, .d (.int .i64 x),[]⟩) trivial rfl rfl rfl ?_
 refine z8l o4 (q:=false) (r:=[]) (ra:=[]) (res:=⟨std.cmp .geq (x:Int) 0&&std.cmp .lss (x:Int) (std.ofNat N), .ptr 0 (0+x) 0,[]⟩) trivial (x4h rfl rfl) hc0 rfl ?_
 rw [Nat.zero_add]
 have hpe:(R.set x (row++[k])).length=N:=by rw [List.length_set,hN]
 rcases hf.cell x row hrow with ⟨hE,rfl⟩|⟨id,hE,hid,hid0,hidl⟩
 ·refine z8l o5 (q:=false) (r:=[]) (ra:=[.d (.list true 0 [])]) (res:=⟨true, .d (.list true 0 []),[]⟩) (z8b rfl hf.arr hE) (x2d rfl hf.arr rfl) rfl rfl ?_
  refine z8l o6 (q:=false) (r:=[]) (ra:=[]) (res:=⟨true, .d (.int .i64 k),[]⟩) trivial rfl rfl rfl ?_
  refine z8l o7 (q:=false) (r:=[]) (ra:=[]) (res:=⟨true, .slice h.length 1 0 1 (some 1),[(h.length, .row [[.int .i64 k]])]⟩) trivial (w0b rfl) rfl rfl ?_
  show z9x P34 0 _ [8,9,10] ⟨_,z0u h [(h.length, .row [[.int .i64 k]])],54⟩ _
  obtain ⟨H1,e1⟩:∃ H,H=z0u h [(h.length, .row [[.int .i64 k]])]:=⟨_,rfl⟩
  have hlit:z0h H1 h.length= .row [[.int .i64 k]]:=by rw [e1]; exact z0e _ _ _
  rw [←e1]
  refine z8l o8 (q:=true) (r:=[]) (ra:=[]) (res:=⟨true, .slice H1.length 1 0 1 none,[(H1.length, .row [[.int .i64 k]])]⟩) (y7m rfl) (x29 rfl rfl hlit) rfl rfl ?_
  show z9x P34 0 _ [9,10] ⟨_,z0u H1 [(H1.length, .row [[.int .i64 k]])],54⟩ _
  obtain ⟨H2,e2⟩:∃ H,H=z0u H1 [(H1.length, .row [[.int .i64 k]])]:=⟨_,rfl⟩
  obtain ⟨hh1,hh2⟩:=hf.app0 hrow hE k e1 e2
  rw [←e2]
  refine z8l o9 (q:=false) (r:=[]) (ra:=[]) (res:=⟨std.cmp .geq (x:Int) 0&&std.cmp .lss (x:Int) (std.ofNat N), .ptr 0 (0+x) 0,[]⟩) trivial (x4h rfl rfl) hc0 rfl ?_
  rw [Nat.zero_add]
  refine z8l o10 (q:=false) (r:=[]) (ra:=[.d (.list true 0 [])]) (res:=⟨true, .bot,[(0, .arow (E.set x [.slice H1.length 1 0 1 none]))]⟩) (z65 rfl hh1 hE) (y51 rfl rfl hh1) rfl rfl ?_
  refine y0c ?_
  refine ⟨⟨mkE b at_ _ _ N,z0u H2 [(0, .arow (E.set x [.slice H1.length 1 0 1 none]))],54⟩,?_,hQ _ _ hh2⟩
  exact z43.env (n:=0) (s:=⟨_,z0u H2 [(0, .arow (E.set x [.slice H1.length 1 0 1 none]))],54⟩) (z7i ⟨_,rfl⟩)
 ·refine z8l o5 (q:=false) (r:=[]) (ra:=[.slice id 1 0 row.length none]) (res:=⟨true, .slice id 1 0 row.length none,[]⟩) (z8b rfl hf.arr hE) (x2d rfl hf.arr rfl) rfl rfl ?_
  refine z8l o6 (q:=false) (r:=[]) (ra:=[]) (res:=⟨true, .d (.int .i64 k),[]⟩) trivial rfl rfl rfl ?_
  refine z8l o7 (q:=false) (r:=[]) (ra:=[]) (res:=⟨true, .slice h.length 1 0 1 (some 1),[(h.length, .row [[.int .i64 k]])]⟩) trivial (w0b rfl) rfl rfl ?_
  show z9x P34 0 _ [8,9,10] ⟨_,z0u h [(h.length, .row [[.int .i64 k]])],54⟩ _
  obtain ⟨H1,e1⟩:∃ H,H=z0u h [(h.length, .row [[.int .i64 k]])]:=⟨_,rfl⟩
  have hlit:z0h H1 h.length= .row [[.int .i64 k]]:=by rw [e1]; exact z0e _ _ _
  have hid':z0h H1 id= .row (z0f row):=by rw [e1]; show z0h (z0y _ _ _) _=_; rw [z0c _ _ _ _ (by omega)]; exact hid
  rw [←e1]
  refine z8l o8 (q:=false) (r:=[]) (ra:=[]) (res:=⟨true, .slice H1.length 1 0 (row.length+1) none,[(id, .dead),(H1.length, .row (z0f (row++[k])))]⟩) trivial (x28 rfl rfl hlit hid' hl) rfl rfl ?_
  show z9x P34 0 _ [9,10] ⟨_,z0u H1 [(id, .dead),(H1.length, .row (z0f (row++[k])))],54⟩ _
  obtain ⟨H2,e2⟩:∃ H,H=z0u H1 [(id, .dead),(H1.length, .row (z0f (row++[k])))]:=⟨_,rfl⟩
  obtain ⟨hh1,hh2⟩:=hf.app1 hrow hE hid hid0 hidl k e1 e2
  rw [←e2]
  refine z8l o9 (q:=false) (r:=[]) (ra:=[]) (res:=⟨std.cmp .geq (x:Int) 0&&std.cmp .lss (x:Int) (std.ofNat N), .ptr 0 (0+x) 0,[]⟩) trivial (x4h rfl rfl) hc0 rfl ?_
  rw [Nat.zero_add]
  refine z8l o10 (q:=false) (r:=[]) (ra:=[.slice id 1 0 row.length none]) (res:=⟨true, .bot,[(0, .arow (E.set x [.slice H1.length 1 0 (row.length+1) none]))]⟩) (z65 rfl hh1 hE) (y51 rfl rfl hh1) rfl rfl ?_
  refine y0c ?_
  refine ⟨⟨mkE b at_ _ _ N,z0u H2 [(0, .arow (E.set x [.slice H1.length 1 0 (row.length+1) none]))],54⟩,?_,hQ _ _ hh2⟩
  exact z43.env (n:=0) (s:=⟨_,z0u H2 [(0, .arow (E.set x [.slice H1.length 1 0 (row.length+1) none]))],54⟩) (z7i ⟨_,rfl⟩)
set_option maxHeartbeats 4000000 in
theorem v1q {h:List AO} {E:List (List AV)} {R:List (List Int)} {N:Nat} {b at_ i k:Int} {x:Nat} {row:List Int} (hf:Fam h E R) (hx:k=(x:Int)) (hN:R.length=N) (hrow:R[x]?=some row) (hl:row.length≤1000)
  {Q:AS→Prop} (hQ:∀ h' E',Fam h' E' (R.set x (row++[i]))→Q ⟨mkE b at_ i k N,h',54⟩):z9x P34 0 (y07 p12) (List.range (y07 p12).size) ⟨mkE b at_ i k N,h,54⟩ (fun s=>∃ s',z43 0 s s'∧Q s'):=by
 have hr:List.range (y07 p12).size=[0,1,2,3,4,5,6,7,8,9,10]:=by kernel_rfl
 obtain ⟨w0,o0⟩:=z3f (p:=p12) (i:=0) (dst:=some 41) (op:= .move (.tmp 6)) (by kernel_rfl)
 obtain ⟨w1,o1⟩:=z3f (p:=p12) (i:=1) (dst:=some 42) (op:= .move (.tmp 9)) (by kernel_rfl)
 obtain ⟨w2,o2⟩:=z3f (p:=p12) (i:=2) (dst:=some 43) (op:= .move (.tmp 6)) (by kernel_rfl)
 obtain ⟨w3,o3⟩:=z3f (p:=p12) (i:=3) (dst:=some 44) (op:= .move (.tmp 9)) (by kernel_rfl)
 obtain ⟨w4,o4⟩:=z3f (p:=p12) (i:=4) (dst:=some 45) (op:= .indexAddr 30 (.tmp 43) (.tmp 44)) (by kernel_rfl)
 obtain ⟨w5,o5⟩:=z3f (p:=p12) (i:=5) (dst:=some 46) (op:= .load 26 (.tmp 45)) (by kernel_rfl)
 obtain ⟨w6,o6⟩:=z3f (p:=p12) (i:=6) (dst:=some 47) (op:= .move (.tmp 8)) (by kernel_rfl)
 obtain ⟨w7,o7⟩:=z3f (p:=p12) (i:=7) (dst:=some 48) (op:= .buildSlice 26 1 #[(0, .tmp 47)]) (by kernel_rfl)
 obtain ⟨w8,o8⟩:=z3f (p:=p12) (i:=8) (dst:=some 49) (op:= .call ⟨.builtin .append,#[.tmp 46, .tmp 48],#[26,26]⟩) (by kernel_rfl)
 obtain ⟨w9,o9⟩:=z3f (p:=p12) (i:=9) (dst:=some 50) (op:= .indexAddr 30 (.tmp 41) (.tmp 42)) (by kernel_rfl)
 obtain ⟨w10,o10⟩:=z3f (p:=p12) (i:=10) (dst:=none) (op:= .store 26 (.tmp 50) (.tmp 49)) (by kernel_rfl)
 have hxlt:x<N:=by rw [←hN]; exact (List.getElem?_eq_some_iff.1 hrow).1
 have hc0:(std.cmp .geq (x:Int) 0&&std.cmp .lss (x:Int) (std.ofNat N))=true:=by
  rw [y6a,y01,Bool.and_eq_true]
  exact ⟨decide_eq_true (by omega),decide_eq_true (by show (x:Int)<(N:Int); omega)⟩
 subst hx
 rw [hr]
 refine z8l o0 (q:=false) (r:=[]) (ra:=[]) (res:=⟨true, .slice 0 1 0 N (some N),[]⟩) trivial rfl rfl rfl ?_
 refine z8l o1 (q:=false) (r:=[]) (ra:=[]) (res:=⟨true, .d (.int .i64 x),[]⟩) trivial rfl rfl rfl ?_
 refine z8l o2 (q:=false) (r:=[]) (ra:=[]) (res:=⟨true, .slice 0 1 0 N (some N),[]⟩) trivial rfl rfl rfl ?_
 refine z8l o3 (q:=false) (r:=[]) (ra:=[]) (res:=⟨true, .d (.int .i64 x),[]⟩) trivial rfl rfl rfl ?_
 refine z8l o4 (q:=false) (r:=[]) (ra:=[]) (res:=⟨std.cmp .geq (x:Int) 0&&std.cmp .lss (x:Int) (std.ofNat N), .ptr 0 (0+x) 0,[]⟩) trivial (x4h rfl rfl) hc0 rfl ?_
 rw [Nat.zero_add]
 have hpe:(R.set x (row++[i])).length=N:=by rw [List.length_set,hN]
 rcases hf.cell x row hrow with ⟨hE,rfl⟩|⟨id,hE,hid,hid0,hidl⟩
 ·refine z8l o5 (q:=false) (r:=[]) (ra:=[.d (.list true 0 [])]) (res:=⟨true, .d (.list true 0 []),[]⟩) (z8b rfl hf.arr hE) (x2d rfl hf.arr rfl) rfl rfl ?_
  refine z8l o6 (q:=false) (r:=[]) (ra:=[]) (res:=⟨true, .d (.int .i64 i),[]⟩) trivial rfl rfl rfl ?_
  refine z8l o7 (q:=false) (r:=[]) (ra:=[]) (res:=⟨true, .slice h.length 1 0 1 (some 1),[(h.length, .row [[.int .i64 i]])]⟩) trivial (w0b rfl) rfl rfl ?_
  show z9x P34 0 _ [8,9,10] ⟨_,z0u h [(h.length, .row [[.int .i64 i]])],54⟩ _
  obtain ⟨H1,e1⟩:∃ H,H=z0u h [(h.length, .row [[.int .i64 i]])]:=⟨_,rfl⟩
  have hlit:z0h H1 h.length= .row [[.int .i64 i]]:=by rw [e1]; exact z0e _ _ _
  rw [←e1]
  refine z8l o8 (q:=true) (r:=[]) (ra:=[]) (res:=⟨true, .slice H1.length 1 0 1 none,[(H1.length, .row [[.int .i64 i]])]⟩) (y7m rfl) (x29 rfl rfl hlit) rfl rfl ?_
  show z9x P34 0 _ [9,10] ⟨_,z0u H1 [(H1.length, .row [[.int .i64 i]])],54⟩ _
  obtain ⟨H2,e2⟩:∃ H,H=z0u H1 [(H1.length, .row [[.int .i64 i]])]:=⟨_,rfl⟩
  obtain ⟨hh1,hh2⟩:=hf.app0 hrow hE i e1 e2
  rw [←e2]
  refine z8l o9 (q:=false) (r:=[]) (ra:=[]) (res:=⟨std.cmp .geq (x:Int) 0&&std.cmp .lss (x:Int) (std.ofNat N), .ptr 0 (0+x) 0,[]⟩) trivial (x4h rfl rfl) hc0 rfl ?_
  rw [Nat.zero_add]
  refine z8l o10 (q:=false) (r:=[]) (ra:=[.d (.list true 0 [])]) (res:=⟨true, .bot,[(0, .arow (E.set x [.slice H1.length 1 0 1 none]))]⟩) (z65 rfl hh1 hE) (y51 rfl rfl hh1) rfl rfl ?_
  refine y0c ?_
  refine ⟨⟨mkE b at_ _ _ N,z0u H2 [(0, .arow (E.set x [.slice H1.length 1 0 1 none]))],54⟩,?_,hQ _ _ hh2⟩
  exact z43.env (n:=0) (s:=⟨_,z0u H2 [(0, .arow (E.set x [.slice H1.length 1 0 1 none]))],54⟩) (z7i ⟨_,rfl⟩)
 ·refine z8l o5 (q:=false) (r:=[]) (ra:=[.slice id 1 0 row.length none]) (res:=⟨true, .slice id 1 0 row.length none,[]⟩) (z8b rfl hf.arr hE) (x2d rfl hf.arr rfl) rfl rfl ?_
  refine z8l o6 (q:=false) (r:=[]) (ra:=[]) (res:=⟨true, .d (.int .i64 i),[]⟩) trivial rfl rfl rfl ?_
  refine z8l o7 (q:=false) (r:=[]) (ra:=[]) (res:=⟨true, .slice h.length 1 0 1 (some 1),[(h.length, .row [[.int .i64 i]])]⟩) trivial (w0b rfl) rfl rfl ?_
  show z9x P34 0 _ [8,9,10] ⟨_,z0u h [(h.length, .row [[.int .i64 i]])],54⟩ _
  obtain ⟨H1,e1⟩:∃ H,H=z0u h [(h.length, .row [[.int .i64 i]])]:=⟨_,rfl⟩
  have hlit:z0h H1 h.length= .row [[.int .i64 i]]:=by rw [e1]; exact z0e _ _ _
  have hid':z0h H1 id= .row (z0f row):=by rw [e1]; show z0h (z0y _ _ _) _=_; rw [z0c _ _ _ _ (by omega)]; exact hid
  rw [←e1]
  refine z8l o8 (q:=false) (r:=[]) (ra:=[]) (res:=⟨true, .slice H1.length 1 0 (row.length+1) none,[(id, .dead),(H1.length, .row (z0f (row++[i])))]⟩) trivial (x28 rfl rfl hlit hid' hl) rfl rfl ?_
  show z9x P34 0 _ [9,10] ⟨_,z0u H1 [(id, .dead),(H1.length, .row (z0f (row++[i])))],54⟩ _
  obtain ⟨H2,e2⟩:∃ H,H=z0u H1 [(id, .dead),(H1.length, .row (z0f (row++[i])))]:=⟨_,rfl⟩
  obtain ⟨hh1,hh2⟩:=hf.app1 hrow hE hid hid0 hidl i e1 e2
  rw [←e2]
  refine z8l o9 (q:=false) (r:=[]) (ra:=[]) (res:=⟨std.cmp .geq (x:Int) 0&&std.cmp .lss (x:Int) (std.ofNat N), .ptr 0 (0+x) 0,[]⟩) trivial (x4h rfl rfl) hc0 rfl ?_
  rw [Nat.zero_add]
  refine z8l o10 (q:=false) (r:=[]) (ra:=[.slice id 1 0 row.length none]) (res:=⟨true, .bot,[(0, .arow (E.set x [.slice H1.length 1 0 (row.length+1) none]))]⟩) (z65 rfl hh1 hE) (y51 rfl rfl hh1) rfl rfl ?_
  refine y0c ?_
  refine ⟨⟨mkE b at_ _ _ N,z0u H2 [(0, .arow (E.set x [.slice H1.length 1 0 (row.length+1) none]))],54⟩,?_,hQ _ _ hh2⟩
  exact z43.env (n:=0) (s:=⟨_,z0u H2 [(0, .arow (E.set x [.slice H1.length 1 0 (row.length+1) none]))],54⟩) (z7i ⟨_,rfl⟩)
theorem z9i {c:Code} {pos:List Bool} {ss:SS} {e:AX} {ss':SS} (hcd:z1q P34 34 pos=some c) (h:sym opt std E34 (w7w opt) 20 (AX×SS) 0 34 pos c ss (fun e s=>some (e,s))=some (e,ss')):
  z4o P34 0 c ss.s (fun e' s2=>e'=e∧s2=ss'.s):=by
 obtain ⟨e0,s0,_,hc,hk⟩:=x5i v61 x0l 20 (AX×SS) 0 34 pos c ss _ _ hcd (Nat.zero_le _) h
 cases hk; exact hc
theorem z8s {env' env:List (Nat×AV)} (h:∀ x∈env',z1a env x.1=x.2):w2g env' env:=by
 intro t
 induction env' with
 |nil=>exact .inl rfl
 |cons x r ih=>
  obtain ⟨k,v⟩:=x
  simp only [z1a]
  cases hb:Nat.beq k t with
  |true=>
   have:=Nat.eq_of_beq_eq_true hb
   subst this
   exact .inr (h (k,v) (List.mem_cons_self ..)).symm
  |false=>exact ih fun x hx=>h x (List.mem_cons_of_mem _ hx)
def mkO (b at_ i:Int) (N:Nat):List (Nat×AV):=[(1, .d (.int .u64 b)),(5, .d (.int .i64 N)),(6, .slice 0 1 0 N (some N)),(7, .d (.int .i64 at_)),(8, .d (.int .i64 i))]
theorem s34:z6h []= .seq (z6h [false]) (.seq (z6h [false,true]) (.seq (z6h [false,true,true]) (.seq (z6h [false,true,true,true]) (.seq (.seq (z6h (false::pA)) (.block 0 (.loop (z6h pLB)))) (z6h [true,true,true,true,true]))))):=by kernel_rfl
theorem v1p:z6h pLB= .seq (z6h (false::pLB)) (.seq (.block 1 (.seq (z6h ([false,false,false,true]++pLB)) (.block 2 (.loop (z6h pLK))))) (z6h ([true,true]++pLB))):=by kernel_rfl
theorem v1o:z6h pLK= .seq (z6h (false::pLK)) (.seq (.block 3 (.seq (.seq (z6h ([false,false]++pX)) (.cond (.tmp 30) (.region 11 (y07 p11) false) (.region 12 (y07 p12) false))) (z6h (true::pX)))) (z6h ([true,true]++pLK))):=by kernel_rfl
theorem v5i:z1q P34 34 [false]=some (z6h [false]):=by kernel_rfl
theorem v5h:z1q P34 34 [false,true]=some (z6h [false,true]):=by kernel_rfl
theorem v5g:z1q P34 34 [false,true,true]=some (z6h [false,true,true]):=by kernel_rfl
theorem v5f:z1q P34 34 [false,true,true,true]=some (z6h [false,true,true,true]):=by kernel_rfl
theorem v5e:z1q P34 34 (false::pA)=some (z6h (false::pA)):=by kernel_rfl
theorem v5c:z1q P34 34 [true,true,true,true,true]=some (z6h [true,true,true,true,true]):=by kernel_rfl
theorem w3e:z1q P34 34 (false::pLB)=some (z6h (false::pLB)):=by kernel_rfl
theorem w94:z1q P34 34 ([false,false,false,true]++pLB)=some (z6h ([false,false,false,true]++pLB)):=by kernel_rfl
theorem w93:z1q P34 34 ([true,true]++pLB)=some (z6h ([true,true]++pLB)):=by kernel_rfl
theorem w3d:z1q P34 34 (false::pLK)=some (z6h (false::pLK)):=by kernel_rfl
theorem w92:z1q P34 34 ([false,false]++pX)=some (z6h ([false,false]++pX)):=by kernel_rfl
theorem w91:z1q P34 34 (true::pX)=some (z6h (true::pX)):=by kernel_rfl
theorem w90:z1q P34 34 ([true,true]++pLK)=some (z6h ([true,true]++pLK)):=by kernel_rfl
def y9l (b at_:Int):Bool:=std.cmp .eql (std.ar .and .u64 (std.ar .shr .u64 b at_) 1) 1
noncomputable abbrev y02 (pos:List Bool) (env:List (Nat×AV)) (h:List AO):Option (AX×SS):=sym opt std E34 (w7w opt) 20 (AX×SS) 0 34 pos (z6h pos) ⟨⟨env,h,54⟩,[]⟩ fun e s=>some (e,s)
theorem eK1 (b at_ i k:Int) (N:Nat) (h:List AO):y02 (false::pLK) (mkE b at_ i k N) h=opt.ask _ (std.cmp .lss k i)
  (some (.normal,⟨⟨mkE b at_ i k N++[(21, .d (.int .i64 k)),(22, .d (.int .i64 i)),(23, .d (.bool true))],h,54⟩,[]⟩))
  (some (.exit 2,⟨⟨mkE b at_ i k N++[(21, .d (.int .i64 k)),(22, .d (.int .i64 i)),(23, .d (.bool false))],h,54⟩,[]⟩)):=by kernel_rfl
theorem eK2 (b at_ i k:Int) (N:Nat) (h:List AO):y02 ([false,false]++pX) (mkE b at_ i k N) h=opt.need _ (std.cmp .geq at_ 0)
  (some (.normal,⟨⟨mkE b at_ i k N++[(26, .d (.int .u64 b)),(27, .d (.int .i64 at_)),(28, .d (.int .u64 (std.ar .shr .u64 b at_))),(29, .d (.int .u64 (std.ar .and .u64 (std.ar .shr .u64 b at_) 1))),(30, .d (.bool (y9l b at_)))],h,54⟩,[]⟩)):=by kernel_rfl
theorem eK3 (b at_ i k:Int) (N:Nat) (h:List AO):y02 (true::pX) (mkE b at_ i k N) h=
  some (.normal,⟨⟨mkE b (std.ar .add .i64 at_ 1) i k N++[(51, .d (.int .i64 at_)),(52, .d (.int .i64 (std.ar .add .i64 at_ 1)))],h,54⟩,[]⟩):=by kernel_rfl
theorem eK4 (b at_ i k:Int) (N:Nat) (h:List AO):y02 ([true,true]++pLK) (mkE b at_ i k N) h=
  some (.normal,⟨⟨mkE b at_ i (std.ar .add .i64 k 1) N++[(24, .d (.int .i64 k)),(25, .d (.int .i64 (std.ar .add .i64 k 1)))],h,54⟩,[]⟩):=by kernel_rfl
theorem eB1 (b at_ i:Int) (N:Nat) (h:List AO):y02 (false::pLB) (mkO b at_ i N) h=opt.ask _ (std.cmp .lss i N)
  (some (.normal,⟨⟨mkO b at_ i N++[(16, .d (.int .i64 i)),(17, .d (.int .i64 N)),(18, .d (.bool true))],h,54⟩,[]⟩))
  (some (.exit 0,⟨⟨mkO b at_ i N++[(16, .d (.int .i64 i)),(17, .d (.int .i64 N)),(18, .d (.bool false))],h,54⟩,[]⟩)):=by kernel_rfl
theorem eB2 (b at_ i:Int) (N:Nat) (h:List AO):y02 ([false,false,false,true]++pLB) (mkO b at_ i N) h=some (.normal,⟨⟨mkE b at_ i 0 N,h,54⟩,[]⟩):=by kernel_rfl
theorem eB3 (b at_ i:Int) (N:Nat) (h:List AO):y02 ([true,true]++pLB) (mkO b at_ i N) h=
  some (.normal,⟨⟨mkO b at_ (std.ar .add .i64 i 1) N++[(19, .d (.int .i64 i)),(20, .d (.int .i64 (std.ar .add .i64 i 1)))],h,54⟩,[]⟩):=by kernel_rfl
theorem v45 (s b:Int):y02 [false] [(0, .d (.int .u8 s)),(1, .d (.int .u64 b))] []=some (.normal,⟨⟨[(0, .d (.int .u8 s)),(1, .d (.int .u64 b)),(4, .d (.list true 0 []))],[],54⟩,[]⟩):=by kernel_rfl
def nB (s:Int):Int:=std.ar .add .i64 1 (std.ar .rem .i64 (std.cvt .i64 s) 10)
theorem v44 (s b:Int):y02 [false,true] [(0, .d (.int .u8 s)),(1, .d (.int .u64 b)),(4, .d (.list true 0 []))] []=
  some (.normal,⟨⟨[(0, .d (.int .u8 s)),(1, .d (.int .u64 b)),(4, .d (.list true 0 [])),(10, .d (.int .u8 s)),(11, .d (.int .i64 (std.cvt .i64 s))),(12, .d (.int .i64 (std.ar .rem .i64 (std.cvt .i64 s) 10))),(13, .d (.int .i64 (nB s))),(5, .d (.int .i64 (nB s)))],[],54⟩,[]⟩):=by kernel_rfl
theorem v43 (b n:Int):y02 [false,true,true] [(1, .d (.int .u64 b)),(5, .d (.int .i64 n))] []=opt.need _ (std.and (std.cmp .geq n 0) (std.and (std.cmp .leq n n) (std.cmp .leq n 1000000)))
  (some (.normal,⟨⟨[(1, .d (.int .u64 b)),(5, .d (.int .i64 n)),(14, .d (.int .i64 n)),(15, .slice 0 1 0 n.toNat (some n.toNat)),(6, .slice 0 1 0 n.toNat (some n.toNat))],[.row (List.replicate n.toNat [.list true 0 []])],54⟩,[[.list 1]]⟩)):=by kernel_rfl
theorem v42 (b n:Int) (N:Nat) (h:List AO):y02 [false,true,true,true] [(1, .d (.int .u64 b)),(5, .d (.int .i64 n)),(6, .slice 0 1 0 N (some N))] h=
  some (.normal,⟨⟨[(1, .d (.int .u64 b)),(5, .d (.int .i64 n)),(6, .slice 0 1 0 N (some N)),(7, .d (.int .i64 0))],h,54⟩,[]⟩):=by kernel_rfl
theorem v41 (b n:Int) (N:Nat) (h:List AO):y02 (false::pA) [(1, .d (.int .u64 b)),(5, .d (.int .i64 n)),(6, .slice 0 1 0 N (some N)),(7, .d (.int .i64 0))] h=
  some (.normal,⟨⟨[(1, .d (.int .u64 b)),(5, .d (.int .i64 n)),(6, .slice 0 1 0 N (some N)),(7, .d (.int .i64 0)),(8, .d (.int .i64 0))],h,54⟩,[]⟩):=by kernel_rfl
theorem v40 (b at_ i:Int) (N:Nat) (h:List AO):y02 [true,true,true,true,true] (mkO b at_ i N) h=
  some (.ret,⟨⟨mkO b at_ i N++[(53, .slice 0 1 0 N (some N)),(4, .slice 0 1 0 N (some N))],h,54⟩,[]⟩):=by kernel_rfl
def z95 (b:Int) (at_ i k:Nat) (R:List (List Int)):List (List Int):=bif y9l b at_ then R.set i (R.getD i []++[(k:Int)]) else R.set k (R.getD k []++[(i:Int)])
def byK (b:Int) (i at_:Nat) (R:List (List Int)):Nat→List (List Int)
 |0=>R
 |k+1=>z95 b (at_+k) i k (byK b i at_ R k)
def prs:Nat→Nat
 |0=>0
 |n+1=>prs n+n
def byI (b:Int) (R:List (List Int)):Nat→List (List Int)
 |0=>R
 |i+1=>byK b i (prs i) (byI b R i) i
theorem y71 (b:Int) (at_ i k:Nat) (R:List (List Int)):(z95 b at_ i k R).length=R.length:=by
 unfold z95; cases y9l b at_<;>simp
theorem x8k (b:Int) (i at_:Nat) (R:List (List Int)) (k:Nat):(byK b i at_ R k).length=R.length:=by
 induction k with
 |zero=>rfl
 |succ k ih=>rw [byK,y71,ih]
theorem x8m (b:Int) (R:List (List Int)) (i:Nat):(byI b R i).length=R.length:=by
 induction i with
 |zero=>rfl
 |succ i ih=>rw [byI,x8k,ih]
def z5g (m:Nat) (R:List (List Int)):Prop:=∀ l∈R,l.length≤m
theorem y98 {b:Int} {at_ i k m:Nat} {R:List (List Int)} (h:z5g m R):z5g (m+1) (z95 b at_ i k R):=by
 have key:∀ x y,z5g (m+1) (R.set x (R.getD x []++[y])):=fun x y l hl=>by
  rcases List.mem_or_eq_of_mem_set hl with hl|rfl
  ·have:=h l hl; omega
  ·rw [List.length_append,List.length_singleton,List.getD_eq_getElem?_getD]
   cases hx:R[x]? with
   |none=>simp
   |some r=>have:=h r (List.mem_of_getElem? hx); simpa using this
 unfold z95
 cases y9l b at_
 ·exact key k i
 ·exact key i k
theorem y9k {b:Int} {i at_ m:Nat} {R:List (List Int)} (h:z5g m R) (k:Nat):z5g (m+k) (byK b i at_ R k):=by
 induction k with
 |zero=>exact h
 |succ k ih=>rw [byK, ←Nat.add_assoc]; exact y98 (b:=b) ih
theorem x8l {b:Int} {m:Nat} {R:List (List Int)} (h:z5g m R) (i:Nat):z5g (m+prs i) (byI b R i):=by
 induction i with
 |zero=>exact h
 |succ i ih=>rw [byI,prs, ←Nat.add_assoc]; exact y9k (b:=b) (at_:=prs i) (i:=i) ih i
theorem w7v {n:Nat} (h:n≤10):prs n≤45:=by
 have hs:n=0∨n=1∨n=2∨n=3∨n=4∨n=5∨n=6∨n=7∨n=8∨n=9∨n=10:=by omega
 rcases hs with h|h|h|h|h|h|h|h|h|h|h<;>subst h<;>decide
theorem v1h {i:Nat} (h:i≤1000000):std.ar .add .i64 (i:Int) 1=((i+1:Nat):Int):=by rw [z0j]; exact z06 (by omega)
theorem v2l {b:Int} {at_ i k N:Nat} {h:List AO} {E:List (List AV)} {R:List (List Int)} (hf:Fam h E R) (hN:R.length=N) (hi:i<N) (hk:k<i) (hat:at_≤1000) (hsh:z5g 900 R) {Q:AX→AS→Prop}
  (hQ:∀ h' E',Fam h' E' (z95 b at_ i k R)→Q .normal ⟨mkE b ((at_+1:Nat):Int) i k N,h',54⟩):
  z4o P34 0 (.seq (.seq (z6h ([false,false]++pX)) (.cond (.tmp 30) (.region 11 (y07 p11) false) (.region 12 (y07 p12) false))) (z6h (true::pX))) ⟨mkE b at_ i k N,h,54⟩ (fun e s=>∃ s',z43 0 s s'∧Q e s'):=by
 have hge:std.cmp .geq (at_:Int) 0=true:=by rw [y6a]; exact decide_eq_true (by omega)
 refine z2c (z2c ((z9i w92 ((eK2 b at_ i k N h).trans (by rw [hge]; rfl))).mono ?_))
 rintro e s ⟨rfl,rfl⟩
 have hc:z0p (mkE b at_ i k N++[(26, .d (.int .u64 b)),(27, .d (.int .i64 (at_:Int))),(28, .d (.int .u64 (std.ar .shr .u64 b at_))),(29, .d (.int .u64 (std.ar .and .u64 (std.ar .shr .u64 b at_) 1))),(30, .d (.bool (y9l b at_)))]) (.tmp 30)= .d (.bool (y9l b at_)):=rfl
 refine y3x (t:=y9l b at_) hc ?_
 have fin:∀ h' E',Fam h' E' (z95 b at_ i k R)→z4o P34 0 (z6h (true::pX)) ⟨mkE b at_ i k N,h',54⟩ (fun e s=>∃ s',z43 0 s s'∧Q e s'):=by
  intro h' E' hf'
  refine (z9i w91 (eK3 b at_ i k N h')).mono ?_
  rintro e s ⟨rfl,rfl⟩
  rw [v1h (i:=at_) (by omega)]
  exact ⟨⟨mkE b ((at_+1:Nat):Int) i k N,h',54⟩,z43.env (n:=0) (s:=⟨_,h',54⟩) (z7i ⟨_,rfl⟩),hQ h' E' hf'⟩
 cases hb:y9l b at_ with
 |true=>
  rw [if_pos rfl]
  obtain ⟨row,hrow⟩:=z15 (l:=R) (i:=i) (by omega)
  have hst:z95 b at_ i k R=R.set i (row++[(k:Int)]):=by rw [z95,hb,cond_true,z5l hrow]
  refine z36 (s':=⟨mkE b at_ i k N,h,54⟩) (z43.env (n:=0) (s:=⟨_,h,54⟩) (z7i ⟨_,rfl⟩)) (z2v (z9s ?_))
  have:=v1r (b:=b) (at_:=at_) (i:=i) (k:=k) (N:=N) (x:=i) hf rfl hN hrow (by have:=hsh row (List.mem_of_getElem? hrow); omega) (Q:=fun s'=>z4o P34 0 (z6h (true::pX)) s' (fun e s=>∃ s',z43 0 s s'∧Q e s')) (fun h' E' hf'=>fin h' E' (by rw [hst]; exact hf'))
  exact this
 |false=>
  rw [if_neg (by simp)]
  obtain ⟨row,hrow⟩:=z15 (l:=R) (i:=k) (by omega)
  have hst:z95 b at_ i k R=R.set k (row++[(i:Int)]):=by rw [z95,hb,cond_false,z5l hrow]
  refine z36 (s':=⟨mkE b at_ i k N,h,54⟩) (z43.env (n:=0) (s:=⟨_,h,54⟩) (z7i ⟨_,rfl⟩)) (z2v (z9s ?_))
  have:=v1q (b:=b) (at_:=at_) (i:=i) (k:=k) (N:=N) (x:=k) hf rfl hN hrow (by have:=hsh row (List.mem_of_getElem? hrow); omega) (Q:=fun s'=>z4o P34 0 (z6h (true::pX)) s' (fun e s=>∃ s',z43 0 s s'∧Q e s')) (fun h' E' hf'=>fin h' E' (by rw [hst]; exact hf'))
  exact this
theorem w5c {b:Int} {at_ i N:Nat} {h:List AO} {E:List (List AV)} {R:List (List Int)} (hf:Fam h E R) (hN:R.length=N) (hi:i<N) (hi10:N≤10) (hat:at_≤100) (hsh:z5g 100 R) {Q:AX→AS→Prop}
  (hQ:∀ h' E',Fam h' E' (byK b i at_ R i)→Q (.exit 2) ⟨mkO b ((at_+i:Nat):Int) i N,h',54⟩):
  z4o P34 0 (.loop (z6h pLK)) ⟨mkE b at_ i ((0:Nat):Int) N,h,54⟩ Q:=by
 let ι:={ x:Nat×List AO×List (List AV) // x.1≤i∧Fam x.2.1 x.2.2 (byK b i at_ R x.1) }
 let I:ι→AS:=fun g=>⟨mkE b ((at_+g.1.1:Nat):Int) i (g.1.1:Nat) N,g.1.2.1,54⟩
 refine y9b (ι:=ι) I (fun g=>i - g.1.1) (fun _ _=>rfl) ?_ ⟨(0,h,E),Nat.zero_le _,hf⟩
 rintro ⟨⟨k,h1,E1⟩,hk,hf1⟩
 rw [v1o]
 refine z2c ?_
 by_cases hlt:k<i
 ·have hc:std.cmp .lss ((k:Nat):Int) (i:Int)=true:=by rw [y01]; exact decide_eq_true (by omega)
  refine (z9i w3d ((eK1 b ((at_+k:Nat):Int) i k N h1).trans (by rw [hc]; rfl))).mono ?_
  rintro e s ⟨rfl,rfl⟩
  refine z36 (s':=⟨mkE b ((at_+k:Nat):Int) i k N,h1,54⟩) (z43.env (n:=0) (s:=⟨_,h1,54⟩) (z7i ⟨_,rfl⟩)) (z2c (z3w (z2v ?_)))
  have hshk:=y9k (b:=b) (i:=i) (at_:=at_) hsh k
  have hsh1:z5g 900 (byK b i at_ R k):=fun l hl=>Nat.le_trans (hshk l hl) (by omega)
  refine v2l hf1 (by rw [x8k]; exact hN) hi hlt (by omega) hsh1 fun h2 E2 hf2=>?_
  refine z2v ((z9i w90 (eK4 b ((at_+k+1:Nat):Int) i k N h2)).mono ?_)
  rintro e s ⟨rfl,rfl⟩
  rw [v1h (i:=k) (by omega)]
  exact ⟨⟨mkE b ((at_+k+1:Nat):Int) i ((k+1:Nat):Int) N,h2,54⟩,z43.env (n:=0) (s:=⟨_,h2,54⟩) (z7i ⟨_,rfl⟩),⟨⟨(k+1,h2,E2),hlt,hf2⟩,rfl,by show i - (k+1)<i - k; omega⟩⟩
 ·have hc:std.cmp .lss ((k:Nat):Int) (i:Int)=false:=by rw [y01]; exact decide_eq_false (by omega)
  have hki:k=i:=by omega
  subst hki
  refine z2v ((z9i w3d ((eK1 b ((at_+k:Nat):Int) k k N h1).trans (by rw [hc]; rfl))).mono ?_)
  rintro e s ⟨rfl,rfl⟩
  exact ⟨⟨mkO b ((at_+k:Nat):Int) k N,h1,54⟩,z43.env (n:=0) (s:=⟨_,h1,54⟩) (z8s fun x hx=>by
   simp only [mkO,List.mem_cons,List.not_mem_nil,or_false] at hx
   rcases hx with rfl|rfl|rfl|rfl|rfl<;>rfl),hQ h1 E1 hf1⟩
theorem w4f {b:Int} {N:Nat} {h:List AO} {E:List (List AV)} {R:List (List Int)} (hf:Fam h E R) (hN:R.length=N) (hi10:N≤10) (hsh:z5g 0 R) {Q:AX→AS→Prop}
  (hQ:∀ h' E',Fam h' E' (byI b R N)→Q (.exit 0) ⟨mkO b (prs N:Nat) N N,h',54⟩):
  z4o P34 0 (.loop (z6h pLB)) ⟨mkO b ((0:Nat):Int) ((0:Nat):Int) N,h,54⟩ Q:=by
 let ι:={ x:Nat×List AO×List (List AV) // x.1≤N∧Fam x.2.1 x.2.2 (byI b R x.1) }
 let I:ι→AS:=fun g=>⟨mkO b (prs g.1.1:Nat) (g.1.1:Nat) N,g.1.2.1,54⟩
 refine y9b (ι:=ι) I (fun g=>N - g.1.1) (fun _ _=>rfl) ?_ ⟨(0,h,E),Nat.zero_le _,hf⟩
 rintro ⟨⟨i,h1,E1⟩,hi,hf1⟩
 rw [v1p]
 refine z2c ?_
 have hp:=w7v (n:=i) (by omega)
 by_cases hlt:i<N
 ·have hc:std.cmp .lss ((i:Nat):Int) (N:Int)=true:=by rw [y01]; exact decide_eq_true (by omega)
  refine (z9i w3e ((eB1 b (prs i:Nat) i N h1).trans (by rw [hc]; rfl))).mono ?_
  rintro e s ⟨rfl,rfl⟩
  refine z36 (s':=⟨mkO b (prs i:Nat) i N,h1,54⟩) (z43.env (n:=0) (s:=⟨_,h1,54⟩) (z8s fun x hx=>by
   simp only [mkO,List.mem_cons,List.not_mem_nil,or_false] at hx
   rcases hx with rfl|rfl|rfl|rfl|rfl<;>rfl)) (z2c (z3w (z2c ((z9i w94 (eB2 b (prs i:Nat) i N h1)).mono ?_))))
  rintro e s ⟨rfl,rfl⟩
  refine z3w ?_
  have hshi:=x8l (b:=b) hsh i
  refine w5c (at_:=prs i) (i:=i) hf1 (by rw [x8m]; exact hN) hlt hi10 (by omega) (fun l hl=>Nat.le_trans (hshi l hl) (by omega)) fun h2 E2 hf2=>?_
  simp only [if_true]
  refine z2v ((z9i w93 (eB3 b ((prs i+i:Nat):Int) i N h2)).mono ?_)
  rintro e s ⟨rfl,rfl⟩
  rw [v1h (i:=i) (by omega)]
  exact ⟨⟨mkO b ((prs i+i:Nat):Int) ((i+1:Nat):Int) N,h2,54⟩,z43.env (n:=0) (s:=⟨_,h2,54⟩) (z8s fun x hx=>by
   simp only [mkO,List.mem_cons,List.not_mem_nil,or_false] at hx
   rcases hx with rfl|rfl|rfl|rfl|rfl<;>rfl),⟨⟨(i+1,h2,E2),hlt,hf2⟩,rfl,by show N - (i+1)<N - i; omega⟩⟩
 ·have hc:std.cmp .lss ((i:Nat):Int) (N:Int)=false:=by rw [y01]; exact decide_eq_false (by omega)
  have hki:i=N:=by omega
  subst hki
  refine z2v ((z9i w3e ((eB1 b (prs i:Nat) i i h1).trans (by rw [hc]; rfl))).mono ?_)
  rintro e s ⟨rfl,rfl⟩
  exact ⟨⟨mkO b (prs i:Nat) i i,h1,54⟩,z43.env (n:=0) (s:=⟨_,h1,54⟩) (z8s fun x hx=>by
   simp only [mkO,List.mem_cons,List.not_mem_nil,or_false] at hx
   rcases hx with rfl|rfl|rfl|rfl|rfl<;>rfl),hQ h1 E1 hf1⟩
end Go.Am
end
section
namespace Go.Am
theorem x5z {env:List (Nat×AV)} {es:List (List D)} {nt:Nat}:z43 0 ⟨env,[.row es],nt⟩ ⟨env,[.arow (es.map (List.map AV.d))],nt⟩:=⟨by
 intro P ρ tm w h
 have hlive:∀ id,(z0h [AO.row es] id).live=(z0h [AO.arow (es.map (List.map AV.d))] id).live:=fun id=>by cases id<;>rfl
 have hO:z0g ρ [AO.row es]=z0g ρ [AO.arow (es.map (List.map AV.d))]:=by
  funext b; unfold z0g; simp only [hlive]
 have hh:=h.heap
 refine ⟨ρ,⟨⟨fun id L hL=>?_,fun id id' L L' a b c d e=>hh.inj id id' L L' a b (by rw [hlive]; exact c) (by rw [hlive]; exact d) e,hh.fr,fun id L hL hl=>hh.sep id L hL (by rw [hlive]; exact hl)⟩,fun t=>?_,h.size,fun id hid=>h.dom id hid⟩,rfl,?_,fun _ _=>rfl⟩
 ·obtain ⟨h1,h2⟩:=hh.obj id L hL
  refine ⟨h1,?_⟩
  show z1i P ρ (z0g ρ [AO.arow (es.map (List.map AV.d))]) w L (z0h [AO.arow (es.map (List.map AV.d))] id)
  rw [←hO]
  cases id with
  |zero=>
   obtain ⟨hz,c,t,hc,hl,hj⟩:=h2
   refine ⟨hz,c,t,hc,fun i r hi=>?_,fun i r j x hi hj'=>?_⟩
   ·rw [List.getElem?_map] at hi
    cases he:es[i]? with
    |none=>rw [he] at hi; cases hi
    |some r0=>rw [he] at hi; cases hi; rw [List.length_map]; exact hl i r0 he
   ·rw [List.getElem?_map] at hi
    cases he:es[i]? with
    |none=>rw [he] at hi; cases hi
    |some r0=>
     rw [he] at hi; cases hi
     rw [List.getElem?_map] at hj'
     cases hd:r0[j]? with
     |none=>rw [hd] at hj'; cases hj'
     |some d0=>
      rw [hd] at hj'; cases hj'
      obtain ⟨v,a,b,e⟩:=hj i r0 j d0 he hd
      exact ⟨v,a,b, .d e⟩
  |succ n=>exact h2
 ·show z0n ρ (z0g ρ [AO.arow (es.map (List.map AV.d))]) w _ _
  rw [←hO]; exact h.env t
 ·exact ⟨rfl,rfl,rfl,⟨Nat.le_refl _,fun _ _ _=>rfl,fun b _ hb=>by rw [hO]; exact hb,fun _ _ h=>h,z0q.refl _⟩,fun _ _=>rfl,rfl,fun _ _=>rfl⟩⟩
theorem fam0 (N:Nat):Fam [.arow (List.replicate N [AV.d (.list true 0 [])])] (List.replicate N [AV.d (.list true 0 [])]) (List.replicate N []):=by
 refine ⟨by simp,rfl,by simp,fun j row hj=> .inl ?_,fun j j' id l l' h1 _=>?_⟩
 ·rw [List.getElem?_replicate] at hj⊢
  split at hj
  ·rename_i hlt; cases hj; rw [if_pos hlt]; exact ⟨rfl,rfl⟩
  ·cases hj
 ·rw [List.getElem?_replicate] at h1
  split at h1<;>cases h1
theorem x5y {h:List AO} {E:List (List AV)} {R:List (List Int)} {env:List (Nat×AV)} {N nt:Nat} (hf:Fam h E R) (hN:R.length=N) (he:z1a env 4= .slice 0 1 0 N (some N)):
  z43 0 ⟨env,h,nt⟩ ⟨[(4, .d (.list false 1 (z0x (fun _=>false) R)))],[],nt⟩:=⟨by
 intro P ρ tm w h1
 have hv:x85 (fun _=>false) h []:=⟨fun id=>by rw [z3y]; rfl,fun id hk=>by cases hk⟩
 have h2:=h1.view (h':=[]) hv
 refine ⟨ρ.only fun _=>false,⟨h2.heap,fun t=>?_,h2.size,h2.dom⟩,rfl,Ext.view' (fun id hid=>absurd hid (Nat.not_lt_zero _)) ρ w hv,fun id hid=>absurd hid (Nat.not_lt_zero _)⟩
 show z0n (ρ.only fun _=>false) (z0g (ρ.only fun _=>false) []) w (bif Nat.beq 4 t then _ else _) _
 cases hb:Nat.beq 4 t with
 |false=>exact .bot _
 |true=>
  have ht:=Nat.eq_of_beq_eq_true hb
  subst ht
  simp only [cond_true]
  have hv4:=h1.env 4
  have hv4:z0n ρ (z0g ρ h) w (z1a env 4) (tm.getD 4 undef):=hv4
  rw [he] at hv4
  generalize tm.getD 4 undef=v at hv4
  have hlen:(z0x (fun _=>false) R).length=N:=by rw [z3o,hN]
  have hnil:N=0→z0x (fun _=>false) R=[]:=fun h0=>List.length_eq_zero_iff.1 (by rw [hlen]; exact h0)
  cases hv4 with
  |nils _ _ _ _ a hc=>
   rw [hnil rfl]
   exact .d (.lnil _ _ _ _ (by simp))
  |slice _ _ _ _ _ L a c hL hz ha hc hl=>
   by_cases h0:N=0
   ·subst h0
    rw [hnil rfl]
    exact .d (.lnil _ _ _ _ (by simp))
   ·have ha':=ha (by omega)
    subst ha'
    obtain ⟨hblk,hob⟩:=h1.heap.obj 0 L hL
    have hob:z1i P ρ (z0g ρ h) w L (z0h h 0):=hob
    rw [hf.arr] at hob
    obtain ⟨hz0,cs,t0,hcs,hlens,hcell⟩:=hob
    have key:∀ (i:Nat) (row:List Int),R[i]?=some row→∃ u,cs[L.base+i]?=some u∧u.oneCell'=true∧z1l (z0g (ρ.only fun _=>false) []) w (.list false 1 (z0f row)) u:=by
     intro i row hrow
     rcases hf.cell i row hrow with ⟨hE,rfl⟩|⟨id,hE,hid,hid0,hidl⟩
     ·obtain ⟨u,a,b,e⟩:=hcell i _ 0 _ hE rfl
      rw [hz,Nat.mul_one,Nat.add_zero] at a
      refine ⟨u,a,b,?_⟩
      cases e with|d e=>
      cases e with
      |lnil _ _ a c h=>exact .lnil _ _ _ _ (by simp)
      |list _ _ b o z c hz hne=>exact absurd rfl hne
     ·obtain ⟨u,a,b,e⟩:=hcell i _ 0 _ hE rfl
      rw [hz,Nat.mul_one,Nat.add_zero] at a
      refine ⟨u,a,b,?_⟩
      have hc1:(bV std h (.slice id 1 0 row.length none)).1=true:=by
       simp only [bV,hid]
       rw [y59,x0a,x5n,z0t]; exact decide_eq_true (by omega)
      have:=w60 h1.heap e hc1
      have hc2:(bV std h (.slice id 1 0 row.length none)).2= .d (.list false 1 (z0f row)):=by
       simp only [bV,hid]
       rw [x5o,List.drop_zero,List.take_of_length_le (by rw [z0t]; exact Nat.le_refl _)]
      rw [hc2] at this
      cases this with|d this=>exact this
    have hget:∀ (i:Nat) (r:List D),(z0x (fun _=>false) R)[i]?=some r→∃ row:List Int,R[i]?=some row∧r=[D.list false 1 (z0f row)]:=by
     intro i r hi
     rw [z0x,List.getElem?_map] at hi
     cases hr:R[i]? with
     |none=>rw [hr] at hi; cases hi
     |some row=>rw [hr] at hi; cases hi; exact ⟨row,rfl,rfl⟩
    refine .d ?_
    have fin:=z1l.list (O:=z0g (ρ.only fun _=>false) []) (w:=w) false (z0x (fun _=>false) R) L.blk (L.base+0*L.esz) 1 c (by omega) (by intro e; rw [e] at hlen; simp at hlen; omega)
     (fun hb=>h1.heap.sep 0 L hL (by show (z0h h 0).live=true; rw [hf.arr]; rfl) (z4l.1 hb)) (by rw [hlen]; exact hl) (by simp) (fun i r hi=>by obtain ⟨row,_,rfl⟩:=hget i r hi; rfl)
     (fun k=>(cs[L.base+k]?).getD undef) (fun k hk=>?_) (fun k hk=>?_) (fun i r j d hi hj=>?_)
    ·rw [hlen] at fin; exact fin
    ·rw [hlen,Nat.mul_one] at hk
     obtain ⟨row,hrow⟩:=z15 (l:=R) (i:=k) (by omega)
     obtain ⟨u,a,b,_⟩:=key k row hrow
     rw [a]; exact b
    ·rw [hlen,Nat.mul_one] at hk
     obtain ⟨row,hrow⟩:=z15 (l:=R) (i:=k) (by omega)
     obtain ⟨u,a,_,_⟩:=key k row hrow
     rw [Nat.zero_mul,Nat.add_zero,a]; exact z7l hcs a
    ·obtain ⟨row,hrow,rfl⟩:=hget i r hi
     obtain ⟨u,a,_,e⟩:=key i row hrow
     cases j with
     |zero=>
      cases hj
      rw [Nat.mul_one,Nat.add_zero,a]; exact e
     |succ j=>simp at hj⟩
def x1b (n:Nat) (b:Int):List (List Int):=byI b (List.replicate n []) n
theorem v0e {s b:Int} {n:Nat} (hn:nB s=(n:Int)) (h10:n≤10):z89 P34 34 [.d (.int .u8 s), .d (.int .u64 b)] [] (.d (.list false 1 (z0x (fun _=>false) (x1b n b)))) []:=by
 have hfn:∃ fn,P34.funcs[34]?=some fn∧fn.body=some (z6h [])∧fn.ntmps=54∧fn.results.toList=[.tmp 4]:=by
  have:(P34.funcs[34]?.map fun fn=>(fn.body,fn.ntmps,fn.results.toList))=some (some (z6h []),54,[.tmp 4]):=by kernel_rfl
  cases hq:P34.funcs[34]? with
  |none=>rw [hq] at this; cases this
  |some fn=>
   rw [hq] at this
   simp only [Option.map_some,Option.some.injEq,Prod.mk.injEq] at this
   exact ⟨fn,rfl,this.1,this.2.1,this.2.2⟩
 obtain ⟨fn,hf,hb,hnt,hres⟩:=hfn
 refine y1v v60 hf hb hnt (by show 2≤54; omega) ?_
 rw [hres,s34]
 refine z2c ((z9i v5i (v45 s b)).mono ?_)
 rintro e s1 ⟨rfl,rfl⟩
 refine z2c ((z9i v5h (v44 s b)).mono ?_)
 rintro e s1 ⟨rfl,rfl⟩
 refine z36 (s':=⟨[(1, .d (.int .u64 b)),(5, .d (.int .i64 n))],[],54⟩) (z43.env (n:=0) (s:=⟨_,[],54⟩) (z8s fun x hx=>by
   simp only [List.mem_cons,List.not_mem_nil,or_false] at hx
   rcases hx with rfl|rfl
   ·rfl
   ·rw [←hn]; rfl)) ?_
 have hc:std.and (std.cmp .geq (n:Int) 0) (std.and (std.cmp .leq (n:Int) n) (std.cmp .leq (n:Int) 1000000))=true:=by
  rw [y6a,x5m,x5m,x5p,x5p,decide_eq_true (show (n:Int)≥0 by omega),decide_eq_true (Int.le_refl _),decide_eq_true (show (n:Int)≤1000000 by omega)]; rfl
 refine z2c ((z9i v5g ((v43 b n).trans (by rw [hc]; rfl))).mono ?_)
 rintro e s1 ⟨rfl,rfl⟩
 have ht:((n:Int)).toNat=n:=by omega
 simp only [ht]
 refine z36 (s':=⟨[(1, .d (.int .u64 b)),(5, .d (.int .i64 n)),(6, .slice 0 1 0 n (some n))],[.arow (List.replicate n [AV.d (.list true 0 [])])],54⟩) ?_ ?_
 ·have h1:=x5z (env:=[(1, .d (.int .u64 b)),(5, .d (.int .i64 n)),(6, .slice 0 1 0 n (some n))]) (es:=List.replicate n [.list true 0 []]) (nt:=54)
  rw [List.map_replicate] at h1
  exact (z43.env (n:=0) (s:=⟨_,[.row (List.replicate n [.list true 0 []])],54⟩) (z8s fun x hx=>by
   simp only [List.mem_cons,List.not_mem_nil,or_false] at hx
   rcases hx with rfl|rfl|rfl<;>rfl)).trans h1
 refine z2c ((z9i v5f (v42 b n n _)).mono ?_)
 rintro e s1 ⟨rfl,rfl⟩
 refine z2c (z2c ((z9i v5e (v41 b n n _)).mono ?_))
 rintro e s1 ⟨rfl,rfl⟩
 refine z3w ?_
 refine w4f (b:=b) (fam0 n) (by simp) h10 (fun l hl=>by rw [(List.mem_replicate.1 hl).2]; simp) fun h' E' hf'=>?_
 simp only [if_true]
 refine z2v ((z9i v5c (v40 b (prs n:Nat) n n h')).mono ?_)
 rintro e s1 ⟨rfl,rfl⟩
 refine ⟨⟨[(4, .d (.list false 1 (z0x (fun _=>false) (x1b n b))))],[],54⟩,?_, .inr rfl,rfl,rfl⟩
 exact x5y (R:=x1b n b) (N:=n) hf' (by rw [x1b,x8m]; simp) rfl
noncomputable def y0o:Ctr:=
 ⟨34,[.int .u8, .int .u64],[],[(.ret,⟨[(0, .list 1)],[],1⟩)]⟩
def q34 (x:Int×(Int×Unit)):Option (List (List D)×Unit):=
 bif decide (0≤x.1)&&decide (x.1≤255) then some (z0x (fun _=>false) (x1b (1+x.1.toNat % 10) x.2.1),()) else none
noncomputable def G34:(p:Prim)→(Int×(Int×Unit))→Option (List (List D)×Unit):=fun p x=>q34 x
noncomputable def F34:Prim→Tup (y0o).scs→Option (STup (scss (y0o).outs)):=fun p x=>G34 p x
theorem w03:z2h Go.Proofs.Try.prog 34:=enters_auto (b:=_) rfl (by kernel_rfl)
theorem v2h {s:Int} (h0:0≤s) (h1:s≤255):nB s=((1+s.toNat % 10:Nat):Int):=by
 obtain ⟨m,rfl⟩:∃ m:Nat,s=(m:Int):=⟨s.toNat,by omega⟩
 have e1:std.cvt .i64 (m:Int)=(m:Int):=by rw [w33,z2s]<;>omega
 have e2:((m:Int)).tmod 10=((m % 10:Nat):Int):=(Int.ofNat_tmod m 10).symm
 rw [nB,e1,x3n,z0j,e2,z2s]<;>simp<;>omega
theorem ok34:CtrOk Go.Proofs.Try.prog y0o (F34 std):=by
 have key:∀ (s b:Int) (y:STup (scss (y0o).outs)),q34 (s,(b,()))=some y→(y37 std y0o (y0u (y0o).scs (s,(b,())))).2.length≤(z1h std (y0o).outs y).2.s.heap.length∧
   z89 Go.Proofs.Try.prog 34 (y37 std y0o (y0u (y0o).scs (s,(b,())))).1 (y37 std y0o (y0u (y0o).scs (s,(b,())))).2 (z1a (z1h std (y0o).outs y).2.s.env 0) (z1h std (y0o).outs y).2.s.heap:=by
  intro s b y hy
  unfold q34 at hy
  simp only at hy
  cases hb:(decide (0≤s)&&decide (s≤255)) with
  |false=>rw [hb] at hy; cases hy
  |true=>
   rw [hb] at hy; cases hy
   simp only [Bool.and_eq_true,decide_eq_true_eq] at hb
   have:=v0e (b:=b) (v2h hb.1 hb.2) (by omega)
   exact ⟨Nat.le_refl _,this⟩
 exact ⟨w03,fun x y hy=>key x.1 x.2.1 y hy⟩
end Go.Am
end
section
namespace Go.Am
open T11
def beB (b:Int) (r x:Nat):Bool:=if x<r then y9l b ((prs r+x:Nat):Int) else if r<x then !y9l b ((prs x+r:Nat):Int) else false
theorem w12 (b:Int) (n:Nat):z9y (beB b) n:=by
 refine ⟨fun i _=>by simp [beB],fun i k _ _ hne=>?_⟩
 unfold beB
 by_cases h:k<i
 ·rw [if_pos h,if_neg (by omega),if_pos h,Bool.not_not]
 ·rw [if_neg h,if_pos (by omega),if_pos (by omega)]
def y9w (i k r:Nat):Nat:=if r<k then i+1 else if r<i then i else if r=i then k else 0
def y03 (b:Int) (n i k:Nat):List (List Int):=(List.range n).map fun r=>toI ((List.range (y9w i k r)).filter (beB b r))
theorem z7s (b:Int) (n i k:Nat):(y03 b n i k).length=n:=by simp [y03]
theorem z6r (b:Int) {n i k r:Nat} (hr:r<n):(y03 b n i k)[r]?=some (toI ((List.range (y9w i k r)).filter (beB b r))):=by
 rw [y03,List.getElem?_map,List.getElem?_range hr]; rfl
theorem y3q (b:Int) (r m:Nat):toI ((List.range (m+1)).filter (beB b r))=toI ((List.range m).filter (beB b r))++(if beB b r m=true then [(m:Int)] else []):=by
 rw [List.range_succ,List.filter_append,w3x]
 congr 1
 cases h:beB b r m<;>simp [h,toI]
theorem x3m (b:Int) {n i k:Nat} (hi:i<n) (hk:k<i):z95 b (prs i+k) i k (y03 b n i k)=y03 b n i (k+1):=by
 have hik:beB b i k=y9l b ((prs i+k:Nat):Int):=by unfold beB; rw [if_pos hk]
 have hki:beB b k i=!y9l b ((prs i+k:Nat):Int):=by unfold beB; rw [if_neg (by omega),if_pos hk]
 have li:y9w i k i=k:=by unfold y9w; rw [if_neg (by omega),if_neg (by omega),if_pos rfl]
 have li':y9w i (k+1) i=k+1:=by unfold y9w; rw [if_neg (by omega),if_neg (by omega),if_pos rfl]
 have lk:y9w i k k=i:=by unfold y9w; rw [if_neg (by omega),if_pos hk]
 have lk':y9w i (k+1) k=i+1:=by unfold y9w; rw [if_pos (by omega)]
 have lo:∀ r,r≠i→r≠k→y9w i (k+1) r=y9w i k r:=fun r h1 h2=>by
  unfold y9w
  by_cases a:r<k
  ·rw [if_pos (by omega),if_pos a]
  ·rw [if_neg (by omega),if_neg a]
   by_cases c:r<i
   ·rw [if_pos c,if_pos c]
   ·rw [if_neg c,if_neg c,if_neg h1,if_neg h1]
 have gi:(y03 b n i k).getD i []=toI ((List.range k).filter (beB b i)):=by rw [List.getD_eq_getElem?_getD,z6r b hi,li]; rfl
 have gk:(y03 b n i k).getD k []=toI ((List.range i).filter (beB b k)):=by rw [List.getD_eq_getElem?_getD,z6r b (show k<n by omega),lk]; rfl
 have fi:=y3q b i k
 have fk:=y3q b k i
 rw [hik] at fi
 rw [hki] at fk
 apply List.ext_getElem?
 intro r
 by_cases hr:r<n
 ·rw [z6r b hr]
  cases hb:y9l b ((prs i+k:Nat):Int) with
  |true=>
   rw [hb] at fi fk
   simp only [Bool.not_true,Bool.false_eq_true,if_true,if_false,List.append_nil] at fi fk
   rw [z95,hb,cond_true,List.getElem?_set,z7s,gi]
   by_cases e:i=r
   ·subst e; rw [if_pos rfl,if_pos hi,li',fi]
   ·rw [if_neg e,z6r b hr]
    by_cases e2:r=k
    ·subst e2; rw [lk,lk',fk]
    ·rw [lo r (Ne.symm e) e2]
  |false=>
   rw [hb] at fi fk
   simp only [Bool.not_false,Bool.false_eq_true,if_true,if_false,List.append_nil] at fi fk
   rw [z95,hb,cond_false,List.getElem?_set,z7s,gk]
   by_cases e:k=r
   ·subst e; rw [if_pos rfl,if_pos hr,lk',fk]
   ·rw [if_neg e,z6r b hr]
    by_cases e2:r=i
    ·subst e2; rw [li,li',fi]
    ·rw [lo r e2 (Ne.symm e)]
 ·rw [List.getElem?_eq_none (by rw [y71,z7s]; omega),List.getElem?_eq_none (by rw [z7s]; omega)]
theorem w1v (b:Int) {n i:Nat} (hi:i<n):∀ k,k≤i→byK b i (prs i) (y03 b n i 0) k=y03 b n i k:=by
 intro k
 induction k with
 |zero=>intro _; rfl
 |succ k ih=>intro hk; rw [byK,ih (by omega),x3m b hi (by omega)]
theorem x3q (b:Int) {n i:Nat}:y03 b n i i=y03 b n (i+1) 0:=by
 refine List.map_congr_left fun r _=>?_
 unfold y9w
 by_cases h:r<i
 ·rw [if_pos h,if_neg (show ¬ r<0 by omega),if_pos (show r<i+1 by omega)]
 ·rw [if_neg h,if_neg h,if_neg (show ¬ r<0 by omega)]
  by_cases e:r=i
  ·subst e
   rw [if_pos rfl,if_pos (show r<r+1 by omega),y3q,if_neg (by simp [beB]),List.append_nil]
  ·rw [if_neg e,if_neg (show ¬ r<i+1 by omega)]
   split<;>rfl
theorem w1w (b:Int) {n:Nat}:∀ i,i≤n→byI b (List.replicate n []) i=y03 b n i 0:=by
 intro i
 induction i with
 |zero=>
  intro _
  apply List.ext_getElem?
  intro r
  by_cases hr:r<n
  ·rw [z6r b hr,byI,List.getElem?_replicate,if_pos hr]
   unfold y9w
   rw [if_neg (by omega),if_neg (by omega)]
   split<;>rfl
  ·rw [byI,List.getElem?_eq_none (by simp; omega),List.getElem?_eq_none (by rw [z7s]; omega)]
 |succ i ih=>
  intro hi
  rw [byI,ih (by omega),w1v b (by omega) i (Nat.le_refl _),x3q]
theorem w6v (b:Int) (n:Nat):x1b n b=dOf (beB b) n:=by
 rw [x1b,w1w b n (Nat.le_refl _)]
 refine List.map_congr_left fun r hr=>?_
 have hr:=List.mem_range.1 hr
 unfold y9w
 rw [if_neg (by omega),if_pos hr]
theorem w3q {s b:Int} (h0:0≤s) (h1:s≤255):G34 std (s,(b,()))=some (z0x fz (dOf (beB b) (1+s.toNat % 10)),()):=by
 unfold G34 q34
 simp only [h0,h1,decide_true,Bool.and_self,cond_true,w6v]
 rfl
theorem x8j (b:Int) {n:Nat} (h1:1≤n) (h10:n≤10):z02 (dOf (beB b) n)=0:=w1g h1 h10 (w12 b n)
theorem w6u (b:Int) {n:Nat} (h1:1≤n) (h10:n≤10):∀ l∈dOf (beB b) n,l.length≤1000000:=x7t (x8j b h1 h10)
end Go.Am
end
section
namespace Go.Am
open T11
section
variable {b:Nat→Nat→Bool} {n:Nat} {s:List Nat} {rc:Nat→Nat}
theorem w46 (ht:z9y b n) (hs:x47 b n s) (hrc:RC b n rc) {j:Nat} (hj:j<n) (hc:cut (byR b s) n j):at_ s j∈lG rc n j:=by
 obtain ⟨m,h1,h2,h3,h4⟩:=y05 ht hs hrc hj
 have:=h4 j (Nat.le_refl _) hc
 have e:m=j:=by omega
 rw [e] at h3
 exact y3j.2 ⟨hs.1.lt hj,h3⟩
theorem v0h (ht:z9y b n) (hs:x47 b n s) (hrc:RC b n rc):∀ m,m≤n→(RG rc n m).length=cnt m fun j=>decide (cut (byR b s) n j):=by
 intro m
 induction m with
 |zero=>intro _; rfl
 |succ m ih=>
  intro hm
  rw [RG,z54, ←ih (by omega)]
  by_cases c:cut (byR b s) n m
  ·have:=w46 ht hs hrc (by omega) c
   have hne:(lG rc n m).isEmpty=false:=by
    rw [List.isEmpty_eq_false_iff]; intro e; rw [e] at this; cases this
   rw [hne,decide_eq_true c]; simp [o1]
  ·rw [x6s ht hs hrc (by omega) c,decide_eq_false c]; simp [o1]
theorem x83 (rc:Nat→Nat) (n m:Nat):∀ m',m≤m'→∃ t,RG rc n m'=RG rc n m++t:=by
 intro m'
 induction m' with
 |zero=>intro h; rw [show m=0 by omega]; exact ⟨[],by simp⟩
 |succ m' ih=>
  intro h
  by_cases e:m=m'+1
  ·exact ⟨[],by rw [e]; simp⟩
  ·obtain ⟨t,ht⟩:=ih (by omega)
   rw [RG]
   cases (lG rc n m').isEmpty
   ·exact ⟨t++[lG rc n m'],by rw [cond_false,ht,List.append_assoc]⟩
   ·exact ⟨t,ht⟩
end
end Go.Am
end
section
namespace Go.Am
open T11
theorem v1j {n:Int} (h:(Lit.int IntKind.u8 n).wf=true):0≤n∧n≤255:=by
 have h:IntKind.u8.min≤n∧n≤IntKind.u8.max:=by simpa [Lit.wf] using h
 have e1:IntKind.u8.min=0:=rfl
 have e2:IntKind.u8.max=255:=rfl
 omega
def d7 (s b:Int):List (List Int):=dOf (beB b) (1+s.toNat % 10)
theorem x7y (s b:Int):z02 (d7 s b)=0:=x8j b (by omega) (by omega)
theorem x7w (s b:Int):∀ l∈d7 s b,l.length≤1000000:=w6u b (by omega) (by omega)
theorem x7x (s b:Int):(d7 s b).length=1+s.toNat % 10:=by simp [d7,dOf]
end Go.Am
end
section
namespace Go.Am
open T11
def gix (rc:Nat→Nat) (n j:Nat):Nat:=(RG rc n j).length
def grd (rc:Nat→Nat) (n i:Nat):Nat:=gix rc n (n - rc i)
section
variable {b:Nat→Nat→Bool} {n:Nat} {s:List Nat} {rc:Nat→Nat}
theorem x6a (hrc:RC b n rc) {i:Nat} (hi:i<n):1≤rc i∧rc i≤n:=by
 obtain ⟨R,hR,he⟩:=hrc i hi
 have h1:=y63 hi hR.1
 have h2:=y3y n R
 omega
theorem w3m {rc:Nat→Nat} {n:Nat}:∀ m t g,(RG rc n m)[t]?=some g→∃ j,j<m∧lG rc n j=g∧g≠[]∧gix rc n j=t:=by
 intro m
 induction m with
 |zero=>intro t g h; cases h
 |succ m ih=>
  intro t g h
  rw [RG] at h
  cases he:(lG rc n m).isEmpty with
  |true=>
   rw [he,cond_true] at h
   obtain ⟨j,h1,h2⟩:=ih t g h
   exact ⟨j,by omega,h2⟩
  |false=>
   rw [he,cond_false] at h
   by_cases ht:t<(RG rc n m).length
   ·rw [List.getElem?_append_left ht] at h
    obtain ⟨j,h1,h2⟩:=ih t g h
    exact ⟨j,by omega,h2⟩
   ·rw [List.getElem?_append_right (by omega)] at h
    have hlt:=(List.getElem?_eq_some_iff.1 h).1
    have h0:t - (RG rc n m).length=0:=by rw [List.length_singleton] at hlt; omega
    rw [h0] at h
    have:lG rc n m=g:=by simpa using h
    refine ⟨m,by omega,this,?_,?_⟩
    ·rintro rfl; rw [this] at he; cases he
    ·unfold gix; omega
theorem w2w {rc:Nat→Nat} {n j k:Nat} (h:j<k) (hne:lG rc n j≠[]):gix rc n j<gix rc n k:=by
 obtain ⟨t,ht⟩:=x83 rc n (j+1) k h
 have he:(lG rc n j).isEmpty=false:=List.isEmpty_eq_false_iff.2 hne
 have h1:RG rc n (j+1)=RG rc n j++[lG rc n j]:=by rw [RG,he]; rfl
 unfold gix
 rw [ht,h1,List.length_append,List.length_append,List.length_singleton]
 omega
theorem w2p (hrc:RC b n rc) {i:Nat} (hi:i<n):i∈lG rc n (n - rc i):=by
 have:=x6a hrc hi
 exact y3j.2 ⟨hi,by omega⟩
theorem x2k (hrc:RC b n rc) {i k:Nat} (hi:i<n) (hk:k<n) (h:rc k<rc i):grd rc n i<grd rc n k:=by
 have h1:=x6a hrc hi
 exact w2w (by omega) fun e=>by have:=w2p hrc hi; rw [e] at this; cases this
theorem z8o (hrc:RC b n rc) {i k:Nat} (hi:i<n) (hk:k<n):grd rc n i<grd rc n k↔rc k<rc i:=by
 refine ⟨fun h=>Nat.lt_of_not_le fun hle=>?_,x2k hrc hi hk⟩
 by_cases e:rc i=rc k
 ·unfold grd at h; rw [e] at h; omega
 ·have:=x2k hrc hk hi (by omega); omega
theorem x4i (hrc:RC b n rc) {i k:Nat} (hi:i<n) (hk:k<n):grd rc n i=grd rc n k↔rc i=rc k:=by
 have h1:=z8o hrc hi hk
 have h2:=z8o hrc hk hi
 omega
theorem x61 (hrc:RC b n rc) {i:Nat} (hi:i<n):grd rc n i<(RG rc n n).length:=by
 have h1:=x6a hrc hi
 exact w2w (k:=n) (by omega) fun e=>by have:=w2p hrc hi; rw [e] at this; cases this
theorem w2v {rc:Nat→Nat} {j i:Nat} (hj:j<n) (hm:i∈lG rc n j):grd rc n i=gix rc n j:=by
 have:=(y3j.1 hm).2
 unfold grd
 congr 1
 omega
theorem x90 (ht:z9y b n) (hs:x47 b n s) (hrc:RC b n rc) {i k:Nat} (hi:i<n) (hk:k<n) (h:rc k<rc i):b i k=true:=by
 obtain ⟨p,hp,rfl⟩:=hs.1.ex hi
 obtain ⟨q,hq,rfl⟩:=hs.1.ex hk
 obtain ⟨m,h1,h2,h3,h4⟩:=y05 ht hs hrc hp
 obtain ⟨m',a1,a2,a3,a4⟩:=y05 ht hs hrc hq
 have hpm:p<m':=Nat.lt_of_not_le fun hle=>by
  have:=h4 m' hle a2
  omega
 exact (y60 (y7c ht hs.1) (by omega)).1 a2 p q hpm a1 hq
theorem w4c (hrc:RC b n rc) {i k:Nat} (hi:i<n) (hk:k<n) (h:b i k=true):rc k≤rc i:=by
 obtain ⟨R,hR,he⟩:=hrc i hi
 obtain ⟨S,hS,he'⟩:=hrc k hk
 rw [he,he']
 exact z55 fun m hm hm'=>hS.2.2 R hR.2.1 (hR.2.1 i k hi hk hR.1 h) m hm hm'
theorem x1u (ht:z9y b n) (hrc:RC b n rc) {i k:Nat} (hi:i<n) (hk:k<n) (h:rc i=rc k) {R:Nat→Bool} (hR:Rch b n i R) (he:rc i=cnt n R):R k=true:=by
 cases hq:R k with
 |true=>rfl
 |false=>
  obtain ⟨S,hS,he'⟩:=hrc k hk
  have hne:k≠i:=by rintro rfl; rw [hR.1] at hq; cases hq
  have hki:b k i=true:=by
   cases hb:b k i with
   |true=>rfl
   |false=>
    have:=ht.2 i k hi hk (Ne.symm hne)
    rw [hb] at this
    have:=hR.2.1 i k hi hk hR.1 this
    rw [hq] at this; cases this
  have h1:cnt n R+1≤cnt n S:=by
   rw [←x21 hk hq]
   exact z55 fun m hm hm'=>by
    rw [Bool.or_eq_true] at hm'
    rcases hm' with hm'|hm'
    ·exact hR.2.2 S hS.2.1 (hS.2.1 k i hk hi hS.1 hki) m hm hm'
    ·rw [of_decide_eq_true hm']; exact hS.1
  omega
end
end Go.Am
end
section
namespace Go.Am
open T11
theorem x1e {n:Nat} (h:n<2 ^ 64):IntKind.u64.wrap (n:Int)=n:=by
 simp only [IntKind.wrap]
 show ((n:Int) % (2 ^ 64:Int))=n
 omega
theorem x26 {N at':Nat} (hN:N<2 ^ 64) (ha:at'<64):y9l (N:Int) (at':Int)=N.testBit at':=by
 have e1:std.ar .shr .u64 (N:Int) (at':Int)=((N / 2 ^ at':Nat):Int):=by
  show (N:Int).fdiv (2 ^ (min ((at':Int)).toNat 64))=_
  rw [Int.toNat_natCast,Nat.min_eq_left (by omega),Int.fdiv_eq_ediv_of_nonneg _ (by exact Int.pow_nonneg (by decide))]
  simp
 have hlt:N / 2 ^ at'<2 ^ 64:=Nat.lt_of_le_of_lt (Nat.div_le_self _ _) hN
 have e2:std.ar .and .u64 ((N / 2 ^ at':Nat):Int) 1=((N / 2 ^ at' % 2:Nat):Int):=by
  show IntKind.u64.wrap (((BitVec.ofInt 64 ((N / 2 ^ at':Nat):Int)&&&BitVec.ofInt 64 1).toNat:Nat):Int)=_
  have:(BitVec.ofInt 64 ((N / 2 ^ at':Nat):Int)&&&BitVec.ofInt 64 1).toNat=N / 2 ^ at' % 2:=by
   rw [BitVec.ofInt_natCast,BitVec.toNat_and,BitVec.toNat_ofNat,Nat.mod_eq_of_lt hlt]
   show N / 2 ^ at'&&&1=_
   rw [Nat.and_one_is_mod]
  rw [this,x1e (by omega)]
 unfold y9l
 rw [e1,e2]
 show (((N / 2 ^ at' % 2:Nat):Int)==1)=_
 rw [Nat.testBit_eq_decide_div_mod_eq]
 by_cases h:N / 2 ^ at' % 2=1
 ·rw [h]; rfl
 ·rw [decide_eq_false h,beq_eq_false_iff_ne]; omega
def x9k (b:Int):Int:=std.ar .xor .u64 18446744073709551615 b
theorem w3u {b:Int} (h:(Lit.int IntKind.u64 b).wf=true):∃ N:Nat,b=N∧N<2 ^ 64:=by
 have h:IntKind.u64.min≤b∧b≤IntKind.u64.max:=by simpa [Lit.wf] using h
 have e1:IntKind.u64.min=0:=rfl
 have e2:IntKind.u64.max=18446744073709551615:=by decide
 exact ⟨b.toNat,by omega,by omega⟩
theorem x9j {N:Nat} (h:N<2 ^ 64):x9k (N:Int)=((2 ^ 64 - (N+1):Nat):Int):=by
 show IntKind.u64.wrap (((BitVec.ofInt 64 18446744073709551615 ^^^ BitVec.ofInt 64 (N:Int)).toNat:Nat):Int)=_
 have:(BitVec.ofInt 64 18446744073709551615 ^^^ BitVec.ofInt 64 (N:Int)).toNat=2 ^ 64 - (N+1):=by
  have e:BitVec.ofInt 64 18446744073709551615=BitVec.allOnes 64:=by decide
  rw [e,BitVec.ofInt_natCast,BitVec.allOnes_xor,BitVec.toNat_not,BitVec.toNat_ofNat,Nat.mod_eq_of_lt h]
  omega
 rw [this,x1e (by omega)]
theorem x1g {b:Int} (h:(Lit.int IntKind.u64 b).wf=true) {at':Nat} (ha:at'<64):y9l (x9k b) (at':Int)=!y9l b (at':Int):=by
 obtain ⟨N,rfl,hN⟩:=w3u h
 rw [x9j hN,x26 (by omega) ha,x26 hN ha,Nat.testBit_two_pow_sub_succ hN,decide_eq_true ha,Bool.true_and]
theorem y8f {r:Nat} (h:r<10):prs r≤36:=by
 have hs:r=0∨r=1∨r=2∨r=3∨r=4∨r=5∨r=6∨r=7∨r=8∨r=9:=by omega
 rcases hs with h|h|h|h|h|h|h|h|h|h<;>subst h<;>decide
theorem w11 {b:Int} (h:(Lit.int IntKind.u64 b).wf=true) {r x:Nat} (hr:r<10) (hx:x<10):beB (x9k b) r x=beB b x r:=by
 unfold beB
 have h1:=y8f hr
 have h2:=y8f hx
 by_cases c:x<r
 ·rw [if_pos c,if_neg (by omega),if_pos c,x1g h (by omega)]
 ·rw [if_neg c]
  by_cases c':r<x
  ·rw [if_pos c',if_pos c',x1g h (by omega),Bool.not_not]
  ·rw [if_neg c',if_neg c',if_neg c]
section
variable {b b':Nat→Nat→Bool} {n:Nat} {s s':List Nat} {rc rc':Nat→Nat}
def Trn (b b':Nat→Nat→Bool) (n:Nat):Prop:=∀ i k,i<n→k<n→b' i k=b k i
theorem Trn.symm (h:Trn b b' n):Trn b' b n:=fun i k hi hk=>(h k i hk hi).symm
theorem x9i (ht:z9y b n) (h:Trn b b' n) {i:Nat} (hi:i<n):cnt n (b i)+cnt n (b' i)+1=n:=by
 have h1:=y64 n (b i)
 have h2:cnt n (fun k=>!b i k)=cnt n (b' i)+1:=by
  rw [←x21 hi (show b' i i=false by rw [h i i hi hi]; exact ht.1 i hi)]
  refine z3k fun k hk=>?_
  by_cases e:k=i
  ·subst e; rw [ht.1 k hk]; simp
  ·rw [h i k hi hk,ht.2 k i hk hi e]; simp [e]
 omega
theorem w3v (h:Trn b b' n) {i k m:Nat} (hi:i<n) (hk:k<n) (hm:m<n):T11.tri b' i k m=T11.tri b i k m:=by
 unfold T11.tri
 rw [h i k hi hk,h k m hk hm,h m i hm hi,h k i hk hi,h m k hm hk,h i m hi hm]
 exact Bool.or_comm _ _
theorem y9z (h:Trn b b' n):Tr1 b' n=Tr1 b n:=
 z2m fun i hi=>z2m fun k hk=>z3k fun m hm=>w3v h hi (Nat.lt_trans hk hi) (Nat.lt_trans hm (Nat.lt_trans hk hi))
theorem y7s (h:Trn b b' n) (hrc:RC b n rc) {i k:Nat} (hi:i<n) (hk:k<n) {R S:Nat→Bool} (hR:Rch b' n i R) (hS:Rch b n k S) (hki:R k=true):S i=true:=by
 classical
 have hcl:z88 b' n fun x=>decide (∃ T,Rch b n x T∧T i=true):=by
  intro x y hx hy hx' hb
  obtain ⟨T,hT,hTi⟩:=of_decide_eq_true hx'
  obtain ⟨U,hU,_⟩:=hrc y hy
  rw [h x y hx hy] at hb
  exact decide_eq_true ⟨U,hU,hT.2.2 U hU.2.1 (hU.2.1 y x hy hx hU.1 hb) i hi hTi⟩
 have hi0:decide (∃ T,Rch b n i T∧T i=true)=true:=by
  obtain ⟨U,hU,_⟩:=hrc i hi
  exact decide_eq_true ⟨U,hU,hU.1⟩
 obtain ⟨T,hT,hTi⟩:=of_decide_eq_true (hR.2.2 _ hcl hi0 k hk hki)
 exact hT.2.2 S hS.2.1 hS.1 i hi hTi
theorem w4d (hrc:RC b n rc) {i k:Nat} (hi:i<n) (hk:k<n) {R S:Nat→Bool} (hR:Rch b n i R) (hS:Rch b n k S) (h:R k=true) (h':S i=true):rc i=rc k:=by
 obtain ⟨R',hR',e1⟩:=hrc i hi
 obtain ⟨S',hS',e2⟩:=hrc k hk
 have a1:R' k=true:=hR.2.2 R' hR'.2.1 hR'.1 k hk h
 have a2:S' i=true:=hS.2.2 S' hS'.2.1 hS'.1 i hi h'
 have b1:cnt n S'≤cnt n R':=z55 fun m hm hm'=>hS'.2.2 R' hR'.2.1 a1 m hm hm'
 have b2:cnt n R'≤cnt n S':=z55 fun m hm hm'=>hR'.2.2 S' hS'.2.1 a2 m hm hm'
 omega
theorem w7k (ht:z9y b n) (h:Trn b b' n) (hrc:RC b n rc) (hrc':RC b' n rc') {i k:Nat} (hi:i<n) (hk:k<n) (he:rc i=rc k):rc' i=rc' k:=by
 obtain ⟨R,hR,e1⟩:=hrc i hi
 obtain ⟨S,hS,e2⟩:=hrc k hk
 obtain ⟨R',hR',e3⟩:=hrc' i hi
 obtain ⟨S',hS',e4⟩:=hrc' k hk
 have a1:=x1u ht hrc hi hk he hR e1
 have a2:=x1u ht hrc hk hi he.symm hS e2
 exact w4d hrc' hi hk hR' hS' (y7s h.symm hrc' hk hi hS hR' a2) (y7s h.symm hrc' hi hk hR hS' a1)
theorem w2i (ht:z9y b n) (ht':z9y b' n) (hs:x47 b n s) (h:Trn b b' n) (hrc:RC b n rc) (hrc':RC b' n rc') {i k:Nat} (hi:i<n) (hk:k<n) (he:rc i<rc k):rc' k<rc' i:=by
 have h1:=x90 ht hs hrc hk hi he
 have h2:b' i k=true:=by rw [h i k hi hk]; exact h1
 have h3:=w4c hrc' hi hk h2
 have h4:rc' i≠rc' k:=fun e=>by have:=w7k ht' h.symm hrc' hrc hi hk e; omega
 omega
theorem x62 {rc:Nat→Nat} {t:Nat} (ht:t<(RG rc n n).length):∃ i,i<n∧grd rc n i=t:=by
 obtain ⟨g,hg⟩:=z15 ht
 obtain ⟨j,hj,hjg,hne,hgix⟩:=w3m _ _ _ hg
 obtain ⟨x,hx⟩:=List.exists_mem_of_ne_nil g hne
 rw [←hjg] at hx
 exact ⟨x,(y3j.1 hx).1,by rw [w2v hj hx,hgix]⟩
theorem x60 (hrc:RC b n rc) {t:Nat} (ht:t<(RG rc n n).length):(RG rc n n)[t]?=some ((List.range n).filter fun i=>grd rc n i==t):=by
 obtain ⟨g,hg⟩:=z15 ht
 obtain ⟨j,hj,hjg,hne,hgix⟩:=w3m _ _ _ hg
 rw [hg, ←hjg,lG]
 congr 1
 refine List.filter_congr fun i hi=>?_
 have hi:=List.mem_range.1 hi
 obtain ⟨x,hx⟩:=List.exists_mem_of_ne_nil g hne
 rw [←hjg] at hx
 have hgx:grd rc n x=t:=by rw [w2v hj hx,hgix]
 obtain ⟨hx1,hx2⟩:=y3j.1 hx
 have:=x4i hrc hi hx1
 rw [Bool.eq_iff_iff,beq_iff_eq,beq_iff_eq]
 omega
theorem w2u {rc rc':Nat→Nat} {L:Nat} (hL:(RG rc n n).length=L) (hlt:∀ i k,i<n→k<n→grd rc n i<grd rc n k→grd rc' n k<grd rc' n i):∀ m i,i<n→grd rc n i+m+1=L→m≤grd rc' n i:=by
 intro m
 induction m with
 |zero=>intro i _ _; exact Nat.zero_le _
 |succ m ih=>
  intro i hi he
  obtain ⟨k,hk,hk'⟩:=x62 (rc:=rc) (n:=n) (t:=grd rc n i+1) (by omega)
  have h1:=hlt i k hi hk (by omega)
  have h2:=ih k hk (by omega)
  omega
theorem w0r {rc rc':Nat→Nat} (hmax:∀ i,i<n→grd rc' n i<(RG rc' n n).length) (hin:∀ i,i<n→grd rc n i<(RG rc n n).length) (hlt:∀ i k,i<n→k<n→grd rc n i<grd rc n k→grd rc' n k<grd rc' n i):∀ t i,i<n→grd rc n i=t→grd rc' n i+t+1≤(RG rc' n n).length:=by
 intro t
 induction t with
 |zero=>intro i hi _; have:=hmax i hi; omega
 |succ t ih=>
  intro i hi he
  have:=hin i hi
  obtain ⟨k,hk,hk'⟩:=x62 (rc:=rc) (n:=n) (t:=t) (by omega)
  have h1:=hlt k i hk hi (by omega)
  have h2:=ih k hk hk'
  omega
theorem x3f (hn:0<n) (ht:z9y b n) (ht':z9y b' n) (hs:x47 b n s) (hs':x47 b' n s') (h:Trn b b' n) (hrc:RC b n rc) (hrc':RC b' n rc'):
  (RG rc' n n).length=(RG rc n n).length∧∀ t,t<(RG rc n n).length→(RG rc' n n)[(RG rc n n).length - 1 - t]?=(RG rc n n)[t]?:=by
 have l1:∀ i k,i<n→k<n→grd rc n i<grd rc n k→grd rc' n k<grd rc' n i:=fun i k hi hk hlt=>
  x2k hrc' hk hi (w2i ht ht' hs h hrc hrc' hk hi ((z8o hrc hi hk).1 hlt))
 have l2:∀ i k,i<n→k<n→grd rc' n i<grd rc' n k→grd rc n k<grd rc n i:=fun i k hi hk hlt=>
  x2k hrc hk hi (w2i ht' ht hs' h.symm hrc' hrc hk hi ((z8o hrc' hi hk).1 hlt))
 have m1:=fun i hi=>x61 (n:=n) hrc (i:=i) hi
 have m2:=fun i hi=>x61 (n:=n) hrc' (i:=i) hi
 have le:∀ {rc rc':Nat→Nat},(∀ i,i<n→grd rc n i<(RG rc n n).length)→(∀ i,i<n→grd rc' n i<(RG rc' n n).length)→(∀ i k,i<n→k<n→grd rc n i<grd rc n k→grd rc' n k<grd rc' n i)→(RG rc n n).length≤(RG rc' n n).length:=by
  intro rc rc' m1 m2 l1
  have h0:=m1 0 hn
  obtain ⟨k,hk,hk'⟩:=x62 (rc:=rc) (n:=n) (t:=0) (by omega)
  have h1:=w2u (rc:=rc) (rc':=rc') (n:=n) rfl l1 ((RG rc n n).length - 1) k hk (by omega)
  have h2:=m2 k hk
  omega
 have hL:(RG rc' n n).length=(RG rc n n).length:=Nat.le_antisymm (le m2 m1 l2) (le m1 m2 l1)
 refine ⟨hL,fun t htl=>?_⟩
 rw [x60 hrc htl,x60 hrc' (by omega)]
 congr 1
 refine List.filter_congr fun i hi=>?_
 have hi:=List.mem_range.1 hi
 have h1:=m1 i hi
 have h2:=w2u (rc:=rc) (rc':=rc') (n:=n) rfl l1 ((RG rc n n).length - 1 - grd rc n i) i hi (by omega)
 have h3:=w0r (rc:=rc) (rc':=rc') (n:=n) m2 m1 l1 _ i hi rfl
 rw [Bool.eq_iff_iff,beq_iff_eq,beq_iff_eq]
 omega
end
theorem w52 {s b:Int} (h:(Lit.int IntKind.u64 b).wf=true):Trn (bt (d7 s b)) (bt (d7 s (x9k b))) (d7 s b).length:=by
 intro i k hi hk
 rw [x7x] at hi hk
 rw [d7,d7,y9a hi hk,y9a hk hi]
 exact w11 h (by omega) (by omega)
theorem x0k {d d':List (List Int)} (h:z02 d=0) (h':z02 d'=0) (hl:d'.length=d.length) (ht:Trn (bt d) (bt d') d.length):y6m d' (z5s d d.length).reverse=0:=by
 have hol:=y0d d d.length
 have hno:(z5s d d.length).reverse.Nodup:=(List.reverse_perm _).nodup_iff.2 ((y8o d d.length).nodup_iff.2 (x44 _))
 rw [y6m,if_pos h',if_pos (by rw [List.length_reverse,hol,hl]),if_neg,if_neg]
 ·rintro ⟨i,hi,hb⟩
  have hi:=List.mem_range.1 hi
  rw [w6z,y5f _ _ (by omega),y5f _ _ (by omega),hol] at hb
  have hc:=x34 (z4w h) d.length (Nat.le_refl _) (d.length - 1 - (i+1)) (by omega)
  rw [show d.length - 1 - (i+1)+1=d.length - 1 - i by omega] at hc
  have g1:=y0e d d.length (q:=d.length - 1 - i) (by omega)
  have g2:=y0e d d.length (q:=d.length - 1 - (i+1)) (by omega)
  rw [ht _ _ (by omega) (by omega),hc] at hb; cases hb
 ·rintro ⟨i,hi,hb⟩
  have hi:=List.mem_range.1 hi
  have hg:=y0e d d.length (q:=d.length - 1 - i) (by omega)
  have e:gI (z5s d d.length).reverse i=gI (z5s d d.length) (d.length - 1 - i):=by rw [y5f _ _ (by omega),hol]
  rcases hb with hb|hb|⟨k,hk,hb⟩
  ·omega
  ·omega
  ·have hk:=List.mem_range.1 hk
   have hx:=z2f (l:=(z5s d d.length).reverse) (q:=i) (by rw [List.length_reverse]; omega)
   have hy:=z2f (l:=(z5s d d.length).reverse) (q:=k) (by rw [List.length_reverse]; omega)
   rw [←hb, ←hx] at hy
   have:=(List.getElem?_inj (by rw [List.length_reverse]; omega) hno).1 hy
   omega
end Go.Am
end
section
namespace Go.Am
open T11
variable {fl:List Int→Bool}
section
variable {d:List (List Int)}
theorem x04 {l:List Int} {i:Nat} {n:Int} (h:l[i]?=some n):(z0f l)[i]?=some (eI n):=by rw [z0f,List.getElem?_map,h]; rfl
theorem x7s {d:List (List Int)} {i:Nat} {m:List Int} (h:d[i]?=some m):(z0x fl d)[i]?=some (eLf fl m):=by rw [z0x,List.getElem?_map,h]; rfl
end
end Go.Am
end
noncomputable section
namespace Go.Am
def v49:Ctr:=
 ⟨11,[.int .u8, .int .u64],[],[(.ret,⟨[(0, .bool)],[],1⟩)]⟩
def la11:List LA:=
 [⟨11,[false,true,false,true,true,true,true,true,true,true,true,true,true,true],0,⟨⟨[(6, .list 1),(7, .int .i64),(8, .vec 0 1),(10, .vec 1 1),(16, .list 1),(18, .list 1),(20, .vec 2 1),(22, .int .i64)],[.row [ci], .row [ci], .row [ci]],183⟩,[(AX.ret,⟨[(4, .bool)],[],183⟩),((AX.exit 0),⟨[(6, .list 1),(7, .int .i64),(16, .list 1),(18, .list 1),(20, .vec 0 1)],[.row [ci]],183⟩)]⟩⟩,
 ⟨11,[false,true,false,true,true,true,true,true,true,true,true,true,true,true,true],0,⟨⟨[(6, .list 1),(7, .int .i64),(16, .list 1),(18, .list 1),(20, .vec 0 1),(23, .int .i64)],[.row [ci]],183⟩,[(AX.ret,⟨[(4, .bool)],[],183⟩),((AX.exit 2),⟨[(6, .list 1),(7, .int .i64),(20, .vec 0 1)],[.row [ci]],183⟩)]⟩⟩,
 ⟨11,[false,true,false,true,true,true,true,true,true,true,true,true,true,true,true,true,true],0,⟨⟨[(6, .list 1),(20, .vec 0 1),(24, .vec 1 1),(25, .int .i64)],[.row [ci], .row [ci]],183⟩,[((AX.exit 4),⟨[(6, .list 1),(24, .vec 0 1)],[.row [ci]],183⟩)]⟩⟩]
def ja11:List JA:=
 [⟨11,[false,true,true,true,true,true,true,true,true,true,true,true,true,true,true,true],0,[(AX.normal,⟨[(4, .bool)],[],183⟩)]⟩,
 ⟨11,[false,false,true,true,true,true,true,true,true,true,true,true],0,[(AX.normal,⟨[(6, .list 1),(7, .int .i64),(8, .vec 0 1),(10, .vec 1 1),(16, .list 1),(18, .list 1),(20, .vec 2 1),(125, .bool)],[.row [ci], .row [ci], .row [ci]],183⟩)]⟩]
def v4v:List CF:=
 [⟨w9x,G14⟩,⟨w6h,G24⟩,⟨w1l,G21⟩,⟨w6g,G26⟩,⟨w6d,G37⟩,⟨w6e,G36⟩,⟨x7z,G35⟩,⟨y0o,F34⟩]
def an11:Anns:=
 ⟨v4v,ja11,[]⟩
def x8v (p:Prim):(LD×(LD×(LD×T1)))→Option ((LD×(LD×(LD×T1)))⊕(LD×(LD×Unit))):=
 fun a=>opt.run _ (
 opt.ask _ (p.cmp .geq a.2.2.2.1 (0:Int)) (
 opt.need _ (bif (p.cmp .geq a.2.2.2.1 (0:Int)) then (p.cmp .lss a.2.2.2.1 (p.ofNat (p.len a.1))) else Bool.false)<|
 opt.need _ (p.rowOk a.1 (p.add 0 (p.nat a.2.2.2.1)) [ci])<|
 opt.need _ (p.and (p.leN (p.add 0 1) (p.len [[(D.int .i64 (p.rdI a.1 (p.add 0 (p.nat a.2.2.2.1)) 0))]])) (p.and (p.leN (p.add 0 (p.len a.2.1)) (p.len a.2.1)) (p.and (p.leN 1 1) (p.leN (p.add (p.len a.2.1) 1) 1000000))))<|
 opt.need _ (p.eqN 0 0)<|
 opt.need _ (p.eqN (p.len a.1) (p.len a.1))<|
 opt.need _ (p.eqN 0 0)<|
 opt.need _ (p.eqN (p.add (p.len a.2.1) 1) (p.len (p.app (p.cut a.2.1 0 (p.len a.2.1)) (p.cut [[(D.int .i64 (p.rdI a.1 (p.add 0 (p.nat a.2.2.2.1)) 0))]] 0 1))))<|
 opt.ret _ (Sum.inl (a.1,((p.app (p.cut a.2.1 0 (p.len a.2.1)) (p.cut [[(D.int .i64 (p.rdI a.1 (p.add 0 (p.nat a.2.2.2.1)) 0))]] 0 1)),(a.2.2.1,((p.ar .sub .i64 a.2.2.2.1 (1:Int)),())))))) (
 opt.need _ (p.eqN 0 0)<|
 opt.need _ (p.eqN (p.len a.2.1) (p.len a.2.1))<|
 opt.ret _ (Sum.inr (a.2.1,(a.2.2.1,())))))
def x8w (p:Prim):(LD×(LD×T23))→Option ((LD×(LD×T23))⊕((Bool×Unit)⊕(LD×(LD×(Int×Unit))))):=
 fun a=>opt.run _ (
 opt.ask _ (p.cmp .lss a.2.2.2.2.2.1 (p.ofNat (p.len a.2.2.2.1))) (
 opt.need _ (p.rowOk a.2.2.2.1 (p.nat a.2.2.2.2.2.1) [(CK.list 1)])<|
 opt.need _ (p.cmp .geq a.2.2.2.2.2.1 (0:Int))<|
 opt.need _ (p.rowOk a.2.2.2.2.1 (p.nat (p.ar .sub .i64 (p.ar .sub .i64 (p.ofNat (p.len a.2.2.2.2.1)) (1:Int)) a.2.2.2.2.2.1)) [(CK.list 1)])<|
 opt.need _ (p.cmp .geq (p.ar .sub .i64 (p.ar .sub .i64 (p.ofNat (p.len a.2.2.2.2.1)) (1:Int)) a.2.2.2.2.2.1) (0:Int))<|
 opt.bnd T0 _ (G21 p ((p.rdL a.2.2.2.1 (p.nat a.2.2.2.2.2.1) 0),((p.rdL a.2.2.2.2.1 (p.nat (p.ar .sub .i64 (p.ar .sub .i64 (p.ofNat (p.len a.2.2.2.2.1)) (1:Int)) a.2.2.2.2.2.1)) 0),()))) fun b=>
 opt.ask _ (bif b.1 then Bool.false else Bool.true) (
 opt.ret _ (Sum.inr (Sum.inl (Bool.false,())))) (
 opt.need _ (p.eqN 0 0)<|
 opt.need _ (p.eqN (p.len a.1) (p.len a.1))<|
 opt.ret _ (Sum.inl (a.1,(a.2.1,(a.2.2.1,(a.2.2.2.1,(a.2.2.2.2.1,((p.ar .add .i64 a.2.2.2.2.2.1 (1:Int)),()))))))))) (
 opt.need _ (p.eqN 0 0)<|
 opt.need _ (p.eqN (p.len a.1) (p.len a.1))<|
 opt.ret _ (Sum.inr (Sum.inr (a.1,(a.2.1,(a.2.2.1,())))))))
def x8x (p:Prim):(LD×(LD×(LD×(LD×T23))))→Option ((LD×(LD×(LD×(LD×T23))))⊕((Bool×Unit)⊕(LD×(LD×(Int×(LD×(LD×Unit))))))):=
 fun a=>opt.run _ (
 opt.ask _ (p.cmp .lss a.2.2.2.2.2.2.2.1 a.2.2.2.2.1) (
 opt.need _ (bif (p.cmp .geq a.2.2.2.2.2.2.2.1 (0:Int)) then (p.cmp .lss a.2.2.2.2.2.2.2.1 (p.ofNat (p.len a.1))) else Bool.false)<|
 opt.need _ (p.rowOk a.1 (p.add 0 (p.nat a.2.2.2.2.2.2.2.1)) [ci])<|
 opt.need _ (bif (p.cmp .geq a.2.2.2.2.2.2.2.1 (0:Int)) then (p.cmp .lss a.2.2.2.2.2.2.2.1 (p.ofNat (p.len a.2.1))) else Bool.false)<|
 opt.need _ (p.rowOk a.2.1 (p.add 0 (p.nat a.2.2.2.2.2.2.2.1)) [ci])<|
 opt.ask _ (p.cmp .neq (p.ar .add .i64 (p.rdI a.1 (p.add 0 (p.nat a.2.2.2.2.2.2.2.1)) 0) (p.rdI a.2.1 (p.add 0 (p.nat a.2.2.2.2.2.2.2.1)) 0)) (p.ar .sub .i64 a.2.2.2.2.1 (1:Int))) (
 opt.ret _ (Sum.inr (Sum.inl (Bool.false,())))) (
 opt.need _ (p.eqN 0 0)<|
 opt.need _ (p.eqN (p.len a.1) (p.len a.1))<|
 opt.need _ (p.eqN 0 0)<|
 opt.need _ (p.eqN (p.len a.2.1) (p.len a.2.1))<|
 opt.need _ (p.eqN 0 0)<|
 opt.need _ (p.eqN (p.len a.2.2.1) (p.len a.2.2.1))<|
 opt.ret _ (Sum.inl (a.1,(a.2.1,(a.2.2.1,(a.2.2.2.1,(a.2.2.2.2.1,(a.2.2.2.2.2.1,(a.2.2.2.2.2.2.1,((p.ar .add .i64 a.2.2.2.2.2.2.2.1 (1:Int)),()))))))))))) (
 opt.need _ (p.eqN 0 0)<|
 opt.need _ (p.eqN (p.len a.2.2.1) (p.len a.2.2.1))<|
 opt.ret _ (Sum.inr (Sum.inr (a.2.2.1,(a.2.2.2.1,(a.2.2.2.2.1,(a.2.2.2.2.2.1,(a.2.2.2.2.2.2.1,())))))))))
def G11:(p:Prim)→T3→Option T0:=
 fun p x=>
 opt.bnd ((LD×Unit)) _ (G34 p (x.1,(x.2.1,()))) fun a=>
 opt.bnd ((LD×Unit)) _ (G34 p (x.1,((p.ar .xor .u64 (18446744073709551615:Int) x.2.1),()))) fun b=>
 opt.bnd ((LD×T1)) _ (G35 p (a.1,())) fun c=>
 opt.bnd ((LD×T1)) _ (G35 p (b.1,())) fun d=>
 opt.bnd T6 _ (G36 p (a.1,())) fun e=>
 opt.bnd T6 _ (G36 p (b.1,())) fun f=>
 opt.bnd ((LD×T1)) _ (G37 p (a.1,())) fun g=>
 opt.bnd ((LD×T1)) _ (G37 p (b.1,())) fun h=>
 opt.bnd ((LD×T1)) _ (G26 p (a.1,())) fun i=>
 opt.bnd ((LD×(LD×(LD×(LD×T37))))) _ (
 opt.run ((LD×(LD×(LD×(LD×T37))))) (
 opt.ask _ (p.cmp .neq c.2.1 (0:Int)) (
 opt.need _ (p.eqN 0 0)<|
 opt.need _ (p.eqN (p.len c.1) (p.len c.1))<|
 opt.need _ (p.eqN 0 0)<|
 opt.need _ (p.eqN (p.len d.1) (p.len d.1))<|
 opt.need _ (p.eqN 0 0)<|
 opt.need _ (p.eqN (p.len i.1) (p.len i.1))<|
 opt.ret _ (c.1,(d.1,(i.1,(b.1,((p.ofNat (p.len a.1)),(g.1,(h.1,(Bool.true,()))))))))) (
 opt.ask _ (p.cmp .neq d.2.1 (0:Int)) (
 opt.need _ (p.eqN 0 0)<|
 opt.need _ (p.eqN (p.len c.1) (p.len c.1))<|
 opt.need _ (p.eqN 0 0)<|
 opt.need _ (p.eqN (p.len d.1) (p.len d.1))<|
 opt.need _ (p.eqN 0 0)<|
 opt.need _ (p.eqN (p.len i.1) (p.len i.1))<|
 opt.ret _ (c.1,(d.1,(i.1,(b.1,((p.ofNat (p.len a.1)),(g.1,(h.1,(Bool.true,()))))))))) (
 opt.ask _ (p.cmp .neq e.2.1 (0:Int)) (
 opt.need _ (p.eqN 0 0)<|
 opt.need _ (p.eqN (p.len c.1) (p.len c.1))<|
 opt.need _ (p.eqN 0 0)<|
 opt.need _ (p.eqN (p.len d.1) (p.len d.1))<|
 opt.need _ (p.eqN 0 0)<|
 opt.need _ (p.eqN (p.len i.1) (p.len i.1))<|
 opt.ret _ (c.1,(d.1,(i.1,(b.1,((p.ofNat (p.len a.1)),(g.1,(h.1,(Bool.true,()))))))))) (
 opt.ask _ (p.cmp .neq f.2.1 (0:Int)) (
 opt.need _ (p.eqN 0 0)<|
 opt.need _ (p.eqN (p.len c.1) (p.len c.1))<|
 opt.need _ (p.eqN 0 0)<|
 opt.need _ (p.eqN (p.len d.1) (p.len d.1))<|
 opt.need _ (p.eqN 0 0)<|
 opt.need _ (p.eqN (p.len i.1) (p.len i.1))<|
 opt.ret _ (c.1,(d.1,(i.1,(b.1,((p.ofNat (p.len a.1)),(g.1,(h.1,(Bool.true,()))))))))) (
 opt.ask _ (p.cmp .neq g.2.1 (0:Int)) (
 opt.need _ (p.eqN 0 0)<|
 opt.need _ (p.eqN (p.len c.1) (p.len c.1))<|
 opt.need _ (p.eqN 0 0)<|
 opt.need _ (p.eqN (p.len d.1) (p.len d.1))<|
 opt.need _ (p.eqN 0 0)<|
 opt.need _ (p.eqN (p.len i.1) (p.len i.1))<|
 opt.ret _ (c.1,(d.1,(i.1,(b.1,((p.ofNat (p.len a.1)),(g.1,(h.1,(Bool.true,()))))))))) (
 opt.ask _ (p.cmp .neq h.2.1 (0:Int)) (
 opt.need _ (p.eqN 0 0)<|
 opt.need _ (p.eqN (p.len c.1) (p.len c.1))<|
 opt.need _ (p.eqN 0 0)<|
 opt.need _ (p.eqN (p.len d.1) (p.len d.1))<|
 opt.need _ (p.eqN 0 0)<|
 opt.need _ (p.eqN (p.len i.1) (p.len i.1))<|
 opt.ret _ (c.1,(d.1,(i.1,(b.1,((p.ofNat (p.len a.1)),(g.1,(h.1,(Bool.true,()))))))))) (
 opt.ask _ (p.cmp .neq i.2.1 (0:Int)) (
 opt.need _ (p.eqN 0 0)<|
 opt.need _ (p.eqN (p.len c.1) (p.len c.1))<|
 opt.need _ (p.eqN 0 0)<|
 opt.need _ (p.eqN (p.len d.1) (p.len d.1))<|
 opt.need _ (p.eqN 0 0)<|
 opt.need _ (p.eqN (p.len i.1) (p.len i.1))<|
 opt.ret _ (c.1,(d.1,(i.1,(b.1,((p.ofNat (p.len a.1)),(g.1,(h.1,(Bool.true,()))))))))) (
 opt.ask _ (p.cmp .neq (p.ofNat (p.len c.1)) (p.ofNat (p.len a.1))) (
 opt.need _ (p.eqN 0 0)<|
 opt.need _ (p.eqN (p.len c.1) (p.len c.1))<|
 opt.need _ (p.eqN 0 0)<|
 opt.need _ (p.eqN (p.len d.1) (p.len d.1))<|
 opt.need _ (p.eqN 0 0)<|
 opt.need _ (p.eqN (p.len i.1) (p.len i.1))<|
 opt.ret _ (c.1,(d.1,(i.1,(b.1,((p.ofNat (p.len a.1)),(g.1,(h.1,(Bool.true,()))))))))) (
 opt.ask _ (p.cmp .neq (p.ofNat (p.len d.1)) (p.ofNat (p.len a.1))) (
 opt.need _ (p.eqN 0 0)<|
 opt.need _ (p.eqN (p.len c.1) (p.len c.1))<|
 opt.need _ (p.eqN 0 0)<|
 opt.need _ (p.eqN (p.len d.1) (p.len d.1))<|
 opt.need _ (p.eqN 0 0)<|
 opt.need _ (p.eqN (p.len i.1) (p.len i.1))<|
 opt.ret _ (c.1,(d.1,(i.1,(b.1,((p.ofNat (p.len a.1)),(g.1,(h.1,(Bool.true,()))))))))) (
 opt.ask _ (p.cmp .neq e.1 f.1) (
 opt.need _ (p.eqN 0 0)<|
 opt.need _ (p.eqN (p.len c.1) (p.len c.1))<|
 opt.need _ (p.eqN 0 0)<|
 opt.need _ (p.eqN (p.len d.1) (p.len d.1))<|
 opt.need _ (p.eqN 0 0)<|
 opt.need _ (p.eqN (p.len i.1) (p.len i.1))<|
 opt.ret _ (c.1,(d.1,(i.1,(b.1,((p.ofNat (p.len a.1)),(g.1,(h.1,(Bool.true,()))))))))) (
 opt.ask _ (p.cmp .neq (p.ofNat (p.len g.1)) (p.ofNat (p.len h.1))) (
 opt.need _ (p.eqN 0 0)<|
 opt.need _ (p.eqN (p.len c.1) (p.len c.1))<|
 opt.need _ (p.eqN 0 0)<|
 opt.need _ (p.eqN (p.len d.1) (p.len d.1))<|
 opt.need _ (p.eqN 0 0)<|
 opt.need _ (p.eqN (p.len i.1) (p.len i.1))<|
 opt.ret _ (c.1,(d.1,(i.1,(b.1,((p.ofNat (p.len a.1)),(g.1,(h.1,(Bool.true,()))))))))) (
 opt.need _ (p.eqN 0 0)<|
 opt.need _ (p.eqN (p.len c.1) (p.len c.1))<|
 opt.need _ (p.eqN 0 0)<|
 opt.need _ (p.eqN (p.len d.1) (p.len d.1))<|
 opt.need _ (p.eqN 0 0)<|
 opt.need _ (p.eqN (p.len i.1) (p.len i.1))<|
 opt.ret _ (c.1,(d.1,(i.1,(b.1,((p.ofNat (p.len a.1)),(g.1,(h.1,((p.cmp .neq (p.ofNat (p.len i.1)) (p.ofNat (p.len a.1))),()))))))))))))))))))))) fun j=>
 opt.ask _ j.2.2.2.2.2.2.2.1 (
 opt.ret _ (Bool.false,())) (
 opt.need _ (p.eqN 0 0)<|
 opt.need _ (p.eqN (p.len j.1) (p.len j.1))<|
 opt.need _ (p.eqN 0 0)<|
 opt.need _ (p.eqN (p.len j.2.1) (p.len j.2.1))<|
 opt.need _ (p.eqN 0 0)<|
 opt.need _ (p.eqN (p.len j.2.2.1) (p.len j.2.2.1))<|
 opt.alt T0 ((LD×(LD×(Int×(LD×(LD×Unit)))))) _ (
 z46 (x8x p) (j.1,(j.2.1,(j.2.2.1,(j.2.2.2.1,(j.2.2.2.2.1,(j.2.2.2.2.2.1,(j.2.2.2.2.2.2.1,((0:Int),()))))))))) (fun k=>
 opt.ret _ (k.1,())) (fun l=>
 opt.bnd ((LD×(LD×(Int×(LD×(LD×Unit)))))) _ (some l) fun m=>
 opt.need _ (p.eqN 0 0)<|
 opt.need _ (p.eqN (p.len m.1) (p.len m.1))<|
 opt.alt T0 ((LD×(LD×T1))) _ (
 z46 (x8w p) (m.1,(m.2.1,(m.2.2.1,(m.2.2.2.1,(m.2.2.2.2.1,((0:Int),()))))))) (fun n=>
 opt.ret _ (n.1,())) (fun o=>
 opt.bnd ((LD×(LD×T1))) _ (some o) fun q=>
 opt.need _ (p.eqN 0 0)<|
 opt.need _ (p.eqN (p.len q.1) (p.len q.1))<|
 opt.bnd ((LD×(LD×Unit))) _ (
 z46 (x8v p) (q.1,([],(q.2.1,((p.ar .sub .i64 q.2.2.1 (1:Int)),()))))) fun r=>
 opt.bnd T0 _ (
 opt.run T0 (
 opt.need _ (p.and Bool.true (p.and (p.leN (p.add 0 (p.len r.1)) (p.len r.1)) Bool.true))<|
 opt.bnd T2 _ (G24 p (r.2.1,((p.cut r.1 0 (p.len r.1)),()))) fun t=>
 opt.ask _ (p.cmp .eql t.1 (0:Int)) (
 opt.bnd T0 _ (G14 p ()) fun u=>
 opt.ret _ (u.1,())) (
 opt.ret _ (Bool.false,())))) fun v=>
 opt.ret _ (v.1,()))))
theorem ok11:CtrOk PG v49 (G11 std):=okF (a:=an11) (l:=la11) (gC ok14 (gC v6r (gC v2c (gC v6q (gC v6n (gC v6o (gC v03 (gC ok34 (gN))))))))) (by kernel_rfl) fun _ _=>by kernel_rfl
end Go.Am
end
section
namespace Go.Am
open T11
variable {fl:List Int→Bool}
section
variable {d d':List (List Int)}
theorem w2c (h:z02 d=0) (h':z02 d'=0) (hl':d'.length=d.length) (ht:Trn (bt d) (bt d') d.length) (O DD GL GL':List (List D)):
  z46 (x8x std) (z0f (z1r d),(z0f (z1r d'),(O,(DD,((d.length:Int),(GL,(GL',((0:Int),()))))))))=some (.inr (O,(DD,((d.length:Int),(GL,(GL',())))))):=by
 have hl:=z21 h
 exact z40 (b:=x8x std) d.length (fun i=>(z0f (z1r d),(z0f (z1r d'),(O,(DD,((d.length:Int),(GL,(GL',((i:Int),()))))))))) (.inr (O,(DD,((d.length:Int),(GL,(GL',())))))) (fun i hi=>by
  have hw:=z06 (i:=i) (by omega)
  have h0:(0:Int)≤i:=by omega
  have h1:(i:Int)<d.length:=by omega
  have g1:=x04 (z6i h hi)
  have g2:=x04 (z6i h' (show i<d'.length by omega))
  have l1:(z0f (z1r d)).length=d.length:=by rw [z0t,z13]
  have l2:(z0f (z1r d')).length=d.length:=by rw [z0t,z13,hl']
  have hsum:=x9i (z4w h) ht hi
  have e2:wn d' i=cnt d.length (bt d' i):=by rw [wn,hl']
  have hs:IntKind.i64.wrap (((wn d i:Nat):Int)+((wn d' i:Nat):Int))=IntKind.i64.wrap ((d.length:Int) - 1):=by
   rw [e2,wn,z2s,z2s]<;>omega
  generalize z0f (z1r d)=W at g1 l1⊢
  generalize z0f (z1r d')=W' at g2 l2⊢
  simp only [x8x,z1m,z1n,h0,h1,ge_iff_le,ne_eq,z0j,z00,hw,g1,g2,l1,l2,z0r,z2u,hs,eq_self,not_true,not_false_eq_true,decide_true,decide_false,Bool.not_true,Bool.not_false,Int.reduceLT,Int.reduceLE,Int.reduceNeg,Int.reduceGT,cond_true,cond_false,Int.reduceEq,Nat.le_refl,Bool.and_true,List.drop_zero]) (by
  have hn:¬ (d.length:Int)<d.length:=by omega
  simp only [x8x,z1m,z1n,hn,eq_self,not_true,not_false_eq_true,decide_true,decide_false,Bool.not_true,Bool.not_false,Int.reduceLT,Int.reduceLE,Int.reduceNeg,Int.reduceGT,cond_true,cond_false,Int.reduceEq,Nat.le_refl,Bool.and_true,List.drop_zero])
theorem w2b (O DD:List (List D)) (n:Int) (A B:List (List Int)) (hA:A.length≤1000) (hr:∀ l∈A,l.length≤1000000) (hl:B.length=A.length) (hg:∀ t,t<A.length→B[A.length - 1 - t]?=A[t]?):
  z46 (x8w std) (O,(DD,(n,(z0x fz A,(z0x fz B,((0:Int),()))))))=some (.inr (O,(DD,(n,())))):=by
 exact z40 (b:=x8w std) A.length (fun t=>(O,(DD,(n,(z0x fz A,(z0x fz B,((t:Int),()))))))) (.inr (O,(DD,(n,())))) (fun t ht=>by
  have hw:=z06 (i:=t) (by omega)
  have h0:(0:Int)≤t:=by omega
  have h1:(t:Int)<A.length:=by omega
  obtain ⟨g,hgt⟩:=z15 ht
  have hb:=hg t ht
  rw [hgt] at hb
  have hs:IntKind.i64.wrap (IntKind.i64.wrap ((A.length:Int) - 1) - (t:Int))=((A.length - 1 - t:Nat):Int):=by
   rw [z2s ((A.length:Int) - 1) (by omega) (by omega),z2s]<;>omega
  have h2:(0:Int)≤((A.length - 1 - t:Nat):Int):=by omega
  have g1:=x7s (fl:=fz) hgt
  have g2:=x7s (fl:=fz) hb
  have h21:G21 std (z0f g,(z0f g,()))=_:=v0r g g (hr g (List.mem_of_getElem? hgt))
  have l1:(z0x fz A).length=A.length:=z3o A
  have l2:(z0x fz B).length=A.length:=by rw [z3o,hl]
  generalize z0x fz A=AA at g1 l1⊢
  generalize z0x fz B=BB at g2 l2⊢
  simp only [x8w,z1m,z1n,h0,h1,h2,ge_iff_le,z0j,z00,hw,hs,g1,g2,l1,l2,z1e,z5u,h21,eq_self,not_true,not_false_eq_true,decide_true,decide_false,Bool.not_true,Bool.not_false,Int.reduceLT,Int.reduceLE,Int.reduceNeg,Int.reduceGT,cond_true,cond_false,Int.reduceEq,Nat.le_refl,Bool.and_true,List.drop_zero]) (by
  have hn:¬ (A.length:Int)<A.length:=by omega
  simp only [x8w,z1m,z1n,z3o,hn,eq_self,not_true,not_false_eq_true,decide_true,decide_false,Bool.not_true,Bool.not_false,Int.reduceLT,Int.reduceLE,Int.reduceNeg,Int.reduceGT,cond_true,cond_false,Int.reduceEq,Nat.le_refl,Bool.and_true,List.drop_zero])
theorem w2a (DD:List (List D)) (o:List Int) (ho:o.length≤1000):
  z46 (x8v std) (z0f o,([],(DD,(((o.length:Int) - 1),()))))=some (z0f o.reverse,(DD,())):=by
 have key:=z40 (b:=x8v std) o.length (fun k=>(z0f o,(z0f (o.reverse.take k),(DD,(((o.length:Int) - 1 - (k:Int)),()))))) (z0f o.reverse,(DD,())) (fun k hk=>by
  have hs:IntKind.i64.wrap ((o.length:Int) - 1 - (k:Int) - 1)=(o.length:Int) - 1 - ((k+1:Nat):Int):=by rw [z2s]<;>omega
  have e:(o.length:Int) - 1 - (k:Int)=((o.length - 1 - k:Nat):Int):=by omega
  rw [←hs,e]
  have h0:(0:Int)≤((o.length - 1 - k:Nat):Int):=by omega
  have h1:((o.length - 1 - k:Nat):Int)<o.length:=by omega
  have g1:=x04 (z2f (l:=o) (q:=o.length - 1 - k) (by omega))
  have et:z0f (o.reverse.take (k+1))=z0f (o.reverse.take k)++[eI (gI o (o.length - 1 - k))]:=by
   have hx:=z2f (l:=o.reverse) (q:=k) (by rw [List.length_reverse]; exact hk)
   rw [y5f _ _ hk] at hx
   rw [List.take_add_one,hx]
   simp [z0f]
  rw [et]
  have hAl:(z0f (o.reverse.take k)).length+1≤1000000:=by
   rw [z0t,List.length_take]; omega
  have hAt:(z0f (o.reverse.take k)).take (z0f (o.reverse.take k)).length=z0f (o.reverse.take k):=List.take_length
  have l1:(z0f o).length=o.length:=z0t o
  generalize z0f (o.reverse.take k)=A at hAl hAt⊢
  generalize z0f o=OO at g1 l1⊢
  simp only [x8v,z1m,z1n,h0,h1,ge_iff_le,z00,g1,l1,z0r,z2u,z42,hAt,hAl,List.length_append,List.length_cons,List.length_nil,Nat.zero_add,List.take_succ_cons,List.take_zero,eq_self,not_true,not_false_eq_true,decide_true,decide_false,Bool.not_true,Bool.not_false,Int.reduceLT,Int.reduceLE,Int.reduceNeg,Int.reduceGT,cond_true,cond_false,Int.reduceEq,Nat.le_refl,Bool.and_true,List.drop_zero]) (by
  have hn:¬ (o.length:Int) - 1 - (o.length:Int)≥0:=by omega
  rw [List.take_of_length_le (by rw [List.length_reverse]; exact Nat.le_refl _)]
  simp only [x8v,z1m,z1n,hn,eq_self,not_true,not_false_eq_true,decide_true,decide_false,Bool.not_true,Bool.not_false,Int.reduceLT,Int.reduceLE,Int.reduceNeg,Int.reduceGT,cond_true,cond_false,Int.reduceEq,Nat.le_refl,Bool.and_true,List.drop_zero])
 simp only [List.take_zero,Int.natCast_zero,Int.sub_zero] at key
 exact key
end
theorem v0t (s:Int) (hs:(Lit.int IntKind.u8 s).wf=true) (b:Int) (hb:(Lit.int IntKind.u64 b).wf=true):G11 std (s,(b,()))=some (true,()):=by
 have hsr:=v1j hs
 have h34:G34 std (s,(b,()))=some (z0x fz (d7 s b),()):=w3q hsr.1 hsr.2
 have h34':G34 std (s,(std.ar .xor .u64 18446744073709551615 b,()))=some (z0x fz (d7 s (x9k b)),()):=w3q hsr.1 hsr.2
 have h:=x7y s b
 have h':=x7y s (x9k b)
 have hr:=x7w s b
 have hr':=x7w s (x9k b)
 have ht:=w52 (s:=s) hb
 have hl':(d7 s (x9k b)).length=(d7 s b).length:=by rw [x7x,x7x]
 generalize d7 s b=d at h34 h hr ht hl'
 generalize d7 s (x9k b)=d' at h34' h' hr' ht hl'
 have hl:=z21 h
 have h35:G35 std (z0x fz d,())=_:=x3e d hr
 have h35':G35 std (z0x fz d',())=_:=x3e d' hr'
 have h36:G36 std (z0x fz d,())=_:=w3p d hr
 have h36':G36 std (z0x fz d',())=_:=w3p d' hr'
 have h37:G37 std (z0x fz d,())=_:=w3o d hr
 have h37':G37 std (z0x fz d',())=_:=w3o d' hr'
 have h26:G26 std (z0x fz d,())=_:=v0p d hr
 rw [if_pos h] at h35 h36 h37 h26
 rw [if_pos h'] at h35' h36' h37'
 have hC:C1 d' d'.length=C1 d d.length:=by rw [w67,w67,hl']; exact y9z ht
 rw [hC] at h36'
 have ht1:=z4w h'
 have hd1:=y2l h'
 have hc1:=x1v d'
 rw [hl'] at ht1 hd1 hc1
 have hgr:=x3f (by omega) (z4w h) ht1 (y2l h) hd1 ht (x1v d) hc1
 have hgA:(z1f d).length=(RG (rcD d) d.length d.length).length:=by rw [z1f,List.length_map]
 have hgB:(z1f d').length=(z1f d).length:=by rw [hgA,z1f,List.length_map,hl',hgr.1]
 have hgt:∀ t,t<(z1f d).length→(z1f d')[(z1f d).length - 1 - t]?=(z1f d)[t]?:=fun t htl=>by
  have:=hgr.2 t (by omega)
  rw [hgA,z1f,z1f,List.getElem?_map,List.getElem?_map,hl',this]
 have hgs:=y6t (d:=d) (by omega)
 have hgl:(z1f d).length≤1000:=by
  rw [hgA,v0h (z4w h) (y2l h) (x1v d) _ (Nat.le_refl _)]
  have:=y3y d.length fun j=>decide (cut (byR (bt d) (byN d)) d.length j)
  omega
 have hol:=y0d d d.length
 have b1:=w2c h h' hl' ht (z0f (z5s d d.length)) (z0x fz d') (z0x fz (z1f d)) (z0x fz (z1f d'))
 have b2:=w2b (z0f (z5s d d.length)) (z0x fz d') d.length (z1f d) (z1f d') hgl hgs.2 hgB hgt
 have b3:=w2a (z0x fz d') (z5s d d.length) (by omega)
 rw [hol] at b3
 have h24:G24 std (z0x fz d',(z0f (z5s d d.length).reverse,()))=_:=v0q d' hr' (z5s d d.length).reverse
 rw [x0k h h' hl' ht] at h24
 have h14:G14 std ()=some (true,()):=v0s
 have hwl:=z13 d
 have hwl':=z13 d'
 have hol':(z0f (z5s d d.length).reverse).length=d.length:=by rw [z0t,List.length_reverse,hol]
 have hot:(z0f (z5s d d.length).reverse).take d.length=z0f (z5s d d.length).reverse:=List.take_of_length_le (by rw [hol']; exact Nat.le_refl _)
 have hs1:IntKind.i64.wrap ((d.length:Int) - 1)=(d.length:Int) - 1:=by rw [z2s]<;>omega
 have hO:(z0f (z5s d d.length)).length=d.length:=by rw [z0t,hol]
 generalize z0f (z5s d d.length).reverse=R at hol' hot h24 b3
 generalize z0f (z5s d d.length)=O at hO h26 b1 b2 b3
 simp only [G11,h34,h34',h35,h35',h36,h36',h37,h37',h26,z1m,z1n,eq_self,not_true,not_false_eq_true,decide_true,decide_false,Bool.not_true,Bool.not_false,Int.reduceLT,Int.reduceLE,Int.reduceNeg,Int.reduceGT,cond_true,cond_false,Int.reduceEq,Nat.le_refl,Bool.and_true,List.drop_zero,z0t,z3o,hwl,hwl',hl',hgB,hO,ne_eq,z00,hs1,b1,b2,b3,hol',hot,h24,h14]
end Go.Am
end
section
namespace Go.Proofs.Ytjlhhpjkmgediaa
open Go.ChangeShapes Go.WideShapes Go.ChangeAt Go.RowKit Go.Am
theorem w7h {e0:Int} {e1:Int} (h:G11 std (e0,e1,())=some (true,())):∃ h',z89 Try.prog 11 (toA [.int .u8 e0, .int .u64 e1]) [] (.d (.bool true)) h':=by
 have:=(ok11.2 (e0,e1,()) (true,()) h).2
 exact ⟨_,this⟩
theorem v1m:w37 Try.prog 6 Try.f11.params.toList=true:=by kernel_rfl
theorem rt11:Try.f11.resultTypes=#[Try.f11.resultTypes.getD 0 0]:=by kernel_rfl
theorem rb11:Try.prog.underlying (Try.f11.resultTypes.getD 0 0)=some .bool:=by kernel_rfl
theorem w6w:Try.f11.params.toList.all (fun t=>decide (t<Try.prog.types.size))=true:=by kernel_rfl
set_option maxRecDepth 100000 in
theorem x4s (H:Type) (enc:TypeId×Value→H) (W:World) (base:Nat) (args:Array Value) (ds gs:List (DataW H)) (before:List MemPlace)
  (hval:∀ (j:Nat) t v,Try.f11.params[j]?=some t→args[j]?=some v→Value.okWide Try.prog W .any base t v)
  (hW:DataW.Whole enc Try.prog Try.f11.params.toList Rows.panelTurnedSpec.vars false W args.toList ds gs before):
  Calls Try.prog 11 args W fun e W'=>∃ v,e= .returned v∧Rows.panelTurnedSpec.post enc Try.prog Try.f11 false true false false W args v W':=by
 have hW':=hW
 obtain ⟨p,q,hA0,hV,rfl,hfz,hnd⟩:=hW
 have hA:DataW.TrodAll enc Try.prog W 0 (fun _=>true) true Try.f11.params.toList args.toList ds p:=hA0
 obtain ⟨xs,h1,h2,h3⟩:=x8z (O:=fun _=>False) (fun _ h=>h) v1m (x6z hval) hA
 have hd:∃ x0 x1,xs=[x0,x1]∧(DK (.int .u8) x0)∧(DK (.int .u64) x1):=by
  match xs,h1 with
  |[x0,x1],h1=>exact ⟨x0,x1,rfl,h1.1,h1.2.1⟩
 obtain ⟨x0,x1,rfl,k0,k1⟩:=hd
 obtain ⟨n0,rfl,wf0⟩:=v1k k0
 obtain ⟨n1,rfl,wf1⟩:=w7i k1
 obtain ⟨h',hr⟩:=w7h (v0t n0 wf0 n1 wf1)
 exact (y67 hr h2 h3).mono fun e W' ⟨he,hs⟩=>⟨_,he,w0h laid rowed sized w6w rfl rt11 rb11 (fun ds hd=>by
  match ds,hd with
  |[d0,d1],_=>exact ⟨rfl,rfl,rfl⟩) hW' hs⟩
set_option maxRecDepth 100000 in
theorem w0c (os:Os) (started:os.Started) (H:Type) (enc:TypeId×Value→H):
  ReturnsInHanded {} Try.checked os 11 .any (Rows.panelTurnedSpec.pre6 enc Try.prog Try.f11 Rows.panelTurnedRow.domain false) (Rows.panelTurnedSpec.post enc Try.prog Try.f11 false true false false):=by
 refine returnsInHanded_of_change (C:=Try.checked) own started (by kernel_rfl) Try.func11
  (ChangeSpec.witness6 (enc:=enc) (C:=Try.checked) false ⟨#[],#[.int .u8 0, .int .u64 0],[]⟩ 8 (by kernel_rfl) (by kernel_rfl) (by kernel_rfl) (by kernel_rfl)) ?_
 intro W base args ds gs before hval hW _ _
 exact x4s H enc W base args ds gs before hval hW
set_option maxRecDepth 100000 in
theorem y13:Rows.panelTurnedRow.holds Try.pinned (OpenSpec.ofChange Rows.panelTurnedSpec):=
 OpenClaim.holds_of_wide 11 Try.f11 rfl rfl rfl rfl rfl rfl rfl ⟨rfl,rfl,rfl,rfl,rfl⟩ rfl rfl rfl rfl rfl (by kernel_rfl) Try.func11 (by kernel_rfl)
  (of_decide_eq_true (by kernel_rfl)) (by unfold Func.isWrapper; first|(rw [if_pos (by decide+kernel)]; kernel_rfl)|(rw [if_neg (by decide+kernel)]; exact ⟨rfl,rfl⟩))
  (fun os started H enc _=>w0c os started H enc)
theorem panelTurned_holds:Rows.PanelTurnedSaid:=y13
end Go.Proofs.Ytjlhhpjkmgediaa
end
