/- Texts of this claim. -/
import Derived.Test.YtejcgpekgbiooaaGreatDoorT2
set_option linter.unusedVariables false
set_option linter.unusedSimpArgs false
set_option linter.unusedSectionVars false
set_option maxRecDepth 100000
set_option maxHeartbeats 0
open Nat renaming ble_eq_true_of_le → eBj,lt_of_lt_of_le → eAp,le_refl → eAj,eq_of_beq_eq_true → eAd,le_of_ble_eq_true → eAh,add_zero → eBa,zero_le → eAo,zero_add → eAq,lt_or_ge → eCf,beq_refl → eFd,le_trans → eBk,div_lt_iff_lt_mul → eDt,mod_lt → eFc,add_mul → eAr,mul_comm → eDo,mul_le_mul_right → eAv,mod_eq_of_lt → eDh
open Array renaming getD_eq_getD_getElem? → eAk,getElem?_eq_some_iff → eAe,getElem?_toList → eAl,getElem?_eq_getElem → eAs,length_toList → eBw
open Bool renaming false_eq_true → eAg,or_eq_true → eAt,and_eq_true → eAc,and_true → eCu,not_eq_true' → eDa,and_self → eDy,eq_iff_iff → eBx,not_true → eDl
open List renaming take_append_drop → eFg,length_take → eBo,getElem?_append_right → eDm,length_cons → eBn,length_nil → eDn,all_eq_true → eAx,mem_range → eBs,getElem?_eq_some_iff → eAa,length_drop → eFj,ext_getElem? → eBt,getElem?_map → eAf,length_map → eAy,getElem?_eq_none → eCq,mem_cons_self → eAu,mem_cons_of_mem → eBc,mem_of_getElem? → eAi,mem_append → eCb,mem_cons → eAm,mem_flatten → eDr,mem_map → eBe,getElem?_of_mem → eDp,getElem?_append_left → eCl,getElem?_drop → eCg,cons_append → eDg,getElem?_eq_getElem → eAb,take_zero → eFi,getElem?_take_of_lt → eDv,append_assoc → eCr,append_nil → eCp,length_eq_zero_iff → eBr,length_append → eCv,mem_filter → eAz,nodup_cons → eCx,filter_cons → eFb,pairwise_cons → eCh,idxOf_lt_length_iff → eDe,getElem_idxOf → eCi,pairwise_iff_getElem → eCm,getElem_mem → eCk,mem_of_find?_eq_some → eCy,mem_iff_getElem → eBy,any_eq_true → eBq
open Option renaming getD_some → eBb,map_eq_some_iff → eBm
section
namespace Go.Am
def w2d (x:w3b) (s:AS) (id:Nat) (a y:D) (b:List (D×D)):AS:=
 ⟨w72 (w72 (w72 (w72 s.env x.dL (.d a)) x.dB (.d y)) x.dM .bot) x.dX .bot,z03 s.heap id (.map b),s.nt⟩
structure w0z (T:TypeId→Option TI) (x:w3b) (s1:AS) (id:Nat) (kd:D) (es:List (D×D)) (ti:TI) (ks:List SK) (ka:Bool) (ez:D) (q:Bool) (r:List D) (y:D):Prop where
 ha:z00 s1.env x.a= .map id
 hb:z00 s1.env x.b= .d kd
 hob:z0f s1.heap id= .map es
 hti:T x.t=some ti
 hdesc:ti.desc= .map ks ka ez
 hwant:x2m q r (z3t std ti s1.heap (.map id) (.d kd))
 hop:∃ kk o n,z6z q r ez= .int kk o∧z0p s1.env (.const x.c)= .d (.int kk n)∧y1g x.bop= .arith∧y= .int kk (std.ar x.bop kk o n)
 hlt:x.dL<s1.nt∧x.dB<s1.nt∧x.dM<s1.nt∧x.dX<s1.nt
 idlt:id<s1.heap.length
def z9j (s1:AS) (x:w3b) (a y:D) (fL fB fM fX:Bool) (t:Nat):AV:=
 if fX=true∧t=x.dX then .bot else if fM=true∧t=x.dM then .bot else if fB=true∧t=x.dB then .d y else if fL=true∧t=x.dL then .d a else z00 s1.env t
section
variable {P:Program}
theorem y5i {d nt:Nat} (h:d<nt):z5g nt (some d)=true:=eBj h
theorem z18.congr {ρ:Rho} {s s':AS} {tm:Array Value} {w:World} (hE:∀ t,z00 s'.env t=z00 s.env t) (a:∀ id,z0f s.heap id=z0f s'.heap id) (b:s'.nt=s.nt) (c:s.heap.length≤s'.heap.length) (h:z18 P ρ s tm w):z18 P ρ s' tm w:=
 ⟨h.heap.ext a,fun t=>by rw [hE, ←z4e a]; exact h.env t,by rw [b]; exact h.size,fun id hid=>eAp (h.dom id hid) c⟩
theorem y0j {ρ:Rho} {s:AS} {tm:Array Value} {w:World} (f:z18 P ρ s tm w) {ops:Array Oper} {i:Nat} {o:Oper} (t:ops[i]?=some o) (hg:o.guard=none) (e:∀ c,o.op≠ .defer c) (z:z5g s.nt o.dst=true) {v:AV} {u:List (Nat×AO)}
  (j:y3b P ρ s.heap w s.heap.length (execOp (opv tm) o) ⟨true,v,u⟩) (p:∀ id x,(id,x)∈u→id<s.heap.length) {b:Frame} {k:List Item} {cs:List Frame} {ds:List Deferred} {rest:List Nat} {B:Nat} (hds:z4h b.roundOf B ρ.fr w ds):
  ∃ val w',((execOp (opv tm) o).run P w= .ok (.value val) w'∨((execOp (opv tm) o).run P w= .ok .skip w'∧val=undef))∧z18 P ρ (z5l s o.dst v u) (y3o tm o.dst val) w'∧Ext (· <s.heap.length) ρ s.heap w ρ (z5l s o.dst v u).heap w'∧z4h b.roundOf B ρ.fr w' ds∧
   Steps P (lone (b.on tm ds (.inRegion ops (i::rest)::k)) cs w) (lone (b.on (y3o tm o.dst val) ds (.inRegion ops rest::k)) cs w'):=by
 have d:ρ s.heap.length=none:=by
  cases r:ρ s.heap.length with
  |none=>rfl
  |some L=>have:=f.dom _ (by rw [r]; simp); omega
 obtain ⟨val,w',ρ',a,n,y,g,q⟩:=j
 have l:ρ'=ρ:=by
  rcases q with h|⟨o,h⟩
  ·exact h
  ·have:=p _ _ h; omega
 subst l
 have m:Region.wanted o (yielded ops tm)=true:=z5f f (by rw [hg]; rfl)
 refine ⟨val,w',a,f.step' d z n y g (.inl rfl),g.mono (fun id hid=>by omega),hds.keep f.heap g, .one (y1s t m e a)⟩
structure St (P:Program) (x:w3b) (s1:AS) (id:Nat) (kd:D) (ks:List SK) (ka:Bool) (old y:D) (es2:List (D×D)) (upd:D→List (D×D)) (ρ:Rho) (w1:World) (fL fB fM fX:Bool) (tm:Array Value) (w:World) (s:AS):Prop where
 nt:s.nt=s1.nt
 len:s.heap.length=s1.heap.length
 env:∀ t,z00 s.env t=z9j s1 x old y fL fB fM fX t
 heap:∀ i,z0f s.heap i=if fM=true∧i=id then .map es2 else z0f s1.heap i
 st:z18 P ρ s tm w
 ext:Ext (· <s1.heap.length) ρ s1.heap w1 ρ s.heap w
 stamp:fM=true→∃ (L:Loc) (en:Array MapEntry) (clk n:Nat) (e:MapEntry) (z:Value),ρ id=some L∧w.heap[L.blk]?=some (.map en clk)∧en[n]?=some e∧opv tm (.tmp x.dM)= .tuple #[z,goInt e.born]∧(fX=true→opv tm (.tmp x.dX)=goInt e.born)∧
  es2[n]?=some (kd,old)∧z6c std ks ka kd es2 0=some (some (n,old))∧(∀ v,upd v=std.mset es2 n kd v)
theorem y4i {tm:Array Value} {d:Nat} {v:Value} (h:d<tm.size):opv (y3o tm (some d) v) (.tmp d)=v:=by
 simp [opv,y3o,eAk,h]
theorem z8m {tm:Array Value} {d t:Nat} {v:Value} (h:d≠t):opv (y3o tm (some d) v) (.tmp t)=opv tm (.tmp t):=by
 simp [opv,y3o,eAk,Array.getElem?_setIfInBounds_ne h]
section
variable {T:TypeId→Option TI} (hT:y1c P T) {x:w3b} {s1:AS} {id:Nat} {kd:D} {es:List (D×D)} {ti:TI} {ks:List SK} {ka:Bool} {ez:D} {q:Bool} {r:List D} {y:D}
 (hR:w0z T x s1 id kd es ti ks ka ez q r y) {L B M X E:Oper} (hO:v7z x L B M X E)
 {ρ:Rho} {w1:World} {fL fB fM fX:Bool} {tm:Array Value} {w:World} {s:AS}
 (hS:St P x s1 id kd ks ka (z6z q r ez) y (ent es q r kd ez) (z8y es q r kd) ρ w1 fL fB fM fX tm w s)
 {ops:Array Oper} {b:Frame} {k:List Item} {cs:List Frame} {ds:List Deferred} {rest:List Nat} {B0:Nat} (hds:z4h b.roundOf B0 ρ.fr w ds) {i:Nat}
include hT hR hO hS hds
theorem u7u:z00 s.env x.a= .map id∧z00 s.env x.b= .d kd:=by
 constructor
 ·rw [hS.env,z9j,if_neg (fun h=>hO.aX h.2),if_neg (fun h=>hO.aM h.2),if_neg (fun h=>hO.aB h.2),if_neg (fun h=>hO.aL h.2)]; exact hR.ha
 ·rw [hS.env,z9j,if_neg (fun h=>hO.bX h.2),if_neg (fun h=>hO.bM h.2),if_neg (fun h=>hO.bB h.2),if_neg (fun h=>hO.bL h.2)]; exact hR.hb
theorem x7b:z0n ρ (z0d ρ s.heap) w (.map id) (opv tm (.tmp x.a))∧z1k (z0d ρ s.heap) w kd (opv tm (.tmp x.b)):=by
 obtain ⟨g,f⟩:=u7u hT hR hO hS hds
 have e:=z0j hS.st.env (.tmp x.a)
 have c:=z0j hS.st.env (.tmp x.b)
 simp only [z0p] at e c
 rw [g] at e; rw [f] at c
 refine ⟨e,?_⟩
 cases c with|d h=>exact h
theorem u7x (N:ops[i]?=some L) (J:fL=false) (O:fB=false):
  ∃ j w' s',St P x s1 id kd ks ka (z6z q r ez) y (ent es q r kd ez) (z8y es q r kd) ρ w1 true fB fM fX j w' s'∧z4h b.roundOf B0 ρ.fr w' ds∧
   Steps P (lone (b.on tm ds (.inRegion ops (i::rest)::k)) cs w) (lone (b.on j ds (.inRegion ops rest::k)) cs w'):=by
 obtain ⟨v,u⟩:=x7b hT hR hO hS hds
 have G:∃ B A,x2m B A (z3t std ti s.heap (.map id) (.d kd))∧z5n ti B A false=some ⟨true, .d (z6z q r ez),[]⟩:=by
  have m:(z1t kd==ka&&z1h ks (z0v kd))=true∧z3t std ti s1.heap (.map id) (.d kd)=z6c std ks ka kd es 0:=by
   have f:∃ fr,z3t std ti s1.heap (.map id) (.d kd)=some fr:=by
    rcases hR.hwant with ⟨h,_⟩|⟨_,_,_,h,_⟩<;>exact ⟨_,h⟩
   obtain ⟨fr,f⟩:=f
   unfold z3t at f⊢
   rw [hR.hdesc] at f⊢
   simp only [hR.hob] at f⊢
   cases Q:(z1t kd==ka)&&z1h ks (z0v kd) with
   |false=>rw [Q] at f; cases f
   |true=>exact ⟨rfl,rfl⟩
  cases o:fM with
  |false=>
   refine ⟨q,r,?_,?_⟩
   ·have:z3t std ti s.heap (.map id) (.d kd)=z3t std ti s1.heap (.map id) (.d kd):=by
     unfold z3t
     simp only [hS.heap id,o,eAg,false_and,if_false]
    rw [this]; exact hR.hwant
   ·unfold z5n
    rw [hR.hdesc]
    rcases hR.hwant with ⟨_,rfl⟩|⟨_,_,_,_,_,rfl,rfl⟩<;>rfl
  |true=>
   obtain ⟨M,K,p,n,e,z,_,_,_,_,_,_,I,_⟩:=hS.stamp o
   refine ⟨true,[.int .i64 (n:Nat),z6z q r ez], .inr ⟨n,_,_,?_, .inl (DLe.refl _),rfl,rfl⟩,?_⟩
   ·unfold z3t
    rw [hR.hdesc]
    simp only [hS.heap id,o,m.1,cond_true,and_self,if_true]
    exact I
   ·unfold z5n
    rw [hR.hdesc]
    rfl
 obtain ⟨B,A,c,l⟩:=G
 have g:=(z82 (hT _ _ hR.hti) (new:=s.heap.length) hS.st.heap v (.d u) c l).value
 have g:y3b P ρ s.heap w s.heap.length (execOp (opv tm) L) ⟨true, .d (z6z q r ez),[]⟩:=by simpa [execOp,hO.oL] using g
 obtain ⟨val,w',a,U,T,S,R⟩:=y0j hS.st N hO.gL (by rw [hO.oL]; simp) (by rw [hO.dL,hS.nt]; exact y5i hR.hlt.1) g (by simp) hds (k:=k) (cs:=cs) (rest:=rest)
 refine ⟨y3o tm L.dst val,w',z5l s L.dst (.d (z6z q r ez)) [],⟨hS.nt,hS.len,fun t=>?_,hS.heap,U,hS.ext.trans (T.mono (fun id h=>by rw [hS.len]; exact h)),fun o=>?_⟩,S,R⟩
 ·simp only [z5l,hO.dL,y4f]
  by_cases e:x.dL=t
  ·subst e
   rw [z08,z9j,if_neg (fun h=>hO.LX h.2),if_neg (fun h=>hO.LM h.2),if_neg (fun h=>hO.LB h.2),if_pos ⟨rfl,rfl⟩]
  ·rw [z1r _ _ _ _ e,hS.env,z9j,z9j]
   simp [J,Ne.symm e]
 ·obtain ⟨M,K,p,n,e,z,c1,Z,Y,X,W,V⟩:=hS.stamp o
  have E:x.dL<tm.size:=by rw [hS.st.size,hS.nt]; exact hR.hlt.1
  refine ⟨M,K,p,n,e,z,c1,?_,Y,?_,?_,V⟩
  ·have H:w'=w:=by
    obtain ⟨v0,w0,ρ0,hq,_⟩:=(z82 (hT _ _ hR.hti) (new:=s.heap.length) hS.st.heap v (.d u) c l)
    have:=(y5y (hT _ _ hR.hti) hS.st.heap v (.d u) c)
    obtain ⟨v1,C⟩:=this
    have F:(execOp (opv tm) L).run P w= .ok (.value v1) w:=by simp [execOp,hO.oL,C]
    rw [F] at a
    rcases a with h|⟨h,_⟩<;>cases h
    rfl
   rw [H]; exact Z
  ·rw [hO.dL,z8m hO.LM]; exact X
  ·rw [hO.dL,z8m hO.LX]; exact W
theorem u7z (J:ops[i]?=some B) (C:fL=true) (E:fB=false):
  ∃ j w' s',St P x s1 id kd ks ka (z6z q r ez) y (ent es q r kd ez) (z8y es q r kd) ρ w1 fL true fM fX j w' s'∧z4h b.roundOf B0 ρ.fr w' ds∧
   Steps P (lone (b.on tm ds (.inRegion ops (i::rest)::k)) cs w) (lone (b.on j ds (.inRegion ops rest::k)) cs w'):=by
 obtain ⟨a,o,n,U,T,H,S⟩:=hR.hop
 have G:z00 s.env x.dL= .d (.int a o):=by
  rw [hS.env,z9j,if_neg (fun h=>hO.LX h.2),if_neg (fun h=>hO.LM h.2),if_neg (fun h=>hO.LB h.2),if_pos ⟨C,rfl⟩,U]
 have A:opv tm (.tmp x.dL)= .int a o:=by
  have g:=z0j hS.st.env (.tmp x.dL)
  simp only [z0p] at g
  rw [G] at g
  generalize opv tm (.tmp x.dL)=v at g
  cases g with|d h=>cases h; rfl
 have u:opv tm (.const x.c)= .int a n:=by
  have g:=z0j hS.st.env (.const x.c)
  have:z0p s.env (.const x.c)=z0p s1.env (.const x.c):=rfl
  rw [this,T] at g
  generalize opv tm (.const x.c)=v at g
  cases g with|d h=>cases h; rfl
 have l:(execOp (opv tm) B).run P w= .ok (.value (.int a (std.ar x.bop a o n))) w:=by
  have m:=z5b (P:=P) (w:=w) x.bop x.bt a o n (by rw [H]; simp) (by rw [H]; simp)
  rw [H] at m
  have L:(eqGuard x.bop x.bt (.tmp x.dL) (.const x.c) (.int a o) (.int a n)).run P w= .ok () w:=z58 _ _ trivial
  simp only [execOp,hO.oB,A,u,Sem.run_bind,L,Result.andThen_ok]
  have m:(binOp x.bop x.bt (.int a o) (.int a n)).run P w= .ok (.int a (std.ar x.bop a o n)) w:=m
  simp [m]
 have F:y3b P ρ s.heap w s.heap.length (execOp (opv tm) B) ⟨true, .d y,[]⟩:=⟨_,w,ρ, .inl l,by rw [S]; exact .d (.int _ _),hS.st.heap,Ext.refl _ _ _ _, .inl rfl⟩
 obtain ⟨val,w',f,Q,O,N,M⟩:=y0j hS.st J hO.gB (by rw [hO.oB]; simp) (by rw [hO.dB,hS.nt]; exact y5i hR.hlt.2.1) F (by simp) hds (k:=k) (cs:=cs) (rest:=rest)
 rw [l] at f
 have p:w'=w:=by
  rcases f with h|⟨h,_⟩<;>cases h
  rfl
 subst p
 refine ⟨y3o tm B.dst val,w',z5l s B.dst (.d y) [],⟨hS.nt,hS.len,fun t=>?_,hS.heap,Q,hS.ext.trans (O.mono (fun id h=>by rw [hS.len]; exact h)),fun K=>?_⟩,N,M⟩
 ·simp only [z5l,hO.dB,y4f]
  by_cases e:x.dB=t
  ·subst e
   rw [z08,z9j,if_neg (fun h=>hO.BX h.2),if_neg (fun h=>hO.BM h.2),if_pos ⟨rfl,rfl⟩]
  ·rw [z1r _ _ _ _ e,hS.env,z9j,z9j]
   simp [E,Ne.symm e]
 ·obtain ⟨L',R,I,n,e,z,c1,Z,Y,X,W,V⟩:=hS.stamp K
  refine ⟨L',R,I,n,e,z,c1,Z,Y,?_,?_,V⟩
  ·rw [hO.dB,z8m hO.BM]; exact X
  ·rw [hO.dB,z8m hO.BX]; exact W
theorem u7w (T:ops[i]?=some M) (m:fM=false) (E:fX=false):
  ∃ p w' s',St P x s1 id kd ks ka (z6z q r ez) y (ent es q r kd ez) (z8y es q r kd) ρ w1 fL fB true fX p w' s'∧z4h b.roundOf B0 ρ.fr w' ds∧
   Steps P (lone (b.on tm ds (.inRegion ops (i::rest)::k)) cs w) (lone (b.on p ds (.inRegion ops rest::k)) cs w'):=by
 obtain ⟨R,Q⟩:=x7b hT hR hO hS hds
 have l:z0f s.heap id= .map es:=by rw [hS.heap,if_neg (by simp [m])]; exact hR.hob
 have A:x2m q r (z3t std ti s.heap (.map id) (.d kd)):=by
  have:z3t std ti s.heap (.map id) (.d kd)=z3t std ti s1.heap (.map id) (.d kd):=by
   unfold z3t
   simp only [l,hR.hob]
  rw [this]; exact hR.hwant
 obtain ⟨I,Y,K,u,c,z,n,e,S,O,c2,N,c4,c5,c6,L,c8,_,Z,H,G⟩:=x64 (hT _ _ hR.hti) hS.st.heap R Q l hR.hdesc A
 subst G
 have g:id<s.heap.length:=by rw [hS.len]; exact hR.idlt
 have a:=map_set hS.st.heap O l N u c c5 c4 s.heap.length .bot _ (fun _ _ _=> .bot _) L
 have F:y3b P ρ s.heap w s.heap.length (execOp (opv tm) M) ⟨true, .bot,[(id, .map (ent es q r kd ez))]⟩:=by simpa [execOp,hO.oM] using a.value
 obtain ⟨val,w',f,X,W,V,U⟩:=y0j hS.st T hO.gM (by rw [hO.oM]; simp) (by rw [hO.dM,hS.nt]; exact y5i hR.hlt.2.2.1) F (by intro j o J; simp at J; rw [J.1]; exact g) hds (k:=k) (cs:=cs) (rest:=rest)
 have C:(execOp (opv tm) M).run P w= .ok (.value (.tuple #[z,goInt e.born])) (World.setObj w I.blk (.map u c)):=by simp [execOp,hO.oM,L]
 rw [C] at f
 have B:val= .tuple #[z,goInt e.born]∧w'=World.setObj w I.blk (.map u c):=by
  rcases f with h|⟨h,_⟩<;>cases h
  exact ⟨rfl,rfl⟩
 obtain ⟨rfl,rfl⟩:=B
 refine ⟨y3o tm M.dst (.tuple #[z,goInt e.born]),_,z5l s M.dst .bot [(id, .map (ent es q r kd ez))],⟨hS.nt,?_,fun t=>?_,fun j=>?_,X,hS.ext.trans (W.mono (fun id h=>by rw [hS.len]; exact h)),fun _=>⟨I,u,c,n,e,z,O,z0t _ _ _ (eAe.1 N).1,c6,?_,(fun h=>by rw [E] at h; cases h),c8,Z,fun v=>?_⟩⟩,V,U⟩
 ·simp only [z5l,z07]
  rw [z3p _ _ _ g]; exact hS.len
 ·simp only [z5l,hO.dM,y4f]
  by_cases e:x.dM=t
  ·subst e
   rw [z08,z9j,if_neg (fun h=>hO.MX h.2),if_pos ⟨rfl,rfl⟩]
  ·rw [z1r _ _ _ _ e,hS.env,z9j,z9j]
   simp [m,Ne.symm e]
 ·simp only [z5l,z07]
  by_cases e:id=j
  ·subst e; rw [z0h,if_pos ⟨trivial,rfl⟩]
  ·rw [z0c _ _ _ _ e,hS.heap,if_neg (by simp [m]),if_neg (fun h=>e h.2.symm)]
 ·rw [hO.dM,y4i (by rw [hS.st.size,hS.nt]; exact hR.hlt.2.2.1)]
 ·exact H v
theorem u7v (p:ops[i]?=some X) (j:fM=true) (g:fX=false):
  ∃ c w' s',St P x s1 id kd ks ka (z6z q r ez) y (ent es q r kd ez) (z8y es q r kd) ρ w1 fL fB fM true c w' s'∧z4h b.roundOf B0 ρ.fr w' ds∧
   Steps P (lone (b.on tm ds (.inRegion ops (i::rest)::k)) cs w) (lone (b.on c ds (.inRegion ops rest::k)) cs w'):=by
 obtain ⟨I,C,m,n,e,z,H,G,F,o,K,E⟩:=hS.stamp j
 have d:(execOp (opv tm) X).run P w= .ok (.value (goInt e.born)) w:=by simp [execOp,hO.oX,o,Instr.extract]
 have l:y3b P ρ s.heap w s.heap.length (execOp (opv tm) X) ⟨true, .bot,[]⟩:=⟨goInt e.born,w,ρ, .inl d, .bot _,hS.st.heap,Ext.refl _ _ _ _, .inl rfl⟩
 obtain ⟨val,w',a,B,A,v,u⟩:=y0j hS.st p hO.gX (by rw [hO.oX]; simp) (by rw [hO.dX,hS.nt]; exact y5i hR.hlt.2.2.2) l (by simp) hds (k:=k) (cs:=cs) (rest:=rest)
 rw [d] at a
 have f:val=goInt e.born∧w'=w:=by
  rcases a with h|⟨h,_⟩<;>cases h
  exact ⟨rfl,rfl⟩
 obtain ⟨rfl,rfl⟩:=f
 refine ⟨y3o tm X.dst (goInt e.born),w',z5l s X.dst .bot [],⟨hS.nt,hS.len,fun t=>?_,hS.heap,B,hS.ext.trans (A.mono (fun id h=>by rw [hS.len]; exact h)),fun J=>⟨I,C,m,n,e,z,H,G,F,?_,fun _=>?_,E⟩⟩,v,u⟩
 ·simp only [z5l,hO.dX,y4f]
  by_cases e:x.dX=t
  ·subst e
   rw [z08,z9j,if_pos ⟨rfl,rfl⟩]
  ·rw [z1r _ _ _ _ e,hS.env,z9j,z9j]
   simp [g,Ne.symm e]
 ·rw [hO.dX,z8m (Ne.symm hO.MX)]; exact o
 ·rw [hO.dX,y4i (by rw [hS.st.size,hS.nt]; exact hR.hlt.2.2.2)]
theorem u7y (S:ops[i]?=some E) (C:fL=true) (p:fB=true) (g:fM=true) (m:fX=true):
  ∃ l w',z18 P ρ (w2d x s1 id (z6z q r ez) y (z8y es q r kd y)) l w'∧z4h b.roundOf B0 ρ.fr w' ds∧Ext (· <s1.heap.length) ρ s1.heap w1 ρ (w2d x s1 id (z6z q r ez) y (z8y es q r kd y)).heap w'∧
   Steps P (lone (b.on tm ds (.inRegion ops (i::rest)::k)) cs w) (lone (b.on l ds (.inRegion ops rest::k)) cs w'):=by
 obtain ⟨L,r2⟩:=x7b hT hR hO hS hds
 obtain ⟨L',en,Y,n,e,z,Q,c2,c3,c4,c5,c6,c7,Z⟩:=hS.stamp g
 have B:z0f s.heap id= .map (ent es q r kd ez):=by rw [hS.heap,if_pos ⟨g,rfl⟩]
 have f:id<s.heap.length:=by rw [hS.len]; exact hR.idlt
 have R:z1k (z0d ρ s.heap) w y (opv tm (.tmp x.dB)):=by
  have K:=z0j hS.st.env (.tmp x.dB)
  simp only [z0p] at K
  rw [hS.env,z9j,if_neg (fun h=>hO.BX h.2),if_neg (fun h=>hO.BM h.2),if_pos ⟨p,rfl⟩] at K
  cases K with|d h=>exact h
 have A:opv tm (.tmp x.a)= .map (some L'.blk):=by
  generalize opv tm (.tmp x.a)=v at L
  cases L with
  |map _ L2 u=>rw [Q] at u; cases u; rfl
 have c:=x17 (P:=P) (T:=x.t) hS.st.heap Q B c2 c3 c6 R s.heap.length
 have F:y3b P ρ s.heap w s.heap.length (execOp (opv tm) E) ⟨true, .bot,[(id, .map (std.mset (ent es q r kd ez) n kd y))]⟩:=by
  have:=c.skip
  simpa [execOp,hO.oE,A,c5 m] using this
 obtain ⟨val,w',M,X,W,V,U⟩:=y0j hS.st S hO.gE (by rw [hO.oE]; simp) (by rw [hO.dE]; rfl) F (by intro j o N; simp at N; rw [N.1]; exact f) hds (k:=k) (cs:=cs) (rest:=rest)
 have O:∀ j,z0f (z5l s E.dst .bot [(id, .map (std.mset (ent es q r kd ez) n kd y))]).heap j=z0f (w2d x s1 id (z6z q r ez) y (z8y es q r kd y)).heap j:=by
  intro j
  simp only [z5l,z07,w2d]
  rw [Z y]
  by_cases e:id=j
  ·subst e; rw [z0h,z0h]
  ·rw [z0c _ _ _ _ e,z0c _ _ _ _ e,hS.heap,if_neg (fun h=>e h.2.symm)]
 refine ⟨y3o tm E.dst val,w',X.congr (fun t=>?_) O ?_ ?_,V,?_,U⟩
 ·simp only [z5l,hO.dE,y4f,w2d]
  rw [hS.env,z9j]
  by_cases J:x.dX=t
  ·subst J; rw [z08,if_pos ⟨m,rfl⟩]
  ·rw [z1r _ _ _ _ J,if_neg (fun h=>J h.2.symm)]
   by_cases I:x.dM=t
   ·subst I; rw [z08,if_pos ⟨g,rfl⟩]
   ·rw [z1r _ _ _ _ I,if_neg (fun h=>I h.2.symm)]
    by_cases H:x.dB=t
    ·subst H; rw [z08,if_pos ⟨p,rfl⟩]
    ·rw [z1r _ _ _ _ H,if_neg (fun h=>H h.2.symm)]
     by_cases G:x.dL=t
     ·subst G; rw [z08,if_pos ⟨C,rfl⟩]
     ·rw [z1r _ _ _ _ G,if_neg (fun h=>G h.2.symm)]
 ·exact hS.nt.symm
 ·simp only [z5l,z07,w2d]
  rw [z3p _ _ _ f,z3p _ _ _ hR.idlt,hS.len]; exact eAj _
 ·have:=hS.ext.trans (W.mono (fun id h=>by rw [hS.len]; exact h))
  exact ⟨this.os,this.tape,this.output,by rw [←z4e O]; exact this.keep,this.rho,this.fr,this.frs⟩
end
theorem y4n {a c:Nat} (h:a≠c):Nat.beq a c=false:=by
 cases b:Nat.beq a c with
 |false=>rfl
 |true=>exact absurd (eAd b) h
theorem v6g {T:TypeId→Option TI} (hT:y1c P T) {x:w3b} {s1:AS} {id:Nat} {kd:D} {es:List (D×D)} {ti:TI} {ks:List SK} {ka:Bool} {ez:D} {q:Bool} {r:List D} {y:D}
  (hR:w0z T x s1 id kd es ti ks ka ez q r y) {L B M X E:Oper} (hO:v7z x L B M X E) {ρ:Rho} {w1:World} {ops:Array Oper} {b:Frame} {k:List Item} {cs:List Frame} {ds:List Deferred} {B0:Nat} {m:Nat}
  (hz:ops.size=m+5) (o0:ops[m]?=some L) (Y:ops[m+1]?=some B) (o2:ops[m+2]?=some M) (W:ops[m+3]?=some X) (o4:ops[m+4]?=some E)
  (g1:(z7k (y1i ops.toList []) (m+1)).testBit m=true) (g2:(z7k (y1i ops.toList []) (m+3)).testBit (m+2)=true) (g3:(z7k (y1i ops.toList []) (m+4)).testBit (m+1)=true) (g4:(z7k (y1i ops.toList []) (m+4)).testBit (m+3)=true)
  {S:Nat→Bool} {l:List Nat} (hl:Ord ops S l):∀ {tm:Array Value} {w:World} {s:AS},(∀ j,j<m→S j=true)→S (m+4)=false→(∀ (i:Nat) (o:Oper),ops.toList[i]?=some o→S i=true→∀ d∈z5h o,S d=true)→
  St P x s1 id kd ks ka (z6z q r ez) y (ent es q r kd ez) (z8y es q r kd) ρ w1 (S m) (S (m+1)) (S (m+2)) (S (m+3)) tm w s→z4h b.roundOf B0 ρ.fr w ds→
  ∃ n w',z18 P ρ (w2d x s1 id (z6z q r ez) y (z8y es q r kd y)) n w'∧z4h b.roundOf B0 ρ.fr w' ds∧Ext (· <s1.heap.length) ρ s1.heap w1 ρ (w2d x s1 id (z6z q r ez) y (z8y es q r kd y)).heap w'∧
   Steps P (lone (b.on tm ds (.inRegion ops l::k)) cs w) (lone (b.on n ds k) cs w'):=by
 induction hl with
 |nil S h=>
  intro tm w s _ R
  rw [h (m+4) (by omega)] at R; cases R
 |cons S i o l H A hd h ih=>
  intro tm w s F R u hS hds
  have hol:ops.toList[i]?=some o:=by rw [eAl]; exact A
  have V:∀ {j:Nat} {p:Oper},ops[j]?=some p→ops.toList[j]?=some p:=fun hp=>by rw [eAl]; exact hp
  have N:∀ {j:Nat} {p:Oper} {a:Nat},ops[j]?=some p→S j=true→(z7k (y1i ops.toList []) j).testBit a=true→S a=true:=fun {j p a} hp hj ha=>z2d u (V hp) (u j p (V hp) hj) a ha
  have g:∀ j,j<m→(fun j=>S j||Nat.beq j i) j=true:=fun j hj=>by simp [F j hj]
  have z:∀ (C:Nat) (Z:Oper),ops.toList[C]?=some Z→(fun j=>S j||Nat.beq j i) C=true→∀ d∈z5h Z,(fun j=>S j||Nat.beq j i) d=true:=by
   intro C Z G c d hdd
   simp only [eAt] at c⊢
   rcases c with c|c
   ·exact .inl (u C Z G c d hdd)
   ·have:=eAd c
    subst this
    rw [hol] at G; cases G
    exact .inl (hd d hdd)
  have hlt:i<m+5:=by rw [←hz]; exact (eAe.1 A).1
  have hge:¬ i<m:=fun hlt=>by rw [F i hlt] at H; cases H
  have Q:i=m∨i=m+1∨i=m+2∨i=m+3∨i=m+4:=by omega
  rcases Q with rfl|rfl|rfl|rfl|rfl
  ·rw [o0] at A; cases A
   have hB:S (i+1)=false:=by
    cases hb:S (i+1) with
    |false=>rfl
    |true=>rw [N Y hb g1] at H; cases H
   obtain ⟨n,w',s',v,e,f⟩:=u7x hT hR hO hS hds (k:=k) (cs:=cs) (rest:=l) o0 H hB
   obtain ⟨t,O,K,J,I,U⟩:=ih g (by simp [R,y4n]) z (by simpa [y4n] using v) e
   exact ⟨t,O,K,J,I,f.trans U⟩
  ·rw [Y] at A; cases A
   have hL:S m=true:=z2d u (V Y) hd m g1
   obtain ⟨n,w',s',v,e,f⟩:=u7z hT hR hO hS hds (k:=k) (cs:=cs) (rest:=l) Y hL H
   obtain ⟨t,O,K,J,I,U⟩:=ih g (by simp [R,y4n]) z (by simpa [y4n] using v) e
   exact ⟨t,O,K,J,I,f.trans U⟩
  ·rw [o2] at A; cases A
   have hX:S (m+3)=false:=by
    cases hb:S (m+3) with
    |false=>rfl
    |true=>rw [N W hb g2] at H; cases H
   obtain ⟨n,w',s',v,e,f⟩:=u7w hT hR hO hS hds (k:=k) (cs:=cs) (rest:=l) o2 H hX
   obtain ⟨t,O,K,J,I,U⟩:=ih g (by simp [R,y4n]) z (by simpa [y4n] using v) e
   exact ⟨t,O,K,J,I,f.trans U⟩
  ·rw [W] at A; cases A
   have hM:S (m+2)=true:=z2d u (V W) hd (m+2) g2
   obtain ⟨n,w',s',v,e,f⟩:=u7v hT hR hO hS hds (k:=k) (cs:=cs) (rest:=l) W hM H
   obtain ⟨t,O,K,J,I,U⟩:=ih g (by simp [R,y4n]) z (by simpa [y4n] using v) e
   exact ⟨t,O,K,J,I,f.trans U⟩
  ·rw [o4] at A; cases A
   have hB:S (m+1)=true:=z2d u (V o4) hd (m+1) g3
   have hX:S (m+3)=true:=z2d u (V o4) hd (m+3) g4
   have hL:S m=true:=N Y hB g1
   have hM:S (m+2)=true:=N W hX g2
   obtain ⟨n,w',K,J,I,f⟩:=u7y hT hR hO hS hds (k:=k) (cs:=cs) (rest:=l) o4 hL hB hM hX
   have hnil:l=[]:=by
    cases h with
    |nil=>rfl
    |cons _ C Z _ c G _ _=>
     exfalso
     have:=(eAe.1 G).1
     have hc:C<m∨C=m∨C=m+1∨C=m+2∨C=m+3∨C=m+4:=by omega
     rcases hc with h|rfl|rfl|rfl|rfl|rfl
     ·simp [F _ h] at c
     ·simp [hL] at c
     ·simp [hB] at c
     ·simp [hM] at c
     ·simp [hX] at c
     ·simp at c
   subst hnil
   exact ⟨n,w',K,J,I,f.trans (.one z84)⟩
theorem v03 {T : TypeId → Option TI} (hm : P.follows .mixedOrders = true) (hT : y1c P T) {n : Nat} {v : Nat} {ops : Array Oper} {s0 : AS} {Q : AX → AS → Prop} (hn : n ≤ s0.heap.length) (O : y8k ops.toList = true) (hed : z71 ops.toList = true) (l : y5d ops.toList = true)
    {pre : List Oper} {x : w3b} (g : v6i ops.toList = some (pre, x)) {K : AS → Prop} (hds : DS P T ops.toList s0.nt s0.heap.length K [] 0 pre s0)
    (hK : ∀ s1, K s1 → s1.nt = s0.nt → ∃ id kd es ti ks ka ez q r y, w0z T x s1 id kd es ti ks ka ez q r y ∧ Q .normal (w2d x s1 id (z6z q r ez) y (z8y es q r kd y))) : z54 P n (.region v ops true) s0 Q := ⟨by
  intro b k cs ρ tm ds w B F h2
  obtain ⟨S, hp, p, e2⟩ : ∃ S, u4r (ops.toList.drop (ops.toList.length - 5)) = some S ∧ pre = ops.toList.take (ops.toList.length - 5) ∧ x = S := by
    unfold v6i at g
    split at g
    · rename_i S hp
      cases g
      exact ⟨_, hp, rfl, rfl⟩
    · cases g
  subst p; subst e2
  obtain ⟨L, Bo, M, X, E, N, hO⟩ := v6h hp
  have hlen5 : ops.toList.length - (ops.toList.length - 5) = 5 := by
    have := congrArg List.length N
    simpa using this
  have Z : ops.toList.length = (ops.toList.length - 5) + 5 := by omega
  have a : ops.toList = ops.toList.take (ops.toList.length - 5) ++ [L, Bo, M, X, E] := by
    rw [← N, eFg]
  generalize hm' : ops.toList.length - 5 = m at *
  have H : (ops.toList.take m).length = m := by rw [eBo]; omega
  have e : ∀ j (o : Oper), [L, Bo, M, X, E][j]? = some o → ops[m + j]? = some o := by
    intro j o c
    rw [← eAl, a, eDm (by rw [H]; omega), H]
    simpa using c
  have hz : ops.size = m + 5 := by simpa using Z
  obtain ⟨recs, r1, r2, r3, r4⟩ := hds.recs (s0 := s0) [] [L, Bo, M, X, E] [] (by simpa using a) rfl rfl rfl (by simp) rfl (fun j o c => by omega) (fun j o c => by omega)
  have I : recs.length = m := by
    simp only [eBn, eDn] at r1; omega
  unfold y5d at l
  rw [hm'] at l
  simp only [eAc] at l
  obtain ⟨⟨g1, g2, g3, g4⟩, R⟩ := l
  have A : ∀ (i : Nat) (o : Oper), ops[i]? = some o → recs.length ≤ i → ∀ j, j < recs.length → (z7k (y1i ops.toList []) i).testBit j = true := by
    intro i o J hi j c
    have hil : i < ops.toList.length := by simpa using (eAe.1 J).1
    have := eAx.1 R i (eBs.2 hil)
    rw [eAt] at this
    rcases this with h | h
    · have : i < m := eAh h
      omega
    · exact eAx.1 h j (eBs.2 (by omega))
  have hw := z0b.drawn F.heap (w.drawn + 1) (z0u.succ _)
  have z := Ext.drawn (· < n) ρ s0.heap w (w.drawn + 1) (z0u.succ _)
  have hI : Inv P ops.toList s0 recs (fun _ => false) ρ tm { w with drawn := w.drawn + 1 } s0 :=
    { nt := rfl
      env := fun t => by
        have : ∀ m, y7y s0 ops.toList recs (fun _ => false) t m = z00 s0.env t := by
          intro m
          induction m with
          | zero => rfl
          | succ m Y => simp only [y7y]; split <;> simp [Y]
        rw [this]
      heap := fun id => by
        have : ∀ m, y5n s0 ops.toList recs (fun _ => false) id m = z0f s0.heap id := by
          intro m
          induction m with
          | zero => rfl
          | succ m Y => simp only [y5n]; split <;> simp [Y]
        rw [this]
      st := ⟨hw, fun t => (F.env t).keep z.keep (fun _ _ h => h), F.size, F.dom⟩
      dom := fun id h => .inl (F.dom id h)
      turned := by simp
      closed := by simp }
  obtain ⟨s', ρ', G, U, S', l', u, p2, W, s, p5, p6, p7⟩ := y7l hT O (by omega) (fun i o r J hr => r2 i o r (by rw [eAl]; exact J) hr) (fun i o hi J => r3 i o hi (by rw [eAl]; exact J)) A (b := b) (k := k) (cs := cs) (ds := ds) (B := B) (y0b hed (w.tape w.drawn (.order b.fn v))) (by simp) hI (h2.keep F.heap z)
  have hE : ∀ t, z00 (stF s0 ops.toList recs recs.length).env t = z00 s'.env t := by
    intro t
    rw [u.env t]
    exact (y3d _ _ _ _ t recs.length _ (by rw [I]; omega) (fun j o _ _ c => W j c) (fun j o _ _ c _ => by
      cases d : S' j with
      | false => rfl
      | true => have := s j d; omega)).symm
  have hH : ∀ id, z0f s'.heap id = z0f (stF s0 ops.toList recs recs.length).heap id := by
    intro id
    rw [u.heap id]
    exact y3c _ _ _ _ id recs.length _ (by rw [I]; omega) (fun j r _ _ c => W j c) (fun j r _ _ c _ => by
      cases d : S' j with
      | false => rfl
      | true => have := s j d; omega)
  obtain ⟨q1, q2⟩ := x6k s0 ops.toList recs recs.length
  have C : (stF s0 ops.toList recs recs.length).nt = s0.nt := x78 _ _ _ _
  have f : z18 P ρ' (stF s0 ops.toList recs recs.length) G U :=
    ⟨u.st.heap.ext hH, fun t => by rw [hE, ← z4e hH]; exact u.st.env t, by rw [C, ← u.nt]; exact u.st.size, fun id hid => by
      rcases u.dom id hid with h | ⟨j, r, a1, a2, a3, x, a4⟩
      · omega
      · have c : j < ops.size := by have := (eAa.1 a2).1; omega
        exact q2 j ops[j] r (s j a1) (by rw [eAl]; exact eAs c) a2 id x a4⟩
  obtain ⟨id, kd, es, ti, ks, ka, ez, q, r, y, hR, hQ⟩ := hK _ r4 C
  have f0 : S' m = false := by
    cases d : S' m with
    | false => rfl
    | true => have := s m d; omega
  have f1 : S' (m + 1) = false := by
    cases d : S' (m + 1) with
    | false => rfl
    | true => have := s _ d; omega
  have f2 : S' (m + 2) = false := by
    cases d : S' (m + 2) with
    | false => rfl
    | true => have := s _ d; omega
  have f3 : S' (m + 3) = false := by
    cases d : S' (m + 3) with
    | false => rfl
    | true => have := s _ d; omega
  have f4 : S' (m + 4) = false := by
    cases d : S' (m + 4) with
    | false => rfl
    | true => have := s _ d; omega
  have hS : St P x (stF s0 ops.toList recs recs.length) id kd ks ka (z6z q r ez) y (ent es q r kd ez) (z8y es q r kd) ρ' U (S' m) (S' (m + 1)) (S' (m + 2)) (S' (m + 3)) G U (stF s0 ops.toList recs recs.length) :=
    ⟨rfl, rfl, fun t => by simp [z9j, f0, f1, f2, f3], fun i => by simp [f2], f, Ext.refl _ _ _ _, fun h => by rw [f2] at h; cases h⟩
  obtain ⟨V, w2, t1, t2, t3, t4⟩ := v6g hT hR hO hz (e 0 _ rfl) (e 1 _ rfl) (e 2 _ rfl) (e 3 _ rfl) (e 4 _ rfl) g1 g2 g3 g4 p2 (b := b) (k := k) (cs := cs) (ds := ds) (B0 := B) (fun j c => W j (by omega)) f4 u.closed hS p5
  refine ⟨.normal, _, ρ', V, ds, w2, hQ, t1, t2, by rw [show (w2d x (stF s0 ops.toList recs recs.length) id (z6z q r ez) y (z8y es q r kd y)).nt = (stF s0 ops.toList recs recs.length).nt from rfl, C], ?_, ?_⟩
  · have p := p6.mono (S' := (· < n)) (fun id (hid : id < n) => by show id < s0.heap.length; omega)
    have e1' : Ext (· < n) ρ s0.heap { w with drawn := w.drawn + 1 } ρ' (stF s0 ops.toList recs recs.length).heap U := ⟨p.os, p.tape, p.output, by rw [← z4e hH]; exact p.keep, p.rho, p.fr, p.frs⟩
    have e2 := t3.mono (S' := (· < n)) (fun id (hid : id < n) => by show id < _; omega)
    exact z.trans (e1'.trans e2)
  · have f := z7w (P := P) (b := b) (tm := tm) (ds := ds) (k := k) (cs := cs) (w := w) (id := v) (ops := ops)
    rw [hm] at f
    exact .head f (p7.trans t4)⟩
end
end Go.Am
end
section
namespace Go.Am
section
variable {P:Program}
def z14 (ops:List Oper) (m:Nat):Bool:=
 let a:=y1i ops []
 (List.range ops.length).all fun i=>Nat.blt i m||(List.range i).all fun j=>Nat.testBit (z7k a i) j
theorem y4e {ops:List Oper} {m:Nat} (h:z14 ops m=true) {i:Nat} (b:i<ops.length) (hm:m≤i) {j:Nat} (a:j<i):(z7k (y1i ops []) i).testBit j=true:=by
 have:=eAx.1 h i (eBs.2 b)
 rw [eAt] at this
 rcases this with h|h
 ·have:i<m:=eAh h
  omega
 ·exact eAx.1 h j (eBs.2 a)
def y0x (ops:List Oper):Nat→List Oper→Nat
 |i,[]=>i
 |i,o::l=>match o.op with
  | .call ⟨.value _,_,_⟩=>bif z14 ops i then i else y0x ops (i+1) l
  |_=>y0x ops (i+1) l
def w3u (ops:List Oper):Nat:=y0x ops 0 ops
theorem y2i (ops:List Oper):z14 ops ops.length=true:=by
 unfold z14
 simp only [eAx,eBs,eAt]
 intro i a
 exact .inl (eBj a)
theorem y1n (ops:List Oper):∀ (l:List Oper) (i:Nat),i+l.length=ops.length→y0x ops i l≤ops.length∧z14 ops (y0x ops i l)=true
 |[],i,h=>by
  simp only [eDn,eBa] at h
  subst h
  exact ⟨eAj _,y2i ops⟩
 |o::l,i,h=>by
  have a:=y1n ops l (i+1) (by simp only [eBn] at h; omega)
  unfold y0x
  split
  ·cases b:z14 ops i with
   |true=>exact ⟨by simp only [eBn] at h; simp only [cond_true]; omega,b⟩
   |false=>exact a
  ·exact a
def z78 (ops:List Oper):Nat→List Oper→Nat
 |i,[]=>i
 |i,o::l=>match o.op with
  | .call ⟨.builtin .append,_,_⟩=>bif z14 ops i then i else z78 ops (i+1) l
  |_=>z78 ops (i+1) l
theorem z92 (ops:List Oper):∀ (l:List Oper) (i:Nat),i+l.length=ops.length→z78 ops i l≤ops.length∧z14 ops (z78 ops i l)=true
 |[],i,h=>by
  simp only [eDn,eBa] at h
  subst h
  exact ⟨eAj _,y2i ops⟩
 |o::l,i,h=>by
  have a:=z92 ops l (i+1) (by simp only [eBn] at h; omega)
  unfold z78
  split
  ·cases b:z14 ops i with
   |true=>exact ⟨by simp only [eBn] at h; simp only [cond_true]; omega,b⟩
   |false=>exact a
  ·exact a
def x4p (a j:Nat):Bool:=Nat.beq (Nat.land a (Nat.sub (Nat.pow 2 j) 1)) (Nat.sub (Nat.pow 2 j) 1)
theorem w93 {a j:Nat} (h:x4p a j=true) {i:Nat} (c:i<j):a.testBit i=true:=by
 have h:a&&&(2 ^ j - 1)=2 ^ j - 1:=eAd h
 have b:=congrArg (fun n=>n.testBit i) h
 simp only [Nat.testBit_and,Nat.testBit_two_pow_sub_one,c,decide_true,eCu] at b
 exact b
def x0x:Nat→Nat→List Nat→Nat
 |_,m,[]=>m
 |j,m,b::a=>x0x (j+1) (bif x4p b j then m else j+1) a
theorem x0w:∀ (a:List Nat) (j m:Nat),m≤x0x j m a∨j<x0x j m a
 |[],j,m=> .inl (eAj _)
 |b::a,j,m=>by
  simp only [x0x]
  cases x4p b j with
  |true=>rcases x0w a (j+1) m with h|h<;>simp only [cond_true]; exact .inl h; exact .inr (by omega)
  |false=>rcases x0w a (j+1) (j+1) with h|h<;>simp only [cond_false]<;>exact .inr (by omega)
theorem x0v : ∀ (asq : List Nat) (j m n : Nat), m ≤ n → j + asq.length ≤ n → x0x j m asq ≤ n
  | [], j, m, n, h, _ => h
  | an :: asq, j, m, n, h, h2 => by
    simp only [eBn] at h2
    simp only [x0x]
    cases x4p an j with
    | true => exact x0v asq (j + 1) m n h (by omega)
    | false => exact x0v asq (j + 1) (j + 1) n (by omega) (by omega)
theorem y81 : ∀ (asq : List Nat) (j m k : Nat), m ≤ j → x0x j m asq ≤ j + k → k < asq.length → x4p (z7k asq k) (j + k) = true
  | [], j, m, k, _, _, hk => by simp at hk
  | an :: asq, j, m, k, hm, h, hk => by
    simp only [x0x] at h
    cases k with
    | zero =>
      cases hf : x4p an j with
      | true => exact hf
      | false =>
        rw [hf] at h
        rcases x0w asq (j + 1) (j + 1) with h1 | h1 <;> simp only [cond_false] at h <;> omega
    | succ k =>
      have hm2 : (bif x4p an j then m else j + 1) ≤ j + 1 := by cases x4p an j <;> simp only [cond_true, cond_false] <;> omega
      have := y81 asq (j + 1) _ k hm2 (by rw [show j + 1 + k = j + (k + 1) by omega]; exact h) (by simpa using hk)
      rw [show j + (k + 1) = j + 1 + k by omega]; exact this
def w3v (ops:List Oper):Nat:=x0x 0 0 (y1i ops [])
theorem x73 (ops:List Oper):w3v ops≤ops.length∧z14 ops (w3v ops)=true:=by
 refine ⟨x0v _ 0 0 _ (eAo _) (by rw [y2e]; simp),?_⟩
 unfold z14
 simp only [eAx,eBs,eAt]
 intro i b
 by_cases h:i<w3v ops
 ·exact .inl (eBj h)
 ·refine .inr fun j a=>?_
  have:=y81 (y1i ops []) 0 0 i (eAj _) (by unfold w3v at h; omega) (by rw [y2e]; simpa using b)
  rw [eAq] at this
  exact w93 this a
def y77 (a b:Bool) (ops:List Oper):Nat:=bif b then w3v ops else bif a then z78 ops 0 ops else w3u ops
theorem w3t (ops:List Oper):w3u ops≤ops.length:=(y1n ops ops 0 (by omega)).1
theorem x2x (ops:List Oper):z14 ops (w3u ops)=true:=(y1n ops ops 0 (by omega)).2
theorem w8m (a b:Bool) (ops:List Oper):y77 a b ops≤ops.length:=by
 cases b
 ·cases a
  ·exact w3t ops
  ·exact (z92 ops ops 0 (by omega)).1
 ·exact (x73 ops).1
theorem x52 (a b:Bool) (ops:List Oper):z14 ops (y77 a b ops)=true:=by
 cases b
 ·cases a
  ·exact x2x ops
  ·exact (z92 ops ops 0 (by omega)).2
 ·exact (x73 ops).2
theorem w9a {ops:Array Oper} {S:Nat→Bool} {l:List Nat} (y:Ord ops S l):∀ (q:Nat),q≤ops.size→(∀ j,S j=true↔j<q)→(∀ (i:Nat) (o:Oper),ops.toList[i]?=some o→S i=true→∀ d∈z5h o,S d=true)→z14 ops.toList q=true→l=List.range' q (ops.size - q):=by
 induction y with
 |nil S h=>
  intro q x hS _ _
  have:¬ q<ops.size:=fun a=>by
   have:=(hS q).1 (h q a)
   omega
  rw [show ops.size - q=0 by omega]; rfl
 |cons S i o l u t v h w=>
  intro q x hS g n
  have b:ops.toList[i]?=some o:=by rw [eAl]; exact t
  have a:i<ops.size:=(eAe.1 t).1
  have s:q≤i:=by
   rcases eCf i q with h|h
   ·rw [(hS i).2 h] at u; cases u
   ·exact h
  have r:i=q:=by
   rcases eCf q i with c|z
   ·have:=z2d g b v q (y4e n (by simpa using a) s c)
    have:=(hS q).1 this
    omega
   ·omega
  subst r
  have:=w (i+1) a (fun j=>by
   simp only [eAt]
   constructor
   ·rintro (h|h)
    ·have:=(hS j).1 h; omega
    ·have:=eAd h; omega
   ·intro h
    by_cases he:j=i
    ·subst he; exact .inr (eFd _)
    ·exact .inl ((hS j).2 (by omega))) (fun k p e m d f=>by
   simp only [eAt] at m⊢
   rcases m with h|h
   ·exact .inl (g k p e h d f)
   ·have:=eAd h
    subst this
    rw [b] at e; cases e
    exact .inl (v d f)) (by
   unfold z14 at n⊢
   simp only [eAx,eBs,eAt] at n⊢
   intro k e
   rcases n k e with h|h
   ·have:k<i:=eAh h
    exact .inl (eBj (by omega))
   ·exact .inr h)
  rw [this,show ops.size - i=(ops.size - (i+1))+1 by omega,List.range'_succ]
theorem x5a {T : TypeId → Option TI} (hm : P.follows .mixedOrders = true) (hT : y1c P T) {n : Nat} {e : Nat} {ops : Array Oper} {s0 : AS} {Q : AX → AS → Prop} (hn : n ≤ s0.heap.length) (A : y8k ops.toList = true) (J : z71 ops.toList = true)
    {m : Nat} (p : m ≤ ops.size) (v : z14 ops.toList m = true) {K : AS → Prop} (hds : DS P T ops.toList s0.nt s0.heap.length K [] 0 (ops.toList.take m) s0)
    (hK : ∀ s1, K s1 → s1.nt = s0.nt → s0.heap.length ≤ s1.heap.length → y4a P n ops (List.range' m (ops.size - m)) s1 (Q .normal)) : z54 P n (.region e ops true) s0 Q := ⟨by
  intro b k cs ρ tm ds w B s h2
  have htl : (ops.toList.take m).length = m := by rw [eBo]; simp; omega
  obtain ⟨recs, r1, r2, r3, r4⟩ := hds.recs (s0 := s0) [] (ops.toList.drop m) [] (by simp) rfl rfl rfl (by simp) rfl (fun j o a => by omega) (fun j o a => by omega)
  have y : recs.length = m := by
    rw [eFj] at r1
    have : ops.toList.length = ops.size := eBw
    omega
  have g : ∀ (i : Nat) (o : Oper), ops[i]? = some o → recs.length ≤ i → ∀ j, j < recs.length → (z7k (y1i ops.toList []) i).testBit j = true := by
    intro i o z R j a
    exact y4e v (by simpa using (eAe.1 z).1) (by omega) (by omega)
  have hw := z0b.drawn s.heap (w.drawn + 1) (z0u.succ _)
  have f := Ext.drawn (· < n) ρ s0.heap w (w.drawn + 1) (z0u.succ _)
  have hI : Inv P ops.toList s0 recs (fun _ => false) ρ tm { w with drawn := w.drawn + 1 } s0 :=
    { nt := rfl
      env := fun t => by
        have : ∀ m, y7y s0 ops.toList recs (fun _ => false) t m = z00 s0.env t := by
          intro m
          induction m with
          | zero => rfl
          | succ m H => simp only [y7y]; split <;> simp [H]
        rw [this]
      heap := fun id => by
        have : ∀ m, y5n s0 ops.toList recs (fun _ => false) id m = z0f s0.heap id := by
          intro m
          induction m with
          | zero => rfl
          | succ m H => simp only [y5n]; split <;> simp [H]
        rw [this]
      st := ⟨hw, fun t => (s.env t).keep f.keep (fun _ _ h => h), s.size, s.dom⟩
      dom := fun id h => .inl (s.dom id h)
      turned := by simp
      closed := by simp }
  obtain ⟨O, ρ', u, E, S', l', d, p2, G, C, p5, p6, p7⟩ := y7l hT A (by omega) (fun i o r z hr => r2 i o r (by rw [eAl]; exact z) hr) (fun i o R z => r3 i o R (by rw [eAl]; exact z)) g (b := b) (k := k) (cs := cs) (ds := ds) (B := B) (y0b J (w.tape w.drawn (.order b.fn e))) (by simp) hI (h2.keep s.heap f)
  have I := w9a p2 m p (fun j => ⟨fun h => by have := C j h; omega, fun h => G j (by omega)⟩) d.closed v
  subst I
  have hE : ∀ t, z00 (stF s0 ops.toList recs recs.length).env t = z00 O.env t := by
    intro t
    rw [d.env t]
    exact (y3d _ _ _ _ t recs.length _ (by rw [y]; simpa using p) (fun j o _ _ a => G j a) (fun j o _ _ a _ => by
      cases L : S' j with
      | false => rfl
      | true => have := C j L; omega)).symm
  have M : ∀ id, z0f O.heap id = z0f (stF s0 ops.toList recs recs.length).heap id := by
    intro id
    rw [d.heap id]
    exact y3c _ _ _ _ id recs.length _ (by rw [y]; simpa using p) (fun j r _ _ a => G j a) (fun j r _ _ a _ => by
      cases L : S' j with
      | false => rfl
      | true => have := C j L; omega)
  obtain ⟨q1, q2⟩ := x6k s0 ops.toList recs recs.length
  have l : (stF s0 ops.toList recs recs.length).nt = s0.nt := x78 _ _ _ _
  have c : z18 P ρ' (stF s0 ops.toList recs recs.length) u E :=
    ⟨d.st.heap.ext M, fun t => by rw [hE, ← z4e M]; exact d.st.env t, by rw [l, ← d.nt]; exact d.st.size, fun id hid => by
      rcases d.dom id hid with h | ⟨j, r, a1, S, a3, x, a4⟩
      · omega
      · have a : j < ops.size := by have := (eAa.1 S).1; omega
        exact q2 j ops[j] r (C j a1) (by rw [eAl]; exact eAs a) S id x a4⟩
  obtain ⟨s2, ρ2, F, U, t1, Z, Y, X, W, V⟩ := (hK _ r4 l q1).run b k cs ρ' u ds E B c p5
  refine ⟨.normal, s2, ρ2, F, ds, U, t1, Z, Y, by rw [X, l], ?_, ?_⟩
  · have q := p6.mono (S' := (· < n)) (fun id (hid : id < n) => by show id < s0.heap.length; omega)
    have N : Ext (· < n) ρ s0.heap { w with drawn := w.drawn + 1 } ρ' (stF s0 ops.toList recs recs.length).heap E := ⟨q.os, q.tape, q.output, by rw [← z4e M]; exact q.keep, q.rho, q.fr, q.frs⟩
    exact f.trans (N.trans W)
  · have c := z7w (P := P) (b := b) (tm := tm) (ds := ds) (k := k) (cs := cs) (w := w) (id := e) (ops := ops)
    rw [hm] at c
    exact .head c (p7.trans V)⟩
end
end Go.Am
end
section
namespace Go.Am
mutual
def eqD:D→D→Bool
 | .bool a, .bool b=>a==b
 | .int k a, .int k' b=>(k==k')&&(a==b)
 | .str a, .str b=>a.data.toList==b.data.toList
 | .list f z es, .list f' z' es'=>(f==f')&&(Nat.beq z z'&&x40 es es')
 | .agg l, .agg l'=>v6z l l'
 | .nilp, .nilp=>true
 | .nilm, .nilm=>true
 | .nilf, .nilf=>true
 | .nili, .nili=>true
 | .ref l, .ref l'=>v6z l l'
 |_,_=>false
def v6z:List D→List D→Bool
 |[],[]=>true
 |x::l,y::m=>eqD x y&&v6z l m
 |_,_=>false
def x40:List (List D)→List (List D)→Bool
 |[],[]=>true
 |x::l,y::m=>v6z x y&&x40 l m
 |_,_=>false
end
mutual
theorem y21:(a b:D)→eqD a b=true→a=b
 | .bool a,b,h=>by
  cases b<;>simp only [eqD,eAg] at h
  rename_i b; rw [beq_iff_eq.1 h]
 | .int k a,b,h=>by
  cases b<;>simp only [eqD,eAg,eAc] at h
  rw [beq_iff_eq.1 h.1,beq_iff_eq.1 h.2]
 | .str a,b,h=>by
  cases b<;>simp only [eqD,eAg] at h
  rename_i b
  have:=beq_iff_eq.1 h
  cases a; cases b
  simp only at this
  rw [Array.toList_inj.1 this]
 | .list f z es,b,h=>by
  cases b<;>simp only [eqD,eAg,eAc] at h
  rw [beq_iff_eq.1 h.1,eAd h.2.1,z8t _ _ h.2.2]
 | .agg l,b,h=>by
  cases b<;>simp only [eqD,eAg] at h
  rw [y20 _ _ h]
 | .nilp,b,h=>by cases b<;>first|rfl|(simp only [eqD,eAg] at h)
 | .nilm,b,h=>by cases b<;>first|rfl|(simp only [eqD,eAg] at h)
 | .nilf,b,h=>by cases b<;>first|rfl|(simp only [eqD,eAg] at h)
 | .nili,b,h=>by cases b<;>first|rfl|(simp only [eqD,eAg] at h)
 | .ref l,b,h=>by
  cases b<;>simp only [eqD,eAg] at h
  rw [y20 _ _ h]
theorem y20:(a b:List D)→v6z a b=true→a=b
 |[],b,h=>by cases b<;>first|rfl|(simp only [v6z,eAg] at h)
 |x::l,b,h=>by
  cases b<;>simp only [v6z,eAg,eAc] at h
  rw [y21 _ _ h.1,y20 _ _ h.2]
theorem z8t:(a b:List (List D))→x40 a b=true→a=b
 |[],b,h=>by cases b<;>first|rfl|(simp only [x40,eAg] at h)
 |x::l,b,h=>by
  cases b<;>simp only [x40,eAg,eAc] at h
  rw [y20 _ _ h.1,z8t _ _ h.2]
end
def v8k:List (D×D)→List (D×D)→Bool
 |[],[]=>true
 |(k,x)::l,(a,y)::m=>eqD k a&&(eqD x y&&v8k l m)
 |_,_=>false
theorem x4z:∀ (a b:List (D×D)),v8k a b=true→a=b
 |[],b,h=>by cases b<;>first|rfl|(simp only [v8k,eAg] at h)
 |(k,x)::l,b,h=>by
  cases b with
  |nil=>simp only [v8k,eAg] at h
  |cons y m=>
   obtain ⟨c,y⟩:=y
   simp only [v8k,eAc] at h
   rw [y21 _ _ h.1,y21 _ _ h.2.1,x4z _ _ h.2.2]
def v3c:List AV→List AV→Bool
 |[],[]=>true
 | .d x::l, .d y::m=>eqD x y&&v3c l m
 |_,_=>false
theorem x41:∀ (a b:List AV),v3c a b=true→a=b
 |[],b,h=>by cases b<;>first|rfl|(simp only [v3c,eAg] at h)
 |x::l,b,h=>by
  cases b with
  |nil=>cases x<;>simp only [v3c,eAg] at h
  |cons y m=>
   cases x<;>try (simp only [v3c,eAg] at h)
   cases y<;>try (simp only [v3c,eAg] at h)
   simp only [v3c,eAc] at h
   rw [y21 _ _ h.1,x41 _ _ h.2]
def eqO:AO→AO→Bool
 | .dead, .dead=>true
 | .row a, .row b=>x40 a b
 | .box a, .box b=>v3c a b
 | .map a, .map b=>v8k a b
 |_,_=>false
theorem v0d (a b:AO) (h:eqO a b=true):a=b:=by
 cases a<;>cases b<;>simp only [eqO,eAg] at h
 ·rfl
 ·rw [x41 _ _ h]
 ·rw [z8t _ _ h]
 ·rw [x4z _ _ h]
def eqH:List AO→List AO→Bool
 |[],[]=>true
 |a::l,b::m=>eqO a b&&eqH l m
 |_,_=>false
theorem x9w:∀ (a b:List AO),eqH a b=true→a=b
 |[],b,h=>by cases b<;>first|rfl|(simp only [eqH,eAg] at h)
 |x::l,b,h=>by
  cases b<;>simp only [eqH,eAg,eAc] at h
  rw [v0d _ _ h.1,x9w _ _ h.2]
def w2f:AO→Bool
 | .dead=>true
 | .row _=>true
 | .map _=>true
 | .box l=>match x2i l with
  |some _=>true
  |none=>false
 |_=>false
mutual
def inT (T:Nat→Bool):AV→Bool
 | .bot=>true
 | .d _=>true
 | .bptr id _=>T id
 | .ptr id _ _=>T id
 | .slice id _ _ _ _=>T id
 | .map id=>T id
 | .clo _ fs cs=>w9y T fs&&w9y T cs
 | .agg l=>w9y T l
 | .tuple l=>w9y T l
 |_=>false
def w9y (T:Nat→Bool):List AV→Bool
 |[]=>true
 |x::l=>inT T x&&w9y T l
end
theorem y03 {T:Nat→Bool}:∀ {l:List AV},w9y T l=true→∀ (i:Nat) (x:AV),l[i]?=some x→inT T x=true
 |[],_,i,x,h=>by simp at h
 |y::l,h,i,x,a=>by
  simp only [w9y,eAc] at h
  cases i with
  |zero=>simp at a; subst a; exact h.1
  |succ i=>exact y03 h.2 i x (by simpa using a)
theorem z0n.restr {T:Nat→Bool} {ρ ρ':Rho} {O:Nat→Prop} {w:World} (j:∀ id L,T id=true→ρ id=some L→ρ' id=some L) {x:AV} {v:Value} (h:z0n ρ O w x v):inT T x=true→z0n ρ' O w x v:=by
 induction h with
 |bot v=>intro _; exact .bot v
 |d h=>intro _; exact .d h
 |bptr id off L h=>intro b; exact .bptr id off L (j _ _ b h)
 |ptr id i off L h=>intro b; exact .ptr id i off L (j _ _ b h)
 |slice id z off len cap L a c h r t g f=>intro b; exact .slice id z off len cap L a c (j _ _ b h) r t g f
 |nils id z off cap a g=>intro _; exact .nils id z off cap a g
 |map id L h=>intro b; exact .map id L (j _ _ b h)
 |clo fn u cs p q s g A y n m=>
  intro b
  simp only [inT,eAc] at b
  exact .clo fn u cs p q s g (fun i x e=>n i x e (y03 b.1 i x e)) (fun i x e=>m i x e (y03 b.2 i x e))
 |agg k l f h o=>intro b; exact .agg k l f fun i x e=>o i x e (y03 (by simpa only [inT] using b) i x e)
 |tuple k l f h o=>intro b; exact .tuple k l f fun i x e=>o i x e (y03 (by simpa only [inT] using b) i x e)
 |_=>intro b; simp [inT] at b
theorem w02 {h:List AO} {T:Nat→Bool} {o:AO} (a:w2f o=true):w03 h T o=o:=by
 cases o with
 |dead=>rfl
 |row es=>rfl
 |map es=>rfl
 |box l=>
  simp only [w2f] at a
  cases b:x2i l with
  |none=>rw [b] at a; cases a
  |some ds=>
   rw [z17 b]
   simp only [w03,z8x]
   congr 1
   apply eBt
   intro i
   rw [eAf,z1l]
   cases ds[i]?<;>rfl
 |arow es=>cases a
 |loop st c g pos d env=>cases a
theorem z1c.flat {P:Program} {ρ ρ':Rho} {O:Nat→Prop} {w:World} {L:Loc} {o:AO} (e:w2f o=true) (h:z1c P ρ O w L o):z1c P ρ' O w L o:=by
 cases o with
 |dead=>trivial
 |row es=>exact h
 |map es=>exact h
 |box l=>
  simp only [w2f] at e
  cases k:x2i l with
  |none=>rw [k] at e; cases e
  |some ds=>
   obtain ⟨a,c,t,p,n⟩:=h
   refine ⟨a,c,t,p,fun j x b=>?_⟩
   obtain ⟨v,m,f⟩:=n j x b
   rw [z17 k,z1l] at b
   cases i:ds[j]? with
   |none=>rw [i] at b; cases b
   |some d=>
    rw [i] at b; cases b
    cases f with|d f=>exact ⟨v,m, .d f⟩
 |arow es=>cases e
 |loop st q g pos r env=>cases e
theorem z3m.widen {P:Program} {g:FuncId} {args:List AV} {r:AV} {h q hV:List AO} {T:Nat→Bool} (hT:∀ id,T id=true→id<h.length) (A:∀ id,T id=true→w2f (z0f h id)=true) (C:w9y T args=true) (hr:inT T r=true)
  (t:z3m P g args (z38 h T 0 h) r hV) (heq:hV=z38 h T 0 h) (l:∀ id,T id=true→z0f q id=z0f h id):z3m P g args q r q:=⟨by
 intro ρ vs w cs o V I
 subst heq
 let z:Rho:=⟨fun id=>if T id=true then ρ id else none,fun b=>ρ.fr b∨∃ id L,T id=false∧ρ id=some L∧(z0f q id).live=true∧L.blk=b⟩
 have k:∀ {id L},z id=some L→T id=true∧ρ id=some L:=fun {id L} a=>by
  change (if T id=true then ρ id else none)=some L at a
  split at a
  ·rename_i c; exact ⟨c,a⟩
  ·cases a
 have B:∀ id L,T id=true→ρ id=some L→z id=some L:=fun id L c a=>by
  show (if T id=true then ρ id else none)=some L
  rw [if_pos c]; exact a
 have m:∀ id,z0f (z38 h T 0 h) id=if T id=true then z0f h id else .dead:=fun id=>by
  rw [z4k,eAq]
  split
  ·rename_i c; exact w02 (A id c)
  ·rfl
 have e:z0d z (z38 h T 0 h)=z0d ρ q:=by
  funext b
  apply propext
  constructor
  ·rintro ((n|⟨id,L,_,a,d,rfl⟩)|⟨id,L,a,d,rfl⟩)
   ·exact .inl n
   ·exact .inr ⟨id,L,a,d,rfl⟩
   ·obtain ⟨c,a⟩:=k a
    rw [m,if_pos c, ←l id c] at d
    exact .inr ⟨id,L,a,d,rfl⟩
  ·rintro (n|⟨id,L,a,d,rfl⟩)
   ·exact .inl (.inl n)
   ·cases c:T id with
    |false=>exact .inl (.inr ⟨id,L,c,a,d,rfl⟩)
    |true=>exact .inr ⟨id,L,B id L c a,by rw [m,if_pos c, ←l id c]; exact d,rfl⟩
 have R:z0b P z (z38 h T 0 h) w:=by
  refine ⟨fun id L a=>?_,fun id s L X W F l1 l2 t=>?_,fun b t=>?_,fun id L a d n=>?_,e▸o.gl⟩
  ·obtain ⟨c,a⟩:=k a
   obtain ⟨p,J⟩:=o.obj id L a
   refine ⟨p,?_⟩
   rw [e,m,if_pos c]
   rw [l id c] at J
   exact J.flat (A id c)
  ·obtain ⟨t1,W⟩:=k W
   obtain ⟨Z,F⟩:=k F
   rw [m,if_pos t1, ←l id t1] at l1
   rw [m,if_pos Z, ←l s Z] at l2
   exact o.inj id s L X W F l1 l2 t
  ·rcases t with t|⟨id,L,_,a,_,rfl⟩
   ·exact o.fr b t
   ·exact (o.obj id L a).1
  ·obtain ⟨c,a⟩:=k a
   rw [m,if_pos c, ←l id c] at d
   rcases n with n|⟨s,X,t',E,Q,he⟩
   ·exact o.sep id L a d n
   ·have:=o.inj s id X L E a Q d he
    subst this
    rw [c] at t'; cases t'
 have u:(z38 h T 0 h).length=h.length:=z55 h T h 0
 have H:Dom z (z38 h T 0 h):=fun id hid=>by
  cases hq:z id with
  |none=>exact absurd hq hid
  |some L=>rw [u]; exact hT id (k hq).1
 obtain ⟨ρ',v,Y,fr,M,U,O,hv,S,y,f⟩:=t.run z vs w cs R H ⟨I.1,fun i x f=>by
  rw [e]
  exact (I.2 i x f).restr B (y03 C i x f)⟩
 have K:∀ id L,ρ' id=some L→ρ id=some L:=fun id L a=>by
  have hid:=y id (by rw [a]; simp)
  rw [f.rho id hid] at a
  exact (k a).2
 have j:z0d ρ' (z38 h T 0 h)=z0d ρ q:=by
  rw [←e]
  funext b
  apply propext
  constructor
  ·rintro (n|⟨id,L,a,d,rfl⟩)
   ·exact .inl (by rw [←f.fr]; exact n)
   ·have hid:=y id (by rw [a]; simp)
    exact .inr ⟨id,L,by rw [←f.rho id hid]; exact a,d,rfl⟩
  ·rintro (n|⟨id,L,a,d,rfl⟩)
   ·exact .inl (by rw [f.fr]; exact n)
   ·have hid:=H id (by rw [a]; simp)
    exact .inr ⟨id,L,by rw [f.rho id hid]; exact a,d,rfl⟩
 have G:z43 (z0d ρ q) (z0d ρ q) w Y:=by
  have:=f.keep
  rw [e,j] at this
  exact this
 refine ⟨ρ,v,Y,fr,M,U,O,?_,?_,V,?_⟩
 ·rw [j] at hv
  exact hv.keep (O':=z0d ρ q) (ρ':=ρ) (z43.refl _ _) K
 ·refine ⟨fun id L a=>?_,o.inj,fun b t=>eAp (o.fr b t) G.size,o.sep,o.gl.keep G⟩
  obtain ⟨p,J⟩:=o.obj id L a
  refine ⟨eAp p G.size,?_⟩
  cases c:T id with
  |true=>
   have E:ρ' id=some L:=by rw [f.rho id (by rw [u]; exact hT id c)]; exact B id L c a
   have:=(S.obj id L E).2
   rw [j,m,if_pos c] at this
   rw [l id c]
   exact this.flat (A id c)
  |false=>
   by_cases d:(z0f q id).live=true
   ·exact J.keep G (fun _ _ h=>h) (f.frs L.blk (.inr ⟨id,L,c,a,d,rfl⟩))
   ·cases N:z0f q id<;>first|trivial|(rw [N] at d; exact absurd rfl d)
 ·exact { os:=f.os,tape:=f.tape,output:=f.output,keep:=G,rho:=fun _ _=>rfl,fr:=rfl,frs:=fun b n=>f.frs b (.inl n) }⟩
end Go.Am
end
section
namespace Go.Am
def y0g (σ:List (Option Nat)) (a:Nat):Bool:=
 match σ with
 |[]=>false
 |some b::r=>Nat.beq a b||y0g r a
 |none::r=>y0g r a
def w2c:List (Option Nat)→Bool
 |[]=>true
 |none::r=>w2c r
 |some a::r=>!(y0g r a)&&w2c r
theorem z8n {a:Nat}:∀ {σ:List (Option Nat)} {i:Nat},z19 σ i=some (some a)→y0g σ a=true
 |[],i,h=>by simp [z19] at h
 |none::r,i,h=>by
  cases i with
  |zero=>simp [z19] at h
  |succ i=>exact z8n (σ:=r) (i:=i) (by simpa [z19] using h)
 |some b::r,i,h=>by
  cases i with
  |zero=>simp [z19] at h; subst h; simp [y0g]
  |succ i=>simp only [y0g,z8n (σ:=r) (i:=i) (by simpa [z19] using h),Bool.or_true]
theorem z8r:∀ {σ:List (Option Nat)},w2c σ=true→∀ {i j a:Nat},z19 σ i=some (some a)→z19 σ j=some (some a)→i=j
 |[],_,i,j,a,c,_=>by simp [z19] at c
 |none::r,h,i,j,a,c,d=>by
  cases i with
  |zero=>simp [z19] at c
  |succ i=>
   cases j with
   |zero=>simp [z19] at d
   |succ j=>rw [z8r (σ:=r) h (i:=i) (j:=j) (by simpa [z19] using c) (by simpa [z19] using d)]
 |some b::r,h,i,j,a,c,d=>by
  simp only [w2c,eAc,eDa] at h
  cases i with
  |zero=>
   cases j with
   |zero=>rfl
   |succ j=>
    simp [z19] at c; subst c
    have:=z8n (σ:=r) (i:=j) (by simpa [z19] using d)
    rw [h.1] at this; cases this
  |succ i=>
   cases j with
   |zero=>
    simp [z19] at d; subst d
    have:=z8n (σ:=r) (i:=i) (by simpa [z19] using c)
    rw [h.1] at this; cases this
   |succ j=>rw [z8r (σ:=r) h.2 (i:=i) (j:=j) (by simpa [z19] using c) (by simpa [z19] using d)]
section
variable {ρ:Rho} {σ:List (Option Nat)}
def Rho.via (ρ:Rho) (σ:List (Option Nat)):Rho:=⟨fun i=>match z19 σ i with|some (some a)=>ρ a|_=>none,ρ.fr⟩
theorem z39 {i:Nat} {M:Loc} (c:(ρ.via σ) i=some M):∃ a,z19 σ i=some (some a)∧ρ a=some M:=by
 have b:(match z19 σ i with|some (some a)=>ρ a|_=>none)=some M:=c
 split at b
 ·rename_i a d; exact ⟨a,d,b⟩
 ·cases b
end
mutual
def z8g (f:Nat→Nat):AV→AV
 | .bptr i off=> .bptr (f i) off
 | .ptr i j off=> .ptr (f i) j off
 | .slice i z off len cap=> .slice (f i) z off len cap
 | .map i=> .map (f i)
 | .yld i=> .yld (f i)
 | .clo fn fs cs=> .clo fn (x6m f fs) (x6m f cs)
 | .iface t v=> .iface t (z8g f v)
 | .agg l=> .agg (x6m f l)
 | .tuple l=> .tuple (x6m f l)
 | .bot=> .bot
 | .d x=> .d x
 | .lptr r off=> .lptr r off
 | .wptr r off=> .wptr r off
 | .perm r=> .perm r
def x6m (f:Nat→Nat):List AV→List AV
 |[]=>[]
 |x::l=>z8g f x::x6m f l
end
theorem z2i (f:Nat→Nat) (l:List AV):x6m f l=l.map (z8g f):=by
 induction l with
 |nil=>rfl
 |cons x l a=>simp [x6m,a]
def v8g (f:Nat→Nat):List (Nat×AV)→List (Nat×AV)
 |[]=>[]
 |(k,x)::l=>(k,z8g f x)::v8g f l
theorem w5m (f:Nat→Nat) (env:List (Nat×AV)) (t:Nat):z00 (v8g f env) t=z8g f (z00 env t):=by
 induction env with
 |nil=>rfl
 |cons x env a=>
  obtain ⟨k,x⟩:=x
  simp only [v8g,z00]
  cases Nat.beq k t<;>simp [a]
def w4a (f:Nat→Nat):List (List AV)→List (List AV)
 |[]=>[]
 |x::l=>x6m f x::w4a f l
theorem y2n (f:Nat→Nat) (l:List (List AV)):w4a f l=l.map (x6m f):=by
 induction l with
 |nil=>rfl
 |cons x l a=>simp [w4a,a]
def y9b (f:Nat→Nat):AO→AO
 | .dead=> .dead
 | .box l=> .box (x6m f l)
 | .row es=> .row es
 | .arow es=> .arow (w4a f es)
 | .map es=> .map es
 | .loop st a g pos nt env=> .loop st a g pos nt (v8g f env)
theorem z2e (f:Nat→Nat) (o:AO):(y9b f o).live=o.live:=by cases o<;>rfl
section ren
variable {P:Program} {ρ1 ρ2:Rho} {O1 O2:Nat→Prop} {w:World} {f:Nat→Nat}
theorem y6e (hO:∀ b,O2 b→O1 b) (s:∀ j M,ρ1 j=some M→ρ2 (f j)=some M) {x:AV} {v:Value} (H:z0n ρ1 O1 w x v):z0n ρ2 O2 w (z8g f x) v:=by
 have A:z43 O1 O2 w w:=⟨eAj _,fun _ _ _=>rfl,fun b _ u=>hO b u,fun _ _ h=>h,z0u.refl _⟩
 induction H with
 |bot v=>exact .bot v
 |d h=>exact .d (h.keep A)
 |bptr id off L k=>exact .bptr _ off L (s _ _ k)
 |ptr id i off L k=>exact .ptr _ i off L (s _ _ k)
 |lptr r off b o l n cell m I=>exact .lptr r off b o l (fun u=>n (hO b u)) cell m (fun j x e=>(I j x e).keep A)
 |wptr es off b o z l n G m=>exact .wptr es off b o z l (fun u=>n (hO b u)) G fun i r j x S e=>let ⟨v,H,Q⟩:=m i r j x S e; ⟨v,H,Q.keep A⟩
 |perm es N v R h=>exact .perm es N v R (h.keep A)
 |slice id z off len cap L a c k G T m q=>exact .slice _ z off len cap L a c (s _ _ k) G T m q
 |nils id z off cap a m=>exact .nils _ z off cap a m
 |map id L k=>exact .map _ L (s _ _ k)
 |yld id L k=>exact .yld _ L (s _ _ k)
 |clo fn U cs O P K J W V F E=>
  simp only [z8g,z2i]
  refine .clo fn _ _ O P (by simpa using K) (by simpa using J) (fun i x e=>?_) (fun i x e=>?_)
  ·rw [eAf] at e
   cases g:U[i]? with
   |none=>rw [g] at e; cases e
   |some y=>rw [g] at e; cases e; exact F i y g
  ·rw [eAf] at e
   cases g:cs[i]? with
   |none=>rw [g] at e; cases e
   |some y=>rw [g] at e; cases e; exact E i y g
 |iface t x v h p=>exact .iface t _ v p
 |agg B C q h p=>
  simp only [z8g,z2i]
  refine .agg _ C (by simpa using q) (fun i x e=>?_)
  rw [eAf] at e
  cases g:B[i]? with
  |none=>rw [g] at e; cases e
  |some y=>rw [g] at e; cases e; exact p i y g
 |tuple B C q h p=>
  simp only [z8g,z2i]
  refine .tuple _ C (by simpa using q) (fun i x e=>?_)
  rw [eAf] at e
  cases g:B[i]? with
  |none=>rw [g] at e; cases e
  |some y=>rw [g] at e; cases e; exact p i y g
theorem w39 (hO:∀ b,O2 b→O1 b) (G:∀ j M,ρ1 j=some M→ρ2 (f j)=some M) {L:Loc} {o:AO} (h:z1c P ρ1 O1 w L o):z1c P ρ2 O2 w L (y9b f o):=by
 have F:z43 O1 O2 w w:=⟨eAj _,fun _ _ _=>rfl,fun b _ O=>hO b O,fun _ _ h=>h,z0u.refl _⟩
 cases o with
 |dead=>trivial
 |box cells=>
  obtain ⟨s,c,t,n,m⟩:=h
  refine ⟨s,c,t,n,fun j x d=>?_⟩
  rw [z2i,eAf] at d
  cases l:cells[j]? with
  |none=>rw [l] at d; cases d
  |some y=>
   rw [l] at d; cases d
   obtain ⟨v,u,A⟩:=m j y l
   exact ⟨v,u,y6e hO G A⟩
 |row es=>
  obtain ⟨E,c,t,n,q,m⟩:=h
  exact ⟨E,c,t,n,q,fun i r j x a d=>let ⟨v,u,B,A⟩:=m i r j x a d; ⟨v,u,B,A.keep F⟩⟩
 |arow es=>
  obtain ⟨E,c,t,n,q,m⟩:=h
  refine ⟨E,c,t,n,fun i r a=>?_,fun i r j x a d=>?_⟩
  ·rw [y2n,eAf] at a
   cases l:es[i]? with
   |none=>rw [l] at a; cases a
   |some y=>rw [l] at a; cases a; rw [z2i,eAy]; exact q i y l
  ·rw [y2n,eAf] at a
   cases l:es[i]? with
   |none=>rw [l] at a; cases a
   |some y=>
    rw [l] at a; cases a
    rw [z2i,eAf] at d
    cases p:y[j]? with
    |none=>rw [p] at d; cases d
    |some z=>
     rw [p] at d; cases d
     obtain ⟨v,u,B,A⟩:=m i y j z l p
     exact ⟨v,u,B,y6e hO G A⟩
 |map es=>
  obtain ⟨R,J,n,q,m⟩:=h
  exact ⟨R,J,n,q,fun i k x a=>let ⟨e,he,B,Q⟩:=m i k x a; ⟨e,he,B.keep F,Q.keep F⟩⟩
 |loop st S g pos T env=>
  obtain ⟨x,N,K,C,H,tm,ds,I,n,q,m⟩:=h
  exact ⟨x,N,K,C,H,tm,ds,I,n,q,fun t=>by rw [w5m]; exact y6e hO G (m t)⟩
end ren
def z3a (σ:List (Option Nat)) (base:Nat) (j:Nat):Nat:=
 match z19 σ j with
 |some (some a)=>a
 |_=>base+(j - σ.length)
def z2c (f:Nat→Nat):List AO→Nat→List AO→List AO
 |h,_,[]=>h
 |h,j,o::os=>z2c f (z03 h (f j) (y9b f o)) (j+1) os
theorem y8y (f:Nat→Nat):∀ (os:List AO) (h:List AO) (j:Nat) (id:Nat),(∀ a b,j≤a→a<j+os.length→j≤b→b<j+os.length→f a=f b→a=b)→
  (∀ k,k<os.length→z0f (z2c f h j os) (f (j+k))=y9b f (z0f os k))∧((∀ k,k<os.length→f (j+k)≠id)→z0f (z2c f h j os) id=z0f h id):=by
 intro os
 induction os with
 |nil=>intro h j id _; exact ⟨fun k g=>by simp at g,fun _=>rfl⟩
 |cons o os l=>
  intro h j id d
  have c:∀ a b,j+1≤a→a<j+1+os.length→j+1≤b→b<j+1+os.length→f a=f b→a=b:=fun a b q p n m=>d a b (by omega) (by simp; omega) (by omega) (by simp; omega)
  simp only [z2c]
  refine ⟨fun k g=>?_,fun i=>?_⟩
  ·cases k with
   |zero=>
    rw [(l _ (j+1) (f (j+0)) c).2 (fun k g=>?_)]
    ·rw [eBa,z0h]; rfl
    ·intro e
     have:=d _ _ (by omega) (by simp; omega) (by omega) (by simp) e
     omega
   |succ k=>
    have:=(l (z03 h (f j) (y9b f o)) (j+1) id c).1 k (by simpa using g)
    rw [show j+1+k=j+(k+1) by omega] at this
    exact this
  ·rw [(l _ (j+1) id c).2 (fun k g=>by rw [show j+1+k=j+(k+1) by omega]; exact i (k+1) (by simpa using g)),z0c _ _ _ _ (by have:=i 0 (by simp); simpa using this)]
theorem z74 (f:Nat→Nat):∀ (os:List AO) (h:List AO) (j:Nat),h.length≤(z2c f h j os).length∧∀ k,k<os.length→f (j+k)<(z2c f h j os).length:=by
 intro os
 induction os with
 |nil=>intro h j; exact ⟨eAj _,fun k e=>by simp at e⟩
 |cons o os g=>
  intro h j
  simp only [z2c]
  obtain ⟨a,b⟩:=g (z03 h (f j) (y9b f o)) (j+1)
  obtain ⟨c,d⟩:=z1w h (f j) (y9b f o)
  refine ⟨eBk c a,fun k e=>?_⟩
  cases k with
  |zero=>exact eAp d a
  |succ k=>rw [show j+(k+1)=j+1+k by omega]; exact b k (by simpa using e)
def z6p (base:Nat):List (Option Nat)→Bool
 |[]=>true
 |some a::r=>Nat.blt a base&&z6p base r
 |none::_=>false
theorem y26 {base:Nat}:∀ {σ:List (Option Nat)},z6p base σ=true→∀ j,j<σ.length→∃ a,z19 σ j=some (some a)∧a<base
 |[],_,j,b=>by simp at b
 |none::_,h,_,_=>by cases h
 |some a::r,h,j,b=>by
  simp only [z6p,eAc] at h
  cases j with
  |zero=>exact ⟨a,rfl,eAh h.1⟩
  |succ j=>simpa [z19] using y26 h.2 j (by simpa using b)
section frame
variable {P:Program} {ρ:Rho} {h:List AO} {w:World} {σ:List (Option Nat)}
def Rho.lent (ρ:Rho) (h:List AO) (σ:List (Option Nat)):Rho:=
 ⟨(ρ.via σ).loc,fun b=>ρ.fr b∨∃ a M,ρ a=some M∧(z0f h a).live=true∧(∀ j,z19 σ j≠some (some a))∧M.blk=b⟩
theorem x6z {ρ:Rho} {O:Nat→Prop} {w:World} {L:Loc} {o:AO} (h:¬ o.live=true):z1c P ρ O w L o:=by
 cases o<;>first|trivial|exact absurd rfl h
set_option maxHeartbeats 1000000 in
theorem y7b {n : Nat} {s : AS} (hn : n ≤ s.heap.length) (hinj : w2c σ = true) (hth : z6p s.heap.length σ = true) {g : FuncId} {args argsT : List AV} {hT hT' : List AO} {r : AV} (hlen : hT.length ≤ hT'.length)
    (hfit : ∀ (ρ : Rho) (w : World), z0b P ρ s.heap w → hT.length = σ.length ∧ (∀ b, z0d (ρ.lent s.heap σ) hT b → z0d ρ s.heap b) ∧ z0b P (ρ.lent s.heap σ) hT w ∧ argsT.length = args.length ∧
      ∀ f : Nat → Value, (∀ i x, args[i]? = some x → z0n ρ (z0d ρ s.heap) w x (f i)) → ∀ i y, argsT[i]? = some y → z0n (ρ.lent s.heap σ) (z0d ρ s.heap) w y (f i))
    (ha : z3m P g argsT hT r hT') : z5k P n g args s (z8g (z3a σ s.heap.length) r) ⟨s.env, z2c (z3a σ s.heap.length) s.heap 0 hT', s.nt⟩ := ⟨by
  intro ρ vs tm w cs hs hargs
  obtain ⟨hKlen, hlo, hheap, hal, hav⟩ := hfit ρ w hs.heap
  have kp : z43 (z0d ρ s.heap) (z0d (ρ.lent s.heap σ) hT) w w := ⟨eAj _, fun _ _ _ => rfl, fun b _ hb => hlo b hb, fun _ _ h => h, z0u.refl _⟩
  have hdomT : Dom (ρ.lent s.heap σ) hT := fun id hid => by
    cases hq : (ρ.lent s.heap σ) id with
    | none => exact absurd hq hid
    | some M =>
      obtain ⟨a, ha, _⟩ := z39 hq
      rw [z1s] at ha
      rw [hKlen]; exact (eAa.1 ha).1
  obtain ⟨ρ1, v, w', fr, b1, b2, b3, b4, b5, b6, b7⟩ := ha.run (ρ.lent s.heap σ) vs w cs hheap hdomT ⟨by rw [hal]; exact hargs.1, fun i y hy => (hav (fun i => vs.getD i undef) (fun i x hx => hargs.2 i x hx) i y hy).keep kp (fun _ _ h => h)⟩
  let base := s.heap.length
  let f := z3a σ base
  let ρ2 : Rho := ⟨fun id => if id < base then ρ id else ρ1 (σ.length + (id - base)), ρ.fr⟩
  let h2 := z2c f s.heap 0 hT'
  have fK : ∀ j, j < σ.length → ∃ a, z19 σ j = some (some a) ∧ a < base ∧ f j = a := fun j hj => by
    obtain ⟨a, h1, h2⟩ := y26 hth j hj
    exact ⟨a, h1, h2, by show z3a σ base j = a; simp [z3a, h1]⟩
  have fN : ∀ j, σ.length ≤ j → f j = base + (j - σ.length) := fun j hj => by
    have : z19 σ j = none := by rw [z1s]; exact eCq hj
    show z3a σ base j = _; simp [z3a, this]
  have finj : ∀ a b, f a = f b → a = b := by
    intro a b e
    by_cases ha : a < σ.length
    · obtain ⟨x, x1, x2, x3⟩ := fK a ha
      by_cases hb : b < σ.length
      · obtain ⟨y, y1, y2, y3⟩ := fK b hb
        have : x = y := by rw [← x3, ← y3, e]
        subst this
        exact z8r hinj x1 y1
      · have := fN b (by omega); omega
    · by_cases hb : b < σ.length
      · obtain ⟨y, y1, y2, y3⟩ := fK b hb
        have := fN a (by omega); omega
      · have h1 := fN a (by omega)
        have h2 := fN b (by omega)
        omega
  have hrho : ∀ j M, ρ1 j = some M → ρ2 (f j) = some M := by
    intro j M hM
    by_cases hj : j < σ.length
    · obtain ⟨a, a1, a2, a3⟩ := fK j hj
      have e := b7.rho j (by show j < hT.length; omega)
      rw [hM] at e
      have e2 : (ρ.lent s.heap σ) j = ρ a := by show (match z19 σ j with | some (some a) => ρ a | _ => none) = _; rw [a1]
      rw [a3]
      show (if a < base then ρ a else _) = _
      rw [if_pos a2, ← e2, ← e]
    · rw [fN j (by omega)]
      show (if base + (j - σ.length) < base then _ else ρ1 (σ.length + (base + (j - σ.length) - base))) = _
      rw [if_neg (by omega), show σ.length + (base + (j - σ.length) - base) = j by omega]; exact hM
  have nth1 : ∀ j, j < hT'.length → z0f h2 (f j) = y9b f (z0f hT' j) := fun j hj => by
    have := (y8y f hT' s.heap 0 0 (fun a b _ _ _ _ e => finj a b e)).1 j hj
    rw [eAq] at this; exact this
  have nth2 : ∀ id, (∀ j, j < hT'.length → f j ≠ id) → z0f h2 id = z0f s.heap id := fun id hne =>
    (y8y f hT' s.heap 0 id (fun a b _ _ _ _ e => finj a b e)).2 (fun k hk => by rw [eAq]; exact hne k hk)
  have lenH : base ≤ h2.length := (z74 f hT' s.heap 0).1
  have other : ∀ id M, ρ2 id = some M → (∀ j, j < hT'.length → f j ≠ id) → (z0f h2 id).live = true → id < base ∧ ρ id = some M ∧ (z0f s.heap id).live = true ∧ (ρ.lent s.heap σ).fr M.blk := by
    intro id M hM hne hl
    rw [nth2 id hne] at hl
    have hlt : id < base := by
      rcases eCf id base with h | h
      · exact h
      · rw [x61 _ _ h] at hl; cases hl
    have hM' : ρ id = some M := by
      have : (if id < base then ρ id else ρ1 (σ.length + (id - base))) = some M := hM
      rw [if_pos hlt] at this; exact this
    refine ⟨hlt, hM', hl, .inr ⟨id, M, hM', hl, fun j hj => ?_, rfl⟩⟩
    have hjl : j < σ.length := by rw [z1s] at hj; exact (eAa.1 hj).1
    obtain ⟨a, a1, a2, a3⟩ := fK j hjl
    rw [a1] at hj; cases hj
    exact hne j (by omega) a3
  have mine : ∀ id, (∃ j, j < hT'.length ∧ f j = id) ∨ ∀ j, j < hT'.length → f j ≠ id := fun id => by
    by_cases h : ∃ j, j < hT'.length ∧ f j = id
    · exact .inl h
    · exact .inr fun j hj e => h ⟨j, hj, e⟩
  have rho1 : ∀ j M, j < hT'.length → ρ2 (f j) = some M → ρ1 j = some M := by
    intro j M hj hM
    by_cases hjK : j < σ.length
    · obtain ⟨a, a1, a2, a3⟩ := fK j hjK
      rw [a3] at hM
      have hM : (if a < base then ρ a else _) = some M := hM
      rw [if_pos a2] at hM
      have e := b7.rho j (by show j < hT.length; omega)
      have e2 : (ρ.lent s.heap σ) j = ρ a := by show (match z19 σ j with | some (some a) => ρ a | _ => none) = _; rw [a1]
      rw [e, e2]; exact hM
    · rw [fN j (by omega)] at hM
      have hM : (if base + (j - σ.length) < base then ρ (base + (j - σ.length)) else ρ1 (σ.length + (base + (j - σ.length) - base))) = some M := hM
      rw [if_neg (by omega), show σ.length + (base + (j - σ.length) - base) = j by omega] at hM
      exact hM
  have frEq : ρ1.fr = (ρ.lent s.heap σ).fr := b7.fr
  have own2 : ∀ b, z0d ρ2 h2 b → z0d ρ1 hT' b := by
    intro b hb
    rcases hb with hf | ⟨id, M, hM, hl, rfl⟩
    · exact .inl (by rw [frEq]; exact .inl hf)
    · rcases mine id with ⟨j, hj, rfl⟩ | hne
      · rw [nth1 j hj, z2e] at hl
        exact .inr ⟨j, M, rho1 j M hj hM, hl, rfl⟩
      · exact .inl (by rw [frEq]; exact (other id M hM hne hl).2.2.2)
  have hmono : ∀ id M, ρ id = some M → ρ2 id = some M := fun id M hM => by
    have hlt : id < base := hs.dom id (by rw [hM]; simp)
    show (if id < base then ρ id else _) = _
    rw [if_pos hlt]; exact hM
  have kpAll : z43 (z0d ρ s.heap) (z0d ρ2 h2) w w' :=
    { size := b7.keep.size
      frame := fun b hb hno => b7.keep.frame b hb (fun h => hno (hlo b h))
      own := fun b hb ho => hlo b (b7.keep.own b hb (own2 b ho))
      shape := b7.keep.shape
      drawn := b7.keep.drawn }
  have hheap2 : z0b P ρ2 h2 w' := by
    refine ⟨fun id M hM => ?_, fun i j M M' h1 h2' l1 l2 hb => ?_, fun b hf => eAp (hs.heap.fr b hf) b7.keep.size, fun id M hM hl hf => ?_, hs.heap.gl.keep kpAll⟩
    · rcases mine id with ⟨j, hj, rfl⟩ | hne
      · obtain ⟨o1, o2⟩ := b5.obj j M (rho1 j M hj hM)
        exact ⟨o1, by rw [nth1 j hj]; exact w39 own2 hrho o2⟩
      · by_cases hl : (z0f h2 id).live = true
        · obtain ⟨c1, c2, c3, c4⟩ := other id M hM hne hl
          obtain ⟨o1, o2⟩ := hs.heap.obj id M c2
          refine ⟨eAp o1 b7.keep.size, ?_⟩
          rw [nth2 id hne]
          exact o2.keep kpAll hmono (b7.frs _ c4)
        · by_cases hlt : id < base
          · have hM' : ρ id = some M := by
              have : (if id < base then ρ id else ρ1 (σ.length + (id - base))) = some M := hM
              rw [if_pos hlt] at this; exact this
            refine ⟨eAp (hs.heap.obj id M hM').1 b7.keep.size, ?_⟩
            exact x6z hl
          · exfalso
            have hM' : (if id < base then ρ id else ρ1 (σ.length + (id - base))) = some M := hM
            rw [if_neg hlt] at hM'
            have hd := b6 _ (by rw [hM']; simp)
            refine hne _ hd ?_
            rw [fN _ (by omega)]; omega
    · rcases mine i with ⟨a, ha, rfl⟩ | hni
      · rw [nth1 a ha, z2e] at l1
        rcases mine j with ⟨b, hb', rfl⟩ | hnj
        · rw [nth1 b hb', z2e] at l2
          rw [b5.inj a b M M' (rho1 a M ha h1) (rho1 b M' hb' h2') l1 l2 hb]
        · obtain ⟨c1, c2, c3, c4⟩ := other j M' h2' hnj l2
          exact absurd (by rw [frEq, hb]; exact c4) (b5.sep a M (rho1 a M ha h1) l1)
      · obtain ⟨c1, c2, c3, c4⟩ := other i M h1 hni l1
        rcases mine j with ⟨b, hb', rfl⟩ | hnj
        · rw [nth1 b hb', z2e] at l2
          exact absurd (by rw [frEq, ← hb]; exact c4) (b5.sep b M' (rho1 b M' hb' h2') l2)
        · obtain ⟨d1, d2, d3, d4⟩ := other j M' h2' hnj l2
          exact hs.heap.inj i j M M' c2 d2 c3 d3 hb
    · rcases mine id with ⟨j, hj, rfl⟩ | hne
      · rw [nth1 j hj, z2e] at hl
        exact b5.sep j M (rho1 j M hj hM) hl (by rw [frEq]; exact .inl hf)
      · obtain ⟨c1, c2, c3, c4⟩ := other id M hM hne hl
        exact hs.heap.sep id M c2 c3 hf
  refine ⟨ρ2, v, w', fr, b1, b2, b3, y6e own2 hrho b4, ⟨hheap2, fun t => (hs.env t).keep kpAll hmono, hs.size, fun id hid => ?_⟩, rfl, ?_⟩
  · show id < h2.length
    by_cases hlt : id < base
    · omega
    · have hid' : (if id < base then ρ id else ρ1 (σ.length + (id - base))) ≠ none := hid
      rw [if_neg hlt] at hid'
      have hd := b6 _ hid'
      have := (z74 f hT' s.heap 0).2 _ hd
      rw [eAq, fN _ (by omega)] at this
      show id < (z2c f s.heap 0 hT').length
      omega
  · exact { os := b7.os, tape := b7.tape, output := b7.output, keep := kpAll, rho := fun id hid => by
              show (if id < base then ρ id else _) = ρ id
              rw [if_pos (by show id < s.heap.length; have : id < n := hid; omega)],
            fr := rfl, frs := fun b hf => b7.frs b (.inl hf) }⟩
end frame
end Go.Am
end
section
namespace Go.Am
mutual
def rid:AV→List Nat
 | .bptr id _=>[id]
 | .ptr id _ _=>[id]
 | .slice id _ _ _ _=>[id]
 | .map id=>[id]
 | .yld id=>[id]
 | .clo _ fs cs=>w82 fs++w82 cs
 | .iface _ v=>rid v
 | .agg l=>w82 l
 | .tuple l=>w82 l
 |_=>[]
def w82:List AV→List Nat
 |[]=>[]
 |x::l=>rid x++w82 l
end
def v9c:List (List AV)→List Nat
 |[]=>[]
 |x::l=>w82 x++v9c l
def t1w:List (Nat×AV)→List Nat
 |[]=>[]
 |(_,x)::l=>rid x++t1w l
def ridO:AO→List Nat
 | .box l=>w82 l
 | .arow es=>v9c es
 | .loop _ _ _ _ _ env=>t1w env
 |_=>[]
def u2u:List Nat→List Nat→List Nat
 |a,[]=>a
 |a,x::l=>bif y3s x a then u2u a l else u2u (a++[x]) l
def v4z (h:List AO):Nat→Nat→List Nat→List Nat
 |0,_,l=>l
 |f+1,i,l=>match z19 l i with
  |some a=>v4z h f (i+1) (u2u l (ridO (z0f h a)))
  |none=>l
def idx:List Nat→Nat→Nat
 |[],_=>0
 |x::l,a=>bif Nat.beq x a then 0 else idx l a+1
def z6i:List Nat→List (Option Nat)
 |[]=>[]
 |x::l=>some x::z6i l
def x1r (h:List AO) (b:List Nat):List Nat→List AO
 |[]=>[]
 |a::l=>y9b (idx b) (z0f h a)::x1r h b l
mutual
def inM (T:List Nat):AV→Bool
 | .bptr id _=>y3s id T
 | .ptr id _ _=>y3s id T
 | .slice id _ _ _ _=>y3s id T
 | .map id=>y3s id T
 | .yld id=>y3s id T
 | .clo _ fs cs=>w5i T fs&&w5i T cs
 | .iface _ v=>inM T v
 | .agg l=>w5i T l
 | .tuple l=>w5i T l
 |_=>true
def w5i (T:List Nat):List AV→Bool
 |[]=>true
 |x::l=>inM T x&&w5i T l
end
def w9z (T:List Nat):List (List AV)→Bool
 |[]=>true
 |x::l=>w5i T x&&w9z T l
def u4s (T:List Nat):List (Nat×AV)→Bool
 |[]=>true
 |(_,x)::l=>inM T x&&u4s T l
def t2a (T:List Nat):AO→Bool
 | .box l=>w5i T l
 | .arow es=>w9z T es
 | .loop _ _ _ _ _ env=>u4s T env
 |_=>true
def okM (h:List AO) (T:List Nat) (args:List AV):Bool:=
 w5i T args&&(w2c (z6i T)&&T.all fun a=>Nat.blt a h.length&&t2a T (z0f h a))
theorem z7o {T:List Nat}:∀ {l:List AV},w5i T l=true→∀ (i:Nat) (x:AV),l[i]?=some x→inM T x=true
 |[],_,i,x,h=>by simp at h
 |y::l,h,i,x,a=>by
  simp only [w5i,eAc] at h
  cases i with
  |zero=>simp at a; subst a; exact h.1
  |succ i=>exact z7o h.2 i x (by simpa using a)
theorem x4h {T:List Nat}:∀ {l:List (List AV)},w9z T l=true→∀ (i:Nat) (x:List AV),l[i]?=some x→w5i T x=true
 |[],_,i,x,h=>by simp at h
 |y::l,h,i,x,a=>by
  simp only [w9z,eAc] at h
  cases i with
  |zero=>simp at a; subst a; exact h.1
  |succ i=>exact x4h h.2 i x (by simpa using a)
theorem x9j {T:List Nat}:∀ {l:List (Nat×AV)},u4s T l=true→∀ t,inM T (z00 l t)=true
 |[],_,t=>rfl
 |(k,y)::l,h,t=>by
  simp only [u4s,eAc] at h
  simp only [z00]
  cases Nat.beq k t with
  |true=>exact h.1
  |false=>exact x9j h.2 t
def Rho.on (ρ:Rho) (T:List Nat):Rho:=⟨fun id=>if y3s id T=true then ρ id else none,ρ.fr⟩
theorem y3p {ρ:Rho} {T:List Nat} {id:Nat} {L:Loc}:ρ.on T id=some L↔y3s id T=true∧ρ id=some L:=by
 show (if y3s id T=true then ρ id else none)=some L↔_
 split
 ·rename_i h; simp [h]
 ·rename_i h; simp [h]
theorem z0n.on {T:List Nat} {ρ:Rho} {O:Nat→Prop} {w:World} {x:AV} {v:Value} (h:z0n ρ O w x v):inM T x=true→z0n (ρ.on T) O w x v:=by
 induction h with
 |bot v=>intro _; exact .bot v
 |d h=>intro _; exact .d h
 |bptr id off L h=>intro e; exact .bptr id off L (y3p.2 ⟨e,h⟩)
 |ptr id i off L h=>intro e; exact .ptr id i off L (y3p.2 ⟨e,h⟩)
 |lptr r off b o j hO cell g B=>intro _; exact .lptr r off b o j hO cell g B
 |wptr es off b o z j hO s g=>intro _; exact .wptr es off b o z j hO s g
 |perm es u v C h=>intro _; exact .perm es u v C h
 |slice id z off len cap L a c h s F g l=>intro e; exact .slice id z off len cap L a c (y3p.2 ⟨e,h⟩) s F g l
 |nils id z off cap a g=>intro _; exact .nils id z off cap a g
 |map id L h=>intro e; exact .map id L (y3p.2 ⟨e,h⟩)
 |yld id L h=>intro e; exact .yld id L (y3p.2 ⟨e,h⟩)
 |clo fn G cs y A E g I H q p=>
  intro e
  simp only [inM,eAc] at e
  exact .clo fn G cs y A E g (fun i x f=>q i x f (z7o e.1 i x f)) (fun i x f=>p i x f (z7o e.2 i x f))
 |iface t x v h k=>intro e; exact .iface t x v (k (by simpa only [inM] using e))
 |agg m n l h k=>intro e; exact .agg m n l fun i x f=>k i x f (z7o (by simpa only [inM] using e) i x f)
 |tuple m n l h k=>intro e; exact .tuple m n l fun i x f=>k i x f (z7o (by simpa only [inM] using e) i x f)
theorem z1c.on {P:Program} {T:List Nat} {ρ:Rho} {O:Nat→Prop} {w:World} {L:Loc} {o:AO} (s:t2a T o=true) (h:z1c P ρ O w L o):z1c P (ρ.on T) O w L o:=by
 cases o with
 |dead=>trivial
 |row es=>exact h
 |map es=>exact h
 |box l=>
  obtain ⟨a,c,t,k,d⟩:=h
  exact ⟨a,c,t,k,fun j x b=>let ⟨v,n,p⟩:=d j x b; ⟨v,n,p.on (z7o s j x b)⟩⟩
 |arow es=>
  obtain ⟨A,c,t,k,q,d⟩:=h
  exact ⟨A,c,t,k,q,fun i r j x e b=>let ⟨v,n,B,p⟩:=d i r j x e b; ⟨v,n,B,p.on (z7o (x4h s i r e) j x b)⟩⟩
 |loop st C g pos E env=>
  obtain ⟨x,z,y,m,u,tm,ds,f,k,q,d⟩:=h
  exact ⟨x,z,y,m,u,tm,ds,f,k,q,fun t=>(d t).on (x9j s t)⟩
theorem z8b:∀ (T:List Nat) (i:Nat),z19 (z6i T) i=(T[i]?).map some
 |[],i=>by simp [z6i,z19]
 |x::l,i=>by
  cases i with
  |zero=>simp [z6i,z19]
  |succ i=>simp [z6i,z19,z8b l i]
theorem x3f:∀ T:List Nat,(z6i T).length=T.length
 |[]=>rfl
 |x::l=>by simp [z6i,x3f l]
theorem x9k:∀ {T:List Nat} {a:Nat},y3s a T=true→T[idx T a]?=some a
 |[],a,h=>by cases h
 |x::l,a,h=>by
  simp only [y3s,eAt] at h
  simp only [idx]
  cases b:Nat.beq x a with
  |true=>have:=eAd b; subst this; simp
  |false=>
   rcases h with h|h
   ·have:=eAd h; subst this; rw [eFd] at b; cases b
   ·simpa using x9k h
theorem y2p (h:List AO) (b:List Nat):∀ l,(x1r h b l).length=l.length
 |[]=>rfl
 |a::l=>by simp [x1r,y2p h b l]
theorem x36 (h:List AO) (b:List Nat):∀ (l:List Nat) (i a:Nat),l[i]?=some a→z0f (x1r h b l) i=y9b (idx b) (z0f h a)
 |[],i,a,c=>by simp at c
 |x::l,i,a,c=>by
  cases i with
  |zero=>simp at c; subst c; rfl
  |succ i=>exact x36 h b l i a (by simpa using c)
theorem y1j {n:Nat}:∀ {T:List Nat},(∀ a∈T,a<n)→z6p n (z6i T)=true
 |[],_=>rfl
 |x::l,h=>by
  simp only [z6i,z6p,eAc]
  exact ⟨eBj (h x (eAu ..)),y1j fun a b=>h a (eBc _ b)⟩
theorem x35 {P:Program} {n:Nat} {s:AS} (V:n≤s.heap.length) {g:FuncId} {args:List AV} {T:List Nat} (A:okM s.heap T args=true) {r:AV} {v:List AO} (B:(x1r s.heap T T).length≤v.length)
  (W:z3m P g (x6m (idx T) args) (x1r s.heap T T) r v):z5k P n g args s (z8g (z3a (z6i T) s.heap.length) r) ⟨s.env,z2c (z3a (z6i T) s.heap.length) s.heap 0 v,s.nt⟩:=by
 simp only [okM,eAc,eAx] at A
 obtain ⟨u,p,q⟩:=A
 have F:∀ a∈T,a<s.heap.length:=fun a hm=>eAh (q a hm).1
 refine y7b V p (y1j F) B (fun ρ w t=>?_) W
 have c:∀ {i:Nat} {M:Loc},(ρ.lent s.heap (z6i T)) i=some M→∃ a,T[i]?=some a∧ρ a=some M∧z0f (x1r s.heap T T) i=y9b (idx T) (z0f s.heap a):=fun {i M} d=>by
  obtain ⟨a,k,m⟩:=z39 (ρ:=ρ) (σ:=z6i T) d
  rw [z8b] at k
  cases o:T[i]? with
  |none=>rw [o] at k; cases k
  |some b=>rw [o] at k; cases k; exact ⟨a,rfl,m,x36 _ _ _ _ _ o⟩
 have e:∀ j M,ρ.on T j=some M→(ρ.lent s.heap (z6i T)) (idx T j)=some M:=fun j M d=>by
  obtain ⟨k,m⟩:=y3p.1 d
  show (match z19 (z6i T) (idx T j) with|some (some a)=>ρ a|_=>none)=some M
  rw [z8b,x9k k]; exact m
 have f:∀ b,z0d (ρ.lent s.heap (z6i T)) (x1r s.heap T T) b→z0d ρ s.heap b:=by
  rintro b ((e|⟨a,M,d,l,_,rfl⟩)|⟨i,M,d,l,rfl⟩)
  ·exact .inl e
  ·exact .inr ⟨a,M,d,l,rfl⟩
  ·obtain ⟨a,_,m,K⟩:=c d
   rw [K,z2e] at l
   exact .inr ⟨a,M,m,l,rfl⟩
 refine ⟨by rw [y2p,x3f],f,⟨fun i M d=>?_,fun i j M O k m R Q I=>?_,fun b e=>?_,fun i M d l e=>?_,t.gl.sub f⟩,by rw [z2i,eAy],fun fv H i y z=>?_⟩
 ·obtain ⟨a,k,m,K⟩:=c d
  obtain ⟨U,S⟩:=t.obj a M m
  refine ⟨U,?_⟩
  rw [K]
  exact w39 f e (S.on (q a (eAi k)).2)
 ·obtain ⟨a,N,C,L⟩:=c k
  obtain ⟨b,Z,Y,X⟩:=c m
  rw [L,z2e] at R
  rw [X,z2e] at Q
  have:=t.inj a b M O C Y R Q I
  subst this
  exact z8r p (by rw [z8b,N]; rfl) (by rw [z8b,Z]; rfl)
 ·rcases e with e|⟨a,M,d,l,_,rfl⟩
  ·exact t.fr b e
  ·exact (t.obj a M d).1
 ·obtain ⟨a,N,C,L⟩:=c d
  rw [L,z2e] at l
  rcases e with e|⟨a',O,J,G,E,I⟩
  ·exact t.sep a M C l e
  ·have:=t.inj a' a O M J C G l I
   subst this
   exact E i (by rw [z8b,N]; rfl)
 ·rw [z2i,eAf] at z
  cases o:args[i]? with
  |none=>rw [o] at z; cases z
  |some x=>
   rw [o] at z; cases z
   exact y6e (fun _ h=>h) e ((H i x o).on (z7o u i x o))
end Go.Am
end
section
namespace Go.Am
structure SS where
 s:AS
 K:List (List CK)
def y57:AS→Nat→AV→AS
 |⟨env,heap,nt⟩,d,v=>⟨v9g env d v,heap,nt⟩
def putR:SS→Option Tmp→AV→SS
 |⟨⟨env,heap,nt⟩,K⟩,dst,r=>⟨⟨y4f env dst r,heap,nt⟩,K⟩
def x9m:SS→List AO→List (List CK)→SS
 |⟨⟨env,_,nt⟩,_⟩,h,K=>⟨⟨env,h,nt⟩,K⟩
def x9o (A:Alg) (β:Type) (all:List Oper) (s:AS) (g:Option (Nat×Bool)) (k:Bool→AS→A.Ω β):A.Ω β:=
 match g with
 |none=>k true s
 |some (j,a)=>match z19 all j with
  |some o=>match o.dst with
   |some d=>match z00 s.env d with
    | .d (.bool t)=>A.ask β t (k (true==a) (y57 s d (.d (.bool true)))) (k (false==a) (y57 s d (.d (.bool false))))
    | .tuple []=>k false s
    |_=>A.no β 21
   |none=>A.no β 22
  |none=>A.no β 23
def v7h (A:Alg) (β:Type) (s:AS) (x:Operand) (k:Bool→AS→A.Ω β):A.Ω β:=
 match x with
 | .tmp d=>match z00 s.env d with
  | .d (.bool t)=>A.ask β t (k true (y57 s d (.d (.bool true)))) (k false (y57 s d (.d (.bool false))))
  |_=>A.no β 24
 |x=>match z0p s.env x with
  | .d (.bool t)=>A.ask β t (k true s) (k false s)
  |_=>A.no β 25
structure Orc (A:Alg) where
 call:(β:Type)→Nat→List Bool→Nat→Nat→FuncId→List AV→SS→Option ((AV→SS→A.Ω β)→A.Ω β)
 pure:(β:Type)→Nat→List Bool→Nat→FuncId→List AV→SS→Option ((AV→A.Ω β)→A.Ω β)
 loop:(β:Type)→Nat→Nat→List Bool→SS→Option ((AX→SS→A.Ω β)→A.Ω β)
 join:(β:Type)→Nat→Nat→List Bool→((γ:Type)→(AX→SS→A.Ω γ)→A.Ω γ)→(AX→SS→A.Ω β)→A.Ω β
 view:(β:Type)→Nat→Nat→List Bool→SS→(SS→A.Ω β)→A.Ω β
abbrev y8v (A:Alg):=(β:Type)→Nat→Nat→List Bool→Code→SS→(AX→SS→A.Ω β)→A.Ω β
def x2d (A:Alg) (E:Env) (rec:y8v A) (β:Type) (g:FuncId) (args:List AV) (h:List AO) (K:List (List CK)) (k:AV→List AO→List (List CK)→A.Ω β):A.Ω β:=
 match E.B g with
 |some i=>bif Nat.ble args.length i.nt then rec β h.length g [] i.body ⟨⟨v0f 0 args,h,i.nt⟩,K⟩ fun e s=>match e with
  | .exit _=>A.no β 31
  |_=>match v8f E.T s.s i.res with
   |some r=>k r s.s.heap s.K
   |none=>A.no β 32
  else A.no β 33
 |none=>A.no β 34
def w6t (A:Alg) (E:Env) (rec:y8v A) (β:Type) (g:FuncId) (args:List AV) (a:SS) (k:AV→SS→A.Ω β):A.Ω β:=
 x2d A E rec β g args a.s.heap a.K fun r h K=>bif E.fz g then k (z3j h (fun id=>Nat.blt id a.s.heap.length) r) (x9m a (y1m h a.s.heap.length) a.K) else k r (x9m a h K)
def v1b (A:Alg) (E:Env) (rec:y8v A) (β:Type) (g:FuncId) (args:List AV) (a:SS) (T:List Nat) (k:AV→SS→A.Ω β):A.Ω β:=
 bif okM a.s.heap T args then x2d A E rec β g (x6m (idx T) args) (x1r a.s.heap T T) [] fun r h _=>bif E.fz g then
   k (z8g (z3a (z6i T) a.s.heap.length) (z3j h (fun id=>Nat.blt id T.length) r)) (x9m a (z2c (z3a (z6i T) a.s.heap.length) a.s.heap 0 (y1m h T.length)) a.K)
  else k (z8g (z3a (z6i T) a.s.heap.length) r) (x9m a (z2c (z3a (z6i T) a.s.heap.length) a.s.heap 0 h) a.K)
 else w6t A E rec β g args a k
def x2e (A:Alg) (E:Env) (O:Orc A) (rec:y8v A) (β:Type) (c:Nat) (pos:List Bool) (b n:Nat) (g:FuncId) (args:List AV) (a:SS) (k:AV→SS→A.Ω β):A.Ω β:=
 match O.call β c pos b n g args a with
 |some t=>t k
 |none=>bif E.cl then v1b A E rec β g args a (v4z a.s.heap 2000 0 (u2u [] (w82 args))) k
  else w6t A E rec β g args a k
def v2z (new:Nat):List (Nat×AO)→Bool
 |[]=>false
 |(i,_)::l=>Nat.beq i new||v2z new l
def updK (E:Env) (K:List (List CK)) (new:Nat) (u:List (Nat×AO)) (op:Op):List (List CK):=
 match newK E op with
 |some a=>bif v2z new u then u4i K new a else K
 |none=>K
def x3e (A:Alg) (β:Type) (p:Prim) (a:IntKind) (i:Int) (d:Nat) (s:AS) (k:AS→A.Ω β):Nat→Nat→A.Ω β
 |0,_=>A.no β 42
 |1,j=>A.need β (p.cmp .eql i (Int.ofNat j)) (k (y57 s d (.d (.int a (Int.ofNat j)))))
 |m+2,j=>A.ask β (p.cmp .eql i (Int.ofNat j)) (k (y57 s d (.d (.int a (Int.ofNat j))))) (x3e A β p a i d s k (m+1) (j+1))
def t19 (E:Env):Op→Option (Nat×Nat)
 | .indexAddr t _ (.tmp d)=>match E.T t with
  |some ti=>match ti.desc with
   | .arr n _ _=>bif Nat.ble n 16 then some (d,n) else none
   |_=>none
  |none=>none
 | .index t _ (.tmp d)=>match E.T t with
  |some ti=>match ti.desc with
   | .arr n _ _=>bif Nat.ble n 16 then some (d,n) else none
   |_=>none
  |none=>none
 |_=>none
def u5i (s:AS):Op→Bool
 | .indexAddr _ x _=>match z0p s.env x with
  | .bptr id _=>match z0f s.heap id with
   | .row _=>true
   |_=>false
  | .wptr _ _=>true
  |_=>false
 |_=>false
def ixK (A:Alg) (β:Type) (p:Prim) (E:Env) (s:AS) (op:Op) (k:AS→A.Ω β):A.Ω β:=
 match bif u5i s op then none else t19 E op with
 |some (d,n)=>match z00 s.env d with
  | .d (.int a i)=>x3e A β p a i d s k n 0
  |_=>A.no β 43
 |none=>k s
def u7s (E:Env):List Oper→Bool
 |[]=>false
 |o::l=>match t19 E o.op with
  |some _=>true
  |none=>u7s E l
def v6b (a:Nat):List Oper→Bool
 |[]=>false
 |o::l=>match o.op,o.dst with
  | .indexAddr _ _ _,some d=>Nat.beq d a||v6b a l
  |_,_=>v6b a l
def y45 (d:Nat) (all:List Oper):List Oper→Bool
 |[]=>false
 |o::l=>match o.op with
  | .store _ (.tmp a) (.tmp x)=>(Nat.beq x d&&v6b a all)||y45 d all l
  |_=>y45 d all l
def v58 (d:Nat):List Operand→Bool
 |[]=>false
 | .tmp x::l=>Nat.beq x d||v58 d l
 |_::l=>v58 d l
def x9n (a:FuncId→Bool) (d:Nat):List Oper→Bool
 |[]=>false
 |o::l=>match o.op with
  | .call ⟨.value (.func g),args,_⟩=>(a g&&v58 d args.toList)||x9n a d l
  |_=>x9n a d l
def w5g (d:Nat):List (Nat×Operand)→Bool
 |[]=>false
 |(_, .tmp x)::l=>Nat.beq x d||w5g d l
 |_::l=>w5g d l
def y9i (rec:Nat→Bool) (d:Nat):List Oper→Bool
 |[]=>false
 |o::l=>match o.op,o.dst with
  | .buildSlice _ _ a,some d2=>(w5g d a.toList&&rec d2)||y9i rec d l
  |_,_=>y9i rec d l
def x1x (a:FuncId→Bool) (all:List Oper):Nat→Nat→Bool
 |0,d=>x9n a d all
 |f+1,d=>x9n a d all||y9i (x1x a all f) d all
def v0r (a:FuncId→Bool) (all:List Oper) (o:Oper):Bool:=
 match o.op,o.dst with
 | .buildSlice _ (_+1) _,some d=>x1x a all 2 d||(a 1000000&&y9i (fun _=>true) d all)
 | .call ⟨.builtin .append,_,_⟩,some d=>y45 d all all||(!(a 1000003)&&x1x a all 2 d)
 | .buildSlice _ 0 _,some d=>y45 d all all||x1x a all 2 d||(a 1000000&&y9i (fun _=>true) d all)
 |_,_=>false
def v6a (x:Nat):List Oper→Bool
 |[]=>false
 |o::l=>match o.op,o.dst with
  | .buildSlice _ _ _,some d=>Nat.beq d x||v6a x l
  |_,_=>v6a x l
def v29 (all:List Oper):List Operand→Bool
 | .tmp x::_=>v6a x all
 |_=>false
def w95 (a:Bool) (all:List Oper) (o:Oper):List D:=
 match o.op,o.dst with
 | .call ⟨.builtin .append,args,_⟩,some d=>bif a then (bif y9i (fun _=>true) d all then [.nilp, .nilp] else bif v29 all args.toList then [.nilp, .nilp, .nilp] else []) else []
 |_,_=>[]
def orR:List D→List D→List D
 |[],r=>r
 |x::l,_=>x::l
def w7p (all:List Oper) (x:Nat):List Oper→Bool
 |[]=>false
 |o::l=>match o.op,o.dst with
  | .call ⟨.builtin .append,args,_⟩,some d=>Nat.beq d x&&v29 all args.toList||w7p all x l
  |_,_=>w7p all x l
def v84 (all:List Oper):List Operand→Bool
 | .tmp x::_=>w7p all x all
 |_=>false
def y90 (b a:Bool) (all:List Oper) (o:Oper):List D:=
 match o.op with
 | .call ⟨.builtin .append,args,_⟩=>bif b&&v84 all args.toList then [.nilp, .nilp, .nilp, .nilp, .nilp] else w95 a all o
 |_=>w95 a all o
def u5g (p:Prim) (env:List (Nat×AV)) (op:Op):Bool:=
 match op with
 | .call ⟨.builtin .append,args,_⟩=>match z06 env args.toList with
  |[_,x]=>p.leN (z7b p x) 0
  |_=>false
 |_=>false
def w6v (A:Alg) (β:Type) (p:Prim) (f:Bool) (e:List D) (E:Env) (new:Nat) (b:SS) (o:Oper) (k:SS→A.Ω β) (s:AS):A.Ω β:=
 v6x A β p f E b.K s.env s.heap o.op fun q r d=>match z01 p E.T E.G s.env s.heap new q (orR e r) d o.op with
  |some a=>A.need β a.c (k ⟨z5l s o.dst a.v a.u,updK E b.K new a.u o.op⟩)
  |none=>A.no β 41
def y9e (A:Alg) (β:Type) (p:Prim) (c:Bool) (b:List D) (E:Env) (new:Nat) (a:SS) (o:Oper) (k:SS→A.Ω β):A.Ω β:=
 ixK A β p E a.s o.op fun s=>bif u0g b then A.ask β (u5g p s.env o.op) (w6v A β p c b E new a o k s) (w6v A β p c [] E new a o k s)
  else w6v A β p c b E new a o k s
def opK (A:Alg) (p:Prim) (E:Env) (O:Orc A) (rec:y8v A) (β:Type) (n u:Nat) (pos:List Bool) (t:Nat) (all:List Oper) (a:SS) (o:Oper) (k:SS→A.Ω β):A.Ω β:=
 bif z5g a.s.nt o.dst then
  x9o A β all a.s o.guard fun b s=>match b with
  |false=>k ⟨z5l s o.dst (.tuple []) [],a.K⟩
  |true=>match o.op with
   | .call ⟨.value f,args,_⟩=>match z0p s.env f with
    | .clo (.func g) first c=>x2e A E O rec β u pos t n g (first++z06 s.env args.toList++c) ⟨s,a.K⟩ fun r s1=>k (putR s1 o.dst r)
    | .yld id=>match z0f s.heap id with
     | .loop .ready w g pos i env=>match E.A g pos with
      |some (.rangeFunc _ h l e)=>bif (h.toList.all fun q=>Nat.blt q i)&&Nat.beq args.size h.size then
        rec β s.heap.length g (false::pos) l ⟨⟨x3h env h.toList (z06 s.env args.toList),z03 s.heap id .dead,i⟩,a.K⟩ fun v s1=>match v with
        | .normal=>rec β s.heap.length g (true::pos) e s1 fun j m=>k ⟨⟨y4f s.env o.dst (.d (.bool (isN j))),z03 m.s.heap id (.loop (y8f j) (z3y j) g pos i env),s.nt⟩,m.K⟩
        |_=>A.no β 51
       else A.no β 52
      |_=>A.no β 53
     |_=>A.no β 54
    |_=>A.no β 55
   |_=>y9e A β p (v0r E.dt all o) (y90 (!(E.dt 1000004)) E.tk all o) E s.heap.length ⟨s,a.K⟩ o k
 else A.no β 56
def v2w (A:Alg) (p:Prim) (E:Env) (O:Orc A) (rec:y8v A) (β:Type) (n a:Nat) (pos:List Bool) (all:List Oper):Nat→List Oper→SS→(SS→A.Ω β)→A.Ω β
 |_,[],s,k=>k s
 |i,o::l,s,k=>opK A p E O rec β n a pos i all s o fun s'=>v2w A p E O rec β n a pos all (i+1) l s' k
def w73 (l:List AV) (id:Nat):Bool:=y3s id (y44 l)
def okR (h:List AO) (l:List AV):Bool:=w9y (w73 l) l&&(y44 l).all (fun id=>Nat.blt id h.length&&w2f (z0f h id))
def w4u (ops:List Oper) (base i:Nat) (l:List Nat):Bool:=l.all fun id=>Nat.blt id base||(Nat.blt (id - base) i&&(z7k (y1i ops []) i).testBit (id - base))
def u5x (A:Alg) (p:Prim) (E:Env) (O:Orc A) (rec:y8v A) (β:Type) (d:Nat) (pos:List Bool) (all:List Oper) (base i:Nat) (c:SS) (o:Oper) (k:SS→A.Ω β):A.Ω β:=
 bif z5g c.s.nt o.dst then
  x9o A β all c.s o.guard fun b s=>match b with
  |false=>k ⟨z5l s o.dst (.tuple []) [],c.K⟩
  |true=>bif w4u all base i (z7a s.env o.op) then match o.op with
   | .call ⟨.value f,args,_⟩=>match z0p s.env f with
    | .clo (.func g) first a=>match O.pure β d pos i g (first++z06 s.env args.toList++a) ⟨s,c.K⟩ with
     |some t=>bif y15 (first++a) then t fun x=>k ⟨z5l s o.dst x [],c.K⟩ else A.no β 61
     |none=>bif y15 (first++z06 s.env args.toList++a) then x2d A E rec β g (first++z06 s.env args.toList++a) [] [] fun r h _=>
       bif z9x (z3j h (fun _=>false) r) then k ⟨z5l s o.dst (z3j h (fun _=>false) r) [],c.K⟩ else A.no β 62
      else A.need β (bL p s.heap (first++z06 s.env args.toList++a)).1 (match O.pure β d pos i g (bL p s.heap (first++z06 s.env args.toList++a)).2 ⟨s,c.K⟩ with
       |some t=>bif y15 (bL p s.heap (first++z06 s.env args.toList++a)).2 then t fun x=>bif y3w x then k ⟨z5l s o.dst x [],c.K⟩ else A.no β 63 else A.no β 67
       |none=>bif E.cl&&okR s.heap (first++z06 s.env args.toList++a) then
         x2d A E rec β g (first++z06 s.env args.toList++a) (z38 s.heap (w73 (first++z06 s.env args.toList++a)) 0 s.heap) c.K fun r h _=>
          bif inT (w73 (first++z06 s.env args.toList++a)) (z3j h (fun id=>Nat.blt id s.heap.length) r)&&eqH (y1m h s.heap.length) (z38 s.heap (w73 (first++z06 s.env args.toList++a)) 0 s.heap) then
           k ⟨z5l s o.dst (z3j h (fun id=>Nat.blt id s.heap.length) r) [],c.K⟩ else A.no β 80
        else x2d A E rec β g (bL p s.heap (first++z06 s.env args.toList++a)).2 [] [] fun r h _=>
        bif y3w (z3j h (fun _=>false) r) then k ⟨z5l s o.dst (z3j h (fun _=>false) r) [],c.K⟩ else A.no β 68)
    |_=>A.no β 64
   |_=>y9e A β p (v0r E.dt all o) (y90 (!(E.dt 1000004)) E.tk all o) E (base+i) ⟨s,c.K⟩ o k
   else A.no β 65
 else A.no β 66
def x6x (A:Alg) (p:Prim) (E:Env) (O:Orc A) (rec:y8v A) (β:Type) (b:Nat) (pos:List Bool) (all:List Oper) (base:Nat):List (List Nat)→Nat→List Oper→SS→(SS→A.Ω β)→A.Ω β
 |_,_,[],s,k=>k s
 |a,i,o::l,s,k=>bif x8p all a i o (z7a s.s.env o.op) then u5x A p E O rec β b pos all base i s o fun s'=>x6x A p E O rec β b pos all base (a++[z7a s.s.env o.op]) (i+1) l s' k else A.no β 69
def x7c:List Oper→Bool
 |[]=>false
 |o::l=>match o.guard with
  |some _=>true
  |none=>x7c l
def u8a (A:Alg) (β:Type) (p:Prim) (E:Env) (x:w3b) (e:SS) (k:SS→A.Ω β):A.Ω β:=
 match z00 e.s.env x.a,z00 e.s.env x.b,z0p e.s.env (.const x.c) with
 | .map id, .d kd, .d (.int g n)=>match z0f e.s.heap id,E.T x.t with
  | .map es,some ti=>match ti.desc,y1g x.bop with
   | .map _ _ ez, .arith=>w2i A β p E x.t e.s.heap (.map id) (.d kd) fun q r _=>match z6z q r ez with
    | .int f o=>bif (f==g)&&(Nat.blt x.dL e.s.nt&&(Nat.blt x.dB e.s.nt&&(Nat.blt x.dM e.s.nt&&(Nat.blt x.dX e.s.nt&&Nat.blt id e.s.heap.length)))) then
      k ⟨w2d x e.s id (.int f o) (.int f (p.ar x.bop f o n)) (u4e p es q r kd (.int f (p.ar x.bop f o n))),e.K⟩ else A.no β 74
    |_=>A.no β 75
   |_,_=>A.no β 76
  |_,_=>A.no β 77
 |_,_,_=>A.no β 78
def sym (A:Alg) (p:Prim) (E:Env) (O:Orc A):Nat→y8v A
 |0,β,_,_,_,_,_,_=>A.no β 71
 |f+1,β,n,g,pos,c,d,k=>match c with
  | .skip=>k .normal d
  | .label _=>k .normal d
  | .exit id=>k (.exit id) d
  | .ret=>k .ret d
  | .seq a b=>sym A p E O f β n g (false::pos) a d fun e s'=>match e with
   | .normal=>sym A p E O f β n g (true::pos) b s' k
   |e=>k e s'
  | .cond c a b=>O.join β n g pos (fun γ k=>v7h A γ d.s c fun x s=>match x with
   |true=>sym A p E O f γ n g (false::pos) a ⟨s,d.K⟩ k
   |false=>sym A p E O f γ n g (true::pos) b ⟨s,d.K⟩ k) k
  | .block id c=>O.join β n g pos (fun γ k=>sym A p E O f γ n g (false::pos) c d fun e s'=>match e with
   | .exit j=>bif Nat.beq j id then k .normal s' else k (.exit j) s'
   |e=>k e s') k
  | .scope c=>sym A p E O f β n g (false::pos) c d k
  | .loop c=>match O.loop β n g pos d with
   |some t=>t k
   |none=>sym A p E O f β n g (false::pos) c d fun e s'=>match e with
    | .normal=>sym A p E O f β n g pos (.loop c) s' k
    |e=>k e s'
  | .region _ ops false=>bif x7c ops.toList||u7s E ops.toList then O.join β n g pos (fun γ k=>O.view γ n g pos d fun d=>v2w A p E O (sym A p E O f) γ n g pos ops.toList 0 ops.toList d fun s'=>k .normal s') k
    else O.view β n g pos d fun d=>v2w A p E O (sym A p E O f) β n g pos ops.toList 0 ops.toList d fun s'=>k .normal s'
  | .region _ ops true=>bif y8k ops.toList&&z71 ops.toList then O.view β n g pos d fun d=>match v6i ops.toList with
    |none=>bif E.tl then x6x A p E O (sym A p E O f) β g pos ops.toList d.s.heap.length [] 0 (ops.toList.take (y77 E.tk E.cl ops.toList)) d fun s1=>
       v2w A p E O (sym A p E O f) β n g pos ops.toList (y77 E.tk E.cl ops.toList) (ops.toList.drop (y77 E.tk E.cl ops.toList)) s1 fun s'=>k .normal s'
      else x6x A p E O (sym A p E O f) β g pos ops.toList d.s.heap.length [] 0 ops.toList d fun s'=>k .normal s'
    |some (pre,x)=>bif y5d ops.toList then x6x A p E O (sym A p E O f) β g pos ops.toList d.s.heap.length [] 0 pre d fun s'=>u8a A β p E x s' fun i=>k .normal i else A.no β 79
   else A.no β 72
  | .rangeFunc o r q body=>match z0p d.s.env o with
   | .clo (.func m) first captured=>x2e A E O (sym A p E O f) β g pos 0 (d.s.heap.length+1) m (first++[.yld d.s.heap.length]++captured) ⟨⟨d.s.env,z03 d.s.heap d.s.heap.length (.loop .ready none g pos d.s.nt d.s.env),d.s.nt⟩,d.K⟩ fun _ h=>
    match z0f h.s.heap d.s.heap.length with
    | .loop st l _ _ _ _=>match st with
     | .busy=>A.no β 73
     |_=>match y0t h.s (z03 h.s.heap d.s.heap.length .dead) l with
      |some (e,s')=>k e ⟨s',h.K⟩
      |none=>A.no β 74
    |_=>A.no β 75
   |_=>A.no β 76
  |_=>A.no β 77
structure EnvOk (P:Program) (E:Env):Prop where
 ti:y1c P E.T
 gl:GOk P E.G
 fn:∀ g i,E.B g=some i→∃ fn,P.funcs[g]?=some fn∧fn.body=some i.body∧fn.ntmps=i.nt∧fn.results.toList=i.res∧z3d P g
 code:∀ g pos c,E.A g pos=some c→z1v P g pos=some c
 mixed:P.follows .mixedOrders=true
theorem y5g {E:Env} {β:Type} {t:TypeId} {h:List AO} {m k:AV} {c:Bool→List D→List AV→Option β} {b:β} (a:w2i opt β std E t h m k c=some b):∃ q r ra,(y2g std E.T t h m k).ok q r ra∧c q r ra=some b:=by
 unfold w2i at a
 unfold y2g
 split at a
 ·rename_i ti w
  simp only [w]
  split at a
  ·rename_i ks ka ez kd n
   split at a
   ·obtain ⟨f,a⟩:=z6a a
    refine ⟨false,[],[], .inl ⟨?_,rfl⟩,a⟩
    simp only [z3t,n,f,cond_true]
   ·rename_i id
    split at a
    ·rename_i es z
     obtain ⟨f,a⟩:=z6a a
     simp only [std,eAc] at f
     obtain ⟨⟨C,B⟩,f⟩:=f
     have u:z3t std ti h (.map id) (.d kd)=y7e ks ka kd es 0:=by
      simp only [z3t,n,z,C,B,eDy,cond_true,w99]
     rcases z9o a with ⟨p,a⟩|⟨p,a⟩
     ·refine ⟨_,_,_, .inr ?_,a⟩
      simp only [std,w3e] at p
      cases o:y7e ks ka kd es 0 with
      |none=>rw [o] at p; simp at p
      |some r=>
       cases r with
       |none=>rw [o] at p; simp at p
       |some q=>
        obtain ⟨i,v⟩:=q
        rw [o] at f
        simp only [eAc,beq_iff_eq] at f
        obtain ⟨I,f⟩:=f
        have s:w3e es ks ka kd=some (i,v):=by simp [w3e,o]
        refine ⟨i,v,mkV (E.CM t).1 (w41 std es ks ka kd 0 (E.CM t).2),by rw [u,o],?_,rfl,?_⟩
        ·obtain ⟨P,O⟩:=y2a _ _ f
         obtain ⟨M,L⟩:=x88 std es ks ka kd (E.CM t).2 0
         have g:y7t (z0v v) (w41 std es ks ka kd 0 (E.CM t).2):=by
          refine ⟨by rw [M,P],fun j y N=>?_⟩
          obtain ⟨c,G,rfl⟩:=L j y N
          obtain ⟨d,H,F⟩:=O j c G
          refine ⟨d,H,w2r F ?_⟩
          rw [eAq]
          have e:y4z es ks ka kd j=d:=by simp [y4z,s,H]
          cases c<;>simp only [u6u,v9d,std,e]
         cases v with
         |agg l=>
          have:(E.CM t).1=true:=by rw [←I]; rfl
          rw [this]
          exact .inr ⟨l,_,rfl,rfl,g⟩
         |_=>
          have:(E.CM t).1=false:=by rw [←I]; rfl
          rw [this]
          simp only [z0v] at g
          obtain ⟨K,J⟩:=g
          match hm:w41 std es ks ka kd 0 (E.CM t).2,K with
          |[y],_=>
           obtain ⟨x,a,A⟩:=J 0 y (by rw [hm]; rfl)
           simp at a; subst a
           exact .inl A
        ·simp [std,s]
     ·refine ⟨_,_,_, .inl ?_,a⟩
      simp only [std,w3e] at p
      cases o:y7e ks ka kd es 0 with
      |none=>rw [o] at f; simp at f
      |some r=>
       cases r with
       |none=>exact ⟨by rw [u,o],rfl⟩
       |some q=>rw [o] at p; simp at p
    ·cases a
   ·cases a
  ·cases a
 ·cases a
theorem x9u {β:Type} {p:List CK} {es:List (List D)} {i:Nat} {b:β}:∀ (n j:Nat) (c:List D→Option β),v0b opt β std p es i c n j=some b→∃ r,y4c es (i+j) r∧c r=some b
 |0,j,c,h=>⟨[],fun k x d=>by simp at d,h⟩
 |n+1,j,c,h=>by
  have e:(bif Nat.beq j 0 then i else std.add i j)=i+j:=by
   cases l:Nat.beq j 0 with
   |true=>have:=eAd l; subst this; rfl
   |false=>rfl
  simp only [v0b,e] at h
  split at h
  ·rename_i x d
   obtain ⟨g,h⟩:=z6a h
   have f:=x8g g
   rw [d] at f
   obtain ⟨r,o,m⟩:=x9u n (j+1) _ h
   refine ⟨x::r,fun k y a=>?_,m⟩
   cases k with
   |zero=>simp at a; subst a; exact f
   |succ k=>rw [show i+j+(k+1)=i+(j+1)+k by omega]; exact o k y (by simpa using a)
  ·cases h
theorem x5j {es:List (List D)}:∀ {n i:Nat} {r:List D},w0c es i n=some r→y4c es i r
 |0,i,r,h=>by cases h; intro j x a; simp at a
 |n+1,i,r,h=>by
  simp only [w0c] at h
  split at h
  ·rename_i x l b c
   cases h
   intro j y a
   cases j with
   |zero=>
    simp at a; subst a
    rw [z1s] at b
    exact ⟨_,b, .refl _⟩
   |succ j=>
    have:=x5j c j y (by simpa using a)
    rw [show i+(j+1)=i+1+j by omega]; exact this
  ·cases h
theorem v0a {β:Type} {i:Bool} {j:List CK} {w:w28} {c:Bool→List D→List AV→Option β} {b:β} (a:v6w opt β std i j w c=some b):∃ q r ra,w.ok q r ra∧c q r ra=some b:=by
 unfold v6w at a
 split at a
 ·exact ⟨_,_,_,trivial,a⟩
 ·split at a
  ·obtain ⟨f,a⟩:=z6a a
   exact ⟨_,_,_,x8g f,a⟩
  ·split at a
   ·rename_i r d
    rw [z1s] at d
    exact ⟨_,_,_,⟨r,d, .refl _⟩,a⟩
   ·cases a
 ·split at a
  ·obtain ⟨r,h,g⟩:=x9u _ _ _ a
   exact ⟨_,_,_,h,g⟩
  ·split at a
   ·rename_i r d
    exact ⟨_,_,_,x5j d,a⟩
   ·cases a
 ·split at a
  ·rename_i r d
   rw [z1s] at d
   exact ⟨_,_,_,d,a⟩
  ·cases a
 ·rcases z9o a with ⟨e,a⟩|⟨e,a⟩
  ·exact ⟨_,_,_,e,a⟩
  ·exact ⟨_,_,_,e,a⟩
 ·cases a
theorem v0c {f:Bool} {E:Env} {β:Type} {K:List (List CK)} {env:List (Nat×AV)} {h:List AO} {op:Op} {c:Bool→List D→List AV→Option β} {b:β} (a:v6x opt β std f E K env h op c=some b):∃ q r ra,(z1q std E.T env h op).ok q r ra∧c q r ra=some b:=by
 unfold v6x at a
 split at a
 ·exact y5g a
 ·exact y5g a
 ·split at a
  ·rename_i t _ m k e d
   simp only [z1q,e,d]
   exact y5g a
  ·cases a
 ·exact v0a a
theorem w4d:∀ (env:List (Nat×AV)) (d:Nat) (v:AV),z00 env d=v→v≠ .bot→v9g env d v=env:=by
 intro env
 induction env with
 |nil=>intro d v h a; simp [z00] at h; exact absurd h.symm a
 |cons x env c=>
  intro d v h a
  obtain ⟨k,w⟩:=x
  simp only [z00] at h
  simp only [v9g]
  cases b:Nat.beq k d with
  |true=>rw [b] at h; simp at h; subst h; rfl
  |false=>rw [b] at h; simp at h; simp [c d v h a]
theorem z6x {s:AS} {d:Nat} {v:AV} (h:z00 s.env d=v) (a:v≠ .bot):y57 s d v=s:=by
 show (⟨v9g s.env d v,s.heap,s.nt⟩:AS)=s
 rw [w4d _ _ _ h a]
theorem x4j {β:Type} {all:List Oper} {s:AS} {g:Option (Nat×Bool)} {k:Bool→AS→Option β} {b:β} (h:x9o opt β all s g k=some b):∃ x,z6j all s.env g=some x∧k x s=some b:=by
 unfold x9o at h
 split at h
 ·exact ⟨true,rfl,h⟩
 ·rename_i j c
  simp only [z6j]
  cases f:z19 all j with
  |none=>rw [f] at h; cases h
  |some o=>
   rw [f] at h
   simp only at h⊢
   cases i:o.dst with
   |none=>rw [i] at h; cases h
   |some d=>
    rw [i] at h
    simp only at h⊢
    cases a:z00 s.env d with
    |d y=>
     rw [a] at h
     cases y with
     |bool t=>
      rcases z9o h with ⟨e,h⟩|⟨e,h⟩
      ·subst e; rw [z6x a (by simp)] at h; exact ⟨_,rfl,h⟩
      ·subst e; rw [z6x a (by simp)] at h; exact ⟨_,rfl,h⟩
     |_=>cases h
    |tuple l=>
     rw [a] at h
     cases l with
     |nil=>exact ⟨_,rfl,h⟩
     |cons _ _=>cases h
    |_=>rw [a] at h; cases h
theorem x3d {β:Type} {c:IntKind} {i:Int} {d:Nat} {s:AS} {k:AS→Option β} {b:β} (he:z00 s.env d= .d (.int c i)):∀ {n j:Nat},x3e opt β std c i d s k n j=some b→k s=some b
 |0,_,h=>by cases h
 |1,j,h=>by
  simp only [x3e] at h
  obtain ⟨a,h⟩:=z6a h
  have:i=Int.ofNat j:=by simpa [std,z3r] using a
  rw [←this,z6x he (by simp)] at h; exact h
 |m+2,j,h=>by
  simp only [x3e] at h
  rcases z9o h with ⟨a,h⟩|⟨_,h⟩
  ·have:i=Int.ofNat j:=by simpa [std,z3r] using a
   rw [←this,z6x he (by simp)] at h; exact h
  ·exact x3d he h
theorem v92 {β:Type} {E:Env} {s:AS} {op:Op} {k:AS→Option β} {b:β} (h:ixK opt β std E s op k=some b):k s=some b:=by
 unfold ixK at h
 split at h
 ·split at h
  ·rename_i a i he
   exact x3d he h
  ·cases h
 ·exact h
theorem v04 {β:Type} {s:AS} {c:Operand} {k:Bool→AS→Option β} {b:β} (h:v7h opt β s c k=some b):∃ x,z0p s.env c= .d (.bool x)∧k x s=some b:=by
 unfold v7h at h
 split at h
 ·rename_i d
  split at h
  ·rename_i t a
   rcases z9o h with ⟨e,h⟩|⟨e,h⟩<;>subst e<;>rw [z6x a (by simp)] at h<;>exact ⟨_,a,h⟩
  ·cases h
 ·split at h
  ·rename_i t a
   rcases z9o h with ⟨e,h⟩|⟨e,h⟩<;>subst e<;>exact ⟨_,a,h⟩
  ·cases h
section
variable {P:Program} {E:Env} {O:Orc opt}
def y8w (P:Program) (rec:y8v opt):Prop:=∀ β n g pos c d k (b:β),z1v P g pos=some c→n≤d.s.heap.length→rec β n g pos c d k=some b→∃ e a,n≤a.s.heap.length∧z54 P n c d.s (fun h f=>h=e∧f=a.s)∧k e a=some b
structure y39 (P:Program) (O:Orc opt):Prop where
 call:∀ β g0 pos ix n g args ss t k (b:β),O.call β g0 pos ix n g args ss=some t→t k=some b→n≤ss.s.heap.length→∃ r ss',n≤ss'.s.heap.length∧z3d P g∧z5k P n g args ss.s r ss'.s∧k r ss'=some b
 pure:∀ β g0 pos ix g args ss t k (b:β),O.pure β g0 pos ix g args ss=some t→t k=some b→∃ r,z3d P g∧(∀ h,(∀ x∈args,∀ id∈tid x,z0f h id=z0f ss.s.heap id)→z3m P g args h r h)∧k r=some b
 loop:∀ β n g pos c ss t k (b:β),z1v P g pos=some (.loop c)→n≤ss.s.heap.length→O.loop β n g pos ss=some t→t k=some b→∃ e ss',n≤ss'.s.heap.length∧z54 P n (.loop c) ss.s (fun e' s2=>e'=e∧s2=ss'.s)∧k e ss'=some b
 join:∀ β n g pos body k (b:β) (G:AX→SS→Prop),(∀ γ k (b:γ),body γ k=some b→∃ e ss',G e ss'∧k e ss'=some b)→O.join β n g pos body k=some b→∃ e ss1 ss',G e ss1∧z5z n ss1.s ss'.s∧(n≤ss1.s.heap.length→n≤ss'.s.heap.length)∧k e ss'=some b
 view:∀ β n g pos ss k (b:β),n≤ss.s.heap.length→O.view β n g pos ss k=some b→∃ ss',z5z n ss.s ss'.s∧n≤ss'.s.heap.length∧k ss'=some b
theorem z9n (p:EnvOk P E) {rec:y8v opt} (hr:y8w P rec) {β:Type} {g:FuncId} {args:List AV} {h:List AO} {K:List (List CK)} {k:AV→List AO→List (List CK)→Option β} {b:β} (c:x2d opt E rec β g args h K k=some b):
  ∃ r h' B,z3m P g args h r h'∧h.length≤h'.length∧z3d P g∧k r h' B=some b:=by
 unfold x2d at c
 split at c
 ·rename_i i y
  cases m:Nat.ble args.length i.nt with
  |false=>rw [m] at c; cases c
  |true=>
  rw [m] at c
  have l:=eAh m
  obtain ⟨fn,u,t,A,z,q⟩:=p.fn g i y
  have d:z1v P g []=some i.body:=by simp [z1v,v3t,u,t]
  obtain ⟨e,n,o,w,c⟩:=hr β h.length _ _ _ ⟨⟨v0f 0 args,h,i.nt⟩,K⟩ _ _ d (eAj _) c
  have f:∀ r,(e= .normal∨e= .ret)→v8f E.T n.s i.res=some r→z3m P g args h r n.s.heap:=by
   intro r he a
   refine y0s p.ti u t A l (w.mono fun F C x=>?_)
   obtain ⟨rfl,rfl⟩:=x
   exact ⟨he,by rw [z]; exact a,rfl⟩
  cases e with
  |exit j=>cases c
  |normal=>
   simp only at c
   split at c
   ·rename_i v a
    exact ⟨_,_,_,f _ (.inl rfl) a,o,q,c⟩
   ·cases c
  |ret=>
   simp only at c
   split at c
   ·rename_i v a
    exact ⟨_,_,_,f _ (.inr rfl) a,o,q,c⟩
   ·cases c
 ·cases c
theorem w0h (m:EnvOk P E) {rec:y8v opt} (hr:y8w P rec) {β:Type} {n:Nat} {g:FuncId} {args:List AV} {a:SS} {k:AV→SS→Option β} {b:β} (f:n≤a.s.heap.length) (e:w6t opt E rec β g args a k=some b):
  ∃ r d,n≤d.s.heap.length∧z3d P g∧z5k P n g args a.s r d.s∧k r d=some b:=by
 unfold w6t at e
 obtain ⟨r,h',l,j,o,i,e⟩:=z9n m hr e
 have c:(bif E.fz g then k (z3j h' (fun id=>Nat.blt id a.s.heap.length) r) ⟨⟨a.s.env,y1m h' a.s.heap.length,a.s.nt⟩,a.K⟩ else k r ⟨⟨a.s.env,h',a.s.nt⟩,l⟩)=some b:=e
 cases h:E.fz g with
 |false=>
  rw [h] at c
  exact ⟨r,⟨⟨a.s.env,h',a.s.nt⟩,l⟩,eBk f o,i, .of_aret f j,c⟩
 |true=>
  rw [h] at c
  exact ⟨_,⟨⟨a.s.env,y1m h' a.s.heap.length,a.s.nt⟩,a.K⟩,by simp only [y1m,z55,eBo]; omega,i, .of_aret f j.view,c⟩
theorem v1a (j:EnvOk P E) {rec:y8v opt} (hr:y8w P rec) {β:Type} {n:Nat} {g:FuncId} {args:List AV} {a:SS} {T:List Nat} {k:AV→SS→Option β} {b:β} (h:n≤a.s.heap.length) (e:v1b opt E rec β g args a T k=some b):
  ∃ r f,n≤f.s.heap.length∧z3d P g∧z5k P n g args a.s r f.s∧k r f=some b:=by
 unfold v1b at e
 cases c:okM a.s.heap T args with
 |false=>rw [c] at e; exact w0h j hr h e
 |true=>
  rw [c] at e
  simp only [cond_true] at e
  obtain ⟨r,h',q,p,o,m,e⟩:=z9n j hr e
  have d:(bif E.fz g then
   k (z8g (z3a (z6i T) a.s.heap.length) (z3j h' (fun id=>Nat.blt id T.length) r)) ⟨⟨a.s.env,z2c (z3a (z6i T) a.s.heap.length) a.s.heap 0 (y1m h' T.length),a.s.nt⟩,a.K⟩
  else k (z8g (z3a (z6i T) a.s.heap.length) r) ⟨⟨a.s.env,z2c (z3a (z6i T) a.s.heap.length) a.s.heap 0 h',a.s.nt⟩,a.K⟩)=some b:=e
  cases l:E.fz g with
  |false=>
   rw [l] at d
   exact ⟨_,_,eBk h (z74 _ _ _ _).1,m,x35 h c o p,d⟩
  |true=>
   rw [l] at d
   have i:=p.view
   rw [y2p] at i o
   exact ⟨_,_,eBk h (z74 _ _ _ _).1,m,x35 h c (by rw [y2p]; simp only [y1m,z55,eBo]; omega) i,d⟩
theorem x0f (j:EnvOk P E) (hO:y39 P O) {rec:y8v opt} (hr:y8w P rec) {β:Type} {m:Nat} {pos:List Bool} {l n:Nat} {g:FuncId} {args:List AV} {d:SS} {k:AV→SS→Option β} {b:β} (i:n≤d.s.heap.length) (f:x2e opt E O rec β m pos l n g args d k=some b):
  ∃ r c,n≤c.s.heap.length∧z3d P g∧z5k P n g args d.s r c.s∧k r c=some b:=by
 unfold x2e at f
 split at f
 ·rename_i t h
  exact hO.call _ _ _ _ _ _ _ _ _ _ _ h f i
 ·have a:(bif E.cl then v1b opt E rec β g args d (v4z d.s.heap 2000 0 (u2u [] (w82 args))) k else w6t opt E rec β g args d k)=some b:=f
  cases e:E.cl with
  |false=>rw [e] at a; exact w0h j hr i a
  |true=>rw [e] at a; exact v1a j hr i a
theorem w8a {T:TypeId→Option TI} {env:List (Nat×AV)} {h:List AO} {args:Array Operand} {ts:Array TypeId} {q:Bool} {r r':List D} {ra:List AV} (a:(z1q std T env h (.call ⟨.builtin .append,args,ts⟩)).ok q r ra):(z1q std T env h (.call ⟨.builtin .append,args,ts⟩)).ok q r' ra:=by
 simp only [z1q] at a⊢
 split
 ·rename_i s x he
  rw [he] at a
  simp only at a
  cases c:z3n std s x with
  |none=>trivial
  |some b=>rw [c] at a; exact a
 ·trivial
theorem w5q {a:Bool} {all:List Oper} {o:Oper} (h:w95 a all o≠[]):∃ args ts,o.op= .call ⟨.builtin .append,args,ts⟩:=by
 unfold w95 at h
 split at h
 ·rename_i args ts d b _
  exact ⟨args,ts,b⟩
 ·exact absurd rfl h
theorem y9z {c a:Bool} {all:List Oper} {o:Oper} (h:y90 c a all o≠[]):∃ args ts,o.op= .call ⟨.builtin .append,args,ts⟩:=by
 unfold y90 at h
 split at h
 ·rename_i args ts b
  exact ⟨args,ts,b⟩
 ·exact w5q h
theorem x2g {β:Type} {t:Bool} {g:List D} {new:Nat} {d:SS} {o:Oper} {k:SS→Option β} {b:β} (m:g≠[]→∃ args ts,o.op= .call ⟨.builtin .append,args,ts⟩) (h:w6v opt β std t g E new d o k d.s=some b):∃ q r ra res e,(z1q std E.T d.s.env d.s.heap o.op).ok q r ra∧z01 std E.T E.G d.s.env d.s.heap new q r ra o.op=some res∧res.c=true∧e.s=z5l d.s o.dst res.v res.u∧k e=some b:=by
 unfold w6v at h
 obtain ⟨q,r,ra,j,h⟩:=v0c h
 have i:(z1q std E.T d.s.env d.s.heap o.op).ok q (orR g r) ra:=by
  cases g with
  |nil=>exact j
  |cons a l=>
   obtain ⟨args,ts,n⟩:=m (by simp)
   rw [n] at j⊢
   exact w8a j
 split at h
 ·rename_i res f
  obtain ⟨p,h⟩:=z6a h
  exact ⟨q,_,ra,res,_,i,f,p,rfl,h⟩
 ·cases h
theorem x3v {β:Type} {j:Bool} {g:List D} {new:Nat} {a:SS} {o:Oper} {k:SS→Option β} {b:β} (f:g≠[]→∃ args ts,o.op= .call ⟨.builtin .append,args,ts⟩) (h:y9e opt β std j g E new a o k=some b):∃ q r ra res d,(z1q std E.T a.s.env a.s.heap o.op).ok q r ra∧z01 std E.T E.G a.s.env a.s.heap new q r ra o.op=some res∧res.c=true∧d.s=z5l a.s o.dst res.v res.u∧k d=some b:=by
 unfold y9e at h
 replace h:=v92 h
 cases i:u0g g with
 |false=>rw [i] at h; exact x2g f h
 |true=>
  rw [i] at h
  rcases z9o h with ⟨_,h⟩|⟨_,h⟩
  ·exact x2g f h
  ·exact x2g (fun e=>absurd rfl e) h
theorem y4a.mono {n:Nat} {ops:Array Oper} {l:List Nat} {s:AS} {Q c:AS→Prop} (h:y4a P n ops l s Q) (f:∀ s,Q s→c s):y4a P n ops l s c:=
 ⟨fun b k cs ρ tm ds w B i g=>let ⟨e,ρ',a,d,q,r⟩:=h.run b k cs ρ tm ds w B i g; ⟨e,ρ',a,d,f _ q,r⟩⟩
theorem v9i (G:EnvOk P E) (hO:y39 P O) {rec:y8v opt} (hr:y8w P rec) {β:Type} {n:Nat} {ops:Array Oper} {i:Nat} {rest:List Nat} {g0:Nat} {pos:List Bool} {Y:Nat} {m:SS} {o:Oper} {k:SS→Option β} {b:β} (H:ops[i]?=some o) (v:n≤m.s.heap.length)
  (a:opK opt std E O rec β n g0 pos Y ops.toList m o k=some b):∃ l,n≤l.s.heap.length∧(∀ Q,y4a P n ops rest l.s Q→y4a P n ops (i::rest) m.s Q)∧k l=some b:=by
 unfold opK at a
 cases w:z5g m.s.nt o.dst with
 |false=>rw [w] at a; cases a
 |true=>
 rw [w] at a
 simp only [cond_true] at a
 obtain ⟨x,hg,a⟩:=x4j a
 cases x with
 |false=>exact ⟨⟨z5l m.s o.dst (.tuple []) [],m.K⟩,v,fun Q h=>w4k H hg w h,a⟩
 |true=>
  have plain:y9e opt β std (v0r E.dt ops.toList o) (y90 (!(E.dt 1000004)) E.tk ops.toList o) E m.s.heap.length ⟨m.s,m.K⟩ o k=some b→∃ l,n≤l.s.heap.length∧(∀ Q,y4a P n ops rest l.s Q→y4a P n ops (i::rest) m.s Q)∧k l=some b:=by
   intro hp
   obtain ⟨q,r,ra,J,l,Z,M,hc,he,hk⟩:=x3v y9z hp
   have R:n≤l.s.heap.length:=by rw [he]; exact eBk v (z5e J.u m.s.heap).1
   refine ⟨l,R,fun Q h=>x3y G.ti G.gl H hg v Z M hc w ?_,hk⟩
   rw [he] at h; exact h
  simp only at a
  split at a
  ·rename_i f args ts A
   split at a
   ·rename_i g first y S
    obtain ⟨r,s1,c1,c2,c3,a⟩:=x0f G hO hr v a
    exact ⟨⟨⟨y4f s1.s.env o.dst r,s1.s.heap,s1.s.nt⟩,s1.K⟩,c1,fun Q h=>w1q H hg A S c2 c3 w h,a⟩
   ·rename_i id S
    split at a
    ·rename_i pd g p L env N
     split at a
     ·rename_i x0 W V F c
      have c:=G.code _ _ _ c
      cases B:(W.toList.all fun q=>Nat.blt q L)&&Nat.beq args.size W.size with
      |false=>rw [B] at a; cases a
      |true=>
      rw [B] at a
      simp only [eAc] at B
      have U:z1v P g (false::p)=some V:=by simp [z1v,c,v8y]
      have T:z1v P g (true::p)=some F:=by simp [z1v,c,v8y]
      have t:∀ (id:Nat),m.s.heap.length≤(z03 m.s.heap id .dead).length:=fun id=>(z1w m.s.heap id .dead).1
      obtain ⟨e1,s1,a1,a2,a⟩:=hr _ _ _ _ _ _ _ _ U (t id) a
      cases e1 with
      |exit j=>cases a
      |ret=>cases a
      |normal=>
       simp only at a
       obtain ⟨C,I,X,b2,a⟩:=hr _ _ _ _ _ _ _ _ T a1 a
       have R:n≤(z03 I.s.heap id (.loop (y8f C) (z3y C) g p L env)).length:=eBk v (eBk X (z1w _ _ _).1)
       refine ⟨⟨⟨y4f m.s.env o.dst (.d (.bool (isN C))),z03 I.s.heap id (.loop (y8f C) (z3y C) g p L env),m.s.nt⟩,I.K⟩,R,fun Q h=>w1p H hg v A S N c (fun q z=>eAh (eAx.1 B.1 q z)) (eAd B.2) w (a2.mono fun e s z=>?_),a⟩
       obtain ⟨rfl,rfl⟩:=z
       refine ⟨rfl,b2.mono fun e s z=>?_⟩
       obtain ⟨rfl,rfl⟩:=z
       exact ⟨X,h⟩
     ·cases a
    ·cases a
   ·cases a
  ·exact plain a
theorem w4q (t:EnvOk P E) (hO:y39 P O) {rec:y8v opt} (hr:y8w P rec) {β:Type} {n:Nat} {ops:Array Oper} {x:Nat} {pos:List Bool} {k:SS→Option β} {b:β}:∀ (l:List Oper) (i:Nat) (d:SS),(∀ j o,l[j]?=some o→ops[i+j]?=some o)→n≤d.s.heap.length→v2w opt std E O rec β n x pos ops.toList i l d k=some b→
  ∃ a,n≤a.s.heap.length∧y4a P n ops (List.range' i l.length) d.s (fun h=>h=a.s)∧k a=some b:=by
 intro l
 induction l with
 |nil=>
  intro i d g f c
  simp only [v2w] at c
  exact ⟨d,f,z7j rfl,c⟩
 |cons o l r=>
  intro i d g f c
  simp only [v2w] at c
  have v:ops[i]?=some o:=by simpa using g 0 o rfl
  obtain ⟨s1,e,w,c⟩:=v9i (rest:=List.range' (i+1) l.length) t hO hr v f c
  obtain ⟨a,q,m,c⟩:=r (i+1) s1 (fun j p u=>by have:=g (j+1) p (by simpa using u); rw [show i+1+j=i+(j+1) by omega]; exact this) e c
  refine ⟨a,q,?_,c⟩
  rw [eBn,List.range'_succ]
  exact w _ m
theorem w4t {ops:List Oper} {base i:Nat} {l:List Nat} (h:w4u ops base i l=true):w1s ops base i l:=by
 intro id hid
 have:=eAx.1 h id hid
 rw [eAt] at this
 rcases this with h|h
 ·exact .inl (eAh h)
 ·rw [eAc] at h
  by_cases a:id<base
  ·exact .inl a
  ·exact .inr ⟨id - base,by omega,eAh h.1,h.2⟩
theorem x37 {x:Nat}:∀ {l:List Nat},y3s x l=true→x∈l
 |[],h=>by cases h
 |y::l,h=>by
  simp only [y3s,eAt] at h
  rcases h with h|h
  ·rw [eAd h]; exact eAu ..
  ·exact eBc _ (x37 h)
theorem w7l {o:Oper} {s:AS} {f:Operand} {args:Array Operand} {ts:Array TypeId} (j:o.op= .call ⟨.value f,args,ts⟩) {g:FuncId} {first captured:List AV} (m:z0p s.env f= .clo (.func g) first captured) {id:Nat}
  (hid:id∈y44 (first++z06 s.env args.toList++captured)):id∈z7a s.env o.op:=by
 have c:∀ {l:List AV} {id:Nat},id∈y44 l→∃ x∈l,id∈tid x:=by
  intro l
  induction l with
  |nil=>intro id h; simp [y44] at h
  |cons x l e=>
   intro id h
   simp only [y44,eCb] at h
   rcases h with h|h
   ·exact ⟨x,by simp,h⟩
   ·obtain ⟨y,n,d⟩:=e h; exact ⟨y,by simp [n],d⟩
 have a:∀ {l:List AV} {id:Nat} {x:AV},x∈l→id∈tid x→id∈y44 l:=by
  intro l
  induction l with
  |nil=>intro id x h; simp at h
  |cons y l e=>
   intro id x h d
   simp only [eAm] at h
   simp only [y44,eCb]
   rcases h with rfl|h
   ·exact .inl d
   ·exact .inr (e h d)
 obtain ⟨x,b,hid⟩:=c hid
 simp only [z7a,j,z6t,if_true,eDr,eBe]
 have k:id∈tid (z0p s.env f)∨∃ y∈args.toList,id∈tid (z0p s.env y):=by
  simp only [eCb] at b
  rcases b with (b|b)|b
  ·left; rw [m]; simp only [tid,eCb]; exact .inl (a b hid)
  ·right
   rw [z2w] at b
   obtain ⟨y,i,rfl⟩:=eBe.1 b
   exact ⟨y,i,hid⟩
  ·left; rw [m]; simp only [tid,eCb]; exact .inr (a b hid)
 rcases k with h|⟨y,i,h⟩
 ·exact ⟨_,⟨f,by simp [Op.operands,Call.operands],rfl⟩,h⟩
 ·exact ⟨_,⟨y,by simp [Op.operands,Call.operands]; right; simpa using i,rfl⟩,h⟩
theorem v5b (ht:EnvOk P E) (hO:y39 P O) {rec:y8v opt} (hr:y8w P rec) {β:Type} {ops:List Oper} {g0:Nat} {pos:List Bool} {base i:Nat} {d:SS} {o:Oper} {k:SS→Option β} {b:β} (c:u5x opt std E O rec β g0 pos ops base i d o k=some b):
  z5g d.s.nt o.dst=true∧∃ r A,w3a P E.T ops d.s base i o r∧A.s=z5l d.s o.dst r.v r.u∧k A=some b:=by
 unfold u5x at c
 cases hd:z5g d.s.nt o.dst with
 |false=>rw [hd] at c; cases c
 |true=>
 rw [hd] at c
 refine ⟨rfl,?_⟩
 simp only [cond_true] at c
 obtain ⟨x,hg,c⟩:=x4j c
 cases x with
 |false=>exact ⟨_,⟨z5l d.s o.dst (.tuple []) [],d.K⟩, .skip hg,rfl,c⟩
 |true=>
  simp only at c
  cases S:w4u ops base i (z7a d.s.env o.op) with
  |false=>rw [S] at c; cases c
  |true=>
  rw [S] at c
  have m:=w4t S
  have plain:y9e opt β std (v0r E.dt ops o) (y90 (!(E.dt 1000004)) E.tk ops o) E (base+i) ⟨d.s,d.K⟩ o k=some b→∃ r A,w3a P E.T ops d.s base i o r∧A.s=z5l d.s o.dst r.v r.u∧k A=some b:=by
   intro R
   obtain ⟨q,r,ra,res,A,hw,hst,hc,he,hk⟩:=x3v y9z R
   exact ⟨_,A, .step hg ht.gl hw hst hc m,he,hk⟩
  simp only [cond_true] at c
  split at c
  ·rename_i f args ts z
   split at c
   ·rename_i g first a N
    split at c
    ·rename_i t R
     cases C:y15 (first++a) with
     |false=>rw [C] at c; cases c
     |true=>
     rw [C] at c
     obtain ⟨r,M,V,c⟩:=hO.pure _ _ _ _ _ _ _ _ _ _ R c
     refine ⟨_,⟨z5l d.s o.dst r [],d.K⟩, .call hg z N M (fun h Y=>V h (fun x n id hid=>?_)) m,rfl,c⟩
     refine Y id ?_
     have H:∀ (y:AV),x2o y→tid y=[]:=fun y Q=>x9r Q
     have J:=z6o _ C
     simp only [eCb] at n
     rcases n with (n|n)|n
     ·obtain ⟨j,U⟩:=eDp n
      have hjl:j<first.length:=(eAa.1 U).1
      have:=H x (J j x (by rw [eCl hjl]; exact U))
      rw [this] at hid; simp at hid
     ·rw [z2w] at n
      obtain ⟨y,Q,rfl⟩:=eBe.1 n
      simp only [z7a,z,z6t,if_true,eDr,eBe]
      exact ⟨_,⟨y,by simp [Op.operands,Call.operands]; right; simpa using Q,rfl⟩,hid⟩
     ·obtain ⟨j,U⟩:=eDp n
      have:=H x (J (first.length+j) x (by rw [eDm (by omega)]; simpa using U))
      rw [this] at hid; simp at hid
    ·cases C:y15 (first++z06 d.s.env args.toList++a) with
     |false=>
      rw [C] at c
      simp only [cond_false] at c
      obtain ⟨hcb,c⟩:=z6a c
      have lent:∀ {r:AV},w7t P g (bL std d.s.heap (first++z06 d.s.env args.toList++a)).2 r→y3w r=true→∀ h,(∀ id∈z7a d.s.env o.op,z0f h id=z0f d.s.heap id)→z3m P g (first++z06 d.s.env args.toList++a) h r h:=by
       intro r R p h Y
       have e:bL std h (first++z06 d.s.env args.toList++a)=bL std d.s.heap (first++z06 d.s.env args.toList++a):=by
        refine y08 std _ fun id hid=>Y id ?_
        have X:∀ {l:List AV} {id:Nat},id∈y44 l→∃ x∈l,id∈tid x:=by
         intro l
         induction l with
         |nil=>intro id h; simp [y44] at h
         |cons x l ih=>
          intro id h
          simp only [y44,eCb] at h
          rcases h with h|h
          ·exact ⟨x,by simp,h⟩
          ·obtain ⟨y,h1,h2⟩:=ih h; exact ⟨y,by simp [h1],h2⟩
        have I:∀ {l:List AV} {id:Nat} {x:AV},x∈l→id∈tid x→id∈y44 l:=by
         intro l
         induction l with
         |nil=>intro id x h; simp at h
         |cons y l ih=>
          intro id x h h2
          simp only [eAm] at h
          simp only [y44,eCb]
          rcases h with rfl|h
          ·exact .inl h2
          ·exact .inr (ih h h2)
        obtain ⟨x,G,hid⟩:=X hid
        simp only [z7a,z,z6t,if_true,eDr,eBe]
        have hfs:id∈tid (z0p d.s.env f)∨∃ y∈args.toList,id∈tid (z0p d.s.env y):=by
         simp only [eCb] at G
         rcases G with (G|G)|G
         ·left; rw [N]; simp only [tid,eCb]; exact .inl (I G hid)
         ·right
          rw [z2w] at G
          obtain ⟨y,Q,rfl⟩:=eBe.1 G
          exact ⟨y,Q,hid⟩
         ·left; rw [N]; simp only [tid,eCb]; exact .inr (I G hid)
        rcases hfs with h|⟨y,Q,h⟩
        ·exact ⟨_,⟨f,by simp [Op.operands,Call.operands],rfl⟩,h⟩
        ·exact ⟨_,⟨y,by simp [Op.operands,Call.operands]; right; simpa using Q,rfl⟩,h⟩
       exact u2i (by rw [e]; exact R) (by rw [e]; exact hcb) p
      split at c
      ·rename_i t hpu
       cases F:y15 (bL std d.s.heap (first++z06 d.s.env args.toList++a)).2 with
       |false=>rw [F] at c; cases c
       |true=>
       rw [F] at c
       simp only [cond_true] at c
       obtain ⟨r,M,V,c⟩:=hO.pure _ _ _ _ _ _ _ _ _ _ hpu c
       cases p:y3w r with
       |false=>rw [p] at c; cases c
       |true=>
       rw [p] at c
       have R:w7t P g (bL std d.s.heap (first++z06 d.s.env args.toList++a)).2 r:=V [] (fun x G id hid=>by
        obtain ⟨j,U⟩:=eDp G
        rw [x9r (z6o _ F j x U)] at hid; simp at hid)
       exact ⟨_,⟨z5l d.s o.dst r [],d.K⟩, .call hg z N M (lent R p) m,rfl,c⟩
      ·cases w:E.cl&&okR d.s.heap (first++z06 d.s.env args.toList++a) with
       |true=>
        rw [w] at c
        simp only [cond_true] at c
        obtain ⟨r,h',K',M,V,Z,c⟩:=z9n ht hr c
        have L:(bif inT (w73 (first++z06 d.s.env args.toList++a)) (z3j h' (fun id=>Nat.blt id d.s.heap.length) r)&&eqH (y1m h' d.s.heap.length) (z38 d.s.heap (w73 (first++z06 d.s.env args.toList++a)) 0 d.s.heap) then
           k ⟨z5l d.s o.dst (z3j h' (fun id=>Nat.blt id d.s.heap.length) r) [],d.K⟩ else opt.no β 80)=some b:=c
        cases W:inT (w73 (first++z06 d.s.env args.toList++a)) (z3j h' (fun id=>Nat.blt id d.s.heap.length) r)&&eqH (y1m h' d.s.heap.length) (z38 d.s.heap (w73 (first++z06 d.s.env args.toList++a)) 0 d.s.heap) with
        |false=>rw [W] at L; cases L
        |true=>
        rw [W] at L
        simp only [eAc] at W w
        obtain ⟨_,w⟩:=w
        simp only [okR,eAc,eAx] at w
        have c1v:=M.view
        rw [z55] at c1v
        have B:∀ {id:Nat},w73 (first++z06 d.s.env args.toList++a) id=true→id∈y44 (first++z06 d.s.env args.toList++a):=fun {id} hid=>x37 hid
        refine ⟨_,⟨z5l d.s o.dst (z3j h' (fun id=>Nat.blt id d.s.heap.length) r) [],d.K⟩, .call hg z N Z (fun h Y=>?_) m,rfl,L⟩
        refine z3m.widen (h:=d.s.heap) (T:=w73 (first++z06 d.s.env args.toList++a)) (fun id hid=>eAh (w.2 id (B hid)).1) (fun id hid=>(w.2 id (B hid)).2) w.1 W.1 c1v (x9w _ _ W.2) (fun id hid=>Y id (w7l z N (B hid)))
       |false=>
       rw [w] at c
       simp only [cond_false] at c
       obtain ⟨r,h',K',M,V,Z,c⟩:=z9n ht hr c
       cases p:y3w (z3j h' (fun _=>false) r) with
       |false=>rw [p] at c; cases c
       |true=>
       rw [p] at c
       exact ⟨_,⟨z5l d.s o.dst (z3j h' (fun _=>false) r) [],d.K⟩, .call hg z N Z (lent M.pret p) m,rfl,c⟩
     |true=>
     rw [C] at c
     simp only [cond_true] at c
     obtain ⟨r,h',K',M,V,Z,c⟩:=z9n ht hr c
     cases F:z9x (z3j h' (fun _=>false) r) with
     |false=>rw [F] at c; cases c
     |true=>
     rw [F] at c
     exact ⟨_,⟨z5l d.s o.dst (z3j h' (fun _=>false) r) [],d.K⟩, .call hg z N Z (fun h _=>M.pret.at (z6o _ C) (y5e _ F) h) m,rfl,c⟩
   ·cases c
  ·exact plain c
theorem x1o (q:EnvOk P E) (hO:y39 P O) {rec:y8v opt} (hr:y8w P rec) {β:Type} {ops:List Oper} {t:Nat} {pos:List Bool} {nt base:Nat} {k:SS→Option β} {b:β}:∀ (l:List Oper) (c:List (List Nat)) (i:Nat) (e:SS),e.s.nt=nt→x6x opt std E O rec β t pos ops base c i l e k=some b→
  ∃ d,e.s.heap.length≤d.s.heap.length∧DS P E.T ops nt base (fun j=>j=d.s) c i l e.s∧k d=some b:=by
 intro l
 induction l with
 |nil=>
  intro c i e g a
  simp only [x6x] at a
  exact ⟨e,eAj _, .nil rfl,a⟩
 |cons o l p=>
  intro c i e g a
  simp only [x6x] at a
  cases f:x8p ops c i o (z7a e.s.env o.op) with
  |false=>rw [f] at a; cases a
  |true=>
  have h:=w4j f
  rw [f] at a
  simp only [cond_true] at a
  obtain ⟨d1,r,s1,d2,he,a⟩:=v5b q hO hr a
  obtain ⟨d,n,m,a⟩:=p (c++[z7a e.s.env o.op]) (i+1) s1 (by rw [he]; exact g) a
  refine ⟨d,eBk (by rw [he]; exact (z5e r.u e.s.heap).1) n, .cons h (by rw [←g]; exact d1) d2 ?_,a⟩
  rw [←he]; exact m
theorem v6j (F:EnvOk P E) {β:Type} {x:w3b} {c:SS} {k:SS→Option β} {b:β} (h:u8a opt β std E x c k=some b):
  ∃ id kd es ti ks ka ez q r y,w0z E.T x c.s id kd es ti ks ka ez q r y∧k ⟨w2d x c.s id (z6z q r ez) y (z8y es q r kd y),c.K⟩=some b:=by
 unfold u8a at h
 split at h
 ·rename_i id kd m n u t p
  split at h
  ·rename_i es ti i f
   split at h
   ·rename_i ks ka ez e g
    obtain ⟨q,r,C,j,h'⟩:=y5g h
    clear h
    have h:=h'
    clear h'
    simp only [y2g,f] at j
    split at h
    ·rename_i l o d
     cases a:(l==m)&&(Nat.blt x.dL c.s.nt&&(Nat.blt x.dB c.s.nt&&(Nat.blt x.dM c.s.nt&&(Nat.blt x.dX c.s.nt&&Nat.blt id c.s.heap.length)))) with
     |false=>rw [a] at h; cases h
     |true=>
      rw [a] at h
      simp only [eAc,beq_iff_eq] at a
      obtain ⟨rfl,B,A,z,w,v⟩:=a
      refine ⟨id,kd,es,ti,ks,ka,ez,q,r,_,⟨u,t,i,f,e,j,⟨_,_,_,d,p,g,rfl⟩,⟨eAh B,eAh A,eAh z,eAh w⟩,eAh v⟩,?_⟩
      rw [d]; exact h
    ·cases h
   ·cases h
  ·cases h
 ·cases h
theorem x74 (H:EnvOk P E) (hO:y39 P O):∀ f,y8w P (sym opt std E O f):=by
 intro f
 induction f with
 |zero=>intro β n g pos c w k b _ _ h; cases h
 |succ f G=>
  intro β n g pos c w k b M z h
  have sub:∀ b c',v8y c b=some c'→z1v P g (b::pos)=some c':=fun b c' F=>by simp [z1v,M,F]
  cases c with
  |skip=>simp only [sym] at h; exact ⟨_,_,z,x5b ⟨rfl,rfl⟩,h⟩
  |label _=>simp only [sym] at h; exact ⟨_,_,z,w2n ⟨rfl,rfl⟩,h⟩
  |exit id=>simp only [sym] at h; exact ⟨_,_,z,w6g ⟨rfl,rfl⟩,h⟩
  |ret=>simp only [sym] at h; exact ⟨_,_,z,x19 ⟨rfl,rfl⟩,h⟩
  |seq a b'=>
   simp only [sym] at h
   obtain ⟨J,s1,l,m,h⟩:=G _ _ _ _ _ _ _ _ (sub false a rfl) z h
   cases J with
   |normal=>
    obtain ⟨e,d,m1,m2,h⟩:=G _ _ _ _ _ _ _ _ (sub true b' rfl) l h
    refine ⟨e,d,m1,z1o (m.mono fun p i u=>?_),h⟩
    obtain ⟨rfl,rfl⟩:=u
    exact m2
   |exit j=>
    refine ⟨_,_,l,z1o (m.mono fun p i u=>?_),h⟩
    obtain ⟨rfl,rfl⟩:=u
    exact ⟨rfl,rfl⟩
   |ret=>
    refine ⟨_,_,l,z1o (m.mono fun p i u=>?_),h⟩
    obtain ⟨rfl,rfl⟩:=u
    exact ⟨rfl,rfl⟩
  |cond c a b'=>
   simp only [sym] at h
   obtain ⟨e,v,d,⟨X,W⟩,I,C,h⟩:=hO.join _ _ _ _ _ _ _ (fun e v=>n≤v.s.heap.length∧z54 P n (.cond c a b') w.s (fun p i=>p=e∧i=v.s)) (fun γ k b B=>by
    obtain ⟨x,hc,B⟩:=v04 B
    cases x with
    |true=>
     obtain ⟨e,d,l,m,B⟩:=G _ _ _ _ _ _ _ _ (sub false a rfl) z B
     exact ⟨e,d,⟨l,y7n hc m⟩,B⟩
    |false=>
     obtain ⟨e,d,l,m,B⟩:=G _ _ _ _ _ _ _ _ (sub true b' rfl) z B
     exact ⟨e,d,⟨l,y7n hc m⟩,B⟩) h
   refine ⟨e,d,C X,z2z (W.mono fun p i u=>?_),h⟩
   obtain ⟨rfl,rfl⟩:=u
   exact ⟨_,I,rfl,rfl⟩
  |block id c=>
   simp only [sym] at h
   obtain ⟨e,v,d,⟨X,W⟩,I,C,h⟩:=hO.join _ _ _ _ _ _ _ (fun e v=>n≤v.s.heap.length∧z54 P n (.block id c) w.s (fun p i=>p=e∧i=v.s)) (fun γ k b B=>by
    obtain ⟨x,s1,l,m,B⟩:=G _ _ _ _ _ _ _ _ (sub false c rfl) z B
    cases x with
    |exit j=>
     simp only at B
     cases F:Nat.beq j id with
     |true=>
      rw [F] at B
      refine ⟨_,_,⟨l,z27 (m.mono fun p i u=>?_)⟩,B⟩
      obtain ⟨rfl,rfl⟩:=u
      simp only
      rw [if_pos (eAd F)]
      exact ⟨trivial,trivial⟩
     |false=>
      rw [F] at B
      refine ⟨_,_,⟨l,z27 (m.mono fun p i u=>?_)⟩,B⟩
      obtain ⟨rfl,rfl⟩:=u
      simp only
      rw [if_neg (by rintro rfl; simp at F)]
      exact ⟨trivial,trivial⟩
    |normal=>
     refine ⟨_,_,⟨l,z27 (m.mono fun p i u=>?_)⟩,B⟩
     obtain ⟨rfl,rfl⟩:=u
     exact ⟨rfl,rfl⟩
    |ret=>
     refine ⟨_,_,⟨l,z27 (m.mono fun p i u=>?_)⟩,B⟩
     obtain ⟨rfl,rfl⟩:=u
     exact ⟨rfl,rfl⟩) h
   refine ⟨e,d,C X,z2z (W.mono fun p i u=>?_),h⟩
   obtain ⟨rfl,rfl⟩:=u
   exact ⟨_,I,rfl,rfl⟩
  |scope c=>
   simp only [sym] at h
   obtain ⟨e,d,l,m,h⟩:=G _ _ _ _ _ _ _ _ (sub false c rfl) z h
   exact ⟨e,d,l,w2m m,h⟩
  |loop c=>
   simp only [sym] at h
   split at h
   ·rename_i t hl
    exact hO.loop _ _ _ _ _ _ _ _ _ M z hl h
   ·obtain ⟨J,s1,l,m,h⟩:=G _ _ _ _ _ _ _ _ (sub false c rfl) z h
    cases J with
    |normal=>
     obtain ⟨e,d,m1,m2,h⟩:=G _ _ _ _ _ _ _ _ M l h
     refine ⟨e,d,m1,z3l (m.mono fun p i u=>?_),h⟩
     obtain ⟨rfl,rfl⟩:=u
     exact m2
    |exit j=>
     refine ⟨_,_,l,z3l (m.mono fun p i u=>?_),h⟩
     obtain ⟨rfl,rfl⟩:=u
     exact ⟨rfl,rfl⟩
    |ret=>
     refine ⟨_,_,l,z3l (m.mono fun p i u=>?_),h⟩
     obtain ⟨rfl,rfl⟩:=u
     exact ⟨rfl,rfl⟩
  |region id ops drawn=>
   cases drawn with
   |false=>
    simp only [sym] at h
    have hl:∀ j o,ops.toList[j]?=some o→ops[0+j]?=some o:=fun j o Z=>by rw [eAq, ←eAl]; exact Z
    have go:∀ (γ:Type) (k:AX→SS→Option γ) (b:γ),(O.view γ n g pos w fun w=>v2w opt std E O (sym opt std E O f) γ n g pos ops.toList 0 ops.toList w fun s'=>k .normal s')=some b→
      ∃ e d,(n≤d.s.heap.length∧z54 P n (.region id ops false) w.s (fun p i=>p=e∧i=d.s))∧k e d=some b:=by
     intro γ k b h
     obtain ⟨w,I,z,h⟩:=hO.view _ _ _ _ _ _ _ z h
     obtain ⟨d,l,this,h⟩:=w4q H hO G ops.toList 0 w hl z h
     refine ⟨_,d,⟨l,z2l I (z5v ?_)⟩,h⟩
     rw [eBw, ←List.range_eq_range'] at this
     exact this.mono fun s h=>⟨rfl,h⟩
    cases V:(x7c ops.toList||u7s E ops.toList) with
    |false=>
     rw [V] at h
     obtain ⟨e,d,⟨l,m⟩,h⟩:=go β k b h
     exact ⟨e,d,l,m,h⟩
    |true=>
     rw [V] at h
     simp only [cond_true] at h
     obtain ⟨e,v,d,⟨X,W⟩,I,C,h⟩:=hO.join _ _ _ _ _ _ _ (fun e v=>n≤v.s.heap.length∧z54 P n (.region id ops false) w.s (fun p i=>p=e∧i=v.s)) (fun γ k b B=>go γ k b B) h
     refine ⟨e,d,C X,z2z (W.mono fun p i u=>?_),h⟩
     obtain ⟨rfl,rfl⟩:=u
     exact ⟨_,I,rfl,rfl⟩
   |true=>
    simp only [sym] at h
    cases F:y8k ops.toList&&z71 ops.toList with
    |false=>rw [F] at h; cases h
    |true=>
    rw [F] at h
    simp only [eAc] at F
    simp only [cond_true] at h
    obtain ⟨w,I,z,h⟩:=hO.view _ _ _ _ _ _ _ z h
    split at h
    ·cases U:E.tl with
     |true=>
      rw [U] at h
      simp only [cond_true] at h
      obtain ⟨s1,l,m,h⟩:=x1o H hO G (nt:=w.s.nt) (ops.toList.take (y77 E.tk E.cl ops.toList)) [] 0 w rfl h
      have hle:=w8m E.tk E.cl ops.toList
      have hsz:ops.toList.length=ops.size:=eBw
      obtain ⟨d,k1,k2,h⟩:=w4q H hO G (n:=n) (ops:=ops) (ops.toList.drop (y77 E.tk E.cl ops.toList)) (y77 E.tk E.cl ops.toList) s1 (fun j o Z=>by
       rw [eCg] at Z
       rw [←eAl]; exact Z) (eBk z l) h
      refine ⟨_,d,k1,z2l I (x5a H.mixed H.ti z F.1 F.2 (by omega) (x52 _ _ _) m (Q:=fun p i=>p= .normal∧i=d.s) fun i hs2 hnt _=>?_),h⟩
      rw [hs2]
      have hln:(ops.toList.drop (y77 E.tk E.cl ops.toList)).length=ops.size - y77 E.tk E.cl ops.toList:=by
       rw [eFj,hsz]
      rw [hln] at k2
      exact k2.mono fun s3 h3=>⟨rfl,h3⟩
     |false=>
     rw [U] at h
     simp only [cond_false] at h
     obtain ⟨d,l,m,h⟩:=x1o H hO G (nt:=w.s.nt) ops.toList [] 0 w rfl h
     exact ⟨_,d,eBk z l,z2l I (w6h H.mixed H.ti z F.1 F.2 (m.mono fun i h=>⟨rfl,h⟩)),h⟩
    ·rename_i pre x hof
     cases R:y5d ops.toList with
     |false=>rw [R] at h; cases h
     |true=>
     rw [R] at h
     simp only [cond_true] at h
     obtain ⟨d,l,m,h⟩:=x1o H hO G (nt:=w.s.nt) pre [] 0 w rfl h
     obtain ⟨id,kd,es,ti,ks,ka,ez,q,r,y,hR,h⟩:=v6j H h
     refine ⟨_,_,?_,z2l I (v03 H.mixed H.ti z F.1 F.2 R hof m (Q:=fun p i=>p= .normal∧i=w2d x d.s id (z6z q r ez) y (z8y es q r kd y)) fun s1 L hnt=>⟨id,kd,es,ti,ks,ka,ez,q,r,y,by rw [L]; exact hR,rfl,by rw [L]⟩),h⟩
     exact eBk z (eBk l (z1w _ _ _).1)
  |rangeFunc fo ps asg Y=>
   simp only [sym] at h
   split at h
   ·rename_i g' first T hf
    obtain ⟨r,N,c1,c2,c3,h⟩:=x0f H hO G (by show _≤(z03 w.s.heap w.s.heap.length _).length; rw [y6f]; exact eAj _) h
    split at h
    ·rename_i st pd gc' pos' nt' env' hob
     have S:st≠ .busy→∀ J s1,y0t N.s (z03 N.s.heap w.s.heap.length .dead) pd=some (J,s1)→n≤s1.heap.length∧z54 P n (.rangeFunc fo ps asg Y) w.s (fun p i=>p=J∧i=s1):=by
      intro hst J s1 A
      have L:s1.heap=z03 N.s.heap w.s.heap.length .dead:=by
       unfold y0t at A
       split at A<;>cases A<;>rfl
      refine ⟨?_,y8o M hf c2 z c3 hob hst A ⟨rfl,rfl⟩⟩
      rw [L]
      have:=(z1w N.s.heap w.s.heap.length .dead).1
      omega
     cases st with
     |busy=>cases h
     |ready=>
      simp only at h
      split at h
      ·rename_i J s1 A
       obtain ⟨x,y⟩:=S (by simp) _ _ A
       exact ⟨_,⟨s1,N.K⟩,x,y,h⟩
      ·cases h
     |done=>
      simp only at h
      split at h
      ·rename_i J s1 A
       obtain ⟨x,y⟩:=S (by simp) _ _ A
       exact ⟨_,⟨s1,N.K⟩,x,y,h⟩
      ·cases h
     |exhausted=>
      simp only at h
      split at h
      ·rename_i J s1 A
       obtain ⟨x,y⟩:=S (by simp) _ _ A
       exact ⟨_,⟨s1,N.K⟩,x,y,h⟩
      ·cases h
    ·cases h
   ·cases h
  |_=>simp only [sym] at h; cases h
end
end Go.Am
end
section
namespace Go.Am
def infoOf (P : Program) (g : FuncId) : Option v2m :=
 match P.funcs[g]? with
 | some fn => match fn.body with
  | some c => bif fn.name == "runtime.NumGoroutine" then none else some ⟨c, fn.ntmps, fn.results.toList⟩
  | none => none
 | none => none
theorem enters_of {P : Program} {g : FuncId} {fn : Func} {c : Code} (h : P.funcs[g]? = some fn) (hb : fn.body = some c) (hn : (fn.name == "runtime.NumGoroutine") = false) : z3d P g := by
 intro args w
 have hn' : ¬ (fn.name = "runtime.NumGoroutine") := by simpa using hn
 unfold callFunc
 simp [Sem.program, Sem.run, h, hb, hn']
theorem y2u {P : Program} {g : FuncId} {i : v2m} (h : infoOf P g = some i) : ∃ fn, P.funcs[g]? = some fn ∧ fn.body = some i.body ∧ fn.ntmps = i.nt ∧ fn.results.toList = i.res ∧ z3d P g := by
 unfold infoOf at h
 split at h
 ·rename_i fn hfn
  split at h
  ·rename_i c hc
   cases hn : (fn.name == "runtime.NumGoroutine") with
   | true => rw [hn] at h; cases h
   | false => rw [hn] at h; cases h; exact ⟨fn, hfn, hc, rfl, rfl, enters_of hfn hc hn⟩
  ·cases h
 ·cases h
def t2g (f:TypeId→List CK):List Field→List CK
 |[]=>[]
 |x::r=>f x.type++t2g f r
def t2f:List CK→Option (List CR)
 |[]=>some []
 |c::cs=>match c,t2f cs with
  | .int k,some l=>some (.int k::l)
  | .bool,some l=>some (.bool::l)
  | .str,some l=>some (.str::l)
  | .list z,some l=>some (.list z::l)
  |_,_=>none
def u2a (P:Program):Nat→TypeId→List CK
 |0,_=>[.other]
 |n+1,t=>match P.underlying t with
  |some (.int k)=>[.int k]
  |some .bool=>[.bool]
  |some .string=>[.str]
  |some (.slice e)=>match z91 P e with
   |some z=>[.list z]
   |none=>[.other]
  |some (.struct fs)=>t2g (u2a P n) fs.toList
  |some (.array m e)=>(List.replicate m (u2a P n e)).flatten
  |some (.pointer e)=>match P.underlying e with
   |some (.struct _)=>match t2f (u2a P n e) with
    |some l=>[.ref l]
    |none=>[.other]
   |_=>[.other]
  |_=>[.other]
def v3q (P:Program) (t:TypeId):List CK:=
 match P.underlying t with
 |some (.slice e)=>u2a P 8 e
 |_=>[]
def v7i (P:Program) (t:TypeId):Bool×List CK:=
 match P.underlying t with
 |some (.map _ e)=>((z4j P e).getD false,u2a P 8 e)
 |_=>(false,[])
def x4g (a:Nat):List Nat→Bool
 |[]=>false
 |b::l=>Nat.beq b a||x4g a l
def autoEnvD (own:List Nat) (P:Program):Env:=⟨v8h P,infoOf P,v3q P,v7i P,z1v P,fun g=>!x4g g own,true,false,fun _=>false,false,fun _=>none⟩
def autoEnvE (own:List Nat) (P:Program):Env:=⟨v8h P,infoOf P,v3q P,v7i P,z1v P,fun g=>!x4g g own,true,true,fun _=>false,false,fun _=>none⟩
def w0n (own a:List Nat) (P:Program):Env:=⟨v8h P,infoOf P,fun _=>[.other],v7i P,z1v P,fun g=>!x4g g own,true,true,fun g=>x4g g a,true,y14 P⟩
theorem y7q {own fz:List Nat} {P:Program} (hm:P.follows .mixedOrders=true):EnvOk P (w0n own fz P) where
 ti:=fun t ti h=>x63 h
 gl:=fun _ _ h=>by first|exact h|cases h
 fn:=fun g i h=>y2u h
 code:=fun g pos c h=>h
 mixed:=hm
theorem autoEnvE_ok {own:List Nat} {P:Program} (hm:P.follows .mixedOrders=true):EnvOk P (autoEnvE own P) where
 ti:=fun t ti h=>x63 h
 gl:=fun _ _ h=>by first|exact h|cases h
 fn:=fun g i h=>y2u h
 code:=fun g pos c h=>h
 mixed:=hm
theorem autoEnvD_ok {own:List Nat} {P:Program} (hm:P.follows .mixedOrders=true):EnvOk P (autoEnvD own P) where
 ti:=fun t ti h=>x63 h
 gl:=fun _ _ h=>by first|exact h|cases h
 fn:=fun g i h=>y2u h
 code:=fun g pos c h=>h
 mixed:=hm
def u5w (A:Alg):Orc A:=⟨fun _ _ _ _ _ _ _ _=>none,fun _ _ _ _ _ _ _=>none,fun _ _ _ _ _=>none,fun β _ _ _ a k=>a β k,fun _ _ _ _ b k=>k b⟩
theorem v5a {P:Program}:y39 P (u5w opt) where
 call:=fun _ _ _ _ _ _ _ _ _ _ _ h=>by cases h
 pure:=fun _ _ _ _ _ _ _ _ _ _ h=>by cases h
 loop:=fun _ _ _ _ _ _ _ _ _ _ _ h=>by cases h
 join:=fun β n g pos body k b G hb h=>by
  obtain ⟨e,ss',hg,hk⟩:=hb β k b h
  exact ⟨e,ss',ss',hg,z5z.refl _ _,fun h=>h,hk⟩
 view:=fun β n g pos ss k b hn h=>⟨ss,z5z.refl _ _,hn,h⟩
def v09 (E:Env) (O:Orc opt) (f:Nat) (g:FuncId) (args:List AV):Option (AV×List AO):=x2d opt E (sym opt std E O f) (AV×List AO) g args [] [] fun r h _=>some (r,h)
theorem v08 {P:Program} {E:Env} {O:Orc opt} (hE:EnvOk P E) (hO:y39 P O) {f:Nat} {g:FuncId} {args:List AV} {r:AV} {h':List AO} (h:v09 E O f g args=some (r,h')):z3m P g args [] r h':=by
 obtain ⟨c,d,e,b,_,_,a⟩:=z9n hE (x74 hE hO f) h
 cases a; exact b
end Go.Am
end
section
namespace Go.Am
inductive Sc where
 |int|nat|bool|str|rows|map
def Sc.den:Sc→Type
 | .int=>Int
 | .nat=>Nat
 | .bool=>Bool
 | .str=>ByteArray
 | .rows=>List (List D)
 | .map=>List (D×D)
inductive Val where
 |i (n:Int)|n (n:Nat)|b (b:Bool)|s (s:ByteArray)|r (es:List (List D))|m (es:List (D×D))
def Tup:List Sc→Type
 |[]=>Unit
 |s::r=>s.den×Tup r
def STup:List (List Sc)→Type
 |[]=>Empty
 |[t]=>Tup t
 |t::u::ts=>Tup t⊕STup (u::ts)
def toV:(s:Sc)→s.den→Val
 | .int,x=> .i x
 | .nat,x=> .n x
 | .bool,x=> .b x
 | .str,x=> .s x
 | .rows,x=> .r x
 | .map,x=> .m x
def y7z:(a:List Sc)→Tup a→List Val
 |[],_=>[]
 |s::r,x=>toV s x.1::y7z r x.2
def ofV:(s:Sc)→Val→Option s.den
 | .int, .i x=>some x
 | .nat, .n x=>some x
 | .bool, .b x=>some x
 | .str, .s x=>some x
 | .rows, .r x=>some x
 | .map, .m x=>some x
 |_,_=>none
def v5e:(a:List Sc)→List Val→Option (Tup a)
 |[],[]=>some ()
 |s::r,v::vs=>match ofV s v,v5e r vs with
  |some x,some y=>some (x,y)
  |_,_=>none
 |_,_=>none
theorem v4k {s:Sc} {v:Val} {x:s.den} (h:ofV s v=some x):toV s x=v:=by
 cases s<;>cases v<;>cases h<;>rfl
theorem y5q:∀ {a:List Sc} {vs:List Val} {x:Tup a},v5e a vs=some x→y7z a x=vs
 |[],[],x,_=>rfl
 |[],_::_,x,h=>by simp [v5e] at h
 |_::_,[],x,h=>by simp [v5e] at h
 |s::r,v::vs,x,h=>by
  simp only [v5e] at h
  split at h
  ·rename_i y z c b
   cases h
   simp only [y7z,v4k c,y5q b]
  ·cases h
inductive VT where
 |bot
 |int (k:IntKind)|bool|str
 |list (z:Nat)
 |lst (z:Nat)
 |prm
 |ifc (t:TypeId)
 |nilp|nilm|nilf|nili|nils
 |agg (l:List VT)
 |ref (l:List VT)
 |bptr (i off:Nat)
 |ptr (i off:Nat)
 |vec (i z:Nat)
 |full (i z:Nat)
 |sl (i z:Nat)
 |slc (i z:Nat)
 |map (i:Nat)
 |yld (i:Nat)
 |clo (fn:Nat) (fs cs:List VT)
 |tuple (l:List VT)
 deriving Inhabited
inductive OT where
 |dead
 |box (l:List VT)
 |row (ck:List CK)
 |map
 |loop (st:LoopState) (pd:Option Code) (g:Nat) (pos:List Bool) (nt:Nat) (env:List (Nat×VT))
 deriving Inhabited
structure ST where
 env:List (Nat×VT)
 heap:List OT
 nt:Nat
def z7z:List OT→List Val→List (Option AO)×List Val
 |[],vs=>([],vs)
 | .row _::t, .r es::vs=>(some (.row es)::(z7z t vs).1,(z7z t vs).2)
 | .map::t, .m es::vs=>(some (.map es)::(z7z t vs).1,(z7z t vs).2)
 |_::t,vs=>(none::(z7z t vs).1,(z7z t vs).2)
def z7h (p:Prim) (L:List (Option AO)) (i:Nat):Nat:=
 match z19 L i with
 |some (some (.row es))=>p.len es
 |_=>0
def v5l (l:List AV):AV:=
 match x2i l with
 |some ds=> .d (.agg ds)
 |none=> .agg l
def v5k (l:List AV):AV:=
 match x2i l with
 |some (d::ds)=> .d (.ref (d::ds))
 |_=> .bot
mutual
def v0k (p:Prim) (L:List (Option AO)):VT→List Val→AV×List Val
 | .bot,vs=>(.bot,vs)
 | .int k, .i n::vs=>(.d (.int k n),vs)
 | .bool, .b b::vs=>(.d (.bool b),vs)
 | .str, .s s::vs=>(.d (.str s),vs)
 | .list z, .r es::vs=>(.d (.list false z es),vs)
 | .lst z, .r es::vs=>(.d (.list true z es),vs)
 | .ifc t,vs=>(.iface t .bot,vs)
 | .prm, .r es::vs=>(.perm es,vs)
 | .nilp,vs=>(.d .nilp,vs)
 | .nilm,vs=>(.d .nilm,vs)
 | .nils,vs=>(.d (.list true 0 []),vs)
 | .nilf,vs=>(.d .nilf,vs)
 | .nili,vs=>(.d .nili,vs)
 | .agg l,vs=>(v5l (z68 p L l vs).1,(z68 p L l vs).2)
 | .ref l,vs=>(v5k (z68 p L l vs).1,(z68 p L l vs).2)
 | .bptr i off,vs=>(.bptr i off,vs)
 | .ptr i off, .n j::vs=>(.ptr i j off,vs)
 | .vec i z,vs=>(.slice i z 0 (z7h p L i) none,vs)
 | .full i z,vs=>(.slice i z 0 (z7h p L i) (some (z7h p L i)),vs)
 | .sl i z, .n off:: .n len::vs=>(.slice i z off len none,vs)
 | .slc i z, .n off:: .n len:: .n c::vs=>(.slice i z off len (some c),vs)
 | .map i,vs=>(.map i,vs)
 | .yld i,vs=>(.yld i,vs)
 | .clo fn fs cs,vs=>(.clo (.func fn) (z68 p L fs vs).1 (z68 p L cs (z68 p L fs vs).2).1,(z68 p L cs (z68 p L fs vs).2).2)
 | .tuple l,vs=>(.tuple (z68 p L l vs).1,(z68 p L l vs).2)
 |_,vs=>(.bot,vs)
def z68 (p:Prim) (L:List (Option AO)):List VT→List Val→List AV×List Val
 |[],vs=>([],vs)
 |t::ts,vs=>((v0k p L t vs).1::(z68 p L ts (v0k p L t vs).2).1,(z68 p L ts (v0k p L t vs).2).2)
end
def v0m (p:Prim) (L:List (Option AO)):List (Nat×VT)→List Val→List (Nat×AV)×List Val
 |[],vs=>([],vs)
 |(k,t)::ts,vs=>((k,(v0k p L t vs).1)::(v0m p L ts (v0k p L t vs).2).1,(v0m p L ts (v0k p L t vs).2).2)
def u0p (p:Prim) (L:List (Option AO)) (o:Option AO):OT→List Val→AO×List Val
 | .box l,vs=>(.box (z68 p L l vs).1,(z68 p L l vs).2)
 | .loop st a g pos nt env,vs=>(.loop st a g pos nt (v0m p L env vs).1,(v0m p L env vs).2)
 |_,vs=>(match o with|some o=>o|none=> .dead,vs)
def y71 (p:Prim) (L:List (Option AO)):List (Option AO)→List OT→List Val→List AO×List Val
 |o::os,t::ts,vs=>((u0p p L o t vs).1::(y71 p L os ts (u0p p L o t vs).2).1,(y71 p L os ts (u0p p L o t vs).2).2)
 |_,_,vs=>([],vs)
def w57 (p:Prim) (t:ST) (vs:List Val):AS:=
 ⟨(v0m p (z7z t.heap vs).1 t.env (y71 p (z7z t.heap vs).1 (z7z t.heap vs).1 t.heap (z7z t.heap vs).2).2).1,(y71 p (z7z t.heap vs).1 (z7z t.heap vs).1 t.heap (z7z t.heap vs).2).1,t.nt⟩
abbrev u3z:=List Bool×List Val
def y70 (σ:List (Option Nat)) (i a:Nat):Bool:=
 match z19 σ i with
 |some (some b)=>Nat.beq a b
 |_=>false
def w9w (σ:List (Option Nat)) (i:Nat):Bool:=
 match z19 σ i with
 |some none=>true
 |_=>false
mutual
def z3b (p:Prim) (h:List AO) (σ τ:List (Option Nat)) (L:List (Option AO)):VT→AV→Option u3z
 | .bot,_=>some ([],[])
 | .int k, .d (.int k' n)=>bif k==k' then some ([],[.i n]) else none
 | .bool, .d (.bool b)=>some ([],[.b b])
 | .str, .d (.str s)=>some ([],[.s s])
 | .list z, .d (.list f z' es)=>bif Nat.beq z z' then some ([],[.r es]) else match es with
  |[]=>some ([],[.r []])
  |_=>none
 | .list z, .slice a z' off len _=>bif y0g τ a then none else bif Nat.beq z z' then match z0f h a with
  | .row es=>some ([p.leN (p.add off len) (p.len es)],[.r (p.cut es off len)])
  |_=>none
  else none
 | .lst z, .d (.list f z' es)=>bif Nat.beq z z' then some ([f],[.r es]) else match es with
  |[]=>some ([f],[.r []])
  |_=>none
 | .lst z, .slice a z' off len (some c)=>bif y0g τ a then none else bif Nat.beq z z' then match z0f h a with
  | .row es=>some ([p.leN (p.add off len) (p.len es),p.eqN len c],[.r (p.cut es off len)])
  |_=>none
  else none
 | .prm, .perm es=>some ([],[.r es])
 | .ifc t, .iface t' _=>bif Nat.beq t t' then some ([],[]) else none
 | .nilp, .d .nilp=>some ([],[])
 | .nilm, .d .nilm=>some ([],[])
 | .nils, .d (.list true _ [])=>some ([],[])
 | .nilf, .d .nilf=>some ([],[])
 | .nili, .d .nili=>some ([],[])
 | .agg l, .d (.agg ds)=>y16 p h σ τ L l (toA ds)
 | .agg l, .agg xs=>y16 p h σ τ L l xs
 | .ref l, .d (.ref ds)=>y16 p h σ τ L l (toA ds)
 | .ref l, .bptr a off=>bif y0g τ a then none else match off,z0f h a with
  |0, .box cells=>y16 p h σ τ L l cells
  |_,_=>none
 | .bptr i off, .bptr a off'=>bif y70 σ i a&&Nat.beq off off' then some ([],[]) else none
 | .ptr i off, .ptr a j off'=>bif y70 σ i a&&Nat.beq off off' then some ([],[.n j]) else none
 | .vec i z, .slice a z' off len none=>bif y70 σ i a&&Nat.beq z z' then some ([p.eqN off 0,p.eqN len (z7h p L i)],[]) else none
 | .vec i z, .slice a z' off len (some c)=>bif y70 σ i a&&Nat.beq z z' then match z0f h a with
  | .row es=>some ([p.eqN off 0,p.eqN len (z7h p L i),p.leN (p.add off c) (p.len es)],[])
  |_=>none
  else none
 | .vec i z, .d (.list true _ [])=>bif w9w σ i then match z19 L i with
  |some (some (.row []))=>some ([],[])
  |_=>none
  else none
 | .full i z, .slice a z' off len (some c)=>bif y70 σ i a&&Nat.beq z z' then some ([p.eqN off 0,p.eqN len (z7h p L i),p.eqN c (z7h p L i)],[]) else none
 | .sl i z, .slice a z' off len none=>bif y70 σ i a&&Nat.beq z z' then some ([],[.n off, .n len]) else none
 | .sl i z, .slice a z' off len (some c)=>bif y70 σ i a&&Nat.beq z z' then match z0f h a with
  | .row es=>some ([p.leN (p.add off c) (p.len es)],[.n off, .n len])
  |_=>none
  else none
 | .sl i z, .d (.list true _ [])=>bif w9w σ i then match z19 L i with
  |some (some (.row []))=>some ([],[.n 0, .n 0])
  |_=>none
  else none
 | .slc i z, .slice a z' off len (some c)=>bif y70 σ i a&&Nat.beq z z' then some ([],[.n off, .n len, .n c]) else none
 | .map i, .map a=>bif y70 σ i a then some ([],[]) else none
 | .yld i, .yld a=>bif y70 σ i a then some ([],[]) else none
 | .clo fn fs cs, .clo (.func fn') fs' cs'=>bif Nat.beq fn fn' then match y16 p h σ τ L fs fs',y16 p h σ τ L cs cs' with
  |some (c1,v1),some (c2,v2)=>some (c1++c2,v1++v2)
  |_,_=>none
  else none
 | .tuple l, .tuple xs=>y16 p h σ τ L l xs
 |_,_=>none
def y16 (p:Prim) (h:List AO) (σ τ:List (Option Nat)) (L:List (Option AO)):List VT→List AV→Option u3z
 |[],[]=>some ([],[])
 |t::ts,x::xs=>match z3b p h σ τ L t x,y16 p h σ τ L ts xs with
  |some (c1,v1),some (c2,v2)=>some (c1++c2,v1++v2)
  |_,_=>none
 |_,_=>none
end
def v8j (p:Prim) (h:List AO) (σ τ:List (Option Nat)) (L:List (Option AO)) (env:List (Nat×AV)):List (Nat×VT)→Option u3z
 |[]=>some ([],[])
 |(k,t)::ts=>match z3b p h σ τ L t (z00 env k),v8j p h σ τ L env ts with
  |some (a,v1),some (c2,v2)=>some (a++c2,v1++v2)
  |_,_=>none
def y3y (h:List AO):List OT→List (Option Nat)→Option (List Val)
 |[],[]=>some []
 | .row _::t,some a::σ=>match z0f h a with
  | .row es=>(y3y h t σ).map fun r=> .r es::r
  | .arow es=>match y8u es with
   |some l=>(y3y h t σ).map fun r=> .r l::r
   |none=>none
  |_=>none
 | .row _::t,none::σ=>(y3y h t σ).map fun r=> .r []::r
 | .map::t,some a::σ=>match z0f h a with
  | .map es=>(y3y h t σ).map fun r=> .m es::r
  |_=>none
 | .map::_,none::_=>none
 | .box _::t,some _::σ=>y3y h t σ
 | .box _::_,none::_=>none
 | .loop ..::t,some _::σ=>y3y h t σ
 | .loop ..::_,none::_=>none
 | .dead::t,_::σ=>y3y h t σ
 |_,_=>none
def u9x:LoopState→LoopState→Bool
 | .ready, .ready| .busy, .busy| .done, .done| .exhausted, .exhausted=>true
 |_,_=>false
def u9w:Option Code→Option Code→Bool
 |none,none=>true
 |some .ret,some .ret=>true
 |some (.exit i),some (.exit j)=>Nat.beq i j
 |_,_=>false
def y8n:List Bool→List Bool→Bool
 |[],[]=>true
 |a::l,b::r=>(a==b)&&y8n l r
 |_,_=>false
def x2q (p:Prim) (h:List AO) (b τ:List (Option Nat)) (L:List (Option AO)):List OT→List (Option Nat)→Option u3z
 |[],[]=>some ([],[])
 | .box l::t,some a::σ=>match z0f h a with
  | .box cells=>match y16 p h b τ L l cells,x2q p h b τ L t σ with
   |some (i,v1),some (c2,v2)=>some (i++c2,v1++v2)
   |_,_=>none
  |_=>none
 | .loop st j g pos nt env::t,some a::σ=>match z0f h a with
  | .loop d e k c f env'=>bif u9x st d&&(u9w j e&&(Nat.beq g k&&(y8n pos c&&Nat.beq nt f))) then match v8j p h b τ L env' env,x2q p h b τ L t σ with
   |some (i,v1),some (c2,v2)=>some (i++c2,v1++v2)
   |_,_=>none
   else none
  |_=>none
 | .box _::_,none::_=>none
 | .loop ..::_,none::_=>none
 |_::t,_::σ=>x2q p h b τ L t σ
 |_,_=>none
def x4b:Nat→Nat→List (Option Nat)→Bool
 |_,0,_=>true
 |i,n+1,some a::r=>Nat.beq i a&&x4b (i+1) n r
 |_,_+1,_=>false
def y40:List OT→List (Option Nat)→List (Option Nat)
 | .dead::ts,_::σ=>none::y40 ts σ
 |_::ts,s::σ=>s::y40 ts σ
 |_,_=>[]
def u9t (p:Prim) (n:Nat) (t:ST) (σ:List (Option Nat)) (s:AS):Option u3z:=
 bif Nat.beq s.nt t.nt&&(w2c (y40 t.heap σ)&&x4b 0 n σ) then match y3y s.heap t.heap σ with
  |some v1=>match x2q p s.heap σ (y40 t.heap σ) (z7z t.heap v1).1 t.heap σ,v8j p s.heap σ (y40 t.heap σ) (z7z t.heap v1).1 s.env t.env with
   |some (d,b),some (c,a)=>some (d++c,v1++(b++a))
   |_,_=>none
  |none=>none
 else none
end Go.Am
end
section
namespace Go.Am
def z1j:List Bool→Bool
 |[]=>true
 |b::l=>b&&z1j l
theorem z2u {a b:List Bool} (h:z1j (a++b)=true):z1j a=true∧z1j b=true:=by
 induction a with
 |nil=>exact ⟨rfl,h⟩
 |cons x a c=>
  simp only [eDg,z1j,eAc] at h⊢
  exact ⟨⟨h.1,(c h.2).1⟩,(c h.2).2⟩
section
variable {P:Program}
structure w78 (P:Program) (ρ ρ':Rho) (O':Nat→Prop) (h:List AO) (w:World) (σ τ:List (Option Nat)) (L:List (Option AO)):Prop where
 hr:z0b P ρ h w
 loc:∀ i a,z19 σ i=some (some a)→ρ' i=ρ a
 sub:∀ b,O' b→z0d ρ h b
 out:∀ a M,ρ a=some M→(z0f h a).live=true→y0g τ a=false→¬ O' M.blk
variable {ρ ρ':Rho} {O':Nat→Prop} {h:List AO} {w:World} {σ τ:List (Option Nat)} {L:List (Option AO)}
theorem w0f {P:Program} {ρ ρ':Rho} {O':Nat→Prop} {h:List AO} {w:World} (hr:z0b P ρ h w) {i a z off len b:Nat} (C:ρ' i=ρ a) {es:List (List D)} (p:z0f h a= .row es)
  (k:std.leN (std.add off b) (std.len es)=true) {v:Value} (y:z0n ρ (z0d ρ h) w (.slice a z off len (some b)) v):z0n ρ' O' w (.slice i z off len none) v:=by
 have k:off+b≤es.length:=z2v k
 cases y with
 |slice _ _ _ _ _ M I H s x G n o=>
  have F:b=H:=by
   rcases n with h|⟨h,_⟩
   ·cases h; rfl
   ·cases h
  subst F
  cases l:b with
  |zero=>
   subst l
   have:len=0:=by omega
   subst this
   exact .nils _ _ _ _ _ (.inl rfl)
  |succ m=>
   rw [←l]
   refine .slice _ _ _ _ _ M _ _ (C▸s) x G (.inr ⟨rfl,?_⟩) o
   have f:=(hr.obj _ _ s).2
   rw [p] at f
   obtain ⟨r,c,t,q,j,d⟩:=f
   refine ⟨c.size,by simp [z1a,q],?_⟩
   have g:off+b - 1<es.length:=by omega
   have B:=j _ _ (eAb g)
   have E:M.esz - 1<(es[off+b - 1]).length:=by omega
   obtain ⟨u,A,_⟩:=d _ _ _ _ (eAb g) (eAb E)
   have:=(eAe.1 A).1
   have e:(off+b)*M.esz=(off+b - 1)*M.esz+M.esz:=by
    rw [←Nat.succ_mul]; congr 1; omega
   omega
 |nils _ _ _ _ I n=>exact .nils _ _ _ _ _ (.inl rfl)
theorem z4n {i a:Nat} (h:y70 σ i a=true):z19 σ i=some (some a):=by
 unfold y70 at h
 split at h
 ·rename_i b c; rw [c,eAd h]
 ·cases h
theorem w78.keep (c:w78 P ρ ρ' O' h w σ τ L):z43 (z0d ρ h) O' w w:=⟨eAj _,fun _ _ _=>rfl,fun b _ a=>c.sub b a,fun _ _ h=>h,z0u.refl _⟩
theorem w5p (c:w78 P ρ ρ' O' h w σ τ L) {a z off len:Nat} {cap:Option Nat} {es:List (List D)} (hm:y0g τ a=false) (G:z0f h a= .row es) (C:std.leN (std.add off len) (std.len es)=true) {v:Value} (Z:z0n ρ (z0d ρ h) w (.slice a z off len cap) v):
  z1k O' w (.list false z (std.cut es off len)) v:=by
 have C:off+len≤es.length:=z2v C
 show z1k O' w (.list false z ((es.drop off).take len)) v
 cases Z with
 |nils _ _ _ _ a hc=>simp only [eFi]; exact .lnil _ _ _ _ (by simp)
 |slice _ _ _ _ _ M a' cc X Y ha hc hl=>
  obtain ⟨W,A⟩:=c.hr.obj a M X
  rw [G] at A
  obtain ⟨o,cs,t,T,g,x⟩:=A
  cases B:len with
  |zero=>simp only [eFi]; exact .lnil _ _ _ _ (by simp)
  |succ m=>
   rw [←B]
   have f:((es.drop off).take len).length=len:=by simp; omega
   have V:0<len:=by omega
   have b:∀ i r,((es.drop off).take len)[i]?=some r→i<len∧es[off+i]?=some r:=by
    intro i r n
    have q:i<len:=by rw [←f]; exact (eAa.1 n).1
    refine ⟨q,?_⟩
    rw [eDv q,eCg] at n
    exact n
   have y:¬ O' M.blk:=c.out a M X (by rw [G]; rfl) hm
   have U:a'=some ⟨M.blk,M.base+off*M.esz,none⟩:=ha (by omega)
   subst Y
   subst U
   have s:∀ k,k<len*M.esz→∃ u,cs[M.base+off*M.esz+k]?=some u∧u.oneCell'=true∧∀ d,(∃ r,((es.drop off).take len)[k / M.esz]?=some r∧r[k % M.esz]?=some d)→z1k O' w d u:=by
    intro k N
    have n:k / M.esz<len:=(eDt o).2 N
    have q:k / M.esz<((es.drop off).take len).length:=by rw [f]; exact n
    have he:=(b (k / M.esz) _ (eAb q)).2
    generalize ((es.drop off).take len)[k / M.esz]=r at he
    have J:=g _ r he
    have F:k % M.esz<r.length:=by rw [J]; exact eFc _ o
    obtain ⟨u,p,I,S⟩:=x _ r _ r[k % M.esz] he (eAb F)
    have Q:M.base+(off+k / M.esz)*M.esz+k % M.esz=M.base+off*M.esz+k:=by
     have:=Nat.div_add_mod k M.esz
     rw [eAr,eDo (k / M.esz)]; omega
    rw [Q] at p
    refine ⟨u,p,I,fun d R=>?_⟩
    obtain ⟨r',K,H⟩:=R
    have:=(b _ _ K).2
    rw [he] at this; cases this
    rw [eAb F] at H; cases H
    exact S.keep c.keep
   have key:=z1k.list (O:=O') (w:=w) false ((es.drop off).take len) M.blk (M.base+off*M.esz) M.esz cc o
    (by intro e; rw [e] at f; simp at f; omega) y (by rw [f]; exact hl) (by simp) (fun i r n=>g _ r (b i r n).2)
    (fun k=>(cs[M.base+off*M.esz+k]?).getD undef) (fun k l=>?_) (fun k l=>?_) (fun i r j d n F=>?_)
   ·rw [f] at key; exact key
   ·rw [f] at l
    obtain ⟨u,p,I,_⟩:=s k l
    rw [p]; exact I
   ·rw [f] at l
    obtain ⟨u,p,I,_⟩:=s k l
    rw [p]; exact y34 T p
   ·have E:j<M.esz:=by rw [←g _ r (b i r n).2]; exact (eAa.1 F).1
    have hil:=(b i r n).1
    have l:i*M.esz+j<len*M.esz:=by
     have:(i+1)*M.esz≤len*M.esz:=eAv _ (by omega)
     rw [eAr,Nat.one_mul] at this; omega
    obtain ⟨u,p,_,S⟩:=s _ l
    rw [p]
    refine S d ⟨r,?_,?_⟩
    ·rw [show (i*M.esz+j) / M.esz=i by rw [eDo,Nat.mul_add_div o,Nat.div_eq_of_lt E,eBa]]; exact n
    ·rw [show (i*M.esz+j) % M.esz=j by rw [eDo,Nat.mul_add_mod,eDh E]]; exact F
theorem w94 (c:w78 P ρ ρ' O' h w σ τ L) {a z off len:Nat} {es:List (List D)} (hm:y0g τ a=false) (r:z0f h a= .row es) (i:std.leN (std.add off len) (std.len es)=true) {v:Value} (f:z0n ρ (z0d ρ h) w (.slice a z off len (some len)) v):
  z1k O' w (.list true z (std.cut es off len)) v:=by
 have h:=w5p c hm r i f
 have u:off+len≤es.length:=z2v i
 have g:(std.cut es off len).length=len:=by
  show ((es.drop off).take len).length=len
  simp; omega
 have l:∃ e,v= .slice e len len:=by
  have key:∀ k,k=len→z0n ρ (z0d ρ ‹List AO›) w (.slice a z off k (some len)) v→∃ e,v= .slice e len len:=by
   intro k x f
   cases f with
   |nils _ _ _ _ e d=>
    rcases d with d|d
    ·cases d
    ·cases d; exact ⟨e,rfl⟩
   |slice _ _ _ _ _ M e j F t E d C=>
    subst x
    rcases d with d|⟨d,_⟩
    ·cases d; exact ⟨e,rfl⟩
    ·cases d
  exact key len rfl f
 obtain ⟨e,rfl⟩:=l
 generalize std.cut es off len=q at h g
 have key:∀ v,v=Value.slice e len len→z1k O' w (.list false z q) v→z1k O' w (.list true z q) v:=by
  intro v f h
  cases h with
  |lnil _ _ b j A=>
   simp at g
   cases f
   exact .lnil _ _ _ _ (fun _=>g.symm)
  |list _ _ b o _ j t n hO p A m cell B d y=>
   have s:j=q.length:=by
    have G:j=len:=by cases f; rfl
    omega
   exact .list true _ b o _ j t n hO p (fun _=>s) m cell B d y
 exact key _ rfl h
theorem x34 {O:Nat→Prop} {ρ:Rho} (xs:List AV) (vs:Array Value) (a:vs.size=xs.length) (b:∀ (i:Nat) (x:AV),xs[i]?=some x→z0n ρ O w x (vs.getD i undef)):z0n ρ O w (v5l xs) (.agg vs):=by
 unfold v5l
 split
 ·rename_i ds hds
  have e:=z17 hds
  refine .d (.agg _ _ (by rw [a,e,z0z]) fun i d c=>?_)
  have:=b i (.d d) (by rw [e,z1l,c]; rfl)
  cases this; assumption
 ·exact .agg _ _ a b
theorem x33 {O:Nat→Prop} {ρ:Rho} (xs:List AV) (b o:Nat) (cell:Nat→Value) (hO:¬ O b) (g:∀ k,k<xs.length→w.cell? ⟨b,o+k,none⟩=some (cell k)) (c:∀ (i:Nat) (x:AV),xs[i]?=some x→z0n ρ O w x (cell i)):z0n ρ O w (v5k xs) (.pointer (some ⟨b,o,none⟩)):=by
 unfold v5k
 split
 ·rename_i d ds hds
  have e:=z17 hds
  refine .d (.ref _ b o (by simp) hO cell (fun k a=>g k (by rw [e,z0z]; exact a)) fun i h f=>?_)
  have:=c i (.d h) (by rw [e,z1l,f]; rfl)
  cases this; assumption
 ·exact .bot _
theorem v1f {k a:IntKind} (h:(k==a)=true):k=a:=by simpa using h
def VOk (ρ ρ':Rho) (O O':Nat→Prop) (w:World) (L:List (Option AO)) (t:VT) (x:AV) (a:List Val):Prop:=
 ∀ rest,(v0k std L t (a++rest)).2=rest∧∀ v,z0n ρ O w x v→z0n ρ' O' w (v0k std L t (a++rest)).1 v
def VsOk (ρ ρ':Rho) (O O':Nat→Prop) (w:World) (L:List (Option AO)) (ts:List VT) (xs:List AV) (a:List Val):Prop:=
 ∀ rest,(z68 std L ts (a++rest)).2=rest∧(z68 std L ts (a++rest)).1.length=xs.length∧
  ∀ (f:Nat→Value),(∀ i x,xs[i]?=some x→z0n ρ O w x (f i))→∀ i y,(z68 std L ts (a++rest)).1[i]?=some y→z0n ρ' O' w y (f i)
theorem z7q {a b:Nat} (h:std.eqN a b=true):a=b:=eAd h
mutual
theorem w5y (c:w78 P ρ ρ' O' h w σ τ L):(t:VT)→(x:AV)→(cs:List Bool)→(ws:List Val)→z3b std h σ τ L t x=some (cs,ws)→z1j cs=true→VOk ρ ρ' (z0d ρ h) O' w L t x ws
 | .bot,x,cs,ws,hf,hc=>by
  cases x<;>(simp only [z3b] at hf; cases hf; exact fun rest=>⟨rfl,fun v hv=> .bot v⟩)
 | .int k,x,cs,ws,hf,hc=>by
  cases x with
  |d d=>
   cases d with
   |int k' n=>
    simp only [z3b] at hf
    cases hk:(k==k') with
    |false=>rw [hk] at hf; cases hf
    |true=>
     rw [hk] at hf; cases hf
     have:=v1f hk; subst this
     exact fun rest=>⟨rfl,fun v hv=>by cases hv with|d hv=>exact .d (hv.keep c.keep)⟩
   |_=>simp only [z3b] at hf; cases hf
  |_=>simp only [z3b] at hf; cases hf
 | .bool,x,cs,ws,hf,hc=>by
  cases x with
  |d d=>
   cases d with
   |bool b=>simp only [z3b] at hf; cases hf; exact fun rest=>⟨rfl,fun v hv=>by cases hv with|d hv=>exact .d (hv.keep c.keep)⟩
   |_=>simp only [z3b] at hf; cases hf
  |_=>simp only [z3b] at hf; cases hf
 | .str,x,cs,ws,hf,hc=>by
  cases x with
  |d d=>
   cases d with
   |str b=>simp only [z3b] at hf; cases hf; exact fun rest=>⟨rfl,fun v hv=>by cases hv with|d hv=>exact .d (hv.keep c.keep)⟩
   |_=>simp only [z3b] at hf; cases hf
  |_=>simp only [z3b] at hf; cases hf
 | .list z,x,cs,ws,hf,hc=>by
  cases x with
  |d d=>
   cases d with
   |list f z' es=>
    simp only [z3b] at hf
    cases hz:Nat.beq z z' with
    |true=>
     rw [hz] at hf; cases hf
     have:=eAd hz; subst this
     exact fun rest=>⟨rfl,fun v hv=>by cases hv with|d hv=>exact .d ((hv.keep c.keep).le (show DLe (.list f z es) (.list false z es) from .inl (Or.inr (Or.inl ⟨z,rfl,Or.inl rfl⟩))))⟩
    |false=>
     rw [hz] at hf
     cases es with
     |nil=>cases hf; exact fun rest=>⟨rfl,fun v hv=>by cases hv with|d hv=>exact .d ((hv.keep c.keep).le (show DLe (.list f z' []) (.list false z []) from .inl (Or.inr (Or.inl ⟨z,rfl,Or.inr rfl⟩))))⟩
     |cons _ _=>cases hf
   |_=>simp only [z3b] at hf; cases hf
  |slice a z' off len cap=>
   simp only [z3b] at hf
   cases hm:y0g τ a with
   |true=>rw [hm] at hf; cases hf
   |false=>
    rw [hm] at hf; simp only [cond_false] at hf
    cases hz:Nat.beq z z' with
    |false=>rw [hz] at hf; cases hf
    |true=>
     rw [hz] at hf; simp only [cond_true] at hf
     have:=eAd hz; subst this
     split at hf
     ·rename_i es hes
      cases hf
      simp only [z1j,eCu] at hc
      exact fun rest=>⟨rfl,fun v hv=> .d (w5p c hm hes hc hv)⟩
     ·cases hf
  |_=>simp only [z3b] at hf; cases hf
 | .lst z,x,cs,ws,hf,hc=>by
  cases x with
  |d d=>
   cases d with
   |list f z' es=>
    simp only [z3b] at hf
    cases hz:Nat.beq z z' with
    |true=>
     rw [hz] at hf; cases hf
     have:=eAd hz; subst this
     simp only [z1j,eCu] at hc
     subst hc
     exact fun rest=>⟨rfl,fun v hv=>by cases hv with|d hv=>exact .d (hv.keep c.keep)⟩
    |false=>
     rw [hz] at hf
     cases es with
     |nil=>
      cases hf
      simp only [z1j,eCu] at hc
      subst hc
      refine fun rest=>⟨rfl,fun v hv=>?_⟩
      cases hv with|d hv=>
      cases hv with
      |lnil _ _ a cc h=>exact .d (.lnil _ _ _ _ h)
      |list _ _ _ _ _ _ _ hne=>exact absurd rfl hne
     |cons _ _=>cases hf
   |_=>simp only [z3b] at hf; cases hf
  |slice a z' off len cap=>
   cases cap with
   |none=>simp only [z3b] at hf; cases hf
   |some k=>
   simp only [z3b] at hf
   cases hm:y0g τ a with
   |true=>rw [hm] at hf; cases hf
   |false=>
    rw [hm] at hf; simp only [cond_false] at hf
    cases hz:Nat.beq z z' with
    |false=>rw [hz] at hf; cases hf
    |true=>
     rw [hz] at hf; simp only [cond_true] at hf
     have:=eAd hz; subst this
     split at hf
     ·rename_i es hes
      cases hf
      simp only [z1j,eCu,eAc] at hc
      have hk:=z7q hc.2
      subst hk
      exact fun rest=>⟨rfl,fun v hv=> .d (w94 c hm hes hc.1 hv)⟩
     ·cases hf
  |_=>simp only [z3b] at hf; cases hf
 | .prm,x,cs,ws,hf,hc=>by
  cases x with
  |perm es=>
   simp only [z3b] at hf
   cases hf
   exact fun rest=>⟨rfl,fun v hv=>by cases hv with|perm _ es' _ hp h=>exact .perm _ es' _ hp (h.keep c.keep)⟩
  |_=>simp only [z3b] at hf; cases hf
 | .ifc t,x,cs,ws,hf,hc=>by
  cases x with
  |iface t' y=>
   simp only [z3b] at hf
   cases ht:Nat.beq t t' with
   |false=>rw [ht] at hf; cases hf
   |true=>
    rw [ht] at hf; cases hf
    have:=eAd ht; subst this
    exact fun rest=>⟨rfl,fun v hv=>by cases hv with|iface _ _ u h=>exact .iface _ _ u (.bot u)⟩
  |_=>simp only [z3b] at hf; cases hf
 | .nilp,x,cs,ws,hf,hc=>by
  cases x with
  |d d=>cases d<;>simp only [z3b] at hf<;>cases hf; exact fun rest=>⟨rfl,fun v hv=>by cases hv with|d hv=>exact .d (hv.keep c.keep)⟩
  |_=>simp only [z3b] at hf; cases hf
 | .nilm,x,cs,ws,hf,hc=>by
  cases x with
  |d d=>cases d<;>simp only [z3b] at hf<;>cases hf; exact fun rest=>⟨rfl,fun v hv=>by cases hv with|d hv=>exact .d (hv.keep c.keep)⟩
  |_=>simp only [z3b] at hf; cases hf
 | .nils,x,cs,ws,hf,hc=>by
  cases x with
  |d d=>
   cases d with
   |list f z es=>
    cases f with
    |false=>cases es<;>(simp only [z3b] at hf; cases hf)
    |true=>
     cases es with
     |cons _ _=>simp only [z3b] at hf; cases hf
     |nil=>
      simp only [z3b] at hf
      cases hf
      refine fun rest=>⟨rfl,fun v hv=>?_⟩
      cases hv with|d hv=>
      cases hv with
      |lnil _ _ a cc h=>exact .d (.lnil _ _ _ _ h)
      |list _ _ _ _ _ _ _ hne=>exact absurd rfl hne
   |_=>simp only [z3b] at hf; cases hf
  |_=>simp only [z3b] at hf; cases hf
 | .nilf,x,cs,ws,hf,hc=>by
  cases x with
  |d d=>cases d<;>simp only [z3b] at hf<;>cases hf; exact fun rest=>⟨rfl,fun v hv=>by cases hv with|d hv=>exact .d (hv.keep c.keep)⟩
  |_=>simp only [z3b] at hf; cases hf
 | .nili,x,cs,ws,hf,hc=>by
  cases x with
  |d d=>cases d<;>simp only [z3b] at hf<;>cases hf; exact fun rest=>⟨rfl,fun v hv=>by cases hv with|d hv=>exact .d (hv.keep c.keep)⟩
  |_=>simp only [z3b] at hf; cases hf
 | .agg l,x,cs,ws,hf,hc=>by
  cases x with
  |d d=>
   cases d with
   |agg ds=>
    simp only [z3b] at hf
    have ih:=z52 c l (toA ds) cs ws hf hc
    intro rest
    obtain ⟨a,b,e⟩:=ih rest
    refine ⟨a,fun v hv=>?_⟩
    cases hv with|d hv=>
    cases hv with|agg _ vs hl hh=>
    refine x34 _ vs (by rw [b,z0z]; exact hl) (e (fun i=>vs.getD i undef) (fun i x hx=>?_))
    rw [z1l] at hx
    cases hq:ds[i]? with
    |none=>rw [hq] at hx; cases hx
    |some d=>rw [hq] at hx; cases hx; exact .d (hh i d hq)
   |_=>simp only [z3b] at hf; cases hf
  |agg xs=>
   simp only [z3b] at hf
   have ih:=z52 c l xs cs ws hf hc
   intro rest
   obtain ⟨a,b,e⟩:=ih rest
   refine ⟨a,fun v hv=>?_⟩
   cases hv with|agg _ vs hl hh=>
   exact x34 _ vs (by rw [b]; exact hl) (e (fun i=>vs.getD i undef) hh)
  |_=>simp only [z3b] at hf; cases hf
 | .ref l,x,cs,ws,hf,hc=>by
  cases x with
  |d d=>
   cases d with
   |ref ds=>
    simp only [z3b] at hf
    have ih:=z52 c l (toA ds) cs ws hf hc
    intro rest
    obtain ⟨a,b,e⟩:=ih rest
    refine ⟨a,fun v hv=>?_⟩
    cases hv with|d hv=>
    cases hv with|ref _ bb o hne hO cell hcc hh=>
    refine x33 _ bb o cell (fun h=>hO (c.sub _ h)) (fun k hk=>hcc k (by rw [b,z0z] at hk; exact hk)) (e cell (fun i x hx=>?_))
    rw [z1l] at hx
    cases hq:ds[i]? with
    |none=>rw [hq] at hx; cases hx
    |some d=>rw [hq] at hx; cases hx; exact .d (hh i d hq)
   |_=>simp only [z3b] at hf; cases hf
  |bptr a off=>
   simp only [z3b] at hf
   cases hm:y0g τ a with
   |true=>rw [hm] at hf; cases hf
   |false=>
    rw [hm] at hf; simp only [cond_false] at hf
    split at hf
    ·rename_i cells hcells
     have ih:=z52 c l cells cs ws hf hc
     intro rest
     obtain ⟨a',b',e⟩:=ih rest
     refine ⟨a',fun v hv=>?_⟩
     cases hv with|bptr _ _ M hM=>
     obtain ⟨hblk,hob⟩:=c.hr.obj a M hM
     rw [hcells] at hob
     obtain ⟨_,cc,t,hcc,hj⟩:=hob
     have hown:¬ O' M.blk:=c.out a M hM (by rw [hcells]; rfl) hm
     have hget:∀ k x,cells[k]?=some x→∃ u,cc[M.base+k]?=some u∧(cc[M.base+k]?).getD undef=u∧z0n ρ (z0d ρ h) w x u:=fun k x hx=>by
      obtain ⟨u,hu,hr⟩:=hj k x hx
      exact ⟨u,hu,by rw [hu]; rfl,hr⟩
     exact x33 _ M.blk M.base (fun k=>(cc[M.base+k]?).getD undef) hown (fun k hk=>by
      rw [b'] at hk
      obtain ⟨u,hu,h2,_⟩:=hget k _ (eAb hk)
      rw [h2]; exact y34 hcc hu) (e (fun k=>(cc[M.base+k]?).getD undef) (fun i x hx=>by
      obtain ⟨u,hu,h2,h3⟩:=hget i x hx
      rw [h2]; exact h3))
    ·cases hf
  |_=>simp only [z3b] at hf; cases hf
 | .bptr i off,x,cs,ws,hf,hc=>by
  cases x with
  |bptr a off'=>
   simp only [z3b] at hf
   cases hb:y70 σ i a&&Nat.beq off off' with
   |false=>rw [hb] at hf; cases hf
   |true=>
    rw [hb] at hf; cases hf
    simp only [eAc] at hb
    have:=eAd hb.2; subst this
    exact fun rest=>⟨rfl,fun v hv=>by cases hv with|bptr _ _ M hM=>exact .bptr _ _ M (by rw [c.loc _ _ (z4n hb.1)]; exact hM)⟩
  |_=>simp only [z3b] at hf; cases hf
 | .ptr i off,x,cs,ws,hf,hc=>by
  cases x with
  |ptr a j off'=>
   simp only [z3b] at hf
   cases hb:y70 σ i a&&Nat.beq off off' with
   |false=>rw [hb] at hf; cases hf
   |true=>
    rw [hb] at hf; cases hf
    simp only [eAc] at hb
    have:=eAd hb.2; subst this
    exact fun rest=>⟨rfl,fun v hv=>by cases hv with|ptr _ _ _ M hM=>exact .ptr _ _ _ M (by rw [c.loc _ _ (z4n hb.1)]; exact hM)⟩
  |_=>simp only [z3b] at hf; cases hf
 | .vec i z,x,cs,ws,hf,hc=>by
  cases x with
  |slice a z' off len cap=>
   cases cap with
   |some cp=>
    simp only [z3b] at hf
    cases hb:y70 σ i a&&Nat.beq z z' with
    |false=>rw [hb] at hf; cases hf
    |true=>
     rw [hb] at hf; simp only [cond_true] at hf
     simp only [eAc] at hb
     have:=eAd hb.2; subst this
     split at hf
     ·rename_i es hes
      cases hf
      simp only [z1j,eCu,eAc] at hc
      have e1:=z7q hc.1
      have e2:=z7q hc.2.1
      refine fun rest=>⟨rfl,fun v hv=>?_⟩
      show z0n ρ' O' w (.slice i z 0 (z7h std L i) none) v
      have hle:=hc.2.2
      subst e1
      rw [←e2]
      exact w0f c.hr (c.loc _ _ (z4n hb.1)) hes hle hv
     ·cases hf
   |none=>
    simp only [z3b] at hf
    cases hb:y70 σ i a&&Nat.beq z z' with
    |false=>rw [hb] at hf; cases hf
    |true=>
     rw [hb] at hf; cases hf
     simp only [eAc] at hb
     have:=eAd hb.2; subst this
     simp only [z1j,eCu,eAc] at hc
     have e1:=z7q hc.1
     have e2:=z7q hc.2
     refine fun rest=>⟨rfl,fun v hv=>?_⟩
     show z0n ρ' O' w (.slice i z 0 (z7h std L i) none) v
     subst e1
     rw [←e2]
     cases hv with
     |slice _ _ _ _ _ M a' cc hM hz ha hcc hl=>exact .slice _ _ _ _ _ M _ _ (by rw [c.loc _ _ (z4n hb.1)]; exact hM) hz ha hcc hl
     |nils _ _ _ _ a' hcc=>exact .nils _ _ _ _ _ hcc
  |d d=>
   cases d with
   |list f z' es=>
    cases f with
    |false=>cases es<;>(simp only [z3b] at hf; cases hf)
    |true=>
     cases es with
     |cons _ _=>simp only [z3b] at hf; cases hf
     |nil=>
      simp only [z3b] at hf
      cases hb:w9w σ i with
      |false=>rw [hb] at hf; cases hf
      |true=>
       rw [hb] at hf; simp only [cond_true] at hf
       split at hf
       ·rename_i hL
        cases hf
        refine fun rest=>⟨rfl,fun v hv=>?_⟩
        show z0n ρ' O' w (.slice i z 0 (z7h std L i) none) v
        have:z7h std L i=0:=by simp [z7h,hL,std]
        rw [this]
        cases hv with|d hv=>
        cases hv with
        |lnil _ _ a' cc hcc=>rw [hcc rfl]; exact .nils _ _ _ _ _ (.inl rfl)
        |list _ _ _ _ _ _ _ hne=>exact absurd rfl hne
       ·cases hf
   |_=>simp only [z3b] at hf; cases hf
  |_=>simp only [z3b] at hf; cases hf
 | .full i z,x,cs,ws,hf,hc=>by
  cases x with
  |slice a z' off len cap=>
   cases cap with
   |none=>simp only [z3b] at hf; cases hf
   |some cp=>
    simp only [z3b] at hf
    cases hb:y70 σ i a&&Nat.beq z z' with
    |false=>rw [hb] at hf; cases hf
    |true=>
     rw [hb] at hf; cases hf
     simp only [eAc] at hb
     have:=eAd hb.2; subst this
     simp only [z1j,eCu,eAc] at hc
     have e1:=z7q hc.1
     have e2:=z7q hc.2.1
     have e3:=z7q hc.2.2
     refine fun rest=>⟨rfl,fun v hv=>?_⟩
     show z0n ρ' O' w (.slice i z 0 (z7h std L i) (some (z7h std L i))) v
     subst e1
     rw [←e2]
     rw [e3, ←e2] at hv
     cases hv with
     |slice _ _ _ _ _ M a' cc hM hz ha hcc hl=>exact .slice _ _ _ _ _ M _ _ (by rw [c.loc _ _ (z4n hb.1)]; exact hM) hz ha hcc hl
     |nils _ _ _ _ a' hcc=>exact .nils _ _ _ _ _ hcc
  |_=>simp only [z3b] at hf; cases hf
 | .sl i z,x,cs,ws,hf,hc=>by
  cases x with
  |slice a z' off len cap=>
   cases cap with
   |some cp=>
    simp only [z3b] at hf
    cases hb:y70 σ i a&&Nat.beq z z' with
    |false=>rw [hb] at hf; cases hf
    |true=>
     rw [hb] at hf; simp only [cond_true] at hf
     simp only [eAc] at hb
     have:=eAd hb.2; subst this
     split at hf
     ·rename_i es hes
      cases hf
      simp only [z1j,eCu] at hc
      refine fun rest=>⟨rfl,fun v hv=>?_⟩
      show z0n ρ' O' w (.slice i z off len none) v
      exact w0f c.hr (c.loc _ _ (z4n hb.1)) hes hc hv
     ·cases hf
   |none=>
    simp only [z3b] at hf
    cases hb:y70 σ i a&&Nat.beq z z' with
    |false=>rw [hb] at hf; cases hf
    |true=>
     rw [hb] at hf; cases hf
     simp only [eAc] at hb
     have:=eAd hb.2; subst this
     refine fun rest=>⟨rfl,fun v hv=>?_⟩
     show z0n ρ' O' w (.slice i z off len none) v
     cases hv with
     |slice _ _ _ _ _ M a' cc hM hz ha hcc hl=>exact .slice _ _ _ _ _ M _ _ (by rw [c.loc _ _ (z4n hb.1)]; exact hM) hz ha hcc hl
     |nils _ _ _ _ a' hcc=>exact .nils _ _ _ _ _ hcc
  |d d=>
   cases d with
   |list f z' es=>
    cases f with
    |false=>cases es<;>(simp only [z3b] at hf; cases hf)
    |true=>
     cases es with
     |cons _ _=>simp only [z3b] at hf; cases hf
     |nil=>
      simp only [z3b] at hf
      cases hb:w9w σ i with
      |false=>rw [hb] at hf; cases hf
      |true=>
       rw [hb] at hf; simp only [cond_true] at hf
       split at hf
       ·rename_i hL
        cases hf
        refine fun rest=>⟨rfl,fun v hv=>?_⟩
        show z0n ρ' O' w (.slice i z 0 0 none) v
        cases hv with|d hv=>
        cases hv with
        |lnil _ _ a' cc hcc=>rw [hcc rfl]; exact .nils _ _ _ _ _ (.inl rfl)
        |list _ _ _ _ _ _ _ hne=>exact absurd rfl hne
       ·cases hf
   |_=>simp only [z3b] at hf; cases hf
  |_=>simp only [z3b] at hf; cases hf
 | .slc i z,x,cs,ws,hf,hc=>by
  cases x with
  |slice a z' off len cap=>
   cases cap with
   |none=>simp only [z3b] at hf; cases hf
   |some cp=>
    simp only [z3b] at hf
    cases hb:y70 σ i a&&Nat.beq z z' with
    |false=>rw [hb] at hf; cases hf
    |true=>
     rw [hb] at hf; cases hf
     simp only [eAc] at hb
     have:=eAd hb.2; subst this
     refine fun rest=>⟨rfl,fun v hv=>?_⟩
     show z0n ρ' O' w (.slice i z off len (some cp)) v
     cases hv with
     |slice _ _ _ _ _ M a' cc hM hz ha hcc hl=>exact .slice _ _ _ _ _ M _ _ (by rw [c.loc _ _ (z4n hb.1)]; exact hM) hz ha hcc hl
     |nils _ _ _ _ a' hcc=>exact .nils _ _ _ _ _ hcc
  |_=>simp only [z3b] at hf; cases hf
 | .map i,x,cs,ws,hf,hc=>by
  cases x with
  |map a=>
   simp only [z3b] at hf
   cases hb:y70 σ i a with
   |false=>rw [hb] at hf; cases hf
   |true=>
    rw [hb] at hf; cases hf
    exact fun rest=>⟨rfl,fun v hv=>by cases hv with|map _ M hM=>exact .map _ M (by rw [c.loc _ _ (z4n hb)]; exact hM)⟩
  |_=>simp only [z3b] at hf; cases hf
 | .yld i,x,cs,ws,hf,hc=>by
  cases x with
  |yld a=>
   simp only [z3b] at hf
   cases hb:y70 σ i a with
   |false=>rw [hb] at hf; cases hf
   |true=>
    rw [hb] at hf; cases hf
    exact fun rest=>⟨rfl,fun v hv=>by cases hv with|yld _ M hM=>exact .yld _ M (by rw [c.loc _ _ (z4n hb)]; exact hM)⟩
  |_=>simp only [z3b] at hf; cases hf
 | .clo fn fs ds,x,cs,ws,hf,hc=>by
  cases x with
  |clo fn' fs' ds'=>
   cases fn' with
   |func g=>
    simp only [z3b] at hf
    cases hb:Nat.beq fn g with
    |false=>rw [hb] at hf; cases hf
    |true=>
     rw [hb] at hf; simp only [cond_true] at hf
     have:=eAd hb; subst this
     split at hf
     ·rename_i c1 v1 c2 v2 h1 h2
      cases hf
      obtain ⟨q1,q2⟩:=z2u hc
      have i1:=z52 c fs fs' c1 v1 h1 q1
      have i2:=z52 c ds ds' c2 v2 h2 q2
      intro rest
      obtain ⟨a1,b1,e1⟩:=i1 (v2++rest)
      obtain ⟨a2,b2,e2⟩:=i2 rest
      simp only [v0k,eCr]
      rw [a1]
      refine ⟨a2,fun v hv=>?_⟩
      cases hv with|clo _ _ _ vf vc hl1 hl2 r1 r2=>
      exact .clo _ _ _ vf vc (by rw [b1]; exact hl1) (by rw [b2]; exact hl2) (e1 (fun i=>vf.getD i undef) r1) (e2 (fun i=>vc.getD i undef) r2)
     ·cases hf
   |_=>simp only [z3b] at hf; cases hf
  |_=>simp only [z3b] at hf; cases hf
 | .tuple l,x,cs,ws,hf,hc=>by
  cases x with
  |tuple xs=>
   simp only [z3b] at hf
   have ih:=z52 c l xs cs ws hf hc
   intro rest
   obtain ⟨a,b,e⟩:=ih rest
   refine ⟨a,fun v hv=>?_⟩
   cases hv with|tuple _ vs hl hh=>
   exact .tuple _ vs (by rw [b]; exact hl) (e (fun i=>vs.getD i undef) hh)
  |_=>simp only [z3b] at hf; cases hf
theorem z52 (c:w78 P ρ ρ' O' h w σ τ L):(ts:List VT)→(xs:List AV)→(cs:List Bool)→(ws:List Val)→y16 std h σ τ L ts xs=some (cs,ws)→z1j cs=true→VsOk ρ ρ' (z0d ρ h) O' w L ts xs ws
 |[],xs,cs,ws,hf,hc=>by
  cases xs with
  |nil=>simp only [y16] at hf; cases hf; exact fun rest=>⟨rfl,rfl,fun f hf i y hy=>by simp [z68] at hy⟩
  |cons _ _=>simp only [y16] at hf; cases hf
 |t::ts,xs,cs,ws,hf,hc=>by
  cases xs with
  |nil=>simp only [y16] at hf; cases hf
  |cons x xs=>
   simp only [y16] at hf
   split at hf
   ·rename_i c1 v1 c2 v2 h1 h2
    cases hf
    obtain ⟨q1,q2⟩:=z2u hc
    have i1:=w5y c t x c1 v1 h1 q1
    have i2:=z52 c ts xs c2 v2 h2 q2
    intro rest
    obtain ⟨a1,e1⟩:=i1 (v2++rest)
    obtain ⟨a2,b2,e2⟩:=i2 rest
    simp only [z68,eCr]
    rw [a1]
    refine ⟨a2,by simp [b2],fun f hff i y hy=>?_⟩
    cases i with
    |zero=>simp at hy; subst hy; exact e1 _ (hff 0 x rfl)
    |succ i=>exact e2 (fun i=>f (i+1)) (fun i x hx=>hff (i+1) x (by simpa using hx)) i y (by simpa using hy)
   ·cases hf
end
end
end Go.Am
end
section
namespace Go.Am
def v2j (h:List AO) (a:Nat) (es:List (List D)):Prop:=z0f h a= .row es∨∃ b,z0f h a= .arow b∧y8u b=some es
def LOk (h:List AO):List OT→List (Option Nat)→List (Option AO)→Prop
 |[],[],[]=>True
 | .row _::t,some a::σ,some (.row es)::L=>v2j h a es∧LOk h t σ L
 | .row _::t,none::σ,some (.row [])::L=>LOk h t σ L
 | .map::t,some a::σ,some (.map es)::L=>z0f h a= .map es∧LOk h t σ L
 | .box _::t,some a::σ,none::L=>LOk h t σ L
 | .loop ..::t,some a::σ,none::L=>LOk h t σ L
 | .dead::t,_::σ,none::L=>LOk h t σ L
 |_,_,_=>False
theorem w51 (h:List AO):∀ (t:List OT) (σ:List (Option Nat)) (v:List Val),y3y h t σ=some v→∀ rest,(z7z t (v++rest)).2=rest∧LOk h t σ (z7z t (v++rest)).1∧(z7z t (v++rest)).1=(z7z t v).1:=by
 intro t
 induction t with
 |nil=>
  intro σ v b rest
  cases σ with
  |nil=>simp only [y3y] at b; cases b; exact ⟨rfl,trivial,rfl⟩
  |cons _ _=>simp only [y3y] at b; cases b
 |cons o t k=>
  intro σ v b rest
  cases σ with
  |nil=>cases o<;>(simp only [y3y] at b; cases b)
  |cons s σ=>
   cases o with
   |row u=>
    cases s with
    |some a=>
     simp only [y3y] at b
     split at b
     ·rename_i es i
      cases c:y3y h t σ with
      |none=>rw [c] at b; cases b
      |some j=>
       rw [c] at b; cases b
       obtain ⟨f,e,d⟩:=k σ j c rest
       refine ⟨f,⟨.inl i,e⟩,?_⟩
       exact congrArg (List.cons _) d
     ·rename_i n i
      split at b
      ·rename_i l p
       cases c:y3y h t σ with
       |none=>rw [c] at b; cases b
       |some j=>
        rw [c] at b; cases b
        obtain ⟨f,e,d⟩:=k σ j c rest
        refine ⟨f,⟨.inr ⟨n,i,p⟩,e⟩,?_⟩
        exact congrArg (List.cons _) d
      ·cases b
     ·cases b
    |none=>
     simp only [y3y] at b
     cases c:y3y h t σ with
     |none=>rw [c] at b; cases b
     |some j=>
      rw [c] at b; cases b
      obtain ⟨f,e,d⟩:=k σ j c rest
      refine ⟨f,e,?_⟩
      exact congrArg (List.cons _) d
   |map=>
    cases s with
    |some a=>
     simp only [y3y] at b
     split at b
     ·rename_i es i
      cases c:y3y h t σ with
      |none=>rw [c] at b; cases b
      |some j=>
       rw [c] at b; cases b
       obtain ⟨f,e,d⟩:=k σ j c rest
       refine ⟨f,⟨i,e⟩,?_⟩
       exact congrArg (List.cons _) d
     ·cases b
    |none=>simp only [y3y] at b; cases b
   |box l=>
    cases s with
    |some a=>
     simp only [y3y] at b
     obtain ⟨f,e,d⟩:=k σ v b rest
     refine ⟨f,e,?_⟩
     exact congrArg (List.cons _) d
    |none=>simp only [y3y] at b; cases b
   |loop st q g pos r env=>
    cases s with
    |some a=>
     simp only [y3y] at b
     obtain ⟨f,e,d⟩:=k σ v b rest
     refine ⟨f,e,?_⟩
     exact congrArg (List.cons _) d
    |none=>simp only [y3y] at b; cases b
   |dead=>
    have m:y3y h t σ=some v:=by cases s<;>simpa only [y3y] using b
    obtain ⟨f,e,d⟩:=k σ v m rest
    refine ⟨f,by cases s<;>exact e,?_⟩
    exact congrArg (List.cons _) d
def OOk (ρ ρ':Rho) (O O':Nat→Prop) (h:List AO) (w:World):Option Nat→AO→Prop
 |some a,o=>(o= .dead)∨(∃ es,o= .row es∧v2j h a es)∨(∃ es,o= .map es∧z0f h a= .map es)∨
   (∃ cells b,z0f h a= .box cells∧o= .box b∧b.length=cells.length∧∀ f:Nat→Value,(∀ i x,cells[i]?=some x→z0n ρ O w x (f i))→∀ i y,b[i]?=some y→z0n ρ' O' w y (f i))∨
   (∃ st c g pos nt env env',z0f h a= .loop st c g pos nt env∧o= .loop st c g pos nt env'∧∀ f:Nat→Value,(∀ t,z0n ρ O w (z00 env t) (f t))→∀ t,z0n ρ' O' w (z00 env' t) (f t))
 |none,o=>True
def HOk (ρ ρ':Rho) (O O':Nat→Prop) (h:List AO) (w:World):List (Option Nat)→List AO→Prop
 |[],[]=>True
 |s::σ,o::os=>OOk ρ ρ' O O' h w s o∧HOk ρ ρ' O O' h w σ os
 |_,_=>False
theorem HOk.nth {ρ ρ':Rho} {O O':Nat→Prop} {h:List AO} {w:World}:∀ {σ:List (Option Nat)} {os:List AO},HOk ρ ρ' O O' h w σ os→∀ i s,z19 σ i=some s→OOk ρ ρ' O O' h w s (z0f os i)
 |[],[],_,i,s,b=>by simp [z19] at b
 |s0::σ,o::os,a,i,s,b=>by
  cases i with
  |zero=>simp [z19] at b; subst b; exact a.1
  |succ i=>exact HOk.nth a.2 i s (by simpa [z19] using b)
 |[],_::_,a,_,_,_=>a.elim
 |_::_,[],a,_,_,_=>a.elim
theorem HOk.len {ρ ρ':Rho} {O O':Nat→Prop} {h:List AO} {w:World}:∀ {σ:List (Option Nat)} {os:List AO},HOk ρ ρ' O O' h w σ os→os.length=σ.length
 |[],[],_=>rfl
 |s0::σ,o::os,a=>by simp [HOk.len a.2]
 |[],_::_,a=>a.elim
 |_::_,[],a=>a.elim
theorem w54 {a b:LoopState} (h:u9x a b=true):a=b:=by cases a<;>cases b<;>first|rfl|cases h
theorem w53 {a b:Option Code} (h:u9w a b=true):a=b:=by
 cases a with
 |none=>cases b<;>first|rfl|cases h
 |some a=>
  cases b with
  |none=>cases a<;>cases h
  |some b=>
   cases a<;>cases b<;>first
    |rfl
    |cases h; done
    |(have:=eAd h; subst this; rfl)
theorem y94:∀ {a b:List Bool},y8n a b=true→a=b
 |[],[],_=>rfl
 |[],_::_,h=>by cases h
 |_::_,[],h=>by cases h
 |x::a,y::b,h=>by
  simp only [y8n,eAc,beq_iff_eq] at h
  rw [h.1,y94 h.2]
section
variable {P:Program} {ρ ρ':Rho} {O':Nat→Prop} {h:List AO} {w:World} {σ τ:List (Option Nat)} {L:List (Option AO)}
theorem w5z (c:w78 P ρ ρ' O' h w σ τ L) (env:List (Nat×AV)):∀ (ts:List (Nat×VT)) (cs:List Bool) (d:List Val),v8j std h σ τ L env ts=some (cs,d)→z1j cs=true→
  ∀ rest,(v0m std L ts (d++rest)).2=rest∧∀ f:Nat→Value,(∀ t,z0n ρ (z0d ρ h) w (z00 env t) (f t))→∀ t,z0n ρ' O' w (z00 (v0m std L ts (d++rest)).1 t) (f t):=by
 intro ts
 induction ts with
 |nil=>intro cs d b g rest; simp only [v8j] at b; cases b; exact ⟨rfl,fun f a t=> .bot _⟩
 |cons l ts m=>
  obtain ⟨k,t⟩:=l
  intro cs d b g rest
  simp only [v8j] at b
  split at b
  ·rename_i v v1 u e q p
   cases b
   obtain ⟨j,i⟩:=z2u g
   have n:=w5y c t _ v v1 q j
   obtain ⟨y,s⟩:=n (e++rest)
   obtain ⟨x,r⟩:=m u e p i rest
   simp only [v0m,eCr]
   rw [y]
   refine ⟨x,fun f a t=>?_⟩
   simp only [z00]
   cases o:Nat.beq k t with
   |true=>have:=eAd o; subst this; exact s _ (a k)
   |false=>exact r f a t
  ·cases b
theorem w50 (c:w78 P ρ ρ' O' h w σ τ L):∀ (ts:List OT) (i:List (Option Nat)) (e:List (Option AO)) (cs:List Bool) (m:List Val),LOk h ts i e→x2q std h σ τ L ts i=some (cs,m)→z1j cs=true→
  ∀ rest,(y71 std L e ts (m++rest)).2=rest∧HOk ρ ρ' (z0d ρ h) O' h w i (y71 std L e ts (m++rest)).1:=by
 intro ts
 induction ts with
 |nil=>
  intro i e cs m d b o rest
  cases i with
  |nil=>simp only [x2q] at b; cases b; cases e<;>exact ⟨rfl,trivial⟩
  |cons _ _=>simp only [x2q] at b; cases b
 |cons t ts p=>
  intro i e cs m d b o rest
  cases i with
  |nil=>cases t<;>(simp only [x2q] at b; cases b)
  |cons s i=>
   cases t with
   |row W=>
    cases s with
    |some a=>
     simp only [x2q] at b
     match e,d with
     |some (.row es)::e,d=>
      obtain ⟨k,j⟩:=p i e cs m d.2 b o rest
      exact ⟨k, .inr (.inl ⟨es,rfl,d.1⟩),j⟩
    |none=>
     simp only [x2q] at b
     match e,d with
     |some (.row [])::e,d=>
      obtain ⟨k,j⟩:=p i e cs m d b o rest
      exact ⟨k,trivial,j⟩
   |map=>
    cases s with
    |some a=>
     simp only [x2q] at b
     match e,d with
     |some (.map es)::e,d=>
      obtain ⟨k,j⟩:=p i e cs m d.2 b o rest
      exact ⟨k, .inr (.inr (.inl ⟨es,rfl,d.1⟩)),j⟩
    |none=>
     match e,d with
     |_,d=>simp [LOk] at d
   |dead=>
    have E:x2q std h σ τ L ts i=some (cs,m):=by cases s<;>simpa only [x2q] using b
    have:∃ f,e=none::f∧LOk h ts i f:=by
     match s,e,d with
     |some _,none::f,d=>exact ⟨f,rfl,d⟩
     |none,none::f,d=>exact ⟨f,rfl,d⟩
    obtain ⟨f,rfl,C⟩:=this
    obtain ⟨k,j⟩:=p i f cs m C E o rest
    exact ⟨k,by cases s; exact trivial; exact .inl rfl,j⟩
   |box l=>
    cases s with
    |none=>simp only [x2q] at b; cases b
    |some a=>
     simp only [x2q] at b
     split at b
     ·rename_i cells n
      split at b
      ·rename_i O v1 N q G F
       cases b
       obtain ⟨y,x⟩:=z2u o
       match e,d with
       |none::e,d=>
        obtain ⟨R,Q,V⟩:=z52 c l cells O v1 G y (q++rest)
        obtain ⟨k,j⟩:=p i e N q d F x rest
        simp only [y71,u0p,eCr]
        rw [R]
        exact ⟨k, .inr (.inr (.inr (.inl ⟨cells,_,n,rfl,Q,V⟩))),j⟩
      ·cases b
     ·cases b
   |loop st S g pos T env=>
    cases s with
    |none=>simp only [x2q] at b; cases b
    |some a=>
     simp only [x2q] at b
     split at b
     ·rename_i v z U r A env' B
      cases u:u9x st v&&(u9w S z&&(Nat.beq g U&&(y8n pos r&&Nat.beq T A))) with
      |false=>rw [u] at b; cases b
      |true=>
       rw [u] at b; simp only [cond_true] at b
       simp only [eAc] at u
       obtain ⟨M,K,J,I,H⟩:=u
       have M:=w54 M
       have K:=w53 K
       have J:=eAd J
       have I:=y94 I
       have H:=eAd H
       subst M; subst K; subst J; subst I; subst H
       split at b
       ·rename_i O v1 N q G F
        cases b
        obtain ⟨y,x⟩:=z2u o
        match e,d with
        |none::e,d=>
         obtain ⟨R,Q⟩:=w5z c env' env O v1 G y (q++rest)
         obtain ⟨k,j⟩:=p i e N q d F x rest
         simp only [y71,u0p,eCr]
         rw [R]
         exact ⟨k, .inr (.inr (.inr (.inr ⟨st,S,g,pos,T,env',_,B,rfl,Q⟩))),j⟩
       ·cases b
     ·cases b
theorem y13:∀ {n k:Nat} {σ:List (Option Nat)},x4b k n σ=true→∀ i,i<n→z19 σ i=some (some (k+i))
 |0,k,σ,_,i,b=>by omega
 |n+1,k,[],h,i,b=>by cases h
 |n+1,k,none::r,h,i,b=>by cases h
 |n+1,k,some a::r,h,i,b=>by
  simp only [x4b,eAc] at h
  cases i with
  |zero=>have:=eAd h.1; simp [z19,this]
  |succ i=>
   have:=y13 h.2 i (by omega)
   simp only [z19]; rw [this]; congr 2; omega
def y4h (ρ:Rho) (h:List AO) (σ:List (Option Nat)) (b:Nat):Prop:=ρ.fr b∨∃ i a M,z19 σ i=some (some a)∧(z0f h a).live=true∧ρ a=some M∧M.blk=b
theorem u9u {τ:List (Option Nat)} (hr:z0b P ρ h w):w78 P ρ (ρ.via σ) (y4h ρ h τ) h w σ τ L where
 hr:=hr
 loc:=fun i a hi=>by show (match z19 σ i with|some (some a)=>ρ a|_=>none)=ρ a; rw [hi]
 sub:=fun b hb=>by
  rcases hb with hf|⟨i,a,M,h1,h2,h3,rfl⟩
  ·exact .inl hf
  ·exact .inr ⟨a,M,h3,h2,rfl⟩
 out:=fun a M hM hl hm ho=>by
  rcases ho with hf|⟨i,a',M',h1,h2,h3,h4⟩
  ·exact hr.sep a M hM hl hf
  ·have:=hr.inj a' a M' M h3 hM h2 hl h4
   subst this
   rw [z8n h1] at hm; cases hm
theorem v2j.live {h':List AO} {a:Nat} {es:List (List D)} (h:v2j h' a es):(z0f h' a).live=true:=by
 rcases h with h|⟨b,h,_⟩<;>rw [h]<;>rfl
theorem y38:∀ {a:List (List AV)} {es:List (List D)},y8u a=some es→a=z5m es
 |[],es,h=>by simp [y8u] at h; subst h; rfl
 |x::r,es,h=>by
  simp only [y8u] at h
  split at h
  ·rename_i d l c b
   cases h
   rw [z17 c,y38 b]; rfl
  ·cases h
theorem OOk.live {O:Nat→Prop} {a:Nat} {o:AO} (d:OOk ρ ρ' O O' h w (some a) o) (c:o.live=true):(z0f h a).live=true:=by
 rcases d with rfl|⟨es,rfl,b⟩|⟨es,rfl,b⟩|⟨cells,e,b,rfl,_⟩|⟨st,f,g,pos,i,env,env',b,rfl,_⟩
 ·cases c
 ·exact b.live
 ·rw [b]; rfl
 ·rw [b]; rfl
 ·rw [b]; rfl
theorem w8h (hr:z0b P ρ h w) {τ:List (Option Nat)} (O:w2c τ=true) {h':List AO} (X:∀ i a,z19 σ i=some (some a)→(z0f h' i).live=true→z19 τ i=some (some a)) (N:HOk ρ (ρ.via σ) (z0d ρ h) (y4h ρ h τ) h w σ h'):z0b P (ρ.via σ) h' w∧∀ b,z0d (ρ.via σ) h' b→y4h ρ h τ b:=by
 have p:∀ b,z0d (ρ.via σ) h' b→y4h ρ h τ b:=by
  intro b E
  rcases E with Q|⟨i,M,V,n,rfl⟩
  ·exact .inl Q
  ·obtain ⟨a,A,m⟩:=z39 V
   exact .inr ⟨i,a,M,X i a A n,(N.nth i _ A).live n,m,rfl⟩
 have kp:z43 (z0d ρ h) (z0d (ρ.via σ) h') w w:=⟨eAj _,fun _ _ _=>rfl,fun b _ E=>(u9u (σ:=σ) (τ:=τ) (L:=[]) hr).sub b (p b E),fun _ _ h=>h,z0u.refl _⟩
 have H:z43 (y4h ρ h τ) (z0d (ρ.via σ) h') w w:=⟨eAj _,fun _ _ _=>rfl,fun b _ E=>p b E,fun _ _ h=>h,z0u.refl _⟩
 refine ⟨⟨fun i M V=>?_,fun i j M M' F h2 l1 l2 E=>?_,fun b Q=>hr.fr b Q,fun i M V n Q=>?_,hr.gl.keep kp⟩,p⟩
 ·obtain ⟨a,A,m⟩:=z39 V
  obtain ⟨o1,q⟩:=hr.obj a M m
  refine ⟨o1,?_⟩
  rcases N.nth i _ A with e|⟨es,e,l⟩|⟨es,e,J⟩|⟨cells,ys,S,e,K,Z⟩|⟨st,pd,g,pos,nt,env,env',hlp,e,R⟩
  ·rw [e]; trivial
  ·rw [e]
   rcases l with l|⟨es0,l,hdd⟩
   ·rw [l] at q
    obtain ⟨Y,c,t,z,n,s⟩:=q
    exact ⟨Y,c,t,z,n,fun i r j x B I=>let ⟨v,G,F,o⟩:=s i r j x B I; ⟨v,G,F,o.keep kp⟩⟩
   ·rw [l,y38 hdd] at q
    obtain ⟨Y,c,t,z,n,s⟩:=q
    refine ⟨Y,c,t,z,fun i r B=>?_,fun i r j x B I=>?_⟩
    ·have:=n i (toA r) (by rw [z3e,B]; rfl)
     rwa [z0z] at this
    ·obtain ⟨v,G,F,o⟩:=s i (toA r) j (.d x) (by rw [z3e,B]; rfl) (by rw [z1l,I]; rfl)
     cases o with|d o=>exact ⟨v,G,F,o.keep kp⟩
  ·rw [e]; rw [J] at q
   obtain ⟨en,clk,z,n,s⟩:=q
   exact ⟨en,clk,z,n,fun i k x B=>let ⟨e,he,F,h2⟩:=s i k x B; ⟨e,he,F.keep kp,h2.keep kp⟩⟩
  ·rw [e]; rw [S] at q
   obtain ⟨C,c,t,z,s⟩:=q
   refine ⟨C,c,t,z,fun j y hy=>?_⟩
   have hjl:j<cells.length:=by rw [←K]; exact (eAa.1 hy).1
   obtain ⟨v,G,_⟩:=s j _ (eAb hjl)
   have:=Z (fun j=>(c[M.base+j]?).getD undef) (fun j x I=>by
    obtain ⟨u,hu,hur⟩:=s j x I
    simp only [hu,eBb]; exact hur) j y hy
   simp only [G,eBb] at this
   exact ⟨v,G,this.keep H (fun _ _ h=>h)⟩
  ·rw [e]; rw [hlp] at q
   obtain ⟨x,ps,asg,W,hcd,tm,ds,f,z,n,s⟩:=q
   exact ⟨x,ps,asg,W,hcd,tm,ds,f,z,n,fun t=>(R (fun t=>tm.getD t undef) s t).keep H (fun _ _ h=>h)⟩
 ·obtain ⟨a,A,m⟩:=z39 F
  obtain ⟨a',T,U⟩:=z39 h2
  have:=hr.inj a a' M M' m U ((N.nth i _ A).live l1) ((N.nth j _ T).live l2) E
  subst this
  exact z8r O (X _ _ A l1) (X _ _ T l2)
 ·obtain ⟨a,A,m⟩:=z39 V
  exact hr.sep a M m ((N.nth i _ A).live n) Q
theorem y9q:∀ {ts:List OT} {σ:List (Option Nat)} {i a:Nat},z19 σ i=some (some a)→i<ts.length→ts[i]?≠some .dead→z19 (y40 ts σ) i=some (some a)
 |[],_,i,a,_,h,_=>by simp at h
 |t::ts,[],i,a,h,_,_=>by simp [z19] at h
 |t::ts,s::σ,0,a,h,_,b=>by
  simp [z19] at h; subst h
  cases t<;>first|exact absurd rfl b|rfl
 |t::ts,s::σ,i+1,a,h,c,b=>by
  have:=y9q (ts:=ts) (σ:=σ) (i:=i) (a:=a) (by simpa [z19] using h) (by simpa using c) (by simpa using b)
  cases t<;>exact this
theorem x45:∀ (ts:List OT) (vs:List Val) (i:Nat),ts[i]?=some .dead→z19 (z7z ts vs).1 i=some none
 |[],vs,i,h=>by simp at h
 |t::ts,vs,0,h=>by
  simp at h; subst h; simp [z7z,z19]
 |t::ts,vs,i+1,h=>by
  have a:=fun vs=>x45 ts vs i (by simpa using h)
  cases t<;>cases vs<;>(try (rename_i v vs; cases v))<;>simp only [z7z,z19]<;>exact a _
theorem x44 (p:Prim) (L:List (Option AO)):∀ (os:List (Option AO)) (ts:List OT) (vs:List Val) (i:Nat),ts[i]?=some .dead→z19 os i=some none→z0f (y71 p L os ts vs).1 i= .dead
 |[],ts,vs,i,h,a=>by simp [z19] at a
 |o::os,[],vs,i,h,a=>by simp at h
 |o::os,t::ts,vs,0,h,a=>by
  simp at h; subst h
  simp [z19] at a; subst a
  rfl
 |o::os,t::ts,vs,i+1,h,a=>by
  simp only [y71,z0f]
  exact x44 p L os ts _ i (by simpa using h) (by simpa [z19] using a)
theorem x9z (p:Prim) (L:List (Option AO)):∀ (os:List (Option AO)) (ts:List OT) (vs:List Val),(y71 p L os ts vs).1.length≤ts.length
 |[],ts,vs=>by simp [y71]
 |o::os,[],vs=>by simp [y71]
 |o::os,t::ts,vs=>by
  simp only [y71,eBn]
  exact Nat.succ_le_succ (x9z p L os ts _)
theorem v6t {n : Nat} {t : ST} {s : AS} {cs : List Bool} {vs : List Val} (k : u9t std n t σ s = some (cs, vs)) (Y : z1j cs = true) : z5z n s (w57 std t vs) ∧ n ≤ (w57 std t vs).heap.length := by
  unfold u9t at k
  cases q : Nat.beq s.nt t.nt && (w2c (y40 t.heap σ) && x4b 0 n σ) with
  | false => rw [q] at k; cases k
  | true =>
    rw [q] at k; simp only [cond_true] at k
    simp only [eAc] at q
    obtain ⟨l, x, j⟩ := q
    have l := eAd l
    split at k
    · rename_i v1 G
      split at k
      · rename_i c2 d Z c O N
        cases k
        obtain ⟨T, S⟩ := z2u Y
        obtain ⟨H, a2, a3⟩ := w51 s.heap t.heap σ v1 G (d ++ c)
        have m : ∀ (P : Program) (ρ : Rho) (w : World), z0b P ρ s.heap w → (y71 std (z7z t.heap (v1 ++ (d ++ c))).1 (z7z t.heap (v1 ++ (d ++ c))).1 t.heap (z7z t.heap (v1 ++ (d ++ c))).2).2 = c ∧
            HOk ρ (ρ.via σ) (z0d ρ s.heap) (y4h ρ s.heap (y40 t.heap σ)) s.heap w σ (w57 std t (v1 ++ (d ++ c))).heap ∧
            ∀ f : Nat → Value, (∀ t, z0n ρ (z0d ρ s.heap) w (z00 s.env t) (f t)) → ∀ r, z0n (ρ.via σ) (y4h ρ s.heap (y40 t.heap σ)) w (z00 (w57 std t (v1 ++ (d ++ c))).env r) (f r) := by
          intro P ρ w W
          rw [← a3] at O N
          have Q := u9u (P := P) (σ := σ) (τ := y40 t.heap σ) (L := (z7z t.heap (v1 ++ (d ++ c))).1) W
          obtain ⟨R, b2⟩ := w50 Q t.heap σ (z7z t.heap (v1 ++ (d ++ c))).1 c2 d a2 O T c
          rw [H]
          refine ⟨R, ?_, ?_⟩
          · show HOk _ _ _ _ _ _ _ (y71 std _ _ t.heap (z7z t.heap (v1 ++ (d ++ c))).2).1
            rw [H]; exact b2
          · have := (w5z Q s.env t.env Z c N S []).2
            rw [eCp] at this
            show ∀ f : Nat → Value, _ → ∀ r, z0n _ _ _ (z00 (v0m std _ t.env (y71 std _ _ t.heap (z7z t.heap (v1 ++ (d ++ c))).2).2).1 r) (f r)
            rw [H, R]; exact this
        have p : (w57 std t (v1 ++ (d ++ c))).heap.length = σ.length := by
          have B : z0b default ⟨fun _ => none, fun _ => False⟩ s.heap default :=
            { obj := fun _ _ h => by cases h
              inj := fun _ _ _ _ h => by cases h
              fr := fun _ h => h.elim
              sep := fun _ _ h => by cases h
              gl := { lay := fun _ _ h => by cases h
                      shp := fun g b h => by
                        have : y1e default g = none := by
                          have e : ∀ n, Program.globalNamed default n = none := fun n => rfl
                          simp [y1e, e]
                        rw [this] at h; cases h } }
          exact (m _ _ _ B).2.1.len
        have C : n ≤ σ.length := by
          cases n with
          | zero => omega
          | succ n =>
            have := y13 j n (by omega)
            rw [z1s] at this
            have := (eAa.1 this).1
            omega
        refine ⟨⟨fun {P} ρ tm w v => ?_⟩, by rw [p]; exact C⟩
        obtain ⟨m1, V, U⟩ := m P ρ w v.heap
        obtain ⟨z, u⟩ := w8h v.heap x (fun i a X y => by
          have E : i < t.heap.length := by
            have G : i < (w57 std t (v1 ++ (d ++ c))).heap.length := by
              refine Nat.lt_of_not_le fun F => ?_
              rw [x61 _ _ F] at y; cases y
            exact eAp G (x9z _ _ _ _ _)
          refine y9q X E fun J => ?_
          have : z0f (w57 std t (v1 ++ (d ++ c))).heap i = .dead := x44 _ _ _ _ _ _ J (x45 _ _ _ J)
          rw [this] at y; cases y) V
        have A : z43 (y4h ρ s.heap (y40 t.heap σ)) (z0d (ρ.via σ) (w57 std t (v1 ++ (d ++ c))).heap) w w := ⟨eAj _, fun _ _ _ => rfl, fun b _ q => u b q, fun _ _ h => h, z0u.refl _⟩
        have o : ∀ id, id < n → (ρ.via σ) id = ρ id := fun id hid => by
          have := y13 j id hid
          rw [eAq] at this
          show (match z19 σ id with | some (some a) => ρ a | _ => none) = ρ id
          rw [this]
        refine ⟨ρ.via σ, ⟨z, fun r => (U (fun t => tm.getD t undef) v.env r).keep A (fun _ _ h => h), v.size.trans l, fun id hid => ?_⟩, l.symm, ?_, o⟩
        · rw [p]
          cases I : (ρ.via σ) id with
          | none => exact absurd I hid
          | some M =>
            obtain ⟨a, K, _⟩ := z39 I
            rw [z1s] at K
            exact (eAa.1 K).1
        · exact { os := rfl, tape := rfl, output := rfl, keep := ⟨eAj _, fun _ _ _ => rfl, fun b _ q => (u9u (σ := σ) (τ := y40 t.heap σ) (L := []) v.heap).sub b (u b q), fun _ _ h => h, z0u.refl _⟩, rho := fun id hid => o id hid, fr := rfl, frs := fun _ _ => rfl }
      · cases k
    · cases k
end
end Go.Am
end
section
namespace Go.Am
def z9w {S R:Type} (b:S→Option (S⊕R)):Nat→S→Option R
 |0,_=>none
 |n+1,s=>match b s with
  |some (.inl s')=>z9w b n s'
  |some (.inr r)=>some r
  |none=>none
open Classical in
noncomputable def z1e {S R:Type} (b:S→Option (S⊕R)) (s:S):Option R:=
 if h:∃ r n,z9w b n s=some r then some h.choose else none
theorem y9w {S R:Type} {b:S→Option (S⊕R)}:∀ {n:Nat} {s:S} {r:R},z9w b n s=some r→∀ m,n≤m→z9w b m s=some r:=by
 intro n
 induction n with
 |zero=>intro s r h; simp [z9w] at h
 |succ n a=>
  intro s r h m hm
  obtain ⟨m,rfl⟩:∃ k,m=k+1:=⟨m - 1,by omega⟩
  simp only [z9w] at h⊢
  split at h
  ·exact a h m (by omega)
  ·exact h
  ·cases h
theorem y2s {S R:Type} {b:S→Option (S⊕R)} {s:S} {r:R} (h:z1e b s=some r):∃ n,z9w b n s=some r:=by
 unfold z1e at h
 split at h
 ·rename_i a
  cases h
  exact a.choose_spec
 ·cases h
theorem x69 {S R:Type} {b:S→Option (S⊕R)} {s:S} {r:R} {n:Nat} (h:z9w b n s=some r):z1e b s=some r:=by
 have c:∃ r n,z9w b n s=some r:=⟨r,n,h⟩
 unfold z1e
 rw [dif_pos c]
 obtain ⟨m,hm⟩:=c.choose_spec
 have a:=y9w h (max n m) (Nat.le_max_left _ _)
 have d:=y9w hm (max n m) (Nat.le_max_right _ _)
 rw [a] at d; exact d.symm
theorem z13 {S R:Type} (b:S→Option (S⊕R)) (s:S):z1e b s=match b s with
  |some (.inl s')=>z1e b s'
  |some (.inr r)=>some r
  |none=>none:=by
 cases d:b s with
 |none=>
  cases c:z1e b s with
  |none=>rfl
  |some r=>
   obtain ⟨n,a⟩:=y2s c
   cases n with
   |zero=>simp [z9w] at a
   |succ n=>simp [z9w,d] at a
 |some x=>
  cases x with
  |inr r=>exact x69 (n:=1) (by simp [z9w,d])
  |inl s'=>
   simp only
   cases c:z1e b s' with
   |some r=>
    obtain ⟨n,a⟩:=y2s c
    exact x69 (n:=n+1) (by simp [z9w,d,a])
   |none=>
    cases e:z1e b s with
    |none=>rfl
    |some r=>
     obtain ⟨n,a⟩:=y2s e
     cases n with
     |zero=>simp [z9w] at a
     |succ n=>
      simp [z9w,d] at a
      rw [x69 a] at c; cases c
mutual
def t1t:VT→List Sc
 | .int _=>[.int]
 | .bool=>[.bool]
 | .str=>[.str]
 | .list _=>[.rows]
 | .lst _=>[.rows]
 | .prm=>[.rows]
 | .agg l=>x3j l
 | .ref l=>x3j l
 | .ptr _ _=>[.nat]
 | .sl _ _=>[.nat, .nat]
 | .slc _ _=>[.nat, .nat, .nat]
 | .clo _ fs cs=>x3j fs++x3j cs
 | .tuple l=>x3j l
 |_=>[]
def x3j:List VT→List Sc
 |[]=>[]
 |t::ts=>t1t t++x3j ts
end
def u5o:List (Nat×VT)→List Sc
 |[]=>[]
 |(_,t)::ts=>t1t t++u5o ts
def v87:List OT→List Sc
 |[]=>[]
 | .row _::t=> .rows::v87 t
 | .map::t=> .map::v87 t
 |_::t=>v87 t
def v86:List OT→List Sc
 |[]=>[]
 | .box l::t=>x3j l++v86 t
 | .loop _ _ _ _ _ env::t=>u5o env++v86 t
 |_::t=>v86 t
def ST.scs (t:ST):List Sc:=v87 t.heap++(v86 t.heap++u5o t.env)
def x1v:List OT→List (List CK)
 |[]=>[]
 | .row a::t=>a::x1v t
 |_::t=>[]::x1v t
def y41 (p:Prim) (t:ST) (x:Tup t.scs):SS:=⟨w57 p t (y7z t.scs x),x1v t.heap⟩
mutual
def u2k:VT→AV→List (Nat×Nat)
 | .bptr i _, .bptr a _=>[(i,a)]
 | .ptr i _, .ptr a _ _=>[(i,a)]
 | .vec i _, .slice a _ _ _ _=>[(i,a)]
 | .full i _, .slice a _ _ _ _=>[(i,a)]
 | .sl i _, .slice a _ _ _ _=>[(i,a)]
 | .slc i _, .slice a _ _ _ _=>[(i,a)]
 | .map i, .map a=>[(i,a)]
 | .yld i, .yld a=>[(i,a)]
 | .agg l, .agg xs=>y4m l xs
 | .tuple l, .tuple xs=>y4m l xs
 | .clo _ fs cs, .clo _ fs' cs'=>y4m fs fs'++y4m cs cs'
 |_,_=>[]
def y4m:List VT→List AV→List (Nat×Nat)
 |t::ts,x::xs=>u2k t x++y4m ts xs
 |_,_=>[]
end
def v7l (env:List (Nat×AV)):List (Nat×VT)→List (Nat×Nat)
 |[]=>[]
 |(k,t)::ts=>u2k t (z00 env k)++v7l env ts
def u6x:List (Nat×Nat)→Nat→Option Nat
 |[],_=>none
 |(i,a)::r,j=>bif Nat.beq i j then some a else u6x r j
def t0u (h:List AO) (a:Nat):OT→List (Nat×Nat)
 | .box l=>match z0f h a with
  | .box cells=>y4m l cells
  |_=>[]
 | .loop _ _ _ _ _ env=>match z0f h a with
  | .loop _ _ _ _ _ env'=>v7l env' env
  |_=>[]
 |_=>[]
def v7k (h:List AO):Nat→List OT→List (Nat×Nat)→List (Nat×Nat)
 |_,[],b=>b
 |i,t::ts,b=>match u6x b i with
  |some a=>v7k h (i+1) ts (b++t0u h a t)
  |none=>v7k h (i+1) ts b
def v1e (h:List AO) (ts:List OT):Nat→List (Nat×Nat)→List (Nat×Nat)
 |0,b=>b
 |n+1,b=>v1e h ts n (v7k h 0 ts b)
def v3a:Nat→List (Nat×Nat)
 |0=>[]
 |n+1=>(n,n)::v3a n
def w8v (b:List (Nat×Nat)):Nat→List OT→List (Option Nat)
 |_,[]=>[]
 |i,_::ts=>u6x b i::w8v b (i+1) ts
def v6v (n:Nat) (t:ST) (s:AS):List (Option Nat):=w8v (v1e s.heap t.heap 2 (v3a n++v7l s.env t.env)) 0 t.heap
def w75 (p:Prim) (n:Nat) (t:ST) (s:AS):Option (List Bool×Tup t.scs):=
 match u9t p n t (v6v n t s) s with
 |some (cs,a)=>match v5e t.scs a with
  |some x=>some (cs,x)
  |none=>none
 |none=>none
theorem y3x {n:Nat} {t:ST} {s:AS} {cs:List Bool} {x:Tup t.scs} (h:w75 std n t s=some (cs,x)) (c:z1j cs=true):z5z n s (y41 std t x).s∧n≤(y41 std t x).s.heap.length:=by
 unfold w75 at h
 split at h
 ·rename_i d f b
  split at h
  ·rename_i e a
   cases h
   have:=v6t b c
   show z5z n s (w57 std t (y7z t.scs x))∧_≤(w57 std t (y7z t.scs x)).heap.length
   rw [y5q a]; exact this
  ·cases h
 ·cases h
def needs (A:Alg) (β:Type):List Bool→A.Ω β→A.Ω β
 |[],k=>k
 |c::cs,k=>A.need β c (needs A β cs k)
theorem z1p {β:Type} {b:β}:∀ {cs:List Bool} {k:Option β},needs opt β cs k=some b→z1j cs=true∧k=some b
 |[],k,h=>⟨rfl,h⟩
 |c::cs,k,h=>by
  obtain ⟨a,h⟩:=z6a h
  obtain ⟨e,d⟩:=z1p (cs:=cs) h
  exact ⟨by simp [z1j,a,e],d⟩
def u0l:AX→AX→Bool
 | .normal, .normal=>true
 | .ret, .ret=>true
 | .exit i, .exit j=>Nat.beq i j
 |_,_=>false
theorem x42 {a b:AX} (h:u0l a b=true):a=b:=by
 cases a<;>cases b<;>first
  |rfl
  |cases h; done
  |(have:=eAd h; subst this; rfl)
abbrev w29:=List (AX×ST)
def scss:w29→List (List Sc)
 |[]=>[]
 |o::os=>o.2.scs::scss os
def y0i (p:Prim) (n:Nat):(os:w29)→AX→AS→Option (List Bool×STup (scss os))
 |[],_,_=>none
 |[o],e,s=>bif u0l o.1 e then w75 p n o.2 s else none
 |o::a::os,e,s=>match (bif u0l o.1 e then w75 p n o.2 s else none:Option (List Bool×Tup o.2.scs)) with
  |some (cs,x)=>some (cs, .inl x)
  |none=>match y0i p n (a::os) e s with
   |some (cs,y)=>some (cs, .inr y)
   |none=>none
def z2g (p:Prim):(os:w29)→STup (scss os)→AX×SS
 |[],y=>Empty.elim y
 |[o],x=>(o.1,y41 p o.2 x)
 |o::a::os, .inl x=>(o.1,y41 p o.2 x)
 |o::a::os, .inr y=>z2g p (a::os) y
theorem y04 {n:Nat}:∀ {os:w29} {e:AX} {s:AS} {cs:List Bool} {y:STup (scss os)},y0i std n os e s=some (cs,y)→z1j cs=true→(z2g std os y).1=e∧z5z n s (z2g std os y).2.s∧n≤(z2g std os y).2.s.heap.length
 |[],e,s,cs,y,h,b=>by cases h
 |[o],e,s,cs,y,h,b=>by
  simp only [y0i] at h
  cases a:u0l o.1 e with
  |false=>rw [a] at h; cases h
  |true=>
   rw [a] at h
   exact ⟨x42 a,y3x h b⟩
 |o::g::os,e,s,cs,y,h,b=>by
  simp only [y0i] at h
  split at h
  ·rename_i d x c
   cases h
   cases a:u0l o.1 e with
   |false=>rw [a] at c; cases c
   |true=>
    rw [a] at c
    exact ⟨x42 a,y3x c b⟩
  ·split at h
   ·rename_i d f i
    cases h
    exact y04 (os:=g::os) (y:=f) i b
   ·cases h
def x5t (A:Alg) (β:Type) (p:Prim):(os:w29)→Option (STup (scss os))→(AX→SS→A.Ω β)→A.Ω β
 |[],_,_=>A.no β 81
 |[o],x,k=>A.bnd _ β x fun y=>k o.1 (y41 p o.2 y)
 |o::a::os,x,k=>A.alt _ _ β x (fun y=>k o.1 (y41 p o.2 y)) (fun z=>x5t A β p (a::os) (some z) k)
theorem z6s {β:Type} {b:β}:∀ {os:w29} {x:Option (STup (scss os))} {k:AX→SS→Option β},x5t opt β std os x k=some b→∃ y,x=some y∧k (z2g std os y).1 (z2g std os y).2=some b
 |[],x,k,h=>by cases h
 |[o],x,k,h=>by
  obtain ⟨y,d,a⟩:=v1d h
  exact ⟨y,d,a⟩
 |o::c::os,x,k,h=>by
  simp only [x5t,opt] at h
  cases x with
  |none=>cases h
  |some z=>
   cases z with
   |inl y=>exact ⟨.inl y,rfl,h⟩
   |inr y=>
    obtain ⟨f,e,a⟩:=z6s (os:=c::os) (x:=some y) (k:=k) h
    cases e
    exact ⟨.inr y,rfl,a⟩
structure x2n where
 head:ST
 outs:w29
def x9e (A:Alg) (p:Prim) (rec:y8v A) (n g:Nat) (pos:List Bool) (c:Code) (a:x2n) (x:Tup a.head.scs):A.Ω (Tup a.head.scs⊕STup (scss a.outs)):=
 rec _ n g (false::pos) c (y41 p a.head x) fun e s=>match e with
  | .normal=>match w75 p n a.head s.s with
   |some (cs,b)=>needs A _ cs (A.ret _ (.inl b))
   |none=>A.no _ 82
  |e=>match y0i p n a.outs e s.s with
   |some (cs,y)=>needs A _ cs (A.ret _ (.inr y))
   |none=>A.no _ 83
noncomputable def v5q (A:Alg) (p:Prim) (rec:y8v A) (n g:Nat) (pos:List Bool) (c:Code) (a:x2n) (β:Type) (b:SS) (k:AX→SS→A.Ω β):A.Ω β:=
 match w75 p n a.head b.s with
 |some (cs,x)=>needs A β cs (x5t A β p a.outs (z1e (fun x=>A.run _ (x9e A p rec n g pos c a x)) x) k)
 |none=>A.no β 84
section
variable {P:Program}
theorem z54.seen {n:Nat} {c:Code} {s:AS} {d:AX} {s1 b:AS} (h:z54 P n c s (fun a s'=>a=d∧s'=s1)) (e:z5z n s1 b):z54 P n c s (fun a s'=>a=d∧s'=b):=
 z2z (h.mono fun a s' f=>by obtain ⟨rfl,rfl⟩:=f; exact ⟨_,e,rfl,rfl⟩)
theorem w9l {rec:y8v opt} (hr:y8w P rec) {n g:Nat} {pos:List Bool} {c:Code} (F:z1v P g pos=some (.loop c)) {a:x2n} {β:Type} {A:SS} {k:AX→SS→Option β} {b:β} (X:n≤A.s.heap.length)
  (h:v5q opt std rec n g pos c a β A k=some b):∃ e p,n≤p.s.heap.length∧z54 P n (.loop c) A.s (fun o q=>o=e∧q=p.s)∧k e p=some b:=by
 unfold v5q at h
 split at h
 ·rename_i cs x T
  obtain ⟨U,h⟩:=z1p h
  obtain ⟨y,S,h⟩:=z6s h
  obtain ⟨v1,K⟩:=y3x T U
  obtain ⟨m,hm⟩:=y2s S
  have l:z1v P g (false::pos)=some c:=by simp [z1v,F,v8y]
  have key:∀ (m:Nat) (x:Tup a.head.scs),n≤(y41 std a.head x).s.heap.length→z9w (fun x=>opt.run _ (x9e opt std rec n g pos c a x)) m x=some y→
    n≤(z2g std a.outs y).2.s.heap.length∧z54 P n (.loop c) (y41 std a.head x).s (fun o q=>o=(z2g std a.outs y).1∧q=(z2g std a.outs y).2.s):=by
   intro m
   induction m with
   |zero=>intro x _ h; simp [z9w] at h
   |succ m O=>
    intro x t i
    simp only [z9w] at i
    split at i
    ·rename_i W G
     obtain ⟨e,H,L,B,d⟩:=hr _ _ _ _ _ _ _ _ l t G
     cases e with
     |normal=>
      simp only at d
      split at d
      ·rename_i v J r
       obtain ⟨f,d⟩:=z1p d
       cases d
       obtain ⟨w1,z⟩:=y3x r f
       obtain ⟨R,Q⟩:=O _ z i
       refine ⟨R,z3l ((B.seen w1).mono fun o q C=>?_)⟩
       obtain ⟨rfl,rfl⟩:=C
       exact Q
      ·cases d
     |exit j=>
      simp only at d
      split at d
      ·obtain ⟨_,d⟩:=z1p d; cases d
      ·cases d
     |ret=>
      simp only at d
      split at d
      ·obtain ⟨_,d⟩:=z1p d; cases d
      ·cases d
    ·rename_i V G
     cases i
     obtain ⟨e,H,L,B,d⟩:=hr _ _ _ _ _ _ _ _ l t G
     have u:∀ cs,y0i std n a.outs e H.s=some (cs,y)→z1j cs=true→e≠ .normal→n≤(z2g std a.outs y).2.s.heap.length∧z54 P n (.loop c) (y41 std a.head x).s (fun o q=>o=(z2g std a.outs y).1∧q=(z2g std a.outs y).2.s):=by
      intro cs r f E
      obtain ⟨I,w1,z⟩:=y04 r f
      refine ⟨z,z3l ((B.seen w1).mono fun o q C=>?_)⟩
      obtain ⟨rfl,rfl⟩:=C
      cases o with
      |normal=>exact absurd rfl E
      |exit j=>exact ⟨I.symm,rfl⟩
      |ret=>exact ⟨I.symm,rfl⟩
     cases e with
     |normal=>
      simp only at d
      split at d
      ·obtain ⟨_,d⟩:=z1p d; cases d
      ·cases d
     |exit j=>
      simp only at d
      split at d
      ·rename_i v w r
       obtain ⟨f,d⟩:=z1p d
       cases d
       exact u _ r f (by simp)
      ·cases d
     |ret=>
      simp only at d
      split at d
      ·rename_i v w r
       obtain ⟨f,d⟩:=z1p d
       cases d
       exact u _ r f (by simp)
      ·cases d
    ·cases i
  obtain ⟨N,M⟩:=key m x K hm
  exact ⟨_,_,N,z2l v1 M,h⟩
 ·cases h
def v52 (A:Alg) (p:Prim) (n:Nat) (os:w29) (β:Type) (body:(γ:Type)→(AX→SS→A.Ω γ)→A.Ω γ) (k:AX→SS→A.Ω β):A.Ω β:=
 x5t A β p os (A.run _ (body _ fun e s=>match y0i p n os e s.s with
  |some (cs,y)=>needs A _ cs (A.ret _ y)
  |none=>A.no _ 85)) k
theorem w9t {n:Nat} {os:w29} {β:Type} {body:(γ:Type)→(AX→SS→Option γ)→Option γ} {k:AX→SS→Option β} {b:β} {G:AX→SS→Prop} (l:∀ γ k (b:γ),body γ k=some b→∃ e a,G e a∧k e a=some b)
  (h:v52 opt std n os β body k=some b):∃ e c a,G e c∧z5z n c.s a.s∧(n≤c.s.heap.length→n≤a.s.heap.length)∧k e a=some b:=by
 unfold v52 at h
 obtain ⟨y,g,h⟩:=z6s h
 obtain ⟨e,c,hg,d⟩:=l _ _ _ g
 split at d
 ·rename_i cs o i
  obtain ⟨j,d⟩:=z1p d
  cases d
  obtain ⟨m,w1,f⟩:=y04 i j
  subst m
  exact ⟨_,c,_,hg,w1,fun _=>f,h⟩
 ·cases d
end
end Go.Am
end
section
namespace Go.Am
structure Ctr where
 g:FuncId
 args:List VT
 heap:List OT
 outs:w29
def Ctr.scs (c:Ctr):List Sc:=v87 c.heap++(v86 c.heap++x3j c.args)
def x5x (p:Prim) (c:Ctr) (vs:List Val):List AV×List AO:=
 ((z68 p (z7z c.heap vs).1 c.args (y71 p (z7z c.heap vs).1 (z7z c.heap vs).1 c.heap (z7z c.heap vs).2).2).1,(y71 p (z7z c.heap vs).1 (z7z c.heap vs).1 c.heap (z7z c.heap vs).2).1)
def CtrOk (P:Program) (c:Ctr) (F:Tup c.scs→Option (STup (scss c.outs))):Prop:=
 z3d P c.g∧∀ x y,F x=some y→(x5x std c (y7z c.scs x)).2.length≤(z2g std c.outs y).2.s.heap.length∧
  z3m P c.g (x5x std c (y7z c.scs x)).1 (x5x std c (y7z c.scs x)).2 (z00 (z2g std c.outs y).2.s.env 0) (z2g std c.outs y).2.s.heap
theorem z3m.sees {P:Program} {g:FuncId} {args:List AV} {h:List AO} {r:AV} {b h':List AO} {env:List (Nat×AV)} {nt:Nat} (j:z3m P g args h r b) (f:z5z h.length ⟨[(0,r)],b,1⟩ ⟨env,h',nt⟩):z3m P g args h (z00 env 0) h':=⟨by
 intro ρ e w cs y x u
 obtain ⟨ρ',v,a,fr,s,q,p,o,n,m,l⟩:=j.run ρ e w cs y x u
 have c:z18 P ρ' ⟨[(0,r)],b,1⟩ #[v] a:=⟨n,fun t=>by
  show z0n ρ' (z0d ρ' b) a (z00 [(0,r)] t) _
  simp only [z00]
  cases i:Nat.beq 0 t with
  |true=>have:=eAd i; subst this; exact o
  |false=>exact .bot _,rfl,m⟩
 obtain ⟨ρ2,d,A,k,z⟩:=f.run ρ' #[v] a c
 exact ⟨ρ2,v,a,fr,s,q,p,d.env 0,d.heap,d.dom,l.trans k⟩⟩
def bodyRun (A:Alg) (p:Prim) (E:Env) (O:Orc A) (f:Nat) (c:Ctr) (x:Tup c.scs):A.Ω (STup (scss c.outs)):=
 x2d A E (sym A p E O f) _ c.g (x5x p c (y7z c.scs x)).1 (x5x p c (y7z c.scs x)).2 (x1v c.heap) fun r h _=>
  match y0i p (x5x p c (y7z c.scs x)).2.length c.outs .ret ⟨[(0,r)],h,1⟩ with
  |some (cs,y)=>needs A _ cs (A.ret _ y)
  |none=>A.no _ 91
theorem ctr_of_body {P:Program} {E:Env} {O:Orc opt} (hE:EnvOk P E) (hO:y39 P O) {f:Nat} {c:Ctr} {F:Tup c.scs→Option (STup (scss c.outs))} (b:z3d P c.g) (h:∀ x,bodyRun opt std E O f c x=F x):CtrOk P c F:=by
 refine ⟨b,fun x y d=>?_⟩
 rw [←h x] at d
 obtain ⟨r,h',p,k,o,n,a⟩:=z9n hE (x74 hE hO f) d
 split at a
 ·rename_i cs l i
  obtain ⟨j,a⟩:=z1p a
  cases a
  obtain ⟨m,w1,e⟩:=y04 i j
  exact ⟨e,k.sees w1⟩
 ·cases a
section frame
variable {P:Program} {ρ:Rho} {h:List AO} {w:World} {σ:List (Option Nat)}
theorem x9f {hT:List AO} (f:HOk ρ (ρ.lent h σ) (z0d ρ h) (z0d ρ h) h w σ hT) (b:Nat) (j:z0d (ρ.lent h σ) hT b):z0d ρ h b:=by
 rcases j with (g|⟨a,M,e,c,_,rfl⟩)|⟨i,M,e,c,rfl⟩
 ·exact .inl g
 ·exact .inr ⟨a,M,e,c,rfl⟩
 ·obtain ⟨a,k,d⟩:=z39 e
  exact .inr ⟨a,M,d,(f.nth i _ k).live c,rfl⟩
theorem w49 (hr:z0b P ρ h w) (N:w2c σ=true) {hT:List AO} (L:HOk ρ (ρ.lent h σ) (z0d ρ h) (z0d ρ h) h w σ hT):z0b P (ρ.lent h σ) hT w:=by
 have kp:z43 (z0d ρ h) (z0d (ρ.lent h σ) hT) w w:=⟨eAj _,fun _ _ _=>rfl,fun b _ R=>x9f L b R,fun _ _ h=>h,z0u.refl _⟩
 have G:∀ {x:AV} {v:Value},z0n (ρ.lent h σ) (z0d ρ h) w x v→z0n (ρ.lent h σ) (z0d (ρ.lent h σ) hT) w x v:=fun z=>z.keep kp (fun _ _ h=>h)
 refine ⟨fun i M U=>?_,fun i j M M' F h2 l1 l2 R=>?_,fun b B=>?_,fun i M U p B=>?_,hr.gl.keep kp⟩
 ·obtain ⟨a,E,m⟩:=z39 U
  obtain ⟨o1,o⟩:=hr.obj a M m
  refine ⟨o1,?_⟩
  rcases L.nth i _ E with e|⟨es,e,l⟩|⟨es,e,I⟩|⟨cells,ys,Q,e,J,X⟩|⟨st,pd,g,pos,nt,env,env',hlp,e,O⟩
  ·rw [e]; trivial
  ·rw [e]
   rcases l with l|⟨es0,l,hdd⟩
   ·rw [l] at o
    obtain ⟨W,c,t,s,p,q⟩:=o
    exact ⟨W,c,t,s,p,fun i r j x A H=>let ⟨v,z,F,n⟩:=q i r j x A H; ⟨v,z,F,n.keep kp⟩⟩
   ·rw [l,y38 hdd] at o
    obtain ⟨W,c,t,s,p,q⟩:=o
    refine ⟨W,c,t,s,fun i r A=>?_,fun i r j x A H=>?_⟩
    ·have:=p i (toA r) (by rw [z3e,A]; rfl)
     rwa [z0z] at this
    ·obtain ⟨v,z,F,n⟩:=q i (toA r) j (.d x) (by rw [z3e,A]; rfl) (by rw [z1l,H]; rfl)
     cases n with|d n=>exact ⟨v,z,F,n.keep kp⟩
  ·rw [e]; rw [I] at o
   obtain ⟨en,clk,s,p,q⟩:=o
   exact ⟨en,clk,s,p,fun i k x A=>let ⟨e,he,F,h2⟩:=q i k x A; ⟨e,he,F.keep kp,h2.keep kp⟩⟩
  ·rw [e]; rw [Q] at o
   obtain ⟨C,c,t,s,q⟩:=o
   refine ⟨C,c,t,s,fun j y hy=>?_⟩
   have hjl:j<cells.length:=by rw [←J]; exact (eAa.1 hy).1
   obtain ⟨v,z,_⟩:=q j _ (eAb hjl)
   have:=X (fun j=>(c[M.base+j]?).getD undef) (fun j x H=>by
    obtain ⟨u,hu,Y⟩:=q j x H
    simp only [hu,eBb]; exact Y) j y hy
   simp only [z,eBb] at this
   exact ⟨v,z,G this⟩
  ·rw [e]; rw [hlp] at o
   obtain ⟨x,ps,asg,V,hcd,tm,ds,f,s,p,q⟩:=o
   exact ⟨x,ps,asg,V,hcd,tm,ds,f,s,p,fun t=>G (O (fun t=>tm.getD t undef) q t)⟩
 ·obtain ⟨a,E,m⟩:=z39 F
  obtain ⟨a',S,T⟩:=z39 h2
  have:=hr.inj a a' M M' m T ((L.nth i _ E).live l1) ((L.nth j _ S).live l2) R
  subst this
  exact z8r N E S
 ·rcases B with B|⟨a,M,U,p,_,rfl⟩
  ·exact hr.fr b B
  ·exact (hr.obj a M U).1
 ·obtain ⟨a,E,m⟩:=z39 U
  have K:=(L.nth i _ E).live p
  rcases B with B|⟨a',M',hM',hl',Z,R⟩
  ·exact hr.sep a M m K B
  ·have:=hr.inj a' a M' M hM' m hl' K R
   subst this
   exact Z i E
theorem w2e {n:Nat} {s:AS} (o:n≤s.heap.length) (b:w2c σ=true) (h:z6p s.heap.length σ=true) {g:FuncId} {args a:List AV} {hT c:List AO} {r:AV} (d:hT.length≤c.length)
  (e:∀ (ρ:Rho) (w:World),z0b P ρ s.heap w→HOk ρ (ρ.lent s.heap σ) (z0d ρ s.heap) (z0d ρ s.heap) s.heap w σ hT∧a.length=args.length∧
   ∀ f:Nat→Value,(∀ i x,args[i]?=some x→z0n ρ (z0d ρ s.heap) w x (f i))→∀ i y,a[i]?=some y→z0n (ρ.lent s.heap σ) (z0d ρ s.heap) w y (f i))
  (p:z3m P g a hT r c):z5k P n g args s (z8g (z3a σ s.heap.length) r) ⟨s.env,z2c (z3a σ s.heap.length) s.heap 0 c,s.nt⟩:=
 y7b o b h d (fun ρ w m=>let ⟨j,l,k⟩:=e ρ w m; ⟨j.len,x9f j,w49 m b j,l,k⟩) p
end frame
end Go.Am
end
section
namespace Go.Am
def u0w (f:AV→Option (Bool×D)):List AV→Option (Bool×List D)
 |[]=>some (true,[])
 |x::l=>match f x,u0w f l with
  |some (b,d),some (c,r)=>some (b&&c,d::r)
  |_,_=>none
def v0s (f:AV→Option (Bool×D)):List (List AV)→Option (Bool×List (List D))
 |[]=>some (true,[])
 |x::l=>match u0w f x,v0s f l with
  |some (b,d),some (c,r)=>some (b&&c,d::r)
  |_,_=>none
def dV (p:Prim) (h:List AO):Nat→AV→Option (Bool×D)
 |_, .d x=>some (true,x)
 |n+1, .slice id z off len cap=>match z0f h id with
  | .row es=>some (p.leN (p.add off len) (p.len es), .list false z (p.cut es off len))
  | .arow es=>match v0s (dV p h n) ((es.drop off).take len) with
   |some (b,ds)=>some (Nat.ble (off+len) es.length&&b, .list false z ds)
   |none=>none
  |_=>none
 |_,_=>none
mutual
def lV (p:Prim) (h:List AO):AV→Bool×AV
 | .bot=>(true, .bot)
 | .d x=>(true, .d x)
 | .slice id z off len cap=>match dV p h 4 (.slice id z off len cap) with
  |some (b,d)=>(b, .d d)
  |none=>(true, .bot)
 | .clo fn fs cs=>(p.and (lL p h fs).1 (lL p h cs).1, .clo fn (lL p h fs).2 (lL p h cs).2)
 | .agg l=>((lL p h l).1,x89 (lL p h l).2)
 | .tuple l=>((lL p h l).1, .tuple (lL p h l).2)
 |_=>(true, .bot)
def lL (p:Prim) (h:List AO):List AV→Bool×List AV
 |[]=>(true,[])
 |x::l=>(p.and (lV p h x).1 (lL p h l).1,(lV p h x).2::(lL p h l).2)
end
theorem y9s (p:Prim) (h:List AO):∀ l,(lL p h l).2.length=l.length
 |[]=>rfl
 |x::l=>by simp [lL,y9s p h l]
theorem y9t (h:List AO):∀ (l:List AV),(lL std h l).1=true→∀ (i:Nat) (y:AV),(lL std h l).2[i]?=some y→∃ x,l[i]?=some x∧y=(lV std h x).2∧(lV std h x).1=true
 |[],_,i,y,a=>by simp [lL] at a
 |x::l,b,i,y,a=>by
  simp only [lL,std,eAc] at b
  simp only [lL] at a
  cases i with
  |zero=>simp at a; subst a; exact ⟨x,rfl,rfl,b.1⟩
  |succ i=>simpa using y9t h l b.2 i y (by simpa using a)
theorem x47 {f:AV→Option (Bool×D)}:∀ {l:List AV} {ds:List D},u0w f l=some (true,ds)→ds.length=l.length∧∀ (j:Nat) (d:D),ds[j]?=some d→∃ x,l[j]?=some x∧f x=some (true,d)
 |[],ds,h=>by cases h; exact ⟨rfl,fun j d h=>by simp at h⟩
 |x::l,ds,h=>by
  simp only [u0w] at h
  split at h
  ·rename_i b d c r k i
   have h:=Option.some.inj h
   have g:=congrArg Prod.fst h
   have e:=congrArg Prod.snd h
   simp only [eAc] at g
   obtain ⟨rfl,rfl⟩:=g
   simp only at e
   subst e
   obtain ⟨o,n⟩:=x47 i
   refine ⟨by simp [o],fun j m a=>?_⟩
   cases j with
   |zero=>simp at a; subst a; exact ⟨x,rfl,k⟩
   |succ j=>simpa using n j m (by simpa using a)
  ·cases h
theorem y99 {f:AV→Option (Bool×D)}:∀ {l:List (List AV)} {ds:List (List D)},v0s f l=some (true,ds)→ds.length=l.length∧∀ (j:Nat) (d:List D),ds[j]?=some d→∃ x,l[j]?=some x∧u0w f x=some (true,d)
 |[],ds,h=>by cases h; exact ⟨rfl,fun j d h=>by simp at h⟩
 |x::l,ds,h=>by
  simp only [v0s] at h
  split at h
  ·rename_i b d c r k i
   have h:=Option.some.inj h
   have g:=congrArg Prod.fst h
   have e:=congrArg Prod.snd h
   simp only [eAc] at g
   obtain ⟨rfl,rfl⟩:=g
   simp only at e
   subst e
   obtain ⟨o,n⟩:=y99 i
   refine ⟨by simp [o],fun j m a=>?_⟩
   cases j with
   |zero=>simp at a; subst a; exact ⟨x,rfl,k⟩
   |succ j=>simpa using n j m (by simpa using a)
  ·cases h
section
variable {P:Program} {ρ:Rho} {h:List AO} {w:World}
def frO (ρ:Rho):Nat→Prop:=z0d (ρ.only fun _=>false) []
theorem w5r:z43 (z0d ρ h) (frO ρ) w w:=⟨eAj _,fun _ _ _=>rfl,fun b _ a=> .inl (z4r.1 a),fun _ _ h=>h,z0u.refl _⟩
theorem w2q {c:Array Value} {t:TypeId} {b k:Nat} {v:Value} (d:w.heap[b]?=some (.cells c t (0,0))) (a:c[k]?=some v):w.cell? ⟨b,k,none⟩=some v:=by
 unfold World.cell?
 simp only [d]
 simpa using a
theorem u0v (hr:z0b P ρ h w):∀ (n:Nat) {x:AV} {v:Value} {d:D},z0n ρ (z0d ρ h) w x v→dV std h n x=some (true,d)→z1k (frO ρ) w d v
 |n, .d x,v,d,l,f=>by
  have f:some (true,x)=some (true,d):=by cases n<;>exact f
  cases f
  cases l with|d l=>exact l.keep w5r
 |0, .slice _ _ _ _ _,v,d,l,f=>by cases f
 |n+1, .slice id z off len cap,v,d,l,f=>by
  simp only [dV] at f
  split at f
  ·rename_i es p
   have e:=Option.some.inj f
   have S:=congrArg Prod.fst e
   have M:=congrArg Prod.snd e
   have:=v7m hr l
   simp only [bV,p] at this
   have:=this S
   simp only at M
   rw [M] at this
   cases this with|d h=>exact h
  ·rename_i es p
   split at f
   ·rename_i b ds hds
    have e:=Option.some.inj f
    have S:=congrArg Prod.fst e
    have M:=congrArg Prod.snd e
    simp only [eAc] at S M
    obtain ⟨K,rfl⟩:=S
    subst M
    have K:=eAh K
    obtain ⟨dl,dg⟩:=y99 hds
    have g:ds.length=len:=by rw [dl,eBo,eFj]; omega
    cases l with
    |nils=>
     have:ds=[]:=eBr.1 g
     subst this
     exact .lnil _ _ _ _ (by simp)
    |slice _ _ _ _ _ L a c hL J ha hc hl=>
     by_cases h0:len=0
     ·subst h0
      have:ds=[]:=eBr.1 g
      subst this
      exact .lnil _ _ _ _ (by simp)
     have ha:=ha (by omega)
     subst ha
     obtain ⟨_,ho⟩:=hr.obj id L hL
     rw [p] at ho
     obtain ⟨I,cs,t,Z,U,F⟩:=ho
     have B:(z0f h id).live=true:=by rw [p]; rfl
     have W:¬ frO ρ L.blk:=fun hf=>hr.sep id L hL B (z4r.1 hf)
     have key:∀ (i:Nat) (r:List D),ds[i]?=some r→∃ N,es[off+i]?=some N∧r.length=L.esz∧∀ (j:Nat) (x:D),r[j]?=some x→∃ u,cs[L.base+(off+i)*L.esz+j]?=some u∧u.oneCell'=true∧z1k (frO ρ) w x u:=by
      intro i r m
      obtain ⟨N,R,g2⟩:=dg i r m
      obtain ⟨q1,H⟩:=x47 g2
      have Y:i<len:=by rw [←g]; exact (eAa.1 m).1
      rw [eDv Y,eCg] at R
      refine ⟨N,R,by rw [q1]; exact U _ _ R,fun j x Q=>?_⟩
      obtain ⟨y,hy,f⟩:=H j x Q
      obtain ⟨u,hu,h1,T⟩:=F (off+i) N j y R hy
      exact ⟨u,hu,h1,u0v hr n T f⟩
     have C:∀ (i:Nat) (r:List D),ds[i]?=some r→r.length=L.esz:=fun i r m=>by obtain ⟨_,_,q,_⟩:=key i r m; exact q
     let cell:Nat→Value:=fun k=>(cs[L.base+off*L.esz+k]?).getD undef
     have A:∀ i j,L.base+(off+i)*L.esz+j=L.base+off*L.esz+(i*L.esz+j):=fun i j=>by rw [eAr]; omega
     have s:∀ k,k<ds.length*L.esz→∃ u,cs[L.base+off*L.esz+k]?=some u∧u.oneCell'=true:=by
      intro k E
      have m:k / L.esz<ds.length:=(eDt I).2 E
      have Q:k % L.esz<L.esz:=eFc _ I
      have V:=eAb m
      obtain ⟨_,_,q1,H⟩:=key _ _ V
      obtain ⟨u,o,a2,_⟩:=H _ _ (eAb (show k % L.esz<(ds[k / L.esz]).length by omega))
      have e:k / L.esz*L.esz+k % L.esz=k:=by rw [eDo]; exact Nat.div_add_mod _ _
      rw [A,e] at o
      exact ⟨u,o,a2⟩
     have X:ds≠[]:=fun e=>by rw [e] at g; simp at g; omega
     have G:=z1k.list (O:=frO ρ) (w:=w) false ds L.blk (L.base+off*L.esz) z c (by omega) X W (by omega) (by simp) (fun i r m=>by rw [←J]; exact C i r m) cell (fun k E=>?_) (fun k E=>?_) (fun i r j x m Q=>?_)
     ·rw [g] at G; exact G
     ·rw [←J] at E
      obtain ⟨u,o,a2⟩:=s k E
      show ((cs[L.base+off*L.esz+k]?).getD undef).oneCell'=true
      rw [o]; exact a2
     ·rw [←J] at E
      obtain ⟨u,o,_⟩:=s k E
      show w.cell? ⟨L.blk,L.base+off*L.esz+k,none⟩=some ((cs[L.base+off*L.esz+k]?).getD undef)
      rw [o]; exact w2q Z o
     ·obtain ⟨_,_,_,H⟩:=key i r m
      obtain ⟨u,o,_,a3⟩:=H j x Q
      show z1k _ w x ((cs[L.base+off*L.esz+(i*z+j)]?).getD undef)
      rw [A,J] at o
      rw [J,o]; exact a3
   ·cases f
  ·cases f
 |n, .bot,v,d,l,f=>by cases n<;>cases f
 |n, .bptr _ _,v,d,l,f=>by cases n<;>cases f
 |n, .ptr _ _ _,v,d,l,f=>by cases n<;>cases f
 |n, .lptr _ _,v,d,l,f=>by cases n<;>cases f
 |n, .wptr _ _,v,d,l,f=>by cases n<;>cases f
 |n, .perm _,v,d,l,f=>by cases n<;>cases f
 |n, .map _,v,d,l,f=>by cases n<;>cases f
 |n, .yld _,v,d,l,f=>by cases n<;>cases f
 |n, .clo _ _ _,v,d,l,f=>by cases n<;>cases f
 |n, .iface _ _,v,d,l,f=>by cases n<;>cases f
 |n, .agg _,v,d,l,f=>by cases n<;>cases f
 |n, .tuple _,v,d,l,f=>by cases n<;>cases f
theorem u7h (hr:z0b P ρ h w) {x:AV} {v:Value} (q:z0n ρ (z0d ρ h) w x v):(lV std h x).1=true→z0n (ρ.only fun _=>false) (frO ρ) w (lV std h x).2 v:=by
 have sl:∀ {id z off len:Nat} {cap:Option Nat} {v:Value},z0n ρ (z0d ρ h) w (.slice id z off len cap) v→(lV std h (.slice id z off len cap)).1=true→z0n (ρ.only fun _=>false) (frO ρ) w (lV std h (.slice id z off len cap)).2 v:=by
  intro id z off len cap v q e
  simp only [lV] at e⊢
  split
  ·rename_i b d t
   rw [t] at e
   simp only at e
   subst e
   exact .d (u0v hr 4 q t)
  ·exact .bot _
 induction q with
 |bot v=>intro _; exact .bot v
 |d h=>intro _; exact .d (h.keep w5r)
 |slice id z off len cap L a c F B E e k=>exact sl (.slice id z off len cap L a c F B E e k)
 |nils id z off cap a e=>exact sl (.nils id z off cap a e)
 |clo fn G cs u A s r I H o n=>
  intro e
  simp only [lV,std,eAc] at e
  simp only [lV]
  refine .clo fn _ _ u A (by rw [y9s]; exact s) (by rw [y9s]; exact r) (fun i y f=>?_) (fun i y f=>?_)
  ·obtain ⟨x,g,rfl,j⟩:=y9t h G e.1 i y f
   exact o i x g j
  ·obtain ⟨x,g,rfl,j⟩:=y9t h cs e.2 i y f
   exact n i x g j
 |agg l m k C p=>
  intro e
  simp only [lV] at e⊢
  refine y9p _ m (by rw [y9s]; exact k) (fun i y f=>?_)
  obtain ⟨x,g,rfl,j⟩:=y9t h l e i y f
  exact p i x g j
 |tuple l m k C p=>
  intro e
  simp only [lV] at e⊢
  refine .tuple _ m (by rw [y9s]; exact k) (fun i y f=>?_)
  obtain ⟨x,g,rfl,j⟩:=y9t h l e i y f
  exact p i x g j
 |_=>intro _; exact .bot _
end
mutual
def plV:AV→Bool
 | .bot=>true
 | .d x=>z8l x
 | .lptr _ _=>false
 | .wptr _ _=>false
 | .perm _=>false
 | .clo _ fs cs=>plL fs&&plL cs
 | .iface _ v=>plV v
 | .agg l=>plL l
 | .tuple l=>plL l
 |_=>true
def plL:List AV→Bool
 |[]=>true
 |x::l=>plV x&&plL l
end
theorem y1y:∀ {l:List AV},plL l=true→∀ (i:Nat) (d:AV),l[i]?=some d→plV d=true
 |[],_,i,d,h=>by simp at h
 |x::l,h,i,d,a=>by
  simp only [plL,eAc] at h
  cases i with
  |zero=>simp at a; subst a; exact h.1
  |succ i=>exact y1y h.2 i d (by simpa using a)
theorem x6q {ρ ρ':Rho} {O O':Nat→Prop} {w:World} {f:Nat→Nat} (n:∀ j M,ρ j=some M→ρ' (f j)=some M) {x:AV} {v:Value} (h:z0n ρ O w x v):plV x=true→z0n ρ' O' w (z8g f x) v:=by
 induction h with
 |bot v=>intro _; exact .bot v
 |d h=>intro b; exact .d (z8k h (by simpa only [plV] using b))
 |bptr id off L k=>intro _; exact .bptr _ off L (n _ _ k)
 |ptr id i off L k=>intro _; exact .ptr _ i off L (n _ _ k)
 |lptr=>intro b; simp [plV] at b
 |wptr=>intro b; simp [plV] at b
 |perm=>intro b; simp [plV] at b
 |slice id z off len cap L a c k E G u m=>intro _; exact .slice _ z off len cap L a c (n _ _ k) E G u m
 |nils id z off cap a u=>intro _; exact .nils _ z off cap a u
 |map id L k=>intro _; exact .map _ L (n _ _ k)
 |yld id L k=>intro _; exact .yld _ L (n _ _ k)
 |clo fn J cs B C s r I H q p=>
  intro b
  simp only [plV,eAc] at b
  simp only [z8g]
  refine .clo fn _ _ B C (by simp [z2i,s]) (by simp [z2i,r]) (fun i y e=>?_) (fun i y e=>?_)
  ·rw [z2i,eAf] at e
   obtain ⟨x,g,rfl⟩:=eBm.1 e
   exact q i x g (y1y b.1 i x g)
  ·rw [z2i,eAf] at e
   obtain ⟨x,g,rfl⟩:=eBm.1 e
   exact p i x g (y1y b.2 i x g)
 |iface t x v h l=>intro b; exact .iface t _ v (l (by simpa only [plV] using b))
 |agg A o m F l=>
  intro b
  simp only [plV] at b
  simp only [z8g]
  refine .agg _ o (by simp [z2i,m]) (fun i y e=>?_)
  rw [z2i,eAf] at e
  obtain ⟨x,g,rfl⟩:=eBm.1 e
  exact l i x g (y1y b i x g)
 |tuple A o m F l=>
  intro b
  simp only [plV] at b
  simp only [z8g]
  refine .tuple _ o (by simp [z2i,m]) (fun i y e=>?_)
  rw [z2i,eAf] at e
  obtain ⟨x,g,rfl⟩:=eBm.1 e
  exact l i x g (y1y b i x g)
def u4l:List (List AV)→Bool
 |[]=>true
 |x::l=>plL x&&u4l l
theorem x8m:∀ {l:List (List AV)},u4l l=true→∀ (i:Nat) (d:List AV),l[i]?=some d→plL d=true
 |[],_,i,d,h=>by simp at h
 |x::l,h,i,d,a=>by
  simp only [u4l,eAc] at h
  cases i with
  |zero=>simp at a; subst a; exact h.1
  |succ i=>exact x8m h.2 i d (by simpa using a)
def plO (p:Prim):AO→Bool
 | .dead=>true
 | .box l=>plL l
 | .row es=>p.plain es
 | .arow es=>u4l es
 | .map es=>p.plainM es
 | .loop _ _ _ _ _ _=>false
def plH (p:Prim):List AO→List Bool
 |[]=>[]
 |o::l=>plO p o::plH p l
theorem w4g {p:Prim}:∀ {l:List AO},z1j (plH p l)=true→∀ i,plO p (z0f l i)=true
 |[],_,i=>by cases i<;>rfl
 |o::l,h,i=>by
  simp only [plH,z1j,eAc] at h
  cases i with
  |zero=>exact h.1
  |succ i=>exact w4g h.2 i
theorem w4f {es:List (List D)} (h:std.plain es=true) {i j:Nat} {r:List D} {x:D} (b:es[i]?=some r) (a:r[j]?=some x):z8l x=true:=by
 have c:=eAx.1 h r (eAi b)
 exact eAx.1 c x (eAi a)
section
variable {P:Program} {w:World}
theorem v48 {ρ ρ':Rho} {O O':Nat→Prop} {f:Nat→Nat} (G:∀ j M,ρ j=some M→ρ' (f j)=some M) {L:Loc} {o:AO} (z:plO std o=true) (h:z1c P ρ O w L o):z1c P ρ' O' w L (y9b f o):=by
 cases o with
 |dead=>trivial
 |box cells=>
  obtain ⟨p,c,t,n,m⟩:=h
  refine ⟨p,c,t,n,fun j y q=>?_⟩
  rw [z2i,eAf] at q
  obtain ⟨x,d,rfl⟩:=eBm.1 q
  obtain ⟨v,s,u⟩:=m j x d
  exact ⟨v,s,x6q G u (y1y z j x d)⟩
 |row es=>
  obtain ⟨E,c,t,n,A,m⟩:=h
  refine ⟨E,c,t,n,A,fun i r j x a d=>?_⟩
  obtain ⟨v,s,B,u⟩:=m i r j x a d
  exact ⟨v,s,B,z8k u (w4f z a d)⟩
 |arow es=>
  obtain ⟨E,c,t,n,A,m⟩:=h
  refine ⟨E,c,t,n,fun i r a=>?_,fun i r j y a q=>?_⟩
  ·rw [y2n,eAf] at a
   obtain ⟨C,b,rfl⟩:=eBm.1 a
   rw [z2i,eAy]; exact A i C b
  ·rw [y2n,eAf] at a
   obtain ⟨C,b,rfl⟩:=eBm.1 a
   rw [z2i,eAf] at q
   obtain ⟨x,d,rfl⟩:=eBm.1 q
   obtain ⟨v,s,B,u⟩:=m i C j x b d
   exact ⟨v,s,B,x6q G u (y1y (x8m z i C b) j x d)⟩
 |map es=>
  obtain ⟨I,F,n,A,m⟩:=h
  refine ⟨I,F,n,A,fun i k x a=>?_⟩
  obtain ⟨e,he,B,H⟩:=m i k x a
  have l:=eAx.1 z (k,x) (eAi a)
  simp only [eAc] at l
  exact ⟨e,he,z8k B l.1,z8k H l.2⟩
 |loop st J g pos K env=>cases z
end
theorem y6t (a b:List AO) (i:Nat):z0f (a++b) i=if i<a.length then z0f a i else z0f b (i - a.length):=by
 induction a generalizing i with
 |nil=>simp
 |cons o r c=>cases i with
  |zero=>simp [z0f]
  |succ n=>
   simp only [eDg,z0f,c n,eBn]
   by_cases h:n<r.length
   ·rw [if_pos h,if_pos (by omega)]
   ·rw [if_neg h,if_neg (by omega)]
    congr 1; omega
theorem w9c (f:AO→AO) (b:f .dead= .dead) (l:List AO) (i:Nat):z0f (l.map f) i=f (z0f l i):=by
 induction l generalizing i with
 |nil=>cases i<;>exact b.symm
 |cons o r a=>cases i with
  |zero=>rfl
  |succ n=>exact a n
section
variable {P:Program}
theorem lend {g:FuncId} {args:List AV} {r:AV} {n G:List AO} (ha:z3m P g (lL std n args).2 [] r G) (hc:(lL std n args).1=true) (hr:plV r=true) (V:z1j (plH std G)=true):
  z3m P g args n (z8g (n.length+ ·) r) (n++G.map (y9b (n.length+ ·))):=⟨by
 intro ρ vs w cs z hdm T
 let U:Rho:=ρ.only fun _=>false
 have E:∀ id L,U id=some L→False:=fun id L O=>by obtain ⟨a,_⟩:=z16.1 O; cases a
 have hc0:z0b P U [] w:=⟨fun id L O=>(E id L O).elim,fun id l L L' O=>(E id L O).elim,fun b m=>z.fr b m,fun id L O=>(E id L O).elim,z.gl.sub fun b m=> .inl (z4r.1 m)⟩
 obtain ⟨ρ',v,Q,fr,Z,hfn,hlv,hv,F,S,q⟩:=ha.run U vs w cs hc0 (fun id hid=>by
  cases hq:U id with
  |none=>exact absurd hq hid
  |some L=>exact (E id L hq).elim) ⟨by rw [y9s]; exact T.1,fun i y hi=>by
   obtain ⟨x,q,rfl,m⟩:=y9t n args hc i y hi
   exact u7h z (T.2 i x q) m⟩
 have o:∀ b,b<w.heap.size→Q.heap[b]?=w.heap[b]?:=by
  intro b m
  by_cases V:ρ.fr b
  ·exact q.frs b V
  ·exact q.keep.frame b m (fun h=>V (z4r.1 h))
 have R:ρ'.fr=ρ.fr:=q.fr
 have hk0:z43 (z0d ρ n) (z0d ρ n) w Q:=⟨q.keep.size,fun b m _=>o b m,fun b _ h=>h,q.keep.shape,q.keep.drawn⟩
 have hh0:z0b P ρ n Q:=z.of_keep hk0 fun b m=>o b (z7i z m)
 let base:=n.length
 let f:Nat→Nat:=(base+ ·)
 let ρ2:Rho:=⟨fun id=>if id<base then ρ id else ρ' (id - base),ρ.fr⟩
 let W:=n++G.map (y9b f)
 have J:∀ id,id<base→z0f W id=z0f n id:=fun id hid=>by show z0f (n++_) id=_; rw [y6t,if_pos hid]
 have I:∀ id,base≤id→z0f W id=y9b f (z0f G (id - base)):=fun id hid=>by
  show z0f (n++_) id=_
  rw [y6t,if_neg (by show ¬ id<base; omega),w9c _ rfl]
 have C:∀ id,id<base→ρ2 id=ρ id:=fun id hid=>by show (if id<base then _ else _)=_; rw [if_pos hid]
 have B:∀ id,base≤id→ρ2 id=ρ' (id - base):=fun id hid=>by show (if id<base then _ else _)=_; rw [if_neg (by omega)]
 have r3:∀ j M,ρ' j=some M→ρ2 (f j)=some M:=fun j M k=>by
  rw [B (f j) (Nat.le_add_right _ _)]
  show ρ' (base+j - base)=some M
  rw [Nat.add_sub_cancel_left]; exact k
 have Y:∀ id M,ρ id=some M→id<base:=fun id M k=>hdm id (by rw [k]; simp)
 have A:∀ j M,ρ' j=some M→(z0f G j).live=true→w.heap.size≤M.blk:=by
  intro j M k u
  rcases eCf M.blk w.heap.size with c|d
  ·have hob:z0d ρ' G M.blk:= .inr ⟨j,M,k,u,rfl⟩
   have:=z4r.1 (q.keep.own M.blk c hob)
   exact absurd (by rw [R]; exact this) (F.sep j M k u)
  ·exact d
 have hO:∀ b,z0d ρ2 W b→z0d ρ n b∨w.heap.size≤b:=by
  rintro b (hf|⟨id,M,k,u,rfl⟩)
  ·exact .inl (.inl hf)
  ·rcases eCf id base with c|d
   ·rw [C id c] at k; rw [J id c] at u; exact .inl (.inr ⟨id,M,k,u,rfl⟩)
   ·rw [B id d] at k; rw [I id d,z2e] at u; exact .inr (A _ M k u)
 have hk:z43 (z0d ρ n) (z0d ρ2 W) w Q:=⟨q.keep.size,fun b m _=>o b m,fun b m h=>(hO b h).elim id fun h=>by omega,q.keep.shape,q.keep.drawn⟩
 have H:∀ id M,ρ id=some M→ρ2 id=some M:=fun id M k=>by rw [C id (Y id M k)]; exact k
 refine ⟨ρ2,v,Q,fr,Z,hfn,hlv,x6q r3 hv hr,⟨fun id M k=>?_,fun id l M X k p N K e=>?_,fun b m=>hh0.fr b m,fun id M k u m=>?_,z.gl.keep hk⟩,fun id hid=>?_,?_⟩
 ·rcases eCf id base with c|d
  ·rw [C id c] at k
   obtain ⟨a,b⟩:=z.obj id M k
   rw [J id c]
   exact ⟨eAp a q.keep.size,b.keep hk H (o _ a)⟩
  ·rw [B id d] at k
   obtain ⟨a,b⟩:=F.obj (id - base) M k
   rw [I id d]
   exact ⟨a,v48 r3 (w4g V _) b⟩
 ·rcases eCf id base with c|d<;>rcases eCf l base with s|t
  ·rw [C id c] at k; rw [C l s] at p
   rw [J id c] at N; rw [J l s] at K
   exact z.inj id l M X k p N K e
  ·rw [C id c] at k; rw [B l t] at p
   rw [J id c] at N; rw [I l t,z2e] at K
   have a:=(z.obj id M k).1
   have b:=A _ X p K
   omega
  ·rw [B id d] at k; rw [C l s] at p
   rw [I id d,z2e] at N; rw [J l s] at K
   have a:=(z.obj l X p).1
   have b:=A _ M k N
   omega
  ·rw [B id d] at k; rw [B l t] at p
   rw [I id d,z2e] at N; rw [I l t,z2e] at K
   have:=F.inj _ _ M X k p N K e
   omega
 ·rcases eCf id base with c|d
  ·rw [C id c] at k; rw [J id c] at u
   exact z.sep id M k u m
  ·rw [B id d] at k; rw [I id d,z2e] at u
   exact F.sep _ M k u (by rw [R]; exact m)
 ·show id<(n++G.map (y9b f)).length
  rw [eCv,eAy]
  rcases eCf id base with c|d
  ·have:id<n.length:=c
   omega
  ·rw [B id d] at hid
   have:=S (id - base) hid
   have e:base=n.length:=rfl
   omega
 ·exact { os:=q.os,tape:=q.tape,output:=q.output,keep:=hk,rho:=fun id hid=>C id hid,fr:=rfl,frs:=fun b m=>o b (z.fr b m) }⟩
end
end Go.Am
end
section
namespace Go.Am
def x0r:Nat→List (Option Nat)
 |0=>[]
 |n+1=>some n::x0r n
theorem x0q:∀ {n a:Nat},a<n→y0g (x0r n) a=true
 |0,a,h=>by omega
 |n+1,a,h=>by
  simp only [x0r,y0g,eAt]
  by_cases e:a=n
  ·left; subst e; exact eFd _
  ·right; exact x0q (by omega)
def u0h (p:Prim) (c:Ctr) (args:List AV) (h:List AO):Option (List (Option Nat)×List Bool×Tup c.scs):=
 match w8v (v1e h c.heap 2 (y4m c.args args)) 0 c.heap with
 |σ=>bif w2c σ&&z6p h.length σ then match y3y h c.heap σ with
  |some v1=>match x2q p h σ (x0r h.length) (z7z c.heap v1).1 c.heap σ,y16 p h σ (x0r h.length) (z7z c.heap v1).1 c.args args with
   |some (e,b),some (d,a)=>match v5e c.scs (v1++(b++a)) with
    |some x=>some (σ,e++d,x)
    |none=>none
   |_,_=>none
  |none=>none
  else none
theorem x7e {P : Program} {c : Ctr} {args : List AV} {s : AS} {σ : List (Option Nat)} {cs : List Bool} {x : Tup c.scs} (h : u0h std c args s.heap = some (σ, cs, x)) (hc : z1j cs = true) {n : Nat} (hn : n ≤ s.heap.length) {r : AV} {hT' : List AO}
    (hl : (x5x std c (y7z c.scs x)).2.length ≤ hT'.length) (ha : z3m P c.g (x5x std c (y7z c.scs x)).1 (x5x std c (y7z c.scs x)).2 r hT') : z5k P n c.g args s (z8g (z3a σ s.heap.length) r) ⟨s.env, z2c (z3a σ s.heap.length) s.heap 0 hT', s.nt⟩ := by
  unfold u0h at h
  simp only at h
  generalize hσ : w8v (v1e s.heap c.heap 2 (y4m c.args args)) 0 c.heap = σ' at h
  cases hb : w2c σ' && z6p s.heap.length σ' with
  | false => rw [hb] at h; cases h
  | true =>
    rw [hb] at h; simp only [cond_true] at h
    simp only [eAc] at hb
    split at h
    · rename_i v1 h1
      split at h
      · rename_i c2 v2 c3 v3 h2 h3
        split at h
        · rename_i x' hx
          cases h
          obtain ⟨q2, q3⟩ := z2u hc
          rw [y5q hx] at hl ha
          obtain ⟨a1, a2, a3⟩ := w51 s.heap c.heap σ v1 h1 (v2 ++ v3)
          refine w2e hn hb.1 hb.2 hl (fun ρ w hr => ?_) ha
          rw [← a3] at h2 h3
          have cx : w78 P ρ (ρ.lent s.heap σ) (z0d ρ s.heap) s.heap w σ (x0r s.heap.length) (z7z c.heap (v1 ++ (v2 ++ v3))).1 :=
            { hr := hr
              loc := fun i a hi => by show (match z19 σ i with | some (some a) => ρ a | _ => none) = ρ a; rw [hi]
              sub := fun b hb => hb
              out := fun a M hM hl hm => by
                rcases eCf a s.heap.length with hlt | hge
                · rw [x0q hlt] at hm; cases hm
                · rw [x61 _ _ hge] at hl; cases hl }
          obtain ⟨b1, b2⟩ := w50 cx c.heap σ (z7z c.heap (v1 ++ (v2 ++ v3))).1 c2 v2 a2 h2 q2 v3
          obtain ⟨d1, d2, d3⟩ := z52 cx c.args args c3 v3 h3 q3 []
          rw [eCp] at d1 d2 d3
          refine ⟨?_, ?_, ?_⟩
          · show HOk _ _ _ _ _ _ _ (y71 std _ _ c.heap (z7z c.heap (v1 ++ (v2 ++ v3))).2).1
            rw [a1]; exact b2
          · show (z68 std _ c.args (y71 std _ _ c.heap (z7z c.heap (v1 ++ (v2 ++ v3))).2).2).1.length = _
            rw [a1, b1]; exact d2
          · show ∀ f : Nat → Value, _ → ∀ i y, (z68 std _ c.args (y71 std _ _ c.heap (z7z c.heap (v1 ++ (v2 ++ v3))).2).2).1[i]? = some y → _
            rw [a1, b1]; exact d3
        · cases h
      · cases h
    · cases h
structure CF where
 c:Ctr
 F:Prim→Tup c.scs→Option (STup (scss c.outs))
def y8x (f:Nat→Nat):List (List CK)→Nat→List (List CK)→List (List CK)
 |K,_,[]=>K
 |K,j,[]::r=>y8x f K (j+1) r
 |K,j,a::r=>y8x f (u4i K (f j) a) (j+1) r
def isE:List AO→Bool
 |[]=>true
 |_=>false
theorem w9x {l:List AO} (h:isE l=true):l=[]:=by cases l<;>first|rfl|cases h
def v5t (p:Prim) (c:Ctr) (args:List AV) (h:List AO):Option (List Bool×Tup c.scs):=
 match u0h p c (lL p h args).2 [] with
 |some ([],cs,x)=>bif isE (x5x p c (y7z c.scs x)).2 then some ((lL p h args).1::cs,x) else none
 |_=>none
def w2s (A:Alg) (p:Prim) (Γ:List CF) (β:Type) (g:FuncId) (args:List AV) (a:SS):Option ((AV→SS→A.Ω β)→A.Ω β):=
 match Γ with
 |[]=>none
 |cf::r=>bif Nat.beq cf.c.g g then match u0h p cf.c args a.s.heap with
  |some (σ,cs,x)=>some fun k=>needs A β cs (x5t A β p cf.c.outs (cf.F p x) fun _ s=>k (z8g (z3a σ a.s.heap.length) (z00 s.s.env 0)) ⟨⟨a.s.env,z2c (z3a σ a.s.heap.length) a.s.heap 0 s.s.heap,a.s.nt⟩,y8x (z3a σ a.s.heap.length) a.K 0 s.K⟩)
  |none=>match v5t p cf.c args a.s.heap with
   |some (cs,x)=>some fun k=>needs A β cs (x5t A β p cf.c.outs (cf.F p x) fun _ s=>needs A β (plV (z00 s.s.env 0)::plH p s.s.heap)
     (k (z8g (a.s.heap.length+ ·) (z00 s.s.env 0)) ⟨⟨a.s.env,a.s.heap++s.s.heap.map (y9b (a.s.heap.length+ ·)),a.s.nt⟩,y8x (a.s.heap.length+ ·) a.K 0 s.K⟩))
   |none=>w2s A p r β g args a
  else w2s A p r β g args a
def GamOk (P:Program) (Γ:List CF):Prop:=∀ cf∈Γ,CtrOk P cf.c (cf.F std)
mutual
theorem x1g (f:Nat→Nat) (hf:∀ j,f j=j):∀ x:AV,z8g f x=x
 | .bptr i off=>by simp [z8g,hf]
 | .ptr i j off=>by simp [z8g,hf]
 | .slice i z off len cap=>by simp [z8g,hf]
 | .map i=>by simp [z8g,hf]
 | .yld i=>by simp [z8g,hf]
 | .clo fn fs cs=>by simp [z8g,y3m f hf fs,y3m f hf cs]
 | .iface t v=>by simp [z8g,x1g f hf v]
 | .agg l=>by simp [z8g,y3m f hf l]
 | .tuple l=>by simp [z8g,y3m f hf l]
 | .bot=>rfl
 | .d x=>rfl
 | .lptr r off=>rfl
 | .wptr r off=>rfl
 | .perm r=>rfl
theorem y3m (f:Nat→Nat) (hf:∀ j,f j=j):∀ l:List AV,x6m f l=l
 |[]=>rfl
 |x::l=>by simp [x6m,x1g f hf x,y3m f hf l]
end
theorem v4y (f:Nat→Nat) (b:∀ j,f j=j) (o:AO):y9b f o=o:=by
 have c:∀ l:List AV,x6m f l=l:=y3m f b
 have e:∀ l:List (List AV),w4a f l=l:=fun l=>by
  rw [y2n]
  induction l with
  |nil=>rfl
  |cons x l a=>simp [c x,a]
 have d:∀ l:List (Nat×AV),v8g f l=l:=fun l=>by
  induction l with
  |nil=>rfl
  |cons x l a=>obtain ⟨k,x⟩:=x; simp [v8g,x1g f b x,a]
 cases o<;>simp [y9b,c,e,d]
theorem w85 (h:List AO) (o:AO):z03 h h.length o=h++[o]:=x1i h o
theorem x2r (f:Nat→Nat) (a:∀ j,f j=j):∀ (hT h:List AO),z2c f h h.length hT=h++hT
 |[],h=>by simp [z2c]
 |o::l,h=>by
  simp only [z2c,a,v4y f a,w85]
  have:=x2r f a l (h++[o])
  rw [eCv,List.length_singleton] at this
  rw [this]; simp
theorem w9m {P:Program} {c:Ctr} {args:List AV} {h:List AO} {cs:List Bool} {x:Tup c.scs} (e:v5t std c args h=some (cs,x)) (q:z1j cs=true) {r:AV} {b:List AO}
  (C:(x5x std c (y7z c.scs x)).2.length≤b.length) (E:z3m P c.g (x5x std c (y7z c.scs x)).1 (x5x std c (y7z c.scs x)).2 r b):z3m P c.g (lL std h args).2 [] r b∧(lL std h args).1=true:=by
 unfold v5t at e
 split at e
 ·rename_i i z f
  cases he:isE (x5x std c (y7z c.scs z)).2 with
  |false=>rw [he] at e; cases e
  |true=>
   rw [he] at e
   cases e
   simp only [z1j,eAc] at q
   have p:=x7e (P:=P) (s:=⟨[],[],0⟩) (n:=0) f q.2 (eAj _) C E
   refine ⟨?_,q.1⟩
   have hid:∀ j,z3a [] ([]:List AO).length j=j:=fun j=>by
    show (match z19 ([]:List (Option Nat)) j with|some (some a)=>a|_=>0+(j - 0))=j
    simp [z19]
   constructor
   intro ρ A w i B o u
   obtain ⟨ρ',v,l,fr,J,I,H,G,y,K,F⟩:=p.run ρ A #[] w i ⟨B,fun t=> .bot _,rfl,o⟩ u
   have m:z2c (z3a [] ([]:List AO).length) [] 0 b=b:=by
    have:=x2r _ hid b []
    simpa using this
   refine ⟨ρ',v,l,fr,J,I,H,?_,?_,?_,?_⟩
   ·have k:z0n ρ' (z0d ρ' (z2c (z3a [] ([]:List AO).length) [] 0 b)) l (z8g (z3a [] ([]:List AO).length) r) v:=G
    rw [m,x1g _ hid] at k; exact k
   ·have d:z0b P ρ' (z2c (z3a [] ([]:List AO).length) [] 0 b) l:=y.heap
    rw [m] at d; exact d
   ·have d:Dom ρ' (z2c (z3a [] ([]:List AO).length) [] 0 b):=y.dom
    rw [m] at d; exact d
   ·have d:Ext (· <0) ρ [] w ρ' (z2c (z3a [] ([]:List AO).length) [] 0 b) l:=F
    rw [m] at d; exact d
 ·cases e
theorem v1c {P:Program} {β:Type} {g:FuncId} {args:List AV} {a:SS} {n:Nat} (l:n≤a.s.heap.length):∀ {Γ:List CF} (j:GamOk P Γ) {t:(AV→SS→Option β)→Option β} {k:AV→SS→Option β} {b:β},w2s opt std Γ β g args a=some t→t k=some b→
  ∃ r e,n≤e.s.heap.length∧z3d P g∧z5k P n g args a.s r e.s∧k r e=some b:=by
 intro Γ
 induction Γ with
 |nil=>intro j t k b h _; cases h
 |cons cf r z=>
  intro j t k b h d
  simp only [w2s] at h
  cases p:Nat.beq cf.c.g g with
  |false=>rw [p] at h; exact z (fun c i=>j c (by simp [i])) h d
  |true=>
   rw [p] at h; simp only [cond_true] at h
   have:=eAd p; subst this
   split at h
   ·rename_i σ cs x o
    cases h
    obtain ⟨i,d⟩:=z1p d
    obtain ⟨y,m,d⟩:=z6s d
    obtain ⟨w,v⟩:=j cf (by simp)
    obtain ⟨u,q⟩:=v x y m
    refine ⟨_,⟨⟨a.s.env,z2c (z3a σ a.s.heap.length) a.s.heap 0 (z2g std cf.c.outs y).2.s.heap,a.s.nt⟩,y8x (z3a σ a.s.heap.length) a.K 0 (z2g std cf.c.outs y).2.K⟩,?_,w,x7e o i l u q,d⟩
    exact eBk l (z74 _ _ _ _).1
   ·split at h
    ·rename_i cs x o
     cases h
     obtain ⟨i,d⟩:=z1p d
     obtain ⟨y,m,d⟩:=z6s d
     obtain ⟨w,v⟩:=j cf (by simp)
     obtain ⟨u,q⟩:=v x y m
     obtain ⟨f,d⟩:=z1p d
     simp only [z1j,eAc] at f
     obtain ⟨B,A⟩:=w9m o i u q
     refine ⟨_,⟨⟨a.s.env,a.s.heap++(z2g std cf.c.outs y).2.s.heap.map (y9b (a.s.heap.length+ ·)),a.s.nt⟩,y8x (a.s.heap.length+ ·) a.K 0 (z2g std cf.c.outs y).2.K⟩,?_,w,z5k.of_aret l (lend B A f.1 f.2),d⟩
     exact eBk l (by simp)
    ·exact z (fun c i=>j c (by simp [i])) h d
def w4x:w29→Bool
 |[]=>true
 |(_,t)::l=>match t.heap with
  |[]=>w4x l
  |_=>false
def x6p (A:Alg) (p:Prim) (Γ:List CF) (β:Type) (g:FuncId) (args:List AV):Option ((AV→A.Ω β)→A.Ω β):=
 match Γ with
 |[]=>none
 |cf::r=>bif Nat.beq cf.c.g g&&y15 args then match u0h p cf.c args [] with
  |some (_,cs,x)=>bif isE (x5x p cf.c (y7z cf.c.scs x)).2&&w4x cf.c.outs then some fun k=>needs A β cs (x5t A β p cf.c.outs (cf.F p x) fun _ s=>bif isE s.s.heap&&z9x (z00 s.s.env 0) then k (z00 s.s.env 0) else A.no β 95) else x6p A p r β g args
  |none=>x6p A p r β g args
  else x6p A p r β g args
theorem y02 {f:AV→AV} {l:List AV} (h:∀ (i:Nat) (x:AV),l[i]?=some x→f x=x):l.map f=l:=by
 apply eBt
 intro i
 rw [eAf]
 cases a:l[i]? with
 |none=>rfl
 |some y=>simp [h i y a]
theorem w84 {f:Nat→Nat} {x:AV} (h:x2o x):z8g f x=x:=by
 induction h with
 |bot=>rfl
 |d x=>rfl
 |tuple e g c=>simp only [z8g,z2i]; congr 1; exact y02 c
 |agg e g c=>simp only [z8g,z2i]; congr 1; exact y02 c
 |clo fn k cs j i b a=>simp only [z8g,z2i]; rw [y02 b,y02 a]
theorem w86 {P:Program} {β:Type} {g:FuncId} {args:List AV}:∀ {Γ:List CF} (l:GamOk P Γ) {t:(AV→Option β)→Option β} {k:AV→Option β} {b:β},x6p opt std Γ β g args=some t→t k=some b→
  ∃ r,z3d P g∧(∀ h,z3m P g args h r h)∧k r=some b:=by
 intro Γ
 induction Γ with
 |nil=>intro l t k b h _; cases h
 |cons cf r q=>
  intro l t k b h a
  simp only [x6p] at h
  cases o:Nat.beq cf.c.g g&&y15 args with
  |false=>rw [o] at h; exact q (fun c f=>l c (by simp [f])) h a
  |true=>
   rw [o] at h; simp only [cond_true] at h
   simp only [eAc] at o
   have:=eAd o.1; subst this
   split at h
   ·rename_i σ cs x E
    cases he:isE (x5x std cf.c (y7z cf.c.scs x)).2&&w4x cf.c.outs with
    |false=>rw [he] at h; exact q (fun c f=>l c (by simp [f])) h a
    |true=>
    rw [he] at h
    have he:=(eAc _ _▸he:_∧_).1
    cases h
    obtain ⟨f,a⟩:=z1p a
    obtain ⟨y,B,a⟩:=z6s a
    obtain ⟨I,H⟩:=l cf (by simp)
    obtain ⟨G,F⟩:=H x y B
    cases j:isE (z2g std cf.c.outs y).2.s.heap&&z9x (z00 (z2g std cf.c.outs y).2.s.env 0) with
    |false=>rw [j] at a; cases a
    |true=>
     rw [j] at a
     simp only [eAc] at j
     refine ⟨_,I,fun h=>?_,a⟩
     have u:=x7e (P:=P) (s:=⟨[],[],0⟩) (n:=0) E f (eAj _) G F
     have C:w7t P cf.c.g args (z00 (z2g std cf.c.outs y).2.s.env 0):=⟨fun ρ A w cs S R Q=>by
      obtain ⟨ρ',v,m,fr,O,N,M,L,z,T,K⟩:=u.run ρ A #[] w cs ⟨S,fun t=> .bot _,rfl,R⟩ Q
      have J:=w9x j.1
      have p:z2c (z3a σ ([]:List AO).length) [] 0 (z2g std cf.c.outs y).2.s.heap=[]:=by rw [J]; rfl
      have e:=y5e _ j.2
      refine ⟨ρ',v,m,fr,O,N,M,?_,?_,?_,?_⟩
      ·have i:z0n ρ' (z0d ρ' (z2c (z3a σ ([]:List AO).length) [] 0 (z2g std cf.c.outs y).2.s.heap)) m (z8g (z3a σ ([]:List AO).length) (z00 (z2g std cf.c.outs y).2.s.env 0)) v:=L
       rw [p] at i
       have:z8g (z3a σ ([]:List AO).length) (z00 (z2g std cf.c.outs y).2.s.env 0)=z00 (z2g std cf.c.outs y).2.s.env 0:=w84 e
       rw [this] at i; exact i
      ·have:=z.heap
       show z0b P ρ' [] m
       have d:z0b P ρ' (z2c (z3a σ ([]:List AO).length) [] 0 (z2g std cf.c.outs y).2.s.heap) m:=this
       rw [p] at d; exact d
      ·have d:Dom ρ' (z2c (z3a σ ([]:List AO).length) [] 0 (z2g std cf.c.outs y).2.s.heap):=z.dom
       rw [p] at d; exact d
      ·have d:Ext (· <0) ρ [] w ρ' (z2c (z3a σ ([]:List AO).length) [] 0 (z2g std cf.c.outs y).2.s.heap) m:=K
       rw [p] at d; exact d⟩
     exact C.at (z6o _ o.2) (y5e _ j.2) h
   ·exact q (fun c f=>l c (by simp [f])) h a
structure LA where
 g:Nat
 pos:List Bool
 n:Nat
 ann:x2n
structure JA where
 g:Nat
 pos:List Bool
 n:Nat
 outs:w29
structure VA where
 g:Nat
 pos:List Bool
 st:ST
def u0i:List JA→Nat→List Bool→Nat→Option w29
 |[],_,_,_=>none
 |a::l,g,pos,n=>bif Nat.beq a.g g&&Nat.beq a.n n&&y8n a.pos pos then some a.outs else u0i l g pos n
def v3b:List VA→Nat→List Bool→Option ST
 |[],_,_=>none
 |a::l,g,pos=>bif Nat.beq a.g g&&y8n a.pos pos then some a.st else v3b l g pos
def x9i (id:Nat):List AO→Bool
 |[]=>false
 | .arow es::l=>(es.any fun r=>r.any fun x=>match x with| .slice a _ _ _ _=>Nat.beq a id|_=>false)||x9i id l
 |_::l=>x9i id l
def u0u (n:Nat) (s:AS):AS:=
 ⟨y75 s.heap (fun id=>Nat.blt id n||!x9i id s.heap) s.env,z38 s.heap (fun id=>Nat.blt id n||!x9i id s.heap) 0 s.heap,s.nt⟩
theorem v0o (n:Nat) (s:AS):z5z n s (u0u n s):=
 z5z.view _ (fun id h=>by rw [eAt]; exact .inl (by simpa using h)) ⟨fun _=>rfl,fun id _ h=>by rw [z55]; exact h⟩
structure Anns where
 Γ:List CF
 J:List JA
 V:List VA
def u4n (A:Alg) (p:Prim) (a:Anns):Orc A where
 call:=fun β _ _ _ _ g args ss=>w2s A p a.Γ β g args ss
 pure:=fun β _ _ _ g args _=>x6p A p a.Γ β g args
 loop:=fun _ _ _ _ _=>none
 join:=fun β n g pos body k=>match u0i a.J g pos n with
  |some os=>v52 A p n os β body k
  |none=>body β k
 view:=fun β n g pos ss k=>match v3b a.V g pos with
  |some st=>match w75 p n st ss.s with
   |some (cs,x)=>needs A β cs (k (y41 p st x))
   |none=>match w75 p n st (u0u n ss.s) with
    |some (cs,x)=>needs A β cs (k (y41 p st x))
    |none=>A.no β 96
  |none=>k ss
theorem x6w {P:Program} {a:Anns} (hG:GamOk P a.Γ):y39 P (u4n opt std a) where
 call:=fun β g0 pos ix n g args ss t k b h ht hn=>v1c hn hG h ht
 pure:=fun β g0 pos ix g args ss t k b h ht=>by
  obtain ⟨r,h1,h2,h3⟩:=w86 hG h ht
  exact ⟨r,h1,fun h _=>h2 h,h3⟩
 loop:=fun _ _ _ _ _ _ _ _ _ _ _ h=>by cases h
 join:=fun β n g pos body k b G hb h=>by
  simp only [u4n] at h
  split at h
  ·exact w9t hb h
  ·obtain ⟨e,ss',hg,hk⟩:=hb β k b h
   exact ⟨e,ss',ss',hg,z5z.refl _ _,fun h=>h,hk⟩
 view:=fun β n g pos ss k b hn h=>by
  simp only [u4n] at h
  split at h
  ·split at h
   ·rename_i cs x hx
    obtain ⟨hc,h⟩:=z1p h
    obtain ⟨v1,v2⟩:=y3x hx hc
    exact ⟨_,v1,v2,h⟩
   ·split at h
    ·rename_i cs x hx
     obtain ⟨hc,h⟩:=z1p h
     obtain ⟨v1,v2⟩:=y3x hx hc
     exact ⟨_,(v0o n ss.s).trans v1,v2,h⟩
    ·cases h
  ·exact ⟨ss,z5z.refl _ _,hn,h⟩
noncomputable def mkOrc (A : Alg) (p : Prim) (E : Env) (f : Nat) (a : Anns) : List LA → Orc A
  | [] => u4n A p a
  | l :: d => { mkOrc A p E f a d with
      loop := fun β n g pos b => bif Nat.beq l.g g && (Nat.beq l.n n && (y8n l.pos pos && (w75 p n l.ann.head b.s).isSome)) then match E.A g pos with
        | some (.loop c) => some (v5q A p (sym A p E (mkOrc A p E f a d) f) n g pos c l.ann β b)
        | _ => none
        else (mkOrc A p E f a d).loop β n g pos b }
theorem mkOrc_ok {P : Program} {E : Env} (hE : EnvOk P E) {f : Nat} {a : Anns} (q : GamOk P a.Γ) : ∀ i, y39 P (mkOrc opt std E f a i)
  | [] => x6w q
  | l :: i => by
    have e := mkOrc_ok hE (f := f) q i
    exact { call := e.call, pure := e.pure, join := e.join, view := e.view
            loop := fun β n g pos c r t k b d o h m => by
              simp only [mkOrc] at h
              cases p : Nat.beq l.g g && (Nat.beq l.n n && (y8n l.pos pos && (w75 std n l.ann.head r.s).isSome)) with
              | false => rw [p] at h; exact e.loop _ _ _ _ _ _ _ _ _ d o h m
              | true =>
                rw [p] at h
                simp only [cond_true] at h
                split at h
                · rename_i u j
                  cases h
                  have := hE.code _ _ _ j
                  rw [d] at this; cases this
                  exact w9l (x74 hE e f) d o m
                · cases h }
theorem enters_auto {P:Program} {g:FuncId} {b:Option v2m} (h:infoOf P g=b) (a:b.isSome=true):z3d P g:=by
 cases b with
 |none=>cases a
 |some i=>obtain ⟨_,_,_,_,_,e⟩:=y2u h; exact e
end Go.Am
end
section
namespace Go.Am.D12
structure Cd where
 n:Int
 k:Int
 t:List Int
 a:Int
 deriving DecidableEq,Inhabited
def tch (c d:Cd):Bool:=c.t.any fun x=>d.t.contains x
theorem z8z {c d:Cd}:tch c d=true↔∃ x,x∈c.t∧x∈d.t:=by
 simp [tch]
theorem w8l (c d:Cd):tch c d=tch d c:=by
 rw [eBx,z8z,z8z]
 constructor<;>rintro ⟨x,b,a⟩<;>exact ⟨x,a,b⟩
def w9f:List Cd→Option Cd
 |[]=>none
 |c::l=>match w9f l with
  |none=>some c
  |some d=>if d.n<c.n then some d else some c
theorem y6w {l:List Cd}:w9f l=none↔l=[]:=by
 cases l with
 |nil=>simp [w9f]
 |cons c l=>
  simp only [w9f,reduceCtorEq,iff_false]
  split
  ·simp
  ·split<;>simp
theorem z61 {l:List Cd} {c:Cd} (h:w9f l=some c):c∈l∧∀ d∈l,c.n≤d.n:=by
 induction l generalizing c with
 |nil=>cases h
 |cons x l f=>
  simp only [w9f] at h
  split at h
  ·rename_i a
   cases h
   have:=y6w.1 a
   subst this
   simp
  ·rename_i d a
   obtain ⟨g,b⟩:=f a
   split at h
   ·cases h
    refine ⟨eBc _ g,fun e he=>?_⟩
    rcases eAm.1 he with rfl|he
    ·omega
    ·exact b e he
   ·cases h
    refine ⟨eAu,fun e he=>?_⟩
    rcases eAm.1 he with rfl|he
    ·omega
    ·have:=b e he; omega
def Inj (l:List Cd):Prop:=∀ x∈l,∀ y∈l,x.n=y.n→x=y
theorem Inj.sub {l m:List Cd} (h:Inj l) (a:∀ x∈m,x∈l):Inj m:=fun x c y b e=>h x (a x c) y (a y b) e
theorem v5m {l:List Cd} {c:Cd} (e:Inj l):w9f l=some c↔c∈l∧∀ d∈l,c.n≤d.n:=by
 refine ⟨z61,fun ⟨a,g⟩=>?_⟩
 cases h:w9f l with
 |none=>rw [y6w.1 h] at a; cases a
 |some d=>
  obtain ⟨b,f⟩:=z61 h
  have:=g d b
  have:=f c a
  rw [e c a d b (by omega)]
section
variable (R:Cd→Cd→Bool)
def z7p (rem:List Cd) (c:Cd):Bool:=rem.all fun d=>!R d c
theorem z4f {rem:List Cd} {c:Cd}:z7p R rem c=true↔∀ d∈rem,R d c=false:=by
 simp [z7p]
def y36 (rem:List Cd):Option Cd:=w9f (rem.filter (z7p R rem))
theorem y35 {rem:List Cd} {c:Cd} (i:Inj rem):y36 R rem=some c↔c∈rem∧(∀ d∈rem,R d c=false)∧∀ d∈rem,(∀ e∈rem,R e d=false)→c.n≤d.n:=by
 unfold y36
 rw [v5m (i.sub fun x h=>(eAz.1 h).1)]
 simp only [eAz,z4f]
 constructor
 ·rintro ⟨⟨g,f⟩,b⟩
  exact ⟨g,f,fun d a he=>b d ⟨a,he⟩⟩
 ·rintro ⟨g,f,b⟩
  exact ⟨⟨g,f⟩,fun d a=>b d a.1 a.2⟩
theorem x5o {rem:List Cd}:y36 R rem=none↔∀ c∈rem,∃ d∈rem,R d c=true:=by
 unfold y36
 rw [y6w,List.filter_eq_nil_iff]
 simp [z7p]
theorem x0i {R S:Cd→Cd→Bool} {r s:List Cd} (i:Inj r) (hm:∀ x,x∈r↔x∈s) (e:∀ x∈r,(∀ d∈r,R d x=false)↔(∀ d∈s,S d x=false)):y36 R r=y36 S s:=by
 have k:Inj s:=i.sub fun x j=>(hm x).2 j
 apply Option.ext
 intro c
 rw [y35 R i,y35 S k]
 constructor
 ·rintro ⟨f,h,g⟩
  exact ⟨(hm c).1 f,(e c f).1 h,fun d a he=>g d ((hm d).2 a) ((e d ((hm d).2 a)).2 he)⟩
 ·rintro ⟨f,h,g⟩
  have b:=(hm c).2 f
  exact ⟨b,(e c b).2 h,fun d a he=>g d ((hm d).1 a) ((e d a).1 he)⟩
def rm (c:Cd) (l:List Cd):List Cd:=l.filter fun d=>!decide (d=c)
theorem z5d {c d:Cd} {l:List Cd}:d∈rm c l↔d∈l∧d≠c:=by simp [rm]
theorem y6c {c:Cd} {l:List Cd} (a:l.Nodup) (f:c∈l):(rm c l).length+1=l.length:=by
 induction l with
 |nil=>cases f
 |cons x l g=>
  obtain ⟨i,a⟩:=eCx.1 a
  by_cases e:x=c
  ·subst e
   have:rm x (x::l)=l:=by
    simp only [rm,eFb,decide_true,eDl,eAg,if_false]
    rw [List.filter_eq_self]
    intro d j
    have:d≠x:=fun e=>i (e▸j)
    simp [this]
   rw [this]; rfl
  ·have b:c∈l:=by
    rcases eAm.1 f with h|h
    ·exact absurd h.symm e
    ·exact h
   have:=g a b
   have k:rm c (x::l)=x::rm c l:=by simp [rm,eFb,e]
   rw [k,eBn,eBn,this]
def lst:Nat→List Cd→List Cd
 |0,_=>[]
 |f+1,rem=>match y36 R rem with
  |none=>[]
  |some c=>c::lst f (rm c rem)
theorem y6y (f:Nat) (rem:List Cd):∀ x∈lst R f rem,x∈rem:=by
 induction f generalizing rem with
 |zero=>intro x a; cases a
 |succ f b=>
  intro x a
  simp only [lst] at a
  split at a
  ·cases a
  ·rename_i c d
   rcases eAm.1 a with rfl|a
   ·exact (eAz.1 (z61 d).1).1
   ·exact (z5d.1 (b _ x a)).1
def Lin (l:List Cd):Prop:=l.Pairwise (fun x y=>R y x=false)∧∀ x∈l,R x x=false
theorem Lin.filter {R:Cd→Cd→Bool} {l:List Cd} (h:Lin R l) (p:Cd→Bool):Lin R (l.filter p):=
 ⟨h.1.filter p,fun x a=>h.2 x (eAz.1 a).1⟩
theorem x5n {R:Cd→Cd→Bool} {l:List Cd} (h:Lin R l) (b:l≠[]):∃ c,y36 R l=some c:=by
 cases f:y36 R l with
 |some c=>exact ⟨c,rfl⟩
 |none=>
  exfalso
  cases l with
  |nil=>exact b rfl
  |cons x l=>
   obtain ⟨d,e,a⟩:=(x5o R).1 f x eAu
   rcases eAm.1 e with rfl|e
   ·rw [h.2 d eAu] at a; cases a
   ·rw [(eCh.1 h.1).1 d e] at a; cases a
theorem v5o {R:Cd→Cd→Bool} {l:List Cd} (h:Lin R l) (d:l.Nodup):∀ x,x∈lst R l.length l↔x∈l:=by
 intro x
 refine ⟨y6y R _ _ x,?_⟩
 generalize b:l.length=f
 induction f generalizing l with
 |zero=>intro a; rw [eBr.1 b] at a; cases a
 |succ f i=>
  intro a
  obtain ⟨c,g⟩:=x5n h (fun e=>by rw [e] at b; cases b)
  have j:c∈l:=(eAz.1 (z61 g).1).1
  simp only [lst,g]
  by_cases e:x=c
  ·rw [e]; exact eAu
  ·refine eBc _ (i (h.filter _) (d.sublist List.filter_sublist) ?_ (z5d.2 ⟨a,e⟩))
   have:=y6c d j
   show (rm c l).length=f
   omega
theorem w46 {f:Nat} {l:List Cd}:(lst R f l).Nodup:=by
 induction f generalizing l with
 |zero=>exact List.nodup_nil
 |succ f a=>
  simp only [lst]
  split
  ·exact List.nodup_nil
  ·rename_i c b
   refine eCx.2 ⟨fun h=>?_,a⟩
   exact (z5d.1 (y6y R _ _ _ h)).2 rfl
theorem v5p {R:Cd→Cd→Bool} {f:Nat} {l:List Cd} (a:∀ x∈l,R x x=false):Lin R (lst R f l):=by
 refine ⟨?_,fun x b=>a x (y6y R _ _ x b)⟩
 induction f generalizing l with
 |zero=>exact List.Pairwise.nil
 |succ f d=>
  simp only [lst]
  split
  ·exact List.Pairwise.nil
  ·rename_i c g
   have hm:=eAz.1 (z61 g).1
   refine List.Pairwise.cons (fun y e=>?_) (d fun x b=>a x (z5d.1 b).1)
   exact (z4f R).1 hm.2 y (z5d.1 (y6y R _ _ y e)).1
theorem z89 {l m:List Cd} (b:l.Nodup) (a:m.Nodup) (h:∀ x,x∈l↔x∈m):l.Perm m:=(List.perm_ext_iff_of_nodup b a).2 h
theorem w9k {R:Cd→Cd→Bool} {l:List Cd} (h:Lin R l) (a:l.Nodup):(lst R l.length l).Perm l:=z89 (w46 R) a (v5o h a)
theorem w47 {R S:Cd→Cd→Bool} (f:Nat) {r s:List Cd} (e:Inj r) (hm:∀ x,x∈r↔x∈s) (hR:∀ x∈r,∀ y∈r,R x y=S x y):lst R f r=lst S f s:=by
 induction f generalizing r s with
 |zero=>rfl
 |succ f g=>
  simp only [lst]
  have j:y36 R r=y36 S s:=x0i e hm fun x a=>
   ⟨fun h d b=>by rw [←hR d ((hm d).2 b) x a]; exact h d ((hm d).2 b),fun h d b=>by rw [hR d b x a]; exact h d ((hm d).1 b)⟩
  rw [j]
  split
  ·rfl
  ·rename_i c _
   congr 1
   exact g (e.sub fun x a=>(z5d.1 a).1) (fun x=>by rw [z5d,z5d,hm x]) fun x a y i=>hR x (z5d.1 a).1 y (z5d.1 i).1
theorem x39 {R S:Cd→Cd→Bool} (a:List Cd) (w:∀ x∈a,∀ y∈a,R x y=true→S x y=true) (v:∀ x∈a,∀ y∈a,S x y=true→R x y=true∨∃ z∈a,S x z=true∧R z y=true) (t:Inj a):
  ∀ (f:Nat) (rem:List Cd),(∀ x∈rem,x∈a)→(∀ x∈a,∀ y∈a,y∉rem→S x y=true→x∉rem)→lst R f rem=lst S f rem
 |0,_,_,_=>rfl
 |f+1,rem,b,u=>by
  simp only [lst]
  have e:∀ x∈rem,(∀ d∈rem,R d x=false)↔(∀ d∈rem,S d x=false):=by
   intro x i
   constructor
   ·intro h d g
    cases hS:S d x with
    |false=>rfl
    |true=>
     exfalso
     rcases v d (b d g) x (b x i) hS with s|⟨z,A,o,j⟩
     ·rw [h d g] at s; cases s
     ·have n:z∉rem:=fun m=>by rw [h z m] at j; cases j
      exact u d (b d g) z A n o g
   ·intro h d g
    cases hR:R d x with
    |false=>rfl
    |true=>have:=w d (b d g) x (b x i) hR; rw [h d g] at this; cases this
  have E:y36 R rem=y36 S rem:=x0i (t.sub b) (fun _=>Iff.rfl) e
  rw [E]
  split
  ·rfl
  ·rename_i c r
   have hm:=eAz.1 (z61 r).1
   congr 1
   refine x39 a w v t f _ (fun x i=>b x (z5d.1 i).1) ?_
   intro x i y B p hS q
   obtain ⟨l,C⟩:=z5d.1 q
   by_cases k:y=c
   ·subst k
    rw [(z4f S).1 hm.2 x l] at hS
    cases hS
   ·exact u x i y B (fun h=>p (z5d.2 ⟨h,k⟩)) hS l
end
end Go.Am.D12
end
section
namespace Go.Am.D12
def ord (l:List Cd) (x y:Cd):Bool:=tch x y&&decide (l.idxOf x<l.idxOf y)
theorem z1d {l:List Cd} {x y:Cd}:ord l x y=true↔tch x y=true∧l.idxOf x<l.idxOf y:=by simp [ord]
theorem w5k {l:List Cd} {x y:Cd} (c:x∈l) (h:l.idxOf x=l.idxOf y):x=y:=by
 have e:=eDe.2 c
 have d:l.idxOf y<l.length:=by omega
 have a:=eCi e
 have b:=eCi d
 rw [←a, ←b]; congr 1
theorem v9f {P:Cd→Cd→Prop} {l:List Cd} (c:l.Pairwise P) {x y:Cd} (b:x∈l) (a:y∈l) (h:l.idxOf x<l.idxOf y):P x y:=by
 have e:=eDe.2 b
 have d:=eDe.2 a
 have:=eCm.1 c _ _ e d h
 rwa [eCi,eCi] at this
theorem x3u {P:Cd→Cd→Prop} {l:List Cd} (b:l.Nodup) (h:∀ x∈l,∀ y∈l,l.idxOf x<l.idxOf y→P x y):l.Pairwise P:=by
 rw [eCm]
 intro i j d c a
 refine h _ (eCk _) _ (eCk _) ?_
 rw [b.idxOf_getElem,b.idxOf_getElem]; exact a
theorem x1n {l:List Cd} (a:l.Nodup):Lin (ord l) l:=by
 refine ⟨x3u a fun x _ y _ h=>?_,fun x _=>?_⟩
 ·have:¬ l.idxOf y<l.idxOf x:=by omega
  simp [ord,this]
 ·simp [ord]
def Eqv (a b:List Cd):Prop:=a.Perm b∧∀ x∈a,∀ y∈a,ord a x y=ord b x y
theorem Eqv.refl (a:List Cd):Eqv a a:=⟨.refl a,fun _ _ _ _=>rfl⟩
theorem Eqv.symm {a b:List Cd} (h:Eqv a b):Eqv b a:=⟨h.1.symm,fun x d y c=>(h.2 x (h.1.mem_iff.2 d) y (h.1.mem_iff.2 c)).symm⟩
theorem Eqv.trans {a b c:List Cd} (h:Eqv a b) (k:Eqv b c):Eqv a c:=⟨h.1.trans k.1,fun x e y d=>(h.2 x e y d).trans (k.2 x (h.1.mem_iff.1 e) y (h.1.mem_iff.1 d))⟩
theorem y6n {l:List Cd} {x y:Cd} (c:x∈l) (a:x≠y) (h:tch x y=true):ord l x y=true∨ord l y x=true:=by
 rw [z1d,z1d,w8l y x]
 have:l.idxOf x≠l.idxOf y:=fun e=>a (w5k c e)
 rcases Nat.lt_or_gt_of_ne this with b|b
 ·exact .inl ⟨h,b⟩
 ·exact .inr ⟨h,b⟩
theorem y6o {l:List Cd} {x y:Cd} (h:ord l x y=true):ord l y x=false:=by
 have:=(z1d.1 h).2
 have:¬ l.idxOf y<l.idxOf x:=by omega
 simp [ord,this]
theorem x8v {l:List Cd} {x y:Cd} (h:ord l x y=true):x≠y:=fun e=>by
 have:=(z1d.1 h).2; rw [e] at this; omega
theorem w2k {a m:List Cd} (d:a.Perm m) (g:a.Nodup) (i:Lin (ord a) m):Eqv a m:=by
 have hm:m.Nodup:=d.nodup_iff.1 g
 have key:∀ x∈a,∀ y∈a,ord a x y=true→ord m x y=true:=fun x c y e h=>by
  rcases y6n (l:=m) (d.mem_iff.1 c) (x8v h) (z1d.1 h).1 with b|b
  ·exact b
  ·have:=v9f i.1 (d.mem_iff.1 e) (d.mem_iff.1 c) (z1d.1 b).2
   rw [h] at this; cases this
 refine ⟨d,fun x c y e=>?_⟩
 cases h:ord a x y with
 |true=>exact (key x c y e h).symm
 |false=>
  cases b:ord m x y with
  |false=>rfl
  |true=>
   rcases y6n c (x8v b) (z1d.1 b).1 with f|f
   ·rw [h] at f; cases f
   ·have:=y6o (key y e x c f); rw [b] at this; cases this
def z11 (l:List Cd):List Cd:=lst (ord l) l.length l
theorem z62 {l:List Cd} (a:l.Nodup):Eqv l (z11 l):=
 w2k (w9k (x1n a) a).symm a (v5p (x1n a).2)
theorem x1t {a b:List Cd} (c:Inj a) (h:Eqv a b):z11 a=z11 b:=by
 unfold z11
 rw [h.1.length_eq]
 exact w47 _ c (fun x=>h.1.mem_iff) h.2
theorem x14 {a b:List Cd} (e:Inj a) (c:a.Nodup) (d:a.Perm b):z11 a=z11 b↔Eqv a b:=by
 refine ⟨fun h=>?_,x1t e⟩
 exact (z62 c).trans (h▸(z62 (d.nodup_iff.1 c)).symm)
theorem v27 {p q:List Cd} {x:Cd} (a:x∉p):(p++x::q).idxOf x=p.length:=by
 rw [List.idxOf_append,if_neg a]; simp
def on (x:Int) (l:List Cd):List Cd:=l.filter fun c=>c.t.contains x
theorem z9s {x:Int} {l:List Cd} {c:Cd}:c∈on x l↔c∈l∧x∈c.t:=by simp [on]
theorem v2r {x:Int} {l m:List Cd} {c d:Cd} (b:c∈on x l) (a:d∈on x m):tch c d=true:=z8z.2 ⟨x,(z9s.1 b).2,(z9s.1 a).2⟩
theorem x3t {P:Cd→Cd→Prop} (d:∀ x y,P x y→¬ P y x):∀ {l m:List Cd},l.Perm m→l.Pairwise P→m.Pairwise P→l=m
 |[],m,h,_,_=>by rw [List.nil_perm.1 h]
 |x::l,m,h,g,f=>by
  cases m with
  |nil=>exact absurd h.length_eq (by simp)
  |cons y m=>
   have b:x=y:=by
    have c:x∈y::m:=h.mem_iff.1 eAu
    have a:y∈x::l:=h.mem_iff.2 eAu
    rcases eAm.1 c with e|c
    ·exact e
    ·rcases eAm.1 a with e|a
     ·exact e.symm
     ·exact absurd ((eCh.1 g).1 y a) (d _ _ ((eCh.1 f).1 x c))
   subst b
   rw [x3t d (List.perm_cons _|>.1 h) (eCh.1 g).2 (eCh.1 f).2]
theorem x9l {l:List Cd} (a:l.Nodup):l.Pairwise fun x y=>l.idxOf x<l.idxOf y:=x3u a fun _ _ _ _ h=>h
theorem Eqv.on {a b:List Cd} (h:Eqv a b) (k:a.Nodup) (x:Int):on x a=on x b:=by
 have n:b.Nodup:=h.1.nodup_iff.1 k
 have m:(D12.on x a).Perm (D12.on x b):=h.1.filter _
 refine x3t (P:=fun c d=>ord a c d=true) (fun c d o l=>by rw [y6o o] at l; cases l) m ?_ ?_
 ·refine ((x9l k).filter _).imp_of_mem ?_
  intro c d g f e
  exact z1d.2 ⟨v2r g f,e⟩
 ·refine ((x9l n).filter _).imp_of_mem ?_
  intro c d g f e
  have j:=(z9s.1 g).1
  have i:=(z9s.1 f).1
  rw [h.2 c (h.1.mem_iff.2 j) d (h.1.mem_iff.2 i)]
  exact z1d.2 ⟨v2r g f,e⟩
end Go.Am.D12
end
section
namespace Go.Am.D12
def z3s (k:Int):Nat:=if k=1∨k=2∨k=5 then 1 else if k=3∨k=4 then 2 else if k=6 then 3 else 0
def w76 (k a:Int):Prop:=(k=1∧1≤a∧a≤1000000)∨(k=2∧1≤a∧a≤10000)∨(k=3∧1≤a∧a≤100000)∨(k=6∧0≤a∧a≤1000000)∨((k=4∨k=5)∧a=0)
instance t0h (k a:Int):Decidable (w76 k a):=by unfold w76; infer_instance
def z5s (x:Int):Prop:=1≤x∧x≤1099511627776
instance u4u (x:Int):Decidable (z5s x):=by unfold z5s; infer_instance
def z3c (c:Cd):Int:=
 if ¬ z5s c.n∨z3s c.k=0 then 2
 else if c.t.length≠z3s c.k then 6
 else if ∃ x∈c.t,¬ z5s x then 3
 else if ¬ c.t.Nodup then 16
 else if ¬ w76 c.k c.a then 2 else 0
theorem y7o {c:Cd}:z3c c=0↔z5s c.n∧z3s c.k≠0∧c.t.length=z3s c.k∧(∀ x∈c.t,z5s x)∧c.t.Nodup∧w76 c.k c.a:=by
 unfold z3c
 constructor
 ·intro h
  repeat' split at h
  all_goals first|(exfalso; omega)|skip
  rename_i b f j e d
  simp only [not_or,Decidable.not_not] at b f e d
  refine ⟨b.1,b.2,f,fun x g=>Decidable.byContradiction fun i=>j ⟨x,g,i⟩,e,d⟩
 ·rintro ⟨b,f,j,e,d,l⟩
  rw [if_neg (by simp only [not_or,Decidable.not_not]; exact ⟨b,f⟩),if_neg (by simpa using j),if_neg (by rintro ⟨x,g,i⟩; exact i (e x g)),if_neg (by simpa using d),if_neg (by simpa using l)]
def z0w (l:List Cd):Int:=
 if 60<l.length then 6
 else match l.find? fun c=>!decide (z3c c=0) with
  |some c=>z3c c
  |none=>if (l.map (·.n)).Nodup then 0 else 11
theorem x7m {l:List Cd}:z0w l=0↔l.length≤60∧(∀ c∈l,z3c c=0)∧(l.map (·.n)).Nodup:=by
 unfold z0w
 split
 ·constructor
  ·intro h; omega
  ·intro h; omega
 ·rename_i f
  split
  ·rename_i c a
   have e:=List.find?_some a
   have g:=eCy a
   simp at e
   constructor
   ·intro h; exact absurd h e
   ·intro h; exact absurd (h.2.1 c g) e
  ·rename_i a
   rw [List.find?_eq_none] at a
   have d:∀ c∈l,z3c c=0:=fun c h=>by simpa using a c h
   split
   ·rename_i b; exact ⟨fun _=>⟨by omega,d,b⟩,fun _=>rfl⟩
   ·rename_i b; exact ⟨fun h=>by omega,fun h=>absurd h.2.2 b⟩
theorem z3x {l:List Cd} (h:(l.map (·.n)).Nodup):l.Nodup:=by
 rw [List.nodup_iff_pairwise_ne] at h⊢
 rw [List.pairwise_map] at h
 exact h.imp fun h e=>h (by rw [e])
theorem z2j {l:List Cd} (h:(l.map (·.n)).Nodup):Inj l:=by
 intro x b y a e
 obtain ⟨i,d,rfl⟩:=eBy.1 b
 obtain ⟨j,c,rfl⟩:=eBy.1 a
 have:=(List.getElem_inj (xs:=l.map (·.n)) (i:=i) (j:=j) (h₀:=by simpa using d) (h₁:=by simpa using c) h).1 (by simpa using e)
 subst this; rfl
structure Th where
 num:Int
 val:Int
 hrs:Int
 out:Bool
 deriving DecidableEq,Inhabited
def fnd (b:List Th) (x:Int):Option Th:=b.find? fun t=>decide (t.num=x)
def upd (b:List Th) (x:Int) (f:Th→Th):List Th:=b.map fun t=>if t.num=x then f t else t
def x0 (c:Cd):Int:=c.t.getD 0 0
def x1 (c:Cd):Int:=c.t.getD 1 0
def x2 (c:Cd):Int:=c.t.getD 2 0
abbrev Sf:=Int→Option Th
def v8v (s:Sf) (x:Int):Int:=match s x with
 |none=>5
 |some t=>if t.out then 9 else 0
def x62 (s:Sf):List Int→Int
 |[]=>0
 |x::l=>if v8v s x=0 then x62 s l else v8v s x
def needs (c:Cd):List Int:=if c.k=3∨c.k=6 then c.t else c.t.take 1
def w71 (s:Sf) (x:Int):Int:=((s x).map (·.val)).getD 0
def hrsS (s:Sf) (x:Int):Int:=((s x).map (·.hrs)).getD 0
def errC (s:Sf) (c:Cd):Int:=
 if c.k=1 then (if (s (x0 c)).isSome then 11 else 0)
 else if x62 s (needs c)≠0 then x62 s (needs c)
 else if c.k=2 then (if 10000<hrsS s (x0 c)+c.a then 4 else 0)
 else if c.k=3 then (if (w71 s (x1 c)*c.a).tdiv 1000<1∨1000000<(w71 s (x1 c)*c.a).tdiv 1000 then 4 else 0)
 else if c.k=4 then (if (s (x1 c)).isSome then 11 else 0)
 else if c.k=5 then 0
 else if c.a<w71 s (x0 c)+w71 s (x1 c) - w71 s (x2 c)∨c.a< -(w71 s (x0 c)+w71 s (x1 c) - w71 s (x2 c)) then 23 else 0
def t1p (s:Sf) (c:Cd) (t:Th):Th:=
 if c.k=2 then { t with hrs:=t.hrs+c.a }
 else if c.k=3 then { t with val:=(w71 s (x1 c)*c.a).tdiv 1000 }
 else if c.k=4∨c.k=5 then { t with out:=true }
 else t
def after (s:Sf) (c:Cd):Sf:=
 if errC s c≠0 then s
 else if c.k=1 then fun y=>if y=x0 c then some ⟨x0 c,c.a,0,false⟩ else s y
 else if c.k=4 then fun y=>if y=x1 c then some ⟨x1 c,w71 s (x0 c),0,false⟩ else if y=x0 c then (s y).map (t1p s c) else s y
 else fun y=>if y=x0 c then (s y).map (t1p s c) else s y
def st (l:List Cd):Sf:=l.foldl after fun _=>none
theorem y6x {k:Int} (h:z3s k≠0):((k=1∨k=2∨k=5)∧z3s k=1)∨((k=3∨k=4)∧z3s k=2)∨(k=6∧z3s k=3):=by
 unfold z3s at h⊢
 split
 ·rename_i c; exact .inl ⟨c,rfl⟩
 ·rename_i c
  split
  ·rename_i b; exact .inr (.inl ⟨b,rfl⟩)
  ·rename_i b
   split
   ·rename_i a; exact .inr (.inr ⟨a,rfl⟩)
   ·rename_i a; rw [if_neg c,if_neg b,if_neg a] at h; exact absurd rfl h
theorem x3z (x:Int) (p q:List Cd):on x (p++q)=on x p++on x q:=by simp [on]
theorem w4s {x:Int} {e:Cd} (h:x∈e.t) (q:List Cd):on x (e::q)=e::on x q:=by simp [on,h]
theorem x8z {x:Int} {p:List Cd} {c:Cd} (h:c∈on x p):c∈p:=(z9s.1 h).1
end Go.Am.D12
end
section
namespace Go.Am.D12
def v6e (x:Int):List Int→List Int
 |[]=>[x]
 |y::l=>if x≤y then x::y::l else y::v6e x l
def srt:List Int→List Int
 |[]=>[]
 |x::l=>v6e x (srt l)
theorem x4e (x:Int) (l:List Int):(v6e x l).Perm (x::l):=by
 induction l with
 |nil=>exact .refl _
 |cons y l a=>
  simp only [v6e]
  split
  ·exact .refl _
  ·exact (List.Perm.cons y a).trans (List.Perm.swap x y l)
theorem srt_perm (l:List Int):(srt l).Perm l:=by
 induction l with
 |nil=>exact .refl _
 |cons x l a=>exact (x4e x _).trans (List.Perm.cons x a)
theorem x7a {x:Int} {l:List Int} (h:l.Pairwise (· ≤ ·)):(v6e x l).Pairwise (· ≤ ·):=by
 induction l with
 |nil=>simp [v6e]
 |cons y l d=>
  obtain ⟨c,e⟩:=eCh.1 h
  simp only [v6e]
  split
  ·rename_i b
   refine eCh.2 ⟨fun z a=>?_,h⟩
   rcases eAm.1 a with rfl|a
   ·exact b
   ·exact Int.le_trans b (c z a)
  ·rename_i b
   refine eCh.2 ⟨fun z a=>?_,d e⟩
   rcases eAm.1 ((x4e x l).mem_iff.1 a) with rfl|a
   ·omega
   ·exact c z a
theorem z8a (l:List Int):(srt l).Pairwise (· ≤ ·):=by
 induction l with
 |nil=>exact .nil
 |cons x l a=>exact x7a a
theorem y1v:∀ {l m:List Int},l.Perm m→l.Pairwise (· ≤ ·)→m.Pairwise (· ≤ ·)→l=m
 |[],m,h,_,_=>by rw [List.nil_perm.1 h]
 |x::l,m,h,i,g=>by
  cases m with
  |nil=>exact absurd h.length_eq (by simp)
  |cons y m=>
   have d:x=y:=by
    have f:x∈y::m:=h.mem_iff.1 eAu
    have c:y∈x::l:=h.mem_iff.2 eAu
    have a:y≤x:=by
     rcases eAm.1 f with e|f
     ·omega
     ·exact (eCh.1 g).1 x f
    have b:x≤y:=by
     rcases eAm.1 c with e|c
     ·omega
     ·exact (eCh.1 i).1 y c
    omega
   subst d
   rw [y1v (List.perm_cons _|>.1 h) (eCh.1 i).2 (eCh.1 g).2]
theorem x3c {l m:List Int} (h:l.Perm m):srt l=srt m:=y1v ((srt_perm l).trans (h.trans (srt_perm m).symm)) (z8a l) (z8a m)
theorem srt_of {l m:List Int} (h:l.Perm m) (a:l.Pairwise (· ≤ ·)):l=srt m:=y1v (h.trans (srt_perm m).symm) a (z8a m)
def mxs (F:Cd→Nat):List Cd→Nat
 |[]=>0
 |c::l=>max (F c) (mxs F l)
theorem y9n {F:Cd→Nat} {l:List Cd} {m:Nat}:mxs F l≤m↔∀ c∈l,F c≤m:=by
 induction l with
 |nil=>simp [mxs]
 |cons c l a=>simp only [mxs,Nat.max_le,a,eAm,forall_eq_or_imp]
theorem y0f {F:Cd→Nat} {l:List Cd} {c:Cd} (h:c∈l):F c≤mxs F l:=y9n.1 (eAj _) c h
theorem w4z {F:Cd→Nat} {l:List Cd} (h:0<mxs F l):∃ c∈l,F c=mxs F l:=by
 induction l with
 |nil=>simp [mxs] at h
 |cons c l a=>
  simp only [mxs] at h⊢
  by_cases e:mxs F l≤F c
  ·exact ⟨c,eAu,by omega⟩
  ·obtain ⟨d,b,he⟩:=a (by omega)
   exact ⟨d,eBc _ b,by omega⟩
theorem w1v (F:Cd→Nat) (p q:List Cd):mxs F (p++q)=max (mxs F p) (mxs F q):=by
 induction p with
 |nil=>simp [mxs]
 |cons c p a=>simp only [eDg,mxs,a]; omega
theorem y6v {F G:Cd→Nat} {l m:List Cd} (hm:∀ x,x∈l↔x∈m) (h:∀ x∈l,F x=G x):mxs F l=mxs G m:=by
 apply Nat.le_antisymm
 ·exact y9n.2 fun c a=>by rw [h c a]; exact y0f ((hm c).1 a)
 ·exact y9n.2 fun c a=>by rw [←h c ((hm c).2 a)]; exact y0f ((hm c).2 a)
def Rd (l:List Cd) (F:Cd→Nat):Prop:=∀ c∈l,F c=mxs F (l.filter fun d=>ord l d c)+1
def rdk (l:List Cd):Nat→Cd→Nat
 |0,_=>0
 |k+1,c=>mxs (rdk l k) (l.filter fun d=>ord l d c)+1
def x2p (l:List Cd):Cd→Nat:=rdk l l.length
theorem y3n (l:List Cd):∀ (i k:Nat) (c:Cd),c∈l→l.idxOf c≤i→i<k→rdk l k c=rdk l (i+1) c:=by
 intro i
 induction i using Nat.strongRecOn with
 |_ i f=>
  intro k c n m j
  cases k with
  |zero=>omega
  |succ k=>
   simp only [rdk]
   congr 1
   refine y6v (fun _=>Iff.rfl) fun d g=>?_
   have h:=(z1d.1 (eAz.1 g).2).2
   have e:=(eAz.1 g).1
   have a:=f (l.idxOf d) (by omega) k d e (eAj _) (by omega)
   have b:=f (l.idxOf d) (by omega) i d e (eAj _) (by omega)
   rw [a,b]
theorem w4c (l:List Cd):Rd l (x2p l):=by
 intro c f
 have b:=eDe.2 f
 have h:=y3n l (l.idxOf c) l.length c f (eAj _) b
 unfold x2p
 rw [h]
 show mxs _ _+1=_
 congr 1
 refine y6v (fun _=>Iff.rfl) fun d e=>?_
 have g:=(z1d.1 (eAz.1 e).2).2
 have a:=(eAz.1 e).1
 rw [y3n l (l.idxOf d) (l.idxOf c) d a (eAj _) g,y3n l (l.idxOf d) l.length d a (eAj _) (by omega)]
theorem u5v {l:List Cd} {F:Cd→Nat} (e:Rd l F) {c d:Cd} (a:d∈l) (b:c∈l) (h:ord l d c=true):F d<F c:=by
 rw [e c b]
 exact Nat.lt_succ_of_le (y0f (eAz.2 ⟨a,h⟩))
theorem v40 {l:List Cd} {F:Cd→Nat} (e:Rd l F) {c:Cd} (b:c∈l) {m:Nat} (h:F c=m+2):∃ d∈l,ord l d c=true∧F d=m+1:=by
 rw [e c b] at h
 obtain ⟨d,a,he⟩:=w4z (F:=F) (l:=l.filter fun d=>ord l d c) (by omega)
 exact ⟨d,(eAz.1 a).1,(eAz.1 a).2,by omega⟩
def z6h (l:List Cd) (F:Cd→Nat) (m:Nat):List Int:=srt ((l.filter fun c=>decide (F c=m)).map (·.n))
def z4b (l:List Cd):List (List Int):=(List.range (mxs (x2p l) l)).map fun m=>z6h l (x2p l) (m+1)
theorem y48 {l:List Cd} {F:Cd→Nat} {m:Nat} {x:Int}:x∈z6h l F m↔∃ c∈l,F c=m∧c.n=x:=by
 unfold z6h
 rw [(srt_perm _).mem_iff,eBe]
 constructor
 ·rintro ⟨c,a,rfl⟩
  have:=eAz.1 a
  exact ⟨c,this.1,by simpa using this.2,rfl⟩
 ·rintro ⟨c,d,b,rfl⟩
  exact ⟨c,eAz.2 ⟨d,by simpa using b⟩,rfl⟩
theorem v9e {l:List Cd} {F:Cd→Nat} (g:Rd l F):∀ (j m:Nat),j≤m→(∃ c∈l,F c=m+1)→∃ c∈l,F c=m - j+1:=by
 intro j
 induction j with
 |zero=>intro m _ h; exact h
 |succ j a=>
  intro m hm h
  obtain ⟨c,f,he⟩:=a m (by omega) h
  obtain ⟨d,e,_,b⟩:=v40 g f (m:=m - (j+1)) (by omega)
  exact ⟨d,e,b⟩
theorem v4w {l:List Cd} {F:Cd→Nat} (f:Rd l F) {m:Nat} (hm:m<mxs F l):z6h l F (m+1)≠[]:=by
 obtain ⟨c,b,he⟩:=w4z (F:=F) (l:=l) (by omega)
 obtain ⟨d,a,g⟩:=v9e f (mxs F l - 1 - m) (mxs F l - 1) (by omega) ⟨c,b,by omega⟩
 have:d.n∈z6h l F (m+1):=y48.2 ⟨d,a,by omega,rfl⟩
 intro e; rw [e] at this; cases this
def z4d (x:Int):List Cd→List Cd
 |[]=>[]
 |c::l=>if c.t.contains x||(z4d x l).any (tch c) then c::z4d x l else z4d x l
theorem z99 (x:Int) (l:List Cd):(z4d x l).Sublist l:=by
 induction l with
 |nil=>exact .slnil
 |cons c l a=>
  simp only [z4d]
  split
  ·exact a.cons_cons c
  ·exact a.cons c
theorem y9f (x:Int):∀ (p:List Cd) (e:Cd) (r:List Cd),∀ f∈p,e∈z4d x (e::r)→tch f e=true→f∈z4d x (p++e::r)
 |[],_,_,f,h,_,_=>by cases h
 |c::p,e,r,f,h,he,g=>by
  have a:∀ (p:List Cd),e∈z4d x (p++e::r):=fun p=>by
   induction p with
   |nil=>exact he
   |cons d p b=>
    simp only [eDg,z4d]
    split
    ·exact eBc _ b
    ·exact b
  simp only [eDg,z4d]
  rcases eAm.1 h with rfl|h
  ·rw [if_pos]
   ·exact eAu
   ·rw [eAt]; right
    exact eBq.2 ⟨e,a p,g⟩
  ·have:=y9f x p e r f h he g
   split
   ·exact eBc _ this
   ·exact this
theorem x3w (x:Int) {l:List Cd} (b:l.Nodup):l.filter (fun c=>decide (c∈z4d x l))=z4d x l:=by
 have:∀ {p l:List Cd},p.Sublist l→l.Nodup→l.filter (fun c=>decide (c∈p))=p:=by
  intro p l h
  induction h with
  |slnil=>intro _; rfl
  |cons a h d=>
   intro b
   obtain ⟨g,f⟩:=eCx.1 b
   rw [eFb,if_neg,d f]
   simpa using fun h'=>g (h.subset h')
  |cons_cons a h d=>
   intro b
   obtain ⟨g,f⟩:=eCx.1 b
   rw [eFb,if_pos (by simp)]
   congr 1
   refine Eq.trans ?_ (d f)
   refine List.filter_congr fun c i=>?_
   have:c≠a:=fun e=>g (e▸i)
   simp [this]
 exact this (z99 x l) b
theorem y6j {x:Int}:∀ {l:List Cd},l.Nodup→∀ {p r:List Cd} {e:Cd},l=p++e::r→e∈z4d x l→e∈z4d x (e::r)
 |_,b,[],r,e,h,he=>by subst h; exact he
 |_,b,c::p,r,e,h,he=>by
  subst h
  obtain ⟨f,d⟩:=eCx.1 b
  have a:e≠c:=fun h=>f (by simp [h])
  simp only [eDg,z4d] at he
  refine y6j (l:=p++e::r) d rfl ?_
  split at he
  ·rcases eAm.1 he with h|h
   ·exact absurd h a
   ·exact h
  ·exact he
theorem x6s (x:Int) {l:List Cd} (c:l.Nodup):∀ p e r,l=p++e::r→decide (e∈z4d x l)=true→∀ f∈p,tch f e=true→decide (f∈z4d x l)=true:=by
 intro p e r h he f d b
 have a:=y6j c h (by simpa using he)
 have:=y9f x p e r f d a b
 rw [←h] at this
 simpa using this
theorem y6k {x:Int} {l:List Cd} {c:Cd} (a:c∈l) (e:x∈c.t):c∈z4d x l:=by
 induction l with
 |nil=>cases a
 |cons d l b=>
  simp only [z4d]
  rcases eAm.1 a with rfl|a
  ·rw [if_pos (by simp [e])]; exact eAu
  ·split
   ·exact eBc _ (b a)
   ·exact b a
end Go.Am.D12
end
