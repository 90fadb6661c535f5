/- Texts of this claim. -/
import Derived.Test.YtejcgpekgbiooaaGreatDoorZT2
import Derived.ReadAgain
import Derived.ChangeSame
import Derived.ChangeArms
import Derived.ChangeOld
import Derived.OpenShut
import Derived.WalkKit
import Derived.ProofKit
set_option linter.all false
set_option maxRecDepth 100000
set_option maxHeartbeats 0
open Ne renaming symm→eDa
open Go.Sem renaming run_bind→eAw
open Go.Result renaming andThen_ok→eAo
open Go.Op renaming operands→eAx
open Go.Call renaming operands→eDs
open Go.World renaming cell?→eFc
open Go.Value renaming cells→eGi
open Go.DataW renaming TrodAll→eCx
open Nat renaming ble_eq_true_of_le→eCi,lt_of_lt_of_le→eBc,le_refl→eAp,beq→eAk,eq_of_beq_eq_true→eAg,le_of_ble_eq_true→eAl,blt→eBt,add_zero→eBk,zero_le→eBb,zero_add→eAy,lt_or_ge→eCu,beq_refl→eGj,le_trans→eCt,ble→eAz,div_lt_iff_lt_mul→eFw,mod_lt→eGh,add_mul→eBe,mul_comm→eFm,mul_le_mul_right→eBi,mod_eq_of_lt→eDz,add_assoc→eCf
open Array renaming getD_eq_getD_getElem?→eAq,getElem?_eq_some_iff→eAi,getElem?_toList→eAt,getElem?_eq_getElem→eBg,length_toList→eCg
open Bool renaming false_eq_true→eAh,or_eq_true→eBh,and_eq_true→eAf,and_true→eDm,not_eq_true'→eCy,and_self→eCc,eq_iff_iff→eBu
open List renaming length_take→eCk,getElem?_append_right→eFt,length_cons→eCa,length_nil→eDw,all_eq_true→eBm,mem_range→eBj,getElem?_eq_some_iff→eAe,range→eAv,length_drop→eGe,ext_getElem?→eCj,getElem?_map→eAj,length_map→eBp,getElem?_eq_none→eDv,mem_cons_self→eBv,mem_cons_of_mem→eCq,mem_of_getElem?→eAn,mem_append→eBx,mem_cons→eBa,mem_flatten→eFv,mem_map→eBq,getElem?_of_mem→eFo,getElem?_append_left→eFh,getElem?_drop→eDh,replicate→eAu,cons_append→eGr,getElem?_eq_getElem→eAd,take_zero→eGg,getElem?_take_of_lt→eFy,append_assoc→eDr,append_nil→eDx,length_eq_zero_iff→eBw,length_append→eCz,getElem?_append→eBr,drop_drop→eGf
open Option renaming getD_some→eCd,map_eq_some_iff→eBy
section
namespace Go.Am
def w1s (x:w2p) (s:AS) (id:Nat) (a y:D) (b:List (D×D)):AS:=
 ⟨w75 (w75 (w75 (w75 s.env x.dL (.d a)) x.dB (.d y)) x.dM .bot) x.dX .bot,z04 s.heap id (.map b),s.nt⟩
structure w0l (T:TypeId→Option TI) (x:w2p) (s1:AS) (id:Nat) (kd:D) (es:List (D×D)) (ti:TI) (ks:List SK) (ka:Bool) (ez:D) (q:Bool) (r:List D) (y:D):Prop where
 ha:z0z s1.env x.a= .map id
 hb:z0z s1.env x.b= .d kd
 hob:z0e s1.heap id= .map es
 hti:T x.t=some ti
 hdesc:ti.desc= .map ks ka ez
 hwant:x2n q r (z34 std ti s1.heap (.map id) (.d kd))
 hop:∃ kk o n,z67 q r ez= .int kk o∧z0m s1.env (.const x.c)= .d (.int kk n)∧y1h x.bop= .arith∧y= .int kk (std.ar x.bop kk o n)
 hlt:x.dL<s1.nt∧x.dB<s1.nt∧x.dM<s1.nt∧x.dX<s1.nt
 idlt:id<s1.heap.length
def z9n (s1:AS) (x:w2p) (a y:D) (fL fB fM fX:Bool) (t:Nat):AV:=
 if fX=true∧t=x.dX then .bot else if fM=true∧t=x.dM then .bot else if fB=true∧t=x.dB then .d y else if fL=true∧t=x.dL then .d a else z0z s1.env t
section
variable {P:Program}
theorem y5i {d nt:Nat} (h:d<nt):z3i nt (some d)=true:=eCi h
theorem z2c.congr {ρ:Rho} {s s':AS} {tm:Array Value} {w:World} (hE:∀ t,z0z s'.env t=z0z s.env t) (a:∀ id,z0e s.heap id=z0e s'.heap id) (b:s'.nt=s.nt) (c:s.heap.length≤s'.heap.length) (h:z2c P ρ s tm w):z2c P ρ s' tm w:=
 ⟨h.heap.ext a,fun t=>by rw [hE, ←z4i a]; exact h.env t,by rw [b]; exact h.size,fun id hid=>eBc (h.dom id hid) c⟩
theorem y0k {ρ:Rho} {s:AS} {tm:Array Value} {w:World} (f:z2c P ρ s tm w) {ops:Array Oper} {i:Nat} {o:Oper} (t:ops[i]?=some o) (hg:o.guard=none) (e:∀ c,o.op≠ .defer c) (z:z3i s.nt o.dst=true) {v:AV} {u:List (Nat×AO)}
  (j:y3f P ρ s.heap w s.heap.length (execOp (opv tm) o) ⟨true,v,u⟩) (p:∀ id x,(id,x)∈u→id<s.heap.length) {b:Frame} {k:List Item} {cs:List Frame} {ds:List Deferred} {rest:List Nat} {B:Nat} (hds:z4m b.roundOf B ρ.fr w ds):
  ∃ val w',((execOp (opv tm) o).run P w= .ok (.value val) w'∨((execOp (opv tm) o).run P w= .ok .skip w'∧val=undef))∧z2c P ρ (z4p s o.dst v u) (y3s tm o.dst val) w'∧Ext (· <s.heap.length) ρ s.heap w ρ (z4p s o.dst v u).heap w'∧z4m b.roundOf B ρ.fr w' ds∧
   Steps P (lone (b.on tm ds (.inRegion ops (i::rest)::k)) cs w) (lone (b.on (y3s tm o.dst val) ds (.inRegion ops rest::k)) cs w'):=by
 have d:ρ s.heap.length=none:=by
  cases r:ρ s.heap.length with
  |none=>rfl
  |some L=>have:=f.dom _ (by rw [r]; simp); omega
 obtain ⟨val,w',ρ',a,n,y,g,q⟩:=j
 have l:ρ'=ρ:=by
  rcases q with h|⟨o,h⟩
  ·exact h
  ·have:=p _ _ h; omega
 subst l
 have m:Region.wanted o (yielded ops tm)=true:=z5k f (by rw [hg]; rfl)
 refine ⟨val,w',a,f.step' d z n y g (.inl rfl),g.mono (fun id hid=>by omega),hds.keep f.heap g, .one (y1r t m e a)⟩
structure St (P:Program) (x:w2p) (s1:AS) (id:Nat) (kd:D) (ks:List SK) (ka:Bool) (old y:D) (es2:List (D×D)) (upd:D→List (D×D)) (ρ:Rho) (w1:World) (fL fB fM fX:Bool) (tm:Array Value) (w:World) (s:AS):Prop where
 nt:s.nt=s1.nt
 len:s.heap.length=s1.heap.length
 env:∀ t,z0z s.env t=z9n s1 x old y fL fB fM fX t
 heap:∀ i,z0e s.heap i=if fM=true∧i=id then .map es2 else z0e s1.heap i
 st:z2c P ρ s tm w
 ext:Ext (· <s1.heap.length) ρ s1.heap w1 ρ s.heap w
 stamp:fM=true→∃ (L:Loc) (en:Array MapEntry) (clk n:Nat) (e:MapEntry) (z:Value),ρ id=some L∧w.heap[L.blk]?=some (.map en clk)∧en[n]?=some e∧opv tm (.tmp x.dM)= .tuple #[z,goInt e.born]∧(fX=true→opv tm (.tmp x.dX)=goInt e.born)∧
  es2[n]?=some (kd,old)∧z6c std ks ka kd es2 0=some (some (n,old))∧(∀ v,upd v=std.mset es2 n kd v)
theorem y4j {tm:Array Value} {d:Nat} {v:Value} (h:d<tm.size):opv (y3s tm (some d) v) (.tmp d)=v:=by
 simp [opv,y3s,eAq,h]
theorem z8p {tm:Array Value} {d t:Nat} {v:Value} (h:d≠t):opv (y3s tm (some d) v) (.tmp t)=opv tm (.tmp t):=by
 simp [opv,y3s,eAq,Array.getElem?_setIfInBounds_ne h]
section
variable {T:TypeId→Option TI} (hT:y1d P T) {x:w2p} {s1:AS} {id:Nat} {kd:D} {es:List (D×D)} {ti:TI} {ks:List SK} {ka:Bool} {ez:D} {q:Bool} {r:List D} {y:D}
 (hR:w0l T x s1 id kd es ti ks ka ez q r y) {L B M X E:Oper} (hO:v8w x L B M X E)
 {ρ:Rho} {w1:World} {fL fB fM fX:Bool} {tm:Array Value} {w:World} {s:AS}
 (hS:St P x s1 id kd ks ka (z67 q r ez) y (ent es q r kd ez) (z83 es q r kd) ρ w1 fL fB fM fX tm w s)
 {ops:Array Oper} {b:Frame} {k:List Item} {cs:List Frame} {ds:List Deferred} {rest:List Nat} {B0:Nat} (hds:z4m b.roundOf B0 ρ.fr w ds) {i:Nat}
include hT hR hO hS hds
theorem t1b:z0z s.env x.a= .map id∧z0z s.env x.b= .d kd:=by
 constructor
 ·rw [hS.env,z9n,if_neg (fun h=>hO.aX h.2),if_neg (fun h=>hO.aM h.2),if_neg (fun h=>hO.aB h.2),if_neg (fun h=>hO.aL h.2)]; exact hR.ha
 ·rw [hS.env,z9n,if_neg (fun h=>hO.bX h.2),if_neg (fun h=>hO.bM h.2),if_neg (fun h=>hO.bB h.2),if_neg (fun h=>hO.bL h.2)]; exact hR.hb
theorem x63:z0q ρ (z0f ρ s.heap) w (.map id) (opv tm (.tmp x.a))∧z1m (z0f ρ s.heap) w kd (opv tm (.tmp x.b)):=by
 obtain ⟨g,f⟩:=t1b hT hR hO hS hds
 have e:=z0l hS.st.env (.tmp x.a)
 have c:=z0l hS.st.env (.tmp x.b)
 simp only [z0m] at e c
 rw [g] at e; rw [f] at c
 refine ⟨e,?_⟩
 cases c with|d h=>exact h
theorem t1e (N:ops[i]?=some L) (J:fL=false) (O:fB=false):
  ∃ j w' s',St P x s1 id kd ks ka (z67 q r ez) y (ent es q r kd ez) (z83 es q r kd) ρ w1 true fB fM fX j w' s'∧z4m b.roundOf B0 ρ.fr w' ds∧
   Steps P (lone (b.on tm ds (.inRegion ops (i::rest)::k)) cs w) (lone (b.on j ds (.inRegion ops rest::k)) cs w'):=by
 obtain ⟨v,u⟩:=x63 hT hR hO hS hds
 have G:∃ B A,x2n B A (z34 std ti s.heap (.map id) (.d kd))∧z5t ti B A false=some ⟨true, .d (z67 q r ez),[]⟩:=by
  have m:(z1w kd==ka&&z1k ks (z0x kd))=true∧z34 std ti s1.heap (.map id) (.d kd)=z6c std ks ka kd es 0:=by
   have f:∃ fr,z34 std ti s1.heap (.map id) (.d kd)=some fr:=by
    rcases hR.hwant with ⟨h,_⟩|⟨_,_,_,h,_⟩<;>exact ⟨_,h⟩
   obtain ⟨fr,f⟩:=f
   unfold z34 at f⊢
   rw [hR.hdesc] at f⊢
   simp only [hR.hob] at f⊢
   cases Q:(z1w kd==ka)&&z1k ks (z0x kd) with
   |false=>rw [Q] at f; cases f
   |true=>exact ⟨rfl,rfl⟩
  cases o:fM with
  |false=>
   refine ⟨q,r,?_,?_⟩
   ·have:z34 std ti s.heap (.map id) (.d kd)=z34 std ti s1.heap (.map id) (.d kd):=by
     unfold z34
     simp only [hS.heap id,o,eAh,false_and,if_false]
    rw [this]; exact hR.hwant
   ·unfold z5t
    rw [hR.hdesc]
    rcases hR.hwant with ⟨_,rfl⟩|⟨_,_,_,_,_,rfl,rfl⟩<;>rfl
  |true=>
   obtain ⟨M,K,p,n,e,z,_,_,_,_,_,_,I,_⟩:=hS.stamp o
   refine ⟨true,[.int .i64 (n:Nat),z67 q r ez], .inr ⟨n,_,_,?_, .inl (DLe.refl _),rfl,rfl⟩,?_⟩
   ·unfold z34
    rw [hR.hdesc]
    simp only [hS.heap id,o,m.1,cond_true,and_self,if_true]
    exact I
   ·unfold z5t
    rw [hR.hdesc]
    rfl
 obtain ⟨B,A,c,l⟩:=G
 have g:=(z86 (hT _ _ hR.hti) (new:=s.heap.length) hS.st.heap v (.d u) c l).value
 have g:y3f P ρ s.heap w s.heap.length (execOp (opv tm) L) ⟨true, .d (z67 q r ez),[]⟩:=by simpa [execOp,hO.oL] using g
 obtain ⟨val,w',a,U,T,S,R⟩:=y0k hS.st N hO.gL (by rw [hO.oL]; simp) (by rw [hO.dL,hS.nt]; exact y5i hR.hlt.1) g (by simp) hds (k:=k) (cs:=cs) (rest:=rest)
 refine ⟨y3s tm L.dst val,w',z4p s L.dst (.d (z67 q r ez)) [],⟨hS.nt,hS.len,fun t=>?_,hS.heap,U,hS.ext.trans (T.mono (fun id h=>by rw [hS.len]; exact h)),fun o=>?_⟩,S,R⟩
 ·simp only [z4p,hO.dL,y4g]
  by_cases e:x.dL=t
  ·subst e
   rw [z09,z9n,if_neg (fun h=>hO.LX h.2),if_neg (fun h=>hO.LM h.2),if_neg (fun h=>hO.LB h.2),if_pos ⟨rfl,rfl⟩]
  ·rw [z1t _ _ _ _ e,hS.env,z9n,z9n]
   simp [J,eDa e]
 ·obtain ⟨M,K,p,n,e,z,c1,Z,Y,X,W,V⟩:=hS.stamp o
  have E:x.dL<tm.size:=by rw [hS.st.size,hS.nt]; exact hR.hlt.1
  refine ⟨M,K,p,n,e,z,c1,?_,Y,?_,?_,V⟩
  ·have H:w'=w:=by
    obtain ⟨v0,w0,ρ0,hq,_⟩:=(z86 (hT _ _ hR.hti) (new:=s.heap.length) hS.st.heap v (.d u) c l)
    have:=(y53 (hT _ _ hR.hti) hS.st.heap v (.d u) c)
    obtain ⟨v1,C⟩:=this
    have F:(execOp (opv tm) L).run P w= .ok (.value v1) w:=by simp [execOp,hO.oL,C]
    rw [F] at a
    rcases a with h|⟨h,_⟩<;>cases h
    rfl
   rw [H]; exact Z
  ·rw [hO.dL,z8p hO.LM]; exact X
  ·rw [hO.dL,z8p hO.LX]; exact W
theorem t1g (J:ops[i]?=some B) (C:fL=true) (E:fB=false):
  ∃ j w' s',St P x s1 id kd ks ka (z67 q r ez) y (ent es q r kd ez) (z83 es q r kd) ρ w1 fL true fM fX j w' s'∧z4m b.roundOf B0 ρ.fr w' ds∧
   Steps P (lone (b.on tm ds (.inRegion ops (i::rest)::k)) cs w) (lone (b.on j ds (.inRegion ops rest::k)) cs w'):=by
 obtain ⟨a,o,n,U,T,H,S⟩:=hR.hop
 have G:z0z s.env x.dL= .d (.int a o):=by
  rw [hS.env,z9n,if_neg (fun h=>hO.LX h.2),if_neg (fun h=>hO.LM h.2),if_neg (fun h=>hO.LB h.2),if_pos ⟨C,rfl⟩,U]
 have A:opv tm (.tmp x.dL)= .int a o:=by
  have g:=z0l hS.st.env (.tmp x.dL)
  simp only [z0m] at g
  rw [G] at g
  generalize opv tm (.tmp x.dL)=v at g
  cases g with|d h=>cases h; rfl
 have u:opv tm (.const x.c)= .int a n:=by
  have g:=z0l hS.st.env (.const x.c)
  have:z0m s.env (.const x.c)=z0m s1.env (.const x.c):=rfl
  rw [this,T] at g
  generalize opv tm (.const x.c)=v at g
  cases g with|d h=>cases h; rfl
 have l:(execOp (opv tm) B).run P w= .ok (.value (.int a (std.ar x.bop a o n))) w:=by
  have m:=z5i (P:=P) (w:=w) x.bop x.bt a o n (by rw [H]; simp) (by rw [H]; simp)
  rw [H] at m
  have L:(eqGuard x.bop x.bt (.tmp x.dL) (.const x.c) (.int a o) (.int a n)).run P w= .ok () w:=z58 _ _ trivial
  simp only [execOp,hO.oB,A,u,eAw,L,eAo]
  have m:(binOp x.bop x.bt (.int a o) (.int a n)).run P w= .ok (.int a (std.ar x.bop a o n)) w:=m
  simp [m]
 have F:y3f P ρ s.heap w s.heap.length (execOp (opv tm) B) ⟨true, .d y,[]⟩:=⟨_,w,ρ, .inl l,by rw [S]; exact .d (.int _ _),hS.st.heap,Ext.refl _ _ _ _, .inl rfl⟩
 obtain ⟨val,w',f,Q,O,N,M⟩:=y0k hS.st J hO.gB (by rw [hO.oB]; simp) (by rw [hO.dB,hS.nt]; exact y5i hR.hlt.2.1) F (by simp) hds (k:=k) (cs:=cs) (rest:=rest)
 rw [l] at f
 have p:w'=w:=by
  rcases f with h|⟨h,_⟩<;>cases h
  rfl
 subst p
 refine ⟨y3s tm B.dst val,w',z4p s B.dst (.d y) [],⟨hS.nt,hS.len,fun t=>?_,hS.heap,Q,hS.ext.trans (O.mono (fun id h=>by rw [hS.len]; exact h)),fun K=>?_⟩,N,M⟩
 ·simp only [z4p,hO.dB,y4g]
  by_cases e:x.dB=t
  ·subst e
   rw [z09,z9n,if_neg (fun h=>hO.BX h.2),if_neg (fun h=>hO.BM h.2),if_pos ⟨rfl,rfl⟩]
  ·rw [z1t _ _ _ _ e,hS.env,z9n,z9n]
   simp [E,eDa e]
 ·obtain ⟨L',R,I,n,e,z,c1,Z,Y,X,W,V⟩:=hS.stamp K
  refine ⟨L',R,I,n,e,z,c1,Z,Y,?_,?_,V⟩
  ·rw [hO.dB,z8p hO.BM]; exact X
  ·rw [hO.dB,z8p hO.BX]; exact W
theorem t1d (T:ops[i]?=some M) (m:fM=false) (E:fX=false):
  ∃ p w' s',St P x s1 id kd ks ka (z67 q r ez) y (ent es q r kd ez) (z83 es q r kd) ρ w1 fL fB true fX p w' s'∧z4m b.roundOf B0 ρ.fr w' ds∧
   Steps P (lone (b.on tm ds (.inRegion ops (i::rest)::k)) cs w) (lone (b.on p ds (.inRegion ops rest::k)) cs w'):=by
 obtain ⟨R,Q⟩:=x63 hT hR hO hS hds
 have l:z0e s.heap id= .map es:=by rw [hS.heap,if_neg (by simp [m])]; exact hR.hob
 have A:x2n q r (z34 std ti s.heap (.map id) (.d kd)):=by
  have:z34 std ti s.heap (.map id) (.d kd)=z34 std ti s1.heap (.map id) (.d kd):=by
   unfold z34
   simp only [l,hR.hob]
  rw [this]; exact hR.hwant
 obtain ⟨I,Y,K,u,c,z,n,e,S,O,c2,N,c4,c5,c6,L,c8,_,Z,H,G⟩:=x6w (hT _ _ hR.hti) hS.st.heap R Q l hR.hdesc A
 subst G
 have g:id<s.heap.length:=by rw [hS.len]; exact hR.idlt
 have a:=map_set hS.st.heap O l N u c c5 c4 s.heap.length .bot _ (fun _ _ _=> .bot _) L
 have F:y3f P ρ s.heap w s.heap.length (execOp (opv tm) M) ⟨true, .bot,[(id, .map (ent es q r kd ez))]⟩:=by simpa [execOp,hO.oM] using a.value
 obtain ⟨val,w',f,X,W,V,U⟩:=y0k hS.st T hO.gM (by rw [hO.oM]; simp) (by rw [hO.dM,hS.nt]; exact y5i hR.hlt.2.2.1) F (by intro j o J; simp at J; rw [J.1]; exact g) hds (k:=k) (cs:=cs) (rest:=rest)
 have C:(execOp (opv tm) M).run P w= .ok (.value (.tuple #[z,goInt e.born])) (World.setObj w I.blk (.map u c)):=by simp [execOp,hO.oM,L]
 rw [C] at f
 have B:val= .tuple #[z,goInt e.born]∧w'=World.setObj w I.blk (.map u c):=by
  rcases f with h|⟨h,_⟩<;>cases h
  exact ⟨rfl,rfl⟩
 obtain ⟨rfl,rfl⟩:=B
 refine ⟨y3s tm M.dst (.tuple #[z,goInt e.born]),_,z4p s M.dst .bot [(id, .map (ent es q r kd ez))],⟨hS.nt,?_,fun t=>?_,fun j=>?_,X,hS.ext.trans (W.mono (fun id h=>by rw [hS.len]; exact h)),fun _=>⟨I,u,c,n,e,z,O,z0u _ _ _ (eAi.1 N).1,c6,?_,(fun h=>by rw [E] at h; cases h),c8,Z,fun v=>?_⟩⟩,V,U⟩
 ·simp only [z4p,z08]
  rw [z2t _ _ _ g]; exact hS.len
 ·simp only [z4p,hO.dM,y4g]
  by_cases e:x.dM=t
  ·subst e
   rw [z09,z9n,if_neg (fun h=>hO.MX h.2),if_pos ⟨rfl,rfl⟩]
  ·rw [z1t _ _ _ _ e,hS.env,z9n,z9n]
   simp [m,eDa e]
 ·simp only [z4p,z08]
  by_cases e:id=j
  ·subst e; rw [z0g,if_pos ⟨trivial,rfl⟩]
  ·rw [z0c _ _ _ _ e,hS.heap,if_neg (by simp [m]),if_neg (fun h=>e h.2.symm)]
 ·rw [hO.dM,y4j (by rw [hS.st.size,hS.nt]; exact hR.hlt.2.2.1)]
 ·exact H v
theorem t1c (p:ops[i]?=some X) (j:fM=true) (g:fX=false):
  ∃ c w' s',St P x s1 id kd ks ka (z67 q r ez) y (ent es q r kd ez) (z83 es q r kd) ρ w1 fL fB fM true c w' s'∧z4m b.roundOf B0 ρ.fr w' ds∧
   Steps P (lone (b.on tm ds (.inRegion ops (i::rest)::k)) cs w) (lone (b.on c ds (.inRegion ops rest::k)) cs w'):=by
 obtain ⟨I,C,m,n,e,z,H,G,F,o,K,E⟩:=hS.stamp j
 have d:(execOp (opv tm) X).run P w= .ok (.value (goInt e.born)) w:=by simp [execOp,hO.oX,o,Instr.extract]
 have l:y3f P ρ s.heap w s.heap.length (execOp (opv tm) X) ⟨true, .bot,[]⟩:=⟨goInt e.born,w,ρ, .inl d, .bot _,hS.st.heap,Ext.refl _ _ _ _, .inl rfl⟩
 obtain ⟨val,w',a,B,A,v,u⟩:=y0k hS.st p hO.gX (by rw [hO.oX]; simp) (by rw [hO.dX,hS.nt]; exact y5i hR.hlt.2.2.2) l (by simp) hds (k:=k) (cs:=cs) (rest:=rest)
 rw [d] at a
 have f:val=goInt e.born∧w'=w:=by
  rcases a with h|⟨h,_⟩<;>cases h
  exact ⟨rfl,rfl⟩
 obtain ⟨rfl,rfl⟩:=f
 refine ⟨y3s tm X.dst (goInt e.born),w',z4p s X.dst .bot [],⟨hS.nt,hS.len,fun t=>?_,hS.heap,B,hS.ext.trans (A.mono (fun id h=>by rw [hS.len]; exact h)),fun J=>⟨I,C,m,n,e,z,H,G,F,?_,fun _=>?_,E⟩⟩,v,u⟩
 ·simp only [z4p,hO.dX,y4g]
  by_cases e:x.dX=t
  ·subst e
   rw [z09,z9n,if_pos ⟨rfl,rfl⟩]
  ·rw [z1t _ _ _ _ e,hS.env,z9n,z9n]
   simp [g,eDa e]
 ·rw [hO.dX,z8p (eDa hO.MX)]; exact o
 ·rw [hO.dX,y4j (by rw [hS.st.size,hS.nt]; exact hR.hlt.2.2.2)]
theorem t1f (S:ops[i]?=some E) (C:fL=true) (p:fB=true) (g:fM=true) (m:fX=true):
  ∃ l w',z2c P ρ (w1s x s1 id (z67 q r ez) y (z83 es q r kd y)) l w'∧z4m b.roundOf B0 ρ.fr w' ds∧Ext (· <s1.heap.length) ρ s1.heap w1 ρ (w1s x s1 id (z67 q r ez) y (z83 es q r kd y)).heap w'∧
   Steps P (lone (b.on tm ds (.inRegion ops (i::rest)::k)) cs w) (lone (b.on l ds (.inRegion ops rest::k)) cs w'):=by
 obtain ⟨L,r2⟩:=x63 hT hR hO hS hds
 obtain ⟨L',en,Y,n,e,z,Q,c2,c3,c4,c5,c6,c7,Z⟩:=hS.stamp g
 have B:z0e s.heap id= .map (ent es q r kd ez):=by rw [hS.heap,if_pos ⟨g,rfl⟩]
 have f:id<s.heap.length:=by rw [hS.len]; exact hR.idlt
 have R:z1m (z0f ρ s.heap) w y (opv tm (.tmp x.dB)):=by
  have K:=z0l hS.st.env (.tmp x.dB)
  simp only [z0m] at K
  rw [hS.env,z9n,if_neg (fun h=>hO.BX h.2),if_neg (fun h=>hO.BM h.2),if_pos ⟨p,rfl⟩] at K
  cases K with|d h=>exact h
 have A:opv tm (.tmp x.a)= .map (some L'.blk):=by
  generalize opv tm (.tmp x.a)=v at L
  cases L with
  |map _ L2 u=>rw [Q] at u; cases u; rfl
 have c:=x15 (P:=P) (T:=x.t) hS.st.heap Q B c2 c3 c6 R s.heap.length
 have F:y3f P ρ s.heap w s.heap.length (execOp (opv tm) E) ⟨true, .bot,[(id, .map (std.mset (ent es q r kd ez) n kd y))]⟩:=by
  have:=c.skip
  simpa [execOp,hO.oE,A,c5 m] using this
 obtain ⟨val,w',M,X,W,V,U⟩:=y0k hS.st S hO.gE (by rw [hO.oE]; simp) (by rw [hO.dE]; rfl) F (by intro j o N; simp at N; rw [N.1]; exact f) hds (k:=k) (cs:=cs) (rest:=rest)
 have O:∀ j,z0e (z4p s E.dst .bot [(id, .map (std.mset (ent es q r kd ez) n kd y))]).heap j=z0e (w1s x s1 id (z67 q r ez) y (z83 es q r kd y)).heap j:=by
  intro j
  simp only [z4p,z08,w1s]
  rw [Z y]
  by_cases e:id=j
  ·subst e; rw [z0g,z0g]
  ·rw [z0c _ _ _ _ e,z0c _ _ _ _ e,hS.heap,if_neg (fun h=>e h.2.symm)]
 refine ⟨y3s tm E.dst val,w',X.congr (fun t=>?_) O ?_ ?_,V,?_,U⟩
 ·simp only [z4p,hO.dE,y4g,w1s]
  rw [hS.env,z9n]
  by_cases J:x.dX=t
  ·subst J; rw [z09,if_pos ⟨m,rfl⟩]
  ·rw [z1t _ _ _ _ J,if_neg (fun h=>J h.2.symm)]
   by_cases I:x.dM=t
   ·subst I; rw [z09,if_pos ⟨g,rfl⟩]
   ·rw [z1t _ _ _ _ I,if_neg (fun h=>I h.2.symm)]
    by_cases H:x.dB=t
    ·subst H; rw [z09,if_pos ⟨p,rfl⟩]
    ·rw [z1t _ _ _ _ H,if_neg (fun h=>H h.2.symm)]
     by_cases G:x.dL=t
     ·subst G; rw [z09,if_pos ⟨C,rfl⟩]
     ·rw [z1t _ _ _ _ G,if_neg (fun h=>G h.2.symm)]
 ·exact hS.nt.symm
 ·simp only [z4p,z08,w1s]
  rw [z2t _ _ _ f,z2t _ _ _ hR.idlt,hS.len]; exact eAp _
 ·have:=hS.ext.trans (W.mono (fun id h=>by rw [hS.len]; exact h))
  exact ⟨this.os,this.tape,this.output,by rw [←z4i O]; exact this.keep,this.rho,this.fr,this.frs⟩
end
theorem y4o {a c:Nat} (h:a≠c):eAk a c=false:=by
 cases b:eAk a c with
 |false=>rfl
 |true=>exact absurd (eAg b) h
theorem v7b {T:TypeId→Option TI} (hT:y1d P T) {x:w2p} {s1:AS} {id:Nat} {kd:D} {es:List (D×D)} {ti:TI} {ks:List SK} {ka:Bool} {ez:D} {q:Bool} {r:List D} {y:D}
  (hR:w0l T x s1 id kd es ti ks ka ez q r y) {L B M X E:Oper} (hO:v8w x L B M X E) {ρ:Rho} {w1:World} {ops:Array Oper} {b:Frame} {k:List Item} {cs:List Frame} {ds:List Deferred} {B0:Nat} {m:Nat}
  (hz:ops.size=m+5) (o0:ops[m]?=some L) (Y:ops[m+1]?=some B) (o2:ops[m+2]?=some M) (W:ops[m+3]?=some X) (o4:ops[m+4]?=some E)
  (g1:(z7q (y1j ops.toList []) (m+1)).testBit m=true) (g2:(z7q (y1j ops.toList []) (m+3)).testBit (m+2)=true) (g3:(z7q (y1j ops.toList []) (m+4)).testBit (m+1)=true) (g4:(z7q (y1j ops.toList []) (m+4)).testBit (m+3)=true)
  {S:Nat→Bool} {l:List Nat} (hl:Ord ops S l):∀ {tm:Array Value} {w:World} {s:AS},(∀ j,j<m→S j=true)→S (m+4)=false→(∀ (i:Nat) (o:Oper),ops.toList[i]?=some o→S i=true→∀ d∈z5l o,S d=true)→
  St P x s1 id kd ks ka (z67 q r ez) y (ent es q r kd ez) (z83 es q r kd) ρ w1 (S m) (S (m+1)) (S (m+2)) (S (m+3)) tm w s→z4m b.roundOf B0 ρ.fr w ds→
  ∃ n w',z2c P ρ (w1s x s1 id (z67 q r ez) y (z83 es q r kd y)) n w'∧z4m b.roundOf B0 ρ.fr w' ds∧Ext (· <s1.heap.length) ρ s1.heap w1 ρ (w1s x s1 id (z67 q r ez) y (z83 es q r kd y)).heap w'∧
   Steps P (lone (b.on tm ds (.inRegion ops l::k)) cs w) (lone (b.on n ds k) cs w'):=by
 induction hl with
 |nil S h=>
  intro tm w s _ R
  rw [h (m+4) (by omega)] at R; cases R
 |cons S i o l H A hd h ih=>
  intro tm w s F R u hS hds
  have a3:ops.toList[i]?=some o:=by rw [eAt]; exact A
  have V:∀ {j:Nat} {p:Oper},ops[j]?=some p→ops.toList[j]?=some p:=fun hp=>by rw [eAt]; exact hp
  have N:∀ {j:Nat} {p:Oper} {a:Nat},ops[j]?=some p→S j=true→(z7q (y1j ops.toList []) j).testBit a=true→S a=true:=fun {j p a} hp hj ha=>z2g u (V hp) (u j p (V hp) hj) a ha
  have g:∀ j,j<m→(fun j=>S j||eAk j i) j=true:=fun j hj=>by simp [F j hj]
  have z:∀ (C:Nat) (Z:Oper),ops.toList[C]?=some Z→(fun j=>S j||eAk j i) C=true→∀ d∈z5l Z,(fun j=>S j||eAk j i) d=true:=by
   intro C Z G c d a2
   simp only [eBh] at c⊢
   rcases c with c|c
   ·exact .inl (u C Z G c d a2)
   ·have:=eAg c
    subst this
    rw [a3] at G; cases G
    exact .inl (hd d a2)
  have a1:i<m+5:=by rw [←hz]; exact (eAi.1 A).1
  have a4:¬ i<m:=fun a1=>by rw [F i a1] at H; cases H
  have Q:i=m∨i=m+1∨i=m+2∨i=m+3∨i=m+4:=by omega
  rcases Q with rfl|rfl|rfl|rfl|rfl
  ·rw [o0] at A; cases A
   have hB:S (i+1)=false:=by
    cases hb:S (i+1) with
    |false=>rfl
    |true=>rw [N Y hb g1] at H; cases H
   obtain ⟨n,w',s',v,e,f⟩:=t1e hT hR hO hS hds (k:=k) (cs:=cs) (rest:=l) o0 H hB
   obtain ⟨t,O,K,J,I,U⟩:=ih g (by simp [R,y4o]) z (by simpa [y4o] using v) e
   exact ⟨t,O,K,J,I,f.trans U⟩
  ·rw [Y] at A; cases A
   have hL:S m=true:=z2g u (V Y) hd m g1
   obtain ⟨n,w',s',v,e,f⟩:=t1g hT hR hO hS hds (k:=k) (cs:=cs) (rest:=l) Y hL H
   obtain ⟨t,O,K,J,I,U⟩:=ih g (by simp [R,y4o]) z (by simpa [y4o] using v) e
   exact ⟨t,O,K,J,I,f.trans U⟩
  ·rw [o2] at A; cases A
   have hX:S (m+3)=false:=by
    cases hb:S (m+3) with
    |false=>rfl
    |true=>rw [N W hb g2] at H; cases H
   obtain ⟨n,w',s',v,e,f⟩:=t1d hT hR hO hS hds (k:=k) (cs:=cs) (rest:=l) o2 H hX
   obtain ⟨t,O,K,J,I,U⟩:=ih g (by simp [R,y4o]) z (by simpa [y4o] using v) e
   exact ⟨t,O,K,J,I,f.trans U⟩
  ·rw [W] at A; cases A
   have hM:S (m+2)=true:=z2g u (V W) hd (m+2) g2
   obtain ⟨n,w',s',v,e,f⟩:=t1c hT hR hO hS hds (k:=k) (cs:=cs) (rest:=l) W hM H
   obtain ⟨t,O,K,J,I,U⟩:=ih g (by simp [R,y4o]) z (by simpa [y4o] using v) e
   exact ⟨t,O,K,J,I,f.trans U⟩
  ·rw [o4] at A; cases A
   have hB:S (m+1)=true:=z2g u (V o4) hd (m+1) g3
   have hX:S (m+3)=true:=z2g u (V o4) hd (m+3) g4
   have hL:S m=true:=N Y hB g1
   have hM:S (m+2)=true:=N W hX g2
   obtain ⟨n,w',K,J,I,f⟩:=t1f hT hR hO hS hds (k:=k) (cs:=cs) (rest:=l) o4 hL hB hM hX
   have a0:l=[]:=by
    cases h with
    |nil=>rfl
    |cons _ C Z _ c G _ _=>
     exfalso
     have:=(eAi.1 G).1
     have hc:C<m∨C=m∨C=m+1∨C=m+2∨C=m+3∨C=m+4:=by omega
     rcases hc with h|rfl|rfl|rfl|rfl|rfl
     ·simp [F _ h] at c
     ·simp [hL] at c
     ·simp [hB] at c
     ·simp [hM] at c
     ·simp [hX] at c
     ·simp at c
   subst a0
   exact ⟨n,w',K,J,I,f.trans (.one z89)⟩
theorem v1b {T : TypeId → Option TI} (hm : P.follows .mixedOrders = true) (hT : y1d P T) {n : Nat} {v : Nat} {ops : Array Oper} {s0 : AS} {Q : AX → AS → Prop} (hn : n ≤ s0.heap.length) (O : y8f ops.toList = true) (a7 : z78 ops.toList = true) (l : y5d ops.toList = true)
    {pre : List Oper} {x : w2p} (g : v7d ops.toList = some (pre, x)) {K : AS → Prop} (hds : DS P T ops.toList s0.nt s0.heap.length K [] 0 pre s0)
    (hK : ∀ s1, K s1 → s1.nt = s0.nt → ∃ id kd es ti ks ka ez q r y, w0l T x s1 id kd es ti ks ka ez q r y ∧ Q .normal (w1s x s1 id (z67 q r ez) y (z83 es q r kd y))) : z5p P n (.region v ops true) s0 Q := ⟨by
  intro b k cs ρ tm ds w B F h2
  obtain ⟨S, hp, p, e2⟩ : ∃ S, u7t (ops.toList.drop (ops.toList.length - 5)) = some S ∧ pre = ops.toList.take (ops.toList.length - 5) ∧ x = S := by
    unfold v7d at g
    split at g
    · rename_i S hp
      cases g
      exact ⟨_, hp, rfl, rfl⟩
    · cases g
  subst p; subst e2
  obtain ⟨L, Bo, M, X, E, N, hO⟩ := v7c hp
  have a0 : ops.toList.length - (ops.toList.length - 5) = 5 := by
    have := congrArg List.length N
    simpa using this
  have Z : ops.toList.length = (ops.toList.length - 5) + 5 := by omega
  have a : ops.toList = ops.toList.take (ops.toList.length - 5) ++ [L, Bo, M, X, E] := by
    rw [← N, List.take_append_drop]
  generalize a5 : ops.toList.length - 5 = m at *
  have H : (ops.toList.take m).length = m := by rw [eCk]; omega
  have e : ∀ j (o : Oper), [L, Bo, M, X, E][j]? = some o → ops[m + j]? = some o := by
    intro j o c
    rw [← eAt, a, eFt (by rw [H]; omega), H]
    simpa using c
  have hz : ops.size = m + 5 := by simpa using Z
  obtain ⟨recs, r1, r2, r3, r4⟩ := hds.recs (s0 := s0) [] [L, Bo, M, X, E] [] (by simpa using a) rfl rfl rfl (by simp) rfl (fun j o c => by omega) (fun j o c => by omega)
  have I : recs.length = m := by
    simp only [eCa, eDw] at r1; omega
  unfold y5d at l
  rw [a5] at l
  simp only [eAf] at l
  obtain ⟨⟨g1, g2, g3, g4⟩, R⟩ := l
  have A : ∀ (i : Nat) (o : Oper), ops[i]? = some o → recs.length ≤ i → ∀ j, j < recs.length → (z7q (y1j ops.toList []) i).testBit j = true := by
    intro i o J hi j c
    have a6 : i < ops.toList.length := by simpa using (eAi.1 J).1
    have := eBm.1 R i (eBj.2 a6)
    rw [eBh] at this
    rcases this with h | h
    · have : i < m := eAl h
      omega
    · exact eBm.1 h j (eBj.2 (by omega))
  have hw := z0b.drawn F.heap (w.drawn + 1) (z0v.succ _)
  have z := Ext.drawn (· < n) ρ s0.heap w (w.drawn + 1) (z0v.succ _)
  have hI : Inv P ops.toList s0 recs (fun _ => false) ρ tm { w with drawn := w.drawn + 1 } s0 :=
    { nt := rfl
      env := fun t => by
        have : ∀ m, y7w s0 ops.toList recs (fun _ => false) t m = z0z s0.env t := by
          intro m
          induction m with
          | zero => rfl
          | succ m Y => simp only [y7w]; split <;> simp [Y]
        rw [this]
      heap := fun id => by
        have : ∀ m, y5s s0 ops.toList recs (fun _ => false) id m = z0e s0.heap id := by
          intro m
          induction m with
          | zero => rfl
          | succ m Y => simp only [y5s]; split <;> simp [Y]
        rw [this]
      st := ⟨hw, fun t => (F.env t).keep z.keep (fun _ _ h => h), F.size, F.dom⟩
      dom := fun id h => .inl (F.dom id h)
      turned := by simp
      closed := by simp }
  obtain ⟨s', ρ', G, U, S', l', u, p2, W, s, p5, p6, p7⟩ := y7k hT O (by omega) (fun i o r J hr => r2 i o r (by rw [eAt]; exact J) hr) (fun i o hi J => r3 i o hi (by rw [eAt]; exact J)) A (b := b) (k := k) (cs := cs) (ds := ds) (B := B) (y0b a7 (w.tape w.drawn (.order b.fn v))) (by simp) hI (h2.keep F.heap z)
  have hE : ∀ t, z0z (stF s0 ops.toList recs recs.length).env t = z0z s'.env t := by
    intro t
    rw [u.env t]
    exact (y3h _ _ _ _ t recs.length _ (by rw [I]; omega) (fun j o _ _ c => W j c) (fun j o _ _ c _ => by
      cases d : S' j with
      | false => rfl
      | true => have := s j d; omega)).symm
  have hH : ∀ id, z0e s'.heap id = z0e (stF s0 ops.toList recs recs.length).heap id := by
    intro id
    rw [u.heap id]
    exact y3g _ _ _ _ id recs.length _ (by rw [I]; omega) (fun j r _ _ c => W j c) (fun j r _ _ c _ => by
      cases d : S' j with
      | false => rfl
      | true => have := s j d; omega)
  obtain ⟨q1, q2⟩ := x6d s0 ops.toList recs recs.length
  have C : (stF s0 ops.toList recs recs.length).nt = s0.nt := x77 _ _ _ _
  have f : z2c P ρ' (stF s0 ops.toList recs recs.length) G U :=
    ⟨u.st.heap.ext hH, fun t => by rw [hE, ← z4i hH]; exact u.st.env t, by rw [C, ← u.nt]; exact u.st.size, fun id hid => by
      rcases u.dom id hid with h | ⟨j, r, a1, a2, a3, x, a4⟩
      · omega
      · have c : j < ops.size := by have := (eAe.1 a2).1; omega
        exact q2 j ops[j] r (s j a1) (by rw [eAt]; exact eBg c) a2 id x a4⟩
  obtain ⟨id, kd, es, ti, ks, ka, ez, q, r, y, hR, hQ⟩ := hK _ r4 C
  have f0 : S' m = false := by
    cases d : S' m with
    | false => rfl
    | true => have := s m d; omega
  have f1 : S' (m + 1) = false := by
    cases d : S' (m + 1) with
    | false => rfl
    | true => have := s _ d; omega
  have f2 : S' (m + 2) = false := by
    cases d : S' (m + 2) with
    | false => rfl
    | true => have := s _ d; omega
  have f3 : S' (m + 3) = false := by
    cases d : S' (m + 3) with
    | false => rfl
    | true => have := s _ d; omega
  have f4 : S' (m + 4) = false := by
    cases d : S' (m + 4) with
    | false => rfl
    | true => have := s _ d; omega
  have hS : St P x (stF s0 ops.toList recs recs.length) id kd ks ka (z67 q r ez) y (ent es q r kd ez) (z83 es q r kd) ρ' U (S' m) (S' (m + 1)) (S' (m + 2)) (S' (m + 3)) G U (stF s0 ops.toList recs recs.length) :=
    ⟨rfl, rfl, fun t => by simp [z9n, f0, f1, f2, f3], fun i => by simp [f2], f, Ext.refl _ _ _ _, fun h => by rw [f2] at h; cases h⟩
  obtain ⟨V, w2, t1, t2, t3, t4⟩ := v7b hT hR hO hz (e 0 _ rfl) (e 1 _ rfl) (e 2 _ rfl) (e 3 _ rfl) (e 4 _ rfl) g1 g2 g3 g4 p2 (b := b) (k := k) (cs := cs) (ds := ds) (B0 := B) (fun j c => W j (by omega)) f4 u.closed hS p5
  refine ⟨.normal, _, ρ', V, ds, w2, hQ, t1, t2, by rw [show (w1s x (stF s0 ops.toList recs recs.length) id (z67 q r ez) y (z83 es q r kd y)).nt = (stF s0 ops.toList recs recs.length).nt from rfl, C], ?_, ?_⟩
  · have p := p6.mono (S' := (· < n)) (fun id (hid : id < n) => by show id < s0.heap.length; omega)
    have a8 : Ext (· < n) ρ s0.heap { w with drawn := w.drawn + 1 } ρ' (stF s0 ops.toList recs recs.length).heap U := ⟨p.os, p.tape, p.output, by rw [← z4i hH]; exact p.keep, p.rho, p.fr, p.frs⟩
    have e2 := t3.mono (S' := (· < n)) (fun id (hid : id < n) => by show id < _; omega)
    exact z.trans (a8.trans e2)
  · have f := z71 (P := P) (b := b) (tm := tm) (ds := ds) (k := k) (cs := cs) (w := w) (id := v) (ops := ops)
    rw [hm] at f
    exact .head f (p7.trans t4)⟩
end
end Go.Am
end
section
namespace Go.Am
section
variable {P:Program}
def z18 (ops:List Oper) (m:Nat):Bool:=
 let a:=y1j ops []
 (eAv ops.length).all fun i=>eBt i m||(eAv i).all fun j=>Nat.testBit (z7q a i) j
theorem y4f {ops:List Oper} {m:Nat} (h:z18 ops m=true) {i:Nat} (b:i<ops.length) (hm:m≤i) {j:Nat} (a:j<i):(z7q (y1j ops []) i).testBit j=true:=by
 have:=eBm.1 h i (eBj.2 b)
 rw [eBh] at this
 rcases this with h|h
 ·have:i<m:=eAl h
  omega
 ·exact eBm.1 h j (eBj.2 a)
def y0w (ops:List Oper):Nat→List Oper→Nat
 |i,[]=>i
 |i,o::l=>match o.op with
  | .call ⟨.value _,_,_⟩=>bif z18 ops i then i else y0w ops (i+1) l
  |_=>y0w ops (i+1) l
def w3f (ops:List Oper):Nat:=y0w ops 0 ops
theorem y2j (ops:List Oper):z18 ops ops.length=true:=by
 unfold z18
 simp only [eBm,eBj,eBh]
 intro i a
 exact .inl (eCi a)
theorem y1o (ops:List Oper):∀ (l:List Oper) (i:Nat),i+l.length=ops.length→y0w ops i l≤ops.length∧z18 ops (y0w ops i l)=true
 |[],i,h=>by
  simp only [eDw,eBk] at h
  subst h
  exact ⟨eAp _,y2j ops⟩
 |o::l,i,h=>by
  have a:=y1o ops l (i+1) (by simp only [eCa] at h; omega)
  unfold y0w
  split
  ·cases b:z18 ops i with
   |true=>exact ⟨by simp only [eCa] at h; simp only [cond_true]; omega,b⟩
   |false=>exact a
  ·exact a
def z8c (ops:List Oper):Nat→List Oper→Nat
 |i,[]=>i
 |i,o::l=>match o.op with
  | .call ⟨.builtin .append,_,_⟩=>bif z18 ops i then i else z8c ops (i+1) l
  |_=>z8c ops (i+1) l
theorem z94 (ops:List Oper):∀ (l:List Oper) (i:Nat),i+l.length=ops.length→z8c ops i l≤ops.length∧z18 ops (z8c ops i l)=true
 |[],i,h=>by
  simp only [eDw,eBk] at h
  subst h
  exact ⟨eAp _,y2j ops⟩
 |o::l,i,h=>by
  have a:=z94 ops l (i+1) (by simp only [eCa] at h; omega)
  unfold z8c
  split
  ·cases b:z18 ops i with
   |true=>exact ⟨by simp only [eCa] at h; simp only [cond_true]; omega,b⟩
   |false=>exact a
  ·exact a
def x4j (a j:Nat):Bool:=eAk (Nat.land a (Nat.sub (Nat.pow 2 j) 1)) (Nat.sub (Nat.pow 2 j) 1)
theorem v0b {a j:Nat} (h:x4j a j=true) {i:Nat} (c:i<j):a.testBit i=true:=by
 have h:a&&&(2 ^ j - 1)=2 ^ j - 1:=eAg h
 have b:=congrArg (fun n=>n.testBit i) h
 simp only [Nat.testBit_and,Nat.testBit_two_pow_sub_one,c,decide_true,eDm] at b
 exact b
def x0v:Nat→Nat→List Nat→Nat
 |_,m,[]=>m
 |j,m,b::a=>x0v (j+1) (bif x4j b j then m else j+1) a
theorem x0u:∀ (a:List Nat) (j m:Nat),m≤x0v j m a∨j<x0v j m a
 |[],j,m=> .inl (eAp _)
 |b::a,j,m=>by
  simp only [x0v]
  cases x4j b j with
  |true=>rcases x0u a (j+1) m with h|h<;>simp only [cond_true]; exact .inl h; exact .inr (by omega)
  |false=>rcases x0u a (j+1) (j+1) with h|h<;>simp only [cond_false]<;>exact .inr (by omega)
theorem x0t : ∀ (asq : List Nat) (j m n : Nat), m ≤ n → j + asq.length ≤ n → x0v j m asq ≤ n
  | [], j, m, n, h, _ => h
  | an :: asq, j, m, n, h, h2 => by
    simp only [eCa] at h2
    simp only [x0v]
    cases x4j an j with
    | true => exact x0t asq (j + 1) m n h (by omega)
    | false => exact x0t asq (j + 1) (j + 1) n (by omega) (by omega)
theorem y8y : ∀ (asq : List Nat) (j m k : Nat), m ≤ j → x0v j m asq ≤ j + k → k < asq.length → x4j (z7q asq k) (j + k) = true
  | [], j, m, k, _, _, hk => by simp at hk
  | an :: asq, j, m, k, hm, h, hk => by
    simp only [x0v] at h
    cases k with
    | zero =>
      cases hf : x4j an j with
      | true => exact hf
      | false =>
        rw [hf] at h
        rcases x0u asq (j + 1) (j + 1) with h1 | h1 <;> simp only [cond_false] at h <;> omega
    | succ k =>
      have hm2 : (bif x4j an j then m else j + 1) ≤ j + 1 := by cases x4j an j <;> simp only [cond_true, cond_false] <;> omega
      have := y8y asq (j + 1) _ k hm2 (by rw [show j + 1 + k = j + (k + 1) by omega]; exact h) (by simpa using hk)
      rw [show j + (k + 1) = j + 1 + k by omega]; exact this
def w3g (ops:List Oper):Nat:=x0v 0 0 (y1j ops [])
theorem x72 (ops:List Oper):w3g ops≤ops.length∧z18 ops (w3g ops)=true:=by
 refine ⟨x0t _ 0 0 _ (eBb _) (by rw [y2c]; simp),?_⟩
 unfold z18
 simp only [eBm,eBj,eBh]
 intro i b
 by_cases h:i<w3g ops
 ·exact .inl (eCi h)
 ·refine .inr fun j a=>?_
  have:=y8y (y1j ops []) 0 0 i (eAp _) (by unfold w3g at h; omega) (by rw [y2c]; simpa using b)
  rw [eAy] at this
  exact v0b this a
def y73 (a b:Bool) (ops:List Oper):Nat:=bif b then w3g ops else bif a then z8c ops 0 ops else w3f ops
theorem w3e (ops:List Oper):w3f ops≤ops.length:=(y1o ops ops 0 (by omega)).1
theorem x2y (ops:List Oper):z18 ops (w3f ops)=true:=(y1o ops ops 0 (by omega)).2
theorem w8t (a b:Bool) (ops:List Oper):y73 a b ops≤ops.length:=by
 cases b
 ·cases a
  ·exact w3e ops
  ·exact (z94 ops ops 0 (by omega)).1
 ·exact (x72 ops).1
theorem x5u (a b:Bool) (ops:List Oper):z18 ops (y73 a b ops)=true:=by
 cases b
 ·cases a
  ·exact x2y ops
  ·exact (z94 ops ops 0 (by omega)).2
 ·exact (x72 ops).2
theorem w9f {ops:Array Oper} {S:Nat→Bool} {l:List Nat} (y:Ord ops S l):∀ (q:Nat),q≤ops.size→(∀ j,S j=true↔j<q)→(∀ (i:Nat) (o:Oper),ops.toList[i]?=some o→S i=true→∀ d∈z5l o,S d=true)→z18 ops.toList q=true→l=List.range' q (ops.size - q):=by
 induction y with
 |nil S h=>
  intro q x hS _ _
  have:¬ q<ops.size:=fun a=>by
   have:=(hS q).1 (h q a)
   omega
  rw [show ops.size - q=0 by omega]; rfl
 |cons S i o l u t v h w=>
  intro q x hS g n
  have b:ops.toList[i]?=some o:=by rw [eAt]; exact t
  have a:i<ops.size:=(eAi.1 t).1
  have s:q≤i:=by
   rcases eCu i q with h|h
   ·rw [(hS i).2 h] at u; cases u
   ·exact h
  have r:i=q:=by
   rcases eCu q i with c|z
   ·have:=z2g g b v q (y4f n (by simpa using a) s c)
    have:=(hS q).1 this
    omega
   ·omega
  subst r
  have:=w (i+1) a (fun j=>by
   simp only [eBh]
   constructor
   ·rintro (h|h)
    ·have:=(hS j).1 h; omega
    ·have:=eAg h; omega
   ·intro h
    by_cases he:j=i
    ·subst he; exact .inr (eGj _)
    ·exact .inl ((hS j).2 (by omega))) (fun k p e m d f=>by
   simp only [eBh] at m⊢
   rcases m with h|h
   ·exact .inl (g k p e h d f)
   ·have:=eAg h
    subst this
    rw [b] at e; cases e
    exact .inl (v d f)) (by
   unfold z18 at n⊢
   simp only [eBm,eBj,eBh] at n⊢
   intro k e
   rcases n k e with h|h
   ·have:k<i:=eAl h
    exact .inl (eCi (by omega))
   ·exact .inr h)
  rw [this,show ops.size - i=(ops.size - (i+1))+1 by omega,List.range'_succ]
theorem y26 {T : TypeId → Option TI} (hm : P.follows .mixedOrders = true) (hT : y1d P T) {n : Nat} {e : Nat} {ops : Array Oper} {s0 : AS} {Q : AX → AS → Prop} (hn : n ≤ s0.heap.length) (A : y8f ops.toList = true) (J : z78 ops.toList = true)
    {m : Nat} (p : m ≤ ops.size) (v : z18 ops.toList m = true) {K : AS → Prop} (hds : DS P T ops.toList s0.nt s0.heap.length K [] 0 (ops.toList.take m) s0)
    (hK : ∀ s1, K s1 → s1.nt = s0.nt → s0.heap.length ≤ s1.heap.length → y3d P n ops (List.range' m (ops.size - m)) s1 (Q .normal)) : z5p P n (.region e ops true) s0 Q := ⟨by
  intro b k cs ρ tm ds w B s h2
  have a0 : (ops.toList.take m).length = m := by rw [eCk]; simp; omega
  obtain ⟨recs, r1, r2, r3, r4⟩ := hds.recs (s0 := s0) [] (ops.toList.drop m) [] (by simp) rfl rfl rfl (by simp) rfl (fun j o a => by omega) (fun j o a => by omega)
  have y : recs.length = m := by
    rw [eGe] at r1
    have : ops.toList.length = ops.size := eCg
    omega
  have g : ∀ (i : Nat) (o : Oper), ops[i]? = some o → recs.length ≤ i → ∀ j, j < recs.length → (z7q (y1j ops.toList []) i).testBit j = true := by
    intro i o z R j a
    exact y4f v (by simpa using (eAi.1 z).1) (by omega) (by omega)
  have hw := z0b.drawn s.heap (w.drawn + 1) (z0v.succ _)
  have f := Ext.drawn (· < n) ρ s0.heap w (w.drawn + 1) (z0v.succ _)
  have hI : Inv P ops.toList s0 recs (fun _ => false) ρ tm { w with drawn := w.drawn + 1 } s0 :=
    { nt := rfl
      env := fun t => by
        have : ∀ m, y7w s0 ops.toList recs (fun _ => false) t m = z0z s0.env t := by
          intro m
          induction m with
          | zero => rfl
          | succ m H => simp only [y7w]; split <;> simp [H]
        rw [this]
      heap := fun id => by
        have : ∀ m, y5s s0 ops.toList recs (fun _ => false) id m = z0e s0.heap id := by
          intro m
          induction m with
          | zero => rfl
          | succ m H => simp only [y5s]; split <;> simp [H]
        rw [this]
      st := ⟨hw, fun t => (s.env t).keep f.keep (fun _ _ h => h), s.size, s.dom⟩
      dom := fun id h => .inl (s.dom id h)
      turned := by simp
      closed := by simp }
  obtain ⟨O, ρ', u, E, S', l', d, p2, G, C, p5, p6, p7⟩ := y7k hT A (by omega) (fun i o r z hr => r2 i o r (by rw [eAt]; exact z) hr) (fun i o R z => r3 i o R (by rw [eAt]; exact z)) g (b := b) (k := k) (cs := cs) (ds := ds) (B := B) (y0b J (w.tape w.drawn (.order b.fn e))) (by simp) hI (h2.keep s.heap f)
  have I := w9f p2 m p (fun j => ⟨fun h => by have := C j h; omega, fun h => G j (by omega)⟩) d.closed v
  subst I
  have hE : ∀ t, z0z (stF s0 ops.toList recs recs.length).env t = z0z O.env t := by
    intro t
    rw [d.env t]
    exact (y3h _ _ _ _ t recs.length _ (by rw [y]; simpa using p) (fun j o _ _ a => G j a) (fun j o _ _ a _ => by
      cases L : S' j with
      | false => rfl
      | true => have := C j L; omega)).symm
  have M : ∀ id, z0e O.heap id = z0e (stF s0 ops.toList recs recs.length).heap id := by
    intro id
    rw [d.heap id]
    exact y3g _ _ _ _ id recs.length _ (by rw [y]; simpa using p) (fun j r _ _ a => G j a) (fun j r _ _ a _ => by
      cases L : S' j with
      | false => rfl
      | true => have := C j L; omega)
  obtain ⟨q1, q2⟩ := x6d s0 ops.toList recs recs.length
  have l : (stF s0 ops.toList recs recs.length).nt = s0.nt := x77 _ _ _ _
  have c : z2c P ρ' (stF s0 ops.toList recs recs.length) u E :=
    ⟨d.st.heap.ext M, fun t => by rw [hE, ← z4i M]; exact d.st.env t, by rw [l, ← d.nt]; exact d.st.size, fun id hid => by
      rcases d.dom id hid with h | ⟨j, r, a1, S, a3, x, a4⟩
      · omega
      · have a : j < ops.size := by have := (eAe.1 S).1; omega
        exact q2 j ops[j] r (C j a1) (by rw [eAt]; exact eBg a) S id x a4⟩
  obtain ⟨s2, ρ2, F, U, t1, Z, Y, X, W, V⟩ := (hK _ r4 l q1).run b k cs ρ' u ds E B c p5
  refine ⟨.normal, s2, ρ2, F, ds, U, t1, Z, Y, by rw [X, l], ?_, ?_⟩
  · have q := p6.mono (S' := (· < n)) (fun id (hid : id < n) => by show id < s0.heap.length; omega)
    have N : Ext (· < n) ρ s0.heap { w with drawn := w.drawn + 1 } ρ' (stF s0 ops.toList recs recs.length).heap E := ⟨q.os, q.tape, q.output, by rw [← z4i M]; exact q.keep, q.rho, q.fr, q.frs⟩
    exact f.trans (N.trans W)
  · have c := z71 (P := P) (b := b) (tm := tm) (ds := ds) (k := k) (cs := cs) (w := w) (id := e) (ops := ops)
    rw [hm] at c
    exact .head c (p7.trans V)⟩
end
end Go.Am
end
section
namespace Go.Am
mutual
def eqD:D→D→Bool
 | .bool a, .bool b=>a==b
 | .int k a, .int k' b=>(k==k')&&(a==b)
 | .str a, .str b=>a.data.toList==b.data.toList
 | .list f z es, .list f' z' es'=>(f==f')&&(eAk z z'&&x4u es es')
 | .agg l, .agg l'=>v7s l l'
 | .nilp, .nilp=>true
 | .nilm, .nilm=>true
 | .nilf, .nilf=>true
 | .nili, .nili=>true
 | .ref l, .ref l'=>v7s l l'
 |_,_=>false
def v7s:List D→List D→Bool
 |[],[]=>true
 |x::l,y::m=>eqD x y&&v7s l m
 |_,_=>false
def x4u:List (List D)→List (List D)→Bool
 |[],[]=>true
 |x::l,y::m=>v7s x y&&x4u l m
 |_,_=>false
end
mutual
theorem y24:(a b:D)→eqD a b=true→a=b
 | .bool a,b,h=>by
  cases b<;>simp only [eqD,eAh] at h
  rename_i b; rw [beq_iff_eq.1 h]
 | .int k a,b,h=>by
  cases b<;>simp only [eqD,eAh,eAf] at h
  rw [beq_iff_eq.1 h.1,beq_iff_eq.1 h.2]
 | .str a,b,h=>by
  cases b<;>simp only [eqD,eAh] at h
  rename_i b
  have:=beq_iff_eq.1 h
  cases a; cases b
  simp only at this
  rw [Array.toList_inj.1 this]
 | .list f z es,b,h=>by
  cases b<;>simp only [eqD,eAh,eAf] at h
  rw [beq_iff_eq.1 h.1,eAg h.2.1,z8y _ _ h.2.2]
 | .agg l,b,h=>by
  cases b<;>simp only [eqD,eAh] at h
  rw [y23 _ _ h]
 | .nilp,b,h=>by cases b<;>first|rfl|(simp only [eqD,eAh] at h)
 | .nilm,b,h=>by cases b<;>first|rfl|(simp only [eqD,eAh] at h)
 | .nilf,b,h=>by cases b<;>first|rfl|(simp only [eqD,eAh] at h)
 | .nili,b,h=>by cases b<;>first|rfl|(simp only [eqD,eAh] at h)
 | .ref l,b,h=>by
  cases b<;>simp only [eqD,eAh] at h
  rw [y23 _ _ h]
theorem y23:(a b:List D)→v7s a b=true→a=b
 |[],b,h=>by cases b<;>first|rfl|(simp only [v7s,eAh] at h)
 |x::l,b,h=>by
  cases b<;>simp only [v7s,eAh,eAf] at h
  rw [y24 _ _ h.1,y23 _ _ h.2]
theorem z8y:(a b:List (List D))→x4u a b=true→a=b
 |[],b,h=>by cases b<;>first|rfl|(simp only [x4u,eAh] at h)
 |x::l,b,h=>by
  cases b<;>simp only [x4u,eAh,eAf] at h
  rw [y23 _ _ h.1,z8y _ _ h.2]
end
def v9h:List (D×D)→List (D×D)→Bool
 |[],[]=>true
 |(k,x)::l,(a,y)::m=>eqD k a&&(eqD x y&&v9h l m)
 |_,_=>false
theorem x4t:∀ (a b:List (D×D)),v9h a b=true→a=b
 |[],b,h=>by cases b<;>first|rfl|(simp only [v9h,eAh] at h)
 |(k,x)::l,b,h=>by
  cases b with
  |nil=>simp only [v9h,eAh] at h
  |cons y m=>
   obtain ⟨c,y⟩:=y
   simp only [v9h,eAf] at h
   rw [y24 _ _ h.1,y24 _ _ h.2.1,x4t _ _ h.2.2]
def v3h:List AV→List AV→Bool
 |[],[]=>true
 | .d x::l, .d y::m=>eqD x y&&v3h l m
 |_,_=>false
theorem x4v:∀ (a b:List AV),v3h a b=true→a=b
 |[],b,h=>by cases b<;>first|rfl|(simp only [v3h,eAh] at h)
 |x::l,b,h=>by
  cases b with
  |nil=>cases x<;>simp only [v3h,eAh] at h
  |cons y m=>
   cases x<;>try (simp only [v3h,eAh] at h)
   cases y<;>try (simp only [v3h,eAh] at h)
   simp only [v3h,eAf] at h
   rw [y24 _ _ h.1,x4v _ _ h.2]
def eqO:AO→AO→Bool
 | .dead, .dead=>true
 | .row a, .row b=>x4u a b
 | .box a, .box b=>v3h a b
 | .map a, .map b=>v9h a b
 |_,_=>false
theorem v0m (a b:AO) (h:eqO a b=true):a=b:=by
 cases a<;>cases b<;>simp only [eqO,eAh] at h
 ·rfl
 ·rw [x4v _ _ h]
 ·rw [z8y _ _ h]
 ·rw [x4t _ _ h]
def eqH:List AO→List AO→Bool
 |[],[]=>true
 |a::l,b::m=>eqO a b&&eqH l m
 |_,_=>false
theorem x9l:∀ (a b:List AO),eqH a b=true→a=b
 |[],b,h=>by cases b<;>first|rfl|(simp only [eqH,eAh] at h)
 |x::l,b,h=>by
  cases b<;>simp only [eqH,eAh,eAf] at h
  rw [v0m _ _ h.1,x9l _ _ h.2]
def w1u:AO→Bool
 | .dead=>true
 | .row _=>true
 | .map _=>true
 | .box l=>match x2k l with
  |some _=>true
  |none=>false
 |_=>false
mutual
def inT (T:Nat→Bool):AV→Bool
 | .bot=>true
 | .d _=>true
 | .bptr id _=>T id
 | .ptr id _ _=>T id
 | .slice id _ _ _ _=>T id
 | .map id=>T id
 | .clo _ fs cs=>w94 T fs&&w94 T cs
 | .agg l=>w94 T l
 | .tuple l=>w94 T l
 |_=>false
def w94 (T:Nat→Bool):List AV→Bool
 |[]=>true
 |x::l=>inT T x&&w94 T l
end
theorem y02 {T:Nat→Bool}:∀ {l:List AV},w94 T l=true→∀ (i:Nat) (x:AV),l[i]?=some x→inT T x=true
 |[],_,i,x,h=>by simp at h
 |y::l,h,i,x,a=>by
  simp only [w94,eAf] at h
  cases i with
  |zero=>simp at a; subst a; exact h.1
  |succ i=>exact y02 h.2 i x (by simpa using a)
theorem z0q.restr {T:Nat→Bool} {ρ ρ':Rho} {O:Nat→Prop} {w:World} (j:∀ id L,T id=true→ρ id=some L→ρ' id=some L) {x:AV} {v:Value} (h:z0q ρ O w x v):inT T x=true→z0q ρ' O w x v:=by
 induction h with
 |bot v=>intro _; exact .bot v
 |d h=>intro _; exact .d h
 |bptr id off L h=>intro b; exact .bptr id off L (j _ _ b h)
 |ptr id i off L h=>intro b; exact .ptr id i off L (j _ _ b h)
 |slice id z off len cap L a c h r t g f=>intro b; exact .slice id z off len cap L a c (j _ _ b h) r t g f
 |nils id z off cap a g=>intro _; exact .nils id z off cap a g
 |map id L h=>intro b; exact .map id L (j _ _ b h)
 |clo fn u cs p q s g A y n m=>
  intro b
  simp only [inT,eAf] at b
  exact .clo fn u cs p q s g (fun i x e=>n i x e (y02 b.1 i x e)) (fun i x e=>m i x e (y02 b.2 i x e))
 |agg k l f h o=>intro b; exact .agg k l f fun i x e=>o i x e (y02 (by simpa only [inT] using b) i x e)
 |tuple k l f h o=>intro b; exact .tuple k l f fun i x e=>o i x e (y02 (by simpa only [inT] using b) i x e)
 |_=>intro b; simp [inT] at b
theorem w0p {h:List AO} {T:Nat→Bool} {o:AO} (a:w1u o=true):w0q h T o=o:=by
 cases o with
 |dead=>rfl
 |row es=>rfl
 |map es=>rfl
 |box l=>
  simp only [w1u] at a
  cases b:x2k l with
  |none=>rw [b] at a; cases a
  |some ds=>
   rw [z2b b]
   simp only [w0q,z82]
   congr 1
   apply eCj
   intro i
   rw [eAj,z1p]
   cases ds[i]?<;>rfl
 |arow es=>cases a
 |loop st c g pos nt env=>cases a
theorem z1e.flat {P:Program} {ρ ρ':Rho} {O:Nat→Prop} {w:World} {L:Loc} {o:AO} (e:w1u o=true) (h:z1e P ρ O w L o):z1e P ρ' O w L o:=by
 cases o with
 |dead=>trivial
 |row es=>exact h
 |map es=>exact h
 |box l=>
  simp only [w1u] at e
  cases k:x2k l with
  |none=>rw [k] at e; cases e
  |some ds=>
   obtain ⟨a,c,t,p,n⟩:=h
   refine ⟨a,c,t,p,fun j x b=>?_⟩
   obtain ⟨v,m,f⟩:=n j x b
   rw [z2b k,z1p] at b
   cases i:ds[j]? with
   |none=>rw [i] at b; cases b
   |some d=>
    rw [i] at b; cases b
    cases f with|d f=>exact ⟨v,m, .d f⟩
 |arow es=>cases e
 |loop st q g pos nt env=>cases e
theorem z3s.widen {P:Program} {g:FuncId} {args:List AV} {r:AV} {h q hV:List AO} {T:Nat→Bool} (hT:∀ id,T id=true→id<h.length) (A:∀ id,T id=true→w1u (z0e h id)=true) (C:w94 T args=true) (hr:inT T r=true)
  (t:z3s P g args (z4f h T 0 h) r hV) (heq:hV=z4f h T 0 h) (l:∀ id,T id=true→z0e q id=z0e h id):z3s P g args q r q:=⟨by
 intro ρ vs w cs o V I
 subst heq
 let z:Rho:=⟨fun id=>if T id=true then ρ id else none,fun b=>ρ.fr b∨∃ id L,T id=false∧ρ id=some L∧(z0e q id).live=true∧L.blk=b⟩
 have k:∀ {id L},z id=some L→T id=true∧ρ id=some L:=fun {id L} a=>by
  change (if T id=true then ρ id else none)=some L at a
  split at a
  ·rename_i c; exact ⟨c,a⟩
  ·cases a
 have B:∀ id L,T id=true→ρ id=some L→z id=some L:=fun id L c a=>by
  show (if T id=true then ρ id else none)=some L
  rw [if_pos c]; exact a
 have m:∀ id,z0e (z4f h T 0 h) id=if T id=true then z0e h id else .dead:=fun id=>by
  rw [z4r,eAy]
  split
  ·rename_i c; exact w0p (A id c)
  ·rfl
 have e:z0f z (z4f h T 0 h)=z0f ρ q:=by
  funext b
  apply propext
  constructor
  ·rintro ((n|⟨id,L,_,a,d,rfl⟩)|⟨id,L,a,d,rfl⟩)
   ·exact .inl n
   ·exact .inr ⟨id,L,a,d,rfl⟩
   ·obtain ⟨c,a⟩:=k a
    rw [m,if_pos c, ←l id c] at d
    exact .inr ⟨id,L,a,d,rfl⟩
  ·rintro (n|⟨id,L,a,d,rfl⟩)
   ·exact .inl (.inl n)
   ·cases c:T id with
    |false=>exact .inl (.inr ⟨id,L,c,a,d,rfl⟩)
    |true=>exact .inr ⟨id,L,B id L c a,by rw [m,if_pos c, ←l id c]; exact d,rfl⟩
 have R:z0b P z (z4f h T 0 h) w:=by
  refine ⟨fun id L a=>?_,fun id s L X W F l1 l2 t=>?_,fun b t=>?_,fun id L a d n=>?_,e▸o.gl⟩
  ·obtain ⟨c,a⟩:=k a
   obtain ⟨p,J⟩:=o.obj id L a
   refine ⟨p,?_⟩
   rw [e,m,if_pos c]
   rw [l id c] at J
   exact J.flat (A id c)
  ·obtain ⟨t1,W⟩:=k W
   obtain ⟨Z,F⟩:=k F
   rw [m,if_pos t1, ←l id t1] at l1
   rw [m,if_pos Z, ←l s Z] at l2
   exact o.inj id s L X W F l1 l2 t
  ·rcases t with t|⟨id,L,_,a,_,rfl⟩
   ·exact o.fr b t
   ·exact (o.obj id L a).1
  ·obtain ⟨c,a⟩:=k a
   rw [m,if_pos c, ←l id c] at d
   rcases n with n|⟨s,X,t',E,Q,he⟩
   ·exact o.sep id L a d n
   ·have:=o.inj s id X L E a Q d he
    subst this
    rw [c] at t'; cases t'
 have u:(z4f h T 0 h).length=h.length:=z55 h T h 0
 have H:Dom z (z4f h T 0 h):=fun id hid=>by
  cases hq:z id with
  |none=>exact absurd hq hid
  |some L=>rw [u]; exact hT id (k hq).1
 obtain ⟨ρ',v,Y,fr,M,U,O,hv,S,y,f⟩:=t.run z vs w cs R H ⟨I.1,fun i x f=>by
  rw [e]
  exact (I.2 i x f).restr B (y02 C i x f)⟩
 have K:∀ id L,ρ' id=some L→ρ id=some L:=fun id L a=>by
  have hid:=y id (by rw [a]; simp)
  rw [f.rho id hid] at a
  exact (k a).2
 have j:z0f ρ' (z4f h T 0 h)=z0f ρ q:=by
  rw [←e]
  funext b
  apply propext
  constructor
  ·rintro (n|⟨id,L,a,d,rfl⟩)
   ·exact .inl (by rw [←f.fr]; exact n)
   ·have hid:=y id (by rw [a]; simp)
    exact .inr ⟨id,L,by rw [←f.rho id hid]; exact a,d,rfl⟩
  ·rintro (n|⟨id,L,a,d,rfl⟩)
   ·exact .inl (by rw [f.fr]; exact n)
   ·have hid:=H id (by rw [a]; simp)
    exact .inr ⟨id,L,by rw [f.rho id hid]; exact a,d,rfl⟩
 have G:z5d (z0f ρ q) (z0f ρ q) w Y:=by
  have:=f.keep
  rw [e,j] at this
  exact this
 refine ⟨ρ,v,Y,fr,M,U,O,?_,?_,V,?_⟩
 ·rw [j] at hv
  exact hv.keep (O':=z0f ρ q) (ρ':=ρ) (z5d.refl _ _) K
 ·refine ⟨fun id L a=>?_,o.inj,fun b t=>eBc (o.fr b t) G.size,o.sep,o.gl.keep G⟩
  obtain ⟨p,J⟩:=o.obj id L a
  refine ⟨eBc p G.size,?_⟩
  cases c:T id with
  |true=>
   have E:ρ' id=some L:=by rw [f.rho id (by rw [u]; exact hT id c)]; exact B id L c a
   have:=(S.obj id L E).2
   rw [j,m,if_pos c] at this
   rw [l id c]
   exact this.flat (A id c)
  |false=>
   by_cases d:(z0e q id).live=true
   ·exact J.keep G (fun _ _ h=>h) (f.frs L.blk (.inr ⟨id,L,c,a,d,rfl⟩))
   ·cases N:z0e q id<;>first|trivial|(rw [N] at d; exact absurd rfl d)
 ·exact { os:=f.os,tape:=f.tape,output:=f.output,keep:=G,rho:=fun _ _=>rfl,fr:=rfl,frs:=fun b n=>f.frs b (.inl n) }⟩
def y0g (σ:List (Option Nat)) (a:Nat):Bool:=
 match σ with
 |[]=>false
 |some b::r=>eAk a b||y0g r a
 |none::r=>y0g r a
def w1r:List (Option Nat)→Bool
 |[]=>true
 |none::r=>w1r r
 |some a::r=>!(y0g r a)&&w1r r
theorem z8q {a:Nat}:∀ {σ:List (Option Nat)} {i:Nat},z2d σ i=some (some a)→y0g σ a=true
 |[],i,h=>by simp [z2d] at h
 |none::r,i,h=>by
  cases i with
  |zero=>simp [z2d] at h
  |succ i=>exact z8q (σ:=r) (i:=i) (by simpa [z2d] using h)
 |some b::r,i,h=>by
  cases i with
  |zero=>simp [z2d] at h; subst h; simp [y0g]
  |succ i=>simp only [y0g,z8q (σ:=r) (i:=i) (by simpa [z2d] using h),Bool.or_true]
theorem z8w:∀ {σ:List (Option Nat)},w1r σ=true→∀ {i j a:Nat},z2d σ i=some (some a)→z2d σ j=some (some a)→i=j
 |[],_,i,j,a,c,_=>by simp [z2d] at c
 |none::r,h,i,j,a,c,d=>by
  cases i with
  |zero=>simp [z2d] at c
  |succ i=>
   cases j with
   |zero=>simp [z2d] at d
   |succ j=>rw [z8w (σ:=r) h (i:=i) (j:=j) (by simpa [z2d] using c) (by simpa [z2d] using d)]
 |some b::r,h,i,j,a,c,d=>by
  simp only [w1r,eAf,eCy] at h
  cases i with
  |zero=>
   cases j with
   |zero=>rfl
   |succ j=>
    simp [z2d] at c; subst c
    have:=z8q (σ:=r) (i:=j) (by simpa [z2d] using d)
    rw [h.1] at this; cases this
  |succ i=>
   cases j with
   |zero=>
    simp [z2d] at d; subst d
    have:=z8q (σ:=r) (i:=i) (by simpa [z2d] using c)
    rw [h.1] at this; cases this
   |succ j=>rw [z8w (σ:=r) h.2 (i:=i) (j:=j) (by simpa [z2d] using c) (by simpa [z2d] using d)]
section
variable {ρ:Rho} {σ:List (Option Nat)}
def Rho.via (ρ:Rho) (σ:List (Option Nat)):Rho:=⟨fun i=>match z2d σ i with|some (some a)=>ρ a|_=>none,ρ.fr⟩
theorem z4g {i:Nat} {M:Loc} (c:(ρ.via σ) i=some M):∃ a,z2d σ i=some (some a)∧ρ a=some M:=by
 have b:(match z2d σ i with|some (some a)=>ρ a|_=>none)=some M:=c
 split at b
 ·rename_i a d; exact ⟨a,d,b⟩
 ·cases b
end
mutual
def z8j (f:Nat→Nat):AV→AV
 | .bptr i off=> .bptr (f i) off
 | .ptr i j off=> .ptr (f i) j off
 | .slice i z off len cap=> .slice (f i) z off len cap
 | .map i=> .map (f i)
 | .yld i=> .yld (f i)
 | .clo fn fs cs=> .clo fn (x6f f fs) (x6f f cs)
 | .iface t v=> .iface t (z8j f v)
 | .agg l=> .agg (x6f f l)
 | .tuple l=> .tuple (x6f f l)
 | .bot=> .bot
 | .d x=> .d x
 | .lptr r off=> .lptr r off
 | .wptr r off=> .wptr r off
 | .perm r=> .perm r
def x6f (f:Nat→Nat):List AV→List AV
 |[]=>[]
 |x::l=>z8j f x::x6f f l
end
theorem z2l (f:Nat→Nat) (l:List AV):x6f f l=l.map (z8j f):=by
 induction l with
 |nil=>rfl
 |cons x l a=>simp [x6f,a]
def v9c (f:Nat→Nat):List (Nat×AV)→List (Nat×AV)
 |[]=>[]
 |(k,x)::l=>(k,z8j f x)::v9c f l
theorem w5g (f:Nat→Nat) (env:List (Nat×AV)) (t:Nat):z0z (v9c f env) t=z8j f (z0z env t):=by
 induction env with
 |nil=>rfl
 |cons x env a=>
  obtain ⟨k,x⟩:=x
  simp only [v9c,z0z]
  cases eAk k t<;>simp [a]
def w3v (f:Nat→Nat):List (List AV)→List (List AV)
 |[]=>[]
 |x::l=>x6f f x::w3v f l
theorem y2o (f:Nat→Nat) (l:List (List AV)):w3v f l=l.map (x6f f):=by
 induction l with
 |nil=>rfl
 |cons x l a=>simp [w3v,a]
def y87 (f:Nat→Nat):AO→AO
 | .dead=> .dead
 | .box l=> .box (x6f f l)
 | .row es=> .row es
 | .arow es=> .arow (w3v f es)
 | .map es=> .map es
 | .loop st a g pos nt env=> .loop st a g pos nt (v9c f env)
theorem z2h (f:Nat→Nat) (o:AO):(y87 f o).live=o.live:=by cases o<;>rfl
section ren
variable {P:Program} {ρ1 ρ2:Rho} {O1 O2:Nat→Prop} {w:World} {f:Nat→Nat}
theorem y6j (hO:∀ b,O2 b→O1 b) (s:∀ j M,ρ1 j=some M→ρ2 (f j)=some M) {x:AV} {v:Value} (H:z0q ρ1 O1 w x v):z0q ρ2 O2 w (z8j f x) v:=by
 have A:z5d O1 O2 w w:=⟨eAp _,fun _ _ _=>rfl,fun b _ u=>hO b u,fun _ _ h=>h,z0v.refl _⟩
 induction H with
 |bot v=>exact .bot v
 |d h=>exact .d (h.keep A)
 |bptr id off L k=>exact .bptr _ off L (s _ _ k)
 |ptr id i off L k=>exact .ptr _ i off L (s _ _ k)
 |lptr r off b o l n cell m I=>exact .lptr r off b o l (fun u=>n (hO b u)) cell m (fun j x e=>(I j x e).keep A)
 |wptr es off b o z l n G m=>exact .wptr es off b o z l (fun u=>n (hO b u)) G fun i r j x S e=>let ⟨v,H,Q⟩:=m i r j x S e; ⟨v,H,Q.keep A⟩
 |perm es N v R h=>exact .perm es N v R (h.keep A)
 |slice id z off len cap L a c k G T m q=>exact .slice _ z off len cap L a c (s _ _ k) G T m q
 |nils id z off cap a m=>exact .nils _ z off cap a m
 |map id L k=>exact .map _ L (s _ _ k)
 |yld id L k=>exact .yld _ L (s _ _ k)
 |clo fn U cs O P K J W V F E=>
  simp only [z8j,z2l]
  refine .clo fn _ _ O P (by simpa using K) (by simpa using J) (fun i x e=>?_) (fun i x e=>?_)
  ·rw [eAj] at e
   cases g:U[i]? with
   |none=>rw [g] at e; cases e
   |some y=>rw [g] at e; cases e; exact F i y g
  ·rw [eAj] at e
   cases g:cs[i]? with
   |none=>rw [g] at e; cases e
   |some y=>rw [g] at e; cases e; exact E i y g
 |iface t x v h p=>exact .iface t _ v p
 |agg B C q h p=>
  simp only [z8j,z2l]
  refine .agg _ C (by simpa using q) (fun i x e=>?_)
  rw [eAj] at e
  cases g:B[i]? with
  |none=>rw [g] at e; cases e
  |some y=>rw [g] at e; cases e; exact p i y g
 |tuple B C q h p=>
  simp only [z8j,z2l]
  refine .tuple _ C (by simpa using q) (fun i x e=>?_)
  rw [eAj] at e
  cases g:B[i]? with
  |none=>rw [g] at e; cases e
  |some y=>rw [g] at e; cases e; exact p i y g
theorem w3u (hO:∀ b,O2 b→O1 b) (G:∀ j M,ρ1 j=some M→ρ2 (f j)=some M) {L:Loc} {o:AO} (h:z1e P ρ1 O1 w L o):z1e P ρ2 O2 w L (y87 f o):=by
 have F:z5d O1 O2 w w:=⟨eAp _,fun _ _ _=>rfl,fun b _ O=>hO b O,fun _ _ h=>h,z0v.refl _⟩
 cases o with
 |dead=>trivial
 |box cells=>
  obtain ⟨s,c,t,n,m⟩:=h
  refine ⟨s,c,t,n,fun j x d=>?_⟩
  rw [z2l,eAj] at d
  cases l:cells[j]? with
  |none=>rw [l] at d; cases d
  |some y=>
   rw [l] at d; cases d
   obtain ⟨v,u,A⟩:=m j y l
   exact ⟨v,u,y6j hO G A⟩
 |row es=>
  obtain ⟨E,c,t,n,q,m⟩:=h
  exact ⟨E,c,t,n,q,fun i r j x a d=>let ⟨v,u,B,A⟩:=m i r j x a d; ⟨v,u,B,A.keep F⟩⟩
 |arow es=>
  obtain ⟨E,c,t,n,q,m⟩:=h
  refine ⟨E,c,t,n,fun i r a=>?_,fun i r j x a d=>?_⟩
  ·rw [y2o,eAj] at a
   cases l:es[i]? with
   |none=>rw [l] at a; cases a
   |some y=>rw [l] at a; cases a; rw [z2l,eBp]; exact q i y l
  ·rw [y2o,eAj] at a
   cases l:es[i]? with
   |none=>rw [l] at a; cases a
   |some y=>
    rw [l] at a; cases a
    rw [z2l,eAj] at d
    cases p:y[j]? with
    |none=>rw [p] at d; cases d
    |some z=>
     rw [p] at d; cases d
     obtain ⟨v,u,B,A⟩:=m i y j z l p
     exact ⟨v,u,B,y6j hO G A⟩
 |map es=>
  obtain ⟨R,J,n,q,m⟩:=h
  exact ⟨R,J,n,q,fun i k x a=>let ⟨e,he,B,Q⟩:=m i k x a; ⟨e,he,B.keep F,Q.keep F⟩⟩
 |loop st S g pos nt env=>
  obtain ⟨x,N,K,C,H,tm,ds,I,n,q,m⟩:=h
  exact ⟨x,N,K,C,H,tm,ds,I,n,q,fun t=>by rw [w5g]; exact y6j hO G (m t)⟩
end ren
def z3h (σ:List (Option Nat)) (base:Nat) (j:Nat):Nat:=
 match z2d σ j with
 |some (some a)=>a
 |_=>base+(j - σ.length)
def z2e (f:Nat→Nat):List AO→Nat→List AO→List AO
 |h,_,[]=>h
 |h,j,o::os=>z2e f (z04 h (f j) (y87 f o)) (j+1) os
theorem y8w (f:Nat→Nat):∀ (os:List AO) (h:List AO) (j:Nat) (id:Nat),(∀ a b,j≤a→a<j+os.length→j≤b→b<j+os.length→f a=f b→a=b)→
  (∀ k,k<os.length→z0e (z2e f h j os) (f (j+k))=y87 f (z0e os k))∧((∀ k,k<os.length→f (j+k)≠id)→z0e (z2e f h j os) id=z0e h id):=by
 intro os
 induction os with
 |nil=>intro h j id _; exact ⟨fun k g=>by simp at g,fun _=>rfl⟩
 |cons o os l=>
  intro h j id d
  have c:∀ a b,j+1≤a→a<j+1+os.length→j+1≤b→b<j+1+os.length→f a=f b→a=b:=fun a b q p n m=>d a b (by omega) (by simp; omega) (by omega) (by simp; omega)
  simp only [z2e]
  refine ⟨fun k g=>?_,fun i=>?_⟩
  ·cases k with
   |zero=>
    rw [(l _ (j+1) (f (j+0)) c).2 (fun k g=>?_)]
    ·rw [eBk,z0g]; rfl
    ·intro e
     have:=d _ _ (by omega) (by simp; omega) (by omega) (by simp) e
     omega
   |succ k=>
    have:=(l (z04 h (f j) (y87 f o)) (j+1) id c).1 k (by simpa using g)
    rw [show j+1+k=j+(k+1) by omega] at this
    exact this
  ·rw [(l _ (j+1) id c).2 (fun k g=>by rw [show j+1+k=j+(k+1) by omega]; exact i (k+1) (by simpa using g)),z0c _ _ _ _ (by have:=i 0 (by simp); simpa using this)]
theorem z8a (f:Nat→Nat):∀ (os:List AO) (h:List AO) (j:Nat),h.length≤(z2e f h j os).length∧∀ k,k<os.length→f (j+k)<(z2e f h j os).length:=by
 intro os
 induction os with
 |nil=>intro h j; exact ⟨eAp _,fun k e=>by simp at e⟩
 |cons o os g=>
  intro h j
  simp only [z2e]
  obtain ⟨a,b⟩:=g (z04 h (f j) (y87 f o)) (j+1)
  obtain ⟨c,d⟩:=z10 h (f j) (y87 f o)
  refine ⟨eCt c a,fun k e=>?_⟩
  cases k with
  |zero=>exact eBc d a
  |succ k=>rw [show j+(k+1)=j+1+k by omega]; exact b k (by simpa using e)
def z6w (base:Nat):List (Option Nat)→Bool
 |[]=>true
 |some a::r=>eBt a base&&z6w base r
 |none::_=>false
theorem y3a {base:Nat}:∀ {σ:List (Option Nat)},z6w base σ=true→∀ j,j<σ.length→∃ a,z2d σ j=some (some a)∧a<base
 |[],_,j,b=>by simp at b
 |none::_,h,_,_=>by cases h
 |some a::r,h,j,b=>by
  simp only [z6w,eAf] at h
  cases j with
  |zero=>exact ⟨a,rfl,eAl h.1⟩
  |succ j=>simpa [z2d] using y3a h.2 j (by simpa using b)
section frame
variable {P:Program} {ρ:Rho} {h:List AO} {w:World} {σ:List (Option Nat)}
def Rho.lent (ρ:Rho) (h:List AO) (σ:List (Option Nat)):Rho:=
 ⟨(ρ.via σ).loc,fun b=>ρ.fr b∨∃ a M,ρ a=some M∧(z0e h a).live=true∧(∀ j,z2d σ j≠some (some a))∧M.blk=b⟩
theorem x6q {ρ:Rho} {O:Nat→Prop} {w:World} {L:Loc} {o:AO} (h:¬ o.live=true):z1e P ρ O w L o:=by
 cases o<;>first|trivial|exact absurd rfl h
set_option maxHeartbeats 1000000 in
theorem y7b {n : Nat} {s : AS} (hn : n ≤ s.heap.length) (hinj : w1r σ = true) (hth : z6w s.heap.length σ = true) {g : FuncId} {args argsT : List AV} {hT hT' : List AO} {r : AV} (hlen : hT.length ≤ hT'.length)
    (hfit : ∀ (ρ : Rho) (w : World), z0b P ρ s.heap w → hT.length = σ.length ∧ (∀ b, z0f (ρ.lent s.heap σ) hT b → z0f ρ s.heap b) ∧ z0b P (ρ.lent s.heap σ) hT w ∧ argsT.length = args.length ∧
      ∀ f : Nat → Value, (∀ i x, args[i]? = some x → z0q ρ (z0f ρ s.heap) w x (f i)) → ∀ i y, argsT[i]? = some y → z0q (ρ.lent s.heap σ) (z0f ρ s.heap) w y (f i))
    (ha : z3s P g argsT hT r hT') : z5o P n g args s (z8j (z3h σ s.heap.length) r) ⟨s.env, z2e (z3h σ s.heap.length) s.heap 0 hT', s.nt⟩ := ⟨by
  intro ρ vs tm w cs hs hargs
  obtain ⟨hKlen, hlo, hheap, hal, hav⟩ := hfit ρ w hs.heap
  have kp : z5d (z0f ρ s.heap) (z0f (ρ.lent s.heap σ) hT) w w := ⟨eAp _, fun _ _ _ => rfl, fun b _ hb => hlo b hb, fun _ _ h => h, z0v.refl _⟩
  have hdomT : Dom (ρ.lent s.heap σ) hT := fun id hid => by
    cases hq : (ρ.lent s.heap σ) id with
    | none => exact absurd hq hid
    | some M =>
      obtain ⟨a, ha, _⟩ := z4g hq
      rw [z1v] at ha
      rw [hKlen]; exact (eAe.1 ha).1
  obtain ⟨ρ1, v, w', fr, b1, b2, b3, b4, b5, b6, b7⟩ := ha.run (ρ.lent s.heap σ) vs w cs hheap hdomT ⟨by rw [hal]; exact hargs.1, fun i y hy => (hav (fun i => vs.getD i undef) (fun i x hx => hargs.2 i x hx) i y hy).keep kp (fun _ _ h => h)⟩
  let base := s.heap.length
  let f := z3h σ base
  let ρ2 : Rho := ⟨fun id => if id < base then ρ id else ρ1 (σ.length + (id - base)), ρ.fr⟩
  let h2 := z2e f s.heap 0 hT'
  have fK : ∀ j, j < σ.length → ∃ a, z2d σ j = some (some a) ∧ a < base ∧ f j = a := fun j hj => by
    obtain ⟨a, h1, h2⟩ := y3a hth j hj
    exact ⟨a, h1, h2, by show z3h σ base j = a; simp [z3h, h1]⟩
  have fN : ∀ j, σ.length ≤ j → f j = base + (j - σ.length) := fun j hj => by
    have : z2d σ j = none := by rw [z1v]; exact eDv hj
    show z3h σ base j = _; simp [z3h, this]
  have finj : ∀ a b, f a = f b → a = b := by
    intro a b e
    by_cases ha : a < σ.length
    · obtain ⟨x, x1, x2, x3⟩ := fK a ha
      by_cases hb : b < σ.length
      · obtain ⟨y, y1, y2, y3⟩ := fK b hb
        have : x = y := by rw [← x3, ← y3, e]
        subst this
        exact z8w hinj x1 y1
      · have := fN b (by omega); omega
    · by_cases hb : b < σ.length
      · obtain ⟨y, y1, y2, y3⟩ := fK b hb
        have := fN a (by omega); omega
      · have h1 := fN a (by omega)
        have h2 := fN b (by omega)
        omega
  have hrho : ∀ j M, ρ1 j = some M → ρ2 (f j) = some M := by
    intro j M hM
    by_cases hj : j < σ.length
    · obtain ⟨a, a1, a2, a3⟩ := fK j hj
      have e := b7.rho j (by show j < hT.length; omega)
      rw [hM] at e
      have e2 : (ρ.lent s.heap σ) j = ρ a := by show (match z2d σ j with | some (some a) => ρ a | _ => none) = _; rw [a1]
      rw [a3]
      show (if a < base then ρ a else _) = _
      rw [if_pos a2, ← e2, ← e]
    · rw [fN j (by omega)]
      show (if base + (j - σ.length) < base then _ else ρ1 (σ.length + (base + (j - σ.length) - base))) = _
      rw [if_neg (by omega), show σ.length + (base + (j - σ.length) - base) = j by omega]; exact hM
  have nth1 : ∀ j, j < hT'.length → z0e h2 (f j) = y87 f (z0e hT' j) := fun j hj => by
    have := (y8w f hT' s.heap 0 0 (fun a b _ _ _ _ e => finj a b e)).1 j hj
    rw [eAy] at this; exact this
  have nth2 : ∀ id, (∀ j, j < hT'.length → f j ≠ id) → z0e h2 id = z0e s.heap id := fun id hne =>
    (y8w f hT' s.heap 0 id (fun a b _ _ _ _ e => finj a b e)).2 (fun k hk => by rw [eAy]; exact hne k hk)
  have lenH : base ≤ h2.length := (z8a f hT' s.heap 0).1
  have other : ∀ id M, ρ2 id = some M → (∀ j, j < hT'.length → f j ≠ id) → (z0e h2 id).live = true → id < base ∧ ρ id = some M ∧ (z0e s.heap id).live = true ∧ (ρ.lent s.heap σ).fr M.blk := by
    intro id M hM hne hl
    rw [nth2 id hne] at hl
    have hlt : id < base := by
      rcases eCu id base with h | h
      · exact h
      · rw [x6s _ _ h] at hl; cases hl
    have hM' : ρ id = some M := by
      have : (if id < base then ρ id else ρ1 (σ.length + (id - base))) = some M := hM
      rw [if_pos hlt] at this; exact this
    refine ⟨hlt, hM', hl, .inr ⟨id, M, hM', hl, fun j hj => ?_, rfl⟩⟩
    have hjl : j < σ.length := by rw [z1v] at hj; exact (eAe.1 hj).1
    obtain ⟨a, a1, a2, a3⟩ := fK j hjl
    rw [a1] at hj; cases hj
    exact hne j (by omega) a3
  have mine : ∀ id, (∃ j, j < hT'.length ∧ f j = id) ∨ ∀ j, j < hT'.length → f j ≠ id := fun id => by
    by_cases h : ∃ j, j < hT'.length ∧ f j = id
    · exact .inl h
    · exact .inr fun j hj e => h ⟨j, hj, e⟩
  have rho1 : ∀ j M, j < hT'.length → ρ2 (f j) = some M → ρ1 j = some M := by
    intro j M hj hM
    by_cases hjK : j < σ.length
    · obtain ⟨a, a1, a2, a3⟩ := fK j hjK
      rw [a3] at hM
      have hM : (if a < base then ρ a else _) = some M := hM
      rw [if_pos a2] at hM
      have e := b7.rho j (by show j < hT.length; omega)
      have e2 : (ρ.lent s.heap σ) j = ρ a := by show (match z2d σ j with | some (some a) => ρ a | _ => none) = _; rw [a1]
      rw [e, e2]; exact hM
    · rw [fN j (by omega)] at hM
      have hM : (if base + (j - σ.length) < base then ρ (base + (j - σ.length)) else ρ1 (σ.length + (base + (j - σ.length) - base))) = some M := hM
      rw [if_neg (by omega), show σ.length + (base + (j - σ.length) - base) = j by omega] at hM
      exact hM
  have frEq : ρ1.fr = (ρ.lent s.heap σ).fr := b7.fr
  have own2 : ∀ b, z0f ρ2 h2 b → z0f ρ1 hT' b := by
    intro b hb
    rcases hb with hf | ⟨id, M, hM, hl, rfl⟩
    · exact .inl (by rw [frEq]; exact .inl hf)
    · rcases mine id with ⟨j, hj, rfl⟩ | hne
      · rw [nth1 j hj, z2h] at hl
        exact .inr ⟨j, M, rho1 j M hj hM, hl, rfl⟩
      · exact .inl (by rw [frEq]; exact (other id M hM hne hl).2.2.2)
  have hmono : ∀ id M, ρ id = some M → ρ2 id = some M := fun id M hM => by
    have hlt : id < base := hs.dom id (by rw [hM]; simp)
    show (if id < base then ρ id else _) = _
    rw [if_pos hlt]; exact hM
  have kpAll : z5d (z0f ρ s.heap) (z0f ρ2 h2) w w' :=
    { size := b7.keep.size
      frame := fun b hb hno => b7.keep.frame b hb (fun h => hno (hlo b h))
      own := fun b hb ho => hlo b (b7.keep.own b hb (own2 b ho))
      shape := b7.keep.shape
      drawn := b7.keep.drawn }
  have hheap2 : z0b P ρ2 h2 w' := by
    refine ⟨fun id M hM => ?_, fun i j M M' h1 h2' l1 l2 hb => ?_, fun b hf => eBc (hs.heap.fr b hf) b7.keep.size, fun id M hM hl hf => ?_, hs.heap.gl.keep kpAll⟩
    · rcases mine id with ⟨j, hj, rfl⟩ | hne
      · obtain ⟨o1, o2⟩ := b5.obj j M (rho1 j M hj hM)
        exact ⟨o1, by rw [nth1 j hj]; exact w3u own2 hrho o2⟩
      · by_cases hl : (z0e h2 id).live = true
        · obtain ⟨c1, c2, c3, c4⟩ := other id M hM hne hl
          obtain ⟨o1, o2⟩ := hs.heap.obj id M c2
          refine ⟨eBc o1 b7.keep.size, ?_⟩
          rw [nth2 id hne]
          exact o2.keep kpAll hmono (b7.frs _ c4)
        · by_cases hlt : id < base
          · have hM' : ρ id = some M := by
              have : (if id < base then ρ id else ρ1 (σ.length + (id - base))) = some M := hM
              rw [if_pos hlt] at this; exact this
            refine ⟨eBc (hs.heap.obj id M hM').1 b7.keep.size, ?_⟩
            exact x6q hl
          · exfalso
            have hM' : (if id < base then ρ id else ρ1 (σ.length + (id - base))) = some M := hM
            rw [if_neg hlt] at hM'
            have hd := b6 _ (by rw [hM']; simp)
            refine hne _ hd ?_
            rw [fN _ (by omega)]; omega
    · rcases mine i with ⟨a, ha, rfl⟩ | hni
      · rw [nth1 a ha, z2h] at l1
        rcases mine j with ⟨b, hb', rfl⟩ | hnj
        · rw [nth1 b hb', z2h] at l2
          rw [b5.inj a b M M' (rho1 a M ha h1) (rho1 b M' hb' h2') l1 l2 hb]
        · obtain ⟨c1, c2, c3, c4⟩ := other j M' h2' hnj l2
          exact absurd (by rw [frEq, hb]; exact c4) (b5.sep a M (rho1 a M ha h1) l1)
      · obtain ⟨c1, c2, c3, c4⟩ := other i M h1 hni l1
        rcases mine j with ⟨b, hb', rfl⟩ | hnj
        · rw [nth1 b hb', z2h] at l2
          exact absurd (by rw [frEq, ← hb]; exact c4) (b5.sep b M' (rho1 b M' hb' h2') l2)
        · obtain ⟨d1, d2, d3, d4⟩ := other j M' h2' hnj l2
          exact hs.heap.inj i j M M' c2 d2 c3 d3 hb
    · rcases mine id with ⟨j, hj, rfl⟩ | hne
      · rw [nth1 j hj, z2h] at hl
        exact b5.sep j M (rho1 j M hj hM) hl (by rw [frEq]; exact .inl hf)
      · obtain ⟨c1, c2, c3, c4⟩ := other id M hM hne hl
        exact hs.heap.sep id M c2 c3 hf
  refine ⟨ρ2, v, w', fr, b1, b2, b3, y6j own2 hrho b4, ⟨hheap2, fun t => (hs.env t).keep kpAll hmono, hs.size, fun id hid => ?_⟩, rfl, ?_⟩
  · show id < h2.length
    by_cases hlt : id < base
    · omega
    · have hid' : (if id < base then ρ id else ρ1 (σ.length + (id - base))) ≠ none := hid
      rw [if_neg hlt] at hid'
      have hd := b6 _ hid'
      have := (z8a f hT' s.heap 0).2 _ hd
      rw [eAy, fN _ (by omega)] at this
      show id < (z2e f s.heap 0 hT').length
      omega
  · exact { os := b7.os, tape := b7.tape, output := b7.output, keep := kpAll, rho := fun id hid => by
              show (if id < base then ρ id else _) = ρ id
              rw [if_pos (by show id < s.heap.length; have : id < n := hid; omega)],
            fr := rfl, frs := fun b hf => b7.frs b (.inl hf) }⟩
end frame
mutual
def rid:AV→List Nat
 | .bptr id _=>[id]
 | .ptr id _ _=>[id]
 | .slice id _ _ _ _=>[id]
 | .map id=>[id]
 | .yld id=>[id]
 | .clo _ fs cs=>w88 fs++w88 cs
 | .iface _ v=>rid v
 | .agg l=>w88 l
 | .tuple l=>w88 l
 |_=>[]
def w88:List AV→List Nat
 |[]=>[]
 |x::l=>rid x++w88 l
end
def u0c:List (List AV)→List Nat
 |[]=>[]
 |x::l=>w88 x++u0c l
def t5a:List (Nat×AV)→List Nat
 |[]=>[]
 |(_,x)::l=>rid x++t5a l
def ridO:AO→List Nat
 | .box l=>w88 l
 | .arow es=>u0c es
 | .loop _ _ _ _ _ env=>t5a env
 |_=>[]
def u5y:List Nat→List Nat→List Nat
 |acc,[]=>acc
 |acc,x::l=>bif y3x x acc then u5y acc l else u5y (acc++[x]) l
def v5l (h:List AO):Nat→Nat→List Nat→List Nat
 |0,_,l=>l
 |f+1,i,l=>match z2d l i with
  |some a=>v5l h f (i+1) (u5y l (ridO (z0e h a)))
  |none=>l
def idx:List Nat→Nat→Nat
 |[],_=>0
 |x::l,a=>bif eAk x a then 0 else idx l a+1
def z6j:List Nat→List (Option Nat)
 |[]=>[]
 |x::l=>some x::z6j l
def x1p (h:List AO) (b:List Nat):List Nat→List AO
 |[]=>[]
 |a::l=>y87 (idx b) (z0e h a)::x1p h b l
mutual
def inM (T:List Nat):AV→Bool
 | .bptr id _=>y3x id T
 | .ptr id _ _=>y3x id T
 | .slice id _ _ _ _=>y3x id T
 | .map id=>y3x id T
 | .yld id=>y3x id T
 | .clo _ fs cs=>w5b T fs&&w5b T cs
 | .iface _ v=>inM T v
 | .agg l=>w5b T l
 | .tuple l=>w5b T l
 |_=>true
def w5b (T:List Nat):List AV→Bool
 |[]=>true
 |x::l=>inM T x&&w5b T l
end
def w95 (T:List Nat):List (List AV)→Bool
 |[]=>true
 |x::l=>w5b T x&&w95 T l
def u7u (T:List Nat):List (Nat×AV)→Bool
 |[]=>true
 |(_,x)::l=>inM T x&&u7u T l
def t5m (T:List Nat):AO→Bool
 | .box l=>w5b T l
 | .arow es=>w95 T es
 | .loop _ _ _ _ _ env=>u7u T env
 |_=>true
def okM (h:List AO) (T:List Nat) (args:List AV):Bool:=
 w5b T args&&(w1r (z6j T)&&T.all fun a=>eBt a h.length&&t5m T (z0e h a))
theorem z7v {T:List Nat}:∀ {l:List AV},w5b T l=true→∀ (i:Nat) (x:AV),l[i]?=some x→inM T x=true
 |[],_,i,x,h=>by simp at h
 |y::l,h,i,x,a=>by
  simp only [w5b,eAf] at h
  cases i with
  |zero=>simp at a; subst a; exact h.1
  |succ i=>exact z7v h.2 i x (by simpa using a)
theorem x4b {T:List Nat}:∀ {l:List (List AV)},w95 T l=true→∀ (i:Nat) (x:List AV),l[i]?=some x→w5b T x=true
 |[],_,i,x,h=>by simp at h
 |y::l,h,i,x,a=>by
  simp only [w95,eAf] at h
  cases i with
  |zero=>simp at a; subst a; exact h.1
  |succ i=>exact x4b h.2 i x (by simpa using a)
theorem x89 {T:List Nat}:∀ {l:List (Nat×AV)},u7u T l=true→∀ t,inM T (z0z l t)=true
 |[],_,t=>rfl
 |(k,y)::l,h,t=>by
  simp only [u7u,eAf] at h
  simp only [z0z]
  cases eAk k t with
  |true=>exact h.1
  |false=>exact x89 h.2 t
def Rho.on (ρ:Rho) (T:List Nat):Rho:=⟨fun id=>if y3x id T=true then ρ id else none,ρ.fr⟩
theorem y3t {ρ:Rho} {T:List Nat} {id:Nat} {L:Loc}:ρ.on T id=some L↔y3x id T=true∧ρ id=some L:=by
 show (if y3x id T=true then ρ id else none)=some L↔_
 split
 ·rename_i h; simp [h]
 ·rename_i h; simp [h]
theorem z0q.on {T:List Nat} {ρ:Rho} {O:Nat→Prop} {w:World} {x:AV} {v:Value} (h:z0q ρ O w x v):inM T x=true→z0q (ρ.on T) O w x v:=by
 induction h with
 |bot v=>intro _; exact .bot v
 |d h=>intro _; exact .d h
 |bptr id off L h=>intro e; exact .bptr id off L (y3t.2 ⟨e,h⟩)
 |ptr id i off L h=>intro e; exact .ptr id i off L (y3t.2 ⟨e,h⟩)
 |lptr r off b o j hO cell g B=>intro _; exact .lptr r off b o j hO cell g B
 |wptr es off b o z j hO s g=>intro _; exact .wptr es off b o z j hO s g
 |perm es u v C h=>intro _; exact .perm es u v C h
 |slice id z off len cap L a c h s F g l=>intro e; exact .slice id z off len cap L a c (y3t.2 ⟨e,h⟩) s F g l
 |nils id z off cap a g=>intro _; exact .nils id z off cap a g
 |map id L h=>intro e; exact .map id L (y3t.2 ⟨e,h⟩)
 |yld id L h=>intro e; exact .yld id L (y3t.2 ⟨e,h⟩)
 |clo fn G cs y A E g I H q p=>
  intro e
  simp only [inM,eAf] at e
  exact .clo fn G cs y A E g (fun i x f=>q i x f (z7v e.1 i x f)) (fun i x f=>p i x f (z7v e.2 i x f))
 |iface t x v h k=>intro e; exact .iface t x v (k (by simpa only [inM] using e))
 |agg m n l h k=>intro e; exact .agg m n l fun i x f=>k i x f (z7v (by simpa only [inM] using e) i x f)
 |tuple m n l h k=>intro e; exact .tuple m n l fun i x f=>k i x f (z7v (by simpa only [inM] using e) i x f)
theorem z1e.on {P:Program} {T:List Nat} {ρ:Rho} {O:Nat→Prop} {w:World} {L:Loc} {o:AO} (s:t5m T o=true) (h:z1e P ρ O w L o):z1e P (ρ.on T) O w L o:=by
 cases o with
 |dead=>trivial
 |row es=>exact h
 |map es=>exact h
 |box l=>
  obtain ⟨a,c,t,k,d⟩:=h
  exact ⟨a,c,t,k,fun j x b=>let ⟨v,n,p⟩:=d j x b; ⟨v,n,p.on (z7v s j x b)⟩⟩
 |arow es=>
  obtain ⟨A,c,t,k,q,d⟩:=h
  exact ⟨A,c,t,k,q,fun i r j x e b=>let ⟨v,n,B,p⟩:=d i r j x e b; ⟨v,n,B,p.on (z7v (x4b s i r e) j x b)⟩⟩
 |loop st C g pos nt env=>
  obtain ⟨x,z,y,m,u,tm,ds,f,k,q,d⟩:=h
  exact ⟨x,z,y,m,u,tm,ds,f,k,q,fun t=>(d t).on (x89 s t)⟩
theorem z8e:∀ (T:List Nat) (i:Nat),z2d (z6j T) i=(T[i]?).map some
 |[],i=>by simp [z6j,z2d]
 |x::l,i=>by
  cases i with
  |zero=>simp [z6j,z2d]
  |succ i=>simp [z6j,z2d,z8e l i]
theorem x3h:∀ T:List Nat,(z6j T).length=T.length
 |[]=>rfl
 |x::l=>by simp [z6j,x3h l]
theorem x9a:∀ {T:List Nat} {a:Nat},y3x a T=true→T[idx T a]?=some a
 |[],a,h=>by cases h
 |x::l,a,h=>by
  simp only [y3x,eBh] at h
  simp only [idx]
  cases b:eAk x a with
  |true=>have:=eAg b; subst this; simp
  |false=>
   rcases h with h|h
   ·have:=eAg h; subst this; rw [eGj] at b; cases b
   ·simpa using x9a h
theorem y2q (h:List AO) (b:List Nat):∀ l,(x1p h b l).length=l.length
 |[]=>rfl
 |a::l=>by simp [x1p,y2q h b l]
theorem x33 (h:List AO) (b:List Nat):∀ (l:List Nat) (i a:Nat),l[i]?=some a→z0e (x1p h b l) i=y87 (idx b) (z0e h a)
 |[],i,a,c=>by simp at c
 |x::l,i,a,c=>by
  cases i with
  |zero=>simp at c; subst c; rfl
  |succ i=>exact x33 h b l i a (by simpa using c)
theorem y1k {n:Nat}:∀ {T:List Nat},(∀ a∈T,a<n)→z6w n (z6j T)=true
 |[],_=>rfl
 |x::l,h=>by
  simp only [z6j,z6w,eAf]
  exact ⟨eCi (h x (eBv ..)),y1k fun a b=>h a (eCq _ b)⟩
theorem x32 {P:Program} {n:Nat} {s:AS} (V:n≤s.heap.length) {g:FuncId} {args:List AV} {T:List Nat} (A:okM s.heap T args=true) {r:AV} {v:List AO} (B:(x1p s.heap T T).length≤v.length)
  (W:z3s P g (x6f (idx T) args) (x1p s.heap T T) r v):z5o P n g args s (z8j (z3h (z6j T) s.heap.length) r) ⟨s.env,z2e (z3h (z6j T) s.heap.length) s.heap 0 v,s.nt⟩:=by
 simp only [okM,eAf,eBm] at A
 obtain ⟨u,p,q⟩:=A
 have F:∀ a∈T,a<s.heap.length:=fun a hm=>eAl (q a hm).1
 refine y7b V p (y1k F) B (fun ρ w t=>?_) W
 have c:∀ {i:Nat} {M:Loc},(ρ.lent s.heap (z6j T)) i=some M→∃ a,T[i]?=some a∧ρ a=some M∧z0e (x1p s.heap T T) i=y87 (idx T) (z0e s.heap a):=fun {i M} d=>by
  obtain ⟨a,k,m⟩:=z4g (ρ:=ρ) (σ:=z6j T) d
  rw [z8e] at k
  cases o:T[i]? with
  |none=>rw [o] at k; cases k
  |some b=>rw [o] at k; cases k; exact ⟨a,rfl,m,x33 _ _ _ _ _ o⟩
 have e:∀ j M,ρ.on T j=some M→(ρ.lent s.heap (z6j T)) (idx T j)=some M:=fun j M d=>by
  obtain ⟨k,m⟩:=y3t.1 d
  show (match z2d (z6j T) (idx T j) with|some (some a)=>ρ a|_=>none)=some M
  rw [z8e,x9a k]; exact m
 have f:∀ b,z0f (ρ.lent s.heap (z6j T)) (x1p s.heap T T) b→z0f ρ s.heap b:=by
  rintro b ((e|⟨a,M,d,l,_,rfl⟩)|⟨i,M,d,l,rfl⟩)
  ·exact .inl e
  ·exact .inr ⟨a,M,d,l,rfl⟩
  ·obtain ⟨a,_,m,K⟩:=c d
   rw [K,z2h] at l
   exact .inr ⟨a,M,m,l,rfl⟩
 refine ⟨by rw [y2q,x3h],f,⟨fun i M d=>?_,fun i j M O k m R Q I=>?_,fun b e=>?_,fun i M d l e=>?_,t.gl.sub f⟩,by rw [z2l,eBp],fun fv H i y z=>?_⟩
 ·obtain ⟨a,k,m,K⟩:=c d
  obtain ⟨U,S⟩:=t.obj a M m
  refine ⟨U,?_⟩
  rw [K]
  exact w3u f e (S.on (q a (eAn k)).2)
 ·obtain ⟨a,N,C,L⟩:=c k
  obtain ⟨b,Z,Y,X⟩:=c m
  rw [L,z2h] at R
  rw [X,z2h] at Q
  have:=t.inj a b M O C Y R Q I
  subst this
  exact z8w p (by rw [z8e,N]; rfl) (by rw [z8e,Z]; rfl)
 ·rcases e with e|⟨a,M,d,l,_,rfl⟩
  ·exact t.fr b e
  ·exact (t.obj a M d).1
 ·obtain ⟨a,N,C,L⟩:=c d
  rw [L,z2h] at l
  rcases e with e|⟨a',O,J,G,E,I⟩
  ·exact t.sep a M C l e
  ·have:=t.inj a' a O M J C G l I
   subst this
   exact E i (by rw [z8e,N]; rfl)
 ·rw [z2l,eAj] at z
  cases o:args[i]? with
  |none=>rw [o] at z; cases z
  |some x=>
   rw [o] at z; cases z
   exact y6j (fun _ h=>h) e ((H i x o).on (z7v u i x o))
structure SS where
 s:AS
 K:List (List CK)
def y6c:AS→Nat→AV→AS
 |⟨env,a,nt⟩,d,v=>⟨u0g env d v,a,nt⟩
def putR:SS→Option Tmp→AV→SS
 |⟨⟨env,a,nt⟩,K⟩,dst,r=>⟨⟨y4g env dst r,a,nt⟩,K⟩
def x9b:SS→List AO→List (List CK)→SS
 |⟨⟨env,_,nt⟩,_⟩,h,K=>⟨⟨env,h,nt⟩,K⟩
def x9d (A:Alg) (β:Type) (all:List Oper) (s:AS) (g:Option (Nat×Bool)) (k:Bool→AS→A.Ω β):A.Ω β:=
 match g with
 |none=>k true s
 |some (j,a)=>match z2d all j with
  |some o=>match o.dst with
   |some d=>match z0z s.env d with
    | .d (.bool t)=>A.ask β t (k (true==a) (y6c s d (.d (.bool true)))) (k (false==a) (y6c s d (.d (.bool false))))
    | .tuple []=>k false s
    |_=>A.no β 21
   |none=>A.no β 22
  |none=>A.no β 23
def v8b (A:Alg) (β:Type) (s:AS) (x:Operand) (k:Bool→AS→A.Ω β):A.Ω β:=
 match x with
 | .tmp d=>match z0z s.env d with
  | .d (.bool t)=>A.ask β t (k true (y6c s d (.d (.bool true)))) (k false (y6c s d (.d (.bool false))))
  |_=>A.no β 24
 |x=>match z0m s.env x with
  | .d (.bool t)=>A.ask β t (k true s) (k false s)
  |_=>A.no β 25
structure Orc (A:Alg) where
 call:(β:Type)→Nat→List Bool→Nat→Nat→FuncId→List AV→SS→Option ((AV→SS→A.Ω β)→A.Ω β)
 pure:(β:Type)→Nat→List Bool→Nat→FuncId→List AV→SS→Option ((AV→A.Ω β)→A.Ω β)
 loop:(β:Type)→Nat→Nat→List Bool→SS→Option ((AX→SS→A.Ω β)→A.Ω β)
 join:(β:Type)→Nat→Nat→List Bool→((γ:Type)→(AX→SS→A.Ω γ)→A.Ω γ)→(AX→SS→A.Ω β)→A.Ω β
 view:(β:Type)→Nat→Nat→List Bool→SS→(SS→A.Ω β)→A.Ω β
abbrev y8s (A:Alg):=(β:Type)→Nat→Nat→List Bool→Code→SS→(AX→SS→A.Ω β)→A.Ω β
def x2a (A:Alg) (E:Env) (rec:y8s A) (β:Type) (g:FuncId) (args:List AV) (h:List AO) (K:List (List CK)) (k:AV→List AO→List (List CK)→A.Ω β):A.Ω β:=
 match E.B g with
 |some i=>bif eAz args.length i.nt then rec β h.length g [] i.body ⟨⟨v0o 0 args,h,i.nt⟩,K⟩ fun e s=>match e with
  | .exit _=>A.no β 31
  |_=>match u0d E.T s.s i.res with
   |some r=>k r s.s.heap s.K
   |none=>A.no β 32
  else A.no β 33
 |none=>A.no β 34
def w6n (A:Alg) (E:Env) (rec:y8s A) (β:Type) (g:FuncId) (args:List AV) (a:SS) (k:AV→SS→A.Ω β):A.Ω β:=
 x2a A E rec β g args a.s.heap a.K fun r h K=>bif E.fz g then k (z3t h (fun id=>eBt id a.s.heap.length) r) (x9b a (y1n h a.s.heap.length) a.K) else k r (x9b a h K)
def v1k (A:Alg) (E:Env) (rec:y8s A) (β:Type) (g:FuncId) (args:List AV) (a:SS) (T:List Nat) (k:AV→SS→A.Ω β):A.Ω β:=
 bif okM a.s.heap T args then x2a A E rec β g (x6f (idx T) args) (x1p a.s.heap T T) [] fun r h _=>bif E.fz g then
   k (z8j (z3h (z6j T) a.s.heap.length) (z3t h (fun id=>eBt id T.length) r)) (x9b a (z2e (z3h (z6j T) a.s.heap.length) a.s.heap 0 (y1n h T.length)) a.K)
  else k (z8j (z3h (z6j T) a.s.heap.length) r) (x9b a (z2e (z3h (z6j T) a.s.heap.length) a.s.heap 0 h) a.K)
 else w6n A E rec β g args a k
def x2b (A:Alg) (E:Env) (O:Orc A) (rec:y8s A) (β:Type) (c:Nat) (pos:List Bool) (b n:Nat) (g:FuncId) (args:List AV) (a:SS) (k:AV→SS→A.Ω β):A.Ω β:=
 match O.call β c pos b n g args a with
 |some t=>t k
 |none=>bif E.cl then v1k A E rec β g args a (v5l a.s.heap 2000 0 (u5y [] (w88 args))) k
  else w6n A E rec β g args a k
def v3d (new:Nat):List (Nat×AO)→Bool
 |[]=>false
 |(i,_)::l=>eAk i new||v3d new l
def updK (E:Env) (K:List (List CK)) (new:Nat) (u:List (Nat×AO)) (op:Op):List (List CK):=
 match newK E op with
 |some a=>bif v3d new u then u7n K new a else K
 |none=>K
def x3g (A:Alg) (β:Type) (p:Prim) (a:IntKind) (i:Int) (d:Nat) (s:AS) (k:AS→A.Ω β):Nat→Nat→A.Ω β
 |0,_=>A.no β 42
 |1,j=>A.need β (p.cmp .eql i (Int.ofNat j)) (k (y6c s d (.d (.int a (Int.ofNat j)))))
 |m+2,j=>A.ask β (p.cmp .eql i (Int.ofNat j)) (k (y6c s d (.d (.int a (Int.ofNat j))))) (x3g A β p a i d s k (m+1) (j+1))
def t5l (E:Env):Op→Option (Nat×Nat)
 | .indexAddr t _ (.tmp d)=>match E.T t with
  |some ti=>match ti.desc with
   | .arr n _ _=>bif eAz n 16 then some (d,n) else none
   |_=>none
  |none=>none
 | .index t _ (.tmp d)=>match E.T t with
  |some ti=>match ti.desc with
   | .arr n _ _=>bif eAz n 16 then some (d,n) else none
   |_=>none
  |none=>none
 |_=>none
def u8l (s:AS):Op→Bool
 | .indexAddr _ x _=>match z0m s.env x with
  | .bptr id _=>match z0e s.heap id with
   | .row _=>true
   |_=>false
  | .wptr _ _=>true
  |_=>false
 |_=>false
def ixK (A:Alg) (β:Type) (p:Prim) (E:Env) (s:AS) (op:Op) (k:AS→A.Ω β):A.Ω β:=
 match bif u8l s op then none else t5l E op with
 |some (d,n)=>match z0z s.env d with
  | .d (.int a i)=>x3g A β p a i d s k n 0
  |_=>A.no β 43
 |none=>k s
def t09 (E:Env):List Oper→Bool
 |[]=>false
 |o::l=>match t5l E o.op with
  |some _=>true
  |none=>t09 E l
def v68 (a:Nat):List Oper→Bool
 |[]=>false
 |o::l=>match o.op,o.dst with
  | .indexAddr _ _ _,some d=>eAk d a||v68 a l
  |_,_=>v68 a l
def y47 (d:Nat) (all:List Oper):List Oper→Bool
 |[]=>false
 |o::l=>match o.op with
  | .store _ (.tmp a) (.tmp x)=>(eAk x d&&v68 a all)||y47 d all l
  |_=>y47 d all l
def v66 (d:Nat):List Operand→Bool
 |[]=>false
 | .tmp x::l=>eAk x d||v66 d l
 |_::l=>v66 d l
def x9c (a:FuncId→Bool) (d:Nat):List Oper→Bool
 |[]=>false
 |o::l=>match o.op with
  | .call ⟨.value (.func g),args,_⟩=>(a g&&v66 d args.toList)||x9c a d l
  |_=>x9c a d l
def w42 (d:Nat):List (Nat×Operand)→Bool
 |[]=>false
 |(_, .tmp x)::l=>eAk x d||w42 d l
 |_::l=>w42 d l
def y9c (rec:Nat→Bool) (d:Nat):List Oper→Bool
 |[]=>false
 |o::l=>match o.op,o.dst with
  | .buildSlice _ _ a,some d2=>(w42 d a.toList&&rec d2)||y9c rec d l
  |_,_=>y9c rec d l
def x1x (a:FuncId→Bool) (all:List Oper):Nat→Nat→Bool
 |0,d=>x9c a d all
 |f+1,d=>x9c a d all||y9c (x1x a all f) d all
def v00 (a:FuncId→Bool) (all:List Oper) (o:Oper):Bool:=
 match o.op,o.dst with
 | .buildSlice _ (_+1) _,some d=>x1x a all 2 d||(a 1000000&&y9c (fun _=>true) d all)
 | .call ⟨.builtin .append,_,_⟩,some d=>y47 d all all||(!(a 1000003)&&x1x a all 2 d)
 | .buildSlice _ 0 _,some d=>y47 d all all||x1x a all 2 d||(a 1000000&&y9c (fun _=>true) d all)
 |_,_=>false
def v67 (x:Nat):List Oper→Bool
 |[]=>false
 |o::l=>match o.op,o.dst with
  | .buildSlice _ _ _,some d=>eAk d x||v67 x l
  |_,_=>v67 x l
def v3e (all:List Oper):List Operand→Bool
 | .tmp x::_=>v67 x all
 |_=>false
def v0d (a:Bool) (all:List Oper) (o:Oper):List D:=
 match o.op,o.dst with
 | .call ⟨.builtin .append,args,_⟩,some d=>bif a then (bif y9c (fun _=>true) d all then [.nilp, .nilp] else bif v3e all args.toList then [.nilp, .nilp, .nilp] else []) else []
 |_,_=>[]
def orR:List D→List D→List D
 |[],r=>r
 |x::l,_=>x::l
def w7g (all:List Oper) (x:Nat):List Oper→Bool
 |[]=>false
 |o::l=>match o.op,o.dst with
  | .call ⟨.builtin .append,args,_⟩,some d=>eAk d x&&v3e all args.toList||w7g all x l
  |_,_=>w7g all x l
def v94 (all:List Oper):List Operand→Bool
 | .tmp x::_=>w7g all x all
 |_=>false
def y9t (b a:Bool) (all:List Oper) (o:Oper):List D:=
 match o.op with
 | .call ⟨.builtin .append,args,_⟩=>bif b&&v94 all args.toList then [.nilp, .nilp, .nilp, .nilp, .nilp] else v0d a all o
 |_=>v0d a all o
def u8j (p:Prim) (env:List (Nat×AV)) (op:Op):Bool:=
 match op with
 | .call ⟨.builtin .append,args,_⟩=>match z06 env args.toList with
  |[_,x]=>p.leN (z7i p x) 0
  |_=>false
 |_=>false
def w6o (A:Alg) (β:Type) (p:Prim) (f:Bool) (e:List D) (E:Env) (new:Nat) (b:SS) (o:Oper) (k:SS→A.Ω β) (s:AS):A.Ω β:=
 v7q A β p f E b.K s.env s.heap o.op fun q r d=>match z0t p E.T E.G s.env s.heap new q (orR e r) d o.op with
  |some a=>A.need β a.c (k ⟨z4p s o.dst a.v a.u,updK E b.K new a.u o.op⟩)
  |none=>A.no β 41
def y89 (A:Alg) (β:Type) (p:Prim) (c:Bool) (b:List D) (E:Env) (new:Nat) (a:SS) (o:Oper) (k:SS→A.Ω β):A.Ω β:=
 ixK A β p E a.s o.op fun s=>bif u2i b then A.ask β (u8j p s.env o.op) (w6o A β p c b E new a o k s) (w6o A β p c [] E new a o k s)
  else w6o A β p c b E new a o k s
def opK (A:Alg) (p:Prim) (E:Env) (O:Orc A) (rec:y8s A) (β:Type) (n t:Nat) (pos:List Bool) (m:Nat) (all:List Oper) (a:SS) (o:Oper) (k:SS→A.Ω β):A.Ω β:=
 bif z3i a.s.nt o.dst then
  x9d A β all a.s o.guard fun b s=>match b with
  |false=>k ⟨z4p s o.dst (.tuple []) [],a.K⟩
  |true=>match o.op with
   | .call ⟨.value f,args,_⟩=>match z0m s.env f with
    | .clo (.func g) first c=>x2b A E O rec β t pos m n g (first++z06 s.env args.toList++c) ⟨s,a.K⟩ fun r s1=>k (putR s1 o.dst r)
    | .yld id=>match z0e s.heap id with
     | .loop .ready v g pos nt env=>match E.A g pos with
      |some (.rangeFunc _ h j e)=>bif (h.toList.all fun q=>eBt q nt)&&eAk args.size h.size then
        rec β s.heap.length g (false::pos) j ⟨⟨x3j env h.toList (z06 s.env args.toList),z04 s.heap id .dead,nt⟩,a.K⟩ fun u s1=>match u with
        | .normal=>rec β s.heap.length g (true::pos) e s1 fun i l=>k ⟨⟨y4g s.env o.dst (.d (.bool (isN i))),z04 l.s.heap id (.loop (y8b i) (z4b i) g pos nt env),s.nt⟩,l.K⟩
        |_=>A.no β 51
       else A.no β 52
      |_=>A.no β 53
     |_=>A.no β 54
    |_=>A.no β 55
   |_=>y89 A β p (v00 E.dt all o) (y9t (!(E.dt 1000004)) E.tk all o) E s.heap.length ⟨s,a.K⟩ o k
 else A.no β 56
def v2z (A:Alg) (p:Prim) (E:Env) (O:Orc A) (rec:y8s A) (β:Type) (n a:Nat) (pos:List Bool) (all:List Oper):Nat→List Oper→SS→(SS→A.Ω β)→A.Ω β
 |_,[],s,k=>k s
 |i,o::l,s,k=>opK A p E O rec β n a pos i all s o fun s'=>v2z A p E O rec β n a pos all (i+1) l s' k
def w76 (l:List AV) (id:Nat):Bool:=y3x id (y46 l)
def okR (h:List AO) (l:List AV):Bool:=w94 (w76 l) l&&(y46 l).all (fun id=>eBt id h.length&&w1u (z0e h id))
def w4e (ops:List Oper) (base i:Nat) (l:List Nat):Bool:=l.all fun id=>eBt id base||(eBt (id - base) i&&(z7q (y1j ops []) i).testBit (id - base))
def u8x (A:Alg) (p:Prim) (E:Env) (O:Orc A) (rec:y8s A) (β:Type) (d:Nat) (pos:List Bool) (all:List Oper) (base i:Nat) (c:SS) (o:Oper) (k:SS→A.Ω β):A.Ω β:=
 bif z3i c.s.nt o.dst then
  x9d A β all c.s o.guard fun b s=>match b with
  |false=>k ⟨z4p s o.dst (.tuple []) [],c.K⟩
  |true=>bif w4e all base i (z38 s.env o.op) then match o.op with
   | .call ⟨.value f,args,_⟩=>match z0m s.env f with
    | .clo (.func g) first a=>match O.pure β d pos i g (first++z06 s.env args.toList++a) ⟨s,c.K⟩ with
     |some t=>bif y13 (first++a) then t fun x=>k ⟨z4p s o.dst x [],c.K⟩ else A.no β 61
     |none=>bif y13 (first++z06 s.env args.toList++a) then x2a A E rec β g (first++z06 s.env args.toList++a) [] [] fun r h _=>
       bif z9y (z3t h (fun _=>false) r) then k ⟨z4p s o.dst (z3t h (fun _=>false) r) [],c.K⟩ else A.no β 62
      else A.need β (bL p s.heap (first++z06 s.env args.toList++a)).1 (match O.pure β d pos i g (bL p s.heap (first++z06 s.env args.toList++a)).2 ⟨s,c.K⟩ with
       |some t=>bif y13 (bL p s.heap (first++z06 s.env args.toList++a)).2 then t fun x=>bif y3z x then k ⟨z4p s o.dst x [],c.K⟩ else A.no β 63 else A.no β 67
       |none=>bif E.cl&&okR s.heap (first++z06 s.env args.toList++a) then
         x2a A E rec β g (first++z06 s.env args.toList++a) (z4f s.heap (w76 (first++z06 s.env args.toList++a)) 0 s.heap) c.K fun r h _=>
          bif inT (w76 (first++z06 s.env args.toList++a)) (z3t h (fun id=>eBt id s.heap.length) r)&&eqH (y1n h s.heap.length) (z4f s.heap (w76 (first++z06 s.env args.toList++a)) 0 s.heap) then
           k ⟨z4p s o.dst (z3t h (fun id=>eBt id s.heap.length) r) [],c.K⟩ else A.no β 80
        else x2a A E rec β g (bL p s.heap (first++z06 s.env args.toList++a)).2 [] [] fun r h _=>
        bif y3z (z3t h (fun _=>false) r) then k ⟨z4p s o.dst (z3t h (fun _=>false) r) [],c.K⟩ else A.no β 68)
    |_=>A.no β 64
   |_=>y89 A β p (v00 E.dt all o) (y9t (!(E.dt 1000004)) E.tk all o) E (base+i) ⟨s,c.K⟩ o k
   else A.no β 65
 else A.no β 66
def x6o (A:Alg) (p:Prim) (E:Env) (O:Orc A) (rec:y8s A) (β:Type) (a:Nat) (pos:List Bool) (all:List Oper) (base:Nat):List (List Nat)→Nat→List Oper→SS→(SS→A.Ω β)→A.Ω β
 |_,_,[],s,k=>k s
 |acc,i,o::l,s,k=>bif x8i all acc i o (z38 s.s.env o.op) then u8x A p E O rec β a pos all base i s o fun s'=>x6o A p E O rec β a pos all base (acc++[z38 s.s.env o.op]) (i+1) l s' k else A.no β 69
def x64:List Oper→Bool
 |[]=>false
 |o::l=>match o.guard with
  |some _=>true
  |none=>x64 l
def t1h (A:Alg) (β:Type) (p:Prim) (E:Env) (x:w2p) (e:SS) (k:SS→A.Ω β):A.Ω β:=
 match z0z e.s.env x.a,z0z e.s.env x.b,z0m e.s.env (.const x.c) with
 | .map id, .d kd, .d (.int g n)=>match z0e e.s.heap id,E.T x.t with
  | .map es,some ti=>match ti.desc,y1h x.bop with
   | .map _ _ ez, .arith=>w1x A β p E x.t e.s.heap (.map id) (.d kd) fun q r _=>match z67 q r ez with
    | .int f o=>bif (f==g)&&(eBt x.dL e.s.nt&&(eBt x.dB e.s.nt&&(eBt x.dM e.s.nt&&(eBt x.dX e.s.nt&&eBt id e.s.heap.length)))) then
      k ⟨w1s x e.s id (.int f o) (.int f (p.ar x.bop f o n)) (u7j p es q r kd (.int f (p.ar x.bop f o n))),e.K⟩ else A.no β 74
    |_=>A.no β 75
   |_,_=>A.no β 76
  |_,_=>A.no β 77
 |_,_,_=>A.no β 78
def sym (A:Alg) (p:Prim) (E:Env) (O:Orc A):Nat→y8s A
 |0,β,_,_,_,_,_,_=>A.no β 71
 |f+1,β,n,g,pos,c,d,k=>match c with
  | .skip=>k .normal d
  | .label _=>k .normal d
  | .exit id=>k (.exit id) d
  | .ret=>k .ret d
  | .seq a b=>sym A p E O f β n g (false::pos) a d fun e s'=>match e with
   | .normal=>sym A p E O f β n g (true::pos) b s' k
   |e=>k e s'
  | .cond c a b=>O.join β n g pos (fun γ k=>v8b A γ d.s c fun x s=>match x with
   |true=>sym A p E O f γ n g (false::pos) a ⟨s,d.K⟩ k
   |false=>sym A p E O f γ n g (true::pos) b ⟨s,d.K⟩ k) k
  | .block id c=>O.join β n g pos (fun γ k=>sym A p E O f γ n g (false::pos) c d fun e s'=>match e with
   | .exit j=>bif eAk j id then k .normal s' else k (.exit j) s'
   |e=>k e s') k
  | .scope c=>sym A p E O f β n g (false::pos) c d k
  | .loop c=>match O.loop β n g pos d with
   |some t=>t k
   |none=>sym A p E O f β n g (false::pos) c d fun e s'=>match e with
    | .normal=>sym A p E O f β n g pos (.loop c) s' k
    |e=>k e s'
  | .region _ ops false=>bif x64 ops.toList||t09 E ops.toList then O.join β n g pos (fun γ k=>O.view γ n g pos d fun d=>v2z A p E O (sym A p E O f) γ n g pos ops.toList 0 ops.toList d fun s'=>k .normal s') k
    else O.view β n g pos d fun d=>v2z A p E O (sym A p E O f) β n g pos ops.toList 0 ops.toList d fun s'=>k .normal s'
  | .region _ ops true=>bif y8f ops.toList&&z78 ops.toList then O.view β n g pos d fun d=>match v7d ops.toList with
    |none=>bif E.tl then x6o A p E O (sym A p E O f) β g pos ops.toList d.s.heap.length [] 0 (ops.toList.take (y73 E.tk E.cl ops.toList)) d fun s1=>
       v2z A p E O (sym A p E O f) β n g pos ops.toList (y73 E.tk E.cl ops.toList) (ops.toList.drop (y73 E.tk E.cl ops.toList)) s1 fun s'=>k .normal s'
      else x6o A p E O (sym A p E O f) β g pos ops.toList d.s.heap.length [] 0 ops.toList d fun s'=>k .normal s'
    |some (pre,x)=>bif y5d ops.toList then x6o A p E O (sym A p E O f) β g pos ops.toList d.s.heap.length [] 0 pre d fun s'=>t1h A β p E x s' fun i=>k .normal i else A.no β 79
   else A.no β 72
  | .rangeFunc q u r l=>match z0m d.s.env q with
   | .clo (.func o) first captured=>x2b A E O (sym A p E O f) β g pos 0 (d.s.heap.length+1) o (first++[.yld d.s.heap.length]++captured) ⟨⟨d.s.env,z04 d.s.heap d.s.heap.length (.loop .ready none g pos d.s.nt d.s.env),d.s.nt⟩,d.K⟩ fun _ h=>
    match z0e h.s.heap d.s.heap.length with
    | .loop st m _ _ _ _=>match st with
     | .busy=>A.no β 73
     |_=>match y0s h.s (z04 h.s.heap d.s.heap.length .dead) m with
      |some (e,s')=>k e ⟨s',h.K⟩
      |none=>A.no β 74
    |_=>A.no β 75
   |_=>A.no β 76
  |_=>A.no β 77
structure EnvOk (P:Program) (E:Env):Prop where
 ti:y1d P E.T
 gl:GOk P E.G
 fn:∀ g i,E.B g=some i→∃ fn,P.funcs[g]?=some fn∧fn.body=some i.body∧fn.ntmps=i.nt∧fn.results.toList=i.res∧z3g P g
 code:∀ g pos c,E.A g pos=some c→z05 P g pos=some c
 mixed:P.follows .mixedOrders=true
theorem y5h {E:Env} {β:Type} {t:TypeId} {h:List AO} {m k:AV} {c:Bool→List D→List AV→Option β} {b:β} (a:w1x opt β std E t h m k c=some b):∃ q r ra,(y2f std E.T t h m k).ok q r ra∧c q r ra=some b:=by
 unfold w1x at a
 unfold y2f
 split at a
 ·rename_i ti w
  simp only [w]
  split at a
  ·rename_i ks ka ez kd n
   split at a
   ·obtain ⟨f,a⟩:=z6a a
    refine ⟨false,[],[], .inl ⟨?_,rfl⟩,a⟩
    simp only [z34,n,f,cond_true]
   ·rename_i id
    split at a
    ·rename_i es z
     obtain ⟨f,a⟩:=z6a a
     simp only [std,eAf] at f
     obtain ⟨⟨C,B⟩,f⟩:=f
     have u:z34 std ti h (.map id) (.d kd)=y7e ks ka kd es 0:=by
      simp only [z34,n,z,C,B,eCc,cond_true,v0h]
     rcases z9r a with ⟨p,a⟩|⟨p,a⟩
     ·refine ⟨_,_,_, .inr ?_,a⟩
      simp only [std,w4o] at p
      cases o:y7e ks ka kd es 0 with
      |none=>rw [o] at p; simp at p
      |some r=>
       cases r with
       |none=>rw [o] at p; simp at p
       |some q=>
        obtain ⟨i,v⟩:=q
        rw [o] at f
        simp only [eAf,beq_iff_eq] at f
        obtain ⟨I,f⟩:=f
        have s:w4o es ks ka kd=some (i,v):=by simp [w4o,o]
        refine ⟨i,v,mkV (E.CM t).1 (w4k std es ks ka kd 0 (E.CM t).2),by rw [u,o],?_,rfl,?_⟩
        ·obtain ⟨P,O⟩:=y18 _ _ f
         obtain ⟨M,L⟩:=x8v std es ks ka kd (E.CM t).2 0
         have g:y4a (z0x v) (w4k std es ks ka kd 0 (E.CM t).2):=by
          refine ⟨by rw [M,P],fun j y N=>?_⟩
          obtain ⟨c,G,rfl⟩:=L j y N
          obtain ⟨d,H,F⟩:=O j c G
          refine ⟨d,H,w16 F ?_⟩
          rw [eAy]
          have e:y41 es ks ka kd j=d:=by simp [y41,s,H]
          cases c<;>simp only [u9y,u0e,std,e]
         cases v with
         |agg l=>
          have:(E.CM t).1=true:=by rw [←I]; rfl
          rw [this]
          exact .inr ⟨l,_,rfl,rfl,g⟩
         |_=>
          have:(E.CM t).1=false:=by rw [←I]; rfl
          rw [this]
          simp only [z0x] at g
          obtain ⟨K,J⟩:=g
          match hm:w4k std es ks ka kd 0 (E.CM t).2,K with
          |[y],_=>
           obtain ⟨x,a,A⟩:=J 0 y (by rw [hm]; rfl)
           simp at a; subst a
           exact .inl A
        ·simp [std,s]
     ·refine ⟨_,_,_, .inl ?_,a⟩
      simp only [std,w4o] at p
      cases o:y7e ks ka kd es 0 with
      |none=>rw [o] at f; simp at f
      |some r=>
       cases r with
       |none=>exact ⟨by rw [u,o],rfl⟩
       |some q=>rw [o] at p; simp at p
    ·cases a
   ·cases a
  ·cases a
 ·cases a
theorem x9j {β:Type} {p:List CK} {es:List (List D)} {i:Nat} {b:β}:∀ (n j:Nat) (c:List D→Option β),v0j opt β std p es i c n j=some b→∃ r,y4d es (i+j) r∧c r=some b
 |0,j,c,h=>⟨[],fun k x d=>by simp at d,h⟩
 |n+1,j,c,h=>by
  have e:(bif eAk j 0 then i else std.add i j)=i+j:=by
   cases l:eAk j 0 with
   |true=>have:=eAg l; subst this; rfl
   |false=>rfl
  simp only [v0j,e] at h
  split at h
  ·rename_i x d
   obtain ⟨g,h⟩:=z6a h
   have f:=x8b g
   rw [d] at f
   obtain ⟨r,o,m⟩:=x9j n (j+1) _ h
   refine ⟨x::r,fun k y a=>?_,m⟩
   cases k with
   |zero=>simp at a; subst a; exact f
   |succ k=>rw [show i+j+(k+1)=i+(j+1)+k by omega]; exact o k y (by simpa using a)
  ·cases h
theorem x5b {es:List (List D)}:∀ {n i:Nat} {r:List D},x96 es i n=some r→y4d es i r
 |0,i,r,h=>by cases h; intro j x a; simp at a
 |n+1,i,r,h=>by
  simp only [x96] at h
  split at h
  ·rename_i x l b c
   cases h
   intro j y a
   cases j with
   |zero=>
    simp at a; subst a
    rw [z1v] at b
    exact ⟨_,b, .refl _⟩
   |succ j=>
    have:=x5b c j y (by simpa using a)
    rw [show i+(j+1)=i+1+j by omega]; exact this
  ·cases h
theorem v0i {β:Type} {i:Bool} {j:List CK} {w:x7u} {c:Bool→List D→List AV→Option β} {b:β} (a:v7p opt β std i j w c=some b):∃ q r ra,w.ok q r ra∧c q r ra=some b:=by
 unfold v7p at a
 split at a
 ·exact ⟨_,_,_,trivial,a⟩
 ·split at a
  ·obtain ⟨f,a⟩:=z6a a
   exact ⟨_,_,_,x8b f,a⟩
  ·split at a
   ·rename_i r d
    rw [z1v] at d
    exact ⟨_,_,_,⟨r,d, .refl _⟩,a⟩
   ·cases a
 ·split at a
  ·obtain ⟨r,h,g⟩:=x9j _ _ _ a
   exact ⟨_,_,_,h,g⟩
  ·split at a
   ·rename_i r d
    exact ⟨_,_,_,x5b d,a⟩
   ·cases a
 ·split at a
  ·rename_i r d
   rw [z1v] at d
   exact ⟨_,_,_,d,a⟩
  ·cases a
 ·rcases z9r a with ⟨e,a⟩|⟨e,a⟩
  ·exact ⟨_,_,_,e,a⟩
  ·exact ⟨_,_,_,e,a⟩
 ·cases a
theorem v0k {f:Bool} {E:Env} {β:Type} {K:List (List CK)} {env:List (Nat×AV)} {h:List AO} {op:Op} {c:Bool→List D→List AV→Option β} {b:β} (a:v7q opt β std f E K env h op c=some b):∃ q r ra,(z1b std E.T env h op).ok q r ra∧c q r ra=some b:=by
 unfold v7q at a
 split at a
 ·exact y5h a
 ·exact y5h a
 ·split at a
  ·rename_i t _ m k e d
   simp only [z1b,e,d]
   exact y5h a
  ·cases a
 ·exact v0i a
theorem w3x:∀ (env:List (Nat×AV)) (d:Nat) (v:AV),z0z env d=v→v≠ .bot→u0g env d v=env:=by
 intro env
 induction env with
 |nil=>intro d v h a; simp [z0z] at h; exact absurd h.symm a
 |cons x env c=>
  intro d v h a
  obtain ⟨k,w⟩:=x
  simp only [z0z] at h
  simp only [u0g]
  cases b:eAk k d with
  |true=>rw [b] at h; simp at h; subst h; rfl
  |false=>rw [b] at h; simp at h; simp [c d v h a]
theorem z65 {s:AS} {d:Nat} {v:AV} (h:z0z s.env d=v) (a:v≠ .bot):y6c s d v=s:=by
 show (⟨u0g s.env d v,s.heap,s.nt⟩:AS)=s
 rw [w3x _ _ _ h a]
theorem x4d {β:Type} {all:List Oper} {s:AS} {g:Option (Nat×Bool)} {k:Bool→AS→Option β} {b:β} (h:x9d opt β all s g k=some b):∃ x,z3l all s.env g=some x∧k x s=some b:=by
 unfold x9d at h
 split at h
 ·exact ⟨true,rfl,h⟩
 ·rename_i j c
  simp only [z3l]
  cases f:z2d all j with
  |none=>rw [f] at h; cases h
  |some o=>
   rw [f] at h
   simp only at h⊢
   cases i:o.dst with
   |none=>rw [i] at h; cases h
   |some d=>
    rw [i] at h
    simp only at h⊢
    cases a:z0z s.env d with
    |d y=>
     rw [a] at h
     cases y with
     |bool t=>
      rcases z9r h with ⟨e,h⟩|⟨e,h⟩
      ·subst e; rw [z65 a (by simp)] at h; exact ⟨_,rfl,h⟩
      ·subst e; rw [z65 a (by simp)] at h; exact ⟨_,rfl,h⟩
     |_=>cases h
    |tuple l=>
     rw [a] at h
     cases l with
     |nil=>exact ⟨_,rfl,h⟩
     |cons _ _=>cases h
    |_=>rw [a] at h; cases h
theorem x3f {β:Type} {c:IntKind} {i:Int} {d:Nat} {s:AS} {k:AS→Option β} {b:β} (he:z0z s.env d= .d (.int c i)):∀ {n j:Nat},x3g opt β std c i d s k n j=some b→k s=some b
 |0,_,h=>by cases h
 |1,j,h=>by
  simp only [x3g] at h
  obtain ⟨a,h⟩:=z6a h
  have:i=Int.ofNat j:=by simpa [std,z3z] using a
  rw [←this,z65 he (by simp)] at h; exact h
 |m+2,j,h=>by
  simp only [x3g] at h
  rcases z9r h with ⟨a,h⟩|⟨_,h⟩
  ·have:i=Int.ofNat j:=by simpa [std,z3z] using a
   rw [←this,z65 he (by simp)] at h; exact h
  ·exact x3f he h
theorem u1l {β:Type} {E:Env} {s:AS} {op:Op} {k:AS→Option β} {b:β} (h:ixK opt β std E s op k=some b):k s=some b:=by
 unfold ixK at h
 split at h
 ·split at h
  ·rename_i a i he
   exact x3f he h
  ·cases h
 ·exact h
theorem v1c {β:Type} {s:AS} {c:Operand} {k:Bool→AS→Option β} {b:β} (h:v8b opt β s c k=some b):∃ x,z0m s.env c= .d (.bool x)∧k x s=some b:=by
 unfold v8b at h
 split at h
 ·rename_i d
  split at h
  ·rename_i t a
   rcases z9r h with ⟨e,h⟩|⟨e,h⟩<;>subst e<;>rw [z65 a (by simp)] at h<;>exact ⟨_,a,h⟩
  ·cases h
 ·split at h
  ·rename_i t a
   rcases z9r h with ⟨e,h⟩|⟨e,h⟩<;>subst e<;>exact ⟨_,a,h⟩
  ·cases h
section
variable {P:Program} {E:Env} {O:Orc opt}
def y8t (P:Program) (rec:y8s opt):Prop:=∀ β n g pos c d k (b:β),z05 P g pos=some c→n≤d.s.heap.length→rec β n g pos c d k=some b→∃ e a,n≤a.s.heap.length∧z5p P n c d.s (fun h f=>h=e∧f=a.s)∧k e a=some b
structure y4b (P:Program) (O:Orc opt):Prop where
 call:∀ β g0 pos ix n g args ss t k (b:β),O.call β g0 pos ix n g args ss=some t→t k=some b→n≤ss.s.heap.length→∃ r ss',n≤ss'.s.heap.length∧z3g P g∧z5o P n g args ss.s r ss'.s∧k r ss'=some b
 pure:∀ β g0 pos ix g args ss t k (b:β),O.pure β g0 pos ix g args ss=some t→t k=some b→∃ r,z3g P g∧(∀ h,(∀ x∈args,∀ id∈tid x,z0e h id=z0e ss.s.heap id)→z3s P g args h r h)∧k r=some b
 loop:∀ β n g pos c ss t k (b:β),z05 P g pos=some (.loop c)→n≤ss.s.heap.length→O.loop β n g pos ss=some t→t k=some b→∃ e ss',n≤ss'.s.heap.length∧z5p P n (.loop c) ss.s (fun e' s2=>e'=e∧s2=ss'.s)∧k e ss'=some b
 join:∀ β n g pos body k (b:β) (G:AX→SS→Prop),(∀ γ k (b:γ),body γ k=some b→∃ e ss',G e ss'∧k e ss'=some b)→O.join β n g pos body k=some b→∃ e ss1 ss',G e ss1∧z6n n ss1.s ss'.s∧(n≤ss1.s.heap.length→n≤ss'.s.heap.length)∧k e ss'=some b
 view:∀ β n g pos ss k (b:β),n≤ss.s.heap.length→O.view β n g pos ss k=some b→∃ ss',z6n n ss.s ss'.s∧n≤ss'.s.heap.length∧k ss'=some b
theorem z9q (p:EnvOk P E) {rec:y8s opt} (x:y8t P rec) {β:Type} {g:FuncId} {args:List AV} {h:List AO} {K:List (List CK)} {k:AV→List AO→List (List CK)→Option β} {b:β} (c:x2a opt E rec β g args h K k=some b):
  ∃ r h' C,z3s P g args h r h'∧h.length≤h'.length∧z3g P g∧k r h' C=some b:=by
 unfold x2a at c
 split at c
 ·rename_i i z
  cases m:eAz args.length i.nt with
  |false=>rw [m] at c; cases c
  |true=>
  rw [m] at c
  have l:=eAl m
  obtain ⟨fn,u,t,B,A,q⟩:=p.fn g i z
  have d:z05 P g []=some i.body:=by simp [z05,v4i,u,t]
  obtain ⟨e,n,o,w,c⟩:=x β h.length _ _ _ ⟨⟨v0o 0 args,h,i.nt⟩,K⟩ _ _ d (eAp _) c
  have f:∀ r,(e= .normal∨e= .ret)→u0d E.T n.s i.res=some r→z3s P g args h r n.s.heap:=by
   intro r he a
   refine y0r p.ti u t B l (w.mono fun G F y=>?_)
   obtain ⟨rfl,rfl⟩:=y
   exact ⟨he,by rw [A]; exact a,rfl⟩
  cases e with
  |exit j=>cases c
  |normal=>
   simp only at c
   split at c
   ·rename_i v a
    exact ⟨_,_,_,f _ (.inl rfl) a,o,q,c⟩
   ·cases c
  |ret=>
   simp only at c
   split at c
   ·rename_i v a
    exact ⟨_,_,_,f _ (.inr rfl) a,o,q,c⟩
   ·cases c
 ·cases c
theorem x99 (m:EnvOk P E) {rec:y8s opt} (o:y8t P rec) {β:Type} {n:Nat} {g:FuncId} {args:List AV} {a:SS} {k:AV→SS→Option β} {b:β} (f:n≤a.s.heap.length) (e:w6n opt E rec β g args a k=some b):
  ∃ r d,n≤d.s.heap.length∧z3g P g∧z5o P n g args a.s r d.s∧k r d=some b:=by
 unfold w6n at e
 obtain ⟨r,h',l,j,p,i,e⟩:=z9q m o e
 have c:(bif E.fz g then k (z3t h' (fun id=>eBt id a.s.heap.length) r) ⟨⟨a.s.env,y1n h' a.s.heap.length,a.s.nt⟩,a.K⟩ else k r ⟨⟨a.s.env,h',a.s.nt⟩,l⟩)=some b:=e
 cases h:E.fz g with
 |false=>
  rw [h] at c
  exact ⟨r,⟨⟨a.s.env,h',a.s.nt⟩,l⟩,eCt f p,i, .of_aret f j,c⟩
 |true=>
  rw [h] at c
  exact ⟨_,⟨⟨a.s.env,y1n h' a.s.heap.length,a.s.nt⟩,a.K⟩,by simp only [y1n,z55,eCk]; omega,i, .of_aret f j.view,c⟩
theorem v1j (j:EnvOk P E) {rec:y8s opt} (l:y8t P rec) {β:Type} {n:Nat} {g:FuncId} {args:List AV} {a:SS} {T:List Nat} {k:AV→SS→Option β} {b:β} (h:n≤a.s.heap.length) (e:v1k opt E rec β g args a T k=some b):
  ∃ r f,n≤f.s.heap.length∧z3g P g∧z5o P n g args a.s r f.s∧k r f=some b:=by
 unfold v1k at e
 cases c:okM a.s.heap T args with
 |false=>rw [c] at e; exact x99 j l h e
 |true=>
  rw [c] at e
  simp only [cond_true] at e
  obtain ⟨r,h',t,q,p,o,e⟩:=z9q j l e
  have d:(bif E.fz g then
   k (z8j (z3h (z6j T) a.s.heap.length) (z3t h' (fun id=>eBt id T.length) r)) ⟨⟨a.s.env,z2e (z3h (z6j T) a.s.heap.length) a.s.heap 0 (y1n h' T.length),a.s.nt⟩,a.K⟩
  else k (z8j (z3h (z6j T) a.s.heap.length) r) ⟨⟨a.s.env,z2e (z3h (z6j T) a.s.heap.length) a.s.heap 0 h',a.s.nt⟩,a.K⟩)=some b:=e
  cases m:E.fz g with
  |false=>
   rw [m] at d
   exact ⟨_,_,eCt h (z8a _ _ _ _).1,o,x32 h c p q,d⟩
  |true=>
   rw [m] at d
   have i:=q.view
   rw [y2q] at i p
   exact ⟨_,_,eCt h (z8a _ _ _ _).1,o,x32 h c (by rw [y2q]; simp only [y1n,z55,eCk]; omega) i,d⟩
theorem y98 (j:EnvOk P E) (hO:y4b P O) {rec:y8s opt} (l:y8t P rec) {β:Type} {o:Nat} {pos:List Bool} {m n:Nat} {g:FuncId} {args:List AV} {d:SS} {k:AV→SS→Option β} {b:β} (i:n≤d.s.heap.length) (f:x2b opt E O rec β o pos m n g args d k=some b):
  ∃ r c,n≤c.s.heap.length∧z3g P g∧z5o P n g args d.s r c.s∧k r c=some b:=by
 unfold x2b at f
 split at f
 ·rename_i t h
  exact hO.call _ _ _ _ _ _ _ _ _ _ _ h f i
 ·have a:(bif E.cl then v1k opt E rec β g args d (v5l d.s.heap 2000 0 (u5y [] (w88 args))) k else w6n opt E rec β g args d k)=some b:=f
  cases e:E.cl with
  |false=>rw [e] at a; exact x99 j l i a
  |true=>rw [e] at a; exact v1j j l i a
theorem w8h {T:TypeId→Option TI} {env:List (Nat×AV)} {h:List AO} {args:Array Operand} {ts:Array TypeId} {q:Bool} {r r':List D} {ra:List AV} (a:(z1b std T env h (.call ⟨.builtin .append,args,ts⟩)).ok q r ra):(z1b std T env h (.call ⟨.builtin .append,args,ts⟩)).ok q r' ra:=by
 simp only [z1b] at a⊢
 split
 ·rename_i s x he
  rw [he] at a
  simp only at a
  cases c:z3x std s x with
  |none=>trivial
  |some b=>rw [c] at a; exact a
 ·trivial
theorem w5l {a:Bool} {all:List Oper} {o:Oper} (h:v0d a all o≠[]):∃ args ts,o.op= .call ⟨.builtin .append,args,ts⟩:=by
 unfold v0d at h
 split at h
 ·rename_i args ts d b _
  exact ⟨args,ts,b⟩
 ·exact absurd rfl h
theorem y9s {c a:Bool} {all:List Oper} {o:Oper} (h:y9t c a all o≠[]):∃ args ts,o.op= .call ⟨.builtin .append,args,ts⟩:=by
 unfold y9t at h
 split at h
 ·rename_i args ts b
  exact ⟨args,ts,b⟩
 ·exact w5l h
theorem x2d {β:Type} {t:Bool} {g:List D} {new:Nat} {d:SS} {o:Oper} {k:SS→Option β} {b:β} (m:g≠[]→∃ args ts,o.op= .call ⟨.builtin .append,args,ts⟩) (h:w6o opt β std t g E new d o k d.s=some b):∃ q r ra res e,(z1b std E.T d.s.env d.s.heap o.op).ok q r ra∧z0t std E.T E.G d.s.env d.s.heap new q r ra o.op=some res∧res.c=true∧e.s=z4p d.s o.dst res.v res.u∧k e=some b:=by
 unfold w6o at h
 obtain ⟨q,r,ra,j,h⟩:=v0k h
 have i:(z1b std E.T d.s.env d.s.heap o.op).ok q (orR g r) ra:=by
  cases g with
  |nil=>exact j
  |cons a l=>
   obtain ⟨args,ts,n⟩:=m (by simp)
   rw [n] at j⊢
   exact w8h j
 split at h
 ·rename_i res f
  obtain ⟨p,h⟩:=z6a h
  exact ⟨q,_,ra,res,_,i,f,p,rfl,h⟩
 ·cases h
theorem x3t {β:Type} {j:Bool} {g:List D} {new:Nat} {a:SS} {o:Oper} {k:SS→Option β} {b:β} (f:g≠[]→∃ args ts,o.op= .call ⟨.builtin .append,args,ts⟩) (h:y89 opt β std j g E new a o k=some b):∃ q r ra res d,(z1b std E.T a.s.env a.s.heap o.op).ok q r ra∧z0t std E.T E.G a.s.env a.s.heap new q r ra o.op=some res∧res.c=true∧d.s=z4p a.s o.dst res.v res.u∧k d=some b:=by
 unfold y89 at h
 replace h:=u1l h
 cases i:u2i g with
 |false=>rw [i] at h; exact x2d f h
 |true=>
  rw [i] at h
  rcases z9r h with ⟨_,h⟩|⟨_,h⟩
  ·exact x2d f h
  ·exact x2d (fun e=>absurd rfl e) h
theorem y3d.mono {n:Nat} {ops:Array Oper} {l:List Nat} {s:AS} {Q c:AS→Prop} (h:y3d P n ops l s Q) (f:∀ s,Q s→c s):y3d P n ops l s c:=
 ⟨fun b k cs ρ tm ds w B i g=>let ⟨e,ρ',a,d,q,r⟩:=h.run b k cs ρ tm ds w B i g; ⟨e,ρ',a,d,f _ q,r⟩⟩
theorem u0l (G:EnvOk P E) (hO:y4b P O) {rec:y8s opt} (M:y8t P rec) {β:Type} {n:Nat} {ops:Array Oper} {i:Nat} {rest:List Nat} {g0:Nat} {pos:List Bool} {Y:Nat} {m:SS} {o:Oper} {k:SS→Option β} {b:β} (H:ops[i]?=some o) (v:n≤m.s.heap.length)
  (a:opK opt std E O rec β n g0 pos Y ops.toList m o k=some b):∃ l,n≤l.s.heap.length∧(∀ Q,y3d P n ops rest l.s Q→y3d P n ops (i::rest) m.s Q)∧k l=some b:=by
 unfold opK at a
 cases w:z3i m.s.nt o.dst with
 |false=>rw [w] at a; cases a
 |true=>
 rw [w] at a
 simp only [cond_true] at a
 obtain ⟨x,hg,a⟩:=x4d a
 cases x with
 |false=>exact ⟨⟨z4p m.s o.dst (.tuple []) [],m.K⟩,v,fun Q h=>w34 H hg w h,a⟩
 |true=>
  have plain:y89 opt β std (v00 E.dt ops.toList o) (y9t (!(E.dt 1000004)) E.tk ops.toList o) E m.s.heap.length ⟨m.s,m.K⟩ o k=some b→∃ l,n≤l.s.heap.length∧(∀ Q,y3d P n ops rest l.s Q→y3d P n ops (i::rest) m.s Q)∧k l=some b:=by
   intro hp
   obtain ⟨q,r,ra,J,l,Z,L,hc,he,hk⟩:=x3t y9s hp
   have R:n≤l.s.heap.length:=by rw [he]; exact eCt v (z5j J.u m.s.heap).1
   refine ⟨l,R,fun Q h=>x3w G.ti G.gl H hg v Z L hc w ?_,hk⟩
   rw [he] at h; exact h
  simp only at a
  split at a
  ·rename_i f args ts A
   split at a
   ·rename_i g first y S
    obtain ⟨r,s1,c1,c2,c3,a⟩:=y98 G hO M v a
    exact ⟨⟨⟨y4g s1.s.env o.dst r,s1.s.heap,s1.s.nt⟩,s1.K⟩,c1,fun Q h=>w1a H hg A S c2 c3 w h,a⟩
   ·rename_i id S
    split at a
    ·rename_i pd g p nt env N
     split at a
     ·rename_i x0 W V F c
      have c:=G.code _ _ _ c
      cases B:(W.toList.all fun q=>eBt q nt)&&eAk args.size W.size with
      |false=>rw [B] at a; cases a
      |true=>
      rw [B] at a
      simp only [eAf] at B
      have U:z05 P g (false::p)=some V:=by simp [z05,c,v9z]
      have T:z05 P g (true::p)=some F:=by simp [z05,c,v9z]
      have t:∀ (id:Nat),m.s.heap.length≤(z04 m.s.heap id .dead).length:=fun id=>(z10 m.s.heap id .dead).1
      obtain ⟨e1,s1,a1,a2,a⟩:=M _ _ _ _ _ _ _ _ U (t id) a
      cases e1 with
      |exit j=>cases a
      |ret=>cases a
      |normal=>
       simp only at a
       obtain ⟨C,I,X,b2,a⟩:=M _ _ _ _ _ _ _ _ T a1 a
       have R:n≤(z04 I.s.heap id (.loop (y8b C) (z4b C) g p nt env)).length:=eCt v (eCt X (z10 _ _ _).1)
       refine ⟨⟨⟨y4g m.s.env o.dst (.d (.bool (isN C))),z04 I.s.heap id (.loop (y8b C) (z4b C) g p nt env),m.s.nt⟩,I.K⟩,R,fun Q h=>w09 H hg v A S N c (fun q z=>eAl (eBm.1 B.1 q z)) (eAg B.2) w (a2.mono fun e s z=>?_),a⟩
       obtain ⟨rfl,rfl⟩:=z
       refine ⟨rfl,b2.mono fun e s z=>?_⟩
       obtain ⟨rfl,rfl⟩:=z
       exact ⟨X,h⟩
     ·cases a
    ·cases a
   ·cases a
  ·exact plain a
theorem w39 (t:EnvOk P E) (hO:y4b P O) {rec:y8s opt} (u:y8t P rec) {β:Type} {n:Nat} {ops:Array Oper} {y:Nat} {pos:List Bool} {k:SS→Option β} {b:β}:∀ (l:List Oper) (i:Nat) (d:SS),(∀ j o,l[j]?=some o→ops[i+j]?=some o)→n≤d.s.heap.length→v2z opt std E O rec β n y pos ops.toList i l d k=some b→
  ∃ a,n≤a.s.heap.length∧y3d P n ops (List.range' i l.length) d.s (fun h=>h=a.s)∧k a=some b:=by
 intro l
 induction l with
 |nil=>
  intro i d g f c
  simp only [v2z] at c
  exact ⟨d,f,z6q rfl,c⟩
 |cons o l r=>
  intro i d g f c
  simp only [v2z] at c
  have w:ops[i]?=some o:=by simpa using g 0 o rfl
  obtain ⟨s1,e,x,c⟩:=u0l (rest:=List.range' (i+1) l.length) t hO u w f c
  obtain ⟨a,q,m,c⟩:=r (i+1) s1 (fun j p v=>by have:=g (j+1) p (by simpa using v); rw [show i+1+j=i+(j+1) by omega]; exact this) e c
  refine ⟨a,q,?_,c⟩
  rw [eCa,List.range'_succ]
  exact x _ m
theorem w4d {ops:List Oper} {base i:Nat} {l:List Nat} (h:w4e ops base i l=true):w1c ops base i l:=by
 intro id hid
 have:=eBm.1 h id hid
 rw [eBh] at this
 rcases this with h|h
 ·exact .inl (eAl h)
 ·rw [eAf] at h
  by_cases a:id<base
  ·exact .inl a
  ·exact .inr ⟨id - base,by omega,eAl h.1,h.2⟩
theorem x34 {x:Nat}:∀ {l:List Nat},y3x x l=true→x∈l
 |[],h=>by cases h
 |y::l,h=>by
  simp only [y3x,eBh] at h
  rcases h with h|h
  ·rw [eAg h]; exact eBv ..
  ·exact eCq _ (x34 h)
theorem w7c {o:Oper} {s:AS} {f:Operand} {args:Array Operand} {ts:Array TypeId} (j:o.op= .call ⟨.value f,args,ts⟩) {g:FuncId} {first captured:List AV} (m:z0m s.env f= .clo (.func g) first captured) {id:Nat}
  (hid:id∈y46 (first++z06 s.env args.toList++captured)):id∈z38 s.env o.op:=by
 have c:∀ {l:List AV} {id:Nat},id∈y46 l→∃ x∈l,id∈tid x:=by
  intro l
  induction l with
  |nil=>intro id h; simp [y46] at h
  |cons x l e=>
   intro id h
   simp only [y46,eBx] at h
   rcases h with h|h
   ·exact ⟨x,by simp,h⟩
   ·obtain ⟨y,n,d⟩:=e h; exact ⟨y,by simp [n],d⟩
 have a:∀ {l:List AV} {id:Nat} {x:AV},x∈l→id∈tid x→id∈y46 l:=by
  intro l
  induction l with
  |nil=>intro id x h; simp at h
  |cons y l e=>
   intro id x h d
   simp only [eBa] at h
   simp only [y46,eBx]
   rcases h with rfl|h
   ·exact .inl d
   ·exact .inr (e h d)
 obtain ⟨x,b,hid⟩:=c hid
 simp only [z38,j,z60,if_true,eFv,eBq]
 have k:id∈tid (z0m s.env f)∨∃ y∈args.toList,id∈tid (z0m s.env y):=by
  simp only [eBx] at b
  rcases b with (b|b)|b
  ·left; rw [m]; simp only [tid,eBx]; exact .inl (a b hid)
  ·right
   rw [z27] at b
   obtain ⟨y,i,rfl⟩:=eBq.1 b
   exact ⟨y,i,hid⟩
  ·left; rw [m]; simp only [tid,eBx]; exact .inr (a b hid)
 rcases k with h|⟨y,i,h⟩
 ·exact ⟨_,⟨f,by simp [eAx,eDs],rfl⟩,h⟩
 ·exact ⟨_,⟨y,by simp [eAx,eDs]; right; simpa using i,rfl⟩,h⟩
theorem v5p (ht:EnvOk P E) (hO:y4b P O) {rec:y8s opt} (hr:y8t P rec) {β:Type} {ops:List Oper} {g0:Nat} {pos:List Bool} {base i:Nat} {d:SS} {o:Oper} {k:SS→Option β} {b:β} (c:u8x opt std E O rec β g0 pos ops base i d o k=some b):
  z3i d.s.nt o.dst=true∧∃ r A,w2o P E.T ops d.s base i o r∧A.s=z4p d.s o.dst r.v r.u∧k A=some b:=by
 unfold u8x at c
 cases hd:z3i d.s.nt o.dst with
 |false=>rw [hd] at c; cases c
 |true=>
 rw [hd] at c
 refine ⟨rfl,?_⟩
 simp only [cond_true] at c
 obtain ⟨x,hg,c⟩:=x4d c
 cases x with
 |false=>exact ⟨_,⟨z4p d.s o.dst (.tuple []) [],d.K⟩, .skip hg,rfl,c⟩
 |true=>
  simp only at c
  cases S:w4e ops base i (z38 d.s.env o.op) with
  |false=>rw [S] at c; cases c
  |true=>
  rw [S] at c
  have m:=w4d S
  have plain:y89 opt β std (v00 E.dt ops o) (y9t (!(E.dt 1000004)) E.tk ops o) E (base+i) ⟨d.s,d.K⟩ o k=some b→∃ r A,w2o P E.T ops d.s base i o r∧A.s=z4p d.s o.dst r.v r.u∧k A=some b:=by
   intro R
   obtain ⟨q,r,ra,a6,A,hw,a1,hc,he,hk⟩:=x3t y9s R
   exact ⟨_,A, .step hg ht.gl hw a1 hc m,he,hk⟩
  simp only [cond_true] at c
  split at c
  ·rename_i f args ts z
   split at c
   ·rename_i g first a N
    split at c
    ·rename_i t R
     cases C:y13 (first++a) with
     |false=>rw [C] at c; cases c
     |true=>
     rw [C] at c
     obtain ⟨r,M,V,c⟩:=hO.pure _ _ _ _ _ _ _ _ _ _ R c
     refine ⟨_,⟨z4p d.s o.dst r [],d.K⟩, .call hg z N M (fun h Y=>V h (fun x n id hid=>?_)) m,rfl,c⟩
     refine Y id ?_
     have H:∀ (y:AV),x2p y→tid y=[]:=fun y Q=>x9g Q
     have J:=z6s _ C
     simp only [eBx] at n
     rcases n with (n|n)|n
     ·obtain ⟨j,U⟩:=eFo n
      have a3:j<first.length:=(eAe.1 U).1
      have:=H x (J j x (by rw [eFh a3]; exact U))
      rw [this] at hid; simp at hid
     ·rw [z27] at n
      obtain ⟨y,Q,rfl⟩:=eBq.1 n
      simp only [z38,z,z60,if_true,eFv,eBq]
      exact ⟨_,⟨y,by simp [eAx,eDs]; right; simpa using Q,rfl⟩,hid⟩
     ·obtain ⟨j,U⟩:=eFo n
      have:=H x (J (first.length+j) x (by rw [eFt (by omega)]; simpa using U))
      rw [this] at hid; simp at hid
    ·cases C:y13 (first++z06 d.s.env args.toList++a) with
     |false=>
      rw [C] at c
      simp only [cond_false] at c
      obtain ⟨a5,c⟩:=z6a c
      have lent:∀ {r:AV},v2m P g (bL std d.s.heap (first++z06 d.s.env args.toList++a)).2 r→y3z r=true→∀ h,(∀ id∈z38 d.s.env o.op,z0e h id=z0e d.s.heap id)→z3s P g (first++z06 d.s.env args.toList++a) h r h:=by
       intro r R p h Y
       have e:bL std h (first++z06 d.s.env args.toList++a)=bL std d.s.heap (first++z06 d.s.env args.toList++a):=by
        refine y07 std _ fun id hid=>Y id ?_
        have X:∀ {l:List AV} {id:Nat},id∈y46 l→∃ x∈l,id∈tid x:=by
         intro l
         induction l with
         |nil=>intro id h; simp [y46] at h
         |cons x l ih=>
          intro id h
          simp only [y46,eBx] at h
          rcases h with h|h
          ·exact ⟨x,by simp,h⟩
          ·obtain ⟨y,h1,h2⟩:=ih h; exact ⟨y,by simp [h1],h2⟩
        have I:∀ {l:List AV} {id:Nat} {x:AV},x∈l→id∈tid x→id∈y46 l:=by
         intro l
         induction l with
         |nil=>intro id x h; simp at h
         |cons y l ih=>
          intro id x h h2
          simp only [eBa] at h
          simp only [y46,eBx]
          rcases h with rfl|h
          ·exact .inl h2
          ·exact .inr (ih h h2)
        obtain ⟨x,G,hid⟩:=X hid
        simp only [z38,z,z60,if_true,eFv,eBq]
        have a4:id∈tid (z0m d.s.env f)∨∃ y∈args.toList,id∈tid (z0m d.s.env y):=by
         simp only [eBx] at G
         rcases G with (G|G)|G
         ·left; rw [N]; simp only [tid,eBx]; exact .inl (I G hid)
         ·right
          rw [z27] at G
          obtain ⟨y,Q,rfl⟩:=eBq.1 G
          exact ⟨y,Q,hid⟩
         ·left; rw [N]; simp only [tid,eBx]; exact .inr (I G hid)
        rcases a4 with h|⟨y,Q,h⟩
        ·exact ⟨_,⟨f,by simp [eAx,eDs],rfl⟩,h⟩
        ·exact ⟨_,⟨y,by simp [eAx,eDs]; right; simpa using Q,rfl⟩,h⟩
       exact u5n (by rw [e]; exact R) (by rw [e]; exact a5) p
      split at c
      ·rename_i t a2
       cases F:y13 (bL std d.s.heap (first++z06 d.s.env args.toList++a)).2 with
       |false=>rw [F] at c; cases c
       |true=>
       rw [F] at c
       simp only [cond_true] at c
       obtain ⟨r,M,V,c⟩:=hO.pure _ _ _ _ _ _ _ _ _ _ a2 c
       cases p:y3z r with
       |false=>rw [p] at c; cases c
       |true=>
       rw [p] at c
       have R:v2m P g (bL std d.s.heap (first++z06 d.s.env args.toList++a)).2 r:=V [] (fun x G id hid=>by
        obtain ⟨j,U⟩:=eFo G
        rw [x9g (z6s _ F j x U)] at hid; simp at hid)
       exact ⟨_,⟨z4p d.s o.dst r [],d.K⟩, .call hg z N M (lent R p) m,rfl,c⟩
      ·cases w:E.cl&&okR d.s.heap (first++z06 d.s.env args.toList++a) with
       |true=>
        rw [w] at c
        simp only [cond_true] at c
        obtain ⟨r,h',K',M,V,Z,c⟩:=z9q ht hr c
        have L:(bif inT (w76 (first++z06 d.s.env args.toList++a)) (z3t h' (fun id=>eBt id d.s.heap.length) r)&&eqH (y1n h' d.s.heap.length) (z4f d.s.heap (w76 (first++z06 d.s.env args.toList++a)) 0 d.s.heap) then
           k ⟨z4p d.s o.dst (z3t h' (fun id=>eBt id d.s.heap.length) r) [],d.K⟩ else opt.no β 80)=some b:=c
        cases W:inT (w76 (first++z06 d.s.env args.toList++a)) (z3t h' (fun id=>eBt id d.s.heap.length) r)&&eqH (y1n h' d.s.heap.length) (z4f d.s.heap (w76 (first++z06 d.s.env args.toList++a)) 0 d.s.heap) with
        |false=>rw [W] at L; cases L
        |true=>
        rw [W] at L
        simp only [eAf] at W w
        obtain ⟨_,w⟩:=w
        simp only [okR,eAf,eBm] at w
        have a0:=M.view
        rw [z55] at a0
        have B:∀ {id:Nat},w76 (first++z06 d.s.env args.toList++a) id=true→id∈y46 (first++z06 d.s.env args.toList++a):=fun {id} hid=>x34 hid
        refine ⟨_,⟨z4p d.s o.dst (z3t h' (fun id=>eBt id d.s.heap.length) r) [],d.K⟩, .call hg z N Z (fun h Y=>?_) m,rfl,L⟩
        refine z3s.widen (h:=d.s.heap) (T:=w76 (first++z06 d.s.env args.toList++a)) (fun id hid=>eAl (w.2 id (B hid)).1) (fun id hid=>(w.2 id (B hid)).2) w.1 W.1 a0 (x9l _ _ W.2) (fun id hid=>Y id (w7c z N (B hid)))
       |false=>
       rw [w] at c
       simp only [cond_false] at c
       obtain ⟨r,h',K',M,V,Z,c⟩:=z9q ht hr c
       cases p:y3z (z3t h' (fun _=>false) r) with
       |false=>rw [p] at c; cases c
       |true=>
       rw [p] at c
       exact ⟨_,⟨z4p d.s o.dst (z3t h' (fun _=>false) r) [],d.K⟩, .call hg z N Z (lent M.pret p) m,rfl,c⟩
     |true=>
     rw [C] at c
     simp only [cond_true] at c
     obtain ⟨r,h',K',M,V,Z,c⟩:=z9q ht hr c
     cases F:z9y (z3t h' (fun _=>false) r) with
     |false=>rw [F] at c; cases c
     |true=>
     rw [F] at c
     exact ⟨_,⟨z4p d.s o.dst (z3t h' (fun _=>false) r) [],d.K⟩, .call hg z N Z (fun h _=>M.pret.at (z6s _ C) (y5e _ F) h) m,rfl,c⟩
   ·cases c
  ·exact plain c
theorem x1m (p:EnvOk P E) (hO:y4b P O) {rec:y8s opt} (q:y8t P rec) {β:Type} {ops:List Oper} {t:Nat} {pos:List Bool} {nt base:Nat} {k:SS→Option β} {b:β}:∀ (l:List Oper) (acc:List (List Nat)) (i:Nat) (d:SS),d.s.nt=nt→x6o opt std E O rec β t pos ops base acc i l d k=some b→
  ∃ c,d.s.heap.length≤c.s.heap.length∧DS P E.T ops nt base (fun h=>h=c.s) acc i l d.s∧k c=some b:=by
 intro l
 induction l with
 |nil=>
  intro acc i d f a
  simp only [x6o] at a
  exact ⟨d,eAp _, .nil rfl,a⟩
 |cons o l n=>
  intro acc i d f a
  simp only [x6o] at a
  cases e:x8i ops acc i o (z38 d.s.env o.op) with
  |false=>rw [e] at a; cases a
  |true=>
  have g:=w33 e
  rw [e] at a
  simp only [cond_true] at a
  obtain ⟨d1,r,s1,d2,he,a⟩:=v5p p hO q a
  obtain ⟨c,m,j,a⟩:=n (acc++[z38 d.s.env o.op]) (i+1) s1 (by rw [he]; exact f) a
  refine ⟨c,eCt (by rw [he]; exact (z5j r.u d.s.heap).1) m, .cons g (by rw [←f]; exact d1) d2 ?_,a⟩
  rw [←he]; exact j
theorem v7e (F:EnvOk P E) {β:Type} {x:w2p} {c:SS} {k:SS→Option β} {b:β} (h:t1h opt β std E x c k=some b):
  ∃ id kd es ti ks ka ez q r y,w0l E.T x c.s id kd es ti ks ka ez q r y∧k ⟨w1s x c.s id (z67 q r ez) y (z83 es q r kd y),c.K⟩=some b:=by
 unfold t1h at h
 split at h
 ·rename_i id kd m n u t p
  split at h
  ·rename_i es ti i f
   split at h
   ·rename_i ks ka ez e g
    obtain ⟨q,r,C,j,h'⟩:=y5h h
    clear h
    have h:=h'
    clear h'
    simp only [y2f,f] at j
    split at h
    ·rename_i l o d
     cases a:(l==m)&&(eBt x.dL c.s.nt&&(eBt x.dB c.s.nt&&(eBt x.dM c.s.nt&&(eBt x.dX c.s.nt&&eBt id c.s.heap.length)))) with
     |false=>rw [a] at h; cases h
     |true=>
      rw [a] at h
      simp only [eAf,beq_iff_eq] at a
      obtain ⟨rfl,B,A,z,w,v⟩:=a
      refine ⟨id,kd,es,ti,ks,ka,ez,q,r,_,⟨u,t,i,f,e,j,⟨_,_,_,d,p,g,rfl⟩,⟨eAl B,eAl A,eAl z,eAl w⟩,eAl v⟩,?_⟩
      rw [d]; exact h
    ·cases h
   ·cases h
  ·cases h
 ·cases h
theorem x73 (H:EnvOk P E) (hO:y4b P O):∀ f,y8t P (sym opt std E O f):=by
 intro f
 induction f with
 |zero=>intro β n g pos c w k b _ _ h; cases h
 |succ f G=>
  intro β n g pos c w k b M z h
  have sub:∀ b c',v9z c b=some c'→z05 P g (b::pos)=some c':=fun b c' F=>by simp [z05,M,F]
  cases c with
  |skip=>simp only [sym] at h; exact ⟨_,_,z,x44 ⟨rfl,rfl⟩,h⟩
  |label _=>simp only [sym] at h; exact ⟨_,_,z,w11 ⟨rfl,rfl⟩,h⟩
  |exit id=>simp only [sym] at h; exact ⟨_,_,z,w6a ⟨rfl,rfl⟩,h⟩
  |ret=>simp only [sym] at h; exact ⟨_,_,z,v1a ⟨rfl,rfl⟩,h⟩
  |seq a b'=>
   simp only [sym] at h
   obtain ⟨J,s1,l,m,h⟩:=G _ _ _ _ _ _ _ _ (sub false a rfl) z h
   cases J with
   |normal=>
    obtain ⟨e,d,m1,m2,h⟩:=G _ _ _ _ _ _ _ _ (sub true b' rfl) l h
    refine ⟨e,d,m1,z00 (m.mono fun p i u=>?_),h⟩
    obtain ⟨rfl,rfl⟩:=u
    exact m2
   |exit j=>
    refine ⟨_,_,l,z00 (m.mono fun p i u=>?_),h⟩
    obtain ⟨rfl,rfl⟩:=u
    exact ⟨rfl,rfl⟩
   |ret=>
    refine ⟨_,_,l,z00 (m.mono fun p i u=>?_),h⟩
    obtain ⟨rfl,rfl⟩:=u
    exact ⟨rfl,rfl⟩
  |cond c a b'=>
   simp only [sym] at h
   obtain ⟨e,v,d,⟨X,W⟩,I,C,h⟩:=hO.join _ _ _ _ _ _ _ (fun e v=>n≤v.s.heap.length∧z5p P n (.cond c a b') w.s (fun p i=>p=e∧i=v.s)) (fun γ k b B=>by
    obtain ⟨x,hc,B⟩:=v1c B
    cases x with
    |true=>
     obtain ⟨e,d,l,m,B⟩:=G _ _ _ _ _ _ _ _ (sub false a rfl) z B
     exact ⟨e,d,⟨l,y7o hc m⟩,B⟩
    |false=>
     obtain ⟨e,d,l,m,B⟩:=G _ _ _ _ _ _ _ _ (sub true b' rfl) z B
     exact ⟨e,d,⟨l,y7o hc m⟩,B⟩) h
   refine ⟨e,d,C X,z1g (W.mono fun p i u=>?_),h⟩
   obtain ⟨rfl,rfl⟩:=u
   exact ⟨_,I,rfl,rfl⟩
  |block id c=>
   simp only [sym] at h
   obtain ⟨e,v,d,⟨X,W⟩,I,C,h⟩:=hO.join _ _ _ _ _ _ _ (fun e v=>n≤v.s.heap.length∧z5p P n (.block id c) w.s (fun p i=>p=e∧i=v.s)) (fun γ k b B=>by
    obtain ⟨x,s1,l,m,B⟩:=G _ _ _ _ _ _ _ _ (sub false c rfl) z B
    cases x with
    |exit j=>
     simp only at B
     cases F:eAk j id with
     |true=>
      rw [F] at B
      refine ⟨_,_,⟨l,z1f (m.mono fun p i u=>?_)⟩,B⟩
      obtain ⟨rfl,rfl⟩:=u
      simp only
      rw [if_pos (eAg F)]
      exact ⟨trivial,trivial⟩
     |false=>
      rw [F] at B
      refine ⟨_,_,⟨l,z1f (m.mono fun p i u=>?_)⟩,B⟩
      obtain ⟨rfl,rfl⟩:=u
      simp only
      rw [if_neg (by rintro rfl; simp at F)]
      exact ⟨trivial,trivial⟩
    |normal=>
     refine ⟨_,_,⟨l,z1f (m.mono fun p i u=>?_)⟩,B⟩
     obtain ⟨rfl,rfl⟩:=u
     exact ⟨rfl,rfl⟩
    |ret=>
     refine ⟨_,_,⟨l,z1f (m.mono fun p i u=>?_)⟩,B⟩
     obtain ⟨rfl,rfl⟩:=u
     exact ⟨rfl,rfl⟩) h
   refine ⟨e,d,C X,z1g (W.mono fun p i u=>?_),h⟩
   obtain ⟨rfl,rfl⟩:=u
   exact ⟨_,I,rfl,rfl⟩
  |scope c=>
   simp only [sym] at h
   obtain ⟨e,d,l,m,h⟩:=G _ _ _ _ _ _ _ _ (sub false c rfl) z h
   exact ⟨e,d,l,w10 m,h⟩
  |loop c=>
   simp only [sym] at h
   split at h
   ·rename_i t hl
    exact hO.loop _ _ _ _ _ _ _ _ _ M z hl h
   ·obtain ⟨J,s1,l,m,h⟩:=G _ _ _ _ _ _ _ _ (sub false c rfl) z h
    cases J with
    |normal=>
     obtain ⟨e,d,m1,m2,h⟩:=G _ _ _ _ _ _ _ _ M l h
     refine ⟨e,d,m1,z3v (m.mono fun p i u=>?_),h⟩
     obtain ⟨rfl,rfl⟩:=u
     exact m2
    |exit j=>
     refine ⟨_,_,l,z3v (m.mono fun p i u=>?_),h⟩
     obtain ⟨rfl,rfl⟩:=u
     exact ⟨rfl,rfl⟩
    |ret=>
     refine ⟨_,_,l,z3v (m.mono fun p i u=>?_),h⟩
     obtain ⟨rfl,rfl⟩:=u
     exact ⟨rfl,rfl⟩
  |region id ops drawn=>
   cases drawn with
   |false=>
    simp only [sym] at h
    have hl:∀ j o,ops.toList[j]?=some o→ops[0+j]?=some o:=fun j o Z=>by rw [eAy, ←eAt]; exact Z
    have go:∀ (γ:Type) (k:AX→SS→Option γ) (b:γ),(O.view γ n g pos w fun w=>v2z opt std E O (sym opt std E O f) γ n g pos ops.toList 0 ops.toList w fun s'=>k .normal s')=some b→
      ∃ e d,(n≤d.s.heap.length∧z5p P n (.region id ops false) w.s (fun p i=>p=e∧i=d.s))∧k e d=some b:=by
     intro γ k b h
     obtain ⟨w,I,z,h⟩:=hO.view _ _ _ _ _ _ _ z h
     obtain ⟨d,l,this,h⟩:=w39 H hO G ops.toList 0 w hl z h
     refine ⟨_,d,⟨l,z1d I (z7d ?_)⟩,h⟩
     rw [eCg, ←List.range_eq_range'] at this
     exact this.mono fun s h=>⟨rfl,h⟩
    cases V:(x64 ops.toList||t09 E ops.toList) with
    |false=>
     rw [V] at h
     obtain ⟨e,d,⟨l,m⟩,h⟩:=go β k b h
     exact ⟨e,d,l,m,h⟩
    |true=>
     rw [V] at h
     simp only [cond_true] at h
     obtain ⟨e,v,d,⟨X,W⟩,I,C,h⟩:=hO.join _ _ _ _ _ _ _ (fun e v=>n≤v.s.heap.length∧z5p P n (.region id ops false) w.s (fun p i=>p=e∧i=v.s)) (fun γ k b B=>go γ k b B) h
     refine ⟨e,d,C X,z1g (W.mono fun p i u=>?_),h⟩
     obtain ⟨rfl,rfl⟩:=u
     exact ⟨_,I,rfl,rfl⟩
   |true=>
    simp only [sym] at h
    cases F:y8f ops.toList&&z78 ops.toList with
    |false=>rw [F] at h; cases h
    |true=>
    rw [F] at h
    simp only [eAf] at F
    simp only [cond_true] at h
    obtain ⟨w,I,z,h⟩:=hO.view _ _ _ _ _ _ _ z h
    split at h
    ·cases U:E.tl with
     |true=>
      rw [U] at h
      simp only [cond_true] at h
      obtain ⟨s1,l,m,h⟩:=x1m H hO G (nt:=w.s.nt) (ops.toList.take (y73 E.tk E.cl ops.toList)) [] 0 w rfl h
      have b0:=w8t E.tk E.cl ops.toList
      have a0:ops.toList.length=ops.size:=eCg
      obtain ⟨d,k1,k2,h⟩:=w39 H hO G (n:=n) (ops:=ops) (ops.toList.drop (y73 E.tk E.cl ops.toList)) (y73 E.tk E.cl ops.toList) s1 (fun j o Z=>by
       rw [eDh] at Z
       rw [←eAt]; exact Z) (eCt z l) h
      refine ⟨_,d,k1,z1d I (y26 H.mixed H.ti z F.1 F.2 (by omega) (x5u _ _ _) m (Q:=fun p i=>p= .normal∧i=d.s) fun i a2 a5 _=>?_),h⟩
      rw [a2]
      have a6:(ops.toList.drop (y73 E.tk E.cl ops.toList)).length=ops.size - y73 E.tk E.cl ops.toList:=by
       rw [eGe,a0]
      rw [a6] at k2
      exact k2.mono fun s3 h3=>⟨rfl,h3⟩
     |false=>
     rw [U] at h
     simp only [cond_false] at h
     obtain ⟨d,l,m,h⟩:=x1m H hO G (nt:=w.s.nt) ops.toList [] 0 w rfl h
     exact ⟨_,d,eCt z l,z1d I (w6b H.mixed H.ti z F.1 F.2 (m.mono fun i h=>⟨rfl,h⟩)),h⟩
    ·rename_i pre x a3
     cases R:y5d ops.toList with
     |false=>rw [R] at h; cases h
     |true=>
     rw [R] at h
     simp only [cond_true] at h
     obtain ⟨d,l,m,h⟩:=x1m H hO G (nt:=w.s.nt) pre [] 0 w rfl h
     obtain ⟨id,kd,es,ti,ks,ka,ez,q,r,y,hR,h⟩:=v7e H h
     refine ⟨_,_,?_,z1d I (v1b H.mixed H.ti z F.1 F.2 R a3 m (Q:=fun p i=>p= .normal∧i=w1s x d.s id (z67 q r ez) y (z83 es q r kd y)) fun s1 L a5=>⟨id,kd,es,ti,ks,ka,ez,q,r,y,by rw [L]; exact hR,rfl,by rw [L]⟩),h⟩
     exact eCt z (eCt l (z10 _ _ _).1)
  |rangeFunc fo ps a7 Y=>
   simp only [sym] at h
   split at h
   ·rename_i g' first T hf
    obtain ⟨r,N,c1,c2,c3,h⟩:=y98 H hO G (by show _≤(z04 w.s.heap w.s.heap.length _).length; rw [y6l]; exact eAp _) h
    split at h
    ·rename_i st pd b1 a8 a9 env' a4
     have S:st≠ .busy→∀ J s1,y0s N.s (z04 N.s.heap w.s.heap.length .dead) pd=some (J,s1)→n≤s1.heap.length∧z5p P n (.rangeFunc fo ps a7 Y) w.s (fun p i=>p=J∧i=s1):=by
      intro a1 J s1 A
      have L:s1.heap=z04 N.s.heap w.s.heap.length .dead:=by
       unfold y0s at A
       split at A<;>cases A<;>rfl
      refine ⟨?_,y8j M hf c2 z c3 a4 a1 A ⟨rfl,rfl⟩⟩
      rw [L]
      have:=(z10 N.s.heap w.s.heap.length .dead).1
      omega
     cases st with
     |busy=>cases h
     |ready=>
      simp only at h
      split at h
      ·rename_i J s1 A
       obtain ⟨x,y⟩:=S (by simp) _ _ A
       exact ⟨_,⟨s1,N.K⟩,x,y,h⟩
      ·cases h
     |done=>
      simp only at h
      split at h
      ·rename_i J s1 A
       obtain ⟨x,y⟩:=S (by simp) _ _ A
       exact ⟨_,⟨s1,N.K⟩,x,y,h⟩
      ·cases h
     |exhausted=>
      simp only at h
      split at h
      ·rename_i J s1 A
       obtain ⟨x,y⟩:=S (by simp) _ _ A
       exact ⟨_,⟨s1,N.K⟩,x,y,h⟩
      ·cases h
    ·cases h
   ·cases h
  |_=>simp only [sym] at h; cases h
end
def infoOf (P : Program) (g : FuncId) : Option v2q :=
 match P.funcs[g]? with
 | some fn => match fn.body with
  | some c => bif fn.name == "runtime.NumGoroutine" then none else some ⟨c, fn.ntmps, fn.results.toList⟩
  | none => none
 | none => none
theorem enters_of {P : Program} {g : FuncId} {fn : Func} {c : Code} (h : P.funcs[g]? = some fn) (hb : fn.body = some c) (hn : (fn.name == "runtime.NumGoroutine") = false) : z3g P g := by
 intro args w
 have hn' : ¬ (fn.name = "runtime.NumGoroutine") := by simpa using hn
 unfold callFunc
 simp [Sem.program, Sem.run, h, hb, hn']
theorem y2x {P : Program} {g : FuncId} {i : v2q} (h : infoOf P g = some i) : ∃ fn, P.funcs[g]? = some fn ∧ fn.body = some i.body ∧ fn.ntmps = i.nt ∧ fn.results.toList = i.res ∧ z3g P g := by
 unfold infoOf at h
 split at h
 ·rename_i fn hfn
  split at h
  ·rename_i c hc
   cases hn : (fn.name == "runtime.NumGoroutine") with
   | true => rw [hn] at h; cases h
   | false => rw [hn] at h; cases h; exact ⟨fn, hfn, hc, rfl, rfl, enters_of hfn hc hn⟩
  ·cases h
 ·cases h
def t5r (f:TypeId→List CK):List Field→List CK
 |[]=>[]
 |x::r=>f x.type++t5r f r
def t5q:List CK→Option (List CR)
 |[]=>some []
 |c::cs=>match c,t5q cs with
  | .int k,some l=>some (.int k::l)
  | .bool,some l=>some (.bool::l)
  | .str,some l=>some (.str::l)
  | .list z,some l=>some (.list z::l)
  |_,_=>none
def u4u (P:Program):Nat→TypeId→List CK
 |0,_=>[.other]
 |n+1,t=>match P.underlying t with
  |some (.int k)=>[.int k]
  |some .bool=>[.bool]
  |some .string=>[.str]
  |some (.slice e)=>match z92 P e with
   |some z=>[.list z]
   |none=>[.other]
  |some (.struct fs)=>t5r (u4u P n) fs.toList
  |some (.array m e)=>(eAu m (u4u P n e)).flatten
  |some (.pointer e)=>match P.underlying e with
   |some (.struct _)=>match t5q (u4u P n e) with
    |some l=>[.ref l]
    |none=>[.other]
   |_=>[.other]
  |_=>[.other]
def v39 (P:Program) (t:TypeId):List CK:=
 match P.underlying t with
 |some (.slice e)=>u4u P 8 e
 |_=>[]
def v8c (P:Program) (t:TypeId):Bool×List CK:=
 match P.underlying t with
 |some (.map _ e)=>((z4q P e).getD false,u4u P 8 e)
 |_=>(false,[])
def x4a (a:Nat):List Nat→Bool
 |[]=>false
 |b::l=>eAk b a||x4a a l
def autoEnvD (own:List Nat) (P:Program):Env:=⟨v9e P,infoOf P,v39 P,v8c P,z05 P,fun g=>!x4a g own,true,false,fun _=>false,false,fun _=>none⟩
def autoEnvE (own:List Nat) (P:Program):Env:=⟨v9e P,infoOf P,v39 P,v8c P,z05 P,fun g=>!x4a g own,true,true,fun _=>false,false,fun _=>none⟩
def w0e (own a:List Nat) (P:Program):Env:=⟨v9e P,infoOf P,fun _=>[.other],v8c P,z05 P,fun g=>!x4a g own,true,true,fun g=>x4a g a,true,y12 P⟩
theorem y7r {own fz:List Nat} {P:Program} (hm:P.follows .mixedOrders=true):EnvOk P (w0e own fz P) where
 ti:=fun t ti h=>x6v h
 gl:=fun _ _ h=>by first|exact h|cases h
 fn:=fun g i h=>y2x h
 code:=fun g pos c h=>h
 mixed:=hm
theorem autoEnvE_ok {own:List Nat} {P:Program} (hm:P.follows .mixedOrders=true):EnvOk P (autoEnvE own P) where
 ti:=fun t ti h=>x6v h
 gl:=fun _ _ h=>by first|exact h|cases h
 fn:=fun g i h=>y2x h
 code:=fun g pos c h=>h
 mixed:=hm
theorem autoEnvD_ok {own:List Nat} {P:Program} (hm:P.follows .mixedOrders=true):EnvOk P (autoEnvD own P) where
 ti:=fun t ti h=>x6v h
 gl:=fun _ _ h=>by first|exact h|cases h
 fn:=fun g i h=>y2x h
 code:=fun g pos c h=>h
 mixed:=hm
def u8w (A:Alg):Orc A:=⟨fun _ _ _ _ _ _ _ _=>none,fun _ _ _ _ _ _ _=>none,fun _ _ _ _ _=>none,fun β _ _ _ a k=>a β k,fun _ _ _ _ b k=>k b⟩
theorem v5o {P:Program}:y4b P (u8w opt) where
 call:=fun _ _ _ _ _ _ _ _ _ _ _ h=>by cases h
 pure:=fun _ _ _ _ _ _ _ _ _ _ h=>by cases h
 loop:=fun _ _ _ _ _ _ _ _ _ _ _ h=>by cases h
 join:=fun β n g pos body k b G hb h=>by
  obtain ⟨e,ss',hg,hk⟩:=hb β k b h
  exact ⟨e,ss',ss',hg,z6n.refl _ _,fun h=>h,hk⟩
 view:=fun β n g pos ss k b hn h=>⟨ss,z6n.refl _ _,hn,h⟩
def v1i (E:Env) (O:Orc opt) (f:Nat) (g:FuncId) (args:List AV):Option (AV×List AO):=x2a opt E (sym opt std E O f) (AV×List AO) g args [] [] fun r h _=>some (r,h)
theorem v1h {P:Program} {E:Env} {O:Orc opt} (hE:EnvOk P E) (hO:y4b P O) {f:Nat} {g:FuncId} {args:List AV} {r:AV} {h':List AO} (h:v1i E O f g args=some (r,h')):z3s P g args [] r h':=by
 obtain ⟨c,d,e,b,_,_,a⟩:=z9q hE (x73 hE hO f) h
 cases a; exact b
inductive Sc where
 |int|nat|bool|str|rows|map
def Sc.den:Sc→Type
 | .int=>Int
 | .nat=>Nat
 | .bool=>Bool
 | .str=>ByteArray
 | .rows=>List (List D)
 | .map=>List (D×D)
inductive Val where
 |i (n:Int)|n (n:Nat)|b (b:Bool)|s (s:ByteArray)|r (es:List (List D))|m (es:List (D×D))
def Tup:List Sc→Type
 |[]=>Unit
 |s::r=>s.den×Tup r
def STup:List (List Sc)→Type
 |[]=>Empty
 |[t]=>Tup t
 |t::u::ts=>Tup t⊕STup (u::ts)
def toV:(s:Sc)→s.den→Val
 | .int,x=> .i x
 | .nat,x=> .n x
 | .bool,x=> .b x
 | .str,x=> .s x
 | .rows,x=> .r x
 | .map,x=> .m x
def y7x:(a:List Sc)→Tup a→List Val
 |[],_=>[]
 |s::r,x=>toV s x.1::y7x r x.2
def ofV:(s:Sc)→Val→Option s.den
 | .int, .i x=>some x
 | .nat, .n x=>some x
 | .bool, .b x=>some x
 | .str, .s x=>some x
 | .rows, .r x=>some x
 | .map, .m x=>some x
 |_,_=>none
def v5x:(a:List Sc)→List Val→Option (Tup a)
 |[],[]=>some ()
 |s::r,v::vs=>match ofV s v,v5x r vs with
  |some x,some y=>some (x,y)
  |_,_=>none
 |_,_=>none
theorem v47 {s:Sc} {v:Val} {x:s.den} (h:ofV s v=some x):toV s x=v:=by
 cases s<;>cases v<;>cases h<;>rfl
theorem y5v:∀ {a:List Sc} {vs:List Val} {x:Tup a},v5x a vs=some x→y7x a x=vs
 |[],[],x,_=>rfl
 |[],_::_,x,h=>by simp [v5x] at h
 |_::_,[],x,h=>by simp [v5x] at h
 |s::r,v::vs,x,h=>by
  simp only [v5x] at h
  split at h
  ·rename_i y z c b
   cases h
   simp only [y7x,v47 c,y5v b]
  ·cases h
inductive VT where
 |bot
 |int (k:IntKind)|bool|str
 |list (z:Nat)
 |lst (z:Nat)
 |prm
 |ifc (t:TypeId)
 |nilp|nilm|nilf|nili|nils
 |agg (l:List VT)
 |ref (l:List VT)
 |bptr (i off:Nat)
 |ptr (i off:Nat)
 |vec (i z:Nat)
 |full (i z:Nat)
 |sl (i z:Nat)
 |slc (i z:Nat)
 |map (i:Nat)
 |yld (i:Nat)
 |clo (fn:Nat) (fs cs:List VT)
 |tuple (l:List VT)
 deriving Inhabited
inductive OT where
 |dead
 |box (l:List VT)
 |row (ck:List CK)
 |map
 |loop (st:LoopState) (pd:Option Code) (g:Nat) (pos:List Bool) (nt:Nat) (env:List (Nat×VT))
 deriving Inhabited
structure ST where
 env:List (Nat×VT)
 heap:List OT
 nt:Nat
def z77:List OT→List Val→List (Option AO)×List Val
 |[],vs=>([],vs)
 | .row _::t, .r es::vs=>(some (.row es)::(z77 t vs).1,(z77 t vs).2)
 | .map::t, .m es::vs=>(some (.map es)::(z77 t vs).1,(z77 t vs).2)
 |_::t,vs=>(none::(z77 t vs).1,(z77 t vs).2)
def z7o (p:Prim) (L:List (Option AO)) (i:Nat):Nat:=
 match z2d L i with
 |some (some (.row es))=>p.len es
 |_=>0
def v58 (l:List AV):AV:=
 match x2k l with
 |some ds=> .d (.agg ds)
 |none=> .agg l
def v56 (l:List AV):AV:=
 match x2k l with
 |some (d::ds)=> .d (.ref (d::ds))
 |_=> .bot
mutual
def v0t (p:Prim) (L:List (Option AO)):VT→List Val→AV×List Val
 | .bot,vs=>(.bot,vs)
 | .int k, .i n::vs=>(.d (.int k n),vs)
 | .bool, .b b::vs=>(.d (.bool b),vs)
 | .str, .s s::vs=>(.d (.str s),vs)
 | .list z, .r es::vs=>(.d (.list false z es),vs)
 | .lst z, .r es::vs=>(.d (.list true z es),vs)
 | .ifc t,vs=>(.iface t .bot,vs)
 | .prm, .r es::vs=>(.perm es,vs)
 | .nilp,vs=>(.d .nilp,vs)
 | .nilm,vs=>(.d .nilm,vs)
 | .nils,vs=>(.d (.list true 0 []),vs)
 | .nilf,vs=>(.d .nilf,vs)
 | .nili,vs=>(.d .nili,vs)
 | .agg l,vs=>(v58 (z7c p L l vs).1,(z7c p L l vs).2)
 | .ref l,vs=>(v56 (z7c p L l vs).1,(z7c p L l vs).2)
 | .bptr i off,vs=>(.bptr i off,vs)
 | .ptr i off, .n j::vs=>(.ptr i j off,vs)
 | .vec i z,vs=>(.slice i z 0 (z7o p L i) none,vs)
 | .full i z,vs=>(.slice i z 0 (z7o p L i) (some (z7o p L i)),vs)
 | .sl i z, .n off:: .n len::vs=>(.slice i z off len none,vs)
 | .slc i z, .n off:: .n len:: .n c::vs=>(.slice i z off len (some c),vs)
 | .map i,vs=>(.map i,vs)
 | .yld i,vs=>(.yld i,vs)
 | .clo fn fs cs,vs=>(.clo (.func fn) (z7c p L fs vs).1 (z7c p L cs (z7c p L fs vs).2).1,(z7c p L cs (z7c p L fs vs).2).2)
 | .tuple l,vs=>(.tuple (z7c p L l vs).1,(z7c p L l vs).2)
 |_,vs=>(.bot,vs)
def z7c (p:Prim) (L:List (Option AO)):List VT→List Val→List AV×List Val
 |[],vs=>([],vs)
 |t::ts,vs=>((v0t p L t vs).1::(z7c p L ts (v0t p L t vs).2).1,(z7c p L ts (v0t p L t vs).2).2)
end
def v0u (p:Prim) (L:List (Option AO)):List (Nat×VT)→List Val→List (Nat×AV)×List Val
 |[],vs=>([],vs)
 |(k,t)::ts,vs=>((k,(v0t p L t vs).1)::(v0u p L ts (v0t p L t vs).2).1,(v0u p L ts (v0t p L t vs).2).2)
def u2t (p:Prim) (L:List (Option AO)) (o:Option AO):OT→List Val→AO×List Val
 | .box l,vs=>(.box (z7c p L l vs).1,(z7c p L l vs).2)
 | .loop st a g pos nt env,vs=>(.loop st a g pos nt (v0u p L env vs).1,(v0u p L env vs).2)
 |_,vs=>(match o with|some o=>o|none=> .dead,vs)
def y7z (p:Prim) (L:List (Option AO)):List (Option AO)→List OT→List Val→List AO×List Val
 |o::os,t::ts,vs=>((u2t p L o t vs).1::(y7z p L os ts (u2t p L o t vs).2).1,(y7z p L os ts (u2t p L o t vs).2).2)
 |_,_,vs=>([],vs)
def w51 (p:Prim) (t:ST) (vs:List Val):AS:=
 ⟨(v0u p (z77 t.heap vs).1 t.env (y7z p (z77 t.heap vs).1 (z77 t.heap vs).1 t.heap (z77 t.heap vs).2).2).1,(y7z p (z77 t.heap vs).1 (z77 t.heap vs).1 t.heap (z77 t.heap vs).2).1,t.nt⟩
abbrev u7e:=List Bool×List Val
def y7y (σ:List (Option Nat)) (i a:Nat):Bool:=
 match z2d σ i with
 |some (some b)=>eAk a b
 |_=>false
def w90 (σ:List (Option Nat)) (i:Nat):Bool:=
 match z2d σ i with
 |some none=>true
 |_=>false
mutual
def z3m (p:Prim) (h:List AO) (σ τ:List (Option Nat)) (L:List (Option AO)):VT→AV→Option u7e
 | .bot,_=>some ([],[])
 | .int k, .d (.int k' n)=>bif k==k' then some ([],[.i n]) else none
 | .bool, .d (.bool b)=>some ([],[.b b])
 | .str, .d (.str s)=>some ([],[.s s])
 | .list z, .d (.list f z' es)=>bif eAk z z' then some ([],[.r es]) else match es with
  |[]=>some ([],[.r []])
  |_=>none
 | .list z, .slice a z' off len _=>bif y0g τ a then none else bif eAk z z' then match z0e h a with
  | .row es=>some ([p.leN (p.add off len) (p.len es)],[.r (p.cut es off len)])
  |_=>none
  else none
 | .lst z, .d (.list f z' es)=>bif eAk z z' then some ([f],[.r es]) else match es with
  |[]=>some ([f],[.r []])
  |_=>none
 | .lst z, .slice a z' off len (some c)=>bif y0g τ a then none else bif eAk z z' then match z0e h a with
  | .row es=>some ([p.leN (p.add off len) (p.len es),p.eqN len c],[.r (p.cut es off len)])
  |_=>none
  else none
 | .prm, .perm es=>some ([],[.r es])
 | .ifc t, .iface t' _=>bif eAk t t' then some ([],[]) else none
 | .nilp, .d .nilp=>some ([],[])
 | .nilm, .d .nilm=>some ([],[])
 | .nils, .d (.list true _ [])=>some ([],[])
 | .nilf, .d .nilf=>some ([],[])
 | .nili, .d .nili=>some ([],[])
 | .agg l, .d (.agg ds)=>y14 p h σ τ L l (toA ds)
 | .agg l, .agg xs=>y14 p h σ τ L l xs
 | .ref l, .d (.ref ds)=>y14 p h σ τ L l (toA ds)
 | .ref l, .bptr a off=>bif y0g τ a then none else match off,z0e h a with
  |0, .box cells=>y14 p h σ τ L l cells
  |_,_=>none
 | .bptr i off, .bptr a off'=>bif y7y σ i a&&eAk off off' then some ([],[]) else none
 | .ptr i off, .ptr a j off'=>bif y7y σ i a&&eAk off off' then some ([],[.n j]) else none
 | .vec i z, .slice a z' off len none=>bif y7y σ i a&&eAk z z' then some ([p.eqN off 0,p.eqN len (z7o p L i)],[]) else none
 | .vec i z, .slice a z' off len (some c)=>bif y7y σ i a&&eAk z z' then match z0e h a with
  | .row es=>some ([p.eqN off 0,p.eqN len (z7o p L i),p.leN (p.add off c) (p.len es)],[])
  |_=>none
  else none
 | .vec i z, .d (.list true _ [])=>bif w90 σ i then match z2d L i with
  |some (some (.row []))=>some ([],[])
  |_=>none
  else none
 | .full i z, .slice a z' off len (some c)=>bif y7y σ i a&&eAk z z' then some ([p.eqN off 0,p.eqN len (z7o p L i),p.eqN c (z7o p L i)],[]) else none
 | .sl i z, .slice a z' off len none=>bif y7y σ i a&&eAk z z' then some ([],[.n off, .n len]) else none
 | .sl i z, .slice a z' off len (some c)=>bif y7y σ i a&&eAk z z' then match z0e h a with
  | .row es=>some ([p.leN (p.add off c) (p.len es)],[.n off, .n len])
  |_=>none
  else none
 | .sl i z, .d (.list true _ [])=>bif w90 σ i then match z2d L i with
  |some (some (.row []))=>some ([],[.n 0, .n 0])
  |_=>none
  else none
 | .slc i z, .slice a z' off len (some c)=>bif y7y σ i a&&eAk z z' then some ([],[.n off, .n len, .n c]) else none
 | .map i, .map a=>bif y7y σ i a then some ([],[]) else none
 | .yld i, .yld a=>bif y7y σ i a then some ([],[]) else none
 | .clo fn fs cs, .clo (.func fn') fs' cs'=>bif eAk fn fn' then match y14 p h σ τ L fs fs',y14 p h σ τ L cs cs' with
  |some (c1,v1),some (c2,v2)=>some (c1++c2,v1++v2)
  |_,_=>none
  else none
 | .tuple l, .tuple xs=>y14 p h σ τ L l xs
 |_,_=>none
def y14 (p:Prim) (h:List AO) (σ τ:List (Option Nat)) (L:List (Option AO)):List VT→List AV→Option u7e
 |[],[]=>some ([],[])
 |t::ts,x::xs=>match z3m p h σ τ L t x,y14 p h σ τ L ts xs with
  |some (c1,v1),some (c2,v2)=>some (c1++c2,v1++v2)
  |_,_=>none
 |_,_=>none
end
def v9g (p:Prim) (h:List AO) (σ τ:List (Option Nat)) (L:List (Option AO)) (env:List (Nat×AV)):List (Nat×VT)→Option u7e
 |[]=>some ([],[])
 |(k,t)::ts=>match z3m p h σ τ L t (z0z env k),v9g p h σ τ L env ts with
  |some (c,v1),some (b,a)=>some (c++b,v1++a)
  |_,_=>none
def y31 (h:List AO):List OT→List (Option Nat)→Option (List Val)
 |[],[]=>some []
 | .row _::t,some a::σ=>match z0e h a with
  | .row es=>(y31 h t σ).map fun r=> .r es::r
  | .arow es=>match y8p es with
   |some l=>(y31 h t σ).map fun r=> .r l::r
   |none=>none
  |_=>none
 | .row _::t,none::σ=>(y31 h t σ).map fun r=> .r []::r
 | .map::t,some a::σ=>match z0e h a with
  | .map es=>(y31 h t σ).map fun r=> .m es::r
  |_=>none
 | .map::_,none::_=>none
 | .box _::t,some _::σ=>y31 h t σ
 | .box _::_,none::_=>none
 | .loop ..::t,some _::σ=>y31 h t σ
 | .loop ..::_,none::_=>none
 | .dead::t,_::σ=>y31 h t σ
 |_,_=>none
def t2w:LoopState→LoopState→Bool
 | .ready, .ready| .busy, .busy| .done, .done| .exhausted, .exhausted=>true
 |_,_=>false
def t2v:Option Code→Option Code→Bool
 |none,none=>true
 |some .ret,some .ret=>true
 |some (.exit i),some (.exit j)=>eAk i j
 |_,_=>false
def y8i:List Bool→List Bool→Bool
 |[],[]=>true
 |a::l,b::r=>(a==b)&&y8i l r
 |_,_=>false
def x2r (p:Prim) (h:List AO) (b τ:List (Option Nat)) (L:List (Option AO)):List OT→List (Option Nat)→Option u7e
 |[],[]=>some ([],[])
 | .box l::t,some a::σ=>match z0e h a with
  | .box cells=>match y14 p h b τ L l cells,x2r p h b τ L t σ with
   |some (k,v1),some (j,d)=>some (k++j,v1++d)
   |_,_=>none
  |_=>none
 | .loop st m g pos nt env::t,some a::σ=>match z0e h a with
  | .loop e f n c i env'=>bif t2w st e&&(t2v m f&&(eAk g n&&(y8i pos c&&eAk nt i))) then match v9g p h b τ L env' env,x2r p h b τ L t σ with
   |some (k,v1),some (j,d)=>some (k++j,v1++d)
   |_,_=>none
   else none
  |_=>none
 | .box _::_,none::_=>none
 | .loop ..::_,none::_=>none
 |_::t,_::σ=>x2r p h b τ L t σ
 |_,_=>none
def x37:Nat→Nat→List (Option Nat)→Bool
 |_,0,_=>true
 |i,n+1,some a::r=>eAk i a&&x37 (i+1) n r
 |_,_+1,_=>false
def y42:List OT→List (Option Nat)→List (Option Nat)
 | .dead::ts,_::σ=>none::y42 ts σ
 |_::ts,s::σ=>s::y42 ts σ
 |_,_=>[]
def t2t (p:Prim) (n:Nat) (t:ST) (σ:List (Option Nat)) (s:AS):Option u7e:=
 bif eAk s.nt t.nt&&(w1r (y42 t.heap σ)&&x37 0 n σ) then match y31 s.heap t.heap σ with
  |some v1=>match x2r p s.heap σ (y42 t.heap σ) (z77 t.heap v1).1 t.heap σ,v9g p s.heap σ (y42 t.heap σ) (z77 t.heap v1).1 s.env t.env with
   |some (d,b),some (c,a)=>some (d++c,v1++(b++a))
   |_,_=>none
  |none=>none
 else none
def z1o:List Bool→Bool
 |[]=>true
 |b::l=>b&&z1o l
theorem z2w {a b:List Bool} (h:z1o (a++b)=true):z1o a=true∧z1o b=true:=by
 induction a with
 |nil=>exact ⟨rfl,h⟩
 |cons x a c=>
  simp only [eGr,z1o,eAf] at h⊢
  exact ⟨⟨h.1,(c h.2).1⟩,(c h.2).2⟩
section
variable {P:Program}
structure w8f (P:Program) (ρ ρ':Rho) (O':Nat→Prop) (h:List AO) (w:World) (σ τ:List (Option Nat)) (L:List (Option AO)):Prop where
 hr:z0b P ρ h w
 loc:∀ i a,z2d σ i=some (some a)→ρ' i=ρ a
 sub:∀ b,O' b→z0f ρ h b
 out:∀ a M,ρ a=some M→(z0e h a).live=true→y0g τ a=false→¬ O' M.blk
variable {ρ ρ':Rho} {O':Nat→Prop} {h:List AO} {w:World} {σ τ:List (Option Nat)} {L:List (Option AO)}
theorem x98 {P:Program} {ρ ρ':Rho} {O':Nat→Prop} {h:List AO} {w:World} (C:z0b P ρ h w) {i a z off len b:Nat} (E:ρ' i=ρ a) {es:List (List D)} (p:z0e h a= .row es)
  (k:std.leN (std.add off b) (std.len es)=true) {v:Value} (y:z0q ρ (z0f ρ h) w (.slice a z off len (some b)) v):z0q ρ' O' w (.slice i z off len none) v:=by
 have k:off+b≤es.length:=z2x k
 cases y with
 |slice _ _ _ _ _ M J I s x H n o=>
  have G:b=I:=by
   rcases n with h|⟨h,_⟩
   ·cases h; rfl
   ·cases h
  subst G
  cases l:b with
  |zero=>
   subst l
   have:len=0:=by omega
   subst this
   exact .nils _ _ _ _ _ (.inl rfl)
  |succ m=>
   rw [←l]
   refine .slice _ _ _ _ _ M _ _ (E▸s) x H (.inr ⟨rfl,?_⟩) o
   have f:=(C.obj _ _ s).2
   rw [p] at f
   obtain ⟨r,c,t,q,j,d⟩:=f
   refine ⟨c.size,by simp [z1c,q],?_⟩
   have g:off+b - 1<es.length:=by omega
   have B:=j _ _ (eAd g)
   have F:M.esz - 1<(es[off+b - 1]).length:=by omega
   obtain ⟨u,A,_⟩:=d _ _ _ _ (eAd g) (eAd F)
   have:=(eAi.1 A).1
   have e:(off+b)*M.esz=(off+b - 1)*M.esz+M.esz:=by
    rw [←Nat.succ_mul]; congr 1; omega
   omega
 |nils _ _ _ _ J n=>exact .nils _ _ _ _ _ (.inl rfl)
theorem z4v {i a:Nat} (h:y7y σ i a=true):z2d σ i=some (some a):=by
 unfold y7y at h
 split at h
 ·rename_i b c; rw [c,eAg h]
 ·cases h
theorem w8f.keep (c:w8f P ρ ρ' O' h w σ τ L):z5d (z0f ρ h) O' w w:=⟨eAp _,fun _ _ _=>rfl,fun b _ a=>c.sub b a,fun _ _ h=>h,z0v.refl _⟩
theorem w5k (c:w8f P ρ ρ' O' h w σ τ L) {a z off len:Nat} {cap:Option Nat} {es:List (List D)} (hm:y0g τ a=false) (G:z0e h a= .row es) (C:std.leN (std.add off len) (std.len es)=true) {v:Value} (Z:z0q ρ (z0f ρ h) w (.slice a z off len cap) v):
  z1m O' w (.list false z (std.cut es off len)) v:=by
 have C:off+len≤es.length:=z2x C
 show z1m O' w (.list false z ((es.drop off).take len)) v
 cases Z with
 |nils _ _ _ _ a hc=>simp only [eGg]; exact .lnil _ _ _ _ (by simp)
 |slice _ _ _ _ _ M a' cc X Y ha hc hl=>
  obtain ⟨W,A⟩:=c.hr.obj a M X
  rw [G] at A
  obtain ⟨o,cs,t,T,g,x⟩:=A
  cases B:len with
  |zero=>simp only [eGg]; exact .lnil _ _ _ _ (by simp)
  |succ m=>
   rw [←B]
   have f:((es.drop off).take len).length=len:=by simp; omega
   have V:0<len:=by omega
   have b:∀ i r,((es.drop off).take len)[i]?=some r→i<len∧es[off+i]?=some r:=by
    intro i r n
    have q:i<len:=by rw [←f]; exact (eAe.1 n).1
    refine ⟨q,?_⟩
    rw [eFy q,eDh] at n
    exact n
   have y:¬ O' M.blk:=c.out a M X (by rw [G]; rfl) hm
   have U:a'=some ⟨M.blk,M.base+off*M.esz,none⟩:=ha (by omega)
   subst Y
   subst U
   have s:∀ k,k<len*M.esz→∃ u,cs[M.base+off*M.esz+k]?=some u∧u.oneCell'=true∧∀ d,(∃ r,((es.drop off).take len)[k / M.esz]?=some r∧r[k % M.esz]?=some d)→z1m O' w d u:=by
    intro k N
    have n:k / M.esz<len:=(eFw o).2 N
    have q:k / M.esz<((es.drop off).take len).length:=by rw [f]; exact n
    have he:=(b (k / M.esz) _ (eAd q)).2
    generalize ((es.drop off).take len)[k / M.esz]=r at he
    have J:=g _ r he
    have F:k % M.esz<r.length:=by rw [J]; exact eGh _ o
    obtain ⟨u,p,I,S⟩:=x _ r _ r[k % M.esz] he (eAd F)
    have Q:M.base+(off+k / M.esz)*M.esz+k % M.esz=M.base+off*M.esz+k:=by
     have:=Nat.div_add_mod k M.esz
     rw [eBe,eFm (k / M.esz)]; omega
    rw [Q] at p
    refine ⟨u,p,I,fun d R=>?_⟩
    obtain ⟨r',K,H⟩:=R
    have:=(b _ _ K).2
    rw [he] at this; cases this
    rw [eAd F] at H; cases H
    exact S.keep c.keep
   have key:=z1m.list (O:=O') (w:=w) false ((es.drop off).take len) M.blk (M.base+off*M.esz) M.esz cc o
    (by intro e; rw [e] at f; simp at f; omega) y (by rw [f]; exact hl) (by simp) (fun i r n=>g _ r (b i r n).2)
    (fun k=>(cs[M.base+off*M.esz+k]?).getD undef) (fun k l=>?_) (fun k l=>?_) (fun i r j d n F=>?_)
   ·rw [f] at key; exact key
   ·rw [f] at l
    obtain ⟨u,p,I,_⟩:=s k l
    rw [p]; exact I
   ·rw [f] at l
    obtain ⟨u,p,I,_⟩:=s k l
    rw [p]; exact y37 T p
   ·have E:j<M.esz:=by rw [←g _ r (b i r n).2]; exact (eAe.1 F).1
    have a0:=(b i r n).1
    have l:i*M.esz+j<len*M.esz:=by
     have:(i+1)*M.esz≤len*M.esz:=eBi _ (by omega)
     rw [eBe,Nat.one_mul] at this; omega
    obtain ⟨u,p,_,S⟩:=s _ l
    rw [p]
    refine S d ⟨r,?_,?_⟩
    ·rw [show (i*M.esz+j) / M.esz=i by rw [eFm,Nat.mul_add_div o,Nat.div_eq_of_lt E,eBk]]; exact n
    ·rw [show (i*M.esz+j) % M.esz=j by rw [eFm,Nat.mul_add_mod,eDz E]]; exact F
theorem v0c (c:w8f P ρ ρ' O' h w σ τ L) {a z off len:Nat} {es:List (List D)} (hm:y0g τ a=false) (r:z0e h a= .row es) (i:std.leN (std.add off len) (std.len es)=true) {v:Value} (f:z0q ρ (z0f ρ h) w (.slice a z off len (some len)) v):
  z1m O' w (.list true z (std.cut es off len)) v:=by
 have h:=w5k c hm r i f
 have u:off+len≤es.length:=z2x i
 have g:(std.cut es off len).length=len:=by
  show ((es.drop off).take len).length=len
  simp; omega
 have l:∃ e,v= .slice e len len:=by
  have key:∀ k,k=len→z0q ρ (z0f ρ ‹List AO›) w (.slice a z off k (some len)) v→∃ e,v= .slice e len len:=by
   intro k x f
   cases f with
   |nils _ _ _ _ e d=>
    rcases d with d|d
    ·cases d
    ·cases d; exact ⟨e,rfl⟩
   |slice _ _ _ _ _ M e j F t E d C=>
    subst x
    rcases d with d|⟨d,_⟩
    ·cases d; exact ⟨e,rfl⟩
    ·cases d
  exact key len rfl f
 obtain ⟨e,rfl⟩:=l
 generalize std.cut es off len=q at h g
 have key:∀ v,v=Value.slice e len len→z1m O' w (.list false z q) v→z1m O' w (.list true z q) v:=by
  intro v f h
  cases h with
  |lnil _ _ b j A=>
   simp at g
   cases f
   exact .lnil _ _ _ _ (fun _=>g.symm)
  |list _ _ b o _ j t n hO p A m cell B d y=>
   have s:j=q.length:=by
    have G:j=len:=by cases f; rfl
    omega
   exact .list true _ b o _ j t n hO p (fun _=>s) m cell B d y
 exact key _ rfl h
theorem x31 {O:Nat→Prop} {ρ:Rho} (xs:List AV) (vs:Array Value) (a:vs.size=xs.length) (b:∀ (i:Nat) (x:AV),xs[i]?=some x→z0q ρ O w x (vs.getD i undef)):z0q ρ O w (v58 xs) (.agg vs):=by
 unfold v58
 split
 ·rename_i ds hds
  have e:=z2b hds
  refine .d (.agg _ _ (by rw [a,e,z01]) fun i d c=>?_)
  have:=b i (.d d) (by rw [e,z1p,c]; rfl)
  cases this; assumption
 ·exact .agg _ _ a b
theorem x30 {O:Nat→Prop} {ρ:Rho} (xs:List AV) (b o:Nat) (cell:Nat→Value) (hO:¬ O b) (g:∀ k,k<xs.length→w.cell? ⟨b,o+k,none⟩=some (cell k)) (c:∀ (i:Nat) (x:AV),xs[i]?=some x→z0q ρ O w x (cell i)):z0q ρ O w (v56 xs) (.pointer (some ⟨b,o,none⟩)):=by
 unfold v56
 split
 ·rename_i d ds hds
  have e:=z2b hds
  refine .d (.ref _ b o (by simp) hO cell (fun k a=>g k (by rw [e,z01]; exact a)) fun i h f=>?_)
  have:=c i (.d h) (by rw [e,z1p,f]; rfl)
  cases this; assumption
 ·exact .bot _
theorem v1o {k a:IntKind} (h:(k==a)=true):k=a:=by simpa using h
def VOk (ρ ρ':Rho) (O O':Nat→Prop) (w:World) (L:List (Option AO)) (t:VT) (x:AV) (a:List Val):Prop:=
 ∀ rest,(v0t std L t (a++rest)).2=rest∧∀ v,z0q ρ O w x v→z0q ρ' O' w (v0t std L t (a++rest)).1 v
def VsOk (ρ ρ':Rho) (O O':Nat→Prop) (w:World) (L:List (Option AO)) (ts:List VT) (xs:List AV) (a:List Val):Prop:=
 ∀ rest,(z7c std L ts (a++rest)).2=rest∧(z7c std L ts (a++rest)).1.length=xs.length∧
  ∀ (f:Nat→Value),(∀ i x,xs[i]?=some x→z0q ρ O w x (f i))→∀ i y,(z7c std L ts (a++rest)).1[i]?=some y→z0q ρ' O' w y (f i)
theorem z7w {a b:Nat} (h:std.eqN a b=true):a=b:=eAg h
mutual
theorem w5t (c:w8f P ρ ρ' O' h w σ τ L):(t:VT)→(x:AV)→(cs:List Bool)→(ws:List Val)→z3m std h σ τ L t x=some (cs,ws)→z1o cs=true→VOk ρ ρ' (z0f ρ h) O' w L t x ws
 | .bot,x,cs,ws,hf,hc=>by
  cases x<;>(simp only [z3m] at hf; cases hf; exact fun rest=>⟨rfl,fun v hv=> .bot v⟩)
 | .int k,x,cs,ws,hf,hc=>by
  cases x with
  |d d=>
   cases d with
   |int k' n=>
    simp only [z3m] at hf
    cases hk:(k==k') with
    |false=>rw [hk] at hf; cases hf
    |true=>
     rw [hk] at hf; cases hf
     have:=v1o hk; subst this
     exact fun rest=>⟨rfl,fun v hv=>by cases hv with|d hv=>exact .d (hv.keep c.keep)⟩
   |_=>simp only [z3m] at hf; cases hf
  |_=>simp only [z3m] at hf; cases hf
 | .bool,x,cs,ws,hf,hc=>by
  cases x with
  |d d=>
   cases d with
   |bool b=>simp only [z3m] at hf; cases hf; exact fun rest=>⟨rfl,fun v hv=>by cases hv with|d hv=>exact .d (hv.keep c.keep)⟩
   |_=>simp only [z3m] at hf; cases hf
  |_=>simp only [z3m] at hf; cases hf
 | .str,x,cs,ws,hf,hc=>by
  cases x with
  |d d=>
   cases d with
   |str b=>simp only [z3m] at hf; cases hf; exact fun rest=>⟨rfl,fun v hv=>by cases hv with|d hv=>exact .d (hv.keep c.keep)⟩
   |_=>simp only [z3m] at hf; cases hf
  |_=>simp only [z3m] at hf; cases hf
 | .list z,x,cs,ws,hf,hc=>by
  cases x with
  |d d=>
   cases d with
   |list f z' es=>
    simp only [z3m] at hf
    cases hz:eAk z z' with
    |true=>
     rw [hz] at hf; cases hf
     have:=eAg hz; subst this
     exact fun rest=>⟨rfl,fun v hv=>by cases hv with|d hv=>exact .d ((hv.keep c.keep).le (show DLe (.list f z es) (.list false z es) from .inl (Or.inr (Or.inl ⟨z,rfl,Or.inl rfl⟩))))⟩
    |false=>
     rw [hz] at hf
     cases es with
     |nil=>cases hf; exact fun rest=>⟨rfl,fun v hv=>by cases hv with|d hv=>exact .d ((hv.keep c.keep).le (show DLe (.list f z' []) (.list false z []) from .inl (Or.inr (Or.inl ⟨z,rfl,Or.inr rfl⟩))))⟩
     |cons _ _=>cases hf
   |_=>simp only [z3m] at hf; cases hf
  |slice a z' off len cap=>
   simp only [z3m] at hf
   cases hm:y0g τ a with
   |true=>rw [hm] at hf; cases hf
   |false=>
    rw [hm] at hf; simp only [cond_false] at hf
    cases hz:eAk z z' with
    |false=>rw [hz] at hf; cases hf
    |true=>
     rw [hz] at hf; simp only [cond_true] at hf
     have:=eAg hz; subst this
     split at hf
     ·rename_i es hes
      cases hf
      simp only [z1o,eDm] at hc
      exact fun rest=>⟨rfl,fun v hv=> .d (w5k c hm hes hc hv)⟩
     ·cases hf
  |_=>simp only [z3m] at hf; cases hf
 | .lst z,x,cs,ws,hf,hc=>by
  cases x with
  |d d=>
   cases d with
   |list f z' es=>
    simp only [z3m] at hf
    cases hz:eAk z z' with
    |true=>
     rw [hz] at hf; cases hf
     have:=eAg hz; subst this
     simp only [z1o,eDm] at hc
     subst hc
     exact fun rest=>⟨rfl,fun v hv=>by cases hv with|d hv=>exact .d (hv.keep c.keep)⟩
    |false=>
     rw [hz] at hf
     cases es with
     |nil=>
      cases hf
      simp only [z1o,eDm] at hc
      subst hc
      refine fun rest=>⟨rfl,fun v hv=>?_⟩
      cases hv with|d hv=>
      cases hv with
      |lnil _ _ a cc h=>exact .d (.lnil _ _ _ _ h)
      |list _ _ _ _ _ _ _ hne=>exact absurd rfl hne
     |cons _ _=>cases hf
   |_=>simp only [z3m] at hf; cases hf
  |slice a z' off len cap=>
   cases cap with
   |none=>simp only [z3m] at hf; cases hf
   |some k=>
   simp only [z3m] at hf
   cases hm:y0g τ a with
   |true=>rw [hm] at hf; cases hf
   |false=>
    rw [hm] at hf; simp only [cond_false] at hf
    cases hz:eAk z z' with
    |false=>rw [hz] at hf; cases hf
    |true=>
     rw [hz] at hf; simp only [cond_true] at hf
     have:=eAg hz; subst this
     split at hf
     ·rename_i es hes
      cases hf
      simp only [z1o,eDm,eAf] at hc
      have hk:=z7w hc.2
      subst hk
      exact fun rest=>⟨rfl,fun v hv=> .d (v0c c hm hes hc.1 hv)⟩
     ·cases hf
  |_=>simp only [z3m] at hf; cases hf
 | .prm,x,cs,ws,hf,hc=>by
  cases x with
  |perm es=>
   simp only [z3m] at hf
   cases hf
   exact fun rest=>⟨rfl,fun v hv=>by cases hv with|perm _ es' _ hp h=>exact .perm _ es' _ hp (h.keep c.keep)⟩
  |_=>simp only [z3m] at hf; cases hf
 | .ifc t,x,cs,ws,hf,hc=>by
  cases x with
  |iface t' y=>
   simp only [z3m] at hf
   cases ht:eAk t t' with
   |false=>rw [ht] at hf; cases hf
   |true=>
    rw [ht] at hf; cases hf
    have:=eAg ht; subst this
    exact fun rest=>⟨rfl,fun v hv=>by cases hv with|iface _ _ u h=>exact .iface _ _ u (.bot u)⟩
  |_=>simp only [z3m] at hf; cases hf
 | .nilp,x,cs,ws,hf,hc=>by
  cases x with
  |d d=>cases d<;>simp only [z3m] at hf<;>cases hf; exact fun rest=>⟨rfl,fun v hv=>by cases hv with|d hv=>exact .d (hv.keep c.keep)⟩
  |_=>simp only [z3m] at hf; cases hf
 | .nilm,x,cs,ws,hf,hc=>by
  cases x with
  |d d=>cases d<;>simp only [z3m] at hf<;>cases hf; exact fun rest=>⟨rfl,fun v hv=>by cases hv with|d hv=>exact .d (hv.keep c.keep)⟩
  |_=>simp only [z3m] at hf; cases hf
 | .nils,x,cs,ws,hf,hc=>by
  cases x with
  |d d=>
   cases d with
   |list f z es=>
    cases f with
    |false=>cases es<;>(simp only [z3m] at hf; cases hf)
    |true=>
     cases es with
     |cons _ _=>simp only [z3m] at hf; cases hf
     |nil=>
      simp only [z3m] at hf
      cases hf
      refine fun rest=>⟨rfl,fun v hv=>?_⟩
      cases hv with|d hv=>
      cases hv with
      |lnil _ _ a cc h=>exact .d (.lnil _ _ _ _ h)
      |list _ _ _ _ _ _ _ hne=>exact absurd rfl hne
   |_=>simp only [z3m] at hf; cases hf
  |_=>simp only [z3m] at hf; cases hf
 | .nilf,x,cs,ws,hf,hc=>by
  cases x with
  |d d=>cases d<;>simp only [z3m] at hf<;>cases hf; exact fun rest=>⟨rfl,fun v hv=>by cases hv with|d hv=>exact .d (hv.keep c.keep)⟩
  |_=>simp only [z3m] at hf; cases hf
 | .nili,x,cs,ws,hf,hc=>by
  cases x with
  |d d=>cases d<;>simp only [z3m] at hf<;>cases hf; exact fun rest=>⟨rfl,fun v hv=>by cases hv with|d hv=>exact .d (hv.keep c.keep)⟩
  |_=>simp only [z3m] at hf; cases hf
 | .agg l,x,cs,ws,hf,hc=>by
  cases x with
  |d d=>
   cases d with
   |agg ds=>
    simp only [z3m] at hf
    have ih:=z54 c l (toA ds) cs ws hf hc
    intro rest
    obtain ⟨a,b,e⟩:=ih rest
    refine ⟨a,fun v hv=>?_⟩
    cases hv with|d hv=>
    cases hv with|agg _ vs hl hh=>
    refine x31 _ vs (by rw [b,z01]; exact hl) (e (fun i=>vs.getD i undef) (fun i x hx=>?_))
    rw [z1p] at hx
    cases hq:ds[i]? with
    |none=>rw [hq] at hx; cases hx
    |some d=>rw [hq] at hx; cases hx; exact .d (hh i d hq)
   |_=>simp only [z3m] at hf; cases hf
  |agg xs=>
   simp only [z3m] at hf
   have ih:=z54 c l xs cs ws hf hc
   intro rest
   obtain ⟨a,b,e⟩:=ih rest
   refine ⟨a,fun v hv=>?_⟩
   cases hv with|agg _ vs hl hh=>
   exact x31 _ vs (by rw [b]; exact hl) (e (fun i=>vs.getD i undef) hh)
  |_=>simp only [z3m] at hf; cases hf
 | .ref l,x,cs,ws,hf,hc=>by
  cases x with
  |d d=>
   cases d with
   |ref ds=>
    simp only [z3m] at hf
    have ih:=z54 c l (toA ds) cs ws hf hc
    intro rest
    obtain ⟨a,b,e⟩:=ih rest
    refine ⟨a,fun v hv=>?_⟩
    cases hv with|d hv=>
    cases hv with|ref _ bb o hne hO cell hcc hh=>
    refine x30 _ bb o cell (fun h=>hO (c.sub _ h)) (fun k hk=>hcc k (by rw [b,z01] at hk; exact hk)) (e cell (fun i x hx=>?_))
    rw [z1p] at hx
    cases hq:ds[i]? with
    |none=>rw [hq] at hx; cases hx
    |some d=>rw [hq] at hx; cases hx; exact .d (hh i d hq)
   |_=>simp only [z3m] at hf; cases hf
  |bptr a off=>
   simp only [z3m] at hf
   cases hm:y0g τ a with
   |true=>rw [hm] at hf; cases hf
   |false=>
    rw [hm] at hf; simp only [cond_false] at hf
    split at hf
    ·rename_i cells hcells
     have ih:=z54 c l cells cs ws hf hc
     intro rest
     obtain ⟨a',b',e⟩:=ih rest
     refine ⟨a',fun v hv=>?_⟩
     cases hv with|bptr _ _ M hM=>
     obtain ⟨hblk,hob⟩:=c.hr.obj a M hM
     rw [hcells] at hob
     obtain ⟨_,cc,t,hcc,hj⟩:=hob
     have hown:¬ O' M.blk:=c.out a M hM (by rw [hcells]; rfl) hm
     have hget:∀ k x,cells[k]?=some x→∃ u,cc[M.base+k]?=some u∧(cc[M.base+k]?).getD undef=u∧z0q ρ (z0f ρ h) w x u:=fun k x hx=>by
      obtain ⟨u,hu,hr⟩:=hj k x hx
      exact ⟨u,hu,by rw [hu]; rfl,hr⟩
     exact x30 _ M.blk M.base (fun k=>(cc[M.base+k]?).getD undef) hown (fun k hk=>by
      rw [b'] at hk
      obtain ⟨u,hu,h2,_⟩:=hget k _ (eAd hk)
      rw [h2]; exact y37 hcc hu) (e (fun k=>(cc[M.base+k]?).getD undef) (fun i x hx=>by
      obtain ⟨u,hu,h2,h3⟩:=hget i x hx
      rw [h2]; exact h3))
    ·cases hf
  |_=>simp only [z3m] at hf; cases hf
 | .bptr i off,x,cs,ws,hf,hc=>by
  cases x with
  |bptr a off'=>
   simp only [z3m] at hf
   cases hb:y7y σ i a&&eAk off off' with
   |false=>rw [hb] at hf; cases hf
   |true=>
    rw [hb] at hf; cases hf
    simp only [eAf] at hb
    have:=eAg hb.2; subst this
    exact fun rest=>⟨rfl,fun v hv=>by cases hv with|bptr _ _ M hM=>exact .bptr _ _ M (by rw [c.loc _ _ (z4v hb.1)]; exact hM)⟩
  |_=>simp only [z3m] at hf; cases hf
 | .ptr i off,x,cs,ws,hf,hc=>by
  cases x with
  |ptr a j off'=>
   simp only [z3m] at hf
   cases hb:y7y σ i a&&eAk off off' with
   |false=>rw [hb] at hf; cases hf
   |true=>
    rw [hb] at hf; cases hf
    simp only [eAf] at hb
    have:=eAg hb.2; subst this
    exact fun rest=>⟨rfl,fun v hv=>by cases hv with|ptr _ _ _ M hM=>exact .ptr _ _ _ M (by rw [c.loc _ _ (z4v hb.1)]; exact hM)⟩
  |_=>simp only [z3m] at hf; cases hf
 | .vec i z,x,cs,ws,hf,hc=>by
  cases x with
  |slice a z' off len cap=>
   cases cap with
   |some cp=>
    simp only [z3m] at hf
    cases hb:y7y σ i a&&eAk z z' with
    |false=>rw [hb] at hf; cases hf
    |true=>
     rw [hb] at hf; simp only [cond_true] at hf
     simp only [eAf] at hb
     have:=eAg hb.2; subst this
     split at hf
     ·rename_i es hes
      cases hf
      simp only [z1o,eDm,eAf] at hc
      have e1:=z7w hc.1
      have e2:=z7w hc.2.1
      refine fun rest=>⟨rfl,fun v hv=>?_⟩
      show z0q ρ' O' w (.slice i z 0 (z7o std L i) none) v
      have hle:=hc.2.2
      subst e1
      rw [←e2]
      exact x98 c.hr (c.loc _ _ (z4v hb.1)) hes hle hv
     ·cases hf
   |none=>
    simp only [z3m] at hf
    cases hb:y7y σ i a&&eAk z z' with
    |false=>rw [hb] at hf; cases hf
    |true=>
     rw [hb] at hf; cases hf
     simp only [eAf] at hb
     have:=eAg hb.2; subst this
     simp only [z1o,eDm,eAf] at hc
     have e1:=z7w hc.1
     have e2:=z7w hc.2
     refine fun rest=>⟨rfl,fun v hv=>?_⟩
     show z0q ρ' O' w (.slice i z 0 (z7o std L i) none) v
     subst e1
     rw [←e2]
     cases hv with
     |slice _ _ _ _ _ M a' cc hM hz ha hcc hl=>exact .slice _ _ _ _ _ M _ _ (by rw [c.loc _ _ (z4v hb.1)]; exact hM) hz ha hcc hl
     |nils _ _ _ _ a' hcc=>exact .nils _ _ _ _ _ hcc
  |d d=>
   cases d with
   |list f z' es=>
    cases f with
    |false=>cases es<;>(simp only [z3m] at hf; cases hf)
    |true=>
     cases es with
     |cons _ _=>simp only [z3m] at hf; cases hf
     |nil=>
      simp only [z3m] at hf
      cases hb:w90 σ i with
      |false=>rw [hb] at hf; cases hf
      |true=>
       rw [hb] at hf; simp only [cond_true] at hf
       split at hf
       ·rename_i hL
        cases hf
        refine fun rest=>⟨rfl,fun v hv=>?_⟩
        show z0q ρ' O' w (.slice i z 0 (z7o std L i) none) v
        have:z7o std L i=0:=by simp [z7o,hL,std]
        rw [this]
        cases hv with|d hv=>
        cases hv with
        |lnil _ _ a' cc hcc=>rw [hcc rfl]; exact .nils _ _ _ _ _ (.inl rfl)
        |list _ _ _ _ _ _ _ hne=>exact absurd rfl hne
       ·cases hf
   |_=>simp only [z3m] at hf; cases hf
  |_=>simp only [z3m] at hf; cases hf
 | .full i z,x,cs,ws,hf,hc=>by
  cases x with
  |slice a z' off len cap=>
   cases cap with
   |none=>simp only [z3m] at hf; cases hf
   |some cp=>
    simp only [z3m] at hf
    cases hb:y7y σ i a&&eAk z z' with
    |false=>rw [hb] at hf; cases hf
    |true=>
     rw [hb] at hf; cases hf
     simp only [eAf] at hb
     have:=eAg hb.2; subst this
     simp only [z1o,eDm,eAf] at hc
     have e1:=z7w hc.1
     have e2:=z7w hc.2.1
     have e3:=z7w hc.2.2
     refine fun rest=>⟨rfl,fun v hv=>?_⟩
     show z0q ρ' O' w (.slice i z 0 (z7o std L i) (some (z7o std L i))) v
     subst e1
     rw [←e2]
     rw [e3, ←e2] at hv
     cases hv with
     |slice _ _ _ _ _ M a' cc hM hz ha hcc hl=>exact .slice _ _ _ _ _ M _ _ (by rw [c.loc _ _ (z4v hb.1)]; exact hM) hz ha hcc hl
     |nils _ _ _ _ a' hcc=>exact .nils _ _ _ _ _ hcc
  |_=>simp only [z3m] at hf; cases hf
 | .sl i z,x,cs,ws,hf,hc=>by
  cases x with
  |slice a z' off len cap=>
   cases cap with
   |some cp=>
    simp only [z3m] at hf
    cases hb:y7y σ i a&&eAk z z' with
    |false=>rw [hb] at hf; cases hf
    |true=>
     rw [hb] at hf; simp only [cond_true] at hf
     simp only [eAf] at hb
     have:=eAg hb.2; subst this
     split at hf
     ·rename_i es hes
      cases hf
      simp only [z1o,eDm] at hc
      refine fun rest=>⟨rfl,fun v hv=>?_⟩
      show z0q ρ' O' w (.slice i z off len none) v
      exact x98 c.hr (c.loc _ _ (z4v hb.1)) hes hc hv
     ·cases hf
   |none=>
    simp only [z3m] at hf
    cases hb:y7y σ i a&&eAk z z' with
    |false=>rw [hb] at hf; cases hf
    |true=>
     rw [hb] at hf; cases hf
     simp only [eAf] at hb
     have:=eAg hb.2; subst this
     refine fun rest=>⟨rfl,fun v hv=>?_⟩
     show z0q ρ' O' w (.slice i z off len none) v
     cases hv with
     |slice _ _ _ _ _ M a' cc hM hz ha hcc hl=>exact .slice _ _ _ _ _ M _ _ (by rw [c.loc _ _ (z4v hb.1)]; exact hM) hz ha hcc hl
     |nils _ _ _ _ a' hcc=>exact .nils _ _ _ _ _ hcc
  |d d=>
   cases d with
   |list f z' es=>
    cases f with
    |false=>cases es<;>(simp only [z3m] at hf; cases hf)
    |true=>
     cases es with
     |cons _ _=>simp only [z3m] at hf; cases hf
     |nil=>
      simp only [z3m] at hf
      cases hb:w90 σ i with
      |false=>rw [hb] at hf; cases hf
      |true=>
       rw [hb] at hf; simp only [cond_true] at hf
       split at hf
       ·rename_i hL
        cases hf
        refine fun rest=>⟨rfl,fun v hv=>?_⟩
        show z0q ρ' O' w (.slice i z 0 0 none) v
        cases hv with|d hv=>
        cases hv with
        |lnil _ _ a' cc hcc=>rw [hcc rfl]; exact .nils _ _ _ _ _ (.inl rfl)
        |list _ _ _ _ _ _ _ hne=>exact absurd rfl hne
       ·cases hf
   |_=>simp only [z3m] at hf; cases hf
  |_=>simp only [z3m] at hf; cases hf
 | .slc i z,x,cs,ws,hf,hc=>by
  cases x with
  |slice a z' off len cap=>
   cases cap with
   |none=>simp only [z3m] at hf; cases hf
   |some cp=>
    simp only [z3m] at hf
    cases hb:y7y σ i a&&eAk z z' with
    |false=>rw [hb] at hf; cases hf
    |true=>
     rw [hb] at hf; cases hf
     simp only [eAf] at hb
     have:=eAg hb.2; subst this
     refine fun rest=>⟨rfl,fun v hv=>?_⟩
     show z0q ρ' O' w (.slice i z off len (some cp)) v
     cases hv with
     |slice _ _ _ _ _ M a' cc hM hz ha hcc hl=>exact .slice _ _ _ _ _ M _ _ (by rw [c.loc _ _ (z4v hb.1)]; exact hM) hz ha hcc hl
     |nils _ _ _ _ a' hcc=>exact .nils _ _ _ _ _ hcc
  |_=>simp only [z3m] at hf; cases hf
 | .map i,x,cs,ws,hf,hc=>by
  cases x with
  |map a=>
   simp only [z3m] at hf
   cases hb:y7y σ i a with
   |false=>rw [hb] at hf; cases hf
   |true=>
    rw [hb] at hf; cases hf
    exact fun rest=>⟨rfl,fun v hv=>by cases hv with|map _ M hM=>exact .map _ M (by rw [c.loc _ _ (z4v hb)]; exact hM)⟩
  |_=>simp only [z3m] at hf; cases hf
 | .yld i,x,cs,ws,hf,hc=>by
  cases x with
  |yld a=>
   simp only [z3m] at hf
   cases hb:y7y σ i a with
   |false=>rw [hb] at hf; cases hf
   |true=>
    rw [hb] at hf; cases hf
    exact fun rest=>⟨rfl,fun v hv=>by cases hv with|yld _ M hM=>exact .yld _ M (by rw [c.loc _ _ (z4v hb)]; exact hM)⟩
  |_=>simp only [z3m] at hf; cases hf
 | .clo fn fs ds,x,cs,ws,hf,hc=>by
  cases x with
  |clo fn' fs' ds'=>
   cases fn' with
   |func g=>
    simp only [z3m] at hf
    cases hb:eAk fn g with
    |false=>rw [hb] at hf; cases hf
    |true=>
     rw [hb] at hf; simp only [cond_true] at hf
     have:=eAg hb; subst this
     split at hf
     ·rename_i c1 v1 c2 v2 h1 h2
      cases hf
      obtain ⟨q1,q2⟩:=z2w hc
      have i1:=z54 c fs fs' c1 v1 h1 q1
      have i2:=z54 c ds ds' c2 v2 h2 q2
      intro rest
      obtain ⟨a1,b1,e1⟩:=i1 (v2++rest)
      obtain ⟨a2,b2,e2⟩:=i2 rest
      simp only [v0t,eDr]
      rw [a1]
      refine ⟨a2,fun v hv=>?_⟩
      cases hv with|clo _ _ _ vf vc hl1 hl2 r1 r2=>
      exact .clo _ _ _ vf vc (by rw [b1]; exact hl1) (by rw [b2]; exact hl2) (e1 (fun i=>vf.getD i undef) r1) (e2 (fun i=>vc.getD i undef) r2)
     ·cases hf
   |_=>simp only [z3m] at hf; cases hf
  |_=>simp only [z3m] at hf; cases hf
 | .tuple l,x,cs,ws,hf,hc=>by
  cases x with
  |tuple xs=>
   simp only [z3m] at hf
   have ih:=z54 c l xs cs ws hf hc
   intro rest
   obtain ⟨a,b,e⟩:=ih rest
   refine ⟨a,fun v hv=>?_⟩
   cases hv with|tuple _ vs hl hh=>
   exact .tuple _ vs (by rw [b]; exact hl) (e (fun i=>vs.getD i undef) hh)
  |_=>simp only [z3m] at hf; cases hf
theorem z54 (c:w8f P ρ ρ' O' h w σ τ L):(ts:List VT)→(xs:List AV)→(cs:List Bool)→(ws:List Val)→y14 std h σ τ L ts xs=some (cs,ws)→z1o cs=true→VsOk ρ ρ' (z0f ρ h) O' w L ts xs ws
 |[],xs,cs,ws,hf,hc=>by
  cases xs with
  |nil=>simp only [y14] at hf; cases hf; exact fun rest=>⟨rfl,rfl,fun f hf i y hy=>by simp [z7c] at hy⟩
  |cons _ _=>simp only [y14] at hf; cases hf
 |t::ts,xs,cs,ws,hf,hc=>by
  cases xs with
  |nil=>simp only [y14] at hf; cases hf
  |cons x xs=>
   simp only [y14] at hf
   split at hf
   ·rename_i c1 v1 c2 v2 h1 h2
    cases hf
    obtain ⟨q1,q2⟩:=z2w hc
    have i1:=w5t c t x c1 v1 h1 q1
    have i2:=z54 c ts xs c2 v2 h2 q2
    intro rest
    obtain ⟨a1,e1⟩:=i1 (v2++rest)
    obtain ⟨a2,b2,e2⟩:=i2 rest
    simp only [z7c,eDr]
    rw [a1]
    refine ⟨a2,by simp [b2],fun f hff i y hy=>?_⟩
    cases i with
    |zero=>simp at hy; subst hy; exact e1 _ (hff 0 x rfl)
    |succ i=>exact e2 (fun i=>f (i+1)) (fun i x hx=>hff (i+1) x (by simpa using hx)) i y (by simpa using hy)
   ·cases hf
end
end
def v2l (h:List AO) (a:Nat) (es:List (List D)):Prop:=z0e h a= .row es∨∃ b,z0e h a= .arow b∧y8p b=some es
def LOk (h:List AO):List OT→List (Option Nat)→List (Option AO)→Prop
 |[],[],[]=>True
 | .row _::t,some a::σ,some (.row es)::L=>v2l h a es∧LOk h t σ L
 | .row _::t,none::σ,some (.row [])::L=>LOk h t σ L
 | .map::t,some a::σ,some (.map es)::L=>z0e h a= .map es∧LOk h t σ L
 | .box _::t,some a::σ,none::L=>LOk h t σ L
 | .loop ..::t,some a::σ,none::L=>LOk h t σ L
 | .dead::t,_::σ,none::L=>LOk h t σ L
 |_,_,_=>False
theorem w5w (h:List AO):∀ (t:List OT) (σ:List (Option Nat)) (v:List Val),y31 h t σ=some v→∀ rest,(z77 t (v++rest)).2=rest∧LOk h t σ (z77 t (v++rest)).1∧(z77 t (v++rest)).1=(z77 t v).1:=by
 intro t
 induction t with
 |nil=>
  intro σ v b rest
  cases σ with
  |nil=>simp only [y31] at b; cases b; exact ⟨rfl,trivial,rfl⟩
  |cons _ _=>simp only [y31] at b; cases b
 |cons o t k=>
  intro σ v b rest
  cases σ with
  |nil=>cases o<;>(simp only [y31] at b; cases b)
  |cons s σ=>
   cases o with
   |row r=>
    cases s with
    |some a=>
     simp only [y31] at b
     split at b
     ·rename_i es i
      cases c:y31 h t σ with
      |none=>rw [c] at b; cases b
      |some j=>
       rw [c] at b; cases b
       obtain ⟨f,e,d⟩:=k σ j c rest
       refine ⟨f,⟨.inl i,e⟩,?_⟩
       exact congrArg (List.cons _) d
     ·rename_i n i
      split at b
      ·rename_i l p
       cases c:y31 h t σ with
       |none=>rw [c] at b; cases b
       |some j=>
        rw [c] at b; cases b
        obtain ⟨f,e,d⟩:=k σ j c rest
        refine ⟨f,⟨.inr ⟨n,i,p⟩,e⟩,?_⟩
        exact congrArg (List.cons _) d
      ·cases b
     ·cases b
    |none=>
     simp only [y31] at b
     cases c:y31 h t σ with
     |none=>rw [c] at b; cases b
     |some j=>
      rw [c] at b; cases b
      obtain ⟨f,e,d⟩:=k σ j c rest
      refine ⟨f,e,?_⟩
      exact congrArg (List.cons _) d
   |map=>
    cases s with
    |some a=>
     simp only [y31] at b
     split at b
     ·rename_i es i
      cases c:y31 h t σ with
      |none=>rw [c] at b; cases b
      |some j=>
       rw [c] at b; cases b
       obtain ⟨f,e,d⟩:=k σ j c rest
       refine ⟨f,⟨i,e⟩,?_⟩
       exact congrArg (List.cons _) d
     ·cases b
    |none=>simp only [y31] at b; cases b
   |box l=>
    cases s with
    |some a=>
     simp only [y31] at b
     obtain ⟨f,e,d⟩:=k σ v b rest
     refine ⟨f,e,?_⟩
     exact congrArg (List.cons _) d
    |none=>simp only [y31] at b; cases b
   |loop st q g pos nt env=>
    cases s with
    |some a=>
     simp only [y31] at b
     obtain ⟨f,e,d⟩:=k σ v b rest
     refine ⟨f,e,?_⟩
     exact congrArg (List.cons _) d
    |none=>simp only [y31] at b; cases b
   |dead=>
    have m:y31 h t σ=some v:=by cases s<;>simpa only [y31] using b
    obtain ⟨f,e,d⟩:=k σ v m rest
    refine ⟨f,by cases s<;>exact e,?_⟩
    exact congrArg (List.cons _) d
def OOk (ρ ρ':Rho) (O O':Nat→Prop) (h:List AO) (w:World):Option Nat→AO→Prop
 |some a,o=>(o= .dead)∨(∃ es,o= .row es∧v2l h a es)∨(∃ es,o= .map es∧z0e h a= .map es)∨
   (∃ cells b,z0e h a= .box cells∧o= .box b∧b.length=cells.length∧∀ f:Nat→Value,(∀ i x,cells[i]?=some x→z0q ρ O w x (f i))→∀ i y,b[i]?=some y→z0q ρ' O' w y (f i))∨
   (∃ st c g pos nt env env',z0e h a= .loop st c g pos nt env∧o= .loop st c g pos nt env'∧∀ f:Nat→Value,(∀ t,z0q ρ O w (z0z env t) (f t))→∀ t,z0q ρ' O' w (z0z env' t) (f t))
 |none,o=>True
def HOk (ρ ρ':Rho) (O O':Nat→Prop) (h:List AO) (w:World):List (Option Nat)→List AO→Prop
 |[],[]=>True
 |s::σ,o::os=>OOk ρ ρ' O O' h w s o∧HOk ρ ρ' O O' h w σ os
 |_,_=>False
theorem HOk.nth {ρ ρ':Rho} {O O':Nat→Prop} {h:List AO} {w:World}:∀ {σ:List (Option Nat)} {os:List AO},HOk ρ ρ' O O' h w σ os→∀ i s,z2d σ i=some s→OOk ρ ρ' O O' h w s (z0e os i)
 |[],[],_,i,s,b=>by simp [z2d] at b
 |s0::σ,o::os,a,i,s,b=>by
  cases i with
  |zero=>simp [z2d] at b; subst b; exact a.1
  |succ i=>exact HOk.nth a.2 i s (by simpa [z2d] using b)
 |[],_::_,a,_,_,_=>a.elim
 |_::_,[],a,_,_,_=>a.elim
theorem HOk.len {ρ ρ':Rho} {O O':Nat→Prop} {h:List AO} {w:World}:∀ {σ:List (Option Nat)} {os:List AO},HOk ρ ρ' O O' h w σ os→os.length=σ.length
 |[],[],_=>rfl
 |s0::σ,o::os,a=>by simp [HOk.len a.2]
 |[],_::_,a=>a.elim
 |_::_,[],a=>a.elim
theorem w5z {a b:LoopState} (h:t2w a b=true):a=b:=by cases a<;>cases b<;>first|rfl|cases h
theorem w5y {a b:Option Code} (h:t2v a b=true):a=b:=by
 cases a with
 |none=>cases b<;>first|rfl|cases h
 |some a=>
  cases b with
  |none=>cases a<;>cases h
  |some b=>
   cases a<;>cases b<;>first
    |rfl
    |cases h; done
    |(have:=eAg h; subst this; rfl)
theorem y9x:∀ {a b:List Bool},y8i a b=true→a=b
 |[],[],_=>rfl
 |[],_::_,h=>by cases h
 |_::_,[],h=>by cases h
 |x::a,y::b,h=>by
  simp only [y8i,eAf,beq_iff_eq] at h
  rw [h.1,y9x h.2]
section
variable {P:Program} {ρ ρ':Rho} {O':Nat→Prop} {h:List AO} {w:World} {σ τ:List (Option Nat)} {L:List (Option AO)}
theorem w5u (c:w8f P ρ ρ' O' h w σ τ L) (env:List (Nat×AV)):∀ (ts:List (Nat×VT)) (cs:List Bool) (d:List Val),v9g std h σ τ L env ts=some (cs,d)→z1o cs=true→
  ∀ rest,(v0u std L ts (d++rest)).2=rest∧∀ f:Nat→Value,(∀ t,z0q ρ (z0f ρ h) w (z0z env t) (f t))→∀ t,z0q ρ' O' w (z0z (v0u std L ts (d++rest)).1 t) (f t):=by
 intro ts
 induction ts with
 |nil=>intro cs d b g rest; simp only [v9g] at b; cases b; exact ⟨rfl,fun f a t=> .bot _⟩
 |cons l ts m=>
  obtain ⟨k,t⟩:=l
  intro cs d b g rest
  simp only [v9g] at b
  split at b
  ·rename_i v v1 u e q p
   cases b
   obtain ⟨j,i⟩:=z2w g
   have n:=w5t c t _ v v1 q j
   obtain ⟨y,s⟩:=n (e++rest)
   obtain ⟨x,r⟩:=m u e p i rest
   simp only [v0u,eDr]
   rw [y]
   refine ⟨x,fun f a t=>?_⟩
   simp only [z0z]
   cases o:eAk k t with
   |true=>have:=eAg o; subst this; exact s _ (a k)
   |false=>exact r f a t
  ·cases b
theorem w5v (c:w8f P ρ ρ' O' h w σ τ L):∀ (ts:List OT) (i:List (Option Nat)) (e:List (Option AO)) (cs:List Bool) (m:List Val),LOk h ts i e→x2r std h σ τ L ts i=some (cs,m)→z1o cs=true→
  ∀ rest,(y7z std L e ts (m++rest)).2=rest∧HOk ρ ρ' (z0f ρ h) O' h w i (y7z std L e ts (m++rest)).1:=by
 intro ts
 induction ts with
 |nil=>
  intro i e cs m d b o rest
  cases i with
  |nil=>simp only [x2r] at b; cases b; cases e<;>exact ⟨rfl,trivial⟩
  |cons _ _=>simp only [x2r] at b; cases b
 |cons t ts p=>
  intro i e cs m d b o rest
  cases i with
  |nil=>cases t<;>(simp only [x2r] at b; cases b)
  |cons s i=>
   cases t with
   |row V=>
    cases s with
    |some a=>
     simp only [x2r] at b
     match e,d with
     |some (.row es)::e,d=>
      obtain ⟨k,j⟩:=p i e cs m d.2 b o rest
      exact ⟨k, .inr (.inl ⟨es,rfl,d.1⟩),j⟩
    |none=>
     simp only [x2r] at b
     match e,d with
     |some (.row [])::e,d=>
      obtain ⟨k,j⟩:=p i e cs m d b o rest
      exact ⟨k,trivial,j⟩
   |map=>
    cases s with
    |some a=>
     simp only [x2r] at b
     match e,d with
     |some (.map es)::e,d=>
      obtain ⟨k,j⟩:=p i e cs m d.2 b o rest
      exact ⟨k, .inr (.inr (.inl ⟨es,rfl,d.1⟩)),j⟩
    |none=>
     match e,d with
     |_,d=>simp [LOk] at d
   |dead=>
    have E:x2r std h σ τ L ts i=some (cs,m):=by cases s<;>simpa only [x2r] using b
    have:∃ f,e=none::f∧LOk h ts i f:=by
     match s,e,d with
     |some _,none::f,d=>exact ⟨f,rfl,d⟩
     |none,none::f,d=>exact ⟨f,rfl,d⟩
    obtain ⟨f,rfl,C⟩:=this
    obtain ⟨k,j⟩:=p i f cs m C E o rest
    exact ⟨k,by cases s; exact trivial; exact .inl rfl,j⟩
   |box l=>
    cases s with
    |none=>simp only [x2r] at b; cases b
    |some a=>
     simp only [x2r] at b
     split at b
     ·rename_i cells n
      split at b
      ·rename_i O v1 N q G F
       cases b
       obtain ⟨y,x⟩:=z2w o
       match e,d with
       |none::e,d=>
        obtain ⟨R,Q,U⟩:=z54 c l cells O v1 G y (q++rest)
        obtain ⟨k,j⟩:=p i e N q d F x rest
        simp only [y7z,u2t,eDr]
        rw [R]
        exact ⟨k, .inr (.inr (.inr (.inl ⟨cells,_,n,rfl,Q,U⟩))),j⟩
      ·cases b
     ·cases b
   |loop st S g pos nt env=>
    cases s with
    |none=>simp only [x2r] at b; cases b
    |some a=>
     simp only [x2r] at b
     split at b
     ·rename_i v z T r A env' B
      cases u:t2w st v&&(t2v S z&&(eAk g T&&(y8i pos r&&eAk nt A))) with
      |false=>rw [u] at b; cases b
      |true=>
       rw [u] at b; simp only [cond_true] at b
       simp only [eAf] at u
       obtain ⟨M,K,J,I,H⟩:=u
       have M:=w5z M
       have K:=w5y K
       have J:=eAg J
       have I:=y9x I
       have H:=eAg H
       subst M; subst K; subst J; subst I; subst H
       split at b
       ·rename_i O v1 N q G F
        cases b
        obtain ⟨y,x⟩:=z2w o
        match e,d with
        |none::e,d=>
         obtain ⟨R,Q⟩:=w5u c env' env O v1 G y (q++rest)
         obtain ⟨k,j⟩:=p i e N q d F x rest
         simp only [y7z,u2t,eDr]
         rw [R]
         exact ⟨k, .inr (.inr (.inr (.inr ⟨st,S,g,pos,nt,env',_,B,rfl,Q⟩))),j⟩
       ·cases b
     ·cases b
theorem y11:∀ {n k:Nat} {σ:List (Option Nat)},x37 k n σ=true→∀ i,i<n→z2d σ i=some (some (k+i))
 |0,k,σ,_,i,b=>by omega
 |n+1,k,[],h,i,b=>by cases h
 |n+1,k,none::r,h,i,b=>by cases h
 |n+1,k,some a::r,h,i,b=>by
  simp only [x37,eAf] at h
  cases i with
  |zero=>have:=eAg h.1; simp [z2d,this]
  |succ i=>
   have:=y11 h.2 i (by omega)
   simp only [z2d]; rw [this]; congr 2; omega
def y4i (ρ:Rho) (h:List AO) (σ:List (Option Nat)) (b:Nat):Prop:=ρ.fr b∨∃ i a M,z2d σ i=some (some a)∧(z0e h a).live=true∧ρ a=some M∧M.blk=b
theorem t2u {τ:List (Option Nat)} (hr:z0b P ρ h w):w8f P ρ (ρ.via σ) (y4i ρ h τ) h w σ τ L where
 hr:=hr
 loc:=fun i a hi=>by show (match z2d σ i with|some (some a)=>ρ a|_=>none)=ρ a; rw [hi]
 sub:=fun b hb=>by
  rcases hb with hf|⟨i,a,M,h1,h2,h3,rfl⟩
  ·exact .inl hf
  ·exact .inr ⟨a,M,h3,h2,rfl⟩
 out:=fun a M hM hl hm ho=>by
  rcases ho with hf|⟨i,a',M',h1,h2,h3,h4⟩
  ·exact hr.sep a M hM hl hf
  ·have:=hr.inj a' a M' M h3 hM h2 hl h4
   subst this
   rw [z8q h1] at hm; cases hm
theorem v2l.live {h':List AO} {a:Nat} {es:List (List D)} (h:v2l h' a es):(z0e h' a).live=true:=by
 rcases h with h|⟨b,h,_⟩<;>rw [h]<;>rfl
theorem y39:∀ {a:List (List AV)} {es:List (List D)},y8p a=some es→a=z5s es
 |[],es,h=>by simp [y8p] at h; subst h; rfl
 |x::r,es,h=>by
  simp only [y8p] at h
  split at h
  ·rename_i d l c b
   cases h
   rw [z2b c,y39 b]; rfl
  ·cases h
theorem OOk.live {O:Nat→Prop} {a:Nat} {o:AO} (d:OOk ρ ρ' O O' h w (some a) o) (c:o.live=true):(z0e h a).live=true:=by
 rcases d with rfl|⟨es,rfl,b⟩|⟨es,rfl,b⟩|⟨cells,e,b,rfl,_⟩|⟨st,f,g,pos,nt,env,env',b,rfl,_⟩
 ·cases c
 ·exact b.live
 ·rw [b]; rfl
 ·rw [b]; rfl
 ·rw [b]; rfl
theorem w8o (H:z0b P ρ h w) {τ:List (Option Nat)} (Q:w1r τ=true) {h':List AO} (Y:∀ i a,z2d σ i=some (some a)→(z0e h' i).live=true→z2d τ i=some (some a)) (O:HOk ρ (ρ.via σ) (z0f ρ h) (y4i ρ h τ) h w σ h'):z0b P (ρ.via σ) h' w∧∀ b,z0f (ρ.via σ) h' b→y4i ρ h τ b:=by
 have p:∀ b,z0f (ρ.via σ) h' b→y4i ρ h τ b:=by
  intro b E
  rcases E with R|⟨i,M,W,n,rfl⟩
  ·exact .inl R
  ·obtain ⟨a,A,m⟩:=z4g W
   exact .inr ⟨i,a,M,Y i a A n,(O.nth i _ A).live n,m,rfl⟩
 have kp:z5d (z0f ρ h) (z0f (ρ.via σ) h') w w:=⟨eAp _,fun _ _ _=>rfl,fun b _ E=>(t2u (σ:=σ) (τ:=τ) (L:=[]) H).sub b (p b E),fun _ _ h=>h,z0v.refl _⟩
 have I:z5d (y4i ρ h τ) (z0f (ρ.via σ) h') w w:=⟨eAp _,fun _ _ _=>rfl,fun b _ E=>p b E,fun _ _ h=>h,z0v.refl _⟩
 refine ⟨⟨fun i M W=>?_,fun i j M M' F h2 l1 l2 E=>?_,fun b R=>H.fr b R,fun i M W n R=>?_,H.gl.keep kp⟩,p⟩
 ·obtain ⟨a,A,m⟩:=z4g W
  obtain ⟨o1,q⟩:=H.obj a M m
  refine ⟨o1,?_⟩
  rcases O.nth i _ A with e|⟨es,e,l⟩|⟨es,e,K⟩|⟨cells,ys,T,e,N,a0⟩|⟨st,pd,g,pos,nt,env,env',a2,e,S⟩
  ·rw [e]; trivial
  ·rw [e]
   rcases l with l|⟨a8,l,a4⟩
   ·rw [l] at q
    obtain ⟨Z,c,t,z,n,s⟩:=q
    exact ⟨Z,c,t,z,n,fun i r j x B J=>let ⟨v,G,F,o⟩:=s i r j x B J; ⟨v,G,F,o.keep kp⟩⟩
   ·rw [l,y39 a4] at q
    obtain ⟨Z,c,t,z,n,s⟩:=q
    refine ⟨Z,c,t,z,fun i r B=>?_,fun i r j x B J=>?_⟩
    ·have:=n i (toA r) (by rw [z3o,B]; rfl)
     rwa [z01] at this
    ·obtain ⟨v,G,F,o⟩:=s i (toA r) j (.d x) (by rw [z3o,B]; rfl) (by rw [z1p,J]; rfl)
     cases o with|d o=>exact ⟨v,G,F,o.keep kp⟩
  ·rw [e]; rw [K] at q
   obtain ⟨en,a6,z,n,s⟩:=q
   exact ⟨en,a6,z,n,fun i k x B=>let ⟨e,he,F,h2⟩:=s i k x B; ⟨e,he,F.keep kp,h2.keep kp⟩⟩
  ·rw [e]; rw [T] at q
   obtain ⟨C,c,t,z,s⟩:=q
   refine ⟨C,c,t,z,fun j y hy=>?_⟩
   have a3:j<cells.length:=by rw [←N]; exact (eAe.1 hy).1
   obtain ⟨v,G,_⟩:=s j _ (eAd a3)
   have:=a0 (fun j=>(c[M.base+j]?).getD undef) (fun j x J=>by
    obtain ⟨u,hu,a1⟩:=s j x J
    simp only [hu,eCd]; exact a1) j y hy
   simp only [G,eCd] at this
   exact ⟨v,G,this.keep I (fun _ _ h=>h)⟩
  ·rw [e]; rw [a2] at q
   obtain ⟨x,ps,a7,X,a5,tm,ds,f,z,n,s⟩:=q
   exact ⟨x,ps,a7,X,a5,tm,ds,f,z,n,fun t=>(S (fun t=>tm.getD t undef) s t).keep I (fun _ _ h=>h)⟩
 ·obtain ⟨a,A,m⟩:=z4g F
  obtain ⟨a',U,V⟩:=z4g h2
  have:=H.inj a a' M M' m V ((O.nth i _ A).live l1) ((O.nth j _ U).live l2) E
  subst this
  exact z8w Q (Y _ _ A l1) (Y _ _ U l2)
 ·obtain ⟨a,A,m⟩:=z4g W
  exact H.sep a M m ((O.nth i _ A).live n) R
theorem y9i:∀ {ts:List OT} {σ:List (Option Nat)} {i a:Nat},z2d σ i=some (some a)→i<ts.length→ts[i]?≠some .dead→z2d (y42 ts σ) i=some (some a)
 |[],_,i,a,_,h,_=>by simp at h
 |t::ts,[],i,a,h,_,_=>by simp [z2d] at h
 |t::ts,s::σ,0,a,h,_,b=>by
  simp [z2d] at h; subst h
  cases t<;>first|exact absurd rfl b|rfl
 |t::ts,s::σ,i+1,a,h,c,b=>by
  have:=y9i (ts:=ts) (σ:=σ) (i:=i) (a:=a) (by simpa [z2d] using h) (by simpa using c) (by simpa using b)
  cases t<;>exact this
theorem x4z:∀ (ts:List OT) (vs:List Val) (i:Nat),ts[i]?=some .dead→z2d (z77 ts vs).1 i=some none
 |[],vs,i,h=>by simp at h
 |t::ts,vs,0,h=>by
  simp at h; subst h; simp [z77,z2d]
 |t::ts,vs,i+1,h=>by
  have a:=fun vs=>x4z ts vs i (by simpa using h)
  cases t<;>cases vs<;>(try (rename_i v vs; cases v))<;>simp only [z77,z2d]<;>exact a _
theorem x4y (p:Prim) (L:List (Option AO)):∀ (os:List (Option AO)) (ts:List OT) (vs:List Val) (i:Nat),ts[i]?=some .dead→z2d os i=some none→z0e (y7z p L os ts vs).1 i= .dead
 |[],ts,vs,i,h,a=>by simp [z2d] at a
 |o::os,[],vs,i,h,a=>by simp at h
 |o::os,t::ts,vs,0,h,a=>by
  simp at h; subst h
  simp [z2d] at a; subst a
  rfl
 |o::os,t::ts,vs,i+1,h,a=>by
  simp only [y7z,z0e]
  exact x4y p L os ts _ i (by simpa using h) (by simpa [z2d] using a)
theorem x9o (p:Prim) (L:List (Option AO)):∀ (os:List (Option AO)) (ts:List OT) (vs:List Val),(y7z p L os ts vs).1.length≤ts.length
 |[],ts,vs=>by simp [y7z]
 |o::os,[],vs=>by simp [y7z]
 |o::os,t::ts,vs=>by
  simp only [y7z,eCa]
  exact Nat.succ_le_succ (x9o p L os ts _)
theorem v7m {n : Nat} {t : ST} {s : AS} {cs : List Bool} {vs : List Val} (k : t2t std n t σ s = some (cs, vs)) (Y : z1o cs = true) : z6n n s (w51 std t vs) ∧ n ≤ (w51 std t vs).heap.length := by
  unfold t2t at k
  cases q : eAk s.nt t.nt && (w1r (y42 t.heap σ) && x37 0 n σ) with
  | false => rw [q] at k; cases k
  | true =>
    rw [q] at k; simp only [cond_true] at k
    simp only [eAf] at q
    obtain ⟨l, x, j⟩ := q
    have l := eAg l
    split at k
    · rename_i v1 G
      split at k
      · rename_i c2 d Z c O N
        cases k
        obtain ⟨T, S⟩ := z2w Y
        obtain ⟨H, a2, a3⟩ := w5w s.heap t.heap σ v1 G (d ++ c)
        have m : ∀ (P : Program) (ρ : Rho) (w : World), z0b P ρ s.heap w → (y7z std (z77 t.heap (v1 ++ (d ++ c))).1 (z77 t.heap (v1 ++ (d ++ c))).1 t.heap (z77 t.heap (v1 ++ (d ++ c))).2).2 = c ∧
            HOk ρ (ρ.via σ) (z0f ρ s.heap) (y4i ρ s.heap (y42 t.heap σ)) s.heap w σ (w51 std t (v1 ++ (d ++ c))).heap ∧
            ∀ f : Nat → Value, (∀ t, z0q ρ (z0f ρ s.heap) w (z0z s.env t) (f t)) → ∀ r, z0q (ρ.via σ) (y4i ρ s.heap (y42 t.heap σ)) w (z0z (w51 std t (v1 ++ (d ++ c))).env r) (f r) := by
          intro P ρ w W
          rw [← a3] at O N
          have Q := t2u (P := P) (σ := σ) (τ := y42 t.heap σ) (L := (z77 t.heap (v1 ++ (d ++ c))).1) W
          obtain ⟨R, b2⟩ := w5v Q t.heap σ (z77 t.heap (v1 ++ (d ++ c))).1 c2 d a2 O T c
          rw [H]
          refine ⟨R, ?_, ?_⟩
          · show HOk _ _ _ _ _ _ _ (y7z std _ _ t.heap (z77 t.heap (v1 ++ (d ++ c))).2).1
            rw [H]; exact b2
          · have := (w5u Q s.env t.env Z c N S []).2
            rw [eDx] at this
            show ∀ f : Nat → Value, _ → ∀ r, z0q _ _ _ (z0z (v0u std _ t.env (y7z std _ _ t.heap (z77 t.heap (v1 ++ (d ++ c))).2).2).1 r) (f r)
            rw [H, R]; exact this
        have p : (w51 std t (v1 ++ (d ++ c))).heap.length = σ.length := by
          have B : z0b default ⟨fun _ => none, fun _ => False⟩ s.heap default :=
            { obj := fun _ _ h => by cases h
              inj := fun _ _ _ _ h => by cases h
              fr := fun _ h => h.elim
              sep := fun _ _ h => by cases h
              gl := { lay := fun _ _ h => by cases h
                      shp := fun g b h => by
                        have : y1f default g = none := by
                          have e : ∀ n, Program.globalNamed default n = none := fun n => rfl
                          simp [y1f, e]
                        rw [this] at h; cases h } }
          exact (m _ _ _ B).2.1.len
        have C : n ≤ σ.length := by
          cases n with
          | zero => omega
          | succ n =>
            have := y11 j n (by omega)
            rw [z1v] at this
            have := (eAe.1 this).1
            omega
        refine ⟨⟨fun {P} ρ tm w v => ?_⟩, by rw [p]; exact C⟩
        obtain ⟨m1, V, U⟩ := m P ρ w v.heap
        obtain ⟨z, u⟩ := w8o v.heap x (fun i a X y => by
          have E : i < t.heap.length := by
            have G : i < (w51 std t (v1 ++ (d ++ c))).heap.length := by
              refine Nat.lt_of_not_le fun F => ?_
              rw [x6s _ _ F] at y; cases y
            exact eBc G (x9o _ _ _ _ _)
          refine y9i X E fun J => ?_
          have : z0e (w51 std t (v1 ++ (d ++ c))).heap i = .dead := x4y _ _ _ _ _ _ J (x4z _ _ _ J)
          rw [this] at y; cases y) V
        have A : z5d (y4i ρ s.heap (y42 t.heap σ)) (z0f (ρ.via σ) (w51 std t (v1 ++ (d ++ c))).heap) w w := ⟨eAp _, fun _ _ _ => rfl, fun b _ q => u b q, fun _ _ h => h, z0v.refl _⟩
        have o : ∀ id, id < n → (ρ.via σ) id = ρ id := fun id hid => by
          have := y11 j id hid
          rw [eAy] at this
          show (match z2d σ id with | some (some a) => ρ a | _ => none) = ρ id
          rw [this]
        refine ⟨ρ.via σ, ⟨z, fun r => (U (fun t => tm.getD t undef) v.env r).keep A (fun _ _ h => h), v.size.trans l, fun id hid => ?_⟩, l.symm, ?_, o⟩
        · rw [p]
          cases I : (ρ.via σ) id with
          | none => exact absurd I hid
          | some M =>
            obtain ⟨a, K, _⟩ := z4g I
            rw [z1v] at K
            exact (eAe.1 K).1
        · exact { os := rfl, tape := rfl, output := rfl, keep := ⟨eAp _, fun _ _ _ => rfl, fun b _ q => (t2u (σ := σ) (τ := y42 t.heap σ) (L := []) v.heap).sub b (u b q), fun _ _ h => h, z0v.refl _⟩, rho := fun id hid => o id hid, fr := rfl, frs := fun _ _ => rfl }
      · cases k
    · cases k
end
def z9x {S R:Type} (b:S→Option (S⊕R)):Nat→S→Option R
 |0,_=>none
 |n+1,s=>match b s with
  |some (.inl s')=>z9x b n s'
  |some (.inr r)=>some r
  |none=>none
open Classical in
noncomputable def z1a {S R:Type} (b:S→Option (S⊕R)) (s:S):Option R:=
 if h:∃ r n,z9x b n s=some r then some h.choose else none
theorem y9p {S R:Type} {b:S→Option (S⊕R)}:∀ {n:Nat} {s:S} {r:R},z9x b n s=some r→∀ m,n≤m→z9x b m s=some r:=by
 intro n
 induction n with
 |zero=>intro s r h; simp [z9x] at h
 |succ n a=>
  intro s r h m hm
  obtain ⟨m,rfl⟩:∃ k,m=k+1:=⟨m - 1,by omega⟩
  simp only [z9x] at h⊢
  split at h
  ·exact a h m (by omega)
  ·exact h
  ·cases h
theorem y2v {S R:Type} {b:S→Option (S⊕R)} {s:S} {r:R} (h:z1a b s=some r):∃ n,z9x b n s=some r:=by
 unfold z1a at h
 split at h
 ·rename_i a
  cases h
  exact a.choose_spec
 ·cases h
theorem x61 {S R:Type} {b:S→Option (S⊕R)} {s:S} {r:R} {n:Nat} (h:z9x b n s=some r):z1a b s=some r:=by
 have c:∃ r n,z9x b n s=some r:=⟨r,n,h⟩
 unfold z1a
 rw [dif_pos c]
 obtain ⟨m,hm⟩:=c.choose_spec
 have a:=y9p h (max n m) (Nat.le_max_left _ _)
 have d:=y9p hm (max n m) (Nat.le_max_right _ _)
 rw [a] at d; exact d.symm
theorem z17 {S R:Type} (b:S→Option (S⊕R)) (s:S):z1a b s=match b s with
  |some (.inl s')=>z1a b s'
  |some (.inr r)=>some r
  |none=>none:=by
 cases d:b s with
 |none=>
  cases c:z1a b s with
  |none=>rfl
  |some r=>
   obtain ⟨n,a⟩:=y2v c
   cases n with
   |zero=>simp [z9x] at a
   |succ n=>simp [z9x,d] at a
 |some x=>
  cases x with
  |inr r=>exact x61 (n:=1) (by simp [z9x,d])
  |inl s'=>
   simp only
   cases c:z1a b s' with
   |some r=>
    obtain ⟨n,a⟩:=y2v c
    exact x61 (n:=n+1) (by simp [z9x,d,a])
   |none=>
    cases e:z1a b s with
    |none=>rfl
    |some r=>
     obtain ⟨n,a⟩:=y2v e
     cases n with
     |zero=>simp [z9x] at a
     |succ n=>
      simp [z9x,d] at a
      rw [x61 a] at c; cases c
mutual
def t48:VT→List Sc
 | .int _=>[.int]
 | .bool=>[.bool]
 | .str=>[.str]
 | .list _=>[.rows]
 | .lst _=>[.rows]
 | .prm=>[.rows]
 | .agg l=>x3k l
 | .ref l=>x3k l
 | .ptr _ _=>[.nat]
 | .sl _ _=>[.nat, .nat]
 | .slc _ _=>[.nat, .nat, .nat]
 | .clo _ fs cs=>x3k fs++x3k cs
 | .tuple l=>x3k l
 |_=>[]
def x3k:List VT→List Sc
 |[]=>[]
 |t::ts=>t48 t++x3k ts
end
def u8q:List (Nat×VT)→List Sc
 |[]=>[]
 |(_,t)::ts=>t48 t++u8q ts
def v96:List OT→List Sc
 |[]=>[]
 | .row _::t=> .rows::v96 t
 | .map::t=> .map::v96 t
 |_::t=>v96 t
def v95:List OT→List Sc
 |[]=>[]
 | .box l::t=>x3k l++v95 t
 | .loop _ _ _ _ _ env::t=>u8q env++v95 t
 |_::t=>v95 t
def ST.scs (t:ST):List Sc:=v96 t.heap++(v95 t.heap++u8q t.env)
def x1t:List OT→List (List CK)
 |[]=>[]
 | .row a::t=>a::x1t t
 |_::t=>[]::x1t t
def y43 (p:Prim) (t:ST) (x:Tup t.scs):SS:=⟨w51 p t (y7x t.scs x),x1t t.heap⟩
mutual
def u5o:VT→AV→List (Nat×Nat)
 | .bptr i _, .bptr a _=>[(i,a)]
 | .ptr i _, .ptr a _ _=>[(i,a)]
 | .vec i _, .slice a _ _ _ _=>[(i,a)]
 | .full i _, .slice a _ _ _ _=>[(i,a)]
 | .sl i _, .slice a _ _ _ _=>[(i,a)]
 | .slc i _, .slice a _ _ _ _=>[(i,a)]
 | .map i, .map a=>[(i,a)]
 | .yld i, .yld a=>[(i,a)]
 | .agg l, .agg xs=>y4n l xs
 | .tuple l, .tuple xs=>y4n l xs
 | .clo _ fs cs, .clo _ fs' cs'=>y4n fs fs'++y4n cs cs'
 |_,_=>[]
def y4n:List VT→List AV→List (Nat×Nat)
 |t::ts,x::xs=>u5o t x++y4n ts xs
 |_,_=>[]
end
def v8h (env:List (Nat×AV)):List (Nat×VT)→List (Nat×Nat)
 |[]=>[]
 |(k,t)::ts=>u5o t (z0z env k)++v8h env ts
def t0c:List (Nat×Nat)→Nat→Option Nat
 |[],_=>none
 |(i,a)::r,j=>bif eAk i j then some a else t0c r j
def t3r (h:List AO) (a:Nat):OT→List (Nat×Nat)
 | .box l=>match z0e h a with
  | .box cells=>y4n l cells
  |_=>[]
 | .loop _ _ _ _ _ env=>match z0e h a with
  | .loop _ _ _ _ _ env'=>v8h env' env
  |_=>[]
 |_=>[]
def v8g (h:List AO):Nat→List OT→List (Nat×Nat)→List (Nat×Nat)
 |_,[],b=>b
 |i,t::ts,b=>match t0c b i with
  |some a=>v8g h (i+1) ts (b++t3r h a t)
  |none=>v8g h (i+1) ts b
def v1n (h:List AO) (ts:List OT):Nat→List (Nat×Nat)→List (Nat×Nat)
 |0,b=>b
 |n+1,b=>v1n h ts n (v8g h 0 ts b)
def v3f:Nat→List (Nat×Nat)
 |0=>[]
 |n+1=>(n,n)::v3f n
def w81 (b:List (Nat×Nat)):Nat→List OT→List (Option Nat)
 |_,[]=>[]
 |i,_::ts=>t0c b i::w81 b (i+1) ts
def v7o (n:Nat) (t:ST) (s:AS):List (Option Nat):=w81 (v1n s.heap t.heap 2 (v3f n++v8h s.env t.env)) 0 t.heap
def w79 (p:Prim) (n:Nat) (t:ST) (s:AS):Option (List Bool×Tup t.scs):=
 match t2t p n t (v7o n t s) s with
 |some (cs,a)=>match v5x t.scs a with
  |some x=>some (cs,x)
  |none=>none
 |none=>none
theorem y30 {n:Nat} {t:ST} {s:AS} {cs:List Bool} {x:Tup t.scs} (h:w79 std n t s=some (cs,x)) (c:z1o cs=true):z6n n s (y43 std t x).s∧n≤(y43 std t x).s.heap.length:=by
 unfold w79 at h
 split at h
 ·rename_i d f b
  split at h
  ·rename_i e a
   cases h
   have:=v7m b c
   show z6n n s (w51 std t (y7x t.scs x))∧_≤(w51 std t (y7x t.scs x)).heap.length
   rw [y5v a]; exact this
  ·cases h
 ·cases h
def needs (A:Alg) (β:Type):List Bool→A.Ω β→A.Ω β
 |[],k=>k
 |c::cs,k=>A.need β c (needs A β cs k)
theorem z1s {β:Type} {b:β}:∀ {cs:List Bool} {k:Option β},needs opt β cs k=some b→z1o cs=true∧k=some b
 |[],k,h=>⟨rfl,h⟩
 |c::cs,k,h=>by
  obtain ⟨a,h⟩:=z6a h
  obtain ⟨e,d⟩:=z1s (cs:=cs) h
  exact ⟨by simp [z1o,a,e],d⟩
def u2o:AX→AX→Bool
 | .normal, .normal=>true
 | .ret, .ret=>true
 | .exit i, .exit j=>eAk i j
 |_,_=>false
theorem x4w {a b:AX} (h:u2o a b=true):a=b:=by
 cases a<;>cases b<;>first
  |rfl
  |cases h; done
  |(have:=eAg h; subst this; rfl)
abbrev w2n:=List (AX×ST)
def scss:w2n→List (List Sc)
 |[]=>[]
 |o::os=>o.2.scs::scss os
def y0j (p:Prim) (n:Nat):(os:w2n)→AX→AS→Option (List Bool×STup (scss os))
 |[],_,_=>none
 |[o],e,s=>bif u2o o.1 e then w79 p n o.2 s else none
 |o::a::os,e,s=>match (bif u2o o.1 e then w79 p n o.2 s else none:Option (List Bool×Tup o.2.scs)) with
  |some (cs,x)=>some (cs, .inl x)
  |none=>match y0j p n (a::os) e s with
   |some (cs,y)=>some (cs, .inr y)
   |none=>none
def z2i (p:Prim):(os:w2n)→STup (scss os)→AX×SS
 |[],y=>Empty.elim y
 |[o],x=>(o.1,y43 p o.2 x)
 |o::a::os, .inl x=>(o.1,y43 p o.2 x)
 |o::a::os, .inr y=>z2i p (a::os) y
theorem y03 {n:Nat}:∀ {os:w2n} {e:AX} {s:AS} {cs:List Bool} {y:STup (scss os)},y0j std n os e s=some (cs,y)→z1o cs=true→(z2i std os y).1=e∧z6n n s (z2i std os y).2.s∧n≤(z2i std os y).2.s.heap.length
 |[],e,s,cs,y,h,b=>by cases h
 |[o],e,s,cs,y,h,b=>by
  simp only [y0j] at h
  cases a:u2o o.1 e with
  |false=>rw [a] at h; cases h
  |true=>
   rw [a] at h
   exact ⟨x4w a,y30 h b⟩
 |o::g::os,e,s,cs,y,h,b=>by
  simp only [y0j] at h
  split at h
  ·rename_i d x c
   cases h
   cases a:u2o o.1 e with
   |false=>rw [a] at c; cases c
   |true=>
    rw [a] at c
    exact ⟨x4w a,y30 c b⟩
  ·split at h
   ·rename_i d f i
    cases h
    exact y03 (os:=g::os) (y:=f) i b
   ·cases h
def x5k (A:Alg) (β:Type) (p:Prim):(os:w2n)→Option (STup (scss os))→(AX→SS→A.Ω β)→A.Ω β
 |[],_,_=>A.no β 81
 |[o],x,k=>A.bnd _ β x fun y=>k o.1 (y43 p o.2 y)
 |o::a::os,x,k=>A.alt _ _ β x (fun y=>k o.1 (y43 p o.2 y)) (fun z=>x5k A β p (a::os) (some z) k)
theorem z6z {β:Type} {b:β}:∀ {os:w2n} {x:Option (STup (scss os))} {k:AX→SS→Option β},x5k opt β std os x k=some b→∃ y,x=some y∧k (z2i std os y).1 (z2i std os y).2=some b
 |[],x,k,h=>by cases h
 |[o],x,k,h=>by
  obtain ⟨y,d,a⟩:=v1m h
  exact ⟨y,d,a⟩
 |o::c::os,x,k,h=>by
  simp only [x5k,opt] at h
  cases x with
  |none=>cases h
  |some z=>
   cases z with
   |inl y=>exact ⟨.inl y,rfl,h⟩
   |inr y=>
    obtain ⟨f,e,a⟩:=z6z (os:=c::os) (x:=some y) (k:=k) h
    cases e
    exact ⟨.inr y,rfl,a⟩
structure x2o where
 head:ST
 outs:w2n
def x81 (A:Alg) (p:Prim) (rec:y8s A) (n g:Nat) (pos:List Bool) (c:Code) (a:x2o) (x:Tup a.head.scs):A.Ω (Tup a.head.scs⊕STup (scss a.outs)):=
 rec _ n g (false::pos) c (y43 p a.head x) fun e s=>match e with
  | .normal=>match w79 p n a.head s.s with
   |some (cs,b)=>needs A _ cs (A.ret _ (.inl b))
   |none=>A.no _ 82
  |e=>match y0j p n a.outs e s.s with
   |some (cs,y)=>needs A _ cs (A.ret _ (.inr y))
   |none=>A.no _ 83
noncomputable def v6h (A:Alg) (p:Prim) (rec:y8s A) (n g:Nat) (pos:List Bool) (c:Code) (a:x2o) (β:Type) (b:SS) (k:AX→SS→A.Ω β):A.Ω β:=
 match w79 p n a.head b.s with
 |some (cs,x)=>needs A β cs (x5k A β p a.outs (z1a (fun x=>A.run _ (x81 A p rec n g pos c a x)) x) k)
 |none=>A.no β 84
section
variable {P:Program}
theorem z5p.seen {n:Nat} {c:Code} {s:AS} {d:AX} {s1 b:AS} (h:z5p P n c s (fun a s'=>a=d∧s'=s1)) (e:z6n n s1 b):z5p P n c s (fun a s'=>a=d∧s'=b):=
 z1g (h.mono fun a s' f=>by obtain ⟨rfl,rfl⟩:=f; exact ⟨_,e,rfl,rfl⟩)
theorem w9o {rec:y8s opt} (I:y8t P rec) {n g:Nat} {pos:List Bool} {c:Code} (F:z05 P g pos=some (.loop c)) {a:x2o} {β:Type} {A:SS} {k:AX→SS→Option β} {b:β} (Y:n≤A.s.heap.length)
  (h:v6h opt std rec n g pos c a β A k=some b):∃ e p,n≤p.s.heap.length∧z5p P n (.loop c) A.s (fun o q=>o=e∧q=p.s)∧k e p=some b:=by
 unfold v6h at h
 split at h
 ·rename_i cs x U
  obtain ⟨V,h⟩:=z1s h
  obtain ⟨y,T,h⟩:=z6z h
  obtain ⟨v1,L⟩:=y30 U V
  obtain ⟨m,hm⟩:=y2v T
  have l:z05 P g (false::pos)=some c:=by simp [z05,F,v9z]
  have key:∀ (m:Nat) (x:Tup a.head.scs),n≤(y43 std a.head x).s.heap.length→z9x (fun x=>opt.run _ (x81 opt std rec n g pos c a x)) m x=some y→
    n≤(z2i std a.outs y).2.s.heap.length∧z5p P n (.loop c) (y43 std a.head x).s (fun o q=>o=(z2i std a.outs y).1∧q=(z2i std a.outs y).2.s):=by
   intro m
   induction m with
   |zero=>intro x _ h; simp [z9x] at h
   |succ m Q=>
    intro x t i
    simp only [z9x] at i
    split at i
    ·rename_i X G
     obtain ⟨e,H,M,B,d⟩:=I _ _ _ _ _ _ _ _ l t G
     cases e with
     |normal=>
      simp only at d
      split at d
      ·rename_i v K r
       obtain ⟨f,d⟩:=z1s d
       cases d
       obtain ⟨w1,z⟩:=y30 r f
       obtain ⟨S,R⟩:=Q _ z i
       refine ⟨S,z3v ((B.seen w1).mono fun o q C=>?_)⟩
       obtain ⟨rfl,rfl⟩:=C
       exact R
      ·cases d
     |exit j=>
      simp only at d
      split at d
      ·obtain ⟨_,d⟩:=z1s d; cases d
      ·cases d
     |ret=>
      simp only at d
      split at d
      ·obtain ⟨_,d⟩:=z1s d; cases d
      ·cases d
    ·rename_i W G
     cases i
     obtain ⟨e,H,M,B,d⟩:=I _ _ _ _ _ _ _ _ l t G
     have u:∀ cs,y0j std n a.outs e H.s=some (cs,y)→z1o cs=true→e≠ .normal→n≤(z2i std a.outs y).2.s.heap.length∧z5p P n (.loop c) (y43 std a.head x).s (fun o q=>o=(z2i std a.outs y).1∧q=(z2i std a.outs y).2.s):=by
      intro cs r f E
      obtain ⟨J,w1,z⟩:=y03 r f
      refine ⟨z,z3v ((B.seen w1).mono fun o q C=>?_)⟩
      obtain ⟨rfl,rfl⟩:=C
      cases o with
      |normal=>exact absurd rfl E
      |exit j=>exact ⟨J.symm,rfl⟩
      |ret=>exact ⟨J.symm,rfl⟩
     cases e with
     |normal=>
      simp only at d
      split at d
      ·obtain ⟨_,d⟩:=z1s d; cases d
      ·cases d
     |exit j=>
      simp only at d
      split at d
      ·rename_i v w r
       obtain ⟨f,d⟩:=z1s d
       cases d
       exact u _ r f (by simp)
      ·cases d
     |ret=>
      simp only at d
      split at d
      ·rename_i v w r
       obtain ⟨f,d⟩:=z1s d
       cases d
       exact u _ r f (by simp)
      ·cases d
    ·cases i
  obtain ⟨O,N⟩:=key m x L hm
  exact ⟨_,_,O,z1d v1 N,h⟩
 ·cases h
def v6y (A:Alg) (p:Prim) (n:Nat) (os:w2n) (β:Type) (a:(γ:Type)→(AX→SS→A.Ω γ)→A.Ω γ) (k:AX→SS→A.Ω β):A.Ω β:=
 x5k A β p os (A.run _ (a _ fun e s=>match y0j p n os e s.s with
  |some (cs,y)=>needs A _ cs (A.ret _ y)
  |none=>A.no _ 85)) k
theorem w9x {n:Nat} {os:w2n} {β:Type} {d:(γ:Type)→(AX→SS→Option γ)→Option γ} {k:AX→SS→Option β} {b:β} {G:AX→SS→Prop} (m:∀ γ k (b:γ),d γ k=some b→∃ e a,G e a∧k e a=some b)
  (h:v6y opt std n os β d k=some b):∃ e c a,G e c∧z6n n c.s a.s∧(n≤c.s.heap.length→n≤a.s.heap.length)∧k e a=some b:=by
 unfold v6y at h
 obtain ⟨y,i,h⟩:=z6z h
 obtain ⟨e,c,hg,f⟩:=m _ _ _ i
 split at f
 ·rename_i cs p j
  obtain ⟨l,f⟩:=z1s f
  cases f
  obtain ⟨o,w1,g⟩:=y03 j l
  subst o
  exact ⟨_,c,_,hg,w1,fun _=>g,h⟩
 ·cases f
end
structure Ctr where
 g:FuncId
 args:List VT
 heap:List OT
 outs:w2n
def Ctr.scs (c:Ctr):List Sc:=v96 c.heap++(v95 c.heap++x3k c.args)
def x5q (p:Prim) (c:Ctr) (vs:List Val):List AV×List AO:=
 ((z7c p (z77 c.heap vs).1 c.args (y7z p (z77 c.heap vs).1 (z77 c.heap vs).1 c.heap (z77 c.heap vs).2).2).1,(y7z p (z77 c.heap vs).1 (z77 c.heap vs).1 c.heap (z77 c.heap vs).2).1)
def CtrOk (P:Program) (c:Ctr) (F:Tup c.scs→Option (STup (scss c.outs))):Prop:=
 z3g P c.g∧∀ x y,F x=some y→(x5q std c (y7x c.scs x)).2.length≤(z2i std c.outs y).2.s.heap.length∧
  z3s P c.g (x5q std c (y7x c.scs x)).1 (x5q std c (y7x c.scs x)).2 (z0z (z2i std c.outs y).2.s.env 0) (z2i std c.outs y).2.s.heap
theorem z3s.sees {P:Program} {g:FuncId} {args:List AV} {h:List AO} {r:AV} {b h':List AO} {env:List (Nat×AV)} {nt:Nat} (j:z3s P g args h r b) (f:z6n h.length ⟨[(0,r)],b,1⟩ ⟨env,h',nt⟩):z3s P g args h (z0z env 0) h':=⟨by
 intro ρ e w cs y x u
 obtain ⟨ρ',v,a,fr,s,q,p,o,n,m,l⟩:=j.run ρ e w cs y x u
 have c:z2c P ρ' ⟨[(0,r)],b,1⟩ #[v] a:=⟨n,fun t=>by
  show z0q ρ' (z0f ρ' b) a (z0z [(0,r)] t) _
  simp only [z0z]
  cases i:eAk 0 t with
  |true=>have:=eAg i; subst this; exact o
  |false=>exact .bot _,rfl,m⟩
 obtain ⟨ρ2,d,A,k,z⟩:=f.run ρ' #[v] a c
 exact ⟨ρ2,v,a,fr,s,q,p,d.env 0,d.heap,d.dom,l.trans k⟩⟩
def bodyRun (A:Alg) (p:Prim) (E:Env) (O:Orc A) (f:Nat) (c:Ctr) (x:Tup c.scs):A.Ω (STup (scss c.outs)):=
 x2a A E (sym A p E O f) _ c.g (x5q p c (y7x c.scs x)).1 (x5q p c (y7x c.scs x)).2 (x1t c.heap) fun r h _=>
  match y0j p (x5q p c (y7x c.scs x)).2.length c.outs .ret ⟨[(0,r)],h,1⟩ with
  |some (cs,y)=>needs A _ cs (A.ret _ y)
  |none=>A.no _ 91
theorem ctr_of_body {P:Program} {E:Env} {O:Orc opt} (hE:EnvOk P E) (hO:y4b P O) {f:Nat} {c:Ctr} {F:Tup c.scs→Option (STup (scss c.outs))} (b:z3g P c.g) (h:∀ x,bodyRun opt std E O f c x=F x):CtrOk P c F:=by
 refine ⟨b,fun x y d=>?_⟩
 rw [←h x] at d
 obtain ⟨r,h',p,k,o,n,a⟩:=z9q hE (x73 hE hO f) d
 split at a
 ·rename_i cs l i
  obtain ⟨j,a⟩:=z1s a
  cases a
  obtain ⟨m,w1,e⟩:=y03 i j
  exact ⟨e,k.sees w1⟩
 ·cases a
section frame
variable {P:Program} {ρ:Rho} {h:List AO} {w:World} {σ:List (Option Nat)}
theorem x82 {hT:List AO} (f:HOk ρ (ρ.lent h σ) (z0f ρ h) (z0f ρ h) h w σ hT) (b:Nat) (j:z0f (ρ.lent h σ) hT b):z0f ρ h b:=by
 rcases j with (g|⟨a,M,e,c,_,rfl⟩)|⟨i,M,e,c,rfl⟩
 ·exact .inl g
 ·exact .inr ⟨a,M,e,c,rfl⟩
 ·obtain ⟨a,k,d⟩:=z4g e
  exact .inr ⟨a,M,d,(f.nth i _ k).live c,rfl⟩
theorem w4s (A:z0b P ρ h w) (O:w1r σ=true) {hT:List AO} (N:HOk ρ (ρ.lent h σ) (z0f ρ h) (z0f ρ h) h w σ hT):z0b P (ρ.lent h σ) hT w:=by
 have kp:z5d (z0f ρ h) (z0f (ρ.lent h σ) hT) w w:=⟨eAp _,fun _ _ _=>rfl,fun b _ S=>x82 N b S,fun _ _ h=>h,z0v.refl _⟩
 have H:∀ {x:AV} {v:Value},z0q (ρ.lent h σ) (z0f ρ h) w x v→z0q (ρ.lent h σ) (z0f (ρ.lent h σ) hT) w x v:=fun z=>z.keep kp (fun _ _ h=>h)
 refine ⟨fun i M V=>?_,fun i j M M' G h2 l1 l2 S=>?_,fun b C=>?_,fun i M V p C=>?_,A.gl.keep kp⟩
 ·obtain ⟨a,F,m⟩:=z4g V
  obtain ⟨o1,o⟩:=A.obj a M m
  refine ⟨o1,?_⟩
  rcases N.nth i _ F with e|⟨es,e,l⟩|⟨es,e,J⟩|⟨cells,ys,R,e,K,Y⟩|⟨st,pd,g,pos,nt,env,env',a1,e,Q⟩
  ·rw [e]; trivial
  ·rw [e]
   rcases l with l|⟨a9,l,a4⟩
   ·rw [l] at o
    obtain ⟨X,c,t,s,p,q⟩:=o
    exact ⟨X,c,t,s,p,fun i r j x B I=>let ⟨v,z,G,n⟩:=q i r j x B I; ⟨v,z,G,n.keep kp⟩⟩
   ·rw [l,y39 a4] at o
    obtain ⟨X,c,t,s,p,q⟩:=o
    refine ⟨X,c,t,s,fun i r B=>?_,fun i r j x B I=>?_⟩
    ·have:=p i (toA r) (by rw [z3o,B]; rfl)
     rwa [z01] at this
    ·obtain ⟨v,z,G,n⟩:=q i (toA r) j (.d x) (by rw [z3o,B]; rfl) (by rw [z1p,I]; rfl)
     cases n with|d n=>exact ⟨v,z,G,n.keep kp⟩
  ·rw [e]; rw [J] at o
   obtain ⟨en,a7,s,p,q⟩:=o
   exact ⟨en,a7,s,p,fun i k x B=>let ⟨e,he,G,h2⟩:=q i k x B; ⟨e,he,G.keep kp,h2.keep kp⟩⟩
  ·rw [e]; rw [R] at o
   obtain ⟨E,c,t,s,q⟩:=o
   refine ⟨E,c,t,s,fun j y hy=>?_⟩
   have a3:j<cells.length:=by rw [←K]; exact (eAe.1 hy).1
   obtain ⟨v,z,_⟩:=q j _ (eAd a3)
   have:=Y (fun j=>(c[M.base+j]?).getD undef) (fun j x I=>by
    obtain ⟨u,hu,Z⟩:=q j x I
    simp only [hu,eCd]; exact Z) j y hy
   simp only [z,eCd] at this
   exact ⟨v,z,H this⟩
  ·rw [e]; rw [a1] at o
   obtain ⟨x,ps,a8,W,a5,tm,ds,f,s,p,q⟩:=o
   exact ⟨x,ps,a8,W,a5,tm,ds,f,s,p,fun t=>H (Q (fun t=>tm.getD t undef) q t)⟩
 ·obtain ⟨a,F,m⟩:=z4g G
  obtain ⟨a',T,U⟩:=z4g h2
  have:=A.inj a a' M M' m U ((N.nth i _ F).live l1) ((N.nth j _ T).live l2) S
  subst this
  exact z8w O F T
 ·rcases C with C|⟨a,M,V,p,_,rfl⟩
  ·exact A.fr b C
  ·exact (A.obj a M V).1
 ·obtain ⟨a,F,m⟩:=z4g V
  have L:=(N.nth i _ F).live p
  rcases C with C|⟨a',M',a6,a2,a0,S⟩
  ·exact A.sep a M m L C
  ·have:=A.inj a' a M' M a6 m a2 L S
   subst this
   exact a0 i F
theorem w1t {n:Nat} {s:AS} (o:n≤s.heap.length) (b:w1r σ=true) (h:z6w s.heap.length σ=true) {g:FuncId} {args a:List AV} {hT c:List AO} {r:AV} (d:hT.length≤c.length)
  (e:∀ (ρ:Rho) (w:World),z0b P ρ s.heap w→HOk ρ (ρ.lent s.heap σ) (z0f ρ s.heap) (z0f ρ s.heap) s.heap w σ hT∧a.length=args.length∧
   ∀ f:Nat→Value,(∀ i x,args[i]?=some x→z0q ρ (z0f ρ s.heap) w x (f i))→∀ i y,a[i]?=some y→z0q (ρ.lent s.heap σ) (z0f ρ s.heap) w y (f i))
  (p:z3s P g a hT r c):z5o P n g args s (z8j (z3h σ s.heap.length) r) ⟨s.env,z2e (z3h σ s.heap.length) s.heap 0 c,s.nt⟩:=
 y7b o b h d (fun ρ w m=>let ⟨j,l,k⟩:=e ρ w m; ⟨j.len,x82 j,w4s m b j,l,k⟩) p
end frame
def u3k (f:AV→Option (Bool×D)):List AV→Option (Bool×List D)
 |[]=>some (true,[])
 |x::l=>match f x,u3k f l with
  |some (b,d),some (c,r)=>some (b&&c,d::r)
  |_,_=>none
def v01 (f:AV→Option (Bool×D)):List (List AV)→Option (Bool×List (List D))
 |[]=>some (true,[])
 |x::l=>match u3k f x,v01 f l with
  |some (b,d),some (c,r)=>some (b&&c,d::r)
  |_,_=>none
def dV (p:Prim) (h:List AO):Nat→AV→Option (Bool×D)
 |_, .d x=>some (true,x)
 |n+1, .slice id z off len cap=>match z0e h id with
  | .row es=>some (p.leN (p.add off len) (p.len es), .list false z (p.cut es off len))
  | .arow es=>match v01 (dV p h n) ((es.drop off).take len) with
   |some (b,ds)=>some (eAz (off+len) es.length&&b, .list false z ds)
   |none=>none
  |_=>none
 |_,_=>none
mutual
def lV (p:Prim) (h:List AO):AV→Bool×AV
 | .bot=>(true, .bot)
 | .d x=>(true, .d x)
 | .slice id z off len cap=>match dV p h 4 (.slice id z off len cap) with
  |some (b,d)=>(b, .d d)
  |none=>(true, .bot)
 | .clo fn fs cs=>(p.and (lL p h fs).1 (lL p h cs).1, .clo fn (lL p h fs).2 (lL p h cs).2)
 | .agg l=>((lL p h l).1,x8w (lL p h l).2)
 | .tuple l=>((lL p h l).1, .tuple (lL p h l).2)
 |_=>(true, .bot)
def lL (p:Prim) (h:List AO):List AV→Bool×List AV
 |[]=>(true,[])
 |x::l=>(p.and (lV p h x).1 (lL p h l).1,(lV p h x).2::(lL p h l).2)
end
theorem y9k (p:Prim) (h:List AO):∀ l,(lL p h l).2.length=l.length
 |[]=>rfl
 |x::l=>by simp [lL,y9k p h l]
theorem y9l (h:List AO):∀ (l:List AV),(lL std h l).1=true→∀ (i:Nat) (y:AV),(lL std h l).2[i]?=some y→∃ x,l[i]?=some x∧y=(lV std h x).2∧(lV std h x).1=true
 |[],_,i,y,a=>by simp [lL] at a
 |x::l,b,i,y,a=>by
  simp only [lL,std,eAf] at b
  simp only [lL] at a
  cases i with
  |zero=>simp at a; subst a; exact ⟨x,rfl,rfl,b.1⟩
  |succ i=>simpa using y9l h l b.2 i y (by simpa using a)
theorem x41 {f:AV→Option (Bool×D)}:∀ {l:List AV} {ds:List D},u3k f l=some (true,ds)→ds.length=l.length∧∀ (j:Nat) (d:D),ds[j]?=some d→∃ x,l[j]?=some x∧f x=some (true,d)
 |[],ds,h=>by cases h; exact ⟨rfl,fun j d h=>by simp at h⟩
 |x::l,ds,h=>by
  simp only [u3k] at h
  split at h
  ·rename_i b d c r k i
   have h:=Option.some.inj h
   have g:=congrArg Prod.fst h
   have e:=congrArg Prod.snd h
   simp only [eAf] at g
   obtain ⟨rfl,rfl⟩:=g
   simp only at e
   subst e
   obtain ⟨o,n⟩:=x41 i
   refine ⟨by simp [o],fun j m a=>?_⟩
   cases j with
   |zero=>simp at a; subst a; exact ⟨x,rfl,k⟩
   |succ j=>simpa using n j m (by simpa using a)
  ·cases h
theorem y92 {f:AV→Option (Bool×D)}:∀ {l:List (List AV)} {ds:List (List D)},v01 f l=some (true,ds)→ds.length=l.length∧∀ (j:Nat) (d:List D),ds[j]?=some d→∃ x,l[j]?=some x∧u3k f x=some (true,d)
 |[],ds,h=>by cases h; exact ⟨rfl,fun j d h=>by simp at h⟩
 |x::l,ds,h=>by
  simp only [v01] at h
  split at h
  ·rename_i b d c r k i
   have h:=Option.some.inj h
   have g:=congrArg Prod.fst h
   have e:=congrArg Prod.snd h
   simp only [eAf] at g
   obtain ⟨rfl,rfl⟩:=g
   simp only at e
   subst e
   obtain ⟨o,n⟩:=y92 i
   refine ⟨by simp [o],fun j m a=>?_⟩
   cases j with
   |zero=>simp at a; subst a; exact ⟨x,rfl,k⟩
   |succ j=>simpa using n j m (by simpa using a)
  ·cases h
section
variable {P:Program} {ρ:Rho} {h:List AO} {w:World}
def frO (ρ:Rho):Nat→Prop:=z0f (ρ.only fun _=>false) []
theorem w5n:z5d (z0f ρ h) (frO ρ) w w:=⟨eAp _,fun _ _ _=>rfl,fun b _ a=> .inl (z4z.1 a),fun _ _ h=>h,z0v.refl _⟩
theorem w15 {c:Array Value} {t:TypeId} {b k:Nat} {v:Value} (d:w.heap[b]?=some (.cells c t (0,0))) (a:c[k]?=some v):w.cell? ⟨b,k,none⟩=some v:=by
 unfold eFc
 simp only [d]
 simpa using a
theorem u3j (Q:z0b P ρ h w):∀ (n:Nat) {x:AV} {v:Value} {d:D},z0q ρ (z0f ρ h) w x v→dV std h n x=some (true,d)→z1m (frO ρ) w d v
 |n, .d x,v,d,l,f=>by
  have f:some (true,x)=some (true,d):=by cases n<;>exact f
  cases f
  cases l with|d l=>exact l.keep w5n
 |0, .slice _ _ _ _ _,v,d,l,f=>by cases f
 |n+1, .slice id z off len cap,v,d,l,f=>by
  simp only [dV] at f
  split at f
  ·rename_i es p
   have e:=Option.some.inj f
   have T:=congrArg Prod.fst e
   have M:=congrArg Prod.snd e
   have:=v8i Q l
   simp only [bV,p] at this
   have:=this T
   simp only at M
   rw [M] at this
   cases this with|d h=>exact h
  ·rename_i es p
   split at f
   ·rename_i b ds hds
    have e:=Option.some.inj f
    have T:=congrArg Prod.fst e
    have M:=congrArg Prod.snd e
    simp only [eAf] at T M
    obtain ⟨K,rfl⟩:=T
    subst M
    have K:=eAl K
    obtain ⟨dl,dg⟩:=y92 hds
    have g:ds.length=len:=by rw [dl,eCk,eGe]; omega
    cases l with
    |nils=>
     have:ds=[]:=eBw.1 g
     subst this
     exact .lnil _ _ _ _ (by simp)
    |slice _ _ _ _ _ L a c hL J ha hc hl=>
     by_cases h0:len=0
     ·subst h0
      have:ds=[]:=eBw.1 g
      subst this
      exact .lnil _ _ _ _ (by simp)
     have ha:=ha (by omega)
     subst ha
     obtain ⟨_,ho⟩:=Q.obj id L hL
     rw [p] at ho
     obtain ⟨I,cs,t,a0,V,F⟩:=ho
     have B:(z0e h id).live=true:=by rw [p]; rfl
     have X:¬ frO ρ L.blk:=fun hf=>Q.sep id L hL B (z4z.1 hf)
     have key:∀ (i:Nat) (r:List D),ds[i]?=some r→∃ N,es[off+i]?=some N∧r.length=L.esz∧∀ (j:Nat) (x:D),r[j]?=some x→∃ u,cs[L.base+(off+i)*L.esz+j]?=some u∧u.oneCell'=true∧z1m (frO ρ) w x u:=by
      intro i r m
      obtain ⟨N,S,g2⟩:=dg i r m
      obtain ⟨q1,H⟩:=x41 g2
      have Z:i<len:=by rw [←g]; exact (eAe.1 m).1
      rw [eFy Z,eDh] at S
      refine ⟨N,S,by rw [q1]; exact V _ _ S,fun j x R=>?_⟩
      obtain ⟨y,hy,f⟩:=H j x R
      obtain ⟨u,hu,h1,U⟩:=F (off+i) N j y S hy
      exact ⟨u,hu,h1,u3j Q n U f⟩
     have C:∀ (i:Nat) (r:List D),ds[i]?=some r→r.length=L.esz:=fun i r m=>by obtain ⟨_,_,q,_⟩:=key i r m; exact q
     let cell:Nat→Value:=fun k=>(cs[L.base+off*L.esz+k]?).getD undef
     have A:∀ i j,L.base+(off+i)*L.esz+j=L.base+off*L.esz+(i*L.esz+j):=fun i j=>by rw [eBe]; omega
     have s:∀ k,k<ds.length*L.esz→∃ u,cs[L.base+off*L.esz+k]?=some u∧u.oneCell'=true:=by
      intro k E
      have m:k / L.esz<ds.length:=(eFw I).2 E
      have R:k % L.esz<L.esz:=eGh _ I
      have W:=eAd m
      obtain ⟨_,_,q1,H⟩:=key _ _ W
      obtain ⟨u,o,a2,_⟩:=H _ _ (eAd (show k % L.esz<(ds[k / L.esz]).length by omega))
      have e:k / L.esz*L.esz+k % L.esz=k:=by rw [eFm]; exact Nat.div_add_mod _ _
      rw [A,e] at o
      exact ⟨u,o,a2⟩
     have Y:ds≠[]:=fun e=>by rw [e] at g; simp at g; omega
     have G:=z1m.list (O:=frO ρ) (w:=w) false ds L.blk (L.base+off*L.esz) z c (by omega) Y X (by omega) (by simp) (fun i r m=>by rw [←J]; exact C i r m) cell (fun k E=>?_) (fun k E=>?_) (fun i r j x m R=>?_)
     ·rw [g] at G; exact G
     ·rw [←J] at E
      obtain ⟨u,o,a2⟩:=s k E
      show ((cs[L.base+off*L.esz+k]?).getD undef).oneCell'=true
      rw [o]; exact a2
     ·rw [←J] at E
      obtain ⟨u,o,_⟩:=s k E
      show w.cell? ⟨L.blk,L.base+off*L.esz+k,none⟩=some ((cs[L.base+off*L.esz+k]?).getD undef)
      rw [o]; exact w15 a0 o
     ·obtain ⟨_,_,_,H⟩:=key i r m
      obtain ⟨u,o,_,a3⟩:=H j x R
      show z1m _ w x ((cs[L.base+off*L.esz+(i*z+j)]?).getD undef)
      rw [A,J] at o
      rw [J,o]; exact a3
   ·cases f
  ·cases f
 |n, .bot,v,d,l,f=>by cases n<;>cases f
 |n, .bptr _ _,v,d,l,f=>by cases n<;>cases f
 |n, .ptr _ _ _,v,d,l,f=>by cases n<;>cases f
 |n, .lptr _ _,v,d,l,f=>by cases n<;>cases f
 |n, .wptr _ _,v,d,l,f=>by cases n<;>cases f
 |n, .perm _,v,d,l,f=>by cases n<;>cases f
 |n, .map _,v,d,l,f=>by cases n<;>cases f
 |n, .yld _,v,d,l,f=>by cases n<;>cases f
 |n, .clo _ _ _,v,d,l,f=>by cases n<;>cases f
 |n, .iface _ _,v,d,l,f=>by cases n<;>cases f
 |n, .agg _,v,d,l,f=>by cases n<;>cases f
 |n, .tuple _,v,d,l,f=>by cases n<;>cases f
theorem t0s (C:z0b P ρ h w) {x:AV} {v:Value} (q:z0q ρ (z0f ρ h) w x v):(lV std h x).1=true→z0q (ρ.only fun _=>false) (frO ρ) w (lV std h x).2 v:=by
 have sl:∀ {id z off len:Nat} {cap:Option Nat} {v:Value},z0q ρ (z0f ρ h) w (.slice id z off len cap) v→(lV std h (.slice id z off len cap)).1=true→z0q (ρ.only fun _=>false) (frO ρ) w (lV std h (.slice id z off len cap)).2 v:=by
  intro id z off len cap v q e
  simp only [lV] at e⊢
  split
  ·rename_i b d t
   rw [t] at e
   simp only at e
   subst e
   exact .d (u3j C 4 q t)
  ·exact .bot _
 induction q with
 |bot v=>intro _; exact .bot v
 |d h=>intro _; exact .d (h.keep w5n)
 |slice id z off len cap L a c G B F e k=>exact sl (.slice id z off len cap L a c G B F e k)
 |nils id z off cap a e=>exact sl (.nils id z off cap a e)
 |clo fn H cs u A s r J I o n=>
  intro e
  simp only [lV,std,eAf] at e
  simp only [lV]
  refine .clo fn _ _ u A (by rw [y9k]; exact s) (by rw [y9k]; exact r) (fun i y f=>?_) (fun i y f=>?_)
  ·obtain ⟨x,g,rfl,j⟩:=y9l h H e.1 i y f
   exact o i x g j
  ·obtain ⟨x,g,rfl,j⟩:=y9l h cs e.2 i y f
   exact n i x g j
 |agg l m k E p=>
  intro e
  simp only [lV] at e⊢
  refine y9h _ m (by rw [y9k]; exact k) (fun i y f=>?_)
  obtain ⟨x,g,rfl,j⟩:=y9l h l e i y f
  exact p i x g j
 |tuple l m k E p=>
  intro e
  simp only [lV] at e⊢
  refine .tuple _ m (by rw [y9k]; exact k) (fun i y f=>?_)
  obtain ⟨x,g,rfl,j⟩:=y9l h l e i y f
  exact p i x g j
 |_=>intro _; exact .bot _
end
mutual
def plV:AV→Bool
 | .bot=>true
 | .d x=>z8o x
 | .lptr _ _=>false
 | .wptr _ _=>false
 | .perm _=>false
 | .clo _ fs cs=>plL fs&&plL cs
 | .iface _ v=>plV v
 | .agg l=>plL l
 | .tuple l=>plL l
 |_=>true
def plL:List AV→Bool
 |[]=>true
 |x::l=>plV x&&plL l
end
theorem y1x:∀ {l:List AV},plL l=true→∀ (i:Nat) (d:AV),l[i]?=some d→plV d=true
 |[],_,i,d,h=>by simp at h
 |x::l,h,i,d,a=>by
  simp only [plL,eAf] at h
  cases i with
  |zero=>simp at a; subst a; exact h.1
  |succ i=>exact y1x h.2 i d (by simpa using a)
theorem x6i {ρ ρ':Rho} {O O':Nat→Prop} {w:World} {f:Nat→Nat} (n:∀ j M,ρ j=some M→ρ' (f j)=some M) {x:AV} {v:Value} (h:z0q ρ O w x v):plV x=true→z0q ρ' O' w (z8j f x) v:=by
 induction h with
 |bot v=>intro _; exact .bot v
 |d h=>intro b; exact .d (z8n h (by simpa only [plV] using b))
 |bptr id off L k=>intro _; exact .bptr _ off L (n _ _ k)
 |ptr id i off L k=>intro _; exact .ptr _ i off L (n _ _ k)
 |lptr=>intro b; simp [plV] at b
 |wptr=>intro b; simp [plV] at b
 |perm=>intro b; simp [plV] at b
 |slice id z off len cap L a c k E G u m=>intro _; exact .slice _ z off len cap L a c (n _ _ k) E G u m
 |nils id z off cap a u=>intro _; exact .nils _ z off cap a u
 |map id L k=>intro _; exact .map _ L (n _ _ k)
 |yld id L k=>intro _; exact .yld _ L (n _ _ k)
 |clo fn J cs B C s r I H q p=>
  intro b
  simp only [plV,eAf] at b
  simp only [z8j]
  refine .clo fn _ _ B C (by simp [z2l,s]) (by simp [z2l,r]) (fun i y e=>?_) (fun i y e=>?_)
  ·rw [z2l,eAj] at e
   obtain ⟨x,g,rfl⟩:=eBy.1 e
   exact q i x g (y1x b.1 i x g)
  ·rw [z2l,eAj] at e
   obtain ⟨x,g,rfl⟩:=eBy.1 e
   exact p i x g (y1x b.2 i x g)
 |iface t x v h l=>intro b; exact .iface t _ v (l (by simpa only [plV] using b))
 |agg A o m F l=>
  intro b
  simp only [plV] at b
  simp only [z8j]
  refine .agg _ o (by simp [z2l,m]) (fun i y e=>?_)
  rw [z2l,eAj] at e
  obtain ⟨x,g,rfl⟩:=eBy.1 e
  exact l i x g (y1x b i x g)
 |tuple A o m F l=>
  intro b
  simp only [plV] at b
  simp only [z8j]
  refine .tuple _ o (by simp [z2l,m]) (fun i y e=>?_)
  rw [z2l,eAj] at e
  obtain ⟨x,g,rfl⟩:=eBy.1 e
  exact l i x g (y1x b i x g)
def u7p:List (List AV)→Bool
 |[]=>true
 |x::l=>plL x&&u7p l
theorem x8g:∀ {l:List (List AV)},u7p l=true→∀ (i:Nat) (d:List AV),l[i]?=some d→plL d=true
 |[],_,i,d,h=>by simp at h
 |x::l,h,i,d,a=>by
  simp only [u7p,eAf] at h
  cases i with
  |zero=>simp at a; subst a; exact h.1
  |succ i=>exact x8g h.2 i d (by simpa using a)
def plO (p:Prim):AO→Bool
 | .dead=>true
 | .box l=>plL l
 | .row es=>p.plain es
 | .arow es=>u7p es
 | .map es=>p.plainM es
 | .loop _ _ _ _ _ _=>false
def plH (p:Prim):List AO→List Bool
 |[]=>[]
 |o::l=>plO p o::plH p l
theorem w31 {p:Prim}:∀ {l:List AO},z1o (plH p l)=true→∀ i,plO p (z0e l i)=true
 |[],_,i=>by cases i<;>rfl
 |o::l,h,i=>by
  simp only [plH,z1o,eAf] at h
  cases i with
  |zero=>exact h.1
  |succ i=>exact w31 h.2 i
theorem w30 {es:List (List D)} (h:std.plain es=true) {i j:Nat} {r:List D} {x:D} (b:es[i]?=some r) (a:r[j]?=some x):z8o x=true:=by
 have c:=eBm.1 h r (eAn b)
 exact eBm.1 c x (eAn a)
section
variable {P:Program} {w:World}
theorem v5m {ρ ρ':Rho} {O O':Nat→Prop} {f:Nat→Nat} (G:∀ j M,ρ j=some M→ρ' (f j)=some M) {L:Loc} {o:AO} (z:plO std o=true) (h:z1e P ρ O w L o):z1e P ρ' O' w L (y87 f o):=by
 cases o with
 |dead=>trivial
 |box cells=>
  obtain ⟨p,c,t,n,m⟩:=h
  refine ⟨p,c,t,n,fun j y q=>?_⟩
  rw [z2l,eAj] at q
  obtain ⟨x,d,rfl⟩:=eBy.1 q
  obtain ⟨v,s,u⟩:=m j x d
  exact ⟨v,s,x6i G u (y1x z j x d)⟩
 |row es=>
  obtain ⟨E,c,t,n,A,m⟩:=h
  refine ⟨E,c,t,n,A,fun i r j x a d=>?_⟩
  obtain ⟨v,s,B,u⟩:=m i r j x a d
  exact ⟨v,s,B,z8n u (w30 z a d)⟩
 |arow es=>
  obtain ⟨E,c,t,n,A,m⟩:=h
  refine ⟨E,c,t,n,fun i r a=>?_,fun i r j y a q=>?_⟩
  ·rw [y2o,eAj] at a
   obtain ⟨C,b,rfl⟩:=eBy.1 a
   rw [z2l,eBp]; exact A i C b
  ·rw [y2o,eAj] at a
   obtain ⟨C,b,rfl⟩:=eBy.1 a
   rw [z2l,eAj] at q
   obtain ⟨x,d,rfl⟩:=eBy.1 q
   obtain ⟨v,s,B,u⟩:=m i C j x b d
   exact ⟨v,s,B,x6i G u (y1x (x8g z i C b) j x d)⟩
 |map es=>
  obtain ⟨I,F,n,A,m⟩:=h
  refine ⟨I,F,n,A,fun i k x a=>?_⟩
  obtain ⟨e,he,B,H⟩:=m i k x a
  have l:=eBm.1 z (k,x) (eAn a)
  simp only [eAf] at l
  exact ⟨e,he,z8n B l.1,z8n H l.2⟩
 |loop st J g pos nt env=>cases z
end
theorem y6u (a b:List AO) (i:Nat):z0e (a++b) i=if i<a.length then z0e a i else z0e b (i - a.length):=by
 induction a generalizing i with
 |nil=>simp
 |cons o r c=>cases i with
  |zero=>simp [z0e]
  |succ n=>
   simp only [eGr,z0e,c n,eCa]
   by_cases h:n<r.length
   ·rw [if_pos h,if_pos (by omega)]
   ·rw [if_neg h,if_neg (by omega)]
    congr 1; omega
theorem w9h (f:AO→AO) (b:f .dead= .dead) (l:List AO) (i:Nat):z0e (l.map f) i=f (z0e l i):=by
 induction l generalizing i with
 |nil=>cases i<;>exact b.symm
 |cons o r a=>cases i with
  |zero=>rfl
  |succ n=>exact a n
section
variable {P:Program}
theorem lend {g:FuncId} {args:List AV} {r:AV} {n G:List AO} (ha:z3s P g (lL std n args).2 [] r G) (hc:(lL std n args).1=true) (hr:plV r=true) (V:z1o (plH std G)=true):
  z3s P g args n (z8j (n.length+ ·) r) (n++G.map (y87 (n.length+ ·))):=⟨by
 intro ρ vs w cs z a5 T
 let U:Rho:=ρ.only fun _=>false
 have E:∀ id L,U id=some L→False:=fun id L O=>by obtain ⟨a,_⟩:=z2a.1 O; cases a
 have a6:z0b P U [] w:=⟨fun id L O=>(E id L O).elim,fun id l L L' O=>(E id L O).elim,fun b m=>z.fr b m,fun id L O=>(E id L O).elim,z.gl.sub fun b m=> .inl (z4z.1 m)⟩
 obtain ⟨ρ',v,Q,fr,Z,a4,a1,hv,F,S,q⟩:=ha.run U vs w cs a6 (fun id hid=>by
  cases hq:U id with
  |none=>exact absurd hq hid
  |some L=>exact (E id L hq).elim) ⟨by rw [y9k]; exact T.1,fun i y hi=>by
   obtain ⟨x,q,rfl,m⟩:=y9l n args hc i y hi
   exact t0s z (T.2 i x q) m⟩
 have o:∀ b,b<w.heap.size→Q.heap[b]?=w.heap[b]?:=by
  intro b m
  by_cases V:ρ.fr b
  ·exact q.frs b V
  ·exact q.keep.frame b m (fun h=>V (z4z.1 h))
 have R:ρ'.fr=ρ.fr:=q.fr
 have a2:z5d (z0f ρ n) (z0f ρ n) w Q:=⟨q.keep.size,fun b m _=>o b m,fun b _ h=>h,q.keep.shape,q.keep.drawn⟩
 have a3:z0b P ρ n Q:=z.of_keep a2 fun b m=>o b (z7p z m)
 let base:=n.length
 let f:Nat→Nat:=(base+ ·)
 let ρ2:Rho:=⟨fun id=>if id<base then ρ id else ρ' (id - base),ρ.fr⟩
 let W:=n++G.map (y87 f)
 have J:∀ id,id<base→z0e W id=z0e n id:=fun id hid=>by show z0e (n++_) id=_; rw [y6u,if_pos hid]
 have I:∀ id,base≤id→z0e W id=y87 f (z0e G (id - base)):=fun id hid=>by
  show z0e (n++_) id=_
  rw [y6u,if_neg (by show ¬ id<base; omega),w9h _ rfl]
 have C:∀ id,id<base→ρ2 id=ρ id:=fun id hid=>by show (if id<base then _ else _)=_; rw [if_pos hid]
 have B:∀ id,base≤id→ρ2 id=ρ' (id - base):=fun id hid=>by show (if id<base then _ else _)=_; rw [if_neg (by omega)]
 have r3:∀ j M,ρ' j=some M→ρ2 (f j)=some M:=fun j M k=>by
  rw [B (f j) (Nat.le_add_right _ _)]
  show ρ' (base+j - base)=some M
  rw [Nat.add_sub_cancel_left]; exact k
 have Y:∀ id M,ρ id=some M→id<base:=fun id M k=>a5 id (by rw [k]; simp)
 have A:∀ j M,ρ' j=some M→(z0e G j).live=true→w.heap.size≤M.blk:=by
  intro j M k u
  rcases eCu M.blk w.heap.size with c|d
  ·have a0:z0f ρ' G M.blk:= .inr ⟨j,M,k,u,rfl⟩
   have:=z4z.1 (q.keep.own M.blk c a0)
   exact absurd (by rw [R]; exact this) (F.sep j M k u)
  ·exact d
 have hO:∀ b,z0f ρ2 W b→z0f ρ n b∨w.heap.size≤b:=by
  rintro b (hf|⟨id,M,k,u,rfl⟩)
  ·exact .inl (.inl hf)
  ·rcases eCu id base with c|d
   ·rw [C id c] at k; rw [J id c] at u; exact .inl (.inr ⟨id,M,k,u,rfl⟩)
   ·rw [B id d] at k; rw [I id d,z2h] at u; exact .inr (A _ M k u)
 have hk:z5d (z0f ρ n) (z0f ρ2 W) w Q:=⟨q.keep.size,fun b m _=>o b m,fun b m h=>(hO b h).elim id fun h=>by omega,q.keep.shape,q.keep.drawn⟩
 have H:∀ id M,ρ id=some M→ρ2 id=some M:=fun id M k=>by rw [C id (Y id M k)]; exact k
 refine ⟨ρ2,v,Q,fr,Z,a4,a1,x6i r3 hv hr,⟨fun id M k=>?_,fun id l M X k p N K e=>?_,fun b m=>a3.fr b m,fun id M k u m=>?_,z.gl.keep hk⟩,fun id hid=>?_,?_⟩
 ·rcases eCu id base with c|d
  ·rw [C id c] at k
   obtain ⟨a,b⟩:=z.obj id M k
   rw [J id c]
   exact ⟨eBc a q.keep.size,b.keep hk H (o _ a)⟩
  ·rw [B id d] at k
   obtain ⟨a,b⟩:=F.obj (id - base) M k
   rw [I id d]
   exact ⟨a,v5m r3 (w31 V _) b⟩
 ·rcases eCu id base with c|d<;>rcases eCu l base with s|t
  ·rw [C id c] at k; rw [C l s] at p
   rw [J id c] at N; rw [J l s] at K
   exact z.inj id l M X k p N K e
  ·rw [C id c] at k; rw [B l t] at p
   rw [J id c] at N; rw [I l t,z2h] at K
   have a:=(z.obj id M k).1
   have b:=A _ X p K
   omega
  ·rw [B id d] at k; rw [C l s] at p
   rw [I id d,z2h] at N; rw [J l s] at K
   have a:=(z.obj l X p).1
   have b:=A _ M k N
   omega
  ·rw [B id d] at k; rw [B l t] at p
   rw [I id d,z2h] at N; rw [I l t,z2h] at K
   have:=F.inj _ _ M X k p N K e
   omega
 ·rcases eCu id base with c|d
  ·rw [C id c] at k; rw [J id c] at u
   exact z.sep id M k u m
  ·rw [B id d] at k; rw [I id d,z2h] at u
   exact F.sep _ M k u (by rw [R]; exact m)
 ·show id<(n++G.map (y87 f)).length
  rw [eCz,eBp]
  rcases eCu id base with c|d
  ·have:id<n.length:=c
   omega
  ·rw [B id d] at hid
   have:=S (id - base) hid
   have e:base=n.length:=rfl
   omega
 ·exact { os:=q.os,tape:=q.tape,output:=q.output,keep:=hk,rho:=fun id hid=>C id hid,fr:=rfl,frs:=fun b m=>o b (z.fr b m) }⟩
end
def x0l:Nat→List (Option Nat)
 |0=>[]
 |n+1=>some n::x0l n
theorem x0k:∀ {n a:Nat},a<n→y0g (x0l n) a=true
 |0,a,h=>by omega
 |n+1,a,h=>by
  simp only [x0l,y0g,eBh]
  by_cases e:a=n
  ·left; subst e; exact eGj _
  ·right; exact x0k (by omega)
def u2j (p:Prim) (c:Ctr) (args:List AV) (h:List AO):Option (List (Option Nat)×List Bool×Tup c.scs):=
 match w81 (v1n h c.heap 2 (y4n c.args args)) 0 c.heap with
 |σ=>bif w1r σ&&z6w h.length σ then match y31 h c.heap σ with
  |some v1=>match x2r p h σ (x0l h.length) (z77 c.heap v1).1 c.heap σ,y14 p h σ (x0l h.length) (z77 c.heap v1).1 c.args args with
   |some (e,b),some (d,a)=>match v5x c.scs (v1++(b++a)) with
    |some x=>some (σ,e++d,x)
    |none=>none
   |_,_=>none
  |none=>none
  else none
theorem x67 {P : Program} {c : Ctr} {args : List AV} {s : AS} {σ : List (Option Nat)} {cs : List Bool} {x : Tup c.scs} (h : u2j std c args s.heap = some (σ, cs, x)) (hc : z1o cs = true) {n : Nat} (hn : n ≤ s.heap.length) {r : AV} {hT' : List AO}
    (hl : (x5q std c (y7x c.scs x)).2.length ≤ hT'.length) (ha : z3s P c.g (x5q std c (y7x c.scs x)).1 (x5q std c (y7x c.scs x)).2 r hT') : z5o P n c.g args s (z8j (z3h σ s.heap.length) r) ⟨s.env, z2e (z3h σ s.heap.length) s.heap 0 hT', s.nt⟩ := by
  unfold u2j at h
  simp only at h
  generalize hσ : w81 (v1n s.heap c.heap 2 (y4n c.args args)) 0 c.heap = σ' at h
  cases hb : w1r σ' && z6w s.heap.length σ' with
  | false => rw [hb] at h; cases h
  | true =>
    rw [hb] at h; simp only [cond_true] at h
    simp only [eAf] at hb
    split at h
    · rename_i v1 h1
      split at h
      · rename_i c2 v2 c3 v3 h2 h3
        split at h
        · rename_i x' hx
          cases h
          obtain ⟨q2, q3⟩ := z2w hc
          rw [y5v hx] at hl ha
          obtain ⟨a1, a2, a3⟩ := w5w s.heap c.heap σ v1 h1 (v2 ++ v3)
          refine w1t hn hb.1 hb.2 hl (fun ρ w hr => ?_) ha
          rw [← a3] at h2 h3
          have cx : w8f P ρ (ρ.lent s.heap σ) (z0f ρ s.heap) s.heap w σ (x0l s.heap.length) (z77 c.heap (v1 ++ (v2 ++ v3))).1 :=
            { hr := hr
              loc := fun i a hi => by show (match z2d σ i with | some (some a) => ρ a | _ => none) = ρ a; rw [hi]
              sub := fun b hb => hb
              out := fun a M hM hl hm => by
                rcases eCu a s.heap.length with hlt | hge
                · rw [x0k hlt] at hm; cases hm
                · rw [x6s _ _ hge] at hl; cases hl }
          obtain ⟨b1, b2⟩ := w5v cx c.heap σ (z77 c.heap (v1 ++ (v2 ++ v3))).1 c2 v2 a2 h2 q2 v3
          obtain ⟨d1, d2, d3⟩ := z54 cx c.args args c3 v3 h3 q3 []
          rw [eDx] at d1 d2 d3
          refine ⟨?_, ?_, ?_⟩
          · show HOk _ _ _ _ _ _ _ (y7z std _ _ c.heap (z77 c.heap (v1 ++ (v2 ++ v3))).2).1
            rw [a1]; exact b2
          · show (z7c std _ c.args (y7z std _ _ c.heap (z77 c.heap (v1 ++ (v2 ++ v3))).2).2).1.length = _
            rw [a1, b1]; exact d2
          · show ∀ f : Nat → Value, _ → ∀ i y, (z7c std _ c.args (y7z std _ _ c.heap (z77 c.heap (v1 ++ (v2 ++ v3))).2).2).1[i]? = some y → _
            rw [a1, b1]; exact d3
        · cases h
      · cases h
    · cases h
structure CF where
 c:Ctr
 F:Prim→Tup c.scs→Option (STup (scss c.outs))
def y8v (f:Nat→Nat):List (List CK)→Nat→List (List CK)→List (List CK)
 |K,_,[]=>K
 |K,j,[]::r=>y8v f K (j+1) r
 |K,j,a::r=>y8v f (u7n K (f j) a) (j+1) r
def isE:List AO→Bool
 |[]=>true
 |_=>false
theorem w91 {l:List AO} (h:isE l=true):l=[]:=by cases l<;>first|rfl|cases h
def v6m (p:Prim) (c:Ctr) (args:List AV) (h:List AO):Option (List Bool×Tup c.scs):=
 match u2j p c (lL p h args).2 [] with
 |some ([],cs,x)=>bif isE (x5q p c (y7x c.scs x)).2 then some ((lL p h args).1::cs,x) else none
 |_=>none
def w17 (A:Alg) (p:Prim) (Γ:List CF) (β:Type) (g:FuncId) (args:List AV) (a:SS):Option ((AV→SS→A.Ω β)→A.Ω β):=
 match Γ with
 |[]=>none
 |cf::r=>bif eAk cf.c.g g then match u2j p cf.c args a.s.heap with
  |some (σ,cs,x)=>some fun k=>needs A β cs (x5k A β p cf.c.outs (cf.F p x) fun _ s=>k (z8j (z3h σ a.s.heap.length) (z0z s.s.env 0)) ⟨⟨a.s.env,z2e (z3h σ a.s.heap.length) a.s.heap 0 s.s.heap,a.s.nt⟩,y8v (z3h σ a.s.heap.length) a.K 0 s.K⟩)
  |none=>match v6m p cf.c args a.s.heap with
   |some (cs,x)=>some fun k=>needs A β cs (x5k A β p cf.c.outs (cf.F p x) fun _ s=>needs A β (plV (z0z s.s.env 0)::plH p s.s.heap)
     (k (z8j (a.s.heap.length+ ·) (z0z s.s.env 0)) ⟨⟨a.s.env,a.s.heap++s.s.heap.map (y87 (a.s.heap.length+ ·)),a.s.nt⟩,y8v (a.s.heap.length+ ·) a.K 0 s.K⟩))
   |none=>w17 A p r β g args a
  else w17 A p r β g args a
def GamOk (P:Program) (Γ:List CF):Prop:=∀ cf∈Γ,CtrOk P cf.c (cf.F std)
mutual
theorem x1e (f:Nat→Nat) (hf:∀ j,f j=j):∀ x:AV,z8j f x=x
 | .bptr i off=>by simp [z8j,hf]
 | .ptr i j off=>by simp [z8j,hf]
 | .slice i z off len cap=>by simp [z8j,hf]
 | .map i=>by simp [z8j,hf]
 | .yld i=>by simp [z8j,hf]
 | .clo fn fs cs=>by simp [z8j,y3r f hf fs,y3r f hf cs]
 | .iface t v=>by simp [z8j,x1e f hf v]
 | .agg l=>by simp [z8j,y3r f hf l]
 | .tuple l=>by simp [z8j,y3r f hf l]
 | .bot=>rfl
 | .d x=>rfl
 | .lptr r off=>rfl
 | .wptr r off=>rfl
 | .perm r=>rfl
theorem y3r (f:Nat→Nat) (hf:∀ j,f j=j):∀ l:List AV,x6f f l=l
 |[]=>rfl
 |x::l=>by simp [x6f,x1e f hf x,y3r f hf l]
end
theorem v5k (f:Nat→Nat) (b:∀ j,f j=j) (o:AO):y87 f o=o:=by
 have c:∀ l:List AV,x6f f l=l:=y3r f b
 have e:∀ l:List (List AV),w3v f l=l:=fun l=>by
  rw [y2o]
  induction l with
  |nil=>rfl
  |cons x l a=>simp [c x,a]
 have d:∀ l:List (Nat×AV),v9c f l=l:=fun l=>by
  induction l with
  |nil=>rfl
  |cons x l a=>obtain ⟨k,x⟩:=x; simp [v9c,x1e f b x,a]
 cases o<;>simp [y87,c,e,d]
theorem w9b (h:List AO) (o:AO):z04 h h.length o=h++[o]:=x1g h o
theorem x2s (f:Nat→Nat) (a:∀ j,f j=j):∀ (hT h:List AO),z2e f h h.length hT=h++hT
 |[],h=>by simp [z2e]
 |o::l,h=>by
  simp only [z2e,a,v5k f a,w9b]
  have:=x2s f a l (h++[o])
  rw [eCz,List.length_singleton] at this
  rw [this]; simp
theorem w9q {P:Program} {c:Ctr} {args:List AV} {h:List AO} {cs:List Bool} {x:Tup c.scs} (e:v6m std c args h=some (cs,x)) (q:z1o cs=true) {r:AV} {b:List AO}
  (C:(x5q std c (y7x c.scs x)).2.length≤b.length) (E:z3s P c.g (x5q std c (y7x c.scs x)).1 (x5q std c (y7x c.scs x)).2 r b):z3s P c.g (lL std h args).2 [] r b∧(lL std h args).1=true:=by
 unfold v6m at e
 split at e
 ·rename_i i z f
  cases he:isE (x5q std c (y7x c.scs z)).2 with
  |false=>rw [he] at e; cases e
  |true=>
   rw [he] at e
   cases e
   simp only [z1o,eAf] at q
   have p:=x67 (P:=P) (s:=⟨[],[],0⟩) (n:=0) f q.2 (eAp _) C E
   refine ⟨?_,q.1⟩
   have hid:∀ j,z3h [] ([]:List AO).length j=j:=fun j=>by
    show (match z2d ([]:List (Option Nat)) j with|some (some a)=>a|_=>0+(j - 0))=j
    simp [z2d]
   constructor
   intro ρ A w i B o u
   obtain ⟨ρ',v,l,fr,J,I,H,G,y,K,F⟩:=p.run ρ A #[] w i ⟨B,fun t=> .bot _,rfl,o⟩ u
   have m:z2e (z3h [] ([]:List AO).length) [] 0 b=b:=by
    have:=x2s _ hid b []
    simpa using this
   refine ⟨ρ',v,l,fr,J,I,H,?_,?_,?_,?_⟩
   ·have k:z0q ρ' (z0f ρ' (z2e (z3h [] ([]:List AO).length) [] 0 b)) l (z8j (z3h [] ([]:List AO).length) r) v:=G
    rw [m,x1e _ hid] at k; exact k
   ·have d:z0b P ρ' (z2e (z3h [] ([]:List AO).length) [] 0 b) l:=y.heap
    rw [m] at d; exact d
   ·have d:Dom ρ' (z2e (z3h [] ([]:List AO).length) [] 0 b):=y.dom
    rw [m] at d; exact d
   ·have d:Ext (· <0) ρ [] w ρ' (z2e (z3h [] ([]:List AO).length) [] 0 b) l:=F
    rw [m] at d; exact d
 ·cases e
theorem v1l {P:Program} {β:Type} {g:FuncId} {args:List AV} {a:SS} {n:Nat} (l:n≤a.s.heap.length):∀ {Γ:List CF} (j:GamOk P Γ) {t:(AV→SS→Option β)→Option β} {k:AV→SS→Option β} {b:β},w17 opt std Γ β g args a=some t→t k=some b→
  ∃ r e,n≤e.s.heap.length∧z3g P g∧z5o P n g args a.s r e.s∧k r e=some b:=by
 intro Γ
 induction Γ with
 |nil=>intro j t k b h _; cases h
 |cons cf r z=>
  intro j t k b h d
  simp only [w17] at h
  cases p:eAk cf.c.g g with
  |false=>rw [p] at h; exact z (fun c i=>j c (by simp [i])) h d
  |true=>
   rw [p] at h; simp only [cond_true] at h
   have:=eAg p; subst this
   split at h
   ·rename_i σ cs x o
    cases h
    obtain ⟨i,d⟩:=z1s d
    obtain ⟨y,m,d⟩:=z6z d
    obtain ⟨w,v⟩:=j cf (by simp)
    obtain ⟨u,q⟩:=v x y m
    refine ⟨_,⟨⟨a.s.env,z2e (z3h σ a.s.heap.length) a.s.heap 0 (z2i std cf.c.outs y).2.s.heap,a.s.nt⟩,y8v (z3h σ a.s.heap.length) a.K 0 (z2i std cf.c.outs y).2.K⟩,?_,w,x67 o i l u q,d⟩
    exact eCt l (z8a _ _ _ _).1
   ·split at h
    ·rename_i cs x o
     cases h
     obtain ⟨i,d⟩:=z1s d
     obtain ⟨y,m,d⟩:=z6z d
     obtain ⟨w,v⟩:=j cf (by simp)
     obtain ⟨u,q⟩:=v x y m
     obtain ⟨f,d⟩:=z1s d
     simp only [z1o,eAf] at f
     obtain ⟨B,A⟩:=w9q o i u q
     refine ⟨_,⟨⟨a.s.env,a.s.heap++(z2i std cf.c.outs y).2.s.heap.map (y87 (a.s.heap.length+ ·)),a.s.nt⟩,y8v (a.s.heap.length+ ·) a.K 0 (z2i std cf.c.outs y).2.K⟩,?_,w,z5o.of_aret l (lend B A f.1 f.2),d⟩
     exact eCt l (by simp)
    ·exact z (fun c i=>j c (by simp [i])) h d
def w4h:w2n→Bool
 |[]=>true
 |(_,t)::l=>match t.heap with
  |[]=>w4h l
  |_=>false
def x6h (A:Alg) (p:Prim) (Γ:List CF) (β:Type) (g:FuncId) (args:List AV):Option ((AV→A.Ω β)→A.Ω β):=
 match Γ with
 |[]=>none
 |cf::r=>bif eAk cf.c.g g&&y13 args then match u2j p cf.c args [] with
  |some (_,cs,x)=>bif isE (x5q p cf.c (y7x cf.c.scs x)).2&&w4h cf.c.outs then some fun k=>needs A β cs (x5k A β p cf.c.outs (cf.F p x) fun _ s=>bif isE s.s.heap&&z9y (z0z s.s.env 0) then k (z0z s.s.env 0) else A.no β 95) else x6h A p r β g args
  |none=>x6h A p r β g args
  else x6h A p r β g args
theorem y01 {f:AV→AV} {l:List AV} (h:∀ (i:Nat) (x:AV),l[i]?=some x→f x=x):l.map f=l:=by
 apply eCj
 intro i
 rw [eAj]
 cases a:l[i]? with
 |none=>rfl
 |some y=>simp [h i y a]
theorem w9a {f:Nat→Nat} {x:AV} (h:x2p x):z8j f x=x:=by
 induction h with
 |bot=>rfl
 |d x=>rfl
 |tuple e g c=>simp only [z8j,z2l]; congr 1; exact y01 c
 |agg e g c=>simp only [z8j,z2l]; congr 1; exact y01 c
 |clo fn k cs j i b a=>simp only [z8j,z2l]; rw [y01 b,y01 a]
theorem w9c {P:Program} {β:Type} {g:FuncId} {args:List AV}:∀ {Γ:List CF} (l:GamOk P Γ) {t:(AV→Option β)→Option β} {k:AV→Option β} {b:β},x6h opt std Γ β g args=some t→t k=some b→
  ∃ r,z3g P g∧(∀ h,z3s P g args h r h)∧k r=some b:=by
 intro Γ
 induction Γ with
 |nil=>intro l t k b h _; cases h
 |cons cf r q=>
  intro l t k b h a
  simp only [x6h] at h
  cases o:eAk cf.c.g g&&y13 args with
  |false=>rw [o] at h; exact q (fun c f=>l c (by simp [f])) h a
  |true=>
   rw [o] at h; simp only [cond_true] at h
   simp only [eAf] at o
   have:=eAg o.1; subst this
   split at h
   ·rename_i σ cs x E
    cases he:isE (x5q std cf.c (y7x cf.c.scs x)).2&&w4h cf.c.outs with
    |false=>rw [he] at h; exact q (fun c f=>l c (by simp [f])) h a
    |true=>
    rw [he] at h
    have he:=(eAf _ _▸he:_∧_).1
    cases h
    obtain ⟨f,a⟩:=z1s a
    obtain ⟨y,B,a⟩:=z6z a
    obtain ⟨I,H⟩:=l cf (by simp)
    obtain ⟨G,F⟩:=H x y B
    cases j:isE (z2i std cf.c.outs y).2.s.heap&&z9y (z0z (z2i std cf.c.outs y).2.s.env 0) with
    |false=>rw [j] at a; cases a
    |true=>
     rw [j] at a
     simp only [eAf] at j
     refine ⟨_,I,fun h=>?_,a⟩
     have u:=x67 (P:=P) (s:=⟨[],[],0⟩) (n:=0) E f (eAp _) G F
     have C:v2m P cf.c.g args (z0z (z2i std cf.c.outs y).2.s.env 0):=⟨fun ρ A w cs S R Q=>by
      obtain ⟨ρ',v,m,fr,O,N,M,L,z,T,K⟩:=u.run ρ A #[] w cs ⟨S,fun t=> .bot _,rfl,R⟩ Q
      have J:=w91 j.1
      have p:z2e (z3h σ ([]:List AO).length) [] 0 (z2i std cf.c.outs y).2.s.heap=[]:=by rw [J]; rfl
      have e:=y5e _ j.2
      refine ⟨ρ',v,m,fr,O,N,M,?_,?_,?_,?_⟩
      ·have i:z0q ρ' (z0f ρ' (z2e (z3h σ ([]:List AO).length) [] 0 (z2i std cf.c.outs y).2.s.heap)) m (z8j (z3h σ ([]:List AO).length) (z0z (z2i std cf.c.outs y).2.s.env 0)) v:=L
       rw [p] at i
       have:z8j (z3h σ ([]:List AO).length) (z0z (z2i std cf.c.outs y).2.s.env 0)=z0z (z2i std cf.c.outs y).2.s.env 0:=w9a e
       rw [this] at i; exact i
      ·have:=z.heap
       show z0b P ρ' [] m
       have d:z0b P ρ' (z2e (z3h σ ([]:List AO).length) [] 0 (z2i std cf.c.outs y).2.s.heap) m:=this
       rw [p] at d; exact d
      ·have d:Dom ρ' (z2e (z3h σ ([]:List AO).length) [] 0 (z2i std cf.c.outs y).2.s.heap):=z.dom
       rw [p] at d; exact d
      ·have d:Ext (· <0) ρ [] w ρ' (z2e (z3h σ ([]:List AO).length) [] 0 (z2i std cf.c.outs y).2.s.heap) m:=K
       rw [p] at d; exact d⟩
     exact C.at (z6s _ o.2) (y5e _ j.2) h
   ·exact q (fun c f=>l c (by simp [f])) h a
structure LA where
 g:Nat
 pos:List Bool
 n:Nat
 ann:x2o
structure JA where
 g:Nat
 pos:List Bool
 n:Nat
 outs:w2n
structure VA where
 g:Nat
 pos:List Bool
 st:ST
def u2k:List JA→Nat→List Bool→Nat→Option w2n
 |[],_,_,_=>none
 |a::l,g,pos,n=>bif eAk a.g g&&eAk a.n n&&y8i a.pos pos then some a.outs else u2k l g pos n
def v3g:List VA→Nat→List Bool→Option ST
 |[],_,_=>none
 |a::l,g,pos=>bif eAk a.g g&&y8i a.pos pos then some a.st else v3g l g pos
def x88 (id:Nat):List AO→Bool
 |[]=>false
 | .arow es::l=>(es.any fun r=>r.any fun x=>match x with| .slice a _ _ _ _=>eAk a id|_=>false)||x88 id l
 |_::l=>x88 id l
def u3h (n:Nat) (s:AS):AS:=
 ⟨y72 s.heap (fun id=>eBt id n||!x88 id s.heap) s.env,z4f s.heap (fun id=>eBt id n||!x88 id s.heap) 0 s.heap,s.nt⟩
theorem v0x (n:Nat) (s:AS):z6n n s (u3h n s):=
 z6n.view _ (fun id h=>by rw [eBh]; exact .inl (by simpa using h)) ⟨fun _=>rfl,fun id _ h=>by rw [z55]; exact h⟩
structure Anns where
 Γ:List CF
 J:List JA
 V:List VA
def u7q (A:Alg) (p:Prim) (a:Anns):Orc A where
 call:=fun β _ _ _ _ g args ss=>w17 A p a.Γ β g args ss
 pure:=fun β _ _ _ g args _=>x6h A p a.Γ β g args
 loop:=fun _ _ _ _ _=>none
 join:=fun β n g pos body k=>match u2k a.J g pos n with
  |some os=>v6y A p n os β body k
  |none=>body β k
 view:=fun β n g pos ss k=>match v3g a.V g pos with
  |some st=>match w79 p n st ss.s with
   |some (cs,x)=>needs A β cs (k (y43 p st x))
   |none=>match w79 p n st (u3h n ss.s) with
    |some (cs,x)=>needs A β cs (k (y43 p st x))
    |none=>A.no β 96
  |none=>k ss
theorem x6n {P:Program} {a:Anns} (hG:GamOk P a.Γ):y4b P (u7q opt std a) where
 call:=fun β g0 pos ix n g args ss t k b h ht hn=>v1l hn hG h ht
 pure:=fun β g0 pos ix g args ss t k b h ht=>by
  obtain ⟨r,h1,h2,h3⟩:=w9c hG h ht
  exact ⟨r,h1,fun h _=>h2 h,h3⟩
 loop:=fun _ _ _ _ _ _ _ _ _ _ _ h=>by cases h
 join:=fun β n g pos body k b G hb h=>by
  simp only [u7q] at h
  split at h
  ·exact w9x hb h
  ·obtain ⟨e,ss',hg,hk⟩:=hb β k b h
   exact ⟨e,ss',ss',hg,z6n.refl _ _,fun h=>h,hk⟩
 view:=fun β n g pos ss k b hn h=>by
  simp only [u7q] at h
  split at h
  ·split at h
   ·rename_i cs x hx
    obtain ⟨hc,h⟩:=z1s h
    obtain ⟨v1,v2⟩:=y30 hx hc
    exact ⟨_,v1,v2,h⟩
   ·split at h
    ·rename_i cs x hx
     obtain ⟨hc,h⟩:=z1s h
     obtain ⟨v1,v2⟩:=y30 hx hc
     exact ⟨_,(v0x n ss.s).trans v1,v2,h⟩
    ·cases h
  ·exact ⟨ss,z6n.refl _ _,hn,h⟩
noncomputable def mkOrc (A : Alg) (p : Prim) (E : Env) (f : Nat) (a : Anns) : List LA → Orc A
  | [] => u7q A p a
  | l :: d => { mkOrc A p E f a d with
      loop := fun β n g pos b => bif eAk l.g g && (eAk l.n n && (y8i l.pos pos && (w79 p n l.ann.head b.s).isSome)) then match E.A g pos with
        | some (.loop c) => some (v6h A p (sym A p E (mkOrc A p E f a d) f) n g pos c l.ann β b)
        | _ => none
        else (mkOrc A p E f a d).loop β n g pos b }
theorem mkOrc_ok {P : Program} {E : Env} (hE : EnvOk P E) {f : Nat} {a : Anns} (q : GamOk P a.Γ) : ∀ i, y4b P (mkOrc opt std E f a i)
  | [] => x6n q
  | l :: i => by
    have e := mkOrc_ok hE (f := f) q i
    exact { call := e.call, pure := e.pure, join := e.join, view := e.view
            loop := fun β n g pos c r t k b d o h m => by
              simp only [mkOrc] at h
              cases p : eAk l.g g && (eAk l.n n && (y8i l.pos pos && (w79 std n l.ann.head r.s).isSome)) with
              | false => rw [p] at h; exact e.loop _ _ _ _ _ _ _ _ _ d o h m
              | true =>
                rw [p] at h
                simp only [cond_true] at h
                split at h
                · rename_i u j
                  cases h
                  have := hE.code _ _ _ j
                  rw [d] at this; cases this
                  exact w9o (x73 hE e f) d o m
                · cases h }
theorem enters_auto {P:Program} {g:FuncId} {b:Option v2q} (h:infoOf P g=b) (a:b.isSome=true):z3g P g:=by
 cases b with
 |none=>cases a
 |some i=>obtain ⟨_,_,_,_,_,e⟩:=y2x h; exact e
end Go.Am
end
section
namespace Go.Am
open Go.ChangeShapes Go.WideShapes
inductive RK where
 |int (k:IntKind)|bool|str
 |list (ks:List RK)
 deriving Inhabited
def u7m (P:Program) (r:TypeId→Option (List RK)):Nat→List Field→Option (List RK)
 |_,[]=>some []
 |off,f::fs=>match r f.type with
  |some ks=>bif eAk f.offset off&&eAk (P.cellsOf f.type) ks.length then match u7m P r (off+ks.length) fs with
    |some l=>some (ks++l)
    |none=>none
   else none
  |none=>none
def t0b {α:Type}:Nat→List α→List α
 |0,_=>[]
 |m+1,ks=>ks++t0b m ks
def shp (P:Program):Nat→TypeId→Option (List RK)
 |0,_=>none
 |n+1,t=>match P.underlying t with
  |some .bool=>some [.bool]
  |some (.int k)=>some [.int k]
  |some .string=>some [.str]
  |some (.slice e)=>match shp P n e with
   |some ks=>bif eAk (P.cellsOf e) ks.length&&eBt 0 ks.length then some [.list ks] else none
   |none=>none
  |some (.struct fs)=>match u7m P (shp P n) 0 fs.toList with
   |some ks=>bif eAk (P.cellsOf t) ks.length then some ks else none
   |none=>none
  |some (.array m e)=>match shp P n e with
   |some ks=>bif eAk (P.cellsOf e) ks.length&&eAk (P.cellsOf t) (m*ks.length) then some (t0b m ks) else none
   |none=>none
  |_=>none
mutual
def DK:RK→D→Prop
 | .int k, .int k' n=>k'=k∧(Lit.int k n).wf=true
 | .bool, .bool _=>True
 | .str, .str s=>s.size≤maxLen
 | .list ks, .list f z es=>f=false∧z=ks.length∧es.length≤maxLen∧y7u ks es
 |_,_=>False
def DKs:List RK→List D→Prop
 |[],[]=>True
 |k::ks,d::ds=>DK k d∧DKs ks ds
 |_,_=>False
def y7u:List RK→List (List D)→Prop
 |_,[]=>True
 |ks,r::es=>DKs ks r∧y7u ks es
end
theorem DKs.length:∀ {ks:List RK} {ds:List D},DKs ks ds→ds.length=ks.length
 |[],[],_=>rfl
 |[],_::_,h=>by simp [DKs] at h
 |_::_,[],h=>by simp [DKs] at h
 |k::ks,d::ds,h=>by simp only [DKs] at h; simp [DKs.length h.2]
theorem DKs.append:∀ {ks a:List RK} {ds b:List D},DKs ks ds→DKs a b→DKs (ks++a) (ds++b)
 |[],_,[],_,_,h'=>h'
 |[],_,_::_,_,h,_=>by simp [DKs] at h
 |_::_,_,[],_,h,_=>by simp [DKs] at h
 |k::ks,_,d::ds,_,h,h'=>by
  simp only [DKs] at h
  exact ⟨h.1,DKs.append h.2 h'⟩
theorem y1a {ks:List RK}:∀ {es:List (List D)},y7u ks es↔∀ r∈es,DKs ks r
 |[]=>by simp [y7u]
 |r::es=>by simp [y7u,y1a (es:=es)]
section
variable {P:Program} {H:Type} {enc:TypeId×Value→H} {w:World} {O:Nat→Prop}
def w8g (O:Nat→Prop) (w:World) (ds:List D) (cs:List Value):Prop:=cs.length=ds.length∧∀ (j:Nat) (x:D),ds[j]?=some x→∃ v,cs[j]?=some v∧v.oneCell'=true∧z1m O w x v
theorem w8g.one {x:D} {v:Value} (b:v.oneCell'=true) (h:z1m O w x v):w8g O w [x] [v]:=⟨rfl,fun j y a=>by
 match j,a with
 |0,a=>cases a; exact ⟨v,rfl,b,h⟩
 |j+1,a=>simp at a⟩
theorem w8g.append {ds a:List D} {cs b:List Value} (h:w8g O w ds cs) (h':w8g O w a b):w8g O w (ds++a) (cs++b):=by
 refine ⟨by simp [h.1,h'.1],fun j x c=>?_⟩
 rw [eBr] at c⊢
 rw [h.1]
 split at c
 ·rename_i d; rw [if_pos d]; exact h.2 j x c
 ·rename_i d; rw [if_neg d]; exact h'.2 _ x c
theorem x40 {α:Type} (cs:List α) (a b:Nat) (h:a+b≤cs.length):cs.drop a=(cs.drop a).take b++cs.drop (a+b):=by
 rw [←eGf]
 exact (List.take_append_drop b (cs.drop a)).symm
def x2m (P:Program) (enc:TypeId×Value→H) (w:World) (O:Nat→Prop) (sp:Nat→Bool) (b:Bool) (n:Nat):Prop:=
 ∀ (a:Nat) (t:TypeId) (cs:List Value) (ks:List RK) (x:DataW H×List MemPlace),shp P n t=some ks→DataW.trod enc P w 0 sp b a t cs=some x→∃ ds,DKs ks ds∧w8g O w ds cs
theorem x4o {sp:Nat→Bool} {m:Bool} {n:Nat} (g:x2m P enc w O sp m n) {fuel:Nat} {cs:List Value}:∀ (fs:List Field) (off:Nat) (ks:List RK),u7m P (shp P n) off fs=some ks→off+ks.length=cs.length→
  (∀ f∈fs,∃ x,DataW.trod enc P w 0 sp m fuel f.type ((cs.drop f.offset).take (P.cellsOf f.type))=some x)→∃ ds,DKs ks ds∧w8g O w ds (cs.drop off)
 |[],off,ks,h,c,_=>by
  cases h
  simp only [eDw,eBk] at c
  subst c
  exact ⟨[],trivial,by rw [List.drop_length]; exact ⟨rfl,fun j x o=>by simp at o⟩⟩
 |f::fs,off,ks,h,c,k=>by
  simp only [u7m] at h
  split at h
  ·rename_i a r
   cases b:eAk f.offset off&&eAk (P.cellsOf f.type) a.length with
   |false=>rw [b] at h; cases h
   |true=>
    rw [b] at h; simp only [cond_true] at h
    have b:=(Iff.of_eq (eAf _ _)).1 b|>.imp eAg eAg
    split at h
    ·rename_i l q
     cases h
     rw [eCz] at c
     obtain ⟨x,i⟩:=k f (by simp)
     rw [b.1,b.2] at i
     obtain ⟨e,v,u⟩:=g _ _ _ _ _ r i
     obtain ⟨d,t,s⟩:=x4o g fs (off+a.length) l q (by omega) (fun f p=>k f (by simp [p]))
     refine ⟨e++d,v.append t,?_⟩
     rw [x40 cs off a.length (by omega)]
     exact u.append s
    ·cases h
  ·cases h
theorem w3r {sp:Nat→Bool} {k:Bool} {n:Nat} (d:x2m P enc w O sp k n) {fuel:Nat} {cs:List Value} {e:TypeId} {ks:List RK} (h:shp P n e=some ks) (l:P.cellsOf e=ks.length):∀ (m off:Nat),off*ks.length+m*ks.length=cs.length→
  (∀ i,off≤i→i<off+m→∃ x,DataW.trod enc P w 0 sp k fuel e ((cs.drop (i*P.cellsOf e)).take (P.cellsOf e))=some x)→∃ ds,DKs (t0b m ks) ds∧w8g O w ds (cs.drop (off*ks.length))
 |0,off,a,_=>by
  simp only [Nat.zero_mul,eBk] at a
  exact ⟨[],trivial,by rw [a,List.drop_length]; exact ⟨rfl,fun j x p=>by simp at p⟩⟩
 |m+1,off,a,g=>by
  rw [eBe,Nat.one_mul] at a
  obtain ⟨x,f⟩:=g off (eAp _) (by omega)
  rw [l] at f
  obtain ⟨c,t,s⟩:=d _ _ _ _ _ h f
  have o:(off+1)*ks.length=off*ks.length+ks.length:=by rw [eBe,Nat.one_mul]
  obtain ⟨b,r,q⟩:=w3r d h l m (off+1) (by rw [o]; omega) (fun i v u=>g i (by omega) (by omega))
  refine ⟨c++b,t.append r,?_⟩
  rw [x40 cs (off*ks.length) ks.length (by omega), ←o]
  exact s.append q
theorem y7f {p:Nat→List D→Prop}:∀ n,(∀ i,i<n→∃ r,p i r)→∃ es:List (List D),es.length=n∧∀ i r,es[i]?=some r→p i r
 |0,_=>⟨[],rfl,fun i r h=>by simp at h⟩
 |n+1,h=>by
  obtain ⟨es,a,b⟩:=y7f n fun i f=>h i (Nat.lt_succ_of_lt f)
  obtain ⟨r,d⟩:=h n (Nat.lt_succ_self n)
  refine ⟨es++[r],by simp [a],fun i q c=>?_⟩
  rw [eBr] at c
  split at c
  ·exact b i q c
  ·rename_i g
   have:i=n:=by
    cases e:i - es.length with
    |zero=>omega
    |succ m=>rw [e] at c; simp at c
   subst this
   rw [a,Nat.sub_self] at c
   cases c; exact d
theorem x49 {base:Nat} {a:Addr} {n:Nat} {cs:List Value} (h:w.cells? base a n=some cs):cs.length=n∧∀ j,j<n→w.cell? (a.add j)=cs[j]?:=by
 unfold World.cells? at h
 split at h
 ·have key:∀ (m:Nat) (l:List Nat) (cs:List Value),l.mapM (fun i=>w.cell? (a.add i))=some cs→cs.length=l.length∧∀ (j i:Nat),l[j]?=some i→w.cell? (a.add i)=cs[j]?:=by
   intro m l
   induction l with
   |nil=>intro cs h; simp at h; subst h; simp
   |cons i l f=>
    intro cs h
    simp only [List.mapM_cons,Option.bind_eq_bind,Option.bind_eq_some_iff,Option.pure_def,Option.some.injEq] at h
    obtain ⟨v,k,o,c,rfl⟩:=h
    obtain ⟨e,d⟩:=f _ c
    refine ⟨by simp [e],fun j g b=>?_⟩
    match j,b with
    |0,b=>simp at b; subst b; simpa using k
    |j+1,b=>simpa using d j g (by simpa using b)
  obtain ⟨e,d⟩:=key n _ _ h
  refine ⟨by simpa using e,fun j b=>d j j (by simp [b])⟩
 ·cases h
theorem w6j {a:Addr} {v:Value} (h:w.cell? a=some v):a.spot=none:=by
 unfold eFc at h
 split at h
 ·split at h
  ·cases h
  ·rename_i b; simpa using b
 ·cases h
theorem x5l (b o k:Nat):(Addr.add ⟨b,o,none⟩ k)=⟨b,o+k,none⟩:=by
 unfold Addr.add
 split
 ·rename_i h; subst h; rfl
 ·rfl
theorem x1f {sp:Nat→Bool} {hd:Bool} (hO:∀ b,¬ O b):∀ n,x2m P enc w O sp hd n
 |0=>fun fuel t cs ks x h _=>by cases h
 |n+1=>fun fuel t cs ks x h A=>by
  have ih:x2m P enc w O sp hd n:=x1f hO n
  cases fuel with
  |zero=>simp [DataW.trod] at A
  |succ m=>
  simp only [shp] at h
  split at h
  ·
   rename_i q
   cases h
   obtain ⟨b,rfl,_⟩:=DataW.trod_bool q A
   exact ⟨[.bool b],⟨trivial,trivial⟩, .one rfl (.bool _)⟩
  ·rename_i k q
   cases h
   obtain ⟨i,rfl,_,hw⟩:=DataW.trod_int q A
   exact ⟨[.int k i],⟨⟨rfl,hw⟩,trivial⟩, .one rfl (.int _ _)⟩
  ·rename_i q
   cases h
   obtain ⟨s,rfl,a4⟩:∃ s,cs=[.string s]∧s.size≤maxLen:=by
    unfold DataW.trod at A
    rw [q] at A
    split at A<;>simp_all
   exact ⟨[.str s],⟨a4,trivial⟩, .one rfl (.str _)⟩
  ·
   rename_i e q
   split at h
   ·rename_i c T
    cases g:eAk (P.cellsOf e) c.length&&eBt 0 c.length with
    |false=>rw [g] at h; cases h
    |true=>
    rw [g] at h; simp only [cond_true] at h; cases h
    have g:=(Iff.of_eq (eAf _ _)).1 g|>.imp eAg id
    have V:0<c.length:=Nat.lt_of_succ_le (eAl g.2)
    rcases DataW.trod_slice q A with ⟨rfl,_⟩|⟨a,len,cap,J,rest,U,_,rfl,_,_,a9,b1,b0,C,_⟩
    ·exact ⟨[.list false c.length []],by simp [DKs,DK,y7u], .one rfl (.lnil false _ _ _ (by simp))⟩
    ·rw [g.1] at C
     have N:∀ i,i<len→∃ r,DKs c r∧∃ cs,w.cells? 0 (a.add (i*c.length)) c.length=some cs∧w8g O w r cs:=by
      intro i l
      have X:=C i l
      have B:i<J.length:=by omega
      rw [eAd B] at X
      obtain ⟨cs,z,a0⟩:=Option.bind_eq_some_iff.1 X
      obtain ⟨r,q1,q2⟩:=ih _ _ _ _ _ T a0
      exact ⟨r,q1,cs,z,q2⟩
     obtain ⟨es,I,W⟩:=y7f len N
     have G:y7u c es:=y1a.2 fun r K=>by
      obtain ⟨i,l⟩:=eFo K
      exact (W i r l).1
     refine ⟨[.list false c.length es],⟨⟨rfl,rfl,by omega,G⟩,trivial⟩, .one rfl ?_⟩
     by_cases S:len=0
     ·have:es=[]:=eBw.1 (by omega)
      subst this; subst S
      exact .lnil false _ _ _ (by simp)
     ·
      have a5:es≠[]:=fun h=>S (by rw [h] at I; exact I.symm)
      have u:a.spot=none:=by
       obtain ⟨r,K⟩:∃ r,es[0]?=some r:=⟨es[0]'(by omega),eAd (by omega)⟩
       obtain ⟨_,cs,z,R⟩:=W 0 r K
       obtain ⟨e1,e2⟩:=x49 z
       have e3:=e2 0 V
       rw [eAd (by omega)] at e3
       have:(a.add (0*c.length)).add 0=a:=by simp [Addr.add]
       rw [this] at e3
       exact w6j e3
      obtain ⟨b,o,s⟩:=a
      simp only at u; subst u
      have p:∀ (i:Nat) (r:List D) (j:Nat) (x:D),es[i]?=some r→r[j]?=some x→∃ v,w.cell? ⟨b,o+(i*c.length+j),none⟩=some v∧v.oneCell'=true∧z1m O w x v:=by
       intro i r j x l L
       obtain ⟨q0,cs,z,R⟩:=W i r l
       obtain ⟨e1,e2⟩:=x49 z
       obtain ⟨v,hv,X,h2⟩:=R.2 j x L
       have a7:j<c.length:=by rw [←q0.length]; exact (eAe.1 L).1
       have:=e2 j a7
       rw [x5l,x5l,hv,eCf] at this
       exact ⟨v,this,X,h2⟩
      have y:∀ (i:Nat) (r:List D),es[i]?=some r→r.length=c.length:=fun i r l=>(W i r l).1.length
      let cell:Nat→Value:=fun k=>(w.cell? ⟨b,o+k,none⟩).getD undef
      have E:∀ k,k<es.length*c.length→∃ v,w.cell? ⟨b,o+k,none⟩=some v∧v.oneCell'=true:=by
       intro k Q
       have l:k / c.length<es.length:=(eFw V).2 Q
       have L:k % c.length<c.length:=eGh _ V
       have K:=eAd l
       have a6:k % c.length<(es[k / c.length]).length:=by rw [y _ _ K]; exact L
       obtain ⟨v,F,Y,_⟩:=p _ _ _ _ K (eAd a6)
       have:k / c.length*c.length+k % c.length=k:=by rw [eFm]; exact Nat.div_add_mod _ _
       rw [this] at F
       exact ⟨v,F,Y⟩
      have key:=z1m.list (O:=O) (w:=w) false es b o c.length cap V a5 (hO b) (by omega) (by simp) y cell (fun k Q=>?_) (fun k Q=>?_) (fun i r j d l L=>?_)
      ·rw [I] at key; exact key
      ·obtain ⟨v,F,Y⟩:=E k Q
       show ((w.cell? ⟨b,o+k,none⟩).getD undef).oneCell'=true
       rw [F]; exact Y
      ·obtain ⟨v,F,Y⟩:=E k Q
       show w.cell? ⟨b,o+k,none⟩=some ((w.cell? ⟨b,o+k,none⟩).getD undef)
       rw [F]; rfl
      ·obtain ⟨v,F,_,a3⟩:=p i r j d l L
       show z1m O w d ((w.cell? ⟨b,o+(i*c.length+j),none⟩).getD undef)
       rw [F]; exact a3
   ·cases h
  ·
   rename_i fs q
   split at h
   ·rename_i c T
    cases g:eAk (P.cellsOf t) c.length with
    |false=>rw [g] at h; cases h
    |true=>
    rw [g] at h; simp only [cond_true] at h; cases h
    have g:=eAg g
    obtain ⟨Z,U,_,_,hl,M,hf⟩:=DataW.trod_struct q A
    have:=x4o (P:=P) (enc:=enc) (w:=w) (O:=O) (cs:=cs) ih (fuel:=U) fs.toList 0 ks T (by omega) (fun f a8=>by
     obtain ⟨i,l⟩:=eFo a8
     have B:fs[i]?=some f:=by simpa using l
     have:=hf i f B
     have H:i<Z.length:=by rw [M]; exact (eAi.1 B).1
     rw [eAd H] at this
     exact ⟨_,this⟩)
    simpa using this
   ·cases h
  ·
   rename_i m e q
   split at h
   ·rename_i c T
    cases g:eAk (P.cellsOf e) c.length&&eAk (P.cellsOf t) (m*c.length) with
    |false=>rw [g] at h; cases h
    |true=>
    rw [g] at h; simp only [cond_true] at h; cases h
    have g:=(Iff.of_eq (eAf _ _)).1 g|>.imp eAg eAg
    obtain ⟨Z,U,_,_,hl,M,hf⟩:=DataW.trod_array q A
    have:=w3r (P:=P) (enc:=enc) (w:=w) (O:=O) (cs:=cs) ih (fuel:=U) T g.1 m 0 (by omega) (fun i _ l=>by
     have:=hf i (by omega)
     have H:i<Z.length:=by omega
     rw [eAd H] at this
     exact ⟨_,this⟩)
    simpa using this
   ·cases h
  ·cases h
end
def y5c (P:Program) (t:TypeId):Bool:=match P.underlying t with
 |some (.struct _)=>true
 |some (.array _ _)=>true
 |_=>false
def t4z (P:Program) (n:Nat) (t:TypeId) (x:D):Prop:=
 match y5c P t,shp P n t with
 |true,some ks=>∃ ds,x= .agg ds∧DKs ks ds
 |false,some [k]=>DK k x
 |_,_=>False
def u7f (P:Program) (n:Nat):List TypeId→List D→Prop
 |[],[]=>True
 |t::ts,x::xs=>t4z P n t x∧u7f P n ts xs
 |_,_=>False
def v5h (P:Program) (n:Nat) (ts:List TypeId):Bool:=ts.all fun t=>match y5c P t,shp P n t with
 |true,some _=>true
 |false,some [_]=>true
 |_,_=>false
section
variable {P:Program} {H:Type} {enc:TypeId×Value→H} {w:World} {O:Nat→Prop}
theorem u5t (hO:∀ b,¬ O b) {n:Nat} {t:TypeId} {v:Value} {r:Reach} {base:Nat} {d:DataW H} {q:List MemPlace} (m:v5h P n [t]=true) (c:Value.okWide P w r base t v) (l:DataW.Trod enc P w 0 (fun _=>true) true t v d q):∃ x,t4z P n t x∧z1m O w x v:=by
 obtain ⟨p,l⟩:=l
 simp only [v5h,List.all_cons,List.all_nil,eDm] at m
 unfold t4z
 split at m
 ·rename_i ks h g
  obtain ⟨ds,a,b⟩:=x1f hO n _ _ _ _ _ g l
  unfold y5c at h
  split at h
  ·rename_i C j
   unfold Value.okWide at c
   rw [j] at c
   obtain ⟨cs,rfl,B,_⟩:=c
   refine ⟨_,⟨ds,rfl,a⟩, .agg ds cs (by simpa [eGi] using b.1) fun i y o=>?_⟩
   obtain ⟨u,f,_,e⟩:=b.2 i y o
   have:cs[i]?=some u:=by simpa [eGi] using f
   rw [eAq,this]; exact e
  ·rename_i j
   unfold Value.okWide at c
   rw [j] at c
   obtain ⟨cs,rfl,B,_⟩:=c
   refine ⟨_,⟨ds,rfl,a⟩, .agg ds cs (by simpa [eGi] using b.1) fun i y o=>?_⟩
   obtain ⟨u,f,_,e⟩:=b.2 i y o
   have:cs[i]?=some u:=by simpa [eGi] using f
   rw [eAq,this]; exact e
  ·cases h
 ·rename_i k h g
  obtain ⟨ds,a,b⟩:=x1f hO n _ _ _ _ _ g l
  have A:=a.length
  match ds,A with
  |[x],_=>
   refine ⟨x,a.1,?_⟩
   obtain ⟨u,f,z,e⟩:=b.2 0 x rfl
   have s:v=u:=by
    cases v with
    |agg cs=>
     exfalso
     unfold Value.okWide at c
     unfold y5c at h
     cases n with
     |zero=>cases g
     |succ n=>
      simp only [shp] at g
      split at g
      all_goals (rename_i j; first|(rw [j] at c h; simp [Cell.okWide,Cell.ok,j] at c h)|cases g)
    |_=>simpa [eGi] using f
   rw [s]; exact e
 ·cases m
theorem w7d (hO:∀ b,¬ O b) {n:Nat} {r:Reach} {base:Nat}:∀ {ts:List TypeId} {vs:List Value} {ds:List (DataW H)} {k:List MemPlace},v5h P n ts=true→(∀ (j:Nat) t v,ts[j]?=some t→vs[j]?=some v→Value.okWide P w r base t v)→
  eCx enc P w 0 (fun _=>true) true ts vs ds k→∃ xs,u7f P n ts xs∧vs.length=xs.length∧∀ (i:Nat) (x:D),xs[i]?=some x→∃ v,vs[i]?=some v∧z1m O w x v
 |[],[],[],_,_,_,_=>⟨[],trivial,rfl,fun i x h=>by simp at h⟩
 |[],[],_::_,_,_,_,h=>by simp [eCx] at h
 |[],_::_,_,_,_,_,h=>by simp [eCx] at h
 |_::_,[],_,_,_,_,h=>by simp [eCx] at h
 |_::_,_::_,[],_,_,_,h=>by simp [eCx] at h
 |t::ts,v::vs,d::ds,k,l,c,h=>by
  obtain ⟨p,q,g,f,_⟩:=h
  have a:v5h P n [t]=true∧v5h P n ts=true:=by
   simp only [v5h,List.all_cons,List.all_nil,eDm,eAf] at l⊢
   exact l
  obtain ⟨x,z,u⟩:=u5t hO a.1 (c 0 t v rfl rfl) g
  obtain ⟨xs,s,o,m⟩:=w7d hO a.2 (fun j t v g f=>c (j+1) t v (by simpa using g) (by simpa using f)) f
  refine ⟨x::xs,⟨z,s⟩,by simp [o],fun i y e=>?_⟩
  match i,e with
  |0,e=>cases e; exact ⟨v,rfl,u⟩
  |i+1,e=>simpa using m i y (by simpa using e)
structure y7t (w w':World):Prop where
 os:w'.os=w.os
 tape:w'.tape=w.tape
 output:w'.output=w.output
 size:w.heap.size≤w'.heap.size
 block:∀ b,b<w.heap.size→w'.heap[b]?=w.heap[b]?
theorem v48 (l:List D):(toA l).length=l.length:=by
 induction l with
 |nil=>rfl
 |cons x l a=>simp [toA,a]
theorem x19 {g:FuncId} {args:Array Value} {xs:List D} {b:Bool} {h':List AO} (A:z3s P g (toA xs) [] (.d (.bool b)) h') (t:args.toList.length=xs.length)
  (r:∀ (i:Nat) (x:D),xs[i]?=some x→∃ v,args.toList[i]?=some v∧z1m (fun _=>False) w x v) (hg:GL P (fun _=>False) w):Calls P g args w fun e w'=>e= .returned (.bool b)∧y7t w w':=by
 intro cs
 let k:Rho:=⟨fun _=>none,fun _=>False⟩
 have a:z0f k []=fun _=>False:=by
  funext c
  apply propext
  refine ⟨fun h=>?_,False.elim⟩
  rcases h with h|⟨id,L,f,_⟩
  ·exact h
  ·cases f
 have l:z0b P k [] w:=⟨fun id L f=>(by cases f),fun id q L E f=>(by cases f),fun b z=>z.elim,fun id L f=>(by cases f),a▸hg⟩
 obtain ⟨ρ',v,w',fr,s1,p,o,n,C,B,j⟩:=A.run k args w cs l (fun id hid=>absurd rfl hid) ⟨by rw [v48, ←t]; simp,fun i x m=>by
  rw [z1p] at m
  obtain ⟨d,u,rfl⟩:=eBy.1 m
  obtain ⟨v,s,l⟩:=r i d u
  rw [a,eAq]
  have:args[i]?=some v:=by simpa using s
  rw [this]; exact .d l⟩
 refine ⟨.returned v,w',fr,⟨?_,j.os,j.tape,j.output,j.keep.size,fun c y=>j.keep.frame c y ?_⟩,s1,p,o⟩
 ·cases n with
  |d h=>cases h; rfl
 ·rw [a]; exact id
theorem y7t.at {w':World} (h:y7t w w') {p:MemPlace} (a:p.block<w.heap.size):w.sameAt w' p:=by
 cases p with
 |cell b off=>
  show w'.cell? _=w.cell? _
  exact z2o (h.block b a)
 |map b=>exact h.block b a
theorem y3c {w w':World} {sp:Nat→Bool} {e:Bool}:∀ {ts:List TypeId} {vs:List Value} {ds:List (DataW H)} {a:List MemPlace},eCx enc P w 0 sp e ts vs ds a→(∀ p∈a,w.sameAt w' p)→eCx enc P w' 0 sp e ts vs ds a
 |[],[],[],_,h,_=>h
 |[],[],_::_,_,h,_=>by simp [eCx] at h
 |[],_::_,_,_,h,_=>by simp [eCx] at h
 |_::_,[],_,_,h,_=>by simp [eCx] at h
 |_::_,_::_,[],_,h,_=>by simp [eCx] at h
 |t::ts,v::vs,d::ds,a,h,c=>by
  obtain ⟨p,q,⟨n,g⟩,f,rfl⟩:=h
  exact ⟨p,q,⟨n,DataW.trod_carry n _ _ _ g fun x b=>c x (by simp [b])⟩,y3c f fun x b=>c x (by simp [b]),rfl⟩
theorem w1o {w':World} {d:MemPlace→Prop} (h:y7t w w'):w.keptBut w' d:=by
 refine ⟨h.os,h.output,fun i f=>?_⟩
 rw [h.block i f]
 split
 ·rename_i c t fr l k g e a
  rw [e] at a; cases a
  exact ⟨rfl,rfl,rfl,fun _ _=>rfl⟩
 ·rename_i es clock j b e a
  rw [e] at a; cases a
  exact .inr ⟨rfl,rfl⟩
 ·rfl
theorem y5u {sp:Nat→Bool} {b:Bool}:∀ {ts:List TypeId} {vs:List Value} {ds:List (DataW H)} {a:List MemPlace},eCx enc P w 0 sp b ts vs ds a→ds.length=ts.length
 |[],[],[],_,_=>rfl
 |[],[],_::_,_,h=>by simp [eCx] at h
 |[],_::_,_,_,h=>by simp [eCx] at h
 |_::_,[],_,_,h=>by simp [eCx] at h
 |_::_,_::_,[],_,h=>by simp [eCx] at h
 |t::ts,v::vs,d::ds,a,h=>by
  obtain ⟨p,q,_,c,_⟩:=h
  simp [y5u c]
theorem w9t {f:Func} {s:ChangeSpec} {W u:World} {args:Array Value} {ds L:List (DataW H)} {g:List MemPlace} {E:TypeId}
  (O:laidOutB P=true) (hm:mapsRowed P=true) (A:((eAv P.types.size).all fun t=>match P.underlying t with|some (.slice e)=>decide (0<P.cellsOf e)|_=>true)=true)
  (z:f.params.toList.all (fun t=>decide (t<P.types.size))=true) (G:s.vars=[]) (o:f.resultTypes=#[E]) (k:P.underlying E=some .bool)
  (C:∀ ds:List (DataW H),ds.length=f.params.toList.length→(s.fn H ds).results=[.lit (.bool true)]∧(s.fn H ds).args=ds∧(s.fn H ds).vars=[])
  (J:DataW.Whole enc P f.params.toList s.vars false W args.toList ds L g) (h:y7t W u):s.post enc P f false true false false W args (.bool true) u:=by
 have l:=J
 obtain ⟨p,q,K,w,rfl,F,_⟩:=J
 rw [G] at w
 have d:=l.lt
 match L,w with
 |[],w=>
 have N:q=[]:=w
 subst N
 simp only [eDx] at d F l
 obtain ⟨U,T,S⟩:=C ds (y5u K)
 have i:∀ (b:Nat) (sp:Nat→Bool) (I:Bool),eCx enc P u b sp I f.resultTypes.toList ((Value.bool true).resultList f.resultTypes.size) (s.fn H (ds++[])).results []:=by
  intro b sp I
  rw [eDx,U,o]
  exact ⟨[],[],⟨1,by simp [DataW.trod,k,eGi]⟩,rfl,rfl⟩
 have c:∀ sp:Nat→Bool,(∀ x∈p,sp x.block=true)→eCx enc P u 0 sp true f.params.toList args.toList (s.fn H (ds++[])).args p:=by
  intro sp B
  rw [eDx,T]
  exact (y3c K fun x n=>h.at (d x n)).respare (kids_rows O hm) (slices_full_of P A) (fun t M=>by simpa using eBm.1 z t M) B
 have a:∀ sp:Nat→Bool,DataW.TrodVars enc P u sp s.vars (s.fn H (ds++[])).vars []:=by
  intro sp; rw [eDx,S,G]; rfl
 refine ⟨ds,[],p,[],p,[],l,i _ _ _,c _ (fun x n=>by simpa using d x n),a _,w1o h,fun _=>?_⟩
 refine ⟨?_,_,_,([]++p)++[],⟨[]++p,[],trodAll_append (c _ (fun _ _=>rfl)) (i _ _ _),a _,rfl,?_,?_⟩,?_⟩
 ·intro j t r m y
  rw [o] at m y
  match j,m,y with
  |0,m,y=>
   simp at m; subst m
   have:r= .bool true:=by simpa [Value.resultList] using y.symm
   subst this
   unfold Value.okWide
   rw [k]
   simp [Cell.okWide,Cell.ok,k]
  |j+1,m,_=>simp at m
 ·intro b off v
  have v:MemPlace.cell b off∈p:=by simpa using v
  have:=F b off v
  have Q:=h.block b (d _ v)
  unfold World.frozen? at this⊢
  simp only at this⊢
  rw [Q]; exact this
 ·intro R; cases R
 ·intro x n _
  simpa using n
end
end Go.Am
end
section
namespace Go.Am
theorem y3v {β:Type} (c:Bool) (x:Option β):opt.need β c x=if c=true then x else none:=by cases c<;>rfl
theorem x0j {β:Type} (c:Bool) (x y:Option β):opt.ask β c x y=if c=true then x else y:=by cases c<;>rfl
theorem y85 {β:Type} (x:β):opt.ret β x=some x:=rfl
theorem v5z {β:Type} (n:Nat):opt.no β n=none:=rfl
theorem x0a {α β:Type} (x:Option α) (f:α→Option β):opt.bnd α β x f=x.bind f:=rfl
theorem y84 {β:Type} (x:Option β):opt.run β x=x:=rfl
theorem w0g {α β γ:Type} (x:Option (α⊕β)) (f:α→Option γ) (g:β→Option γ):opt.alt α β γ x f g=x.bind (Sum.elim f g):=by
 cases x with
 |none=>rfl
 |some y=>cases y<;>rfl
section
variable (es l:List (List D)) (i j a b n:Nat) (x y:Int) (c d:Bool)
theorem z7z:std.len es=es.length:=rfl
theorem z4s:std.ofNat n=(n:Int):=rfl
theorem x05:std.nat x=x.toNat:=rfl
theorem y59:std.add a b=a+b:=rfl
theorem y3o:std.leN a b=decide (a≤b):=by
 show eAz a b=_
 rw [eBu]; simp
theorem x06:std.eqN a b=decide (a=b):=by
 show eAk a b=_
 rw [eBu]; simp
theorem y3p:std.and c d=(c&&d):=rfl
theorem x07:std.app es l=es++l:=rfl
theorem y58:std.cut es a n=(es.drop a).take n:=rfl
theorem x58:std.rdI es i j=dI (rdD es i j):=rfl
theorem z6i:std.rdB es i j=dB (rdD es i j):=rfl
theorem w3i:std.rdL es i j=dL (rdD es i j):=rfl
theorem x59:std.cmp .eql x y=decide (x=y):=rfl
theorem w3j:std.cmp .neq x y=!decide (x=y):=rfl
theorem z3y:std.cmp .lss x y=decide (x<y):=rfl
theorem w3k:std.cmp .leq x y=decide (x≤y):=rfl
theorem z88:std.cmp .geq x y=decide (x≥y):=rfl
theorem w8y:std.mm .lss x y=min x y:=by
 show (if y<x then y else x)=_
 omega
theorem w8z:std.mm .gtr x y=max x y:=by
 show (if y>x then y else x)=_
 omega
theorem y57 (a:List CK):std.rowOk es i a=match es[i]? with|some r=>z2v a r|none=>false:=rfl
theorem w0c {α:Type} (u v:α):(bif c then u else v)=if c=true then u else v:=by cases c<;>rfl
theorem y5q (b: -9223372036854775808≤x) (a:x≤9223372036854775807):IntKind.i64.wrap x=x:=by
 have e:IntKind.i64.wrap x=if x % 18446744073709551616≥9223372036854775808 then x % 18446744073709551616 - 18446744073709551616 else x % 18446744073709551616:=by
  unfold IntKind.wrap
  simp [IntKind.signed,IntKind.bits]
 rw [e]
 split<;>omega
theorem z8d:std.ar .add .i64 x y=IntKind.i64.wrap (x+y):=rfl
theorem z49:std.ar .sub .i64 x y=IntKind.i64.wrap (x - y):=rfl
theorem w0y:std.ar .quo .i64 x y=IntKind.i64.wrap (x.tdiv y):=rfl
theorem w0x:std.ar .rem .i64 x y=x.tmod y:=rfl
end
end Go.Am
namespace Go.Am
theorem x1u {S R σ:Type} {b:S→Option (S⊕R)} (e:σ→S) (I:σ→Prop) (μ:σ→Nat) (Q:R→Prop)
  (step:∀ s,I s→(∃ s',b (e s)=some (.inl (e s'))∧I s'∧μ s'<μ s)∨(∃ r,b (e s)=some (.inr r)∧Q r)):∀ s,I s→∃ r,z1a b (e s)=some r∧Q r:=by
 have:∀ m s,μ s=m→I s→∃ r,z1a b (e s)=some r∧Q r:=by
  intro m
  induction m using Nat.strongRecOn with
  |_ m g=>
   intro s hm c
   rcases step s c with ⟨s',f,d,h⟩|⟨r,f,d⟩
   ·obtain ⟨r,a,b⟩:=g (μ s') (hm▸h) s' rfl d
    exact ⟨r,by rw [z17,f]; exact a,b⟩
   ·exact ⟨r,by rw [z17,f],d⟩
 exact fun s c=>this _ s rfl c
theorem z3c {S R τ:Type} {b:S→Option (S⊕R)} (n:Nat) (e:τ→Nat→S) (I:τ→Nat→Prop) (Q:R→Prop)
  (step:∀ t i,i<n→I t i→(∃ d,b (e t i)=some (.inl (e d (i+1)))∧I d (i+1))∨(∃ r,b (e t i)=some (.inr r)∧Q r))
  (stop:∀ t,I t n→∃ r,b (e t n)=some (.inr r)∧Q r) (t:τ) (i:Nat) (f:i≤n) (h:I t i):∃ r,z1a b (e t i)=some r∧Q r:=by
 refine x1u (σ:=τ×Nat) (fun s=>e s.1 s.2) (fun s=>s.2≤n∧I s.1 s.2) (fun s=>n - s.2) Q ?_ (t,i) ⟨f,h⟩
 rintro ⟨t,i⟩ ⟨f,h⟩
 simp only at f h⊢
 rcases eCu i n with c|g
 ·rcases step t i c h with ⟨d,a,b⟩|⟨r,a,b⟩
  ·exact .inl ⟨(d,i+1),a,⟨c,b⟩,by simp only; omega⟩
  ·exact .inr ⟨r,a,b⟩
 ·have:i=n:=by omega
  subst this
  exact .inr (stop t h)
theorem v0w {α:Type} {l:List α} {i:Nat} {m:α} (h:l[i]?=some m):l.drop i=m::l.drop (i+1):=by
 obtain ⟨b,a⟩:=eAe.1 h
 rw [List.drop_eq_getElem_cons b,a]
theorem z0d {α:Type} {l:List α} {i:Nat} (h:i<l.length):∃ m,l[i]?=some m:=⟨_,eAd h⟩
theorem y45 {i:Nat} (h:i<9223372036854775807):IntKind.i64.wrap ((i:Int)+1)=((i+1:Nat):Int):=by
 rw [y5q]<;>omega
theorem z0o:(∀ {α:Type} (a:α),(a=a)=True)∧((¬ True)=False)∧((¬ False)=True)∧(∀ h:Decidable True,@decide True h=true)∧(∀ h:Decidable False,@decide False h=false)∧((!true)=false)∧((!false)=true)∧
  (∀ {α:Type} (a b:α),(bif true then a else b)=a)∧(∀ {α:Type} (a b:α),(bif false then a else b)=b)∧(∀ a b:Int,(a≥b)=(b≤a))∧(∀ a b:Int,(a>b)=(b<a))∧(∀ x y:Int,std.ar .add .i64 x y=IntKind.i64.wrap (x+y)):=
 ⟨by simp,by simp,by simp,by simp,by simp,rfl,rfl,by simp,by simp,fun _ _=>rfl,fun _ _=>rfl,fun _ _=>rfl⟩
theorem z0j:(∀ {β:Type} (c:Bool) (x:Option β),opt.need β c x=if c=true then x else none)∧(∀ {β:Type} (c:Bool) (x y:Option β),opt.ask β c x y=if c=true then x else y)∧
    (∀ {β:Type} (x:β),opt.ret β x=some x)∧(∀ {β:Type} (n:Nat),opt.no β n=none)∧(∀ {α β:Type} (x:Option α) (f:α→Option β),opt.bnd α β x f=x.bind f)∧(∀ {β:Type} (x:Option β),opt.run β x=x)∧
    (∀ {α β γ:Type} (x:Option (α⊕β)) (f:α→Option γ) (g:β→Option γ),opt.alt α β γ x f g=x.bind (Sum.elim f g))∧
    (∀ es,std.len es=es.length)∧(∀ n,std.ofNat n=(n:Int))∧(∀ x,std.nat x=x.toNat)∧(∀ a b,std.add a b=a+b)∧(∀ a b,std.leN a b=decide (a≤b))∧(∀ a b,std.eqN a b=decide (a=b))∧
    (∀ c d,std.and c d=(c&&d))∧(∀ es l,std.app es l=es++l)∧(∀ es a n,std.cut es a n=(es.drop a).take n)∧
    (∀ x y,std.cmp .lss x y=decide (x<y))∧(∀ x y,std.cmp .leq x y=decide (x≤y))∧(∀ x y,std.cmp .gtr x y=decide (x>y))∧(∀ x y,std.cmp .geq x y=decide (x≥y))∧(∀ x y,std.cmp .eql x y=decide (x=y))∧(∀ x y,std.cmp .neq x y=!decide (x=y))∧
    (∀ es i j,std.rdI es i j=dI (((es[i]?).bind (fun r=>r[j]?)).getD .nilp))∧(∀ es i j,std.rdL es i j=dL (((es[i]?).bind (fun r=>r[j]?)).getD .nilp))∧
    (∀ es i e,std.rowOk es i e=match es[i]? with|some r=>z2v e r|none=>false)∧(∀ k x,std.cvt k x=k.wrap x)∧(∀ a b,std.sub a b=a - b)∧(∀ a b,std.mul a b=a*b)∧(∀ a b,std.min a b=min a b)∧
    (∀ x y,std.mm .lss x y=min x y)∧(∀ x y,std.mm .gtr x y=max x y)∧(∀ n r,std.rep n r=eAu n r)∧(∀ es i r,std.set es i r=es.set i r)∧(∀ es i l,std.splice es i l=es.take i++l++es.drop (i+l.length))∧
    (∀ n,Int.ofNat n=(n:Int))∧(∀ {α:Type} (c:Bool) (u v:α),(bif c then u else v)=if c=true then u else v)∧(∀ es i j,rdD es i j=((es[i]?).bind (fun r=>r[j]?)).getD .nilp):=
  ⟨y3v,x0j,y85,v5z,x0a,y84,w0g,fun _=>rfl,fun _=>rfl,fun _=>rfl,fun _ _=>rfl,y3o,x06,fun _ _=>rfl,fun _ _=>rfl,fun _ _ _=>rfl,
   fun _ _=>rfl,fun _ _=>rfl,fun _ _=>rfl,fun _ _=>rfl,fun _ _=>rfl,fun _ _=>rfl,fun _ _ _=>rfl,fun _ _ _=>rfl,fun _ _ _=>rfl,fun _ _=>rfl,fun _ _=>rfl,fun _ _=>rfl,fun _ _=>rfl,
   w8y,w8z,fun _ _=>rfl,fun _ _ _=>rfl,fun _ _ _=>rfl,fun _=>rfl,fun c u v=>w0c c u v,fun _ _ _=>rfl⟩
theorem z0k:(∀ {α β:Type} (f:α→β) (l:List α) (i:Nat),(l.map f)[i]?=Option.map f l[i]?)∧(∀ {α β:Type} (x:α) (f:α→β),Option.map f (some x)=some (f x))∧(∀ {α β:Type} (x:α) (f:α→Option β),(some x).bind f=f x)∧
  (∀ {α β:Type} (f:α→Option β),(none:Option α).bind f=none)∧(∀ {α:Type} (a b:α),(some a).getD b=a)∧(∀ {α β γ:Type} (f:α→γ) (g:β→γ) (x:α),Sum.elim f g (.inl x)=f x)∧(∀ {α β γ:Type} (f:α→γ) (g:β→γ) (x:β),Sum.elim f g (.inr x)=g x)∧
  (∀ {p:Prop} [Decidable p],(decide p=true)=p)∧(∀ h:Decidable True,@decide True h=true)∧(∀ h:Decidable False,@decide False h=false)∧(∀ b,(b&&true)=b)∧(∀ b,(true&&b)=b)∧((!true)=false)∧((!false)=true)∧
  (∀ b,((!b)=true)=(b=false))∧(∀ {p:Prop} [Decidable p],(decide p=false)↔¬ p)∧((false=true)=False)∧(∀ {α:Type} {_:Decidable True} (a b:α),(if True then a else b)=a)∧(∀ {α:Type} {_:Decidable False} (a b:α),(if False then a else b)=b)∧
  (∀ {α β:Type} (f:α→β) (l:List α),(l.map f).length=l.length)∧(∀ n:Nat,((n:Int)).toNat=n)∧(∀ {α:Type} (a:α) (l:List α),(a::l).length=l.length+1)∧(∀ {α:Type},([]:List α).length=0)∧(∀ n:Nat,0+n=n):=
 ⟨by simp,by simp,by simp,by simp,by simp,by simp,by simp,by simp,by simp,by simp,by simp,by simp,rfl,rfl,by simp,by simp,by simp,by simp,by simp,by simp,by simp,by simp,by simp,by simp⟩
def le {β:Type} (a b:Option β):Prop:=∀ r,a=some r→b=some r
theorem le_refl {β:Type} (a:Option β):le a a:=fun _ h=>h
end Go.Am
end
