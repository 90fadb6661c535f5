/- Texts of this claim. -/
import Derived.Test.YtjlhhpjkmgediaaT2
import Derived.Test.YtjlhhpjkmgediaaProg
import Derived.KernelRfl
set_option linter.unusedVariables false
set_option linter.unusedSimpArgs false
set_option linter.unusedSectionVars false
set_option maxRecDepth 100000
set_option maxHeartbeats 0
section
namespace Go.Am
def x5m (x:x59) (s:AS) (id:Nat) (old y:D) (es3:List (D×D)):AS:=
 ⟨z4w (z4w (z4w (z4w s.env x.dL (.d old)) x.dB (.d y)) x.dM .bot) x.dX .bot,z0o s.heap id (.map es3),s.nt⟩
structure x4l (T:TypeId→Option TI) (x:x59) (s1:AS) (id:Nat) (kd:D) (es:List (D×D)) (ti:TI) (ks:List SK) (ka:Bool) (ez:D) (q:Bool) (r:List D) (y:D):Prop where
 ha:z0r s1.env x.a= .map id
 hb:z0r s1.env x.b= .d kd
 hob:z0e s1.heap id= .map es
 hti:T x.t=some ti
 hdesc:ti.desc= .map ks ka ez
 hwant:y8w q r (z3b std ti s1.heap (.map id) (.d kd))
 hop:∃ kk o n,z59 q r ez= .int kk o∧z0n s1.env (.const x.c)= .d (.int kk n)∧z9w x.bop= .arith∧y= .int kk (std.ar x.bop kk o n)
 hlt:x.dL<s1.nt∧x.dB<s1.nt∧x.dM<s1.nt∧x.dX<s1.nt
 idlt:id<s1.heap.length
def z8e (s1:AS) (x:x59) (old y:D) (fL fB fM fX:Bool) (t:Nat):AV:=
 if fX=true∧t=x.dX then .bot else if fM=true∧t=x.dM then .bot else if fB=true∧t=x.dB then .d y else if fL=true∧t=x.dL then .d old else z0r s1.env t
section
variable {P:Program}
theorem y3f {d nt:Nat} (h:d<nt):z4x nt (some d)=true:=Nat.ble_eq_true_of_le h
theorem z10.congr {ρ:Rho} {s s':AS} {tm:Array Value} {w:World} (hE:∀ t,z0r s'.env t=z0r s.env t) (hH:∀ id,z0e s.heap id=z0e s'.heap id) (hn:s'.nt=s.nt) (hl:s.heap.length≤s'.heap.length) (h:z10 P ρ s tm w):z10 P ρ s' tm w:=
 ⟨h.heap.ext hH,fun t=>by rw [hE, ←z25 hH]; exact h.env t,by rw [hn]; exact h.size,fun id hid=>Nat.lt_of_lt_of_le (h.dom id hid) hl⟩
theorem z8z {ρ:Rho} {s:AS} {tm:Array Value} {w:World} (h1:z10 P ρ s tm w) {ops:Array Oper} {i:Nat} {o:Oper} (ho:ops[i]?=some o) (hg:o.guard=none) (hdef:∀ c,o.op≠ .defer c) (hd:z4x s.nt o.dst=true) {v:AV} {u:List (Nat×AO)}
  (hex:y1i P ρ s.heap w s.heap.length (execOp (opv tm) o) ⟨true,v,u⟩) (hu:∀ id x,(id,x)∈u→id<s.heap.length) {b:Frame} {k:List Item} {cs:List Frame} {ds:List Deferred} {rest:List Nat} {B:Nat} (hds:z3j b.roundOf B ρ.fr w ds):
  ∃ val w',((execOp (opv tm) o).run P w= .ok (.value val) w'∨((execOp (opv tm) o).run P w= .ok .skip w'∧val=undef))∧z10 P ρ (z5p s o.dst v u) (y2g tm o.dst val) w'∧Ext (· <s.heap.length) ρ s.heap w ρ (z5p s o.dst v u).heap w'∧z3j b.roundOf B ρ.fr w' ds∧
   Steps P (lone (b.on tm ds (.inRegion ops (i::rest)::k)) cs w) (lone (b.on (y2g tm o.dst val) ds (.inRegion ops rest::k)) cs w'):=by
 have hnone:ρ s.heap.length=none:=by
  cases hq:ρ s.heap.length with
  |none=>rfl
  |some L=>have:=h1.dom _ (by rw [hq]; simp); omega
 obtain ⟨val,w',ρ',hrun,hv,hh,hx,hr⟩:=hex
 have hρ:ρ'=ρ:=by
  rcases hr with h|⟨o,h⟩
  ·exact h
  ·have:=hu _ _ h; omega
 subst hρ
 have hw:Region.wanted o (yielded ops tm)=true:=z5i h1 (by rw [hg]; rfl)
 refine ⟨val,w',hrun,h1.step' hnone hd hv hh hx (.inl rfl),hx.mono (fun id hid=>by omega),hds.keep h1.heap hx, .one (z95 ho hw hdef hrun)⟩
structure St (P:Program) (x:x59) (s1:AS) (id:Nat) (kd:D) (ks:List SK) (ka:Bool) (old y:D) (es2:List (D×D)) (upd:D→List (D×D)) (ρ:Rho) (w1:World) (fL fB fM fX:Bool) (tm:Array Value) (w:World) (s:AS):Prop where
 nt:s.nt=s1.nt
 len:s.heap.length=s1.heap.length
 env:∀ t,z0r s.env t=z8e s1 x old y fL fB fM fX t
 heap:∀ i,z0e s.heap i=if fM=true∧i=id then .map es2 else z0e s1.heap i
 st:z10 P ρ s tm w
 ext:Ext (· <s1.heap.length) ρ s1.heap w1 ρ s.heap w
 stamp:fM=true→∃ (L:Loc) (en:Array MapEntry) (clk n:Nat) (e:MapEntry) (z:Value),ρ id=some L∧w.heap[L.blk]?=some (.map en clk)∧en[n]?=some e∧opv tm (.tmp x.dM)= .tuple #[z,goInt e.born]∧(fX=true→opv tm (.tmp x.dX)=goInt e.born)∧
  es2[n]?=some (kd,old)∧z5j std ks ka kd es2 0=some (some (n,old))∧(∀ v,upd v=std.mset es2 n kd v)
theorem y2i {tm:Array Value} {d:Nat} {v:Value} (h:d<tm.size):opv (y2g tm (some d) v) (.tmp d)=v:=by
 simp [opv,y2g,Array.getD_eq_getD_getElem?,h]
theorem z7l {tm:Array Value} {d t:Nat} {v:Value} (h:d≠t):opv (y2g tm (some d) v) (.tmp t)=opv tm (.tmp t):=by
 simp [opv,y2g,Array.getD_eq_getD_getElem?,Array.getElem?_setIfInBounds_ne h]
section
variable {T:TypeId→Option TI} (hT:z9t P T) {x:x59} {s1:AS} {id:Nat} {kd:D} {es:List (D×D)} {ti:TI} {ks:List SK} {ka:Bool} {ez:D} {q:Bool} {r:List D} {y:D}
 (hR:x4l T x s1 id kd es ti ks ka ez q r y) {L B M X E:Oper} (hO:w8i x L B M X E)
 {ρ:Rho} {w1:World} {fL fB fM fX:Bool} {tm:Array Value} {w:World} {s:AS}
 (hS:St P x s1 id kd ks ka (z59 q r ez) y (ent es q r kd ez) (z7y es q r kd) ρ w1 fL fB fM fX tm w s)
 {ops:Array Oper} {b:Frame} {k:List Item} {cs:List Frame} {ds:List Deferred} {rest:List Nat} {B0:Nat} (hds:z3j b.roundOf B0 ρ.fr w ds) {i:Nat}
include hT hR hO hS hds
theorem v6m:z0r s.env x.a= .map id∧z0r s.env x.b= .d kd:=by
 constructor
 ·rw [hS.env,z8e,if_neg (fun h=>hO.aX h.2),if_neg (fun h=>hO.aM h.2),if_neg (fun h=>hO.aB h.2),if_neg (fun h=>hO.aL h.2)]; exact hR.ha
 ·rw [hS.env,z8e,if_neg (fun h=>hO.bX h.2),if_neg (fun h=>hO.bM h.2),if_neg (fun h=>hO.bB h.2),if_neg (fun h=>hO.bL h.2)]; exact hR.hb
theorem x14:z0w ρ (z0k ρ s.heap) w (.map id) (opv tm (.tmp x.a))∧z14 (z0k ρ s.heap) w kd (opv tm (.tmp x.b)):=by
 obtain ⟨h1,h2⟩:=v6m hT hR hO hS hds
 have a1:=z0p hS.st.env (.tmp x.a)
 have a2:=z0p hS.st.env (.tmp x.b)
 simp only [z0n] at a1 a2
 rw [h1] at a1; rw [h2] at a2
 refine ⟨a1,?_⟩
 cases a2 with|d h=>exact h
theorem v6p (ho:ops[i]?=some L) (hfL:fL=false) (hfB:fB=false):
  ∃ tm' w' s',St P x s1 id kd ks ka (z59 q r ez) y (ent es q r kd ez) (z7y es q r kd) ρ w1 true fB fM fX tm' w' s'∧z3j b.roundOf B0 ρ.fr w' ds∧
   Steps P (lone (b.on tm ds (.inRegion ops (i::rest)::k)) cs w) (lone (b.on tm' ds (.inRegion ops rest::k)) cs w'):=by
 obtain ⟨r1,r2⟩:=x14 hT hR hO hS hds
 have hlk:∃ q' r',y8w q' r' (z3b std ti s.heap (.map id) (.d kd))∧z4y ti q' r' false=some ⟨true, .d (z59 q r ez),[]⟩:=by
  have hkin:(z1p kd==ka&&z1f ks (z01 kd))=true∧z3b std ti s1.heap (.map id) (.d kd)=z5j std ks ka kd es 0:=by
   have hf:∃ fr,z3b std ti s1.heap (.map id) (.d kd)=some fr:=by
    rcases hR.hwant with ⟨h,_⟩|⟨_,_,_,h,_⟩<;>exact ⟨_,h⟩
   obtain ⟨fr,hf⟩:=hf
   unfold z3b at hf⊢
   rw [hR.hdesc] at hf⊢
   simp only [hR.hob] at hf⊢
   cases hc:(z1p kd==ka)&&z1f ks (z01 kd) with
   |false=>rw [hc] at hf; cases hf
   |true=>exact ⟨rfl,rfl⟩
  cases hM:fM with
  |false=>
   refine ⟨q,r,?_,?_⟩
   ·have:z3b std ti s.heap (.map id) (.d kd)=z3b std ti s1.heap (.map id) (.d kd):=by
     unfold z3b
     simp only [hS.heap id,hM,Bool.false_eq_true,false_and,if_false]
    rw [this]; exact hR.hwant
   ·unfold z4y
    rw [hR.hdesc]
    rcases hR.hwant with ⟨_,rfl⟩|⟨_,_,_,_,_,rfl,rfl⟩<;>rfl
  |true=>
   obtain ⟨L',en,clk,n,e,z,_,_,_,_,_,_,hfa,_⟩:=hS.stamp hM
   refine ⟨true,[.int .i64 (n:Nat),z59 q r ez], .inr ⟨n,_,_,?_, .inl (DLe.refl _),rfl,rfl⟩,?_⟩
   ·unfold z3b
    rw [hR.hdesc]
    simp only [hS.heap id,hM,hkin.1,cond_true,and_self,if_true]
    exact hfa
   ·unfold z4y
    rw [hR.hdesc]
    rfl
 obtain ⟨q',r',hw',hst⟩:=hlk
 have hex:=(z72 (hT _ _ hR.hti) (new:=s.heap.length) hS.st.heap r1 (.d r2) hw' hst).value
 have hex:y1i P ρ s.heap w s.heap.length (execOp (opv tm) L) ⟨true, .d (z59 q r ez),[]⟩:=by simpa [execOp,hO.oL] using hex
 obtain ⟨val,w',hrun,g1,g2,g3,g4⟩:=z8z hS.st ho hO.gL (by rw [hO.oL]; simp) (by rw [hO.dL,hS.nt]; exact y3f hR.hlt.1) hex (by simp) hds (k:=k) (cs:=cs) (rest:=rest)
 refine ⟨y2g tm L.dst val,w',z5p s L.dst (.d (z59 q r ez)) [],⟨hS.nt,hS.len,fun t=>?_,hS.heap,g1,hS.ext.trans (g2.mono (fun id h=>by rw [hS.len]; exact h)),fun hM=>?_⟩,g3,g4⟩
 ·simp only [z5p,hO.dL,y26]
  by_cases e:x.dL=t
  ·subst e
   rw [z0v,z8e,if_neg (fun h=>hO.LX h.2),if_neg (fun h=>hO.LM h.2),if_neg (fun h=>hO.LB h.2),if_pos ⟨rfl,rfl⟩]
  ·rw [z0l _ _ _ _ e,hS.env,z8e,z8e]
   simp [hfL,Ne.symm e]
 ·obtain ⟨L',en,clk,n,e,z,c1,c2,c3,c4,c5,c6⟩:=hS.stamp hM
  have hsize:x.dL<tm.size:=by rw [hS.st.size,hS.nt]; exact hR.hlt.1
  refine ⟨L',en,clk,n,e,z,c1,?_,c3,?_,?_,c6⟩
  ·have hfr:w'=w:=by
    obtain ⟨v0,w0,ρ0,hq,_⟩:=(z72 (hT _ _ hR.hti) (new:=s.heap.length) hS.st.heap r1 (.d r2) hw' hst)
    have:=(y3u (hT _ _ hR.hti) hS.st.heap r1 (.d r2) hw')
    obtain ⟨v1,hv1⟩:=this
    have hq':(execOp (opv tm) L).run P w= .ok (.value v1) w:=by simp [execOp,hO.oL,hv1]
    rw [hq'] at hrun
    rcases hrun with h|⟨h,_⟩<;>cases h
    rfl
   rw [hfr]; exact c2
  ·rw [hO.dL,z7l hO.LM]; exact c4
  ·rw [hO.dL,z7l hO.LX]; exact c5
theorem v6r (ho:ops[i]?=some B) (hfL:fL=true) (hfB:fB=false):
  ∃ tm' w' s',St P x s1 id kd ks ka (z59 q r ez) y (ent es q r kd ez) (z7y es q r kd) ρ w1 fL true fM fX tm' w' s'∧z3j b.roundOf B0 ρ.fr w' ds∧
   Steps P (lone (b.on tm ds (.inRegion ops (i::rest)::k)) cs w) (lone (b.on tm' ds (.inRegion ops rest::k)) cs w'):=by
 obtain ⟨kk,o,n,e1,e2,e3,e4⟩:=hR.hop
 have heL:z0r s.env x.dL= .d (.int kk o):=by
  rw [hS.env,z8e,if_neg (fun h=>hO.LX h.2),if_neg (fun h=>hO.LM h.2),if_neg (fun h=>hO.LB h.2),if_pos ⟨hfL,rfl⟩,e1]
 have hvL:opv tm (.tmp x.dL)= .int kk o:=by
  have a1:=z0p hS.st.env (.tmp x.dL)
  simp only [z0n] at a1
  rw [heL] at a1
  generalize opv tm (.tmp x.dL)=v at a1
  cases a1 with|d h=>cases h; rfl
 have hvc:opv tm (.const x.c)= .int kk n:=by
  have a1:=z0p hS.st.env (.const x.c)
  have:z0n s.env (.const x.c)=z0n s1.env (.const x.c):=rfl
  rw [this,e2] at a1
  generalize opv tm (.const x.c)=v at a1
  cases a1 with|d h=>cases h; rfl
 have hq':(execOp (opv tm) B).run P w= .ok (.value (.int kk (std.ar x.bop kk o n))) w:=by
  have h1:=z4n (P:=P) (w:=w) x.bop x.bt kk o n (by rw [e3]; simp) (by rw [e3]; simp)
  rw [e3] at h1
  have h2:(eqGuard x.bop x.bt (.tmp x.dL) (.const x.c) (.int kk o) (.int kk n)).run P w= .ok () w:=z6q _ _ trivial
  simp only [execOp,hO.oB,hvL,hvc,Sem.run_bind,h2,Result.andThen_ok]
  have h1:(binOp x.bop x.bt (.int kk o) (.int kk n)).run P w= .ok (.int kk (std.ar x.bop kk o n)) w:=h1
  simp [h1]
 have hex:y1i P ρ s.heap w s.heap.length (execOp (opv tm) B) ⟨true, .d y,[]⟩:=⟨_,w,ρ, .inl hq',by rw [e4]; exact .d (.int _ _),hS.st.heap,Ext.refl _ _ _ _, .inl rfl⟩
 obtain ⟨val,w',hrun,g1,g2,g3,g4⟩:=z8z hS.st ho hO.gB (by rw [hO.oB]; simp) (by rw [hO.dB,hS.nt]; exact y3f hR.hlt.2.1) hex (by simp) hds (k:=k) (cs:=cs) (rest:=rest)
 rw [hq'] at hrun
 have hww:w'=w:=by
  rcases hrun with h|⟨h,_⟩<;>cases h
  rfl
 subst hww
 refine ⟨y2g tm B.dst val,w',z5p s B.dst (.d y) [],⟨hS.nt,hS.len,fun t=>?_,hS.heap,g1,hS.ext.trans (g2.mono (fun id h=>by rw [hS.len]; exact h)),fun hM=>?_⟩,g3,g4⟩
 ·simp only [z5p,hO.dB,y26]
  by_cases e:x.dB=t
  ·subst e
   rw [z0v,z8e,if_neg (fun h=>hO.BX h.2),if_neg (fun h=>hO.BM h.2),if_pos ⟨rfl,rfl⟩]
  ·rw [z0l _ _ _ _ e,hS.env,z8e,z8e]
   simp [hfB,Ne.symm e]
 ·obtain ⟨L',en,clk,n,e,z,c1,c2,c3,c4,c5,c6⟩:=hS.stamp hM
  refine ⟨L',en,clk,n,e,z,c1,c2,c3,?_,?_,c6⟩
  ·rw [hO.dB,z7l hO.BM]; exact c4
  ·rw [hO.dB,z7l hO.BX]; exact c5
theorem v6o (ho:ops[i]?=some M) (hfM:fM=false) (hfX:fX=false):
  ∃ tm' w' s',St P x s1 id kd ks ka (z59 q r ez) y (ent es q r kd ez) (z7y es q r kd) ρ w1 fL fB true fX tm' w' s'∧z3j b.roundOf B0 ρ.fr w' ds∧
   Steps P (lone (b.on tm ds (.inRegion ops (i::rest)::k)) cs w) (lone (b.on tm' ds (.inRegion ops rest::k)) cs w'):=by
 obtain ⟨r1,r2⟩:=x14 hT hR hO hS hds
 have hob:z0e s.heap id= .map es:=by rw [hS.heap,if_neg (by simp [hfM])]; exact hR.hob
 have hw':y8w q r (z3b std ti s.heap (.map id) (.d kd)):=by
  have:z3b std ti s.heap (.map id) (.d kd)=z3b std ti s1.heap (.map id) (.d kd):=by
   unfold z3b
   simp only [hob,hR.hob]
  rw [this]; exact hR.hwant
 obtain ⟨L',en0,clk0,en,clk,z,n,e,old,c1,c2,c3,c4,c5,c6,c7,c8,_,c9,c10,c11⟩:=x10 (hT _ _ hR.hti) hS.st.heap r1 r2 hob hR.hdesc hw'
 subst c11
 have hidl:id<s.heap.length:=by rw [hS.len]; exact hR.idlt
 have hrunok:=map_set hS.st.heap c1 hob c3 en clk c5 c4 s.heap.length .bot _ (fun _ _ _=> .bot _) c7
 have hex:y1i P ρ s.heap w s.heap.length (execOp (opv tm) M) ⟨true, .bot,[(id, .map (ent es q r kd ez))]⟩:=by simpa [execOp,hO.oM] using hrunok.value
 obtain ⟨val,w',hrun,g1,g2,g3,g4⟩:=z8z hS.st ho hO.gM (by rw [hO.oM]; simp) (by rw [hO.dM,hS.nt]; exact y3f hR.hlt.2.2.1) hex (by intro j o hj; simp at hj; rw [hj.1]; exact hidl) hds (k:=k) (cs:=cs) (rest:=rest)
 have hq':(execOp (opv tm) M).run P w= .ok (.value (.tuple #[z,goInt e.born])) (World.setObj w L'.blk (.map en clk)):=by simp [execOp,hO.oM,c7]
 rw [hq'] at hrun
 have hvw:val= .tuple #[z,goInt e.born]∧w'=World.setObj w L'.blk (.map en clk):=by
  rcases hrun with h|⟨h,_⟩<;>cases h
  exact ⟨rfl,rfl⟩
 obtain ⟨rfl,rfl⟩:=hvw
 refine ⟨y2g tm M.dst (.tuple #[z,goInt e.born]),_,z5p s M.dst .bot [(id, .map (ent es q r kd ez))],⟨hS.nt,?_,fun t=>?_,fun j=>?_,g1,hS.ext.trans (g2.mono (fun id h=>by rw [hS.len]; exact h)),fun _=>⟨L',en,clk,n,e,z,c1,z0s _ _ _ (Array.getElem?_eq_some_iff.1 c3).1,c6,?_,(fun h=>by rw [hfX] at h; cases h),c8,c9,fun v=>?_⟩⟩,g3,g4⟩
 ·simp only [z5p,z2l]
  rw [z0q _ _ _ hidl]; exact hS.len
 ·simp only [z5p,hO.dM,y26]
  by_cases e:x.dM=t
  ·subst e
   rw [z0v,z8e,if_neg (fun h=>hO.MX h.2),if_pos ⟨rfl,rfl⟩]
  ·rw [z0l _ _ _ _ e,hS.env,z8e,z8e]
   simp [hfM,Ne.symm e]
 ·simp only [z5p,z2l]
  by_cases e:id=j
  ·subst e; rw [z0b,if_pos ⟨trivial,rfl⟩]
  ·rw [z0a _ _ _ _ e,hS.heap,if_neg (by simp [hfM]),if_neg (fun h=>e h.2.symm)]
 ·rw [hO.dM,y2i (by rw [hS.st.size,hS.nt]; exact hR.hlt.2.2.1)]
 ·exact c10 v
theorem v6n (ho:ops[i]?=some X) (hfM:fM=true) (hfX:fX=false):
  ∃ tm' w' s',St P x s1 id kd ks ka (z59 q r ez) y (ent es q r kd ez) (z7y es q r kd) ρ w1 fL fB fM true tm' w' s'∧z3j b.roundOf B0 ρ.fr w' ds∧
   Steps P (lone (b.on tm ds (.inRegion ops (i::rest)::k)) cs w) (lone (b.on tm' ds (.inRegion ops rest::k)) cs w'):=by
 obtain ⟨L',en,clk,n,e,z,c1,c2,c3,c4,c5,c6⟩:=hS.stamp hfM
 have hq':(execOp (opv tm) X).run P w= .ok (.value (goInt e.born)) w:=by simp [execOp,hO.oX,c4,Instr.extract]
 have hex:y1i P ρ s.heap w s.heap.length (execOp (opv tm) X) ⟨true, .bot,[]⟩:=⟨goInt e.born,w,ρ, .inl hq', .bot _,hS.st.heap,Ext.refl _ _ _ _, .inl rfl⟩
 obtain ⟨val,w',hrun,g1,g2,g3,g4⟩:=z8z hS.st ho hO.gX (by rw [hO.oX]; simp) (by rw [hO.dX,hS.nt]; exact y3f hR.hlt.2.2.2) hex (by simp) hds (k:=k) (cs:=cs) (rest:=rest)
 rw [hq'] at hrun
 have hvw:val=goInt e.born∧w'=w:=by
  rcases hrun with h|⟨h,_⟩<;>cases h
  exact ⟨rfl,rfl⟩
 obtain ⟨rfl,rfl⟩:=hvw
 refine ⟨y2g tm X.dst (goInt e.born),w',z5p s X.dst .bot [],⟨hS.nt,hS.len,fun t=>?_,hS.heap,g1,hS.ext.trans (g2.mono (fun id h=>by rw [hS.len]; exact h)),fun hM=>⟨L',en,clk,n,e,z,c1,c2,c3,?_,fun _=>?_,c6⟩⟩,g3,g4⟩
 ·simp only [z5p,hO.dX,y26]
  by_cases e:x.dX=t
  ·subst e
   rw [z0v,z8e,if_pos ⟨rfl,rfl⟩]
  ·rw [z0l _ _ _ _ e,hS.env,z8e,z8e]
   simp [hfX,Ne.symm e]
 ·rw [hO.dX,z7l (Ne.symm hO.MX)]; exact c4
 ·rw [hO.dX,y2i (by rw [hS.st.size,hS.nt]; exact hR.hlt.2.2.2)]
theorem v6q (ho:ops[i]?=some E) (hfL:fL=true) (hfB:fB=true) (hfM:fM=true) (hfX:fX=true):
  ∃ tm' w',z10 P ρ (x5m x s1 id (z59 q r ez) y (z7y es q r kd y)) tm' w'∧z3j b.roundOf B0 ρ.fr w' ds∧Ext (· <s1.heap.length) ρ s1.heap w1 ρ (x5m x s1 id (z59 q r ez) y (z7y es q r kd y)).heap w'∧
   Steps P (lone (b.on tm ds (.inRegion ops (i::rest)::k)) cs w) (lone (b.on tm' ds (.inRegion ops rest::k)) cs w'):=by
 obtain ⟨r1,r2⟩:=x14 hT hR hO hS hds
 obtain ⟨L',en,clk,n,e,z,c1,c2,c3,c4,c5,c6,c7,c8⟩:=hS.stamp hfM
 have hob:z0e s.heap id= .map (ent es q r kd ez):=by rw [hS.heap,if_pos ⟨hfM,rfl⟩]
 have hidl:id<s.heap.length:=by rw [hS.len]; exact hR.idlt
 have hy:z14 (z0k ρ s.heap) w y (opv tm (.tmp x.dB)):=by
  have a1:=z0p hS.st.env (.tmp x.dB)
  simp only [z0n] at a1
  rw [hS.env,z8e,if_neg (fun h=>hO.BX h.2),if_neg (fun h=>hO.BM h.2),if_pos ⟨hfB,rfl⟩] at a1
  cases a1 with|d h=>exact h
 have hvm:opv tm (.tmp x.a)= .map (some L'.blk):=by
  generalize opv tm (.tmp x.a)=v at r1
  cases r1 with
  |map _ L2 hL2=>rw [c1] at hL2; cases hL2; rfl
 have hrunok:=y8g (P:=P) (T:=x.t) hS.st.heap c1 hob c2 c3 c6 hy s.heap.length
 have hex:y1i P ρ s.heap w s.heap.length (execOp (opv tm) E) ⟨true, .bot,[(id, .map (std.mset (ent es q r kd ez) n kd y))]⟩:=by
  have:=hrunok.skip
  simpa [execOp,hO.oE,hvm,c5 hfX] using this
 obtain ⟨val,w',hrun,g1,g2,g3,g4⟩:=z8z hS.st ho hO.gE (by rw [hO.oE]; simp) (by rw [hO.dE]; rfl) hex (by intro j o hj; simp at hj; rw [hj.1]; exact hidl) hds (k:=k) (cs:=cs) (rest:=rest)
 have hH:∀ j,z0e (z5p s E.dst .bot [(id, .map (std.mset (ent es q r kd ez) n kd y))]).heap j=z0e (x5m x s1 id (z59 q r ez) y (z7y es q r kd y)).heap j:=by
  intro j
  simp only [z5p,z2l,x5m]
  rw [c8 y]
  by_cases e:id=j
  ·subst e; rw [z0b,z0b]
  ·rw [z0a _ _ _ _ e,z0a _ _ _ _ e,hS.heap,if_neg (fun h=>e h.2.symm)]
 refine ⟨y2g tm E.dst val,w',g1.congr (fun t=>?_) hH ?_ ?_,g3,?_,g4⟩
 ·simp only [z5p,hO.dE,y26,x5m]
  rw [hS.env,z8e]
  by_cases e1:x.dX=t
  ·subst e1; rw [z0v,if_pos ⟨hfX,rfl⟩]
  ·rw [z0l _ _ _ _ e1,if_neg (fun h=>e1 h.2.symm)]
   by_cases e2:x.dM=t
   ·subst e2; rw [z0v,if_pos ⟨hfM,rfl⟩]
   ·rw [z0l _ _ _ _ e2,if_neg (fun h=>e2 h.2.symm)]
    by_cases e3:x.dB=t
    ·subst e3; rw [z0v,if_pos ⟨hfB,rfl⟩]
    ·rw [z0l _ _ _ _ e3,if_neg (fun h=>e3 h.2.symm)]
     by_cases e4:x.dL=t
     ·subst e4; rw [z0v,if_pos ⟨hfL,rfl⟩]
     ·rw [z0l _ _ _ _ e4,if_neg (fun h=>e4 h.2.symm)]
 ·exact hS.nt.symm
 ·simp only [z5p,z2l,x5m]
  rw [z0q _ _ _ hidl,z0q _ _ _ hR.idlt,hS.len]; exact Nat.le_refl _
 ·have:=hS.ext.trans (g2.mono (fun id h=>by rw [hS.len]; exact h))
  exact ⟨this.os,this.tape,this.output,by rw [←z25 hH]; exact this.keep,this.rho,this.fr,this.frs⟩
end
theorem y2m {a c:Nat} (h:a≠c):Nat.beq a c=false:=by
 cases hb:Nat.beq a c with
 |false=>rfl
 |true=>exact absurd (Nat.eq_of_beq_eq_true hb) h
theorem w63 {T:TypeId→Option TI} (hT:z9t P T) {x:x59} {s1:AS} {id:Nat} {kd:D} {es:List (D×D)} {ti:TI} {ks:List SK} {ka:Bool} {ez:D} {q:Bool} {r:List D} {y:D}
  (hR:x4l T x s1 id kd es ti ks ka ez q r y) {L B M X E:Oper} (hO:w8i x L B M X E) {ρ:Rho} {w1:World} {ops:Array Oper} {b:Frame} {k:List Item} {cs:List Frame} {ds:List Deferred} {B0:Nat} {m:Nat}
  (hz:ops.size=m+5) (o0:ops[m]?=some L) (o1:ops[m+1]?=some B) (o2:ops[m+2]?=some M) (o3:ops[m+3]?=some X) (o4:ops[m+4]?=some E)
  (g1:(z7m (y18 ops.toList []) (m+1)).testBit m=true) (g2:(z7m (y18 ops.toList []) (m+3)).testBit (m+2)=true) (g3:(z7m (y18 ops.toList []) (m+4)).testBit (m+1)=true) (g4:(z7m (y18 ops.toList []) (m+4)).testBit (m+3)=true)
  {S:Nat→Bool} {l:List Nat} (hl:Ord ops S l):∀ {tm:Array Value} {w:World} {s:AS},(∀ j,j<m→S j=true)→S (m+4)=false→(∀ (i:Nat) (o:Oper),ops.toList[i]?=some o→S i=true→∀ d∈z4q o,S d=true)→
  St P x s1 id kd ks ka (z59 q r ez) y (ent es q r kd ez) (z7y es q r kd) ρ w1 (S m) (S (m+1)) (S (m+2)) (S (m+3)) tm w s→z3j b.roundOf B0 ρ.fr w ds→
  ∃ tm' w',z10 P ρ (x5m x s1 id (z59 q r ez) y (z7y es q r kd y)) tm' w'∧z3j b.roundOf B0 ρ.fr w' ds∧Ext (· <s1.heap.length) ρ s1.heap w1 ρ (x5m x s1 id (z59 q r ez) y (z7y es q r kd y)).heap w'∧
   Steps P (lone (b.on tm ds (.inRegion ops l::k)) cs w) (lone (b.on tm' ds k) cs w'):=by
 induction hl with
 |nil S h=>
  intro tm w s _ h4
  rw [h (m+4) (by omega)] at h4; cases h4
 |cons S i o l hi ho hd h ih=>
  intro tm w s hpre h4 hcl hS hds
  have hol:ops.toList[i]?=some o:=by rw [Array.getElem?_toList]; exact ho
  have tl:∀ {j:Nat} {p:Oper},ops[j]?=some p→ops.toList[j]?=some p:=fun hp=>by rw [Array.getElem?_toList]; exact hp
  have anc:∀ {j:Nat} {p:Oper} {a:Nat},ops[j]?=some p→S j=true→(z7m (y18 ops.toList []) j).testBit a=true→S a=true:=fun {j p a} hp hj ha=>z2j hcl (tl hp) (hcl j p (tl hp) hj) a ha
  have hpre':∀ j,j<m→(fun j=>S j||Nat.beq j i) j=true:=fun j hj=>by simp [hpre j hj]
  have hcl':∀ (i':Nat) (o':Oper),ops.toList[i']?=some o'→(fun j=>S j||Nat.beq j i) i'=true→∀ d∈z4q o',(fun j=>S j||Nat.beq j i) d=true:=by
   intro i' o' ho' hi' d hdd
   simp only [Bool.or_eq_true] at hi'⊢
   rcases hi' with hi'|hi'
   ·exact .inl (hcl i' o' ho' hi' d hdd)
   ·have:=Nat.eq_of_beq_eq_true hi'
    subst this
    rw [hol] at ho'; cases ho'
    exact .inl (hd d hdd)
  have hlt:i<m+5:=by rw [←hz]; exact (Array.getElem?_eq_some_iff.1 ho).1
  have hge:¬ i<m:=fun hlt=>by rw [hpre i hlt] at hi; cases hi
  have hcase:i=m∨i=m+1∨i=m+2∨i=m+3∨i=m+4:=by omega
  rcases hcase with rfl|rfl|rfl|rfl|rfl
  ·rw [o0] at ho; cases ho
   have hB:S (i+1)=false:=by
    cases hb:S (i+1) with
    |false=>rfl
    |true=>rw [anc o1 hb g1] at hi; cases hi
   obtain ⟨tm',w',s',hS',hds',hst⟩:=v6p hT hR hO hS hds (k:=k) (cs:=cs) (rest:=l) o0 hi hB
   obtain ⟨tm2,w2,f1,f2,f3,f4⟩:=ih hpre' (by simp [h4,y2m]) hcl' (by simpa [y2m] using hS') hds'
   exact ⟨tm2,w2,f1,f2,f3,hst.trans f4⟩
  ·rw [o1] at ho; cases ho
   have hL:S m=true:=z2j hcl (tl o1) hd m g1
   obtain ⟨tm',w',s',hS',hds',hst⟩:=v6r hT hR hO hS hds (k:=k) (cs:=cs) (rest:=l) o1 hL hi
   obtain ⟨tm2,w2,f1,f2,f3,f4⟩:=ih hpre' (by simp [h4,y2m]) hcl' (by simpa [y2m] using hS') hds'
   exact ⟨tm2,w2,f1,f2,f3,hst.trans f4⟩
  ·rw [o2] at ho; cases ho
   have hX:S (m+3)=false:=by
    cases hb:S (m+3) with
    |false=>rfl
    |true=>rw [anc o3 hb g2] at hi; cases hi
   obtain ⟨tm',w',s',hS',hds',hst⟩:=v6o hT hR hO hS hds (k:=k) (cs:=cs) (rest:=l) o2 hi hX
   obtain ⟨tm2,w2,f1,f2,f3,f4⟩:=ih hpre' (by simp [h4,y2m]) hcl' (by simpa [y2m] using hS') hds'
   exact ⟨tm2,w2,f1,f2,f3,hst.trans f4⟩
  ·rw [o3] at ho; cases ho
   have hM:S (m+2)=true:=z2j hcl (tl o3) hd (m+2) g2
   obtain ⟨tm',w',s',hS',hds',hst⟩:=v6n hT hR hO hS hds (k:=k) (cs:=cs) (rest:=l) o3 hM hi
   obtain ⟨tm2,w2,f1,f2,f3,f4⟩:=ih hpre' (by simp [h4,y2m]) hcl' (by simpa [y2m] using hS') hds'
   exact ⟨tm2,w2,f1,f2,f3,hst.trans f4⟩
  ·rw [o4] at ho; cases ho
   have hB:S (m+1)=true:=z2j hcl (tl o4) hd (m+1) g3
   have hX:S (m+3)=true:=z2j hcl (tl o4) hd (m+3) g4
   have hL:S m=true:=anc o1 hB g1
   have hM:S (m+2)=true:=anc o3 hX g2
   obtain ⟨tm',w',f1,f2,f3,hst⟩:=v6q hT hR hO hS hds (k:=k) (cs:=cs) (rest:=l) o4 hL hB hM hX
   have hnil:l=[]:=by
    cases h with
    |nil=>rfl
    |cons _ i' o' _ hi' ho' _ _=>
     exfalso
     have:=(Array.getElem?_eq_some_iff.1 ho').1
     have hc:i'<m∨i'=m∨i'=m+1∨i'=m+2∨i'=m+3∨i'=m+4:=by omega
     rcases hc with h|rfl|rfl|rfl|rfl|rfl
     ·simp [hpre _ h] at hi'
     ·simp [hL] at hi'
     ·simp [hB] at hi'
     ·simp [hM] at hi'
     ·simp [hX] at hi'
     ·simp at hi'
   subst hnil
   exact ⟨tm',w',f1,f2,f3,hst.trans (.one z74)⟩
theorem w22 {T : TypeId → Option TI} (hm : P.follows .mixedOrders = true) (hT : z9t P T) {n : Nat} {idr : Nat} {ops : Array Oper} {s0 : AS} {Q : AX → AS → Prop} (hn : n ≤ s0.heap.length) (hind : y4l ops.toList = true) (hed : z63 ops.toList = true) (hie : y3b ops.toList = true)
    {pre : List Oper} {x : x59} (hof : w65 ops.toList = some (pre, x)) {K : AS → Prop} (hds : DS P T ops.toList s0.nt s0.heap.length K [] 0 pre s0)
    (hK : ∀ s1, K s1 → s1.nt = s0.nt → ∃ id kd es ti ks ka ez q r y, x4l T x s1 id kd es ti ks ka ez q r y ∧ Q .normal (x5m x s1 id (z59 q r ez) y (z7y es q r kd y))) : z2u P n (.region idr ops true) s0 Q := ⟨by
  intro b k cs ρ tm ds w B h1 h2
  obtain ⟨x', hp, e1, e2⟩ : ∃ x', v37 (ops.toList.drop (ops.toList.length - 5)) = some x' ∧ pre = ops.toList.take (ops.toList.length - 5) ∧ x = x' := by
    unfold w65 at hof
    split at hof
    · rename_i x' hp
      cases hof
      exact ⟨_, hp, rfl, rfl⟩
    · cases hof
  subst e1; subst e2
  obtain ⟨L, Bo, M, X, E, hl5, hO⟩ := w64 hp
  have hlen5 : ops.toList.length - (ops.toList.length - 5) = 5 := by
    have := congrArg List.length hl5
    simpa using this
  have hsz : ops.toList.length = (ops.toList.length - 5) + 5 := by omega
  have hsplit : ops.toList = ops.toList.take (ops.toList.length - 5) ++ [L, Bo, M, X, E] := by
    rw [← hl5, List.take_append_drop]
  generalize hm' : ops.toList.length - 5 = m at *
  have htl : (ops.toList.take m).length = m := by rw [List.length_take]; omega
  have at5 : ∀ j (o : Oper), [L, Bo, M, X, E][j]? = some o → ops[m + j]? = some o := by
    intro j o hj
    rw [← Array.getElem?_toList, hsplit, List.getElem?_append_right (by rw [htl]; omega), htl]
    simpa using hj
  have hz : ops.size = m + 5 := by simpa using hsz
  obtain ⟨recs, r1, r2, r3, r4⟩ := hds.recs (s0 := s0) [] [L, Bo, M, X, E] [] (by simpa using hsplit) rfl rfl rfl (by simp) rfl (fun j o hj => by omega) (fun j o hj => by omega)
  have hrl : recs.length = m := by
    simp only [List.length_cons, List.length_nil] at r1; omega
  unfold y3b at hie
  rw [hm'] at hie
  simp only [Bool.and_eq_true] at hie
  obtain ⟨⟨g1, g2, g3, g4⟩, hall⟩ := hie
  have htail : ∀ (i : Nat) (o : Oper), ops[i]? = some o → recs.length ≤ i → ∀ j, j < recs.length → (z7m (y18 ops.toList []) i).testBit j = true := by
    intro i o ho hi j hj
    have hil : i < ops.toList.length := by simpa using (Array.getElem?_eq_some_iff.1 ho).1
    have := List.all_eq_true.1 hall i (List.mem_range.2 hil)
    rw [Bool.or_eq_true] at this
    rcases this with h | h
    · have : i < m := Nat.le_of_ble_eq_true h
      omega
    · exact List.all_eq_true.1 h j (List.mem_range.2 (by omega))
  have hw := z0d.drawn h1.heap (w.drawn + 1) (z0x.succ _)
  have hxd := Ext.drawn (· < n) ρ s0.heap w (w.drawn + 1) (z0x.succ _)
  have hI : Inv P ops.toList s0 recs (fun _ => false) ρ tm { w with drawn := w.drawn + 1 } s0 :=
    { nt := rfl
      env := fun t => by
        have : ∀ m, y46 s0 ops.toList recs (fun _ => false) t m = z0r s0.env t := by
          intro m
          induction m with
          | zero => rfl
          | succ m ih => simp only [y46]; split <;> simp [ih]
        rw [this]
      heap := fun id => by
        have : ∀ m, y3m s0 ops.toList recs (fun _ => false) id m = z0e s0.heap id := by
          intro m
          induction m with
          | zero => rfl
          | succ m ih => simp only [y3m]; split <;> simp [ih]
        rw [this]
      st := ⟨hw, fun t => (h1.env t).keep hxd.keep (fun _ _ h => h), h1.size, h1.dom⟩
      dom := fun id h => .inl (h1.dom id h)
      turned := by simp
      closed := by simp }
  obtain ⟨s', ρ', tm', w', S', l', p1, p2, p3, p4, p5, p6, p7⟩ := y4v hT hind (by omega) (fun i o r ho hr => r2 i o r (by rw [Array.getElem?_toList]; exact ho) hr) (fun i o hi ho => r3 i o hi (by rw [Array.getElem?_toList]; exact ho)) htail (b := b) (k := k) (cs := cs) (ds := ds) (B := B) (z8r hed (w.tape w.drawn (.order b.fn idr))) (by simp) hI (h2.keep h1.heap hxd)
  have hE : ∀ t, z0r (stF s0 ops.toList recs recs.length).env t = z0r s'.env t := by
    intro t
    rw [p1.env t]
    exact (y1l _ _ _ _ t recs.length _ (by rw [hrl]; omega) (fun j o _ _ hj => p3 j hj) (fun j o _ _ hj _ => by
      cases hb : S' j with
      | false => rfl
      | true => have := p4 j hb; omega)).symm
  have hH : ∀ id, z0e s'.heap id = z0e (stF s0 ops.toList recs recs.length).heap id := by
    intro id
    rw [p1.heap id]
    exact y1k _ _ _ _ id recs.length _ (by rw [hrl]; omega) (fun j r _ _ hj => p3 j hj) (fun j r _ _ hj _ => by
      cases hb : S' j with
      | false => rfl
      | true => have := p4 j hb; omega)
  obtain ⟨q1, q2⟩ := x1p s0 ops.toList recs recs.length
  have hnt : (stF s0 ops.toList recs recs.length).nt = s0.nt := x2u _ _ _ _
  have hst : z10 P ρ' (stF s0 ops.toList recs recs.length) tm' w' :=
    ⟨p1.st.heap.ext hH, fun t => by rw [hE, ← z25 hH]; exact p1.st.env t, by rw [hnt, ← p1.nt]; exact p1.st.size, fun id hid => by
      rcases p1.dom id hid with h | ⟨j, r, a1, a2, a3, x, a4⟩
      · omega
      · have hj : j < ops.size := by have := (List.getElem?_eq_some_iff.1 a2).1; omega
        exact q2 j ops[j] r (p4 j a1) (by rw [Array.getElem?_toList]; exact Array.getElem?_eq_getElem hj) a2 id x a4⟩
  obtain ⟨id, kd, es, ti, ks, ka, ez, q, r, y, hR, hQ⟩ := hK _ r4 hnt
  have f0 : S' m = false := by
    cases hb : S' m with
    | false => rfl
    | true => have := p4 m hb; omega
  have f1 : S' (m + 1) = false := by
    cases hb : S' (m + 1) with
    | false => rfl
    | true => have := p4 _ hb; omega
  have f2 : S' (m + 2) = false := by
    cases hb : S' (m + 2) with
    | false => rfl
    | true => have := p4 _ hb; omega
  have f3 : S' (m + 3) = false := by
    cases hb : S' (m + 3) with
    | false => rfl
    | true => have := p4 _ hb; omega
  have f4 : S' (m + 4) = false := by
    cases hb : S' (m + 4) with
    | false => rfl
    | true => have := p4 _ hb; omega
  have hS : St P x (stF s0 ops.toList recs recs.length) id kd ks ka (z59 q r ez) y (ent es q r kd ez) (z7y es q r kd) ρ' w' (S' m) (S' (m + 1)) (S' (m + 2)) (S' (m + 3)) tm' w' (stF s0 ops.toList recs recs.length) :=
    ⟨rfl, rfl, fun t => by simp [z8e, f0, f1, f2, f3], fun i => by simp [f2], hst, Ext.refl _ _ _ _, fun h => by rw [f2] at h; cases h⟩
  obtain ⟨tm2, w2, t1, t2, t3, t4⟩ := w63 hT hR hO hz (at5 0 _ rfl) (at5 1 _ rfl) (at5 2 _ rfl) (at5 3 _ rfl) (at5 4 _ rfl) g1 g2 g3 g4 p2 (b := b) (k := k) (cs := cs) (ds := ds) (B0 := B) (fun j hj => p3 j (by omega)) f4 p1.closed hS p5
  refine ⟨.normal, _, ρ', tm2, ds, w2, hQ, t1, t2, by rw [show (x5m x (stF s0 ops.toList recs recs.length) id (z59 q r ez) y (z7y es q r kd y)).nt = (stF s0 ops.toList recs recs.length).nt from rfl, hnt], ?_, ?_⟩
  · have e1 := p6.mono (S' := (· < n)) (fun id (hid : id < n) => by show id < s0.heap.length; omega)
    have e1' : Ext (· < n) ρ s0.heap { w with drawn := w.drawn + 1 } ρ' (stF s0 ops.toList recs recs.length).heap w' := ⟨e1.os, e1.tape, e1.output, by rw [← z25 hH]; exact e1.keep, e1.rho, e1.fr, e1.frs⟩
    have e2 := t3.mono (S' := (· < n)) (fun id (hid : id < n) => by show id < _; omega)
    exact hxd.trans (e1'.trans e2)
  · have hst := z60 (P := P) (b := b) (tm := tm) (ds := ds) (k := k) (cs := cs) (w := w) (id := idr) (ops := ops)
    rw [hm] at hst
    exact .head hst (p7.trans t4)⟩
end
end Go.Am
end
section
namespace Go.Am
section
variable {P:Program}
def z2n (ops:List Oper) (m:Nat):Bool:=
 let an:=y18 ops []
 (List.range ops.length).all fun i=>Nat.blt i m||(List.range i).all fun j=>Nat.testBit (z7m an i) j
theorem y2d {ops:List Oper} {m:Nat} (h:z2n ops m=true) {i:Nat} (hi:i<ops.length) (hm:m≤i) {j:Nat} (hj:j<i):(z7m (y18 ops []) i).testBit j=true:=by
 have:=List.all_eq_true.1 h i (List.mem_range.2 hi)
 rw [Bool.or_eq_true] at this
 rcases this with h|h
 ·have:i<m:=Nat.le_of_ble_eq_true h
  omega
 ·exact List.all_eq_true.1 h j (List.mem_range.2 hj)
def z87 (ops:List Oper):Nat→List Oper→Nat
 |i,[]=>i
 |i,o::l=>match o.op with
  | .call ⟨.value _,_,_⟩=>bif z2n ops i then i else z87 ops (i+1) l
  |_=>z87 ops (i+1) l
def x6v (ops:List Oper):Nat:=z87 ops 0 ops
theorem y0w (ops:List Oper):z2n ops ops.length=true:=by
 unfold z2n
 simp only [List.all_eq_true,List.mem_range,Bool.or_eq_true]
 intro i hi
 exact .inl (Nat.ble_eq_true_of_le hi)
theorem z92 (ops:List Oper):∀ (l:List Oper) (i:Nat),i+l.length=ops.length→z87 ops i l≤ops.length∧z2n ops (z87 ops i l)=true
 |[],i,h=>by
  simp only [List.length_nil,Nat.add_zero] at h
  subst h
  exact ⟨Nat.le_refl _,y0w ops⟩
 |o::l,i,h=>by
  have ih:=z92 ops l (i+1) (by simp only [List.length_cons] at h; omega)
  unfold z87
  split
  ·cases hb:z2n ops i with
   |true=>exact ⟨by simp only [List.length_cons] at h; simp only [cond_true]; omega,hb⟩
   |false=>exact ih
  ·exact ih
def z69 (ops:List Oper):Nat→List Oper→Nat
 |i,[]=>i
 |i,o::l=>match o.op with
  | .call ⟨.builtin .append,_,_⟩=>bif z2n ops i then i else z69 ops (i+1) l
  |_=>z69 ops (i+1) l
theorem z8l (ops:List Oper):∀ (l:List Oper) (i:Nat),i+l.length=ops.length→z69 ops i l≤ops.length∧z2n ops (z69 ops i l)=true
 |[],i,h=>by
  simp only [List.length_nil,Nat.add_zero] at h
  subst h
  exact ⟨Nat.le_refl _,y0w ops⟩
 |o::l,i,h=>by
  have ih:=z8l ops l (i+1) (by simp only [List.length_cons] at h; omega)
  unfold z69
  split
  ·cases hb:z2n ops i with
   |true=>exact ⟨by simp only [List.length_cons] at h; simp only [cond_true]; omega,hb⟩
   |false=>exact ih
  ·exact ih
def y5b (tk:Bool) (ops:List Oper):Nat:=bif tk then z69 ops 0 ops else x6v ops
theorem x6u (ops:List Oper):x6v ops≤ops.length:=(z92 ops ops 0 (by omega)).1
theorem y9b (ops:List Oper):z2n ops (x6v ops)=true:=(z92 ops ops 0 (by omega)).2
theorem w0p (tk:Bool) (ops:List Oper):y5b tk ops≤ops.length:=by
 cases tk
 ·exact x6u ops
 ·exact (z8l ops ops 0 (by omega)).1
theorem x1f (tk:Bool) (ops:List Oper):z2n ops (y5b tk ops)=true:=by
 cases tk
 ·exact y9b ops
 ·exact (z8l ops ops 0 (by omega)).2
theorem w1f {ops:Array Oper} {S:Nat→Bool} {l:List Nat} (hl:Ord ops S l):∀ (q:Nat),q≤ops.size→(∀ j,S j=true↔j<q)→(∀ (i:Nat) (o:Oper),ops.toList[i]?=some o→S i=true→∀ d∈z4q o,S d=true)→z2n ops.toList q=true→l=List.range' q (ops.size - q):=by
 induction hl with
 |nil S h=>
  intro q hq hS _ _
  have:¬ q<ops.size:=fun hlt=>by
   have:=(hS q).1 (h q hlt)
   omega
  rw [show ops.size - q=0 by omega]; rfl
 |cons S i o l hi ho hd h ih=>
  intro q hq hS hcl ht
  have hol:ops.toList[i]?=some o:=by rw [Array.getElem?_toList]; exact ho
  have hlt:i<ops.size:=(Array.getElem?_eq_some_iff.1 ho).1
  have hge:q≤i:=by
   rcases Nat.lt_or_ge i q with h|h
   ·rw [(hS i).2 h] at hi; cases hi
   ·exact h
  have hiq:i=q:=by
   rcases Nat.lt_or_ge q i with hlt2|h2
   ·have:=z2j hcl hol hd q (y2d ht (by simpa using hlt) hge hlt2)
    have:=(hS q).1 this
    omega
   ·omega
  subst hiq
  have:=ih (i+1) hlt (fun j=>by
   simp only [Bool.or_eq_true]
   constructor
   ·rintro (h|h)
    ·have:=(hS j).1 h; omega
    ·have:=Nat.eq_of_beq_eq_true h; omega
   ·intro h
    by_cases he:j=i
    ·subst he; exact .inr (Nat.beq_refl _)
    ·exact .inl ((hS j).2 (by omega))) (fun k p hk hSk d hdd=>by
   simp only [Bool.or_eq_true] at hSk⊢
   rcases hSk with h|h
   ·exact .inl (hcl k p hk h d hdd)
   ·have:=Nat.eq_of_beq_eq_true h
    subst this
    rw [hol] at hk; cases hk
    exact .inl (hd d hdd)) (by
   unfold z2n at ht⊢
   simp only [List.all_eq_true,List.mem_range,Bool.or_eq_true] at ht⊢
   intro k hk
   rcases ht k hk with h|h
   ·have:k<i:=Nat.le_of_ble_eq_true h
    exact .inl (Nat.ble_eq_true_of_le (by omega))
   ·exact .inr h)
  rw [this,show ops.size - i=(ops.size - (i+1))+1 by omega,List.range'_succ]
theorem x0r {T : TypeId → Option TI} (hm : P.follows .mixedOrders = true) (hT : z9t P T) {n : Nat} {idr : Nat} {ops : Array Oper} {s0 : AS} {Q : AX → AS → Prop} (hn : n ≤ s0.heap.length) (hind : y4l ops.toList = true) (hed : z63 ops.toList = true)
    {m : Nat} (hml : m ≤ ops.size) (hte : z2n ops.toList m = true) {K : AS → Prop} (hds : DS P T ops.toList s0.nt s0.heap.length K [] 0 (ops.toList.take m) s0)
    (hK : ∀ s1, K s1 → s1.nt = s0.nt → s0.heap.length ≤ s1.heap.length → z4v P n ops (List.range' m (ops.size - m)) s1 (Q .normal)) : z2u P n (.region idr ops true) s0 Q := ⟨by
  intro b k cs ρ tm ds w B h1 h2
  have htl : (ops.toList.take m).length = m := by rw [List.length_take]; simp; omega
  obtain ⟨recs, r1, r2, r3, r4⟩ := hds.recs (s0 := s0) [] (ops.toList.drop m) [] (by simp) rfl rfl rfl (by simp) rfl (fun j o hj => by omega) (fun j o hj => by omega)
  have hrl : recs.length = m := by
    rw [List.length_drop] at r1
    have : ops.toList.length = ops.size := Array.length_toList
    omega
  have htail : ∀ (i : Nat) (o : Oper), ops[i]? = some o → recs.length ≤ i → ∀ j, j < recs.length → (z7m (y18 ops.toList []) i).testBit j = true := by
    intro i o ho hi j hj
    exact y2d hte (by simpa using (Array.getElem?_eq_some_iff.1 ho).1) (by omega) (by omega)
  have hw := z0d.drawn h1.heap (w.drawn + 1) (z0x.succ _)
  have hxd := Ext.drawn (· < n) ρ s0.heap w (w.drawn + 1) (z0x.succ _)
  have hI : Inv P ops.toList s0 recs (fun _ => false) ρ tm { w with drawn := w.drawn + 1 } s0 :=
    { nt := rfl
      env := fun t => by
        have : ∀ m, y46 s0 ops.toList recs (fun _ => false) t m = z0r s0.env t := by
          intro m
          induction m with
          | zero => rfl
          | succ m ih => simp only [y46]; split <;> simp [ih]
        rw [this]
      heap := fun id => by
        have : ∀ m, y3m s0 ops.toList recs (fun _ => false) id m = z0e s0.heap id := by
          intro m
          induction m with
          | zero => rfl
          | succ m ih => simp only [y3m]; split <;> simp [ih]
        rw [this]
      st := ⟨hw, fun t => (h1.env t).keep hxd.keep (fun _ _ h => h), h1.size, h1.dom⟩
      dom := fun id h => .inl (h1.dom id h)
      turned := by simp
      closed := by simp }
  obtain ⟨s', ρ', tm', w', S', l', p1, p2, p3, p4, p5, p6, p7⟩ := y4v hT hind (by omega) (fun i o r ho hr => r2 i o r (by rw [Array.getElem?_toList]; exact ho) hr) (fun i o hi ho => r3 i o hi (by rw [Array.getElem?_toList]; exact ho)) htail (b := b) (k := k) (cs := cs) (ds := ds) (B := B) (z8r hed (w.tape w.drawn (.order b.fn idr))) (by simp) hI (h2.keep h1.heap hxd)
  have hl' := w1f p2 m hml (fun j => ⟨fun h => by have := p4 j h; omega, fun h => p3 j (by omega)⟩) p1.closed hte
  subst hl'
  have hE : ∀ t, z0r (stF s0 ops.toList recs recs.length).env t = z0r s'.env t := by
    intro t
    rw [p1.env t]
    exact (y1l _ _ _ _ t recs.length _ (by rw [hrl]; simpa using hml) (fun j o _ _ hj => p3 j hj) (fun j o _ _ hj _ => by
      cases hb : S' j with
      | false => rfl
      | true => have := p4 j hb; omega)).symm
  have hH : ∀ id, z0e s'.heap id = z0e (stF s0 ops.toList recs recs.length).heap id := by
    intro id
    rw [p1.heap id]
    exact y1k _ _ _ _ id recs.length _ (by rw [hrl]; simpa using hml) (fun j r _ _ hj => p3 j hj) (fun j r _ _ hj _ => by
      cases hb : S' j with
      | false => rfl
      | true => have := p4 j hb; omega)
  obtain ⟨q1, q2⟩ := x1p s0 ops.toList recs recs.length
  have hnt : (stF s0 ops.toList recs recs.length).nt = s0.nt := x2u _ _ _ _
  have hst : z10 P ρ' (stF s0 ops.toList recs recs.length) tm' w' :=
    ⟨p1.st.heap.ext hH, fun t => by rw [hE, ← z25 hH]; exact p1.st.env t, by rw [hnt, ← p1.nt]; exact p1.st.size, fun id hid => by
      rcases p1.dom id hid with h | ⟨j, r, a1, a2, a3, x, a4⟩
      · omega
      · have hj : j < ops.size := by have := (List.getElem?_eq_some_iff.1 a2).1; omega
        exact q2 j ops[j] r (p4 j a1) (by rw [Array.getElem?_toList]; exact Array.getElem?_eq_getElem hj) a2 id x a4⟩
  obtain ⟨s2, ρ2, tm2, w2, t1, t2, t3, t4, t5, t6⟩ := (hK _ r4 hnt q1).run b k cs ρ' tm' ds w' B hst p5
  refine ⟨.normal, s2, ρ2, tm2, ds, w2, t1, t2, t3, by rw [t4, hnt], ?_, ?_⟩
  · have e1 := p6.mono (S' := (· < n)) (fun id (hid : id < n) => by show id < s0.heap.length; omega)
    have e1' : Ext (· < n) ρ s0.heap { w with drawn := w.drawn + 1 } ρ' (stF s0 ops.toList recs recs.length).heap w' := ⟨e1.os, e1.tape, e1.output, by rw [← z25 hH]; exact e1.keep, e1.rho, e1.fr, e1.frs⟩
    exact hxd.trans (e1'.trans t5)
  · have hst := z60 (P := P) (b := b) (tm := tm) (ds := ds) (k := k) (cs := cs) (w := w) (id := idr) (ops := ops)
    rw [hm] at hst
    exact .head hst (p7.trans t6)⟩
end
end Go.Am
end
section
namespace Go.Am
structure SS where
 s:AS
 K:List (List CK)
def y2f (s:AS) (d:Nat) (v:AV):AS:=⟨z4w s.env d v,s.heap,s.nt⟩
def x3s (A:Alg) (β:Type) (all:List Oper) (s:AS) (g:Option (Nat×Bool)) (k:Bool→AS→A.Ω β):A.Ω β:=
 match g with
 |none=>k true s
 |some (j,want)=>match z2p all j with
  |some o=>match o.dst with
   |some d=>match z0r s.env d with
    | .d (.bool t)=>A.ask β t (k (true==want) (y2f s d (.d (.bool true)))) (k (false==want) (y2f s d (.d (.bool false))))
    | .tuple []=>k false s
    |_=>A.no β 21
   |none=>A.no β 22
  |none=>A.no β 23
def w7v (A:Alg) (β:Type) (s:AS) (x:Operand) (k:Bool→AS→A.Ω β):A.Ω β:=
 match x with
 | .tmp d=>match z0r s.env d with
  | .d (.bool t)=>A.ask β t (k true (y2f s d (.d (.bool true)))) (k false (y2f s d (.d (.bool false))))
  |_=>A.no β 24
 |x=>match z0n s.env x with
  | .d (.bool t)=>A.ask β t (k true s) (k false s)
  |_=>A.no β 25
structure Orc (A:Alg) where
 call:(β:Type)→Nat→List Bool→Nat→Nat→FuncId→List AV→SS→Option ((AV→SS→A.Ω β)→A.Ω β)
 pure:(β:Type)→Nat→List Bool→Nat→FuncId→List AV→SS→Option ((AV→A.Ω β)→A.Ω β)
 loop:(β:Type)→Nat→Nat→List Bool→SS→Option ((AX→SS→A.Ω β)→A.Ω β)
 join:(β:Type)→Nat→Nat→List Bool→((γ:Type)→(AX→SS→A.Ω γ)→A.Ω γ)→(AX→SS→A.Ω β)→A.Ω β
 view:(β:Type)→Nat→Nat→List Bool→SS→(SS→A.Ω β)→A.Ω β
abbrev x06 (A:Alg):=(β:Type)→Nat→Nat→List Bool→Code→SS→(AX→SS→A.Ω β)→A.Ω β
def x5x (A:Alg) (E:Env) (rec:x06 A) (β:Type) (g:FuncId) (args:List AV) (h:List AO) (K:List (List CK)) (k:AV→List AO→List (List CK)→A.Ω β):A.Ω β:=
 match E.B g with
 |some i=>bif Nat.ble args.length i.nt then rec β h.length g [] i.body ⟨⟨x8w 0 args,h,i.nt⟩,K⟩ fun e s=>match e with
  | .exit _=>A.no β 31
  |_=>match w8o E.T s.s i.res with
   |some r=>k r s.s.heap s.K
   |none=>A.no β 32
  else A.no β 33
 |none=>A.no β 34
def y8q (A:Alg) (E:Env) (O:Orc A) (rec:x06 A) (β:Type) (g0:Nat) (pos:List Bool) (ix n:Nat) (g:FuncId) (args:List AV) (ss:SS) (k:AV→SS→A.Ω β):A.Ω β:=
 match O.call β g0 pos ix n g args ss with
 |some t=>t k
 |none=>x5x A E rec β g args ss.s.heap ss.K fun r h K=>k r ⟨⟨ss.s.env,h,ss.s.nt⟩,K⟩
def w33 (new:Nat):List (Nat×AO)→Bool
 |[]=>false
 |(i,_)::l=>Nat.beq i new||w33 new l
def updK (E:Env) (K:List (List CK)) (new:Nat) (u:List (Nat×AO)) (op:Op):List (List CK):=
 match newK E op with
 |some ck=>bif w33 new u then v3z K new ck else K
 |none=>K
def y9q (A:Alg) (β:Type) (p:Prim) (kk:IntKind) (i:Int) (d:Nat) (s:AS) (k:AS→A.Ω β):Nat→Nat→A.Ω β
 |0,_=>A.no β 42
 |1,j=>A.need β (p.cmp .eql i (Int.ofNat j)) (k (y2f s d (.d (.int kk (Int.ofNat j)))))
 |m+2,j=>A.ask β (p.cmp .eql i (Int.ofNat j)) (k (y2f s d (.d (.int kk (Int.ofNat j))))) (y9q A β p kk i d s k (m+1) (j+1))
def u0i (E:Env):Op→Option (Nat×Nat)
 | .indexAddr t _ (.tmp d)=>match E.T t with
  |some ti=>match ti.desc with
   | .arr n _ _=>bif Nat.ble n 16 then some (d,n) else none
   |_=>none
  |none=>none
 | .index t _ (.tmp d)=>match E.T t with
  |some ti=>match ti.desc with
   | .arr n _ _=>bif Nat.ble n 16 then some (d,n) else none
   |_=>none
  |none=>none
 |_=>none
def v4j (s:AS):Op→Bool
 | .indexAddr _ x _=>match z0n s.env x with
  | .bptr id _=>match z0e s.heap id with
   | .row _=>true
   |_=>false
  | .wptr _ _=>true
  |_=>false
 |_=>false
def ixK (A:Alg) (β:Type) (p:Prim) (E:Env) (s:AS) (op:Op) (k:AS→A.Ω β):A.Ω β:=
 match bif v4j s op then none else u0i E op with
 |some (d,n)=>match z0r s.env d with
  | .d (.int kk i)=>y9q A β p kk i d s k n 0
  |_=>A.no β 43
 |none=>k s
def v6l (E:Env):List Oper→Bool
 |[]=>false
 |o::l=>match u0i E o.op with
  |some _=>true
  |none=>v6l E l
def w6z (a:Nat):List Oper→Bool
 |[]=>false
 |o::l=>match o.op,o.dst with
  | .indexAddr _ _ _,some d=>Nat.beq d a||w6z a l
  |_,_=>w6z a l
def y24 (d:Nat) (all:List Oper):List Oper→Bool
 |[]=>false
 |o::l=>match o.op with
  | .store _ (.tmp a) (.tmp x)=>(Nat.beq x d&&w6z a all)||y24 d all l
  |_=>y24 d all l
def w6y (d:Nat):List Operand→Bool
 |[]=>false
 | .tmp x::l=>Nat.beq x d||w6y d l
 |_::l=>w6y d l
def x3q (dt:FuncId→Bool) (d:Nat):List Oper→Bool
 |[]=>false
 |o::l=>match o.op with
  | .call ⟨.value (.func g),args,_⟩=>(dt g&&w6y d args.toList)||x3q dt d l
  |_=>x3q dt d l
def x75 (d:Nat):List (Nat×Operand)→Bool
 |[]=>false
 |(_, .tmp x)::l=>Nat.beq x d||x75 d l
 |_::l=>x75 d l
def y9z (rec:Nat→Bool) (d:Nat):List Oper→Bool
 |[]=>false
 |o::l=>match o.op,o.dst with
  | .buildSlice _ _ ps,some d2=>(x75 d ps.toList&&rec d2)||y9z rec d l
  |_,_=>y9z rec d l
def x16 (dt:FuncId→Bool) (all:List Oper):Nat→Nat→Bool
 |0,d=>x3q dt d all
 |f+1,d=>x3q dt d all||y9z (x16 dt all f) d all
def w2t (dt:FuncId→Bool) (all:List Oper) (o:Oper):Bool:=
 match o.op,o.dst with
 | .buildSlice _ (_+1) _,some d=>x16 dt all 2 d||(dt 1000000&&y9z (fun _=>true) d all)
 | .call ⟨.builtin .append,_,_⟩,some d=>y24 d all all
 | .buildSlice _ 0 _,some d=>y24 d all all||x16 dt all 2 d||(dt 1000000&&y9z (fun _=>true) d all)
 |_,_=>false
def y6b (A:Alg) (β:Type) (p:Prim) (dt:Bool) (E:Env) (new:Nat) (ss:SS) (o:Oper) (k:SS→A.Ω β):A.Ω β:=
 ixK A β p E ss.s o.op fun s=>w7g A β p dt E ss.K s.env s.heap o.op fun q r ra=>match z0j p E.T s.env s.heap new q r ra o.op with
  |some res=>A.need β res.c (k ⟨z5p s o.dst res.v res.u,updK E ss.K new res.u o.op⟩)
  |none=>A.no β 41
def opK (A:Alg) (p:Prim) (E:Env) (O:Orc A) (rec:x06 A) (β:Type) (n g0:Nat) (pos:List Bool) (ix:Nat) (all:List Oper) (ss0:SS) (o:Oper) (k:SS→A.Ω β):A.Ω β:=
 bif z4x ss0.s.nt o.dst then
  x3s A β all ss0.s o.guard fun b s=>match b with
  |false=>k ⟨z5p s o.dst (.tuple []) [],ss0.K⟩
  |true=>match o.op with
   | .call ⟨.value f,args,_⟩=>match z0n s.env f with
    | .clo (.func g) first captured=>y8q A E O rec β g0 pos ix n g (first++z1u s.env args.toList++captured) ⟨s,ss0.K⟩ fun r s1=>k ⟨⟨y26 s1.s.env o.dst r,s1.s.heap,s1.s.nt⟩,s1.K⟩
    | .yld id=>match z0e s.heap id with
     | .loop .ready pd g pos nt env=>match E.A g pos with
      |some (.rangeFunc _ ps asg body)=>bif (ps.toList.all fun q=>Nat.blt q nt)&&Nat.beq args.size ps.size then
        rec β s.heap.length g (false::pos) asg ⟨⟨y7q env ps.toList (z1u s.env args.toList),z0o s.heap id .dead,nt⟩,ss0.K⟩ fun e1 s1=>match e1 with
        | .normal=>rec β s.heap.length g (true::pos) body s1 fun e2 s2=>k ⟨⟨y26 s.env o.dst (.d (.bool (isN e2))),z0o s2.s.heap id (.loop (y5h e2) (z3r e2) g pos nt env),s.nt⟩,s2.K⟩
        |_=>A.no β 51
       else A.no β 52
      |_=>A.no β 53
     |_=>A.no β 54
    |_=>A.no β 55
   |_=>y6b A β p (w2t E.dt all o) E s.heap.length ⟨s,ss0.K⟩ o k
 else A.no β 56
def w3y (A:Alg) (p:Prim) (E:Env) (O:Orc A) (rec:x06 A) (β:Type) (n g0:Nat) (pos:List Bool) (all:List Oper):Nat→List Oper→SS→(SS→A.Ω β)→A.Ω β
 |_,[],s,k=>k s
 |i,o::l,s,k=>opK A p E O rec β n g0 pos i all s o fun s'=>w3y A p E O rec β n g0 pos all (i+1) l s' k
def x7r (ops:List Oper) (base i:Nat) (l:List Nat):Bool:=l.all fun id=>Nat.blt id base||(Nat.blt (id - base) i&&(z7m (y18 ops []) i).testBit (id - base))
def v4q (A:Alg) (p:Prim) (E:Env) (O:Orc A) (rec:x06 A) (β:Type) (g0:Nat) (pos:List Bool) (all:List Oper) (base i:Nat) (ss0:SS) (o:Oper) (k:SS→A.Ω β):A.Ω β:=
 bif z4x ss0.s.nt o.dst then
  x3s A β all ss0.s o.guard fun b s=>match b with
  |false=>k ⟨z5p s o.dst (.tuple []) [],ss0.K⟩
  |true=>bif x7r all base i (z68 s.env o.op) then match o.op with
   | .call ⟨.value f,args,_⟩=>match z0n s.env f with
    | .clo (.func g) first captured=>match O.pure β g0 pos i g (first++z1u s.env args.toList++captured) ⟨s,ss0.K⟩ with
     |some t=>bif y0i (first++captured) then t fun x=>k ⟨z5p s o.dst x [],ss0.K⟩ else A.no β 61
     |none=>bif y0i (first++z1u s.env args.toList++captured) then x5x A E rec β g (first++z1u s.env args.toList++captured) [] [] fun r h _=>
       bif z8w (z36 h (fun _=>false) r) then k ⟨z5p s o.dst (z36 h (fun _=>false) r) [],ss0.K⟩ else A.no β 62
      else A.need β (bL p s.heap (first++z1u s.env args.toList++captured)).1 (match O.pure β g0 pos i g (bL p s.heap (first++z1u s.env args.toList++captured)).2 ⟨s,ss0.K⟩ with
       |some t=>bif y0i (bL p s.heap (first++z1u s.env args.toList++captured)).2 then t fun x=>bif y1w x then k ⟨z5p s o.dst x [],ss0.K⟩ else A.no β 63 else A.no β 67
       |none=>x5x A E rec β g (bL p s.heap (first++z1u s.env args.toList++captured)).2 [] [] fun r h _=>
        bif y1w (z36 h (fun _=>false) r) then k ⟨z5p s o.dst (z36 h (fun _=>false) r) [],ss0.K⟩ else A.no β 68)
    |_=>A.no β 64
   |_=>y6b A β p (w2t E.dt all o) E (base+i) ⟨s,ss0.K⟩ o k
   else A.no β 65
 else A.no β 66
def x1u (A:Alg) (p:Prim) (E:Env) (O:Orc A) (rec:x06 A) (β:Type) (g0:Nat) (pos:List Bool) (all:List Oper) (base:Nat):List (List Nat)→Nat→List Oper→SS→(SS→A.Ω β)→A.Ω β
 |_,_,[],s,k=>k s
 |acc,i,o::l,s,k=>bif y90 all acc i o (z68 s.s.env o.op) then v4q A p E O rec β g0 pos all base i s o fun s'=>x1u A p E O rec β g0 pos all base (acc++[z68 s.s.env o.op]) (i+1) l s' k else A.no β 69
def x18:List Oper→Bool
 |[]=>false
 |o::l=>match o.guard with
  |some _=>true
  |none=>x18 l
def v6s (A:Alg) (β:Type) (p:Prim) (E:Env) (x:x59) (ss:SS) (k:SS→A.Ω β):A.Ω β:=
 match z0r ss.s.env x.a,z0r ss.s.env x.b,z0n ss.s.env (.const x.c) with
 | .map id, .d kd, .d (.int kc n)=>match z0e ss.s.heap id,E.T x.t with
  | .map es,some ti=>match ti.desc,z9w x.bop with
   | .map _ _ ez, .arith=>x5o A β p E x.t ss.s.heap (.map id) (.d kd) fun q r _=>match z59 q r ez with
    | .int ko o=>bif (ko==kc)&&(Nat.blt x.dL ss.s.nt&&(Nat.blt x.dB ss.s.nt&&(Nat.blt x.dM ss.s.nt&&(Nat.blt x.dX ss.s.nt&&Nat.blt id ss.s.heap.length)))) then
      k ⟨x5m x ss.s id (.int ko o) (.int ko (p.ar x.bop ko o n)) (v3t p es q r kd (.int ko (p.ar x.bop ko o n))),ss.K⟩ else A.no β 74
    |_=>A.no β 75
   |_,_=>A.no β 76
  |_,_=>A.no β 77
 |_,_,_=>A.no β 78
def sym (A:Alg) (p:Prim) (E:Env) (O:Orc A):Nat→x06 A
 |0,β,_,_,_,_,_,_=>A.no β 71
 |f+1,β,n,g,pos,c,ss,k=>match c with
  | .skip=>k .normal ss
  | .label _=>k .normal ss
  | .exit id=>k (.exit id) ss
  | .ret=>k .ret ss
  | .seq a b=>sym A p E O f β n g (false::pos) a ss fun e s'=>match e with
   | .normal=>sym A p E O f β n g (true::pos) b s' k
   |e=>k e s'
  | .cond c a b=>O.join β n g pos (fun γ k=>w7v A γ ss.s c fun x s=>match x with
   |true=>sym A p E O f γ n g (false::pos) a ⟨s,ss.K⟩ k
   |false=>sym A p E O f γ n g (true::pos) b ⟨s,ss.K⟩ k) k
  | .block id c=>O.join β n g pos (fun γ k=>sym A p E O f γ n g (false::pos) c ss fun e s'=>match e with
   | .exit j=>bif Nat.beq j id then k .normal s' else k (.exit j) s'
   |e=>k e s') k
  | .scope c=>sym A p E O f β n g (false::pos) c ss k
  | .loop c=>match O.loop β n g pos ss with
   |some t=>t k
   |none=>sym A p E O f β n g (false::pos) c ss fun e s'=>match e with
    | .normal=>sym A p E O f β n g pos (.loop c) s' k
    |e=>k e s'
  | .region _ ops false=>bif x18 ops.toList||v6l E ops.toList then O.join β n g pos (fun γ k=>O.view γ n g pos ss fun ss=>w3y A p E O (sym A p E O f) γ n g pos ops.toList 0 ops.toList ss fun s'=>k .normal s') k
    else O.view β n g pos ss fun ss=>w3y A p E O (sym A p E O f) β n g pos ops.toList 0 ops.toList ss fun s'=>k .normal s'
  | .region _ ops true=>bif y4l ops.toList&&z63 ops.toList then O.view β n g pos ss fun ss=>match w65 ops.toList with
    |none=>bif E.tl then x1u A p E O (sym A p E O f) β g pos ops.toList ss.s.heap.length [] 0 (ops.toList.take (y5b E.tk ops.toList)) ss fun s1=>
       w3y A p E O (sym A p E O f) β n g pos ops.toList (y5b E.tk ops.toList) (ops.toList.drop (y5b E.tk ops.toList)) s1 fun s'=>k .normal s'
      else x1u A p E O (sym A p E O f) β g pos ops.toList ss.s.heap.length [] 0 ops.toList ss fun s'=>k .normal s'
    |some (pre,x)=>bif y3b ops.toList then x1u A p E O (sym A p E O f) β g pos ops.toList ss.s.heap.length [] 0 pre ss fun s'=>v6s A β p E x s' fun s''=>k .normal s'' else A.no β 79
   else A.no β 72
  | .rangeFunc fo ps asg body=>match z0n ss.s.env fo with
   | .clo (.func g') first captured=>y8q A E O (sym A p E O f) β g pos 0 (ss.s.heap.length+1) g' (first++[.yld ss.s.heap.length]++captured) ⟨⟨ss.s.env,z0o ss.s.heap ss.s.heap.length (.loop .ready none g pos ss.s.nt ss.s.env),ss.s.nt⟩,ss.K⟩ fun _ sc=>
    match z0e sc.s.heap ss.s.heap.length with
    | .loop st pd _ _ _ _=>match st with
     | .busy=>A.no β 73
     |_=>match z6g sc.s (z0o sc.s.heap ss.s.heap.length .dead) pd with
      |some (e,s')=>k e ⟨s',sc.K⟩
      |none=>A.no β 74
    |_=>A.no β 75
   |_=>A.no β 76
  |_=>A.no β 77
structure y22 (P:Program) (E:Env):Prop where
 ti:z9t P E.T
 fn:∀ g i,E.B g=some i→∃ fn,P.funcs[g]?=some fn∧fn.body=some i.body∧fn.ntmps=i.nt∧fn.results.toList=i.res∧z13 P g
 code:∀ g pos c,E.A g pos=some c→z07 P g pos=some c
 mixed:P.follows .mixedOrders=true
theorem y3e {E:Env} {β:Type} {t:TypeId} {h:List AO} {m k:AV} {c:Bool→List D→List AV→Option β} {b:β} (hx:x5o opt β std E t h m k c=some b):∃ q r ra,(z9r std E.T t h m k).ok q r ra∧c q r ra=some b:=by
 unfold x5o at hx
 unfold z9r
 split at hx
 ·rename_i ti hti
  simp only [hti]
  split at hx
  ·rename_i ks ka ez kd hdesc
   split at hx
   ·obtain ⟨hc,hx⟩:=z5g hx
    refine ⟨false,[],[], .inl ⟨?_,rfl⟩,hx⟩
    simp only [z3b,hdesc,hc,cond_true]
   ·rename_i id
    split at hx
    ·rename_i es hob
     obtain ⟨hc,hx⟩:=z5g hx
     simp only [std,Bool.and_eq_true] at hc
     obtain ⟨⟨hk1,hk2⟩,hc⟩:=hc
     have hfm:z3b std ti h (.map id) (.d kd)=y4o ks ka kd es 0:=by
      simp only [z3b,hdesc,hob,hk1,hk2,Bool.and_self,cond_true,x3u]
     rcases z9o hx with ⟨hh,hx⟩|⟨hh,hx⟩
     ·refine ⟨_,_,_, .inr ?_,hx⟩
      simp only [std,x6e] at hh
      cases hq:y4o ks ka kd es 0 with
      |none=>rw [hq] at hh; simp at hh
      |some r=>
       cases r with
       |none=>rw [hq] at hh; simp at hh
       |some q=>
        obtain ⟨i,v⟩:=q
        rw [hq] at hc
        simp only [Bool.and_eq_true,beq_iff_eq] at hc
        obtain ⟨ha,hc⟩:=hc
        have hmg:x6e es ks ka kd=some (i,v):=by simp [x6e,hq]
        refine ⟨i,v,mkV (E.CM t).1 (x7v std es ks ka kd 0 (E.CM t).2),by rw [hfm,hq],?_,rfl,?_⟩
        ·obtain ⟨h1,h2⟩:=y0l _ _ hc
         obtain ⟨m1,m2⟩:=x3h std es ks ka kd (E.CM t).2 0
         have hrow:x2n (z01 v) (x7v std es ks ka kd 0 (E.CM t).2):=by
          refine ⟨by rw [m1,h1],fun j y hy=>?_⟩
          obtain ⟨c,hcc,rfl⟩:=m2 j y hy
          obtain ⟨d,hd,hcd⟩:=h2 j c hcc
          refine ⟨d,hd,x0w hcd ?_⟩
          rw [Nat.zero_add]
          have e:y5k es ks ka kd j=d:=by simp [y5k,hmg,hd]
          cases c<;>simp only [v5h,v4p,std,e]
         cases v with
         |agg l=>
          have:(E.CM t).1=true:=by rw [←ha]; rfl
          rw [this]
          exact .inr ⟨l,_,rfl,rfl,hrow⟩
         |_=>
          have:(E.CM t).1=false:=by rw [←ha]; rfl
          rw [this]
          simp only [z01] at hrow
          obtain ⟨r1,r2⟩:=hrow
          match hm:x7v std es ks ka kd 0 (E.CM t).2,r1 with
          |[y],_=>
           obtain ⟨x,hx,hle⟩:=r2 0 y (by rw [hm]; rfl)
           simp at hx; subst hx
           exact .inl hle
        ·simp [std,hmg]
     ·refine ⟨_,_,_, .inl ?_,hx⟩
      simp only [std,x6e] at hh
      cases hq:y4o ks ka kd es 0 with
      |none=>rw [hq] at hc; simp at hc
      |some r=>
       cases r with
       |none=>exact ⟨by rw [hfm,hq],rfl⟩
       |some q=>rw [hq] at hh; simp at hh
    ·cases hx
   ·cases hx
  ·cases hx
 ·cases hx
theorem x3v {β:Type} {ck:List CK} {es:List (List D)} {i:Nat} {b:β}:∀ (n j:Nat) (c:List D→Option β),w2c opt β std ck es i c n j=some b→∃ r,y45 es (i+j) r∧c r=some b
 |0,j,c,h=>⟨[],fun k x hx=>by simp at hx,h⟩
 |n+1,j,c,h=>by
  have e:(bif Nat.beq j 0 then i else std.add i j)=i+j:=by
   cases hb:Nat.beq j 0 with
   |true=>have:=Nat.eq_of_beq_eq_true hb; subst this; rfl
   |false=>rfl
  simp only [w2c,e] at h
  split at h
  ·rename_i x hx
   obtain ⟨hc,h⟩:=z5g h
   have hr:=x20 hc
   rw [hx] at hr
   obtain ⟨r,h1,h2⟩:=x3v n (j+1) _ h
   refine ⟨x::r,fun k y hy=>?_,h2⟩
   cases k with
   |zero=>simp at hy; subst hy; exact hr
   |succ k=>rw [show i+j+(k+1)=i+(j+1)+k by omega]; exact h1 k y (by simpa using hy)
  ·cases h
theorem w2b {β:Type} {dt:Bool} {ck:List CK} {w:y3h} {c:Bool→List D→List AV→Option β} {b:β} (hx:w7f opt β std dt ck w c=some b):∃ q r ra,w.ok q r ra∧c q r ra=some b:=by
 unfold w7f at hx
 split at hx
 ·exact ⟨_,_,_,trivial,hx⟩
 ·split at hx
  ·obtain ⟨hc,hx⟩:=z5g hx
   exact ⟨_,_,_,x20 hc,hx⟩
  ·split at hx
   ·rename_i r hr
    rw [z12] at hr
    exact ⟨_,_,_,⟨r,hr, .refl _⟩,hx⟩
   ·cases hx
 ·split at hx
  ·obtain ⟨r,h1,h2⟩:=x3v _ _ _ hx
   exact ⟨_,_,_,h1,h2⟩
  ·cases hx
 ·split at hx
  ·rename_i r hr
   rw [z12] at hr
   exact ⟨_,_,_,hr,hx⟩
  ·cases hx
 ·rcases z9o hx with ⟨hb,hx⟩|⟨hb,hx⟩
  ·exact ⟨_,_,_,hb,hx⟩
  ·exact ⟨_,_,_,hb,hx⟩
 ·cases hx
theorem w2d {dt:Bool} {E:Env} {β:Type} {K:List (List CK)} {env:List (Nat×AV)} {h:List AO} {op:Op} {c:Bool→List D→List AV→Option β} {b:β} (hx:w7g opt β std dt E K env h op c=some b):∃ q r ra,(z1b std E.T env h op).ok q r ra∧c q r ra=some b:=by
 unfold w7g at hx
 split at hx
 ·exact y3e hx
 ·exact y3e hx
 ·split at hx
  ·rename_i t _ m k h1 h2
   simp only [z1b,h1,h2]
   exact y3e hx
  ·cases hx
 ·exact w2b hx
theorem x69:∀ (env:List (Nat×AV)) (d:Nat) (v:AV),z0r env d=v→v≠ .bot→z4w env d v=env:=by
 intro env
 induction env with
 |nil=>intro d v h hv; simp [z0r] at h; exact absurd h.symm hv
 |cons x env ih=>
  intro d v h hv
  obtain ⟨k,w⟩:=x
  simp only [z0r] at h
  simp only [z4w]
  cases hb:Nat.beq k d with
  |true=>rw [hb] at h; simp at h; subst h; rfl
  |false=>rw [hb] at h; simp at h; simp [ih d v h hv]
theorem z55 {s:AS} {d:Nat} {v:AV} (h:z0r s.env d=v) (hv:v≠ .bot):y2f s d v=s:=by
 unfold y2f; rw [x69 _ _ _ h hv]
theorem x0e {β:Type} {all:List Oper} {s:AS} {g:Option (Nat×Bool)} {k:Bool→AS→Option β} {b:β} (h:x3s opt β all s g k=some b):∃ x,z6c all s.env g=some x∧k x s=some b:=by
 unfold x3s at h
 split at h
 ·exact ⟨true,rfl,h⟩
 ·rename_i j want
  simp only [z6c]
  cases ho:z2p all j with
  |none=>rw [ho] at h; cases h
  |some o=>
   rw [ho] at h
   simp only at h⊢
   cases hd:o.dst with
   |none=>rw [hd] at h; cases h
   |some d=>
    rw [hd] at h
    simp only at h⊢
    cases ht:z0r s.env d with
    |d y=>
     rw [ht] at h
     cases y with
     |bool t=>
      rcases z9o h with ⟨e,h⟩|⟨e,h⟩
      ·subst e; rw [z55 ht (by simp)] at h; exact ⟨_,rfl,h⟩
      ·subst e; rw [z55 ht (by simp)] at h; exact ⟨_,rfl,h⟩
     |_=>cases h
    |tuple l=>
     rw [ht] at h
     cases l with
     |nil=>exact ⟨_,rfl,h⟩
     |cons _ _=>cases h
    |_=>rw [ht] at h; cases h
theorem y9p {β:Type} {kk:IntKind} {i:Int} {d:Nat} {s:AS} {k:AS→Option β} {b:β} (he:z0r s.env d= .d (.int kk i)):∀ {n j:Nat},y9q opt β std kk i d s k n j=some b→k s=some b
 |0,_,h=>by cases h
 |1,j,h=>by
  simp only [y9q] at h
  obtain ⟨hc,h⟩:=z5g h
  have:i=Int.ofNat j:=by simpa [std,z54] using hc
  rw [←this,z55 he (by simp)] at h; exact h
 |m+2,j,h=>by
  simp only [y9q] at h
  rcases z9o h with ⟨hc,h⟩|⟨_,h⟩
  ·have:i=Int.ofNat j:=by simpa [std,z54] using hc
   rw [←this,z55 he (by simp)] at h; exact h
  ·exact y9p he h
theorem w95 {β:Type} {E:Env} {s:AS} {op:Op} {k:AS→Option β} {b:β} (h:ixK opt β std E s op k=some b):k s=some b:=by
 unfold ixK at h
 split at h
 ·split at h
  ·rename_i kk i he
   exact y9p he h
  ·cases h
 ·exact h
theorem w23 {β:Type} {s:AS} {c:Operand} {k:Bool→AS→Option β} {b:β} (h:w7v opt β s c k=some b):∃ x,z0n s.env c= .d (.bool x)∧k x s=some b:=by
 unfold w7v at h
 split at h
 ·rename_i d
  split at h
  ·rename_i t ht
   rcases z9o h with ⟨e,h⟩|⟨e,h⟩<;>subst e<;>rw [z55 ht (by simp)] at h<;>exact ⟨_,ht,h⟩
  ·cases h
 ·split at h
  ·rename_i t ht
   rcases z9o h with ⟨e,h⟩|⟨e,h⟩<;>subst e<;>exact ⟨_,ht,h⟩
  ·cases h
section
variable {P:Program} {E:Env} {O:Orc opt}
def x07 (P:Program) (rec:x06 opt):Prop:=∀ β n g pos c ss k (b:β),z07 P g pos=some c→n≤ss.s.heap.length→rec β n g pos c ss k=some b→∃ e ss',n≤ss'.s.heap.length∧z2u P n c ss.s (fun e' s2=>e'=e∧s2=ss'.s)∧k e ss'=some b
structure y43 (P:Program) (O:Orc opt):Prop where
 call:∀ β g0 pos ix n g args ss t k (b:β),O.call β g0 pos ix n g args ss=some t→t k=some b→n≤ss.s.heap.length→∃ r ss',n≤ss'.s.heap.length∧z13 P g∧z4f P n g args ss.s r ss'.s∧k r ss'=some b
 pure:∀ β g0 pos ix g args ss t k (b:β),O.pure β g0 pos ix g args ss=some t→t k=some b→∃ r,z13 P g∧(∀ h,(∀ x∈args,∀ id∈tid x,z0e h id=z0e ss.s.heap id)→z6m P g args h r h)∧k r=some b
 loop:∀ β n g pos c ss t k (b:β),z07 P g pos=some (.loop c)→n≤ss.s.heap.length→O.loop β n g pos ss=some t→t k=some b→∃ e ss',n≤ss'.s.heap.length∧z2u P n (.loop c) ss.s (fun e' s2=>e'=e∧s2=ss'.s)∧k e ss'=some b
 join:∀ β n g pos body k (b:β) (G:AX→SS→Prop),(∀ γ k (b:γ),body γ k=some b→∃ e ss',G e ss'∧k e ss'=some b)→O.join β n g pos body k=some b→∃ e ss1 ss',G e ss1∧z2a n ss1.s ss'.s∧(n≤ss1.s.heap.length→n≤ss'.s.heap.length)∧k e ss'=some b
 view:∀ β n g pos ss k (b:β),n≤ss.s.heap.length→O.view β n g pos ss k=some b→∃ ss',z2a n ss.s ss'.s∧n≤ss'.s.heap.length∧k ss'=some b
theorem y3g (ht:y22 P E) {rec:x06 opt} (hr:x07 P rec) {β:Type} {g:FuncId} {args:List AV} {h:List AO} {K:List (List CK)} {k:AV→List AO→List (List CK)→Option β} {b:β} (hc:x5x opt E rec β g args h K k=some b):
  ∃ r h' K',z6m P g args h r h'∧h.length≤h'.length∧z13 P g∧k r h' K'=some b:=by
 unfold x5x at hc
 split at hc
 ·rename_i i hi
  cases hb:Nat.ble args.length i.nt with
  |false=>rw [hb] at hc; cases hc
  |true=>
  rw [hb] at hc
  have hle:=Nat.le_of_ble_eq_true hb
  obtain ⟨fn,f1,f2,f3,f4,f5⟩:=ht.fn g i hi
  have hcode:z07 P g []=some i.body:=by simp [z07,w4m,f1,f2]
  obtain ⟨e,ss,l1,l2,hc⟩:=hr β h.length _ _ _ ⟨⟨x8w 0 args,h,i.nt⟩,K⟩ _ _ hcode (Nat.le_refl _) hc
  have fin:∀ r,(e= .normal∨e= .ret)→w8o E.T ss.s i.res=some r→z6m P g args h r ss.s.heap:=by
   intro r he hres
   refine z23 ht.ti f1 f2 f3 hle (l2.mono fun e' s2 hq=>?_)
   obtain ⟨rfl,rfl⟩:=hq
   exact ⟨he,by rw [f4]; exact hres,rfl⟩
  cases e with
  |exit j=>cases hc
  |normal=>
   simp only at hc
   split at hc
   ·rename_i r' hres
    exact ⟨_,_,_,fin _ (.inl rfl) hres,l1,f5,hc⟩
   ·cases hc
  |ret=>
   simp only at hc
   split at hc
   ·rename_i r' hres
    exact ⟨_,_,_,fin _ (.inr rfl) hres,l1,f5,hc⟩
   ·cases hc
 ·cases hc
theorem y64 (ht:y22 P E) (hO:y43 P O) {rec:x06 opt} (hr:x07 P rec) {β:Type} {g0:Nat} {pos:List Bool} {ix n:Nat} {g:FuncId} {args:List AV} {ss:SS} {k:AV→SS→Option β} {b:β} (hn:n≤ss.s.heap.length) (hc:y8q opt E O rec β g0 pos ix n g args ss k=some b):
  ∃ r ss',n≤ss'.s.heap.length∧z13 P g∧z4f P n g args ss.s r ss'.s∧k r ss'=some b:=by
 unfold y8q at hc
 split at hc
 ·rename_i t ht'
  exact hO.call _ _ _ _ _ _ _ _ _ _ _ ht' hc hn
 ·obtain ⟨r,h',K',c1,c2,c3,hc⟩:=y3g ht hr hc
  exact ⟨r,⟨⟨ss.s.env,h',ss.s.nt⟩,K'⟩,Nat.le_trans hn c2,c3, .of_aret hn c1,hc⟩
theorem y9y {β:Type} {dt:Bool} {new:Nat} {ss:SS} {o:Oper} {k:SS→Option β} {b:β} (h:y6b opt β std dt E new ss o k=some b):∃ q r ra res ss',(z1b std E.T ss.s.env ss.s.heap o.op).ok q r ra∧z0j std E.T ss.s.env ss.s.heap new q r ra o.op=some res∧res.c=true∧ss'.s=z5p ss.s o.dst res.v res.u∧k ss'=some b:=by
 unfold y6b at h
 replace h:=w95 h
 obtain ⟨q,r,ra,hw,h⟩:=w2d h
 split at h
 ·rename_i res hres
  obtain ⟨hc,h⟩:=z5g h
  exact ⟨q,r,ra,res,_,hw,hres,hc,rfl,h⟩
 ·cases h
theorem z4v.mono {n:Nat} {ops:Array Oper} {l:List Nat} {s:AS} {Q Q':AS→Prop} (h:z4v P n ops l s Q) (hq:∀ s,Q s→Q' s):z4v P n ops l s Q':=
 ⟨fun b k cs ρ tm ds w B h1 h2=>let ⟨s',ρ',tm',w',q,r⟩:=h.run b k cs ρ tm ds w B h1 h2; ⟨s',ρ',tm',w',hq _ q,r⟩⟩
theorem w9d (ht:y22 P E) (hO:y43 P O) {rec:x06 opt} (hr:x07 P rec) {β:Type} {n:Nat} {ops:Array Oper} {i:Nat} {rest:List Nat} {g0:Nat} {pos:List Bool} {ix:Nat} {ss:SS} {o:Oper} {k:SS→Option β} {b:β} (ho:ops[i]?=some o) (hn:n≤ss.s.heap.length)
  (hs:opK opt std E O rec β n g0 pos ix ops.toList ss o k=some b):∃ ss',n≤ss'.s.heap.length∧(∀ Q,z4v P n ops rest ss'.s Q→z4v P n ops (i::rest) ss.s Q)∧k ss'=some b:=by
 unfold opK at hs
 cases hd:z4x ss.s.nt o.dst with
 |false=>rw [hd] at hs; cases hs
 |true=>
 rw [hd] at hs
 simp only [cond_true] at hs
 obtain ⟨x,hg,hs⟩:=x0e hs
 cases x with
 |false=>exact ⟨⟨z5p ss.s o.dst (.tuple []) [],ss.K⟩,hn,fun Q h=>x7n ho hg hd h,hs⟩
 |true=>
  have plain:y6b opt β std (w2t E.dt ops.toList o) E ss.s.heap.length ⟨ss.s,ss.K⟩ o k=some b→∃ ss',n≤ss'.s.heap.length∧(∀ Q,z4v P n ops rest ss'.s Q→z4v P n ops (i::rest) ss.s Q)∧k ss'=some b:=by
   intro hp
   obtain ⟨q,r,ra,res,ss',hw,hst,hc,he,hk⟩:=y9y hp
   have hl:n≤ss'.s.heap.length:=by rw [he]; exact Nat.le_trans hn (z4o res.u ss.s.heap).1
   refine ⟨ss',hl,fun Q h=>y4b ht.ti ho hg hn hw hst hc hd ?_,hk⟩
   rw [he] at h; exact h
  simp only at hs
  split at hs
  ·rename_i f args ts hop
   split at hs
   ·rename_i g first captured hf
    obtain ⟨r,s1,c1,c2,c3,hs⟩:=y64 ht hO hr hn hs
    exact ⟨⟨⟨y26 s1.s.env o.dst r,s1.s.heap,s1.s.nt⟩,s1.K⟩,c1,fun Q h=>y1t ho hg hop hf c2 c3 hd h,hs⟩
   ·rename_i id hf
    split at hs
    ·rename_i pd g pos' nt env hob
     split at hs
     ·rename_i x0 ps asg body hcode
      have hcode:=ht.code _ _ _ hcode
      cases hb:(ps.toList.all fun q=>Nat.blt q nt)&&Nat.beq args.size ps.size with
      |false=>rw [hb] at hs; cases hs
      |true=>
      rw [hb] at hs
      simp only [Bool.and_eq_true] at hb
      have hca:z07 P g (false::pos')=some asg:=by simp [z07,hcode,w82]
      have hcb:z07 P g (true::pos')=some body:=by simp [z07,hcode,w82]
      have hidlt:∀ (id:Nat),ss.s.heap.length≤(z0o ss.s.heap id .dead).length:=fun id=>(z11 ss.s.heap id .dead).1
      obtain ⟨e1,s1,a1,a2,hs⟩:=hr _ _ _ _ _ _ _ _ hca (hidlt id) hs
      cases e1 with
      |exit j=>cases hs
      |ret=>cases hs
      |normal=>
       simp only at hs
       obtain ⟨e2,s2,b1,b2,hs⟩:=hr _ _ _ _ _ _ _ _ hcb a1 hs
       have hl:n≤(z0o s2.s.heap id (.loop (y5h e2) (z3r e2) g pos' nt env)).length:=Nat.le_trans hn (Nat.le_trans b1 (z11 _ _ _).1)
       refine ⟨⟨⟨y26 ss.s.env o.dst (.d (.bool (isN e2))),z0o s2.s.heap id (.loop (y5h e2) (z3r e2) g pos' nt env),ss.s.nt⟩,s2.K⟩,hl,fun Q h=>y6e ho hg hn hop hf hob hcode (fun q hq=>Nat.le_of_ble_eq_true (List.all_eq_true.1 hb.1 q hq)) (Nat.eq_of_beq_eq_true hb.2) hd (a2.mono fun e s hq=>?_),hs⟩
       obtain ⟨rfl,rfl⟩:=hq
       refine ⟨rfl,b2.mono fun e s hq=>?_⟩
       obtain ⟨rfl,rfl⟩:=hq
       exact ⟨b1,h⟩
     ·cases hs
    ·cases hs
   ·cases hs
  ·exact plain hs
theorem x7o (ht:y22 P E) (hO:y43 P O) {rec:x06 opt} (hr:x07 P rec) {β:Type} {n:Nat} {ops:Array Oper} {g0:Nat} {pos:List Bool} {k:SS→Option β} {b:β}:∀ (l:List Oper) (i:Nat) (ss:SS),(∀ j o,l[j]?=some o→ops[i+j]?=some o)→n≤ss.s.heap.length→w3y opt std E O rec β n g0 pos ops.toList i l ss k=some b→
  ∃ ss',n≤ss'.s.heap.length∧z4v P n ops (List.range' i l.length) ss.s (fun s2=>s2=ss'.s)∧k ss'=some b:=by
 intro l
 induction l with
 |nil=>
  intro i ss hl hn hs
  simp only [w3y] at hs
  exact ⟨ss,hn,z1w rfl,hs⟩
 |cons o l ih=>
  intro i ss hl hn hs
  simp only [w3y] at hs
  have ho:ops[i]?=some o:=by simpa using hl 0 o rfl
  obtain ⟨s1,hlen,h1,hs⟩:=w9d (rest:=List.range' (i+1) l.length) ht hO hr ho hn hs
  obtain ⟨ss',l1,l2,hs⟩:=ih (i+1) s1 (fun j p hp=>by have:=hl (j+1) p (by simpa using hp); rw [show i+1+j=i+(j+1) by omega]; exact this) hlen hs
  refine ⟨ss',l1,?_,hs⟩
  rw [List.length_cons,List.range'_succ]
  exact h1 _ l2
theorem x7q {ops:List Oper} {base i:Nat} {l:List Nat} (h:x7r ops base i l=true):x5a ops base i l:=by
 intro id hid
 have:=List.all_eq_true.1 h id hid
 rw [Bool.or_eq_true] at this
 rcases this with h|h
 ·exact .inl (Nat.le_of_ble_eq_true h)
 ·rw [Bool.and_eq_true] at h
  by_cases hlt:id<base
  ·exact .inl hlt
  ·exact .inr ⟨id - base,by omega,Nat.le_of_ble_eq_true h.1,h.2⟩
theorem w58 (ht:y22 P E) (hO:y43 P O) {rec:x06 opt} (hr:x07 P rec) {β:Type} {ops:List Oper} {g0:Nat} {pos:List Bool} {base i:Nat} {ss:SS} {o:Oper} {k:SS→Option β} {b:β} (hs:v4q opt std E O rec β g0 pos ops base i ss o k=some b):
  z4x ss.s.nt o.dst=true∧∃ r ss',x57 P E.T ops ss.s base i o r∧ss'.s=z5p ss.s o.dst r.v r.u∧k ss'=some b:=by
 unfold v4q at hs
 cases hd:z4x ss.s.nt o.dst with
 |false=>rw [hd] at hs; cases hs
 |true=>
 rw [hd] at hs
 refine ⟨rfl,?_⟩
 simp only [cond_true] at hs
 obtain ⟨x,hg,hs⟩:=x0e hs
 cases x with
 |false=>exact ⟨_,⟨z5p ss.s o.dst (.tuple []) [],ss.K⟩, .skip hg,rfl,hs⟩
 |true=>
  simp only at hs
  cases hok:x7r ops base i (z68 ss.s.env o.op) with
  |false=>rw [hok] at hs; cases hs
  |true=>
  rw [hok] at hs
  have hids:=x7q hok
  have plain:y6b opt β std (w2t E.dt ops o) E (base+i) ⟨ss.s,ss.K⟩ o k=some b→∃ r ss',x57 P E.T ops ss.s base i o r∧ss'.s=z5p ss.s o.dst r.v r.u∧k ss'=some b:=by
   intro hp
   obtain ⟨q,r,ra,res,ss',hw,hst,hc,he,hk⟩:=y9y hp
   exact ⟨_,ss', .step hg hw hst hc hids,he,hk⟩
  simp only [cond_true] at hs
  split at hs
  ·rename_i f args ts hop
   split at hs
   ·rename_i g first captured hf
    split at hs
    ·rename_i t hp
     cases hfr:y0i (first++captured) with
     |false=>rw [hfr] at hs; cases hs
     |true=>
     rw [hfr] at hs
     obtain ⟨r,c1,c2,hs⟩:=hO.pure _ _ _ _ _ _ _ _ _ _ hp hs
     refine ⟨_,⟨z5p ss.s o.dst r [],ss.K⟩, .call hg hop hf c1 (fun h hh=>c2 h (fun x hx' id hid=>?_)) hids,rfl,hs⟩
     refine hh id ?_
     have hnone:∀ (y:AV),y83 y→tid y=[]:=fun y hy=>x3t hy
     have hfree:=z5w _ hfr
     simp only [List.mem_append] at hx'
     rcases hx' with (hx'|hx')|hx'
     ·obtain ⟨j,hj⟩:=List.getElem?_of_mem hx'
      have hjl:j<first.length:=(List.getElem?_eq_some_iff.1 hj).1
      have:=hnone x (hfree j x (by rw [List.getElem?_append_left hjl]; exact hj))
      rw [this] at hid; simp at hid
     ·rw [z26] at hx'
      obtain ⟨y,hy,rfl⟩:=List.mem_map.1 hx'
      simp only [z68,hop,z6z,if_true,List.mem_flatten,List.mem_map]
      exact ⟨_,⟨y,by simp [Op.operands,Call.operands]; right; simpa using hy,rfl⟩,hid⟩
     ·obtain ⟨j,hj⟩:=List.getElem?_of_mem hx'
      have:=hnone x (hfree (first.length+j) x (by rw [List.getElem?_append_right (by omega)]; simpa using hj))
      rw [this] at hid; simp at hid
    ·cases hfr:y0i (first++z1u ss.s.env args.toList++captured) with
     |false=>
      rw [hfr] at hs
      simp only [cond_false] at hs
      obtain ⟨hcb,hs⟩:=z5g hs
      have lent:∀ {r:AV},w8h P g (bL std ss.s.heap (first++z1u ss.s.env args.toList++captured)).2 r→y1w r=true→∀ h,(∀ id∈z68 ss.s.env o.op,z0e h id=z0e ss.s.heap id)→z6m P g (first++z1u ss.s.env args.toList++captured) h r h:=by
       intro r hp hfl h hh
       have e:bL std h (first++z1u ss.s.env args.toList++captured)=bL std ss.s.heap (first++z1u ss.s.env args.toList++captured):=by
        refine z9n std _ fun id hid=>hh id ?_
        have hmem:∀ {l:List AV} {id:Nat},id∈x1e l→∃ x∈l,id∈tid x:=by
         intro l
         induction l with
         |nil=>intro id h; simp [x1e] at h
         |cons x l ih=>
          intro id h
          simp only [x1e,List.mem_append] at h
          rcases h with h|h
          ·exact ⟨x,by simp,h⟩
          ·obtain ⟨y,h1,h2⟩:=ih h; exact ⟨y,by simp [h1],h2⟩
        have hmem2:∀ {l:List AV} {id:Nat} {x:AV},x∈l→id∈tid x→id∈x1e l:=by
         intro l
         induction l with
         |nil=>intro id x h; simp at h
         |cons y l ih=>
          intro id x h h2
          simp only [List.mem_cons] at h
          simp only [x1e,List.mem_append]
          rcases h with rfl|h
          ·exact .inl h2
          ·exact .inr (ih h h2)
        obtain ⟨x,hx,hid⟩:=hmem hid
        simp only [z68,hop,z6z,if_true,List.mem_flatten,List.mem_map]
        have hfs:id∈tid (z0n ss.s.env f)∨∃ y∈args.toList,id∈tid (z0n ss.s.env y):=by
         simp only [List.mem_append] at hx
         rcases hx with (hx|hx)|hx
         ·left; rw [hf]; simp only [tid,List.mem_append]; exact .inl (hmem2 hx hid)
         ·right
          rw [z26] at hx
          obtain ⟨y,hy,rfl⟩:=List.mem_map.1 hx
          exact ⟨y,hy,hid⟩
         ·left; rw [hf]; simp only [tid,List.mem_append]; exact .inr (hmem2 hx hid)
        rcases hfs with h|⟨y,hy,h⟩
        ·exact ⟨_,⟨f,by simp [Op.operands,Call.operands],rfl⟩,h⟩
        ·exact ⟨_,⟨y,by simp [Op.operands,Call.operands]; right; simpa using hy,rfl⟩,h⟩
       exact v2x (by rw [e]; exact hp) (by rw [e]; exact hcb) hfl
      split at hs
      ·rename_i t hpu
       cases hfb:y0i (bL std ss.s.heap (first++z1u ss.s.env args.toList++captured)).2 with
       |false=>rw [hfb] at hs; cases hs
       |true=>
       rw [hfb] at hs
       simp only [cond_true] at hs
       obtain ⟨r,c1,c2,hs⟩:=hO.pure _ _ _ _ _ _ _ _ _ _ hpu hs
       cases hfl:y1w r with
       |false=>rw [hfl] at hs; cases hs
       |true=>
       rw [hfl] at hs
       have hp:w8h P g (bL std ss.s.heap (first++z1u ss.s.env args.toList++captured)).2 r:=c2 [] (fun x hx id hid=>by
        obtain ⟨j,hj⟩:=List.getElem?_of_mem hx
        rw [x3t (z5w _ hfb j x hj)] at hid; simp at hid)
       exact ⟨_,⟨z5p ss.s o.dst r [],ss.K⟩, .call hg hop hf c1 (lent hp hfl) hids,rfl,hs⟩
      ·obtain ⟨r,h',K',c1,c2,c3,hs⟩:=y3g ht hr hs
       cases hfl:y1w (z36 h' (fun _=>false) r) with
       |false=>rw [hfl] at hs; cases hs
       |true=>
       rw [hfl] at hs
       exact ⟨_,⟨z5p ss.s o.dst (z36 h' (fun _=>false) r) [],ss.K⟩, .call hg hop hf c3 (lent c1.pret hfl) hids,rfl,hs⟩
     |true=>
     rw [hfr] at hs
     simp only [cond_true] at hs
     obtain ⟨r,h',K',c1,c2,c3,hs⟩:=y3g ht hr hs
     cases hfb:z8w (z36 h' (fun _=>false) r) with
     |false=>rw [hfb] at hs; cases hs
     |true=>
     rw [hfb] at hs
     exact ⟨_,⟨z5p ss.s o.dst (z36 h' (fun _=>false) r) [],ss.K⟩, .call hg hop hf c3 (fun h _=>c1.pret.at (z5w _ hfr) (y3c _ hfb) h) hids,rfl,hs⟩
   ·cases hs
  ·exact plain hs
theorem y73 (ht:y22 P E) (hO:y43 P O) {rec:x06 opt} (hr:x07 P rec) {β:Type} {ops:List Oper} {g0:Nat} {pos:List Bool} {nt base:Nat} {k:SS→Option β} {b:β}:∀ (l:List Oper) (acc:List (List Nat)) (i:Nat) (ss:SS),ss.s.nt=nt→x1u opt std E O rec β g0 pos ops base acc i l ss k=some b→
  ∃ ss',ss.s.heap.length≤ss'.s.heap.length∧DS P E.T ops nt base (fun s2=>s2=ss'.s) acc i l ss.s∧k ss'=some b:=by
 intro l
 induction l with
 |nil=>
  intro acc i ss hnt hs
  simp only [x1u] at hs
  exact ⟨ss,Nat.le_refl _, .nil rfl,hs⟩
 |cons o l ih=>
  intro acc i ss hnt hs
  simp only [x1u] at hs
  cases hpb:y90 ops acc i o (z68 ss.s.env o.op) with
  |false=>rw [hpb] at hs; cases hs
  |true=>
  rw [hpb] at hs
  simp only [cond_true] at hs
  obtain ⟨d1,r,s1,d2,he,hs⟩:=w58 ht hO hr hs
  obtain ⟨ss',l1,l2,hs⟩:=ih (acc++[z68 ss.s.env o.op]) (i+1) s1 (by rw [he]; exact hnt) hs
  refine ⟨ss',Nat.le_trans (by rw [he]; exact (z4o r.u ss.s.heap).1) l1, .cons hpb (by rw [←hnt]; exact d1) d2 ?_,hs⟩
  rw [←he]; exact l2
theorem w66 (ht:y22 P E) {β:Type} {x:x59} {ss:SS} {k:SS→Option β} {b:β} (h:v6s opt β std E x ss k=some b):
  ∃ id kd es ti ks ka ez q r y,x4l E.T x ss.s id kd es ti ks ka ez q r y∧k ⟨x5m x ss.s id (z59 q r ez) y (z7y es q r kd y),ss.K⟩=some b:=by
 unfold v6s at h
 split at h
 ·rename_i id kd kc n ha hb hc
  split at h
  ·rename_i es ti hob hti
   split at h
   ·rename_i ks ka ez hdesc hop
    obtain ⟨q,r,ra,hw,h'⟩:=y3e h
    clear h
    have h:=h'
    clear h'
    simp only [z9r,hti] at hw
    split at h
    ·rename_i ko o hold
     cases hcnd:(ko==kc)&&(Nat.blt x.dL ss.s.nt&&(Nat.blt x.dB ss.s.nt&&(Nat.blt x.dM ss.s.nt&&(Nat.blt x.dX ss.s.nt&&Nat.blt id ss.s.heap.length)))) with
     |false=>rw [hcnd] at h; cases h
     |true=>
      rw [hcnd] at h
      simp only [Bool.and_eq_true,beq_iff_eq] at hcnd
      obtain ⟨rfl,c1,c2,c3,c4,c5⟩:=hcnd
      refine ⟨id,kd,es,ti,ks,ka,ez,q,r,_,⟨ha,hb,hob,hti,hdesc,hw,⟨_,_,_,hold,hc,hop,rfl⟩,⟨Nat.le_of_ble_eq_true c1,Nat.le_of_ble_eq_true c2,Nat.le_of_ble_eq_true c3,Nat.le_of_ble_eq_true c4⟩,Nat.le_of_ble_eq_true c5⟩,?_⟩
      rw [hold]; exact h
    ·cases h
   ·cases h
  ·cases h
 ·cases h
theorem y5y (ht:y22 P E) (hO:y43 P O):∀ f,x07 P (sym opt std E O f):=by
 intro f
 induction f with
 |zero=>intro β n g pos c ss k b _ _ h; cases h
 |succ f ih=>
  intro β n g pos c ss k b hcd hn h
  have sub:∀ b c',w82 c b=some c'→z07 P g (b::pos)=some c':=fun b c' hb=>by simp [z07,hcd,hb]
  cases c with
  |skip=>simp only [sym] at h; exact ⟨_,_,hn,z4r ⟨rfl,rfl⟩,h⟩
  |label _=>simp only [sym] at h; exact ⟨_,_,hn,x5r ⟨rfl,rfl⟩,h⟩
  |exit id=>simp only [sym] at h; exact ⟨_,_,hn,z6e ⟨rfl,rfl⟩,h⟩
  |ret=>simp only [sym] at h; exact ⟨_,_,hn,y8j ⟨rfl,rfl⟩,h⟩
  |seq a b'=>
   simp only [sym] at h
   obtain ⟨e1,s1,l1,l2,h⟩:=ih _ _ _ _ _ _ _ _ (sub false a rfl) hn h
   cases e1 with
   |normal=>
    obtain ⟨e,ss',m1,m2,h⟩:=ih _ _ _ _ _ _ _ _ (sub true b' rfl) l1 h
    refine ⟨e,ss',m1,z0h (l2.mono fun e' s2 hq=>?_),h⟩
    obtain ⟨rfl,rfl⟩:=hq
    exact m2
   |exit j=>
    refine ⟨_,_,l1,z0h (l2.mono fun e' s2 hq=>?_),h⟩
    obtain ⟨rfl,rfl⟩:=hq
    exact ⟨rfl,rfl⟩
   |ret=>
    refine ⟨_,_,l1,z0h (l2.mono fun e' s2 hq=>?_),h⟩
    obtain ⟨rfl,rfl⟩:=hq
    exact ⟨rfl,rfl⟩
  |cond c a b'=>
   simp only [sym] at h
   obtain ⟨e,ss1,ss',⟨g1,g2⟩,hv,hlen,h⟩:=hO.join _ _ _ _ _ _ _ (fun e ss1=>n≤ss1.s.heap.length∧z2u P n (.cond c a b') ss.s (fun e' s2=>e'=e∧s2=ss1.s)) (fun γ k b h1=>by
    obtain ⟨x,hc,h1⟩:=w23 h1
    cases x with
    |true=>
     obtain ⟨e,ss',l1,l2,h1⟩:=ih _ _ _ _ _ _ _ _ (sub false a rfl) hn h1
     exact ⟨e,ss',⟨l1,z1x hc l2⟩,h1⟩
    |false=>
     obtain ⟨e,ss',l1,l2,h1⟩:=ih _ _ _ _ _ _ _ _ (sub true b' rfl) hn h1
     exact ⟨e,ss',⟨l1,z1x hc l2⟩,h1⟩) h
   refine ⟨e,ss',hlen g1,z0t (g2.mono fun e' s2 hq=>?_),h⟩
   obtain ⟨rfl,rfl⟩:=hq
   exact ⟨_,hv,rfl,rfl⟩
  |block id c=>
   simp only [sym] at h
   obtain ⟨e,ss1,ss',⟨g1,g2⟩,hv,hlen,h⟩:=hO.join _ _ _ _ _ _ _ (fun e ss1=>n≤ss1.s.heap.length∧z2u P n (.block id c) ss.s (fun e' s2=>e'=e∧s2=ss1.s)) (fun γ k b h1=>by
    obtain ⟨x,s1,l1,l2,h1⟩:=ih _ _ _ _ _ _ _ _ (sub false c rfl) hn h1
    cases x with
    |exit j=>
     simp only at h1
     cases hb:Nat.beq j id with
     |true=>
      rw [hb] at h1
      refine ⟨_,_,⟨l1,z1h (l2.mono fun e' s2 hq=>?_)⟩,h1⟩
      obtain ⟨rfl,rfl⟩:=hq
      simp only
      rw [if_pos (Nat.eq_of_beq_eq_true hb)]
      exact ⟨trivial,trivial⟩
     |false=>
      rw [hb] at h1
      refine ⟨_,_,⟨l1,z1h (l2.mono fun e' s2 hq=>?_)⟩,h1⟩
      obtain ⟨rfl,rfl⟩:=hq
      simp only
      rw [if_neg (by rintro rfl; simp at hb)]
      exact ⟨trivial,trivial⟩
    |normal=>
     refine ⟨_,_,⟨l1,z1h (l2.mono fun e' s2 hq=>?_)⟩,h1⟩
     obtain ⟨rfl,rfl⟩:=hq
     exact ⟨rfl,rfl⟩
    |ret=>
     refine ⟨_,_,⟨l1,z1h (l2.mono fun e' s2 hq=>?_)⟩,h1⟩
     obtain ⟨rfl,rfl⟩:=hq
     exact ⟨rfl,rfl⟩) h
   refine ⟨e,ss',hlen g1,z0t (g2.mono fun e' s2 hq=>?_),h⟩
   obtain ⟨rfl,rfl⟩:=hq
   exact ⟨_,hv,rfl,rfl⟩
  |scope c=>
   simp only [sym] at h
   obtain ⟨e,ss',l1,l2,h⟩:=ih _ _ _ _ _ _ _ _ (sub false c rfl) hn h
   exact ⟨e,ss',l1,x5q l2,h⟩
  |loop c=>
   simp only [sym] at h
   split at h
   ·rename_i t hl
    exact hO.loop _ _ _ _ _ _ _ _ _ hcd hn hl h
   ·obtain ⟨e1,s1,l1,l2,h⟩:=ih _ _ _ _ _ _ _ _ (sub false c rfl) hn h
    cases e1 with
    |normal=>
     obtain ⟨e,ss',m1,m2,h⟩:=ih _ _ _ _ _ _ _ _ hcd l1 h
     refine ⟨e,ss',m1,z3d (l2.mono fun e' s2 hq=>?_),h⟩
     obtain ⟨rfl,rfl⟩:=hq
     exact m2
    |exit j=>
     refine ⟨_,_,l1,z3d (l2.mono fun e' s2 hq=>?_),h⟩
     obtain ⟨rfl,rfl⟩:=hq
     exact ⟨rfl,rfl⟩
    |ret=>
     refine ⟨_,_,l1,z3d (l2.mono fun e' s2 hq=>?_),h⟩
     obtain ⟨rfl,rfl⟩:=hq
     exact ⟨rfl,rfl⟩
  |region id ops drawn=>
   cases drawn with
   |false=>
    simp only [sym] at h
    have hl:∀ j o,ops.toList[j]?=some o→ops[0+j]?=some o:=fun j o hj=>by rw [Nat.zero_add, ←Array.getElem?_toList]; exact hj
    have go:∀ (γ:Type) (k:AX→SS→Option γ) (b:γ),(O.view γ n g pos ss fun ss=>w3y opt std E O (sym opt std E O f) γ n g pos ops.toList 0 ops.toList ss fun s'=>k .normal s')=some b→
      ∃ e ss',(n≤ss'.s.heap.length∧z2u P n (.region id ops false) ss.s (fun e' s2=>e'=e∧s2=ss'.s))∧k e ss'=some b:=by
     intro γ k b h
     obtain ⟨ss,hv,hn,h⟩:=hO.view _ _ _ _ _ _ _ hn h
     obtain ⟨ss',l1,this,h⟩:=x7o ht hO ih ops.toList 0 ss hl hn h
     refine ⟨_,ss',⟨l1,z09 hv (z00 ?_)⟩,h⟩
     rw [Array.length_toList, ←List.range_eq_range'] at this
     exact this.mono fun s h=>⟨rfl,h⟩
    cases hgd:(x18 ops.toList||v6l E ops.toList) with
    |false=>
     rw [hgd] at h
     obtain ⟨e,ss',⟨l1,l2⟩,h⟩:=go β k b h
     exact ⟨e,ss',l1,l2,h⟩
    |true=>
     rw [hgd] at h
     simp only [cond_true] at h
     obtain ⟨e,ss1,ss',⟨g1,g2⟩,hv,hlen,h⟩:=hO.join _ _ _ _ _ _ _ (fun e ss1=>n≤ss1.s.heap.length∧z2u P n (.region id ops false) ss.s (fun e' s2=>e'=e∧s2=ss1.s)) (fun γ k b h1=>go γ k b h1) h
     refine ⟨e,ss',hlen g1,z0t (g2.mono fun e' s2 hq=>?_),h⟩
     obtain ⟨rfl,rfl⟩:=hq
     exact ⟨_,hv,rfl,rfl⟩
   |true=>
    simp only [sym] at h
    cases hb:y4l ops.toList&&z63 ops.toList with
    |false=>rw [hb] at h; cases h
    |true=>
    rw [hb] at h
    simp only [Bool.and_eq_true] at hb
    simp only [cond_true] at h
    obtain ⟨ss,hv,hn,h⟩:=hO.view _ _ _ _ _ _ _ hn h
    split at h
    ·cases hte:E.tl with
     |true=>
      rw [hte] at h
      simp only [cond_true] at h
      obtain ⟨s1,l1,l2,h⟩:=y73 ht hO ih (nt:=ss.s.nt) (ops.toList.take (y5b E.tk ops.toList)) [] 0 ss rfl h
      have hle:=w0p E.tk ops.toList
      have hsz:ops.toList.length=ops.size:=Array.length_toList
      obtain ⟨ss',k1,k2,h⟩:=x7o ht hO ih (n:=n) (ops:=ops) (ops.toList.drop (y5b E.tk ops.toList)) (y5b E.tk ops.toList) s1 (fun j o hj=>by
       rw [List.getElem?_drop] at hj
       rw [←Array.getElem?_toList]; exact hj) (Nat.le_trans hn l1) h
      refine ⟨_,ss',k1,z09 hv (x0r ht.mixed ht.ti hn hb.1 hb.2 (by omega) (x1f _ _) l2 (Q:=fun e' s2=>e'= .normal∧s2=ss'.s) fun s2 hs2 hnt _=>?_),h⟩
      rw [hs2]
      have hln:(ops.toList.drop (y5b E.tk ops.toList)).length=ops.size - y5b E.tk ops.toList:=by
       rw [List.length_drop,hsz]
      rw [hln] at k2
      exact k2.mono fun s3 h3=>⟨rfl,h3⟩
     |false=>
     rw [hte] at h
     simp only [cond_false] at h
     obtain ⟨ss',l1,l2,h⟩:=y73 ht hO ih (nt:=ss.s.nt) ops.toList [] 0 ss rfl h
     exact ⟨_,ss',Nat.le_trans hn l1,z09 hv (y1e ht.mixed ht.ti hn hb.1 hb.2 (l2.mono fun s2 h=>⟨rfl,h⟩)),h⟩
    ·rename_i pre x hof
     cases hie:y3b ops.toList with
     |false=>rw [hie] at h; cases h
     |true=>
     rw [hie] at h
     simp only [cond_true] at h
     obtain ⟨ss',l1,l2,h⟩:=y73 ht hO ih (nt:=ss.s.nt) pre [] 0 ss rfl h
     obtain ⟨id,kd,es,ti,ks,ka,ez,q,r,y,hR,h⟩:=w66 ht h
     refine ⟨_,_,?_,z09 hv (w22 ht.mixed ht.ti hn hb.1 hb.2 hie hof l2 (Q:=fun e' s2=>e'= .normal∧s2=x5m x ss'.s id (z59 q r ez) y (z7y es q r kd y)) fun s1 hs1 hnt=>⟨id,kd,es,ti,ks,ka,ez,q,r,y,by rw [hs1]; exact hR,rfl,by rw [hs1]⟩),h⟩
     exact Nat.le_trans hn (Nat.le_trans l1 (z11 _ _ _).1)
  |rangeFunc fo ps asg body=>
   simp only [sym] at h
   split at h
   ·rename_i g' first captured hf
    obtain ⟨r,sc,c1,c2,c3,h⟩:=y64 ht hO ih (by show _≤(z0o ss.s.heap ss.s.heap.length _).length; rw [z1c]; exact Nat.le_refl _) h
    split at h
    ·rename_i st pd gc' pos' nt' env' hob
     have fin:st≠ .busy→∀ e1 s1,z6g sc.s (z0o sc.s.heap ss.s.heap.length .dead) pd=some (e1,s1)→n≤s1.heap.length∧z2u P n (.rangeFunc fo ps asg body) ss.s (fun e' s2=>e'=e1∧s2=s1):=by
      intro hst e1 s1 haf
      have hs1:s1.heap=z0o sc.s.heap ss.s.heap.length .dead:=by
       unfold z6g at haf
       split at haf<;>cases haf<;>rfl
      refine ⟨?_,y5m hcd hf c2 hn c3 hob hst haf ⟨rfl,rfl⟩⟩
      rw [hs1]
      have:=(z11 sc.s.heap ss.s.heap.length .dead).1
      omega
     cases st with
     |busy=>cases h
     |ready=>
      simp only at h
      split at h
      ·rename_i e1 s1 haf
       obtain ⟨x,y⟩:=fin (by simp) _ _ haf
       exact ⟨_,⟨s1,sc.K⟩,x,y,h⟩
      ·cases h
     |done=>
      simp only at h
      split at h
      ·rename_i e1 s1 haf
       obtain ⟨x,y⟩:=fin (by simp) _ _ haf
       exact ⟨_,⟨s1,sc.K⟩,x,y,h⟩
      ·cases h
     |exhausted=>
      simp only at h
      split at h
      ·rename_i e1 s1 haf
       obtain ⟨x,y⟩:=fin (by simp) _ _ haf
       exact ⟨_,⟨s1,sc.K⟩,x,y,h⟩
      ·cases h
    ·cases h
   ·cases h
  |_=>simp only [sym] at h; cases h
end
end Go.Am
end
section
namespace Go.Am
def infoOf (P : Program) (g : FuncId) : Option w3m :=
 match P.funcs[g]? with
 | some fn => match fn.body with
  | some c => bif fn.name == "runtime.NumGoroutine" then none else some ⟨c, fn.ntmps, fn.results.toList⟩
  | none => none
 | none => none
theorem x8x {P : Program} {g : FuncId} {fn : Func} {c : Code} (h : P.funcs[g]? = some fn) (hb : fn.body = some c) (hn : (fn.name == "runtime.NumGoroutine") = false) : z13 P g := by
 intro args w
 have hn' : ¬ (fn.name = "runtime.NumGoroutine") := by simpa using hn
 unfold callFunc
 simp [Sem.program, Sem.run, h, hb, hn']
theorem x0c {P : Program} {g : FuncId} {i : w3m} (h : infoOf P g = some i) : ∃ fn, P.funcs[g]? = some fn ∧ fn.body = some i.body ∧ fn.ntmps = i.nt ∧ fn.results.toList = i.res ∧ z13 P g := by
 unfold infoOf at h
 split at h
 ·rename_i fn hfn
  split at h
  ·rename_i c hc
   cases hn : (fn.name == "runtime.NumGoroutine") with
   | true => rw [hn] at h; cases h
   | false => rw [hn] at h; cases h; exact ⟨fn, hfn, hc, rfl, rfl, x8x hfn hc hn⟩
  ·cases h
 ·cases h
def u0q (f:TypeId→List CK):List Field→List CK
 |[]=>[]
 |x::r=>f x.type++u0q f r
def u0p:List CK→Option (List CR)
 |[]=>some []
 |c::cs=>match c,u0p cs with
  | .int k,some l=>some (.int k::l)
  | .bool,some l=>some (.bool::l)
  | .str,some l=>some (.str::l)
  | .list z,some l=>some (.list z::l)
  |_,_=>none
def v19 (P:Program):Nat→TypeId→List CK
 |0,_=>[.other]
 |n+1,t=>match P.underlying t with
  |some (.int k)=>[.int k]
  |some .bool=>[.bool]
  |some .string=>[.str]
  |some (.slice e)=>match z88 P e with
   |some z=>[.list z]
   |none=>[.other]
  |some (.struct fs)=>u0q (v19 P n) fs.toList
  |some (.array m e)=>(List.replicate m (v19 P n e)).flatten
  |some (.pointer e)=>match P.underlying e with
   |some (.struct _)=>match u0p (v19 P n e) with
    |some l=>[.ref l]
    |none=>[.other]
   |_=>[.other]
  |_=>[.other]
def v2a (P:Program) (t:TypeId):List CK:=
 match P.underlying t with
 |some (.slice e)=>v19 P 8 e
 |_=>[]
def v8e (P:Program) (t:TypeId):Bool×List CK:=
 match P.underlying t with
 |some (.map _ e)=>((z30 P e).getD false,v19 P 8 e)
 |_=>(false,[])
def w35 (a:Nat):List Nat→Bool
 |[]=>false
 |b::l=>Nat.beq b a||w35 a l
def autoEnvD (own:List Nat) (P:Program):Env:=⟨v5j P,infoOf P,v2a P,v8e P,z07 P,fun g=>!w35 g own,true,false⟩
theorem autoEnvD_ok {own:List Nat} {P:Program} (hm:P.follows .mixedOrders=true):y22 P (autoEnvD own P) where
 ti:=fun t ti h=>w6e h
 fn:=fun g i h=>x0c h
 code:=fun g pos c h=>h
 mixed:=hm
def w1g (A:Alg):Orc A:=⟨fun _ _ _ _ _ _ _ _=>none,fun _ _ _ _ _ _ _=>none,fun _ _ _ _ _=>none,fun β _ _ _ body k=>body β k,fun _ _ _ _ ss k=>k ss⟩
theorem y4c {P:Program}:y43 P (w1g opt) where
 call:=fun _ _ _ _ _ _ _ _ _ _ _ h=>by cases h
 pure:=fun _ _ _ _ _ _ _ _ _ _ h=>by cases h
 loop:=fun _ _ _ _ _ _ _ _ _ _ _ h=>by cases h
 join:=fun β n g pos body k b G hb h=>by
  obtain ⟨e,ss',hg,hk⟩:=hb β k b h
  exact ⟨e,ss',ss',hg,z2a.refl _ _,fun h=>h,hk⟩
 view:=fun β n g pos ss k b hn h=>⟨ss,z2a.refl _ _,hn,h⟩
end Go.Am
end
section
namespace Go.Am
inductive Sc where
 |int|nat|bool|str|rows|map
def Sc.den:Sc→Type
 | .int=>Int
 | .nat=>Nat
 | .bool=>Bool
 | .str=>ByteArray
 | .rows=>List (List D)
 | .map=>List (D×D)
inductive Val where
 |i (n:Int)|n (n:Nat)|b (b:Bool)|s (s:ByteArray)|r (es:List (List D))|m (es:List (D×D))
def Tup:List Sc→Type
 |[]=>Unit
 |s::r=>s.den×Tup r
def STup:List (List Sc)→Type
 |[]=>Empty
 |[t]=>Tup t
 |t::u::ts=>Tup t⊕STup (u::ts)
def toV:(s:Sc)→s.den→Val
 | .int,x=> .i x
 | .nat,x=> .n x
 | .bool,x=> .b x
 | .str,x=> .s x
 | .rows,x=> .r x
 | .map,x=> .m x
def z91:(ss:List Sc)→Tup ss→List Val
 |[],_=>[]
 |s::r,x=>toV s x.1::z91 r x.2
def ofV:(s:Sc)→Val→Option s.den
 | .int, .i x=>some x
 | .nat, .n x=>some x
 | .bool, .b x=>some x
 | .str, .s x=>some x
 | .rows, .r x=>some x
 | .map, .m x=>some x
 |_,_=>none
def w59:(ss:List Sc)→List Val→Option (Tup ss)
 |[],[]=>some ()
 |s::r,v::vs=>match ofV s v,w59 r vs with
  |some x,some y=>some (x,y)
  |_,_=>none
 |_,_=>none
theorem w44 {s:Sc} {v:Val} {x:s.den} (h:ofV s v=some x):toV s x=v:=by
 cases s<;>cases v<;>cases h<;>rfl
theorem y3q:∀ {ss:List Sc} {vs:List Val} {x:Tup ss},w59 ss vs=some x→z91 ss x=vs
 |[],[],x,_=>rfl
 |[],_::_,x,h=>by simp [w59] at h
 |_::_,[],x,h=>by simp [w59] at h
 |s::r,v::vs,x,h=>by
  simp only [w59] at h
  split at h
  ·rename_i y z h1 h2
   cases h
   simp only [z91,w44 h1,y3q h2]
  ·cases h
inductive VT where
 |bot
 |int (k:IntKind)|bool|str
 |list (z:Nat)
 |nilp|nilm|nilf|nili|nils
 |agg (l:List VT)
 |ref (l:List VT)
 |bptr (i off:Nat)
 |ptr (i off:Nat)
 |vec (i z:Nat)
 |full (i z:Nat)
 |sl (i z:Nat)
 |slc (i z:Nat)
 |map (i:Nat)
 |yld (i:Nat)
 |clo (fn:Nat) (fs cs:List VT)
 |tuple (l:List VT)
 deriving Inhabited
inductive OT where
 |dead
 |box (l:List VT)
 |row (ck:List CK)
 |map
 |loop (st:LoopState) (pd:Option Code) (g:Nat) (pos:List Bool) (nt:Nat) (env:List (Nat×VT))
 deriving Inhabited
structure ST where
 env:List (Nat×VT)
 heap:List OT
 nt:Nat
def z62:List OT→List Val→List (Option AO)×List Val
 |[],vs=>([],vs)
 | .row _::t, .r es::vs=>(some (.row es)::(z62 t vs).1,(z62 t vs).2)
 | .map::t, .m es::vs=>(some (.map es)::(z62 t vs).1,(z62 t vs).2)
 |_::t,vs=>(none::(z62 t vs).1,(z62 t vs).2)
def z6r (p:Prim) (L:List (Option AO)) (i:Nat):Nat:=
 match z2p L i with
 |some (some (.row es))=>p.len es
 |_=>0
def w6g (l:List AV):AV:=
 match x08 l with
 |some ds=> .d (.agg ds)
 |none=> .agg l
def w6f (l:List AV):AV:=
 match x08 l with
 |some (d::ds)=> .d (.ref (d::ds))
 |_=> .bot
mutual
def w2l (p:Prim) (L:List (Option AO)):VT→List Val→AV×List Val
 | .bot,vs=>(.bot,vs)
 | .int k, .i n::vs=>(.d (.int k n),vs)
 | .bool, .b b::vs=>(.d (.bool b),vs)
 | .str, .s s::vs=>(.d (.str s),vs)
 | .list z, .r es::vs=>(.d (.list false z es),vs)
 | .nilp,vs=>(.d .nilp,vs)
 | .nilm,vs=>(.d .nilm,vs)
 | .nils,vs=>(.d (.list true 0 []),vs)
 | .nilf,vs=>(.d .nilf,vs)
 | .nili,vs=>(.d .nili,vs)
 | .agg l,vs=>(w6g (z6d p L l vs).1,(z6d p L l vs).2)
 | .ref l,vs=>(w6f (z6d p L l vs).1,(z6d p L l vs).2)
 | .bptr i off,vs=>(.bptr i off,vs)
 | .ptr i off, .n j::vs=>(.ptr i j off,vs)
 | .vec i z,vs=>(.slice i z 0 (z6r p L i) none,vs)
 | .full i z,vs=>(.slice i z 0 (z6r p L i) (some (z6r p L i)),vs)
 | .sl i z, .n off:: .n len::vs=>(.slice i z off len none,vs)
 | .slc i z, .n off:: .n len:: .n c::vs=>(.slice i z off len (some c),vs)
 | .map i,vs=>(.map i,vs)
 | .yld i,vs=>(.yld i,vs)
 | .clo fn fs cs,vs=>(.clo (.func fn) (z6d p L fs vs).1 (z6d p L cs (z6d p L fs vs).2).1,(z6d p L cs (z6d p L fs vs).2).2)
 | .tuple l,vs=>(.tuple (z6d p L l vs).1,(z6d p L l vs).2)
 |_,vs=>(.bot,vs)
def z6d (p:Prim) (L:List (Option AO)):List VT→List Val→List AV×List Val
 |[],vs=>([],vs)
 |t::ts,vs=>((w2l p L t vs).1::(z6d p L ts (w2l p L t vs).2).1,(z6d p L ts (w2l p L t vs).2).2)
end
def w2m (p:Prim) (L:List (Option AO)):List (Nat×VT)→List Val→List (Nat×AV)×List Val
 |[],vs=>([],vs)
 |(k,t)::ts,vs=>((k,(w2l p L t vs).1)::(w2m p L ts (w2l p L t vs).2).1,(w2m p L ts (w2l p L t vs).2).2)
def v0y (p:Prim) (L:List (Option AO)) (o:Option AO):OT→List Val→AO×List Val
 | .box l,vs=>(.box (z6d p L l vs).1,(z6d p L l vs).2)
 | .loop st pd g pos nt env,vs=>(.loop st pd g pos nt (w2m p L env vs).1,(w2m p L env vs).2)
 |_,vs=>(match o with|some o=>o|none=> .dead,vs)
def y49 (p:Prim) (L:List (Option AO)):List (Option AO)→List OT→List Val→List AO×List Val
 |o::os,t::ts,vs=>((v0y p L o t vs).1::(y49 p L os ts (v0y p L o t vs).2).1,(y49 p L os ts (v0y p L o t vs).2).2)
 |_,_,vs=>([],vs)
def x88 (p:Prim) (t:ST) (vs:List Val):AS:=
 ⟨(w2m p (z62 t.heap vs).1 t.env (y49 p (z62 t.heap vs).1 (z62 t.heap vs).1 t.heap (z62 t.heap vs).2).2).1,(y49 p (z62 t.heap vs).1 (z62 t.heap vs).1 t.heap (z62 t.heap vs).2).1,t.nt⟩
abbrev v3q:=List Bool×List Val
def y47 (σ:List (Option Nat)) (i a:Nat):Bool:=
 match z2p σ i with
 |some (some b)=>Nat.beq a b
 |_=>false
def w1w (σ:List (Option Nat)) (i:Nat):Bool:=
 match z2p σ i with
 |some none=>true
 |_=>false
def y0c (σ:List (Option Nat)) (a:Nat):Bool:=
 match σ with
 |[]=>false
 |some b::r=>Nat.beq a b||y0c r a
 |none::r=>y0c r a
mutual
def z3t (p:Prim) (h:List AO) (σ τ:List (Option Nat)) (L:List (Option AO)):VT→AV→Option v3q
 | .bot,_=>some ([],[])
 | .int k, .d (.int k' n)=>bif k==k' then some ([],[.i n]) else none
 | .bool, .d (.bool b)=>some ([],[.b b])
 | .str, .d (.str s)=>some ([],[.s s])
 | .list z, .d (.list f z' es)=>bif Nat.beq z z' then some ([],[.r es]) else match es with
  |[]=>some ([],[.r []])
  |_=>none
 | .list z, .slice a z' off len _=>bif y0c τ a then none else bif Nat.beq z z' then match z0e h a with
  | .row es=>some ([p.leN (p.add off len) (p.len es)],[.r (p.cut es off len)])
  |_=>none
  else none
 | .nilp, .d .nilp=>some ([],[])
 | .nilm, .d .nilm=>some ([],[])
 | .nils, .d (.list true _ [])=>some ([],[])
 | .nilf, .d .nilf=>some ([],[])
 | .nili, .d .nili=>some ([],[])
 | .agg l, .d (.agg ds)=>y0j p h σ τ L l (toA ds)
 | .agg l, .agg xs=>y0j p h σ τ L l xs
 | .ref l, .d (.ref ds)=>y0j p h σ τ L l (toA ds)
 | .ref l, .bptr a off=>bif y0c τ a then none else match off,z0e h a with
  |0, .box cells=>y0j p h σ τ L l cells
  |_,_=>none
 | .bptr i off, .bptr a off'=>bif y47 σ i a&&Nat.beq off off' then some ([],[]) else none
 | .ptr i off, .ptr a j off'=>bif y47 σ i a&&Nat.beq off off' then some ([],[.n j]) else none
 | .vec i z, .slice a z' off len none=>bif y47 σ i a&&Nat.beq z z' then some ([p.eqN off 0,p.eqN len (z6r p L i)],[]) else none
 | .vec i z, .slice a z' off len (some c)=>bif y47 σ i a&&Nat.beq z z' then match z0e h a with
  | .row es=>some ([p.eqN off 0,p.eqN len (z6r p L i),p.leN (p.add off c) (p.len es)],[])
  |_=>none
  else none
 | .vec i z, .d (.list true _ [])=>bif w1w σ i then match z2p L i with
  |some (some (.row []))=>some ([],[])
  |_=>none
  else none
 | .full i z, .slice a z' off len (some c)=>bif y47 σ i a&&Nat.beq z z' then some ([p.eqN off 0,p.eqN len (z6r p L i),p.eqN c (z6r p L i)],[]) else none
 | .sl i z, .slice a z' off len none=>bif y47 σ i a&&Nat.beq z z' then some ([],[.n off, .n len]) else none
 | .sl i z, .slice a z' off len (some c)=>bif y47 σ i a&&Nat.beq z z' then match z0e h a with
  | .row es=>some ([p.leN (p.add off c) (p.len es)],[.n off, .n len])
  |_=>none
  else none
 | .sl i z, .d (.list true _ [])=>bif w1w σ i then match z2p L i with
  |some (some (.row []))=>some ([],[.n 0, .n 0])
  |_=>none
  else none
 | .slc i z, .slice a z' off len (some c)=>bif y47 σ i a&&Nat.beq z z' then some ([],[.n off, .n len, .n c]) else none
 | .map i, .map a=>bif y47 σ i a then some ([],[]) else none
 | .yld i, .yld a=>bif y47 σ i a then some ([],[]) else none
 | .clo fn fs cs, .clo (.func fn') fs' cs'=>bif Nat.beq fn fn' then match y0j p h σ τ L fs fs',y0j p h σ τ L cs cs' with
  |some (c1,v1),some (c2,v2)=>some (c1++c2,v1++v2)
  |_,_=>none
  else none
 | .tuple l, .tuple xs=>y0j p h σ τ L l xs
 |_,_=>none
def y0j (p:Prim) (h:List AO) (σ τ:List (Option Nat)) (L:List (Option AO)):List VT→List AV→Option v3q
 |[],[]=>some ([],[])
 |t::ts,x::xs=>match z3t p h σ τ L t x,y0j p h σ τ L ts xs with
  |some (c1,v1),some (c2,v2)=>some (c1++c2,v1++v2)
  |_,_=>none
 |_,_=>none
end
def w8w (p:Prim) (h:List AO) (σ τ:List (Option Nat)) (L:List (Option AO)) (env:List (Nat×AV)):List (Nat×VT)→Option v3q
 |[]=>some ([],[])
 |(k,t)::ts=>match z3t p h σ τ L t (z0r env k),w8w p h σ τ L env ts with
  |some (c1,v1),some (c2,v2)=>some (c1++c2,v1++v2)
  |_,_=>none
def y1y (h:List AO):List OT→List (Option Nat)→Option (List Val)
 |[],[]=>some []
 | .row _::t,some a::σ=>match z0e h a with
  | .row es=>(y1y h t σ).map fun r=> .r es::r
  | .arow es=>match y5t es with
   |some l=>(y1y h t σ).map fun r=> .r l::r
   |none=>none
  |_=>none
 | .row _::t,none::σ=>(y1y h t σ).map fun r=> .r []::r
 | .map::t,some a::σ=>match z0e h a with
  | .map es=>(y1y h t σ).map fun r=> .m es::r
  |_=>none
 | .map::_,none::_=>none
 | .box _::t,some _::σ=>y1y h t σ
 | .box _::_,none::_=>none
 | .loop ..::t,some _::σ=>y1y h t σ
 | .loop ..::_,none::_=>none
 | .dead::t,_::σ=>y1y h t σ
 |_,_=>none
def v72:LoopState→LoopState→Bool
 | .ready, .ready| .busy, .busy| .done, .done| .exhausted, .exhausted=>true
 |_,_=>false
def v71:Option Code→Option Code→Bool
 |none,none=>true
 |some .ret,some .ret=>true
 |some (.exit i),some (.exit j)=>Nat.beq i j
 |_,_=>false
def y8e:List Bool→List Bool→Bool
 |[],[]=>true
 |a::l,b::r=>(a==b)&&y8e l r
 |_,_=>false
def y81 (p:Prim) (h:List AO) (σ0 τ:List (Option Nat)) (L:List (Option AO)):List OT→List (Option Nat)→Option v3q
 |[],[]=>some ([],[])
 | .box l::t,some a::σ=>match z0e h a with
  | .box cells=>match y0j p h σ0 τ L l cells,y81 p h σ0 τ L t σ with
   |some (c1,v1),some (c2,v2)=>some (c1++c2,v1++v2)
   |_,_=>none
  |_=>none
 | .loop st pd g pos nt env::t,some a::σ=>match z0e h a with
  | .loop st' pd' g' pos' nt' env'=>bif v72 st st'&&(v71 pd pd'&&(Nat.beq g g'&&(y8e pos pos'&&Nat.beq nt nt'))) then match w8w p h σ0 τ L env' env,y81 p h σ0 τ L t σ with
   |some (c1,v1),some (c2,v2)=>some (c1++c2,v1++v2)
   |_,_=>none
   else none
  |_=>none
 | .box _::_,none::_=>none
 | .loop ..::_,none::_=>none
 |_::t,_::σ=>y81 p h σ0 τ L t σ
 |_,_=>none
def x5l:List (Option Nat)→Bool
 |[]=>true
 |none::r=>x5l r
 |some a::r=>!(y0c r a)&&x5l r
def x0a:Nat→Nat→List (Option Nat)→Bool
 |_,0,_=>true
 |i,n+1,some a::r=>Nat.beq i a&&x0a (i+1) n r
 |_,_+1,_=>false
def y2x:List OT→List (Option Nat)→List (Option Nat)
 | .dead::ts,_::σ=>none::y2x ts σ
 |_::ts,s::σ=>s::y2x ts σ
 |_,_=>[]
def v7z (p:Prim) (n:Nat) (t:ST) (σ:List (Option Nat)) (s:AS):Option v3q:=
 bif Nat.beq s.nt t.nt&&(x5l (y2x t.heap σ)&&x0a 0 n σ) then match y1y s.heap t.heap σ with
  |some v1=>match y81 p s.heap σ (y2x t.heap σ) (z62 t.heap v1).1 t.heap σ,w8w p s.heap σ (y2x t.heap σ) (z62 t.heap v1).1 s.env t.env with
   |some (c2,v2),some (c3,v3)=>some (c2++c3,v1++(v2++v3))
   |_,_=>none
  |none=>none
 else none
end Go.Am
end
section
namespace Go.Am
def z1z:List Bool→Bool
 |[]=>true
 |b::l=>b&&z1z l
theorem z2t {a b:List Bool} (h:z1z (a++b)=true):z1z a=true∧z1z b=true:=by
 induction a with
 |nil=>exact ⟨rfl,h⟩
 |cons x a ih=>
  simp only [List.cons_append,z1z,Bool.and_eq_true] at h⊢
  exact ⟨⟨h.1,(ih h.2).1⟩,(ih h.2).2⟩
section
variable {P:Program}
structure w3n (P:Program) (ρ ρ':Rho) (O':Nat→Prop) (h:List AO) (w:World) (σ τ:List (Option Nat)) (L:List (Option AO)):Prop where
 hr:z0d P ρ h w
 loc:∀ i a,z2p σ i=some (some a)→ρ' i=ρ a
 sub:∀ b,O' b→z0k ρ h b
 out:∀ a M,ρ a=some M→(z0e h a).live=true→y0c τ a=false→¬ O' M.blk
variable {ρ ρ':Rho} {O':Nat→Prop} {h:List AO} {w:World} {σ τ:List (Option Nat)} {L:List (Option AO)}
theorem x4b {P:Program} {ρ ρ':Rho} {O':Nat→Prop} {h:List AO} {w:World} (hr:z0d P ρ h w) {i a z off len cp:Nat} (hl:ρ' i=ρ a) {es:List (List D)} (hes:z0e h a= .row es)
  (hle:std.leN (std.add off cp) (std.len es)=true) {v:Value} (hv:z0w ρ (z0k ρ h) w (.slice a z off len (some cp)) v):z0w ρ' O' w (.slice i z off len none) v:=by
 have hle:off+cp≤es.length:=z21 hle
 cases hv with
 |slice _ _ _ _ _ M a' cc hM hz ha hcc hlc=>
  have hc:cp=cc:=by
   rcases hcc with h|⟨h,_⟩
   ·cases h; rfl
   ·cases h
  subst hc
  cases hcz:cp with
  |zero=>
   subst hcz
   have:len=0:=by omega
   subst this
   exact .nils _ _ _ _ _ (.inl rfl)
  |succ m=>
   rw [←hcz]
   refine .slice _ _ _ _ _ M _ _ (hl▸hM) hz ha (.inr ⟨rfl,?_⟩) hlc
   have hob:=(hr.obj _ _ hM).2
   rw [hes] at hob
   obtain ⟨hpos,c,t,hc1,hlen,hcell⟩:=hob
   refine ⟨c.size,by simp [z1l,hc1],?_⟩
   have hlt:off+cp - 1<es.length:=by omega
   have hre:=hlen _ _ (List.getElem?_eq_getElem hlt)
   have hj:M.esz - 1<(es[off+cp - 1]).length:=by omega
   obtain ⟨u,hu,_⟩:=hcell _ _ _ _ (List.getElem?_eq_getElem hlt) (List.getElem?_eq_getElem hj)
   have:=(Array.getElem?_eq_some_iff.1 hu).1
   have e:(off+cp)*M.esz=(off+cp - 1)*M.esz+M.esz:=by
    rw [←Nat.succ_mul]; congr 1; omega
   omega
 |nils _ _ _ _ a' hcc=>exact .nils _ _ _ _ _ (.inl rfl)
theorem z33 {i a:Nat} (h:y47 σ i a=true):z2p σ i=some (some a):=by
 unfold y47 at h
 split at h
 ·rename_i b hb; rw [hb,Nat.eq_of_beq_eq_true h]
 ·cases h
theorem w3n.keep (c:w3n P ρ ρ' O' h w σ τ L):z5m (z0k ρ h) O' w w:=⟨Nat.le_refl _,fun _ _ _=>rfl,fun b _ hb=>c.sub b hb,fun _ _ h=>h,z0x.refl _⟩
theorem w7b (c:w3n P ρ ρ' O' h w σ τ L) {a z off len:Nat} {cap:Option Nat} {es:List (List D)} (hm:y0c τ a=false) (hes:z0e h a= .row es) (hle:std.leN (std.add off len) (std.len es)=true) {v:Value} (hv:z0w ρ (z0k ρ h) w (.slice a z off len cap) v):
  z14 O' w (.list false z (std.cut es off len)) v:=by
 have hle:off+len≤es.length:=z21 hle
 show z14 O' w (.list false z ((es.drop off).take len)) v
 cases hv with
 |nils _ _ _ _ a hc=>simp only [List.take_zero]; exact .lnil _ _ _ _ (by simp)
 |slice _ _ _ _ _ M a' cc hL hz ha hc hl=>
  obtain ⟨hblk,hob⟩:=c.hr.obj a M hL
  rw [hes] at hob
  obtain ⟨hz0,cs,t,hcs,hrows,hcell⟩:=hob
  cases hlen:len with
  |zero=>simp only [List.take_zero]; exact .lnil _ _ _ _ (by simp)
  |succ m=>
   rw [←hlen]
   have hll:((es.drop off).take len).length=len:=by simp; omega
   have hpos:0<len:=by omega
   have hnth:∀ i r,((es.drop off).take len)[i]?=some r→i<len∧es[off+i]?=some r:=by
    intro i r hi
    have hlt:i<len:=by rw [←hll]; exact (List.getElem?_eq_some_iff.1 hi).1
    refine ⟨hlt,?_⟩
    rw [List.getElem?_take_of_lt hlt,List.getElem?_drop] at hi
    exact hi
   have hown:¬ O' M.blk:=c.out a M hL (by rw [hes]; rfl) hm
   have ha':a'=some ⟨M.blk,M.base+off*M.esz,none⟩:=ha (by omega)
   subst hz
   subst ha'
   have hex:∀ k,k<len*M.esz→∃ u,cs[M.base+off*M.esz+k]?=some u∧u.oneCell'=true∧∀ d,(∃ r,((es.drop off).take len)[k / M.esz]?=some r∧r[k % M.esz]?=some d)→z14 O' w d u:=by
    intro k hkz
    have hi:k / M.esz<len:=(Nat.div_lt_iff_lt_mul hz0).2 hkz
    have hlt:k / M.esz<((es.drop off).take len).length:=by rw [hll]; exact hi
    have he:=(hnth (k / M.esz) _ (List.getElem?_eq_getElem hlt)).2
    generalize ((es.drop off).take len)[k / M.esz]=r at he
    have hrl:=hrows _ r he
    have hj:k % M.esz<r.length:=by rw [hrl]; exact Nat.mod_lt _ hz0
    obtain ⟨u,hu,h1,hd⟩:=hcell _ r _ r[k % M.esz] he (List.getElem?_eq_getElem hj)
    have hix:M.base+(off+k / M.esz)*M.esz+k % M.esz=M.base+off*M.esz+k:=by
     have:=Nat.div_add_mod k M.esz
     rw [Nat.add_mul,Nat.mul_comm (k / M.esz)]; omega
    rw [hix] at hu
    refine ⟨u,hu,h1,fun d hd'=>?_⟩
    obtain ⟨r',hr',hdr⟩:=hd'
    have:=(hnth _ _ hr').2
    rw [he] at this; cases this
    rw [List.getElem?_eq_getElem hj] at hdr; cases hdr
    exact hd.keep c.keep
   have key:=z14.list (O:=O') (w:=w) false ((es.drop off).take len) M.blk (M.base+off*M.esz) M.esz cc hz0
    (by intro e; rw [e] at hll; simp at hll; omega) hown (by rw [hll]; exact hl) (by simp) (fun i r hi=>hrows _ r (hnth i r hi).2)
    (fun k=>(cs[M.base+off*M.esz+k]?).getD undef) (fun k hkk=>?_) (fun k hkk=>?_) (fun i r j d hi hj=>?_)
   ·rw [hll] at key; exact key
   ·rw [hll] at hkk
    obtain ⟨u,hu,h1,_⟩:=hex k hkk
    rw [hu]; exact h1
   ·rw [hll] at hkk
    obtain ⟨u,hu,h1,_⟩:=hex k hkk
    rw [hu]; exact z81 hcs hu
   ·have hjl:j<M.esz:=by rw [←hrows _ r (hnth i r hi).2]; exact (List.getElem?_eq_some_iff.1 hj).1
    have hil:=(hnth i r hi).1
    have hkk:i*M.esz+j<len*M.esz:=by
     have:(i+1)*M.esz≤len*M.esz:=Nat.mul_le_mul_right _ (by omega)
     rw [Nat.add_mul,Nat.one_mul] at this; omega
    obtain ⟨u,hu,_,hd⟩:=hex _ hkk
    rw [hu]
    refine hd d ⟨r,?_,?_⟩
    ·rw [show (i*M.esz+j) / M.esz=i by rw [Nat.mul_comm,Nat.mul_add_div hz0,Nat.div_eq_of_lt hjl,Nat.add_zero]]; exact hi
    ·rw [show (i*M.esz+j) % M.esz=j by rw [Nat.mul_comm,Nat.mul_add_mod,Nat.mod_eq_of_lt hjl]]; exact hj
theorem y97 {O:Nat→Prop} {ρ:Rho} (xs:List AV) (vs:Array Value) (hl:vs.size=xs.length) (hh:∀ (i:Nat) (x:AV),xs[i]?=some x→z0w ρ O w x (vs.getD i undef)):z0w ρ O w (w6g xs) (.agg vs):=by
 unfold w6g
 split
 ·rename_i ds hds
  have e:=z2q hds
  refine .d (.agg _ _ (by rw [hl,e,z1a]) fun i d hd=>?_)
  have:=hh i (.d d) (by rw [e,z16,hd]; rfl)
  cases this; assumption
 ·exact .agg _ _ hl hh
theorem y96 {O:Nat→Prop} {ρ:Rho} (xs:List AV) (b o:Nat) (cell:Nat→Value) (hO:¬ O b) (hc:∀ k,k<xs.length→w.cell? ⟨b,o+k,none⟩=some (cell k)) (hh:∀ (i:Nat) (x:AV),xs[i]?=some x→z0w ρ O w x (cell i)):z0w ρ O w (w6f xs) (.pointer (some ⟨b,o,none⟩)):=by
 unfold w6f
 split
 ·rename_i d ds hds
  have e:=z2q hds
  refine .d (.ref _ b o (by simp) hO cell (fun k hk=>hc k (by rw [e,z1a]; exact hk)) fun i d' hd=>?_)
  have:=hh i (.d d') (by rw [e,z16,hd]; rfl)
  cases this; assumption
 ·exact .bot _
theorem w3a {k k':IntKind} (h:(k==k')=true):k=k':=by simpa using h
def VOk (ρ ρ':Rho) (O O':Nat→Prop) (w:World) (L:List (Option AO)) (t:VT) (x:AV) (ws:List Val):Prop:=
 ∀ rest,(w2l std L t (ws++rest)).2=rest∧∀ v,z0w ρ O w x v→z0w ρ' O' w (w2l std L t (ws++rest)).1 v
def VsOk (ρ ρ':Rho) (O O':Nat→Prop) (w:World) (L:List (Option AO)) (ts:List VT) (xs:List AV) (ws:List Val):Prop:=
 ∀ rest,(z6d std L ts (ws++rest)).2=rest∧(z6d std L ts (ws++rest)).1.length=xs.length∧
  ∀ (f:Nat→Value),(∀ i x,xs[i]?=some x→z0w ρ O w x (f i))→∀ i y,(z6d std L ts (ws++rest)).1[i]?=some y→z0w ρ' O' w y (f i)
theorem z8c {a b:Nat} (h:std.eqN a b=true):a=b:=Nat.eq_of_beq_eq_true h
mutual
theorem x8n (c:w3n P ρ ρ' O' h w σ τ L):(t:VT)→(x:AV)→(cs:List Bool)→(ws:List Val)→z3t std h σ τ L t x=some (cs,ws)→z1z cs=true→VOk ρ ρ' (z0k ρ h) O' w L t x ws
 | .bot,x,cs,ws,hf,hc=>by
  cases x<;>(simp only [z3t] at hf; cases hf; exact fun rest=>⟨rfl,fun v hv=> .bot v⟩)
 | .int k,x,cs,ws,hf,hc=>by
  cases x with
  |d d=>
   cases d with
   |int k' n=>
    simp only [z3t] at hf
    cases hk:(k==k') with
    |false=>rw [hk] at hf; cases hf
    |true=>
     rw [hk] at hf; cases hf
     have:=w3a hk; subst this
     exact fun rest=>⟨rfl,fun v hv=>by cases hv with|d hv=>exact .d (hv.keep c.keep)⟩
   |_=>simp only [z3t] at hf; cases hf
  |_=>simp only [z3t] at hf; cases hf
 | .bool,x,cs,ws,hf,hc=>by
  cases x with
  |d d=>
   cases d with
   |bool b=>simp only [z3t] at hf; cases hf; exact fun rest=>⟨rfl,fun v hv=>by cases hv with|d hv=>exact .d (hv.keep c.keep)⟩
   |_=>simp only [z3t] at hf; cases hf
  |_=>simp only [z3t] at hf; cases hf
 | .str,x,cs,ws,hf,hc=>by
  cases x with
  |d d=>
   cases d with
   |str b=>simp only [z3t] at hf; cases hf; exact fun rest=>⟨rfl,fun v hv=>by cases hv with|d hv=>exact .d (hv.keep c.keep)⟩
   |_=>simp only [z3t] at hf; cases hf
  |_=>simp only [z3t] at hf; cases hf
 | .list z,x,cs,ws,hf,hc=>by
  cases x with
  |d d=>
   cases d with
   |list f z' es=>
    simp only [z3t] at hf
    cases hz:Nat.beq z z' with
    |true=>
     rw [hz] at hf; cases hf
     have:=Nat.eq_of_beq_eq_true hz; subst this
     exact fun rest=>⟨rfl,fun v hv=>by cases hv with|d hv=>exact .d ((hv.keep c.keep).le (show DLe (.list f z es) (.list false z es) from .inl (Or.inr ⟨z,rfl,Or.inl rfl⟩)))⟩
    |false=>
     rw [hz] at hf
     cases es with
     |nil=>cases hf; exact fun rest=>⟨rfl,fun v hv=>by cases hv with|d hv=>exact .d ((hv.keep c.keep).le (show DLe (.list f z' []) (.list false z []) from .inl (Or.inr ⟨z,rfl,Or.inr rfl⟩)))⟩
     |cons _ _=>cases hf
   |_=>simp only [z3t] at hf; cases hf
  |slice a z' off len cap=>
   simp only [z3t] at hf
   cases hm:y0c τ a with
   |true=>rw [hm] at hf; cases hf
   |false=>
    rw [hm] at hf; simp only [cond_false] at hf
    cases hz:Nat.beq z z' with
    |false=>rw [hz] at hf; cases hf
    |true=>
     rw [hz] at hf; simp only [cond_true] at hf
     have:=Nat.eq_of_beq_eq_true hz; subst this
     split at hf
     ·rename_i es hes
      cases hf
      simp only [z1z,Bool.and_true] at hc
      exact fun rest=>⟨rfl,fun v hv=> .d (w7b c hm hes hc hv)⟩
     ·cases hf
  |_=>simp only [z3t] at hf; cases hf
 | .nilp,x,cs,ws,hf,hc=>by
  cases x with
  |d d=>cases d<;>simp only [z3t] at hf<;>cases hf; exact fun rest=>⟨rfl,fun v hv=>by cases hv with|d hv=>exact .d (hv.keep c.keep)⟩
  |_=>simp only [z3t] at hf; cases hf
 | .nilm,x,cs,ws,hf,hc=>by
  cases x with
  |d d=>cases d<;>simp only [z3t] at hf<;>cases hf; exact fun rest=>⟨rfl,fun v hv=>by cases hv with|d hv=>exact .d (hv.keep c.keep)⟩
  |_=>simp only [z3t] at hf; cases hf
 | .nils,x,cs,ws,hf,hc=>by
  cases x with
  |d d=>
   cases d with
   |list f z es=>
    cases f with
    |false=>cases es<;>(simp only [z3t] at hf; cases hf)
    |true=>
     cases es with
     |cons _ _=>simp only [z3t] at hf; cases hf
     |nil=>
      simp only [z3t] at hf
      cases hf
      refine fun rest=>⟨rfl,fun v hv=>?_⟩
      cases hv with|d hv=>
      cases hv with
      |lnil _ _ a cc h=>exact .d (.lnil _ _ _ _ h)
      |list _ _ _ _ _ _ _ hne=>exact absurd rfl hne
   |_=>simp only [z3t] at hf; cases hf
  |_=>simp only [z3t] at hf; cases hf
 | .nilf,x,cs,ws,hf,hc=>by
  cases x with
  |d d=>cases d<;>simp only [z3t] at hf<;>cases hf; exact fun rest=>⟨rfl,fun v hv=>by cases hv with|d hv=>exact .d (hv.keep c.keep)⟩
  |_=>simp only [z3t] at hf; cases hf
 | .nili,x,cs,ws,hf,hc=>by
  cases x with
  |d d=>cases d<;>simp only [z3t] at hf<;>cases hf; exact fun rest=>⟨rfl,fun v hv=>by cases hv with|d hv=>exact .d (hv.keep c.keep)⟩
  |_=>simp only [z3t] at hf; cases hf
 | .agg l,x,cs,ws,hf,hc=>by
  cases x with
  |d d=>
   cases d with
   |agg ds=>
    simp only [z3t] at hf
    have ih:=z5b c l (toA ds) cs ws hf hc
    intro rest
    obtain ⟨a,b,e⟩:=ih rest
    refine ⟨a,fun v hv=>?_⟩
    cases hv with|d hv=>
    cases hv with|agg _ vs hl hh=>
    refine y97 _ vs (by rw [b,z1a]; exact hl) (e (fun i=>vs.getD i undef) (fun i x hx=>?_))
    rw [z16] at hx
    cases hq:ds[i]? with
    |none=>rw [hq] at hx; cases hx
    |some d=>rw [hq] at hx; cases hx; exact .d (hh i d hq)
   |_=>simp only [z3t] at hf; cases hf
  |agg xs=>
   simp only [z3t] at hf
   have ih:=z5b c l xs cs ws hf hc
   intro rest
   obtain ⟨a,b,e⟩:=ih rest
   refine ⟨a,fun v hv=>?_⟩
   cases hv with|agg _ vs hl hh=>
   exact y97 _ vs (by rw [b]; exact hl) (e (fun i=>vs.getD i undef) hh)
  |_=>simp only [z3t] at hf; cases hf
 | .ref l,x,cs,ws,hf,hc=>by
  cases x with
  |d d=>
   cases d with
   |ref ds=>
    simp only [z3t] at hf
    have ih:=z5b c l (toA ds) cs ws hf hc
    intro rest
    obtain ⟨a,b,e⟩:=ih rest
    refine ⟨a,fun v hv=>?_⟩
    cases hv with|d hv=>
    cases hv with|ref _ bb o hne hO cell hcc hh=>
    refine y96 _ bb o cell (fun h=>hO (c.sub _ h)) (fun k hk=>hcc k (by rw [b,z1a] at hk; exact hk)) (e cell (fun i x hx=>?_))
    rw [z16] at hx
    cases hq:ds[i]? with
    |none=>rw [hq] at hx; cases hx
    |some d=>rw [hq] at hx; cases hx; exact .d (hh i d hq)
   |_=>simp only [z3t] at hf; cases hf
  |bptr a off=>
   simp only [z3t] at hf
   cases hm:y0c τ a with
   |true=>rw [hm] at hf; cases hf
   |false=>
    rw [hm] at hf; simp only [cond_false] at hf
    split at hf
    ·rename_i cells hcells
     have ih:=z5b c l cells cs ws hf hc
     intro rest
     obtain ⟨a',b',e⟩:=ih rest
     refine ⟨a',fun v hv=>?_⟩
     cases hv with|bptr _ _ M hM=>
     obtain ⟨hblk,hob⟩:=c.hr.obj a M hM
     rw [hcells] at hob
     obtain ⟨cc,t,hcc,hj⟩:=hob
     have hown:¬ O' M.blk:=c.out a M hM (by rw [hcells]; rfl) hm
     have hget:∀ k x,cells[k]?=some x→∃ u,cc[M.base+k]?=some u∧(cc[M.base+k]?).getD undef=u∧z0w ρ (z0k ρ h) w x u:=fun k x hx=>by
      obtain ⟨u,hu,hr⟩:=hj k x hx
      exact ⟨u,hu,by rw [hu]; rfl,hr⟩
     exact y96 _ M.blk M.base (fun k=>(cc[M.base+k]?).getD undef) hown (fun k hk=>by
      rw [b'] at hk
      obtain ⟨u,hu,h2,_⟩:=hget k _ (List.getElem?_eq_getElem hk)
      rw [h2]; exact z81 hcc hu) (e (fun k=>(cc[M.base+k]?).getD undef) (fun i x hx=>by
      obtain ⟨u,hu,h2,h3⟩:=hget i x hx
      rw [h2]; exact h3))
    ·cases hf
  |_=>simp only [z3t] at hf; cases hf
 | .bptr i off,x,cs,ws,hf,hc=>by
  cases x with
  |bptr a off'=>
   simp only [z3t] at hf
   cases hb:y47 σ i a&&Nat.beq off off' with
   |false=>rw [hb] at hf; cases hf
   |true=>
    rw [hb] at hf; cases hf
    simp only [Bool.and_eq_true] at hb
    have:=Nat.eq_of_beq_eq_true hb.2; subst this
    exact fun rest=>⟨rfl,fun v hv=>by cases hv with|bptr _ _ M hM=>exact .bptr _ _ M (by rw [c.loc _ _ (z33 hb.1)]; exact hM)⟩
  |_=>simp only [z3t] at hf; cases hf
 | .ptr i off,x,cs,ws,hf,hc=>by
  cases x with
  |ptr a j off'=>
   simp only [z3t] at hf
   cases hb:y47 σ i a&&Nat.beq off off' with
   |false=>rw [hb] at hf; cases hf
   |true=>
    rw [hb] at hf; cases hf
    simp only [Bool.and_eq_true] at hb
    have:=Nat.eq_of_beq_eq_true hb.2; subst this
    exact fun rest=>⟨rfl,fun v hv=>by cases hv with|ptr _ _ _ M hM=>exact .ptr _ _ _ M (by rw [c.loc _ _ (z33 hb.1)]; exact hM)⟩
  |_=>simp only [z3t] at hf; cases hf
 | .vec i z,x,cs,ws,hf,hc=>by
  cases x with
  |slice a z' off len cap=>
   cases cap with
   |some cp=>
    simp only [z3t] at hf
    cases hb:y47 σ i a&&Nat.beq z z' with
    |false=>rw [hb] at hf; cases hf
    |true=>
     rw [hb] at hf; simp only [cond_true] at hf
     simp only [Bool.and_eq_true] at hb
     have:=Nat.eq_of_beq_eq_true hb.2; subst this
     split at hf
     ·rename_i es hes
      cases hf
      simp only [z1z,Bool.and_true,Bool.and_eq_true] at hc
      have e1:=z8c hc.1
      have e2:=z8c hc.2.1
      refine fun rest=>⟨rfl,fun v hv=>?_⟩
      show z0w ρ' O' w (.slice i z 0 (z6r std L i) none) v
      have hle:=hc.2.2
      subst e1
      rw [←e2]
      exact x4b c.hr (c.loc _ _ (z33 hb.1)) hes hle hv
     ·cases hf
   |none=>
    simp only [z3t] at hf
    cases hb:y47 σ i a&&Nat.beq z z' with
    |false=>rw [hb] at hf; cases hf
    |true=>
     rw [hb] at hf; cases hf
     simp only [Bool.and_eq_true] at hb
     have:=Nat.eq_of_beq_eq_true hb.2; subst this
     simp only [z1z,Bool.and_true,Bool.and_eq_true] at hc
     have e1:=z8c hc.1
     have e2:=z8c hc.2
     refine fun rest=>⟨rfl,fun v hv=>?_⟩
     show z0w ρ' O' w (.slice i z 0 (z6r std L i) none) v
     subst e1
     rw [←e2]
     cases hv with
     |slice _ _ _ _ _ M a' cc hM hz ha hcc hl=>exact .slice _ _ _ _ _ M _ _ (by rw [c.loc _ _ (z33 hb.1)]; exact hM) hz ha hcc hl
     |nils _ _ _ _ a' hcc=>exact .nils _ _ _ _ _ hcc
  |d d=>
   cases d with
   |list f z' es=>
    cases f with
    |false=>cases es<;>(simp only [z3t] at hf; cases hf)
    |true=>
     cases es with
     |cons _ _=>simp only [z3t] at hf; cases hf
     |nil=>
      simp only [z3t] at hf
      cases hb:w1w σ i with
      |false=>rw [hb] at hf; cases hf
      |true=>
       rw [hb] at hf; simp only [cond_true] at hf
       split at hf
       ·rename_i hL
        cases hf
        refine fun rest=>⟨rfl,fun v hv=>?_⟩
        show z0w ρ' O' w (.slice i z 0 (z6r std L i) none) v
        have:z6r std L i=0:=by simp [z6r,hL,std]
        rw [this]
        cases hv with|d hv=>
        cases hv with
        |lnil _ _ a' cc hcc=>rw [hcc rfl]; exact .nils _ _ _ _ _ (.inl rfl)
        |list _ _ _ _ _ _ _ hne=>exact absurd rfl hne
       ·cases hf
   |_=>simp only [z3t] at hf; cases hf
  |_=>simp only [z3t] at hf; cases hf
 | .full i z,x,cs,ws,hf,hc=>by
  cases x with
  |slice a z' off len cap=>
   cases cap with
   |none=>simp only [z3t] at hf; cases hf
   |some cp=>
    simp only [z3t] at hf
    cases hb:y47 σ i a&&Nat.beq z z' with
    |false=>rw [hb] at hf; cases hf
    |true=>
     rw [hb] at hf; cases hf
     simp only [Bool.and_eq_true] at hb
     have:=Nat.eq_of_beq_eq_true hb.2; subst this
     simp only [z1z,Bool.and_true,Bool.and_eq_true] at hc
     have e1:=z8c hc.1
     have e2:=z8c hc.2.1
     have e3:=z8c hc.2.2
     refine fun rest=>⟨rfl,fun v hv=>?_⟩
     show z0w ρ' O' w (.slice i z 0 (z6r std L i) (some (z6r std L i))) v
     subst e1
     rw [←e2]
     rw [e3, ←e2] at hv
     cases hv with
     |slice _ _ _ _ _ M a' cc hM hz ha hcc hl=>exact .slice _ _ _ _ _ M _ _ (by rw [c.loc _ _ (z33 hb.1)]; exact hM) hz ha hcc hl
     |nils _ _ _ _ a' hcc=>exact .nils _ _ _ _ _ hcc
  |_=>simp only [z3t] at hf; cases hf
 | .sl i z,x,cs,ws,hf,hc=>by
  cases x with
  |slice a z' off len cap=>
   cases cap with
   |some cp=>
    simp only [z3t] at hf
    cases hb:y47 σ i a&&Nat.beq z z' with
    |false=>rw [hb] at hf; cases hf
    |true=>
     rw [hb] at hf; simp only [cond_true] at hf
     simp only [Bool.and_eq_true] at hb
     have:=Nat.eq_of_beq_eq_true hb.2; subst this
     split at hf
     ·rename_i es hes
      cases hf
      simp only [z1z,Bool.and_true] at hc
      refine fun rest=>⟨rfl,fun v hv=>?_⟩
      show z0w ρ' O' w (.slice i z off len none) v
      exact x4b c.hr (c.loc _ _ (z33 hb.1)) hes hc hv
     ·cases hf
   |none=>
    simp only [z3t] at hf
    cases hb:y47 σ i a&&Nat.beq z z' with
    |false=>rw [hb] at hf; cases hf
    |true=>
     rw [hb] at hf; cases hf
     simp only [Bool.and_eq_true] at hb
     have:=Nat.eq_of_beq_eq_true hb.2; subst this
     refine fun rest=>⟨rfl,fun v hv=>?_⟩
     show z0w ρ' O' w (.slice i z off len none) v
     cases hv with
     |slice _ _ _ _ _ M a' cc hM hz ha hcc hl=>exact .slice _ _ _ _ _ M _ _ (by rw [c.loc _ _ (z33 hb.1)]; exact hM) hz ha hcc hl
     |nils _ _ _ _ a' hcc=>exact .nils _ _ _ _ _ hcc
  |d d=>
   cases d with
   |list f z' es=>
    cases f with
    |false=>cases es<;>(simp only [z3t] at hf; cases hf)
    |true=>
     cases es with
     |cons _ _=>simp only [z3t] at hf; cases hf
     |nil=>
      simp only [z3t] at hf
      cases hb:w1w σ i with
      |false=>rw [hb] at hf; cases hf
      |true=>
       rw [hb] at hf; simp only [cond_true] at hf
       split at hf
       ·rename_i hL
        cases hf
        refine fun rest=>⟨rfl,fun v hv=>?_⟩
        show z0w ρ' O' w (.slice i z 0 0 none) v
        cases hv with|d hv=>
        cases hv with
        |lnil _ _ a' cc hcc=>rw [hcc rfl]; exact .nils _ _ _ _ _ (.inl rfl)
        |list _ _ _ _ _ _ _ hne=>exact absurd rfl hne
       ·cases hf
   |_=>simp only [z3t] at hf; cases hf
  |_=>simp only [z3t] at hf; cases hf
 | .slc i z,x,cs,ws,hf,hc=>by
  cases x with
  |slice a z' off len cap=>
   cases cap with
   |none=>simp only [z3t] at hf; cases hf
   |some cp=>
    simp only [z3t] at hf
    cases hb:y47 σ i a&&Nat.beq z z' with
    |false=>rw [hb] at hf; cases hf
    |true=>
     rw [hb] at hf; cases hf
     simp only [Bool.and_eq_true] at hb
     have:=Nat.eq_of_beq_eq_true hb.2; subst this
     refine fun rest=>⟨rfl,fun v hv=>?_⟩
     show z0w ρ' O' w (.slice i z off len (some cp)) v
     cases hv with
     |slice _ _ _ _ _ M a' cc hM hz ha hcc hl=>exact .slice _ _ _ _ _ M _ _ (by rw [c.loc _ _ (z33 hb.1)]; exact hM) hz ha hcc hl
     |nils _ _ _ _ a' hcc=>exact .nils _ _ _ _ _ hcc
  |_=>simp only [z3t] at hf; cases hf
 | .map i,x,cs,ws,hf,hc=>by
  cases x with
  |map a=>
   simp only [z3t] at hf
   cases hb:y47 σ i a with
   |false=>rw [hb] at hf; cases hf
   |true=>
    rw [hb] at hf; cases hf
    exact fun rest=>⟨rfl,fun v hv=>by cases hv with|map _ M hM=>exact .map _ M (by rw [c.loc _ _ (z33 hb)]; exact hM)⟩
  |_=>simp only [z3t] at hf; cases hf
 | .yld i,x,cs,ws,hf,hc=>by
  cases x with
  |yld a=>
   simp only [z3t] at hf
   cases hb:y47 σ i a with
   |false=>rw [hb] at hf; cases hf
   |true=>
    rw [hb] at hf; cases hf
    exact fun rest=>⟨rfl,fun v hv=>by cases hv with|yld _ M hM=>exact .yld _ M (by rw [c.loc _ _ (z33 hb)]; exact hM)⟩
  |_=>simp only [z3t] at hf; cases hf
 | .clo fn fs ds,x,cs,ws,hf,hc=>by
  cases x with
  |clo fn' fs' ds'=>
   cases fn' with
   |func g=>
    simp only [z3t] at hf
    cases hb:Nat.beq fn g with
    |false=>rw [hb] at hf; cases hf
    |true=>
     rw [hb] at hf; simp only [cond_true] at hf
     have:=Nat.eq_of_beq_eq_true hb; subst this
     split at hf
     ·rename_i c1 v1 c2 v2 h1 h2
      cases hf
      obtain ⟨q1,q2⟩:=z2t hc
      have i1:=z5b c fs fs' c1 v1 h1 q1
      have i2:=z5b c ds ds' c2 v2 h2 q2
      intro rest
      obtain ⟨a1,b1,e1⟩:=i1 (v2++rest)
      obtain ⟨a2,b2,e2⟩:=i2 rest
      simp only [w2l,List.append_assoc]
      rw [a1]
      refine ⟨a2,fun v hv=>?_⟩
      cases hv with|clo _ _ _ vf vc hl1 hl2 r1 r2=>
      exact .clo _ _ _ vf vc (by rw [b1]; exact hl1) (by rw [b2]; exact hl2) (e1 (fun i=>vf.getD i undef) r1) (e2 (fun i=>vc.getD i undef) r2)
     ·cases hf
   |_=>simp only [z3t] at hf; cases hf
  |_=>simp only [z3t] at hf; cases hf
 | .tuple l,x,cs,ws,hf,hc=>by
  cases x with
  |tuple xs=>
   simp only [z3t] at hf
   have ih:=z5b c l xs cs ws hf hc
   intro rest
   obtain ⟨a,b,e⟩:=ih rest
   refine ⟨a,fun v hv=>?_⟩
   cases hv with|tuple _ vs hl hh=>
   exact .tuple _ vs (by rw [b]; exact hl) (e (fun i=>vs.getD i undef) hh)
  |_=>simp only [z3t] at hf; cases hf
theorem z5b (c:w3n P ρ ρ' O' h w σ τ L):(ts:List VT)→(xs:List AV)→(cs:List Bool)→(ws:List Val)→y0j std h σ τ L ts xs=some (cs,ws)→z1z cs=true→VsOk ρ ρ' (z0k ρ h) O' w L ts xs ws
 |[],xs,cs,ws,hf,hc=>by
  cases xs with
  |nil=>simp only [y0j] at hf; cases hf; exact fun rest=>⟨rfl,rfl,fun f hf i y hy=>by simp [z6d] at hy⟩
  |cons _ _=>simp only [y0j] at hf; cases hf
 |t::ts,xs,cs,ws,hf,hc=>by
  cases xs with
  |nil=>simp only [y0j] at hf; cases hf
  |cons x xs=>
   simp only [y0j] at hf
   split at hf
   ·rename_i c1 v1 c2 v2 h1 h2
    cases hf
    obtain ⟨q1,q2⟩:=z2t hc
    have i1:=x8n c t x c1 v1 h1 q1
    have i2:=z5b c ts xs c2 v2 h2 q2
    intro rest
    obtain ⟨a1,e1⟩:=i1 (v2++rest)
    obtain ⟨a2,b2,e2⟩:=i2 rest
    simp only [z6d,List.append_assoc]
    rw [a1]
    refine ⟨a2,by simp [b2],fun f hff i y hy=>?_⟩
    cases i with
    |zero=>simp at hy; subst hy; exact e1 _ (hff 0 x rfl)
    |succ i=>exact e2 (fun i=>f (i+1)) (fun i x hx=>hff (i+1) x (by simpa using hx)) i y (by simpa using hy)
   ·cases hf
end
end
end Go.Am
end
section
namespace Go.Am
def w3k (h:List AO) (a:Nat) (es:List (List D)):Prop:=z0e h a= .row es∨∃ es0,z0e h a= .arow es0∧y5t es0=some es
def LOk (h:List AO):List OT→List (Option Nat)→List (Option AO)→Prop
 |[],[],[]=>True
 | .row _::t,some a::σ,some (.row es)::L=>w3k h a es∧LOk h t σ L
 | .row _::t,none::σ,some (.row [])::L=>LOk h t σ L
 | .map::t,some a::σ,some (.map es)::L=>z0e h a= .map es∧LOk h t σ L
 | .box _::t,some a::σ,none::L=>LOk h t σ L
 | .loop ..::t,some a::σ,none::L=>LOk h t σ L
 | .dead::t,_::σ,none::L=>LOk h t σ L
 |_,_,_=>False
theorem x8q (h:List AO):∀ (t:List OT) (σ:List (Option Nat)) (v:List Val),y1y h t σ=some v→∀ rest,(z62 t (v++rest)).2=rest∧LOk h t σ (z62 t (v++rest)).1∧(z62 t (v++rest)).1=(z62 t v).1:=by
 intro t
 induction t with
 |nil=>
  intro σ v hf rest
  cases σ with
  |nil=>simp only [y1y] at hf; cases hf; exact ⟨rfl,trivial,rfl⟩
  |cons _ _=>simp only [y1y] at hf; cases hf
 |cons o t ih=>
  intro σ v hf rest
  cases σ with
  |nil=>cases o<;>(simp only [y1y] at hf; cases hf)
  |cons s σ=>
   cases o with
   |row ck=>
    cases s with
    |some a=>
     simp only [y1y] at hf
     split at hf
     ·rename_i es hes
      cases hq:y1y h t σ with
      |none=>rw [hq] at hf; cases hf
      |some v'=>
       rw [hq] at hf; cases hf
       obtain ⟨a1,a2,a3⟩:=ih σ v' hq rest
       refine ⟨a1,⟨.inl hes,a2⟩,?_⟩
       exact congrArg (List.cons _) a3
     ·rename_i es0 hes
      split at hf
      ·rename_i l hl
       cases hq:y1y h t σ with
       |none=>rw [hq] at hf; cases hf
       |some v'=>
        rw [hq] at hf; cases hf
        obtain ⟨a1,a2,a3⟩:=ih σ v' hq rest
        refine ⟨a1,⟨.inr ⟨es0,hes,hl⟩,a2⟩,?_⟩
        exact congrArg (List.cons _) a3
      ·cases hf
     ·cases hf
    |none=>
     simp only [y1y] at hf
     cases hq:y1y h t σ with
     |none=>rw [hq] at hf; cases hf
     |some v'=>
      rw [hq] at hf; cases hf
      obtain ⟨a1,a2,a3⟩:=ih σ v' hq rest
      refine ⟨a1,a2,?_⟩
      exact congrArg (List.cons _) a3
   |map=>
    cases s with
    |some a=>
     simp only [y1y] at hf
     split at hf
     ·rename_i es hes
      cases hq:y1y h t σ with
      |none=>rw [hq] at hf; cases hf
      |some v'=>
       rw [hq] at hf; cases hf
       obtain ⟨a1,a2,a3⟩:=ih σ v' hq rest
       refine ⟨a1,⟨hes,a2⟩,?_⟩
       exact congrArg (List.cons _) a3
     ·cases hf
    |none=>simp only [y1y] at hf; cases hf
   |box l=>
    cases s with
    |some a=>
     simp only [y1y] at hf
     obtain ⟨a1,a2,a3⟩:=ih σ v hf rest
     refine ⟨a1,a2,?_⟩
     exact congrArg (List.cons _) a3
    |none=>simp only [y1y] at hf; cases hf
   |loop st pd g pos nt env=>
    cases s with
    |some a=>
     simp only [y1y] at hf
     obtain ⟨a1,a2,a3⟩:=ih σ v hf rest
     refine ⟨a1,a2,?_⟩
     exact congrArg (List.cons _) a3
    |none=>simp only [y1y] at hf; cases hf
   |dead=>
    have hf':y1y h t σ=some v:=by cases s<;>simpa only [y1y] using hf
    obtain ⟨a1,a2,a3⟩:=ih σ v hf' rest
    refine ⟨a1,by cases s<;>exact a2,?_⟩
    exact congrArg (List.cons _) a3
def OOk (ρ ρ':Rho) (O O':Nat→Prop) (h:List AO) (w:World):Option Nat→AO→Prop
 |some a,o=>(o= .dead)∨(∃ es,o= .row es∧w3k h a es)∨(∃ es,o= .map es∧z0e h a= .map es)∨
   (∃ cells ys,z0e h a= .box cells∧o= .box ys∧ys.length=cells.length∧∀ f:Nat→Value,(∀ i x,cells[i]?=some x→z0w ρ O w x (f i))→∀ i y,ys[i]?=some y→z0w ρ' O' w y (f i))∨
   (∃ st pd g pos nt env env',z0e h a= .loop st pd g pos nt env∧o= .loop st pd g pos nt env'∧∀ f:Nat→Value,(∀ t,z0w ρ O w (z0r env t) (f t))→∀ t,z0w ρ' O' w (z0r env' t) (f t))
 |none,o=>True
def HOk (ρ ρ':Rho) (O O':Nat→Prop) (h:List AO) (w:World):List (Option Nat)→List AO→Prop
 |[],[]=>True
 |s::σ,o::os=>OOk ρ ρ' O O' h w s o∧HOk ρ ρ' O O' h w σ os
 |_,_=>False
theorem HOk.nth {ρ ρ':Rho} {O O':Nat→Prop} {h:List AO} {w:World}:∀ {σ:List (Option Nat)} {os:List AO},HOk ρ ρ' O O' h w σ os→∀ i s,z2p σ i=some s→OOk ρ ρ' O O' h w s (z0e os i)
 |[],[],_,i,s,hs=>by simp [z2p] at hs
 |s0::σ,o::os,hk,i,s,hs=>by
  cases i with
  |zero=>simp [z2p] at hs; subst hs; exact hk.1
  |succ i=>exact HOk.nth hk.2 i s (by simpa [z2p] using hs)
 |[],_::_,hk,_,_,_=>hk.elim
 |_::_,[],hk,_,_,_=>hk.elim
theorem HOk.len {ρ ρ':Rho} {O O':Nat→Prop} {h:List AO} {w:World}:∀ {σ:List (Option Nat)} {os:List AO},HOk ρ ρ' O O' h w σ os→os.length=σ.length
 |[],[],_=>rfl
 |s0::σ,o::os,hk=>by simp [HOk.len hk.2]
 |[],_::_,hk=>hk.elim
 |_::_,[],hk=>hk.elim
theorem x8u {a b:LoopState} (h:v72 a b=true):a=b:=by cases a<;>cases b<;>first|rfl|cases h
theorem x8s {a b:Option Code} (h:v71 a b=true):a=b:=by
 cases a with
 |none=>cases b<;>first|rfl|cases h
 |some a=>
  cases b with
  |none=>cases a<;>cases h
  |some b=>
   cases a<;>cases b<;>first
    |rfl
    |cases h; done
    |(have:=Nat.eq_of_beq_eq_true h; subst this; rfl)
theorem y6x:∀ {a b:List Bool},y8e a b=true→a=b
 |[],[],_=>rfl
 |[],_::_,h=>by cases h
 |_::_,[],h=>by cases h
 |x::a,y::b,h=>by
  simp only [y8e,Bool.and_eq_true,beq_iff_eq] at h
  rw [h.1,y6x h.2]
section
variable {P:Program} {ρ ρ':Rho} {O':Nat→Prop} {h:List AO} {w:World} {σ τ:List (Option Nat)} {L:List (Option AO)}
theorem x8o (c:w3n P ρ ρ' O' h w σ τ L) (env:List (Nat×AV)):∀ (ts:List (Nat×VT)) (cs:List Bool) (ws:List Val),w8w std h σ τ L env ts=some (cs,ws)→z1z cs=true→
  ∀ rest,(w2m std L ts (ws++rest)).2=rest∧∀ f:Nat→Value,(∀ t,z0w ρ (z0k ρ h) w (z0r env t) (f t))→∀ t,z0w ρ' O' w (z0r (w2m std L ts (ws++rest)).1 t) (f t):=by
 intro ts
 induction ts with
 |nil=>intro cs ws hf hc rest; simp only [w8w] at hf; cases hf; exact ⟨rfl,fun f hff t=> .bot _⟩
 |cons kt ts ih=>
  obtain ⟨k,t⟩:=kt
  intro cs ws hf hc rest
  simp only [w8w] at hf
  split at hf
  ·rename_i c1 v1 c2 v2 h1 h2
   cases hf
   obtain ⟨q1,q2⟩:=z2t hc
   have i1:=x8n c t _ c1 v1 h1 q1
   obtain ⟨a1,e1⟩:=i1 (v2++rest)
   obtain ⟨a2,e2⟩:=ih c2 v2 h2 q2 rest
   simp only [w2m,List.append_assoc]
   rw [a1]
   refine ⟨a2,fun f hff t=>?_⟩
   simp only [z0r]
   cases hb:Nat.beq k t with
   |true=>have:=Nat.eq_of_beq_eq_true hb; subst this; exact e1 _ (hff k)
   |false=>exact e2 f hff t
  ·cases hf
theorem x8p (c:w3n P ρ ρ' O' h w σ τ L):∀ (ts:List OT) (σ':List (Option Nat)) (Lp:List (Option AO)) (cs:List Bool) (ws:List Val),LOk h ts σ' Lp→y81 std h σ τ L ts σ'=some (cs,ws)→z1z cs=true→
  ∀ rest,(y49 std L Lp ts (ws++rest)).2=rest∧HOk ρ ρ' (z0k ρ h) O' h w σ' (y49 std L Lp ts (ws++rest)).1:=by
 intro ts
 induction ts with
 |nil=>
  intro σ' Lp cs ws hl hf hc rest
  cases σ' with
  |nil=>simp only [y81] at hf; cases hf; cases Lp<;>exact ⟨rfl,trivial⟩
  |cons _ _=>simp only [y81] at hf; cases hf
 |cons t ts ih=>
  intro σ' Lp cs ws hl hf hc rest
  cases σ' with
  |nil=>cases t<;>(simp only [y81] at hf; cases hf)
  |cons s σ'=>
   cases t with
   |row ck=>
    cases s with
    |some a=>
     simp only [y81] at hf
     match Lp,hl with
     |some (.row es)::Lp,hl=>
      obtain ⟨a1,a2⟩:=ih σ' Lp cs ws hl.2 hf hc rest
      exact ⟨a1, .inr (.inl ⟨es,rfl,hl.1⟩),a2⟩
    |none=>
     simp only [y81] at hf
     match Lp,hl with
     |some (.row [])::Lp,hl=>
      obtain ⟨a1,a2⟩:=ih σ' Lp cs ws hl hf hc rest
      exact ⟨a1,trivial,a2⟩
   |map=>
    cases s with
    |some a=>
     simp only [y81] at hf
     match Lp,hl with
     |some (.map es)::Lp,hl=>
      obtain ⟨a1,a2⟩:=ih σ' Lp cs ws hl.2 hf hc rest
      exact ⟨a1, .inr (.inr (.inl ⟨es,rfl,hl.1⟩)),a2⟩
    |none=>
     match Lp,hl with
     |_,hl=>simp [LOk] at hl
   |dead=>
    have hf':y81 std h σ τ L ts σ'=some (cs,ws):=by cases s<;>simpa only [y81] using hf
    have:∃ Lp',Lp=none::Lp'∧LOk h ts σ' Lp':=by
     match s,Lp,hl with
     |some _,none::Lp',hl=>exact ⟨Lp',rfl,hl⟩
     |none,none::Lp',hl=>exact ⟨Lp',rfl,hl⟩
    obtain ⟨Lp',rfl,hl'⟩:=this
    obtain ⟨a1,a2⟩:=ih σ' Lp' cs ws hl' hf' hc rest
    exact ⟨a1,by cases s; exact trivial; exact .inl rfl,a2⟩
   |box l=>
    cases s with
    |none=>simp only [y81] at hf; cases hf
    |some a=>
     simp only [y81] at hf
     split at hf
     ·rename_i cells hcells
      split at hf
      ·rename_i c1 v1 c2 v2 h1 h2
       cases hf
       obtain ⟨q1,q2⟩:=z2t hc
       match Lp,hl with
       |none::Lp,hl=>
        obtain ⟨b1,b2,b3⟩:=z5b c l cells c1 v1 h1 q1 (v2++rest)
        obtain ⟨a1,a2⟩:=ih σ' Lp c2 v2 hl h2 q2 rest
        simp only [y49,v0y,List.append_assoc]
        rw [b1]
        exact ⟨a1, .inr (.inr (.inr (.inl ⟨cells,_,hcells,rfl,b2,b3⟩))),a2⟩
      ·cases hf
     ·cases hf
   |loop st pd g pos nt env=>
    cases s with
    |none=>simp only [y81] at hf; cases hf
    |some a=>
     simp only [y81] at hf
     split at hf
     ·rename_i st' pd' g' pos' nt' env' hob
      cases hb:v72 st st'&&(v71 pd pd'&&(Nat.beq g g'&&(y8e pos pos'&&Nat.beq nt nt'))) with
      |false=>rw [hb] at hf; cases hf
      |true=>
       rw [hb] at hf; simp only [cond_true] at hf
       simp only [Bool.and_eq_true] at hb
       obtain ⟨e1,e2,e3,e4,e5⟩:=hb
       have e1:=x8u e1
       have e2:=x8s e2
       have e3:=Nat.eq_of_beq_eq_true e3
       have e4:=y6x e4
       have e5:=Nat.eq_of_beq_eq_true e5
       subst e1; subst e2; subst e3; subst e4; subst e5
       split at hf
       ·rename_i c1 v1 c2 v2 h1 h2
        cases hf
        obtain ⟨q1,q2⟩:=z2t hc
        match Lp,hl with
        |none::Lp,hl=>
         obtain ⟨b1,b2⟩:=x8o c env' env c1 v1 h1 q1 (v2++rest)
         obtain ⟨a1,a2⟩:=ih σ' Lp c2 v2 hl h2 q2 rest
         simp only [y49,v0y,List.append_assoc]
         rw [b1]
         exact ⟨a1, .inr (.inr (.inr (.inr ⟨st,pd,g,pos,nt,env',_,hob,rfl,b2⟩))),a2⟩
       ·cases hf
     ·cases hf
theorem z7o {a:Nat}:∀ {σ:List (Option Nat)} {i:Nat},z2p σ i=some (some a)→y0c σ a=true
 |[],i,h=>by simp [z2p] at h
 |none::r,i,h=>by
  cases i with
  |zero=>simp [z2p] at h
  |succ i=>exact z7o (σ:=r) (i:=i) (by simpa [z2p] using h)
 |some b::r,i,h=>by
  cases i with
  |zero=>simp [z2p] at h; subst h; simp [y0c]
  |succ i=>simp only [y0c,z7o (σ:=r) (i:=i) (by simpa [z2p] using h),Bool.or_true]
theorem z8v:∀ {σ:List (Option Nat)},x5l σ=true→∀ {i j a:Nat},z2p σ i=some (some a)→z2p σ j=some (some a)→i=j
 |[],_,i,j,a,h1,_=>by simp [z2p] at h1
 |none::r,h,i,j,a,h1,h2=>by
  cases i with
  |zero=>simp [z2p] at h1
  |succ i=>
   cases j with
   |zero=>simp [z2p] at h2
   |succ j=>rw [z8v (σ:=r) h (i:=i) (j:=j) (by simpa [z2p] using h1) (by simpa [z2p] using h2)]
 |some b::r,h,i,j,a,h1,h2=>by
  simp only [x5l,Bool.and_eq_true,Bool.not_eq_true'] at h
  cases i with
  |zero=>
   cases j with
   |zero=>rfl
   |succ j=>
    simp [z2p] at h1; subst h1
    have:=z7o (σ:=r) (i:=j) (by simpa [z2p] using h2)
    rw [h.1] at this; cases this
  |succ i=>
   cases j with
   |zero=>
    simp [z2p] at h2; subst h2
    have:=z7o (σ:=r) (i:=i) (by simpa [z2p] using h1)
    rw [h.1] at this; cases this
   |succ j=>rw [z8v (σ:=r) h.2 (i:=i) (j:=j) (by simpa [z2p] using h1) (by simpa [z2p] using h2)]
theorem y0e:∀ {n k:Nat} {σ:List (Option Nat)},x0a k n σ=true→∀ i,i<n→z2p σ i=some (some (k+i))
 |0,k,σ,_,i,hi=>by omega
 |n+1,k,[],h,i,hi=>by cases h
 |n+1,k,none::r,h,i,hi=>by cases h
 |n+1,k,some a::r,h,i,hi=>by
  simp only [x0a,Bool.and_eq_true] at h
  cases i with
  |zero=>have:=Nat.eq_of_beq_eq_true h.1; simp [z2p,this]
  |succ i=>
   have:=y0e h.2 i (by omega)
   simp only [z2p]; rw [this]; congr 2; omega
def Rho.via (ρ:Rho) (σ:List (Option Nat)):Rho:=⟨fun i=>match z2p σ i with|some (some a)=>ρ a|_=>none,ρ.fr⟩
def y2h (ρ:Rho) (h:List AO) (σ:List (Option Nat)) (b:Nat):Prop:=ρ.fr b∨∃ i a M,z2p σ i=some (some a)∧(z0e h a).live=true∧ρ a=some M∧M.blk=b
theorem z34 {i:Nat} {M:Loc} (hv:(ρ.via σ) i=some M):∃ a,z2p σ i=some (some a)∧ρ a=some M:=by
 have hv':(match z2p σ i with|some (some a)=>ρ a|_=>none)=some M:=hv
 split at hv'
 ·rename_i a ha; exact ⟨a,ha,hv'⟩
 ·cases hv'
theorem v70 {τ:List (Option Nat)} (hr:z0d P ρ h w):w3n P ρ (ρ.via σ) (y2h ρ h τ) h w σ τ L where
 hr:=hr
 loc:=fun i a hi=>by show (match z2p σ i with|some (some a)=>ρ a|_=>none)=ρ a; rw [hi]
 sub:=fun b hb=>by
  rcases hb with hf|⟨i,a,M,h1,h2,h3,rfl⟩
  ·exact .inl hf
  ·exact .inr ⟨a,M,h3,h2,rfl⟩
 out:=fun a M hM hl hm ho=>by
  rcases ho with hf|⟨i,a',M',h1,h2,h3,h4⟩
  ·exact hr.sep a M hM hl hf
  ·have:=hr.inj a' a M' M h3 hM h2 hl h4
   subst this
   rw [z7o h1] at hm; cases hm
theorem w3k.live {h':List AO} {a:Nat} {es:List (List D)} (h:w3k h' a es):(z0e h' a).live=true:=by
 rcases h with h|⟨es0,h,_⟩<;>rw [h]<;>rfl
theorem y19:∀ {es0:List (List AV)} {es:List (List D)},y5t es0=some es→es0=z6i es
 |[],es,h=>by simp [y5t] at h; subst h; rfl
 |x::r,es,h=>by
  simp only [y5t] at h
  split at h
  ·rename_i d l h1 h2
   cases h
   rw [z2q h1,y19 h2]; rfl
  ·cases h
theorem OOk.live {O:Nat→Prop} {a:Nat} {o:AO} (hk:OOk ρ ρ' O O' h w (some a) o) (hl:o.live=true):(z0e h a).live=true:=by
 rcases hk with rfl|⟨es,rfl,hr⟩|⟨es,rfl,hr⟩|⟨cells,ys,hr,rfl,_⟩|⟨st,pd,g,pos,nt,env,env',hr,rfl,_⟩
 ·cases hl
 ·exact hr.live
 ·rw [hr]; rfl
 ·rw [hr]; rfl
 ·rw [hr]; rfl
theorem w0l (hr:z0d P ρ h w) {τ:List (Option Nat)} (hinj:x5l τ=true) {h':List AO} (hτ:∀ i a,z2p σ i=some (some a)→(z0e h' i).live=true→z2p τ i=some (some a)) (hk:HOk ρ (ρ.via σ) (z0k ρ h) (y2h ρ h τ) h w σ h'):z0d P (ρ.via σ) h' w∧∀ b,z0k (ρ.via σ) h' b→y2h ρ h τ b:=by
 have hown:∀ b,z0k (ρ.via σ) h' b→y2h ρ h τ b:=by
  intro b hb
  rcases hb with hf|⟨i,M,hM,hl,rfl⟩
  ·exact .inl hf
  ·obtain ⟨a,ha,hMa⟩:=z34 hM
   exact .inr ⟨i,a,M,hτ i a ha hl,(hk.nth i _ ha).live hl,hMa,rfl⟩
 have kp:z5m (z0k ρ h) (z0k (ρ.via σ) h') w w:=⟨Nat.le_refl _,fun _ _ _=>rfl,fun b _ hb=>(v70 (σ:=σ) (τ:=τ) (L:=[]) hr).sub b (hown b hb),fun _ _ h=>h,z0x.refl _⟩
 have kp2:z5m (y2h ρ h τ) (z0k (ρ.via σ) h') w w:=⟨Nat.le_refl _,fun _ _ _=>rfl,fun b _ hb=>hown b hb,fun _ _ h=>h,z0x.refl _⟩
 refine ⟨⟨fun i M hM=>?_,fun i j M M' h1 h2 l1 l2 hb=>?_,fun b hf=>hr.fr b hf,fun i M hM hl hf=>?_⟩,hown⟩
 ·obtain ⟨a,ha,hMa⟩:=z34 hM
  obtain ⟨o1,o2⟩:=hr.obj a M hMa
  refine ⟨o1,?_⟩
  rcases hk.nth i _ ha with e|⟨es,e,hrow⟩|⟨es,e,hmap⟩|⟨cells,ys,hbox,e,hlen,hys⟩|⟨st,pd,g,pos,nt,env,env',hlp,e,henv⟩
  ·rw [e]; trivial
  ·rw [e]
   rcases hrow with hrow|⟨es0,hrow,hdd⟩
   ·rw [hrow] at o2
    obtain ⟨hz,c,t,hc,hl,hj⟩:=o2
    exact ⟨hz,c,t,hc,hl,fun i r j x hi hx=>let ⟨v,hv,h1,hvr⟩:=hj i r j x hi hx; ⟨v,hv,h1,hvr.keep kp⟩⟩
   ·rw [hrow,y19 hdd] at o2
    obtain ⟨hz,c,t,hc,hl,hj⟩:=o2
    refine ⟨hz,c,t,hc,fun i r hi=>?_,fun i r j x hi hx=>?_⟩
    ·have:=hl i (toA r) (by rw [z3i,hi]; rfl)
     rwa [z1a] at this
    ·obtain ⟨v,hv,h1,hvr⟩:=hj i (toA r) j (.d x) (by rw [z3i,hi]; rfl) (by rw [z16,hx]; rfl)
     cases hvr with|d hvr=>exact ⟨v,hv,h1,hvr.keep kp⟩
  ·rw [e]; rw [hmap] at o2
   obtain ⟨en,clk,hc,hl,hj⟩:=o2
   exact ⟨en,clk,hc,hl,fun i k x hi=>let ⟨e,he,h1,h2⟩:=hj i k x hi; ⟨e,he,h1.keep kp,h2.keep kp⟩⟩
  ·rw [e]; rw [hbox] at o2
   obtain ⟨c,t,hc,hj⟩:=o2
   refine ⟨c,t,hc,fun j y hy=>?_⟩
   have hjl:j<cells.length:=by rw [←hlen]; exact (List.getElem?_eq_some_iff.1 hy).1
   obtain ⟨v,hv,_⟩:=hj j _ (List.getElem?_eq_getElem hjl)
   have:=hys (fun j=>(c[M.base+j]?).getD undef) (fun j x hx=>by
    obtain ⟨u,hu,hur⟩:=hj j x hx
    simp only [hu,Option.getD_some]; exact hur) j y hy
   simp only [hv,Option.getD_some] at this
   exact ⟨v,hv,this.keep kp2 (fun _ _ h=>h)⟩
  ·rw [e]; rw [hlp] at o2
   obtain ⟨x,ps,asg,body,hcd,tm,ds,f,hc,hl,hj⟩:=o2
   exact ⟨x,ps,asg,body,hcd,tm,ds,f,hc,hl,fun t=>(henv (fun t=>tm.getD t undef) hj t).keep kp2 (fun _ _ h=>h)⟩
 ·obtain ⟨a,ha,hMa⟩:=z34 h1
  obtain ⟨a',ha',hMa'⟩:=z34 h2
  have:=hr.inj a a' M M' hMa hMa' ((hk.nth i _ ha).live l1) ((hk.nth j _ ha').live l2) hb
  subst this
  exact z8v hinj (hτ _ _ ha l1) (hτ _ _ ha' l2)
 ·obtain ⟨a,ha,hMa⟩:=z34 hM
  exact hr.sep a M hMa ((hk.nth i _ ha).live hl) hf
theorem y6i:∀ {ts:List OT} {σ:List (Option Nat)} {i a:Nat},z2p σ i=some (some a)→i<ts.length→ts[i]?≠some .dead→z2p (y2x ts σ) i=some (some a)
 |[],_,i,a,_,h,_=>by simp at h
 |t::ts,[],i,a,h,_,_=>by simp [z2p] at h
 |t::ts,s::σ,0,a,h,_,hd=>by
  simp [z2p] at h; subst h
  cases t<;>first|exact absurd rfl hd|rfl
 |t::ts,s::σ,i+1,a,h,hl,hd=>by
  have:=y6i (ts:=ts) (σ:=σ) (i:=i) (a:=a) (by simpa [z2p] using h) (by simpa using hl) (by simpa using hd)
  cases t<;>exact this
theorem x0n:∀ (ts:List OT) (vs:List Val) (i:Nat),ts[i]?=some .dead→z2p (z62 ts vs).1 i=some none
 |[],vs,i,h=>by simp at h
 |t::ts,vs,0,h=>by
  simp at h; subst h; simp [z62,z2p]
 |t::ts,vs,i+1,h=>by
  have ih:=fun vs=>x0n ts vs i (by simpa using h)
  cases t<;>cases vs<;>(try (rename_i v vs; cases v))<;>simp only [z62,z2p]<;>exact ih _
theorem x0m (p:Prim) (L:List (Option AO)):∀ (os:List (Option AO)) (ts:List OT) (vs:List Val) (i:Nat),ts[i]?=some .dead→z2p os i=some none→z0e (y49 p L os ts vs).1 i= .dead
 |[],ts,vs,i,h,h2=>by simp [z2p] at h2
 |o::os,[],vs,i,h,h2=>by simp at h
 |o::os,t::ts,vs,0,h,h2=>by
  simp at h; subst h
  simp [z2p] at h2; subst h2
  rfl
 |o::os,t::ts,vs,i+1,h,h2=>by
  simp only [y49,z0e]
  exact x0m p L os ts _ i (by simpa using h) (by simpa [z2p] using h2)
theorem x3z (p:Prim) (L:List (Option AO)):∀ (os:List (Option AO)) (ts:List OT) (vs:List Val),(y49 p L os ts vs).1.length≤ts.length
 |[],ts,vs=>by simp [y49]
 |o::os,[],vs=>by simp [y49]
 |o::os,t::ts,vs=>by
  simp only [y49,List.length_cons]
  exact Nat.succ_le_succ (x3z p L os ts _)
theorem w7c {n : Nat} {t : ST} {s : AS} {cs : List Bool} {vs : List Val} (hf : v7z std n t σ s = some (cs, vs)) (hc : z1z cs = true) : z2a n s (x88 std t vs) ∧ n ≤ (x88 std t vs).heap.length := by
  unfold v7z at hf
  cases hb : Nat.beq s.nt t.nt && (x5l (y2x t.heap σ) && x0a 0 n σ) with
  | false => rw [hb] at hf; cases hf
  | true =>
    rw [hb] at hf; simp only [cond_true] at hf
    simp only [Bool.and_eq_true] at hb
    obtain ⟨hnt, hinj, hkeep⟩ := hb
    have hnt := Nat.eq_of_beq_eq_true hnt
    split at hf
    · rename_i v1 h1
      split at hf
      · rename_i c2 v2 c3 v3 h2 h3
        cases hf
        obtain ⟨q2, q3⟩ := z2t hc
        obtain ⟨a1, a2, a3⟩ := x8q s.heap t.heap σ v1 h1 (v2 ++ v3)
        have main : ∀ (P : Program) (ρ : Rho) (w : World), z0d P ρ s.heap w → (y49 std (z62 t.heap (v1 ++ (v2 ++ v3))).1 (z62 t.heap (v1 ++ (v2 ++ v3))).1 t.heap (z62 t.heap (v1 ++ (v2 ++ v3))).2).2 = v3 ∧
            HOk ρ (ρ.via σ) (z0k ρ s.heap) (y2h ρ s.heap (y2x t.heap σ)) s.heap w σ (x88 std t (v1 ++ (v2 ++ v3))).heap ∧
            ∀ f : Nat → Value, (∀ t, z0w ρ (z0k ρ s.heap) w (z0r s.env t) (f t)) → ∀ t', z0w (ρ.via σ) (y2h ρ s.heap (y2x t.heap σ)) w (z0r (x88 std t (v1 ++ (v2 ++ v3))).env t') (f t') := by
          intro P ρ w hr
          rw [← a3] at h2 h3
          have cx := v70 (P := P) (σ := σ) (τ := y2x t.heap σ) (L := (z62 t.heap (v1 ++ (v2 ++ v3))).1) hr
          obtain ⟨b1, b2⟩ := x8p cx t.heap σ (z62 t.heap (v1 ++ (v2 ++ v3))).1 c2 v2 a2 h2 q2 v3
          rw [a1]
          refine ⟨b1, ?_, ?_⟩
          · show HOk _ _ _ _ _ _ _ (y49 std _ _ t.heap (z62 t.heap (v1 ++ (v2 ++ v3))).2).1
            rw [a1]; exact b2
          · have := (x8o cx s.env t.env c3 v3 h3 q3 []).2
            rw [List.append_nil] at this
            show ∀ f : Nat → Value, _ → ∀ t', z0w _ _ _ (z0r (w2m std _ t.env (y49 std _ _ t.heap (z62 t.heap (v1 ++ (v2 ++ v3))).2).2).1 t') (f t')
            rw [a1, b1]; exact this
        have hlen : (x88 std t (v1 ++ (v2 ++ v3))).heap.length = σ.length := by
          have hr0 : z0d default ⟨fun _ => none, fun _ => False⟩ s.heap default :=
            { obj := fun _ _ h => by cases h
              inj := fun _ _ _ _ h => by cases h
              fr := fun _ h => h.elim
              sep := fun _ _ h => by cases h }
          exact (main _ _ _ hr0).2.1.len
        have hnl : n ≤ σ.length := by
          cases n with
          | zero => omega
          | succ n =>
            have := y0e hkeep n (by omega)
            rw [z12] at this
            have := (List.getElem?_eq_some_iff.1 this).1
            omega
        refine ⟨⟨fun {P} ρ tm w hs => ?_⟩, by rw [hlen]; exact hnl⟩
        obtain ⟨m1, m2, m3⟩ := main P ρ w hs.heap
        obtain ⟨v1', v2'⟩ := w0l hs.heap hinj (fun i a hi hl => by
          have hlt : i < t.heap.length := by
            have h1 : i < (x88 std t (v1 ++ (v2 ++ v3))).heap.length := by
              refine Nat.lt_of_not_le fun hge => ?_
              rw [x1x _ _ hge] at hl; cases hl
            exact Nat.lt_of_lt_of_le h1 (x3z _ _ _ _ _)
          refine y6i hi hlt fun hd => ?_
          have : z0e (x88 std t (v1 ++ (v2 ++ v3))).heap i = .dead := x0m _ _ _ _ _ _ hd (x0n _ _ _ hd)
          rw [this] at hl; cases hl) m2
        have kp2 : z5m (y2h ρ s.heap (y2x t.heap σ)) (z0k (ρ.via σ) (x88 std t (v1 ++ (v2 ++ v3))).heap) w w := ⟨Nat.le_refl _, fun _ _ _ => rfl, fun b _ hb => v2' b hb, fun _ _ h => h, z0x.refl _⟩
        have hrho : ∀ id, id < n → (ρ.via σ) id = ρ id := fun id hid => by
          have := y0e hkeep id hid
          rw [Nat.zero_add] at this
          show (match z2p σ id with | some (some a) => ρ a | _ => none) = ρ id
          rw [this]
        refine ⟨ρ.via σ, ⟨v1', fun t' => (m3 (fun t => tm.getD t undef) hs.env t').keep kp2 (fun _ _ h => h), hs.size.trans hnt, fun id hid => ?_⟩, hnt.symm, ?_, hrho⟩
        · rw [hlen]
          cases hq : (ρ.via σ) id with
          | none => exact absurd hq hid
          | some M =>
            obtain ⟨a, ha, _⟩ := z34 hq
            rw [z12] at ha
            exact (List.getElem?_eq_some_iff.1 ha).1
        · exact { os := rfl, tape := rfl, output := rfl, keep := ⟨Nat.le_refl _, fun _ _ _ => rfl, fun b _ hb => (v70 (σ := σ) (τ := y2x t.heap σ) (L := []) hs.heap).sub b (v2' b hb), fun _ _ h => h, z0x.refl _⟩, rho := fun id hid => hrho id hid, fr := rfl, frs := fun _ _ => rfl }
      · cases hf
    · cases hf
end
end Go.Am
end
section
namespace Go.Am
def z6b {S R:Type} (b:S→Option (S⊕R)):Nat→S→Option R
 |0,_=>none
 |n+1,s=>match b s with
  |some (.inl s')=>z6b b n s'
  |some (.inr r)=>some r
  |none=>none
open Classical in
noncomputable def y0g {S R:Type} (b:S→Option (S⊕R)) (s:S):Option R:=
 if h:∃ r n,z6b b n s=some r then some h.choose else none
theorem y6o {S R:Type} {b:S→Option (S⊕R)}:∀ {n:Nat} {s:S} {r:R},z6b b n s=some r→∀ m,n≤m→z6b b m s=some r:=by
 intro n
 induction n with
 |zero=>intro s r h; simp [z6b] at h
 |succ n ih=>
  intro s r h m hm
  obtain ⟨m,rfl⟩:∃ k,m=k+1:=⟨m - 1,by omega⟩
  simp only [z6b] at h⊢
  split at h
  ·exact ih h m (by omega)
  ·exact h
  ·cases h
theorem y07 {S R:Type} {b:S→Option (S⊕R)} {s:S} {r:R} (h:y0g b s=some r):∃ n,z6b b n s=some r:=by
 unfold y0g at h
 split at h
 ·rename_i hx
  cases h
  exact hx.choose_spec
 ·cases h
theorem y78 {S R:Type} {b:S→Option (S⊕R)} {s:S} {r:R} {n:Nat} (h:z6b b n s=some r):y0g b s=some r:=by
 have hx:∃ r n,z6b b n s=some r:=⟨r,n,h⟩
 unfold y0g
 rw [dif_pos hx]
 obtain ⟨m,hm⟩:=hx.choose_spec
 have a:=y6o h (max n m) (Nat.le_max_left _ _)
 have b':=y6o hm (max n m) (Nat.le_max_right _ _)
 rw [a] at b'; exact b'.symm
theorem y0f {S R:Type} (b:S→Option (S⊕R)) (s:S):y0g b s=match b s with
  |some (.inl s')=>y0g b s'
  |some (.inr r)=>some r
  |none=>none:=by
 cases hb:b s with
 |none=>
  cases hq:y0g b s with
  |none=>rfl
  |some r=>
   obtain ⟨n,hn⟩:=y07 hq
   cases n with
   |zero=>simp [z6b] at hn
   |succ n=>simp [z6b,hb] at hn
 |some x=>
  cases x with
  |inr r=>exact y78 (n:=1) (by simp [z6b,hb])
  |inl s'=>
   simp only
   cases hq:y0g b s' with
   |some r=>
    obtain ⟨n,hn⟩:=y07 hq
    exact y78 (n:=n+1) (by simp [z6b,hb,hn])
   |none=>
    cases hq2:y0g b s with
    |none=>rfl
    |some r=>
     obtain ⟨n,hn⟩:=y07 hq2
     cases n with
     |zero=>simp [z6b] at hn
     |succ n=>
      simp [z6b,hb] at hn
      rw [y78 hn] at hq; cases hq
mutual
def v9w:VT→List Sc
 | .int _=>[.int]
 | .bool=>[.bool]
 | .str=>[.str]
 | .list _=>[.rows]
 | .agg l=>y9s l
 | .ref l=>y9s l
 | .ptr _ _=>[.nat]
 | .sl _ _=>[.nat, .nat]
 | .slc _ _=>[.nat, .nat, .nat]
 | .clo _ fs cs=>y9s fs++y9s cs
 | .tuple l=>y9s l
 |_=>[]
def y9s:List VT→List Sc
 |[]=>[]
 |t::ts=>v9w t++y9s ts
end
def v4n:List (Nat×VT)→List Sc
 |[]=>[]
 |(_,t)::ts=>v9w t++v4n ts
def w89:List OT→List Sc
 |[]=>[]
 | .row _::t=> .rows::w89 t
 | .map::t=> .map::w89 t
 |_::t=>w89 t
def w88:List OT→List Sc
 |[]=>[]
 | .box l::t=>y9s l++w88 t
 | .loop _ _ _ _ _ env::t=>v4n env++w88 t
 |_::t=>w88 t
def ST.scs (t:ST):List Sc:=w89 t.heap++(w88 t.heap++v4n t.env)
def y77:List OT→List (List CK)
 |[]=>[]
 | .row ck::t=>ck::y77 t
 |_::t=>[]::y77 t
def y2y (p:Prim) (t:ST) (x:Tup t.scs):SS:=⟨x88 p t (z91 t.scs x),y77 t.heap⟩
mutual
def v20:VT→AV→List (Nat×Nat)
 | .bptr i _, .bptr a _=>[(i,a)]
 | .ptr i _, .ptr a _ _=>[(i,a)]
 | .vec i _, .slice a _ _ _ _=>[(i,a)]
 | .full i _, .slice a _ _ _ _=>[(i,a)]
 | .sl i _, .slice a _ _ _ _=>[(i,a)]
 | .slc i _, .slice a _ _ _ _=>[(i,a)]
 | .map i, .map a=>[(i,a)]
 | .yld i, .yld a=>[(i,a)]
 | .agg l, .agg xs=>y2l l xs
 | .tuple l, .tuple xs=>y2l l xs
 | .clo _ fs cs, .clo _ fs' cs'=>y2l fs fs'++y2l cs cs'
 |_,_=>[]
def y2l:List VT→List AV→List (Nat×Nat)
 |t::ts,x::xs=>v20 t x++y2l ts xs
 |_,_=>[]
end
def w8b (env:List (Nat×AV)):List (Nat×VT)→List (Nat×Nat)
 |[]=>[]
 |(k,t)::ts=>v20 t (z0r env k)++w8b env ts
def v5w:List (Nat×Nat)→Nat→Option Nat
 |[],_=>none
 |(i,a)::r,j=>bif Nat.beq i j then some a else v5w r j
def v8p (h:List AO) (a:Nat):OT→List (Nat×Nat)
 | .box l=>match z0e h a with
  | .box cells=>y2l l cells
  |_=>[]
 | .loop _ _ _ _ _ env=>match z0e h a with
  | .loop _ _ _ _ _ env'=>w8b env' env
  |_=>[]
 |_=>[]
def w8a (h:List AO):Nat→List OT→List (Nat×Nat)→List (Nat×Nat)
 |_,[],b=>b
 |i,t::ts,b=>match v5w b i with
  |some a=>w8a h (i+1) ts (b++v8p h a t)
  |none=>w8a h (i+1) ts b
def w29 (h:List AO) (ts:List OT):Nat→List (Nat×Nat)→List (Nat×Nat)
 |0,b=>b
 |n+1,b=>w29 h ts n (w8a h 0 ts b)
def w38:Nat→List (Nat×Nat)
 |0=>[]
 |n+1=>(n,n)::w38 n
def w0w (b:List (Nat×Nat)):Nat→List OT→List (Option Nat)
 |_,[]=>[]
 |i,_::ts=>v5w b i::w0w b (i+1) ts
def w7e (n:Nat) (t:ST) (s:AS):List (Option Nat):=w0w (w29 s.heap t.heap 2 (w38 n++w8b s.env t.env)) 0 t.heap
def w0e (p:Prim) (n:Nat) (t:ST) (s:AS):Option (List Bool×Tup t.scs):=
 match v7z p n t (w7e n t s) s with
 |some (cs,vs)=>match w59 t.scs vs with
  |some x=>some (cs,x)
  |none=>none
 |none=>none
theorem y1x {n:Nat} {t:ST} {s:AS} {cs:List Bool} {x:Tup t.scs} (h:w0e std n t s=some (cs,x)) (hc:z1z cs=true):z2a n s (y2y std t x).s∧n≤(y2y std t x).s.heap.length:=by
 unfold w0e at h
 split at h
 ·rename_i cs' vs hf
  split at h
  ·rename_i x' hx
   cases h
   have:=w7c hf hc
   show z2a n s (x88 std t (z91 t.scs x))∧_≤(x88 std t (z91 t.scs x)).heap.length
   rw [y3q hx]; exact this
  ·cases h
 ·cases h
def y1v (A:Alg) (β:Type):List Bool→A.Ω β→A.Ω β
 |[],k=>k
 |c::cs,k=>A.need β c (y1v A β cs k)
theorem z1t {β:Type} {b:β}:∀ {cs:List Bool} {k:Option β},y1v opt β cs k=some b→z1z cs=true∧k=some b
 |[],k,h=>⟨rfl,h⟩
 |c::cs,k,h=>by
  obtain ⟨hc,h⟩:=z5g h
  obtain ⟨h1,h2⟩:=z1t (cs:=cs) h
  exact ⟨by simp [z1z,hc,h1],h2⟩
def v0u:AX→AX→Bool
 | .normal, .normal=>true
 | .ret, .ret=>true
 | .exit i, .exit j=>Nat.beq i j
 |_,_=>false
theorem x0l {a b:AX} (h:v0u a b=true):a=b:=by
 cases a<;>cases b<;>first
  |rfl
  |cases h; done
  |(have:=Nat.eq_of_beq_eq_true h; subst this; rfl)
abbrev x56:=List (AX×ST)
def scss:x56→List (List Sc)
 |[]=>[]
 |o::os=>o.2.scs::scss os
def z8x (p:Prim) (n:Nat):(os:x56)→AX→AS→Option (List Bool×STup (scss os))
 |[],_,_=>none
 |[o],e,s=>bif v0u o.1 e then w0e p n o.2 s else none
 |o::o'::os,e,s=>match (bif v0u o.1 e then w0e p n o.2 s else none:Option (List Bool×Tup o.2.scs)) with
  |some (cs,x)=>some (cs, .inl x)
  |none=>match z8x p n (o'::os) e s with
   |some (cs,y)=>some (cs, .inr y)
   |none=>none
def z1s (p:Prim):(os:x56)→STup (scss os)→AX×SS
 |[],y=>Empty.elim y
 |[o],x=>(o.1,y2y p o.2 x)
 |o::o'::os, .inl x=>(o.1,y2y p o.2 x)
 |o::o'::os, .inr y=>z1s p (o'::os) y
theorem z9h {n:Nat}:∀ {os:x56} {e:AX} {s:AS} {cs:List Bool} {y:STup (scss os)},z8x std n os e s=some (cs,y)→z1z cs=true→(z1s std os y).1=e∧z2a n s (z1s std os y).2.s∧n≤(z1s std os y).2.s.heap.length
 |[],e,s,cs,y,h,hc=>by cases h
 |[o],e,s,cs,y,h,hc=>by
  simp only [z8x] at h
  cases hb:v0u o.1 e with
  |false=>rw [hb] at h; cases h
  |true=>
   rw [hb] at h
   exact ⟨x0l hb,y1x h hc⟩
 |o::o'::os,e,s,cs,y,h,hc=>by
  simp only [z8x] at h
  split at h
  ·rename_i cs' x hx
   cases h
   cases hb:v0u o.1 e with
   |false=>rw [hb] at hx; cases hx
   |true=>
    rw [hb] at hx
    exact ⟨x0l hb,y1x hx hc⟩
  ·split at h
   ·rename_i cs' y' hy
    cases h
    exact z9h (os:=o'::os) (y:=y') hy hc
   ·cases h
def x01 (A:Alg) (β:Type) (p:Prim):(os:x56)→Option (STup (scss os))→(AX→SS→A.Ω β)→A.Ω β
 |[],_,_=>A.no β 81
 |[o],x,k=>A.bnd _ β x fun y=>k o.1 (y2y p o.2 y)
 |o::o'::os,x,k=>A.alt _ _ β x (fun y=>k o.1 (y2y p o.2 y)) (fun z=>x01 A β p (o'::os) (some z) k)
theorem z51 {β:Type} {b:β}:∀ {os:x56} {x:Option (STup (scss os))} {k:AX→SS→Option β},x01 opt β std os x k=some b→∃ y,x=some y∧k (z1s std os y).1 (z1s std os y).2=some b
 |[],x,k,h=>by cases h
 |[o],x,k,h=>by
  obtain ⟨y,h1,h2⟩:=w28 h
  exact ⟨y,h1,h2⟩
 |o::o'::os,x,k,h=>by
  simp only [x01,opt] at h
  cases x with
  |none=>cases h
  |some z=>
   cases z with
   |inl y=>exact ⟨.inl y,rfl,h⟩
   |inr y=>
    obtain ⟨y1,e,h2⟩:=z51 (os:=o'::os) (x:=some y) (k:=k) h
    cases e
    exact ⟨.inr y,rfl,h2⟩
structure y8x where
 head:ST
 outs:x56
def x3n (A:Alg) (p:Prim) (rec:x06 A) (n g:Nat) (pos:List Bool) (c:Code) (a:y8x) (x:Tup a.head.scs):A.Ω (Tup a.head.scs⊕STup (scss a.outs)):=
 rec _ n g (false::pos) c (y2y p a.head x) fun e s=>match e with
  | .normal=>match w0e p n a.head s.s with
   |some (cs,x')=>y1v A _ cs (A.ret _ (.inl x'))
   |none=>A.no _ 82
  |e=>match z8x p n a.outs e s.s with
   |some (cs,y)=>y1v A _ cs (A.ret _ (.inr y))
   |none=>A.no _ 83
noncomputable def w6p (A:Alg) (p:Prim) (rec:x06 A) (n g:Nat) (pos:List Bool) (c:Code) (a:y8x) (β:Type) (ss:SS) (k:AX→SS→A.Ω β):A.Ω β:=
 match w0e p n a.head ss.s with
 |some (cs,x)=>y1v A β cs (x01 A β p a.outs (y0g (fun x=>A.run _ (x3n A p rec n g pos c a x)) x) k)
 |none=>A.no β 84
section
variable {P:Program}
theorem z2u.seen {n:Nat} {c:Code} {s:AS} {e0:AX} {s1 s2:AS} (h:z2u P n c s (fun e' s'=>e'=e0∧s'=s1)) (hv:z2a n s1 s2):z2u P n c s (fun e' s'=>e'=e0∧s'=s2):=
 z0t (h.mono fun e' s' hq=>by obtain ⟨rfl,rfl⟩:=hq; exact ⟨_,hv,rfl,rfl⟩)
theorem w1l {rec:x06 opt} (hr:x07 P rec) {n g:Nat} {pos:List Bool} {c:Code} (hcd:z07 P g pos=some (.loop c)) {a:y8x} {β:Type} {ss:SS} {k:AX→SS→Option β} {b:β} (hn:n≤ss.s.heap.length)
  (h:w6p opt std rec n g pos c a β ss k=some b):∃ e ss',n≤ss'.s.heap.length∧z2u P n (.loop c) ss.s (fun e' s2=>e'=e∧s2=ss'.s)∧k e ss'=some b:=by
 unfold w6p at h
 split at h
 ·rename_i cs x hx
  obtain ⟨hc,h⟩:=z1t h
  obtain ⟨y,hy,h⟩:=z51 h
  obtain ⟨v1,v2⟩:=y1x hx hc
  obtain ⟨m,hm⟩:=y07 hy
  have hbody:z07 P g (false::pos)=some c:=by simp [z07,hcd,w82]
  have key:∀ (m:Nat) (x:Tup a.head.scs),n≤(y2y std a.head x).s.heap.length→z6b (fun x=>opt.run _ (x3n opt std rec n g pos c a x)) m x=some y→
    n≤(z1s std a.outs y).2.s.heap.length∧z2u P n (.loop c) (y2y std a.head x).s (fun e' s2=>e'=(z1s std a.outs y).1∧s2=(z1s std a.outs y).2.s):=by
   intro m
   induction m with
   |zero=>intro x _ h; simp [z6b] at h
   |succ m ih=>
    intro x hnx hit
    simp only [z6b] at hit
    split at hit
    ·rename_i x' hb
     obtain ⟨e,s',l1,l2,hk⟩:=hr _ _ _ _ _ _ _ _ hbody hnx hb
     cases e with
     |normal=>
      simp only at hk
      split at hk
      ·rename_i cs' x'' hf
       obtain ⟨hc',hk⟩:=z1t hk
       cases hk
       obtain ⟨w1,w2⟩:=y1x hf hc'
       obtain ⟨i1,i2⟩:=ih _ w2 hit
       refine ⟨i1,z3d ((l2.seen w1).mono fun e' s2 hq=>?_)⟩
       obtain ⟨rfl,rfl⟩:=hq
       exact i2
      ·cases hk
     |exit j=>
      simp only at hk
      split at hk
      ·obtain ⟨_,hk⟩:=z1t hk; cases hk
      ·cases hk
     |ret=>
      simp only at hk
      split at hk
      ·obtain ⟨_,hk⟩:=z1t hk; cases hk
      ·cases hk
    ·rename_i y' hb
     cases hit
     obtain ⟨e,s',l1,l2,hk⟩:=hr _ _ _ _ _ _ _ _ hbody hnx hb
     have fin:∀ cs,z8x std n a.outs e s'.s=some (cs,y)→z1z cs=true→e≠ .normal→n≤(z1s std a.outs y).2.s.heap.length∧z2u P n (.loop c) (y2y std a.head x).s (fun e' s2=>e'=(z1s std a.outs y).1∧s2=(z1s std a.outs y).2.s):=by
      intro cs hf hc' hne
      obtain ⟨e1,w1,w2⟩:=z9h hf hc'
      refine ⟨w2,z3d ((l2.seen w1).mono fun e' s2 hq=>?_)⟩
      obtain ⟨rfl,rfl⟩:=hq
      cases e' with
      |normal=>exact absurd rfl hne
      |exit j=>exact ⟨e1.symm,rfl⟩
      |ret=>exact ⟨e1.symm,rfl⟩
     cases e with
     |normal=>
      simp only at hk
      split at hk
      ·obtain ⟨_,hk⟩:=z1t hk; cases hk
      ·cases hk
     |exit j=>
      simp only at hk
      split at hk
      ·rename_i cs' y'' hf
       obtain ⟨hc',hk⟩:=z1t hk
       cases hk
       exact fin _ hf hc' (by simp)
      ·cases hk
     |ret=>
      simp only at hk
      split at hk
      ·rename_i cs' y'' hf
       obtain ⟨hc',hk⟩:=z1t hk
       cases hk
       exact fin _ hf hc' (by simp)
      ·cases hk
    ·cases hit
  obtain ⟨k1,k2⟩:=key m x v2 hm
  exact ⟨_,_,k1,z09 v1 k2,h⟩
 ·cases h
def w6x (A:Alg) (p:Prim) (n:Nat) (os:x56) (β:Type) (body:(γ:Type)→(AX→SS→A.Ω γ)→A.Ω γ) (k:AX→SS→A.Ω β):A.Ω β:=
 x01 A β p os (A.run _ (body _ fun e s=>match z8x p n os e s.s with
  |some (cs,y)=>y1v A _ cs (A.ret _ y)
  |none=>A.no _ 85)) k
theorem w1v {n:Nat} {os:x56} {β:Type} {body:(γ:Type)→(AX→SS→Option γ)→Option γ} {k:AX→SS→Option β} {b:β} {G:AX→SS→Prop} (hb:∀ γ k (b:γ),body γ k=some b→∃ e ss',G e ss'∧k e ss'=some b)
  (h:w6x opt std n os β body k=some b):∃ e ss1 ss',G e ss1∧z2a n ss1.s ss'.s∧(n≤ss1.s.heap.length→n≤ss'.s.heap.length)∧k e ss'=some b:=by
 unfold w6x at h
 obtain ⟨y,hy,h⟩:=z51 h
 obtain ⟨e,ss1,hg,hk⟩:=hb _ _ _ hy
 split at hk
 ·rename_i cs y' hf
  obtain ⟨hc,hk⟩:=z1t hk
  cases hk
  obtain ⟨e1,w1,w2⟩:=z9h hf hc
  subst e1
  exact ⟨_,ss1,_,hg,w1,fun _=>w2,h⟩
 ·cases hk
end
end Go.Am
end
section
namespace Go.Am
structure Ctr where
 g:FuncId
 args:List VT
 heap:List OT
 outs:x56
def Ctr.scs (c:Ctr):List Sc:=w89 c.heap++(w88 c.heap++y9s c.args)
def y2z (p:Prim) (c:Ctr) (vs:List Val):List AV×List AO:=
 ((z6d p (z62 c.heap vs).1 c.args (y49 p (z62 c.heap vs).1 (z62 c.heap vs).1 c.heap (z62 c.heap vs).2).2).1,(y49 p (z62 c.heap vs).1 (z62 c.heap vs).1 c.heap (z62 c.heap vs).2).1)
def CtrOk (P:Program) (c:Ctr) (F:Tup c.scs→Option (STup (scss c.outs))):Prop:=
 z13 P c.g∧∀ x y,F x=some y→(y2z std c (z91 c.scs x)).2.length≤(z1s std c.outs y).2.s.heap.length∧
  z6m P c.g (y2z std c (z91 c.scs x)).1 (y2z std c (z91 c.scs x)).2 (z0r (z1s std c.outs y).2.s.env 0) (z1s std c.outs y).2.s.heap
theorem z6m.sees {P:Program} {g:FuncId} {args:List AV} {h:List AO} {r:AV} {h0 h':List AO} {env:List (Nat×AV)} {nt:Nat} (ha:z6m P g args h r h0) (hv:z2a h.length ⟨[(0,r)],h0,1⟩ ⟨env,h',nt⟩):z6m P g args h (z0r env 0) h':=⟨by
 intro ρ vs w cs a1 a2 a3
 obtain ⟨ρ',v,w',fr,b1,b2,b3,b4,b5,b6,b7⟩:=ha.run ρ vs w cs a1 a2 a3
 have hst:z10 P ρ' ⟨[(0,r)],h0,1⟩ #[v] w':=⟨b5,fun t=>by
  show z0w ρ' (z0k ρ' h0) w' (z0r [(0,r)] t) _
  simp only [z0r]
  cases hb:Nat.beq 0 t with
  |true=>have:=Nat.eq_of_beq_eq_true hb; subst this; exact b4
  |false=>exact .bot _,rfl,b6⟩
 obtain ⟨ρ2,c1,c2,c3,c4⟩:=hv.run ρ' #[v] w' hst
 exact ⟨ρ2,v,w',fr,b1,b2,b3,c1.env 0,c1.heap,c1.dom,b7.trans c3⟩⟩
def bodyRun (A:Alg) (p:Prim) (E:Env) (O:Orc A) (f:Nat) (c:Ctr) (x:Tup c.scs):A.Ω (STup (scss c.outs)):=
 x5x A E (sym A p E O f) _ c.g (y2z p c (z91 c.scs x)).1 (y2z p c (z91 c.scs x)).2 (y77 c.heap) fun r h _=>
  match z8x p (y2z p c (z91 c.scs x)).2.length c.outs .ret ⟨[(0,r)],h,1⟩ with
  |some (cs,y)=>y1v A _ cs (A.ret _ y)
  |none=>A.no _ 91
theorem ctr_of_body {P:Program} {E:Env} {O:Orc opt} (hE:y22 P E) (hO:y43 P O) {f:Nat} {c:Ctr} {F:Tup c.scs→Option (STup (scss c.outs))} (hen:z13 P c.g) (h:∀ x,bodyRun opt std E O f c x=F x):CtrOk P c F:=by
 refine ⟨hen,fun x y hy=>?_⟩
 rw [←h x] at hy
 obtain ⟨r,h',K',c1,c2,c3,hk⟩:=y3g hE (y5y hE hO f) hy
 split at hk
 ·rename_i cs y' hf
  obtain ⟨hc,hk⟩:=z1t hk
  cases hk
  obtain ⟨e1,w1,w2⟩:=z9h hf hc
  exact ⟨w2,c1.sees w1⟩
 ·cases hk
mutual
def z5e (f:Nat→Nat):AV→AV
 | .bptr i off=> .bptr (f i) off
 | .ptr i j off=> .ptr (f i) j off
 | .slice i z off len cap=> .slice (f i) z off len cap
 | .map i=> .map (f i)
 | .yld i=> .yld (f i)
 | .clo fn fs cs=> .clo fn (x1q f fs) (x1q f cs)
 | .iface t v=> .iface t (z5e f v)
 | .agg l=> .agg (x1q f l)
 | .tuple l=> .tuple (x1q f l)
 | .bot=> .bot
 | .d x=> .d x
 | .lptr r off=> .lptr r off
 | .wptr r off=> .wptr r off
def x1q (f:Nat→Nat):List AV→List AV
 |[]=>[]
 |x::l=>z5e f x::x1q f l
end
theorem z2y (f:Nat→Nat) (l:List AV):x1q f l=l.map (z5e f):=by
 induction l with
 |nil=>rfl
 |cons x l ih=>simp [x1q,ih]
def w8p (f:Nat→Nat):List (Nat×AV)→List (Nat×AV)
 |[]=>[]
 |(k,x)::l=>(k,z5e f x)::w8p f l
theorem x8b (f:Nat→Nat) (env:List (Nat×AV)) (t:Nat):z0r (w8p f env) t=z5e f (z0r env t):=by
 induction env with
 |nil=>rfl
 |cons x env ih=>
  obtain ⟨k,x⟩:=x
  simp only [w8p,z0r]
  cases Nat.beq k t<;>simp [ih]
def x43 (f:Nat→Nat):List (List AV)→List (List AV)
 |[]=>[]
 |x::l=>x1q f x::x43 f l
theorem z9d (f:Nat→Nat) (l:List (List AV)):x43 f l=l.map (x1q f):=by
 induction l with
 |nil=>rfl
 |cons x l ih=>simp [x43,ih]
def y8z (f:Nat→Nat):AO→AO
 | .dead=> .dead
 | .box l=> .box (x1q f l)
 | .row es=> .row es
 | .arow es=> .arow (x43 f es)
 | .map es=> .map es
 | .loop st pd g pos nt env=> .loop st pd g pos nt (w8p f env)
theorem z3p (f:Nat→Nat) (o:AO):(y8z f o).live=o.live:=by cases o<;>rfl
section ren
variable {P:Program} {ρ1 ρ2:Rho} {O1 O2:Nat→Prop} {w:World} {f:Nat→Nat}
theorem y7v (hO:∀ b,O2 b→O1 b) (hf:∀ j M,ρ1 j=some M→ρ2 (f j)=some M) {x:AV} {v:Value} (hv:z0w ρ1 O1 w x v):z0w ρ2 O2 w (z5e f x) v:=by
 have hk:z5m O1 O2 w w:=⟨Nat.le_refl _,fun _ _ _=>rfl,fun b _ hb=>hO b hb,fun _ _ h=>h,z0x.refl _⟩
 induction hv with
 |bot v=>exact .bot v
 |d h=>exact .d (h.keep hk)
 |bptr id off L hL=>exact .bptr _ off L (hf _ _ hL)
 |ptr id i off L hL=>exact .ptr _ i off L (hf _ _ hL)
 |lptr r off b o hlt hO' cell hc hrr=>exact .lptr r off b o hlt (fun hb=>hO' (hO b hb)) cell hc (fun j x hx=>(hrr j x hx).keep hk)
 |wptr es off b o z hlt hO' hz hc=>exact .wptr es off b o z hlt (fun hb=>hO' (hO b hb)) hz fun i r j x hi hx=>let ⟨v,hv,hr⟩:=hc i r j x hi hx; ⟨v,hv,hr.keep hk⟩
 |slice id z off len cap L a c hL hz ha hc hl=>exact .slice _ z off len cap L a c (hf _ _ hL) hz ha hc hl
 |nils id z off cap a hc=>exact .nils _ z off cap a hc
 |map id L hL=>exact .map _ L (hf _ _ hL)
 |yld id L hL=>exact .yld _ L (hf _ _ hL)
 |clo fn fs cs vf vc hl1 hl2 h1 h2 ih1 ih2=>
  simp only [z5e,z2y]
  refine .clo fn _ _ vf vc (by simpa using hl1) (by simpa using hl2) (fun i x hx=>?_) (fun i x hx=>?_)
  ·rw [List.getElem?_map] at hx
   cases hq:fs[i]? with
   |none=>rw [hq] at hx; cases hx
   |some y=>rw [hq] at hx; cases hx; exact ih1 i y hq
  ·rw [List.getElem?_map] at hx
   cases hq:cs[i]? with
   |none=>rw [hq] at hx; cases hx
   |some y=>rw [hq] at hx; cases hx; exact ih2 i y hq
 |iface t x v h ih=>exact .iface t _ v ih
 |agg xs vs hl h ih=>
  simp only [z5e,z2y]
  refine .agg _ vs (by simpa using hl) (fun i x hx=>?_)
  rw [List.getElem?_map] at hx
  cases hq:xs[i]? with
  |none=>rw [hq] at hx; cases hx
  |some y=>rw [hq] at hx; cases hx; exact ih i y hq
 |tuple xs vs hl h ih=>
  simp only [z5e,z2y]
  refine .tuple _ vs (by simpa using hl) (fun i x hx=>?_)
  rw [List.getElem?_map] at hx
  cases hq:xs[i]? with
  |none=>rw [hq] at hx; cases hx
  |some y=>rw [hq] at hx; cases hx; exact ih i y hq
theorem w5s (hO:∀ b,O2 b→O1 b) (hf:∀ j M,ρ1 j=some M→ρ2 (f j)=some M) {L:Loc} {o:AO} (h:z15 P ρ1 O1 w L o):z15 P ρ2 O2 w L (y8z f o):=by
 have hk:z5m O1 O2 w w:=⟨Nat.le_refl _,fun _ _ _=>rfl,fun b _ hb=>hO b hb,fun _ _ h=>h,z0x.refl _⟩
 cases o with
 |dead=>trivial
 |box cells=>
  obtain ⟨c,t,hc,hj⟩:=h
  refine ⟨c,t,hc,fun j x hx=>?_⟩
  rw [z2y,List.getElem?_map] at hx
  cases hq:cells[j]? with
  |none=>rw [hq] at hx; cases hx
  |some y=>
   rw [hq] at hx; cases hx
   obtain ⟨v,hv,hr⟩:=hj j y hq
   exact ⟨v,hv,y7v hO hf hr⟩
 |row es=>
  obtain ⟨hz,c,t,hc,hl,hj⟩:=h
  exact ⟨hz,c,t,hc,hl,fun i r j x hi hx=>let ⟨v,hv,h1,hr⟩:=hj i r j x hi hx; ⟨v,hv,h1,hr.keep hk⟩⟩
 |arow es=>
  obtain ⟨hz,c,t,hc,hl,hj⟩:=h
  refine ⟨hz,c,t,hc,fun i r hi=>?_,fun i r j x hi hx=>?_⟩
  ·rw [z9d,List.getElem?_map] at hi
   cases hq:es[i]? with
   |none=>rw [hq] at hi; cases hi
   |some y=>rw [hq] at hi; cases hi; rw [z2y,List.length_map]; exact hl i y hq
  ·rw [z9d,List.getElem?_map] at hi
   cases hq:es[i]? with
   |none=>rw [hq] at hi; cases hi
   |some y=>
    rw [hq] at hi; cases hi
    rw [z2y,List.getElem?_map] at hx
    cases hq2:y[j]? with
    |none=>rw [hq2] at hx; cases hx
    |some z=>
     rw [hq2] at hx; cases hx
     obtain ⟨v,hv,h1,hr⟩:=hj i y j z hq hq2
     exact ⟨v,hv,h1,y7v hO hf hr⟩
 |map es=>
  obtain ⟨en,clk,hc,hl,hj⟩:=h
  exact ⟨en,clk,hc,hl,fun i k x hi=>let ⟨e,he,h1,h2⟩:=hj i k x hi; ⟨e,he,h1.keep hk,h2.keep hk⟩⟩
 |loop st pd g pos nt env=>
  obtain ⟨x,ps,asg,body,hcd,tm,ds,fid,hc,hl,hj⟩:=h
  exact ⟨x,ps,asg,body,hcd,tm,ds,fid,hc,hl,fun t=>by rw [x8b]; exact y7v hO hf (hj t)⟩
end ren
def z1d (σ:List (Option Nat)) (base:Nat) (j:Nat):Nat:=
 match z2p σ j with
 |some (some a)=>a
 |_=>base+(j - σ.length)
def z1g (f:Nat→Nat):List AO→Nat→List AO→List AO
 |h,_,[]=>h
 |h,j,o::os=>z1g f (z0o h (f j) (y8z f o)) (j+1) os
theorem z84 (f:Nat→Nat):∀ (os:List AO) (h:List AO) (j:Nat) (id:Nat),(∀ a b,j≤a→a<j+os.length→j≤b→b<j+os.length→f a=f b→a=b)→
  (∀ k,k<os.length→z0e (z1g f h j os) (f (j+k))=y8z f (z0e os k))∧((∀ k,k<os.length→f (j+k)≠id)→z0e (z1g f h j os) id=z0e h id):=by
 intro os
 induction os with
 |nil=>intro h j id _; exact ⟨fun k hk=>by simp at hk,fun _=>rfl⟩
 |cons o os ih=>
  intro h j id hinj
  have hinj':∀ a b,j+1≤a→a<j+1+os.length→j+1≤b→b<j+1+os.length→f a=f b→a=b:=fun a b h1 h2 h3 h4=>hinj a b (by omega) (by simp; omega) (by omega) (by simp; omega)
  simp only [z1g]
  refine ⟨fun k hk=>?_,fun hne=>?_⟩
  ·cases k with
   |zero=>
    rw [(ih _ (j+1) (f (j+0)) hinj').2 (fun k hk=>?_)]
    ·rw [Nat.add_zero,z0b]; rfl
    ·intro e
     have:=hinj _ _ (by omega) (by simp; omega) (by omega) (by simp) e
     omega
   |succ k=>
    have:=(ih (z0o h (f j) (y8z f o)) (j+1) id hinj').1 k (by simpa using hk)
    rw [show j+1+k=j+(k+1) by omega] at this
    exact this
  ·rw [(ih _ (j+1) id hinj').2 (fun k hk=>by rw [show j+1+k=j+(k+1) by omega]; exact hne (k+1) (by simpa using hk)),z0a _ _ _ _ (by have:=hne 0 (by simp); simpa using this)]
theorem z66 (f:Nat→Nat):∀ (os:List AO) (h:List AO) (j:Nat),h.length≤(z1g f h j os).length∧∀ k,k<os.length→f (j+k)<(z1g f h j os).length:=by
 intro os
 induction os with
 |nil=>intro h j; exact ⟨Nat.le_refl _,fun k hk=>by simp at hk⟩
 |cons o os ih=>
  intro h j
  simp only [z1g]
  obtain ⟨a,b⟩:=ih (z0o h (f j) (y8z f o)) (j+1)
  obtain ⟨c,d⟩:=z11 h (f j) (y8z f o)
  refine ⟨Nat.le_trans c a,fun k hk=>?_⟩
  cases k with
  |zero=>exact Nat.lt_of_lt_of_le d a
  |succ k=>rw [show j+(k+1)=j+1+k by omega]; exact b k (by simpa using hk)
def z5c (base:Nat):List (Option Nat)→Bool
 |[]=>true
 |some a::r=>Nat.blt a base&&z5c base r
 |none::_=>false
theorem y1g {base:Nat}:∀ {σ:List (Option Nat)},z5c base σ=true→∀ j,j<σ.length→∃ a,z2p σ j=some (some a)∧a<base
 |[],_,j,hj=>by simp at hj
 |none::_,h,_,_=>by cases h
 |some a::r,h,j,hj=>by
  simp only [z5c,Bool.and_eq_true] at h
  cases j with
  |zero=>exact ⟨a,rfl,Nat.le_of_ble_eq_true h.1⟩
  |succ j=>simpa [z2p] using y1g h.2 j (by simpa using hj)
section frame
variable {P:Program} {ρ:Rho} {h:List AO} {w:World} {σ:List (Option Nat)}
def Rho.lent (ρ:Rho) (h:List AO) (σ:List (Option Nat)):Rho:=
 ⟨(ρ.via σ).loc,fun b=>ρ.fr b∨∃ a M,ρ a=some M∧(z0e h a).live=true∧(∀ j,z2p σ j≠some (some a))∧M.blk=b⟩
theorem y28 {hT:List AO} (hk:HOk ρ (ρ.lent h σ) (z0k ρ h) (z0k ρ h) h w σ hT) (b:Nat) (hb:z0k (ρ.lent h σ) hT b):z0k ρ h b:=by
 rcases hb with (hf|⟨a,M,hM,hl,_,rfl⟩)|⟨i,M,hM,hl,rfl⟩
 ·exact .inl hf
 ·exact .inr ⟨a,M,hM,hl,rfl⟩
 ·obtain ⟨a,ha,hMa⟩:=z34 hM
  exact .inr ⟨a,M,hMa,(hk.nth i _ ha).live hl,rfl⟩
theorem x73 (hr:z0d P ρ h w) (hinj:x5l σ=true) {hT:List AO} (hk:HOk ρ (ρ.lent h σ) (z0k ρ h) (z0k ρ h) h w σ hT):z0d P (ρ.lent h σ) hT w:=by
 have kp:z5m (z0k ρ h) (z0k (ρ.lent h σ) hT) w w:=⟨Nat.le_refl _,fun _ _ _=>rfl,fun b _ hb=>y28 hk b hb,fun _ _ h=>h,z0x.refl _⟩
 have kp2:∀ {x:AV} {v:Value},z0w (ρ.lent h σ) (z0k ρ h) w x v→z0w (ρ.lent h σ) (z0k (ρ.lent h σ) hT) w x v:=fun hv=>hv.keep kp (fun _ _ h=>h)
 refine ⟨fun i M hM=>?_,fun i j M M' h1 h2 l1 l2 hb=>?_,fun b hf=>?_,fun i M hM hl hf=>?_⟩
 ·obtain ⟨a,ha,hMa⟩:=z34 hM
  obtain ⟨o1,o2⟩:=hr.obj a M hMa
  refine ⟨o1,?_⟩
  rcases hk.nth i _ ha with e|⟨es,e,hrow⟩|⟨es,e,hmap⟩|⟨cells,ys,hbox,e,hlen,hys⟩|⟨st,pd,g,pos,nt,env,env',hlp,e,henv⟩
  ·rw [e]; trivial
  ·rw [e]
   rcases hrow with hrow|⟨es0,hrow,hdd⟩
   ·rw [hrow] at o2
    obtain ⟨hz,c,t,hc,hl,hj⟩:=o2
    exact ⟨hz,c,t,hc,hl,fun i r j x hi hx=>let ⟨v,hv,h1,hvr⟩:=hj i r j x hi hx; ⟨v,hv,h1,hvr.keep kp⟩⟩
   ·rw [hrow,y19 hdd] at o2
    obtain ⟨hz,c,t,hc,hl,hj⟩:=o2
    refine ⟨hz,c,t,hc,fun i r hi=>?_,fun i r j x hi hx=>?_⟩
    ·have:=hl i (toA r) (by rw [z3i,hi]; rfl)
     rwa [z1a] at this
    ·obtain ⟨v,hv,h1,hvr⟩:=hj i (toA r) j (.d x) (by rw [z3i,hi]; rfl) (by rw [z16,hx]; rfl)
     cases hvr with|d hvr=>exact ⟨v,hv,h1,hvr.keep kp⟩
  ·rw [e]; rw [hmap] at o2
   obtain ⟨en,clk,hc,hl,hj⟩:=o2
   exact ⟨en,clk,hc,hl,fun i k x hi=>let ⟨e,he,h1,h2⟩:=hj i k x hi; ⟨e,he,h1.keep kp,h2.keep kp⟩⟩
  ·rw [e]; rw [hbox] at o2
   obtain ⟨c,t,hc,hj⟩:=o2
   refine ⟨c,t,hc,fun j y hy=>?_⟩
   have hjl:j<cells.length:=by rw [←hlen]; exact (List.getElem?_eq_some_iff.1 hy).1
   obtain ⟨v,hv,_⟩:=hj j _ (List.getElem?_eq_getElem hjl)
   have:=hys (fun j=>(c[M.base+j]?).getD undef) (fun j x hx=>by
    obtain ⟨u,hu,hur⟩:=hj j x hx
    simp only [hu,Option.getD_some]; exact hur) j y hy
   simp only [hv,Option.getD_some] at this
   exact ⟨v,hv,kp2 this⟩
  ·rw [e]; rw [hlp] at o2
   obtain ⟨x,ps,asg,body,hcd,tm,ds,f,hc,hl,hj⟩:=o2
   exact ⟨x,ps,asg,body,hcd,tm,ds,f,hc,hl,fun t=>kp2 (henv (fun t=>tm.getD t undef) hj t)⟩
 ·obtain ⟨a,ha,hMa⟩:=z34 h1
  obtain ⟨a',ha',hMa'⟩:=z34 h2
  have:=hr.inj a a' M M' hMa hMa' ((hk.nth i _ ha).live l1) ((hk.nth j _ ha').live l2) hb
  subst this
  exact z8v hinj ha ha'
 ·rcases hf with hf|⟨a,M,hM,hl,_,rfl⟩
  ·exact hr.fr b hf
  ·exact (hr.obj a M hM).1
 ·obtain ⟨a,ha,hMa⟩:=z34 hM
  have hla:=(hk.nth i _ ha).live hl
  rcases hf with hf|⟨a',M',hM',hl',hno,hb⟩
  ·exact hr.sep a M hMa hla hf
  ·have:=hr.inj a' a M' M hM' hMa hl' hla hb
   subst this
   exact hno i ha
theorem x1w {ρ:Rho} {O:Nat→Prop} {w:World} {L:Loc} {o:AO} (h:¬ o.live=true):z15 P ρ O w L o:=by
 cases o<;>first|trivial|exact absurd rfl h
set_option maxHeartbeats 1000000 in
theorem z9g {n : Nat} {s : AS} (hn : n ≤ s.heap.length) (hinj : x5l σ = true) (hth : z5c s.heap.length σ = true) {g : FuncId} {args argsT : List AV} {hT hT' : List AO} {r : AV} (hlen : hT.length ≤ hT'.length)
    (hfit : ∀ (ρ : Rho) (w : World), z0d P ρ s.heap w → HOk ρ (ρ.lent s.heap σ) (z0k ρ s.heap) (z0k ρ s.heap) s.heap w σ hT ∧ argsT.length = args.length ∧
      ∀ f : Nat → Value, (∀ i x, args[i]? = some x → z0w ρ (z0k ρ s.heap) w x (f i)) → ∀ i y, argsT[i]? = some y → z0w (ρ.lent s.heap σ) (z0k ρ s.heap) w y (f i))
    (ha : z6m P g argsT hT r hT') : z4f P n g args s (z5e (z1d σ s.heap.length) r) ⟨s.env, z1g (z1d σ s.heap.length) s.heap 0 hT', s.nt⟩ := ⟨by
  intro ρ vs tm w cs hs hargs
  obtain ⟨hk, hal, hav⟩ := hfit ρ w hs.heap
  have hKlen : hT.length = σ.length := hk.len
  have hheap := x73 hs.heap hinj hk
  have kp : z5m (z0k ρ s.heap) (z0k (ρ.lent s.heap σ) hT) w w := ⟨Nat.le_refl _, fun _ _ _ => rfl, fun b _ hb => y28 hk b hb, fun _ _ h => h, z0x.refl _⟩
  have hdomT : Dom (ρ.lent s.heap σ) hT := fun id hid => by
    cases hq : (ρ.lent s.heap σ) id with
    | none => exact absurd hq hid
    | some M =>
      obtain ⟨a, ha, _⟩ := z34 hq
      rw [z12] at ha
      rw [hKlen]; exact (List.getElem?_eq_some_iff.1 ha).1
  obtain ⟨ρ1, v, w', fr, b1, b2, b3, b4, b5, b6, b7⟩ := ha.run (ρ.lent s.heap σ) vs w cs hheap hdomT ⟨by rw [hal]; exact hargs.1, fun i y hy => (hav (fun i => vs.getD i undef) (fun i x hx => hargs.2 i x hx) i y hy).keep kp (fun _ _ h => h)⟩
  let base := s.heap.length
  let f := z1d σ base
  let ρ2 : Rho := ⟨fun id => if id < base then ρ id else ρ1 (σ.length + (id - base)), ρ.fr⟩
  let h2 := z1g f s.heap 0 hT'
  have fK : ∀ j, j < σ.length → ∃ a, z2p σ j = some (some a) ∧ a < base ∧ f j = a := fun j hj => by
    obtain ⟨a, h1, h2⟩ := y1g hth j hj
    exact ⟨a, h1, h2, by show z1d σ base j = a; simp [z1d, h1]⟩
  have fN : ∀ j, σ.length ≤ j → f j = base + (j - σ.length) := fun j hj => by
    have : z2p σ j = none := by rw [z12]; exact List.getElem?_eq_none hj
    show z1d σ base j = _; simp [z1d, this]
  have finj : ∀ a b, f a = f b → a = b := by
    intro a b e
    by_cases ha : a < σ.length
    · obtain ⟨x, x1, x2, x3⟩ := fK a ha
      by_cases hb : b < σ.length
      · obtain ⟨y, y1, y2, y3⟩ := fK b hb
        have : x = y := by rw [← x3, ← y3, e]
        subst this
        exact z8v hinj x1 y1
      · have := fN b (by omega); omega
    · by_cases hb : b < σ.length
      · obtain ⟨y, y1, y2, y3⟩ := fK b hb
        have := fN a (by omega); omega
      · have h1 := fN a (by omega)
        have h2 := fN b (by omega)
        omega
  have hrho : ∀ j M, ρ1 j = some M → ρ2 (f j) = some M := by
    intro j M hM
    by_cases hj : j < σ.length
    · obtain ⟨a, a1, a2, a3⟩ := fK j hj
      have e := b7.rho j (by show j < hT.length; omega)
      rw [hM] at e
      have e2 : (ρ.lent s.heap σ) j = ρ a := by show (match z2p σ j with | some (some a) => ρ a | _ => none) = _; rw [a1]
      rw [a3]
      show (if a < base then ρ a else _) = _
      rw [if_pos a2, ← e2, ← e]
    · rw [fN j (by omega)]
      show (if base + (j - σ.length) < base then _ else ρ1 (σ.length + (base + (j - σ.length) - base))) = _
      rw [if_neg (by omega), show σ.length + (base + (j - σ.length) - base) = j by omega]; exact hM
  have nth1 : ∀ j, j < hT'.length → z0e h2 (f j) = y8z f (z0e hT' j) := fun j hj => by
    have := (z84 f hT' s.heap 0 0 (fun a b _ _ _ _ e => finj a b e)).1 j hj
    rw [Nat.zero_add] at this; exact this
  have nth2 : ∀ id, (∀ j, j < hT'.length → f j ≠ id) → z0e h2 id = z0e s.heap id := fun id hne =>
    (z84 f hT' s.heap 0 id (fun a b _ _ _ _ e => finj a b e)).2 (fun k hk => by rw [Nat.zero_add]; exact hne k hk)
  have lenH : base ≤ h2.length := (z66 f hT' s.heap 0).1
  have other : ∀ id M, ρ2 id = some M → (∀ j, j < hT'.length → f j ≠ id) → (z0e h2 id).live = true → id < base ∧ ρ id = some M ∧ (z0e s.heap id).live = true ∧ (ρ.lent s.heap σ).fr M.blk := by
    intro id M hM hne hl
    rw [nth2 id hne] at hl
    have hlt : id < base := by
      rcases Nat.lt_or_ge id base with h | h
      · exact h
      · rw [x1x _ _ h] at hl; cases hl
    have hM' : ρ id = some M := by
      have : (if id < base then ρ id else ρ1 (σ.length + (id - base))) = some M := hM
      rw [if_pos hlt] at this; exact this
    refine ⟨hlt, hM', hl, .inr ⟨id, M, hM', hl, fun j hj => ?_, rfl⟩⟩
    have hjl : j < σ.length := by rw [z12] at hj; exact (List.getElem?_eq_some_iff.1 hj).1
    obtain ⟨a, a1, a2, a3⟩ := fK j hjl
    rw [a1] at hj; cases hj
    exact hne j (by omega) a3
  have mine : ∀ id, (∃ j, j < hT'.length ∧ f j = id) ∨ ∀ j, j < hT'.length → f j ≠ id := fun id => by
    by_cases h : ∃ j, j < hT'.length ∧ f j = id
    · exact .inl h
    · exact .inr fun j hj e => h ⟨j, hj, e⟩
  have rho1 : ∀ j M, j < hT'.length → ρ2 (f j) = some M → ρ1 j = some M := by
    intro j M hj hM
    by_cases hjK : j < σ.length
    · obtain ⟨a, a1, a2, a3⟩ := fK j hjK
      rw [a3] at hM
      have hM : (if a < base then ρ a else _) = some M := hM
      rw [if_pos a2] at hM
      have e := b7.rho j (by show j < hT.length; omega)
      have e2 : (ρ.lent s.heap σ) j = ρ a := by show (match z2p σ j with | some (some a) => ρ a | _ => none) = _; rw [a1]
      rw [e, e2]; exact hM
    · rw [fN j (by omega)] at hM
      have hM : (if base + (j - σ.length) < base then ρ (base + (j - σ.length)) else ρ1 (σ.length + (base + (j - σ.length) - base))) = some M := hM
      rw [if_neg (by omega), show σ.length + (base + (j - σ.length) - base) = j by omega] at hM
      exact hM
  have frEq : ρ1.fr = (ρ.lent s.heap σ).fr := b7.fr
  have own2 : ∀ b, z0k ρ2 h2 b → z0k ρ1 hT' b := by
    intro b hb
    rcases hb with hf | ⟨id, M, hM, hl, rfl⟩
    · exact .inl (by rw [frEq]; exact .inl hf)
    · rcases mine id with ⟨j, hj, rfl⟩ | hne
      · rw [nth1 j hj, z3p] at hl
        exact .inr ⟨j, M, rho1 j M hj hM, hl, rfl⟩
      · exact .inl (by rw [frEq]; exact (other id M hM hne hl).2.2.2)
  have hmono : ∀ id M, ρ id = some M → ρ2 id = some M := fun id M hM => by
    have hlt : id < base := hs.dom id (by rw [hM]; simp)
    show (if id < base then ρ id else _) = _
    rw [if_pos hlt]; exact hM
  have kpAll : z5m (z0k ρ s.heap) (z0k ρ2 h2) w w' :=
    { size := b7.keep.size
      frame := fun b hb hno => b7.keep.frame b hb (fun h => hno (y28 hk b h))
      own := fun b hb ho => y28 hk b (b7.keep.own b hb (own2 b ho))
      shape := b7.keep.shape
      drawn := b7.keep.drawn }
  have hheap2 : z0d P ρ2 h2 w' := by
    refine ⟨fun id M hM => ?_, fun i j M M' h1 h2' l1 l2 hb => ?_, fun b hf => Nat.lt_of_lt_of_le (hs.heap.fr b hf) b7.keep.size, fun id M hM hl hf => ?_⟩
    · rcases mine id with ⟨j, hj, rfl⟩ | hne
      · obtain ⟨o1, o2⟩ := b5.obj j M (rho1 j M hj hM)
        exact ⟨o1, by rw [nth1 j hj]; exact w5s own2 hrho o2⟩
      · by_cases hl : (z0e h2 id).live = true
        · obtain ⟨c1, c2, c3, c4⟩ := other id M hM hne hl
          obtain ⟨o1, o2⟩ := hs.heap.obj id M c2
          refine ⟨Nat.lt_of_lt_of_le o1 b7.keep.size, ?_⟩
          rw [nth2 id hne]
          exact o2.keep kpAll hmono (b7.frs _ c4)
        · by_cases hlt : id < base
          · have hM' : ρ id = some M := by
              have : (if id < base then ρ id else ρ1 (σ.length + (id - base))) = some M := hM
              rw [if_pos hlt] at this; exact this
            refine ⟨Nat.lt_of_lt_of_le (hs.heap.obj id M hM').1 b7.keep.size, ?_⟩
            exact x1w hl
          · exfalso
            have hM' : (if id < base then ρ id else ρ1 (σ.length + (id - base))) = some M := hM
            rw [if_neg hlt] at hM'
            have hd := b6 _ (by rw [hM']; simp)
            refine hne _ hd ?_
            rw [fN _ (by omega)]; omega
    · rcases mine i with ⟨a, ha, rfl⟩ | hni
      · rw [nth1 a ha, z3p] at l1
        rcases mine j with ⟨b, hb', rfl⟩ | hnj
        · rw [nth1 b hb', z3p] at l2
          rw [b5.inj a b M M' (rho1 a M ha h1) (rho1 b M' hb' h2') l1 l2 hb]
        · obtain ⟨c1, c2, c3, c4⟩ := other j M' h2' hnj l2
          exact absurd (by rw [frEq, hb]; exact c4) (b5.sep a M (rho1 a M ha h1) l1)
      · obtain ⟨c1, c2, c3, c4⟩ := other i M h1 hni l1
        rcases mine j with ⟨b, hb', rfl⟩ | hnj
        · rw [nth1 b hb', z3p] at l2
          exact absurd (by rw [frEq, ← hb]; exact c4) (b5.sep b M' (rho1 b M' hb' h2') l2)
        · obtain ⟨d1, d2, d3, d4⟩ := other j M' h2' hnj l2
          exact hs.heap.inj i j M M' c2 d2 c3 d3 hb
    · rcases mine id with ⟨j, hj, rfl⟩ | hne
      · rw [nth1 j hj, z3p] at hl
        exact b5.sep j M (rho1 j M hj hM) hl (by rw [frEq]; exact .inl hf)
      · obtain ⟨c1, c2, c3, c4⟩ := other id M hM hne hl
        exact hs.heap.sep id M c2 c3 hf
  refine ⟨ρ2, v, w', fr, b1, b2, b3, y7v own2 hrho b4, ⟨hheap2, fun t => (hs.env t).keep kpAll hmono, hs.size, fun id hid => ?_⟩, rfl, ?_⟩
  · show id < h2.length
    by_cases hlt : id < base
    · omega
    · have hid' : (if id < base then ρ id else ρ1 (σ.length + (id - base))) ≠ none := hid
      rw [if_neg hlt] at hid'
      have hd := b6 _ hid'
      have := (z66 f hT' s.heap 0).2 _ hd
      rw [Nat.zero_add, fN _ (by omega)] at this
      show id < (z1g f s.heap 0 hT').length
      omega
  · exact { os := b7.os, tape := b7.tape, output := b7.output, keep := kpAll, rho := fun id hid => by
              show (if id < base then ρ id else _) = ρ id
              rw [if_pos (by show id < s.heap.length; have : id < n := hid; omega)],
            fr := rfl, frs := fun b hf => b7.frs b (.inl hf) }⟩
end frame
end Go.Am
end
section
namespace Go.Am
def v1k (f:AV→Option (Bool×D)):List AV→Option (Bool×List D)
 |[]=>some (true,[])
 |x::l=>match f x,v1k f l with
  |some (b,d),some (c,r)=>some (b&&c,d::r)
  |_,_=>none
def w2u (f:AV→Option (Bool×D)):List (List AV)→Option (Bool×List (List D))
 |[]=>some (true,[])
 |x::l=>match v1k f x,w2u f l with
  |some (b,d),some (c,r)=>some (b&&c,d::r)
  |_,_=>none
def dV (p:Prim) (h:List AO):Nat→AV→Option (Bool×D)
 |_, .d x=>some (true,x)
 |n+1, .slice id z off len cap=>match z0e h id with
  | .row es=>some (p.leN (p.add off len) (p.len es), .list false z (p.cut es off len))
  | .arow es=>match w2u (dV p h n) ((es.drop off).take len) with
   |some (b,ds)=>some (Nat.ble (off+len) es.length&&b, .list false z ds)
   |none=>none
  |_=>none
 |_,_=>none
mutual
def lV (p:Prim) (h:List AO):AV→Bool×AV
 | .bot=>(true, .bot)
 | .d x=>(true, .d x)
 | .slice id z off len cap=>match dV p h 4 (.slice id z off len cap) with
  |some (b,d)=>(b, .d d)
  |none=>(true, .bot)
 | .clo fn fs cs=>(p.and (lL p h fs).1 (lL p h cs).1, .clo fn (lL p h fs).2 (lL p h cs).2)
 | .agg l=>((lL p h l).1,x3j (lL p h l).2)
 | .tuple l=>((lL p h l).1, .tuple (lL p h l).2)
 |_=>(true, .bot)
def lL (p:Prim) (h:List AO):List AV→Bool×List AV
 |[]=>(true,[])
 |x::l=>(p.and (lV p h x).1 (lL p h l).1,(lV p h x).2::(lL p h l).2)
end
theorem y6j (p:Prim) (h:List AO):∀ l,(lL p h l).2.length=l.length
 |[]=>rfl
 |x::l=>by simp [lL,y6j p h l]
theorem y6k (h:List AO):∀ (l:List AV),(lL std h l).1=true→∀ (i:Nat) (y:AV),(lL std h l).2[i]?=some y→∃ x,l[i]?=some x∧y=(lV std h x).2∧(lV std h x).1=true
 |[],_,i,y,hi=>by simp [lL] at hi
 |x::l,hc,i,y,hi=>by
  simp only [lL,std,Bool.and_eq_true] at hc
  simp only [lL] at hi
  cases i with
  |zero=>simp at hi; subst hi; exact ⟨x,rfl,rfl,hc.1⟩
  |succ i=>simpa using y6k h l hc.2 i y (by simpa using hi)
theorem x0q {f:AV→Option (Bool×D)}:∀ {l:List AV} {ds:List D},v1k f l=some (true,ds)→ds.length=l.length∧∀ (j:Nat) (d:D),ds[j]?=some d→∃ x,l[j]?=some x∧f x=some (true,d)
 |[],ds,h=>by cases h; exact ⟨rfl,fun j d h=>by simp at h⟩
 |x::l,ds,h=>by
  simp only [v1k] at h
  split at h
  ·rename_i b d c r h1 h2
   have h:=Option.some.inj h
   have hb:=congrArg Prod.fst h
   have hd:=congrArg Prod.snd h
   simp only [Bool.and_eq_true] at hb
   obtain ⟨rfl,rfl⟩:=hb
   simp only at hd
   subst hd
   obtain ⟨a1,a2⟩:=x0q h2
   refine ⟨by simp [a1],fun j d' hj=>?_⟩
   cases j with
   |zero=>simp at hj; subst hj; exact ⟨x,rfl,h1⟩
   |succ j=>simpa using a2 j d' (by simpa using hj)
  ·cases h
theorem y62 {f:AV→Option (Bool×D)}:∀ {l:List (List AV)} {ds:List (List D)},w2u f l=some (true,ds)→ds.length=l.length∧∀ (j:Nat) (d:List D),ds[j]?=some d→∃ x,l[j]?=some x∧v1k f x=some (true,d)
 |[],ds,h=>by cases h; exact ⟨rfl,fun j d h=>by simp at h⟩
 |x::l,ds,h=>by
  simp only [w2u] at h
  split at h
  ·rename_i b d c r h1 h2
   have h:=Option.some.inj h
   have hb:=congrArg Prod.fst h
   have hd:=congrArg Prod.snd h
   simp only [Bool.and_eq_true] at hb
   obtain ⟨rfl,rfl⟩:=hb
   simp only at hd
   subst hd
   obtain ⟨a1,a2⟩:=y62 h2
   refine ⟨by simp [a1],fun j d' hj=>?_⟩
   cases j with
   |zero=>simp at hj; subst hj; exact ⟨x,rfl,h1⟩
   |succ j=>simpa using a2 j d' (by simpa using hj)
  ·cases h
section
variable {P:Program} {ρ:Rho} {h:List AO} {w:World}
def frO (ρ:Rho):Nat→Prop:=z0k (ρ.only fun _=>false) []
theorem x8h:z5m (z0k ρ h) (frO ρ) w w:=⟨Nat.le_refl _,fun _ _ _=>rfl,fun b _ hb=> .inl (z5t.1 hb),fun _ _ h=>h,z0x.refl _⟩
theorem x5u {c:Array Value} {t:TypeId} {b k:Nat} {v:Value} (hb:w.heap[b]?=some (.cells c t (0,0))) (hv:c[k]?=some v):w.cell? ⟨b,k,none⟩=some v:=by
 unfold World.cell?
 simp only [hb]
 simpa using hv
theorem v1j (hr:z0d P ρ h w):∀ (n:Nat) {x:AV} {v:Value} {d:D},z0w ρ (z0k ρ h) w x v→dV std h n x=some (true,d)→z14 (frO ρ) w d v
 |n, .d x,v,d,hv,hd=>by
  have hd:some (true,x)=some (true,d):=by cases n<;>exact hd
  cases hd
  cases hv with|d hv=>exact hv.keep x8h
 |0, .slice _ _ _ _ _,v,d,hv,hd=>by cases hd
 |n+1, .slice id z off len cap,v,d,hv,hd=>by
  simp only [dV] at hd
  split at hd
  ·rename_i es hes
   have e:=Option.some.inj hd
   have e1:=congrArg Prod.fst e
   have e2:=congrArg Prod.snd e
   have:=v23 hr hv
   simp only [bV,hes] at this
   have:=this e1
   simp only at e2
   rw [e2] at this
   cases this with|d h=>exact h
  ·rename_i es hes
   split at hd
   ·rename_i b ds hds
    have e:=Option.some.inj hd
    have e1:=congrArg Prod.fst e
    have e2:=congrArg Prod.snd e
    simp only [Bool.and_eq_true] at e1 e2
    obtain ⟨hle,rfl⟩:=e1
    subst e2
    have hle:=Nat.le_of_ble_eq_true hle
    obtain ⟨dl,dg⟩:=y62 hds
    have hlen:ds.length=len:=by rw [dl,List.length_take,List.length_drop]; omega
    cases hv with
    |nils=>
     have:ds=[]:=List.length_eq_zero_iff.1 hlen
     subst this
     exact .lnil _ _ _ _ (by simp)
    |slice _ _ _ _ _ L a c hL hz ha hc hl=>
     by_cases h0:len=0
     ·subst h0
      have:ds=[]:=List.length_eq_zero_iff.1 hlen
      subst this
      exact .lnil _ _ _ _ (by simp)
     have ha:=ha (by omega)
     subst ha
     obtain ⟨_,ho⟩:=hr.obj id L hL
     rw [hes] at ho
     obtain ⟨hzp,cs,t,hcb,hrl,hcell⟩:=ho
     have hlive:(z0e h id).live=true:=by rw [hes]; rfl
     have hnf:¬ frO ρ L.blk:=fun hf=>hr.sep id L hL hlive (z5t.1 hf)
     have key:∀ (i:Nat) (r:List D),ds[i]?=some r→∃ r0,es[off+i]?=some r0∧r.length=L.esz∧∀ (j:Nat) (x:D),r[j]?=some x→∃ u,cs[L.base+(off+i)*L.esz+j]?=some u∧u.oneCell'=true∧z14 (frO ρ) w x u:=by
      intro i r hi
      obtain ⟨r0,g1,g2⟩:=dg i r hi
      obtain ⟨q1,q2⟩:=x0q g2
      have hil:i<len:=by rw [←hlen]; exact (List.getElem?_eq_some_iff.1 hi).1
      rw [List.getElem?_take_of_lt hil,List.getElem?_drop] at g1
      refine ⟨r0,g1,by rw [q1]; exact hrl _ _ g1,fun j x hj=>?_⟩
      obtain ⟨y,hy,hd⟩:=q2 j x hj
      obtain ⟨u,hu,h1,hvr⟩:=hcell (off+i) r0 j y g1 hy
      exact ⟨u,hu,h1,v1j hr n hvr hd⟩
     have hlens:∀ (i:Nat) (r:List D),ds[i]?=some r→r.length=L.esz:=fun i r hi=>by obtain ⟨_,_,q,_⟩:=key i r hi; exact q
     let cell:Nat→Value:=fun k=>(cs[L.base+off*L.esz+k]?).getD undef
     have hadd:∀ i j,L.base+(off+i)*L.esz+j=L.base+off*L.esz+(i*L.esz+j):=fun i j=>by rw [Nat.add_mul]; omega
     have hall:∀ k,k<ds.length*L.esz→∃ u,cs[L.base+off*L.esz+k]?=some u∧u.oneCell'=true:=by
      intro k hk
      have hi:k / L.esz<ds.length:=(Nat.div_lt_iff_lt_mul hzp).2 hk
      have hj:k % L.esz<L.esz:=Nat.mod_lt _ hzp
      have hr':=List.getElem?_eq_getElem hi
      obtain ⟨_,_,q1,q2⟩:=key _ _ hr'
      obtain ⟨u,a1,a2,_⟩:=q2 _ _ (List.getElem?_eq_getElem (show k % L.esz<(ds[k / L.esz]).length by omega))
      have e:k / L.esz*L.esz+k % L.esz=k:=by rw [Nat.mul_comm]; exact Nat.div_add_mod _ _
      rw [hadd,e] at a1
      exact ⟨u,a1,a2⟩
     have hne:ds≠[]:=fun e=>by rw [e] at hlen; simp at hlen; omega
     have res:=z14.list (O:=frO ρ) (w:=w) false ds L.blk (L.base+off*L.esz) z c (by omega) hne hnf (by omega) (by simp) (fun i r hi=>by rw [←hz]; exact hlens i r hi) cell (fun k hk=>?_) (fun k hk=>?_) (fun i r j x hi hj=>?_)
     ·rw [hlen] at res; exact res
     ·rw [←hz] at hk
      obtain ⟨u,a1,a2⟩:=hall k hk
      show ((cs[L.base+off*L.esz+k]?).getD undef).oneCell'=true
      rw [a1]; exact a2
     ·rw [←hz] at hk
      obtain ⟨u,a1,_⟩:=hall k hk
      show w.cell? ⟨L.blk,L.base+off*L.esz+k,none⟩=some ((cs[L.base+off*L.esz+k]?).getD undef)
      rw [a1]; exact x5u hcb a1
     ·obtain ⟨_,_,_,q2⟩:=key i r hi
      obtain ⟨u,a1,_,a3⟩:=q2 j x hj
      show z14 _ w x ((cs[L.base+off*L.esz+(i*z+j)]?).getD undef)
      rw [hadd,hz] at a1
      rw [hz,a1]; exact a3
   ·cases hd
  ·cases hd
 |n, .bot,v,d,hv,hd=>by cases n<;>cases hd
 |n, .bptr _ _,v,d,hv,hd=>by cases n<;>cases hd
 |n, .ptr _ _ _,v,d,hv,hd=>by cases n<;>cases hd
 |n, .lptr _ _,v,d,hv,hd=>by cases n<;>cases hd
 |n, .wptr _ _,v,d,hv,hd=>by cases n<;>cases hd
 |n, .map _,v,d,hv,hd=>by cases n<;>cases hd
 |n, .yld _,v,d,hv,hd=>by cases n<;>cases hd
 |n, .clo _ _ _,v,d,hv,hd=>by cases n<;>cases hd
 |n, .iface _ _,v,d,hv,hd=>by cases n<;>cases hd
 |n, .agg _,v,d,hv,hd=>by cases n<;>cases hd
 |n, .tuple _,v,d,hv,hd=>by cases n<;>cases hd
theorem v6a (hr:z0d P ρ h w) {x:AV} {v:Value} (hv:z0w ρ (z0k ρ h) w x v):(lV std h x).1=true→z0w (ρ.only fun _=>false) (frO ρ) w (lV std h x).2 v:=by
 have sl:∀ {id z off len:Nat} {cap:Option Nat} {v:Value},z0w ρ (z0k ρ h) w (.slice id z off len cap) v→(lV std h (.slice id z off len cap)).1=true→z0w (ρ.only fun _=>false) (frO ρ) w (lV std h (.slice id z off len cap)).2 v:=by
  intro id z off len cap v hv hc
  simp only [lV] at hc⊢
  split
  ·rename_i b d hd
   rw [hd] at hc
   simp only at hc
   subst hc
   exact .d (v1j hr 4 hv hd)
  ·exact .bot _
 induction hv with
 |bot v=>intro _; exact .bot v
 |d h=>intro _; exact .d (h.keep x8h)
 |slice id z off len cap L a c hL hz ha hc hl=>exact sl (.slice id z off len cap L a c hL hz ha hc hl)
 |nils id z off cap a hc=>exact sl (.nils id z off cap a hc)
 |clo fn fs cs vf vc hl1 hl2 h1 h2 ih1 ih2=>
  intro hc
  simp only [lV,std,Bool.and_eq_true] at hc
  simp only [lV]
  refine .clo fn _ _ vf vc (by rw [y6j]; exact hl1) (by rw [y6j]; exact hl2) (fun i y hy=>?_) (fun i y hy=>?_)
  ·obtain ⟨x,hx,rfl,hb⟩:=y6k h fs hc.1 i y hy
   exact ih1 i x hx hb
  ·obtain ⟨x,hx,rfl,hb⟩:=y6k h cs hc.2 i y hy
   exact ih2 i x hx hb
 |agg xs vs hl hh ih=>
  intro hc
  simp only [lV] at hc⊢
  refine y6h _ vs (by rw [y6j]; exact hl) (fun i y hy=>?_)
  obtain ⟨x,hx,rfl,hb⟩:=y6k h xs hc i y hy
  exact ih i x hx hb
 |tuple xs vs hl hh ih=>
  intro hc
  simp only [lV] at hc⊢
  refine .tuple _ vs (by rw [y6j]; exact hl) (fun i y hy=>?_)
  obtain ⟨x,hx,rfl,hb⟩:=y6k h xs hc i y hy
  exact ih i x hx hb
 |_=>intro _; exact .bot _
end
mutual
def plV:AV→Bool
 | .bot=>true
 | .d x=>z8f x
 | .lptr _ _=>false
 | .wptr _ _=>false
 | .clo _ fs cs=>plL fs&&plL cs
 | .iface _ v=>plV v
 | .agg l=>plL l
 | .tuple l=>plL l
 |_=>true
def plL:List AV→Bool
 |[]=>true
 |x::l=>plV x&&plL l
end
theorem z99:∀ {l:List AV},plL l=true→∀ (i:Nat) (d:AV),l[i]?=some d→plV d=true
 |[],_,i,d,h=>by simp at h
 |x::l,h,i,d,hi=>by
  simp only [plL,Bool.and_eq_true] at h
  cases i with
  |zero=>simp at hi; subst hi; exact h.1
  |succ i=>exact z99 h.2 i d (by simpa using hi)
theorem x1s {ρ ρ':Rho} {O O':Nat→Prop} {w:World} {f:Nat→Nat} (hf:∀ j M,ρ j=some M→ρ' (f j)=some M) {x:AV} {v:Value} (h:z0w ρ O w x v):plV x=true→z0w ρ' O' w (z5e f x) v:=by
 induction h with
 |bot v=>intro _; exact .bot v
 |d h=>intro hp; exact .d (z7i h (by simpa only [plV] using hp))
 |bptr id off L hL=>intro _; exact .bptr _ off L (hf _ _ hL)
 |ptr id i off L hL=>intro _; exact .ptr _ i off L (hf _ _ hL)
 |lptr=>intro hp; simp [plV] at hp
 |wptr=>intro hp; simp [plV] at hp
 |slice id z off len cap L a c hL hz ha hc hl=>intro _; exact .slice _ z off len cap L a c (hf _ _ hL) hz ha hc hl
 |nils id z off cap a hc=>intro _; exact .nils _ z off cap a hc
 |map id L hL=>intro _; exact .map _ L (hf _ _ hL)
 |yld id L hL=>intro _; exact .yld _ L (hf _ _ hL)
 |clo fn fs cs vf vc hl1 hl2 h1 h2 ih1 ih2=>
  intro hp
  simp only [plV,Bool.and_eq_true] at hp
  simp only [z5e]
  refine .clo fn _ _ vf vc (by simp [z2y,hl1]) (by simp [z2y,hl2]) (fun i y hy=>?_) (fun i y hy=>?_)
  ·rw [z2y,List.getElem?_map] at hy
   obtain ⟨x,hx,rfl⟩:=Option.map_eq_some_iff.1 hy
   exact ih1 i x hx (z99 hp.1 i x hx)
  ·rw [z2y,List.getElem?_map] at hy
   obtain ⟨x,hx,rfl⟩:=Option.map_eq_some_iff.1 hy
   exact ih2 i x hx (z99 hp.2 i x hx)
 |iface t x v h ih=>intro hp; exact .iface t _ v (ih (by simpa only [plV] using hp))
 |agg xs vs hl hh ih=>
  intro hp
  simp only [plV] at hp
  simp only [z5e]
  refine .agg _ vs (by simp [z2y,hl]) (fun i y hy=>?_)
  rw [z2y,List.getElem?_map] at hy
  obtain ⟨x,hx,rfl⟩:=Option.map_eq_some_iff.1 hy
  exact ih i x hx (z99 hp i x hx)
 |tuple xs vs hl hh ih=>
  intro hp
  simp only [plV] at hp
  simp only [z5e]
  refine .tuple _ vs (by simp [z2y,hl]) (fun i y hy=>?_)
  rw [z2y,List.getElem?_map] at hy
  obtain ⟨x,hx,rfl⟩:=Option.map_eq_some_iff.1 hy
  exact ih i x hx (z99 hp i x hx)
def v30:List (List AV)→Bool
 |[]=>true
 |x::l=>plL x&&v30 l
theorem x25:∀ {l:List (List AV)},v30 l=true→∀ (i:Nat) (d:List AV),l[i]?=some d→plL d=true
 |[],_,i,d,h=>by simp at h
 |x::l,h,i,d,hi=>by
  simp only [v30,Bool.and_eq_true] at h
  cases i with
  |zero=>simp at hi; subst hi; exact h.1
  |succ i=>exact x25 h.2 i d (by simpa using hi)
def plO (p:Prim):AO→Bool
 | .dead=>true
 | .box l=>plL l
 | .row es=>p.plain es
 | .arow es=>v30 es
 | .map es=>p.plainM es
 | .loop _ _ _ _ _ _=>false
def plH (p:Prim):List AO→List Bool
 |[]=>[]
 |o::l=>plO p o::plH p l
theorem x7m {p:Prim}:∀ {l:List AO},z1z (plH p l)=true→∀ i,plO p (z0e l i)=true
 |[],_,i=>by cases i<;>rfl
 |o::l,h,i=>by
  simp only [plH,z1z,Bool.and_eq_true] at h
  cases i with
  |zero=>exact h.1
  |succ i=>exact x7m h.2 i
theorem x7l {es:List (List D)} (h:std.plain es=true) {i j:Nat} {r:List D} {x:D} (hi:es[i]?=some r) (hj:r[j]?=some x):z8f x=true:=by
 have h1:=List.all_eq_true.1 h r (List.mem_of_getElem? hi)
 exact List.all_eq_true.1 h1 x (List.mem_of_getElem? hj)
section
variable {P:Program} {w:World}
theorem w54 {ρ ρ':Rho} {O O':Nat→Prop} {f:Nat→Nat} (hf:∀ j M,ρ j=some M→ρ' (f j)=some M) {L:Loc} {o:AO} (hp:plO std o=true) (h:z15 P ρ O w L o):z15 P ρ' O' w L (y8z f o):=by
 cases o with
 |dead=>trivial
 |box cells=>
  obtain ⟨c,t,hc,hj⟩:=h
  refine ⟨c,t,hc,fun j y hy=>?_⟩
  rw [z2y,List.getElem?_map] at hy
  obtain ⟨x,hx,rfl⟩:=Option.map_eq_some_iff.1 hy
  obtain ⟨v,hv,hr⟩:=hj j x hx
  exact ⟨v,hv,x1s hf hr (z99 hp j x hx)⟩
 |row es=>
  obtain ⟨hz,c,t,hc,hl,hj⟩:=h
  refine ⟨hz,c,t,hc,hl,fun i r j x hi hx=>?_⟩
  obtain ⟨v,hv,h1,hr⟩:=hj i r j x hi hx
  exact ⟨v,hv,h1,z7i hr (x7l hp hi hx)⟩
 |arow es=>
  obtain ⟨hz,c,t,hc,hl,hj⟩:=h
  refine ⟨hz,c,t,hc,fun i r hi=>?_,fun i r j y hi hy=>?_⟩
  ·rw [z9d,List.getElem?_map] at hi
   obtain ⟨r0,hr0,rfl⟩:=Option.map_eq_some_iff.1 hi
   rw [z2y,List.length_map]; exact hl i r0 hr0
  ·rw [z9d,List.getElem?_map] at hi
   obtain ⟨r0,hr0,rfl⟩:=Option.map_eq_some_iff.1 hi
   rw [z2y,List.getElem?_map] at hy
   obtain ⟨x,hx,rfl⟩:=Option.map_eq_some_iff.1 hy
   obtain ⟨v,hv,h1,hr⟩:=hj i r0 j x hr0 hx
   exact ⟨v,hv,h1,x1s hf hr (z99 (x25 hp i r0 hr0) j x hx)⟩
 |map es=>
  obtain ⟨en,clk,hc,hl,hj⟩:=h
  refine ⟨en,clk,hc,hl,fun i k x hi=>?_⟩
  obtain ⟨e,he,h1,h2⟩:=hj i k x hi
  have hpm:=List.all_eq_true.1 hp (k,x) (List.mem_of_getElem? hi)
  simp only [Bool.and_eq_true] at hpm
  exact ⟨e,he,z7i h1 hpm.1,z7i h2 hpm.2⟩
 |loop st pd g pos nt env=>cases hp
end
theorem y4e (a b:List AO) (i:Nat):z0e (a++b) i=if i<a.length then z0e a i else z0e b (i - a.length):=by
 induction a generalizing i with
 |nil=>simp
 |cons o r ih=>cases i with
  |zero=>simp [z0e]
  |succ n=>
   simp only [List.cons_append,z0e,ih n,List.length_cons]
   by_cases h:n<r.length
   ·rw [if_pos h,if_pos (by omega)]
   ·rw [if_neg h,if_neg (by omega)]
    congr 1; omega
theorem w1i (f:AO→AO) (hf:f .dead= .dead) (l:List AO) (i:Nat):z0e (l.map f) i=f (z0e l i):=by
 induction l generalizing i with
 |nil=>cases i<;>exact hf.symm
 |cons o r ih=>cases i with
  |zero=>rfl
  |succ n=>exact ih n
section
variable {P:Program}
theorem lend {g:FuncId} {args:List AV} {r:AV} {hp h1:List AO} (ha:z6m P g (lL std hp args).2 [] r h1) (hc:(lL std hp args).1=true) (hr:plV r=true) (ho:z1z (plH std h1)=true):
  z6m P g args hp (z5e (hp.length+ ·) r) (hp++h1.map (y8z (hp.length+ ·))):=⟨by
 intro ρ vs w cs hh hdm har
 let ρc:Rho:=ρ.only fun _=>false
 have hno:∀ id L,ρc id=some L→False:=fun id L hL=>by obtain ⟨a,_⟩:=z2g.1 hL; cases a
 have hc0:z0d P ρc [] w:=⟨fun id L hL=>(hno id L hL).elim,fun id id' L L' hL=>(hno id L hL).elim,fun b hb=>hh.fr b hb,fun id L hL=>(hno id L hL).elim⟩
 obtain ⟨ρ',v,w',fr,hst,hfn,hlv,hv,hh',hdm',hx⟩:=ha.run ρc vs w cs hc0 (fun id hid=>by
  cases hq:ρc id with
  |none=>exact absurd hq hid
  |some L=>exact (hno id L hq).elim) ⟨by rw [y6j]; exact har.1,fun i y hi=>by
   obtain ⟨x,hx,rfl,hb⟩:=y6k hp args hc i y hi
   exact v6a hh (har.2 i x hx) hb⟩
 have hold:∀ b,b<w.heap.size→w'.heap[b]?=w.heap[b]?:=by
  intro b hb
  by_cases ho:ρ.fr b
  ·exact hx.frs b ho
  ·exact hx.keep.frame b hb (fun h=>ho (z5t.1 h))
 have hfr:ρ'.fr=ρ.fr:=hx.fr
 have hk0:z5m (z0k ρ hp) (z0k ρ hp) w w':=⟨hx.keep.size,fun b hb _=>hold b hb,fun b _ h=>h,hx.keep.shape,hx.keep.drawn⟩
 have hh0:z0d P ρ hp w':=hh.of_keep hk0 fun b hb=>hold b (y02 hh hb)
 let base:=hp.length
 let f:Nat→Nat:=(base+ ·)
 let ρ2:Rho:=⟨fun id=>if id<base then ρ id else ρ' (id - base),ρ.fr⟩
 let h2:=hp++h1.map (y8z f)
 have n1:∀ id,id<base→z0e h2 id=z0e hp id:=fun id hid=>by show z0e (hp++_) id=_; rw [y4e,if_pos hid]
 have n2:∀ id,base≤id→z0e h2 id=y8z f (z0e h1 (id - base)):=fun id hid=>by
  show z0e (hp++_) id=_
  rw [y4e,if_neg (by show ¬ id<base; omega),w1i _ rfl]
 have r1:∀ id,id<base→ρ2 id=ρ id:=fun id hid=>by show (if id<base then _ else _)=_; rw [if_pos hid]
 have r2:∀ id,base≤id→ρ2 id=ρ' (id - base):=fun id hid=>by show (if id<base then _ else _)=_; rw [if_neg (by omega)]
 have r3:∀ j M,ρ' j=some M→ρ2 (f j)=some M:=fun j M hM=>by
  rw [r2 (f j) (Nat.le_add_right _ _)]
  show ρ' (base+j - base)=some M
  rw [Nat.add_sub_cancel_left]; exact hM
 have rlt:∀ id M,ρ id=some M→id<base:=fun id M hM=>hdm id (by rw [hM]; simp)
 have hnew:∀ j M,ρ' j=some M→(z0e h1 j).live=true→w.heap.size≤M.blk:=by
  intro j M hM hl
  rcases Nat.lt_or_ge M.blk w.heap.size with hlt|hge
  ·have hob:z0k ρ' h1 M.blk:= .inr ⟨j,M,hM,hl,rfl⟩
   have:=z5t.1 (hx.keep.own M.blk hlt hob)
   exact absurd (by rw [hfr]; exact this) (hh'.sep j M hM hl)
  ·exact hge
 have hO:∀ b,z0k ρ2 h2 b→z0k ρ hp b∨w.heap.size≤b:=by
  rintro b (hf|⟨id,M,hM,hl,rfl⟩)
  ·exact .inl (.inl hf)
  ·rcases Nat.lt_or_ge id base with hlt|hge
   ·rw [r1 id hlt] at hM; rw [n1 id hlt] at hl; exact .inl (.inr ⟨id,M,hM,hl,rfl⟩)
   ·rw [r2 id hge] at hM; rw [n2 id hge,z3p] at hl; exact .inr (hnew _ M hM hl)
 have hk:z5m (z0k ρ hp) (z0k ρ2 h2) w w':=⟨hx.keep.size,fun b hb _=>hold b hb,fun b hb h=>(hO b h).elim id fun h=>by omega,hx.keep.shape,hx.keep.drawn⟩
 have rmono:∀ id M,ρ id=some M→ρ2 id=some M:=fun id M hM=>by rw [r1 id (rlt id M hM)]; exact hM
 refine ⟨ρ2,v,w',fr,hst,hfn,hlv,x1s r3 hv hr,⟨fun id M hM=>?_,fun id id' M M' hM hM' l1 l2 e=>?_,fun b hb=>hh0.fr b hb,fun id M hM hl hb=>?_⟩,fun id hid=>?_,?_⟩
 ·rcases Nat.lt_or_ge id base with hlt|hge
  ·rw [r1 id hlt] at hM
   obtain ⟨a,b⟩:=hh.obj id M hM
   rw [n1 id hlt]
   exact ⟨Nat.lt_of_lt_of_le a hx.keep.size,b.keep hk rmono (hold _ a)⟩
  ·rw [r2 id hge] at hM
   obtain ⟨a,b⟩:=hh'.obj (id - base) M hM
   rw [n2 id hge]
   exact ⟨a,w54 r3 (x7m ho _) b⟩
 ·rcases Nat.lt_or_ge id base with hlt|hge<;>rcases Nat.lt_or_ge id' base with hlt'|hge'
  ·rw [r1 id hlt] at hM; rw [r1 id' hlt'] at hM'
   rw [n1 id hlt] at l1; rw [n1 id' hlt'] at l2
   exact hh.inj id id' M M' hM hM' l1 l2 e
  ·rw [r1 id hlt] at hM; rw [r2 id' hge'] at hM'
   rw [n1 id hlt] at l1; rw [n2 id' hge',z3p] at l2
   have a:=(hh.obj id M hM).1
   have b:=hnew _ M' hM' l2
   omega
  ·rw [r2 id hge] at hM; rw [r1 id' hlt'] at hM'
   rw [n2 id hge,z3p] at l1; rw [n1 id' hlt'] at l2
   have a:=(hh.obj id' M' hM').1
   have b:=hnew _ M hM l1
   omega
  ·rw [r2 id hge] at hM; rw [r2 id' hge'] at hM'
   rw [n2 id hge,z3p] at l1; rw [n2 id' hge',z3p] at l2
   have:=hh'.inj _ _ M M' hM hM' l1 l2 e
   omega
 ·rcases Nat.lt_or_ge id base with hlt|hge
  ·rw [r1 id hlt] at hM; rw [n1 id hlt] at hl
   exact hh.sep id M hM hl hb
  ·rw [r2 id hge] at hM; rw [n2 id hge,z3p] at hl
   exact hh'.sep _ M hM hl (by rw [hfr]; exact hb)
 ·show id<(hp++h1.map (y8z f)).length
  rw [List.length_append,List.length_map]
  rcases Nat.lt_or_ge id base with hlt|hge
  ·have:id<hp.length:=hlt
   omega
  ·rw [r2 id hge] at hid
   have:=hdm' (id - base) hid
   have e:base=hp.length:=rfl
   omega
 ·exact { os:=hx.os,tape:=hx.tape,output:=hx.output,keep:=hk,rho:=fun id hid=>r1 id hid,fr:=rfl,frs:=fun b hb=>hold b (hh.fr b hb) }⟩
end
end Go.Am
end
section
namespace Go.Am
def y69:Nat→List (Option Nat)
 |0=>[]
 |n+1=>some n::y69 n
theorem y68:∀ {n a:Nat},a<n→y0c (y69 n) a=true
 |0,a,h=>by omega
 |n+1,a,h=>by
  simp only [y69,y0c,Bool.or_eq_true]
  by_cases e:a=n
  ·left; subst e; exact Nat.beq_refl _
  ·right; exact y68 (by omega)
def v0p (p:Prim) (c:Ctr) (args:List AV) (h:List AO):Option (List (Option Nat)×List Bool×Tup c.scs):=
 match w0w (w29 h c.heap 2 (y2l c.args args)) 0 c.heap with
 |σ=>bif x5l σ&&z5c h.length σ then match y1y h c.heap σ with
  |some v1=>match y81 p h σ (y69 h.length) (z62 c.heap v1).1 c.heap σ,y0j p h σ (y69 h.length) (z62 c.heap v1).1 c.args args with
   |some (c2,v2),some (c3,v3)=>match w59 c.scs (v1++(v2++v3)) with
    |some x=>some (σ,c2++c3,x)
    |none=>none
   |_,_=>none
  |none=>none
  else none
theorem x19 {P : Program} {c : Ctr} {args : List AV} {s : AS} {σ : List (Option Nat)} {cs : List Bool} {x : Tup c.scs} (h : v0p std c args s.heap = some (σ, cs, x)) (hc : z1z cs = true) {n : Nat} (hn : n ≤ s.heap.length) {r : AV} {hT' : List AO}
    (hl : (y2z std c (z91 c.scs x)).2.length ≤ hT'.length) (ha : z6m P c.g (y2z std c (z91 c.scs x)).1 (y2z std c (z91 c.scs x)).2 r hT') : z4f P n c.g args s (z5e (z1d σ s.heap.length) r) ⟨s.env, z1g (z1d σ s.heap.length) s.heap 0 hT', s.nt⟩ := by
  unfold v0p at h
  simp only at h
  generalize hσ : w0w (w29 s.heap c.heap 2 (y2l c.args args)) 0 c.heap = σ' at h
  cases hb : x5l σ' && z5c s.heap.length σ' with
  | false => rw [hb] at h; cases h
  | true =>
    rw [hb] at h; simp only [cond_true] at h
    simp only [Bool.and_eq_true] at hb
    split at h
    · rename_i v1 h1
      split at h
      · rename_i c2 v2 c3 v3 h2 h3
        split at h
        · rename_i x' hx
          cases h
          obtain ⟨q2, q3⟩ := z2t hc
          rw [y3q hx] at hl ha
          obtain ⟨a1, a2, a3⟩ := x8q s.heap c.heap σ v1 h1 (v2 ++ v3)
          refine z9g hn hb.1 hb.2 hl (fun ρ w hr => ?_) ha
          rw [← a3] at h2 h3
          have cx : w3n P ρ (ρ.lent s.heap σ) (z0k ρ s.heap) s.heap w σ (y69 s.heap.length) (z62 c.heap (v1 ++ (v2 ++ v3))).1 :=
            { hr := hr
              loc := fun i a hi => by show (match z2p σ i with | some (some a) => ρ a | _ => none) = ρ a; rw [hi]
              sub := fun b hb => hb
              out := fun a M hM hl hm => by
                rcases Nat.lt_or_ge a s.heap.length with hlt | hge
                · rw [y68 hlt] at hm; cases hm
                · rw [x1x _ _ hge] at hl; cases hl }
          obtain ⟨b1, b2⟩ := x8p cx c.heap σ (z62 c.heap (v1 ++ (v2 ++ v3))).1 c2 v2 a2 h2 q2 v3
          obtain ⟨d1, d2, d3⟩ := z5b cx c.args args c3 v3 h3 q3 []
          rw [List.append_nil] at d1 d2 d3
          refine ⟨?_, ?_, ?_⟩
          · show HOk _ _ _ _ _ _ _ (y49 std _ _ c.heap (z62 c.heap (v1 ++ (v2 ++ v3))).2).1
            rw [a1]; exact b2
          · show (z6d std _ c.args (y49 std _ _ c.heap (z62 c.heap (v1 ++ (v2 ++ v3))).2).2).1.length = _
            rw [a1, b1]; exact d2
          · show ∀ f : Nat → Value, _ → ∀ i y, (z6d std _ c.args (y49 std _ _ c.heap (z62 c.heap (v1 ++ (v2 ++ v3))).2).2).1[i]? = some y → _
            rw [a1, b1]; exact d3
        · cases h
      · cases h
    · cases h
structure CF where
 c:Ctr
 F:Prim→Tup c.scs→Option (STup (scss c.outs))
def y5u (f:Nat→Nat):List (List CK)→Nat→List (List CK)→List (List CK)
 |K,_,[]=>K
 |K,j,[]::r=>y5u f K (j+1) r
 |K,j,ck::r=>y5u f (v3z K (f j) ck) (j+1) r
def isE:List AO→Bool
 |[]=>true
 |_=>false
theorem w1x {l:List AO} (h:isE l=true):l=[]:=by cases l<;>first|rfl|cases h
def w6r (p:Prim) (c:Ctr) (args:List AV) (h:List AO):Option (List Bool×Tup c.scs):=
 match v0p p c (lL p h args).2 [] with
 |some ([],cs,x)=>bif isE (y2z p c (z91 c.scs x)).2 then some ((lL p h args).1::cs,x) else none
 |_=>none
def x9k (A:Alg) (p:Prim) (Γ:List CF) (β:Type) (g:FuncId) (args:List AV) (ss:SS):Option ((AV→SS→A.Ω β)→A.Ω β):=
 match Γ with
 |[]=>none
 |cf::r=>bif Nat.beq cf.c.g g then match v0p p cf.c args ss.s.heap with
  |some (σ,cs,x)=>some fun k=>y1v A β cs (x01 A β p cf.c.outs (cf.F p x) fun _ s=>k (z5e (z1d σ ss.s.heap.length) (z0r s.s.env 0)) ⟨⟨ss.s.env,z1g (z1d σ ss.s.heap.length) ss.s.heap 0 s.s.heap,ss.s.nt⟩,y5u (z1d σ ss.s.heap.length) ss.K 0 s.K⟩)
  |none=>match w6r p cf.c args ss.s.heap with
   |some (cs,x)=>some fun k=>y1v A β cs (x01 A β p cf.c.outs (cf.F p x) fun _ s=>y1v A β (plV (z0r s.s.env 0)::plH p s.s.heap)
     (k (z5e (ss.s.heap.length+ ·) (z0r s.s.env 0)) ⟨⟨ss.s.env,ss.s.heap++s.s.heap.map (y8z (ss.s.heap.length+ ·)),ss.s.nt⟩,y5u (ss.s.heap.length+ ·) ss.K 0 s.K⟩))
   |none=>x9k A p r β g args ss
  else x9k A p r β g args ss
def GamOk (P:Program) (Γ:List CF):Prop:=∀ cf∈Γ,CtrOk P cf.c (cf.F std)
mutual
theorem y7w (f:Nat→Nat) (hf:∀ j,f j=j):∀ x:AV,z5e f x=x
 | .bptr i off=>by simp [z5e,hf]
 | .ptr i j off=>by simp [z5e,hf]
 | .slice i z off len cap=>by simp [z5e,hf]
 | .map i=>by simp [z5e,hf]
 | .yld i=>by simp [z5e,hf]
 | .clo fn fs cs=>by simp [z5e,y1r f hf fs,y1r f hf cs]
 | .iface t v=>by simp [z5e,y7w f hf v]
 | .agg l=>by simp [z5e,y1r f hf l]
 | .tuple l=>by simp [z5e,y1r f hf l]
 | .bot=>rfl
 | .d x=>rfl
 | .lptr r off=>rfl
 | .wptr r off=>rfl
theorem y1r (f:Nat→Nat) (hf:∀ j,f j=j):∀ l:List AV,x1q f l=l
 |[]=>rfl
 |x::l=>by simp [x1q,y7w f hf x,y1r f hf l]
end
theorem w5t (f:Nat→Nat) (hf:∀ j,f j=j) (o:AO):y8z f o=o:=by
 have h1:∀ l:List AV,x1q f l=l:=y1r f hf
 have h2:∀ l:List (List AV),x43 f l=l:=fun l=>by
  rw [z9d]
  induction l with
  |nil=>rfl
  |cons x l ih=>simp [h1 x,ih]
 have h3:∀ l:List (Nat×AV),w8p f l=l:=fun l=>by
  induction l with
  |nil=>rfl
  |cons x l ih=>obtain ⟨k,x⟩:=x; simp [w8p,y7w f hf x,ih]
 cases o<;>simp [y8z,h1,h2,h3]
theorem w1c (h:List AO) (o:AO):z0o h h.length o=h++[o]:=x23 h o
theorem y84 (f:Nat→Nat) (hf:∀ j,f j=j):∀ (hT h:List AO),z1g f h h.length hT=h++hT
 |[],h=>by simp [z1g]
 |o::l,h=>by
  simp only [z1g,hf,w5t f hf,w1c]
  have:=y84 f hf l (h++[o])
  rw [List.length_append,List.length_singleton] at this
  rw [this]; simp
theorem w1n {P:Program} {c:Ctr} {args:List AV} {h:List AO} {cs:List Bool} {x:Tup c.scs} (hf:w6r std c args h=some (cs,x)) (hc:z1z cs=true) {r:AV} {hT':List AO}
  (hl:(y2z std c (z91 c.scs x)).2.length≤hT'.length) (ha:z6m P c.g (y2z std c (z91 c.scs x)).1 (y2z std c (z91 c.scs x)).2 r hT'):z6m P c.g (lL std h args).2 [] r hT'∧(lL std h args).1=true:=by
 unfold w6r at hf
 split at hf
 ·rename_i cs' x' hfit
  cases he:isE (y2z std c (z91 c.scs x')).2 with
  |false=>rw [he] at hf; cases hf
  |true=>
   rw [he] at hf
   cases hf
   simp only [z1z,Bool.and_eq_true] at hc
   have hcs:=x19 (P:=P) (s:=⟨[],[],0⟩) (n:=0) hfit hc.2 (Nat.le_refl _) hl ha
   refine ⟨?_,hc.1⟩
   have hid:∀ j,z1d [] ([]:List AO).length j=j:=fun j=>by
    show (match z2p ([]:List (Option Nat)) j with|some (some a)=>a|_=>0+(j - 0))=j
    simp [z2p]
   constructor
   intro ρ vs w cs' hr hdm har
   obtain ⟨ρ',v,w',fr,b1,b2,b3,b4,b5,b6,b7⟩:=hcs.run ρ vs #[] w cs' ⟨hr,fun t=> .bot _,rfl,hdm⟩ har
   have e2:z1g (z1d [] ([]:List AO).length) [] 0 hT'=hT':=by
    have:=y84 _ hid hT' []
    simpa using this
   refine ⟨ρ',v,w',fr,b1,b2,b3,?_,?_,?_,?_⟩
   ·have b4':z0w ρ' (z0k ρ' (z1g (z1d [] ([]:List AO).length) [] 0 hT')) w' (z5e (z1d [] ([]:List AO).length) r) v:=b4
    rw [e2,y7w _ hid] at b4'; exact b4'
   ·have h3:z0d P ρ' (z1g (z1d [] ([]:List AO).length) [] 0 hT') w':=b5.heap
    rw [e2] at h3; exact h3
   ·have h3:Dom ρ' (z1g (z1d [] ([]:List AO).length) [] 0 hT'):=b5.dom
    rw [e2] at h3; exact h3
   ·have h3:Ext (· <0) ρ [] w ρ' (z1g (z1d [] ([]:List AO).length) [] 0 hT') w':=b7
    rw [e2] at h3; exact h3
 ·cases hf
theorem w26 {P:Program} {β:Type} {g:FuncId} {args:List AV} {ss:SS} {n:Nat} (hn:n≤ss.s.heap.length):∀ {Γ:List CF} (hG:GamOk P Γ) {t:(AV→SS→Option β)→Option β} {k:AV→SS→Option β} {b:β},x9k opt std Γ β g args ss=some t→t k=some b→
  ∃ r ss',n≤ss'.s.heap.length∧z13 P g∧z4f P n g args ss.s r ss'.s∧k r ss'=some b:=by
 intro Γ
 induction Γ with
 |nil=>intro hG t k b h _; cases h
 |cons cf r ih=>
  intro hG t k b h ht
  simp only [x9k] at h
  cases hb:Nat.beq cf.c.g g with
  |false=>rw [hb] at h; exact ih (fun c hc=>hG c (by simp [hc])) h ht
  |true=>
   rw [hb] at h; simp only [cond_true] at h
   have:=Nat.eq_of_beq_eq_true hb; subst this
   split at h
   ·rename_i σ cs x hf
    cases h
    obtain ⟨hc,ht⟩:=z1t ht
    obtain ⟨y,hy,ht⟩:=z51 ht
    obtain ⟨g1,g2⟩:=hG cf (by simp)
    obtain ⟨g3,g4⟩:=g2 x y hy
    refine ⟨_,⟨⟨ss.s.env,z1g (z1d σ ss.s.heap.length) ss.s.heap 0 (z1s std cf.c.outs y).2.s.heap,ss.s.nt⟩,y5u (z1d σ ss.s.heap.length) ss.K 0 (z1s std cf.c.outs y).2.K⟩,?_,g1,x19 hf hc hn g3 g4,ht⟩
    exact Nat.le_trans hn (z66 _ _ _ _).1
   ·split at h
    ·rename_i cs x hf
     cases h
     obtain ⟨hc,ht⟩:=z1t ht
     obtain ⟨y,hy,ht⟩:=z51 ht
     obtain ⟨g1,g2⟩:=hG cf (by simp)
     obtain ⟨g3,g4⟩:=g2 x y hy
     obtain ⟨hpl,ht⟩:=z1t ht
     simp only [z1z,Bool.and_eq_true] at hpl
     obtain ⟨l1,l2⟩:=w1n hf hc g3 g4
     refine ⟨_,⟨⟨ss.s.env,ss.s.heap++(z1s std cf.c.outs y).2.s.heap.map (y8z (ss.s.heap.length+ ·)),ss.s.nt⟩,y5u (ss.s.heap.length+ ·) ss.K 0 (z1s std cf.c.outs y).2.K⟩,?_,g1,z4f.of_aret hn (lend l1 l2 hpl.1 hpl.2),ht⟩
     exact Nat.le_trans hn (by simp)
    ·exact ih (fun c hc=>hG c (by simp [hc])) h ht
def x7t:x56→Bool
 |[]=>true
 |(_,t)::l=>match t.heap with
  |[]=>x7t l
  |_=>false
def x44 (A:Alg) (p:Prim) (Γ:List CF) (β:Type) (g:FuncId) (args:List AV):Option ((AV→A.Ω β)→A.Ω β):=
 match Γ with
 |[]=>none
 |cf::r=>bif Nat.beq cf.c.g g&&y0i args then match v0p p cf.c args [] with
  |some (_,cs,x)=>bif isE (y2z p cf.c (z91 cf.c.scs x)).2&&x7t cf.c.outs then some fun k=>y1v A β cs (x01 A β p cf.c.outs (cf.F p x) fun _ s=>bif isE s.s.heap&&z8w (z0r s.s.env 0) then k (z0r s.s.env 0) else A.no β 95) else x44 A p r β g args
  |none=>x44 A p r β g args
  else x44 A p r β g args
theorem z9e {f:AV→AV} {l:List AV} (h:∀ (i:Nat) (x:AV),l[i]?=some x→f x=x):l.map f=l:=by
 apply List.ext_getElem?
 intro i
 rw [List.getElem?_map]
 cases hq:l[i]? with
 |none=>rfl
 |some y=>simp [h i y hq]
theorem w04 {f:Nat→Nat} {x:AV} (h:y83 x):z5e f x=x:=by
 induction h with
 |bot=>rfl
 |d x=>rfl
 |tuple xs hx ih=>simp only [z5e,z2y]; congr 1; exact z9e ih
 |agg xs hx ih=>simp only [z5e,z2y]; congr 1; exact z9e ih
 |clo fn fs cs h1 h2 ih1 ih2=>simp only [z5e,z2y]; rw [z9e ih1,z9e ih2]
theorem w1d {P:Program} {β:Type} {g:FuncId} {args:List AV}:∀ {Γ:List CF} (hG:GamOk P Γ) {t:(AV→Option β)→Option β} {k:AV→Option β} {b:β},x44 opt std Γ β g args=some t→t k=some b→
  ∃ r,z13 P g∧(∀ h,z6m P g args h r h)∧k r=some b:=by
 intro Γ
 induction Γ with
 |nil=>intro hG t k b h _; cases h
 |cons cf r ih=>
  intro hG t k b h ht
  simp only [x44] at h
  cases hb:Nat.beq cf.c.g g&&y0i args with
  |false=>rw [hb] at h; exact ih (fun c hc=>hG c (by simp [hc])) h ht
  |true=>
   rw [hb] at h; simp only [cond_true] at h
   simp only [Bool.and_eq_true] at hb
   have:=Nat.eq_of_beq_eq_true hb.1; subst this
   split at h
   ·rename_i σ cs x hf
    cases he:isE (y2z std cf.c (z91 cf.c.scs x)).2&&x7t cf.c.outs with
    |false=>rw [he] at h; exact ih (fun c hc=>hG c (by simp [hc])) h ht
    |true=>
    rw [he] at h
    have he:=(Bool.and_eq_true _ _▸he:_∧_).1
    cases h
    obtain ⟨hc,ht⟩:=z1t ht
    obtain ⟨y,hy,ht⟩:=z51 ht
    obtain ⟨g1,g2⟩:=hG cf (by simp)
    obtain ⟨g3,g4⟩:=g2 x y hy
    cases hq:isE (z1s std cf.c.outs y).2.s.heap&&z8w (z0r (z1s std cf.c.outs y).2.s.env 0) with
    |false=>rw [hq] at ht; cases ht
    |true=>
     rw [hq] at ht
     simp only [Bool.and_eq_true] at hq
     refine ⟨_,g1,fun h=>?_,ht⟩
     have hcs:=x19 (P:=P) (s:=⟨[],[],0⟩) (n:=0) hf hc (Nat.le_refl _) g3 g4
     have hp:w8h P cf.c.g args (z0r (z1s std cf.c.outs y).2.s.env 0):=⟨fun ρ vs w cs a1 a2 a3=>by
      obtain ⟨ρ',v,w',fr,b1,b2,b3,b4,b5,b6,b7⟩:=hcs.run ρ vs #[] w cs ⟨a1,fun t=> .bot _,rfl,a2⟩ a3
      have e1:=w1x hq.1
      have e2:z1g (z1d σ ([]:List AO).length) [] 0 (z1s std cf.c.outs y).2.s.heap=[]:=by rw [e1]; rfl
      have hfree:=y3c _ hq.2
      refine ⟨ρ',v,w',fr,b1,b2,b3,?_,?_,?_,?_⟩
      ·have b4':z0w ρ' (z0k ρ' (z1g (z1d σ ([]:List AO).length) [] 0 (z1s std cf.c.outs y).2.s.heap)) w' (z5e (z1d σ ([]:List AO).length) (z0r (z1s std cf.c.outs y).2.s.env 0)) v:=b4
       rw [e2] at b4'
       have:z5e (z1d σ ([]:List AO).length) (z0r (z1s std cf.c.outs y).2.s.env 0)=z0r (z1s std cf.c.outs y).2.s.env 0:=w04 hfree
       rw [this] at b4'; exact b4'
      ·have:=b5.heap
       show z0d P ρ' [] w'
       have h3:z0d P ρ' (z1g (z1d σ ([]:List AO).length) [] 0 (z1s std cf.c.outs y).2.s.heap) w':=this
       rw [e2] at h3; exact h3
      ·have h3:Dom ρ' (z1g (z1d σ ([]:List AO).length) [] 0 (z1s std cf.c.outs y).2.s.heap):=b5.dom
       rw [e2] at h3; exact h3
      ·have h3:Ext (· <0) ρ [] w ρ' (z1g (z1d σ ([]:List AO).length) [] 0 (z1s std cf.c.outs y).2.s.heap) w':=b7
       rw [e2] at h3; exact h3⟩
     exact hp.at (z5w _ hb.2) (y3c _ hq.2) h
   ·exact ih (fun c hc=>hG c (by simp [hc])) h ht
structure LA where
 g:Nat
 pos:List Bool
 n:Nat
 ann:y8x
structure JA where
 g:Nat
 pos:List Bool
 n:Nat
 outs:x56
structure VA where
 g:Nat
 pos:List Bool
 st:ST
def v0q:List JA→Nat→List Bool→Nat→Option x56
 |[],_,_,_=>none
 |a::l,g,pos,n=>bif Nat.beq a.g g&&Nat.beq a.n n&&y8e a.pos pos then some a.outs else v0q l g pos n
def w39:List VA→Nat→List Bool→Option ST
 |[],_,_=>none
 |a::l,g,pos=>bif Nat.beq a.g g&&y8e a.pos pos then some a.st else w39 l g pos
def x3p (id:Nat):List AO→Bool
 |[]=>false
 | .arow es::l=>(es.any fun r=>r.any fun x=>match x with| .slice a _ _ _ _=>Nat.beq a id|_=>false)||x3p id l
 |_::l=>x3p id l
def v1i (n:Nat) (s:AS):AS:=
 ⟨y87 s.heap (fun id=>Nat.blt id n||!x3p id s.heap) s.env,z6y s.heap (fun id=>Nat.blt id n||!x3p id s.heap) 0 s.heap,s.nt⟩
theorem w2o (n:Nat) (s:AS):z2a n s (v1i n s):=
 z2a.view _ (fun id h=>by rw [Bool.or_eq_true]; exact .inl (by simpa using h)) ⟨fun _=>rfl,fun id _ h=>by rw [y86]; exact h⟩
structure Anns where
 Γ:List CF
 J:List JA
 V:List VA
def v31 (A:Alg) (p:Prim) (a:Anns):Orc A where
 call:=fun β _ _ _ _ g args ss=>x9k A p a.Γ β g args ss
 pure:=fun β _ _ _ g args _=>x44 A p a.Γ β g args
 loop:=fun _ _ _ _ _=>none
 join:=fun β n g pos body k=>match v0q a.J g pos n with
  |some os=>w6x A p n os β body k
  |none=>body β k
 view:=fun β n g pos ss k=>match w39 a.V g pos with
  |some st=>match w0e p n st ss.s with
   |some (cs,x)=>y1v A β cs (k (y2y p st x))
   |none=>match w0e p n st (v1i n ss.s) with
    |some (cs,x)=>y1v A β cs (k (y2y p st x))
    |none=>A.no β 96
  |none=>k ss
theorem w57 {P:Program} {a:Anns} (hG:GamOk P a.Γ):y43 P (v31 opt std a) where
 call:=fun β g0 pos ix n g args ss t k b h ht hn=>w26 hn hG h ht
 pure:=fun β g0 pos ix g args ss t k b h ht=>by
  obtain ⟨r,h1,h2,h3⟩:=w1d hG h ht
  exact ⟨r,h1,fun h _=>h2 h,h3⟩
 loop:=fun _ _ _ _ _ _ _ _ _ _ _ h=>by cases h
 join:=fun β n g pos body k b G hb h=>by
  simp only [v31] at h
  split at h
  ·exact w1v hb h
  ·obtain ⟨e,ss',hg,hk⟩:=hb β k b h
   exact ⟨e,ss',ss',hg,z2a.refl _ _,fun h=>h,hk⟩
 view:=fun β n g pos ss k b hn h=>by
  simp only [v31] at h
  split at h
  ·split at h
   ·rename_i cs x hx
    obtain ⟨hc,h⟩:=z1t h
    obtain ⟨v1,v2⟩:=y1x hx hc
    exact ⟨_,v1,v2,h⟩
   ·split at h
    ·rename_i cs x hx
     obtain ⟨hc,h⟩:=z1t h
     obtain ⟨v1,v2⟩:=y1x hx hc
     exact ⟨_,(w2o n ss.s).trans v1,v2,h⟩
    ·cases h
  ·exact ⟨ss,z2a.refl _ _,hn,h⟩
noncomputable def mkOrc (A : Alg) (p : Prim) (E : Env) (f : Nat) (a : Anns) : List LA → Orc A
  | [] => v31 A p a
  | l :: ls => { mkOrc A p E f a ls with
      loop := fun β n g pos ss => bif Nat.beq l.g g && (Nat.beq l.n n && (y8e l.pos pos && (w0e p n l.ann.head ss.s).isSome)) then match E.A g pos with
        | some (.loop c) => some (w6p A p (sym A p E (mkOrc A p E f a ls) f) n g pos c l.ann β ss)
        | _ => none
        else (mkOrc A p E f a ls).loop β n g pos ss }
theorem mkOrc_ok {P : Program} {E : Env} (hE : y22 P E) {f : Nat} {a : Anns} (hG : GamOk P a.Γ) : ∀ ls, y43 P (mkOrc opt std E f a ls)
  | [] => w57 hG
  | l :: ls => by
    have ih := mkOrc_ok hE (f := f) hG ls
    exact { call := ih.call, pure := ih.pure, join := ih.join, view := ih.view
            loop := fun β n g pos c ss t k b hcd hn h ht => by
              simp only [mkOrc] at h
              cases hb : Nat.beq l.g g && (Nat.beq l.n n && (y8e l.pos pos && (w0e std n l.ann.head ss.s).isSome)) with
              | false => rw [hb] at h; exact ih.loop _ _ _ _ _ _ _ _ _ hcd hn h ht
              | true =>
                rw [hb] at h
                simp only [cond_true] at h
                split at h
                · rename_i c' hc'
                  cases h
                  have := hE.code _ _ _ hc'
                  rw [hcd] at this; cases this
                  exact w1l (y5y hE ih f) hcd hn ht
                · cases h }
theorem enters_auto {P:Program} {g:FuncId} {b:Option w3m} (h:infoOf P g=b) (hb:b.isSome=true):z13 P g:=by
 cases b with
 |none=>cases hb
 |some i=>obtain ⟨_,_,_,_,_,e⟩:=x0c h; exact e
end Go.Am
end
section
namespace Go.Am
theorem w6c {β:Type} (c:Bool) (x:Option β):opt.need β c x=if c=true then x else none:=by cases c<;>rfl
theorem v29 {β:Type} (c:Bool) (x y:Option β):opt.ask β c x y=if c=true then x else y:=by cases c<;>rfl
theorem w9b {β:Type} (x:β):opt.ret β x=some x:=rfl
theorem v5g {β:Type} (n:Nat):opt.no β n=none:=rfl
theorem v2z {α β:Type} (x:Option α) (f:α→Option β):opt.bnd α β x f=x.bind f:=rfl
theorem w9a {β:Type} (x:Option β):opt.run β x=x:=rfl
theorem v3f {α β γ:Type} (x:Option (α⊕β)) (f:α→Option γ) (g:β→Option γ):opt.alt α β γ x f g=x.bind (Sum.elim f g):=by
 cases x with
 |none=>rfl
 |some y=>cases y<;>rfl
section
variable (es l:List (List D)) (i j a b n:Nat) (x y:Int) (c d:Bool)
theorem w5h:std.leN a b=decide (a≤b):=by
 show Nat.ble a b=_
 rw [Bool.eq_iff_iff]; simp
theorem w5i:std.eqN a b=decide (a=b):=by
 show Nat.beq a b=_
 rw [Bool.eq_iff_iff]; simp
theorem x6z:std.and c d=(c&&d):=rfl
theorem x1m:std.cmp .neq x y=!decide (x=y):=rfl
theorem z4k:std.cmp .lss x y=decide (x<y):=rfl
theorem y7m:std.cmp .leq x y=decide (x≤y):=rfl
theorem y3y:std.cmp .geq x y=decide (x≥y):=rfl
theorem w0q:std.mm .lss x y=min x y:=by
 show (if y<x then y else x)=_
 omega
theorem w0r:std.mm .gtr x y=max x y:=by
 show (if y>x then y else x)=_
 omega
theorem v21 {α:Type} (u v:α):(bif c then u else v)=if c=true then u else v:=by cases c<;>rfl
theorem y0p (h1: -9223372036854775808≤x) (h2:x≤9223372036854775807):IntKind.i64.wrap x=x:=by
 have e:IntKind.i64.wrap x=if x % 18446744073709551616≥9223372036854775808 then x % 18446744073709551616 - 18446744073709551616 else x % 18446744073709551616:=by
  unfold IntKind.wrap
  simp [IntKind.signed,IntKind.bits]
 rw [e]
 split<;>omega
theorem z0i:std.ar .add .i64 x y=IntKind.i64.wrap (x+y):=rfl
theorem z7b:std.ar .sub .i64 x y=IntKind.i64.wrap (x - y):=rfl
theorem y1p:std.ar .rem .i64 x y=x.tmod y:=rfl
end
end Go.Am
namespace Go.Am
theorem z1q {α:Type} {l:List α} {i:Nat} (h:i<l.length):∃ m,l[i]?=some m:=⟨_,List.getElem?_eq_getElem h⟩
theorem z3h {i:Nat} (h:i<9223372036854775807):IntKind.i64.wrap ((i:Int)+1)=((i+1:Nat):Int):=by
 rw [y0p]<;>omega
end Go.Am
end
section
namespace Go.Am
theorem z2c:(∀ {β:Type} (c:Bool) (x:Option β),opt.need β c x=if c=true then x else none)∧(∀ {β:Type} (c:Bool) (x y:Option β),opt.ask β c x y=if c=true then x else y)∧
    (∀ {β:Type} (x:β),opt.ret β x=some x)∧(∀ {β:Type} (n:Nat),opt.no β n=none)∧(∀ {α β:Type} (x:Option α) (f:α→Option β),opt.bnd α β x f=x.bind f)∧(∀ {β:Type} (x:Option β),opt.run β x=x)∧
    (∀ {α β γ:Type} (x:Option (α⊕β)) (f:α→Option γ) (g:β→Option γ),opt.alt α β γ x f g=x.bind (Sum.elim f g))∧
    (∀ es,std.len es=es.length)∧(∀ n,std.ofNat n=(n:Int))∧(∀ x,std.nat x=x.toNat)∧(∀ a b,std.add a b=a+b)∧(∀ a b,std.leN a b=decide (a≤b))∧(∀ a b,std.eqN a b=decide (a=b))∧
    (∀ c d,std.and c d=(c&&d))∧(∀ es l,std.app es l=es++l)∧(∀ es a n,std.cut es a n=(es.drop a).take n)∧
    (∀ x y,std.cmp .lss x y=decide (x<y))∧(∀ x y,std.cmp .leq x y=decide (x≤y))∧(∀ x y,std.cmp .gtr x y=decide (x>y))∧(∀ x y,std.cmp .geq x y=decide (x≥y))∧(∀ x y,std.cmp .eql x y=decide (x=y))∧(∀ x y,std.cmp .neq x y=!decide (x=y))∧
    (∀ es i j,std.rdI es i j=dI (((es[i]?).bind (fun r=>r[j]?)).getD .nilp))∧(∀ es i j,std.rdL es i j=dL (((es[i]?).bind (fun r=>r[j]?)).getD .nilp))∧
    (∀ es i ck,std.rowOk es i ck=match es[i]? with|some r=>z4e ck r|none=>false)∧(∀ k x,std.cvt k x=k.wrap x)∧(∀ a b,std.sub a b=a - b)∧(∀ a b,std.mul a b=a*b)∧(∀ a b,std.min a b=min a b)∧
    (∀ x y,std.mm .lss x y=min x y)∧(∀ x y,std.mm .gtr x y=max x y)∧(∀ n r,std.rep n r=List.replicate n r)∧(∀ es i r,std.set es i r=es.set i r)∧(∀ es i l,std.splice es i l=es.take i++l++es.drop (i+l.length))∧
    (∀ n,Int.ofNat n=(n:Int))∧(∀ {α:Type} (c:Bool) (u v:α),(bif c then u else v)=if c=true then u else v)∧(∀ es i j,rdD es i j=((es[i]?).bind (fun r=>r[j]?)).getD .nilp):=
  ⟨w6c,v29,w9b,v5g,v2z,w9a,v3f,fun _=>rfl,fun _=>rfl,fun _=>rfl,fun _ _=>rfl,w5h,w5i,fun _ _=>rfl,fun _ _=>rfl,fun _ _ _=>rfl,
   fun _ _=>rfl,fun _ _=>rfl,fun _ _=>rfl,fun _ _=>rfl,fun _ _=>rfl,fun _ _=>rfl,fun _ _ _=>rfl,fun _ _ _=>rfl,fun _ _ _=>rfl,fun _ _=>rfl,fun _ _=>rfl,fun _ _=>rfl,fun _ _=>rfl,
   w0q,w0r,fun _ _=>rfl,fun _ _ _=>rfl,fun _ _ _=>rfl,fun _=>rfl,fun c u v=>v21 c u v,fun _ _ _=>rfl⟩
theorem z2d:(∀ {α β:Type} (f:α→β) (l:List α) (i:Nat),(l.map f)[i]?=Option.map f l[i]?)∧(∀ {α β:Type} (x:α) (f:α→β),Option.map f (some x)=some (f x))∧(∀ {α β:Type} (x:α) (f:α→Option β),(some x).bind f=f x)∧
  (∀ {α β:Type} (f:α→Option β),(none:Option α).bind f=none)∧(∀ {α:Type} (a b:α),(some a).getD b=a)∧(∀ {α β γ:Type} (f:α→γ) (g:β→γ) (x:α),Sum.elim f g (.inl x)=f x)∧(∀ {α β γ:Type} (f:α→γ) (g:β→γ) (x:β),Sum.elim f g (.inr x)=g x)∧
  (∀ {p:Prop} [Decidable p],(decide p=true)=p)∧(∀ h:Decidable True,@decide True h=true)∧(∀ h:Decidable False,@decide False h=false)∧(∀ b,(b&&true)=b)∧(∀ b,(true&&b)=b)∧((!true)=false)∧((!false)=true)∧
  (∀ b,((!b)=true)=(b=false))∧(∀ {p:Prop} [Decidable p],(decide p=false)↔¬ p)∧((false=true)=False)∧(∀ {α:Type} {_:Decidable True} (a b:α),(if True then a else b)=a)∧(∀ {α:Type} {_:Decidable False} (a b:α),(if False then a else b)=b)∧
  (∀ {α β:Type} (f:α→β) (l:List α),(l.map f).length=l.length)∧(∀ n:Nat,((n:Int)).toNat=n)∧(∀ {α:Type} (a:α) (l:List α),(a::l).length=l.length+1)∧(∀ {α:Type},([]:List α).length=0)∧(∀ n:Nat,0+n=n):=
 ⟨by simp,by simp,by simp,by simp,by simp,by simp,by simp,by simp,by simp,by simp,by simp,by simp,rfl,rfl,by simp,by simp,by simp,by simp,by simp,by simp,by simp,by simp,by simp,by simp⟩
end Go.Am
end
section
namespace Go.Am
def le {β:Type} (a b:Option β):Prop:=∀ r,a=some r→b=some r
theorem le_refl {β:Type} (a:Option β):le a a:=fun _ h=>h
theorem z0c {β:Type} {c:Bool} {x y:Option β} (h:le x y):le (opt.need β c x) (opt.need β c y):=by
 cases c
 ·exact le_refl _
 ·exact h
theorem z03 {β:Type} {c:Bool} {x y x' y':Option β} (h1:le x x') (h2:le y y'):le (opt.ask β c x y) (opt.ask β c x' y'):=by
 cases c
 ·exact h2
 ·exact h1
theorem z2m {β:Type} {x y:Option β} (h:le x y):le (opt.run β x) (opt.run β y):=h
theorem z0f {α β:Type} {x y:Option α} {f g:α→Option β} (h1:le x y) (h2:∀ a,le (f a) (g a)):le (opt.bnd α β x f) (opt.bnd α β y g):=by
 intro r h
 cases x with
 |none=>cases h
 |some a=>
  have:=h1 a rfl
  subst this
  exact h2 a r h
theorem z2w {α β γ:Type} {x y:Option (α⊕β)} {f f':α→Option γ} {g g':β→Option γ} (h1:le x y) (h2:∀ a,le (f a) (f' a)) (h3:∀ a,le (g a) (g' a)):
  le (opt.alt α β γ x f g) (opt.alt α β γ y f' g'):=by
 intro r h
 cases x with
 |none=>cases h
 |some a=>
  have:=h1 a rfl
  subst this
  cases a with
  |inl a=>exact h2 a r h
  |inr a=>exact h3 a r h
theorem w1q {S R:Type} {b c:S→Option (S⊕R)} (h:∀ s,le (c s) (b s)):∀ (n:Nat) (s:S),le (z6b c n s) (z6b b n s):=by
 intro n
 induction n with
 |zero=>intro s r h; cases h
 |succ n ih=>
  intro s r hr
  simp only [z6b] at hr⊢
  cases hc:c s with
  |none=>rw [hc] at hr; cases hr
  |some x=>
   rw [hc] at hr; rw [h s _ hc]
   cases x with
   |inl s'=>exact ih s' r hr
   |inr r'=>exact hr
theorem w6u {S R:Type} {b c:S→Option (S⊕R)} (h:∀ s,le (c s) (b s)) (n:Nat) (s:S):le (z6b c n s) (y0g b s):=
 fun r hr=>y78 (w1q h n s r hr)
abbrev It:=∀ S R:Type,(S→Option (S⊕R))→S→Option R
noncomputable def it0:It:=fun _ _ b s=>y0g b s
def itN (n:Nat):It:=fun _ _ b s=>z6b b n s
def It.Le (i j:It):Prop:=∀ (S R:Type) (c b:S→Option (S⊕R)) (s:S),(∀ s,le (c s) (b s))→le (i S R c s) (j S R b s)
theorem w96 (n:Nat):(itN n).Le it0:=fun _ _ _ _ s h=>w6u h n s
end Go.Am
end
noncomputable section
namespace Go.Am
theorem follows_mixed:Go.Proofs.Try.prog.follows .mixedOrders=true:=by kernel_rfl
abbrev LD := List (List D)
abbrev ci : CK := .int .i64
abbrev PG := Go.Proofs.Try.prog
theorem gN {P : Program} : GamOk P [] := fun _ h => by cases h
theorem gC {P : Program} {c : Ctr} {F : Prim → Tup c.scs → Option (STup (scss c.outs))} {l : List CF} (h : CtrOk P c (F std)) (k : GamOk P l) : GamOk P (⟨c, F⟩ :: l) := fun cf hm => by
 rcases List.mem_cons.1 hm with rfl | hm
 · exact h
 · exact k cf hm
theorem okF {c : Ctr} {a : Anns} {l : List LA} {F : Prim → Tup c.scs → Option (STup (scss c.outs))} (hg : GamOk PG a.Γ) (he : (infoOf PG c.g).isSome = true) (h : ∀ (p : Prim) x, bodyRun opt p (autoEnvD [60] PG) (mkOrc opt p (autoEnvD [60] PG) 400 a l) 400 c x = F p x) : CtrOk PG c (F std) :=
 ctr_of_body (autoEnvD_ok follows_mixed) (mkOrc_ok (autoEnvD_ok follows_mixed) hg _) (enters_auto (b := _) rfl he) fun x => h std x
abbrev T0 := ((Bool × Unit))
abbrev T1 := (Int × Unit)
abbrev T2 := ((Int × Unit))
abbrev T3 := (Int × (Int × Unit))
abbrev T4 := (Int × (Int × (Int × Unit)))
abbrev T5 := (Nat × (Nat × Unit))
abbrev T6 := ((List ((D × D)) × (List ((D × D)) × Unit)))
abbrev T7 := (Int × (Int × (Int × (Int × Unit))))
abbrev T8 := (Bool × Unit)
abbrev T9 := ((Int × (Int × Unit)))
abbrev T10 := (Int × (Int × (LD × (Int × (Int × Unit)))))
abbrev T11 := (Nat × (Nat × (Nat × (Nat × (Int × (Int × (Int × Unit)))))))
abbrev T12 := ((Bool × Unit) ⊕ Unit)
abbrev T13 := (Nat × (Nat × (Nat × (Nat × (Int × (Int × (Int × (Int × Unit))))))))
abbrev T14 := (Int × (Int × (Int × (Int × (Int × (Int × (Int × (Int × (Int × (Int × (Int × (Int × Unit))))))))))))
abbrev T15 := ((Int × Unit) ⊕ Unit)
abbrev T16 := (Int × (Int × (Bool × Unit)))
abbrev T17 := (Nat × (Nat × (Nat × (Nat × (Int × (Int × Unit))))))
abbrev T18 := (Nat × (Nat × (Nat × (Nat × Unit))))
abbrev T19 := ((Int × (Int × (Int × (LD × Unit)))))
abbrev T20 := (Int × (Bool × Unit))
abbrev T21 := (Int × (Int × (Int × (Bool × (Bool × Unit)))))
abbrev T22 := (Int × (Int × (Int × (Int × (Int × Unit)))))
abbrev T23 := (Int × (Int × (Int × (Int × (Int × (Int × (Int × (Int × (Int × (Int × (Int × (Int × (Int × (Int × (Int × Unit)))))))))))))))
abbrev T24 := (Nat × (Nat × (Nat × (Nat × (Int × (Nat × (Nat × (Int × (Int × Unit)))))))))
abbrev T25 := ((Int × (Int × (Int × (LD × (Bool × Unit))))))
abbrev T26 := (Int × (Int × (Int × (LD × (Int × (Int × (Int × (Int × (Int × (Int × (Int × (Int × (Int × (Int × (Int × (Int × (Int × (LD × (Int × Unit)))))))))))))))))))
abbrev T27 := (Nat × (Nat × (Int × (Int × (Bool × Unit)))))
abbrev T28 := ((Int × Unit) ⊕ (LD × (Int × (Int × Unit))))
abbrev T29 := ((Int × Unit) ⊕ (LD × (Int × Unit)))
abbrev T30 := ((Int × (Int × (Bool × Unit))))
abbrev T31 := ((Int × (Int × (LD × (Int × (Int × (Bool × Unit)))))))
abbrev T32 := (Int × (Int × (Int × (Int × (Int × (Int × Unit))))))
abbrev T33 := (Int × (Int × (Int × (LD × (Int × (Int × (LD × (Int × (Int × Unit)))))))))
abbrev T34 := ((Int × (LD × (Int × (Bool × Unit)))))
abbrev T35 := (((Int × Unit) ⊕ (LD × (LD × Unit))))
abbrev T36 := (Int × (Int × (Int × (Int × (Int × (Bool × Unit))))))
abbrev T37 := (Nat × (Nat × (Int × (Int × Unit))))
abbrev T38 := (Int × (Int × (Int × (LD × Unit))))
abbrev T39 := ((Int × (Int × (Int × (LD × (Int × (Bool × Unit)))))))
abbrev T40 := (Int × (LD × (LD × (LD × (Bool × Unit)))))
abbrev T41 := ((List ((D × D)) × (List ((D × D)) × (Int × (Int × (Int × Unit))))))
abbrev T42 := (Int × (Int × (Int × (LD × (Int × (Int × (Int × (Int × (Int × (Int × (Int × (Int × (Int × (Int × (Int × (LD × Unit))))))))))))))))
abbrev T43 := ((Int × (Int × (Int × (LD × (Int × (Int × (Int × (Bool × Unit)))))))))
abbrev T44 := ((Int × (Int × (Int × (LD × (Int × (Int × (Int × (Int × (Int × (Int × (Int × (Int × (Int × (Int × (Int × (Int × (Int × (LD × (Bool × Unit))))))))))))))))))))
abbrev T45 := (Int × (Int × (Int × (LD × (Int × (Int × (Int × (Int × (Int × (Int × (Int × (Int × (Int × (Int × (Int × (LD × (Bool × Unit)))))))))))))))))
abbrev T46 := (Int × (Int × (Int × (LD × (Int × (Int × (Int × (Int × (Int × (Int × (Int × (Int × (Int × (LD × Unit))))))))))))))
abbrev k0k := [(D.int .i64 (0 : Int))]
abbrev k1k := (D.int .i64 (1 : Int))
abbrev k2k := (D.int .i64 (0 : Int))
abbrev k3k := (D.int .i64 (2 : Int))
abbrev k4k := [(D.int .i64 (3 : Int))]
end Go.Am
end
noncomputable section
namespace Go.Am
def w21:Ctr:=
 ⟨21,[.list 1, .list 1],[],[(.ret,⟨[(0, .bool)],[],1⟩)]⟩
def la21:List LA:=
 [⟨21,[false,true,false,true,true],0,⟨⟨[(0, .list 1),(1, .list 1),(5, .int .i64)],[],26⟩,[(AX.ret,⟨[(4, .bool)],[],26⟩),((AX.exit 0),⟨[],[],26⟩)]⟩⟩]
def ja21:List JA:=
 []
def v7u:List CF:=
 []
def an21:Anns:=
 ⟨v7u,ja21,[]⟩
def x9x (p:Prim):(LD×(LD×T1))→Option ((LD×(LD×T1))⊕T12):=
 fun a=>opt.run _ (
 opt.ask _ (p.cmp .lss a.2.2.1 (p.ofNat (p.len a.1))) (
 opt.need _ (p.rowOk a.1 (p.nat a.2.2.1) [ci])<|
 opt.need _ (p.cmp .geq a.2.2.1 (0:Int))<|
 opt.need _ (p.rowOk a.2.1 (p.nat a.2.2.1) [ci])<|
 opt.need _ (p.cmp .geq a.2.2.1 (0:Int))<|
 opt.ask _ (p.cmp .neq (p.rdI a.1 (p.nat a.2.2.1) 0) (p.rdI a.2.1 (p.nat a.2.2.1) 0)) (
 opt.ret _ (Sum.inr (Sum.inl (Bool.false,())))) (
 opt.ret _ (Sum.inl (a.1,(a.2.1,((p.ar .add .i64 a.2.2.1 (1:Int)),())))))) (
 opt.ret _ (Sum.inr (Sum.inr ()))))
def g21 (it:It):(p:Prim)→(LD×(LD×Unit))→Option T0:=
 fun p x=>
 opt.ask _ (p.cmp .neq (p.ofNat (p.len x.1)) (p.ofNat (p.len x.2.1))) (
 opt.ret _ (Bool.false,())) (
 opt.alt T0 (Unit) _ (
 it _ _ (x9x p) (x.1,(x.2.1,((0:Int),())))) (fun a=>
 opt.ret _ (a.1,())) (fun b=>
 opt.bnd (Unit) _ (some b) fun c=>
 opt.ret _ (Bool.true,())))
def G21:=g21 it0
theorem v5a:CtrOk PG w21 (G21 std):=okF (a:=an21) (l:=la21) (gN) (by kernel_rfl) fun _ _=>by kernel_rfl
def w7u:Ctr:=
 ⟨22,[.list 1, .list 1],[],[(.ret,⟨[(0, .bool)],[],1⟩)]⟩
def la22:List LA:=
 [⟨22,[false,true,false,true,true],0,⟨⟨[(0, .list 1),(1, .list 1),(5, .int .i64)],[],27⟩,[(AX.ret,⟨[(4, .bool)],[],27⟩),((AX.exit 0),⟨[],[],27⟩)]⟩⟩]
def ja22:List JA:=
 []
def v7t:List CF:=
 [⟨w21,G21⟩]
def an22:Anns:=
 ⟨v7t,ja22,[]⟩
def x0y (it:It) (p:Prim):(LD×(LD×T1))→Option ((LD×(LD×T1))⊕T12):=
 fun a=>opt.run _ (
 opt.ask _ (p.cmp .lss a.2.2.1 (p.ofNat (p.len a.1))) (
 opt.need _ (p.rowOk a.1 (p.nat a.2.2.1) [(CK.list 1)])<|
 opt.need _ (p.cmp .geq a.2.2.1 (0:Int))<|
 opt.need _ (p.rowOk a.2.1 (p.nat a.2.2.1) [(CK.list 1)])<|
 opt.need _ (p.cmp .geq a.2.2.1 (0:Int))<|
 opt.bnd T0 _ (g21 it p ((p.rdL a.1 (p.nat a.2.2.1) 0),((p.rdL a.2.1 (p.nat a.2.2.1) 0),()))) fun b=>
 opt.ask _ (bif b.1 then Bool.false else Bool.true) (
 opt.ret _ (Sum.inr (Sum.inl (Bool.false,())))) (
 opt.ret _ (Sum.inl (a.1,(a.2.1,((p.ar .add .i64 a.2.2.1 (1:Int)),())))))) (
 opt.ret _ (Sum.inr (Sum.inr ()))))
def g22 (it:It):(p:Prim)→(LD×(LD×Unit))→Option T0:=
 fun p x=>
 opt.ask _ (p.cmp .neq (p.ofNat (p.len x.1)) (p.ofNat (p.len x.2.1))) (
 opt.ret _ (Bool.false,())) (
 opt.alt T0 (Unit) _ (
 it _ _ (x0y it p) (x.1,(x.2.1,((0:Int),())))) (fun a=>
 opt.ret _ (a.1,())) (fun b=>
 opt.bnd (Unit) _ (some b) fun c=>
 opt.ret _ (Bool.true,())))
def G22:=g22 it0
theorem v97:CtrOk PG w7u (G22 std):=okF (a:=an22) (l:=la22) (gC v5a (gN)) (by kernel_rfl) fun _ _=>by kernel_rfl
def v9c (p:Prim):(LD×T1)→Option ((LD×T1)⊕T12):=
 fun a=>opt.run _ (
 opt.ask _ (p.cmp .lss a.2.1 (p.ofNat (p.len a.1))) (
 opt.need _ (p.rowOk a.1 (p.nat a.2.1) [(CK.list 1)])<|
 opt.need _ (p.cmp .geq a.2.1 (0:Int))<|
 opt.ask _ (p.cmp .gtr (p.ofNat (p.len (p.rdL a.1 (p.nat a.2.1) 0))) (14:Int)) (
 opt.ret _ (Sum.inr (Sum.inl (Bool.true,())))) (
 opt.ret _ (Sum.inl (a.1,((p.ar .add .i64 a.2.1 (1:Int)),()))))) (
 opt.ret _ (Sum.inr (Sum.inr ()))))
def g23 (it:It):(p:Prim)→(LD×Unit)→Option T0:=
 fun p x=>
 opt.ask _ (p.cmp .gtr (p.ofNat (p.len x.1)) (14:Int)) (
 opt.ret _ (Bool.true,())) (
 opt.alt T0 (Unit) _ (
 it _ _ (v9c p) (x.1,((0:Int),()))) (fun a=>
 opt.ret _ (a.1,())) (fun b=>
 opt.bnd (Unit) _ (some b) fun c=>
 opt.ret _ (Bool.false,())))
def w7t:Ctr:=
 ⟨38,[.list 1, .int .i64],[],[(.ret,⟨[(0, .bool)],[],1⟩)]⟩
def la38:List LA:=
 [⟨38,[false,true,false,true],0,⟨⟨[(0, .list 1),(1, .int .i64),(5, .int .i64)],[],41⟩,[(AX.ret,⟨[(4, .bool)],[],41⟩),((AX.exit 0),⟨[],[],41⟩)]⟩⟩]
def ja38:List JA:=
 [⟨38,[false,true,false,false,true,false,true],0,[(AX.ret,⟨[(4, .bool)],[],41⟩),(AX.normal,⟨[(0, .list 1),(1, .int .i64),(5, .int .i64)],[],41⟩)]⟩]
def v7g:List CF:=
 []
def an38:Anns:=
 ⟨v7g,ja38,[]⟩
def y5s (p:Prim):(LD×T3)→Option ((LD×T3)⊕T12):=
 fun a=>opt.run _ (
 opt.ask _ (p.cmp .lss a.2.2.1 (p.ofNat (p.len a.1))) (
 opt.alt T0 ((LD×T3)) _ (
 opt.run (((Bool×Unit)⊕(LD×(Int×(Int×Unit))))) (
 opt.need _ (p.rowOk a.1 (p.nat a.2.2.1) [ci])<|
 opt.need _ (p.cmp .geq a.2.2.1 (0:Int))<|
 opt.ask _ (p.cmp .lss (p.rdI a.1 (p.nat a.2.2.1) 0) (0:Int)) (
 opt.ret _ (Sum.inl (Bool.false,()))) (
 opt.need _ (p.rowOk a.1 (p.nat a.2.2.1) [ci])<|
 opt.need _ (p.cmp .geq a.2.2.1 (0:Int))<|
 opt.ask _ (p.cmp .geq (p.rdI a.1 (p.nat a.2.2.1) 0) a.2.1) (
 opt.ret _ (Sum.inl (Bool.false,()))) (
 opt.ask _ (p.cmp .gtr a.2.2.1 (0:Int)) (
 opt.need _ (p.rowOk a.1 (p.nat a.2.2.1) [ci])<|
 opt.need _ (p.cmp .geq a.2.2.1 (0:Int))<|
 opt.need _ (p.rowOk a.1 (p.nat (p.ar .sub .i64 a.2.2.1 (1:Int))) [ci])<|
 opt.need _ (p.cmp .geq (p.ar .sub .i64 a.2.2.1 (1:Int)) (0:Int))<|
 opt.ask _ (p.cmp .leq (p.rdI a.1 (p.nat a.2.2.1) 0) (p.rdI a.1 (p.nat (p.ar .sub .i64 a.2.2.1 (1:Int))) 0)) (
 opt.ret _ (Sum.inl (Bool.false,()))) (
 opt.ret _ (Sum.inr (a.1,(a.2.1,(a.2.2.1,())))))) (
 opt.ret _ (Sum.inr (a.1,(a.2.1,(a.2.2.1,()))))))))) (fun b=>
 opt.ret _ (Sum.inr (Sum.inl (b.1,())))) (fun c=>
 opt.bnd ((LD×T3)) _ (some c) fun d=>
 opt.ret _ (Sum.inl (d.1,(d.2.1,((p.ar .add .i64 d.2.2.1 (1:Int)),())))))) (
 opt.ret _ (Sum.inr (Sum.inr ()))))
def g38 (it:It):(p:Prim)→(LD×T1)→Option T0:=
 fun p x=>
 opt.alt T0 (Unit) _ (
 it _ _ (y5s p) (x.1,(x.2.1,((0:Int),())))) (fun a=>
 opt.ret _ (a.1,())) (fun b=>
 opt.bnd (Unit) _ (some b) fun c=>
 opt.ret _ (Bool.true,()))
def G38:=g38 it0
theorem v96:CtrOk PG w7t (G38 std):=okF (a:=an38) (l:=la38) (gN) (by kernel_rfl) fun _ _=>by kernel_rfl
def w7s:Ctr:=
 ⟨40,[.list 1, .int .i64, .int .i64],[],[(.ret,⟨[(0, .bool)],[],1⟩)]⟩
def la40:List LA:=
 [⟨40,[false,true,false,true],0,⟨⟨[(0, .list 1),(1, .int .i64),(2, .int .i64),(7, .int .i64)],[],26⟩,[(AX.ret,⟨[(6, .bool)],[],26⟩),((AX.exit 0),⟨[],[],26⟩)]⟩⟩]
def ja40:List JA:=
 []
def v7f:List CF:=
 []
def an40:Anns:=
 ⟨v7f,ja40,[]⟩
def x2l (p:Prim):(LD×T4)→Option ((LD×T4)⊕T12):=
 fun a=>opt.run _ (
 opt.need _ (p.rowOk a.1 (p.nat a.2.1) [(CK.list 1)])<|
 opt.need _ (p.cmp .geq a.2.1 (0:Int))<|
 opt.ask _ (p.cmp .lss a.2.2.2.1 (p.ofNat (p.len (p.rdL a.1 (p.nat a.2.1) 0)))) (
 opt.need _ (p.rowOk a.1 (p.nat a.2.1) [(CK.list 1)])<|
 opt.need _ (p.cmp .geq a.2.1 (0:Int))<|
 opt.need _ (p.rowOk (p.rdL a.1 (p.nat a.2.1) 0) (p.nat a.2.2.2.1) [ci])<|
 opt.need _ (p.cmp .geq a.2.2.2.1 (0:Int))<|
 opt.ask _ (p.cmp .eql (p.rdI (p.rdL a.1 (p.nat a.2.1) 0) (p.nat a.2.2.2.1) 0) a.2.2.1) (
 opt.ret _ (Sum.inr (Sum.inl (Bool.true,())))) (
 opt.ret _ (Sum.inl (a.1,(a.2.1,(a.2.2.1,((p.ar .add .i64 a.2.2.2.1 (1:Int)),()))))))) (
 opt.ret _ (Sum.inr (Sum.inr ()))))
def g40 (it:It):(p:Prim)→(LD×T3)→Option T0:=
 fun p x=>
 opt.alt T0 (Unit) _ (
 it _ _ (x2l p) (x.1,(x.2.1,(x.2.2.1,((0:Int),()))))) (fun a=>
 opt.ret _ (a.1,())) (fun b=>
 opt.bnd (Unit) _ (some b) fun c=>
 opt.ret _ (Bool.false,()))
def G40:=g40 it0
theorem v95:CtrOk PG w7s (G40 std):=okF (a:=an40) (l:=la40) (gN) (by kernel_rfl) fun _ _=>by kernel_rfl
def w20:Ctr:=
 ⟨27,[.list 1],[],[(.ret,⟨[(0, .int .i64)],[],1⟩)]⟩
def la27:List LA:=
 [⟨27,[false,true,false,true,true,true],0,⟨⟨[(0, .list 1),(3, .int .i64),(4, .int .i64)],[],50⟩,[(AX.ret,⟨[(2, .int .i64)],[],50⟩),((AX.exit 0),⟨[(0, .list 1),(3, .int .i64)],[],50⟩)]⟩⟩,
 ⟨27,[false,true,false,true,true,true,true],0,⟨⟨[(0, .list 1),(3, .int .i64),(5, .int .i64)],[],50⟩,[(AX.ret,⟨[(2, .int .i64)],[],50⟩),((AX.exit 2),⟨[],[],50⟩)]⟩⟩,
 ⟨27,[false,true,true,false,false,true,false,false,true,false,true,true,true,true],0,⟨⟨[(0, .list 1),(3, .int .i64),(5, .int .i64),(6, .int .i64)],[],50⟩,[(AX.ret,⟨[(2, .int .i64)],[],50⟩),((AX.exit 4),⟨[(0, .list 1),(3, .int .i64),(5, .int .i64)],[],50⟩)]⟩⟩]
def ja27:List JA:=
 [⟨27,[false,true,false,false,true,false,true,true,true,true],0,[(AX.ret,⟨[(2, .int .i64)],[],50⟩),(AX.normal,⟨[(0, .list 1),(3, .int .i64),(5, .int .i64)],[],50⟩)]⟩,
 ⟨27,[false,false,true,true],0,[(AX.normal,⟨[(0, .list 1),(3, .int .i64),(14, .bool)],[],50⟩)]⟩]
def v7p:List CF:=
 [⟨w7s,G40⟩,⟨w7t,G38⟩]
def an27:Anns:=
 ⟨v7p,ja27,[]⟩
def x0x (it:It) (p:Prim):(LD×T4)→Option ((LD×T4)⊕T28):=
 fun a=>opt.run _ (
 opt.ask _ (p.cmp .lss a.2.2.2.1 a.2.2.1) (
 opt.bnd T0 _ (g40 it p (a.1,(a.2.2.1,(a.2.2.2.1,())))) fun b=>
 opt.bnd T0 _ (g40 it p (a.1,(a.2.2.2.1,(a.2.2.1,())))) fun c=>
 opt.ask _ (bif (p.bEq b.1 c.1) then Bool.true else Bool.false) (
 opt.ret _ (Sum.inr (Sum.inl ((16:Int),())))) (
 opt.ret _ (Sum.inl (a.1,(a.2.1,(a.2.2.1,((p.ar .add .i64 a.2.2.2.1 (1:Int)),()))))))) (
 opt.ret _ (Sum.inr (Sum.inr (a.1,(a.2.1,(a.2.2.1,())))))))
def y5p (it:It) (p:Prim):(LD×T3)→Option ((LD×T3)⊕T15):=
 fun a=>opt.run _ (
 opt.ask _ (p.cmp .lss a.2.2.1 a.2.1) (
 opt.alt T2 ((LD×T3)) _ (
 opt.run (((Int×Unit)⊕(LD×(Int×(Int×Unit))))) (
 opt.bnd T0 _ (g40 it p (a.1,(a.2.2.1,(a.2.2.1,())))) fun b=>
 opt.ask _ b.1 (
 opt.ret _ (Sum.inl ((16:Int),()))) (
 opt.alt T2 ((LD×T3)) _ (
 it _ _ (x0x it p) (a.1,(a.2.1,(a.2.2.1,((0:Int),()))))) (fun c=>
 opt.ret _ (Sum.inl (c.1,()))) (fun d=>
 opt.bnd ((LD×T3)) _ (some d) fun e=>
 opt.ret _ (Sum.inr (e.1,(e.2.1,(e.2.2.1,())))))))) (fun f=>
 opt.ret _ (Sum.inr (Sum.inl (f.1,())))) (fun g=>
 opt.bnd ((LD×T3)) _ (some g) fun h=>
 opt.ret _ (Sum.inl (h.1,(h.2.1,((p.ar .add .i64 h.2.2.1 (1:Int)),())))))) (
 opt.ret _ (Sum.inr (Sum.inr ()))))
def y8r (it:It) (p:Prim):(LD×T3)→Option ((LD×T3)⊕T29):=
 fun a=>opt.run _ (
 opt.ask _ (p.cmp .lss a.2.2.1 a.2.1) (
 opt.need _ (p.rowOk a.1 (p.nat a.2.2.1) [(CK.list 1)])<|
 opt.need _ (p.cmp .geq a.2.2.1 (0:Int))<|
 opt.bnd T0 _ (g38 it p ((p.rdL a.1 (p.nat a.2.2.1) 0),(a.2.1,()))) fun b=>
 opt.ask _ (bif b.1 then Bool.false else Bool.true) (
 opt.ret _ (Sum.inr (Sum.inl ((3:Int),())))) (
 opt.ret _ (Sum.inl (a.1,(a.2.1,((p.ar .add .i64 a.2.2.1 (1:Int)),())))))) (
 opt.ret _ (Sum.inr (Sum.inr (a.1,(a.2.1,()))))))
def g27 (it:It):(p:Prim)→(LD×Unit)→Option T2:=
 fun p x=>
 opt.bnd ((LD×T20)) _ (
 opt.run ((LD×T20)) (
 opt.ask _ (p.cmp .lss (p.ofNat (p.len x.1)) (1:Int)) (
 opt.ret _ (x.1,((p.ofNat (p.len x.1)),(Bool.true,())))) (
 opt.ret _ (x.1,((p.ofNat (p.len x.1)),((p.cmp .gtr (p.ofNat (p.len x.1)) (10:Int)),())))))) fun a=>
 opt.ask _ a.2.2.1 (
 opt.ret _ ((6:Int),())) (
 opt.alt T2 ((LD×T1)) _ (
 it _ _ (y8r it p) (a.1,(a.2.1,((0:Int),())))) (fun b=>
 opt.ret _ (b.1,())) (fun c=>
 opt.bnd ((LD×T1)) _ (some c) fun d=>
 opt.alt T2 (Unit) _ (
 it _ _ (y5p it p) (d.1,(d.2.1,((0:Int),())))) (fun e=>
 opt.ret _ (e.1,())) (fun f=>
 opt.bnd (Unit) _ (some f) fun g=>
 opt.ret _ ((0:Int),()))))
def G27:=g27 it0
theorem v49:CtrOk PG w20 (G27 std):=okF (a:=an27) (l:=la27) (gC v95 (gC v96 (gN))) (by kernel_rfl) fun _ _=>by kernel_rfl
def v1y:Ctr:=
 ⟨33,[.list 1],[],[(.ret,⟨[(0, .tuple [.vec 0 1, .int .i64])],[.row [ci]],1⟩)]⟩
def la33:List LA:=
 [⟨33,[false,true,false,true,true,true],0,⟨⟨[(0, .list 1),(4, .vec 0 1),(5, .int .i64)],[.row [ci]],26⟩,[((AX.exit 0),⟨[(4, .vec 0 1)],[.row [ci]],26⟩)]⟩⟩]
def ja33:List JA:=
 []
def v7k:List CF:=
 [⟨w20,G27⟩]
def an33:Anns:=
 ⟨v7k,ja33,[]⟩
def v84 (p:Prim):(LD×(LD×T1))→Option ((LD×(LD×T1))⊕(LD×Unit)):=
 fun a=>opt.run _ (
 opt.ask _ (p.cmp .lss a.2.2.1 (p.ofNat (p.len a.2.1))) (
 opt.need _ (p.rowOk a.2.1 (p.nat a.2.2.1) [(CK.list 1)])<|
 opt.need _ (p.cmp .geq a.2.2.1 (0:Int))<|
 opt.need _ (p.and (p.leN (p.add 0 1) (p.len [[(D.int .i64 (p.ofNat (p.len (p.rdL a.2.1 (p.nat a.2.2.1) 0))))]])) (p.and (p.leN (p.add 0 (p.len a.1)) (p.len a.1)) (p.and (p.leN 1 1) (p.leN (p.add (p.len a.1) 1) 1000000))))<|
 opt.need _ (p.eqN 0 0)<|
 opt.need _ (p.eqN (p.add (p.len a.1) 1) (p.len (p.app (p.cut a.1 0 (p.len a.1)) (p.cut [[(D.int .i64 (p.ofNat (p.len (p.rdL a.2.1 (p.nat a.2.2.1) 0))))]] 0 1))))<|
 opt.ret _ (Sum.inl ((p.app (p.cut a.1 0 (p.len a.1)) (p.cut [[(D.int .i64 (p.ofNat (p.len (p.rdL a.2.1 (p.nat a.2.2.1) 0))))]] 0 1)),(a.2.1,((p.ar .add .i64 a.2.2.1 (1:Int)),()))))) (
 opt.need _ (p.eqN 0 0)<|
 opt.need _ (p.eqN (p.len a.1) (p.len a.1))<|
 opt.ret _ (Sum.inr (a.1,()))))
def g33 (it:It):(p:Prim)→(LD×Unit)→Option ((LD×T1)):=
 fun p x=>
 opt.bnd T2 _ (g27 it p (x.1,())) fun a=>
 opt.ask _ (p.cmp .neq a.1 (0:Int)) (
 opt.bnd T2 _ (g27 it p (x.1,())) fun b=>
 opt.ret _ ([],(b.1,()))) (
 opt.bnd ((LD×Unit)) _ (
 it _ _ (v84 p) ([],(x.1,((0:Int),())))) fun c=>
 opt.need _ (p.eqN 0 0)<|
 opt.need _ (p.eqN (p.len c.1) (p.len c.1))<|
 opt.ret _ (c.1,((0:Int),())))
def G33:=g33 it0
theorem ok33:CtrOk PG v1y (G33 std):=okF (a:=an33) (l:=la33) (gC v49 (gN)) (by kernel_rfl) fun _ _=>by kernel_rfl
def v14:Ctr:=
 ⟨25,[.list 1, .list 1],[],[(.ret,⟨[(0, .int .i64)],[],1⟩)]⟩
def la25:List LA:=
 [⟨25,[false,true,false,true,true,true,true],0,⟨⟨[(0, .list 1),(1, .list 1),(5, .int .i64),(6, .int .i64)],[],69⟩,[(AX.ret,⟨[(4, .int .i64)],[],69⟩),((AX.exit 0),⟨[(0, .list 1),(1, .list 1),(5, .int .i64)],[],69⟩)]⟩⟩,
 ⟨25,[false,true,true,false,false,true,false,false,true,false,true,true,true,true],0,⟨⟨[(0, .list 1),(1, .list 1),(5, .int .i64),(6, .int .i64),(7, .int .i64)],[],69⟩,[(AX.ret,⟨[(4, .int .i64)],[],69⟩),((AX.exit 2),⟨[(0, .list 1),(1, .list 1),(5, .int .i64),(6, .int .i64)],[],69⟩)]⟩⟩,
 ⟨25,[false,true,false,true,true,true,true,true],0,⟨⟨[(0, .list 1),(1, .list 1),(5, .int .i64),(8, .int .i64)],[],69⟩,[(AX.ret,⟨[(4, .int .i64)],[],69⟩),((AX.exit 4),⟨[],[],69⟩)]⟩⟩]
def ja25:List JA:=
 [⟨25,[false,true,false,false,true,false,true,true,true,true],0,[(AX.ret,⟨[(4, .int .i64)],[],69⟩),(AX.normal,⟨[(0, .list 1),(1, .list 1),(5, .int .i64),(6, .int .i64)],[],69⟩)]⟩,
 ⟨25,[false,false,false,false,true,false,false,true,false,true,true,true,true],0,[(AX.normal,⟨[(0, .list 1),(1, .list 1),(5, .int .i64),(6, .int .i64),(37, .bool)],[],69⟩)]⟩]
def v7r:List CF:=
 [⟨w7s,G40⟩,⟨w20,G27⟩]
def an25:Anns:=
 ⟨v7r,ja25,[]⟩
def w74 (it:It) (p:Prim):(LD×(LD×T3))→Option ((LD×(LD×T3))⊕T15):=
 fun a=>opt.run _ (
 opt.ask _ (p.cmp .lss a.2.2.2.1 a.2.2.1) (
 opt.need _ (p.rowOk a.2.1 (p.nat (p.ar .sub .i64 a.2.2.2.1 (1:Int))) [ci])<|
 opt.need _ (p.cmp .geq (p.ar .sub .i64 a.2.2.2.1 (1:Int)) (0:Int))<|
 opt.need _ (p.rowOk a.2.1 (p.nat a.2.2.2.1) [ci])<|
 opt.need _ (p.cmp .geq a.2.2.2.1 (0:Int))<|
 opt.bnd T0 _ (g40 it p (a.1,((p.rdI a.2.1 (p.nat (p.ar .sub .i64 a.2.2.2.1 (1:Int))) 0),((p.rdI a.2.1 (p.nat a.2.2.2.1) 0),())))) fun b=>
 opt.ask _ (bif b.1 then Bool.false else Bool.true) (
 opt.ret _ (Sum.inr (Sum.inl ((16:Int),())))) (
 opt.ret _ (Sum.inl (a.1,(a.2.1,(a.2.2.1,((p.ar .add .i64 a.2.2.2.1 (1:Int)),()))))))) (
 opt.ret _ (Sum.inr (Sum.inr ()))))
def v89 (p:Prim):(LD×(LD×T4))→Option ((LD×(LD×T4))⊕((Int×Unit)⊕(LD×(LD×(Int×(Int×Unit)))))):=
 fun a=>opt.run _ (
 opt.ask _ (p.cmp .lss a.2.2.2.2.1 a.2.2.2.1) (
 opt.need _ (p.rowOk a.2.1 (p.nat a.2.2.2.1) [ci])<|
 opt.need _ (p.cmp .geq a.2.2.2.1 (0:Int))<|
 opt.need _ (p.rowOk a.2.1 (p.nat a.2.2.2.2.1) [ci])<|
 opt.need _ (p.cmp .geq a.2.2.2.2.1 (0:Int))<|
 opt.ask _ (p.cmp .eql (p.rdI a.2.1 (p.nat a.2.2.2.1) 0) (p.rdI a.2.1 (p.nat a.2.2.2.2.1) 0)) (
 opt.ret _ (Sum.inr (Sum.inl ((3:Int),())))) (
 opt.ret _ (Sum.inl (a.1,(a.2.1,(a.2.2.1,(a.2.2.2.1,((p.ar .add .i64 a.2.2.2.2.1 (1:Int)),())))))))) (
 opt.ret _ (Sum.inr (Sum.inr (a.1,(a.2.1,(a.2.2.1,(a.2.2.2.1,()))))))))
def w75 (it:It) (p:Prim):(LD×(LD×T3))→Option ((LD×(LD×T3))⊕((Int×Unit)⊕(LD×(LD×(Int×Unit))))):=
 fun a=>opt.run _ (
 opt.ask _ (p.cmp .lss a.2.2.2.1 a.2.2.1) (
 opt.alt T2 ((LD×(LD×T3))) _ (
 opt.run (((Int×Unit)⊕(LD×(LD×(Int×(Int×Unit)))))) (
 opt.bnd ((LD×(LD×T16))) _ (
 opt.run ((LD×(LD×T16))) (
 opt.need _ (p.rowOk a.2.1 (p.nat a.2.2.2.1) [ci])<|
 opt.need _ (p.cmp .geq a.2.2.2.1 (0:Int))<|
 opt.ask _ (p.cmp .lss (p.rdI a.2.1 (p.nat a.2.2.2.1) 0) (0:Int)) (
 opt.ret _ (a.1,(a.2.1,(a.2.2.1,(a.2.2.2.1,(Bool.true,())))))) (
 opt.need _ (p.rowOk a.2.1 (p.nat a.2.2.2.1) [ci])<|
 opt.need _ (p.cmp .geq a.2.2.2.1 (0:Int))<|
 opt.ret _ (a.1,(a.2.1,(a.2.2.1,(a.2.2.2.1,((p.cmp .geq (p.rdI a.2.1 (p.nat a.2.2.2.1) 0) a.2.2.1),())))))))) fun b=>
 opt.ask _ b.2.2.2.2.1 (
 opt.ret _ (Sum.inl ((3:Int),()))) (
 opt.alt T2 ((LD×(LD×T3))) _ (
 it _ _ (v89 p) (b.1,(b.2.1,(b.2.2.1,(b.2.2.2.1,((0:Int),())))))) (fun c=>
 opt.ret _ (Sum.inl (c.1,()))) (fun d=>
 opt.bnd ((LD×(LD×T3))) _ (some d) fun e=>
 opt.ret _ (Sum.inr (e.1,(e.2.1,(e.2.2.1,(e.2.2.2.1,()))))))))) (fun f=>
 opt.ret _ (Sum.inr (Sum.inl (f.1,())))) (fun g=>
 opt.bnd ((LD×(LD×T3))) _ (some g) fun h=>
 opt.ret _ (Sum.inl (h.1,(h.2.1,(h.2.2.1,((p.ar .add .i64 h.2.2.2.1 (1:Int)),()))))))) (
 opt.ret _ (Sum.inr (Sum.inr (a.1,(a.2.1,(a.2.2.1,())))))))
def g25 (it:It):(p:Prim)→(LD×(LD×Unit))→Option T2:=
 fun p x=>
 opt.bnd T2 _ (g27 it p (x.1,())) fun a=>
 opt.ask _ (p.cmp .neq a.1 (0:Int)) (
 opt.bnd T2 _ (g27 it p (x.1,())) fun b=>
 opt.ret _ (b.1,())) (
 opt.ask _ (p.cmp .neq (p.ofNat (p.len x.2.1)) (p.ofNat (p.len x.1))) (
 opt.ret _ ((15:Int),())) (
 opt.alt T2 ((LD×(LD×T1))) _ (
 it _ _ (w75 it p) (x.1,(x.2.1,((p.ofNat (p.len x.1)),((0:Int),()))))) (fun c=>
 opt.ret _ (c.1,())) (fun d=>
 opt.bnd ((LD×(LD×T1))) _ (some d) fun e=>
 opt.alt T2 (Unit) _ (
 it _ _ (w74 it p) (e.1,(e.2.1,(e.2.2.1,((1:Int),()))))) (fun f=>
 opt.ret _ (f.1,())) (fun g=>
 opt.bnd (Unit) _ (some g) fun h=>
 opt.ret _ ((0:Int),())))))
def G25:=g25 it0
theorem ok25:CtrOk PG v14 (G25 std):=okF (a:=an25) (l:=la25) (gC v95 (gC v49 (gN))) (by kernel_rfl) fun _ _=>by kernel_rfl
def v1s:Ctr:=
 ⟨62,[.list 1],[],[(.ret,⟨[(0, .int .i64)],[],1⟩)]⟩
def la62:List LA:=
 [⟨62,[false,true,false,true,true],0,⟨⟨[(0, .list 1),(3, .int .i64)],[],30⟩,[(AX.ret,⟨[(2, .int .i64)],[],30⟩),((AX.exit 0),⟨[],[],30⟩)]⟩⟩]
def ja62:List JA:=
 [⟨62,[false,false,false,true,false,false,true,false,true,true],0,[(AX.normal,⟨[(0, .list 1),(3, .int .i64),(29, .bool)],[],30⟩)]⟩,
 ⟨62,[false,false,true],0,[(AX.normal,⟨[(0, .list 1),(11, .bool)],[],30⟩)]⟩]
def v67:List CF:=
 []
def an62:Anns:=
 ⟨v67,ja62,[]⟩
def v8y (p:Prim):(LD×T1)→Option ((LD×T1)⊕T15):=
 fun a=>opt.run _ (
 opt.ask _ (p.cmp .lss a.2.1 (p.ofNat (p.len a.1))) (
 opt.bnd ((LD×T20)) _ (
 opt.run ((LD×T20)) (
 opt.need _ (p.rowOk a.1 (p.nat a.2.1) [ci])<|
 opt.need _ (p.cmp .geq a.2.1 (0:Int))<|
 opt.ask _ (p.cmp .lss (p.rdI a.1 (p.nat a.2.1) 0) (0:Int)) (
 opt.ret _ (a.1,(a.2.1,(Bool.true,())))) (
 opt.need _ (p.rowOk a.1 (p.nat a.2.1) [ci])<|
 opt.need _ (p.cmp .geq a.2.1 (0:Int))<|
 opt.ret _ (a.1,(a.2.1,((p.cmp .gtr (p.rdI a.1 (p.nat a.2.1) 0) (9:Int)),())))))) fun b=>
 opt.ask _ b.2.2.1 (
 opt.ret _ (Sum.inr (Sum.inl ((3:Int),())))) (
 opt.ret _ (Sum.inl (b.1,((p.ar .add .i64 b.2.1 (1:Int)),()))))) (
 opt.ret _ (Sum.inr (Sum.inr ()))))
def g62 (it:It):(p:Prim)→(LD×Unit)→Option T2:=
 fun p x=>
 opt.bnd ((LD×T8)) _ (
 opt.run ((LD×T8)) (
 opt.ask _ (p.cmp .lss (p.ofNat (p.len x.1)) (1:Int)) (
 opt.ret _ (x.1,(Bool.true,()))) (
 opt.ret _ (x.1,((p.cmp .gtr (p.ofNat (p.len x.1)) (10:Int)),()))))) fun a=>
 opt.ask _ a.2.1 (
 opt.ret _ ((6:Int),())) (
 opt.alt T2 (Unit) _ (
 it _ _ (v8y p) (a.1,((0:Int),()))) (fun b=>
 opt.ret _ (b.1,())) (fun c=>
 opt.bnd (Unit) _ (some c) fun d=>
 opt.ret _ ((0:Int),())))
def G62:=g62 it0
theorem ok62:CtrOk PG v1s (G62 std):=okF (a:=an62) (l:=la62) (gN) (by kernel_rfl) fun _ _=>by kernel_rfl
def v1r:Ctr:=
 ⟨63,[.list 1, .list 1],[],[(.ret,⟨[(0, .bool)],[],1⟩)]⟩
def la63:List LA:=
 [⟨63,[false,true,false,true,true,true],0,⟨⟨[(0, .list 1),(1, .list 1),(5, .int .i64),(6, .int .i64),(7, .int .i64)],[],46⟩,[((AX.exit 0),⟨[(0, .list 1),(5, .int .i64),(6, .int .i64)],[],46⟩)]⟩⟩]
def ja63:List JA:=
 [⟨63,[false,true,true,true,true],0,[(AX.normal,⟨[(4, .bool)],[],46⟩)]⟩]
def v66:List CF:=
 []
def an63:Anns:=
 ⟨v66,ja63,[]⟩
def v8x (p:Prim):(LD×(LD×T4))→Option ((LD×(LD×T4))⊕(LD×T3)):=
 fun a=>opt.run _ (
 opt.ask _ (p.cmp .lss a.2.2.2.2.1 a.2.2.1) (
 opt.need _ (p.rowOk a.2.1 (p.nat a.2.2.2.2.1) [ci])<|
 opt.need _ (p.cmp .geq a.2.2.2.2.1 (0:Int))<|
 opt.need _ (p.rowOk a.1 (p.nat (p.rdI a.2.1 (p.nat a.2.2.2.2.1) 0)) [ci])<|
 opt.need _ (p.cmp .geq (p.rdI a.2.1 (p.nat a.2.2.2.2.1) 0) (0:Int))<|
 opt.ret _ (Sum.inl (a.1,(a.2.1,(a.2.2.1,((p.ar .add .i64 a.2.2.2.1 (p.rdI a.1 (p.nat (p.rdI a.2.1 (p.nat a.2.2.2.2.1) 0)) 0)),((p.ar .add .i64 a.2.2.2.2.1 (1:Int)),()))))))) (
 opt.ret _ (Sum.inr (a.1,(a.2.2.1,(a.2.2.2.1,()))))))
def g63 (it:It):(p:Prim)→(LD×(LD×Unit))→Option T0:=
 fun p x=>
 opt.bnd ((LD×T3)) _ (
 it _ _ (v8x p) (x.1,(x.2.1,((p.ofNat (p.len x.2.1)),((0:Int),((0:Int),())))))) fun a=>
 opt.bnd T0 _ (
 opt.run T0 (
 opt.need _ (p.cmp .neq (2:Int) (0:Int))<|
 opt.ask _ (p.cmp .lss a.2.2.1 (p.ar .quo .i64 (p.ar .mul .i64 a.2.1 (p.ar .sub .i64 a.2.1 (1:Int))) (2:Int))) (
 opt.ret _ (Bool.true,())) (
 opt.ask _ (p.cmp .eql a.2.1 (p.ofNat (p.len a.1))) (
 opt.need _ (p.cmp .neq (2:Int) (0:Int))<|
 opt.ret _ ((p.cmp .neq a.2.2.1 (p.ar .quo .i64 (p.ar .mul .i64 a.2.1 (p.ar .sub .i64 a.2.1 (1:Int))) (2:Int))),())) (
 opt.ret _ (Bool.false,()))))) fun b=>
 opt.ret _ (b.1,())
def G63:=g63 it0
theorem ok63:CtrOk PG v1r (G63 std):=okF (a:=an63) (l:=la63) (gN) (by kernel_rfl) fun _ _=>by kernel_rfl
def v11:Ctr:=
 ⟨29,[.list 1, .list 1],[],[(.ret,⟨[(0, .int .i64)],[],1⟩)]⟩
def la29:List LA:=
 []
def ja29:List JA:=
 []
def v7n:List CF:=
 [⟨v1r,G63⟩,⟨w7t,G38⟩,⟨v1s,G62⟩]
def an29:Anns:=
 ⟨v7n,ja29,[]⟩
def g29 (it:It):(p:Prim)→(LD×(LD×Unit))→Option T2:=
 fun p x=>
 opt.bnd T2 _ (g62 it p (x.1,())) fun a=>
 opt.ask _ (p.cmp .neq a.1 (0:Int)) (
 opt.bnd T2 _ (g62 it p (x.1,())) fun b=>
 opt.ret _ (b.1,())) (
 opt.bnd T0 _ (g38 it p (x.2.1,((p.ofNat (p.len x.1)),()))) fun c=>
 opt.ask _ (bif c.1 then Bool.false else Bool.true) (
 opt.ret _ ((3:Int),())) (
 opt.bnd T0 _ (g63 it p (x.1,(x.2.1,()))) fun d=>
 opt.ask _ (bif d.1 then Bool.false else Bool.true) (
 opt.ret _ ((14:Int),())) (
 opt.ret _ ((0:Int),()))))
def G29:=g29 it0
theorem ok29:CtrOk PG v11 (G29 std):=okF (a:=an29) (l:=la29) (gC ok63 (gC v96 (gC ok62 (gN)))) (by kernel_rfl) fun _ _=>by kernel_rfl
def v8v (p:Prim):(LD×(LD×T3))→Option ((LD×(LD×T3))⊕(LD×(LD×T1))):=
 fun a=>opt.run _ (
 opt.ask _ (p.cmp .lss a.2.2.2.1 (p.ofNat (p.len a.2.1))) (
 opt.need _ (p.cmp .geq a.2.2.2.1 (0:Int))<|
 opt.need _ (p.cmp .neq (2:Int) (0:Int))<|
 opt.bnd ((LD×(LD×T3))) _ (
 opt.run ((LD×(LD×T3))) (
 opt.ask _ (p.cmp .eql (p.ar .rem .i64 (p.ar .shr .i64 a.2.2.1 a.2.2.2.1) (2:Int)) (1:Int)) (
 opt.need _ (p.and (p.leN (p.add 0 1) (p.len [[(D.int .i64 a.2.2.2.1)]])) (p.and (p.leN (p.add 0 (p.len a.1)) (p.len a.1)) (p.and (p.leN 1 1) (p.leN (p.add (p.len a.1) 1) 1000000))))<|
 opt.need _ (p.eqN 0 0)<|
 opt.need _ (p.eqN (p.add (p.len a.1) 1) (p.len (p.app (p.cut a.1 0 (p.len a.1)) (p.cut [[(D.int .i64 a.2.2.2.1)]] 0 1))))<|
 opt.ret _ ((p.app (p.cut a.1 0 (p.len a.1)) (p.cut [[(D.int .i64 a.2.2.2.1)]] 0 1)),(a.2.1,(a.2.2.1,(a.2.2.2.1,()))))) (
 opt.need _ (p.eqN 0 0)<|
 opt.need _ (p.eqN (p.len a.1) (p.len a.1))<|
 opt.ret _ (a.1,(a.2.1,(a.2.2.1,(a.2.2.2.1,()))))))) fun b=>
 opt.need _ (p.eqN 0 0)<|
 opt.need _ (p.eqN (p.len b.1) (p.len b.1))<|
 opt.ret _ (Sum.inl (b.1,(b.2.1,(b.2.2.1,((p.ar .add .i64 b.2.2.2.1 (1:Int)),())))))) (
 opt.need _ (p.eqN 0 0)<|
 opt.need _ (p.eqN (p.len a.1) (p.len a.1))<|
 opt.ret _ (Sum.inr (a.1,(a.2.1,(a.2.2.1,()))))))
def v8l (it:It) (p:Prim):(LD×T1)→Option ((LD×T1)⊕T12):=
 fun a=>opt.run _ (
 opt.need _ (p.cmp .geq (p.ofNat (p.len a.1)) (0:Int))<|
 opt.ask _ (p.cmp .lss a.2.1 (p.ar .shl .i64 (1:Int) (p.ofNat (p.len a.1)))) (
 opt.bnd ((LD×(LD×T1))) _ (
 it _ _ (v8v p) ([],(a.1,(a.2.1,((0:Int),()))))) fun b=>
 opt.need _ (p.and Bool.true (p.and (p.leN (p.add 0 (p.len b.1)) (p.len b.1)) Bool.true))<|
 opt.bnd T0 _ (g63 it p (b.2.1,((p.cut b.1 0 (p.len b.1)),()))) fun c=>
 opt.ask _ c.1 (
 opt.ret _ (Sum.inr (Sum.inl (Bool.false,())))) (
 opt.ret _ (Sum.inl (b.2.1,((p.ar .add .i64 b.2.2.1 (1:Int)),()))))) (
 opt.ret _ (Sum.inr (Sum.inr ()))))
def g69 (it:It):(p:Prim)→(LD×Unit)→Option T0:=
 fun p x=>
 opt.alt T0 (Unit) _ (
 it _ _ (v8l it p) (x.1,((0:Int),()))) (fun a=>
 opt.ret _ (a.1,())) (fun b=>
 opt.bnd (Unit) _ (some b) fun c=>
 opt.ret _ (Bool.true,()))
def g32 (it:It):(p:Prim)→(LD×Unit)→Option T2:=
 fun p x=>
 opt.bnd T2 _ (g62 it p (x.1,())) fun a=>
 opt.ask _ (p.cmp .neq a.1 (0:Int)) (
 opt.bnd T2 _ (g62 it p (x.1,())) fun b=>
 opt.ret _ (b.1,())) (
 opt.bnd T0 _ (g69 it p (x.1,())) fun c=>
 opt.ask _ (bif c.1 then Bool.false else Bool.true) (
 opt.ret _ ((13:Int),())) (
 opt.ret _ ((0:Int),())))
end Go.Am
end
section
namespace Go.Am
theorem z3s {S R:Type} {b:S→Option (S⊕R)} (n:Nat) (e:Nat→S) (P:Nat→Bool) (r:Nat→R) (rend:R)
  (step:∀ i,i<n→b (e i)=if P i=true then some (.inr (r i)) else some (.inl (e (i+1)))) (stop:b (e n)=some (.inr rend)):
  (∃ i,i<n∧P i=true∧(∀ j,j<i→P j=false)∧y0g b (e 0)=some (r i))∨((∀ i,i<n→P i=false)∧y0g b (e 0)=some rend):=by
 have key:∀ k m,n - m=k→m≤n→(∃ i,m≤i∧i<n∧P i=true∧(∀ j,m≤j→j<i→P j=false)∧y0g b (e m)=some (r i))∨((∀ i,m≤i→i<n→P i=false)∧y0g b (e m)=some rend):=by
  intro k
  induction k with
  |zero=>
   intro m hm hle
   have:m=n:=by omega
   subst this
   refine .inr ⟨fun i h1 h2=>by omega,?_⟩
   rw [y0f,stop]
  |succ k ih=>
   intro m hm hle
   have hlt:m<n:=by omega
   have hs:=step m hlt
   cases hP:P m with
   |true=>
    rw [hP] at hs
    refine .inl ⟨m,Nat.le_refl _,hlt,hP,fun j h1 h2=>by omega,?_⟩
    rw [y0f,hs]; rfl
   |false=>
    rw [hP] at hs
    have hit:y0g b (e m)=y0g b (e (m+1)):=by
     rw [y0f,hs]; rfl
    rcases ih (m+1) (by omega) hlt with ⟨i,h1,h2,h3,h4,h5⟩|⟨h1,h2⟩
    ·refine .inl ⟨i,by omega,h2,h3,fun j a b=>?_,by rw [hit]; exact h5⟩
     by_cases hj:j=m
     ·subst hj; exact hP
     ·exact h4 j (by omega) b
    ·refine .inr ⟨fun i a b=>?_,by rw [hit]; exact h2⟩
     by_cases hj:i=m
     ·subst hj; exact hP
     ·exact h1 i (by omega) b
 rcases key n 0 rfl (Nat.zero_le _) with ⟨i,_,h2,h3,h4,h5⟩|⟨h1,h2⟩
 ·exact .inl ⟨i,h2,h3,fun j hj=>h4 j (Nat.zero_le _) hj,h5⟩
 ·exact .inr ⟨fun i hi=>h1 i (Nat.zero_le _) hi,h2⟩
def eI (n:Int):List D:=[.int .i64 n]
def z2i (l:List Int):List (List D):=l.map eI
def eLf (fl:List Int→Bool) (l:List Int):List D:=[.list (fl l) 1 (z2i l)]
def z08 (fl:List Int→Bool) (d:List (List Int)):List (List D):=d.map (eLf fl)
variable {fl fl':List Int→Bool}
theorem z0z (n:Int):z4e [CK.int IntKind.i64] (eI n)=true:=rfl
theorem z3c (n:Int):dI ((eI n)[0]?.getD D.nilp)=n:=rfl
theorem z1k (l:List Int):z4e [CK.list 1] (eLf fl l)=true:=rfl
theorem z5o (l:List Int):dL ((eLf fl l)[0]?.getD D.nilp)=z2i l:=rfl
theorem z9k (l:List Int):(z2i l).length=l.length:=by simp [z2i]
theorem z4p (d:List (List Int)):(z08 fl d).length=d.length:=by simp [z08]
theorem z2h {α:Type} {l:List α} {i:Nat} {d m:α} (h:l[i]?=some m):l.getD i d=m:=by simp [List.getD_eq_getElem?_getD,h]
theorem w4t (a b:List Int) (ha:a.length≤1000000):G21 std (z2i a,(z2i b,()))=some (decide (a=b),()):=by
 unfold G21
 by_cases hl:a.length=b.length
 ·have key:=z3s (b:=x9x std) a.length (fun i=>(z2i a,(z2i b,((i:Int),())))) (fun i=>!decide (a.getD i 0=b.getD i 0)) (fun i=> .inl (false,())) (.inr ()) (fun i hi=>by
   obtain ⟨m,hm⟩:=z1q hi
   obtain ⟨m',hm'⟩:=z1q (l:=b) (i:=i) (by omega)
   have hw:=z3h (i:=i) (by omega)
   have hlt:(i:Int)<a.length:=by omega
   have h0:(0:Int)≤i:=by omega
   have hlb:(i:Int)<b.length:=by omega
   simp only [z2h hm,z2h hm',x9x,z2c,z2d,z2i,z0z,z3c,z5o,z1k,z08,hm,hm',hlt,hlb,h0,ge_iff_le,z0i,hw]
   done) (by
   have hn:¬ (a.length:Int)<a.length:=by omega
   simp only [x9x,z2c,z2d,z2i,z0z,z3c,z5o,z1k,z08,hn])
  have hll:((a.length:Nat):Int)=(b.length:Nat):=by omega
  have e:∀ {r:(Bool×Unit)⊕Unit},y0g (x9x std) (z2i a,(z2i b,(0,())))=some r→g21 it0 std (z2i a,(z2i b,()))=some (match r with| .inl y=>y| .inr _=>(true,())):=by
   intro r hr
   simp only [g21,it0,z2c,z2d,z9k,hll,hr]
   rcases r with ⟨y,u⟩|u<;>rfl
  have e0:(z2i a,(z2i b,((0:Int),())))=(z2i a,(z2i b,(((0:Nat):Int),()))):=rfl
  rcases key with ⟨i,h1,h2,_,h4⟩|⟨h1,h2⟩
  ·have:a≠b:=by
    rintro rfl
    simp at h2
   rw [e h4]
   simp [this]
  ·have:a=b:=by
    apply List.ext_getElem hl
    intro i hi hi'
    have:=h1 i hi
    simp only [List.getD_eq_getElem?_getD,List.getElem?_eq_getElem hi,List.getElem?_eq_getElem hi',Option.getD_some] at this
    simpa using this
   rw [e h2]
   simp [this]
 ·have hne:a≠b:=fun h=>hl (by rw [h])
  have hll:¬ ((a.length:Nat):Int)=(b.length:Nat):=by omega
  simp only [g21,z2c,z2d,z9k,hll,hne]
theorem v3l (a b:List (List Int)) (ha:a.length≤1000000) (hr:∀ l∈a,l.length≤1000000):G22 std (z08 fl a,(z08 fl' b,()))=some (decide (a=b),()):=by
 unfold G22
 by_cases hl:a.length=b.length
 ·have key:=z3s (b:=x0y it0 std) a.length (fun i=>(z08 fl a,(z08 fl' b,((i:Int),())))) (fun i=>!decide (a.getD i []=b.getD i [])) (fun i=> .inl (false,())) (.inr ()) (fun i hi=>by
   obtain ⟨m,hm⟩:=z1q hi
   obtain ⟨m',hm'⟩:=z1q (l:=b) (i:=i) (by omega)
   have hw:=z3h (i:=i) (by omega)
   have hlt:(i:Int)<a.length:=by omega
   have h0:(0:Int)≤i:=by omega
   have hlb:(i:Int)<b.length:=by omega
   have h21:g21 it0 std (z2i m,(z2i m',()))=some (decide (m=m'),()):=w4t m m' (hr m (List.mem_of_getElem? hm))
   simp only [z2i] at h21
   simp only [z2h hm,z2h hm',x0y,z2c,z2d,z2i,z0z,z3c,z5o,z1k,z08,hm,hm',hlt,hlb,h0,ge_iff_le,z0i,hw,h21]
   by_cases k:m=m'
   ·simp only [k,z2c,z2d,not_true,not_false_eq_true]
   ·simp only [k,z2c,z2d,not_true,not_false_eq_true]) (by
   have hn:¬ (a.length:Int)<a.length:=by omega
   simp only [x0y,z2c,z2d,z2i,z0z,z3c,z5o,z1k,z08,hn])
  have hll:((a.length:Nat):Int)=(b.length:Nat):=by omega
  have e:∀ {r:(Bool×Unit)⊕Unit},y0g (x0y it0 std) (z08 fl a,(z08 fl' b,(0,())))=some r→g22 it0 std (z08 fl a,(z08 fl' b,()))=some (match r with| .inl y=>y| .inr _=>(true,())):=by
   intro r hr
   have hr':it0 _ _ (x0y it0 std) (z08 fl a,(z08 fl' b,(0,())))=some r:=hr
   simp only [g22,z2c,z2d,z4p,hll,hr']
   rcases r with ⟨y,u⟩|u<;>rfl
  rcases key with ⟨i,h1,h2,_,h4⟩|⟨h1,h2⟩
  ·have:a≠b:=by
    rintro rfl
    simp at h2
   rw [e h4]
   simp [this]
  ·have:a=b:=by
    apply List.ext_getElem hl
    intro i hi hi'
    have:=h1 i hi
    simp only [List.getD_eq_getElem?_getD,List.getElem?_eq_getElem hi,List.getElem?_eq_getElem hi',Option.getD_some] at this
    simpa using this
   rw [e h2]
   simp [this]
 ·have hne:a≠b:=fun h=>hl (by rw [h])
  have hll:¬ ((a.length:Nat):Int)=(b.length:Nat):=by omega
  simp only [g22,z2c,z2d,z4p,hll,hne]
def w36 (d:List (List Int)):Prop:=14<d.length∨∃ l∈d,14<l.length
instance (d:List (List Int)):Decidable (w36 d):=by unfold w36; infer_instance
end Go.Am
end
section
namespace Go.Am
variable {fl:List Int→Bool}
def y00 (l:List Int) (n:Int) (i:Nat):Prop:=0≤l.getD i 0∧l.getD i 0<n∧(0<i→l.getD (i - 1) 0<l.getD i 0)
instance (l:List Int) (n:Int) (i:Nat):Decidable (y00 l n i):=by unfold y00; infer_instance
def z7h (l:List Int) (n:Int):Prop:=∀ i,i<l.length→y00 l n i
instance (l:List Int) (n:Int):Decidable (z7h l n):=by unfold z7h; infer_instance
theorem v3j (l:List Int) (n:Int) (hL:l.length≤1000000):G38 std (z2i l,(n,()))=some (decide (z7h l n),()):=by
 unfold G38
 have key:=z3s (b:=y5s std) l.length (fun i=>(z2i l,(n,((i:Int),())))) (fun i=>!decide (y00 l n i)) (fun i=> .inl (false,())) (.inr ()) (fun i hi=>by
  obtain ⟨m,hm⟩:=z1q hi
  have hw:=z3h (i:=i) (by omega)
  have hlt:(i:Int)<l.length:=by omega
  have h0:(0:Int)≤i:=by omega
  by_cases h1:m<0
  ·have hr:¬ y00 l n i:=by rw [y00,z2h hm]; omega
   simp only [hr,y5s,z2c,z2d,z2i,z0z,z3c,z5o,z1k,z08,hm,hlt,h0,ge_iff_le,z0i,hw,h1,decide_false,Bool.not_false]
  ·by_cases h2:n≤m
   ·have hr:¬ y00 l n i:=by rw [y00,z2h hm]; omega
    simp only [hr,y5s,z2c,z2d,z2i,z0z,z3c,z5o,z1k,z08,hm,hlt,h0,ge_iff_le,z0i,hw,h1,h2,decide_false,Bool.not_false]
   ·by_cases h3:0<i
    ·obtain ⟨m',hm'⟩:=z1q (l:=l) (i:=i - 1) (by omega)
     have h3':((i:Nat):Int)>0:=by omega
     have hws:std.ar Go.BinOp.sub Go.IntKind.i64 ((i:Nat):Int) 1=((i - 1:Nat):Int):=by
      rw [z7b]
      have:((i:Nat):Int) - 1=((i - 1:Nat):Int):=by omega
      rw [this]
      exact x1a _ (by omega) (by omega)
     have h0':(0:Int)≤((i - 1:Nat):Int):=by omega
     by_cases h4:m≤m'
     ·have hr:¬ y00 l n i:=by rw [y00,z2h hm,z2h hm']; omega
      simp only [hr,y5s,z2c,z2d,z2i,z0z,z3c,z5o,z1k,z08,hm,hm',hlt,h0,h0',h3',ge_iff_le,z0i,hw,hws,h1,h2,h4,decide_false,Bool.not_false]
     ·have hr:y00 l n i:=by rw [y00,z2h hm,z2h hm']; omega
      simp only [hr,y5s,z2c,z2d,z2i,z0z,z3c,z5o,z1k,z08,hm,hm',hlt,h0,h0',h3',ge_iff_le,z0i,hw,hws,h1,h2,h4,decide_true,Bool.not_true]
    ·have h3':¬ ((i:Nat):Int)>0:=by omega
     have hr:y00 l n i:=by rw [y00,z2h hm]; omega
     simp only [hr,y5s,z2c,z2d,z2i,z0z,z3c,z5o,z1k,z08,hm,hlt,h0,h3',ge_iff_le,z0i,hw,h1,h2,decide_true,Bool.not_true]) (by
  have hn:¬ (l.length:Int)<l.length:=by omega
  simp only [y5s,z2c,z2d,z2i,z0z,z3c,z5o,z1k,z08,hn])
 have e:∀ {r:(Bool×Unit)⊕Unit},y0g (y5s std) (z2i l,(n,(0,())))=some r→g38 it0 std (z2i l,(n,()))=some (match r with| .inl y=>y| .inr _=>(true,())):=by
  intro r hr
  have hr':it0 _ _ (y5s std) (z2i l,(n,(0,())))=some r:=hr
  simp only [g38,z2c,z2d,hr']
  rcases r with ⟨y,u⟩|u<;>rfl
 rcases key with ⟨i,h1,h2,_,h4⟩|⟨h1,h2⟩
 ·have:¬ z7h l n:=fun h=>by
   have:=h i h1
   simp [this] at h2
  rw [e h4]
  simp [this]
 ·have:z7h l n:=fun i hi=>by
   have:=h1 i hi
   simpa using this
  rw [e h2]
  simp [this]
theorem x95 (d:List (List Int)) (i:Nat) (k:Int) (row:List Int) (hi:d[i]?=some row) (hL:row.length≤1000000):G40 std (z08 fl d,((i:Int),(k,())))=some (decide (k∈row),()):=by
 unfold G40
 have h0i:(0:Int)≤i:=by omega
 have key:=z3s (b:=x2l std) row.length (fun j=>(z08 fl d,((i:Int),(k,((j:Int),()))))) (fun j=>decide (row.getD j 0=k)) (fun j=> .inl (true,())) (.inr ()) (fun j hj=>by
  obtain ⟨m,hm⟩:=z1q hj
  have hw:=z3h (i:=j) (by omega)
  have hlt:(j:Int)<row.length:=by omega
  have h0:(0:Int)≤j:=by omega
  by_cases h1:m=k
  ·simp only [z2h hm,x2l,z2c,z2d,z2i,z0z,z3c,z5o,z1k,z08,hi,hm,hlt,h0i,h0,ge_iff_le,z0i,hw,h1,decide_true]
  ·simp only [z2h hm,x2l,z2c,z2d,z2i,z0z,z3c,z5o,z1k,z08,hi,hm,hlt,h0i,h0,ge_iff_le,z0i,hw,h1,decide_false]) (by
  have hn:¬ (row.length:Int)<row.length:=by omega
  simp only [x2l,z2c,z2d,z2i,z0z,z3c,z5o,z1k,z08,hi,h0i,ge_iff_le,hn])
 have e:∀ {r:(Bool×Unit)⊕Unit},y0g (x2l std) (z08 fl d,((i:Int),(k,(0,()))))=some r→g40 it0 std (z08 fl d,((i:Int),(k,())))=some (match r with| .inl y=>y| .inr _=>(false,())):=by
  intro r hr
  have hr':it0 _ _ (x2l std) (z08 fl d,((i:Int),(k,(0,()))))=some r:=hr
  simp only [g40,z2c,z2d,hr']
  rcases r with ⟨y,u⟩|u<;>rfl
 rcases key with ⟨j,h1,h2,_,h4⟩|⟨h1,h2⟩
 ·have:k∈row:=by
   obtain ⟨m,hm⟩:=z1q h1
   rw [z2h hm] at h2
   exact (by simpa using h2:m=k)▸List.mem_of_getElem? hm
  rw [e h4]
  simp [this]
 ·have:k∉row:=fun hk=>by
   obtain ⟨j,hj⟩:=List.getElem?_of_mem hk
   have:=h1 j (List.getElem?_eq_some_iff.1 hj).1
   rw [z2h hj] at this
   simp at this
  rw [e h2]
  simp [this]
end Go.Am
end
section
namespace Go.Am
variable {fl:List Int→Bool}
def y5r (d:List (List Int)) (i:Nat):Prop:=
 (i:Int)∈d.getD i []∨∃ k∈List.range i,decide ((i:Int)∈d.getD k [])=decide ((k:Int)∈d.getD i [])
instance (d:List (List Int)) (i:Nat):Decidable (y5r d i):=by unfold y5r; infer_instance
def y4u (d:List (List Int)):Int:=
 if d.length<1∨10<d.length then 6
 else if ∃ i∈List.range d.length,¬ z7h (d.getD i []) d.length then 3
 else if ∃ i∈List.range d.length,y5r d i then 16
 else 0
theorem w3e (d:List (List Int)) (hr:∀ l∈d,l.length≤1000000) (n:Int) (i:Nat) (hi:i<d.length) (hi1:i≤1000000):
  y0g (x0x it0 std) (z08 fl d,(n,((i:Int),((0:Int),()))))=
   if ∃ k∈List.range i,decide ((i:Int)∈d.getD k [])=decide ((k:Int)∈d.getD i []) then some (.inl (16,())) else some (.inr (z08 fl d,(n,((i:Int),())))):=by
 have key:=z3s (b:=x0x it0 std) i (fun k=>(z08 fl d,(n,((i:Int),((k:Int),()))))) (fun k=>decide (decide ((i:Int)∈d.getD k [])=decide ((k:Int)∈d.getD i []))) (fun k=> .inl (16,())) (.inr (z08 fl d,(n,((i:Int),())))) (fun k hk=>by
  obtain ⟨m,hm⟩:=z1q (l:=d) (i:=k) (by omega)
  obtain ⟨m',hm'⟩:=z1q hi
  have hw:=z3h (i:=k) (by omega)
  have hlt:(k:Int)<i:=by omega
  have h1:g40 it0 std (z08 fl d,((i:Int),((k:Int),())))=some (decide ((k:Int)∈m'),()):=x95 d i k m' hm' (hr m' (List.mem_of_getElem? hm'))
  have h2:g40 it0 std (z08 fl d,((k:Int),((i:Int),())))=some (decide ((i:Int)∈m),()):=x95 d k i m hm (hr m (List.mem_of_getElem? hm))
  simp only [z08] at h1 h2
  simp only [z2h hm,z2h hm',x0x,z2c,z2d,z2i,z0z,z3c,z5o,z1k,z08,hlt,z0i,hw,h1,h2]
  by_cases a:(k:Int)∈m'<;>by_cases b:(i:Int)∈m<;>simp only [a,b,z2c,z2d,decide_true,decide_false]<;>rfl) (by
  have hn:¬ (i:Int)<i:=by omega
  simp only [x0x,z2c,z2d,z2i,z0z,z3c,z5o,z1k,z08,hn])
 rcases key with ⟨k,h1,h2,_,h4⟩|⟨h1,h2⟩
 ·rw [if_pos ⟨k,List.mem_range.2 h1,by simpa using h2⟩]
  exact h4
 ·rw [if_neg]
  ·exact h2
  ·rintro ⟨k,hk,h⟩
   have:=h1 k (List.mem_range.1 hk)
   simp only [h,decide_true] at this
   exact Bool.noConfusion this
theorem w3f (d:List (List Int)) (hr:∀ l∈d,l.length≤1000000) (hl:d.length≤1000000):
  y0g (y5p it0 std) (z08 fl d,((d.length:Int),((0:Int),())))=
   if ∃ i∈List.range d.length,y5r d i then some (.inl (16,())) else some (.inr ()):=by
 have key:=z3s (b:=y5p it0 std) d.length (fun i=>(z08 fl d,((d.length:Int),((i:Int),())))) (fun i=>decide (y5r d i)) (fun i=> .inl (16,())) (.inr ()) (fun i hi=>by
  obtain ⟨m,hm⟩:=z1q hi
  have hw:=z3h (i:=i) (by omega)
  have hlt:(i:Int)<d.length:=by omega
  have h1:g40 it0 std (z08 fl d,((i:Int),((i:Int),())))=some (decide ((i:Int)∈m),()):=x95 d i i m hm (hr m (List.mem_of_getElem? hm))
  have h3:it0 _ _ (x0x it0 std) (z08 fl d,((d.length:Int),((i:Int),((0:Int),()))))=_:=w3e d hr d.length i hi (by omega)
  simp only [z08] at h1 h3
  by_cases a:(i:Int)∈m
  ·have hb:y5r d i:= .inl (by rw [z2h hm]; exact a)
   simp only [hb,y5p,z2c,z2d,z2i,z0z,z3c,z5o,z1k,z08,hlt,z0i,hw,h1,a,decide_true]
  ·by_cases b:∃ k∈List.range i,decide ((i:Int)∈d.getD k [])=decide ((k:Int)∈d.getD i [])
   ·have hb:y5r d i:= .inr b
    rw [if_pos b] at h3
    simp only [hb,y5p,z2c,z2d,z2i,z0z,z3c,z5o,z1k,z08,hlt,z0i,hw,h1,h3,a,decide_false,decide_true]
   ·have hb:¬ y5r d i:=by
     rintro (h|h)
     ·rw [z2h hm] at h; exact a h
     ·exact b h
    rw [if_neg b] at h3
    simp only [hb,y5p,z2c,z2d,z2i,z0z,z3c,z5o,z1k,z08,hlt,z0i,hw,h1,h3,a,decide_false]) (by
  have hn:¬ (d.length:Int)<d.length:=by omega
  simp only [y5p,z2c,z2d,z2i,z0z,z3c,z5o,z1k,z08,hn])
 rcases key with ⟨k,h1,h2,_,h4⟩|⟨h1,h2⟩
 ·rw [if_pos ⟨k,List.mem_range.2 h1,by simpa using h2⟩]
  exact h4
 ·rw [if_neg]
  ·exact h2
  ·rintro ⟨k,hk,h⟩
   have:=h1 k (List.mem_range.1 hk)
   simp only [h,decide_true] at this
   exact Bool.noConfusion this
theorem w3g (d:List (List Int)) (hr:∀ l∈d,l.length≤1000000) (hl:d.length≤1000000):
  y0g (y8r it0 std) (z08 fl d,((d.length:Int),((0:Int),())))=
   if ∃ i∈List.range d.length,¬ z7h (d.getD i []) d.length then some (.inl (3,())) else some (.inr (z08 fl d,((d.length:Int),()))):=by
 have key:=z3s (b:=y8r it0 std) d.length (fun i=>(z08 fl d,((d.length:Int),((i:Int),())))) (fun i=>decide (¬ z7h (d.getD i []) d.length)) (fun i=> .inl (3,())) (.inr (z08 fl d,((d.length:Int),()))) (fun i hi=>by
  obtain ⟨m,hm⟩:=z1q hi
  have hw:=z3h (i:=i) (by omega)
  have hlt:(i:Int)<d.length:=by omega
  have h0:(0:Int)≤i:=by omega
  have h1:g38 it0 std (z2i m,((d.length:Int),()))=some (decide (z7h m d.length),()):=v3j m d.length (hr m (List.mem_of_getElem? hm))
  simp only [z2i] at h1
  by_cases a:z7h m d.length
  ·simp only [z2h hm,y8r,z2c,z2d,z2i,z0z,z3c,z5o,z1k,z08,hm,hlt,h0,ge_iff_le,z0i,hw,h1,a,decide_true,not_true,decide_false]
  ·simp only [z2h hm,y8r,z2c,z2d,z2i,z0z,z3c,z5o,z1k,z08,hm,hlt,h0,ge_iff_le,z0i,hw,h1,a,decide_true,not_false_eq_true,decide_false]) (by
  have hn:¬ (d.length:Int)<d.length:=by omega
  simp only [y8r,z2c,z2d,z2i,z0z,z3c,z5o,z1k,z08,hn])
 rcases key with ⟨k,h1,h2,_,h4⟩|⟨h1,h2⟩
 ·rw [if_pos ⟨k,List.mem_range.2 h1,of_decide_eq_true h2⟩]
  exact h4
 ·rw [if_neg]
  ·exact h2
  ·rintro ⟨k,hk,h⟩
   exact of_decide_eq_false (h1 k (List.mem_range.1 hk)) h
theorem v3k (d:List (List Int)) (hr:∀ l∈d,l.length≤1000000):G27 std (z08 fl d,())=some (y4u d,()):=by
 unfold G27
 by_cases h1:d.length<1
 ·have h1':((d.length:Nat):Int)<1:=by omega
  simp only [g27,z2c,z2d,z4p,h1',y4u,h1,true_or]
 ·have h1':¬ ((d.length:Nat):Int)<1:=by omega
  by_cases h2:10<d.length
  ·have h2':((d.length:Nat):Int)>10:=by omega
   simp only [g27,z2c,z2d,z4p,h1',h2',y4u,h2,or_true]
  ·have h2':¬ ((d.length:Nat):Int)>10:=by omega
   have e1:it0 _ _ (y8r it0 std) (z08 fl d,((d.length:Int),((0:Int),())))=_:=w3g d hr (by omega)
   have e2:it0 _ _ (y5p it0 std) (z08 fl d,((d.length:Int),((0:Int),())))=_:=w3f d hr (by omega)
   have hd:y4u d=if ∃ i∈List.range d.length,¬ z7h (d.getD i []) d.length then 3 else if ∃ i∈List.range d.length,y5r d i then 16 else 0:=by
    rw [y4u,if_neg (by omega)]
   rw [hd]
   by_cases a:∃ i∈List.range d.length,¬ z7h (d.getD i []) d.length
   ·rw [if_pos a] at e1⊢
    simp only [g27,z2c,z2d,z4p,h1',h2',e1]
   ·rw [if_neg a] at e1⊢
    by_cases b:∃ i∈List.range d.length,y5r d i
    ·rw [if_pos b] at e2⊢
     simp only [g27,z2c,z2d,z4p,h1',h2',e1,e2]
    ·rw [if_neg b] at e2⊢
     simp only [g27,z2c,z2d,z4p,h1',h2',e1,e2]
end Go.Am
end
section
namespace Go.Am
variable {fl:List Int→Bool}
theorem x13 {S R:Type} {b:S→Option (S⊕R)} (n:Nat) (e:Nat→S) (r:R) (step:∀ i,i<n→b (e i)=some (.inl (e (i+1)))) (stop:b (e n)=some (.inr r)):y0g b (e 0)=some r:=by
 rcases z3s (b:=b) n e (fun _=>false) (fun _=>r) r (fun i hi=>by rw [step i hi]; rfl) stop with ⟨i,_,h,_⟩|⟨_,h⟩
 ·exact Bool.noConfusion h
 ·exact h
def bt (d:List (List Int)) (i k:Nat):Bool:=decide ((k:Int)∈d.getD i [])
end Go.Am
end
