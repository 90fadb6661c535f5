/- Texts of this claim. -/
import Derived.Test.YtejcgpekgbiooaaGreatDoorT2
set_option linter.unusedVariables false
set_option linter.unusedSimpArgs false
set_option linter.unusedSectionVars false
set_option maxRecDepth 100000
set_option maxHeartbeats 0
open Nat renaming lt_of_lt_of_le → eAn,le_refl → eAk,eq_of_beq_eq_true → eAc,zero_add → eAp,ble_eq_true_of_le → eBg,le_of_ble_eq_true → eAf,add_zero → eAt,zero_le → eAv,lt_or_ge → eBw,beq_refl → eCs,le_trans → eBf,div_lt_iff_lt_mul → eCk,mod_lt → eCr,add_mul → eAl,mul_comm → eCb,mul_le_mul_right → eAo,mod_eq_of_lt → eCy
open Array renaming getElem?_eq_some_iff → eAe,length_toList → eBa,getElem?_toList → eAj,getElem?_modify → eBr,getD_eq_getD_getElem? → eAh,getElem?_eq_getElem → eAm
open List renaming mem_cons → eAz,getElem?_eq_getElem → eAa,append_nil → eCn,ext_getElem? → eBd,getElem?_map → eAg,mem_map → eBb,pairwise_iff_getElem → eCa,getElem?_append → eAs,getElem?_eq_some_iff → eAd,getElem?_set → eBm,length_take → eBv,getElem?_append_right → eCv,length_cons → eBi,all_eq_true → eAr,mem_range → eBo,length_drop → eCx,length_map → eBt,getElem?_eq_none → eCt,mem_cons_self → eBq,mem_cons_of_mem → eCm,mem_of_getElem? → eAu,mem_append → eBj,mem_flatten → eCj,getElem?_of_mem → eCd,getElem?_append_left → eBz,getElem?_drop → eBp,getElem?_take_of_lt → eCl,append_assoc → eCg
open Bool renaming and_eq_true → eAb,false_eq_true → eAi,or_eq_true → eAq,and_true → eCc,not_eq_true' → eBy
open Int renaming toNat_natCast → eCh
open Option renaming map_some → eBh,getD_some → eBk
section
namespace Go.Am
def isN:AX→Bool
 | .normal=>true
 |_=>false
def y5b:AX→LoopState
 | .normal=> .ready
 |_=> .done
def z2q:AX→Option Code
 | .normal=>none
 | .exit j=>some (.exit j)
 | .ret=>some .ret
def y9s (env:List (Nat×AV)):List Nat→List AV→List (Nat×AV)
 |t::ts,x::xs=>y9s (x93 env t x) ts xs
 |_,_=>env
section
variable {P:Program} {ρ:Rho} {h:List AO} {w:World}
theorem y62 {w:World} {b:Nat} {r r':Loop} (hb:w.heap[b]?=some (.loop r)):∀ k m,z0t w k=some m→z0t (World.setObj w b (.loop r')) k=some m:=by
 intro k m hm
 by_cases e:k=b
 ·subst e; simp [z0t,hb] at hm
 ·unfold z0t; rw [z1f _ _ _ _ e]; exact hm
theorem y4c {O:Nat→Prop} {b:Nat} {r r':Loop} (ho:O b) (hb:w.heap[b]?=some (.loop r)):z3s O O w (World.setObj w b (.loop r')) where
 size:=by rw [z1c]; omega
 frame:=fun k hk hno=>z1f _ _ _ _ (by rintro rfl; exact hno ho)
 own:=fun _ _ h=>h
 shape:=y62 hb
 drawn:=z0m.refl _
theorem z0a.turned {ρ:Rho} {h:List AO} {w w':World} (hr:z0a P ρ h w) (k:z3s (z0c ρ h) (z0c ρ h) w w') (hb:∀ id L,ρ id=some L→(z0e h id).live=true→w'.heap[L.blk]?=w.heap[L.blk]?):z0a P ρ h w' where
 obj:=fun id L hL=>by
  obtain ⟨h1,h2⟩:=hr.obj id L hL
  refine ⟨eAn h1 k.size,?_⟩
  by_cases hl:(z0e h id).live=true
  ·exact h2.keep k (fun _ _ h=>h) (hb id L hL hl)
  ·cases hno:z0e h id<;>simp_all [AO.live,z0u]
 inj:=hr.inj
 fr:=fun b hf=>eAn (hr.fr b hf) k.size
 sep:=hr.sep
 gl:=hr.gl.keep k
theorem z1p.frset {s:AS} {tm:Array Value} (h1:z1p P ρ s tm w) {b:Nat} {r r':Loop} (hf:ρ.fr b) (hb:w.heap[b]?=some (.loop r)):z1p P ρ s tm (World.setObj w b (.loop r')):=by
 have hk:z3s (z0c ρ s.heap) (z0c ρ s.heap) w (World.setObj w b (.loop r')):=y4c (.inl hf) hb
 refine ⟨h1.heap.turned hk (fun id L hL hl=>z1f _ _ _ _ ?_),fun t=>(h1.env t).keep hk (fun _ _ h=>h),h1.size,h1.dom⟩
 rintro e
 exact h1.heap.sep id L hL hl (by rw [e]; exact hf)
section steps
variable {b:Frame} {tm:Array Value} {ds:List Deferred} {k:List Item} {cs:List Frame}
theorem y5a {l:Nat} {w':World} (hb:b.roundOf=some l) (hr:(Instr.beginRound l).run P w= .ok () w'):step P (lone (b.on tm ds (.beginRound::k)) cs w)= .next (lone (b.on tm ds k) cs w'):=
 step_lone_go (by simp [stepG,stepG.exec,stepG.apply,Frame.on,hb,hr,Frame.finish])
theorem y9m {l:Nat} {c:Frame} {v:Value} {w':World} (hb:b.roundOf=some l) (hk:b.kind= .normal) (hr:(Instr.endRound l none).run P w= .ok v w'):step P (lone (b.on tm ds []) (c::cs) w)= .next (lone (c.finish v) cs w'):=
 step_lone_go (by simp [stepG,stepG.exec,Frame.on,hb,hk,hr,doReturn])
theorem y9l {l:Nat} {c:Frame} {v:Value} {w':World} (hb:b.roundOf=some l) (hk:b.kind= .normal) (hr:(Instr.endRound l (some .ret)).run P w= .ok v w'):step P (lone (b.on tm ds (.code .ret::k)) (c::cs) w)= .next (lone (c.finish v) cs w'):=
 step_lone_go (by simp [stepG,stepG.exec,Frame.on,hb,hk,hr,doReturn])
theorem y7z {l j:Nat} {c:Frame} {v:Value} {w':World} (hb:b.roundOf=some l) (hk:b.kind= .normal) (hx:exitTo j k=none) (hr:(Instr.endRound l (some (.exit j))).run P w= .ok v w'):step P (lone (b.on tm ds (.code (.exit j)::k)) (c::cs) w)= .next (lone (c.finish v) cs w'):=
 step_lone_go (by simp [stepG,stepG.exec,Frame.on,hb,hk,hr,doReturn,hx])
theorem x10 {ops:Array Oper} {i:Nat} {rest:List Nat} {o:Oper} (ho:ops[i]?=some o) (hw:Region.wanted o (yielded ops tm)=true) (hd:∀ c,o.op≠ .defer c) {l:Nat} {f:FuncId} {tms:Array Value} {asg body:Code} {w':World}
  (hr:(execOp (opv tm) o).run P w= .ok (.round l f tms asg body) w'):
  step P (lone (b.on tm ds (.inRegion ops (i::rest)::k)) cs w)= .next (lone (Frame.round l f tms asg body .normal) (b.on tm ds (.inRegion ops (i::rest)::k)::cs) w'):=by
 refine step_lone_go ?_
 rw [x68 ho hw hd]
 simp [stepG.apply,hr,Frame.on]
theorem y9n {f:Operand} {ps:Array Tmp} {asg body:Code} {l g:Nat} {mark:List Deferred} {vs:Array Value} {w1 w2:World} (he:(Instr.enterLoop b.fn tm ps asg body b.roundOf).run P w= .ok (l,mark) w1)
  (hr:(do let d←resolve (opv tm) { callee:= .value f,args:=#[.const (.func (.yield l) #[] #[])],argTypes:=#[] } 0; invoke d.target d.args:Sem Next).run P w1= .ok (.enter g vs) w2):
  step P (lone (b.on tm ds (.code (.rangeFunc f ps asg body)::k)) cs w)= .next (lone (Frame.enter P g vs .normal) (b.on tm (mark++ds) (.inRangeFunc l::k)::cs) w2):=by
 have h1:=x2u b tm (mark++ds) (.inRangeFunc l::k)
 simp only [Frame.on] at h1
 exact step_lone_go (by
  simp only [Sem.run_bind] at hr
  simp [stepG,stepG.exec,stepG.apply,Frame.on,he,h1,hr])
theorem x11 {l:Nat} {jump:Option Code} {w':World} (hr:(Instr.endLoop l).run P w= .ok jump w'):step P (lone (b.on tm ds (.endRangeFunc l::k)) cs w)= .next (lone (b.on tm ds ((jump.map Item.code).toList++k)) cs w'):=
 step_lone_go (by simp [stepG,stepG.exec,Frame.on,hr])
end steps
theorem z5k {l:Nat} {r:Loop} (hb:w.heap[l]?=some (.loop r)):(Instr.getLoop l).run P w= .ok r w:=by
 simp [Instr.getLoop,getObj,Sem.run,hb]
theorem z9y {l:Nat} {r r':Loop} (hb:w.heap[l]?=some (.loop r)):(setObj l (.loop r')).run P w= .ok () (World.setObj w l (.loop r')):=by
 have:=(eAe.1 hb).1
 simp [setObj,Sem.run,hb,World.setObj]
theorem y5c {l:Nat} {r:Loop} (hb:w.heap[l]?=some (.loop r)) (hs:r.state= .ready):(Instr.beginRound l).run P w= .ok () (World.setObj w l (.loop { r with state:= .busy })):=by
 simp [Instr.beginRound,z5k hb,z9y hb,hs]
theorem y9v {l:Nat} {r:Loop} (hb:w.heap[l]?=some (.loop r)) (j:Option Code):(Instr.endRound l j).run P w= .ok (.bool j.isNone) (World.setObj w l (.loop { r with state:=if j.isNone then .ready else .done,pending:=j })):=by
 simp [Instr.endRound,z5k hb,z9y hb]
theorem x13 {l:Nat} {r:Loop} (hb:w.heap[l]?=some (.loop r)) (hs:r.state≠ .busy):(Instr.endLoop l).run P w= .ok r.pending (World.setObj w l (.loop { r with state:= .exhausted })):=by
 have:(r.state== .busy)=false:=by
  cases hq:r.state<;>first|rfl|exact absurd hq hs
 simp [Instr.endLoop,z5k hb,z9y hb,hs]
theorem z54 {id j:Nat} (hl:(z0e (z0x h id .dead) j).live=true):j≠id∧z0e (z0x h id .dead) j=z0e h j:=by
 by_cases e:id=j
 ·subst e; rw [z0g] at hl; cases hl
 ·exact ⟨Ne.symm e,z0b _ _ _ _ e⟩
def Rho.lend (ρ:Rho) (b:Nat):Rho:=⟨ρ.loc,fun k=>ρ.fr k∨k=b⟩
theorem y38 (ρ:Rho) (b:Nat):∀ id L,ρ id=some L→(ρ.lend b) id=some L:=fun _ _ h=>h
theorem x9i (ρ:Rho) (F:Nat→Prop):∀ id L,ρ id=some L→(⟨ρ.loc,F⟩:Rho) id=some L:=fun _ _ h=>h
theorem x3m {id:Nat} {L:Loc} (hL:ρ id=some L) (hl:(z0e h id).live=true) (b:Nat):z0c (ρ.lend L.blk) (z0x h id .dead) b↔z0c ρ h b:=by
 constructor
 ·rintro ((hf|rfl)|⟨j,M,hM,hj,rfl⟩)
  ·exact .inl hf
  ·exact .inr ⟨id,L,hL,hl,rfl⟩
  ·obtain ⟨_,e⟩:=z54 hj
   exact .inr ⟨j,M,hM,by rw [←e]; exact hj,rfl⟩
 ·rintro (hf|⟨j,M,hM,hj,rfl⟩)
  ·exact .inl (.inl hf)
  ·by_cases e:id=j
   ·subst e
    have:(some L:Option Loc)=some M:=hL.symm.trans hM
    cases this
    exact .inl (.inr rfl)
   ·exact .inr ⟨j,M,hM,by rw [z0b _ _ _ _ e]; exact hj,rfl⟩
theorem z0a.lend (hr:z0a P ρ h w) {id:Nat} {L:Loc} (hL:ρ id=some L) (hl:(z0e h id).live=true):z0a P (ρ.lend L.blk) (z0x h id .dead) w:=by
 have ho:z0c (ρ.lend L.blk) (z0x h id .dead)=z0c ρ h:=by funext b; exact propext (x3m hL hl b)
 refine ⟨fun j M hM=>?_,fun i i' M M' h1 h2 l1 l2 hb=>?_,fun b hf=>?_,fun i M hM hli hf=>?_,ho▸hr.gl⟩
 ·obtain ⟨h1,h2⟩:=hr.obj j M hM
  refine ⟨h1,?_⟩
  rw [ho]
  by_cases e:id=j
  ·subst e; rw [z0g]; trivial
  ·rw [z0b _ _ _ _ e]
   exact h2.keep (z3s.refl _ _) (y38 ρ L.blk) rfl
 ·obtain ⟨_,e1⟩:=z54 l1
  obtain ⟨_,e2⟩:=z54 l2
  exact hr.inj i i' M M' h1 h2 (by rw [←e1]; exact l1) (by rw [←e2]; exact l2) hb
 ·rcases hf with hf|rfl
  ·exact hr.fr b hf
  ·exact (hr.obj id L hL).1
 ·obtain ⟨hne,e⟩:=z54 hli
  rw [e] at hli
  rcases hf with hf|hf
  ·exact hr.sep i M hM hli hf
  ·exact hne (hr.inj i id M L hM hL hli hl hf)
theorem x3o {ρ':Rho} {h':List AO} {id:Nat} {L:Loc} {o:AO} (hL:ρ' id=some L) (hfr:ρ'.fr=fun k=>ρ.fr k∨k=L.blk) (hdead:(z0e h' id).live=false) (ho:o.live=true) (b:Nat):
  z0c ⟨ρ'.loc,ρ.fr⟩ (z0x h' id o) b↔z0c ρ' h' b:=by
 constructor
 ·rintro (hf|⟨j,M,hM,hj,rfl⟩)
  ·exact .inl (by rw [hfr]; exact .inl hf)
  ·by_cases e:id=j
   ·subst e
    have:(some L:Option Loc)=some M:=hL.symm.trans hM
    cases this
    exact .inl (by rw [hfr]; exact .inr rfl)
   ·rw [z0b _ _ _ _ e] at hj
    exact .inr ⟨j,M,hM,hj,rfl⟩
 ·rintro (hf|⟨j,M,hM,hj,rfl⟩)
  ·rw [hfr] at hf
   rcases hf with hf|rfl
   ·exact .inl hf
   ·exact .inr ⟨id,L,hL,by rw [z0g]; exact ho,rfl⟩
  ·have e:id≠j:=by rintro rfl; rw [hdead] at hj; cases hj
   exact .inr ⟨j,M,hM,by rw [z0b _ _ _ _ e]; exact hj,rfl⟩
theorem z0a.back {ρ':Rho} {h':List AO} {w':World} (hr:z0a P ρ' h' w') {id:Nat} {L:Loc} {o:AO} (hL:ρ' id=some L) (hfr:ρ'.fr=fun k=>ρ.fr k∨k=L.blk) (hnf:¬ ρ.fr L.blk) (ho:o.live=true)
  (hob:z0u P ⟨ρ'.loc,ρ.fr⟩ (z0c ⟨ρ'.loc,ρ.fr⟩ (z0x h' id o)) w' L o):(z0e h' id).live=false∧z0a P ⟨ρ'.loc,ρ.fr⟩ (z0x h' id o) w':=by
 have hdead:(z0e h' id).live=false:=by
  cases hq:(z0e h' id).live with
  |false=>rfl
  |true=>exact absurd (by rw [hfr]; exact .inr rfl) (hr.sep id L hL hq)
 have hown:z0c ⟨ρ'.loc,ρ.fr⟩ (z0x h' id o)=z0c ρ' h':=by funext b; exact propext (x3o hL hfr hdead ho b)
 refine ⟨hdead,fun j M hM=>?_,fun i i' M M' h1 h2 l1 l2 hb=>?_,fun b hf=>hr.fr b (by rw [hfr]; exact .inl hf),fun i M hM hli hf=>?_,hown▸hr.gl⟩
 ·obtain ⟨h1,h2⟩:=hr.obj j M hM
  refine ⟨h1,?_⟩
  by_cases e:id=j
  ·subst e
   have:(some L:Option Loc)=some M:=hL.symm.trans hM
   cases this
   rw [z0g]; exact hob
  ·rw [z0b _ _ _ _ e,hown]
   exact h2.keep (z3s.refl _ _) (x9i ρ' ρ.fr) rfl
 ·have other:∀ j M,ρ' j=some M→id≠j→(z0e (z0x h' id o) j).live=true→M.blk≠L.blk:=by
   intro j M hM hne hlj e
   rw [z0b _ _ _ _ hne] at hlj
   exact hr.sep j M hM hlj (by rw [hfr]; exact .inr e)
  by_cases e1:id=i
  ·by_cases e2:id=i'
   ·rw [←e1, ←e2]
   ·subst e1
    have:(some L:Option Loc)=some M:=hL.symm.trans h1
    cases this
    exact absurd hb.symm (other i' M' h2 e2 l2)
  ·by_cases e2:id=i'
   ·subst e2
    have:(some L:Option Loc)=some M':=hL.symm.trans h2
    cases this
    exact absurd hb (other i M h1 e1 l1)
   ·rw [z0b _ _ _ _ e1] at l1
    rw [z0b _ _ _ _ e2] at l2
    exact hr.inj i i' M M' h1 h2 l1 l2 hb
 ·by_cases e:id=i
  ·subst e
   have:(some L:Option Loc)=some M:=hL.symm.trans hM
   cases this
   exact hnf hf
  ·rw [z0b _ _ _ _ e] at hli
   exact hr.sep i M hM hli (by rw [hfr]; exact .inl hf)
theorem x7a {O:Nat→Prop} {nt:Nat}:∀ (ps:List Nat) (xs:List AV) (vs:List Value) (env:List (Nat×AV)) (tm:Array Value),(∀ p∈ps,p<nt)→vs.length=xs.length→(∀ (i:Nat) (x:AV) (v:Value),xs[i]?=some x→vs[i]?=some v→z0i ρ O w x v)→
  tm.size=nt→z5q ρ O w env tm→z5q ρ O w (y9s env ps xs) ((ps.zip vs).foldl (fun tmps (t,a)=>tmps.setIfInBounds t a) tm)∧((ps.zip vs).foldl (fun tmps (t,a)=>tmps.setIfInBounds t a) tm).size=nt:=by
 intro ps
 induction ps with
 |nil=>intro xs vs env tm _ _ _ hs he; cases xs<;>exact ⟨by simpa [y9s] using he,by simpa using hs⟩
 |cons p ps ih=>
  intro xs vs env tm hp hl hx hs he
  cases xs with
  |nil=>
   have:vs=[]:=by simpa using hl
   subst this
   exact ⟨by simpa [y9s] using he,by simpa using hs⟩
  |cons x xs=>
   cases vs with
   |nil=>simp at hl
   |cons v vs=>
    simp only [y9s,List.zip_cons_cons,List.foldl_cons]
    refine ih xs vs _ _ (fun q hq=>hp q (by simp [hq])) (by simpa using hl) (fun i y u hy hu=>hx (i+1) y u (by simpa using hy) (by simpa using hu)) (by simpa using hs) ?_
    have:=y1t (ρ:=ρ) (dst:=some p) (nt:=nt) (z3s.refl O w) (fun _ _ h=>h) he hs (by simp [z5b,Nat.blt]; exact hp p (by simp)) (hx 0 x v rfl rfl)
    exact this
theorem x5o {n : Nat} {ops : Array Oper} {i : Nat} {rest : List Nat} {s : AS} {Q : AS → Prop} {o : Oper} (ho : ops[i]? = some o) (hg : z5o ops.toList s.env o.guard = some true) (hn : n ≤ s.heap.length) {f : Operand} {args : Array Operand} {ts : Array TypeId}
    (hop : o.op = .call ⟨.value f, args, ts⟩) {id : Nat} (hf : z0j s.env f = .yld id) {pd : Option Code} {g : Nat} {pos : List Bool} {env : List (Nat × AV)} {nt : Nat} (hob : z0e s.heap id = .loop .ready pd g pos nt env)
    {x0 : Operand} {ps : Array Tmp} {asg body : Code} (hcd : z3r P g pos = some (.rangeFunc x0 ps asg body))
    (hps : ∀ p ∈ ps.toList, p < nt) (hpl : args.size = ps.size) (hd : z5b s.nt o.dst = true)
    (hc : z5u P s.heap.length asg ⟨y9s env ps.toList (z0s s.env args.toList), z0x s.heap id .dead, nt⟩ (fun e s1 => e = .normal ∧ z5u P s.heap.length body s1 (fun e' s2 => s.heap.length ≤ s2.heap.length ∧
      y80 P n ops rest ⟨y3o s.env o.dst (.d (.bool (isN e'))), z0x s2.heap id (.loop (y5b e') (z2q e') g pos nt env), s.nt⟩ Q))) : y80 P n ops (i :: rest) s Q := ⟨by
  intro b k cs ρ tm ds w B h1 h2
  have hfv := z0f h1.env f
  rw [hf] at hfv
  obtain ⟨L, hL, hfe⟩ : ∃ L, ρ id = some L ∧ opv tm f = .func (.yield L.blk) #[] #[] := by
    generalize hv : opv tm f = v at hfv
    cases hfv with | yld _ L hL => exact ⟨L, hL, rfl⟩
  have hlive : (z0e s.heap id).live = true := by rw [hob]; rfl
  have hidlt : id < s.heap.length := h1.dom id (by rw [hL]; simp)
  obtain ⟨hblt, hobj⟩ := h1.heap.obj id L hL
  rw [hob] at hobj
  obtain ⟨x1, ps1, asg1, body1, hcd1, tm0, dsn, fid, hcb, hts, hev⟩ := hobj
  rw [hcd] at hcd1; cases hcd1
  have har : z0z ρ (z0c ρ s.heap) w (z0s s.env args.toList) (args.map (opv tm)) := z66 h1.env args
  let tm1 := ((ps.zip (args.map (opv tm))).foldl (fun tmps (t, a) => tmps.setIfInBounds t a) tm0)
  have hexec : (execOp (opv tm) o).run P w = .ok (.round L.blk fid tm1 asg body) w := by
    have hsz : (args.map (opv tm)).size = ps.size := by simpa using hpl
    simp [execOp, hop, resolve, Deferred.ofValue, hfe, invoke, Instr.yield, z5k hcb, hsz, tm1, hpl]
  let R : Frame := Frame.round L.blk fid tm1 asg body .normal
  let c0 := b.on tm ds (.inRegion ops (i :: rest) :: k)
  have hr1 := h1.heap.lend hL hlive
  have ho1 : z0c (ρ.lend L.blk) (z0x s.heap id .dead) = z0c ρ s.heap := by funext b; exact propext (x3m hL hlive b)
  have hsetps := x7a (ρ := ρ.lend L.blk) (w := w) (O := z0c ρ s.heap) ps.toList (z0s s.env args.toList) (args.map (opv tm)).toList env tm0 hps (by rw [eBa]; exact har.1) (fun j x v hx hv => by
      have := har.2 j x hx
      have hv' : (args.map (opv tm))[j]? = some v := by rw [← eAj]; exact hv
      rw [z7n hv'] at this
      exact this.keep (z3s.refl _ _) (y38 ρ L.blk)) hts (fun t => (hev t).keep (z3s.refl _ _) (y38 ρ L.blk))
  have htm1 : tm1 = (ps.toList.zip (args.map (opv tm)).toList).foldl (fun tmps (t, a) => tmps.setIfInBounds t a) tm0 := by
    simp only [tm1]
    rw [← Array.foldl_toList, Array.toList_zip]
  rw [← htm1] at hsetps
  have hst1 : z1p P (ρ.lend L.blk) ⟨y9s env ps.toList (z0s s.env args.toList), z0x s.heap id .dead, nt⟩ tm1 w :=
    ⟨hr1, fun t => by rw [ho1]; exact hsetps.1 t, hsetps.2, fun j hj => by
      have := h1.dom j hj
      rw [z4n _ _ _ hidlt]; exact this⟩
  have hdf1 : z3e (some L.blk) w.heap.size (ρ.lend L.blk).fr w [] := ⟨List.nodup_nil, by simp, hr1.fr, eAk _, fun l hl => by cases hl; exact ⟨.inr rfl, _, hcb⟩⟩
  obtain ⟨e, s1, ρ2, tm2, ds2, w2, ⟨rfl, hbody⟩, a1, a2, a3, a4, a5⟩ := hc.run R [.beginRound, .code body] (c0 :: cs) _ tm1 [] w w.heap.size hst1 hdf1
  have hfr2 : ρ2.fr = fun k => ρ.fr k ∨ k = L.blk := a4.fr
  have hcb2 : w2.heap[L.blk]? = some (.loop { state := .ready, pending := pd, fn := fid, tmps := tm0, params := ps, assign := asg, body := body, defers := dsn }) := (a4.frs L.blk (.inr rfl)).trans hcb
  have hlf2 : ρ2.fr L.blk := by rw [hfr2]; exact .inr rfl
  have hbr := y5c (P := P) hcb2 rfl
  have a1' := a1.frset (r' := { state := .busy, pending := pd, fn := fid, tmps := tm0, params := ps, assign := asg, body := body, defers := dsn }) hlf2 hcb2
  have hcb3 : (World.setObj w2 L.blk (.loop { state := .busy, pending := pd, fn := fid, tmps := tm0, params := ps, assign := asg, body := body, defers := dsn })).heap[L.blk]? = some (.loop { state := .busy, pending := pd, fn := fid, tmps := tm0, params := ps, assign := asg, body := body, defers := dsn }) :=
    z0l _ _ _ (eAe.1 hcb2).1
  have hk23 : z3s (z0c ρ2 s1.heap) (z0c ρ2 s1.heap) w2 (World.setObj w2 L.blk (.loop { state := .busy, pending := pd, fn := fid, tmps := tm0, params := ps, assign := asg, body := body, defers := dsn })) := y4c (.inl hlf2) hcb2
  have a2' : z3e (some L.blk) w.heap.size ρ2.fr (World.setObj w2 L.blk (.loop { state := .busy, pending := pd, fn := fid, tmps := tm0, params := ps, assign := asg, body := body, defers := dsn })) ds2 := by
    refine ⟨a2.nodup, fun d hdm => ?_, a2.below, by rw [z1c]; exact a2.le, fun l hl => by cases hl; exact ⟨hlf2, _, hcb3⟩⟩
    obtain ⟨r, e, hr, hB⟩ := a2.mark d hdm
    refine ⟨r, e, ?_, hB⟩
    rw [z1f _ _ _ _ (by rintro rfl; rw [hcb2] at hr; cases hr)]; exact hr
  generalize hw3 : World.setObj w2 L.blk (.loop { state := .busy, pending := pd, fn := fid, tmps := tm0, params := ps, assign := asg, body := body, defers := dsn }) = w3 at *
  obtain ⟨e, s2, ρ4, tm4, ds4, w4, ⟨hlen, hrest⟩, b1, b2, b3, b4, b5⟩ := hbody.run R [] (c0 :: cs) ρ2 tm2 ds2 w3 w.heap.size a1' a2'
  have hfr4 : ρ4.fr = fun k => ρ.fr k ∨ k = L.blk := b4.fr.trans hfr2
  have hcb4 : w4.heap[L.blk]? = some (.loop { state := .busy, pending := pd, fn := fid, tmps := tm0, params := ps, assign := asg, body := body, defers := dsn }) := (b4.frs L.blk hlf2).trans hcb3
  have hL4 : ρ4 id = some L := by
    rw [b4.rho id hidlt, a4.rho id hidlt]; exact hL
  have her := y9v (P := P) hcb4 (z2q e)
  have hjn : (z2q e).isNone = isN e := by cases e <;> rfl
  have hjs : (if (z2q e).isNone = true then LoopState.ready else LoopState.done) = y5b e := by cases e <;> rfl
  rw [hjn] at her
  rw [hjn] at hjs
  rw [hjs] at her
  have hsteps : Steps P (lone c0 cs w) (lone (c0.finish (.bool (isN e))) cs (World.setObj w4 L.blk (.loop { state := y5b e, pending := z2q e, fn := fid, tmps := tm0, params := ps, assign := asg, body := body, defers := dsn }))) := by
    have hdef : ∀ c, o.op ≠ .defer c := by rw [hop]; simp
    refine .head (x10 ho (z4v h1 hg) hdef hexec) ?_
    have hR : R.on tm1 [] [.code asg, .beginRound, .code body] = R := rfl
    rw [hR] at a5
    refine Steps.trans a5 (.head (y5a (l := L.blk) rfl hbr) ?_)
    cases e with
    | normal => exact Steps.trans b5 (.one (y9m (l := L.blk) rfl rfl her))
    | exit j =>
      obtain ⟨k', ek, hs⟩ := b5
      exact Steps.trans hs (.one (y7z (l := L.blk) rfl rfl (by rw [ek]; rfl) her))
    | ret =>
      obtain ⟨k', hs⟩ := b5
      exact Steps.trans hs (.one (y9l (l := L.blk) rfl rfl her))
  have hlf4 : ρ4.fr L.blk := by rw [hfr4]; exact .inr rfl
  have b1' := b1.frset (r' := { state := y5b e, pending := z2q e, fn := fid, tmps := tm0, params := ps, assign := asg, body := body, defers := dsn }) hlf4 hcb4
  have hcb5 : (World.setObj w4 L.blk (.loop { state := y5b e, pending := z2q e, fn := fid, tmps := tm0, params := ps, assign := asg, body := body, defers := dsn })).heap[L.blk]? = some (.loop { state := y5b e, pending := z2q e, fn := fid, tmps := tm0, params := ps, assign := asg, body := body, defers := dsn }) :=
    z0l _ _ _ (eAe.1 hcb4).1
  have hk45 : z3s (z0c ρ4 s2.heap) (z0c ρ4 s2.heap) w4 (World.setObj w4 L.blk (.loop { state := y5b e, pending := z2q e, fn := fid, tmps := tm0, params := ps, assign := asg, body := body, defers := dsn })) := y4c (.inl hlf4) hcb4
  have hw5size : (World.setObj w4 L.blk (.loop { state := y5b e, pending := z2q e, fn := fid, tmps := tm0, params := ps, assign := asg, body := body, defers := dsn })).heap.size = w4.heap.size := z1c _ _ _
  have hw5frs : ∀ b, b ≠ L.blk → (World.setObj w4 L.blk (.loop { state := y5b e, pending := z2q e, fn := fid, tmps := tm0, params := ps, assign := asg, body := body, defers := dsn })).heap[b]? = w4.heap[b]? := fun b hb => z1f _ _ _ _ hb
  have hw5o : (World.setObj w4 L.blk (.loop { state := y5b e, pending := z2q e, fn := fid, tmps := tm0, params := ps, assign := asg, body := body, defers := dsn })).os = w4.os ∧ (World.setObj w4 L.blk (.loop { state := y5b e, pending := z2q e, fn := fid, tmps := tm0, params := ps, assign := asg, body := body, defers := dsn })).tape = w4.tape ∧ (World.setObj w4 L.blk (.loop { state := y5b e, pending := z2q e, fn := fid, tmps := tm0, params := ps, assign := asg, body := body, defers := dsn })).output = w4.output := ⟨rfl, rfl, rfl⟩
  generalize World.setObj w4 L.blk (.loop { state := y5b e, pending := z2q e, fn := fid, tmps := tm0, params := ps, assign := asg, body := body, defers := dsn }) = w5 at *
  have hnf : ¬ ρ.fr L.blk := h1.heap.sep id L hL hlive
  have hdead : (z0e s2.heap id).live = false := by
    cases hq : (z0e s2.heap id).live with
    | false => rfl
    | true => exact absurd hlf4 (b1.heap.sep id L hL4 hq)
  have hown5 : z0c ⟨ρ4.loc, ρ.fr⟩ (z0x s2.heap id (.loop (y5b e) (z2q e) g pos nt env)) = z0c ρ4 s2.heap := by
    funext b; exact propext (x3o hL4 hfr4 hdead rfl b)
  have hkeep : z3s (z0c ρ s.heap) (z0c ρ4 s2.heap) w w5 := by
    have k1 := a4.keep
    rw [ho1] at k1
    exact ((k1.trans hk23).trans b4.keep).trans hk45
  have hrho : ∀ j, j < s.heap.length → ρ4 j = ρ j := fun j hj => (b4.rho j hj).trans (a4.rho j hj)
  have hmono : ∀ j M, ρ j = some M → ρ4 j = some M := fun j M hM => by rw [hrho j (h1.dom j (by rw [hM]; simp))]; exact hM
  obtain ⟨_, hback⟩ := b1'.heap.back (ρ := ρ) (o := .loop (y5b e) (z2q e) g pos nt env) hL4 hfr4 hnf rfl ⟨x0, ps, asg, body, hcd, tm0, dsn, fid, hcb5, hts, fun t => by
    rw [hown5]
    exact (hev t).keep (ρ' := ⟨ρ4.loc, ρ.fr⟩) hkeep (fun j M hM => hmono j M hM)⟩
  have hext : Ext (· < s.heap.length) ρ s.heap w ⟨ρ4.loc, ρ.fr⟩ (z0x s2.heap id (.loop (y5b e) (z2q e) g pos nt env)) w5 :=
    { os := hw5o.1.trans (b4.os.trans ((by rw [← hw3]; rfl : w3.os = w2.os).trans a4.os))
      tape := hw5o.2.1.trans (b4.tape.trans ((by rw [← hw3]; rfl : w3.tape = w2.tape).trans a4.tape))
      output := hw5o.2.2.trans (b4.output.trans ((by rw [← hw3]; rfl : w3.output = w2.output).trans a4.output))
      keep := by rw [hown5]; exact hkeep
      rho := fun j hj => hrho j hj
      fr := rfl
      frs := fun c hcf => by
        have hne : c ≠ L.blk := by rintro rfl; exact hnf hcf
        rw [hw5frs c hne, b4.frs c (by rw [hfr2]; exact .inl hcf), ← hw3, z1f _ _ _ _ hne, a4.frs c (.inl hcf)] }
  have h1' : z1p P ⟨ρ4.loc, ρ.fr⟩ ⟨y3o s.env o.dst (.d (.bool (isN e))), z0x s2.heap id (.loop (y5b e) (z2q e) g pos nt env), s.nt⟩ (y11 tm o.dst (.bool (isN e))) w5 :=
    ⟨hback, by
      show z5q _ (z0c ⟨ρ4.loc, ρ.fr⟩ (z0x s2.heap id _)) w5 _ _
      rw [hown5]
      exact y1t (ρ' := ⟨ρ4.loc, ρ.fr⟩) hkeep (fun j M hM => hmono j M hM) h1.env h1.size hd (.d (.bool _)), by rw [z8f]; exact h1.size, fun j hj => by
      have hj : ρ4 j ≠ none := hj
      have := b1.dom j hj
      have := (z1m s2.heap id (.loop (y5b e) (z2q e) g pos nt env)).1
      show j < (z0x s2.heap id _).length
      omega⟩
  obtain ⟨s3, ρ5, tm5, w6, q, g1, g2, g3, g4, g5⟩ := hrest.run b k cs _ _ ds w5 B h1' (h2.keep h1.heap hext)
  refine ⟨s3, ρ5, tm5, w6, q, g1, g2, g3, (hext.mono (fun j (hj : j < n) => by show j < s.heap.length; omega)).trans g4, Steps.trans hsteps ?_⟩
  rw [show c0.finish (.bool (isN e)) = b.on (y11 tm o.dst (.bool (isN e))) ds (.inRegion ops rest :: k) from z8p ho _]
  exact g5⟩
end
end Go.Am
end
section
namespace Go.Am
def z8x (s:AS) (h:List AO):Option Code→Option (AX×AS)
 |none=>some (.normal,⟨s.env,h,s.nt⟩)
 |some .ret=>some (.ret,⟨s.env,h,s.nt⟩)
 |some (.exit j)=>some (.exit j,⟨s.env,h,s.nt⟩)
 |some _=>none
section
variable {P:Program}
theorem y3v (h:List AO) (o:AO):(z0x h h.length o).length=h.length+1:=by rw [x3g]; simp
structure z4a (P:Program) (n:Nat) (g:FuncId) (args:List AV) (s:AS) (r:AV) (s':AS):Prop where
 run:∀ (ρ:Rho) (vs tm:Array Value) (w:World) (cs:List Frame),z1p P ρ s tm w→z0z ρ (z0c ρ s.heap) w args vs→
  ∃ ρ' v w' fr,Steps P (lone (Frame.enter P g vs .normal) cs w) (lone fr cs w')∧fr.fn=g∧fr.leaving P w' (.returned v)∧z0i ρ' (z0c ρ' s'.heap) w' r v∧z1p P ρ' s' tm w'∧s'.nt=s.nt∧Ext (· <n) ρ s.heap w ρ' s'.heap w'
theorem z4a.of_aret {n:Nat} {g:FuncId} {args:List AV} {s:AS} {r:AV} {h':List AO} (hn:n≤s.heap.length) (h:z2z P g args s.heap r h'):z4a P n g args s r ⟨s.env,h',s.nt⟩:=⟨by
 intro ρ vs tm w cs h1 ha
 obtain ⟨ρ',v,w',fr,a1,a2,a3,a4,a5,a6,a7⟩:=h.run ρ vs w cs h1.heap h1.dom ha
 have hρ:∀ id L,ρ id=some L→ρ' id=some L:=fun id L hL=>by
  have hid:id<s.heap.length:=h1.dom id (by rw [hL]; simp)
  rw [a7.rho id hid]; exact hL
 exact ⟨ρ',v,w',fr,a1,a2,a3,a4,⟨a5,fun t=>(h1.env t).keep a7.keep hρ,h1.size,a6⟩,rfl,a7.mono (fun id (hid:id<n)=>by show id<s.heap.length; omega)⟩⟩
theorem x5p {n:Nat} {ops:Array Oper} {i:Nat} {rest:List Nat} {s:AS} {Q:AS→Prop} {o:Oper} (ho:ops[i]?=some o) (hg:z5o ops.toList s.env o.guard=some true) {f:Operand} {args:Array Operand} {ts:Array TypeId}
  (hop:o.op= .call ⟨.value f,args,ts⟩) {g:FuncId} {first captured:List AV} (hf:z0j s.env f= .clo (.func g) first captured) (hen:z42 P g) {r:AV} {s':AS} (hret:z4a P n g (first++z0s s.env args.toList++captured) s r s') (hd:z5b s.nt o.dst=true)
  (h:y80 P n ops rest ⟨y3o s'.env o.dst r,s'.heap,s'.nt⟩ Q):y80 P n ops (i::rest) s Q:=⟨by
 intro b k cs ρ tm ds w B h1 h2
 have hfv:=z0f h1.env f
 rw [hf] at hfv
 obtain ⟨vf,vc,hfe,hfr,hcr⟩:∃ vf vc,opv tm f= .func (.func g) vf vc∧z0z ρ (z0c ρ s.heap) w first vf∧z0z ρ (z0c ρ s.heap) w captured vc:=by
  generalize hv:opv tm f=v at hfv
  cases hfv with
  |clo _ _ _ vf vc a1 a2 a3 a4=>exact ⟨vf,vc,rfl,⟨a1,a3⟩,⟨a2,a4⟩⟩
 have har:z0z ρ (z0c ρ s.heap) w (z0s s.env args.toList) (args.map (opv tm)):=z66 h1.env args
 have hall:=(hfr.append har).append hcr
 have hexec:(execOp (opv tm) o).run P w= .ok (.enter g (vf++args.map (opv tm)++vc)) w:=by
  have:=hen (vf++args.map (opv tm)++vc) w
  simp only [Array.append_assoc] at this
  simp [execOp,hop,resolve,Deferred.ofValue,hfe,invoke,this]
 obtain ⟨ρ',v,w',fr,hst,hfn,hlv,hv,hh,hnt,hx⟩:=hret.run ρ _ tm w (b.on tm ds (.inRegion ops (i::rest)::k)::cs) h1 hall
 have h1':z1p P ρ' ⟨y3o s'.env o.dst r,s'.heap,s'.nt⟩ (y11 tm o.dst v) w':=
  ⟨hh.heap,y1t (z3s.refl _ _) (fun _ _ h=>h) hh.env hh.size (by rw [hnt]; exact hd) hv,by rw [z8f]; exact hh.size,hh.dom⟩
 obtain ⟨s2,ρ2,tm2,w2,q2,g1,g2,g3,g4,g5⟩:=h.run b k cs ρ' _ ds w' B h1' (h2.keep h1.heap hx)
 have hdef:∀ c,o.op≠ .defer c:=by rw [hop]; simp
 refine ⟨s2,ρ2,tm2,w2,q2,g1,g2,g3.trans hnt,hx.trans g4,?_⟩
 refine .head (y3k ho (z4v h1 hg) hdef hexec) (Steps.trans hst (.head (step_leave_returned hlv) ?_))
 rw [z8p ho]
 exact g5⟩
theorem y5j {n:Nat} {s:AS} {Q:AX→AS→Prop} {f:Operand} {ps:Array Tmp} {asg body:Code} {g:FuncId} {first captured:List AV} {gc:Nat} {pos:List Bool} (hcd:z3r P gc pos=some (.rangeFunc f ps asg body)) (hf:z0j s.env f= .clo (.func g) first captured) (hen:z42 P g) (hn:n≤s.heap.length)
  {r:AV} {sc:AS} (hret:z4a P (s.heap.length+1) g (first++[.yld s.heap.length]++captured) ⟨s.env,z0x s.heap s.heap.length (.loop .ready none gc pos s.nt s.env),s.nt⟩ r sc)
  {st:LoopState} {pd:Option Code} {gc':Nat} {pos':List Bool} {env:List (Nat×AV)} {nt:Nat} (hob:z0e sc.heap s.heap.length= .loop st pd gc' pos' nt env) (hst:st≠ .busy)
  {e:AX} {s':AS} (haf:z8x sc (z0x sc.heap s.heap.length .dead) pd=some (e,s')) (hQ:Q e s'):z5u P n (.rangeFunc f ps asg body) s Q:=⟨by
 intro b k cs ρ tm ds w B h1 h2
 have hnone:ρ s.heap.length=none:=by
  cases hq:ρ s.heap.length with
  |none=>rfl
  |some L=>have:=h1.dom s.heap.length (by rw [hq]; simp); omega
 obtain ⟨mark,w1,dsn,hw1,hrun1,hmark⟩:∃ (mark:List Deferred) (w1:World) (dsn:Nat),(z0a P ρ s.heap w1∧Ext (· <s.heap.length) ρ s.heap w ρ s.heap w1)∧
   (∀ o:Loop,o={ state:= .ready,pending:=none,fn:=b.fn,tmps:=tm,params:=ps,assign:=asg,body:=body,defers:=dsn }→(Instr.enterLoop b.fn tm ps asg body b.roundOf).run P w= .ok (w1.heap.size,mark) (World.push w1 (.loop o)))∧z3e b.roundOf B ρ.fr w1 (mark++ds):=by
  cases hro:b.roundOf with
  |none=>
   refine ⟨[{ target:= .collected w.heap.size,args:=#[] }],World.push w (.deferred (some [])),w.heap.size,⟨h1.heap.push0 _,Ext.push0 _ h1.heap _⟩,?_,?_⟩
   ·rintro o rfl
    simp [Instr.enterLoop,newObj,Sem.run,World.push]
    rfl
   ·rw [hro] at h2
    refine ⟨?_,?_,h2.below,by rw [z6s]; have:=h2.le; omega,fun l hl=>by cases hl⟩
    ·refine List.nodup_cons.2 ⟨fun hm=>?_,h2.nodup⟩
     obtain ⟨r,e,hr,_⟩:=h2.mark _ hm
     have:=(eAe.1 hr).1
     have e2:Target.collected w.heap.size=Target.collected r:=congrArg Deferred.target e
     injection e2 with e2
     omega
    ·intro d hd
     rcases eAz.1 hd with rfl|hd
     ·exact ⟨w.heap.size,rfl,z2v _ _,h2.le⟩
     ·obtain ⟨r,e,hr,hB⟩:=h2.mark d hd
      exact ⟨r,e,by rw [z48 _ _ _ (eAe.1 hr).1]; exact hr,hB⟩
  |some l0=>
   rw [hro] at h2
   obtain ⟨_,r0,hr0⟩:=h2.round l0 rfl
   refine ⟨[],w,r0.defers,⟨h1.heap,Ext.refl _ _ _ _⟩,?_,h2⟩
   rintro o rfl
   simp [Instr.enterLoop,newObj,Sem.run,World.push,z5k hr0]
   try rfl
 obtain ⟨hh1,hx1⟩:=hw1
 have hrun1:=hrun1 _ rfl
 generalize hlo:({ state:= .ready,pending:=none,fn:=b.fn,tmps:=tm,params:=ps,assign:=asg,body:=body,defers:=dsn }:Loop)=lo at hrun1
 have hx2:=Ext.new hh1 hnone ⟨w1.heap.size,0,0⟩ (.loop .ready none gc pos s.nt s.env) (.loop lo) rfl
 have hh2:z0a P (ρ.put s.heap.length ⟨w1.heap.size,0,0⟩) (z0x s.heap s.heap.length (.loop .ready none gc pos s.nt s.env)) (World.push w1 (.loop lo)):=
  hh1.new hnone 0 _ _ ⟨f,ps,asg,body,hcd,tm,dsn,b.fn,by rw [z2v, ←hlo],h1.size,fun t=>((h1.env t).keep hx1.keep (fun _ _ h=>h)).keep hx2.keep (Rho.put_mono _ _ _ hnone)⟩
 have hd2:Dom (ρ.put s.heap.length ⟨w1.heap.size,0,0⟩) (z0x s.heap s.heap.length (.loop .ready none gc pos s.nt s.env)):=fun id hid=>by
  rw [y3v]
  by_cases e:id=s.heap.length
  ·omega
  ·rw [Rho.put_ne _ _ _ _ e] at hid
   have:=h1.dom id hid; omega
 have hx02:=(hx1.mono (S':=(· <s.heap.length)) (fun _ h=>h)).trans (hx2.mono (S':=(· <s.heap.length)) (fun id (h:id<s.heap.length)=>by show id≠s.heap.length; omega))
 have hmono2:∀ id L,ρ id=some L→(ρ.put s.heap.length ⟨w1.heap.size,0,0⟩) id=some L:=Rho.put_mono _ _ _ hnone
 have hfv:=z0f h1.env f
 rw [hf] at hfv
 obtain ⟨vf,vc,hfe,hfr,hcr⟩:∃ vf vc,opv tm f= .func (.func g) vf vc∧z0z ρ (z0c ρ s.heap) w first vf∧z0z ρ (z0c ρ s.heap) w captured vc:=by
  generalize hv:opv tm f=v at hfv
  cases hfv with
  |clo _ _ _ vf vc a1 a2 a3 a4=>exact ⟨vf,vc,rfl,⟨a1,a3⟩,⟨a2,a4⟩⟩
 have later:∀ (xs:List AV) (vs:Array Value),z0z ρ (z0c ρ s.heap) w xs vs→z0z (ρ.put s.heap.length ⟨w1.heap.size,0,0⟩) (z0c (ρ.put s.heap.length ⟨w1.heap.size,0,0⟩) (z0x s.heap s.heap.length (.loop .ready none gc pos s.nt s.env))) (World.push w1 (.loop lo)) xs vs:=
  fun xs vs h=>⟨h.1,fun i x hx=>(h.2 i x hx).keep hx02.keep hmono2⟩
 have hyl:z0z (ρ.put s.heap.length ⟨w1.heap.size,0,0⟩) (z0c (ρ.put s.heap.length ⟨w1.heap.size,0,0⟩) (z0x s.heap s.heap.length (.loop .ready none gc pos s.nt s.env))) (World.push w1 (.loop lo)) [.yld s.heap.length] #[.func (.yield w1.heap.size) #[] #[]]:=
  ⟨rfl,fun i x hx=>by
   cases i with
   |zero=>cases hx; exact .yld _ _ (Rho.put_same _ _ _)
   |succ i=>simp at hx⟩
 have hexec:(do let d←resolve (opv tm) { callee:= .value f,args:=#[.const (.func (.yield w1.heap.size) #[] #[])],argTypes:=#[] } 0; invoke d.target d.args:Sem Next).run P (World.push w1 (.loop lo))= .ok (.enter g (vf++#[.func (.yield w1.heap.size) #[] #[]]++vc)) (World.push w1 (.loop lo)):=by
  have:=hen (vf++#[.func (.yield w1.heap.size) #[] #[]]++vc) (World.push w1 (.loop lo))
  simp only [Array.append_singleton] at this⊢
  have hcst:opv tm (.const (.func (.yield w1.heap.size) #[] #[]))= .func (.yield w1.heap.size) #[] #[]:=rfl
  simp [resolve,Deferred.ofValue,hfe,invoke,hcst,this]
 have hst2:z1p P (ρ.put s.heap.length ⟨w1.heap.size,0,0⟩) ⟨s.env,z0x s.heap s.heap.length (.loop .ready none gc pos s.nt s.env),s.nt⟩ tm (World.push w1 (.loop lo)):=
  ⟨hh2,fun t=>(h1.env t).keep hx02.keep hmono2,h1.size,hd2⟩
 obtain ⟨ρ3,v,w3,fr,hsteps,hfn,hlv,hv,hst3,hnt3,hx3⟩:=hret.run _ _ tm (World.push w1 (.loop lo)) (b.on tm (mark++ds) (.inRangeFunc w1.heap.size::k)::cs) hst2 (((later _ _ hfr).append hyl).append (later _ _ hcr))
 have hh3:=hst3.heap
 have hdm3:=hst3.dom
 have hL3:ρ3 s.heap.length=some ⟨w1.heap.size,0,0⟩:=by rw [hx3.rho _ (by show s.heap.length<s.heap.length+1; omega)]; exact Rho.put_same _ _ _
 obtain ⟨_,hobj⟩:=hh3.obj _ _ hL3
 rw [hob] at hobj
 obtain ⟨x',ps',asg',body',hcd3,tm3,ds3,fid3,hcb3,hts3,hev3⟩:=hobj
 have hel:=x13 (P:=P) hcb3 hst
 have hlive:(z0e sc.heap s.heap.length).live=true:=by rw [hob]; rfl
 have hbs:∀ m,z0t w3 w1.heap.size=some m→z0t (World.setObj w3 w1.heap.size (.loop { state:= .exhausted,pending:=pd,fn:=fid3,tmps:=tm3,params:=ps',assign:=asg',body:=body',defers:=ds3 })) w1.heap.size=some m:=fun m hm=>y62 hcb3 _ _ hm
 have hk4:=z1d hh3 hL3 hlive (.loop .exhausted pd gc' pos' nt env) rfl (.loop { state:= .exhausted,pending:=pd,fn:=fid3,tmps:=tm3,params:=ps',assign:=asg',body:=body',defers:=ds3 }) hbs
 have hh4:=hh3.set hL3 hlive (.loop .exhausted pd gc' pos' nt env) rfl (.loop { state:= .exhausted,pending:=pd,fn:=fid3,tmps:=tm3,params:=ps',assign:=asg',body:=body',defers:=ds3 }) hbs
  ⟨x',ps',asg',body',hcd3,tm3,ds3,fid3,z0l _ _ _ (eAe.1 hcb3).1,hts3,fun t=>(hev3 t).keep hk4 (fun _ _ h=>h)⟩
 have hx4:=Ext.set (· <s.heap.length) hh3 hL3 hlive (.loop .exhausted pd gc' pos' nt env) rfl (.loop { state:= .exhausted,pending:=pd,fn:=fid3,tmps:=tm3,params:=ps',assign:=asg',body:=body',defers:=ds3 }) hbs
 have hh5:=hh4.kill s.heap.length
 have hx5:=Ext.kill (· <s.heap.length) ρ3 (z0x sc.heap s.heap.length (.loop .exhausted pd gc' pos' nt env)) (World.setObj w3 w1.heap.size (.loop { state:= .exhausted,pending:=pd,fn:=fid3,tmps:=tm3,params:=ps',assign:=asg',body:=body',defers:=ds3 })) s.heap.length
 have hsame:∀ id,z0e (z0x (z0x sc.heap s.heap.length (.loop .exhausted pd gc' pos' nt env)) s.heap.length .dead) id=z0e (z0x sc.heap s.heap.length .dead) id:=by
  intro id
  by_cases e:s.heap.length=id
  ·subst e; rw [z0g,z0g]
  ·rw [z0b _ _ _ _ e,z0b _ _ _ _ e,z0b _ _ _ _ e]
 have hh6:=hh5.ext hsame
 have hx:Ext (· <s.heap.length) ρ s.heap w ρ3 (z0x sc.heap s.heap.length .dead) (World.setObj w3 w1.heap.size (.loop { state:= .exhausted,pending:=pd,fn:=fid3,tmps:=tm3,params:=ps',assign:=asg',body:=body',defers:=ds3 })):=by
  have:=((hx02.trans (hx3.mono (S':=(· <s.heap.length)) (fun id (h:id<s.heap.length)=>by show id<s.heap.length+1; omega))).trans hx4).trans hx5
  exact ⟨this.os,this.tape,this.output,by rw [←z2w hsame]; exact this.keep,this.rho,this.fr,this.frs⟩
 have hx345:z3s (z0c ρ3 sc.heap) (z0c ρ3 (z0x sc.heap s.heap.length .dead)) w3 (World.setObj w3 w1.heap.size (.loop { state:= .exhausted,pending:=pd,fn:=fid3,tmps:=tm3,params:=ps',assign:=asg',body:=body',defers:=ds3 })):=by
  have:=(hx4.trans hx5).keep
  rw [z2w hsame] at this
  exact this
 have hst':z1p P ρ3 ⟨sc.env,z0x sc.heap s.heap.length .dead,sc.nt⟩ tm (World.setObj w3 w1.heap.size (.loop { state:= .exhausted,pending:=pd,fn:=fid3,tmps:=tm3,params:=ps',assign:=asg',body:=body',defers:=ds3 })):=
  ⟨hh6,fun t=>(hst3.env t).keep hx345 (fun _ _ h=>h),hst3.size,fun id hid=>by
   have:=hdm3 id hid
   have:=(z1m sc.heap s.heap.length .dead).1
   show id<(z0x sc.heap s.heap.length .dead).length
   omega⟩
 have hdf:z3e b.roundOf B ρ3.fr (World.setObj w3 w1.heap.size (.loop { state:= .exhausted,pending:=pd,fn:=fid3,tmps:=tm3,params:=ps',assign:=asg',body:=body',defers:=ds3 })) (mark++ds):=
  (((hmark.keep hh1 hx2).keep hh2 hx3).keep hh3 hx4)
 have hall:Steps P (lone (b.on tm ds (.code (.rangeFunc f ps asg body)::k)) cs w) (lone (b.on tm (mark++ds) ((pd.map Item.code).toList++k)) cs (World.setObj w3 w1.heap.size (.loop { state:= .exhausted,pending:=pd,fn:=fid3,tmps:=tm3,params:=ps',assign:=asg',body:=body',defers:=ds3 }))):=
  .head (y9n hrun1 hexec) (Steps.trans hsteps (.head (step_leave_returned hlv) (.one (x11 hel))))
 have hxn:=hx.mono (S':=(· <n)) (fun id (h:id<n)=>by show id<s.heap.length; omega)
 unfold z8x at haf
 split at haf
 ·cases haf; exact ⟨.normal,_,ρ3,tm,mark++ds,_,hQ,hst',hdf,hnt3,hxn,hall⟩
 ·cases haf; exact ⟨.ret,_,ρ3,tm,mark++ds,_,hQ,hst',hdf,hnt3,hxn,_,hall⟩
 ·cases haf; exact ⟨.exit _,_,ρ3,tm,mark++ds,_,hQ,hst',hdf,hnt3,hxn,k,rfl,hall⟩
 ·cases haf⟩
end
end Go.Am
end
section
namespace Go.Am
structure w20 where
 body:Code
 nt:Nat
 res:List ResultVar
mutual
def z73:AV→Bool
 | .bot=>true
 | .d _=>true
 | .clo _ fs cs=>z95 fs&&z95 cs
 | .agg cs=>z95 cs
 | .tuple vs=>z95 vs
 |_=>false
def z95:List AV→Bool
 |[]=>true
 |x::l=>z73 x&&z95 l
end
mutual
theorem y2v:(x:AV)→z73 x=true→y84 x
 | .bot,_=> .bot
 | .d x,_=> .d x
 | .clo fn fs cs,h=>by
  simp only [z73,eAb] at h
  exact .clo fn fs cs (z5a fs h.1) (z5a cs h.2)
 | .agg cs,h=> .agg cs (z5a cs (by simpa [z73] using h))
 | .tuple cs,h=> .tuple cs (z5a cs (by simpa [z73] using h))
 | .bptr _ _,h=>by simp [z73] at h
 | .ptr _ _ _,h=>by simp [z73] at h
 | .lptr _ _,h=>by simp [z73] at h
 | .wptr _ _,h=>by simp [z73] at h
 | .perm _,h=>by simp [z73] at h
 | .slice _ _ _ _ _,h=>by simp [z73] at h
 | .map _,h=>by simp [z73] at h
 | .yld _,h=>by simp [z73] at h
 | .iface _ _,h=>by simp [z73] at h
theorem z5a:(l:List AV)→z95 l=true→∀ (i:Nat) (x:AV),l[i]?=some x→y84 x
 |[],_,i,x,hx=>by simp at hx
 |y::l,h,i,x,hx=>by
  simp only [z95,eAb] at h
  cases i with
  |zero=>simp at hx; subst hx; exact y2v y h.1
  |succ i=>exact z5a l h.2 i x (by simpa using hx)
end
theorem Steps.tail {P : Program} {m m₁ m' : Machine} (hs : step P m = .next m₁) (h : Steps P m m') (hne : m ≠ m') : Steps P m₁ m' := by
  obtain ⟨n, hn⟩ := h
  cases n with
  | zero => simp [runN] at hn; exact absurd hn hne
  | succ n => simp [runN, hs] at hn; exact ⟨n, hn⟩
theorem y36 {f g:Frame} {cs:List Frame} {w w':World} (h:lone f cs w=lone g cs w'):f.todo=g.todo:=by
 simp [lone] at h
 rw [h.2]
theorem Arr.loop {P:Program} {b:Frame} {cs:List Frame} {c:Code} {k:List Item} {e:AX} {tm tm':Array Value} {ds ds':List Deferred} {w w':World}
  (h:Arr P b cs (lone (b.on tm ds (.code (.loop c)::k)) cs w) k e tm' ds' w'):Arr P b cs (lone (b.on tm ds (.code c:: .inLoop c::k)) cs w) k e tm' ds' w':=by
 cases e with
 |normal=>
  refine Steps.tail y1h h fun he=>?_
  have:=y36 he
  simp only [Frame.on] at this
  have:=congrArg List.length this
  simp at this
 |exit id=>
  obtain ⟨k',e,hs⟩:=h
  refine ⟨k',e,Steps.tail y1h hs fun he=>?_⟩
  have:=y36 he
  simp [Frame.on] at this
 |ret=>
  obtain ⟨k',hs⟩:=h
  refine ⟨k',Steps.tail y1h hs fun he=>?_⟩
  have:=y36 he
  simp [Frame.on] at this
theorem z2j {P:Program} {n:Nat} {c:Code} {s:AS} {Q:AX→AS→Prop} (h:z5u P n c s (fun e s'=>match e with| .normal=>z5u P n (.loop c) s' Q|e=>Q e s')):z5u P n (.loop c) s Q:=⟨by
 intro b k cs ρ tm ds w B h1 h2
 obtain ⟨e,s',ρ',tm',ds',w',q,r1,r2,r3,r4,r5⟩:=h.run b (.inLoop c::k) cs ρ tm ds w B h1 h2
 cases e with
 |normal=>
  obtain ⟨e,s2,ρ2,tm2,ds2,w2,q2,g1,g2,g3,g4,g5⟩:=q.run b k cs ρ' tm' ds' w' B r1 r2
  exact ⟨e,s2,ρ2,tm2,ds2,w2,q2,g1,g2,g3.trans r3,r4.trans g4, .of_steps (.head y1h (Steps.trans r5 (.one x67))) g5.loop⟩
 |exit id=>
  obtain ⟨k',e,hs⟩:=r5
  exact ⟨.exit id,s',ρ',tm',ds',w',q,r1,r2,r3,r4,k',by rw [e,z97 (by simp)], .head y1h hs⟩
 |ret=>
  obtain ⟨k',hs⟩:=r5
  exact ⟨.ret,s',ρ',tm',ds',w',q,r1,r2,r3,r4,k', .head y1h hs⟩⟩
theorem DS.mono {P:Program} {T:TypeId→Option TI} {ops:List Oper} {nt base:Nat} {K K':AS→Prop} {acc:List (List Nat)} {i:Nat} {l:List Oper} {s:AS} (h:DS P T ops nt base K acc i l s) (hk:∀ s,K s→K' s):DS P T ops nt base K' acc i l s:=by
 induction h with
 |nil h=>exact .nil (hk _ h)
 |cons hp hd hop h ih=>exact .cons hp hd hop ih
structure Alg where
 Ω:Type→Type
 ret:(β:Type)→β→Ω β
 no:(β:Type)→Nat→Ω β
 need:(β:Type)→Bool→Ω β→Ω β
 ask:(β:Type)→Bool→Ω β→Ω β→Ω β
 bnd:(γ β:Type)→Option γ→(γ→Ω β)→Ω β
 alt:(γ δ β:Type)→Option (γ⊕δ)→(γ→Ω β)→(δ→Ω β)→Ω β
 run:(γ:Type)→Ω γ→Option γ
def opt:Alg where
 Ω:=Option
 ret:=fun _ x=>some x
 no:=fun _ _=>none
 need:=fun _ c k=>bif c then k else none
 ask:=fun _ c a b=>bif c then a else b
 bnd:=fun _ _ x k=>x.bind k
 alt:=fun _ _ _ x k k'=>x.bind fun y=>match y with| .inl y=>k y| .inr y=>k' y
 run:=fun _ x=>x
theorem z4t {β:Type} {c:Bool} {k:Option β} {b:β} (h:opt.need β c k=some b):c=true∧k=some b:=by
 cases c with
 |false=>cases h
 |true=>exact ⟨rfl,h⟩
theorem z7v {β:Type} {c:Bool} {x y:Option β} {b:β} (h:opt.ask β c x y=some b):(c=true∧x=some b)∨(c=false∧y=some b):=by
 cases c with
 |false=>exact .inr ⟨rfl,h⟩
 |true=>exact .inl ⟨rfl,h⟩
theorem w2k {γ β:Type} {x:Option γ} {k:γ→Option β} {b:β} (h:opt.bnd γ β x k=some b):∃ y,x=some y∧k y=some b:=by
 cases x with
 |none=>cases h
 |some y=>exact ⟨y,rfl,h⟩
def w9a (p:Prim) (rs:List (List D)) (j:Nat):CR→D
 | .int k=> .int k (p.rdI rs 0 j)
 | .bool=> .bool (p.rdB rs 0 j)
 | .str=> .str (p.rdS rs 0 j)
 | .list z=> .list false z (p.rdL rs 0 j)
def x74 (p:Prim) (rs:List (List D)):Nat→List CR→List D
 |_,[]=>[]
 |j,c::cs=>w9a p rs j c::x74 p rs (j+1) cs
def mkC (p:Prim) (es:List (List D)) (i j:Nat):CK→D
 | .int k=> .int k (p.rdI es i j)
 | .bool=> .bool (p.rdB es i j)
 | .str=> .str (p.rdS es i j)
 | .list z=> .list (p.rdF es i j z) z (p.rdL es i j)
 | .other=> .nilp
 | .ref ks=> .ref (x74 p (p.rdR es i j) 0 ks)
def mkR (p:Prim) (es:List (List D)) (i:Nat):Nat→List CK→List D
 |_,[]=>[]
 |j,c::cs=>mkC p es i j c::mkR p es i (j+1) cs
def y8h:List CK→Bool
 |[]=>false
 | .other::_=>true
 |_::l=>y8h l
theorem y6z {c:CR} {d:D} {rs:List (List D)} {j:Nat} (h:y8r c d=true) (he:rdD rs 0 j=d):w6c d (w9a std rs j c):=by
 cases c<;>cases d<;>simp only [y8r,eAi] at h<;>simp only [w9a,std,he]
 ·have:_=_:=eq_of_beq h
  subst this; exact .refl _
 ·exact .refl _
 ·exact .refl _
 ·rename_i z f z' es
  right; left
  refine ⟨z,rfl,?_⟩
  rw [eAq] at h
  rcases h with h|h
  ·exact .inl (eAc h)
  ·exact .inr (by simpa using h)
theorem z8u:∀ (cs:List CR) (ds:List D),z9h cs ds=true→ds.length=cs.length∧∀ (j:Nat) (c:CR),cs[j]?=some c→∃ d,ds[j]?=some d∧y8r c d=true
 |[],[],_=>⟨rfl,by simp⟩
 |[],_::_,h=>by simp [z9h] at h
 |_::_,[],h=>by simp [z9h] at h
 |c::cs,d::ds,h=>by
  simp only [z9h,eAb] at h
  obtain ⟨a,b⟩:=z8u cs ds h.2
  refine ⟨by simp [a],fun j c' hj=>?_⟩
  cases j with
  |zero=>simp at hj; subst hj; exact ⟨d,rfl,h.1⟩
  |succ j=>simpa using b j c' (by simpa using hj)
theorem y8c (p:Prim) (rs:List (List D)):∀ (cs:List CR) (j0:Nat),(x74 p rs j0 cs).length=cs.length∧∀ (j:Nat) (y:D),(x74 p rs j0 cs)[j]?=some y→∃ c,cs[j]?=some c∧y=w9a p rs (j0+j) c
 |[],j0=>⟨rfl,by simp [x74]⟩
 |c::cs,j0=>by
  obtain ⟨a,b⟩:=y8c p rs cs (j0+1)
  refine ⟨by simp [x74,a],fun j y hy=>?_⟩
  cases j with
  |zero=>simp [x74] at hy; exact ⟨c,rfl,hy.symm⟩
  |succ j=>
   obtain ⟨c',h1,h2⟩:=b j y (by simpa [x74] using hy)
   exact ⟨c',by simpa using h1,by rw [h2]; congr 1; omega⟩
def w86 (d:D):CK→D
 | .int k=> .int k (dI d)
 | .bool=> .bool (dB d)
 | .str=> .str (dS d)
 | .list z=> .list (dF z d) z (dL d)
 | .other=> .nilp
 | .ref ks=> .ref (x74 std (dR d) 0 ks)
theorem x9e {c:CK} {d d':D} (h:y6y c d=true) (he:d'=w86 d c):DLe d d':=by
 subst he
 cases c<;>cases d<;>simp only [y6y,eAi] at h
 ·have:_=_:=eq_of_beq h
  subst this; exact .refl _
 ·exact .refl _
 ·exact .refl _
 ·rename_i z f z' es
  left
  rw [eAq] at h
  cases hz:Nat.beq z z' with
  |true=>
   have e:=eAc hz
   subst e
   left
   simp [w86,dF,dL,hz]
  |false=>
   rcases h with h|h
   ·rw [hz] at h; cases h
   ·right; right
    refine ⟨z,?_,by simpa using h⟩
    simp [w86,dF,dL,hz,h]
 ·rename_i ks ds
  obtain ⟨h1,h2⟩:=z8u _ _ h
  obtain ⟨m1,m2⟩:=y8c std (dR (.ref ds)) ks 0
  refine .inr ⟨ds,_,rfl,rfl,by rw [m1,h1],fun j y hy=>?_⟩
  obtain ⟨c,hc,rfl⟩:=m2 j y hy
  obtain ⟨d,hd,hcd⟩:=h2 j c hc
  refine ⟨d,hd,?_⟩
  rw [eAp]
  exact y6z hcd (by simp [rdD,dR,hd])
def w60 (d:D):CK→D
 | .int k=> .int k (dI d)
 | .bool=> .bool (dB d)
 | .str=> .str (dS d)
 | .list z=> .list false z (dL d)
 | .other=> .nilp
 | .ref ks=> .ref (x74 std (dR d) 0 ks)
theorem x6k {c:CK} {d d':D} (h:y6y c d=true) (he:d'=w60 d c):DLe d d':=by
 subst he
 cases c<;>cases d<;>simp only [y6y,eAi] at h
 ·have:_=_:=eq_of_beq h
  subst this; exact .refl _
 ·exact .refl _
 ·exact .refl _
 ·rename_i z f z' es
  left
  right; left
  refine ⟨z,rfl,?_⟩
  rw [eAq] at h
  rcases h with h|h
  ·exact .inl (eAc h)
  ·exact .inr (by simpa using h)
 ·rename_i ks ds
  obtain ⟨h1,h2⟩:=z8u _ _ h
  obtain ⟨m1,m2⟩:=y8c std (dR (.ref ds)) ks 0
  refine .inr ⟨ds,_,rfl,rfl,by rw [m1,h1],fun j y hy=>?_⟩
  obtain ⟨c,hc,rfl⟩:=m2 j y hy
  obtain ⟨d,hd,hcd⟩:=h2 j c hc
  refine ⟨d,hd,?_⟩
  rw [eAp]
  exact y6z hcd (by simp [rdD,dR,hd])
theorem y0a:∀ (cs:List CK) (ds:List D),z3k cs ds=true→ds.length=cs.length∧∀ (j:Nat) (c:CK),cs[j]?=some c→∃ d,ds[j]?=some d∧y6y c d=true
 |[],[],_=>⟨rfl,by simp⟩
 |[],_::_,h=>by simp [z3k] at h
 |_::_,[],h=>by simp [z3k] at h
 |c::cs,d::ds,h=>by
  simp only [z3k,eAb] at h
  obtain ⟨a,b⟩:=y0a cs ds h.2
  refine ⟨by simp [a],fun j c' hj=>?_⟩
  cases j with
  |zero=>simp at hj; subst hj; exact ⟨d,rfl,h.1⟩
  |succ j=>simpa using b j c' (by simpa using hj)
theorem x73 (p:Prim) (es:List (List D)) (i:Nat):∀ (cs:List CK) (j0:Nat),(mkR p es i j0 cs).length=cs.length∧∀ (j:Nat) (y:D),(mkR p es i j0 cs)[j]?=some y→∃ c,cs[j]?=some c∧y=mkC p es i (j0+j) c
 |[],j0=>⟨rfl,by simp [mkR]⟩
 |c::cs,j0=>by
  obtain ⟨a,b⟩:=x73 p es i cs (j0+1)
  refine ⟨by simp [mkR,a],fun j y hy=>?_⟩
  cases j with
  |zero=>simp [mkR] at hy; exact ⟨c,rfl,hy.symm⟩
  |succ j=>
   obtain ⟨c',h1,h2⟩:=b j y (by simpa [mkR] using hy)
   exact ⟨c',by simpa using h1,by rw [h2]; congr 1; omega⟩
theorem x3c {es:List (List D)} {i:Nat} {ck:List CK} (h:std.rowOk es i ck=true):x9x es i (mkR std es i 0 ck):=by
 simp only [std] at h
 split at h
 ·rename_i r hr
  obtain ⟨h1,h2⟩:=y0a _ _ h
  obtain ⟨m1,m2⟩:=x73 std es i ck 0
  refine ⟨r,hr,by rw [m1,h1],fun j y hy=>?_⟩
  obtain ⟨c,hc,rfl⟩:=m2 j y hy
  obtain ⟨d,hd,hcd⟩:=h2 j c hc
  refine ⟨d,hd,x9e hcd ?_⟩
  rw [eAp]
  have e:rdD es i j=d:=by simp [rdD,hr,hd]
  cases c<;>simp only [mkC,w86,std,e]
 ·cases h
def v0c (p:Prim) (es:List (D×D)) (ks:List SK) (ka:Bool) (k:D) (j:Nat):CK→D
 | .int kk=> .int kk (p.mI es ks ka k j)
 | .bool=> .bool (p.mB es ks ka k j)
 | .str=> .str (p.mS es ks ka k j)
 | .list z=> .list false z (p.mL es ks ka k j)
 | .other=> .nilp
 | .ref cs=> .ref (x74 p (p.mR es ks ka k j) 0 cs)
def x70 (p:Prim) (es:List (D×D)) (ks:List SK) (ka:Bool) (k:D):Nat→List CK→List D
 |_,[]=>[]
 |j,c::cs=>v0c p es ks ka k j c::x70 p es ks ka k (j+1) cs
theorem x3w (p:Prim) (es:List (D×D)) (ks:List SK) (ka:Bool) (k:D):∀ (cs:List CK) (j0:Nat),(x70 p es ks ka k j0 cs).length=cs.length∧∀ (j:Nat) (y:D),(x70 p es ks ka k j0 cs)[j]?=some y→∃ c,cs[j]?=some c∧y=v0c p es ks ka k (j0+j) c
 |[],j0=>⟨rfl,by simp [x70]⟩
 |c::cs,j0=>by
  obtain ⟨a,b⟩:=x3w p es ks ka k cs (j0+1)
  refine ⟨by simp [x70,a],fun j y hy=>?_⟩
  cases j with
  |zero=>simp [x70] at hy; exact ⟨c,rfl,hy.symm⟩
  |succ j=>
   obtain ⟨c',h1,h2⟩:=b j y (by simpa [x70] using hy)
   exact ⟨c',by simpa using h1,by rw [h2]; congr 1; omega⟩
def mkV (a:Bool) (l:List D):D:=
 match a,l with
 |true,l=> .agg l
 |false,[x]=>x
 |false,_=> .nilp
theorem w1q (ks:List SK) (ka:Bool) (k:D):∀ (es:List (D×D)) (i:Nat),z4w std ks ka k es i=x0l ks ka k es i:=by
 have hc:∀ (ks:List SK) (xs ys:List D),z05 std ks xs ys=z9f ks xs ys:=by
  intro ks
  induction ks with
  |nil=>intro xs ys; cases xs<;>cases ys<;>rfl
  |cons k ks ih=>
   intro xs ys
   cases k<;>cases xs<;>(try rfl)<;>rename_i x xs<;>cases x<;>(try rfl)<;>cases ys<;>(try rfl)<;>rename_i y ys<;>cases y<;>(try rfl)<;>simp only [z05,z9f,ih]<;>rfl
 intro es
 induction es with
 |nil=>intro i; rfl
 |cons p es ih=>intro i; obtain ⟨k',v⟩:=p; simp only [z4w,x0l,hc,ih]
structure Env where
 T:TypeId→Option TI
 B:FuncId→Option w20
 C:TypeId→List CK
 CM:TypeId→Bool×List CK
 A:Nat→List Bool→Option Code
 dt:FuncId→Bool
 tl:Bool
 tk:Bool
 fz:FuncId→Bool
 cl:Bool
 G:Nat→Option (List D)
def w6e:List (List CK)→Nat→List CK
 |[],_=>[]
 |x::_,0=>x
 |_::l,n+1=>w6e l n
def w85:List (List CK)→Nat→List CK→List (List CK)
 |[],0,c=>[c]
 |[],n+1,c=>[]::w85 [] n c
 |_::l,0,c=>c::l
 |x::l,n+1,c=>x::w85 l n c
def v1l (E:Env) (t:TypeId):List CK:=
 match E.T t with
 |some ti=>match ti.zero with
  | .int k _::_=>[.int k]
  |_=>[]
 |none=>[]
def w1a (E:Env) (K:List (List CK)) (env:List (Nat×AV)):Op→List CK
 | .load t a=>match z0j env a with
  | .ptr id _ _=>w6e K id
  | .bptr id _=>w6e K id
  | .wptr _ _=>v1l E t
  |_=>[]
 | .store _ a _=>match z0j env a with
  | .ptr id _ _=>w6e K id
  | .bptr id _=>w6e K id
  |_=>[]
 | .slice _ a _ _ _=>match z0j env a with
  | .bptr id _=>w6e K id
  |_=>[]
 | .indexAddr t _ _=>E.C t
 |_=>[]
def w4y (E:Env) (K:List (List CK)) (env:List (Nat×AV)) (op:Op):List CK:=bif E.cl then [.other] else w1a E K env op
def w6j (E:Env) (t:TypeId):Option (List CK):=
 match E.T t with
 |some ti=>match x6t ti with
  |some k=>some [.int k]
  |none=>none
 |none=>none
def newK (E:Env):Op→Option (List CK)
 | .alloc t=>w6j E t
 | .box t _=>w6j E t
 | .buildSlice t _ _=>some (E.C t)
 | .makeSlice t _ _=>some (E.C t)
 | .call ⟨.builtin .append,_,ts⟩=>match ts.toList with
  |t::_=>some (E.C t)
  |_=>none
 |_=>none
def x6c (A:Alg) (β:Type) (p:Prim) (E:Env) (t:TypeId) (h:List AO) (m k:AV) (c:Bool→List D→List AV→A.Ω β):A.Ω β:=
 match E.T t with
 |some ti=>match ti.desc,k with
  | .map ks ka ez, .d kd=>match m with
   | .d .nilm=>A.need β ((z1h kd==ka)&&z04 ks (z0q kd)) (c false [] [])
   | .map id=>match z0e h id with
    | .map es=>A.need β (p.mOk es ks ka kd (E.CM t).1 (E.CM t).2) (A.ask β (p.mhas es ks ka kd) (c true [.int .i64 (p.ofNat (p.mpos es ks ka kd)),mkV (E.CM t).1 (x70 p es ks ka kd 0 (E.CM t).2)] []) (c false [] []))
    |_=>A.no β 11
   |_=>A.no β 12
  |_,_=>A.no β 13
 |none=>A.no β 14
def w1s (A:Alg) (β:Type) (p:Prim) (ck:List CK) (es:List (List D)) (i:Nat) (c:List D→A.Ω β):Nat→Nat→A.Ω β
 |0,_=>c []
 |n+1,j=>match mkR p es (bif Nat.beq j 0 then i else p.add i j) 0 ck with
  |[x]=>A.need β (p.rowOk es (bif Nat.beq j 0 then i else p.add i j) ck) (w1s A β p ck es i (fun r=>c (x::r)) n (j+1))
  |_=>A.no β 19
def x4y (es:List (List D)):Nat→Nat→Option (List D)
 |_,0=>some []
 |i,n+1=>match z1j es i,x4y es (i+1) n with
  |some [x],some l=>some (x::l)
  |_,_=>none
def w5k (A:Alg) (β:Type) (p:Prim) (dt:Bool) (ck:List CK) (w:x97) (c:Bool→List D→List AV→A.Ω β):A.Ω β:=
 match w with
 | .none=>c false (bif dt then [.nilp] else []) []
 | .d es i=>match y8h ck with
  |false=>A.need β (p.rowOk es i ck) (c false (mkR p es i 0 ck) [])
  |true=>match z1j es i with
   |some r=>c false r []
   |none=>A.no β 15
 | .n es i n=>match y8h ck with
  |false=>w1s A β p ck es i (fun r=>c false r []) n 0
  |true=>match x4y es i n with
   |some r=>c false r []
   |none=>A.no β 20
 | .a es i=>match z1j es i with
  |some r=>c false [] r
  |none=>A.no β 16
 | .b x=>A.ask β x (c true (bif dt then [.nilp] else []) []) (c false [] [])
 | .m _=>A.no β 17
def w5l (A:Alg) (β:Type) (p:Prim) (dt:Bool) (E:Env) (K:List (List CK)) (env:List (Nat×AV)) (h:List AO) (op:Op) (c:Bool→List D→List AV→A.Ω β):A.Ω β:=
 match op with
 | .lookup t m k _=>x6c A β p E t h (z0j env m) (z0j env k) c
 | .mapUpdate t m k _=>x6c A β p E t h (z0j env m) (z0j env k) c
 | .call ⟨.builtin .delete,args,ts⟩=>match ts.toList,z0s env args.toList with
  |t::_,[m,k]=>x6c A β p E t h m k c
  |_,_=>A.no β 18
 |op=>w5k A β p dt (w4y E K env op) (z1q p E.T env h op) c
end Go.Am
end
section
namespace Go.Am
mutual
def y1n:AV→Bool
 | .bot=>true
 | .d x=>z6v x
 | .agg l=>x8o l
 | .tuple l=>x8o l
 |_=>false
def x8o:List AV→Bool
 |[]=>true
 |x::l=>y1n x&&x8o l
end
theorem y3w:∀ {l:List D},y3x l=true→∀ (i:Nat) (d:D),l[i]?=some d→z6v d=true
 |[],_,i,d,h=>by simp at h
 |x::l,h,i,d,hi=>by
  simp only [y3x,eAb] at h
  cases i with
  |zero=>simp at hi; subst hi; exact h.1
  |succ i=>exact y3w h.2 i d (by simpa using hi)
theorem y4i:∀ {l:List AV},x8o l=true→∀ (i:Nat) (d:AV),l[i]?=some d→y1n d=true
 |[],_,i,d,h=>by simp at h
 |x::l,h,i,d,hi=>by
  simp only [x8o,eAb] at h
  cases i with
  |zero=>simp at hi; subst hi; exact h.1
  |succ i=>exact y4i h.2 i d (by simpa using hi)
theorem z6u {O O':Nat→Prop} {w w':World} {x:D} {v:Value} (h:z02 O w x v):z6v x=true→z02 O' w' x v:=by
 induction h with
 |bool b=>intro _; exact .bool b
 |int k n=>intro _; exact .int k n
 |str s=>intro _; exact .str s
 |nilp=>intro _; exact .nilp
 |nilm=>intro _; exact .nilm
 |nilf=>intro _; exact .nilf
 |nili=>intro _; exact .nili
 |agg ds vs hl h ih=>
  intro hf
  exact .agg ds vs hl fun i d hd=>ih i d hd (y3w (by simpa only [z6v] using hf) i d hd)
 |lnil f z a c h=>intro _; exact .lnil f z a c h
 |list full es b o z c hz hne hO hlc hf hsz cell h1 hc h ih=>
  intro hfl
  simp only [z6v,List.isEmpty_iff] at hfl
  exact absurd hfl hne
 |ref=>intro hf; simp [z6v] at hf
theorem x8q {ρ ρ':Rho} {O O':Nat→Prop} {w w':World} {x:AV} {v:Value} (h:z0i ρ O w x v):y1n x=true→z0i ρ' O' w' x v:=by
 induction h with
 |bot v=>intro _; exact .bot v
 |d h=>intro hf; exact .d (z6u h (by simpa only [y1n] using hf))
 |agg xs vs hl h ih=>intro hf; exact .agg xs vs hl fun i x hx=>ih i x hx (y4i (by simpa only [y1n] using hf) i x hx)
 |tuple xs vs hl h ih=>intro hf; exact .tuple xs vs hl fun i x hx=>ih i x hx (y4i (by simpa only [y1n] using hf) i x hx)
 |_=>intro hf; simp [y1n] at hf
def x3x (l:List AV):AV:=
 match y8x l with
 |some ds=> .d (.agg ds)
 |none=> .agg l
mutual
def bV (p:Prim) (h:List AO):AV→Bool×AV
 | .bot=>(true, .bot)
 | .d x=>(true, .d x)
 | .slice id z off len cap=>match z0e h id with
  | .row es=>(p.leN (p.add off len) (p.len es), .d (.list false z (p.cut es off len)))
  |_=>(true, .bot)
 | .bptr id off=>match z0e h id with
  | .box cells=>match y8x cells with
   |some ds=>(true, .lptr ds off)
   |none=>(true, .bot)
  | .row es=>(true, .wptr es off)
  |_=>(true, .bot)
 | .clo fn fs cs=>(p.and (bL p h fs).1 (bL p h cs).1, .clo fn (bL p h fs).2 (bL p h cs).2)
 | .agg l=>((bL p h l).1,x3x (bL p h l).2)
 | .tuple l=>((bL p h l).1, .tuple (bL p h l).2)
 |_=>(true, .bot)
def bL (p:Prim) (h:List AO):List AV→Bool×List AV
 |[]=>(true,[])
 |x::l=>(p.and (bV p h x).1 (bL p h l).1,(bV p h x).2::(bL p h l).2)
end
theorem y64 (p:Prim) (h:List AO):∀ l,(bL p h l).2.length=l.length
 |[]=>by simp [bL]
 |x::l=>by simp [bL,y64 p h l]
theorem y65 (h:List AO):∀ (l:List AV),(bL std h l).1=true→∀ (i:Nat) (y:AV),(bL std h l).2[i]?=some y→∃ x,l[i]?=some x∧y=(bV std h x).2∧(bV std h x).1=true
 |[],_,i,y,hy=>by simp [bL] at hy
 |x::l,hc,i,y,hy=>by
  simp only [bL,std,eAb] at hc
  cases i with
  |zero=>simp [bL] at hy; exact ⟨x,rfl,hy.symm,hc.1⟩
  |succ i=>
   obtain ⟨x',h1,h2⟩:=y65 h l hc.2 i y (by simpa [bL] using hy)
   exact ⟨x',by simpa using h1,h2⟩
mutual
theorem w2n (p:Prim) {h h':List AO}:(x:AV)→(∀ id∈tid x,z0e h id=z0e h' id)→bV p h x=bV p h' x
 | .bot,_=>rfl
 | .d _,_=>rfl
 | .slice id z off len cap,hh=>by simp only [bV,hh id (by simp [tid])]
 | .clo fn fs cs,hh=>by
  simp only [bV,z9i p fs (fun id hid=>hh id (by simp [tid,hid])),z9i p cs (fun id hid=>hh id (by simp [tid,hid]))]
 | .agg l,hh=>by simp only [bV,z9i p l (fun id hid=>hh id (by simpa [tid] using hid))]
 | .tuple l,hh=>by simp only [bV,z9i p l (fun id hid=>hh id (by simpa [tid] using hid))]
 | .bptr id off,hh=>by simp only [bV,hh id (by simp [tid])]
 | .ptr _ _ _,_=>rfl
 | .lptr _ _,_=>rfl
 | .wptr _ _,_=>rfl
 | .perm _,_=>rfl
 | .map _,_=>rfl
 | .yld _,_=>rfl
 | .iface _ _,_=>rfl
theorem z9i (p:Prim) {h h':List AO}:(l:List AV)→(∀ id∈y2n l,z0e h id=z0e h' id)→bL p h l=bL p h' l
 |[],_=>rfl
 |x::l,hh=>by
  simp only [bL,w2n p x (fun id hid=>hh id (by simp [y2n,hid])),z9i p l (fun id hid=>hh id (by simp [y2n,hid]))]
end
section
variable {P:Program} {ρ:Rho} {h:List AO} {w:World}
theorem y6a {O:Nat→Prop} (xs:List AV) (vs:Array Value) (hl:vs.size=xs.length) (hh:∀ (i:Nat) (x:AV),xs[i]?=some x→z0i ρ O w x (vs.getD i undef)):z0i ρ O w (x3x xs) (.agg vs):=by
 unfold x3x
 split
 ·rename_i ds hds
  have e:=z1i hds
  refine .d (.agg _ _ (by rw [hl,e,z0o]) fun i d hd=>?_)
  have:=hh i (.d d) (by rw [e,z03,hd]; rfl)
  cases this; assumption
 ·exact .agg _ _ hl hh
theorem z30 {b:Nat}:z0c (ρ.only fun _=>false) [] b↔ρ.fr b:=by
 constructor
 ·rintro (hb|⟨id,L,hL,_⟩)
  ·exact hb
  ·obtain ⟨a,_⟩:=z1g.1 hL; cases a
 ·exact fun hb=> .inl hb
theorem w8q (hr:z0a P ρ h w) {x:AV} {v:Value} (hv:z0i ρ (z0c ρ h) w x v):(bV std h x).1=true→z0i (ρ.only fun _=>false) (z0c (ρ.only fun _=>false) []) w (bV std h x).2 v:=by
 have hk:z3s (z0c ρ h) (z0c (ρ.only fun _=>false) []) w w:=⟨eAk _,fun _ _ _=>rfl,fun b _ hb=> .inl (z30.1 hb),fun _ _ h=>h,z0m.refl _⟩
 have hk2:z3s (z0c (ρ.only fun _=>false) (z2t h (fun _=>false) 0 h)) (z0c (ρ.only fun _=>false) []) w w:=⟨eAk _,fun _ _ _=>rfl,fun b _ hb=> .inl (z30.1 hb),fun _ _ h=>h,z0m.refl _⟩
 have sl:∀ {id z off len:Nat} {cap:Option Nat} {v:Value},z0i ρ (z0c ρ h) w (.slice id z off len cap) v→(bV std h (.slice id z off len cap)).1=true→z0i (ρ.only fun _=>false) (z0c (ρ.only fun _=>false) []) w (bV std h (.slice id z off len cap)).2 v:=by
  intro id z off len cap v hv hc
  have:=z8z (kp:=fun _=>false) hr hv
  simp only [z2f,cond_false] at this
  simp only [bV] at hc⊢
  split
  ·rename_i es hes
   rw [hes] at hc this
   simp only at hc
   simp only [frz] at this
   have hle:Nat.ble (off+len) es.length=true:=hc
   rw [hle] at this
   simp only [cond_true] at this
   refine .d ?_
   cases this with|d hd=>
   have hd:=hd.keep hk2
   show z02 _ w (.list false z (x4n es off len)) v
   generalize x4n es off len=l at hd
   cases hd with
   |lnil _ _ a c h=>exact .lnil _ _ _ _ (by simp)
   |list _ _ b o _ c hz hne hO hlc hf hsz cell h1 hc h=>exact .list false _ b o _ c hz hne hO hlc (by simp) hsz cell h1 hc h
  ·exact .bot _
 induction hv with
 |bot v=>intro _; exact .bot v
 |d h=>intro _; exact .d (h.keep hk)
 |bptr id off L hL=>
  intro _
  simp only [bV]
  split
  ·rename_i cells hcells
   split
   ·rename_i ds hds
    obtain ⟨hblk,hob⟩:=hr.obj id L hL
    rw [hcells] at hob
    obtain ⟨hbase,c,t,hcb,hj⟩:=hob
    have e:=z1i hds
    have hget:∀ k x,ds[k]?=some x→∃ u,c[L.base+k]?=some u∧z02 (z0c ρ h) w x u:=fun k x hx=>by
     obtain ⟨u,hu,hr⟩:=hj k (.d x) (by rw [e,z03,hx]; rfl)
     cases hr with|d hr=>exact ⟨u,hu,hr⟩
    refine .lptr ds off L.blk L.base hblk (fun hb=>hr.sep id L hL (by rw [hcells]; rfl) (z30.1 hb)) (fun k=>(c[L.base+k]?).getD undef) (fun k hk=>?_) (fun k x hx=>?_)
    ·obtain ⟨u,hu,_⟩:=hget k _ (eAa hk)
     rw [hu]; exact y4p hcb hu
    ·obtain ⟨u,hu,h2⟩:=hget k x hx
     rw [hu]; exact h2.keep hk
   ·exact .bot _
  ·rename_i es hes
   obtain ⟨hblk,hob⟩:=hr.obj id L hL
   rw [hes] at hob
   obtain ⟨_,c,t,hcb,hlen,hj⟩:=hob
   refine .wptr es off L.blk L.base L.esz hblk (fun hb=>hr.sep id L hL (by rw [hes]; rfl) (z30.1 hb)) hlen fun i r j x hi hx=>?_
   obtain ⟨v,hv,_,hrel⟩:=hj i r j x hi hx
   exact ⟨v,y4p hcb hv,hrel.keep hk⟩
  ·exact .bot _
 |slice id z off len cap L a c hL hz ha hc hl=>exact sl (.slice id z off len cap L a c hL hz ha hc hl)
 |nils id z off cap a hc=>exact sl (.nils id z off cap a hc)
 |clo fn fs cs vf vc hl1 hl2 h1 h2 ih1 ih2=>
  intro hc
  simp only [bV,std,eAb] at hc
  simp only [bV]
  refine .clo fn _ _ vf vc (by rw [y64]; exact hl1) (by rw [y64]; exact hl2) (fun i y hy=>?_) (fun i y hy=>?_)
  ·obtain ⟨x,hx,rfl,hb⟩:=y65 h fs hc.1 i y hy
   exact ih1 i x hx hb
  ·obtain ⟨x,hx,rfl,hb⟩:=y65 h cs hc.2 i y hy
   exact ih2 i x hx hb
 |agg xs vs hl hh ih=>
  intro hc
  simp only [bV] at hc⊢
  refine y6a _ vs (by rw [y64]; exact hl) (fun i y hy=>?_)
  obtain ⟨x,hx,rfl,hb⟩:=y65 h xs hc i y hy
  exact ih i x hx hb
 |tuple xs vs hl hh ih=>
  intro hc
  simp only [bV] at hc⊢
  refine .tuple _ vs (by rw [y64]; exact hl) (fun i y hy=>?_)
  obtain ⟨x,hx,rfl,hb⟩:=y65 h xs hc i y hy
  exact ih i x hx hb
 |_=>intro _; exact .bot _
theorem w8n {f : FuncId} {args : List AV} {r : AV} {hp : List AO} (hb : w56 P f (bL std hp args).2 r) (hc : (bL std hp args).1 = true) (hf : y1n r = true) : z2z P f args hp r hp := ⟨by
  intro ρ vs w cs hh hdm har
  let ρc : Rho := ρ.only fun _ => false
  have hno : ∀ id L, ρc id = some L → False := fun id L hL => by obtain ⟨a, _⟩ := z1g.1 hL; cases a
  have hc0 : z0a P ρc [] w := ⟨fun id L hL => (hno id L hL).elim, fun id id' L L' hL => (hno id L hL).elim, fun b hb => hh.fr b hb, fun id L hL => (hno id L hL).elim, hh.gl.sub fun b hb => .inl (z30.1 hb)⟩
  obtain ⟨ρ', v, w', fr, hst, hfn, hlv, hv, hh', hdm', hx⟩ := hb.run ρc vs w cs hc0 (fun id hid => by
    cases hq : ρc id with
    | none => exact absurd hq hid
    | some L => exact (hno id L hq).elim) ⟨by rw [y64]; exact har.1, fun i y hi => by
      obtain ⟨x, hx, rfl, hb⟩ := y65 hp args hc i y hi
      exact w8q hh (har.2 i x hx) hb⟩
  have hold : ∀ b, b < w.heap.size → w'.heap[b]? = w.heap[b]? := by
    intro b hb
    by_cases ho : ρ.fr b
    · exact hx.frs b ho
    · exact hx.keep.frame b hb (fun h => ho (z30.1 h))
  have hk : z3s (z0c ρ hp) (z0c ρ hp) w w' :=
    { size := hx.keep.size
      frame := fun b hb _ => hold b hb
      own := fun b _ h => h
      shape := hx.keep.shape
      drawn := hx.keep.drawn }
  refine ⟨ρ, v, w', fr, hst, hfn, hlv, x8q hv hf, hh.of_keep hk (fun b hb => hold b (z50 hh hb)), hdm, ?_⟩
  exact { os := hx.os, tape := hx.tape, output := hx.output, keep := hk, rho := fun _ _ => rfl, fr := rfl, frs := fun b hf => hold b (hh.fr b hf) }⟩
end
theorem x4e {x:AV} (h:y84 x):tid x=[]:=by
 have key:∀ l:List AV,(∀ (i:Nat) (x:AV),l[i]?=some x→tid x=[])→y2n l=[]:=by
  intro l
  induction l with
  |nil=>intro _; rfl
  |cons x l ih=>intro h; simp only [y2n,h 0 x rfl,ih (fun i x hx=>h (i+1) x (by simpa using hx)),eCn]
 induction h with
 |bot=>rfl
 |d x=>rfl
 |tuple xs hx ih=>simp only [tid]; exact key _ ih
 |agg xs hx ih=>simp only [tid]; exact key _ ih
 |clo fn fs cs h1 h2 ih1 ih2=>simp only [tid,key _ ih1,key _ ih2,eCn]
end Go.Am
end
section
namespace Go.Am
theorem z4x:∀ (ks:List SK) (l:List D),z04 ks l=true→z05 std ks l l=some true
 |[],[],_=>rfl
 | .i::ks, .int k a::r,h=>by
  have:=z4x ks r h
  simp only [z05,beq_self_eq_true,cond_true,this]
  simp [std,z3o]
 | .b::ks, .bool a::r,h=>by
  have:=z4x ks r h
  simp only [z05,this]
  simp [std]
 | .s::ks, .str a::r,h=>by
  have:=z4x ks r h
  simp only [z05,this]
  simp [std]
 | .i::ks,[],h| .b::ks,[],h| .s::ks,[],h=>by simp [z04] at h
 |[],_::_,h=>by simp [z04] at h
 | .i::ks, .bool _::r,h| .i::ks, .str _::r,h| .i::ks, .agg _::r,h| .i::ks, .list _ _ _::r,h| .i::ks, .nilm::r,h| .i::ks, .ref _::r,h=>by simp [z04] at h
 | .b::ks, .int _ _::r,h| .b::ks, .str _::r,h| .b::ks, .agg _::r,h| .b::ks, .list _ _ _::r,h| .b::ks, .nilm::r,h| .b::ks, .ref _::r,h=>by simp [z04] at h
 | .s::ks, .int _ _::r,h| .s::ks, .bool _::r,h| .s::ks, .agg _::r,h| .s::ks, .list _ _ _::r,h| .s::ks, .nilm::r,h| .s::ks, .ref _::r,h=>by simp [z04] at h
theorem y6p {ks:List SK} {ka:Bool} {k x:D} (hk:z1h k=ka) (hks:z04 ks (z0q k)=true):∀ (es:List (D×D)) (i:Nat),z4w std ks ka k es i=some none→z4w std ks ka k (es++[(k,x)]) i=some (some (i+es.length,x))
 |[],i,_=>by simp [z4w,hk,z4x _ _ hks]
 |(k',v)::r,i,h=>by
  simp only [z4w,List.cons_append] at h⊢
  cases hc:(z1h k==ka)&&(z1h k'==ka) with
  |false=>rw [hc] at h; cases h
  |true=>
   rw [hc] at h
   simp only [cond_true] at h⊢
   cases hb:z05 std ks (z0q k) (z0q k') with
   |none=>rw [hb] at h; cases h
   |some b=>
    rw [hb] at h
    cases b with
    |true=>cases h
    |false=>
     simp only at h⊢
     rw [y6p hk hks r (i+1) h]
     simp; omega
theorem y8j {ks:List SK} {ka:Bool} {k:D}:∀ (es:List (D×D)) (i n:Nat) (v:D),z4w std ks ka k es i=some (some (n,v))→i≤n∧n - i<es.length
 |[],i,n,v,h=>by simp [z4w] at h
 |(k',u)::r,i,n,v,h=>by
  simp only [z4w] at h
  cases hc:(z1h k==ka)&&(z1h k'==ka) with
  |false=>rw [hc] at h; cases h
  |true=>
   rw [hc] at h
   simp only [cond_true] at h
   cases hb:z05 std ks (z0q k) (z0q k') with
   |none=>rw [hb] at h; cases h
   |some b=>
    rw [hb] at h
    cases b with
    |true=>simp at h; obtain ⟨rfl,_⟩:=h; simp
    |false=>
     have:=y8j r (i+1) n v h
     simp; omega
theorem x0m {ks:List SK} {ka:Bool} {k y:D} (hk:z1h k=ka) (hks:z04 ks (z0q k)=true):∀ (es:List (D×D)) (i n:Nat) (v:D),z4w std ks ka k es i=some (some (n,v))→z4w std ks ka k (es.set (n - i) (k,y)) i=some (some (n,y))
 |[],i,n,v,h=>by simp [z4w] at h
 |(k',u)::r,i,n,v,h=>by
  have hlt:=y8j _ _ _ _ h
  simp only [z4w] at h
  cases hc:(z1h k==ka)&&(z1h k'==ka) with
  |false=>rw [hc] at h; cases h
  |true=>
   rw [hc] at h
   simp only [cond_true] at h
   cases hb:z05 std ks (z0q k) (z0q k') with
   |none=>rw [hb] at h; cases h
   |some b=>
    rw [hb] at h
    cases b with
    |true=>
     simp at h; obtain ⟨rfl,_⟩:=h
     simp [z4w,hk,z4x _ _ hks]
    |false=>
     simp only at h
     have h2:=y8j r (i+1) n v h
     have e:n - i=(n - (i+1))+1:=by omega
     rw [e,List.set_cons_succ]
     simp only [z4w,hc,hb,cond_true]
     exact x0m hk hks r (i+1) n v h
theorem z2s.mod {en:Array MapEntry} {clk:Nat} (h:z2s en clk) (i:Nat) (f:MapEntry→MapEntry) (hf:∀ e,(f e).born=e.born):z2s (en.modify i f) clk:=by
 have e1:(en.modify i f).toList.map (·.born)=en.toList.map (·.born):=by
  apply eBd
  intro j
  simp only [eAg,eAj,eBr]
  split
  ·rename_i hij; subst hij; cases en[i]?<;>simp [hf]
  ·rfl
 refine ⟨fun x hx=>?_,by rw [e1]; exact h.2⟩
 have:x.born∈en.toList.map (·.born):=by rw [←e1]; exact eBb.2 ⟨x,hx,rfl⟩
 obtain ⟨y,hy,e⟩:=eBb.1 this
 rw [←e]; exact h.1 y hy
theorem z2s.find {en : Array MapEntry} {clk : Nat} (h : z2s en clk) {i : Nat} {e : MapEntry} (he : en[i]? = some e) : en.findIdx? (fun x => (x.born : Int) == (e.born : Int)) = some i := by
  have hi : i < en.size := (eAe.1 he).1
  have hei : en[i] = e := (eAe.1 he).2
  rw [Array.findIdx?_eq_some_iff_getElem]
  refine ⟨hi, by simp [hei], fun j hj => ?_⟩
  intro hc
  have e1 : en[j].born = e.born := by have hc : (en[j].born : Int) = e.born := by simpa using hc
                                      exact Int.ofNat.inj hc
  have hn := (eCa.1 h.2) j i (by simp; omega) (by simpa using hi) hj
  simp only [List.getElem_map, Array.getElem_toList] at hn
  rw [e1, hei] at hn
  exact hn rfl
def ent (es:List (D×D)) (q:Bool) (r:List D) (k ez:D):List (D×D):=
 match q,r with
 |true,[.int _ i,v]=>std.mset es (std.nat i) k v
 |_,_=>std.madd es k ez
def z5l (q:Bool) (r:List D) (ez:D):D:=match q,r with|true,[_,v]=>v|_,_=>ez
def w83 (p:Prim) (es:List (D×D)) (q:Bool) (r:List D) (kd x:D):List (D×D):=match q,r with|true,[.int _ i,_]=>p.mset es (p.nat i) kd x|_,_=>p.madd es kd x
def z7c:=w83 std
section
variable {P:Program} {ρ:Rho} {h:List AO} {w:World}
theorem x2j {T:TypeId} {ti:TI} (ht:z5t P T ti) (hr:z0a P ρ h w) {id:Nat} {kd:D} {vm vk:Value} (hm:z0i ρ (z0c ρ h) w (.map id) vm) (hkd:z02 (z0c ρ h) w kd vk) {es:List (D×D)} (hob:z0e h id= .map es) {ks:List SK} {ka:Bool} {ez:D} (hdesc:ti.desc= .map ks ka ez)
  {q:Bool} {r:List D} (hw:y81 q r (z2k std ti h (.map id) (.d kd))):
  ∃ (L:Loc) (en0:Array MapEntry) (clk0:Nat) (en:Array MapEntry) (clk:Nat) (z:Value) (n:Nat) (e:MapEntry) (old:D),ρ id=some L∧vm= .map (some L.blk)∧w.heap[L.blk]?=some (.map en0 clk0)∧z2s en clk∧z9q (z0c ρ h) w (ent es q r kd ez) en.toList∧en[n]?=some e∧
   (Instr.mapEntry T vm vk).run P w= .ok (.tuple #[z,goInt e.born]) (World.setObj w L.blk (.map en clk))∧(ent es q r kd ez)[n]?=some (kd,old)∧
   y81 true [.int .i64 (n:Nat),old] (some (some (n,old)))∧z4w std ks ka kd (ent es q r kd ez) 0=some (some (n,old))∧(∀ x,z7c es q r kd x=std.mset (ent es q r kd ez) n kd x)∧
   (old=z5l q r ez):=by
 have hkin:∀ fr,z2k std ti h (.map id) (.d kd)=some fr→z1h kd=ka∧z04 ks (z0q kd)=true∧z4w std ks ka kd es 0=some fr:=by
  intro fr hf
  unfold z2k at hf
  rw [hdesc] at hf
  simp only at hf
  cases hc:(z1h kd==ka)&&z04 ks (z0q kd) with
  |false=>rw [hc] at hf; cases hf
  |true=>
   rw [hc] at hf
   simp only [cond_true,hob] at hf
   simp only [eAb,beq_iff_eq] at hc
   exact ⟨hc.1,hc.2,hf⟩
 rcases hw with ⟨hf,rfl⟩|⟨i,v,v',hf,hle,rfl,rfl⟩
 ·obtain ⟨k1,k2,k3⟩:=hkin _ hf
  obtain ⟨K,E,ks',ka',ez',hd,hdesc',hz,_,hck,hks,hcase⟩:=z9e ht hr hm (.d hkd) hf
  rw [hdesc] at hdesc'; cases hdesc'
  obtain ⟨zv,hzr,hzd⟩:=y20 (P:=P) (w:=w) hz (O:=z0c ρ h)
  rcases hcase with ⟨rfl,_,hfk⟩|⟨id',L,es',en,clk,e1,rfl,hL,hob',hcb,hent,rr,hfk,hres⟩
  ·cases hm
  ·cases e1
   rw [hob] at hob'; cases hob'
   simp only [y1x] at hres; subst hres
   have hsz:en.size=es.length:=by rw [←eBa]; exact hent.1
   refine ⟨L,en,clk,en.push { key:=vk,val:=zv,born:=clk },clk+1,zv,en.size,{ key:=vk,val:=zv,born:=clk },ez,hL,rfl,hcb,(hr.born hL hob hcb).push _ _,⟨?_,fun j a c hj=>?_⟩,by simp,?_,?_, .inr ⟨_,_,_,rfl, .inl (DLe.refl _),rfl,rfl⟩,?_,?_,rfl⟩
   ·simp [ent,std]; simpa using hent.1
   ·simp only [ent,std] at hj
    rw [eAs] at hj
    simp only [Array.toList_push]
    rw [eAs,hent.1]
    split at hj
    ·rename_i hlt; rw [if_pos hlt]; exact hent.2 j a c hj
    ·rename_i hge
     rw [if_neg hge]
     have:j - es.length=0:=by
      cases hq:j - es.length with
      |zero=>rfl
      |succ n=>rw [hq] at hj; simp at hj
     rw [this] at hj⊢
     simp at hj; obtain ⟨rfl,rfl⟩:=hj
     exact ⟨_,rfl,hkd,hzd⟩
   ·simp [Instr.mapEntry,z0d hd,z14 hcb,hck,hfk,hzr,z4h hcb]
   ·simp [ent,std,hsz]
   ·have:=y6p (x:=ez) k1 k2 es 0 k3
    simpa [ent,std,hsz] using this
   ·intro x; simp [ent,z7c,w83,std,hsz]
 ·obtain ⟨k1,k2,k3⟩:=hkin _ hf
  obtain ⟨K,E,ks',ka',ez',hd,hdesc',hz,_,hck,hks,hcase⟩:=z9e ht hr hm (.d hkd) hf
  rcases hcase with ⟨rfl,_,hfk⟩|⟨id',L,es',en,clk,e1,rfl,hL,hob',hcb,hent,rr,hfk,hres⟩
  ·cases hm
  ·cases e1
   rw [hob] at hob'; cases hob'
   obtain ⟨k',e,rfl,hi',he,hx,hek⟩:=hres
   have hkk:=hks e.key hek w
   have hlt:i<es.length:=(eAd.1 hi').1
   have hsz:en.size=es.length:=by rw [←eBa]; exact hent.1
   have hlt2:i<en.size:=by omega
   refine ⟨L,en,clk,en.modify i fun e=>{ e with key:=vk },clk,e.val,i,{ e with key:=vk },v',hL,rfl,hcb,(hr.born hL hob hcb).mod _ _ (fun _=>rfl),⟨?_,fun j a c hj=>?_⟩,by simp [eBr,he],?_,?_, .inr ⟨_,_,_,rfl, .inl (DLe.refl _),rfl,rfl⟩,?_,?_,rfl⟩
   ·simp [ent,std]; simpa using hent.1
   ·simp only [ent,std,eCh,eBm] at hj
    simp only [eAj,eBr]
    split at hj
    ·rename_i hij; subst hij
     first|rw [if_pos hlt] at hj|skip
     cases hj
     simp only [if_true,he,eBh]
     exact ⟨_,rfl,hkd,hx.le2 hle⟩
    ·rename_i hij
     rw [if_neg hij]
     simpa using hent.2 j a c hj
   ·simp [Instr.mapEntry,z0d hd,z14 hcb,hck,hfk,he,hkk,z4h hcb]
   ·simp [ent,std,hlt]
   ·have:=x0m (y:=v') k1 k2 es 0 i v k3
    simpa [ent,std] using this
   ·intro x; simp [ent,z7c,w83,std]
theorem y3e {T:TypeId} {ti:TI} (ht:z5t P T ti) (hr:z0a P ρ h w) {m k:AV} {vm vk:Value} (hm:z0i ρ (z0c ρ h) w m vm) (hk:z0i ρ (z0c ρ h) w k vk) {q:Bool} {r:List D} (hw:y81 q r (z2k std ti h m k)):
  ∃ v,(Instr.lookup T vm vk false).run P w= .ok v w:=by
 have main:∀ fr,z2k std ti h m k=some fr→∃ v,(Instr.lookup T vm vk false).run P w= .ok v w:=by
  intro fr hfr
  obtain ⟨K,E,ks,ka,ez,hd,hdesc,hz,_,hck,_,hcase⟩:=z9e ht hr hm hk hfr
  obtain ⟨zv,hzr,hzd⟩:=y20 (P:=P) (w:=w) hz (O:=z0c ρ h)
  rcases hcase with ⟨rfl,rfl,hfk⟩|⟨id,L,es,en,clk,rfl,rfl,hL,hob,hcb,hent,rr,hfk,hres⟩
  ·exact ⟨zv,by simp [Instr.lookup,z0d hd,hck,hfk,hzr]⟩
  ·cases fr with
   |none=>
    simp only [y1x] at hres; subst hres
    exact ⟨zv,by simp [Instr.lookup,z0d hd,z14 hcb,hck,hfk,hzr]⟩
   |some p=>
    obtain ⟨n,x⟩:=p
    obtain ⟨k',e,rfl,_,_,hx,_⟩:=hres
    exact ⟨e.val,by simp [Instr.lookup,z0d hd,z14 hcb,hck,hfk]⟩
 rcases hw with ⟨hf,_⟩|⟨_,_,_,hf,_⟩<;>exact main _ hf
theorem y8o {T:TypeId} (hr:z0a P ρ h w) {id:Nat} {L:Loc} (hL:ρ id=some L) {es2:List (D×D)} (hob:z0e h id= .map es2) {en:Array MapEntry} {clk:Nat} (hcb:w.heap[L.blk]?=some (.map en clk)) {n:Nat} {e:MapEntry} (he:en[n]?=some e) {kd old x:D} (hn:es2[n]?=some (kd,old))
  {vx:Value} (hx:z02 (z0c ρ h) w x vx) (new:Nat):z0h P ρ h w new (z3x (Instr.entryStore T (.map (some L.blk)) (goInt e.born) vx)) ⟨true, .bot,[(id, .map (std.mset es2 n kd x))]⟩:=by
 have hbn:=hr.born hL hob hcb
 obtain ⟨_,ho⟩:=hr.obj id L hL
 rw [hob] at ho
 obtain ⟨en',clk',hc,hl,hj⟩:=ho
 rw [hcb] at hc; cases hc
 have hlt:n<es2.length:=(eAd.1 hn).1
 have hfi:=hbn.find he
 have hrun:(Instr.entryStore T (.map (some L.blk)) (goInt e.born) vx).run P w= .ok () (World.setObj w L.blk (.map (en.modify n fun e=>{ e with val:=vx }) clk)):=by
  simp [Instr.entryStore,z14 hcb,asInt,asIntOf,goInt,hfi,z4h hcb]
 refine map_set hr hL hob hcb (en.modify n fun e=>{ e with val:=vx }) clk ⟨by simp [std]; simpa using hl.1,fun j a c hj2=>?_⟩ (hbn.mod _ _ (fun _=>rfl)) new .bot undef (fun _ _ _=> .bot _) (by simp only [z3x,Sem.run_bind,hrun,Result.andThen_ok,Sem.run_pure])
 simp only [std,eBm] at hj2
 simp only [eAj,eBr]
 split at hj2
 ·rename_i hij; subst hij
  first|rw [if_pos hlt] at hj2|skip
  cases hj2
  obtain ⟨e2,g1,g2,g3⟩:=hj n kd old hn
  rw [he] at g1; cases g1
  simp only [if_true,he,eBh]
  exact ⟨_,rfl,g2,hx⟩
 ·rename_i hij
  rw [if_neg hij]
  simpa using hj j a c hj2
end
structure x6p where
 (t a b dL dB dM dX:Nat)
 (bop:BinOp)
 (bt:Nat)
 (c:Value)
 (bt2:Nat)
def neN (a b:Nat):Bool:=!Nat.beq a b
def w9b:List Oper→Option x6p
 |[L,B,M,X,E]=>match L.dst,L.op,L.guard with
  |some dL, .lookup t (.tmp a) (.tmp b) false,none=>match B.dst,B.op,B.guard with
   |some dB, .binOp bop bt (.tmp x) (.const c) bt2,none=>match M.dst,M.op,M.guard with
    |some dM, .mapEntry t2 (.tmp a2) (.tmp b2),none=>match X.dst,X.op,X.guard with
     |some dX, .extract (.tmp e) 1,none=>match E.dst,E.op,E.guard with
      |none, .entryStore t3 (.tmp a3) (.tmp s3) (.tmp v3),none=>
       bif Nat.beq x dL&&(Nat.beq t2 t&&(Nat.beq a2 a&&(Nat.beq b2 b&&(Nat.beq e dM&&(Nat.beq t3 t&&(Nat.beq a3 a&&(Nat.beq s3 dX&&(Nat.beq v3 dB&&
        (neN a dL&&(neN a dB&&(neN a dM&&(neN a dX&&(neN b dL&&(neN b dB&&(neN b dM&&(neN b dX&&(neN dL dB&&(neN dL dM&&(neN dL dX&&(neN dB dM&&(neN dB dX&&neN dM dX)))))))))))))))))))))
       then some ⟨t,a,b,dL,dB,dM,dX,bop,bt,c,bt2⟩ else none
      |_,_,_=>none
     |_,_,_=>none
    |_,_,_=>none
   |_,_,_=>none
  |_,_,_=>none
 |_=>none
structure w57 (x:x6p) (L B M X E:Oper):Prop where
 (gL:L.guard=none) (gB:B.guard=none) (gM:M.guard=none) (gX:X.guard=none) (gE:E.guard=none)
 (dL:L.dst=some x.dL) (dB:B.dst=some x.dB) (dM:M.dst=some x.dM) (dX:X.dst=some x.dX) (dE:E.dst=none)
 (oL:L.op= .lookup x.t (.tmp x.a) (.tmp x.b) false) (oB:B.op= .binOp x.bop x.bt (.tmp x.dL) (.const x.c) x.bt2) (oM:M.op= .mapEntry x.t (.tmp x.a) (.tmp x.b)) (oX:X.op= .extract (.tmp x.dM) 1) (oE:E.op= .entryStore x.t (.tmp x.a) (.tmp x.dX) (.tmp x.dB))
 (aL:x.a≠x.dL) (aB:x.a≠x.dB) (aM:x.a≠x.dM) (aX:x.a≠x.dX) (bL:x.b≠x.dL) (bB:x.b≠x.dB) (bM:x.b≠x.dM) (bX:x.b≠x.dX)
 (LB:x.dL≠x.dB) (LM:x.dL≠x.dM) (LX:x.dL≠x.dX) (BM:x.dB≠x.dM) (BX:x.dB≠x.dX) (MX:x.dM≠x.dX)
theorem z55 {a b:Nat} (h:neN a b=true):a≠b:=by
 rintro rfl; simp [neN] at h
theorem w49 {l:List Oper} {x:x6p} (h:w9b l=some x):∃ L B M X E,l=[L,B,M,X,E]∧w57 x L B M X E:=by
 unfold w9b at h
 split at h
 ·rename_i L B M X E
  refine ⟨L,B,M,X,E,rfl,?_⟩
  split at h
  ·rename_i dL t a b h1 h2 h3
   split at h
   ·rename_i dB bop bt y c bt2 h4 h5 h6
    split at h
    ·rename_i dM t2 a2 b2 h7 h8 h9
     split at h
     ·rename_i dX e h10 h11 h12
      split at h
      ·rename_i t3 a3 s3 v3 h13 h14 h15
       revert h
       intro h
       rw [Bool.cond_eq_ite] at h
       split at h
       ·rename_i hc
        cases h
        simp only [eAb] at hc
        obtain ⟨c1,c2,c3,c4,c5,c6,c7,c8,c9,n1,n2,n3,n4,n5,n6,n7,n8,n9,n10,n11,n12,n13,n14⟩:=hc
        have c1:=eAc c1; have c2:=eAc c2; have c3:=eAc c3; have c4:=eAc c4; have c5:=eAc c5
        have c6:=eAc c6; have c7:=eAc c7; have c8:=eAc c8; have c9:=eAc c9
        subst c1 c2 c3 c4 c5 c6 c7 c8 c9
        exact ⟨h3,h6,h9,h12,h15,h1,h4,h7,h10,h13,h2,h5,h8,h11,h14,z55 n1,z55 n2,z55 n3,z55 n4,z55 n5,z55 n6,z55 n7,z55 n8,z55 n9,z55 n10,z55 n11,z55 n12,z55 n13,z55 n14⟩
       ·cases h
      ·cases h
     ·cases h
    ·cases h
   ·cases h
  ·cases h
 ·cases h
def w5a (ops:List Oper):Option (List Oper×x6p):=
 match w9b (ops.drop (ops.length - 5)) with
 |some x=>some (ops.take (ops.length - 5),x)
 |none=>none
def y2u (ops:List Oper):Bool:=
 let m:=ops.length - 5
 let an:=z9o ops []
 (Nat.testBit (z52 an (m+1)) m&&(Nat.testBit (z52 an (m+3)) (m+2)&&(Nat.testBit (z52 an (m+4)) (m+1)&&Nat.testBit (z52 an (m+4)) (m+3))))&&
  (List.range ops.length).all fun i=>Nat.blt i m||(List.range m).all fun j=>Nat.testBit (z52 an i) j
end Go.Am
end
section
namespace Go.Am
def x57 (x:x6p) (s:AS) (id:Nat) (old y:D) (es3:List (D×D)):AS:=
 ⟨x93 (x93 (x93 (x93 s.env x.dL (.d old)) x.dB (.d y)) x.dM .bot) x.dX .bot,z0x s.heap id (.map es3),s.nt⟩
structure x47 (T:TypeId→Option TI) (x:x6p) (s1:AS) (id:Nat) (kd:D) (es:List (D×D)) (ti:TI) (ks:List SK) (ka:Bool) (ez:D) (q:Bool) (r:List D) (y:D):Prop where
 ha:z1k s1.env x.a= .map id
 hb:z1k s1.env x.b= .d kd
 hob:z0e s1.heap id= .map es
 hti:T x.t=some ti
 hdesc:ti.desc= .map ks ka ez
 hwant:y81 q r (z2k std ti s1.heap (.map id) (.d kd))
 hop:∃ kk o n,z5l q r ez= .int kk o∧z0j s1.env (.const x.c)= .d (.int kk n)∧z9n x.bop= .arith∧y= .int kk (std.ar x.bop kk o n)
 hlt:x.dL<s1.nt∧x.dB<s1.nt∧x.dM<s1.nt∧x.dX<s1.nt
 idlt:id<s1.heap.length
def z7r (s1:AS) (x:x6p) (old y:D) (fL fB fM fX:Bool) (t:Nat):AV:=
 if fX=true∧t=x.dX then .bot else if fM=true∧t=x.dM then .bot else if fB=true∧t=x.dB then .d y else if fL=true∧t=x.dL then .d old else z1k s1.env t
section
variable {P:Program}
theorem y2y {d nt:Nat} (h:d<nt):z5b nt (some d)=true:=eBg h
theorem z1p.congr {ρ:Rho} {s s':AS} {tm:Array Value} {w:World} (hE:∀ t,z1k s'.env t=z1k s.env t) (hH:∀ id,z0e s.heap id=z0e s'.heap id) (hn:s'.nt=s.nt) (hl:s.heap.length≤s'.heap.length) (h:z1p P ρ s tm w):z1p P ρ s' tm w:=
 ⟨h.heap.ext hH,fun t=>by rw [hE, ←z2w hH]; exact h.env t,by rw [hn]; exact h.size,fun id hid=>eAn (h.dom id hid) hl⟩
theorem z8q {ρ:Rho} {s:AS} {tm:Array Value} {w:World} (h1:z1p P ρ s tm w) {ops:Array Oper} {i:Nat} {o:Oper} (ho:ops[i]?=some o) (hg:o.guard=none) (hdef:∀ c,o.op≠ .defer c) (hd:z5b s.nt o.dst=true) {v:AV} {u:List (Nat×AO)}
  (hex:y09 P ρ s.heap w s.heap.length (execOp (opv tm) o) ⟨true,v,u⟩) (hu:∀ id x,(id,x)∈u→id<s.heap.length) {b:Frame} {k:List Item} {cs:List Frame} {ds:List Deferred} {rest:List Nat} {B:Nat} (hds:z3e b.roundOf B ρ.fr w ds):
  ∃ val w',((execOp (opv tm) o).run P w= .ok (.value val) w'∨((execOp (opv tm) o).run P w= .ok .skip w'∧val=undef))∧z1p P ρ (z43 s o.dst v u) (y11 tm o.dst val) w'∧Ext (· <s.heap.length) ρ s.heap w ρ (z43 s o.dst v u).heap w'∧z3e b.roundOf B ρ.fr w' ds∧
   Steps P (lone (b.on tm ds (.inRegion ops (i::rest)::k)) cs w) (lone (b.on (y11 tm o.dst val) ds (.inRegion ops rest::k)) cs w'):=by
 have hnone:ρ s.heap.length=none:=by
  cases hq:ρ s.heap.length with
  |none=>rfl
  |some L=>have:=h1.dom _ (by rw [hq]; simp); omega
 obtain ⟨val,w',ρ',hrun,hv,hh,hx,hr⟩:=hex
 have hρ:ρ'=ρ:=by
  rcases hr with h|⟨o,h⟩
  ·exact h
  ·have:=hu _ _ h; omega
 subst hρ
 have hw:Region.wanted o (yielded ops tm)=true:=z4v h1 (by rw [hg]; rfl)
 refine ⟨val,w',hrun,h1.step' hnone hd hv hh hx (.inl rfl),hx.mono (fun id hid=>by omega),hds.keep h1.heap hx, .one (z9w ho hw hdef hrun)⟩
structure St (P:Program) (x:x6p) (s1:AS) (id:Nat) (kd:D) (ks:List SK) (ka:Bool) (old y:D) (es2:List (D×D)) (upd:D→List (D×D)) (ρ:Rho) (w1:World) (fL fB fM fX:Bool) (tm:Array Value) (w:World) (s:AS):Prop where
 nt:s.nt=s1.nt
 len:s.heap.length=s1.heap.length
 env:∀ t,z1k s.env t=z7r s1 x old y fL fB fM fX t
 heap:∀ i,z0e s.heap i=if fM=true∧i=id then .map es2 else z0e s1.heap i
 st:z1p P ρ s tm w
 ext:Ext (· <s1.heap.length) ρ s1.heap w1 ρ s.heap w
 stamp:fM=true→∃ (L:Loc) (en:Array MapEntry) (clk n:Nat) (e:MapEntry) (z:Value),ρ id=some L∧w.heap[L.blk]?=some (.map en clk)∧en[n]?=some e∧opv tm (.tmp x.dM)= .tuple #[z,goInt e.born]∧(fX=true→opv tm (.tmp x.dX)=goInt e.born)∧
  es2[n]?=some (kd,old)∧z4w std ks ka kd es2 0=some (some (n,old))∧(∀ v,upd v=std.mset es2 n kd v)
theorem y13 {tm:Array Value} {d:Nat} {v:Value} (h:d<tm.size):opv (y11 tm (some d) v) (.tmp d)=v:=by
 simp [opv,y11,eAh,h]
theorem z6w {tm:Array Value} {d t:Nat} {v:Value} (h:d≠t):opv (y11 tm (some d) v) (.tmp t)=opv tm (.tmp t):=by
 simp [opv,y11,eAh,Array.getElem?_setIfInBounds_ne h]
section
variable {T:TypeId→Option TI} (hT:y0f P T) {x:x6p} {s1:AS} {id:Nat} {kd:D} {es:List (D×D)} {ti:TI} {ks:List SK} {ka:Bool} {ez:D} {q:Bool} {r:List D} {y:D}
 (hR:x47 T x s1 id kd es ti ks ka ez q r y) {L B M X E:Oper} (hO:w57 x L B M X E)
 {ρ:Rho} {w1:World} {fL fB fM fX:Bool} {tm:Array Value} {w:World} {s:AS}
 (hS:St P x s1 id kd ks ka (z5l q r ez) y (ent es q r kd ez) (z7c es q r kd) ρ w1 fL fB fM fX tm w s)
 {ops:Array Oper} {b:Frame} {k:List Item} {cs:List Frame} {ds:List Deferred} {rest:List Nat} {B0:Nat} (hds:z3e b.roundOf B0 ρ.fr w ds) {i:Nat}
include hT hR hO hS hds
theorem v0t:z1k s.env x.a= .map id∧z1k s.env x.b= .d kd:=by
 constructor
 ·rw [hS.env,z7r,if_neg (fun h=>hO.aX h.2),if_neg (fun h=>hO.aM h.2),if_neg (fun h=>hO.aB h.2),if_neg (fun h=>hO.aL h.2)]; exact hR.ha
 ·rw [hS.env,z7r,if_neg (fun h=>hO.bX h.2),if_neg (fun h=>hO.bM h.2),if_neg (fun h=>hO.bB h.2),if_neg (fun h=>hO.bL h.2)]; exact hR.hb
theorem x2p:z0i ρ (z0c ρ s.heap) w (.map id) (opv tm (.tmp x.a))∧z02 (z0c ρ s.heap) w kd (opv tm (.tmp x.b)):=by
 obtain ⟨h1,h2⟩:=v0t hT hR hO hS hds
 have a1:=z0f hS.st.env (.tmp x.a)
 have a2:=z0f hS.st.env (.tmp x.b)
 simp only [z0j] at a1 a2
 rw [h1] at a1; rw [h2] at a2
 refine ⟨a1,?_⟩
 cases a2 with|d h=>exact h
theorem v0w (ho:ops[i]?=some L) (hfL:fL=false) (hfB:fB=false):
  ∃ tm' w' s',St P x s1 id kd ks ka (z5l q r ez) y (ent es q r kd ez) (z7c es q r kd) ρ w1 true fB fM fX tm' w' s'∧z3e b.roundOf B0 ρ.fr w' ds∧
   Steps P (lone (b.on tm ds (.inRegion ops (i::rest)::k)) cs w) (lone (b.on tm' ds (.inRegion ops rest::k)) cs w'):=by
 obtain ⟨r1,r2⟩:=x2p hT hR hO hS hds
 have hlk:∃ q' r',y81 q' r' (z2k std ti s.heap (.map id) (.d kd))∧z4e ti q' r' false=some ⟨true, .d (z5l q r ez),[]⟩:=by
  have hkin:(z1h kd==ka&&z04 ks (z0q kd))=true∧z2k std ti s1.heap (.map id) (.d kd)=z4w std ks ka kd es 0:=by
   have hf:∃ fr,z2k std ti s1.heap (.map id) (.d kd)=some fr:=by
    rcases hR.hwant with ⟨h,_⟩|⟨_,_,_,h,_⟩<;>exact ⟨_,h⟩
   obtain ⟨fr,hf⟩:=hf
   unfold z2k at hf⊢
   rw [hR.hdesc] at hf⊢
   simp only [hR.hob] at hf⊢
   cases hc:(z1h kd==ka)&&z04 ks (z0q kd) with
   |false=>rw [hc] at hf; cases hf
   |true=>exact ⟨rfl,rfl⟩
  cases hM:fM with
  |false=>
   refine ⟨q,r,?_,?_⟩
   ·have:z2k std ti s.heap (.map id) (.d kd)=z2k std ti s1.heap (.map id) (.d kd):=by
     unfold z2k
     simp only [hS.heap id,hM,eAi,false_and,if_false]
    rw [this]; exact hR.hwant
   ·unfold z4e
    rw [hR.hdesc]
    rcases hR.hwant with ⟨_,rfl⟩|⟨_,_,_,_,_,rfl,rfl⟩<;>rfl
  |true=>
   obtain ⟨L',en,clk,n,e,z,_,_,_,_,_,_,hfa,_⟩:=hS.stamp hM
   refine ⟨true,[.int .i64 (n:Nat),z5l q r ez], .inr ⟨n,_,_,?_, .inl (DLe.refl _),rfl,rfl⟩,?_⟩
   ·unfold z2k
    rw [hR.hdesc]
    simp only [hS.heap id,hM,hkin.1,cond_true,and_self,if_true]
    exact hfa
   ·unfold z4e
    rw [hR.hdesc]
    rfl
 obtain ⟨q',r',hw',hst⟩:=hlk
 have hex:=(z7e (hT _ _ hR.hti) (new:=s.heap.length) hS.st.heap r1 (.d r2) hw' hst).value
 have hex:y09 P ρ s.heap w s.heap.length (execOp (opv tm) L) ⟨true, .d (z5l q r ez),[]⟩:=by simpa [execOp,hO.oL] using hex
 obtain ⟨val,w',hrun,g1,g2,g3,g4⟩:=z8q hS.st ho hO.gL (by rw [hO.oL]; simp) (by rw [hO.dL,hS.nt]; exact y2y hR.hlt.1) hex (by simp) hds (k:=k) (cs:=cs) (rest:=rest)
 refine ⟨y11 tm L.dst val,w',z43 s L.dst (.d (z5l q r ez)) [],⟨hS.nt,hS.len,fun t=>?_,hS.heap,g1,hS.ext.trans (g2.mono (fun id h=>by rw [hS.len]; exact h)),fun hM=>?_⟩,g3,g4⟩
 ·simp only [z43,hO.dL,y3o]
  by_cases e:x.dL=t
  ·subst e
   rw [z0r,z7r,if_neg (fun h=>hO.LX h.2),if_neg (fun h=>hO.LM h.2),if_neg (fun h=>hO.LB h.2),if_pos ⟨rfl,rfl⟩]
  ·rw [z09 _ _ _ _ e,hS.env,z7r,z7r]
   simp [hfL,Ne.symm e]
 ·obtain ⟨L',en,clk,n,e,z,c1,c2,c3,c4,c5,c6⟩:=hS.stamp hM
  have hsize:x.dL<tm.size:=by rw [hS.st.size,hS.nt]; exact hR.hlt.1
  refine ⟨L',en,clk,n,e,z,c1,?_,c3,?_,?_,c6⟩
  ·have hfr:w'=w:=by
    obtain ⟨v0,w0,ρ0,hq,_⟩:=(z7e (hT _ _ hR.hti) (new:=s.heap.length) hS.st.heap r1 (.d r2) hw' hst)
    have:=(y3e (hT _ _ hR.hti) hS.st.heap r1 (.d r2) hw')
    obtain ⟨v1,hv1⟩:=this
    have hq':(execOp (opv tm) L).run P w= .ok (.value v1) w:=by simp [execOp,hO.oL,hv1]
    rw [hq'] at hrun
    rcases hrun with h|⟨h,_⟩<;>cases h
    rfl
   rw [hfr]; exact c2
  ·rw [hO.dL,z6w hO.LM]; exact c4
  ·rw [hO.dL,z6w hO.LX]; exact c5
theorem v0y (ho:ops[i]?=some B) (hfL:fL=true) (hfB:fB=false):
  ∃ tm' w' s',St P x s1 id kd ks ka (z5l q r ez) y (ent es q r kd ez) (z7c es q r kd) ρ w1 fL true fM fX tm' w' s'∧z3e b.roundOf B0 ρ.fr w' ds∧
   Steps P (lone (b.on tm ds (.inRegion ops (i::rest)::k)) cs w) (lone (b.on tm' ds (.inRegion ops rest::k)) cs w'):=by
 obtain ⟨kk,o,n,e1,e2,e3,e4⟩:=hR.hop
 have heL:z1k s.env x.dL= .d (.int kk o):=by
  rw [hS.env,z7r,if_neg (fun h=>hO.LX h.2),if_neg (fun h=>hO.LM h.2),if_neg (fun h=>hO.LB h.2),if_pos ⟨hfL,rfl⟩,e1]
 have hvL:opv tm (.tmp x.dL)= .int kk o:=by
  have a1:=z0f hS.st.env (.tmp x.dL)
  simp only [z0j] at a1
  rw [heL] at a1
  generalize opv tm (.tmp x.dL)=v at a1
  cases a1 with|d h=>cases h; rfl
 have hvc:opv tm (.const x.c)= .int kk n:=by
  have a1:=z0f hS.st.env (.const x.c)
  have:z0j s.env (.const x.c)=z0j s1.env (.const x.c):=rfl
  rw [this,e2] at a1
  generalize opv tm (.const x.c)=v at a1
  cases a1 with|d h=>cases h; rfl
 have hq':(execOp (opv tm) B).run P w= .ok (.value (.int kk (std.ar x.bop kk o n))) w:=by
  have h1:=z3z (P:=P) (w:=w) x.bop x.bt kk o n (by rw [e3]; simp) (by rw [e3]; simp)
  rw [e3] at h1
  have h2:(eqGuard x.bop x.bt (.tmp x.dL) (.const x.c) (.int kk o) (.int kk n)).run P w= .ok () w:=z4s _ _ trivial
  simp only [execOp,hO.oB,hvL,hvc,Sem.run_bind,h2,Result.andThen_ok]
  have h1:(binOp x.bop x.bt (.int kk o) (.int kk n)).run P w= .ok (.int kk (std.ar x.bop kk o n)) w:=h1
  simp [h1]
 have hex:y09 P ρ s.heap w s.heap.length (execOp (opv tm) B) ⟨true, .d y,[]⟩:=⟨_,w,ρ, .inl hq',by rw [e4]; exact .d (.int _ _),hS.st.heap,Ext.refl _ _ _ _, .inl rfl⟩
 obtain ⟨val,w',hrun,g1,g2,g3,g4⟩:=z8q hS.st ho hO.gB (by rw [hO.oB]; simp) (by rw [hO.dB,hS.nt]; exact y2y hR.hlt.2.1) hex (by simp) hds (k:=k) (cs:=cs) (rest:=rest)
 rw [hq'] at hrun
 have hww:w'=w:=by
  rcases hrun with h|⟨h,_⟩<;>cases h
  rfl
 subst hww
 refine ⟨y11 tm B.dst val,w',z43 s B.dst (.d y) [],⟨hS.nt,hS.len,fun t=>?_,hS.heap,g1,hS.ext.trans (g2.mono (fun id h=>by rw [hS.len]; exact h)),fun hM=>?_⟩,g3,g4⟩
 ·simp only [z43,hO.dB,y3o]
  by_cases e:x.dB=t
  ·subst e
   rw [z0r,z7r,if_neg (fun h=>hO.BX h.2),if_neg (fun h=>hO.BM h.2),if_pos ⟨rfl,rfl⟩]
  ·rw [z09 _ _ _ _ e,hS.env,z7r,z7r]
   simp [hfB,Ne.symm e]
 ·obtain ⟨L',en,clk,n,e,z,c1,c2,c3,c4,c5,c6⟩:=hS.stamp hM
  refine ⟨L',en,clk,n,e,z,c1,c2,c3,?_,?_,c6⟩
  ·rw [hO.dB,z6w hO.BM]; exact c4
  ·rw [hO.dB,z6w hO.BX]; exact c5
theorem v0v (ho:ops[i]?=some M) (hfM:fM=false) (hfX:fX=false):
  ∃ tm' w' s',St P x s1 id kd ks ka (z5l q r ez) y (ent es q r kd ez) (z7c es q r kd) ρ w1 fL fB true fX tm' w' s'∧z3e b.roundOf B0 ρ.fr w' ds∧
   Steps P (lone (b.on tm ds (.inRegion ops (i::rest)::k)) cs w) (lone (b.on tm' ds (.inRegion ops rest::k)) cs w'):=by
 obtain ⟨r1,r2⟩:=x2p hT hR hO hS hds
 have hob:z0e s.heap id= .map es:=by rw [hS.heap,if_neg (by simp [hfM])]; exact hR.hob
 have hw':y81 q r (z2k std ti s.heap (.map id) (.d kd)):=by
  have:z2k std ti s.heap (.map id) (.d kd)=z2k std ti s1.heap (.map id) (.d kd):=by
   unfold z2k
   simp only [hob,hR.hob]
  rw [this]; exact hR.hwant
 obtain ⟨L',en0,clk0,en,clk,z,n,e,old,c1,c2,c3,c4,c5,c6,c7,c8,_,c9,c10,c11⟩:=x2j (hT _ _ hR.hti) hS.st.heap r1 r2 hob hR.hdesc hw'
 subst c11
 have hidl:id<s.heap.length:=by rw [hS.len]; exact hR.idlt
 have hrunok:=map_set hS.st.heap c1 hob c3 en clk c5 c4 s.heap.length .bot _ (fun _ _ _=> .bot _) c7
 have hex:y09 P ρ s.heap w s.heap.length (execOp (opv tm) M) ⟨true, .bot,[(id, .map (ent es q r kd ez))]⟩:=by simpa [execOp,hO.oM] using hrunok.value
 obtain ⟨val,w',hrun,g1,g2,g3,g4⟩:=z8q hS.st ho hO.gM (by rw [hO.oM]; simp) (by rw [hO.dM,hS.nt]; exact y2y hR.hlt.2.2.1) hex (by intro j o hj; simp at hj; rw [hj.1]; exact hidl) hds (k:=k) (cs:=cs) (rest:=rest)
 have hq':(execOp (opv tm) M).run P w= .ok (.value (.tuple #[z,goInt e.born])) (World.setObj w L'.blk (.map en clk)):=by simp [execOp,hO.oM,c7]
 rw [hq'] at hrun
 have hvw:val= .tuple #[z,goInt e.born]∧w'=World.setObj w L'.blk (.map en clk):=by
  rcases hrun with h|⟨h,_⟩<;>cases h
  exact ⟨rfl,rfl⟩
 obtain ⟨rfl,rfl⟩:=hvw
 refine ⟨y11 tm M.dst (.tuple #[z,goInt e.born]),_,z43 s M.dst .bot [(id, .map (ent es q r kd ez))],⟨hS.nt,?_,fun t=>?_,fun j=>?_,g1,hS.ext.trans (g2.mono (fun id h=>by rw [hS.len]; exact h)),fun _=>⟨L',en,clk,n,e,z,c1,z0l _ _ _ (eAe.1 c3).1,c6,?_,(fun h=>by rw [hfX] at h; cases h),c8,c9,fun v=>?_⟩⟩,g3,g4⟩
 ·simp only [z43,z06]
  rw [z4n _ _ _ hidl]; exact hS.len
 ·simp only [z43,hO.dM,y3o]
  by_cases e:x.dM=t
  ·subst e
   rw [z0r,z7r,if_neg (fun h=>hO.MX h.2),if_pos ⟨rfl,rfl⟩]
  ·rw [z09 _ _ _ _ e,hS.env,z7r,z7r]
   simp [hfM,Ne.symm e]
 ·simp only [z43,z06]
  by_cases e:id=j
  ·subst e; rw [z0g,if_pos ⟨trivial,rfl⟩]
  ·rw [z0b _ _ _ _ e,hS.heap,if_neg (by simp [hfM]),if_neg (fun h=>e h.2.symm)]
 ·rw [hO.dM,y13 (by rw [hS.st.size,hS.nt]; exact hR.hlt.2.2.1)]
 ·exact c10 v
theorem v0u (ho:ops[i]?=some X) (hfM:fM=true) (hfX:fX=false):
  ∃ tm' w' s',St P x s1 id kd ks ka (z5l q r ez) y (ent es q r kd ez) (z7c es q r kd) ρ w1 fL fB fM true tm' w' s'∧z3e b.roundOf B0 ρ.fr w' ds∧
   Steps P (lone (b.on tm ds (.inRegion ops (i::rest)::k)) cs w) (lone (b.on tm' ds (.inRegion ops rest::k)) cs w'):=by
 obtain ⟨L',en,clk,n,e,z,c1,c2,c3,c4,c5,c6⟩:=hS.stamp hfM
 have hq':(execOp (opv tm) X).run P w= .ok (.value (goInt e.born)) w:=by simp [execOp,hO.oX,c4,Instr.extract]
 have hex:y09 P ρ s.heap w s.heap.length (execOp (opv tm) X) ⟨true, .bot,[]⟩:=⟨goInt e.born,w,ρ, .inl hq', .bot _,hS.st.heap,Ext.refl _ _ _ _, .inl rfl⟩
 obtain ⟨val,w',hrun,g1,g2,g3,g4⟩:=z8q hS.st ho hO.gX (by rw [hO.oX]; simp) (by rw [hO.dX,hS.nt]; exact y2y hR.hlt.2.2.2) hex (by simp) hds (k:=k) (cs:=cs) (rest:=rest)
 rw [hq'] at hrun
 have hvw:val=goInt e.born∧w'=w:=by
  rcases hrun with h|⟨h,_⟩<;>cases h
  exact ⟨rfl,rfl⟩
 obtain ⟨rfl,rfl⟩:=hvw
 refine ⟨y11 tm X.dst (goInt e.born),w',z43 s X.dst .bot [],⟨hS.nt,hS.len,fun t=>?_,hS.heap,g1,hS.ext.trans (g2.mono (fun id h=>by rw [hS.len]; exact h)),fun hM=>⟨L',en,clk,n,e,z,c1,c2,c3,?_,fun _=>?_,c6⟩⟩,g3,g4⟩
 ·simp only [z43,hO.dX,y3o]
  by_cases e:x.dX=t
  ·subst e
   rw [z0r,z7r,if_pos ⟨rfl,rfl⟩]
  ·rw [z09 _ _ _ _ e,hS.env,z7r,z7r]
   simp [hfX,Ne.symm e]
 ·rw [hO.dX,z6w (Ne.symm hO.MX)]; exact c4
 ·rw [hO.dX,y13 (by rw [hS.st.size,hS.nt]; exact hR.hlt.2.2.2)]
theorem v0x (ho:ops[i]?=some E) (hfL:fL=true) (hfB:fB=true) (hfM:fM=true) (hfX:fX=true):
  ∃ tm' w',z1p P ρ (x57 x s1 id (z5l q r ez) y (z7c es q r kd y)) tm' w'∧z3e b.roundOf B0 ρ.fr w' ds∧Ext (· <s1.heap.length) ρ s1.heap w1 ρ (x57 x s1 id (z5l q r ez) y (z7c es q r kd y)).heap w'∧
   Steps P (lone (b.on tm ds (.inRegion ops (i::rest)::k)) cs w) (lone (b.on tm' ds (.inRegion ops rest::k)) cs w'):=by
 obtain ⟨r1,r2⟩:=x2p hT hR hO hS hds
 obtain ⟨L',en,clk,n,e,z,c1,c2,c3,c4,c5,c6,c7,c8⟩:=hS.stamp hfM
 have hob:z0e s.heap id= .map (ent es q r kd ez):=by rw [hS.heap,if_pos ⟨hfM,rfl⟩]
 have hidl:id<s.heap.length:=by rw [hS.len]; exact hR.idlt
 have hy:z02 (z0c ρ s.heap) w y (opv tm (.tmp x.dB)):=by
  have a1:=z0f hS.st.env (.tmp x.dB)
  simp only [z0j] at a1
  rw [hS.env,z7r,if_neg (fun h=>hO.BX h.2),if_neg (fun h=>hO.BM h.2),if_pos ⟨hfB,rfl⟩] at a1
  cases a1 with|d h=>exact h
 have hvm:opv tm (.tmp x.a)= .map (some L'.blk):=by
  generalize opv tm (.tmp x.a)=v at r1
  cases r1 with
  |map _ L2 hL2=>rw [c1] at hL2; cases hL2; rfl
 have hrunok:=y8o (P:=P) (T:=x.t) hS.st.heap c1 hob c2 c3 c6 hy s.heap.length
 have hex:y09 P ρ s.heap w s.heap.length (execOp (opv tm) E) ⟨true, .bot,[(id, .map (std.mset (ent es q r kd ez) n kd y))]⟩:=by
  have:=hrunok.skip
  simpa [execOp,hO.oE,hvm,c5 hfX] using this
 obtain ⟨val,w',hrun,g1,g2,g3,g4⟩:=z8q hS.st ho hO.gE (by rw [hO.oE]; simp) (by rw [hO.dE]; rfl) hex (by intro j o hj; simp at hj; rw [hj.1]; exact hidl) hds (k:=k) (cs:=cs) (rest:=rest)
 have hH:∀ j,z0e (z43 s E.dst .bot [(id, .map (std.mset (ent es q r kd ez) n kd y))]).heap j=z0e (x57 x s1 id (z5l q r ez) y (z7c es q r kd y)).heap j:=by
  intro j
  simp only [z43,z06,x57]
  rw [c8 y]
  by_cases e:id=j
  ·subst e; rw [z0g,z0g]
  ·rw [z0b _ _ _ _ e,z0b _ _ _ _ e,hS.heap,if_neg (fun h=>e h.2.symm)]
 refine ⟨y11 tm E.dst val,w',g1.congr (fun t=>?_) hH ?_ ?_,g3,?_,g4⟩
 ·simp only [z43,hO.dE,y3o,x57]
  rw [hS.env,z7r]
  by_cases e1:x.dX=t
  ·subst e1; rw [z0r,if_pos ⟨hfX,rfl⟩]
  ·rw [z09 _ _ _ _ e1,if_neg (fun h=>e1 h.2.symm)]
   by_cases e2:x.dM=t
   ·subst e2; rw [z0r,if_pos ⟨hfM,rfl⟩]
   ·rw [z09 _ _ _ _ e2,if_neg (fun h=>e2 h.2.symm)]
    by_cases e3:x.dB=t
    ·subst e3; rw [z0r,if_pos ⟨hfB,rfl⟩]
    ·rw [z09 _ _ _ _ e3,if_neg (fun h=>e3 h.2.symm)]
     by_cases e4:x.dL=t
     ·subst e4; rw [z0r,if_pos ⟨hfL,rfl⟩]
     ·rw [z09 _ _ _ _ e4,if_neg (fun h=>e4 h.2.symm)]
 ·exact hS.nt.symm
 ·simp only [z43,z06,x57]
  rw [z4n _ _ _ hidl,z4n _ _ _ hR.idlt,hS.len]; exact eAk _
 ·have:=hS.ext.trans (g2.mono (fun id h=>by rw [hS.len]; exact h))
  exact ⟨this.os,this.tape,this.output,by rw [←z2w hH]; exact this.keep,this.rho,this.fr,this.frs⟩
end
theorem y17 {a c:Nat} (h:a≠c):Nat.beq a c=false:=by
 cases hb:Nat.beq a c with
 |false=>rfl
 |true=>exact absurd (eAc hb) h
theorem w48 {T:TypeId→Option TI} (hT:y0f P T) {x:x6p} {s1:AS} {id:Nat} {kd:D} {es:List (D×D)} {ti:TI} {ks:List SK} {ka:Bool} {ez:D} {q:Bool} {r:List D} {y:D}
  (hR:x47 T x s1 id kd es ti ks ka ez q r y) {L B M X E:Oper} (hO:w57 x L B M X E) {ρ:Rho} {w1:World} {ops:Array Oper} {b:Frame} {k:List Item} {cs:List Frame} {ds:List Deferred} {B0:Nat} {m:Nat}
  (hz:ops.size=m+5) (o0:ops[m]?=some L) (o1:ops[m+1]?=some B) (o2:ops[m+2]?=some M) (o3:ops[m+3]?=some X) (o4:ops[m+4]?=some E)
  (g1:(z52 (z9o ops.toList []) (m+1)).testBit m=true) (g2:(z52 (z9o ops.toList []) (m+3)).testBit (m+2)=true) (g3:(z52 (z9o ops.toList []) (m+4)).testBit (m+1)=true) (g4:(z52 (z9o ops.toList []) (m+4)).testBit (m+3)=true)
  {S:Nat→Bool} {l:List Nat} (hl:Ord ops S l):∀ {tm:Array Value} {w:World} {s:AS},(∀ j,j<m→S j=true)→S (m+4)=false→(∀ (i:Nat) (o:Oper),ops.toList[i]?=some o→S i=true→∀ d∈z38 o,S d=true)→
  St P x s1 id kd ks ka (z5l q r ez) y (ent es q r kd ez) (z7c es q r kd) ρ w1 (S m) (S (m+1)) (S (m+2)) (S (m+3)) tm w s→z3e b.roundOf B0 ρ.fr w ds→
  ∃ tm' w',z1p P ρ (x57 x s1 id (z5l q r ez) y (z7c es q r kd y)) tm' w'∧z3e b.roundOf B0 ρ.fr w' ds∧Ext (· <s1.heap.length) ρ s1.heap w1 ρ (x57 x s1 id (z5l q r ez) y (z7c es q r kd y)).heap w'∧
   Steps P (lone (b.on tm ds (.inRegion ops l::k)) cs w) (lone (b.on tm' ds k) cs w'):=by
 induction hl with
 |nil S h=>
  intro tm w s _ h4
  rw [h (m+4) (by omega)] at h4; cases h4
 |cons S i o l hi ho hd h ih=>
  intro tm w s hpre h4 hcl hS hds
  have hol:ops.toList[i]?=some o:=by rw [eAj]; exact ho
  have tl:∀ {j:Nat} {p:Oper},ops[j]?=some p→ops.toList[j]?=some p:=fun hp=>by rw [eAj]; exact hp
  have anc:∀ {j:Nat} {p:Oper} {a:Nat},ops[j]?=some p→S j=true→(z52 (z9o ops.toList []) j).testBit a=true→S a=true:=fun {j p a} hp hj ha=>z1n hcl (tl hp) (hcl j p (tl hp) hj) a ha
  have hpre':∀ j,j<m→(fun j=>S j||Nat.beq j i) j=true:=fun j hj=>by simp [hpre j hj]
  have hcl':∀ (i':Nat) (o':Oper),ops.toList[i']?=some o'→(fun j=>S j||Nat.beq j i) i'=true→∀ d∈z38 o',(fun j=>S j||Nat.beq j i) d=true:=by
   intro i' o' ho' hi' d hdd
   simp only [eAq] at hi'⊢
   rcases hi' with hi'|hi'
   ·exact .inl (hcl i' o' ho' hi' d hdd)
   ·have:=eAc hi'
    subst this
    rw [hol] at ho'; cases ho'
    exact .inl (hd d hdd)
  have hlt:i<m+5:=by rw [←hz]; exact (eAe.1 ho).1
  have hge:¬ i<m:=fun hlt=>by rw [hpre i hlt] at hi; cases hi
  have hcase:i=m∨i=m+1∨i=m+2∨i=m+3∨i=m+4:=by omega
  rcases hcase with rfl|rfl|rfl|rfl|rfl
  ·rw [o0] at ho; cases ho
   have hB:S (i+1)=false:=by
    cases hb:S (i+1) with
    |false=>rfl
    |true=>rw [anc o1 hb g1] at hi; cases hi
   obtain ⟨tm',w',s',hS',hds',hst⟩:=v0w hT hR hO hS hds (k:=k) (cs:=cs) (rest:=l) o0 hi hB
   obtain ⟨tm2,w2,f1,f2,f3,f4⟩:=ih hpre' (by simp [h4,y17]) hcl' (by simpa [y17] using hS') hds'
   exact ⟨tm2,w2,f1,f2,f3,hst.trans f4⟩
  ·rw [o1] at ho; cases ho
   have hL:S m=true:=z1n hcl (tl o1) hd m g1
   obtain ⟨tm',w',s',hS',hds',hst⟩:=v0y hT hR hO hS hds (k:=k) (cs:=cs) (rest:=l) o1 hL hi
   obtain ⟨tm2,w2,f1,f2,f3,f4⟩:=ih hpre' (by simp [h4,y17]) hcl' (by simpa [y17] using hS') hds'
   exact ⟨tm2,w2,f1,f2,f3,hst.trans f4⟩
  ·rw [o2] at ho; cases ho
   have hX:S (m+3)=false:=by
    cases hb:S (m+3) with
    |false=>rfl
    |true=>rw [anc o3 hb g2] at hi; cases hi
   obtain ⟨tm',w',s',hS',hds',hst⟩:=v0v hT hR hO hS hds (k:=k) (cs:=cs) (rest:=l) o2 hi hX
   obtain ⟨tm2,w2,f1,f2,f3,f4⟩:=ih hpre' (by simp [h4,y17]) hcl' (by simpa [y17] using hS') hds'
   exact ⟨tm2,w2,f1,f2,f3,hst.trans f4⟩
  ·rw [o3] at ho; cases ho
   have hM:S (m+2)=true:=z1n hcl (tl o3) hd (m+2) g2
   obtain ⟨tm',w',s',hS',hds',hst⟩:=v0u hT hR hO hS hds (k:=k) (cs:=cs) (rest:=l) o3 hM hi
   obtain ⟨tm2,w2,f1,f2,f3,f4⟩:=ih hpre' (by simp [h4,y17]) hcl' (by simpa [y17] using hS') hds'
   exact ⟨tm2,w2,f1,f2,f3,hst.trans f4⟩
  ·rw [o4] at ho; cases ho
   have hB:S (m+1)=true:=z1n hcl (tl o4) hd (m+1) g3
   have hX:S (m+3)=true:=z1n hcl (tl o4) hd (m+3) g4
   have hL:S m=true:=anc o1 hB g1
   have hM:S (m+2)=true:=anc o3 hX g2
   obtain ⟨tm',w',f1,f2,f3,hst⟩:=v0x hT hR hO hS hds (k:=k) (cs:=cs) (rest:=l) o4 hL hB hM hX
   have hnil:l=[]:=by
    cases h with
    |nil=>rfl
    |cons _ i' o' _ hi' ho' _ _=>
     exfalso
     have:=(eAe.1 ho').1
     have hc:i'<m∨i'=m∨i'=m+1∨i'=m+2∨i'=m+3∨i'=m+4:=by omega
     rcases hc with h|rfl|rfl|rfl|rfl|rfl
     ·simp [hpre _ h] at hi'
     ·simp [hL] at hi'
     ·simp [hB] at hi'
     ·simp [hM] at hi'
     ·simp [hX] at hi'
     ·simp at hi'
   subst hnil
   exact ⟨tm',w',f1,f2,f3,hst.trans (.one z7g)⟩
theorem w2a {T : TypeId → Option TI} (hm : P.follows .mixedOrders = true) (hT : y0f P T) {n : Nat} {idr : Nat} {ops : Array Oper} {s0 : AS} {Q : AX → AS → Prop} (hn : n ≤ s0.heap.length) (hind : y5f ops.toList = true) (hed : z6h ops.toList = true) (hie : y2u ops.toList = true)
    {pre : List Oper} {x : x6p} (hof : w5a ops.toList = some (pre, x)) {K : AS → Prop} (hds : DS P T ops.toList s0.nt s0.heap.length K [] 0 pre s0)
    (hK : ∀ s1, K s1 → s1.nt = s0.nt → ∃ id kd es ti ks ka ez q r y, x47 T x s1 id kd es ti ks ka ez q r y ∧ Q .normal (x57 x s1 id (z5l q r ez) y (z7c es q r kd y))) : z5u P n (.region idr ops true) s0 Q := ⟨by
  intro b k cs ρ tm ds w B h1 h2
  obtain ⟨x', hp, e1, e2⟩ : ∃ x', w9b (ops.toList.drop (ops.toList.length - 5)) = some x' ∧ pre = ops.toList.take (ops.toList.length - 5) ∧ x = x' := by
    unfold w5a at hof
    split at hof
    · rename_i x' hp
      cases hof
      exact ⟨_, hp, rfl, rfl⟩
    · cases hof
  subst e1; subst e2
  obtain ⟨L, Bo, M, X, E, hl5, hO⟩ := w49 hp
  have hlen5 : ops.toList.length - (ops.toList.length - 5) = 5 := by
    have := congrArg List.length hl5
    simpa using this
  have hsz : ops.toList.length = (ops.toList.length - 5) + 5 := by omega
  have hsplit : ops.toList = ops.toList.take (ops.toList.length - 5) ++ [L, Bo, M, X, E] := by
    rw [← hl5, List.take_append_drop]
  generalize hm' : ops.toList.length - 5 = m at *
  have htl : (ops.toList.take m).length = m := by rw [eBv]; omega
  have at5 : ∀ j (o : Oper), [L, Bo, M, X, E][j]? = some o → ops[m + j]? = some o := by
    intro j o hj
    rw [← eAj, hsplit, eCv (by rw [htl]; omega), htl]
    simpa using hj
  have hz : ops.size = m + 5 := by simpa using hsz
  obtain ⟨recs, r1, r2, r3, r4⟩ := hds.recs (s0 := s0) [] [L, Bo, M, X, E] [] (by simpa using hsplit) rfl rfl rfl (by simp) rfl (fun j o hj => by omega) (fun j o hj => by omega)
  have hrl : recs.length = m := by
    simp only [eBi, List.length_nil] at r1; omega
  unfold y2u at hie
  rw [hm'] at hie
  simp only [eAb] at hie
  obtain ⟨⟨g1, g2, g3, g4⟩, hall⟩ := hie
  have htail : ∀ (i : Nat) (o : Oper), ops[i]? = some o → recs.length ≤ i → ∀ j, j < recs.length → (z52 (z9o ops.toList []) i).testBit j = true := by
    intro i o ho hi j hj
    have hil : i < ops.toList.length := by simpa using (eAe.1 ho).1
    have := eAr.1 hall i (eBo.2 hil)
    rw [eAq] at this
    rcases this with h | h
    · have : i < m := eAf h
      omega
    · exact eAr.1 h j (eBo.2 (by omega))
  have hw := z0a.drawn h1.heap (w.drawn + 1) (z0m.succ _)
  have hxd := Ext.drawn (· < n) ρ s0.heap w (w.drawn + 1) (z0m.succ _)
  have hI : Inv P ops.toList s0 recs (fun _ => false) ρ tm { w with drawn := w.drawn + 1 } s0 :=
    { nt := rfl
      env := fun t => by
        have : ∀ m, y4w s0 ops.toList recs (fun _ => false) t m = z1k s0.env t := by
          intro m
          induction m with
          | zero => rfl
          | succ m ih => simp only [y4w]; split <;> simp [ih]
        rw [this]
      heap := fun id => by
        have : ∀ m, y23 s0 ops.toList recs (fun _ => false) id m = z0e s0.heap id := by
          intro m
          induction m with
          | zero => rfl
          | succ m ih => simp only [y23]; split <;> simp [ih]
        rw [this]
      st := ⟨hw, fun t => (h1.env t).keep hxd.keep (fun _ _ h => h), h1.size, h1.dom⟩
      dom := fun id h => .inl (h1.dom id h)
      turned := by simp
      closed := by simp }
  obtain ⟨s', ρ', tm', w', S', l', p1, p2, p3, p4, p5, p6, p7⟩ := y4o hT hind (by omega) (fun i o r ho hr => r2 i o r (by rw [eAj]; exact ho) hr) (fun i o hi ho => r3 i o hi (by rw [eAj]; exact ho)) htail (b := b) (k := k) (cs := cs) (ds := ds) (B := B) (z8i hed (w.tape w.drawn (.order b.fn idr))) (by simp) hI (h2.keep h1.heap hxd)
  have hE : ∀ t, z1k (stF s0 ops.toList recs recs.length).env t = z1k s'.env t := by
    intro t
    rw [p1.env t]
    exact (y1b _ _ _ _ t recs.length _ (by rw [hrl]; omega) (fun j o _ _ hj => p3 j hj) (fun j o _ _ hj _ => by
      cases hb : S' j with
      | false => rfl
      | true => have := p4 j hb; omega)).symm
  have hH : ∀ id, z0e s'.heap id = z0e (stF s0 ops.toList recs recs.length).heap id := by
    intro id
    rw [p1.heap id]
    exact y1a _ _ _ _ id recs.length _ (by rw [hrl]; omega) (fun j r _ _ hj => p3 j hj) (fun j r _ _ hj _ => by
      cases hb : S' j with
      | false => rfl
      | true => have := p4 j hb; omega)
  obtain ⟨q1, q2⟩ := x12 s0 ops.toList recs recs.length
  have hnt : (stF s0 ops.toList recs recs.length).nt = s0.nt := x28 _ _ _ _
  have hst : z1p P ρ' (stF s0 ops.toList recs recs.length) tm' w' :=
    ⟨p1.st.heap.ext hH, fun t => by rw [hE, ← z2w hH]; exact p1.st.env t, by rw [hnt, ← p1.nt]; exact p1.st.size, fun id hid => by
      rcases p1.dom id hid with h | ⟨j, r, a1, a2, a3, x, a4⟩
      · omega
      · have hj : j < ops.size := by have := (eAd.1 a2).1; omega
        exact q2 j ops[j] r (p4 j a1) (by rw [eAj]; exact eAm hj) a2 id x a4⟩
  obtain ⟨id, kd, es, ti, ks, ka, ez, q, r, y, hR, hQ⟩ := hK _ r4 hnt
  have f0 : S' m = false := by
    cases hb : S' m with
    | false => rfl
    | true => have := p4 m hb; omega
  have f1 : S' (m + 1) = false := by
    cases hb : S' (m + 1) with
    | false => rfl
    | true => have := p4 _ hb; omega
  have f2 : S' (m + 2) = false := by
    cases hb : S' (m + 2) with
    | false => rfl
    | true => have := p4 _ hb; omega
  have f3 : S' (m + 3) = false := by
    cases hb : S' (m + 3) with
    | false => rfl
    | true => have := p4 _ hb; omega
  have f4 : S' (m + 4) = false := by
    cases hb : S' (m + 4) with
    | false => rfl
    | true => have := p4 _ hb; omega
  have hS : St P x (stF s0 ops.toList recs recs.length) id kd ks ka (z5l q r ez) y (ent es q r kd ez) (z7c es q r kd) ρ' w' (S' m) (S' (m + 1)) (S' (m + 2)) (S' (m + 3)) tm' w' (stF s0 ops.toList recs recs.length) :=
    ⟨rfl, rfl, fun t => by simp [z7r, f0, f1, f2, f3], fun i => by simp [f2], hst, Ext.refl _ _ _ _, fun h => by rw [f2] at h; cases h⟩
  obtain ⟨tm2, w2, t1, t2, t3, t4⟩ := w48 hT hR hO hz (at5 0 _ rfl) (at5 1 _ rfl) (at5 2 _ rfl) (at5 3 _ rfl) (at5 4 _ rfl) g1 g2 g3 g4 p2 (b := b) (k := k) (cs := cs) (ds := ds) (B0 := B) (fun j hj => p3 j (by omega)) f4 p1.closed hS p5
  refine ⟨.normal, _, ρ', tm2, ds, w2, hQ, t1, t2, by rw [show (x57 x (stF s0 ops.toList recs recs.length) id (z5l q r ez) y (z7c es q r kd y)).nt = (stF s0 ops.toList recs recs.length).nt from rfl, hnt], ?_, ?_⟩
  · have e1 := p6.mono (S' := (· < n)) (fun id (hid : id < n) => by show id < s0.heap.length; omega)
    have e1' : Ext (· < n) ρ s0.heap { w with drawn := w.drawn + 1 } ρ' (stF s0 ops.toList recs recs.length).heap w' := ⟨e1.os, e1.tape, e1.output, by rw [← z2w hH]; exact e1.keep, e1.rho, e1.fr, e1.frs⟩
    have e2 := t3.mono (S' := (· < n)) (fun id (hid : id < n) => by show id < _; omega)
    exact hxd.trans (e1'.trans e2)
  · have hst := z6e (P := P) (b := b) (tm := tm) (ds := ds) (k := k) (cs := cs) (w := w) (id := idr) (ops := ops)
    rw [hm] at hst
    exact .head hst (p7.trans t4)⟩
end
end Go.Am
end
section
namespace Go.Am
section
variable {P:Program}
def z1e (ops:List Oper) (m:Nat):Bool:=
 let an:=z9o ops []
 (List.range ops.length).all fun i=>Nat.blt i m||(List.range i).all fun j=>Nat.testBit (z52 an i) j
theorem y10 {ops:List Oper} {m:Nat} (h:z1e ops m=true) {i:Nat} (hi:i<ops.length) (hm:m≤i) {j:Nat} (hj:j<i):(z52 (z9o ops []) i).testBit j=true:=by
 have:=eAr.1 h i (eBo.2 hi)
 rw [eAq] at this
 rcases this with h|h
 ·have:i<m:=eAf h
  omega
 ·exact eAr.1 h j (eBo.2 hj)
def z82 (ops:List Oper):Nat→List Oper→Nat
 |i,[]=>i
 |i,o::l=>match o.op with
  | .call ⟨.value _,_,_⟩=>bif z1e ops i then i else z82 ops (i+1) l
  |_=>z82 ops (i+1) l
def x6z (ops:List Oper):Nat:=z82 ops 0 ops
theorem y0k (ops:List Oper):z1e ops ops.length=true:=by
 unfold z1e
 simp only [eAr,eBo,eAq]
 intro i hi
 exact .inl (eBg hi)
theorem z9t (ops:List Oper):∀ (l:List Oper) (i:Nat),i+l.length=ops.length→z82 ops i l≤ops.length∧z1e ops (z82 ops i l)=true
 |[],i,h=>by
  simp only [List.length_nil,eAt] at h
  subst h
  exact ⟨eAk _,y0k ops⟩
 |o::l,i,h=>by
  have ih:=z9t ops l (i+1) (by simp only [eBi] at h; omega)
  unfold z82
  split
  ·cases hb:z1e ops i with
   |true=>exact ⟨by simp only [eBi] at h; simp only [cond_true]; omega,hb⟩
   |false=>exact ih
  ·exact ih
def z6l (ops:List Oper):Nat→List Oper→Nat
 |i,[]=>i
 |i,o::l=>match o.op with
  | .call ⟨.builtin .append,_,_⟩=>bif z1e ops i then i else z6l ops (i+1) l
  |_=>z6l ops (i+1) l
theorem z8a (ops:List Oper):∀ (l:List Oper) (i:Nat),i+l.length=ops.length→z6l ops i l≤ops.length∧z1e ops (z6l ops i l)=true
 |[],i,h=>by
  simp only [List.length_nil,eAt] at h
  subst h
  exact ⟨eAk _,y0k ops⟩
 |o::l,i,h=>by
  have ih:=z8a ops l (i+1) (by simp only [eBi] at h; omega)
  unfold z6l
  split
  ·cases hb:z1e ops i with
   |true=>exact ⟨by simp only [eBi] at h; simp only [cond_true]; omega,hb⟩
   |false=>exact ih
  ·exact ih
def x0i (an j:Nat):Bool:=Nat.beq (Nat.land an (Nat.sub (Nat.pow 2 j) 1)) (Nat.sub (Nat.pow 2 j) 1)
theorem w1k {an j:Nat} (h:x0i an j=true) {i:Nat} (hi:i<j):an.testBit i=true:=by
 have h:an&&&(2 ^ j - 1)=2 ^ j - 1:=eAc h
 have h2:=congrArg (fun n=>n.testBit i) h
 simp only [Nat.testBit_and,Nat.testBit_two_pow_sub_one,hi,decide_true,eCc] at h2
 exact h2
def y7i:Nat→Nat→List Nat→Nat
 |_,m,[]=>m
 |j,m,an::asq=>y7i (j+1) (bif x0i an j then m else j+1) asq
theorem y7h:∀ (asq:List Nat) (j m:Nat),m≤y7i j m asq∨j<y7i j m asq
 |[],j,m=> .inl (eAk _)
 |an::asq,j,m=>by
  simp only [y7i]
  cases x0i an j with
  |true=>rcases y7h asq (j+1) m with h|h<;>simp only [cond_true]; exact .inl h; exact .inr (by omega)
  |false=>rcases y7h asq (j+1) (j+1) with h|h<;>simp only [cond_false]<;>exact .inr (by omega)
theorem y7g : ∀ (asq : List Nat) (j m n : Nat), m ≤ n → j + asq.length ≤ n → y7i j m asq ≤ n
  | [], j, m, n, h, _ => h
  | an :: asq, j, m, n, h, h2 => by
    simp only [eBi] at h2
    simp only [y7i]
    cases x0i an j with
    | true => exact y7g asq (j + 1) m n h (by omega)
    | false => exact y7g asq (j + 1) (j + 1) n (by omega) (by omega)
theorem y5t : ∀ (asq : List Nat) (j m k : Nat), m ≤ j → y7i j m asq ≤ j + k → k < asq.length → x0i (z52 asq k) (j + k) = true
  | [], j, m, k, _, _, hk => by simp at hk
  | an :: asq, j, m, k, hm, h, hk => by
    simp only [y7i] at h
    cases k with
    | zero =>
      cases hf : x0i an j with
      | true => exact hf
      | false =>
        rw [hf] at h
        rcases y7h asq (j + 1) (j + 1) with h1 | h1 <;> simp only [cond_false] at h <;> omega
    | succ k =>
      have hm2 : (bif x0i an j then m else j + 1) ≤ j + 1 := by cases x0i an j <;> simp only [cond_true, cond_false] <;> omega
      have := y5t asq (j + 1) _ k hm2 (by rw [show j + 1 + k = j + (k + 1) by omega]; exact h) (by simpa using hk)
      rw [show j + (k + 1) = j + 1 + k by omega]; exact this
def x60 (ops:List Oper):Nat:=y7i 0 0 (z9o ops [])
theorem x24 (ops:List Oper):x60 ops≤ops.length∧z1e ops (x60 ops)=true:=by
 refine ⟨y7g _ 0 0 _ (eAv _) (by rw [y0e]; simp),?_⟩
 unfold z1e
 simp only [eAr,eBo,eAq]
 intro i hi
 by_cases h:i<x60 ops
 ·exact .inl (eBg h)
 ·refine .inr fun j hj=>?_
  have:=y5t (z9o ops []) 0 0 i (eAk _) (by unfold x60 at h; omega) (by rw [y0e]; simpa using hi)
  rw [eAp] at this
  exact w1k this hj
def y43 (tk cl:Bool) (ops:List Oper):Nat:=bif cl then x60 ops else bif tk then z6l ops 0 ops else x6z ops
theorem x6y (ops:List Oper):x6z ops≤ops.length:=(z9t ops ops 0 (by omega)).1
theorem y9a (ops:List Oper):z1e ops (x6z ops)=true:=(z9t ops ops 0 (by omega)).2
theorem w0h (tk cl:Bool) (ops:List Oper):y43 tk cl ops≤ops.length:=by
 cases cl
 ·cases tk
  ·exact x6y ops
  ·exact (z8a ops ops 0 (by omega)).1
 ·exact (x24 ops).1
theorem x1j (tk cl:Bool) (ops:List Oper):z1e ops (y43 tk cl ops)=true:=by
 cases cl
 ·cases tk
  ·exact y9a ops
  ·exact (z8a ops ops 0 (by omega)).2
 ·exact (x24 ops).2
theorem w01 {ops:Array Oper} {S:Nat→Bool} {l:List Nat} (hl:Ord ops S l):∀ (q:Nat),q≤ops.size→(∀ j,S j=true↔j<q)→(∀ (i:Nat) (o:Oper),ops.toList[i]?=some o→S i=true→∀ d∈z38 o,S d=true)→z1e ops.toList q=true→l=List.range' q (ops.size - q):=by
 induction hl with
 |nil S h=>
  intro q hq hS _ _
  have:¬ q<ops.size:=fun hlt=>by
   have:=(hS q).1 (h q hlt)
   omega
  rw [show ops.size - q=0 by omega]; rfl
 |cons S i o l hi ho hd h ih=>
  intro q hq hS hcl ht
  have hol:ops.toList[i]?=some o:=by rw [eAj]; exact ho
  have hlt:i<ops.size:=(eAe.1 ho).1
  have hge:q≤i:=by
   rcases eBw i q with h|h
   ·rw [(hS i).2 h] at hi; cases hi
   ·exact h
  have hiq:i=q:=by
   rcases eBw q i with hlt2|h2
   ·have:=z1n hcl hol hd q (y10 ht (by simpa using hlt) hge hlt2)
    have:=(hS q).1 this
    omega
   ·omega
  subst hiq
  have:=ih (i+1) hlt (fun j=>by
   simp only [eAq]
   constructor
   ·rintro (h|h)
    ·have:=(hS j).1 h; omega
    ·have:=eAc h; omega
   ·intro h
    by_cases he:j=i
    ·subst he; exact .inr (eCs _)
    ·exact .inl ((hS j).2 (by omega))) (fun k p hk hSk d hdd=>by
   simp only [eAq] at hSk⊢
   rcases hSk with h|h
   ·exact .inl (hcl k p hk h d hdd)
   ·have:=eAc h
    subst this
    rw [hol] at hk; cases hk
    exact .inl (hd d hdd)) (by
   unfold z1e at ht⊢
   simp only [eAr,eBo,eAq] at ht⊢
   intro k hk
   rcases ht k hk with h|h
   ·have:k<i:=eAf h
    exact .inl (eBg (by omega))
   ·exact .inr h)
  rw [this,show ops.size - i=(ops.size - (i+1))+1 by omega,List.range'_succ]
theorem x85 {T : TypeId → Option TI} (hm : P.follows .mixedOrders = true) (hT : y0f P T) {n : Nat} {idr : Nat} {ops : Array Oper} {s0 : AS} {Q : AX → AS → Prop} (hn : n ≤ s0.heap.length) (hind : y5f ops.toList = true) (hed : z6h ops.toList = true)
    {m : Nat} (hml : m ≤ ops.size) (hte : z1e ops.toList m = true) {K : AS → Prop} (hds : DS P T ops.toList s0.nt s0.heap.length K [] 0 (ops.toList.take m) s0)
    (hK : ∀ s1, K s1 → s1.nt = s0.nt → s0.heap.length ≤ s1.heap.length → y80 P n ops (List.range' m (ops.size - m)) s1 (Q .normal)) : z5u P n (.region idr ops true) s0 Q := ⟨by
  intro b k cs ρ tm ds w B h1 h2
  have htl : (ops.toList.take m).length = m := by rw [eBv]; simp; omega
  obtain ⟨recs, r1, r2, r3, r4⟩ := hds.recs (s0 := s0) [] (ops.toList.drop m) [] (by simp) rfl rfl rfl (by simp) rfl (fun j o hj => by omega) (fun j o hj => by omega)
  have hrl : recs.length = m := by
    rw [eCx] at r1
    have : ops.toList.length = ops.size := eBa
    omega
  have htail : ∀ (i : Nat) (o : Oper), ops[i]? = some o → recs.length ≤ i → ∀ j, j < recs.length → (z52 (z9o ops.toList []) i).testBit j = true := by
    intro i o ho hi j hj
    exact y10 hte (by simpa using (eAe.1 ho).1) (by omega) (by omega)
  have hw := z0a.drawn h1.heap (w.drawn + 1) (z0m.succ _)
  have hxd := Ext.drawn (· < n) ρ s0.heap w (w.drawn + 1) (z0m.succ _)
  have hI : Inv P ops.toList s0 recs (fun _ => false) ρ tm { w with drawn := w.drawn + 1 } s0 :=
    { nt := rfl
      env := fun t => by
        have : ∀ m, y4w s0 ops.toList recs (fun _ => false) t m = z1k s0.env t := by
          intro m
          induction m with
          | zero => rfl
          | succ m ih => simp only [y4w]; split <;> simp [ih]
        rw [this]
      heap := fun id => by
        have : ∀ m, y23 s0 ops.toList recs (fun _ => false) id m = z0e s0.heap id := by
          intro m
          induction m with
          | zero => rfl
          | succ m ih => simp only [y23]; split <;> simp [ih]
        rw [this]
      st := ⟨hw, fun t => (h1.env t).keep hxd.keep (fun _ _ h => h), h1.size, h1.dom⟩
      dom := fun id h => .inl (h1.dom id h)
      turned := by simp
      closed := by simp }
  obtain ⟨s', ρ', tm', w', S', l', p1, p2, p3, p4, p5, p6, p7⟩ := y4o hT hind (by omega) (fun i o r ho hr => r2 i o r (by rw [eAj]; exact ho) hr) (fun i o hi ho => r3 i o hi (by rw [eAj]; exact ho)) htail (b := b) (k := k) (cs := cs) (ds := ds) (B := B) (z8i hed (w.tape w.drawn (.order b.fn idr))) (by simp) hI (h2.keep h1.heap hxd)
  have hl' := w01 p2 m hml (fun j => ⟨fun h => by have := p4 j h; omega, fun h => p3 j (by omega)⟩) p1.closed hte
  subst hl'
  have hE : ∀ t, z1k (stF s0 ops.toList recs recs.length).env t = z1k s'.env t := by
    intro t
    rw [p1.env t]
    exact (y1b _ _ _ _ t recs.length _ (by rw [hrl]; simpa using hml) (fun j o _ _ hj => p3 j hj) (fun j o _ _ hj _ => by
      cases hb : S' j with
      | false => rfl
      | true => have := p4 j hb; omega)).symm
  have hH : ∀ id, z0e s'.heap id = z0e (stF s0 ops.toList recs recs.length).heap id := by
    intro id
    rw [p1.heap id]
    exact y1a _ _ _ _ id recs.length _ (by rw [hrl]; simpa using hml) (fun j r _ _ hj => p3 j hj) (fun j r _ _ hj _ => by
      cases hb : S' j with
      | false => rfl
      | true => have := p4 j hb; omega)
  obtain ⟨q1, q2⟩ := x12 s0 ops.toList recs recs.length
  have hnt : (stF s0 ops.toList recs recs.length).nt = s0.nt := x28 _ _ _ _
  have hst : z1p P ρ' (stF s0 ops.toList recs recs.length) tm' w' :=
    ⟨p1.st.heap.ext hH, fun t => by rw [hE, ← z2w hH]; exact p1.st.env t, by rw [hnt, ← p1.nt]; exact p1.st.size, fun id hid => by
      rcases p1.dom id hid with h | ⟨j, r, a1, a2, a3, x, a4⟩
      · omega
      · have hj : j < ops.size := by have := (eAd.1 a2).1; omega
        exact q2 j ops[j] r (p4 j a1) (by rw [eAj]; exact eAm hj) a2 id x a4⟩
  obtain ⟨s2, ρ2, tm2, w2, t1, t2, t3, t4, t5, t6⟩ := (hK _ r4 hnt q1).run b k cs ρ' tm' ds w' B hst p5
  refine ⟨.normal, s2, ρ2, tm2, ds, w2, t1, t2, t3, by rw [t4, hnt], ?_, ?_⟩
  · have e1 := p6.mono (S' := (· < n)) (fun id (hid : id < n) => by show id < s0.heap.length; omega)
    have e1' : Ext (· < n) ρ s0.heap { w with drawn := w.drawn + 1 } ρ' (stF s0 ops.toList recs recs.length).heap w' := ⟨e1.os, e1.tape, e1.output, by rw [← z2w hH]; exact e1.keep, e1.rho, e1.fr, e1.frs⟩
    exact hxd.trans (e1'.trans t5)
  · have hst := z6e (P := P) (b := b) (tm := tm) (ds := ds) (k := k) (cs := cs) (w := w) (id := idr) (ops := ops)
    rw [hm] at hst
    exact .head hst (p7.trans t6)⟩
end
end Go.Am
end
section
namespace Go.Am
mutual
def eqD:D→D→Bool
 | .bool a, .bool b=>a==b
 | .int k a, .int k' b=>(k==k')&&(a==b)
 | .str a, .str b=>a.data.toList==b.data.toList
 | .list f z es, .list f' z' es'=>(f==f')&&(Nat.beq z z'&&x0v es es')
 | .agg l, .agg l'=>w5n l l'
 | .nilp, .nilp=>true
 | .nilm, .nilm=>true
 | .nilf, .nilf=>true
 | .nili, .nili=>true
 | .ref l, .ref l'=>w5n l l'
 |_,_=>false
def w5n:List D→List D→Bool
 |[],[]=>true
 |x::l,y::m=>eqD x y&&w5n l m
 |_,_=>false
def x0v:List (List D)→List (List D)→Bool
 |[],[]=>true
 |x::l,y::m=>w5n x y&&x0v l m
 |_,_=>false
end
mutual
theorem y03:(a b:D)→eqD a b=true→a=b
 | .bool a,b,h=>by
  cases b<;>simp only [eqD,eAi] at h
  rename_i b; rw [beq_iff_eq.1 h]
 | .int k a,b,h=>by
  cases b<;>simp only [eqD,eAi,eAb] at h
  rw [beq_iff_eq.1 h.1,beq_iff_eq.1 h.2]
 | .str a,b,h=>by
  cases b<;>simp only [eqD,eAi] at h
  rename_i b
  have:=beq_iff_eq.1 h
  cases a; cases b
  simp only at this
  rw [Array.toList_inj.1 this]
 | .list f z es,b,h=>by
  cases b<;>simp only [eqD,eAi,eAb] at h
  rw [beq_iff_eq.1 h.1,eAc h.2.1,z67 _ _ h.2.2]
 | .agg l,b,h=>by
  cases b<;>simp only [eqD,eAi] at h
  rw [y02 _ _ h]
 | .nilp,b,h=>by cases b<;>first|rfl|(simp only [eqD,eAi] at h)
 | .nilm,b,h=>by cases b<;>first|rfl|(simp only [eqD,eAi] at h)
 | .nilf,b,h=>by cases b<;>first|rfl|(simp only [eqD,eAi] at h)
 | .nili,b,h=>by cases b<;>first|rfl|(simp only [eqD,eAi] at h)
 | .ref l,b,h=>by
  cases b<;>simp only [eqD,eAi] at h
  rw [y02 _ _ h]
theorem y02:(a b:List D)→w5n a b=true→a=b
 |[],b,h=>by cases b<;>first|rfl|(simp only [w5n,eAi] at h)
 |x::l,b,h=>by
  cases b<;>simp only [w5n,eAi,eAb] at h
  rw [y03 _ _ h.1,y02 _ _ h.2]
theorem z67:(a b:List (List D))→x0v a b=true→a=b
 |[],b,h=>by cases b<;>first|rfl|(simp only [x0v,eAi] at h)
 |x::l,b,h=>by
  cases b<;>simp only [x0v,eAi,eAb] at h
  rw [y02 _ _ h.1,z67 _ _ h.2]
end
def w6g:List (D×D)→List (D×D)→Bool
 |[],[]=>true
 |(k,x)::l,(k',y)::m=>eqD k k'&&(eqD x y&&w6g l m)
 |_,_=>false
theorem x0u:∀ (a b:List (D×D)),w6g a b=true→a=b
 |[],b,h=>by cases b<;>first|rfl|(simp only [w6g,eAi] at h)
 |(k,x)::l,b,h=>by
  cases b with
  |nil=>simp only [w6g,eAi] at h
  |cons y m=>
   obtain ⟨k',y⟩:=y
   simp only [w6g,eAb] at h
   rw [y03 _ _ h.1,y03 _ _ h.2.1,x0u _ _ h.2.2]
def w3d:List AV→List AV→Bool
 |[],[]=>true
 | .d x::l, .d y::m=>eqD x y&&w3d l m
 |_,_=>false
theorem x0w:∀ (a b:List AV),w3d a b=true→a=b
 |[],b,h=>by cases b<;>first|rfl|(simp only [w3d,eAi] at h)
 |x::l,b,h=>by
  cases b with
  |nil=>cases x<;>simp only [w3d,eAi] at h
  |cons y m=>
   cases x<;>try (simp only [w3d,eAi] at h)
   cases y<;>try (simp only [w3d,eAi] at h)
   simp only [w3d,eAb] at h
   rw [y03 _ _ h.1,x0w _ _ h.2]
def eqO:AO→AO→Bool
 | .dead, .dead=>true
 | .row a, .row b=>x0v a b
 | .box a, .box b=>w3d a b
 | .map a, .map b=>w6g a b
 |_,_=>false
theorem w1u (a b:AO) (h:eqO a b=true):a=b:=by
 cases a<;>cases b<;>simp only [eqO,eAi] at h
 ·rfl
 ·rw [x0w _ _ h]
 ·rw [z67 _ _ h]
 ·rw [x0u _ _ h]
def eqH:List AO→List AO→Bool
 |[],[]=>true
 |a::l,b::m=>eqO a b&&eqH l m
 |_,_=>false
theorem x4j:∀ (a b:List AO),eqH a b=true→a=b
 |[],b,h=>by cases b<;>first|rfl|(simp only [eqH,eAi] at h)
 |x::l,b,h=>by
  cases b<;>simp only [eqH,eAi,eAb] at h
  rw [w1u _ _ h.1,x4j _ _ h.2]
def x59:AO→Bool
 | .dead=>true
 | .row _=>true
 | .map _=>true
 | .box l=>match y8x l with
  |some _=>true
  |none=>false
 |_=>false
mutual
def inT (T:Nat→Bool):AV→Bool
 | .bot=>true
 | .d _=>true
 | .bptr id _=>T id
 | .ptr id _ _=>T id
 | .slice id _ _ _ _=>T id
 | .map id=>T id
 | .clo _ fs cs=>w1h T fs&&w1h T cs
 | .agg l=>w1h T l
 | .tuple l=>w1h T l
 |_=>false
def w1h (T:Nat→Bool):List AV→Bool
 |[]=>true
 |x::l=>inT T x&&w1h T l
end
theorem z9c {T:Nat→Bool}:∀ {l:List AV},w1h T l=true→∀ (i:Nat) (x:AV),l[i]?=some x→inT T x=true
 |[],_,i,x,h=>by simp at h
 |y::l,h,i,x,hi=>by
  simp only [w1h,eAb] at h
  cases i with
  |zero=>simp at hi; subst hi; exact h.1
  |succ i=>exact z9c h.2 i x (by simpa using hi)
theorem z0i.restr {T:Nat→Bool} {ρ ρ':Rho} {O:Nat→Prop} {w:World} (hρ:∀ id L,T id=true→ρ id=some L→ρ' id=some L) {x:AV} {v:Value} (h:z0i ρ O w x v):inT T x=true→z0i ρ' O w x v:=by
 induction h with
 |bot v=>intro _; exact .bot v
 |d h=>intro _; exact .d h
 |bptr id off L h=>intro hi; exact .bptr id off L (hρ _ _ hi h)
 |ptr id i off L h=>intro hi; exact .ptr id i off L (hρ _ _ hi h)
 |slice id z off len cap L a c h hz ha hc hl=>intro hi; exact .slice id z off len cap L a c (hρ _ _ hi h) hz ha hc hl
 |nils id z off cap a hc=>intro _; exact .nils id z off cap a hc
 |map id L h=>intro hi; exact .map id L (hρ _ _ hi h)
 |clo fn fs cs vf vc hf hc h1 h2 ih1 ih2=>
  intro hi
  simp only [inT,eAb] at hi
  exact .clo fn fs cs vf vc hf hc (fun i x hx=>ih1 i x hx (z9c hi.1 i x hx)) (fun i x hx=>ih2 i x hx (z9c hi.2 i x hx))
 |agg xs vs hl h ih=>intro hi; exact .agg xs vs hl fun i x hx=>ih i x hx (z9c (by simpa only [inT] using hi) i x hx)
 |tuple xs vs hl h ih=>intro hi; exact .tuple xs vs hl fun i x hx=>ih i x hx (z9c (by simpa only [inT] using hi) i x hx)
 |_=>intro hi; simp [inT] at hi
theorem x48 {h:List AO} {T:Nat→Bool} {o:AO} (hf:x59 o=true):x49 h T o=o:=by
 cases o with
 |dead=>rfl
 |row es=>rfl
 |map es=>rfl
 |box l=>
  simp only [x59] at hf
  cases hd:y8x l with
  |none=>rw [hd] at hf; cases hf
  |some ds=>
   rw [z1i hd]
   simp only [x49,z7b]
   congr 1
   apply eBd
   intro i
   rw [eAg,z03]
   cases ds[i]?<;>rfl
 |arow es=>cases hf
 |loop st pd g pos nt env=>cases hf
theorem z0u.flat {P:Program} {ρ ρ':Rho} {O:Nat→Prop} {w:World} {L:Loc} {o:AO} (hf:x59 o=true) (h:z0u P ρ O w L o):z0u P ρ' O w L o:=by
 cases o with
 |dead=>trivial
 |row es=>exact h
 |map es=>exact h
 |box l=>
  simp only [x59] at hf
  cases hd:y8x l with
  |none=>rw [hd] at hf; cases hf
  |some ds=>
   obtain ⟨hbase,c,t,hc,hj⟩:=h
   refine ⟨hbase,c,t,hc,fun j x hx=>?_⟩
   obtain ⟨v,hv,hr⟩:=hj j x hx
   rw [z1i hd,z03] at hx
   cases hq:ds[j]? with
   |none=>rw [hq] at hx; cases hx
   |some d=>
    rw [hq] at hx; cases hx
    cases hr with|d hr=>exact ⟨v,hv, .d hr⟩
 |arow es=>cases hf
 |loop st pd g pos nt env=>cases hf
theorem z2z.widen {P:Program} {g:FuncId} {args:List AV} {r:AV} {h h2 hV:List AO} {T:Nat→Bool} (hT:∀ id,T id=true→id<h.length) (hfl:∀ id,T id=true→x59 (z0e h id)=true) (hargs:w1h T args=true) (hr:inT T r=true)
  (hb:z2z P g args (z2t h T 0 h) r hV) (heq:hV=z2t h T 0 h) (hag:∀ id,T id=true→z0e h2 id=z0e h id):z2z P g args h2 r h2:=⟨by
 intro ρ vs w cs hh hdm har
 subst heq
 let ρc:Rho:=⟨fun id=>if T id=true then ρ id else none,fun b=>ρ.fr b∨∃ id L,T id=false∧ρ id=some L∧(z0e h2 id).live=true∧L.blk=b⟩
 have hc1:∀ {id L},ρc id=some L→T id=true∧ρ id=some L:=fun {id L} hL=>by
  change (if T id=true then ρ id else none)=some L at hL
  split at hL
  ·rename_i ht; exact ⟨ht,hL⟩
  ·cases hL
 have hc2:∀ id L,T id=true→ρ id=some L→ρc id=some L:=fun id L ht hL=>by
  show (if T id=true then ρ id else none)=some L
  rw [if_pos ht]; exact hL
 have hRn:∀ id,z0e (z2t h T 0 h) id=if T id=true then z0e h id else .dead:=fun id=>by
  rw [z3t,eAp]
  split
  ·rename_i ht; exact x48 (hfl id ht)
  ·rfl
 have hown:z0c ρc (z2t h T 0 h)=z0c ρ h2:=by
  funext b
  apply propext
  constructor
  ·rintro ((hf|⟨id,L,_,hL,hl,rfl⟩)|⟨id,L,hL,hl,rfl⟩)
   ·exact .inl hf
   ·exact .inr ⟨id,L,hL,hl,rfl⟩
   ·obtain ⟨ht,hL⟩:=hc1 hL
    rw [hRn,if_pos ht, ←hag id ht] at hl
    exact .inr ⟨id,L,hL,hl,rfl⟩
  ·rintro (hf|⟨id,L,hL,hl,rfl⟩)
   ·exact .inl (.inl hf)
   ·cases ht:T id with
    |false=>exact .inl (.inr ⟨id,L,ht,hL,hl,rfl⟩)
    |true=>exact .inr ⟨id,L,hc2 id L ht hL,by rw [hRn,if_pos ht, ←hag id ht]; exact hl,rfl⟩
 have hhc:z0a P ρc (z2t h T 0 h) w:=by
  refine ⟨fun id L hL=>?_,fun id id' L L' h1 h2' l1 l2 hb=>?_,fun b hb=>?_,fun id L hL hl hf=>?_,hown▸hh.gl⟩
  ·obtain ⟨ht,hL⟩:=hc1 hL
   obtain ⟨hblk,ho⟩:=hh.obj id L hL
   refine ⟨hblk,?_⟩
   rw [hown,hRn,if_pos ht]
   rw [hag id ht] at ho
   exact ho.flat (hfl id ht)
  ·obtain ⟨t1,h1⟩:=hc1 h1
   obtain ⟨t2,h2'⟩:=hc1 h2'
   rw [hRn,if_pos t1, ←hag id t1] at l1
   rw [hRn,if_pos t2, ←hag id' t2] at l2
   exact hh.inj id id' L L' h1 h2' l1 l2 hb
  ·rcases hb with hb|⟨id,L,_,hL,_,rfl⟩
   ·exact hh.fr b hb
   ·exact (hh.obj id L hL).1
  ·obtain ⟨ht,hL⟩:=hc1 hL
   rw [hRn,if_pos ht, ←hag id ht] at hl
   rcases hf with hf|⟨id',L',t',hL',hl',he⟩
   ·exact hh.sep id L hL hl hf
   ·have:=hh.inj id' id L' L hL' hL hl' hl he
    subst this
    rw [ht] at t'; cases t'
 have hlen:(z2t h T 0 h).length=h.length:=z4p h T h 0
 have hdc:Dom ρc (z2t h T 0 h):=fun id hid=>by
  cases hq:ρc id with
  |none=>exact absurd hq hid
  |some L=>rw [hlen]; exact hT id (hc1 hq).1
 obtain ⟨ρ',v,w',fr,hst,hfn,hlv,hv,hh',hdm',hx⟩:=hb.run ρc vs w cs hhc hdc ⟨har.1,fun i x hx=>by
  rw [hown]
  exact (har.2 i x hx).restr hc2 (z9c hargs i x hx)⟩
 have hρ':∀ id L,ρ' id=some L→ρ id=some L:=fun id L hL=>by
  have hid:=hdm' id (by rw [hL]; simp)
  rw [hx.rho id hid] at hL
  exact (hc1 hL).2
 have hown':z0c ρ' (z2t h T 0 h)=z0c ρ h2:=by
  rw [←hown]
  funext b
  apply propext
  constructor
  ·rintro (hf|⟨id,L,hL,hl,rfl⟩)
   ·exact .inl (by rw [←hx.fr]; exact hf)
   ·have hid:=hdm' id (by rw [hL]; simp)
    exact .inr ⟨id,L,by rw [←hx.rho id hid]; exact hL,hl,rfl⟩
  ·rintro (hf|⟨id,L,hL,hl,rfl⟩)
   ·exact .inl (by rw [hx.fr]; exact hf)
   ·have hid:=hdc id (by rw [hL]; simp)
    exact .inr ⟨id,L,by rw [hx.rho id hid]; exact hL,hl,rfl⟩
 have hk:z3s (z0c ρ h2) (z0c ρ h2) w w':=by
  have:=hx.keep
  rw [hown,hown'] at this
  exact this
 refine ⟨ρ,v,w',fr,hst,hfn,hlv,?_,?_,hdm,?_⟩
 ·rw [hown'] at hv
  exact hv.keep (O':=z0c ρ h2) (ρ':=ρ) (z3s.refl _ _) hρ'
 ·refine ⟨fun id L hL=>?_,hh.inj,fun b hb=>eAn (hh.fr b hb) hk.size,hh.sep,hh.gl.keep hk⟩
  obtain ⟨hblk,ho⟩:=hh.obj id L hL
  refine ⟨eAn hblk hk.size,?_⟩
  cases ht:T id with
  |true=>
   have hL':ρ' id=some L:=by rw [hx.rho id (by rw [hlen]; exact hT id ht)]; exact hc2 id L ht hL
   have:=(hh'.obj id L hL').2
   rw [hown',hRn,if_pos ht] at this
   rw [hag id ht]
   exact this.flat (hfl id ht)
  |false=>
   by_cases hl:(z0e h2 id).live=true
   ·exact ho.keep hk (fun _ _ h=>h) (hx.frs L.blk (.inr ⟨id,L,ht,hL,hl,rfl⟩))
   ·cases ho2:z0e h2 id<;>first|trivial|(rw [ho2] at hl; exact absurd rfl hl)
 ·exact { os:=hx.os,tape:=hx.tape,output:=hx.output,keep:=hk,rho:=fun _ _=>rfl,fr:=rfl,frs:=fun b hf=>hx.frs b (.inl hf) }⟩
end Go.Am
end
section
namespace Go.Am
def z8m (σ:List (Option Nat)) (a:Nat):Bool:=
 match σ with
 |[]=>false
 |some b::r=>Nat.beq a b||z8m r a
 |none::r=>z8m r a
def x56:List (Option Nat)→Bool
 |[]=>true
 |none::r=>x56 r
 |some a::r=>!(z8m r a)&&x56 r
theorem z6y {a:Nat}:∀ {σ:List (Option Nat)} {i:Nat},z1j σ i=some (some a)→z8m σ a=true
 |[],i,h=>by simp [z1j] at h
 |none::r,i,h=>by
  cases i with
  |zero=>simp [z1j] at h
  |succ i=>exact z6y (σ:=r) (i:=i) (by simpa [z1j] using h)
 |some b::r,i,h=>by
  cases i with
  |zero=>simp [z1j] at h; subst h; simp [z8m]
  |succ i=>simp only [z8m,z6y (σ:=r) (i:=i) (by simpa [z1j] using h),Bool.or_true]
theorem z65:∀ {σ:List (Option Nat)},x56 σ=true→∀ {i j a:Nat},z1j σ i=some (some a)→z1j σ j=some (some a)→i=j
 |[],_,i,j,a,h1,_=>by simp [z1j] at h1
 |none::r,h,i,j,a,h1,h2=>by
  cases i with
  |zero=>simp [z1j] at h1
  |succ i=>
   cases j with
   |zero=>simp [z1j] at h2
   |succ j=>rw [z65 (σ:=r) h (i:=i) (j:=j) (by simpa [z1j] using h1) (by simpa [z1j] using h2)]
 |some b::r,h,i,j,a,h1,h2=>by
  simp only [x56,eAb,eBy] at h
  cases i with
  |zero=>
   cases j with
   |zero=>rfl
   |succ j=>
    simp [z1j] at h1; subst h1
    have:=z6y (σ:=r) (i:=j) (by simpa [z1j] using h2)
    rw [h.1] at this; cases this
  |succ i=>
   cases j with
   |zero=>
    simp [z1j] at h2; subst h2
    have:=z6y (σ:=r) (i:=i) (by simpa [z1j] using h1)
    rw [h.1] at this; cases this
   |succ j=>rw [z65 (σ:=r) h.2 (i:=i) (j:=j) (by simpa [z1j] using h1) (by simpa [z1j] using h2)]
section
variable {ρ:Rho} {σ:List (Option Nat)}
def Rho.via (ρ:Rho) (σ:List (Option Nat)):Rho:=⟨fun i=>match z1j σ i with|some (some a)=>ρ a|_=>none,ρ.fr⟩
theorem z2u {i:Nat} {M:Loc} (hv:(ρ.via σ) i=some M):∃ a,z1j σ i=some (some a)∧ρ a=some M:=by
 have hv':(match z1j σ i with|some (some a)=>ρ a|_=>none)=some M:=hv
 split at hv'
 ·rename_i a ha; exact ⟨a,ha,hv'⟩
 ·cases hv'
end
mutual
def z6r (f:Nat→Nat):AV→AV
 | .bptr i off=> .bptr (f i) off
 | .ptr i j off=> .ptr (f i) j off
 | .slice i z off len cap=> .slice (f i) z off len cap
 | .map i=> .map (f i)
 | .yld i=> .yld (f i)
 | .clo fn fs cs=> .clo fn (x14 f fs) (x14 f cs)
 | .iface t v=> .iface t (z6r f v)
 | .agg l=> .agg (x14 f l)
 | .tuple l=> .tuple (x14 f l)
 | .bot=> .bot
 | .d x=> .d x
 | .lptr r off=> .lptr r off
 | .wptr r off=> .wptr r off
 | .perm r=> .perm r
def x14 (f:Nat→Nat):List AV→List AV
 |[]=>[]
 |x::l=>z6r f x::x14 f l
end
theorem z1s (f:Nat→Nat) (l:List AV):x14 f l=l.map (z6r f):=by
 induction l with
 |nil=>rfl
 |cons x l ih=>simp [x14,ih]
def w6d (f:Nat→Nat):List (Nat×AV)→List (Nat×AV)
 |[]=>[]
 |(k,x)::l=>(k,z6r f x)::w6d f l
theorem x8h (f:Nat→Nat) (env:List (Nat×AV)) (t:Nat):z1k (w6d f env) t=z6r f (z1k env t):=by
 induction env with
 |nil=>rfl
 |cons x env ih=>
  obtain ⟨k,x⟩:=x
  simp only [w6d,z1k]
  cases Nat.beq k t<;>simp [ih]
def x7g (f:Nat→Nat):List (List AV)→List (List AV)
 |[]=>[]
 |x::l=>x14 f x::x7g f l
theorem y0q (f:Nat→Nat) (l:List (List AV)):x7g f l=l.map (x14 f):=by
 induction l with
 |nil=>rfl
 |cons x l ih=>simp [x7g,ih]
def y52 (f:Nat→Nat):AO→AO
 | .dead=> .dead
 | .box l=> .box (x14 f l)
 | .row es=> .row es
 | .arow es=> .arow (x7g f es)
 | .map es=> .map es
 | .loop st pd g pos nt env=> .loop st pd g pos nt (w6d f env)
theorem z1o (f:Nat→Nat) (o:AO):(y52 f o).live=o.live:=by cases o<;>rfl
section ren
variable {P:Program} {ρ1 ρ2:Rho} {O1 O2:Nat→Prop} {w:World} {f:Nat→Nat}
theorem y3u (hO:∀ b,O2 b→O1 b) (hf:∀ j M,ρ1 j=some M→ρ2 (f j)=some M) {x:AV} {v:Value} (hv:z0i ρ1 O1 w x v):z0i ρ2 O2 w (z6r f x) v:=by
 have hk:z3s O1 O2 w w:=⟨eAk _,fun _ _ _=>rfl,fun b _ hb=>hO b hb,fun _ _ h=>h,z0m.refl _⟩
 induction hv with
 |bot v=>exact .bot v
 |d h=>exact .d (h.keep hk)
 |bptr id off L hL=>exact .bptr _ off L (hf _ _ hL)
 |ptr id i off L hL=>exact .ptr _ i off L (hf _ _ hL)
 |lptr r off b o hlt hO' cell hc hrr=>exact .lptr r off b o hlt (fun hb=>hO' (hO b hb)) cell hc (fun j x hx=>(hrr j x hx).keep hk)
 |wptr es off b o z hlt hO' hz hc=>exact .wptr es off b o z hlt (fun hb=>hO' (hO b hb)) hz fun i r j x hi hx=>let ⟨v,hv,hr⟩:=hc i r j x hi hx; ⟨v,hv,hr.keep hk⟩
 |perm es es' v hp h=>exact .perm es es' v hp (h.keep hk)
 |slice id z off len cap L a c hL hz ha hc hl=>exact .slice _ z off len cap L a c (hf _ _ hL) hz ha hc hl
 |nils id z off cap a hc=>exact .nils _ z off cap a hc
 |map id L hL=>exact .map _ L (hf _ _ hL)
 |yld id L hL=>exact .yld _ L (hf _ _ hL)
 |clo fn fs cs vf vc hl1 hl2 h1 h2 ih1 ih2=>
  simp only [z6r,z1s]
  refine .clo fn _ _ vf vc (by simpa using hl1) (by simpa using hl2) (fun i x hx=>?_) (fun i x hx=>?_)
  ·rw [eAg] at hx
   cases hq:fs[i]? with
   |none=>rw [hq] at hx; cases hx
   |some y=>rw [hq] at hx; cases hx; exact ih1 i y hq
  ·rw [eAg] at hx
   cases hq:cs[i]? with
   |none=>rw [hq] at hx; cases hx
   |some y=>rw [hq] at hx; cases hx; exact ih2 i y hq
 |iface t x v h ih=>exact .iface t _ v ih
 |agg xs vs hl h ih=>
  simp only [z6r,z1s]
  refine .agg _ vs (by simpa using hl) (fun i x hx=>?_)
  rw [eAg] at hx
  cases hq:xs[i]? with
  |none=>rw [hq] at hx; cases hx
  |some y=>rw [hq] at hx; cases hx; exact ih i y hq
 |tuple xs vs hl h ih=>
  simp only [z6r,z1s]
  refine .tuple _ vs (by simpa using hl) (fun i x hx=>?_)
  rw [eAg] at hx
  cases hq:xs[i]? with
  |none=>rw [hq] at hx; cases hx
  |some y=>rw [hq] at hx; cases hx; exact ih i y hq
theorem x7f (hO:∀ b,O2 b→O1 b) (hf:∀ j M,ρ1 j=some M→ρ2 (f j)=some M) {L:Loc} {o:AO} (h:z0u P ρ1 O1 w L o):z0u P ρ2 O2 w L (y52 f o):=by
 have hk:z3s O1 O2 w w:=⟨eAk _,fun _ _ _=>rfl,fun b _ hb=>hO b hb,fun _ _ h=>h,z0m.refl _⟩
 cases o with
 |dead=>trivial
 |box cells=>
  obtain ⟨hbase,c,t,hc,hj⟩:=h
  refine ⟨hbase,c,t,hc,fun j x hx=>?_⟩
  rw [z1s,eAg] at hx
  cases hq:cells[j]? with
  |none=>rw [hq] at hx; cases hx
  |some y=>
   rw [hq] at hx; cases hx
   obtain ⟨v,hv,hr⟩:=hj j y hq
   exact ⟨v,hv,y3u hO hf hr⟩
 |row es=>
  obtain ⟨hz,c,t,hc,hl,hj⟩:=h
  exact ⟨hz,c,t,hc,hl,fun i r j x hi hx=>let ⟨v,hv,h1,hr⟩:=hj i r j x hi hx; ⟨v,hv,h1,hr.keep hk⟩⟩
 |arow es=>
  obtain ⟨hz,c,t,hc,hl,hj⟩:=h
  refine ⟨hz,c,t,hc,fun i r hi=>?_,fun i r j x hi hx=>?_⟩
  ·rw [y0q,eAg] at hi
   cases hq:es[i]? with
   |none=>rw [hq] at hi; cases hi
   |some y=>rw [hq] at hi; cases hi; rw [z1s,eBt]; exact hl i y hq
  ·rw [y0q,eAg] at hi
   cases hq:es[i]? with
   |none=>rw [hq] at hi; cases hi
   |some y=>
    rw [hq] at hi; cases hi
    rw [z1s,eAg] at hx
    cases hq2:y[j]? with
    |none=>rw [hq2] at hx; cases hx
    |some z=>
     rw [hq2] at hx; cases hx
     obtain ⟨v,hv,h1,hr⟩:=hj i y j z hq hq2
     exact ⟨v,hv,h1,y3u hO hf hr⟩
 |map es=>
  obtain ⟨en,clk,hc,hl,hj⟩:=h
  exact ⟨en,clk,hc,hl,fun i k x hi=>let ⟨e,he,h1,h2⟩:=hj i k x hi; ⟨e,he,h1.keep hk,h2.keep hk⟩⟩
 |loop st pd g pos nt env=>
  obtain ⟨x,ps,asg,body,hcd,tm,ds,fid,hc,hl,hj⟩:=h
  exact ⟨x,ps,asg,body,hcd,tm,ds,fid,hc,hl,fun t=>by rw [x8h]; exact y3u hO hf (hj t)⟩
end ren
def z16 (σ:List (Option Nat)) (base:Nat) (j:Nat):Nat:=
 match z1j σ j with
 |some (some a)=>a
 |_=>base+(j - σ.length)
def z1l (f:Nat→Nat):List AO→Nat→List AO→List AO
 |h,_,[]=>h
 |h,j,o::os=>z1l f (z0x h (f j) (y52 f o)) (j+1) os
theorem y5s (f:Nat→Nat):∀ (os:List AO) (h:List AO) (j:Nat) (id:Nat),(∀ a b,j≤a→a<j+os.length→j≤b→b<j+os.length→f a=f b→a=b)→
  (∀ k,k<os.length→z0e (z1l f h j os) (f (j+k))=y52 f (z0e os k))∧((∀ k,k<os.length→f (j+k)≠id)→z0e (z1l f h j os) id=z0e h id):=by
 intro os
 induction os with
 |nil=>intro h j id _; exact ⟨fun k hk=>by simp at hk,fun _=>rfl⟩
 |cons o os ih=>
  intro h j id hinj
  have hinj':∀ a b,j+1≤a→a<j+1+os.length→j+1≤b→b<j+1+os.length→f a=f b→a=b:=fun a b h1 h2 h3 h4=>hinj a b (by omega) (by simp; omega) (by omega) (by simp; omega)
  simp only [z1l]
  refine ⟨fun k hk=>?_,fun hne=>?_⟩
  ·cases k with
   |zero=>
    rw [(ih _ (j+1) (f (j+0)) hinj').2 (fun k hk=>?_)]
    ·rw [eAt,z0g]; rfl
    ·intro e
     have:=hinj _ _ (by omega) (by simp; omega) (by omega) (by simp) e
     omega
   |succ k=>
    have:=(ih (z0x h (f j) (y52 f o)) (j+1) id hinj').1 k (by simpa using hk)
    rw [show j+1+k=j+(k+1) by omega] at this
    exact this
  ·rw [(ih _ (j+1) id hinj').2 (fun k hk=>by rw [show j+1+k=j+(k+1) by omega]; exact hne (k+1) (by simpa using hk)),z0b _ _ _ _ (by have:=hne 0 (by simp); simpa using this)]
theorem z6j (f:Nat→Nat):∀ (os:List AO) (h:List AO) (j:Nat),h.length≤(z1l f h j os).length∧∀ k,k<os.length→f (j+k)<(z1l f h j os).length:=by
 intro os
 induction os with
 |nil=>intro h j; exact ⟨eAk _,fun k hk=>by simp at hk⟩
 |cons o os ih=>
  intro h j
  simp only [z1l]
  obtain ⟨a,b⟩:=ih (z0x h (f j) (y52 f o)) (j+1)
  obtain ⟨c,d⟩:=z1m h (f j) (y52 f o)
  refine ⟨eBf c a,fun k hk=>?_⟩
  cases k with
  |zero=>exact eAn d a
  |succ k=>rw [show j+(k+1)=j+1+k by omega]; exact b k (by simpa using hk)
def z5c (base:Nat):List (Option Nat)→Bool
 |[]=>true
 |some a::r=>Nat.blt a base&&z5c base r
 |none::_=>false
theorem y07 {base:Nat}:∀ {σ:List (Option Nat)},z5c base σ=true→∀ j,j<σ.length→∃ a,z1j σ j=some (some a)∧a<base
 |[],_,j,hj=>by simp at hj
 |none::_,h,_,_=>by cases h
 |some a::r,h,j,hj=>by
  simp only [z5c,eAb] at h
  cases j with
  |zero=>exact ⟨a,rfl,eAf h.1⟩
  |succ j=>simpa [z1j] using y07 h.2 j (by simpa using hj)
section frame
variable {P:Program} {ρ:Rho} {h:List AO} {w:World} {σ:List (Option Nat)}
def Rho.lent (ρ:Rho) (h:List AO) (σ:List (Option Nat)):Rho:=
 ⟨(ρ.via σ).loc,fun b=>ρ.fr b∨∃ a M,ρ a=some M∧(z0e h a).live=true∧(∀ j,z1j σ j≠some (some a))∧M.blk=b⟩
theorem x2e {ρ:Rho} {O:Nat→Prop} {w:World} {L:Loc} {o:AO} (h:¬ o.live=true):z0u P ρ O w L o:=by
 cases o<;>first|trivial|exact absurd rfl h
set_option maxHeartbeats 1000000 in
theorem y4h {n : Nat} {s : AS} (hn : n ≤ s.heap.length) (hinj : x56 σ = true) (hth : z5c s.heap.length σ = true) {g : FuncId} {args argsT : List AV} {hT hT' : List AO} {r : AV} (hlen : hT.length ≤ hT'.length)
    (hfit : ∀ (ρ : Rho) (w : World), z0a P ρ s.heap w → hT.length = σ.length ∧ (∀ b, z0c (ρ.lent s.heap σ) hT b → z0c ρ s.heap b) ∧ z0a P (ρ.lent s.heap σ) hT w ∧ argsT.length = args.length ∧
      ∀ f : Nat → Value, (∀ i x, args[i]? = some x → z0i ρ (z0c ρ s.heap) w x (f i)) → ∀ i y, argsT[i]? = some y → z0i (ρ.lent s.heap σ) (z0c ρ s.heap) w y (f i))
    (ha : z2z P g argsT hT r hT') : z4a P n g args s (z6r (z16 σ s.heap.length) r) ⟨s.env, z1l (z16 σ s.heap.length) s.heap 0 hT', s.nt⟩ := ⟨by
  intro ρ vs tm w cs hs hargs
  obtain ⟨hKlen, hlo, hheap, hal, hav⟩ := hfit ρ w hs.heap
  have kp : z3s (z0c ρ s.heap) (z0c (ρ.lent s.heap σ) hT) w w := ⟨eAk _, fun _ _ _ => rfl, fun b _ hb => hlo b hb, fun _ _ h => h, z0m.refl _⟩
  have hdomT : Dom (ρ.lent s.heap σ) hT := fun id hid => by
    cases hq : (ρ.lent s.heap σ) id with
    | none => exact absurd hq hid
    | some M =>
      obtain ⟨a, ha, _⟩ := z2u hq
      rw [z1b] at ha
      rw [hKlen]; exact (eAd.1 ha).1
  obtain ⟨ρ1, v, w', fr, b1, b2, b3, b4, b5, b6, b7⟩ := ha.run (ρ.lent s.heap σ) vs w cs hheap hdomT ⟨by rw [hal]; exact hargs.1, fun i y hy => (hav (fun i => vs.getD i undef) (fun i x hx => hargs.2 i x hx) i y hy).keep kp (fun _ _ h => h)⟩
  let base := s.heap.length
  let f := z16 σ base
  let ρ2 : Rho := ⟨fun id => if id < base then ρ id else ρ1 (σ.length + (id - base)), ρ.fr⟩
  let h2 := z1l f s.heap 0 hT'
  have fK : ∀ j, j < σ.length → ∃ a, z1j σ j = some (some a) ∧ a < base ∧ f j = a := fun j hj => by
    obtain ⟨a, h1, h2⟩ := y07 hth j hj
    exact ⟨a, h1, h2, by show z16 σ base j = a; simp [z16, h1]⟩
  have fN : ∀ j, σ.length ≤ j → f j = base + (j - σ.length) := fun j hj => by
    have : z1j σ j = none := by rw [z1b]; exact eCt hj
    show z16 σ base j = _; simp [z16, this]
  have finj : ∀ a b, f a = f b → a = b := by
    intro a b e
    by_cases ha : a < σ.length
    · obtain ⟨x, x1, x2, x3⟩ := fK a ha
      by_cases hb : b < σ.length
      · obtain ⟨y, y1, y2, y3⟩ := fK b hb
        have : x = y := by rw [← x3, ← y3, e]
        subst this
        exact z65 hinj x1 y1
      · have := fN b (by omega); omega
    · by_cases hb : b < σ.length
      · obtain ⟨y, y1, y2, y3⟩ := fK b hb
        have := fN a (by omega); omega
      · have h1 := fN a (by omega)
        have h2 := fN b (by omega)
        omega
  have hrho : ∀ j M, ρ1 j = some M → ρ2 (f j) = some M := by
    intro j M hM
    by_cases hj : j < σ.length
    · obtain ⟨a, a1, a2, a3⟩ := fK j hj
      have e := b7.rho j (by show j < hT.length; omega)
      rw [hM] at e
      have e2 : (ρ.lent s.heap σ) j = ρ a := by show (match z1j σ j with | some (some a) => ρ a | _ => none) = _; rw [a1]
      rw [a3]
      show (if a < base then ρ a else _) = _
      rw [if_pos a2, ← e2, ← e]
    · rw [fN j (by omega)]
      show (if base + (j - σ.length) < base then _ else ρ1 (σ.length + (base + (j - σ.length) - base))) = _
      rw [if_neg (by omega), show σ.length + (base + (j - σ.length) - base) = j by omega]; exact hM
  have nth1 : ∀ j, j < hT'.length → z0e h2 (f j) = y52 f (z0e hT' j) := fun j hj => by
    have := (y5s f hT' s.heap 0 0 (fun a b _ _ _ _ e => finj a b e)).1 j hj
    rw [eAp] at this; exact this
  have nth2 : ∀ id, (∀ j, j < hT'.length → f j ≠ id) → z0e h2 id = z0e s.heap id := fun id hne =>
    (y5s f hT' s.heap 0 id (fun a b _ _ _ _ e => finj a b e)).2 (fun k hk => by rw [eAp]; exact hne k hk)
  have lenH : base ≤ h2.length := (z6j f hT' s.heap 0).1
  have other : ∀ id M, ρ2 id = some M → (∀ j, j < hT'.length → f j ≠ id) → (z0e h2 id).live = true → id < base ∧ ρ id = some M ∧ (z0e s.heap id).live = true ∧ (ρ.lent s.heap σ).fr M.blk := by
    intro id M hM hne hl
    rw [nth2 id hne] at hl
    have hlt : id < base := by
      rcases eBw id base with h | h
      · exact h
      · rw [x2g _ _ h] at hl; cases hl
    have hM' : ρ id = some M := by
      have : (if id < base then ρ id else ρ1 (σ.length + (id - base))) = some M := hM
      rw [if_pos hlt] at this; exact this
    refine ⟨hlt, hM', hl, .inr ⟨id, M, hM', hl, fun j hj => ?_, rfl⟩⟩
    have hjl : j < σ.length := by rw [z1b] at hj; exact (eAd.1 hj).1
    obtain ⟨a, a1, a2, a3⟩ := fK j hjl
    rw [a1] at hj; cases hj
    exact hne j (by omega) a3
  have mine : ∀ id, (∃ j, j < hT'.length ∧ f j = id) ∨ ∀ j, j < hT'.length → f j ≠ id := fun id => by
    by_cases h : ∃ j, j < hT'.length ∧ f j = id
    · exact .inl h
    · exact .inr fun j hj e => h ⟨j, hj, e⟩
  have rho1 : ∀ j M, j < hT'.length → ρ2 (f j) = some M → ρ1 j = some M := by
    intro j M hj hM
    by_cases hjK : j < σ.length
    · obtain ⟨a, a1, a2, a3⟩ := fK j hjK
      rw [a3] at hM
      have hM : (if a < base then ρ a else _) = some M := hM
      rw [if_pos a2] at hM
      have e := b7.rho j (by show j < hT.length; omega)
      have e2 : (ρ.lent s.heap σ) j = ρ a := by show (match z1j σ j with | some (some a) => ρ a | _ => none) = _; rw [a1]
      rw [e, e2]; exact hM
    · rw [fN j (by omega)] at hM
      have hM : (if base + (j - σ.length) < base then ρ (base + (j - σ.length)) else ρ1 (σ.length + (base + (j - σ.length) - base))) = some M := hM
      rw [if_neg (by omega), show σ.length + (base + (j - σ.length) - base) = j by omega] at hM
      exact hM
  have frEq : ρ1.fr = (ρ.lent s.heap σ).fr := b7.fr
  have own2 : ∀ b, z0c ρ2 h2 b → z0c ρ1 hT' b := by
    intro b hb
    rcases hb with hf | ⟨id, M, hM, hl, rfl⟩
    · exact .inl (by rw [frEq]; exact .inl hf)
    · rcases mine id with ⟨j, hj, rfl⟩ | hne
      · rw [nth1 j hj, z1o] at hl
        exact .inr ⟨j, M, rho1 j M hj hM, hl, rfl⟩
      · exact .inl (by rw [frEq]; exact (other id M hM hne hl).2.2.2)
  have hmono : ∀ id M, ρ id = some M → ρ2 id = some M := fun id M hM => by
    have hlt : id < base := hs.dom id (by rw [hM]; simp)
    show (if id < base then ρ id else _) = _
    rw [if_pos hlt]; exact hM
  have kpAll : z3s (z0c ρ s.heap) (z0c ρ2 h2) w w' :=
    { size := b7.keep.size
      frame := fun b hb hno => b7.keep.frame b hb (fun h => hno (hlo b h))
      own := fun b hb ho => hlo b (b7.keep.own b hb (own2 b ho))
      shape := b7.keep.shape
      drawn := b7.keep.drawn }
  have hheap2 : z0a P ρ2 h2 w' := by
    refine ⟨fun id M hM => ?_, fun i j M M' h1 h2' l1 l2 hb => ?_, fun b hf => eAn (hs.heap.fr b hf) b7.keep.size, fun id M hM hl hf => ?_, hs.heap.gl.keep kpAll⟩
    · rcases mine id with ⟨j, hj, rfl⟩ | hne
      · obtain ⟨o1, o2⟩ := b5.obj j M (rho1 j M hj hM)
        exact ⟨o1, by rw [nth1 j hj]; exact x7f own2 hrho o2⟩
      · by_cases hl : (z0e h2 id).live = true
        · obtain ⟨c1, c2, c3, c4⟩ := other id M hM hne hl
          obtain ⟨o1, o2⟩ := hs.heap.obj id M c2
          refine ⟨eAn o1 b7.keep.size, ?_⟩
          rw [nth2 id hne]
          exact o2.keep kpAll hmono (b7.frs _ c4)
        · by_cases hlt : id < base
          · have hM' : ρ id = some M := by
              have : (if id < base then ρ id else ρ1 (σ.length + (id - base))) = some M := hM
              rw [if_pos hlt] at this; exact this
            refine ⟨eAn (hs.heap.obj id M hM').1 b7.keep.size, ?_⟩
            exact x2e hl
          · exfalso
            have hM' : (if id < base then ρ id else ρ1 (σ.length + (id - base))) = some M := hM
            rw [if_neg hlt] at hM'
            have hd := b6 _ (by rw [hM']; simp)
            refine hne _ hd ?_
            rw [fN _ (by omega)]; omega
    · rcases mine i with ⟨a, ha, rfl⟩ | hni
      · rw [nth1 a ha, z1o] at l1
        rcases mine j with ⟨b, hb', rfl⟩ | hnj
        · rw [nth1 b hb', z1o] at l2
          rw [b5.inj a b M M' (rho1 a M ha h1) (rho1 b M' hb' h2') l1 l2 hb]
        · obtain ⟨c1, c2, c3, c4⟩ := other j M' h2' hnj l2
          exact absurd (by rw [frEq, hb]; exact c4) (b5.sep a M (rho1 a M ha h1) l1)
      · obtain ⟨c1, c2, c3, c4⟩ := other i M h1 hni l1
        rcases mine j with ⟨b, hb', rfl⟩ | hnj
        · rw [nth1 b hb', z1o] at l2
          exact absurd (by rw [frEq, ← hb]; exact c4) (b5.sep b M' (rho1 b M' hb' h2') l2)
        · obtain ⟨d1, d2, d3, d4⟩ := other j M' h2' hnj l2
          exact hs.heap.inj i j M M' c2 d2 c3 d3 hb
    · rcases mine id with ⟨j, hj, rfl⟩ | hne
      · rw [nth1 j hj, z1o] at hl
        exact b5.sep j M (rho1 j M hj hM) hl (by rw [frEq]; exact .inl hf)
      · obtain ⟨c1, c2, c3, c4⟩ := other id M hM hne hl
        exact hs.heap.sep id M c2 c3 hf
  refine ⟨ρ2, v, w', fr, b1, b2, b3, y3u own2 hrho b4, ⟨hheap2, fun t => (hs.env t).keep kpAll hmono, hs.size, fun id hid => ?_⟩, rfl, ?_⟩
  · show id < h2.length
    by_cases hlt : id < base
    · omega
    · have hid' : (if id < base then ρ id else ρ1 (σ.length + (id - base))) ≠ none := hid
      rw [if_neg hlt] at hid'
      have hd := b6 _ hid'
      have := (z6j f hT' s.heap 0).2 _ hd
      rw [eAp, fN _ (by omega)] at this
      show id < (z1l f s.heap 0 hT').length
      omega
  · exact { os := b7.os, tape := b7.tape, output := b7.output, keep := kpAll, rho := fun id hid => by
              show (if id < base then ρ id else _) = ρ id
              rw [if_pos (by show id < s.heap.length; have : id < n := hid; omega)],
            fr := rfl, frs := fun b hf => b7.frs b (.inl hf) }⟩
end frame
end Go.Am
end
section
namespace Go.Am
mutual
def rid:AV→List Nat
 | .bptr id _=>[id]
 | .ptr id _ _=>[id]
 | .slice id _ _ _ _=>[id]
 | .map id=>[id]
 | .yld id=>[id]
 | .clo _ fs cs=>w0u fs++w0u cs
 | .iface _ v=>rid v
 | .agg l=>w0u l
 | .tuple l=>w0u l
 |_=>[]
def w0u:List AV→List Nat
 |[]=>[]
 |x::l=>rid x++w0u l
end
def w6y:List (List AV)→List Nat
 |[]=>[]
 |x::l=>w0u x++w6y l
def v2b:List (Nat×AV)→List Nat
 |[]=>[]
 |(_,x)::l=>rid x++v2b l
def ridO:AO→List Nat
 | .box l=>w0u l
 | .arow es=>w6y es
 | .loop _ _ _ _ _ env=>v2b env
 |_=>[]
def w8t:List Nat→List Nat→List Nat
 |acc,[]=>acc
 |acc,x::l=>bif y1m x acc then w8t acc l else w8t (acc++[x]) l
def w4a (h:List AO):Nat→Nat→List Nat→List Nat
 |0,_,l=>l
 |f+1,i,l=>match z1j l i with
  |some a=>w4a h f (i+1) (w8t l (ridO (z0e h a)))
  |none=>l
def idx:List Nat→Nat→Nat
 |[],_=>0
 |x::l,a=>bif Nat.beq x a then 0 else idx l a+1
def z45:List Nat→List (Option Nat)
 |[]=>[]
 |x::l=>some x::z45 l
def y8d (h:List AO) (ids:List Nat):List Nat→List AO
 |[]=>[]
 |a::l=>y52 (idx ids) (z0e h a)::y8d h ids l
mutual
def inM (T:List Nat):AV→Bool
 | .bptr id _=>y1m id T
 | .ptr id _ _=>y1m id T
 | .slice id _ _ _ _=>y1m id T
 | .map id=>y1m id T
 | .yld id=>y1m id T
 | .clo _ fs cs=>x8d T fs&&x8d T cs
 | .iface _ v=>inM T v
 | .agg l=>x8d T l
 | .tuple l=>x8d T l
 |_=>true
def x8d (T:List Nat):List AV→Bool
 |[]=>true
 |x::l=>inM T x&&x8d T l
end
def w1i (T:List Nat):List (List AV)→Bool
 |[]=>true
 |x::l=>x8d T x&&w1i T l
def w9c (T:List Nat):List (Nat×AV)→Bool
 |[]=>true
 |(_,x)::l=>inM T x&&w9c T l
def v2k (T:List Nat):AO→Bool
 | .box l=>x8d T l
 | .arow es=>w1i T es
 | .loop _ _ _ _ _ env=>w9c T env
 |_=>true
def okM (h:List AO) (T:List Nat) (args:List AV):Bool:=
 x8d T args&&(x56 (z45 T)&&T.all fun a=>Nat.blt a h.length&&v2k T (z0e h a))
theorem z6a {T:List Nat}:∀ {l:List AV},x8d T l=true→∀ (i:Nat) (x:AV),l[i]?=some x→inM T x=true
 |[],_,i,x,h=>by simp at h
 |y::l,h,i,x,hi=>by
  simp only [x8d,eAb] at h
  cases i with
  |zero=>simp at hi; subst hi; exact h.1
  |succ i=>exact z6a h.2 i x (by simpa using hi)
theorem x0e {T:List Nat}:∀ {l:List (List AV)},w1i T l=true→∀ (i:Nat) (x:List AV),l[i]?=some x→x8d T x=true
 |[],_,i,x,h=>by simp at h
 |y::l,h,i,x,hi=>by
  simp only [w1i,eAb] at h
  cases i with
  |zero=>simp at hi; subst hi; exact h.1
  |succ i=>exact x0e h.2 i x (by simpa using hi)
theorem x38 {T:List Nat}:∀ {l:List (Nat×AV)},w9c T l=true→∀ t,inM T (z1k l t)=true
 |[],_,t=>rfl
 |(k,y)::l,h,t=>by
  simp only [w9c,eAb] at h
  simp only [z1k]
  cases Nat.beq k t with
  |true=>exact h.1
  |false=>exact x38 h.2 t
def Rho.on (ρ:Rho) (T:List Nat):Rho:=⟨fun id=>if y1m id T=true then ρ id else none,ρ.fr⟩
theorem y1j {ρ:Rho} {T:List Nat} {id:Nat} {L:Loc}:ρ.on T id=some L↔y1m id T=true∧ρ id=some L:=by
 show (if y1m id T=true then ρ id else none)=some L↔_
 split
 ·rename_i h; simp [h]
 ·rename_i h; simp [h]
theorem z0i.on {T:List Nat} {ρ:Rho} {O:Nat→Prop} {w:World} {x:AV} {v:Value} (h:z0i ρ O w x v):inM T x=true→z0i (ρ.on T) O w x v:=by
 induction h with
 |bot v=>intro _; exact .bot v
 |d h=>intro _; exact .d h
 |bptr id off L h=>intro hi; exact .bptr id off L (y1j.2 ⟨hi,h⟩)
 |ptr id i off L h=>intro hi; exact .ptr id i off L (y1j.2 ⟨hi,h⟩)
 |lptr r off b o hlt hO cell hc hr=>intro _; exact .lptr r off b o hlt hO cell hc hr
 |wptr es off b o z hlt hO hz hc=>intro _; exact .wptr es off b o z hlt hO hz hc
 |perm es es' v hp h=>intro _; exact .perm es es' v hp h
 |slice id z off len cap L a c h hz ha hc hl=>intro hi; exact .slice id z off len cap L a c (y1j.2 ⟨hi,h⟩) hz ha hc hl
 |nils id z off cap a hc=>intro _; exact .nils id z off cap a hc
 |map id L h=>intro hi; exact .map id L (y1j.2 ⟨hi,h⟩)
 |yld id L h=>intro hi; exact .yld id L (y1j.2 ⟨hi,h⟩)
 |clo fn fs cs vf vc hf hc h1 h2 ih1 ih2=>
  intro hi
  simp only [inM,eAb] at hi
  exact .clo fn fs cs vf vc hf hc (fun i x hx=>ih1 i x hx (z6a hi.1 i x hx)) (fun i x hx=>ih2 i x hx (z6a hi.2 i x hx))
 |iface t x v h ih=>intro hi; exact .iface t x v (ih (by simpa only [inM] using hi))
 |agg xs vs hl h ih=>intro hi; exact .agg xs vs hl fun i x hx=>ih i x hx (z6a (by simpa only [inM] using hi) i x hx)
 |tuple xs vs hl h ih=>intro hi; exact .tuple xs vs hl fun i x hx=>ih i x hx (z6a (by simpa only [inM] using hi) i x hx)
theorem z0u.on {P:Program} {T:List Nat} {ρ:Rho} {O:Nat→Prop} {w:World} {L:Loc} {o:AO} (hi:v2k T o=true) (h:z0u P ρ O w L o):z0u P (ρ.on T) O w L o:=by
 cases o with
 |dead=>trivial
 |row es=>exact h
 |map es=>exact h
 |box l=>
  obtain ⟨hbase,c,t,hc,hj⟩:=h
  exact ⟨hbase,c,t,hc,fun j x hx=>let ⟨v,hv,hr⟩:=hj j x hx; ⟨v,hv,hr.on (z6a hi j x hx)⟩⟩
 |arow es=>
  obtain ⟨hz,c,t,hc,hl,hj⟩:=h
  exact ⟨hz,c,t,hc,hl,fun i r j x hir hx=>let ⟨v,hv,h1,hr⟩:=hj i r j x hir hx; ⟨v,hv,h1,hr.on (z6a (x0e hi i r hir) j x hx)⟩⟩
 |loop st pd g pos nt env=>
  obtain ⟨x,ps,asg,body,hcd,tm,ds,f,hc,hl,hj⟩:=h
  exact ⟨x,ps,asg,body,hcd,tm,ds,f,hc,hl,fun t=>(hj t).on (x38 hi t)⟩
theorem z6m:∀ (T:List Nat) (i:Nat),z1j (z45 T) i=(T[i]?).map some
 |[],i=>by simp [z45,z1j]
 |x::l,i=>by
  cases i with
  |zero=>simp [z45,z1j]
  |succ i=>simp [z45,z1j,z6m l i]
theorem y9q:∀ T:List Nat,(z45 T).length=T.length
 |[]=>rfl
 |x::l=>by simp [z45,y9q l]
theorem x39:∀ {T:List Nat} {a:Nat},y1m a T=true→T[idx T a]?=some a
 |[],a,h=>by cases h
 |x::l,a,h=>by
  simp only [y1m,eAq] at h
  simp only [idx]
  cases hb:Nat.beq x a with
  |true=>have:=eAc hb; subst this; simp
  |false=>
   rcases h with h|h
   ·have:=eAc h; subst this; rw [eCs] at hb; cases hb
   ·simpa using x39 h
theorem y0s (h:List AO) (ids:List Nat):∀ l,(y8d h ids l).length=l.length
 |[]=>rfl
 |a::l=>by simp [y8d,y0s h ids l]
theorem y97 (h:List AO) (ids:List Nat):∀ (l:List Nat) (i a:Nat),l[i]?=some a→z0e (y8d h ids l) i=y52 (idx ids) (z0e h a)
 |[],i,a,hi=>by simp at hi
 |x::l,i,a,hi=>by
  cases i with
  |zero=>simp at hi; subst hi; rfl
  |succ i=>exact y97 h ids l i a (by simpa using hi)
theorem z9p {n:Nat}:∀ {T:List Nat},(∀ a∈T,a<n)→z5c n (z45 T)=true
 |[],_=>rfl
 |x::l,h=>by
  simp only [z45,z5c,eAb]
  exact ⟨eBg (h x (eBq ..)),z9p fun a ha=>h a (eCm _ ha)⟩
theorem y96 {P:Program} {n:Nat} {s:AS} (hn:n≤s.heap.length) {g:FuncId} {args:List AV} {T:List Nat} (hok:okM s.heap T args=true) {r:AV} {hT':List AO} (hlen:(y8d s.heap T T).length≤hT'.length)
  (ha:z2z P g (x14 (idx T) args) (y8d s.heap T T) r hT'):z4a P n g args s (z6r (z16 (z45 T) s.heap.length) r) ⟨s.env,z1l (z16 (z45 T) s.heap.length) s.heap 0 hT',s.nt⟩:=by
 simp only [okM,eAb,eAr] at hok
 obtain ⟨hargs,hinj,hall⟩:=hok
 have hlt:∀ a∈T,a<s.heap.length:=fun a hm=>eAf (hall a hm).1
 refine y4h hn hinj (z9p hlt) hlen (fun ρ w hr=>?_) ha
 have hvia:∀ {i:Nat} {M:Loc},(ρ.lent s.heap (z45 T)) i=some M→∃ a,T[i]?=some a∧ρ a=some M∧z0e (y8d s.heap T T) i=y52 (idx T) (z0e s.heap a):=fun {i M} hM=>by
  obtain ⟨a,h1,h2⟩:=z2u (ρ:=ρ) (σ:=z45 T) hM
  rw [z6m] at h1
  cases hq:T[i]? with
  |none=>rw [hq] at h1; cases h1
  |some b=>rw [hq] at h1; cases h1; exact ⟨a,rfl,h2,y97 _ _ _ _ _ hq⟩
 have hf:∀ j M,ρ.on T j=some M→(ρ.lent s.heap (z45 T)) (idx T j)=some M:=fun j M hM=>by
  obtain ⟨h1,h2⟩:=y1j.1 hM
  show (match z1j (z45 T) (idx T j) with|some (some a)=>ρ a|_=>none)=some M
  rw [z6m,x39 h1]; exact h2
 have hown:∀ b,z0c (ρ.lent s.heap (z45 T)) (y8d s.heap T T) b→z0c ρ s.heap b:=by
  rintro b ((hf|⟨a,M,hM,hl,_,rfl⟩)|⟨i,M,hM,hl,rfl⟩)
  ·exact .inl hf
  ·exact .inr ⟨a,M,hM,hl,rfl⟩
  ·obtain ⟨a,_,h2,h3⟩:=hvia hM
   rw [h3,z1o] at hl
   exact .inr ⟨a,M,h2,hl,rfl⟩
 refine ⟨by rw [y0s,y9q],hown,⟨fun i M hM=>?_,fun i j M M' h1 h2 l1 l2 hb=>?_,fun b hf=>?_,fun i M hM hl hf=>?_,hr.gl.sub hown⟩,by rw [z1s,eBt],fun fv hfv i y hy=>?_⟩
 ·obtain ⟨a,h1,h2,h3⟩:=hvia hM
  obtain ⟨o1,o2⟩:=hr.obj a M h2
  refine ⟨o1,?_⟩
  rw [h3]
  exact x7f hown hf (o2.on (hall a (eAu h1)).2)
 ·obtain ⟨a,a1,a2,a3⟩:=hvia h1
  obtain ⟨b,b1,b2,b3⟩:=hvia h2
  rw [a3,z1o] at l1
  rw [b3,z1o] at l2
  have:=hr.inj a b M M' a2 b2 l1 l2 hb
  subst this
  exact z65 hinj (by rw [z6m,a1]; rfl) (by rw [z6m,b1]; rfl)
 ·rcases hf with hf|⟨a,M,hM,hl,_,rfl⟩
  ·exact hr.fr b hf
  ·exact (hr.obj a M hM).1
 ·obtain ⟨a,a1,a2,a3⟩:=hvia hM
  rw [a3,z1o] at hl
  rcases hf with hf|⟨a',M',hM',hl',hno,hb⟩
  ·exact hr.sep a M a2 hl hf
  ·have:=hr.inj a' a M' M hM' a2 hl' hl hb
   subst this
   exact hno i (by rw [z6m,a1]; rfl)
 ·rw [z1s,eAg] at hy
  cases hq:args[i]? with
  |none=>rw [hq] at hy; cases hy
  |some x=>
   rw [hq] at hy; cases hy
   exact y3u (fun _ h=>h) hf ((hfv i x hq).on (z6a hargs i x hq))
end Go.Am
end
section
namespace Go.Am
structure SS where
 s:AS
 K:List (List CK)
def y3n:AS→Nat→AV→AS
 |⟨env,heap,nt⟩,d,v=>⟨w61 env d v,heap,nt⟩
def putR:SS→Option Tmp→AV→SS
 |⟨⟨env,heap,nt⟩,K⟩,dst,r=>⟨⟨y3o env dst r,heap,nt⟩,K⟩
def x4a:SS→List AO→List (List CK)→SS
 |⟨⟨env,_,nt⟩,_⟩,h,K=>⟨⟨env,h,nt⟩,K⟩
def x4c (A:Alg) (β:Type) (all:List Oper) (s:AS) (g:Option (Nat×Bool)) (k:Bool→AS→A.Ω β):A.Ω β:=
 match g with
 |none=>k true s
 |some (j,want)=>match z1j all j with
  |some o=>match o.dst with
   |some d=>match z1k s.env d with
    | .d (.bool t)=>A.ask β t (k (true==want) (y3n s d (.d (.bool true)))) (k (false==want) (y3n s d (.d (.bool false))))
    | .tuple []=>k false s
    |_=>A.no β 21
   |none=>A.no β 22
  |none=>A.no β 23
def w5z (A:Alg) (β:Type) (s:AS) (x:Operand) (k:Bool→AS→A.Ω β):A.Ω β:=
 match x with
 | .tmp d=>match z1k s.env d with
  | .d (.bool t)=>A.ask β t (k true (y3n s d (.d (.bool true)))) (k false (y3n s d (.d (.bool false))))
  |_=>A.no β 24
 |x=>match z0j s.env x with
  | .d (.bool t)=>A.ask β t (k true s) (k false s)
  |_=>A.no β 25
structure Orc (A:Alg) where
 call:(β:Type)→Nat→List Bool→Nat→Nat→FuncId→List AV→SS→Option ((AV→SS→A.Ω β)→A.Ω β)
 pure:(β:Type)→Nat→List Bool→Nat→FuncId→List AV→SS→Option ((AV→A.Ω β)→A.Ω β)
 loop:(β:Type)→Nat→Nat→List Bool→SS→Option ((AX→SS→A.Ω β)→A.Ω β)
 join:(β:Type)→Nat→Nat→List Bool→((γ:Type)→(AX→SS→A.Ω γ)→A.Ω γ)→(AX→SS→A.Ω β)→A.Ω β
 view:(β:Type)→Nat→Nat→List Bool→SS→(SS→A.Ω β)→A.Ω β
abbrev y5p (A:Alg):=(β:Type)→Nat→Nat→List Bool→Code→SS→(AX→SS→A.Ω β)→A.Ω β
def y8t (A:Alg) (E:Env) (rec:y5p A) (β:Type) (g:FuncId) (args:List AV) (h:List AO) (K:List (List CK)) (k:AV→List AO→List (List CK)→A.Ω β):A.Ω β:=
 match E.B g with
 |some i=>bif Nat.ble args.length i.nt then rec β h.length g [] i.body ⟨⟨w1w 0 args,h,i.nt⟩,K⟩ fun e s=>match e with
  | .exit _=>A.no β 31
  |_=>match w6z E.T s.s i.res with
   |some r=>k r s.s.heap s.K
   |none=>A.no β 32
  else A.no β 33
 |none=>A.no β 34
def x9g (A:Alg) (E:Env) (rec:y5p A) (β:Type) (g:FuncId) (args:List AV) (ss:SS) (k:AV→SS→A.Ω β):A.Ω β:=
 y8t A E rec β g args ss.s.heap ss.K fun r h K=>bif E.fz g then k (z2f h (fun id=>Nat.blt id ss.s.heap.length) r) (x4a ss (z9s h ss.s.heap.length) ss.K) else k r (x4a ss h K)
def w2i (A:Alg) (E:Env) (rec:y5p A) (β:Type) (g:FuncId) (args:List AV) (ss:SS) (T:List Nat) (k:AV→SS→A.Ω β):A.Ω β:=
 bif okM ss.s.heap T args then y8t A E rec β g (x14 (idx T) args) (y8d ss.s.heap T T) [] fun r h _=>bif E.fz g then
   k (z6r (z16 (z45 T) ss.s.heap.length) (z2f h (fun id=>Nat.blt id T.length) r)) (x4a ss (z1l (z16 (z45 T) ss.s.heap.length) ss.s.heap 0 (z9s h T.length)) ss.K)
  else k (z6r (z16 (z45 T) ss.s.heap.length) r) (x4a ss (z1l (z16 (z45 T) ss.s.heap.length) ss.s.heap 0 h) ss.K)
 else x9g A E rec β g args ss k
def y8u (A:Alg) (E:Env) (O:Orc A) (rec:y5p A) (β:Type) (g0:Nat) (pos:List Bool) (ix n:Nat) (g:FuncId) (args:List AV) (ss:SS) (k:AV→SS→A.Ω β):A.Ω β:=
 match O.call β g0 pos ix n g args ss with
 |some t=>t k
 |none=>bif E.cl then w2i A E rec β g args ss (w4a ss.s.heap 2000 0 (w8t [] (w0u args))) k
  else x9g A E rec β g args ss k
def w28 (new:Nat):List (Nat×AO)→Bool
 |[]=>false
 |(i,_)::l=>Nat.beq i new||w28 new l
def updK (E:Env) (K:List (List CK)) (new:Nat) (u:List (Nat×AO)) (op:Op):List (List CK):=
 match newK E op with
 |some ck=>bif w28 new u then w85 K new ck else K
 |none=>K
def y9p (A:Alg) (β:Type) (p:Prim) (kk:IntKind) (i:Int) (d:Nat) (s:AS) (k:AS→A.Ω β):Nat→Nat→A.Ω β
 |0,_=>A.no β 42
 |1,j=>A.need β (p.cmp .eql i (Int.ofNat j)) (k (y3n s d (.d (.int kk (Int.ofNat j)))))
 |m+2,j=>A.ask β (p.cmp .eql i (Int.ofNat j)) (k (y3n s d (.d (.int kk (Int.ofNat j))))) (y9p A β p kk i d s k (m+1) (j+1))
def v2j (E:Env):Op→Option (Nat×Nat)
 | .indexAddr t _ (.tmp d)=>match E.T t with
  |some ti=>match ti.desc with
   | .arr n _ _=>bif Nat.ble n 16 then some (d,n) else none
   |_=>none
  |none=>none
 | .index t _ (.tmp d)=>match E.T t with
  |some ti=>match ti.desc with
   | .arr n _ _=>bif Nat.ble n 16 then some (d,n) else none
   |_=>none
  |none=>none
 |_=>none
def w9o (s:AS):Op→Bool
 | .indexAddr _ x _=>match z0j s.env x with
  | .bptr id _=>match z0e s.heap id with
   | .row _=>true
   |_=>false
  | .wptr _ _=>true
  |_=>false
 |_=>false
def ixK (A:Alg) (β:Type) (p:Prim) (E:Env) (s:AS) (op:Op) (k:AS→A.Ω β):A.Ω β:=
 match bif w9o s op then none else v2j E op with
 |some (d,n)=>match z1k s.env d with
  | .d (.int kk i)=>y9p A β p kk i d s k n 0
  |_=>A.no β 43
 |none=>k s
def v0r (E:Env):List Oper→Bool
 |[]=>false
 |o::l=>match v2j E o.op with
  |some _=>true
  |none=>v0r E l
def w44 (a:Nat):List Oper→Bool
 |[]=>false
 |o::l=>match o.op,o.dst with
  | .indexAddr _ _ _,some d=>Nat.beq d a||w44 a l
  |_,_=>w44 a l
def y2o (d:Nat) (all:List Oper):List Oper→Bool
 |[]=>false
 |o::l=>match o.op with
  | .store _ (.tmp a) (.tmp x)=>(Nat.beq x d&&w44 a all)||y2o d all l
  |_=>y2o d all l
def w42 (d:Nat):List Operand→Bool
 |[]=>false
 | .tmp x::l=>Nat.beq x d||w42 d l
 |_::l=>w42 d l
def x4b (dt:FuncId→Bool) (d:Nat):List Oper→Bool
 |[]=>false
 |o::l=>match o.op with
  | .call ⟨.value (.func g),args,_⟩=>(dt g&&w42 d args.toList)||x4b dt d l
  |_=>x4b dt d l
def x8b (d:Nat):List (Nat×Operand)→Bool
 |[]=>false
 |(_, .tmp x)::l=>Nat.beq x d||x8b d l
 |_::l=>x8b d l
def y57 (rec:Nat→Bool) (d:Nat):List Oper→Bool
 |[]=>false
 |o::l=>match o.op,o.dst with
  | .buildSlice _ _ ps,some d2=>(x8b d ps.toList&&rec d2)||y57 rec d l
  |_,_=>y57 rec d l
def y8i (dt:FuncId→Bool) (all:List Oper):Nat→Nat→Bool
 |0,d=>x4b dt d all
 |f+1,d=>x4b dt d all||y57 (y8i dt all f) d all
def w13 (dt:FuncId→Bool) (all:List Oper) (o:Oper):Bool:=
 match o.op,o.dst with
 | .buildSlice _ (_+1) _,some d=>y8i dt all 2 d||(dt 1000000&&y57 (fun _=>true) d all)
 | .call ⟨.builtin .append,_,_⟩,some d=>y2o d all all||(!(dt 1000003)&&y8i dt all 2 d)
 | .buildSlice _ 0 _,some d=>y2o d all all||y8i dt all 2 d||(dt 1000000&&y57 (fun _=>true) d all)
 |_,_=>false
def w43 (x:Nat):List Oper→Bool
 |[]=>false
 |o::l=>match o.op,o.dst with
  | .buildSlice _ _ _,some d=>Nat.beq d x||w43 x l
  |_,_=>w43 x l
def w3a (all:List Oper):List Operand→Bool
 | .tmp x::_=>w43 x all
 |_=>false
def w1m (tk:Bool) (all:List Oper) (o:Oper):List D:=
 match o.op,o.dst with
 | .call ⟨.builtin .append,args,_⟩,some d=>bif tk then (bif y57 (fun _=>true) d all then [.nilp, .nilp] else bif w3a all args.toList then [.nilp, .nilp, .nilp] else []) else []
 |_,_=>[]
def orR:List D→List D→List D
 |[],r=>r
 |x::l,_=>x::l
def x9v (all:List Oper) (x:Nat):List Oper→Bool
 |[]=>false
 |o::l=>match o.op,o.dst with
  | .call ⟨.builtin .append,args,_⟩,some d=>Nat.beq d x&&w3a all args.toList||x9v all x l
  |_,_=>x9v all x l
def w6r (all:List Oper):List Operand→Bool
 | .tmp x::_=>x9v all x all
 |_=>false
def y6n (dt tk:Bool) (all:List Oper) (o:Oper):List D:=
 match o.op with
 | .call ⟨.builtin .append,args,_⟩=>bif dt&&w6r all args.toList then [.nilp, .nilp, .nilp, .nilp, .nilp] else w1m tk all o
 |_=>w1m tk all o
def w9m (p:Prim) (env:List (Nat×AV)) (op:Op):Bool:=
 match op with
 | .call ⟨.builtin .append,args,_⟩=>match z0s env args.toList with
  |[_,x]=>p.leN (z56 p x) 0
  |_=>false
 |_=>false
def x9h (A:Alg) (β:Type) (p:Prim) (dt:Bool) (fz:List D) (E:Env) (new:Nat) (ss:SS) (o:Oper) (k:SS→A.Ω β) (s:AS):A.Ω β:=
 w5l A β p dt E ss.K s.env s.heap o.op fun q r ra=>match z08 p E.T E.G s.env s.heap new q (orR fz r) ra o.op with
  |some res=>A.need β res.c (k ⟨z43 s o.dst res.v res.u,updK E ss.K new res.u o.op⟩)
  |none=>A.no β 41
def y54 (A:Alg) (β:Type) (p:Prim) (dt:Bool) (fz:List D) (E:Env) (new:Nat) (ss:SS) (o:Oper) (k:SS→A.Ω β):A.Ω β:=
 ixK A β p E ss.s o.op fun s=>bif w7r fz then A.ask β (w9m p s.env o.op) (x9h A β p dt fz E new ss o k s) (x9h A β p dt [] E new ss o k s)
  else x9h A β p dt fz E new ss o k s
def opK (A:Alg) (p:Prim) (E:Env) (O:Orc A) (rec:y5p A) (β:Type) (n g0:Nat) (pos:List Bool) (ix:Nat) (all:List Oper) (ss0:SS) (o:Oper) (k:SS→A.Ω β):A.Ω β:=
 bif z5b ss0.s.nt o.dst then
  x4c A β all ss0.s o.guard fun b s=>match b with
  |false=>k ⟨z43 s o.dst (.tuple []) [],ss0.K⟩
  |true=>match o.op with
   | .call ⟨.value f,args,_⟩=>match z0j s.env f with
    | .clo (.func g) first captured=>y8u A E O rec β g0 pos ix n g (first++z0s s.env args.toList++captured) ⟨s,ss0.K⟩ fun r s1=>k (putR s1 o.dst r)
    | .yld id=>match z0e s.heap id with
     | .loop .ready pd g pos nt env=>match E.A g pos with
      |some (.rangeFunc _ ps asg body)=>bif (ps.toList.all fun q=>Nat.blt q nt)&&Nat.beq args.size ps.size then
        rec β s.heap.length g (false::pos) asg ⟨⟨y9s env ps.toList (z0s s.env args.toList),z0x s.heap id .dead,nt⟩,ss0.K⟩ fun e1 s1=>match e1 with
        | .normal=>rec β s.heap.length g (true::pos) body s1 fun e2 s2=>k ⟨⟨y3o s.env o.dst (.d (.bool (isN e2))),z0x s2.s.heap id (.loop (y5b e2) (z2q e2) g pos nt env),s.nt⟩,s2.K⟩
        |_=>A.no β 51
       else A.no β 52
      |_=>A.no β 53
     |_=>A.no β 54
    |_=>A.no β 55
   |_=>y54 A β p (w13 E.dt all o) (y6n (!(E.dt 1000004)) E.tk all o) E s.heap.length ⟨s,ss0.K⟩ o k
 else A.no β 56
def w26 (A:Alg) (p:Prim) (E:Env) (O:Orc A) (rec:y5p A) (β:Type) (n g0:Nat) (pos:List Bool) (all:List Oper):Nat→List Oper→SS→(SS→A.Ω β)→A.Ω β
 |_,[],s,k=>k s
 |i,o::l,s,k=>opK A p E O rec β n g0 pos i all s o fun s'=>w26 A p E O rec β n g0 pos all (i+1) l s' k
def x94 (l:List AV) (id:Nat):Bool:=y1m id (y2n l)
def okR (h:List AO) (l:List AV):Bool:=w1h (x94 l) l&&(y2n l).all (fun id=>Nat.blt id h.length&&x59 (z0e h id))
def x7v (ops:List Oper) (base i:Nat) (l:List Nat):Bool:=l.all fun id=>Nat.blt id base||(Nat.blt (id - base) i&&(z52 (z9o ops []) i).testBit (id - base))
def w9x (A:Alg) (p:Prim) (E:Env) (O:Orc A) (rec:y5p A) (β:Type) (g0:Nat) (pos:List Bool) (all:List Oper) (base i:Nat) (ss0:SS) (o:Oper) (k:SS→A.Ω β):A.Ω β:=
 bif z5b ss0.s.nt o.dst then
  x4c A β all ss0.s o.guard fun b s=>match b with
  |false=>k ⟨z43 s o.dst (.tuple []) [],ss0.K⟩
  |true=>bif x7v all base i (z69 s.env o.op) then match o.op with
   | .call ⟨.value f,args,_⟩=>match z0j s.env f with
    | .clo (.func g) first captured=>match O.pure β g0 pos i g (first++z0s s.env args.toList++captured) ⟨s,ss0.K⟩ with
     |some t=>bif z95 (first++captured) then t fun x=>k ⟨z43 s o.dst x [],ss0.K⟩ else A.no β 61
     |none=>bif z95 (first++z0s s.env args.toList++captured) then y8t A E rec β g (first++z0s s.env args.toList++captured) [] [] fun r h _=>
       bif z73 (z2f h (fun _=>false) r) then k ⟨z43 s o.dst (z2f h (fun _=>false) r) [],ss0.K⟩ else A.no β 62
      else A.need β (bL p s.heap (first++z0s s.env args.toList++captured)).1 (match O.pure β g0 pos i g (bL p s.heap (first++z0s s.env args.toList++captured)).2 ⟨s,ss0.K⟩ with
       |some t=>bif z95 (bL p s.heap (first++z0s s.env args.toList++captured)).2 then t fun x=>bif y1n x then k ⟨z43 s o.dst x [],ss0.K⟩ else A.no β 63 else A.no β 67
       |none=>bif E.cl&&okR s.heap (first++z0s s.env args.toList++captured) then
         y8t A E rec β g (first++z0s s.env args.toList++captured) (z2t s.heap (x94 (first++z0s s.env args.toList++captured)) 0 s.heap) ss0.K fun r h _=>
          bif inT (x94 (first++z0s s.env args.toList++captured)) (z2f h (fun id=>Nat.blt id s.heap.length) r)&&eqH (z9s h s.heap.length) (z2t s.heap (x94 (first++z0s s.env args.toList++captured)) 0 s.heap) then
           k ⟨z43 s o.dst (z2f h (fun id=>Nat.blt id s.heap.length) r) [],ss0.K⟩ else A.no β 80
        else y8t A E rec β g (bL p s.heap (first++z0s s.env args.toList++captured)).2 [] [] fun r h _=>
        bif y1n (z2f h (fun _=>false) r) then k ⟨z43 s o.dst (z2f h (fun _=>false) r) [],ss0.K⟩ else A.no β 68)
    |_=>A.no β 64
   |_=>y54 A β p (w13 E.dt all o) (y6n (!(E.dt 1000004)) E.tk all o) E (base+i) ⟨s,ss0.K⟩ o k
   else A.no β 65
 else A.no β 66
def x2c (A:Alg) (p:Prim) (E:Env) (O:Orc A) (rec:y5p A) (β:Type) (g0:Nat) (pos:List Bool) (all:List Oper) (base:Nat):List (List Nat)→Nat→List Oper→SS→(SS→A.Ω β)→A.Ω β
 |_,_,[],s,k=>k s
 |acc,i,o::l,s,k=>bif x3j all acc i o (z69 s.s.env o.op) then w9x A p E O rec β g0 pos all base i s o fun s'=>x2c A p E O rec β g0 pos all base (acc++[z69 s.s.env o.op]) (i+1) l s' k else A.no β 69
def x2q:List Oper→Bool
 |[]=>false
 |o::l=>match o.guard with
  |some _=>true
  |none=>x2q l
def v0z (A:Alg) (β:Type) (p:Prim) (E:Env) (x:x6p) (ss:SS) (k:SS→A.Ω β):A.Ω β:=
 match z1k ss.s.env x.a,z1k ss.s.env x.b,z0j ss.s.env (.const x.c) with
 | .map id, .d kd, .d (.int kc n)=>match z0e ss.s.heap id,E.T x.t with
  | .map es,some ti=>match ti.desc,z9n x.bop with
   | .map _ _ ez, .arith=>x6c A β p E x.t ss.s.heap (.map id) (.d kd) fun q r _=>match z5l q r ez with
    | .int ko o=>bif (ko==kc)&&(Nat.blt x.dL ss.s.nt&&(Nat.blt x.dB ss.s.nt&&(Nat.blt x.dM ss.s.nt&&(Nat.blt x.dX ss.s.nt&&Nat.blt id ss.s.heap.length)))) then
      k ⟨x57 x ss.s id (.int ko o) (.int ko (p.ar x.bop ko o n)) (w83 p es q r kd (.int ko (p.ar x.bop ko o n))),ss.K⟩ else A.no β 74
    |_=>A.no β 75
   |_,_=>A.no β 76
  |_,_=>A.no β 77
 |_,_,_=>A.no β 78
def sym (A:Alg) (p:Prim) (E:Env) (O:Orc A):Nat→y5p A
 |0,β,_,_,_,_,_,_=>A.no β 71
 |f+1,β,n,g,pos,c,ss,k=>match c with
  | .skip=>k .normal ss
  | .label _=>k .normal ss
  | .exit id=>k (.exit id) ss
  | .ret=>k .ret ss
  | .seq a b=>sym A p E O f β n g (false::pos) a ss fun e s'=>match e with
   | .normal=>sym A p E O f β n g (true::pos) b s' k
   |e=>k e s'
  | .cond c a b=>O.join β n g pos (fun γ k=>w5z A γ ss.s c fun x s=>match x with
   |true=>sym A p E O f γ n g (false::pos) a ⟨s,ss.K⟩ k
   |false=>sym A p E O f γ n g (true::pos) b ⟨s,ss.K⟩ k) k
  | .block id c=>O.join β n g pos (fun γ k=>sym A p E O f γ n g (false::pos) c ss fun e s'=>match e with
   | .exit j=>bif Nat.beq j id then k .normal s' else k (.exit j) s'
   |e=>k e s') k
  | .scope c=>sym A p E O f β n g (false::pos) c ss k
  | .loop c=>match O.loop β n g pos ss with
   |some t=>t k
   |none=>sym A p E O f β n g (false::pos) c ss fun e s'=>match e with
    | .normal=>sym A p E O f β n g pos (.loop c) s' k
    |e=>k e s'
  | .region _ ops false=>bif x2q ops.toList||v0r E ops.toList then O.join β n g pos (fun γ k=>O.view γ n g pos ss fun ss=>w26 A p E O (sym A p E O f) γ n g pos ops.toList 0 ops.toList ss fun s'=>k .normal s') k
    else O.view β n g pos ss fun ss=>w26 A p E O (sym A p E O f) β n g pos ops.toList 0 ops.toList ss fun s'=>k .normal s'
  | .region _ ops true=>bif y5f ops.toList&&z6h ops.toList then O.view β n g pos ss fun ss=>match w5a ops.toList with
    |none=>bif E.tl then x2c A p E O (sym A p E O f) β g pos ops.toList ss.s.heap.length [] 0 (ops.toList.take (y43 E.tk E.cl ops.toList)) ss fun s1=>
       w26 A p E O (sym A p E O f) β n g pos ops.toList (y43 E.tk E.cl ops.toList) (ops.toList.drop (y43 E.tk E.cl ops.toList)) s1 fun s'=>k .normal s'
      else x2c A p E O (sym A p E O f) β g pos ops.toList ss.s.heap.length [] 0 ops.toList ss fun s'=>k .normal s'
    |some (pre,x)=>bif y2u ops.toList then x2c A p E O (sym A p E O f) β g pos ops.toList ss.s.heap.length [] 0 pre ss fun s'=>v0z A β p E x s' fun s''=>k .normal s'' else A.no β 79
   else A.no β 72
  | .rangeFunc fo ps asg body=>match z0j ss.s.env fo with
   | .clo (.func g') first captured=>y8u A E O (sym A p E O f) β g pos 0 (ss.s.heap.length+1) g' (first++[.yld ss.s.heap.length]++captured) ⟨⟨ss.s.env,z0x ss.s.heap ss.s.heap.length (.loop .ready none g pos ss.s.nt ss.s.env),ss.s.nt⟩,ss.K⟩ fun _ sc=>
    match z0e sc.s.heap ss.s.heap.length with
    | .loop st pd _ _ _ _=>match st with
     | .busy=>A.no β 73
     |_=>match z8x sc.s (z0x sc.s.heap ss.s.heap.length .dead) pd with
      |some (e,s')=>k e ⟨s',sc.K⟩
      |none=>A.no β 74
    |_=>A.no β 75
   |_=>A.no β 76
  |_=>A.no β 77
structure EnvOk (P:Program) (E:Env):Prop where
 ti:y0f P E.T
 gl:GOk P E.G
 fn:∀ g i,E.B g=some i→∃ fn,P.funcs[g]?=some fn∧fn.body=some i.body∧fn.ntmps=i.nt∧fn.results.toList=i.res∧z42 P g
 code:∀ g pos c,E.A g pos=some c→z3r P g pos=some c
 mixed:P.follows .mixedOrders=true
theorem y2x {E:Env} {β:Type} {t:TypeId} {h:List AO} {m k:AV} {c:Bool→List D→List AV→Option β} {b:β} (hx:x6c opt β std E t h m k c=some b):∃ q r ra,(y0i std E.T t h m k).ok q r ra∧c q r ra=some b:=by
 unfold x6c at hx
 unfold y0i
 split at hx
 ·rename_i ti hti
  simp only [hti]
  split at hx
  ·rename_i ks ka ez kd hdesc
   split at hx
   ·obtain ⟨hc,hx⟩:=z4t hx
    refine ⟨false,[],[], .inl ⟨?_,rfl⟩,hx⟩
    simp only [z2k,hdesc,hc,cond_true]
   ·rename_i id
    split at hx
    ·rename_i es hob
     obtain ⟨hc,hx⟩:=z4t hx
     simp only [std,eAb] at hc
     obtain ⟨⟨hk1,hk2⟩,hc⟩:=hc
     have hfm:z2k std ti h (.map id) (.d kd)=x0l ks ka kd es 0:=by
      simp only [z2k,hdesc,hob,hk1,hk2,Bool.and_self,cond_true,w1q]
     rcases z7v hx with ⟨hh,hx⟩|⟨hh,hx⟩
     ·refine ⟨_,_,_, .inr ?_,hx⟩
      simp only [std,w4n] at hh
      cases hq:x0l ks ka kd es 0 with
      |none=>rw [hq] at hh; simp at hh
      |some r=>
       cases r with
       |none=>rw [hq] at hh; simp at hh
       |some q=>
        obtain ⟨i,v⟩:=q
        rw [hq] at hc
        simp only [eAb,beq_iff_eq] at hc
        obtain ⟨ha,hc⟩:=hc
        have hmg:w4n es ks ka kd=some (i,v):=by simp [w4n,hq]
        refine ⟨i,v,mkV (E.CM t).1 (x70 std es ks ka kd 0 (E.CM t).2),by rw [hfm,hq],?_,rfl,?_⟩
        ·obtain ⟨h1,h2⟩:=y0a _ _ hc
         obtain ⟨m1,m2⟩:=x3w std es ks ka kd (E.CM t).2 0
         have hrow:y8y (z0q v) (x70 std es ks ka kd 0 (E.CM t).2):=by
          refine ⟨by rw [m1,h1],fun j y hy=>?_⟩
          obtain ⟨c,hcc,rfl⟩:=m2 j y hy
          obtain ⟨d,hd,hcd⟩:=h2 j c hcc
          refine ⟨d,hd,x6k hcd ?_⟩
          rw [eAp]
          have e:x2i es ks ka kd j=d:=by simp [x2i,hmg,hd]
          cases c<;>simp only [v0c,w60,std,e]
         cases v with
         |agg l=>
          have:(E.CM t).1=true:=by rw [←ha]; rfl
          rw [this]
          exact .inr ⟨l,_,rfl,rfl,hrow⟩
         |_=>
          have:(E.CM t).1=false:=by rw [←ha]; rfl
          rw [this]
          simp only [z0q] at hrow
          obtain ⟨r1,r2⟩:=hrow
          match hm:x70 std es ks ka kd 0 (E.CM t).2,r1 with
          |[y],_=>
           obtain ⟨x,hx,hle⟩:=r2 0 y (by rw [hm]; rfl)
           simp at hx; subst hx
           exact .inl hle
        ·simp [std,hmg]
     ·refine ⟨_,_,_, .inl ?_,hx⟩
      simp only [std,w4n] at hh
      cases hq:x0l ks ka kd es 0 with
      |none=>rw [hq] at hc; simp at hc
      |some r=>
       cases r with
       |none=>exact ⟨by rw [hfm,hq],rfl⟩
       |some q=>rw [hq] at hh; simp at hh
    ·cases hx
   ·cases hx
  ·cases hx
 ·cases hx
theorem x4h {β:Type} {ck:List CK} {es:List (List D)} {i:Nat} {b:β}:∀ (n j:Nat) (c:List D→Option β),w1s opt β std ck es i c n j=some b→∃ r,y1y es (i+j) r∧c r=some b
 |0,j,c,h=>⟨[],fun k x hx=>by simp at hx,h⟩
 |n+1,j,c,h=>by
  have e:(bif Nat.beq j 0 then i else std.add i j)=i+j:=by
   cases hb:Nat.beq j 0 with
   |true=>have:=eAc hb; subst this; rfl
   |false=>rfl
  simp only [w1s,e] at h
  split at h
  ·rename_i x hx
   obtain ⟨hc,h⟩:=z4t h
   have hr:=x3c hc
   rw [hx] at hr
   obtain ⟨r,h1,h2⟩:=x4h n (j+1) _ h
   refine ⟨x::r,fun k y hy=>?_,h2⟩
   cases k with
   |zero=>simp at hy; subst hy; exact hr
   |succ k=>rw [show i+j+(k+1)=i+(j+1)+k by omega]; exact h1 k y (by simpa using hy)
  ·cases h
theorem x08 {es:List (List D)}:∀ {n i:Nat} {r:List D},x4y es i n=some r→y1y es i r
 |0,i,r,h=>by cases h; intro j x hj; simp at hj
 |n+1,i,r,h=>by
  simp only [x4y] at h
  split at h
  ·rename_i x l h1 h2
   cases h
   intro j y hj
   cases j with
   |zero=>
    simp at hj; subst hj
    rw [z1b] at h1
    exact ⟨_,h1, .refl _⟩
   |succ j=>
    have:=x08 h2 j y (by simpa using hj)
    rw [show i+(j+1)=i+1+j by omega]; exact this
  ·cases h
theorem w1r {β:Type} {dt:Bool} {ck:List CK} {w:x97} {c:Bool→List D→List AV→Option β} {b:β} (hx:w5k opt β std dt ck w c=some b):∃ q r ra,w.ok q r ra∧c q r ra=some b:=by
 unfold w5k at hx
 split at hx
 ·exact ⟨_,_,_,trivial,hx⟩
 ·split at hx
  ·obtain ⟨hc,hx⟩:=z4t hx
   exact ⟨_,_,_,x3c hc,hx⟩
  ·split at hx
   ·rename_i r hr
    rw [z1b] at hr
    exact ⟨_,_,_,⟨r,hr, .refl _⟩,hx⟩
   ·cases hx
 ·split at hx
  ·obtain ⟨r,h1,h2⟩:=x4h _ _ _ hx
   exact ⟨_,_,_,h1,h2⟩
  ·split at hx
   ·rename_i r hr
    exact ⟨_,_,_,x08 hr,hx⟩
   ·cases hx
 ·split at hx
  ·rename_i r hr
   rw [z1b] at hr
   exact ⟨_,_,_,hr,hx⟩
  ·cases hx
 ·rcases z7v hx with ⟨hb,hx⟩|⟨hb,hx⟩
  ·exact ⟨_,_,_,hb,hx⟩
  ·exact ⟨_,_,_,hb,hx⟩
 ·cases hx
theorem w1t {dt:Bool} {E:Env} {β:Type} {K:List (List CK)} {env:List (Nat×AV)} {h:List AO} {op:Op} {c:Bool→List D→List AV→Option β} {b:β} (hx:w5l opt β std dt E K env h op c=some b):∃ q r ra,(z1q std E.T env h op).ok q r ra∧c q r ra=some b:=by
 unfold w5l at hx
 split at hx
 ·exact y2x hx
 ·exact y2x hx
 ·split at hx
  ·rename_i t _ m k h1 h2
   simp only [z1q,h1,h2]
   exact y2x hx
  ·cases hx
 ·exact w1r hx
theorem x7i:∀ (env:List (Nat×AV)) (d:Nat) (v:AV),z1k env d=v→v≠ .bot→w61 env d v=env:=by
 intro env
 induction env with
 |nil=>intro d v h hv; simp [z1k] at h; exact absurd h.symm hv
 |cons x env ih=>
  intro d v h hv
  obtain ⟨k,w⟩:=x
  simp only [z1k] at h
  simp only [w61]
  cases hb:Nat.beq k d with
  |true=>rw [hb] at h; simp at h; subst h; rfl
  |false=>rw [hb] at h; simp at h; simp [ih d v h hv]
theorem z5j {s:AS} {d:Nat} {v:AV} (h:z1k s.env d=v) (hv:v≠ .bot):y3n s d v=s:=by
 show (⟨w61 s.env d v,s.heap,s.nt⟩:AS)=s
 rw [x7i _ _ _ h hv]
theorem x0g {β:Type} {all:List Oper} {s:AS} {g:Option (Nat×Bool)} {k:Bool→AS→Option β} {b:β} (h:x4c opt β all s g k=some b):∃ x,z5o all s.env g=some x∧k x s=some b:=by
 unfold x4c at h
 split at h
 ·exact ⟨true,rfl,h⟩
 ·rename_i j want
  simp only [z5o]
  cases ho:z1j all j with
  |none=>rw [ho] at h; cases h
  |some o=>
   rw [ho] at h
   simp only at h⊢
   cases hd:o.dst with
   |none=>rw [hd] at h; cases h
   |some d=>
    rw [hd] at h
    simp only at h⊢
    cases ht:z1k s.env d with
    |d y=>
     rw [ht] at h
     cases y with
     |bool t=>
      rcases z7v h with ⟨e,h⟩|⟨e,h⟩
      ·subst e; rw [z5j ht (by simp)] at h; exact ⟨_,rfl,h⟩
      ·subst e; rw [z5j ht (by simp)] at h; exact ⟨_,rfl,h⟩
     |_=>cases h
    |tuple l=>
     rw [ht] at h
     cases l with
     |nil=>exact ⟨_,rfl,h⟩
     |cons _ _=>cases h
    |_=>rw [ht] at h; cases h
theorem y9o {β:Type} {kk:IntKind} {i:Int} {d:Nat} {s:AS} {k:AS→Option β} {b:β} (he:z1k s.env d= .d (.int kk i)):∀ {n j:Nat},y9p opt β std kk i d s k n j=some b→k s=some b
 |0,_,h=>by cases h
 |1,j,h=>by
  simp only [y9p] at h
  obtain ⟨hc,h⟩:=z4t h
  have:i=Int.ofNat j:=by simpa [std,z3o] using hc
  rw [←this,z5j he (by simp)] at h; exact h
 |m+2,j,h=>by
  simp only [y9p] at h
  rcases z7v h with ⟨hc,h⟩|⟨_,h⟩
  ·have:i=Int.ofNat j:=by simpa [std,z3o] using hc
   rw [←this,z5j he (by simp)] at h; exact h
  ·exact y9o he h
theorem w7j {β:Type} {E:Env} {s:AS} {op:Op} {k:AS→Option β} {b:β} (h:ixK opt β std E s op k=some b):k s=some b:=by
 unfold ixK at h
 split at h
 ·split at h
  ·rename_i kk i he
   exact y9o he h
  ·cases h
 ·exact h
theorem w2b {β:Type} {s:AS} {c:Operand} {k:Bool→AS→Option β} {b:β} (h:w5z opt β s c k=some b):∃ x,z0j s.env c= .d (.bool x)∧k x s=some b:=by
 unfold w5z at h
 split at h
 ·rename_i d
  split at h
  ·rename_i t ht
   rcases z7v h with ⟨e,h⟩|⟨e,h⟩<;>subst e<;>rw [z5j ht (by simp)] at h<;>exact ⟨_,ht,h⟩
  ·cases h
 ·split at h
  ·rename_i t ht
   rcases z7v h with ⟨e,h⟩|⟨e,h⟩<;>subst e<;>exact ⟨_,ht,h⟩
  ·cases h
section
variable {P:Program} {E:Env} {O:Orc opt}
def y5q (P:Program) (rec:y5p opt):Prop:=∀ β n g pos c ss k (b:β),z3r P g pos=some c→n≤ss.s.heap.length→rec β n g pos c ss k=some b→∃ e ss',n≤ss'.s.heap.length∧z5u P n c ss.s (fun e' s2=>e'=e∧s2=ss'.s)∧k e ss'=some b
structure y2m (P:Program) (O:Orc opt):Prop where
 call:∀ β g0 pos ix n g args ss t k (b:β),O.call β g0 pos ix n g args ss=some t→t k=some b→n≤ss.s.heap.length→∃ r ss',n≤ss'.s.heap.length∧z42 P g∧z4a P n g args ss.s r ss'.s∧k r ss'=some b
 pure:∀ β g0 pos ix g args ss t k (b:β),O.pure β g0 pos ix g args ss=some t→t k=some b→∃ r,z42 P g∧(∀ h,(∀ x∈args,∀ id∈tid x,z0e h id=z0e ss.s.heap id)→z2z P g args h r h)∧k r=some b
 loop:∀ β n g pos c ss t k (b:β),z3r P g pos=some (.loop c)→n≤ss.s.heap.length→O.loop β n g pos ss=some t→t k=some b→∃ e ss',n≤ss'.s.heap.length∧z5u P n (.loop c) ss.s (fun e' s2=>e'=e∧s2=ss'.s)∧k e ss'=some b
 join:∀ β n g pos body k (b:β) (G:AX→SS→Prop),(∀ γ k (b:γ),body γ k=some b→∃ e ss',G e ss'∧k e ss'=some b)→O.join β n g pos body k=some b→∃ e ss1 ss',G e ss1∧y0g n ss1.s ss'.s∧(n≤ss1.s.heap.length→n≤ss'.s.heap.length)∧k e ss'=some b
 view:∀ β n g pos ss k (b:β),n≤ss.s.heap.length→O.view β n g pos ss k=some b→∃ ss',y0g n ss.s ss'.s∧n≤ss'.s.heap.length∧k ss'=some b
theorem z7u (ht:EnvOk P E) {rec:y5p opt} (hr:y5q P rec) {β:Type} {g:FuncId} {args:List AV} {h:List AO} {K:List (List CK)} {k:AV→List AO→List (List CK)→Option β} {b:β} (hc:y8t opt E rec β g args h K k=some b):
  ∃ r h' K',z2z P g args h r h'∧h.length≤h'.length∧z42 P g∧k r h' K'=some b:=by
 unfold y8t at hc
 split at hc
 ·rename_i i hi
  cases hb:Nat.ble args.length i.nt with
  |false=>rw [hb] at hc; cases hc
  |true=>
  rw [hb] at hc
  have hle:=eAf hb
  obtain ⟨fn,f1,f2,f3,f4,f5⟩:=ht.fn g i hi
  have hcode:z3r P g []=some i.body:=by simp [z3r,w3i,f1,f2]
  obtain ⟨e,ss,l1,l2,hc⟩:=hr β h.length _ _ _ ⟨⟨w1w 0 args,h,i.nt⟩,K⟩ _ _ hcode (eAk _) hc
  have fin:∀ r,(e= .normal∨e= .ret)→w6z E.T ss.s i.res=some r→z2z P g args h r ss.s.heap:=by
   intro r he hres
   refine x1d ht.ti f1 f2 f3 hle (l2.mono fun e' s2 hq=>?_)
   obtain ⟨rfl,rfl⟩:=hq
   exact ⟨he,by rw [f4]; exact hres,rfl⟩
  cases e with
  |exit j=>cases hc
  |normal=>
   simp only at hc
   split at hc
   ·rename_i r' hres
    exact ⟨_,_,_,fin _ (.inl rfl) hres,l1,f5,hc⟩
   ·cases hc
  |ret=>
   simp only at hc
   split at hc
   ·rename_i r' hres
    exact ⟨_,_,_,fin _ (.inr rfl) hres,l1,f5,hc⟩
   ·cases hc
 ·cases hc
theorem x40 (ht:EnvOk P E) {rec:y5p opt} (hr:y5q P rec) {β:Type} {n:Nat} {g:FuncId} {args:List AV} {ss:SS} {k:AV→SS→Option β} {b:β} (hn:n≤ss.s.heap.length) (hc:x9g opt E rec β g args ss k=some b):
  ∃ r ss',n≤ss'.s.heap.length∧z42 P g∧z4a P n g args ss.s r ss'.s∧k r ss'=some b:=by
 unfold x9g at hc
 obtain ⟨r,h',K',c1,c2,c3,hc⟩:=z7u ht hr hc
 have hc':(bif E.fz g then k (z2f h' (fun id=>Nat.blt id ss.s.heap.length) r) ⟨⟨ss.s.env,z9s h' ss.s.heap.length,ss.s.nt⟩,ss.K⟩ else k r ⟨⟨ss.s.env,h',ss.s.nt⟩,K'⟩)=some b:=hc
 cases hf:E.fz g with
 |false=>
  rw [hf] at hc'
  exact ⟨r,⟨⟨ss.s.env,h',ss.s.nt⟩,K'⟩,eBf hn c2,c3, .of_aret hn c1,hc'⟩
 |true=>
  rw [hf] at hc'
  exact ⟨_,⟨⟨ss.s.env,z9s h' ss.s.heap.length,ss.s.nt⟩,ss.K⟩,by simp only [z9s,z4p,eBv]; omega,c3, .of_aret hn c1.view,hc'⟩
theorem w2h (ht:EnvOk P E) {rec:y5p opt} (hr:y5q P rec) {β:Type} {n:Nat} {g:FuncId} {args:List AV} {ss:SS} {T:List Nat} {k:AV→SS→Option β} {b:β} (hn:n≤ss.s.heap.length) (hc:w2i opt E rec β g args ss T k=some b):
  ∃ r ss',n≤ss'.s.heap.length∧z42 P g∧z4a P n g args ss.s r ss'.s∧k r ss'=some b:=by
 unfold w2i at hc
 cases hok:okM ss.s.heap T args with
 |false=>rw [hok] at hc; exact x40 ht hr hn hc
 |true=>
  rw [hok] at hc
  simp only [cond_true] at hc
  obtain ⟨r,h',K',c1,c2,c3,hc⟩:=z7u ht hr hc
  have hc':(bif E.fz g then
   k (z6r (z16 (z45 T) ss.s.heap.length) (z2f h' (fun id=>Nat.blt id T.length) r)) ⟨⟨ss.s.env,z1l (z16 (z45 T) ss.s.heap.length) ss.s.heap 0 (z9s h' T.length),ss.s.nt⟩,ss.K⟩
  else k (z6r (z16 (z45 T) ss.s.heap.length) r) ⟨⟨ss.s.env,z1l (z16 (z45 T) ss.s.heap.length) ss.s.heap 0 h',ss.s.nt⟩,ss.K⟩)=some b:=hc
  cases hf:E.fz g with
  |false=>
   rw [hf] at hc'
   exact ⟨_,_,eBf hn (z6j _ _ _ _).1,c3,y96 hn hok c2 c1,hc'⟩
  |true=>
   rw [hf] at hc'
   have c1v:=c1.view
   rw [y0s] at c1v c2
   exact ⟨_,_,eBf hn (z6j _ _ _ _).1,c3,y96 hn hok (by rw [y0s]; simp only [z9s,z4p,eBv]; omega) c1v,hc'⟩
theorem y61 (ht:EnvOk P E) (hO:y2m P O) {rec:y5p opt} (hr:y5q P rec) {β:Type} {g0:Nat} {pos:List Bool} {ix n:Nat} {g:FuncId} {args:List AV} {ss:SS} {k:AV→SS→Option β} {b:β} (hn:n≤ss.s.heap.length) (hc:y8u opt E O rec β g0 pos ix n g args ss k=some b):
  ∃ r ss',n≤ss'.s.heap.length∧z42 P g∧z4a P n g args ss.s r ss'.s∧k r ss'=some b:=by
 unfold y8u at hc
 split at hc
 ·rename_i t ht'
  exact hO.call _ _ _ _ _ _ _ _ _ _ _ ht' hc hn
 ·have hc':(bif E.cl then w2i opt E rec β g args ss (w4a ss.s.heap 2000 0 (w8t [] (w0u args))) k else x9g opt E rec β g args ss k)=some b:=hc
  cases hcl:E.cl with
  |false=>rw [hcl] at hc'; exact x40 ht hr hn hc'
  |true=>rw [hcl] at hc'; exact w2h ht hr hn hc'
theorem w0b {T:TypeId→Option TI} {env:List (Nat×AV)} {h:List AO} {args:Array Operand} {ts:Array TypeId} {q:Bool} {r r':List D} {ra:List AV} (hw:(z1q std T env h (.call ⟨.builtin .append,args,ts⟩)).ok q r ra):(z1q std T env h (.call ⟨.builtin .append,args,ts⟩)).ok q r' ra:=by
 simp only [z1q] at hw⊢
 split
 ·rename_i s x he
  rw [he] at hw
  simp only at hw
  cases hb:z3l std s x with
  |none=>trivial
  |some b=>rw [hb] at hw; exact hw
 ·trivial
theorem x8l {tk:Bool} {all:List Oper} {o:Oper} (h:w1m tk all o≠[]):∃ args ts,o.op= .call ⟨.builtin .append,args,ts⟩:=by
 unfold w1m at h
 split at h
 ·rename_i args ts d ho _
  exact ⟨args,ts,ho⟩
 ·exact absurd rfl h
theorem y6m {dt tk:Bool} {all:List Oper} {o:Oper} (h:y6n dt tk all o≠[]):∃ args ts,o.op= .call ⟨.builtin .append,args,ts⟩:=by
 unfold y6n at h
 split at h
 ·rename_i args ts ho
  exact ⟨args,ts,ho⟩
 ·exact x8l h
theorem y8w {β:Type} {dt:Bool} {fz:List D} {new:Nat} {ss:SS} {o:Oper} {k:SS→Option β} {b:β} (hfz:fz≠[]→∃ args ts,o.op= .call ⟨.builtin .append,args,ts⟩) (h:x9h opt β std dt fz E new ss o k ss.s=some b):∃ q r ra res ss',(z1q std E.T ss.s.env ss.s.heap o.op).ok q r ra∧z08 std E.T E.G ss.s.env ss.s.heap new q r ra o.op=some res∧res.c=true∧ss'.s=z43 ss.s o.dst res.v res.u∧k ss'=some b:=by
 unfold x9h at h
 obtain ⟨q,r,ra,hw,h⟩:=w1t h
 have hw':(z1q std E.T ss.s.env ss.s.heap o.op).ok q (orR fz r) ra:=by
  cases fz with
  |nil=>exact hw
  |cons a l=>
   obtain ⟨args,ts,ho⟩:=hfz (by simp)
   rw [ho] at hw⊢
   exact w0b hw
 split at h
 ·rename_i res hres
  obtain ⟨hc,h⟩:=z4t h
  exact ⟨q,_,ra,res,_,hw',hres,hc,rfl,h⟩
 ·cases h
theorem y90 {β:Type} {dt:Bool} {fz:List D} {new:Nat} {ss:SS} {o:Oper} {k:SS→Option β} {b:β} (hfz:fz≠[]→∃ args ts,o.op= .call ⟨.builtin .append,args,ts⟩) (h:y54 opt β std dt fz E new ss o k=some b):∃ q r ra res ss',(z1q std E.T ss.s.env ss.s.heap o.op).ok q r ra∧z08 std E.T E.G ss.s.env ss.s.heap new q r ra o.op=some res∧res.c=true∧ss'.s=z43 ss.s o.dst res.v res.u∧k ss'=some b:=by
 unfold y54 at h
 replace h:=w7j h
 cases h5:w7r fz with
 |false=>rw [h5] at h; exact y8w hfz h
 |true=>
  rw [h5] at h
  rcases z7v h with ⟨_,h⟩|⟨_,h⟩
  ·exact y8w hfz h
  ·exact y8w (fun e=>absurd rfl e) h
theorem y80.mono {n:Nat} {ops:Array Oper} {l:List Nat} {s:AS} {Q Q':AS→Prop} (h:y80 P n ops l s Q) (hq:∀ s,Q s→Q' s):y80 P n ops l s Q':=
 ⟨fun b k cs ρ tm ds w B h1 h2=>let ⟨s',ρ',tm',w',q,r⟩:=h.run b k cs ρ tm ds w B h1 h2; ⟨s',ρ',tm',w',hq _ q,r⟩⟩
theorem w62 (ht:EnvOk P E) (hO:y2m P O) {rec:y5p opt} (hr:y5q P rec) {β:Type} {n:Nat} {ops:Array Oper} {i:Nat} {rest:List Nat} {g0:Nat} {pos:List Bool} {ix:Nat} {ss:SS} {o:Oper} {k:SS→Option β} {b:β} (ho:ops[i]?=some o) (hn:n≤ss.s.heap.length)
  (hs:opK opt std E O rec β n g0 pos ix ops.toList ss o k=some b):∃ ss',n≤ss'.s.heap.length∧(∀ Q,y80 P n ops rest ss'.s Q→y80 P n ops (i::rest) ss.s Q)∧k ss'=some b:=by
 unfold opK at hs
 cases hd:z5b ss.s.nt o.dst with
 |false=>rw [hd] at hs; cases hs
 |true=>
 rw [hd] at hs
 simp only [cond_true] at hs
 obtain ⟨x,hg,hs⟩:=x0g hs
 cases x with
 |false=>exact ⟨⟨z43 ss.s o.dst (.tuple []) [],ss.K⟩,hn,fun Q h=>x7o ho hg hd h,hs⟩
 |true=>
  have plain:y54 opt β std (w13 E.dt ops.toList o) (y6n (!(E.dt 1000004)) E.tk ops.toList o) E ss.s.heap.length ⟨ss.s,ss.K⟩ o k=some b→∃ ss',n≤ss'.s.heap.length∧(∀ Q,y80 P n ops rest ss'.s Q→y80 P n ops (i::rest) ss.s Q)∧k ss'=some b:=by
   intro hp
   obtain ⟨q,r,ra,res,ss',hw,hst,hc,he,hk⟩:=y90 y6m hp
   have hl:n≤ss'.s.heap.length:=by rw [he]; exact eBf hn (z34 res.u ss.s.heap).1
   refine ⟨ss',hl,fun Q h=>x7n ht.ti ht.gl ho hg hn hw hst hc hd ?_,hk⟩
   rw [he] at h; exact h
  simp only at hs
  split at hs
  ·rename_i f args ts hop
   split at hs
   ·rename_i g first captured hf
    obtain ⟨r,s1,c1,c2,c3,hs⟩:=y61 ht hO hr hn hs
    exact ⟨⟨⟨y3o s1.s.env o.dst r,s1.s.heap,s1.s.nt⟩,s1.K⟩,c1,fun Q h=>x5p ho hg hop hf c2 c3 hd h,hs⟩
   ·rename_i id hf
    split at hs
    ·rename_i pd g pos' nt env hob
     split at hs
     ·rename_i x0 ps asg body hcode
      have hcode:=ht.code _ _ _ hcode
      cases hb:(ps.toList.all fun q=>Nat.blt q nt)&&Nat.beq args.size ps.size with
      |false=>rw [hb] at hs; cases hs
      |true=>
      rw [hb] at hs
      simp only [eAb] at hb
      have hca:z3r P g (false::pos')=some asg:=by simp [z3r,hcode,w6n]
      have hcb:z3r P g (true::pos')=some body:=by simp [z3r,hcode,w6n]
      have hidlt:∀ (id:Nat),ss.s.heap.length≤(z0x ss.s.heap id .dead).length:=fun id=>(z1m ss.s.heap id .dead).1
      obtain ⟨e1,s1,a1,a2,hs⟩:=hr _ _ _ _ _ _ _ _ hca (hidlt id) hs
      cases e1 with
      |exit j=>cases hs
      |ret=>cases hs
      |normal=>
       simp only at hs
       obtain ⟨e2,s2,b1,b2,hs⟩:=hr _ _ _ _ _ _ _ _ hcb a1 hs
       have hl:n≤(z0x s2.s.heap id (.loop (y5b e2) (z2q e2) g pos' nt env)).length:=eBf hn (eBf b1 (z1m _ _ _).1)
       refine ⟨⟨⟨y3o ss.s.env o.dst (.d (.bool (isN e2))),z0x s2.s.heap id (.loop (y5b e2) (z2q e2) g pos' nt env),ss.s.nt⟩,s2.K⟩,hl,fun Q h=>x5o ho hg hn hop hf hob hcode (fun q hq=>eAf (eAr.1 hb.1 q hq)) (eAc hb.2) hd (a2.mono fun e s hq=>?_),hs⟩
       obtain ⟨rfl,rfl⟩:=hq
       refine ⟨rfl,b2.mono fun e s hq=>?_⟩
       obtain ⟨rfl,rfl⟩:=hq
       exact ⟨b1,h⟩
     ·cases hs
    ·cases hs
   ·cases hs
  ·exact plain hs
theorem x7s (ht:EnvOk P E) (hO:y2m P O) {rec:y5p opt} (hr:y5q P rec) {β:Type} {n:Nat} {ops:Array Oper} {g0:Nat} {pos:List Bool} {k:SS→Option β} {b:β}:∀ (l:List Oper) (i:Nat) (ss:SS),(∀ j o,l[j]?=some o→ops[i+j]?=some o)→n≤ss.s.heap.length→w26 opt std E O rec β n g0 pos ops.toList i l ss k=some b→
  ∃ ss',n≤ss'.s.heap.length∧y80 P n ops (List.range' i l.length) ss.s (fun s2=>s2=ss'.s)∧k ss'=some b:=by
 intro l
 induction l with
 |nil=>
  intro i ss hl hn hs
  simp only [w26] at hs
  exact ⟨ss,hn,w00 rfl,hs⟩
 |cons o l ih=>
  intro i ss hl hn hs
  simp only [w26] at hs
  have ho:ops[i]?=some o:=by simpa using hl 0 o rfl
  obtain ⟨s1,hlen,h1,hs⟩:=w62 (rest:=List.range' (i+1) l.length) ht hO hr ho hn hs
  obtain ⟨ss',l1,l2,hs⟩:=ih (i+1) s1 (fun j p hp=>by have:=hl (j+1) p (by simpa using hp); rw [show i+1+j=i+(j+1) by omega]; exact this) hlen hs
  refine ⟨ss',l1,?_,hs⟩
  rw [eBi,List.range'_succ]
  exact h1 _ l2
theorem x7u {ops:List Oper} {base i:Nat} {l:List Nat} (h:x7v ops base i l=true):x5r ops base i l:=by
 intro id hid
 have:=eAr.1 h id hid
 rw [eAq] at this
 rcases this with h|h
 ·exact .inl (eAf h)
 ·rw [eAb] at h
  by_cases hlt:id<base
  ·exact .inl hlt
  ·exact .inr ⟨id - base,by omega,eAf h.1,h.2⟩
theorem y98 {x:Nat}:∀ {l:List Nat},y1m x l=true→x∈l
 |[],h=>by cases h
 |y::l,h=>by
  simp only [y1m,eAq] at h
  rcases h with h|h
  ·rw [eAc h]; exact eBq ..
  ·exact eCm _ (y98 h)
theorem x9s {o:Oper} {s:AS} {f:Operand} {args:Array Operand} {ts:Array TypeId} (hop:o.op= .call ⟨.value f,args,ts⟩) {g:FuncId} {first captured:List AV} (hf:z0j s.env f= .clo (.func g) first captured) {id:Nat}
  (hid:id∈y2n (first++z0s s.env args.toList++captured)):id∈z69 s.env o.op:=by
 have hmem:∀ {l:List AV} {id:Nat},id∈y2n l→∃ x∈l,id∈tid x:=by
  intro l
  induction l with
  |nil=>intro id h; simp [y2n] at h
  |cons x l ih=>
   intro id h
   simp only [y2n,eBj] at h
   rcases h with h|h
   ·exact ⟨x,by simp,h⟩
   ·obtain ⟨y,h1,h2⟩:=ih h; exact ⟨y,by simp [h1],h2⟩
 have hmem2:∀ {l:List AV} {id:Nat} {x:AV},x∈l→id∈tid x→id∈y2n l:=by
  intro l
  induction l with
  |nil=>intro id x h; simp at h
  |cons y l ih=>
   intro id x h h2
   simp only [eAz] at h
   simp only [y2n,eBj]
   rcases h with rfl|h
   ·exact .inl h2
   ·exact .inr (ih h h2)
 obtain ⟨x,hx,hid⟩:=hmem hid
 simp only [z69,hop,z5g,if_true,eCj,eBb]
 have hfs:id∈tid (z0j s.env f)∨∃ y∈args.toList,id∈tid (z0j s.env y):=by
  simp only [eBj] at hx
  rcases hx with (hx|hx)|hx
  ·left; rw [hf]; simp only [tid,eBj]; exact .inl (hmem2 hx hid)
  ·right
   rw [z13] at hx
   obtain ⟨y,hy,rfl⟩:=eBb.1 hx
   exact ⟨y,hy,hid⟩
  ·left; rw [hf]; simp only [tid,eBj]; exact .inr (hmem2 hx hid)
 rcases hfs with h|⟨y,hy,h⟩
 ·exact ⟨_,⟨f,by simp [Op.operands,Call.operands],rfl⟩,h⟩
 ·exact ⟨_,⟨y,by simp [Op.operands,Call.operands]; right; simpa using hy,rfl⟩,h⟩
theorem w4c (ht:EnvOk P E) (hO:y2m P O) {rec:y5p opt} (hr:y5q P rec) {β:Type} {ops:List Oper} {g0:Nat} {pos:List Bool} {base i:Nat} {ss:SS} {o:Oper} {k:SS→Option β} {b:β} (hs:w9x opt std E O rec β g0 pos ops base i ss o k=some b):
  z5b ss.s.nt o.dst=true∧∃ r ss',x6o P E.T ops ss.s base i o r∧ss'.s=z43 ss.s o.dst r.v r.u∧k ss'=some b:=by
 unfold w9x at hs
 cases hd:z5b ss.s.nt o.dst with
 |false=>rw [hd] at hs; cases hs
 |true=>
 rw [hd] at hs
 refine ⟨rfl,?_⟩
 simp only [cond_true] at hs
 obtain ⟨x,hg,hs⟩:=x0g hs
 cases x with
 |false=>exact ⟨_,⟨z43 ss.s o.dst (.tuple []) [],ss.K⟩, .skip hg,rfl,hs⟩
 |true=>
  simp only at hs
  cases hok:x7v ops base i (z69 ss.s.env o.op) with
  |false=>rw [hok] at hs; cases hs
  |true=>
  rw [hok] at hs
  have hids:=x7u hok
  have plain:y54 opt β std (w13 E.dt ops o) (y6n (!(E.dt 1000004)) E.tk ops o) E (base+i) ⟨ss.s,ss.K⟩ o k=some b→∃ r ss',x6o P E.T ops ss.s base i o r∧ss'.s=z43 ss.s o.dst r.v r.u∧k ss'=some b:=by
   intro hp
   obtain ⟨q,r,ra,res,ss',hw,hst,hc,he,hk⟩:=y90 y6m hp
   exact ⟨_,ss', .step hg ht.gl hw hst hc hids,he,hk⟩
  simp only [cond_true] at hs
  split at hs
  ·rename_i f args ts hop
   split at hs
   ·rename_i g first captured hf
    split at hs
    ·rename_i t hp
     cases hfr:z95 (first++captured) with
     |false=>rw [hfr] at hs; cases hs
     |true=>
     rw [hfr] at hs
     obtain ⟨r,c1,c2,hs⟩:=hO.pure _ _ _ _ _ _ _ _ _ _ hp hs
     refine ⟨_,⟨z43 ss.s o.dst r [],ss.K⟩, .call hg hop hf c1 (fun h hh=>c2 h (fun x hx' id hid=>?_)) hids,rfl,hs⟩
     refine hh id ?_
     have hnone:∀ (y:AV),y84 y→tid y=[]:=fun y hy=>x4e hy
     have hfree:=z5a _ hfr
     simp only [eBj] at hx'
     rcases hx' with (hx'|hx')|hx'
     ·obtain ⟨j,hj⟩:=eCd hx'
      have hjl:j<first.length:=(eAd.1 hj).1
      have:=hnone x (hfree j x (by rw [eBz hjl]; exact hj))
      rw [this] at hid; simp at hid
     ·rw [z13] at hx'
      obtain ⟨y,hy,rfl⟩:=eBb.1 hx'
      simp only [z69,hop,z5g,if_true,eCj,eBb]
      exact ⟨_,⟨y,by simp [Op.operands,Call.operands]; right; simpa using hy,rfl⟩,hid⟩
     ·obtain ⟨j,hj⟩:=eCd hx'
      have:=hnone x (hfree (first.length+j) x (by rw [eCv (by omega)]; simpa using hj))
      rw [this] at hid; simp at hid
    ·cases hfr:z95 (first++z0s ss.s.env args.toList++captured) with
     |false=>
      rw [hfr] at hs
      simp only [cond_false] at hs
      obtain ⟨hcb,hs⟩:=z4t hs
      have lent:∀ {r:AV},w56 P g (bL std ss.s.heap (first++z0s ss.s.env args.toList++captured)).2 r→y1n r=true→∀ h,(∀ id∈z69 ss.s.env o.op,z0e h id=z0e ss.s.heap id)→z2z P g (first++z0s ss.s.env args.toList++captured) h r h:=by
       intro r hp hfl h hh
       have e:bL std h (first++z0s ss.s.env args.toList++captured)=bL std ss.s.heap (first++z0s ss.s.env args.toList++captured):=by
        refine z9i std _ fun id hid=>hh id ?_
        have hmem:∀ {l:List AV} {id:Nat},id∈y2n l→∃ x∈l,id∈tid x:=by
         intro l
         induction l with
         |nil=>intro id h; simp [y2n] at h
         |cons x l ih=>
          intro id h
          simp only [y2n,eBj] at h
          rcases h with h|h
          ·exact ⟨x,by simp,h⟩
          ·obtain ⟨y,h1,h2⟩:=ih h; exact ⟨y,by simp [h1],h2⟩
        have hmem2:∀ {l:List AV} {id:Nat} {x:AV},x∈l→id∈tid x→id∈y2n l:=by
         intro l
         induction l with
         |nil=>intro id x h; simp at h
         |cons y l ih=>
          intro id x h h2
          simp only [eAz] at h
          simp only [y2n,eBj]
          rcases h with rfl|h
          ·exact .inl h2
          ·exact .inr (ih h h2)
        obtain ⟨x,hx,hid⟩:=hmem hid
        simp only [z69,hop,z5g,if_true,eCj,eBb]
        have hfs:id∈tid (z0j ss.s.env f)∨∃ y∈args.toList,id∈tid (z0j ss.s.env y):=by
         simp only [eBj] at hx
         rcases hx with (hx|hx)|hx
         ·left; rw [hf]; simp only [tid,eBj]; exact .inl (hmem2 hx hid)
         ·right
          rw [z13] at hx
          obtain ⟨y,hy,rfl⟩:=eBb.1 hx
          exact ⟨y,hy,hid⟩
         ·left; rw [hf]; simp only [tid,eBj]; exact .inr (hmem2 hx hid)
        rcases hfs with h|⟨y,hy,h⟩
        ·exact ⟨_,⟨f,by simp [Op.operands,Call.operands],rfl⟩,h⟩
        ·exact ⟨_,⟨y,by simp [Op.operands,Call.operands]; right; simpa using hy,rfl⟩,h⟩
       exact w8n (by rw [e]; exact hp) (by rw [e]; exact hcb) hfl
      split at hs
      ·rename_i t hpu
       cases hfb:z95 (bL std ss.s.heap (first++z0s ss.s.env args.toList++captured)).2 with
       |false=>rw [hfb] at hs; cases hs
       |true=>
       rw [hfb] at hs
       simp only [cond_true] at hs
       obtain ⟨r,c1,c2,hs⟩:=hO.pure _ _ _ _ _ _ _ _ _ _ hpu hs
       cases hfl:y1n r with
       |false=>rw [hfl] at hs; cases hs
       |true=>
       rw [hfl] at hs
       have hp:w56 P g (bL std ss.s.heap (first++z0s ss.s.env args.toList++captured)).2 r:=c2 [] (fun x hx id hid=>by
        obtain ⟨j,hj⟩:=eCd hx
        rw [x4e (z5a _ hfb j x hj)] at hid; simp at hid)
       exact ⟨_,⟨z43 ss.s o.dst r [],ss.K⟩, .call hg hop hf c1 (lent hp hfl) hids,rfl,hs⟩
      ·cases hcl:E.cl&&okR ss.s.heap (first++z0s ss.s.env args.toList++captured) with
       |true=>
        rw [hcl] at hs
        simp only [cond_true] at hs
        obtain ⟨r,h',K',c1,c2,c3,hs⟩:=z7u ht hr hs
        have hb0:(bif inT (x94 (first++z0s ss.s.env args.toList++captured)) (z2f h' (fun id=>Nat.blt id ss.s.heap.length) r)&&eqH (z9s h' ss.s.heap.length) (z2t ss.s.heap (x94 (first++z0s ss.s.env args.toList++captured)) 0 ss.s.heap) then
           k ⟨z43 ss.s o.dst (z2f h' (fun id=>Nat.blt id ss.s.heap.length) r) [],ss.K⟩ else opt.no β 80)=some b:=hs
        cases hq:inT (x94 (first++z0s ss.s.env args.toList++captured)) (z2f h' (fun id=>Nat.blt id ss.s.heap.length) r)&&eqH (z9s h' ss.s.heap.length) (z2t ss.s.heap (x94 (first++z0s ss.s.env args.toList++captured)) 0 ss.s.heap) with
        |false=>rw [hq] at hb0; cases hb0
        |true=>
        rw [hq] at hb0
        simp only [eAb] at hq hcl
        obtain ⟨_,hcl⟩:=hcl
        simp only [okR,eAb,eAr] at hcl
        have c1v:=c1.view
        rw [z4p] at c1v
        have hmemN:∀ {id:Nat},x94 (first++z0s ss.s.env args.toList++captured) id=true→id∈y2n (first++z0s ss.s.env args.toList++captured):=fun {id} hid=>y98 hid
        refine ⟨_,⟨z43 ss.s o.dst (z2f h' (fun id=>Nat.blt id ss.s.heap.length) r) [],ss.K⟩, .call hg hop hf c3 (fun h hh=>?_) hids,rfl,hb0⟩
        refine z2z.widen (h:=ss.s.heap) (T:=x94 (first++z0s ss.s.env args.toList++captured)) (fun id hid=>eAf (hcl.2 id (hmemN hid)).1) (fun id hid=>(hcl.2 id (hmemN hid)).2) hcl.1 hq.1 c1v (x4j _ _ hq.2) (fun id hid=>hh id (x9s hop hf (hmemN hid)))
       |false=>
       rw [hcl] at hs
       simp only [cond_false] at hs
       obtain ⟨r,h',K',c1,c2,c3,hs⟩:=z7u ht hr hs
       cases hfl:y1n (z2f h' (fun _=>false) r) with
       |false=>rw [hfl] at hs; cases hs
       |true=>
       rw [hfl] at hs
       exact ⟨_,⟨z43 ss.s o.dst (z2f h' (fun _=>false) r) [],ss.K⟩, .call hg hop hf c3 (lent c1.pret hfl) hids,rfl,hs⟩
     |true=>
     rw [hfr] at hs
     simp only [cond_true] at hs
     obtain ⟨r,h',K',c1,c2,c3,hs⟩:=z7u ht hr hs
     cases hfb:z73 (z2f h' (fun _=>false) r) with
     |false=>rw [hfb] at hs; cases hs
     |true=>
     rw [hfb] at hs
     exact ⟨_,⟨z43 ss.s o.dst (z2f h' (fun _=>false) r) [],ss.K⟩, .call hg hop hf c3 (fun h _=>c1.pret.at (z5a _ hfr) (y2v _ hfb) h) hids,rfl,hs⟩
   ·cases hs
  ·exact plain hs
theorem y79 (ht:EnvOk P E) (hO:y2m P O) {rec:y5p opt} (hr:y5q P rec) {β:Type} {ops:List Oper} {g0:Nat} {pos:List Bool} {nt base:Nat} {k:SS→Option β} {b:β}:∀ (l:List Oper) (acc:List (List Nat)) (i:Nat) (ss:SS),ss.s.nt=nt→x2c opt std E O rec β g0 pos ops base acc i l ss k=some b→
  ∃ ss',ss.s.heap.length≤ss'.s.heap.length∧DS P E.T ops nt base (fun s2=>s2=ss'.s) acc i l ss.s∧k ss'=some b:=by
 intro l
 induction l with
 |nil=>
  intro acc i ss hnt hs
  simp only [x2c] at hs
  exact ⟨ss,eAk _, .nil rfl,hs⟩
 |cons o l ih=>
  intro acc i ss hnt hs
  simp only [x2c] at hs
  cases hpq:x3j ops acc i o (z69 ss.s.env o.op) with
  |false=>rw [hpq] at hs; cases hs
  |true=>
  have hpb:=x7m hpq
  rw [hpq] at hs
  simp only [cond_true] at hs
  obtain ⟨d1,r,s1,d2,he,hs⟩:=w4c ht hO hr hs
  obtain ⟨ss',l1,l2,hs⟩:=ih (acc++[z69 ss.s.env o.op]) (i+1) s1 (by rw [he]; exact hnt) hs
  refine ⟨ss',eBf (by rw [he]; exact (z34 r.u ss.s.heap).1) l1, .cons hpb (by rw [←hnt]; exact d1) d2 ?_,hs⟩
  rw [←he]; exact l2
theorem w5b (ht:EnvOk P E) {β:Type} {x:x6p} {ss:SS} {k:SS→Option β} {b:β} (h:v0z opt β std E x ss k=some b):
  ∃ id kd es ti ks ka ez q r y,x47 E.T x ss.s id kd es ti ks ka ez q r y∧k ⟨x57 x ss.s id (z5l q r ez) y (z7c es q r kd y),ss.K⟩=some b:=by
 unfold v0z at h
 split at h
 ·rename_i id kd kc n ha hb hc
  split at h
  ·rename_i es ti hob hti
   split at h
   ·rename_i ks ka ez hdesc hop
    obtain ⟨q,r,ra,hw,h'⟩:=y2x h
    clear h
    have h:=h'
    clear h'
    simp only [y0i,hti] at hw
    split at h
    ·rename_i ko o hold
     cases hcnd:(ko==kc)&&(Nat.blt x.dL ss.s.nt&&(Nat.blt x.dB ss.s.nt&&(Nat.blt x.dM ss.s.nt&&(Nat.blt x.dX ss.s.nt&&Nat.blt id ss.s.heap.length)))) with
     |false=>rw [hcnd] at h; cases h
     |true=>
      rw [hcnd] at h
      simp only [eAb,beq_iff_eq] at hcnd
      obtain ⟨rfl,c1,c2,c3,c4,c5⟩:=hcnd
      refine ⟨id,kd,es,ti,ks,ka,ez,q,r,_,⟨ha,hb,hob,hti,hdesc,hw,⟨_,_,_,hold,hc,hop,rfl⟩,⟨eAf c1,eAf c2,eAf c3,eAf c4⟩,eAf c5⟩,?_⟩
      rw [hold]; exact h
    ·cases h
   ·cases h
  ·cases h
 ·cases h
theorem x61 (ht:EnvOk P E) (hO:y2m P O):∀ f,y5q P (sym opt std E O f):=by
 intro f
 induction f with
 |zero=>intro β n g pos c ss k b _ _ h; cases h
 |succ f ih=>
  intro β n g pos c ss k b hcd hn h
  have sub:∀ b c',w6n c b=some c'→z3r P g (b::pos)=some c':=fun b c' hb=>by simp [z3r,hcd,hb]
  cases c with
  |skip=>simp only [sym] at h; exact ⟨_,_,hn,x86 ⟨rfl,rfl⟩,h⟩
  |label _=>simp only [sym] at h; exact ⟨_,_,hn,x6g ⟨rfl,rfl⟩,h⟩
  |exit id=>simp only [sym] at h; exact ⟨_,_,hn,x87 ⟨rfl,rfl⟩,h⟩
  |ret=>simp only [sym] at h; exact ⟨_,_,hn,w19 ⟨rfl,rfl⟩,h⟩
  |seq a b'=>
   simp only [sym] at h
   obtain ⟨e1,s1,l1,l2,h⟩:=ih _ _ _ _ _ _ _ _ (sub false a rfl) hn h
   cases e1 with
   |normal=>
    obtain ⟨e,ss',m1,m2,h⟩:=ih _ _ _ _ _ _ _ _ (sub true b' rfl) l1 h
    refine ⟨e,ss',m1,y8p (l2.mono fun e' s2 hq=>?_),h⟩
    obtain ⟨rfl,rfl⟩:=hq
    exact m2
   |exit j=>
    refine ⟨_,_,l1,y8p (l2.mono fun e' s2 hq=>?_),h⟩
    obtain ⟨rfl,rfl⟩:=hq
    exact ⟨rfl,rfl⟩
   |ret=>
    refine ⟨_,_,l1,y8p (l2.mono fun e' s2 hq=>?_),h⟩
    obtain ⟨rfl,rfl⟩:=hq
    exact ⟨rfl,rfl⟩
  |cond c a b'=>
   simp only [sym] at h
   obtain ⟨e,ss1,ss',⟨g1,g2⟩,hv,hlen,h⟩:=hO.join _ _ _ _ _ _ _ (fun e ss1=>n≤ss1.s.heap.length∧z5u P n (.cond c a b') ss.s (fun e' s2=>e'=e∧s2=ss1.s)) (fun γ k b h1=>by
    obtain ⟨x,hc,h1⟩:=w2b h1
    cases x with
    |true=>
     obtain ⟨e,ss',l1,l2,h1⟩:=ih _ _ _ _ _ _ _ _ (sub false a rfl) hn h1
     exact ⟨e,ss',⟨l1,x04 hc l2⟩,h1⟩
    |false=>
     obtain ⟨e,ss',l1,l2,h1⟩:=ih _ _ _ _ _ _ _ _ (sub true b' rfl) hn h1
     exact ⟨e,ss',⟨l1,x04 hc l2⟩,h1⟩) h
   refine ⟨e,ss',hlen g1,y06 (g2.mono fun e' s2 hq=>?_),h⟩
   obtain ⟨rfl,rfl⟩:=hq
   exact ⟨_,hv,rfl,rfl⟩
  |block id c=>
   simp only [sym] at h
   obtain ⟨e,ss1,ss',⟨g1,g2⟩,hv,hlen,h⟩:=hO.join _ _ _ _ _ _ _ (fun e ss1=>n≤ss1.s.heap.length∧z5u P n (.block id c) ss.s (fun e' s2=>e'=e∧s2=ss1.s)) (fun γ k b h1=>by
    obtain ⟨x,s1,l1,l2,h1⟩:=ih _ _ _ _ _ _ _ _ (sub false c rfl) hn h1
    cases x with
    |exit j=>
     simp only at h1
     cases hb:Nat.beq j id with
     |true=>
      rw [hb] at h1
      refine ⟨_,_,⟨l1,z9g (l2.mono fun e' s2 hq=>?_)⟩,h1⟩
      obtain ⟨rfl,rfl⟩:=hq
      simp only
      rw [if_pos (eAc hb)]
      exact ⟨trivial,trivial⟩
     |false=>
      rw [hb] at h1
      refine ⟨_,_,⟨l1,z9g (l2.mono fun e' s2 hq=>?_)⟩,h1⟩
      obtain ⟨rfl,rfl⟩:=hq
      simp only
      rw [if_neg (by rintro rfl; simp at hb)]
      exact ⟨trivial,trivial⟩
    |normal=>
     refine ⟨_,_,⟨l1,z9g (l2.mono fun e' s2 hq=>?_)⟩,h1⟩
     obtain ⟨rfl,rfl⟩:=hq
     exact ⟨rfl,rfl⟩
    |ret=>
     refine ⟨_,_,⟨l1,z9g (l2.mono fun e' s2 hq=>?_)⟩,h1⟩
     obtain ⟨rfl,rfl⟩:=hq
     exact ⟨rfl,rfl⟩) h
   refine ⟨e,ss',hlen g1,y06 (g2.mono fun e' s2 hq=>?_),h⟩
   obtain ⟨rfl,rfl⟩:=hq
   exact ⟨_,hv,rfl,rfl⟩
  |scope c=>
   simp only [sym] at h
   obtain ⟨e,ss',l1,l2,h⟩:=ih _ _ _ _ _ _ _ _ (sub false c rfl) hn h
   exact ⟨e,ss',l1,x6f l2,h⟩
  |loop c=>
   simp only [sym] at h
   split at h
   ·rename_i t hl
    exact hO.loop _ _ _ _ _ _ _ _ _ hcd hn hl h
   ·obtain ⟨e1,s1,l1,l2,h⟩:=ih _ _ _ _ _ _ _ _ (sub false c rfl) hn h
    cases e1 with
    |normal=>
     obtain ⟨e,ss',m1,m2,h⟩:=ih _ _ _ _ _ _ _ _ hcd l1 h
     refine ⟨e,ss',m1,z2j (l2.mono fun e' s2 hq=>?_),h⟩
     obtain ⟨rfl,rfl⟩:=hq
     exact m2
    |exit j=>
     refine ⟨_,_,l1,z2j (l2.mono fun e' s2 hq=>?_),h⟩
     obtain ⟨rfl,rfl⟩:=hq
     exact ⟨rfl,rfl⟩
    |ret=>
     refine ⟨_,_,l1,z2j (l2.mono fun e' s2 hq=>?_),h⟩
     obtain ⟨rfl,rfl⟩:=hq
     exact ⟨rfl,rfl⟩
  |region id ops drawn=>
   cases drawn with
   |false=>
    simp only [sym] at h
    have hl:∀ j o,ops.toList[j]?=some o→ops[0+j]?=some o:=fun j o hj=>by rw [eAp, ←eAj]; exact hj
    have go:∀ (γ:Type) (k:AX→SS→Option γ) (b:γ),(O.view γ n g pos ss fun ss=>w26 opt std E O (sym opt std E O f) γ n g pos ops.toList 0 ops.toList ss fun s'=>k .normal s')=some b→
      ∃ e ss',(n≤ss'.s.heap.length∧z5u P n (.region id ops false) ss.s (fun e' s2=>e'=e∧s2=ss'.s))∧k e ss'=some b:=by
     intro γ k b h
     obtain ⟨ss,hv,hn,h⟩:=hO.view _ _ _ _ _ _ _ hn h
     obtain ⟨ss',l1,this,h⟩:=x7s ht hO ih ops.toList 0 ss hl hn h
     refine ⟨_,ss',⟨l1,y05 hv (x2y ?_)⟩,h⟩
     rw [eBa, ←List.range_eq_range'] at this
     exact this.mono fun s h=>⟨rfl,h⟩
    cases hgd:(x2q ops.toList||v0r E ops.toList) with
    |false=>
     rw [hgd] at h
     obtain ⟨e,ss',⟨l1,l2⟩,h⟩:=go β k b h
     exact ⟨e,ss',l1,l2,h⟩
    |true=>
     rw [hgd] at h
     simp only [cond_true] at h
     obtain ⟨e,ss1,ss',⟨g1,g2⟩,hv,hlen,h⟩:=hO.join _ _ _ _ _ _ _ (fun e ss1=>n≤ss1.s.heap.length∧z5u P n (.region id ops false) ss.s (fun e' s2=>e'=e∧s2=ss1.s)) (fun γ k b h1=>go γ k b h1) h
     refine ⟨e,ss',hlen g1,y06 (g2.mono fun e' s2 hq=>?_),h⟩
     obtain ⟨rfl,rfl⟩:=hq
     exact ⟨_,hv,rfl,rfl⟩
   |true=>
    simp only [sym] at h
    cases hb:y5f ops.toList&&z6h ops.toList with
    |false=>rw [hb] at h; cases h
    |true=>
    rw [hb] at h
    simp only [eAb] at hb
    simp only [cond_true] at h
    obtain ⟨ss,hv,hn,h⟩:=hO.view _ _ _ _ _ _ _ hn h
    split at h
    ·cases hte:E.tl with
     |true=>
      rw [hte] at h
      simp only [cond_true] at h
      obtain ⟨s1,l1,l2,h⟩:=y79 ht hO ih (nt:=ss.s.nt) (ops.toList.take (y43 E.tk E.cl ops.toList)) [] 0 ss rfl h
      have hle:=w0h E.tk E.cl ops.toList
      have hsz:ops.toList.length=ops.size:=eBa
      obtain ⟨ss',k1,k2,h⟩:=x7s ht hO ih (n:=n) (ops:=ops) (ops.toList.drop (y43 E.tk E.cl ops.toList)) (y43 E.tk E.cl ops.toList) s1 (fun j o hj=>by
       rw [eBp] at hj
       rw [←eAj]; exact hj) (eBf hn l1) h
      refine ⟨_,ss',k1,y05 hv (x85 ht.mixed ht.ti hn hb.1 hb.2 (by omega) (x1j _ _ _) l2 (Q:=fun e' s2=>e'= .normal∧s2=ss'.s) fun s2 hs2 hnt _=>?_),h⟩
      rw [hs2]
      have hln:(ops.toList.drop (y43 E.tk E.cl ops.toList)).length=ops.size - y43 E.tk E.cl ops.toList:=by
       rw [eCx,hsz]
      rw [hln] at k2
      exact k2.mono fun s3 h3=>⟨rfl,h3⟩
     |false=>
     rw [hte] at h
     simp only [cond_false] at h
     obtain ⟨ss',l1,l2,h⟩:=y79 ht hO ih (nt:=ss.s.nt) ops.toList [] 0 ss rfl h
     exact ⟨_,ss',eBf hn l1,y05 hv (x88 ht.mixed ht.ti hn hb.1 hb.2 (l2.mono fun s2 h=>⟨rfl,h⟩)),h⟩
    ·rename_i pre x hof
     cases hie:y2u ops.toList with
     |false=>rw [hie] at h; cases h
     |true=>
     rw [hie] at h
     simp only [cond_true] at h
     obtain ⟨ss',l1,l2,h⟩:=y79 ht hO ih (nt:=ss.s.nt) pre [] 0 ss rfl h
     obtain ⟨id,kd,es,ti,ks,ka,ez,q,r,y,hR,h⟩:=w5b ht h
     refine ⟨_,_,?_,y05 hv (w2a ht.mixed ht.ti hn hb.1 hb.2 hie hof l2 (Q:=fun e' s2=>e'= .normal∧s2=x57 x ss'.s id (z5l q r ez) y (z7c es q r kd y)) fun s1 hs1 hnt=>⟨id,kd,es,ti,ks,ka,ez,q,r,y,by rw [hs1]; exact hR,rfl,by rw [hs1]⟩),h⟩
     exact eBf hn (eBf l1 (z1m _ _ _).1)
  |rangeFunc fo ps asg body=>
   simp only [sym] at h
   split at h
   ·rename_i g' first captured hf
    obtain ⟨r,sc,c1,c2,c3,h⟩:=y61 ht hO ih (by show _≤(z0x ss.s.heap ss.s.heap.length _).length; rw [y3v]; exact eAk _) h
    split at h
    ·rename_i st pd gc' pos' nt' env' hob
     have fin:st≠ .busy→∀ e1 s1,z8x sc.s (z0x sc.s.heap ss.s.heap.length .dead) pd=some (e1,s1)→n≤s1.heap.length∧z5u P n (.rangeFunc fo ps asg body) ss.s (fun e' s2=>e'=e1∧s2=s1):=by
      intro hst e1 s1 haf
      have hs1:s1.heap=z0x sc.s.heap ss.s.heap.length .dead:=by
       unfold z8x at haf
       split at haf<;>cases haf<;>rfl
      refine ⟨?_,y5j hcd hf c2 hn c3 hob hst haf ⟨rfl,rfl⟩⟩
      rw [hs1]
      have:=(z1m sc.s.heap ss.s.heap.length .dead).1
      omega
     cases st with
     |busy=>cases h
     |ready=>
      simp only at h
      split at h
      ·rename_i e1 s1 haf
       obtain ⟨x,y⟩:=fin (by simp) _ _ haf
       exact ⟨_,⟨s1,sc.K⟩,x,y,h⟩
      ·cases h
     |done=>
      simp only at h
      split at h
      ·rename_i e1 s1 haf
       obtain ⟨x,y⟩:=fin (by simp) _ _ haf
       exact ⟨_,⟨s1,sc.K⟩,x,y,h⟩
      ·cases h
     |exhausted=>
      simp only at h
      split at h
      ·rename_i e1 s1 haf
       obtain ⟨x,y⟩:=fin (by simp) _ _ haf
       exact ⟨_,⟨s1,sc.K⟩,x,y,h⟩
      ·cases h
    ·cases h
   ·cases h
  |_=>simp only [sym] at h; cases h
end
end Go.Am
end
section
namespace Go.Am
def infoOf (P : Program) (g : FuncId) : Option w20 :=
 match P.funcs[g]? with
 | some fn => match fn.body with
  | some c => bif fn.name == "runtime.NumGoroutine" then none else some ⟨c, fn.ntmps, fn.results.toList⟩
  | none => none
 | none => none
theorem enters_of {P : Program} {g : FuncId} {fn : Func} {c : Code} (h : P.funcs[g]? = some fn) (hb : fn.body = some c) (hn : (fn.name == "runtime.NumGoroutine") = false) : z42 P g := by
 intro args w
 have hn' : ¬ (fn.name = "runtime.NumGoroutine") := by simpa using hn
 unfold callFunc
 simp [Sem.program, Sem.run, h, hb, hn']
theorem y4d {P : Program} {g : FuncId} {i : w20} (h : infoOf P g = some i) : ∃ fn, P.funcs[g]? = some fn ∧ fn.body = some i.body ∧ fn.ntmps = i.nt ∧ fn.results.toList = i.res ∧ z42 P g := by
 unfold infoOf at h
 split at h
 ·rename_i fn hfn
  split at h
  ·rename_i c hc
   cases hn : (fn.name == "runtime.NumGoroutine") with
   | true => rw [hn] at h; cases h
   | false => rw [hn] at h; cases h; exact ⟨fn, hfn, hc, rfl, rfl, enters_of hfn hc hn⟩
  ·cases h
 ·cases h
def v2o (f:TypeId→List CK):List Field→List CK
 |[]=>[]
 |x::r=>f x.type++v2o f r
def v2n:List CK→Option (List CR)
 |[]=>some []
 |c::cs=>match c,v2n cs with
  | .int k,some l=>some (.int k::l)
  | .bool,some l=>some (.bool::l)
  | .str,some l=>some (.str::l)
  | .list z,some l=>some (.list z::l)
  |_,_=>none
def w8i (P:Program):Nat→TypeId→List CK
 |0,_=>[.other]
 |n+1,t=>match P.underlying t with
  |some (.int k)=>[.int k]
  |some .bool=>[.bool]
  |some .string=>[.str]
  |some (.slice e)=>match z78 P e with
   |some z=>[.list z]
   |none=>[.other]
  |some (.struct fs)=>v2o (w8i P n) fs.toList
  |some (.array m e)=>(List.replicate m (w8i P n e)).flatten
  |some (.pointer e)=>match P.underlying e with
   |some (.struct _)=>match v2n (w8i P n e) with
    |some l=>[.ref l]
    |none=>[.other]
   |_=>[.other]
  |_=>[.other]
def w8k (P:Program) (t:TypeId):List CK:=
 match P.underlying t with
 |some (.slice e)=>w8i P 8 e
 |_=>[]
def w8j (P:Program) (t:TypeId):Bool×List CK:=
 match P.underlying t with
 |some (.map _ e)=>((z2y P e).getD false,w8i P 8 e)
 |_=>(false,[])
def x37 (a:Nat):List Nat→Bool
 |[]=>false
 |b::l=>Nat.beq b a||x37 a l
def autoEnvE (own:List Nat) (P:Program):Env:=⟨w69 P,infoOf P,w8k P,w8j P,z3r P,fun g=>!x37 g own,true,true,fun _=>false,false,fun _=>none⟩
def x44 (own fz:List Nat) (P:Program):Env:=⟨w69 P,infoOf P,fun _=>[.other],w8j P,z3r P,fun g=>!x37 g own,true,true,fun g=>x37 g fz,true,z94 P⟩
theorem y4s {own fz:List Nat} {P:Program} (hm:P.follows .mixedOrders=true):EnvOk P (x44 own fz P) where
 ti:=fun t ti h=>x71 h
 gl:=fun _ _ h=>by first|exact h|cases h
 fn:=fun g i h=>y4d h
 code:=fun g pos c h=>h
 mixed:=hm
theorem autoEnvE_ok {own:List Nat} {P:Program} (hm:P.follows .mixedOrders=true):EnvOk P (autoEnvE own P) where
 ti:=fun t ti h=>x71 h
 gl:=fun _ _ h=>by first|exact h|cases h
 fn:=fun g i h=>y4d h
 code:=fun g pos c h=>h
 mixed:=hm
def w2g (E:Env) (O:Orc opt) (f:Nat) (g:FuncId) (args:List AV):Option (AV×List AO):=y8t opt E (sym opt std E O f) (AV×List AO) g args [] [] fun r h _=>some (r,h)
theorem w2f {P:Program} {E:Env} {O:Orc opt} (hE:EnvOk P E) (hO:y2m P O) {f:Nat} {g:FuncId} {args:List AV} {r:AV} {h':List AO} (h:w2g E O f g args=some (r,h')):z2z P g args [] r h':=by
 obtain ⟨r0,h0,K0,c1,_,_,hk⟩:=z7u hE (x61 hE hO f) h
 cases hk; exact c1
end Go.Am
end
section
namespace Go.Am
inductive Sc where
 |int|nat|bool|str|rows|map
def Sc.den:Sc→Type
 | .int=>Int
 | .nat=>Nat
 | .bool=>Bool
 | .str=>ByteArray
 | .rows=>List (List D)
 | .map=>List (D×D)
inductive Val where
 |i (n:Int)|n (n:Nat)|b (b:Bool)|s (s:ByteArray)|r (es:List (List D))|m (es:List (D×D))
def Tup:List Sc→Type
 |[]=>Unit
 |s::r=>s.den×Tup r
def STup:List (List Sc)→Type
 |[]=>Empty
 |[t]=>Tup t
 |t::u::ts=>Tup t⊕STup (u::ts)
def toV:(s:Sc)→s.den→Val
 | .int,x=> .i x
 | .nat,x=> .n x
 | .bool,x=> .b x
 | .str,x=> .s x
 | .rows,x=> .r x
 | .map,x=> .m x
def y4x:(ss:List Sc)→Tup ss→List Val
 |[],_=>[]
 |s::r,x=>toV s x.1::y4x r x.2
def ofV:(s:Sc)→Val→Option s.den
 | .int, .i x=>some x
 | .nat, .n x=>some x
 | .bool, .b x=>some x
 | .str, .s x=>some x
 | .rows, .r x=>some x
 | .map, .m x=>some x
 |_,_=>none
def w4f:(ss:List Sc)→List Val→Option (Tup ss)
 |[],[]=>some ()
 |s::r,v::vs=>match ofV s v,w4f r vs with
  |some x,some y=>some (x,y)
  |_,_=>none
 |_,_=>none
theorem w30 {s:Sc} {v:Val} {x:s.den} (h:ofV s v=some x):toV s x=v:=by
 cases s<;>cases v<;>cases h<;>rfl
theorem y26:∀ {ss:List Sc} {vs:List Val} {x:Tup ss},w4f ss vs=some x→y4x ss x=vs
 |[],[],x,_=>rfl
 |[],_::_,x,h=>by simp [w4f] at h
 |_::_,[],x,h=>by simp [w4f] at h
 |s::r,v::vs,x,h=>by
  simp only [w4f] at h
  split at h
  ·rename_i y z h1 h2
   cases h
   simp only [y4x,w30 h1,y26 h2]
  ·cases h
inductive VT where
 |bot
 |int (k:IntKind)|bool|str
 |list (z:Nat)
 |lst (z:Nat)
 |prm
 |ifc (t:TypeId)
 |nilp|nilm|nilf|nili|nils
 |agg (l:List VT)
 |ref (l:List VT)
 |bptr (i off:Nat)
 |ptr (i off:Nat)
 |vec (i z:Nat)
 |full (i z:Nat)
 |sl (i z:Nat)
 |slc (i z:Nat)
 |map (i:Nat)
 |yld (i:Nat)
 |clo (fn:Nat) (fs cs:List VT)
 |tuple (l:List VT)
 deriving Inhabited
inductive OT where
 |dead
 |box (l:List VT)
 |row (ck:List CK)
 |map
 |loop (st:LoopState) (pd:Option Code) (g:Nat) (pos:List Bool) (nt:Nat) (env:List (Nat×VT))
 deriving Inhabited
structure ST where
 env:List (Nat×VT)
 heap:List OT
 nt:Nat
def z6g:List OT→List Val→List (Option AO)×List Val
 |[],vs=>([],vs)
 | .row _::t, .r es::vs=>(some (.row es)::(z6g t vs).1,(z6g t vs).2)
 | .map::t, .m es::vs=>(some (.map es)::(z6g t vs).1,(z6g t vs).2)
 |_::t,vs=>(none::(z6g t vs).1,(z6g t vs).2)
def z5z (p:Prim) (L:List (Option AO)) (i:Nat):Nat:=
 match z1j L i with
 |some (some (.row es))=>p.len es
 |_=>0
def w4m (l:List AV):AV:=
 match y8x l with
 |some ds=> .d (.agg ds)
 |none=> .agg l
def w4l (l:List AV):AV:=
 match y8x l with
 |some (d::ds)=> .d (.ref (d::ds))
 |_=> .bot
mutual
def w1x (p:Prim) (L:List (Option AO)):VT→List Val→AV×List Val
 | .bot,vs=>(.bot,vs)
 | .int k, .i n::vs=>(.d (.int k n),vs)
 | .bool, .b b::vs=>(.d (.bool b),vs)
 | .str, .s s::vs=>(.d (.str s),vs)
 | .list z, .r es::vs=>(.d (.list false z es),vs)
 | .lst z, .r es::vs=>(.d (.list true z es),vs)
 | .ifc t,vs=>(.iface t .bot,vs)
 | .prm, .r es::vs=>(.perm es,vs)
 | .nilp,vs=>(.d .nilp,vs)
 | .nilm,vs=>(.d .nilm,vs)
 | .nils,vs=>(.d (.list true 0 []),vs)
 | .nilf,vs=>(.d .nilf,vs)
 | .nili,vs=>(.d .nili,vs)
 | .agg l,vs=>(w4m (z5p p L l vs).1,(z5p p L l vs).2)
 | .ref l,vs=>(w4l (z5p p L l vs).1,(z5p p L l vs).2)
 | .bptr i off,vs=>(.bptr i off,vs)
 | .ptr i off, .n j::vs=>(.ptr i j off,vs)
 | .vec i z,vs=>(.slice i z 0 (z5z p L i) none,vs)
 | .full i z,vs=>(.slice i z 0 (z5z p L i) (some (z5z p L i)),vs)
 | .sl i z, .n off:: .n len::vs=>(.slice i z off len none,vs)
 | .slc i z, .n off:: .n len:: .n c::vs=>(.slice i z off len (some c),vs)
 | .map i,vs=>(.map i,vs)
 | .yld i,vs=>(.yld i,vs)
 | .clo fn fs cs,vs=>(.clo (.func fn) (z5p p L fs vs).1 (z5p p L cs (z5p p L fs vs).2).1,(z5p p L cs (z5p p L fs vs).2).2)
 | .tuple l,vs=>(.tuple (z5p p L l vs).1,(z5p p L l vs).2)
 |_,vs=>(.bot,vs)
def z5p (p:Prim) (L:List (Option AO)):List VT→List Val→List AV×List Val
 |[],vs=>([],vs)
 |t::ts,vs=>((w1x p L t vs).1::(z5p p L ts (w1x p L t vs).2).1,(z5p p L ts (w1x p L t vs).2).2)
end
def w1y (p:Prim) (L:List (Option AO)):List (Nat×VT)→List Val→List (Nat×AV)×List Val
 |[],vs=>([],vs)
 |(k,t)::ts,vs=>((k,(w1x p L t vs).1)::(w1y p L ts (w1x p L t vs).2).1,(w1y p L ts (w1x p L t vs).2).2)
def w70 (p:Prim) (L:List (Option AO)) (o:Option AO):OT→List Val→AO×List Val
 | .box l,vs=>(.box (z5p p L l vs).1,(z5p p L l vs).2)
 | .loop st pd g pos nt env,vs=>(.loop st pd g pos nt (w1y p L env vs).1,(w1y p L env vs).2)
 |_,vs=>(match o with|some o=>o|none=> .dead,vs)
def y40 (p:Prim) (L:List (Option AO)):List (Option AO)→List OT→List Val→List AO×List Val
 |o::os,t::ts,vs=>((w70 p L o t vs).1::(y40 p L os ts (w70 p L o t vs).2).1,(y40 p L os ts (w70 p L o t vs).2).2)
 |_,_,vs=>([],vs)
def x80 (p:Prim) (t:ST) (vs:List Val):AS:=
 ⟨(w1y p (z6g t.heap vs).1 t.env (y40 p (z6g t.heap vs).1 (z6g t.heap vs).1 t.heap (z6g t.heap vs).2).2).1,(y40 p (z6g t.heap vs).1 (z6g t.heap vs).1 t.heap (z6g t.heap vs).2).1,t.nt⟩
abbrev w8z:=List Bool×List Val
def y4z (σ:List (Option Nat)) (i a:Nat):Bool:=
 match z1j σ i with
 |some (some b)=>Nat.beq a b
 |_=>false
def w1f (σ:List (Option Nat)) (i:Nat):Bool:=
 match z1j σ i with
 |some none=>true
 |_=>false
mutual
def z17 (p:Prim) (h:List AO) (σ τ:List (Option Nat)) (L:List (Option AO)):VT→AV→Option w8z
 | .bot,_=>some ([],[])
 | .int k, .d (.int k' n)=>bif k==k' then some ([],[.i n]) else none
 | .bool, .d (.bool b)=>some ([],[.b b])
 | .str, .d (.str s)=>some ([],[.s s])
 | .list z, .d (.list f z' es)=>bif Nat.beq z z' then some ([],[.r es]) else match es with
  |[]=>some ([],[.r []])
  |_=>none
 | .list z, .slice a z' off len _=>bif z8m τ a then none else bif Nat.beq z z' then match z0e h a with
  | .row es=>some ([p.leN (p.add off len) (p.len es)],[.r (p.cut es off len)])
  |_=>none
  else none
 | .lst z, .d (.list f z' es)=>bif Nat.beq z z' then some ([f],[.r es]) else match es with
  |[]=>some ([f],[.r []])
  |_=>none
 | .lst z, .slice a z' off len (some c)=>bif z8m τ a then none else bif Nat.beq z z' then match z0e h a with
  | .row es=>some ([p.leN (p.add off len) (p.len es),p.eqN len c],[.r (p.cut es off len)])
  |_=>none
  else none
 | .prm, .perm es=>some ([],[.r es])
 | .ifc t, .iface t' _=>bif Nat.beq t t' then some ([],[]) else none
 | .nilp, .d .nilp=>some ([],[])
 | .nilm, .d .nilm=>some ([],[])
 | .nils, .d (.list true _ [])=>some ([],[])
 | .nilf, .d .nilf=>some ([],[])
 | .nili, .d .nili=>some ([],[])
 | .agg l, .d (.agg ds)=>z96 p h σ τ L l (toA ds)
 | .agg l, .agg xs=>z96 p h σ τ L l xs
 | .ref l, .d (.ref ds)=>z96 p h σ τ L l (toA ds)
 | .ref l, .bptr a off=>bif z8m τ a then none else match off,z0e h a with
  |0, .box cells=>z96 p h σ τ L l cells
  |_,_=>none
 | .bptr i off, .bptr a off'=>bif y4z σ i a&&Nat.beq off off' then some ([],[]) else none
 | .ptr i off, .ptr a j off'=>bif y4z σ i a&&Nat.beq off off' then some ([],[.n j]) else none
 | .vec i z, .slice a z' off len none=>bif y4z σ i a&&Nat.beq z z' then some ([p.eqN off 0,p.eqN len (z5z p L i)],[]) else none
 | .vec i z, .slice a z' off len (some c)=>bif y4z σ i a&&Nat.beq z z' then match z0e h a with
  | .row es=>some ([p.eqN off 0,p.eqN len (z5z p L i),p.leN (p.add off c) (p.len es)],[])
  |_=>none
  else none
 | .vec i z, .d (.list true _ [])=>bif w1f σ i then match z1j L i with
  |some (some (.row []))=>some ([],[])
  |_=>none
  else none
 | .full i z, .slice a z' off len (some c)=>bif y4z σ i a&&Nat.beq z z' then some ([p.eqN off 0,p.eqN len (z5z p L i),p.eqN c (z5z p L i)],[]) else none
 | .sl i z, .slice a z' off len none=>bif y4z σ i a&&Nat.beq z z' then some ([],[.n off, .n len]) else none
 | .sl i z, .slice a z' off len (some c)=>bif y4z σ i a&&Nat.beq z z' then match z0e h a with
  | .row es=>some ([p.leN (p.add off c) (p.len es)],[.n off, .n len])
  |_=>none
  else none
 | .sl i z, .d (.list true _ [])=>bif w1f σ i then match z1j L i with
  |some (some (.row []))=>some ([],[.n 0, .n 0])
  |_=>none
  else none
 | .slc i z, .slice a z' off len (some c)=>bif y4z σ i a&&Nat.beq z z' then some ([],[.n off, .n len, .n c]) else none
 | .map i, .map a=>bif y4z σ i a then some ([],[]) else none
 | .yld i, .yld a=>bif y4z σ i a then some ([],[]) else none
 | .clo fn fs cs, .clo (.func fn') fs' cs'=>bif Nat.beq fn fn' then match z96 p h σ τ L fs fs',z96 p h σ τ L cs cs' with
  |some (c1,v1),some (c2,v2)=>some (c1++c2,v1++v2)
  |_,_=>none
  else none
 | .tuple l, .tuple xs=>z96 p h σ τ L l xs
 |_,_=>none
def z96 (p:Prim) (h:List AO) (σ τ:List (Option Nat)) (L:List (Option AO)):List VT→List AV→Option w8z
 |[],[]=>some ([],[])
 |t::ts,x::xs=>match z17 p h σ τ L t x,z96 p h σ τ L ts xs with
  |some (c1,v1),some (c2,v2)=>some (c1++c2,v1++v2)
  |_,_=>none
 |_,_=>none
end
def w6f (p:Prim) (h:List AO) (σ τ:List (Option Nat)) (L:List (Option AO)) (env:List (Nat×AV)):List (Nat×VT)→Option w8z
 |[]=>some ([],[])
 |(k,t)::ts=>match z17 p h σ τ L t (z1k env k),w6f p h σ τ L env ts with
  |some (c1,v1),some (c2,v2)=>some (c1++c2,v1++v2)
  |_,_=>none
def y1p (h:List AO):List OT→List (Option Nat)→Option (List Val)
 |[],[]=>some []
 | .row _::t,some a::σ=>match z0e h a with
  | .row es=>(y1p h t σ).map fun r=> .r es::r
  | .arow es=>match y5o es with
   |some l=>(y1p h t σ).map fun r=> .r l::r
   |none=>none
  |_=>none
 | .row _::t,none::σ=>(y1p h t σ).map fun r=> .r []::r
 | .map::t,some a::σ=>match z0e h a with
  | .map es=>(y1p h t σ).map fun r=> .m es::r
  |_=>none
 | .map::_,none::_=>none
 | .box _::t,some _::σ=>y1p h t σ
 | .box _::_,none::_=>none
 | .loop ..::t,some _::σ=>y1p h t σ
 | .loop ..::_,none::_=>none
 | .dead::t,_::σ=>y1p h t σ
 |_,_=>none
def v1g:LoopState→LoopState→Bool
 | .ready, .ready| .busy, .busy| .done, .done| .exhausted, .exhausted=>true
 |_,_=>false
def v1f:Option Code→Option Code→Bool
 |none,none=>true
 |some .ret,some .ret=>true
 |some (.exit i),some (.exit j)=>Nat.beq i j
 |_,_=>false
def y5i:List Bool→List Bool→Bool
 |[],[]=>true
 |a::l,b::r=>(a==b)&&y5i l r
 |_,_=>false
def y83 (p:Prim) (h:List AO) (σ0 τ:List (Option Nat)) (L:List (Option AO)):List OT→List (Option Nat)→Option w8z
 |[],[]=>some ([],[])
 | .box l::t,some a::σ=>match z0e h a with
  | .box cells=>match z96 p h σ0 τ L l cells,y83 p h σ0 τ L t σ with
   |some (c1,v1),some (c2,v2)=>some (c1++c2,v1++v2)
   |_,_=>none
  |_=>none
 | .loop st pd g pos nt env::t,some a::σ=>match z0e h a with
  | .loop st' pd' g' pos' nt' env'=>bif v1g st st'&&(v1f pd pd'&&(Nat.beq g g'&&(y5i pos pos'&&Nat.beq nt nt'))) then match w6f p h σ0 τ L env' env,y83 p h σ0 τ L t σ with
   |some (c1,v1),some (c2,v2)=>some (c1++c2,v1++v2)
   |_,_=>none
   else none
  |_=>none
 | .box _::_,none::_=>none
 | .loop ..::_,none::_=>none
 |_::t,_::σ=>y83 p h σ0 τ L t σ
 |_,_=>none
def x0b:Nat→Nat→List (Option Nat)→Bool
 |_,0,_=>true
 |i,n+1,some a::r=>Nat.beq i a&&x0b (i+1) n r
 |_,_+1,_=>false
def y2i:List OT→List (Option Nat)→List (Option Nat)
 | .dead::ts,_::σ=>none::y2i ts σ
 |_::ts,s::σ=>s::y2i ts σ
 |_,_=>[]
def v1d (p:Prim) (n:Nat) (t:ST) (σ:List (Option Nat)) (s:AS):Option w8z:=
 bif Nat.beq s.nt t.nt&&(x56 (y2i t.heap σ)&&x0b 0 n σ) then match y1p s.heap t.heap σ with
  |some v1=>match y83 p s.heap σ (y2i t.heap σ) (z6g t.heap v1).1 t.heap σ,w6f p s.heap σ (y2i t.heap σ) (z6g t.heap v1).1 s.env t.env with
   |some (c2,v2),some (c3,v3)=>some (c2++c3,v1++(v2++v3))
   |_,_=>none
  |none=>none
 else none
end Go.Am
end
section
namespace Go.Am
def z01:List Bool→Bool
 |[]=>true
 |b::l=>b&&z01 l
theorem z11 {a b:List Bool} (h:z01 (a++b)=true):z01 a=true∧z01 b=true:=by
 induction a with
 |nil=>exact ⟨rfl,h⟩
 |cons x a ih=>
  simp only [List.cons_append,z01,eAb] at h⊢
  exact ⟨⟨h.1,(ih h.2).1⟩,(ih h.2).2⟩
section
variable {P:Program}
structure x98 (P:Program) (ρ ρ':Rho) (O':Nat→Prop) (h:List AO) (w:World) (σ τ:List (Option Nat)) (L:List (Option AO)):Prop where
 hr:z0a P ρ h w
 loc:∀ i a,z1j σ i=some (some a)→ρ' i=ρ a
 sub:∀ b,O' b→z0c ρ h b
 out:∀ a M,ρ a=some M→(z0e h a).live=true→z8m τ a=false→¬ O' M.blk
variable {ρ ρ':Rho} {O':Nat→Prop} {h:List AO} {w:World} {σ τ:List (Option Nat)} {L:List (Option AO)}
theorem x4z {P:Program} {ρ ρ':Rho} {O':Nat→Prop} {h:List AO} {w:World} (hr:z0a P ρ h w) {i a z off len cp:Nat} (hl:ρ' i=ρ a) {es:List (List D)} (hes:z0e h a= .row es)
  (hle:std.leN (std.add off cp) (std.len es)=true) {v:Value} (hv:z0i ρ (z0c ρ h) w (.slice a z off len (some cp)) v):z0i ρ' O' w (.slice i z off len none) v:=by
 have hle:off+cp≤es.length:=z12 hle
 cases hv with
 |slice _ _ _ _ _ M a' cc hM hz ha hcc hlc=>
  have hc:cp=cc:=by
   rcases hcc with h|⟨h,_⟩
   ·cases h; rfl
   ·cases h
  subst hc
  cases hcz:cp with
  |zero=>
   subst hcz
   have:len=0:=by omega
   subst this
   exact .nils _ _ _ _ _ (.inl rfl)
  |succ m=>
   rw [←hcz]
   refine .slice _ _ _ _ _ M _ _ (hl▸hM) hz ha (.inr ⟨rfl,?_⟩) hlc
   have hob:=(hr.obj _ _ hM).2
   rw [hes] at hob
   obtain ⟨hpos,c,t,hc1,hlen,hcell⟩:=hob
   refine ⟨c.size,by simp [z0t,hc1],?_⟩
   have hlt:off+cp - 1<es.length:=by omega
   have hre:=hlen _ _ (eAa hlt)
   have hj:M.esz - 1<(es[off+cp - 1]).length:=by omega
   obtain ⟨u,hu,_⟩:=hcell _ _ _ _ (eAa hlt) (eAa hj)
   have:=(eAe.1 hu).1
   have e:(off+cp)*M.esz=(off+cp - 1)*M.esz+M.esz:=by
    rw [←Nat.succ_mul]; congr 1; omega
   omega
 |nils _ _ _ _ a' hcc=>exact .nils _ _ _ _ _ (.inl rfl)
theorem z3b {i a:Nat} (h:y4z σ i a=true):z1j σ i=some (some a):=by
 unfold y4z at h
 split at h
 ·rename_i b hb; rw [hb,eAc h]
 ·cases h
theorem x98.keep (c:x98 P ρ ρ' O' h w σ τ L):z3s (z0c ρ h) O' w w:=⟨eAk _,fun _ _ _=>rfl,fun b _ hb=>c.sub b hb,fun _ _ h=>h,z0m.refl _⟩
theorem x8k (c:x98 P ρ ρ' O' h w σ τ L) {a z off len:Nat} {cap:Option Nat} {es:List (List D)} (hm:z8m τ a=false) (hes:z0e h a= .row es) (hle:std.leN (std.add off len) (std.len es)=true) {v:Value} (hv:z0i ρ (z0c ρ h) w (.slice a z off len cap) v):
  z02 O' w (.list false z (std.cut es off len)) v:=by
 have hle:off+len≤es.length:=z12 hle
 show z02 O' w (.list false z ((es.drop off).take len)) v
 cases hv with
 |nils _ _ _ _ a hc=>simp only [List.take_zero]; exact .lnil _ _ _ _ (by simp)
 |slice _ _ _ _ _ M a' cc hL hz ha hc hl=>
  obtain ⟨hblk,hob⟩:=c.hr.obj a M hL
  rw [hes] at hob
  obtain ⟨hz0,cs,t,hcs,hrows,hcell⟩:=hob
  cases hlen:len with
  |zero=>simp only [List.take_zero]; exact .lnil _ _ _ _ (by simp)
  |succ m=>
   rw [←hlen]
   have hll:((es.drop off).take len).length=len:=by simp; omega
   have hpos:0<len:=by omega
   have hnth:∀ i r,((es.drop off).take len)[i]?=some r→i<len∧es[off+i]?=some r:=by
    intro i r hi
    have hlt:i<len:=by rw [←hll]; exact (eAd.1 hi).1
    refine ⟨hlt,?_⟩
    rw [eCl hlt,eBp] at hi
    exact hi
   have hown:¬ O' M.blk:=c.out a M hL (by rw [hes]; rfl) hm
   have ha':a'=some ⟨M.blk,M.base+off*M.esz,none⟩:=ha (by omega)
   subst hz
   subst ha'
   have hex:∀ k,k<len*M.esz→∃ u,cs[M.base+off*M.esz+k]?=some u∧u.oneCell'=true∧∀ d,(∃ r,((es.drop off).take len)[k / M.esz]?=some r∧r[k % M.esz]?=some d)→z02 O' w d u:=by
    intro k hkz
    have hi:k / M.esz<len:=(eCk hz0).2 hkz
    have hlt:k / M.esz<((es.drop off).take len).length:=by rw [hll]; exact hi
    have he:=(hnth (k / M.esz) _ (eAa hlt)).2
    generalize ((es.drop off).take len)[k / M.esz]=r at he
    have hrl:=hrows _ r he
    have hj:k % M.esz<r.length:=by rw [hrl]; exact eCr _ hz0
    obtain ⟨u,hu,h1,hd⟩:=hcell _ r _ r[k % M.esz] he (eAa hj)
    have hix:M.base+(off+k / M.esz)*M.esz+k % M.esz=M.base+off*M.esz+k:=by
     have:=Nat.div_add_mod k M.esz
     rw [eAl,eCb (k / M.esz)]; omega
    rw [hix] at hu
    refine ⟨u,hu,h1,fun d hd'=>?_⟩
    obtain ⟨r',hr',hdr⟩:=hd'
    have:=(hnth _ _ hr').2
    rw [he] at this; cases this
    rw [eAa hj] at hdr; cases hdr
    exact hd.keep c.keep
   have key:=z02.list (O:=O') (w:=w) false ((es.drop off).take len) M.blk (M.base+off*M.esz) M.esz cc hz0
    (by intro e; rw [e] at hll; simp at hll; omega) hown (by rw [hll]; exact hl) (by simp) (fun i r hi=>hrows _ r (hnth i r hi).2)
    (fun k=>(cs[M.base+off*M.esz+k]?).getD undef) (fun k hkk=>?_) (fun k hkk=>?_) (fun i r j d hi hj=>?_)
   ·rw [hll] at key; exact key
   ·rw [hll] at hkk
    obtain ⟨u,hu,h1,_⟩:=hex k hkk
    rw [hu]; exact h1
   ·rw [hll] at hkk
    obtain ⟨u,hu,h1,_⟩:=hex k hkk
    rw [hu]; exact y4p hcs hu
   ·have hjl:j<M.esz:=by rw [←hrows _ r (hnth i r hi).2]; exact (eAd.1 hj).1
    have hil:=(hnth i r hi).1
    have hkk:i*M.esz+j<len*M.esz:=by
     have:(i+1)*M.esz≤len*M.esz:=eAo _ (by omega)
     rw [eAl,Nat.one_mul] at this; omega
    obtain ⟨u,hu,_,hd⟩:=hex _ hkk
    rw [hu]
    refine hd d ⟨r,?_,?_⟩
    ·rw [show (i*M.esz+j) / M.esz=i by rw [eCb,Nat.mul_add_div hz0,Nat.div_eq_of_lt hjl,eAt]]; exact hi
    ·rw [show (i*M.esz+j) % M.esz=j by rw [eCb,Nat.mul_add_mod,eCy hjl]]; exact hj
theorem w1l (c:x98 P ρ ρ' O' h w σ τ L) {a z off len:Nat} {es:List (List D)} (hm:z8m τ a=false) (hes:z0e h a= .row es) (hle:std.leN (std.add off len) (std.len es)=true) {v:Value} (hv:z0i ρ (z0c ρ h) w (.slice a z off len (some len)) v):
  z02 O' w (.list true z (std.cut es off len)) v:=by
 have h:=x8k c hm hes hle hv
 have hle':off+len≤es.length:=z12 hle
 have hcl:(std.cut es off len).length=len:=by
  show ((es.drop off).take len).length=len
  simp; omega
 have hv':∃ a',v= .slice a' len len:=by
  have key:∀ k,k=len→z0i ρ (z0c ρ ‹List AO›) w (.slice a z off k (some len)) v→∃ a',v= .slice a' len len:=by
   intro k hk hv
   cases hv with
   |nils _ _ _ _ a' hc=>
    rcases hc with hc|hc
    ·cases hc
    ·cases hc; exact ⟨a',rfl⟩
   |slice _ _ _ _ _ M a' cc hL hz ha hc hl=>
    subst hk
    rcases hc with hc|⟨hc,_⟩
    ·cases hc; exact ⟨a',rfl⟩
    ·cases hc
  exact key len rfl hv
 obtain ⟨a',rfl⟩:=hv'
 generalize std.cut es off len=q at h hcl
 have key:∀ v,v=Value.slice a' len len→z02 O' w (.list false z q) v→z02 O' w (.list true z q) v:=by
  intro v hv h
  cases h with
  |lnil _ _ b cc hf=>
   simp at hcl
   cases hv
   exact .lnil _ _ _ _ (fun _=>hcl.symm)
  |list _ _ b o _ cc hz hne hO hlc hf hsz cell h1 hc hh=>
   have hcc:cc=q.length:=by
    have e1:cc=len:=by cases hv; rfl
    omega
   exact .list true _ b o _ cc hz hne hO hlc (fun _=>hcc) hsz cell h1 hc hh
 exact key _ rfl h
theorem y95 {O:Nat→Prop} {ρ:Rho} (xs:List AV) (vs:Array Value) (hl:vs.size=xs.length) (hh:∀ (i:Nat) (x:AV),xs[i]?=some x→z0i ρ O w x (vs.getD i undef)):z0i ρ O w (w4m xs) (.agg vs):=by
 unfold w4m
 split
 ·rename_i ds hds
  have e:=z1i hds
  refine .d (.agg _ _ (by rw [hl,e,z0o]) fun i d hd=>?_)
  have:=hh i (.d d) (by rw [e,z03,hd]; rfl)
  cases this; assumption
 ·exact .agg _ _ hl hh
theorem y94 {O:Nat→Prop} {ρ:Rho} (xs:List AV) (b o:Nat) (cell:Nat→Value) (hO:¬ O b) (hc:∀ k,k<xs.length→w.cell? ⟨b,o+k,none⟩=some (cell k)) (hh:∀ (i:Nat) (x:AV),xs[i]?=some x→z0i ρ O w x (cell i)):z0i ρ O w (w4l xs) (.pointer (some ⟨b,o,none⟩)):=by
 unfold w4l
 split
 ·rename_i d ds hds
  have e:=z1i hds
  refine .d (.ref _ b o (by simp) hO cell (fun k hk=>hc k (by rw [e,z0o]; exact hk)) fun i d' hd=>?_)
  have:=hh i (.d d') (by rw [e,z03,hd]; rfl)
  cases this; assumption
 ·exact .bot _
theorem w2m {k k':IntKind} (h:(k==k')=true):k=k':=by simpa using h
def VOk (ρ ρ':Rho) (O O':Nat→Prop) (w:World) (L:List (Option AO)) (t:VT) (x:AV) (ws:List Val):Prop:=
 ∀ rest,(w1x std L t (ws++rest)).2=rest∧∀ v,z0i ρ O w x v→z0i ρ' O' w (w1x std L t (ws++rest)).1 v
def VsOk (ρ ρ':Rho) (O O':Nat→Prop) (w:World) (L:List (Option AO)) (ts:List VT) (xs:List AV) (ws:List Val):Prop:=
 ∀ rest,(z5p std L ts (ws++rest)).2=rest∧(z5p std L ts (ws++rest)).1.length=xs.length∧
  ∀ (f:Nat→Value),(∀ i x,xs[i]?=some x→z0i ρ O w x (f i))→∀ i y,(z5p std L ts (ws++rest)).1[i]?=some y→z0i ρ' O' w y (f i)
theorem z6b {a b:Nat} (h:std.eqN a b=true):a=b:=eAc h
mutual
theorem x8s (c:x98 P ρ ρ' O' h w σ τ L):(t:VT)→(x:AV)→(cs:List Bool)→(ws:List Val)→z17 std h σ τ L t x=some (cs,ws)→z01 cs=true→VOk ρ ρ' (z0c ρ h) O' w L t x ws
 | .bot,x,cs,ws,hf,hc=>by
  cases x<;>(simp only [z17] at hf; cases hf; exact fun rest=>⟨rfl,fun v hv=> .bot v⟩)
 | .int k,x,cs,ws,hf,hc=>by
  cases x with
  |d d=>
   cases d with
   |int k' n=>
    simp only [z17] at hf
    cases hk:(k==k') with
    |false=>rw [hk] at hf; cases hf
    |true=>
     rw [hk] at hf; cases hf
     have:=w2m hk; subst this
     exact fun rest=>⟨rfl,fun v hv=>by cases hv with|d hv=>exact .d (hv.keep c.keep)⟩
   |_=>simp only [z17] at hf; cases hf
  |_=>simp only [z17] at hf; cases hf
 | .bool,x,cs,ws,hf,hc=>by
  cases x with
  |d d=>
   cases d with
   |bool b=>simp only [z17] at hf; cases hf; exact fun rest=>⟨rfl,fun v hv=>by cases hv with|d hv=>exact .d (hv.keep c.keep)⟩
   |_=>simp only [z17] at hf; cases hf
  |_=>simp only [z17] at hf; cases hf
 | .str,x,cs,ws,hf,hc=>by
  cases x with
  |d d=>
   cases d with
   |str b=>simp only [z17] at hf; cases hf; exact fun rest=>⟨rfl,fun v hv=>by cases hv with|d hv=>exact .d (hv.keep c.keep)⟩
   |_=>simp only [z17] at hf; cases hf
  |_=>simp only [z17] at hf; cases hf
 | .list z,x,cs,ws,hf,hc=>by
  cases x with
  |d d=>
   cases d with
   |list f z' es=>
    simp only [z17] at hf
    cases hz:Nat.beq z z' with
    |true=>
     rw [hz] at hf; cases hf
     have:=eAc hz; subst this
     exact fun rest=>⟨rfl,fun v hv=>by cases hv with|d hv=>exact .d ((hv.keep c.keep).le (show DLe (.list f z es) (.list false z es) from .inl (Or.inr (Or.inl ⟨z,rfl,Or.inl rfl⟩))))⟩
    |false=>
     rw [hz] at hf
     cases es with
     |nil=>cases hf; exact fun rest=>⟨rfl,fun v hv=>by cases hv with|d hv=>exact .d ((hv.keep c.keep).le (show DLe (.list f z' []) (.list false z []) from .inl (Or.inr (Or.inl ⟨z,rfl,Or.inr rfl⟩))))⟩
     |cons _ _=>cases hf
   |_=>simp only [z17] at hf; cases hf
  |slice a z' off len cap=>
   simp only [z17] at hf
   cases hm:z8m τ a with
   |true=>rw [hm] at hf; cases hf
   |false=>
    rw [hm] at hf; simp only [cond_false] at hf
    cases hz:Nat.beq z z' with
    |false=>rw [hz] at hf; cases hf
    |true=>
     rw [hz] at hf; simp only [cond_true] at hf
     have:=eAc hz; subst this
     split at hf
     ·rename_i es hes
      cases hf
      simp only [z01,eCc] at hc
      exact fun rest=>⟨rfl,fun v hv=> .d (x8k c hm hes hc hv)⟩
     ·cases hf
  |_=>simp only [z17] at hf; cases hf
 | .lst z,x,cs,ws,hf,hc=>by
  cases x with
  |d d=>
   cases d with
   |list f z' es=>
    simp only [z17] at hf
    cases hz:Nat.beq z z' with
    |true=>
     rw [hz] at hf; cases hf
     have:=eAc hz; subst this
     simp only [z01,eCc] at hc
     subst hc
     exact fun rest=>⟨rfl,fun v hv=>by cases hv with|d hv=>exact .d (hv.keep c.keep)⟩
    |false=>
     rw [hz] at hf
     cases es with
     |nil=>
      cases hf
      simp only [z01,eCc] at hc
      subst hc
      refine fun rest=>⟨rfl,fun v hv=>?_⟩
      cases hv with|d hv=>
      cases hv with
      |lnil _ _ a cc h=>exact .d (.lnil _ _ _ _ h)
      |list _ _ _ _ _ _ _ hne=>exact absurd rfl hne
     |cons _ _=>cases hf
   |_=>simp only [z17] at hf; cases hf
  |slice a z' off len cap=>
   cases cap with
   |none=>simp only [z17] at hf; cases hf
   |some k=>
   simp only [z17] at hf
   cases hm:z8m τ a with
   |true=>rw [hm] at hf; cases hf
   |false=>
    rw [hm] at hf; simp only [cond_false] at hf
    cases hz:Nat.beq z z' with
    |false=>rw [hz] at hf; cases hf
    |true=>
     rw [hz] at hf; simp only [cond_true] at hf
     have:=eAc hz; subst this
     split at hf
     ·rename_i es hes
      cases hf
      simp only [z01,eCc,eAb] at hc
      have hk:=z6b hc.2
      subst hk
      exact fun rest=>⟨rfl,fun v hv=> .d (w1l c hm hes hc.1 hv)⟩
     ·cases hf
  |_=>simp only [z17] at hf; cases hf
 | .prm,x,cs,ws,hf,hc=>by
  cases x with
  |perm es=>
   simp only [z17] at hf
   cases hf
   exact fun rest=>⟨rfl,fun v hv=>by cases hv with|perm _ es' _ hp h=>exact .perm _ es' _ hp (h.keep c.keep)⟩
  |_=>simp only [z17] at hf; cases hf
 | .ifc t,x,cs,ws,hf,hc=>by
  cases x with
  |iface t' y=>
   simp only [z17] at hf
   cases ht:Nat.beq t t' with
   |false=>rw [ht] at hf; cases hf
   |true=>
    rw [ht] at hf; cases hf
    have:=eAc ht; subst this
    exact fun rest=>⟨rfl,fun v hv=>by cases hv with|iface _ _ u h=>exact .iface _ _ u (.bot u)⟩
  |_=>simp only [z17] at hf; cases hf
 | .nilp,x,cs,ws,hf,hc=>by
  cases x with
  |d d=>cases d<;>simp only [z17] at hf<;>cases hf; exact fun rest=>⟨rfl,fun v hv=>by cases hv with|d hv=>exact .d (hv.keep c.keep)⟩
  |_=>simp only [z17] at hf; cases hf
 | .nilm,x,cs,ws,hf,hc=>by
  cases x with
  |d d=>cases d<;>simp only [z17] at hf<;>cases hf; exact fun rest=>⟨rfl,fun v hv=>by cases hv with|d hv=>exact .d (hv.keep c.keep)⟩
  |_=>simp only [z17] at hf; cases hf
 | .nils,x,cs,ws,hf,hc=>by
  cases x with
  |d d=>
   cases d with
   |list f z es=>
    cases f with
    |false=>cases es<;>(simp only [z17] at hf; cases hf)
    |true=>
     cases es with
     |cons _ _=>simp only [z17] at hf; cases hf
     |nil=>
      simp only [z17] at hf
      cases hf
      refine fun rest=>⟨rfl,fun v hv=>?_⟩
      cases hv with|d hv=>
      cases hv with
      |lnil _ _ a cc h=>exact .d (.lnil _ _ _ _ h)
      |list _ _ _ _ _ _ _ hne=>exact absurd rfl hne
   |_=>simp only [z17] at hf; cases hf
  |_=>simp only [z17] at hf; cases hf
 | .nilf,x,cs,ws,hf,hc=>by
  cases x with
  |d d=>cases d<;>simp only [z17] at hf<;>cases hf; exact fun rest=>⟨rfl,fun v hv=>by cases hv with|d hv=>exact .d (hv.keep c.keep)⟩
  |_=>simp only [z17] at hf; cases hf
 | .nili,x,cs,ws,hf,hc=>by
  cases x with
  |d d=>cases d<;>simp only [z17] at hf<;>cases hf; exact fun rest=>⟨rfl,fun v hv=>by cases hv with|d hv=>exact .d (hv.keep c.keep)⟩
  |_=>simp only [z17] at hf; cases hf
 | .agg l,x,cs,ws,hf,hc=>by
  cases x with
  |d d=>
   cases d with
   |agg ds=>
    simp only [z17] at hf
    have ih:=z4o c l (toA ds) cs ws hf hc
    intro rest
    obtain ⟨a,b,e⟩:=ih rest
    refine ⟨a,fun v hv=>?_⟩
    cases hv with|d hv=>
    cases hv with|agg _ vs hl hh=>
    refine y95 _ vs (by rw [b,z0o]; exact hl) (e (fun i=>vs.getD i undef) (fun i x hx=>?_))
    rw [z03] at hx
    cases hq:ds[i]? with
    |none=>rw [hq] at hx; cases hx
    |some d=>rw [hq] at hx; cases hx; exact .d (hh i d hq)
   |_=>simp only [z17] at hf; cases hf
  |agg xs=>
   simp only [z17] at hf
   have ih:=z4o c l xs cs ws hf hc
   intro rest
   obtain ⟨a,b,e⟩:=ih rest
   refine ⟨a,fun v hv=>?_⟩
   cases hv with|agg _ vs hl hh=>
   exact y95 _ vs (by rw [b]; exact hl) (e (fun i=>vs.getD i undef) hh)
  |_=>simp only [z17] at hf; cases hf
 | .ref l,x,cs,ws,hf,hc=>by
  cases x with
  |d d=>
   cases d with
   |ref ds=>
    simp only [z17] at hf
    have ih:=z4o c l (toA ds) cs ws hf hc
    intro rest
    obtain ⟨a,b,e⟩:=ih rest
    refine ⟨a,fun v hv=>?_⟩
    cases hv with|d hv=>
    cases hv with|ref _ bb o hne hO cell hcc hh=>
    refine y94 _ bb o cell (fun h=>hO (c.sub _ h)) (fun k hk=>hcc k (by rw [b,z0o] at hk; exact hk)) (e cell (fun i x hx=>?_))
    rw [z03] at hx
    cases hq:ds[i]? with
    |none=>rw [hq] at hx; cases hx
    |some d=>rw [hq] at hx; cases hx; exact .d (hh i d hq)
   |_=>simp only [z17] at hf; cases hf
  |bptr a off=>
   simp only [z17] at hf
   cases hm:z8m τ a with
   |true=>rw [hm] at hf; cases hf
   |false=>
    rw [hm] at hf; simp only [cond_false] at hf
    split at hf
    ·rename_i cells hcells
     have ih:=z4o c l cells cs ws hf hc
     intro rest
     obtain ⟨a',b',e⟩:=ih rest
     refine ⟨a',fun v hv=>?_⟩
     cases hv with|bptr _ _ M hM=>
     obtain ⟨hblk,hob⟩:=c.hr.obj a M hM
     rw [hcells] at hob
     obtain ⟨_,cc,t,hcc,hj⟩:=hob
     have hown:¬ O' M.blk:=c.out a M hM (by rw [hcells]; rfl) hm
     have hget:∀ k x,cells[k]?=some x→∃ u,cc[M.base+k]?=some u∧(cc[M.base+k]?).getD undef=u∧z0i ρ (z0c ρ h) w x u:=fun k x hx=>by
      obtain ⟨u,hu,hr⟩:=hj k x hx
      exact ⟨u,hu,by rw [hu]; rfl,hr⟩
     exact y94 _ M.blk M.base (fun k=>(cc[M.base+k]?).getD undef) hown (fun k hk=>by
      rw [b'] at hk
      obtain ⟨u,hu,h2,_⟩:=hget k _ (eAa hk)
      rw [h2]; exact y4p hcc hu) (e (fun k=>(cc[M.base+k]?).getD undef) (fun i x hx=>by
      obtain ⟨u,hu,h2,h3⟩:=hget i x hx
      rw [h2]; exact h3))
    ·cases hf
  |_=>simp only [z17] at hf; cases hf
 | .bptr i off,x,cs,ws,hf,hc=>by
  cases x with
  |bptr a off'=>
   simp only [z17] at hf
   cases hb:y4z σ i a&&Nat.beq off off' with
   |false=>rw [hb] at hf; cases hf
   |true=>
    rw [hb] at hf; cases hf
    simp only [eAb] at hb
    have:=eAc hb.2; subst this
    exact fun rest=>⟨rfl,fun v hv=>by cases hv with|bptr _ _ M hM=>exact .bptr _ _ M (by rw [c.loc _ _ (z3b hb.1)]; exact hM)⟩
  |_=>simp only [z17] at hf; cases hf
 | .ptr i off,x,cs,ws,hf,hc=>by
  cases x with
  |ptr a j off'=>
   simp only [z17] at hf
   cases hb:y4z σ i a&&Nat.beq off off' with
   |false=>rw [hb] at hf; cases hf
   |true=>
    rw [hb] at hf; cases hf
    simp only [eAb] at hb
    have:=eAc hb.2; subst this
    exact fun rest=>⟨rfl,fun v hv=>by cases hv with|ptr _ _ _ M hM=>exact .ptr _ _ _ M (by rw [c.loc _ _ (z3b hb.1)]; exact hM)⟩
  |_=>simp only [z17] at hf; cases hf
 | .vec i z,x,cs,ws,hf,hc=>by
  cases x with
  |slice a z' off len cap=>
   cases cap with
   |some cp=>
    simp only [z17] at hf
    cases hb:y4z σ i a&&Nat.beq z z' with
    |false=>rw [hb] at hf; cases hf
    |true=>
     rw [hb] at hf; simp only [cond_true] at hf
     simp only [eAb] at hb
     have:=eAc hb.2; subst this
     split at hf
     ·rename_i es hes
      cases hf
      simp only [z01,eCc,eAb] at hc
      have e1:=z6b hc.1
      have e2:=z6b hc.2.1
      refine fun rest=>⟨rfl,fun v hv=>?_⟩
      show z0i ρ' O' w (.slice i z 0 (z5z std L i) none) v
      have hle:=hc.2.2
      subst e1
      rw [←e2]
      exact x4z c.hr (c.loc _ _ (z3b hb.1)) hes hle hv
     ·cases hf
   |none=>
    simp only [z17] at hf
    cases hb:y4z σ i a&&Nat.beq z z' with
    |false=>rw [hb] at hf; cases hf
    |true=>
     rw [hb] at hf; cases hf
     simp only [eAb] at hb
     have:=eAc hb.2; subst this
     simp only [z01,eCc,eAb] at hc
     have e1:=z6b hc.1
     have e2:=z6b hc.2
     refine fun rest=>⟨rfl,fun v hv=>?_⟩
     show z0i ρ' O' w (.slice i z 0 (z5z std L i) none) v
     subst e1
     rw [←e2]
     cases hv with
     |slice _ _ _ _ _ M a' cc hM hz ha hcc hl=>exact .slice _ _ _ _ _ M _ _ (by rw [c.loc _ _ (z3b hb.1)]; exact hM) hz ha hcc hl
     |nils _ _ _ _ a' hcc=>exact .nils _ _ _ _ _ hcc
  |d d=>
   cases d with
   |list f z' es=>
    cases f with
    |false=>cases es<;>(simp only [z17] at hf; cases hf)
    |true=>
     cases es with
     |cons _ _=>simp only [z17] at hf; cases hf
     |nil=>
      simp only [z17] at hf
      cases hb:w1f σ i with
      |false=>rw [hb] at hf; cases hf
      |true=>
       rw [hb] at hf; simp only [cond_true] at hf
       split at hf
       ·rename_i hL
        cases hf
        refine fun rest=>⟨rfl,fun v hv=>?_⟩
        show z0i ρ' O' w (.slice i z 0 (z5z std L i) none) v
        have:z5z std L i=0:=by simp [z5z,hL,std]
        rw [this]
        cases hv with|d hv=>
        cases hv with
        |lnil _ _ a' cc hcc=>rw [hcc rfl]; exact .nils _ _ _ _ _ (.inl rfl)
        |list _ _ _ _ _ _ _ hne=>exact absurd rfl hne
       ·cases hf
   |_=>simp only [z17] at hf; cases hf
  |_=>simp only [z17] at hf; cases hf
 | .full i z,x,cs,ws,hf,hc=>by
  cases x with
  |slice a z' off len cap=>
   cases cap with
   |none=>simp only [z17] at hf; cases hf
   |some cp=>
    simp only [z17] at hf
    cases hb:y4z σ i a&&Nat.beq z z' with
    |false=>rw [hb] at hf; cases hf
    |true=>
     rw [hb] at hf; cases hf
     simp only [eAb] at hb
     have:=eAc hb.2; subst this
     simp only [z01,eCc,eAb] at hc
     have e1:=z6b hc.1
     have e2:=z6b hc.2.1
     have e3:=z6b hc.2.2
     refine fun rest=>⟨rfl,fun v hv=>?_⟩
     show z0i ρ' O' w (.slice i z 0 (z5z std L i) (some (z5z std L i))) v
     subst e1
     rw [←e2]
     rw [e3, ←e2] at hv
     cases hv with
     |slice _ _ _ _ _ M a' cc hM hz ha hcc hl=>exact .slice _ _ _ _ _ M _ _ (by rw [c.loc _ _ (z3b hb.1)]; exact hM) hz ha hcc hl
     |nils _ _ _ _ a' hcc=>exact .nils _ _ _ _ _ hcc
  |_=>simp only [z17] at hf; cases hf
 | .sl i z,x,cs,ws,hf,hc=>by
  cases x with
  |slice a z' off len cap=>
   cases cap with
   |some cp=>
    simp only [z17] at hf
    cases hb:y4z σ i a&&Nat.beq z z' with
    |false=>rw [hb] at hf; cases hf
    |true=>
     rw [hb] at hf; simp only [cond_true] at hf
     simp only [eAb] at hb
     have:=eAc hb.2; subst this
     split at hf
     ·rename_i es hes
      cases hf
      simp only [z01,eCc] at hc
      refine fun rest=>⟨rfl,fun v hv=>?_⟩
      show z0i ρ' O' w (.slice i z off len none) v
      exact x4z c.hr (c.loc _ _ (z3b hb.1)) hes hc hv
     ·cases hf
   |none=>
    simp only [z17] at hf
    cases hb:y4z σ i a&&Nat.beq z z' with
    |false=>rw [hb] at hf; cases hf
    |true=>
     rw [hb] at hf; cases hf
     simp only [eAb] at hb
     have:=eAc hb.2; subst this
     refine fun rest=>⟨rfl,fun v hv=>?_⟩
     show z0i ρ' O' w (.slice i z off len none) v
     cases hv with
     |slice _ _ _ _ _ M a' cc hM hz ha hcc hl=>exact .slice _ _ _ _ _ M _ _ (by rw [c.loc _ _ (z3b hb.1)]; exact hM) hz ha hcc hl
     |nils _ _ _ _ a' hcc=>exact .nils _ _ _ _ _ hcc
  |d d=>
   cases d with
   |list f z' es=>
    cases f with
    |false=>cases es<;>(simp only [z17] at hf; cases hf)
    |true=>
     cases es with
     |cons _ _=>simp only [z17] at hf; cases hf
     |nil=>
      simp only [z17] at hf
      cases hb:w1f σ i with
      |false=>rw [hb] at hf; cases hf
      |true=>
       rw [hb] at hf; simp only [cond_true] at hf
       split at hf
       ·rename_i hL
        cases hf
        refine fun rest=>⟨rfl,fun v hv=>?_⟩
        show z0i ρ' O' w (.slice i z 0 0 none) v
        cases hv with|d hv=>
        cases hv with
        |lnil _ _ a' cc hcc=>rw [hcc rfl]; exact .nils _ _ _ _ _ (.inl rfl)
        |list _ _ _ _ _ _ _ hne=>exact absurd rfl hne
       ·cases hf
   |_=>simp only [z17] at hf; cases hf
  |_=>simp only [z17] at hf; cases hf
 | .slc i z,x,cs,ws,hf,hc=>by
  cases x with
  |slice a z' off len cap=>
   cases cap with
   |none=>simp only [z17] at hf; cases hf
   |some cp=>
    simp only [z17] at hf
    cases hb:y4z σ i a&&Nat.beq z z' with
    |false=>rw [hb] at hf; cases hf
    |true=>
     rw [hb] at hf; cases hf
     simp only [eAb] at hb
     have:=eAc hb.2; subst this
     refine fun rest=>⟨rfl,fun v hv=>?_⟩
     show z0i ρ' O' w (.slice i z off len (some cp)) v
     cases hv with
     |slice _ _ _ _ _ M a' cc hM hz ha hcc hl=>exact .slice _ _ _ _ _ M _ _ (by rw [c.loc _ _ (z3b hb.1)]; exact hM) hz ha hcc hl
     |nils _ _ _ _ a' hcc=>exact .nils _ _ _ _ _ hcc
  |_=>simp only [z17] at hf; cases hf
 | .map i,x,cs,ws,hf,hc=>by
  cases x with
  |map a=>
   simp only [z17] at hf
   cases hb:y4z σ i a with
   |false=>rw [hb] at hf; cases hf
   |true=>
    rw [hb] at hf; cases hf
    exact fun rest=>⟨rfl,fun v hv=>by cases hv with|map _ M hM=>exact .map _ M (by rw [c.loc _ _ (z3b hb)]; exact hM)⟩
  |_=>simp only [z17] at hf; cases hf
 | .yld i,x,cs,ws,hf,hc=>by
  cases x with
  |yld a=>
   simp only [z17] at hf
   cases hb:y4z σ i a with
   |false=>rw [hb] at hf; cases hf
   |true=>
    rw [hb] at hf; cases hf
    exact fun rest=>⟨rfl,fun v hv=>by cases hv with|yld _ M hM=>exact .yld _ M (by rw [c.loc _ _ (z3b hb)]; exact hM)⟩
  |_=>simp only [z17] at hf; cases hf
 | .clo fn fs ds,x,cs,ws,hf,hc=>by
  cases x with
  |clo fn' fs' ds'=>
   cases fn' with
   |func g=>
    simp only [z17] at hf
    cases hb:Nat.beq fn g with
    |false=>rw [hb] at hf; cases hf
    |true=>
     rw [hb] at hf; simp only [cond_true] at hf
     have:=eAc hb; subst this
     split at hf
     ·rename_i c1 v1 c2 v2 h1 h2
      cases hf
      obtain ⟨q1,q2⟩:=z11 hc
      have i1:=z4o c fs fs' c1 v1 h1 q1
      have i2:=z4o c ds ds' c2 v2 h2 q2
      intro rest
      obtain ⟨a1,b1,e1⟩:=i1 (v2++rest)
      obtain ⟨a2,b2,e2⟩:=i2 rest
      simp only [w1x,eCg]
      rw [a1]
      refine ⟨a2,fun v hv=>?_⟩
      cases hv with|clo _ _ _ vf vc hl1 hl2 r1 r2=>
      exact .clo _ _ _ vf vc (by rw [b1]; exact hl1) (by rw [b2]; exact hl2) (e1 (fun i=>vf.getD i undef) r1) (e2 (fun i=>vc.getD i undef) r2)
     ·cases hf
   |_=>simp only [z17] at hf; cases hf
  |_=>simp only [z17] at hf; cases hf
 | .tuple l,x,cs,ws,hf,hc=>by
  cases x with
  |tuple xs=>
   simp only [z17] at hf
   have ih:=z4o c l xs cs ws hf hc
   intro rest
   obtain ⟨a,b,e⟩:=ih rest
   refine ⟨a,fun v hv=>?_⟩
   cases hv with|tuple _ vs hl hh=>
   exact .tuple _ vs (by rw [b]; exact hl) (e (fun i=>vs.getD i undef) hh)
  |_=>simp only [z17] at hf; cases hf
theorem z4o (c:x98 P ρ ρ' O' h w σ τ L):(ts:List VT)→(xs:List AV)→(cs:List Bool)→(ws:List Val)→z96 std h σ τ L ts xs=some (cs,ws)→z01 cs=true→VsOk ρ ρ' (z0c ρ h) O' w L ts xs ws
 |[],xs,cs,ws,hf,hc=>by
  cases xs with
  |nil=>simp only [z96] at hf; cases hf; exact fun rest=>⟨rfl,rfl,fun f hf i y hy=>by simp [z5p] at hy⟩
  |cons _ _=>simp only [z96] at hf; cases hf
 |t::ts,xs,cs,ws,hf,hc=>by
  cases xs with
  |nil=>simp only [z96] at hf; cases hf
  |cons x xs=>
   simp only [z96] at hf
   split at hf
   ·rename_i c1 v1 c2 v2 h1 h2
    cases hf
    obtain ⟨q1,q2⟩:=z11 hc
    have i1:=x8s c t x c1 v1 h1 q1
    have i2:=z4o c ts xs c2 v2 h2 q2
    intro rest
    obtain ⟨a1,e1⟩:=i1 (v2++rest)
    obtain ⟨a2,b2,e2⟩:=i2 rest
    simp only [z5p,eCg]
    rw [a1]
    refine ⟨a2,by simp [b2],fun f hff i y hy=>?_⟩
    cases i with
    |zero=>simp at hy; subst hy; exact e1 _ (hff 0 x rfl)
    |succ i=>exact e2 (fun i=>f (i+1)) (fun i x hx=>hff (i+1) x (by simpa using hx)) i y (by simpa using hy)
   ·cases hf
end
end
end Go.Am
end
section
namespace Go.Am
def w2w (h:List AO) (a:Nat) (es:List (List D)):Prop:=z0e h a= .row es∨∃ es0,z0e h a= .arow es0∧y5o es0=some es
def LOk (h:List AO):List OT→List (Option Nat)→List (Option AO)→Prop
 |[],[],[]=>True
 | .row _::t,some a::σ,some (.row es)::L=>w2w h a es∧LOk h t σ L
 | .row _::t,none::σ,some (.row [])::L=>LOk h t σ L
 | .map::t,some a::σ,some (.map es)::L=>z0e h a= .map es∧LOk h t σ L
 | .box _::t,some a::σ,none::L=>LOk h t σ L
 | .loop ..::t,some a::σ,none::L=>LOk h t σ L
 | .dead::t,_::σ,none::L=>LOk h t σ L
 |_,_,_=>False
theorem x8v (h:List AO):∀ (t:List OT) (σ:List (Option Nat)) (v:List Val),y1p h t σ=some v→∀ rest,(z6g t (v++rest)).2=rest∧LOk h t σ (z6g t (v++rest)).1∧(z6g t (v++rest)).1=(z6g t v).1:=by
 intro t
 induction t with
 |nil=>
  intro σ v hf rest
  cases σ with
  |nil=>simp only [y1p] at hf; cases hf; exact ⟨rfl,trivial,rfl⟩
  |cons _ _=>simp only [y1p] at hf; cases hf
 |cons o t ih=>
  intro σ v hf rest
  cases σ with
  |nil=>cases o<;>(simp only [y1p] at hf; cases hf)
  |cons s σ=>
   cases o with
   |row ck=>
    cases s with
    |some a=>
     simp only [y1p] at hf
     split at hf
     ·rename_i es hes
      cases hq:y1p h t σ with
      |none=>rw [hq] at hf; cases hf
      |some v'=>
       rw [hq] at hf; cases hf
       obtain ⟨a1,a2,a3⟩:=ih σ v' hq rest
       refine ⟨a1,⟨.inl hes,a2⟩,?_⟩
       exact congrArg (List.cons _) a3
     ·rename_i es0 hes
      split at hf
      ·rename_i l hl
       cases hq:y1p h t σ with
       |none=>rw [hq] at hf; cases hf
       |some v'=>
        rw [hq] at hf; cases hf
        obtain ⟨a1,a2,a3⟩:=ih σ v' hq rest
        refine ⟨a1,⟨.inr ⟨es0,hes,hl⟩,a2⟩,?_⟩
        exact congrArg (List.cons _) a3
      ·cases hf
     ·cases hf
    |none=>
     simp only [y1p] at hf
     cases hq:y1p h t σ with
     |none=>rw [hq] at hf; cases hf
     |some v'=>
      rw [hq] at hf; cases hf
      obtain ⟨a1,a2,a3⟩:=ih σ v' hq rest
      refine ⟨a1,a2,?_⟩
      exact congrArg (List.cons _) a3
   |map=>
    cases s with
    |some a=>
     simp only [y1p] at hf
     split at hf
     ·rename_i es hes
      cases hq:y1p h t σ with
      |none=>rw [hq] at hf; cases hf
      |some v'=>
       rw [hq] at hf; cases hf
       obtain ⟨a1,a2,a3⟩:=ih σ v' hq rest
       refine ⟨a1,⟨hes,a2⟩,?_⟩
       exact congrArg (List.cons _) a3
     ·cases hf
    |none=>simp only [y1p] at hf; cases hf
   |box l=>
    cases s with
    |some a=>
     simp only [y1p] at hf
     obtain ⟨a1,a2,a3⟩:=ih σ v hf rest
     refine ⟨a1,a2,?_⟩
     exact congrArg (List.cons _) a3
    |none=>simp only [y1p] at hf; cases hf
   |loop st pd g pos nt env=>
    cases s with
    |some a=>
     simp only [y1p] at hf
     obtain ⟨a1,a2,a3⟩:=ih σ v hf rest
     refine ⟨a1,a2,?_⟩
     exact congrArg (List.cons _) a3
    |none=>simp only [y1p] at hf; cases hf
   |dead=>
    have hf':y1p h t σ=some v:=by cases s<;>simpa only [y1p] using hf
    obtain ⟨a1,a2,a3⟩:=ih σ v hf' rest
    refine ⟨a1,by cases s<;>exact a2,?_⟩
    exact congrArg (List.cons _) a3
def OOk (ρ ρ':Rho) (O O':Nat→Prop) (h:List AO) (w:World):Option Nat→AO→Prop
 |some a,o=>(o= .dead)∨(∃ es,o= .row es∧w2w h a es)∨(∃ es,o= .map es∧z0e h a= .map es)∨
   (∃ cells ys,z0e h a= .box cells∧o= .box ys∧ys.length=cells.length∧∀ f:Nat→Value,(∀ i x,cells[i]?=some x→z0i ρ O w x (f i))→∀ i y,ys[i]?=some y→z0i ρ' O' w y (f i))∨
   (∃ st pd g pos nt env env',z0e h a= .loop st pd g pos nt env∧o= .loop st pd g pos nt env'∧∀ f:Nat→Value,(∀ t,z0i ρ O w (z1k env t) (f t))→∀ t,z0i ρ' O' w (z1k env' t) (f t))
 |none,o=>True
def HOk (ρ ρ':Rho) (O O':Nat→Prop) (h:List AO) (w:World):List (Option Nat)→List AO→Prop
 |[],[]=>True
 |s::σ,o::os=>OOk ρ ρ' O O' h w s o∧HOk ρ ρ' O O' h w σ os
 |_,_=>False
theorem HOk.nth {ρ ρ':Rho} {O O':Nat→Prop} {h:List AO} {w:World}:∀ {σ:List (Option Nat)} {os:List AO},HOk ρ ρ' O O' h w σ os→∀ i s,z1j σ i=some s→OOk ρ ρ' O O' h w s (z0e os i)
 |[],[],_,i,s,hs=>by simp [z1j] at hs
 |s0::σ,o::os,hk,i,s,hs=>by
  cases i with
  |zero=>simp [z1j] at hs; subst hs; exact hk.1
  |succ i=>exact HOk.nth hk.2 i s (by simpa [z1j] using hs)
 |[],_::_,hk,_,_,_=>hk.elim
 |_::_,[],hk,_,_,_=>hk.elim
theorem HOk.len {ρ ρ':Rho} {O O':Nat→Prop} {h:List AO} {w:World}:∀ {σ:List (Option Nat)} {os:List AO},HOk ρ ρ' O O' h w σ os→os.length=σ.length
 |[],[],_=>rfl
 |s0::σ,o::os,hk=>by simp [HOk.len hk.2]
 |[],_::_,hk=>hk.elim
 |_::_,[],hk=>hk.elim
theorem x8y {a b:LoopState} (h:v1g a b=true):a=b:=by cases a<;>cases b<;>first|rfl|cases h
theorem x8x {a b:Option Code} (h:v1f a b=true):a=b:=by
 cases a with
 |none=>cases b<;>first|rfl|cases h
 |some a=>
  cases b with
  |none=>cases a<;>cases h
  |some b=>
   cases a<;>cases b<;>first
    |rfl
    |cases h; done
    |(have:=eAc h; subst this; rfl)
theorem y6r:∀ {a b:List Bool},y5i a b=true→a=b
 |[],[],_=>rfl
 |[],_::_,h=>by cases h
 |_::_,[],h=>by cases h
 |x::a,y::b,h=>by
  simp only [y5i,eAb,beq_iff_eq] at h
  rw [h.1,y6r h.2]
section
variable {P:Program} {ρ ρ':Rho} {O':Nat→Prop} {h:List AO} {w:World} {σ τ:List (Option Nat)} {L:List (Option AO)}
theorem x8t (c:x98 P ρ ρ' O' h w σ τ L) (env:List (Nat×AV)):∀ (ts:List (Nat×VT)) (cs:List Bool) (ws:List Val),w6f std h σ τ L env ts=some (cs,ws)→z01 cs=true→
  ∀ rest,(w1y std L ts (ws++rest)).2=rest∧∀ f:Nat→Value,(∀ t,z0i ρ (z0c ρ h) w (z1k env t) (f t))→∀ t,z0i ρ' O' w (z1k (w1y std L ts (ws++rest)).1 t) (f t):=by
 intro ts
 induction ts with
 |nil=>intro cs ws hf hc rest; simp only [w6f] at hf; cases hf; exact ⟨rfl,fun f hff t=> .bot _⟩
 |cons kt ts ih=>
  obtain ⟨k,t⟩:=kt
  intro cs ws hf hc rest
  simp only [w6f] at hf
  split at hf
  ·rename_i c1 v1 c2 v2 h1 h2
   cases hf
   obtain ⟨q1,q2⟩:=z11 hc
   have i1:=x8s c t _ c1 v1 h1 q1
   obtain ⟨a1,e1⟩:=i1 (v2++rest)
   obtain ⟨a2,e2⟩:=ih c2 v2 h2 q2 rest
   simp only [w1y,eCg]
   rw [a1]
   refine ⟨a2,fun f hff t=>?_⟩
   simp only [z1k]
   cases hb:Nat.beq k t with
   |true=>have:=eAc hb; subst this; exact e1 _ (hff k)
   |false=>exact e2 f hff t
  ·cases hf
theorem x8u (c:x98 P ρ ρ' O' h w σ τ L):∀ (ts:List OT) (σ':List (Option Nat)) (Lp:List (Option AO)) (cs:List Bool) (ws:List Val),LOk h ts σ' Lp→y83 std h σ τ L ts σ'=some (cs,ws)→z01 cs=true→
  ∀ rest,(y40 std L Lp ts (ws++rest)).2=rest∧HOk ρ ρ' (z0c ρ h) O' h w σ' (y40 std L Lp ts (ws++rest)).1:=by
 intro ts
 induction ts with
 |nil=>
  intro σ' Lp cs ws hl hf hc rest
  cases σ' with
  |nil=>simp only [y83] at hf; cases hf; cases Lp<;>exact ⟨rfl,trivial⟩
  |cons _ _=>simp only [y83] at hf; cases hf
 |cons t ts ih=>
  intro σ' Lp cs ws hl hf hc rest
  cases σ' with
  |nil=>cases t<;>(simp only [y83] at hf; cases hf)
  |cons s σ'=>
   cases t with
   |row ck=>
    cases s with
    |some a=>
     simp only [y83] at hf
     match Lp,hl with
     |some (.row es)::Lp,hl=>
      obtain ⟨a1,a2⟩:=ih σ' Lp cs ws hl.2 hf hc rest
      exact ⟨a1, .inr (.inl ⟨es,rfl,hl.1⟩),a2⟩
    |none=>
     simp only [y83] at hf
     match Lp,hl with
     |some (.row [])::Lp,hl=>
      obtain ⟨a1,a2⟩:=ih σ' Lp cs ws hl hf hc rest
      exact ⟨a1,trivial,a2⟩
   |map=>
    cases s with
    |some a=>
     simp only [y83] at hf
     match Lp,hl with
     |some (.map es)::Lp,hl=>
      obtain ⟨a1,a2⟩:=ih σ' Lp cs ws hl.2 hf hc rest
      exact ⟨a1, .inr (.inr (.inl ⟨es,rfl,hl.1⟩)),a2⟩
    |none=>
     match Lp,hl with
     |_,hl=>simp [LOk] at hl
   |dead=>
    have hf':y83 std h σ τ L ts σ'=some (cs,ws):=by cases s<;>simpa only [y83] using hf
    have:∃ Lp',Lp=none::Lp'∧LOk h ts σ' Lp':=by
     match s,Lp,hl with
     |some _,none::Lp',hl=>exact ⟨Lp',rfl,hl⟩
     |none,none::Lp',hl=>exact ⟨Lp',rfl,hl⟩
    obtain ⟨Lp',rfl,hl'⟩:=this
    obtain ⟨a1,a2⟩:=ih σ' Lp' cs ws hl' hf' hc rest
    exact ⟨a1,by cases s; exact trivial; exact .inl rfl,a2⟩
   |box l=>
    cases s with
    |none=>simp only [y83] at hf; cases hf
    |some a=>
     simp only [y83] at hf
     split at hf
     ·rename_i cells hcells
      split at hf
      ·rename_i c1 v1 c2 v2 h1 h2
       cases hf
       obtain ⟨q1,q2⟩:=z11 hc
       match Lp,hl with
       |none::Lp,hl=>
        obtain ⟨b1,b2,b3⟩:=z4o c l cells c1 v1 h1 q1 (v2++rest)
        obtain ⟨a1,a2⟩:=ih σ' Lp c2 v2 hl h2 q2 rest
        simp only [y40,w70,eCg]
        rw [b1]
        exact ⟨a1, .inr (.inr (.inr (.inl ⟨cells,_,hcells,rfl,b2,b3⟩))),a2⟩
      ·cases hf
     ·cases hf
   |loop st pd g pos nt env=>
    cases s with
    |none=>simp only [y83] at hf; cases hf
    |some a=>
     simp only [y83] at hf
     split at hf
     ·rename_i st' pd' g' pos' nt' env' hob
      cases hb:v1g st st'&&(v1f pd pd'&&(Nat.beq g g'&&(y5i pos pos'&&Nat.beq nt nt'))) with
      |false=>rw [hb] at hf; cases hf
      |true=>
       rw [hb] at hf; simp only [cond_true] at hf
       simp only [eAb] at hb
       obtain ⟨e1,e2,e3,e4,e5⟩:=hb
       have e1:=x8y e1
       have e2:=x8x e2
       have e3:=eAc e3
       have e4:=y6r e4
       have e5:=eAc e5
       subst e1; subst e2; subst e3; subst e4; subst e5
       split at hf
       ·rename_i c1 v1 c2 v2 h1 h2
        cases hf
        obtain ⟨q1,q2⟩:=z11 hc
        match Lp,hl with
        |none::Lp,hl=>
         obtain ⟨b1,b2⟩:=x8t c env' env c1 v1 h1 q1 (v2++rest)
         obtain ⟨a1,a2⟩:=ih σ' Lp c2 v2 hl h2 q2 rest
         simp only [y40,w70,eCg]
         rw [b1]
         exact ⟨a1, .inr (.inr (.inr (.inr ⟨st,pd,g,pos,nt,env',_,hob,rfl,b2⟩))),a2⟩
       ·cases hf
     ·cases hf
theorem z93:∀ {n k:Nat} {σ:List (Option Nat)},x0b k n σ=true→∀ i,i<n→z1j σ i=some (some (k+i))
 |0,k,σ,_,i,hi=>by omega
 |n+1,k,[],h,i,hi=>by cases h
 |n+1,k,none::r,h,i,hi=>by cases h
 |n+1,k,some a::r,h,i,hi=>by
  simp only [x0b,eAb] at h
  cases i with
  |zero=>have:=eAc h.1; simp [z1j,this]
  |succ i=>
   have:=z93 h.2 i (by omega)
   simp only [z1j]; rw [this]; congr 2; omega
def y12 (ρ:Rho) (h:List AO) (σ:List (Option Nat)) (b:Nat):Prop:=ρ.fr b∨∃ i a M,z1j σ i=some (some a)∧(z0e h a).live=true∧ρ a=some M∧M.blk=b
theorem v1e {τ:List (Option Nat)} (hr:z0a P ρ h w):x98 P ρ (ρ.via σ) (y12 ρ h τ) h w σ τ L where
 hr:=hr
 loc:=fun i a hi=>by show (match z1j σ i with|some (some a)=>ρ a|_=>none)=ρ a; rw [hi]
 sub:=fun b hb=>by
  rcases hb with hf|⟨i,a,M,h1,h2,h3,rfl⟩
  ·exact .inl hf
  ·exact .inr ⟨a,M,h3,h2,rfl⟩
 out:=fun a M hM hl hm ho=>by
  rcases ho with hf|⟨i,a',M',h1,h2,h3,h4⟩
  ·exact hr.sep a M hM hl hf
  ·have:=hr.inj a' a M' M h3 hM h2 hl h4
   subst this
   rw [z6y h1] at hm; cases hm
theorem w2w.live {h':List AO} {a:Nat} {es:List (List D)} (h:w2w h' a es):(z0e h' a).live=true:=by
 rcases h with h|⟨es0,h,_⟩<;>rw [h]<;>rfl
theorem y1w:∀ {es0:List (List AV)} {es:List (List D)},y5o es0=some es→es0=z4c es
 |[],es,h=>by simp [y5o] at h; subst h; rfl
 |x::r,es,h=>by
  simp only [y5o] at h
  split at h
  ·rename_i d l h1 h2
   cases h
   rw [z1i h1,y1w h2]; rfl
  ·cases h
theorem OOk.live {O:Nat→Prop} {a:Nat} {o:AO} (hk:OOk ρ ρ' O O' h w (some a) o) (hl:o.live=true):(z0e h a).live=true:=by
 rcases hk with rfl|⟨es,rfl,hr⟩|⟨es,rfl,hr⟩|⟨cells,ys,hr,rfl,_⟩|⟨st,pd,g,pos,nt,env,env',hr,rfl,_⟩
 ·cases hl
 ·exact hr.live
 ·rw [hr]; rfl
 ·rw [hr]; rfl
 ·rw [hr]; rfl
theorem w0e (hr:z0a P ρ h w) {τ:List (Option Nat)} (hinj:x56 τ=true) {h':List AO} (hτ:∀ i a,z1j σ i=some (some a)→(z0e h' i).live=true→z1j τ i=some (some a)) (hk:HOk ρ (ρ.via σ) (z0c ρ h) (y12 ρ h τ) h w σ h'):z0a P (ρ.via σ) h' w∧∀ b,z0c (ρ.via σ) h' b→y12 ρ h τ b:=by
 have hown:∀ b,z0c (ρ.via σ) h' b→y12 ρ h τ b:=by
  intro b hb
  rcases hb with hf|⟨i,M,hM,hl,rfl⟩
  ·exact .inl hf
  ·obtain ⟨a,ha,hMa⟩:=z2u hM
   exact .inr ⟨i,a,M,hτ i a ha hl,(hk.nth i _ ha).live hl,hMa,rfl⟩
 have kp:z3s (z0c ρ h) (z0c (ρ.via σ) h') w w:=⟨eAk _,fun _ _ _=>rfl,fun b _ hb=>(v1e (σ:=σ) (τ:=τ) (L:=[]) hr).sub b (hown b hb),fun _ _ h=>h,z0m.refl _⟩
 have kp2:z3s (y12 ρ h τ) (z0c (ρ.via σ) h') w w:=⟨eAk _,fun _ _ _=>rfl,fun b _ hb=>hown b hb,fun _ _ h=>h,z0m.refl _⟩
 refine ⟨⟨fun i M hM=>?_,fun i j M M' h1 h2 l1 l2 hb=>?_,fun b hf=>hr.fr b hf,fun i M hM hl hf=>?_,hr.gl.keep kp⟩,hown⟩
 ·obtain ⟨a,ha,hMa⟩:=z2u hM
  obtain ⟨o1,o2⟩:=hr.obj a M hMa
  refine ⟨o1,?_⟩
  rcases hk.nth i _ ha with e|⟨es,e,hrow⟩|⟨es,e,hmap⟩|⟨cells,ys,hbox,e,hlen,hys⟩|⟨st,pd,g,pos,nt,env,env',hlp,e,henv⟩
  ·rw [e]; trivial
  ·rw [e]
   rcases hrow with hrow|⟨es0,hrow,hdd⟩
   ·rw [hrow] at o2
    obtain ⟨hz,c,t,hc,hl,hj⟩:=o2
    exact ⟨hz,c,t,hc,hl,fun i r j x hi hx=>let ⟨v,hv,h1,hvr⟩:=hj i r j x hi hx; ⟨v,hv,h1,hvr.keep kp⟩⟩
   ·rw [hrow,y1w hdd] at o2
    obtain ⟨hz,c,t,hc,hl,hj⟩:=o2
    refine ⟨hz,c,t,hc,fun i r hi=>?_,fun i r j x hi hx=>?_⟩
    ·have:=hl i (toA r) (by rw [z18,hi]; rfl)
     rwa [z0o] at this
    ·obtain ⟨v,hv,h1,hvr⟩:=hj i (toA r) j (.d x) (by rw [z18,hi]; rfl) (by rw [z03,hx]; rfl)
     cases hvr with|d hvr=>exact ⟨v,hv,h1,hvr.keep kp⟩
  ·rw [e]; rw [hmap] at o2
   obtain ⟨en,clk,hc,hl,hj⟩:=o2
   exact ⟨en,clk,hc,hl,fun i k x hi=>let ⟨e,he,h1,h2⟩:=hj i k x hi; ⟨e,he,h1.keep kp,h2.keep kp⟩⟩
  ·rw [e]; rw [hbox] at o2
   obtain ⟨hbase,c,t,hc,hj⟩:=o2
   refine ⟨hbase,c,t,hc,fun j y hy=>?_⟩
   have hjl:j<cells.length:=by rw [←hlen]; exact (eAd.1 hy).1
   obtain ⟨v,hv,_⟩:=hj j _ (eAa hjl)
   have:=hys (fun j=>(c[M.base+j]?).getD undef) (fun j x hx=>by
    obtain ⟨u,hu,hur⟩:=hj j x hx
    simp only [hu,eBk]; exact hur) j y hy
   simp only [hv,eBk] at this
   exact ⟨v,hv,this.keep kp2 (fun _ _ h=>h)⟩
  ·rw [e]; rw [hlp] at o2
   obtain ⟨x,ps,asg,body,hcd,tm,ds,f,hc,hl,hj⟩:=o2
   exact ⟨x,ps,asg,body,hcd,tm,ds,f,hc,hl,fun t=>(henv (fun t=>tm.getD t undef) hj t).keep kp2 (fun _ _ h=>h)⟩
 ·obtain ⟨a,ha,hMa⟩:=z2u h1
  obtain ⟨a',ha',hMa'⟩:=z2u h2
  have:=hr.inj a a' M M' hMa hMa' ((hk.nth i _ ha).live l1) ((hk.nth j _ ha').live l2) hb
  subst this
  exact z65 hinj (hτ _ _ ha l1) (hτ _ _ ha' l2)
 ·obtain ⟨a,ha,hMa⟩:=z2u hM
  exact hr.sep a M hMa ((hk.nth i _ ha).live hl) hf
theorem y6b:∀ {ts:List OT} {σ:List (Option Nat)} {i a:Nat},z1j σ i=some (some a)→i<ts.length→ts[i]?≠some .dead→z1j (y2i ts σ) i=some (some a)
 |[],_,i,a,_,h,_=>by simp at h
 |t::ts,[],i,a,h,_,_=>by simp [z1j] at h
 |t::ts,s::σ,0,a,h,_,hd=>by
  simp [z1j] at h; subst h
  cases t<;>first|exact absurd rfl hd|rfl
 |t::ts,s::σ,i+1,a,h,hl,hd=>by
  have:=y6b (ts:=ts) (σ:=σ) (i:=i) (a:=a) (by simpa [z1j] using h) (by simpa using hl) (by simpa using hd)
  cases t<;>exact this
theorem x0z:∀ (ts:List OT) (vs:List Val) (i:Nat),ts[i]?=some .dead→z1j (z6g ts vs).1 i=some none
 |[],vs,i,h=>by simp at h
 |t::ts,vs,0,h=>by
  simp at h; subst h; simp [z6g,z1j]
 |t::ts,vs,i+1,h=>by
  have ih:=fun vs=>x0z ts vs i (by simpa using h)
  cases t<;>cases vs<;>(try (rename_i v vs; cases v))<;>simp only [z6g,z1j]<;>exact ih _
theorem x0y (p:Prim) (L:List (Option AO)):∀ (os:List (Option AO)) (ts:List OT) (vs:List Val) (i:Nat),ts[i]?=some .dead→z1j os i=some none→z0e (y40 p L os ts vs).1 i= .dead
 |[],ts,vs,i,h,h2=>by simp [z1j] at h2
 |o::os,[],vs,i,h,h2=>by simp at h
 |o::os,t::ts,vs,0,h,h2=>by
  simp at h; subst h
  simp [z1j] at h2; subst h2
  rfl
 |o::os,t::ts,vs,i+1,h,h2=>by
  simp only [y40,z0e]
  exact x0y p L os ts _ i (by simpa using h) (by simpa [z1j] using h2)
theorem x4k (p:Prim) (L:List (Option AO)):∀ (os:List (Option AO)) (ts:List OT) (vs:List Val),(y40 p L os ts vs).1.length≤ts.length
 |[],ts,vs=>by simp [y40]
 |o::os,[],vs=>by simp [y40]
 |o::os,t::ts,vs=>by
  simp only [y40,eBi]
  exact Nat.succ_le_succ (x4k p L os ts _)
theorem w5h {n : Nat} {t : ST} {s : AS} {cs : List Bool} {vs : List Val} (hf : v1d std n t σ s = some (cs, vs)) (hc : z01 cs = true) : y0g n s (x80 std t vs) ∧ n ≤ (x80 std t vs).heap.length := by
  unfold v1d at hf
  cases hb : Nat.beq s.nt t.nt && (x56 (y2i t.heap σ) && x0b 0 n σ) with
  | false => rw [hb] at hf; cases hf
  | true =>
    rw [hb] at hf; simp only [cond_true] at hf
    simp only [eAb] at hb
    obtain ⟨hnt, hinj, hkeep⟩ := hb
    have hnt := eAc hnt
    split at hf
    · rename_i v1 h1
      split at hf
      · rename_i c2 v2 c3 v3 h2 h3
        cases hf
        obtain ⟨q2, q3⟩ := z11 hc
        obtain ⟨a1, a2, a3⟩ := x8v s.heap t.heap σ v1 h1 (v2 ++ v3)
        have main : ∀ (P : Program) (ρ : Rho) (w : World), z0a P ρ s.heap w → (y40 std (z6g t.heap (v1 ++ (v2 ++ v3))).1 (z6g t.heap (v1 ++ (v2 ++ v3))).1 t.heap (z6g t.heap (v1 ++ (v2 ++ v3))).2).2 = v3 ∧
            HOk ρ (ρ.via σ) (z0c ρ s.heap) (y12 ρ s.heap (y2i t.heap σ)) s.heap w σ (x80 std t (v1 ++ (v2 ++ v3))).heap ∧
            ∀ f : Nat → Value, (∀ t, z0i ρ (z0c ρ s.heap) w (z1k s.env t) (f t)) → ∀ t', z0i (ρ.via σ) (y12 ρ s.heap (y2i t.heap σ)) w (z1k (x80 std t (v1 ++ (v2 ++ v3))).env t') (f t') := by
          intro P ρ w hr
          rw [← a3] at h2 h3
          have cx := v1e (P := P) (σ := σ) (τ := y2i t.heap σ) (L := (z6g t.heap (v1 ++ (v2 ++ v3))).1) hr
          obtain ⟨b1, b2⟩ := x8u cx t.heap σ (z6g t.heap (v1 ++ (v2 ++ v3))).1 c2 v2 a2 h2 q2 v3
          rw [a1]
          refine ⟨b1, ?_, ?_⟩
          · show HOk _ _ _ _ _ _ _ (y40 std _ _ t.heap (z6g t.heap (v1 ++ (v2 ++ v3))).2).1
            rw [a1]; exact b2
          · have := (x8t cx s.env t.env c3 v3 h3 q3 []).2
            rw [eCn] at this
            show ∀ f : Nat → Value, _ → ∀ t', z0i _ _ _ (z1k (w1y std _ t.env (y40 std _ _ t.heap (z6g t.heap (v1 ++ (v2 ++ v3))).2).2).1 t') (f t')
            rw [a1, b1]; exact this
        have hlen : (x80 std t (v1 ++ (v2 ++ v3))).heap.length = σ.length := by
          have hr0 : z0a default ⟨fun _ => none, fun _ => False⟩ s.heap default :=
            { obj := fun _ _ h => by cases h
              inj := fun _ _ _ _ h => by cases h
              fr := fun _ h => h.elim
              sep := fun _ _ h => by cases h
              gl := { lay := fun _ _ h => by cases h
                      shp := fun g b h => by
                        have : z9l default g = none := by
                          have e : ∀ n, Program.globalNamed default n = none := fun n => rfl
                          simp [z9l, e]
                        rw [this] at h; cases h } }
          exact (main _ _ _ hr0).2.1.len
        have hnl : n ≤ σ.length := by
          cases n with
          | zero => omega
          | succ n =>
            have := z93 hkeep n (by omega)
            rw [z1b] at this
            have := (eAd.1 this).1
            omega
        refine ⟨⟨fun {P} ρ tm w hs => ?_⟩, by rw [hlen]; exact hnl⟩
        obtain ⟨m1, m2, m3⟩ := main P ρ w hs.heap
        obtain ⟨v1', v2'⟩ := w0e hs.heap hinj (fun i a hi hl => by
          have hlt : i < t.heap.length := by
            have h1 : i < (x80 std t (v1 ++ (v2 ++ v3))).heap.length := by
              refine Nat.lt_of_not_le fun hge => ?_
              rw [x2g _ _ hge] at hl; cases hl
            exact eAn h1 (x4k _ _ _ _ _)
          refine y6b hi hlt fun hd => ?_
          have : z0e (x80 std t (v1 ++ (v2 ++ v3))).heap i = .dead := x0y _ _ _ _ _ _ hd (x0z _ _ _ hd)
          rw [this] at hl; cases hl) m2
        have kp2 : z3s (y12 ρ s.heap (y2i t.heap σ)) (z0c (ρ.via σ) (x80 std t (v1 ++ (v2 ++ v3))).heap) w w := ⟨eAk _, fun _ _ _ => rfl, fun b _ hb => v2' b hb, fun _ _ h => h, z0m.refl _⟩
        have hrho : ∀ id, id < n → (ρ.via σ) id = ρ id := fun id hid => by
          have := z93 hkeep id hid
          rw [eAp] at this
          show (match z1j σ id with | some (some a) => ρ a | _ => none) = ρ id
          rw [this]
        refine ⟨ρ.via σ, ⟨v1', fun t' => (m3 (fun t => tm.getD t undef) hs.env t').keep kp2 (fun _ _ h => h), hs.size.trans hnt, fun id hid => ?_⟩, hnt.symm, ?_, hrho⟩
        · rw [hlen]
          cases hq : (ρ.via σ) id with
          | none => exact absurd hq hid
          | some M =>
            obtain ⟨a, ha, _⟩ := z2u hq
            rw [z1b] at ha
            exact (eAd.1 ha).1
        · exact { os := rfl, tape := rfl, output := rfl, keep := ⟨eAk _, fun _ _ _ => rfl, fun b _ hb => (v1e (σ := σ) (τ := y2i t.heap σ) (L := []) hs.heap).sub b (v2' b hb), fun _ _ h => h, z0m.refl _⟩, rho := fun id hid => hrho id hid, fr := rfl, frs := fun _ _ => rfl }
      · cases hf
    · cases hf
end
end Go.Am
end
