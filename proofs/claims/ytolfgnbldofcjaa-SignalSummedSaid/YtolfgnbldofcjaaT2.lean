/- Texts of this claim. -/
import Derived.Test.YtolfgnbldofcjaaT1
import Derived.RangeFuncLeaves
import Derived.ReadAgain
import Derived.ChangeSame
import Derived.ChangeArms
import Derived.ChangeOld
import Derived.OpenShut
import Derived.WalkKit
import Derived.ProofKit
import Derived.Test.YtolfgnbldofcjaaRows
import Derived.JoinedCond
import Derived.JoinedOf
import Derived.JoinedAt
import Derived.Orders
set_option linter.unusedVariables false
set_option linter.unusedSimpArgs false
set_option linter.unusedSectionVars false
set_option maxRecDepth 100000
set_option maxHeartbeats 0
section
namespace Go.Am
section
variable {P:Program} {ρ:Rho} {h:List AO} {w:World}
theorem z3v {id:Nat} {o:AO} (ho:z0j h id=o) (j:Nat):z0j (z1i h id o) j=z0j h j:=by
 by_cases hj:id=j
 ·subst hj; rw [z0m,ho]
 ·exact z0g _ _ _ _ hj
theorem y46 {id:Nat} {o:AO} (ho:z0j h id=o):z0i ρ (z1i h id o)=z0i ρ h:=by
 funext b; unfold z0i; simp only [z3v ho]
theorem z0c.ext0 (hr:z0c P ρ h w) {id:Nat} {o:AO} (ho:z0j h id=o):z0c P ρ (z1i h id o) w:=by
 refine ⟨fun j L hL=>?_,fun i i' L L' h1 h2 l1 l2=>hr.inj i i' L L' h1 h2 (by rw [←z3v ho]; exact l1) (by rw [←z3v ho]; exact l2),hr.fr,fun i L hL hl=>hr.sep i L hL (by rw [←z3v ho]; exact hl)⟩
 have:=hr.obj j L hL
 rw [y46 ho,z3v ho]
 exact this
theorem ext0 {S:Nat→Prop} {id:Nat} {o:AO} (ho:z0j h id=o):Ext S ρ h w ρ (z1i h id o) w:=
 ⟨rfl,rfl,rfl,by rw [y46 ho]; exact z5n.refl _ _,fun _ _=>rfl,rfl,fun _ _=>rfl⟩
theorem y4f (es xs:List (List D)) (i:Nat):z58 (es.take i++xs++es.drop (i+xs.length))=z4d (z58 es) i (z58 xs):=by
 simp [z4d,z30,List.map_take,List.map_drop]
theorem x25 {T:TypeId} {ti:TI} (ht:z8m P T ti) (hr:z0c P ρ h w) {new:Nat} {d s:AV} {vd vs:Value} (hd:z0t ρ (z0i ρ h) w d vd) (hs:z0t ρ (z0i ρ h) w s vs) {ts:Array TypeId} {ty:TypeId} (hts:ts[0]?=some T) {res:Res}
  (hst:z6p std ti h d s=some res) (hc:res.c=true):z0r P ρ h w new (Builtin.copy_ ts ty #[vd,vs]) res:=by
 obtain ⟨dd,hdd,hda,hk⟩:=ht.desc
 unfold z6p at hst
 split at hst
 ·rename_i e z eb ea ez hdesc
  rw [hdesc] at hk
  obtain ⟨rfl,hsz,_⟩:=hk
  cases hz:Nat.ble 1 z with
  |false=>rw [hz] at hst; cases hst
  |true=>
  rw [hz] at hst; simp only [cond_true] at hst
  have hzp:0<z:=Nat.le_of_ble_eq_true hz
  split at hst
  ·rename_i c xs id z' off len cap hels
   cases hb:Nat.beq z z' with
   |false=>rw [hb] at hst; cases hst
   |true=>
   rw [hb] at hst; simp only [cond_true] at hst
   have hzz:=Nat.eq_of_beq_eq_true hb
   subst hzz
   split at hst
   ·rename_i es hob
    cases hst
    simp only at hc
    obtain ⟨h1,hc⟩:=and_true hc
    obtain ⟨h2,h3⟩:=and_true hc
    obtain ⟨a2,m,capx,cxs,rfl,hm,hmc,hxl,hxr,hxf⟩:=y1k (P:=P) hr hzp hs hels h1
    rw [←hm] at h2⊢
    have h2:m≤len:=z2v h2
    have h3:off+len≤es.length:=z2v h3
    have hcx:cxs.length=m*z:=by rw [hxr.1,hxl]
    cases hd with
    |nils _ _ _ _ a hcc=>
     have:m=0:=by omega
     subst this
     have hcx0:cxs=[]:=by simpa using hcx
     subst hcx0
     have hx0:xs=[]:=by
      have:xs.length=0:=by rw [←z03]; exact hxl
      simpa using this
     subst hx0
     have hrun:(Builtin.copy_ ts ty #[.slice a 0 0, .slice a2 0 capx]).run P w= .ok (.int .i64 0) w:=by
      have:=hxf w rfl
      cases a<;>simp [Builtin.copy_,hts,z0h hdd,Builtin.lenOf,z1m hsz,this,storeCells,goInt]
     have hsame:(std.splice es off [])=es:=by simp [std]
     rw [hsame]
     refine ⟨_,w,ρ,hrun, .d (.int _ _),?_,?_, .inl rfl⟩
     ·exact hr.ext0 hob
     ·exact ext0 hob
    |slice _ _ _ _ _ L a cp hL hLz haa hcc hle=>
     obtain ⟨_,hobj⟩:=hr.obj id L hL
     have hE:(z0j h id).rows=some (z58 es):=by rw [hob]; rfl
     obtain ⟨_,cc,t,hcb,hl,hj⟩:=hobj.rows hE
     rw [hLz] at hl hj
     have hlive:(z0j h id).live=true:=by rw [hob]; rfl
     by_cases hm0:m=0
     ·subst hm0
      have hcx0:cxs=[]:=by simpa using hcx
      subst hcx0
      have hx0:xs=[]:=by
       have:xs.length=0:=by rw [←z03]; exact hxl
       simpa using this
      subst hx0
      have hrun:(Builtin.copy_ ts ty #[.slice a len cp, .slice a2 0 capx]).run P w= .ok (.int .i64 0) w:=by
       have:=hxf w rfl
       cases a<;>simp [Builtin.copy_,hts,z0h hdd,Builtin.lenOf,z1m hsz,this,storeCells,goInt]
      have hsame:(std.splice es off [])=es:=by simp [std]
      rw [hsame]
      exact ⟨_,w,ρ,hrun, .d (.int _ _),hr.ext0 hob,ext0 hob, .inl rfl⟩
     ·have hElast:L.base+es.length*z≤cc.size:=by
       have hlt:es.length - 1<(z58 es).length:=by rw [z03]; omega
       have hrl:=hl _ _ (List.getElem?_eq_getElem hlt)
       have hy:z - 1<((z58 es)[es.length - 1]).length:=by omega
       obtain ⟨v,hv,_,_⟩:=hj _ _ _ _ (List.getElem?_eq_getElem hlt) (List.getElem?_eq_getElem hy)
       have:=(Array.getElem?_eq_some_iff.1 hv).1
       have e:es.length*z=(es.length - 1)*z+z:=by
        rw [←Nat.succ_mul]; congr 1; omega
       omega
      have hmul2:(off+m)*z≤es.length*z:=Nat.mul_le_mul_right _ (by omega)
      have hmul3:(off+m)*z=off*z+m*z:=Nat.add_mul _ _ _
      rw [haa (by omega),hLz]
      have hrun:(Builtin.copy_ ts ty #[.slice (some ⟨L.blk,L.base+off*z,none⟩) len cp, .slice a2 m capx]).run P w= .ok (.int .i64 m) (World.setObj w L.blk (.cells (cc.toList.take (L.base+off*z)++cxs++cc.toList.drop (L.base+off*z+cxs.length)).toArray t (0,0))):=by
       have hst:=run_storeCells_at (P:=P) L.blk (L.base+off*z) t cxs 0 cc w hcb (by simp; omega) (z9m hzp hxr)
       rw [z6v hcb] at hst
       simp only [Nat.add_zero] at hst
       have hmin:Nat.min m len=m:=Nat.min_eq_left h2
       simp [Builtin.copy_,hts,z0h hdd,Builtin.lenOf,z1m hsz,hmin,hxf w rfl,hst,goInt]
      have hbs:∀ k,z1v w L.blk=some k→z1v (World.setObj w L.blk (.cells (cc.toList.take (L.base+off*z)++cxs++cc.toList.drop (L.base+off*z+cxs.length)).toArray t (0,0))) L.blk=some k:=by
       intro k hk
       rw [z05 hcb] at hk; cases hk
       rw [z05 (z0z _ _ _ (Array.getElem?_eq_some_iff.1 hcb).1)]
       congr 1
       simp; omega
      have hkp:=z2a hr hL hlive (.row (std.splice es off xs)) rfl _ hbs
      have hxl':(z58 xs).length=m:=hxl
      obtain ⟨r1,r2⟩:=y0g (w:=w) hzp (base:=L.base) (c:=cc) (i:=off) hl hj hxr (by show off+(z58 xs).length≤(z58 es).length; rw [z03,z03]; rw [z03] at hxl'; omega) (by omega)
      have hrow':(AO.row (std.splice es off xs)).rows=some (z4d (z58 es) off (z58 xs)):=by
       show some (z58 _)=_; rw [←y4f]; rfl
      refine ⟨_,_,ρ,hrun, .d (.int _ _),hr.set hL hlive _ rfl _ hbs ?_,Ext.set _ hr hL hlive _ rfl _ hbs, .inl rfl⟩
      refine z17.of_rows hrow' (by omega) _ t (z0z _ _ _ (Array.getElem?_eq_some_iff.1 hcb).1) (by rw [hLz]; exact r1) (fun i r j y hi hy=>?_)
      rw [hLz]
      obtain ⟨v,hv,hv1,hvr⟩:=r2 i r j y hi hy
      exact ⟨v,hv,hv1,hvr.keep hkp (fun _ _ h=>h)⟩
   ·cases hst
  ·rename_i c xs full z' hels
   cases hst
   obtain ⟨a2,m,capx,cxs,rfl,hm,hmc,hxl,hxr,hxf⟩:=y1k (P:=P) hr hzp hs hels hc
   cases hd with|d hd=>
   cases hd with
   |lnil _ _ a cap hcap=>
    have hf:∃ c0:Array Value,(Builtin.firstCells z 0 (.slice a2 m capx)).run P w= .ok #[] w:=by
     cases a2<;>exact ⟨#[],by simp [Builtin.firstCells,loadCells,loadCellsFrom]⟩
    obtain ⟨_,hf⟩:=hf
    have hrun:(Builtin.copy_ ts ty #[.slice a 0 cap, .slice a2 m capx]).run P w= .ok (.int .i64 0) w:=by
     have hmin:Nat.min m 0=0:=Nat.min_zero m
     cases a<;>simp [Builtin.copy_,hts,z0h hdd,Builtin.lenOf,z1m hsz,hmin,hf,storeCells,goInt]
    exact z0r.pure hr hrun (.d (.int _ _))
   |list _ _ _ _ _ _ _ hne=>exact absurd rfl hne
  ·cases hst
 ·cases hst
theorem x0q {T:TypeId} {ti:TI} (ht:z8m P T ti) (hr:z0c P ρ h w) {new:Nat} {d:AV} {vd:Value} (hd:z0t ρ (z0i ρ h) w d vd) {ts:Array TypeId} {ty:TypeId} (hts:ts[0]?=some T) {res:Res}
  (hst:z5c std ti h d=some res) (hc:res.c=true):z0r P ρ h w new (Builtin.clear_ ts ty #[vd]) res:=by
 have unit:∀ ρ O w,z0t ρ O w (.tuple []) (.tuple #[]):=fun _ _ _=> .tuple [] #[] rfl (fun i x hx=>by simp at hx)
 obtain ⟨dd,hdd,hda,hk⟩:=ht.desc
 unfold z5c at hst
 split at hst
 ·rename_i e z eb ea ez hdesc
  rw [hdesc] at hk
  obtain ⟨rfl,hsz,heb,_,hez,hezl⟩:=hk
  cases hz:(Nat.ble 1 z&&z6u (toA ez)) with
  |false=>rw [hz] at hst; cases hst
  |true=>
  rw [hz] at hst; simp only [cond_true] at hst
  simp only [Bool.and_eq_true] at hz
  have hzp:0<z:=Nat.le_of_ble_eq_true hz.1
  have hb3:=hz.2
  obtain ⟨i,zv,hi,hzv,hzl⟩:∃ i zv,P.info? e=some i∧i.zero=some zv∧y1l zv.cells.toList=some ez:=by
   unfold y36 at hez
   cases hi:P.info? e with
   |none=>simp [hi] at hez
   |some i=>
    rw [hi] at hez
    simp at hez
    cases hzq:i.zero with
    |none=>simp [hzq] at hez
    |some zv=>exact ⟨i,zv,rfl,hzq,by simpa [hzq] using hez⟩
  obtain ⟨hzs,hzr⟩:=z7r hzl
  have hzsize:zv.cells.size=z:=by rw [←hezl,hzs]; simp
  split at hst
  ·rename_i id z' off len cap
   cases hb:Nat.beq z z' with
   |false=>rw [hb] at hst; cases hst
   |true=>
   rw [hb] at hst; simp only [cond_true] at hst
   have hzz:=Nat.eq_of_beq_eq_true hb
   subst hzz
   split at hst
   ·rename_i es hob
    cases hst
    simp only at hc
    have h3:off+len≤es.length:=z2v hc
    have hlive:(z0j h id).live=true:=by rw [hob]; rfl
    cases hd with
    |nils _ _ _ _ a hcc=>
     have hrun:(Builtin.clear_ ts ty #[.slice a 0 0]).run P w= .ok (.tuple #[]) w:=by
      cases a<;>simp [Builtin.clear_,hts,z0h hdd]
     have hsame:(std.splice es off (std.rep 0 ez))=es:=by simp [std]
     rw [hsame]
     exact ⟨_,w,ρ,hrun,unit _ _ _,hr.ext0 hob,ext0 hob, .inl rfl⟩
    |slice _ _ _ _ _ L a cp hL hLz haa hcc hle=>
     obtain ⟨_,hobj⟩:=hr.obj id L hL
     have hE:(z0j h id).rows=some (z58 es):=by rw [hob]; rfl
     obtain ⟨_,cc,t,hcb,hl,hj⟩:=hobj.rows hE
     rw [hLz] at hl hj
     by_cases hm0:len=0
     ·subst hm0
      have hrun:(Builtin.clear_ ts ty #[.slice a 0 cp]).run P w= .ok (.tuple #[]) w:=by
       cases a<;>simp [Builtin.clear_,hts,z0h hdd]
      have hsame:(std.splice es off (std.rep 0 ez))=es:=by simp [std]
      rw [hsame]
      exact ⟨_,w,ρ,hrun,unit _ _ _,hr.ext0 hob,ext0 hob, .inl rfl⟩
     ·have hElast:L.base+es.length*z≤cc.size:=by
       have hlt:es.length - 1<(z58 es).length:=by rw [z03]; omega
       have hrl:=hl _ _ (List.getElem?_eq_getElem hlt)
       have hy:z - 1<((z58 es)[es.length - 1]).length:=by omega
       obtain ⟨v,hv,_,_⟩:=hj _ _ _ _ (List.getElem?_eq_getElem hlt) (List.getElem?_eq_getElem hy)
       have:=(Array.getElem?_eq_some_iff.1 hv).1
       have e:es.length*z=(es.length - 1)*z+z:=by
        rw [←Nat.succ_mul]; congr 1; omega
       omega
      have hmul2:(off+len)*z≤es.length*z:=Nat.mul_le_mul_right _ (by omega)
      have hmul3:(off+len)*z=off*z+len*z:=Nat.add_mul _ _ _
      rw [haa (by omega),hLz]
      have hcell:∀ k,k<len*z→(Builtin.zeroCells zv.cells len)[k]?=zv.cells[k % z]?:=by
       intro k hk
       have:k % z<zv.cells.size:=by rw [hzsize]; exact Nat.mod_lt _ hzp
       unfold Builtin.zeroCells
       rw [hzsize]
       simp [hk,getElem!_pos zv.cells (k % z) this]
      have hcx:(Builtin.zeroCells zv.cells len).toList.length=len*z:=by simp [Builtin.zeroCells,hzsize]
      have hxl:(z58 (std.rep len ez)).length=len:=by rw [z03]; simp [std]
      have hxr:z2t ρ (z0i ρ h) w z (z58 (std.rep len ez)) (Builtin.zeroCells zv.cells len).toList:=by
       refine ⟨by rw [hcx,hxl],fun i r hi=>?_,fun i r j y hi hy=>?_⟩
       ·rw [z30,List.getElem?_map] at hi
        simp [std,List.getElem?_replicate] at hi
        rw [←hi.2,z08]; exact hezl
       ·rw [z30,List.getElem?_map] at hi
        simp [std,List.getElem?_replicate] at hi
        obtain ⟨hi1,rfl⟩:=hi
        rw [z1y] at hy
        cases hey:ez[j]? with
        |none=>rw [hey] at hy; cases hy
        |some d0=>
        rw [hey] at hy; cases hy
        have hjz:j<z:=by rw [←hezl]; exact (List.getElem?_eq_some_iff.1 hey).1
        obtain ⟨v,hv,hrel⟩:=hzr (z0i ρ h) w j d0 hey
        have hlt:i*z+j<len*z:=by
         have:(i+1)*z≤len*z:=Nat.mul_le_mul_right _ (by omega)
         rw [Nat.add_mul] at this; omega
        have hmod:(i*z+j) % z=j:=by rw [Nat.add_comm,Nat.add_mul_mod_self_right]; exact Nat.mod_eq_of_lt hjz
        refine ⟨v,?_,?_, .d hrel⟩
        ·rw [Array.getElem?_toList,hcell _ hlt,hmod]; simpa using hv
        ·have:w3t (.d d0)=true:=z7o hb3 (by rw [z1y,hey]; rfl)
         exact y1c (ρ:=ρ) this (.d hrel)
      generalize hcxs:(Builtin.zeroCells zv.cells len).toList=cxs at hcx hxr
      have hrun:(Builtin.clear_ ts ty #[.slice (some ⟨L.blk,L.base+off*z,none⟩) len cp]).run P w= .ok (.tuple #[]) (World.setObj w L.blk (.cells (cc.toList.take (L.base+off*z)++cxs++cc.toList.drop (L.base+off*z+cxs.length)).toArray t (0,0))):=by
       have hst:=run_storeCells_at (P:=P) L.blk (L.base+off*z) t cxs 0 cc w hcb (by simp; omega) (z9m hzp hxr)
       rw [z6v hcb] at hst
       simp only [Nat.add_zero] at hst
       simp [Builtin.clear_,hts,z0h hdd,hm0,zeroValue,typeInfo,hi,hzv,hcxs,hst]
      have hbs:∀ k,z1v w L.blk=some k→z1v (World.setObj w L.blk (.cells (cc.toList.take (L.base+off*z)++cxs++cc.toList.drop (L.base+off*z+cxs.length)).toArray t (0,0))) L.blk=some k:=by
       intro k hk
       rw [z05 hcb] at hk; cases hk
       rw [z05 (z0z _ _ _ (Array.getElem?_eq_some_iff.1 hcb).1)]
       congr 1
       simp; omega
      have hkp:=z2a hr hL hlive (.row (std.splice es off (std.rep len ez))) rfl _ hbs
      obtain ⟨r1,r2⟩:=y0g (w:=w) hzp (base:=L.base) (c:=cc) (i:=off) hl hj hxr (by show off+(z58 (std.rep len ez)).length≤(z58 es).length; rw [hxl,z03]; omega) (by omega)
      have hrow':(AO.row (std.splice es off (std.rep len ez))).rows=some (z4d (z58 es) off (z58 (std.rep len ez))):=by
       show some (z58 _)=_; rw [←y4f]; rfl
      refine ⟨_,_,ρ,hrun,unit _ _ _,hr.set hL hlive _ rfl _ hbs ?_,Ext.set _ hr hL hlive _ rfl _ hbs, .inl rfl⟩
      refine z17.of_rows hrow' (by omega) _ t (z0z _ _ _ (Array.getElem?_eq_some_iff.1 hcb).1) (by rw [hLz]; exact r1) (fun i r j y hi hy=>?_)
      rw [hLz]
      obtain ⟨v,hv,hv1,hvr⟩:=r2 i r j y hi hy
      exact ⟨v,hv,hv1,hvr.keep hkp (fun _ _ h=>h)⟩
   ·cases hst
  ·rename_i full z'
   cases x3o hst
   cases hd with|d hd=>
   cases hd with
   |lnil _ _ a cap hcap=>
    have hrun:(Builtin.clear_ ts ty #[.slice a 0 cap]).run P w= .ok (.tuple #[]) w:=by
     cases a<;>simp [Builtin.clear_,hts,z0h hdd]
    exact z0r.pure hr hrun (unit _ _ _)
   |list _ _ _ _ _ _ _ hne=>exact absurd rfl hne
  ·cases hst
 ·cases hst
end
end Go.Am
end
section
namespace Go.Am
section
variable {P:Program} {ρ:Rho} {h:List AO} {w:World}
theorem w4z {c:Array Value} {t:TypeId} {b k:Nat} {v:Value} (hb:w.heap[b]?=some (.cells c t (0,0))) (hv:c[k]?=some v):w.cell? ⟨b,k,none⟩=some v:=by
 simp [World.cell?,hb,hv]
theorem w2f {id z off len:Nat} {cap:Option Nat} {es:List (List D)} {v:Value} (hr:z0c P ρ h w) (hv:z0t ρ (z0i ρ h) w (.slice id z off len cap) v) (hes:z0j h id= .row es) (hc:off+len≤es.length):
  z0t ρ (z0i ρ (z1i h id .dead)) w (.d (.list false z (std.cut es off len))) v:=by
 have hx:=Ext.kill (fun _=>True) ρ h w id
 have hk:=hx.keep
 have hcut:std.cut es off len=(es.drop off).take len:=rfl
 rw [hcut]
 cases hv with
 |nils _ _ _ _ a hc=>rw [List.take_zero]; exact .d (.lnil _ _ _ _ (by simp))
 |slice _ _ _ _ _ L a c hL hz ha hcc hl=>
  obtain ⟨hblk,hob⟩:=hr.obj id L hL
  rw [hes] at hob
  obtain ⟨hz0,cs,t,hcs,hrows,hcell⟩:=hob
  refine .d ?_
  rcases Nat.eq_zero_or_pos len with h0|hpos
  ·subst h0
   rw [List.take_zero]; exact .lnil _ _ _ _ (by simp)
  have hll:((es.drop off).take len).length=len:=by simp; omega
  have hnth:∀ i r,((es.drop off).take len)[i]?=some r→i<len∧es[off+i]?=some r:=by
   intro i r hi
   have hlt:i<len:=by rw [←hll]; exact (List.getElem?_eq_some_iff.1 hi).1
   refine ⟨hlt,?_⟩
   rw [List.getElem?_take_of_lt hlt,List.getElem?_drop] at hi
   exact hi
  have hex:∀ k,k<len*z→∃ u,cs[L.base+off*z+k]?=some u∧u.oneCell'=true∧∀ d,(∃ r,((es.drop off).take len)[k / z]?=some r∧r[k % z]?=some d)→z12 (z0i ρ (z1i h id .dead)) w d u:=by
   intro k hkz
   subst hz
   have hi:k / L.esz<len:=(Nat.div_lt_iff_lt_mul hz0).2 hkz
   have hlt:k / L.esz<((es.drop off).take len).length:=by rw [hll]; exact hi
   have he:=(hnth (k / L.esz) _ (List.getElem?_eq_getElem hlt)).2
   generalize ((es.drop off).take len)[k / L.esz]=r at he
   have hrl:=hrows _ r he
   have hj:k % L.esz<r.length:=by rw [hrl]; exact Nat.mod_lt _ hz0
   obtain ⟨u,hu,h1,hd⟩:=hcell _ r _ r[k % L.esz] he (List.getElem?_eq_getElem hj)
   have hix:L.base+(off+k / L.esz)*L.esz+k % L.esz=L.base+off*L.esz+k:=by
    have:=Nat.div_add_mod k L.esz
    rw [Nat.add_mul,Nat.mul_comm (k / L.esz)]; omega
   rw [hix] at hu
   refine ⟨u,hu,h1,fun d hd'=>?_⟩
   obtain ⟨r',hr',hdr⟩:=hd'
   have:=(hnth _ _ hr').2
   rw [he] at this; cases this
   rw [List.getElem?_eq_getElem hj] at hdr; cases hdr
   exact hd.keep hk
  have ha':a=some ⟨L.blk,L.base+off*L.esz,none⟩:=ha (by omega)
  subst hz
  subst ha'
  have hown:¬ z0i ρ (z1i h id .dead) L.blk:=by
   rintro (hf|⟨id',L',h2,hl',he⟩)
   ·exact hr.sep id L hL (by rw [hes]; rfl) hf
   ·have hne:id≠id':=by rintro rfl; rw [z0m] at hl'; cases hl'
    rw [z0g _ _ _ _ hne] at hl'
    exact hne (hr.inj id' id L' L h2 hL hl' (by rw [hes]; rfl) he).symm
  have key:=z12.list (O:=z0i ρ (z1i h id .dead)) (w:=w) false ((es.drop off).take len) L.blk (L.base+off*L.esz) L.esz c hz0
   (by intro e; rw [e] at hll; simp at hll; omega) hown (by rw [hll]; exact hl) (by simp) (fun i r hi=>hrows _ r (hnth i r hi).2)
   (fun k=>(cs[L.base+off*L.esz+k]?).getD undef) (fun k hkk=>?_) (fun k hkk=>?_) (fun i r j d hi hj=>?_)
  ·rw [hll] at key; exact key
  ·rw [hll] at hkk
   obtain ⟨u,hu,h1,_⟩:=hex k hkk
   rw [hu]; exact h1
  ·rw [hll] at hkk
   obtain ⟨u,hu,h1,_⟩:=hex k hkk
   rw [hu]; exact w4z hcs hu
  ·have hjl:j<L.esz:=by rw [←hrows _ r (hnth i r hi).2]; exact (List.getElem?_eq_some_iff.1 hj).1
   have hil:=(hnth i r hi).1
   have hkk:i*L.esz+j<len*L.esz:=by
    have:(i+1)*L.esz≤len*L.esz:=Nat.mul_le_mul_right _ (by omega)
    rw [Nat.add_mul,Nat.one_mul] at this; omega
   obtain ⟨u,hu,_,hd⟩:=hex _ hkk
   rw [hu]
   refine hd d ⟨r,?_,?_⟩
   ·rw [show (i*L.esz+j) / L.esz=i by rw [Nat.mul_comm,Nat.mul_add_div hz0,Nat.div_eq_of_lt hjl,Nat.add_zero]]; exact hi
   ·rw [show (i*L.esz+j) % L.esz=j by rw [Nat.mul_comm,Nat.mul_add_mod,Nat.mod_eq_of_lt hjl]]; exact hj
theorem x5x {id:Nat} {o:AO}:∀ (u:List (Nat×AO)) (h:List AO) (a:Option AO),(∀ x,a=some x→z0j h id=x)→x33 u id a=some o→z0j (z1q h u) id=o
 |[],h,a,ha,hf=>ha o hf
 |(i,x)::r,h,a,ha,hf=>by
  simp only [x33] at hf
  simp only [z1q]
  refine x5x r (z1i h i x) _ (fun y hy=>?_) hf
  cases hb:Nat.beq i id with
  |true=>
   rw [hb] at hy
   cases hy
   have:=Nat.eq_of_beq_eq_true hb
   subst this
   exact z0m _ _ _
  |false=>
   rw [hb] at hy
   have hne:i≠id:=by rintro rfl; rw [Nat.beq_refl] at hb; cases hb
   rw [z0g _ _ _ _ hne]
   exact ha y hy
theorem x1r {id:Nat} {o:AO}:∀ (u:List (Nat×AO)) (a:Option AO),x33 u id a=some o→a=some o∨∃ o',(id,o')∈u
 |[],a,hf=> .inl hf
 |(i,x)::r,a,hf=>by
  simp only [x33] at hf
  rcases x1r r _ hf with h|⟨o',h⟩
  ·cases hb:Nat.beq i id with
   |true=>
    have:=Nat.eq_of_beq_eq_true hb
    subst this
    exact .inr ⟨x,List.mem_cons_self ..⟩
   |false=>rw [hb] at h; exact .inl h
  ·exact .inr ⟨o',List.mem_cons_of_mem _ h⟩
theorem z8i (x:Nat×AO):∀ (u:List (Nat×AO)) (h:List AO),z1q h (u++[x])=z1i (z1q h u) x.1 x.2
 |[],h=>rfl
 |y::u,h=>z8i x u _
theorem x6x {v:AV} {id z off len:Nat} (h:x3d v=some (id,z,off,len)):∃ cap,v= .slice id z off len cap:=by
 cases v<;>cases h; exact ⟨_,rfl⟩
theorem x07 {o:AO} {es:List (List D)} (h:x08 o=some es):o= .row es:=by
 cases o<;>cases h; rfl
theorem z82 (r:List D) (res:Res):y25 std r res=res∨∃ id z off len cap es o',res.v= .slice id z off len cap∧(∀ h,z0j (z1q h res.u) id= .row es)∧(id,o')∈res.u∧
  y25 std r res=⟨std.and res.c (std.leN (std.add off len) (std.len es)), .d (.list false z (std.cut es off len)),res.u++[(id, .dead)]⟩:=by
 unfold y25
 cases two r with
 |false=>exact .inl rfl
 |true=>
  simp only [cond_true]
  cases h1:x3d res.v with
  |none=>exact .inl rfl
  |some x=>
   obtain ⟨id,z,off,len⟩:=x
   simp only
   cases h2:x33 res.u id none with
   |none=>exact .inl rfl
   |some o=>
    simp only
    cases h3:x08 o with
    |none=>exact .inl rfl
    |some es=>
     obtain ⟨cap,hv⟩:=x6x h1
     have ho:=x07 h3
     subst ho
     rcases x1r _ _ h2 with h|⟨o',hm⟩
     ·cases h
     exact .inr ⟨id,z,off,len,cap,es,o',hv,fun h=>x5x _ h none (fun x hx=>by cases hx) h2,hm,rfl⟩
theorem x5u {r:List D} {res:Res} (h:(y25 std r res).c=true):res.c=true:=by
 rcases z82 r res with e|⟨id,z,off,len,cap,es,o',_,_,_,e⟩
 ·rw [e] at h; exact h
 ·rw [e] at h
  have h:(res.c&&std.leN (std.add off len) (std.len es))=true:=h
  rw [Bool.and_eq_true] at h; exact h.1
theorem x1l {r:List D} {res:Res} {new:Nat} {s:Sem Value} (hr:z0r P ρ h w new s res) (hc:(y25 std r res).c=true):z0r P ρ h w new s (y25 std r res):=by
 rcases z82 r res with e|⟨id,z,off,len,cap,es,o',hv,hes,hm,e⟩
 ·rw [e]; exact hr
 ·rw [e] at hc⊢
  have hc:(res.c&&std.leN (std.add off len) (std.len es))=true:=hc
  rw [Bool.and_eq_true] at hc
  have hle:off+len≤es.length:=Nat.le_of_ble_eq_true hc.2
  obtain ⟨v,w',ρ',a1,a2,a3,a4,a5⟩:=hr
  rw [hv] at a2
  have key:=w2f a3 a2 (hes h) hle
  refine ⟨v,w',ρ',a1,?_,?_,?_,?_⟩
  ·show z0t ρ' (z0i ρ' (z1q h (res.u++[(id, .dead)]))) w' _ v
   rw [z8i]; exact key
  ·show z0c P ρ' (z1q h (res.u++[(id, .dead)])) w'
   rw [z8i]; exact a3.kill id
  ·show Ext _ ρ h w ρ' (z1q h (res.u++[(id, .dead)])) w'
   rw [z8i]; exact a4.trans (Ext.kill _ ρ' _ w' id)
  ·rcases a5 with h5|⟨o,h5⟩
   ·exact .inl h5
   ·exact .inr ⟨o,List.mem_append_left _ h5⟩
theorem x02 {v:AV} {id z off len c:Nat} (h:x4s v=some (id,z,off,len,c)):v= .slice id z off len (some c):=by
 cases v with
 |slice id z off len cap=>cases cap<;>cases h; rfl
 |_=>cases h
theorem w83 {e:Els} {ys:List (List D)} (h:u0l e=some ys):e= .d ys:=by
 cases e<;>cases h; rfl
theorem y4i {ti:TI} {s x:AV} {res:Res} (hs:y3d std ti h s x=some res):∃ e z eb ea ez id z0 off len c cx cs es0 es ys,ti.desc= .slc e z eb ea ez∧(Nat.ble 1 z&&Nat.ble eb 60000)=true∧s= .slice id z0 off len (some c)∧z37 std z h x=some (cx, .d ys)∧z37 std z h s=some (cs,es0)∧z0j h id= .row es∧
  res=⟨std.and cx (std.and cs (std.leN (std.add off c) (std.len es))), .slice id z off (std.add len (z7u std x)) (some c),[(id, .row (std.splice es (std.add off len) ys))]⟩:=by
 unfold y3d at hs
 cases hd:ti.desc with
 |slc e z eb ea ez=>
  rw [hd] at hs
  simp only at hs
  cases hb:(Nat.ble 1 z&&Nat.ble eb 60000) with
  |false=>rw [hb] at hs; cases hs
  |true=>
   rw [hb] at hs
   simp only [cond_true] at hs
   cases h1:x4s s with
   |none=>rw [h1] at hs; cases hs
   |some y=>
    obtain ⟨id,z0,off,len,c⟩:=y
    rw [h1] at hs
    simp only at hs
    cases h2:z37 std z h x with
    |none=>rw [h2] at hs; cases hs
    |some y=>
     obtain ⟨cx,xs⟩:=y
     rw [h2] at hs
     simp only at hs
     cases h3:z37 std z h s with
     |none=>rw [h3] at hs; cases hs
     |some y=>
      obtain ⟨cs,es0⟩:=y
      rw [h3] at hs
      simp only at hs
      cases h4:x08 (z0j h id) with
      |none=>rw [h4] at hs; cases hs
      |some es=>
       rw [h4] at hs
       simp only at hs
       cases h5:u0l xs with
       |none=>rw [h5] at hs; cases hs
       |some ys=>
        rw [h5] at hs
        cases hs
        have:=w83 h5
        subst this
        exact ⟨e,z,eb,ea,ez,id,z0,off,len,c,cx,cs,es0,es,ys,rfl,hb,x02 h1,h2,h3,x07 h4,rfl⟩
 |_=>rw [hd] at hs; cases hs
theorem y4y {S T2:TypeId} {e:TypeId} (hS:P.underlying S=some (.slice e)) {d2:TypeDesc} (h2:P.underlying T2=some d2) (hd2:∀ k,d2≠ .int k) {z:Nat} (hz:z8q P e=some z)
  (ty:TypeId) {a a2:Option Addr} {n cap cap2:Nat} (hx:(Builtin.firstCells z 0 (.slice a2 0 cap2)).run P w= .ok #[] w) (hm:n≤cap):
  (Builtin.append_ #[S,T2] ty #[.slice a n cap, .slice a2 0 cap2]).run P w= .ok (.slice a n cap) w:=by
 have hmatch:(match d2 with| .int _=>true|_=>false)=false:=by
  cases d2<;>first|rfl|exact absurd rfl (hd2 _)
 unfold Builtin.append_
 cases a with
 |none=>
  simp only [List.getElem?_toArray,List.getElem?_cons_zero,List.getElem?_cons_succ,Sem.run_bind,z0h hS,Result.andThen_ok,z1m hz,z0h h2,Sem.run_pure,hmatch,Builtin.lenOf,Bool.false_eq_true,if_false,Sem.run_ite,hm,Nat.add_zero,if_true,
   Bool.not_false,hx]
 |some a=>
  simp only [List.getElem?_toArray,List.getElem?_cons_zero,List.getElem?_cons_succ,Sem.run_bind,z0h hS,Result.andThen_ok,z1m hz,z0h h2,Sem.run_pure,hmatch,Builtin.lenOf,Bool.false_eq_true,if_false,Sem.run_ite,hm,Nat.add_zero,if_true,
   Bool.not_false,hx]
  rfl
theorem w2r {S T2:TypeId} {ti ti2:TI} (ht:z8m P S ti) (ht2:z8m P T2 ti2) (hd2':∃ e z b a zs,ti2.desc= .slc e z b a zs) (hr:z0c P ρ h w) {new:Nat} (hn:ρ new=none) {q:Bool} {s x:AV} {vs vx:Value}
  (hs:z0t ρ (z0i ρ h) w s vs) (hx:z0t ρ (z0i ρ h) w x vx) {ty:TypeId} {res:Res} (hq:∀ b,z4n std s x=some b→b=q) (hqt:q=true) (r:List D) (he:y3d std ti h s x=some res) (hc:res.c=true):
  z0r P ρ h w new (Builtin.append_ #[S,T2] ty #[vs,vx]) res:=by
 obtain ⟨e,z,eb,ea,ez,id,z0,off,len,c,cx,cs,es0,es,ys,hdesc,hb,rfl,hxs,hes,hrow,rfl⟩:=y4i he
 have hc0:=hc
 simp only at hc
 obtain ⟨h1,hc⟩:=and_true hc
 obtain ⟨h2,h3⟩:=and_true hc
 rcases Nat.eq_zero_or_pos (z7u std x) with h0|hpos
 ·obtain ⟨d,hd,hda,hk⟩:=ht.desc
  obtain ⟨d2,hdd2,_,hk2⟩:=ht2.desc
  obtain ⟨e2,z2,b2,a2,zs2,hdesc2⟩:=hd2'
  rw [hdesc2] at hk2
  obtain ⟨rfl,_⟩:=hk2
  have hint:∀ k,TypeDesc.slice e2≠ .int k:=by intro k; simp
  rw [hdesc] at hk
  obtain ⟨rfl,hz,heb,_,hez,hezl⟩:=hk
  simp only [Bool.and_eq_true] at hb
  have hzp:0<z:=Nat.le_of_ble_eq_true hb.1
  obtain ⟨ax,m,capx,cxs,rfl,hm,hmc,hxl,hxr,hxf⟩:=y1k (P:=P) hr hzp hx hxs h1
  rw [h0] at hm
  subst hm
  have hys:ys=[]:=by
   cases ys with
   |nil=>rfl
   |cons a b=>simp [Els.toA,z58] at hxl
  subst hys
  have hcx:cxs=[]:=by
   have:=hxr.1
   rw [hxl] at this
   simpa using this
  subst hcx
  have hsp:std.splice es (std.add off len) []=es:=by
   show es.take (off+len)++[]++es.drop (off+len+([]:List (List D)).length)=es
   simp
  obtain ⟨rfl,E,hE,hoff,hels⟩:=y0p hes h2
  have hgo:∃ a n cap,vs= .slice a n cap∧n≤cap:=by
   cases hs with
   |nils _ _ _ _ a hcc=>exact ⟨_,_,_,rfl,Nat.zero_le _⟩
   |slice _ _ _ _ _ L a cap hL hLz haa hcc hle=>exact ⟨_,_,_,rfl,hle⟩
  obtain ⟨a,n,cap,rfl,hle⟩:=hgo
  have hrun:=y4y (P:=P) (w:=w) hd hdd2 hint hz ty (a:=a) (hxf w rfl) hle
  refine ⟨_,w,ρ,hrun,?_,?_,?_, .inl rfl⟩
  ·show z0t ρ (z0i ρ (z1i h id (.row (std.splice es (std.add off len) [])))) w (.slice id z off (len+z7u std x) (some c)) _
   rw [hsp,y46 hrow,h0]
   exact hs
  ·show z0c P ρ (z1i h id (.row (std.splice es (std.add off len) []))) w
   rw [hsp]; exact hr.ext0 hrow
  ·show Ext _ ρ h w ρ (z1i h id (.row (std.splice es (std.add off len) []))) w
   rw [hsp]; exact Go.Am.ext0 hrow
 ·have hst:z2g std ti h new q r (.slice id z0 off len (some c)) x=some ⟨std.and cx (std.and cs (std.and (std.leN 1 (z7u std x)) (std.leN (std.add off c) (v2x std (z0j h id))))), .slice id z off (std.add len (z7u std x)) (some c),[(id, .row (std.splice es (std.add off len) ys))]⟩:=by
   unfold z2g
   rw [hdesc]
   simp only [hb,cond_true,hxs,hes,hqt,hrow,x40]
  have hcc:(std.and cx (std.and cs (std.and (std.leN 1 (z7u std x)) (std.leN (std.add off c) (v2x std (z0j h id))))))=true:=by
   rw [hrow,h1,h2]
   show (true&&(true&&(std.leN 1 (z7u std x)&&std.leN (std.add off c) (std.len es))))=true
   rw [h3]
   have:std.leN 1 (z7u std x)=true:=Nat.ble_eq_true_of_le hpos
   rw [this]; rfl
  have key:=y00 ht ht2 hd2' hr hn hs hx hq (ty:=ty) hst hcc
  exact key
theorem z8k {ti:TI} {new:Nat} {q:Bool} {r:List D} {s x:AV} {res:Res} (hs:z3g std ti h new q r s x=some res):
  ∃ res0,((q=true∧y3d std ti h s x=some res0)∨z2g std ti h new q r s x=some res0)∧res=y25 std r res0:=by
 unfold z3g at hs
 have hz:∀ y,(bif zer r&&q then y3d std ti h s x else none)=some y→q=true∧y3d std ti h s x=some y:=by
  intro y hy
  cases hb:(zer r&&q) with
  |false=>rw [hb] at hy; cases hy
  |true=>
   rw [hb] at hy
   rw [Bool.and_eq_true] at hb
   exact ⟨hb.2,hy⟩
 cases h1:(bif zer r&&q then y3d std ti h s x else none) with
 |some res0=>
  rw [h1] at hs
  cases hs
  exact ⟨res0, .inl (hz _ h1),rfl⟩
 |none=>
  rw [h1] at hs
  simp only at hs
  cases h0:z2g std ti h new q r s x with
  |none=>rw [h0] at hs; cases hs
  |some res0=>rw [h0] at hs; cases hs; exact ⟨res0, .inr rfl,rfl⟩
theorem y6g {S T2:TypeId} {ti ti2:TI} (ht:z8m P S ti) (ht2:z8m P T2 ti2) (hd2':∃ e z b a zs,ti2.desc= .slc e z b a zs) (hr:z0c P ρ h w) {new:Nat} (hn:ρ new=none) {q:Bool} {s x:AV} {vs vx:Value}
  (hs:z0t ρ (z0i ρ h) w s vs) (hx:z0t ρ (z0i ρ h) w x vx) {ty:TypeId} {res:Res} (hq:∀ b,z4n std s x=some b→b=q) {r:List D} (he:z3g std ti h new q r s x=some res) (hc:res.c=true):
  z0r P ρ h w new (Builtin.append_ #[S,T2] ty #[vs,vx]) res:=by
 obtain ⟨res0,h0,rfl⟩:=z8k he
 rcases h0 with ⟨hqt,h0⟩|h0
 ·exact x1l (w2r ht ht2 hd2' hr hn hs hx hq hqt r h0 (x5u hc)) hc
 ·exact x1l (y00 ht ht2 hd2' hr hn hs hx hq h0 (x5u hc)) hc
end
end Go.Am
end
section
namespace Go.Am
section
variable {P:Program} {T:TypeId→Option TI} {ρ:Rho} {h:List AO} {w:World}
def z6w (ρ:Rho) (O:Nat→Prop) (w:World) (env:List (Nat×AV)) (tm:Array Value):Prop:=∀ t,z0t ρ O w (z2f env t) (tm.getD t undef)
def opv (tm:Array Value):Operand→Value
 | .tmp t=>tm.getD t undef
 | .const v=>v
 | .global g=> .pointer (some ⟨g,0,none⟩)
 | .func f=> .func (.func f) #[] #[]
theorem z0n {O:Nat→Prop} {env:List (Nat×AV)} {tm:Array Value} (he:z6w ρ O w env tm) (x:Operand):z0t ρ O w (z0x env x) (opv tm x):=by
 cases x with
 |tmp t=>exact he t
 |const v=>
  simp only [z0x]
  split
  ·exact .d (x58 ‹_› O w)
  ·exact .bot _
 |global g=>exact .bot _
 |func f=>exact .clo _ _ _ #[] #[] rfl rfl (by simp) (by simp)
theorem z7q {O:Nat→Prop} {env:List (Nat×AV)} {tm:Array Value} (he:z6w ρ O w env tm) (l:Array Operand):
  (l.map (opv tm)).size=(z1x env l.toList).length∧∀ (i:Nat) (x:AV),(z1x env l.toList)[i]?=some x→z0t ρ O w x ((l.map (opv tm)).getD i undef):=by
 rw [z20]
 refine ⟨by simp,fun i x hx=>?_⟩
 have hi:i<l.size:=by simpa using (List.getElem?_eq_some_iff.1 hx).1
 simp [hi] at hx
 subst hx
 have:(l.map (opv tm)).getD i undef=opv tm l[i]:=by simp [Array.getD_eq_getD_getElem?,hi]
 rw [this]
 exact z0n he _
theorem y86 (env:List (Nat×AV)) (l:List (Nat×Operand)):y2o env l=l.map fun x=>(x.1,z0x env x.2):=by
 induction l with
 |nil=>rfl
 |cons x l ih=>obtain ⟨i,x⟩:=x; simp [y2o,ih]
theorem x1x {O:Nat→Prop} {env:List (Nat×AV)} {tm:Array Value} (he:z6w ρ O w env tm) (l:Array (Nat×Operand)):y34 ρ O w (y2o env l.toList) (l.map fun x=>(x.1,opv tm x.2)).toList:=by
 rw [y86]
 refine ⟨by simp,fun k x y hx hy=>?_⟩
 have hk:k<l.size:=by simpa using (List.getElem?_eq_some_iff.1 hx).1
 simp [hk] at hx hy
 subst hx; subst hy
 exact ⟨rfl,z0n he _⟩
theorem y5n {O:Nat→Prop} {env:List (Nat×AV)} {tm:Array Value} (he:z6w ρ O w env tm) (x:Option Operand):y3c ρ O w (z8n env x) (x.map (opv tm)):=by
 cases x with
 |none=>trivial
 |some x=>exact z0n he x
def y1w (P:Program) (ρ:Rho) (h:List AO) (w:World) (new:Nat) (s:Sem Next) (r:Res):Prop:=
 ∃ v w' ρ',(s.run P w= .ok (.value v) w'∨(s.run P w= .ok .skip w'∧v=undef))∧z0t ρ' (z0i ρ' (z1q h r.u)) w' r.v v∧z0c P ρ' (z1q h r.u) w'∧
  Ext (fun id=>id≠new) ρ h w ρ' (z1q h r.u) w'∧(ρ'=ρ∨∃ o,(new,o)∈r.u)
theorem z0r.value {new:Nat} {s:Sem Value} {r:Res} (h1:z0r P ρ h w new s r):y1w P ρ h w new (do Pure.pure (Next.value (←s))) r:=by
 obtain ⟨v,w',ρ',hs,h2⟩:=h1
 exact ⟨v,w',ρ', .inl (by simp [hs]),h2⟩
theorem z0r.skip {new:Nat} {s:Sem Unit} {r:Res} (h1:z0r P ρ h w new (z4t s) r):y1w P ρ h w new (do s; Pure.pure Next.skip) r:=by
 obtain ⟨v,w',ρ',hs,h2⟩:=h1
 unfold z4t at hs
 simp only [Sem.run_bind] at hs
 cases hr:s.run P w with
 |ok u w1=>
  rw [hr] at hs; simp at hs
  obtain ⟨rfl,rfl⟩:=hs
  exact ⟨_,_,ρ', .inr ⟨by simp [hr],rfl⟩,h2⟩
 |halt x w1=>rw [hr] at hs; simp at hs
theorem x66 {v:AV} {r:Res} (h:ok v=some r):r=⟨true,v,[]⟩:=by unfold ok at h; cases h; rfl
theorem x3l (i:Operand):pOf std i=std:=by cases i<;>rfl
theorem y4b {O:Nat→Prop} {x:AV} {v:Value} (h:z0t ρ O w x v):z0t ρ O w (x0b x) v:=by
 unfold x0b
 split
 ·cases h with
  |d h=>cases h with
   |ref r b o hne hO cell hc hh=>
    have:=z0t.lptr (ρ:=ρ) (O:=O) (w:=w) _ 0 b o (y9l (hc 0 (List.length_pos_iff.2 hne))) hO cell hc hh
    exact this
 ·exact h
theorem w35 {ti:TI} {O:Nat→Prop} {x:AV} {v:Value} (h:z0t ρ O w x v):z0t ρ O w (w36 ti x) v:=by
 unfold w36
 split
 ·rename_i f z es
  split
  ·cases hb:Nat.beq z 0 with
   |false=>exact h
   |true=>
    simp only [cond_true]
    split
    ·cases h with
     |d h=>cases h with
      |lnil _ _ a c hf=>exact .d (.lnil _ _ a c hf)
      |list _ _ _ _ _ _ _ hne=>exact absurd rfl hne
    ·exact h
  ·exact h
 ·exact h
theorem y76 {ti:TI} (a:AV):z4a h (w36 ti a)=z4a h a:=by
 cases a with
 |d x=>
  cases x with
  |list f z es=>
   simp only [w36]
   cases hd:ti.desc with
   |slc e z' eb ea ez=>
    simp only []
    cases Nat.beq z 0<;>cases es<;>rfl
   |_=>rfl
  |_=>rfl
 |_=>rfl
theorem x4q (hT : y1v P T) (hr : z0c P ρ h w) {new : Nat} (hn : ρ new = none) {env : List (Nat × AV)} {tm : Array Value} (he : z6w ρ (z0i ρ h) w env tm) {q : Bool} {r : List D} {ra : List AV} {o : Oper} {res : Res}
    (hw : (z2e std T env h o.op).ok q r ra) (hs : z1u std T env h new q r ra o.op = some res) (hc : res.c = true) : y1w P ρ h w new (execOp (opv tm) o) res := by
  have rows : ∀ n a, (z8o h n a).ok q r ra → x2l h a r ra := by
    intro n a ha
    cases a <;> try trivial
    · rename_i id off
      simp only [z8o] at ha
      simp only [x2l]
      intro es he
      rw [he] at ha; exact ha
    · rename_i id i off
      simp only [z8o] at ha
      simp only [x2l]
      refine ⟨fun es he => ?_, fun es he => ?_⟩
      · rw [he] at ha; exact ha
      · rw [he] at ha; exact ha
  unfold z1u at hs
  cases hop : o.op with
  | move x =>
    rw [hop] at hs; cases x66 hs
    exact ⟨_, w, ρ, .inl (by simp [execOp, hop]), z0n he x, hr, Ext.refl _ _ _ _, .inl rfl⟩
  | assign x =>
    rw [hop] at hs; cases x66 hs
    exact ⟨_, w, ρ, .inl (by simp [execOp, hop]), z0n he x, hr, Ext.refl _ _ _ _, .inl rfl⟩
  | pick c a b =>
    rw [hop] at hs; simp only at hs
    have h1 := z0n he c
    unfold y8a at hs
    split at hs
    · rename_i hcv; rw [hcv] at h1; cases x66 hs
      generalize hv : opv tm c = v at h1
      cases h1 with | d h1 =>
      cases h1
      exact ⟨_, w, ρ, .inl (by simp [execOp, hop, hv, asBool]), z0n he a, hr, Ext.refl _ _ _ _, .inl rfl⟩
    · rename_i hcv; rw [hcv] at h1; cases x66 hs
      generalize hv : opv tm c = v at h1
      cases h1 with | d h1 =>
      cases h1
      exact ⟨_, w, ρ, .inl (by simp [execOp, hop, hv, asBool]), z0n he b, hr, Ext.refl _ _ _ _, .inl rfl⟩
    · cases hs
  | alloc t =>
    rw [hop] at hs; simp only at hs
    split at hs
    · have := (x0t (hT _ _ ‹_›) hr hn hs).value
      simpa [execOp, hop] using this
    · cases hs
  | box t x =>
    rw [hop] at hs; simp only at hs
    split at hs
    · have := (x6q (hT _ _ ‹_›) hr hn (z0n he x) hs).value
      simpa [execOp, hop] using this
    · cases hs
  | build t ps =>
    rw [hop] at hs; simp only at hs
    split at hs
    · have := (x0r (new := new) (hT _ _ ‹_›) hr (x1x he ps) hs).value
      simpa [execOp, hop] using this
    · cases hs
  | buildSlice t len ps =>
    rw [hop] at hs; simp only at hs
    split at hs
    · have := (y14 (hT _ _ ‹_›) hr hn (x1x he ps) hs).value
      simpa [execOp, hop] using this
    · cases hs
  | load t a =>
    rw [hop] at hs hw; simp only [z2e] at hs hw
    split at hs
    · have := (x24 (hT _ _ ‹_›) hr (y4b (z0n he a)) (rows _ _ hw) hs new).value
      simpa [execOp, hop] using this
    · cases hs
  | store t a x =>
    rw [hop] at hs hw; simp only [z2e] at hs hw
    split at hs
    · have := (x0m (hT _ _ ‹_›) std rfl hr (z0n he a) (z0n he x) (rows _ _ hw) hs hc new).skip
      simpa [execOp, hop] using this
    · cases hs
  | nilCheck x =>
    rw [hop] at hs; simp only at hs
    have h1 := y4b (z0n he x)
    unfold x23 at hs
    split at hs <;> (try (cases hs; done)) <;> rename_i hx <;> rw [hx] at h1 <;> cases x66 hs <;> generalize hv : opv tm x = v at h1
    · have h2 := h1
      cases h1 with | bptr _ _ L hL => exact ⟨_, w, ρ, .inl (by simp [execOp, hop, hv]), h2, hr, Ext.refl _ _ _ _, .inl rfl⟩
    · have h2 := h1
      cases h1 with | ptr _ _ _ L hL => exact ⟨_, w, ρ, .inl (by simp [execOp, hop, hv]), h2, hr, Ext.refl _ _ _ _, .inl rfl⟩
    · have h2 := h1
      cases h1 with | wptr _ _ b o z hlt hO hz hcc => exact ⟨_, w, ρ, .inl (by simp [execOp, hop, hv]), h2, hr, Ext.refl _ _ _ _, .inl rfl⟩
    · have h2 := h1
      cases h1 with | lptr _ _ b o hlt hO cell hcc hrr => exact ⟨_, w, ρ, .inl (by simp [execOp, hop, hv]), h2, hr, Ext.refl _ _ _ _, .inl rfl⟩
  | binOp op t x y t2 =>
    rw [hop] at hs; simp only at hs
    split at hs
    · cases hn : v1w y with
      | true =>
        rw [hn] at hs
        have hy := w7q hn
        have := (y8b (new := new) (hT _ _ ‹_›) hr x y (z0n he x) hs hc).value
        have hyv : opv tm y = .slice none 0 0 := by rw [hy]; rfl
        rw [← hyv] at this
        simpa [execOp, hop] using this
      | false =>
        rw [hn] at hs
        have := (x6r (new := new) (hT _ _ ‹_›) hr x y (z0n he x) (z0n he y) hs hc).value
        simpa [execOp, hop] using this
    · cases hs
  | unOp op t x =>
    rw [hop] at hs; simp only at hs
    have := (x87 (P := P) (new := new) hr (z0n he x) hs).value
    simpa [execOp, hop] using this
  | convert s t x =>
    rw [hop] at hs; simp only at hs
    split at hs
    · have := (y6f (new := new) (hT _ _ ‹_›) (hT _ _ ‹_›) hr (z0n he x) hs).value
      simpa [execOp, hop] using this
    · cases hs
  | makeFunc fn f c =>
    rw [hop] at hs; cases x66 hs
    obtain ⟨f1, f2⟩ := z7q he f
    obtain ⟨c1, c2⟩ := z7q he c
    exact ⟨_, w, ρ, .inl (by simp [execOp, hop, Instr.makeFunc]), .clo _ _ _ _ _ f1 c1 f2 c2, hr, Ext.refl _ _ _ _, .inl rfl⟩
  | makeSlice t l c =>
    rw [hop] at hs; simp only at hs
    split at hs
    · have := (y3f (hT _ _ ‹_›) hr hn (z0n he l) (z0n he c) hs hc).value
      simpa [execOp, hop] using this
    · cases hs
  | slice t x lo hi mx =>
    rw [hop] at hs hw; simp only [z2e] at hs hw
    have hw : (z4a h (z0x env x)).ok false r ra := by
      generalize z0x env x = a at hw
      unfold z4a at hw ⊢
      split
      · split
        · rename_i hob; simp only [hob] at hw; exact hw
        · trivial
      · trivial
    split at hs
    · rename_i ti _
      have hw : (z4a h (w36 ti (z0x env x))).ok false r ra := by
        rw [y76]; exact hw
      have := (x0n (new := new) (hT _ _ ‹_›) hr (w35 (z0n he x)) (y5n he lo) (y5n he hi) (y5n he mx) (ra := ra) hw hs hc).value
      simpa [execOp, hop] using this
    · cases hs
  | fieldAddr t x f =>
    rw [hop] at hs; simp only at hs
    split at hs
    · have := (x0o (new := new) (hT _ _ ‹_›) hr (y4b (z0n he x)) hs).value
      simpa [execOp, hop] using this
    · cases hs
  | field t x f =>
    rw [hop] at hs; simp only at hs
    split at hs
    · have := (y4n (new := new) (hT _ _ ‹_›) hr (z0n he x) hs).value
      simpa [execOp, hop] using this
    · cases hs
  | indexAddr t x i =>
    rw [hop] at hs hw; simp only [z2e, x3l] at hs hw
    split at hs
    · have := (y3g (new := new) (hT _ _ ‹_›) hr (z0n he x) (z0n he i) (fun full z es k n e1 e2 => by rw [e1, e2] at hw; exact hw) hs hc).value
      simpa [execOp, hop] using this
    · cases hs
  | index t x i =>
    rw [hop] at hs; simp only [x3l] at hs
    split at hs
    · have := (y4m (new := new) (hT _ _ ‹_›) hr (z0n he x) (z0n he i) hs hc).value
      simpa [execOp, hop] using this
    · cases hs
  | extract x i =>
    rw [hop] at hs; simp only at hs
    have h1 := z0n he x
    unfold y0c at hs
    split at hs
    · rename_i vs hx
      rw [hx] at h1
      obtain ⟨y, hy, rfl⟩ := z23 hs
      rw [z1z] at hy
      generalize hv : opv tm x = v at h1
      cases h1 with
      | tuple _ vv hl hh =>
        have hi : i < vv.size := by rw [hl]; exact (List.getElem?_eq_some_iff.1 hy).1
        have h2 := hh i y hy
        rw [z8a (Array.getElem?_eq_getElem hi)] at h2
        exact ⟨_, w, ρ, .inl (by simp [execOp, hop, hv, Instr.extract, hi]), h2, hr, Ext.refl _ _ _ _, .inl rfl⟩
    · cases hs
  | call c =>
    obtain ⟨callee, args, ts⟩ := c
    cases callee <;> rw [hop] at hs <;> (try (cases hs; done))
    rename_i b
    simp only at hs
    obtain ⟨a1, a2⟩ := z7q he args
    have exec : ∀ (s : Sem Value), (∀ cs, builtin b ts o.type cs (args.map (opv tm)) = (do pure (Next.value (← s)))) → execOp (opv tm) o = (do pure (Next.value (← s))) := by
      intro s hsb
      simp [execOp, hop, resolve, invoke, hsb]
    have arg : ∀ (i : Nat) (x : AV) (hi : i < args.size), (z1x env args.toList)[i]? = some x → z0t ρ (z0i ρ h) w x (opv tm args[i]) := by
      intro i x hi hx
      have := a2 i x hx
      rwa [show (args.map (opv tm)).getD i undef = opv tm args[i] by simp [Array.getD_eq_getD_getElem?, hi]] at this
    unfold z3f at hs
    split at hs
    ·
      rename_i t x e2 e3
      split at hs
      · rename_i ti hti
        have hsz : args.size = 1 := by have := congrArg List.length e3; rw [z20] at this; simpa using this
        have hx := arg 0 x (by omega) (by rw [e3]; rfl)
        have hts : ts = #[t] := by apply Array.ext'; rw [e2]
        have hav : args.map (opv tm) = #[opv tm args[0]] := by
          apply Array.ext'
          apply List.ext_getElem?
          intro i
          cases i with
          | zero => simp [hsz]
          | succ i => simp; omega
        rw [exec (Builtin.len_ ts o.type (args.map (opv tm))) (fun cs => rfl)]
        have := w72 (hT _ _ hti) hr (new := new) (ty := o.type) hx hs
        rw [hts, hav]
        exact this.value
      · cases hs
    ·
      rename_i t t2 s x e2 e3
      split at hs
      · rename_i ti ti2 hti hti2
        split at hs
        · rename_i e z eb ea ez hdesc
          have hsz : args.size = 2 := by have := congrArg List.length e3; rw [z20] at this; simpa using this
          have hx := arg 0 s (by omega) (by rw [e3]; rfl)
          have hy := arg 1 x (by omega) (by rw [e3]; rfl)
          have hts : ts = #[t, t2] := by apply Array.ext'; rw [e2]
          have hav : args.map (opv tm) = #[opv tm args[0], opv tm args[1]] := by
            apply Array.ext'
            apply List.ext_getElem?
            intro i
            match i with
            | 0 => simp [hsz]
            | 1 => simp [hsz]
            | i + 2 => simp; omega
          rw [exec (Builtin.append_ ts o.type (args.map (opv tm))) (fun cs => rfl)]
          rw [hop] at hw
          simp only [z2e] at hw
          rw [e3] at hw
          simp only at hw
          have := y6g (hT _ _ hti) (hT _ _ hti2) ⟨_, _, _, _, _, hdesc⟩ hr hn hx hy (ty := o.type) (q := q) (fun b hb => by rw [hb] at hw; exact hw) hs hc
          rw [hts, hav]
          exact this.value
        · cases hs
      · cases hs
    ·
      rename_i t tl d x e2 e3
      split at hs
      · rename_i ti hti
        have hsz : args.size = 2 := by have := congrArg List.length e3; rw [z20] at this; simpa using this
        have hx := arg 0 d (by omega) (by rw [e3]; rfl)
        have hy := arg 1 x (by omega) (by rw [e3]; rfl)
        have hav : args.map (opv tm) = #[opv tm args[0], opv tm args[1]] := by
          apply Array.ext'
          apply List.ext_getElem?
          intro i
          match i with
          | 0 => simp [hsz]
          | 1 => simp [hsz]
          | i + 2 => simp; omega
        rw [exec (Builtin.copy_ ts o.type (args.map (opv tm))) (fun cs => rfl)]
        have hts : ts[0]? = some t := by rw [← Array.getElem?_toList, e2]; rfl
        have := x25 (hT _ _ hti) hr (new := new) (ty := o.type) hx hy hts hs hc
        rw [hav]
        exact this.value
      · cases hs
    ·
      rename_i t tl m k e2 e3
      split at hs
      · rename_i ti hti
        have hsz : args.size = 2 := by have := congrArg List.length e3; rw [z20] at this; simpa using this
        have hx := arg 0 m (by omega) (by rw [e3]; rfl)
        have hy := arg 1 k (by omega) (by rw [e3]; rfl)
        have hav : args.map (opv tm) = #[opv tm args[0], opv tm args[1]] := by
          apply Array.ext'
          apply List.ext_getElem?
          intro i
          match i with
          | 0 => simp [hsz]
          | 1 => simp [hsz]
          | i + 2 => simp; omega
        rw [exec (Builtin.delete_ ts o.type (args.map (opv tm))) (fun cs => rfl)]
        have hts : ts[0]? = some t := by rw [← Array.getElem?_toList, e2]; rfl
        rw [hop] at hw
        simp only [z2e, e2, e3, y0v, hti] at hw
        have := y8c (hT _ _ hti) hr (new := new) (ty := o.type) hx hy hw hts hs
        rw [hav]
        exact this.value
      · cases hs
    ·
      rename_i t tl d e2 e3
      split at hs
      · rename_i ti hti
        have hsz : args.size = 1 := by have := congrArg List.length e3; rw [z20] at this; simpa using this
        have hx := arg 0 d (by omega) (by rw [e3]; rfl)
        have hav : args.map (opv tm) = #[opv tm args[0]] := by
          apply Array.ext'
          apply List.ext_getElem?
          intro i
          match i with
          | 0 => simp [hsz]
          | i + 1 => simp; omega
        rw [exec (Builtin.clear_ ts o.type (args.map (opv tm))) (fun cs => rfl)]
        have hts : ts[0]? = some t := by rw [← Array.getElem?_toList, e2]; rfl
        have := x0q (hT _ _ hti) hr (new := new) (ty := o.type) hx hts hs hc
        rw [hav]
        exact this.value
      · cases hs
    ·
      rw [exec (Builtin.min_ ts o.type (args.map (opv tm))) (fun cs => rfl)]
      have := y6u (P := P) (new := new) hr (.inl rfl) (vs := (args.map (opv tm)).toList) (by rw [Array.length_toList]; exact a1) (fun i x v hx hv => by
        have h1 := a2 i x hx
        have h2 : (args.map (opv tm))[i]? = some v := by simpa using hv
        rwa [z8a h2] at h1) (a := ts) (t := o.type) hs
      rw [Array.toArray_toList, if_pos rfl] at this
      exact this.value
    ·
      rw [exec (Builtin.max_ ts o.type (args.map (opv tm))) (fun cs => rfl)]
      have := y6u (P := P) (new := new) hr (.inr rfl) (vs := (args.map (opv tm)).toList) (by rw [Array.length_toList]; exact a1) (fun i x v hx hv => by
        have h1 := a2 i x hx
        have h2 : (args.map (opv tm))[i]? = some v := by simpa using hv
        rwa [z8a h2] at h1) (a := ts) (t := o.type) hs
      rw [Array.toArray_toList, if_neg (by decide)] at this
      exact this.value
    · cases hs
  | makeMap t n =>
    rw [hop] at hs; simp only at hs
    split at hs
    · have := (y6c (P := P) (T := t) (new := new) hr hn (x := z8n env n) (v := n.map (opv tm)) (fun h => by cases n <;> simp [z8n] at h ⊢) hs).value
      simpa [execOp, hop] using this
    · cases hs
  | lookup t m k co =>
    rw [hop] at hs hw; simp only [z2e] at hs hw
    split at hs
    · rename_i ti hti
      split at hs
      · simp only [y0v, hti] at hw
        have := (z71 (hT _ _ hti) (new := new) hr (z0n he m) (z0n he k) hw hs).value
        simpa [execOp, hop] using this
      · cases hs
    · cases hs
  | mapUpdate t m k x =>
    rw [hop] at hs hw; simp only [z2e] at hs hw
    split at hs
    · rename_i ti hti
      simp only [y0v, hti] at hw
      have := (y79 (hT _ _ hti) (new := new) hr (z0n he m) (z0n he k) (z0n he x) hw hs).skip
      simpa [execOp, hop] using this
    · cases hs
  | _ => rw [hop] at hs; cases hs
end
end Go.Am
end
section
namespace Go.Am
structure AS where
 env:List (Nat×AV)
 heap:List AO
 nt:Nat
inductive AX where
 |normal
 |exit (id:Nat)
 |ret
def Dom (ρ:Rho) (h:List AO):Prop:=∀ id,ρ id≠none→id<h.length
structure z2b (P:Program) (ρ:Rho) (s:AS) (tm:Array Value) (w:World):Prop where
 heap:z0c P ρ s.heap w
 env:z6w ρ (z0i ρ s.heap) w s.env tm
 size:tm.size=s.nt
 dom:Dom ρ s.heap
structure z3y (rd:Option Nat) (B:Nat) (F:Nat→Prop) (w:World) (ds:List Deferred):Prop where
 nodup:ds.Nodup
 mark:∀ d∈ds,∃ r,d={ target:= .collected r,args:=#[] }∧w.heap[r]?=some (.deferred (some []))∧B≤r
 below:∀ b,F b→b<B
 le:B≤w.heap.size
 round:∀ l,rd=some l→F l∧∃ r,w.heap[l]?=some (.loop r)
theorem x47 {P:Program} {ρ:Rho} {h:List AO} {w:World} (hr:z0c P ρ h w) {b:Nat} (hf:¬ ρ.fr b) (hb:z0i ρ h b):w.heap[b]?≠some (.deferred (some [])):=by
 rcases hb with hb|⟨id,L,hL,hl,rfl⟩
 ·exact absurd hb hf
 obtain ⟨_,ho⟩:=hr.obj id L hL
 cases hn:z0j h id with
 |dead=>rw [hn] at hl; cases hl
 |box _=>rw [hn] at ho; obtain ⟨c,t,hc,_⟩:=ho; rw [hc]; simp
 |row _=>rw [hn] at ho; obtain ⟨_,c,t,hc,_⟩:=ho; rw [hc]; simp
 |arow _=>rw [hn] at ho; obtain ⟨_,c,t,hc,_⟩:=ho; rw [hc]; simp
 |map _=>rw [hn] at ho; obtain ⟨c,t,hc,_⟩:=ho; rw [hc]; simp
 |loop=>rw [hn] at ho; obtain ⟨_,_,_,_,_,c,t,_,hc,_⟩:=ho; rw [hc]; simp
theorem z3y.keep {P:Program} {S:Nat→Prop} {ρ ρ':Rho} {h h':List AO} {w w':World} {rd:Option Nat} {B:Nat} {ds:List Deferred} (hr:z0c P ρ h w) (x:Ext S ρ h w ρ' h' w') (hd:z3y rd B ρ.fr w ds):z3y rd B ρ'.fr w' ds:=by
 refine ⟨hd.nodup,fun d hm=>?_,by rw [x.fr]; exact hd.below,Nat.le_trans hd.le x.keep.size,fun l hl=>by
  obtain ⟨h1,r,h2⟩:=hd.round l hl
  exact ⟨by rw [x.fr]; exact h1,r,by rw [x.frs l h1]; exact h2⟩⟩
 obtain ⟨r,e,hr',hb⟩:=hd.mark d hm
 have hf:¬ ρ.fr r:=fun hf=>by have:=hd.below r hf; omega
 refine ⟨r,e,?_,hb⟩
 rw [x.keep.frame r (Array.getElem?_eq_some_iff.1 hr').1 (fun ho=>x47 hr hf ho hr')]
 exact hr'
def _root_.Go.Frame.on (b:Frame) (tm:Array Value) (ds:List Deferred) (todo:List Item):Frame:={ b with tmps:=tm,defers:=ds,todo:=todo,mode:= .run }
theorem x35 (b:Frame) (tm:Array Value) (ds:List Deferred) (todo:List Item):(b.on tm ds todo).eval=opv tm:=by
 funext x; cases x<;>rfl
section steps
variable {P:Program} {b:Frame} {tm:Array Value} {ds:List Deferred} {k:List Item} {cs:List Frame} {w:World}
theorem w69:step P (lone (b.on tm ds (.code .skip::k)) cs w)= .next (lone (b.on tm ds k) cs w):=step_lone_go (by simp [stepG,stepG.exec,Frame.on])
theorem w2u {l:Nat}:step P (lone (b.on tm ds (.code (.label l)::k)) cs w)= .next (lone (b.on tm ds k) cs w):=step_lone_go (by simp [stepG,stepG.exec,Frame.on])
theorem x6t {id:Nat}:step P (lone (b.on tm ds (.inBlock id::k)) cs w)= .next (lone (b.on tm ds k) cs w):=step_lone_go (by simp [stepG,stepG.exec,Frame.on])
theorem x6s {c:Code}:step P (lone (b.on tm ds (.inScope c::k)) cs w)= .next (lone (b.on tm ds k) cs w):=step_lone_go (by simp [stepG,stepG.exec,Frame.on])
theorem x88 {x y:Code}:step P (lone (b.on tm ds (.code (.seq x y)::k)) cs w)= .next (lone (b.on tm ds (.code x:: .code y::k)) cs w):=step_lone_go (by simp [stepG,stepG.exec,Frame.on])
theorem w7b {c:Operand} {x y:Code} {t:Bool} (h:opv tm c= .bool t):step P (lone (b.on tm ds (.code (.cond c x y)::k)) cs w)= .next (lone (b.on tm ds (.code (if t then x else y)::k)) cs w):=
 step_lone_go (by
  have:=x35 b tm ds (.code (.cond c x y)::k)
  simp only [Frame.on] at this
  simp [stepG,stepG.exec,Frame.on,this,h])
theorem y3s {id:Nat} {c:Code}:step P (lone (b.on tm ds (.code (.block id c)::k)) cs w)= .next (lone (b.on tm ds (.code c:: .inBlock id::k)) cs w):=step_lone_go (by simp [stepG,stepG.exec,Frame.on])
theorem y8h {c:Code}:step P (lone (b.on tm ds (.code (.scope c)::k)) cs w)= .next (lone (b.on tm ds (.code c:: .inScope c::k)) cs w):=step_lone_go (by simp [stepG,stepG.exec,Frame.on])
theorem y18 {c:Code}:step P (lone (b.on tm ds (.code (.loop c)::k)) cs w)= .next (lone (b.on tm ds (.code c:: .inLoop c::k)) cs w):=step_lone_go (by simp [stepG,stepG.exec,Frame.on])
theorem x9a {c:Code}:step P (lone (b.on tm ds (.inLoop c::k)) cs w)= .next (lone (b.on tm ds (.code c:: .inLoop c::k)) cs w):=step_lone_go (by simp [stepG,stepG.exec,Frame.on])
theorem w7a {id:Nat} {k':List Item} (h:exitTo id k=some k'):step P (lone (b.on tm ds (.code (.exit id)::k)) cs w)= .next (lone (b.on tm ds k') cs w):=step_lone_go (by simp [stepG,stepG.exec,Frame.on,h])
theorem x89 {id:Nat} {ops:Array Oper}:step P (lone (b.on tm ds (.code (.region id ops false)::k)) cs w)= .next (lone (b.on tm ds (.inRegion ops (List.range ops.size)::k)) cs w):=step_lone_go (by simp [stepG,stepG.exec,Frame.on])
theorem z6z {id:Nat} {ops:Array Oper}:step P (lone (b.on tm ds (.code (.region id ops true)::k)) cs w)=
  .next (lone (b.on tm ds (.inRegion ops (Region.schedule (P.follows .mixedOrders) ops (w.tape w.drawn (.order b.fn id)))::k)) cs { w with drawn:=w.drawn+1 }):=
 step_lone_go (by simp [stepG,stepG.exec,Frame.on,choose,Sem.run,Question.forced,Question.cut])
theorem z73 {ops:Array Oper}:step P (lone (b.on tm ds (.inRegion ops []::k)) cs w)= .next (lone (b.on tm ds k) cs w):=step_lone_go (by simp [stepG,stepG.exec,Frame.on])
theorem v04 (hb:b.roundOf=none):step P (lone (b.on tm ds (.code .ret::k)) cs w)= .next (lone { b.on tm ds (.code .ret::k) with mode:= .returning } cs w):=step_lone_go (by simp [stepG,stepG.exec,Frame.on,hb])
theorem v05 (hb:b.roundOf=none):step P (lone (b.on tm ds []) cs w)= .next (lone { b.on tm ds [] with mode:= .returning } cs w):=step_lone_go (by simp [stepG,stepG.exec,Frame.on,hb])
def y21 (tm:Array Value) (dst:Option Tmp) (v:Value):Array Value:=
 match dst with
 |some d=>tm.setIfInBounds d v
 |none=>tm
theorem z85 {ops:Array Oper} {i:Nat} {rest:List Nat} {o:Oper} (ho:ops[i]?=some o) (v:Value):
  (b.on tm ds (.inRegion ops (i::rest)::k)).finish v=b.on (y21 tm o.dst v) ds (.inRegion ops rest::k):=by
 unfold Frame.finish Frame.on y21
 simp [ho]
 cases o.dst<;>rfl
theorem y6v {ops:Array Oper} {i:Nat} {rest:List Nat} {o:Oper} (ho:ops[i]?=some o) (hw:Region.wanted o (yielded ops tm)=false):
  step P (lone (b.on tm ds (.inRegion ops (i::rest)::k)) cs w)= .next (lone (b.on (y21 tm o.dst undef) ds (.inRegion ops rest::k)) cs w):=by
 rw [←z85 ho]
 exact step_lone_go (by
  simp only [Frame.on] at*
  simp [stepG,stepG.exec,ho,hw])
theorem x9b {ops:Array Oper} {i:Nat} {rest:List Nat} {o:Oper} (ho:ops[i]?=some o) (hw:Region.wanted o (yielded ops tm)=true) (hd:∀ c,o.op≠ .defer c):
  stepG P true { frame:=b.on tm ds (.inRegion ops (i::rest)::k),callers:=cs,status:= .running,dying:=none } w=
   stepG.apply P true (b.on tm ds (.inRegion ops (i::rest)::k)) cs none (execOp (opv tm) o) w:=by
 have he:=x35 b tm ds (.inRegion ops (i::rest)::k)
 simp only [Frame.on] at he
 have:∀ (x:Option Nat),(match x,o.op with
   |some l, .defer c=>stepG.apply P true (b.on tm ds (.inRegion ops (i::rest)::k)) cs none (do Instr.deferInRound l (←resolve (opv tm) c o.type); pure .skip) w
   |_,_=>stepG.apply P true (b.on tm ds (.inRegion ops (i::rest)::k)) cs none (execOp (opv tm) o) w)=stepG.apply P true (b.on tm ds (.inRegion ops (i::rest)::k)) cs none (execOp (opv tm) o) w:=by
  intro x
  split
  ·exact absurd ‹_› (hd _)
  ·rfl
 simp only [Frame.on] at this
 simp [stepG,stepG.exec,stepG.oper,Frame.oper?,Frame.on,ho,hw,he]
 exact this b.roundOf
theorem y0e {ops:Array Oper} {i:Nat} {rest:List Nat} {o:Oper} (ho:ops[i]?=some o) (hw:Region.wanted o (yielded ops tm)=true) (hd:∀ c,o.op≠ .defer c) {v:Value} {w':World}
  (hr:(execOp (opv tm) o).run P w= .ok (.value v) w'∨((execOp (opv tm) o).run P w= .ok .skip w'∧v=undef)):
  step P (lone (b.on tm ds (.inRegion ops (i::rest)::k)) cs w)= .next (lone (b.on (y21 tm o.dst v) ds (.inRegion ops rest::k)) cs w'):=by
 rw [←z85 ho]
 refine step_lone_go ?_
 rw [x9b ho hw hd]
 rcases hr with hr|⟨hr,rfl⟩
 ·simp [stepG.apply,hr]
 ·simp [stepG.apply,hr]
theorem y4r {ops:Array Oper} {i:Nat} {rest:List Nat} {o:Oper} (ho:ops[i]?=some o) (hw:Region.wanted o (yielded ops tm)=true) (hd:∀ c,o.op≠ .defer c) {f:FuncId} {args:Array Value} {w':World}
  (hr:(execOp (opv tm) o).run P w= .ok (.enter f args) w'):
  step P (lone (b.on tm ds (.inRegion ops (i::rest)::k)) cs w)= .next (lone (Frame.enter P f args .normal) (b.on tm ds (.inRegion ops (i::rest)::k)::cs) w'):=by
 refine step_lone_go ?_
 rw [x9b ho hw hd]
 simp [stepG.apply,hr,Frame.on]
end steps
def Arr (P:Program) (b:Frame) (cs:List Frame) (m:Machine) (k:List Item):AX→Array Value→List Deferred→World→Prop
 | .normal,tm,ds,w=>Steps P m (lone (b.on tm ds k) cs w)
 | .exit id,tm,ds,w=>∃ k',exitTo id k'=exitTo id k∧Steps P m (lone (b.on tm ds (.code (.exit id)::k')) cs w)
 | .ret,tm,ds,w=>∃ k',Steps P m (lone (b.on tm ds (.code .ret::k')) cs w)
theorem Arr.of_steps {P:Program} {b:Frame} {cs:List Frame} {m m':Machine} {k:List Item} {e:AX} {tm:Array Value} {ds:List Deferred} {w:World} (h:Steps P m m') (h':Arr P b cs m' k e tm ds w):Arr P b cs m k e tm ds w:=by
 cases e with
 |normal=>exact h.trans h'
 |exit id=>obtain ⟨k',e,hs⟩:=h'; exact ⟨k',e,h.trans hs⟩
 |ret=>obtain ⟨k',hs⟩:=h'; exact ⟨k',h.trans hs⟩
structure z6m (P:Program) (n:Nat) (c:Code) (s:AS) (Q:AX→AS→Prop):Prop where
 run:∀ (b:Frame) (k:List Item) (cs:List Frame) (ρ:Rho) (tm:Array Value) (ds:List Deferred) (w:World) (B:Nat),z2b P ρ s tm w→z3y b.roundOf B ρ.fr w ds→
  ∃ e s' ρ' tm' ds' w',Q e s'∧z2b P ρ' s' tm' w'∧z3y b.roundOf B ρ'.fr w' ds'∧s'.nt=s.nt∧Ext (· <n) ρ s.heap w ρ' s'.heap w'∧Arr P b cs (lone (b.on tm ds (.code c::k)) cs w) k e tm' ds' w'
section rules
variable {P:Program} {n:Nat} {s:AS} {Q:AX→AS→Prop}
theorem z6m.mono {c:Code} {Q':AX→AS→Prop} (h:z6m P n c s Q) (hq:∀ e s,Q e s→Q' e s):z6m P n c s Q':=
 ⟨fun b k cs ρ tm ds w B h1 h2=>let ⟨e,s',ρ',tm',ds',w',q,r⟩:=h.run b k cs ρ tm ds w B h1 h2; ⟨e,s',ρ',tm',ds',w',hq _ _ q,r⟩⟩
theorem w1h (h:Q .normal s):z6m P n .skip s Q:=
 ⟨fun b k cs ρ tm ds w B h1 h2=>⟨.normal,s,ρ,tm,ds,w,h,h1,h2,rfl,Ext.refl _ _ _ _, .one w69⟩⟩
theorem x71 {l:Nat} (h:Q .normal s):z6m P n (.label l) s Q:=
 ⟨fun b k cs ρ tm ds w B h1 h2=>⟨.normal,s,ρ,tm,ds,w,h,h1,h2,rfl,Ext.refl _ _ _ _, .one w2u⟩⟩
theorem w1i {id:Nat} (h:Q (.exit id) s):z6m P n (.exit id) s Q:=
 ⟨fun b k cs ρ tm ds w B h1 h2=>⟨.exit id,s,ρ,tm,ds,w,h,h1,h2,rfl,Ext.refl _ _ _ _,k,rfl,Steps.refl _ _⟩⟩
theorem w4r (h:Q .ret s):z6m P n .ret s Q:=
 ⟨fun b k cs ρ tm ds w B h1 h2=>⟨.ret,s,ρ,tm,ds,w,h,h1,h2,rfl,Ext.refl _ _ _ _,k,Steps.refl _ _⟩⟩
theorem y0o {id:Nat} {x:Item} {k:List Item} (hx:∀ j,x≠ .inBlock j):exitTo id (x::k)=exitTo id k:=by
 cases x<;>simp [exitTo] at*
theorem y9g {x y:Code} (h:z6m P n x s (fun e s'=>match e with| .normal=>z6m P n y s' Q|e=>Q e s')):z6m P n (.seq x y) s Q:=⟨by
 intro b k cs ρ tm ds w B h1 h2
 obtain ⟨e,s',ρ',tm',ds',w',q,r1,r2,r3,r4,r5⟩:=h.run b (.code y::k) cs ρ tm ds w B h1 h2
 cases e with
 |normal=>
  obtain ⟨e,s2,ρ2,tm2,ds2,w2,q2,g1,g2,g3,g4,g5⟩:=q.run b k cs ρ' tm' ds' w' B r1 r2
  exact ⟨e,s2,ρ2,tm2,ds2,w2,q2,g1,g2,g3.trans r3,r4.trans g4, .of_steps (.head x88 r5) g5⟩
 |exit id=>
  obtain ⟨k',e,hs⟩:=r5
  exact ⟨.exit id,s',ρ',tm',ds',w',q,r1,r2,r3,r4,k',by rw [e,y0o (by simp)], .head x88 hs⟩
 |ret=>
  obtain ⟨k',hs⟩:=r5
  exact ⟨.ret,s',ρ',tm',ds',w',q,r1,r2,r3,r4,k', .head x88 hs⟩⟩
theorem x6g {ρ:Rho} {O:Nat→Prop} {w:World} {t:Bool} {v:Value} (h:z0t ρ O w (.d (.bool t)) v):v= .bool t:=by
 cases h with|d h=>cases h; rfl
theorem x16 {c:Operand} {x y:Code} {t:Bool} (hc:z0x s.env c= .d (.bool t)) (h:z6m P n (if t then x else y) s Q):z6m P n (.cond c x y) s Q:=⟨by
 intro b k cs ρ tm ds w B h1 h2
 obtain ⟨e,s',ρ',tm',ds',w',q,r1,r2,r3,r4,r5⟩:=h.run b k cs ρ tm ds w B h1 h2
 have hv:=z0n h1.env c
 rw [hc] at hv
 exact ⟨e,s',ρ',tm',ds',w',q,r1,r2,r3,r4, .of_steps (.one (w7b (x6g hv))) r5⟩⟩
theorem z9u {id:Nat} {c:Code} (h:z6m P n c s (fun e s'=>match e with| .exit j=>if j=id then Q .normal s' else Q (.exit j) s'|e=>Q e s')):z6m P n (.block id c) s Q:=⟨by
 intro b k cs ρ tm ds w B h1 h2
 obtain ⟨e,s',ρ',tm',ds',w',q,r1,r2,r3,r4,r5⟩:=h.run b (.inBlock id::k) cs ρ tm ds w B h1 h2
 cases e with
 |normal=>exact ⟨.normal,s',ρ',tm',ds',w',q,r1,r2,r3,r4, .head y3s (Steps.trans r5 (.one x6t))⟩
 |exit j=>
  obtain ⟨k',e,hs⟩:=r5
  simp only at q
  by_cases hj:j=id
  ·subst hj
   rw [if_pos rfl] at q
   have e2:exitTo j k'=some k:=by rw [e]; simp [exitTo]
   exact ⟨.normal,s',ρ',tm',ds',w',q,r1,r2,r3,r4, .head y3s (Steps.trans hs (.one (w7a e2)))⟩
  ·rw [if_neg hj] at q
   exact ⟨.exit j,s',ρ',tm',ds',w',q,r1,r2,r3,r4,k',by rw [e]; simp [exitTo,Ne.symm hj], .head y3s hs⟩
 |ret=>
  obtain ⟨k',hs⟩:=r5
  exact ⟨.ret,s',ρ',tm',ds',w',q,r1,r2,r3,r4,k', .head y3s hs⟩⟩
theorem x70 {c:Code} (h:z6m P n c s Q):z6m P n (.scope c) s Q:=⟨by
 intro b k cs ρ tm ds w B h1 h2
 obtain ⟨e,s',ρ',tm',ds',w',q,r1,r2,r3,r4,r5⟩:=h.run b (.inScope c::k) cs ρ tm ds w B h1 h2
 cases e with
 |normal=>exact ⟨.normal,s',ρ',tm',ds',w',q,r1,r2,r3,r4, .head y8h (Steps.trans r5 (.one x6s))⟩
 |exit j=>
  obtain ⟨k',e,hs⟩:=r5
  exact ⟨.exit j,s',ρ',tm',ds',w',q,r1,r2,r3,r4,k',by rw [e,y0o (by simp)], .head y8h hs⟩
 |ret=>
  obtain ⟨k',hs⟩:=r5
  exact ⟨.ret,s',ρ',tm',ds',w',q,r1,r2,r3,r4,k', .head y8h hs⟩⟩
end rules
end Go.Am
end
section
namespace Go.Am
theorem z1c (env:List (Nat×AV)) (t:Nat) (v:AV):z2f (x2p env t v) t=v:=by
 induction env with
 |nil=>simp [x2p,z2f]
 |cons x env ih=>
  obtain ⟨k,u⟩:=x
  simp only [x2p]
  cases hb:Nat.beq k t with
  |true=>simp [z2f,hb]
  |false=>simpa [z2f,hb] using ih
theorem z1t (env:List (Nat×AV)) (t t':Nat) (v:AV) (h:t≠t'):z2f (x2p env t v) t'=z2f env t':=by
 induction env with
 |nil=>
  have:Nat.beq t t'=false:=by cases hb:Nat.beq t t' with
   |false=>rfl
   |true=>exact absurd (Nat.eq_of_beq_eq_true hb) h
  simp [x2p,z2f,this]
 |cons x env ih=>
  obtain ⟨k,u⟩:=x
  simp only [x2p]
  cases hb:Nat.beq k t with
  |true=>
   have hk:=Nat.eq_of_beq_eq_true hb
   subst hk
   have:Nat.beq k t'=false:=by cases hb2:Nat.beq k t' with
    |false=>rfl
    |true=>exact absurd (Nat.eq_of_beq_eq_true hb2) h
   simp [z2f,this]
  |false=>
   simp only [cond_false,z2f]
   rw [ih]
theorem z4h (u:List (Nat×AO)):∀ (h:List AO),h.length≤(z1q h u).length∧∀ i o,(i,o)∈u→i<(z1q h u).length:=by
 induction u with
 |nil=>intro h; exact ⟨Nat.le_refl _,by simp⟩
 |cons x u ih=>
  intro h
  obtain ⟨i,o⟩:=x
  have h1:=z16 h i o
  obtain ⟨a,b⟩:=ih (z1i h i o)
  simp only [z1q]
  refine ⟨by omega,fun j q hj=>?_⟩
  rcases List.mem_cons.1 hj with e|e
  ·cases e; omega
  ·exact b j q e
def y4u (env:List (Nat×AV)) (dst:Option Tmp) (v:AV):List (Nat×AV):=
 match dst with
 |some d=>x2p env d v
 |none=>env
def z5y (nt:Nat) (dst:Option Tmp):Bool:=
 match dst with
 |some d=>Nat.blt d nt
 |none=>true
def z56 (s:AS) (dst:Option Tmp) (v:AV) (u:List (Nat×AO)):AS:=⟨y4u s.env dst v,z1q s.heap u,s.nt⟩
section
variable {P:Program} {ρ:Rho} {h:List AO} {w:World}
theorem y2p {ρ':Rho} {O':Nat→Prop} {O:Nat→Prop} {w':World} {env:List (Nat×AV)} {tm:Array Value} (k:z5n O O' w w') (hρ:∀ id L,ρ id=some L→ρ' id=some L) (he:z6w ρ O w env tm) {dst:Option Tmp} {nt:Nat} (hn:tm.size=nt) (hd:z5y nt dst=true)
  {x:AV} {v:Value} (hv:z0t ρ' O' w' x v):z6w ρ' O' w' (y4u env dst x) (y21 tm dst v):=by
 intro t
 cases dst with
 |none=>exact (he t).keep k hρ
 |some d=>
  simp only [z5y] at hd
  have hlt:d<tm.size:=by rw [hn]; exact Nat.lt_of_lt_of_le (Nat.lt_succ_self d) (Nat.le_of_ble_eq_true hd)
  simp only [y4u,y21]
  by_cases ht:d=t
  ·subst ht
   rw [z1c]
   have:(tm.setIfInBounds d v).getD d undef=v:=by simp [Array.getD_eq_getD_getElem?,hlt]
   rw [this]; exact hv
  ·rw [z1t _ _ _ _ ht]
   have:(tm.setIfInBounds d v).getD t undef=tm.getD t undef:=by simp [Array.getD_eq_getD_getElem?,Array.getElem?_setIfInBounds,ht]
   rw [this]; exact (he t).keep k hρ
theorem z8t (tm:Array Value) (dst:Option Tmp) (v:Value):(y21 tm dst v).size=tm.size:=by
 cases dst<;>simp [y21]
theorem z2b.step {s:AS} {tm:Array Value} (h1:z2b P ρ s tm w) {new:Nat} (hnew:new=s.heap.length) {dst:Option Tmp} (hd:z5y s.nt dst=true) {res:Res} {v:Value} {w':World} {ρ':Rho}
  (hv:z0t ρ' (z0i ρ' (z1q s.heap res.u)) w' res.v v) (hh:z0c P ρ' (z1q s.heap res.u) w') (hx:Ext (fun id=>id≠new) ρ s.heap w ρ' (z1q s.heap res.u) w') (hr:ρ'=ρ∨∃ o,(new,o)∈res.u):
  z2b P ρ' (z56 s dst res.v res.u) (y21 tm dst v) w':=by
 obtain ⟨l1,l2⟩:=z4h res.u s.heap
 have hnone:ρ new=none:=by
  cases hq:ρ new with
  |none=>rfl
  |some L=>have:=h1.dom new (by rw [hq]; simp); omega
 refine ⟨hh,y2p hx.keep (fun id L hL=>?_) h1.env h1.size hd hv,by rw [z8t]; exact h1.size,fun id hid=>?_⟩
 ·rw [hx.rho id (by rintro rfl; rw [hnone] at hL; cases hL)]; exact hL
 ·show id<(z1q s.heap res.u).length
  by_cases he:id=new
  ·subst he
   rcases hr with rfl|⟨o,ho⟩
   ·exact absurd hnone hid
   ·exact l2 _ _ ho
  ·rw [hx.rho id he] at hid
   have:=h1.dom id hid; omega
structure y9x (P:Program) (n:Nat) (ops:Array Oper) (l:List Nat) (s:AS) (Q:AS→Prop):Prop where
 run:∀ (b:Frame) (k:List Item) (cs:List Frame) (ρ:Rho) (tm:Array Value) (ds:List Deferred) (w:World) (B:Nat),z2b P ρ s tm w→z3y b.roundOf B ρ.fr w ds→
  ∃ s' ρ' tm' w',Q s'∧z2b P ρ' s' tm' w'∧z3y b.roundOf B ρ'.fr w' ds∧s'.nt=s.nt∧Ext (· <n) ρ s.heap w ρ' s'.heap w'∧Steps P (lone (b.on tm ds (.inRegion ops l::k)) cs w) (lone (b.on tm' ds k) cs w')
theorem w26 {n:Nat} {ops:Array Oper} {s:AS} {Q:AS→Prop} (h:Q s):y9x P n ops [] s Q:=
 ⟨fun b k cs ρ tm ds w B h1 h2=>⟨s,ρ,tm,w,h,h1,h2,rfl,Ext.refl _ _ _ _, .one z73⟩⟩
def z6g (ops:List Oper) (env:List (Nat×AV)):Option (Nat×Bool)→Option Bool
 |none=>some true
 |some (j,want)=>match z2k ops j with
  |some o=>match o.dst with
   |some d=>match z2f env d with
    | .d (.bool t)=>some (t==want)
    | .tuple []=>some false
    |_=>none
   |none=>none
  |none=>none
theorem x0e {O:Nat→Prop}:z0t ρ O w (.tuple []) undef:= .tuple [] #[] rfl (by simp)
theorem z5i {ops:Array Oper} {s:AS} {tm:Array Value} (h1:z2b P ρ s tm w) {o:Oper} {b:Bool} (hg:z6g ops.toList s.env o.guard=some b):Region.wanted o (yielded ops tm)=b:=by
 unfold Region.wanted
 cases hgd:o.guard with
 |none=>rw [hgd] at hg; simp [z6g] at hg; subst hg; rfl
 |some g=>
  obtain ⟨j,want⟩:=g
  rw [hgd] at hg
  simp only [z6g] at hg
  split at hg
  ·rename_i o' ho'
   split at hg
   ·rename_i d hd
    split at hg
    ·rename_i t ht
     cases hg
     rw [z1z] at ho'
     have hv:=h1.env d
     rw [ht] at hv
     have hv:=x6g hv
     have hy:yielded ops tm j=some t:=by
      have hoj:ops[j]?=some o':=by simpa using ho'
      have:tm[d]?=some (.bool t):=by
       rw [Array.getD_eq_getD_getElem?] at hv
       cases hq:tm[d]? with
       |none=>rw [hq] at hv; simp [undef] at hv
       |some u=>rw [hq] at hv; simp at hv; rw [hv]
      simp [yielded,hoj,hd,this]
     simp [hy]
    ·rename_i ht
     cases hg
     rw [z1z] at ho'
     have hv:=h1.env d
     rw [ht] at hv
     have hy:yielded ops tm j=none:=by
      have hoj:ops[j]?=some o':=by simpa using ho'
      cases hq:tm[d]? with
      |none=>simp [yielded,hoj,hd,hq]
      |some u=>
       rw [Array.getD_eq_getD_getElem?,hq] at hv
       simp only [Option.getD_some] at hv
       cases hv with|tuple _ vs hl _=>
       simp [yielded,hoj,hd,hq]
     simp [hy]
    ·cases hg
   ·cases hg
  ·cases hg
theorem x9k {T:TypeId→Option TI} (hT:y1v P T) {n:Nat} {ops:Array Oper} {i:Nat} {rest:List Nat} {s:AS} {Q:AS→Prop} {o:Oper} (ho:ops[i]?=some o) (hg:z6g ops.toList s.env o.guard=some true) (hn:n≤s.heap.length)
  {q:Bool} {r:List D} {ra:List AV} {res:Res} (hw:(z2e std T s.env s.heap o.op).ok q r ra) (hs:z1u std T s.env s.heap s.heap.length q r ra o.op=some res) (hc:res.c=true) (hd:z5y s.nt o.dst=true)
  (h:y9x P n ops rest (z56 s o.dst res.v res.u) Q):y9x P n ops (i::rest) s Q:=⟨by
 intro b k cs ρ tm ds w B h1 h2
 have hnone:ρ s.heap.length=none:=by
  cases hq:ρ s.heap.length with
  |none=>rfl
  |some L=>have:=h1.dom s.heap.length (by rw [hq]; simp); omega
 obtain ⟨v,w',ρ',hrun,hv,hh,hx,hr⟩:=x4q hT h1.heap hnone h1.env hw hs hc
 have h1':=h1.step rfl hd hv hh hx hr
 have h2':=h2.keep h1.heap hx
 obtain ⟨s2,ρ2,tm2,w2,q2,g1,g2,g3,g4,g5⟩:=h.run b k cs ρ' _ ds w' B h1' h2'
 have hdef:∀ c,o.op≠ .defer c:=by
  intro c hc; rw [hc] at hs; simp [z1u] at hs
 exact ⟨s2,ρ2,tm2,w2,q2,g1,g2,g3,(hx.mono (fun id (hid:id<n)=>by show id≠s.heap.length; omega)).trans g4, .head (y0e ho (z5i h1 hg) hdef hrun) g5⟩⟩
theorem x9l {n:Nat} {ops:Array Oper} {i:Nat} {rest:List Nat} {s:AS} {Q:AS→Prop} {o:Oper} (ho:ops[i]?=some o) (hg:z6g ops.toList s.env o.guard=some false) (hd:z5y s.nt o.dst=true)
  (h:y9x P n ops rest (z56 s o.dst (.tuple []) []) Q):y9x P n ops (i::rest) s Q:=⟨by
 intro b k cs ρ tm ds w B h1 h2
 have h1':z2b P ρ (z56 s o.dst (.tuple []) []) (y21 tm o.dst undef) w:=
  h1.step (new:=s.heap.length) rfl (res:=⟨true, .tuple [],[]⟩) hd x0e h1.heap (Ext.refl _ _ _ _) (.inl rfl)
 obtain ⟨s2,ρ2,tm2,w2,q2,g1,g2,g3,g4,g5⟩:=h.run b k cs ρ _ ds w B h1' h2
 exact ⟨s2,ρ2,tm2,w2,q2,g1,g2,g3,g4, .head (y6v ho (z5i h1 hg)) g5⟩⟩
def z24 (ρ:Rho) (O:Nat→Prop) (w:World) (xs:List AV) (vs:Array Value):Prop:=vs.size=xs.length∧∀ (i:Nat) (x:AV),xs[i]?=some x→z0t ρ O w x (vs.getD i undef)
theorem z24.append {O:Nat→Prop} {xs ys:List AV} {us vs:Array Value} (h1:z24 ρ O w xs us) (h2:z24 ρ O w ys vs):z24 ρ O w (xs++ys) (us++vs):=by
 refine ⟨by simp [h1.1,h2.1],fun i x hx=>?_⟩
 rw [List.getElem?_append] at hx
 rw [Array.getD_eq_getD_getElem?,Array.getElem?_append,h1.1]
 split at hx
 ·rename_i hlt
  rw [if_pos hlt, ←Array.getD_eq_getD_getElem?]
  exact h1.2 i x hx
 ·rename_i hge
  rw [if_neg hge, ←Array.getD_eq_getD_getElem?]
  exact h2.2 _ x hx
structure z90 (P:Program) (f:FuncId) (args:List AV) (h:List AO) (r:AV) (h':List AO):Prop where
 run:∀ (ρ:Rho) (vs:Array Value) (w:World) (cs:List Frame),z0c P ρ h w→Dom ρ h→z24 ρ (z0i ρ h) w args vs→
  ∃ ρ' v w' fr,Steps P (lone (Frame.enter P f vs .normal) cs w) (lone fr cs w')∧fr.fn=f∧fr.leaving P w' (.returned v)∧z0t ρ' (z0i ρ' h') w' r v∧z0c P ρ' h' w'∧Dom ρ' h'∧Ext (· <h.length) ρ h w ρ' h' w'
def z29 (P:Program) (f:FuncId):Prop:=∀ (args:Array Value) (w:World),(callFunc f args).run P w= .ok (.enter f args) w
theorem x4b {n:Nat} {id:Nat} {ops:Array Oper} {s:AS} {Q:AX→AS→Prop} (h:y9x P n ops (List.range ops.size) s (Q .normal)):z6m P n (.region id ops false) s Q:=⟨by
 intro b k cs ρ tm ds w B h1 h2
 obtain ⟨s2,ρ2,tm2,w2,q2,g1,g2,g3,g4,g5⟩:=h.run b k cs ρ tm ds w B h1 h2
 exact ⟨.normal,s2,ρ2,tm2,ds,w2,q2,g1,g2,g3,g4, .head x89 g5⟩⟩
def x4x (T:TypeId→Option TI) (s:AS):ResultVar→Option AV
 | .tmp t=>some (z2f s.env t)
 | .cell a t=>match T t with
  |some ti=>match z2f s.env a with
   | .bptr id off=>match z4b ti s.heap [] [] (.bptr id off) with
    |some r=>some r.v
    |none=>none
   |_=>none
  |none=>none
def y6y (T:TypeId→Option TI) (s:AS):List ResultVar→Option (List AV)
 |[]=>some []
 |x::r=>match x4x T s x,y6y T s r with
  |some v,some l=>some (v::l)
  |_,_=>none
def v1a (T:TypeId→Option TI) (s:AS) (l:List ResultVar):Option AV:=
 match y6y T s l with
 |some [v]=>some v
 |some vs=>some (.tuple vs)
 |none=>none
theorem x6o {ti:TI} {h:List AO} {r:List D} {ra:List AV} {a:AV} {res:Res} (hs:z4b ti h r ra a=some res):res.u=[]:=by
 unfold z4b at hs
 split at hs
 ·split at hs
  ·split at hs
   ·obtain ⟨_,_,rfl⟩:=z23 hs; rfl
   ·cases hs
  ·cases hl:z7n r ti.size with
   |false=>rw [hl] at hs; cases hs
   |true=>rw [hl] at hs; obtain ⟨_,_,rfl⟩:=z23 hs; rfl
  ·cases hs
 ·split at hs
  ·split at hs
   ·obtain ⟨_,_,rfl⟩:=z23 hs; rfl
   ·cases hs
  ·split at hs
   ·obtain ⟨_,_,rfl⟩:=z23 hs; rfl
   ·cases hs
  ·cases hs
 ·cases hl:z7n r ti.size with
  |false=>rw [hl] at hs; cases hs
  |true=>rw [hl] at hs; obtain ⟨_,_,rfl⟩:=z23 hs; rfl
 ·split at hs
  ·obtain ⟨_,_,rfl⟩:=z23 hs; rfl
  ·cases hs
 ·cases hs
theorem y8k {T:TypeId} {ti:TI} (ht:z8m P T ti) (hr:z0c P ρ h w) {id off:Nat} {va:Value} (ha:z0t ρ (z0i ρ h) w (.bptr id off) va) {res:Res} (hs:z4b ti h [] [] (.bptr id off)=some res):
  ∃ v,(Instr.loadAt T va).run P w= .ok v w∧z0t ρ (z0i ρ h) w res.v v:=by
 unfold z4b at hs
 simp only at hs
 split at hs
 ·rename_i cells hob
  split at hs
  ·rename_i l hp
   obtain ⟨x,hx,rfl⟩:=z23 hs
   cases ha with
   |bptr _ _ L hL=>
    obtain ⟨_,ho⟩:=hr.obj id L hL
    rw [hob] at ho
    obtain ⟨c,t,hc,hj⟩:=ho
    obtain ⟨hl,hg⟩:=z26 hp
    obtain ⟨cs,h1,h2,h3⟩:=z41 (R:=z0t ρ (z0i ρ h) w) (fun j=>c[L.base+off+j]?) l (fun j x hx=>by
     have hj':j<ti.size:=by rw [←hl]; exact (List.getElem?_eq_some_iff.1 hx).1
     obtain ⟨v,hv,hrel⟩:=hj (off+j) x (by rw [hg j hj']; exact hx)
     exact ⟨v,by rw [Nat.add_assoc]; exact hv,hrel⟩)
    obtain ⟨v,hv1,hv2⟩:=z4x hx cs h1 h3
    refine ⟨v,?_,hv2⟩
    show (loadVar T _).run P w=_
    exact z3h ht.size ht.agg w _ _ cs (h1.trans hl) (fun j v hv=>z5l hc (h2 j v hv)) v hv1
  ·cases hs
 ·rename_i es hob
  cases hn:z7n ([]:List D) ti.size with
  |false=>rw [hn] at hs; cases hs
  |true=>
  rw [hn] at hs
  have hl:=z7m hn
  obtain ⟨x,hx,rfl⟩:=z23 hs
  cases ha with
  |bptr _ _ L hL=>
   obtain ⟨_,ho⟩:=hr.obj id L hL
   rw [hob] at ho
   obtain ⟨hz,c,t,hc,hlen,hj⟩:=ho
   obtain ⟨v,hv1,hv2⟩:=z3j (ρ:=ρ) (O:=z0i ρ h) (w:=w) hx [] rfl (by simp)
   refine ⟨v,?_,hv2⟩
   show (loadVar T _).run P w=_
   exact z3h ht.size ht.agg w _ _ [] hl (by simp) v hv1
 ·cases hs
def x9f (tm:Array Value):ResultVar→Sem Value
 | .tmp t=>pure (tm.getD t undef)
 | .cell a t=>do loadVar t (←asAddr (tm.getD a undef))
theorem x6z (fn:Func) (tm:Array Value):results fn tm=(do
  let vs←fn.results.mapM (x9f tm)
  pure (if h:vs.size=1 then vs[0] else .tuple vs)):=by
 unfold results
 congr 1
theorem x6y {T:TypeId→Option TI} (hT:y1v P T) {s:AS} {tm:Array Value} (h1:z2b P ρ s tm w) {fn:Func} {r:AV} (hr:v1a T s fn.results.toList=some r):
  ∃ v,(results fn tm).run P w= .ok v w∧z0t ρ (z0i ρ s.heap) w r v:=by
 have one:∀ (x:ResultVar) (a:AV),x4x T s x=some a→∃ v,(x9f tm x).run P w= .ok v w∧z0t ρ (z0i ρ s.heap) w a v:=by
  intro x a hx
  cases x with
  |tmp t=>simp [x4x] at hx; subst hx; exact ⟨_,rfl,h1.env t⟩
  |cell p t=>
   simp only [x4x] at hx
   split at hx
   ·rename_i ti hti
    split at hx
    ·rename_i id off hp
     split at hx
     ·rename_i res hres
      cases hx
      have hv:=h1.env p
      rw [hp] at hv
      obtain ⟨v,e1,e2⟩:=y8k (hT _ _ hti) h1.heap hv hres
      refine ⟨v,?_,e2⟩
      obtain ⟨A,hpv⟩:∃ A,tm.getD p undef= .pointer (some A):=by
       generalize hq:tm.getD p undef=pv at hv
       cases hv with
       |bptr _ _ L hL=>exact ⟨_,rfl⟩
      rw [hpv] at e1
      show (asAddr (tm.getD p undef)>>=fun a=>loadVar t a).run P w=_
      rw [hpv]
      simp only [Sem.run_bind,asAddr,Sem.run_pure,Result.andThen_ok]
      simpa [Instr.loadAt,Instr.sureAddr] using e1
     ·cases hx
    ·cases hx
   ·cases hx
 have all:∀ (l:List ResultVar) (az:List AV),y6y T s l=some az→∃ vs:List Value,(l.mapM (x9f tm)).run P w= .ok vs w∧vs.length=az.length∧∀ (i:Nat) (a:AV) (v:Value),az[i]?=some a→vs[i]?=some v→z0t ρ (z0i ρ s.heap) w a v:=by
  intro l
  induction l with
  |nil=>intro az h; simp [y6y] at h; subst h; exact ⟨[],by simp,rfl,by simp⟩
  |cons x l ih=>
   intro az h
   simp only [y6y] at h
   split at h
   ·rename_i a az' ha has
    cases h
    obtain ⟨v,e1,e2⟩:=one x a ha
    obtain ⟨vs,f1,f2,f3⟩:=ih az' has
    refine ⟨v::vs,by simp only [List.mapM_cons,Sem.run_bind,e1,Result.andThen_ok,f1,Sem.run_pure],by simp [f2],fun i a' v' ha' hv'=>?_⟩
    cases i with
    |zero=>simp at ha' hv'; subst ha'; subst hv'; exact e2
    |succ i=>exact f3 i a' v' (by simpa using ha') (by simpa using hv')
   ·cases h
 unfold v1a at hr
 have fin:∀ (az:List AV),y6y T s fn.results.toList=some az→∃ vs:List Value,(results fn tm).run P w= .ok (if h:vs.toArray.size=1 then vs.toArray[0] else .tuple vs.toArray) w∧vs.length=az.length∧∀ (i:Nat) (a:AV) (v:Value),az[i]?=some a→vs[i]?=some v→z0t ρ (z0i ρ s.heap) w a v:=by
  intro az has
  obtain ⟨vs,f1,f2,f3⟩:=all _ az has
  refine ⟨vs,?_,f2,f3⟩
  rw [x6z,Array.mapM_eq_mapM_toList]
  simp only [Sem.run_bind,Sem.run_map,f1,Result.andThen_ok,Sem.run_pure]
 split at hr
 ·rename_i v hv
  cases hr
  obtain ⟨vs,g1,g2,g3⟩:=fin _ hv
  match vs,g2 with
  |[u],_=>exact ⟨u,by simpa using g1,g3 0 _ u rfl rfl⟩
 ·rename_i az hne has
  cases hr
  obtain ⟨vs,g1,g2,g3⟩:=fin _ has
  have hl:vs.toArray.size≠1:=by
   intro e
   rw [List.size_toArray,g2] at e
   match az,e with
   |[a],_=>exact hne a rfl
  rw [dif_neg hl] at g1
  refine ⟨_,g1, .tuple _ _ (by simp [g2]) fun i x hx=>?_⟩
  have hi:i<vs.length:=by rw [g2]; exact (List.getElem?_eq_some_iff.1 hx).1
  have:=g3 i x vs[i] hx (List.getElem?_eq_getElem hi)
  rw [show vs.toArray.getD i undef=vs[i] by simp [Array.getD_eq_getD_getElem?,hi]]
  exact this
 ·cases hr
def w4c:Nat→List AV→List (Nat×AV)
 |_,[]=>[]
 |i,x::r=>(i,x)::w4c (i+1) r
theorem x99 (l:List AV):∀ (i t:Nat),z2f (w4c i l) t=if i≤t then (l[t - i]?).getD .bot else .bot:=by
 induction l with
 |nil=>intro i t; simp [w4c,z2f]
 |cons x l ih=>
  intro i t
  simp only [w4c,z2f]
  cases hb:Nat.beq i t with
  |true=>have:=Nat.eq_of_beq_eq_true hb; subst this; simp
  |false=>
   have hne:i≠t:=by rintro rfl; simp at hb
   simp only [cond_false]
   rw [ih]
   by_cases h1:i+1≤t
   ·rw [if_pos h1,if_pos (by omega),show t - i=(t - (i+1))+1 by omega]; simp
   ·rw [if_neg h1,if_neg (by omega)]
theorem z12.cells {O:Nat→Prop} {w w':World} (hc:∀ (a:Addr) (v:Value),w.cell? a=some v→w'.cell? a=some v) {x:D} {v:Value} (h:z12 O w x v):z12 O w' x v:=by
 induction h with
 |bool b=>exact .bool b
 |int k n=>exact .int k n
 |str s=>exact .str s
 |nilp=>exact .nilp
 |nilm=>exact .nilm
 |nilf=>exact .nilf
 |nili=>exact .nili
 |agg ds vs hl h ih=>exact .agg ds vs hl ih
 |lnil f z a c h=>exact .lnil f z a c h
 |list full es b o z c hz hne hO hlc hf hsz cell h1 hcc h ih=>exact .list full es b o z c hz hne hO hlc hf hsz cell h1 (fun j hj=>hc _ _ (hcc j hj)) ih
 |ref r b o hne hO cell hcc h ih=>exact .ref r b o hne hO cell (fun j hj=>hc _ _ (hcc j hj)) ih
theorem z0t.cells {ρ:Rho} {O:Nat→Prop} {w w':World} (hc:∀ (a:Addr) (v:Value),w.cell? a=some v→w'.cell? a=some v) (hs:w.heap.size≤w'.heap.size) (hb:∀ b m,z1v w b=some m→z1v w' b=some m) {x:AV} {v:Value} (h:z0t ρ O w x v):z0t ρ O w' x v:=by
 induction h with
 |bot v=>exact .bot v
 |d h=>exact .d (h.cells hc)
 |bptr id off L h=>exact .bptr id off L h
 |ptr id i off L h=>exact .ptr id i off L h
 |lptr r off b o hlt hO cell hcc hr=>exact .lptr r off b o (Nat.lt_of_lt_of_le hlt hs) hO cell (fun j hj=>hc _ _ (hcc j hj)) (fun j x hx=>(hr j x hx).cells hc)
 |wptr es off b o z hlt hO hz hcc=>exact .wptr es off b o z (Nat.lt_of_lt_of_le hlt hs) hO hz fun i r j x hi hx=>let ⟨v,hv,hr⟩:=hcc i r j x hi hx; ⟨v,hc _ _ hv,hr.cells hc⟩
 |slice id z off len cap L a c h hz ha hcc hl=>
  refine .slice id z off len cap L a c h hz ha ?_ hl
  rcases hcc with hcc|⟨hcc,n,hn,hle⟩
  ·exact .inl hcc
  ·exact .inr ⟨hcc,n,hb _ _ hn,hle⟩
 |nils id z off cap a hc=>exact .nils id z off cap a hc
 |map id L h=>exact .map id L h
 |yld id L h=>exact .yld id L h
 |clo fn fs cs vf vc hf hc h1 h2 ih1 ih2=>exact .clo fn fs cs vf vc hf hc ih1 ih2
 |iface t x v h ih=>exact .iface t x v ih
 |agg xs vs hl h ih=>exact .agg xs vs hl ih
 |tuple xs vs hl h ih=>exact .tuple xs vs hl ih
theorem z0c.cells {ρ:Rho} {h:List AO} {w w':World} (hr:z0c P ρ h w) (hc:∀ (a:Addr) (v:Value),w.cell? a=some v→w'.cell? a=some v) (hs:w.heap.size≤w'.heap.size) (hb:∀ b m,z1v w b=some m→z1v w' b=some m)
  (ho:∀ b,z0i ρ h b→w'.heap[b]?=w.heap[b]?):z0c P ρ h w' where
 obj:=fun id L hL=>by
  obtain ⟨h1,h2⟩:=hr.obj id L hL
  refine ⟨Nat.lt_of_lt_of_le h1 hs,?_⟩
  by_cases hl:(z0j h id).live=true
  ·have hbk:=ho _ (.inr ⟨id,L,hL,hl,rfl⟩)
   cases hno:z0j h id with
   |dead=>trivial
   |box cells=>
    rw [hno] at h2
    obtain ⟨c,t,hcb,hj⟩:=h2
    exact ⟨c,t,hbk▸hcb,fun j x hx=>let ⟨v,hv,hvr⟩:=hj j x hx; ⟨v,hv,hvr.cells hc hs hb⟩⟩
   |row es=>
    rw [hno] at h2
    obtain ⟨hz,c,t,hcb,hl',hj⟩:=h2
    exact ⟨hz,c,t,hbk▸hcb,hl',fun i r j x hi hx=>let ⟨v,hv,h1,hvr⟩:=hj i r j x hi hx; ⟨v,hv,h1,hvr.cells hc⟩⟩
   |arow es=>
    rw [hno] at h2
    obtain ⟨hz,c,t,hcb,hl',hj⟩:=h2
    exact ⟨hz,c,t,hbk▸hcb,hl',fun i r j x hi hx=>let ⟨v,hv,h1,hvr⟩:=hj i r j x hi hx; ⟨v,hv,h1,hvr.cells hc hs hb⟩⟩
   |map es=>
    rw [hno] at h2
    obtain ⟨en,clk,hcb,hl',hj⟩:=h2
    exact ⟨en,clk,hbk▸hcb,hl',fun i k x hi=>let ⟨e,he,h1,hvr⟩:=hj i k x hi; ⟨e,he,h1.cells hc,hvr.cells hc⟩⟩
   |loop st pd g pos nt env=>
    rw [hno] at h2
    obtain ⟨x,ps,asg,body,hcd,tm,ds,f,hcb,hl',hj⟩:=h2
    exact ⟨x,ps,asg,body,hcd,tm,ds,f,hbk▸hcb,hl',fun t=>(hj t).cells hc hs hb⟩
  ·cases hno:z0j h id<;>simp_all [AO.live,z17]
 inj:=hr.inj
 fr:=fun b hf=>Nat.lt_of_lt_of_le (hr.fr b hf) hs
 sep:=hr.sep
theorem w2y {P:Program} {b:Nat} {ds:List Deferred} {w:World} (h:w.heap[b]?=some (.deferred (some ds))):(Instr.takeDeferred b).run P w= .ok ds (World.setObj w b (.deferred none)):=by
 simp [Instr.takeDeferred,getObj,setObj,Sem.run,h]; rfl
theorem w5t (B:Nat) (F:Nat→Prop):∀ (ds:List Deferred) (fr:Frame) (cs:List Frame) (w:World),fr.mode= .returning→fr.defers=ds→z3y none B F w ds→∃ w',Steps P (lone fr cs w) (lone { fr with defers:=[] } cs w')∧w'.os=w.os∧w'.tape=w.tape∧w'.output=w.output∧w'.heap.size=w.heap.size∧
  (∀ b,(∀ d∈ds,d.target≠ .collected b)→w'.heap[b]?=w.heap[b]?)∧w'.drawn=w.drawn
 |[],fr,cs,w,hm,hd,hok=>⟨w,by rw [←hd]; exact Steps.refl _ _,rfl,rfl,rfl,rfl,fun _ _=>rfl,rfl⟩
 |d::ds,fr,cs,w,hm,hd,hok=>by
  obtain ⟨r,e,hr,hB⟩:=hok.mark d (by simp)
  have hk:=w2y (P:=P) hr
  have hst:=step_collected (cs:=cs) (by rw [hm]; simp) hd (by rw [e]) hk
  have hlt:r<w.heap.size:=(Array.getElem?_eq_some_iff.1 hr).1
  obtain ⟨w',g1,g2,g3,g4,g5,g6,g7⟩:=w5t B F ds { fr with defers:=ds } cs (World.setObj w r (.deferred none)) hm rfl ⟨(List.nodup_cons.1 hok.nodup).2,fun d' hd'=>by
   obtain ⟨r',e',hr',hf'⟩:=hok.mark d' (by simp [hd'])
   refine ⟨r',e',?_,hf'⟩
   have hne:r'≠r:=by
    rintro rfl
    rw [←e] at e'
    subst e'
    exact (List.nodup_cons.1 hok.nodup).1 hd'
   rw [z14 _ _ _ _ hne]; exact hr',hok.below,by rw [z13]; exact hok.le,fun l hl=>by cases hl⟩
  refine ⟨w', .head (by simpa using hst) g1,g2,g3,g4,by rw [g5,z13],fun b hb=>?_,g7⟩
  rw [g6 b (fun d' hd'=>hb d' (by simp [hd']))]
  have:b≠r:=by rintro rfl; exact hb d (by simp) (by rw [e])
  exact z14 _ _ _ _ this
theorem z6w.init {O:Nat→Prop} {args:List AV} {vs:Array Value} (ha:z24 ρ O w args vs) (nt:Nat):z6w ρ O w (w4c 0 args) (vs++Array.replicate (nt - vs.size) undef):=by
 intro t
 rw [x99,if_pos (Nat.zero_le _),Nat.sub_zero]
 cases hq:args[t]? with
 |none=>exact .bot _
 |some x=>
  have:=ha.2 t x hq
  have hlt:t<vs.size:=by rw [ha.1]; exact (List.getElem?_eq_some_iff.1 hq).1
  rw [Array.getD_eq_getD_getElem?,Array.getElem?_append_left hlt, ←Array.getD_eq_getD_getElem?]
  simpa using this
theorem x2h {T : TypeId → Option TI} (hT : y1v P T) {f : FuncId} {fn : Func} (hf : P.funcs[f]? = some fn) {c : Code} (hb : fn.body = some c) {args : List AV} {h : List AO} {r : AV} {h' : List AO} {nt : Nat} (hnt : fn.ntmps = nt) (hle : args.length ≤ nt)
    (hc : z6m P h.length c ⟨w4c 0 args, h, nt⟩ (fun e s => (e = .normal ∨ e = .ret) ∧ v1a T s fn.results.toList = some r ∧ s.heap = h')) : z90 P f args h r h' := ⟨by
  intro ρ vs w cs hh hdm ha
  have hstart : (Frame.enter P f vs .normal).on (vs ++ Array.replicate (nt - vs.size) undef) [] [.code c] = Frame.enter P f vs .normal := by
    simp [Frame.enter, Frame.on, hf, hb, hnt]
  have h1 : z2b P ρ ⟨w4c 0 args, h, nt⟩ (vs ++ Array.replicate (nt - vs.size) undef) w :=
    ⟨hh, z6w.init ha nt, by simp [ha.1]; omega, hdm⟩
  obtain ⟨e, s', ρ', tm', ds', w', ⟨q1, q2, q3⟩, g1, g2, g3, g4, g5⟩ := hc.run (Frame.enter P f vs .normal) [] cs ρ _ [] w w.heap.size h1 ⟨List.nodup_nil, by simp, hh.fr, Nat.le_refl _, fun l hl => by cases hl⟩
  subst q3
  rw [hstart] at g5
  obtain ⟨todo, hst⟩ : ∃ todo, Steps P (lone (Frame.enter P f vs .normal) cs w) (lone { (Frame.enter P f vs .normal).on tm' ds' todo with mode := .returning } cs w') := by
    rcases q1 with rfl | rfl
    · exact ⟨_, Steps.trans g5 (.one (v05 rfl))⟩
    · obtain ⟨k', hs⟩ := g5
      exact ⟨_, Steps.trans hs (.one (v04 rfl))⟩
  obtain ⟨w2, u1, u2, u3, u4, u5, u6, u7⟩ := w5t (P := P) _ _ ds' { (Frame.enter P f vs .normal).on tm' ds' todo with mode := .returning } cs w' rfl rfl g2
  have hnot : ∀ b, z0i ρ' s'.heap b → ∀ d ∈ ds', d.target ≠ .collected b := by
    intro b hbo d hd hdt
    obtain ⟨r', e', hr', hf'⟩ := g2.mark d hd
    rw [e'] at hdt
    cases hdt
    exact x47 g1.heap (fun hf => by have := g2.below _ hf; omega) hbo hr'
  have hbs : ∀ b m, z1v w' b = some m → z1v w2 b = some m := by
    intro b m hm
    have : ∀ d ∈ ds', d.target ≠ .collected b := by
      intro d hd hdt
      obtain ⟨r', e', hr', _⟩ := g2.mark d hd
      rw [e'] at hdt; cases hdt
      simp [z1v, hr'] at hm
    unfold z1v; rw [u6 b this]; exact hm
  have hold : ∀ b, b < w.heap.size → w2.heap[b]? = w'.heap[b]? := by
    intro b hb
    refine u6 b fun d hd hdt => ?_
    obtain ⟨r', e', _, hB⟩ := g2.mark d hd
    rw [e'] at hdt; cases hdt
    omega
  have hcell : ∀ (a : Addr) (v : Value), w'.cell? a = some v → w2.cell? a = some v := by
    intro a v hv
    have : ∀ d ∈ ds', d.target ≠ .collected a.block := by
      intro d hd hdt
      obtain ⟨r', e', hr', _⟩ := g2.mark d hd
      rw [e'] at hdt; cases hdt
      unfold World.cell? at hv
      rw [hr'] at hv; cases hv
    rw [z3r (w := w') (u6 _ this)]; exact hv
  have hh2 : z0c P ρ' s'.heap w2 := g1.heap.cells hcell (by omega) hbs (fun b hb => u6 b (hnot b hb))
  have g1' : z2b P ρ' s' tm' w2 := ⟨hh2, fun t => (g1.env t).cells hcell (by omega) hbs, g1.size, g1.dom⟩
  obtain ⟨v, hv1, hv2⟩ := x6y hT g1' q2
  refine ⟨ρ', v, w2, _, Steps.trans hst u1, rfl, ⟨rfl, rfl, rfl, fn, hf, hv1⟩, hv2, hh2, g1.dom, ?_⟩
  exact
    { os := u2.trans g4.os
      tape := u3.trans g4.tape
      output := u4.trans g4.output
      keep :=
        { size := by rw [u5]; exact g4.keep.size
          frame := fun b hb ho => (hold b hb).trans (g4.keep.frame b hb ho)
          own := fun b hb ho => g4.keep.own b hb ho
          shape := fun b m hm => hbs b m (g4.keep.shape b m hm)
          drawn := by rw [u7]; exact g4.keep.drawn }
      rho := g4.rho
      fr := g4.fr
      frs := fun b hf => (hold b (hh.fr b hf)).trans (g4.frs b hf) }⟩
end
end Go.Am
end
section
namespace Go.Am
inductive y93:AV→Prop
 |bot:y93 .bot
 |d (x:D):y93 (.d x)
 |tuple (xs:List AV) (h:∀ (i:Nat) (x:AV),xs[i]?=some x→y93 x):y93 (.tuple xs)
 |agg (xs:List AV) (h:∀ (i:Nat) (x:AV),xs[i]?=some x→y93 x):y93 (.agg xs)
 |clo (fn:Fn) (fs cs:List AV) (h1:∀ (i:Nat) (x:AV),fs[i]?=some x→y93 x) (h2:∀ (i:Nat) (x:AV),cs[i]?=some x→y93 x):y93 (.clo fn fs cs)
theorem y93.rel {ρ ρ':Rho} {O O':Nat→Prop} {w:World} (ho:∀ b,O' b→O b) {x:AV} {v:Value} (hf:y93 x) (h:z0t ρ O w x v):z0t ρ' O' w x v:=by
 induction hf generalizing v with
 |bot=>exact .bot v
 |d x=>
  cases h with
  |d h=>exact .d (h.keep ⟨Nat.le_refl _,fun _ _ _=>rfl,fun b _ hb=>ho b hb,fun _ _ h=>h,z00.refl _⟩)
 |tuple xs hx ih=>
  cases h with
  |tuple _ vs hl hh=>exact .tuple _ _ hl fun i x hx=>ih i x hx (hh i x hx)
 |agg xs hx ih=>
  cases h with
  |agg _ vs hl hh=>exact .agg _ _ hl fun i x hx=>ih i x hx (hh i x hx)
 |clo fn fs cs h1 h2 ih1 ih2=>
  cases h with
  |clo _ _ _ vf vc a b c d=>exact .clo _ _ _ _ _ a b (fun i x hx=>ih1 i x hx (c i x hx)) (fun i x hx=>ih2 i x hx (d i x hx))
def v0g (P:Program) (f:FuncId) (args:List AV) (r:AV):Prop:=z90 P f args [] r []
theorem v0g.at {P : Program} {f : FuncId} {args : List AV} {r : AV} (h : v0g P f args r) (ha : ∀ (i : Nat) (x : AV), args[i]? = some x → y93 x) (hr : y93 r) (hp : List AO) : z90 P f args hp r hp := ⟨by
  intro ρ vs w cs hh hdm har
  let ρc : Rho := ⟨fun _ => none, z0i ρ hp⟩
  have hc : z0c P ρc [] w := ⟨fun id L hL => (by cases hL), fun id id' L L' hL => (by cases hL), fun b hb => z95 hh hb, fun id L hL => (by cases hL)⟩
  have hown : ∀ b, z0i ρc [] b ↔ z0i ρ hp b := fun b => ⟨fun hb => hb.elim id (fun ⟨id, L, hL, _⟩ => (by cases hL)), fun hb => .inl hb⟩
  obtain ⟨ρ', v, w', fr, hst, hfn, hlv, hv, hh', hdm', hx⟩ := h.run ρc vs w cs hc (fun id hid => absurd rfl hid) ⟨har.1, fun i x hi => (ha i x hi).rel (fun b hb => (hown b).1 hb) (har.2 i x hi)⟩
  have hfr : ρ'.fr = z0i ρ hp := hx.fr
  have hold : ∀ b, b < w.heap.size → w'.heap[b]? = w.heap[b]? := by
    intro b hb
    by_cases ho : z0i ρ hp b
    · exact hx.frs b ho
    · exact hx.keep.frame b hb (fun h => ho ((hown b).1 h))
  have hk : z5n (z0i ρ hp) (z0i ρ hp) w w' :=
    { size := hx.keep.size
      frame := fun b hb _ => hold b hb
      own := fun b _ h => h
      shape := hx.keep.shape
      drawn := hx.keep.drawn }
  refine ⟨ρ, v, w', fr, hst, hfn, hlv, hr.rel (fun b hb => .inl (by rw [hfr]; exact hb)) hv, hh.of_keep hk (fun b hb => hold b (z95 hh hb)), hdm, ?_⟩
  exact { os := hx.os, tape := hx.tape, output := hx.output, keep := hk, rho := fun _ _ => rfl, fr := rfl, frs := fun b hf => hold b (hh.fr b hf) }⟩
theorem z0c.ext {P:Program} {ρ:Rho} {h h':List AO} {w:World} (e:∀ id,z0j h id=z0j h' id) (hr:z0c P ρ h w):z0c P ρ h' w:=by
 have ho:z0i ρ h=z0i ρ h':=by funext b; unfold z0i; simp only [e]
 refine ⟨fun id L hL=>?_,fun id id' L L' h1 h2 l1 l2=>hr.inj id id' L L' h1 h2 (by rw [e]; exact l1) (by rw [e]; exact l2),hr.fr,fun id L hL hl=>hr.sep id L hL (by rw [e]; exact hl)⟩
 have:=hr.obj id L hL
 rw [←ho, ←e]; exact this
theorem z3p {ρ:Rho} {h h':List AO} (e:∀ id,z0j h id=z0j h' id):z0i ρ h=z0i ρ h':=by funext b; unfold z0i; simp only [e]
def y6z (o:Op):List Nat:=o.operands.toList.filterMap fun| .tmp t=>some t|_=>none
def y7g (ops:List Oper):Option (Nat×Bool)→List Nat
 |none=>[]
 |some (j,_)=>match z2k ops j with
  |some o=>o.dst.toList
  |none=>[]
def z6y:Op→Bool
 | .load ..| .store ..| .lookup ..| .mapUpdate ..| .insert ..=>true
 | .call ⟨.builtin b,_,_⟩=>match b with
  | .min| .max=>false
  |_=>true
 | .call _=>true
 |_=>false
def y4c:Op→Bool
 | .store ..| .mapUpdate ..| .insert ..=>true
 | .call ⟨.builtin b,_,_⟩=>match b with
  | .min| .max| .len=>false
  |_=>true
 |_=>false
end Go.Am
end
section
namespace Go.Am
open Go.ChangeShapes Go.WideShapes
inductive RK where
 |int (k:IntKind)|bool|str
 |list (ks:List RK)
 deriving Inhabited
def v6x (P:Program) (r:TypeId→Option (List RK)):Nat→List Field→Option (List RK)
 |_,[]=>some []
 |off,f::fs=>match r f.type with
  |some ks=>bif Nat.beq f.offset off&&Nat.beq (P.cellsOf f.type) ks.length then match v6x P r (off+ks.length) fs with
    |some l=>some (ks++l)
    |none=>none
   else none
  |none=>none
def many {α:Type}:Nat→List α→List α
 |0,_=>[]
 |m+1,ks=>ks++many m ks
def shp (P:Program):Nat→TypeId→Option (List RK)
 |0,_=>none
 |n+1,t=>match P.underlying t with
  |some .bool=>some [.bool]
  |some (.int k)=>some [.int k]
  |some .string=>some [.str]
  |some (.slice e)=>match shp P n e with
   |some ks=>bif Nat.beq (P.cellsOf e) ks.length&&Nat.blt 0 ks.length then some [.list ks] else none
   |none=>none
  |some (.struct fs)=>match v6x P (shp P n) 0 fs.toList with
   |some ks=>bif Nat.beq (P.cellsOf t) ks.length then some ks else none
   |none=>none
  |some (.array m e)=>match shp P n e with
   |some ks=>bif Nat.beq (P.cellsOf e) ks.length&&Nat.beq (P.cellsOf t) (m*ks.length) then some (many m ks) else none
   |none=>none
  |_=>none
mutual
def DK:RK→D→Prop
 | .int k, .int k' n=>k'=k∧(Lit.int k n).wf=true
 | .bool, .bool _=>True
 | .str, .str s=>s.size≤maxLen
 | .list ks, .list f z es=>f=false∧z=ks.length∧es.length≤maxLen∧y53 ks es
 |_,_=>False
def DKs:List RK→List D→Prop
 |[],[]=>True
 |k::ks,d::ds=>DK k d∧DKs ks ds
 |_,_=>False
def y53:List RK→List (List D)→Prop
 |_,[]=>True
 |ks,r::es=>DKs ks r∧y53 ks es
end
theorem DKs.length:∀ {ks:List RK} {ds:List D},DKs ks ds→ds.length=ks.length
 |[],[],_=>rfl
 |[],_::_,h=>by simp [DKs] at h
 |_::_,[],h=>by simp [DKs] at h
 |k::ks,d::ds,h=>by simp only [DKs] at h; simp [DKs.length h.2]
theorem DKs.append:∀ {ks ks':List RK} {ds ds':List D},DKs ks ds→DKs ks' ds'→DKs (ks++ks') (ds++ds')
 |[],_,[],_,_,h'=>h'
 |[],_,_::_,_,h,_=>by simp [DKs] at h
 |_::_,_,[],_,h,_=>by simp [DKs] at h
 |k::ks,_,d::ds,_,h,h'=>by
  simp only [DKs] at h
  exact ⟨h.1,DKs.append h.2 h'⟩
theorem z7t {ks:List RK}:∀ {es:List (List D)},y53 ks es↔∀ r∈es,DKs ks r
 |[]=>by simp [y53]
 |r::es=>by simp [y53,z7t (es:=es)]
section
variable {P:Program} {H:Type} {enc:TypeId×Value→H} {w:World} {O:Nat→Prop}
def w2d (O:Nat→Prop) (w:World) (ds:List D) (cs:List Value):Prop:=cs.length=ds.length∧∀ (j:Nat) (x:D),ds[j]?=some x→∃ v,cs[j]?=some v∧v.oneCell'=true∧z12 O w x v
theorem w2d.one {x:D} {v:Value} (h1:v.oneCell'=true) (h:z12 O w x v):w2d O w [x] [v]:=⟨rfl,fun j y hj=>by
 match j,hj with
 |0,hj=>cases hj; exact ⟨v,rfl,h1,h⟩
 |j+1,hj=>simp at hj⟩
theorem w2d.append {ds ds':List D} {cs cs':List Value} (h:w2d O w ds cs) (h':w2d O w ds' cs'):w2d O w (ds++ds') (cs++cs'):=by
 refine ⟨by simp [h.1,h'.1],fun j x hj=>?_⟩
 rw [List.getElem?_append] at hj⊢
 rw [h.1]
 split at hj
 ·rename_i hl; rw [if_pos hl]; exact h.2 j x hj
 ·rename_i hl; rw [if_neg hl]; exact h'.2 _ x hj
theorem x12 {α:Type} (cs:List α) (a b:Nat) (h:a+b≤cs.length):cs.drop a=(cs.drop a).take b++cs.drop (a+b):=by
 rw [←List.drop_drop]
 exact (List.take_append_drop b (cs.drop a)).symm
def y9v (P:Program) (enc:TypeId×Value→H) (w:World) (O:Nat→Prop) (sp:Nat→Bool) (hd:Bool) (n:Nat):Prop:=
 ∀ (fuel:Nat) (t:TypeId) (cs:List Value) (ks:List RK) (x:DataW H×List MemPlace),shp P n t=some ks→DataW.trod enc P w 0 sp hd fuel t cs=some x→∃ ds,DKs ks ds∧w2d O w ds cs
theorem x1v {sp:Nat→Bool} {hd:Bool} {n:Nat} (ih:y9v P enc w O sp hd n) {fuel:Nat} {cs:List Value}:∀ (fs:List Field) (off:Nat) (ks:List RK),v6x P (shp P n) off fs=some ks→off+ks.length=cs.length→
  (∀ f∈fs,∃ x,DataW.trod enc P w 0 sp hd fuel f.type ((cs.drop f.offset).take (P.cellsOf f.type))=some x)→∃ ds,DKs ks ds∧w2d O w ds (cs.drop off)
 |[],off,ks,h,hl,_=>by
  cases h
  simp only [List.length_nil,Nat.add_zero] at hl
  subst hl
  exact ⟨[],trivial,by rw [List.drop_length]; exact ⟨rfl,fun j x hj=>by simp at hj⟩⟩
 |f::fs,off,ks,h,hl,hr=>by
  simp only [v6x] at h
  split at h
  ·rename_i ks0 h0
   cases hb:Nat.beq f.offset off&&Nat.beq (P.cellsOf f.type) ks0.length with
   |false=>rw [hb] at h; cases h
   |true=>
    rw [hb] at h; simp only [cond_true] at h
    have hb:=(Iff.of_eq (Bool.and_eq_true _ _)).1 hb|>.imp Nat.eq_of_beq_eq_true Nat.eq_of_beq_eq_true
    split at h
    ·rename_i l h1
     cases h
     rw [List.length_append] at hl
     obtain ⟨x,hx⟩:=hr f (by simp)
     rw [hb.1,hb.2] at hx
     obtain ⟨ds0,a1,a2⟩:=ih _ _ _ _ _ h0 hx
     obtain ⟨ds1,b1,b2⟩:=x1v ih fs (off+ks0.length) l h1 (by omega) (fun f hf=>hr f (by simp [hf]))
     refine ⟨ds0++ds1,a1.append b1,?_⟩
     rw [x12 cs off ks0.length (by omega)]
     exact a2.append b2
    ·cases h
  ·cases h
theorem x9e {sp:Nat→Bool} {hd:Bool} {n:Nat} (ih:y9v P enc w O sp hd n) {fuel:Nat} {cs:List Value} {e:TypeId} {ks:List RK} (h:shp P n e=some ks) (hc:P.cellsOf e=ks.length):∀ (m off:Nat),off*ks.length+m*ks.length=cs.length→
  (∀ i,off≤i→i<off+m→∃ x,DataW.trod enc P w 0 sp hd fuel e ((cs.drop (i*P.cellsOf e)).take (P.cellsOf e))=some x)→∃ ds,DKs (many m ks) ds∧w2d O w ds (cs.drop (off*ks.length))
 |0,off,hl,_=>by
  simp only [Nat.zero_mul,Nat.add_zero] at hl
  exact ⟨[],trivial,by rw [hl,List.drop_length]; exact ⟨rfl,fun j x hj=>by simp at hj⟩⟩
 |m+1,off,hl,hr=>by
  rw [Nat.add_mul,Nat.one_mul] at hl
  obtain ⟨x,hx⟩:=hr off (Nat.le_refl _) (by omega)
  rw [hc] at hx
  obtain ⟨ds0,a1,a2⟩:=ih _ _ _ _ _ h hx
  have e1:(off+1)*ks.length=off*ks.length+ks.length:=by rw [Nat.add_mul,Nat.one_mul]
  obtain ⟨ds1,b1,b2⟩:=x9e ih h hc m (off+1) (by rw [e1]; omega) (fun i h1 h2=>hr i (by omega) (by omega))
  refine ⟨ds0++ds1,a1.append b1,?_⟩
  rw [x12 cs (off*ks.length) ks.length (by omega), ←e1]
  exact a2.append b2
theorem y5l {p:Nat→List D→Prop}:∀ n,(∀ i,i<n→∃ r,p i r)→∃ es:List (List D),es.length=n∧∀ i r,es[i]?=some r→p i r
 |0,_=>⟨[],rfl,fun i r h=>by simp at h⟩
 |n+1,h=>by
  obtain ⟨es,a,b⟩:=y5l n fun i hi=>h i (Nat.lt_succ_of_lt hi)
  obtain ⟨r,hr⟩:=h n (Nat.lt_succ_self n)
  refine ⟨es++[r],by simp [a],fun i q hq=>?_⟩
  rw [List.getElem?_append] at hq
  split at hq
  ·exact b i q hq
  ·rename_i hl
   have:i=n:=by
    cases hk:i - es.length with
    |zero=>omega
    |succ m=>rw [hk] at hq; simp at hq
   subst this
   rw [a,Nat.sub_self] at hq
   cases hq; exact hr
theorem x2a {base:Nat} {a:Addr} {n:Nat} {cs:List Value} (h:w.cells? base a n=some cs):cs.length=n∧∀ j,j<n→w.cell? (a.add j)=cs[j]?:=by
 unfold World.cells? at h
 split at h
 ·have key:∀ (m:Nat) (l:List Nat) (cs:List Value),l.mapM (fun i=>w.cell? (a.add i))=some cs→cs.length=l.length∧∀ (j i:Nat),l[j]?=some i→w.cell? (a.add i)=cs[j]?:=by
   intro m l
   induction l with
   |nil=>intro cs h; simp at h; subst h; simp
   |cons i l ih=>
    intro cs h
    simp only [List.mapM_cons,Option.bind_eq_bind,Option.bind_eq_some_iff,Option.pure_def,Option.some.injEq] at h
    obtain ⟨v,hv,vs,hvs,rfl⟩:=h
    obtain ⟨e1,e2⟩:=ih _ hvs
    refine ⟨by simp [e1],fun j i' hj=>?_⟩
    match j,hj with
    |0,hj=>simp at hj; subst hj; simpa using hv
    |j+1,hj=>simpa using e2 j i' (by simpa using hj)
  obtain ⟨e1,e2⟩:=key n _ _ h
  refine ⟨by simpa using e1,fun j hj=>e2 j j (by simp [hj])⟩
 ·cases h
theorem w1r {a:Addr} {v:Value} (h:w.cell? a=some v):a.spot=none:=by
 unfold World.cell? at h
 split at h
 ·split at h
  ·cases h
  ·rename_i hs; simpa using hs
 ·cases h
theorem x2k (b o k:Nat):(Addr.add ⟨b,o,none⟩ k)=⟨b,o+k,none⟩:=by
 unfold Addr.add
 split
 ·rename_i h; subst h; rfl
 ·rfl
theorem y8p {sp:Nat→Bool} {hd:Bool} (hO:∀ b,¬ O b):∀ n,y9v P enc w O sp hd n
 |0=>fun fuel t cs ks x h _=>by cases h
 |n+1=>fun fuel t cs ks x h ht=>by
  have ih:y9v P enc w O sp hd n:=y8p hO n
  cases fuel with
  |zero=>simp [DataW.trod] at ht
  |succ m=>
  simp only [shp] at h
  split at h
  ·
   rename_i hu
   cases h
   obtain ⟨b,rfl,_⟩:=DataW.trod_bool hu ht
   exact ⟨[.bool b],⟨trivial,trivial⟩, .one rfl (.bool _)⟩
  ·rename_i k hu
   cases h
   obtain ⟨i,rfl,_,hw⟩:=DataW.trod_int hu ht
   exact ⟨[.int k i],⟨⟨rfl,hw⟩,trivial⟩, .one rfl (.int _ _)⟩
  ·rename_i hu
   cases h
   obtain ⟨s,rfl,hsz⟩:∃ s,cs=[.string s]∧s.size≤maxLen:=by
    unfold DataW.trod at ht
    rw [hu] at ht
    split at ht<;>simp_all
   exact ⟨[.str s],⟨hsz,trivial⟩, .one rfl (.str _)⟩
  ·
   rename_i e hu
   split at h
   ·rename_i ks0 h0
    cases hb:Nat.beq (P.cellsOf e) ks0.length&&Nat.blt 0 ks0.length with
    |false=>rw [hb] at h; cases h
    |true=>
    rw [hb] at h; simp only [cond_true] at h; cases h
    have hb:=(Iff.of_eq (Bool.and_eq_true _ _)).1 hb|>.imp Nat.eq_of_beq_eq_true id
    have hz:0<ks0.length:=Nat.lt_of_succ_le (Nat.le_of_ble_eq_true hb.2)
    rcases DataW.trod_slice hu ht with ⟨rfl,_⟩|⟨a,len,cap,elems,rest,m',_,rfl,_,_,hlc,hcm,hel,hget,_⟩
    ·exact ⟨[.list false ks0.length []],by simp [DKs,DK,y53], .one rfl (.lnil false _ _ _ (by simp))⟩
    ·rw [hb.1] at hget
     have hrow:∀ i,i<len→∃ r,DKs ks0 r∧∃ cs,w.cells? 0 (a.add (i*ks0.length)) ks0.length=some cs∧w2d O w r cs:=by
      intro i hi
      have h1:=hget i hi
      have hi':i<elems.length:=by omega
      rw [List.getElem?_eq_getElem hi'] at h1
      obtain ⟨cs,hcs,htr⟩:=Option.bind_eq_some_iff.1 h1
      obtain ⟨r,q1,q2⟩:=ih _ _ _ _ _ h0 htr
      exact ⟨r,q1,cs,hcs,q2⟩
     obtain ⟨es,hes,hp⟩:=y5l len hrow
     have hrows:y53 ks0 es:=z7t.2 fun r hr=>by
      obtain ⟨i,hi⟩:=List.getElem?_of_mem hr
      exact (hp i r hi).1
     refine ⟨[.list false ks0.length es],⟨⟨rfl,rfl,by omega,hrows⟩,trivial⟩, .one rfl ?_⟩
     by_cases h00:len=0
     ·have:es=[]:=List.length_eq_zero_iff.1 (by omega)
      subst this; subst h00
      exact .lnil false _ _ _ (by simp)
     ·
      have hne:es≠[]:=fun h=>h00 (by rw [h] at hes; exact hes.symm)
      have hspot:a.spot=none:=by
       obtain ⟨r,hr⟩:∃ r,es[0]?=some r:=⟨es[0]'(by omega),List.getElem?_eq_getElem (by omega)⟩
       obtain ⟨_,cs,hcs,hcr⟩:=hp 0 r hr
       obtain ⟨e1,e2⟩:=x2a hcs
       have e3:=e2 0 hz
       rw [List.getElem?_eq_getElem (by omega)] at e3
       have:(a.add (0*ks0.length)).add 0=a:=by simp [Addr.add]
       rw [this] at e3
       exact w1r e3
      obtain ⟨b,o,s⟩:=a
      simp only at hspot; subst hspot
      have hcellk:∀ (i:Nat) (r:List D) (j:Nat) (x:D),es[i]?=some r→r[j]?=some x→∃ v,w.cell? ⟨b,o+(i*ks0.length+j),none⟩=some v∧v.oneCell'=true∧z12 O w x v:=by
       intro i r j x hi hj
       obtain ⟨q0,cs,hcs,hcr⟩:=hp i r hi
       obtain ⟨e1,e2⟩:=x2a hcs
       obtain ⟨v,hv,h1,h2⟩:=hcr.2 j x hj
       have hj':j<ks0.length:=by rw [←q0.length]; exact (List.getElem?_eq_some_iff.1 hj).1
       have:=e2 j hj'
       rw [x2k,x2k,hv,Nat.add_assoc] at this
       exact ⟨v,this,h1,h2⟩
      have hlens:∀ (i:Nat) (r:List D),es[i]?=some r→r.length=ks0.length:=fun i r hi=>(hp i r hi).1.length
      let cell:Nat→Value:=fun k=>(w.cell? ⟨b,o+k,none⟩).getD undef
      have hall:∀ k,k<es.length*ks0.length→∃ v,w.cell? ⟨b,o+k,none⟩=some v∧v.oneCell'=true:=by
       intro k hk
       have hi:k / ks0.length<es.length:=(Nat.div_lt_iff_lt_mul hz).2 hk
       have hj:k % ks0.length<ks0.length:=Nat.mod_lt _ hz
       have hr:=List.getElem?_eq_getElem hi
       have hj2:k % ks0.length<(es[k / ks0.length]).length:=by rw [hlens _ _ hr]; exact hj
       obtain ⟨v,a1,a2,_⟩:=hcellk _ _ _ _ hr (List.getElem?_eq_getElem hj2)
       have:k / ks0.length*ks0.length+k % ks0.length=k:=by rw [Nat.mul_comm]; exact Nat.div_add_mod _ _
       rw [this] at a1
       exact ⟨v,a1,a2⟩
      have key:=z12.list (O:=O) (w:=w) false es b o ks0.length cap hz hne (hO b) (by omega) (by simp) hlens cell (fun k hk=>?_) (fun k hk=>?_) (fun i r j d hi hj=>?_)
      ·rw [hes] at key; exact key
      ·obtain ⟨v,a1,a2⟩:=hall k hk
       show ((w.cell? ⟨b,o+k,none⟩).getD undef).oneCell'=true
       rw [a1]; exact a2
      ·obtain ⟨v,a1,a2⟩:=hall k hk
       show w.cell? ⟨b,o+k,none⟩=some ((w.cell? ⟨b,o+k,none⟩).getD undef)
       rw [a1]; rfl
      ·obtain ⟨v,a1,_,a3⟩:=hcellk i r j d hi hj
       show z12 O w d ((w.cell? ⟨b,o+(i*ks0.length+j),none⟩).getD undef)
       rw [a1]; exact a3
   ·cases h
  ·
   rename_i fs hu
   split at h
   ·rename_i ks0 h0
    cases hb:Nat.beq (P.cellsOf t) ks0.length with
    |false=>rw [hb] at h; cases h
    |true=>
    rw [hb] at h; simp only [cond_true] at h; cases h
    have hb:=Nat.eq_of_beq_eq_true hb
    obtain ⟨xs,m',_,_,hl,hxl,hf⟩:=DataW.trod_struct hu ht
    have:=x1v (P:=P) (enc:=enc) (w:=w) (O:=O) (cs:=cs) ih (fuel:=m') fs.toList 0 ks h0 (by omega) (fun f hfm=>by
     obtain ⟨i,hi⟩:=List.getElem?_of_mem hfm
     have hi':fs[i]?=some f:=by simpa using hi
     have:=hf i f hi'
     have hlt:i<xs.length:=by rw [hxl]; exact (Array.getElem?_eq_some_iff.1 hi').1
     rw [List.getElem?_eq_getElem hlt] at this
     exact ⟨_,this⟩)
    simpa using this
   ·cases h
  ·
   rename_i m e hu
   split at h
   ·rename_i ks0 h0
    cases hb:Nat.beq (P.cellsOf e) ks0.length&&Nat.beq (P.cellsOf t) (m*ks0.length) with
    |false=>rw [hb] at h; cases h
    |true=>
    rw [hb] at h; simp only [cond_true] at h; cases h
    have hb:=(Iff.of_eq (Bool.and_eq_true _ _)).1 hb|>.imp Nat.eq_of_beq_eq_true Nat.eq_of_beq_eq_true
    obtain ⟨xs,m',_,_,hl,hxl,hf⟩:=DataW.trod_array hu ht
    have:=x9e (P:=P) (enc:=enc) (w:=w) (O:=O) (cs:=cs) ih (fuel:=m') h0 hb.1 m 0 (by omega) (fun i _ hi=>by
     have:=hf i (by omega)
     have hlt:i<xs.length:=by omega
     rw [List.getElem?_eq_getElem hlt] at this
     exact ⟨_,this⟩)
    simpa using this
   ·cases h
  ·cases h
end
def y3u (P:Program) (t:TypeId):Bool:=match P.underlying t with
 |some (.struct _)=>true
 |some (.array _ _)=>true
 |_=>false
def u1n (P:Program) (n:Nat) (t:TypeId) (x:D):Prop:=
 match y3u P t,shp P n t with
 |true,some ks=>∃ ds,x= .agg ds∧DKs ks ds
 |false,some [k]=>DK k x
 |_,_=>False
def v6v (P:Program) (n:Nat):List TypeId→List D→Prop
 |[],[]=>True
 |t::ts,x::xs=>u1n P n t x∧v6v P n ts xs
 |_,_=>False
def w7c (P:Program) (n:Nat) (ts:List TypeId):Bool:=ts.all fun t=>match y3u P t,shp P n t with
 |true,some _=>true
 |false,some [_]=>true
 |_,_=>false
section
variable {P:Program} {H:Type} {enc:TypeId×Value→H} {w:World} {O:Nat→Prop}
theorem v5q (hO:∀ b,¬ O b) {n:Nat} {t:TypeId} {v:Value} {r:Reach} {base:Nat} {d:DataW H} {ps:List MemPlace} (hs:w7c P n [t]=true) (hok:Value.okWide P w r base t v) (ht:DataW.Trod enc P w 0 (fun _=>true) true t v d ps):∃ x,u1n P n t x∧z12 O w x v:=by
 obtain ⟨fuel,ht⟩:=ht
 simp only [w7c,List.all_cons,List.all_nil,Bool.and_true] at hs
 unfold u1n
 split at hs
 ·rename_i ks h1 h2
  obtain ⟨ds,a,b⟩:=y8p hO n _ _ _ _ _ h2 ht
  unfold y3u at h1
  split at h1
  ·rename_i fs hu
   unfold Value.okWide at hok
   rw [hu] at hok
   obtain ⟨cs,rfl,hc,_⟩:=hok
   refine ⟨_,⟨ds,rfl,a⟩, .agg ds cs (by simpa [Value.cells] using b.1) fun i y hi=>?_⟩
   obtain ⟨u,hu1,_,hu3⟩:=b.2 i y hi
   have:cs[i]?=some u:=by simpa [Value.cells] using hu1
   rw [Array.getD_eq_getD_getElem?,this]; exact hu3
  ·rename_i hu
   unfold Value.okWide at hok
   rw [hu] at hok
   obtain ⟨cs,rfl,hc,_⟩:=hok
   refine ⟨_,⟨ds,rfl,a⟩, .agg ds cs (by simpa [Value.cells] using b.1) fun i y hi=>?_⟩
   obtain ⟨u,hu1,_,hu3⟩:=b.2 i y hi
   have:cs[i]?=some u:=by simpa [Value.cells] using hu1
   rw [Array.getD_eq_getD_getElem?,this]; exact hu3
  ·cases h1
 ·rename_i k h1 h2
  obtain ⟨ds,a,b⟩:=y8p hO n _ _ _ _ _ h2 ht
  have hl:=a.length
  match ds,hl with
  |[x],_=>
   refine ⟨x,a.1,?_⟩
   obtain ⟨u,hu1,hu2,hu3⟩:=b.2 0 x rfl
   have hv:v=u:=by
    cases v with
    |agg cs=>
     exfalso
     unfold Value.okWide at hok
     unfold y3u at h1
     cases n with
     |zero=>cases h2
     |succ n=>
      simp only [shp] at h2
      split at h2
      all_goals (rename_i hu; first|(rw [hu] at hok h1; simp [Cell.okWide,Cell.ok,hu] at hok h1)|cases h2)
    |_=>simpa [Value.cells] using hu1
   rw [hv]; exact hu3
 ·cases hs
theorem w1y (hO:∀ b,¬ O b) {n:Nat} {r:Reach} {base:Nat}:∀ {ts:List TypeId} {vs:List Value} {ds:List (DataW H)} {ps:List MemPlace},w7c P n ts=true→(∀ (j:Nat) t v,ts[j]?=some t→vs[j]?=some v→Value.okWide P w r base t v)→
  DataW.TrodAll enc P w 0 (fun _=>true) true ts vs ds ps→∃ xs,v6v P n ts xs∧vs.length=xs.length∧∀ (i:Nat) (x:D),xs[i]?=some x→∃ v,vs[i]?=some v∧z12 O w x v
 |[],[],[],_,_,_,_=>⟨[],trivial,rfl,fun i x h=>by simp at h⟩
 |[],[],_::_,_,_,_,h=>by simp [DataW.TrodAll] at h
 |[],_::_,_,_,_,_,h=>by simp [DataW.TrodAll] at h
 |_::_,[],_,_,_,_,h=>by simp [DataW.TrodAll] at h
 |_::_,_::_,[],_,_,_,h=>by simp [DataW.TrodAll] at h
 |t::ts,v::vs,d::ds,ps,hs,hok,h=>by
  obtain ⟨p,q,h1,h2,_⟩:=h
  have hs':w7c P n [t]=true∧w7c P n ts=true:=by
   simp only [w7c,List.all_cons,List.all_nil,Bool.and_true,Bool.and_eq_true] at hs⊢
   exact hs
  obtain ⟨x,a1,a2⟩:=v5q hO hs'.1 (hok 0 t v rfl rfl) h1
  obtain ⟨xs,b1,b2,b3⟩:=w1y hO hs'.2 (fun j t v h1 h2=>hok (j+1) t v (by simpa using h1) (by simpa using h2)) h2
  refine ⟨x::xs,⟨a1,b1⟩,by simp [b2],fun i y hi=>?_⟩
  match i,hi with
  |0,hi=>cases hi; exact ⟨v,rfl,a2⟩
  |i+1,hi=>simpa using b3 i y (by simpa using hi)
structure y52 (w w':World):Prop where
 os:w'.os=w.os
 tape:w'.tape=w.tape
 output:w'.output=w.output
 size:w.heap.size≤w'.heap.size
 block:∀ b,b<w.heap.size→w'.heap[b]?=w.heap[b]?
theorem w64 (l:List D):(toA l).length=l.length:=by
 induction l with
 |nil=>rfl
 |cons x l ih=>simp [toA,ih]
theorem y9n {g:FuncId} {args:Array Value} {xs:List D} {b:Bool} {h':List AO} (ha:z90 P g (toA xs) [] (.d (.bool b)) h') (hl:args.toList.length=xs.length)
  (hx:∀ (i:Nat) (x:D),xs[i]?=some x→∃ v,args.toList[i]?=some v∧z12 (fun _=>False) w x v):Calls P g args w fun e w'=>e= .returned (.bool b)∧y52 w w':=by
 intro cs
 let ρ0:Rho:=⟨fun _=>none,fun _=>False⟩
 have hown:z0i ρ0 []=fun _=>False:=by
  funext c
  apply propext
  refine ⟨fun h=>?_,False.elim⟩
  rcases h with h|⟨id,L,hL,_⟩
  ·exact h
  ·cases hL
 have hr:z0c P ρ0 [] w:=⟨fun id L hL=>(by cases hL),fun id id' L L' hL=>(by cases hL),fun b hb=>hb.elim,fun id L hL=>(by cases hL)⟩
 obtain ⟨ρ',v,w',fr,s1,s2,s3,s4,s5,s6,s7⟩:=ha.run ρ0 args w cs hr (fun id hid=>absurd rfl hid) ⟨by rw [w64, ←hl]; simp,fun i x hi=>by
  rw [z1y] at hi
  obtain ⟨d,hd,rfl⟩:=Option.map_eq_some_iff.1 hi
  obtain ⟨v,hv,hr⟩:=hx i d hd
  rw [hown,Array.getD_eq_getD_getElem?]
  have:args[i]?=some v:=by simpa using hv
  rw [this]; exact .d hr⟩
 refine ⟨.returned v,w',fr,⟨?_,s7.os,s7.tape,s7.output,s7.keep.size,fun c hc=>s7.keep.frame c hc ?_⟩,s1,s2,s3⟩
 ·cases s4 with
  |d h=>cases h; rfl
 ·rw [hown]; exact id
theorem y52.at {w':World} (h:y52 w w') {p:MemPlace} (hp:p.block<w.heap.size):w.sameAt w' p:=by
 cases p with
 |cell b off=>
  show w'.cell? _=w.cell? _
  exact z3r (h.block b hp)
 |map b=>exact h.block b hp
theorem y1u {w w':World} {sp:Nat→Bool} {hd:Bool}:∀ {ts:List TypeId} {vs:List Value} {ds:List (DataW H)} {ps:List MemPlace},DataW.TrodAll enc P w 0 sp hd ts vs ds ps→(∀ p∈ps,w.sameAt w' p)→DataW.TrodAll enc P w' 0 sp hd ts vs ds ps
 |[],[],[],_,h,_=>h
 |[],[],_::_,_,h,_=>by simp [DataW.TrodAll] at h
 |[],_::_,_,_,h,_=>by simp [DataW.TrodAll] at h
 |_::_,[],_,_,h,_=>by simp [DataW.TrodAll] at h
 |_::_,_::_,[],_,h,_=>by simp [DataW.TrodAll] at h
 |t::ts,v::vs,d::ds,ps,h,hs=>by
  obtain ⟨p,q,⟨n,h1⟩,h2,rfl⟩:=h
  exact ⟨p,q,⟨n,DataW.trod_carry n _ _ _ h1 fun x hx=>hs x (by simp [hx])⟩,y1u h2 fun x hx=>hs x (by simp [hx]),rfl⟩
theorem x7f {w':World} {may:MemPlace→Prop} (h:y52 w w'):w.keptBut w' may:=by
 refine ⟨h.os,h.output,fun i hi=>?_⟩
 rw [h.block i hi]
 split
 ·rename_i c t fr c' t' fr' h1 h2
  rw [h1] at h2; cases h2
  exact ⟨rfl,rfl,rfl,fun _ _=>rfl⟩
 ·rename_i es clock es' clock' h1 h2
  rw [h1] at h2; cases h2
  exact .inr ⟨rfl,rfl⟩
 ·rfl
theorem y4d {sp:Nat→Bool} {hd:Bool}:∀ {ts:List TypeId} {vs:List Value} {ds:List (DataW H)} {ps:List MemPlace},DataW.TrodAll enc P w 0 sp hd ts vs ds ps→ds.length=ts.length
 |[],[],[],_,_=>rfl
 |[],[],_::_,_,h=>by simp [DataW.TrodAll] at h
 |[],_::_,_,_,h=>by simp [DataW.TrodAll] at h
 |_::_,[],_,_,h=>by simp [DataW.TrodAll] at h
 |_::_,_::_,[],_,h=>by simp [DataW.TrodAll] at h
 |t::ts,v::vs,d::ds,ps,h=>by
  obtain ⟨p,q,_,h2,_⟩:=h
  simp [y4d h2]
theorem w3v {f:Func} {s:ChangeSpec} {W W':World} {args:Array Value} {ds gs:List (DataW H)} {before:List MemPlace} {rt:TypeId}
  (hl:laidOutB P=true) (hm:mapsRowed P=true) (hsz:((List.range P.types.size).all fun t=>match P.underlying t with|some (.slice e)=>decide (0<P.cellsOf e)|_=>true)=true)
  (hts:f.params.toList.all (fun t=>decide (t<P.types.size))=true) (hv:s.vars=[]) (hrt:f.resultTypes=#[rt]) (hrb:P.underlying rt=some .bool)
  (hfn:∀ ds:List (DataW H),ds.length=f.params.toList.length→(s.fn H ds).results=[.lit (.bool true)]∧(s.fn H ds).args=ds∧(s.fn H ds).vars=[])
  (hW:DataW.Whole enc P f.params.toList s.vars false W args.toList ds gs before) (h:y52 W W'):s.post enc P f false true false false W args (.bool true) W':=by
 have hW':=hW
 obtain ⟨p,q,hA,hV,rfl,hz,_⟩:=hW
 rw [hv] at hV
 have hlt:=hW'.lt
 match gs,hV with
 |[],hV=>
 have hq:q=[]:=hV
 subst hq
 simp only [List.append_nil] at hlt hz hW'
 obtain ⟨f1,f2,f3⟩:=hfn ds (y4d hA)
 have hres:∀ (b:Nat) (sp:Nat→Bool) (hd:Bool),DataW.TrodAll enc P W' b sp hd f.resultTypes.toList ((Value.bool true).resultList f.resultTypes.size) (s.fn H (ds++[])).results []:=by
  intro b sp hd
  rw [List.append_nil,f1,hrt]
  exact ⟨[],[],⟨1,by simp [DataW.trod,hrb,Value.cells]⟩,rfl,rfl⟩
 have hargs:∀ sp:Nat→Bool,(∀ x∈p,sp x.block=true)→DataW.TrodAll enc P W' 0 sp true f.params.toList args.toList (s.fn H (ds++[])).args p:=by
  intro sp hsp
  rw [List.append_nil,f2]
  exact (y1u hA fun x hx=>h.at (hlt x hx)).respare (kids_rows hl hm) (slices_full_of P hsz) (fun t ht=>by simpa using List.all_eq_true.1 hts t ht) hsp
 have hvars:∀ sp:Nat→Bool,DataW.TrodVars enc P W' sp s.vars (s.fn H (ds++[])).vars []:=by
  intro sp; rw [List.append_nil,f3,hv]; rfl
 refine ⟨ds,[],p,[],p,[],hW',hres _ _ _,hargs _ (fun x hx=>by simpa using hlt x hx),hvars _,x7f h,fun _=>?_⟩
 refine ⟨?_,_,_,([]++p)++[],⟨[]++p,[],trodAll_append (hargs _ (fun _ _=>rfl)) (hres _ _ _),hvars _,rfl,?_,?_⟩,?_⟩
 ·intro j t r h1 h2
  rw [hrt] at h1 h2
  match j,h1,h2 with
  |0,h1,h2=>
   simp at h1; subst h1
   have:r= .bool true:=by simpa [Value.resultList] using h2.symm
   subst this
   unfold Value.okWide
   rw [hrb]
   simp [Cell.okWide,Cell.ok,hrb]
  |j+1,h1,_=>simp at h1
 ·intro b off hp
  have hp:MemPlace.cell b off∈p:=by simpa using hp
  have:=hz b off hp
  have hb:=h.block b (hlt _ hp)
  unfold World.frozen? at this⊢
  simp only at this⊢
  rw [hb]; exact this
 ·intro ha; cases ha
 ·intro x hx _
  simpa using hx
end
end Go.Am
end
section
namespace Go.Am
open Go.ChangeShapes Go.WideShapes Go.ChangeAt
theorem x97 {ps:Array TypeId} {args:Array Value} {p:TypeId→Value→Prop} (h:∀ (j:Nat) t v,ps[j]?=some t→args[j]?=some v→p t v):
  ∀ (j:Nat) t v,ps.toList[j]?=some t→args.toList[j]?=some v→p t v:=fun j t v a b=>h j t v (by simpa using a) (by simpa using b)
end Go.Am
namespace Go.Proofs.Ytolfgnbldofcjaa
open Go.ChangeShapes Go.WideShapes Go.ChangeAt Go.RowKit Go.Am
theorem own:ownKnob Try.prog.godebug=none:=by kernel_rfl
theorem laid:laidOutB Try.prog=true:=by kernel_rfl
theorem rowed:mapsRowed Try.prog=true:=by kernel_rfl
theorem sized:((List.range Try.prog.types.size).all fun t=>match Try.prog.underlying t with|some (.slice e)=>decide (0<Try.prog.cellsOf e)|_=>true)=true:=by kernel_rfl
end Go.Proofs.Ytolfgnbldofcjaa
end
section
namespace Go.Am
def z4i (o:Oper):List Nat:=(o.after.toList.filter (Region.binds .any)).map (·.on)
def z7k:List Nat→Nat→Nat
 |[],_=>0
 |x::_,0=>x
 |_::r,n+1=>z7k r n
def x7g (acc:List Nat):List Nat→Nat
 |[]=>0
 |d::r=>Nat.lor (Nat.lor (Nat.shiftLeft 1 d) (z7k acc d)) (x7g acc r)
def y2u:List Oper→List Nat→List Nat
 |[],acc=>acc
 |o::r,acc=>y2u r (acc++[x7g acc (z4i o)])
def v0s (x:Nat):List Nat→Bool
 |[]=>false
 |y::l=>Nat.beq x y||v0s x l
theorem x5h {x:Nat} {l:List Nat}:v0s x l=true↔x∈l:=by
 induction l with
 |nil=>simp [v0s]
 |cons y l ih=>
  simp only [v0s,Bool.or_eq_true,ih,List.mem_cons]
  constructor
  ·rintro (h|h)
   ·exact .inl (Nat.eq_of_beq_eq_true h)
   ·exact .inr h
  ·rintro (rfl|h)
   ·exact .inl (Nat.beq_refl x)
   ·exact .inr h
def x5c:Option Nat→List Nat→Bool
 |none,_=>true
 |some t,l=>!v0s t l
def x8j (ops:List Oper) (a b:Oper):Bool:=
 x5c a.dst (y6z b.op++y7g ops b.guard++b.dst.toList)&&x5c b.dst (y6z a.op++y7g ops a.guard++a.dst.toList)
def w4m:List Nat→List Nat→Bool
 |[],_=>true
 |x::l,m=>!v0s x m&&w4m l m
theorem y7r:∀ {l m:List Nat},w4m l m=true→∀ id∈l,id∉m
 |[],_,_,id,h=>by cases h
 |x::l,m,h,id,hid=>by
  simp only [w4m,Bool.and_eq_true,Bool.not_eq_true'] at h
  rcases List.mem_cons.1 hid with rfl|hid
  ·intro hm; rw [x5h.2 hm] at h; cases h.1
  ·exact y7r h.2 id hid
def x68:List (List Nat)→Nat→List Nat
 |[],_=>[]
 |x::_,0=>x
 |_::r,n+1=>x68 r n
theorem z8x:∀ (acc:List (List Nat)) (x:List Nat) (j:Nat),j<acc.length→x68 (acc++[x]) j=x68 acc j
 |[],_,_,h=>by simp at h
 |_::_,_,0,_=>rfl
 |_::acc,x,j+1,h=>z8x acc x j (by simpa using h)
theorem z8y:∀ (acc:List (List Nat)) (x:List Nat),x68 (acc++[x]) acc.length=x
 |[],_=>rfl
 |_::acc,x=>z8y acc x
def y5g (ops:List Oper):Bool:=
  let an:=y2u ops []
  (List.range ops.length).all fun j=>(List.range j).all fun i=>Nat.testBit (z7k an j) i||
    (match ops[i]?,ops[j]? with
     |some a,some b=>x8j ops a b
     |_,_=>true)
def z62 (ops:List Oper):Bool:=(List.range ops.length).all fun i=>match ops[i]? with
 |some o=>(z4i o).all fun j=>Nat.blt j i
 |none=>true
theorem y7d {acc:List Nat} {j:Nat}:∀ {l:List Nat},(x7g acc l).testBit j=true→∃ d∈l,j=d∨(z7k acc d).testBit j=true
 |[],h=>by simp [x7g] at h
 |d::r,h=>by
  have h:(((1<<<d)|||z7k acc d)|||x7g acc r).testBit j=true:=h
  rw [Nat.testBit_or,Nat.testBit_or,Nat.testBit_shiftLeft] at h
  simp only [Bool.or_eq_true,Bool.and_eq_true,decide_eq_true_eq] at h
  rcases h with (⟨h1,h2⟩|h)|h
  ·rw [Nat.testBit_one_eq_true_iff_self_eq_zero] at h2
   exact ⟨d,by simp, .inl (by omega)⟩
  ·exact ⟨d,by simp, .inr h⟩
  ·obtain ⟨e,he,h'⟩:=y7d h
   exact ⟨e,by simp [he],h'⟩
theorem z60 {l:List Nat} {x i:Nat} (h:i<l.length):z7k (l++[x]) i=z7k l i:=by
 induction l generalizing i with
 |nil=>simp at h
 |cons y l ih=>cases i with
  |zero=>rfl
  |succ i=>simpa [z7k] using ih (by simpa using h)
theorem y47 (l:List Nat) (x:Nat):z7k (l++[x]) l.length=x:=by
 induction l with
 |nil=>rfl
 |cons y l ih=>simpa [z7k] using ih
theorem w7p {l:List Nat} {i:Nat} (h:l.length≤i):z7k l i=0:=by
 induction l generalizing i with
 |nil=>rfl
 |cons y l ih=>cases i with
  |zero=>simp at h
  |succ i=>simpa [z7k] using ih (by simpa using h)
theorem w1z (l:List Oper):∀ (acc:List Nat) (pre:List Oper),acc.length=pre.length→
  (∀ (i:Nat) (o:Oper),pre[i]?=some o→∀ j,(z7k acc i).testBit j=true→j∈z4i o∨∃ d∈z4i o,d<i∧(z7k acc d).testBit j=true)→
  ∀ (i:Nat) (o:Oper),(pre++l)[i]?=some o→∀ j,(z7k (y2u l acc) i).testBit j=true→j∈z4i o∨∃ d∈z4i o,d<i∧(z7k (y2u l acc) d).testBit j=true:=by
 induction l with
 |nil=>intro acc pre hl h; simpa [y2u] using h
 |cons o l ih=>
  intro acc pre hl h
  have key:=ih (acc++[x7g acc (z4i o)]) (pre++[o]) (by simp [hl]) (fun i p hi j hj=>by
   rw [List.getElem?_append] at hi
   split at hi
   ·rename_i hlt
    rw [z60 (by omega)] at hj
    rcases h i p hi j hj with h1|⟨d,hd,hdi,hj2⟩
    ·exact .inl h1
    ·exact .inr ⟨d,hd,hdi,by rw [z60 (by omega)]; exact hj2⟩
   ·rename_i hge
    have hi0:i - pre.length=0:=by
     have:=(List.getElem?_eq_some_iff.1 hi).1; simp at this; omega
    rw [hi0] at hi; simp at hi; subst hi
    have hie:i=acc.length:=by omega
    subst hie
    rw [y47] at hj
    obtain ⟨d,hd,hj⟩:=y7d hj
    rcases hj with rfl|hj
    ·exact .inl hd
    ·by_cases hdl:d<acc.length
     ·exact .inr ⟨d,hd,hdl,by rw [z60 hdl]; exact hj⟩
     ·rw [w7p (by omega)] at hj; simp at hj)
  simpa [y2u,List.append_assoc] using key
structure Rec where
 v:AV
 u:List (Nat×AO)
def stF (s:AS) (ops:List Oper) (recs:List Rec):Nat→AS
 |0=>s
 |i+1=>match ops[i]?,recs[i]? with
  |some o,some r=>z56 (stF s ops recs i) o.dst r.v r.u
  |_,_=>stF s ops recs i
def x3v:List (Nat×AO)→Nat→AO→AO
 |[],_,x=>x
 |(i,o)::r,id,x=>x3v r id (if i=id then o else x)
theorem y0j (u:List (Nat×AO)):∀ (h:List AO) (id:Nat),z0j (z1q h u) id=x3v u id (z0j h id):=by
 induction u with
 |nil=>intro h id; rfl
 |cons x u ih=>
  intro h id
  obtain ⟨i,o⟩:=x
  simp only [z1q,x3v,ih]
  congr 1
  split
  ·rename_i e; subst e; rw [z0m]
  ·rename_i e; rw [z0g _ _ _ _ e]
theorem z4y {u:List (Nat×AO)} {id:Nat} (h:∀ o,(id,o)∉u) (x:AO):x3v u id x=x:=by
 induction u generalizing x with
 |nil=>rfl
 |cons y u ih=>
  obtain ⟨i,o⟩:=y
  have hne:i≠id:=by rintro rfl; exact h o (by simp)
  simp only [x3v,if_neg hne]
  exact ih (fun o' ho'=>h o' (by simp [ho'])) x
section
variable (s:AS) (ops:List Oper) (recs:List Rec) (S:Nat→Bool)
def y55 (t:Nat):Nat→AV
 |0=>z2f s.env t
 |i+1=>match ops[i]?,recs[i]? with
  |some o,some r=>if S i=true∧o.dst=some t then r.v else y55 t i
  |_,_=>y55 t i
def y4a (id:Nat):Nat→AO
 |0=>z0j s.heap id
 |i+1=>match ops[i]?,recs[i]? with
  |some _,some r=>if S i=true then x3v r.u id (y4a id i) else y4a id i
  |_,_=>y4a id i
end
theorem w2l (s:AS) (ops:List Oper) (recs:List Rec) (S:Nat→Bool) (t:Nat):∀ m,(∀ i,i<m→S i=true)→y55 s ops recs S t m=z2f (stF s ops recs m).env t:=by
 intro m
 induction m with
 |zero=>intro _; rfl
 |succ m ih=>
  intro h
  have:=ih (fun i hi=>h i (by omega))
  simp only [y55,stF]
  split
  ·rename_i o r ho hr
   simp only [z56]
   cases hd:o.dst with
   |none=>simp [y4u,this]
   |some d=>
    simp only [y4u]
    by_cases e:d=t
    ·subst e; rw [if_pos ⟨h m (by omega),rfl⟩,z1c]
    ·rw [if_neg (by simp [e]),z1t _ _ _ _ e,this]
  ·exact this
theorem w2k (s:AS) (ops:List Oper) (recs:List Rec) (S:Nat→Bool) (id:Nat):∀ m,(∀ i,i<m→S i=true)→y4a s ops recs S id m=z0j (stF s ops recs m).heap id:=by
 intro m
 induction m with
 |zero=>intro _; rfl
 |succ m ih=>
  intro h
  have:=ih (fun i hi=>h i (by omega))
  simp only [y4a,stF]
  split
  ·rename_i o r ho hr
   simp only [z56]
   rw [if_pos (h m (by omega)),y0j,this]
  ·exact this
theorem y10 (s : AS) (ops : List Oper) (recs : List Rec) (S : Nat → Bool) (t i : Nat) : ∀ m, i ≤ m →
    (∀ (j : Nat) (o : Oper), ops[j]? = some o → o.dst = some t → j < i → S j = true) → (∀ (j : Nat) (o : Oper), ops[j]? = some o → o.dst = some t → i ≤ j → j < m → S j = false) →
    y55 s ops recs S t m = z2f (stF s ops recs i).env t := by
  have low : ∀ k, k ≤ i → (∀ (j : Nat) (o : Oper), ops[j]? = some o → o.dst = some t → j < i → S j = true) → y55 s ops recs S t k = z2f (stF s ops recs k).env t := by
    intro k
    induction k with
    | zero => intro _ _; rfl
    | succ k ih =>
      intro hk h
      have := ih (by omega) h
      simp only [y55, stF]
      split
      · rename_i o r ho hr
        simp only [z56]
        cases hd : o.dst with
        | none => simp [y4u, this]
        | some d =>
          simp only [y4u]
          by_cases e : d = t
          · subst e; rw [if_pos ⟨h k o ho hd (by omega), rfl⟩, z1c]
          · rw [if_neg (by simp [e]), z1t _ _ _ _ e, this]
      · exact this
  intro m hm h1 h2
  induction m with
  | zero => have : i = 0 := by omega
            subst this; rfl
  | succ m ih =>
    by_cases e : i = m + 1
    · rw [← e]; exact low i (Nat.le_refl _) h1
    · have := ih (by omega) (fun j o a b c d => h2 j o a b c (by omega))
      simp only [y55]
      split
      · rename_i o r ho hr
        rw [if_neg, this]
        rintro ⟨a, b⟩
        have := h2 m o ho b (by omega) (by omega)
        rw [this] at a; cases a
      · exact this
theorem y1z (s : AS) (ops : List Oper) (recs : List Rec) (S : Nat → Bool) (id i : Nat) : ∀ m, i ≤ m →
    (∀ (j : Nat) (r : Rec), recs[j]? = some r → (∃ o, (id, o) ∈ r.u) → j < i → S j = true) → (∀ (j : Nat) (r : Rec), recs[j]? = some r → (∃ o, (id, o) ∈ r.u) → i ≤ j → j < m → S j = false) →
    y4a s ops recs S id m = z0j (stF s ops recs i).heap id := by
  have low : ∀ k, k ≤ i → (∀ (j : Nat) (r : Rec), recs[j]? = some r → (∃ o, (id, o) ∈ r.u) → j < i → S j = true) → y4a s ops recs S id k = z0j (stF s ops recs k).heap id := by
    intro k
    induction k with
    | zero => intro _ _; rfl
    | succ k ih =>
      intro hk h
      have := ih (by omega) h
      simp only [y4a, stF]
      split
      · rename_i o r ho hr
        simp only [z56]
        rw [y0j]
        by_cases e : ∃ q, (id, q) ∈ r.u
        · rw [if_pos (h k r hr e (by omega)), this]
        · have hn : ∀ q, (id, q) ∉ r.u := fun q hq => e ⟨q, hq⟩
          rw [z4y hn, z4y hn]
          split <;> exact this
      · exact this
  intro m hm h1 h2
  induction m with
  | zero => have : i = 0 := by omega
            subst this; rfl
  | succ m ih =>
    by_cases e : i = m + 1
    · rw [← e]; exact low i (Nat.le_refl _) h1
    · have := ih (by omega) (fun j o a b c d => h2 j o a b c (by omega))
      simp only [y4a]
      split
      · rename_i o r ho hr
        by_cases e2 : ∃ q, (id, q) ∈ r.u
        · rw [if_neg, this]
          intro a
          have := h2 m r hr e2 (by omega) (by omega)
          rw [this] at a; cases a
        · have hn : ∀ q, (id, q) ∉ r.u := fun q hq => e2 ⟨q, hq⟩
          rw [z4y hn]
          split <;> exact this
      · exact this
theorem x8y (s:AS) (ops:List Oper) (recs:List Rec) (S:Nat→Bool) (i:Nat) {o:Oper} {r:Rec} (ho:ops[i]?=some o) (hr:recs[i]?=some r) (t:Nat):∀ m,i<m→
  (∀ (j:Nat) (p:Oper),ops[j]?=some p→i<j→S j=true→∀ d,o.dst=some d→p.dst≠some d)→
  y55 s ops recs (fun j=>S j||Nat.beq j i) t m=if o.dst=some t then r.v else y55 s ops recs S t m:=by
 have low:∀ k,k≤i→y55 s ops recs (fun j=>S j||Nat.beq j i) t k=y55 s ops recs S t k:=by
  intro k
  induction k with
  |zero=>intro _; rfl
  |succ k ih=>
   intro hk
   have:=ih (by omega)
   have hb:Nat.beq k i=false:=by cases h:Nat.beq k i with
    |false=>rfl
    |true=>have:=Nat.eq_of_beq_eq_true h; omega
   simp only [y55,hb,Bool.or_false,this]
 intro m hm h
 induction m with
 |zero=>omega
 |succ m ih=>
  by_cases e:i=m
  ·subst e
   have hb:Nat.beq i i=true:=Nat.beq_refl i
   simp only [y55,ho,hr,hb,Bool.or_true,true_and]
   rw [low i (Nat.le_refl _)]
   by_cases hd:o.dst=some t
   ·rw [if_pos hd,if_pos hd]
   ·rw [if_neg hd,if_neg hd,if_neg (fun h=>hd h.2)]
  ·have:=ih (by omega)
   have hb:Nat.beq m i=false:=by cases h:Nat.beq m i with
    |false=>rfl
    |true=>have:=Nat.eq_of_beq_eq_true h; omega
   simp only [y55,hb,Bool.or_false]
   split
   ·rename_i p q hp hq
    by_cases hS:S m=true∧p.dst=some t
    ·rw [if_pos hS]
     by_cases hd:o.dst=some t
     ·exact absurd hS.2 (h m p hp (by omega) hS.1 t hd)
     ·rw [if_neg hd,if_pos hS]
    ·rw [if_neg hS,this]
     by_cases hd:o.dst=some t
     ·rw [if_pos hd,if_pos hd]
     ·rw [if_neg hd,if_neg hd,if_neg hS]
   ·exact this
theorem x8x (s:AS) (ops:List Oper) (recs:List Rec) (S:Nat→Bool) (i:Nat) {o:Oper} {r:Rec} (ho:ops[i]?=some o) (hr:recs[i]?=some r) (hi:S i=false) (id:Nat):∀ m,i<m→
  (∀ (j:Nat) (q:Rec),recs[j]?=some q→i<j→S j=true→(∃ x,(id,x)∈r.u)→∀ x,(id,x)∉q.u)→
  y4a s ops recs (fun j=>S j||Nat.beq j i) id m=x3v r.u id (y4a s ops recs S id m):=by
 have low:∀ k,k≤i→y4a s ops recs (fun j=>S j||Nat.beq j i) id k=y4a s ops recs S id k:=by
  intro k
  induction k with
  |zero=>intro _; rfl
  |succ k ih=>
   intro hk
   have:=ih (by omega)
   have hb:Nat.beq k i=false:=by cases h:Nat.beq k i with
    |false=>rfl
    |true=>have:=Nat.eq_of_beq_eq_true h; omega
   simp only [y4a,hb,Bool.or_false,this]
 intro m hm h
 induction m with
 |zero=>omega
 |succ m ih=>
  by_cases e:i=m
  ·subst e
   have hb:Nat.beq i i=true:=Nat.beq_refl i
   simp only [y4a,ho,hr,hb,Bool.or_true,if_true,hi]
   rw [low i (Nat.le_refl _)]
   simp
  ·have:=ih (by omega)
   have hb:Nat.beq m i=false:=by cases h:Nat.beq m i with
    |false=>rfl
    |true=>have:=Nat.eq_of_beq_eq_true h; omega
   simp only [y4a,hb,Bool.or_false]
   split
   ·rename_i p q hp hq
    by_cases hS:S m=true
    ·rw [if_pos hS,if_pos hS,this]
     by_cases e2:∃ x,(id,x)∈r.u
     ·have hn:=h m q hq (by omega) hS e2
      rw [z4y hn,z4y hn]
     ·have hn:∀ x,(id,x)∉r.u:=fun x hx=>e2 ⟨x,hx⟩
      rw [z4y hn,z4y hn]
    ·rw [if_neg hS,if_neg hS,this]
   ·exact this
end Go.Am
end
section
namespace Go.Am
mutual
def tid:AV→List Nat
 | .bptr id _=>[id]
 | .ptr id _ _=>[id]
 | .slice id _ _ _ _=>[id]
 | .map id=>[id]
 | .clo _ fs cs=>x2x fs++x2x cs
 | .agg l=>x2x l
 | .tuple l=>x2x l
 |_=>[]
def x2x:List AV→List Nat
 |[]=>[]
 |x::l=>tid x++x2x l
end
def x6m:AV→List Nat
 | .bptr id _=>[id]
 |_=>[]
def v2w (env:List (Nat×AV)):Op→List Nat
 | .indexAddr _ x _=>x6m (z0x env x)
 | .slice _ x _ _ _=>x6m (z0x env x)
 |_=>[]
def z8j (env:List (Nat×AV)) (op:Op):List Nat:=if z6y op then (op.operands.toList.map fun x=>tid (z0x env x)).flatten else v2w env op
def w6o:Op→Bool
 | .alloc _| .box ..| .buildSlice ..| .makeSlice ..| .makeMap ..=>true
 | .call ⟨.builtin .append,_,_⟩=>true
 |_=>false
section
variable {T:TypeId→Option TI} {env env':List (Nat×AV)} {h h':List AO}
theorem z8c {l:List Operand} (he:∀ x∈l,z0x env' x=z0x env x):z1x env' l=z1x env l:=by
 rw [z20,z20]; exact List.map_congr_left he
theorem y5m {l:List (Nat×Operand)} (he:∀ x∈l,z0x env' x.2=z0x env x.2):y2o env' l=y2o env l:=by
 rw [y86,y86]; exact List.map_congr_left fun x hx=>by rw [he x hx]
theorem z8b {o:Option Operand} (he:∀ x,o=some x→z0x env' x=z0x env x):z8n env' o=z8n env o:=by
 cases o with
 |none=>rfl
 |some x=>simp [z8n,he x rfl]
theorem x8z (a:AV):tid (x0b a)=tid a:=by
 unfold x0b
 split<;>rfl
theorem y6d {ti:TI} {r:List D} {ra:List AV} {a:AV} (hh:∀ id∈tid a,z0j h' id=z0j h id):z4b ti h' r ra a=z4b ti h r ra a:=by
 cases a<;>simp only [z4b,tid,List.mem_singleton,forall_eq] at hh⊢ <;>rw [hh]
theorem y4j {ti:TI} {r:List D} {ra:List AV} {a x:AV} (hh:∀ id∈tid a,z0j h' id=z0j h id):z5b std ti h' r ra a x=z5b std ti h r ra a x:=by
 have:∀ cells,z4p std h' r ra cells a=z4p std h r ra cells a:=by
  intro cells
  cases a<;>simp only [z4p,tid,List.mem_singleton,forall_eq] at hh⊢ <;>rw [hh]
 unfold z5b
 simp only [this]
theorem y59 {a:AV} (hh:∀ id∈x6m a,z0j h' id=z0j h id):z4a h' a=z4a h a:=by
 cases a<;>first|rfl|(simp only [z4a,x6m,List.mem_singleton,forall_eq] at hh⊢; rw [hh])
theorem y0b {ti:TI} {r:List D} {a i:AV} (hh:∀ id∈x6m a,z0j h' id=z0j h id):z2y std std ti h' r a i=z2y std std ti h r a i:=by
 cases a with
 |bptr id off=>
  simp only [x6m,List.mem_singleton,forall_eq] at hh
  cases i<;>try rfl
  rename_i x
  cases x<;>try rfl
  simp only [z2y,hh]
 |d x=>cases x<;>first|rfl|(cases i<;>first|rfl|(rename_i y; cases y<;>rfl))
 |_=>first|rfl|(cases i<;>first|rfl|(rename_i y; cases y<;>rfl))
theorem y4k {ti:TI} {r:List D} {a:AV} {lo hi mx:Option AV} (hh:∀ id∈x6m a,z0j h' id=z0j h id):z59 std ti h' r a lo hi mx=z59 std ti h r a lo hi mx:=by
 unfold z59
 cases a with
 |bptr id off=>
  simp only [x6m,List.mem_singleton,forall_eq] at hh
  simp only [hh]
 |d x=>cases x<;>rfl
 |_=>rfl
theorem x80 {ti:TI} (a:AV):x6m (w36 ti a)=x6m a:=by
 unfold w36
 split
 ·split
  ·rename_i z es _ _ _ _ _
   cases Nat.beq _ 0<;>(try rfl)
   simp only [cond_true]
   split<;>rfl
  ·rfl
 ·rfl
theorem y0u {n:Nat} {a:AV} (hh:∀ id∈tid a,z0j h' id=z0j h id):z8o h' n a=z8o h n a:=by
 cases a<;>simp only [z8o,tid,List.mem_singleton,forall_eq] at hh⊢ <;>rw [hh]
theorem z6i {z:Nat} {a:AV} (hh:∀ id∈tid a,z0j h' id=z0j h id):z37 std z h' a=z37 std z h a:=by
 cases a<;>first
  |(simp only [z37,tid,List.mem_singleton,forall_eq] at hh⊢; rw [hh]; done)
  |rfl
  |(rename_i x; cases x<;>rfl)
theorem y3i {ti:TI} {new:Nat} {q:Bool} {r:List D} {s x:AV} (hs:∀ id∈tid s,z0j h' id=z0j h id) (hx:∀ id∈tid x,z0j h' id=z0j h id):z2g std ti h' new q r s x=z2g std ti h new q r s x:=by
 have e:∀ id z off len c,s= .slice id z off len c→z0j h' id=z0j h id:=fun id z off len c e=>hs id (by rw [e]; simp [tid])
 have e1:∀ z,z37 std z h' x=z37 std z h x:=fun z=>z6i hx
 have e2:∀ z,z37 std z h' s=z37 std z h s:=fun z=>z6i hs
 unfold z2g
 simp only [e1,e2]
 clear e1 e2
 split
 ·congr 1
  split
  ·clear ‹z37 std _ h s=_›
   cases s with
   |slice id z off len c=>
    cases c with
    |none=>rfl
    |some c=>simp only [e _ _ _ _ _ rfl]
   |d y=>cases y<;>rfl
   |_=>rfl
  ·rfl
 ·rfl
theorem x21 {ti:TI} {s x:AV} (hs:∀ id∈tid s,z0j h' id=z0j h id) (hx:∀ id∈tid x,z0j h' id=z0j h id):y3d std ti h' s x=y3d std ti h s x:=by
 have e1:∀ z,z37 std z h' x=z37 std z h x:=fun z=>z6i hx
 have e2:∀ z,z37 std z h' s=z37 std z h s:=fun z=>z6i hs
 unfold y3d
 simp only [e1,e2]
 clear e1 e2
 split
 ·congr 1
  cases hc:x4s s with
  |none=>rfl
  |some y=>
   obtain ⟨id,z0,off,len,c⟩:=y
   have:=x02 hc
   subst this
   simp only [hs id (by simp [tid])]
 ·rfl
theorem y15 {ti:TI} {new:Nat} {q:Bool} {r:List D} {s x:AV} (hs:∀ id∈tid s,z0j h' id=z0j h id) (hx:∀ id∈tid x,z0j h' id=z0j h id):z3g std ti h' new q r s x=z3g std ti h new q r s x:=by
 unfold z3g
 rw [y3i hs hx,x21 hs hx]
theorem x7b {ti:TI} {x:AV} (hx:∀ id∈tid x,z0j h' id=z0j h id):w3s std ti h' x=w3s std ti h x:=by
 cases x<;>first
  |(simp only [w3s,tid,List.mem_singleton,forall_eq] at hx⊢; rw [hx]; done)
  |rfl
  |(rename_i y; cases y<;>rfl)
theorem y6e {ti:TI} {d s:AV} (hd:∀ id∈tid d,z0j h' id=z0j h id) (hs:∀ id∈tid s,z0j h' id=z0j h id):z6p std ti h' d s=z6p std ti h d s:=by
 have e1:∀ z,z37 std z h' s=z37 std z h s:=fun z=>z6i hs
 unfold z6p
 simp only [e1]
 cases hq:ti.desc with
 |slc e z eb ea ez=>
  simp only []
  generalize z37 std z h s=E
  cases E with
  |none=>cases d<;>rfl
  |some p=>
   obtain ⟨c0,els⟩:=p
   cases els with
   |a es=>cases d<;>rfl
   |d es=>
    cases d with
    |slice id z' off len c=>have:=hd id (by simp [tid]); simp only [this]
    |d x=>cases x<;>first|rfl|(rename_i l; cases l<;>rfl)
    |_=>rfl
 |_=>rfl
theorem y3h {ti:TI} {m:AV} {q:Bool} {r:List D} (hm:∀ id∈tid m,z0j h' id=z0j h id):z35 std ti h' q r m=z35 std ti h q r m:=by
 unfold z35
 cases hq:ti.desc with
 |map ks ka ez=>
  cases m with
  |map id=>have:=hm id (by simp [tid]); simp only [this]
  |_=>rfl
 |_=>rfl
theorem y3e {ti:TI} {m k x:AV} {q:Bool} {r:List D} (hm:∀ id∈tid m,z0j h' id=z0j h id):z34 std ti h' q r m k x=z34 std ti h q r m k x:=by
 unfold z34
 cases hq:ti.desc with
 |map ks ka ez=>
  cases m with
  |map id=>have:=hm id (by simp [tid]); cases k<;>first|rfl|(cases x<;>first|rfl|simp only [this])
  |_=>rfl
 |_=>rfl
theorem x34 {ti:TI} {m k:AV} (hm:∀ id∈tid m,z0j h' id=z0j h id):z3c std ti h' m k=z3c std ti h m k:=by
 unfold z3c
 cases hq:ti.desc with
 |map ks ka ez=>
  cases k with
  |d k=>cases m with
   |map id=>have:=hm id (by simp [tid]); simp only [this]
   |d x=>cases x<;>rfl
   |_=>rfl
  |_=>rfl
 |_=>rfl
theorem z98 {t:TypeId} {m k:AV} (hm:∀ id∈tid m,z0j h' id=z0j h id):y0v std T t h' m k=y0v std T t h m k:=by
 unfold y0v; simp only [x34 hm]
theorem y4o {ti:TI} {d:AV} (hd:∀ id∈tid d,z0j h' id=z0j h id):z5c std ti h' d=z5c std ti h d:=by
 unfold z5c
 split
 ·congr 1
  cases d with
  |slice id z off len c=>simp only [tid,List.mem_singleton,forall_eq] at hd; simp only [hd]
  |d y=>cases y with
   |list f z es=>cases es<;>rfl
   |_=>rfl
  |_=>rfl
 ·rfl
theorem y13 {b:Builtin} {ts:List TypeId} {xs:List AV} {new:Nat} {q:Bool} {r:List D} (hel:b≠ .min→b≠ .max→∀ y∈xs,∀ id∈tid y,z0j h' id=z0j h id):z3f std T h' new q r b ts xs=z3f std T h new q r b ts xs:=by
 unfold z3f
 split
 ·split
  ·exact x7b (hel (by simp) (by simp) _ (by simp))
  ·rfl
 ·split
  ·split
   ·exact y15 (hel (by simp) (by simp) _ (by simp)) (hel (by simp) (by simp) _ (by simp))
   ·rfl
  ·rfl
 ·split
  ·exact y6e (hel (by simp) (by simp) _ (by simp)) (hel (by simp) (by simp) _ (by simp))
  ·rfl
 ·split
  ·exact y3h (hel (by simp) (by simp) _ (by simp))
  ·rfl
 ·split
  ·exact y4o (hel (by simp) (by simp) _ (by simp))
  ·rfl
 ·rfl
 ·rfl
 ·rfl
theorem y0w {op:Op} (ht:z6y op=true) {x:Operand} (hx:x∈op.operands) (hh:∀ id∈z8j env op,z0j h' id=z0j h id):∀ id∈tid (z0x env x),z0j h' id=z0j h id:=by
 intro id hid
 refine hh id ?_
 unfold z8j
 rw [if_pos ht]
 simp only [List.mem_flatten,List.mem_map]
 exact ⟨_,⟨x,by simpa using hx,rfl⟩,hid⟩
theorem x27 {new:Nat} {q:Bool} {r:List D} {ra:List AV} {op:Op} (he:∀ x∈op.operands,z0x env' x=z0x env x) (hh:∀ id∈z8j env op,z0j h' id=z0j h id):
  z1u std T env' h' new q r ra op=z1u std T env h new q r ra op∧z2e std T env' h' op=z2e std T env h op:=by
 cases op with
 |load t a=>
  have e:=he a (by simp [Op.operands])
  have hl:=y0w (op:= .load t a) rfl (x:=a) (by simp [Op.operands]) hh
  rw [←x8z] at hl
  simp only [z1u,z2e,e,y6d hl,y0u hl,and_self]
 |store t a x=>
  have e:=he a (by simp [Op.operands])
  have e2:=he x (by simp [Op.operands])
  have hl:=y0w (op:= .store t a x) rfl (x:=a) (by simp [Op.operands]) hh
  simp only [z1u,z2e,e,e2,y4j hl,y0u hl,and_self]
 |call c=>
  obtain ⟨callee,args,ts⟩:=c
  cases callee with
  |builtin b=>
   have e:z1x env' args.toList=z1x env args.toList:=z8c fun x hx=>he x (by simp [Op.operands,Call.operands]; simpa using hx)
   have hel:b≠ .min→b≠ .max→∀ y∈z1x env args.toList,∀ id∈tid y,z0j h' id=z0j h id:=by
    intro h1 h2 y hy
    rw [z20] at hy
    obtain ⟨x,hx,rfl⟩:=List.mem_map.1 hy
    exact y0w (op:= .call ⟨.builtin b,args,ts⟩) (by cases b<;>first|rfl|exact absurd rfl h1|exact absurd rfl h2) (x:=x) (by simp [Op.operands,Call.operands]; simpa using hx) hh
   refine ⟨?_,?_⟩
   ·show z3f std T h' new q r b ts.toList (z1x env' args.toList)=z3f std T h new q r b ts.toList (z1x env args.toList)
    rw [e]; exact y13 hel
   ·by_cases hba:b= .append
    ·subst hba
     show (match z1x env' args.toList with|[s,x]=>w62 (z4n std s x)|_=> .none)=(match z1x env args.toList with|[s,x]=>w62 (z4n std s x)|_=> .none)
     rw [e]
    ·by_cases hbd:b= .delete
     ·subst hbd
      show (match ts.toList,z1x env' args.toList with|t::_,[m,k]=>y0v std T t h' m k|_,_=> .m none)=(match ts.toList,z1x env args.toList with|t::_,[m,k]=>y0v std T t h m k|_,_=> .m none)
      rw [e]
      have hel:=hel (by simp) (by simp)
      split
      ·rename_i h1
       exact z98 (hel _ (by rw [h1]; simp))
      ·rfl
     ·cases b<;>first|rfl|exact absurd rfl hba|exact absurd rfl hbd
  |_=>exact ⟨rfl,rfl⟩
 |move x=>simp [z1u,z2e,he x (by simp [Op.operands])]
 |assign x=>simp [z1u,z2e,he x (by simp [Op.operands])]
 |pick c a b=>simp [z1u,z2e,he c (by simp [Op.operands]),he a (by simp [Op.operands]),he b (by simp [Op.operands])]
 |alloc t=>simp [z1u,z2e]
 |box t x=>simp [z1u,z2e,he x (by simp [Op.operands])]
 |build t ps=>
  have:y2o env' ps.toList=y2o env ps.toList:=y5m fun x hx=>he x.2 (by simp [Op.operands]; exact ⟨x.1,by simpa using hx⟩)
  simp [z1u,z2e,this]
 |buildSlice t len ps=>
  have:y2o env' ps.toList=y2o env ps.toList:=y5m fun x hx=>he x.2 (by simp [Op.operands]; exact ⟨x.1,by simpa using hx⟩)
  simp [z1u,z2e,this]
 |nilCheck x=>simp [z1u,z2e,he x (by simp [Op.operands])]
 |binOp op t x y t2=>simp [z1u,z2e,he x (by simp [Op.operands]),he y (by simp [Op.operands])]
 |unOp op t x=>simp [z1u,z2e,he x (by simp [Op.operands])]
 |convert s t x=>simp [z1u,z2e,he x (by simp [Op.operands])]
 |makeFunc fn f c=>
  have e1:z1x env' f.toList=z1x env f.toList:=z8c fun x hx=>he x (by simp [Op.operands]; left; simpa using hx)
  have e2:z1x env' c.toList=z1x env c.toList:=z8c fun x hx=>he x (by simp [Op.operands]; right; simpa using hx)
  simp [z1u,z2e,e1,e2]
 |makeSlice t l c=>simp [z1u,z2e,he l (by simp [Op.operands]),he c (by simp [Op.operands])]
 |slice t x lo hi mx=>
  have e1:z8n env' lo=z8n env lo:=z8b fun y hy=>he y (by subst hy; simp [Op.operands])
  have e2:z8n env' hi=z8n env hi:=z8b fun y hy=>he y (by subst hy; simp [Op.operands])
  have e3:z8n env' mx=z8n env mx:=z8b fun y hy=>he y (by subst hy; simp [Op.operands])
  have e:=he x (by simp [Op.operands])
  have hl:∀ id∈x6m (z0x env x),z0j h' id=z0j h id:=hh
  have hl2:∀ ti:TI,∀ id∈x6m (w36 ti (z0x env x)),z0j h' id=z0j h id:=fun ti=>by rw [x80]; exact hl
  simp only [z1u,z2e,e,e1,e2,e3,y4k (hl2 _),y59 hl,and_self]
 |fieldAddr t x f=>simp [z1u,z2e,he x (by simp [Op.operands])]
 |field t x f=>simp [z1u,z2e,he x (by simp [Op.operands])]
 |indexAddr t x i=>
  have e:=he x (by simp [Op.operands])
  have e2:=he i (by simp [Op.operands])
  have hl:∀ id∈x6m (z0x env x),z0j h' id=z0j h id:=hh
  simp only [z1u,z2e,e,e2,x3l,y0b hl,and_self]
 |index t x i=>simp [z1u,z2e,he x (by simp [Op.operands]),he i (by simp [Op.operands])]
 |extract x i=>simp [z1u,z2e,he x (by simp [Op.operands])]
 |makeMap t n=>
  have e1:z8n env' n=z8n env n:=z8b fun y hy=>he y (by subst hy; simp [Op.operands])
  simp [z1u,z2e,e1]
 |lookup t m k o=>
  have e:=he m (by simp [Op.operands])
  have e2:=he k (by simp [Op.operands])
  have hl:=y0w (op:= .lookup t m k o) rfl (x:=m) (by simp [Op.operands]) hh
  simp only [z1u,z2e,e,e2,z98 hl,and_self]
 |mapUpdate t m k x=>
  have e:=he m (by simp [Op.operands])
  have e2:=he k (by simp [Op.operands])
  have e3:=he x (by simp [Op.operands])
  have hl:=y0w (op:= .mapUpdate t m k x) rfl (x:=m) (by simp [Op.operands]) hh
  simp only [z1u,z2e,e,e2,e3,z98 hl,y3e hl,and_self]
 |_=>exact ⟨rfl,rfl⟩
theorem z4j {α:Type} {b:Bool} {x:Option α} {r:α} (h:(bif b then x else none)=some r):x=some r:=by
 cases b with
 |false=>cases h
 |true=>exact h
theorem y65 {v:AV} {res:Res} (h:ok v=some res):res.u=[]:=by cases h; rfl
theorem x2d {α:Type} {x:Option α} {f:α→Option Res} {res:Res} (h:x.bind f=some res) (hf:∀ a,f a=some res→res.u=[]):res.u=[]:=by
 cases x with
 |none=>cases h
 |some a=>exact hf a h
theorem x22 {ti:TI} {r:List D} {ra:List AV} {a x:AV} {res:Res} (hs:z5b std ti h r ra a x=some res):∀ id o,(id,o)∈res.u→id∈tid a:=by
 unfold z5b at hs
 split at hs
 ·cases hb:(Nat.ble 1 ti.size&&(z7n ‹List AV› ti.size&&z6u ‹List AV›)) with
  |false=>rw [hb] at hs; cases hs
  |true=>
   rw [hb] at hs
   simp only [cond_true] at hs
   cases a<;>simp only [z4p] at hs<;>(repeat' split at hs)<;>first
    |cases hs; done
    |(cases hs; intro id o ho; simp at ho; simp [tid,ho.1])
 ·cases hs
theorem x0s {ti:TI} {new:Nat} {q:Bool} {r:List D} {s x:AV} {res:Res} (hs:z2g std ti h new q r s x=some res):∀ id o,(id,o)∈res.u→id=new∨id∈tid s:=by
 unfold z2g at hs
 split at hs
 ·generalize (Nat.ble 1 _&&Nat.ble _ 60000)=b at hs
  cases b with
  |false=>cases hs
  |true=>
   simp only [cond_true] at hs
   have da:∀ (b:Bool) (u v:Option Res),(bif b then u else v)=some res→u=some res∨v=some res:=by
    intro b u v h
    cases b with
    |false=>exact .inr h
    |true=>exact .inl h
   split at hs
   ·split at hs
    ·split at hs
     ·rcases da _ _ _ hs with hs|hs
      ·split at hs
       ·cases hs; intro id o ho; simp at ho
       ·cases hs
      ·cases hs; intro id o ho; simp at ho; simp [tid]; omega
     ·cases hs
    all_goals (repeat' split at hs)<;>first
     |cases hs; done
     |(cases hs; intro id o ho; simp at ho; simp [tid]; omega)
     |(cases hs; intro id o ho; simp at ho; rcases ho with ho|ho<;>simp [tid,ho.1])
     |(cases hs; intro id o ho; simp at ho; simp [tid,ho.1])
   ·cases hs
 ·cases hs
theorem w66 {ti:TI} {s x:AV} {res:Res} (hs:y3d std ti h s x=some res):∀ id o,(id,o)∈res.u→id∈tid s:=by
 obtain ⟨e,z,eb,ea,ez,id,z0,off,len,c,cx,cs,es0,es,ys,hdesc,hb,rfl,hxs,hes,hrow,rfl⟩:=y4i hs
 intro i o ho
 rw [List.mem_singleton] at ho
 cases ho
 simp [tid]
theorem y8f {ti:TI} {new:Nat} {q:Bool} {r:List D} {s x:AV} {res:Res} (hs:z3g std ti h new q r s x=some res):∀ id o,(id,o)∈res.u→id=new∨id∈tid s:=by
 obtain ⟨res0,h0,rfl⟩:=z8k hs
 have hu:∀ id o,(id,o)∈res0.u→id=new∨id∈tid s:=by
  rcases h0 with ⟨_,h0⟩|h0
  ·exact fun id o hm=> .inr (w66 h0 id o hm)
  ·exact x0s h0
 intro id o hm
 rcases z82 r res0 with e|⟨id0,z,off,len,cap,es,o',_,_,hm0,e⟩
 ·rw [e] at hm; exact hu id o hm
 ·rw [e] at hm
  rcases List.mem_append.1 hm with hm|hm
  ·exact hu id o hm
  ·rw [List.mem_singleton] at hm
   cases hm
   exact hu _ _ hm0
theorem x6p {ti:TI} {d x:AV} {res:Res} (hs:z6p std ti h d x=some res):∀ id o,(id,o)∈res.u→id∈tid d:=by
 unfold z6p at hs
 split at hs
 ·replace hs:=z4j hs
  split at hs
  ·replace hs:=z4j hs
   split at hs
   ·cases hs; intro id o ho; simp at ho; simp [tid,ho.1]
   ·cases hs
  ·cases hs; intro id o ho; simp at ho
  ·cases hs
 ·cases hs
theorem x26 {ti:TI} {d:AV} {res:Res} (hs:z5c std ti h d=some res):∀ id o,(id,o)∈res.u→id∈tid d:=by
 unfold z5c at hs
 split at hs
 ·replace hs:=z4j hs
  split at hs
  ·replace hs:=z4j hs
   split at hs
   ·cases hs; intro id o ho; simp at ho; simp [tid,ho.1]
   ·cases hs
  ·cases hs; intro id o ho; simp at ho
  ·cases hs
 ·cases hs
theorem x0p {ti:TI} {m:AV} {q:Bool} {r:List D} {res:Res} (hs:z35 std ti h q r m=some res):∀ id o,(id,o)∈res.u→id∈tid m:=by
 unfold z35 at hs
 (repeat' split at hs)<;>first|cases hs; done|(cases hs; intro id o ho; simp at ho; simp [tid,ho.1])
theorem x0l {ti:TI} {m k x:AV} {q:Bool} {r:List D} {res:Res} (hs:z34 std ti h q r m k x=some res):∀ id o,(id,o)∈res.u→id∈tid m:=by
 unfold z34 at hs
 (repeat' split at hs)<;>first|cases hs; done|(cases hs; intro id o ho; simp at ho; simp [tid,ho.1])
theorem w67 {new:Nat} {q:Bool} {r:List D} {ra:List AV} {op:Op} {res:Res} (hs:z1u std T env h new q r ra op=some res):
  ∀ id o,(id,o)∈res.u→(id=new∧w6o op=true)∨(y4c op=true∧id∈z8j env op):=by
 have none:res.u=[]→∀ id o,(id,o)∈res.u→(id=new∧w6o op=true)∨(y4c op=true∧id∈z8j env op):=by
  intro e id o ho; rw [e] at ho; simp at ho
 cases op with
 |load t a=>
  refine none ?_
  simp only [z1u] at hs
  split at hs
  ·exact x6o hs
  ·cases hs
 |store t a x=>
  simp only [z1u] at hs
  split at hs
  ·intro id o ho
   exact .inr ⟨rfl,by simp [z8j,z6y,Op.operands,x22 hs id o ho]⟩
  ·cases hs
 |call c=>
  obtain ⟨callee,args,ts⟩:=c
  cases callee with
  |builtin b=>
   simp only [z1u] at hs
   unfold z3f at hs
   generalize hargs:z1x env args.toList=xs at hs
   split at hs
   ·refine none ?_
    split at hs
    ·rename_i x _ _ _ _
     clear hargs
     cases x<;>simp only [w3s] at hs<;>(repeat' split at hs)<;>first|cases hs; done|exact y65 hs
    ·cases hs
   ·rename_i sx y _
    split at hs
    ·split at hs
     ·intro id o ho
      rcases y8f hs id o ho with e|e
      ·exact .inl ⟨e,rfl⟩
      ·refine .inr ⟨rfl,?_⟩
       simp only [z8j,z6y,if_true,List.mem_flatten,List.mem_map]
       rw [z20] at hargs
       have hm:sx∈args.toList.map (z0x env):=by rw [hargs]; simp
       obtain ⟨z,hz,hze⟩:=List.mem_map.1 hm
       exact ⟨_,⟨z,by simp [Op.operands,Call.operands]; simpa using hz,rfl⟩,by rw [hze]; exact e⟩
     ·cases hs
    ·cases hs
   ·rename_i dx y _
    split at hs
    ·intro id o ho
     have e:=x6p hs id o ho
     refine .inr ⟨rfl,?_⟩
     simp only [z8j,z6y,if_true,List.mem_flatten,List.mem_map]
     rw [z20] at hargs
     have hm:dx∈args.toList.map (z0x env):=by rw [hargs]; simp
     obtain ⟨z,hz,hze⟩:=List.mem_map.1 hm
     exact ⟨_,⟨z,by simp [Op.operands,Call.operands]; simpa using hz,rfl⟩,by rw [hze]; exact e⟩
    ·cases hs
   ·rename_i mx y _
    split at hs
    ·intro id o ho
     have e:=x0p hs id o ho
     refine .inr ⟨rfl,?_⟩
     simp only [z8j,z6y,if_true,List.mem_flatten,List.mem_map]
     rw [z20] at hargs
     have hm:mx∈args.toList.map (z0x env):=by rw [hargs]; simp
     obtain ⟨z,hz,hze⟩:=List.mem_map.1 hm
     exact ⟨_,⟨z,by simp [Op.operands,Call.operands]; simpa using hz,rfl⟩,by rw [hze]; exact e⟩
    ·cases hs
   ·rename_i dx _
    split at hs
    ·intro id o ho
     have e:=x26 hs id o ho
     refine .inr ⟨rfl,?_⟩
     simp only [z8j,z6y,if_true,List.mem_flatten,List.mem_map]
     rw [z20] at hargs
     have hm:dx∈args.toList.map (z0x env):=by rw [hargs]; simp
     obtain ⟨z,hz,hze⟩:=List.mem_map.1 hm
     exact ⟨_,⟨z,by simp [Op.operands,Call.operands]; simpa using hz,rfl⟩,by rw [hze]; exact e⟩
    ·cases hs
   ·refine none ?_
    unfold y12 at hs
    (repeat' split at hs)<;>first|cases hs; done|exact y65 hs
   ·refine none ?_
    unfold y12 at hs
    (repeat' split at hs)<;>first|cases hs; done|exact y65 hs
   ·cases hs
  |_=>cases hs
 |move x=>exact none (y65 hs)
 |assign x=>exact none (y65 hs)
 |pick c a b=>
  refine none ?_
  simp only [z1u] at hs
  unfold y8a at hs
  (repeat' split at hs)<;>first|cases hs; done|exact y65 hs
 |alloc t=>
  simp only [z1u] at hs
  split at hs
  ·unfold y01 at hs
   generalize Nat.ble 1 _=b at hs
   cases b with
   |false=>cases hs
   |true=>
    simp only [cond_true] at hs
    split at hs<;>(cases hs; intro id o ho; simp at ho; exact .inl ⟨ho.1,rfl⟩)
  ·cases hs
 |box t x=>
  simp only [z1u] at hs
  split at hs
  ·unfold y8d at hs
   generalize Nat.ble 1 _=b at hs
   cases b with
   |false=>cases hs
   |true=>
    simp only [cond_true] at hs
    split at hs
    ·replace hs:=z4j hs
     split at hs
     ·split at hs
      ·replace hs:=z4j hs
       cases hs; intro id o ho; simp at ho; exact .inl ⟨ho.1,rfl⟩
      ·cases hs
     ·cases hs; intro id o ho; simp at ho; exact .inl ⟨ho.1,rfl⟩
    ·cases hs
  ·cases hs
 |build t ps=>
  refine none ?_
  simp only [z1u] at hs
  split at hs
  ·unfold y0z at hs
   (repeat' split at hs)<;>first|cases hs; done|exact x2d hs fun _ h=>y65 h
  ·cases hs
 |buildSlice t len ps=>
  simp only [z1u] at hs
  split at hs
  ·have hsR:=hs
   unfold z4c at hs
   have hor:res.u=[]∨z2n ‹TI› new len (y2o env ps.toList)=some res:=by
    split at hs
    ·exact .inr hs
    ·split at hs
     ·split at hs
      ·cases hs; exact .inl rfl
      ·cases hs
     ·split at hs
      ·rename_i h0
       split at hs
       ·cases hs; exact .inl rfl
       ·cases hs; exact .inr h0
      ·cases hs
   clear hs hsR
   rcases hor with hor|hs
   ·exact none hor
   unfold z2n at hs
   split at hs
   ·generalize (Nat.ble 1 _&&Nat.ble _ _)=b at hs
    cases b with
    |false=>cases hs
    |true=>
     simp only [cond_true] at hs
     split at hs
     ·generalize z6u _=b at hs
      cases b with
      |false=>cases hs
      |true=>
       simp only [cond_true] at hs
       split at hs
       ·cases hs; intro id o ho; simp at ho; exact .inl ⟨ho.1,rfl⟩
       ·cases hs
     ·cases hs
   ·cases hs
  ·cases hs
 |nilCheck x=>
  refine none ?_
  simp only [z1u] at hs
  unfold x23 at hs
  (repeat' split at hs)<;>first|cases hs; done|exact y65 hs
 |binOp op t x y t2=>
  refine none ?_
  simp only [z1u] at hs
  split at hs
  ·generalize v1w y=b at hs
   cases b with
   |true=>
    simp only [cond_true] at hs
    unfold z9j at hs
    split at hs<;>first|(cases hs; done)|(cases hs; rfl)
   |false=>
   simp only [cond_false] at hs
   unfold y8e at hs
   split at hs
   ·split at hs
    ·generalize ((_:IntKind)==_)=b at hs; cases b with
     |false=>cases hs
     |true=>exact y65 hs
    ·generalize ((_:IntKind)==_)=b at hs; cases b with
     |false=>cases hs
     |true=>exact y65 hs
    ·generalize ((_:IntKind)==_)=b at hs; cases b with
     |false=>cases hs
     |true=>cases hs; rfl
    ·cases hs; rfl
    ·generalize ((_:IntKind)==_)=b at hs; cases b with
     |false=>cases hs
     |true=>exact y65 hs
   ·(repeat' split at hs)<;>first|cases hs; done|exact y65 hs
   ·(repeat' split at hs)<;>first|cases hs; done|exact x2d hs fun _ h=>y65 h
  ·cases hs
 |unOp op t x=>
  refine none ?_
  simp only [z1u] at hs
  unfold x4p at hs
  (repeat' split at hs)<;>first|cases hs; done|exact y65 hs
 |convert s t x=>
  refine none ?_
  simp only [z1u] at hs
  split at hs
  ·unfold z72 at hs
   (repeat' split at hs)<;>first|cases hs; done|exact y65 hs
  ·cases hs
 |makeFunc fn f c=>exact none (y65 hs)
 |makeSlice t l c=>
  simp only [z1u] at hs
  split at hs
  ·unfold z5u at hs
   split at hs
   ·generalize (Nat.ble 1 _&&_)=b at hs
    cases b with
    |false=>cases hs
    |true=>cases hs; intro id o ho; simp at ho; exact .inl ⟨ho.1,rfl⟩
   ·cases hs
  ·cases hs
 |slice t x lo hi mx=>
  refine none ?_
  simp only [z1u] at hs
  split at hs
  ·unfold z59 at hs
   split at hs
   ·split at hs
    ·split at hs
     ·replace hs:=z4j hs
      (repeat' split at hs)<;>first|cases hs; done|(cases hs; rfl)
     ·cases hs
    ·split at hs
     ·replace hs:=z4j hs
      (repeat' split at hs)<;>first|cases hs; done|(cases hs; rfl)
     ·cases hs
    ·split at hs
     ·split at hs
      ·cases z4j hs; rfl
      ·cases hs
     ·cases hs
    ·(repeat' split at hs)<;>first|cases hs; done|(cases hs; rfl)
    ·cases hs
   ·cases hs
  ·cases hs
 |fieldAddr t x f=>
  refine none ?_
  simp only [z1u] at hs
  split at hs
  ·unfold y0y at hs
   (repeat' split at hs)<;>first|cases hs; done|exact y65 (z4j hs)
  ·cases hs
 |field t x f=>
  refine none ?_
  simp only [z1u] at hs
  split at hs
  ·unfold z6o at hs
   (repeat' split at hs)<;>first|cases hs; done|exact x2d hs fun _ h=>y65 h
  ·cases hs
 |indexAddr t x i=>
  refine none ?_
  simp only [z1u] at hs
  split at hs
  ·unfold z2y at hs
   (repeat' split at hs)<;>first|cases hs; done|(cases hs; rfl)|(cases z4j hs; rfl)
  ·cases hs
 |index t x i=>
  refine none ?_
  simp only [z1u] at hs
  split at hs
  ·unfold z6n at hs
   (repeat' split at hs)<;>first|cases hs; done|(cases hs; rfl)|exact x2d hs fun _ h=>by cases h; rfl
  ·cases hs
 |extract x i=>
  refine none ?_
  simp only [z1u] at hs
  unfold y0c at hs
  split at hs
  ·exact x2d hs fun _ h=>y65 h
  ·cases hs
 |makeMap t n=>
  simp only [z1u] at hs
  split at hs
  ·unfold z7z at hs
   split at hs
   ·cases hs; intro id o ho; simp at ho; exact .inl ⟨ho.1,rfl⟩
   ·cases hs
  ·cases hs
 |lookup t m k o=>
  refine none ?_
  simp only [z1u] at hs
  split at hs
  ·split at hs
   ·unfold z4q at hs
    (repeat' split at hs)<;>first|cases hs; done|exact y65 hs
   ·cases hs
  ·cases hs
 |mapUpdate t m k x=>
  simp only [z1u] at hs
  split at hs
  ·intro id o ho
   exact .inr ⟨rfl,by simp [z8j,z6y,Op.operands]; exact .inl (x0l hs id o ho)⟩
  ·cases hs
 |_=>cases hs
end
end Go.Am
end
section
namespace Go.Am
inductive Ord (ops:Array Oper):(Nat→Bool)→List Nat→Prop
 |nil (S:Nat→Bool) (h:∀ i,i<ops.size→S i=true):Ord ops S []
 |cons (S:Nat→Bool) (i:Nat) (o:Oper) (l:List Nat) (hi:S i=false) (ho:ops[i]?=some o) (hd:∀ d∈z4i o,S d=true) (h:Ord ops (fun j=>S j||Nat.beq j i) l):Ord ops S (i::l)
theorem y7s {o:Oper} {d:Nat}:d∈z4i o↔∃ e∈o.after,Region.binds .any e=true∧e.on=d:=by
 unfold z4i
 simp only [List.mem_map,List.mem_filter,Array.mem_toList_iff]
 constructor
 ·rintro ⟨e,⟨h1,h2⟩,h3⟩; exact ⟨e,h1,h2,h3⟩
 ·rintro ⟨e,h1,h2,h3⟩; exact ⟨e,⟨h1,h2⟩,h3⟩
theorem x7a {listed:Array Bool} {i:Nat} (hi:i<listed.size):(fun j=>(listed.setIfInBounds i true).getD j false)=fun j=>listed.getD j false||Nat.beq j i:=by
 funext j
 cases hb:Nat.beq j i with
 |true=>
  have:=Nat.eq_of_beq_eq_true hb
  subst this
  simp [Array.getD_eq_getD_getElem?,hi]
 |false=>
  have hne:i≠j:=by rintro rfl; simp at hb
  simp [Array.getD_eq_getD_getElem?,Array.getElem?_setIfInBounds_ne hne]
theorem w1m {l:List Bool} {i:Nat} (h:l[i]?=some false):(l.set i true).countP (· ==false)+1=l.countP (· ==false):=by
 induction l generalizing i with
 |nil=>simp at h
 |cons x l ih=>cases i with
  |zero=>simp at h; subst h; simp
  |succ i=>
   have:=ih (i:=i) (by simpa using h)
   simp only [List.set_cons_succ,List.countP_cons]
   omega
theorem x72 {l:List Bool} (h:l.countP (· ==false)=0) (i:Nat) (hi:i<l.length):l[i]?=some true:=by
 have:=List.countP_eq_zero.1 h l[i] (List.getElem_mem hi)
 rw [List.getElem?_eq_getElem hi]
 cases hb:l[i]<;>simp_all
theorem w4j {ops:Array Oper} (he:z62 ops.toList=true) {i:Nat} {o:Oper} (ho:ops[i]?=some o):∀ d∈z4i o,d<i:=by
 intro d hd
 unfold z62 at he
 rw [List.all_eq_true] at he
 have hlt:i<ops.toList.length:=by simpa using (Array.getElem?_eq_some_iff.1 ho).1
 have:=he i (List.mem_range.2 hlt)
 rw [Array.getElem?_toList,ho] at this
 simp only [List.all_eq_true] at this
 exact Nat.le_of_ble_eq_true (this d hd)
theorem y8t {ops:Array Oper} (he:z62 ops.toList=true):∀ (fuel t:Nat) (listed:Array Bool),listed.size=ops.size→listed.toList.countP (· ==false)=fuel→
  Ord ops (fun i=>listed.getD i false) (Region.linearise.go .any ops fuel t listed []):=by
 intro fuel
 induction fuel with
 |zero=>
  intro t listed hs hc
  simp only [Region.linearise.go,List.reverse_nil]
  refine .nil _ fun i hi=>?_
  have:=x72 hc i (by simpa [hs] using hi)
  rw [Array.getElem?_toList] at this
  simp [Array.getD_eq_getD_getElem?,this]
 |succ fuel ih=>
  intro t listed hs hc
  simp only [Region.linearise.go]
  change Ord ops _ (match (Region.ready .any ops listed)[t % (Region.ready .any ops listed).length]? with
   |some i=>Region.linearise.go .any ops fuel (t / (Region.ready .any ops listed).length) (listed.setIfInBounds i true) [i]
   |none=>[].reverse)
  have hne:Region.ready .any ops listed≠[]:=by
   have hex:∃ i,i<ops.size∧listed.getD i true=false:=by
    refine Classical.byContradiction fun hno=>?_
    have:listed.toList.countP (· ==false)=0:=by
     rw [List.countP_eq_zero]
     intro b hb
     obtain ⟨i,hi⟩:=List.getElem?_of_mem hb
     rw [Array.getElem?_toList] at hi
     have hlt:=(Array.getElem?_eq_some_iff.1 hi).1
     cases b with
     |true=>simp
     |false=>exact absurd ⟨i,by omega,by simp [Array.getD_eq_getD_getElem?,hi]⟩ hno
    omega
   have key:∀ i,i<ops.size→listed.getD i true=false→∃ j,j∈Region.ready .any ops listed:=by
    intro i
    induction i using Nat.strongRecOn with
    |_ i ih=>
     intro hi hf
     have ho:ops[i]?=some ops[i]:=Array.getElem?_eq_getElem hi
     by_cases hall:∀ e∈(ops[i]).after,Region.binds .any e=true→listed.getD e.on false=true
     ·exact ⟨i,mem_ready.2 ⟨hf,_,ho,hall⟩⟩
     ·simp only [Classical.not_forall] at hall
      obtain ⟨e,hm,hb,hl⟩:=hall
      have hlt:=w4j he ho e.on (y7s.2 ⟨e,hm,hb,rfl⟩)
      refine ih e.on hlt (by omega) ?_
      have hlt2:e.on<listed.size:=by omega
      simp only [Array.getD_eq_getD_getElem?,Array.getElem?_eq_getElem hlt2,Option.getD_some] at hl⊢
      simpa using hl
   obtain ⟨i,hi,hf⟩:=hex
   obtain ⟨j,hj⟩:=key i hi hf
   intro h0; rw [h0] at hj; simp at hj
  cases hi:(Region.ready .any ops listed)[t % (Region.ready .any ops listed).length]? with
  |none=>
   exfalso
   cases hr:Region.ready .any ops listed with
   |nil=>exact hne hr
   |cons x xs=>
    rw [hr] at hi
    have hlt:t % (x::xs).length<(x::xs).length:=Nat.mod_lt _ (by simp)
    simp at hi
    simp at hlt
    omega
  |some i=>
   simp only []
   rw [linearise_go_acc,List.reverse_singleton,List.singleton_append]
   have hm:=List.mem_of_getElem? hi
   rw [mem_ready] at hm
   obtain ⟨hf,o,ho,hall⟩:=hm
   have hlt:i<listed.size:=by have:=(Array.getElem?_eq_some_iff.1 ho).1; omega
   have hfl:listed[i]?=some false:=by
    rw [Array.getElem?_eq_getElem hlt]
    simp only [Array.getD_eq_getD_getElem?,Array.getElem?_eq_getElem hlt,Option.getD_some] at hf
    rw [hf]
   refine .cons _ i o _ (by simp [Array.getD_eq_getD_getElem?,hfl]) ho (fun d hd=>?_) ?_
   ·obtain ⟨e,h1,h2,rfl⟩:=y7s.1 hd
    exact hall e h1 h2
   ·rw [←x7a hlt]
    refine ih _ _ (by simpa using hs) ?_
    have:=w1m (l:=listed.toList) (i:=i) (by rw [Array.getElem?_toList]; exact hfl)
    rw [Array.toList_setIfInBounds]
    omega
theorem z8v {ops:Array Oper} (he:z62 ops.toList=true) (t:Nat):Ord ops (fun _=>false) (Region.schedule true ops t):=by
 simp only [Region.schedule,Bool.true_or,if_true]
 have:=y8t he ops.size t (Array.replicate ops.size false) (by simp) (by simp [List.countP_replicate])
 have e:(fun i=>(Array.replicate ops.size false).getD i false)=fun _=>false:=by
  funext i
  by_cases h:i<ops.size
  ·simp [Array.getD_eq_getD_getElem?,Array.getElem?_replicate,h]
  ·simp [Array.getD_eq_getD_getElem?,Array.getElem?_replicate,h]
 rw [e] at this
 exact this
end Go.Am
end
section
namespace Go.Am
theorem y49 {d:Option Nat} {l:List Nat} (h:x5c d l=true) {t:Nat} (hd:d=some t):t∉l:=by
 subst hd
 simp only [x5c,Bool.not_eq_true'] at h
 intro hm
 rw [x5h.2 hm] at h; cases h
theorem y7f {ops:List Oper} (h:y5g ops=true) {i j:Nat} {a b:Oper} (hij:i<j) (ha:ops[i]?=some a) (hb:ops[j]?=some b):(z7k (y2u ops []) j).testBit i=true∨x8j ops a b=true:=by
 unfold y5g at h
 simp only [List.all_eq_true,List.mem_range] at h
 have hj:j<ops.length:=(List.getElem?_eq_some_iff.1 hb).1
 have:=h j hj i hij
 rw [ha,hb] at this
 simpa using this
def x44 (ops:List Oper) (acc:List (List Nat)) (i:Nat) (o:Oper) (ti:List Nat):Bool:=
  (List.range i).all fun j=>Nat.testBit (z7k (y2u ops []) i) j||
    (match z2k ops j with
     |some a=>(!y4c a.op&&!y4c o.op)||w4m (x68 acc j) ti
     |none=>true)
theorem x5b {α:Type}:∀ (l:List α) (i:Nat),z2k l i=l[i]?
 |[],_=>by simp [z2k]
 |_::_,0=>rfl
 |_::l,i+1=>by simpa [z2k] using x5b l i
def y74 (s0:AS) (ops:List Oper) (recs:List Rec) (i:Nat) (o:Oper):Prop:=
 ∀ (j:Nat) (a:Oper),j<i→ops[j]?=some a→(z7k (y2u ops []) i).testBit j=true∨(y4c a.op=false∧y4c o.op=false)∨∀ id∈z8j (stF s0 ops recs j).env a.op,id∉z8j (stF s0 ops recs i).env o.op
theorem z18 {ops:List Oper} {S:Nat→Bool} (hc:∀ (i:Nat) (o:Oper),ops[i]?=some o→S i=true→∀ d∈z4i o,S d=true) {i:Nat} {o:Oper} (ho:ops[i]?=some o) (hd:∀ d∈z4i o,S d=true):∀ j,(z7k (y2u ops []) i).testBit j=true→S j=true:=by
 have spec:=w1z ops [] [] rfl (by simp)
 simp only [List.nil_append] at spec
 have clo:∀ i o,ops[i]?=some o→(∀ d∈z4i o,S d=true)→∀ j,(z7k (y2u ops []) i).testBit j=true→S j=true:=by
  intro i
  induction i using Nat.strongRecOn with
  |_ i ih=>
   intro o ho hd j hj
   rcases spec i o ho j hj with h|⟨d,h1,h2,h3⟩
   ·exact hd j h
   ·have hlt:d<ops.length:=by have:=(List.getElem?_eq_some_iff.1 ho).1; omega
    have hod:ops[d]?=some ops[d]:=List.getElem?_eq_getElem hlt
    exact ih d h2 _ hod (hc d _ hod (hd d h1)) j h3
 exact clo i o ho hd
def x67 (ops:List Oper) (base i:Nat) (l:List Nat):Prop:=∀ id∈l,id<base∨∃ j,id=base+j∧j<i∧(z7k (y2u ops []) i).testBit j=true
theorem x67.lt {ops:List Oper} {base i:Nat} {l:List Nat} (h:x67 ops base i l):∀ id∈l,id<base+i:=by
 intro id hid
 rcases h id hid with h|⟨j,rfl,h,_⟩<;>omega
inductive x8m (P:Program) (T:TypeId→Option TI) (ops:List Oper) (s:AS) (base i:Nat) (o:Oper):Rec→Prop
 |skip (hg:z6g ops s.env o.guard=some false):x8m P T ops s base i o ⟨.tuple [],[]⟩
 |step (hg:z6g ops s.env o.guard=some true) {q:Bool} {r:List D} {ra:List AV} {res:Res} (hw:(z2e std T s.env s.heap o.op).ok q r ra) (hs:z1u std T s.env s.heap (base+i) q r ra o.op=some res) (hc:res.c=true) (ht:x67 ops base i (z8j s.env o.op)):x8m P T ops s base i o ⟨res.v,res.u⟩
 |call (hg:z6g ops s.env o.guard=some true) {f:Operand} {args:Array Operand} {ts:Array TypeId} (hop:o.op= .call ⟨.value f,args,ts⟩) {g:FuncId} {first captured:List AV} (hf:z0x s.env f= .clo (.func g) first captured) (hen:z29 P g)
   {r:AV} (hret:∀ h,(∀ id∈z8j s.env o.op,z0j h id=z0j s.heap id)→z90 P g (first++z1x s.env args.toList++captured) h r h) (ht:x67 ops base i (z8j s.env o.op)):x8m P T ops s base i o ⟨r,[]⟩
section
variable {P:Program}
theorem z2b.step' {ρ:Rho} {w:World} {s:AS} {tm:Array Value} (h1:z2b P ρ s tm w) {new:Nat} (hnone:ρ new=none) {dst:Option Tmp} (hd:z5y s.nt dst=true) {res:Res} {v:Value} {w':World} {ρ':Rho}
  (hv:z0t ρ' (z0i ρ' (z1q s.heap res.u)) w' res.v v) (hh:z0c P ρ' (z1q s.heap res.u) w') (hx:Ext (fun id=>id≠new) ρ s.heap w ρ' (z1q s.heap res.u) w') (hr:ρ'=ρ∨∃ o,(new,o)∈res.u):
  z2b P ρ' (z56 s dst res.v res.u) (y21 tm dst v) w':=by
 obtain ⟨l1,l2⟩:=z4h res.u s.heap
 refine ⟨hh,y2p hx.keep (fun id L hL=>?_) h1.env h1.size hd hv,by rw [z8t]; exact h1.size,fun id hid=>?_⟩
 ·rw [hx.rho id (by rintro rfl; rw [hnone] at hL; cases hL)]; exact hL
 ·show id<(z1q s.heap res.u).length
  by_cases he:id=new
  ·subst he
   rcases hr with rfl|⟨o,ho⟩
   ·exact absurd hnone hid
   ·exact l2 _ _ ho
  ·rw [hx.rho id he] at hid
   have:=h1.dom id hid; omega
structure Inv (P:Program) (ops:List Oper) (s0:AS) (recs:List Rec) (S:Nat→Bool) (ρ:Rho) (tm:Array Value) (w:World) (s:AS):Prop where
 nt:s.nt=s0.nt
 env:∀ t,z2f s.env t=y55 s0 ops recs S t ops.length
 heap:∀ id,z0j s.heap id=y4a s0 ops recs S id ops.length
 st:z2b P ρ s tm w
 dom:∀ id,ρ id≠none→id<s0.heap.length∨∃ j r,S j=true∧recs[j]?=some r∧id=s0.heap.length+j∧∃ o,(id,o)∈r.u
 turned:∀ (j:Nat) (r:Rec),S j=true→recs[j]?=some r→∀ id o,(id,o)∈r.u→id=s0.heap.length+j∨(id<s0.heap.length∨∃ k,id=s0.heap.length+k∧k<j∧(z7k (y2u ops []) j).testBit k=true)
 closed:∀ (i:Nat) (o:Oper),ops[i]?=some o→S i=true→∀ d∈z4i o,S d=true
theorem x49 {T:TypeId→Option TI} {ops:List Oper} {s:AS} {base i:Nat} {o:Oper} {r:Rec} (h:x8m P T ops s base i o r):∀ id x,(id,x)∈r.u→id=base+i∨(y4c o.op=true∧id∈z8j s.env o.op∧(id<base∨∃ j,id=base+j∧j<i∧(z7k (y2u ops []) i).testBit j=true)):=by
 intro id x hm
 cases h with
 |skip=>simp at hm
 |step hg hw hs hc ht=>
  rcases w67 hs id x hm with h|h
  ·exact .inl h.1
  ·exact .inr ⟨h.1,h.2,ht id h.2⟩
 |call=>simp at hm
theorem w0y {T : TypeId → Option TI} (hT : y1v P T) {ops : Array Oper} {s0 : AS} {recs : List Rec} (hind : y5g ops.toList = true) (hlen : recs.length ≤ ops.size)
    (hok : ∀ (i : Nat) (o : Oper) (r : Rec), ops[i]? = some o → recs[i]? = some r → z5y s0.nt o.dst = true ∧ x8m P T ops.toList (stF s0 ops.toList recs i) s0.heap.length i o r)
    (hpr : ∀ (i : Nat) (o : Oper), i < recs.length → ops[i]? = some o → y74 s0 ops.toList recs i o)
    {S : Nat → Bool} {ρ : Rho} {tm : Array Value} {w : World} {s : AS} {B : Nat} (hI : Inv P ops.toList s0 recs S ρ tm w s) {i : Nat} {o : Oper} (hiL : i < recs.length) (hSL : ∀ j, S j = true → j < recs.length) (hi : S i = false) (ho : ops[i]? = some o) (hd : ∀ d ∈ z4i o, S d = true)
    {b : Frame} {k : List Item} {cs : List Frame} {ds : List Deferred} {rest : List Nat} (hds : z3y b.roundOf B ρ.fr w ds) :
    ∃ s' ρ' tm' w', Inv P ops.toList s0 recs (fun j => S j || Nat.beq j i) ρ' tm' w' s' ∧ z3y b.roundOf B ρ'.fr w' ds ∧ Ext (· < s0.heap.length) ρ s.heap w ρ' s'.heap w' ∧
      Steps P (lone (b.on tm ds (.inRegion ops (i :: rest) :: k)) cs w) (lone (b.on tm' ds (.inRegion ops rest :: k)) cs w') := by
  have hio : i < ops.size := (Array.getElem?_eq_some_iff.1 ho).1
  obtain ⟨r, hr⟩ : ∃ r, recs[i]? = some r := ⟨recs[i]'(by omega), List.getElem?_eq_getElem (by omega)⟩
  obtain ⟨hdst, hop⟩ := hok i o r ho hr
  have hol : ops.toList[i]? = some o := by rw [Array.getElem?_toList]; exact ho
  have him : i < ops.toList.length := by simpa using hio
  have before : ∀ (j : Nat) (p : Oper), ops.toList[j]? = some p → j < i → S j = true ∨ x8j ops.toList p o = true := by
    intro j p hp hji
    rcases y7f hind hji hp hol with h | h
    · exact .inl (z18 hI.closed hol hd j h)
    · exact .inr h
  have behind : ∀ (j : Nat) (p : Oper), ops.toList[j]? = some p → i < j → S j = true → x8j ops.toList o p = true := by
    intro j p hp hij hSj
    rcases y7f hind hij hol hp with h | h
    · have := z18 hI.closed hp (hI.closed j p hp hSj) i h
      rw [hi] at this; cases this
    · exact h
  have ap : ∀ {a c : Oper}, x8j ops.toList a c = true → (∀ t, a.dst = some t → t ∉ y6z c.op ++ y7g ops.toList c.guard ++ c.dst.toList) ∧ (∀ t, c.dst = some t → t ∉ y6z a.op ++ y7g ops.toList a.guard ++ a.dst.toList) := by
    intro a c h
    simp only [x8j, Bool.and_eq_true] at h
    exact ⟨fun t ht => y49 h.1 ht, fun t ht => y49 h.2 ht⟩
  have dis1 : ∀ (j : Nat) (p : Oper), ops.toList[j]? = some p → j < i → S j = false → (y4c p.op = false ∧ y4c o.op = false) ∨ ∀ id ∈ z8j (stF s0 ops.toList recs j).env p.op, id ∉ z8j (stF s0 ops.toList recs i).env o.op := by
    intro j p hp hji hSj
    rcases hpr i o hiL ho j p hji hp with h | h
    · rw [z18 hI.closed hol hd j h] at hSj; cases hSj
    · exact h
  have dis2 : ∀ (j : Nat) (p : Oper), ops.toList[j]? = some p → i < j → S j = true → (y4c o.op = false ∧ y4c p.op = false) ∨ ∀ id ∈ z8j (stF s0 ops.toList recs i).env o.op, id ∉ z8j (stF s0 ops.toList recs j).env p.op := by
    intro j p hp hij hSj
    rcases hpr j p (hSL j hSj) (by rw [← Array.getElem?_toList]; exact hp) i o hij hol with h | h
    · have := z18 hI.closed hp (hI.closed j p hp hSj) i h
      rw [hi] at this; cases this
    · exact h
  have slot : ∀ t, t ∈ y6z o.op ++ y7g ops.toList o.guard → z2f s.env t = z2f (stF s0 ops.toList recs i).env t := by
    intro t ht
    rw [hI.env t]
    refine y10 _ _ _ _ t i _ (by omega) (fun j p hp hpd hji => ?_) (fun j p hp hpd hij hjm => ?_)
    · rcases before j p hp hji with h | h
      · exact h
      · exact absurd (List.mem_append_left _ ht) ((ap h).1 t hpd)
    · by_cases he : j = i
      · rw [he]; exact hi
      · cases hS : S j with
        | false => rfl
        | true => exact absurd (List.mem_append_left _ ht) ((ap (behind j p hp (by omega) hS)).2 t hpd)
  have hE : ∀ x ∈ o.op.operands, z0x s.env x = z0x (stF s0 ops.toList recs i).env x := by
    intro x hx
    cases x with
    | tmp t =>
      refine slot t (List.mem_append_left _ ?_)
      unfold y6z
      rw [List.mem_filterMap]
      exact ⟨.tmp t, by simpa using hx, rfl⟩
    | _ => rfl
  have hG : z6g ops.toList s.env o.guard = z6g ops.toList (stF s0 ops.toList recs i).env o.guard := by
    cases hg : o.guard with
    | none => rfl
    | some g =>
      obtain ⟨j, want⟩ := g
      simp only [z6g]
      cases hn : z2k ops.toList j with
      | none => rfl
      | some p =>
        simp only []
        cases hpd : p.dst with
        | none => rfl
        | some d =>
          simp only []
          rw [slot d (List.mem_append_right _ (by rw [hg]; simp [y7g, hn, hpd]))]
  have tidsE : z8j s.env o.op = z8j (stF s0 ops.toList recs i).env o.op := by
    unfold z8j
    split
    · congr 1
      refine List.map_congr_left fun x hx => ?_
      rw [hE x (by simpa using hx)]
    · unfold v2w
      split
      · rename_i t x i hop; rw [hE x (by simp [hop, Op.operands])]
      · rename_i t x lo hi mx hop; rw [hE x (by simp [hop, Op.operands])]
      · rfl
  have turnT := x49 hop
  have doneOf : ∀ j, (z7k (y2u ops.toList []) i).testBit j = true → S j = true := fun j h => z18 hI.closed hol hd j h
  have free : ρ (s0.heap.length + i) = none := by
    cases hq : ρ (s0.heap.length + i) with
    | none => rfl
    | some L =>
      rcases hI.dom _ (by rw [hq]; simp) with h | ⟨j, q, hS, hj, he, _⟩
      · omega
      · have : j = i := by omega
        subst this; rw [hi] at hS; cases hS
  have obj : x67 ops.toList s0.heap.length i (z8j (stF s0 ops.toList recs i).env o.op) → ∀ id ∈ z8j (stF s0 ops.toList recs i).env o.op, z0j s.heap id = z0j (stF s0 ops.toList recs i).heap id := by
    intro hlt id hid
    rw [hI.heap id]
    refine y1z _ _ _ _ id i _ (by omega) (fun j q hq hx hji => ?_) (fun j q hq hx hij hjm => ?_)
    · obtain ⟨x, hx⟩ := hx
      have hjs : j < ops.size := by omega
      have hoj : ops[j]? = some ops[j] := Array.getElem?_eq_getElem hjs
      have hojl : ops.toList[j]? = some ops[j] := by rw [Array.getElem?_toList]; exact hoj
      rcases x49 (hok j _ q hoj hq).2 id x hx with h | ⟨h1, h2, h3⟩
      · rcases hlt id hid with h' | ⟨j', he, _, hb⟩
        · omega
        · have : j' = j := by omega
          subst this; exact doneOf _ hb
      · cases hSj : S j with
        | true => rfl
        | false =>
          rcases dis1 j _ hojl hji hSj with h | h
          · rw [h1] at h; cases h.1
          · exact absurd hid (h id h2)
    · by_cases he : j = i
      · rw [he]; exact hi
      · cases hS : S j with
        | false => rfl
        | true =>
          exfalso
          obtain ⟨x, hx⟩ := hx
          have hjs : j < ops.size := by simpa using hjm
          have hoj : ops[j]? = some ops[j] := Array.getElem?_eq_getElem hjs
          have hojl : ops.toList[j]? = some ops[j] := by rw [Array.getElem?_toList]; exact hoj
          rcases x49 (hok j _ q hoj hq).2 id x hx with h | ⟨h1, h2, h3⟩
          · have := hlt.lt id hid; omega
          · rcases dis2 j _ hojl (by omega) hS with h | h
            · rw [h1] at h; cases h.2
            · exact h id hid h2
  have main : ∃ ρ' tm' w', z2b P ρ' (z56 s o.dst r.v r.u) tm' w' ∧ z3y b.roundOf B ρ'.fr w' ds ∧ Ext (fun id => id ≠ s0.heap.length + i) ρ s.heap w ρ' (z1q s.heap r.u) w' ∧
      (∀ id, ρ' id ≠ none → ρ id ≠ none ∨ (id = s0.heap.length + i ∧ ∃ x, (id, x) ∈ r.u)) ∧
      Steps P (lone (b.on tm ds (.inRegion ops (i :: rest) :: k)) cs w) (lone (b.on tm' ds (.inRegion ops rest :: k)) cs w') := by
    have hdst' : z5y s.nt o.dst = true := by rw [hI.nt]; exact hdst
    cases hop with
    | skip hg =>
      rw [← hG] at hg
      exact ⟨ρ, _, w, hI.st.step' free (res := ⟨true, .tuple [], []⟩) hdst' x0e hI.st.heap (Ext.refl _ _ _ _) (.inl rfl), hds, Ext.refl _ _ _ _, fun id h => .inl h, .one (y6v ho (z5i hI.st hg))⟩
    | step hg hw hs hc ht =>
      rename_i q rr ra res
      have hH := obj ht
      obtain ⟨e1, e2⟩ := x27 (T := T) (new := s0.heap.length + i) (q := q) (r := rr) (ra := ra) (op := o.op) (env := (stF s0 ops.toList recs i).env) (env' := s.env) (h := (stF s0 ops.toList recs i).heap) (h' := s.heap) hE hH
      rw [← e2] at hw
      rw [← e1] at hs
      rw [← hG] at hg
      obtain ⟨v, w', ρ', hrun, hv, hh, hx, hrho⟩ := x4q hT hI.st.heap free hI.st.env hw hs hc
      have h1' := hI.st.step' free hdst' hv hh hx hrho
      have hdef : ∀ c, o.op ≠ .defer c := by
        intro c hc; rw [hc] at hs; simp [z1u] at hs
      refine ⟨ρ', _, w', h1', hds.keep hI.st.heap hx, hx, fun id h => ?_, .one (y0e ho (z5i hI.st hg) hdef hrun)⟩
      by_cases he : id = s0.heap.length + i
      · rcases hrho with rfl | ⟨x, hx⟩
        · exact .inl h
        · exact .inr ⟨he, x, by rw [he]; exact hx⟩
      · rw [hx.rho id he] at h; exact .inl h
    | call hg hopc hf hen hret ht =>
      rename_i f args ts g first captured rv
      rw [← hG] at hg
      have hfE : z0x s.env f = .clo (.func g) first captured := by
        rw [hE f (by rw [hopc]; simp [Op.operands, Call.operands])]; exact hf
      have hargs : z1x s.env args.toList = z1x (stF s0 ops.toList recs i).env args.toList := z8c fun x hx => hE x (by rw [hopc]; simp [Op.operands, Call.operands]; right; simpa using hx)
      have hret := hret s.heap (obj ht)
      rw [← hargs] at hret
      have hfv := z0n hI.st.env f
      rw [hfE] at hfv
      obtain ⟨vf, vc, hfe, hfr, hcr⟩ : ∃ vf vc, opv tm f = .func (.func g) vf vc ∧ z24 ρ (z0i ρ s.heap) w first vf ∧ z24 ρ (z0i ρ s.heap) w captured vc := by
        generalize hv : opv tm f = v at hfv
        cases hfv with
        | clo _ _ _ vf vc a1 a2 a3 a4 => exact ⟨vf, vc, rfl, ⟨a1, a3⟩, ⟨a2, a4⟩⟩
      have har : z24 ρ (z0i ρ s.heap) w (z1x s.env args.toList) (args.map (opv tm)) := z7q hI.st.env args
      have hall := (hfr.append har).append hcr
      have hexec : (execOp (opv tm) o).run P w = .ok (.enter g (vf ++ args.map (opv tm) ++ vc)) w := by
        have := hen (vf ++ args.map (opv tm) ++ vc) w
        simp only [Array.append_assoc] at this
        simp [execOp, hopc, resolve, Deferred.ofValue, hfe, invoke, this]
      obtain ⟨ρ', v, w', fr, hst, hfn, hlv, hv, hh, hdm, hx⟩ := hret.run ρ _ w (b.on tm ds (.inRegion ops (i :: rest) :: k) :: cs) hI.st.heap hI.st.dom hall
      have hrho : ∀ id, ρ' id = ρ id := by
        intro id
        by_cases hlt : id < s.heap.length
        · exact hx.rho id hlt
        · have e1 : ρ' id = none := by
            cases hq : ρ' id with
            | none => rfl
            | some L => have := hdm id (by rw [hq]; simp); omega
          have e2 : ρ id = none := by
            cases hq : ρ id with
            | none => rfl
            | some L => have := hI.st.dom id (by rw [hq]; simp); omega
          rw [e1, e2]
      have hdef : ∀ c, o.op ≠ .defer c := by rw [hopc]; simp
      refine ⟨ρ', y21 tm o.dst v, w', ⟨hh, y2p hx.keep (fun id L hL => by rw [hrho]; exact hL) hI.st.env hI.st.size hdst' hv, by rw [z8t]; exact hI.st.size, hdm⟩, hds.keep hI.st.heap hx, ⟨hx.os, hx.tape, hx.output, hx.keep, fun id _ => hrho id, hx.fr, hx.frs⟩, fun id h => .inl (by rw [← hrho]; exact h), ?_⟩
      refine .head (y4r ho (z5i hI.st hg) hdef hexec) (Steps.trans hst (.one ?_))
      rw [← z85 ho]
      exact step_leave_returned hlv
  obtain ⟨ρ', tm', w', h1, h2, h3, h4, h5⟩ := main
  have mono : ∀ id, ρ id ≠ none → ρ' id ≠ none := by
    intro id h
    rw [h3.rho id (by rintro rfl; exact h free)]; exact h
  have h3' : Ext (· < s0.heap.length) ρ s.heap w ρ' (z56 s o.dst r.v r.u).heap w' := h3.mono (fun id (hid : id < s0.heap.length) => by show id ≠ s0.heap.length + i; omega)
  refine ⟨z56 s o.dst r.v r.u, ρ', tm', w', ?_, h2, h3', h5⟩
  have mem : ∀ j, (S j || Nat.beq j i) = true ↔ S j = true ∨ j = i := by
    intro j
    simp only [Bool.or_eq_true]
    constructor
    · rintro (h | h)
      · exact .inl h
      · exact .inr (Nat.eq_of_beq_eq_true h)
    · rintro (h | rfl)
      · exact .inl h
      · exact .inr (Nat.beq_refl _)
  have hS' : ∀ j, S j = true → j ≠ i := by
    rintro j hj rfl; rw [hi] at hj; cases hj
  exact
    { nt := hI.nt
      env := fun t => by
        rw [x8y _ _ _ _ i hol hr t _ him (fun j p hp hij hSj d hod hpd => ?_)]
        · show z2f (y4u s.env o.dst r.v) t = _
          cases hod : o.dst with
          | none => simp [y4u, hI.env t]
          | some d =>
            simp only [y4u]
            by_cases e : d = t
            · subst e; rw [if_pos rfl, z1c]
            · rw [if_neg (by simp [e]), z1t _ _ _ _ e, hI.env t]
        · exact (ap (behind j p hp hij hSj)).1 d hod (List.mem_append_right _ (by simp [hpd]))
      heap := fun id => by
        rw [x8x _ _ _ _ i hol hr hi id _ him (fun j q hq hij hSj hx x hx2 => ?_)]
        · show z0j (z1q s.heap r.u) id = _
          rw [y0j, hI.heap id]
        · obtain ⟨y, hy⟩ := hx
          have hjs : j < ops.size := by have := (List.getElem?_eq_some_iff.1 hq).1; omega
          have hoj : ops[j]? = some ops[j] := Array.getElem?_eq_getElem hjs
          have hojl : ops.toList[j]? = some ops[j] := by rw [Array.getElem?_toList]; exact hoj
          rcases hI.turned j q hSj hq id x hx2 with h | h
          · rcases turnT id y hy with h' | ⟨_, _, h' | ⟨_, h', _, _⟩⟩ <;> omega
          · rcases turnT id y hy with h' | ⟨a1, a2, a3⟩
            · rcases h with h | ⟨k', h, hk1, hk2⟩
              · omega
              · have : k' = i := by omega
                subst this
                have hSk := z18 hI.closed hojl (hI.closed j _ hojl hSj) k' hk2
                rw [hi] at hSk; cases hSk
            · rcases x49 (hok j _ q hoj hq).2 id x hx2 with g | ⟨g1, g2, g3⟩
              · rcases a3 with a3 | ⟨_, a3, _, _⟩ <;> omega
              · rcases dis2 j _ hojl hij hSj with h | h
                · rw [a1] at h; cases h.1
                · exact h id a2 g2
      st := h1
      dom := fun id h => by
        rcases h4 id h with h | ⟨he, x, hx⟩
        · rcases hI.dom id h with h | ⟨j, q, a1, a2, a3, a4⟩
          · exact .inl h
          · exact .inr ⟨j, q, (mem j).2 (.inl a1), a2, a3, a4⟩
        · exact .inr ⟨i, r, (mem i).2 (.inr rfl), hr, he, x, hx⟩
      turned := fun j q hj hq id x hx => by
        rcases (mem j).1 hj with h | rfl
        · exact hI.turned j q h hq id x hx
        · rw [hr] at hq; cases hq
          rcases turnT id x hx with h | ⟨_, _, h⟩
          · exact .inl h
          · exact .inr h
      closed := fun j p hp hj d hdd => by
        refine (mem d).2 (.inl ?_)
        rcases (mem j).1 hj with h | rfl
        · exact hI.closed j p hp h d hdd
        · rw [hol] at hp; cases hp; exact hd d hdd }
theorem x4r (s:AS) (ops:List Oper) (recs:List Rec):∀ m,(stF s ops recs m).nt=s.nt:=by
 intro m
 induction m with
 |zero=>rfl
 |succ m ih=>
  simp only [stF]
  split
  ·simpa [z56] using ih
  ·exact ih
theorem x3b (s:AS) (ops:List Oper) (recs:List Rec):∀ m,s.heap.length≤(stF s ops recs m).heap.length∧∀ j o r,j<m→ops[j]?=some o→recs[j]?=some r→∀ id x,(id,x)∈r.u→id<(stF s ops recs m).heap.length:=by
 intro m
 induction m with
 |zero=>exact ⟨Nat.le_refl _,fun j o r hj=>by omega⟩
 |succ m ih=>
  obtain ⟨i1,i2⟩:=ih
  simp only [stF]
  split
  ·rename_i o r ho hr
   obtain ⟨l1,l2⟩:=z4h r.u (stF s ops recs m).heap
   refine ⟨Nat.le_trans i1 l1,fun j o' r' hj ho' hr' id x hx=>?_⟩
   by_cases he:j=m
   ·subst he; rw [hr] at hr'; cases hr'; exact l2 id x hx
   ·exact Nat.lt_of_lt_of_le (i2 j o' r' (by omega) ho' hr' id x hx) l1
  ·rename_i hno
   refine ⟨i1,fun j o' r' hj ho' hr' id x hx=>?_⟩
   by_cases he:j=m
   ·subst he; exact absurd hr' (hno o' r' ho')
   ·exact i2 j o' r' (by omega) ho' hr' id x hx
theorem y5p {T:TypeId→Option TI} (hT:y1v P T) {ops:Array Oper} {s0:AS} {recs:List Rec} (hind:y5g ops.toList=true) (hlen:recs.length≤ops.size)
  (hok:∀ (i:Nat) (o:Oper) (r:Rec),ops[i]?=some o→recs[i]?=some r→z5y s0.nt o.dst=true∧x8m P T ops.toList (stF s0 ops.toList recs i) s0.heap.length i o r)
  (hpr:∀ (i:Nat) (o:Oper),i<recs.length→ops[i]?=some o→y74 s0 ops.toList recs i o)
  (htail:∀ (i:Nat) (o:Oper),ops[i]?=some o→recs.length≤i→∀ j,j<recs.length→(z7k (y2u ops.toList []) i).testBit j=true)
  {b:Frame} {k:List Item} {cs:List Frame} {ds:List Deferred} {B:Nat} {S:Nat→Bool} {l:List Nat} (hl:Ord ops S l):∀ {ρ:Rho} {tm:Array Value} {w:World} {s:AS},(∀ j,S j=true→j<recs.length)→Inv P ops.toList s0 recs S ρ tm w s→z3y b.roundOf B ρ.fr w ds→
  ∃ s' ρ' tm' w' S' l',Inv P ops.toList s0 recs S' ρ' tm' w' s'∧Ord ops S' l'∧(∀ i,i<recs.length→S' i=true)∧(∀ j,S' j=true→j<recs.length)∧z3y b.roundOf B ρ'.fr w' ds∧Ext (· <s0.heap.length) ρ s.heap w ρ' s'.heap w'∧
   Steps P (lone (b.on tm ds (.inRegion ops l::k)) cs w) (lone (b.on tm' ds (.inRegion ops l'::k)) cs w'):=by
 induction hl with
 |nil S h=>
  intro ρ tm w s hSL hI hds
  exact ⟨s,ρ,tm,w,S,[],hI, .nil S h,fun i hi=>h i (by omega),hSL,hds,Ext.refl _ _ _ _, .refl _ _⟩
 |cons S i o l hi ho hd h ih=>
  intro ρ tm w s hSL hI hds
  by_cases hiL:i<recs.length
  ·obtain ⟨s',ρ',tm',w',g1,g2,g3,g4⟩:=w0y hT hind hlen hok hpr hI hiL hSL hi ho hd (b:=b) (k:=k) (cs:=cs) (rest:=l) hds
   obtain ⟨s2,ρ2,tm2,w2,S2,l2,f1,f2,f3,f4,f5,f6,f7⟩:=ih (fun j hj=>by
    simp only [Bool.or_eq_true] at hj
    rcases hj with hj|hj
    ·exact hSL j hj
    ·rw [Nat.eq_of_beq_eq_true hj]; exact hiL) g1 g2
   exact ⟨s2,ρ2,tm2,w2,S2,l2,f1,f2,f3,f4,f5,g3.trans f6,g4.trans f7⟩
  ·have hol:ops.toList[i]?=some o:=by rw [Array.getElem?_toList]; exact ho
   exact ⟨s,ρ,tm,w,S,i::l,hI, .cons S i o l hi ho hd h,fun j hj=>z18 hI.closed hol hd j (htail i o ho (by omega) j hj),hSL,hds,Ext.refl _ _ _ _, .refl _ _⟩
theorem w4l {T:TypeId→Option TI} (hT:y1v P T) {ops:Array Oper} {s0:AS} {recs:List Rec} (hind:y5g ops.toList=true) (hlen:recs.length=ops.size)
  (hok:∀ (i:Nat) (o:Oper) (r:Rec),ops[i]?=some o→recs[i]?=some r→z5y s0.nt o.dst=true∧x8m P T ops.toList (stF s0 ops.toList recs i) s0.heap.length i o r)
  (hpr:∀ (i:Nat) (o:Oper),i<recs.length→ops[i]?=some o→y74 s0 ops.toList recs i o)
  {b:Frame} {k:List Item} {cs:List Frame} {ds:List Deferred} {B:Nat} {S:Nat→Bool} {l:List Nat} (hl:Ord ops S l) {ρ:Rho} {tm:Array Value} {w:World} {s:AS} (hSL:∀ j,S j=true→j<recs.length) (hI:Inv P ops.toList s0 recs S ρ tm w s) (hds:z3y b.roundOf B ρ.fr w ds):
  ∃ s' ρ' tm' w' S',Inv P ops.toList s0 recs S' ρ' tm' w' s'∧(∀ i,i<ops.size→S' i=true)∧z3y b.roundOf B ρ'.fr w' ds∧Ext (· <s0.heap.length) ρ s.heap w ρ' s'.heap w'∧
   Steps P (lone (b.on tm ds (.inRegion ops l::k)) cs w) (lone (b.on tm' ds k) cs w'):=by
 obtain ⟨s2,ρ2,tm2,w2,S2,l2,f1,f2,f3,f4,f5,f6,f7⟩:=y5p hT hind (Nat.le_of_eq hlen) hok hpr (fun i o ho hge=>by have:=(Array.getElem?_eq_some_iff.1 ho).1; omega) hl (k:=k) (cs:=cs) hSL hI hds
 have hnil:l2=[]:=by
  cases f2 with
  |nil=>rfl
  |cons _ i o _ hi ho _ _=>have:=(Array.getElem?_eq_some_iff.1 ho).1; rw [f3 i (by omega)] at hi; cases hi
 subst hnil
 exact ⟨s2,ρ2,tm2,w2,S2,f1,fun i hi=>f3 i (by omega),f5,f6,f7.trans (.one z73)⟩
theorem y3l {T : TypeId → Option TI} (hm : P.follows .mixedOrders = true) (hT : y1v P T) {n : Nat} {id : Nat} {ops : Array Oper} {s0 : AS} {Q : AX → AS → Prop} (hn : n ≤ s0.heap.length) (hind : y5g ops.toList = true) (hed : z62 ops.toList = true)
    (recs : List Rec) (hlen : recs.length = ops.size)
    (hok : ∀ (i : Nat) (o : Oper) (r : Rec), ops[i]? = some o → recs[i]? = some r → z5y s0.nt o.dst = true ∧ x8m P T ops.toList (stF s0 ops.toList recs i) s0.heap.length i o r)
    (hpr : ∀ (i : Nat) (o : Oper), i < recs.length → ops[i]? = some o → y74 s0 ops.toList recs i o)
    (hQ : Q .normal (stF s0 ops.toList recs ops.size)) : z6m P n (.region id ops true) s0 Q := ⟨by
  intro b k cs ρ tm ds w B h1 h2
  have hw := z0c.drawn h1.heap (w.drawn + 1) (z00.succ _)
  have hxd := Ext.drawn (· < n) ρ s0.heap w (w.drawn + 1) (z00.succ _)
  have hI : Inv P ops.toList s0 recs (fun _ => false) ρ tm { w with drawn := w.drawn + 1 } s0 :=
    { nt := rfl
      env := fun t => by
        have : ∀ m, y55 s0 ops.toList recs (fun _ => false) t m = z2f s0.env t := by
          intro m
          induction m with
          | zero => rfl
          | succ m ih => simp only [y55]; split <;> simp [ih]
        rw [this]
      heap := fun id => by
        have : ∀ m, y4a s0 ops.toList recs (fun _ => false) id m = z0j s0.heap id := by
          intro m
          induction m with
          | zero => rfl
          | succ m ih => simp only [y4a]; split <;> simp [ih]
        rw [this]
      st := ⟨hw, fun t => (h1.env t).keep hxd.keep (fun _ _ h => h), h1.size, h1.dom⟩
      dom := fun id h => .inl (h1.dom id h)
      turned := by simp
      closed := by simp }
  obtain ⟨s', ρ', tm', w', S', g1, g2, g3, g4, g5⟩ := w4l hT hind hlen hok hpr (b := b) (k := k) (cs := cs) (ds := ds) (B := B) (z8v hed (w.tape w.drawn (.order b.fn id))) (by simp) hI (h2.keep h1.heap hxd)
  have hall : ∀ i, i < ops.toList.length → S' i = true := by simpa using g2
  have hE : ∀ t, z2f (stF s0 ops.toList recs ops.size).env t = z2f s'.env t := by
    intro t
    rw [g1.env t, w2l _ _ _ _ t _ hall, Array.length_toList]
  have hH : ∀ id, z0j s'.heap id = z0j (stF s0 ops.toList recs ops.size).heap id := by
    intro id
    rw [g1.heap id, w2k _ _ _ _ id _ hall, Array.length_toList]
  obtain ⟨l1, l2⟩ := x3b s0 ops.toList recs ops.size
  have hst : z2b P ρ' (stF s0 ops.toList recs ops.size) tm' w' :=
    ⟨g1.st.heap.ext hH, fun t => by rw [hE, ← z3p hH]; exact g1.st.env t, by rw [x4r, ← g1.nt]; exact g1.st.size, fun id hid => by
      rcases g1.dom id hid with h | ⟨j, r, a1, a2, a3, x, a4⟩
      · omega
      · have hj : j < ops.size := by have := (List.getElem?_eq_some_iff.1 a2).1; omega
        exact l2 j ops[j] r hj (by rw [Array.getElem?_toList]; exact Array.getElem?_eq_getElem hj) a2 id x a4⟩
  refine ⟨.normal, _, ρ', tm', ds, w', hQ, hst, g3, x4r _ _ _ _, ?_, ?_⟩
  · refine hxd.trans ?_
    have := g4.mono (S' := (· < n)) (fun id (hid : id < n) => by show id < s0.heap.length; omega)
    exact ⟨this.os, this.tape, this.output, by rw [← z3p hH]; exact this.keep, this.rho, this.fr, this.frs⟩
  · have hst := z6z (P := P) (b := b) (tm := tm) (ds := ds) (k := k) (cs := cs) (w := w) (id := id) (ops := ops)
    rw [hm] at hst
    exact .head hst g5⟩
inductive DS (P:Program) (T:TypeId→Option TI) (ops:List Oper) (nt base:Nat) (K:AS→Prop):List (List Nat)→Nat→List Oper→AS→Prop
 |nil {acc:List (List Nat)} {i:Nat} {s:AS} (h:K s):DS P T ops nt base K acc i [] s
 |cons {acc:List (List Nat)} {i:Nat} {o:Oper} {rest:List Oper} {s:AS} {r:Rec} (hp:x44 ops acc i o (z8j s.env o.op)=true) (hd:z5y nt o.dst=true) (hop:x8m P T ops s base i o r)
   (h:DS P T ops nt base K (acc++[z8j s.env o.op]) (i+1) rest (z56 s o.dst r.v r.u)):DS P T ops nt base K acc i (o::rest) s
theorem DS.recs {T:TypeId→Option TI} {ops:List Oper} {nt base:Nat} {K:AS→Prop} {s0:AS} {acc:List (List Nat)} {i:Nat} {rest:List Oper} {s:AS} (h:DS P T ops nt base K acc i rest s):
  ∀ (pre tail:List Oper) (rs:List Rec),ops=pre++rest++tail→pre.length=i→rs.length=i→s=stF s0 ops rs i→
   (∀ (j:Nat) (o:Oper) (r:Rec),ops[j]?=some o→rs[j]?=some r→z5y nt o.dst=true∧x8m P T ops (stF s0 ops rs j) base j o r)→
   (acc.length=i)→(∀ (j:Nat) (o:Oper),j<i→ops[j]?=some o→x68 acc j=z8j (stF s0 ops rs j).env o.op)→(∀ (j:Nat) (o:Oper),j<i→ops[j]?=some o→y74 s0 ops rs j o)→
   ∃ recs:List Rec,recs.length+tail.length=ops.length∧(∀ (j:Nat) (o:Oper) (r:Rec),ops[j]?=some o→recs[j]?=some r→z5y nt o.dst=true∧x8m P T ops (stF s0 ops recs j) base j o r)∧(∀ (j:Nat) (o:Oper),j<recs.length→ops[j]?=some o→y74 s0 ops recs j o)∧K (stF s0 ops recs recs.length):=by
 induction h with
 |nil h=>
  intro pre tail rs e hp hr hs hok ha1 ha2 hpr
  refine ⟨rs,by rw [e]; simp [hp,hr],hok,fun j o hj=>hpr j o (by omega),by rw [hr, ←hs]; exact h⟩
 |cons hpb hd hop h ih=>
  rename_i acc i o rest s r
  intro pre tail rs e hp hr hs hok ha1 ha2 hpr
  have hoi:ops[i]?=some o:=by rw [e, ←hp]; simp
  have stable:∀ m,m≤rs.length→stF s0 ops (rs++[r]) m=stF s0 ops rs m:=by
   intro m
   induction m with
   |zero=>intro _; rfl
   |succ m ih=>intro hm; simp only [stF]; rw [ih (by omega),List.getElem?_append_left (by omega)]
  have hri:(rs++[r])[i]?=some r:=by rw [←hr]; simp
  refine ih (pre++[o]) tail (rs++[r]) (by rw [e]; simp) (by simp [hp]) (by simp [hr]) ?_ (fun j p q hj hq=>?_) (by simp [ha1]) (fun j p hj hpp=>?_) (fun j p hj hpp=>?_)
  ·simp only [stF,hoi,hri]
   rw [stable i (by omega), ←hs]
  ·rw [List.getElem?_append] at hq
   split at hq
   ·rename_i hlt
    rw [stable j (by omega)]
    exact hok j p q hj hq
   ·rename_i hge
    have hj0:j=i:=by have:=(List.getElem?_eq_some_iff.1 hq).1; simp at this; omega
    subst hj0
    rw [hoi] at hj; cases hj
    have:r=q:=by rw [←hr] at hq; simpa using hq
    subst this
    rw [stable j (by omega), ←hs]
    exact ⟨hd,hop⟩
  ·rw [stable j (by omega)]
   by_cases hji:j=i
   ·subst hji
    rw [hoi] at hpp; cases hpp
    rw [←ha1,z8y,ha1, ←hs]
   ·rw [z8x _ _ _ (by omega)]
    exact ha2 j p (by omega) hpp
  ·by_cases hji:j=i
   ·subst hji
    rw [hoi] at hpp; cases hpp
    intro m a hm hma
    rw [stable m (by omega),stable j (by omega)]
    unfold x44 at hpb
    have:=List.all_eq_true.1 hpb m (List.mem_range.2 hm)
    rw [x5b,hma] at this
    simp only [Bool.or_eq_true,Bool.and_eq_true,Bool.not_eq_true'] at this
    rcases this with h|h|h
    ·exact .inl h
    ·exact .inr (.inl h)
    ·refine .inr (.inr ?_)
     rw [ha2 m a hm hma] at h
     rw [←hs]
     exact y7r h
   ·intro m a hm hma
    have:=hpr j p (by omega) hpp m a hm hma
    rw [stable m (by omega),stable j (by omega)]
    exact this
theorem w1j {T:TypeId→Option TI} (hm:P.follows .mixedOrders=true) (hT:y1v P T) {n:Nat} {id:Nat} {ops:Array Oper} {s0:AS} {Q:AX→AS→Prop} (hn:n≤s0.heap.length) (hind:y5g ops.toList=true) (hed:z62 ops.toList=true)
  (h:DS P T ops.toList s0.nt s0.heap.length (Q .normal) [] 0 ops.toList s0):z6m P n (.region id ops true) s0 Q:=by
 obtain ⟨recs,h1,h2,h4,h3⟩:=h.recs (s0:=s0) [] [] [] (by simp) rfl rfl rfl (by simp) rfl (fun j o hj=>by omega) (fun j o hj=>by omega)
 refine y3l hm hT hn hind hed recs (by simpa using h1) (fun i o r ho hr=>h2 i o r (by rw [Array.getElem?_toList]; exact ho) hr) (fun i o hi ho=>h4 i o hi (by rw [Array.getElem?_toList]; exact ho)) (by simp at h1; rw [h1] at h3; exact h3)
end
end Go.Am
end
section
namespace Go.Am
def x6a {α:Type} (l:List α) (off len:Nat):List α:=(l.drop off).take len
def x5l (cap:Option Nat) (len:Nat):Bool:=
 match cap with
 |some c=>Nat.beq c len
 |none=>false
def frz (o:AO) (z off len:Nat) (cap:Option Nat):AV:=
 match o with
 | .row es=>bif Nat.ble (off+len) es.length then .d (.list (x5l cap len) z (x6a es off len)) else .bot
 |_=> .bot
mutual
def z4o (h:List AO) (kp:Nat→Bool):AV→AV
 | .bot=> .bot
 | .d x=> .d x
 | .bptr id off=>bif kp id then .bptr id off else .bot
 | .ptr id i off=>bif kp id then .ptr id i off else .bot
 | .lptr c off=> .lptr c off
 | .wptr c off=> .wptr c off
 | .slice id z off len cap=>bif kp id then .slice id z off len cap else frz (z0j h id) z off len cap
 | .map id=>bif kp id then .map id else .bot
 | .yld id=>bif kp id then .yld id else .bot
 | .clo fn fs cs=> .clo fn (y6a h kp fs) (y6a h kp cs)
 | .iface t v=> .iface t (z4o h kp v)
 | .agg cs=> .agg (y6a h kp cs)
 | .tuple vs=> .tuple (y6a h kp vs)
def y6a (h:List AO) (kp:Nat→Bool):List AV→List AV
 |[]=>[]
 |x::l=>z4o h kp x::y6a h kp l
end
theorem z9h (h:List AO) (kp:Nat→Bool) (l:List AV):y6a h kp l=l.map (z4o h kp):=by
 induction l with
 |nil=>rfl
 |cons x l ih=>simp [y6a,ih]
def x4m (h:List AO) (kp:Nat→Bool):List (List AV)→List (List AV)
 |[]=>[]
 |x::l=>y6a h kp x::x4m h kp l
def x0a {α:Type} (h:List AO) (kp:Nat→Bool):List (α×AV)→List (α×AV)
 |[]=>[]
 |(k,x)::l=>(k,z4o h kp x)::x0a h kp l
def w2i (h:List AO) (kp:Nat→Bool):AO→AO
 | .dead=> .dead
 | .box cs=> .box (y6a h kp cs)
 | .row es=> .row es
 | .arow es=> .arow (x4m h kp es)
 | .map es=> .map es
 | .loop st pd g pos nt env=> .loop st pd g pos nt (x0a h kp env)
theorem y98 (h:List AO) (kp:Nat→Bool) (l:List (List AV)):x4m h kp l=l.map (y6a h kp):=by
 induction l with
 |nil=>rfl
 |cons x l ih=>simp [x4m,ih]
theorem y7h (h:List AO) (kp:Nat→Bool) (env:List (Nat×AV)) (t:Nat):z2f (x0a h kp env) t=z4o h kp (z2f env t):=by
 induction env with
 |nil=>rfl
 |cons x env ih=>
  obtain ⟨k,x⟩:=x
  simp only [x0a,z2f]
  cases Nat.beq k t<;>simp [ih]
theorem z69 (h:List AO) (kp:Nat→Bool) (o:AO):(w2i h kp o).live=o.live:=by cases o<;>rfl
def z6x (h:List AO) (kp:Nat→Bool):Nat→List AO→List AO
 |_,[]=>[]
 |i,o::l=>(bif kp i then w2i h kp o else .dead)::z6x h kp (i+1) l
theorem z5a (h:List AO) (kp:Nat→Bool) (l:List AO):∀ i id,z0j (z6x h kp i l) id=if kp (i+id)=true then w2i h kp (z0j l id) else .dead:=by
 induction l with
 |nil=>intro i id; simp [z6x,z0j,w2i]
 |cons o l ih=>
  intro i id
  cases id with
  |zero=>simp only [z6x,z0j,Nat.add_zero]; cases kp i<;>rfl
  |succ id=>simp only [z6x,z0j]; rw [ih,show i+1+id=i+(id+1) by omega]
theorem y99 (h:List AO) (kp:Nat→Bool) (l:List AO):∀ i,(z6x h kp i l).length=l.length:=by
 induction l with
 |nil=>intro i; rfl
 |cons o l ih=>intro i; simp [z6x,ih]
section
variable {ρ:Rho} {h:List AO} {w:World} {kp:Nat→Bool}
def Rho.only (ρ:Rho) (kp:Nat→Bool):Rho:=⟨fun id=>if kp id=true then ρ id else none,ρ.fr⟩
theorem z15 {id:Nat} {L:Loc}:ρ.only kp id=some L↔kp id=true∧ρ id=some L:=by
 simp [Rho.only]
theorem x45 {b:Nat}:z0i (ρ.only kp) (z6x h kp 0 h) b↔ρ.fr b∨∃ id L,kp id=true∧ρ id=some L∧(z0j h id).live=true∧L.blk=b:=by
 unfold z0i
 constructor
 ·rintro (hf|⟨id,L,hL,hl,rfl⟩)
  ·exact .inl hf
  ·obtain ⟨h1,h2⟩:=z15.1 hL
   rw [z5a,Nat.zero_add,if_pos h1,z69] at hl
   exact .inr ⟨id,L,h1,h2,hl,rfl⟩
 ·rintro (hf|⟨id,L,h1,h2,hl,rfl⟩)
  ·exact .inl hf
  ·refine .inr ⟨id,L,z15.2 ⟨h1,h2⟩,?_,rfl⟩
   rw [z5a,Nat.zero_add,if_pos h1,z69]; exact hl
theorem z5e {b:Nat} (hb:z0i (ρ.only kp) (z6x h kp 0 h) b):z0i ρ h b:=by
 rcases x45.1 hb with hf|⟨id,L,_,h2,hl,rfl⟩
 ·exact .inl hf
 ·exact .inr ⟨id,L,h2,hl,rfl⟩
theorem y5s {c:Array Value} {t:TypeId} {b k:Nat} {v:Value} (hb:w.heap[b]?=some (.cells c t (0,0))) (hv:c[k]?=some v):w.cell? ⟨b,k,none⟩=some v:=by
 simp [World.cell?,hb,hv]
theorem z9g {P:Program} (hr:z0c P ρ h w) {x:AV} {v:Value} (hv:z0t ρ (z0i ρ h) w x v):z0t (ρ.only kp) (z0i (ρ.only kp) (z6x h kp 0 h)) w (z4o h kp x) v:=by
 have hk:z5n (z0i ρ h) (z0i (ρ.only kp) (z6x h kp 0 h)) w w:=⟨Nat.le_refl _,fun _ _ _=>rfl,fun b _ hb=>z5e hb,fun _ _ h=>h,z00.refl _⟩
 induction hv with
 |bot v=>exact .bot v
 |d h=>exact .d (h.keep hk)
 |bptr id off L hL=>
  simp only [z4o]
  cases hkp:kp id with
  |true=>exact .bptr id off L (z15.2 ⟨hkp,hL⟩)
  |false=>exact .bot _
 |ptr id i off L hL=>
  simp only [z4o]
  cases hkp:kp id with
  |true=>exact .ptr id i off L (z15.2 ⟨hkp,hL⟩)
  |false=>exact .bot _
 |lptr r off b o hlt hO cell hc hrr=>
  exact .lptr r off b o hlt (fun hb=>hO (z5e hb)) cell hc (fun j x hx=>(hrr j x hx).keep hk)
 |wptr es off b o z hlt hO hz hc=>
  exact .wptr es off b o z hlt (fun hb=>hO (z5e hb)) hz fun i r j x hi hx=>let ⟨v,hv,hr⟩:=hc i r j x hi hx; ⟨v,hv,hr.keep hk⟩
 |nils id z off cap a hc=>
  simp only [z4o]
  cases hkp:kp id with
  |true=>exact .nils id z off cap a hc
  |false=>
   simp only [cond_false]
   unfold frz
   split
   ·cases Nat.ble (off+0) _ with
    |false=>exact .bot _
    |true=>simp only [cond_true,x6a,List.take_zero]; exact .d (.lnil _ _ _ _ (fun _=>rfl))
   ·exact .bot _
 |slice id z off len cap L a c hL hz ha hc hl=>
  simp only [z4o]
  cases hkp:kp id with
  |true=>exact .slice id z off len cap L a c (z15.2 ⟨hkp,hL⟩) hz ha hc hl
  |false=>
   simp only [cond_false]
   unfold frz
   split
   ·rename_i es hes
    cases hb:Nat.ble (off+len) es.length with
    |false=>exact .bot _
    |true=>
     have hle:=Nat.le_of_ble_eq_true hb
     simp only [cond_true]
     obtain ⟨hblk,hob⟩:=hr.obj id L hL
     rw [hes] at hob
     obtain ⟨hz0,cs,t,hcs,hrows,hcell⟩:=hob
     have hfull:x5l cap len=true→c=len:=by
      intro hf
      unfold x5l at hf
      rcases hc with rfl|⟨rfl,_⟩
      ·simp only at hf; exact Nat.eq_of_beq_eq_true hf
      ·cases hf
     refine .d ?_
     cases hlen:len with
     |zero=>
      have:x6a es off 0=[]:=by simp [x6a]
      rw [this]
      exact .lnil _ _ _ _ (fun hf=>by rw [←hlen] at hf; rw [hfull hf,hlen])
     |succ m=>
      rw [←hlen]
      have hll:(x6a es off len).length=len:=by simp [x6a]; omega
      have hpos:0<len:=by omega
      have hnth:∀ i r,(x6a es off len)[i]?=some r→i<len∧es[off+i]?=some r:=by
       intro i r hi
       have hlt:i<len:=by rw [←hll]; exact (List.getElem?_eq_some_iff.1 hi).1
       refine ⟨hlt,?_⟩
       simp only [x6a] at hi
       rw [List.getElem?_take_of_lt hlt,List.getElem?_drop] at hi
       exact hi
      have hex:∀ k,k<len*z→∃ u,cs[L.base+off*z+k]?=some u∧u.oneCell'=true∧∀ d,(∃ r,(x6a es off len)[k / z]?=some r∧r[k % z]?=some d)→z12 (z0i (ρ.only kp) (z6x h kp 0 h)) w d u:=by
       intro k hkz
       subst hz
       have hi:k / L.esz<len:=(Nat.div_lt_iff_lt_mul hz0).2 hkz
       have hlt:k / L.esz<(x6a es off len).length:=by rw [hll]; exact hi
       have he:=(hnth (k / L.esz) _ (List.getElem?_eq_getElem hlt)).2
       generalize (x6a es off len)[k / L.esz]=r at he
       have hrl:=hrows _ r he
       have hj:k % L.esz<r.length:=by rw [hrl]; exact Nat.mod_lt _ hz0
       obtain ⟨u,hu,h1,hd⟩:=hcell _ r _ r[k % L.esz] he (List.getElem?_eq_getElem hj)
       have hix:L.base+(off+k / L.esz)*L.esz+k % L.esz=L.base+off*L.esz+k:=by
        have:=Nat.div_add_mod k L.esz
        rw [Nat.add_mul,Nat.mul_comm (k / L.esz)]; omega
       rw [hix] at hu
       refine ⟨u,hu,h1,fun d hd'=>?_⟩
       obtain ⟨r',hr',hdr⟩:=hd'
       have:=(hnth _ _ hr').2
       rw [he] at this; cases this
       rw [List.getElem?_eq_getElem hj] at hdr; cases hdr
       exact hd.keep hk
      have ha':a=some ⟨L.blk,L.base+off*L.esz,none⟩:=ha (by omega)
      subst hz
      subst ha'
      have hown:¬ z0i (ρ.only kp) (z6x h kp 0 h) L.blk:=by
       intro hb
       rcases x45.1 hb with hf|⟨id',L',h1,h2,hl',he⟩
       ·exact hr.sep id L hL (by rw [hes]; rfl) hf
       ·have:=hr.inj id' id L' L h2 hL hl' (by rw [hes]; rfl) he
        subst this; rw [hkp] at h1; cases h1
      have key:=z12.list (O:=z0i (ρ.only kp) (z6x h kp 0 h)) (w:=w) (x5l cap len) (x6a es off len) L.blk (L.base+off*L.esz) L.esz c hz0
       (by intro e; rw [e] at hll; simp at hll; omega) hown (by rw [hll]; exact hl) (by rw [hll]; exact hfull) (fun i r hi=>hrows _ r (hnth i r hi).2)
       (fun k=>(cs[L.base+off*L.esz+k]?).getD undef) (fun k hkk=>?_) (fun k hkk=>?_) (fun i r j d hi hj=>?_)
      ·rw [hll] at key; exact key
      ·rw [hll] at hkk
       obtain ⟨u,hu,h1,_⟩:=hex k hkk
       rw [hu]; exact h1
      ·rw [hll] at hkk
       obtain ⟨u,hu,h1,_⟩:=hex k hkk
       rw [hu]; exact y5s hcs hu
      ·have hjl:j<L.esz:=by rw [←hrows _ r (hnth i r hi).2]; exact (List.getElem?_eq_some_iff.1 hj).1
       have hil:=(hnth i r hi).1
       have hkk:i*L.esz+j<len*L.esz:=by
        have:(i+1)*L.esz≤len*L.esz:=Nat.mul_le_mul_right _ (by omega)
        rw [Nat.add_mul,Nat.one_mul] at this; omega
       obtain ⟨u,hu,_,hd⟩:=hex _ hkk
       rw [hu]
       refine hd d ⟨r,?_,?_⟩
       ·rw [show (i*L.esz+j) / L.esz=i by rw [Nat.mul_comm,Nat.mul_add_div hz0,Nat.div_eq_of_lt hjl,Nat.add_zero]]; exact hi
       ·rw [show (i*L.esz+j) % L.esz=j by rw [Nat.mul_comm,Nat.mul_add_mod,Nat.mod_eq_of_lt hjl]]; exact hj
   ·exact .bot _
 |map id L hL=>
  simp only [z4o]
  cases hkp:kp id with
  |true=>exact .map id L (z15.2 ⟨hkp,hL⟩)
  |false=>exact .bot _
 |yld id L hL=>
  simp only [z4o]
  cases hkp:kp id with
  |true=>exact .yld id L (z15.2 ⟨hkp,hL⟩)
  |false=>exact .bot _
 |clo fn fs cs vf vc hf hc h1 h2 ih1 ih2=>
  simp only [z4o,z9h]
  refine .clo fn _ _ vf vc (by simpa using hf) (by simpa using hc) (fun i x hx=>?_) (fun i x hx=>?_)
  ·rw [List.getElem?_map] at hx
   cases hq:fs[i]? with
   |none=>rw [hq] at hx; cases hx
   |some y=>rw [hq] at hx; cases hx; exact ih1 i y hq
  ·rw [List.getElem?_map] at hx
   cases hq:cs[i]? with
   |none=>rw [hq] at hx; cases hx
   |some y=>rw [hq] at hx; cases hx; exact ih2 i y hq
 |iface t x v h ih=>simp only [z4o]; exact .iface t _ v ih
 |agg xs vs hl h ih=>
  simp only [z4o,z9h]
  refine .agg _ vs (by simpa using hl) (fun i x hx=>?_)
  rw [List.getElem?_map] at hx
  cases hq:xs[i]? with
  |none=>rw [hq] at hx; cases hx
  |some y=>rw [hq] at hx; cases hx; exact ih i y hq
 |tuple xs vs hl h ih=>
  simp only [z4o,z9h]
  refine .tuple _ vs (by simpa using hl) (fun i x hx=>?_)
  rw [List.getElem?_map] at hx
  cases hq:xs[i]? with
  |none=>rw [hq] at hx; cases hx
  |some y=>rw [hq] at hx; cases hx; exact ih i y hq
theorem z0c.view {P:Program} (hr:z0c P ρ h w) (kp:Nat→Bool):z0c P (ρ.only kp) (z6x h kp 0 h) w where
 obj:=fun id L hL=>by
  obtain ⟨h1,h2⟩:=z15.1 hL
  obtain ⟨hb,ho⟩:=hr.obj id L h2
  refine ⟨hb,?_⟩
  rw [z5a,Nat.zero_add,if_pos h1]
  have hk:z5n (z0i ρ h) (z0i (ρ.only kp) (z6x h kp 0 h)) w w:=⟨Nat.le_refl _,fun _ _ _=>rfl,fun b _ hb=>z5e hb,fun _ _ h=>h,z00.refl _⟩
  cases hno:z0j h id with
  |dead=>trivial
  |box cells=>
   rw [hno] at ho
   obtain ⟨c,t,hcb,hj⟩:=ho
   refine ⟨c,t,hcb,fun j x hx=>?_⟩
   rw [z9h,List.getElem?_map] at hx
   cases hq:cells[j]? with
   |none=>rw [hq] at hx; cases hx
   |some y=>
    rw [hq] at hx; cases hx
    obtain ⟨v,hv,hvr⟩:=hj j y hq
    exact ⟨v,hv,z9g hr hvr⟩
  |row es=>
   rw [hno] at ho
   obtain ⟨hz,c,t,hcb,hl',hj⟩:=ho
   exact ⟨hz,c,t,hcb,hl',fun i r j x hi hx=>let ⟨v,hv,h1,hvr⟩:=hj i r j x hi hx; ⟨v,hv,h1,hvr.keep hk⟩⟩
  |arow es=>
   rw [hno] at ho
   obtain ⟨hz,c,t,hcb,hl',hj⟩:=ho
   refine ⟨hz,c,t,hcb,fun i r hi=>?_,fun i r j x hi hx=>?_⟩
   ·rw [y98,List.getElem?_map] at hi
    cases hq:es[i]? with
    |none=>rw [hq] at hi; cases hi
    |some y=>rw [hq] at hi; cases hi; rw [z9h,List.length_map]; exact hl' i y hq
   ·rw [y98,List.getElem?_map] at hi
    cases hq:es[i]? with
    |none=>rw [hq] at hi; cases hi
    |some y=>
     rw [hq] at hi; cases hi
     rw [z9h,List.getElem?_map] at hx
     cases hq2:y[j]? with
     |none=>rw [hq2] at hx; cases hx
     |some z=>
      rw [hq2] at hx; cases hx
      obtain ⟨v,hv,h1,hvr⟩:=hj i y j z hq hq2
      exact ⟨v,hv,h1,z9g hr hvr⟩
  |map es=>
   rw [hno] at ho
   obtain ⟨en,clk,hcb,hl',hj⟩:=ho
   exact ⟨en,clk,hcb,hl',fun i k x hi=>let ⟨e,he,h1,h2⟩:=hj i k x hi; ⟨e,he,h1.keep hk,h2.keep hk⟩⟩
  |loop st pd g pos nt env=>
   rw [hno] at ho
   obtain ⟨x,ps,asg,body,hcd,tm,ds,f,hcb,hl',hj⟩:=ho
   exact ⟨x,ps,asg,body,hcd,tm,ds,f,hcb,hl',fun t=>by rw [y7h]; exact z9g hr (hj t)⟩
 inj:=fun id id' L L' h1 h2 l1 l2 hb=>by
  obtain ⟨a1,a2⟩:=z15.1 h1
  obtain ⟨b1,b2⟩:=z15.1 h2
  rw [z5a,Nat.zero_add,if_pos a1,z69] at l1
  rw [z5a,Nat.zero_add,if_pos b1,z69] at l2
  exact hr.inj id id' L L' a2 b2 l1 l2 hb
 fr:=hr.fr
 sep:=fun id L hL hl=>by
  obtain ⟨a1,a2⟩:=z15.1 hL
  rw [z5a,Nat.zero_add,if_pos a1,z69] at hl
  exact hr.sep id L a2 hl
theorem Ext.view {n : Nat} (hn : ∀ id, id < n → kp id = true) (ρ : Rho) (h : List AO) (w : World) : Ext (· < n) ρ h w (ρ.only kp) (z6x h kp 0 h) w :=
  { os := rfl, tape := rfl, output := rfl
    keep := ⟨Nat.le_refl _, fun _ _ _ => rfl, fun b _ hb => z5e hb, fun _ _ h => h, z00.refl _⟩
    rho := fun id hid => by simp [Rho.only, hn id hid]
    fr := rfl
    frs := fun _ _ => rfl }
structure w5i (kp:Nat→Bool) (h h':List AO):Prop where
 nth:∀ id,z0j h' id=z0j (z6x h kp 0 h) id
 len:∀ id,kp id=true→id<h.length→id<h'.length
theorem z2b.view {P:Program} {s:AS} {tm:Array Value} {h':List AO} (h1:z2b P ρ s tm w) (hv:w5i kp s.heap h'):z2b P (ρ.only kp) ⟨x0a s.heap kp s.env,h',s.nt⟩ tm w:=by
 refine ⟨(h1.heap.view kp).ext (fun id=>(hv.nth id).symm),fun t=>?_,h1.size,fun id hid=>?_⟩
 ·show z0t _ (z0i _ h') w (z2f (x0a s.heap kp s.env) t) _
  rw [y7h,z3p hv.nth]
  exact z9g h1.heap (h1.env t)
 ·cases hq:ρ.only kp id with
  |none=>exact absurd hq hid
  |some L=>
   obtain ⟨a1,a2⟩:=z15.1 hq
   exact hv.len id a1 (h1.dom id (by rw [a2]; simp))
theorem Ext.view' {n:Nat} {h':List AO} (hn:∀ id,id<n→kp id=true) (ρ:Rho) (w:World) (hv:w5i kp h h'):Ext (· <n) ρ h w (ρ.only kp) h' w:=by
 have:=Ext.view hn ρ h w
 exact ⟨rfl,rfl,rfl,by rw [z3p hv.nth]; exact this.keep,this.rho,rfl,fun _ _=>rfl⟩
theorem z3y.view {rd:Option Nat} {B:Nat} {ds:List Deferred} (h2:z3y rd B ρ.fr w ds):z3y rd B (ρ.only kp).fr w ds:=h2
def v6u (env' env:List (Nat×AV)):Prop:=∀ t,z2f env' t= .bot∨z2f env' t=z2f env t
theorem z2b.weaken {P:Program} {s:AS} {tm:Array Value} {env':List (Nat×AV)} (h1:z2b P ρ s tm w) (he:v6u env' s.env):z2b P ρ ⟨env',s.heap,s.nt⟩ tm w:=
 ⟨h1.heap,fun t=>by
  show z0t ρ _ w (z2f env' t) _
  rcases he t with h|h
  ·rw [h]; exact .bot _
  ·rw [h]; exact h1.env t,h1.size,h1.dom⟩
structure y3o (n:Nat) (s s':AS):Prop where
 run:∀ {P:Program} (ρ:Rho) (tm:Array Value) (w:World),z2b P ρ s tm w→∃ ρ',z2b P ρ' s' tm w∧s'.nt=s.nt∧Ext (· <n) ρ s.heap w ρ' s'.heap w∧(∀ id,id<n→ρ' id=ρ id)
theorem y3o.refl (n:Nat) (s:AS):y3o n s s:=⟨fun ρ tm w h=>⟨ρ,h,rfl,Ext.refl _ _ _ _,fun _ _=>rfl⟩⟩
theorem y3o.trans {n:Nat} {s s' s'':AS} (h1:y3o n s s') (h2:y3o n s' s''):y3o n s s'':=⟨fun ρ tm w h=>by
 obtain ⟨ρ',a1,a2,a3,a4⟩:=h1.run ρ tm w h
 obtain ⟨ρ2,b1,b2,b3,b4⟩:=h2.run ρ' tm w a1
 exact ⟨ρ2,b1,b2.trans a2,a3.trans b3,fun id hid=>(b4 id hid).trans (a4 id hid)⟩⟩
theorem y3o.env {n:Nat} {s:AS} {env':List (Nat×AV)} (he:v6u env' s.env):y3o n s ⟨env',s.heap,s.nt⟩:=
 ⟨fun ρ tm w h=>⟨ρ,h.weaken he,rfl,Ext.refl _ _ _ _,fun _ _=>rfl⟩⟩
theorem y3o.view {n:Nat} {s:AS} {h':List AO} (kp:Nat→Bool) (hn:∀ id,id<n→kp id=true) (hv:w5i kp s.heap h'):y3o n s ⟨x0a s.heap kp s.env,h',s.nt⟩:=
 ⟨fun ρ tm w h=>⟨ρ.only kp,h.view hv,rfl,Ext.view' hn ρ w hv,fun id hid=>by simp [Rho.only,hn id hid]⟩⟩
theorem y1n {P:Program} {n:Nat} {c:Code} {s s':AS} {Q:AX→AS→Prop} (hs:y3o n s s') (h:z6m P n c s' Q):z6m P n c s Q:=⟨by
 intro b k cs ρ tm ds w B h1 h2
 obtain ⟨ρ',a1,a2,a3,a4⟩:=hs.run ρ tm w h1
 obtain ⟨e,s2,ρ2,tm2,ds2,w2,q,r1,r2,r3,r4,r5⟩:=h.run b k cs ρ' tm ds w B a1 (h2.keep h1.heap a3)
 exact ⟨e,s2,ρ2,tm2,ds2,w2,q,r1,r2,r3.trans a2,a3.trans r4,r5⟩⟩
theorem y1o {P:Program} {n:Nat} {c:Code} {s:AS} {Q:AX→AS→Prop} (h:z6m P n c s (fun e s'=>∃ s'',y3o n s' s''∧Q e s'')):z6m P n c s Q:=⟨by
 intro b k cs ρ tm ds w B h1 h2
 obtain ⟨e,s2,ρ2,tm2,ds2,w2,⟨s3,hs,q⟩,r1,r2,r3,r4,r5⟩:=h.run b k cs ρ tm ds w B h1 h2
 obtain ⟨ρ',a1,a2,a3,a4⟩:=hs.run ρ2 tm2 w2 r1
 refine ⟨e,s3,ρ',tm2,ds2,w2,q,a1,r2.keep r1.heap a3,a2.trans r3,r4.trans a3,r5⟩⟩
def w2h (h:List AO) (m:Nat):List AO:=z6x h (fun id=>Nat.blt id m) 0 (h.take m)
theorem x9r (h:List AO) (m id:Nat):z0j (h.take m) id=if id<m then z0j h id else .dead:=by
 induction h generalizing m id with
 |nil=>simp [z0j]
 |cons o h ih=>
  cases m with
  |zero=>simp [z0j]
  |succ m=>cases id with
   |zero=>simp [z0j]
   |succ id=>simp only [List.take_succ_cons,z0j,ih]; by_cases h:id<m<;>simp [h]
theorem w2g (h:List AO) (m:Nat):w5i (fun id=>Nat.blt id m) h (w2h h m) where
 nth:=fun id=>by
  simp only [w2h]
  rw [z5a,z5a]
  simp only [Nat.zero_add]
  split
  ·rename_i hb
   have:id<m:=Nat.le_of_ble_eq_true hb
   rw [x9r,if_pos this]
  ·rfl
 len:=fun id hb hl=>by
  have:id<m:=Nat.le_of_ble_eq_true hb
  simp only [w2h,y99,List.length_take]
  omega
theorem z90.view {P:Program} {f:FuncId} {args:List AV} {h:List AO} {r:AV} {h':List AO} (hr:z90 P f args h r h'):z90 P f args h (z4o h' (fun id=>Nat.blt id h.length) r) (w2h h' h.length):=⟨by
 intro ρ vs w cs a1 a2 a3
 obtain ⟨ρ',v,w',fr,b1,b2,b3,b4,b5,b6,b7⟩:=hr.run ρ vs w cs a1 a2 a3
 have hv:=w2g h' h.length
 have hn:∀ id,id<h.length→(fun id=>Nat.blt id h.length) id=true:=fun id hid=>Nat.ble_eq_true_of_le hid
 refine ⟨ρ'.only (fun id=>Nat.blt id h.length),v,w',fr,b1,b2,b3,?_,?_,?_,?_⟩
 ·rw [z3p hv.nth]; exact z9g b5 b4
 ·exact (b5.view _).ext (fun id=>(hv.nth id).symm)
 ·intro id hid
  cases hq:ρ'.only (fun id=>Nat.blt id h.length) id with
  |none=>exact absurd hq hid
  |some L=>
   obtain ⟨c1,c2⟩:=z15.1 hq
   exact hv.len id c1 (b6 id (by rw [c2]; simp))
 ·exact b7.trans (Ext.view' hn ρ' w' hv)⟩
theorem z90.pret {P:Program} {f:FuncId} {args:List AV} {r:AV} {h':List AO} (hr:z90 P f args [] r h'):v0g P f args (z4o h' (fun _=>false) r):=by
 have:=hr.view
 simp only [List.length_nil] at this
 have e:(fun id=>Nat.blt id 0)=fun _=>false:=by funext id; rfl
 rw [e] at this
 exact this
end
end Go.Am
end
section
namespace Go.Am
def isN:AX→Bool
 | .normal=>true
 |_=>false
def y6i:AX→LoopState
 | .normal=> .ready
 |_=> .done
def z3k:AX→Option Code
 | .normal=>none
 | .exit j=>some (.exit j)
 | .ret=>some .ret
def x03 (env:List (Nat×AV)):List Nat→List AV→List (Nat×AV)
 |t::ts,x::xs=>x03 (x2p env t x) ts xs
 |_,_=>env
section
variable {P:Program} {ρ:Rho} {h:List AO} {w:World}
theorem y7z {w:World} {b:Nat} {r r':Loop} (hb:w.heap[b]?=some (.loop r)):∀ k m,z1v w k=some m→z1v (World.setObj w b (.loop r')) k=some m:=by
 intro k m hm
 by_cases e:k=b
 ·subst e; simp [z1v,hb] at hm
 ·unfold z1v; rw [z14 _ _ _ _ e]; exact hm
theorem y5e {O:Nat→Prop} {b:Nat} {r r':Loop} (ho:O b) (hb:w.heap[b]?=some (.loop r)):z5n O O w (World.setObj w b (.loop r')) where
 size:=by rw [z13]; omega
 frame:=fun k hk hno=>z14 _ _ _ _ (by rintro rfl; exact hno ho)
 own:=fun _ _ h=>h
 shape:=y7z hb
 drawn:=z00.refl _
theorem z0c.turned {ρ:Rho} {h:List AO} {w w':World} (hr:z0c P ρ h w) (k:z5n (z0i ρ h) (z0i ρ h) w w') (hb:∀ id L,ρ id=some L→(z0j h id).live=true→w'.heap[L.blk]?=w.heap[L.blk]?):z0c P ρ h w' where
 obj:=fun id L hL=>by
  obtain ⟨h1,h2⟩:=hr.obj id L hL
  refine ⟨Nat.lt_of_lt_of_le h1 k.size,?_⟩
  by_cases hl:(z0j h id).live=true
  ·exact h2.keep k (fun _ _ h=>h) (hb id L hL hl)
  ·cases hno:z0j h id<;>simp_all [AO.live,z17]
 inj:=hr.inj
 fr:=fun b hf=>Nat.lt_of_lt_of_le (hr.fr b hf) k.size
 sep:=hr.sep
theorem z2b.frset {s:AS} {tm:Array Value} (h1:z2b P ρ s tm w) {b:Nat} {r r':Loop} (hf:ρ.fr b) (hb:w.heap[b]?=some (.loop r)):z2b P ρ s tm (World.setObj w b (.loop r')):=by
 have hk:z5n (z0i ρ s.heap) (z0i ρ s.heap) w (World.setObj w b (.loop r')):=y5e (.inl hf) hb
 refine ⟨h1.heap.turned hk (fun id L hL hl=>z14 _ _ _ _ ?_),fun t=>(h1.env t).keep hk (fun _ _ h=>h),h1.size,h1.dom⟩
 rintro e
 exact h1.heap.sep id L hL hl (by rw [e]; exact hf)
section steps
variable {b:Frame} {tm:Array Value} {ds:List Deferred} {k:List Item} {cs:List Frame}
theorem y6h {l:Nat} {w':World} (hb:b.roundOf=some l) (hr:(Instr.beginRound l).run P w= .ok () w'):step P (lone (b.on tm ds (.beginRound::k)) cs w)= .next (lone (b.on tm ds k) cs w'):=
 step_lone_go (by simp [stepG,stepG.exec,stepG.apply,Frame.on,hb,hr,Frame.finish])
theorem x0w {l:Nat} {c:Frame} {v:Value} {w':World} (hb:b.roundOf=some l) (hk:b.kind= .normal) (hr:(Instr.endRound l none).run P w= .ok v w'):step P (lone (b.on tm ds []) (c::cs) w)= .next (lone (c.finish v) cs w'):=
 step_lone_go (by simp [stepG,stepG.exec,Frame.on,hb,hk,hr,doReturn])
theorem x0v {l:Nat} {c:Frame} {v:Value} {w':World} (hb:b.roundOf=some l) (hk:b.kind= .normal) (hr:(Instr.endRound l (some .ret)).run P w= .ok v w'):step P (lone (b.on tm ds (.code .ret::k)) (c::cs) w)= .next (lone (c.finish v) cs w'):=
 step_lone_go (by simp [stepG,stepG.exec,Frame.on,hb,hk,hr,doReturn])
theorem y8i {l j:Nat} {c:Frame} {v:Value} {w':World} (hb:b.roundOf=some l) (hk:b.kind= .normal) (hx:exitTo j k=none) (hr:(Instr.endRound l (some (.exit j))).run P w= .ok v w'):step P (lone (b.on tm ds (.code (.exit j)::k)) (c::cs) w)= .next (lone (c.finish v) cs w'):=
 step_lone_go (by simp [stepG,stepG.exec,Frame.on,hb,hk,hr,doReturn,hx])
theorem x29 {ops:Array Oper} {i:Nat} {rest:List Nat} {o:Oper} (ho:ops[i]?=some o) (hw:Region.wanted o (yielded ops tm)=true) (hd:∀ c,o.op≠ .defer c) {l:Nat} {f:FuncId} {tms:Array Value} {asg body:Code} {w':World}
  (hr:(execOp (opv tm) o).run P w= .ok (.round l f tms asg body) w'):
  step P (lone (b.on tm ds (.inRegion ops (i::rest)::k)) cs w)= .next (lone (Frame.round l f tms asg body .normal) (b.on tm ds (.inRegion ops (i::rest)::k)::cs) w'):=by
 refine step_lone_go ?_
 rw [x9b ho hw hd]
 simp [stepG.apply,hr,Frame.on]
theorem x0x {f:Operand} {ps:Array Tmp} {asg body:Code} {l g:Nat} {mark:List Deferred} {vs:Array Value} {w1 w2:World} (he:(Instr.enterLoop b.fn tm ps asg body b.roundOf).run P w= .ok (l,mark) w1)
  (hr:(do let d←resolve (opv tm) { callee:= .value f,args:=#[.const (.func (.yield l) #[] #[])],argTypes:=#[] } 0; invoke d.target d.args:Sem Next).run P w1= .ok (.enter g vs) w2):
  step P (lone (b.on tm ds (.code (.rangeFunc f ps asg body)::k)) cs w)= .next (lone (Frame.enter P g vs .normal) (b.on tm (mark++ds) (.inRangeFunc l::k)::cs) w2):=by
 have h1:=x35 b tm (mark++ds) (.inRangeFunc l::k)
 simp only [Frame.on] at h1
 exact step_lone_go (by
  simp only [Sem.run_bind] at hr
  simp [stepG,stepG.exec,stepG.apply,Frame.on,he,h1,hr])
theorem x3a {l:Nat} {jump:Option Code} {w':World} (hr:(Instr.endLoop l).run P w= .ok jump w'):step P (lone (b.on tm ds (.endRangeFunc l::k)) cs w)= .next (lone (b.on tm ds ((jump.map Item.code).toList++k)) cs w'):=
 step_lone_go (by simp [stepG,stepG.exec,Frame.on,hr])
end steps
theorem z6c {l:Nat} {r:Loop} (hb:w.heap[l]?=some (.loop r)):(Instr.getLoop l).run P w= .ok r w:=by
 simp [Instr.getLoop,getObj,Sem.run,hb]
theorem y0f {l:Nat} {r r':Loop} (hb:w.heap[l]?=some (.loop r)):(setObj l (.loop r')).run P w= .ok () (World.setObj w l (.loop r')):=by
 have:=(Array.getElem?_eq_some_iff.1 hb).1
 simp [setObj,Sem.run,hb,World.setObj]
theorem y6j {l:Nat} {r:Loop} (hb:w.heap[l]?=some (.loop r)) (hs:r.state= .ready):(Instr.beginRound l).run P w= .ok () (World.setObj w l (.loop { r with state:= .busy })):=by
 simp [Instr.beginRound,z6c hb,y0f hb,hs]
theorem x06 {l:Nat} {r:Loop} (hb:w.heap[l]?=some (.loop r)) (j:Option Code):(Instr.endRound l j).run P w= .ok (.bool j.isNone) (World.setObj w l (.loop { r with state:=if j.isNone then .ready else .done,pending:=j })):=by
 simp [Instr.endRound,z6c hb,y0f hb]
theorem x3f {l:Nat} {r:Loop} (hb:w.heap[l]?=some (.loop r)) (hs:r.state≠ .busy):(Instr.endLoop l).run P w= .ok r.pending (World.setObj w l (.loop { r with state:= .exhausted })):=by
 have:(r.state== .busy)=false:=by
  cases hq:r.state<;>first|rfl|exact absurd hq hs
 simp [Instr.endLoop,z6c hb,y0f hb,hs]
theorem z6s {id j:Nat} (hl:(z0j (z1i h id .dead) j).live=true):j≠id∧z0j (z1i h id .dead) j=z0j h j:=by
 by_cases e:id=j
 ·subst e; rw [z0m] at hl; cases hl
 ·exact ⟨Ne.symm e,z0g _ _ _ _ e⟩
def Rho.lend (ρ:Rho) (b:Nat):Rho:=⟨ρ.loc,fun k=>ρ.fr k∨k=b⟩
theorem y5c (ρ:Rho) (b:Nat):∀ id L,ρ id=some L→(ρ.lend b) id=some L:=fun _ _ h=>h
theorem w1v (ρ:Rho) (F:Nat→Prop):∀ id L,ρ id=some L→(⟨ρ.loc,F⟩:Rho) id=some L:=fun _ _ h=>h
theorem x46 {id:Nat} {L:Loc} (hL:ρ id=some L) (hl:(z0j h id).live=true) (b:Nat):z0i (ρ.lend L.blk) (z1i h id .dead) b↔z0i ρ h b:=by
 constructor
 ·rintro ((hf|rfl)|⟨j,M,hM,hj,rfl⟩)
  ·exact .inl hf
  ·exact .inr ⟨id,L,hL,hl,rfl⟩
  ·obtain ⟨_,e⟩:=z6s hj
   exact .inr ⟨j,M,hM,by rw [←e]; exact hj,rfl⟩
 ·rintro (hf|⟨j,M,hM,hj,rfl⟩)
  ·exact .inl (.inl hf)
  ·by_cases e:id=j
   ·subst e
    have:(some L:Option Loc)=some M:=hL.symm.trans hM
    cases this
    exact .inl (.inr rfl)
   ·exact .inr ⟨j,M,hM,by rw [z0g _ _ _ _ e]; exact hj,rfl⟩
theorem z0c.lend (hr:z0c P ρ h w) {id:Nat} {L:Loc} (hL:ρ id=some L) (hl:(z0j h id).live=true):z0c P (ρ.lend L.blk) (z1i h id .dead) w:=by
 have ho:z0i (ρ.lend L.blk) (z1i h id .dead)=z0i ρ h:=by funext b; exact propext (x46 hL hl b)
 refine ⟨fun j M hM=>?_,fun i i' M M' h1 h2 l1 l2 hb=>?_,fun b hf=>?_,fun i M hM hli hf=>?_⟩
 ·obtain ⟨h1,h2⟩:=hr.obj j M hM
  refine ⟨h1,?_⟩
  rw [ho]
  by_cases e:id=j
  ·subst e; rw [z0m]; trivial
  ·rw [z0g _ _ _ _ e]
   exact h2.keep (z5n.refl _ _) (y5c ρ L.blk) rfl
 ·obtain ⟨_,e1⟩:=z6s l1
  obtain ⟨_,e2⟩:=z6s l2
  exact hr.inj i i' M M' h1 h2 (by rw [←e1]; exact l1) (by rw [←e2]; exact l2) hb
 ·rcases hf with hf|rfl
  ·exact hr.fr b hf
  ·exact (hr.obj id L hL).1
 ·obtain ⟨hne,e⟩:=z6s hli
  rw [e] at hli
  rcases hf with hf|hf
  ·exact hr.sep i M hM hli hf
  ·exact hne (hr.inj i id M L hM hL hli hl hf)
theorem x48 {ρ':Rho} {h':List AO} {id:Nat} {L:Loc} {o:AO} (hL:ρ' id=some L) (hfr:ρ'.fr=fun k=>ρ.fr k∨k=L.blk) (hdead:(z0j h' id).live=false) (ho:o.live=true) (b:Nat):
  z0i ⟨ρ'.loc,ρ.fr⟩ (z1i h' id o) b↔z0i ρ' h' b:=by
 constructor
 ·rintro (hf|⟨j,M,hM,hj,rfl⟩)
  ·exact .inl (by rw [hfr]; exact .inl hf)
  ·by_cases e:id=j
   ·subst e
    have:(some L:Option Loc)=some M:=hL.symm.trans hM
    cases this
    exact .inl (by rw [hfr]; exact .inr rfl)
   ·rw [z0g _ _ _ _ e] at hj
    exact .inr ⟨j,M,hM,hj,rfl⟩
 ·rintro (hf|⟨j,M,hM,hj,rfl⟩)
  ·rw [hfr] at hf
   rcases hf with hf|rfl
   ·exact .inl hf
   ·exact .inr ⟨id,L,hL,by rw [z0m]; exact ho,rfl⟩
  ·have e:id≠j:=by rintro rfl; rw [hdead] at hj; cases hj
   exact .inr ⟨j,M,hM,by rw [z0g _ _ _ _ e]; exact hj,rfl⟩
theorem z0c.back {ρ':Rho} {h':List AO} {w':World} (hr:z0c P ρ' h' w') {id:Nat} {L:Loc} {o:AO} (hL:ρ' id=some L) (hfr:ρ'.fr=fun k=>ρ.fr k∨k=L.blk) (hnf:¬ ρ.fr L.blk) (ho:o.live=true)
  (hob:z17 P ⟨ρ'.loc,ρ.fr⟩ (z0i ⟨ρ'.loc,ρ.fr⟩ (z1i h' id o)) w' L o):(z0j h' id).live=false∧z0c P ⟨ρ'.loc,ρ.fr⟩ (z1i h' id o) w':=by
 have hdead:(z0j h' id).live=false:=by
  cases hq:(z0j h' id).live with
  |false=>rfl
  |true=>exact absurd (by rw [hfr]; exact .inr rfl) (hr.sep id L hL hq)
 have hown:z0i ⟨ρ'.loc,ρ.fr⟩ (z1i h' id o)=z0i ρ' h':=by funext b; exact propext (x48 hL hfr hdead ho b)
 refine ⟨hdead,fun j M hM=>?_,fun i i' M M' h1 h2 l1 l2 hb=>?_,fun b hf=>hr.fr b (by rw [hfr]; exact .inl hf),fun i M hM hli hf=>?_⟩
 ·obtain ⟨h1,h2⟩:=hr.obj j M hM
  refine ⟨h1,?_⟩
  by_cases e:id=j
  ·subst e
   have:(some L:Option Loc)=some M:=hL.symm.trans hM
   cases this
   rw [z0m]; exact hob
  ·rw [z0g _ _ _ _ e,hown]
   exact h2.keep (z5n.refl _ _) (w1v ρ' ρ.fr) rfl
 ·have other:∀ j M,ρ' j=some M→id≠j→(z0j (z1i h' id o) j).live=true→M.blk≠L.blk:=by
   intro j M hM hne hlj e
   rw [z0g _ _ _ _ hne] at hlj
   exact hr.sep j M hM hlj (by rw [hfr]; exact .inr e)
  by_cases e1:id=i
  ·by_cases e2:id=i'
   ·rw [←e1, ←e2]
   ·subst e1
    have:(some L:Option Loc)=some M:=hL.symm.trans h1
    cases this
    exact absurd hb.symm (other i' M' h2 e2 l2)
  ·by_cases e2:id=i'
   ·subst e2
    have:(some L:Option Loc)=some M':=hL.symm.trans h2
    cases this
    exact absurd hb (other i M h1 e1 l1)
   ·rw [z0g _ _ _ _ e1] at l1
    rw [z0g _ _ _ _ e2] at l2
    exact hr.inj i i' M M' h1 h2 l1 l2 hb
 ·by_cases e:id=i
  ·subst e
   have:(some L:Option Loc)=some M:=hL.symm.trans hM
   cases this
   exact hnf hf
  ·rw [z0g _ _ _ _ e] at hli
   exact hr.sep i M hM hli (by rw [hfr]; exact .inl hf)
theorem x9c {O:Nat→Prop} {nt:Nat}:∀ (ps:List Nat) (xs:List AV) (vs:List Value) (env:List (Nat×AV)) (tm:Array Value),(∀ p∈ps,p<nt)→vs.length=xs.length→(∀ (i:Nat) (x:AV) (v:Value),xs[i]?=some x→vs[i]?=some v→z0t ρ O w x v)→
  tm.size=nt→z6w ρ O w env tm→z6w ρ O w (x03 env ps xs) ((ps.zip vs).foldl (fun tmps (t,a)=>tmps.setIfInBounds t a) tm)∧((ps.zip vs).foldl (fun tmps (t,a)=>tmps.setIfInBounds t a) tm).size=nt:=by
 intro ps
 induction ps with
 |nil=>intro xs vs env tm _ _ _ hs he; cases xs<;>exact ⟨by simpa [x03] using he,by simpa using hs⟩
 |cons p ps ih=>
  intro xs vs env tm hp hl hx hs he
  cases xs with
  |nil=>
   have:vs=[]:=by simpa using hl
   subst this
   exact ⟨by simpa [x03] using he,by simpa using hs⟩
  |cons x xs=>
   cases vs with
   |nil=>simp at hl
   |cons v vs=>
    simp only [x03,List.zip_cons_cons,List.foldl_cons]
    refine ih xs vs _ _ (fun q hq=>hp q (by simp [hq])) (by simpa using hl) (fun i y u hy hu=>hx (i+1) y u (by simpa using hy) (by simpa using hu)) (by simpa using hs) ?_
    have:=y2p (ρ:=ρ) (dst:=some p) (nt:=nt) (z5n.refl O w) (fun _ _ h=>h) he hs (by simp [z5y,Nat.blt]; exact hp p (by simp)) (hx 0 x v rfl rfl)
    exact this
theorem x64 {n : Nat} {ops : Array Oper} {i : Nat} {rest : List Nat} {s : AS} {Q : AS → Prop} {o : Oper} (ho : ops[i]? = some o) (hg : z6g ops.toList s.env o.guard = some true) (hn : n ≤ s.heap.length) {f : Operand} {args : Array Operand} {ts : Array TypeId}
    (hop : o.op = .call ⟨.value f, args, ts⟩) {id : Nat} (hf : z0x s.env f = .yld id) {pd : Option Code} {g : Nat} {pos : List Bool} {env : List (Nat × AV)} {nt : Nat} (hob : z0j s.heap id = .loop .ready pd g pos nt env)
    {x0 : Operand} {ps : Array Tmp} {asg body : Code} (hcd : z36 P g pos = some (.rangeFunc x0 ps asg body))
    (hps : ∀ p ∈ ps.toList, p < nt) (hpl : args.size = ps.size) (hd : z5y s.nt o.dst = true)
    (hc : z6m P s.heap.length asg ⟨x03 env ps.toList (z1x s.env args.toList), z1i s.heap id .dead, nt⟩ (fun e s1 => e = .normal ∧ z6m P s.heap.length body s1 (fun e' s2 => s.heap.length ≤ s2.heap.length ∧
      y9x P n ops rest ⟨y4u s.env o.dst (.d (.bool (isN e'))), z1i s2.heap id (.loop (y6i e') (z3k e') g pos nt env), s.nt⟩ Q))) : y9x P n ops (i :: rest) s Q := ⟨by
  intro b k cs ρ tm ds w B h1 h2
  have hfv := z0n h1.env f
  rw [hf] at hfv
  obtain ⟨L, hL, hfe⟩ : ∃ L, ρ id = some L ∧ opv tm f = .func (.yield L.blk) #[] #[] := by
    generalize hv : opv tm f = v at hfv
    cases hfv with | yld _ L hL => exact ⟨L, hL, rfl⟩
  have hlive : (z0j s.heap id).live = true := by rw [hob]; rfl
  have hidlt : id < s.heap.length := h1.dom id (by rw [hL]; simp)
  obtain ⟨hblt, hobj⟩ := h1.heap.obj id L hL
  rw [hob] at hobj
  obtain ⟨x1, ps1, asg1, body1, hcd1, tm0, dsn, fid, hcb, hts, hev⟩ := hobj
  rw [hcd] at hcd1; cases hcd1
  have har : z24 ρ (z0i ρ s.heap) w (z1x s.env args.toList) (args.map (opv tm)) := z7q h1.env args
  let tm1 := ((ps.zip (args.map (opv tm))).foldl (fun tmps (t, a) => tmps.setIfInBounds t a) tm0)
  have hexec : (execOp (opv tm) o).run P w = .ok (.round L.blk fid tm1 asg body) w := by
    have hsz : (args.map (opv tm)).size = ps.size := by simpa using hpl
    simp [execOp, hop, resolve, Deferred.ofValue, hfe, invoke, Instr.yield, z6c hcb, hsz, tm1, hpl]
  let R : Frame := Frame.round L.blk fid tm1 asg body .normal
  let c0 := b.on tm ds (.inRegion ops (i :: rest) :: k)
  have hr1 := h1.heap.lend hL hlive
  have ho1 : z0i (ρ.lend L.blk) (z1i s.heap id .dead) = z0i ρ s.heap := by funext b; exact propext (x46 hL hlive b)
  have hsetps := x9c (ρ := ρ.lend L.blk) (w := w) (O := z0i ρ s.heap) ps.toList (z1x s.env args.toList) (args.map (opv tm)).toList env tm0 hps (by rw [Array.length_toList]; exact har.1) (fun j x v hx hv => by
      have := har.2 j x hx
      have hv' : (args.map (opv tm))[j]? = some v := by rw [← Array.getElem?_toList]; exact hv
      rw [z8a hv'] at this
      exact this.keep (z5n.refl _ _) (y5c ρ L.blk)) hts (fun t => (hev t).keep (z5n.refl _ _) (y5c ρ L.blk))
  have htm1 : tm1 = (ps.toList.zip (args.map (opv tm)).toList).foldl (fun tmps (t, a) => tmps.setIfInBounds t a) tm0 := by
    simp only [tm1]
    rw [← Array.foldl_toList, Array.toList_zip]
  rw [← htm1] at hsetps
  have hst1 : z2b P (ρ.lend L.blk) ⟨x03 env ps.toList (z1x s.env args.toList), z1i s.heap id .dead, nt⟩ tm1 w :=
    ⟨hr1, fun t => by rw [ho1]; exact hsetps.1 t, hsetps.2, fun j hj => by
      have := h1.dom j hj
      rw [z44 _ _ _ hidlt]; exact this⟩
  have hdf1 : z3y (some L.blk) w.heap.size (ρ.lend L.blk).fr w [] := ⟨List.nodup_nil, by simp, hr1.fr, Nat.le_refl _, fun l hl => by cases hl; exact ⟨.inr rfl, _, hcb⟩⟩
  obtain ⟨e, s1, ρ2, tm2, ds2, w2, ⟨rfl, hbody⟩, a1, a2, a3, a4, a5⟩ := hc.run R [.beginRound, .code body] (c0 :: cs) _ tm1 [] w w.heap.size hst1 hdf1
  have hfr2 : ρ2.fr = fun k => ρ.fr k ∨ k = L.blk := a4.fr
  have hcb2 : w2.heap[L.blk]? = some (.loop { state := .ready, pending := pd, fn := fid, tmps := tm0, params := ps, assign := asg, body := body, defers := dsn }) := (a4.frs L.blk (.inr rfl)).trans hcb
  have hlf2 : ρ2.fr L.blk := by rw [hfr2]; exact .inr rfl
  have hbr := y6j (P := P) hcb2 rfl
  have a1' := a1.frset (r' := { state := .busy, pending := pd, fn := fid, tmps := tm0, params := ps, assign := asg, body := body, defers := dsn }) hlf2 hcb2
  have hcb3 : (World.setObj w2 L.blk (.loop { state := .busy, pending := pd, fn := fid, tmps := tm0, params := ps, assign := asg, body := body, defers := dsn })).heap[L.blk]? = some (.loop { state := .busy, pending := pd, fn := fid, tmps := tm0, params := ps, assign := asg, body := body, defers := dsn }) :=
    z0z _ _ _ (Array.getElem?_eq_some_iff.1 hcb2).1
  have hk23 : z5n (z0i ρ2 s1.heap) (z0i ρ2 s1.heap) w2 (World.setObj w2 L.blk (.loop { state := .busy, pending := pd, fn := fid, tmps := tm0, params := ps, assign := asg, body := body, defers := dsn })) := y5e (.inl hlf2) hcb2
  have a2' : z3y (some L.blk) w.heap.size ρ2.fr (World.setObj w2 L.blk (.loop { state := .busy, pending := pd, fn := fid, tmps := tm0, params := ps, assign := asg, body := body, defers := dsn })) ds2 := by
    refine ⟨a2.nodup, fun d hdm => ?_, a2.below, by rw [z13]; exact a2.le, fun l hl => by cases hl; exact ⟨hlf2, _, hcb3⟩⟩
    obtain ⟨r, e, hr, hB⟩ := a2.mark d hdm
    refine ⟨r, e, ?_, hB⟩
    rw [z14 _ _ _ _ (by rintro rfl; rw [hcb2] at hr; cases hr)]; exact hr
  generalize hw3 : World.setObj w2 L.blk (.loop { state := .busy, pending := pd, fn := fid, tmps := tm0, params := ps, assign := asg, body := body, defers := dsn }) = w3 at *
  obtain ⟨e, s2, ρ4, tm4, ds4, w4, ⟨hlen, hrest⟩, b1, b2, b3, b4, b5⟩ := hbody.run R [] (c0 :: cs) ρ2 tm2 ds2 w3 w.heap.size a1' a2'
  have hfr4 : ρ4.fr = fun k => ρ.fr k ∨ k = L.blk := b4.fr.trans hfr2
  have hcb4 : w4.heap[L.blk]? = some (.loop { state := .busy, pending := pd, fn := fid, tmps := tm0, params := ps, assign := asg, body := body, defers := dsn }) := (b4.frs L.blk hlf2).trans hcb3
  have hL4 : ρ4 id = some L := by
    rw [b4.rho id hidlt, a4.rho id hidlt]; exact hL
  have her := x06 (P := P) hcb4 (z3k e)
  have hjn : (z3k e).isNone = isN e := by cases e <;> rfl
  have hjs : (if (z3k e).isNone = true then LoopState.ready else LoopState.done) = y6i e := by cases e <;> rfl
  rw [hjn] at her
  rw [hjn] at hjs
  rw [hjs] at her
  have hsteps : Steps P (lone c0 cs w) (lone (c0.finish (.bool (isN e))) cs (World.setObj w4 L.blk (.loop { state := y6i e, pending := z3k e, fn := fid, tmps := tm0, params := ps, assign := asg, body := body, defers := dsn }))) := by
    have hdef : ∀ c, o.op ≠ .defer c := by rw [hop]; simp
    refine .head (x29 ho (z5i h1 hg) hdef hexec) ?_
    have hR : R.on tm1 [] [.code asg, .beginRound, .code body] = R := rfl
    rw [hR] at a5
    refine Steps.trans a5 (.head (y6h (l := L.blk) rfl hbr) ?_)
    cases e with
    | normal => exact Steps.trans b5 (.one (x0w (l := L.blk) rfl rfl her))
    | exit j =>
      obtain ⟨k', ek, hs⟩ := b5
      exact Steps.trans hs (.one (y8i (l := L.blk) rfl rfl (by rw [ek]; rfl) her))
    | ret =>
      obtain ⟨k', hs⟩ := b5
      exact Steps.trans hs (.one (x0v (l := L.blk) rfl rfl her))
  have hlf4 : ρ4.fr L.blk := by rw [hfr4]; exact .inr rfl
  have b1' := b1.frset (r' := { state := y6i e, pending := z3k e, fn := fid, tmps := tm0, params := ps, assign := asg, body := body, defers := dsn }) hlf4 hcb4
  have hcb5 : (World.setObj w4 L.blk (.loop { state := y6i e, pending := z3k e, fn := fid, tmps := tm0, params := ps, assign := asg, body := body, defers := dsn })).heap[L.blk]? = some (.loop { state := y6i e, pending := z3k e, fn := fid, tmps := tm0, params := ps, assign := asg, body := body, defers := dsn }) :=
    z0z _ _ _ (Array.getElem?_eq_some_iff.1 hcb4).1
  have hk45 : z5n (z0i ρ4 s2.heap) (z0i ρ4 s2.heap) w4 (World.setObj w4 L.blk (.loop { state := y6i e, pending := z3k e, fn := fid, tmps := tm0, params := ps, assign := asg, body := body, defers := dsn })) := y5e (.inl hlf4) hcb4
  have hw5size : (World.setObj w4 L.blk (.loop { state := y6i e, pending := z3k e, fn := fid, tmps := tm0, params := ps, assign := asg, body := body, defers := dsn })).heap.size = w4.heap.size := z13 _ _ _
  have hw5frs : ∀ b, b ≠ L.blk → (World.setObj w4 L.blk (.loop { state := y6i e, pending := z3k e, fn := fid, tmps := tm0, params := ps, assign := asg, body := body, defers := dsn })).heap[b]? = w4.heap[b]? := fun b hb => z14 _ _ _ _ hb
  have hw5o : (World.setObj w4 L.blk (.loop { state := y6i e, pending := z3k e, fn := fid, tmps := tm0, params := ps, assign := asg, body := body, defers := dsn })).os = w4.os ∧ (World.setObj w4 L.blk (.loop { state := y6i e, pending := z3k e, fn := fid, tmps := tm0, params := ps, assign := asg, body := body, defers := dsn })).tape = w4.tape ∧ (World.setObj w4 L.blk (.loop { state := y6i e, pending := z3k e, fn := fid, tmps := tm0, params := ps, assign := asg, body := body, defers := dsn })).output = w4.output := ⟨rfl, rfl, rfl⟩
  generalize World.setObj w4 L.blk (.loop { state := y6i e, pending := z3k e, fn := fid, tmps := tm0, params := ps, assign := asg, body := body, defers := dsn }) = w5 at *
  have hnf : ¬ ρ.fr L.blk := h1.heap.sep id L hL hlive
  have hdead : (z0j s2.heap id).live = false := by
    cases hq : (z0j s2.heap id).live with
    | false => rfl
    | true => exact absurd hlf4 (b1.heap.sep id L hL4 hq)
  have hown5 : z0i ⟨ρ4.loc, ρ.fr⟩ (z1i s2.heap id (.loop (y6i e) (z3k e) g pos nt env)) = z0i ρ4 s2.heap := by
    funext b; exact propext (x48 hL4 hfr4 hdead rfl b)
  have hkeep : z5n (z0i ρ s.heap) (z0i ρ4 s2.heap) w w5 := by
    have k1 := a4.keep
    rw [ho1] at k1
    exact ((k1.trans hk23).trans b4.keep).trans hk45
  have hrho : ∀ j, j < s.heap.length → ρ4 j = ρ j := fun j hj => (b4.rho j hj).trans (a4.rho j hj)
  have hmono : ∀ j M, ρ j = some M → ρ4 j = some M := fun j M hM => by rw [hrho j (h1.dom j (by rw [hM]; simp))]; exact hM
  obtain ⟨_, hback⟩ := b1'.heap.back (ρ := ρ) (o := .loop (y6i e) (z3k e) g pos nt env) hL4 hfr4 hnf rfl ⟨x0, ps, asg, body, hcd, tm0, dsn, fid, hcb5, hts, fun t => by
    rw [hown5]
    exact (hev t).keep (ρ' := ⟨ρ4.loc, ρ.fr⟩) hkeep (fun j M hM => hmono j M hM)⟩
  have hext : Ext (· < s.heap.length) ρ s.heap w ⟨ρ4.loc, ρ.fr⟩ (z1i s2.heap id (.loop (y6i e) (z3k e) g pos nt env)) w5 :=
    { os := hw5o.1.trans (b4.os.trans ((by rw [← hw3]; rfl : w3.os = w2.os).trans a4.os))
      tape := hw5o.2.1.trans (b4.tape.trans ((by rw [← hw3]; rfl : w3.tape = w2.tape).trans a4.tape))
      output := hw5o.2.2.trans (b4.output.trans ((by rw [← hw3]; rfl : w3.output = w2.output).trans a4.output))
      keep := by rw [hown5]; exact hkeep
      rho := fun j hj => hrho j hj
      fr := rfl
      frs := fun c hcf => by
        have hne : c ≠ L.blk := by rintro rfl; exact hnf hcf
        rw [hw5frs c hne, b4.frs c (by rw [hfr2]; exact .inl hcf), ← hw3, z14 _ _ _ _ hne, a4.frs c (.inl hcf)] }
  have h1' : z2b P ⟨ρ4.loc, ρ.fr⟩ ⟨y4u s.env o.dst (.d (.bool (isN e))), z1i s2.heap id (.loop (y6i e) (z3k e) g pos nt env), s.nt⟩ (y21 tm o.dst (.bool (isN e))) w5 :=
    ⟨hback, by
      show z6w _ (z0i ⟨ρ4.loc, ρ.fr⟩ (z1i s2.heap id _)) w5 _ _
      rw [hown5]
      exact y2p (ρ' := ⟨ρ4.loc, ρ.fr⟩) hkeep (fun j M hM => hmono j M hM) h1.env h1.size hd (.d (.bool _)), by rw [z8t]; exact h1.size, fun j hj => by
      have hj : ρ4 j ≠ none := hj
      have := b1.dom j hj
      have := (z16 s2.heap id (.loop (y6i e) (z3k e) g pos nt env)).1
      show j < (z1i s2.heap id _).length
      omega⟩
  obtain ⟨s3, ρ5, tm5, w6, q, g1, g2, g3, g4, g5⟩ := hrest.run b k cs _ _ ds w5 B h1' (h2.keep h1.heap hext)
  refine ⟨s3, ρ5, tm5, w6, q, g1, g2, g3, (hext.mono (fun j (hj : j < n) => by show j < s.heap.length; omega)).trans g4, Steps.trans hsteps ?_⟩
  rw [show c0.finish (.bool (isN e)) = b.on (y21 tm o.dst (.bool (isN e))) ds (.inRegion ops rest :: k) from z85 ho _]
  exact g5⟩
end
end Go.Am
end
section
namespace Go.Am
def z9e (s:AS) (h:List AO):Option Code→Option (AX×AS)
 |none=>some (.normal,⟨s.env,h,s.nt⟩)
 |some .ret=>some (.ret,⟨s.env,h,s.nt⟩)
 |some (.exit j)=>some (.exit j,⟨s.env,h,s.nt⟩)
 |some _=>none
section
variable {P:Program}
theorem y40 (h:List AO) (o:AO):(z1i h h.length o).length=h.length+1:=by rw [x41]; simp
structure z67 (P:Program) (n:Nat) (g:FuncId) (args:List AV) (s:AS) (r:AV) (s':AS):Prop where
 run:∀ (ρ:Rho) (vs tm:Array Value) (w:World) (cs:List Frame),z2b P ρ s tm w→z24 ρ (z0i ρ s.heap) w args vs→
  ∃ ρ' v w' fr,Steps P (lone (Frame.enter P g vs .normal) cs w) (lone fr cs w')∧fr.fn=g∧fr.leaving P w' (.returned v)∧z0t ρ' (z0i ρ' s'.heap) w' r v∧z2b P ρ' s' tm w'∧s'.nt=s.nt∧Ext (· <n) ρ s.heap w ρ' s'.heap w'
theorem z67.of_aret {n:Nat} {g:FuncId} {args:List AV} {s:AS} {r:AV} {h':List AO} (hn:n≤s.heap.length) (h:z90 P g args s.heap r h'):z67 P n g args s r ⟨s.env,h',s.nt⟩:=⟨by
 intro ρ vs tm w cs h1 ha
 obtain ⟨ρ',v,w',fr,a1,a2,a3,a4,a5,a6,a7⟩:=h.run ρ vs w cs h1.heap h1.dom ha
 have hρ:∀ id L,ρ id=some L→ρ' id=some L:=fun id L hL=>by
  have hid:id<s.heap.length:=h1.dom id (by rw [hL]; simp)
  rw [a7.rho id hid]; exact hL
 exact ⟨ρ',v,w',fr,a1,a2,a3,a4,⟨a5,fun t=>(h1.env t).keep a7.keep hρ,h1.size,a6⟩,rfl,a7.mono (fun id (hid:id<n)=>by show id<s.heap.length; omega)⟩⟩
theorem x65 {n:Nat} {ops:Array Oper} {i:Nat} {rest:List Nat} {s:AS} {Q:AS→Prop} {o:Oper} (ho:ops[i]?=some o) (hg:z6g ops.toList s.env o.guard=some true) {f:Operand} {args:Array Operand} {ts:Array TypeId}
  (hop:o.op= .call ⟨.value f,args,ts⟩) {g:FuncId} {first captured:List AV} (hf:z0x s.env f= .clo (.func g) first captured) (hen:z29 P g) {r:AV} {s':AS} (hret:z67 P n g (first++z1x s.env args.toList++captured) s r s') (hd:z5y s.nt o.dst=true)
  (h:y9x P n ops rest ⟨y4u s'.env o.dst r,s'.heap,s'.nt⟩ Q):y9x P n ops (i::rest) s Q:=⟨by
 intro b k cs ρ tm ds w B h1 h2
 have hfv:=z0n h1.env f
 rw [hf] at hfv
 obtain ⟨vf,vc,hfe,hfr,hcr⟩:∃ vf vc,opv tm f= .func (.func g) vf vc∧z24 ρ (z0i ρ s.heap) w first vf∧z24 ρ (z0i ρ s.heap) w captured vc:=by
  generalize hv:opv tm f=v at hfv
  cases hfv with
  |clo _ _ _ vf vc a1 a2 a3 a4=>exact ⟨vf,vc,rfl,⟨a1,a3⟩,⟨a2,a4⟩⟩
 have har:z24 ρ (z0i ρ s.heap) w (z1x s.env args.toList) (args.map (opv tm)):=z7q h1.env args
 have hall:=(hfr.append har).append hcr
 have hexec:(execOp (opv tm) o).run P w= .ok (.enter g (vf++args.map (opv tm)++vc)) w:=by
  have:=hen (vf++args.map (opv tm)++vc) w
  simp only [Array.append_assoc] at this
  simp [execOp,hop,resolve,Deferred.ofValue,hfe,invoke,this]
 obtain ⟨ρ',v,w',fr,hst,hfn,hlv,hv,hh,hnt,hx⟩:=hret.run ρ _ tm w (b.on tm ds (.inRegion ops (i::rest)::k)::cs) h1 hall
 have h1':z2b P ρ' ⟨y4u s'.env o.dst r,s'.heap,s'.nt⟩ (y21 tm o.dst v) w':=
  ⟨hh.heap,y2p (z5n.refl _ _) (fun _ _ h=>h) hh.env hh.size (by rw [hnt]; exact hd) hv,by rw [z8t]; exact hh.size,hh.dom⟩
 obtain ⟨s2,ρ2,tm2,w2,q2,g1,g2,g3,g4,g5⟩:=h.run b k cs ρ' _ ds w' B h1' (h2.keep h1.heap hx)
 have hdef:∀ c,o.op≠ .defer c:=by rw [hop]; simp
 refine ⟨s2,ρ2,tm2,w2,q2,g1,g2,g3.trans hnt,hx.trans g4,?_⟩
 refine .head (y4r ho (z5i h1 hg) hdef hexec) (Steps.trans hst (.head (step_leave_returned hlv) ?_))
 rw [z85 ho]
 exact g5⟩
theorem y6m {n:Nat} {s:AS} {Q:AX→AS→Prop} {f:Operand} {ps:Array Tmp} {asg body:Code} {g:FuncId} {first captured:List AV} {gc:Nat} {pos:List Bool} (hcd:z36 P gc pos=some (.rangeFunc f ps asg body)) (hf:z0x s.env f= .clo (.func g) first captured) (hen:z29 P g) (hn:n≤s.heap.length)
  {r:AV} {sc:AS} (hret:z67 P (s.heap.length+1) g (first++[.yld s.heap.length]++captured) ⟨s.env,z1i s.heap s.heap.length (.loop .ready none gc pos s.nt s.env),s.nt⟩ r sc)
  {st:LoopState} {pd:Option Code} {gc':Nat} {pos':List Bool} {env:List (Nat×AV)} {nt:Nat} (hob:z0j sc.heap s.heap.length= .loop st pd gc' pos' nt env) (hst:st≠ .busy)
  {e:AX} {s':AS} (haf:z9e sc (z1i sc.heap s.heap.length .dead) pd=some (e,s')) (hQ:Q e s'):z6m P n (.rangeFunc f ps asg body) s Q:=⟨by
 intro b k cs ρ tm ds w B h1 h2
 have hnone:ρ s.heap.length=none:=by
  cases hq:ρ s.heap.length with
  |none=>rfl
  |some L=>have:=h1.dom s.heap.length (by rw [hq]; simp); omega
 obtain ⟨mark,w1,dsn,hw1,hrun1,hmark⟩:∃ (mark:List Deferred) (w1:World) (dsn:Nat),(z0c P ρ s.heap w1∧Ext (· <s.heap.length) ρ s.heap w ρ s.heap w1)∧
   (∀ o:Loop,o={ state:= .ready,pending:=none,fn:=b.fn,tmps:=tm,params:=ps,assign:=asg,body:=body,defers:=dsn }→(Instr.enterLoop b.fn tm ps asg body b.roundOf).run P w= .ok (w1.heap.size,mark) (World.push w1 (.loop o)))∧z3y b.roundOf B ρ.fr w1 (mark++ds):=by
  cases hro:b.roundOf with
  |none=>
   refine ⟨[{ target:= .collected w.heap.size,args:=#[] }],World.push w (.deferred (some [])),w.heap.size,⟨h1.heap.push0 _,Ext.push0 _ h1.heap _⟩,?_,?_⟩
   ·rintro o rfl
    simp [Instr.enterLoop,newObj,Sem.run,World.push]
    rfl
   ·rw [hro] at h2
    refine ⟨?_,?_,h2.below,by rw [z7h]; have:=h2.le; omega,fun l hl=>by cases hl⟩
    ·refine List.nodup_cons.2 ⟨fun hm=>?_,h2.nodup⟩
     obtain ⟨r,e,hr,_⟩:=h2.mark _ hm
     have:=(Array.getElem?_eq_some_iff.1 hr).1
     have e2:Target.collected w.heap.size=Target.collected r:=congrArg Deferred.target e
     injection e2 with e2
     omega
    ·intro d hd
     rcases List.mem_cons.1 hd with rfl|hd
     ·exact ⟨w.heap.size,rfl,z3o _ _,h2.le⟩
     ·obtain ⟨r,e,hr,hB⟩:=h2.mark d hd
      exact ⟨r,e,by rw [z5v _ _ _ (Array.getElem?_eq_some_iff.1 hr).1]; exact hr,hB⟩
  |some l0=>
   rw [hro] at h2
   obtain ⟨_,r0,hr0⟩:=h2.round l0 rfl
   refine ⟨[],w,r0.defers,⟨h1.heap,Ext.refl _ _ _ _⟩,?_,h2⟩
   rintro o rfl
   simp [Instr.enterLoop,newObj,Sem.run,World.push,z6c hr0]
   try rfl
 obtain ⟨hh1,hx1⟩:=hw1
 have hrun1:=hrun1 _ rfl
 generalize hlo:({ state:= .ready,pending:=none,fn:=b.fn,tmps:=tm,params:=ps,assign:=asg,body:=body,defers:=dsn }:Loop)=lo at hrun1
 have hx2:=Ext.new hh1 hnone ⟨w1.heap.size,0,0⟩ (.loop .ready none gc pos s.nt s.env) (.loop lo) rfl
 have hh2:z0c P (ρ.put s.heap.length ⟨w1.heap.size,0,0⟩) (z1i s.heap s.heap.length (.loop .ready none gc pos s.nt s.env)) (World.push w1 (.loop lo)):=
  hh1.new hnone 0 _ _ ⟨f,ps,asg,body,hcd,tm,dsn,b.fn,by rw [z3o, ←hlo],h1.size,fun t=>((h1.env t).keep hx1.keep (fun _ _ h=>h)).keep hx2.keep (Rho.put_mono _ _ _ hnone)⟩
 have hd2:Dom (ρ.put s.heap.length ⟨w1.heap.size,0,0⟩) (z1i s.heap s.heap.length (.loop .ready none gc pos s.nt s.env)):=fun id hid=>by
  rw [y40]
  by_cases e:id=s.heap.length
  ·omega
  ·rw [Rho.put_ne _ _ _ _ e] at hid
   have:=h1.dom id hid; omega
 have hx02:=(hx1.mono (S':=(· <s.heap.length)) (fun _ h=>h)).trans (hx2.mono (S':=(· <s.heap.length)) (fun id (h:id<s.heap.length)=>by show id≠s.heap.length; omega))
 have hmono2:∀ id L,ρ id=some L→(ρ.put s.heap.length ⟨w1.heap.size,0,0⟩) id=some L:=Rho.put_mono _ _ _ hnone
 have hfv:=z0n h1.env f
 rw [hf] at hfv
 obtain ⟨vf,vc,hfe,hfr,hcr⟩:∃ vf vc,opv tm f= .func (.func g) vf vc∧z24 ρ (z0i ρ s.heap) w first vf∧z24 ρ (z0i ρ s.heap) w captured vc:=by
  generalize hv:opv tm f=v at hfv
  cases hfv with
  |clo _ _ _ vf vc a1 a2 a3 a4=>exact ⟨vf,vc,rfl,⟨a1,a3⟩,⟨a2,a4⟩⟩
 have later:∀ (xs:List AV) (vs:Array Value),z24 ρ (z0i ρ s.heap) w xs vs→z24 (ρ.put s.heap.length ⟨w1.heap.size,0,0⟩) (z0i (ρ.put s.heap.length ⟨w1.heap.size,0,0⟩) (z1i s.heap s.heap.length (.loop .ready none gc pos s.nt s.env))) (World.push w1 (.loop lo)) xs vs:=
  fun xs vs h=>⟨h.1,fun i x hx=>(h.2 i x hx).keep hx02.keep hmono2⟩
 have hyl:z24 (ρ.put s.heap.length ⟨w1.heap.size,0,0⟩) (z0i (ρ.put s.heap.length ⟨w1.heap.size,0,0⟩) (z1i s.heap s.heap.length (.loop .ready none gc pos s.nt s.env))) (World.push w1 (.loop lo)) [.yld s.heap.length] #[.func (.yield w1.heap.size) #[] #[]]:=
  ⟨rfl,fun i x hx=>by
   cases i with
   |zero=>cases hx; exact .yld _ _ (Rho.put_same _ _ _)
   |succ i=>simp at hx⟩
 have hexec:(do let d←resolve (opv tm) { callee:= .value f,args:=#[.const (.func (.yield w1.heap.size) #[] #[])],argTypes:=#[] } 0; invoke d.target d.args:Sem Next).run P (World.push w1 (.loop lo))= .ok (.enter g (vf++#[.func (.yield w1.heap.size) #[] #[]]++vc)) (World.push w1 (.loop lo)):=by
  have:=hen (vf++#[.func (.yield w1.heap.size) #[] #[]]++vc) (World.push w1 (.loop lo))
  simp only [Array.append_singleton] at this⊢
  have hcst:opv tm (.const (.func (.yield w1.heap.size) #[] #[]))= .func (.yield w1.heap.size) #[] #[]:=rfl
  simp [resolve,Deferred.ofValue,hfe,invoke,hcst,this]
 have hst2:z2b P (ρ.put s.heap.length ⟨w1.heap.size,0,0⟩) ⟨s.env,z1i s.heap s.heap.length (.loop .ready none gc pos s.nt s.env),s.nt⟩ tm (World.push w1 (.loop lo)):=
  ⟨hh2,fun t=>(h1.env t).keep hx02.keep hmono2,h1.size,hd2⟩
 obtain ⟨ρ3,v,w3,fr,hsteps,hfn,hlv,hv,hst3,hnt3,hx3⟩:=hret.run _ _ tm (World.push w1 (.loop lo)) (b.on tm (mark++ds) (.inRangeFunc w1.heap.size::k)::cs) hst2 (((later _ _ hfr).append hyl).append (later _ _ hcr))
 have hh3:=hst3.heap
 have hdm3:=hst3.dom
 have hL3:ρ3 s.heap.length=some ⟨w1.heap.size,0,0⟩:=by rw [hx3.rho _ (by show s.heap.length<s.heap.length+1; omega)]; exact Rho.put_same _ _ _
 obtain ⟨_,hobj⟩:=hh3.obj _ _ hL3
 rw [hob] at hobj
 obtain ⟨x',ps',asg',body',hcd3,tm3,ds3,fid3,hcb3,hts3,hev3⟩:=hobj
 have hel:=x3f (P:=P) hcb3 hst
 have hlive:(z0j sc.heap s.heap.length).live=true:=by rw [hob]; rfl
 have hbs:∀ m,z1v w3 w1.heap.size=some m→z1v (World.setObj w3 w1.heap.size (.loop { state:= .exhausted,pending:=pd,fn:=fid3,tmps:=tm3,params:=ps',assign:=asg',body:=body',defers:=ds3 })) w1.heap.size=some m:=fun m hm=>y7z hcb3 _ _ hm
 have hk4:=z2a hh3 hL3 hlive (.loop .exhausted pd gc' pos' nt env) rfl (.loop { state:= .exhausted,pending:=pd,fn:=fid3,tmps:=tm3,params:=ps',assign:=asg',body:=body',defers:=ds3 }) hbs
 have hh4:=hh3.set hL3 hlive (.loop .exhausted pd gc' pos' nt env) rfl (.loop { state:= .exhausted,pending:=pd,fn:=fid3,tmps:=tm3,params:=ps',assign:=asg',body:=body',defers:=ds3 }) hbs
  ⟨x',ps',asg',body',hcd3,tm3,ds3,fid3,z0z _ _ _ (Array.getElem?_eq_some_iff.1 hcb3).1,hts3,fun t=>(hev3 t).keep hk4 (fun _ _ h=>h)⟩
 have hx4:=Ext.set (· <s.heap.length) hh3 hL3 hlive (.loop .exhausted pd gc' pos' nt env) rfl (.loop { state:= .exhausted,pending:=pd,fn:=fid3,tmps:=tm3,params:=ps',assign:=asg',body:=body',defers:=ds3 }) hbs
 have hh5:=hh4.kill s.heap.length
 have hx5:=Ext.kill (· <s.heap.length) ρ3 (z1i sc.heap s.heap.length (.loop .exhausted pd gc' pos' nt env)) (World.setObj w3 w1.heap.size (.loop { state:= .exhausted,pending:=pd,fn:=fid3,tmps:=tm3,params:=ps',assign:=asg',body:=body',defers:=ds3 })) s.heap.length
 have hsame:∀ id,z0j (z1i (z1i sc.heap s.heap.length (.loop .exhausted pd gc' pos' nt env)) s.heap.length .dead) id=z0j (z1i sc.heap s.heap.length .dead) id:=by
  intro id
  by_cases e:s.heap.length=id
  ·subst e; rw [z0m,z0m]
  ·rw [z0g _ _ _ _ e,z0g _ _ _ _ e,z0g _ _ _ _ e]
 have hh6:=hh5.ext hsame
 have hx:Ext (· <s.heap.length) ρ s.heap w ρ3 (z1i sc.heap s.heap.length .dead) (World.setObj w3 w1.heap.size (.loop { state:= .exhausted,pending:=pd,fn:=fid3,tmps:=tm3,params:=ps',assign:=asg',body:=body',defers:=ds3 })):=by
  have:=((hx02.trans (hx3.mono (S':=(· <s.heap.length)) (fun id (h:id<s.heap.length)=>by show id<s.heap.length+1; omega))).trans hx4).trans hx5
  exact ⟨this.os,this.tape,this.output,by rw [←z3p hsame]; exact this.keep,this.rho,this.fr,this.frs⟩
 have hx345:z5n (z0i ρ3 sc.heap) (z0i ρ3 (z1i sc.heap s.heap.length .dead)) w3 (World.setObj w3 w1.heap.size (.loop { state:= .exhausted,pending:=pd,fn:=fid3,tmps:=tm3,params:=ps',assign:=asg',body:=body',defers:=ds3 })):=by
  have:=(hx4.trans hx5).keep
  rw [z3p hsame] at this
  exact this
 have hst':z2b P ρ3 ⟨sc.env,z1i sc.heap s.heap.length .dead,sc.nt⟩ tm (World.setObj w3 w1.heap.size (.loop { state:= .exhausted,pending:=pd,fn:=fid3,tmps:=tm3,params:=ps',assign:=asg',body:=body',defers:=ds3 })):=
  ⟨hh6,fun t=>(hst3.env t).keep hx345 (fun _ _ h=>h),hst3.size,fun id hid=>by
   have:=hdm3 id hid
   have:=(z16 sc.heap s.heap.length .dead).1
   show id<(z1i sc.heap s.heap.length .dead).length
   omega⟩
 have hdf:z3y b.roundOf B ρ3.fr (World.setObj w3 w1.heap.size (.loop { state:= .exhausted,pending:=pd,fn:=fid3,tmps:=tm3,params:=ps',assign:=asg',body:=body',defers:=ds3 })) (mark++ds):=
  (((hmark.keep hh1 hx2).keep hh2 hx3).keep hh3 hx4)
 have hall:Steps P (lone (b.on tm ds (.code (.rangeFunc f ps asg body)::k)) cs w) (lone (b.on tm (mark++ds) ((pd.map Item.code).toList++k)) cs (World.setObj w3 w1.heap.size (.loop { state:= .exhausted,pending:=pd,fn:=fid3,tmps:=tm3,params:=ps',assign:=asg',body:=body',defers:=ds3 }))):=
  .head (x0x hrun1 hexec) (Steps.trans hsteps (.head (step_leave_returned hlv) (.one (x3a hel))))
 have hxn:=hx.mono (S':=(· <n)) (fun id (h:id<n)=>by show id<s.heap.length; omega)
 unfold z9e at haf
 split at haf
 ·cases haf; exact ⟨.normal,_,ρ3,tm,mark++ds,_,hQ,hst',hdf,hnt3,hxn,hall⟩
 ·cases haf; exact ⟨.ret,_,ρ3,tm,mark++ds,_,hQ,hst',hdf,hnt3,hxn,_,hall⟩
 ·cases haf; exact ⟨.exit _,_,ρ3,tm,mark++ds,_,hQ,hst',hdf,hnt3,hxn,k,rfl,hall⟩
 ·cases haf⟩
end
end Go.Am
end
section
namespace Go.Am
structure w5p where
 body:Code
 nt:Nat
 res:List ResultVar
mutual
def z83:AV→Bool
 | .bot=>true
 | .d _=>true
 | .clo _ fs cs=>y0m fs&&y0m cs
 | .agg cs=>y0m cs
 | .tuple vs=>y0m vs
 |_=>false
def y0m:List AV→Bool
 |[]=>true
 |x::l=>z83 x&&y0m l
end
mutual
theorem y3w:(x:AV)→z83 x=true→y93 x
 | .bot,_=> .bot
 | .d x,_=> .d x
 | .clo fn fs cs,h=>by
  simp only [z83,Bool.and_eq_true] at h
  exact .clo fn fs cs (z5x fs h.1) (z5x cs h.2)
 | .agg cs,h=> .agg cs (z5x cs (by simpa [z83] using h))
 | .tuple cs,h=> .tuple cs (z5x cs (by simpa [z83] using h))
 | .bptr _ _,h=>by simp [z83] at h
 | .ptr _ _ _,h=>by simp [z83] at h
 | .lptr _ _,h=>by simp [z83] at h
 | .wptr _ _,h=>by simp [z83] at h
 | .slice _ _ _ _ _,h=>by simp [z83] at h
 | .map _,h=>by simp [z83] at h
 | .yld _,h=>by simp [z83] at h
 | .iface _ _,h=>by simp [z83] at h
theorem z5x:(l:List AV)→y0m l=true→∀ (i:Nat) (x:AV),l[i]?=some x→y93 x
 |[],_,i,x,hx=>by simp at hx
 |y::l,h,i,x,hx=>by
  simp only [y0m,Bool.and_eq_true] at h
  cases i with
  |zero=>simp at hx; subst hx; exact y3w y h.1
  |succ i=>exact z5x l h.2 i x (by simpa using hx)
end
theorem Steps.tail {P : Program} {m m₁ m' : Machine} (hs : step P m = .next m₁) (h : Steps P m m') (hne : m ≠ m') : Steps P m₁ m' := by
  obtain ⟨n, hn⟩ := h
  cases n with
  | zero => simp [runN] at hn; exact absurd hn hne
  | succ n => simp [runN, hs] at hn; exact ⟨n, hn⟩
theorem y5a {f g:Frame} {cs:List Frame} {w w':World} (h:lone f cs w=lone g cs w'):f.todo=g.todo:=by
 simp [lone] at h
 rw [h.2]
theorem Arr.loop {P:Program} {b:Frame} {cs:List Frame} {c:Code} {k:List Item} {e:AX} {tm tm':Array Value} {ds ds':List Deferred} {w w':World}
  (h:Arr P b cs (lone (b.on tm ds (.code (.loop c)::k)) cs w) k e tm' ds' w'):Arr P b cs (lone (b.on tm ds (.code c:: .inLoop c::k)) cs w) k e tm' ds' w':=by
 cases e with
 |normal=>
  refine Steps.tail y18 h fun he=>?_
  have:=y5a he
  simp only [Frame.on] at this
  have:=congrArg List.length this
  simp at this
 |exit id=>
  obtain ⟨k',e,hs⟩:=h
  refine ⟨k',e,Steps.tail y18 hs fun he=>?_⟩
  have:=y5a he
  simp [Frame.on] at this
 |ret=>
  obtain ⟨k',hs⟩:=h
  refine ⟨k',Steps.tail y18 hs fun he=>?_⟩
  have:=y5a he
  simp [Frame.on] at this
theorem z28 {P:Program} {n:Nat} {c:Code} {s:AS} {Q:AX→AS→Prop} (h:z6m P n c s (fun e s'=>match e with| .normal=>z6m P n (.loop c) s' Q|e=>Q e s')):z6m P n (.loop c) s Q:=⟨by
 intro b k cs ρ tm ds w B h1 h2
 obtain ⟨e,s',ρ',tm',ds',w',q,r1,r2,r3,r4,r5⟩:=h.run b (.inLoop c::k) cs ρ tm ds w B h1 h2
 cases e with
 |normal=>
  obtain ⟨e,s2,ρ2,tm2,ds2,w2,q2,g1,g2,g3,g4,g5⟩:=q.run b k cs ρ' tm' ds' w' B r1 r2
  exact ⟨e,s2,ρ2,tm2,ds2,w2,q2,g1,g2,g3.trans r3,r4.trans g4, .of_steps (.head y18 (Steps.trans r5 (.one x9a))) g5.loop⟩
 |exit id=>
  obtain ⟨k',e,hs⟩:=r5
  exact ⟨.exit id,s',ρ',tm',ds',w',q,r1,r2,r3,r4,k',by rw [e,y0o (by simp)], .head y18 hs⟩
 |ret=>
  obtain ⟨k',hs⟩:=r5
  exact ⟨.ret,s',ρ',tm',ds',w',q,r1,r2,r3,r4,k', .head y18 hs⟩⟩
theorem DS.mono {P:Program} {T:TypeId→Option TI} {ops:List Oper} {nt base:Nat} {K K':AS→Prop} {acc:List (List Nat)} {i:Nat} {l:List Oper} {s:AS} (h:DS P T ops nt base K acc i l s) (hk:∀ s,K s→K' s):DS P T ops nt base K' acc i l s:=by
 induction h with
 |nil h=>exact .nil (hk _ h)
 |cons hp hd hop h ih=>exact .cons hp hd hop ih
structure Alg where
 Ω:Type→Type
 ret:(β:Type)→β→Ω β
 no:(β:Type)→Nat→Ω β
 need:(β:Type)→Bool→Ω β→Ω β
 ask:(β:Type)→Bool→Ω β→Ω β→Ω β
 bnd:(γ β:Type)→Option γ→(γ→Ω β)→Ω β
 alt:(γ δ β:Type)→Option (γ⊕δ)→(γ→Ω β)→(δ→Ω β)→Ω β
 run:(γ:Type)→Ω γ→Option γ
def opt:Alg where
 Ω:=Option
 ret:=fun _ x=>some x
 no:=fun _ _=>none
 need:=fun _ c k=>bif c then k else none
 ask:=fun _ c a b=>bif c then a else b
 bnd:=fun _ _ x k=>x.bind k
 alt:=fun _ _ _ x k k'=>x.bind fun y=>match y with| .inl y=>k y| .inr y=>k' y
 run:=fun _ x=>x
theorem z5f {β:Type} {c:Bool} {k:Option β} {b:β} (h:opt.need β c k=some b):c=true∧k=some b:=by
 cases c with
 |false=>cases h
 |true=>exact ⟨rfl,h⟩
theorem z9y {β:Type} {c:Bool} {x y:Option β} {b:β} (h:opt.ask β c x y=some b):(c=true∧x=some b)∨(c=false∧y=some b):=by
 cases c with
 |false=>exact .inr ⟨rfl,h⟩
 |true=>exact .inl ⟨rfl,h⟩
theorem w43 {γ β:Type} {x:Option γ} {k:γ→Option β} {b:β} (h:opt.bnd γ β x k=some b):∃ y,x=some y∧k y=some b:=by
 cases x with
 |none=>cases h
 |some y=>exact ⟨y,rfl,h⟩
def v64 (p:Prim) (rs:List (List D)) (j:Nat):CR→D
 | .int k=> .int k (p.rdI rs 0 j)
 | .bool=> .bool (p.rdB rs 0 j)
 | .str=> .str (p.rdS rs 0 j)
 | .list z=> .list false z (p.rdL rs 0 j)
def w2a (p:Prim) (rs:List (List D)):Nat→List CR→List D
 |_,[]=>[]
 |j,c::cs=>v64 p rs j c::w2a p rs (j+1) cs
def mkC (p:Prim) (es:List (List D)) (i j:Nat):CK→D
 | .int k=> .int k (p.rdI es i j)
 | .bool=> .bool (p.rdB es i j)
 | .str=> .str (p.rdS es i j)
 | .list z=> .list false z (p.rdL es i j)
 | .other=> .nilp
 | .ref ks=> .ref (w2a p (p.rdR es i j) 0 ks)
def mkR (p:Prim) (es:List (List D)) (i:Nat):Nat→List CK→List D
 |_,[]=>[]
 |j,c::cs=>mkC p es i j c::mkR p es i (j+1) cs
def y82:List CK→Bool
 |[]=>false
 | .other::_=>true
 |_::l=>y82 l
theorem x78 {c:CR} {d:D} {rs:List (List D)} {j:Nat} (h:y9m c d=true) (he:rdD rs 0 j=d):v0x d (v64 std rs j c):=by
 cases c<;>cases d<;>simp only [y9m,Bool.false_eq_true] at h<;>simp only [v64,std,he]
 ·have:_=_:=eq_of_beq h
  subst this; exact .refl _
 ·exact .refl _
 ·exact .refl _
 ·rename_i z f z' es
  right
  refine ⟨z,rfl,?_⟩
  rw [Bool.or_eq_true] at h
  rcases h with h|h
  ·exact .inl (Nat.eq_of_beq_eq_true h)
  ·exact .inr (by simpa using h)
theorem y27:∀ (cs:List CR) (ds:List D),z9w cs ds=true→ds.length=cs.length∧∀ (j:Nat) (c:CR),cs[j]?=some c→∃ d,ds[j]?=some d∧y9m c d=true
 |[],[],_=>⟨rfl,by simp⟩
 |[],_::_,h=>by simp [z9w] at h
 |_::_,[],h=>by simp [z9w] at h
 |c::cs,d::ds,h=>by
  simp only [z9w,Bool.and_eq_true] at h
  obtain ⟨a,b⟩:=y27 cs ds h.2
  refine ⟨by simp [a],fun j c' hj=>?_⟩
  cases j with
  |zero=>simp at hj; subst hj; exact ⟨d,rfl,h.1⟩
  |succ j=>simpa using b j c' (by simpa using hj)
theorem x5f (p:Prim) (rs:List (List D)):∀ (cs:List CR) (j0:Nat),(w2a p rs j0 cs).length=cs.length∧∀ (j:Nat) (y:D),(w2a p rs j0 cs)[j]?=some y→∃ c,cs[j]?=some c∧y=v64 p rs (j0+j) c
 |[],j0=>⟨rfl,by simp [w2a]⟩
 |c::cs,j0=>by
  obtain ⟨a,b⟩:=x5f p rs cs (j0+1)
  refine ⟨by simp [w2a,a],fun j y hy=>?_⟩
  cases j with
  |zero=>simp [w2a] at hy; exact ⟨c,rfl,hy.symm⟩
  |succ j=>
   obtain ⟨c',h1,h2⟩:=b j y (by simpa [w2a] using hy)
   exact ⟨c',by simpa using h1,by rw [h2]; congr 1; omega⟩
def v7j (d:D):CK→D
 | .int k=> .int k (dI d)
 | .bool=> .bool (dB d)
 | .str=> .str (dS d)
 | .list z=> .list false z (dL d)
 | .other=> .nilp
 | .ref ks=> .ref (w2a std (dR d) 0 ks)
theorem x2b {c:CK} {d d':D} (h:y7x c d=true) (he:d'=v7j d c):DLe d d':=by
 subst he
 cases c<;>cases d<;>simp only [y7x,Bool.false_eq_true] at h
 ·have:_=_:=eq_of_beq h
  subst this; exact .refl _
 ·exact .refl _
 ·exact .refl _
 ·rename_i z f z' es
  left
  right
  refine ⟨z,rfl,?_⟩
  rw [Bool.or_eq_true] at h
  rcases h with h|h
  ·exact .inl (Nat.eq_of_beq_eq_true h)
  ·exact .inr (by simpa using h)
 ·rename_i ks ds
  obtain ⟨h1,h2⟩:=y27 _ _ h
  obtain ⟨m1,m2⟩:=x5f std (dR (.ref ds)) ks 0
  refine .inr ⟨ds,_,rfl,rfl,by rw [m1,h1],fun j y hy=>?_⟩
  obtain ⟨c,hc,rfl⟩:=m2 j y hy
  obtain ⟨d,hd,hcd⟩:=h2 j c hc
  refine ⟨d,hd,?_⟩
  rw [Nat.zero_add]
  exact x78 hcd (by simp [rdD,dR,hd])
theorem y0r:∀ (cs:List CK) (ds:List D),z3m cs ds=true→ds.length=cs.length∧∀ (j:Nat) (c:CK),cs[j]?=some c→∃ d,ds[j]?=some d∧y7x c d=true
 |[],[],_=>⟨rfl,by simp⟩
 |[],_::_,h=>by simp [z3m] at h
 |_::_,[],h=>by simp [z3m] at h
 |c::cs,d::ds,h=>by
  simp only [z3m,Bool.and_eq_true] at h
  obtain ⟨a,b⟩:=y0r cs ds h.2
  refine ⟨by simp [a],fun j c' hj=>?_⟩
  cases j with
  |zero=>simp at hj; subst hj; exact ⟨d,rfl,h.1⟩
  |succ j=>simpa using b j c' (by simpa using hj)
theorem x9y (p:Prim) (es:List (List D)) (i:Nat):∀ (cs:List CK) (j0:Nat),(mkR p es i j0 cs).length=cs.length∧∀ (j:Nat) (y:D),(mkR p es i j0 cs)[j]?=some y→∃ c,cs[j]?=some c∧y=mkC p es i (j0+j) c
 |[],j0=>⟨rfl,by simp [mkR]⟩
 |c::cs,j0=>by
  obtain ⟨a,b⟩:=x9y p es i cs (j0+1)
  refine ⟨by simp [mkR,a],fun j y hy=>?_⟩
  cases j with
  |zero=>simp [mkR] at hy; exact ⟨c,rfl,hy.symm⟩
  |succ j=>
   obtain ⟨c',h1,h2⟩:=b j y (by simpa [mkR] using hy)
   exact ⟨c',by simpa using h1,by rw [h2]; congr 1; omega⟩
theorem x4w {es:List (List D)} {i:Nat} {ck:List CK} (h:std.rowOk es i ck=true):w15 es i (mkR std es i 0 ck):=by
 simp only [std] at h
 split at h
 ·rename_i r hr
  obtain ⟨h1,h2⟩:=y0r _ _ h
  obtain ⟨m1,m2⟩:=x9y std es i ck 0
  refine ⟨r,hr,by rw [m1,h1],fun j y hy=>?_⟩
  obtain ⟨c,hc,rfl⟩:=m2 j y hy
  obtain ⟨d,hd,hcd⟩:=h2 j c hc
  refine ⟨d,hd,x2b hcd ?_⟩
  rw [Nat.zero_add]
  have e:rdD es i j=d:=by simp [rdD,hr,hd]
  cases c<;>simp only [mkC,v7j,std,e]
 ·cases h
def v7y (p:Prim) (es:List (D×D)) (ks:List SK) (ka:Bool) (k:D) (j:Nat):CK→D
 | .int kk=> .int kk (p.mI es ks ka k j)
 | .bool=> .bool (p.mB es ks ka k j)
 | .str=> .str (p.mS es ks ka k j)
 | .list z=> .list false z (p.mL es ks ka k j)
 | .other=> .nilp
 | .ref cs=> .ref (w2a p (p.mR es ks ka k j) 0 cs)
def x9v (p:Prim) (es:List (D×D)) (ks:List SK) (ka:Bool) (k:D):Nat→List CK→List D
 |_,[]=>[]
 |j,c::cs=>v7y p es ks ka k j c::x9v p es ks ka k (j+1) cs
theorem x5e (p:Prim) (es:List (D×D)) (ks:List SK) (ka:Bool) (k:D):∀ (cs:List CK) (j0:Nat),(x9v p es ks ka k j0 cs).length=cs.length∧∀ (j:Nat) (y:D),(x9v p es ks ka k j0 cs)[j]?=some y→∃ c,cs[j]?=some c∧y=v7y p es ks ka k (j0+j) c
 |[],j0=>⟨rfl,by simp [x9v]⟩
 |c::cs,j0=>by
  obtain ⟨a,b⟩:=x5e p es ks ka k cs (j0+1)
  refine ⟨by simp [x9v,a],fun j y hy=>?_⟩
  cases j with
  |zero=>simp [x9v] at hy; exact ⟨c,rfl,hy.symm⟩
  |succ j=>
   obtain ⟨c',h1,h2⟩:=b j y (by simpa [x9v] using hy)
   exact ⟨c',by simpa using h1,by rw [h2]; congr 1; omega⟩
def mkV (a:Bool) (l:List D):D:=
 match a,l with
 |true,l=> .agg l
 |false,[x]=>x
 |false,_=> .nilp
theorem w37 (ks:List SK) (ka:Bool) (k:D):∀ (es:List (D×D)) (i:Nat),z5j std ks ka k es i=x1s ks ka k es i:=by
 have hc:∀ (ks:List SK) (xs ys:List D),z1p std ks xs ys=z8e ks xs ys:=by
  intro ks
  induction ks with
  |nil=>intro xs ys; cases xs<;>cases ys<;>rfl
  |cons k ks ih=>
   intro xs ys
   cases k<;>cases xs<;>(try rfl)<;>rename_i x xs<;>cases x<;>(try rfl)<;>cases ys<;>(try rfl)<;>rename_i y ys<;>cases y<;>(try rfl)<;>simp only [z1p,z8e,ih]<;>rfl
 intro es
 induction es with
 |nil=>intro i; rfl
 |cons p es ih=>intro i; obtain ⟨k',v⟩:=p; simp only [z5j,x1s,hc,ih]
structure Env where
 T:TypeId→Option TI
 B:FuncId→Option w5p
 C:TypeId→List CK
 CM:TypeId→Bool×List CK
 A:Nat→List Bool→Option Code
 dt:FuncId→Bool
 tl:Bool
 tk:Bool
def v0t:List (List CK)→Nat→List CK
 |[],_=>[]
 |x::_,0=>x
 |_::l,n+1=>v0t l n
def v6y:List (List CK)→Nat→List CK→List (List CK)
 |[],0,c=>[c]
 |[],n+1,c=>[]::v6y [] n c
 |_::l,0,c=>c::l
 |x::l,n+1,c=>x::v6y l n c
def u0o (E:Env) (t:TypeId):List CK:=
 match E.T t with
 |some ti=>match ti.zero with
  | .int k _::_=>[.int k]
  |_=>[]
 |none=>[]
def w75 (E:Env) (K:List (List CK)) (env:List (Nat×AV)):Op→List CK
 | .load t a=>match z0x env a with
  | .ptr id _ _=>v0t K id
  | .bptr id _=>v0t K id
  | .wptr _ _=>u0o E t
  |_=>[]
 | .store _ a _=>match z0x env a with
  | .ptr id _ _=>v0t K id
  | .bptr id _=>v0t K id
  |_=>[]
 | .slice _ a _ _ _=>match z0x env a with
  | .bptr id _=>v0t K id
  |_=>[]
 | .indexAddr t _ _=>E.C t
 |_=>[]
def v00 (E:Env) (t:TypeId):Option (List CK):=
 match E.T t with
 |some ti=>match x8u ti with
  |some k=>some [.int k]
  |none=>none
 |none=>none
def newK (E:Env):Op→Option (List CK)
 | .alloc t=>v00 E t
 | .box t _=>v00 E t
 | .buildSlice t _ _=>some (E.C t)
 | .makeSlice t _ _=>some (E.C t)
 | .call ⟨.builtin .append,_,ts⟩=>match ts.toList with
  |t::_=>some (E.C t)
  |_=>none
 |_=>none
def x7q (A:Alg) (β:Type) (p:Prim) (E:Env) (t:TypeId) (h:List AO) (m k:AV) (c:Bool→List D→List AV→A.Ω β):A.Ω β:=
 match E.T t with
 |some ti=>match ti.desc,k with
  | .map ks ka ez, .d kd=>match m with
   | .d .nilm=>A.need β ((z10 kd==ka)&&z1n ks (z06 kd)) (c false [] [])
   | .map id=>match z0j h id with
    | .map es=>A.need β (p.mOk es ks ka kd (E.CM t).1 (E.CM t).2) (A.ask β (p.mhas es ks ka kd) (c true [.int .i64 (p.ofNat (p.mpos es ks ka kd)),mkV (E.CM t).1 (x9v p es ks ka kd 0 (E.CM t).2)] []) (c false [] []))
    |_=>A.no β 11
   |_=>A.no β 12
  |_,_=>A.no β 13
 |none=>A.no β 14
def w39 (A:Alg) (β:Type) (p:Prim) (ck:List CK) (es:List (List D)) (i:Nat) (c:List D→A.Ω β):Nat→Nat→A.Ω β
 |0,_=>c []
 |n+1,j=>match mkR p es (bif Nat.beq j 0 then i else p.add i j) 0 ck with
  |[x]=>A.need β (p.rowOk es (bif Nat.beq j 0 then i else p.add i j) ck) (w39 A β p ck es i (fun r=>c (x::r)) n (j+1))
  |_=>A.no β 19
def w8x (A:Alg) (β:Type) (p:Prim) (dt:Bool) (ck:List CK) (w:w2c) (c:Bool→List D→List AV→A.Ω β):A.Ω β:=
 match w with
 | .none=>c false (bif dt then [.nilp] else []) []
 | .d es i=>match y82 ck with
  |false=>A.need β (p.rowOk es i ck) (c false (mkR p es i 0 ck) [])
  |true=>match z2k es i with
   |some r=>c false r []
   |none=>A.no β 15
 | .n es i n=>match y82 ck with
  |false=>w39 A β p ck es i (fun r=>c false r []) n 0
  |true=>A.no β 20
 | .a es i=>match z2k es i with
  |some r=>c false [] r
  |none=>A.no β 16
 | .b x=>A.ask β x (c true (bif dt then [.nilp] else []) []) (c false [] [])
 | .m _=>A.no β 17
def w8y (A:Alg) (β:Type) (p:Prim) (dt:Bool) (E:Env) (K:List (List CK)) (env:List (Nat×AV)) (h:List AO) (op:Op) (c:Bool→List D→List AV→A.Ω β):A.Ω β:=
 match op with
 | .lookup t m k _=>x7q A β p E t h (z0x env m) (z0x env k) c
 | .mapUpdate t m k _=>x7q A β p E t h (z0x env m) (z0x env k) c
 | .call ⟨.builtin .delete,args,ts⟩=>match ts.toList,z1x env args.toList with
  |t::_,[m,k]=>x7q A β p E t h m k c
  |_,_=>A.no β 18
 |op=>w8x A β p dt (w75 E K env op) (z2e p E.T env h op) c
end Go.Am
end
section
namespace Go.Am
mutual
def y2l:AV→Bool
 | .bot=>true
 | .d x=>z8l x
 | .agg l=>w0j l
 | .tuple l=>w0j l
 |_=>false
def w0j:List AV→Bool
 |[]=>true
 |x::l=>y2l x&&w0j l
end
theorem y44:∀ {l:List D},y8r l=true→∀ (i:Nat) (d:D),l[i]?=some d→z8l d=true
 |[],_,i,d,h=>by simp at h
 |x::l,h,i,d,hi=>by
  simp only [y8r,Bool.and_eq_true] at h
  cases i with
  |zero=>simp at hi; subst hi; exact h.1
  |succ i=>exact y44 h.2 i d (by simpa using hi)
theorem y5j:∀ {l:List AV},w0j l=true→∀ (i:Nat) (d:AV),l[i]?=some d→y2l d=true
 |[],_,i,d,h=>by simp at h
 |x::l,h,i,d,hi=>by
  simp only [w0j,Bool.and_eq_true] at h
  cases i with
  |zero=>simp at hi; subst hi; exact h.1
  |succ i=>exact y5j h.2 i d (by simpa using hi)
theorem z7i {O O':Nat→Prop} {w w':World} {x:D} {v:Value} (h:z12 O w x v):z8l x=true→z12 O' w' x v:=by
 induction h with
 |bool b=>intro _; exact .bool b
 |int k n=>intro _; exact .int k n
 |str s=>intro _; exact .str s
 |nilp=>intro _; exact .nilp
 |nilm=>intro _; exact .nilm
 |nilf=>intro _; exact .nilf
 |nili=>intro _; exact .nili
 |agg ds vs hl h ih=>
  intro hf
  exact .agg ds vs hl fun i d hd=>ih i d hd (y44 (by simpa only [z8l] using hf) i d hd)
 |lnil f z a c h=>intro _; exact .lnil f z a c h
 |list full es b o z c hz hne hO hlc hf hsz cell h1 hc h ih=>
  intro hfl
  simp only [z8l,List.isEmpty_iff] at hfl
  exact absurd hfl hne
 |ref=>intro hf; simp [z8l] at hf
theorem w0l {ρ ρ':Rho} {O O':Nat→Prop} {w w':World} {x:AV} {v:Value} (h:z0t ρ O w x v):y2l x=true→z0t ρ' O' w' x v:=by
 induction h with
 |bot v=>intro _; exact .bot v
 |d h=>intro hf; exact .d (z7i h (by simpa only [y2l] using hf))
 |agg xs vs hl h ih=>intro hf; exact .agg xs vs hl fun i x hx=>ih i x hx (y5j (by simpa only [y2l] using hf) i x hx)
 |tuple xs vs hl h ih=>intro hf; exact .tuple xs vs hl fun i x hx=>ih i x hx (y5j (by simpa only [y2l] using hf) i x hx)
 |_=>intro hf; simp [y2l] at hf
def x5g (l:List AV):AV:=
 match x2s l with
 |some ds=> .d (.agg ds)
 |none=> .agg l
mutual
def bV (p:Prim) (h:List AO):AV→Bool×AV
 | .bot=>(true, .bot)
 | .d x=>(true, .d x)
 | .slice id z off len cap=>match z0j h id with
  | .row es=>(p.leN (p.add off len) (p.len es), .d (.list false z (p.cut es off len)))
  |_=>(true, .bot)
 | .bptr id off=>match z0j h id with
  | .box cells=>match x2s cells with
   |some ds=>(true, .lptr ds off)
   |none=>(true, .bot)
  | .row es=>(true, .wptr es off)
  |_=>(true, .bot)
 | .clo fn fs cs=>(p.and (bL p h fs).1 (bL p h cs).1, .clo fn (bL p h fs).2 (bL p h cs).2)
 | .agg l=>((bL p h l).1,x5g (bL p h l).2)
 | .tuple l=>((bL p h l).1, .tuple (bL p h l).2)
 |_=>(true, .bot)
def bL (p:Prim) (h:List AO):List AV→Bool×List AV
 |[]=>(true,[])
 |x::l=>(p.and (bV p h x).1 (bL p h l).1,(bV p h x).2::(bL p h l).2)
end
theorem y70 (p:Prim) (h:List AO):∀ l,(bL p h l).2.length=l.length
 |[]=>by simp [bL]
 |x::l=>by simp [bL,y70 p h l]
theorem y71 (h:List AO):∀ (l:List AV),(bL std h l).1=true→∀ (i:Nat) (y:AV),(bL std h l).2[i]?=some y→∃ x,l[i]?=some x∧y=(bV std h x).2∧(bV std h x).1=true
 |[],_,i,y,hy=>by simp [bL] at hy
 |x::l,hc,i,y,hy=>by
  simp only [bL,std,Bool.and_eq_true] at hc
  cases i with
  |zero=>simp [bL] at hy; exact ⟨x,rfl,hy.symm,hc.1⟩
  |succ i=>
   obtain ⟨x',h1,h2⟩:=y71 h l hc.2 i y (by simpa [bL] using hy)
   exact ⟨x',by simpa using h1,h2⟩
mutual
theorem w46 (p:Prim) {h h':List AO}:(x:AV)→(∀ id∈tid x,z0j h id=z0j h' id)→bV p h x=bV p h' x
 | .bot,_=>rfl
 | .d _,_=>rfl
 | .slice id z off len cap,hh=>by simp only [bV,hh id (by simp [tid])]
 | .clo fn fs cs,hh=>by
  simp only [bV,z9x p fs (fun id hid=>hh id (by simp [tid,hid])),z9x p cs (fun id hid=>hh id (by simp [tid,hid]))]
 | .agg l,hh=>by simp only [bV,z9x p l (fun id hid=>hh id (by simpa [tid] using hid))]
 | .tuple l,hh=>by simp only [bV,z9x p l (fun id hid=>hh id (by simpa [tid] using hid))]
 | .bptr id off,hh=>by simp only [bV,hh id (by simp [tid])]
 | .ptr _ _ _,_=>rfl
 | .lptr _ _,_=>rfl
 | .wptr _ _,_=>rfl
 | .map _,_=>rfl
 | .yld _,_=>rfl
 | .iface _ _,_=>rfl
theorem z9x (p:Prim) {h h':List AO}:(l:List AV)→(∀ id∈x2x l,z0j h id=z0j h' id)→bL p h l=bL p h' l
 |[],_=>rfl
 |x::l,hh=>by
  simp only [bL,w46 p x (fun id hid=>hh id (by simp [x2x,hid])),z9x p l (fun id hid=>hh id (by simp [x2x,hid]))]
end
section
variable {P:Program} {ρ:Rho} {h:List AO} {w:World}
theorem y67 {O:Nat→Prop} (xs:List AV) (vs:Array Value) (hl:vs.size=xs.length) (hh:∀ (i:Nat) (x:AV),xs[i]?=some x→z0t ρ O w x (vs.getD i undef)):z0t ρ O w (x5g xs) (.agg vs):=by
 unfold x5g
 split
 ·rename_i ds hds
  have e:=z2m hds
  refine .d (.agg _ _ (by rw [hl,e,z08]) fun i d hd=>?_)
  have:=hh i (.d d) (by rw [e,z1y,hd]; rfl)
  cases this; assumption
 ·exact .agg _ _ hl hh
theorem z5w {b:Nat}:z0i (ρ.only fun _=>false) [] b↔ρ.fr b:=by
 constructor
 ·rintro (hb|⟨id,L,hL,_⟩)
  ·exact hb
  ·obtain ⟨a,_⟩:=z15.1 hL; cases a
 ·exact fun hb=> .inl hb
theorem v5k (hr:z0c P ρ h w) {x:AV} {v:Value} (hv:z0t ρ (z0i ρ h) w x v):(bV std h x).1=true→z0t (ρ.only fun _=>false) (z0i (ρ.only fun _=>false) []) w (bV std h x).2 v:=by
 have hk:z5n (z0i ρ h) (z0i (ρ.only fun _=>false) []) w w:=⟨Nat.le_refl _,fun _ _ _=>rfl,fun b _ hb=> .inl (z5w.1 hb),fun _ _ h=>h,z00.refl _⟩
 have hk2:z5n (z0i (ρ.only fun _=>false) (z6x h (fun _=>false) 0 h)) (z0i (ρ.only fun _=>false) []) w w:=⟨Nat.le_refl _,fun _ _ _=>rfl,fun b _ hb=> .inl (z5w.1 hb),fun _ _ h=>h,z00.refl _⟩
 have sl:∀ {id z off len:Nat} {cap:Option Nat} {v:Value},z0t ρ (z0i ρ h) w (.slice id z off len cap) v→(bV std h (.slice id z off len cap)).1=true→z0t (ρ.only fun _=>false) (z0i (ρ.only fun _=>false) []) w (bV std h (.slice id z off len cap)).2 v:=by
  intro id z off len cap v hv hc
  have:=z9g (kp:=fun _=>false) hr hv
  simp only [z4o,cond_false] at this
  simp only [bV] at hc⊢
  split
  ·rename_i es hes
   rw [hes] at hc this
   simp only at hc
   simp only [frz] at this
   have hle:Nat.ble (off+len) es.length=true:=hc
   rw [hle] at this
   simp only [cond_true] at this
   refine .d ?_
   cases this with|d hd=>
   have hd:=hd.keep hk2
   show z12 _ w (.list false z (x6a es off len)) v
   generalize x6a es off len=l at hd
   cases hd with
   |lnil _ _ a c h=>exact .lnil _ _ _ _ (by simp)
   |list _ _ b o _ c hz hne hO hlc hf hsz cell h1 hc h=>exact .list false _ b o _ c hz hne hO hlc (by simp) hsz cell h1 hc h
  ·exact .bot _
 induction hv with
 |bot v=>intro _; exact .bot v
 |d h=>intro _; exact .d (h.keep hk)
 |bptr id off L hL=>
  intro _
  simp only [bV]
  split
  ·rename_i cells hcells
   split
   ·rename_i ds hds
    obtain ⟨hblk,hob⟩:=hr.obj id L hL
    rw [hcells] at hob
    obtain ⟨c,t,hcb,hj⟩:=hob
    have e:=z2m hds
    have hget:∀ k x,ds[k]?=some x→∃ u,c[L.base+k]?=some u∧z12 (z0i ρ h) w x u:=fun k x hx=>by
     obtain ⟨u,hu,hr⟩:=hj k (.d x) (by rw [e,z1y,hx]; rfl)
     cases hr with|d hr=>exact ⟨u,hu,hr⟩
    refine .lptr ds off L.blk L.base hblk (fun hb=>hr.sep id L hL (by rw [hcells]; rfl) (z5w.1 hb)) (fun k=>(c[L.base+k]?).getD undef) (fun k hk=>?_) (fun k x hx=>?_)
    ·obtain ⟨u,hu,_⟩:=hget k _ (List.getElem?_eq_getElem hk)
     rw [hu]; exact y5s hcb hu
    ·obtain ⟨u,hu,h2⟩:=hget k x hx
     rw [hu]; exact h2.keep hk
   ·exact .bot _
  ·rename_i es hes
   obtain ⟨hblk,hob⟩:=hr.obj id L hL
   rw [hes] at hob
   obtain ⟨_,c,t,hcb,hlen,hj⟩:=hob
   refine .wptr es off L.blk L.base L.esz hblk (fun hb=>hr.sep id L hL (by rw [hes]; rfl) (z5w.1 hb)) hlen fun i r j x hi hx=>?_
   obtain ⟨v,hv,_,hrel⟩:=hj i r j x hi hx
   exact ⟨v,y5s hcb hv,hrel.keep hk⟩
  ·exact .bot _
 |slice id z off len cap L a c hL hz ha hc hl=>exact sl (.slice id z off len cap L a c hL hz ha hc hl)
 |nils id z off cap a hc=>exact sl (.nils id z off cap a hc)
 |clo fn fs cs vf vc hl1 hl2 h1 h2 ih1 ih2=>
  intro hc
  simp only [bV,std,Bool.and_eq_true] at hc
  simp only [bV]
  refine .clo fn _ _ vf vc (by rw [y70]; exact hl1) (by rw [y70]; exact hl2) (fun i y hy=>?_) (fun i y hy=>?_)
  ·obtain ⟨x,hx,rfl,hb⟩:=y71 h fs hc.1 i y hy
   exact ih1 i x hx hb
  ·obtain ⟨x,hx,rfl,hb⟩:=y71 h cs hc.2 i y hy
   exact ih2 i x hx hb
 |agg xs vs hl hh ih=>
  intro hc
  simp only [bV] at hc⊢
  refine y67 _ vs (by rw [y70]; exact hl) (fun i y hy=>?_)
  obtain ⟨x,hx,rfl,hb⟩:=y71 h xs hc i y hy
  exact ih i x hx hb
 |tuple xs vs hl hh ih=>
  intro hc
  simp only [bV] at hc⊢
  refine .tuple _ vs (by rw [y70]; exact hl) (fun i y hy=>?_)
  obtain ⟨x,hx,rfl,hb⟩:=y71 h xs hc i y hy
  exact ih i x hx hb
 |_=>intro _; exact .bot _
theorem v5h {f : FuncId} {args : List AV} {r : AV} {hp : List AO} (hb : v0g P f (bL std hp args).2 r) (hc : (bL std hp args).1 = true) (hf : y2l r = true) : z90 P f args hp r hp := ⟨by
  intro ρ vs w cs hh hdm har
  let ρc : Rho := ρ.only fun _ => false
  have hno : ∀ id L, ρc id = some L → False := fun id L hL => by obtain ⟨a, _⟩ := z15.1 hL; cases a
  have hc0 : z0c P ρc [] w := ⟨fun id L hL => (hno id L hL).elim, fun id id' L L' hL => (hno id L hL).elim, fun b hb => hh.fr b hb, fun id L hL => (hno id L hL).elim⟩
  obtain ⟨ρ', v, w', fr, hst, hfn, hlv, hv, hh', hdm', hx⟩ := hb.run ρc vs w cs hc0 (fun id hid => by
    cases hq : ρc id with
    | none => exact absurd hq hid
    | some L => exact (hno id L hq).elim) ⟨by rw [y70]; exact har.1, fun i y hi => by
      obtain ⟨x, hx, rfl, hb⟩ := y71 hp args hc i y hi
      exact v5k hh (har.2 i x hx) hb⟩
  have hold : ∀ b, b < w.heap.size → w'.heap[b]? = w.heap[b]? := by
    intro b hb
    by_cases ho : ρ.fr b
    · exact hx.frs b ho
    · exact hx.keep.frame b hb (fun h => ho (z5w.1 h))
  have hk : z5n (z0i ρ hp) (z0i ρ hp) w w' :=
    { size := hx.keep.size
      frame := fun b hb _ => hold b hb
      own := fun b _ h => h
      shape := hx.keep.shape
      drawn := hx.keep.drawn }
  refine ⟨ρ, v, w', fr, hst, hfn, hlv, w0l hv hf, hh.of_keep hk (fun b hb => hold b (z95 hh hb)), hdm, ?_⟩
  exact { os := hx.os, tape := hx.tape, output := hx.output, keep := hk, rho := fun _ _ => rfl, fr := rfl, frs := fun b hf => hold b (hh.fr b hf) }⟩
end
theorem x5v {x:AV} (h:y93 x):tid x=[]:=by
 have key:∀ l:List AV,(∀ (i:Nat) (x:AV),l[i]?=some x→tid x=[])→x2x l=[]:=by
  intro l
  induction l with
  |nil=>intro _; rfl
  |cons x l ih=>intro h; simp only [x2x,h 0 x rfl,ih (fun i x hx=>h (i+1) x (by simpa using hx)),List.append_nil]
 induction h with
 |bot=>rfl
 |d x=>rfl
 |tuple xs hx ih=>simp only [tid]; exact key _ ih
 |agg xs hx ih=>simp only [tid]; exact key _ ih
 |clo fn fs cs h1 h2 ih1 ih2=>simp only [tid,key _ ih1,key _ ih2,List.append_nil]
end Go.Am
end
