/- Texts of this claim. -/
import Derived.Test.YtejcgpekgbiooaaGreatDoorT1
import Derived.RangeFuncLeaves
import Derived.Orders
set_option linter.unusedVariables false
set_option linter.unusedSimpArgs false
set_option linter.unusedSectionVars false
set_option maxRecDepth 100000
set_option maxHeartbeats 0
open Nat renaming le_of_ble_eq_true → eAh,eq_of_beq_eq_true → eAd,mul_le_mul_right → eAv,add_mul → eAr,add_zero → eBa,mod_lt → eFc,mod_eq_of_lt → eDh,div_lt_iff_lt_mul → eDt,mul_comm → eDo,beq_refl → eFd,zero_le → eAo,ble_eq_true_of_le → eBj,zero_add → eAq,le_trans → eBk,le_refl → eAj,lt_of_lt_of_le → eAp,add_assoc → eBv,sub_zero → eFk
open List renaming getElem?_eq_getElem → eAb,getElem?_map → eAf,getElem?_replicate → eCe,getElem?_eq_some_iff → eAa,take_zero → eFi,getElem?_take_of_lt → eDv,getElem?_drop → eCg,mem_cons_self → eAu,mem_cons_of_mem → eBc,mem_append_left → eCw,getElem?_toArray → eCa,getElem?_cons_zero → eCt,getElem?_cons_succ → eDf,length_pos_iff → eFm,ext_getElem? → eBt,mem_cons → eAm,getElem?_append → eBf,nodup_cons → eCx,append_assoc → eCr,length_append → eCv,length_cons → eBn,length_nil → eDn,mem_singleton → eBh,mem_flatten → eDr,mem_map → eBe,mem_append → eCb,mem_filter → eAz,getElem_mem → eCk,all_eq_true → eAx,mem_range → eBs,getElem?_of_mem → eDp,mem_of_getElem? → eAi,getElem?_append_left → eCl,length_map → eAy,length_take → eBo,foldl_cons → eCj,append_nil → eCp,cons_append → eDg,pairwise_iff_getElem → eCm,getElem?_set → eBu
open Array renaming getElem?_eq_some_iff → eAe,getElem?_toList → eAl,getD_eq_getD_getElem? → eAk,getElem?_eq_getElem → eAs,length_toList → eBw,getElem?_setIfInBounds → eDc,getElem?_modify → eDb
open Bool renaming and_eq_true → eAc,false_eq_true → eAg,not_false → eDd,or_eq_true → eAt,not_eq_true' → eDa
open Option renaming getD_some → eBb,map_some → eAw
open Int renaming toNat_natCast → eCz
section
namespace Go.Am
section
variable {P:Program} {ρ:Rho} {h:List AO} {w:World}
theorem z4m {id:Nat} {o:AO} (b:z0f h id=o) (j:Nat):z0f (z03 h id o) j=z0f h j:=by
 by_cases a:id=j
 ·subst a; rw [z0h,b]
 ·exact z0c _ _ _ _ a
theorem y2o {id:Nat} {o:AO} (a:z0f h id=o):z0d ρ (z03 h id o)=z0d ρ h:=by
 funext b; unfold z0d; simp only [z4m a]
theorem z0b.ext0 (hr:z0b P ρ h w) {id:Nat} {o:AO} (a:z0f h id=o):z0b P ρ (z03 h id o) w:=by
 refine ⟨fun j L c=>?_,fun i f L m l k e d=>hr.inj i f L m l k (by rw [←z4m a]; exact e) (by rw [←z4m a]; exact d),hr.fr,fun i L c g=>hr.sep i L c (by rw [←z4m a]; exact g),hr.gl.sub fun b n=>by rwa [←y2o a]⟩
 have:=hr.obj j L c
 rw [y2o a,z4m a]
 exact this
theorem ext0 {S:Nat→Prop} {id:Nat} {o:AO} (a:z0f h id=o):Ext S ρ h w ρ (z03 h id o) w:=
 ⟨rfl,rfl,rfl,by rw [y2o a]; exact z43.refl _ _,fun _ _=>rfl,rfl,fun _ _=>rfl⟩
theorem y5r (es xs:List (List D)) (i:Nat):z5m (es.take i++xs++es.drop (i+xs.length))=z48 (z5m es) i (z5m xs):=by
 simp [z48,z4q,List.map_take,List.map_drop]
theorem x6c {T:TypeId} {ti:TI} (ht:z7c P T ti) (hr:z0b P ρ h w) {new:Nat} {d s:AV} {vd vs:Value} (hd:z0n ρ (z0d ρ h) w d vd) (hs:z0n ρ (z0d ρ h) w s vs) {ts:Array TypeId} {ty:TypeId} (H:ts[0]?=some T) {res:Res}
  (b:z7f std ti h d s=some res) (Z:res.c=true):z0o P ρ h w new (Builtin.copy_ ts ty #[vd,vs]) res:=by
 obtain ⟨dd,J,hda,X⟩:=ht.desc
 unfold z7f at b
 split at b
 ·rename_i e z eb ea ez O
  rw [O] at X
  obtain ⟨rfl,I,_⟩:=X
  cases hz:Nat.ble 1 z with
  |false=>rw [hz] at b; cases b
  |true=>
  rw [hz] at b; simp only [cond_true] at b
  have E:0<z:=eAh hz
  split at b
  ·rename_i c C id z' off len cap x
   cases hb:Nat.beq z z' with
   |false=>rw [hb] at b; cases b
   |true=>
   rw [hb] at b; simp only [cond_true] at b
   have hzz:=eAd hb
   subst hzz
   split at b
   ·rename_i es p
    cases b
    simp only at Z
    obtain ⟨h1,Z⟩:=and_true Z
    obtain ⟨h2,h3⟩:=and_true Z
    obtain ⟨S,m,g,l,rfl,hm,hmc,q,F,G⟩:=y0k (P:=P) hr E hs x h1
    rw [←hm] at h2⊢
    have h2:m≤len:=z2v h2
    have h3:off+len≤es.length:=z2v h3
    have Y:l.length=m*z:=by rw [F.1,q]
    cases hd with
    |nils _ _ _ _ a hcc=>
     have:m=0:=by omega
     subst this
     have A:l=[]:=by simpa using Y
     subst A
     have M:C=[]:=by
      have:C.length=0:=by rw [←z0s]; exact q
      simpa using this
     subst M
     have f:(Builtin.copy_ ts ty #[.slice a 0 0, .slice S 0 g]).run P w= .ok (.int .i64 0) w:=by
      have:=G w rfl
      cases a<;>simp [Builtin.copy_,H,z0g J,Builtin.lenOf,z1f I,this,storeCells,goInt]
     have n:(std.splice es off [])=es:=by simp [std]
     rw [n]
     refine ⟨_,w,ρ,f, .d (.int _ _),?_,?_, .inl rfl⟩
     ·exact hr.ext0 p
     ·exact ext0 p
    |slice _ _ _ _ _ L a cp hL K haa hcc hle=>
     obtain ⟨_,V⟩:=hr.obj id L hL
     have hE:(z0f h id).rows=some (z5m es):=by rw [p]; rfl
     obtain ⟨_,R,t,B,hl,hj⟩:=V.rows hE
     rw [K] at hl hj
     have o:(z0f h id).live=true:=by rw [p]; rfl
     by_cases hm0:m=0
     ·subst hm0
      have A:l=[]:=by simpa using Y
      subst A
      have M:C=[]:=by
       have:C.length=0:=by rw [←z0s]; exact q
       simpa using this
      subst M
      have f:(Builtin.copy_ ts ty #[.slice a len cp, .slice S 0 g]).run P w= .ok (.int .i64 0) w:=by
       have:=G w rfl
       cases a<;>simp [Builtin.copy_,H,z0g J,Builtin.lenOf,z1f I,this,storeCells,goInt]
      have n:(std.splice es off [])=es:=by simp [std]
      rw [n]
      exact ⟨_,w,ρ,f, .d (.int _ _),hr.ext0 p,ext0 p, .inl rfl⟩
     ·have hElast:L.base+es.length*z≤R.size:=by
       have W:es.length - 1<(z5m es).length:=by rw [z0s]; omega
       have hrl:=hl _ _ (eAb W)
       have hy:z - 1<((z5m es)[es.length - 1]).length:=by omega
       obtain ⟨v,hv,_,_⟩:=hj _ _ _ _ (eAb W) (eAb hy)
       have:=(eAe.1 hv).1
       have e:es.length*z=(es.length - 1)*z+z:=by
        rw [←Nat.succ_mul]; congr 1; omega
       omega
      have hmul2:(off+m)*z≤es.length*z:=eAv _ (by omega)
      have hmul3:(off+m)*z=off*z+m*z:=eAr _ _ _
      rw [haa (by omega),K]
      have f:(Builtin.copy_ ts ty #[.slice (some ⟨L.blk,L.base+off*z,none⟩) len cp, .slice S m g]).run P w= .ok (.int .i64 m) (World.setObj w L.blk (.cells (R.toList.take (L.base+off*z)++l++R.toList.drop (L.base+off*z+l.length)).toArray t (0,0))):=by
       have b:=run_storeCells_at (P:=P) L.blk (L.base+off*z) t l 0 R w B (by simp; omega) (y00 E F)
       rw [z7t B] at b
       simp only [eBa] at b
       have u:Nat.min m len=m:=Nat.min_eq_left h2
       simp [Builtin.copy_,H,z0g J,Builtin.lenOf,z1f I,u,G w rfl,b,goInt]
      have Q:∀ k,z1a w L.blk=some k→z1a (World.setObj w L.blk (.cells (R.toList.take (L.base+off*z)++l++R.toList.drop (L.base+off*z+l.length)).toArray t (0,0))) L.blk=some k:=by
       intro k X
       rw [z0y B] at X; cases X
       rw [z0y (z0t _ _ _ (eAe.1 B).1)]
       congr 1
       simp; omega
      have hkp:=z12 hr hL o (.row (std.splice es off C)) rfl _ Q
      have U:(z5m C).length=m:=q
      obtain ⟨r1,r2⟩:=y1x (w:=w) E (base:=L.base) (c:=R) (i:=off) hl hj F (by show off+(z5m C).length≤(z5m es).length; rw [z0s,z0s]; rw [z0s] at U; omega) (by omega)
      have N:(AO.row (std.splice es off C)).rows=some (z48 (z5m es) off (z5m C)):=by
       show some (z5m _)=_; rw [←y5r]; rfl
      refine ⟨_,_,ρ,f, .d (.int _ _),hr.set hL o _ rfl _ Q ?_,Ext.set _ hr hL o _ rfl _ Q, .inl rfl⟩
      refine z1c.of_rows N (by omega) _ t (z0t _ _ _ (eAe.1 B).1) (by rw [K]; exact r1) (fun i r j y hi hy=>?_)
      rw [K]
      obtain ⟨v,hv,hv1,hvr⟩:=r2 i r j y hi hy
      exact ⟨v,hv,hv1,hvr.keep hkp (fun _ _ h=>h)⟩
   ·cases b
  ·rename_i c C full z' x
   cases b
   obtain ⟨S,m,g,l,rfl,hm,hmc,q,F,G⟩:=y0k (P:=P) hr E hs x Z
   cases hd with|d hd=>
   cases hd with
   |lnil _ _ a cap hcap=>
    have hf:∃ c0:Array Value,(Builtin.firstCells z 0 (.slice S m g)).run P w= .ok #[] w:=by
     cases S<;>exact ⟨#[],by simp [Builtin.firstCells,loadCells,loadCellsFrom]⟩
    obtain ⟨_,hf⟩:=hf
    have f:(Builtin.copy_ ts ty #[.slice a 0 cap, .slice S m g]).run P w= .ok (.int .i64 0) w:=by
     have u:Nat.min m 0=0:=Nat.min_zero m
     cases a<;>simp [Builtin.copy_,H,z0g J,Builtin.lenOf,z1f I,u,hf,storeCells,goInt]
    exact z0o.pure hr f (.d (.int _ _))
   |list _ _ _ _ _ _ _ hne=>exact absurd rfl hne
  ·cases b
 ·cases b
theorem x23 {T:TypeId} {ti:TI} (ht:z7c P T ti) (hr:z0b P ρ h w) {new:Nat} {d:AV} {vd:Value} (hd:z0n ρ (z0d ρ h) w d vd) {ts:Array TypeId} {ty:TypeId} (E:ts[0]?=some T) {res:Res}
  (b:z56 std ti h d=some res) (hc:res.c=true):z0o P ρ h w new (Builtin.clear_ ts ty #[vd]) res:=by
 have unit:∀ ρ O w,z0n ρ O w (.tuple []) (.tuple #[]):=fun _ _ _=> .tuple [] #[] rfl (fun i x hx=>by simp at hx)
 obtain ⟨dd,G,hda,Q⟩:=ht.desc
 unfold z56 at b
 split at b
 ·rename_i e z eb ea ez R
  rw [R] at Q
  obtain ⟨rfl,hsz,heb,_,q,s⟩:=Q
  cases W:(Nat.ble 1 z&&z7n (toA ez)) with
  |false=>rw [W] at b; cases b
  |true=>
  rw [W] at b; simp only [cond_true] at b
  simp only [eAc] at W
  have K:0<z:=eAh W.1
  have hb3:=W.2
  obtain ⟨i,o,n,hzv,hzl⟩:∃ i o,P.info? e=some i∧i.zero=some o∧y22 o.cells.toList=some ez:=by
   unfold y5l at q
   cases n:P.info? e with
   |none=>simp [n] at q
   |some i=>
    rw [n] at q
    simp at q
    cases J:i.zero with
    |none=>simp [J] at q
    |some o=>exact ⟨i,o,rfl,J,by simpa [J] using q⟩
  obtain ⟨hzs,hzr⟩:=z8u hzl
  have g:o.cells.size=z:=by rw [←s,hzs]; simp
  split at b
  ·rename_i id z' off len cap
   cases hb:Nat.beq z z' with
   |false=>rw [hb] at b; cases b
   |true=>
   rw [hb] at b; simp only [cond_true] at b
   have hzz:=eAd hb
   subst hzz
   split at b
   ·rename_i es p
    cases b
    simp only at hc
    have h3:off+len≤es.length:=z2v hc
    have m:(z0f h id).live=true:=by rw [p]; rfl
    cases hd with
    |nils _ _ _ _ a hcc=>
     have f:(Builtin.clear_ ts ty #[.slice a 0 0]).run P w= .ok (.tuple #[]) w:=by
      cases a<;>simp [Builtin.clear_,E,z0g G]
     have l:(std.splice es off (std.rep 0 ez))=es:=by simp [std]
     rw [l]
     exact ⟨_,w,ρ,f,unit _ _ _,hr.ext0 p,ext0 p, .inl rfl⟩
    |slice _ _ _ _ _ L a cp hL H haa hcc hle=>
     obtain ⟨_,Z⟩:=hr.obj id L hL
     have hE:(z0f h id).rows=some (z5m es):=by rw [p]; rfl
     obtain ⟨_,V,t,A,hl,hj⟩:=Z.rows hE
     rw [H] at hl hj
     by_cases hm0:len=0
     ·subst hm0
      have f:(Builtin.clear_ ts ty #[.slice a 0 cp]).run P w= .ok (.tuple #[]) w:=by
       cases a<;>simp [Builtin.clear_,E,z0g G]
      have l:(std.splice es off (std.rep 0 ez))=es:=by simp [std]
      rw [l]
      exact ⟨_,w,ρ,f,unit _ _ _,hr.ext0 p,ext0 p, .inl rfl⟩
     ·have hElast:L.base+es.length*z≤V.size:=by
       have F:es.length - 1<(z5m es).length:=by rw [z0s]; omega
       have hrl:=hl _ _ (eAb F)
       have C:z - 1<((z5m es)[es.length - 1]).length:=by omega
       obtain ⟨v,Y,_,_⟩:=hj _ _ _ _ (eAb F) (eAb C)
       have:=(eAe.1 Y).1
       have e:es.length*z=(es.length - 1)*z+z:=by
        rw [←Nat.succ_mul]; congr 1; omega
       omega
      have hmul2:(off+len)*z≤es.length*z:=eAv _ (by omega)
      have hmul3:(off+len)*z=off*z+len*z:=eAr _ _ _
      rw [haa (by omega),H]
      have S:∀ k,k<len*z→(Builtin.zeroCells o.cells len)[k]?=o.cells[k % z]?:=by
       intro k Q
       have:k % z<o.cells.size:=by rw [g]; exact eFc _ K
       unfold Builtin.zeroCells
       rw [g]
       simp [Q,getElem!_pos o.cells (k % z) this]
      have hcx:(Builtin.zeroCells o.cells len).toList.length=len*z:=by simp [Builtin.zeroCells,g]
      have X:(z5m (std.rep len ez)).length=len:=by rw [z0s]; simp [std]
      have M:z29 ρ (z0d ρ h) w z (z5m (std.rep len ez)) (Builtin.zeroCells o.cells len).toList:=by
       refine ⟨by rw [hcx,X],fun i r n=>?_,fun i r j y n C=>?_⟩
       ·rw [z4q,eAf] at n
        simp [std,eCe] at n
        rw [←n.2,z0z]; exact s
       ·rw [z4q,eAf] at n
        simp [std,eCe] at n
        obtain ⟨hi1,rfl⟩:=n
        rw [z1l] at C
        cases u:ez[j]? with
        |none=>rw [u] at C; cases C
        |some d0=>
        rw [u] at C; cases C
        have hjz:j<z:=by rw [←s]; exact (eAa.1 u).1
        obtain ⟨v,Y,I⟩:=hzr (z0d ρ h) w j d0 u
        have F:i*z+j<len*z:=by
         have:(i+1)*z≤len*z:=eAv _ (by omega)
         rw [eAr] at this; omega
        have hmod:(i*z+j) % z=j:=by rw [Nat.add_comm,Nat.add_mul_mod_self_right]; exact eDh hjz
        refine ⟨v,?_,?_, .d I⟩
        ·rw [eAl,S _ F,hmod]; simpa using Y
        ·have:w74 (.d d0)=true:=z8q hb3 (by rw [z1l,u]; rfl)
         exact y2q (ρ:=ρ) this (.d I)
      generalize hcxs:(Builtin.zeroCells o.cells len).toList=B at hcx M
      have f:(Builtin.clear_ ts ty #[.slice (some ⟨L.blk,L.base+off*z,none⟩) len cp]).run P w= .ok (.tuple #[]) (World.setObj w L.blk (.cells (V.toList.take (L.base+off*z)++B++V.toList.drop (L.base+off*z+B.length)).toArray t (0,0))):=by
       have b:=run_storeCells_at (P:=P) L.blk (L.base+off*z) t B 0 V w A (by simp; omega) (y00 K M)
       rw [z7t A] at b
       simp only [eBa] at b
       simp [Builtin.clear_,E,z0g G,hm0,zeroValue,typeInfo,n,hzv,hcxs,b]
      have U:∀ k,z1a w L.blk=some k→z1a (World.setObj w L.blk (.cells (V.toList.take (L.base+off*z)++B++V.toList.drop (L.base+off*z+B.length)).toArray t (0,0))) L.blk=some k:=by
       intro k Q
       rw [z0y A] at Q; cases Q
       rw [z0y (z0t _ _ _ (eAe.1 A).1)]
       congr 1
       simp; omega
      have hkp:=z12 hr hL m (.row (std.splice es off (std.rep len ez))) rfl _ U
      obtain ⟨r1,r2⟩:=y1x (w:=w) K (base:=L.base) (c:=V) (i:=off) hl hj M (by show off+(z5m (std.rep len ez)).length≤(z5m es).length; rw [X,z0s]; omega) (by omega)
      have N:(AO.row (std.splice es off (std.rep len ez))).rows=some (z48 (z5m es) off (z5m (std.rep len ez))):=by
       show some (z5m _)=_; rw [←y5r]; rfl
      refine ⟨_,_,ρ,f,unit _ _ _,hr.set hL m _ rfl _ U ?_,Ext.set _ hr hL m _ rfl _ U, .inl rfl⟩
      refine z1c.of_rows N (by omega) _ t (z0t _ _ _ (eAe.1 A).1) (by rw [H]; exact r1) (fun i r j y n C=>?_)
      rw [H]
      obtain ⟨v,Y,hv1,hvr⟩:=r2 i r j y n C
      exact ⟨v,Y,hv1,hvr.keep hkp (fun _ _ h=>h)⟩
   ·cases b
  ·rename_i full z'
   cases x6y b
   cases hd with|d hd=>
   cases hd with
   |lnil _ _ a cap hcap=>
    have f:(Builtin.clear_ ts ty #[.slice a 0 cap]).run P w= .ok (.tuple #[]) w:=by
     cases a<;>simp [Builtin.clear_,E,z0g G]
    exact z0o.pure hr f (unit _ _ _)
   |list _ _ _ _ _ _ _ hne=>exact absurd rfl hne
  ·cases b
 ·cases b
end
end Go.Am
end
section
namespace Go.Am
section
variable {P:Program} {ρ:Rho} {h:List AO} {w:World}
theorem v07 {c:Array Value} {t:TypeId} {b k:Nat} {v:Value} (d:w.heap[b]?=some (.cells c t (0,0))) (a:c[k]?=some v):w.cell? ⟨b,k,none⟩=some v:=by
 simp [World.cell?,d,a]
theorem w8f {id z off len:Nat} {cap:Option Nat} {es:List (List D)} {v:Value} (hr:z0b P ρ h w) (hv:z0n ρ (z0d ρ h) w (.slice id z off len cap) v) (x:z0f h id= .row es) (hc:off+len≤es.length):
  z0n ρ (z0d ρ (z03 h id .dead)) w (.d (.list false z (std.cut es off len))) v:=by
 have Z:=Ext.kill (fun _=>True) ρ h w id
 have hk:=Z.keep
 have I:std.cut es off len=(es.drop off).take len:=rfl
 rw [I]
 cases hv with
 |nils _ _ _ _ a hc=>rw [eFi]; exact .d (.lnil _ _ _ _ (by simp))
 |slice _ _ _ _ _ L a c V W ha hcc hl=>
  obtain ⟨Y,C⟩:=hr.obj id L V
  rw [x] at C
  obtain ⟨n,cs,t,T,g,y⟩:=C
  refine .d ?_
  rcases Nat.eq_zero_or_pos len with h0|X
  ·subst h0
   rw [eFi]; exact .lnil _ _ _ _ (by simp)
  have f:((es.drop off).take len).length=len:=by simp; omega
  have b:∀ i r,((es.drop off).take len)[i]?=some r→i<len∧es[off+i]?=some r:=by
   intro i r m
   have p:i<len:=by rw [←f]; exact (eAa.1 m).1
   refine ⟨p,?_⟩
   rw [eDv p,eCg] at m
   exact m
  have s:∀ k,k<len*z→∃ u,cs[L.base+off*z+k]?=some u∧u.oneCell'=true∧∀ d,(∃ r,((es.drop off).take len)[k / z]?=some r∧r[k % z]?=some d)→z1k (z0d ρ (z03 h id .dead)) w d u:=by
   intro k N
   subst W
   have m:k / L.esz<len:=(eDt n).2 N
   have p:k / L.esz<((es.drop off).take len).length:=by rw [f]; exact m
   have he:=(b (k / L.esz) _ (eAb p)).2
   generalize ((es.drop off).take len)[k / L.esz]=r at he
   have K:=g _ r he
   have G:k % L.esz<r.length:=by rw [K]; exact eFc _ n
   obtain ⟨u,o,J,S⟩:=y _ r _ r[k % L.esz] he (eAb G)
   have Q:L.base+(off+k / L.esz)*L.esz+k % L.esz=L.base+off*L.esz+k:=by
    have:=Nat.div_add_mod k L.esz
    rw [eAr,eDo (k / L.esz)]; omega
   rw [Q] at o
   refine ⟨u,o,J,fun d R=>?_⟩
   obtain ⟨r',M,H⟩:=R
   have:=(b _ _ M).2
   rw [he] at this; cases this
   rw [eAb G] at H; cases H
   exact S.keep hk
  have U:a=some ⟨L.blk,L.base+off*L.esz,none⟩:=ha (by omega)
  subst W
  subst U
  have B:¬ z0d ρ (z03 h id .dead) L.blk:=by
   rintro (hf|⟨A,L',h2,q,he⟩)
   ·exact hr.sep id L V (by rw [x]; rfl) hf
   ·have E:id≠A:=by rintro rfl; rw [z0h] at q; cases q
    rw [z0c _ _ _ _ E] at q
    exact E (hr.inj A id L' L h2 V q (by rw [x]; rfl) he).symm
  have key:=z1k.list (O:=z0d ρ (z03 h id .dead)) (w:=w) false ((es.drop off).take len) L.blk (L.base+off*L.esz) L.esz c n
   (by intro e; rw [e] at f; simp at f; omega) B (by rw [f]; exact hl) (by simp) (fun i r m=>g _ r (b i r m).2)
   (fun k=>(cs[L.base+off*L.esz+k]?).getD undef) (fun k l=>?_) (fun k l=>?_) (fun i r j d m G=>?_)
  ·rw [f] at key; exact key
  ·rw [f] at l
   obtain ⟨u,o,J,_⟩:=s k l
   rw [o]; exact J
  ·rw [f] at l
   obtain ⟨u,o,J,_⟩:=s k l
   rw [o]; exact v07 T o
  ·have F:j<L.esz:=by rw [←g _ r (b i r m).2]; exact (eAa.1 G).1
   have hil:=(b i r m).1
   have l:i*L.esz+j<len*L.esz:=by
    have:(i+1)*L.esz≤len*L.esz:=eAv _ (by omega)
    rw [eAr,Nat.one_mul] at this; omega
   obtain ⟨u,o,_,S⟩:=s _ l
   rw [o]
   refine S d ⟨r,?_,?_⟩
   ·rw [show (i*L.esz+j) / L.esz=i by rw [eDo,Nat.mul_add_div n,Nat.div_eq_of_lt F,eBa]]; exact m
   ·rw [show (i*L.esz+j) % L.esz=j by rw [eDo,Nat.mul_add_mod,eDh F]]; exact G
theorem x9t {id:Nat} {o:AO}:∀ (u:List (Nat×AO)) (h:List AO) (a:Option AO),(∀ x,a=some x→z0f h id=x)→x7f u id a=some o→z0f (z07 h u) id=o
 |[],h,a,f,d=>f o d
 |(i,x)::r,h,a,f,d=>by
  simp only [x7f] at d
  simp only [z07]
  refine x9t r (z03 h i x) _ (fun y c=>?_) d
  cases b:Nat.beq i id with
  |true=>
   rw [b] at c
   cases c
   have:=eAd b
   subst this
   exact z0h _ _ _
  |false=>
   rw [b] at c
   have e:i≠id:=by rintro rfl; rw [eFd] at b; cases b
   rw [z0c _ _ _ _ e]
   exact f y c
theorem x4r {id:Nat} {o:AO}:∀ (u:List (Nat×AO)) (a:Option AO),x7f u id a=some o→a=some o∨∃ c,(id,c)∈u
 |[],a,b=> .inl b
 |(i,x)::r,a,b=>by
  simp only [x7f] at b
  rcases x4r r _ b with h|⟨c,h⟩
  ·cases d:Nat.beq i id with
   |true=>
    have:=eAd d
    subst this
    exact .inr ⟨x,eAu ..⟩
   |false=>rw [d] at h; exact .inl h
  ·exact .inr ⟨c,eBc _ h⟩
theorem z9p (x:Nat×AO):∀ (u:List (Nat×AO)) (h:List AO),z07 h (u++[x])=z03 (z07 h u) x.1 x.2
 |[],h=>rfl
 |y::u,h=>z9p x u _
theorem w1g {v:AV} {id z off len:Nat} (h:y56 v=some (id,z,off,len)):∃ cap,v= .slice id z off len cap:=by
 cases v<;>cases h; exact ⟨_,rfl⟩
theorem x3o {o:AO} {es:List (List D)} (h:x3p o=some es):o= .row es:=by
 cases o<;>cases h; rfl
theorem y0h (r:List D) (res:Res):y4k std r res=res∨∃ id z off len cap es a,res.v= .slice id z off len cap∧(∀ h,z0f (z07 h res.u) id= .row es)∧(id,a)∈res.u∧
  y4k std r res=⟨std.and res.c (std.leN (std.add off len) (std.len es)), .d (.list false z (std.cut es off len)),res.u++[(id, .dead)]⟩:=by
 unfold y4k
 cases two r with
 |false=>exact .inl rfl
 |true=>
  simp only [cond_true]
  cases j:y56 res.v with
  |none=>exact .inl rfl
  |some x=>
   obtain ⟨id,z,off,len⟩:=x
   simp only
   cases b:x7f res.u id none with
   |none=>exact .inl rfl
   |some o=>
    simp only
    cases i:x3p o with
    |none=>exact .inl rfl
    |some es=>
     obtain ⟨cap,f⟩:=w1g j
     have g:=x3o i
     subst g
     rcases x4r _ _ b with h|⟨a,hm⟩
     ·cases h
     exact .inr ⟨id,z,off,len,cap,es,a,f,fun h=>x9t _ h none (fun x e=>by cases e) b,hm,rfl⟩
theorem x9q {r:List D} {res:Res} (h:(y4k std r res).c=true):res.c=true:=by
 rcases y0h r res with e|⟨id,z,off,len,cap,es,a,_,_,_,e⟩
 ·rw [e] at h; exact h
 ·rw [e] at h
  have h:(res.c&&std.leN (std.add off len) (std.len es))=true:=h
  rw [eAc] at h; exact h.1
theorem x4q {r:List D} {res:Res} {new:Nat} {s:Sem Value} (hr:z0o P ρ h w new s res) (b:(y4k std r res).c=true):z0o P ρ h w new s (y4k std r res):=by
 rcases y0h r res with e|⟨id,z,off,len,cap,es,p,k,f,hm,e⟩
 ·rw [e]; exact hr
 ·rw [e] at b⊢
  have b:(res.c&&std.leN (std.add off len) (std.len es))=true:=b
  rw [eAc] at b
  have d:off+len≤es.length:=eAh b.2
  obtain ⟨v,a,ρ',n,j,i,m,l⟩:=hr
  rw [k] at j
  have key:=w8f i j (f h) d
  refine ⟨v,a,ρ',n,?_,?_,?_,?_⟩
  ·show z0n ρ' (z0d ρ' (z07 h (res.u++[(id, .dead)]))) a _ v
   rw [z9p]; exact key
  ·show z0b P ρ' (z07 h (res.u++[(id, .dead)])) a
   rw [z9p]; exact i.kill id
  ·show Ext _ ρ h w ρ' (z07 h (res.u++[(id, .dead)])) a
   rw [z9p]; exact m.trans (Ext.kill _ ρ' _ a id)
  ·rcases l with g|⟨o,g⟩
   ·exact .inl g
   ·exact .inr ⟨o,eCw _ g⟩
theorem x3g {v:AV} {id z off len c:Nat} (h:x79 v=some (id,z,off,len,c)):v= .slice id z off len (some c):=by
 cases v with
 |slice id z off len cap=>cases cap<;>cases h; rfl
 |_=>cases h
theorem v66 {e:Els} {a:List (List D)} (h:t0j e=some a):e= .d a:=by
 cases e<;>cases h; rfl
theorem y5u {ti:TI} {s x:AV} {res:Res} (a:y4s std ti h s x=some res):∃ e z f p ez id z0 off len c i cs b es g,ti.desc= .slc e z f p ez∧(Nat.ble 1 z&&Nat.ble f 60000)=true∧s= .slice id z0 off len (some c)∧z2y std z h x=some (i, .d g)∧z2y std z h s=some (cs,b)∧z0f h id= .row es∧
  res=⟨std.and i (std.and cs (std.leN (std.add off c) (std.len es))), .slice id z off (std.add len (z7b std x)) (some c),[(id, .row (std.splice es (std.add off len) g))]⟩:=by
 unfold y4s at a
 cases q:ti.desc with
 |slc e z f p ez=>
  rw [q] at a
  simp only at a
  cases j:(Nat.ble 1 z&&Nat.ble f 60000) with
  |false=>rw [j] at a; cases a
  |true=>
   rw [j] at a
   simp only [cond_true] at a
   cases o:x79 s with
   |none=>rw [o] at a; cases a
   |some y=>
    obtain ⟨id,z0,off,len,c⟩:=y
    rw [o] at a
    simp only at a
    cases n:z2y std z h x with
    |none=>rw [n] at a; cases a
    |some y=>
     obtain ⟨i,r⟩:=y
     rw [n] at a
     simp only at a
     cases m:z2y std z h s with
     |none=>rw [m] at a; cases a
     |some y=>
      obtain ⟨cs,b⟩:=y
      rw [m] at a
      simp only at a
      cases l:x3p (z0f h id) with
      |none=>rw [l] at a; cases a
      |some es=>
       rw [l] at a
       simp only at a
       cases k:t0j r with
       |none=>rw [k] at a; cases a
       |some g=>
        rw [k] at a
        cases a
        have:=v66 k
        subst this
        exact ⟨e,z,f,p,ez,id,z0,off,len,c,i,cs,b,es,g,rfl,j,x3g o,n,m,x3o l,rfl⟩
 |_=>rw [q] at a; cases a
theorem z95 {S i:TypeId} {e:TypeId} (hS:P.underlying S=some (.slice e)) {d2:TypeDesc} (h:P.underlying i=some d2) (d:∀ k,d2≠ .int k) {z:Nat} (f:z91 P e=some z)
  (ty:TypeId) {a a2:Option Addr} {n cap c:Nat} (g:(Builtin.firstCells z 0 (.slice a2 0 c)).run P w= .ok #[] w) (hm:n≤cap):
  (Builtin.append_ #[S,i] ty #[.slice a n cap, .slice a2 0 c]).run P w= .ok (.slice a n cap) w:=by
 have b:(match d2 with| .int _=>true|_=>false)=false:=by
  cases d2<;>first|rfl|exact absurd rfl (d _)
 unfold Builtin.append_
 cases a with
 |none=>
  simp only [eCa,eCt,eDf,Sem.run_bind,z0g hS,Result.andThen_ok,z1f f,z0g h,Sem.run_pure,b,Builtin.lenOf,eAg,if_false,Sem.run_ite,hm,eBa,if_true,
   eDd,g]
 |some a=>
  simp only [eCa,eCt,eDf,Sem.run_bind,z0g hS,Result.andThen_ok,z1f f,z0g h,Sem.run_pure,b,Builtin.lenOf,eAg,if_false,Sem.run_ite,hm,eBa,if_true,
   eDd,g]
  rfl
theorem w8n {S T2:TypeId} {ti t:TI} (Z:z7c P S ti) (y:z7c P T2 t) (j:∃ e z b a zs,t.desc= .slc e z b a zs) (hr:z0b P ρ h w) {new:Nat} (hn:ρ new=none) {q:Bool} {s x:AV} {vs X:Value}
  (Q:z0n ρ (z0d ρ h) w s vs) (Y:z0n ρ (z0d ρ h) w x X) {ty:TypeId} {res:Res} (hq:∀ b,z3n std s x=some b→b=q) (R:q=true) (r:List D) (he:y4s std ti h s x=some res) (H:res.c=true):
  z0o P ρ h w new (Builtin.append_ #[S,T2] ty #[vs,X]) res:=by
 obtain ⟨e,z,eb,ea,ez,id,z0,off,len,c,cx,cs,es0,es,I,g,V,rfl,u,F,f,rfl⟩:=y5u he
 have hc0:=H
 simp only at H
 obtain ⟨h1,H⟩:=and_true H
 obtain ⟨h2,h3⟩:=and_true H
 rcases Nat.eq_zero_or_pos (z7b std x) with h0|B
 ·obtain ⟨d,hd,hda,hk⟩:=Z.desc
  obtain ⟨d2,G,_,C⟩:=y.desc
  obtain ⟨e2,z2,b2,a2,zs2,i⟩:=j
  rw [i] at C
  obtain ⟨rfl,_⟩:=C
  have hint:∀ k,TypeDesc.slice e2≠ .int k:=by intro k; simp
  rw [g] at hk
  obtain ⟨rfl,hz,heb,_,hez,hezl⟩:=hk
  simp only [eAc] at V
  have J:0<z:=eAh V.1
  obtain ⟨ax,m,capx,W,rfl,hm,hmc,v,M,N⟩:=y0k (P:=P) hr J Y u h1
  rw [h0] at hm
  subst hm
  have K:I=[]:=by
   cases I with
   |nil=>rfl
   |cons a b=>simp [Els.toA,z5m] at v
  subst K
  have U:W=[]:=by
   have:=M.1
   rw [v] at this
   simpa using this
  subst U
  have l:std.splice es (std.add off len) []=es:=by
   show es.take (off+len)++[]++es.drop (off+len+([]:List (List D)).length)=es
   simp
  obtain ⟨rfl,E,hE,hoff,hels⟩:=y19 F h2
  have T:∃ a n cap,vs= .slice a n cap∧n≤cap:=by
   cases Q with
   |nils _ _ _ _ a p=>exact ⟨_,_,_,rfl,eAo _⟩
   |slice _ _ _ _ _ L a cap hL hLz haa p o=>exact ⟨_,_,_,rfl,o⟩
  obtain ⟨a,n,cap,rfl,o⟩:=T
  have A:=z95 (P:=P) (w:=w) hd G hint hz ty (a:=a) (N w rfl) o
  refine ⟨_,w,ρ,A,?_,?_,?_, .inl rfl⟩
  ·show z0n ρ (z0d ρ (z03 h id (.row (std.splice es (std.add off len) [])))) w (.slice id z off (len+z7b std x) (some c)) _
   rw [l,y2o f,h0]
   exact Q
  ·show z0b P ρ (z03 h id (.row (std.splice es (std.add off len) []))) w
   rw [l]; exact hr.ext0 f
  ·show Ext _ ρ h w ρ (z03 h id (.row (std.splice es (std.add off len) []))) w
   rw [l]; exact Go.Am.ext0 f
 ·have O:z1z std ti h new q r (.slice id z0 off len (some c)) x=some ⟨std.and cx (std.and cs (std.and (std.leN 1 (z7b std x)) (std.leN (std.add off c) (v9s std (z0f h id))))), .slice id z off (std.add len (z7b std x)) (some c),[(id, .row (std.splice es (std.add off len) I))]⟩:=by
   unfold z1z
   rw [g]
   simp only [V,cond_true,u,F,R,f,x8k]
  have p:(std.and cx (std.and cs (std.and (std.leN 1 (z7b std x)) (std.leN (std.add off c) (v9s std (z0f h id))))))=true:=by
   rw [f,h1,h2]
   show (true&&(true&&(std.leN 1 (z7b std x)&&std.leN (std.add off c) (std.len es))))=true
   rw [h3]
   have:std.leN 1 (z7b std x)=true:=eBj B
   rw [this]; rfl
  have key:=y2k Z y j hr hn Q Y hq (ty:=ty) O p
  exact key
theorem z9q {ti:TI} {new:Nat} {q:Bool} {r:List D} {s x:AV} {res:Res} (b:z2r std ti h new q r s x=some res):
  ∃ a,((q=true∧y4s std ti h s x=some a)∨z1z std ti h new q r s x=some a)∧res=y4k std r a:=by
 unfold z2r at b
 have g:∀ y,(bif zer r&&q then y4s std ti h s x else none)=some y→q=true∧y4s std ti h s x=some y:=by
  intro y c
  cases d:(zer r&&q) with
  |false=>rw [d] at c; cases c
  |true=>
   rw [d] at c
   rw [eAc] at d
   exact ⟨d.2,c⟩
 cases e:(bif zer r&&q then y4s std ti h s x else none) with
 |some a=>
  rw [e] at b
  cases b
  exact ⟨a, .inl (g _ e),rfl⟩
 |none=>
  rw [e] at b
  simp only at b
  cases f:z1z std ti h new q r s x with
  |none=>rw [f] at b; cases b
  |some a=>rw [f] at b; cases b; exact ⟨a, .inr rfl,rfl⟩
theorem y8d {S v:TypeId} {ti f:TI} (o:z7c P S ti) (g:z7c P v f) (d:∃ e z b a zs,f.desc= .slc e z b a zs) (hr:z0b P ρ h w) {new:Nat} (u:ρ new=none) {q:Bool} {s x:AV} {vs l:Value}
  (p:z0n ρ (z0d ρ h) w s vs) (n:z0n ρ (z0d ρ h) w x l) {ty:TypeId} {res:Res} (t:∀ b,z3n std s x=some b→b=q) {r:List D} (he:z2r std ti h new q r s x=some res) (j:res.c=true):
  z0o P ρ h w new (Builtin.append_ #[S,v] ty #[vs,l]) res:=by
 obtain ⟨m,i,rfl⟩:=z9q he
 rcases i with ⟨k,i⟩|i
 ·exact x4q (w8n o g d hr u p n t k r i (x9q j)) j
 ·exact x4q (y2k o g d hr u p n t i (x9q j)) j
theorem y5x {ti:TI} {s x:AV} {res:Res} (a:x6a std ti h s x=some res):∃ e z b i ez id z0 off len c f cs xs es,ti.desc= .slc e z b i ez∧(Nat.ble 1 z&&Nat.ble b 60000)=true∧s= .slice id z0 off len c∧z2y std z h x=some (f,xs)∧z2y std z h s=some (cs,es)∧
  res=⟨std.and f (std.and cs (std.leN (z7b std x) 0)),s,[]⟩:=by
 unfold x6a at a
 split at a
 ·rename_i e z b i ez k
  cases d:(Nat.ble 1 z&&Nat.ble b 60000) with
  |false=>rw [d] at a; cases a
  |true=>
  rw [d] at a
  simp only [cond_true] at a
  split at a
  ·rename_i y g
   split at a
   ·rename_i f xs j
    split at a
    ·rename_i cs es he
     cases a
     cases s<;>simp only [y56] at g<;>try cases g
     exact ⟨_,_,_,_,_,_,_,_,_,_,_,_,_,_,k,d,rfl,j,he,rfl⟩
    ·cases a
   ·cases a
  ·cases a
 ·cases a
theorem w8o {S Q:TypeId} {ti j:TI} (V:z7c P S ti) (B:z7c P Q j) (q:∃ e z b a zs,j.desc= .slc e z b a zs) (hr:z0b P ρ h w) {new:Nat} {s x:AV} {vs H:Value}
  (I:z0n ρ (z0d ρ h) w s vs) (U:z0n ρ (z0d ρ h) w x H) {ty:TypeId} {res:Res} (he:x6a std ti h s x=some res) (r:res.c=true):
  z0o P ρ h w new (Builtin.append_ #[S,Q] ty #[vs,H]) res:=by
 obtain ⟨e,z,eb,ea,ez,id,z0,off,len,c,cx,cs,xs,es,i,N,rfl,u,Y,rfl⟩:=y5x he
 simp only at r
 obtain ⟨h1,r⟩:=and_true r
 obtain ⟨h2,h3⟩:=and_true r
 have h0:z7b std x=0:=Nat.le_zero.1 (z2v h3)
 obtain ⟨d,hd,hda,K⟩:=V.desc
 obtain ⟨d2,p,_,o⟩:=B.desc
 obtain ⟨e2,z2,b2,a2,R,f⟩:=q
 rw [f] at o
 obtain ⟨rfl,_⟩:=o
 have hint:∀ k,TypeDesc.slice e2≠ .int k:=by intro k; simp
 rw [i] at K
 obtain ⟨rfl,T,Z,_,X,M⟩:=K
 simp only [eAc] at N
 have t:0<z:=eAh N.1
 obtain ⟨ax,m,O,G,rfl,hm,W,y,v,A⟩:=y0k (P:=P) hr t U u h1
 rw [h0] at hm
 subst hm
 have E:G=[]:=by
  have J:=v.1
  rw [y] at J
  simpa using J
 subst E
 have C:∃ a n cap,vs= .slice a n cap∧n≤cap:=by
  cases I with
  |nils _ _ _ _ a F=>exact ⟨_,_,_,rfl,eAo _⟩
  |slice _ _ _ _ _ L a cap hL hLz haa F g=>exact ⟨_,_,_,rfl,g⟩
 obtain ⟨a,n,cap,rfl,g⟩:=C
 have l:=z95 (P:=P) (w:=w) hd p hint T ty (a:=a) (A w rfl) g
 exact z0o.pure hr l I
theorem y8c {S o:TypeId} {ti f:TI} (k:z7c P S ti) (g:z7c P o f) (d:∃ e z b a zs,f.desc= .slc e z b a zs) (hr:z0b P ρ h w) {new:Nat} (t:ρ new=none) {q:Bool} {s x:AV} {vs i:Value}
  (l:z0n ρ (z0d ρ h) w s vs) (j:z0n ρ (z0d ρ h) w x i) {ty:TypeId} {res:Res} (p:∀ b,z3n std s x=some b→b=q) {r:List D} (he:z2q std ti h new q r s x=some res) (m:res.c=true):
  z0o P ρ h w new (Builtin.append_ #[S,o] ty #[vs,i]) res:=by
 unfold z2q at he
 cases n:u0g r with
 |true=>rw [n] at he; exact w8o k g d hr l j he m
 |false=>rw [n] at he; exact y8d k g d hr t l j p he m
end
end Go.Am
end
section
namespace Go.Am
section
variable {P:Program} {T:TypeId→Option TI} {G:Nat→Option (List D)} {ρ:Rho} {h:List AO} {w:World}
def z69 (ρ:Rho) (O:Nat→Prop) (w:World) (env:List (Nat×AV)) (tm:Array Value):Prop:=∀ t,z0n ρ O w (z00 env t) (tm.getD t undef)
def opv (tm:Array Value):Operand→Value
 | .tmp t=>tm.getD t undef
 | .const v=>v
 | .global g=> .pointer (some ⟨g,0,none⟩)
 | .func f=> .func (.func f) #[] #[]
theorem z0j {O:Nat→Prop} {env:List (Nat×AV)} {tm:Array Value} (he:z69 ρ O w env tm) (x:Operand):z0n ρ O w (z0p env x) (opv tm x):=by
 cases x with
 |tmp t=>exact he t
 |const v=>
  simp only [z0p]
  split
  ·exact .d (x91 ‹_› O w)
  ·exact .bot _
 |global g=>exact .bot _
 |func f=>exact .clo _ _ _ #[] #[] rfl rfl (by simp) (by simp)
theorem z67 {O:Nat→Prop} {env:List (Nat×AV)} {tm:Array Value} (he:z69 ρ O w env tm) (l:Array Operand):
  (l.map (opv tm)).size=(z06 env l.toList).length∧∀ (i:Nat) (x:AV),(z06 env l.toList)[i]?=some x→z0n ρ O w x ((l.map (opv tm)).getD i undef):=by
 rw [z2w]
 refine ⟨by simp,fun i x a=>?_⟩
 have b:i<l.size:=by simpa using (eAa.1 a).1
 simp [b] at a
 subst a
 have:(l.map (opv tm)).getD i undef=opv tm l[i]:=by simp [eAk,b]
 rw [this]
 exact z0j he _
theorem x13 (env:List (Nat×AV)) (l:List (Nat×Operand)):y2z env l=l.map fun x=>(x.1,z0p env x.2):=by
 induction l with
 |nil=>rfl
 |cons x l a=>obtain ⟨i,x⟩:=x; simp [y2z,a]
theorem x4w {O:Nat→Prop} {env:List (Nat×AV)} {tm:Array Value} (he:z69 ρ O w env tm) (l:Array (Nat×Operand)):y5j ρ O w (y2z env l.toList) (l.map fun x=>(x.1,opv tm x.2)).toList:=by
 rw [x13]
 refine ⟨by simp,fun k x y a b=>?_⟩
 have c:k<l.size:=by simpa using (eAa.1 a).1
 simp [c] at a b
 subst a; subst b
 exact ⟨rfl,z0j he _⟩
theorem y7h {O:Nat→Prop} {env:List (Nat×AV)} {tm:Array Value} (he:z69 ρ O w env tm) (x:Option Operand):y4p ρ O w (z9y env x) (x.map (opv tm)):=by
 cases x with
 |none=>trivial
 |some x=>exact z0j he x
def y3b (P:Program) (ρ:Rho) (h:List AO) (w:World) (new:Nat) (s:Sem Next) (r:Res):Prop:=
 ∃ v a ρ',(s.run P w= .ok (.value v) a∨(s.run P w= .ok .skip a∧v=undef))∧z0n ρ' (z0d ρ' (z07 h r.u)) a r.v v∧z0b P ρ' (z07 h r.u) a∧
  Ext (fun id=>id≠new) ρ h w ρ' (z07 h r.u) a∧(ρ'=ρ∨∃ o,(new,o)∈r.u)
theorem z0o.value {new:Nat} {s:Sem Value} {r:Res} (d:z0o P ρ h w new s r):y3b P ρ h w new (do Pure.pure (Next.value (←s))) r:=by
 obtain ⟨v,a,ρ',b,c⟩:=d
 exact ⟨v,a,ρ', .inl (by simp [b]),c⟩
theorem z0o.skip {new:Nat} {s:Sem Unit} {r:Res} (d:z0o P ρ h w new (z49 s) r):y3b P ρ h w new (do s; Pure.pure Next.skip) r:=by
 obtain ⟨v,e,ρ',a,c⟩:=d
 unfold z49 at a
 simp only [Sem.run_bind] at a
 cases b:s.run P w with
 |ok u w1=>
  rw [b] at a; simp at a
  obtain ⟨rfl,rfl⟩:=a
  exact ⟨_,_,ρ', .inr ⟨by simp [b],rfl⟩,c⟩
 |halt x w1=>rw [b] at a; simp at a
theorem w1r {v:AV} {r:Res} (h:ok v=some r):r=⟨true,v,[]⟩:=by unfold ok at h; cases h; rfl
theorem x6t (i:Operand):pOf std i=std:=by cases i<;>rfl
theorem y5o {O:Nat→Prop} {x:AV} {v:Value} (h:z0n ρ O w x v):z0n ρ O w (y4r x) v:=by
 unfold y4r
 split
 ·cases h with
  |d h=>cases h with
   |ref r b o a hO cell c e=>
    have:=z0n.lptr (ρ:=ρ) (O:=O) (w:=w) _ 0 b o (y2b (c 0 (eFm.2 a))) hO cell c e
    exact this
 ·exact h
theorem w97 {ti:TI} {O:Nat→Prop} {x:AV} {v:Value} (h:z0n ρ O w x v):z0n ρ O w (w98 ti x) v:=by
 unfold w98
 split
 ·rename_i f z es
  split
  ·cases g:Nat.beq z 0 with
   |false=>exact h
   |true=>
    simp only [cond_true]
    split
    ·cases h with
     |d h=>cases h with
      |lnil _ _ a c e=>exact .d (.lnil _ _ a c e)
      |list _ _ _ _ _ _ _ b=>exact absurd rfl b
    ·exact h
  ·exact h
 ·exact h
theorem x0u {ti:TI} (a:AV):z4p h (w98 ti a)=z4p h a:=by
 cases a with
 |d x=>
  cases x with
  |list f z es=>
   simp only [w98]
   cases c:ti.desc with
   |slc e b g i ez=>
    simp only []
    cases Nat.beq z 0<;>cases es<;>rfl
   |_=>rfl
  |_=>rfl
 |_=>rfl
def GOk (P:Program) (G:Nat→Option (List D)):Prop:=∀ (g:Nat) (cells:List D),G g=some cells→y14 P g=some cells
theorem z9g (G:Nat→Option (List D)) (env:List (Nat×AV)) (x:Operand):z9h G env x=z0p env x∨∃ cells,z9h G env x= .lptr cells 0:=by
 cases x with
 |global g=>
  simp only [z9h]
  cases G g with
  |none=>exact .inl rfl
  |some cells=>exact .inr ⟨cells,rfl⟩
 |_=>exact .inl rfl
theorem y7i (l:GOk P G) (hr:z0b P ρ h w) {env:List (Nat×AV)} {tm:Array Value} (he:z69 ρ (z0d ρ h) w env tm) (x:Operand):z0n ρ (z0d ρ h) w (z9h G env x) (opv tm x):=by
 cases x with
 |global g=>
  simp only [z9h]
  cases hg:G g with
  |none=>exact .bot _
  |some cells=>
   obtain ⟨a,b,_,c⟩:=hr.gl.lay g cells (l g cells hg)
   refine .lptr cells 0 g 0 a b (fun k=>(w.cell? ⟨g,k,none⟩).getD undef) (fun k i=>?_) (fun k x e=>?_)
   ·obtain ⟨v,d,_⟩:=c k _ (eAb i)
    rw [eAq,d]; rfl
   ·obtain ⟨v,d,j⟩:=c k x e
    rw [d]; exact j _ _
 |tmp t=>exact z0j he (.tmp t)
 |const v=>exact z0j he (.const v)
 |func f=>exact z0j he (.func f)
theorem x77 (hT : y1c P T) (hG : GOk P G) (hr : z0b P ρ h w) {new : Nat} (hn : ρ new = none) {env : List (Nat × AV)} {tm : Array Value} (he : z69 ρ (z0d ρ h) w env tm) {q : Bool} {r : List D} {ra : List AV} {o : Oper} {res : Res}
    (hw : (z1q std T env h o.op).ok q r ra) (hs : z01 std T G env h new q r ra o.op = some res) (hc : res.c = true) : y3b P ρ h w new (execOp (opv tm) o) res := by
  have rows : ∀ n a, (z7u h n a).ok q r ra → x5v h a r ra := by
    intro n a ha
    cases a <;> try trivial
    · rename_i id off
      simp only [z7u] at ha
      simp only [x5v]
      intro es he
      rw [he] at ha; exact ha
    · rename_i id i off
      simp only [z7u] at ha
      simp only [x5v]
      refine ⟨fun es he => ?_, fun es he => ?_⟩
      · rw [he] at ha; exact ha
      · rw [he] at ha; exact ha
  unfold z01 at hs
  cases hop : o.op with
  | move x =>
    rw [hop] at hs; cases w1r hs
    exact ⟨_, w, ρ, .inl (by simp [execOp, hop]), z0j he x, hr, Ext.refl _ _ _ _, .inl rfl⟩
  | assign x =>
    rw [hop] at hs; cases w1r hs
    exact ⟨_, w, ρ, .inl (by simp [execOp, hop]), z0j he x, hr, Ext.refl _ _ _ _, .inl rfl⟩
  | pick c a b =>
    rw [hop] at hs; simp only at hs
    have h1 := z0j he c
    unfold x0z at hs
    split at hs
    · rename_i hcv; rw [hcv] at h1; cases w1r hs
      generalize hv : opv tm c = v at h1
      cases h1 with | d h1 =>
      cases h1
      exact ⟨_, w, ρ, .inl (by simp [execOp, hop, hv, asBool]), z0j he a, hr, Ext.refl _ _ _ _, .inl rfl⟩
    · rename_i hcv; rw [hcv] at h1; cases w1r hs
      generalize hv : opv tm c = v at h1
      cases h1 with | d h1 =>
      cases h1
      exact ⟨_, w, ρ, .inl (by simp [execOp, hop, hv, asBool]), z0j he b, hr, Ext.refl _ _ _ _, .inl rfl⟩
    · cases hs
  | alloc t =>
    rw [hop] at hs; simp only at hs
    split at hs
    · have := (x27 (hT _ _ ‹_›) hr hn hs).value
      simpa [execOp, hop] using this
    · cases hs
  | box t x =>
    rw [hop] at hs; simp only at hs
    split at hs
    · have := (w08 (hT _ _ ‹_›) hr hn (z0j he x) hs).value
      simpa [execOp, hop] using this
    · cases hs
  | build t ps =>
    rw [hop] at hs; simp only at hs
    split at hs
    · have := (x25 (new := new) (hT _ _ ‹_›) hr (x4w he ps) hs).value
      simpa [execOp, hop] using this
    · cases hs
  | buildSlice t len ps =>
    rw [hop] at hs; simp only at hs
    split at hs
    · have := (y3g (hT _ _ ‹_›) hr hn (x4w he ps) hs).value
      simpa [execOp, hop] using this
    · cases hs
  | load t a =>
    rw [hop] at hs hw; simp only [z1q] at hs hw
    split at hs
    · have := (x6b (hT _ _ ‹_›) hr (y5o (y7i hG hr he a)) (by rcases z9g G env a with e | ⟨c, e⟩ <;> rw [e]; exact rows _ _ hw; exact trivial) hs new).value
      simpa [execOp, hop] using this
    · cases hs
  | store t a x =>
    rw [hop] at hs hw; simp only [z1q] at hs hw
    split at hs
    · have := (x2z (hT _ _ ‹_›) std rfl hr (z0j he a) (z0j he x) (rows _ _ hw) hs hc new).skip
      simpa [execOp, hop] using this
    · cases hs
  | nilCheck x =>
    rw [hop] at hs; simp only at hs
    have h1 := y5o (z0j he x)
    unfold x58 at hs
    split at hs <;> (try (cases hs; done)) <;> rename_i hx <;> rw [hx] at h1 <;> cases w1r hs <;> generalize hv : opv tm x = v at h1
    · have h2 := h1
      cases h1 with | bptr _ _ L hL => exact ⟨_, w, ρ, .inl (by simp [execOp, hop, hv]), h2, hr, Ext.refl _ _ _ _, .inl rfl⟩
    · have h2 := h1
      cases h1 with | ptr _ _ _ L hL => exact ⟨_, w, ρ, .inl (by simp [execOp, hop, hv]), h2, hr, Ext.refl _ _ _ _, .inl rfl⟩
    · have h2 := h1
      cases h1 with | wptr _ _ b o z hlt hO hz hcc => exact ⟨_, w, ρ, .inl (by simp [execOp, hop, hv]), h2, hr, Ext.refl _ _ _ _, .inl rfl⟩
    · have h2 := h1
      cases h1 with | lptr _ _ b o hlt hO cell hcc hrr => exact ⟨_, w, ρ, .inl (by simp [execOp, hop, hv]), h2, hr, Ext.refl _ _ _ _, .inl rfl⟩
  | binOp op t x y t2 =>
    rw [hop] at hs; simp only at hs
    split at hs
    · cases hn : v9o y with
      | true =>
        rw [hn] at hs
        have hy := v5i hn
        have := (x00 (new := new) (hT _ _ ‹_›) hr x y (z0j he x) hs hc).value
        have hyv : opv tm y = .slice none 0 0 := by rw [hy]; rfl
        rw [← hyv] at this
        simpa [execOp, hop] using this
      | false =>
        rw [hn] at hs
        simp only [cond_false] at hs
        cases hi : v9n y with
        | true =>
        rw [hi] at hs
        have hy := v5h hi
        have := (x57 (new := new) (hT _ _ ‹_›) hr x (z0j he x) hs).value
        have hyv : opv tm (.const .nilIface) = .nilIface := rfl
        subst hy
        simpa [execOp, hop, hyv] using this
        | false =>
        rw [hi] at hs
        have := (w09 (new := new) (hT _ _ ‹_›) hr x y (z0j he x) (z0j he y) hs hc).value
        simpa [execOp, hop] using this
    · cases hs
  | unOp op t x =>
    rw [hop] at hs; simp only at hs
    have := (w3w (P := P) (new := new) hr (z0j he x) hs).value
    simpa [execOp, hop] using this
  | convert s t x =>
    rw [hop] at hs; simp only at hs
    split at hs
    · split at hs
      · rename_i res' hres
        cases hs
        have := (y8b (new := new) (hT _ _ ‹_›) (hT _ _ ‹_›) hr (z0j he x) hres).value
        simpa [execOp, hop] using this
      · have := (x24 (new := new) hT (hT _ _ ‹_›) (hT _ _ ‹_›) hr (z0j he x) hs hc).value
        simpa [execOp, hop] using this
    · cases hs
  | makeFunc fn f c =>
    rw [hop] at hs; cases w1r hs
    obtain ⟨f1, f2⟩ := z67 he f
    obtain ⟨c1, c2⟩ := z67 he c
    exact ⟨_, w, ρ, .inl (by simp [execOp, hop, Instr.makeFunc]), .clo _ _ _ _ _ f1 c1 f2 c2, hr, Ext.refl _ _ _ _, .inl rfl⟩
  | makeSlice t l c =>
    rw [hop] at hs; simp only at hs
    split at hs
    · have := (y4u (hT _ _ ‹_›) hr hn (z0j he l) (z0j he c) hs hc).value
      simpa [execOp, hop] using this
    · cases hs
  | slice t x lo hi mx =>
    rw [hop] at hs hw; simp only [z1q] at hs hw
    have hw : (z4p h (z0p env x)).ok false r ra := by
      generalize z0p env x = a at hw
      unfold z4p at hw ⊢
      split
      · split
        · rename_i hob; simp only [hob] at hw; exact hw
        · trivial
      · trivial
    split at hs
    · rename_i ti _
      have hw : (z4p h (w98 ti (z0p env x))).ok false r ra := by
        rw [x0u]; exact hw
      have := (x20 (new := new) (hT _ _ ‹_›) hr (w97 (z0j he x)) (y7h he lo) (y7h he hi) (y7h he mx) (ra := ra) hw hs hc).value
      simpa [execOp, hop] using this
    · cases hs
  | fieldAddr t x f =>
    rw [hop] at hs; simp only at hs
    split at hs
    · have := (x21 (new := new) (hT _ _ ‹_›) hr (y5o (y7i hG hr he x)) hs).value
      simpa [execOp, hop] using this
    · cases hs
  | field t x f =>
    rw [hop] at hs; simp only at hs
    split at hs
    · have := (y50 (new := new) (hT _ _ ‹_›) hr (z0j he x) hs).value
      simpa [execOp, hop] using this
    · cases hs
  | indexAddr t x i =>
    rw [hop] at hs hw; simp only [z1q, x6t] at hs hw
    split at hs
    · have := (y4v (new := new) (hT _ _ ‹_›) hr (y7i hG hr he x) (z0j he i) (fun full z es k n e1 e2 => by rcases z9g G env x with e | ⟨c, e⟩ <;> rw [e] at e1; rw [e1, e2] at hw; exact hw; cases e1) hs hc).value
      simpa [execOp, hop] using this
    · cases hs
  | index t x i =>
    rw [hop] at hs; simp only [x6t] at hs
    split at hs
    · have := (y5z (new := new) (hT _ _ ‹_›) hr (z0j he x) (z0j he i) hs hc).value
      simpa [execOp, hop] using this
    · cases hs
  | extract x i =>
    rw [hop] at hs; simp only at hs
    have h1 := z0j he x
    unfold y1p at hs
    split at hs
    · rename_i vs hx
      rw [hx] at h1
      obtain ⟨y, hy, rfl⟩ := z3i hs
      rw [z1s] at hy
      generalize hv : opv tm x = v at h1
      cases h1 with
      | tuple _ vv hl hh =>
        have hi : i < vv.size := by rw [hl]; exact (eAa.1 hy).1
        have h2 := hh i y hy
        rw [z9c (eAs hi)] at h2
        exact ⟨_, w, ρ, .inl (by simp [execOp, hop, hv, Instr.extract, hi]), h2, hr, Ext.refl _ _ _ _, .inl rfl⟩
    · cases hs
  | call c =>
    obtain ⟨callee, args, ts⟩ := c
    cases callee <;> rw [hop] at hs <;> (try (cases hs; done))
    rename_i b
    simp only at hs
    obtain ⟨a1, a2⟩ := z67 he args
    have exec : ∀ (s : Sem Value), (∀ cs, builtin b ts o.type cs (args.map (opv tm)) = (do pure (Next.value (← s)))) → execOp (opv tm) o = (do pure (Next.value (← s))) := by
      intro s hsb
      simp [execOp, hop, resolve, invoke, hsb]
    have arg : ∀ (i : Nat) (x : AV) (hi : i < args.size), (z06 env args.toList)[i]? = some x → z0n ρ (z0d ρ h) w x (opv tm args[i]) := by
      intro i x hi hx
      have := a2 i x hx
      rwa [show (args.map (opv tm)).getD i undef = opv tm args[i] by simp [eAk, hi]] at this
    unfold z1m at hs
    split at hs
    ·
      rename_i t x e2 e3
      split at hs
      · rename_i ti hti
        have hsz : args.size = 1 := by have := congrArg List.length e3; rw [z2w] at this; simpa using this
        have hx := arg 0 x (by omega) (by rw [e3]; rfl)
        have hts : ts = #[t] := by apply Array.ext'; rw [e2]
        have hav : args.map (opv tm) = #[opv tm args[0]] := by
          apply Array.ext'
          apply eBt
          intro i
          cases i with
          | zero => simp [hsz]
          | succ i => simp; omega
        rw [exec (Builtin.len_ ts o.type (args.map (opv tm))) (fun cs => rfl)]
        have := v5u (hT _ _ hti) hr (new := new) (ty := o.type) hx hs
        rw [hts, hav]
        exact this.value
      · cases hs
    ·
      rename_i t t2 s x e2 e3
      split at hs
      · rename_i ti ti2 hti hti2
        split at hs
        · rename_i e z eb ea ez hdesc
          have hsz : args.size = 2 := by have := congrArg List.length e3; rw [z2w] at this; simpa using this
          have hx := arg 0 s (by omega) (by rw [e3]; rfl)
          have hy := arg 1 x (by omega) (by rw [e3]; rfl)
          have hts : ts = #[t, t2] := by apply Array.ext'; rw [e2]
          have hav : args.map (opv tm) = #[opv tm args[0], opv tm args[1]] := by
            apply Array.ext'
            apply eBt
            intro i
            match i with
            | 0 => simp [hsz]
            | 1 => simp [hsz]
            | i + 2 => simp; omega
          rw [exec (Builtin.append_ ts o.type (args.map (opv tm))) (fun cs => rfl)]
          rw [hop] at hw
          simp only [z1q] at hw
          rw [e3] at hw
          simp only at hw
          have := y8c (hT _ _ hti) (hT _ _ hti2) ⟨_, _, _, _, _, hdesc⟩ hr hn hx hy (ty := o.type) (q := q) (fun b hb => by rw [hb] at hw; exact hw) hs hc
          rw [hts, hav]
          exact this.value
        · cases hs
      · cases hs
    ·
      rename_i t tl d x e2 e3
      split at hs
      · rename_i ti hti
        have hsz : args.size = 2 := by have := congrArg List.length e3; rw [z2w] at this; simpa using this
        have hx := arg 0 d (by omega) (by rw [e3]; rfl)
        have hy := arg 1 x (by omega) (by rw [e3]; rfl)
        have hav : args.map (opv tm) = #[opv tm args[0], opv tm args[1]] := by
          apply Array.ext'
          apply eBt
          intro i
          match i with
          | 0 => simp [hsz]
          | 1 => simp [hsz]
          | i + 2 => simp; omega
        rw [exec (Builtin.copy_ ts o.type (args.map (opv tm))) (fun cs => rfl)]
        have hts : ts[0]? = some t := by rw [← eAl, e2]; rfl
        have := x6c (hT _ _ hti) hr (new := new) (ty := o.type) hx hy hts hs hc
        rw [hav]
        exact this.value
      · cases hs
    ·
      rename_i t tl m k e2 e3
      split at hs
      · rename_i ti hti
        have hsz : args.size = 2 := by have := congrArg List.length e3; rw [z2w] at this; simpa using this
        have hx := arg 0 m (by omega) (by rw [e3]; rfl)
        have hy := arg 1 k (by omega) (by rw [e3]; rfl)
        have hav : args.map (opv tm) = #[opv tm args[0], opv tm args[1]] := by
          apply Array.ext'
          apply eBt
          intro i
          match i with
          | 0 => simp [hsz]
          | 1 => simp [hsz]
          | i + 2 => simp; omega
        rw [exec (Builtin.delete_ ts o.type (args.map (opv tm))) (fun cs => rfl)]
        have hts : ts[0]? = some t := by rw [← eAl, e2]; rfl
        rw [hop] at hw
        simp only [z1q, e2, e3, y2g, hti] at hw
        have := x01 (hT _ _ hti) hr (new := new) (ty := o.type) hx hy hw hts hs
        rw [hav]
        exact this.value
      · cases hs
    ·
      rename_i t tl d e2 e3
      split at hs
      · rename_i ti hti
        have hsz : args.size = 1 := by have := congrArg List.length e3; rw [z2w] at this; simpa using this
        have hx := arg 0 d (by omega) (by rw [e3]; rfl)
        have hav : args.map (opv tm) = #[opv tm args[0]] := by
          apply Array.ext'
          apply eBt
          intro i
          match i with
          | 0 => simp [hsz]
          | i + 1 => simp; omega
        rw [exec (Builtin.clear_ ts o.type (args.map (opv tm))) (fun cs => rfl)]
        have hts : ts[0]? = some t := by rw [← eAl, e2]; rfl
        have := x23 (hT _ _ hti) hr (new := new) (ty := o.type) hx hts hs hc
        rw [hav]
        exact this.value
      · cases hs
    ·
      rw [exec (Builtin.min_ ts o.type (args.map (opv tm))) (fun cs => rfl)]
      have := y84 (P := P) (new := new) hr (.inl rfl) (vs := (args.map (opv tm)).toList) (by rw [eBw]; exact a1) (fun i x v hx hv => by
        have h1 := a2 i x hx
        have h2 : (args.map (opv tm))[i]? = some v := by simpa using hv
        rwa [z9c h2] at h1) (a := ts) (t := o.type) hs
      rw [Array.toArray_toList, if_pos rfl] at this
      exact this.value
    ·
      rw [exec (Builtin.max_ ts o.type (args.map (opv tm))) (fun cs => rfl)]
      have := y84 (P := P) (new := new) hr (.inr rfl) (vs := (args.map (opv tm)).toList) (by rw [eBw]; exact a1) (fun i x v hx hv => by
        have h1 := a2 i x hx
        have h2 : (args.map (opv tm))[i]? = some v := by simpa using hv
        rwa [z9c h2] at h1) (a := ts) (t := o.type) hs
      rw [Array.toArray_toList, if_neg (by decide)] at this
      exact this.value
    · cases hs
  | makeMap t n =>
    rw [hop] at hs; simp only at hs
    split at hs
    · have := (y78 (P := P) (T := t) (new := new) hr hn (x := z9y env n) (v := n.map (opv tm)) (fun h => by cases n <;> simp [z9y] at h ⊢) hs).value
      simpa [execOp, hop] using this
    · cases hs
  | lookup t m k co =>
    rw [hop] at hs hw; simp only [z1q] at hs hw
    split at hs
    · rename_i ti hti
      split at hs
      · simp only [y2g, hti] at hw
        have := (z82 (hT _ _ hti) (new := new) hr (z0j he m) (z0j he k) hw hs).value
        simpa [execOp, hop] using this
      · cases hs
    · cases hs
  | mapUpdate t m k x =>
    rw [hop] at hs hw; simp only [z1q] at hs hw
    split at hs
    · rename_i ti hti
      simp only [y2g, hti] at hw
      have := (x0y (hT _ _ hti) (new := new) hr (z0j he m) (z0j he k) (z0j he x) hw hs).skip
      simpa [execOp, hop] using this
    · cases hs
  | _ => rw [hop] at hs; cases hs
end
end Go.Am
end
section
namespace Go.Am
structure AS where
 env:List (Nat×AV)
 heap:List AO
 nt:Nat
inductive AX where
 |normal
 |exit (id:Nat)
 |ret
def Dom (ρ:Rho) (h:List AO):Prop:=∀ id,ρ id≠none→id<h.length
structure z18 (P:Program) (ρ:Rho) (s:AS) (tm:Array Value) (w:World):Prop where
 heap:z0b P ρ s.heap w
 env:z69 ρ (z0d ρ s.heap) w s.env tm
 size:tm.size=s.nt
 dom:Dom ρ s.heap
structure z4h (rd:Option Nat) (B:Nat) (F:Nat→Prop) (w:World) (ds:List Deferred):Prop where
 nodup:ds.Nodup
 mark:∀ d∈ds,∃ r,d={ target:= .collected r,args:=#[] }∧w.heap[r]?=some (.deferred (some []))∧B≤r
 below:∀ b,F b→b<B
 le:B≤w.heap.size
 round:∀ l,rd=some l→F l∧∃ r,w.heap[l]?=some (.loop r)
theorem x8s {P:Program} {ρ:Rho} {h:List AO} {w:World} (hr:z0b P ρ h w) {b:Nat} (i:¬ ρ.fr b) (f:z0d ρ h b):w.heap[b]?≠some (.deferred (some [])):=by
 rcases f with f|⟨id,L,j,g,rfl⟩
 ·exact absurd f i
 obtain ⟨_,a⟩:=hr.obj id L j
 cases e:z0f h id with
 |dead=>rw [e] at g; cases g
 |box _=>rw [e] at a; obtain ⟨_,c,t,d,_⟩:=a; rw [d]; simp
 |row _=>rw [e] at a; obtain ⟨_,c,t,d,_⟩:=a; rw [d]; simp
 |arow _=>rw [e] at a; obtain ⟨_,c,t,d,_⟩:=a; rw [d]; simp
 |map _=>rw [e] at a; obtain ⟨c,t,d,_⟩:=a; rw [d]; simp
 |loop=>rw [e] at a; obtain ⟨_,_,_,_,_,c,t,_,d,_⟩:=a; rw [d]; simp
theorem z4h.keep {P:Program} {S:Nat→Prop} {ρ ρ':Rho} {h h':List AO} {w w':World} {rd:Option Nat} {B:Nat} {ds:List Deferred} (hr:z0b P ρ h w) (x:Ext S ρ h w ρ' h' w') (b:z4h rd B ρ.fr w ds):z4h rd B ρ'.fr w' ds:=by
 refine ⟨b.nodup,fun d hm=>?_,by rw [x.fr]; exact b.below,eBk b.le x.keep.size,fun l i=>by
  obtain ⟨f,r,k⟩:=b.round l i
  exact ⟨by rw [x.fr]; exact f,r,by rw [x.frs l f]; exact k⟩⟩
 obtain ⟨r,e,a,j⟩:=b.mark d hm
 have c:¬ ρ.fr r:=fun c=>by have:=b.below r c; omega
 refine ⟨r,e,?_,j⟩
 rw [x.keep.frame r (eAe.1 a).1 (fun g=>x8s hr c g a)]
 exact a
def _root_.Go.Frame.on (b:Frame) (tm:Array Value) (ds:List Deferred) (todo:List Item):Frame:={ b with tmps:=tm,defers:=ds,todo:=todo,mode:= .run }
theorem x7i (b:Frame) (tm:Array Value) (ds:List Deferred) (todo:List Item):(b.on tm ds todo).eval=opv tm:=by
 funext x; cases x<;>rfl
section steps
variable {P:Program} {b:Frame} {tm:Array Value} {ds:List Deferred} {k:List Item} {cs:List Frame} {w:World}
theorem v4p:step P (lone (b.on tm ds (.code .skip::k)) cs w)= .next (lone (b.on tm ds k) cs w):=step_lone_go (by simp [stepG,stepG.exec,Frame.on])
theorem w8t {l:Nat}:step P (lone (b.on tm ds (.code (.label l)::k)) cs w)= .next (lone (b.on tm ds k) cs w):=step_lone_go (by simp [stepG,stepG.exec,Frame.on])
theorem w1d {id:Nat}:step P (lone (b.on tm ds (.inBlock id::k)) cs w)= .next (lone (b.on tm ds k) cs w):=step_lone_go (by simp [stepG,stepG.exec,Frame.on])
theorem w1c {c:Code}:step P (lone (b.on tm ds (.inScope c::k)) cs w)= .next (lone (b.on tm ds k) cs w):=step_lone_go (by simp [stepG,stepG.exec,Frame.on])
theorem w3z {x y:Code}:step P (lone (b.on tm ds (.code (.seq x y)::k)) cs w)= .next (lone (b.on tm ds (.code x:: .code y::k)) cs w):=step_lone_go (by simp [stepG,stepG.exec,Frame.on])
theorem v4r {c:Operand} {x y:Code} {t:Bool} (h:opv tm c= .bool t):step P (lone (b.on tm ds (.code (.cond c x y)::k)) cs w)= .next (lone (b.on tm ds (.code (if t then x else y)::k)) cs w):=
 step_lone_go (by
  have:=x7i b tm ds (.code (.cond c x y)::k)
  simp only [Frame.on] at this
  simp [stepG,stepG.exec,Frame.on,this,h])
theorem y47 {id:Nat} {c:Code}:step P (lone (b.on tm ds (.code (.block id c)::k)) cs w)= .next (lone (b.on tm ds (.code c:: .inBlock id::k)) cs w):=step_lone_go (by simp [stepG,stepG.exec,Frame.on])
theorem x1a {c:Code}:step P (lone (b.on tm ds (.code (.scope c)::k)) cs w)= .next (lone (b.on tm ds (.code c:: .inScope c::k)) cs w):=step_lone_go (by simp [stepG,stepG.exec,Frame.on])
theorem y1u {c:Code}:step P (lone (b.on tm ds (.code (.loop c)::k)) cs w)= .next (lone (b.on tm ds (.code c:: .inLoop c::k)) cs w):=step_lone_go (by simp [stepG,stepG.exec,Frame.on])
theorem x3b {c:Code}:step P (lone (b.on tm ds (.inLoop c::k)) cs w)= .next (lone (b.on tm ds (.code c:: .inLoop c::k)) cs w):=step_lone_go (by simp [stepG,stepG.exec,Frame.on])
theorem v4q {id:Nat} {a:List Item} (h:exitTo id k=some a):step P (lone (b.on tm ds (.code (.exit id)::k)) cs w)= .next (lone (b.on tm ds a) cs w):=step_lone_go (by simp [stepG,stepG.exec,Frame.on,h])
theorem w30 {id:Nat} {ops:Array Oper}:step P (lone (b.on tm ds (.code (.region id ops false)::k)) cs w)= .next (lone (b.on tm ds (.inRegion ops (List.range ops.size)::k)) cs w):=step_lone_go (by simp [stepG,stepG.exec,Frame.on])
theorem z7w {id:Nat} {ops:Array Oper}:step P (lone (b.on tm ds (.code (.region id ops true)::k)) cs w)=
  .next (lone (b.on tm ds (.inRegion ops (Region.schedule (P.follows .mixedOrders) ops (w.tape w.drawn (.order b.fn id)))::k)) cs { w with drawn:=w.drawn+1 }):=
 step_lone_go (by simp [stepG,stepG.exec,Frame.on,choose,Sem.run,Question.forced,Question.cut])
theorem z84 {ops:Array Oper}:step P (lone (b.on tm ds (.inRegion ops []::k)) cs w)= .next (lone (b.on tm ds k) cs w):=step_lone_go (by simp [stepG,stepG.exec,Frame.on])
theorem v82 (a:b.roundOf=none):step P (lone (b.on tm ds (.code .ret::k)) cs w)= .next (lone { b.on tm ds (.code .ret::k) with mode:= .returning } cs w):=step_lone_go (by simp [stepG,stepG.exec,Frame.on,a])
theorem v83 (a:b.roundOf=none):step P (lone (b.on tm ds []) cs w)= .next (lone { b.on tm ds [] with mode:= .returning } cs w):=step_lone_go (by simp [stepG,stepG.exec,Frame.on,a])
def y3o (tm:Array Value) (dst:Option Tmp) (v:Value):Array Value:=
 match dst with
 |some d=>tm.setIfInBounds d v
 |none=>tm
theorem z8s {ops:Array Oper} {i:Nat} {rest:List Nat} {o:Oper} (a:ops[i]?=some o) (v:Value):
  (b.on tm ds (.inRegion ops (i::rest)::k)).finish v=b.on (y3o tm o.dst v) ds (.inRegion ops rest::k):=by
 unfold Frame.finish Frame.on y3o
 simp [a]
 cases o.dst<;>rfl
theorem y85 {ops:Array Oper} {i:Nat} {rest:List Nat} {o:Oper} (a:ops[i]?=some o) (c:Region.wanted o (yielded ops tm)=false):
  step P (lone (b.on tm ds (.inRegion ops (i::rest)::k)) cs w)= .next (lone (b.on (y3o tm o.dst undef) ds (.inRegion ops rest::k)) cs w):=by
 rw [←z8s a]
 exact step_lone_go (by
  simp only [Frame.on] at*
  simp [stepG,stepG.exec,a,c])
theorem w31 {ops:Array Oper} {i:Nat} {rest:List Nat} {o:Oper} (d:ops[i]?=some o) (a:Region.wanted o (yielded ops tm)=true) (e:∀ c,o.op≠ .defer c):
  stepG P true { frame:=b.on tm ds (.inRegion ops (i::rest)::k),callers:=cs,status:= .running,dying:=none } w=
   stepG.apply P true (b.on tm ds (.inRegion ops (i::rest)::k)) cs none (execOp (opv tm) o) w:=by
 have he:=x7i b tm ds (.inRegion ops (i::rest)::k)
 simp only [Frame.on] at he
 have:∀ (x:Option Nat),(match x,o.op with
   |some l, .defer c=>stepG.apply P true (b.on tm ds (.inRegion ops (i::rest)::k)) cs none (do Instr.deferInRound l (←resolve (opv tm) c o.type); pure .skip) w
   |_,_=>stepG.apply P true (b.on tm ds (.inRegion ops (i::rest)::k)) cs none (execOp (opv tm) o) w)=stepG.apply P true (b.on tm ds (.inRegion ops (i::rest)::k)) cs none (execOp (opv tm) o) w:=by
  intro x
  split
  ·exact absurd ‹_› (e _)
  ·rfl
 simp only [Frame.on] at this
 simp [stepG,stepG.exec,stepG.oper,Frame.oper?,Frame.on,d,a,he]
 exact this b.roundOf
theorem y1s {ops:Array Oper} {i:Nat} {rest:List Nat} {o:Oper} (a:ops[i]?=some o) (d:Region.wanted o (yielded ops tm)=true) (e:∀ c,o.op≠ .defer c) {v:Value} {w':World}
  (hr:(execOp (opv tm) o).run P w= .ok (.value v) w'∨((execOp (opv tm) o).run P w= .ok .skip w'∧v=undef)):
  step P (lone (b.on tm ds (.inRegion ops (i::rest)::k)) cs w)= .next (lone (b.on (y3o tm o.dst v) ds (.inRegion ops rest::k)) cs w'):=by
 rw [←z8s a]
 refine step_lone_go ?_
 rw [w31 a d e]
 rcases hr with hr|⟨hr,rfl⟩
 ·simp [stepG.apply,hr]
 ·simp [stepG.apply,hr]
theorem y1t {ops:Array Oper} {i:Nat} {rest:List Nat} {o:Oper} (d:ops[i]?=some o) (a:Region.wanted o (yielded ops tm)=true) (e:∀ c,o.op≠ .defer c) {f:FuncId} {args:Array Value} {w':World}
  (hr:(execOp (opv tm) o).run P w= .ok (.enter f args) w'):
  step P (lone (b.on tm ds (.inRegion ops (i::rest)::k)) cs w)= .next (lone (Frame.enter P f args .normal) (b.on tm ds (.inRegion ops (i::rest)::k)::cs) w'):=by
 refine step_lone_go ?_
 rw [w31 d a e]
 simp [stepG.apply,hr,Frame.on]
end steps
def Arr (P:Program) (b:Frame) (cs:List Frame) (m:Machine) (k:List Item):AX→Array Value→List Deferred→World→Prop
 | .normal,tm,ds,w=>Steps P m (lone (b.on tm ds k) cs w)
 | .exit id,tm,ds,w=>∃ a,exitTo id a=exitTo id k∧Steps P m (lone (b.on tm ds (.code (.exit id)::a)) cs w)
 | .ret,tm,ds,w=>∃ a,Steps P m (lone (b.on tm ds (.code .ret::a)) cs w)
theorem Arr.of_steps {P:Program} {b:Frame} {cs:List Frame} {m d:Machine} {k:List Item} {e:AX} {tm:Array Value} {ds:List Deferred} {w:World} (h:Steps P m d) (h':Arr P b cs d k e tm ds w):Arr P b cs m k e tm ds w:=by
 cases e with
 |normal=>exact h.trans h'
 |exit id=>obtain ⟨a,e,c⟩:=h'; exact ⟨a,e,h.trans c⟩
 |ret=>obtain ⟨a,c⟩:=h'; exact ⟨a,h.trans c⟩
structure z54 (P:Program) (n:Nat) (c:Code) (s:AS) (Q:AX→AS→Prop):Prop where
 run:∀ (b:Frame) (k:List Item) (cs:List Frame) (ρ:Rho) (tm:Array Value) (ds:List Deferred) (w:World) (B:Nat),z18 P ρ s tm w→z4h b.roundOf B ρ.fr w ds→
  ∃ e s' ρ' tm' ds' w',Q e s'∧z18 P ρ' s' tm' w'∧z4h b.roundOf B ρ'.fr w' ds'∧s'.nt=s.nt∧Ext (· <n) ρ s.heap w ρ' s'.heap w'∧Arr P b cs (lone (b.on tm ds (.code c::k)) cs w) k e tm' ds' w'
section rules
variable {P:Program} {n:Nat} {s:AS} {Q:AX→AS→Prop}
theorem z54.mono {c:Code} {f:AX→AS→Prop} (h:z54 P n c s Q) (j:∀ e s,Q e s→f e s):z54 P n c s f:=
 ⟨fun b k cs ρ tm ds w B m l=>let ⟨e,i,ρ',a,d,g,q,r⟩:=h.run b k cs ρ tm ds w B m l; ⟨e,i,ρ',a,d,g,j _ _ q,r⟩⟩
theorem x5b (h:Q .normal s):z54 P n .skip s Q:=
 ⟨fun b k cs ρ tm ds w B c a=>⟨.normal,s,ρ,tm,ds,w,h,c,a,rfl,Ext.refl _ _ _ _, .one v4p⟩⟩
theorem w2n {l:Nat} (h:Q .normal s):z54 P n (.label l) s Q:=
 ⟨fun b k cs ρ tm ds w B c a=>⟨.normal,s,ρ,tm,ds,w,h,c,a,rfl,Ext.refl _ _ _ _, .one w8t⟩⟩
theorem w6g {id:Nat} (h:Q (.exit id) s):z54 P n (.exit id) s Q:=
 ⟨fun b k cs ρ tm ds w B c a=>⟨.exit id,s,ρ,tm,ds,w,h,c,a,rfl,Ext.refl _ _ _ _,k,rfl,Steps.refl _ _⟩⟩
theorem x19 (h:Q .ret s):z54 P n .ret s Q:=
 ⟨fun b k cs ρ tm ds w B c a=>⟨.ret,s,ρ,tm,ds,w,h,c,a,rfl,Ext.refl _ _ _ _,k,Steps.refl _ _⟩⟩
theorem z9d {id:Nat} {x:Item} {k:List Item} (a:∀ j,x≠ .inBlock j):exitTo id (x::k)=exitTo id k:=by
 cases x<;>simp [exitTo] at*
theorem z1o {x y:Code} (h:z54 P n x s (fun e s'=>match e with| .normal=>z54 P n y s' Q|e=>Q e s')):z54 P n (.seq x y) s Q:=⟨by
 intro b k cs ρ tm ds w B A z
 obtain ⟨e,s',ρ',a,c,d,q,m,l,j,i,g⟩:=h.run b (.code y::k) cs ρ tm ds w B A z
 cases e with
 |normal=>
  obtain ⟨e,u,ρ2,f,r,t,v,H,G,F,E,C⟩:=q.run b k cs ρ' a c d B m l
  exact ⟨e,u,ρ2,f,r,t,v,H,G,F.trans j,i.trans E, .of_steps (.head w3z g) C⟩
 |exit id=>
  obtain ⟨o,e,p⟩:=g
  exact ⟨.exit id,s',ρ',a,c,d,q,m,l,j,i,o,by rw [e,z9d (by simp)], .head w3z p⟩
 |ret=>
  obtain ⟨o,p⟩:=g
  exact ⟨.ret,s',ρ',a,c,d,q,m,l,j,i,o, .head w3z p⟩⟩
theorem w0j {ρ:Rho} {O:Nat→Prop} {w:World} {t:Bool} {v:Value} (h:z0n ρ O w (.d (.bool t)) v):v= .bool t:=by
 cases h with|d h=>cases h; rfl
theorem y7n {c:Operand} {x y:Code} {t:Bool} (v:z0p s.env c= .d (.bool t)) (h:z54 P n (if t then x else y) s Q):z54 P n (.cond c x y) s Q:=⟨by
 intro b k cs ρ tm ds w B i z
 obtain ⟨e,l,ρ',a,f,j,q,u,r,p,o,m⟩:=h.run b k cs ρ tm ds w B i z
 have g:=z0j i.env c
 rw [v] at g
 exact ⟨e,l,ρ',a,f,j,q,u,r,p,o, .of_steps (.one (v4r (w0j g))) m⟩⟩
theorem z27 {id:Nat} {c:Code} (h:z54 P n c s (fun e s'=>match e with| .exit j=>if j=id then Q .normal s' else Q (.exit j) s'|e=>Q e s')):z54 P n (.block id c) s Q:=⟨by
 intro b k cs ρ tm ds w B v u
 obtain ⟨e,s',ρ',a,d,f,q,m,l,i,g,r⟩:=h.run b (.inBlock id::k) cs ρ tm ds w B v u
 cases e with
 |normal=>exact ⟨.normal,s',ρ',a,d,f,q,m,l,i,g, .head y47 (Steps.trans r (.one w1d))⟩
 |exit j=>
  obtain ⟨o,e,p⟩:=r
  simp only at q
  by_cases t:j=id
  ·subst t
   rw [if_pos rfl] at q
   have x:exitTo j o=some k:=by rw [e]; simp [exitTo]
   exact ⟨.normal,s',ρ',a,d,f,q,m,l,i,g, .head y47 (Steps.trans p (.one (v4q x)))⟩
  ·rw [if_neg t] at q
   exact ⟨.exit j,s',ρ',a,d,f,q,m,l,i,g,o,by rw [e]; simp [exitTo,Ne.symm t], .head y47 p⟩
 |ret=>
  obtain ⟨o,p⟩:=r
  exact ⟨.ret,s',ρ',a,d,f,q,m,l,i,g,o, .head y47 p⟩⟩
theorem w2m {c:Code} (h:z54 P n c s Q):z54 P n (.scope c) s Q:=⟨by
 intro b k cs ρ tm ds w B v u
 obtain ⟨e,g,ρ',a,d,f,q,p,o,m,l,i⟩:=h.run b (.inScope c::k) cs ρ tm ds w B v u
 cases e with
 |normal=>exact ⟨.normal,g,ρ',a,d,f,q,p,o,m,l, .head x1a (Steps.trans i (.one w1c))⟩
 |exit j=>
  obtain ⟨r,e,t⟩:=i
  exact ⟨.exit j,g,ρ',a,d,f,q,p,o,m,l,r,by rw [e,z9d (by simp)], .head x1a t⟩
 |ret=>
  obtain ⟨r,t⟩:=i
  exact ⟨.ret,g,ρ',a,d,f,q,p,o,m,l,r, .head x1a t⟩⟩
theorem y23 {c:Code} {ι:Type} (I:ι→AS) (μ:ι→Nat) (F:∀ g h,(I g).nt=(I h).nt)
  (round:∀ g,z54 P n c (I g) (fun e s'=>match e with| .normal=>∃ h,s'=I h∧μ h<μ g|e=>Q e s')) (g:ι):z54 P n (.loop c) (I g) Q:=⟨by
 intro b k cs
 have key:∀ (m:Nat) (g:ι),μ g=m→∀ (ρ:Rho) (tm:Array Value) (ds:List Deferred) (w:World) (B:Nat),z18 P ρ (I g) tm w→z4h b.roundOf B ρ.fr w ds→
   ∃ e s' ρ' a d f,Q e s'∧z18 P ρ' s' a f∧z4h b.roundOf B ρ'.fr f d∧s'.nt=(I g).nt∧Ext (· <n) ρ (I g).heap w ρ' s'.heap f∧Arr P b cs (lone (b.on tm ds (.code c:: .inLoop c::k)) cs w) k e a d f:=by
  intro m
  induction m using Nat.strongRecOn with
  |_ m E=>
   intro g hm ρ tm ds w B x v
   obtain ⟨e,s',ρ',a,d,f,q,p,o,l,j,i⟩:=(round g).run b (.inLoop c::k) cs ρ tm ds w B x v
   cases e with
   |normal=>
    obtain ⟨h,rfl,u⟩:=q
    obtain ⟨e,A,ρ2,r,y,z,C,L,K,J,H,G⟩:=E (μ h) (hm▸u) h rfl ρ' a d f B p o
    exact ⟨e,A,ρ2,r,y,z,C,L,K,J.trans l,j.trans H, .of_steps (Steps.trans i (.one x3b)) G⟩
   |exit id=>
    obtain ⟨s,e,t⟩:=i
    exact ⟨.exit id,s',ρ',a,d,f,q,p,o,l,j,s,by rw [e,z9d (by simp)],t⟩
   |ret=>
    obtain ⟨s,t⟩:=i
    exact ⟨.ret,s',ρ',a,d,f,q,p,o,l,j,s,t⟩
 intro ρ tm ds w B x v
 obtain ⟨e,s',ρ',a,d,f,q,p,o,l,j,i⟩:=key _ g rfl ρ tm ds w B x v
 exact ⟨e,s',ρ',a,d,f,q,p,o,l,j, .of_steps (.one y1u) i⟩⟩
end rules
end Go.Am
end
section
namespace Go.Am
theorem z08 (env:List (Nat×AV)) (t:Nat) (v:AV):z00 (w72 env t v) t=v:=by
 simp [w72,z00]
theorem z1r (env:List (Nat×AV)) (t a:Nat) (v:AV) (h:t≠a):z00 (w72 env t v) a=z00 env a:=by
 have:Nat.beq t a=false:=by cases b:Nat.beq t a with
  |false=>rfl
  |true=>exact absurd (eAd b) h
 simp [w72,z00,this]
theorem z5e (u:List (Nat×AO)):∀ (h:List AO),h.length≤(z07 h u).length∧∀ i o,(i,o)∈u→i<(z07 h u).length:=by
 induction u with
 |nil=>intro h; exact ⟨eAj _,by simp⟩
 |cons x u c=>
  intro h
  obtain ⟨i,o⟩:=x
  have f:=z1w h i o
  obtain ⟨a,b⟩:=c (z03 h i o)
  simp only [z07]
  refine ⟨by omega,fun j q d=>?_⟩
  rcases eAm.1 d with e|e
  ·cases e; omega
  ·exact b j q e
def y4f (env:List (Nat×AV)) (dst:Option Tmp) (v:AV):List (Nat×AV):=
 match dst with
 |some d=>w72 env d v
 |none=>env
def z5g (nt:Nat) (dst:Option Tmp):Bool:=
 match dst with
 |some d=>Nat.blt d nt
 |none=>true
def z5l:AS→Option Tmp→AV→List (Nat×AO)→AS
 |⟨env,heap,nt⟩,dst,v,u=>⟨y4f env dst v,z07 heap u,nt⟩
section
variable {P:Program} {ρ:Rho} {h:List AO} {w:World}
theorem y18 {ρ':Rho} {O':Nat→Prop} {O:Nat→Prop} {w':World} {env:List (Nat×AV)} {tm:Array Value} (k:z43 O O' w w') (c:∀ id L,ρ id=some L→ρ' id=some L) (he:z69 ρ O w env tm) {dst:Option Tmp} {nt:Nat} (g:tm.size=nt) (e:z5g nt dst=true)
  {x:AV} {v:Value} (f:z0n ρ' O' w' x v):z69 ρ' O' w' (y4f env dst x) (y3o tm dst v):=by
 intro t
 cases dst with
 |none=>exact (he t).keep k c
 |some d=>
  simp only [z5g] at e
  have b:d<tm.size:=by rw [g]; exact eAp (Nat.lt_succ_self d) (eAh e)
  simp only [y4f,y3o]
  by_cases a:d=t
  ·subst a
   rw [z08]
   have:(tm.setIfInBounds d v).getD d undef=v:=by simp [eAk,b]
   rw [this]; exact f
  ·rw [z1r _ _ _ _ a]
   have:(tm.setIfInBounds d v).getD t undef=tm.getD t undef:=by simp [eAk,eDc,a]
   rw [this]; exact (he t).keep k c
theorem z8h (tm:Array Value) (dst:Option Tmp) (v:Value):(y3o tm dst v).size=tm.size:=by
 cases dst<;>simp [y3o]
theorem z18.step {s:AS} {tm:Array Value} (b:z18 P ρ s tm w) {new:Nat} (e:new=s.heap.length) {dst:Option Tmp} (k:z5g s.nt dst=true) {res:Res} {v:Value} {w':World} {ρ':Rho}
  (g:z0n ρ' (z0d ρ' (z07 s.heap res.u)) w' res.v v) (j:z0b P ρ' (z07 s.heap res.u) w') (c:Ext (fun id=>id≠new) ρ s.heap w ρ' (z07 s.heap res.u) w') (hr:ρ'=ρ∨∃ o,(new,o)∈res.u):
  z18 P ρ' (z5l s dst res.v res.u) (y3o tm dst v) w':=by
 obtain ⟨l,f⟩:=z5e res.u s.heap
 have a:ρ new=none:=by
  cases h:ρ new with
  |none=>rfl
  |some L=>have:=b.dom new (by rw [h]; simp); omega
 refine ⟨j,y18 c.keep (fun id L d=>?_) b.env b.size k g,by rw [z8h]; exact b.size,fun id hid=>?_⟩
 ·rw [c.rho id (by rintro rfl; rw [a] at d; cases d)]; exact d
 ·show id<(z07 s.heap res.u).length
  by_cases he:id=new
  ·subst he
   rcases hr with rfl|⟨o,i⟩
   ·exact absurd a hid
   ·exact f _ _ i
  ·rw [c.rho id he] at hid
   have:=b.dom id hid; omega
structure y4a (P:Program) (n:Nat) (ops:Array Oper) (l:List Nat) (s:AS) (Q:AS→Prop):Prop where
 run:∀ (b:Frame) (k:List Item) (cs:List Frame) (ρ:Rho) (tm:Array Value) (ds:List Deferred) (w:World) (B:Nat),z18 P ρ s tm w→z4h b.roundOf B ρ.fr w ds→
  ∃ s' ρ' tm' w',Q s'∧z18 P ρ' s' tm' w'∧z4h b.roundOf B ρ'.fr w' ds∧s'.nt=s.nt∧Ext (· <n) ρ s.heap w ρ' s'.heap w'∧Steps P (lone (b.on tm ds (.inRegion ops l::k)) cs w) (lone (b.on tm' ds k) cs w')
theorem z7j {n:Nat} {ops:Array Oper} {s:AS} {Q:AS→Prop} (h:Q s):y4a P n ops [] s Q:=
 ⟨fun b k cs ρ tm ds w B c a=>⟨s,ρ,tm,w,h,c,a,rfl,Ext.refl _ _ _ _, .one z84⟩⟩
def z6j (ops:List Oper) (env:List (Nat×AV)):Option (Nat×Bool)→Option Bool
 |none=>some true
 |some (j,a)=>match z19 ops j with
  |some o=>match o.dst with
   |some d=>match z00 env d with
    | .d (.bool t)=>some (t==a)
    | .tuple []=>some false
    |_=>none
   |none=>none
  |none=>none
theorem x2v {O:Nat→Prop}:z0n ρ O w (.tuple []) undef:= .tuple [] #[] rfl (by simp)
theorem z5f {ops:Array Oper} {s:AS} {tm:Array Value} (p:z18 P ρ s tm w) {o:Oper} {b:Bool} (hg:z6j ops.toList s.env o.guard=some b):Region.wanted o (yielded ops tm)=b:=by
 unfold Region.wanted
 cases h:o.guard with
 |none=>rw [h] at hg; simp [z6j] at hg; subst hg; rfl
 |some g=>
  obtain ⟨j,m⟩:=g
  rw [h] at hg
  simp only [z6j] at hg
  split at hg
  ·rename_i n e
   split at hg
   ·rename_i d l
    split at hg
    ·rename_i t k
     cases hg
     rw [z1s] at e
     have a:=p.env d
     rw [k] at a
     have a:=w0j a
     have i:yielded ops tm j=some t:=by
      have c:ops[j]?=some n:=by simpa using e
      have:tm[d]?=some (.bool t):=by
       rw [eAk] at a
       cases f:tm[d]? with
       |none=>rw [f] at a; simp [undef] at a
       |some u=>rw [f] at a; simp at a; rw [a]
      simp [yielded,c,l,this]
     simp [i]
    ·rename_i k
     cases hg
     rw [z1s] at e
     have a:=p.env d
     rw [k] at a
     have i:yielded ops tm j=none:=by
      have c:ops[j]?=some n:=by simpa using e
      cases f:tm[d]? with
      |none=>simp [yielded,c,l,f]
      |some u=>
       rw [eAk,f] at a
       simp only [eBb] at a
       cases a with|tuple _ q r _=>
       simp [yielded,c,l,f]
     simp [i]
    ·cases hg
   ·cases hg
  ·cases hg
theorem x3y {T:TypeId→Option TI} (hT:y1c P T) {G:Nat→Option (List D)} (M:GOk P G) {n:Nat} {ops:Array Oper} {i:Nat} {rest:List Nat} {s:AS} {Q:AS→Prop} {o:Oper} (I:ops[i]?=some o) (hg:z6j ops.toList s.env o.guard=some true) (W:n≤s.heap.length)
  {q:Bool} {r:List D} {ra:List AV} {res:Res} (C:(z1q std T s.env s.heap o.op).ok q r ra) (l:z01 std T G s.env s.heap s.heap.length q r ra o.op=some res) (m:res.c=true) (K:z5g s.nt o.dst=true)
  (h:y4a P n ops rest (z5l s o.dst res.v res.u) Q):y4a P n ops (i::rest) s Q:=⟨by
 intro b k cs ρ tm ds w B d N
 have a:ρ s.heap.length=none:=by
  cases H:ρ s.heap.length with
  |none=>rfl
  |some L=>have:=d.dom s.heap.length (by rw [H]; simp); omega
 obtain ⟨v,y,ρ',e,E,J,j,F⟩:=x77 hT M d.heap a d.env C l m
 have t:=d.step rfl K E J j F
 have p:=N.keep d.heap j
 obtain ⟨z,ρ2,g,x,A,V,U,S,R,O⟩:=h.run b k cs ρ' _ ds y B t p
 have f:∀ c,o.op≠ .defer c:=by
  intro c m; rw [m] at l; simp [z01] at l
 exact ⟨z,ρ2,g,x,A,V,U,S,(j.mono (fun id (hid:id<n)=>by show id≠s.heap.length; omega)).trans R, .head (y1s I (z5f d hg) f e) O⟩⟩
theorem w4k {n:Nat} {ops:Array Oper} {i:Nat} {rest:List Nat} {s:AS} {Q:AS→Prop} {o:Oper} (j:ops[i]?=some o) (hg:z6j ops.toList s.env o.guard=some false) (l:z5g s.nt o.dst=true)
  (h:y4a P n ops rest (z5l s o.dst (.tuple []) []) Q):y4a P n ops (i::rest) s Q:=⟨by
 intro b k cs ρ tm ds w B d m
 have c:z18 P ρ (z5l s o.dst (.tuple []) []) (y3o tm o.dst undef) w:=
  d.step (new:=s.heap.length) rfl (res:=⟨true, .tuple [],[]⟩) l x2v d.heap (Ext.refl _ _ _ _) (.inl rfl)
 obtain ⟨f,ρ2,a,e,g,u,t,r,q,p⟩:=h.run b k cs ρ _ ds w B c m
 exact ⟨f,ρ2,a,e,g,u,t,r,q, .head (y85 j (z5f d hg)) p⟩⟩
def z04 (ρ:Rho) (O:Nat→Prop) (w:World) (xs:List AV) (vs:Array Value):Prop:=vs.size=xs.length∧∀ (i:Nat) (x:AV),xs[i]?=some x→z0n ρ O w x (vs.getD i undef)
theorem z04.append {O:Nat→Prop} {xs e:List AV} {f vs:Array Value} (d:z04 ρ O w xs f) (g:z04 ρ O w e vs):z04 ρ O w (xs++e) (f++vs):=by
 refine ⟨by simp [d.1,g.1],fun i x a=>?_⟩
 rw [eBf] at a
 rw [eAk,Array.getElem?_append,d.1]
 split at a
 ·rename_i b
  rw [if_pos b, ←eAk]
  exact d.2 i x a
 ·rename_i c
  rw [if_neg c, ←eAk]
  exact g.2 _ x a
structure z3m (P:Program) (f:FuncId) (args:List AV) (h:List AO) (r:AV) (h':List AO):Prop where
 run:∀ (ρ:Rho) (vs:Array Value) (w:World) (cs:List Frame),z0b P ρ h w→Dom ρ h→z04 ρ (z0d ρ h) w args vs→
  ∃ ρ' v w' fr,Steps P (lone (Frame.enter P f vs .normal) cs w) (lone fr cs w')∧fr.fn=f∧fr.leaving P w' (.returned v)∧z0n ρ' (z0d ρ' h') w' r v∧z0b P ρ' h' w'∧Dom ρ' h'∧Ext (· <h.length) ρ h w ρ' h' w'
def z3d (P:Program) (f:FuncId):Prop:=∀ (args:Array Value) (w:World),(callFunc f args).run P w= .ok (.enter f args) w
theorem w4l {n:Nat} {ops:Array Oper} {i:Nat} {rest:List Nat} {s:AS} {Q:AS→Prop} {o:Oper} (M:ops[i]?=some o) (hg:z6j ops.toList s.env o.guard=some true) (hn:n≤s.heap.length) {f:Operand} {args:Array Operand} {ts:Array TypeId}
  (p:o.op= .call ⟨.value f,args,ts⟩) {g:FuncId} {first captured:List AV} (X:z0p s.env f= .clo (.func g) first captured) (E:z3d P g) {r:AV} {h':List AO} (m:z3m P g (first++z06 s.env args.toList++captured) s.heap r h') (N:s.heap.length≤h'.length) (Y:z5g s.nt o.dst=true)
  (h:y4a P n ops rest ⟨y4f s.env o.dst r,h',s.nt⟩ Q):y4a P n ops (i::rest) s Q:=⟨by
 intro b k cs ρ tm ds w B a Z
 have j:=z0j a.env f
 rw [X] at j
 obtain ⟨d,e,C,A,G⟩:∃ d e,opv tm f= .func (.func g) d e∧z04 ρ (z0d ρ s.heap) w first d∧z04 ρ (z0d ρ s.heap) w captured e:=by
  generalize K:opv tm f=v at j
  cases j with
  |clo _ _ _ d e a1 a2 a3 a4=>exact ⟨d,e,rfl,⟨a1,a3⟩,⟨a2,a4⟩⟩
 have H:z04 ρ (z0d ρ s.heap) w (z06 s.env args.toList) (args.map (opv tm)):=z67 a.env args
 have t:=(A.append H).append G
 have l:(execOp (opv tm) o).run P w= .ok (.enter g (d++args.map (opv tm)++e)) w:=by
  have:=E (d++args.map (opv tm)++e) w
  simp only [Array.append_assoc] at this
  simp [execOp,p,resolve,Deferred.ofValue,C,invoke,this]
 obtain ⟨ρ',v,J,fr,y,W,z,K,V,F,u⟩:=m.run ρ _ w (b.on tm ds (.inRegion ops (i::rest)::k)::cs) a.heap a.dom t
 have U:∀ id L,ρ id=some L→ρ' id=some L:=fun id L O=>by
  have hid:id<s.heap.length:=a.dom id (by rw [O]; simp)
  rw [u.rho id hid]; exact O
 have I:z18 P ρ' ⟨y4f s.env o.dst r,h',s.nt⟩ (y3o tm o.dst v) J:=
  ⟨V,y18 u.keep U a.env a.size Y K,by rw [z8h]; exact a.size,F⟩
 obtain ⟨S,ρ2,x,R,T,g1,g2,g3,g4,g5⟩:=h.run b k cs ρ' _ ds J B I (Z.keep a.heap u)
 have q:∀ c,o.op≠ .defer c:=by rw [p]; simp
 refine ⟨S,ρ2,x,R,T,g1,g2,g3,(u.mono (fun id (hid:id<n)=>by show id<s.heap.length; omega)).trans g4,?_⟩
 refine .head (y1t M (z5f a hg) q l) (Steps.trans y (.head (step_leave_returned z) ?_))
 rw [z8s M]
 exact g5⟩
theorem z5v {n:Nat} {id:Nat} {ops:Array Oper} {s:AS} {Q:AX→AS→Prop} (h:y4a P n ops (List.range ops.size) s (Q .normal)):z54 P n (.region id ops false) s Q:=⟨by
 intro b k cs ρ tm ds w B g f
 obtain ⟨d,ρ2,a,c,e,o,m,l,j,i⟩:=h.run b k cs ρ tm ds w B g f
 exact ⟨.normal,d,ρ2,a,ds,c,e,o,m,l,j, .head w30 i⟩⟩
def x8h (T:TypeId→Option TI) (s:AS):ResultVar→Option AV
 | .tmp t=>some (z00 s.env t)
 | .cell a t=>match T t with
  |some ti=>match z00 s.env a with
   | .bptr id off=>match z4a ti s.heap [] [] (.bptr id off) with
    |some r=>some r.v
    |none=>none
   |_=>none
  |none=>none
def y9a (T:TypeId→Option TI) (s:AS):List ResultVar→Option (List AV)
 |[]=>some []
 |x::r=>match x8h T s x,y9a T s r with
  |some v,some l=>some (v::l)
  |_,_=>none
def v8f (T:TypeId→Option TI) (s:AS) (l:List ResultVar):Option AV:=
 match y9a T s l with
 |some [v]=>some v
 |some a=>some (.tuple a)
 |none=>none
theorem w06 {ti:TI} {h:List AO} {r:List D} {ra:List AV} {a:AV} {res:Res} (b:z4a ti h r ra a=some res):res.u=[]:=by
 unfold z4a at b
 split at b
 ·split at b
  ·split at b
   ·obtain ⟨_,_,rfl⟩:=z3i b; rfl
   ·cases b
  ·cases c:z8p r ti.size with
   |false=>rw [c] at b; cases b
   |true=>rw [c] at b; obtain ⟨_,_,rfl⟩:=z3i b; rfl
  ·cases b
 ·split at b
  ·split at b
   ·obtain ⟨_,_,rfl⟩:=z3i b; rfl
   ·cases b
  ·split at b
   ·obtain ⟨_,_,rfl⟩:=z3i b; rfl
   ·cases b
  ·cases b
 ·cases c:z8p r ti.size with
  |false=>rw [c] at b; cases b
  |true=>rw [c] at b; obtain ⟨_,_,rfl⟩:=z3i b; rfl
 ·split at b
  ·obtain ⟨_,_,rfl⟩:=z3i b; rfl
  ·cases b
 ·cases b
theorem x1d {T:TypeId} {ti:TI} (k:z7c P T ti) (hr:z0b P ρ h w) {id off:Nat} {s:Value} (A:z0n ρ (z0d ρ h) w (.bptr id off) s) {res:Res} (a:z4a ti h [] [] (.bptr id off)=some res):
  ∃ v,(Instr.loadAt T s).run P w= .ok v w∧z0n ρ (z0d ρ h) w res.v v:=by
 unfold z4a at a
 simp only at a
 split at a
 ·rename_i cells e
  split at a
  ·rename_i l C
   obtain ⟨x,f,rfl⟩:=z3i a
   cases A with
   |bptr _ _ L r=>
    obtain ⟨_,i⟩:=hr.obj id L r
    rw [e] at i
    obtain ⟨q,c,t,z,y⟩:=i
    obtain ⟨m,hg⟩:=z3k C
    obtain ⟨cs,B,F,E⟩:=z5w (R:=z0n ρ (z0d ρ h) w) (fun j=>c[L.base+off+j]?) l (fun j x f=>by
     have p:j<ti.size:=by rw [←m]; exact (eAa.1 f).1
     obtain ⟨v,n,g⟩:=y (off+j) x (by rw [hg j p]; exact f)
     exact ⟨v,by rw [eBv]; exact n,g⟩)
    obtain ⟨v,d,b⟩:=z5r f cs B E
    refine ⟨v,?_,b⟩
    show (loadVar T _).run P w=_
    exact z3v k.size k.agg w _ _ cs (B.trans m) (fun j v n=>z6f z (F j v n)) v d
  ·cases a
 ·rename_i es e
  cases o:z8p ([]:List D) ti.size with
  |false=>rw [o] at a; cases a
  |true=>
  rw [o] at a
  have m:=z8o o
  obtain ⟨x,f,rfl⟩:=z3i a
  cases A with
  |bptr _ _ L r=>
   obtain ⟨_,i⟩:=hr.obj id L r
   rw [e] at i
   obtain ⟨G,c,t,z,u,y⟩:=i
   obtain ⟨v,d,b⟩:=z3w (ρ:=ρ) (O:=z0d ρ h) (w:=w) f [] rfl (by simp)
   refine ⟨v,?_,b⟩
   show (loadVar T _).run P w=_
   exact z3v k.size k.agg w _ _ [] m (by simp) v d
 ·cases a
def w38 (tm:Array Value):ResultVar→Sem Value
 | .tmp t=>pure (tm.getD t undef)
 | .cell a t=>do loadVar t (←asAddr (tm.getD a undef))
theorem w1n (fn:Func) (tm:Array Value):results fn tm=(do
  let vs←fn.results.mapM (w38 tm)
  pure (if h:vs.size=1 then vs[0] else .tuple vs)):=by
 unfold results
 congr 1
theorem w1m {T:TypeId→Option TI} (hT:y1c P T) {s:AS} {tm:Array Value} (C:z18 P ρ s tm w) {fn:Func} {r:AV} (hr:v8f T s fn.results.toList=some r):
  ∃ v,(results fn tm).run P w= .ok v w∧z0n ρ (z0d ρ s.heap) w r v:=by
 have one:∀ (x:ResultVar) (a:AV),x8h T s x=some a→∃ v,(w38 tm x).run P w= .ok v w∧z0n ρ (z0d ρ s.heap) w a v:=by
  intro x a c
  cases x with
  |tmp t=>simp [x8h] at c; subst c; exact ⟨_,rfl,C.env t⟩
  |cell p t=>
   simp only [x8h] at c
   split at c
   ·rename_i ti z
    split at c
    ·rename_i id off Q
     split at c
     ·rename_i N k
      cases c
      have j:=C.env p
      rw [Q] at j
      obtain ⟨v,y,I⟩:=x1d (hT _ _ z) C.heap j k
      refine ⟨v,?_,I⟩
      obtain ⟨A,m⟩:∃ A,tm.getD p undef= .pointer (some A):=by
       generalize W:tm.getD p undef=V at j
       cases j with
       |bptr _ _ L X=>exact ⟨_,rfl⟩
      rw [m] at y
      show (asAddr (tm.getD p undef)>>=fun a=>loadVar t a).run P w=_
      rw [m]
      simp only [Sem.run_bind,asAddr,Sem.run_pure,Result.andThen_ok]
      simpa [Instr.loadAt,Instr.sureAddr] using y
     ·cases c
    ·cases c
   ·cases c
 have all:∀ (l:List ResultVar) (d:List AV),y9a T s l=some d→∃ b:List Value,(l.mapM (w38 tm)).run P w= .ok b w∧b.length=d.length∧∀ (i:Nat) (a:AV) (v:Value),d[i]?=some a→b[i]?=some v→z0n ρ (z0d ρ s.heap) w a v:=by
  intro l
  induction l with
  |nil=>intro d h; simp [y9a] at h; subst h; exact ⟨[],by simp,rfl,by simp⟩
  |cons x l O=>
   intro d h
   simp only [y9a] at h
   split at h
   ·rename_i a J S has
    cases h
    obtain ⟨v,y,I⟩:=one x a S
    obtain ⟨b,H,G,F⟩:=O J has
    refine ⟨v::b,by simp only [List.mapM_cons,Sem.run_bind,y,Result.andThen_ok,H,Sem.run_pure],by simp [G],fun i U M g f=>?_⟩
    cases i with
    |zero=>simp at g f; subst g; subst f; exact I
    |succ i=>exact F i U M (by simpa using g) (by simpa using f)
   ·cases h
 unfold v8f at hr
 have o:∀ (d:List AV),y9a T s fn.results.toList=some d→∃ b:List Value,(results fn tm).run P w= .ok (if h:b.toArray.size=1 then b.toArray[0] else .tuple b.toArray) w∧b.length=d.length∧∀ (i:Nat) (a:AV) (v:Value),d[i]?=some a→b[i]?=some v→z0n ρ (z0d ρ s.heap) w a v:=by
  intro d has
  obtain ⟨b,H,G,F⟩:=all _ d has
  refine ⟨b,?_,G,F⟩
  rw [w1n,Array.mapM_eq_mapM_toList]
  simp only [Sem.run_bind,Sem.run_map,H,Result.andThen_ok,Sem.run_pure]
 split at hr
 ·rename_i v j
  cases hr
  obtain ⟨b,q,n,E⟩:=o _ j
  match b,n with
  |[u],_=>exact ⟨u,by simpa using q,E 0 _ u rfl rfl⟩
 ·rename_i d B has
  cases hr
  obtain ⟨b,q,n,E⟩:=o _ has
  have R:b.toArray.size≠1:=by
   intro e
   rw [List.size_toArray,n] at e
   match d,e with
   |[a],_=>exact B a rfl
  rw [dif_neg R] at q
  refine ⟨_,q, .tuple _ _ (by simp [n]) fun i x c=>?_⟩
  have K:i<b.length:=by rw [n]; exact (eAa.1 c).1
  have:=E i x b[i] c (eAb K)
  rw [show b.toArray.getD i undef=b[i] by simp [eAk,K]]
  exact this
 ·cases hr
def v0f:Nat→List AV→List (Nat×AV)
 |_,[]=>[]
 |i,x::r=>(i,x)::v0f (i+1) r
theorem w5n (l:List AV):∀ (i t:Nat),z00 (v0f i l) t=if i≤t then (l[t - i]?).getD .bot else .bot:=by
 induction l with
 |nil=>intro i t; simp [v0f,z00]
 |cons x l c=>
  intro i t
  simp only [v0f,z00]
  cases a:Nat.beq i t with
  |true=>have:=eAd a; subst this; simp
  |false=>
   have d:i≠t:=by rintro rfl; simp at a
   simp only [cond_false]
   rw [c]
   by_cases b:i+1≤t
   ·rw [if_pos b,if_pos (by omega),show t - i=(t - (i+1))+1 by omega]; simp
   ·rw [if_neg b,if_neg (by omega)]
theorem z1k.cells {O:Nat→Prop} {w w':World} (p:∀ (a:Addr) (v:Value),w.cell? a=some v→w'.cell? a=some v) {x:D} {v:Value} (h:z1k O w x v):z1k O w' x v:=by
 induction h with
 |bool b=>exact .bool b
 |int k n=>exact .int k n
 |str s=>exact .str s
 |nilp=>exact .nilp
 |nilm=>exact .nilm
 |nilf=>exact .nilf
 |nili=>exact .nili
 |agg ds q u h g=>exact .agg ds q u g
 |lnil f z a c h=>exact .lnil f z a c h
 |list full es b o z c t d hO l y i cell A e h g=>exact .list full es b o z c t d hO l y i cell A (fun j m=>p _ _ (e j m)) g
 |ref r b o d hO cell e h g=>exact .ref r b o d hO cell (fun j m=>p _ _ (e j m)) g
theorem z0n.cells {ρ:Rho} {O:Nat→Prop} {w w':World} (f:∀ (a:Addr) (v:Value),w.cell? a=some v→w'.cell? a=some v) (F:w.heap.size≤w'.heap.size) (Q:∀ b m,z1a w b=some m→z1a w' b=some m) {x:AV} {v:Value} (h:z0n ρ O w x v):z0n ρ O w' x v:=by
 induction h with
 |bot v=>exact .bot v
 |d h=>exact .d (h.cells f)
 |bptr id off L h=>exact .bptr id off L h
 |ptr id i off L h=>exact .ptr id i off L h
 |lptr r off b o g hO cell e B=>exact .lptr r off b o (eAp g F) hO cell (fun j M=>f _ _ (e j M)) (fun j x A=>(B j x A).cells f)
 |wptr es off b o z g hO y e=>exact .wptr es off b o z (eAp g F) hO y fun i r j x N A=>let ⟨v,I,B⟩:=e i r j x N A; ⟨v,f _ _ I,B.cells f⟩
 |perm es E v J h=>exact .perm es E v J (h.cells f)
 |slice id z off len cap L a c h y R e l=>
  refine .slice id z off len cap L a c h y R ?_ l
  rcases e with e|⟨e,n,K,C⟩
  ·exact .inl e
  ·exact .inr ⟨e,n,Q _ _ K,C⟩
 |nils id z off cap a f=>exact .nils id z off cap a f
 |map id L h=>exact .map id L h
 |yld id L h=>exact .yld id L h
 |clo fn S cs G H P f U T u s=>exact .clo fn S cs G H P f u s
 |iface t x v h k=>exact .iface t x v k
 |agg p q l h k=>exact .agg p q l k
 |tuple p q l h k=>exact .tuple p q l k
theorem z0b.cells {ρ : Rho} {h : List AO} {w w' : World} (hr : z0b P ρ h w) (hc : ∀ (a : Addr) (v : Value), w.cell? a = some v → w'.cell? a = some v) (hs : w.heap.size ≤ w'.heap.size) (hb : ∀ b m, z1a w b = some m → z1a w' b = some m)
    (ho : ∀ b, z0d ρ h b → w'.heap[b]? = w.heap[b]?) : z0b P ρ h w' where
  obj := fun id L hL => by
    obtain ⟨h1, h2⟩ := hr.obj id L hL
    refine ⟨eAp h1 hs, ?_⟩
    by_cases hl : (z0f h id).live = true
    · have hbk := ho _ (.inr ⟨id, L, hL, hl, rfl⟩)
      cases hno : z0f h id with
      | dead => trivial
      | box cells =>
        rw [hno] at h2
        obtain ⟨hbase, c, t, hcb, hj⟩ := h2
        exact ⟨hbase, c, t, hbk ▸ hcb, fun j x hx => let ⟨v, hv, hvr⟩ := hj j x hx; ⟨v, hv, hvr.cells hc hs hb⟩⟩
      | row es =>
        rw [hno] at h2
        obtain ⟨hz, c, t, hcb, hl', hj⟩ := h2
        exact ⟨hz, c, t, hbk ▸ hcb, hl', fun i r j x hi hx => let ⟨v, hv, h1, hvr⟩ := hj i r j x hi hx; ⟨v, hv, h1, hvr.cells hc⟩⟩
      | arow es =>
        rw [hno] at h2
        obtain ⟨hz, c, t, hcb, hl', hj⟩ := h2
        exact ⟨hz, c, t, hbk ▸ hcb, hl', fun i r j x hi hx => let ⟨v, hv, h1, hvr⟩ := hj i r j x hi hx; ⟨v, hv, h1, hvr.cells hc hs hb⟩⟩
      | map es =>
        rw [hno] at h2
        obtain ⟨en, clk, hcb, hl', hj⟩ := h2
        exact ⟨en, clk, hbk ▸ hcb, hl', fun i k x hi => let ⟨e, he, h1, hvr⟩ := hj i k x hi; ⟨e, he, h1.cells hc, hvr.cells hc⟩⟩
      | loop st pd g pos nt env =>
        rw [hno] at h2
        obtain ⟨x, ps, asg, body, hcd, tm, ds, f, hcb, hl', hj⟩ := h2
        exact ⟨x, ps, asg, body, hcd, tm, ds, f, hbk ▸ hcb, hl', fun t => (hj t).cells hc hs hb⟩
    · cases hno : z0f h id <;> simp_all [AO.live, z1c]
  inj := hr.inj
  fr := fun b hf => eAp (hr.fr b hf) hs
  sep := hr.sep
  gl :=
    { lay := fun g cells hg => by
        obtain ⟨a, b, s, c⟩ := hr.gl.lay g cells hg
        refine ⟨eAp a hs, b, hb _ _ s, fun k x hx => ?_⟩
        obtain ⟨v, hv, hd⟩ := c k x hx
        exact ⟨v, hc _ _ hv, hd⟩
      shp := fun g b hg => by
        obtain ⟨a, b, v, hv, h⟩ := hr.gl.shp g b hg
        exact ⟨eAp a hs, b, v, hc _ _ hv, h⟩ }
theorem w8w {P:Program} {b:Nat} {ds:List Deferred} {w:World} (h:w.heap[b]?=some (.deferred (some ds))):(Instr.takeDeferred b).run P w= .ok ds (World.setObj w b (.deferred none)):=by
 simp [Instr.takeDeferred,getObj,setObj,Sem.run,h]; rfl
theorem v2p (B:Nat) (F:Nat→Prop):∀ (ds:List Deferred) (fr:Frame) (cs:List Frame) (w:World),fr.mode= .returning→fr.defers=ds→z4h none B F w ds→∃ w',Steps P (lone fr cs w) (lone { fr with defers:=[] } cs w')∧w'.os=w.os∧w'.tape=w.tape∧w'.output=w.output∧w'.heap.size=w.heap.size∧
  (∀ b,(∀ d∈ds,d.target≠ .collected b)→w'.heap[b]?=w.heap[b]?)∧w'.drawn=w.drawn
 |[],fr,cs,w,hm,j,a=>⟨w,by rw [←j]; exact Steps.refl _ _,rfl,rfl,rfl,rfl,fun _ _=>rfl,rfl⟩
 |d::ds,fr,cs,w,hm,j,a=>by
  obtain ⟨r,e,hr,C⟩:=a.mark d (by simp)
  have s:=w8w (P:=P) hr
  have f:=step_collected (cs:=cs) (by rw [hm]; simp) j (by rw [e]) s
  have p:r<w.heap.size:=(eAe.1 hr).1
  obtain ⟨w',A,z,y,x,v,u,t⟩:=v2p B F ds { fr with defers:=ds } cs (World.setObj w r (.deferred none)) hm rfl ⟨(eCx.1 a.nodup).2,fun m c=>by
   obtain ⟨n,k,g,i⟩:=a.mark m (by simp [c])
   refine ⟨n,k,?_,i⟩
   have h:n≠r:=by
    rintro rfl
    rw [←e] at k
    subst k
    exact (eCx.1 a.nodup).1 c
   rw [z15 _ _ _ _ h]; exact g,a.below,by rw [z10]; exact a.le,fun l q=>by cases q⟩
  refine ⟨w', .head (by simpa using f) A,z,y,x,by rw [v,z10],fun b o=>?_,t⟩
  rw [u b (fun m c=>o m (by simp [c]))]
  have:b≠r:=by rintro rfl; exact o d (by simp) (by rw [e])
  exact z15 _ _ _ _ this
theorem z69.init {O:Nat→Prop} {args:List AV} {vs:Array Value} (c:z04 ρ O w args vs) (nt:Nat):z69 ρ O w (v0f 0 args) (vs++Array.replicate (nt - vs.size) undef):=by
 intro t
 rw [w5n,if_pos (eAo _),eFk]
 cases b:args[t]? with
 |none=>exact .bot _
 |some x=>
  have:=c.2 t x b
  have a:t<vs.size:=by rw [c.1]; exact (eAa.1 b).1
  rw [eAk,Array.getElem?_append_left a, ←eAk]
  simpa using this
theorem y0s {T : TypeId → Option TI} (hT : y1c P T) {f : FuncId} {fn : Func} (z : P.funcs[f]? = some fn) {c : Code} (u : fn.body = some c) {args : List AV} {h : List AO} {r : AV} {h' : List AO} {nt : Nat} (U : fn.ntmps = nt) (hle : args.length ≤ nt)
    (hc : z54 P h.length c ⟨v0f 0 args, h, nt⟩ (fun e s => (e = .normal ∨ e = .ret) ∧ v8f T s fn.results.toList = some r ∧ s.heap = h')) : z3m P f args h r h' := ⟨by
  intro ρ p w cs V W ha
  have q : (Frame.enter P f p .normal).on (p ++ Array.replicate (nt - p.size) undef) [] [.code c] = Frame.enter P f p .normal := by
    simp [Frame.enter, Frame.on, z, u, U]
  have h1 : z18 P ρ ⟨v0f 0 args, h, nt⟩ (p ++ Array.replicate (nt - p.size) undef) w :=
    ⟨V, z69.init ha nt, by simp [ha.1]; omega, W⟩
  obtain ⟨e, M, ρ', y, i, F, ⟨q1, q2, q3⟩, H, G, g3, o, Y⟩ := hc.run (Frame.enter P f p .normal) [] cs ρ _ [] w w.heap.size h1 ⟨List.nodup_nil, by simp, V.fr, eAj _, fun l hl => by cases hl⟩
  subst q3
  rw [q] at Y
  obtain ⟨j, R⟩ : ∃ j, Steps P (lone (Frame.enter P f p .normal) cs w) (lone { (Frame.enter P f p .normal).on y i j with mode := .returning } cs F) := by
    rcases q1 with rfl | rfl
    · exact ⟨_, Steps.trans Y (.one (v83 rfl))⟩
    · obtain ⟨k', hs⟩ := Y
      exact ⟨_, Steps.trans hs (.one (v82 rfl))⟩
  obtain ⟨E, u1, u2, u3, u4, u5, K, u7⟩ := v2p (P := P) _ _ i { (Frame.enter P f p .normal).on y i j with mode := .returning } cs F rfl rfl G
  have I : ∀ b, z0d ρ' M.heap b → ∀ d ∈ i, d.target ≠ .collected b := by
    intro b X d A g
    obtain ⟨N, C, k, hf'⟩ := G.mark d A
    rw [C] at g
    cases g
    exact x8s H.heap (fun z => by have := G.below _ z; omega) X k
  have B : ∀ b m, z1a F b = some m → z1a E b = some m := by
    intro b m hm
    have : ∀ d ∈ i, d.target ≠ .collected b := by
      intro d A g
      obtain ⟨N, C, k, _⟩ := G.mark d A
      rw [C] at g; cases g
      simp [z1a, k] at hm
    unfold z1a; rw [K b this]; exact hm
  have x : ∀ b, b < w.heap.size → E.heap[b]? = F.heap[b]? := by
    intro b u
    refine K b fun d A g => ?_
    obtain ⟨N, C, _, hB⟩ := G.mark d A
    rw [C] at g; cases g
    omega
  have n : ∀ (a : Addr) (v : Value), F.cell? a = some v → E.cell? a = some v := by
    intro a v L
    have : ∀ d ∈ i, d.target ≠ .collected a.block := by
      intro d A g
      obtain ⟨N, C, k, _⟩ := G.mark d A
      rw [C] at g; cases g
      unfold World.cell? at L
      rw [k] at L; cases L
    rw [z2m (w := F) (K _ this)]; exact L
  have J : z0b P ρ' M.heap E := H.heap.cells n (by omega) B (fun b u => K b (I b u))
  have Z : z18 P ρ' M y E := ⟨J, fun t => (H.env t).cells n (by omega) B, H.size, H.dom⟩
  obtain ⟨v, Q, O⟩ := w1m hT Z q2
  refine ⟨ρ', v, E, _, Steps.trans R u1, rfl, ⟨rfl, rfl, rfl, fn, z, Q⟩, O, J, H.dom, ?_⟩
  exact
    { os := u2.trans o.os
      tape := u3.trans o.tape
      output := u4.trans o.output
      keep :=
        { size := by rw [u5]; exact o.keep.size
          frame := fun b u S => (x b u).trans (o.keep.frame b u S)
          own := fun b u S => o.keep.own b u S
          shape := fun b m hm => B b m (o.keep.shape b m hm)
          drawn := by rw [u7]; exact o.keep.drawn }
      rho := o.rho
      fr := o.fr
      frs := fun b z => (x b (V.fr b z)).trans (o.frs b z) }⟩
end
end Go.Am
end
section
namespace Go.Am
inductive x2o:AV→Prop
 |bot:x2o .bot
 |d (x:D):x2o (.d x)
 |tuple (xs:List AV) (h:∀ (i:Nat) (x:AV),xs[i]?=some x→x2o x):x2o (.tuple xs)
 |agg (xs:List AV) (h:∀ (i:Nat) (x:AV),xs[i]?=some x→x2o x):x2o (.agg xs)
 |clo (fn:Fn) (fs cs:List AV) (h1:∀ (i:Nat) (x:AV),fs[i]?=some x→x2o x) (h2:∀ (i:Nat) (x:AV),cs[i]?=some x→x2o x):x2o (.clo fn fs cs)
theorem x2o.rel {ρ ρ':Rho} {O O':Nat→Prop} {w:World} (o:∀ b,O' b→O b) {x:AV} {v:Value} (p:x2o x) (h:z0n ρ O w x v):z0n ρ' O' w x v:=by
 induction p generalizing v with
 |bot=>exact .bot v
 |d x=>
  cases h with
  |d h=>exact .d (h.keep ⟨eAj _,fun _ _ _=>rfl,fun b _ q=>o b q,fun _ _ h=>h,z0u.refl _⟩)
 |tuple m e j=>
  cases h with
  |tuple _ n k l=>exact .tuple _ _ k fun i x e=>j i x e (l i x e)
 |agg m e j=>
  cases h with
  |agg _ n k l=>exact .agg _ _ k fun i x e=>j i x e (l i x e)
 |clo fn y cs u t g f=>
  cases h with
  |clo _ _ _ r s a b c d=>exact .clo _ _ _ _ _ a b (fun i x e=>g i x e (c i x e)) (fun i x e=>f i x e (d i x e))
def w7t (P:Program) (f:FuncId) (args:List AV) (r:AV):Prop:=z3m P f args [] r []
theorem w7t.at {P : Program} {f : FuncId} {args : List AV} {r : AV} (h : w7t P f args r) (I : ∀ (i : Nat) (x : AV), args[i]? = some x → x2o x) (hr : x2o r) (g : List AO) : z3m P f args g r g := ⟨by
  intro ρ B w cs k t l
  let m : Rho := ⟨fun _ => none, z0d ρ g⟩
  have H : z0b P m [] w := ⟨fun id L e => (by cases e), fun id C L J e => (by cases e), fun b a => z7i k a, fun id L e => (by cases e), k.gl.sub fun b a => a.elim id (fun ⟨id, L, e, _⟩ => (by cases e))⟩
  have j : ∀ b, z0d m [] b ↔ z0d ρ g b := fun b => ⟨fun a => a.elim id (fun ⟨id, L, e, _⟩ => (by cases e)), fun a => .inl a⟩
  obtain ⟨ρ', v, n, fr, o, s, p, E, F, A, d⟩ := h.run m B w cs H (fun id hid => absurd rfl hid) ⟨l.1, fun i x z => (I i x z).rel (fun b a => (j b).1 a) (l.2 i x z)⟩
  have q : ρ'.fr = z0d ρ g := d.fr
  have c : ∀ b, b < w.heap.size → n.heap[b]? = w.heap[b]? := by
    intro b a
    by_cases u : z0d ρ g b
    · exact d.frs b u
    · exact d.keep.frame b a (fun h => u ((j b).1 h))
  have y : z43 (z0d ρ g) (z0d ρ g) w n :=
    { size := d.keep.size
      frame := fun b a _ => c b a
      own := fun b _ h => h
      shape := d.keep.shape
      drawn := d.keep.drawn }
  refine ⟨ρ, v, n, fr, o, s, p, hr.rel (fun b a => .inl (by rw [q]; exact a)) E, k.of_keep y (fun b a => c b (z7i k a)), t, ?_⟩
  exact { os := d.os, tape := d.tape, output := d.output, keep := y, rho := fun _ _ => rfl, fr := rfl, frs := fun b G => c b (k.fr b G) }⟩
theorem z0b.ext {P:Program} {ρ:Rho} {h h':List AO} {w:World} (e:∀ id,z0f h id=z0f h' id) (hr:z0b P ρ h w):z0b P ρ h' w:=by
 have d:z0d ρ h=z0d ρ h':=by funext b; unfold z0d; simp only [e]
 refine ⟨fun id L c=>?_,fun id a L l k j g f=>hr.inj id a L l k j (by rw [e]; exact g) (by rw [e]; exact f),hr.fr,fun id L c i=>hr.sep id L c (by rw [e]; exact i),d▸hr.gl⟩
 have:=hr.obj id L c
 rw [←d, ←e]; exact this
theorem z4e {ρ:Rho} {h h':List AO} (e:∀ id,z0f h id=z0f h' id):z0d ρ h=z0d ρ h':=by funext b; unfold z0d; simp only [e]
def y9c (o:Op):List Nat:=o.operands.toList.filterMap fun| .tmp t=>some t|_=>none
def y9y (ops:List Oper):Option (Nat×Bool)→List Nat
 |none=>[]
 |some (j,_)=>match z19 ops j with
  |some o=>o.dst.toList
  |none=>[]
def z6t:Op→Bool
 | .load ..| .store ..| .lookup ..| .mapUpdate ..| .insert ..| .convert ..=>true
 | .call ⟨.builtin b,_,_⟩=>match b with
  | .min| .max=>false
  |_=>true
 | .call _=>true
 |_=>false
def y2h:Op→Bool
 | .store ..| .mapUpdate ..| .insert ..=>true
 | .call ⟨.builtin b,_,_⟩=>match b with
  | .min| .max| .len=>false
  |_=>true
 |_=>false
end Go.Am
end
section
namespace Go.Am
def z5h (o:Oper):List Nat:=(o.after.toList.filter (Region.binds .any)).map (·.on)
def z7k:List Nat→Nat→Nat
 |[],_=>0
 |x::_,0=>x
 |_::r,n+1=>z7k r n
def inB (s d:Nat):Bool:=Nat.beq (Nat.land (Nat.shiftRight s d) 1) 1
def w9u (b:List Nat):Nat→List Nat→Nat
 |a,[]=>a
 |a,d::r=>w9u b (bif inB a d then a else Nat.lor (Nat.lor (Nat.shiftLeft 1 d) (z7k b d)) a) r
def v54 (a:List Nat) (l:List Nat):Nat:=w9u a 0 l.reverse
def y1i:List Oper→List Nat→List Nat
 |[],a=>a
 |o::r,a=>y1i r (a++[v54 a (z5h o)])
def y3s (x:Nat):List Nat→Bool
 |[]=>false
 |y::l=>Nat.beq x y||y3s x l
theorem x9b {x:Nat} {l:List Nat}:y3s x l=true↔x∈l:=by
 induction l with
 |nil=>simp [y3s]
 |cons y l a=>
  simp only [y3s,eAt,a,eAm]
  constructor
  ·rintro (h|h)
   ·exact .inl (eAd h)
   ·exact .inr h
  ·rintro (rfl|h)
   ·exact .inl (eFd x)
   ·exact .inr h
def x82:Option Nat→List Nat→Bool
 |none,_=>true
 |some t,l=>!y3s t l
def y2d (ops:List Oper) (a b:Oper):Bool:=
 x82 a.dst (y9c b.op++y9y ops b.guard++b.dst.toList)&&x82 b.dst (y9c a.op++y9y ops a.guard++a.dst.toList)
def w2l:List Nat→List Nat→Bool
 |[],_=>true
 |x::l,m=>!y3s x m&&w2l l m
theorem y97:∀ {l m:List Nat},w2l l m=true→∀ id∈l,id∉m
 |[],_,_,id,h=>by cases h
 |x::l,m,h,id,hid=>by
  simp only [w2l,eAc,eDa] at h
  rcases eAm.1 hid with rfl|hid
  ·intro hm; rw [x9b.2 hm] at h; cases h.1
  ·exact y97 h.2 id hid
def x60:List (List Nat)→Nat→List Nat
 |[],_=>[]
 |x::_,0=>x
 |_::r,n+1=>x60 r n
theorem y0d:∀ (a:List (List Nat)) (x:List Nat) (j:Nat),j<a.length→x60 (a++[x]) j=x60 a j
 |[],_,_,h=>by simp at h
 |_::_,_,0,_=>rfl
 |_::a,x,j+1,h=>y0d a x j (by simpa using h)
theorem y0e:∀ (a:List (List Nat)) (x:List Nat),x60 (a++[x]) a.length=x
 |[],_=>rfl
 |_::a,x=>y0e a x
def x4f (ops:List Oper) (b:Oper) (c:Nat):Nat→Nat→List Oper→Bool
 |0,_,_=>true
 |n+1,i,a::l=>(Nat.testBit c i||y2d ops a b)&&x4f ops b c n (i+1) l
 |_+1,_,[]=>true
def x9h (ops:List Oper):Nat→List Oper→List Nat→Bool
 |_,[],_=>true
 |j,b::l,c::a=>x4f ops b c j 0 ops&&x9h ops (j+1) l a
 |_,_::_,[]=>false
def y8k (ops:List Oper):Bool:=x9h ops 0 ops (y1i ops [])
theorem y68 {ops:List Oper} {b:Oper} {d:Nat}:∀ {n i:Nat} {l:List Oper},x4f ops b d n i l=true→∀ (k:Nat) (a:Oper),k<n→l[k]?=some a→d.testBit (i+k)=true∨y2d ops a b=true
 |0,_,_,_,k,a,e,_=>by omega
 |n+1,i,[],_,k,a,_,c=>by simp at c
 |n+1,i,x::l,h,k,a,e,c=>by
  simp only [x4f,eAc,eAt] at h
  cases k with
  |zero=>simp at c; subst c; exact h.1
  |succ k=>
   have:=y68 h.2 k a (by omega) (by simpa using c)
   rw [show i+(k+1)=i+1+k by omega]; exact this
theorem y69 {ops:List Oper}:∀ {j:Nat} {l:List Oper} {a:List Nat},x9h ops j l a=true→∀ (k:Nat) (b:Oper),l[k]?=some b→x4f ops b (z7k a k) (j+k) 0 ops=true
 |j,[],_,_,k,b,c=>by simp at c
 |j,x::l,[],h,k,b,c=>by cases h
 |j,x::l,d::a,h,k,b,c=>by
  simp only [x9h,eAc] at h
  cases k with
  |zero=>simp at c; subst c; exact h.1
  |succ k=>
   have:=y69 h.2 k b (by simpa using c)
   rw [show j+(k+1)=j+1+k by omega]; exact this
def z71 (ops:List Oper):Bool:=(List.range ops.length).all fun i=>match ops[i]? with
 |some o=>(z5h o).all fun j=>Nat.blt j i
 |none=>true
theorem y9v {b:List Nat} {j:Nat}:∀ {l:List Nat} {a:Nat},(w9u b a l).testBit j=true→a.testBit j=true∨∃ d∈l,j=d∨(z7k b d).testBit j=true
 |[],a,h=> .inl h
 |d::r,a,h=>by
  simp only [w9u] at h
  rcases y9v h with h|⟨e,he,h'⟩
  ·cases c:inB a d with
   |true=>rw [c] at h; exact .inl h
   |false=>
    rw [c] at h
    have h:(((1<<<d)|||z7k b d)|||a).testBit j=true:=h
    rw [Nat.testBit_or,Nat.testBit_or,Nat.testBit_shiftLeft] at h
    simp only [eAt,eAc,decide_eq_true_eq] at h
    rcases h with (⟨g,f⟩|h)|h
    ·rw [Nat.testBit_one_eq_true_iff_self_eq_zero] at f
     exact .inr ⟨d,by simp, .inl (by omega)⟩
    ·exact .inr ⟨d,by simp, .inr h⟩
    ·exact .inl h
  ·exact .inr ⟨e,by simp [he],h'⟩
theorem w18 {a:List Nat} {j:Nat} {l:List Nat} (h:(v54 a l).testBit j=true):∃ d∈l,j=d∨(z7k a d).testBit j=true:=by
 rcases y9v h with h|⟨d,b,h⟩
 ·simp at h
 ·exact ⟨d,by simpa using b,h⟩
theorem z7x {l:List Nat} {x i:Nat} (h:i<l.length):z7k (l++[x]) i=z7k l i:=by
 induction l generalizing i with
 |nil=>simp at h
 |cons y l a=>cases i with
  |zero=>rfl
  |succ i=>simpa [z7k] using a (by simpa using h)
theorem y6r (l:List Nat) (x:Nat):z7k (l++[x]) l.length=x:=by
 induction l with
 |nil=>rfl
 |cons y l a=>simpa [z7k] using a
theorem v5f {l:List Nat} {i:Nat} (h:l.length≤i):z7k l i=0:=by
 induction l generalizing i with
 |nil=>rfl
 |cons y l a=>cases i with
  |zero=>simp at h
  |succ i=>simpa [z7k] using a (by simpa using h)
theorem w7q (l:List Oper):∀ (a:List Nat) (pre:List Oper),a.length=pre.length→
  (∀ (i:Nat) (o:Oper),pre[i]?=some o→∀ j,(z7k a i).testBit j=true→j∈z5h o∨∃ d∈z5h o,d<i∧(z7k a d).testBit j=true)→
  ∀ (i:Nat) (o:Oper),(pre++l)[i]?=some o→∀ j,(z7k (y1i l a) i).testBit j=true→j∈z5h o∨∃ d∈z5h o,d<i∧(z7k (y1i l a) d).testBit j=true:=by
 induction l with
 |nil=>intro a pre q h; simpa [y1i] using h
 |cons o l r=>
  intro a pre q h
  have key:=r (a++[v54 a (z5h o)]) (pre++[o]) (by simp [q]) (fun i p c j b=>by
   rw [eBf] at c
   split at c
   ·rename_i s
    rw [z7x (by omega)] at b
    rcases h i p c j b with u|⟨d,f,n,g⟩
    ·exact .inl u
    ·exact .inr ⟨d,f,n,by rw [z7x (by omega)]; exact g⟩
   ·rename_i t
    have m:i - pre.length=0:=by
     have:=(eAa.1 c).1; simp at this; omega
    rw [m] at c; simp at c; subst c
    have k:i=a.length:=by omega
    subst k
    rw [y6r] at b
    obtain ⟨d,f,b⟩:=w18 b
    rcases b with rfl|b
    ·exact .inl f
    ·by_cases e:d<a.length
     ·exact .inr ⟨d,f,e,by rw [z7x e]; exact b⟩
     ·rw [v5f (by omega)] at b; simp at b)
  simpa [y1i,eCr] using key
theorem y2e:∀ (l:List Oper) (a:List Nat),(y1i l a).length=a.length+l.length
 |[],a=>rfl
 |o::l,a=>by simp only [y1i,y2e l,eCv,eBn,eDn]; omega
structure Rec where
 v:AV
 u:List (Nat×AO)
def stF (s:AS) (ops:List Oper) (recs:List Rec):Nat→AS
 |0=>s
 |i+1=>match ops[i]?,recs[i]? with
  |some o,some r=>z5l (stF s ops recs i) o.dst r.v r.u
  |_,_=>stF s ops recs i
def x65:List (Nat×AO)→Nat→AO→AO
 |[],_,x=>x
 |(i,o)::r,id,x=>x65 r id (if i=id then o else x)
theorem y1z (u:List (Nat×AO)):∀ (h:List AO) (id:Nat),z0f (z07 h u) id=x65 u id (z0f h id):=by
 induction u with
 |nil=>intro h id; rfl
 |cons x u a=>
  intro h id
  obtain ⟨i,o⟩:=x
  simp only [z07,x65,a]
  congr 1
  split
  ·rename_i e; subst e; rw [z0h]
  ·rename_i e; rw [z0c _ _ _ _ e]
theorem z5t {u:List (Nat×AO)} {id:Nat} (h:∀ o,(id,o)∉u) (x:AO):x65 u id x=x:=by
 induction u generalizing x with
 |nil=>rfl
 |cons y u d=>
  obtain ⟨i,o⟩:=y
  have b:i≠id:=by rintro rfl; exact h o (by simp)
  simp only [x65,if_neg b]
  exact d (fun c a=>h c (by simp [a])) x
section
variable (s:AS) (ops:List Oper) (recs:List Rec) (S:Nat→Bool)
def y7y (t:Nat):Nat→AV
 |0=>z00 s.env t
 |i+1=>match ops[i]?,recs[i]? with
  |some o,some r=>if S i=true∧o.dst=some t then r.v else y7y t i
  |_,_=>y7y t i
def y5n (id:Nat):Nat→AO
 |0=>z0f s.heap id
 |i+1=>match ops[i]?,recs[i]? with
  |some _,some r=>if S i=true then x65 r.u id (y5n id i) else y5n id i
  |_,_=>y5n id i
end
theorem w8j (s:AS) (ops:List Oper) (recs:List Rec) (S:Nat→Bool) (t:Nat):∀ m,(∀ i,i<m→S i=true)→y7y s ops recs S t m=z00 (stF s ops recs m).env t:=by
 intro m
 induction m with
 |zero=>intro _; rfl
 |succ m a=>
  intro h
  have:=a (fun i f=>h i (by omega))
  simp only [y7y,stF]
  split
  ·rename_i o r c b
   simp only [z5l]
   cases g:o.dst with
   |none=>simp [y4f,this]
   |some d=>
    simp only [y4f]
    by_cases e:d=t
    ·subst e; rw [if_pos ⟨h m (by omega),rfl⟩,z08]
    ·rw [if_neg (by simp [e]),z1r _ _ _ _ e,this]
  ·exact this
theorem w8i (s:AS) (ops:List Oper) (recs:List Rec) (S:Nat→Bool) (id:Nat):∀ m,(∀ i,i<m→S i=true)→y5n s ops recs S id m=z0f (stF s ops recs m).heap id:=by
 intro m
 induction m with
 |zero=>intro _; rfl
 |succ m a=>
  intro h
  have:=a (fun i d=>h i (by omega))
  simp only [y5n,stF]
  split
  ·rename_i o r c b
   simp only [z5l]
   rw [if_pos (h m (by omega)),y1z,this]
  ·exact this
theorem y3d (s : AS) (ops : List Oper) (recs : List Rec) (S : Nat → Bool) (t i : Nat) : ∀ m, i ≤ m →
    (∀ (j : Nat) (o : Oper), ops[j]? = some o → o.dst = some t → j < i → S j = true) → (∀ (j : Nat) (o : Oper), ops[j]? = some o → o.dst = some t → i ≤ j → j < m → S j = false) →
    y7y s ops recs S t m = z00 (stF s ops recs i).env t := by
  have low : ∀ k, k ≤ i → (∀ (j : Nat) (o : Oper), ops[j]? = some o → o.dst = some t → j < i → S j = true) → y7y s ops recs S t k = z00 (stF s ops recs k).env t := by
    intro k
    induction k with
    | zero => intro _ _; rfl
    | succ k ih =>
      intro hk h
      have := ih (by omega) h
      simp only [y7y, stF]
      split
      · rename_i o r ho hr
        simp only [z5l]
        cases hd : o.dst with
        | none => simp [y4f, this]
        | some d =>
          simp only [y4f]
          by_cases e : d = t
          · subst e; rw [if_pos ⟨h k o ho hd (by omega), rfl⟩, z08]
          · rw [if_neg (by simp [e]), z1r _ _ _ _ e, this]
      · exact this
  intro m hm h1 h2
  induction m with
  | zero => have : i = 0 := by omega
            subst this; rfl
  | succ m ih =>
    by_cases e : i = m + 1
    · rw [← e]; exact low i (eAj _) h1
    · have := ih (by omega) (fun j o a b c d => h2 j o a b c (by omega))
      simp only [y7y]
      split
      · rename_i o r ho hr
        rw [if_neg, this]
        rintro ⟨a, b⟩
        have := h2 m o ho b (by omega) (by omega)
        rw [this] at a; cases a
      · exact this
theorem y3c (s : AS) (ops : List Oper) (recs : List Rec) (S : Nat → Bool) (id i : Nat) : ∀ m, i ≤ m →
    (∀ (j : Nat) (r : Rec), recs[j]? = some r → (∃ o, (id, o) ∈ r.u) → j < i → S j = true) → (∀ (j : Nat) (r : Rec), recs[j]? = some r → (∃ o, (id, o) ∈ r.u) → i ≤ j → j < m → S j = false) →
    y5n s ops recs S id m = z0f (stF s ops recs i).heap id := by
  have low : ∀ k, k ≤ i → (∀ (j : Nat) (r : Rec), recs[j]? = some r → (∃ o, (id, o) ∈ r.u) → j < i → S j = true) → y5n s ops recs S id k = z0f (stF s ops recs k).heap id := by
    intro k
    induction k with
    | zero => intro _ _; rfl
    | succ k ih =>
      intro hk h
      have := ih (by omega) h
      simp only [y5n, stF]
      split
      · rename_i o r ho hr
        simp only [z5l]
        rw [y1z]
        by_cases e : ∃ q, (id, q) ∈ r.u
        · rw [if_pos (h k r hr e (by omega)), this]
        · have hn : ∀ q, (id, q) ∉ r.u := fun q hq => e ⟨q, hq⟩
          rw [z5t hn, z5t hn]
          split <;> exact this
      · exact this
  intro m hm h1 h2
  induction m with
  | zero => have : i = 0 := by omega
            subst this; rfl
  | succ m ih =>
    by_cases e : i = m + 1
    · rw [← e]; exact low i (eAj _) h1
    · have := ih (by omega) (fun j o a b c d => h2 j o a b c (by omega))
      simp only [y5n]
      split
      · rename_i o r ho hr
        by_cases e2 : ∃ q, (id, q) ∈ r.u
        · rw [if_neg, this]
          intro a
          have := h2 m r hr e2 (by omega) (by omega)
          rw [this] at a; cases a
        · have hn : ∀ q, (id, q) ∉ r.u := fun q hq => e2 ⟨q, hq⟩
          rw [z5t hn]
          split <;> exact this
      · exact this
theorem w3p (s:AS) (ops:List Oper) (recs:List Rec) (S:Nat→Bool) (i:Nat) {o:Oper} {r:Rec} (g:ops[i]?=some o) (hr:recs[i]?=some r) (t:Nat):∀ m,i<m→
  (∀ (j:Nat) (p:Oper),ops[j]?=some p→i<j→S j=true→∀ d,o.dst=some d→p.dst≠some d)→
  y7y s ops recs (fun j=>S j||Nat.beq j i) t m=if o.dst=some t then r.v else y7y s ops recs S t m:=by
 have low:∀ k,k≤i→y7y s ops recs (fun j=>S j||Nat.beq j i) t k=y7y s ops recs S t k:=by
  intro k
  induction k with
  |zero=>intro _; rfl
  |succ k c=>
   intro n
   have:=c (by omega)
   have b:Nat.beq k i=false:=by cases h:Nat.beq k i with
    |false=>rfl
    |true=>have:=eAd h; omega
   simp only [y7y,b,Bool.or_false,this]
 intro m hm h
 induction m with
 |zero=>omega
 |succ m c=>
  by_cases e:i=m
  ·subst e
   have b:Nat.beq i i=true:=eFd i
   simp only [y7y,g,hr,b,Bool.or_true,true_and]
   rw [low i (eAj _)]
   by_cases a:o.dst=some t
   ·rw [if_pos a,if_pos a]
   ·rw [if_neg a,if_neg a,if_neg (fun h=>a h.2)]
  ·have:=c (by omega)
   have b:Nat.beq m i=false:=by cases h:Nat.beq m i with
    |false=>rfl
    |true=>have:=eAd h; omega
   simp only [y7y,b,Bool.or_false]
   split
   ·rename_i p q f l
    by_cases hS:S m=true∧p.dst=some t
    ·rw [if_pos hS]
     by_cases a:o.dst=some t
     ·exact absurd hS.2 (h m p f (by omega) hS.1 t a)
     ·rw [if_neg a,if_pos hS]
    ·rw [if_neg hS,this]
     by_cases a:o.dst=some t
     ·rw [if_pos a,if_pos a]
     ·rw [if_neg a,if_neg a,if_neg hS]
   ·exact this
theorem w3o (s:AS) (ops:List Oper) (recs:List Rec) (S:Nat→Bool) (i:Nat) {o:Oper} {r:Rec} (l:ops[i]?=some o) (hr:recs[i]?=some r) (n:S i=false) (id:Nat):∀ m,i<m→
  (∀ (j:Nat) (q:Rec),recs[j]?=some q→i<j→S j=true→(∃ x,(id,x)∈r.u)→∀ x,(id,x)∉q.u)→
  y5n s ops recs (fun j=>S j||Nat.beq j i) id m=x65 r.u id (y5n s ops recs S id m):=by
 have low:∀ k,k≤i→y5n s ops recs (fun j=>S j||Nat.beq j i) id k=y5n s ops recs S id k:=by
  intro k
  induction k with
  |zero=>intro _; rfl
  |succ k c=>
   intro v
   have:=c (by omega)
   have b:Nat.beq k i=false:=by cases h:Nat.beq k i with
    |false=>rfl
    |true=>have:=eAd h; omega
   simp only [y5n,b,Bool.or_false,this]
 intro m hm h
 induction m with
 |zero=>omega
 |succ m c=>
  by_cases e:i=m
  ·subst e
   have b:Nat.beq i i=true:=eFd i
   simp only [y5n,l,hr,b,Bool.or_true,if_true,n]
   rw [low i (eAj _)]
   simp
  ·have:=c (by omega)
   have b:Nat.beq m i=false:=by cases h:Nat.beq m i with
    |false=>rfl
    |true=>have:=eAd h; omega
   simp only [y5n,b,Bool.or_false]
   split
   ·rename_i p q t g
    by_cases hS:S m=true
    ·rw [if_pos hS,if_pos hS,this]
     by_cases d:∃ x,(id,x)∈r.u
     ·have a:=h m q g (by omega) hS d
      rw [z5t a,z5t a]
     ·have a:∀ x,(id,x)∉r.u:=fun x f=>d ⟨x,f⟩
      rw [z5t a,z5t a]
    ·rw [if_neg hS,if_neg hS,this]
   ·exact this
end Go.Am
end
section
namespace Go.Am
mutual
def tid:AV→List Nat
 | .bptr id _=>[id]
 | .ptr id _ _=>[id]
 | .slice id _ _ _ _=>[id]
 | .map id=>[id]
 | .clo _ fs cs=>y44 fs++y44 cs
 | .agg l=>y44 l
 | .tuple l=>y44 l
 |_=>[]
def y44:List AV→List Nat
 |[]=>[]
 |x::l=>tid x++y44 l
end
def x2w:AV→List Nat
 | .bptr id _=>[id]
 |_=>[]
def v9r (env:List (Nat×AV)):Op→List Nat
 | .indexAddr _ x _=>x2w (z0p env x)
 | .slice _ x _ _ _=>x2w (z0p env x)
 |_=>[]
def z7a (env:List (Nat×AV)) (op:Op):List Nat:=if z6t op then (op.operands.toList.map fun x=>tid (z0p env x)).flatten else v9r env op
def v3x:Op→Bool
 | .alloc _| .box ..| .buildSlice ..| .makeSlice ..| .makeMap ..=>true
 | .call ⟨.builtin .append,_,_⟩=>true
 |_=>false
section
variable {T:TypeId→Option TI} {G:Nat→Option (List D)} {env env':List (Nat×AV)} {h h':List AO}
theorem z9f {l:List Operand} (he:∀ x∈l,z0p env' x=z0p env x):z06 env' l=z06 env l:=by
 rw [z2w,z2w]; exact List.map_congr_left he
theorem y7g {l:List (Nat×Operand)} (he:∀ x∈l,z0p env' x.2=z0p env x.2):y2z env' l=y2z env l:=by
 rw [x13,x13]; exact List.map_congr_left fun x a=>by rw [he x a]
theorem z9e {o:Option Operand} (he:∀ x,o=some x→z0p env' x=z0p env x):z9y env' o=z9y env o:=by
 cases o with
 |none=>rfl
 |some x=>simp [z9y,he x rfl]
theorem y5t (a:AV):tid (y4r a)=tid a:=by
 unfold y4r
 split<;>rfl
theorem y79 {ti:TI} {r:List D} {ra:List AV} {a:AV} (b:∀ id∈tid a,z0f h' id=z0f h id):z4a ti h' r ra a=z4a ti h r ra a:=by
 cases a<;>simp only [z4a,tid,eBh,forall_eq] at b⊢ <;>rw [b]
theorem y5v {ti:TI} {r:List D} {ra:List AV} {a x:AV} (b:∀ id∈tid a,z0f h' id=z0f h id):z45 std ti h' r ra a x=z45 std ti h r ra a x:=by
 have:∀ cells,z4s std h' r ra cells a=z4s std h r ra cells a:=by
  intro cells
  cases a<;>simp only [z4s,tid,eBh,forall_eq] at b⊢ <;>rw [b]
 unfold z45
 simp only [this]
theorem y73 {a:AV} (b:∀ id∈x2w a,z0f h' id=z0f h id):z4p h' a=z4p h a:=by
 cases a<;>first|rfl|(simp only [z4p,x2w,eBh,forall_eq] at b⊢; rw [b])
theorem y1o {ti:TI} {r:List D} {a i:AV} (b:∀ id∈x2w a,z0f h' id=z0f h id):z3f std std ti h' r a i=z3f std std ti h r a i:=by
 cases a with
 |bptr id off=>
  simp only [x2w,eBh,forall_eq] at b
  cases i<;>try rfl
  rename_i x
  cases x<;>try rfl
  simp only [z3f,b]
 |d x=>cases x<;>first|rfl|(cases i<;>first|rfl|(rename_i y; cases y<;>rfl))
 |_=>first|rfl|(cases i<;>first|rfl|(rename_i y; cases y<;>rfl))
theorem y5w {ti:TI} {r:List D} {a:AV} {b c mx:Option AV} (e:∀ id∈x2w a,z0f h' id=z0f h id):z6u std ti h' r a b c mx=z6u std ti h r a b c mx:=by
 unfold z6u
 cases a with
 |bptr id off=>
  simp only [x2w,eBh,forall_eq] at e
  simp only [e]
 |d x=>cases x<;>rfl
 |_=>rfl
theorem w3r {ti:TI} (a:AV):x2w (w98 ti a)=x2w a:=by
 unfold w98
 split
 ·split
  ·rename_i z es _ _ _ _ _
   cases Nat.beq _ 0<;>(try rfl)
   simp only [cond_true]
   split<;>rfl
  ·rfl
 ·rfl
theorem y2f {n:Nat} {a:AV} (b:∀ id∈tid a,z0f h' id=z0f h id):z7u h' n a=z7u h n a:=by
 cases a<;>simp only [z7u,tid,eBh,forall_eq] at b⊢ <;>rw [b]
theorem z30 {z:Nat} {a:AV} (b:∀ id∈tid a,z0f h' id=z0f h id):z2y std z h' a=z2y std z h a:=by
 cases a<;>first
  |(simp only [z2y,tid,eBh,forall_eq] at b⊢; rw [b]; done)
  |rfl
  |(rename_i x; cases x<;>rfl)
theorem y4x {ti:TI} {new:Nat} {q:Bool} {r:List D} {s x:AV} (a:∀ id∈tid s,z0f h' id=z0f h id) (g:∀ id∈tid x,z0f h' id=z0f h id):z1z std ti h' new q r s x=z1z std ti h new q r s x:=by
 have e:∀ id z off len c,s= .slice id z off len c→z0f h' id=z0f h id:=fun id z off len c e=>a id (by rw [e]; simp [tid])
 have f:∀ z,z2y std z h' x=z2y std z h x:=fun z=>z30 g
 have b:∀ z,z2y std z h' s=z2y std z h s:=fun z=>z30 a
 unfold z1z
 simp only [f,b]
 clear f b
 split
 ·congr 1
  split
  ·clear ‹z2y std _ h s=_›
   cases s with
   |slice id z off len c=>
    cases c with
    |none=>rfl
    |some c=>simp only [e _ _ _ _ _ rfl]
   |d y=>cases y<;>rfl
   |_=>rfl
  ·rfl
 ·rfl
theorem x55 {ti:TI} {s x:AV} (a:∀ id∈tid s,z0f h' id=z0f h id) (e:∀ id∈tid x,z0f h' id=z0f h id):y4s std ti h' s x=y4s std ti h s x:=by
 have d:∀ z,z2y std z h' x=z2y std z h x:=fun z=>z30 e
 have b:∀ z,z2y std z h' s=z2y std z h s:=fun z=>z30 a
 unfold y4s
 simp only [d,b]
 clear d b
 split
 ·congr 1
  cases f:x79 s with
  |none=>rfl
  |some y=>
   obtain ⟨id,g,off,len,c⟩:=y
   have:=x3g f
   subst this
   simp only [a id (by simp [tid])]
 ·rfl
theorem y3i {ti:TI} {new:Nat} {q:Bool} {r:List D} {s x:AV} (b:∀ id∈tid s,z0f h' id=z0f h id) (a:∀ id∈tid x,z0f h' id=z0f h id):z2r std ti h' new q r s x=z2r std ti h new q r s x:=by
 unfold z2r
 rw [y4x b a,x55 b a]
theorem x59 {ti:TI} {s x:AV} (b:∀ id∈tid s,z0f h' id=z0f h id) (a:∀ id∈tid x,z0f h' id=z0f h id):x6a std ti h' s x=x6a std ti h s x:=by
 have d:∀ z,z2y std z h' x=z2y std z h x:=fun z=>z30 a
 have c:∀ z,z2y std z h' s=z2y std z h s:=fun z=>z30 b
 unfold x6a
 simp only [d,c]
theorem y3h {ti:TI} {new:Nat} {q:Bool} {r:List D} {s x:AV} (b:∀ id∈tid s,z0f h' id=z0f h id) (a:∀ id∈tid x,z0f h' id=z0f h id):z2q std ti h' new q r s x=z2q std ti h new q r s x:=by
 unfold z2q
 rw [y3i b a,x59 b a]
theorem w1z {ti:TI} {x:AV} (a:∀ id∈tid x,z0f h' id=z0f h id):w9n std ti h' x=w9n std ti h x:=by
 cases x<;>first
  |(simp only [w9n,tid,eBh,forall_eq] at a⊢; rw [a]; done)
  |rfl
  |(rename_i y; cases y<;>rfl)
theorem y8a {ti:TI} {d s:AV} (g:∀ id∈tid d,z0f h' id=z0f h id) (f:∀ id∈tid s,z0f h' id=z0f h id):z7f std ti h' d s=z7f std ti h d s:=by
 have i:∀ z,z2y std z h' s=z2y std z h s:=fun z=>z30 f
 unfold z7f
 simp only [i]
 cases k:ti.desc with
 |slc e z m n ez=>
  simp only []
  generalize z2y std z h s=E
  cases E with
  |none=>cases d<;>rfl
  |some p=>
   obtain ⟨o,b⟩:=p
   cases b with
   |a es=>cases d<;>rfl
   |d es=>
    cases d with
    |slice id j off len c=>have:=g id (by simp [tid]); simp only [this]
    |d x=>cases x<;>first|rfl|(rename_i l; cases l<;>rfl)
    |_=>rfl
 |_=>rfl
theorem y4w {ti:TI} {m:AV} {q:Bool} {r:List D} (hm:∀ id∈tid m,z0f h' id=z0f h id):z4y std ti h' q r m=z4y std ti h q r m:=by
 unfold z4y
 cases a:ti.desc with
 |map ks ka ez=>
  cases m with
  |map id=>have:=hm id (by simp [tid]); simp only [this]
  |_=>rfl
 |_=>rfl
theorem y4t {ti:TI} {m k x:AV} {q:Bool} {r:List D} (hm:∀ id∈tid m,z0f h' id=z0f h id):z4x std ti h' q r m k x=z4x std ti h q r m k x:=by
 unfold z4x
 cases a:ti.desc with
 |map ks ka ez=>
  cases m with
  |map id=>have:=hm id (by simp [tid]); cases k<;>first|rfl|(cases x<;>first|rfl|simp only [this])
  |_=>rfl
 |_=>rfl
theorem x7g {ti:TI} {m k:AV} (hm:∀ id∈tid m,z0f h' id=z0f h id):z3t std ti h' m k=z3t std ti h m k:=by
 unfold z3t
 cases a:ti.desc with
 |map ks ka ez=>
  cases k with
  |d k=>cases m with
   |map id=>have:=hm id (by simp [tid]); simp only [this]
   |d x=>cases x<;>rfl
   |_=>rfl
  |_=>rfl
 |_=>rfl
theorem y1l {t:TypeId} {m k:AV} (hm:∀ id∈tid m,z0f h' id=z0f h id):y2g std T t h' m k=y2g std T t h m k:=by
 unfold y2g; simp only [x7g hm]
theorem y51 {ti:TI} {d:AV} (a:∀ id∈tid d,z0f h' id=z0f h id):z56 std ti h' d=z56 std ti h d:=by
 unfold z56
 split
 ·congr 1
  cases d with
  |slice id z off len c=>simp only [tid,eBh,forall_eq] at a; simp only [a]
  |d y=>cases y with
   |list f z es=>cases es<;>rfl
   |_=>rfl
  |_=>rfl
 ·rfl
theorem y3f {b:Builtin} {ts:List TypeId} {xs:List AV} {new:Nat} {q:Bool} {r:List D} (a:b≠ .min→b≠ .max→∀ y∈xs,∀ id∈tid y,z0f h' id=z0f h id):z1m std T h' new q r b ts xs=z1m std T h new q r b ts xs:=by
 unfold z1m
 split
 ·split
  ·exact w1z (a (by simp) (by simp) _ (by simp))
  ·rfl
 ·split
  ·split
   ·exact y3h (a (by simp) (by simp) _ (by simp)) (a (by simp) (by simp) _ (by simp))
   ·rfl
  ·rfl
 ·split
  ·exact y8a (a (by simp) (by simp) _ (by simp)) (a (by simp) (by simp) _ (by simp))
  ·rfl
 ·split
  ·exact y4w (a (by simp) (by simp) _ (by simp))
  ·rfl
 ·split
  ·exact y51 (a (by simp) (by simp) _ (by simp))
  ·rfl
 ·rfl
 ·rfl
 ·rfl
theorem y0w {op:Op} (b:z6t op=true) {x:Operand} (a:x∈op.operands) (c:∀ id∈z7a env op,z0f h' id=z0f h id):∀ id∈tid (z0p env x),z0f h' id=z0f h id:=by
 intro id hid
 refine c id ?_
 unfold z7a
 rw [if_pos b]
 simp only [eDr,eBe]
 exact ⟨_,⟨x,by simpa using a,rfl⟩,hid⟩
theorem y17 {x:Operand} (h:z0p env' x=z0p env x):z9h G env' x=z9h G env x:=by
 cases x<;>first|rfl|exact h
theorem w52 {x:Operand} {id:Nat} (h:id∈tid (z9h G env x)):id∈tid (z0p env x):=by
 rcases z9g G env x with e|⟨c,e⟩
 ·rwa [e] at h
 ·rw [e] at h; simp [tid] at h
theorem w2j {x:Operand} {id:Nat} (h:id∈x2w (z9h G env x)):id∈x2w (z0p env x):=by
 rcases z9g G env x with e|⟨c,e⟩
 ·rwa [e] at h
 ·rw [e] at h; simp [x2w] at h
theorem x6e {new:Nat} {q:Bool} {r:List D} {ra:List AV} {op:Op} (he:∀ x∈op.operands,z0p env' x=z0p env x) (z:∀ id∈z7a env op,z0f h' id=z0f h id):
  z01 std T G env' h' new q r ra op=z01 std T G env h new q r ra op∧z1q std T env' h' op=z1q std T env h op:=by
 cases op with
 |load t a=>
  have e:=he a (by simp [Op.operands])
  have d:=y0w (op:= .load t a) rfl (x:=a) (by simp [Op.operands]) z
  rw [←y5t] at d
  have p:∀ id∈tid (y4r (z9h G env a)),z0f h' id=z0f h id:=fun id hid=>by
   rw [y5t] at hid
   refine d id ?_
   rw [y5t]; exact w52 hid
  simp only [z01,z1q,e,y17 (G:=G) e,y79 p,y2f d,and_self]
 |store t a x=>
  have e:=he a (by simp [Op.operands])
  have g:=he x (by simp [Op.operands])
  have d:=y0w (op:= .store t a x) rfl (x:=a) (by simp [Op.operands]) z
  simp only [z01,z1q,e,g,y5v d,y2f d,and_self]
 |call c=>
  obtain ⟨callee,args,v⟩:=c
  cases callee with
  |builtin b=>
   have e:z06 env' args.toList=z06 env args.toList:=z9f fun x j=>he x (by simp [Op.operands,Call.operands]; simpa using j)
   have w:b≠ .min→b≠ .max→∀ y∈z06 env args.toList,∀ id∈tid y,z0f h' id=z0f h id:=by
    intro H M y u
    rw [z2w] at u
    obtain ⟨x,j,rfl⟩:=eBe.1 u
    exact y0w (op:= .call ⟨.builtin b,args,v⟩) (by cases b<;>first|rfl|exact absurd rfl H|exact absurd rfl M) (x:=x) (by simp [Op.operands,Call.operands]; simpa using j) z
   refine ⟨?_,?_⟩
   ·show z1m std T h' new q r b v.toList (z06 env' args.toList)=z1m std T h new q r b v.toList (z06 env args.toList)
    rw [e]; exact y3f w
   ·by_cases C:b= .append
    ·subst C
     show (match z06 env' args.toList with|[s,x]=>w3m (z3n std s x)|_=> .none)=(match z06 env args.toList with|[s,x]=>w3m (z3n std s x)|_=> .none)
     rw [e]
    ·by_cases B:b= .delete
     ·subst B
      show (match v.toList,z06 env' args.toList with|t::_,[m,k]=>y2g std T t h' m k|_,_=> .m none)=(match v.toList,z06 env args.toList with|t::_,[m,k]=>y2g std T t h m k|_,_=> .m none)
      rw [e]
      have w:=w (by simp) (by simp)
      split
      ·rename_i H
       exact y1l (w _ (by rw [H]; simp))
      ·rfl
     ·cases b<;>first|rfl|exact absurd rfl C|exact absurd rfl B
  |_=>exact ⟨rfl,rfl⟩
 |move x=>simp [z01,z1q,he x (by simp [Op.operands])]
 |assign x=>simp [z01,z1q,he x (by simp [Op.operands])]
 |pick c a b=>simp [z01,z1q,he c (by simp [Op.operands]),he a (by simp [Op.operands]),he b (by simp [Op.operands])]
 |alloc t=>simp [z01,z1q]
 |box t x=>simp [z01,z1q,he x (by simp [Op.operands])]
 |build t A=>
  have:y2z env' A.toList=y2z env A.toList:=y7g fun x j=>he x.2 (by simp [Op.operands]; exact ⟨x.1,by simpa using j⟩)
  simp [z01,z1q,this]
 |buildSlice t len A=>
  have:y2z env' A.toList=y2z env A.toList:=y7g fun x j=>he x.2 (by simp [Op.operands]; exact ⟨x.1,by simpa using j⟩)
  simp [z01,z1q,this]
 |nilCheck x=>simp [z01,z1q,he x (by simp [Op.operands])]
 |binOp op t x y N=>simp [z01,z1q,he x (by simp [Op.operands]),he y (by simp [Op.operands])]
 |unOp op t x=>simp [z01,z1q,he x (by simp [Op.operands])]
 |convert s t x=>
  have e:=he x (by simp [Op.operands])
  have d:=y0w (op:= .convert s t x) rfl (x:=x) (by simp [Op.operands]) z
  have g:∀ v F,z6v std T h' v F (z0p env x)=z6v std T h v F (z0p env x):=fun v F=>by
   unfold z6v
   rw [z30 d]
  simp only [z01,z1q,e,g,and_self]
 |makeFunc fn f c=>
  have E:z06 env' f.toList=z06 env f.toList:=z9f fun x j=>he x (by simp [Op.operands]; left; simpa using j)
  have g:z06 env' c.toList=z06 env c.toList:=z9f fun x j=>he x (by simp [Op.operands]; right; simpa using j)
  simp [z01,z1q,E,g]
 |makeSlice t l c=>simp [z01,z1q,he l (by simp [Op.operands]),he c (by simp [Op.operands])]
 |slice t x K L J=>
  have E:z9y env' K=z9y env K:=z9e fun y u=>he y (by subst u; simp [Op.operands])
  have g:z9y env' L=z9y env L:=z9e fun y u=>he y (by subst u; simp [Op.operands])
  have I:z9y env' J=z9y env J:=z9e fun y u=>he y (by subst u; simp [Op.operands])
  have e:=he x (by simp [Op.operands])
  have d:∀ id∈x2w (z0p env x),z0f h' id=z0f h id:=z
  have p:∀ ti:TI,∀ id∈x2w (w98 ti (z0p env x)),z0f h' id=z0f h id:=fun ti=>by rw [w3r]; exact d
  simp only [z01,z1q,e,E,g,I,y5w (p _),y73 d,and_self]
 |fieldAddr t x f=>simp [z01,z1q,y17 (G:=G) (he x (by simp [Op.operands]))]
 |field t x f=>simp [z01,z1q,he x (by simp [Op.operands])]
 |indexAddr t x i=>
  have e:=he x (by simp [Op.operands])
  have g:=he i (by simp [Op.operands])
  have d:∀ id∈x2w (z0p env x),z0f h' id=z0f h id:=z
  have p:∀ id∈x2w (z9h G env x),z0f h' id=z0f h id:=fun id hid=>d id (w2j hid)
  simp only [z01,z1q,e,y17 (G:=G) e,g,x6t,y1o p,and_self]
 |index t x i=>simp [z01,z1q,he x (by simp [Op.operands]),he i (by simp [Op.operands])]
 |extract x i=>simp [z01,z1q,he x (by simp [Op.operands])]
 |makeMap t n=>
  have E:z9y env' n=z9y env n:=z9e fun y u=>he y (by subst u; simp [Op.operands])
  simp [z01,z1q,E]
 |lookup t m k o=>
  have e:=he m (by simp [Op.operands])
  have g:=he k (by simp [Op.operands])
  have d:=y0w (op:= .lookup t m k o) rfl (x:=m) (by simp [Op.operands]) z
  simp only [z01,z1q,e,g,y1l d,and_self]
 |mapUpdate t m k x=>
  have e:=he m (by simp [Op.operands])
  have g:=he k (by simp [Op.operands])
  have I:=he x (by simp [Op.operands])
  have d:=y0w (op:= .mapUpdate t m k x) rfl (x:=m) (by simp [Op.operands]) z
  simp only [z01,z1q,e,g,I,y1l d,y4t d,and_self]
 |_=>exact ⟨rfl,rfl⟩
theorem z4g {α:Type} {b:Bool} {x:Option α} {r:α} (h:(bif b then x else none)=some r):x=some r:=by
 cases b with
 |false=>cases h
 |true=>exact h
theorem y9l {v:AV} {res:Res} (h:ok v=some res):res.u=[]:=by cases h; rfl
theorem x5m {α:Type} {x:Option α} {f:α→Option Res} {res:Res} (h:x.bind f=some res) (b:∀ a,f a=some res→res.u=[]):res.u=[]:=by
 cases x with
 |none=>cases h
 |some a=>exact b a h
theorem x56 {ti:TI} {r:List D} {ra:List AV} {a x:AV} {res:Res} (b:z45 std ti h r ra a x=some res):∀ id o,(id,o)∈res.u→id∈tid a:=by
 unfold z45 at b
 split at b
 ·cases d:(Nat.ble 1 ti.size&&(z8p ‹List AV› ti.size&&z7n ‹List AV›)) with
  |false=>rw [d] at b; cases b
  |true=>
   rw [d] at b
   simp only [cond_true] at b
   cases a<;>simp only [z4s] at b<;>(repeat' split at b)<;>first
    |cases b; done
    |(cases b; intro id o c; simp at c; simp [tid,c.1])
 ·cases b
theorem x26 {ti:TI} {new:Nat} {q:Bool} {r:List D} {s x:AV} {res:Res} (a:z1z std ti h new q r s x=some res):∀ id o,(id,o)∈res.u→id=new∨id∈tid s:=by
 unfold z1z at a
 split at a
 ·generalize (Nat.ble 1 _&&Nat.ble _ 60000)=b at a
  cases b with
  |false=>cases a
  |true=>
   simp only [cond_true] at a
   have d:∀ (b:Bool) (u v:Option Res),(bif b then u else v)=some res→u=some res∨v=some res:=by
    intro b u v h
    cases b with
    |false=>exact .inr h
    |true=>exact .inl h
   split at a
   ·split at a
    ·split at a
     ·rcases d _ _ _ a with a|a
      ·split at a
       ·cases a; intro id o c; simp at c
       ·cases a
      ·cases a; intro id o c; simp at c; simp [tid]; omega
     ·cases a
    all_goals (repeat' split at a)<;>first
     |cases a; done
     |(cases a; intro id o c; simp at c; simp [tid]; omega)
     |(cases a; intro id o c; simp at c; rcases c with c|c<;>simp [tid,c.1])
     |(cases a; intro id o c; simp at c; simp [tid,c.1])
   ·cases a
 ·cases a
theorem v4n {ti:TI} {s x:AV} {res:Res} (g:y4s std ti h s x=some res):∀ id o,(id,o)∈res.u→id∈tid s:=by
 obtain ⟨e,z,p,q,ez,id,l,off,len,c,r,cs,k,es,m,a,n,rfl,f,j,b,rfl⟩:=y5u g
 intro i o d
 rw [eBh] at d
 cases d
 simp [tid]
theorem x05 {ti:TI} {new:Nat} {q:Bool} {r:List D} {s x:AV} {res:Res} (g:z2r std ti h new q r s x=some res):∀ id o,(id,o)∈res.u→id=new∨id∈tid s:=by
 obtain ⟨a,b,rfl⟩:=z9q g
 have c:∀ id o,(id,o)∈a.u→id=new∨id∈tid s:=by
  rcases b with ⟨_,b⟩|b
  ·exact fun id o hm=> .inr (v4n b id o hm)
  ·exact x26 b
 intro id o hm
 rcases y0h r a with e|⟨f,z,off,len,cap,es,i,_,_,d,e⟩
 ·rw [e] at hm; exact c id o hm
 ·rw [e] at hm
  rcases eCb.1 hm with hm|hm
  ·exact c id o hm
  ·rw [eBh] at hm
   cases hm
   exact c _ _ d
theorem x04 {ti:TI} {new:Nat} {q:Bool} {r:List D} {s x:AV} {res:Res} (a:z2q std ti h new q r s x=some res):∀ id o,(id,o)∈res.u→id=new∨id∈tid s:=by
 unfold z2q at a
 cases b:u0g r with
 |true=>
  rw [b] at a
  obtain ⟨e,z,j,k,ez,id,f,off,len,c,l,cs,g,es,_,_,_,_,_,rfl⟩:=y5x a
  intro i o d
  cases d
 |false=>rw [b] at a; exact x05 a
theorem w07 {ti:TI} {d x:AV} {res:Res} (a:z7f std ti h d x=some res):∀ id o,(id,o)∈res.u→id∈tid d:=by
 unfold z7f at a
 split at a
 ·replace a:=z4g a
  split at a
  ·replace a:=z4g a
   split at a
   ·cases a; intro id o b; simp at b; simp [tid,b.1]
   ·cases a
  ·cases a; intro id o b; simp at b
  ·cases a
 ·cases a
theorem x6d {ti:TI} {d:AV} {res:Res} (a:z56 std ti h d=some res):∀ id o,(id,o)∈res.u→id∈tid d:=by
 unfold z56 at a
 split at a
 ·replace a:=z4g a
  split at a
  ·replace a:=z4g a
   split at a
   ·cases a; intro id o b; simp at b; simp [tid,b.1]
   ·cases a
  ·cases a; intro id o b; simp at b
  ·cases a
 ·cases a
theorem x22 {ti:TI} {m:AV} {q:Bool} {r:List D} {res:Res} (a:z4y std ti h q r m=some res):∀ id o,(id,o)∈res.u→id∈tid m:=by
 unfold z4y at a
 (repeat' split at a)<;>first|cases a; done|(cases a; intro id o b; simp at b; simp [tid,b.1])
theorem x2y {ti:TI} {m k x:AV} {q:Bool} {r:List D} {res:Res} (a:z4x std ti h q r m k x=some res):∀ id o,(id,o)∈res.u→id∈tid m:=by
 unfold z4x at a
 (repeat' split at a)<;>first|cases a; done|(cases a; intro id o b; simp at b; simp [tid,b.1])
theorem v4o {new:Nat} {q:Bool} {r:List D} {ra:List AV} {op:Op} {res:Res} (d:z01 std T G env h new q r ra op=some res):
  ∀ id o,(id,o)∈res.u→(id=new∧v3x op=true)∨(y2h op=true∧id∈z7a env op):=by
 have none:res.u=[]→∀ id o,(id,o)∈res.u→(id=new∧v3x op=true)∨(y2h op=true∧id∈z7a env op):=by
  intro e id o j; rw [e] at j; simp at j
 cases op with
 |load t a=>
  refine none ?_
  simp only [z01] at d
  split at d
  ·exact w06 d
  ·cases d
 |store t a x=>
  simp only [z01] at d
  split at d
  ·intro id o j
   exact .inr ⟨rfl,by simp [z7a,z6t,Op.operands,x56 d id o j]⟩
  ·cases d
 |call c=>
  obtain ⟨callee,args,L⟩:=c
  cases callee with
  |builtin b=>
   simp only [z01] at d
   unfold z1m at d
   generalize g:z06 env args.toList=K at d
   split at d
   ·refine none ?_
    split at d
    ·rename_i x _ _ _ _
     clear g
     cases x<;>simp only [w9n] at d<;>(repeat' split at d)<;>first|cases d; done|exact y9l d
    ·cases d
   ·rename_i H y _
    split at d
    ·split at d
     ·intro id o j
      rcases x04 d id o j with e|e
      ·exact .inl ⟨e,rfl⟩
      ·refine .inr ⟨rfl,?_⟩
       simp only [z7a,z6t,if_true,eDr,eBe]
       rw [z2w] at g
       have hm:H∈args.toList.map (z0p env):=by rw [g]; simp
       obtain ⟨z,w,p⟩:=eBe.1 hm
       exact ⟨_,⟨z,by simp [Op.operands,Call.operands]; simpa using w,rfl⟩,by rw [p]; exact e⟩
     ·cases d
    ·cases d
   ·rename_i C y _
    split at d
    ·intro id o j
     have e:=w07 d id o j
     refine .inr ⟨rfl,?_⟩
     simp only [z7a,z6t,if_true,eDr,eBe]
     rw [z2w] at g
     have hm:C∈args.toList.map (z0p env):=by rw [g]; simp
     obtain ⟨z,w,p⟩:=eBe.1 hm
     exact ⟨_,⟨z,by simp [Op.operands,Call.operands]; simpa using w,rfl⟩,by rw [p]; exact e⟩
    ·cases d
   ·rename_i F y _
    split at d
    ·intro id o j
     have e:=x22 d id o j
     refine .inr ⟨rfl,?_⟩
     simp only [z7a,z6t,if_true,eDr,eBe]
     rw [z2w] at g
     have hm:F∈args.toList.map (z0p env):=by rw [g]; simp
     obtain ⟨z,w,p⟩:=eBe.1 hm
     exact ⟨_,⟨z,by simp [Op.operands,Call.operands]; simpa using w,rfl⟩,by rw [p]; exact e⟩
    ·cases d
   ·rename_i C _
    split at d
    ·intro id o j
     have e:=x6d d id o j
     refine .inr ⟨rfl,?_⟩
     simp only [z7a,z6t,if_true,eDr,eBe]
     rw [z2w] at g
     have hm:C∈args.toList.map (z0p env):=by rw [g]; simp
     obtain ⟨z,w,p⟩:=eBe.1 hm
     exact ⟨_,⟨z,by simp [Op.operands,Call.operands]; simpa using w,rfl⟩,by rw [p]; exact e⟩
    ·cases d
   ·refine none ?_
    unfold y3e at d
    (repeat' split at d)<;>first|cases d; done|exact y9l d
   ·refine none ?_
    unfold y3e at d
    (repeat' split at d)<;>first|cases d; done|exact y9l d
   ·cases d
  |_=>cases d
 |move x=>exact none (y9l d)
 |assign x=>exact none (y9l d)
 |pick c a b=>
  refine none ?_
  simp only [z01] at d
  unfold x0z at d
  (repeat' split at d)<;>first|cases d; done|exact y9l d
 |alloc t=>
  simp only [z01] at d
  split at d
  ·unfold y2l at d
   generalize Nat.ble 1 _=b at d
   cases b with
   |false=>cases d
   |true=>
    simp only [cond_true] at d
    split at d<;>(cases d; intro id o j; simp at j; exact .inl ⟨j.1,rfl⟩)
  ·cases d
 |box t x=>
  simp only [z01] at d
  split at d
  ·unfold x02 at d
   generalize Nat.ble 1 _=b at d
   cases b with
   |false=>cases d
   |true=>
    simp only [cond_true] at d
    split at d
    ·replace d:=z4g d
     split at d
     ·split at d
      ·replace d:=z4g d
       cases d; intro id o j; simp at j; exact .inl ⟨j.1,rfl⟩
      ·cases d
     ·cases d; intro id o j; simp at j; exact .inl ⟨j.1,rfl⟩
    ·cases d
  ·cases d
 |build t E=>
  refine none ?_
  simp only [z01] at d
  split at d
  ·unfold z93 at d
   (repeat' split at d)<;>first|cases d; done|exact x5m d fun _ h=>y9l h
  ·cases d
 |buildSlice t len E=>
  simp only [z01] at d
  split at d
  ·have B:=d
   unfold z3u at d
   have A:res.u=[]∨z2p ‹TI› new len (y2z env E.toList)=some res:=by
    split at d
    ·exact .inr d
    ·split at d
     ·split at d
      ·cases d; exact .inl rfl
      ·cases d
     ·split at d
      ·rename_i I
       split at d
       ·cases d; exact .inl rfl
       ·cases d; exact .inr I
      ·cases d
   clear d B
   rcases A with A|d
   ·exact none A
   unfold z2p at d
   split at d
   ·generalize (Nat.ble 1 _&&Nat.ble _ _)=b at d
    cases b with
    |false=>cases d
    |true=>
     simp only [cond_true] at d
     split at d
     ·generalize z7n _=b at d
      cases b with
      |false=>cases d
      |true=>
       simp only [cond_true] at d
       split at d
       ·cases d; intro id o j; simp at j; exact .inl ⟨j.1,rfl⟩
       ·cases d
     ·cases d
   ·cases d
  ·cases d
 |nilCheck x=>
  refine none ?_
  simp only [z01] at d
  unfold x58 at d
  (repeat' split at d)<;>first|cases d; done|exact y9l d
 |binOp op t x y M=>
  refine none ?_
  simp only [z01] at d
  split at d
  ·generalize v9o y=b at d
   cases b with
   |true=>
    simp only [cond_true] at d
    unfold y0y at d
    split at d<;>first|(cases d; done)|(cases d; rfl)
   |false=>
   simp only [cond_false] at d
   generalize v9n y=J at d
   cases J with
   |true=>
    simp only [cond_true] at d
    unfold y46 at d
    split at d<;>first|(cases d; done)|(cases d; rfl)
   |false=>
   simp only [cond_false] at d
   unfold x03 at d
   split at d
   ·split at d
    ·generalize ((_:IntKind)==_)=b at d; cases b with
     |false=>cases d
     |true=>exact y9l d
    ·generalize ((_:IntKind)==_)=b at d; cases b with
     |false=>cases d
     |true=>exact y9l d
    ·generalize ((_:IntKind)==_)=b at d; cases b with
     |false=>cases d
     |true=>cases d; rfl
    ·cases d; rfl
    ·generalize ((_:IntKind)==_)=b at d; cases b with
     |false=>cases d
     |true=>exact y9l d
   ·(repeat' split at d)<;>first|cases d; done|exact y9l d|(cases d; rfl)
   ·(repeat' split at d)<;>first|cases d; done|exact x5m d fun _ h=>y9l h
  ·cases d
 |unOp op t x=>
  refine none ?_
  simp only [z01] at d
  unfold x76 at d
  (repeat' split at d)<;>first|cases d; done|exact y9l d
 |convert s t x=>
  refine none ?_
  simp only [z01] at d
  split at d
  ·split at d
   ·rename_i v
    cases d
    unfold z83 at v
    (repeat' split at v)<;>first|cases v; done|exact y9l v
   ·unfold z6v at d
    (repeat' split at d)<;>first|cases d; done|(replace d:=z4g d; (repeat' split at d)<;>first|cases d; done|(cases d; rfl))
  ·cases d
 |makeFunc fn f c=>exact none (y9l d)
 |makeSlice t l c=>
  simp only [z01] at d
  split at d
  ·unfold z6k at d
   split at d
   ·generalize (Nat.ble 1 _&&_)=b at d
    cases b with
    |false=>cases d
    |true=>cases d; intro id o j; simp at j; exact .inl ⟨j.1,rfl⟩
   ·cases d
  ·cases d
 |slice t x N O F=>
  refine none ?_
  simp only [z01] at d
  split at d
  ·unfold z6u at d
   split at d
   ·split at d
    ·split at d
     ·replace d:=z4g d
      (repeat' split at d)<;>first|cases d; done|(cases d; rfl)
     ·cases d
    ·split at d
     ·replace d:=z4g d
      (repeat' split at d)<;>first|cases d; done|(cases d; rfl)
     ·cases d
    ·split at d
     ·split at d
      ·cases z4g d; rfl
      ·cases d
     ·split at d
      ·cases z4g d; rfl
      ·cases d
     ·cases d
    ·(repeat' split at d)<;>first|cases d; done|(cases d; rfl)
    ·cases d
   ·cases d
  ·cases d
 |fieldAddr t x f=>
  refine none ?_
  simp only [z01] at d
  split at d
  ·unfold y2j at d
   (repeat' split at d)<;>first|cases d; done|exact y9l (z4g d)
  ·cases d
 |field t x f=>
  refine none ?_
  simp only [z01] at d
  split at d
  ·unfold z7e at d
   (repeat' split at d)<;>first|cases d; done|exact x5m d fun _ h=>y9l h
  ·cases d
 |indexAddr t x i=>
  refine none ?_
  simp only [z01] at d
  split at d
  ·unfold z3f at d
   (repeat' split at d)<;>first|cases d; done|(cases d; rfl)|(cases z4g d; rfl)
  ·cases d
 |index t x i=>
  refine none ?_
  simp only [z01] at d
  split at d
  ·unfold z7d at d
   (repeat' split at d)<;>first|cases d; done|(cases d; rfl)|exact x5m d fun _ h=>by cases h; rfl
  ·cases d
 |extract x i=>
  refine none ?_
  simp only [z01] at d
  unfold y1p at d
  split at d
  ·exact x5m d fun _ h=>y9l h
  ·cases d
 |makeMap t n=>
  simp only [z01] at d
  split at d
  ·unfold z81 at d
   split at d
   ·cases d; intro id o j; simp at j; exact .inl ⟨j.1,rfl⟩
   ·cases d
  ·cases d
 |lookup t m k o=>
  refine none ?_
  simp only [z01] at d
  split at d
  ·split at d
   ·unfold z5n at d
    (repeat' split at d)<;>first|cases d; done|exact y9l d
   ·cases d
  ·cases d
 |mapUpdate t m k x=>
  simp only [z01] at d
  split at d
  ·intro id o j
   exact .inr ⟨rfl,by simp [z7a,z6t,Op.operands]; exact .inl (x2y d id o j)⟩
  ·cases d
 |_=>cases d
end
end Go.Am
end
section
namespace Go.Am
inductive Ord (ops:Array Oper):(Nat→Bool)→List Nat→Prop
 |nil (S:Nat→Bool) (h:∀ i,i<ops.size→S i=true):Ord ops S []
 |cons (S:Nat→Bool) (i:Nat) (o:Oper) (l:List Nat) (hi:S i=false) (ho:ops[i]?=some o) (hd:∀ d∈z5h o,S d=true) (h:Ord ops (fun j=>S j||Nat.beq j i) l):Ord ops S (i::l)
theorem y98 {o:Oper} {d:Nat}:d∈z5h o↔∃ e∈o.after,Region.binds .any e=true∧e.on=d:=by
 unfold z5h
 simp only [eBe,eAz,Array.mem_toList_iff]
 constructor
 ·rintro ⟨e,⟨c,b⟩,a⟩; exact ⟨e,c,b,a⟩
 ·rintro ⟨e,c,b,a⟩; exact ⟨e,⟨c,b⟩,a⟩
theorem w1x {listed:Array Bool} {i:Nat} (c:i<listed.size):(fun j=>(listed.setIfInBounds i true).getD j false)=fun j=>listed.getD j false||Nat.beq j i:=by
 funext j
 cases b:Nat.beq j i with
 |true=>
  have:=eAd b
  subst this
  simp [eAk,c]
 |false=>
  have a:i≠j:=by rintro rfl; simp at b
  simp [eAk,Array.getElem?_setIfInBounds_ne a]
theorem w6i {l:List Bool} {i:Nat} (h:l[i]?=some false):(l.set i true).countP (· ==false)+1=l.countP (· ==false):=by
 induction l generalizing i with
 |nil=>simp at h
 |cons x l a=>cases i with
  |zero=>simp at h; subst h; simp
  |succ i=>
   have:=a (i:=i) (by simpa using h)
   simp only [List.set_cons_succ,List.countP_cons]
   omega
theorem w2o {l:List Bool} (h:l.countP (· ==false)=0) (i:Nat) (a:i<l.length):l[i]?=some true:=by
 have:=List.countP_eq_zero.1 h l[i] (eCk a)
 rw [eAb a]
 cases b:l[i]<;>simp_all
theorem v0n {ops:Array Oper} (he:z71 ops.toList=true) {i:Nat} {o:Oper} (b:ops[i]?=some o):∀ d∈z5h o,d<i:=by
 intro d c
 unfold z71 at he
 rw [eAx] at he
 have a:i<ops.toList.length:=by simpa using (eAe.1 b).1
 have:=he i (eBs.2 a)
 rw [eAl,b] at this
 simp only [eAx] at this
 exact eAh (this d c)
theorem x1m {ops:Array Oper} (he:z71 ops.toList=true):∀ (fuel t:Nat) (listed:Array Bool),listed.size=ops.size→listed.toList.countP (· ==false)=fuel→
  Ord ops (fun i=>listed.getD i false) (Region.linearise.go .any ops fuel t listed []):=by
 intro fuel
 induction fuel with
 |zero=>
  intro t listed p A
  simp only [Region.linearise.go,List.reverse_nil]
  refine .nil _ fun i f=>?_
  have:=w2o A i (by simpa [p] using f)
  rw [eAl] at this
  simp [eAk,this]
 |succ fuel n=>
  intro t listed p A
  simp only [Region.linearise.go]
  change Ord ops _ (match (Region.ready .any ops listed)[t % (Region.ready .any ops listed).length]? with
   |some i=>Region.linearise.go .any ops fuel (t / (Region.ready .any ops listed).length) (listed.setIfInBounds i true) [i]
   |none=>[].reverse)
  have r:Region.ready .any ops listed≠[]:=by
   have s:∃ i,i<ops.size∧listed.getD i true=false:=by
    refine Classical.byContradiction fun q=>?_
    have:listed.toList.countP (· ==false)=0:=by
     rw [List.countP_eq_zero]
     intro b u
     obtain ⟨i,f⟩:=eDp u
     rw [eAl] at f
     have a:=(eAe.1 f).1
     cases b with
     |true=>simp
     |false=>exact absurd ⟨i,by omega,by simp [eAk,f]⟩ q
    omega
   have key:∀ i,i<ops.size→listed.getD i true=false→∃ j,j∈Region.ready .any ops listed:=by
    intro i
    induction i using Nat.strongRecOn with
    |_ i n=>
     intro f g
     have h:ops[i]?=some ops[i]:=eAs f
     by_cases c:∀ e∈(ops[i]).after,Region.binds .any e=true→listed.getD e.on false=true
     ·exact ⟨i,mem_ready.2 ⟨g,_,h,c⟩⟩
     ·simp only [Classical.not_forall] at c
      obtain ⟨e,hm,u,y⟩:=c
      have a:=v0n he h e.on (y98.2 ⟨e,hm,u,rfl⟩)
      refine n e.on a (by omega) ?_
      have k:e.on<listed.size:=by omega
      simp only [eAk,eAs k,eBb] at y⊢
      simpa using y
   obtain ⟨i,f,g⟩:=s
   obtain ⟨j,z⟩:=key i f g
   intro F; rw [F] at z; simp at z
  cases f:(Region.ready .any ops listed)[t % (Region.ready .any ops listed).length]? with
  |none=>
   exfalso
   cases w:Region.ready .any ops listed with
   |nil=>exact r w
   |cons x v=>
    rw [w] at f
    have a:t % (x::v).length<(x::v).length:=eFc _ (by simp)
    simp at f
    simp at a
    omega
  |some i=>
   simp only []
   rw [linearise_go_acc,List.reverse_singleton,List.singleton_append]
   have hm:=eAi f
   rw [mem_ready] at hm
   obtain ⟨g,o,h,c⟩:=hm
   have a:i<listed.size:=by have:=(eAe.1 h).1; omega
   have m:listed[i]?=some false:=by
    rw [eAs a]
    simp only [eAk,eAs a,eBb] at g
    rw [g]
   refine .cons _ i o _ (by simp [eAk,m]) h (fun d B=>?_) ?_
   ·obtain ⟨e,E,C,rfl⟩:=y98.1 B
    exact c e E C
   ·rw [←w1x a]
    refine n _ _ (by simpa using p) ?_
    have:=w6i (l:=listed.toList) (i:=i) (by rw [eAl]; exact m)
    rw [Array.toList_setIfInBounds]
    omega
theorem y0b {ops:Array Oper} (he:z71 ops.toList=true) (t:Nat):Ord ops (fun _=>false) (Region.schedule true ops t):=by
 simp only [Region.schedule,Bool.true_or,if_true]
 have:=x1m he ops.size t (Array.replicate ops.size false) (by simp) (by simp [List.countP_replicate])
 have e:(fun i=>(Array.replicate ops.size false).getD i false)=fun _=>false:=by
  funext i
  by_cases h:i<ops.size
  ·simp [eAk,Array.getElem?_replicate,h]
  ·simp [eAk,Array.getElem?_replicate,h]
 rw [e] at this
 exact this
end Go.Am
end
section
namespace Go.Am
theorem y6u {d:Option Nat} {l:List Nat} (h:x82 d l=true) {t:Nat} (a:d=some t):t∉l:=by
 subst a
 simp only [x82,eDa] at h
 intro hm
 rw [x9b.2 hm] at h; cases h
theorem y9x {ops:List Oper} (h:y8k ops=true) {i j:Nat} {a b:Oper} (c:i<j) (e:ops[i]?=some a) (d:ops[j]?=some b):(z7k (y1i ops []) j).testBit i=true∨y2d ops a b=true:=by
 have:=y68 (y69 h j b d) i a (by omega) e
 rw [eAq] at this; exact this
def y9j (ops:List Oper) (b:List (List Nat)) (i:Nat) (o:Oper) (ti:List Nat):Bool:=
  (List.range i).all fun j=>Nat.testBit (z7k (y1i ops []) i) j||
    (match z19 ops j with
     |some a=>(!y2h a.op&&!y2h o.op)||w2l (x60 b j) ti
     |none=>true)
def x8o (c:Nat) (b:Bool) (ti:List Nat):Nat→List Oper→List (List Nat)→Bool
 |_,_,[]=>true
 |j,a::l,t::ts=>(Nat.testBit c j||((!y2h a.op&&!b)||w2l t ti))&&x8o c b ti (j+1) l ts
 |_,[],_::_=>true
def x8p (ops:List Oper) (a:List (List Nat)) (i:Nat) (o:Oper) (ti:List Nat):Bool:=
 Nat.beq a.length i&&x8o (z7k (y1i ops []) i) (y2h o.op) ti 0 ops a
theorem y6l {e:Nat} {d:Bool} {ti:List Nat}:∀ {j:Nat} {l:List Oper} {ts:List (List Nat)},x8o e d ti j l ts=true→∀ (k:Nat) (a:Oper),k<ts.length→l[k]?=some a→(Nat.testBit e (j+k)||((!y2h a.op&&!d)||w2l (x60 ts k) ti))=true
 |j,l,[],_,k,a,c,_=>by simp at c
 |j,[],t::ts,_,k,a,_,b=>by simp at b
 |j,x::l,t::ts,h,k,a,c,b=>by
  simp only [x8o,eAc] at h
  cases k with
  |zero=>simp at b; subst b; exact h.1
  |succ k=>
   have:=y6l h.2 k a (by simpa using c) (by simpa using b)
   rw [show j+(k+1)=j+1+k by omega]; exact this
theorem y6s {α:Type}:∀ (l:List α) (i:Nat),z19 l i=l[i]?
 |[],_=>by simp [z19]
 |_::_,0=>rfl
 |_::l,i+1=>by simpa [z19] using y6s l i
theorem w4j {ops:List Oper} {b:List (List Nat)} {i:Nat} {o:Oper} {ti:List Nat} (h:x8p ops b i o ti=true):y9j ops b i o ti=true:=by
 simp only [x8p,eAc] at h
 have d:=eAd h.1
 unfold y9j
 simp only [eAx,eBs]
 intro j e
 cases c:ops[j]? with
 |none=>rw [y6s,c]; simp
 |some a=>
  have:=y6l h.2 j a (by omega) c
  rw [eAq] at this
  rw [y6s,c]; exact this
theorem x81 {α:Type}:∀ (l:List α) (i:Nat),z19 l i=l[i]?
 |[],_=>by simp [z19]
 |_::_,0=>rfl
 |_::l,i+1=>by simpa [z19] using x81 l i
def x0s (s0:AS) (ops:List Oper) (recs:List Rec) (i:Nat) (o:Oper):Prop:=
 ∀ (j:Nat) (a:Oper),j<i→ops[j]?=some a→(z7k (y1i ops []) i).testBit j=true∨(y2h a.op=false∧y2h o.op=false)∨∀ id∈z7a (stF s0 ops recs j).env a.op,id∉z7a (stF s0 ops recs i).env o.op
theorem z2d {ops:List Oper} {S:Nat→Bool} (l:∀ (i:Nat) (o:Oper),ops[i]?=some o→S i=true→∀ d∈z5h o,S d=true) {i:Nat} {o:Oper} (c:ops[i]?=some o) (e:∀ d∈z5h o,S d=true):∀ j,(z7k (y1i ops []) i).testBit j=true→S j=true:=by
 have a:=w7q ops [] [] rfl (by simp)
 simp only [List.nil_append] at a
 have clo:∀ i o,ops[i]?=some o→(∀ d∈z5h o,S d=true)→∀ j,(z7k (y1i ops []) i).testBit j=true→S j=true:=by
  intro i
  induction i using Nat.strongRecOn with
  |_ i g=>
   intro o c e j k
   rcases a i o c j k with h|⟨d,p,n,m⟩
   ·exact e j h
   ·have f:d<ops.length:=by have:=(eAa.1 c).1; omega
    have b:ops[d]?=some ops[d]:=eAb f
    exact g d n _ b (l d _ b (e d p)) j m
 exact clo i o c e
def w1s (ops:List Oper) (base i:Nat) (l:List Nat):Prop:=∀ id∈l,id<base∨∃ j,id=base+j∧j<i∧(z7k (y1i ops []) i).testBit j=true
theorem w1s.lt {ops:List Oper} {base i:Nat} {l:List Nat} (h:w1s ops base i l):∀ id∈l,id<base+i:=by
 intro id hid
 rcases h id hid with h|⟨j,rfl,h,_⟩<;>omega
inductive w3a (P:Program) (T:TypeId→Option TI) (ops:List Oper) (s:AS) (base i:Nat) (o:Oper):Rec→Prop
 |skip (hg:z6j ops s.env o.guard=some false):w3a P T ops s base i o ⟨.tuple [],[]⟩
 |step (hg:z6j ops s.env o.guard=some true) {G:Nat→Option (List D)} (hG:GOk P G) {q:Bool} {r:List D} {ra:List AV} {res:Res} (hw:(z1q std T s.env s.heap o.op).ok q r ra) (hs:z01 std T G s.env s.heap (base+i) q r ra o.op=some res) (hc:res.c=true) (ht:w1s ops base i (z7a s.env o.op)):w3a P T ops s base i o ⟨res.v,res.u⟩
 |call (hg:z6j ops s.env o.guard=some true) {f:Operand} {args:Array Operand} {ts:Array TypeId} (hop:o.op= .call ⟨.value f,args,ts⟩) {g:FuncId} {first captured:List AV} (hf:z0p s.env f= .clo (.func g) first captured) (hen:z3d P g)
   {r:AV} (hret:∀ h,(∀ id∈z7a s.env o.op,z0f h id=z0f s.heap id)→z3m P g (first++z06 s.env args.toList++captured) h r h) (ht:w1s ops base i (z7a s.env o.op)):w3a P T ops s base i o ⟨r,[]⟩
section
variable {P:Program}
theorem z18.step' {ρ:Rho} {w:World} {s:AS} {tm:Array Value} (b:z18 P ρ s tm w) {new:Nat} (a:ρ new=none) {dst:Option Tmp} (i:z5g s.nt dst=true) {res:Res} {v:Value} {w':World} {ρ':Rho}
  (f:z0n ρ' (z0d ρ' (z07 s.heap res.u)) w' res.v v) (h:z0b P ρ' (z07 s.heap res.u) w') (c:Ext (fun id=>id≠new) ρ s.heap w ρ' (z07 s.heap res.u) w') (hr:ρ'=ρ∨∃ o,(new,o)∈res.u):
  z18 P ρ' (z5l s dst res.v res.u) (y3o tm dst v) w':=by
 obtain ⟨j,e⟩:=z5e res.u s.heap
 refine ⟨h,y18 c.keep (fun id L d=>?_) b.env b.size i f,by rw [z8h]; exact b.size,fun id hid=>?_⟩
 ·rw [c.rho id (by rintro rfl; rw [a] at d; cases d)]; exact d
 ·show id<(z07 s.heap res.u).length
  by_cases he:id=new
  ·subst he
   rcases hr with rfl|⟨o,g⟩
   ·exact absurd a hid
   ·exact e _ _ g
  ·rw [c.rho id he] at hid
   have:=b.dom id hid; omega
structure Inv (P:Program) (ops:List Oper) (s0:AS) (recs:List Rec) (S:Nat→Bool) (ρ:Rho) (tm:Array Value) (w:World) (s:AS):Prop where
 nt:s.nt=s0.nt
 env:∀ t,z00 s.env t=y7y s0 ops recs S t ops.length
 heap:∀ id,z0f s.heap id=y5n s0 ops recs S id ops.length
 st:z18 P ρ s tm w
 dom:∀ id,ρ id≠none→id<s0.heap.length∨∃ j r,S j=true∧recs[j]?=some r∧id=s0.heap.length+j∧∃ o,(id,o)∈r.u
 turned:∀ (j:Nat) (r:Rec),S j=true→recs[j]?=some r→∀ id o,(id,o)∈r.u→id=s0.heap.length+j∨(id<s0.heap.length∨∃ k,id=s0.heap.length+k∧k<j∧(z7k (y1i ops []) j).testBit k=true)
 closed:∀ (i:Nat) (o:Oper),ops[i]?=some o→S i=true→∀ d∈z5h o,S d=true
theorem x8x {T:TypeId→Option TI} {ops:List Oper} {s:AS} {base i:Nat} {o:Oper} {r:Rec} (h:w3a P T ops s base i o r):∀ id x,(id,x)∈r.u→id=base+i∨(y2h o.op=true∧id∈z7a s.env o.op∧(id<base∨∃ j,id=base+j∧j<i∧(z7k (y1i ops []) i).testBit j=true)):=by
 intro id x hm
 cases h with
 |skip=>simp at hm
 |step hg c d b e a=>
  rcases v4o b id x hm with h|h
  ·exact .inl h.1
  ·exact .inr ⟨h.1,h.2,a id h.2⟩
 |call=>simp at hm
theorem w6b {T : TypeId → Option TI} (hT : y1c P T) {ops : Array Oper} {s0 : AS} {recs : List Rec} (hind : y8k ops.toList = true) (hlen : recs.length ≤ ops.size)
    (Z : ∀ (i : Nat) (o : Oper) (r : Rec), ops[i]? = some o → recs[i]? = some r → z5g s0.nt o.dst = true ∧ w3a P T ops.toList (stF s0 ops.toList recs i) s0.heap.length i o r)
    (hpr : ∀ (i : Nat) (o : Oper), i < recs.length → ops[i]? = some o → x0s s0 ops.toList recs i o)
    {S : Nat → Bool} {ρ : Rho} {tm : Array Value} {w : World} {s : AS} {B : Nat} (l : Inv P ops.toList s0 recs S ρ tm w s) {i : Nat} {o : Oper} (hiL : i < recs.length) (hSL : ∀ j, S j = true → j < recs.length) (hi : S i = false) (ho : ops[i]? = some o) (hd : ∀ d ∈ z5h o, S d = true)
    {b : Frame} {k : List Item} {cs : List Frame} {ds : List Deferred} {rest : List Nat} (hds : z4h b.roundOf B ρ.fr w ds) :
    ∃ s' ρ' K w', Inv P ops.toList s0 recs (fun j => S j || Nat.beq j i) ρ' K w' s' ∧ z4h b.roundOf B ρ'.fr w' ds ∧ Ext (· < s0.heap.length) ρ s.heap w ρ' s'.heap w' ∧
      Steps P (lone (b.on tm ds (.inRegion ops (i :: rest) :: k)) cs w) (lone (b.on K ds (.inRegion ops rest :: k)) cs w') := by
  have hio : i < ops.size := (eAe.1 ho).1
  obtain ⟨r, hr⟩ : ∃ r, recs[i]? = some r := ⟨recs[i]'(by omega), eAb (by omega)⟩
  obtain ⟨hdst, V⟩ := Z i o r ho hr
  have F : ops.toList[i]? = some o := by rw [eAl]; exact ho
  have him : i < ops.toList.length := by simpa using hio
  have before : ∀ (j : Nat) (p : Oper), ops.toList[j]? = some p → j < i → S j = true ∨ y2d ops.toList p o = true := by
    intro j p A N
    rcases y9x hind N A F with h | h
    · exact .inl (z2d l.closed F hd j h)
    · exact .inr h
  have U : ∀ (j : Nat) (p : Oper), ops.toList[j]? = some p → i < j → S j = true → y2d ops.toList o p = true := by
    intro j p A G n
    rcases y9x hind G F A with h | h
    · have := z2d l.closed A (l.closed j p A n) i h
      rw [hi] at this; cases this
    · exact h
  have ap : ∀ {a c : Oper}, y2d ops.toList a c = true → (∀ t, a.dst = some t → t ∉ y9c c.op ++ y9y ops.toList c.guard ++ c.dst.toList) ∧ (∀ t, c.dst = some t → t ∉ y9c a.op ++ y9y ops.toList a.guard ++ a.dst.toList) := by
    intro a c h
    simp only [y2d, eAc] at h
    exact ⟨fun t Y => y6u h.1 Y, fun t Y => y6u h.2 Y⟩
  have dis1 : ∀ (j : Nat) (p : Oper), ops.toList[j]? = some p → j < i → S j = false → (y2h p.op = false ∧ y2h o.op = false) ∨ ∀ id ∈ z7a (stF s0 ops.toList recs j).env p.op, id ∉ z7a (stF s0 ops.toList recs i).env o.op := by
    intro j p A N n
    rcases hpr i o hiL ho j p N A with h | h
    · rw [z2d l.closed F hd j h] at n; cases n
    · exact h
  have dis2 : ∀ (j : Nat) (p : Oper), ops.toList[j]? = some p → i < j → S j = true → (y2h o.op = false ∧ y2h p.op = false) ∨ ∀ id ∈ z7a (stF s0 ops.toList recs i).env o.op, id ∉ z7a (stF s0 ops.toList recs j).env p.op := by
    intro j p A G n
    rcases hpr j p (hSL j n) (by rw [← eAl]; exact A) i o G F with h | h
    · have := z2d l.closed A (l.closed j p A n) i h
      rw [hi] at this; cases this
    · exact h
  have slot : ∀ t, t ∈ y9c o.op ++ y9y ops.toList o.guard → z00 s.env t = z00 (stF s0 ops.toList recs i).env t := by
    intro t Y
    rw [l.env t]
    refine y3d _ _ _ _ t i _ (by omega) (fun j p A M N => ?_) (fun j p A M G hjm => ?_)
    · rcases before j p A N with h | h
      · exact h
      · exact absurd (eCw _ Y) ((ap h).1 t M)
    · by_cases he : j = i
      · rw [he]; exact hi
      · cases hS : S j with
        | false => rfl
        | true => exact absurd (eCw _ Y) ((ap (U j p A (by omega) hS)).2 t M)
  have hE : ∀ x ∈ o.op.operands, z0p s.env x = z0p (stF s0 ops.toList recs i).env x := by
    intro x m
    cases x with
    | tmp t =>
      refine slot t (eCw _ ?_)
      unfold y9c
      rw [List.mem_filterMap]
      exact ⟨.tmp t, by simpa using m, rfl⟩
    | _ => rfl
  have hG : z6j ops.toList s.env o.guard = z6j ops.toList (stF s0 ops.toList recs i).env o.guard := by
    cases hg : o.guard with
    | none => rfl
    | some g =>
      obtain ⟨j, want⟩ := g
      simp only [z6j]
      cases hn : z19 ops.toList j with
      | none => rfl
      | some p =>
        simp only []
        cases M : p.dst with
        | none => rfl
        | some d =>
          simp only []
          rw [slot d (List.mem_append_right _ (by rw [hg]; simp [y9y, hn, M]))]
  have tidsE : z7a s.env o.op = z7a (stF s0 ops.toList recs i).env o.op := by
    unfold z7a
    split
    · congr 1
      refine List.map_congr_left fun x m => ?_
      rw [hE x (by simpa using m)]
    · unfold v9r
      split
      · rename_i t x i V; rw [hE x (by simp [V, Op.operands])]
      · rename_i t x lo hi mx V; rw [hE x (by simp [V, Op.operands])]
      · rfl
  have J := x8x V
  have doneOf : ∀ j, (z7k (y1i ops.toList []) i).testBit j = true → S j = true := fun j h => z2d l.closed F hd j h
  have free : ρ (s0.heap.length + i) = none := by
    cases H : ρ (s0.heap.length + i) with
    | none => rfl
    | some L =>
      rcases l.dom _ (by rw [H]; simp) with h | ⟨j, q, hS, hj, he, _⟩
      · omega
      · have : j = i := by omega
        subst this; rw [hi] at hS; cases hS
  have obj : w1s ops.toList s0.heap.length i (z7a (stF s0 ops.toList recs i).env o.op) → ∀ id ∈ z7a (stF s0 ops.toList recs i).env o.op, z0f s.heap id = z0f (stF s0 ops.toList recs i).heap id := by
    intro hlt id hid
    rw [l.heap id]
    refine y3c _ _ _ _ id i _ (by omega) (fun j q H m N => ?_) (fun j q H m G hjm => ?_)
    · obtain ⟨x, m⟩ := m
      have W : j < ops.size := by omega
      have I : ops[j]? = some ops[j] := eAs W
      have z : ops.toList[j]? = some ops[j] := by rw [eAl]; exact I
      rcases x8x (Z j _ q I H).2 id x m with h | ⟨h1, h2, h3⟩
      · rcases hlt id hid with h' | ⟨j', he, _, hb⟩
        · omega
        · have : j' = j := by omega
          subst this; exact doneOf _ hb
      · cases n : S j with
        | true => rfl
        | false =>
          rcases dis1 j _ z N n with h | h
          · rw [h1] at h; cases h.1
          · exact absurd hid (h id h2)
    · by_cases he : j = i
      · rw [he]; exact hi
      · cases hS : S j with
        | false => rfl
        | true =>
          exfalso
          obtain ⟨x, m⟩ := m
          have W : j < ops.size := by simpa using hjm
          have I : ops[j]? = some ops[j] := eAs W
          have z : ops.toList[j]? = some ops[j] := by rw [eAl]; exact I
          rcases x8x (Z j _ q I H).2 id x m with h | ⟨h1, h2, h3⟩
          · have := hlt.lt id hid; omega
          · rcases dis2 j _ z (by omega) hS with h | h
            · rw [h1] at h; cases h.2
            · exact h id hid h2
  have main : ∃ ρ' K w', z18 P ρ' (z5l s o.dst r.v r.u) K w' ∧ z4h b.roundOf B ρ'.fr w' ds ∧ Ext (fun id => id ≠ s0.heap.length + i) ρ s.heap w ρ' (z07 s.heap r.u) w' ∧
      (∀ id, ρ' id ≠ none → ρ id ≠ none ∨ (id = s0.heap.length + i ∧ ∃ x, (id, x) ∈ r.u)) ∧
      Steps P (lone (b.on tm ds (.inRegion ops (i :: rest) :: k)) cs w) (lone (b.on K ds (.inRegion ops rest :: k)) cs w') := by
    have O : z5g s.nt o.dst = true := by rw [l.nt]; exact hdst
    cases V with
    | skip hg =>
      rw [← hG] at hg
      exact ⟨ρ, _, w, l.st.step' free (res := ⟨true, .tuple [], []⟩) O x2v l.st.heap (Ext.refl _ _ _ _) (.inl rfl), hds, Ext.refl _ _ _ _, fun id h => .inl h, .one (y85 ho (z5f l.st hg))⟩
    | step hg hGl hw hs hc Y =>
      rename_i q rr ra res
      have hH := obj Y
      obtain ⟨e1, e2⟩ := x6e (T := T) (new := s0.heap.length + i) (q := q) (r := rr) (ra := ra) (op := o.op) (env := (stF s0 ops.toList recs i).env) (env' := s.env) (h := (stF s0 ops.toList recs i).heap) (h' := s.heap) hE hH
      rw [← e2] at hw
      rw [← e1] at hs
      rw [← hG] at hg
      obtain ⟨v, w', ρ', hrun, hv, hh, m, C⟩ := x77 hT hGl l.st.heap free l.st.env hw hs hc
      have h1' := l.st.step' free O hv hh m C
      have X : ∀ c, o.op ≠ .defer c := by
        intro c hc; rw [hc] at hs; simp [z01] at hs
      refine ⟨ρ', _, w', h1', hds.keep l.st.heap m, m, fun id h => ?_, .one (y1s ho (z5f l.st hg) X hrun)⟩
      by_cases he : id = s0.heap.length + i
      · rcases C with rfl | ⟨x, m⟩
        · exact .inl h
        · exact .inr ⟨he, x, by rw [he]; exact m⟩
      · rw [m.rho id he] at h; exact .inl h
    | call hg R hf hen Q Y =>
      rename_i f args ts g first E rv
      rw [← hG] at hg
      have hfE : z0p s.env f = .clo (.func g) first E := by
        rw [hE f (by rw [R]; simp [Op.operands, Call.operands])]; exact hf
      have hargs : z06 s.env args.toList = z06 (stF s0 ops.toList recs i).env args.toList := z9f fun x m => hE x (by rw [R]; simp [Op.operands, Call.operands]; right; simpa using m)
      have Q := Q s.heap (obj Y)
      rw [← hargs] at Q
      have hfv := z0j l.st.env f
      rw [hfE] at hfv
      obtain ⟨vf, vc, hfe, hfr, hcr⟩ : ∃ vf vc, opv tm f = .func (.func g) vf vc ∧ z04 ρ (z0d ρ s.heap) w first vf ∧ z04 ρ (z0d ρ s.heap) w E vc := by
        generalize hv : opv tm f = v at hfv
        cases hfv with
        | clo _ _ _ vf vc a1 a2 a3 a4 => exact ⟨vf, vc, rfl, ⟨a1, a3⟩, ⟨a2, a4⟩⟩
      have har : z04 ρ (z0d ρ s.heap) w (z06 s.env args.toList) (args.map (opv tm)) := z67 l.st.env args
      have hall := (hfr.append har).append hcr
      have hexec : (execOp (opv tm) o).run P w = .ok (.enter g (vf ++ args.map (opv tm) ++ vc)) w := by
        have := hen (vf ++ args.map (opv tm) ++ vc) w
        simp only [Array.append_assoc] at this
        simp [execOp, R, resolve, Deferred.ofValue, hfe, invoke, this]
      obtain ⟨ρ', v, w', fr, hst, hfn, hlv, hv, hh, hdm, m⟩ := Q.run ρ _ w (b.on tm ds (.inRegion ops (i :: rest) :: k) :: cs) l.st.heap l.st.dom hall
      have C : ∀ id, ρ' id = ρ id := by
        intro id
        by_cases hlt : id < s.heap.length
        · exact m.rho id hlt
        · have e1 : ρ' id = none := by
            cases H : ρ' id with
            | none => rfl
            | some L => have := hdm id (by rw [H]; simp); omega
          have e2 : ρ id = none := by
            cases H : ρ id with
            | none => rfl
            | some L => have := l.st.dom id (by rw [H]; simp); omega
          rw [e1, e2]
      have X : ∀ c, o.op ≠ .defer c := by rw [R]; simp
      refine ⟨ρ', y3o tm o.dst v, w', ⟨hh, y18 m.keep (fun id L hL => by rw [C]; exact hL) l.st.env l.st.size O hv, by rw [z8h]; exact l.st.size, hdm⟩, hds.keep l.st.heap m, ⟨m.os, m.tape, m.output, m.keep, fun id _ => C id, m.fr, m.frs⟩, fun id h => .inl (by rw [← C]; exact h), ?_⟩
      refine .head (y1t ho (z5f l.st hg) X hexec) (Steps.trans hst (.one ?_))
      rw [← z8s ho]
      exact step_leave_returned hlv
  obtain ⟨ρ', K, w', h1, h2, h3, h4, h5⟩ := main
  have mono : ∀ id, ρ id ≠ none → ρ' id ≠ none := by
    intro id h
    rw [h3.rho id (by rintro rfl; exact h free)]; exact h
  have h3' : Ext (· < s0.heap.length) ρ s.heap w ρ' (z5l s o.dst r.v r.u).heap w' := h3.mono (fun id (hid : id < s0.heap.length) => by show id ≠ s0.heap.length + i; omega)
  refine ⟨z5l s o.dst r.v r.u, ρ', K, w', ?_, h2, h3', h5⟩
  have mem : ∀ j, (S j || Nat.beq j i) = true ↔ S j = true ∨ j = i := by
    intro j
    simp only [eAt]
    constructor
    · rintro (h | h)
      · exact .inl h
      · exact .inr (eAd h)
    · rintro (h | rfl)
      · exact .inl h
      · exact .inr (eFd _)
  have hS' : ∀ j, S j = true → j ≠ i := by
    rintro j hj rfl; rw [hi] at hj; cases hj
  exact
    { nt := l.nt
      env := fun t => by
        rw [w3p _ _ _ _ i F hr t _ him (fun j p A G n d hod M => ?_)]
        · show z00 (y4f s.env o.dst r.v) t = _
          cases hod : o.dst with
          | none => simp [y4f, l.env t]
          | some d =>
            simp only [y4f]
            by_cases e : d = t
            · subst e; rw [if_pos rfl, z08]
            · rw [if_neg (by simp [e]), z1r _ _ _ _ e, l.env t]
        · exact (ap (U j p A G n)).1 d hod (List.mem_append_right _ (by simp [M]))
      heap := fun id => by
        rw [w3o _ _ _ _ i F hr hi id _ him (fun j q H G n m x hx2 => ?_)]
        · show z0f (z07 s.heap r.u) id = _
          rw [y1z, l.heap id]
        · obtain ⟨y, hy⟩ := m
          have W : j < ops.size := by have := (eAa.1 H).1; omega
          have I : ops[j]? = some ops[j] := eAs W
          have z : ops.toList[j]? = some ops[j] := by rw [eAl]; exact I
          rcases l.turned j q n H id x hx2 with h | h
          · rcases J id y hy with h' | ⟨_, _, h' | ⟨_, h', _, _⟩⟩ <;> omega
          · rcases J id y hy with h' | ⟨a1, a2, a3⟩
            · rcases h with h | ⟨k', h, hk1, hk2⟩
              · omega
              · have : k' = i := by omega
                subst this
                have hSk := z2d l.closed z (l.closed j _ z n) k' hk2
                rw [hi] at hSk; cases hSk
            · rcases x8x (Z j _ q I H).2 id x hx2 with g | ⟨g1, g2, g3⟩
              · rcases a3 with a3 | ⟨_, a3, _, _⟩ <;> omega
              · rcases dis2 j _ z G n with h | h
                · rw [a1] at h; cases h.1
                · exact h id a2 g2
      st := h1
      dom := fun id h => by
        rcases h4 id h with h | ⟨he, x, m⟩
        · rcases l.dom id h with h | ⟨j, q, a1, a2, a3, a4⟩
          · exact .inl h
          · exact .inr ⟨j, q, (mem j).2 (.inl a1), a2, a3, a4⟩
        · exact .inr ⟨i, r, (mem i).2 (.inr rfl), hr, he, x, m⟩
      turned := fun j q hj H id x m => by
        rcases (mem j).1 hj with h | rfl
        · exact l.turned j q h H id x m
        · rw [hr] at H; cases H
          rcases J id x m with h | ⟨_, _, h⟩
          · exact .inl h
          · exact .inr h
      closed := fun j p A hj d hdd => by
        refine (mem d).2 (.inl ?_)
        rcases (mem j).1 hj with h | rfl
        · exact l.closed j p A h d hdd
        · rw [F] at A; cases A; exact hd d hdd }
theorem x78 (s:AS) (ops:List Oper) (recs:List Rec):∀ m,(stF s ops recs m).nt=s.nt:=by
 intro m
 induction m with
 |zero=>rfl
 |succ m a=>
  simp only [stF]
  split
  ·simpa [z5l] using a
  ·exact a
theorem x6k (s:AS) (ops:List Oper) (recs:List Rec):∀ m,s.heap.length≤(stF s ops recs m).heap.length∧∀ j o r,j<m→ops[j]?=some o→recs[j]?=some r→∀ id x,(id,x)∈r.u→id<(stF s ops recs m).heap.length:=by
 intro m
 induction m with
 |zero=>exact ⟨eAj _,fun j o r k=>by omega⟩
 |succ m n=>
  obtain ⟨i,h⟩:=n
  simp only [stF]
  split
  ·rename_i o r q p
   obtain ⟨g,l⟩:=z5e r.u (stF s ops recs m).heap
   refine ⟨eBk i g,fun j d c k b a id x e=>?_⟩
   by_cases he:j=m
   ·subst he; rw [p] at a; cases a; exact l id x e
   ·exact eAp (h j d c (by omega) b a id x e) g
  ·rename_i f
   refine ⟨i,fun j d c k b a id x e=>?_⟩
   by_cases he:j=m
   ·subst he; exact absurd a (f d c b)
   ·exact h j d c (by omega) b a id x e
theorem y7l {T:TypeId→Option TI} (hT:y1c P T) {ops:Array Oper} {s0:AS} {recs:List Rec} (g:y8k ops.toList=true) (f:recs.length≤ops.size)
  (v:∀ (i:Nat) (o:Oper) (r:Rec),ops[i]?=some o→recs[i]?=some r→z5g s0.nt o.dst=true∧w3a P T ops.toList (stF s0 ops.toList recs i) s0.heap.length i o r)
  (t:∀ (i:Nat) (o:Oper),i<recs.length→ops[i]?=some o→x0s s0 ops.toList recs i o)
  (e:∀ (i:Nat) (o:Oper),ops[i]?=some o→recs.length≤i→∀ j,j<recs.length→(z7k (y1i ops.toList []) i).testBit j=true)
  {b:Frame} {k:List Item} {cs:List Frame} {ds:List Deferred} {B:Nat} {S:Nat→Bool} {l:List Nat} (G:Ord ops S l):∀ {ρ:Rho} {tm:Array Value} {w:World} {s:AS},(∀ j,S j=true→j<recs.length)→Inv P ops.toList s0 recs S ρ tm w s→z4h b.roundOf B ρ.fr w ds→
  ∃ s' ρ' d w' S' z,Inv P ops.toList s0 recs S' ρ' d w' s'∧Ord ops S' z∧(∀ i,i<recs.length→S' i=true)∧(∀ j,S' j=true→j<recs.length)∧z4h b.roundOf B ρ'.fr w' ds∧Ext (· <s0.heap.length) ρ s.heap w ρ' s'.heap w'∧
   Steps P (lone (b.on tm ds (.inRegion ops l::k)) cs w) (lone (b.on d ds (.inRegion ops z::k)) cs w'):=by
 induction G with
 |nil S h=>
  intro ρ tm w s a n hds
  exact ⟨s,ρ,tm,w,S,[],n, .nil S h,fun i x=>h i (by omega),a,hds,Ext.refl _ _ _ _, .refl _ _⟩
 |cons S i o l x p y h F=>
  intro ρ tm w s a n hds
  by_cases m:i<recs.length
  ·obtain ⟨s',ρ',d,w',K,J,I,H⟩:=w6b hT g f v t n m a x p y (b:=b) (k:=k) (cs:=cs) (rest:=l) hds
   obtain ⟨C,ρ2,q,A,V,E,U,R,Q,O,N,M,L⟩:=F (fun j c=>by
    simp only [eAt] at c
    rcases c with c|c
    ·exact a j c
    ·rw [eAd c]; exact m) K J
   exact ⟨C,ρ2,q,A,V,E,U,R,Q,O,N,I.trans M,H.trans L⟩
  ·have u:ops.toList[i]?=some o:=by rw [eAl]; exact p
   exact ⟨s,ρ,tm,w,S,i::l,n, .cons S i o l x p y h,fun j c=>z2d n.closed u y j (e i o p (by omega) j c),a,hds,Ext.refl _ _ _ _, .refl _ _⟩
theorem v0p {T:TypeId→Option TI} (hT:y1c P T) {ops:Array Oper} {s0:AS} {recs:List Rec} (e:y8k ops.toList=true) (d:recs.length=ops.size)
  (h:∀ (i:Nat) (o:Oper) (r:Rec),ops[i]?=some o→recs[i]?=some r→z5g s0.nt o.dst=true∧w3a P T ops.toList (stF s0 ops.toList recs i) s0.heap.length i o r)
  (g:∀ (i:Nat) (o:Oper),i<recs.length→ops[i]?=some o→x0s s0 ops.toList recs i o)
  {b:Frame} {k:List Item} {cs:List Frame} {ds:List Deferred} {B:Nat} {S:Nat→Bool} {l:List Nat} (x:Ord ops S l) {ρ:Rho} {tm:Array Value} {w:World} {s:AS} (p:∀ j,S j=true→j<recs.length) (z:Inv P ops.toList s0 recs S ρ tm w s) (hds:z4h b.roundOf B ρ.fr w ds):
  ∃ s' ρ' a w' S',Inv P ops.toList s0 recs S' ρ' a w' s'∧(∀ i,i<ops.size→S' i=true)∧z4h b.roundOf B ρ'.fr w' ds∧Ext (· <s0.heap.length) ρ s.heap w ρ' s'.heap w'∧
   Steps P (lone (b.on tm ds (.inRegion ops l::k)) cs w) (lone (b.on a ds k) cs w'):=by
 obtain ⟨u,ρ2,f,t,H,v,G,F,q,I,E,C,A⟩:=y7l hT e (Nat.le_of_eq d) h g (fun i o m y=>by have:=(eAe.1 m).1; omega) x (k:=k) (cs:=cs) p z hds
 have c:v=[]:=by
  cases F with
  |nil=>rfl
  |cons _ i o _ n m _ _=>have:=(eAe.1 m).1; rw [q i (by omega)] at n; cases n
 subst c
 exact ⟨u,ρ2,f,t,H,G,fun i n=>q i (by omega),E,C,A.trans (.one z84)⟩
theorem y42 {T : TypeId → Option TI} (hm : P.follows .mixedOrders = true) (hT : y1c P T) {n : Nat} {id : Nat} {ops : Array Oper} {s0 : AS} {Q : AX → AS → Prop} (hn : n ≤ s0.heap.length) (hind : y8k ops.toList = true) (hed : z71 ops.toList = true)
    (recs : List Rec) (hlen : recs.length = ops.size)
    (hok : ∀ (i : Nat) (o : Oper) (r : Rec), ops[i]? = some o → recs[i]? = some r → z5g s0.nt o.dst = true ∧ w3a P T ops.toList (stF s0 ops.toList recs i) s0.heap.length i o r)
    (hpr : ∀ (i : Nat) (o : Oper), i < recs.length → ops[i]? = some o → x0s s0 ops.toList recs i o)
    (hQ : Q .normal (stF s0 ops.toList recs ops.size)) : z54 P n (.region id ops true) s0 Q := ⟨by
  intro b k cs ρ tm ds w B h1 h2
  have hw := z0b.drawn h1.heap (w.drawn + 1) (z0u.succ _)
  have hxd := Ext.drawn (· < n) ρ s0.heap w (w.drawn + 1) (z0u.succ _)
  have hI : Inv P ops.toList s0 recs (fun _ => false) ρ tm { w with drawn := w.drawn + 1 } s0 :=
    { nt := rfl
      env := fun t => by
        have : ∀ m, y7y s0 ops.toList recs (fun _ => false) t m = z00 s0.env t := by
          intro m
          induction m with
          | zero => rfl
          | succ m ih => simp only [y7y]; split <;> simp [ih]
        rw [this]
      heap := fun id => by
        have : ∀ m, y5n s0 ops.toList recs (fun _ => false) id m = z0f s0.heap id := by
          intro m
          induction m with
          | zero => rfl
          | succ m ih => simp only [y5n]; split <;> simp [ih]
        rw [this]
      st := ⟨hw, fun t => (h1.env t).keep hxd.keep (fun _ _ h => h), h1.size, h1.dom⟩
      dom := fun id h => .inl (h1.dom id h)
      turned := by simp
      closed := by simp }
  obtain ⟨s', ρ', tm', w', S', g1, g2, g3, g4, g5⟩ := v0p hT hind hlen hok hpr (b := b) (k := k) (cs := cs) (ds := ds) (B := B) (y0b hed (w.tape w.drawn (.order b.fn id))) (by simp) hI (h2.keep h1.heap hxd)
  have hall : ∀ i, i < ops.toList.length → S' i = true := by simpa using g2
  have hE : ∀ t, z00 (stF s0 ops.toList recs ops.size).env t = z00 s'.env t := by
    intro t
    rw [g1.env t, w8j _ _ _ _ t _ hall, eBw]
  have hH : ∀ id, z0f s'.heap id = z0f (stF s0 ops.toList recs ops.size).heap id := by
    intro id
    rw [g1.heap id, w8i _ _ _ _ id _ hall, eBw]
  obtain ⟨l1, l2⟩ := x6k s0 ops.toList recs ops.size
  have hst : z18 P ρ' (stF s0 ops.toList recs ops.size) tm' w' :=
    ⟨g1.st.heap.ext hH, fun t => by rw [hE, ← z4e hH]; exact g1.st.env t, by rw [x78, ← g1.nt]; exact g1.st.size, fun id hid => by
      rcases g1.dom id hid with h | ⟨j, r, a1, a2, a3, x, a4⟩
      · omega
      · have hj : j < ops.size := by have := (eAa.1 a2).1; omega
        exact l2 j ops[j] r hj (by rw [eAl]; exact eAs hj) a2 id x a4⟩
  refine ⟨.normal, _, ρ', tm', ds, w', hQ, hst, g3, x78 _ _ _ _, ?_, ?_⟩
  · refine hxd.trans ?_
    have := g4.mono (S' := (· < n)) (fun id (hid : id < n) => by show id < s0.heap.length; omega)
    exact ⟨this.os, this.tape, this.output, by rw [← z4e hH]; exact this.keep, this.rho, this.fr, this.frs⟩
  · have hst := z7w (P := P) (b := b) (tm := tm) (ds := ds) (k := k) (cs := cs) (w := w) (id := id) (ops := ops)
    rw [hm] at hst
    exact .head hst g5⟩
inductive DS (P:Program) (T:TypeId→Option TI) (ops:List Oper) (nt base:Nat) (K:AS→Prop):List (List Nat)→Nat→List Oper→AS→Prop
 |nil {acc:List (List Nat)} {i:Nat} {s:AS} (h:K s):DS P T ops nt base K acc i [] s
 |cons {acc:List (List Nat)} {i:Nat} {o:Oper} {rest:List Oper} {s:AS} {r:Rec} (hp:y9j ops acc i o (z7a s.env o.op)=true) (hd:z5g nt o.dst=true) (hop:w3a P T ops s base i o r)
   (h:DS P T ops nt base K (acc++[z7a s.env o.op]) (i+1) rest (z5l s o.dst r.v r.u)):DS P T ops nt base K acc i (o::rest) s
theorem DS.recs {T:TypeId→Option TI} {ops:List Oper} {nt base:Nat} {K:AS→Prop} {s0:AS} {l:List (List Nat)} {i:Nat} {rest:List Oper} {s:AS} (h:DS P T ops nt base K l i rest s):
  ∀ (pre tail:List Oper) (d:List Rec),ops=pre++rest++tail→pre.length=i→d.length=i→s=stF s0 ops d i→
   (∀ (j:Nat) (o:Oper) (r:Rec),ops[j]?=some o→d[j]?=some r→z5g nt o.dst=true∧w3a P T ops (stF s0 ops d j) base j o r)→
   (l.length=i)→(∀ (j:Nat) (o:Oper),j<i→ops[j]?=some o→x60 l j=z7a (stF s0 ops d j).env o.op)→(∀ (j:Nat) (o:Oper),j<i→ops[j]?=some o→x0s s0 ops d j o)→
   ∃ recs:List Rec,recs.length+tail.length=ops.length∧(∀ (j:Nat) (o:Oper) (r:Rec),ops[j]?=some o→recs[j]?=some r→z5g nt o.dst=true∧w3a P T ops (stF s0 ops recs j) base j o r)∧(∀ (j:Nat) (o:Oper),j<recs.length→ops[j]?=some o→x0s s0 ops recs j o)∧K (stF s0 ops recs recs.length):=by
 induction h with
 |nil h=>
  intro pre tail d e B x w t k v n
  refine ⟨d,by rw [e]; simp [B,x],t,fun j o z=>n j o (by omega),by rw [x, ←w]; exact h⟩
 |cons A J F h C=>
  rename_i l i o rest s r
  intro pre tail d e B x w t k v n
  have f:ops[i]?=some o:=by rw [e, ←B]; simp
  have b:∀ m,m≤d.length→stF s0 ops (d++[r]) m=stF s0 ops d m:=by
   intro m
   induction m with
   |zero=>intro _; rfl
   |succ m C=>intro hm; simp only [stF]; rw [C (by omega),eCl (by omega)]
  have E:(d++[r])[i]?=some r:=by rw [←x]; simp
  refine C (pre++[o]) tail (d++[r]) (by rw [e]; simp) (by simp [B]) (by simp [x]) ?_ (fun j p q z y=>?_) (by simp [k]) (fun j p z c=>?_) (fun j p z c=>?_)
  ·simp only [stF,f,E]
   rw [b i (by omega), ←w]
  ·rw [eBf] at y
   split at y
   ·rename_i H
    rw [b j (by omega)]
    exact t j p q z y
   ·rename_i I
    have G:j=i:=by have:=(eAa.1 y).1; simp at this; omega
    subst G
    rw [f] at z; cases z
    have:r=q:=by rw [←x] at y; simpa using y
    subst this
    rw [b j (by omega), ←w]
    exact ⟨J,F⟩
  ·rw [b j (by omega)]
   by_cases u:j=i
   ·subst u
    rw [f] at c; cases c
    rw [←k,y0e,k, ←w]
   ·rw [y0d _ _ _ (by omega)]
    exact v j p (by omega) c
  ·by_cases u:j=i
   ·subst u
    rw [f] at c; cases c
    intro m a hm g
    rw [b m (by omega),b j (by omega)]
    unfold y9j at A
    have:=eAx.1 A m (eBs.2 hm)
    rw [x81,g] at this
    simp only [eAt,eAc,eDa] at this
    rcases this with h|h|h
    ·exact .inl h
    ·exact .inr (.inl h)
    ·refine .inr (.inr ?_)
     rw [v m a hm g] at h
     rw [←w]
     exact y97 h
   ·intro m a hm g
    have:=n j p (by omega) c m a hm g
    rw [b m (by omega),b j (by omega)]
    exact this
theorem w6h {T:TypeId→Option TI} (hm:P.follows .mixedOrders=true) (hT:y1c P T) {n:Nat} {id:Nat} {ops:Array Oper} {s0:AS} {Q:AX→AS→Prop} (g:n≤s0.heap.length) (a:y8k ops.toList=true) (c:z71 ops.toList=true)
  (h:DS P T ops.toList s0.nt s0.heap.length (Q .normal) [] 0 ops.toList s0):z54 P n (.region id ops true) s0 Q:=by
 obtain ⟨recs,d,p,m,e⟩:=h.recs (s0:=s0) [] [] [] (by simp) rfl rfl rfl (by simp) rfl (fun j o k=>by omega) (fun j o k=>by omega)
 refine y42 hm hT g a c recs (by simpa using d) (fun i o r b f=>p i o r (by rw [eAl]; exact b) f) (fun i o l b=>m i o l (by rw [eAl]; exact b)) (by simp at d; rw [d] at e; exact e)
end
end Go.Am
end
section
namespace Go.Am
def x7n {α:Type} (l:List α) (off len:Nat):List α:=(l.drop off).take len
def x4c (cap:Option Nat) (len:Nat):Bool:=
 match cap with
 |some c=>Nat.beq c len
 |none=>false
def frz (o:AO) (z off len:Nat) (cap:Option Nat):AV:=
 match o with
 | .row es=>bif Nat.ble (off+len) es.length then .d (.list (x4c cap len) z (x7n es off len)) else .bot
 |_=> .bot
mutual
def z3j (h:List AO) (kp:Nat→Bool):AV→AV
 | .bot=> .bot
 | .d x=> .d x
 | .bptr id off=>bif kp id then .bptr id off else .bot
 | .ptr id i off=>bif kp id then .ptr id i off else .bot
 | .lptr c off=> .lptr c off
 | .wptr c off=> .wptr c off
 | .perm c=> .perm c
 | .slice id z off len cap=>bif kp id then .slice id z off len cap else frz (z0f h id) z off len cap
 | .map id=>bif kp id then .map id else .bot
 | .yld id=>bif kp id then .yld id else .bot
 | .clo fn fs cs=> .clo fn (y74 h kp fs) (y74 h kp cs)
 | .iface t v=> .iface t (z3j h kp v)
 | .agg cs=> .agg (y74 h kp cs)
 | .tuple vs=> .tuple (y74 h kp vs)
def y74 (h:List AO) (kp:Nat→Bool):List AV→List AV
 |[]=>[]
 |x::l=>z3j h kp x::y74 h kp l
end
theorem z8x (h:List AO) (kp:Nat→Bool) (l:List AV):y74 h kp l=l.map (z3j h kp):=by
 induction l with
 |nil=>rfl
 |cons x l a=>simp [y74,a]
def x71 (h:List AO) (kp:Nat→Bool):List (List AV)→List (List AV)
 |[]=>[]
 |x::l=>y74 h kp x::x71 h kp l
def y75 {α:Type} (h:List AO) (kp:Nat→Bool):List (α×AV)→List (α×AV)
 |[]=>[]
 |(k,x)::l=>(k,z3j h kp x)::y75 h kp l
def w03 (h:List AO) (kp:Nat→Bool):AO→AO
 | .dead=> .dead
 | .box cs=> .box (y74 h kp cs)
 | .row es=> .row es
 | .arow es=> .arow (x71 h kp es)
 | .map es=> .map es
 | .loop st a g pos nt env=> .loop st a g pos nt (y75 h kp env)
theorem x2u (h:List AO) (kp:Nat→Bool) (l:List (List AV)):x71 h kp l=l.map (y74 h kp):=by
 induction l with
 |nil=>rfl
 |cons x l a=>simp [x71,a]
theorem y3v (h:List AO) (kp:Nat→Bool) (env:List (Nat×AV)) (t:Nat):z00 (y75 h kp env) t=z3j h kp (z00 env t):=by
 induction env with
 |nil=>rfl
 |cons x env a=>
  obtain ⟨k,x⟩:=x
  simp only [y75,z00]
  cases Nat.beq k t<;>simp [a]
theorem z77 (h:List AO) (kp:Nat→Bool) (o:AO):(w03 h kp o).live=o.live:=by cases o<;>rfl
def z38 (h:List AO) (kp:Nat→Bool):Nat→List AO→List AO
 |_,[]=>[]
 |i,o::l=>(bif kp i then w03 h kp o else .dead)::z38 h kp (i+1) l
theorem z4k (h:List AO) (kp:Nat→Bool) (l:List AO):∀ i id,z0f (z38 h kp i l) id=if kp (i+id)=true then w03 h kp (z0f l id) else .dead:=by
 induction l with
 |nil=>intro i id; simp [z38,z0f,w03]
 |cons o l a=>
  intro i id
  cases id with
  |zero=>simp only [z38,z0f,eBa]; cases kp i<;>rfl
  |succ id=>simp only [z38,z0f]; rw [a,show i+1+id=i+(id+1) by omega]
theorem z55 (h:List AO) (kp:Nat→Bool) (l:List AO):∀ i,(z38 h kp i l).length=l.length:=by
 induction l with
 |nil=>intro i; rfl
 |cons o l a=>intro i; simp [z38,a]
section
variable {ρ:Rho} {h:List AO} {w:World} {kp:Nat→Bool}
def Rho.only (ρ:Rho) (kp:Nat→Bool):Rho:=⟨fun id=>if kp id=true then ρ id else none,ρ.fr⟩
theorem z16 {id:Nat} {L:Loc}:ρ.only kp id=some L↔kp id=true∧ρ id=some L:=by
 simp [Rho.only]
theorem x8q {b:Nat}:z0d (ρ.only kp) (z38 h kp 0 h) b↔ρ.fr b∨∃ id L,kp id=true∧ρ id=some L∧(z0f h id).live=true∧L.blk=b:=by
 unfold z0d
 constructor
 ·rintro (d|⟨id,L,f,c,rfl⟩)
  ·exact .inl d
  ·obtain ⟨a,e⟩:=z16.1 f
   rw [z4k,eAq,if_pos a,z77] at c
   exact .inr ⟨id,L,a,e,c,rfl⟩
 ·rintro (d|⟨id,L,a,e,c,rfl⟩)
  ·exact .inl d
  ·refine .inr ⟨id,L,z16.2 ⟨a,e⟩,?_,rfl⟩
   rw [z4k,eAq,if_pos a,z77]; exact c
theorem z42 {b:Nat} (d:z0d (ρ.only kp) (z38 h kp 0 h) b):z0d ρ h b:=by
 rcases x8q.1 d with c|⟨id,L,_,e,a,rfl⟩
 ·exact .inl c
 ·exact .inr ⟨id,L,e,a,rfl⟩
theorem y34 {c:Array Value} {t:TypeId} {b k:Nat} {v:Value} (d:w.heap[b]?=some (.cells c t (0,0))) (a:c[k]?=some v):w.cell? ⟨b,k,none⟩=some v:=by
 simp [World.cell?,d,a]
theorem y0v {P:Program} (hr:z0b P ρ h w) {x:AV} {v:Value} (hv:z0n ρ (z0d ρ h) w x v):z0n (ρ.only kp) (z0d (ρ.only kp) (z38 h kp 0 h)) w (z3j h kp x) v:=by
 have X:z43 (z0d ρ h) (z0d (ρ.only kp) (z38 h kp 0 h)) w w:=⟨eAj _,fun _ _ _=>rfl,fun b _ K=>z42 K,fun _ _ h=>h,z0u.refl _⟩
 induction hv with
 |bot v=>exact .bot v
 |d h=>exact .d (h.keep X)
 |bptr id off L C=>
  simp only [z3j]
  cases g:kp id with
  |true=>exact .bptr id off L (z16.2 ⟨g,C⟩)
  |false=>exact .bot _
 |ptr id i off L C=>
  simp only [z3j]
  cases g:kp id with
  |true=>exact .ptr id i off L (z16.2 ⟨g,C⟩)
  |false=>exact .bot _
 |lptr r off b o p hO cell H hrr=>
  exact .lptr r off b o p (fun K=>hO (z42 K)) cell H (fun j x f=>(hrr j x f).keep X)
 |wptr es off b o z p hO U H=>
  exact .wptr es off b o z p (fun K=>hO (z42 K)) U fun i r j x B f=>let ⟨v,hv,hr⟩:=H i r j x B f; ⟨v,hv,hr.keep X⟩
 |perm es es' v hp h=>exact .perm es es' v hp (h.keep X)
 |nils id z off cap a H=>
  simp only [z3j]
  cases g:kp id with
  |true=>exact .nils id z off cap a H
  |false=>
   simp only [cond_false]
   unfold frz
   split
   ·cases Nat.ble (off+0) _ with
    |false=>exact .bot _
    |true=>simp only [cond_true,x7n,eFi]; exact .d (.lnil _ _ _ _ (fun _=>rfl))
   ·exact .bot _
 |slice id z off len cap L a c C U ha H S=>
  simp only [z3j]
  cases g:kp id with
  |true=>exact .slice id z off len cap L a c (z16.2 ⟨g,C⟩) U ha H S
  |false=>
   simp only [cond_false]
   unfold frz
   split
   ·rename_i es Q
    cases K:Nat.ble (off+len) es.length with
    |false=>exact .bot _
    |true=>
     have hle:=eAh K
     simp only [cond_true]
     obtain ⟨hblk,W⟩:=hr.obj id L C
     rw [Q] at W
     obtain ⟨I,cs,t,hcs,q,R⟩:=W
     have F:x4c cap len=true→c=len:=by
      intro G
      unfold x4c at G
      rcases H with rfl|⟨rfl,_⟩
      ·simp only at G; exact eAd G
      ·cases G
     refine .d ?_
     cases E:len with
     |zero=>
      have:x7n es off 0=[]:=by simp [x7n]
      rw [this]
      exact .lnil _ _ _ _ (fun G=>by rw [←E] at G; rw [F G,E])
     |succ m=>
      rw [←E]
      have l:(x7n es off len).length=len:=by simp [x7n]; omega
      have hpos:0<len:=by omega
      have n:∀ i r,(x7n es off len)[i]?=some r→i<len∧es[off+i]?=some r:=by
       intro i r B
       have p:i<len:=by rw [←l]; exact (eAa.1 B).1
       refine ⟨p,?_⟩
       simp only [x7n] at B
       rw [eDv p,eCg] at B
       exact B
      have N:∀ k,k<len*z→∃ u,cs[L.base+off*z+k]?=some u∧u.oneCell'=true∧∀ d,(∃ r,(x7n es off len)[k / z]?=some r∧r[k % z]?=some d)→z1k (z0d (ρ.only kp) (z38 h kp 0 h)) w d u:=by
       intro k hkz
       subst U
       have B:k / L.esz<len:=(eDt I).2 hkz
       have p:k / L.esz<(x7n es off len).length:=by rw [l]; exact B
       have he:=(n (k / L.esz) _ (eAb p)).2
       generalize (x7n es off len)[k / L.esz]=r at he
       have hrl:=q _ r he
       have Z:k % L.esz<r.length:=by rw [hrl]; exact eFc _ I
       obtain ⟨u,J,M,hd⟩:=R _ r _ r[k % L.esz] he (eAb Z)
       have hix:L.base+(off+k / L.esz)*L.esz+k % L.esz=L.base+off*L.esz+k:=by
        have:=Nat.div_add_mod k L.esz
        rw [eAr,eDo (k / L.esz)]; omega
       rw [hix] at J
       refine ⟨u,J,M,fun d hd'=>?_⟩
       obtain ⟨r',hr',hdr⟩:=hd'
       have:=(n _ _ hr').2
       rw [he] at this; cases this
       rw [eAb Z] at hdr; cases hdr
       exact hd.keep X
      have ha':a=some ⟨L.blk,L.base+off*L.esz,none⟩:=ha (by omega)
      subst U
      subst ha'
      have V:¬ z0d (ρ.only kp) (z38 h kp 0 h) L.blk:=by
       intro K
       rcases x8q.1 K with G|⟨id',L',M,h2,hl',he⟩
       ·exact hr.sep id L C (by rw [Q]; rfl) G
       ·have:=hr.inj id' id L' L h2 C hl' (by rw [Q]; rfl) he
        subst this; rw [g] at M; cases M
      have key:=z1k.list (O:=z0d (ρ.only kp) (z38 h kp 0 h)) (w:=w) (x4c cap len) (x7n es off len) L.blk (L.base+off*L.esz) L.esz c I
       (by intro e; rw [e] at l; simp at l; omega) V (by rw [l]; exact S) (by rw [l]; exact F) (fun i r B=>q _ r (n i r B).2)
       (fun k=>(cs[L.base+off*L.esz+k]?).getD undef) (fun k A=>?_) (fun k A=>?_) (fun i r j d B Z=>?_)
      ·rw [l] at key; exact key
      ·rw [l] at A
       obtain ⟨u,J,M,_⟩:=N k A
       rw [J]; exact M
      ·rw [l] at A
       obtain ⟨u,J,M,_⟩:=N k A
       rw [J]; exact y34 hcs J
      ·have Y:j<L.esz:=by rw [←q _ r (n i r B).2]; exact (eAa.1 Z).1
       have hil:=(n i r B).1
       have A:i*L.esz+j<len*L.esz:=by
        have:(i+1)*L.esz≤len*L.esz:=eAv _ (by omega)
        rw [eAr,Nat.one_mul] at this; omega
       obtain ⟨u,J,_,hd⟩:=N _ A
       rw [J]
       refine hd d ⟨r,?_,?_⟩
       ·rw [show (i*L.esz+j) / L.esz=i by rw [eDo,Nat.mul_add_div I,Nat.div_eq_of_lt Y,eBa]]; exact B
       ·rw [show (i*L.esz+j) % L.esz=j by rw [eDo,Nat.mul_add_mod,eDh Y]]; exact Z
   ·exact .bot _
 |map id L C=>
  simp only [z3j]
  cases g:kp id with
  |true=>exact .map id L (z16.2 ⟨g,C⟩)
  |false=>exact .bot _
 |yld id L C=>
  simp only [z3j]
  cases g:kp id with
  |true=>exact .yld id L (z16.2 ⟨g,C⟩)
  |false=>exact .bot _
 |clo fn fs cs vf vc G H M h2 ih1 ih2=>
  simp only [z3j,z8x]
  refine .clo fn _ _ vf vc (by simpa using G) (by simpa using H) (fun i x f=>?_) (fun i x f=>?_)
  ·rw [eAf] at f
   cases s:fs[i]? with
   |none=>rw [s] at f; cases f
   |some y=>rw [s] at f; cases f; exact ih1 i y s
  ·rw [eAf] at f
   cases s:cs[i]? with
   |none=>rw [s] at f; cases f
   |some y=>rw [s] at f; cases f; exact ih2 i y s
 |iface t x v h T=>simp only [z3j]; exact .iface t _ v T
 |agg xs vs S h T=>
  simp only [z3j,z8x]
  refine .agg _ vs (by simpa using S) (fun i x f=>?_)
  rw [eAf] at f
  cases s:xs[i]? with
  |none=>rw [s] at f; cases f
  |some y=>rw [s] at f; cases f; exact T i y s
 |tuple xs vs S h T=>
  simp only [z3j,z8x]
  refine .tuple _ vs (by simpa using S) (fun i x f=>?_)
  rw [eAf] at f
  cases s:xs[i]? with
  |none=>rw [s] at f; cases f
  |some y=>rw [s] at f; cases f; exact T i y s
theorem z0b.view {P:Program} (hr:z0b P ρ h w) (kp:Nat→Bool):z0b P (ρ.only kp) (z38 h kp 0 h) w where
 obj:=fun id L hL=>by
  obtain ⟨h1,h2⟩:=z16.1 hL
  obtain ⟨hb,ho⟩:=hr.obj id L h2
  refine ⟨hb,?_⟩
  rw [z4k,eAq,if_pos h1]
  have hk:z43 (z0d ρ h) (z0d (ρ.only kp) (z38 h kp 0 h)) w w:=⟨eAj _,fun _ _ _=>rfl,fun b _ hb=>z42 hb,fun _ _ h=>h,z0u.refl _⟩
  cases hno:z0f h id with
  |dead=>trivial
  |box cells=>
   rw [hno] at ho
   obtain ⟨hbase,c,t,hcb,hj⟩:=ho
   refine ⟨hbase,c,t,hcb,fun j x hx=>?_⟩
   rw [z8x,eAf] at hx
   cases hq:cells[j]? with
   |none=>rw [hq] at hx; cases hx
   |some y=>
    rw [hq] at hx; cases hx
    obtain ⟨v,hv,hvr⟩:=hj j y hq
    exact ⟨v,hv,y0v hr hvr⟩
  |row es=>
   rw [hno] at ho
   obtain ⟨hz,c,t,hcb,hl',hj⟩:=ho
   exact ⟨hz,c,t,hcb,hl',fun i r j x hi hx=>let ⟨v,hv,h1,hvr⟩:=hj i r j x hi hx; ⟨v,hv,h1,hvr.keep hk⟩⟩
  |arow es=>
   rw [hno] at ho
   obtain ⟨hz,c,t,hcb,hl',hj⟩:=ho
   refine ⟨hz,c,t,hcb,fun i r hi=>?_,fun i r j x hi hx=>?_⟩
   ·rw [x2u,eAf] at hi
    cases hq:es[i]? with
    |none=>rw [hq] at hi; cases hi
    |some y=>rw [hq] at hi; cases hi; rw [z8x,eAy]; exact hl' i y hq
   ·rw [x2u,eAf] at hi
    cases hq:es[i]? with
    |none=>rw [hq] at hi; cases hi
    |some y=>
     rw [hq] at hi; cases hi
     rw [z8x,eAf] at hx
     cases hq2:y[j]? with
     |none=>rw [hq2] at hx; cases hx
     |some z=>
      rw [hq2] at hx; cases hx
      obtain ⟨v,hv,h1,hvr⟩:=hj i y j z hq hq2
      exact ⟨v,hv,h1,y0v hr hvr⟩
  |map es=>
   rw [hno] at ho
   obtain ⟨en,clk,hcb,hl',hj⟩:=ho
   exact ⟨en,clk,hcb,hl',fun i k x hi=>let ⟨e,he,h1,h2⟩:=hj i k x hi; ⟨e,he,h1.keep hk,h2.keep hk⟩⟩
  |loop st pd g pos nt env=>
   rw [hno] at ho
   obtain ⟨x,ps,asg,body,hcd,tm,ds,f,hcb,hl',hj⟩:=ho
   exact ⟨x,ps,asg,body,hcd,tm,ds,f,hcb,hl',fun t=>by rw [y3v]; exact y0v hr (hj t)⟩
 inj:=fun id id' L L' h1 h2 l1 l2 hb=>by
  obtain ⟨a1,a2⟩:=z16.1 h1
  obtain ⟨b1,b2⟩:=z16.1 h2
  rw [z4k,eAq,if_pos a1,z77] at l1
  rw [z4k,eAq,if_pos b1,z77] at l2
  exact hr.inj id id' L L' a2 b2 l1 l2 hb
 fr:=hr.fr
 sep:=fun id L hL hl=>by
  obtain ⟨a1,a2⟩:=z16.1 hL
  rw [z4k,eAq,if_pos a1,z77] at hl
  exact hr.sep id L a2 hl
 gl:=hr.gl.sub fun b hb=>z42 hb
theorem Ext.view {n : Nat} (hn : ∀ id, id < n → kp id = true) (ρ : Rho) (h : List AO) (w : World) : Ext (· < n) ρ h w (ρ.only kp) (z38 h kp 0 h) w :=
  { os := rfl, tape := rfl, output := rfl
    keep := ⟨eAj _, fun _ _ _ => rfl, fun b _ hb => z42 hb, fun _ _ h => h, z0u.refl _⟩
    rho := fun id hid => by simp [Rho.only, hn id hid]
    fr := rfl
    frs := fun _ _ => rfl }
structure w7u (kp:Nat→Bool) (h h':List AO):Prop where
 nth:∀ id,z0f h' id=z0f (z38 h kp 0 h) id
 len:∀ id,kp id=true→id<h.length→id<h'.length
theorem z18.view {P:Program} {s:AS} {tm:Array Value} {h':List AO} (a:z18 P ρ s tm w) (b:w7u kp s.heap h'):z18 P (ρ.only kp) ⟨y75 s.heap kp s.env,h',s.nt⟩ tm w:=by
 refine ⟨(a.heap.view kp).ext (fun id=>(b.nth id).symm),fun t=>?_,a.size,fun id hid=>?_⟩
 ·show z0n _ (z0d _ h') w (z00 (y75 s.heap kp s.env) t) _
  rw [y3v,z4e b.nth]
  exact y0v a.heap (a.env t)
 ·cases c:ρ.only kp id with
  |none=>exact absurd c hid
  |some L=>
   obtain ⟨e,d⟩:=z16.1 c
   exact b.len id e (a.dom id (by rw [d]; simp))
theorem Ext.view' {n:Nat} {h':List AO} (b:∀ id,id<n→kp id=true) (ρ:Rho) (w:World) (a:w7u kp h h'):Ext (· <n) ρ h w (ρ.only kp) h' w:=by
 have:=Ext.view b ρ h w
 exact ⟨rfl,rfl,rfl,by rw [z4e a.nth]; exact this.keep,this.rho,rfl,fun _ _=>rfl⟩
theorem z4h.view {rd:Option Nat} {B:Nat} {ds:List Deferred} (a:z4h rd B ρ.fr w ds):z4h rd B (ρ.only kp).fr w ds:=a
def v2n (env' env:List (Nat×AV)):Prop:=∀ t,z00 env' t= .bot∨z00 env' t=z00 env t
theorem z18.weaken {P:Program} {s:AS} {tm:Array Value} {env':List (Nat×AV)} (a:z18 P ρ s tm w) (he:v2n env' s.env):z18 P ρ ⟨env',s.heap,s.nt⟩ tm w:=
 ⟨a.heap,fun t=>by
  show z0n ρ _ w (z00 env' t) _
  rcases he t with h|h
  ·rw [h]; exact .bot _
  ·rw [h]; exact a.env t,a.size,a.dom⟩
structure z5z (n:Nat) (s s':AS):Prop where
 run:∀ {P:Program} (ρ:Rho) (tm:Array Value) (w:World),z18 P ρ s tm w→∃ ρ',z18 P ρ' s' tm w∧s'.nt=s.nt∧Ext (· <n) ρ s.heap w ρ' s'.heap w∧(∀ id,id<n→ρ' id=ρ id)
theorem z5z.refl (n:Nat) (s:AS):z5z n s s:=⟨fun ρ tm w h=>⟨ρ,h,rfl,Ext.refl _ _ _ _,fun _ _=>rfl⟩⟩
theorem z5z.trans {n:Nat} {s s' a:AS} (c:z5z n s s') (b:z5z n s' a):z5z n s a:=⟨fun ρ tm w h=>by
 obtain ⟨ρ',l,k,j,i⟩:=c.run ρ tm w h
 obtain ⟨ρ2,g,f,e,d⟩:=b.run ρ' tm w l
 exact ⟨ρ2,g,f.trans k,j.trans e,fun id hid=>(d id hid).trans (i id hid)⟩⟩
theorem z5z.env {n:Nat} {s:AS} {env':List (Nat×AV)} (he:v2n env' s.env):z5z n s ⟨env',s.heap,s.nt⟩:=
 ⟨fun ρ tm w h=>⟨ρ,h.weaken he,rfl,Ext.refl _ _ _ _,fun _ _=>rfl⟩⟩
theorem z5z.view {n:Nat} {s:AS} {h':List AO} (kp:Nat→Bool) (b:∀ id,id<n→kp id=true) (a:w7u kp s.heap h'):z5z n s ⟨y75 s.heap kp s.env,h',s.nt⟩:=
 ⟨fun ρ tm w h=>⟨ρ.only kp,h.view a,rfl,Ext.view' b ρ w a,fun id hid=>by simp [Rho.only,b id hid]⟩⟩
theorem z2l {P:Program} {n:Nat} {c:Code} {s s':AS} {Q:AX→AS→Prop} (t:z5z n s s') (h:z54 P n c s' Q):z54 P n c s Q:=⟨by
 intro b k cs ρ tm ds w B f u
 obtain ⟨ρ',x,v,g,y⟩:=t.run ρ tm w f
 obtain ⟨e,j,ρ2,a,d,i,q,r,p,o,m,l⟩:=h.run b k cs ρ' tm ds w B x (u.keep f.heap g)
 exact ⟨e,j,ρ2,a,d,i,q,r,p,o.trans v,g.trans m,l⟩⟩
theorem z2z {P:Program} {n:Nat} {c:Code} {s:AS} {Q:AX→AS→Prop} (h:z54 P n c s (fun e s'=>∃ d,z5z n s' d∧Q e d)):z54 P n c s Q:=⟨by
 intro b k cs ρ tm ds w B v u
 obtain ⟨e,z,ρ2,a,f,g,⟨l,t,q⟩,i,r,p,o,m⟩:=h.run b k cs ρ tm ds w B v u
 obtain ⟨ρ',y,x,j,A⟩:=t.run ρ2 a g i
 refine ⟨e,l,ρ',a,f,g,q,y,r.keep i.heap j,x.trans p,o.trans j,m⟩⟩
def y1m (h:List AO) (m:Nat):List AO:=z38 h (fun id=>Nat.blt id m) 0 (h.take m)
theorem w4v (h:List AO) (m id:Nat):z0f (h.take m) id=if id<m then z0f h id else .dead:=by
 induction h generalizing m id with
 |nil=>simp [z0f]
 |cons o h a=>
  cases m with
  |zero=>simp [z0f]
  |succ m=>cases id with
   |zero=>simp [z0f]
   |succ id=>simp only [List.take_succ_cons,z0f,a]; by_cases h:id<m<;>simp [h]
theorem w8g (h:List AO) (m:Nat):w7u (fun id=>Nat.blt id m) h (y1m h m) where
 nth:=fun id=>by
  simp only [y1m]
  rw [z4k,z4k]
  simp only [eAq]
  split
  ·rename_i hb
   have:id<m:=eAh hb
   rw [w4v,if_pos this]
  ·rfl
 len:=fun id hb hl=>by
  have:id<m:=eAh hb
  simp only [y1m,z55,eBo]
  omega
theorem z3m.view {P:Program} {f:FuncId} {args:List AV} {h:List AO} {r:AV} {h':List AO} (hr:z3m P f args h r h'):z3m P f args h (z3j h' (fun id=>Nat.blt id h.length) r) (y1m h' h.length):=⟨by
 intro ρ e w cs t s q
 obtain ⟨ρ',v,b,fr,p,o,n,m,d,l,k⟩:=hr.run ρ e w cs t s q
 have a:=w8g h' h.length
 have g:∀ id,id<h.length→(fun id=>Nat.blt id h.length) id=true:=fun id hid=>eBj hid
 refine ⟨ρ'.only (fun id=>Nat.blt id h.length),v,b,fr,p,o,n,?_,?_,?_,?_⟩
 ·rw [z4e a.nth]; exact y0v d m
 ·exact (d.view _).ext (fun id=>(a.nth id).symm)
 ·intro id hid
  cases c:ρ'.only (fun id=>Nat.blt id h.length) id with
  |none=>exact absurd c hid
  |some L=>
   obtain ⟨j,i⟩:=z16.1 c
   exact a.len id j (l id (by rw [i]; simp))
 ·exact k.trans (Ext.view' g ρ' b a)⟩
theorem z3m.pret {P:Program} {f:FuncId} {args:List AV} {r:AV} {h':List AO} (hr:z3m P f args [] r h'):w7t P f args (z3j h' (fun _=>false) r):=by
 have:=hr.view
 simp only [eDn] at this
 have e:(fun id=>Nat.blt id 0)=fun _=>false:=by funext id; rfl
 rw [e] at this
 exact this
end
end Go.Am
end
section
namespace Go.Am
def isN:AX→Bool
 | .normal=>true
 |_=>false
def y8f:AX→LoopState
 | .normal=> .ready
 |_=> .done
def z3y:AX→Option Code
 | .normal=>none
 | .exit j=>some (.exit j)
 | .ret=>some .ret
def x3h (env:List (Nat×AV)):List Nat→List AV→List (Nat×AV)
 |t::ts,x::xs=>x3h (w72 env t x) ts xs
 |_,_=>env
section
variable {P:Program} {ρ:Rho} {h:List AO} {w:World}
theorem x0g {w:World} {b:Nat} {r r':Loop} (a:w.heap[b]?=some (.loop r)):∀ k m,z1a w k=some m→z1a (World.setObj w b (.loop r')) k=some m:=by
 intro k m hm
 by_cases e:k=b
 ·subst e; simp [z1a,a] at hm
 ·unfold z1a; rw [z15 _ _ _ _ e]; exact hm
theorem y67 {O:Nat→Prop} {b:Nat} {r r':Loop} (ho:O b) (hb:w.heap[b]?=some (.loop r)):z43 O O w (World.setObj w b (.loop r')) where
 size:=by rw [z10]; omega
 frame:=fun k hk hno=>z15 _ _ _ _ (by rintro rfl; exact hno ho)
 own:=fun _ _ h=>h
 shape:=x0g hb
 drawn:=z0u.refl _
theorem z0b.turned {ρ:Rho} {h:List AO} {w w':World} (hr:z0b P ρ h w) (k:z43 (z0d ρ h) (z0d ρ h) w w') (hb:∀ id L,ρ id=some L→(z0f h id).live=true→w'.heap[L.blk]?=w.heap[L.blk]?):z0b P ρ h w' where
 obj:=fun id L hL=>by
  obtain ⟨h1,h2⟩:=hr.obj id L hL
  refine ⟨eAp h1 k.size,?_⟩
  by_cases hl:(z0f h id).live=true
  ·exact h2.keep k (fun _ _ h=>h) (hb id L hL hl)
  ·cases hno:z0f h id<;>simp_all [AO.live,z1c]
 inj:=hr.inj
 fr:=fun b hf=>eAp (hr.fr b hf) k.size
 sep:=hr.sep
 gl:=hr.gl.keep k
theorem z18.frset {s:AS} {tm:Array Value} (a:z18 P ρ s tm w) {b:Nat} {r r':Loop} (d:ρ.fr b) (g:w.heap[b]?=some (.loop r)):z18 P ρ s tm (World.setObj w b (.loop r')):=by
 have c:z43 (z0d ρ s.heap) (z0d ρ s.heap) w (World.setObj w b (.loop r')):=y67 (.inl d) g
 refine ⟨a.heap.turned c (fun id L i f=>z15 _ _ _ _ ?_),fun t=>(a.env t).keep c (fun _ _ h=>h),a.size,a.dom⟩
 rintro e
 exact a.heap.sep id L i f (by rw [e]; exact d)
section steps
variable {b:Frame} {tm:Array Value} {ds:List Deferred} {k:List Item} {cs:List Frame}
theorem y8e {l:Nat} {w':World} (a:b.roundOf=some l) (hr:(Instr.beginRound l).run P w= .ok () w'):step P (lone (b.on tm ds (.beginRound::k)) cs w)= .next (lone (b.on tm ds k) cs w'):=
 step_lone_go (by simp [stepG,stepG.exec,stepG.apply,Frame.on,a,hr,Frame.finish])
theorem x29 {l:Nat} {c:Frame} {v:Value} {w':World} (d:b.roundOf=some l) (a:b.kind= .normal) (hr:(Instr.endRound l none).run P w= .ok v w'):step P (lone (b.on tm ds []) (c::cs) w)= .next (lone (c.finish v) cs w'):=
 step_lone_go (by simp [stepG,stepG.exec,Frame.on,d,a,hr,doReturn])
theorem x28 {l:Nat} {c:Frame} {v:Value} {w':World} (d:b.roundOf=some l) (a:b.kind= .normal) (hr:(Instr.endRound l (some .ret)).run P w= .ok v w'):step P (lone (b.on tm ds (.code .ret::k)) (c::cs) w)= .next (lone (c.finish v) cs w'):=
 step_lone_go (by simp [stepG,stepG.exec,Frame.on,d,a,hr,doReturn])
theorem x1b {l j:Nat} {c:Frame} {v:Value} {w':World} (e:b.roundOf=some l) (d:b.kind= .normal) (a:exitTo j k=none) (hr:(Instr.endRound l (some (.exit j))).run P w= .ok v w'):step P (lone (b.on tm ds (.code (.exit j)::k)) (c::cs) w)= .next (lone (c.finish v) cs w'):=
 step_lone_go (by simp [stepG,stepG.exec,Frame.on,e,d,hr,doReturn,a])
theorem x6i {ops:Array Oper} {i:Nat} {rest:List Nat} {o:Oper} (g:ops[i]?=some o) (e:Region.wanted o (yielded ops tm)=true) (h:∀ c,o.op≠ .defer c) {l:Nat} {f:FuncId} {a:Array Value} {d body:Code} {w':World}
  (hr:(execOp (opv tm) o).run P w= .ok (.round l f a d body) w'):
  step P (lone (b.on tm ds (.inRegion ops (i::rest)::k)) cs w)= .next (lone (Frame.round l f a d body .normal) (b.on tm ds (.inRegion ops (i::rest)::k)::cs) w'):=by
 refine step_lone_go ?_
 rw [w31 g e h]
 simp [stepG.apply,hr,Frame.on]
theorem x3a {f:Operand} {e:Array Tmp} {a body:Code} {l g:Nat} {mark:List Deferred} {vs:Array Value} {w1 c:World} (he:(Instr.enterLoop b.fn tm e a body b.roundOf).run P w= .ok (l,mark) w1)
  (hr:(do let d←resolve (opv tm) { callee:= .value f,args:=#[.const (.func (.yield l) #[] #[])],argTypes:=#[] } 0; invoke d.target d.args:Sem Next).run P w1= .ok (.enter g vs) c):
  step P (lone (b.on tm ds (.code (.rangeFunc f e a body)::k)) cs w)= .next (lone (Frame.enter P g vs .normal) (b.on tm (mark++ds) (.inRangeFunc l::k)::cs) c):=by
 have h:=x7i b tm (mark++ds) (.inRangeFunc l::k)
 simp only [Frame.on] at h
 exact step_lone_go (by
  simp only [Sem.run_bind] at hr
  simp [stepG,stepG.exec,stepG.apply,Frame.on,he,h,hr])
theorem x6j {l:Nat} {a:Option Code} {w':World} (hr:(Instr.endLoop l).run P w= .ok a w'):step P (lone (b.on tm ds (.endRangeFunc l::k)) cs w)= .next (lone (b.on tm ds ((a.map Item.code).toList++k)) cs w'):=
 step_lone_go (by simp [stepG,stepG.exec,Frame.on,hr])
end steps
theorem z6y {l:Nat} {r:Loop} (a:w.heap[l]?=some (.loop r)):(Instr.getLoop l).run P w= .ok r w:=by
 simp [Instr.getLoop,getObj,Sem.run,a]
theorem y1w {l:Nat} {r r':Loop} (a:w.heap[l]?=some (.loop r)):(setObj l (.loop r')).run P w= .ok () (World.setObj w l (.loop r')):=by
 have:=(eAe.1 a).1
 simp [setObj,Sem.run,a,World.setObj]
theorem y8g {l:Nat} {r:Loop} (a:w.heap[l]?=some (.loop r)) (b:r.state= .ready):(Instr.beginRound l).run P w= .ok () (World.setObj w l (.loop { r with state:= .busy })):=by
 simp [Instr.beginRound,z6y a,y1w a,b]
theorem x3l {l:Nat} {r:Loop} (a:w.heap[l]?=some (.loop r)) (j:Option Code):(Instr.endRound l j).run P w= .ok (.bool j.isNone) (World.setObj w l (.loop { r with state:=if j.isNone then .ready else .done,pending:=j })):=by
 simp [Instr.endRound,z6y a,y1w a]
theorem x6l {l:Nat} {r:Loop} (b:w.heap[l]?=some (.loop r)) (a:r.state≠ .busy):(Instr.endLoop l).run P w= .ok r.pending (World.setObj w l (.loop { r with state:= .exhausted })):=by
 have:(r.state== .busy)=false:=by
  cases c:r.state<;>first|rfl|exact absurd c a
 simp [Instr.endLoop,z6y b,y1w b,a]
theorem z7l {id j:Nat} (a:(z0f (z03 h id .dead) j).live=true):j≠id∧z0f (z03 h id .dead) j=z0f h j:=by
 by_cases e:id=j
 ·subst e; rw [z0h] at a; cases a
 ·exact ⟨Ne.symm e,z0c _ _ _ _ e⟩
def Rho.lend (ρ:Rho) (b:Nat):Rho:=⟨ρ.loc,fun k=>ρ.fr k∨k=b⟩
theorem y62 (ρ:Rho) (b:Nat):∀ id L,ρ id=some L→(ρ.lend b) id=some L:=fun _ _ h=>h
theorem w6x (ρ:Rho) (F:Nat→Prop):∀ id L,ρ id=some L→(⟨ρ.loc,F⟩:Rho) id=some L:=fun _ _ h=>h
theorem x8r {id:Nat} {L:Loc} (f:ρ id=some L) (g:(z0f h id).live=true) (b:Nat):z0d (ρ.lend L.blk) (z03 h id .dead) b↔z0d ρ h b:=by
 constructor
 ·rintro ((d|rfl)|⟨j,M,c,a,rfl⟩)
  ·exact .inl d
  ·exact .inr ⟨id,L,f,g,rfl⟩
  ·obtain ⟨_,e⟩:=z7l a
   exact .inr ⟨j,M,c,by rw [←e]; exact a,rfl⟩
 ·rintro (d|⟨j,M,c,a,rfl⟩)
  ·exact .inl (.inl d)
  ·by_cases e:id=j
   ·subst e
    have:(some L:Option Loc)=some M:=f.symm.trans c
    cases this
    exact .inl (.inr rfl)
   ·exact .inr ⟨j,M,c,by rw [z0c _ _ _ _ e]; exact a,rfl⟩
theorem z0b.lend (hr:z0b P ρ h w) {id:Nat} {L:Loc} (g:ρ id=some L) (p:(z0f h id).live=true):z0b P (ρ.lend L.blk) (z03 h id .dead) w:=by
 have o:z0d (ρ.lend L.blk) (z03 h id .dead)=z0d ρ h:=by funext b; exact propext (x8r g p b)
 refine ⟨fun j M d=>?_,fun i q M u l k n m r=>?_,fun b c=>?_,fun i M d a c=>?_,o▸hr.gl⟩
 ·obtain ⟨l,k⟩:=hr.obj j M d
  refine ⟨l,?_⟩
  rw [o]
  by_cases e:id=j
  ·subst e; rw [z0h]; trivial
  ·rw [z0c _ _ _ _ e]
   exact k.keep (z43.refl _ _) (y62 ρ L.blk) rfl
 ·obtain ⟨_,t⟩:=z7l n
  obtain ⟨_,s⟩:=z7l m
  exact hr.inj i q M u l k (by rw [←t]; exact n) (by rw [←s]; exact m) r
 ·rcases c with c|rfl
  ·exact hr.fr b c
  ·exact (hr.obj id L g).1
 ·obtain ⟨f,e⟩:=z7l a
  rw [e] at a
  rcases c with c|c
  ·exact hr.sep i M d a c
  ·exact f (hr.inj i id M L d g a p c)
theorem x8t {ρ':Rho} {h':List AO} {id:Nat} {L:Loc} {o:AO} (h:ρ' id=some L) (a:ρ'.fr=fun k=>ρ.fr k∨k=L.blk) (c:(z0f h' id).live=false) (i:o.live=true) (b:Nat):
  z0d ⟨ρ'.loc,ρ.fr⟩ (z03 h' id o) b↔z0d ρ' h' b:=by
 constructor
 ·rintro (f|⟨j,M,g,d,rfl⟩)
  ·exact .inl (by rw [a]; exact .inl f)
  ·by_cases e:id=j
   ·subst e
    have:(some L:Option Loc)=some M:=h.symm.trans g
    cases this
    exact .inl (by rw [a]; exact .inr rfl)
   ·rw [z0c _ _ _ _ e] at d
    exact .inr ⟨j,M,g,d,rfl⟩
 ·rintro (f|⟨j,M,g,d,rfl⟩)
  ·rw [a] at f
   rcases f with f|rfl
   ·exact .inl f
   ·exact .inr ⟨id,L,h,by rw [z0h]; exact i,rfl⟩
  ·have e:id≠j:=by rintro rfl; rw [c] at d; cases d
   exact .inr ⟨j,M,g,by rw [z0c _ _ _ _ e]; exact d,rfl⟩
theorem z0b.back {ρ':Rho} {h':List AO} {w':World} (hr:z0b P ρ' h' w') {id:Nat} {L:Loc} {o:AO} (g:ρ' id=some L) (a:ρ'.fr=fun k=>ρ.fr k∨k=L.blk) (w:¬ ρ.fr L.blk) (B:o.live=true)
  (v:z1c P ⟨ρ'.loc,ρ.fr⟩ (z0d ⟨ρ'.loc,ρ.fr⟩ (z03 h' id o)) w' L o):(z0f h' id).live=false∧z0b P ⟨ρ'.loc,ρ.fr⟩ (z03 h' id o) w':=by
 have c:(z0f h' id).live=false:=by
  cases A:(z0f h' id).live with
  |false=>rfl
  |true=>exact absurd (by rw [a]; exact .inr rfl) (hr.sep id L g A)
 have d:z0d ⟨ρ'.loc,ρ.fr⟩ (z03 h' id o)=z0d ρ' h':=by funext b; exact propext (x8t g a c B b)
 refine ⟨c,fun j M f=>?_,fun i q M z n m u t y=>?_,fun b r=>hr.fr b (by rw [a]; exact .inl r),fun i M f l r=>?_,d▸hr.gl⟩
 ·obtain ⟨n,m⟩:=hr.obj j M f
  refine ⟨n,?_⟩
  by_cases e:id=j
  ·subst e
   have:(some L:Option Loc)=some M:=g.symm.trans f
   cases this
   rw [z0h]; exact v
  ·rw [z0c _ _ _ _ e,d]
   exact m.keep (z43.refl _ _) (w6x ρ' ρ.fr) rfl
 ·have other:∀ j M,ρ' j=some M→id≠j→(z0f (z03 h' id o) j).live=true→M.blk≠L.blk:=by
   intro j M f x h e
   rw [z0c _ _ _ _ x] at h
   exact hr.sep j M f h (by rw [a]; exact .inr e)
  by_cases s:id=i
  ·by_cases p:id=q
   ·rw [←s, ←p]
   ·subst s
    have:(some L:Option Loc)=some M:=g.symm.trans n
    cases this
    exact absurd y.symm (other q z m p t)
  ·by_cases p:id=q
   ·subst p
    have:(some L:Option Loc)=some z:=g.symm.trans m
    cases this
    exact absurd y (other i M n s u)
   ·rw [z0c _ _ _ _ s] at u
    rw [z0c _ _ _ _ p] at t
    exact hr.inj i q M z n m u t y
 ·by_cases e:id=i
  ·subst e
   have:(some L:Option Loc)=some M:=g.symm.trans f
   cases this
   exact w r
  ·rw [z0c _ _ _ _ e] at l
   exact hr.sep i M f l (by rw [a]; exact .inl r)
theorem w32 {O:Nat→Prop} {nt:Nat}:∀ (b:List Nat) (xs:List AV) (vs:List Value) (env:List (Nat×AV)) (tm:Array Value),(∀ p∈b,p<nt)→vs.length=xs.length→(∀ (i:Nat) (x:AV) (v:Value),xs[i]?=some x→vs[i]?=some v→z0n ρ O w x v)→
  tm.size=nt→z69 ρ O w env tm→z69 ρ O w (x3h env b xs) ((b.zip vs).foldl (fun tmps (t,a)=>tmps.setIfInBounds t a) tm)∧((b.zip vs).foldl (fun tmps (t,a)=>tmps.setIfInBounds t a) tm).size=nt:=by
 intro b
 induction b with
 |nil=>intro xs vs env tm _ _ _ c he; cases xs<;>exact ⟨by simpa [x3h] using he,by simpa using c⟩
 |cons p b g=>
  intro xs vs env tm f d e c he
  cases xs with
  |nil=>
   have:vs=[]:=by simpa using d
   subst this
   exact ⟨by simpa [x3h] using he,by simpa using c⟩
  |cons x xs=>
   cases vs with
   |nil=>simp at d
   |cons v vs=>
    simp only [x3h,List.zip_cons_cons,eCj]
    refine g xs vs _ _ (fun q l=>f q (by simp [l])) (by simpa using d) (fun i y u j k=>e (i+1) y u (by simpa using j) (by simpa using k)) (by simpa using c) ?_
    have:=y18 (ρ:=ρ) (dst:=some p) (nt:=nt) (z43.refl O w) (fun _ _ h=>h) he c (by simp [z5g,Nat.blt]; exact f p (by simp)) (e 0 x v rfl rfl)
    exact this
theorem w1p {n : Nat} {ops : Array Oper} {i : Nat} {rest : List Nat} {s : AS} {Q : AS → Prop} {o : Oper} (ho : ops[i]? = some o) (hg : z6j ops.toList s.env o.guard = some true) (hn : n ≤ s.heap.length) {f : Operand} {args : Array Operand} {ts : Array TypeId}
    (hop : o.op = .call ⟨.value f, args, ts⟩) {id : Nat} (hf : z0p s.env f = .yld id) {pd : Option Code} {g : Nat} {pos : List Bool} {env : List (Nat × AV)} {nt : Nat} (hob : z0f s.heap id = .loop .ready pd g pos nt env)
    {x0 : Operand} {z : Array Tmp} {h body : Code} (hcd : z1v P g pos = some (.rangeFunc x0 z h body))
    (hps : ∀ p ∈ z.toList, p < nt) (hpl : args.size = z.size) (hd : z5g s.nt o.dst = true)
    (hc : z54 P s.heap.length h ⟨x3h env z.toList (z06 s.env args.toList), z03 s.heap id .dead, nt⟩ (fun e s1 => e = .normal ∧ z54 P s.heap.length body s1 (fun e' H => s.heap.length ≤ H.heap.length ∧
      y4a P n ops rest ⟨y4f s.env o.dst (.d (.bool (isN e'))), z03 H.heap id (.loop (y8f e') (z3y e') g pos nt env), s.nt⟩ Q))) : y4a P n ops (i :: rest) s Q := ⟨by
  intro b k cs ρ tm ds w B U h2
  have hfv := z0j U.env f
  rw [hf] at hfv
  obtain ⟨L, hL, hfe⟩ : ∃ L, ρ id = some L ∧ opv tm f = .func (.yield L.blk) #[] #[] := by
    generalize hv : opv tm f = v at hfv
    cases hfv with | yld _ L hL => exact ⟨L, hL, rfl⟩
  have J : (z0f s.heap id).live = true := by rw [hob]; rfl
  have N : id < s.heap.length := U.dom id (by rw [hL]; simp)
  obtain ⟨hblt, hobj⟩ := U.heap.obj id L hL
  rw [hob] at hobj
  obtain ⟨x1, ps1, asg1, body1, hcd1, m, y, u, hcb, hts, hev⟩ := hobj
  rw [hcd] at hcd1; cases hcd1
  have har : z04 ρ (z0d ρ s.heap) w (z06 s.env args.toList) (args.map (opv tm)) := z67 U.env args
  let C := ((z.zip (args.map (opv tm))).foldl (fun tmps (t, a) => tmps.setIfInBounds t a) m)
  have hexec : (execOp (opv tm) o).run P w = .ok (.round L.blk u C h body) w := by
    have hsz : (args.map (opv tm)).size = z.size := by simpa using hpl
    simp [execOp, hop, resolve, Deferred.ofValue, hfe, invoke, Instr.yield, z6y hcb, hsz, C, hpl]
  let R : Frame := Frame.round L.blk u C h body .normal
  let c0 := b.on tm ds (.inRegion ops (i :: rest) :: k)
  have hr1 := U.heap.lend hL J
  have ho1 : z0d (ρ.lend L.blk) (z03 s.heap id .dead) = z0d ρ s.heap := by funext b; exact propext (x8r hL J b)
  have A := w32 (ρ := ρ.lend L.blk) (w := w) (O := z0d ρ s.heap) z.toList (z06 s.env args.toList) (args.map (opv tm)).toList env m hps (by rw [eBw]; exact har.1) (fun j x v hx hv => by
      have := har.2 j x hx
      have hv' : (args.map (opv tm))[j]? = some v := by rw [← eAl]; exact hv
      rw [z9c hv'] at this
      exact this.keep (z43.refl _ _) (y62 ρ L.blk)) hts (fun t => (hev t).keep (z43.refl _ _) (y62 ρ L.blk))
  have htm1 : C = (z.toList.zip (args.map (opv tm)).toList).foldl (fun tmps (t, a) => tmps.setIfInBounds t a) m := by
    simp only [C]
    rw [← Array.foldl_toList, Array.toList_zip]
  rw [← htm1] at A
  have hst1 : z18 P (ρ.lend L.blk) ⟨x3h env z.toList (z06 s.env args.toList), z03 s.heap id .dead, nt⟩ C w :=
    ⟨hr1, fun t => by rw [ho1]; exact A.1 t, A.2, fun j Y => by
      have := U.dom j Y
      rw [z3p _ _ _ N]; exact this⟩
  have hdf1 : z4h (some L.blk) w.heap.size (ρ.lend L.blk).fr w [] := ⟨List.nodup_nil, by simp, hr1.fr, eAj _, fun l hl => by cases hl; exact ⟨.inr rfl, _, hcb⟩⟩
  obtain ⟨e, s1, ρ2, tm2, ds2, w2, ⟨rfl, hbody⟩, a1, a2, a3, a4, a5⟩ := hc.run R [.beginRound, .code body] (c0 :: cs) _ C [] w w.heap.size hst1 hdf1
  have hfr2 : ρ2.fr = fun k => ρ.fr k ∨ k = L.blk := a4.fr
  have E : w2.heap[L.blk]? = some (.loop { state := .ready, pending := pd, fn := u, tmps := m, params := z, assign := h, body := body, defers := y }) := (a4.frs L.blk (.inr rfl)).trans hcb
  have S : ρ2.fr L.blk := by rw [hfr2]; exact .inr rfl
  have hbr := y8g (P := P) E rfl
  have a1' := a1.frset (r' := { state := .busy, pending := pd, fn := u, tmps := m, params := z, assign := h, body := body, defers := y }) S E
  have hcb3 : (World.setObj w2 L.blk (.loop { state := .busy, pending := pd, fn := u, tmps := m, params := z, assign := h, body := body, defers := y })).heap[L.blk]? = some (.loop { state := .busy, pending := pd, fn := u, tmps := m, params := z, assign := h, body := body, defers := y }) :=
    z0t _ _ _ (eAe.1 E).1
  have hk23 : z43 (z0d ρ2 s1.heap) (z0d ρ2 s1.heap) w2 (World.setObj w2 L.blk (.loop { state := .busy, pending := pd, fn := u, tmps := m, params := z, assign := h, body := body, defers := y })) := y67 (.inl S) E
  have a2' : z4h (some L.blk) w.heap.size ρ2.fr (World.setObj w2 L.blk (.loop { state := .busy, pending := pd, fn := u, tmps := m, params := z, assign := h, body := body, defers := y })) ds2 := by
    refine ⟨a2.nodup, fun d hdm => ?_, a2.below, by rw [z10]; exact a2.le, fun l hl => by cases hl; exact ⟨S, _, hcb3⟩⟩
    obtain ⟨r, e, hr, hB⟩ := a2.mark d hdm
    refine ⟨r, e, ?_, hB⟩
    rw [z15 _ _ _ _ (by rintro rfl; rw [E] at hr; cases hr)]; exact hr
  generalize hw3 : World.setObj w2 L.blk (.loop { state := .busy, pending := pd, fn := u, tmps := m, params := z, assign := h, body := body, defers := y }) = w3 at *
  obtain ⟨e, H, F, tm4, ds4, G, ⟨hlen, hrest⟩, b1, b2, b3, b4, b5⟩ := hbody.run R [] (c0 :: cs) ρ2 tm2 ds2 w3 w.heap.size a1' a2'
  have Z : F.fr = fun k => ρ.fr k ∨ k = L.blk := b4.fr.trans hfr2
  have T : G.heap[L.blk]? = some (.loop { state := .busy, pending := pd, fn := u, tmps := m, params := z, assign := h, body := body, defers := y }) := (b4.frs L.blk S).trans hcb3
  have hL4 : F id = some L := by
    rw [b4.rho id N, a4.rho id N]; exact hL
  have her := x3l (P := P) T (z3y e)
  have hjn : (z3y e).isNone = isN e := by cases e <;> rfl
  have hjs : (if (z3y e).isNone = true then LoopState.ready else LoopState.done) = y8f e := by cases e <;> rfl
  rw [hjn] at her
  rw [hjn] at hjs
  rw [hjs] at her
  have hsteps : Steps P (lone c0 cs w) (lone (c0.finish (.bool (isN e))) cs (World.setObj G L.blk (.loop { state := y8f e, pending := z3y e, fn := u, tmps := m, params := z, assign := h, body := body, defers := y }))) := by
    have hdef : ∀ c, o.op ≠ .defer c := by rw [hop]; simp
    refine .head (x6i ho (z5f U hg) hdef hexec) ?_
    have hR : R.on C [] [.code h, .beginRound, .code body] = R := rfl
    rw [hR] at a5
    refine Steps.trans a5 (.head (y8e (l := L.blk) rfl hbr) ?_)
    cases e with
    | normal => exact Steps.trans b5 (.one (x29 (l := L.blk) rfl rfl her))
    | exit j =>
      obtain ⟨k', ek, hs⟩ := b5
      exact Steps.trans hs (.one (x1b (l := L.blk) rfl rfl (by rw [ek]; rfl) her))
    | ret =>
      obtain ⟨k', hs⟩ := b5
      exact Steps.trans hs (.one (x28 (l := L.blk) rfl rfl her))
  have X : F.fr L.blk := by rw [Z]; exact .inr rfl
  have b1' := b1.frset (r' := { state := y8f e, pending := z3y e, fn := u, tmps := m, params := z, assign := h, body := body, defers := y }) X T
  have hcb5 : (World.setObj G L.blk (.loop { state := y8f e, pending := z3y e, fn := u, tmps := m, params := z, assign := h, body := body, defers := y })).heap[L.blk]? = some (.loop { state := y8f e, pending := z3y e, fn := u, tmps := m, params := z, assign := h, body := body, defers := y }) :=
    z0t _ _ _ (eAe.1 T).1
  have hk45 : z43 (z0d F H.heap) (z0d F H.heap) G (World.setObj G L.blk (.loop { state := y8f e, pending := z3y e, fn := u, tmps := m, params := z, assign := h, body := body, defers := y })) := y67 (.inl X) T
  have hw5size : (World.setObj G L.blk (.loop { state := y8f e, pending := z3y e, fn := u, tmps := m, params := z, assign := h, body := body, defers := y })).heap.size = G.heap.size := z10 _ _ _
  have hw5frs : ∀ b, b ≠ L.blk → (World.setObj G L.blk (.loop { state := y8f e, pending := z3y e, fn := u, tmps := m, params := z, assign := h, body := body, defers := y })).heap[b]? = G.heap[b]? := fun b hb => z15 _ _ _ _ hb
  have V : (World.setObj G L.blk (.loop { state := y8f e, pending := z3y e, fn := u, tmps := m, params := z, assign := h, body := body, defers := y })).os = G.os ∧ (World.setObj G L.blk (.loop { state := y8f e, pending := z3y e, fn := u, tmps := m, params := z, assign := h, body := body, defers := y })).tape = G.tape ∧ (World.setObj G L.blk (.loop { state := y8f e, pending := z3y e, fn := u, tmps := m, params := z, assign := h, body := body, defers := y })).output = G.output := ⟨rfl, rfl, rfl⟩
  generalize World.setObj G L.blk (.loop { state := y8f e, pending := z3y e, fn := u, tmps := m, params := z, assign := h, body := body, defers := y }) = w5 at *
  have hnf : ¬ ρ.fr L.blk := U.heap.sep id L hL J
  have hdead : (z0f H.heap id).live = false := by
    cases hq : (z0f H.heap id).live with
    | false => rfl
    | true => exact absurd X (b1.heap.sep id L hL4 hq)
  have I : z0d ⟨F.loc, ρ.fr⟩ (z03 H.heap id (.loop (y8f e) (z3y e) g pos nt env)) = z0d F H.heap := by
    funext b; exact propext (x8t hL4 Z hdead rfl b)
  have K : z43 (z0d ρ s.heap) (z0d F H.heap) w w5 := by
    have k1 := a4.keep
    rw [ho1] at k1
    exact ((k1.trans hk23).trans b4.keep).trans hk45
  have hrho : ∀ j, j < s.heap.length → F j = ρ j := fun j Y => (b4.rho j Y).trans (a4.rho j Y)
  have W : ∀ j M, ρ j = some M → F j = some M := fun j M hM => by rw [hrho j (U.dom j (by rw [hM]; simp))]; exact hM
  obtain ⟨_, hback⟩ := b1'.heap.back (ρ := ρ) (o := .loop (y8f e) (z3y e) g pos nt env) hL4 Z hnf rfl ⟨x0, z, h, body, hcd, m, y, u, hcb5, hts, fun t => by
    rw [I]
    exact (hev t).keep (ρ' := ⟨F.loc, ρ.fr⟩) K (fun j M hM => W j M hM)⟩
  have hext : Ext (· < s.heap.length) ρ s.heap w ⟨F.loc, ρ.fr⟩ (z03 H.heap id (.loop (y8f e) (z3y e) g pos nt env)) w5 :=
    { os := V.1.trans (b4.os.trans ((by rw [← hw3]; rfl : w3.os = w2.os).trans a4.os))
      tape := V.2.1.trans (b4.tape.trans ((by rw [← hw3]; rfl : w3.tape = w2.tape).trans a4.tape))
      output := V.2.2.trans (b4.output.trans ((by rw [← hw3]; rfl : w3.output = w2.output).trans a4.output))
      keep := by rw [I]; exact K
      rho := fun j Y => hrho j Y
      fr := rfl
      frs := fun c hcf => by
        have hne : c ≠ L.blk := by rintro rfl; exact hnf hcf
        rw [hw5frs c hne, b4.frs c (by rw [hfr2]; exact .inl hcf), ← hw3, z15 _ _ _ _ hne, a4.frs c (.inl hcf)] }
  have h1' : z18 P ⟨F.loc, ρ.fr⟩ ⟨y4f s.env o.dst (.d (.bool (isN e))), z03 H.heap id (.loop (y8f e) (z3y e) g pos nt env), s.nt⟩ (y3o tm o.dst (.bool (isN e))) w5 :=
    ⟨hback, by
      show z69 _ (z0d ⟨F.loc, ρ.fr⟩ (z03 H.heap id _)) w5 _ _
      rw [I]
      exact y18 (ρ' := ⟨F.loc, ρ.fr⟩) K (fun j M hM => W j M hM) U.env U.size hd (.d (.bool _)), by rw [z8h]; exact U.size, fun j Y => by
      have Y : F j ≠ none := Y
      have := b1.dom j Y
      have := (z1w H.heap id (.loop (y8f e) (z3y e) g pos nt env)).1
      show j < (z03 H.heap id _).length
      omega⟩
  obtain ⟨s3, ρ5, tm5, w6, q, g1, g2, g3, g4, g5⟩ := hrest.run b k cs _ _ ds w5 B h1' (h2.keep U.heap hext)
  refine ⟨s3, ρ5, tm5, w6, q, g1, g2, g3, (hext.mono (fun j (Y : j < n) => by show j < s.heap.length; omega)).trans g4, Steps.trans hsteps ?_⟩
  rw [show c0.finish (.bool (isN e)) = b.on (y3o tm o.dst (.bool (isN e))) ds (.inRegion ops rest :: k) from z8s ho _]
  exact g5⟩
end
end Go.Am
end
section
namespace Go.Am
def y0t (s:AS) (h:List AO):Option Code→Option (AX×AS)
 |none=>some (.normal,⟨s.env,h,s.nt⟩)
 |some .ret=>some (.ret,⟨s.env,h,s.nt⟩)
 |some (.exit j)=>some (.exit j,⟨s.env,h,s.nt⟩)
 |some _=>none
section
variable {P:Program}
theorem y6f (h:List AO) (o:AO):(z03 h h.length o).length=h.length+1:=by rw [x1i]; simp
structure z5k (P:Program) (n:Nat) (g:FuncId) (args:List AV) (s:AS) (r:AV) (s':AS):Prop where
 run:∀ (ρ:Rho) (vs tm:Array Value) (w:World) (cs:List Frame),z18 P ρ s tm w→z04 ρ (z0d ρ s.heap) w args vs→
  ∃ ρ' v w' fr,Steps P (lone (Frame.enter P g vs .normal) cs w) (lone fr cs w')∧fr.fn=g∧fr.leaving P w' (.returned v)∧z0n ρ' (z0d ρ' s'.heap) w' r v∧z18 P ρ' s' tm w'∧s'.nt=s.nt∧Ext (· <n) ρ s.heap w ρ' s'.heap w'
theorem z5k.of_aret {n:Nat} {g:FuncId} {args:List AV} {s:AS} {r:AV} {h':List AO} (q:n≤s.heap.length) (h:z3m P g args s.heap r h'):z5k P n g args s r ⟨s.env,h',s.nt⟩:=⟨by
 intro ρ e tm w cs a i
 obtain ⟨ρ',v,d,fr,p,o,m,l,k,j,b⟩:=h.run ρ e w cs a.heap a.dom i
 have f:∀ id L,ρ id=some L→ρ' id=some L:=fun id L c=>by
  have hid:id<s.heap.length:=a.dom id (by rw [c]; simp)
  rw [b.rho id hid]; exact c
 exact ⟨ρ',v,d,fr,p,o,m,l,⟨k,fun t=>(a.env t).keep b.keep f,a.size,j⟩,rfl,b.mono (fun id (hid:id<n)=>by show id<s.heap.length; omega)⟩⟩
theorem w1q {n:Nat} {ops:Array Oper} {i:Nat} {rest:List Nat} {s:AS} {Q:AS→Prop} {o:Oper} (M:ops[i]?=some o) (hg:z6j ops.toList s.env o.guard=some true) {f:Operand} {args:Array Operand} {ts:Array TypeId}
  (m:o.op= .call ⟨.value f,args,ts⟩) {g:FuncId} {first captured:List AV} (T:z0p s.env f= .clo (.func g) first captured) (F:z3d P g) {r:AV} {s':AS} (l:z5k P n g (first++z06 s.env args.toList++captured) s r s') (U:z5g s.nt o.dst=true)
  (h:y4a P n ops rest ⟨y4f s'.env o.dst r,s'.heap,s'.nt⟩ Q):y4a P n ops (i::rest) s Q:=⟨by
 intro b k cs ρ tm ds w B x V
 have e:=z0j x.env f
 rw [T] at e
 obtain ⟨a,d,E,C,G⟩:∃ a d,opv tm f= .func (.func g) a d∧z04 ρ (z0d ρ s.heap) w first a∧z04 ρ (z0d ρ s.heap) w captured d:=by
  generalize L:opv tm f=v at e
  cases e with
  |clo _ _ _ a d a1 a2 a3 a4=>exact ⟨a,d,rfl,⟨a1,a3⟩,⟨a2,a4⟩⟩
 have H:z04 ρ (z0d ρ s.heap) w (z06 s.env args.toList) (args.map (opv tm)):=z67 x.env args
 have u:=(C.append H).append G
 have j:(execOp (opv tm) o).run P w= .ok (.enter g (a++args.map (opv tm)++d)) w:=by
  have:=F (a++args.map (opv tm)++d) w
  simp only [Array.append_assoc] at this
  simp [execOp,m,resolve,Deferred.ofValue,E,invoke,this]
 obtain ⟨ρ',v,J,fr,z,S,A,L,q,p,K⟩:=l.run ρ _ tm w (b.on tm ds (.inRegion ops (i::rest)::k)::cs) x u
 have I:z18 P ρ' ⟨y4f s'.env o.dst r,s'.heap,s'.nt⟩ (y3o tm o.dst v) J:=
  ⟨q.heap,y18 (z43.refl _ _) (fun _ _ h=>h) q.env q.size (by rw [p]; exact U) L,by rw [z8h]; exact q.size,q.dom⟩
 obtain ⟨O,ρ2,y,N,R,g1,Z,Y,X,W⟩:=h.run b k cs ρ' _ ds J B I (V.keep x.heap K)
 have t:∀ c,o.op≠ .defer c:=by rw [m]; simp
 refine ⟨O,ρ2,y,N,R,g1,Z,Y.trans p,K.trans X,?_⟩
 refine .head (y1t M (z5f x hg) t j) (Steps.trans z (.head (step_leave_returned A) ?_))
 rw [z8s M]
 exact W⟩
theorem y8o {n:Nat} {s:AS} {Q:AX→AS→Prop} {f:Operand} {ps:Array Tmp} {H body:Code} {g:FuncId} {first captured:List AV} {gc:Nat} {pos:List Bool} (hcd:z1v P gc pos=some (.rangeFunc f ps H body)) (hf:z0p s.env f= .clo (.func g) first captured) (hen:z3d P g) (hn:n≤s.heap.length)
  {r:AV} {E:AS} (hret:z5k P (s.heap.length+1) g (first++[.yld s.heap.length]++captured) ⟨s.env,z03 s.heap s.heap.length (.loop .ready none gc pos s.nt s.env),s.nt⟩ r E)
  {st:LoopState} {C:Option Code} {M:Nat} {y:List Bool} {env:List (Nat×AV)} {nt:Nat} (hob:z0f E.heap s.heap.length= .loop st C M y nt env) (hst:st≠ .busy)
  {e:AX} {s':AS} (K:y0t E (z03 E.heap s.heap.length .dead) C=some (e,s')) (hQ:Q e s'):z54 P n (.rangeFunc f ps H body) s Q:=⟨by
 intro b k cs ρ tm ds w B X W
 have A:ρ s.heap.length=none:=by
  cases hq:ρ s.heap.length with
  |none=>rfl
  |some L=>have:=X.dom s.heap.length (by rw [hq]; simp); omega
 obtain ⟨mark,w1,dsn,hw1,z,hmark⟩:∃ (mark:List Deferred) (w1:World) (dsn:Nat),(z0b P ρ s.heap w1∧Ext (· <s.heap.length) ρ s.heap w ρ s.heap w1)∧
   (∀ o:Loop,o={ state:= .ready,pending:=none,fn:=b.fn,tmps:=tm,params:=ps,assign:=H,body:=body,defers:=dsn }→(Instr.enterLoop b.fn tm ps H body b.roundOf).run P w= .ok (w1.heap.size,mark) (World.push w1 (.loop o)))∧z4h b.roundOf B ρ.fr w1 (mark++ds):=by
  cases hro:b.roundOf with
  |none=>
   refine ⟨[{ target:= .collected w.heap.size,args:=#[] }],World.push w (.deferred (some [])),w.heap.size,⟨X.heap.push0 _,Ext.push0 _ X.heap _⟩,?_,?_⟩
   ·rintro o rfl
    simp [Instr.enterLoop,newObj,Sem.run,World.push]
    rfl
   ·rw [hro] at W
    refine ⟨?_,?_,W.below,by rw [z8i]; have:=W.le; omega,fun l hl=>by cases hl⟩
    ·refine eCx.2 ⟨fun hm=>?_,W.nodup⟩
     obtain ⟨r,e,hr,_⟩:=W.mark _ hm
     have:=(eAe.1 hr).1
     have e2:Target.collected w.heap.size=Target.collected r:=congrArg Deferred.target e
     injection e2 with e2
     omega
    ·intro d hd
     rcases eAm.1 hd with rfl|hd
     ·exact ⟨w.heap.size,rfl,z4c _ _,W.le⟩
     ·obtain ⟨r,e,hr,hB⟩:=W.mark d hd
      exact ⟨r,e,by rw [z6l _ _ _ (eAe.1 hr).1]; exact hr,hB⟩
  |some l0=>
   rw [hro] at W
   obtain ⟨_,r0,hr0⟩:=W.round l0 rfl
   refine ⟨[],w,r0.defers,⟨X.heap,Ext.refl _ _ _ _⟩,?_,W⟩
   rintro o rfl
   simp [Instr.enterLoop,newObj,Sem.run,World.push,z6y hr0]
   try rfl
 obtain ⟨hh1,hx1⟩:=hw1
 have z:=z _ rfl
 generalize hlo:({ state:= .ready,pending:=none,fn:=b.fn,tmps:=tm,params:=ps,assign:=H,body:=body,defers:=dsn }:Loop)=Z at z
 have hx2:=Ext.new hh1 A ⟨w1.heap.size,0,0⟩ (.loop .ready none gc pos s.nt s.env) (.loop Z) rfl
 have hh2:z0b P (ρ.put s.heap.length ⟨w1.heap.size,0,0⟩) (z03 s.heap s.heap.length (.loop .ready none gc pos s.nt s.env)) (World.push w1 (.loop Z)):=
  hh1.new A 0 _ _ ⟨f,ps,H,body,hcd,tm,dsn,b.fn,by rw [z4c, ←hlo],X.size,fun t=>((X.env t).keep hx1.keep (fun _ _ h=>h)).keep hx2.keep (Rho.put_mono _ _ _ A)⟩
 have hd2:Dom (ρ.put s.heap.length ⟨w1.heap.size,0,0⟩) (z03 s.heap s.heap.length (.loop .ready none gc pos s.nt s.env)):=fun id hid=>by
  rw [y6f]
  by_cases e:id=s.heap.length
  ·omega
  ·rw [Rho.put_ne _ _ _ _ e] at hid
   have:=X.dom id hid; omega
 have N:=(hx1.mono (S':=(· <s.heap.length)) (fun _ h=>h)).trans (hx2.mono (S':=(· <s.heap.length)) (fun id (h:id<s.heap.length)=>by show id≠s.heap.length; omega))
 have J:∀ id L,ρ id=some L→(ρ.put s.heap.length ⟨w1.heap.size,0,0⟩) id=some L:=Rho.put_mono _ _ _ A
 have hfv:=z0j X.env f
 rw [hf] at hfv
 obtain ⟨vf,vc,hfe,hfr,hcr⟩:∃ vf vc,opv tm f= .func (.func g) vf vc∧z04 ρ (z0d ρ s.heap) w first vf∧z04 ρ (z0d ρ s.heap) w captured vc:=by
  generalize hv:opv tm f=v at hfv
  cases hfv with
  |clo _ _ _ vf vc a1 a2 a3 a4=>exact ⟨vf,vc,rfl,⟨a1,a3⟩,⟨a2,a4⟩⟩
 have later:∀ (xs:List AV) (vs:Array Value),z04 ρ (z0d ρ s.heap) w xs vs→z04 (ρ.put s.heap.length ⟨w1.heap.size,0,0⟩) (z0d (ρ.put s.heap.length ⟨w1.heap.size,0,0⟩) (z03 s.heap s.heap.length (.loop .ready none gc pos s.nt s.env))) (World.push w1 (.loop Z)) xs vs:=
  fun xs vs h=>⟨h.1,fun i x hx=>(h.2 i x hx).keep N.keep J⟩
 have hyl:z04 (ρ.put s.heap.length ⟨w1.heap.size,0,0⟩) (z0d (ρ.put s.heap.length ⟨w1.heap.size,0,0⟩) (z03 s.heap s.heap.length (.loop .ready none gc pos s.nt s.env))) (World.push w1 (.loop Z)) [.yld s.heap.length] #[.func (.yield w1.heap.size) #[] #[]]:=
  ⟨rfl,fun i x hx=>by
   cases i with
   |zero=>cases hx; exact .yld _ _ (Rho.put_same _ _ _)
   |succ i=>simp at hx⟩
 have hexec:(do let d←resolve (opv tm) { callee:= .value f,args:=#[.const (.func (.yield w1.heap.size) #[] #[])],argTypes:=#[] } 0; invoke d.target d.args:Sem Next).run P (World.push w1 (.loop Z))= .ok (.enter g (vf++#[.func (.yield w1.heap.size) #[] #[]]++vc)) (World.push w1 (.loop Z)):=by
  have:=hen (vf++#[.func (.yield w1.heap.size) #[] #[]]++vc) (World.push w1 (.loop Z))
  simp only [Array.append_singleton] at this⊢
  have hcst:opv tm (.const (.func (.yield w1.heap.size) #[] #[]))= .func (.yield w1.heap.size) #[] #[]:=rfl
  simp [resolve,Deferred.ofValue,hfe,invoke,hcst,this]
 have hst2:z18 P (ρ.put s.heap.length ⟨w1.heap.size,0,0⟩) ⟨s.env,z03 s.heap s.heap.length (.loop .ready none gc pos s.nt s.env),s.nt⟩ tm (World.push w1 (.loop Z)):=
  ⟨hh2,fun t=>(X.env t).keep N.keep J,X.size,hd2⟩
 obtain ⟨V,v,Y,fr,hsteps,hfn,hlv,hv,I,R,hx3⟩:=hret.run _ _ tm (World.push w1 (.loop Z)) (b.on tm (mark++ds) (.inRangeFunc w1.heap.size::k)::cs) hst2 (((later _ _ hfr).append hyl).append (later _ _ hcr))
 have S:=I.heap
 have hdm3:=I.dom
 have hL3:V s.heap.length=some ⟨w1.heap.size,0,0⟩:=by rw [hx3.rho _ (by show s.heap.length<s.heap.length+1; omega)]; exact Rho.put_same _ _ _
 obtain ⟨_,hobj⟩:=S.obj _ _ hL3
 rw [hob] at hobj
 obtain ⟨x',q,j,a,hcd3,p,u,c,T,hts3,hev3⟩:=hobj
 have hel:=x6l (P:=P) T hst
 have G:(z0f E.heap s.heap.length).live=true:=by rw [hob]; rfl
 have hbs:∀ m,z1a Y w1.heap.size=some m→z1a (World.setObj Y w1.heap.size (.loop { state:= .exhausted,pending:=C,fn:=c,tmps:=p,params:=q,assign:=j,body:=a,defers:=u })) w1.heap.size=some m:=fun m hm=>x0g T _ _ hm
 have hk4:=z12 S hL3 G (.loop .exhausted C M y nt env) rfl (.loop { state:= .exhausted,pending:=C,fn:=c,tmps:=p,params:=q,assign:=j,body:=a,defers:=u }) hbs
 have hh4:=S.set hL3 G (.loop .exhausted C M y nt env) rfl (.loop { state:= .exhausted,pending:=C,fn:=c,tmps:=p,params:=q,assign:=j,body:=a,defers:=u }) hbs
  ⟨x',q,j,a,hcd3,p,u,c,z0t _ _ _ (eAe.1 T).1,hts3,fun t=>(hev3 t).keep hk4 (fun _ _ h=>h)⟩
 have hx4:=Ext.set (· <s.heap.length) S hL3 G (.loop .exhausted C M y nt env) rfl (.loop { state:= .exhausted,pending:=C,fn:=c,tmps:=p,params:=q,assign:=j,body:=a,defers:=u }) hbs
 have hh5:=hh4.kill s.heap.length
 have hx5:=Ext.kill (· <s.heap.length) V (z03 E.heap s.heap.length (.loop .exhausted C M y nt env)) (World.setObj Y w1.heap.size (.loop { state:= .exhausted,pending:=C,fn:=c,tmps:=p,params:=q,assign:=j,body:=a,defers:=u })) s.heap.length
 have F:∀ id,z0f (z03 (z03 E.heap s.heap.length (.loop .exhausted C M y nt env)) s.heap.length .dead) id=z0f (z03 E.heap s.heap.length .dead) id:=by
  intro id
  by_cases e:s.heap.length=id
  ·subst e; rw [z0h,z0h]
  ·rw [z0c _ _ _ _ e,z0c _ _ _ _ e,z0c _ _ _ _ e]
 have hh6:=hh5.ext F
 have hx:Ext (· <s.heap.length) ρ s.heap w V (z03 E.heap s.heap.length .dead) (World.setObj Y w1.heap.size (.loop { state:= .exhausted,pending:=C,fn:=c,tmps:=p,params:=q,assign:=j,body:=a,defers:=u })):=by
  have:=((N.trans (hx3.mono (S':=(· <s.heap.length)) (fun id (h:id<s.heap.length)=>by show id<s.heap.length+1; omega))).trans hx4).trans hx5
  exact ⟨this.os,this.tape,this.output,by rw [←z4e F]; exact this.keep,this.rho,this.fr,this.frs⟩
 have hx345:z43 (z0d V E.heap) (z0d V (z03 E.heap s.heap.length .dead)) Y (World.setObj Y w1.heap.size (.loop { state:= .exhausted,pending:=C,fn:=c,tmps:=p,params:=q,assign:=j,body:=a,defers:=u })):=by
  have:=(hx4.trans hx5).keep
  rw [z4e F] at this
  exact this
 have O:z18 P V ⟨E.env,z03 E.heap s.heap.length .dead,E.nt⟩ tm (World.setObj Y w1.heap.size (.loop { state:= .exhausted,pending:=C,fn:=c,tmps:=p,params:=q,assign:=j,body:=a,defers:=u })):=
  ⟨hh6,fun t=>(I.env t).keep hx345 (fun _ _ h=>h),I.size,fun id hid=>by
   have:=hdm3 id hid
   have:=(z1w E.heap s.heap.length .dead).1
   show id<(z03 E.heap s.heap.length .dead).length
   omega⟩
 have hdf:z4h b.roundOf B V.fr (World.setObj Y w1.heap.size (.loop { state:= .exhausted,pending:=C,fn:=c,tmps:=p,params:=q,assign:=j,body:=a,defers:=u })) (mark++ds):=
  (((hmark.keep hh1 hx2).keep hh2 hx3).keep S hx4)
 have U:Steps P (lone (b.on tm ds (.code (.rangeFunc f ps H body)::k)) cs w) (lone (b.on tm (mark++ds) ((C.map Item.code).toList++k)) cs (World.setObj Y w1.heap.size (.loop { state:= .exhausted,pending:=C,fn:=c,tmps:=p,params:=q,assign:=j,body:=a,defers:=u }))):=
  .head (x3a z hexec) (Steps.trans hsteps (.head (step_leave_returned hlv) (.one (x6j hel))))
 have hxn:=hx.mono (S':=(· <n)) (fun id (h:id<n)=>by show id<s.heap.length; omega)
 unfold y0t at K
 split at K
 ·cases K; exact ⟨.normal,_,V,tm,mark++ds,_,hQ,O,hdf,R,hxn,U⟩
 ·cases K; exact ⟨.ret,_,V,tm,mark++ds,_,hQ,O,hdf,R,hxn,_,U⟩
 ·cases K; exact ⟨.exit _,_,V,tm,mark++ds,_,hQ,O,hdf,R,hxn,k,rfl,U⟩
 ·cases K⟩
end
end Go.Am
end
section
namespace Go.Am
structure v2m where
 body:Code
 nt:Nat
 res:List ResultVar
mutual
def z9x:AV→Bool
 | .bot=>true
 | .d _=>true
 | .clo _ fs cs=>y15 fs&&y15 cs
 | .agg cs=>y15 cs
 | .tuple vs=>y15 vs
 |_=>false
def y15:List AV→Bool
 |[]=>true
 |x::l=>z9x x&&y15 l
end
mutual
theorem y5e:(x:AV)→z9x x=true→x2o x
 | .bot,_=> .bot
 | .d x,_=> .d x
 | .clo fn fs cs,h=>by
  simp only [z9x,eAc] at h
  exact .clo fn fs cs (z6o fs h.1) (z6o cs h.2)
 | .agg cs,h=> .agg cs (z6o cs (by simpa [z9x] using h))
 | .tuple cs,h=> .tuple cs (z6o cs (by simpa [z9x] using h))
 | .bptr _ _,h=>by simp [z9x] at h
 | .ptr _ _ _,h=>by simp [z9x] at h
 | .lptr _ _,h=>by simp [z9x] at h
 | .wptr _ _,h=>by simp [z9x] at h
 | .perm _,h=>by simp [z9x] at h
 | .slice _ _ _ _ _,h=>by simp [z9x] at h
 | .map _,h=>by simp [z9x] at h
 | .yld _,h=>by simp [z9x] at h
 | .iface _ _,h=>by simp [z9x] at h
theorem z6o:(l:List AV)→y15 l=true→∀ (i:Nat) (x:AV),l[i]?=some x→x2o x
 |[],_,i,x,hx=>by simp at hx
 |y::l,h,i,x,hx=>by
  simp only [y15,eAc] at h
  cases i with
  |zero=>simp at hx; subst hx; exact y5e y h.1
  |succ i=>exact z6o l h.2 i x (by simpa using hx)
end
theorem Steps.tail {P : Program} {m m₁ m' : Machine} (hs : step P m = .next m₁) (h : Steps P m m') (hne : m ≠ m') : Steps P m₁ m' := by
  obtain ⟨n, hn⟩ := h
  cases n with
  | zero => simp [runN] at hn; exact absurd hn hne
  | succ n => simp [runN, hs] at hn; exact ⟨n, hn⟩
theorem y6z {f g:Frame} {cs:List Frame} {w w':World} (h:lone f cs w=lone g cs w'):f.todo=g.todo:=by
 simp [lone] at h
 rw [h.2]
theorem Arr.loop {P:Program} {b:Frame} {cs:List Frame} {c:Code} {k:List Item} {e:AX} {tm a:Array Value} {ds d:List Deferred} {w w':World}
  (h:Arr P b cs (lone (b.on tm ds (.code (.loop c)::k)) cs w) k e a d w'):Arr P b cs (lone (b.on tm ds (.code c:: .inLoop c::k)) cs w) k e a d w':=by
 cases e with
 |normal=>
  refine Steps.tail y1u h fun he=>?_
  have:=y6z he
  simp only [Frame.on] at this
  have:=congrArg List.length this
  simp at this
 |exit id=>
  obtain ⟨f,e,g⟩:=h
  refine ⟨f,e,Steps.tail y1u g fun he=>?_⟩
  have:=y6z he
  simp [Frame.on] at this
 |ret=>
  obtain ⟨f,g⟩:=h
  refine ⟨f,Steps.tail y1u g fun he=>?_⟩
  have:=y6z he
  simp [Frame.on] at this
theorem z3l {P:Program} {n:Nat} {c:Code} {s:AS} {Q:AX→AS→Prop} (h:z54 P n c s (fun e s'=>match e with| .normal=>z54 P n (.loop c) s' Q|e=>Q e s')):z54 P n (.loop c) s Q:=⟨by
 intro b k cs ρ tm ds w B z y
 obtain ⟨e,s',ρ',a,d,f,q,o,m,l,j,i⟩:=h.run b (.inLoop c::k) cs ρ tm ds w B z y
 cases e with
 |normal=>
  obtain ⟨e,v,ρ2,g,t,u,x,G,F,E,C,A⟩:=q.run b k cs ρ' a d f B o m
  exact ⟨e,v,ρ2,g,t,u,x,G,F,E.trans l,j.trans C, .of_steps (.head y1u (Steps.trans i (.one x3b))) A.loop⟩
 |exit id=>
  obtain ⟨p,e,r⟩:=i
  exact ⟨.exit id,s',ρ',a,d,f,q,o,m,l,j,p,by rw [e,z9d (by simp)], .head y1u r⟩
 |ret=>
  obtain ⟨p,r⟩:=i
  exact ⟨.ret,s',ρ',a,d,f,q,o,m,l,j,p, .head y1u r⟩⟩
theorem DS.mono {P:Program} {T:TypeId→Option TI} {ops:List Oper} {nt base:Nat} {K c:AS→Prop} {a:List (List Nat)} {i:Nat} {l:List Oper} {s:AS} (h:DS P T ops nt base K a i l s) (f:∀ s,K s→c s):DS P T ops nt base c a i l s:=by
 induction h with
 |nil h=>exact .nil (f _ h)
 |cons e g b h d=>exact .cons e g b d
structure Alg where
 Ω:Type→Type
 ret:(β:Type)→β→Ω β
 no:(β:Type)→Nat→Ω β
 need:(β:Type)→Bool→Ω β→Ω β
 ask:(β:Type)→Bool→Ω β→Ω β→Ω β
 bnd:(γ β:Type)→Option γ→(γ→Ω β)→Ω β
 alt:(γ δ β:Type)→Option (γ⊕δ)→(γ→Ω β)→(δ→Ω β)→Ω β
 run:(γ:Type)→Ω γ→Option γ
def opt:Alg where
 Ω:=Option
 ret:=fun _ x=>some x
 no:=fun _ _=>none
 need:=fun _ c k=>bif c then k else none
 ask:=fun _ c a b=>bif c then a else b
 bnd:=fun _ _ x k=>x.bind k
 alt:=fun _ _ _ x k k'=>x.bind fun y=>match y with| .inl y=>k y| .inr y=>k' y
 run:=fun _ x=>x
theorem z6a {β:Type} {c:Bool} {k:Option β} {b:β} (h:opt.need β c k=some b):c=true∧k=some b:=by
 cases c with
 |false=>cases h
 |true=>exact ⟨rfl,h⟩
theorem z9o {β:Type} {c:Bool} {x y:Option β} {b:β} (h:opt.ask β c x y=some b):(c=true∧x=some b)∨(c=false∧y=some b):=by
 cases c with
 |false=>exact .inr ⟨rfl,h⟩
 |true=>exact .inl ⟨rfl,h⟩
theorem v1d {γ β:Type} {x:Option γ} {k:γ→Option β} {b:β} (h:opt.bnd γ β x k=some b):∃ y,x=some y∧k y=some b:=by
 cases x with
 |none=>cases h
 |some y=>exact ⟨y,rfl,h⟩
def u4q (p:Prim) (a:List (List D)) (j:Nat):CR→D
 | .int k=> .int k (p.rdI a 0 j)
 | .bool=> .bool (p.rdB a 0 j)
 | .str=> .str (p.rdS a 0 j)
 | .list z=> .list false z (p.rdL a 0 j)
def w44 (p:Prim) (a:List (List D)):Nat→List CR→List D
 |_,[]=>[]
 |j,c::cs=>u4q p a j c::w44 p a (j+1) cs
def mkC (p:Prim) (es:List (List D)) (i j:Nat):CK→D
 | .int k=> .int k (p.rdI es i j)
 | .bool=> .bool (p.rdB es i j)
 | .str=> .str (p.rdS es i j)
 | .list z=> .list (p.rdF es i j z) z (p.rdL es i j)
 | .other=> .nilp
 | .ref ks=> .ref (w44 p (p.rdR es i j) 0 ks)
def mkR (p:Prim) (es:List (List D)) (i:Nat):Nat→List CK→List D
 |_,[]=>[]
 |j,c::cs=>mkC p es i j c::mkR p es i (j+1) cs
def x1w:List CK→Bool
 |[]=>false
 | .other::_=>true
 |_::l=>x1w l
theorem x0d {c : CR} {d : D} {rs : List (List D)} {j : Nat} (h : x2b c d = true) (he : rdD rs 0 j = d) : v8e d (u4q std rs j c) := by
  cases c <;> cases d <;> simp only [x2b, eAg] at h <;> simp only [u4q, std, he]
  · have : _ = _ := eq_of_beq h
    subst this; exact .refl _
  · exact .refl _
  · exact .refl _
  · rename_i z f z' es
    right; left
    refine ⟨z, rfl, ?_⟩
    rw [eAt] at h
    rcases h with h | h
    · exact .inl (eAd h)
    · exact .inr (by simpa using h)
theorem y0p:∀ (cs:List CR) (ds:List D),y06 cs ds=true→ds.length=cs.length∧∀ (j:Nat) (c:CR),cs[j]?=some c→∃ d,ds[j]?=some d∧x2b c d=true
 |[],[],_=>⟨rfl,by simp⟩
 |[],_::_,h=>by simp [y06] at h
 |_::_,[],h=>by simp [y06] at h
 |c::cs,d::ds,h=>by
  simp only [y06,eAc] at h
  obtain ⟨a,b⟩:=y0p cs ds h.2
  refine ⟨by simp [a],fun j f e=>?_⟩
  cases j with
  |zero=>simp at e; subst e; exact ⟨d,rfl,h.1⟩
  |succ j=>simpa using b j f (by simpa using e)
theorem x1q (p:Prim) (e:List (List D)):∀ (cs:List CR) (d:Nat),(w44 p e d cs).length=cs.length∧∀ (j:Nat) (y:D),(w44 p e d cs)[j]?=some y→∃ c,cs[j]?=some c∧y=u4q p e (d+j) c
 |[],d=>⟨rfl,by simp [w44]⟩
 |c::cs,d=>by
  obtain ⟨a,b⟩:=x1q p e cs (d+1)
  refine ⟨by simp [w44,a],fun j y f=>?_⟩
  cases j with
  |zero=>simp [w44] at f; exact ⟨c,rfl,f.symm⟩
  |succ j=>
   obtain ⟨i,h,g⟩:=b j y (by simpa [w44] using f)
   exact ⟨i,by simpa using h,by rw [g]; congr 1; omega⟩
def u4j (d:D):CK→D
 | .int k=> .int k (dI d)
 | .bool=> .bool (dB d)
 | .str=> .str (dS d)
 | .list z=> .list (dF z d) z (dL d)
 | .other=> .nilp
 | .ref ks=> .ref (w44 std (dR d) 0 ks)
theorem w6p {c : CK} {d d' : D} (h : x0c c d = true) (he : d' = u4j d c) : DLe d d' := by
  subst he
  cases c <;> cases d <;> simp only [x0c, eAg] at h
  · have : _ = _ := eq_of_beq h
    subst this; exact .refl _
  · exact .refl _
  · exact .refl _
  · rename_i z f z' es
    left
    rw [eAt] at h
    cases hz : Nat.beq z z' with
    | true =>
      have e := eAd hz
      subst e
      left
      simp [u4j, dF, dL, hz]
    | false =>
      rcases h with h | h
      · rw [hz] at h; cases h
      · right; right
        refine ⟨z, ?_, by simpa using h⟩
        simp [u4j, dF, dL, hz, h]
  · rename_i ks ds
    obtain ⟨h1, h2⟩ := y0p _ _ h
    obtain ⟨m1, m2⟩ := x1q std (dR (.ref ds)) ks 0
    refine .inr ⟨ds, _, rfl, rfl, by rw [m1, h1], fun j y hy => ?_⟩
    obtain ⟨c, hc, rfl⟩ := m2 j y hy
    obtain ⟨d, hd, hcd⟩ := h2 j c hc
    refine ⟨d, hd, ?_⟩
    rw [eAq]
    exact x0d hcd (by simp [rdD, dR, hd])
def v9d (d:D):CK→D
 | .int k=> .int k (dI d)
 | .bool=> .bool (dB d)
 | .str=> .str (dS d)
 | .list z=> .list false z (dL d)
 | .other=> .nilp
 | .ref ks=> .ref (w44 std (dR d) 0 ks)
theorem w2r {c : CK} {d d' : D} (h : x0c c d = true) (he : d' = v9d d c) : DLe d d' := by
  subst he
  cases c <;> cases d <;> simp only [x0c, eAg] at h
  · have : _ = _ := eq_of_beq h
    subst this; exact .refl _
  · exact .refl _
  · exact .refl _
  · rename_i z f z' es
    left
    right; left
    refine ⟨z, rfl, ?_⟩
    rw [eAt] at h
    rcases h with h | h
    · exact .inl (eAd h)
    · exact .inr (by simpa using h)
  · rename_i ks ds
    obtain ⟨h1, h2⟩ := y0p _ _ h
    obtain ⟨m1, m2⟩ := x1q std (dR (.ref ds)) ks 0
    refine .inr ⟨ds, _, rfl, rfl, by rw [m1, h1], fun j y hy => ?_⟩
    obtain ⟨c, hc, rfl⟩ := m2 j y hy
    obtain ⟨d, hd, hcd⟩ := h2 j c hc
    refine ⟨d, hd, ?_⟩
    rw [eAq]
    exact x0d hcd (by simp [rdD, dR, hd])
theorem y2a:∀ (cs:List CK) (ds:List D),z2b cs ds=true→ds.length=cs.length∧∀ (j:Nat) (c:CK),cs[j]?=some c→∃ d,ds[j]?=some d∧x0c c d=true
 |[],[],_=>⟨rfl,by simp⟩
 |[],_::_,h=>by simp [z2b] at h
 |_::_,[],h=>by simp [z2b] at h
 |c::cs,d::ds,h=>by
  simp only [z2b,eAc] at h
  obtain ⟨a,b⟩:=y2a cs ds h.2
  refine ⟨by simp [a],fun j f e=>?_⟩
  cases j with
  |zero=>simp at e; subst e; exact ⟨d,rfl,h.1⟩
  |succ j=>simpa using b j f (by simpa using e)
theorem w43 (p:Prim) (es:List (List D)) (i:Nat):∀ (cs:List CK) (d:Nat),(mkR p es i d cs).length=cs.length∧∀ (j:Nat) (y:D),(mkR p es i d cs)[j]?=some y→∃ c,cs[j]?=some c∧y=mkC p es i (d+j) c
 |[],d=>⟨rfl,by simp [mkR]⟩
 |c::cs,d=>by
  obtain ⟨a,b⟩:=w43 p es i cs (d+1)
  refine ⟨by simp [mkR,a],fun j y e=>?_⟩
  cases j with
  |zero=>simp [mkR] at e; exact ⟨c,rfl,e.symm⟩
  |succ j=>
   obtain ⟨h,g,f⟩:=b j y (by simpa [mkR] using e)
   exact ⟨h,by simpa using g,by rw [f]; congr 1; omega⟩
theorem x8g {es:List (List D)} {i:Nat} {b:List CK} (h:std.rowOk es i b=true):w7s es i (mkR std es i 0 b):=by
 simp only [std] at h
 split at h
 ·rename_i r f
  obtain ⟨p,o⟩:=y2a _ _ h
  obtain ⟨l,k⟩:=w43 std es i b 0
  refine ⟨r,f,by rw [l,p],fun j y m=>?_⟩
  obtain ⟨c,n,rfl⟩:=k j y m
  obtain ⟨d,g,a⟩:=o j c n
  refine ⟨d,g,w6p a ?_⟩
  rw [eAq]
  have e:rdD es i j=d:=by simp [rdD,f,g]
  cases c<;>simp only [mkC,u4j,std,e]
 ·cases h
def u6u (p:Prim) (es:List (D×D)) (ks:List SK) (ka:Bool) (k:D) (j:Nat):CK→D
 | .int a=> .int a (p.mI es ks ka k j)
 | .bool=> .bool (p.mB es ks ka k j)
 | .str=> .str (p.mS es ks ka k j)
 | .list z=> .list false z (p.mL es ks ka k j)
 | .other=> .nilp
 | .ref cs=> .ref (w44 p (p.mR es ks ka k j) 0 cs)
def w41 (p:Prim) (es:List (D×D)) (ks:List SK) (ka:Bool) (k:D):Nat→List CK→List D
 |_,[]=>[]
 |j,c::cs=>u6u p es ks ka k j c::w41 p es ks ka k (j+1) cs
theorem x88 (p:Prim) (es:List (D×D)) (ks:List SK) (ka:Bool) (k:D):∀ (cs:List CK) (d:Nat),(w41 p es ks ka k d cs).length=cs.length∧∀ (j:Nat) (y:D),(w41 p es ks ka k d cs)[j]?=some y→∃ c,cs[j]?=some c∧y=u6u p es ks ka k (d+j) c
 |[],d=>⟨rfl,by simp [w41]⟩
 |c::cs,d=>by
  obtain ⟨a,b⟩:=x88 p es ks ka k cs (d+1)
  refine ⟨by simp [w41,a],fun j y e=>?_⟩
  cases j with
  |zero=>simp [w41] at e; exact ⟨c,rfl,e.symm⟩
  |succ j=>
   obtain ⟨h,g,f⟩:=b j y (by simpa [w41] using e)
   exact ⟨h,by simpa using g,by rw [f]; congr 1; omega⟩
def mkV (a:Bool) (l:List D):D:=
 match a,l with
 |true,l=> .agg l
 |false,[x]=>x
 |false,_=> .nilp
theorem w99 (ks:List SK) (ka:Bool) (k:D):∀ (es:List (D×D)) (i:Nat),z6c std ks ka k es i=y7e ks ka k es i:=by
 have d:∀ (ks:List SK) (b a:List D),z1n std ks b a=z9i ks b a:=by
  intro ks
  induction ks with
  |nil=>intro b a; cases b<;>cases a<;>rfl
  |cons k ks c=>
   intro b a
   cases k<;>cases b<;>(try rfl)<;>rename_i x b<;>cases x<;>(try rfl)<;>cases a<;>(try rfl)<;>rename_i y a<;>cases y<;>(try rfl)<;>simp only [z1n,z9i,c]<;>rfl
 intro es
 induction es with
 |nil=>intro i; rfl
 |cons p es c=>intro i; obtain ⟨e,v⟩:=p; simp only [z6c,y7e,d,c]
structure Env where
 T:TypeId→Option TI
 B:FuncId→Option v2m
 C:TypeId→List CK
 CM:TypeId→Bool×List CK
 A:Nat→List Bool→Option Code
 dt:FuncId→Bool
 tl:Bool
 tk:Bool
 fz:FuncId→Bool
 cl:Bool
 G:Nat→Option (List D)
def v8i:List (List CK)→Nat→List CK
 |[],_=>[]
 |x::_,0=>x
 |_::l,n+1=>v8i l n
def u4i:List (List CK)→Nat→List CK→List (List CK)
 |[],0,c=>[c]
 |[],n+1,c=>[]::u4i [] n c
 |_::l,0,c=>c::l
 |x::l,n+1,c=>x::u4i l n c
def t0m (E:Env) (t:TypeId):List CK:=
 match E.T t with
 |some ti=>match ti.zero with
  | .int k _::_=>[.int k]
  |_=>[]
 |none=>[]
def w9r (E:Env) (K:List (List CK)) (env:List (Nat×AV)):Op→List CK
 | .load t a=>match z0p env a with
  | .ptr id _ _=>v8i K id
  | .bptr id _=>v8i K id
  | .wptr _ _=>t0m E t
  |_=>[]
 | .store _ a _=>match z0p env a with
  | .ptr id _ _=>v8i K id
  | .bptr id _=>v8i K id
  |_=>[]
 | .slice _ a _ _ _=>match z0p env a with
  | .bptr id _=>v8i K id
  |_=>[]
 | .indexAddr t _ _=>E.C t
 |_=>[]
def v50 (E:Env) (K:List (List CK)) (env:List (Nat×AV)) (op:Op):List CK:=bif E.cl then [.other] else w9r E K env op
def v8n (E:Env) (t:TypeId):Option (List CK):=
 match E.T t with
 |some ti=>match w3k ti with
  |some k=>some [.int k]
  |none=>none
 |none=>none
def newK (E:Env):Op→Option (List CK)
 | .alloc t=>v8n E t
 | .box t _=>v8n E t
 | .buildSlice t _ _=>some (E.C t)
 | .makeSlice t _ _=>some (E.C t)
 | .call ⟨.builtin .append,_,ts⟩=>match ts.toList with
  |t::_=>some (E.C t)
  |_=>none
 |_=>none
def w2i (A:Alg) (β:Type) (p:Prim) (E:Env) (t:TypeId) (h:List AO) (m k:AV) (c:Bool→List D→List AV→A.Ω β):A.Ω β:=
 match E.T t with
 |some ti=>match ti.desc,k with
  | .map ks ka ez, .d kd=>match m with
   | .d .nilm=>A.need β ((z1t kd==ka)&&z1h ks (z0v kd)) (c false [] [])
   | .map id=>match z0f h id with
    | .map es=>A.need β (p.mOk es ks ka kd (E.CM t).1 (E.CM t).2) (A.ask β (p.mhas es ks ka kd) (c true [.int .i64 (p.ofNat (p.mpos es ks ka kd)),mkV (E.CM t).1 (w41 p es ks ka kd 0 (E.CM t).2)] []) (c false [] []))
    |_=>A.no β 11
   |_=>A.no β 12
  |_,_=>A.no β 13
 |none=>A.no β 14
def v0b (A:Alg) (β:Type) (p:Prim) (a:List CK) (es:List (List D)) (i:Nat) (c:List D→A.Ω β):Nat→Nat→A.Ω β
 |0,_=>c []
 |n+1,j=>match mkR p es (bif Nat.beq j 0 then i else p.add i j) 0 a with
  |[x]=>A.need β (p.rowOk es (bif Nat.beq j 0 then i else p.add i j) a) (v0b A β p a es i (fun r=>c (x::r)) n (j+1))
  |_=>A.no β 19
def w0c (es:List (List D)):Nat→Nat→Option (List D)
 |_,0=>some []
 |i,n+1=>match z19 es i,w0c es (i+1) n with
  |some [x],some l=>some (x::l)
  |_,_=>none
def v6w (A:Alg) (β:Type) (p:Prim) (f:Bool) (e:List CK) (w:w28) (c:Bool→List D→List AV→A.Ω β):A.Ω β:=
 match w with
 | .none=>c false (bif f then [.nilp] else []) []
 | .d es i=>match x1w e with
  |false=>A.need β (p.rowOk es i e) (c false (mkR p es i 0 e) [])
  |true=>match z19 es i with
   |some r=>c false r []
   |none=>A.no β 15
 | .n es i n=>match x1w e with
  |false=>v0b A β p e es i (fun r=>c false r []) n 0
  |true=>match w0c es i n with
   |some r=>c false r []
   |none=>A.no β 20
 | .a es i=>match z19 es i with
  |some r=>c false [] r
  |none=>A.no β 16
 | .b x=>A.ask β x (c true (bif f then [.nilp] else []) []) (c false [] [])
 | .m _=>A.no β 17
def v6x (A:Alg) (β:Type) (p:Prim) (b:Bool) (E:Env) (K:List (List CK)) (env:List (Nat×AV)) (h:List AO) (op:Op) (c:Bool→List D→List AV→A.Ω β):A.Ω β:=
 match op with
 | .lookup t m k _=>w2i A β p E t h (z0p env m) (z0p env k) c
 | .mapUpdate t m k _=>w2i A β p E t h (z0p env m) (z0p env k) c
 | .call ⟨.builtin .delete,args,a⟩=>match a.toList,z06 env args.toList with
  |t::_,[m,k]=>w2i A β p E t h m k c
  |_,_=>A.no β 18
 |op=>v6w A β p b (v50 E K env op) (z1q p E.T env h op) c
end Go.Am
end
section
namespace Go.Am
mutual
def y3w:AV→Bool
 | .bot=>true
 | .d x=>z8l x
 | .agg l=>w5u l
 | .tuple l=>w5u l
 |_=>false
def w5u:List AV→Bool
 |[]=>true
 |x::l=>y3w x&&w5u l
end
theorem y6h:∀ {l:List D},y6i l=true→∀ (i:Nat) (d:D),l[i]?=some d→z8l d=true
 |[],_,i,d,h=>by simp at h
 |x::l,h,i,d,a=>by
  simp only [y6i,eAc] at h
  cases i with
  |zero=>simp at a; subst a; exact h.1
  |succ i=>exact y6h h.2 i d (by simpa using a)
theorem y7c:∀ {l:List AV},w5u l=true→∀ (i:Nat) (d:AV),l[i]?=some d→y3w d=true
 |[],_,i,d,h=>by simp at h
 |x::l,h,i,d,a=>by
  simp only [w5u,eAc] at h
  cases i with
  |zero=>simp at a; subst a; exact h.1
  |succ i=>exact y7c h.2 i d (by simpa using a)
theorem z8k {O O':Nat→Prop} {w w':World} {x:D} {v:Value} (h:z1k O w x v):z8l x=true→z1k O' w' x v:=by
 induction h with
 |bool b=>intro _; exact .bool b
 |int k n=>intro _; exact .int k n
 |str s=>intro _; exact .str s
 |nilp=>intro _; exact .nilp
 |nilm=>intro _; exact .nilm
 |nilf=>intro _; exact .nilf
 |nili=>intro _; exact .nili
 |agg ds p t h l=>
  intro g
  exact .agg ds p t fun i d m=>l i d m (y6h (by simpa only [z8l] using g) i d m)
 |lnil f z a c h=>intro _; exact .lnil f z a c h
 |list full es b o z c u j hO r g q cell A y h l=>
  intro e
  simp only [z8l,List.isEmpty_iff] at e
  exact absurd e j
 |ref=>intro g; simp [z8l] at g
theorem w5w {ρ ρ':Rho} {O O':Nat→Prop} {w w':World} {x:AV} {v:Value} (h:z0n ρ O w x v):y3w x=true→z0n ρ' O' w' x v:=by
 induction h with
 |bot v=>intro _; exact .bot v
 |d h=>intro a; exact .d (z8k h (by simpa only [y3w] using a))
 |agg c e g h f=>intro a; exact .agg c e g fun i x b=>f i x b (y7c (by simpa only [y3w] using a) i x b)
 |tuple c e g h f=>intro a; exact .tuple c e g fun i x b=>f i x b (y7c (by simpa only [y3w] using a) i x b)
 |_=>intro a; simp [y3w] at a
def x89 (l:List AV):AV:=
 match x2i l with
 |some ds=> .d (.agg ds)
 |none=> .agg l
mutual
def bV (p:Prim) (h:List AO):AV→Bool×AV
 | .bot=>(true, .bot)
 | .d x=>(true, .d x)
 | .slice id z off len cap=>match z0f h id with
  | .row es=>(p.leN (p.add off len) (p.len es), .d (.list false z (p.cut es off len)))
  |_=>(true, .bot)
 | .bptr id off=>match z0f h id with
  | .box cells=>match x2i cells with
   |some ds=>(true, .lptr ds off)
   |none=>(true, .bot)
  | .row es=>(true, .wptr es off)
  |_=>(true, .bot)
 | .clo fn fs cs=>(p.and (bL p h fs).1 (bL p h cs).1, .clo fn (bL p h fs).2 (bL p h cs).2)
 | .agg l=>((bL p h l).1,x89 (bL p h l).2)
 | .tuple l=>((bL p h l).1, .tuple (bL p h l).2)
 |_=>(true, .bot)
def bL (p:Prim) (h:List AO):List AV→Bool×List AV
 |[]=>(true,[])
 |x::l=>(p.and (bV p h x).1 (bL p h l).1,(bV p h x).2::(bL p h l).2)
end
theorem x0j (p:Prim) (h:List AO):∀ l,(bL p h l).2.length=l.length
 |[]=>by simp [bL]
 |x::l=>by simp [bL,x0j p h l]
theorem x0k (h:List AO):∀ (l:List AV),(bL std h l).1=true→∀ (i:Nat) (y:AV),(bL std h l).2[i]?=some y→∃ x,l[i]?=some x∧y=(bV std h x).2∧(bV std h x).1=true
 |[],_,i,y,a=>by simp [bL] at a
 |x::l,b,i,y,a=>by
  simp only [bL,std,eAc] at b
  cases i with
  |zero=>simp [bL] at a; exact ⟨x,rfl,a.symm,b.1⟩
  |succ i=>
   obtain ⟨c,e,d⟩:=x0k h l b.2 i y (by simpa [bL] using a)
   exact ⟨c,by simpa using e,d⟩
mutual
theorem v1g (p:Prim) {h h':List AO}:(x:AV)→(∀ id∈tid x,z0f h id=z0f h' id)→bV p h x=bV p h' x
 | .bot,_=>rfl
 | .d _,_=>rfl
 | .slice id z off len cap,hh=>by simp only [bV,hh id (by simp [tid])]
 | .clo fn fs cs,hh=>by
  simp only [bV,y08 p fs (fun id hid=>hh id (by simp [tid,hid])),y08 p cs (fun id hid=>hh id (by simp [tid,hid]))]
 | .agg l,hh=>by simp only [bV,y08 p l (fun id hid=>hh id (by simpa [tid] using hid))]
 | .tuple l,hh=>by simp only [bV,y08 p l (fun id hid=>hh id (by simpa [tid] using hid))]
 | .bptr id off,hh=>by simp only [bV,hh id (by simp [tid])]
 | .ptr _ _ _,_=>rfl
 | .lptr _ _,_=>rfl
 | .wptr _ _,_=>rfl
 | .perm _,_=>rfl
 | .map _,_=>rfl
 | .yld _,_=>rfl
 | .iface _ _,_=>rfl
theorem y08 (p:Prim) {h h':List AO}:(l:List AV)→(∀ id∈y44 l,z0f h id=z0f h' id)→bL p h l=bL p h' l
 |[],_=>rfl
 |x::l,hh=>by
  simp only [bL,v1g p x (fun id hid=>hh id (by simp [y44,hid])),y08 p l (fun id hid=>hh id (by simp [y44,hid]))]
end
section
variable {P:Program} {ρ:Rho} {h:List AO} {w:World}
theorem y9p {O:Nat→Prop} (xs:List AV) (vs:Array Value) (a:vs.size=xs.length) (b:∀ (i:Nat) (x:AV),xs[i]?=some x→z0n ρ O w x (vs.getD i undef)):z0n ρ O w (x89 xs) (.agg vs):=by
 unfold x89
 split
 ·rename_i ds hds
  have e:=z17 hds
  refine .d (.agg _ _ (by rw [a,e,z0z]) fun i d c=>?_)
  have:=b i (.d d) (by rw [e,z1l,c]; rfl)
  cases this; assumption
 ·exact .agg _ _ a b
theorem z4r {b:Nat}:z0d (ρ.only fun _=>false) [] b↔ρ.fr b:=by
 constructor
 ·rintro (c|⟨id,L,d,_⟩)
  ·exact c
  ·obtain ⟨a,_⟩:=z16.1 d; cases a
 ·exact fun c=> .inl c
theorem v7m (hr:z0b P ρ h w) {x:AV} {v:Value} (G:z0n ρ (z0d ρ h) w x v):(bV std h x).1=true→z0n (ρ.only fun _=>false) (z0d (ρ.only fun _=>false) []) w (bV std h x).2 v:=by
 have K:z43 (z0d ρ h) (z0d (ρ.only fun _=>false) []) w w:=⟨eAj _,fun _ _ _=>rfl,fun b _ g=> .inl (z4r.1 g),fun _ _ h=>h,z0u.refl _⟩
 have hk2:z43 (z0d (ρ.only fun _=>false) (z38 h (fun _=>false) 0 h)) (z0d (ρ.only fun _=>false) []) w w:=⟨eAj _,fun _ _ _=>rfl,fun b _ g=> .inl (z4r.1 g),fun _ _ h=>h,z0u.refl _⟩
 have sl:∀ {id z off len:Nat} {cap:Option Nat} {v:Value},z0n ρ (z0d ρ h) w (.slice id z off len cap) v→(bV std h (.slice id z off len cap)).1=true→z0n (ρ.only fun _=>false) (z0d (ρ.only fun _=>false) []) w (bV std h (.slice id z off len cap)).2 v:=by
  intro id z off len cap v G f
  have:=y0v (kp:=fun _=>false) hr G
  simp only [z3j,cond_false] at this
  simp only [bV] at f⊢
  split
  ·rename_i es s
   rw [s] at f this
   simp only at f
   simp only [frz] at this
   have W:Nat.ble (off+len) es.length=true:=f
   rw [W] at this
   simp only [cond_true] at this
   refine .d ?_
   cases this with|d M=>
   have M:=M.keep hk2
   show z1k _ w (.list false z (x7n es off len)) v
   generalize x7n es off len=l at M
   cases M with
   |lnil _ _ a c h=>exact .lnil _ _ _ _ (by simp)
   |list _ _ b o _ c T V hO X hf U cell h1 f h=>exact .list false _ b o _ c T V hO X (by simp) U cell h1 f h
  ·exact .bot _
 induction G with
 |bot v=>intro _; exact .bot v
 |d h=>intro _; exact .d (h.keep K)
 |bptr id off L F=>
  intro _
  simp only [bV]
  split
  ·rename_i cells m
   split
   ·rename_i ds hds
    obtain ⟨q,p⟩:=hr.obj id L F
    rw [m] at p
    obtain ⟨hbase,c,t,C,hj⟩:=p
    have e:=z17 hds
    have A:∀ k x,ds[k]?=some x→∃ u,c[L.base+k]?=some u∧z1k (z0d ρ h) w x u:=fun k x n=>by
     obtain ⟨u,E,hr⟩:=hj k (.d x) (by rw [e,z1l,n]; rfl)
     cases hr with|d hr=>exact ⟨u,E,hr⟩
    refine .lptr ds off L.blk L.base q (fun g=>hr.sep id L F (by rw [m]; rfl) (z4r.1 g)) (fun k=>(c[L.base+k]?).getD undef) (fun k K=>?_) (fun k x n=>?_)
    ·obtain ⟨u,E,_⟩:=A k _ (eAb K)
     rw [E]; exact y34 C E
    ·obtain ⟨u,E,h2⟩:=A k x n
     rw [E]; exact h2.keep K
   ·exact .bot _
  ·rename_i es s
   obtain ⟨q,p⟩:=hr.obj id L F
   rw [s] at p
   obtain ⟨_,c,t,C,I,hj⟩:=p
   refine .wptr es off L.blk L.base L.esz q (fun g=>hr.sep id L F (by rw [s]; rfl) (z4r.1 g)) I fun i r j x hi n=>?_
   obtain ⟨v,G,_,H⟩:=hj i r j x hi n
   exact ⟨v,y34 C G,H.keep K⟩
  ·exact .bot _
 |slice id z off len cap L a c F T ha f J=>exact sl (.slice id z off len cap L a c F T ha f J)
 |nils id z off cap a f=>exact sl (.nils id z off cap a f)
 |clo fn fs cs vf vc Z Y h1 h2 R Q=>
  intro f
  simp only [bV,std,eAc] at f
  simp only [bV]
  refine .clo fn _ _ vf vc (by rw [x0j]; exact Z) (by rw [x0j]; exact Y) (fun i y B=>?_) (fun i y B=>?_)
  ·obtain ⟨x,n,rfl,g⟩:=x0k h fs f.1 i y B
   exact R i x n g
  ·obtain ⟨x,n,rfl,g⟩:=x0k h cs f.2 i y B
   exact Q i x n g
 |agg N O J hh S=>
  intro f
  simp only [bV] at f⊢
  refine y9p _ O (by rw [x0j]; exact J) (fun i y B=>?_)
  obtain ⟨x,n,rfl,g⟩:=x0k h N f i y B
  exact S i x n g
 |tuple N O J hh S=>
  intro f
  simp only [bV] at f⊢
  refine .tuple _ O (by rw [x0j]; exact J) (fun i y B=>?_)
  obtain ⟨x,n,rfl,g⟩:=x0k h N f i y B
  exact S i x n g
 |_=>intro _; exact .bot _
theorem u2i {f : FuncId} {args : List AV} {r : AV} {j : List AO} (c : w7t P f (bL std j args).2 r) (K : (bL std j args).1 = true) (t : y3w r = true) : z3m P f args j r j := ⟨by
  intro ρ F w cs l u m
  let n : Rho := ρ.only fun _ => false
  have g : ∀ id L, n id = some L → False := fun id L k => by obtain ⟨a, _⟩ := z16.1 k; cases a
  have z : z0b P n [] w := ⟨fun id L k => (g id L k).elim, fun id G L M k => (g id L k).elim, fun b c => l.fr b c, fun id L k => (g id L k).elim, l.gl.sub fun b c => .inl (z4r.1 c)⟩
  obtain ⟨ρ', v, o, fr, p, s, q, H, J, E, e⟩ := c.run n F w cs z (fun id hid => by
    cases A : n id with
    | none => exact absurd A hid
    | some L => exact (g id L A).elim) ⟨by rw [x0j]; exact m.1, fun i y I => by
      obtain ⟨x, e, rfl, c⟩ := x0k j args K i y I
      exact v7m l (m.2 i x e) c⟩
  have d : ∀ b, b < w.heap.size → o.heap[b]? = w.heap[b]? := by
    intro b c
    by_cases B : ρ.fr b
    · exact e.frs b B
    · exact e.keep.frame b c (fun h => B (z4r.1 h))
  have C : z43 (z0d ρ j) (z0d ρ j) w o :=
    { size := e.keep.size
      frame := fun b c _ => d b c
      own := fun b _ h => h
      shape := e.keep.shape
      drawn := e.keep.drawn }
  refine ⟨ρ, v, o, fr, p, s, q, w5w H t, l.of_keep C (fun b c => d b (z7i l c)), u, ?_⟩
  exact { os := e.os, tape := e.tape, output := e.output, keep := C, rho := fun _ _ => rfl, fr := rfl, frs := fun b t => d b (l.fr b t) }⟩
end
theorem x9r {x:AV} (h:x2o x):tid x=[]:=by
 have key:∀ l:List AV,(∀ (i:Nat) (x:AV),l[i]?=some x→tid x=[])→y44 l=[]:=by
  intro l
  induction l with
  |nil=>intro _; rfl
  |cons x l a=>intro h; simp only [y44,h 0 x rfl,a (fun i x e=>h (i+1) x (by simpa using e)),eCp]
 induction h with
 |bot=>rfl
 |d x=>rfl
 |tuple f e a=>simp only [tid]; exact key _ a
 |agg f e a=>simp only [tid]; exact key _ a
 |clo fn k cs j g c b=>simp only [tid,key _ c,key _ b,eCp]
end Go.Am
end
section
namespace Go.Am
theorem z6d:∀ (ks:List SK) (l:List D),z1h ks l=true→z1n std ks l l=some true
 |[],[],_=>rfl
 | .i::ks, .int k a::r,h=>by
  have:=z6d ks r h
  simp only [z1n,beq_self_eq_true,cond_true,this]
  simp [std,z3r]
 | .b::ks, .bool a::r,h=>by
  have:=z6d ks r h
  simp only [z1n,this]
  simp [std]
 | .s::ks, .str a::r,h=>by
  have:=z6d ks r h
  simp only [z1n,this]
  simp [std]
 | .i::ks,[],h| .b::ks,[],h| .s::ks,[],h=>by simp [z1h] at h
 |[],_::_,h=>by simp [z1h] at h
 | .i::ks, .bool _::r,h| .i::ks, .str _::r,h| .i::ks, .agg _::r,h| .i::ks, .list _ _ _::r,h| .i::ks, .nilm::r,h| .i::ks, .ref _::r,h=>by simp [z1h] at h
 | .b::ks, .int _ _::r,h| .b::ks, .str _::r,h| .b::ks, .agg _::r,h| .b::ks, .list _ _ _::r,h| .b::ks, .nilm::r,h| .b::ks, .ref _::r,h=>by simp [z1h] at h
 | .s::ks, .int _ _::r,h| .s::ks, .bool _::r,h| .s::ks, .agg _::r,h| .s::ks, .list _ _ _::r,h| .s::ks, .nilm::r,h| .s::ks, .ref _::r,h=>by simp [z1h] at h
theorem y92 {ks:List SK} {ka:Bool} {k x:D} (d:z1t k=ka) (a:z1h ks (z0v k)=true):∀ (es:List (D×D)) (i:Nat),z6c std ks ka k es i=some none→z6c std ks ka k (es++[(k,x)]) i=some (some (i+es.length,x))
 |[],i,_=>by simp [z6c,d,z6d _ _ a]
 |(c,v)::r,i,h=>by
  simp only [z6c,eDg] at h⊢
  cases e:(z1t k==ka)&&(z1t c==ka) with
  |false=>rw [e] at h; cases h
  |true=>
   rw [e] at h
   simp only [cond_true] at h⊢
   cases f:z1n std ks (z0v k) (z0v c) with
   |none=>rw [f] at h; cases h
   |some b=>
    rw [f] at h
    cases b with
    |true=>cases h
    |false=>
     simp only at h⊢
     rw [y92 d a r (i+1) h]
     simp; omega
theorem x10 {ks:List SK} {ka:Bool} {k:D}:∀ (es:List (D×D)) (i n:Nat) (v:D),z6c std ks ka k es i=some (some (n,v))→i≤n∧n - i<es.length
 |[],i,n,v,h=>by simp [z6c] at h
 |(a,u)::r,i,n,v,h=>by
  simp only [z6c] at h
  cases c:(z1t k==ka)&&(z1t a==ka) with
  |false=>rw [c] at h; cases h
  |true=>
   rw [c] at h
   simp only [cond_true] at h
   cases d:z1n std ks (z0v k) (z0v a) with
   |none=>rw [d] at h; cases h
   |some b=>
    rw [d] at h
    cases b with
    |true=>simp at h; obtain ⟨rfl,_⟩:=h; simp
    |false=>
     have:=x10 r (i+1) n v h
     simp; omega
theorem x4s {ks:List SK} {ka:Bool} {k y:D} (g:z1t k=ka) (a:z1h ks (z0v k)=true):∀ (es:List (D×D)) (i n:Nat) (v:D),z6c std ks ka k es i=some (some (n,v))→z6c std ks ka k (es.set (n - i) (k,y)) i=some (some (n,y))
 |[],i,n,v,h=>by simp [z6c] at h
 |(f,u)::r,i,n,v,h=>by
  have j:=x10 _ _ _ _ h
  simp only [z6c] at h
  cases c:(z1t k==ka)&&(z1t f==ka) with
  |false=>rw [c] at h; cases h
  |true=>
   rw [c] at h
   simp only [cond_true] at h
   cases d:z1n std ks (z0v k) (z0v f) with
   |none=>rw [d] at h; cases h
   |some b=>
    rw [d] at h
    cases b with
    |true=>
     simp at h; obtain ⟨rfl,_⟩:=h
     simp [z6c,g,z6d _ _ a]
    |false=>
     simp only at h
     have l:=x10 r (i+1) n v h
     have e:n - i=(n - (i+1))+1:=by omega
     rw [e,List.set_cons_succ]
     simp only [z6c,c,d,cond_true]
     exact x4s g a r (i+1) n v h
theorem z34.mod {en:Array MapEntry} {a:Nat} (h:z34 en a) (i:Nat) (f:MapEntry→MapEntry) (k:∀ e,(f e).born=e.born):z34 (en.modify i f) a:=by
 have c:(en.modify i f).toList.map (·.born)=en.toList.map (·.born):=by
  apply eBt
  intro j
  simp only [eAf,eAl,eDb]
  split
  ·rename_i b; subst b; cases en[i]?<;>simp [k]
  ·rfl
 refine ⟨fun x g=>?_,by rw [c]; exact h.2⟩
 have:x.born∈en.toList.map (·.born):=by rw [←c]; exact eBe.2 ⟨x,g,rfl⟩
 obtain ⟨y,d,e⟩:=eBe.1 this
 rw [←e]; exact h.1 y d
theorem z34.find {en : Array MapEntry} {clk : Nat} (h : z34 en clk) {i : Nat} {e : MapEntry} (he : en[i]? = some e) : en.findIdx? (fun x => (x.born : Int) == (e.born : Int)) = some i := by
  have hi : i < en.size := (eAe.1 he).1
  have hei : en[i] = e := (eAe.1 he).2
  rw [Array.findIdx?_eq_some_iff_getElem]
  refine ⟨hi, by simp [hei], fun j hj => ?_⟩
  intro hc
  have e1 : en[j].born = e.born := by have hc : (en[j].born : Int) = e.born := by simpa using hc
                                      exact Int.ofNat.inj hc
  have hn := (eCm.1 h.2) j i (by simp; omega) (by simpa using hi) hj
  simp only [List.getElem_map, Array.getElem_toList] at hn
  rw [e1, hei] at hn
  exact hn rfl
def ent (es:List (D×D)) (q:Bool) (r:List D) (k ez:D):List (D×D):=
 match q,r with
 |true,[.int _ i,v]=>std.mset es (std.nat i) k v
 |_,_=>std.madd es k ez
def z6z (q:Bool) (r:List D) (ez:D):D:=match q,r with|true,[_,v]=>v|_,_=>ez
def u4e (p:Prim) (es:List (D×D)) (q:Bool) (r:List D) (kd x:D):List (D×D):=match q,r with|true,[.int _ i,_]=>p.mset es (p.nat i) kd x|_,_=>p.madd es kd x
def z8y:=u4e std
section
variable {P:Program} {ρ:Rho} {h:List AO} {w:World}
theorem x64 {T:TypeId} {ti:TI} (ht:z7c P T ti) (hr:z0b P ρ h w) {id:Nat} {kd:D} {vm M:Value} (hm:z0n ρ (z0d ρ h) w (.map id) vm) (G:z1k (z0d ρ h) w kd M) {es:List (D×D)} (u:z0f h id= .map es) {ks:List SK} {ka:Bool} {ez:D} (B:ti.desc= .map ks ka ez)
  {q:Bool} {r:List D} (hw:x2m q r (z3t std ti h (.map id) (.d kd))):
  ∃ (L:Loc) (en0:Array MapEntry) (S:Nat) (en:Array MapEntry) (f:Nat) (z:Value) (n:Nat) (e:MapEntry) (t:D),ρ id=some L∧vm= .map (some L.blk)∧w.heap[L.blk]?=some (.map en0 S)∧z34 en f∧y1k (z0d ρ h) w (ent es q r kd ez) en.toList∧en[n]?=some e∧
   (Instr.mapEntry T vm M).run P w= .ok (.tuple #[z,goInt e.born]) (World.setObj w L.blk (.map en f))∧(ent es q r kd ez)[n]?=some (kd,t)∧
   x2m true [.int .i64 (n:Nat),t] (some (some (n,t)))∧z6c std ks ka kd (ent es q r kd ez) 0=some (some (n,t))∧(∀ x,z8y es q r kd x=std.mset (ent es q r kd ez) n kd x)∧
   (t=z6z q r ez):=by
 have H:∀ fr,z3t std ti h (.map id) (.d kd)=some fr→z1t kd=ka∧z1h ks (z0v kd)=true∧z6c std ks ka kd es 0=some fr:=by
  intro fr s
  unfold z3t at s
  rw [B] at s
  simp only at s
  cases Q:(z1t kd==ka)&&z1h ks (z0v kd) with
  |false=>rw [Q] at s; cases s
  |true=>
   rw [Q] at s
   simp only [cond_true,u] at s
   simp only [eAc,beq_iff_eq] at Q
   exact ⟨Q.1,Q.2,s⟩
 rcases hw with ⟨s,rfl⟩|⟨i,v,v',s,hle,rfl,rfl⟩
 ·obtain ⟨Z,Y,X⟩:=H _ s
  obtain ⟨K,E,V,W,ez',hd,g,hz,_,J,N,o⟩:=y05 ht hr hm (.d G) s
  rw [B] at g; cases g
  obtain ⟨U,hzr,hzd⟩:=y5k (P:=P) (w:=w) hz (O:=z0d ρ h)
  rcases o with ⟨rfl,_,A⟩|⟨id',L,es',en,f,e1,rfl,R,l,k,b,rr,A,p⟩
  ·cases hm
  ·cases e1
   rw [u] at l; cases l
   simp only [y4b] at p; subst p
   have C:en.size=es.length:=by rw [←eBw]; exact b.1
   refine ⟨L,en,f,en.push { key:=M,val:=U,born:=f },f+1,U,en.size,{ key:=M,val:=U,born:=f },ez,R,rfl,k,(hr.born R u k).push _ _,⟨?_,fun j a c m=>?_⟩,by simp,?_,?_, .inr ⟨_,_,_,rfl, .inl (DLe.refl _),rfl,rfl⟩,?_,?_,rfl⟩
   ·simp [ent,std]; simpa using b.1
   ·simp only [ent,std] at m
    rw [eBf] at m
    simp only [Array.toList_push]
    rw [eBf,b.1]
    split at m
    ·rename_i F; rw [if_pos F]; exact b.2 j a c m
    ·rename_i hge
     rw [if_neg hge]
     have:j - es.length=0:=by
      cases hq:j - es.length with
      |zero=>rfl
      |succ n=>rw [hq] at m; simp at m
     rw [this] at m⊢
     simp at m; obtain ⟨rfl,rfl⟩:=m
     exact ⟨_,rfl,G,hzd⟩
   ·simp [Instr.mapEntry,z0g hd,z2x k,J,A,hzr,z5q k]
   ·simp [ent,std,C]
   ·have:=y92 (x:=ez) Z Y es 0 X
    simpa [ent,std,C] using this
   ·intro x; simp [ent,z8y,u4e,std,C]
 ·obtain ⟨Z,Y,X⟩:=H _ s
  obtain ⟨K,E,V,W,ez',hd,g,hz,_,J,N,o⟩:=y05 ht hr hm (.d G) s
  rcases o with ⟨rfl,_,A⟩|⟨id',L,es',en,f,e1,rfl,R,l,k,b,rr,A,p⟩
  ·cases hm
  ·cases e1
   rw [u] at l; cases l
   obtain ⟨k',e,rfl,hi',he,hx,hek⟩:=p
   have hkk:=N e.key hek w
   have F:i<es.length:=(eAa.1 hi').1
   have C:en.size=es.length:=by rw [←eBw]; exact b.1
   have hlt2:i<en.size:=by omega
   refine ⟨L,en,f,en.modify i fun e=>{ e with key:=M },f,e.val,i,{ e with key:=M },v',R,rfl,k,(hr.born R u k).mod _ _ (fun _=>rfl),⟨?_,fun j a c m=>?_⟩,by simp [eDb,he],?_,?_, .inr ⟨_,_,_,rfl, .inl (DLe.refl _),rfl,rfl⟩,?_,?_,rfl⟩
   ·simp [ent,std]; simpa using b.1
   ·simp only [ent,std,eCz,eBu] at m
    simp only [eAl,eDb]
    split at m
    ·rename_i I; subst I
     first|rw [if_pos F] at m|skip
     cases m
     simp only [if_true,he,eAw]
     exact ⟨_,rfl,G,hx.le2 hle⟩
    ·rename_i I
     rw [if_neg I]
     simpa using b.2 j a c m
   ·simp [Instr.mapEntry,z0g hd,z2x k,J,A,he,hkk,z5q k]
   ·simp [ent,std,F]
   ·have:=x4s (y:=v') Z Y es 0 i v X
    simpa [ent,std] using this
   ·intro x; simp [ent,z8y,u4e,std]
theorem y5y {T:TypeId} {ti:TI} (C:z7c P T ti) (hr:z0b P ρ h w) {m k:AV} {vm j:Value} (hm:z0n ρ (z0d ρ h) w m vm) (G:z0n ρ (z0d ρ h) w k j) {q:Bool} {r:List D} (B:x2m q r (z3t std ti h m k)):
  ∃ v,(Instr.lookup T vm j false).run P w= .ok v w:=by
 have f:∀ fr,z3t std ti h m k=some fr→∃ v,(Instr.lookup T vm j false).run P w= .ok v w:=by
  intro fr l
  obtain ⟨K,E,ks,ka,ez,s,o,A,_,c,_,d⟩:=y05 C hr hm G l
  obtain ⟨t,g,z⟩:=y5k (P:=P) (w:=w) A (O:=z0d ρ h)
  rcases d with ⟨rfl,rfl,b⟩|⟨id,L,es,Q,H,rfl,rfl,N,F,i,y,I,b,a⟩
  ·exact ⟨t,by simp [Instr.lookup,z0g s,c,b,g]⟩
  ·cases fr with
   |none=>
    simp only [y4b] at a; subst a
    exact ⟨t,by simp [Instr.lookup,z0g s,z2x i,c,b,g]⟩
   |some p=>
    obtain ⟨n,x⟩:=p
    obtain ⟨J,e,rfl,_,_,M,_⟩:=a
    exact ⟨e.val,by simp [Instr.lookup,z0g s,z2x i,c,b]⟩
 rcases B with ⟨u,_⟩|⟨_,_,_,u,_⟩<;>exact f _ u
theorem x17 {T:TypeId} (hr:z0b P ρ h w) {id:Nat} {L:Loc} (s:ρ id=some L) {f:List (D×D)} (g:z0f h id= .map f) {en:Array MapEntry} {k:Nat} (d:w.heap[L.blk]?=some (.map en k)) {n:Nat} {e:MapEntry} (he:en[n]?=some e) {kd m x:D} (u:f[n]?=some (kd,m))
  {l:Value} (B:z1k (z0d ρ h) w x l) (new:Nat):z0o P ρ h w new (z49 (Instr.entryStore T (.map (some L.blk)) (goInt e.born) l)) ⟨true, .bot,[(id, .map (std.mset f n kd x))]⟩:=by
 have p:=hr.born s g d
 obtain ⟨_,t⟩:=hr.obj id L s
 rw [g] at t
 obtain ⟨F,A,y,C,v⟩:=t
 rw [d] at y; cases y
 have q:n<f.length:=(eAa.1 u).1
 have r:=p.find he
 have o:(Instr.entryStore T (.map (some L.blk)) (goInt e.born) l).run P w= .ok () (World.setObj w L.blk (.map (en.modify n fun e=>{ e with val:=l }) k)):=by
  simp [Instr.entryStore,z2x d,asInt,asIntOf,goInt,r,z5q d]
 refine map_set hr s g d (en.modify n fun e=>{ e with val:=l }) k ⟨by simp [std]; simpa using C.1,fun j a c b=>?_⟩ (p.mod _ _ (fun _=>rfl)) new .bot undef (fun _ _ _=> .bot _) (by simp only [z49,Sem.run_bind,o,Result.andThen_ok,Sem.run_pure])
 simp only [std,eBu] at b
 simp only [eAl,eDb]
 split at b
 ·rename_i i; subst i
  first|rw [if_pos q] at b|skip
  cases b
  obtain ⟨H,z,E,G⟩:=v n kd m u
  rw [he] at z; cases z
  simp only [if_true,he,eAw]
  exact ⟨_,rfl,E,B⟩
 ·rename_i i
  rw [if_neg i]
  simpa using v j a c b
end
structure w3b where
 (t a b dL dB dM dX:Nat)
 (bop:BinOp)
 (bt:Nat)
 (c:Value)
 (bt2:Nat)
def neN (a b:Nat):Bool:=!Nat.beq a b
def u4r:List Oper→Option w3b
 |[L,B,M,X,E]=>match L.dst,L.op,L.guard with
  |some dL, .lookup t (.tmp a) (.tmp b) false,none=>match B.dst,B.op,B.guard with
   |some dB, .binOp h j (.tmp x) (.const c) g,none=>match M.dst,M.op,M.guard with
    |some f, .mapEntry t2 (.tmp a2) (.tmp k),none=>match X.dst,X.op,X.guard with
     |some d, .extract (.tmp e) 1,none=>match E.dst,E.op,E.guard with
      |none, .entryStore t3 (.tmp a3) (.tmp i) (.tmp v3),none=>
       bif Nat.beq x dL&&(Nat.beq t2 t&&(Nat.beq a2 a&&(Nat.beq k b&&(Nat.beq e f&&(Nat.beq t3 t&&(Nat.beq a3 a&&(Nat.beq i d&&(Nat.beq v3 dB&&
        (neN a dL&&(neN a dB&&(neN a f&&(neN a d&&(neN b dL&&(neN b dB&&(neN b f&&(neN b d&&(neN dL dB&&(neN dL f&&(neN dL d&&(neN dB f&&(neN dB d&&neN f d)))))))))))))))))))))
       then some ⟨t,a,b,dL,dB,f,d,h,j,c,g⟩ else none
      |_,_,_=>none
     |_,_,_=>none
    |_,_,_=>none
   |_,_,_=>none
  |_,_,_=>none
 |_=>none
structure v7z (x:w3b) (L B M X E:Oper):Prop where
 (gL:L.guard=none) (gB:B.guard=none) (gM:M.guard=none) (gX:X.guard=none) (gE:E.guard=none)
 (dL:L.dst=some x.dL) (dB:B.dst=some x.dB) (dM:M.dst=some x.dM) (dX:X.dst=some x.dX) (dE:E.dst=none)
 (oL:L.op= .lookup x.t (.tmp x.a) (.tmp x.b) false) (oB:B.op= .binOp x.bop x.bt (.tmp x.dL) (.const x.c) x.bt2) (oM:M.op= .mapEntry x.t (.tmp x.a) (.tmp x.b)) (oX:X.op= .extract (.tmp x.dM) 1) (oE:E.op= .entryStore x.t (.tmp x.a) (.tmp x.dX) (.tmp x.dB))
 (aL:x.a≠x.dL) (aB:x.a≠x.dB) (aM:x.a≠x.dM) (aX:x.a≠x.dX) (bL:x.b≠x.dL) (bB:x.b≠x.dB) (bM:x.b≠x.dM) (bX:x.b≠x.dX)
 (LB:x.dL≠x.dB) (LM:x.dL≠x.dM) (LX:x.dL≠x.dX) (BM:x.dB≠x.dM) (BX:x.dB≠x.dX) (MX:x.dM≠x.dX)
theorem z7m {a b:Nat} (h:neN a b=true):a≠b:=by
 rintro rfl; simp [neN] at h
theorem v6h {l:List Oper} {x:w3b} (h:u4r l=some x):∃ L B M X E,l=[L,B,M,X,E]∧v7z x L B M X E:=by
 unfold u4r at h
 split at h
 ·rename_i L B M X E
  refine ⟨L,B,M,X,E,rfl,?_⟩
  split at h
  ·rename_i dL t a b h1 h2 Z
   split at h
   ·rename_i dB bop bt y c bt2 Y W V
    split at h
    ·rename_i dM t2 a2 b2 U T S
     split at h
     ·rename_i dX e q p o
      split at h
      ·rename_i t3 a3 s3 v3 n m k
       revert h
       intro h
       rw [Bool.cond_eq_ite] at h
       split at h
       ·rename_i G
        cases h
        simp only [eAc] at G
        obtain ⟨F,C,A,z,w,v,u,s,r,R,Q,P,O,N,K,J,I,H,j,i,g,f,d⟩:=G
        have F:=eAd F; have C:=eAd C; have A:=eAd A; have z:=eAd z; have w:=eAd w
        have v:=eAd v; have u:=eAd u; have s:=eAd s; have r:=eAd r
        subst F C A z w v u s r
        exact ⟨Z,V,S,o,k,h1,Y,U,q,n,h2,W,T,p,m,z7m R,z7m Q,z7m P,z7m O,z7m N,z7m K,z7m J,z7m I,z7m H,z7m j,z7m i,z7m g,z7m f,z7m d⟩
       ·cases h
      ·cases h
     ·cases h
    ·cases h
   ·cases h
  ·cases h
 ·cases h
def v6i (ops:List Oper):Option (List Oper×w3b):=
 match u4r (ops.drop (ops.length - 5)) with
 |some x=>some (ops.take (ops.length - 5),x)
 |none=>none
def y5d (ops:List Oper):Bool:=
 let m:=ops.length - 5
 let a:=y1i ops []
 (Nat.testBit (z7k a (m+1)) m&&(Nat.testBit (z7k a (m+3)) (m+2)&&(Nat.testBit (z7k a (m+4)) (m+1)&&Nat.testBit (z7k a (m+4)) (m+3))))&&
  (List.range ops.length).all fun i=>Nat.blt i m||(List.range m).all fun j=>Nat.testBit (z7k a i) j
end Go.Am
end
