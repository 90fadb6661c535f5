/- Texts of this claim. -/
import Derived.Test.YtejcgpekgbiooaaGreatDoorZT1
import Derived.RangeFuncLeaves
import Derived.Orders
set_option linter.all false
set_option maxRecDepth 100000
set_option maxHeartbeats 0
open Go.Builtin renaming copy_→eFu,lenOf→eGn,firstCells→eCm,clear_→eFp,zeroCells→eFq,append_→eDj,len_→eGl
open Go.World renaming cell?→eFc
open Go.Sem renaming run_bind→eAw,run_pure→eBf,run_ite→eFd
open Go.Result renaming andThen_ok→eAo
open Go.Frame renaming enter→eFr
open Ne renaming symm→eDa
open Go.Op renaming operands→eAx
open Go.Call renaming operands→eDs
open Go.Instr renaming lookup→eGa
open Nat renaming ble→eAz,le_of_ble_eq_true→eAl,beq→eAk,eq_of_beq_eq_true→eAg,mul_le_mul_right→eBi,add_mul→eBe,add_zero→eBk,mod_lt→eGh,mod_eq_of_lt→eDz,div_lt_iff_lt_mul→eFw,mul_comm→eFm,beq_refl→eGj,zero_le→eBb,ble_eq_true_of_le→eCi,zero_add→eAy,le_trans→eCt,le_refl→eAp,blt→eBt,lt_of_lt_of_le→eBc,add_assoc→eCf,sub_zero→eGs
open List renaming getElem?_eq_getElem→eAd,getElem?_map→eAj,getElem?_replicate→eCs,getElem?_eq_some_iff→eAe,take_zero→eGg,getElem?_take_of_lt→eFy,getElem?_drop→eDh,mem_cons_self→eBv,mem_cons_of_mem→eCq,mem_append_left→eDp,getElem?_toArray→eCh,getElem?_cons_zero→eDy,getElem?_cons_succ→eDl,ext_getElem?→eCj,range→eAv,mem_cons→eBa,getElem?_append→eBr,nodup_cons→eGm,append_assoc→eDr,length_append→eCz,length_cons→eCa,length_nil→eDw,mem_singleton→eBn,mem_flatten→eFv,mem_map→eBq,mem_append→eBx,mem_filter→eDb,getElem_mem→eDe,all_eq_true→eBm,mem_range→eBj,getElem?_of_mem→eFo,mem_of_getElem?→eAn,getElem?_append_left→eFh,length_map→eBp,length_take→eCk,foldl_cons→eDo,append_nil→eDx,cons_append→eGr,pairwise_iff_getElem→eFi,getElem?_set→eCr
open Array renaming getElem?_eq_some_iff→eAi,getElem?_toList→eAt,getD_eq_getD_getElem?→eAq,getElem?_eq_getElem→eBg,length_toList→eCg,getElem?_setIfInBounds→eDu,getElem?_modify→eDt
open Bool renaming and_eq_true→eAf,false_eq_true→eAh,not_false→eCn,or_eq_true→eBh,not_eq_true'→eCy,or_false→eGd
open Option renaming getD_some→eCd,map_some→eBo
open Int renaming toNat_natCast→eFf
section
namespace Go.Am
section
variable {P:Program} {ρ:Rho} {h:List AO} {w:World}
theorem z4u {id:Nat} {o:AO} (b:z0e h id=o) (j:Nat):z0e (z04 h id o) j=z0e h j:=by
 by_cases a:id=j
 ·subst a; rw [z0g,b]
 ·exact z0c _ _ _ _ a
theorem y2p {id:Nat} {o:AO} (a:z0e h id=o):z0f ρ (z04 h id o)=z0f ρ h:=by
 funext b; unfold z0f; simp only [z4u a]
theorem z0b.ext0 (c:z0b P ρ h w) {id:Nat} {o:AO} (a:z0e h id=o):z0b P ρ (z04 h id o) w:=by
 refine ⟨fun j L d=>?_,fun i g L n m l f e=>c.inj i g L n m l (by rw [←z4u a]; exact f) (by rw [←z4u a]; exact e),c.fr,fun i L d k=>c.sep i L d (by rw [←z4u a]; exact k),c.gl.sub fun b p=>by rwa [←y2p a]⟩
 have:=c.obj j L d
 rw [y2p a,z4u a]
 exact this
theorem ext0 {S:Nat→Prop} {id:Nat} {o:AO} (a:z0e h id=o):Ext S ρ h w ρ (z04 h id o) w:=
 ⟨rfl,rfl,rfl,by rw [y2p a]; exact z5d.refl _ _,fun _ _=>rfl,rfl,fun _ _=>rfl⟩
theorem y5w (es xs:List (List D)) (i:Nat):z5s (es.take i++xs++es.drop (i+xs.length))=z5f (z5s es) i (z5s xs):=by
 simp [z5f,z4y,List.map_take,List.map_drop]
theorem x54 {T:TypeId} {ti:TI} (ht:z7j P T ti) (J:z0b P ρ h w) {new:Nat} {d s:AV} {vd vs:Value} (hd:z0q ρ (z0f ρ h) w d vd) (hs:z0q ρ (z0f ρ h) w s vs) {ts:Array TypeId} {ty:TypeId} (H:ts[0]?=some T) {res:Res}
  (b:z7m std ti h d s=some res) (hc:res.c=true):z0n P ρ h w new (eFu ts ty #[vd,vs]) res:=by
 obtain ⟨dd,K,b6,Y⟩:=ht.desc
 unfold z7m at b
 split at b
 ·rename_i e z eb ea ez Q
  rw [Q] at Y
  obtain ⟨rfl,I,_⟩:=Y
  cases hz:eAz 1 z with
  |false=>rw [hz] at b; cases b
  |true=>
  rw [hz] at b; simp only [cond_true] at b
  have E:0<z:=eAl hz
  split at b
  ·rename_i c C id z' off len cap x
   cases hb:eAk z z' with
   |false=>rw [hb] at b; cases b
   |true=>
   rw [hb] at b; simp only [cond_true] at b
   have a4:=eAg hb
   subst a4
   split at b
   ·rename_i es p
    cases b
    simp only at hc
    obtain ⟨h1,hc⟩:=and_true hc
    obtain ⟨h2,h3⟩:=and_true hc
    obtain ⟨U,m,g,l,rfl,hm,a8,q,F,G⟩:=y0l (P:=P) J E hs x h1
    rw [←hm] at h2⊢
    have h2:m≤len:=z2x h2
    have h3:off+len≤es.length:=z2x h3
    have Z:l.length=m*z:=by rw [F.1,q]
    cases hd with
    |nils _ _ _ _ a b1=>
     have:m=0:=by omega
     subst this
     have A:l=[]:=by simpa using Z
     subst A
     have N:C=[]:=by
      have:C.length=0:=by rw [←z0s]; exact q
      simpa using this
     subst N
     have f:(eFu ts ty #[.slice a 0 0, .slice U 0 g]).run P w= .ok (.int .i64 0) w:=by
      have:=G w rfl
      cases a<;>simp [eFu,H,z0h K,eGn,z1h I,this,storeCells,goInt]
     have n:(std.splice es off [])=es:=by simp [std]
     rw [n]
     refine ⟨_,w,ρ,f, .d (.int _ _),?_,?_, .inl rfl⟩
     ·exact J.ext0 p
     ·exact ext0 p
    |slice _ _ _ _ _ L a cp hL M b2 b1 b5=>
     obtain ⟨_,W⟩:=J.obj id L hL
     have hE:(z0e h id).rows=some (z5s es):=by rw [p]; rfl
     obtain ⟨_,S,t,B,hl,hj⟩:=W.rows hE
     rw [M] at hl hj
     have o:(z0e h id).live=true:=by rw [p]; rfl
     by_cases a9:m=0
     ·subst a9
      have A:l=[]:=by simpa using Z
      subst A
      have N:C=[]:=by
       have:C.length=0:=by rw [←z0s]; exact q
       simpa using this
      subst N
      have f:(eFu ts ty #[.slice a len cp, .slice U 0 g]).run P w= .ok (.int .i64 0) w:=by
       have:=G w rfl
       cases a<;>simp [eFu,H,z0h K,eGn,z1h I,this,storeCells,goInt]
      have n:(std.splice es off [])=es:=by simp [std]
      rw [n]
      exact ⟨_,w,ρ,f, .d (.int _ _),J.ext0 p,ext0 p, .inl rfl⟩
     ·have a0:L.base+es.length*z≤S.size:=by
       have X:es.length - 1<(z5s es).length:=by rw [z0s]; omega
       have b4:=hl _ _ (eAd X)
       have hy:z - 1<((z5s es)[es.length - 1]).length:=by omega
       obtain ⟨v,hv,_,_⟩:=hj _ _ _ _ (eAd X) (eAd hy)
       have:=(eAi.1 hv).1
       have e:es.length*z=(es.length - 1)*z+z:=by
        rw [←Nat.succ_mul]; congr 1; omega
       omega
      have a3:(off+m)*z≤es.length*z:=eBi _ (by omega)
      have a1:(off+m)*z=off*z+m*z:=eBe _ _ _
      rw [b2 (by omega),M]
      have f:(eFu ts ty #[.slice (some ⟨L.blk,L.base+off*z,none⟩) len cp, .slice U m g]).run P w= .ok (.int .i64 m) (World.setObj w L.blk (.cells (S.toList.take (L.base+off*z)++l++S.toList.drop (L.base+off*z+l.length)).toArray t (0,0))):=by
       have b:=run_storeCells_at (P:=P) L.blk (L.base+off*z) t l 0 S w B (by simp; omega) (y00 E F)
       rw [z7y B] at b
       simp only [eBk] at b
       have u:Nat.min m len=m:=Nat.min_eq_left h2
       simp [eFu,H,z0h K,eGn,z1h I,u,G w rfl,b,goInt]
      have R:∀ k,z1c w L.blk=some k→z1c (World.setObj w L.blk (.cells (S.toList.take (L.base+off*z)++l++S.toList.drop (L.base+off*z+l.length)).toArray t (0,0))) L.blk=some k:=by
       intro k Y
       rw [z0y B] at Y; cases Y
       rw [z0y (z0u _ _ _ (eAi.1 B).1)]
       congr 1
       simp; omega
      have b0:=z16 J hL o (.row (std.splice es off C)) rfl _ R
      have V:(z5s C).length=m:=q
      obtain ⟨r1,r2⟩:=y1w (w:=w) E (base:=L.base) (c:=S) (i:=off) hl hj F (by show off+(z5s C).length≤(z5s es).length; rw [z0s,z0s]; rw [z0s] at V; omega) (by omega)
      have O:(AO.row (std.splice es off C)).rows=some (z5f (z5s es) off (z5s C)):=by
       show some (z5s _)=_; rw [←y5w]; rfl
      refine ⟨_,_,ρ,f, .d (.int _ _),J.set hL o _ rfl _ R ?_,Ext.set _ J hL o _ rfl _ R, .inl rfl⟩
      refine z1e.of_rows O (by omega) _ t (z0u _ _ _ (eAi.1 B).1) (by rw [M]; exact r1) (fun i r j y hi hy=>?_)
      rw [M]
      obtain ⟨v,hv,a6,a5⟩:=r2 i r j y hi hy
      exact ⟨v,hv,a6,a5.keep b0 (fun _ _ h=>h)⟩
   ·cases b
  ·rename_i c C full z' x
   cases b
   obtain ⟨U,m,g,l,rfl,hm,a8,q,F,G⟩:=y0l (P:=P) J E hs x hc
   cases hd with|d hd=>
   cases hd with
   |lnil _ _ a cap b3=>
    have hf:∃ c0:Array Value,(eCm z 0 (.slice U m g)).run P w= .ok #[] w:=by
     cases U<;>exact ⟨#[],by simp [eCm,loadCells,loadCellsFrom]⟩
    obtain ⟨_,hf⟩:=hf
    have f:(eFu ts ty #[.slice a 0 cap, .slice U m g]).run P w= .ok (.int .i64 0) w:=by
     have u:Nat.min m 0=0:=Nat.min_zero m
     cases a<;>simp [eFu,H,z0h K,eGn,z1h I,u,hf,storeCells,goInt]
    exact z0n.pure J f (.d (.int _ _))
   |list _ _ _ _ _ _ _ a7=>exact absurd rfl a7
  ·cases b
 ·cases b
theorem x24 {T:TypeId} {ti:TI} (ht:z7j P T ti) (Q:z0b P ρ h w) {new:Nat} {d:AV} {vd:Value} (hd:z0q ρ (z0f ρ h) w d vd) {ts:Array TypeId} {ty:TypeId} (E:ts[0]?=some T) {res:Res}
  (b:z56 std ti h d=some res) (hc:res.c=true):z0n P ρ h w new (eFp ts ty #[vd]) res:=by
 have unit:∀ ρ O w,z0q ρ O w (.tuple []) (.tuple #[]):=fun _ _ _=> .tuple [] #[] rfl (fun i x hx=>by simp at hx)
 obtain ⟨dd,G,c7,R⟩:=ht.desc
 unfold z56 at b
 split at b
 ·rename_i e z eb ea ez S
  rw [S] at R
  obtain ⟨rfl,c2,c6,_,q,s⟩:=R
  cases X:(eAz 1 z&&z7t (toA ez)) with
  |false=>rw [X] at b; cases b
  |true=>
  rw [X] at b; simp only [cond_true] at b
  simp only [eAf] at X
  have K:0<z:=eAl X.1
  have b9:=X.2
  obtain ⟨i,o,n,a9,b2⟩:∃ i o,P.info? e=some i∧i.zero=some o∧y25 o.cells.toList=some ez:=by
   unfold y5p at q
   cases n:P.info? e with
   |none=>simp [n] at q
   |some i=>
    rw [n] at q
    simp at q
    cases J:i.zero with
    |none=>simp [J] at q
    |some o=>exact ⟨i,o,rfl,J,by simpa [J] using q⟩
  obtain ⟨b0,b1⟩:=z8z b2
  have g:o.cells.size=z:=by rw [←s,b0]; simp
  split at b
  ·rename_i id z' off len cap
   cases hb:eAk z z' with
   |false=>rw [hb] at b; cases b
   |true=>
   rw [hb] at b; simp only [cond_true] at b
   have a8:=eAg hb
   subst a8
   split at b
   ·rename_i es p
    cases b
    simp only at hc
    have h3:off+len≤es.length:=z2x hc
    have m:(z0e h id).live=true:=by rw [p]; rfl
    cases hd with
    |nils _ _ _ _ a b8=>
     have f:(eFp ts ty #[.slice a 0 0]).run P w= .ok (.tuple #[]) w:=by
      cases a<;>simp [eFp,E,z0h G]
     have l:(std.splice es off (std.rep 0 ez))=es:=by simp [std]
     rw [l]
     exact ⟨_,w,ρ,f,unit _ _ _,Q.ext0 p,ext0 p, .inl rfl⟩
    |slice _ _ _ _ _ L a cp hL H c0 b8 c4=>
     obtain ⟨_,a0⟩:=Q.obj id L hL
     have hE:(z0e h id).rows=some (z5s es):=by rw [p]; rfl
     obtain ⟨_,W,t,A,hl,hj⟩:=a0.rows hE
     rw [H] at hl hj
     by_cases a4:len=0
     ·subst a4
      have f:(eFp ts ty #[.slice a 0 cp]).run P w= .ok (.tuple #[]) w:=by
       cases a<;>simp [eFp,E,z0h G]
      have l:(std.splice es off (std.rep 0 ez))=es:=by simp [std]
      rw [l]
      exact ⟨_,w,ρ,f,unit _ _ _,Q.ext0 p,ext0 p, .inl rfl⟩
     ·have a3:L.base+es.length*z≤W.size:=by
       have F:es.length - 1<(z5s es).length:=by rw [z0s]; omega
       have c3:=hl _ _ (eAd F)
       have C:z - 1<((z5s es)[es.length - 1]).length:=by omega
       obtain ⟨v,Z,_,_⟩:=hj _ _ _ _ (eAd F) (eAd C)
       have:=(eAi.1 Z).1
       have e:es.length*z=(es.length - 1)*z+z:=by
        rw [←Nat.succ_mul]; congr 1; omega
       omega
      have a7:(off+len)*z≤es.length*z:=eBi _ (by omega)
      have a6:(off+len)*z=off*z+len*z:=eBe _ _ _
      rw [c0 (by omega),H]
      have U:∀ k,k<len*z→(eFq o.cells len)[k]?=o.cells[k % z]?:=by
       intro k R
       have:k % z<o.cells.size:=by rw [g]; exact eGh _ K
       unfold eFq
       rw [g]
       simp [R,getElem!_pos o.cells (k % z) this]
      have a5:(eFq o.cells len).toList.length=len*z:=by simp [eFq,g]
      have Y:(z5s (std.rep len ez)).length=len:=by rw [z0s]; simp [std]
      have M:z3f ρ (z0f ρ h) w z (z5s (std.rep len ez)) (eFq o.cells len).toList:=by
       refine ⟨by rw [a5,Y],fun i r n=>?_,fun i r j y n C=>?_⟩
       ·rw [z4y,eAj] at n
        simp [std,eCs] at n
        rw [←n.2,z01]; exact s
       ·rw [z4y,eAj] at n
        simp [std,eCs] at n
        obtain ⟨c5,rfl⟩:=n
        rw [z1p] at C
        cases u:ez[j]? with
        |none=>rw [u] at C; cases C
        |some d0=>
        rw [u] at C; cases C
        have b7:j<z:=by rw [←s]; exact (eAe.1 u).1
        obtain ⟨v,Z,I⟩:=b1 (z0f ρ h) w j d0 u
        have F:i*z+j<len*z:=by
         have:(i+1)*z≤len*z:=eBi _ (by omega)
         rw [eBe] at this; omega
        have a1:(i*z+j) % z=j:=by rw [Nat.add_comm,Nat.add_mul_mod_self_right]; exact eDz b7
        refine ⟨v,?_,?_, .d I⟩
        ·rw [eAt,U _ F,a1]; simpa using Z
        ·have:w77 (.d d0)=true:=z8t b9 (by rw [z1p,u]; rfl)
         exact y2t (ρ:=ρ) this (.d I)
      generalize a2:(eFq o.cells len).toList=B at a5 M
      have f:(eFp ts ty #[.slice (some ⟨L.blk,L.base+off*z,none⟩) len cp]).run P w= .ok (.tuple #[]) (World.setObj w L.blk (.cells (W.toList.take (L.base+off*z)++B++W.toList.drop (L.base+off*z+B.length)).toArray t (0,0))):=by
       have b:=run_storeCells_at (P:=P) L.blk (L.base+off*z) t B 0 W w A (by simp; omega) (y00 K M)
       rw [z7y A] at b
       simp only [eBk] at b
       simp [eFp,E,z0h G,a4,zeroValue,typeInfo,n,a9,a2,b]
      have V:∀ k,z1c w L.blk=some k→z1c (World.setObj w L.blk (.cells (W.toList.take (L.base+off*z)++B++W.toList.drop (L.base+off*z+B.length)).toArray t (0,0))) L.blk=some k:=by
       intro k R
       rw [z0y A] at R; cases R
       rw [z0y (z0u _ _ _ (eAi.1 A).1)]
       congr 1
       simp; omega
      have b6:=z16 Q hL m (.row (std.splice es off (std.rep len ez))) rfl _ V
      obtain ⟨r1,r2⟩:=y1w (w:=w) K (base:=L.base) (c:=W) (i:=off) hl hj M (by show off+(z5s (std.rep len ez)).length≤(z5s es).length; rw [Y,z0s]; omega) (by omega)
      have N:(AO.row (std.splice es off (std.rep len ez))).rows=some (z5f (z5s es) off (z5s (std.rep len ez))):=by
       show some (z5s _)=_; rw [←y5w]; rfl
      refine ⟨_,_,ρ,f,unit _ _ _,Q.set hL m _ rfl _ V ?_,Ext.set _ Q hL m _ rfl _ V, .inl rfl⟩
      refine z1e.of_rows N (by omega) _ t (z0u _ _ _ (eAi.1 A).1) (by rw [H]; exact r1) (fun i r j y n C=>?_)
      rw [H]
      obtain ⟨v,Z,b4,b3⟩:=r2 i r j y n C
      exact ⟨v,Z,b4,b3.keep b6 (fun _ _ h=>h)⟩
   ·cases b
  ·rename_i full z'
   cases x6p b
   cases hd with|d hd=>
   cases hd with
   |lnil _ _ a cap c1=>
    have f:(eFp ts ty #[.slice a 0 cap]).run P w= .ok (.tuple #[]) w:=by
     cases a<;>simp [eFp,E,z0h G]
    exact z0n.pure Q f (unit _ _ _)
   |list _ _ _ _ _ _ _ b5=>exact absurd rfl b5
  ·cases b
 ·cases b
end
end Go.Am
end
section
namespace Go.Am
section
variable {P:Program} {ρ:Rho} {h:List AO} {w:World}
theorem v1g {c:Array Value} {t:TypeId} {b k:Nat} {v:Value} (d:w.heap[b]?=some (.cells c t (0,0))) (a:c[k]?=some v):w.cell? ⟨b,k,none⟩=some v:=by
 simp [eFc,d,a]
theorem w8m {id z off len:Nat} {cap:Option Nat} {es:List (List D)} {v:Value} (N:z0b P ρ h w) (hv:z0q ρ (z0f ρ h) w (.slice id z off len cap) v) (x:z0e h id= .row es) (hc:off+len≤es.length):
  z0q ρ (z0f ρ (z04 h id .dead)) w (.d (.list false z (std.cut es off len))) v:=by
 have hx:=Ext.kill (fun _=>True) ρ h w id
 have hk:=hx.keep
 have I:std.cut es off len=(es.drop off).take len:=rfl
 rw [I]
 cases hv with
 |nils _ _ _ _ a hc=>rw [eGg]; exact .d (.lnil _ _ _ _ (by simp))
 |slice _ _ _ _ _ L a c W X ha a1 hl=>
  obtain ⟨Z,C⟩:=N.obj id L W
  rw [x] at C
  obtain ⟨n,cs,t,U,g,y⟩:=C
  refine .d ?_
  rcases Nat.eq_zero_or_pos len with h0|Y
  ·subst h0
   rw [eGg]; exact .lnil _ _ _ _ (by simp)
  have f:((es.drop off).take len).length=len:=by simp; omega
  have b:∀ i r,((es.drop off).take len)[i]?=some r→i<len∧es[off+i]?=some r:=by
   intro i r m
   have p:i<len:=by rw [←f]; exact (eAe.1 m).1
   refine ⟨p,?_⟩
   rw [eFy p,eDh] at m
   exact m
  have s:∀ k,k<len*z→∃ u,cs[L.base+off*z+k]?=some u∧u.oneCell'=true∧∀ d,(∃ r,((es.drop off).take len)[k / z]?=some r∧r[k % z]?=some d)→z1m (z0f ρ (z04 h id .dead)) w d u:=by
   intro k Q
   subst X
   have m:k / L.esz<len:=(eFw n).2 Q
   have p:k / L.esz<((es.drop off).take len).length:=by rw [f]; exact m
   have he:=(b (k / L.esz) _ (eAd p)).2
   generalize ((es.drop off).take len)[k / L.esz]=r at he
   have K:=g _ r he
   have G:k % L.esz<r.length:=by rw [K]; exact eGh _ n
   obtain ⟨u,o,J,T⟩:=y _ r _ r[k % L.esz] he (eAd G)
   have R:L.base+(off+k / L.esz)*L.esz+k % L.esz=L.base+off*L.esz+k:=by
    have:=Nat.div_add_mod k L.esz
    rw [eBe,eFm (k / L.esz)]; omega
   rw [R] at o
   refine ⟨u,o,J,fun d S=>?_⟩
   obtain ⟨r',M,H⟩:=S
   have:=(b _ _ M).2
   rw [he] at this; cases this
   rw [eAd G] at H; cases H
   exact T.keep hk
  have V:a=some ⟨L.blk,L.base+off*L.esz,none⟩:=ha (by omega)
  subst X
  subst V
  have B:¬ z0f ρ (z04 h id .dead) L.blk:=by
   rintro (hf|⟨A,L',h2,q,he⟩)
   ·exact N.sep id L W (by rw [x]; rfl) hf
   ·have E:id≠A:=by rintro rfl; rw [z0g] at q; cases q
    rw [z0c _ _ _ _ E] at q
    exact E (N.inj A id L' L h2 W q (by rw [x]; rfl) he).symm
  have key:=z1m.list (O:=z0f ρ (z04 h id .dead)) (w:=w) false ((es.drop off).take len) L.blk (L.base+off*L.esz) L.esz c n
   (by intro e; rw [e] at f; simp at f; omega) B (by rw [f]; exact hl) (by simp) (fun i r m=>g _ r (b i r m).2)
   (fun k=>(cs[L.base+off*L.esz+k]?).getD undef) (fun k l=>?_) (fun k l=>?_) (fun i r j d m G=>?_)
  ·rw [f] at key; exact key
  ·rw [f] at l
   obtain ⟨u,o,J,_⟩:=s k l
   rw [o]; exact J
  ·rw [f] at l
   obtain ⟨u,o,J,_⟩:=s k l
   rw [o]; exact v1g U o
  ·have F:j<L.esz:=by rw [←g _ r (b i r m).2]; exact (eAe.1 G).1
   have a0:=(b i r m).1
   have l:i*L.esz+j<len*L.esz:=by
    have:(i+1)*L.esz≤len*L.esz:=eBi _ (by omega)
    rw [eBe,Nat.one_mul] at this; omega
   obtain ⟨u,o,_,T⟩:=s _ l
   rw [o]
   refine T d ⟨r,?_,?_⟩
   ·rw [show (i*L.esz+j) / L.esz=i by rw [eFm,Nat.mul_add_div n,Nat.div_eq_of_lt F,eBk]]; exact m
   ·rw [show (i*L.esz+j) % L.esz=j by rw [eFm,Nat.mul_add_mod,eDz F]]; exact G
theorem x9i {id:Nat} {o:AO}:∀ (u:List (Nat×AO)) (h:List AO) (a:Option AO),(∀ x,a=some x→z0e h id=x)→x68 u id a=some o→z0e (z08 h u) id=o
 |[],h,a,f,d=>f o d
 |(i,x)::r,h,a,f,d=>by
  simp only [x68] at d
  simp only [z08]
  refine x9i r (z04 h i x) _ (fun y c=>?_) d
  cases b:eAk i id with
  |true=>
   rw [b] at c
   cases c
   have:=eAg b
   subst this
   exact z0g _ _ _
  |false=>
   rw [b] at c
   have e:i≠id:=by rintro rfl; rw [eGj] at b; cases b
   rw [z0c _ _ _ _ e]
   exact f y c
theorem x4l {id:Nat} {o:AO}:∀ (u:List (Nat×AO)) (a:Option AO),x68 u id a=some o→a=some o∨∃ c,(id,c)∈u
 |[],a,b=> .inl b
 |(i,x)::r,a,b=>by
  simp only [x68] at b
  rcases x4l r _ b with h|⟨c,h⟩
  ·cases d:eAk i id with
   |true=>
    have:=eAg d
    subst this
    exact .inr ⟨x,eBv ..⟩
   |false=>rw [d] at h; exact .inl h
  ·exact .inr ⟨c,eCq _ h⟩
theorem z9s (x:Nat×AO):∀ (u:List (Nat×AO)) (h:List AO),z08 h (u++[x])=z04 (z08 h u) x.1 x.2
 |[],h=>rfl
 |y::u,h=>z9s x u _
theorem w03 {v:AV} {id z off len:Nat} (h:y6b v=some (id,z,off,len)):∃ cap,v= .slice id z off len cap:=by
 cases v<;>cases h; exact ⟨_,rfl⟩
theorem x3p {o:AO} {es:List (List D)} (h:x3q o=some es):o= .row es:=by
 cases o<;>cases h; rfl
theorem y0i (r:List D) (res:Res):y4l std r res=res∨∃ id z off len cap es a,res.v= .slice id z off len cap∧(∀ h,z0e (z08 h res.u) id= .row es)∧(id,a)∈res.u∧
  y4l std r res=⟨std.and res.c (std.leN (std.add off len) (std.len es)), .d (.list false z (std.cut es off len)),res.u++[(id, .dead)]⟩:=by
 unfold y4l
 cases two r with
 |false=>exact .inl rfl
 |true=>
  simp only [cond_true]
  cases j:y6b res.v with
  |none=>exact .inl rfl
  |some x=>
   obtain ⟨id,z,off,len⟩:=x
   simp only
   cases b:x68 res.u id none with
   |none=>exact .inl rfl
   |some o=>
    simp only
    cases i:x3q o with
    |none=>exact .inl rfl
    |some es=>
     obtain ⟨cap,f⟩:=w03 j
     have g:=x3p i
     subst g
     rcases x4l _ _ b with h|⟨a,hm⟩
     ·cases h
     exact .inr ⟨id,z,off,len,cap,es,a,f,fun h=>x9i _ h none (fun x e=>by cases e) b,hm,rfl⟩
theorem x9f {r:List D} {res:Res} (h:(y4l std r res).c=true):res.c=true:=by
 rcases y0i r res with e|⟨id,z,off,len,cap,es,a,_,_,_,e⟩
 ·rw [e] at h; exact h
 ·rw [e] at h
  have h:(res.c&&std.leN (std.add off len) (std.len es))=true:=h
  rw [eAf] at h; exact h.1
theorem x4k {r:List D} {res:Res} {new:Nat} {s:Sem Value} (i:z0n P ρ h w new s res) (b:(y4l std r res).c=true):z0n P ρ h w new s (y4l std r res):=by
 rcases y0i r res with e|⟨id,z,off,len,cap,es,q,l,f,hm,e⟩
 ·rw [e]; exact i
 ·rw [e] at b⊢
  have b:(res.c&&std.leN (std.add off len) (std.len es))=true:=b
  rw [eAf] at b
  have d:off+len≤es.length:=eAl b.2
  obtain ⟨v,a,ρ',p,k,j,n,m⟩:=i
  rw [l] at k
  have key:=w8m j k (f h) d
  refine ⟨v,a,ρ',p,?_,?_,?_,?_⟩
  ·show z0q ρ' (z0f ρ' (z08 h (res.u++[(id, .dead)]))) a _ v
   rw [z9s]; exact key
  ·show z0b P ρ' (z08 h (res.u++[(id, .dead)])) a
   rw [z9s]; exact j.kill id
  ·show Ext _ ρ h w ρ' (z08 h (res.u++[(id, .dead)])) a
   rw [z9s]; exact n.trans (Ext.kill _ ρ' _ a id)
  ·rcases m with g|⟨o,g⟩
   ·exact .inl g
   ·exact .inr ⟨o,eDp _ g⟩
theorem x3i {v:AV} {id z off len c:Nat} (h:x78 v=some (id,z,off,len,c)):v= .slice id z off len (some c):=by
 cases v with
 |slice id z off len cap=>cases cap<;>cases h; rfl
 |_=>cases h
theorem v7y {e:Els} {a:List (List D)} (h:t3g e=some a):e= .d a:=by
 cases e<;>cases h; rfl
theorem y5z {ti:TI} {s x:AV} {res:Res} (a:y4t std ti h s x=some res):∃ e z f q ez id j off len c i cs b es g,ti.desc= .slc e z f q ez∧(eAz 1 z&&eAz f 60000)=true∧s= .slice id j off len (some c)∧z3d std z h x=some (i, .d g)∧z3d std z h s=some (cs,b)∧z0e h id= .row es∧
  res=⟨std.and i (std.and cs (std.leN (std.add off c) (std.len es))), .slice id z off (std.add len (z7i std x)) (some c),[(id, .row (std.splice es (std.add off len) g))]⟩:=by
 unfold y4t at a
 cases r:ti.desc with
 |slc e z f q ez=>
  rw [r] at a
  simp only at a
  cases k:(eAz 1 z&&eAz f 60000) with
  |false=>rw [k] at a; cases a
  |true=>
   rw [k] at a
   simp only [cond_true] at a
   cases p:x78 s with
   |none=>rw [p] at a; cases a
   |some y=>
    obtain ⟨id,j,off,len,c⟩:=y
    rw [p] at a
    simp only at a
    cases o:z3d std z h x with
    |none=>rw [o] at a; cases a
    |some y=>
     obtain ⟨i,t⟩:=y
     rw [o] at a
     simp only at a
     cases n:z3d std z h s with
     |none=>rw [n] at a; cases a
     |some y=>
      obtain ⟨cs,b⟩:=y
      rw [n] at a
      simp only at a
      cases m:x3q (z0e h id) with
      |none=>rw [m] at a; cases a
      |some es=>
       rw [m] at a
       simp only at a
       cases l:t3g t with
       |none=>rw [l] at a; cases a
       |some g=>
        rw [l] at a
        cases a
        have:=v7y l
        subst this
        exact ⟨e,z,f,q,ez,id,j,off,len,c,i,cs,b,es,g,rfl,k,x3i p,o,n,x3p m,rfl⟩
 |_=>rw [r] at a; cases a
theorem z97 {S j:TypeId} {e:TypeId} (hS:P.underlying S=some (.slice e)) {d2:TypeDesc} (h:P.underlying j=some d2) (d:∀ k,d2≠ .int k) {z:Nat} (f:z92 P e=some z)
  (ty:TypeId) {a i:Option Addr} {n cap c:Nat} (g:(eCm z 0 (.slice i 0 c)).run P w= .ok #[] w) (hm:n≤cap):
  (eDj #[S,j] ty #[.slice a n cap, .slice i 0 c]).run P w= .ok (.slice a n cap) w:=by
 have b:(match d2 with| .int _=>true|_=>false)=false:=by
  cases d2<;>first|rfl|exact absurd rfl (d _)
 unfold eDj
 cases a with
 |none=>
  simp only [eCh,eDy,eDl,eAw,z0h hS,eAo,z1h f,z0h h,eBf,b,eGn,eAh,if_false,eFd,hm,eBk,if_true,
   eCn,g]
 |some a=>
  simp only [eCh,eDy,eDl,eAw,z0h hS,eAo,z1h f,z0h h,eBf,b,eGn,eAh,if_false,eFd,hm,eBk,if_true,
   eCn,g]
  rfl
theorem w8u {S T2:TypeId} {ti t:TI} (ht:z7j P S ti) (y:z7j P T2 t) (j:∃ e z b a zs,t.desc= .slc e z b a zs) (R:z0b P ρ h w) {new:Nat} (hn:ρ new=none) {q:Bool} {s x:AV} {vs Y:Value}
  (Q:z0q ρ (z0f ρ h) w s vs) (Z:z0q ρ (z0f ρ h) w x Y) {ty:TypeId} {res:Res} (hq:∀ b,z3x std s x=some b→b=q) (T:q=true) (r:List D) (he:y4t std ti h s x=some res) (H:res.c=true):
  z0n P ρ h w new (eDj #[S,T2] ty #[vs,Y]) res:=by
 obtain ⟨e,z,eb,ea,ez,id,z0,off,len,c,cx,cs,b4,es,I,g,W,rfl,u,F,f,rfl⟩:=y5z he
 have b0:=H
 simp only at H
 obtain ⟨h1,H⟩:=and_true H
 obtain ⟨h2,h3⟩:=and_true H
 rcases Nat.eq_zero_or_pos (z7i std x) with h0|B
 ·obtain ⟨d,hd,a9,hk⟩:=ht.desc
  obtain ⟨d2,G,_,C⟩:=y.desc
  obtain ⟨e2,z2,b2,a2,a5,i⟩:=j
  rw [i] at C
  obtain ⟨rfl,_⟩:=C
  have hint:∀ k,TypeDesc.slice e2≠ .int k:=by intro k; simp
  rw [g] at hk
  obtain ⟨rfl,hz,a8,_,a7,a1⟩:=hk
  simp only [eAf] at W
  have J:0<z:=eAl W.1
  obtain ⟨ax,m,a4,X,rfl,hm,a6,v,M,N⟩:=y0l (P:=P) R J Z u h1
  rw [h0] at hm
  subst hm
  have K:I=[]:=by
   cases I with
   |nil=>rfl
   |cons a b=>simp [Els.toA,z5s] at v
  subst K
  have V:X=[]:=by
   have:=M.1
   rw [v] at this
   simpa using this
  subst V
  have l:std.splice es (std.add off len) []=es:=by
   show es.take (off+len)++[]++es.drop (off+len+([]:List (List D)).length)=es
   simp
  obtain ⟨rfl,E,hE,a0,a3⟩:=y17 F h2
  have U:∃ a n cap,vs= .slice a n cap∧n≤cap:=by
   cases Q with
   |nils _ _ _ _ a p=>exact ⟨_,_,_,rfl,eBb _⟩
   |slice _ _ _ _ _ L a cap hL b3 b1 p o=>exact ⟨_,_,_,rfl,o⟩
  obtain ⟨a,n,cap,rfl,o⟩:=U
  have A:=z97 (P:=P) (w:=w) hd G hint hz ty (a:=a) (N w rfl) o
  refine ⟨_,w,ρ,A,?_,?_,?_, .inl rfl⟩
  ·show z0q ρ (z0f ρ (z04 h id (.row (std.splice es (std.add off len) [])))) w (.slice id z off (len+z7i std x) (some c)) _
   rw [l,y2p f,h0]
   exact Q
  ·show z0b P ρ (z04 h id (.row (std.splice es (std.add off len) []))) w
   rw [l]; exact R.ext0 f
  ·show Ext _ ρ h w ρ (z04 h id (.row (std.splice es (std.add off len) []))) w
   rw [l]; exact Go.Am.ext0 f
 ·have O:z14 std ti h new q r (.slice id z0 off len (some c)) x=some ⟨std.and cx (std.and cs (std.and (std.leN 1 (z7i std x)) (std.leN (std.add off c) (u0z std (z0e h id))))), .slice id z off (std.add len (z7i std x)) (some c),[(id, .row (std.splice es (std.add off len) I))]⟩:=by
   unfold z14
   rw [g]
   simp only [W,cond_true,u,F,T,f,x8e]
  have p:(std.and cx (std.and cs (std.and (std.leN 1 (z7i std x)) (std.leN (std.add off c) (u0z std (z0e h id))))))=true:=by
   rw [f,h1,h2]
   show (true&&(true&&(std.leN 1 (z7i std x)&&std.leN (std.add off c) (std.len es))))=true
   rw [h3]
   have:std.leN 1 (z7i std x)=true:=eCi B
   rw [this]; rfl
  have key:=y2l ht y j R hn Q Z hq (ty:=ty) O p
  exact key
theorem z9t {ti:TI} {new:Nat} {q:Bool} {r:List D} {s x:AV} {res:Res} (b:z2s std ti h new q r s x=some res):
  ∃ a,((q=true∧y4t std ti h s x=some a)∨z14 std ti h new q r s x=some a)∧res=y4l std r a:=by
 unfold z2s at b
 have g:∀ y,(bif zer r&&q then y4t std ti h s x else none)=some y→q=true∧y4t std ti h s x=some y:=by
  intro y c
  cases d:(zer r&&q) with
  |false=>rw [d] at c; cases c
  |true=>
   rw [d] at c
   rw [eAf] at d
   exact ⟨d.2,c⟩
 cases e:(bif zer r&&q then y4t std ti h s x else none) with
 |some a=>
  rw [e] at b
  cases b
  exact ⟨a, .inl (g _ e),rfl⟩
 |none=>
  rw [e] at b
  simp only at b
  cases f:z14 std ti h new q r s x with
  |none=>rw [f] at b; cases b
  |some a=>rw [f] at b; cases b; exact ⟨a, .inr rfl,rfl⟩
theorem y79 {S y:TypeId} {ti f:TI} (o:z7j P S ti) (g:z7j P y f) (d:∃ e z b a zs,f.desc= .slc e z b a zs) (t:z0b P ρ h w) {new:Nat} (v:ρ new=none) {q:Bool} {s x:AV} {vs l:Value}
  (p:z0q ρ (z0f ρ h) w s vs) (n:z0q ρ (z0f ρ h) w x l) {ty:TypeId} {res:Res} (u:∀ b,z3x std s x=some b→b=q) {r:List D} (he:z2s std ti h new q r s x=some res) (j:res.c=true):
  z0n P ρ h w new (eDj #[S,y] ty #[vs,l]) res:=by
 obtain ⟨m,i,rfl⟩:=z9t he
 rcases i with ⟨k,i⟩|i
 ·exact x4k (w8u o g d t v p n u k r i (x9f j)) j
 ·exact x4k (y2l o g d t v p n u i (x9f j)) j
theorem y52 {ti:TI} {s x:AV} {res:Res} (a:x52 std ti h s x=some res):∃ e z b i ez id j off len c f cs xs es,ti.desc= .slc e z b i ez∧(eAz 1 z&&eAz b 60000)=true∧s= .slice id j off len c∧z3d std z h x=some (f,xs)∧z3d std z h s=some (cs,es)∧
  res=⟨std.and f (std.and cs (std.leN (z7i std x) 0)),s,[]⟩:=by
 unfold x52 at a
 split at a
 ·rename_i e z b i ez l
  cases d:(eAz 1 z&&eAz b 60000) with
  |false=>rw [d] at a; cases a
  |true=>
  rw [d] at a
  simp only [cond_true] at a
  split at a
  ·rename_i y g
   split at a
   ·rename_i f xs k
    split at a
    ·rename_i cs es he
     cases a
     cases s<;>simp only [y6b] at g<;>try cases g
     exact ⟨_,_,_,_,_,_,_,_,_,_,_,_,_,_,l,d,rfl,k,he,rfl⟩
    ·cases a
   ·cases a
  ·cases a
 ·cases a
theorem w8v {S R:TypeId} {ti j:TI} (W:z7j P S ti) (B:z7j P R j) (q:∃ e z b a zs,j.desc= .slc e z b a zs) (J:z0b P ρ h w) {new:Nat} {s x:AV} {vs H:Value}
  (I:z0q ρ (z0f ρ h) w s vs) (V:z0q ρ (z0f ρ h) w x H) {ty:TypeId} {res:Res} (he:x52 std ti h s x=some res) (r:res.c=true):
  z0n P ρ h w new (eDj #[S,R] ty #[vs,H]) res:=by
 obtain ⟨e,z,eb,ea,ez,id,z0,off,len,c,cx,cs,xs,es,i,O,rfl,u,Z,rfl⟩:=y52 he
 simp only at r
 obtain ⟨h1,r⟩:=and_true r
 obtain ⟨h2,h3⟩:=and_true r
 have h0:z7i std x=0:=Nat.le_zero.1 (z2x h3)
 obtain ⟨d,hd,a1,M⟩:=W.desc
 obtain ⟨d2,p,_,o⟩:=B.desc
 obtain ⟨e2,z2,b2,a2,T,f⟩:=q
 rw [f] at o
 obtain ⟨rfl,_⟩:=o
 have hint:∀ k,TypeDesc.slice e2≠ .int k:=by intro k; simp
 rw [i] at M
 obtain ⟨rfl,U,a0,_,Y,N⟩:=M
 simp only [eAf] at O
 have t:0<z:=eAl O.1
 obtain ⟨ax,m,Q,G,rfl,hm,X,y,v,A⟩:=y0l (P:=P) J t V u h1
 rw [h0] at hm
 subst hm
 have E:G=[]:=by
  have K:=v.1
  rw [y] at K
  simpa using K
 subst E
 have C:∃ a n cap,vs= .slice a n cap∧n≤cap:=by
  cases I with
  |nils _ _ _ _ a F=>exact ⟨_,_,_,rfl,eBb _⟩
  |slice _ _ _ _ _ L a cap hL a4 a3 F g=>exact ⟨_,_,_,rfl,g⟩
 obtain ⟨a,n,cap,rfl,g⟩:=C
 have l:=z97 (P:=P) (w:=w) hd p hint U ty (a:=a) (A w rfl) g
 exact z0n.pure J l I
theorem y78 {S p:TypeId} {ti f:TI} (k:z7j P S ti) (g:z7j P p f) (d:∃ e z b a zs,f.desc= .slc e z b a zs) (m:z0b P ρ h w) {new:Nat} (u:ρ new=none) {q:Bool} {s x:AV} {vs i:Value}
  (l:z0q ρ (z0f ρ h) w s vs) (j:z0q ρ (z0f ρ h) w x i) {ty:TypeId} {res:Res} (t:∀ b,z3x std s x=some b→b=q) {r:List D} (he:z2r std ti h new q r s x=some res) (n:res.c=true):
  z0n P ρ h w new (eDj #[S,p] ty #[vs,i]) res:=by
 unfold z2r at he
 cases o:u2i r with
 |true=>rw [o] at he; exact w8v k g d m l j he n
 |false=>rw [o] at he; exact y79 k g d m u l j t he n
end
end Go.Am
end
section
namespace Go.Am
section
variable {P:Program} {T:TypeId→Option TI} {G:Nat→Option (List D)} {ρ:Rho} {h:List AO} {w:World}
def z7g (ρ:Rho) (O:Nat→Prop) (w:World) (env:List (Nat×AV)) (tm:Array Value):Prop:=∀ t,z0q ρ O w (z0z env t) (tm.getD t undef)
def opv (tm:Array Value):Operand→Value
 | .tmp t=>tm.getD t undef
 | .const v=>v
 | .global g=> .pointer (some ⟨g,0,none⟩)
 | .func f=> .func (.func f) #[] #[]
theorem z0l {O:Nat→Prop} {env:List (Nat×AV)} {tm:Array Value} (he:z7g ρ O w env tm) (x:Operand):z0q ρ O w (z0m env x) (opv tm x):=by
 cases x with
 |tmp t=>exact he t
 |const v=>
  simp only [z0m]
  split
  ·exact .d (x9q ‹_› O w)
  ·exact .bot _
 |global g=>exact .bot _
 |func f=>exact .clo _ _ _ #[] #[] rfl rfl (by simp) (by simp)
theorem z7b {O:Nat→Prop} {env:List (Nat×AV)} {tm:Array Value} (he:z7g ρ O w env tm) (l:Array Operand):
  (l.map (opv tm)).size=(z06 env l.toList).length∧∀ (i:Nat) (x:AV),(z06 env l.toList)[i]?=some x→z0q ρ O w x ((l.map (opv tm)).getD i undef):=by
 rw [z27]
 refine ⟨by simp,fun i x a=>?_⟩
 have b:i<l.size:=by simpa using (eAe.1 a).1
 simp [b] at a
 subst a
 have:(l.map (opv tm)).getD i undef=opv tm l[i]:=by simp [eAq,b]
 rw [this]
 exact z0l he _
theorem x12 (env:List (Nat×AV)) (l:List (Nat×Operand)):y22 env l=l.map fun x=>(x.1,z0m env x.2):=by
 induction l with
 |nil=>rfl
 |cons x l a=>obtain ⟨i,x⟩:=x; simp [y22,a]
theorem x4q {O:Nat→Prop} {env:List (Nat×AV)} {tm:Array Value} (he:z7g ρ O w env tm) (l:Array (Nat×Operand)):y5n ρ O w (y22 env l.toList) (l.map fun x=>(x.1,opv tm x.2)).toList:=by
 rw [x12]
 refine ⟨by simp,fun k x y a b=>?_⟩
 have c:k<l.size:=by simpa using (eAe.1 a).1
 simp [c] at a b
 subst a; subst b
 exact ⟨rfl,z0l he _⟩
theorem y7h {O:Nat→Prop} {env:List (Nat×AV)} {tm:Array Value} (he:z7g ρ O w env tm) (x:Option Operand):y4q ρ O w (z9z env x) (x.map (opv tm)):=by
 cases x with
 |none=>trivial
 |some x=>exact z0l he x
def y3f (P:Program) (ρ:Rho) (h:List AO) (w:World) (new:Nat) (s:Sem Next) (r:Res):Prop:=
 ∃ v a ρ',(s.run P w= .ok (.value v) a∨(s.run P w= .ok .skip a∧v=undef))∧z0q ρ' (z0f ρ' (z08 h r.u)) a r.v v∧z0b P ρ' (z08 h r.u) a∧
  Ext (fun id=>id≠new) ρ h w ρ' (z08 h r.u) a∧(ρ'=ρ∨∃ o,(new,o)∈r.u)
theorem z0n.value {new:Nat} {s:Sem Value} {r:Res} (d:z0n P ρ h w new s r):y3f P ρ h w new (do Pure.pure (Next.value (←s))) r:=by
 obtain ⟨v,a,ρ',b,c⟩:=d
 exact ⟨v,a,ρ', .inl (by simp [b]),c⟩
theorem z0n.skip {new:Nat} {s:Sem Unit} {r:Res} (d:z0n P ρ h w new (z5g s) r):y3f P ρ h w new (do s; Pure.pure Next.skip) r:=by
 obtain ⟨v,e,ρ',a,c⟩:=d
 unfold z5g at a
 simp only [eAw] at a
 cases b:s.run P w with
 |ok u w1=>
  rw [b] at a; simp at a
  obtain ⟨rfl,rfl⟩:=a
  exact ⟨_,_,ρ', .inr ⟨by simp [b],rfl⟩,c⟩
 |halt x w1=>rw [b] at a; simp at a
theorem w1b {v:AV} {r:Res} (h:ok v=some r):r=⟨true,v,[]⟩:=by unfold ok at h; cases h; rfl
theorem x6k (i:Operand):pOf std i=std:=by cases i<;>rfl
theorem y5t {O:Nat→Prop} {x:AV} {v:Value} (h:z0q ρ O w x v):z0q ρ O w (z93 x) v:=by
 unfold z93
 split
 ·cases h with
  |d h=>cases h with
   |ref r b o a hO cell c e=>
    have:=z0q.lptr (ρ:=ρ) (O:=O) (w:=w) _ 0 b o (y19 (c 0 (List.length_pos_iff.2 a))) hO cell c e
    exact this
 ·exact h
theorem v0f {ti:TI} {O:Nat→Prop} {x:AV} {v:Value} (h:z0q ρ O w x v):z0q ρ O w (v0g ti x) v:=by
 unfold v0g
 split
 ·rename_i f z es
  split
  ·cases g:eAk z 0 with
   |false=>exact h
   |true=>
    simp only [cond_true]
    split
    ·cases h with
     |d h=>cases h with
      |lnil _ _ a c e=>exact .d (.lnil _ _ a c e)
      |list _ _ _ _ _ _ _ b=>exact absurd rfl b
    ·exact h
  ·exact h
 ·exact h
theorem x0q {ti:TI} (a:AV):z4x h (v0g ti a)=z4x h a:=by
 cases a with
 |d x=>
  cases x with
  |list f z es=>
   simp only [v0g]
   cases c:ti.desc with
   |slc e b g i ez=>
    simp only []
    cases eAk z 0<;>cases es<;>rfl
   |_=>rfl
  |_=>rfl
 |_=>rfl
def GOk (P:Program) (G:Nat→Option (List D)):Prop:=∀ (g:Nat) (cells:List D),G g=some cells→y12 P g=some cells
theorem z9l (G:Nat→Option (List D)) (env:List (Nat×AV)) (x:Operand):z6t G env x=z0m env x∨∃ cells,z6t G env x= .lptr cells 0:=by
 cases x with
 |global g=>
  simp only [z6t]
  cases G g with
  |none=>exact .inl rfl
  |some cells=>exact .inr ⟨cells,rfl⟩
 |_=>exact .inl rfl
theorem y7i (m:GOk P G) (i:z0b P ρ h w) {env:List (Nat×AV)} {tm:Array Value} (he:z7g ρ (z0f ρ h) w env tm) (x:Operand):z0q ρ (z0f ρ h) w (z6t G env x) (opv tm x):=by
 cases x with
 |global g=>
  simp only [z6t]
  cases hg:G g with
  |none=>exact .bot _
  |some cells=>
   obtain ⟨a,b,_,c⟩:=i.gl.lay g cells (m g cells hg)
   refine .lptr cells 0 g 0 a b (fun k=>(w.cell? ⟨g,k,none⟩).getD undef) (fun k j=>?_) (fun k x e=>?_)
   ·obtain ⟨v,d,_⟩:=c k _ (eAd j)
    rw [eAy,d]; rfl
   ·obtain ⟨v,d,l⟩:=c k x e
    rw [d]; exact l _ _
 |tmp t=>exact z0l he (.tmp t)
 |const v=>exact z0l he (.const v)
 |func f=>exact z0l he (.func f)
theorem x76 (hT : y1d P T) (hG : GOk P G) (hr : z0b P ρ h w) {new : Nat} (hn : ρ new = none) {env : List (Nat × AV)} {tm : Array Value} (he : z7g ρ (z0f ρ h) w env tm) {q : Bool} {r : List D} {ra : List AV} {o : Oper} {res : Res}
    (hw : (z1b std T env h o.op).ok q r ra) (hs : z0t std T G env h new q r ra o.op = some res) (hc : res.c = true) : y3f P ρ h w new (execOp (opv tm) o) res := by
  have rows : ∀ n a, (z6h h n a).ok q r ra → x5n h a r ra := by
    intro n a ha
    cases a <;> try trivial
    · rename_i id off
      simp only [z6h] at ha
      simp only [x5n]
      intro es he
      rw [he] at ha; exact ha
    · rename_i id i off
      simp only [z6h] at ha
      simp only [x5n]
      refine ⟨fun es he => ?_, fun es he => ?_⟩
      · rw [he] at ha; exact ha
      · rw [he] at ha; exact ha
  unfold z0t at hs
  cases hop : o.op with
  | move x =>
    rw [hop] at hs; cases w1b hs
    exact ⟨_, w, ρ, .inl (by simp [execOp, hop]), z0l he x, hr, Ext.refl _ _ _ _, .inl rfl⟩
  | assign x =>
    rw [hop] at hs; cases w1b hs
    exact ⟨_, w, ρ, .inl (by simp [execOp, hop]), z0l he x, hr, Ext.refl _ _ _ _, .inl rfl⟩
  | pick c a b =>
    rw [hop] at hs; simp only at hs
    have h1 := z0l he c
    unfold x0y at hs
    split at hs
    · rename_i hcv; rw [hcv] at h1; cases w1b hs
      generalize hv : opv tm c = v at h1
      cases h1 with | d h1 =>
      cases h1
      exact ⟨_, w, ρ, .inl (by simp [execOp, hop, hv, asBool]), z0l he a, hr, Ext.refl _ _ _ _, .inl rfl⟩
    · rename_i hcv; rw [hcv] at h1; cases w1b hs
      generalize hv : opv tm c = v at h1
      cases h1 with | d h1 =>
      cases h1
      exact ⟨_, w, ρ, .inl (by simp [execOp, hop, hv, asBool]), z0l he b, hr, Ext.refl _ _ _ _, .inl rfl⟩
    · cases hs
  | alloc t =>
    rw [hop] at hs; simp only at hs
    split at hs
    · have := (x3a (hT _ _ ‹_›) hr hn hs).value
      simpa [execOp, hop] using this
    · cases hs
  | box t x =>
    rw [hop] at hs; simp only at hs
    split at hs
    · have := (w0v (hT _ _ ‹_›) hr hn (z0l he x) hs).value
      simpa [execOp, hop] using this
    · cases hs
  | build t ps =>
    rw [hop] at hs; simp only at hs
    split at hs
    · have := (x27 (new := new) (hT _ _ ‹_›) hr (x4q he ps) hs).value
      simpa [execOp, hop] using this
    · cases hs
  | buildSlice t len ps =>
    rw [hop] at hs; simp only at hs
    split at hs
    · have := (y3l (hT _ _ ‹_›) hr hn (x4q he ps) hs).value
      simpa [execOp, hop] using this
    · cases hs
  | load t a =>
    rw [hop] at hs hw; simp only [z1b] at hs hw
    split at hs
    · have := (x53 (hT _ _ ‹_›) hr (y5t (y7i hG hr he a)) (by rcases z9l G env a with e | ⟨c, e⟩ <;> rw [e]; exact rows _ _ hw; exact trivial) hs new).value
      simpa [execOp, hop] using this
    · cases hs
  | store t a x =>
    rw [hop] at hs hw; simp only [z1b] at hs hw
    split at hs
    · have := (x20 (hT _ _ ‹_›) std rfl hr (z0l he a) (z0l he x) (rows _ _ hw) hs hc new).skip
      simpa [execOp, hop] using this
    · cases hs
  | nilCheck x =>
    rw [hop] at hs; simp only at hs
    have h1 := y5t (z0l he x)
    unfold x50 at hs
    split at hs <;> (try (cases hs; done)) <;> rename_i hx <;> rw [hx] at h1 <;> cases w1b hs <;> generalize hv : opv tm x = v at h1
    · have h2 := h1
      cases h1 with | bptr _ _ L hL => exact ⟨_, w, ρ, .inl (by simp [execOp, hop, hv]), h2, hr, Ext.refl _ _ _ _, .inl rfl⟩
    · have h2 := h1
      cases h1 with | ptr _ _ _ L hL => exact ⟨_, w, ρ, .inl (by simp [execOp, hop, hv]), h2, hr, Ext.refl _ _ _ _, .inl rfl⟩
    · have h2 := h1
      cases h1 with | wptr _ _ b o z hlt hO hz hcc => exact ⟨_, w, ρ, .inl (by simp [execOp, hop, hv]), h2, hr, Ext.refl _ _ _ _, .inl rfl⟩
    · have h2 := h1
      cases h1 with | lptr _ _ b o hlt hO cell hcc hrr => exact ⟨_, w, ρ, .inl (by simp [execOp, hop, hv]), h2, hr, Ext.refl _ _ _ _, .inl rfl⟩
  | binOp op t x y t2 =>
    rw [hop] at hs; simp only at hs
    split at hs
    · cases hn : u0v y with
      | true =>
        rw [hn] at hs
        have hy := v52 hn
        have := (x0z (new := new) (hT _ _ ‹_›) hr x y (z0l he x) hs hc).value
        have hyv : opv tm y = .slice none 0 0 := by rw [hy]; rfl
        rw [← hyv] at this
        simpa [execOp, hop] using this
      | false =>
        rw [hn] at hs
        simp only [cond_false] at hs
        cases hi : u0u y with
        | true =>
        rw [hi] at hs
        have hy := v50 hi
        have := (x5z (new := new) (hT _ _ ‹_›) hr x (z0l he x) hs).value
        have hyv : opv tm (.const .nilIface) = .nilIface := rfl
        subst hy
        simpa [execOp, hop, hyv] using this
        | false =>
        rw [hi] at hs
        have := (w0w (new := new) (hT _ _ ‹_›) hr x y (z0l he x) (z0l he y) hs hc).value
        simpa [execOp, hop] using this
    · cases hs
  | unOp op t x =>
    rw [hop] at hs; simp only at hs
    have := (w3h (P := P) (new := new) hr (z0l he x) hs).value
    simpa [execOp, hop] using this
  | convert s t x =>
    rw [hop] at hs; simp only at hs
    split at hs
    · split at hs
      · rename_i res' hres
        cases hs
        have := (y77 (new := new) (hT _ _ ‹_›) (hT _ _ ‹_›) hr (z0l he x) hres).value
        simpa [execOp, hop] using this
      · have := (x26 (new := new) hT (hT _ _ ‹_›) (hT _ _ ‹_›) hr (z0l he x) hs hc).value
        simpa [execOp, hop] using this
    · cases hs
  | makeFunc fn f c =>
    rw [hop] at hs; cases w1b hs
    obtain ⟨f1, f2⟩ := z7b he f
    obtain ⟨c1, c2⟩ := z7b he c
    exact ⟨_, w, ρ, .inl (by simp [execOp, hop, Instr.makeFunc]), .clo _ _ _ _ _ f1 c1 f2 c2, hr, Ext.refl _ _ _ _, .inl rfl⟩
  | makeSlice t l c =>
    rw [hop] at hs; simp only at hs
    split at hs
    · have := (y4v (hT _ _ ‹_›) hr hn (z0l he l) (z0l he c) hs hc).value
      simpa [execOp, hop] using this
    · cases hs
  | slice t x lo hi mx =>
    rw [hop] at hs hw; simp only [z1b] at hs hw
    have hw : (z4x h (z0m env x)).ok false r ra := by
      generalize z0m env x = a at hw
      unfold z4x at hw ⊢
      split
      · split
        · rename_i hob; simp only [hob] at hw; exact hw
        · trivial
      · trivial
    split at hs
    · rename_i ti _
      have hw : (z4x h (v0g ti (z0m env x))).ok false r ra := by
        rw [x0q]; exact hw
      have := (x21 (new := new) (hT _ _ ‹_›) hr (v0f (z0l he x)) (y7h he lo) (y7h he hi) (y7h he mx) (ra := ra) hw hs hc).value
      simpa [execOp, hop] using this
    · cases hs
  | fieldAddr t x f =>
    rw [hop] at hs; simp only at hs
    split at hs
    · have := (x22 (new := new) (hT _ _ ‹_›) hr (y5t (y7i hG hr he x)) hs).value
      simpa [execOp, hop] using this
    · cases hs
  | field t x f =>
    rw [hop] at hs; simp only at hs
    split at hs
    · have := (y55 (new := new) (hT _ _ ‹_›) hr (z0l he x) hs).value
      simpa [execOp, hop] using this
    · cases hs
  | indexAddr t x i =>
    rw [hop] at hs hw; simp only [z1b, x6k] at hs hw
    split at hs
    · have := (y4w (new := new) (hT _ _ ‹_›) hr (y7i hG hr he x) (z0l he i) (fun full z es k n e1 e2 => by rcases z9l G env x with e | ⟨c, e⟩ <;> rw [e] at e1; rw [e1, e2] at hw; exact hw; cases e1) hs hc).value
      simpa [execOp, hop] using this
    · cases hs
  | index t x i =>
    rw [hop] at hs; simp only [x6k] at hs
    split at hs
    · have := (y54 (new := new) (hT _ _ ‹_›) hr (z0l he x) (z0l he i) hs hc).value
      simpa [execOp, hop] using this
    · cases hs
  | extract x i =>
    rw [hop] at hs; simp only at hs
    have h1 := z0l he x
    unfold y1q at hs
    split at hs
    · rename_i vs hx
      rw [hx] at h1
      obtain ⟨y, hy, rfl⟩ := z3r hs
      rw [z1v] at hy
      generalize hv : opv tm x = v at h1
      cases h1 with
      | tuple _ vv hl hh =>
        have hi : i < vv.size := by rw [hl]; exact (eAe.1 hy).1
        have h2 := hh i y hy
        rw [z9h (eBg hi)] at h2
        exact ⟨_, w, ρ, .inl (by simp [execOp, hop, hv, Instr.extract, hi]), h2, hr, Ext.refl _ _ _ _, .inl rfl⟩
    · cases hs
  | call c =>
    obtain ⟨callee, args, ts⟩ := c
    cases callee <;> rw [hop] at hs <;> (try (cases hs; done))
    rename_i b
    simp only at hs
    obtain ⟨a1, a2⟩ := z7b he args
    have exec : ∀ (s : Sem Value), (∀ cs, builtin b ts o.type cs (args.map (opv tm)) = (do pure (Next.value (← s)))) → execOp (opv tm) o = (do pure (Next.value (← s))) := by
      intro s hsb
      simp [execOp, hop, resolve, invoke, hsb]
    have arg : ∀ (i : Nat) (x : AV) (hi : i < args.size), (z06 env args.toList)[i]? = some x → z0q ρ (z0f ρ h) w x (opv tm args[i]) := by
      intro i x hi hx
      have := a2 i x hx
      rwa [show (args.map (opv tm)).getD i undef = opv tm args[i] by simp [eAq, hi]] at this
    unfold z1q at hs
    split at hs
    ·
      rename_i t x e2 e3
      split at hs
      · rename_i ti hti
        have hsz : args.size = 1 := by have := congrArg List.length e3; rw [z27] at this; simpa using this
        have hx := arg 0 x (by omega) (by rw [e3]; rfl)
        have hts : ts = #[t] := by apply Array.ext'; rw [e2]
        have hav : args.map (opv tm) = #[opv tm args[0]] := by
          apply Array.ext'
          apply eCj
          intro i
          cases i with
          | zero => simp [hsz]
          | succ i => simp; omega
        rw [exec (eGl ts o.type (args.map (opv tm))) (fun cs => rfl)]
        have := v6n (hT _ _ hti) hr (new := new) (ty := o.type) hx hs
        rw [hts, hav]
        exact this.value
      · cases hs
    ·
      rename_i t t2 s x e2 e3
      split at hs
      · rename_i ti ti2 hti hti2
        split at hs
        · rename_i e z eb ea ez hdesc
          have hsz : args.size = 2 := by have := congrArg List.length e3; rw [z27] at this; simpa using this
          have hx := arg 0 s (by omega) (by rw [e3]; rfl)
          have hy := arg 1 x (by omega) (by rw [e3]; rfl)
          have hts : ts = #[t, t2] := by apply Array.ext'; rw [e2]
          have hav : args.map (opv tm) = #[opv tm args[0], opv tm args[1]] := by
            apply Array.ext'
            apply eCj
            intro i
            match i with
            | 0 => simp [hsz]
            | 1 => simp [hsz]
            | i + 2 => simp; omega
          rw [exec (eDj ts o.type (args.map (opv tm))) (fun cs => rfl)]
          rw [hop] at hw
          simp only [z1b] at hw
          rw [e3] at hw
          simp only at hw
          have := y78 (hT _ _ hti) (hT _ _ hti2) ⟨_, _, _, _, _, hdesc⟩ hr hn hx hy (ty := o.type) (q := q) (fun b hb => by rw [hb] at hw; exact hw) hs hc
          rw [hts, hav]
          exact this.value
        · cases hs
      · cases hs
    ·
      rename_i t tl d x e2 e3
      split at hs
      · rename_i ti hti
        have hsz : args.size = 2 := by have := congrArg List.length e3; rw [z27] at this; simpa using this
        have hx := arg 0 d (by omega) (by rw [e3]; rfl)
        have hy := arg 1 x (by omega) (by rw [e3]; rfl)
        have hav : args.map (opv tm) = #[opv tm args[0], opv tm args[1]] := by
          apply Array.ext'
          apply eCj
          intro i
          match i with
          | 0 => simp [hsz]
          | 1 => simp [hsz]
          | i + 2 => simp; omega
        rw [exec (eFu ts o.type (args.map (opv tm))) (fun cs => rfl)]
        have hts : ts[0]? = some t := by rw [← eAt, e2]; rfl
        have := x54 (hT _ _ hti) hr (new := new) (ty := o.type) hx hy hts hs hc
        rw [hav]
        exact this.value
      · cases hs
    ·
      rename_i t tl m k e2 e3
      split at hs
      · rename_i ti hti
        have hsz : args.size = 2 := by have := congrArg List.length e3; rw [z27] at this; simpa using this
        have hx := arg 0 m (by omega) (by rw [e3]; rfl)
        have hy := arg 1 k (by omega) (by rw [e3]; rfl)
        have hav : args.map (opv tm) = #[opv tm args[0], opv tm args[1]] := by
          apply Array.ext'
          apply eCj
          intro i
          match i with
          | 0 => simp [hsz]
          | 1 => simp [hsz]
          | i + 2 => simp; omega
        rw [exec (Builtin.delete_ ts o.type (args.map (opv tm))) (fun cs => rfl)]
        have hts : ts[0]? = some t := by rw [← eAt, e2]; rfl
        rw [hop] at hw
        simp only [z1b, e2, e3, y2f, hti] at hw
        have := x00 (hT _ _ hti) hr (new := new) (ty := o.type) hx hy hw hts hs
        rw [hav]
        exact this.value
      · cases hs
    ·
      rename_i t tl d e2 e3
      split at hs
      · rename_i ti hti
        have hsz : args.size = 1 := by have := congrArg List.length e3; rw [z27] at this; simpa using this
        have hx := arg 0 d (by omega) (by rw [e3]; rfl)
        have hav : args.map (opv tm) = #[opv tm args[0]] := by
          apply Array.ext'
          apply eCj
          intro i
          match i with
          | 0 => simp [hsz]
          | i + 1 => simp; omega
        rw [exec (eFp ts o.type (args.map (opv tm))) (fun cs => rfl)]
        have hts : ts[0]? = some t := by rw [← eAt, e2]; rfl
        have := x24 (hT _ _ hti) hr (new := new) (ty := o.type) hx hts hs hc
        rw [hav]
        exact this.value
      · cases hs
    ·
      rw [exec (Builtin.min_ ts o.type (args.map (opv tm))) (fun cs => rfl)]
      have := y81 (P := P) (new := new) hr (.inl rfl) (vs := (args.map (opv tm)).toList) (by rw [eCg]; exact a1) (fun i x v hx hv => by
        have h1 := a2 i x hx
        have h2 : (args.map (opv tm))[i]? = some v := by simpa using hv
        rwa [z9h h2] at h1) (a := ts) (t := o.type) hs
      rw [Array.toArray_toList, if_pos rfl] at this
      exact this.value
    ·
      rw [exec (Builtin.max_ ts o.type (args.map (opv tm))) (fun cs => rfl)]
      have := y81 (P := P) (new := new) hr (.inr rfl) (vs := (args.map (opv tm)).toList) (by rw [eCg]; exact a1) (fun i x v hx hv => by
        have h1 := a2 i x hx
        have h2 : (args.map (opv tm))[i]? = some v := by simpa using hv
        rwa [z9h h2] at h1) (a := ts) (t := o.type) hs
      rw [Array.toArray_toList, if_neg (by decide)] at this
      exact this.value
    · cases hs
  | makeMap t n =>
    rw [hop] at hs; simp only at hs
    split at hs
    · have := (y74 (P := P) (T := t) (new := new) hr hn (x := z9z env n) (v := n.map (opv tm)) (fun h => by cases n <;> simp [z9z] at h ⊢) hs).value
      simpa [execOp, hop] using this
    · cases hs
  | lookup t m k co =>
    rw [hop] at hs hw; simp only [z1b] at hs hw
    split at hs
    · rename_i ti hti
      split at hs
      · simp only [y2f, hti] at hw
        have := (z86 (hT _ _ hti) (new := new) hr (z0l he m) (z0l he k) hw hs).value
        simpa [execOp, hop] using this
      · cases hs
    · cases hs
  | mapUpdate t m k x =>
    rw [hop] at hs hw; simp only [z1b] at hs hw
    split at hs
    · rename_i ti hti
      simp only [y2f, hti] at hw
      have := (x0x (hT _ _ hti) (new := new) hr (z0l he m) (z0l he k) (z0l he x) hw hs).skip
      simpa [execOp, hop] using this
    · cases hs
  | _ => rw [hop] at hs; cases hs
end
end Go.Am
end
section
namespace Go.Am
structure AS where
 env:List (Nat×AV)
 heap:List AO
 nt:Nat
inductive AX where
 |normal
 |exit (id:Nat)
 |ret
def Dom (ρ:Rho) (h:List AO):Prop:=∀ id,ρ id≠none→id<h.length
structure z2c (P:Program) (ρ:Rho) (s:AS) (tm:Array Value) (w:World):Prop where
 heap:z0b P ρ s.heap w
 env:z7g ρ (z0f ρ s.heap) w s.env tm
 size:tm.size=s.nt
 dom:Dom ρ s.heap
structure z4m (rd:Option Nat) (B:Nat) (F:Nat→Prop) (w:World) (ds:List Deferred):Prop where
 nodup:ds.Nodup
 mark:∀ d∈ds,∃ r,d={ target:= .collected r,args:=#[] }∧w.heap[r]?=some (.deferred (some []))∧B≤r
 below:∀ b,F b→b<B
 le:B≤w.heap.size
 round:∀ l,rd=some l→F l∧∃ r,w.heap[l]?=some (.loop r)
theorem x8m {P:Program} {ρ:Rho} {h:List AO} {w:World} (i:z0b P ρ h w) {b:Nat} (j:¬ ρ.fr b) (f:z0f ρ h b):w.heap[b]?≠some (.deferred (some [])):=by
 rcases f with f|⟨id,L,k,g,rfl⟩
 ·exact absurd f j
 obtain ⟨_,a⟩:=i.obj id L k
 cases e:z0e h id with
 |dead=>rw [e] at g; cases g
 |box _=>rw [e] at a; obtain ⟨_,c,t,d,_⟩:=a; rw [d]; simp
 |row _=>rw [e] at a; obtain ⟨_,c,t,d,_⟩:=a; rw [d]; simp
 |arow _=>rw [e] at a; obtain ⟨_,c,t,d,_⟩:=a; rw [d]; simp
 |map _=>rw [e] at a; obtain ⟨c,t,d,_⟩:=a; rw [d]; simp
 |loop=>rw [e] at a; obtain ⟨_,_,_,_,_,c,t,_,d,_⟩:=a; rw [d]; simp
theorem z4m.keep {P:Program} {S:Nat→Prop} {ρ ρ':Rho} {h h':List AO} {w w':World} {rd:Option Nat} {B:Nat} {ds:List Deferred} (g:z0b P ρ h w) (x:Ext S ρ h w ρ' h' w') (b:z4m rd B ρ.fr w ds):z4m rd B ρ'.fr w' ds:=by
 refine ⟨b.nodup,fun d hm=>?_,by rw [x.fr]; exact b.below,eCt b.le x.keep.size,fun l j=>by
  obtain ⟨f,r,m⟩:=b.round l j
  exact ⟨by rw [x.fr]; exact f,r,by rw [x.frs l f]; exact m⟩⟩
 obtain ⟨r,e,a,k⟩:=b.mark d hm
 have c:¬ ρ.fr r:=fun c=>by have:=b.below r c; omega
 refine ⟨r,e,?_,k⟩
 rw [x.keep.frame r (eAi.1 a).1 (fun i=>x8m g c i a)]
 exact a
def _root_.Go.Frame.on (b:Frame) (tm:Array Value) (ds:List Deferred) (todo:List Item):Frame:={ b with tmps:=tm,defers:=ds,todo:=todo,mode:= .run }
theorem x7b (b:Frame) (tm:Array Value) (ds:List Deferred) (a:List Item):(b.on tm ds a).eval=opv tm:=by
 funext x; cases x<;>rfl
section steps
variable {P:Program} {b:Frame} {tm:Array Value} {ds:List Deferred} {k:List Item} {cs:List Frame} {w:World}
theorem v5e:step P (lone (b.on tm ds (.code .skip::k)) cs w)= .next (lone (b.on tm ds k) cs w):=step_lone_go (by simp [stepG,stepG.exec,Frame.on])
theorem w80 {l:Nat}:step P (lone (b.on tm ds (.code (.label l)::k)) cs w)= .next (lone (b.on tm ds k) cs w):=step_lone_go (by simp [stepG,stepG.exec,Frame.on])
theorem w00 {id:Nat}:step P (lone (b.on tm ds (.inBlock id::k)) cs w)= .next (lone (b.on tm ds k) cs w):=step_lone_go (by simp [stepG,stepG.exec,Frame.on])
theorem w0z {c:Code}:step P (lone (b.on tm ds (.inScope c::k)) cs w)= .next (lone (b.on tm ds k) cs w):=step_lone_go (by simp [stepG,stepG.exec,Frame.on])
theorem w3l {x y:Code}:step P (lone (b.on tm ds (.code (.seq x y)::k)) cs w)= .next (lone (b.on tm ds (.code x:: .code y::k)) cs w):=step_lone_go (by simp [stepG,stepG.exec,Frame.on])
theorem v5g {c:Operand} {x y:Code} {t:Bool} (h:opv tm c= .bool t):step P (lone (b.on tm ds (.code (.cond c x y)::k)) cs w)= .next (lone (b.on tm ds (.code (if t then x else y)::k)) cs w):=
 step_lone_go (by
  have:=x7b b tm ds (.code (.cond c x y)::k)
  simp only [Frame.on] at this
  simp [stepG,stepG.exec,Frame.on,this,h])
theorem y49 {id:Nat} {c:Code}:step P (lone (b.on tm ds (.code (.block id c)::k)) cs w)= .next (lone (b.on tm ds (.code c:: .inBlock id::k)) cs w):=step_lone_go (by simp [stepG,stepG.exec,Frame.on])
theorem x08 {c:Code}:step P (lone (b.on tm ds (.code (.scope c)::k)) cs w)= .next (lone (b.on tm ds (.code c:: .inScope c::k)) cs w):=step_lone_go (by simp [stepG,stepG.exec,Frame.on])
theorem y1t {c:Code}:step P (lone (b.on tm ds (.code (.loop c)::k)) cs w)= .next (lone (b.on tm ds (.code c:: .inLoop c::k)) cs w):=step_lone_go (by simp [stepG,stepG.exec,Frame.on])
theorem x3e {c:Code}:step P (lone (b.on tm ds (.inLoop c::k)) cs w)= .next (lone (b.on tm ds (.code c:: .inLoop c::k)) cs w):=step_lone_go (by simp [stepG,stepG.exec,Frame.on])
theorem v5f {id:Nat} {a:List Item} (h:exitTo id k=some a):step P (lone (b.on tm ds (.code (.exit id)::k)) cs w)= .next (lone (b.on tm ds a) cs w):=step_lone_go (by simp [stepG,stepG.exec,Frame.on,h])
theorem w3m {id:Nat} {ops:Array Oper}:step P (lone (b.on tm ds (.code (.region id ops false)::k)) cs w)= .next (lone (b.on tm ds (.inRegion ops (eAv ops.size)::k)) cs w):=step_lone_go (by simp [stepG,stepG.exec,Frame.on])
theorem z71 {id:Nat} {ops:Array Oper}:step P (lone (b.on tm ds (.code (.region id ops true)::k)) cs w)=
  .next (lone (b.on tm ds (.inRegion ops (Region.schedule (P.follows .mixedOrders) ops (w.tape w.drawn (.order b.fn id)))::k)) cs { w with drawn:=w.drawn+1 }):=
 step_lone_go (by simp [stepG,stepG.exec,Frame.on,choose,Sem.run,Question.forced,Question.cut])
theorem z89 {ops:Array Oper}:step P (lone (b.on tm ds (.inRegion ops []::k)) cs w)= .next (lone (b.on tm ds k) cs w):=step_lone_go (by simp [stepG,stepG.exec,Frame.on])
theorem v92 (a:b.roundOf=none):step P (lone (b.on tm ds (.code .ret::k)) cs w)= .next (lone { b.on tm ds (.code .ret::k) with mode:= .returning } cs w):=step_lone_go (by simp [stepG,stepG.exec,Frame.on,a])
theorem v93 (a:b.roundOf=none):step P (lone (b.on tm ds []) cs w)= .next (lone { b.on tm ds [] with mode:= .returning } cs w):=step_lone_go (by simp [stepG,stepG.exec,Frame.on,a])
def y3s (tm:Array Value) (dst:Option Tmp) (v:Value):Array Value:=
 match dst with
 |some d=>tm.setIfInBounds d v
 |none=>tm
theorem z8x {ops:Array Oper} {i:Nat} {rest:List Nat} {o:Oper} (a:ops[i]?=some o) (v:Value):
  (b.on tm ds (.inRegion ops (i::rest)::k)).finish v=b.on (y3s tm o.dst v) ds (.inRegion ops rest::k):=by
 unfold Frame.finish Frame.on y3s
 simp [a]
 cases o.dst<;>rfl
theorem y82 {ops:Array Oper} {i:Nat} {rest:List Nat} {o:Oper} (a:ops[i]?=some o) (c:Region.wanted o (yielded ops tm)=false):
  step P (lone (b.on tm ds (.inRegion ops (i::rest)::k)) cs w)= .next (lone (b.on (y3s tm o.dst undef) ds (.inRegion ops rest::k)) cs w):=by
 rw [←z8x a]
 exact step_lone_go (by
  simp only [Frame.on] at*
  simp [stepG,stepG.exec,a,c])
theorem w3n {ops:Array Oper} {i:Nat} {rest:List Nat} {o:Oper} (d:ops[i]?=some o) (a:Region.wanted o (yielded ops tm)=true) (e:∀ c,o.op≠ .defer c):
  stepG P true { frame:=b.on tm ds (.inRegion ops (i::rest)::k),callers:=cs,status:= .running,dying:=none } w=
   stepG.apply P true (b.on tm ds (.inRegion ops (i::rest)::k)) cs none (execOp (opv tm) o) w:=by
 have he:=x7b b tm ds (.inRegion ops (i::rest)::k)
 simp only [Frame.on] at he
 have:∀ (x:Option Nat),(match x,o.op with
   |some l, .defer c=>stepG.apply P true (b.on tm ds (.inRegion ops (i::rest)::k)) cs none (do Instr.deferInRound l (←resolve (opv tm) c o.type); pure .skip) w
   |_,_=>stepG.apply P true (b.on tm ds (.inRegion ops (i::rest)::k)) cs none (execOp (opv tm) o) w)=stepG.apply P true (b.on tm ds (.inRegion ops (i::rest)::k)) cs none (execOp (opv tm) o) w:=by
  intro x
  split
  ·exact absurd ‹_› (e _)
  ·rfl
 simp only [Frame.on] at this
 simp [stepG,stepG.exec,stepG.oper,Frame.oper?,Frame.on,d,a,he]
 exact this b.roundOf
theorem y1r {ops:Array Oper} {i:Nat} {rest:List Nat} {o:Oper} (d:ops[i]?=some o) (e:Region.wanted o (yielded ops tm)=true) (f:∀ c,o.op≠ .defer c) {v:Value} {w':World}
  (a:(execOp (opv tm) o).run P w= .ok (.value v) w'∨((execOp (opv tm) o).run P w= .ok .skip w'∧v=undef)):
  step P (lone (b.on tm ds (.inRegion ops (i::rest)::k)) cs w)= .next (lone (b.on (y3s tm o.dst v) ds (.inRegion ops rest::k)) cs w'):=by
 rw [←z8x d]
 refine step_lone_go ?_
 rw [w3n d e f]
 rcases a with a|⟨a,rfl⟩
 ·simp [stepG.apply,a]
 ·simp [stepG.apply,a]
theorem y1s {ops:Array Oper} {i:Nat} {rest:List Nat} {o:Oper} (e:ops[i]?=some o) (a:Region.wanted o (yielded ops tm)=true) (g:∀ c,o.op≠ .defer c) {f:FuncId} {args:Array Value} {w':World}
  (d:(execOp (opv tm) o).run P w= .ok (.enter f args) w'):
  step P (lone (b.on tm ds (.inRegion ops (i::rest)::k)) cs w)= .next (lone (eFr P f args .normal) (b.on tm ds (.inRegion ops (i::rest)::k)::cs) w'):=by
 refine step_lone_go ?_
 rw [w3n e a g]
 simp [stepG.apply,d,Frame.on]
end steps
def Arr (P:Program) (b:Frame) (cs:List Frame) (m:Machine) (k:List Item):AX→Array Value→List Deferred→World→Prop
 | .normal,tm,ds,w=>Steps P m (lone (b.on tm ds k) cs w)
 | .exit id,tm,ds,w=>∃ a,exitTo id a=exitTo id k∧Steps P m (lone (b.on tm ds (.code (.exit id)::a)) cs w)
 | .ret,tm,ds,w=>∃ a,Steps P m (lone (b.on tm ds (.code .ret::a)) cs w)
theorem Arr.of_steps {P:Program} {b:Frame} {cs:List Frame} {m d:Machine} {k:List Item} {e:AX} {tm:Array Value} {ds:List Deferred} {w:World} (h:Steps P m d) (h':Arr P b cs d k e tm ds w):Arr P b cs m k e tm ds w:=by
 cases e with
 |normal=>exact h.trans h'
 |exit id=>obtain ⟨a,e,c⟩:=h'; exact ⟨a,e,h.trans c⟩
 |ret=>obtain ⟨a,c⟩:=h'; exact ⟨a,h.trans c⟩
structure z5p (P:Program) (n:Nat) (c:Code) (s:AS) (Q:AX→AS→Prop):Prop where
 run:∀ (b:Frame) (k:List Item) (cs:List Frame) (ρ:Rho) (tm:Array Value) (ds:List Deferred) (w:World) (B:Nat),z2c P ρ s tm w→z4m b.roundOf B ρ.fr w ds→
  ∃ e s' ρ' tm' ds' w',Q e s'∧z2c P ρ' s' tm' w'∧z4m b.roundOf B ρ'.fr w' ds'∧s'.nt=s.nt∧Ext (· <n) ρ s.heap w ρ' s'.heap w'∧Arr P b cs (lone (b.on tm ds (.code c::k)) cs w) k e tm' ds' w'
section rules
variable {P:Program} {n:Nat} {s:AS} {Q:AX→AS→Prop}
theorem z5p.mono {c:Code} {f:AX→AS→Prop} (h:z5p P n c s Q) (j:∀ e s,Q e s→f e s):z5p P n c s f:=
 ⟨fun b k cs ρ tm ds w B m l=>let ⟨e,i,ρ',a,d,g,q,r⟩:=h.run b k cs ρ tm ds w B m l; ⟨e,i,ρ',a,d,g,j _ _ q,r⟩⟩
theorem x44 (h:Q .normal s):z5p P n .skip s Q:=
 ⟨fun b k cs ρ tm ds w B c a=>⟨.normal,s,ρ,tm,ds,w,h,c,a,rfl,Ext.refl _ _ _ _, .one v5e⟩⟩
theorem w11 {l:Nat} (h:Q .normal s):z5p P n (.label l) s Q:=
 ⟨fun b k cs ρ tm ds w B c a=>⟨.normal,s,ρ,tm,ds,w,h,c,a,rfl,Ext.refl _ _ _ _, .one w80⟩⟩
theorem w6a {id:Nat} (h:Q (.exit id) s):z5p P n (.exit id) s Q:=
 ⟨fun b k cs ρ tm ds w B c a=>⟨.exit id,s,ρ,tm,ds,w,h,c,a,rfl,Ext.refl _ _ _ _,k,rfl,Steps.refl _ _⟩⟩
theorem v1a (h:Q .ret s):z5p P n .ret s Q:=
 ⟨fun b k cs ρ tm ds w B c a=>⟨.ret,s,ρ,tm,ds,w,h,c,a,rfl,Ext.refl _ _ _ _,k,Steps.refl _ _⟩⟩
theorem z9i {id:Nat} {x:Item} {k:List Item} (a:∀ j,x≠ .inBlock j):exitTo id (x::k)=exitTo id k:=by
 cases x<;>simp [exitTo] at*
theorem z00 {x y:Code} (h:z5p P n x s (fun e s'=>match e with| .normal=>z5p P n y s' Q|e=>Q e s')):z5p P n (.seq x y) s Q:=⟨by
 intro b k cs ρ tm ds w B A z
 obtain ⟨e,s',ρ',a,c,d,q,m,l,j,i,g⟩:=h.run b (.code y::k) cs ρ tm ds w B A z
 cases e with
 |normal=>
  obtain ⟨e,u,ρ2,f,r,t,v,H,G,F,E,C⟩:=q.run b k cs ρ' a c d B m l
  exact ⟨e,u,ρ2,f,r,t,v,H,G,F.trans j,i.trans E, .of_steps (.head w3l g) C⟩
 |exit id=>
  obtain ⟨o,e,p⟩:=g
  exact ⟨.exit id,s',ρ',a,c,d,q,m,l,j,i,o,by rw [e,z9i (by simp)], .head w3l p⟩
 |ret=>
  obtain ⟨o,p⟩:=g
  exact ⟨.ret,s',ρ',a,c,d,q,m,l,j,i,o, .head w3l p⟩⟩
theorem w0b {ρ:Rho} {O:Nat→Prop} {w:World} {t:Bool} {v:Value} (h:z0q ρ O w (.d (.bool t)) v):v= .bool t:=by
 cases h with|d h=>cases h; rfl
theorem y7o {c:Operand} {x y:Code} {t:Bool} (v:z0m s.env c= .d (.bool t)) (h:z5p P n (if t then x else y) s Q):z5p P n (.cond c x y) s Q:=⟨by
 intro b k cs ρ tm ds w B i z
 obtain ⟨e,l,ρ',a,f,j,q,u,r,p,o,m⟩:=h.run b k cs ρ tm ds w B i z
 have g:=z0l i.env c
 rw [v] at g
 exact ⟨e,l,ρ',a,f,j,q,u,r,p,o, .of_steps (.one (v5g (w0b g))) m⟩⟩
theorem z1f {id:Nat} {c:Code} (h:z5p P n c s (fun e s'=>match e with| .exit j=>if j=id then Q .normal s' else Q (.exit j) s'|e=>Q e s')):z5p P n (.block id c) s Q:=⟨by
 intro b k cs ρ tm ds w B v u
 obtain ⟨e,s',ρ',a,d,f,q,m,l,i,g,r⟩:=h.run b (.inBlock id::k) cs ρ tm ds w B v u
 cases e with
 |normal=>exact ⟨.normal,s',ρ',a,d,f,q,m,l,i,g, .head y49 (Steps.trans r (.one w00))⟩
 |exit j=>
  obtain ⟨o,e,p⟩:=r
  simp only at q
  by_cases t:j=id
  ·subst t
   rw [if_pos rfl] at q
   have x:exitTo j o=some k:=by rw [e]; simp [exitTo]
   exact ⟨.normal,s',ρ',a,d,f,q,m,l,i,g, .head y49 (Steps.trans p (.one (v5f x)))⟩
  ·rw [if_neg t] at q
   exact ⟨.exit j,s',ρ',a,d,f,q,m,l,i,g,o,by rw [e]; simp [exitTo,eDa t], .head y49 p⟩
 |ret=>
  obtain ⟨o,p⟩:=r
  exact ⟨.ret,s',ρ',a,d,f,q,m,l,i,g,o, .head y49 p⟩⟩
theorem w10 {c:Code} (h:z5p P n c s Q):z5p P n (.scope c) s Q:=⟨by
 intro b k cs ρ tm ds w B v u
 obtain ⟨e,g,ρ',a,d,f,q,p,o,m,l,i⟩:=h.run b (.inScope c::k) cs ρ tm ds w B v u
 cases e with
 |normal=>exact ⟨.normal,g,ρ',a,d,f,q,p,o,m,l, .head x08 (Steps.trans i (.one w0z))⟩
 |exit j=>
  obtain ⟨r,e,t⟩:=i
  exact ⟨.exit j,g,ρ',a,d,f,q,p,o,m,l,r,by rw [e,z9i (by simp)], .head x08 t⟩
 |ret=>
  obtain ⟨r,t⟩:=i
  exact ⟨.ret,g,ρ',a,d,f,q,p,o,m,l,r, .head x08 t⟩⟩
theorem z7e {c:Code} {ι:Type} (I:ι→AS) (μ:ι→Nat) (F:∀ g h,(I g).nt=(I h).nt)
  (round:∀ g,z5p P n c (I g) (fun e s'=>match e with| .normal=>∃ h,s'=I h∧μ h<μ g|e=>Q e s')) (g:ι):z5p P n (.loop c) (I g) Q:=⟨by
 intro b k cs
 have key:∀ (m:Nat) (g:ι),μ g=m→∀ (ρ:Rho) (tm:Array Value) (ds:List Deferred) (w:World) (B:Nat),z2c P ρ (I g) tm w→z4m b.roundOf B ρ.fr w ds→
   ∃ e s' ρ' a d f,Q e s'∧z2c P ρ' s' a f∧z4m b.roundOf B ρ'.fr f d∧s'.nt=(I g).nt∧Ext (· <n) ρ (I g).heap w ρ' s'.heap f∧Arr P b cs (lone (b.on tm ds (.code c:: .inLoop c::k)) cs w) k e a d f:=by
  intro m
  induction m using Nat.strongRecOn with
  |_ m E=>
   intro g hm ρ tm ds w B x v
   obtain ⟨e,s',ρ',a,d,f,q,p,o,l,j,i⟩:=(round g).run b (.inLoop c::k) cs ρ tm ds w B x v
   cases e with
   |normal=>
    obtain ⟨h,rfl,u⟩:=q
    obtain ⟨e,A,ρ2,r,y,z,C,L,K,J,H,G⟩:=E (μ h) (hm▸u) h rfl ρ' a d f B p o
    exact ⟨e,A,ρ2,r,y,z,C,L,K,J.trans l,j.trans H, .of_steps (Steps.trans i (.one x3e)) G⟩
   |exit id=>
    obtain ⟨s,e,t⟩:=i
    exact ⟨.exit id,s',ρ',a,d,f,q,p,o,l,j,s,by rw [e,z9i (by simp)],t⟩
   |ret=>
    obtain ⟨s,t⟩:=i
    exact ⟨.ret,s',ρ',a,d,f,q,p,o,l,j,s,t⟩
 intro ρ tm ds w B x v
 obtain ⟨e,s',ρ',a,d,f,q,p,o,l,j,i⟩:=key _ g rfl ρ tm ds w B x v
 exact ⟨e,s',ρ',a,d,f,q,p,o,l,j, .of_steps (.one y1t) i⟩⟩
end rules
theorem z09 (env:List (Nat×AV)) (t:Nat) (v:AV):z0z (w75 env t v) t=v:=by
 simp [w75,z0z]
theorem z1t (env:List (Nat×AV)) (t a:Nat) (v:AV) (h:t≠a):z0z (w75 env t v) a=z0z env a:=by
 have:eAk t a=false:=by cases b:eAk t a with
  |false=>rfl
  |true=>exact absurd (eAg b) h
 simp [w75,z0z,this]
theorem z5j (u:List (Nat×AO)):∀ (h:List AO),h.length≤(z08 h u).length∧∀ i o,(i,o)∈u→i<(z08 h u).length:=by
 induction u with
 |nil=>intro h; exact ⟨eAp _,by simp⟩
 |cons x u c=>
  intro h
  obtain ⟨i,o⟩:=x
  have f:=z10 h i o
  obtain ⟨a,b⟩:=c (z04 h i o)
  simp only [z08]
  refine ⟨by omega,fun j q d=>?_⟩
  rcases eBa.1 d with e|e
  ·cases e; omega
  ·exact b j q e
def y4g (env:List (Nat×AV)) (dst:Option Tmp) (v:AV):List (Nat×AV):=
 match dst with
 |some d=>w75 env d v
 |none=>env
def z3i (nt:Nat) (dst:Option Tmp):Bool:=
 match dst with
 |some d=>eBt d nt
 |none=>true
def z4p:AS→Option Tmp→AV→List (Nat×AO)→AS
 |⟨env,a,nt⟩,dst,v,u=>⟨y4g env dst v,z08 a u,nt⟩
section
variable {P:Program} {ρ:Rho} {h:List AO} {w:World}
theorem y16 {ρ':Rho} {O':Nat→Prop} {O:Nat→Prop} {w':World} {env:List (Nat×AV)} {tm:Array Value} (k:z5d O O' w w') (c:∀ id L,ρ id=some L→ρ' id=some L) (he:z7g ρ O w env tm) {dst:Option Tmp} {nt:Nat} (g:tm.size=nt) (e:z3i nt dst=true)
  {x:AV} {v:Value} (f:z0q ρ' O' w' x v):z7g ρ' O' w' (y4g env dst x) (y3s tm dst v):=by
 intro t
 cases dst with
 |none=>exact (he t).keep k c
 |some d=>
  simp only [z3i] at e
  have b:d<tm.size:=by rw [g]; exact eBc (Nat.lt_succ_self d) (eAl e)
  simp only [y4g,y3s]
  by_cases a:d=t
  ·subst a
   rw [z09]
   have:(tm.setIfInBounds d v).getD d undef=v:=by simp [eAq,b]
   rw [this]; exact f
  ·rw [z1t _ _ _ _ a]
   have:(tm.setIfInBounds d v).getD t undef=tm.getD t undef:=by simp [eAq,eDu,a]
   rw [this]; exact (he t).keep k c
theorem z8k (tm:Array Value) (dst:Option Tmp) (v:Value):(y3s tm dst v).size=tm.size:=by
 cases dst<;>simp [y3s]
theorem z2c.step {s:AS} {tm:Array Value} (b:z2c P ρ s tm w) {new:Nat} (e:new=s.heap.length) {dst:Option Tmp} (l:z3i s.nt dst=true) {res:Res} {v:Value} {w':World} {ρ':Rho}
  (g:z0q ρ' (z0f ρ' (z08 s.heap res.u)) w' res.v v) (k:z0b P ρ' (z08 s.heap res.u) w') (c:Ext (fun id=>id≠new) ρ s.heap w ρ' (z08 s.heap res.u) w') (h:ρ'=ρ∨∃ o,(new,o)∈res.u):
  z2c P ρ' (z4p s dst res.v res.u) (y3s tm dst v) w':=by
 obtain ⟨m,f⟩:=z5j res.u s.heap
 have a:ρ new=none:=by
  cases i:ρ new with
  |none=>rfl
  |some L=>have:=b.dom new (by rw [i]; simp); omega
 refine ⟨k,y16 c.keep (fun id L d=>?_) b.env b.size l g,by rw [z8k]; exact b.size,fun id hid=>?_⟩
 ·rw [c.rho id (by rintro rfl; rw [a] at d; cases d)]; exact d
 ·show id<(z08 s.heap res.u).length
  by_cases he:id=new
  ·subst he
   rcases h with rfl|⟨o,j⟩
   ·exact absurd a hid
   ·exact f _ _ j
  ·rw [c.rho id he] at hid
   have:=b.dom id hid; omega
structure y3d (P:Program) (n:Nat) (ops:Array Oper) (l:List Nat) (s:AS) (Q:AS→Prop):Prop where
 run:∀ (b:Frame) (k:List Item) (cs:List Frame) (ρ:Rho) (tm:Array Value) (ds:List Deferred) (w:World) (B:Nat),z2c P ρ s tm w→z4m b.roundOf B ρ.fr w ds→
  ∃ s' ρ' tm' w',Q s'∧z2c P ρ' s' tm' w'∧z4m b.roundOf B ρ'.fr w' ds∧s'.nt=s.nt∧Ext (· <n) ρ s.heap w ρ' s'.heap w'∧Steps P (lone (b.on tm ds (.inRegion ops l::k)) cs w) (lone (b.on tm' ds k) cs w')
theorem z6q {n:Nat} {ops:Array Oper} {s:AS} {Q:AS→Prop} (h:Q s):y3d P n ops [] s Q:=
 ⟨fun b k cs ρ tm ds w B c a=>⟨s,ρ,tm,w,h,c,a,rfl,Ext.refl _ _ _ _, .one z89⟩⟩
def z3l (ops:List Oper) (env:List (Nat×AV)):Option (Nat×Bool)→Option Bool
 |none=>some true
 |some (j,a)=>match z2d ops j with
  |some o=>match o.dst with
   |some d=>match z0z env d with
    | .d (.bool t)=>some (t==a)
    | .tuple []=>some false
    |_=>none
   |none=>none
  |none=>none
theorem x2w {O:Nat→Prop}:z0q ρ O w (.tuple []) undef:= .tuple [] #[] rfl (by simp)
theorem z5k {ops:Array Oper} {s:AS} {tm:Array Value} (p:z2c P ρ s tm w) {o:Oper} {b:Bool} (hg:z3l ops.toList s.env o.guard=some b):Region.wanted o (yielded ops tm)=b:=by
 unfold Region.wanted
 cases h:o.guard with
 |none=>rw [h] at hg; simp [z3l] at hg; subst hg; rfl
 |some g=>
  obtain ⟨j,m⟩:=g
  rw [h] at hg
  simp only [z3l] at hg
  split at hg
  ·rename_i n e
   split at hg
   ·rename_i d l
    split at hg
    ·rename_i t k
     cases hg
     rw [z1v] at e
     have a:=p.env d
     rw [k] at a
     have a:=w0b a
     have i:yielded ops tm j=some t:=by
      have c:ops[j]?=some n:=by simpa using e
      have:tm[d]?=some (.bool t):=by
       rw [eAq] at a
       cases f:tm[d]? with
       |none=>rw [f] at a; simp [undef] at a
       |some u=>rw [f] at a; simp at a; rw [a]
      simp [yielded,c,l,this]
     simp [i]
    ·rename_i k
     cases hg
     rw [z1v] at e
     have a:=p.env d
     rw [k] at a
     have i:yielded ops tm j=none:=by
      have c:ops[j]?=some n:=by simpa using e
      cases f:tm[d]? with
      |none=>simp [yielded,c,l,f]
      |some u=>
       rw [eAq,f] at a
       simp only [eCd] at a
       cases a with|tuple _ q r _=>
       simp [yielded,c,l,f]
     simp [i]
    ·cases hg
   ·cases hg
  ·cases hg
theorem x3w {T:TypeId→Option TI} (hT:y1d P T) {G:Nat→Option (List D)} (M:GOk P G) {n:Nat} {ops:Array Oper} {i:Nat} {rest:List Nat} {s:AS} {Q:AS→Prop} {o:Oper} (I:ops[i]?=some o) (hg:z3l ops.toList s.env o.guard=some true) (W:n≤s.heap.length)
  {q:Bool} {r:List D} {ra:List AV} {res:Res} (C:(z1b std T s.env s.heap o.op).ok q r ra) (l:z0t std T G s.env s.heap s.heap.length q r ra o.op=some res) (m:res.c=true) (K:z3i s.nt o.dst=true)
  (h:y3d P n ops rest (z4p s o.dst res.v res.u) Q):y3d P n ops (i::rest) s Q:=⟨by
 intro b k cs ρ tm ds w B d N
 have a:ρ s.heap.length=none:=by
  cases H:ρ s.heap.length with
  |none=>rfl
  |some L=>have:=d.dom s.heap.length (by rw [H]; simp); omega
 obtain ⟨v,y,ρ',e,E,J,j,F⟩:=x76 hT M d.heap a d.env C l m
 have t:=d.step rfl K E J j F
 have p:=N.keep d.heap j
 obtain ⟨z,ρ2,g,x,A,V,U,S,R,O⟩:=h.run b k cs ρ' _ ds y B t p
 have f:∀ c,o.op≠ .defer c:=by
  intro c m; rw [m] at l; simp [z0t] at l
 exact ⟨z,ρ2,g,x,A,V,U,S,(j.mono (fun id (hid:id<n)=>by show id≠s.heap.length; omega)).trans R, .head (y1r I (z5k d hg) f e) O⟩⟩
theorem w34 {n:Nat} {ops:Array Oper} {i:Nat} {rest:List Nat} {s:AS} {Q:AS→Prop} {o:Oper} (j:ops[i]?=some o) (hg:z3l ops.toList s.env o.guard=some false) (l:z3i s.nt o.dst=true)
  (h:y3d P n ops rest (z4p s o.dst (.tuple []) []) Q):y3d P n ops (i::rest) s Q:=⟨by
 intro b k cs ρ tm ds w B d m
 have c:z2c P ρ (z4p s o.dst (.tuple []) []) (y3s tm o.dst undef) w:=
  d.step (new:=s.heap.length) rfl (res:=⟨true, .tuple [],[]⟩) l x2w d.heap (Ext.refl _ _ _ _) (.inl rfl)
 obtain ⟨f,ρ2,a,e,g,u,t,r,q,p⟩:=h.run b k cs ρ _ ds w B c m
 exact ⟨f,ρ2,a,e,g,u,t,r,q, .head (y82 j (z5k d hg)) p⟩⟩
def z07 (ρ:Rho) (O:Nat→Prop) (w:World) (xs:List AV) (vs:Array Value):Prop:=vs.size=xs.length∧∀ (i:Nat) (x:AV),xs[i]?=some x→z0q ρ O w x (vs.getD i undef)
theorem z07.append {O:Nat→Prop} {xs e:List AV} {f vs:Array Value} (d:z07 ρ O w xs f) (g:z07 ρ O w e vs):z07 ρ O w (xs++e) (f++vs):=by
 refine ⟨by simp [d.1,g.1],fun i x a=>?_⟩
 rw [eBr] at a
 rw [eAq,Array.getElem?_append,d.1]
 split at a
 ·rename_i b
  rw [if_pos b, ←eAq]
  exact d.2 i x a
 ·rename_i c
  rw [if_neg c, ←eAq]
  exact g.2 _ x a
structure z3s (P:Program) (f:FuncId) (args:List AV) (h:List AO) (r:AV) (h':List AO):Prop where
 run:∀ (ρ:Rho) (vs:Array Value) (w:World) (cs:List Frame),z0b P ρ h w→Dom ρ h→z07 ρ (z0f ρ h) w args vs→
  ∃ ρ' v w' fr,Steps P (lone (eFr P f vs .normal) cs w) (lone fr cs w')∧fr.fn=f∧fr.leaving P w' (.returned v)∧z0q ρ' (z0f ρ' h') w' r v∧z0b P ρ' h' w'∧Dom ρ' h'∧Ext (· <h.length) ρ h w ρ' h' w'
def z3g (P:Program) (f:FuncId):Prop:=∀ (args:Array Value) (w:World),(callFunc f args).run P w= .ok (.enter f args) w
theorem w35 {n:Nat} {ops:Array Oper} {i:Nat} {rest:List Nat} {s:AS} {Q:AS→Prop} {o:Oper} (M:ops[i]?=some o) (hg:z3l ops.toList s.env o.guard=some true) (hn:n≤s.heap.length) {f:Operand} {args:Array Operand} {ts:Array TypeId}
  (p:o.op= .call ⟨.value f,args,ts⟩) {g:FuncId} {first captured:List AV} (X:z0m s.env f= .clo (.func g) first captured) (E:z3g P g) {r:AV} {h':List AO} (m:z3s P g (first++z06 s.env args.toList++captured) s.heap r h') (N:s.heap.length≤h'.length) (Y:z3i s.nt o.dst=true)
  (h:y3d P n ops rest ⟨y4g s.env o.dst r,h',s.nt⟩ Q):y3d P n ops (i::rest) s Q:=⟨by
 intro b k cs ρ tm ds w B a Z
 have j:=z0l a.env f
 rw [X] at j
 obtain ⟨d,e,C,A,G⟩:∃ d e,opv tm f= .func (.func g) d e∧z07 ρ (z0f ρ s.heap) w first d∧z07 ρ (z0f ρ s.heap) w captured e:=by
  generalize K:opv tm f=v at j
  cases j with
  |clo _ _ _ d e a1 a2 a3 a4=>exact ⟨d,e,rfl,⟨a1,a3⟩,⟨a2,a4⟩⟩
 have H:z07 ρ (z0f ρ s.heap) w (z06 s.env args.toList) (args.map (opv tm)):=z7b a.env args
 have t:=(A.append H).append G
 have l:(execOp (opv tm) o).run P w= .ok (.enter g (d++args.map (opv tm)++e)) w:=by
  have:=E (d++args.map (opv tm)++e) w
  simp only [Array.append_assoc] at this
  simp [execOp,p,resolve,Deferred.ofValue,C,invoke,this]
 obtain ⟨ρ',v,J,fr,y,W,z,K,V,F,u⟩:=m.run ρ _ w (b.on tm ds (.inRegion ops (i::rest)::k)::cs) a.heap a.dom t
 have U:∀ id L,ρ id=some L→ρ' id=some L:=fun id L O=>by
  have hid:id<s.heap.length:=a.dom id (by rw [O]; simp)
  rw [u.rho id hid]; exact O
 have I:z2c P ρ' ⟨y4g s.env o.dst r,h',s.nt⟩ (y3s tm o.dst v) J:=
  ⟨V,y16 u.keep U a.env a.size Y K,by rw [z8k]; exact a.size,F⟩
 obtain ⟨S,ρ2,x,R,T,g1,g2,g3,g4,g5⟩:=h.run b k cs ρ' _ ds J B I (Z.keep a.heap u)
 have q:∀ c,o.op≠ .defer c:=by rw [p]; simp
 refine ⟨S,ρ2,x,R,T,g1,g2,g3,(u.mono (fun id (hid:id<n)=>by show id<s.heap.length; omega)).trans g4,?_⟩
 refine .head (y1s M (z5k a hg) q l) (Steps.trans y (.head (step_leave_returned z) ?_))
 rw [z8x M]
 exact g5⟩
theorem z7d {n:Nat} {id:Nat} {ops:Array Oper} {s:AS} {Q:AX→AS→Prop} (h:y3d P n ops (eAv ops.size) s (Q .normal)):z5p P n (.region id ops false) s Q:=⟨by
 intro b k cs ρ tm ds w B g f
 obtain ⟨d,ρ2,a,c,e,o,m,l,j,i⟩:=h.run b k cs ρ tm ds w B g f
 exact ⟨.normal,d,ρ2,a,ds,c,e,o,m,l,j, .head w3m i⟩⟩
def x8c (T:TypeId→Option TI) (s:AS):ResultVar→Option AV
 | .tmp t=>some (z0z s.env t)
 | .cell a t=>match T t with
  |some ti=>match z0z s.env a with
   | .bptr id off=>match z2z ti s.heap [] [] (.bptr id off) with
    |some r=>some r.v
    |none=>none
   |_=>none
  |none=>none
def y86 (T:TypeId→Option TI) (s:AS):List ResultVar→Option (List AV)
 |[]=>some []
 |x::r=>match x8c T s x,y86 T s r with
  |some v,some l=>some (v::l)
  |_,_=>none
def u0d (T:TypeId→Option TI) (s:AS) (l:List ResultVar):Option AV:=
 match y86 T s l with
 |some [v]=>some v
 |some a=>some (.tuple a)
 |none=>none
theorem w0t {ti:TI} {h:List AO} {r:List D} {ra:List AV} {a:AV} {res:Res} (b:z2z ti h r ra a=some res):res.u=[]:=by
 unfold z2z at b
 split at b
 ·split at b
  ·split at b
   ·obtain ⟨_,_,rfl⟩:=z3r b; rfl
   ·cases b
  ·cases c:z8s r ti.size with
   |false=>rw [c] at b; cases b
   |true=>rw [c] at b; obtain ⟨_,_,rfl⟩:=z3r b; rfl
  ·cases b
 ·split at b
  ·split at b
   ·obtain ⟨_,_,rfl⟩:=z3r b; rfl
   ·cases b
  ·split at b
   ·obtain ⟨_,_,rfl⟩:=z3r b; rfl
   ·cases b
  ·cases b
 ·cases c:z8s r ti.size with
  |false=>rw [c] at b; cases b
  |true=>rw [c] at b; obtain ⟨_,_,rfl⟩:=z3r b; rfl
 ·split at b
  ·obtain ⟨_,_,rfl⟩:=z3r b; rfl
  ·cases b
 ·cases b
theorem x1b {T:TypeId} {ti:TI} (k:z7j P T ti) (u:z0b P ρ h w) {id off:Nat} {s:Value} (B:z0q ρ (z0f ρ h) w (.bptr id off) s) {res:Res} (a:z2z ti h [] [] (.bptr id off)=some res):
  ∃ v,(Instr.loadAt T s).run P w= .ok v w∧z0q ρ (z0f ρ h) w res.v v:=by
 unfold z2z at a
 simp only at a
 split at a
 ·rename_i cells e
  split at a
  ·rename_i l E
   obtain ⟨x,f,rfl⟩:=z3r a
   cases B with
   |bptr _ _ L r=>
    obtain ⟨_,i⟩:=u.obj id L r
    rw [e] at i
    obtain ⟨q,c,t,A,z⟩:=i
    obtain ⟨m,hg⟩:=z3u E
    obtain ⟨cs,C,G,F⟩:=z50 (R:=z0q ρ (z0f ρ h) w) (fun j=>c[L.base+off+j]?) l (fun j x f=>by
     have p:j<ti.size:=by rw [←m]; exact (eAe.1 f).1
     obtain ⟨v,n,g⟩:=z (off+j) x (by rw [hg j p]; exact f)
     exact ⟨v,by rw [eCf]; exact n,g⟩)
    obtain ⟨v,d,b⟩:=z5x f cs C F
    refine ⟨v,?_,b⟩
    show (loadVar T _).run P w=_
    exact z39 k.size k.agg w _ _ cs (C.trans m) (fun j v n=>z6e A (G j v n)) v d
  ·cases a
 ·rename_i es e
  cases o:z8s ([]:List D) ti.size with
  |false=>rw [o] at a; cases a
  |true=>
  rw [o] at a
  have m:=z8r o
  obtain ⟨x,f,rfl⟩:=z3r a
  cases B with
  |bptr _ _ L r=>
   obtain ⟨_,i⟩:=u.obj id L r
   rw [e] at i
   obtain ⟨H,c,t,A,y,z⟩:=i
   obtain ⟨v,d,b⟩:=z4a (ρ:=ρ) (O:=z0f ρ h) (w:=w) f [] rfl (by simp)
   refine ⟨v,?_,b⟩
   show (loadVar T _).run P w=_
   exact z39 k.size k.agg w _ _ [] m (by simp) v d
 ·cases a
def w3t (tm:Array Value):ResultVar→Sem Value
 | .tmp t=>pure (tm.getD t undef)
 | .cell a t=>do loadVar t (←asAddr (tm.getD a undef))
theorem w06 (fn:Func) (tm:Array Value):results fn tm=(do
  let vs←fn.results.mapM (w3t tm)
  pure (if h:vs.size=1 then vs[0] else .tuple vs)):=by
 unfold results
 congr 1
theorem w05 {T:TypeId→Option TI} (hT:y1d P T) {s:AS} {tm:Array Value} (E:z2c P ρ s tm w) {fn:Func} {r:AV} (m:u0d T s fn.results.toList=some r):
  ∃ v,(results fn tm).run P w= .ok v w∧z0q ρ (z0f ρ s.heap) w r v:=by
 have one:∀ (x:ResultVar) (a:AV),x8c T s x=some a→∃ v,(w3t tm x).run P w= .ok v w∧z0q ρ (z0f ρ s.heap) w a v:=by
  intro x a c
  cases x with
  |tmp t=>simp [x8c] at c; subst c; exact ⟨_,rfl,E.env t⟩
  |cell p t=>
   simp only [x8c] at c
   split at c
   ·rename_i ti B
    split at c
    ·rename_i id off R
     split at c
     ·rename_i O k
      cases c
      have j:=E.env p
      rw [R] at j
      obtain ⟨v,z,J⟩:=x1b (hT _ _ B) E.heap j k
      refine ⟨v,?_,J⟩
      obtain ⟨A,n⟩:∃ A,tm.getD p undef= .pointer (some A):=by
       generalize X:tm.getD p undef=W at j
       cases j with
       |bptr _ _ L Y=>exact ⟨_,rfl⟩
      rw [n] at z
      show (asAddr (tm.getD p undef)>>=fun a=>loadVar t a).run P w=_
      rw [n]
      simp only [eAw,asAddr,eBf,eAo]
      simpa [Instr.loadAt,Instr.sureAddr] using z
     ·cases c
    ·cases c
   ·cases c
 have all:∀ (l:List ResultVar) (d:List AV),y86 T s l=some d→∃ b:List Value,(l.mapM (w3t tm)).run P w= .ok b w∧b.length=d.length∧∀ (i:Nat) (a:AV) (v:Value),d[i]?=some a→b[i]?=some v→z0q ρ (z0f ρ s.heap) w a v:=by
  intro l
  induction l with
  |nil=>intro d h; simp [y86] at h; subst h; exact ⟨[],by simp,rfl,by simp⟩
  |cons x l Q=>
   intro d h
   simp only [y86] at h
   split at h
   ·rename_i a K U has
    cases h
    obtain ⟨v,z,J⟩:=one x a U
    obtain ⟨b,I,H,G⟩:=Q K has
    refine ⟨v::b,by simp only [List.mapM_cons,eAw,z,eAo,I,eBf],by simp [H],fun i V N g f=>?_⟩
    cases i with
    |zero=>simp at g f; subst g; subst f; exact J
    |succ i=>exact G i V N (by simpa using g) (by simpa using f)
   ·cases h
 unfold u0d at m
 have q:∀ (d:List AV),y86 T s fn.results.toList=some d→∃ b:List Value,(results fn tm).run P w= .ok (if h:b.toArray.size=1 then b.toArray[0] else .tuple b.toArray) w∧b.length=d.length∧∀ (i:Nat) (a:AV) (v:Value),d[i]?=some a→b[i]?=some v→z0q ρ (z0f ρ s.heap) w a v:=by
  intro d has
  obtain ⟨b,I,H,G⟩:=all _ d has
  refine ⟨b,?_,H,G⟩
  rw [w06,Array.mapM_eq_mapM_toList]
  simp only [eAw,Sem.run_map,I,eAo,eBf]
 split at m
 ·rename_i v j
  cases m
  obtain ⟨b,y,o,F⟩:=q _ j
  match b,o with
  |[u],_=>exact ⟨u,by simpa using y,F 0 _ u rfl rfl⟩
 ·rename_i d C has
  cases m
  obtain ⟨b,y,o,F⟩:=q _ has
  have S:b.toArray.size≠1:=by
   intro e
   rw [List.size_toArray,o] at e
   match d,e with
   |[a],_=>exact C a rfl
  rw [dif_neg S] at y
  refine ⟨_,y, .tuple _ _ (by simp [o]) fun i x c=>?_⟩
  have M:i<b.length:=by rw [o]; exact (eAe.1 c).1
  have:=F i x b[i] c (eAd M)
  rw [show b.toArray.getD i undef=b[i] by simp [eAq,M]]
  exact this
 ·cases m
def v0o:Nat→List AV→List (Nat×AV)
 |_,[]=>[]
 |i,x::r=>(i,x)::v0o (i+1) r
theorem w5h (l:List AV):∀ (i t:Nat),z0z (v0o i l) t=if i≤t then (l[t - i]?).getD .bot else .bot:=by
 induction l with
 |nil=>intro i t; simp [v0o,z0z]
 |cons x l c=>
  intro i t
  simp only [v0o,z0z]
  cases a:eAk i t with
  |true=>have:=eAg a; subst this; simp
  |false=>
   have d:i≠t:=by rintro rfl; simp at a
   simp only [cond_false]
   rw [c]
   by_cases b:i+1≤t
   ·rw [if_pos b,if_pos (by omega),show t - i=(t - (i+1))+1 by omega]; simp
   ·rw [if_neg b,if_neg (by omega)]
theorem z1m.cells {O:Nat→Prop} {w w':World} (p:∀ (a:Addr) (v:Value),w.cell? a=some v→w'.cell? a=some v) {x:D} {v:Value} (h:z1m O w x v):z1m O w' x v:=by
 induction h with
 |bool b=>exact .bool b
 |int k n=>exact .int k n
 |str s=>exact .str s
 |nilp=>exact .nilp
 |nilm=>exact .nilm
 |nilf=>exact .nilf
 |nili=>exact .nili
 |agg ds q u h g=>exact .agg ds q u g
 |lnil f z a c h=>exact .lnil f z a c h
 |list full es b o z c t d hO l y i cell A e h g=>exact .list full es b o z c t d hO l y i cell A (fun j m=>p _ _ (e j m)) g
 |ref r b o d hO cell e h g=>exact .ref r b o d hO cell (fun j m=>p _ _ (e j m)) g
theorem z0q.cells {ρ:Rho} {O:Nat→Prop} {w w':World} (f:∀ (a:Addr) (v:Value),w.cell? a=some v→w'.cell? a=some v) (F:w.heap.size≤w'.heap.size) (Q:∀ b m,z1c w b=some m→z1c w' b=some m) {x:AV} {v:Value} (h:z0q ρ O w x v):z0q ρ O w' x v:=by
 induction h with
 |bot v=>exact .bot v
 |d h=>exact .d (h.cells f)
 |bptr id off L h=>exact .bptr id off L h
 |ptr id i off L h=>exact .ptr id i off L h
 |lptr r off b o g hO cell e B=>exact .lptr r off b o (eBc g F) hO cell (fun j M=>f _ _ (e j M)) (fun j x A=>(B j x A).cells f)
 |wptr es off b o z g hO y e=>exact .wptr es off b o z (eBc g F) hO y fun i r j x N A=>let ⟨v,I,B⟩:=e i r j x N A; ⟨v,f _ _ I,B.cells f⟩
 |perm es E v J h=>exact .perm es E v J (h.cells f)
 |slice id z off len cap L a c h y R e l=>
  refine .slice id z off len cap L a c h y R ?_ l
  rcases e with e|⟨e,n,K,C⟩
  ·exact .inl e
  ·exact .inr ⟨e,n,Q _ _ K,C⟩
 |nils id z off cap a f=>exact .nils id z off cap a f
 |map id L h=>exact .map id L h
 |yld id L h=>exact .yld id L h
 |clo fn S cs G H P f U T u s=>exact .clo fn S cs G H P f u s
 |iface t x v h k=>exact .iface t x v k
 |agg p q l h k=>exact .agg p q l k
 |tuple p q l h k=>exact .tuple p q l k
theorem z0b.cells {ρ : Rho} {h : List AO} {w w' : World} (hr : z0b P ρ h w) (hc : ∀ (a : Addr) (v : Value), w.cell? a = some v → w'.cell? a = some v) (hs : w.heap.size ≤ w'.heap.size) (hb : ∀ b m, z1c w b = some m → z1c w' b = some m)
    (ho : ∀ b, z0f ρ h b → w'.heap[b]? = w.heap[b]?) : z0b P ρ h w' where
  obj := fun id L hL => by
    obtain ⟨h1, h2⟩ := hr.obj id L hL
    refine ⟨eBc h1 hs, ?_⟩
    by_cases hl : (z0e h id).live = true
    · have hbk := ho _ (.inr ⟨id, L, hL, hl, rfl⟩)
      cases hno : z0e h id with
      | dead => trivial
      | box cells =>
        rw [hno] at h2
        obtain ⟨hbase, c, t, hcb, hj⟩ := h2
        exact ⟨hbase, c, t, hbk ▸ hcb, fun j x hx => let ⟨v, hv, hvr⟩ := hj j x hx; ⟨v, hv, hvr.cells hc hs hb⟩⟩
      | row es =>
        rw [hno] at h2
        obtain ⟨hz, c, t, hcb, hl', hj⟩ := h2
        exact ⟨hz, c, t, hbk ▸ hcb, hl', fun i r j x hi hx => let ⟨v, hv, h1, hvr⟩ := hj i r j x hi hx; ⟨v, hv, h1, hvr.cells hc⟩⟩
      | arow es =>
        rw [hno] at h2
        obtain ⟨hz, c, t, hcb, hl', hj⟩ := h2
        exact ⟨hz, c, t, hbk ▸ hcb, hl', fun i r j x hi hx => let ⟨v, hv, h1, hvr⟩ := hj i r j x hi hx; ⟨v, hv, h1, hvr.cells hc hs hb⟩⟩
      | map es =>
        rw [hno] at h2
        obtain ⟨en, clk, hcb, hl', hj⟩ := h2
        exact ⟨en, clk, hbk ▸ hcb, hl', fun i k x hi => let ⟨e, he, h1, hvr⟩ := hj i k x hi; ⟨e, he, h1.cells hc, hvr.cells hc⟩⟩
      | loop st pd g pos nt env =>
        rw [hno] at h2
        obtain ⟨x, ps, asg, body, hcd, tm, ds, f, hcb, hl', hj⟩ := h2
        exact ⟨x, ps, asg, body, hcd, tm, ds, f, hbk ▸ hcb, hl', fun t => (hj t).cells hc hs hb⟩
    · cases hno : z0e h id <;> simp_all [AO.live, z1e]
  inj := hr.inj
  fr := fun b hf => eBc (hr.fr b hf) hs
  sep := hr.sep
  gl :=
    { lay := fun g cells hg => by
        obtain ⟨a, b, s, c⟩ := hr.gl.lay g cells hg
        refine ⟨eBc a hs, b, hb _ _ s, fun k x hx => ?_⟩
        obtain ⟨v, hv, hd⟩ := c k x hx
        exact ⟨v, hc _ _ hv, hd⟩
      shp := fun g b hg => by
        obtain ⟨a, b, v, hv, h⟩ := hr.gl.shp g b hg
        exact ⟨eBc a hs, b, v, hc _ _ hv, h⟩ }
theorem w82 {P:Program} {b:Nat} {ds:List Deferred} {w:World} (h:w.heap[b]?=some (.deferred (some ds))):(Instr.takeDeferred b).run P w= .ok ds (World.setObj w b (.deferred none)):=by
 simp [Instr.takeDeferred,getObj,setObj,Sem.run,h]; rfl
theorem v2t (B:Nat) (F:Nat→Prop):∀ (ds:List Deferred) (fr:Frame) (cs:List Frame) (w:World),fr.mode= .returning→fr.defers=ds→z4m none B F w ds→∃ w',Steps P (lone fr cs w) (lone { fr with defers:=[] } cs w')∧w'.os=w.os∧w'.tape=w.tape∧w'.output=w.output∧w'.heap.size=w.heap.size∧
  (∀ b,(∀ d∈ds,d.target≠ .collected b)→w'.heap[b]?=w.heap[b]?)∧w'.drawn=w.drawn
 |[],fr,cs,w,hm,j,a=>⟨w,by rw [←j]; exact Steps.refl _ _,rfl,rfl,rfl,rfl,fun _ _=>rfl,rfl⟩
 |d::ds,fr,cs,w,hm,j,a=>by
  obtain ⟨r,e,o,E⟩:=a.mark d (by simp)
  have t:=w82 (P:=P) o
  have f:=step_collected (cs:=cs) (by rw [hm]; simp) j (by rw [e]) t
  have q:r<w.heap.size:=(eAi.1 o).1
  obtain ⟨w',C,A,z,y,x,v,u⟩:=v2t B F ds { fr with defers:=ds } cs (World.setObj w r (.deferred none)) hm rfl ⟨(eGm.1 a.nodup).2,fun m c=>by
   obtain ⟨n,k,g,i⟩:=a.mark m (by simp [c])
   refine ⟨n,k,?_,i⟩
   have h:n≠r:=by
    rintro rfl
    rw [←e] at k
    subst k
    exact (eGm.1 a.nodup).1 c
   rw [z19 _ _ _ _ h]; exact g,a.below,by rw [z15]; exact a.le,fun l s=>by cases s⟩
  refine ⟨w', .head (by simpa using f) C,A,z,y,by rw [x,z15],fun b p=>?_,u⟩
  rw [v b (fun m c=>p m (by simp [c]))]
  have:b≠r:=by rintro rfl; exact p d (by simp) (by rw [e])
  exact z19 _ _ _ _ this
theorem z7g.init {O:Nat→Prop} {args:List AV} {vs:Array Value} (c:z07 ρ O w args vs) (nt:Nat):z7g ρ O w (v0o 0 args) (vs++Array.replicate (nt - vs.size) undef):=by
 intro t
 rw [w5h,if_pos (eBb _),eGs]
 cases b:args[t]? with
 |none=>exact .bot _
 |some x=>
  have:=c.2 t x b
  have a:t<vs.size:=by rw [c.1]; exact (eAe.1 b).1
  rw [eAq,Array.getElem?_append_left a, ←eAq]
  simpa using this
theorem y0r {T : TypeId → Option TI} (hT : y1d P T) {f : FuncId} {fn : Func} (z : P.funcs[f]? = some fn) {c : Code} (u : fn.body = some c) {args : List AV} {h : List AO} {r : AV} {h' : List AO} {nt : Nat} (U : fn.ntmps = nt) (a0 : args.length ≤ nt)
    (hc : z5p P h.length c ⟨v0o 0 args, h, nt⟩ (fun e s => (e = .normal ∨ e = .ret) ∧ u0d T s fn.results.toList = some r ∧ s.heap = h')) : z3s P f args h r h' := ⟨by
  intro ρ p w cs V W ha
  have q : (eFr P f p .normal).on (p ++ Array.replicate (nt - p.size) undef) [] [.code c] = eFr P f p .normal := by
    simp [eFr, Frame.on, z, u, U]
  have h1 : z2c P ρ ⟨v0o 0 args, h, nt⟩ (p ++ Array.replicate (nt - p.size) undef) w :=
    ⟨V, z7g.init ha nt, by simp [ha.1]; omega, W⟩
  obtain ⟨e, M, ρ', y, i, F, ⟨q1, q2, q3⟩, H, G, g3, o, Y⟩ := hc.run (eFr P f p .normal) [] cs ρ _ [] w w.heap.size h1 ⟨List.nodup_nil, by simp, V.fr, eAp _, fun l hl => by cases hl⟩
  subst q3
  rw [q] at Y
  obtain ⟨j, R⟩ : ∃ j, Steps P (lone (eFr P f p .normal) cs w) (lone { (eFr P f p .normal).on y i j with mode := .returning } cs F) := by
    rcases q1 with rfl | rfl
    · exact ⟨_, Steps.trans Y (.one (v93 rfl))⟩
    · obtain ⟨k', hs⟩ := Y
      exact ⟨_, Steps.trans hs (.one (v92 rfl))⟩
  obtain ⟨E, u1, u2, u3, u4, u5, K, u7⟩ := v2t (P := P) _ _ i { (eFr P f p .normal).on y i j with mode := .returning } cs F rfl rfl G
  have I : ∀ b, z0f ρ' M.heap b → ∀ d ∈ i, d.target ≠ .collected b := by
    intro b X d A g
    obtain ⟨N, C, k, a1⟩ := G.mark d A
    rw [C] at g
    cases g
    exact x8m H.heap (fun z => by have := G.below _ z; omega) X k
  have B : ∀ b m, z1c F b = some m → z1c E b = some m := by
    intro b m hm
    have : ∀ d ∈ i, d.target ≠ .collected b := by
      intro d A g
      obtain ⟨N, C, k, _⟩ := G.mark d A
      rw [C] at g; cases g
      simp [z1c, k] at hm
    unfold z1c; rw [K b this]; exact hm
  have x : ∀ b, b < w.heap.size → E.heap[b]? = F.heap[b]? := by
    intro b u
    refine K b fun d A g => ?_
    obtain ⟨N, C, _, hB⟩ := G.mark d A
    rw [C] at g; cases g
    omega
  have n : ∀ (a : Addr) (v : Value), F.cell? a = some v → E.cell? a = some v := by
    intro a v L
    have : ∀ d ∈ i, d.target ≠ .collected a.block := by
      intro d A g
      obtain ⟨N, C, k, _⟩ := G.mark d A
      rw [C] at g; cases g
      unfold eFc at L
      rw [k] at L; cases L
    rw [z2o (w := F) (K _ this)]; exact L
  have J : z0b P ρ' M.heap E := H.heap.cells n (by omega) B (fun b u => K b (I b u))
  have Z : z2c P ρ' M y E := ⟨J, fun t => (H.env t).cells n (by omega) B, H.size, H.dom⟩
  obtain ⟨v, Q, O⟩ := w05 hT Z q2
  refine ⟨ρ', v, E, _, Steps.trans R u1, rfl, ⟨rfl, rfl, rfl, fn, z, Q⟩, O, J, H.dom, ?_⟩
  exact
    { os := u2.trans o.os
      tape := u3.trans o.tape
      output := u4.trans o.output
      keep :=
        { size := by rw [u5]; exact o.keep.size
          frame := fun b u S => (x b u).trans (o.keep.frame b u S)
          own := fun b u S => o.keep.own b u S
          shape := fun b m hm => B b m (o.keep.shape b m hm)
          drawn := by rw [u7]; exact o.keep.drawn }
      rho := o.rho
      fr := o.fr
      frs := fun b z => (x b (V.fr b z)).trans (o.frs b z) }⟩
end
inductive x2p:AV→Prop
 |bot:x2p .bot
 |d (x:D):x2p (.d x)
 |tuple (xs:List AV) (h:∀ (i:Nat) (x:AV),xs[i]?=some x→x2p x):x2p (.tuple xs)
 |agg (xs:List AV) (h:∀ (i:Nat) (x:AV),xs[i]?=some x→x2p x):x2p (.agg xs)
 |clo (fn:Fn) (fs cs:List AV) (h1:∀ (i:Nat) (x:AV),fs[i]?=some x→x2p x) (h2:∀ (i:Nat) (x:AV),cs[i]?=some x→x2p x):x2p (.clo fn fs cs)
theorem x2p.rel {ρ ρ':Rho} {O O':Nat→Prop} {w:World} (o:∀ b,O' b→O b) {x:AV} {v:Value} (p:x2p x) (h:z0q ρ O w x v):z0q ρ' O' w x v:=by
 induction p generalizing v with
 |bot=>exact .bot v
 |d x=>
  cases h with
  |d h=>exact .d (h.keep ⟨eAp _,fun _ _ _=>rfl,fun b _ q=>o b q,fun _ _ h=>h,z0v.refl _⟩)
 |tuple m e j=>
  cases h with
  |tuple _ n k l=>exact .tuple _ _ k fun i x e=>j i x e (l i x e)
 |agg m e j=>
  cases h with
  |agg _ n k l=>exact .agg _ _ k fun i x e=>j i x e (l i x e)
 |clo fn y cs u t g f=>
  cases h with
  |clo _ _ _ r s a b c d=>exact .clo _ _ _ _ _ a b (fun i x e=>g i x e (c i x e)) (fun i x e=>f i x e (d i x e))
def v2m (P:Program) (f:FuncId) (args:List AV) (r:AV):Prop:=z3s P f args [] r []
theorem v2m.at {P : Program} {f : FuncId} {args : List AV} {r : AV} (h : v2m P f args r) (J : ∀ (i : Nat) (x : AV), args[i]? = some x → x2p x) (F : x2p r) (g : List AO) : z3s P f args g r g := ⟨by
  intro ρ B w cs k t l
  let m : Rho := ⟨fun _ => none, z0f ρ g⟩
  have I : z0b P m [] w := ⟨fun id L e => (by cases e), fun id C L K e => (by cases e), fun b a => z7p k a, fun id L e => (by cases e), k.gl.sub fun b a => a.elim id (fun ⟨id, L, e, _⟩ => (by cases e))⟩
  have j : ∀ b, z0f m [] b ↔ z0f ρ g b := fun b => ⟨fun a => a.elim id (fun ⟨id, L, e, _⟩ => (by cases e)), fun a => .inl a⟩
  obtain ⟨ρ', v, n, fr, o, s, p, E, G, A, d⟩ := h.run m B w cs I (fun id hid => absurd rfl hid) ⟨l.1, fun i x z => (J i x z).rel (fun b a => (j b).1 a) (l.2 i x z)⟩
  have q : ρ'.fr = z0f ρ g := d.fr
  have c : ∀ b, b < w.heap.size → n.heap[b]? = w.heap[b]? := by
    intro b a
    by_cases u : z0f ρ g b
    · exact d.frs b u
    · exact d.keep.frame b a (fun h => u ((j b).1 h))
  have y : z5d (z0f ρ g) (z0f ρ g) w n :=
    { size := d.keep.size
      frame := fun b a _ => c b a
      own := fun b _ h => h
      shape := d.keep.shape
      drawn := d.keep.drawn }
  refine ⟨ρ, v, n, fr, o, s, p, F.rel (fun b a => .inl (by rw [q]; exact a)) E, k.of_keep y (fun b a => c b (z7p k a)), t, ?_⟩
  exact { os := d.os, tape := d.tape, output := d.output, keep := y, rho := fun _ _ => rfl, fr := rfl, frs := fun b H => c b (k.fr b H) }⟩
theorem z0b.ext {P:Program} {ρ:Rho} {h h':List AO} {w:World} (e:∀ id,z0e h id=z0e h' id) (a:z0b P ρ h w):z0b P ρ h' w:=by
 have f:z0f ρ h=z0f ρ h':=by funext b; unfold z0f; simp only [e]
 refine ⟨fun id L d=>?_,fun id c L m l k i g=>a.inj id c L m l k (by rw [e]; exact i) (by rw [e]; exact g),a.fr,fun id L d j=>a.sep id L d (by rw [e]; exact j),f▸a.gl⟩
 have:=a.obj id L d
 rw [←f, ←e]; exact this
theorem z4i {ρ:Rho} {h h':List AO} (e:∀ id,z0e h id=z0e h' id):z0f ρ h=z0f ρ h':=by funext b; unfold z0f; simp only [e]
def y88 (o:Op):List Nat:=o.operands.toList.filterMap fun| .tmp t=>some t|_=>none
def y9r (ops:List Oper):Option (Nat×Bool)→List Nat
 |none=>[]
 |some (j,_)=>match z2d ops j with
  |some o=>o.dst.toList
  |none=>[]
def z60:Op→Bool
 | .load ..| .store ..| .lookup ..| .mapUpdate ..| .insert ..| .convert ..=>true
 | .call ⟨.builtin b,_,_⟩=>match b with
  | .min| .max=>false
  |_=>true
 | .call _=>true
 |_=>false
def y2i:Op→Bool
 | .store ..| .mapUpdate ..| .insert ..=>true
 | .call ⟨.builtin b,_,_⟩=>match b with
  | .min| .max| .len=>false
  |_=>true
 |_=>false
def z5l (o:Oper):List Nat:=(o.after.toList.filter (Region.binds .any)).map (·.on)
def z7q:List Nat→Nat→Nat
 |[],_=>0
 |x::_,0=>x
 |_::r,n+1=>z7q r n
def inB (s d:Nat):Bool:=eAk (Nat.land (Nat.shiftRight s d) 1) 1
def w9y (acc:List Nat):Nat→List Nat→Nat
 |a,[]=>a
 |a,d::r=>w9y acc (bif inB a d then a else Nat.lor (Nat.lor (Nat.shiftLeft 1 d) (z7q acc d)) a) r
def v6z (acc:List Nat) (l:List Nat):Nat:=w9y acc 0 l.reverse
def y1j:List Oper→List Nat→List Nat
 |[],acc=>acc
 |o::r,acc=>y1j r (acc++[v6z acc (z5l o)])
def y3x (x:Nat):List Nat→Bool
 |[]=>false
 |y::l=>eAk x y||y3x x l
theorem x8y {x:Nat} {l:List Nat}:y3x x l=true↔x∈l:=by
 induction l with
 |nil=>simp [y3x]
 |cons y l a=>
  simp only [y3x,eBh,a,eBa]
  constructor
  ·rintro (h|h)
   ·exact .inl (eAg h)
   ·exact .inr h
  ·rintro (rfl|h)
   ·exact .inl (eGj x)
   ·exact .inr h
def x8s:Option Nat→List Nat→Bool
 |none,_=>true
 |some t,l=>!y3x t l
def y2b (ops:List Oper) (a b:Oper):Bool:=
 x8s a.dst (y88 b.op++y9r ops b.guard++b.dst.toList)&&x8s b.dst (y88 a.op++y9r ops a.guard++a.dst.toList)
def w1z:List Nat→List Nat→Bool
 |[],_=>true
 |x::l,m=>!y3x x m&&w1z l m
theorem y90:∀ {l m:List Nat},w1z l m=true→∀ id∈l,id∉m
 |[],_,_,id,h=>by cases h
 |x::l,m,h,id,hid=>by
  simp only [w1z,eAf,eCy] at h
  rcases eBa.1 hid with rfl|hid
  ·intro hm; rw [x8y.2 hm] at h; cases h.1
  ·exact y90 h.2 id hid
def x6r:List (List Nat)→Nat→List Nat
 |[],_=>[]
 |x::_,0=>x
 |_::r,n+1=>x6r r n
theorem y0d:∀ (acc:List (List Nat)) (x:List Nat) (j:Nat),j<acc.length→x6r (acc++[x]) j=x6r acc j
 |[],_,_,h=>by simp at h
 |_::_,_,0,_=>rfl
 |_::acc,x,j+1,h=>y0d acc x j (by simpa using h)
theorem y0e:∀ (acc:List (List Nat)) (x:List Nat),x6r (acc++[x]) acc.length=x
 |[],_=>rfl
 |_::acc,x=>y0e acc x
def x39 (ops:List Oper) (b:Oper) (c:Nat):Nat→Nat→List Oper→Bool
 |0,_,_=>true
 |n+1,i,a::l=>(Nat.testBit c i||y2b ops a b)&&x39 ops b c n (i+1) l
 |_+1,_,[]=>true
def x87 (ops:List Oper):Nat→List Oper→List Nat→Bool
 |_,[],_=>true
 |j,b::l,c::a=>x39 ops b c j 0 ops&&x87 ops (j+1) l a
 |_,_::_,[]=>false
def y8f (ops:List Oper):Bool:=x87 ops 0 ops (y1j ops [])
theorem y68 {ops:List Oper} {b:Oper} {d:Nat}:∀ {n i:Nat} {l:List Oper},x39 ops b d n i l=true→∀ (k:Nat) (a:Oper),k<n→l[k]?=some a→d.testBit (i+k)=true∨y2b ops a b=true
 |0,_,_,_,k,a,e,_=>by omega
 |n+1,i,[],_,k,a,_,c=>by simp at c
 |n+1,i,x::l,h,k,a,e,c=>by
  simp only [x39,eAf,eBh] at h
  cases k with
  |zero=>simp at c; subst c; exact h.1
  |succ k=>
   have:=y68 h.2 k a (by omega) (by simpa using c)
   rw [show i+(k+1)=i+1+k by omega]; exact this
theorem y69 {ops:List Oper}:∀ {j:Nat} {l:List Oper} {a:List Nat},x87 ops j l a=true→∀ (k:Nat) (b:Oper),l[k]?=some b→x39 ops b (z7q a k) (j+k) 0 ops=true
 |j,[],_,_,k,b,c=>by simp at c
 |j,x::l,[],h,k,b,c=>by cases h
 |j,x::l,d::a,h,k,b,c=>by
  simp only [x87,eAf] at h
  cases k with
  |zero=>simp at c; subst c; exact h.1
  |succ k=>
   have:=y69 h.2 k b (by simpa using c)
   rw [show j+(k+1)=j+1+k by omega]; exact this
def z78 (ops:List Oper):Bool:=(eAv ops.length).all fun i=>match ops[i]? with
 |some o=>(z5l o).all fun j=>eBt j i
 |none=>true
theorem y9o {acc:List Nat} {j:Nat}:∀ {l:List Nat} {a:Nat},(w9y acc a l).testBit j=true→a.testBit j=true∨∃ d∈l,j=d∨(z7q acc d).testBit j=true
 |[],a,h=> .inl h
 |d::r,a,h=>by
  simp only [w9y] at h
  rcases y9o h with h|⟨e,he,h'⟩
  ·cases b:inB a d with
   |true=>rw [b] at h; exact .inl h
   |false=>
    rw [b] at h
    have h:(((1<<<d)|||z7q acc d)|||a).testBit j=true:=h
    rw [Nat.testBit_or,Nat.testBit_or,Nat.testBit_shiftLeft] at h
    simp only [eBh,eAf,decide_eq_true_eq] at h
    rcases h with (⟨f,c⟩|h)|h
    ·rw [Nat.testBit_one_eq_true_iff_self_eq_zero] at c
     exact .inr ⟨d,by simp, .inl (by omega)⟩
    ·exact .inr ⟨d,by simp, .inr h⟩
    ·exact .inl h
  ·exact .inr ⟨e,by simp [he],h'⟩
theorem w1p {acc:List Nat} {j:Nat} {l:List Nat} (h:(v6z acc l).testBit j=true):∃ d∈l,j=d∨(z7q acc d).testBit j=true:=by
 rcases y9o h with h|⟨d,a,h⟩
 ·simp at h
 ·exact ⟨d,by simpa using a,h⟩
theorem z73 {l:List Nat} {x i:Nat} (h:i<l.length):z7q (l++[x]) i=z7q l i:=by
 induction l generalizing i with
 |nil=>simp at h
 |cons y l a=>cases i with
  |zero=>rfl
  |succ i=>simpa [z7q] using a (by simpa using h)
theorem y6s (l:List Nat) (x:Nat):z7q (l++[x]) l.length=x:=by
 induction l with
 |nil=>rfl
 |cons y l a=>simpa [z7q] using a
theorem v5y {l:List Nat} {i:Nat} (h:l.length≤i):z7q l i=0:=by
 induction l generalizing i with
 |nil=>rfl
 |cons y l a=>cases i with
  |zero=>simp at h
  |succ i=>simpa [z7q] using a (by simpa using h)
theorem w7h (l:List Oper):∀ (acc:List Nat) (pre:List Oper),acc.length=pre.length→
  (∀ (i:Nat) (o:Oper),pre[i]?=some o→∀ j,(z7q acc i).testBit j=true→j∈z5l o∨∃ d∈z5l o,d<i∧(z7q acc d).testBit j=true)→
  ∀ (i:Nat) (o:Oper),(pre++l)[i]?=some o→∀ j,(z7q (y1j l acc) i).testBit j=true→j∈z5l o∨∃ d∈z5l o,d<i∧(z7q (y1j l acc) d).testBit j=true:=by
 induction l with
 |nil=>intro acc pre n h; simpa [y1j] using h
 |cons o l q=>
  intro acc pre n h
  have key:=q (acc++[v6z acc (z5l o)]) (pre++[o]) (by simp [n]) (fun i p b j a=>by
   rw [eBr] at b
   split at b
   ·rename_i r
    rw [z73 (by omega)] at a
    rcases h i p b j a with t|⟨d,e,m,f⟩
    ·exact .inl t
    ·exact .inr ⟨d,e,m,by rw [z73 (by omega)]; exact f⟩
   ·rename_i s
    have k:i - pre.length=0:=by
     have:=(eAe.1 b).1; simp at this; omega
    rw [k] at b; simp at b; subst b
    have g:i=acc.length:=by omega
    subst g
    rw [y6s] at a
    obtain ⟨d,e,a⟩:=w1p a
    rcases a with rfl|a
    ·exact .inl e
    ·by_cases c:d<acc.length
     ·exact .inr ⟨d,e,c,by rw [z73 c]; exact a⟩
     ·rw [v5y (by omega)] at a; simp at a)
  simpa [y1j,eDr] using key
theorem y2c:∀ (l:List Oper) (acc:List Nat),(y1j l acc).length=acc.length+l.length
 |[],acc=>rfl
 |o::l,acc=>by simp only [y1j,y2c l,eCz,eCa,eDw]; omega
structure Rec where
 v:AV
 u:List (Nat×AO)
def stF (s:AS) (ops:List Oper) (recs:List Rec):Nat→AS
 |0=>s
 |i+1=>match ops[i]?,recs[i]? with
  |some o,some r=>z4p (stF s ops recs i) o.dst r.v r.u
  |_,_=>stF s ops recs i
def x6x:List (Nat×AO)→Nat→AO→AO
 |[],_,x=>x
 |(i,o)::r,id,x=>x6x r id (if i=id then o else x)
theorem y1y (u:List (Nat×AO)):∀ (h:List AO) (id:Nat),z0e (z08 h u) id=x6x u id (z0e h id):=by
 induction u with
 |nil=>intro h id; rfl
 |cons x u a=>
  intro h id
  obtain ⟨i,o⟩:=x
  simp only [z08,x6x,a]
  congr 1
  split
  ·rename_i e; subst e; rw [z0g]
  ·rename_i e; rw [z0c _ _ _ _ e]
theorem z5y {u:List (Nat×AO)} {id:Nat} (h:∀ o,(id,o)∉u) (x:AO):x6x u id x=x:=by
 induction u generalizing x with
 |nil=>rfl
 |cons y u d=>
  obtain ⟨i,o⟩:=y
  have b:i≠id:=by rintro rfl; exact h o (by simp)
  simp only [x6x,if_neg b]
  exact d (fun c a=>h c (by simp [a])) x
section
variable (s:AS) (ops:List Oper) (recs:List Rec) (S:Nat→Bool)
def y7w (t:Nat):Nat→AV
 |0=>z0z s.env t
 |i+1=>match ops[i]?,recs[i]? with
  |some o,some r=>if S i=true∧o.dst=some t then r.v else y7w t i
  |_,_=>y7w t i
def y5s (id:Nat):Nat→AO
 |0=>z0e s.heap id
 |i+1=>match ops[i]?,recs[i]? with
  |some _,some r=>if S i=true then x6x r.u id (y5s id i) else y5s id i
  |_,_=>y5s id i
end
theorem w8r (s:AS) (ops:List Oper) (recs:List Rec) (S:Nat→Bool) (t:Nat):∀ m,(∀ i,i<m→S i=true)→y7w s ops recs S t m=z0z (stF s ops recs m).env t:=by
 intro m
 induction m with
 |zero=>intro _; rfl
 |succ m a=>
  intro h
  have:=a (fun i f=>h i (by omega))
  simp only [y7w,stF]
  split
  ·rename_i o r c b
   simp only [z4p]
   cases g:o.dst with
   |none=>simp [y4g,this]
   |some d=>
    simp only [y4g]
    by_cases e:d=t
    ·subst e; rw [if_pos ⟨h m (by omega),rfl⟩,z09]
    ·rw [if_neg (by simp [e]),z1t _ _ _ _ e,this]
  ·exact this
theorem w8q (s:AS) (ops:List Oper) (recs:List Rec) (S:Nat→Bool) (id:Nat):∀ m,(∀ i,i<m→S i=true)→y5s s ops recs S id m=z0e (stF s ops recs m).heap id:=by
 intro m
 induction m with
 |zero=>intro _; rfl
 |succ m a=>
  intro h
  have:=a (fun i d=>h i (by omega))
  simp only [y5s,stF]
  split
  ·rename_i o r c b
   simp only [z4p]
   rw [if_pos (h m (by omega)),y1y,this]
  ·exact this
theorem y3h (s : AS) (ops : List Oper) (recs : List Rec) (S : Nat → Bool) (t i : Nat) : ∀ m, i ≤ m →
    (∀ (j : Nat) (o : Oper), ops[j]? = some o → o.dst = some t → j < i → S j = true) → (∀ (j : Nat) (o : Oper), ops[j]? = some o → o.dst = some t → i ≤ j → j < m → S j = false) →
    y7w s ops recs S t m = z0z (stF s ops recs i).env t := by
  have low : ∀ k, k ≤ i → (∀ (j : Nat) (o : Oper), ops[j]? = some o → o.dst = some t → j < i → S j = true) → y7w s ops recs S t k = z0z (stF s ops recs k).env t := by
    intro k
    induction k with
    | zero => intro _ _; rfl
    | succ k ih =>
      intro hk h
      have := ih (by omega) h
      simp only [y7w, stF]
      split
      · rename_i o r ho hr
        simp only [z4p]
        cases hd : o.dst with
        | none => simp [y4g, this]
        | some d =>
          simp only [y4g]
          by_cases e : d = t
          · subst e; rw [if_pos ⟨h k o ho hd (by omega), rfl⟩, z09]
          · rw [if_neg (by simp [e]), z1t _ _ _ _ e, this]
      · exact this
  intro m hm h1 h2
  induction m with
  | zero => have : i = 0 := by omega
            subst this; rfl
  | succ m ih =>
    by_cases e : i = m + 1
    · rw [← e]; exact low i (eAp _) h1
    · have := ih (by omega) (fun j o a b c d => h2 j o a b c (by omega))
      simp only [y7w]
      split
      · rename_i o r ho hr
        rw [if_neg, this]
        rintro ⟨a, b⟩
        have := h2 m o ho b (by omega) (by omega)
        rw [this] at a; cases a
      · exact this
theorem y3g (s : AS) (ops : List Oper) (recs : List Rec) (S : Nat → Bool) (id i : Nat) : ∀ m, i ≤ m →
    (∀ (j : Nat) (r : Rec), recs[j]? = some r → (∃ o, (id, o) ∈ r.u) → j < i → S j = true) → (∀ (j : Nat) (r : Rec), recs[j]? = some r → (∃ o, (id, o) ∈ r.u) → i ≤ j → j < m → S j = false) →
    y5s s ops recs S id m = z0e (stF s ops recs i).heap id := by
  have low : ∀ k, k ≤ i → (∀ (j : Nat) (r : Rec), recs[j]? = some r → (∃ o, (id, o) ∈ r.u) → j < i → S j = true) → y5s s ops recs S id k = z0e (stF s ops recs k).heap id := by
    intro k
    induction k with
    | zero => intro _ _; rfl
    | succ k ih =>
      intro hk h
      have := ih (by omega) h
      simp only [y5s, stF]
      split
      · rename_i o r ho hr
        simp only [z4p]
        rw [y1y]
        by_cases e : ∃ q, (id, q) ∈ r.u
        · rw [if_pos (h k r hr e (by omega)), this]
        · have hn : ∀ q, (id, q) ∉ r.u := fun q hq => e ⟨q, hq⟩
          rw [z5y hn, z5y hn]
          split <;> exact this
      · exact this
  intro m hm h1 h2
  induction m with
  | zero => have : i = 0 := by omega
            subst this; rfl
  | succ m ih =>
    by_cases e : i = m + 1
    · rw [← e]; exact low i (eAp _) h1
    · have := ih (by omega) (fun j o a b c d => h2 j o a b c (by omega))
      simp only [y5s]
      split
      · rename_i o r ho hr
        by_cases e2 : ∃ q, (id, q) ∈ r.u
        · rw [if_neg, this]
          intro a
          have := h2 m r hr e2 (by omega) (by omega)
          rw [this] at a; cases a
        · have hn : ∀ q, (id, q) ∉ r.u := fun q hq => e2 ⟨q, hq⟩
          rw [z5y hn]
          split <;> exact this
      · exact this
theorem w28 (s:AS) (ops:List Oper) (recs:List Rec) (S:Nat→Bool) (i:Nat) {o:Oper} {r:Rec} (l:ops[i]?=some o) (f:recs[i]?=some r) (t:Nat):∀ m,i<m→
  (∀ (j:Nat) (p:Oper),ops[j]?=some p→i<j→S j=true→∀ d,o.dst=some d→p.dst≠some d)→
  y7w s ops recs (fun j=>S j||eAk j i) t m=if o.dst=some t then r.v else y7w s ops recs S t m:=by
 have low:∀ k,k≤i→y7w s ops recs (fun j=>S j||eAk j i) t k=y7w s ops recs S t k:=by
  intro k
  induction k with
  |zero=>intro _; rfl
  |succ k c=>
   intro u
   have:=c (by omega)
   have b:eAk k i=false:=by cases h:eAk k i with
    |false=>rfl
    |true=>have:=eAg h; omega
   simp only [y7w,b,eGd,this]
 intro m hm h
 induction m with
 |zero=>omega
 |succ m c=>
  by_cases e:i=m
  ·subst e
   have b:eAk i i=true:=eGj i
   simp only [y7w,l,f,b,Bool.or_true,true_and]
   rw [low i (eAp _)]
   by_cases a:o.dst=some t
   ·rw [if_pos a,if_pos a]
   ·rw [if_neg a,if_neg a,if_neg (fun h=>a h.2)]
  ·have:=c (by omega)
   have b:eAk m i=false:=by cases h:eAk m i with
    |false=>rfl
    |true=>have:=eAg h; omega
   simp only [y7w,b,eGd]
   split
   ·rename_i p q g n
    by_cases hS:S m=true∧p.dst=some t
    ·rw [if_pos hS]
     by_cases a:o.dst=some t
     ·exact absurd hS.2 (h m p g (by omega) hS.1 t a)
     ·rw [if_neg a,if_pos hS]
    ·rw [if_neg hS,this]
     by_cases a:o.dst=some t
     ·rw [if_pos a,if_pos a]
     ·rw [if_neg a,if_neg a,if_neg hS]
   ·exact this
theorem w27 (s:AS) (ops:List Oper) (recs:List Rec) (S:Nat→Bool) (i:Nat) {o:Oper} {r:Rec} (n:ops[i]?=some o) (g:recs[i]?=some r) (t:S i=false) (id:Nat):∀ m,i<m→
  (∀ (j:Nat) (q:Rec),recs[j]?=some q→i<j→S j=true→(∃ x,(id,x)∈r.u)→∀ x,(id,x)∉q.u)→
  y5s s ops recs (fun j=>S j||eAk j i) id m=x6x r.u id (y5s s ops recs S id m):=by
 have low:∀ k,k≤i→y5s s ops recs (fun j=>S j||eAk j i) id k=y5s s ops recs S id k:=by
  intro k
  induction k with
  |zero=>intro _; rfl
  |succ k c=>
   intro w
   have:=c (by omega)
   have b:eAk k i=false:=by cases h:eAk k i with
    |false=>rfl
    |true=>have:=eAg h; omega
   simp only [y5s,b,eGd,this]
 intro m hm h
 induction m with
 |zero=>omega
 |succ m c=>
  by_cases e:i=m
  ·subst e
   have b:eAk i i=true:=eGj i
   simp only [y5s,n,g,b,Bool.or_true,if_true,t]
   rw [low i (eAp _)]
   simp
  ·have:=c (by omega)
   have b:eAk m i=false:=by cases h:eAk m i with
    |false=>rfl
    |true=>have:=eAg h; omega
   simp only [y5s,b,eGd]
   split
   ·rename_i p q v l
    by_cases hS:S m=true
    ·rw [if_pos hS,if_pos hS,this]
     by_cases d:∃ x,(id,x)∈r.u
     ·have a:=h m q l (by omega) hS d
      rw [z5y a,z5y a]
     ·have a:∀ x,(id,x)∉r.u:=fun x f=>d ⟨x,f⟩
      rw [z5y a,z5y a]
    ·rw [if_neg hS,if_neg hS,this]
   ·exact this
mutual
def tid:AV→List Nat
 | .bptr id _=>[id]
 | .ptr id _ _=>[id]
 | .slice id _ _ _ _=>[id]
 | .map id=>[id]
 | .clo _ fs cs=>y46 fs++y46 cs
 | .agg l=>y46 l
 | .tuple l=>y46 l
 |_=>[]
def y46:List AV→List Nat
 |[]=>[]
 |x::l=>tid x++y46 l
end
def x2x:AV→List Nat
 | .bptr id _=>[id]
 |_=>[]
def u0x (env:List (Nat×AV)):Op→List Nat
 | .indexAddr _ x _=>x2x (z0m env x)
 | .slice _ x _ _ _=>x2x (z0m env x)
 |_=>[]
def z38 (env:List (Nat×AV)) (op:Op):List Nat:=if z60 op then (op.operands.toList.map fun x=>tid (z0m env x)).flatten else u0x env op
def v4n:Op→Bool
 | .alloc _| .box ..| .buildSlice ..| .makeSlice ..| .makeMap ..=>true
 | .call ⟨.builtin .append,_,_⟩=>true
 |_=>false
section
variable {T:TypeId→Option TI} {G:Nat→Option (List D)} {env env':List (Nat×AV)} {h h':List AO}
theorem z9k {l:List Operand} (he:∀ x∈l,z0m env' x=z0m env x):z06 env' l=z06 env l:=by
 rw [z27,z27]; exact List.map_congr_left he
theorem y7g {l:List (Nat×Operand)} (he:∀ x∈l,z0m env' x.2=z0m env x.2):y22 env' l=y22 env l:=by
 rw [x12,x12]; exact List.map_congr_left fun x a=>by rw [he x a]
theorem z9j {o:Option Operand} (he:∀ x,o=some x→z0m env' x=z0m env x):z9z env' o=z9z env o:=by
 cases o with
 |none=>rfl
 |some x=>simp [z9z,he x rfl]
theorem y5y (a:AV):tid (z93 a)=tid a:=by
 unfold z93
 split<;>rfl
theorem y75 {ti:TI} {r:List D} {ra:List AV} {a:AV} (b:∀ id∈tid a,z0e h' id=z0e h id):z2z ti h' r ra a=z2z ti h r ra a:=by
 cases a<;>simp only [z2z,tid,eBn,forall_eq] at b⊢ <;>rw [b]
theorem y50 {ti:TI} {r:List D} {ra:List AV} {a x:AV} (b:∀ id∈tid a,z0e h' id=z0e h id):z5e std ti h' r ra a x=z5e std ti h r ra a x:=by
 have:∀ cells,z40 std h' r ra cells a=z40 std h r ra cells a:=by
  intro cells
  cases a<;>simp only [z40,tid,eBn,forall_eq] at b⊢ <;>rw [b]
 unfold z5e
 simp only [this]
theorem y70 {a:AV} (b:∀ id∈x2x a,z0e h' id=z0e h id):z4x h' a=z4x h a:=by
 cases a<;>first|rfl|(simp only [z4x,x2x,eBn,forall_eq] at b⊢; rw [b])
theorem y1p {ti:TI} {r:List D} {a i:AV} (b:∀ id∈x2x a,z0e h' id=z0e h id):z3p std std ti h' r a i=z3p std std ti h r a i:=by
 cases a with
 |bptr id off=>
  simp only [x2x,eBn,forall_eq] at b
  cases i<;>try rfl
  rename_i x
  cases x<;>try rfl
  simp only [z3p,b]
 |d x=>cases x<;>first|rfl|(cases i<;>first|rfl|(rename_i y; cases y<;>rfl))
 |_=>first|rfl|(cases i<;>first|rfl|(rename_i y; cases y<;>rfl))
theorem y51 {ti:TI} {r:List D} {a:AV} {b c mx:Option AV} (e:∀ id∈x2x a,z0e h' id=z0e h id):z61 std ti h' r a b c mx=z61 std ti h r a b c mx:=by
 unfold z61
 cases a with
 |bptr id off=>
  simp only [x2x,eBn,forall_eq] at e
  simp only [e]
 |d x=>cases x<;>rfl
 |_=>rfl
theorem w3c {ti:TI} (a:AV):x2x (v0g ti a)=x2x a:=by
 unfold v0g
 split
 ·split
  ·rename_i z es _ _ _ _ _
   cases eAk _ 0<;>(try rfl)
   simp only [cond_true]
   split<;>rfl
  ·rfl
 ·rfl
theorem y2e {n:Nat} {a:AV} (b:∀ id∈tid a,z0e h' id=z0e h id):z6h h' n a=z6h h n a:=by
 cases a<;>simp only [z6h,tid,eBn,forall_eq] at b⊢ <;>rw [b]
theorem z4d {z:Nat} {a:AV} (b:∀ id∈tid a,z0e h' id=z0e h id):z3d std z h' a=z3d std z h a:=by
 cases a<;>first
  |(simp only [z3d,tid,eBn,forall_eq] at b⊢; rw [b]; done)
  |rfl
  |(rename_i x; cases x<;>rfl)
theorem y4z {ti:TI} {new:Nat} {q:Bool} {r:List D} {s x:AV} (a:∀ id∈tid s,z0e h' id=z0e h id) (g:∀ id∈tid x,z0e h' id=z0e h id):z14 std ti h' new q r s x=z14 std ti h new q r s x:=by
 have e:∀ id z off len c,s= .slice id z off len c→z0e h' id=z0e h id:=fun id z off len c e=>a id (by rw [e]; simp [tid])
 have f:∀ z,z3d std z h' x=z3d std z h x:=fun z=>z4d g
 have b:∀ z,z3d std z h' s=z3d std z h s:=fun z=>z4d a
 unfold z14
 simp only [f,b]
 clear f b
 split
 ·congr 1
  split
  ·clear ‹z3d std _ h s=_›
   cases s with
   |slice id z off len c=>
    cases c with
    |none=>rfl
    |some c=>simp only [e _ _ _ _ _ rfl]
   |d y=>cases y<;>rfl
   |_=>rfl
  ·rfl
 ·rfl
theorem x5x {ti:TI} {s x:AV} (a:∀ id∈tid s,z0e h' id=z0e h id) (e:∀ id∈tid x,z0e h' id=z0e h id):y4t std ti h' s x=y4t std ti h s x:=by
 have d:∀ z,z3d std z h' x=z3d std z h x:=fun z=>z4d e
 have b:∀ z,z3d std z h' s=z3d std z h s:=fun z=>z4d a
 unfold y4t
 simp only [d,b]
 clear d b
 split
 ·congr 1
  cases f:x78 s with
  |none=>rfl
  |some y=>
   obtain ⟨id,g,off,len,c⟩:=y
   have:=x3i f
   subst this
   simp only [a id (by simp [tid])]
 ·rfl
theorem y3n {ti:TI} {new:Nat} {q:Bool} {r:List D} {s x:AV} (b:∀ id∈tid s,z0e h' id=z0e h id) (a:∀ id∈tid x,z0e h' id=z0e h id):z2s std ti h' new q r s x=z2s std ti h new q r s x:=by
 unfold z2s
 rw [y4z b a,x5x b a]
theorem x51 {ti:TI} {s x:AV} (b:∀ id∈tid s,z0e h' id=z0e h id) (a:∀ id∈tid x,z0e h' id=z0e h id):x52 std ti h' s x=x52 std ti h s x:=by
 have d:∀ z,z3d std z h' x=z3d std z h x:=fun z=>z4d a
 have c:∀ z,z3d std z h' s=z3d std z h s:=fun z=>z4d b
 unfold x52
 simp only [d,c]
theorem y3m {ti:TI} {new:Nat} {q:Bool} {r:List D} {s x:AV} (b:∀ id∈tid s,z0e h' id=z0e h id) (a:∀ id∈tid x,z0e h' id=z0e h id):z2r std ti h' new q r s x=z2r std ti h new q r s x:=by
 unfold z2r
 rw [y3n b a,x51 b a]
theorem w1g {ti:TI} {x:AV} (a:∀ id∈tid x,z0e h' id=z0e h id):w9r std ti h' x=w9r std ti h x:=by
 cases x<;>first
  |(simp only [w9r,tid,eBn,forall_eq] at a⊢; rw [a]; done)
  |rfl
  |(rename_i y; cases y<;>rfl)
theorem y76 {ti:TI} {d s:AV} (g:∀ id∈tid d,z0e h' id=z0e h id) (f:∀ id∈tid s,z0e h' id=z0e h id):z7m std ti h' d s=z7m std ti h d s:=by
 have i:∀ z,z3d std z h' s=z3d std z h s:=fun z=>z4d f
 unfold z7m
 simp only [i]
 cases k:ti.desc with
 |slc e z m n ez=>
  simp only []
  generalize z3d std z h s=E
  cases E with
  |none=>cases d<;>rfl
  |some p=>
   obtain ⟨o,b⟩:=p
   cases b with
   |a es=>cases d<;>rfl
   |d es=>
    cases d with
    |slice id j off len c=>have:=g id (by simp [tid]); simp only [this]
    |d x=>cases x<;>first|rfl|(rename_i l; cases l<;>rfl)
    |_=>rfl
 |_=>rfl
theorem y4x {ti:TI} {m:AV} {q:Bool} {r:List D} (hm:∀ id∈tid m,z0e h' id=z0e h id):z48 std ti h' q r m=z48 std ti h q r m:=by
 unfold z48
 cases a:ti.desc with
 |map ks ka ez=>
  cases m with
  |map id=>have:=hm id (by simp [tid]); simp only [this]
  |_=>rfl
 |_=>rfl
theorem y4u {ti:TI} {m k x:AV} {q:Bool} {r:List D} (hm:∀ id∈tid m,z0e h' id=z0e h id):z47 std ti h' q r m k x=z47 std ti h q r m k x:=by
 unfold z47
 cases a:ti.desc with
 |map ks ka ez=>
  cases m with
  |map id=>have:=hm id (by simp [tid]); cases k<;>first|rfl|(cases x<;>first|rfl|simp only [this])
  |_=>rfl
 |_=>rfl
theorem x69 {ti:TI} {m k:AV} (hm:∀ id∈tid m,z0e h' id=z0e h id):z34 std ti h' m k=z34 std ti h m k:=by
 unfold z34
 cases a:ti.desc with
 |map ks ka ez=>
  cases k with
  |d k=>cases m with
   |map id=>have:=hm id (by simp [tid]); simp only [this]
   |d x=>cases x<;>rfl
   |_=>rfl
  |_=>rfl
 |_=>rfl
theorem y1m {t:TypeId} {m k:AV} (hm:∀ id∈tid m,z0e h' id=z0e h id):y2f std T t h' m k=y2f std T t h m k:=by
 unfold y2f; simp only [x69 hm]
theorem y56 {ti:TI} {d:AV} (a:∀ id∈tid d,z0e h' id=z0e h id):z56 std ti h' d=z56 std ti h d:=by
 unfold z56
 split
 ·congr 1
  cases d with
  |slice id z off len c=>simp only [tid,eBn,forall_eq] at a; simp only [a]
  |d y=>cases y with
   |list f z es=>cases es<;>rfl
   |_=>rfl
  |_=>rfl
 ·rfl
theorem y3k {b:Builtin} {ts:List TypeId} {xs:List AV} {new:Nat} {q:Bool} {r:List D} (a:b≠ .min→b≠ .max→∀ y∈xs,∀ id∈tid y,z0e h' id=z0e h id):z1q std T h' new q r b ts xs=z1q std T h new q r b ts xs:=by
 unfold z1q
 split
 ·split
  ·exact w1g (a (by simp) (by simp) _ (by simp))
  ·rfl
 ·split
  ·split
   ·exact y3m (a (by simp) (by simp) _ (by simp)) (a (by simp) (by simp) _ (by simp))
   ·rfl
  ·rfl
 ·split
  ·exact y76 (a (by simp) (by simp) _ (by simp)) (a (by simp) (by simp) _ (by simp))
  ·rfl
 ·split
  ·exact y4x (a (by simp) (by simp) _ (by simp))
  ·rfl
 ·split
  ·exact y56 (a (by simp) (by simp) _ (by simp))
  ·rfl
 ·rfl
 ·rfl
 ·rfl
theorem y0v {op:Op} (b:z60 op=true) {x:Operand} (a:x∈op.operands) (c:∀ id∈z38 env op,z0e h' id=z0e h id):∀ id∈tid (z0m env x),z0e h' id=z0e h id:=by
 intro id hid
 refine c id ?_
 unfold z38
 rw [if_pos b]
 simp only [eFv,eBq]
 exact ⟨_,⟨x,by simpa using a,rfl⟩,hid⟩
theorem y15 {x:Operand} (h:z0m env' x=z0m env x):z6t G env' x=z6t G env x:=by
 cases x<;>first|rfl|exact h
theorem w5x {x:Operand} {id:Nat} (h:id∈tid (z6t G env x)):id∈tid (z0m env x):=by
 rcases z9l G env x with e|⟨c,e⟩
 ·rwa [e] at h
 ·rw [e] at h; simp [tid] at h
theorem w1y {x:Operand} {id:Nat} (h:id∈x2x (z6t G env x)):id∈x2x (z0m env x):=by
 rcases z9l G env x with e|⟨c,e⟩
 ·rwa [e] at h
 ·rw [e] at h; simp [x2x] at h
theorem x57 {new:Nat} {q:Bool} {r:List D} {ra:List AV} {op:Op} (he:∀ x∈op.operands,z0m env' x=z0m env x) (z:∀ id∈z38 env op,z0e h' id=z0e h id):
  z0t std T G env' h' new q r ra op=z0t std T G env h new q r ra op∧z1b std T env' h' op=z1b std T env h op:=by
 cases op with
 |load t a=>
  have e:=he a (by simp [eAx])
  have d:=y0v (op:= .load t a) rfl (x:=a) (by simp [eAx]) z
  rw [←y5y] at d
  have p:∀ id∈tid (z93 (z6t G env a)),z0e h' id=z0e h id:=fun id hid=>by
   rw [y5y] at hid
   refine d id ?_
   rw [y5y]; exact w5x hid
  simp only [z0t,z1b,e,y15 (G:=G) e,y75 p,y2e d,and_self]
 |store t a x=>
  have e:=he a (by simp [eAx])
  have g:=he x (by simp [eAx])
  have d:=y0v (op:= .store t a x) rfl (x:=a) (by simp [eAx]) z
  simp only [z0t,z1b,e,g,y50 d,y2e d,and_self]
 |call c=>
  obtain ⟨callee,args,v⟩:=c
  cases callee with
  |builtin b=>
   have e:z06 env' args.toList=z06 env args.toList:=z9k fun x j=>he x (by simp [eAx,eDs]; simpa using j)
   have w:b≠ .min→b≠ .max→∀ y∈z06 env args.toList,∀ id∈tid y,z0e h' id=z0e h id:=by
    intro H M y u
    rw [z27] at u
    obtain ⟨x,j,rfl⟩:=eBq.1 u
    exact y0v (op:= .call ⟨.builtin b,args,v⟩) (by cases b<;>first|rfl|exact absurd rfl H|exact absurd rfl M) (x:=x) (by simp [eAx,eDs]; simpa using j) z
   refine ⟨?_,?_⟩
   ·show z1q std T h' new q r b v.toList (z06 env' args.toList)=z1q std T h new q r b v.toList (z06 env args.toList)
    rw [e]; exact y3k w
   ·by_cases C:b= .append
    ·subst C
     show (match z06 env' args.toList with|[s,x]=>w24 (z3x std s x)|_=> .none)=(match z06 env args.toList with|[s,x]=>w24 (z3x std s x)|_=> .none)
     rw [e]
    ·by_cases B:b= .delete
     ·subst B
      show (match v.toList,z06 env' args.toList with|t::_,[m,k]=>y2f std T t h' m k|_,_=> .m none)=(match v.toList,z06 env args.toList with|t::_,[m,k]=>y2f std T t h m k|_,_=> .m none)
      rw [e]
      have w:=w (by simp) (by simp)
      split
      ·rename_i H
       exact y1m (w _ (by rw [H]; simp))
      ·rfl
     ·cases b<;>first|rfl|exact absurd rfl C|exact absurd rfl B
  |_=>exact ⟨rfl,rfl⟩
 |move x=>simp [z0t,z1b,he x (by simp [eAx])]
 |assign x=>simp [z0t,z1b,he x (by simp [eAx])]
 |pick c a b=>simp [z0t,z1b,he c (by simp [eAx]),he a (by simp [eAx]),he b (by simp [eAx])]
 |alloc t=>simp [z0t,z1b]
 |box t x=>simp [z0t,z1b,he x (by simp [eAx])]
 |build t A=>
  have:y22 env' A.toList=y22 env A.toList:=y7g fun x j=>he x.2 (by simp [eAx]; exact ⟨x.1,by simpa using j⟩)
  simp [z0t,z1b,this]
 |buildSlice t len A=>
  have:y22 env' A.toList=y22 env A.toList:=y7g fun x j=>he x.2 (by simp [eAx]; exact ⟨x.1,by simpa using j⟩)
  simp [z0t,z1b,this]
 |nilCheck x=>simp [z0t,z1b,he x (by simp [eAx])]
 |binOp op t x y N=>simp [z0t,z1b,he x (by simp [eAx]),he y (by simp [eAx])]
 |unOp op t x=>simp [z0t,z1b,he x (by simp [eAx])]
 |convert s t x=>
  have e:=he x (by simp [eAx])
  have d:=y0v (op:= .convert s t x) rfl (x:=x) (by simp [eAx]) z
  have g:∀ v F,z62 std T h' v F (z0m env x)=z62 std T h v F (z0m env x):=fun v F=>by
   unfold z62
   rw [z4d d]
  simp only [z0t,z1b,e,g,and_self]
 |makeFunc fn f c=>
  have E:z06 env' f.toList=z06 env f.toList:=z9k fun x j=>he x (by simp [eAx]; left; simpa using j)
  have g:z06 env' c.toList=z06 env c.toList:=z9k fun x j=>he x (by simp [eAx]; right; simpa using j)
  simp [z0t,z1b,E,g]
 |makeSlice t l c=>simp [z0t,z1b,he l (by simp [eAx]),he c (by simp [eAx])]
 |slice t x K L J=>
  have E:z9z env' K=z9z env K:=z9j fun y u=>he y (by subst u; simp [eAx])
  have g:z9z env' L=z9z env L:=z9j fun y u=>he y (by subst u; simp [eAx])
  have I:z9z env' J=z9z env J:=z9j fun y u=>he y (by subst u; simp [eAx])
  have e:=he x (by simp [eAx])
  have d:∀ id∈x2x (z0m env x),z0e h' id=z0e h id:=z
  have p:∀ ti:TI,∀ id∈x2x (v0g ti (z0m env x)),z0e h' id=z0e h id:=fun ti=>by rw [w3c]; exact d
  simp only [z0t,z1b,e,E,g,I,y51 (p _),y70 d,and_self]
 |fieldAddr t x f=>simp [z0t,z1b,y15 (G:=G) (he x (by simp [eAx]))]
 |field t x f=>simp [z0t,z1b,he x (by simp [eAx])]
 |indexAddr t x i=>
  have e:=he x (by simp [eAx])
  have g:=he i (by simp [eAx])
  have d:∀ id∈x2x (z0m env x),z0e h' id=z0e h id:=z
  have p:∀ id∈x2x (z6t G env x),z0e h' id=z0e h id:=fun id hid=>d id (w1y hid)
  simp only [z0t,z1b,e,y15 (G:=G) e,g,x6k,y1p p,and_self]
 |index t x i=>simp [z0t,z1b,he x (by simp [eAx]),he i (by simp [eAx])]
 |extract x i=>simp [z0t,z1b,he x (by simp [eAx])]
 |makeMap t n=>
  have E:z9z env' n=z9z env n:=z9j fun y u=>he y (by subst u; simp [eAx])
  simp [z0t,z1b,E]
 |lookup t m k o=>
  have e:=he m (by simp [eAx])
  have g:=he k (by simp [eAx])
  have d:=y0v (op:= .lookup t m k o) rfl (x:=m) (by simp [eAx]) z
  simp only [z0t,z1b,e,g,y1m d,and_self]
 |mapUpdate t m k x=>
  have e:=he m (by simp [eAx])
  have g:=he k (by simp [eAx])
  have I:=he x (by simp [eAx])
  have d:=y0v (op:= .mapUpdate t m k x) rfl (x:=m) (by simp [eAx]) z
  simp only [z0t,z1b,e,g,I,y1m d,y4u d,and_self]
 |_=>exact ⟨rfl,rfl⟩
theorem z4l {α:Type} {b:Bool} {x:Option α} {r:α} (h:(bif b then x else none)=some r):x=some r:=by
 cases b with
 |false=>cases h
 |true=>exact h
theorem y9e {v:AV} {res:Res} (h:ok v=some res):res.u=[]:=by cases h; rfl
theorem x5e {α:Type} {x:Option α} {f:α→Option Res} {res:Res} (h:x.bind f=some res) (b:∀ a,f a=some res→res.u=[]):res.u=[]:=by
 cases x with
 |none=>cases h
 |some a=>exact b a h
theorem x5y {ti:TI} {r:List D} {ra:List AV} {a x:AV} {res:Res} (b:z5e std ti h r ra a x=some res):∀ id o,(id,o)∈res.u→id∈tid a:=by
 unfold z5e at b
 split at b
 ·cases d:(eAz 1 ti.size&&(z8s ‹List AV› ti.size&&z7t ‹List AV›)) with
  |false=>rw [d] at b; cases b
  |true=>
   rw [d] at b
   simp only [cond_true] at b
   cases a<;>simp only [z40] at b<;>(repeat' split at b)<;>first
    |cases b; done
    |(cases b; intro id o c; simp at c; simp [tid,c.1])
 ·cases b
theorem x29 {ti:TI} {new:Nat} {q:Bool} {r:List D} {s x:AV} {res:Res} (a:z14 std ti h new q r s x=some res):∀ id o,(id,o)∈res.u→id=new∨id∈tid s:=by
 unfold z14 at a
 split at a
 ·generalize (eAz 1 _&&eAz _ 60000)=b at a
  cases b with
  |false=>cases a
  |true=>
   simp only [cond_true] at a
   have d:∀ (b:Bool) (u v:Option Res),(bif b then u else v)=some res→u=some res∨v=some res:=by
    intro b u v h
    cases b with
    |false=>exact .inr h
    |true=>exact .inl h
   split at a
   ·split at a
    ·split at a
     ·rcases d _ _ _ a with a|a
      ·split at a
       ·cases a; intro id o c; simp at c
       ·cases a
      ·cases a; intro id o c; simp at c; simp [tid]; omega
     ·cases a
    all_goals (repeat' split at a)<;>first
     |cases a; done
     |(cases a; intro id o c; simp at c; simp [tid]; omega)
     |(cases a; intro id o c; simp at c; rcases c with c|c<;>simp [tid,c.1])
     |(cases a; intro id o c; simp at c; simp [tid,c.1])
   ·cases a
 ·cases a
theorem v5c {ti:TI} {s x:AV} {res:Res} (g:y4t std ti h s x=some res):∀ id o,(id,o)∈res.u→id∈tid s:=by
 obtain ⟨e,z,p,q,ez,id,l,off,len,c,r,cs,k,es,m,a,n,rfl,f,j,b,rfl⟩:=y5z g
 intro i o d
 rw [eBn] at d
 cases d
 simp [tid]
theorem x04 {ti:TI} {new:Nat} {q:Bool} {r:List D} {s x:AV} {res:Res} (g:z2s std ti h new q r s x=some res):∀ id o,(id,o)∈res.u→id=new∨id∈tid s:=by
 obtain ⟨a,b,rfl⟩:=z9t g
 have c:∀ id o,(id,o)∈a.u→id=new∨id∈tid s:=by
  rcases b with ⟨_,b⟩|b
  ·exact fun id o hm=> .inr (v5c b id o hm)
  ·exact x29 b
 intro id o hm
 rcases y0i r a with e|⟨f,z,off,len,cap,es,i,_,_,d,e⟩
 ·rw [e] at hm; exact c id o hm
 ·rw [e] at hm
  rcases eBx.1 hm with hm|hm
  ·exact c id o hm
  ·rw [eBn] at hm
   cases hm
   exact c _ _ d
theorem x03 {ti:TI} {new:Nat} {q:Bool} {r:List D} {s x:AV} {res:Res} (a:z2r std ti h new q r s x=some res):∀ id o,(id,o)∈res.u→id=new∨id∈tid s:=by
 unfold z2r at a
 cases b:u2i r with
 |true=>
  rw [b] at a
  obtain ⟨e,z,j,k,ez,id,f,off,len,c,l,cs,g,es,_,_,_,_,_,rfl⟩:=y52 a
  intro i o d
  cases d
 |false=>rw [b] at a; exact x04 a
theorem w0u {ti:TI} {d x:AV} {res:Res} (a:z7m std ti h d x=some res):∀ id o,(id,o)∈res.u→id∈tid d:=by
 unfold z7m at a
 split at a
 ·replace a:=z4l a
  split at a
  ·replace a:=z4l a
   split at a
   ·cases a; intro id o b; simp at b; simp [tid,b.1]
   ·cases a
  ·cases a; intro id o b; simp at b
  ·cases a
 ·cases a
theorem x55 {ti:TI} {d:AV} {res:Res} (a:z56 std ti h d=some res):∀ id o,(id,o)∈res.u→id∈tid d:=by
 unfold z56 at a
 split at a
 ·replace a:=z4l a
  split at a
  ·replace a:=z4l a
   split at a
   ·cases a; intro id o b; simp at b; simp [tid,b.1]
   ·cases a
  ·cases a; intro id o b; simp at b
  ·cases a
 ·cases a
theorem x23 {ti:TI} {m:AV} {q:Bool} {r:List D} {res:Res} (a:z48 std ti h q r m=some res):∀ id o,(id,o)∈res.u→id∈tid m:=by
 unfold z48 at a
 (repeat' split at a)<;>first|cases a; done|(cases a; intro id o b; simp at b; simp [tid,b.1])
theorem x2z {ti:TI} {m k x:AV} {q:Bool} {r:List D} {res:Res} (a:z47 std ti h q r m k x=some res):∀ id o,(id,o)∈res.u→id∈tid m:=by
 unfold z47 at a
 (repeat' split at a)<;>first|cases a; done|(cases a; intro id o b; simp at b; simp [tid,b.1])
theorem v5d {new:Nat} {q:Bool} {r:List D} {ra:List AV} {op:Op} {res:Res} (d:z0t std T G env h new q r ra op=some res):
  ∀ id o,(id,o)∈res.u→(id=new∧v4n op=true)∨(y2i op=true∧id∈z38 env op):=by
 have none:res.u=[]→∀ id o,(id,o)∈res.u→(id=new∧v4n op=true)∨(y2i op=true∧id∈z38 env op):=by
  intro e id o j; rw [e] at j; simp at j
 cases op with
 |load t a=>
  refine none ?_
  simp only [z0t] at d
  split at d
  ·exact w0t d
  ·cases d
 |store t a x=>
  simp only [z0t] at d
  split at d
  ·intro id o j
   exact .inr ⟨rfl,by simp [z38,z60,eAx,x5y d id o j]⟩
  ·cases d
 |call c=>
  obtain ⟨callee,args,L⟩:=c
  cases callee with
  |builtin b=>
   simp only [z0t] at d
   unfold z1q at d
   generalize g:z06 env args.toList=K at d
   split at d
   ·refine none ?_
    split at d
    ·rename_i x _ _ _ _
     clear g
     cases x<;>simp only [w9r] at d<;>(repeat' split at d)<;>first|cases d; done|exact y9e d
    ·cases d
   ·rename_i H y _
    split at d
    ·split at d
     ·intro id o j
      rcases x03 d id o j with e|e
      ·exact .inl ⟨e,rfl⟩
      ·refine .inr ⟨rfl,?_⟩
       simp only [z38,z60,if_true,eFv,eBq]
       rw [z27] at g
       have hm:H∈args.toList.map (z0m env):=by rw [g]; simp
       obtain ⟨z,w,p⟩:=eBq.1 hm
       exact ⟨_,⟨z,by simp [eAx,eDs]; simpa using w,rfl⟩,by rw [p]; exact e⟩
     ·cases d
    ·cases d
   ·rename_i C y _
    split at d
    ·intro id o j
     have e:=w0u d id o j
     refine .inr ⟨rfl,?_⟩
     simp only [z38,z60,if_true,eFv,eBq]
     rw [z27] at g
     have hm:C∈args.toList.map (z0m env):=by rw [g]; simp
     obtain ⟨z,w,p⟩:=eBq.1 hm
     exact ⟨_,⟨z,by simp [eAx,eDs]; simpa using w,rfl⟩,by rw [p]; exact e⟩
    ·cases d
   ·rename_i F y _
    split at d
    ·intro id o j
     have e:=x23 d id o j
     refine .inr ⟨rfl,?_⟩
     simp only [z38,z60,if_true,eFv,eBq]
     rw [z27] at g
     have hm:F∈args.toList.map (z0m env):=by rw [g]; simp
     obtain ⟨z,w,p⟩:=eBq.1 hm
     exact ⟨_,⟨z,by simp [eAx,eDs]; simpa using w,rfl⟩,by rw [p]; exact e⟩
    ·cases d
   ·rename_i C _
    split at d
    ·intro id o j
     have e:=x55 d id o j
     refine .inr ⟨rfl,?_⟩
     simp only [z38,z60,if_true,eFv,eBq]
     rw [z27] at g
     have hm:C∈args.toList.map (z0m env):=by rw [g]; simp
     obtain ⟨z,w,p⟩:=eBq.1 hm
     exact ⟨_,⟨z,by simp [eAx,eDs]; simpa using w,rfl⟩,by rw [p]; exact e⟩
    ·cases d
   ·refine none ?_
    unfold y3j at d
    (repeat' split at d)<;>first|cases d; done|exact y9e d
   ·refine none ?_
    unfold y3j at d
    (repeat' split at d)<;>first|cases d; done|exact y9e d
   ·cases d
  |_=>cases d
 |move x=>exact none (y9e d)
 |assign x=>exact none (y9e d)
 |pick c a b=>
  refine none ?_
  simp only [z0t] at d
  unfold x0y at d
  (repeat' split at d)<;>first|cases d; done|exact y9e d
 |alloc t=>
  simp only [z0t] at d
  split at d
  ·unfold y2m at d
   generalize eAz 1 _=b at d
   cases b with
   |false=>cases d
   |true=>
    simp only [cond_true] at d
    split at d<;>(cases d; intro id o j; simp at j; exact .inl ⟨j.1,rfl⟩)
  ·cases d
 |box t x=>
  simp only [z0t] at d
  split at d
  ·unfold x01 at d
   generalize eAz 1 _=b at d
   cases b with
   |false=>cases d
   |true=>
    simp only [cond_true] at d
    split at d
    ·replace d:=z4l d
     split at d
     ·split at d
      ·replace d:=z4l d
       cases d; intro id o j; simp at j; exact .inl ⟨j.1,rfl⟩
      ·cases d
     ·cases d; intro id o j; simp at j; exact .inl ⟨j.1,rfl⟩
    ·cases d
  ·cases d
 |build t E=>
  refine none ?_
  simp only [z0t] at d
  split at d
  ·unfold z95 at d
   (repeat' split at d)<;>first|cases d; done|exact x5e d fun _ h=>y9e h
  ·cases d
 |buildSlice t len E=>
  simp only [z0t] at d
  split at d
  ·have B:=d
   unfold z29 at d
   have A:res.u=[]∨z2q ‹TI› new len (y22 env E.toList)=some res:=by
    split at d
    ·exact .inr d
    ·split at d
     ·split at d
      ·cases d; exact .inl rfl
      ·cases d
     ·split at d
      ·rename_i I
       split at d
       ·cases d; exact .inl rfl
       ·cases d; exact .inr I
      ·cases d
   clear d B
   rcases A with A|d
   ·exact none A
   unfold z2q at d
   split at d
   ·generalize (eAz 1 _&&eAz _ _)=b at d
    cases b with
    |false=>cases d
    |true=>
     simp only [cond_true] at d
     split at d
     ·generalize z7t _=b at d
      cases b with
      |false=>cases d
      |true=>
       simp only [cond_true] at d
       split at d
       ·cases d; intro id o j; simp at j; exact .inl ⟨j.1,rfl⟩
       ·cases d
     ·cases d
   ·cases d
  ·cases d
 |nilCheck x=>
  refine none ?_
  simp only [z0t] at d
  unfold x50 at d
  (repeat' split at d)<;>first|cases d; done|exact y9e d
 |binOp op t x y M=>
  refine none ?_
  simp only [z0t] at d
  split at d
  ·generalize u0v y=b at d
   cases b with
   |true=>
    simp only [cond_true] at d
    unfold y0x at d
    split at d<;>first|(cases d; done)|(cases d; rfl)
   |false=>
   simp only [cond_false] at d
   generalize u0u y=J at d
   cases J with
   |true=>
    simp only [cond_true] at d
    unfold y48 at d
    split at d<;>first|(cases d; done)|(cases d; rfl)
   |false=>
   simp only [cond_false] at d
   unfold x02 at d
   split at d
   ·split at d
    ·generalize ((_:IntKind)==_)=b at d; cases b with
     |false=>cases d
     |true=>exact y9e d
    ·generalize ((_:IntKind)==_)=b at d; cases b with
     |false=>cases d
     |true=>exact y9e d
    ·generalize ((_:IntKind)==_)=b at d; cases b with
     |false=>cases d
     |true=>cases d; rfl
    ·cases d; rfl
    ·generalize ((_:IntKind)==_)=b at d; cases b with
     |false=>cases d
     |true=>exact y9e d
   ·(repeat' split at d)<;>first|cases d; done|exact y9e d|(cases d; rfl)
   ·(repeat' split at d)<;>first|cases d; done|exact x5e d fun _ h=>y9e h
  ·cases d
 |unOp op t x=>
  refine none ?_
  simp only [z0t] at d
  unfold x75 at d
  (repeat' split at d)<;>first|cases d; done|exact y9e d
 |convert s t x=>
  refine none ?_
  simp only [z0t] at d
  split at d
  ·split at d
   ·rename_i v
    cases d
    unfold z87 at v
    (repeat' split at v)<;>first|cases v; done|exact y9e v
   ·unfold z62 at d
    (repeat' split at d)<;>first|cases d; done|(replace d:=z4l d; (repeat' split at d)<;>first|cases d; done|(cases d; rfl))
  ·cases d
 |makeFunc fn f c=>exact none (y9e d)
 |makeSlice t l c=>
  simp only [z0t] at d
  split at d
  ·unfold z6o at d
   split at d
   ·generalize (eAz 1 _&&_)=b at d
    cases b with
    |false=>cases d
    |true=>cases d; intro id o j; simp at j; exact .inl ⟨j.1,rfl⟩
   ·cases d
  ·cases d
 |slice t x N O F=>
  refine none ?_
  simp only [z0t] at d
  split at d
  ·unfold z61 at d
   split at d
   ·split at d
    ·split at d
     ·replace d:=z4l d
      (repeat' split at d)<;>first|cases d; done|(cases d; rfl)
     ·cases d
    ·split at d
     ·replace d:=z4l d
      (repeat' split at d)<;>first|cases d; done|(cases d; rfl)
     ·cases d
    ·split at d
     ·split at d
      ·cases z4l d; rfl
      ·cases d
     ·split at d
      ·cases z4l d; rfl
      ·cases d
     ·cases d
    ·(repeat' split at d)<;>first|cases d; done|(cases d; rfl)
    ·cases d
   ·cases d
  ·cases d
 |fieldAddr t x f=>
  refine none ?_
  simp only [z0t] at d
  split at d
  ·unfold y2k at d
   (repeat' split at d)<;>first|cases d; done|exact y9e (z4l d)
  ·cases d
 |field t x f=>
  refine none ?_
  simp only [z0t] at d
  split at d
  ·unfold z7l at d
   (repeat' split at d)<;>first|cases d; done|exact x5e d fun _ h=>y9e h
  ·cases d
 |indexAddr t x i=>
  refine none ?_
  simp only [z0t] at d
  split at d
  ·unfold z3p at d
   (repeat' split at d)<;>first|cases d; done|(cases d; rfl)|(cases z4l d; rfl)
  ·cases d
 |index t x i=>
  refine none ?_
  simp only [z0t] at d
  split at d
  ·unfold z7k at d
   (repeat' split at d)<;>first|cases d; done|(cases d; rfl)|exact x5e d fun _ h=>by cases h; rfl
  ·cases d
 |extract x i=>
  refine none ?_
  simp only [z0t] at d
  unfold y1q at d
  split at d
  ·exact x5e d fun _ h=>y9e h
  ·cases d
 |makeMap t n=>
  simp only [z0t] at d
  split at d
  ·unfold z84 at d
   split at d
   ·cases d; intro id o j; simp at j; exact .inl ⟨j.1,rfl⟩
   ·cases d
  ·cases d
 |lookup t m k o=>
  refine none ?_
  simp only [z0t] at d
  split at d
  ·split at d
   ·unfold z5t at d
    (repeat' split at d)<;>first|cases d; done|exact y9e d
   ·cases d
  ·cases d
 |mapUpdate t m k x=>
  simp only [z0t] at d
  split at d
  ·intro id o j
   exact .inr ⟨rfl,by simp [z38,z60,eAx]; exact .inl (x2z d id o j)⟩
  ·cases d
 |_=>cases d
end
inductive Ord (ops:Array Oper):(Nat→Bool)→List Nat→Prop
 |nil (S:Nat→Bool) (h:∀ i,i<ops.size→S i=true):Ord ops S []
 |cons (S:Nat→Bool) (i:Nat) (o:Oper) (l:List Nat) (hi:S i=false) (ho:ops[i]?=some o) (hd:∀ d∈z5l o,S d=true) (h:Ord ops (fun j=>S j||eAk j i) l):Ord ops S (i::l)
theorem y91 {o:Oper} {d:Nat}:d∈z5l o↔∃ e∈o.after,Region.binds .any e=true∧e.on=d:=by
 unfold z5l
 simp only [eBq,eDb,Array.mem_toList_iff]
 constructor
 ·rintro ⟨e,⟨c,b⟩,a⟩; exact ⟨e,c,b,a⟩
 ·rintro ⟨e,c,b,a⟩; exact ⟨e,⟨c,b⟩,a⟩
theorem w1e {listed:Array Bool} {i:Nat} (c:i<listed.size):(fun j=>(listed.setIfInBounds i true).getD j false)=fun j=>listed.getD j false||eAk j i:=by
 funext j
 cases b:eAk j i with
 |true=>
  have:=eAg b
  subst this
  simp [eAq,c]
 |false=>
  have a:i≠j:=by rintro rfl; simp at b
  simp [eAq,Array.getElem?_setIfInBounds_ne a]
theorem w6c {l:List Bool} {i:Nat} (h:l[i]?=some false):(l.set i true).countP (· ==false)+1=l.countP (· ==false):=by
 induction l generalizing i with
 |nil=>simp at h
 |cons x l a=>cases i with
  |zero=>simp at h; subst h; simp
  |succ i=>
   have:=a (i:=i) (by simpa using h)
   simp only [List.set_cons_succ,List.countP_cons]
   omega
theorem w12 {l:List Bool} (h:l.countP (· ==false)=0) (i:Nat) (a:i<l.length):l[i]?=some true:=by
 have:=List.countP_eq_zero.1 h l[i] (eDe a)
 rw [eAd a]
 cases b:l[i]<;>simp_all
theorem v0v {ops:Array Oper} (he:z78 ops.toList=true) {i:Nat} {o:Oper} (b:ops[i]?=some o):∀ d∈z5l o,d<i:=by
 intro d c
 unfold z78 at he
 rw [eBm] at he
 have a:i<ops.toList.length:=by simpa using (eAi.1 b).1
 have:=he i (eBj.2 a)
 rw [eAt,b] at this
 simp only [eBm] at this
 exact eAl (this d c)
theorem x1l {ops:Array Oper} (he:z78 ops.toList=true):∀ (fuel t:Nat) (listed:Array Bool),listed.size=ops.size→listed.toList.countP (· ==false)=fuel→
  Ord ops (fun i=>listed.getD i false) (Region.linearise.go .any ops fuel t listed []):=by
 intro fuel
 induction fuel with
 |zero=>
  intro t listed p A
  simp only [Region.linearise.go,List.reverse_nil]
  refine .nil _ fun i f=>?_
  have:=w12 A i (by simpa [p] using f)
  rw [eAt] at this
  simp [eAq,this]
 |succ fuel n=>
  intro t listed p A
  simp only [Region.linearise.go]
  change Ord ops _ (match (Region.ready .any ops listed)[t % (Region.ready .any ops listed).length]? with
   |some i=>Region.linearise.go .any ops fuel (t / (Region.ready .any ops listed).length) (listed.setIfInBounds i true) [i]
   |none=>[].reverse)
  have r:Region.ready .any ops listed≠[]:=by
   have s:∃ i,i<ops.size∧listed.getD i true=false:=by
    refine Classical.byContradiction fun q=>?_
    have:listed.toList.countP (· ==false)=0:=by
     rw [List.countP_eq_zero]
     intro b u
     obtain ⟨i,f⟩:=eFo u
     rw [eAt] at f
     have a:=(eAi.1 f).1
     cases b with
     |true=>simp
     |false=>exact absurd ⟨i,by omega,by simp [eAq,f]⟩ q
    omega
   have key:∀ i,i<ops.size→listed.getD i true=false→∃ j,j∈Region.ready .any ops listed:=by
    intro i
    induction i using Nat.strongRecOn with
    |_ i n=>
     intro f g
     have h:ops[i]?=some ops[i]:=eBg f
     by_cases c:∀ e∈(ops[i]).after,Region.binds .any e=true→listed.getD e.on false=true
     ·exact ⟨i,mem_ready.2 ⟨g,_,h,c⟩⟩
     ·simp only [Classical.not_forall] at c
      obtain ⟨e,hm,u,y⟩:=c
      have a:=v0v he h e.on (y91.2 ⟨e,hm,u,rfl⟩)
      refine n e.on a (by omega) ?_
      have k:e.on<listed.size:=by omega
      simp only [eAq,eBg k,eCd] at y⊢
      simpa using y
   obtain ⟨i,f,g⟩:=s
   obtain ⟨j,z⟩:=key i f g
   intro F; rw [F] at z; simp at z
  cases f:(Region.ready .any ops listed)[t % (Region.ready .any ops listed).length]? with
  |none=>
   exfalso
   cases w:Region.ready .any ops listed with
   |nil=>exact r w
   |cons x v=>
    rw [w] at f
    have a:t % (x::v).length<(x::v).length:=eGh _ (by simp)
    simp at f
    simp at a
    omega
  |some i=>
   simp only []
   rw [linearise_go_acc,List.reverse_singleton,List.singleton_append]
   have hm:=eAn f
   rw [mem_ready] at hm
   obtain ⟨g,o,h,c⟩:=hm
   have a:i<listed.size:=by have:=(eAi.1 h).1; omega
   have m:listed[i]?=some false:=by
    rw [eBg a]
    simp only [eAq,eBg a,eCd] at g
    rw [g]
   refine .cons _ i o _ (by simp [eAq,m]) h (fun d B=>?_) ?_
   ·obtain ⟨e,E,C,rfl⟩:=y91.1 B
    exact c e E C
   ·rw [←w1e a]
    refine n _ _ (by simpa using p) ?_
    have:=w6c (l:=listed.toList) (i:=i) (by rw [eAt]; exact m)
    rw [Array.toList_setIfInBounds]
    omega
theorem y0b {ops:Array Oper} (he:z78 ops.toList=true) (t:Nat):Ord ops (fun _=>false) (Region.schedule true ops t):=by
 simp only [Region.schedule,Bool.true_or,if_true]
 have:=x1l he ops.size t (Array.replicate ops.size false) (by simp) (by simp [List.countP_replicate])
 have e:(fun i=>(Array.replicate ops.size false).getD i false)=fun _=>false:=by
  funext i
  by_cases h:i<ops.size
  ·simp [eAq,Array.getElem?_replicate,h]
  ·simp [eAq,Array.getElem?_replicate,h]
 rw [e] at this
 exact this
theorem y6v {d:Option Nat} {l:List Nat} (h:x8s d l=true) {t:Nat} (a:d=some t):t∉l:=by
 subst a
 simp only [x8s,eCy] at h
 intro hm
 rw [x8y.2 hm] at h; cases h
theorem y9q {ops:List Oper} (h:y8f ops=true) {i j:Nat} {a b:Oper} (c:i<j) (e:ops[i]?=some a) (d:ops[j]?=some b):(z7q (y1j ops []) j).testBit i=true∨y2b ops a b=true:=by
 have:=y68 (y69 h j b d) i a (by omega) e
 rw [eAy] at this; exact this
def z6m (ops:List Oper) (acc:List (List Nat)) (i:Nat) (o:Oper) (ti:List Nat):Bool:=
  (eAv i).all fun j=>Nat.testBit (z7q (y1j ops []) i) j||
    (match z2d ops j with
     |some a=>(!y2i a.op&&!y2i o.op)||w1z (x6r acc j) ti
     |none=>true)
def x8h (c:Nat) (b:Bool) (ti:List Nat):Nat→List Oper→List (List Nat)→Bool
 |_,_,[]=>true
 |j,a::l,t::ts=>(Nat.testBit c j||((!y2i a.op&&!b)||w1z t ti))&&x8h c b ti (j+1) l ts
 |_,[],_::_=>true
def x8i (ops:List Oper) (acc:List (List Nat)) (i:Nat) (o:Oper) (ti:List Nat):Bool:=
 eAk acc.length i&&x8h (z7q (y1j ops []) i) (y2i o.op) ti 0 ops acc
theorem y6o {e:Nat} {d:Bool} {ti:List Nat}:∀ {j:Nat} {l:List Oper} {ts:List (List Nat)},x8h e d ti j l ts=true→∀ (k:Nat) (a:Oper),k<ts.length→l[k]?=some a→(Nat.testBit e (j+k)||((!y2i a.op&&!d)||w1z (x6r ts k) ti))=true
 |j,l,[],_,k,a,c,_=>by simp at c
 |j,[],t::ts,_,k,a,_,b=>by simp at b
 |j,x::l,t::ts,h,k,a,c,b=>by
  simp only [x8h,eAf] at h
  cases k with
  |zero=>simp at b; subst b; exact h.1
  |succ k=>
   have:=y6o h.2 k a (by simpa using c) (by simpa using b)
   rw [show j+(k+1)=j+1+k by omega]; exact this
theorem y6t {α:Type}:∀ (l:List α) (i:Nat),z2d l i=l[i]?
 |[],_=>by simp [z2d]
 |_::_,0=>rfl
 |_::l,i+1=>by simpa [z2d] using y6t l i
theorem w33 {ops:List Oper} {acc:List (List Nat)} {i:Nat} {o:Oper} {ti:List Nat} (h:x8i ops acc i o ti=true):z6m ops acc i o ti=true:=by
 simp only [x8i,eAf] at h
 have c:=eAg h.1
 unfold z6m
 simp only [eBm,eBj]
 intro j d
 cases b:ops[j]? with
 |none=>rw [y6t,b]; simp
 |some a=>
  have:=y6o h.2 j a (by omega) b
  rw [eAy] at this
  rw [y6t,b]; exact this
theorem x8r {α:Type}:∀ (l:List α) (i:Nat),z2d l i=l[i]?
 |[],_=>by simp [z2d]
 |_::_,0=>rfl
 |_::l,i+1=>by simpa [z2d] using x8r l i
def x0m (s0:AS) (ops:List Oper) (recs:List Rec) (i:Nat) (o:Oper):Prop:=
 ∀ (j:Nat) (a:Oper),j<i→ops[j]?=some a→(z7q (y1j ops []) i).testBit j=true∨(y2i a.op=false∧y2i o.op=false)∨∀ id∈z38 (stF s0 ops recs j).env a.op,id∉z38 (stF s0 ops recs i).env o.op
theorem z2g {ops:List Oper} {S:Nat→Bool} (l:∀ (i:Nat) (o:Oper),ops[i]?=some o→S i=true→∀ d∈z5l o,S d=true) {i:Nat} {o:Oper} (c:ops[i]?=some o) (e:∀ d∈z5l o,S d=true):∀ j,(z7q (y1j ops []) i).testBit j=true→S j=true:=by
 have a:=w7h ops [] [] rfl (by simp)
 simp only [List.nil_append] at a
 have clo:∀ i o,ops[i]?=some o→(∀ d∈z5l o,S d=true)→∀ j,(z7q (y1j ops []) i).testBit j=true→S j=true:=by
  intro i
  induction i using Nat.strongRecOn with
  |_ i g=>
   intro o c e j k
   rcases a i o c j k with h|⟨d,p,n,m⟩
   ·exact e j h
   ·have f:d<ops.length:=by have:=(eAe.1 c).1; omega
    have b:ops[d]?=some ops[d]:=eAd f
    exact g d n _ b (l d _ b (e d p)) j m
 exact clo i o c e
def w1c (ops:List Oper) (base i:Nat) (l:List Nat):Prop:=∀ id∈l,id<base∨∃ j,id=base+j∧j<i∧(z7q (y1j ops []) i).testBit j=true
theorem w1c.lt {ops:List Oper} {base i:Nat} {l:List Nat} (h:w1c ops base i l):∀ id∈l,id<base+i:=by
 intro id hid
 rcases h id hid with h|⟨j,rfl,h,_⟩<;>omega
inductive w2o (P:Program) (T:TypeId→Option TI) (ops:List Oper) (s:AS) (base i:Nat) (o:Oper):Rec→Prop
 |skip (hg:z3l ops s.env o.guard=some false):w2o P T ops s base i o ⟨.tuple [],[]⟩
 |step (hg:z3l ops s.env o.guard=some true) {G:Nat→Option (List D)} (hG:GOk P G) {q:Bool} {r:List D} {ra:List AV} {res:Res} (hw:(z1b std T s.env s.heap o.op).ok q r ra) (hs:z0t std T G s.env s.heap (base+i) q r ra o.op=some res) (hc:res.c=true) (ht:w1c ops base i (z38 s.env o.op)):w2o P T ops s base i o ⟨res.v,res.u⟩
 |call (hg:z3l ops s.env o.guard=some true) {f:Operand} {args:Array Operand} {ts:Array TypeId} (hop:o.op= .call ⟨.value f,args,ts⟩) {g:FuncId} {first captured:List AV} (hf:z0m s.env f= .clo (.func g) first captured) (hen:z3g P g)
   {r:AV} (hret:∀ h,(∀ id∈z38 s.env o.op,z0e h id=z0e s.heap id)→z3s P g (first++z06 s.env args.toList++captured) h r h) (ht:w1c ops base i (z38 s.env o.op)):w2o P T ops s base i o ⟨r,[]⟩
section
variable {P:Program}
theorem z2c.step' {ρ:Rho} {w:World} {s:AS} {tm:Array Value} (b:z2c P ρ s tm w) {new:Nat} (a:ρ new=none) {dst:Option Tmp} (j:z3i s.nt dst=true) {res:Res} {v:Value} {w':World} {ρ':Rho}
  (f:z0q ρ' (z0f ρ' (z08 s.heap res.u)) w' res.v v) (i:z0b P ρ' (z08 s.heap res.u) w') (c:Ext (fun id=>id≠new) ρ s.heap w ρ' (z08 s.heap res.u) w') (g:ρ'=ρ∨∃ o,(new,o)∈res.u):
  z2c P ρ' (z4p s dst res.v res.u) (y3s tm dst v) w':=by
 obtain ⟨k,e⟩:=z5j res.u s.heap
 refine ⟨i,y16 c.keep (fun id L d=>?_) b.env b.size j f,by rw [z8k]; exact b.size,fun id hid=>?_⟩
 ·rw [c.rho id (by rintro rfl; rw [a] at d; cases d)]; exact d
 ·show id<(z08 s.heap res.u).length
  by_cases he:id=new
  ·subst he
   rcases g with rfl|⟨o,h⟩
   ·exact absurd a hid
   ·exact e _ _ h
  ·rw [c.rho id he] at hid
   have:=b.dom id hid; omega
structure Inv (P:Program) (ops:List Oper) (s0:AS) (recs:List Rec) (S:Nat→Bool) (ρ:Rho) (tm:Array Value) (w:World) (s:AS):Prop where
 nt:s.nt=s0.nt
 env:∀ t,z0z s.env t=y7w s0 ops recs S t ops.length
 heap:∀ id,z0e s.heap id=y5s s0 ops recs S id ops.length
 st:z2c P ρ s tm w
 dom:∀ id,ρ id≠none→id<s0.heap.length∨∃ j r,S j=true∧recs[j]?=some r∧id=s0.heap.length+j∧∃ o,(id,o)∈r.u
 turned:∀ (j:Nat) (r:Rec),S j=true→recs[j]?=some r→∀ id o,(id,o)∈r.u→id=s0.heap.length+j∨(id<s0.heap.length∨∃ k,id=s0.heap.length+k∧k<j∧(z7q (y1j ops []) j).testBit k=true)
 closed:∀ (i:Nat) (o:Oper),ops[i]?=some o→S i=true→∀ d∈z5l o,S d=true
theorem x8p {T:TypeId→Option TI} {ops:List Oper} {s:AS} {base i:Nat} {o:Oper} {r:Rec} (h:w2o P T ops s base i o r):∀ id x,(id,x)∈r.u→id=base+i∨(y2i o.op=true∧id∈z38 s.env o.op∧(id<base∨∃ j,id=base+j∧j<i∧(z7q (y1j ops []) i).testBit j=true)):=by
 intro id x hm
 cases h with
 |skip=>simp at hm
 |step hg c d b e a=>
  rcases v5d b id x hm with h|h
  ·exact .inl h.1
  ·exact .inr ⟨h.1,h.2,a id h.2⟩
 |call=>simp at hm
theorem w54 {T : TypeId → Option TI} (hT : y1d P T) {ops : Array Oper} {s0 : AS} {recs : List Rec} (a7 : y8f ops.toList = true) (e9 : recs.length ≤ ops.size)
    (Z : ∀ (i : Nat) (o : Oper) (r : Rec), ops[i]? = some o → recs[i]? = some r → z3i s0.nt o.dst = true ∧ w2o P T ops.toList (stF s0 ops.toList recs i) s0.heap.length i o r)
    (b9 : ∀ (i : Nat) (o : Oper), i < recs.length → ops[i]? = some o → x0m s0 ops.toList recs i o)
    {S : Nat → Bool} {ρ : Rho} {tm : Array Value} {w : World} {s : AS} {B : Nat} (l : Inv P ops.toList s0 recs S ρ tm w s) {i : Nat} {o : Oper} (d5 : i < recs.length) (e4 : ∀ j, S j = true → j < recs.length) (hi : S i = false) (ho : ops[i]? = some o) (hd : ∀ d ∈ z5l o, S d = true)
    {b : Frame} {k : List Item} {cs : List Frame} {ds : List Deferred} {rest : List Nat} (hds : z4m b.roundOf B ρ.fr w ds) :
    ∃ s' ρ' K w', Inv P ops.toList s0 recs (fun j => S j || eAk j i) ρ' K w' s' ∧ z4m b.roundOf B ρ'.fr w' ds ∧ Ext (· < s0.heap.length) ρ s.heap w ρ' s'.heap w' ∧
      Steps P (lone (b.on tm ds (.inRegion ops (i :: rest) :: k)) cs w) (lone (b.on K ds (.inRegion ops rest :: k)) cs w') := by
  have d4 : i < ops.size := (eAi.1 ho).1
  obtain ⟨r, hr⟩ : ∃ r, recs[i]? = some r := ⟨recs[i]'(by omega), eAd (by omega)⟩
  obtain ⟨b5, V⟩ := Z i o r ho hr
  have F : ops.toList[i]? = some o := by rw [eAt]; exact ho
  have c2 : i < ops.toList.length := by simpa using d4
  have a5 : ∀ (j : Nat) (p : Oper), ops.toList[j]? = some p → j < i → S j = true ∨ y2b ops.toList p o = true := by
    intro j p A N
    rcases y9q a7 N A F with h | h
    · exact .inl (z2g l.closed F hd j h)
    · exact .inr h
  have U : ∀ (j : Nat) (p : Oper), ops.toList[j]? = some p → i < j → S j = true → y2b ops.toList o p = true := by
    intro j p A G n
    rcases y9q a7 G F A with h | h
    · have := z2g l.closed A (l.closed j p A n) i h
      rw [hi] at this; cases this
    · exact h
  have ap : ∀ {a c : Oper}, y2b ops.toList a c = true → (∀ t, a.dst = some t → t ∉ y88 c.op ++ y9r ops.toList c.guard ++ c.dst.toList) ∧ (∀ t, c.dst = some t → t ∉ y88 a.op ++ y9r ops.toList a.guard ++ a.dst.toList) := by
    intro a c h
    simp only [y2b, eAf] at h
    exact ⟨fun t Y => y6v h.1 Y, fun t Y => y6v h.2 Y⟩
  have b7 : ∀ (j : Nat) (p : Oper), ops.toList[j]? = some p → j < i → S j = false → (y2i p.op = false ∧ y2i o.op = false) ∨ ∀ id ∈ z38 (stF s0 ops.toList recs j).env p.op, id ∉ z38 (stF s0 ops.toList recs i).env o.op := by
    intro j p A N n
    rcases b9 i o d5 ho j p N A with h | h
    · rw [z2g l.closed F hd j h] at n; cases n
    · exact h
  have a8 : ∀ (j : Nat) (p : Oper), ops.toList[j]? = some p → i < j → S j = true → (y2i o.op = false ∧ y2i p.op = false) ∨ ∀ id ∈ z38 (stF s0 ops.toList recs i).env o.op, id ∉ z38 (stF s0 ops.toList recs j).env p.op := by
    intro j p A G n
    rcases b9 j p (e4 j n) (by rw [← eAt]; exact A) i o G F with h | h
    · have := z2g l.closed A (l.closed j p A n) i h
      rw [hi] at this; cases this
    · exact h
  have a6 : ∀ t, t ∈ y88 o.op ++ y9r ops.toList o.guard → z0z s.env t = z0z (stF s0 ops.toList recs i).env t := by
    intro t Y
    rw [l.env t]
    refine y3h _ _ _ _ t i _ (by omega) (fun j p A M N => ?_) (fun j p A M G c1 => ?_)
    · rcases a5 j p A N with h | h
      · exact h
      · exact absurd (eDp _ Y) ((ap h).1 t M)
    · by_cases he : j = i
      · rw [he]; exact hi
      · cases hS : S j with
        | false => rfl
        | true => exact absurd (eDp _ Y) ((ap (U j p A (by omega) hS)).2 t M)
  have hE : ∀ x ∈ o.op.operands, z0m s.env x = z0m (stF s0 ops.toList recs i).env x := by
    intro x m
    cases x with
    | tmp t =>
      refine a6 t (eDp _ ?_)
      unfold y88
      rw [List.mem_filterMap]
      exact ⟨.tmp t, by simpa using m, rfl⟩
    | _ => rfl
  have hG : z3l ops.toList s.env o.guard = z3l ops.toList (stF s0 ops.toList recs i).env o.guard := by
    cases hg : o.guard with
    | none => rfl
    | some g =>
      obtain ⟨j, e8⟩ := g
      simp only [z3l]
      cases hn : z2d ops.toList j with
      | none => rfl
      | some p =>
        simp only []
        cases M : p.dst with
        | none => rfl
        | some d =>
          simp only []
          rw [a6 d (List.mem_append_right _ (by rw [hg]; simp [y9r, hn, M]))]
  have c6 : z38 s.env o.op = z38 (stF s0 ops.toList recs i).env o.op := by
    unfold z38
    split
    · congr 1
      refine List.map_congr_left fun x m => ?_
      rw [hE x (by simpa using m)]
    · unfold u0x
      split
      · rename_i t x i V; rw [hE x (by simp [V, eAx])]
      · rename_i t x lo hi mx V; rw [hE x (by simp [V, eAx])]
      · rfl
  have J := x8p V
  have a0 : ∀ j, (z7q (y1j ops.toList []) i).testBit j = true → S j = true := fun j h => z2g l.closed F hd j h
  have free : ρ (s0.heap.length + i) = none := by
    cases H : ρ (s0.heap.length + i) with
    | none => rfl
    | some L =>
      rcases l.dom _ (by rw [H]; simp) with h | ⟨j, q, hS, hj, he, _⟩
      · omega
      · have : j = i := by omega
        subst this; rw [hi] at hS; cases hS
  have obj : w1c ops.toList s0.heap.length i (z38 (stF s0 ops.toList recs i).env o.op) → ∀ id ∈ z38 (stF s0 ops.toList recs i).env o.op, z0e s.heap id = z0e (stF s0 ops.toList recs i).heap id := by
    intro b1 id hid
    rw [l.heap id]
    refine y3g _ _ _ _ id i _ (by omega) (fun j q H m N => ?_) (fun j q H m G c1 => ?_)
    · obtain ⟨x, m⟩ := m
      have W : j < ops.size := by omega
      have I : ops[j]? = some ops[j] := eBg W
      have z : ops.toList[j]? = some ops[j] := by rw [eAt]; exact I
      rcases x8p (Z j _ q I H).2 id x m with h | ⟨h1, h2, h3⟩
      · rcases b1 id hid with h' | ⟨j', he, _, hb⟩
        · omega
        · have : j' = j := by omega
          subst this; exact a0 _ hb
      · cases n : S j with
        | true => rfl
        | false =>
          rcases b7 j _ z N n with h | h
          · rw [h1] at h; cases h.1
          · exact absurd hid (h id h2)
    · by_cases he : j = i
      · rw [he]; exact hi
      · cases hS : S j with
        | false => rfl
        | true =>
          exfalso
          obtain ⟨x, m⟩ := m
          have W : j < ops.size := by simpa using c1
          have I : ops[j]? = some ops[j] := eBg W
          have z : ops.toList[j]? = some ops[j] := by rw [eAt]; exact I
          rcases x8p (Z j _ q I H).2 id x m with h | ⟨h1, h2, h3⟩
          · have := b1.lt id hid; omega
          · rcases a8 j _ z (by omega) hS with h | h
            · rw [h1] at h; cases h.2
            · exact h id hid h2
  have b3 : ∃ ρ' K w', z2c P ρ' (z4p s o.dst r.v r.u) K w' ∧ z4m b.roundOf B ρ'.fr w' ds ∧ Ext (fun id => id ≠ s0.heap.length + i) ρ s.heap w ρ' (z08 s.heap r.u) w' ∧
      (∀ id, ρ' id ≠ none → ρ id ≠ none ∨ (id = s0.heap.length + i ∧ ∃ x, (id, x) ∈ r.u)) ∧
      Steps P (lone (b.on tm ds (.inRegion ops (i :: rest) :: k)) cs w) (lone (b.on K ds (.inRegion ops rest :: k)) cs w') := by
    have O : z3i s.nt o.dst = true := by rw [l.nt]; exact b5
    cases V with
    | skip hg =>
      rw [← hG] at hg
      exact ⟨ρ, _, w, l.st.step' free (res := ⟨true, .tuple [], []⟩) O x2w l.st.heap (Ext.refl _ _ _ _) (.inl rfl), hds, Ext.refl _ _ _ _, fun id h => .inl h, .one (y82 ho (z5k l.st hg))⟩
    | step hg e5 hw hs hc Y =>
      rename_i q rr ra res
      have hH := obj Y
      obtain ⟨e1, e2⟩ := x57 (T := T) (new := s0.heap.length + i) (q := q) (r := rr) (ra := ra) (op := o.op) (env := (stF s0 ops.toList recs i).env) (env' := s.env) (h := (stF s0 ops.toList recs i).heap) (h' := s.heap) hE hH
      rw [← e2] at hw
      rw [← e1] at hs
      rw [← hG] at hg
      obtain ⟨v, w', ρ', b4, hv, hh, m, C⟩ := x76 hT e5 l.st.heap free l.st.env hw hs hc
      have e7 := l.st.step' free O hv hh m C
      have X : ∀ c, o.op ≠ .defer c := by
        intro c hc; rw [hc] at hs; simp [z0t] at hs
      refine ⟨ρ', _, w', e7, hds.keep l.st.heap m, m, fun id h => ?_, .one (y1r ho (z5k l.st hg) X b4)⟩
      by_cases he : id = s0.heap.length + i
      · rcases C with rfl | ⟨x, m⟩
        · exact .inl h
        · exact .inr ⟨he, x, by rw [he]; exact m⟩
      · rw [m.rho id he] at h; exact .inl h
    | call hg R hf d9 Q Y =>
      rename_i f args ts g first E rv
      rw [← hG] at hg
      have d8 : z0m s.env f = .clo (.func g) first E := by
        rw [hE f (by rw [R]; simp [eAx, eDs])]; exact hf
      have b0 : z06 s.env args.toList = z06 (stF s0 ops.toList recs i).env args.toList := z9k fun x m => hE x (by rw [R]; simp [eAx, eDs]; right; simpa using m)
      have Q := Q s.heap (obj Y)
      rw [← b0] at Q
      have b2 := z0l l.st.env f
      rw [d8] at b2
      obtain ⟨vf, vc, d7, d6, e0⟩ : ∃ vf vc, opv tm f = .func (.func g) vf vc ∧ z07 ρ (z0f ρ s.heap) w first vf ∧ z07 ρ (z0f ρ s.heap) w E vc := by
        generalize hv : opv tm f = v at b2
        cases b2 with
        | clo _ _ _ vf vc a1 a2 a3 a4 => exact ⟨vf, vc, rfl, ⟨a1, a3⟩, ⟨a2, a4⟩⟩
      have e3 : z07 ρ (z0f ρ s.heap) w (z06 s.env args.toList) (args.map (opv tm)) := z7b l.st.env args
      have b6 := (d6.append e3).append e0
      have a9 : (execOp (opv tm) o).run P w = .ok (.enter g (vf ++ args.map (opv tm) ++ vc)) w := by
        have := d9 (vf ++ args.map (opv tm) ++ vc) w
        simp only [Array.append_assoc] at this
        simp [execOp, R, resolve, Deferred.ofValue, d7, invoke, this]
      obtain ⟨ρ', v, w', fr, c7, f1, c8, hv, hh, c3, m⟩ := Q.run ρ _ w (b.on tm ds (.inRegion ops (i :: rest) :: k) :: cs) l.st.heap l.st.dom b6
      have C : ∀ id, ρ' id = ρ id := by
        intro id
        by_cases b1 : id < s.heap.length
        · exact m.rho id b1
        · have e1 : ρ' id = none := by
            cases H : ρ' id with
            | none => rfl
            | some L => have := c3 id (by rw [H]; simp); omega
          have e2 : ρ id = none := by
            cases H : ρ id with
            | none => rfl
            | some L => have := l.st.dom id (by rw [H]; simp); omega
          rw [e1, e2]
      have X : ∀ c, o.op ≠ .defer c := by rw [R]; simp
      refine ⟨ρ', y3s tm o.dst v, w', ⟨hh, y16 m.keep (fun id L hL => by rw [C]; exact hL) l.st.env l.st.size O hv, by rw [z8k]; exact l.st.size, c3⟩, hds.keep l.st.heap m, ⟨m.os, m.tape, m.output, m.keep, fun id _ => C id, m.fr, m.frs⟩, fun id h => .inl (by rw [← C]; exact h), ?_⟩
      refine .head (y1s ho (z5k l.st hg) X a9) (Steps.trans c7 (.one ?_))
      rw [← z8x ho]
      exact step_leave_returned c8
  obtain ⟨ρ', K, w', h1, h2, h3, h4, h5⟩ := b3
  have mono : ∀ id, ρ id ≠ none → ρ' id ≠ none := by
    intro id h
    rw [h3.rho id (by rintro rfl; exact h free)]; exact h
  have e6 : Ext (· < s0.heap.length) ρ s.heap w ρ' (z4p s o.dst r.v r.u).heap w' := h3.mono (fun id (hid : id < s0.heap.length) => by show id ≠ s0.heap.length + i; omega)
  refine ⟨z4p s o.dst r.v r.u, ρ', K, w', ?_, h2, e6, h5⟩
  have mem : ∀ j, (S j || eAk j i) = true ↔ S j = true ∨ j = i := by
    intro j
    simp only [eBh]
    constructor
    · rintro (h | h)
      · exact .inl h
      · exact .inr (eAg h)
    · rintro (h | rfl)
      · exact .inl h
      · exact .inr (eGj _)
  have f2 : ∀ j, S j = true → j ≠ i := by
    rintro j hj rfl; rw [hi] at hj; cases hj
  exact
    { nt := l.nt
      env := fun t => by
        rw [w28 _ _ _ _ i F hr t _ c2 (fun j p A G n d c0 M => ?_)]
        · show z0z (y4g s.env o.dst r.v) t = _
          cases c0 : o.dst with
          | none => simp [y4g, l.env t]
          | some d =>
            simp only [y4g]
            by_cases e : d = t
            · subst e; rw [if_pos rfl, z09]
            · rw [if_neg (by simp [e]), z1t _ _ _ _ e, l.env t]
        · exact (ap (U j p A G n)).1 d c0 (List.mem_append_right _ (by simp [M]))
      heap := fun id => by
        rw [w27 _ _ _ _ i F hr hi id _ c2 (fun j q H G n m x b8 => ?_)]
        · show z0e (z08 s.heap r.u) id = _
          rw [y1y, l.heap id]
        · obtain ⟨y, hy⟩ := m
          have W : j < ops.size := by have := (eAe.1 H).1; omega
          have I : ops[j]? = some ops[j] := eBg W
          have z : ops.toList[j]? = some ops[j] := by rw [eAt]; exact I
          rcases l.turned j q n H id x b8 with h | h
          · rcases J id y hy with h' | ⟨_, _, h' | ⟨_, h', _, _⟩⟩ <;> omega
          · rcases J id y hy with h' | ⟨a1, a2, a3⟩
            · rcases h with h | ⟨k', h, f0, c9⟩
              · omega
              · have : k' = i := by omega
                subst this
                have c5 := z2g l.closed z (l.closed j _ z n) k' c9
                rw [hi] at c5; cases c5
            · rcases x8p (Z j _ q I H).2 id x b8 with g | ⟨g1, g2, g3⟩
              · rcases a3 with a3 | ⟨_, a3, _, _⟩ <;> omega
              · rcases a8 j _ z G n with h | h
                · rw [a1] at h; cases h.1
                · exact h id a2 g2
      st := h1
      dom := fun id h => by
        rcases h4 id h with h | ⟨he, x, m⟩
        · rcases l.dom id h with h | ⟨j, q, a1, a2, a3, a4⟩
          · exact .inl h
          · exact .inr ⟨j, q, (mem j).2 (.inl a1), a2, a3, a4⟩
        · exact .inr ⟨i, r, (mem i).2 (.inr rfl), hr, he, x, m⟩
      turned := fun j q hj H id x m => by
        rcases (mem j).1 hj with h | rfl
        · exact l.turned j q h H id x m
        · rw [hr] at H; cases H
          rcases J id x m with h | ⟨_, _, h⟩
          · exact .inl h
          · exact .inr h
      closed := fun j p A hj d c4 => by
        refine (mem d).2 (.inl ?_)
        rcases (mem j).1 hj with h | rfl
        · exact l.closed j p A h d c4
        · rw [F] at A; cases A; exact hd d c4 }
theorem x77 (s:AS) (ops:List Oper) (recs:List Rec):∀ m,(stF s ops recs m).nt=s.nt:=by
 intro m
 induction m with
 |zero=>rfl
 |succ m a=>
  simp only [stF]
  split
  ·simpa [z4p] using a
  ·exact a
theorem x6d (s:AS) (ops:List Oper) (recs:List Rec):∀ m,s.heap.length≤(stF s ops recs m).heap.length∧∀ j o r,j<m→ops[j]?=some o→recs[j]?=some r→∀ id x,(id,x)∈r.u→id<(stF s ops recs m).heap.length:=by
 intro m
 induction m with
 |zero=>exact ⟨eAp _,fun j o r k=>by omega⟩
 |succ m n=>
  obtain ⟨i,h⟩:=n
  simp only [stF]
  split
  ·rename_i o r q p
   obtain ⟨g,l⟩:=z5j r.u (stF s ops recs m).heap
   refine ⟨eCt i g,fun j d c k b a id x e=>?_⟩
   by_cases he:j=m
   ·subst he; rw [p] at a; cases a; exact l id x e
   ·exact eBc (h j d c (by omega) b a id x e) g
  ·rename_i f
   refine ⟨i,fun j d c k b a id x e=>?_⟩
   by_cases he:j=m
   ·subst he; exact absurd a (f d c b)
   ·exact h j d c (by omega) b a id x e
theorem y7k {T:TypeId→Option TI} (hT:y1d P T) {ops:Array Oper} {s0:AS} {recs:List Rec} (g:y8f ops.toList=true) (f:recs.length≤ops.size)
  (v:∀ (i:Nat) (o:Oper) (r:Rec),ops[i]?=some o→recs[i]?=some r→z3i s0.nt o.dst=true∧w2o P T ops.toList (stF s0 ops.toList recs i) s0.heap.length i o r)
  (t:∀ (i:Nat) (o:Oper),i<recs.length→ops[i]?=some o→x0m s0 ops.toList recs i o)
  (e:∀ (i:Nat) (o:Oper),ops[i]?=some o→recs.length≤i→∀ j,j<recs.length→(z7q (y1j ops.toList []) i).testBit j=true)
  {b:Frame} {k:List Item} {cs:List Frame} {ds:List Deferred} {B:Nat} {S:Nat→Bool} {l:List Nat} (G:Ord ops S l):∀ {ρ:Rho} {tm:Array Value} {w:World} {s:AS},(∀ j,S j=true→j<recs.length)→Inv P ops.toList s0 recs S ρ tm w s→z4m b.roundOf B ρ.fr w ds→
  ∃ s' ρ' d w' S' z,Inv P ops.toList s0 recs S' ρ' d w' s'∧Ord ops S' z∧(∀ i,i<recs.length→S' i=true)∧(∀ j,S' j=true→j<recs.length)∧z4m b.roundOf B ρ'.fr w' ds∧Ext (· <s0.heap.length) ρ s.heap w ρ' s'.heap w'∧
   Steps P (lone (b.on tm ds (.inRegion ops l::k)) cs w) (lone (b.on d ds (.inRegion ops z::k)) cs w'):=by
 induction G with
 |nil S h=>
  intro ρ tm w s a n hds
  exact ⟨s,ρ,tm,w,S,[],n, .nil S h,fun i x=>h i (by omega),a,hds,Ext.refl _ _ _ _, .refl _ _⟩
 |cons S i o l x p y h F=>
  intro ρ tm w s a n hds
  by_cases m:i<recs.length
  ·obtain ⟨s',ρ',d,w',K,J,I,H⟩:=w54 hT g f v t n m a x p y (b:=b) (k:=k) (cs:=cs) (rest:=l) hds
   obtain ⟨C,ρ2,q,A,V,E,U,R,Q,O,N,M,L⟩:=F (fun j c=>by
    simp only [eBh] at c
    rcases c with c|c
    ·exact a j c
    ·rw [eAg c]; exact m) K J
   exact ⟨C,ρ2,q,A,V,E,U,R,Q,O,N,I.trans M,H.trans L⟩
  ·have u:ops.toList[i]?=some o:=by rw [eAt]; exact p
   exact ⟨s,ρ,tm,w,S,i::l,n, .cons S i o l x p y h,fun j c=>z2g n.closed u y j (e i o p (by omega) j c),a,hds,Ext.refl _ _ _ _, .refl _ _⟩
theorem v0y {T:TypeId→Option TI} (hT:y1d P T) {ops:Array Oper} {s0:AS} {recs:List Rec} (e:y8f ops.toList=true) (d:recs.length=ops.size)
  (h:∀ (i:Nat) (o:Oper) (r:Rec),ops[i]?=some o→recs[i]?=some r→z3i s0.nt o.dst=true∧w2o P T ops.toList (stF s0 ops.toList recs i) s0.heap.length i o r)
  (g:∀ (i:Nat) (o:Oper),i<recs.length→ops[i]?=some o→x0m s0 ops.toList recs i o)
  {b:Frame} {k:List Item} {cs:List Frame} {ds:List Deferred} {B:Nat} {S:Nat→Bool} {l:List Nat} (x:Ord ops S l) {ρ:Rho} {tm:Array Value} {w:World} {s:AS} (p:∀ j,S j=true→j<recs.length) (z:Inv P ops.toList s0 recs S ρ tm w s) (hds:z4m b.roundOf B ρ.fr w ds):
  ∃ s' ρ' a w' S',Inv P ops.toList s0 recs S' ρ' a w' s'∧(∀ i,i<ops.size→S' i=true)∧z4m b.roundOf B ρ'.fr w' ds∧Ext (· <s0.heap.length) ρ s.heap w ρ' s'.heap w'∧
   Steps P (lone (b.on tm ds (.inRegion ops l::k)) cs w) (lone (b.on a ds k) cs w'):=by
 obtain ⟨u,ρ2,f,t,H,v,G,F,q,I,E,C,A⟩:=y7k hT e (Nat.le_of_eq d) h g (fun i o m y=>by have:=(eAi.1 m).1; omega) x (k:=k) (cs:=cs) p z hds
 have c:v=[]:=by
  cases F with
  |nil=>rfl
  |cons _ i o _ n m _ _=>have:=(eAi.1 m).1; rw [q i (by omega)] at n; cases n
 subst c
 exact ⟨u,ρ2,f,t,H,G,fun i n=>q i (by omega),E,C,A.trans (.one z89)⟩
theorem y44 {T : TypeId → Option TI} (hm : P.follows .mixedOrders = true) (hT : y1d P T) {n : Nat} {id : Nat} {ops : Array Oper} {s0 : AS} {Q : AX → AS → Prop} (hn : n ≤ s0.heap.length) (hind : y8f ops.toList = true) (hed : z78 ops.toList = true)
    (recs : List Rec) (hlen : recs.length = ops.size)
    (hok : ∀ (i : Nat) (o : Oper) (r : Rec), ops[i]? = some o → recs[i]? = some r → z3i s0.nt o.dst = true ∧ w2o P T ops.toList (stF s0 ops.toList recs i) s0.heap.length i o r)
    (hpr : ∀ (i : Nat) (o : Oper), i < recs.length → ops[i]? = some o → x0m s0 ops.toList recs i o)
    (hQ : Q .normal (stF s0 ops.toList recs ops.size)) : z5p P n (.region id ops true) s0 Q := ⟨by
  intro b k cs ρ tm ds w B h1 h2
  have hw := z0b.drawn h1.heap (w.drawn + 1) (z0v.succ _)
  have hxd := Ext.drawn (· < n) ρ s0.heap w (w.drawn + 1) (z0v.succ _)
  have hI : Inv P ops.toList s0 recs (fun _ => false) ρ tm { w with drawn := w.drawn + 1 } s0 :=
    { nt := rfl
      env := fun t => by
        have : ∀ m, y7w s0 ops.toList recs (fun _ => false) t m = z0z s0.env t := by
          intro m
          induction m with
          | zero => rfl
          | succ m ih => simp only [y7w]; split <;> simp [ih]
        rw [this]
      heap := fun id => by
        have : ∀ m, y5s s0 ops.toList recs (fun _ => false) id m = z0e s0.heap id := by
          intro m
          induction m with
          | zero => rfl
          | succ m ih => simp only [y5s]; split <;> simp [ih]
        rw [this]
      st := ⟨hw, fun t => (h1.env t).keep hxd.keep (fun _ _ h => h), h1.size, h1.dom⟩
      dom := fun id h => .inl (h1.dom id h)
      turned := by simp
      closed := by simp }
  obtain ⟨s', ρ', tm', w', S', g1, g2, g3, g4, g5⟩ := v0y hT hind hlen hok hpr (b := b) (k := k) (cs := cs) (ds := ds) (B := B) (y0b hed (w.tape w.drawn (.order b.fn id))) (by simp) hI (h2.keep h1.heap hxd)
  have hall : ∀ i, i < ops.toList.length → S' i = true := by simpa using g2
  have hE : ∀ t, z0z (stF s0 ops.toList recs ops.size).env t = z0z s'.env t := by
    intro t
    rw [g1.env t, w8r _ _ _ _ t _ hall, eCg]
  have hH : ∀ id, z0e s'.heap id = z0e (stF s0 ops.toList recs ops.size).heap id := by
    intro id
    rw [g1.heap id, w8q _ _ _ _ id _ hall, eCg]
  obtain ⟨l1, l2⟩ := x6d s0 ops.toList recs ops.size
  have hst : z2c P ρ' (stF s0 ops.toList recs ops.size) tm' w' :=
    ⟨g1.st.heap.ext hH, fun t => by rw [hE, ← z4i hH]; exact g1.st.env t, by rw [x77, ← g1.nt]; exact g1.st.size, fun id hid => by
      rcases g1.dom id hid with h | ⟨j, r, a1, a2, a3, x, a4⟩
      · omega
      · have hj : j < ops.size := by have := (eAe.1 a2).1; omega
        exact l2 j ops[j] r hj (by rw [eAt]; exact eBg hj) a2 id x a4⟩
  refine ⟨.normal, _, ρ', tm', ds, w', hQ, hst, g3, x77 _ _ _ _, ?_, ?_⟩
  · refine hxd.trans ?_
    have := g4.mono (S' := (· < n)) (fun id (hid : id < n) => by show id < s0.heap.length; omega)
    exact ⟨this.os, this.tape, this.output, by rw [← z4i hH]; exact this.keep, this.rho, this.fr, this.frs⟩
  · have hst := z71 (P := P) (b := b) (tm := tm) (ds := ds) (k := k) (cs := cs) (w := w) (id := id) (ops := ops)
    rw [hm] at hst
    exact .head hst g5⟩
inductive DS (P:Program) (T:TypeId→Option TI) (ops:List Oper) (nt base:Nat) (K:AS→Prop):List (List Nat)→Nat→List Oper→AS→Prop
 |nil {acc:List (List Nat)} {i:Nat} {s:AS} (h:K s):DS P T ops nt base K acc i [] s
 |cons {acc:List (List Nat)} {i:Nat} {o:Oper} {rest:List Oper} {s:AS} {r:Rec} (hp:z6m ops acc i o (z38 s.env o.op)=true) (hd:z3i nt o.dst=true) (hop:w2o P T ops s base i o r)
   (h:DS P T ops nt base K (acc++[z38 s.env o.op]) (i+1) rest (z4p s o.dst r.v r.u)):DS P T ops nt base K acc i (o::rest) s
theorem DS.recs {T:TypeId→Option TI} {ops:List Oper} {nt base:Nat} {K:AS→Prop} {s0:AS} {acc:List (List Nat)} {i:Nat} {rest:List Oper} {s:AS} (h:DS P T ops nt base K acc i rest s):
  ∀ (pre tail:List Oper) (d:List Rec),ops=pre++rest++tail→pre.length=i→d.length=i→s=stF s0 ops d i→
   (∀ (j:Nat) (o:Oper) (r:Rec),ops[j]?=some o→d[j]?=some r→z3i nt o.dst=true∧w2o P T ops (stF s0 ops d j) base j o r)→
   (acc.length=i)→(∀ (j:Nat) (o:Oper),j<i→ops[j]?=some o→x6r acc j=z38 (stF s0 ops d j).env o.op)→(∀ (j:Nat) (o:Oper),j<i→ops[j]?=some o→x0m s0 ops d j o)→
   ∃ recs:List Rec,recs.length+tail.length=ops.length∧(∀ (j:Nat) (o:Oper) (r:Rec),ops[j]?=some o→recs[j]?=some r→z3i nt o.dst=true∧w2o P T ops (stF s0 ops recs j) base j o r)∧(∀ (j:Nat) (o:Oper),j<recs.length→ops[j]?=some o→x0m s0 ops recs j o)∧K (stF s0 ops recs recs.length):=by
 induction h with
 |nil h=>
  intro pre tail d e A w v n k u l
  refine ⟨d,by rw [e]; simp [A,w],n,fun j o y=>l j o (by omega),by rw [w, ←v]; exact h⟩
 |cons z I E h B=>
  rename_i acc i o rest s r
  intro pre tail d e A w v n k u l
  have f:ops[i]?=some o:=by rw [e, ←A]; simp
  have b:∀ m,m≤d.length→stF s0 ops (d++[r]) m=stF s0 ops d m:=by
   intro m
   induction m with
   |zero=>intro _; rfl
   |succ m B=>intro hm; simp only [stF]; rw [B (by omega),eFh (by omega)]
  have C:(d++[r])[i]?=some r:=by rw [←w]; simp
  refine B (pre++[o]) tail (d++[r]) (by rw [e]; simp) (by simp [A]) (by simp [w]) ?_ (fun j p q y x=>?_) (by simp [k]) (fun j p y c=>?_) (fun j p y c=>?_)
  ·simp only [stF,f,C]
   rw [b i (by omega), ←v]
  ·rw [eBr] at x
   split at x
   ·rename_i G
    rw [b j (by omega)]
    exact n j p q y x
   ·rename_i H
    have F:j=i:=by have:=(eAe.1 x).1; simp at this; omega
    subst F
    rw [f] at y; cases y
    have:r=q:=by rw [←w] at x; simpa using x
    subst this
    rw [b j (by omega), ←v]
    exact ⟨I,E⟩
  ·rw [b j (by omega)]
   by_cases t:j=i
   ·subst t
    rw [f] at c; cases c
    rw [←k,y0e,k, ←v]
   ·rw [y0d _ _ _ (by omega)]
    exact u j p (by omega) c
  ·by_cases t:j=i
   ·subst t
    rw [f] at c; cases c
    intro m a hm g
    rw [b m (by omega),b j (by omega)]
    unfold z6m at z
    have:=eBm.1 z m (eBj.2 hm)
    rw [x8r,g] at this
    simp only [eBh,eAf,eCy] at this
    rcases this with h|h|h
    ·exact .inl h
    ·exact .inr (.inl h)
    ·refine .inr (.inr ?_)
     rw [u m a hm g] at h
     rw [←v]
     exact y90 h
   ·intro m a hm g
    have:=l j p (by omega) c m a hm g
    rw [b m (by omega),b j (by omega)]
    exact this
theorem w6b {T:TypeId→Option TI} (hm:P.follows .mixedOrders=true) (hT:y1d P T) {n:Nat} {id:Nat} {ops:Array Oper} {s0:AS} {Q:AX→AS→Prop} (g:n≤s0.heap.length) (a:y8f ops.toList=true) (c:z78 ops.toList=true)
  (h:DS P T ops.toList s0.nt s0.heap.length (Q .normal) [] 0 ops.toList s0):z5p P n (.region id ops true) s0 Q:=by
 obtain ⟨recs,d,p,m,e⟩:=h.recs (s0:=s0) [] [] [] (by simp) rfl rfl rfl (by simp) rfl (fun j o k=>by omega) (fun j o k=>by omega)
 refine y44 hm hT g a c recs (by simpa using d) (fun i o r b f=>p i o r (by rw [eAt]; exact b) f) (fun i o l b=>m i o l (by rw [eAt]; exact b)) (by simp at d; rw [d] at e; exact e)
end
def x9r {α:Type} (l:List α) (off len:Nat):List α:=(l.drop off).take len
def x85 (cap:Option Nat) (len:Nat):Bool:=
 match cap with
 |some c=>eAk c len
 |none=>false
def frz (o:AO) (z off len:Nat) (cap:Option Nat):AV:=
 match o with
 | .row es=>bif eAz (off+len) es.length then .d (.list (x85 cap len) z (x9r es off len)) else .bot
 |_=> .bot
mutual
def z3t (h:List AO) (kp:Nat→Bool):AV→AV
 | .bot=> .bot
 | .d x=> .d x
 | .bptr id off=>bif kp id then .bptr id off else .bot
 | .ptr id i off=>bif kp id then .ptr id i off else .bot
 | .lptr c off=> .lptr c off
 | .wptr c off=> .wptr c off
 | .perm c=> .perm c
 | .slice id z off len cap=>bif kp id then .slice id z off len cap else frz (z0e h id) z off len cap
 | .map id=>bif kp id then .map id else .bot
 | .yld id=>bif kp id then .yld id else .bot
 | .clo fn fs cs=> .clo fn (y71 h kp fs) (y71 h kp cs)
 | .iface t v=> .iface t (z3t h kp v)
 | .agg cs=> .agg (y71 h kp cs)
 | .tuple vs=> .tuple (y71 h kp vs)
def y71 (h:List AO) (kp:Nat→Bool):List AV→List AV
 |[]=>[]
 |x::l=>z3t h kp x::y71 h kp l
end
theorem z82 (h:List AO) (kp:Nat→Bool) (l:List AV):y71 h kp l=l.map (z3t h kp):=by
 induction l with
 |nil=>rfl
 |cons x l a=>simp [y71,a]
def x70 (h:List AO) (kp:Nat→Bool):List (List AV)→List (List AV)
 |[]=>[]
 |x::l=>y71 h kp x::x70 h kp l
def y72 {α:Type} (h:List AO) (kp:Nat→Bool):List (α×AV)→List (α×AV)
 |[]=>[]
 |(k,x)::l=>(k,z3t h kp x)::y72 h kp l
def w0q (h:List AO) (kp:Nat→Bool):AO→AO
 | .dead=> .dead
 | .box cs=> .box (y71 h kp cs)
 | .row es=> .row es
 | .arow es=> .arow (x70 h kp es)
 | .map es=> .map es
 | .loop st a g pos nt env=> .loop st a g pos nt (y72 h kp env)
theorem x2u (h:List AO) (kp:Nat→Bool) (l:List (List AV)):x70 h kp l=l.map (y71 h kp):=by
 induction l with
 |nil=>rfl
 |cons x l a=>simp [x70,a]
theorem y3y (h:List AO) (kp:Nat→Bool) (env:List (Nat×AV)) (t:Nat):z0z (y72 h kp env) t=z3t h kp (z0z env t):=by
 induction env with
 |nil=>rfl
 |cons x env a=>
  obtain ⟨k,x⟩:=x
  simp only [y72,z0z]
  cases eAk k t<;>simp [a]
theorem z8b (h:List AO) (kp:Nat→Bool) (o:AO):(w0q h kp o).live=o.live:=by cases o<;>rfl
def z4f (h:List AO) (kp:Nat→Bool):Nat→List AO→List AO
 |_,[]=>[]
 |i,o::l=>(bif kp i then w0q h kp o else .dead)::z4f h kp (i+1) l
theorem z4r (h:List AO) (kp:Nat→Bool) (l:List AO):∀ i id,z0e (z4f h kp i l) id=if kp (i+id)=true then w0q h kp (z0e l id) else .dead:=by
 induction l with
 |nil=>intro i id; simp [z4f,z0e,w0q]
 |cons o l a=>
  intro i id
  cases id with
  |zero=>simp only [z4f,z0e,eBk]; cases kp i<;>rfl
  |succ id=>simp only [z4f,z0e]; rw [a,show i+1+id=i+(id+1) by omega]
theorem z55 (h:List AO) (kp:Nat→Bool) (l:List AO):∀ i,(z4f h kp i l).length=l.length:=by
 induction l with
 |nil=>intro i; rfl
 |cons o l a=>intro i; simp [z4f,a]
section
variable {ρ:Rho} {h:List AO} {w:World} {kp:Nat→Bool}
def Rho.only (ρ:Rho) (kp:Nat→Bool):Rho:=⟨fun id=>if kp id=true then ρ id else none,ρ.fr⟩
theorem z2a {id:Nat} {L:Loc}:ρ.only kp id=some L↔kp id=true∧ρ id=some L:=by
 simp [Rho.only]
theorem x8k {b:Nat}:z0f (ρ.only kp) (z4f h kp 0 h) b↔ρ.fr b∨∃ id L,kp id=true∧ρ id=some L∧(z0e h id).live=true∧L.blk=b:=by
 unfold z0f
 constructor
 ·rintro (d|⟨id,L,f,c,rfl⟩)
  ·exact .inl d
  ·obtain ⟨a,e⟩:=z2a.1 f
   rw [z4r,eAy,if_pos a,z8b] at c
   exact .inr ⟨id,L,a,e,c,rfl⟩
 ·rintro (d|⟨id,L,a,e,c,rfl⟩)
  ·exact .inl d
  ·refine .inr ⟨id,L,z2a.2 ⟨a,e⟩,?_,rfl⟩
   rw [z4r,eAy,if_pos a,z8b]; exact c
theorem z5b {b:Nat} (d:z0f (ρ.only kp) (z4f h kp 0 h) b):z0f ρ h b:=by
 rcases x8k.1 d with c|⟨id,L,_,e,a,rfl⟩
 ·exact .inl c
 ·exact .inr ⟨id,L,e,a,rfl⟩
theorem y37 {c:Array Value} {t:TypeId} {b k:Nat} {v:Value} (d:w.heap[b]?=some (.cells c t (0,0))) (a:c[k]?=some v):w.cell? ⟨b,k,none⟩=some v:=by
 simp [eFc,d,a]
theorem y0u {P:Program} (V:z0b P ρ h w) {x:AV} {v:Value} (hv:z0q ρ (z0f ρ h) w x v):z0q (ρ.only kp) (z0f (ρ.only kp) (z4f h kp 0 h)) w (z3t h kp x) v:=by
 have Y:z5d (z0f ρ h) (z0f (ρ.only kp) (z4f h kp 0 h)) w w:=⟨eAp _,fun _ _ _=>rfl,fun b _ K=>z5b K,fun _ _ h=>h,z0v.refl _⟩
 induction hv with
 |bot v=>exact .bot v
 |d h=>exact .d (h.keep Y)
 |bptr id off L C=>
  simp only [z3t]
  cases g:kp id with
  |true=>exact .bptr id off L (z2a.2 ⟨g,C⟩)
  |false=>exact .bot _
 |ptr id i off L C=>
  simp only [z3t]
  cases g:kp id with
  |true=>exact .ptr id i off L (z2a.2 ⟨g,C⟩)
  |false=>exact .bot _
 |lptr r off b o p hO cell H a4=>
  exact .lptr r off b o p (fun K=>hO (z5b K)) cell H (fun j x f=>(a4 j x f).keep Y)
 |wptr es off b o z p hO U H=>
  exact .wptr es off b o z p (fun K=>hO (z5b K)) U fun i r j x B f=>let ⟨v,hv,V⟩:=H i r j x B f; ⟨v,hv,V.keep Y⟩
 |perm es b3 v hp h=>exact .perm es b3 v hp (h.keep Y)
 |nils id z off cap a H=>
  simp only [z3t]
  cases g:kp id with
  |true=>exact .nils id z off cap a H
  |false=>
   simp only [cond_false]
   unfold frz
   split
   ·cases eAz (off+0) _ with
    |false=>exact .bot _
    |true=>simp only [cond_true,x9r,eGg]; exact .d (.lnil _ _ _ _ (fun _=>rfl))
   ·exact .bot _
 |slice id z off len cap L a c C U ha H S=>
  simp only [z3t]
  cases g:kp id with
  |true=>exact .slice id z off len cap L a c (z2a.2 ⟨g,C⟩) U ha H S
  |false=>
   simp only [cond_false]
   unfold frz
   split
   ·rename_i es Q
    cases K:eAz (off+len) es.length with
    |false=>exact .bot _
    |true=>
     have b6:=eAl K
     simp only [cond_true]
     obtain ⟨b5,X⟩:=V.obj id L C
     rw [Q] at X
     obtain ⟨I,cs,t,b1,q,R⟩:=X
     have F:x85 cap len=true→c=len:=by
      intro G
      unfold x85 at G
      rcases H with rfl|⟨rfl,_⟩
      ·simp only at G; exact eAg G
      ·cases G
     refine .d ?_
     cases E:len with
     |zero=>
      have:x9r es off 0=[]:=by simp [x9r]
      rw [this]
      exact .lnil _ _ _ _ (fun G=>by rw [←E] at G; rw [F G,E])
     |succ m=>
      rw [←E]
      have l:(x9r es off len).length=len:=by simp [x9r]; omega
      have b4:0<len:=by omega
      have n:∀ i r,(x9r es off len)[i]?=some r→i<len∧es[off+i]?=some r:=by
       intro i r B
       have p:i<len:=by rw [←l]; exact (eAe.1 B).1
       refine ⟨p,?_⟩
       simp only [x9r] at B
       rw [eFy p,eDh] at B
       exact B
      have N:∀ k,k<len*z→∃ u,cs[L.base+off*z+k]?=some u∧u.oneCell'=true∧∀ d,(∃ r,(x9r es off len)[k / z]?=some r∧r[k % z]?=some d)→z1m (z0f (ρ.only kp) (z4f h kp 0 h)) w d u:=by
       intro k a8
       subst U
       have B:k / L.esz<len:=(eFw I).2 a8
       have p:k / L.esz<(x9r es off len).length:=by rw [l]; exact B
       have he:=(n (k / L.esz) _ (eAd p)).2
       generalize (x9r es off len)[k / L.esz]=r at he
       have a5:=q _ r he
       have hj:k % L.esz<r.length:=by rw [a5]; exact eGh _ I
       obtain ⟨u,J,M,hd⟩:=R _ r _ r[k % L.esz] he (eAd hj)
       have a9:L.base+(off+k / L.esz)*L.esz+k % L.esz=L.base+off*L.esz+k:=by
        have:=Nat.div_add_mod k L.esz
        rw [eBe,eFm (k / L.esz)]; omega
       rw [a9] at J
       refine ⟨u,J,M,fun d b0=>?_⟩
       obtain ⟨r',a6,a0⟩:=b0
       have:=(n _ _ a6).2
       rw [he] at this; cases this
       rw [eAd hj] at a0; cases a0
       exact hd.keep Y
      have b2:a=some ⟨L.blk,L.base+off*L.esz,none⟩:=ha (by omega)
      subst U
      subst b2
      have W:¬ z0f (ρ.only kp) (z4f h kp 0 h) L.blk:=by
       intro K
       rcases x8k.1 K with G|⟨a3,L',M,h2,a7,he⟩
       ·exact V.sep id L C (by rw [Q]; rfl) G
       ·have:=V.inj a3 id L' L h2 C a7 (by rw [Q]; rfl) he
        subst this; rw [g] at M; cases M
      have key:=z1m.list (O:=z0f (ρ.only kp) (z4f h kp 0 h)) (w:=w) (x85 cap len) (x9r es off len) L.blk (L.base+off*L.esz) L.esz c I
       (by intro e; rw [e] at l; simp at l; omega) W (by rw [l]; exact S) (by rw [l]; exact F) (fun i r B=>q _ r (n i r B).2)
       (fun k=>(cs[L.base+off*L.esz+k]?).getD undef) (fun k A=>?_) (fun k A=>?_) (fun i r j d B hj=>?_)
      ·rw [l] at key; exact key
      ·rw [l] at A
       obtain ⟨u,J,M,_⟩:=N k A
       rw [J]; exact M
      ·rw [l] at A
       obtain ⟨u,J,M,_⟩:=N k A
       rw [J]; exact y37 b1 J
      ·have Z:j<L.esz:=by rw [←q _ r (n i r B).2]; exact (eAe.1 hj).1
       have b7:=(n i r B).1
       have A:i*L.esz+j<len*L.esz:=by
        have:(i+1)*L.esz≤len*L.esz:=eBi _ (by omega)
        rw [eBe,Nat.one_mul] at this; omega
       obtain ⟨u,J,_,hd⟩:=N _ A
       rw [J]
       refine hd d ⟨r,?_,?_⟩
       ·rw [show (i*L.esz+j) / L.esz=i by rw [eFm,Nat.mul_add_div I,Nat.div_eq_of_lt Z,eBk]]; exact B
       ·rw [show (i*L.esz+j) % L.esz=j by rw [eFm,Nat.mul_add_mod,eDz Z]]; exact hj
   ·exact .bot _
 |map id L C=>
  simp only [z3t]
  cases g:kp id with
  |true=>exact .map id L (z2a.2 ⟨g,C⟩)
  |false=>exact .bot _
 |yld id L C=>
  simp only [z3t]
  cases g:kp id with
  |true=>exact .yld id L (z2a.2 ⟨g,C⟩)
  |false=>exact .bot _
 |clo fn fs cs vf vc G H M h2 a2 a1=>
  simp only [z3t,z82]
  refine .clo fn _ _ vf vc (by simpa using G) (by simpa using H) (fun i x f=>?_) (fun i x f=>?_)
  ·rw [eAj] at f
   cases s:fs[i]? with
   |none=>rw [s] at f; cases f
   |some y=>rw [s] at f; cases f; exact a2 i y s
  ·rw [eAj] at f
   cases s:cs[i]? with
   |none=>rw [s] at f; cases f
   |some y=>rw [s] at f; cases f; exact a1 i y s
 |iface t x v h T=>simp only [z3t]; exact .iface t _ v T
 |agg xs vs S h T=>
  simp only [z3t,z82]
  refine .agg _ vs (by simpa using S) (fun i x f=>?_)
  rw [eAj] at f
  cases s:xs[i]? with
  |none=>rw [s] at f; cases f
  |some y=>rw [s] at f; cases f; exact T i y s
 |tuple xs vs S h T=>
  simp only [z3t,z82]
  refine .tuple _ vs (by simpa using S) (fun i x f=>?_)
  rw [eAj] at f
  cases s:xs[i]? with
  |none=>rw [s] at f; cases f
  |some y=>rw [s] at f; cases f; exact T i y s
theorem z0b.view {P:Program} (hr:z0b P ρ h w) (kp:Nat→Bool):z0b P (ρ.only kp) (z4f h kp 0 h) w where
 obj:=fun id L hL=>by
  obtain ⟨h1,h2⟩:=z2a.1 hL
  obtain ⟨hb,ho⟩:=hr.obj id L h2
  refine ⟨hb,?_⟩
  rw [z4r,eAy,if_pos h1]
  have hk:z5d (z0f ρ h) (z0f (ρ.only kp) (z4f h kp 0 h)) w w:=⟨eAp _,fun _ _ _=>rfl,fun b _ hb=>z5b hb,fun _ _ h=>h,z0v.refl _⟩
  cases hno:z0e h id with
  |dead=>trivial
  |box cells=>
   rw [hno] at ho
   obtain ⟨hbase,c,t,hcb,hj⟩:=ho
   refine ⟨hbase,c,t,hcb,fun j x hx=>?_⟩
   rw [z82,eAj] at hx
   cases hq:cells[j]? with
   |none=>rw [hq] at hx; cases hx
   |some y=>
    rw [hq] at hx; cases hx
    obtain ⟨v,hv,hvr⟩:=hj j y hq
    exact ⟨v,hv,y0u hr hvr⟩
  |row es=>
   rw [hno] at ho
   obtain ⟨hz,c,t,hcb,hl',hj⟩:=ho
   exact ⟨hz,c,t,hcb,hl',fun i r j x hi hx=>let ⟨v,hv,h1,hvr⟩:=hj i r j x hi hx; ⟨v,hv,h1,hvr.keep hk⟩⟩
  |arow es=>
   rw [hno] at ho
   obtain ⟨hz,c,t,hcb,hl',hj⟩:=ho
   refine ⟨hz,c,t,hcb,fun i r hi=>?_,fun i r j x hi hx=>?_⟩
   ·rw [x2u,eAj] at hi
    cases hq:es[i]? with
    |none=>rw [hq] at hi; cases hi
    |some y=>rw [hq] at hi; cases hi; rw [z82,eBp]; exact hl' i y hq
   ·rw [x2u,eAj] at hi
    cases hq:es[i]? with
    |none=>rw [hq] at hi; cases hi
    |some y=>
     rw [hq] at hi; cases hi
     rw [z82,eAj] at hx
     cases hq2:y[j]? with
     |none=>rw [hq2] at hx; cases hx
     |some z=>
      rw [hq2] at hx; cases hx
      obtain ⟨v,hv,h1,hvr⟩:=hj i y j z hq hq2
      exact ⟨v,hv,h1,y0u hr hvr⟩
  |map es=>
   rw [hno] at ho
   obtain ⟨en,clk,hcb,hl',hj⟩:=ho
   exact ⟨en,clk,hcb,hl',fun i k x hi=>let ⟨e,he,h1,h2⟩:=hj i k x hi; ⟨e,he,h1.keep hk,h2.keep hk⟩⟩
  |loop st pd g pos nt env=>
   rw [hno] at ho
   obtain ⟨x,ps,asg,body,hcd,tm,ds,f,hcb,hl',hj⟩:=ho
   exact ⟨x,ps,asg,body,hcd,tm,ds,f,hcb,hl',fun t=>by rw [y3y]; exact y0u hr (hj t)⟩
 inj:=fun id id' L L' h1 h2 l1 l2 hb=>by
  obtain ⟨a1,a2⟩:=z2a.1 h1
  obtain ⟨b1,b2⟩:=z2a.1 h2
  rw [z4r,eAy,if_pos a1,z8b] at l1
  rw [z4r,eAy,if_pos b1,z8b] at l2
  exact hr.inj id id' L L' a2 b2 l1 l2 hb
 fr:=hr.fr
 sep:=fun id L hL hl=>by
  obtain ⟨a1,a2⟩:=z2a.1 hL
  rw [z4r,eAy,if_pos a1,z8b] at hl
  exact hr.sep id L a2 hl
 gl:=hr.gl.sub fun b hb=>z5b hb
theorem Ext.view {n : Nat} (hn : ∀ id, id < n → kp id = true) (ρ : Rho) (h : List AO) (w : World) : Ext (· < n) ρ h w (ρ.only kp) (z4f h kp 0 h) w :=
  { os := rfl, tape := rfl, output := rfl
    keep := ⟨eAp _, fun _ _ _ => rfl, fun b _ hb => z5b hb, fun _ _ h => h, z0v.refl _⟩
    rho := fun id hid => by simp [Rho.only, hn id hid]
    fr := rfl
    frs := fun _ _ => rfl }
structure w7n (kp:Nat→Bool) (h h':List AO):Prop where
 nth:∀ id,z0e h' id=z0e (z4f h kp 0 h) id
 len:∀ id,kp id=true→id<h.length→id<h'.length
theorem z2c.view {P:Program} {s:AS} {tm:Array Value} {h':List AO} (a:z2c P ρ s tm w) (b:w7n kp s.heap h'):z2c P (ρ.only kp) ⟨y72 s.heap kp s.env,h',s.nt⟩ tm w:=by
 refine ⟨(a.heap.view kp).ext (fun id=>(b.nth id).symm),fun t=>?_,a.size,fun id hid=>?_⟩
 ·show z0q _ (z0f _ h') w (z0z (y72 s.heap kp s.env) t) _
  rw [y3y,z4i b.nth]
  exact y0u a.heap (a.env t)
 ·cases c:ρ.only kp id with
  |none=>exact absurd c hid
  |some L=>
   obtain ⟨e,d⟩:=z2a.1 c
   exact b.len id e (a.dom id (by rw [d]; simp))
theorem Ext.view' {n:Nat} {h':List AO} (b:∀ id,id<n→kp id=true) (ρ:Rho) (w:World) (a:w7n kp h h'):Ext (· <n) ρ h w (ρ.only kp) h' w:=by
 have:=Ext.view b ρ h w
 exact ⟨rfl,rfl,rfl,by rw [z4i a.nth]; exact this.keep,this.rho,rfl,fun _ _=>rfl⟩
theorem z4m.view {rd:Option Nat} {B:Nat} {ds:List Deferred} (a:z4m rd B ρ.fr w ds):z4m rd B (ρ.only kp).fr w ds:=a
def w2q (env' env:List (Nat×AV)):Prop:=∀ t,z0z env' t= .bot∨z0z env' t=z0z env t
theorem z2c.weaken {P:Program} {s:AS} {tm:Array Value} {env':List (Nat×AV)} (a:z2c P ρ s tm w) (he:w2q env' s.env):z2c P ρ ⟨env',s.heap,s.nt⟩ tm w:=
 ⟨a.heap,fun t=>by
  show z0q ρ _ w (z0z env' t) _
  rcases he t with h|h
  ·rw [h]; exact .bot _
  ·rw [h]; exact a.env t,a.size,a.dom⟩
structure z6n (n:Nat) (s s':AS):Prop where
 run:∀ {P:Program} (ρ:Rho) (tm:Array Value) (w:World),z2c P ρ s tm w→∃ ρ',z2c P ρ' s' tm w∧s'.nt=s.nt∧Ext (· <n) ρ s.heap w ρ' s'.heap w∧(∀ id,id<n→ρ' id=ρ id)
theorem z6n.refl (n:Nat) (s:AS):z6n n s s:=⟨fun ρ tm w h=>⟨ρ,h,rfl,Ext.refl _ _ _ _,fun _ _=>rfl⟩⟩
theorem z6n.trans {n:Nat} {s s' a:AS} (c:z6n n s s') (b:z6n n s' a):z6n n s a:=⟨fun ρ tm w h=>by
 obtain ⟨ρ',l,k,j,i⟩:=c.run ρ tm w h
 obtain ⟨ρ2,g,f,e,d⟩:=b.run ρ' tm w l
 exact ⟨ρ2,g,f.trans k,j.trans e,fun id hid=>(d id hid).trans (i id hid)⟩⟩
theorem z6n.env {n:Nat} {s:AS} {env':List (Nat×AV)} (he:w2q env' s.env):z6n n s ⟨env',s.heap,s.nt⟩:=
 ⟨fun ρ tm w h=>⟨ρ,h.weaken he,rfl,Ext.refl _ _ _ _,fun _ _=>rfl⟩⟩
theorem z6n.view {n:Nat} {s:AS} {h':List AO} (kp:Nat→Bool) (b:∀ id,id<n→kp id=true) (a:w7n kp s.heap h'):z6n n s ⟨y72 s.heap kp s.env,h',s.nt⟩:=
 ⟨fun ρ tm w h=>⟨ρ.only kp,h.view a,rfl,Ext.view' b ρ w a,fun id hid=>by simp [Rho.only,b id hid]⟩⟩
theorem z1d {P:Program} {n:Nat} {c:Code} {s s':AS} {Q:AX→AS→Prop} (t:z6n n s s') (h:z5p P n c s' Q):z5p P n c s Q:=⟨by
 intro b k cs ρ tm ds w B f u
 obtain ⟨ρ',x,v,g,y⟩:=t.run ρ tm w f
 obtain ⟨e,j,ρ2,a,d,i,q,r,p,o,m,l⟩:=h.run b k cs ρ' tm ds w B x (u.keep f.heap g)
 exact ⟨e,j,ρ2,a,d,i,q,r,p,o.trans v,g.trans m,l⟩⟩
theorem z1g {P:Program} {n:Nat} {c:Code} {s:AS} {Q:AX→AS→Prop} (h:z5p P n c s (fun e s'=>∃ d,z6n n s' d∧Q e d)):z5p P n c s Q:=⟨by
 intro b k cs ρ tm ds w B v u
 obtain ⟨e,z,ρ2,a,f,g,⟨l,t,q⟩,i,r,p,o,m⟩:=h.run b k cs ρ tm ds w B v u
 obtain ⟨ρ',y,x,j,A⟩:=t.run ρ2 a g i
 refine ⟨e,l,ρ',a,f,g,q,y,r.keep i.heap j,x.trans p,o.trans j,m⟩⟩
def y1n (h:List AO) (m:Nat):List AO:=z4f h (fun id=>eBt id m) 0 (h.take m)
theorem w4f (h:List AO) (m id:Nat):z0e (h.take m) id=if id<m then z0e h id else .dead:=by
 induction h generalizing m id with
 |nil=>simp [z0e]
 |cons o h a=>
  cases m with
  |zero=>simp [z0e]
  |succ m=>cases id with
   |zero=>simp [z0e]
   |succ id=>simp only [List.take_succ_cons,z0e,a]; by_cases h:id<m<;>simp [h]
theorem w8n (h:List AO) (m:Nat):w7n (fun id=>eBt id m) h (y1n h m) where
 nth:=fun id=>by
  simp only [y1n]
  rw [z4r,z4r]
  simp only [eAy]
  split
  ·rename_i hb
   have:id<m:=eAl hb
   rw [w4f,if_pos this]
  ·rfl
 len:=fun id hb hl=>by
  have:id<m:=eAl hb
  simp only [y1n,z55,eCk]
  omega
theorem z3s.view {P:Program} {f:FuncId} {args:List AV} {h:List AO} {r:AV} {h':List AO} (g:z3s P f args h r h'):z3s P f args h (z3t h' (fun id=>eBt id h.length) r) (y1n h' h.length):=⟨by
 intro ρ e w cs u t s
 obtain ⟨ρ',v,b,fr,q,p,o,n,d,m,l⟩:=g.run ρ e w cs u t s
 have a:=w8n h' h.length
 have i:∀ id,id<h.length→(fun id=>eBt id h.length) id=true:=fun id hid=>eCi hid
 refine ⟨ρ'.only (fun id=>eBt id h.length),v,b,fr,q,p,o,?_,?_,?_,?_⟩
 ·rw [z4i a.nth]; exact y0u d n
 ·exact (d.view _).ext (fun id=>(a.nth id).symm)
 ·intro id hid
  cases c:ρ'.only (fun id=>eBt id h.length) id with
  |none=>exact absurd c hid
  |some L=>
   obtain ⟨k,j⟩:=z2a.1 c
   exact a.len id k (m id (by rw [j]; simp))
 ·exact l.trans (Ext.view' i ρ' b a)⟩
theorem z3s.pret {P:Program} {f:FuncId} {args:List AV} {r:AV} {h':List AO} (a:z3s P f args [] r h'):v2m P f args (z3t h' (fun _=>false) r):=by
 have:=a.view
 simp only [eDw] at this
 have e:(fun id=>eBt id 0)=fun _=>false:=by funext id; rfl
 rw [e] at this
 exact this
end
def isN:AX→Bool
 | .normal=>true
 |_=>false
def y8b:AX→LoopState
 | .normal=> .ready
 |_=> .done
def z4b:AX→Option Code
 | .normal=>none
 | .exit j=>some (.exit j)
 | .ret=>some .ret
def x3j (env:List (Nat×AV)):List Nat→List AV→List (Nat×AV)
 |t::ts,x::xs=>x3j (w75 env t x) ts xs
 |_,_=>env
section
variable {P:Program} {ρ:Rho} {h:List AO} {w:World}
theorem y99 {w:World} {b:Nat} {r r':Loop} (a:w.heap[b]?=some (.loop r)):∀ k m,z1c w k=some m→z1c (World.setObj w b (.loop r')) k=some m:=by
 intro k m hm
 by_cases e:k=b
 ·subst e; simp [z1c,a] at hm
 ·unfold z1c; rw [z19 _ _ _ _ e]; exact hm
theorem y67 {O:Nat→Prop} {b:Nat} {r r':Loop} (ho:O b) (hb:w.heap[b]?=some (.loop r)):z5d O O w (World.setObj w b (.loop r')) where
 size:=by rw [z15]; omega
 frame:=fun k hk hno=>z19 _ _ _ _ (by rintro rfl; exact hno ho)
 own:=fun _ _ h=>h
 shape:=y99 hb
 drawn:=z0v.refl _
theorem z0b.turned {ρ:Rho} {h:List AO} {w w':World} (hr:z0b P ρ h w) (k:z5d (z0f ρ h) (z0f ρ h) w w') (hb:∀ id L,ρ id=some L→(z0e h id).live=true→w'.heap[L.blk]?=w.heap[L.blk]?):z0b P ρ h w' where
 obj:=fun id L hL=>by
  obtain ⟨h1,h2⟩:=hr.obj id L hL
  refine ⟨eBc h1 k.size,?_⟩
  by_cases hl:(z0e h id).live=true
  ·exact h2.keep k (fun _ _ h=>h) (hb id L hL hl)
  ·cases hno:z0e h id<;>simp_all [AO.live,z1e]
 inj:=hr.inj
 fr:=fun b hf=>eBc (hr.fr b hf) k.size
 sep:=hr.sep
 gl:=hr.gl.keep k
theorem z2c.frset {s:AS} {tm:Array Value} (a:z2c P ρ s tm w) {b:Nat} {r r':Loop} (d:ρ.fr b) (g:w.heap[b]?=some (.loop r)):z2c P ρ s tm (World.setObj w b (.loop r')):=by
 have c:z5d (z0f ρ s.heap) (z0f ρ s.heap) w (World.setObj w b (.loop r')):=y67 (.inl d) g
 refine ⟨a.heap.turned c (fun id L i f=>z19 _ _ _ _ ?_),fun t=>(a.env t).keep c (fun _ _ h=>h),a.size,a.dom⟩
 rintro e
 exact a.heap.sep id L i f (by rw [e]; exact d)
section steps
variable {b:Frame} {tm:Array Value} {ds:List Deferred} {k:List Item} {cs:List Frame}
theorem y8a {l:Nat} {w':World} (c:b.roundOf=some l) (a:(Instr.beginRound l).run P w= .ok () w'):step P (lone (b.on tm ds (.beginRound::k)) cs w)= .next (lone (b.on tm ds k) cs w'):=
 step_lone_go (by simp [stepG,stepG.exec,stepG.apply,Frame.on,c,a,Frame.finish])
theorem x3c {l:Nat} {c:Frame} {v:Value} {w':World} (e:b.roundOf=some l) (d:b.kind= .normal) (a:(Instr.endRound l none).run P w= .ok v w'):step P (lone (b.on tm ds []) (c::cs) w)= .next (lone (c.finish v) cs w'):=
 step_lone_go (by simp [stepG,stepG.exec,Frame.on,e,d,a,doReturn])
theorem x3b {l:Nat} {c:Frame} {v:Value} {w':World} (e:b.roundOf=some l) (d:b.kind= .normal) (a:(Instr.endRound l (some .ret)).run P w= .ok v w'):step P (lone (b.on tm ds (.code .ret::k)) (c::cs) w)= .next (lone (c.finish v) cs w'):=
 step_lone_go (by simp [stepG,stepG.exec,Frame.on,e,d,a,doReturn])
theorem x09 {l j:Nat} {c:Frame} {v:Value} {w':World} (f:b.roundOf=some l) (e:b.kind= .normal) (a:exitTo j k=none) (d:(Instr.endRound l (some (.exit j))).run P w= .ok v w'):step P (lone (b.on tm ds (.code (.exit j)::k)) (c::cs) w)= .next (lone (c.finish v) cs w'):=
 step_lone_go (by simp [stepG,stepG.exec,Frame.on,f,e,d,doReturn,a])
theorem x6b {ops:Array Oper} {i:Nat} {rest:List Nat} {o:Oper} (j:ops[i]?=some o) (g:Region.wanted o (yielded ops tm)=true) (m:∀ c,o.op≠ .defer c) {l:Nat} {f:FuncId} {d:Array Value} {e a:Code} {w':World}
  (h:(execOp (opv tm) o).run P w= .ok (.round l f d e a) w'):
  step P (lone (b.on tm ds (.inRegion ops (i::rest)::k)) cs w)= .next (lone (Frame.round l f d e a .normal) (b.on tm ds (.inRegion ops (i::rest)::k)::cs) w'):=by
 refine step_lone_go ?_
 rw [w3n j g m]
 simp [stepG.apply,h,Frame.on]
theorem x3d {f:Operand} {h:Array Tmp} {c a:Code} {l g:Nat} {mark:List Deferred} {vs:Array Value} {w1 e:World} (he:(Instr.enterLoop b.fn tm h c a b.roundOf).run P w= .ok (l,mark) w1)
  (i:(do let d←resolve (opv tm) { callee:= .value f,args:=#[.const (.func (.yield l) #[] #[])],argTypes:=#[] } 0; invoke d.target d.args:Sem Next).run P w1= .ok (.enter g vs) e):
  step P (lone (b.on tm ds (.code (.rangeFunc f h c a)::k)) cs w)= .next (lone (eFr P g vs .normal) (b.on tm (mark++ds) (.inRangeFunc l::k)::cs) e):=by
 have j:=x7b b tm (mark++ds) (.inRangeFunc l::k)
 simp only [Frame.on] at j
 exact step_lone_go (by
  simp only [eAw] at i
  simp [stepG,stepG.exec,stepG.apply,Frame.on,he,j,i])
theorem x6c {l:Nat} {a:Option Code} {w':World} (c:(Instr.endLoop l).run P w= .ok a w'):step P (lone (b.on tm ds (.endRangeFunc l::k)) cs w)= .next (lone (b.on tm ds ((a.map Item.code).toList++k)) cs w'):=
 step_lone_go (by simp [stepG,stepG.exec,Frame.on,c])
end steps
theorem z66 {l:Nat} {r:Loop} (a:w.heap[l]?=some (.loop r)):(Instr.getLoop l).run P w= .ok r w:=by
 simp [Instr.getLoop,getObj,Sem.run,a]
theorem y1v {l:Nat} {r r':Loop} (a:w.heap[l]?=some (.loop r)):(setObj l (.loop r')).run P w= .ok () (World.setObj w l (.loop r')):=by
 have:=(eAi.1 a).1
 simp [setObj,Sem.run,a,World.setObj]
theorem y8c {l:Nat} {r:Loop} (a:w.heap[l]?=some (.loop r)) (b:r.state= .ready):(Instr.beginRound l).run P w= .ok () (World.setObj w l (.loop { r with state:= .busy })):=by
 simp [Instr.beginRound,z66 a,y1v a,b]
theorem x3m {l:Nat} {r:Loop} (a:w.heap[l]?=some (.loop r)) (j:Option Code):(Instr.endRound l j).run P w= .ok (.bool j.isNone) (World.setObj w l (.loop { r with state:=if j.isNone then .ready else .done,pending:=j })):=by
 simp [Instr.endRound,z66 a,y1v a]
theorem x6e {l:Nat} {r:Loop} (b:w.heap[l]?=some (.loop r)) (a:r.state≠ .busy):(Instr.endLoop l).run P w= .ok r.pending (World.setObj w l (.loop { r with state:= .exhausted })):=by
 have:(r.state== .busy)=false:=by
  cases c:r.state<;>first|rfl|exact absurd c a
 simp [Instr.endLoop,z66 b,y1v b,a]
theorem z7r {id j:Nat} (a:(z0e (z04 h id .dead) j).live=true):j≠id∧z0e (z04 h id .dead) j=z0e h j:=by
 by_cases e:id=j
 ·subst e; rw [z0g] at a; cases a
 ·exact ⟨eDa e,z0c _ _ _ _ e⟩
def Rho.lend (ρ:Rho) (b:Nat):Rho:=⟨ρ.loc,fun k=>ρ.fr k∨k=b⟩
theorem y62 (ρ:Rho) (b:Nat):∀ id L,ρ id=some L→(ρ.lend b) id=some L:=fun _ _ h=>h
theorem w6q (ρ:Rho) (F:Nat→Prop):∀ id L,ρ id=some L→(⟨ρ.loc,F⟩:Rho) id=some L:=fun _ _ h=>h
theorem x8l {id:Nat} {L:Loc} (f:ρ id=some L) (g:(z0e h id).live=true) (b:Nat):z0f (ρ.lend L.blk) (z04 h id .dead) b↔z0f ρ h b:=by
 constructor
 ·rintro ((d|rfl)|⟨j,M,c,a,rfl⟩)
  ·exact .inl d
  ·exact .inr ⟨id,L,f,g,rfl⟩
  ·obtain ⟨_,e⟩:=z7r a
   exact .inr ⟨j,M,c,by rw [←e]; exact a,rfl⟩
 ·rintro (d|⟨j,M,c,a,rfl⟩)
  ·exact .inl (.inl d)
  ·by_cases e:id=j
   ·subst e
    have:(some L:Option Loc)=some M:=f.symm.trans c
    cases this
    exact .inl (.inr rfl)
   ·exact .inr ⟨j,M,c,by rw [z0c _ _ _ _ e]; exact a,rfl⟩
theorem z0b.lend (d:z0b P ρ h w) {id:Nat} {L:Loc} (k:ρ id=some L) (q:(z0e h id).live=true):z0b P (ρ.lend L.blk) (z04 h id .dead) w:=by
 have p:z0f (ρ.lend L.blk) (z04 h id .dead)=z0f ρ h:=by funext b; exact propext (x8l k q b)
 refine ⟨fun j M f=>?_,fun i r M v m l o n s=>?_,fun b c=>?_,fun i M f a c=>?_,p▸d.gl⟩
 ·obtain ⟨m,l⟩:=d.obj j M f
  refine ⟨m,?_⟩
  rw [p]
  by_cases e:id=j
  ·subst e; rw [z0g]; trivial
  ·rw [z0c _ _ _ _ e]
   exact l.keep (z5d.refl _ _) (y62 ρ L.blk) rfl
 ·obtain ⟨_,u⟩:=z7r o
  obtain ⟨_,t⟩:=z7r n
  exact d.inj i r M v m l (by rw [←u]; exact o) (by rw [←t]; exact n) s
 ·rcases c with c|rfl
  ·exact d.fr b c
  ·exact (d.obj id L k).1
 ·obtain ⟨g,e⟩:=z7r a
  rw [e] at a
  rcases c with c|c
  ·exact d.sep i M f a c
  ·exact g (d.inj i id M L f k a q c)
theorem x8n {ρ':Rho} {h':List AO} {id:Nat} {L:Loc} {o:AO} (h:ρ' id=some L) (a:ρ'.fr=fun k=>ρ.fr k∨k=L.blk) (c:(z0e h' id).live=false) (i:o.live=true) (b:Nat):
  z0f ⟨ρ'.loc,ρ.fr⟩ (z04 h' id o) b↔z0f ρ' h' b:=by
 constructor
 ·rintro (f|⟨j,M,g,d,rfl⟩)
  ·exact .inl (by rw [a]; exact .inl f)
  ·by_cases e:id=j
   ·subst e
    have:(some L:Option Loc)=some M:=h.symm.trans g
    cases this
    exact .inl (by rw [a]; exact .inr rfl)
   ·rw [z0c _ _ _ _ e] at d
    exact .inr ⟨j,M,g,d,rfl⟩
 ·rintro (f|⟨j,M,g,d,rfl⟩)
  ·rw [a] at f
   rcases f with f|rfl
   ·exact .inl f
   ·exact .inr ⟨id,L,h,by rw [z0g]; exact i,rfl⟩
  ·have e:id≠j:=by rintro rfl; rw [c] at d; cases d
   exact .inr ⟨j,M,g,by rw [z0c _ _ _ _ e]; exact d,rfl⟩
theorem z0b.back {ρ':Rho} {h':List AO} {w':World} (f:z0b P ρ' h' w') {id:Nat} {L:Loc} {o:AO} (h:ρ' id=some L) (a:ρ'.fr=fun k=>ρ.fr k∨k=L.blk) (x:¬ ρ.fr L.blk) (C:o.live=true)
  (w:z1e P ⟨ρ'.loc,ρ.fr⟩ (z0f ⟨ρ'.loc,ρ.fr⟩ (z04 h' id o)) w' L o):(z0e h' id).live=false∧z0b P ⟨ρ'.loc,ρ.fr⟩ (z04 h' id o) w':=by
 have c:(z0e h' id).live=false:=by
  cases B:(z0e h' id).live with
  |false=>rfl
  |true=>exact absurd (by rw [a]; exact .inr rfl) (f.sep id L h B)
 have d:z0f ⟨ρ'.loc,ρ.fr⟩ (z04 h' id o)=z0f ρ' h':=by funext b; exact propext (x8n h a c C b)
 refine ⟨c,fun j M g=>?_,fun i r M A p n v u z=>?_,fun b s=>f.fr b (by rw [a]; exact .inl s),fun i M g m s=>?_,d▸f.gl⟩
 ·obtain ⟨p,n⟩:=f.obj j M g
  refine ⟨p,?_⟩
  by_cases e:id=j
  ·subst e
   have:(some L:Option Loc)=some M:=h.symm.trans g
   cases this
   rw [z0g]; exact w
  ·rw [z0c _ _ _ _ e,d]
   exact n.keep (z5d.refl _ _) (w6q ρ' ρ.fr) rfl
 ·have other:∀ j M,ρ' j=some M→id≠j→(z0e (z04 h' id o) j).live=true→M.blk≠L.blk:=by
   intro j M g y l e
   rw [z0c _ _ _ _ y] at l
   exact f.sep j M g l (by rw [a]; exact .inr e)
  by_cases t:id=i
  ·by_cases q:id=r
   ·rw [←t, ←q]
   ·subst t
    have:(some L:Option Loc)=some M:=h.symm.trans p
    cases this
    exact absurd z.symm (other r A n q u)
  ·by_cases q:id=r
   ·subst q
    have:(some L:Option Loc)=some A:=h.symm.trans n
    cases this
    exact absurd z (other i M p t v)
   ·rw [z0c _ _ _ _ t] at v
    rw [z0c _ _ _ _ q] at u
    exact f.inj i r M A p n v u z
 ·by_cases e:id=i
  ·subst e
   have:(some L:Option Loc)=some M:=h.symm.trans g
   cases this
   exact x s
  ·rw [z0c _ _ _ _ e] at m
   exact f.sep i M g m (by rw [a]; exact .inl s)
theorem w3p {O:Nat→Prop} {nt:Nat}:∀ (c:List Nat) (xs:List AV) (vs:List Value) (env:List (Nat×AV)) (tm:Array Value),(∀ p∈c,p<nt)→vs.length=xs.length→(∀ (i:Nat) (x:AV) (v:Value),xs[i]?=some x→vs[i]?=some v→z0q ρ O w x v)→
  tm.size=nt→z7g ρ O w env tm→z7g ρ O w (x3j env c xs) ((c.zip vs).foldl (fun b (t,a)=>b.setIfInBounds t a) tm)∧((c.zip vs).foldl (fun b (t,a)=>b.setIfInBounds t a) tm).size=nt:=by
 intro c
 induction c with
 |nil=>intro xs vs env tm _ _ _ d he; cases xs<;>exact ⟨by simpa [x3j] using he,by simpa using d⟩
 |cons p c j=>
  intro xs vs env tm g e f d he
  cases xs with
  |nil=>
   have:vs=[]:=by simpa using e
   subst this
   exact ⟨by simpa [x3j] using he,by simpa using d⟩
  |cons x xs=>
   cases vs with
   |nil=>simp at e
   |cons v vs=>
    simp only [x3j,List.zip_cons_cons,eDo]
    refine j xs vs _ _ (fun q m=>g q (by simp [m])) (by simpa using e) (fun i y u k l=>f (i+1) y u (by simpa using k) (by simpa using l)) (by simpa using d) ?_
    have:=y16 (ρ:=ρ) (dst:=some p) (nt:=nt) (z5d.refl O w) (fun _ _ h=>h) he d (by simp [z3i,eBt]; exact g p (by simp)) (f 0 x v rfl rfl)
    exact this
theorem w09 {n : Nat} {ops : Array Oper} {i : Nat} {rest : List Nat} {s : AS} {Q : AS → Prop} {o : Oper} (ho : ops[i]? = some o) (hg : z3l ops.toList s.env o.guard = some true) (hn : n ≤ s.heap.length) {f : Operand} {args : Array Operand} {ts : Array TypeId}
    (e5 : o.op = .call ⟨.value f, args, ts⟩) {id : Nat} (hf : z0m s.env f = .yld id) {pd : Option Code} {g : Nat} {pos : List Bool} {env : List (Nat × AV)} {nt : Nat} (e6 : z0e s.heap id = .loop .ready pd g pos nt env)
    {x0 : Operand} {z : Array Tmp} {h body : Code} (f3 : z05 P g pos = some (.rangeFunc x0 z h body))
    (g6 : ∀ p ∈ z.toList, p < nt) (e4 : args.size = z.size) (hd : z3i s.nt o.dst = true)
    (hc : z5p P s.heap.length h ⟨x3j env z.toList (z06 s.env args.toList), z04 s.heap id .dead, nt⟩ (fun e s1 => e = .normal ∧ z5p P s.heap.length body s1 (fun e' H => s.heap.length ≤ H.heap.length ∧
      y3d P n ops rest ⟨y4g s.env o.dst (.d (.bool (isN e'))), z04 H.heap id (.loop (y8b e') (z4b e') g pos nt env), s.nt⟩ Q))) : y3d P n ops (i :: rest) s Q := ⟨by
  intro b k cs ρ tm ds w B U h2
  have c7 := z0l U.env f
  rw [hf] at c7
  obtain ⟨L, hL, g7⟩ : ∃ L, ρ id = some L ∧ opv tm f = .func (.yield L.blk) #[] #[] := by
    generalize hv : opv tm f = v at c7
    cases c7 with | yld _ L hL => exact ⟨L, hL, rfl⟩
  have J : (z0e s.heap id).live = true := by rw [e6]; rfl
  have N : id < s.heap.length := U.dom id (by rw [hL]; simp)
  obtain ⟨h7, b0⟩ := U.heap.obj id L hL
  rw [e6] at b0
  obtain ⟨x1, j0, h8, f6, b7, m, y, u, c9, e2, f2⟩ := b0
  rw [f3] at b7; cases b7
  have f4 : z07 ρ (z0f ρ s.heap) w (z06 s.env args.toList) (args.map (opv tm)) := z7b U.env args
  let C := ((z.zip (args.map (opv tm))).foldl (fun tmps (t, a) => tmps.setIfInBounds t a) m)
  have c1 : (execOp (opv tm) o).run P w = .ok (.round L.blk u C h body) w := by
    have g0 : (args.map (opv tm)).size = z.size := by simpa using e4
    simp [execOp, e5, resolve, Deferred.ofValue, g7, invoke, Instr.yield, z66 c9, g0, C, e4]
  let R : Frame := Frame.round L.blk u C h body .normal
  let c0 := b.on tm ds (.inRegion ops (i :: rest) :: k)
  have e3 := U.heap.lend hL J
  have e7 : z0f (ρ.lend L.blk) (z04 s.heap id .dead) = z0f ρ s.heap := by funext b; exact propext (x8l hL J b)
  have A := w3p (ρ := ρ.lend L.blk) (w := w) (O := z0f ρ s.heap) z.toList (z06 s.env args.toList) (args.map (opv tm)).toList env m g6 (by rw [eCg]; exact f4.1) (fun j x v hx hv => by
      have := f4.2 j x hx
      have f9 : (args.map (opv tm))[j]? = some v := by rw [← eAt]; exact hv
      rw [z9h f9] at this
      exact this.keep (z5d.refl _ _) (y62 ρ L.blk)) e2 (fun t => (f2 t).keep (z5d.refl _ _) (y62 ρ L.blk))
  have d5 : C = (z.toList.zip (args.map (opv tm)).toList).foldl (fun tmps (t, a) => tmps.setIfInBounds t a) m := by
    simp only [C]
    rw [← Array.foldl_toList, Array.toList_zip]
  rw [← d5] at A
  have d6 : z2c P (ρ.lend L.blk) ⟨x3j env z.toList (z06 s.env args.toList), z04 s.heap id .dead, nt⟩ C w :=
    ⟨e3, fun t => by rw [e7]; exact A.1 t, A.2, fun j Y => by
      have := U.dom j Y
      rw [z2t _ _ _ N]; exact this⟩
  have d9 : z4m (some L.blk) w.heap.size (ρ.lend L.blk).fr w [] := ⟨List.nodup_nil, by simp, e3.fr, eAp _, fun l hl => by cases hl; exact ⟨.inr rfl, _, c9⟩⟩
  obtain ⟨e, s1, ρ2, f8, f5, w2, ⟨rfl, c3⟩, a1, a2, a3, a4, a5⟩ := hc.run R [.beginRound, .code body] (c0 :: cs) _ C [] w w.heap.size d6 d9
  have a0 : ρ2.fr = fun k => ρ.fr k ∨ k = L.blk := a4.fr
  have E : w2.heap[L.blk]? = some (.loop { state := .ready, pending := pd, fn := u, tmps := m, params := z, assign := h, body := body, defers := y }) := (a4.frs L.blk (.inr rfl)).trans c9
  have S : ρ2.fr L.blk := by rw [a0]; exact .inr rfl
  have g9 := y8c (P := P) E rfl
  have h5 := a1.frset (r' := { state := .busy, pending := pd, fn := u, tmps := m, params := z, assign := h, body := body, defers := y }) S E
  have b8 : (World.setObj w2 L.blk (.loop { state := .busy, pending := pd, fn := u, tmps := m, params := z, assign := h, body := body, defers := y })).heap[L.blk]? = some (.loop { state := .busy, pending := pd, fn := u, tmps := m, params := z, assign := h, body := body, defers := y }) :=
    z0u _ _ _ (eAi.1 E).1
  have d8 : z5d (z0f ρ2 s1.heap) (z0f ρ2 s1.heap) w2 (World.setObj w2 L.blk (.loop { state := .busy, pending := pd, fn := u, tmps := m, params := z, assign := h, body := body, defers := y })) := y67 (.inl S) E
  have h4 : z4m (some L.blk) w.heap.size ρ2.fr (World.setObj w2 L.blk (.loop { state := .busy, pending := pd, fn := u, tmps := m, params := z, assign := h, body := body, defers := y })) f5 := by
    refine ⟨a2.nodup, fun d g8 => ?_, a2.below, by rw [z15]; exact a2.le, fun l hl => by cases hl; exact ⟨S, _, b8⟩⟩
    obtain ⟨r, e, hr, hB⟩ := a2.mark d g8
    refine ⟨r, e, ?_, hB⟩
    rw [z19 _ _ _ _ (by rintro rfl; rw [E] at hr; cases hr)]; exact hr
  generalize c5 : World.setObj w2 L.blk (.loop { state := .busy, pending := pd, fn := u, tmps := m, params := z, assign := h, body := body, defers := y }) = w3 at *
  obtain ⟨e, H, F, h9, j1, G, ⟨h6, b9⟩, b1, b2, b3, b4, b5⟩ := c3.run R [] (c0 :: cs) ρ2 f8 f5 w3 w.heap.size h5 h4
  have Z : F.fr = fun k => ρ.fr k ∨ k = L.blk := b4.fr.trans a0
  have T : G.heap[L.blk]? = some (.loop { state := .busy, pending := pd, fn := u, tmps := m, params := z, assign := h, body := body, defers := y }) := (b4.frs L.blk S).trans b8
  have d4 : F id = some L := by
    rw [b4.rho id N, a4.rho id N]; exact hL
  have a8 := x3m (P := P) T (z4b e)
  have f1 : (z4b e).isNone = isN e := by cases e <;> rfl
  have f0 : (if (z4b e).isNone = true then LoopState.ready else LoopState.done) = y8b e := by cases e <;> rfl
  rw [f1] at a8
  rw [f1] at f0
  rw [f0] at a8
  have a7 : Steps P (lone c0 cs w) (lone (c0.finish (.bool (isN e))) cs (World.setObj G L.blk (.loop { state := y8b e, pending := z4b e, fn := u, tmps := m, params := z, assign := h, body := body, defers := y }))) := by
    have e0 : ∀ c, o.op ≠ .defer c := by rw [e5]; simp
    refine .head (x6b ho (z5k U hg) e0 c1) ?_
    have hR : R.on C [] [.code h, .beginRound, .code body] = R := rfl
    rw [hR] at a5
    refine Steps.trans a5 (.head (y8a (l := L.blk) rfl g9) ?_)
    cases e with
    | normal => exact Steps.trans b5 (.one (x3c (l := L.blk) rfl rfl a8))
    | exit j =>
      obtain ⟨k', ek, hs⟩ := b5
      exact Steps.trans hs (.one (x09 (l := L.blk) rfl rfl (by rw [ek]; rfl) a8))
    | ret =>
      obtain ⟨k', hs⟩ := b5
      exact Steps.trans hs (.one (x3b (l := L.blk) rfl rfl a8))
  have X : F.fr L.blk := by rw [Z]; exact .inr rfl
  have h3 := b1.frset (r' := { state := y8b e, pending := z4b e, fn := u, tmps := m, params := z, assign := h, body := body, defers := y }) X T
  have e1 : (World.setObj G L.blk (.loop { state := y8b e, pending := z4b e, fn := u, tmps := m, params := z, assign := h, body := body, defers := y })).heap[L.blk]? = some (.loop { state := y8b e, pending := z4b e, fn := u, tmps := m, params := z, assign := h, body := body, defers := y }) :=
    z0u _ _ _ (eAi.1 T).1
  have d7 : z5d (z0f F H.heap) (z0f F H.heap) G (World.setObj G L.blk (.loop { state := y8b e, pending := z4b e, fn := u, tmps := m, params := z, assign := h, body := body, defers := y })) := y67 (.inl X) T
  have c6 : (World.setObj G L.blk (.loop { state := y8b e, pending := z4b e, fn := u, tmps := m, params := z, assign := h, body := body, defers := y })).heap.size = G.heap.size := z15 _ _ _
  have a6 : ∀ b, b ≠ L.blk → (World.setObj G L.blk (.loop { state := y8b e, pending := z4b e, fn := u, tmps := m, params := z, assign := h, body := body, defers := y })).heap[b]? = G.heap[b]? := fun b hb => z19 _ _ _ _ hb
  have V : (World.setObj G L.blk (.loop { state := y8b e, pending := z4b e, fn := u, tmps := m, params := z, assign := h, body := body, defers := y })).os = G.os ∧ (World.setObj G L.blk (.loop { state := y8b e, pending := z4b e, fn := u, tmps := m, params := z, assign := h, body := body, defers := y })).tape = G.tape ∧ (World.setObj G L.blk (.loop { state := y8b e, pending := z4b e, fn := u, tmps := m, params := z, assign := h, body := body, defers := y })).output = G.output := ⟨rfl, rfl, rfl⟩
  generalize World.setObj G L.blk (.loop { state := y8b e, pending := z4b e, fn := u, tmps := m, params := z, assign := h, body := body, defers := y }) = w5 at *
  have e8 : ¬ ρ.fr L.blk := U.heap.sep id L hL J
  have c2 : (z0e H.heap id).live = false := by
    cases hq : (z0e H.heap id).live with
    | false => rfl
    | true => exact absurd X (b1.heap.sep id L d4 hq)
  have I : z0f ⟨F.loc, ρ.fr⟩ (z04 H.heap id (.loop (y8b e) (z4b e) g pos nt env)) = z0f F H.heap := by
    funext b; exact propext (x8n d4 Z c2 rfl b)
  have K : z5d (z0f ρ s.heap) (z0f F H.heap) w w5 := by
    have k1 := a4.keep
    rw [e7] at k1
    exact ((k1.trans d8).trans b4.keep).trans d7
  have a9 : ∀ j, j < s.heap.length → F j = ρ j := fun j Y => (b4.rho j Y).trans (a4.rho j Y)
  have W : ∀ j M, ρ j = some M → F j = some M := fun j M hM => by rw [a9 j (U.dom j (by rw [hM]; simp))]; exact hM
  obtain ⟨_, c4⟩ := h3.heap.back (ρ := ρ) (o := .loop (y8b e) (z4b e) g pos nt env) d4 Z e8 rfl ⟨x0, z, h, body, f3, m, y, u, e1, e2, fun t => by
    rw [I]
    exact (f2 t).keep (ρ' := ⟨F.loc, ρ.fr⟩) K (fun j M hM => W j M hM)⟩
  have b6 : Ext (· < s.heap.length) ρ s.heap w ⟨F.loc, ρ.fr⟩ (z04 H.heap id (.loop (y8b e) (z4b e) g pos nt env)) w5 :=
    { os := V.1.trans (b4.os.trans ((by rw [← c5]; rfl : w3.os = w2.os).trans a4.os))
      tape := V.2.1.trans (b4.tape.trans ((by rw [← c5]; rfl : w3.tape = w2.tape).trans a4.tape))
      output := V.2.2.trans (b4.output.trans ((by rw [← c5]; rfl : w3.output = w2.output).trans a4.output))
      keep := by rw [I]; exact K
      rho := fun j Y => a9 j Y
      fr := rfl
      frs := fun c c8 => by
        have e9 : c ≠ L.blk := by rintro rfl; exact e8 c8
        rw [a6 c e9, b4.frs c (by rw [a0]; exact .inl c8), ← c5, z19 _ _ _ _ e9, a4.frs c (.inl c8)] }
  have h0 : z2c P ⟨F.loc, ρ.fr⟩ ⟨y4g s.env o.dst (.d (.bool (isN e))), z04 H.heap id (.loop (y8b e) (z4b e) g pos nt env), s.nt⟩ (y3s tm o.dst (.bool (isN e))) w5 :=
    ⟨c4, by
      show z7g _ (z0f ⟨F.loc, ρ.fr⟩ (z04 H.heap id _)) w5 _ _
      rw [I]
      exact y16 (ρ' := ⟨F.loc, ρ.fr⟩) K (fun j M hM => W j M hM) U.env U.size hd (.d (.bool _)), by rw [z8k]; exact U.size, fun j Y => by
      have Y : F j ≠ none := Y
      have := b1.dom j Y
      have := (z10 H.heap id (.loop (y8b e) (z4b e) g pos nt env)).1
      show j < (z04 H.heap id _).length
      omega⟩
  obtain ⟨s3, ρ5, f7, w6, q, g1, g2, g3, g4, g5⟩ := b9.run b k cs _ _ ds w5 B h0 (h2.keep U.heap b6)
  refine ⟨s3, ρ5, f7, w6, q, g1, g2, g3, (b6.mono (fun j (Y : j < n) => by show j < s.heap.length; omega)).trans g4, Steps.trans a7 ?_⟩
  rw [show c0.finish (.bool (isN e)) = b.on (y3s tm o.dst (.bool (isN e))) ds (.inRegion ops rest :: k) from z8x ho _]
  exact g5⟩
end
def y0s (s:AS) (h:List AO):Option Code→Option (AX×AS)
 |none=>some (.normal,⟨s.env,h,s.nt⟩)
 |some .ret=>some (.ret,⟨s.env,h,s.nt⟩)
 |some (.exit j)=>some (.exit j,⟨s.env,h,s.nt⟩)
 |some _=>none
section
variable {P:Program}
theorem y6l (h:List AO) (o:AO):(z04 h h.length o).length=h.length+1:=by rw [x1g]; simp
structure z5o (P:Program) (n:Nat) (g:FuncId) (args:List AV) (s:AS) (r:AV) (s':AS):Prop where
 run:∀ (ρ:Rho) (vs tm:Array Value) (w:World) (cs:List Frame),z2c P ρ s tm w→z07 ρ (z0f ρ s.heap) w args vs→
  ∃ ρ' v w' fr,Steps P (lone (eFr P g vs .normal) cs w) (lone fr cs w')∧fr.fn=g∧fr.leaving P w' (.returned v)∧z0q ρ' (z0f ρ' s'.heap) w' r v∧z2c P ρ' s' tm w'∧s'.nt=s.nt∧Ext (· <n) ρ s.heap w ρ' s'.heap w'
theorem z5o.of_aret {n:Nat} {g:FuncId} {args:List AV} {s:AS} {r:AV} {h':List AO} (q:n≤s.heap.length) (h:z3s P g args s.heap r h'):z5o P n g args s r ⟨s.env,h',s.nt⟩:=⟨by
 intro ρ e tm w cs a i
 obtain ⟨ρ',v,d,fr,p,o,m,l,k,j,b⟩:=h.run ρ e w cs a.heap a.dom i
 have f:∀ id L,ρ id=some L→ρ' id=some L:=fun id L c=>by
  have hid:id<s.heap.length:=a.dom id (by rw [c]; simp)
  rw [b.rho id hid]; exact c
 exact ⟨ρ',v,d,fr,p,o,m,l,⟨k,fun t=>(a.env t).keep b.keep f,a.size,j⟩,rfl,b.mono (fun id (hid:id<n)=>by show id<s.heap.length; omega)⟩⟩
theorem w1a {n:Nat} {ops:Array Oper} {i:Nat} {rest:List Nat} {s:AS} {Q:AS→Prop} {o:Oper} (M:ops[i]?=some o) (hg:z3l ops.toList s.env o.guard=some true) {f:Operand} {args:Array Operand} {ts:Array TypeId}
  (m:o.op= .call ⟨.value f,args,ts⟩) {g:FuncId} {first captured:List AV} (T:z0m s.env f= .clo (.func g) first captured) (F:z3g P g) {r:AV} {s':AS} (l:z5o P n g (first++z06 s.env args.toList++captured) s r s') (U:z3i s.nt o.dst=true)
  (h:y3d P n ops rest ⟨y4g s'.env o.dst r,s'.heap,s'.nt⟩ Q):y3d P n ops (i::rest) s Q:=⟨by
 intro b k cs ρ tm ds w B x V
 have e:=z0l x.env f
 rw [T] at e
 obtain ⟨a,d,E,C,G⟩:∃ a d,opv tm f= .func (.func g) a d∧z07 ρ (z0f ρ s.heap) w first a∧z07 ρ (z0f ρ s.heap) w captured d:=by
  generalize L:opv tm f=v at e
  cases e with
  |clo _ _ _ a d a1 a2 a3 a4=>exact ⟨a,d,rfl,⟨a1,a3⟩,⟨a2,a4⟩⟩
 have H:z07 ρ (z0f ρ s.heap) w (z06 s.env args.toList) (args.map (opv tm)):=z7b x.env args
 have u:=(C.append H).append G
 have j:(execOp (opv tm) o).run P w= .ok (.enter g (a++args.map (opv tm)++d)) w:=by
  have:=F (a++args.map (opv tm)++d) w
  simp only [Array.append_assoc] at this
  simp [execOp,m,resolve,Deferred.ofValue,E,invoke,this]
 obtain ⟨ρ',v,J,fr,z,S,A,L,q,p,K⟩:=l.run ρ _ tm w (b.on tm ds (.inRegion ops (i::rest)::k)::cs) x u
 have I:z2c P ρ' ⟨y4g s'.env o.dst r,s'.heap,s'.nt⟩ (y3s tm o.dst v) J:=
  ⟨q.heap,y16 (z5d.refl _ _) (fun _ _ h=>h) q.env q.size (by rw [p]; exact U) L,by rw [z8k]; exact q.size,q.dom⟩
 obtain ⟨O,ρ2,y,N,R,g1,Z,Y,X,W⟩:=h.run b k cs ρ' _ ds J B I (V.keep x.heap K)
 have t:∀ c,o.op≠ .defer c:=by rw [m]; simp
 refine ⟨O,ρ2,y,N,R,g1,Z,Y.trans p,K.trans X,?_⟩
 refine .head (y1s M (z5k x hg) t j) (Steps.trans z (.head (step_leave_returned A) ?_))
 rw [z8x M]
 exact W⟩
theorem y8j {n:Nat} {s:AS} {Q:AX→AS→Prop} {f:Operand} {ps:Array Tmp} {H body:Code} {g:FuncId} {first captured:List AV} {gc:Nat} {pos:List Bool} (f2:z05 P gc pos=some (.rangeFunc f ps H body)) (hf:z0m s.env f= .clo (.func g) first captured) (e8:z3g P g) (hn:n≤s.heap.length)
  {r:AV} {E:AS} (c1:z5o P (s.heap.length+1) g (first++[.yld s.heap.length]++captured) ⟨s.env,z04 s.heap s.heap.length (.loop .ready none gc pos s.nt s.env),s.nt⟩ r E)
  {st:LoopState} {C:Option Code} {M:Nat} {y:List Bool} {env:List (Nat×AV)} {nt:Nat} (c9:z0e E.heap s.heap.length= .loop st C M y nt env) (d7:st≠ .busy)
  {e:AX} {s':AS} (K:y0s E (z04 E.heap s.heap.length .dead) C=some (e,s')) (hQ:Q e s'):z5p P n (.rangeFunc f ps H body) s Q:=⟨by
 intro b k cs ρ tm ds w B X W
 have A:ρ s.heap.length=none:=by
  cases hq:ρ s.heap.length with
  |none=>rfl
  |some L=>have:=X.dom s.heap.length (by rw [hq]; simp); omega
 obtain ⟨mark,w1,b0,d6,z,a7⟩:∃ (mark:List Deferred) (w1:World) (b0:Nat),(z0b P ρ s.heap w1∧Ext (· <s.heap.length) ρ s.heap w ρ s.heap w1)∧
   (∀ o:Loop,o={ state:= .ready,pending:=none,fn:=b.fn,tmps:=tm,params:=ps,assign:=H,body:=body,defers:=b0 }→(Instr.enterLoop b.fn tm ps H body b.roundOf).run P w= .ok (w1.heap.size,mark) (World.push w1 (.loop o)))∧z4m b.roundOf B ρ.fr w1 (mark++ds):=by
  cases c8:b.roundOf with
  |none=>
   refine ⟨[{ target:= .collected w.heap.size,args:=#[] }],World.push w (.deferred (some [])),w.heap.size,⟨X.heap.push0 _,Ext.push0 _ X.heap _⟩,?_,?_⟩
   ·rintro o rfl
    simp [Instr.enterLoop,newObj,Sem.run,World.push]
    rfl
   ·rw [c8] at W
    refine ⟨?_,?_,W.below,by rw [z8l]; have:=W.le; omega,fun l hl=>by cases hl⟩
    ·refine eGm.2 ⟨fun hm=>?_,W.nodup⟩
     obtain ⟨r,e,hr,_⟩:=W.mark _ hm
     have:=(eAi.1 hr).1
     have e2:Target.collected w.heap.size=Target.collected r:=congrArg Deferred.target e
     injection e2 with e2
     omega
    ·intro d hd
     rcases eBa.1 hd with rfl|hd
     ·exact ⟨w.heap.size,rfl,z4h _ _,W.le⟩
     ·obtain ⟨r,e,hr,hB⟩:=W.mark d hd
      exact ⟨r,e,by rw [z6p _ _ _ (eAi.1 hr).1]; exact hr,hB⟩
  |some l0=>
   rw [c8] at W
   obtain ⟨_,r0,d8⟩:=W.round l0 rfl
   refine ⟨[],w,r0.defers,⟨X.heap,Ext.refl _ _ _ _⟩,?_,W⟩
   rintro o rfl
   simp [Instr.enterLoop,newObj,Sem.run,World.push,z66 d8]
   try rfl
 obtain ⟨b5,c7⟩:=d6
 have z:=z _ rfl
 generalize e0:({ state:= .ready,pending:=none,fn:=b.fn,tmps:=tm,params:=ps,assign:=H,body:=body,defers:=b0 }:Loop)=Z at z
 have b4:=Ext.new b5 A ⟨w1.heap.size,0,0⟩ (.loop .ready none gc pos s.nt s.env) (.loop Z) rfl
 have d4:z0b P (ρ.put s.heap.length ⟨w1.heap.size,0,0⟩) (z04 s.heap s.heap.length (.loop .ready none gc pos s.nt s.env)) (World.push w1 (.loop Z)):=
  b5.new A 0 _ _ ⟨f,ps,H,body,f2,tm,b0,b.fn,by rw [z4h, ←e0],X.size,fun t=>((X.env t).keep c7.keep (fun _ _ h=>h)).keep b4.keep (Rho.put_mono _ _ _ A)⟩
 have f0:Dom (ρ.put s.heap.length ⟨w1.heap.size,0,0⟩) (z04 s.heap s.heap.length (.loop .ready none gc pos s.nt s.env)):=fun id hid=>by
  rw [y6l]
  by_cases e:id=s.heap.length
  ·omega
  ·rw [Rho.put_ne _ _ _ _ e] at hid
   have:=X.dom id hid; omega
 have N:=(c7.mono (S':=(· <s.heap.length)) (fun _ h=>h)).trans (b4.mono (S':=(· <s.heap.length)) (fun id (h:id<s.heap.length)=>by show id≠s.heap.length; omega))
 have J:∀ id L,ρ id=some L→(ρ.put s.heap.length ⟨w1.heap.size,0,0⟩) id=some L:=Rho.put_mono _ _ _ A
 have b6:=z0l X.env f
 rw [hf] at b6
 obtain ⟨vf,vc,e7,e6,f1⟩:∃ vf vc,opv tm f= .func (.func g) vf vc∧z07 ρ (z0f ρ s.heap) w first vf∧z07 ρ (z0f ρ s.heap) w captured vc:=by
  generalize hv:opv tm f=v at b6
  cases b6 with
  |clo _ _ _ vf vc a1 a2 a3 a4=>exact ⟨vf,vc,rfl,⟨a1,a3⟩,⟨a2,a4⟩⟩
 have later:∀ (xs:List AV) (vs:Array Value),z07 ρ (z0f ρ s.heap) w xs vs→z07 (ρ.put s.heap.length ⟨w1.heap.size,0,0⟩) (z0f (ρ.put s.heap.length ⟨w1.heap.size,0,0⟩) (z04 s.heap s.heap.length (.loop .ready none gc pos s.nt s.env))) (World.push w1 (.loop Z)) xs vs:=
  fun xs vs h=>⟨h.1,fun i x hx=>(h.2 i x hx).keep N.keep J⟩
 have d5:z07 (ρ.put s.heap.length ⟨w1.heap.size,0,0⟩) (z0f (ρ.put s.heap.length ⟨w1.heap.size,0,0⟩) (z04 s.heap s.heap.length (.loop .ready none gc pos s.nt s.env))) (World.push w1 (.loop Z)) [.yld s.heap.length] #[.func (.yield w1.heap.size) #[] #[]]:=
  ⟨rfl,fun i x hx=>by
   cases i with
   |zero=>cases hx; exact .yld _ _ (Rho.put_same _ _ _)
   |succ i=>simp at hx⟩
 have a8:(do let d←resolve (opv tm) { callee:= .value f,args:=#[.const (.func (.yield w1.heap.size) #[] #[])],argTypes:=#[] } 0; invoke d.target d.args:Sem Next).run P (World.push w1 (.loop Z))= .ok (.enter g (vf++#[.func (.yield w1.heap.size) #[] #[]]++vc)) (World.push w1 (.loop Z)):=by
  have:=e8 (vf++#[.func (.yield w1.heap.size) #[] #[]]++vc) (World.push w1 (.loop Z))
  simp only [Array.append_singleton] at this⊢
  have c4:opv tm (.const (.func (.yield w1.heap.size) #[] #[]))= .func (.yield w1.heap.size) #[] #[]:=rfl
  simp [resolve,Deferred.ofValue,e7,invoke,c4,this]
 have c0:z2c P (ρ.put s.heap.length ⟨w1.heap.size,0,0⟩) ⟨s.env,z04 s.heap s.heap.length (.loop .ready none gc pos s.nt s.env),s.nt⟩ tm (World.push w1 (.loop Z)):=
  ⟨d4,fun t=>(X.env t).keep N.keep J,X.size,f0⟩
 obtain ⟨V,v,Y,fr,a0,f3,d9,hv,I,R,b3⟩:=c1.run _ _ tm (World.push w1 (.loop Z)) (b.on tm (mark++ds) (.inRangeFunc w1.heap.size::k)::cs) c0 (((later _ _ e6).append d5).append (later _ _ f1))
 have S:=I.heap
 have c3:=I.dom
 have a9:V s.heap.length=some ⟨w1.heap.size,0,0⟩:=by rw [b3.rho _ (by show s.heap.length<s.heap.length+1; omega)]; exact Rho.put_same _ _ _
 obtain ⟨_,a5⟩:=S.obj _ _ a9
 rw [c9] at a5
 obtain ⟨x',q,j,a,c5,p,u,c,T,b9,c2⟩:=a5
 have e9:=x6e (P:=P) T d7
 have G:(z0e E.heap s.heap.length).live=true:=by rw [c9]; rfl
 have b8:∀ m,z1c Y w1.heap.size=some m→z1c (World.setObj Y w1.heap.size (.loop { state:= .exhausted,pending:=C,fn:=c,tmps:=p,params:=q,assign:=j,body:=a,defers:=u })) w1.heap.size=some m:=fun m hm=>y99 T _ _ hm
 have e1:=z16 S a9 G (.loop .exhausted C M y nt env) rfl (.loop { state:= .exhausted,pending:=C,fn:=c,tmps:=p,params:=q,assign:=j,body:=a,defers:=u }) b8
 have e5:=S.set a9 G (.loop .exhausted C M y nt env) rfl (.loop { state:= .exhausted,pending:=C,fn:=c,tmps:=p,params:=q,assign:=j,body:=a,defers:=u }) b8
  ⟨x',q,j,a,c5,p,u,c,z0u _ _ _ (eAi.1 T).1,b9,fun t=>(c2 t).keep e1 (fun _ _ h=>h)⟩
 have b2:=Ext.set (· <s.heap.length) S a9 G (.loop .exhausted C M y nt env) rfl (.loop { state:= .exhausted,pending:=C,fn:=c,tmps:=p,params:=q,assign:=j,body:=a,defers:=u }) b8
 have e4:=e5.kill s.heap.length
 have c6:=Ext.kill (· <s.heap.length) V (z04 E.heap s.heap.length (.loop .exhausted C M y nt env)) (World.setObj Y w1.heap.size (.loop { state:= .exhausted,pending:=C,fn:=c,tmps:=p,params:=q,assign:=j,body:=a,defers:=u })) s.heap.length
 have F:∀ id,z0e (z04 (z04 E.heap s.heap.length (.loop .exhausted C M y nt env)) s.heap.length .dead) id=z0e (z04 E.heap s.heap.length .dead) id:=by
  intro id
  by_cases e:s.heap.length=id
  ·subst e; rw [z0g,z0g]
  ·rw [z0c _ _ _ _ e,z0c _ _ _ _ e,z0c _ _ _ _ e]
 have e3:=e4.ext F
 have hx:Ext (· <s.heap.length) ρ s.heap w V (z04 E.heap s.heap.length .dead) (World.setObj Y w1.heap.size (.loop { state:= .exhausted,pending:=C,fn:=c,tmps:=p,params:=q,assign:=j,body:=a,defers:=u })):=by
  have:=((N.trans (b3.mono (S':=(· <s.heap.length)) (fun id (h:id<s.heap.length)=>by show id<s.heap.length+1; omega))).trans b2).trans c6
  exact ⟨this.os,this.tape,this.output,by rw [←z4i F]; exact this.keep,this.rho,this.fr,this.frs⟩
 have a6:z5d (z0f V E.heap) (z0f V (z04 E.heap s.heap.length .dead)) Y (World.setObj Y w1.heap.size (.loop { state:= .exhausted,pending:=C,fn:=c,tmps:=p,params:=q,assign:=j,body:=a,defers:=u })):=by
  have:=(b2.trans c6).keep
  rw [z4i F] at this
  exact this
 have O:z2c P V ⟨E.env,z04 E.heap s.heap.length .dead,E.nt⟩ tm (World.setObj Y w1.heap.size (.loop { state:= .exhausted,pending:=C,fn:=c,tmps:=p,params:=q,assign:=j,body:=a,defers:=u })):=
  ⟨e3,fun t=>(I.env t).keep a6 (fun _ _ h=>h),I.size,fun id hid=>by
   have:=c3 id hid
   have:=(z10 E.heap s.heap.length .dead).1
   show id<(z04 E.heap s.heap.length .dead).length
   omega⟩
 have b7:z4m b.roundOf B V.fr (World.setObj Y w1.heap.size (.loop { state:= .exhausted,pending:=C,fn:=c,tmps:=p,params:=q,assign:=j,body:=a,defers:=u })) (mark++ds):=
  (((a7.keep b5 b4).keep d4 b3).keep S b2)
 have U:Steps P (lone (b.on tm ds (.code (.rangeFunc f ps H body)::k)) cs w) (lone (b.on tm (mark++ds) ((C.map Item.code).toList++k)) cs (World.setObj Y w1.heap.size (.loop { state:= .exhausted,pending:=C,fn:=c,tmps:=p,params:=q,assign:=j,body:=a,defers:=u }))):=
  .head (x3d z a8) (Steps.trans a0 (.head (step_leave_returned d9) (.one (x6c e9))))
 have b1:=hx.mono (S':=(· <n)) (fun id (h:id<n)=>by show id<s.heap.length; omega)
 unfold y0s at K
 split at K
 ·cases K; exact ⟨.normal,_,V,tm,mark++ds,_,hQ,O,b7,R,b1,U⟩
 ·cases K; exact ⟨.ret,_,V,tm,mark++ds,_,hQ,O,b7,R,b1,_,U⟩
 ·cases K; exact ⟨.exit _,_,V,tm,mark++ds,_,hQ,O,b7,R,b1,k,rfl,U⟩
 ·cases K⟩
end
structure v2q where
 body:Code
 nt:Nat
 res:List ResultVar
mutual
def z9y:AV→Bool
 | .bot=>true
 | .d _=>true
 | .clo _ fs cs=>y13 fs&&y13 cs
 | .agg cs=>y13 cs
 | .tuple vs=>y13 vs
 |_=>false
def y13:List AV→Bool
 |[]=>true
 |x::l=>z9y x&&y13 l
end
mutual
theorem y5e:(x:AV)→z9y x=true→x2p x
 | .bot,_=> .bot
 | .d x,_=> .d x
 | .clo fn fs cs,h=>by
  simp only [z9y,eAf] at h
  exact .clo fn fs cs (z6s fs h.1) (z6s cs h.2)
 | .agg cs,h=> .agg cs (z6s cs (by simpa [z9y] using h))
 | .tuple cs,h=> .tuple cs (z6s cs (by simpa [z9y] using h))
 | .bptr _ _,h=>by simp [z9y] at h
 | .ptr _ _ _,h=>by simp [z9y] at h
 | .lptr _ _,h=>by simp [z9y] at h
 | .wptr _ _,h=>by simp [z9y] at h
 | .perm _,h=>by simp [z9y] at h
 | .slice _ _ _ _ _,h=>by simp [z9y] at h
 | .map _,h=>by simp [z9y] at h
 | .yld _,h=>by simp [z9y] at h
 | .iface _ _,h=>by simp [z9y] at h
theorem z6s:(l:List AV)→y13 l=true→∀ (i:Nat) (x:AV),l[i]?=some x→x2p x
 |[],_,i,x,hx=>by simp at hx
 |y::l,h,i,x,hx=>by
  simp only [y13,eAf] at h
  cases i with
  |zero=>simp at hx; subst hx; exact y5e y h.1
  |succ i=>exact z6s l h.2 i x (by simpa using hx)
end
theorem Steps.tail {P : Program} {m m₁ m' : Machine} (hs : step P m = .next m₁) (h : Steps P m m') (hne : m ≠ m') : Steps P m₁ m' := by
  obtain ⟨n, hn⟩ := h
  cases n with
  | zero => simp [runN] at hn; exact absurd hn hne
  | succ n => simp [runN, hs] at hn; exact ⟨n, hn⟩
theorem y6z {f g:Frame} {cs:List Frame} {w w':World} (h:lone f cs w=lone g cs w'):f.todo=g.todo:=by
 simp [lone] at h
 rw [h.2]
theorem Arr.loop {P:Program} {b:Frame} {cs:List Frame} {c:Code} {k:List Item} {e:AX} {tm a:Array Value} {ds d:List Deferred} {w w':World}
  (h:Arr P b cs (lone (b.on tm ds (.code (.loop c)::k)) cs w) k e a d w'):Arr P b cs (lone (b.on tm ds (.code c:: .inLoop c::k)) cs w) k e a d w':=by
 cases e with
 |normal=>
  refine Steps.tail y1t h fun he=>?_
  have:=y6z he
  simp only [Frame.on] at this
  have:=congrArg List.length this
  simp at this
 |exit id=>
  obtain ⟨f,e,g⟩:=h
  refine ⟨f,e,Steps.tail y1t g fun he=>?_⟩
  have:=y6z he
  simp [Frame.on] at this
 |ret=>
  obtain ⟨f,g⟩:=h
  refine ⟨f,Steps.tail y1t g fun he=>?_⟩
  have:=y6z he
  simp [Frame.on] at this
theorem z3v {P:Program} {n:Nat} {c:Code} {s:AS} {Q:AX→AS→Prop} (h:z5p P n c s (fun e s'=>match e with| .normal=>z5p P n (.loop c) s' Q|e=>Q e s')):z5p P n (.loop c) s Q:=⟨by
 intro b k cs ρ tm ds w B z y
 obtain ⟨e,s',ρ',a,d,f,q,o,m,l,j,i⟩:=h.run b (.inLoop c::k) cs ρ tm ds w B z y
 cases e with
 |normal=>
  obtain ⟨e,v,ρ2,g,t,u,x,G,F,E,C,A⟩:=q.run b k cs ρ' a d f B o m
  exact ⟨e,v,ρ2,g,t,u,x,G,F,E.trans l,j.trans C, .of_steps (.head y1t (Steps.trans i (.one x3e))) A.loop⟩
 |exit id=>
  obtain ⟨p,e,r⟩:=i
  exact ⟨.exit id,s',ρ',a,d,f,q,o,m,l,j,p,by rw [e,z9i (by simp)], .head y1t r⟩
 |ret=>
  obtain ⟨p,r⟩:=i
  exact ⟨.ret,s',ρ',a,d,f,q,o,m,l,j,p, .head y1t r⟩⟩
theorem DS.mono {P:Program} {T:TypeId→Option TI} {ops:List Oper} {nt base:Nat} {K b:AS→Prop} {acc:List (List Nat)} {i:Nat} {l:List Oper} {s:AS} (h:DS P T ops nt base K acc i l s) (e:∀ s,K s→b s):DS P T ops nt base b acc i l s:=by
 induction h with
 |nil h=>exact .nil (e _ h)
 |cons d f a h c=>exact .cons d f a c
structure Alg where
 Ω:Type→Type
 ret:(β:Type)→β→Ω β
 no:(β:Type)→Nat→Ω β
 need:(β:Type)→Bool→Ω β→Ω β
 ask:(β:Type)→Bool→Ω β→Ω β→Ω β
 bnd:(γ β:Type)→Option γ→(γ→Ω β)→Ω β
 alt:(γ δ β:Type)→Option (γ⊕δ)→(γ→Ω β)→(δ→Ω β)→Ω β
 run:(γ:Type)→Ω γ→Option γ
def opt:Alg where
 Ω:=Option
 ret:=fun _ x=>some x
 no:=fun _ _=>none
 need:=fun _ c k=>bif c then k else none
 ask:=fun _ c a b=>bif c then a else b
 bnd:=fun _ _ x k=>x.bind k
 alt:=fun _ _ _ x k k'=>x.bind fun y=>match y with| .inl y=>k y| .inr y=>k' y
 run:=fun _ x=>x
theorem z6a {β:Type} {c:Bool} {k:Option β} {b:β} (h:opt.need β c k=some b):c=true∧k=some b:=by
 cases c with
 |false=>cases h
 |true=>exact ⟨rfl,h⟩
theorem z9r {β:Type} {c:Bool} {x y:Option β} {b:β} (h:opt.ask β c x y=some b):(c=true∧x=some b)∨(c=false∧y=some b):=by
 cases c with
 |false=>exact .inr ⟨rfl,h⟩
 |true=>exact .inl ⟨rfl,h⟩
theorem v1m {γ β:Type} {x:Option γ} {k:γ→Option β} {b:β} (h:opt.bnd γ β x k=some b):∃ y,x=some y∧k y=some b:=by
 cases x with
 |none=>cases h
 |some y=>exact ⟨y,rfl,h⟩
def u7s (p:Prim) (a:List (List D)) (j:Nat):CR→D
 | .int k=> .int k (p.rdI a 0 j)
 | .bool=> .bool (p.rdB a 0 j)
 | .str=> .str (p.rdS a 0 j)
 | .list z=> .list false z (p.rdL a 0 j)
def w4n (p:Prim) (a:List (List D)):Nat→List CR→List D
 |_,[]=>[]
 |j,c::cs=>u7s p a j c::w4n p a (j+1) cs
def mkC (p:Prim) (es:List (List D)) (i j:Nat):CK→D
 | .int k=> .int k (p.rdI es i j)
 | .bool=> .bool (p.rdB es i j)
 | .str=> .str (p.rdS es i j)
 | .list z=> .list (p.rdF es i j z) z (p.rdL es i j)
 | .other=> .nilp
 | .ref ks=> .ref (w4n p (p.rdR es i j) 0 ks)
def mkR (p:Prim) (es:List (List D)) (i:Nat):Nat→List CK→List D
 |_,[]=>[]
 |j,c::cs=>mkC p es i j c::mkR p es i (j+1) cs
def x1w:List CK→Bool
 |[]=>false
 | .other::_=>true
 |_::l=>x1w l
theorem y95 {c : CR} {d : D} {rs : List (List D)} {j : Nat} (h : x18 c d = true) (he : rdD rs 0 j = d) : v89 d (u7s std rs j c) := by
  cases c <;> cases d <;> simp only [x18, eAh] at h <;> simp only [u7s, std, he]
  · have : _ = _ := eq_of_beq h
    subst this; exact .refl _
  · exact .refl _
  · exact .refl _
  · rename_i z f z' es
    right; left
    refine ⟨z, rfl, ?_⟩
    rw [eBh] at h
    rcases h with h | h
    · exact .inl (eAg h)
    · exact .inr (by simpa using h)
theorem y0o:∀ (cs:List CR) (ds:List D),y05 cs ds=true→ds.length=cs.length∧∀ (j:Nat) (c:CR),cs[j]?=some c→∃ d,ds[j]?=some d∧x18 c d=true
 |[],[],_=>⟨rfl,by simp⟩
 |[],_::_,h=>by simp [y05] at h
 |_::_,[],h=>by simp [y05] at h
 |c::cs,d::ds,h=>by
  simp only [y05,eAf] at h
  obtain ⟨a,b⟩:=y0o cs ds h.2
  refine ⟨by simp [a],fun j f e=>?_⟩
  cases j with
  |zero=>simp at e; subst e; exact ⟨d,rfl,h.1⟩
  |succ j=>simpa using b j f (by simpa using e)
theorem x1o (p:Prim) (e:List (List D)):∀ (cs:List CR) (d:Nat),(w4n p e d cs).length=cs.length∧∀ (j:Nat) (y:D),(w4n p e d cs)[j]?=some y→∃ c,cs[j]?=some c∧y=u7s p e (d+j) c
 |[],d=>⟨rfl,by simp [w4n]⟩
 |c::cs,d=>by
  obtain ⟨a,b⟩:=x1o p e cs (d+1)
  refine ⟨by simp [w4n,a],fun j y f=>?_⟩
  cases j with
  |zero=>simp [w4n] at f; exact ⟨c,rfl,f.symm⟩
  |succ j=>
   obtain ⟨i,h,g⟩:=b j y (by simpa [w4n] using f)
   exact ⟨i,by simpa using h,by rw [g]; congr 1; omega⟩
def u7o (d:D):CK→D
 | .int k=> .int k (dI d)
 | .bool=> .bool (dB d)
 | .str=> .str (dS d)
 | .list z=> .list (dF z d) z (dL d)
 | .other=> .nilp
 | .ref ks=> .ref (w4n std (dR d) 0 ks)
theorem w6k {c : CK} {d d' : D} (h : y94 c d = true) (he : d' = u7o d c) : DLe d d' := by
  subst he
  cases c <;> cases d <;> simp only [y94, eAh] at h
  · have : _ = _ := eq_of_beq h
    subst this; exact .refl _
  · exact .refl _
  · exact .refl _
  · rename_i z f z' es
    left
    rw [eBh] at h
    cases hz : eAk z z' with
    | true =>
      have e := eAg hz
      subst e
      left
      simp [u7o, dF, dL, hz]
    | false =>
      rcases h with h | h
      · rw [hz] at h; cases h
      · right; right
        refine ⟨z, ?_, by simpa using h⟩
        simp [u7o, dF, dL, hz, h]
  · rename_i ks ds
    obtain ⟨h1, h2⟩ := y0o _ _ h
    obtain ⟨m1, m2⟩ := x1o std (dR (.ref ds)) ks 0
    refine .inr ⟨ds, _, rfl, rfl, by rw [m1, h1], fun j y hy => ?_⟩
    obtain ⟨c, hc, rfl⟩ := m2 j y hy
    obtain ⟨d, hd, hcd⟩ := h2 j c hc
    refine ⟨d, hd, ?_⟩
    rw [eAy]
    exact y95 hcd (by simp [rdD, dR, hd])
def u0e (d:D):CK→D
 | .int k=> .int k (dI d)
 | .bool=> .bool (dB d)
 | .str=> .str (dS d)
 | .list z=> .list false z (dL d)
 | .other=> .nilp
 | .ref ks=> .ref (w4n std (dR d) 0 ks)
theorem w16 {c : CK} {d d' : D} (h : y94 c d = true) (he : d' = u0e d c) : DLe d d' := by
  subst he
  cases c <;> cases d <;> simp only [y94, eAh] at h
  · have : _ = _ := eq_of_beq h
    subst this; exact .refl _
  · exact .refl _
  · exact .refl _
  · rename_i z f z' es
    left
    right; left
    refine ⟨z, rfl, ?_⟩
    rw [eBh] at h
    rcases h with h | h
    · exact .inl (eAg h)
    · exact .inr (by simpa using h)
  · rename_i ks ds
    obtain ⟨h1, h2⟩ := y0o _ _ h
    obtain ⟨m1, m2⟩ := x1o std (dR (.ref ds)) ks 0
    refine .inr ⟨ds, _, rfl, rfl, by rw [m1, h1], fun j y hy => ?_⟩
    obtain ⟨c, hc, rfl⟩ := m2 j y hy
    obtain ⟨d, hd, hcd⟩ := h2 j c hc
    refine ⟨d, hd, ?_⟩
    rw [eAy]
    exact y95 hcd (by simp [rdD, dR, hd])
theorem y18:∀ (cs:List CK) (ds:List D),z2v cs ds=true→ds.length=cs.length∧∀ (j:Nat) (c:CK),cs[j]?=some c→∃ d,ds[j]?=some d∧y94 c d=true
 |[],[],_=>⟨rfl,by simp⟩
 |[],_::_,h=>by simp [z2v] at h
 |_::_,[],h=>by simp [z2v] at h
 |c::cs,d::ds,h=>by
  simp only [z2v,eAf] at h
  obtain ⟨a,b⟩:=y18 cs ds h.2
  refine ⟨by simp [a],fun j f e=>?_⟩
  cases j with
  |zero=>simp at e; subst e; exact ⟨d,rfl,h.1⟩
  |succ j=>simpa using b j f (by simpa using e)
theorem w4m (p:Prim) (es:List (List D)) (i:Nat):∀ (cs:List CK) (d:Nat),(mkR p es i d cs).length=cs.length∧∀ (j:Nat) (y:D),(mkR p es i d cs)[j]?=some y→∃ c,cs[j]?=some c∧y=mkC p es i (d+j) c
 |[],d=>⟨rfl,by simp [mkR]⟩
 |c::cs,d=>by
  obtain ⟨a,b⟩:=w4m p es i cs (d+1)
  refine ⟨by simp [mkR,a],fun j y e=>?_⟩
  cases j with
  |zero=>simp [mkR] at e; exact ⟨c,rfl,e.symm⟩
  |succ j=>
   obtain ⟨h,g,f⟩:=b j y (by simpa [mkR] using e)
   exact ⟨h,by simpa using g,by rw [f]; congr 1; omega⟩
theorem x8b {es:List (List D)} {i:Nat} {b:List CK} (h:std.rowOk es i b=true):w7m es i (mkR std es i 0 b):=by
 simp only [std] at h
 split at h
 ·rename_i r f
  obtain ⟨p,o⟩:=y18 _ _ h
  obtain ⟨l,k⟩:=w4m std es i b 0
  refine ⟨r,f,by rw [l,p],fun j y m=>?_⟩
  obtain ⟨c,n,rfl⟩:=k j y m
  obtain ⟨d,g,a⟩:=o j c n
  refine ⟨d,g,w6k a ?_⟩
  rw [eAy]
  have e:rdD es i j=d:=by simp [rdD,f,g]
  cases c<;>simp only [mkC,u7o,std,e]
 ·cases h
def u9y (p:Prim) (es:List (D×D)) (ks:List SK) (ka:Bool) (k:D) (j:Nat):CK→D
 | .int a=> .int a (p.mI es ks ka k j)
 | .bool=> .bool (p.mB es ks ka k j)
 | .str=> .str (p.mS es ks ka k j)
 | .list z=> .list false z (p.mL es ks ka k j)
 | .other=> .nilp
 | .ref cs=> .ref (w4n p (p.mR es ks ka k j) 0 cs)
def w4k (p:Prim) (es:List (D×D)) (ks:List SK) (ka:Bool) (k:D):Nat→List CK→List D
 |_,[]=>[]
 |j,c::cs=>u9y p es ks ka k j c::w4k p es ks ka k (j+1) cs
theorem x8v (p:Prim) (es:List (D×D)) (ks:List SK) (ka:Bool) (k:D):∀ (cs:List CK) (d:Nat),(w4k p es ks ka k d cs).length=cs.length∧∀ (j:Nat) (y:D),(w4k p es ks ka k d cs)[j]?=some y→∃ c,cs[j]?=some c∧y=u9y p es ks ka k (d+j) c
 |[],d=>⟨rfl,by simp [w4k]⟩
 |c::cs,d=>by
  obtain ⟨a,b⟩:=x8v p es ks ka k cs (d+1)
  refine ⟨by simp [w4k,a],fun j y e=>?_⟩
  cases j with
  |zero=>simp [w4k] at e; exact ⟨c,rfl,e.symm⟩
  |succ j=>
   obtain ⟨h,g,f⟩:=b j y (by simpa [w4k] using e)
   exact ⟨h,by simpa using g,by rw [f]; congr 1; omega⟩
def mkV (a:Bool) (l:List D):D:=
 match a,l with
 |true,l=> .agg l
 |false,[x]=>x
 |false,_=> .nilp
theorem v0h (ks:List SK) (ka:Bool) (k:D):∀ (es:List (D×D)) (i:Nat),z6c std ks ka k es i=y7e ks ka k es i:=by
 have d:∀ (ks:List SK) (b a:List D),z1r std ks b a=z9m ks b a:=by
  intro ks
  induction ks with
  |nil=>intro b a; cases b<;>cases a<;>rfl
  |cons k ks c=>
   intro b a
   cases k<;>cases b<;>(try rfl)<;>rename_i x b<;>cases x<;>(try rfl)<;>cases a<;>(try rfl)<;>rename_i y a<;>cases y<;>(try rfl)<;>simp only [z1r,z9m,c]<;>rfl
 intro es
 induction es with
 |nil=>intro i; rfl
 |cons p es c=>intro i; obtain ⟨e,v⟩:=p; simp only [z6c,y7e,d,c]
structure Env where
 T:TypeId→Option TI
 B:FuncId→Option v2q
 C:TypeId→List CK
 CM:TypeId→Bool×List CK
 A:Nat→List Bool→Option Code
 dt:FuncId→Bool
 tl:Bool
 tk:Bool
 fz:FuncId→Bool
 cl:Bool
 G:Nat→Option (List D)
def v9f:List (List CK)→Nat→List CK
 |[],_=>[]
 |x::_,0=>x
 |_::l,n+1=>v9f l n
def u7n:List (List CK)→Nat→List CK→List (List CK)
 |[],0,c=>[c]
 |[],n+1,c=>[]::u7n [] n c
 |_::l,0,c=>c::l
 |x::l,n+1,c=>x::u7n l n c
def t3j (E:Env) (t:TypeId):List CK:=
 match E.T t with
 |some ti=>match ti.zero with
  | .int k _::_=>[.int k]
  |_=>[]
 |none=>[]
def w9v (E:Env) (K:List (List CK)) (env:List (Nat×AV)):Op→List CK
 | .load t a=>match z0m env a with
  | .ptr id _ _=>v9f K id
  | .bptr id _=>v9f K id
  | .wptr _ _=>t3j E t
  |_=>[]
 | .store _ a _=>match z0m env a with
  | .ptr id _ _=>v9f K id
  | .bptr id _=>v9f K id
  |_=>[]
 | .slice _ a _ _ _=>match z0m env a with
  | .bptr id _=>v9f K id
  |_=>[]
 | .indexAddr t _ _=>E.C t
 |_=>[]
def v6x (E:Env) (K:List (List CK)) (env:List (Nat×AV)) (op:Op):List CK:=bif E.cl then [.other] else w9v E K env op
def v9q (E:Env) (t:TypeId):Option (List CK):=
 match E.T t with
 |some ti=>match w21 ti with
  |some k=>some [.int k]
  |none=>none
 |none=>none
def newK (E:Env):Op→Option (List CK)
 | .alloc t=>v9q E t
 | .box t _=>v9q E t
 | .buildSlice t _ _=>some (E.C t)
 | .makeSlice t _ _=>some (E.C t)
 | .call ⟨.builtin .append,_,ts⟩=>match ts.toList with
  |t::_=>some (E.C t)
  |_=>none
 |_=>none
def w1x (A:Alg) (β:Type) (p:Prim) (E:Env) (t:TypeId) (h:List AO) (m k:AV) (c:Bool→List D→List AV→A.Ω β):A.Ω β:=
 match E.T t with
 |some ti=>match ti.desc,k with
  | .map ks ka ez, .d kd=>match m with
   | .d .nilm=>A.need β ((z1w kd==ka)&&z1k ks (z0x kd)) (c false [] [])
   | .map id=>match z0e h id with
    | .map es=>A.need β (p.mOk es ks ka kd (E.CM t).1 (E.CM t).2) (A.ask β (p.mhas es ks ka kd) (c true [.int .i64 (p.ofNat (p.mpos es ks ka kd)),mkV (E.CM t).1 (w4k p es ks ka kd 0 (E.CM t).2)] []) (c false [] []))
    |_=>A.no β 11
   |_=>A.no β 12
  |_,_=>A.no β 13
 |none=>A.no β 14
def v0j (A:Alg) (β:Type) (p:Prim) (a:List CK) (es:List (List D)) (i:Nat) (c:List D→A.Ω β):Nat→Nat→A.Ω β
 |0,_=>c []
 |n+1,j=>match mkR p es (bif eAk j 0 then i else p.add i j) 0 a with
  |[x]=>A.need β (p.rowOk es (bif eAk j 0 then i else p.add i j) a) (v0j A β p a es i (fun r=>c (x::r)) n (j+1))
  |_=>A.no β 19
def x96 (es:List (List D)):Nat→Nat→Option (List D)
 |_,0=>some []
 |i,n+1=>match z2d es i,x96 es (i+1) n with
  |some [x],some l=>some (x::l)
  |_,_=>none
def v7p (A:Alg) (β:Type) (p:Prim) (f:Bool) (e:List CK) (w:x7u) (c:Bool→List D→List AV→A.Ω β):A.Ω β:=
 match w with
 | .none=>c false (bif f then [.nilp] else []) []
 | .d es i=>match x1w e with
  |false=>A.need β (p.rowOk es i e) (c false (mkR p es i 0 e) [])
  |true=>match z2d es i with
   |some r=>c false r []
   |none=>A.no β 15
 | .n es i n=>match x1w e with
  |false=>v0j A β p e es i (fun r=>c false r []) n 0
  |true=>match x96 es i n with
   |some r=>c false r []
   |none=>A.no β 20
 | .a es i=>match z2d es i with
  |some r=>c false [] r
  |none=>A.no β 16
 | .b x=>A.ask β x (c true (bif f then [.nilp] else []) []) (c false [] [])
 | .m _=>A.no β 17
def v7q (A:Alg) (β:Type) (p:Prim) (b:Bool) (E:Env) (K:List (List CK)) (env:List (Nat×AV)) (h:List AO) (op:Op) (c:Bool→List D→List AV→A.Ω β):A.Ω β:=
 match op with
 | .lookup t m k _=>w1x A β p E t h (z0m env m) (z0m env k) c
 | .mapUpdate t m k _=>w1x A β p E t h (z0m env m) (z0m env k) c
 | .call ⟨.builtin .delete,args,a⟩=>match a.toList,z06 env args.toList with
  |t::_,[m,k]=>w1x A β p E t h m k c
  |_,_=>A.no β 18
 |op=>v7p A β p b (v6x E K env op) (z1b p E.T env h op) c
mutual
def y3z:AV→Bool
 | .bot=>true
 | .d x=>z8o x
 | .agg l=>w5p l
 | .tuple l=>w5p l
 |_=>false
def w5p:List AV→Bool
 |[]=>true
 |x::l=>y3z x&&w5p l
end
theorem y6m:∀ {l:List D},y6n l=true→∀ (i:Nat) (d:D),l[i]?=some d→z8o d=true
 |[],_,i,d,h=>by simp at h
 |x::l,h,i,d,a=>by
  simp only [y6n,eAf] at h
  cases i with
  |zero=>simp at a; subst a; exact h.1
  |succ i=>exact y6m h.2 i d (by simpa using a)
theorem y7c:∀ {l:List AV},w5p l=true→∀ (i:Nat) (d:AV),l[i]?=some d→y3z d=true
 |[],_,i,d,h=>by simp at h
 |x::l,h,i,d,a=>by
  simp only [w5p,eAf] at h
  cases i with
  |zero=>simp at a; subst a; exact h.1
  |succ i=>exact y7c h.2 i d (by simpa using a)
theorem z8n {O O':Nat→Prop} {w w':World} {x:D} {v:Value} (h:z1m O w x v):z8o x=true→z1m O' w' x v:=by
 induction h with
 |bool b=>intro _; exact .bool b
 |int k n=>intro _; exact .int k n
 |str s=>intro _; exact .str s
 |nilp=>intro _; exact .nilp
 |nilm=>intro _; exact .nilm
 |nilf=>intro _; exact .nilf
 |nili=>intro _; exact .nili
 |agg ds p t h l=>
  intro g
  exact .agg ds p t fun i d m=>l i d m (y6m (by simpa only [z8o] using g) i d m)
 |lnil f z a c h=>intro _; exact .lnil f z a c h
 |list full es b o z c u j hO r g q cell A y h l=>
  intro e
  simp only [z8o,List.isEmpty_iff] at e
  exact absurd e j
 |ref=>intro g; simp [z8o] at g
theorem w5r {ρ ρ':Rho} {O O':Nat→Prop} {w w':World} {x:AV} {v:Value} (h:z0q ρ O w x v):y3z x=true→z0q ρ' O' w' x v:=by
 induction h with
 |bot v=>intro _; exact .bot v
 |d h=>intro a; exact .d (z8n h (by simpa only [y3z] using a))
 |agg c e g h f=>intro a; exact .agg c e g fun i x b=>f i x b (y7c (by simpa only [y3z] using a) i x b)
 |tuple c e g h f=>intro a; exact .tuple c e g fun i x b=>f i x b (y7c (by simpa only [y3z] using a) i x b)
 |_=>intro a; simp [y3z] at a
def x8w (l:List AV):AV:=
 match x2k l with
 |some ds=> .d (.agg ds)
 |none=> .agg l
mutual
def bV (p:Prim) (h:List AO):AV→Bool×AV
 | .bot=>(true, .bot)
 | .d x=>(true, .d x)
 | .slice id z off len cap=>match z0e h id with
  | .row es=>(p.leN (p.add off len) (p.len es), .d (.list false z (p.cut es off len)))
  |_=>(true, .bot)
 | .bptr id off=>match z0e h id with
  | .box cells=>match x2k cells with
   |some ds=>(true, .lptr ds off)
   |none=>(true, .bot)
  | .row es=>(true, .wptr es off)
  |_=>(true, .bot)
 | .clo fn fs cs=>(p.and (bL p h fs).1 (bL p h cs).1, .clo fn (bL p h fs).2 (bL p h cs).2)
 | .agg l=>((bL p h l).1,x8w (bL p h l).2)
 | .tuple l=>((bL p h l).1, .tuple (bL p h l).2)
 |_=>(true, .bot)
def bL (p:Prim) (h:List AO):List AV→Bool×List AV
 |[]=>(true,[])
 |x::l=>(p.and (bV p h x).1 (bL p h l).1,(bV p h x).2::(bL p h l).2)
end
theorem x0b (p:Prim) (h:List AO):∀ l,(bL p h l).2.length=l.length
 |[]=>by simp [bL]
 |x::l=>by simp [bL,x0b p h l]
theorem x0c (h:List AO):∀ (l:List AV),(bL std h l).1=true→∀ (i:Nat) (y:AV),(bL std h l).2[i]?=some y→∃ x,l[i]?=some x∧y=(bV std h x).2∧(bV std h x).1=true
 |[],_,i,y,a=>by simp [bL] at a
 |x::l,b,i,y,a=>by
  simp only [bL,std,eAf] at b
  cases i with
  |zero=>simp [bL] at a; exact ⟨x,rfl,a.symm,b.1⟩
  |succ i=>
   obtain ⟨c,e,d⟩:=x0c h l b.2 i y (by simpa [bL] using a)
   exact ⟨c,by simpa using e,d⟩
mutual
theorem v1p (p:Prim) {h h':List AO}:(x:AV)→(∀ id∈tid x,z0e h id=z0e h' id)→bV p h x=bV p h' x
 | .bot,_=>rfl
 | .d _,_=>rfl
 | .slice id z off len cap,hh=>by simp only [bV,hh id (by simp [tid])]
 | .clo fn fs cs,hh=>by
  simp only [bV,y07 p fs (fun id hid=>hh id (by simp [tid,hid])),y07 p cs (fun id hid=>hh id (by simp [tid,hid]))]
 | .agg l,hh=>by simp only [bV,y07 p l (fun id hid=>hh id (by simpa [tid] using hid))]
 | .tuple l,hh=>by simp only [bV,y07 p l (fun id hid=>hh id (by simpa [tid] using hid))]
 | .bptr id off,hh=>by simp only [bV,hh id (by simp [tid])]
 | .ptr _ _ _,_=>rfl
 | .lptr _ _,_=>rfl
 | .wptr _ _,_=>rfl
 | .perm _,_=>rfl
 | .map _,_=>rfl
 | .yld _,_=>rfl
 | .iface _ _,_=>rfl
theorem y07 (p:Prim) {h h':List AO}:(l:List AV)→(∀ id∈y46 l,z0e h id=z0e h' id)→bL p h l=bL p h' l
 |[],_=>rfl
 |x::l,hh=>by
  simp only [bL,v1p p x (fun id hid=>hh id (by simp [y46,hid])),y07 p l (fun id hid=>hh id (by simp [y46,hid]))]
end
section
variable {P:Program} {ρ:Rho} {h:List AO} {w:World}
theorem y9h {O:Nat→Prop} (xs:List AV) (vs:Array Value) (a:vs.size=xs.length) (b:∀ (i:Nat) (x:AV),xs[i]?=some x→z0q ρ O w x (vs.getD i undef)):z0q ρ O w (x8w xs) (.agg vs):=by
 unfold x8w
 split
 ·rename_i ds hds
  have e:=z2b hds
  refine .d (.agg _ _ (by rw [a,e,z01]) fun i d c=>?_)
  have:=b i (.d d) (by rw [e,z1p,c]; rfl)
  cases this; assumption
 ·exact .agg _ _ a b
theorem z4z {b:Nat}:z0f (ρ.only fun _=>false) [] b↔ρ.fr b:=by
 constructor
 ·rintro (c|⟨id,L,d,_⟩)
  ·exact c
  ·obtain ⟨a,_⟩:=z2a.1 d; cases a
 ·exact fun c=> .inl c
theorem v8i (s:z0b P ρ h w) {x:AV} {v:Value} (H:z0q ρ (z0f ρ h) w x v):(bV std h x).1=true→z0q (ρ.only fun _=>false) (z0f (ρ.only fun _=>false) []) w (bV std h x).2 v:=by
 have M:z5d (z0f ρ h) (z0f (ρ.only fun _=>false) []) w w:=⟨eAp _,fun _ _ _=>rfl,fun b _ g=> .inl (z4z.1 g),fun _ _ h=>h,z0v.refl _⟩
 have a2:z5d (z0f (ρ.only fun _=>false) (z4f h (fun _=>false) 0 h)) (z0f (ρ.only fun _=>false) []) w w:=⟨eAp _,fun _ _ _=>rfl,fun b _ g=> .inl (z4z.1 g),fun _ _ h=>h,z0v.refl _⟩
 have sl:∀ {id z off len:Nat} {cap:Option Nat} {v:Value},z0q ρ (z0f ρ h) w (.slice id z off len cap) v→(bV std h (.slice id z off len cap)).1=true→z0q (ρ.only fun _=>false) (z0f (ρ.only fun _=>false) []) w (bV std h (.slice id z off len cap)).2 v:=by
  intro id z off len cap v H f
  have:=y0u (kp:=fun _=>false) s H
  simp only [z3t,cond_false] at this
  simp only [bV] at f⊢
  split
  ·rename_i es A
   rw [A] at f this
   simp only at f
   simp only [frz] at this
   have X:eAz (off+len) es.length=true:=f
   rw [X] at this
   simp only [cond_true] at this
   refine .d ?_
   cases this with|d N=>
   have N:=N.keep a2
   show z1m _ w (.list false z (x9r es off len)) v
   generalize x9r es off len=l at N
   cases N with
   |lnil _ _ a c h=>exact .lnil _ _ _ _ (by simp)
   |list _ _ b o _ c U W hO Y hf V cell h1 f h=>exact .list false _ b o _ c U W hO Y (by simp) V cell h1 f h
  ·exact .bot _
 induction H with
 |bot v=>intro _; exact .bot v
 |d h=>intro _; exact .d (h.keep M)
 |bptr id off L G=>
  intro _
  simp only [bV]
  split
  ·rename_i cells m
   split
   ·rename_i ds hds
    obtain ⟨q,p⟩:=s.obj id L G
    rw [m] at p
    obtain ⟨a0,c,t,E,hj⟩:=p
    have e:=z2b hds
    have B:∀ k x,ds[k]?=some x→∃ u,c[L.base+k]?=some u∧z1m (z0f ρ h) w x u:=fun k x n=>by
     obtain ⟨u,F,s⟩:=hj k (.d x) (by rw [e,z1p,n]; rfl)
     cases s with|d s=>exact ⟨u,F,s⟩
    refine .lptr ds off L.blk L.base q (fun g=>s.sep id L G (by rw [m]; rfl) (z4z.1 g)) (fun k=>(c[L.base+k]?).getD undef) (fun k M=>?_) (fun k x n=>?_)
    ·obtain ⟨u,F,_⟩:=B k _ (eAd M)
     rw [F]; exact y37 E F
    ·obtain ⟨u,F,h2⟩:=B k x n
     rw [F]; exact h2.keep M
   ·exact .bot _
  ·rename_i es A
   obtain ⟨q,p⟩:=s.obj id L G
   rw [A] at p
   obtain ⟨_,c,t,E,J,hj⟩:=p
   refine .wptr es off L.blk L.base L.esz q (fun g=>s.sep id L G (by rw [A]; rfl) (z4z.1 g)) J fun i r j x hi n=>?_
   obtain ⟨v,H,_,I⟩:=hj i r j x hi n
   exact ⟨v,y37 E H,I.keep M⟩
  ·exact .bot _
 |slice id z off len cap L a c G U ha f K=>exact sl (.slice id z off len cap L a c G U ha f K)
 |nils id z off cap a f=>exact sl (.nils id z off cap a f)
 |clo fn fs cs vf vc a1 Z h1 h2 S R=>
  intro f
  simp only [bV,std,eAf] at f
  simp only [bV]
  refine .clo fn _ _ vf vc (by rw [x0b]; exact a1) (by rw [x0b]; exact Z) (fun i y C=>?_) (fun i y C=>?_)
  ·obtain ⟨x,n,rfl,g⟩:=x0c h fs f.1 i y C
   exact S i x n g
  ·obtain ⟨x,n,rfl,g⟩:=x0c h cs f.2 i y C
   exact R i x n g
 |agg O Q K hh T=>
  intro f
  simp only [bV] at f⊢
  refine y9h _ Q (by rw [x0b]; exact K) (fun i y C=>?_)
  obtain ⟨x,n,rfl,g⟩:=x0c h O f i y C
  exact T i x n g
 |tuple O Q K hh T=>
  intro f
  simp only [bV] at f⊢
  refine .tuple _ Q (by rw [x0b]; exact K) (fun i y C=>?_)
  obtain ⟨x,n,rfl,g⟩:=x0c h O f i y C
  exact T i x n g
 |_=>intro _; exact .bot _
theorem u5n {f : FuncId} {args : List AV} {r : AV} {j : List AO} (c : v2m P f (bL std j args).2 r) (K : (bL std j args).1 = true) (t : y3z r = true) : z3s P f args j r j := ⟨by
  intro ρ F w cs l u m
  let n : Rho := ρ.only fun _ => false
  have g : ∀ id L, n id = some L → False := fun id L k => by obtain ⟨a, _⟩ := z2a.1 k; cases a
  have z : z0b P n [] w := ⟨fun id L k => (g id L k).elim, fun id G L M k => (g id L k).elim, fun b c => l.fr b c, fun id L k => (g id L k).elim, l.gl.sub fun b c => .inl (z4z.1 c)⟩
  obtain ⟨ρ', v, o, fr, p, s, q, H, J, E, e⟩ := c.run n F w cs z (fun id hid => by
    cases A : n id with
    | none => exact absurd A hid
    | some L => exact (g id L A).elim) ⟨by rw [x0b]; exact m.1, fun i y I => by
      obtain ⟨x, e, rfl, c⟩ := x0c j args K i y I
      exact v8i l (m.2 i x e) c⟩
  have d : ∀ b, b < w.heap.size → o.heap[b]? = w.heap[b]? := by
    intro b c
    by_cases B : ρ.fr b
    · exact e.frs b B
    · exact e.keep.frame b c (fun h => B (z4z.1 h))
  have C : z5d (z0f ρ j) (z0f ρ j) w o :=
    { size := e.keep.size
      frame := fun b c _ => d b c
      own := fun b _ h => h
      shape := e.keep.shape
      drawn := e.keep.drawn }
  refine ⟨ρ, v, o, fr, p, s, q, w5r H t, l.of_keep C (fun b c => d b (z7p l c)), u, ?_⟩
  exact { os := e.os, tape := e.tape, output := e.output, keep := C, rho := fun _ _ => rfl, fr := rfl, frs := fun b t => d b (l.fr b t) }⟩
end
theorem x9g {x:AV} (h:x2p x):tid x=[]:=by
 have key:∀ l:List AV,(∀ (i:Nat) (x:AV),l[i]?=some x→tid x=[])→y46 l=[]:=by
  intro l
  induction l with
  |nil=>intro _; rfl
  |cons x l a=>intro h; simp only [y46,h 0 x rfl,a (fun i x e=>h (i+1) x (by simpa using e)),eDx]
 induction h with
 |bot=>rfl
 |d x=>rfl
 |tuple f e a=>simp only [tid]; exact key _ a
 |agg f e a=>simp only [tid]; exact key _ a
 |clo fn k cs j g c b=>simp only [tid,key _ c,key _ b,eDx]
theorem z6d:∀ (ks:List SK) (l:List D),z1k ks l=true→z1r std ks l l=some true
 |[],[],_=>rfl
 | .i::ks, .int k a::r,h=>by
  have:=z6d ks r h
  simp only [z1r,beq_self_eq_true,cond_true,this]
  simp [std,z3z]
 | .b::ks, .bool a::r,h=>by
  have:=z6d ks r h
  simp only [z1r,this]
  simp [std]
 | .s::ks, .str a::r,h=>by
  have:=z6d ks r h
  simp only [z1r,this]
  simp [std]
 | .i::ks,[],h| .b::ks,[],h| .s::ks,[],h=>by simp [z1k] at h
 |[],_::_,h=>by simp [z1k] at h
 | .i::ks, .bool _::r,h| .i::ks, .str _::r,h| .i::ks, .agg _::r,h| .i::ks, .list _ _ _::r,h| .i::ks, .nilm::r,h| .i::ks, .ref _::r,h=>by simp [z1k] at h
 | .b::ks, .int _ _::r,h| .b::ks, .str _::r,h| .b::ks, .agg _::r,h| .b::ks, .list _ _ _::r,h| .b::ks, .nilm::r,h| .b::ks, .ref _::r,h=>by simp [z1k] at h
 | .s::ks, .int _ _::r,h| .s::ks, .bool _::r,h| .s::ks, .agg _::r,h| .s::ks, .list _ _ _::r,h| .s::ks, .nilm::r,h| .s::ks, .ref _::r,h=>by simp [z1k] at h
theorem y9v {ks:List SK} {ka:Bool} {k x:D} (d:z1w k=ka) (a:z1k ks (z0x k)=true):∀ (es:List (D×D)) (i:Nat),z6c std ks ka k es i=some none→z6c std ks ka k (es++[(k,x)]) i=some (some (i+es.length,x))
 |[],i,_=>by simp [z6c,d,z6d _ _ a]
 |(c,v)::r,i,h=>by
  simp only [z6c,eGr] at h⊢
  cases e:(z1w k==ka)&&(z1w c==ka) with
  |false=>rw [e] at h; cases h
  |true=>
   rw [e] at h
   simp only [cond_true] at h⊢
   cases f:z1r std ks (z0x k) (z0x c) with
   |none=>rw [f] at h; cases h
   |some b=>
    rw [f] at h
    cases b with
    |true=>cases h
    |false=>
     simp only at h⊢
     rw [y9v d a r (i+1) h]
     simp; omega
theorem x10 {ks:List SK} {ka:Bool} {k:D}:∀ (es:List (D×D)) (i n:Nat) (v:D),z6c std ks ka k es i=some (some (n,v))→i≤n∧n - i<es.length
 |[],i,n,v,h=>by simp [z6c] at h
 |(a,u)::r,i,n,v,h=>by
  simp only [z6c] at h
  cases c:(z1w k==ka)&&(z1w a==ka) with
  |false=>rw [c] at h; cases h
  |true=>
   rw [c] at h
   simp only [cond_true] at h
   cases d:z1r std ks (z0x k) (z0x a) with
   |none=>rw [d] at h; cases h
   |some b=>
    rw [d] at h
    cases b with
    |true=>simp at h; obtain ⟨rfl,_⟩:=h; simp
    |false=>
     have:=x10 r (i+1) n v h
     simp; omega
theorem x4m {ks:List SK} {ka:Bool} {k y:D} (g:z1w k=ka) (a:z1k ks (z0x k)=true):∀ (es:List (D×D)) (i n:Nat) (v:D),z6c std ks ka k es i=some (some (n,v))→z6c std ks ka k (es.set (n - i) (k,y)) i=some (some (n,y))
 |[],i,n,v,h=>by simp [z6c] at h
 |(f,u)::r,i,n,v,h=>by
  have j:=x10 _ _ _ _ h
  simp only [z6c] at h
  cases c:(z1w k==ka)&&(z1w f==ka) with
  |false=>rw [c] at h; cases h
  |true=>
   rw [c] at h
   simp only [cond_true] at h
   cases d:z1r std ks (z0x k) (z0x f) with
   |none=>rw [d] at h; cases h
   |some b=>
    rw [d] at h
    cases b with
    |true=>
     simp at h; obtain ⟨rfl,_⟩:=h
     simp [z6c,g,z6d _ _ a]
    |false=>
     simp only at h
     have l:=x10 r (i+1) n v h
     have e:n - i=(n - (i+1))+1:=by omega
     rw [e,List.set_cons_succ]
     simp only [z6c,c,d,cond_true]
     exact x4m g a r (i+1) n v h
theorem z4e.mod {en:Array MapEntry} {a:Nat} (h:z4e en a) (i:Nat) (f:MapEntry→MapEntry) (k:∀ e,(f e).born=e.born):z4e (en.modify i f) a:=by
 have c:(en.modify i f).toList.map (·.born)=en.toList.map (·.born):=by
  apply eCj
  intro j
  simp only [eAj,eAt,eDt]
  split
  ·rename_i b; subst b; cases en[i]?<;>simp [k]
  ·rfl
 refine ⟨fun x g=>?_,by rw [c]; exact h.2⟩
 have:x.born∈en.toList.map (·.born):=by rw [←c]; exact eBq.2 ⟨x,g,rfl⟩
 obtain ⟨y,d,e⟩:=eBq.1 this
 rw [←e]; exact h.1 y d
theorem z4e.find {en : Array MapEntry} {clk : Nat} (h : z4e en clk) {i : Nat} {e : MapEntry} (he : en[i]? = some e) : en.findIdx? (fun x => (x.born : Int) == (e.born : Int)) = some i := by
  have hi : i < en.size := (eAi.1 he).1
  have hei : en[i] = e := (eAi.1 he).2
  rw [Array.findIdx?_eq_some_iff_getElem]
  refine ⟨hi, by simp [hei], fun j hj => ?_⟩
  intro hc
  have e1 : en[j].born = e.born := by have hc : (en[j].born : Int) = e.born := by simpa using hc
                                      exact Int.ofNat.inj hc
  have hn := (eFi.1 h.2) j i (by simp; omega) (by simpa using hi) hj
  simp only [List.getElem_map, Array.getElem_toList] at hn
  rw [e1, hei] at hn
  exact hn rfl
def ent (es:List (D×D)) (q:Bool) (r:List D) (k ez:D):List (D×D):=
 match q,r with
 |true,[.int _ i,v]=>std.mset es (std.nat i) k v
 |_,_=>std.madd es k ez
def z67 (q:Bool) (r:List D) (ez:D):D:=match q,r with|true,[_,v]=>v|_,_=>ez
def u7j (p:Prim) (es:List (D×D)) (q:Bool) (r:List D) (kd x:D):List (D×D):=match q,r with|true,[.int _ i,_]=>p.mset es (p.nat i) kd x|_,_=>p.madd es kd x
def z83:=u7j std
section
variable {P:Program} {ρ:Rho} {h:List AO} {w:World}
theorem x6w {T:TypeId} {ti:TI} (ht:z7j P T ti) (U:z0b P ρ h w) {id:Nat} {kd:D} {vm M:Value} (hm:z0q ρ (z0f ρ h) w (.map id) vm) (G:z1m (z0f ρ h) w kd M) {es:List (D×D)} (u:z0e h id= .map es) {ks:List SK} {ka:Bool} {ez:D} (B:ti.desc= .map ks ka ez)
  {q:Bool} {r:List D} (hw:x2n q r (z34 std ti h (.map id) (.d kd))):
  ∃ (L:Loc) (b0:Array MapEntry) (S:Nat) (en:Array MapEntry) (f:Nat) (z:Value) (n:Nat) (e:MapEntry) (t:D),ρ id=some L∧vm= .map (some L.blk)∧w.heap[L.blk]?=some (.map b0 S)∧z4e en f∧y1l (z0f ρ h) w (ent es q r kd ez) en.toList∧en[n]?=some e∧
   (Instr.mapEntry T vm M).run P w= .ok (.tuple #[z,goInt e.born]) (World.setObj w L.blk (.map en f))∧(ent es q r kd ez)[n]?=some (kd,t)∧
   x2n true [.int .i64 (n:Nat),t] (some (some (n,t)))∧z6c std ks ka kd (ent es q r kd ez) 0=some (some (n,t))∧(∀ x,z83 es q r kd x=std.mset (ent es q r kd ez) n kd x)∧
   (t=z67 q r ez):=by
 have H:∀ fr,z34 std ti h (.map id) (.d kd)=some fr→z1w kd=ka∧z1k ks (z0x kd)=true∧z6c std ks ka kd es 0=some fr:=by
  intro fr s
  unfold z34 at s
  rw [B] at s
  simp only at s
  cases Q:(z1w kd==ka)&&z1k ks (z0x kd) with
  |false=>rw [Q] at s; cases s
  |true=>
   rw [Q] at s
   simp only [cond_true,u] at s
   simp only [eAf,beq_iff_eq] at Q
   exact ⟨Q.1,Q.2,s⟩
 rcases hw with ⟨s,rfl⟩|⟨i,v,v',s,a3,rfl,rfl⟩
 ·obtain ⟨k1,Z,Y⟩:=H _ s
  obtain ⟨K,E,W,X,a8,hd,g,hz,_,J,N,o⟩:=y04 ht U hm (.d G) s
  rw [B] at g; cases g
  obtain ⟨V,a1,a2⟩:=y5o (P:=P) (w:=w) hz (O:=z0f ρ h)
  rcases o with ⟨rfl,_,A⟩|⟨a0,L,a9,en,f,e1,rfl,R,l,k,b,rr,A,p⟩
  ·cases hm
  ·cases e1
   rw [u] at l; cases l
   simp only [y4c] at p; subst p
   have C:en.size=es.length:=by rw [←eCg]; exact b.1
   refine ⟨L,en,f,en.push { key:=M,val:=V,born:=f },f+1,V,en.size,{ key:=M,val:=V,born:=f },ez,R,rfl,k,(U.born R u k).push _ _,⟨?_,fun j a c m=>?_⟩,by simp,?_,?_, .inr ⟨_,_,_,rfl, .inl (DLe.refl _),rfl,rfl⟩,?_,?_,rfl⟩
   ·simp [ent,std]; simpa using b.1
   ·simp only [ent,std] at m
    rw [eBr] at m
    simp only [Array.toList_push]
    rw [eBr,b.1]
    split at m
    ·rename_i F; rw [if_pos F]; exact b.2 j a c m
    ·rename_i a6
     rw [if_neg a6]
     have:j - es.length=0:=by
      cases hq:j - es.length with
      |zero=>rfl
      |succ n=>rw [hq] at m; simp at m
     rw [this] at m⊢
     simp at m; obtain ⟨rfl,rfl⟩:=m
     exact ⟨_,rfl,G,a2⟩
   ·simp [Instr.mapEntry,z0h hd,z3a k,J,A,a1,z5w k]
   ·simp [ent,std,C]
   ·have:=y9v (x:=ez) k1 Z es 0 Y
    simpa [ent,std,C] using this
   ·intro x; simp [ent,z83,u7j,std,C]
 ·obtain ⟨k1,Z,Y⟩:=H _ s
  obtain ⟨K,E,W,X,a8,hd,g,hz,_,J,N,o⟩:=y04 ht U hm (.d G) s
  rcases o with ⟨rfl,_,A⟩|⟨a0,L,a9,en,f,e1,rfl,R,l,k,b,rr,A,p⟩
  ·cases hm
  ·cases e1
   rw [u] at l; cases l
   obtain ⟨k',e,rfl,a5,he,hx,a7⟩:=p
   have a4:=N e.key a7 w
   have F:i<es.length:=(eAe.1 a5).1
   have C:en.size=es.length:=by rw [←eCg]; exact b.1
   have b1:i<en.size:=by omega
   refine ⟨L,en,f,en.modify i fun e=>{ e with key:=M },f,e.val,i,{ e with key:=M },v',R,rfl,k,(U.born R u k).mod _ _ (fun _=>rfl),⟨?_,fun j a c m=>?_⟩,by simp [eDt,he],?_,?_, .inr ⟨_,_,_,rfl, .inl (DLe.refl _),rfl,rfl⟩,?_,?_,rfl⟩
   ·simp [ent,std]; simpa using b.1
   ·simp only [ent,std,eFf,eCr] at m
    simp only [eAt,eDt]
    split at m
    ·rename_i I; subst I
     first|rw [if_pos F] at m|skip
     cases m
     simp only [if_true,he,eBo]
     exact ⟨_,rfl,G,hx.le2 a3⟩
    ·rename_i I
     rw [if_neg I]
     simpa using b.2 j a c m
   ·simp [Instr.mapEntry,z0h hd,z3a k,J,A,he,a4,z5w k]
   ·simp [ent,std,F]
   ·have:=x4m (y:=v') k1 Z es 0 i v Y
    simpa [ent,std] using this
   ·intro x; simp [ent,z83,u7j,std]
theorem y53 {T:TypeId} {ti:TI} (C:z7j P T ti) (F:z0b P ρ h w) {m k:AV} {vm j:Value} (hm:z0q ρ (z0f ρ h) w m vm) (H:z0q ρ (z0f ρ h) w k j) {q:Bool} {r:List D} (B:x2n q r (z34 std ti h m k)):
  ∃ v,(eGa T vm j false).run P w= .ok v w:=by
 have f:∀ fr,z34 std ti h m k=some fr→∃ v,(eGa T vm j false).run P w= .ok v w:=by
  intro fr l
  obtain ⟨K,E,ks,ka,ez,s,o,A,_,c,_,d⟩:=y04 C F hm H l
  obtain ⟨t,g,z⟩:=y5o (P:=P) (w:=w) A (O:=z0f ρ h)
  rcases d with ⟨rfl,rfl,b⟩|⟨id,L,es,R,I,rfl,rfl,Q,G,i,y,J,b,a⟩
  ·exact ⟨t,by simp [eGa,z0h s,c,b,g]⟩
  ·cases fr with
   |none=>
    simp only [y4c] at a; subst a
    exact ⟨t,by simp [eGa,z0h s,z3a i,c,b,g]⟩
   |some p=>
    obtain ⟨n,x⟩:=p
    obtain ⟨M,e,rfl,_,_,N,_⟩:=a
    exact ⟨e.val,by simp [eGa,z0h s,z3a i,c,b]⟩
 rcases B with ⟨u,_⟩|⟨_,_,_,u,_⟩<;>exact f _ u
theorem x15 {T:TypeId} (q:z0b P ρ h w) {id:Nat} {L:Loc} (t:ρ id=some L) {f:List (D×D)} (g:z0e h id= .map f) {en:Array MapEntry} {k:Nat} (d:w.heap[L.blk]?=some (.map en k)) {n:Nat} {e:MapEntry} (he:en[n]?=some e) {kd m x:D} (v:f[n]?=some (kd,m))
  {l:Value} (C:z1m (z0f ρ h) w x l) (new:Nat):z0n P ρ h w new (z5g (Instr.entryStore T (.map (some L.blk)) (goInt e.born) l)) ⟨true, .bot,[(id, .map (std.mset f n kd x))]⟩:=by
 have p:=q.born t g d
 obtain ⟨_,u⟩:=q.obj id L t
 rw [g] at u
 obtain ⟨G,B,z,E,y⟩:=u
 rw [d] at z; cases z
 have r:n<f.length:=(eAe.1 v).1
 have s:=p.find he
 have o:(Instr.entryStore T (.map (some L.blk)) (goInt e.born) l).run P w= .ok () (World.setObj w L.blk (.map (en.modify n fun e=>{ e with val:=l }) k)):=by
  simp [Instr.entryStore,z3a d,asInt,asIntOf,goInt,s,z5w d]
 refine map_set q t g d (en.modify n fun e=>{ e with val:=l }) k ⟨by simp [std]; simpa using E.1,fun j a c b=>?_⟩ (p.mod _ _ (fun _=>rfl)) new .bot undef (fun _ _ _=> .bot _) (by simp only [z5g,eAw,o,eAo,eBf])
 simp only [std,eCr] at b
 simp only [eAt,eDt]
 split at b
 ·rename_i i; subst i
  first|rw [if_pos r] at b|skip
  cases b
  obtain ⟨I,A,F,H⟩:=y n kd m v
  rw [he] at A; cases A
  simp only [if_true,he,eBo]
  exact ⟨_,rfl,F,C⟩
 ·rename_i i
  rw [if_neg i]
  simpa using y j a c b
end
structure w2p where
 (t a b dL dB dM dX:Nat)
 (bop:BinOp)
 (bt:Nat)
 (c:Value)
 (bt2:Nat)
def neN (a b:Nat):Bool:=!eAk a b
def u7t:List Oper→Option w2p
 |[L,B,M,X,E]=>match L.dst,L.op,L.guard with
  |some dL, .lookup t (.tmp a) (.tmp b) false,none=>match B.dst,B.op,B.guard with
   |some dB, .binOp g l (.tmp x) (.const c) f,none=>match M.dst,M.op,M.guard with
    |some dM, .mapEntry j (.tmp o) (.tmp m),none=>match X.dst,X.op,X.guard with
     |some d, .extract (.tmp e) 1,none=>match E.dst,E.op,E.guard with
      |none, .entryStore i (.tmp n) (.tmp k) (.tmp h),none=>
       bif eAk x dL&&(eAk j t&&(eAk o a&&(eAk m b&&(eAk e dM&&(eAk i t&&(eAk n a&&(eAk k d&&(eAk h dB&&
        (neN a dL&&(neN a dB&&(neN a dM&&(neN a d&&(neN b dL&&(neN b dB&&(neN b dM&&(neN b d&&(neN dL dB&&(neN dL dM&&(neN dL d&&(neN dB dM&&(neN dB d&&neN dM d)))))))))))))))))))))
       then some ⟨t,a,b,dL,dB,dM,d,g,l,c,f⟩ else none
      |_,_,_=>none
     |_,_,_=>none
    |_,_,_=>none
   |_,_,_=>none
  |_,_,_=>none
 |_=>none
structure v8w (x:w2p) (L B M X E:Oper):Prop where
 (gL:L.guard=none) (gB:B.guard=none) (gM:M.guard=none) (gX:X.guard=none) (gE:E.guard=none)
 (dL:L.dst=some x.dL) (dB:B.dst=some x.dB) (dM:M.dst=some x.dM) (dX:X.dst=some x.dX) (dE:E.dst=none)
 (oL:L.op= .lookup x.t (.tmp x.a) (.tmp x.b) false) (oB:B.op= .binOp x.bop x.bt (.tmp x.dL) (.const x.c) x.bt2) (oM:M.op= .mapEntry x.t (.tmp x.a) (.tmp x.b)) (oX:X.op= .extract (.tmp x.dM) 1) (oE:E.op= .entryStore x.t (.tmp x.a) (.tmp x.dX) (.tmp x.dB))
 (aL:x.a≠x.dL) (aB:x.a≠x.dB) (aM:x.a≠x.dM) (aX:x.a≠x.dX) (bL:x.b≠x.dL) (bB:x.b≠x.dB) (bM:x.b≠x.dM) (bX:x.b≠x.dX)
 (LB:x.dL≠x.dB) (LM:x.dL≠x.dM) (LX:x.dL≠x.dX) (BM:x.dB≠x.dM) (BX:x.dB≠x.dX) (MX:x.dM≠x.dX)
theorem z7s {a b:Nat} (h:neN a b=true):a≠b:=by
 rintro rfl; simp [neN] at h
theorem v7c {l:List Oper} {x:w2p} (h:u7t l=some x):∃ L B M X E,l=[L,B,M,X,E]∧v8w x L B M X E:=by
 unfold u7t at h
 split at h
 ·rename_i L B M X E
  refine ⟨L,B,M,X,E,rfl,?_⟩
  split at h
  ·rename_i dL t a b h1 h2 Z
   split at h
   ·rename_i dB a1 bt y c a0 Y W V
    split at h
    ·rename_i dM t2 a2 b2 U T S
     split at h
     ·rename_i dX e q p o
      split at h
      ·rename_i t3 a3 s3 v3 n m k
       revert h
       intro h
       rw [Bool.cond_eq_ite] at h
       split at h
       ·rename_i G
        cases h
        simp only [eAf] at G
        obtain ⟨F,C,A,z,w,v,u,s,r,R,Q,P,O,N,K,J,I,H,j,i,g,f,d⟩:=G
        have F:=eAg F; have C:=eAg C; have A:=eAg A; have z:=eAg z; have w:=eAg w
        have v:=eAg v; have u:=eAg u; have s:=eAg s; have r:=eAg r
        subst F C A z w v u s r
        exact ⟨Z,V,S,o,k,h1,Y,U,q,n,h2,W,T,p,m,z7s R,z7s Q,z7s P,z7s O,z7s N,z7s K,z7s J,z7s I,z7s H,z7s j,z7s i,z7s g,z7s f,z7s d⟩
       ·cases h
      ·cases h
     ·cases h
    ·cases h
   ·cases h
  ·cases h
 ·cases h
def v7d (ops:List Oper):Option (List Oper×w2p):=
 match u7t (ops.drop (ops.length - 5)) with
 |some x=>some (ops.take (ops.length - 5),x)
 |none=>none
def y5d (ops:List Oper):Bool:=
 let m:=ops.length - 5
 let a:=y1j ops []
 (Nat.testBit (z7q a (m+1)) m&&(Nat.testBit (z7q a (m+3)) (m+2)&&(Nat.testBit (z7q a (m+4)) (m+1)&&Nat.testBit (z7q a (m+4)) (m+3))))&&
  (eAv ops.length).all fun i=>eBt i m||(eAv m).all fun j=>Nat.testBit (z7q a i) j
end Go.Am
end
