/- Texts of this claim. -/
import Derived.Test.YtejcgpekgbiooaaGreatDoorT3
import Derived.Sort.Row
import Derived.Sort.Grow
import Derived.Shelf.SortM.Plain
import Derived.Shelf.SortM.SortNone
import Derived.KernelRfl
import Derived.Test.YtejcgpekgbiooaaGreatDoorProg
import Derived.ReadAgain
import Derived.ChangeSame
import Derived.ChangeArms
import Derived.ChangeOld
import Derived.OpenShut
import Derived.WalkKit
import Derived.ProofKit
set_option linter.unusedVariables false
set_option linter.unusedSimpArgs false
set_option linter.unusedSectionVars false
set_option maxRecDepth 100000
set_option maxHeartbeats 0
open List renaming map_cons → eDq,getElem?_map → eAf,length_eq_zero_iff → eBr,getElem?_eq_getElem → eAb,getElem?_eq_some_iff → eAa,getElem?_append → eBf,drop_drop → eFa,take_append_drop → eFg,length_nil → eDn,length_append → eCv,getElem?_of_mem → eDp,append_nil → eCp,all_eq_true → eAx,mem_cons → eAm,not_mem_nil → eBg,idxOf_lt_length_iff → eDe,getElem_idxOf → eCi,mem_iff_getElem → eBy,length_take → eBo,getElem_mem → eCk,mem_of_getLast? → eDi,mem_append → eCb,mem_cons_self → eAu,mem_singleton → eBh,any_eq_false → eDx,any_eq_true → eBq,mem_of_find?_eq_some → eCy,getD_eq_getElem?_getD → eAn,mem_range → eBs,mem_of_getElem? → eAi,length_cons → eBn,cons_append → eDg,nodup_cons → eCx,map_set → eFe,ext_getElem? → eBt,take_length → eBi,drop_zero → eBz,mem_map → eBe,map_append → eFf,idxOf_lt_length_of_mem → eCc,length_map → eAy,getElem?_replicate → eCe,getElem?_set_ne → eDj,foldl_cons → eCj,mem_append_left → eCw,nodup_append → eDw,mem_cons_of_mem → eBc,pairwise_iff_getElem → eCm,mem_filter → eAz,append_assoc → eCr,length_set → eCd,take_add_one → eCs
open Bool renaming or_eq_true → eAt,and_eq_true → eAc,and_true → eCu,eq_iff_iff → eBx,false_eq_true → eAg,not_eq_true' → eDa,and_self → eDy,not_true → eDl,not_false → eDd
open Option renaming map_eq_some_iff → eBm,map_some → eAw,getD_some → eBb
open Array renaming getD_eq_getD_getElem? → eAk,getElem?_eq_getElem → eAs,getElem?_modify → eDb,getElem?_setIfInBounds → eDc,getElem?_eq_some_iff → eAe
open Nat renaming mul_one → eCn,add_zero → eBa,le_of_ble_eq_true → eAh,eq_of_beq_eq_true → eAd,add_mul → eAr,le_refl → eAj,sub_self → eFl,add_assoc → eBv,div_lt_iff_lt_mul → eDt,mod_lt → eFc,mul_comm → eDo,lt_or_ge → eCf,pow_lt_pow_right → eFh,lt_of_lt_of_le → eAp,mod_eq_of_lt → eDh,zero_le → eAo,sub_zero → eFk,zero_add → eAq
open Int renaming toNat_natCast → eCz,le_refl → eCo
open Go.Proofs.Tryz renaming prog → PG
section
namespace Go.Am
open Go.Sort
variable {P:Program}
def z2k (l:List Int):List (List D):=l.map fun n=>[.int .i64 n]
def y6p:List (List D)→Option (List Int)
 |[]=>some []
 |[.int .i64 n]::l=>match y6p l with
  |some r=>some (n::r)
  |none=>none
 |_=>none
theorem y49:∀ {es:List (List D)} {xs:List Int},y6p es=some xs→es=z2k xs
 |[],xs,h=>by cases h; rfl
 |r::l,xs,h=>by
  unfold y6p at h
  split at h
  ·rename_i heq; cases heq
  ·rename_i s a heq
   cases heq
   split at h
   ·rename_i r' hr
    cases h
    rw [y49 hr]; rfl
   ·cases h
  ·cases h
theorem y9m (l:List Int):y6p (z2k l)=some l:=by
 induction l with
 |nil=>rfl
 |cons x l a=>simp only [z2k,eDq,y6p] at a⊢; rw [a]
theorem x1s (l:List Int):l.mergeSort (fun x y=>decide (x≤y))=D12.srt l:=by
 refine D12.srt_of (List.mergeSort_perm _ _) ?_
 have:=List.pairwise_mergeSort (le:=fun x y:Int=>decide (x≤y)) (fun a b c e d=>by simp only [decide_eq_true_eq] at*; exact Int.le_trans e d) (fun a b=>by simp only [eAt,decide_eq_true_eq]; exact Int.le_total a b) l
 exact this.imp fun h=>by simpa using h
theorem w1e (l:List Int):(D12.srt l).length=l.length:=(D12.srt_perm l).length_eq
theorem x3n {l:List Int} {i:Nat} {r:List D} (h:(z2k l)[i]?=some r):∃ n,l[i]?=some n∧r=[.int .i64 n]:=by
 unfold z2k at h
 rw [eAf] at h
 obtain ⟨x,a,rfl⟩:=eBm.1 h
 exact ⟨x,a,rfl⟩
theorem w1f {f:FuncId}
  (hS:∀ (N off cap:Nat) (zs:List Int) (w:World),Go.Sort.Holds (Value.int .i64) w N off zs.toArray→N<w.heap.size→zs.length<4611686018427387904→
   Calls P f #[.slice (some ⟨N,off,none⟩) zs.length cap] w fun e w'=>e= .returned (.tuple #[])∧∃ n os,w'=grow (putRow (Value.int .i64) (Sort.ahead w n) N off (zs.mergeSort fun x y=>decide (x≤y)).toArray) os)
  (hN:∀ (p:Option Addr) (cap:Nat) (w:World),Calls P f #[.slice p 0 cap] w fun e w'=>e= .returned (.tuple #[])∧w'=w)
  {zs:List Int} (hsz:zs.length<4611686018427387904) (cap:Option Nat):
  z3m P f [.slice 0 1 0 zs.length cap] [.row (z2k zs)] (.tuple []) [.row (z2k (D12.srt zs))]:=⟨by
 intro ρ R w cs hr hdm har
 obtain ⟨hv1,hv2⟩:=har
 have hs1:R.size=1:=hv1
 have d:R=#[R.getD 0 undef]:=by
  apply Array.ext (by simpa using hs1)
  intro i H X
  match i,H,X with
  |0,H,X=>simp [eAk,eAs H]
  |i+1,H,X=>simp at X
 by_cases h0:zs.length=0
 ·have I:zs=[]:=eBr.1 h0
  subst I
  obtain ⟨p,E,A⟩:∃ p E,R.getD 0 undef= .slice p 0 E:=by
   have u:=hv2 0 _ rfl
   generalize T:R.getD 0 undef=q at u
   have key:∀ z,z=0→z0n ρ (z0d ρ [.row (z2k [])]) w (.slice 0 1 0 z cap) q→∃ p E,q= .slice p 0 E:=by
    intro z I u
    cases u with
    |slice _ _ _ _ _ L a c H X h3 h4 h5=>subst I; exact ⟨_,_,rfl⟩
    |nils _ _ _ _ a _=>exact ⟨_,_,rfl⟩
   exact key _ rfl u
  rw [A] at d
  rw [d]
  obtain ⟨e,w',fr,⟨rfl,rfl⟩,W,V,U⟩:=hN p E w cs
  exact ⟨ρ, .tuple #[],_,fr,W,V,U, .tuple [] #[] rfl (fun i x Y=>by simp at Y),hr,fun id hid=>hdm id hid,Ext.refl _ _ _ _⟩
 obtain ⟨L,E,hL,I,A⟩:∃ L E,ρ 0=some L∧L.esz=1∧R.getD 0 undef= .slice (some ⟨L.blk,L.base,none⟩) zs.length E:=by
  have u:=hv2 0 _ rfl
  generalize T:R.getD 0 undef=q at u
  have key:∀ z,z=zs.length→z0n ρ (z0d ρ [.row (z2k zs)]) w (.slice 0 1 0 z cap) q→∃ L E,ρ 0=some L∧L.esz=1∧q= .slice (some ⟨L.blk,L.base,none⟩) zs.length E:=by
   intro z I u
   cases u with
   |slice _ _ _ _ _ L a c H X h3 h4 h5=>
    subst I
    refine ⟨L,c,H,X,?_⟩
    rw [h3 (by omega)]; simp
   |nils _ _ _ _ a _=>omega
  exact key _ rfl u
 rw [A] at d
 rw [d]
 have B:(z0f [AO.row (z2k zs)] 0).live=true:=rfl
 obtain ⟨J,ho⟩:=hr.obj 0 L hL
 obtain ⟨hpos,c,t,K,hlen,C⟩:=(show z1c P ρ _ w L (.row (z2k zs)) from ho)
 rw [I] at hlen C
 have m:∀ i,i<zs.length→c[L.base+i]?=some (.int .i64 zs[i]!):=by
  intro i O
  have hri:(z2k zs)[i]?=some [.int .i64 zs[i]!]:=by
   unfold z2k
   rw [eAf,eAb O,getElem!_pos zs i O]; rfl
  obtain ⟨v,u,_,hrel⟩:=C i _ 0 (.int .i64 zs[i]!) hri rfl
  rw [eCn,eBa] at u
  rw [u]
  cases hrel; rfl
 have hH:Go.Sort.Holds (Value.int .i64) w L.blk L.base zs.toArray:=by
  intro q T
  have T:q<zs.length:=by simpa using T
  refine ⟨?_,?_⟩
  ·unfold World.cell?
   simp only [K]
   have:=m q T
   simpa [getElem!_pos,T] using this
  ·unfold World.frozen?
   simp only [K]
   simp
 obtain ⟨e,w',fr,⟨rfl,n,os,S⟩,W,V,U⟩:=hS L.blk L.base E zs w hH J hsz cs
 rw [x1s] at S
 generalize hdk:D12.srt zs=o at S⊢
 have hdks:o.length=zs.length:=by rw [←hdk,w1e]
 have hr1:=hr.drawn (w.drawn+n) (trivial)
 have hx1:Ext (fun id=>True) ρ [.row (z2k zs)] w ρ [.row (z2k zs)] { w with drawn:=w.drawn+n }:=Ext.drawn _ _ _ _ _ (trivial)
 let F:=putCells (Value.int .i64) L.base o.toArray c
 have hput:putRow (Value.int .i64) (Sort.ahead w n) L.blk L.base o.toArray=World.setObj { w with drawn:=w.drawn+n } L.blk (.cells F t (0,0)):=by
  unfold putRow mapBlock World.setObj Sort.ahead
  congr 1
  apply Array.ext_getElem?
  intro b
  simp only [eDb,eDc]
  by_cases s:L.blk=b
  ·subst s
   simp only [if_true,J,K,eAw,onCells]
   rfl
  ·simp [s]
 have hc's:F.size=c.size:=by simp [F,putCells]
 have hbs:∀ k,z1a { w with drawn:=w.drawn+n } L.blk=some k→z1a (World.setObj { w with drawn:=w.drawn+n } L.blk (.cells F t (0,0))) L.blk=some k:=by
  intro k hk
  rw [z0y (w:={ w with drawn:=w.drawn+n }) K] at hk; cases hk
  rw [z0y (z0t { w with drawn:=w.drawn+n } L.blk _ J)]
  rw [hc's]
 have M:∀ i,i<zs.length→F[L.base+i]?=some (.int .i64 o[i]!):=by
  intro i O
  have H:=m i O
  have T:L.base+i<c.size:=(eAe.1 H).1
  simp only [F,putCells]
  rw [Array.getElem?_mapIdx,H]
  simp only [eAw,List.size_toArray,hdks]
  rw [if_pos (by omega)]
  have e:L.base+i - L.base=i:=by omega
  rw [e]
  have hi':i<o.length:=by omega
  simp [getElem!_pos,hi']
 have g:=hr1.set hL B (.row (z2k o)) rfl (.cells F t (0,0)) hbs (by
  refine ⟨hpos,F,t,z0t _ _ _ J,fun i r O=>?_,fun i r j y O Z=>?_⟩
  ·rw [I]
   obtain ⟨x,_,rfl⟩:=x3n O
   rfl
  ·rw [I]
   obtain ⟨x,Y,rfl⟩:=x3n O
   have hil:=(eAa.1 Y).1
   have hxe:o[i]! =x:=by rw [getElem!_pos o i hil]; exact (eAa.1 Y).2
   match j,Z with
   |0,Z=>
    cases Z
    refine ⟨.int .i64 x,?_,rfl, .int _ _⟩
    rw [eCn,eBa,M i (by omega),hxe]
   |j+1,Z=>simp at Z)
 have Q:=Ext.set (fun _=>True) hr1 hL B (.row (z2k o)) rfl (.cells F t (0,0)) hbs
 have hw2:w'=grow (World.setObj { w with drawn:=w.drawn+n } L.blk (.cells F t (0,0))) os:=by rw [S]; rw [hput]
 generalize hwx:World.setObj { w with drawn:=w.drawn+n } L.blk (.cells F t (0,0))=G at g Q hw2
 have l:∀ b,b<G.heap.size→(grow G os).heap[b]?=G.heap[b]?:=by
  intro b s
  show (G.heap++os)[b]?=_
  rw [Array.getElem?_append_left s]
 have hkg:z43 (z0d ρ (z03 [.row (z2k zs)] 0 (.row (z2k o)))) (z0d ρ (z03 [.row (z2k zs)] 0 (.row (z2k o)))) G (grow G os):=
  ⟨by show _≤(G.heap++os).size; simp,fun b s _=>l b s,fun _ _ h=>h,fun b k s=>by
   have:=z7s s
   unfold z1a; rw [l b this]; exact s,z0u.refl _⟩
 have hr3:z0b P ρ [.row (z2k o)] (grow G os):=g.of_keep hkg fun b s=>l b (z7i g s)
 have hx3:Ext (fun _=>True) ρ (z03 [.row (z2k zs)] 0 (.row (z2k o))) G ρ [.row (z2k o)] (grow G os):=
  ⟨rfl,rfl,rfl,hkg,fun _ _=>rfl,rfl,fun b s=>l b (g.fr b s)⟩
 subst hw2
 exact ⟨ρ, .tuple #[],_,fr,W,V,U, .tuple [] #[] rfl (fun i x Y=>by simp at Y),hr3,fun id hid=>hdm id hid,((hx1.trans Q).trans hx3).mono fun _ _=>trivial⟩⟩
end Go.Am
end
section
namespace Go.Proofs
def w13:Go.Shelf.Ren:=⟨fun|40=>200|30=>179|32=>181|31=>180|34=>183|33=>182|35=>184|20=>160|19=>159|18=>158|17=>157|16=>156|15=>155|14=>154|13=>153|12=>152|11=>151|10=>150|7=>134|8=>135|5=>108|n=>n,fun|64=>221|63=>220|53=>199|57=>203|9=>9|5=>5|46=>100|44=>183|41=>135|35=>175|36=>176|4=>4|0=>0|22=>27|32=>162|3=>3|25=>2|23=>27|n=>n,fun|n=>n⟩
theorem w5c : Go.Proofs.SlLaysM.n5 Tryz.prog w13 :=
  { mixed := by kernel_rfl,
    f5 := by first | exact ⟨Tryz.f108.name, by decide, Tryz.func108.trans (congrArg some (by kernel_rfl))⟩ | exact Tryz.func108.trans (congrArg some (by kernel_rfl)),
    f7 := by first | exact ⟨Tryz.f134.name, by decide, Tryz.func134.trans (congrArg some (by kernel_rfl))⟩ | exact Tryz.func134.trans (congrArg some (by kernel_rfl)),
    f8 := by first | exact ⟨Tryz.f135.name, by decide, Tryz.func135.trans (congrArg some (by kernel_rfl))⟩ | exact Tryz.func135.trans (congrArg some (by kernel_rfl)),
    f10 := by first | exact ⟨Tryz.f150.name, by decide, Tryz.func150.trans (congrArg some (by kernel_rfl))⟩ | exact Tryz.func150.trans (congrArg some (by kernel_rfl)),
    f11 := by first | exact ⟨Tryz.f151.name, by decide, Tryz.func151.trans (congrArg some (by kernel_rfl))⟩ | exact Tryz.func151.trans (congrArg some (by kernel_rfl)),
    f12 := by first | exact ⟨Tryz.f152.name, by decide, Tryz.func152.trans (congrArg some (by kernel_rfl))⟩ | exact Tryz.func152.trans (congrArg some (by kernel_rfl)),
    f13 := by first | exact ⟨Tryz.f153.name, by decide, Tryz.func153.trans (congrArg some (by kernel_rfl))⟩ | exact Tryz.func153.trans (congrArg some (by kernel_rfl)),
    f14 := by first | exact ⟨Tryz.f154.name, by decide, Tryz.func154.trans (congrArg some (by kernel_rfl))⟩ | exact Tryz.func154.trans (congrArg some (by kernel_rfl)),
    f15 := by first | exact ⟨Tryz.f155.name, by decide, Tryz.func155.trans (congrArg some (by kernel_rfl))⟩ | exact Tryz.func155.trans (congrArg some (by kernel_rfl)),
    f16 := by first | exact ⟨Tryz.f156.name, by decide, Tryz.func156.trans (congrArg some (by kernel_rfl))⟩ | exact Tryz.func156.trans (congrArg some (by kernel_rfl)),
    f17 := by first | exact ⟨Tryz.f157.name, by decide, Tryz.func157.trans (congrArg some (by kernel_rfl))⟩ | exact Tryz.func157.trans (congrArg some (by kernel_rfl)),
    f18 := by first | exact ⟨Tryz.f158.name, by decide, Tryz.func158.trans (congrArg some (by kernel_rfl))⟩ | exact Tryz.func158.trans (congrArg some (by kernel_rfl)),
    f19 := by first | exact ⟨Tryz.f159.name, by decide, Tryz.func159.trans (congrArg some (by kernel_rfl))⟩ | exact Tryz.func159.trans (congrArg some (by kernel_rfl)),
    f20 := by first | exact ⟨Tryz.f160.name, by decide, Tryz.func160.trans (congrArg some (by kernel_rfl))⟩ | exact Tryz.func160.trans (congrArg some (by kernel_rfl)),
    f30 := by first | exact ⟨Tryz.f179.name, by decide, Tryz.func179.trans (congrArg some (by kernel_rfl))⟩ | exact Tryz.func179.trans (congrArg some (by kernel_rfl)),
    f31 := by first | exact ⟨Tryz.f180.name, by decide, Tryz.func180.trans (congrArg some (by kernel_rfl))⟩ | exact Tryz.func180.trans (congrArg some (by kernel_rfl)),
    f32 := by first | exact ⟨Tryz.f181.name, by decide, Tryz.func181.trans (congrArg some (by kernel_rfl))⟩ | exact Tryz.func181.trans (congrArg some (by kernel_rfl)),
    f33 := by first | exact ⟨Tryz.f182.name, by decide, Tryz.func182.trans (congrArg some (by kernel_rfl))⟩ | exact Tryz.func182.trans (congrArg some (by kernel_rfl)),
    f34 := by first | exact ⟨Tryz.f183.name, by decide, Tryz.func183.trans (congrArg some (by kernel_rfl))⟩ | exact Tryz.func183.trans (congrArg some (by kernel_rfl)),
    f35 := by first | exact ⟨Tryz.f184.name, by decide, Tryz.func184.trans (congrArg some (by kernel_rfl))⟩ | exact Tryz.func184.trans (congrArg some (by kernel_rfl)),
    f40 := by first | exact ⟨Tryz.f200.name, by decide, Tryz.func200.trans (congrArg some (by kernel_rfl))⟩ | exact Tryz.func200.trans (congrArg some (by kernel_rfl)),
    t0 := by exact Tryz.underlying0,
    a0 := by exact Tryz.isAgg0,
    z0 := by exact Tryz.sizeOf0,
    v0 := by exact Tryz.zeroValue0,
    t3 := by exact Tryz.underlying3,
    a3 := by exact Tryz.isAgg3,
    z3 := by exact Tryz.sizeOf3,
    v3 := by exact Tryz.zeroValue3,
    t4 := by exact Tryz.underlying4,
    a4 := by exact Tryz.isAgg4,
    z4 := by exact Tryz.sizeOf4,
    v4 := by exact Tryz.zeroValue4,
    t5 := by exact Tryz.underlying5,
    a5 := by exact Tryz.isAgg5,
    z5 := by exact Tryz.sizeOf5,
    v5 := by exact Tryz.zeroValue5,
    t9 := by exact Tryz.underlying9,
    a9 := by exact Tryz.isAgg9,
    z9 := by exact Tryz.sizeOf9,
    v9 := by exact Tryz.zeroValue9,
    t22 := by exact Tryz.underlying27,
    a22 := by exact Tryz.isAgg27,
    z22 := by exact Tryz.sizeOf27,
    v22 := by exact Tryz.zeroValue27,
    t23 := by exact Tryz.underlying27,
    a23 := by exact Tryz.isAgg27,
    z23 := by exact Tryz.sizeOf27,
    v23 := by exact Tryz.zeroValue27,
    t25 := by exact Tryz.underlying2,
    a25 := by exact Tryz.isAgg2,
    z25 := by exact Tryz.sizeOf2,
    v25 := by exact Tryz.zeroValue2,
    t32 := by exact Tryz.underlying162,
    a32 := by exact Tryz.isAgg162,
    z32 := by exact Tryz.sizeOf162,
    v32 := by exact Tryz.zeroValue162,
    t35 := by exact Tryz.underlying175,
    a35 := by exact Tryz.isAgg175,
    z35 := by exact Tryz.sizeOf175,
    v35 := by exact Tryz.zeroValue175,
    t36 := by exact Tryz.underlying176,
    a36 := by exact Tryz.isAgg176,
    z36 := by exact Tryz.sizeOf176,
    v36 := by exact Tryz.zeroValue176,
    t41 := by exact Tryz.underlying135,
    a41 := by exact Tryz.isAgg135,
    z41 := by exact Tryz.sizeOf135,
    v41 := by exact Tryz.zeroValue135,
    t44 := by exact Tryz.underlying183,
    a44 := by exact Tryz.isAgg183,
    z44 := by exact Tryz.sizeOf183,
    v44 := by exact Tryz.zeroValue183,
    t46 := by exact Tryz.underlying100,
    a46 := by exact Tryz.isAgg100,
    z46 := by exact Tryz.sizeOf100,
    v46 := by exact Tryz.zeroValue100,
    t53 := by exact Tryz.underlying199,
    a53 := by exact Tryz.isAgg199,
    z53 := by exact Tryz.sizeOf199,
    v53 := by exact Tryz.zeroValue199,
    t57 := by exact Tryz.underlying203,
    a57 := by exact Tryz.isAgg203,
    z57 := by exact Tryz.sizeOf203,
    v57 := by exact Tryz.zeroValue203,
    t63 := by exact Tryz.underlying220,
    a63 := by exact Tryz.isAgg220,
    z63 := by exact Tryz.sizeOf220,
    v63 := by exact Tryz.zeroValue220,
    t64 := by exact Tryz.underlying221,
    a64 := by exact Tryz.isAgg221,
    z64 := by exact Tryz.sizeOf221,
    v64 := by exact Tryz.zeroValue221 }
end Go.Proofs
namespace Go.Am
open Go Go.Proofs
noncomputable def x0b:Ctr:=⟨108,[.full 0 1],[.row [(Go.Am.CK.int Go.IntKind.i64)]],[(.ret,⟨[(0, .tuple [])],[.row [(Go.Am.CK.int Go.IntKind.i64)]],1⟩)]⟩
noncomputable def v4e (_:Prim) (x:List (List D)×Unit):Option (List (List D)×Unit):=
 match y6p x.1 with
 |some l=>bif Nat.ble l.length 1000000 then some (z2k (D12.srt l),()) else none
 |none=>none
noncomputable def u5e:Prim→Tup (x0b).scs→Option (STup (scss (x0b).outs)):=fun p x=>v4e p x
theorem w9b:CtrOk Tryz.prog x0b (u5e std):=by
 refine ⟨enters_of Tryz.func108 rfl rfl,fun x y a=>?_⟩
 obtain ⟨es,u⟩:=x
 change v4e std (es,u)=_ at a
 unfold v4e at a
 simp only at a
 split at a
 ·rename_i l d
  cases b:Nat.ble l.length 1000000 with
  |false=>rw [b] at a; cases a
  |true=>
   rw [b] at a
   cases a
   have b:=eAh b
   have c:=y49 d
   subst c
   refine ⟨by show 1≤1; omega,?_⟩
   have:=w1f (P:=Tryz.prog) (f:=108) (AnyM.slices_Sort_int w5c) (AnyM.slices_Sort_int_none w5c) (zs:=l) (by omega) (some l.length)
   have e:(z2k l).length=l.length:=by simp [z2k]
   show z3m _ 108 [.slice 0 1 0 (z2k l).length (some (z2k l).length)] [.row (z2k l)] (.tuple []) [.row (z2k (D12.srt l))]
   rw [e]
   exact this
 ·cases a
end Go.Am
end
section
namespace Go.Am
open Go.ChangeShapes Go.WideShapes
inductive RK where
 |int (k:IntKind)|bool|str
 |list (ks:List RK)
 deriving Inhabited
def u4h (P:Program) (r:TypeId→Option (List RK)):Nat→List Field→Option (List RK)
 |_,[]=>some []
 |off,f::fs=>match r f.type with
  |some ks=>bif Nat.beq f.offset off&&Nat.beq (P.cellsOf f.type) ks.length then match u4h P r (off+ks.length) fs with
    |some l=>some (ks++l)
    |none=>none
   else none
  |none=>none
def u6w {α:Type}:Nat→List α→List α
 |0,_=>[]
 |m+1,ks=>ks++u6w m ks
def shp (P:Program):Nat→TypeId→Option (List RK)
 |0,_=>none
 |n+1,t=>match P.underlying t with
  |some .bool=>some [.bool]
  |some (.int k)=>some [.int k]
  |some .string=>some [.str]
  |some (.slice e)=>match shp P n e with
   |some ks=>bif Nat.beq (P.cellsOf e) ks.length&&Nat.blt 0 ks.length then some [.list ks] else none
   |none=>none
  |some (.struct fs)=>match u4h P (shp P n) 0 fs.toList with
   |some ks=>bif Nat.beq (P.cellsOf t) ks.length then some ks else none
   |none=>none
  |some (.array m e)=>match shp P n e with
   |some ks=>bif Nat.beq (P.cellsOf e) ks.length&&Nat.beq (P.cellsOf t) (m*ks.length) then some (u6w m ks) else none
   |none=>none
  |_=>none
mutual
def DK:RK→D→Prop
 | .int k, .int k' n=>k'=k∧(Lit.int k n).wf=true
 | .bool, .bool _=>True
 | .str, .str s=>s.size≤maxLen
 | .list ks, .list f z es=>f=false∧z=ks.length∧es.length≤maxLen∧y7w ks es
 |_,_=>False
def DKs:List RK→List D→Prop
 |[],[]=>True
 |k::ks,d::ds=>DK k d∧DKs ks ds
 |_,_=>False
def y7w:List RK→List (List D)→Prop
 |_,[]=>True
 |ks,r::es=>DKs ks r∧y7w ks es
end
theorem DKs.length:∀ {ks:List RK} {ds:List D},DKs ks ds→ds.length=ks.length
 |[],[],_=>rfl
 |[],_::_,h=>by simp [DKs] at h
 |_::_,[],h=>by simp [DKs] at h
 |k::ks,d::ds,h=>by simp only [DKs] at h; simp [DKs.length h.2]
theorem DKs.append:∀ {ks a:List RK} {ds b:List D},DKs ks ds→DKs a b→DKs (ks++a) (ds++b)
 |[],_,[],_,_,h'=>h'
 |[],_,_::_,_,h,_=>by simp [DKs] at h
 |_::_,_,[],_,h,_=>by simp [DKs] at h
 |k::ks,_,d::ds,_,h,h'=>by
  simp only [DKs] at h
  exact ⟨h.1,DKs.append h.2 h'⟩
theorem y1a {ks:List RK}:∀ {es:List (List D)},y7w ks es↔∀ r∈es,DKs ks r
 |[]=>by simp [y7w]
 |r::es=>by simp [y7w,y1a (es:=es)]
section
variable {P:Program} {H:Type} {enc:TypeId×Value→H} {w:World} {O:Nat→Prop}
def w79 (O:Nat→Prop) (w:World) (ds:List D) (cs:List Value):Prop:=cs.length=ds.length∧∀ (j:Nat) (x:D),ds[j]?=some x→∃ v,cs[j]?=some v∧v.oneCell'=true∧z1k O w x v
theorem w79.one {x:D} {v:Value} (b:v.oneCell'=true) (h:z1k O w x v):w79 O w [x] [v]:=⟨rfl,fun j y a=>by
 match j,a with
 |0,a=>cases a; exact ⟨v,rfl,b,h⟩
 |j+1,a=>simp at a⟩
theorem w79.append {ds a:List D} {cs b:List Value} (h:w79 O w ds cs) (h':w79 O w a b):w79 O w (ds++a) (cs++b):=by
 refine ⟨by simp [h.1,h'.1],fun j x c=>?_⟩
 rw [eBf] at c⊢
 rw [h.1]
 split at c
 ·rename_i d; rw [if_pos d]; exact h.2 j x c
 ·rename_i d; rw [if_neg d]; exact h'.2 _ x c
theorem x46 {α:Type} (cs:List α) (a b:Nat) (h:a+b≤cs.length):cs.drop a=(cs.drop a).take b++cs.drop (a+b):=by
 rw [←eFa]
 exact (eFg b (cs.drop a)).symm
def x2l (P:Program) (enc:TypeId×Value→H) (w:World) (O:Nat→Prop) (sp:Nat→Bool) (b:Bool) (n:Nat):Prop:=
 ∀ (a:Nat) (t:TypeId) (cs:List Value) (ks:List RK) (x:DataW H×List MemPlace),shp P n t=some ks→DataW.trod enc P w 0 sp b a t cs=some x→∃ ds,DKs ks ds∧w79 O w ds cs
theorem x4u {sp:Nat→Bool} {k:Bool} {n:Nat} (g:x2l P enc w O sp k n) {fuel:Nat} {cs:List Value}:∀ (fs:List Field) (off:Nat) (ks:List RK),u4h P (shp P n) off fs=some ks→off+ks.length=cs.length→
  (∀ f∈fs,∃ x,DataW.trod enc P w 0 sp k fuel f.type ((cs.drop f.offset).take (P.cellsOf f.type))=some x)→∃ ds,DKs ks ds∧w79 O w ds (cs.drop off)
 |[],off,ks,h,c,_=>by
  cases h
  simp only [eDn,eBa] at c
  subst c
  exact ⟨[],trivial,by rw [List.drop_length]; exact ⟨rfl,fun j x m=>by simp at m⟩⟩
 |f::fs,off,ks,h,c,hr=>by
  simp only [u4h] at h
  split at h
  ·rename_i a q
   cases b:Nat.beq f.offset off&&Nat.beq (P.cellsOf f.type) a.length with
   |false=>rw [b] at h; cases h
   |true=>
    rw [b] at h; simp only [cond_true] at h
    have b:=(Iff.of_eq (eAc _ _)).1 b|>.imp eAd eAd
    split at h
    ·rename_i l p
     cases h
     rw [eCv] at c
     obtain ⟨x,i⟩:=hr f (by simp)
     rw [b.1,b.2] at i
     obtain ⟨e,u,t⟩:=g _ _ _ _ _ q i
     obtain ⟨d,s,r⟩:=x4u g fs (off+a.length) l p (by omega) (fun f o=>hr f (by simp [o]))
     refine ⟨e++d,u.append s,?_⟩
     rw [x46 cs off a.length (by omega)]
     exact t.append r
    ·cases h
  ·cases h
theorem w34 {sp:Nat→Bool} {g:Bool} {n:Nat} (d:x2l P enc w O sp g n) {fuel:Nat} {cs:List Value} {e:TypeId} {ks:List RK} (h:shp P n e=some ks) (k:P.cellsOf e=ks.length):∀ (m off:Nat),off*ks.length+m*ks.length=cs.length→
  (∀ i,off≤i→i<off+m→∃ x,DataW.trod enc P w 0 sp g fuel e ((cs.drop (i*P.cellsOf e)).take (P.cellsOf e))=some x)→∃ ds,DKs (u6w m ks) ds∧w79 O w ds (cs.drop (off*ks.length))
 |0,off,a,_=>by
  simp only [Nat.zero_mul,eBa] at a
  exact ⟨[],trivial,by rw [a,List.drop_length]; exact ⟨rfl,fun j x o=>by simp at o⟩⟩
 |m+1,off,a,hr=>by
  rw [eAr,Nat.one_mul] at a
  obtain ⟨x,f⟩:=hr off (eAj _) (by omega)
  rw [k] at f
  obtain ⟨c,s,r⟩:=d _ _ _ _ _ h f
  have l:(off+1)*ks.length=off*ks.length+ks.length:=by rw [eAr,Nat.one_mul]
  obtain ⟨b,q,p⟩:=w34 d h k m (off+1) (by rw [l]; omega) (fun i u t=>hr i (by omega) (by omega))
  refine ⟨c++b,s.append q,?_⟩
  rw [x46 cs (off*ks.length) ks.length (by omega), ←l]
  exact r.append p
theorem y7f {p:Nat→List D→Prop}:∀ n,(∀ i,i<n→∃ r,p i r)→∃ es:List (List D),es.length=n∧∀ i r,es[i]?=some r→p i r
 |0,_=>⟨[],rfl,fun i r h=>by simp at h⟩
 |n+1,h=>by
  obtain ⟨es,a,b⟩:=y7f n fun i f=>h i (Nat.lt_succ_of_lt f)
  obtain ⟨r,d⟩:=h n (Nat.lt_succ_self n)
  refine ⟨es++[r],by simp [a],fun i q c=>?_⟩
  rw [eBf] at c
  split at c
  ·exact b i q c
  ·rename_i g
   have:i=n:=by
    cases e:i - es.length with
    |zero=>omega
    |succ m=>rw [e] at c; simp at c
   subst this
   rw [a,eFl] at c
   cases c; exact d
theorem x5g {base:Nat} {a:Addr} {n:Nat} {cs:List Value} (h:w.cells? base a n=some cs):cs.length=n∧∀ j,j<n→w.cell? (a.add j)=cs[j]?:=by
 unfold World.cells? at h
 split at h
 ·have key:∀ (m:Nat) (l:List Nat) (cs:List Value),l.mapM (fun i=>w.cell? (a.add i))=some cs→cs.length=l.length∧∀ (j i:Nat),l[j]?=some i→w.cell? (a.add i)=cs[j]?:=by
   intro m l
   induction l with
   |nil=>intro cs h; simp at h; subst h; simp
   |cons i l f=>
    intro cs h
    simp only [List.mapM_cons,Option.bind_eq_bind,Option.bind_eq_some_iff,Option.pure_def,Option.some.injEq] at h
    obtain ⟨v,k,o,c,rfl⟩:=h
    obtain ⟨e,d⟩:=f _ c
    refine ⟨by simp [e],fun j g b=>?_⟩
    match j,b with
    |0,b=>simp at b; subst b; simpa using k
    |j+1,b=>simpa using d j g (by simpa using b)
  obtain ⟨e,d⟩:=key n _ _ h
  refine ⟨by simpa using e,fun j b=>d j j (by simp [b])⟩
 ·cases h
theorem w6o {a:Addr} {v:Value} (h:w.cell? a=some v):a.spot=none:=by
 unfold World.cell? at h
 split at h
 ·split at h
  ·cases h
  ·rename_i b; simpa using b
 ·cases h
theorem x5u (b o k:Nat):(Addr.add ⟨b,o,none⟩ k)=⟨b,o+k,none⟩:=by
 unfold Addr.add
 split
 ·rename_i h; subst h; rfl
 ·rfl
theorem x1h {sp:Nat→Bool} {hd:Bool} (hO:∀ b,¬ O b):∀ n,x2l P enc w O sp hd n
 |0=>fun fuel t cs ks x h _=>by cases h
 |n+1=>fun fuel t cs ks x h A=>by
  have ih:x2l P enc w O sp hd n:=x1h hO n
  cases fuel with
  |zero=>simp [DataW.trod] at A
  |succ m=>
  simp only [shp] at h
  split at h
  ·
   rename_i q
   cases h
   obtain ⟨b,rfl,_⟩:=DataW.trod_bool q A
   exact ⟨[.bool b],⟨trivial,trivial⟩, .one rfl (.bool _)⟩
  ·rename_i k q
   cases h
   obtain ⟨i,rfl,_,hw⟩:=DataW.trod_int q A
   exact ⟨[.int k i],⟨⟨rfl,hw⟩,trivial⟩, .one rfl (.int _ _)⟩
  ·rename_i q
   cases h
   obtain ⟨s,rfl,hsz⟩:∃ s,cs=[.string s]∧s.size≤maxLen:=by
    unfold DataW.trod at A
    rw [q] at A
    split at A<;>simp_all
   exact ⟨[.str s],⟨hsz,trivial⟩, .one rfl (.str _)⟩
  ·
   rename_i e q
   split at h
   ·rename_i c T
    cases g:Nat.beq (P.cellsOf e) c.length&&Nat.blt 0 c.length with
    |false=>rw [g] at h; cases h
    |true=>
    rw [g] at h; simp only [cond_true] at h; cases h
    have g:=(Iff.of_eq (eAc _ _)).1 g|>.imp eAd id
    have V:0<c.length:=Nat.lt_of_succ_le (eAh g.2)
    rcases DataW.trod_slice q A with ⟨rfl,_⟩|⟨a,len,cap,J,rest,U,_,rfl,_,_,hlc,hcm,hel,C,_⟩
    ·exact ⟨[.list false c.length []],by simp [DKs,DK,y7w], .one rfl (.lnil false _ _ _ (by simp))⟩
    ·rw [g.1] at C
     have N:∀ i,i<len→∃ r,DKs c r∧∃ cs,w.cells? 0 (a.add (i*c.length)) c.length=some cs∧w79 O w r cs:=by
      intro i l
      have X:=C i l
      have B:i<J.length:=by omega
      rw [eAb B] at X
      obtain ⟨cs,z,htr⟩:=Option.bind_eq_some_iff.1 X
      obtain ⟨r,q1,q2⟩:=ih _ _ _ _ _ T htr
      exact ⟨r,q1,cs,z,q2⟩
     obtain ⟨es,I,W⟩:=y7f len N
     have G:y7w c es:=y1a.2 fun r K=>by
      obtain ⟨i,l⟩:=eDp K
      exact (W i r l).1
     refine ⟨[.list false c.length es],⟨⟨rfl,rfl,by omega,G⟩,trivial⟩, .one rfl ?_⟩
     by_cases S:len=0
     ·have:es=[]:=eBr.1 (by omega)
      subst this; subst S
      exact .lnil false _ _ _ (by simp)
     ·
      have hne:es≠[]:=fun h=>S (by rw [h] at I; exact I.symm)
      have u:a.spot=none:=by
       obtain ⟨r,K⟩:∃ r,es[0]?=some r:=⟨es[0]'(by omega),eAb (by omega)⟩
       obtain ⟨_,cs,z,R⟩:=W 0 r K
       obtain ⟨e1,e2⟩:=x5g z
       have e3:=e2 0 V
       rw [eAb (by omega)] at e3
       have:(a.add (0*c.length)).add 0=a:=by simp [Addr.add]
       rw [this] at e3
       exact w6o e3
      obtain ⟨b,o,s⟩:=a
      simp only at u; subst u
      have p:∀ (i:Nat) (r:List D) (j:Nat) (x:D),es[i]?=some r→r[j]?=some x→∃ v,w.cell? ⟨b,o+(i*c.length+j),none⟩=some v∧v.oneCell'=true∧z1k O w x v:=by
       intro i r j x l L
       obtain ⟨q0,cs,z,R⟩:=W i r l
       obtain ⟨e1,e2⟩:=x5g z
       obtain ⟨v,hv,X,h2⟩:=R.2 j x L
       have hj':j<c.length:=by rw [←q0.length]; exact (eAa.1 L).1
       have:=e2 j hj'
       rw [x5u,x5u,hv,eBv] at this
       exact ⟨v,this,X,h2⟩
      have y:∀ (i:Nat) (r:List D),es[i]?=some r→r.length=c.length:=fun i r l=>(W i r l).1.length
      let cell:Nat→Value:=fun k=>(w.cell? ⟨b,o+k,none⟩).getD undef
      have E:∀ k,k<es.length*c.length→∃ v,w.cell? ⟨b,o+k,none⟩=some v∧v.oneCell'=true:=by
       intro k Q
       have l:k / c.length<es.length:=(eDt V).2 Q
       have L:k % c.length<c.length:=eFc _ V
       have K:=eAb l
       have hj2:k % c.length<(es[k / c.length]).length:=by rw [y _ _ K]; exact L
       obtain ⟨v,F,Y,_⟩:=p _ _ _ _ K (eAb hj2)
       have:k / c.length*c.length+k % c.length=k:=by rw [eDo]; exact Nat.div_add_mod _ _
       rw [this] at F
       exact ⟨v,F,Y⟩
      have key:=z1k.list (O:=O) (w:=w) false es b o c.length cap V hne (hO b) (by omega) (by simp) y cell (fun k Q=>?_) (fun k Q=>?_) (fun i r j d l L=>?_)
      ·rw [I] at key; exact key
      ·obtain ⟨v,F,Y⟩:=E k Q
       show ((w.cell? ⟨b,o+k,none⟩).getD undef).oneCell'=true
       rw [F]; exact Y
      ·obtain ⟨v,F,Y⟩:=E k Q
       show w.cell? ⟨b,o+k,none⟩=some ((w.cell? ⟨b,o+k,none⟩).getD undef)
       rw [F]; rfl
      ·obtain ⟨v,F,_,a3⟩:=p i r j d l L
       show z1k O w d ((w.cell? ⟨b,o+(i*c.length+j),none⟩).getD undef)
       rw [F]; exact a3
   ·cases h
  ·
   rename_i fs q
   split at h
   ·rename_i c T
    cases g:Nat.beq (P.cellsOf t) c.length with
    |false=>rw [g] at h; cases h
    |true=>
    rw [g] at h; simp only [cond_true] at h; cases h
    have g:=eAd g
    obtain ⟨Z,U,_,_,hl,M,hf⟩:=DataW.trod_struct q A
    have:=x4u (P:=P) (enc:=enc) (w:=w) (O:=O) (cs:=cs) ih (fuel:=U) fs.toList 0 ks T (by omega) (fun f hfm=>by
     obtain ⟨i,l⟩:=eDp hfm
     have B:fs[i]?=some f:=by simpa using l
     have:=hf i f B
     have H:i<Z.length:=by rw [M]; exact (eAe.1 B).1
     rw [eAb H] at this
     exact ⟨_,this⟩)
    simpa using this
   ·cases h
  ·
   rename_i m e q
   split at h
   ·rename_i c T
    cases g:Nat.beq (P.cellsOf e) c.length&&Nat.beq (P.cellsOf t) (m*c.length) with
    |false=>rw [g] at h; cases h
    |true=>
    rw [g] at h; simp only [cond_true] at h; cases h
    have g:=(Iff.of_eq (eAc _ _)).1 g|>.imp eAd eAd
    obtain ⟨Z,U,_,_,hl,M,hf⟩:=DataW.trod_array q A
    have:=w34 (P:=P) (enc:=enc) (w:=w) (O:=O) (cs:=cs) ih (fuel:=U) T g.1 m 0 (by omega) (fun i _ l=>by
     have:=hf i (by omega)
     have H:i<Z.length:=by omega
     rw [eAb H] at this
     exact ⟨_,this⟩)
    simpa using this
   ·cases h
  ·cases h
end
def y5c (P:Program) (t:TypeId):Bool:=match P.underlying t with
 |some (.struct _)=>true
 |some (.array _ _)=>true
 |_=>false
def t1o (P:Program) (n:Nat) (t:TypeId) (x:D):Prop:=
 match y5c P t,shp P n t with
 |true,some ks=>∃ ds,x= .agg ds∧DKs ks ds
 |false,some [k]=>DK k x
 |_,_=>False
def u4a (P:Program) (n:Nat):List TypeId→List D→Prop
 |[],[]=>True
 |t::ts,x::xs=>t1o P n t x∧u4a P n ts xs
 |_,_=>False
def v4s (P:Program) (n:Nat) (ts:List TypeId):Bool:=ts.all fun t=>match y5c P t,shp P n t with
 |true,some _=>true
 |false,some [_]=>true
 |_,_=>false
section
variable {P:Program} {H:Type} {enc:TypeId×Value→H} {w:World} {O:Nat→Prop}
theorem u2q (hO:∀ b,¬ O b) {n:Nat} {t:TypeId} {v:Value} {r:Reach} {base:Nat} {d:DataW H} {q:List MemPlace} (m:v4s P n [t]=true) (c:Value.okWide P w r base t v) (l:DataW.Trod enc P w 0 (fun _=>true) true t v d q):∃ x,t1o P n t x∧z1k O w x v:=by
 obtain ⟨p,l⟩:=l
 simp only [v4s,List.all_cons,List.all_nil,eCu] at m
 unfold t1o
 split at m
 ·rename_i ks h g
  obtain ⟨ds,a,b⟩:=x1h hO n _ _ _ _ _ g l
  unfold y5c at h
  split at h
  ·rename_i C j
   unfold Value.okWide at c
   rw [j] at c
   obtain ⟨cs,rfl,B,_⟩:=c
   refine ⟨_,⟨ds,rfl,a⟩, .agg ds cs (by simpa [Value.cells] using b.1) fun i y o=>?_⟩
   obtain ⟨u,f,_,e⟩:=b.2 i y o
   have:cs[i]?=some u:=by simpa [Value.cells] using f
   rw [eAk,this]; exact e
  ·rename_i j
   unfold Value.okWide at c
   rw [j] at c
   obtain ⟨cs,rfl,B,_⟩:=c
   refine ⟨_,⟨ds,rfl,a⟩, .agg ds cs (by simpa [Value.cells] using b.1) fun i y o=>?_⟩
   obtain ⟨u,f,_,e⟩:=b.2 i y o
   have:cs[i]?=some u:=by simpa [Value.cells] using f
   rw [eAk,this]; exact e
  ·cases h
 ·rename_i k h g
  obtain ⟨ds,a,b⟩:=x1h hO n _ _ _ _ _ g l
  have A:=a.length
  match ds,A with
  |[x],_=>
   refine ⟨x,a.1,?_⟩
   obtain ⟨u,f,z,e⟩:=b.2 0 x rfl
   have s:v=u:=by
    cases v with
    |agg cs=>
     exfalso
     unfold Value.okWide at c
     unfold y5c at h
     cases n with
     |zero=>cases g
     |succ n=>
      simp only [shp] at g
      split at g
      all_goals (rename_i j; first|(rw [j] at c h; simp [Cell.okWide,Cell.ok,j] at c h)|cases g)
    |_=>simpa [Value.cells] using f
   rw [s]; exact e
 ·cases m
theorem w7m (hO:∀ b,¬ O b) {n:Nat} {r:Reach} {base:Nat}:∀ {ts:List TypeId} {vs:List Value} {ds:List (DataW H)} {k:List MemPlace},v4s P n ts=true→(∀ (j:Nat) t v,ts[j]?=some t→vs[j]?=some v→Value.okWide P w r base t v)→
  DataW.TrodAll enc P w 0 (fun _=>true) true ts vs ds k→∃ xs,u4a P n ts xs∧vs.length=xs.length∧∀ (i:Nat) (x:D),xs[i]?=some x→∃ v,vs[i]?=some v∧z1k O w x v
 |[],[],[],_,_,_,_=>⟨[],trivial,rfl,fun i x h=>by simp at h⟩
 |[],[],_::_,_,_,_,h=>by simp [DataW.TrodAll] at h
 |[],_::_,_,_,_,_,h=>by simp [DataW.TrodAll] at h
 |_::_,[],_,_,_,_,h=>by simp [DataW.TrodAll] at h
 |_::_,_::_,[],_,_,_,h=>by simp [DataW.TrodAll] at h
 |t::ts,v::vs,d::ds,k,l,c,h=>by
  obtain ⟨p,q,g,f,_⟩:=h
  have a:v4s P n [t]=true∧v4s P n ts=true:=by
   simp only [v4s,List.all_cons,List.all_nil,eCu,eAc] at l⊢
   exact l
  obtain ⟨x,z,u⟩:=u2q hO a.1 (c 0 t v rfl rfl) g
  obtain ⟨xs,s,o,m⟩:=w7m hO a.2 (fun j t v g f=>c (j+1) t v (by simpa using g) (by simpa using f)) f
  refine ⟨x::xs,⟨z,s⟩,by simp [o],fun i y e=>?_⟩
  match i,e with
  |0,e=>cases e; exact ⟨v,rfl,u⟩
  |i+1,e=>simpa using m i y (by simpa using e)
structure y7s (w w':World):Prop where
 os:w'.os=w.os
 tape:w'.tape=w.tape
 output:w'.output=w.output
 size:w.heap.size≤w'.heap.size
 block:∀ b,b<w.heap.size→w'.heap[b]?=w.heap[b]?
theorem v4l (l:List D):(toA l).length=l.length:=by
 induction l with
 |nil=>rfl
 |cons x l a=>simp [toA,a]
theorem x2c {g:FuncId} {args:Array Value} {xs:List D} {b:Bool} {h':List AO} (A:z3m P g (toA xs) [] (.d (.bool b)) h') (t:args.toList.length=xs.length)
  (r:∀ (i:Nat) (x:D),xs[i]?=some x→∃ v,args.toList[i]?=some v∧z1k (fun _=>False) w x v) (hg:GL P (fun _=>False) w):Calls P g args w fun e w'=>e= .returned (.bool b)∧y7s w w':=by
 intro cs
 let k:Rho:=⟨fun _=>none,fun _=>False⟩
 have a:z0d k []=fun _=>False:=by
  funext c
  apply propext
  refine ⟨fun h=>?_,False.elim⟩
  rcases h with h|⟨id,L,f,_⟩
  ·exact h
  ·cases f
 have l:z0b P k [] w:=⟨fun id L f=>(by cases f),fun id q L E f=>(by cases f),fun b z=>z.elim,fun id L f=>(by cases f),a▸hg⟩
 obtain ⟨ρ',v,w',fr,s1,p,o,n,C,B,j⟩:=A.run k args w cs l (fun id hid=>absurd rfl hid) ⟨by rw [v4l, ←t]; simp,fun i x m=>by
  rw [z1l] at m
  obtain ⟨d,u,rfl⟩:=eBm.1 m
  obtain ⟨v,s,l⟩:=r i d u
  rw [a,eAk]
  have:args[i]?=some v:=by simpa using s
  rw [this]; exact .d l⟩
 refine ⟨.returned v,w',fr,⟨?_,j.os,j.tape,j.output,j.keep.size,fun c y=>j.keep.frame c y ?_⟩,s1,p,o⟩
 ·cases n with
  |d h=>cases h; rfl
 ·rw [a]; exact id
theorem y7s.at {w':World} (h:y7s w w') {p:MemPlace} (a:p.block<w.heap.size):w.sameAt w' p:=by
 cases p with
 |cell b off=>
  show w'.cell? _=w.cell? _
  exact z2m (h.block b a)
 |map b=>exact h.block b a
theorem y29 {w w':World} {sp:Nat→Bool} {e:Bool}:∀ {ts:List TypeId} {vs:List Value} {ds:List (DataW H)} {a:List MemPlace},DataW.TrodAll enc P w 0 sp e ts vs ds a→(∀ p∈a,w.sameAt w' p)→DataW.TrodAll enc P w' 0 sp e ts vs ds a
 |[],[],[],_,h,_=>h
 |[],[],_::_,_,h,_=>by simp [DataW.TrodAll] at h
 |[],_::_,_,_,h,_=>by simp [DataW.TrodAll] at h
 |_::_,[],_,_,h,_=>by simp [DataW.TrodAll] at h
 |_::_,_::_,[],_,h,_=>by simp [DataW.TrodAll] at h
 |t::ts,v::vs,d::ds,a,h,c=>by
  obtain ⟨p,q,⟨n,g⟩,f,rfl⟩:=h
  exact ⟨p,q,⟨n,DataW.trod_carry n _ _ _ g fun x b=>c x (by simp [b])⟩,y29 f fun x b=>c x (by simp [b]),rfl⟩
theorem w17 {w':World} {d:MemPlace→Prop} (h:y7s w w'):w.keptBut w' d:=by
 refine ⟨h.os,h.output,fun i f=>?_⟩
 rw [h.block i f]
 split
 ·rename_i c t fr l k g e a
  rw [e] at a; cases a
  exact ⟨rfl,rfl,rfl,fun _ _=>rfl⟩
 ·rename_i es clock j b e a
  rw [e] at a; cases a
  exact .inr ⟨rfl,rfl⟩
 ·rfl
theorem y5p {sp:Nat→Bool} {b:Bool}:∀ {ts:List TypeId} {vs:List Value} {ds:List (DataW H)} {a:List MemPlace},DataW.TrodAll enc P w 0 sp b ts vs ds a→ds.length=ts.length
 |[],[],[],_,_=>rfl
 |[],[],_::_,_,h=>by simp [DataW.TrodAll] at h
 |[],_::_,_,_,h=>by simp [DataW.TrodAll] at h
 |_::_,[],_,_,h=>by simp [DataW.TrodAll] at h
 |_::_,_::_,[],_,h=>by simp [DataW.TrodAll] at h
 |t::ts,v::vs,d::ds,a,h=>by
  obtain ⟨p,q,_,c,_⟩:=h
  simp [y5p c]
theorem w9p {f:Func} {s:ChangeSpec} {W u:World} {args:Array Value} {ds L:List (DataW H)} {g:List MemPlace} {E:TypeId}
  (O:laidOutB P=true) (hm:mapsRowed P=true) (A:((List.range P.types.size).all fun t=>match P.underlying t with|some (.slice e)=>decide (0<P.cellsOf e)|_=>true)=true)
  (z:f.params.toList.all (fun t=>decide (t<P.types.size))=true) (G:s.vars=[]) (o:f.resultTypes=#[E]) (k:P.underlying E=some .bool)
  (C:∀ ds:List (DataW H),ds.length=f.params.toList.length→(s.fn H ds).results=[.lit (.bool true)]∧(s.fn H ds).args=ds∧(s.fn H ds).vars=[])
  (J:DataW.Whole enc P f.params.toList s.vars false W args.toList ds L g) (h:y7s W u):s.post enc P f false true false false W args (.bool true) u:=by
 have l:=J
 obtain ⟨p,q,K,w,rfl,F,_⟩:=J
 rw [G] at w
 have d:=l.lt
 match L,w with
 |[],w=>
 have N:q=[]:=w
 subst N
 simp only [eCp] at d F l
 obtain ⟨U,T,S⟩:=C ds (y5p K)
 have i:∀ (b:Nat) (sp:Nat→Bool) (I:Bool),DataW.TrodAll enc P u b sp I f.resultTypes.toList ((Value.bool true).resultList f.resultTypes.size) (s.fn H (ds++[])).results []:=by
  intro b sp I
  rw [eCp,U,o]
  exact ⟨[],[],⟨1,by simp [DataW.trod,k,Value.cells]⟩,rfl,rfl⟩
 have c:∀ sp:Nat→Bool,(∀ x∈p,sp x.block=true)→DataW.TrodAll enc P u 0 sp true f.params.toList args.toList (s.fn H (ds++[])).args p:=by
  intro sp B
  rw [eCp,T]
  exact (y29 K fun x n=>h.at (d x n)).respare (kids_rows O hm) (slices_full_of P A) (fun t M=>by simpa using eAx.1 z t M) B
 have a:∀ sp:Nat→Bool,DataW.TrodVars enc P u sp s.vars (s.fn H (ds++[])).vars []:=by
  intro sp; rw [eCp,S,G]; rfl
 refine ⟨ds,[],p,[],p,[],l,i _ _ _,c _ (fun x n=>by simpa using d x n),a _,w17 h,fun _=>?_⟩
 refine ⟨?_,_,_,([]++p)++[],⟨[]++p,[],trodAll_append (c _ (fun _ _=>rfl)) (i _ _ _),a _,rfl,?_,?_⟩,?_⟩
 ·intro j t r m y
  rw [o] at m y
  match j,m,y with
  |0,m,y=>
   simp at m; subst m
   have:r= .bool true:=by simpa [Value.resultList] using y.symm
   subst this
   unfold Value.okWide
   rw [k]
   simp [Cell.okWide,Cell.ok,k]
  |j+1,m,_=>simp at m
 ·intro b off v
  have v:MemPlace.cell b off∈p:=by simpa using v
  have:=F b off v
  have Q:=h.block b (d _ v)
  unfold World.frozen? at this⊢
  simp only at this⊢
  rw [Q]; exact this
 ·intro R; cases R
 ·intro x n _
  simpa using n
end
end Go.Am
end
section
namespace Go.Am
theorem y3r {β:Type} (c:Bool) (x:Option β):opt.need β c x=if c=true then x else none:=by cases c<;>rfl
theorem x0p {β:Type} (c:Bool) (x y:Option β):opt.ask β c x y=if c=true then x else y:=by cases c<;>rfl
theorem y89 {β:Type} (x:β):opt.ret β x=some x:=rfl
theorem v5g {β:Type} (n:Nat):opt.no β n=none:=rfl
theorem x0h {α β:Type} (x:Option α) (f:α→Option β):opt.bnd α β x f=x.bind f:=rfl
theorem y88 {β:Type} (x:Option β):opt.run β x=x:=rfl
theorem w0q {α β γ:Type} (x:Option (α⊕β)) (f:α→Option γ) (g:β→Option γ):opt.alt α β γ x f g=x.bind (Sum.elim f g):=by
 cases x with
 |none=>rfl
 |some y=>cases y<;>rfl
section
variable (es l:List (List D)) (i j a b n:Nat) (x y:Int) (c d:Bool)
theorem y1q:std.len es=es.length:=rfl
theorem z6w:std.ofNat n=(n:Int):=rfl
theorem x07:std.nat x=x.toNat:=rfl
theorem y54:std.add a b=a+b:=rfl
theorem y3j:std.leN a b=decide (a≤b):=by
 show Nat.ble a b=_
 rw [eBx]; simp
theorem x08:std.eqN a b=decide (a=b):=by
 show Nat.beq a b=_
 rw [eBx]; simp
theorem y3k:std.and c d=(c&&d):=rfl
theorem x09:std.app es l=es++l:=rfl
theorem y53:std.cut es a n=(es.drop a).take n:=rfl
theorem x6f:std.rdI es i j=dI (rdD es i j):=rfl
theorem z47:std.rdB es i j=dB (rdD es i j):=rfl
theorem w3x:std.rdL es i j=dL (rdD es i j):=rfl
theorem x6g:std.cmp .eql x y=decide (x=y):=rfl
theorem x06:std.cmp .neq x y=!decide (x=y):=rfl
theorem z7v:std.cmp .lss x y=decide (x<y):=rfl
theorem w3y:std.cmp .leq x y=decide (x≤y):=rfl
theorem y1r:std.cmp .geq x y=decide (x≥y):=rfl
theorem w8r:std.mm .lss x y=min x y:=by
 show (if y<x then y else x)=_
 omega
theorem w8s:std.mm .gtr x y=max x y:=by
 show (if y>x then y else x)=_
 omega
theorem y52 (a:List CK):std.rowOk es i a=match es[i]? with|some r=>z2b a r|none=>false:=rfl
theorem w0k {α:Type} (u v:α):(bif c then u else v)=if c=true then u else v:=by cases c<;>rfl
theorem y8z (b: -9223372036854775808≤x) (a:x≤9223372036854775807):IntKind.i64.wrap x=x:=by
 have e:IntKind.i64.wrap x=if x % 18446744073709551616≥9223372036854775808 then x % 18446744073709551616 - 18446744073709551616 else x % 18446744073709551616:=by
  unfold IntKind.wrap
  simp [IntKind.signed,IntKind.bits]
 rw [e]
 split<;>omega
theorem z79:std.ar .add .i64 x y=IntKind.i64.wrap (x+y):=rfl
theorem z3o:std.ar .sub .i64 x y=IntKind.i64.wrap (x - y):=rfl
theorem w1b:std.ar .quo .i64 x y=IntKind.i64.wrap (x.tdiv y):=rfl
theorem w1a:std.ar .rem .i64 x y=x.tmod y:=rfl
end
end Go.Am
namespace Go.Am
theorem v56 {S R σ:Type} {b:S→Option (S⊕R)} (e:σ→S) (I:σ→Prop) (μ:σ→Nat) (Q:R→Prop)
  (step:∀ s,I s→(∃ s',b (e s)=some (.inl (e s'))∧I s'∧μ s'<μ s)∨(∃ r,b (e s)=some (.inr r)∧Q r)):∀ s,I s→∃ r,z1e b (e s)=some r∧Q r:=by
 have:∀ m s,μ s=m→I s→∃ r,z1e b (e s)=some r∧Q r:=by
  intro m
  induction m using Nat.strongRecOn with
  |_ m g=>
   intro s hm c
   rcases step s c with ⟨s',f,d,h⟩|⟨r,f,d⟩
   ·obtain ⟨r,a,b⟩:=g (μ s') (hm▸h) s' rfl d
    exact ⟨r,by rw [z13,f]; exact a,b⟩
   ·exact ⟨r,by rw [z13,f],d⟩
 exact fun s c=>this _ s rfl c
theorem z09 {S R τ:Type} {b:S→Option (S⊕R)} (n:Nat) (e:τ→Nat→S) (I:τ→Nat→Prop) (Q:R→Prop)
  (step:∀ t i,i<n→I t i→(∃ d,b (e t i)=some (.inl (e d (i+1)))∧I d (i+1))∨(∃ r,b (e t i)=some (.inr r)∧Q r))
  (stop:∀ t,I t n→∃ r,b (e t n)=some (.inr r)∧Q r) (t:τ) (i:Nat) (f:i≤n) (h:I t i):∃ r,z1e b (e t i)=some r∧Q r:=by
 refine v56 (σ:=τ×Nat) (fun s=>e s.1 s.2) (fun s=>s.2≤n∧I s.1 s.2) (fun s=>n - s.2) Q ?_ (t,i) ⟨f,h⟩
 rintro ⟨t,i⟩ ⟨f,h⟩
 simp only at f h⊢
 rcases eCf i n with c|g
 ·rcases step t i c h with ⟨d,a,b⟩|⟨r,a,b⟩
  ·exact .inl ⟨(d,i+1),a,⟨c,b⟩,by simp only; omega⟩
  ·exact .inr ⟨r,a,b⟩
 ·have:i=n:=by omega
  subst this
  exact .inr (stop t h)
theorem x18 {α:Type} {l:List α} {i:Nat} {m:α} (h:l[i]?=some m):l.drop i=m::l.drop (i+1):=by
 obtain ⟨b,a⟩:=eAa.1 h
 rw [List.drop_eq_getElem_cons b,a]
theorem z0i {α:Type} {l:List α} {i:Nat} (h:i<l.length):∃ m,l[i]?=some m:=⟨_,eAb h⟩
theorem z8w {i:Nat} (h:i<9223372036854775807):IntKind.i64.wrap ((i:Int)+1)=((i+1:Nat):Int):=by
 rw [y8z]<;>omega
end Go.Am
end
section
namespace Go.Am
theorem z0q:(∀ {α:Type} (a:α),(a=a)=True)∧((¬ True)=False)∧((¬ False)=True)∧(∀ h:Decidable True,@decide True h=true)∧(∀ h:Decidable False,@decide False h=false)∧((!true)=false)∧((!false)=true)∧
  (∀ {α:Type} (a b:α),(bif true then a else b)=a)∧(∀ {α:Type} (a b:α),(bif false then a else b)=b)∧(∀ a b:Int,(a≥b)=(b≤a))∧(∀ a b:Int,(a>b)=(b<a))∧(∀ x y:Int,std.ar .add .i64 x y=IntKind.i64.wrap (x+y)):=
 ⟨by simp,by simp,by simp,by simp,by simp,rfl,rfl,by simp,by simp,fun _ _=>rfl,fun _ _=>rfl,fun _ _=>rfl⟩
theorem z0k:(∀ {β:Type} (c:Bool) (x:Option β),opt.need β c x=if c=true then x else none)∧(∀ {β:Type} (c:Bool) (x y:Option β),opt.ask β c x y=if c=true then x else y)∧
    (∀ {β:Type} (x:β),opt.ret β x=some x)∧(∀ {β:Type} (n:Nat),opt.no β n=none)∧(∀ {α β:Type} (x:Option α) (f:α→Option β),opt.bnd α β x f=x.bind f)∧(∀ {β:Type} (x:Option β),opt.run β x=x)∧
    (∀ {α β γ:Type} (x:Option (α⊕β)) (f:α→Option γ) (g:β→Option γ),opt.alt α β γ x f g=x.bind (Sum.elim f g))∧
    (∀ es,std.len es=es.length)∧(∀ n,std.ofNat n=(n:Int))∧(∀ x,std.nat x=x.toNat)∧(∀ a b,std.add a b=a+b)∧(∀ a b,std.leN a b=decide (a≤b))∧(∀ a b,std.eqN a b=decide (a=b))∧
    (∀ c d,std.and c d=(c&&d))∧(∀ es l,std.app es l=es++l)∧(∀ es a n,std.cut es a n=(es.drop a).take n)∧
    (∀ x y,std.cmp .lss x y=decide (x<y))∧(∀ x y,std.cmp .leq x y=decide (x≤y))∧(∀ x y,std.cmp .gtr x y=decide (x>y))∧(∀ x y,std.cmp .geq x y=decide (x≥y))∧(∀ x y,std.cmp .eql x y=decide (x=y))∧(∀ x y,std.cmp .neq x y=!decide (x=y))∧
    (∀ es i j,std.rdI es i j=dI (((es[i]?).bind (fun r=>r[j]?)).getD .nilp))∧(∀ es i j,std.rdL es i j=dL (((es[i]?).bind (fun r=>r[j]?)).getD .nilp))∧
    (∀ es i e,std.rowOk es i e=match es[i]? with|some r=>z2b e r|none=>false)∧(∀ k x,std.cvt k x=k.wrap x)∧(∀ a b,std.sub a b=a - b)∧(∀ a b,std.mul a b=a*b)∧(∀ a b,std.min a b=min a b)∧
    (∀ x y,std.mm .lss x y=min x y)∧(∀ x y,std.mm .gtr x y=max x y)∧(∀ n r,std.rep n r=List.replicate n r)∧(∀ es i r,std.set es i r=es.set i r)∧(∀ es i l,std.splice es i l=es.take i++l++es.drop (i+l.length))∧
    (∀ n,Int.ofNat n=(n:Int))∧(∀ {α:Type} (c:Bool) (u v:α),(bif c then u else v)=if c=true then u else v)∧(∀ es i j,rdD es i j=((es[i]?).bind (fun r=>r[j]?)).getD .nilp):=
  ⟨y3r,x0p,y89,v5g,x0h,y88,w0q,fun _=>rfl,fun _=>rfl,fun _=>rfl,fun _ _=>rfl,y3j,x08,fun _ _=>rfl,fun _ _=>rfl,fun _ _ _=>rfl,
   fun _ _=>rfl,fun _ _=>rfl,fun _ _=>rfl,fun _ _=>rfl,fun _ _=>rfl,fun _ _=>rfl,fun _ _ _=>rfl,fun _ _ _=>rfl,fun _ _ _=>rfl,fun _ _=>rfl,fun _ _=>rfl,fun _ _=>rfl,fun _ _=>rfl,
   w8r,w8s,fun _ _=>rfl,fun _ _ _=>rfl,fun _ _ _=>rfl,fun _=>rfl,fun c u v=>w0k c u v,fun _ _ _=>rfl⟩
theorem z0l:(∀ {α β:Type} (f:α→β) (l:List α) (i:Nat),(l.map f)[i]?=Option.map f l[i]?)∧(∀ {α β:Type} (x:α) (f:α→β),Option.map f (some x)=some (f x))∧(∀ {α β:Type} (x:α) (f:α→Option β),(some x).bind f=f x)∧
  (∀ {α β:Type} (f:α→Option β),(none:Option α).bind f=none)∧(∀ {α:Type} (a b:α),(some a).getD b=a)∧(∀ {α β γ:Type} (f:α→γ) (g:β→γ) (x:α),Sum.elim f g (.inl x)=f x)∧(∀ {α β γ:Type} (f:α→γ) (g:β→γ) (x:β),Sum.elim f g (.inr x)=g x)∧
  (∀ {p:Prop} [Decidable p],(decide p=true)=p)∧(∀ h:Decidable True,@decide True h=true)∧(∀ h:Decidable False,@decide False h=false)∧(∀ b,(b&&true)=b)∧(∀ b,(true&&b)=b)∧((!true)=false)∧((!false)=true)∧
  (∀ b,((!b)=true)=(b=false))∧(∀ {p:Prop} [Decidable p],(decide p=false)↔¬ p)∧((false=true)=False)∧(∀ {α:Type} {_:Decidable True} (a b:α),(if True then a else b)=a)∧(∀ {α:Type} {_:Decidable False} (a b:α),(if False then a else b)=b)∧
  (∀ {α β:Type} (f:α→β) (l:List α),(l.map f).length=l.length)∧(∀ n:Nat,((n:Int)).toNat=n)∧(∀ {α:Type} (a:α) (l:List α),(a::l).length=l.length+1)∧(∀ {α:Type},([]:List α).length=0)∧(∀ n:Nat,0+n=n):=
 ⟨by simp,by simp,by simp,by simp,by simp,by simp,by simp,by simp,by simp,by simp,by simp,by simp,rfl,rfl,by simp,by simp,by simp,by simp,by simp,by simp,by simp,by simp,by simp,by simp⟩
end Go.Am
end
section
namespace Go.Am
def le {β:Type} (a b:Option β):Prop:=∀ r,a=some r→b=some r
theorem le_refl {β:Type} (a:Option β):le a a:=fun _ h=>h
end Go.Am
end
noncomputable section
namespace Go.Am
theorem follows_mixed:Go.Proofs.Tryz.prog.follows .mixedOrders=true:=by kernel_rfl
abbrev LD := List (List D)
abbrev ci : CK := .int .i64
theorem gN {P : Program} : GamOk P [] := fun _ h => by cases h
theorem gC {P : Program} {c : Ctr} {F : Prim → Tup c.scs → Option (STup (scss c.outs))} {l : List CF} (h : CtrOk P c (F std)) (k : GamOk P l) : GamOk P (⟨c, F⟩ :: l) := fun cf hm => by
 rcases eAm.1 hm with rfl | hm
 · exact h
 · exact k cf hm
theorem okF {E : Env} (hE : EnvOk PG E) {c : Ctr} {a : Anns} {l : List LA} {F : Prim → Tup c.scs → Option (STup (scss c.outs))} (hg : GamOk PG a.Γ) (he : (infoOf PG c.g).isSome = true := by kernel_rfl) (h : ∀ (p : Prim) x, bodyRun opt p E (mkOrc opt p E 400 a l) 400 c x = F p x := by intro _ _; kernel_rfl) : CtrOk PG c (F std) :=
 ctr_of_body hE (mkOrc_ok hE hg _) (enters_auto (b := _) rfl he) fun x => h std x
theorem vD : EnvOk PG (autoEnvD [] PG) := autoEnvD_ok follows_mixed
theorem vE1000003 : EnvOk PG (autoEnvE [1000003] PG) := autoEnvE_ok follows_mixed
theorem vE : EnvOk PG (autoEnvE [] PG) := autoEnvE_ok follows_mixed

abbrev o0m : OT := .box [.int .i64, .int .i64, .list 1, .int .i64]
abbrev o1m : OT := .box [.str, .int .i64, .int .i64, .int .i64]
abbrev o2m : OT := .row [(CK.int .u64), (CK.int .u64)]
abbrev o3m : OT := .box [.sl 1 4, .map 2, .full 3 2]
abbrev o4m : OT := .box [.sl 2 4, .map 3, .full 4 2]
abbrev o5m : OT := .row [ci, ci, (CK.list 1), ci]
abbrev o6m : OT := .box [.sl 1 4, .map 2, .nils]
abbrev o7m : OT := .box [.int .u64, .int .u64]
abbrev o8m : OT := .row [(CK.list 1)]
abbrev o9m : OT := .box [.int .i64]
abbrev o10m : OT := .box [.bptr 0 0]
abbrev o11m : OT := .row [CK.bool]
abbrev o12m : OT := .row [ci]
abbrev o13m : List OT := [o4m, .map, o5m, .map, o2m]
abbrev o14m : List OT := [o3m, o5m, .map, o2m]
abbrev o15m : List OT := [o12m, o8m, o12m]
abbrev o16m : List OT := [o6m, o5m, .map]
abbrev o17m : List OT := [.map, o8m, o0m]
abbrev o18m : List OT := [o11m, o5m]
abbrev o19m : List OT := [o9m, o9m]
abbrev tU := true
abbrev fU := false
abbrev V1v := (Int×Unit)
abbrev V0v := (Int×V1v)
abbrev V39v := (LD×V0v)
abbrev V2v := (Int×(Int×V39v))
abbrev V34v := (D×D)
abbrev V6v := (Int×V0v)
abbrev V44v := (Int×V6v)
abbrev V15v := (Int×(Int×(Int×V44v)))
abbrev V3v := (LD×(List (V34v)×(LD×(LD×(Nat×(Nat×(Int×(Int×V15v))))))))
abbrev V4v := (Bool×Unit)
abbrev V20v := (LD×(Int×(Int×(LD×V2v))))
abbrev V5v := (List (V34v)×(LD×(List (V34v)×(LD×(Nat×(Nat×(Int×V20v)))))))
abbrev V16v := (Nat×(Nat×Unit))
abbrev V7v := (LD×(List (V34v)×(LD×V16v)))
abbrev V8v := (LD×V39v)
abbrev V9v := (List (V34v)×(LD×(List (V34v)×(LD×(Nat×(Nat×(LD×V2v)))))))
abbrev V10v := (LD×Unit)
abbrev V11v := (LD×V1v)
abbrev V35v := (LD×(LD×V6v))
abbrev V12v := (LD×(LD×V35v))
abbrev V13v := (LD×(List (V34v)×(Nat×(Nat×(LD×(LD×V2v))))))
abbrev V14v := (ByteArray×V6v)
abbrev V17v := (LD×(List (V34v)×(LD×(Nat×(Nat×(Int×(Int×(LD×(Int×V39v)))))))))
abbrev V18v := (Int×(Int×V11v))
abbrev V19v := (LD×V11v)
abbrev V21v := (LD×(List (V34v)×(LD×(LD×V16v))))
abbrev V22v := (LD×(List (V34v)×(LD×(Nat×(Nat×(Int×V44v))))))
abbrev V36v := (Nat×(Nat×(Nat×V1v)))
abbrev V23v := (LD×(Nat×(Nat×(Nat×(Int×V36v)))))
abbrev V24v := (Int×(Int×(LD×(Int×V2v))))
abbrev V25v := (LD×V10v)
abbrev V26v := (LD×(List (V34v)×(LD×(Nat×(Nat×V39v)))))
abbrev V27v := (LD×(LD×(LD×(LD×(Int×(Int×(Bool×V1v)))))))
abbrev V28v := (LD×(List (V34v)×(LD×(Nat×(Nat×V0v)))))
abbrev V29v := (Int×V4v)
abbrev V30v := (LD×(LD×V8v))
abbrev V31v := (LD×(Nat×V16v))
abbrev V32v := (List (V34v)×(LD×(Int×(Int×V20v))))
abbrev V33v := (List (V34v)×(LD×(Int×(LD×V2v))))
abbrev V37v := (List (V34v)×(LD×V8v))
abbrev V38v := (LD×V19v)
abbrev V40v := (Int×V29v)
abbrev V41v := (Int×(Int×(LD×V29v)))
abbrev V42v := (Int×(Int×(LD×V6v)))
abbrev V43v := (Int×(Int×V10v))
abbrev V45v := (Int×(Int×(LD×(Int×V18v))))
abbrev V46v := (ByteArray×Unit)
abbrev V47v := (LD×(List (V34v)×(LD×(LD×(Nat×(Nat×V44v))))))
abbrev V48v := (LD×(List (V34v)×(LD×(LD×(Nat×(Nat×V15v))))))
abbrev V49v := (LD×(Int×(Int×(LD×(Int×(Nat×(Nat×V39v)))))))
abbrev V50v := (Int×(Int×(LD×(Int×(ByteArray×(Int×V40v))))))
abbrev V51v := (List (V34v)×V39v)
abbrev V52v := (List (V34v)×V20v)
abbrev V53v := (List (V34v)×Unit)
abbrev V54v := (List (V34v)×V8v)
abbrev V55v := (Nat×(Nat×V8v))
end Go.Am
end
noncomputable section
namespace Go.Am
def w6f:Ctr:=
 ⟨109,[.slc 0 1],[o12m],[(.ret,⟨[(0, .slc 0 1)],[o12m],1⟩)]⟩
def u7e:List LA:=
 [⟨109,[fU,tU,fU,tU,tU],1,⟨⟨[(0, .slc 0 1),(3, .int .i64)],[o12m],61⟩,[(AX.ret,⟨[(2, .slc 0 1)],[o12m],61⟩),((AX.exit 0),⟨[(0, .slc 0 1)],[o12m],61⟩)]⟩⟩,
 ⟨109,[fU,tU,fU,tU,fU,tU,fU,fU,tU,fU,fU,tU,fU,tU,tU],1,⟨⟨[(0, .slc 0 1),(3, .int .i64),(4, .slc 0 1),(5, .int .i64)],[o12m],61⟩,[((AX.exit 2),⟨[(0, .slc 0 1),(3, .int .i64)],[o12m],61⟩)]⟩⟩]
def u7p:List JA:=
 [⟨109,[tU,fU,fU,tU,fU,fU,tU,fU,tU,fU,tU,fU,fU,tU,fU,fU,tU,fU,tU,tU],1,[(AX.normal,⟨[(0, .slc 0 1),(3, .int .i64),(4, .slc 0 1),(5, .int .i64)],[o12m],61⟩)]⟩]
def u0c:List CF:=
 []
def t04:Anns:=
 ⟨u0c,u7p,[]⟩
def x0n (p:Prim):V23v→Option (V23v⊕(LD×V36v)):=
 fun a=>let A:=a.2.2.2.2.2.2.2.2.1;let F:=p.ofNat a.2.2.2.2.2.2.1;let B:=bif (p.cmp .geq A (0:Int)) then (p.cmp .lss A F) else Bool.false;let C:=p.add a.2.2.2.2.2.1 (p.nat A);let E:=p.ar .sub .i64 A (1:Int);let G:=a.2.2.2.2.1;let H:=p.add a.2.2.2.2.2.1 (p.nat E);let I:=p.add a.2.1 (p.nat G); opt.run _ (
 opt.ask _ (p.cmp .lss A F) (
 opt.need _ B<|
 opt.need _ (p.rowOk a.1 C [ci])<|
 opt.need _ (bif (p.cmp .geq E (0:Int)) then (p.cmp .lss E F) else Bool.false)<|
 opt.need _ (p.rowOk a.1 H [ci])<|
 opt.bnd (V23v) _ (
 opt.run (V23v) (
 opt.ask _ (p.cmp .neq (p.rdI a.1 C 0) (p.rdI a.1 H 0)) (
 opt.need _ B<|
 opt.need _ (p.rowOk a.1 C [ci])<|
 opt.need _ (bif (p.cmp .geq G (0:Int)) then (p.cmp .lss G (p.ofNat a.2.2.1)) else Bool.false)<|
 opt.need _ (p.rowOk a.1 I [ci])<|
 opt.ret _ ((p.set a.1 I [(D.int .i64 (p.rdI a.1 C 0))]),(a.2.1,(a.2.2.1,(a.2.2.2.1,((p.ar .add .i64 G (1:Int)),a.2.2.2.2.2)))))) (
 opt.ret _ a))) fun b=>
 opt.ret _ (Sum.inl (b.1,(b.2.1,(b.2.2.1,(b.2.2.2.1,(b.2.2.2.2.1,(b.2.2.2.2.2.1,(b.2.2.2.2.2.2.1,(b.2.2.2.2.2.2.2.1,((p.ar .add .i64 b.2.2.2.2.2.2.2.2.1 (1:Int)),()))))))))))) (
 opt.ret _ (Sum.inr (a.1,(a.2.1,(a.2.2.1,(a.2.2.2.1,(G,()))))))))
def x0o (p:Prim):(LD×V36v)→Option ((LD×V36v)⊕(V31v⊕V31v)):=
 fun a=>let A:=a.2.2.2.2.1;let B:=p.ofNat a.2.2.1;let C:=p.ar .sub .i64 A (1:Int);let G:=(0:Int);let H:=p.add a.2.1 (p.nat A);let J:=a.2.2.2.1;let K:=p.add a.2.1 (p.nat C); opt.run _ (
 opt.ask _ (p.cmp .lss A B) (
 opt.need _ (bif (p.cmp .geq A G) then (p.cmp .lss A B) else Bool.false)<|
 opt.need _ (p.rowOk a.1 H [ci])<|
 opt.need _ (bif (p.cmp .geq C G) then (p.cmp .lss C B) else Bool.false)<|
 opt.need _ (p.rowOk a.1 K [ci])<|
 opt.ask _ (p.cmp .eql (p.rdI a.1 H 0) (p.rdI a.1 K 0)) (
 opt.need _ (p.and (p.cmp .geq A G) (p.and (p.cmp .leq A B) (p.cmp .leq B B)))<|
 opt.bnd ((LD×V36v)) _ (
 z1e (x0n p) (a.1,(a.2.1,(a.2.2.1,(J,(A,(H,((p.sub (p.nat B) (p.nat A)),((p.sub J (p.nat A)),((1:Int),())))))))))) fun b=>let E:=p.ofNat b.2.2.1;let F:=b.2.2.2.2.1;let I:=p.nat F;
 opt.need _ (p.and (p.cmp .geq F G) (p.and (p.cmp .leq F E) (p.cmp .leq E E)))<|
 opt.need _ (p.leN (p.add (p.add b.2.1 I) (p.sub (p.nat E) I)) (p.len b.1))<|
 opt.need _ (p.and (p.cmp .geq G G) (p.and (p.cmp .leq G F) (p.cmp .leq F E)))<|
 opt.ret _ (Sum.inr (Sum.inl ((p.splice b.1 (p.add b.2.1 I) (p.rep (p.sub (p.nat E) I) [(D.int .i64 G)])),((p.add b.2.1 (p.nat G)),((p.sub I (p.nat G)),((p.sub b.2.2.2.1 (p.nat G)),()))))))) (
 opt.ret _ (Sum.inl (a.1,(a.2.1,(a.2.2.1,(J,((p.ar .add .i64 A (1:Int)),())))))))) (
 opt.ret _ (Sum.inr (Sum.inr (a.1,(a.2.1,(a.2.2.1,(J,()))))))))
def w77:(p:Prim)→V31v→Option (V31v):=
 fun p x=>
 opt.ask _ (p.cmp .lss (p.ofNat x.2.2.1) (2:Int)) (
 opt.ret _ x) (
 opt.alt (V31v) (V31v) _ (
 z1e (x0o p) (x.1,(x.2.1,(x.2.2.1,(x.2.2.2.1,((1:Int),())))))) (fun a=>
 opt.ret _ a) (fun b=>
 opt.bnd (V31v) _ (some b) fun c=>
 opt.ret _ c))
theorem v5d:CtrOk PG w6f (w77 std):=okF vE (a:=t04) (l:=u7e) (gN)
def u1m:Ctr:=
 ⟨57,[.list 1],[],[(.ret,⟨[(0, .list 1)],[],1⟩)]⟩
def t17:List LA:=
 []
def ja57:List JA:=
 []
def v6o:List CF:=
 [⟨w6f,w77⟩,⟨x0b,u5e⟩]
def t2h:Anns:=
 ⟨v6o,ja57,[]⟩
def G57:(p:Prim)→V10v→Option (V10v):=
 fun p x=>let A:=p.ofNat (p.len x.1);let C:=p.nat A;let B:=p.rep C [(D.int .i64 (0:Int))];let E:=p.eqN C (p.len (p.splice B 0 x.1));
 opt.need _ (p.and (p.cmp .geq A (0:Int)) (p.and (p.cmp .leq A A) (p.cmp .leq A (1000000:Int))))<|
 opt.need _ (p.and Bool.true (p.and (p.leN (p.len x.1) C) (p.leN (p.add 0 C) (p.len B))))<|
 opt.need _ (p.eqN 0 0)<|
 opt.need _ E<|
 opt.need _ E<|
 opt.bnd (V10v) _ (v4e p ((p.splice B 0 x.1),())) fun a=>
 opt.bnd (V31v) _ (w77 p (a.1,(0,(C,(C,()))))) fun b=>
 opt.need _ (p.leN (p.add b.2.1 b.2.2.1) (p.len b.1))<|
 opt.ret _ ((p.cut b.1 b.2.1 b.2.2.1),())
theorem u8d:GamOk PG (v6o):=by
 intro cf h
 simp only [v6o,eAm,eBg,or_false] at h
 rcases h with rfl|rfl
 ·exact v5d
 ·exact w9b
theorem u6j:CtrOk PG u1m (G57 std):=okF vE (a:=t2h) (l:=t17) (gC v5d (gC w9b (gN)))
def v7g:Ctr:=
 ⟨55,[.int .i64],[],[(.ret,⟨[(0, .agg [.str, .int .i64, .int .i64, .int .i64])],[],1⟩)]⟩
def la55:List LA:=
 []
def ja55:List JA:=
 [⟨55,[tU,tU,tU,tU,tU,tU,tU,tU,tU,fU,tU,fU,tU],0,[(AX.ret,⟨[(2, .bptr 0 0)],[o1m],23⟩),(AX.normal,⟨[(2, .bptr 0 0)],[o1m],23⟩)]⟩,
 ⟨55,[tU,tU,tU,tU,tU,fU,tU,fU,tU],0,[(AX.ret,⟨[(2, .bptr 0 0)],[o1m],23⟩),(AX.normal,⟨[(2, .bptr 0 0)],[o1m],23⟩)]⟩,
 ⟨55,[tU,tU,tU,tU,tU,tU,tU,fU,tU,fU,tU],0,[(AX.ret,⟨[(2, .bptr 0 0)],[o1m],23⟩),(AX.normal,⟨[(2, .bptr 0 0)],[o1m],23⟩)]⟩,
 ⟨55,[tU,fU,tU,fU,tU],0,[(AX.ret,⟨[(2, .bptr 0 0)],[o1m],23⟩),(AX.normal,⟨[(2, .bptr 0 0)],[o1m],23⟩)]⟩,
 ⟨55,[tU,tU,tU,fU,tU,fU,tU],0,[(AX.ret,⟨[(2, .bptr 0 0)],[o1m],23⟩),(AX.normal,⟨[(2, .bptr 0 0)],[o1m],23⟩)]⟩]
def u9b:List CF:=
 []
def an55:Anns:=
 ⟨u9b,ja55,[]⟩
def G55:(p:Prim)→V1v→Option (V14v):=
 fun p x=>let E:=(0:Int);let A:=(E,(E,()));let B:=(1:Int);let C:=((ByteArray.mk #[]),(E,A));
 opt.alt (V14v) (V14v) _ (
 opt.run ((V14v⊕V14v)) (
 opt.ask _ (p.cmp .eql x.1 B) (
 opt.ret _ (Sum.inl ((ByteArray.mk #[101,110,116,101,114]),(B,(B,((1000000:Int),())))))) (
 opt.alt (V14v) (V14v) _ (
 opt.run ((V14v⊕V14v)) (
 opt.ask _ (p.cmp .eql x.1 (2:Int)) (
 opt.ret _ (Sum.inl ((ByteArray.mk #[98,117,114,110]),(B,(B,((10000:Int),())))))) (
 opt.alt (V14v) (V14v) _ (
 opt.run ((V14v⊕V14v)) (
 opt.ask _ (p.cmp .eql x.1 (3:Int)) (
 opt.ret _ (Sum.inl ((ByteArray.mk #[99,111,109,112,97,114,101]),((2:Int),(B,((100000:Int),())))))) (
 opt.alt (V14v) (V14v) _ (
 opt.run ((V14v⊕V14v)) (
 opt.ask _ (p.cmp .eql x.1 (4:Int)) (
 opt.ret _ (Sum.inl ((ByteArray.mk #[114,101,112,108,97,99,101]),((2:Int),A)))) (
 opt.alt (V14v) (V14v) _ (
 opt.run ((V14v⊕V14v)) (
 opt.ask _ (p.cmp .eql x.1 (5:Int)) (
 opt.ret _ (Sum.inl ((ByteArray.mk #[111,117,116]),(B,A)))) (
 opt.ask _ (p.cmp .eql x.1 (6:Int)) (
 opt.ret _ (Sum.inl ((ByteArray.mk #[99,108,97,105,109]),((3:Int),(E,((1000000:Int),())))))) (
 opt.ret _ (Sum.inr C))))) (fun a=>
 opt.ret _ (Sum.inl a)) (fun b=>
 opt.bnd (V14v) _ (some b) fun c=>
 opt.ret _ (Sum.inr c))))) (fun d=>
 opt.ret _ (Sum.inl d)) (fun e=>
 opt.bnd (V14v) _ (some e) fun f=>
 opt.ret _ (Sum.inr f))))) (fun g=>
 opt.ret _ (Sum.inl g)) (fun h=>
 opt.bnd (V14v) _ (some h) fun i=>
 opt.ret _ (Sum.inr i))))) (fun j=>
 opt.ret _ (Sum.inl j)) (fun k=>
 opt.bnd (V14v) _ (some k) fun l=>
 opt.ret _ (Sum.inr l))))) (fun m=>
 opt.ret _ m) (fun n=>
 opt.bnd (V14v) _ (some n) fun o=>
 opt.ret _ C)
theorem t14:CtrOk PG v7g (G55 std):=okF vE (a:=an55) (l:=la55) (gN)
def v3m:Ctr:=
 ⟨107,[.int .i64, .bptr 0 0, .bptr 1 0],o19m,[(.ret,⟨[(0, .bool)],o19m,1⟩)]⟩
def u7f:List LA:=
 []
def u7q:List JA:=
 [⟨107,[fU,tU],2,[(AX.normal,⟨[(4, .bool)],o19m,13⟩)]⟩]
def u0d:List CF:=
 []
def t05:Anns:=
 ⟨u0d,u7q,[]⟩
def u3y:(p:Prim)→V6v→Option (V40v):=
 fun p x=>
 opt.bnd (V40v) _ (
 opt.run (V40v) (
 opt.ask _ (p.cmp .lss x.2.2.1 x.1) (
 opt.ret _ (x.1,(x.2.1,(Bool.true,())))) (
 opt.ret _ (x.1,(x.2.1,((p.cmp .gtr x.2.2.1 x.2.1),())))))) fun a=>
 opt.ret _ a
theorem u6s:CtrOk PG v3m (u3y std):=okF vE (a:=t05) (l:=u7f) (gN)
def v3h:Ctr:=
 ⟨133,[.list 1, .clo 107 [] [.bptr 0 0, .bptr 1 0]],o19m,[(.ret,⟨[(0, .int .i64)],o19m,1⟩)]⟩
def u6z:List LA:=
 [⟨133,[fU,tU,fU,tU],2,⟨⟨[(0, .list 1),(1, .clo 107 [] [.bptr 0 0, .bptr 1 0]),(7, .int .i64),(8, .int .i64)],o19m,19⟩,[(AX.ret,⟨[(4, .int .i64)],o19m,19⟩),((AX.exit 0),⟨[],o19m,19⟩)]⟩⟩]
def u7k:List JA:=
 []
def v97:List CF:=
 [⟨v3m,u3y⟩]
def t0z:Anns:=
 ⟨v97,u7k,[]⟩
def x5r (p:Prim):V2v→Option (V2v⊕(V6v⊕V0v)):=
 fun a=>let A:=a.2.2.2.2.1; opt.run _ (
 opt.ask _ (p.cmp .lss A a.2.2.2.1) (
 opt.need _ (p.rowOk a.2.2.1 (p.nat A) [ci])<|
 opt.need _ (p.cmp .geq A (0:Int))<|
 opt.bnd (V40v) _ (u3y p (a.1,(a.2.1,((p.rdI a.2.2.1 (p.nat A) 0),())))) fun b=>
 opt.ask _ b.2.2.1 (
 opt.ret _ (Sum.inr (Sum.inl (b.1,(b.2.1,a.2.2.2.2))))) (
 opt.ret _ (Sum.inl (b.1,(b.2.1,(a.2.2.1,(a.2.2.2.1,((p.ar .add .i64 A (1:Int)),())))))))) (
 opt.ret _ (Sum.inr (Sum.inr (a.1,(a.2.1,()))))))
def u5b:(p:Prim)→V43v→Option (V6v):=
 fun p x=>
 opt.alt (V6v) (V0v) _ (
 z1e (x5r p) (x.1,(x.2.1,(x.2.2.1,((p.ofNat (p.len x.2.2.1)),((0:Int),())))))) (fun a=>
 opt.ret _ a) (fun b=>
 opt.bnd (V0v) _ (some b) fun c=>
 opt.ret _ (c.1,(c.2.1,((-1:Int),()))))
theorem u6k:CtrOk PG v3h (u5b std):=okF vE (a:=t0z) (l:=u6z) (gC u6s (gN))
def v3n:Ctr:=
 ⟨106,[.list 1, .clo 107 [] [.bptr 0 0, .bptr 1 0]],o19m,[(.ret,⟨[(0, .bool)],o19m,1⟩)]⟩
def u7g:List LA:=
 []
def u7r:List JA:=
 []
def u0e:List CF:=
 [⟨v3h,u5b⟩]
def t06:Anns:=
 ⟨u0e,u7r,[]⟩
def u5d:(p:Prim)→V43v→Option (V40v):=
 fun p x=>
 opt.bnd (V6v) _ (u5b p x) fun a=>
 opt.ret _ (a.1,(a.2.1,((p.cmp .geq a.2.2.1 (0:Int)),())))
theorem u6t:CtrOk PG v3n (u5d std):=okF vE (a:=t06) (l:=u7g) (gC u6k (gN))
def v7f:Ctr:=
 ⟨56,[.int .i64, .int .i64, .list 1],[],[(.ret,⟨[(0, .bool)],[],1⟩)]⟩
def la56:List LA:=
 []
def ja56:List JA:=
 []
def u9a:List CF:=
 [⟨v3n,u5d⟩]
def an56:Anns:=
 ⟨u9a,ja56,[]⟩
def G56:(p:Prim)→V43v→Option (V4v):=
 fun p x=>
 opt.bnd (V40v) _ (u5d p x) fun a=>
 opt.ret _ ((bif a.2.2.1 then Bool.false else Bool.true),())
theorem t13:CtrOk PG v7f (G56 std):=okF vE (a:=an56) (l:=la56) (gC u6t (gN))
def u1y:Ctr:=
 ⟨17,[.agg [.int .i64, .int .i64, .list 1, .int .i64]],[],[(.ret,⟨[(0, .int .i64)],[],1⟩)]⟩
def la17:List LA:=
 []
def ja17:List JA:=
 [⟨17,[fU,fU,fU,tU,tU],0,[(AX.normal,⟨[(1, .bptr 0 0),(3, .bptr 1 0),(7, .bool)],[o0m,o1m],48⟩)]⟩,
 ⟨17,[tU,tU,tU,fU,fU,tU,tU],0,[(AX.ret,⟨[(2, .int .i64)],[],48⟩),(AX.normal,⟨[],[],48⟩)]⟩,
 ⟨17,[tU,tU,tU,tU,tU,fU,fU,tU,tU],0,[(AX.ret,⟨[(2, .int .i64)],[],48⟩),(AX.normal,⟨[],[],48⟩)]⟩,
 ⟨17,[tU,tU,tU,tU,tU,tU,tU,fU,fU,tU,tU],0,[(AX.ret,⟨[(2, .int .i64)],[],48⟩),(AX.normal,⟨[],[],48⟩)]⟩,
 ⟨17,[tU,fU,fU,tU,tU],0,[(AX.ret,⟨[(2, .int .i64)],[],48⟩),(AX.normal,⟨[],[],48⟩)]⟩]
def u9q:List CF:=
 [⟨u1m,G57⟩,⟨v7f,G56⟩,⟨v7g,G55⟩]
def an17:Anns:=
 ⟨u9q,ja17,[]⟩
def G17:(p:Prim)→V18v→Option (V1v):=
 fun p x=>let A:=(0:Int);
 opt.bnd (V14v) _ (G55 p (x.2.1,())) fun a=>
 opt.bnd (V50v) _ (
 opt.run (V50v) (
 opt.bnd (V4v) _ (G56 p ((1:Int),((1099511627776:Int),([[(D.int .i64 x.1)]],())))) fun b=>
 opt.ask _ (bif b.1 then Bool.false else Bool.true) (
 opt.ret _ (x.1,(x.2.1,(x.2.2.1,(x.2.2.2.1,(a.1,(a.2.1,(a.2.2.1,(a.2.2.2.1,(Bool.true,())))))))))) (
 opt.ret _ (x.1,(x.2.1,(x.2.2.1,(x.2.2.2.1,(a.1,(a.2.1,(a.2.2.1,(a.2.2.2.1,((bif (p.strEq a.1 (ByteArray.mk #[])) then (bif (p.cmp .eql a.2.1 A) then (bif (p.cmp .eql a.2.2.1 A) then (bif (p.cmp .eql a.2.2.2.1 A) then Bool.true else Bool.false) else Bool.false) else Bool.false) else Bool.false),())))))))))))) fun c=>
 opt.alt (V1v) (Unit) _ (
 opt.run ((V1v⊕Unit)) (
 opt.ask _ c.2.2.2.2.2.2.2.2.1 (
 opt.ret _ (Sum.inl ((2:Int),()))) (
 opt.alt (V1v) (Unit) _ (
 opt.run ((V1v⊕Unit)) (
 opt.ask _ (p.cmp .neq (p.ofNat (p.len c.2.2.1)) c.2.2.2.2.2.1) (
 opt.ret _ (Sum.inl ((6:Int),()))) (
 opt.bnd (V4v) _ (G56 p ((1:Int),((1099511627776:Int),(c.2.2.1,())))) fun d=>
 opt.alt (V1v) (Unit) _ (
 opt.run ((V1v⊕Unit)) (
 opt.ask _ (bif d.1 then Bool.false else Bool.true) (
 opt.ret _ (Sum.inl ((3:Int),()))) (
 opt.bnd (V10v) _ (G57 p (c.2.2.1,())) fun e=>
 opt.alt (V1v) (Unit) _ (
 opt.run ((V1v⊕Unit)) (
 opt.ask _ (p.cmp .neq (p.ofNat (p.len e.1)) c.2.2.2.2.2.1) (
 opt.ret _ (Sum.inl ((16:Int),()))) (
 opt.bnd (V4v) _ (G56 p (c.2.2.2.2.2.2.1,(c.2.2.2.2.2.2.2.1,([[(D.int .i64 c.2.2.2.1)]],())))) fun f=>
 opt.ask _ (bif f.1 then Bool.false else Bool.true) (
 opt.ret _ (Sum.inl ((2:Int),()))) (
 opt.ret _ (Sum.inr ()))))) (fun g=>
 opt.ret _ (Sum.inl g)) (fun h=>
 opt.bnd (Unit) _ (some h) fun i=>
 opt.ret _ (Sum.inr ()))))) (fun j=>
 opt.ret _ (Sum.inl j)) (fun k=>
 opt.bnd (Unit) _ (some k) fun l=>
 opt.ret _ (Sum.inr ()))))) (fun m=>
 opt.ret _ (Sum.inl m)) (fun n=>
 opt.bnd (Unit) _ (some n) fun o=>
 opt.ret _ (Sum.inr ()))))) (fun q=>
 opt.ret _ q) (fun r=>
 opt.bnd (Unit) _ (some r) fun t=>
 opt.ret _ (A,()))
theorem ok17:CtrOk PG u1y (G17 std):=okF vE (a:=an17) (l:=la17) (gC u6j (gC t13 (gC t14 (gN))))
def w6d:Ctr:=
 ⟨57,[.vec 0 1],[o12m],[(.ret,⟨[(0, .list 1)],[o12m],1⟩)]⟩
def v9y:List LA:=
 []
def v9z:List JA:=
 []
def v6n:List CF:=
 [⟨w6f,w77⟩,⟨x0b,u5e⟩]
def u2t:Anns:=
 ⟨v6n,v9z,[]⟩
def w7x:(p:Prim)→V10v→Option (V25v):=
 fun p x=>let E:=p.len x.1;let A:=p.ofNat E;let C:=p.nat A;let F:=p.rep C [(D.int .i64 (0:Int))];let B:=p.splice F 0 (p.cut x.1 0 E);
 opt.need _ (p.and (p.cmp .geq A (0:Int)) (p.and (p.cmp .leq A A) (p.cmp .leq A (1000000:Int))))<|
 opt.need _ (p.and (p.leN (p.add 0 E) E) (p.and (p.leN E C) (p.leN (p.add 0 C) (p.len F))))<|
 opt.need _ (p.eqN 0 0)<|
 opt.need _ (p.eqN C (p.len B))<|
 opt.need _ (p.eqN C (p.len B))<|
 opt.bnd (V10v) _ (v4e p (B,())) fun a=>
 opt.bnd (V31v) _ (w77 p (a.1,(0,(C,(C,()))))) fun b=>
 opt.need _ (p.leN (p.add b.2.1 b.2.2.1) (p.len b.1))<|
 opt.ret _ (x.1,((p.cut b.1 b.2.1 b.2.2.1),()))
theorem v9j:CtrOk PG w6d (w7x std):=okF vE (a:=u2t) (l:=v9y) (gC v5d (gC w9b (gN)))
def w6e:Ctr:=
 ⟨19,[.list 4],[],[(.ret,⟨[(0, .int .i64)],[],1⟩)]⟩
def la19:List LA:=
 [⟨19,[fU,tU,fU,tU,tU,tU],0,⟨⟨[(0, .list 4),(3, .vec 0 1),(10, .list 4),(11, .int .i64),(12, .int .i64)],[o12m],33⟩,[(AX.ret,⟨[(2, .int .i64)],[],33⟩),((AX.exit 0),⟨[(0, .list 4),(3, .vec 0 1)],[o12m],33⟩)]⟩⟩]
def ja19:List JA:=
 []
def u9o:List CF:=
 [⟨w6d,w7x⟩,⟨u1y,G17⟩]
def an19:Anns:=
 ⟨u9o,ja19,[]⟩
def x7u (p:Prim):(LD×V8v)→Option ((LD×V8v)⊕(V1v⊕V25v)):=
 fun a=>let G:=a.2.2.2.2.1;let A:=p.nat G;let C:=p.len a.1;let E:=a.2.2.1;let F:=[[(D.int .i64 (p.rdI E A 0))]];let B:=p.app (p.cut a.1 0 C) (p.cut F 0 1); opt.run _ (
 opt.ask _ (p.cmp .lss G a.2.2.2.1) (
 opt.need _ (p.rowOk E A [ci,ci,(CK.list 1),ci])<|
 opt.need _ (p.cmp .geq G (0:Int))<|
 opt.bnd (V1v) _ (G17 p ((p.rdI E A 0),((p.rdI E A 1),((p.rdL E A 2),((p.rdI E A 3),()))))) fun b=>
 opt.ask _ (p.cmp .neq b.1 (0:Int)) (
 opt.ret _ (Sum.inr (Sum.inl b))) (
 opt.need _ (p.and (p.leN (p.add 0 1) (p.len F)) (p.and (p.leN (p.add 0 C) C) (p.and (p.leN 1 1) (p.leN (p.add C 1) 1000000))))<|
 opt.need _ (p.eqN 0 0)<|
 opt.need _ (p.eqN (p.add C 1) (p.len B))<|
 opt.ret _ (Sum.inl (B,(a.2.1,(E,(a.2.2.2.1,((p.ar .add .i64 G (1:Int)),())))))))) (
 opt.need _ (p.eqN 0 0)<|
 opt.need _ (p.eqN C C)<|
 opt.ret _ (Sum.inr (Sum.inr (a.1,(a.2.1,()))))))
def G19:(p:Prim)→V10v→Option (V1v):=
 fun p x=>
 opt.ask _ (p.cmp .gtr (p.ofNat (p.len x.1)) (60:Int)) (
 opt.ret _ ((6:Int),())) (
 opt.alt (V1v) (V25v) _ (
 z1e (x7u p) ([],(x.1,(x.1,((p.ofNat (p.len x.1)),((0:Int),())))))) (fun a=>
 opt.ret _ a) (fun b=>
 opt.bnd (V25v) _ (some b) fun c=>
 opt.need _ (p.eqN 0 0)<|
 opt.need _ (p.eqN (p.len c.1) (p.len c.1))<|
 opt.bnd (V25v) _ (w7x p (c.1,())) fun d=>
 opt.ask _ (p.cmp .neq (p.ofNat (p.len d.2.1)) (p.ofNat (p.len c.2.1))) (
 opt.ret _ ((11:Int),())) (
 opt.ret _ ((0:Int),()))))
theorem v9k:CtrOk PG w6e (G19 std):=okF vE (a:=an19) (l:=la19) (gC v9j (gC ok17 (gN)))
def u1f:Ctr:=
 ⟨78,[.list 4, .list 4],[],[(.ret,⟨[(0, .int .i64)],[],1⟩)]⟩
def la78:List LA:=
 []
def ja78:List JA:=
 []
def u8k:List CF:=
 [⟨w6e,G19⟩]
def an78:Anns:=
 ⟨u8k,ja78,[]⟩
def G78:(p:Prim)→V25v→Option (V1v):=
 fun p x=>
 opt.bnd (V1v) _ (G19 p (x.1,())) fun a=>
 opt.ask _ (p.cmp .neq a.1 (0:Int)) (
 opt.ret _ a) (
 opt.bnd (V1v) _ (G19 p x.2) fun b=>
 opt.ret _ b)
theorem ok78:CtrOk PG u1f (G78 std):=okF vE (a:=an78) (l:=la78) (gC v9k (gN))
def v3l:Ctr:=
 ⟨116,[.list 1, .int .i64],[],[(.ret,⟨[(0, .int .i64)],[],1⟩)]⟩
def u7d:List LA:=
 [⟨116,[fU,tU,fU,tU],0,⟨⟨[(0, .list 1),(1, .int .i64),(7, .int .i64),(8, .int .i64)],[],19⟩,[(AX.ret,⟨[(4, .int .i64)],[],19⟩),((AX.exit 0),⟨[],[],19⟩)]⟩⟩]
def u7o:List JA:=
 []
def u0b:List CF:=
 []
def t03:Anns:=
 ⟨u0b,u7o,[]⟩
def x0m (p:Prim):(LD×V6v)→Option ((LD×V6v)⊕(V1v⊕Unit)):=
 fun a=>let A:=a.2.2.2.1; opt.run _ (
 opt.ask _ (p.cmp .lss A a.2.2.1) (
 opt.need _ (p.rowOk a.1 (p.nat A) [ci])<|
 opt.need _ (p.cmp .geq A (0:Int))<|
 opt.ask _ (p.cmp .eql a.2.1 (p.rdI a.1 (p.nat A) 0)) (
 opt.ret _ (Sum.inr (Sum.inl a.2.2.2))) (
 opt.ret _ (Sum.inl (a.1,(a.2.1,(a.2.2.1,((p.ar .add .i64 A (1:Int)),()))))))) (
 opt.ret _ (Sum.inr (Sum.inr ()))))
def u5c:(p:Prim)→V11v→Option (V1v):=
 fun p x=>
 opt.alt (V1v) (Unit) _ (
 z1e (x0m p) (x.1,(x.2.1,((p.ofNat (p.len x.1)),((0:Int),()))))) (fun a=>
 opt.ret _ a) (fun b=>
 opt.bnd (Unit) _ (some b) fun c=>
 opt.ret _ ((-1:Int),()))
theorem u6r:CtrOk PG v3l (u5c std):=okF vE (a:=t03) (l:=u7d) (gN)
def u1h:Ctr:=
 ⟨71,[.list 1, .int .i64],[],[(.ret,⟨[(0, .bool)],[],1⟩)]⟩
def la71:List LA:=
 []
def ja71:List JA:=
 []
def u8r:List CF:=
 [⟨v3l,u5c⟩]
def an71:Anns:=
 ⟨u8r,ja71,[]⟩
def G71:(p:Prim)→V11v→Option (V4v):=
 fun p x=>
 opt.bnd (V1v) _ (u5c p x) fun a=>
 opt.ret _ ((p.cmp .geq a.1 (0:Int)),())
theorem ok71:CtrOk PG u1h (G71 std):=okF vE (a:=an71) (l:=la71) (gC u6r (gN))
end Go.Am
end
noncomputable section
namespace Go.Am
def v3k:Ctr:=
 ⟨117,[.list 1],[],[(.ret,⟨[(0, .list 1)],[],1⟩)]⟩
def u7c:List LA:=
 []
def u7n:List JA:=
 []
def u0a:List CF:=
 []
def t02:Anns:=
 ⟨u0a,u7n,[]⟩
def u3x:(p:Prim)→V10v→Option (V10v):=
 fun p x=>let A:=p.add 0 (p.len x.1);let B:=p.leN (p.add 0 0) (p.len []);let C:=p.splice [] (p.add 0 0) x.1;let E:=p.app (p.cut [] 0 0) x.1;
 opt.need _ (p.leN 1 (p.len x.1))<|
 opt.ask _ (p.leN A 0) (
 opt.need _ (p.and Bool.true (p.and B B))<|
 opt.need _ (p.leN (p.add 0 A) (p.len C))<|
 opt.ret _ ((p.cut C 0 A),())) (
 opt.need _ (p.and Bool.true (p.and B (p.and (p.leN 1 (p.len x.1)) (p.leN A 1000000))))<|
 opt.need _ (p.leN (p.add 0 A) (p.len E))<|
 opt.ret _ ((p.cut E 0 A),()))
theorem u6q:CtrOk PG v3k (u3x std):=okF vE (a:=t02) (l:=u7c) (gN)
end Go.Am
end
noncomputable section
namespace Go.Am
def v0v:Ctr:=
 ⟨72,[.agg [.int .u64, .int .u64], .int .i64],[],[(.ret,⟨[(0, .agg [.int .u64, .int .u64])],[],1⟩)]⟩
def la72:List LA:=
 []
def ja72:List JA:=
 []
def u8q:List CF:=
 []
def an72:Anns:=
 ⟨u8q,ja72,[]⟩
def G72:(p:Prim)→V6v→Option (V0v):=
 fun p x=>let G:=(1:Int);let E:=(0:Int);let A:=bif (p.cmp .geq G E) then (p.cmp .lss G (p.ofNat 2)) else Bool.false;let B:=bif (p.cmp .geq E E) then (p.cmp .lss E (p.ofNat 2)) else Bool.false;let F:=p.ar .rem .i64 x.2.2.1 (64:Int);let C:=p.ar .shl .u64 G F;let H:=p.cmp .neq (64:Int) E;let I:=p.ar .quo .i64 x.2.2.1 (64:Int);let J:=p.ar .or .u64 x.2.1 C;
 opt.need _ H<|
 opt.ask _ (p.cmp .eql I E) (
 opt.need _ B<|
 opt.need _ H<|
 opt.need _ (p.cmp .geq F E)<|
 opt.ask _ (p.cmp .eql E E) (
 opt.need _ B<|
 opt.ret _ ((p.ar .or .u64 x.1 C),(x.2.1,()))) (
 opt.need _ (p.cmp .eql E G)<|
 opt.need _ A<|
 opt.ret _ (x.1,((p.ar .or .u64 x.1 C),())))) (
 opt.need _ (p.cmp .eql I G)<|
 opt.need _ A<|
 opt.need _ H<|
 opt.need _ (p.cmp .geq F E)<|
 opt.ask _ (p.cmp .eql G E) (
 opt.need _ B<|
 opt.ret _ (J,(x.2.1,()))) (
 opt.need _ (p.cmp .eql G G)<|
 opt.need _ A<|
 opt.ret _ (x.1,(J,()))))
theorem u6f:CtrOk PG v0v (G72 std):=okF vE (a:=an72) (l:=la72) (gN)
def v7c:Ctr:=
 ⟨73,[.agg [.int .u64, .int .u64], .agg [.int .u64, .int .u64]],[],[(.ret,⟨[(0, .agg [.int .u64, .int .u64])],[],1⟩)]⟩
def la73:List LA:=
 [⟨73,[fU,tU,fU,tU],0,⟨⟨[(2, .bptr 0 0),(3, .bptr 1 0),(4, .bptr 2 0),(6, .int .i64)],[o7m,o7m,o7m],19⟩,[((AX.exit 0),⟨[(2, .bptr 0 0),(4, .bptr 1 0)],[o7m,o7m],19⟩)]⟩⟩]
def ja73:List JA:=
 [⟨73,[fU,tU,tU,fU,fU,tU,fU,tU],0,[(AX.normal,⟨[(2, .bptr 0 0),(3, .bptr 1 0),(4, .bptr 2 0),(6, .int .i64)],[o7m,o7m,o7m],19⟩)]⟩]
def u8p:List CF:=
 []
def an73:Anns:=
 ⟨u8p,ja73,[]⟩
def v1i (p:Prim):V15v→Option (V15v⊕V44v):=
 fun a=>let E:=(1:Int);let C:=(0:Int);let A:=bif (p.cmp .geq E C) then (p.cmp .lss E (p.ofNat 2)) else Bool.false;let B:=bif (p.cmp .geq C C) then (p.cmp .lss C (p.ofNat 2)) else Bool.false;let F:=a.2.2.2.2.2.2.1;let G:=p.ar .or .u64 a.2.1 a.2.2.2.1;let H:=p.cmp .eql F E;let I:=p.cmp .eql F C;let J:=p.ar .or .u64 a.2.1 a.2.2.1;let K:=p.ar .or .u64 a.1 a.2.2.2.1;let L:=p.ar .or .u64 a.1 a.2.2.1; opt.run _ (
 opt.ask _ (p.cmp .lss F (2:Int)) (
 opt.bnd (V15v) _ (
 opt.run (V15v) (
 opt.ask _ I (
 opt.need _ B<|
 opt.ask _ I (
 opt.need _ B<|
 opt.ask _ (p.cmp .eql C C) (
 opt.need _ B<|
 opt.ret _ (L,a.2)) (
 opt.need _ (p.cmp .eql C E)<|
 opt.need _ A<|
 opt.ret _ (a.1,(L,a.2.2)))) (
 opt.need _ H<|
 opt.need _ A<|
 opt.ask _ (p.cmp .eql C C) (
 opt.need _ B<|
 opt.ret _ (K,a.2)) (
 opt.need _ (p.cmp .eql C E)<|
 opt.need _ A<|
 opt.ret _ (a.1,(K,a.2.2))))) (
 opt.need _ H<|
 opt.need _ A<|
 opt.ask _ I (
 opt.need _ B<|
 opt.ask _ (p.cmp .eql E C) (
 opt.need _ B<|
 opt.ret _ (J,a.2)) (
 opt.need _ (p.cmp .eql E E)<|
 opt.need _ A<|
 opt.ret _ (a.1,(J,a.2.2)))) (
 opt.need _ H<|
 opt.need _ A<|
 opt.ask _ (p.cmp .eql E C) (
 opt.need _ B<|
 opt.ret _ (G,a.2)) (
 opt.need _ (p.cmp .eql E E)<|
 opt.need _ A<|
 opt.ret _ (a.1,(G,a.2.2))))))) fun b=>
 opt.ret _ (Sum.inl (b.1,(b.2.1,(b.2.2.1,(b.2.2.2.1,(b.2.2.2.2.1,(b.2.2.2.2.2.1,((p.ar .add .i64 b.2.2.2.2.2.2.1 E),()))))))))) (
 opt.ret _ (Sum.inr (a.1,(a.2.1,(a.2.2.2.2.1,(a.2.2.2.2.2.1,())))))))
def G73:(p:Prim)→V44v→Option (V0v):=
 fun p x=>
 opt.bnd (V44v) _ (
 z1e (v1i p) (x.1,(x.2.1,(x.2.2.1,(x.2.2.2.1,((0:Int),((0:Int),((0:Int),())))))))) fun a=>
 opt.ret _ (a.1,(a.2.1,()))
theorem t10:CtrOk PG v7c (G73 std):=okF vE (a:=an73) (l:=la73) (gN)
def v0u:Ctr:=
 ⟨74,[.agg [.int .u64, .int .u64], .int .i64],[],[(.ret,⟨[(0, .bool)],[],1⟩)]⟩
def la74:List LA:=
 []
def ja74:List JA:=
 [⟨74,[fU,tU],0,[(AX.normal,⟨[(4, .bool)],[],14⟩)]⟩]
def u8o:List CF:=
 []
def an74:Anns:=
 ⟨u8o,ja74,[]⟩
def G74:(p:Prim)→V6v→Option (V4v):=
 fun p x=>let A:=p.ar .rem .i64 x.2.2.1 (64:Int);let B:=(0:Int);let C:=p.cmp .neq (64:Int) B;let E:=(1:Int);let F:=p.ar .quo .i64 x.2.2.1 (64:Int);
 opt.bnd (V4v) _ (
 opt.run (V4v) (
 opt.need _ C<|
 opt.ask _ (p.cmp .eql F B) (
 opt.need _ (bif (p.cmp .geq B B) then (p.cmp .lss B (p.ofNat 2)) else Bool.false)<|
 opt.need _ C<|
 opt.need _ (p.cmp .geq A B)<|
 opt.ret _ ((p.cmp .eql (p.ar .and .u64 (p.ar .shr .u64 x.1 A) E) E),())) (
 opt.need _ (p.cmp .eql F E)<|
 opt.need _ (bif (p.cmp .geq E B) then (p.cmp .lss E (p.ofNat 2)) else Bool.false)<|
 opt.need _ C<|
 opt.need _ (p.cmp .geq A B)<|
 opt.ret _ ((p.cmp .eql (p.ar .and .u64 (p.ar .shr .u64 x.2.1 A) E) E),())))) fun a=>
 opt.ret _ a
theorem u6e:CtrOk PG v0u (G74 std):=okF vE (a:=an74) (l:=la74) (gN)
def v3i:Ctr:=
 ⟨132,[.agg [.int .u64, .int .u64], .agg [.int .u64, .int .u64]],[],[(.ret,⟨[(0, .agg [.int .u64, .int .u64])],[],1⟩)]⟩
def u7a:List LA:=
 [⟨132,[fU,tU,fU,tU],0,⟨⟨[(2, .bptr 0 0),(3, .bptr 1 0),(4, .bptr 2 0),(6, .int .i64)],[o7m,o7m,o7m],19⟩,[((AX.exit 0),⟨[(2, .bptr 0 0),(4, .bptr 1 0)],[o7m,o7m],19⟩)]⟩⟩]
def u7l:List JA:=
 [⟨132,[fU,tU,tU,fU,fU,tU,fU,tU],0,[(AX.normal,⟨[(2, .bptr 0 0),(3, .bptr 1 0),(4, .bptr 2 0),(6, .int .i64)],[o7m,o7m,o7m],19⟩)]⟩]
def v98:List CF:=
 []
def t00:Anns:=
 ⟨v98,u7l,[]⟩
def w0m (p:Prim):V15v→Option (V15v⊕V44v):=
 fun a=>let E:=(1:Int);let C:=(0:Int);let A:=bif (p.cmp .geq E C) then (p.cmp .lss E (p.ofNat 2)) else Bool.false;let B:=bif (p.cmp .geq C C) then (p.cmp .lss C (p.ofNat 2)) else Bool.false;let F:=a.2.2.2.2.2.2.1;let G:=p.ar .and .u64 a.2.1 a.2.2.2.1;let H:=p.cmp .eql F E;let I:=p.cmp .eql F C;let J:=p.ar .and .u64 a.2.1 a.2.2.1;let K:=p.ar .and .u64 a.1 a.2.2.2.1;let L:=p.ar .and .u64 a.1 a.2.2.1; opt.run _ (
 opt.ask _ (p.cmp .lss F (2:Int)) (
 opt.bnd (V15v) _ (
 opt.run (V15v) (
 opt.ask _ I (
 opt.need _ B<|
 opt.ask _ I (
 opt.need _ B<|
 opt.ask _ (p.cmp .eql C C) (
 opt.need _ B<|
 opt.ret _ (L,a.2)) (
 opt.need _ (p.cmp .eql C E)<|
 opt.need _ A<|
 opt.ret _ (a.1,(L,a.2.2)))) (
 opt.need _ H<|
 opt.need _ A<|
 opt.ask _ (p.cmp .eql C C) (
 opt.need _ B<|
 opt.ret _ (K,a.2)) (
 opt.need _ (p.cmp .eql C E)<|
 opt.need _ A<|
 opt.ret _ (a.1,(K,a.2.2))))) (
 opt.need _ H<|
 opt.need _ A<|
 opt.ask _ I (
 opt.need _ B<|
 opt.ask _ (p.cmp .eql E C) (
 opt.need _ B<|
 opt.ret _ (J,a.2)) (
 opt.need _ (p.cmp .eql E E)<|
 opt.need _ A<|
 opt.ret _ (a.1,(J,a.2.2)))) (
 opt.need _ H<|
 opt.need _ A<|
 opt.ask _ (p.cmp .eql E C) (
 opt.need _ B<|
 opt.ret _ (G,a.2)) (
 opt.need _ (p.cmp .eql E E)<|
 opt.need _ A<|
 opt.ret _ (a.1,(G,a.2.2))))))) fun b=>
 opt.ret _ (Sum.inl (b.1,(b.2.1,(b.2.2.1,(b.2.2.2.1,(b.2.2.2.2.1,(b.2.2.2.2.2.1,((p.ar .add .i64 b.2.2.2.2.2.2.1 E),()))))))))) (
 opt.ret _ (Sum.inr (a.1,(a.2.1,(a.2.2.2.2.1,(a.2.2.2.2.2.1,())))))))
def u3w:(p:Prim)→V44v→Option (V0v):=
 fun p x=>
 opt.bnd (V44v) _ (
 z1e (w0m p) (x.1,(x.2.1,(x.2.2.1,(x.2.2.2.1,((0:Int),((0:Int),((0:Int),())))))))) fun a=>
 opt.ret _ (a.1,(a.2.1,()))
theorem u6l:CtrOk PG v3i (u3w std):=okF vE (a:=t00) (l:=u7a) (gN)
def v7b:Ctr:=
 ⟨75,[.agg [.int .i64, .int .i64, .list 1, .int .i64]],[],[(.ret,⟨[(0, .agg [.int .i64, .int .i64, .list 1, .int .i64])],[],1⟩)]⟩
def la75:List LA:=
 []
def ja75:List JA:=
 []
def u8n:List CF:=
 [⟨v3k,u3x⟩]
def an75:Anns:=
 ⟨u8n,ja75,[]⟩
def G75:(p:Prim)→V18v→Option (V18v):=
 fun p x=>
 opt.bnd (V10v) _ (u3x p (x.2.2.1,())) fun a=>
 opt.ret _ (x.1,(x.2.1,(a.1,x.2.2.2)))
theorem t1z:CtrOk PG v7b (G75 std):=okF vE (a:=an75) (l:=la75) (gC u6q (gN))
end Go.Am
end
noncomputable section
namespace Go.Am
def v0w:Ctr:=
 ⟨66,[.list 1],[],[(.ret,⟨[(0, .bptr 0 0)],o14m,1⟩)]⟩
def la66:List LA:=
 [⟨66,[fU,tU,fU,tU,tU],0,⟨⟨[(0, .list 1),(3, .bptr 0 0),(23, .list 1),(24, .int .i64),(25, .int .i64)],[.box [.sl 2 4, .map 1, .nils], .map,o5m],146⟩,[((AX.exit 0),⟨[(0, .list 1),(3, .bptr 0 0)],o16m,146⟩)]⟩⟩,
 ⟨66,[fU,tU,tU,fU,fU,tU,tU,fU,fU,tU,fU,tU,tU],0,⟨⟨[(0, .list 1),(3, .bptr 0 0),(23, .list 1),(24, .int .i64),(25, .int .i64),(29, .list 4),(30, .int .i64),(31, .int .i64)],o16m,146⟩,[((AX.exit 2),⟨[(0, .list 1),(3, .bptr 0 0),(23, .list 1),(24, .int .i64),(25, .int .i64)],o16m,146⟩)]⟩⟩,
 ⟨66,[fU,tU,fU,tU,tU,tU,tU],0,⟨⟨[(3, .bptr 0 0),(90, .list 1),(91, .int .i64),(92, .int .i64)],o14m,146⟩,[((AX.exit 4),⟨[(3, .bptr 0 0)],o14m,146⟩)]⟩⟩,
 ⟨66,[fU,tU,tU,tU,fU,fU,tU,tU,fU,fU,tU,fU,tU,tU,tU,tU],0,⟨⟨[(3, .bptr 0 0),(12, .map 1),(90, .list 1),(91, .int .i64),(92, .int .i64),(97, .list 4),(98, .int .i64),(99, .int .i64)],o13m,146⟩,[((AX.exit 6),⟨[(3, .bptr 0 0),(90, .list 1),(91, .int .i64),(92, .int .i64)],o14m,146⟩)]⟩⟩,
 ⟨66,[fU,tU,tU,tU,fU,fU,tU,tU,fU,fU,tU,tU,tU,fU,fU,tU,tU,fU,fU,tU,fU,tU,tU,tU,tU],0,⟨⟨[(3, .bptr 0 0),(12, .map 1),(15, .int .i64),(90, .list 1),(91, .int .i64),(92, .int .i64),(97, .list 4),(98, .int .i64),(99, .int .i64),(111, .list 1),(112, .int .i64),(113, .int .i64)],o13m,146⟩,[((AX.exit 8),⟨[(3, .bptr 0 0),(12, .map 1),(90, .list 1),(91, .int .i64),(92, .int .i64),(97, .list 4),(98, .int .i64),(99, .int .i64)],o13m,146⟩)]⟩⟩]
def ja66:List JA:=
 [⟨66,[fU,tU,tU,fU,fU,tU,tU,tU,fU,fU,tU,tU,fU,fU,tU,fU,tU,tU,tU,tU],0,[(AX.normal,⟨[(3, .bptr 0 0),(12, .map 1),(90, .list 1),(91, .int .i64),(92, .int .i64),(97, .list 4),(98, .int .i64),(99, .int .i64)],o13m,146⟩)]⟩,
 ⟨66,[fU,tU,tU,fU,fU,tU,tU,tU,fU,fU,tU,tU,fU,fU,tU,tU,tU,fU,fU,tU,tU,fU,fU,tU,fU,tU,tU,tU,tU],0,[(AX.normal,⟨[(3, .bptr 0 0),(12, .map 1),(15, .int .i64),(90, .list 1),(91, .int .i64),(92, .int .i64),(97, .list 4),(98, .int .i64),(99, .int .i64),(111, .list 1),(112, .int .i64),(113, .int .i64)],o13m,146⟩)]⟩,
 ⟨66,[fU,tU,tU,fU,fU,tU,tU,fU,fU,tU,tU,fU,fU,tU,fU,tU,tU],0,[(AX.normal,⟨[(0, .list 1),(3, .bptr 0 0),(23, .list 1),(24, .int .i64),(25, .int .i64),(29, .list 4),(30, .int .i64),(31, .int .i64)],o16m,146⟩)]⟩,
 ⟨66,[tU,tU,tU,fU,fU,tU,tU,fU,fU,tU,tU,fU,fU,tU,tU,fU,fU,tU,fU,tU,tU],0,[(AX.normal,⟨[(0, .list 1),(3, .bptr 0 0),(23, .list 1),(24, .int .i64),(25, .int .i64),(29, .list 4),(30, .int .i64),(31, .int .i64)],o16m,146⟩)]⟩]
def u8v:List CF:=
 [⟨v0v,G72⟩]
def an66:Anns:=
 ⟨u8v,ja66,[]⟩
def t0y (p:Prim):V5v→Option (V5v⊕V9v):=
 fun a=>let S:=a.2.2.2.2.2.2.2.2.2.2.2.2.2.1;let F:=a.2.2.2.2.2.2.2.2.2.2.2.2.2.2.2.1;let A:=D.int .i64 (p.rdI S (p.nat F) 0);let Q:=a.2.2.2.1;let E:=a.2.2.2.2.2.2.1;let M:=p.add 0 (p.nat E);let C:=p.len Q;let G:=p.mOk a.1 [SK.i] Bool.false A Bool.false [ci];let H:=p.mset a.1 (p.nat (p.ofNat (p.mpos a.1 [SK.i] Bool.false A))) A (D.int .i64 E);let I:=bif (p.cmp .geq E (0:Int)) then (p.cmp .lss E (p.ofNat C)) else Bool.false;let J:=p.rowOk Q M [(CK.int .u64),(CK.int .u64)];let K:=p.mhas a.1 [SK.i] Bool.false A;let O:=p.eqN C C;let P:=p.eqN 0 0;let T:=p.madd a.1 A (D.int .i64 E); opt.run _ (
 opt.ask _ (p.cmp .lss F a.2.2.2.2.2.2.2.2.2.2.2.2.2.2.1) (
 opt.bnd (V5v) _ (
 opt.run (V5v) (
 opt.need _ (p.rowOk S (p.nat F) [ci])<|
 opt.need _ (p.cmp .geq F (0:Int))<|
 opt.need _ G<|
 opt.ask _ K (
 opt.need _ I<|
 opt.need _ J<|
 opt.bnd (V0v) _ (G72 p ((p.rdI Q M 0),((p.rdI Q M 1),((p.mI a.1 [SK.i] Bool.false A 0),())))) fun b=>let B:=p.set Q M [(D.int .u64 b.1),(D.int .u64 b.2.1)];let L:=p.eqN C (p.len B);let R:=(a.2.1,(a.2.2.1,(B,a.2.2.2.2)));
 opt.need _ I<|
 opt.need _ J<|
 opt.need _ G<|
 opt.ask _ K (
 opt.need _ P<|
 opt.need _ L<|
 opt.need _ L<|
 opt.ret _ (H,R)) (
 opt.need _ P<|
 opt.need _ L<|
 opt.need _ L<|
 opt.ret _ (T,R))) (
 opt.need _ G<|
 opt.ask _ K (
 opt.need _ P<|
 opt.need _ O<|
 opt.need _ O<|
 opt.ret _ (H,a.2)) (
 opt.need _ P<|
 opt.need _ O<|
 opt.need _ O<|
 opt.ret _ (T,a.2))))) fun c=>let N:=p.len c.2.2.2.1;
 opt.need _ P<|
 opt.need _ (p.eqN N N)<|
 opt.need _ (p.eqN N N)<|
 opt.ret _ (Sum.inl (c.1,(c.2.1,(c.2.2.1,(c.2.2.2.1,(c.2.2.2.2.1,(c.2.2.2.2.2.1,(c.2.2.2.2.2.2.1,(c.2.2.2.2.2.2.2.1,(c.2.2.2.2.2.2.2.2.1,(c.2.2.2.2.2.2.2.2.2.1,(c.2.2.2.2.2.2.2.2.2.2.1,(c.2.2.2.2.2.2.2.2.2.2.2.1,(c.2.2.2.2.2.2.2.2.2.2.2.2.1,(c.2.2.2.2.2.2.2.2.2.2.2.2.2.1,(c.2.2.2.2.2.2.2.2.2.2.2.2.2.2.1,((p.ar .add .i64 c.2.2.2.2.2.2.2.2.2.2.2.2.2.2.2.1 (1:Int)),())))))))))))))))))) (
 opt.need _ P<|
 opt.need _ O<|
 opt.need _ O<|
 opt.ret _ (Sum.inr (a.1,(a.2.1,(a.2.2.1,(Q,(a.2.2.2.2.1,(a.2.2.2.2.2.1,(a.2.2.2.2.2.2.2.1,(a.2.2.2.2.2.2.2.2.1,(a.2.2.2.2.2.2.2.2.2.1,(a.2.2.2.2.2.2.2.2.2.2.1,(a.2.2.2.2.2.2.2.2.2.2.2.1,(a.2.2.2.2.2.2.2.2.2.2.2.2.1,())))))))))))))))
def w2v (p:Prim):V5v→Option (V5v⊕V9v):=
 fun a=>let S:=a.2.2.2.2.2.2.2.2.2.2.2.2.2.1;let F:=a.2.2.2.2.2.2.2.2.2.2.2.2.2.2.2.1;let A:=D.int .i64 (p.rdI S (p.nat F) 0);let Q:=a.2.2.2.1;let E:=a.2.2.2.2.2.2.1;let M:=p.add 0 (p.nat E);let C:=p.len Q;let G:=p.mOk a.1 [SK.i] Bool.false A Bool.false [ci];let H:=p.mset a.1 (p.nat (p.ofNat (p.mpos a.1 [SK.i] Bool.false A))) A (D.int .i64 E);let I:=bif (p.cmp .geq E (0:Int)) then (p.cmp .lss E (p.ofNat C)) else Bool.false;let J:=p.rowOk Q M [(CK.int .u64),(CK.int .u64)];let K:=p.mhas a.1 [SK.i] Bool.false A;let O:=p.eqN C C;let P:=p.eqN 0 0;let T:=p.madd a.1 A (D.int .i64 E); opt.run _ (
 opt.ask _ (p.cmp .lss F a.2.2.2.2.2.2.2.2.2.2.2.2.2.2.1) (
 opt.bnd (V5v) _ (
 opt.run (V5v) (
 opt.need _ (p.rowOk S (p.nat F) [ci])<|
 opt.need _ (p.cmp .geq F (0:Int))<|
 opt.need _ G<|
 opt.ask _ K (
 opt.need _ I<|
 opt.need _ J<|
 opt.bnd (V0v) _ (G72 p ((p.rdI Q M 0),((p.rdI Q M 1),((p.mI a.1 [SK.i] Bool.false A 0),())))) fun b=>let B:=p.set Q M [(D.int .u64 b.1),(D.int .u64 b.2.1)];let L:=p.eqN C (p.len B);let R:=(a.2.1,(a.2.2.1,(B,a.2.2.2.2)));
 opt.need _ I<|
 opt.need _ J<|
 opt.need _ G<|
 opt.ask _ K (
 opt.need _ P<|
 opt.need _ L<|
 opt.need _ L<|
 opt.ret _ (H,R)) (
 opt.need _ P<|
 opt.need _ L<|
 opt.need _ L<|
 opt.ret _ (T,R))) (
 opt.need _ G<|
 opt.ask _ K (
 opt.need _ P<|
 opt.need _ O<|
 opt.need _ O<|
 opt.ret _ (H,a.2)) (
 opt.need _ P<|
 opt.need _ O<|
 opt.need _ O<|
 opt.ret _ (T,a.2))))) fun c=>let N:=p.len c.2.2.2.1;
 opt.need _ P<|
 opt.need _ (p.eqN N N)<|
 opt.need _ (p.eqN N N)<|
 opt.ret _ (Sum.inl (c.1,(c.2.1,(c.2.2.1,(c.2.2.2.1,(c.2.2.2.2.1,(c.2.2.2.2.2.1,(c.2.2.2.2.2.2.1,(c.2.2.2.2.2.2.2.1,(c.2.2.2.2.2.2.2.2.1,(c.2.2.2.2.2.2.2.2.2.1,(c.2.2.2.2.2.2.2.2.2.2.1,(c.2.2.2.2.2.2.2.2.2.2.2.1,(c.2.2.2.2.2.2.2.2.2.2.2.2.1,(c.2.2.2.2.2.2.2.2.2.2.2.2.2.1,(c.2.2.2.2.2.2.2.2.2.2.2.2.2.2.1,((p.ar .add .i64 c.2.2.2.2.2.2.2.2.2.2.2.2.2.2.2.1 (1:Int)),())))))))))))))))))) (
 opt.need _ P<|
 opt.need _ O<|
 opt.need _ O<|
 opt.ret _ (Sum.inr (a.1,(a.2.1,(a.2.2.1,(Q,(a.2.2.2.2.1,(a.2.2.2.2.2.1,(a.2.2.2.2.2.2.2.1,(a.2.2.2.2.2.2.2.2.1,(a.2.2.2.2.2.2.2.2.2.1,(a.2.2.2.2.2.2.2.2.2.2.1,(a.2.2.2.2.2.2.2.2.2.2.2.1,(a.2.2.2.2.2.2.2.2.2.2.2.2.1,())))))))))))))))
def w64 (p:Prim):V9v→Option (V9v⊕V26v):=
 fun a=>let E:=a.2.2.2.2.2.2.2.2.2.1;let N:=a.2.2.2.2.2.2.2.2.2.2.1;let C:=a.2.2.2.2.2.2.2.2.2.2.2.1;let O:=p.nat C;let A:=(a.2.2.2.2.2.2.1,(a.2.2.2.2.2.2.2.1,(a.2.2.2.2.2.2.2.2.1,(E,(N,(C,((p.rdL E O 2),((p.ofNat (p.len (p.rdL E O 2))),((0:Int),())))))))));let K:=a.2.2.2.1;let B:=p.eqN (p.len K) (p.len K);let F:=D.int .i64 (p.rdI E O 0);let J:=p.eqN 0 0;let L:=a.2.2.1;let M:=a.2.2.2.2.2.1; opt.run _ (
 opt.ask _ (p.cmp .lss C N) (
 opt.bnd (V9v) _ (
 opt.run (V9v) (
 opt.need _ (p.rowOk E O [ci,ci,(CK.list 1),ci])<|
 opt.need _ (p.cmp .geq C (0:Int))<|
 opt.need _ (p.mOk L [SK.i] Bool.false F Bool.false [ci])<|
 opt.ask _ (p.mhas L [SK.i] Bool.false F) (
 opt.need _ J<|
 opt.need _ B<|
 opt.need _ B<|
 opt.bnd (V9v) _ (
 z1e (w2v p) (a.1,(a.2.1,(L,(K,(a.2.2.2.2.1,(M,((p.mI L [SK.i] Bool.false F 0),A)))))))) fun b=>let I:=p.len b.2.2.2.1;
 opt.need _ J<|
 opt.need _ (p.eqN I I)<|
 opt.need _ (p.eqN I I)<|
 opt.ret _ b) (
 opt.need _ J<|
 opt.need _ B<|
 opt.need _ B<|
 opt.bnd (V9v) _ (
 z1e (t0y p) (a.1,(a.2.1,(L,(K,(a.2.2.2.2.1,(M,((0:Int),A)))))))) fun c=>let H:=p.len c.2.2.2.1;
 opt.need _ J<|
 opt.need _ (p.eqN H H)<|
 opt.need _ (p.eqN H H)<|
 opt.ret _ c))) fun d=>let G:=p.len d.2.2.2.1;
 opt.need _ J<|
 opt.need _ (p.eqN G G)<|
 opt.need _ (p.eqN G G)<|
 opt.ret _ (Sum.inl (d.1,(d.2.1,(d.2.2.1,(d.2.2.2.1,(d.2.2.2.2.1,(d.2.2.2.2.2.1,(d.2.2.2.2.2.2.1,(d.2.2.2.2.2.2.2.1,(d.2.2.2.2.2.2.2.2.1,(d.2.2.2.2.2.2.2.2.2.1,(d.2.2.2.2.2.2.2.2.2.2.1,((p.ar .add .i64 d.2.2.2.2.2.2.2.2.2.2.2.1 (1:Int)),())))))))))))))) (
 opt.need _ J<|
 opt.need _ B<|
 opt.need _ B<|
 opt.ret _ (Sum.inr (a.2.1,(L,(K,(a.2.2.2.2.1,(M,(a.2.2.2.2.2.2.1,(a.2.2.2.2.2.2.2.1,(a.2.2.2.2.2.2.2.2.1,())))))))))))
def w65 (p:Prim):V26v→Option (V26v⊕V7v):=
 fun a=>let A:=p.eqN (p.len a.2.2.1) (p.len a.2.2.1);let B:=a.2.2.2.2.2.2.2.1;let E:=a.2.2.2.2.2.1; opt.run _ (
 opt.ask _ (p.cmp .lss B a.2.2.2.2.2.2.1) (
 opt.need _ (p.rowOk E (p.nat B) [(CK.list 4)])<|
 opt.need _ (p.cmp .geq B (0:Int))<|
 opt.need _ (p.eqN 0 0)<|
 opt.need _ A<|
 opt.need _ A<|
 opt.bnd (V26v) _ (
 z1e (w64 p) ([],(a.1,(a.2.1,(a.2.2.1,(a.2.2.2.1,(a.2.2.2.2.1,(E,(a.2.2.2.2.2.2.1,(B,((p.rdL E (p.nat B) 0),((p.ofNat (p.len (p.rdL E (p.nat B) 0))),((0:Int),()))))))))))))) fun b=>let C:=p.len b.2.2.1;
 opt.need _ (p.eqN 0 0)<|
 opt.need _ (p.eqN C C)<|
 opt.need _ (p.eqN C C)<|
 opt.ret _ (Sum.inl (b.1,(b.2.1,(b.2.2.1,(b.2.2.2.1,(b.2.2.2.2.1,(b.2.2.2.2.2.1,(b.2.2.2.2.2.2.1,((p.ar .add .i64 b.2.2.2.2.2.2.2.1 (1:Int)),())))))))))) (
 opt.need _ (p.eqN 0 0)<|
 opt.need _ A<|
 opt.need _ A<|
 opt.ret _ (Sum.inr (a.1,(a.2.1,(a.2.2.1,(a.2.2.2.1,(a.2.2.2.2.1,()))))))))
def w2w (p:Prim):V13v→Option (V13v⊕(LD×(List (V34v)×V55v))):=
 fun a=>let L:=a.2.2.2.2.2.2.2.2.1;let G:=a.2.2.2.2.2.2.2.2.2.2.1;let Q:=p.nat G;let C:=D.int .i64 (p.rdI L Q 0);let A:=[[C,(D.int .i64 (p.rdI L Q 1)),(D.list (p.rdF L Q 2 1) 1 (p.rdL L Q 2)),(D.int .i64 (p.rdI L Q 3))]];let F:=p.ofNat a.2.2.2.1;let S:=(0:Int);let B:=p.sub (p.nat F) (p.nat S);let E:=p.add a.2.2.1 (p.nat S);let H:=p.leN (p.add E B) (p.len a.1);let I:=p.splice a.1 (p.add E B) (p.cut A 0 1);let J:=p.and (p.cmp .geq S S) (p.and (p.cmp .leq S F) (p.and (p.cmp .leq F F) (p.cmp .leq F F)));let X:=p.leN (p.add 0 1) (p.len A);let Y:=p.add B 1;let K:=p.and X (p.and H (p.and (p.leN 1 1) (p.leN Y 1000000)));let M:=p.mset a.2.1 (p.nat (p.ofNat (p.mpos a.2.1 [SK.i] Bool.false C))) C (D.int .i64 F);let N:=p.and X (p.and H (p.and (p.leN 1 1) H));let O:=(Y,a.2.2.2.2);let P:=p.mOk a.2.1 [SK.i] Bool.false C Bool.false [ci];let R:=p.app (p.cut a.1 E B) (p.cut A 0 1);let T:=p.mhas a.2.1 [SK.i] Bool.false C;let U:=p.madd a.2.1 C (D.int .i64 F);let V:=p.leN (p.add E B) (p.len I); opt.run _ (
 opt.ask _ (p.cmp .lss G a.2.2.2.2.2.2.2.2.2.1) (
 opt.bnd (V13v) _ (
 opt.run (V13v) (
 opt.need _ (p.rowOk L Q [ci,ci,(CK.list 1),ci])<|
 opt.need _ (p.cmp .geq G S)<|
 opt.need _ P<|
 opt.ask _ T (
 opt.bnd (V13v) _ (
 opt.run (V13v) (
 opt.ret _ a)) fun b=>
 opt.ret _ b) (
 opt.bnd (V13v) _ (
 opt.run (V13v) (
 opt.need _ P<|
 opt.ask _ T (
 opt.need _ J<|
 opt.ask _ (p.leN Y B) (
 opt.need _ N<|
 opt.need _ V<|
 opt.ret _ (I,(M,(E,O)))) (
 opt.need _ K<|
 opt.ret _ (R,(M,(0,O))))) (
 opt.need _ J<|
 opt.ask _ (p.leN Y B) (
 opt.need _ N<|
 opt.need _ V<|
 opt.ret _ (I,(U,(E,O)))) (
 opt.need _ K<|
 opt.ret _ (R,(U,(0,O))))))) fun c=>
 opt.ret _ c))) fun d=>
 opt.ret _ (Sum.inl (d.1,(d.2.1,(d.2.2.1,(d.2.2.2.1,(d.2.2.2.2.1,(d.2.2.2.2.2.1,(d.2.2.2.2.2.2.1,(d.2.2.2.2.2.2.2.1,(d.2.2.2.2.2.2.2.2.1,(d.2.2.2.2.2.2.2.2.2.1,((p.ar .add .i64 d.2.2.2.2.2.2.2.2.2.2.1 (1:Int)),()))))))))))))) (
 opt.ret _ (Sum.inr (a.1,(a.2.1,(a.2.2.1,(a.2.2.2.1,(a.2.2.2.2.1,(a.2.2.2.2.2.1,(a.2.2.2.2.2.2.1,(a.2.2.2.2.2.2.2.1,())))))))))))
def w66 (p:Prim):(List (V34v)×(LD×V55v))→Option ((List (V34v)×(LD×V55v))⊕(LD×(List (V34v)×(Nat×(Nat×V10v))))):=
 fun a=>let A:=a.2.2.2.2.2.2.2.1;let B:=a.2.2.2.2.2.1; opt.run _ (
 opt.ask _ (p.cmp .lss A a.2.2.2.2.2.2.1) (
 opt.need _ (p.rowOk B (p.nat A) [(CK.list 4)])<|
 opt.need _ (p.cmp .geq A (0:Int))<|
 opt.bnd ((LD×(List (V34v)×V55v))) _ (
 z1e (w2w p) (a.2.1,(a.1,(a.2.2.1,(a.2.2.2.1,(a.2.2.2.2.1,(B,(a.2.2.2.2.2.2.1,(A,((p.rdL B (p.nat A) 0),((p.ofNat (p.len (p.rdL B (p.nat A) 0))),((0:Int),())))))))))))) fun b=>
 opt.ret _ (Sum.inl (b.2.1,(b.1,(b.2.2.1,(b.2.2.2.1,(b.2.2.2.2.1,(b.2.2.2.2.2.1,(b.2.2.2.2.2.2.1,((p.ar .add .i64 b.2.2.2.2.2.2.2.1 (1:Int)),())))))))))) (
 opt.ret _ (Sum.inr (a.2.1,(a.1,(a.2.2.1,(a.2.2.2.1,(a.2.2.2.2.1,()))))))))
def G66:(p:Prim)→V10v→Option (V7v):=
 fun p x=>let E:=(0:Int);
 opt.bnd ((LD×(List (V34v)×(Nat×(Nat×V10v))))) _ (
 z1e (w66 p) ([],([],(0,(0,(x.1,(x.1,((p.ofNat (p.len x.1)),(E,()))))))))) fun a=>let B:=p.ofNat a.2.2.2.1;let A:=p.rep (p.nat B) [(D.int .u64 E),(D.int .u64 E)];let F:=p.eqN (p.nat B) (p.len A);
 opt.need _ (p.and (p.cmp .geq B E) (p.and (p.cmp .leq B B) (p.cmp .leq B (1000000:Int))))<|
 opt.need _ (p.eqN 0 0)<|
 opt.need _ F<|
 opt.need _ F<|
 opt.bnd (V7v) _ (
 z1e (w65 p) (a.1,(a.2.1,(A,(a.2.2.1,(a.2.2.2.1,(a.2.2.2.2.1,((p.ofNat (p.len a.2.2.2.2.1)),(E,()))))))))) fun b=>let C:=p.len b.2.2.1;
 opt.need _ (p.eqN 0 0)<|
 opt.need _ (p.eqN C C)<|
 opt.need _ (p.eqN C C)<|
 opt.ret _ b
theorem u6g:CtrOk PG v0w (G66 std):=okF vE (a:=an66) (l:=la66) (gC u6f (gN))
end Go.Am
end
noncomputable section
namespace Go.Am
def v7d:Ctr:=
 ⟨67,[.bptr 0 0],o14m,[(.ret,⟨[(0, .vec 4 4)],[o3m,o5m, .map,o2m,o5m],1⟩)]⟩
def la67:List LA:=
 [⟨67,[fU,tU,fU,tU,tU,tU],4,⟨⟨[(1, .bptr 4 0),(3, .bptr 5 0),(4, .vec 6 4),(11, .int .i64),(12, .int .i64)],[o3m,o5m, .map,o2m,o10m,o7m,o5m],56⟩,[((AX.exit 0),⟨[(4, .vec 4 4)],[o3m,o5m, .map,o2m,o5m],56⟩)]⟩⟩,
 ⟨131,[fU,tU],11,⟨⟨[(0, .yld 10),(2, .bptr 9 0),(9, .full 3 2),(10, .int .i64),(11, .int .i64)],[o3m,o5m, .map,o2m,o10m,o7m,o5m,o9m,o10m,o7m, .loop Go.LoopState.ready Option.none 67 [Bool.false,Bool.true,Bool.false,Bool.true,Bool.false,Bool.false,Bool.true,Bool.true,Bool.false,Bool.false,Bool.true,Bool.false,Bool.true,Bool.true,Bool.true] 56 [(16, .clo 131 [] [.bptr 8 0, .bptr 9 0]),(5, .bptr 7 0),(1, .bptr 4 0),(11, .int .i64),(12, .int .i64),(4, .vec 6 4),(3, .bptr 5 0)]],34⟩,[((AX.exit 0),⟨[],[o3m,o5m, .map,o2m,o10m,o7m,o5m,o9m,o10m,o7m, .loop Go.LoopState.ready Option.none 67 [Bool.false,Bool.true,Bool.false,Bool.true,Bool.false,Bool.false,Bool.true,Bool.true,Bool.false,Bool.false,Bool.true,Bool.false,Bool.true,Bool.true,Bool.true] 56 [(16, .clo 131 [] [.bptr 8 0, .bptr 9 0]),(5, .bptr 7 0),(1, .bptr 4 0),(11, .int .i64),(12, .int .i64),(4, .vec 6 4),(3, .bptr 5 0)]],34⟩)]⟩⟩]
def ja67:List JA:=
 [⟨67,[tU,fU,tU,fU,tU,fU,tU,fU,fU,tU,tU,fU,fU,tU,fU,tU,tU,tU],12,[(AX.normal,⟨[(1, .bptr 4 0),(3, .bptr 5 0),(4, .vec 6 4),(5, .bptr 7 0),(11, .int .i64),(12, .int .i64)],[o3m,o5m, .map,o2m,o10m,o7m,o5m,o9m,o10m,o7m, .dead,o7m],56⟩)]⟩,
 ⟨131,[fU,tU,tU,fU,fU,tU],11,[(AX.normal,⟨[(0, .yld 10),(2, .bptr 9 0),(9, .full 3 2),(10, .int .i64),(11, .int .i64)],[o3m,o5m, .map,o2m,o10m,o7m,o5m,o9m,o10m,o7m, .loop Go.LoopState.ready Option.none 67 [Bool.false,Bool.true,Bool.false,Bool.true,Bool.false,Bool.false,Bool.true,Bool.true,Bool.false,Bool.false,Bool.true,Bool.false,Bool.true,Bool.true,Bool.true] 56 [(16, .clo 131 [] [.bptr 8 0, .bptr 9 0]),(5, .bptr 7 0),(1, .bptr 4 0),(11, .int .i64),(12, .int .i64),(4, .vec 6 4),(3, .bptr 5 0)]],34⟩)]⟩,
 ⟨67,[tU,fU,tU,fU,tU,fU,fU,tU,tU,fU,fU,tU,fU,tU,tU,tU],12,[(AX.normal,⟨[(1, .bptr 4 0),(3, .bptr 5 0),(4, .vec 6 4),(5, .bptr 7 0),(11, .int .i64),(12, .int .i64)],[o3m,o5m, .map,o2m,o10m,o7m,o5m,o9m,o10m,o7m, .dead,o7m],56⟩)]⟩]
def u8u:List CF:=
 [⟨v7b,G75⟩,⟨v0v,G72⟩,⟨v3i,u3w⟩,⟨v0u,G74⟩]
def an67:Anns:=
 ⟨u8u,ja67,[]⟩
def y8s (p:Prim):V3v→Option (V3v⊕V48v):=
 fun a=>let K:=a.2.2.1;let V:=p.len K;let A:=p.eqN V V;let B:=a.2.2.2.2.2.2.2.2.2.2.2.2.2.2.1;let O:=a.2.2.2.2.2.2.2.2.2.1;let M:=a.2.2.2.2.2.2.2.2.2.2.1;let J:=p.add 0 (p.nat B);let A1:=p.rdI K J 0;let Z:=p.rdI K J 1;let N:=(a.2.2.2.2.2.2.2.2.2.2.2.1,(a.2.2.2.2.2.2.2.2.2.2.2.2.1,()));let C:=(O,(M,(A1,(Z,N))));let E:=p.eqN 0 0;let T:=a.2.2.2.1;let F:=p.eqN (p.len T) (p.len T);let P:=a.2.2.2.2.1;let Q:=a.2.2.2.2.2.1;let X:=a.2.2.2.2.2.2.1;let U:=a.2.2.2.2.2.2.2.1;let G:=(a.1,(a.2.1,(K,(T,(P,(Q,(X,(U,(B,C)))))))));let I:=a.2.2.2.2.2.2.2.2.1;let Y:=[ci,ci,(CK.list 1),ci];let A2:=p.cmp .geq B (0:Int); opt.run _ (
 opt.ask _ (p.cmp .lss B a.2.2.2.2.2.2.2.2.2.2.2.2.2.1) (
 opt.bnd (V3v) _ (
 opt.run (V3v) (
 opt.need _ (bif A2 then (p.cmp .lss B (p.ofNat V)) else Bool.false)<|
 opt.need _ (p.rowOk K J [(CK.int .u64),(CK.int .u64)])<|
 opt.bnd (V4v) _ (G74 p (O,(M,a.2.2.2.2.2.2.2.2.2.2.2.2.2.2))) fun b=>
 opt.ask _ (bif b.1 then Bool.false else Bool.true) (
 opt.bnd (V0v) _ (u3w p (A1,(Z,(O,(M,()))))) fun c=>
 opt.ask _ (bif (p.cmp .eql c.1 A1) then (bif (p.cmp .eql c.2.1 Z) then Bool.true else Bool.false) else Bool.false) (
 opt.bnd (V3v) _ (
 opt.run (V3v) (
 opt.ask _ (p.cmp .lss I (0:Int)) (
 opt.bnd (V3v) _ (
 opt.run (V3v) (
 opt.need _ E<|
 opt.need _ A<|
 opt.need _ A<|
 opt.need _ E<|
 opt.need _ F<|
 opt.ret _ G)) fun d=>let S:=p.len d.2.2.1;
 opt.need _ E<|
 opt.need _ (p.eqN S S)<|
 opt.need _ (p.eqN S S)<|
 opt.need _ E<|
 opt.need _ (p.eqN (p.len d.2.2.2.1) (p.len d.2.2.2.1))<|
 opt.ret _ d) (
 opt.need _ (bif A2 then (p.cmp .lss B (p.ofNat Q)) else Bool.false)<|
 opt.need _ (p.rowOk a.1 (p.add P (p.nat B)) Y)<|
 opt.need _ (bif (p.cmp .geq I (0:Int)) then (p.cmp .lss I (p.ofNat Q)) else Bool.false)<|
 opt.need _ (p.rowOk a.1 (p.add P (p.nat I)) Y)<|
 opt.bnd (V3v) _ (
 opt.run (V3v) (
 opt.ask _ (p.cmp .lss (p.rdI a.1 (p.add P (p.nat B)) 0) (p.rdI a.1 (p.add P (p.nat I)) 0)) (
 opt.need _ E<|
 opt.need _ A<|
 opt.need _ A<|
 opt.need _ E<|
 opt.need _ F<|
 opt.ret _ G) (
 opt.need _ E<|
 opt.need _ A<|
 opt.need _ A<|
 opt.need _ E<|
 opt.need _ F<|
 opt.ret _ (a.1,(a.2.1,(K,(T,(P,(Q,(X,(U,(I,C)))))))))))) fun e=>let R:=p.len e.2.2.1;
 opt.need _ E<|
 opt.need _ (p.eqN R R)<|
 opt.need _ (p.eqN R R)<|
 opt.need _ E<|
 opt.need _ (p.eqN (p.len e.2.2.2.1) (p.len e.2.2.2.1))<|
 opt.ret _ e))) fun f=>let L:=p.len f.2.2.1;
 opt.need _ E<|
 opt.need _ (p.eqN L L)<|
 opt.need _ (p.eqN L L)<|
 opt.need _ E<|
 opt.need _ (p.eqN (p.len T) (p.len f.2.2.2.1))<|
 opt.need _ E<|
 opt.need _ (p.eqN V L)<|
 opt.need _ (p.eqN V L)<|
 opt.ret _ (f.1,(f.2.1,(f.2.2.1,(f.2.2.2.1,(f.2.2.2.2.1,(f.2.2.2.2.2.1,(f.2.2.2.2.2.2.1,(f.2.2.2.2.2.2.2.1,(f.2.2.2.2.2.2.2.2.1,(f.2.2.2.2.2.2.2.2.2.1,(f.2.2.2.2.2.2.2.2.2.2.1,a.2.2.2.2.2.2.2.2.2.2.2)))))))))))) (
 opt.need _ E<|
 opt.need _ A<|
 opt.need _ A<|
 opt.need _ E<|
 opt.need _ F<|
 opt.need _ E<|
 opt.need _ A<|
 opt.need _ A<|
 opt.ret _ a)) (
 opt.need _ E<|
 opt.need _ A<|
 opt.need _ A<|
 opt.need _ E<|
 opt.need _ F<|
 opt.need _ E<|
 opt.need _ A<|
 opt.need _ A<|
 opt.ret _ a))) fun g=>let H:=p.eqN (p.len g.2.2.1) (p.len g.2.2.1);
 opt.need _ E<|
 opt.need _ H<|
 opt.need _ H<|
 opt.need _ E<|
 opt.need _ (p.eqN (p.len g.2.2.2.1) (p.len g.2.2.2.1))<|
 opt.need _ E<|
 opt.need _ H<|
 opt.need _ H<|
 opt.ret _ (Sum.inl (g.1,(g.2.1,(g.2.2.1,(g.2.2.2.1,(g.2.2.2.2.1,(g.2.2.2.2.2.1,(g.2.2.2.2.2.2.1,(g.2.2.2.2.2.2.2.1,(g.2.2.2.2.2.2.2.2.1,(g.2.2.2.2.2.2.2.2.2.1,(g.2.2.2.2.2.2.2.2.2.2.1,(g.2.2.2.2.2.2.2.2.2.2.2.1,(g.2.2.2.2.2.2.2.2.2.2.2.2.1,(g.2.2.2.2.2.2.2.2.2.2.2.2.2.1,((p.ar .add .i64 g.2.2.2.2.2.2.2.2.2.2.2.2.2.2.1 (1:Int)),()))))))))))))))))) (
 opt.need _ E<|
 opt.need _ A<|
 opt.need _ A<|
 opt.need _ E<|
 opt.need _ F<|
 opt.ret _ (Sum.inr (a.1,(a.2.1,(K,(T,(P,(Q,(X,(U,(I,(O,(M,N))))))))))))))
def w63 (p:Prim):V47v→Option (V47v⊕V21v):=
 fun a=>let L:=p.len a.2.2.1;let B:=p.eqN L L;let E:=p.len a.2.2.2.1;let F:=p.eqN 0 0;let J:=a.2.2.2.2.2.2.2.2.2.1;let K:=a.2.2.2.2.2.2.2.2.1; opt.run _ (
 opt.ask _ (p.cmp .lss J K) (
 opt.need _ F<|
 opt.need _ B<|
 opt.need _ B<|
 opt.need _ F<|
 opt.need _ (p.eqN E E)<|
 opt.need _ F<|
 opt.need _ B<|
 opt.need _ B<|
 opt.bnd (V48v) _ (
 z1e (y8s p) (a.1,(a.2.1,(a.2.2.1,(a.2.2.2.1,(a.2.2.2.2.1,(a.2.2.2.2.2.1,(a.2.2.2.2.2.2.1,(a.2.2.2.2.2.2.2.1,((-1:Int),(a.2.2.2.2.2.2.1,(a.2.2.2.2.2.2.2.1,(K,(J,((p.ofNat L),((0:Int),())))))))))))))))) fun b=>let G:=b.2.2.2.2.2.2.2.2.1;let C:=p.add b.2.2.2.2.1 (p.nat G);let I:=p.len b.2.2.1;
 opt.bnd (V0v) _ (G72 p (b.2.2.2.2.2.2.1,(b.2.2.2.2.2.2.2.1,(G,())))) fun c=>
 opt.need _ (bif (p.cmp .geq G (0:Int)) then (p.cmp .lss G (p.ofNat b.2.2.2.2.2.1)) else Bool.false)<|
 opt.need _ (p.rowOk b.1 C [ci,ci,(CK.list 1),ci])<|
 opt.bnd (V18v) _ (G75 p ((p.rdI b.1 C 0),((p.rdI b.1 C 1),((p.rdL b.1 C 2),((p.rdI b.1 C 3),()))))) fun d=>let A:=[[(D.int .i64 d.1),(D.int .i64 d.2.1),(D.list Bool.false 1 d.2.2.1),(D.int .i64 d.2.2.2.1)]];let H:=p.app (p.cut b.2.2.2.1 0 E) (p.cut A 0 1);
 opt.need _ (p.and (p.leN (p.add 0 1) (p.len A)) (p.and (p.leN (p.add 0 E) (p.len b.2.2.2.1)) (p.and (p.leN 1 1) (p.leN (p.add E 1) 1000000))))<|
 opt.need _ F<|
 opt.need _ (p.eqN I I)<|
 opt.need _ (p.eqN I I)<|
 opt.need _ F<|
 opt.need _ (p.eqN (p.add E 1) (p.len H))<|
 opt.ret _ (Sum.inl (b.1,(b.2.1,(b.2.2.1,(H,(b.2.2.2.2.1,(b.2.2.2.2.2.1,(c.1,(c.2.1,(K,((p.ar .add .i64 J (1:Int)),())))))))))))) (
 opt.need _ F<|
 opt.need _ B<|
 opt.need _ B<|
 opt.need _ F<|
 opt.need _ (p.eqN E E)<|
 opt.ret _ (Sum.inr (a.1,(a.2.1,(a.2.2.1,(a.2.2.2.1,(a.2.2.2.2.1,(a.2.2.2.2.2.1,())))))))))
def G67:(p:Prim)→V7v→Option (V21v):=
 fun p x=>let A:=p.len x.2.2.1;
 opt.need _ (p.eqN 0 0)<|
 opt.need _ (p.eqN A A)<|
 opt.need _ (p.eqN A A)<|
 opt.bnd (V21v) _ (
 z1e (w63 p) (x.1,(x.2.1,(x.2.2.1,([],(x.2.2.2.1,(x.2.2.2.2.1,((0:Int),((0:Int),((p.ofNat x.2.2.2.2.1),((0:Int),()))))))))))) fun a=>let B:=p.len a.2.2.1;
 opt.need _ (p.eqN 0 0)<|
 opt.need _ (p.eqN B B)<|
 opt.need _ (p.eqN B B)<|
 opt.need _ (p.eqN 0 0)<|
 opt.need _ (p.eqN (p.len a.2.2.2.1) (p.len a.2.2.2.1))<|
 opt.ret _ a
theorem t11:CtrOk PG v7d (G67 std):=okF vD (a:=an67) (l:=la67) (gC t1z (gC u6f (gC u6l (gC u6e (gN)))))
def u1u:Ctr:=
 ⟨29,[.list 4],[],[(.ret,⟨[(0, .tuple [.vec 0 4, .int .i64])],[o5m],1⟩)]⟩
def la29:List LA:=
 []
def ja29:List JA:=
 []
def u9k:List CF:=
 [⟨v7d,G67⟩,⟨v0w,G66⟩,⟨w6e,G19⟩]
def an29:Anns:=
 ⟨u9k,ja29,[]⟩
def G29:(p:Prim)→V10v→Option (V11v):=
 fun p x=>
 opt.bnd (V1v) _ (G19 p x) fun a=>
 opt.ask _ (p.cmp .neq a.1 (0:Int)) (
 opt.ret _ ([],a)) (
 opt.bnd (V7v) _ (G66 p ([[(D.list Bool.false 4 x.1)]],())) fun b=>let A:=p.len b.2.2.1;
 opt.need _ (p.eqN 0 0)<|
 opt.need _ (p.eqN A A)<|
 opt.need _ (p.eqN A A)<|
 opt.bnd (V21v) _ (G67 p b) fun c=>
 opt.need _ (p.eqN 0 0)<|
 opt.need _ (p.eqN (p.len c.2.2.2.1) (p.len c.2.2.2.1))<|
 opt.ret _ (c.2.2.2.1,((0:Int),())))
theorem ok29:CtrOk PG u1u (G29 std):=okF vD (a:=an29) (l:=la29) (gC t11 (gC u6g (gC v9k (gN))))
end Go.Am
end
noncomputable section
namespace Go.Am
def u1e:Ctr:=
 ⟨79,[.list 4],[],[(.ret,⟨[(0, .map 0)],[.map],1⟩)]⟩
def la79:List LA:=
 [⟨79,[fU,tU,fU,tU,tU],0,⟨⟨[(3, .map 0),(7, .list 4),(8, .int .i64),(9, .int .i64)],[.map],19⟩,[((AX.exit 0),⟨[(3, .map 0)],[.map],19⟩)]⟩⟩]
def ja79:List JA:=
 [⟨79,[fU,tU,tU,fU,fU,tU,fU,tU,tU],0,[(AX.normal,⟨[(3, .map 0),(7, .list 4),(8, .int .i64),(9, .int .i64)],[.map],19⟩)]⟩]
def u8j:List CF:=
 []
def an79:Anns:=
 ⟨u8j,ja79,[]⟩
def w6z (p:Prim):V51v→Option (V51v⊕V53v):=
 fun a=>let C:=p.nat a.2.2.2.1;let A:=D.int .i64 (p.rdI a.2.1 C 0);let B:=D.agg [A,(D.int .i64 (p.rdI a.2.1 C 1)),(D.list (p.rdF a.2.1 C 2 1) 1 (p.rdL a.2.1 C 2)),(D.int .i64 (p.rdI a.2.1 C 3))];let E:=[ci,ci,(CK.list 1),ci]; opt.run _ (
 opt.ask _ (p.cmp .lss a.2.2.2.1 a.2.2.1) (
 opt.bnd (V51v) _ (
 opt.run (V51v) (
 opt.need _ (p.rowOk a.2.1 C E)<|
 opt.need _ (p.cmp .geq a.2.2.2.1 (0:Int))<|
 opt.need _ (p.mOk a.1 [SK.i] Bool.false A Bool.true E)<|
 opt.ask _ (p.mhas a.1 [SK.i] Bool.false A) (
 opt.ret _ ((p.mset a.1 (p.nat (p.ofNat (p.mpos a.1 [SK.i] Bool.false A))) A B),a.2)) (
 opt.ret _ ((p.madd a.1 A B),a.2)))) fun b=>
 opt.ret _ (Sum.inl (b.1,(b.2.1,(b.2.2.1,((p.ar .add .i64 b.2.2.2.1 (1:Int)),())))))) (
 opt.ret _ (Sum.inr (a.1,()))))
def G79:(p:Prim)→V10v→Option (V53v):=
 fun p x=>
 opt.bnd (V53v) _ (
 z1e (w6z p) ([],(x.1,((p.ofNat (p.len x.1)),((0:Int),()))))) fun a=>
 opt.ret _ a
theorem ok79:CtrOk PG u1e (G79 std):=okF vE (a:=an79) (l:=la79) (gN)
def v3j:Ctr:=
 ⟨118,[.list 1, .list 1],[],[(.ret,⟨[(0, .bool)],[],1⟩)]⟩
def u7b:List LA:=
 [⟨118,[fU,tU,fU,tU,tU],0,⟨⟨[(0, .list 1),(1, .list 1),(12, .int .i64),(13, .int .i64)],[],26⟩,[(AX.ret,⟨[(4, .bool)],[],26⟩),((AX.exit 0),⟨[],[],26⟩)]⟩⟩]
def u7m:List JA:=
 []
def v99:List CF:=
 []
def t01:Anns:=
 ⟨v99,u7m,[]⟩
def x0l (p:Prim):V8v→Option (V8v⊕(V4v⊕Unit)):=
 fun a=>let A:=a.2.2.2.1;let B:=p.cmp .geq A (0:Int);let C:=p.nat A; opt.run _ (
 opt.ask _ (p.cmp .lss A a.2.2.1) (
 opt.need _ (p.rowOk a.1 C [ci])<|
 opt.need _ B<|
 opt.need _ (p.rowOk a.2.1 C [ci])<|
 opt.need _ B<|
 opt.ask _ (p.cmp .neq (p.rdI a.1 C 0) (p.rdI a.2.1 C 0)) (
 opt.ret _ (Sum.inr (Sum.inl (Bool.false,())))) (
 opt.ret _ (Sum.inl (a.1,(a.2.1,(a.2.2.1,((p.ar .add .i64 A (1:Int)),()))))))) (
 opt.ret _ (Sum.inr (Sum.inr ()))))
def v8m:(p:Prim)→V25v→Option (V4v):=
 fun p x=>
 opt.ask _ (p.cmp .neq (p.ofNat (p.len x.1)) (p.ofNat (p.len x.2.1))) (
 opt.ret _ (Bool.false,())) (
 opt.alt (V4v) (Unit) _ (
 z1e (x0l p) (x.1,(x.2.1,((p.ofNat (p.len x.1)),((0:Int),()))))) (fun a=>
 opt.ret _ a) (fun b=>
 opt.bnd (Unit) _ (some b) fun c=>
 opt.ret _ (Bool.true,())))
theorem u6p:CtrOk PG v3j (v8m std):=okF vE (a:=t01) (l:=u7b) (gN)
def v69:Ctr:=
 ⟨80,[.agg [.int .i64, .int .i64, .list 1, .int .i64], .agg [.int .i64, .int .i64, .list 1, .int .i64]],[],[(.ret,⟨[(0, .bool)],[],1⟩)]⟩
def la80:List LA:=
 []
def ja80:List JA:=
 [⟨80,[fU,tU],0,[(AX.normal,⟨[(4, .bool)],[],31⟩)]⟩]
def u8i:List CF:=
 [⟨v3j,v8m⟩]
def an80:Anns:=
 ⟨u8i,ja80,[]⟩
def G80:(p:Prim)→V45v→Option (V4v):=
 fun p x=>
 opt.bnd (V4v) _ (
 opt.run (V4v) (
 opt.ask _ (p.cmp .eql x.1 x.2.2.2.2.1) (
 opt.ask _ (p.cmp .eql x.2.1 x.2.2.2.2.2.1) (
 opt.ask _ (p.cmp .eql x.2.2.2.1 x.2.2.2.2.2.2.2.1) (
 opt.bnd (V4v) _ (v8m p (x.2.2.1,(x.2.2.2.2.2.2.1,()))) fun a=>
 opt.ret _ a) (
 opt.ret _ (Bool.false,()))) (
 opt.ret _ (Bool.false,()))) (
 opt.ret _ (Bool.false,())))) fun b=>
 opt.ret _ b
theorem t1x:CtrOk PG v69 (G80 std):=okF vE (a:=an80) (l:=la80) (gC u6p (gN))
def u1d:Ctr:=
 ⟨81,[.list 4, .list 4, .clo 80 [] []],[],[(.ret,⟨[(0, .bool)],[],1⟩)]⟩
def la81:List LA:=
 [⟨81,[fU,tU,fU,tU,tU],0,⟨⟨[(1, .list 4),(2, .clo 80 [] []),(15, .list 4),(16, .int .i64),(17, .int .i64)],[],32⟩,[(AX.ret,⟨[(6, .bool)],[],32⟩),((AX.exit 0),⟨[],[],32⟩)]⟩⟩]
def ja81:List JA:=
 []
def u8h:List CF:=
 [⟨v69,G80⟩]
def an81:Anns:=
 ⟨u8h,ja81,[]⟩
def w2t (p:Prim):V8v→Option (V8v⊕(V4v⊕Unit)):=
 fun a=>let E:=a.2.2.2.1;let A:=p.nat E;let B:=p.cmp .geq E (0:Int);let C:=[ci,ci,(CK.list 1),ci]; opt.run _ (
 opt.ask _ (p.cmp .lss E a.2.2.1) (
 opt.need _ (p.rowOk a.2.1 A C)<|
 opt.need _ B<|
 opt.need _ (p.rowOk a.1 A C)<|
 opt.need _ B<|
 opt.bnd (V4v) _ (G80 p ((p.rdI a.2.1 A 0),((p.rdI a.2.1 A 1),((p.rdL a.2.1 A 2),((p.rdI a.2.1 A 3),((p.rdI a.1 A 0),((p.rdI a.1 A 1),((p.rdL a.1 A 2),((p.rdI a.1 A 3),()))))))))) fun b=>
 opt.ask _ (bif b.1 then Bool.false else Bool.true) (
 opt.ret _ (Sum.inr (Sum.inl (Bool.false,())))) (
 opt.ret _ (Sum.inl (a.1,(a.2.1,(a.2.2.1,((p.ar .add .i64 E (1:Int)),()))))))) (
 opt.ret _ (Sum.inr (Sum.inr ()))))
def G81:(p:Prim)→V25v→Option (V4v):=
 fun p x=>
 opt.ask _ (p.cmp .neq (p.ofNat (p.len x.1)) (p.ofNat (p.len x.2.1))) (
 opt.ret _ (Bool.false,())) (
 opt.alt (V4v) (Unit) _ (
 z1e (w2t p) (x.2.1,(x.1,((p.ofNat (p.len x.1)),((0:Int),()))))) (fun a=>
 opt.ret _ a) (fun b=>
 opt.bnd (Unit) _ (some b) fun c=>
 opt.ret _ (Bool.true,())))
theorem ok81:CtrOk PG u1d (G81 std):=okF vE (a:=an81) (l:=la81) (gC t1x (gN))
end Go.Am
end
noncomputable section
namespace Go.Am
def u1p:Ctr:=
 ⟨35,[.list 4, .list 4],[],[(.ret,⟨[(0, .int .i64)],[],1⟩)]⟩
def la35:List LA:=
 [⟨35,[fU,tU,fU,tU,tU,tU],0,⟨⟨[(0, .list 4),(1, .list 4),(6, .map 0),(19, .list 4),(20, .int .i64),(21, .int .i64)],[.map],57⟩,[(AX.ret,⟨[(4, .int .i64)],[],57⟩),((AX.exit 0),⟨[(0, .list 4),(1, .list 4),(6, .map 0)],[.map],57⟩)]⟩⟩]
def ja35:List JA:=
 [⟨35,[fU,tU,tU,fU,fU,tU,fU,tU,tU,tU],0,[(AX.ret,⟨[(4, .int .i64)],[],57⟩),(AX.normal,⟨[(0, .list 4),(1, .list 4),(6, .map 0),(19, .list 4),(20, .int .i64),(21, .int .i64)],[.map],57⟩)]⟩]
def u9f:List CF:=
 [⟨v7d,G67⟩,⟨v0w,G66⟩,⟨u1e,G79⟩,⟨u1d,G81⟩,⟨v69,G80⟩,⟨u1f,G78⟩]
def an35:Anns:=
 ⟨u9f,ja35,[]⟩
def x7s (p:Prim):V37v→Option (V37v⊕(V1v⊕(List (V34v)×V25v))):=
 fun a=>let E:=a.2.2.2.1;let I:=a.2.2.2.2.2.1;let B:=p.nat I;let A:=D.int .i64 (p.rdI E B 0);let G:=[SK.i];let H:=[ci,ci,(CK.list 1),ci];let C:=p.mOk a.1 G Bool.false A Bool.true H;let F:=p.mhas a.1 G Bool.false A; opt.run _ (
 opt.ask _ (p.cmp .lss I a.2.2.2.2.1) (
 opt.alt (V1v) (V37v) _ (
 opt.run ((V1v⊕V37v)) (
 opt.need _ (p.rowOk E B H)<|
 opt.need _ (p.cmp .geq I (0:Int))<|
 opt.need _ C<|
 opt.ask _ F (
 opt.bnd (V4v) _ (G80 p ((p.mI a.1 G Bool.false A 0),((p.mI a.1 G Bool.false A 1),((p.mL a.1 G Bool.false A 2),((p.mI a.1 G Bool.false A 3),((p.rdI E B 0),((p.rdI E B 1),((p.rdL E B 2),((p.rdI E B 3),()))))))))) fun b=>
 opt.ask _ (bif b.1 then Bool.false else Bool.true) (
 opt.ret _ (Sum.inl ((15:Int),()))) (
 opt.need _ C<|
 opt.ask _ F (
 opt.ret _ (Sum.inr ((p.mdel a.1 (p.nat (p.ofNat (p.mpos a.1 G Bool.false A)))),a.2))) (
 opt.ret _ (Sum.inr a)))) (
 opt.ret _ (Sum.inl ((15:Int),()))))) (fun c=>
 opt.ret _ (Sum.inr (Sum.inl c))) (fun d=>
 opt.bnd (V37v) _ (some d) fun e=>
 opt.ret _ (Sum.inl (e.1,(e.2.1,(e.2.2.1,(e.2.2.2.1,(e.2.2.2.2.1,((p.ar .add .i64 e.2.2.2.2.2.1 (1:Int)),()))))))))) (
 opt.ret _ (Sum.inr (Sum.inr (a.1,(a.2.1,(a.2.2.1,())))))))
def G35:(p:Prim)→V25v→Option (V1v):=
 fun p x=>let F:=(0:Int);
 opt.bnd (V1v) _ (G78 p x) fun a=>
 opt.ask _ (p.cmp .neq a.1 F) (
 opt.ret _ a) (
 opt.bnd (V53v) _ (G79 p x.2) fun b=>
 opt.alt (V1v) ((List (V34v)×V25v)) _ (
 z1e (x7s p) (b.1,(x.1,(x.2.1,(x.1,((p.ofNat (p.len x.1)),(F,()))))))) (fun c=>
 opt.ret _ c) (fun d=>
 opt.bnd ((List (V34v)×V25v)) _ (some d) fun e=>
 opt.ask _ (p.cmp .gtr (p.ofNat (p.mlen e.1)) F) (
 opt.ret _ ((15:Int),())) (
 opt.bnd (V7v) _ (G66 p ([[(D.list Bool.false 4 e.2.1)]],())) fun f=>let B:=p.len f.2.2.1;
 opt.need _ (p.eqN 0 0)<|
 opt.need _ (p.eqN B B)<|
 opt.need _ (p.eqN B B)<|
 opt.bnd (V21v) _ (G67 p f) fun g=>let E:=p.len g.2.2.2.1;
 opt.bnd (V7v) _ (G66 p ([[(D.list Bool.false 4 e.2.2.1)]],())) fun h=>let A:=p.len h.2.2.1;
 opt.need _ (p.eqN 0 0)<|
 opt.need _ (p.eqN A A)<|
 opt.need _ (p.eqN A A)<|
 opt.bnd (V21v) _ (G67 p h) fun i=>let C:=p.len i.2.2.2.1;
 opt.need _ (p.and (p.leN (p.add 0 E) E) (p.and (p.leN (p.add 0 C) C) (p.and (p.and Bool.true Bool.true) Bool.true)))<|
 opt.bnd (V4v) _ (G81 p ((p.cut g.2.2.2.1 0 E),((p.cut i.2.2.2.1 0 C),()))) fun j=>
 opt.ask _ (bif j.1 then Bool.false else Bool.true) (
 opt.ret _ ((24:Int),())) (
 opt.ret _ (F,())))))
theorem ok35:CtrOk PG u1p (G35 std):=okF vD (a:=an35) (l:=la35) (gC t11 (gC u6g (gC ok79 (gC ok81 (gC t1x (gC ok78 (gN)))))))
end Go.Am
end
noncomputable section
namespace Go.Am
def x0a:Ctr:=
 ⟨57,[.list 1],[],[(.ret,⟨[(0, .lst 1)],[],1⟩)]⟩
def v73:(p:Prim)→V10v→Option (V10v):=
 fun p x=>let A:=p.ofNat (p.len x.1);let C:=p.nat A;let B:=p.rep C [(D.int .i64 (0:Int))];let E:=p.eqN C (p.len (p.splice B 0 x.1));
 opt.need _ (p.and (p.cmp .geq A (0:Int)) (p.and (p.cmp .leq A A) (p.cmp .leq A (1000000:Int))))<|
 opt.need _ (p.and Bool.true (p.and (p.leN (p.len x.1) C) (p.leN (p.add 0 C) (p.len B))))<|
 opt.need _ (p.eqN 0 0)<|
 opt.need _ E<|
 opt.need _ E<|
 opt.bnd (V10v) _ (v4e p ((p.splice B 0 x.1),())) fun a=>
 opt.bnd (V31v) _ (w77 p (a.1,(0,(C,(C,()))))) fun b=>
 opt.need _ (p.leN (p.add b.2.1 b.2.2.1) (p.len b.1))<|
 opt.need _ (p.eqN b.2.2.1 b.2.2.2.1)<|
 opt.ret _ ((p.cut b.1 b.2.1 b.2.2.1),())
def t2s:Prim→Tup (x0a).scs→Option (STup (scss (x0a).outs)):=
 fun p x=>v73 p x
theorem u9y (p:Prim) (x:Tup (x0a).scs):bodyRun opt p (autoEnvE [] PG) (mkOrc opt p (autoEnvE [] PG) 400 (t2h) t17) 400 x0a x=v73 p x:=by kernel_rfl
theorem w56:z3d PG 57:=enters_auto (b:=_) rfl (by kernel_rfl)
theorem u6i:CtrOk PG x0a (t2s std):=ctr_of_body (autoEnvE_ok follows_mixed) (mkOrc_ok (autoEnvE_ok follows_mixed) u8d _) w56 (fun x=>u9y std x)
end Go.Am
end
noncomputable section
namespace Go.Am
def u1w:Ctr:=
 ⟨27,[.list 4],[],[(.ret,⟨[(0, .tuple [.vec 0 1, .int .i64])],[o8m],1⟩)]⟩
def la27:List LA:=
 [⟨27,[fU,tU,fU,tU,tU,tU,tU],0,⟨⟨[(5, .map 0),(6, .vec 1 1),(20, .list 4),(21, .int .i64),(22, .int .i64)],[.map,o8m],72⟩,[((AX.exit 0),⟨[(6, .vec 0 1)],[o8m],72⟩)]⟩⟩,
 ⟨27,[fU,tU,fU,tU,tU,fU,fU,tU,tU,fU,fU,tU,fU,tU,tU,tU,tU],0,⟨⟨[(5, .map 0),(6, .vec 1 1),(8, .bptr 2 0),(9, .int .i64),(20, .list 4),(21, .int .i64),(22, .int .i64),(27, .list 1),(28, .int .i64),(29, .int .i64)],o17m,72⟩,[((AX.exit 2),⟨[(5, .map 0),(6, .vec 1 1),(8, .bptr 2 0),(9, .int .i64),(20, .list 4),(21, .int .i64),(22, .int .i64)],o17m,72⟩)]⟩⟩,
 ⟨27,[fU,tU,tU,tU,tU,tU,tU,fU,fU,tU,tU,fU,fU,tU,fU,tU,tU,tU,tU],0,⟨⟨[(5, .map 0),(6, .vec 1 1),(9, .int .i64),(20, .list 4),(21, .int .i64),(22, .int .i64),(59, .list 1),(60, .int .i64),(61, .int .i64)],[.map,o8m],72⟩,[((AX.exit 4),⟨[(5, .map 0),(6, .vec 1 1),(20, .list 4),(21, .int .i64),(22, .int .i64)],[.map,o8m],72⟩)]⟩⟩]
def ja27:List JA:=
 [⟨27,[fU,tU,tU,fU,fU,tU,tU,tU,tU,tU,tU,fU,fU,tU,tU,fU,fU,tU,fU,tU,tU,tU,tU],0,[(AX.normal,⟨[(5, .map 0),(6, .vec 1 1),(9, .int .i64),(20, .list 4),(21, .int .i64),(22, .int .i64),(59, .list 1),(60, .int .i64),(61, .int .i64)],[.map,o8m],72⟩)]⟩,
 ⟨27,[tU,fU,tU,tU,tU,fU,fU,tU,tU,fU,fU,tU,fU,tU,tU,tU,tU],0,[(AX.normal,⟨[(5, .map 0),(6, .vec 1 1),(8, .bptr 2 0),(9, .int .i64),(20, .list 4),(21, .int .i64),(22, .int .i64)],o17m,72⟩)]⟩,
 ⟨27,[fU,tU,tU,fU,fU,tU,fU,tU,tU,fU,fU,tU,tU,fU,fU,tU,fU,tU,tU,tU,tU],0,[(AX.normal,⟨[(5, .map 0),(6, .vec 1 1),(8, .bptr 2 0),(9, .int .i64),(20, .list 4),(21, .int .i64),(22, .int .i64),(27, .list 1),(28, .int .i64),(29, .int .i64)],o17m,72⟩)]⟩]
def u9m:List CF:=
 [⟨x0a,t2s⟩,⟨w6e,G19⟩]
def an27:Anns:=
 ⟨u9m,ja27,[]⟩
def w24 (p:Prim):V33v→Option (V33v⊕V54v):=
 fun a=>let C:=a.2.2.2.2.2.2.2.2.1;let A:=D.int .i64 (p.rdI a.2.2.2.2.2.2.1 (p.nat C) 0);let B:=p.eqN (p.len a.2.1) (p.len a.2.1);let E:=D.int .i64 (p.ar .add .i64 a.2.2.1 (1:Int));let F:=p.eqN 0 0; opt.run _ (
 opt.ask _ (p.cmp .lss C a.2.2.2.2.2.2.2.1) (
 opt.bnd (V33v) _ (
 opt.run (V33v) (
 opt.need _ (p.rowOk a.2.2.2.2.2.2.1 (p.nat C) [ci])<|
 opt.need _ (p.cmp .geq C (0:Int))<|
 opt.need _ (p.mOk a.1 [SK.i] Bool.false A Bool.false [ci])<|
 opt.ask _ (p.mhas a.1 [SK.i] Bool.false A) (
 opt.need _ F<|
 opt.need _ B<|
 opt.ret _ ((p.mset a.1 (p.nat (p.ofNat (p.mpos a.1 [SK.i] Bool.false A))) A E),a.2)) (
 opt.need _ F<|
 opt.need _ B<|
 opt.ret _ ((p.madd a.1 A E),a.2)))) fun b=>
 opt.need _ F<|
 opt.need _ (p.eqN (p.len b.2.1) (p.len b.2.1))<|
 opt.ret _ (Sum.inl (b.1,(b.2.1,(b.2.2.1,(b.2.2.2.1,(b.2.2.2.2.1,(b.2.2.2.2.2.1,(b.2.2.2.2.2.2.1,(b.2.2.2.2.2.2.2.1,((p.ar .add .i64 b.2.2.2.2.2.2.2.2.1 (1:Int)),()))))))))))) (
 opt.need _ F<|
 opt.need _ B<|
 opt.ret _ (Sum.inr (a.1,(a.2.1,(a.2.2.2.1,(a.2.2.2.2.1,(a.2.2.2.2.2.1,()))))))))
def w25 (p:Prim):V32v→Option (V32v⊕V52v):=
 fun a=>let H:=a.2.2.2.2.2.2.2.2.2.2.1;let B:=a.2.2.2.2.2.2.2.2.2.2.2.2.1;let A:=D.int .i64 (p.rdI H (p.nat B) 0);let C:=p.eqN (p.len a.2.1) (p.len a.2.1);let E:=p.eqN 0 0;let F:=a.2.2.2.2.2.2.1;let G:=a.2.2.2.2.2.1; opt.run _ (
 opt.ask _ (p.cmp .lss B a.2.2.2.2.2.2.2.2.2.2.2.1) (
 opt.bnd (V32v) _ (
 opt.run (V32v) (
 opt.need _ (p.rowOk H (p.nat B) [ci])<|
 opt.need _ (p.cmp .geq B (0:Int))<|
 opt.need _ (p.mOk a.1 [SK.i] Bool.false A Bool.false [ci])<|
 opt.ask _ (p.mhas a.1 [SK.i] Bool.false A) (
 opt.need _ E<|
 opt.need _ C<|
 opt.ret _ (a.1,(a.2.1,(a.2.2.1,(a.2.2.2.1,(a.2.2.2.2.1,(G,((p.mm .gtr F (p.mI a.1 [SK.i] Bool.false A 0)),a.2.2.2.2.2.2.2)))))))) (
 opt.need _ E<|
 opt.need _ C<|
 opt.ret _ (a.1,(a.2.1,(a.2.2.1,(a.2.2.2.1,(a.2.2.2.2.1,(G,((p.mm .gtr F (0:Int)),a.2.2.2.2.2.2.2)))))))))) fun b=>
 opt.need _ E<|
 opt.need _ (p.eqN (p.len b.2.1) (p.len b.2.1))<|
 opt.ret _ (Sum.inl (b.1,(b.2.1,(b.2.2.1,(b.2.2.2.1,(b.2.2.2.2.1,(b.2.2.2.2.2.1,(b.2.2.2.2.2.2.1,(b.2.2.2.2.2.2.2.1,(b.2.2.2.2.2.2.2.2.1,(b.2.2.2.2.2.2.2.2.2.1,(b.2.2.2.2.2.2.2.2.2.2.1,(b.2.2.2.2.2.2.2.2.2.2.2.1,((p.ar .add .i64 b.2.2.2.2.2.2.2.2.2.2.2.2.1 (1:Int)),()))))))))))))))) (
 opt.need _ E<|
 opt.need _ C<|
 opt.ret _ (Sum.inr (a.1,(a.2.1,(a.2.2.1,(a.2.2.2.1,(a.2.2.2.2.1,(G,(F,(a.2.2.2.2.2.2.2.1,(a.2.2.2.2.2.2.2.2.1,(a.2.2.2.2.2.2.2.2.2.1,())))))))))))))
def w26 (p:Prim):V54v→Option (V54v⊕V10v):=
 fun a=>let M:=(0:Int);let N:=a.2.2.2.2.1;let C:=p.nat N;let O:=[[(D.list Bool.true 0 [])]];let G:=p.eqN 0 0;let J:=a.2.2.1;let K:=p.len a.2.1;let Q:=p.rdL J C 2; opt.run _ (
 opt.ask _ (p.cmp .lss N a.2.2.2.1) (
 opt.need _ (p.rowOk J C [ci,ci,(CK.list 1),ci])<|
 opt.need _ (p.cmp .geq N M)<|
 opt.need _ G<|
 opt.need _ (p.eqN K K)<|
 opt.bnd (V52v) _ (
 z1e (w25 p) (a.1,(a.2.1,((p.rdI J C 0),((p.rdI J C 1),(Q,((p.rdI J C 3),(M,(J,(a.2.2.2.1,(N,(Q,((p.ofNat (p.len Q)),(M,())))))))))))))) fun b=>let E:=p.len b.2.1;let F:=p.app (p.cut b.2.1 0 E) (p.cut O 0 1);
 opt.bnd (V52v) _ (
 opt.run (V52v) (
 opt.ask _ (p.cmp .eql b.2.2.2.2.2.2.1 (p.ofNat E)) (
 opt.need _ (p.and (p.leN (p.add 0 1) (p.len O)) (p.and (p.leN (p.add 0 E) E) (p.and (p.leN 1 1) (p.leN (p.add E 1) 1000000))))<|
 opt.need _ G<|
 opt.need _ (p.eqN (p.add E 1) (p.len F))<|
 opt.ret _ (b.1,(F,b.2.2))) (
 opt.need _ G<|
 opt.need _ (p.eqN E E)<|
 opt.ret _ b))) fun c=>let I:=c.2.2.2.2.2.2.1;let A:=p.add 0 (p.nat I);let B:=bif (p.cmp .geq I M) then (p.cmp .lss I (p.ofNat (p.len c.2.1))) else Bool.false;let L:=p.rowOk c.2.1 A [(CK.list 1)];let P:=[[(D.int .i64 c.2.2.1)]];
 opt.need _ B<|
 opt.need _ L<|
 opt.ask _ (p.rdF c.2.1 A 0 1) (
 opt.need _ (p.and (p.leN (p.add 0 1) (p.len P)) (p.and (p.leN 1 1) (p.leN (p.add (p.len (p.rdL c.2.1 A 0)) 1) 1000000)))<|
 opt.bnd (V10v) _ (v73 p ((p.app (p.rdL c.2.1 A 0) (p.cut P 0 1)),())) fun d=>let H:=p.set c.2.1 A [(D.list Bool.true 1 d.1)];
 opt.need _ B<|
 opt.need _ L<|
 opt.need _ G<|
 opt.need _ (p.eqN (p.len c.2.1) (p.len H))<|
 opt.bnd (V54v) _ (
 z1e (w24 p) (c.1,(H,(I,(c.2.2.2.2.2.2.2.1,(c.2.2.2.2.2.2.2.2.1,(c.2.2.2.2.2.2.2.2.2.1,(c.2.2.2.2.1,((p.ofNat (p.len c.2.2.2.2.1)),(M,())))))))))) fun e=>
 opt.need _ G<|
 opt.need _ (p.eqN (p.len e.2.1) (p.len e.2.1))<|
 opt.ret _ (Sum.inl (e.1,(e.2.1,(e.2.2.1,(e.2.2.2.1,((p.ar .add .i64 e.2.2.2.2.1 (1:Int)),()))))))) (
 opt.no _ 41)) (
 opt.need _ G<|
 opt.need _ (p.eqN K K)<|
 opt.ret _ (Sum.inr (a.2.1,()))))
def G27:(p:Prim)→V10v→Option (V11v):=
 fun p x=>
 opt.bnd (V1v) _ (G19 p x) fun a=>
 opt.ask _ (p.cmp .neq a.1 (0:Int)) (
 opt.ret _ ([],a)) (
 opt.bnd (V10v) _ (
 z1e (w26 p) ([],([],(x.1,((p.ofNat (p.len x.1)),((0:Int),())))))) fun b=>
 opt.need _ (p.eqN 0 0)<|
 opt.need _ (p.eqN (p.len b.1) (p.len b.1))<|
 opt.ret _ (b.1,((0:Int),())))
theorem ok27:CtrOk PG u1w (G27 std):=okF vE1000003 (a:=an27) (l:=la27) (gC u6i (gC v9k (gN)))
end Go.Am
end
noncomputable section
namespace Go.Am
def u1i:Ctr:=
 ⟨70,[.bptr 0 0],o14m,[(.ret,⟨[(0, .tuple [])],o14m,1⟩)]⟩
def la70:List LA:=
 [⟨70,[fU,tU],4,⟨⟨[(0, .bptr 0 0),(8, .int .i64),(9, .int .i64)],o14m,52⟩,[((AX.exit 0),⟨[],o14m,52⟩)]⟩⟩,
 ⟨70,[fU,tU,tU,fU,fU,tU,tU,fU,fU,tU],4,⟨⟨[(0, .bptr 0 0),(2, .int .i64),(8, .int .i64),(9, .int .i64),(16, .int .i64),(17, .int .i64)],o14m,52⟩,[((AX.exit 2),⟨[(0, .bptr 0 0),(8, .int .i64),(9, .int .i64)],o14m,52⟩)]⟩⟩]
def ja70:List JA:=
 [⟨70,[tU,tU,fU,fU,tU,tU,fU,fU,tU,tU,fU,fU,tU,tU,fU,fU,tU],4,[(AX.normal,⟨[(0, .bptr 0 0),(2, .int .i64),(8, .int .i64),(9, .int .i64),(16, .int .i64),(17, .int .i64)],o14m,52⟩)]⟩]
def u8s:List CF:=
 [⟨v7c,G73⟩,⟨v0u,G74⟩]
def an70:Anns:=
 ⟨u8s,ja70,[]⟩
def w2u (p:Prim):V22v→Option (V22v⊕V28v):=
 fun a=>let H:=a.2.2.2.2.2.2.2.2.2.1;let A:=p.add 0 (p.nat H);let I:=a.2.2.1;let C:=p.len I;let B:=bif (p.cmp .geq H (0:Int)) then (p.cmp .lss H (p.ofNat C)) else Bool.false;let L:=CK.int .u64;let F:=p.rowOk I A [L,L];let K:=a.2.2.2.2.2.1;let G:=p.add 0 (p.nat K);let M:=p.eqN C C;let N:=p.eqN 0 0; opt.run _ (
 opt.ask _ (p.cmp .lss H a.2.2.2.2.2.2.2.2.1) (
 opt.need _ B<|
 opt.need _ F<|
 opt.bnd (V4v) _ (G74 p ((p.rdI I A 0),((p.rdI I A 1),(K,())))) fun b=>
 opt.bnd (V22v) _ (
 opt.run (V22v) (
 opt.ask _ b.1 (
 opt.need _ B<|
 opt.need _ F<|
 opt.need _ (bif (p.cmp .geq K (0:Int)) then (p.cmp .lss K (p.ofNat C)) else Bool.false)<|
 opt.need _ (p.rowOk I G [L,L])<|
 opt.bnd (V0v) _ (G73 p ((p.rdI I A 0),((p.rdI I A 1),((p.rdI I G 0),((p.rdI I G 1),()))))) fun c=>let E:=p.set I A [(D.int .u64 c.1),(D.int .u64 c.2.1)];
 opt.need _ B<|
 opt.need _ F<|
 opt.need _ N<|
 opt.need _ (p.eqN C (p.len E))<|
 opt.need _ (p.eqN C (p.len E))<|
 opt.ret _ (a.1,(a.2.1,(E,a.2.2.2)))) (
 opt.need _ N<|
 opt.need _ M<|
 opt.need _ M<|
 opt.ret _ a))) fun d=>let J:=p.len d.2.2.1;
 opt.need _ N<|
 opt.need _ (p.eqN J J)<|
 opt.need _ (p.eqN J J)<|
 opt.ret _ (Sum.inl (d.1,(d.2.1,(d.2.2.1,(d.2.2.2.1,(d.2.2.2.2.1,(d.2.2.2.2.2.1,(d.2.2.2.2.2.2.1,(d.2.2.2.2.2.2.2.1,(d.2.2.2.2.2.2.2.2.1,((p.ar .add .i64 d.2.2.2.2.2.2.2.2.2.1 (1:Int)),())))))))))))) (
 opt.need _ N<|
 opt.need _ M<|
 opt.need _ M<|
 opt.ret _ (Sum.inr (a.1,(a.2.1,(I,(a.2.2.2.1,(a.2.2.2.2.1,(a.2.2.2.2.2.2.1,(a.2.2.2.2.2.2.2.1,()))))))))))
def w61 (p:Prim):V28v→Option (V28v⊕V7v):=
 fun a=>let A:=p.eqN (p.len a.2.2.1) (p.len a.2.2.1);let C:=a.2.2.2.2.2.2.1; opt.run _ (
 opt.ask _ (p.cmp .lss C a.2.2.2.2.2.1) (
 opt.need _ (p.eqN 0 0)<|
 opt.need _ A<|
 opt.need _ A<|
 opt.bnd (V28v) _ (
 z1e (w2u p) (a.1,(a.2.1,(a.2.2.1,(a.2.2.2.1,(a.2.2.2.2.1,(C,(a.2.2.2.2.2.1,(C,((p.ofNat a.2.2.2.2.1),((0:Int),()))))))))))) fun b=>let B:=p.len b.2.2.1;
 opt.need _ (p.eqN 0 0)<|
 opt.need _ (p.eqN B B)<|
 opt.need _ (p.eqN B B)<|
 opt.ret _ (Sum.inl (b.1,(b.2.1,(b.2.2.1,(b.2.2.2.1,(b.2.2.2.2.1,(b.2.2.2.2.2.1,((p.ar .add .i64 b.2.2.2.2.2.2.1 (1:Int)),()))))))))) (
 opt.need _ (p.eqN 0 0)<|
 opt.need _ A<|
 opt.need _ A<|
 opt.ret _ (Sum.inr (a.1,(a.2.1,(a.2.2.1,(a.2.2.2.1,(a.2.2.2.2.1,()))))))))
def G70:(p:Prim)→V7v→Option (V7v):=
 fun p x=>let A:=p.len x.2.2.1;
 opt.need _ (p.eqN 0 0)<|
 opt.need _ (p.eqN A A)<|
 opt.need _ (p.eqN A A)<|
 opt.bnd (V7v) _ (
 z1e (w61 p) (x.1,(x.2.1,(x.2.2.1,(x.2.2.2.1,(x.2.2.2.2.1,((p.ofNat x.2.2.2.2.1),((0:Int),())))))))) fun a=>let B:=p.len a.2.2.1;
 opt.need _ (p.eqN 0 0)<|
 opt.need _ (p.eqN B B)<|
 opt.need _ (p.eqN B B)<|
 opt.ret _ a
theorem ok70:CtrOk PG u1i (G70 std):=okF vE (a:=an70) (l:=la70) (gC t10 (gC u6e (gN)))
end Go.Am
end
noncomputable section
namespace Go.Am
def u1t:Ctr:=
 ⟨31,[.list 4, .int .i64],[],[(.ret,⟨[(0, .tuple [.vec 0 4, .int .i64])],[o5m],1⟩)]⟩
def la31:List LA:=
 [⟨31,[fU,tU,fU,tU,tU,tU,tU,tU,tU],0,⟨⟨[(0, .list 4),(1, .int .i64),(7, .bptr 0 0),(8, .bptr 1 0),(29, .list 4),(30, .int .i64),(31, .int .i64)],[o4m,o7m,o5m, .map,o2m],71⟩,[((AX.exit 0),⟨[(0, .list 4),(8, .bptr 0 0)],[o7m],71⟩)]⟩⟩,
 ⟨31,[fU,tU,fU,tU,tU,tU,tU,tU,tU,tU,tU,tU],0,⟨⟨[(11, .vec 0 4),(12, .clo 74 [.agg [.int .u64, .int .u64]] []),(54, .list 4),(55, .int .i64),(56, .int .i64)],[o5m],71⟩,[((AX.exit 2),⟨[(11, .vec 0 4)],[o5m],71⟩)]⟩⟩]
def ja31:List JA:=
 [⟨31,[tU,tU,fU,fU,tU,tU,fU,fU,tU,fU,tU,tU,tU,tU,tU,tU,tU,tU,tU],0,[(AX.normal,⟨[(11, .vec 0 4),(12, .clo 74 [.agg [.int .u64, .int .u64]] []),(54, .list 4),(55, .int .i64),(56, .int .i64)],[o5m],71⟩)]⟩,
 ⟨31,[tU,tU,fU,fU,tU,tU,fU,fU,tU,fU,tU,tU,tU,tU,tU,tU],0,[(AX.normal,⟨[(0, .list 4),(1, .int .i64),(7, .bptr 0 0),(8, .bptr 1 0),(29, .list 4),(30, .int .i64),(31, .int .i64)],[o4m,o7m,o5m, .map,o2m],71⟩)]⟩]
def u9j:List CF:=
 [⟨u1i,G70⟩,⟨v0w,G66⟩,⟨v7b,G75⟩,⟨v0u,G74⟩,⟨v7c,G73⟩,⟨v0v,G72⟩,⟨u1h,G71⟩,⟨v7f,G56⟩,⟨w6e,G19⟩]
def an31:Anns:=
 ⟨u9j,ja31,[]⟩
def w21 (p:Prim):(LD×V2v)→Option ((LD×V2v)⊕V10v):=
 fun a=>let B:=p.len a.1;let H:=a.2.2.2.2.2.1;let C:=p.nat H;let F:=a.2.2.2.1;let G:=p.eqN 0 0; opt.run _ (
 opt.ask _ (p.cmp .lss H a.2.2.2.2.1) (
 opt.need _ (p.rowOk F C [ci,ci,(CK.list 1),ci])<|
 opt.need _ (p.cmp .geq H (0:Int))<|
 opt.bnd (V4v) _ (G74 p (a.2.1,(a.2.2.1,a.2.2.2.2.2))) fun b=>
 opt.bnd ((LD×V2v)) _ (
 opt.run ((LD×V2v)) (
 opt.ask _ b.1 (
 opt.bnd (V18v) _ (G75 p ((p.rdI F C 0),((p.rdI F C 1),((p.rdL F C 2),((p.rdI F C 3),()))))) fun c=>let A:=[[(D.int .i64 c.1),(D.int .i64 c.2.1),(D.list Bool.false 1 c.2.2.1),(D.int .i64 c.2.2.2.1)]];let E:=p.app (p.cut a.1 0 B) (p.cut A 0 1);
 opt.need _ (p.and (p.leN (p.add 0 1) (p.len A)) (p.and (p.leN (p.add 0 B) B) (p.and (p.leN 1 1) (p.leN (p.add B 1) 1000000))))<|
 opt.need _ G<|
 opt.need _ (p.eqN (p.add B 1) (p.len E))<|
 opt.ret _ (E,a.2)) (
 opt.need _ G<|
 opt.need _ (p.eqN B B)<|
 opt.ret _ a))) fun d=>
 opt.need _ G<|
 opt.need _ (p.eqN (p.len d.1) (p.len d.1))<|
 opt.ret _ (Sum.inl (d.1,(d.2.1,(d.2.2.1,(d.2.2.2.1,(d.2.2.2.2.1,((p.ar .add .i64 d.2.2.2.2.2.1 (1:Int)),())))))))) (
 opt.need _ G<|
 opt.need _ (p.eqN B B)<|
 opt.ret _ (Sum.inr (a.1,()))))
def w22 (p:Prim):V17v→Option (V17v⊕V43v):=
 fun a=>let A:=a.2.2.2.2.2.2.2.2.2.2.2.1;let F:=a.2.2.1;let B:=p.eqN (p.len F) (p.len F);let E:=p.add 0 (p.nat A);let G:=p.cmp .geq A (0:Int); opt.run _ (
 opt.ask _ (p.cmp .lss A a.2.2.2.2.2.2.2.2.2.2.1) (
 opt.need _ (p.rowOk a.2.2.2.2.2.2.2.2.2.1 (p.nat A) [ci,ci,(CK.list 1),ci])<|
 opt.need _ G<|
 opt.bnd (V4v) _ (G71 p ((p.rdL a.2.2.2.2.2.2.2.2.2.1 (p.nat A) 2),(a.2.2.2.2.2.2.2.2.1,()))) fun b=>
 opt.bnd (V17v) _ (
 opt.run (V17v) (
 opt.ask _ b.1 (
 opt.bnd (V0v) _ (G72 p (a.2.2.2.2.2.1,(a.2.2.2.2.2.2.1,a.2.2.2.2.2.2.2.2.2.2.2))) fun c=>
 opt.need _ (bif G then (p.cmp .lss A (p.ofNat (p.len F))) else Bool.false)<|
 opt.need _ (p.rowOk F E [(CK.int .u64),(CK.int .u64)])<|
 opt.bnd (V0v) _ (G73 p (c.1,(c.2.1,((p.rdI F E 0),((p.rdI F E 1),()))))) fun d=>
 opt.need _ (p.eqN 0 0)<|
 opt.need _ B<|
 opt.need _ B<|
 opt.ret _ (a.1,(a.2.1,(F,(a.2.2.2.1,(a.2.2.2.2.1,(d.1,(d.2.1,a.2.2.2.2.2.2.2)))))))) (
 opt.need _ (p.eqN 0 0)<|
 opt.need _ B<|
 opt.need _ B<|
 opt.ret _ a))) fun e=>let C:=p.len e.2.2.1;
 opt.need _ (p.eqN 0 0)<|
 opt.need _ (p.eqN C C)<|
 opt.need _ (p.eqN C C)<|
 opt.ret _ (Sum.inl (e.1,(e.2.1,(e.2.2.1,(e.2.2.2.1,(e.2.2.2.2.1,(e.2.2.2.2.2.1,(e.2.2.2.2.2.2.1,(e.2.2.2.2.2.2.2.1,(e.2.2.2.2.2.2.2.2.1,(e.2.2.2.2.2.2.2.2.2.1,(e.2.2.2.2.2.2.2.2.2.2.1,((p.ar .add .i64 e.2.2.2.2.2.2.2.2.2.2.2.1 (1:Int)),())))))))))))))) (
 opt.ret _ (Sum.inr (a.2.2.2.2.2.1,(a.2.2.2.2.2.2.1,(a.2.2.2.2.2.2.2.1,()))))))
def G31:(p:Prim)→V11v→Option (V11v):=
 fun p x=>let C:=(0:Int);
 opt.bnd (V1v) _ (G19 p (x.1,())) fun a=>
 opt.ask _ (p.cmp .neq a.1 C) (
 opt.ret _ ([],a)) (
 opt.bnd (V4v) _ (G56 p ((1:Int),((1099511627776:Int),([[(D.int .i64 x.2.1)]],())))) fun b=>
 opt.ask _ (bif b.1 then Bool.false else Bool.true) (
 opt.ret _ ([],((3:Int),()))) (
 opt.bnd (V7v) _ (G66 p ([[(D.list Bool.false 4 x.1)]],())) fun c=>let B:=p.len c.2.2.1;
 opt.need _ (p.eqN 0 0)<|
 opt.need _ (p.eqN B B)<|
 opt.need _ (p.eqN B B)<|
 opt.bnd (V7v) _ (G70 p c) fun d=>let A:=p.len d.2.2.1;
 opt.need _ (p.eqN 0 0)<|
 opt.need _ (p.eqN A A)<|
 opt.need _ (p.eqN A A)<|
 opt.bnd (V43v) _ (
 z1e (w22 p) (d.1,(d.2.1,(d.2.2.1,(d.2.2.2.1,(d.2.2.2.2.1,(C,(C,(x.1,(x.2.1,(x.1,((p.ofNat (p.len x.1)),(C,()))))))))))))) fun e=>
 opt.bnd (V10v) _ (
 z1e (w21 p) ([],(e.1,(e.2.1,(e.2.2.1,((p.ofNat (p.len e.2.2.1)),(C,()))))))) fun f=>
 opt.need _ (p.eqN 0 0)<|
 opt.need _ (p.eqN (p.len f.1) (p.len f.1))<|
 opt.ret _ (f.1,(C,()))))
theorem ok31:CtrOk PG u1t (G31 std):=okF vE (a:=an31) (l:=la31) (gC ok70 (gC u6g (gC t1z (gC u6e (gC t10 (gC u6f (gC ok71 (gC t13 (gC v9k (gN))))))))))
end Go.Am
end
noncomputable section
namespace Go.Am
def u1n:Ctr:=
 ⟨43,[.list 4, .int .i64],[],[(.ret,⟨[(0, .int .i64)],[],1⟩)]⟩
def la43:List LA:=
 [⟨43,[fU,tU,fU,tU],0,⟨⟨[(0, .list 4),(1, .int .i64),(5, .int .i64)],[],20⟩,[(AX.ret,⟨[(4, .int .i64)],[],20⟩),((AX.exit 0),⟨[],[],20⟩)]⟩⟩]
def ja43:List JA:=
 []
def u9d:List CF:=
 []
def an43:Anns:=
 ⟨u9d,ja43,[]⟩
def w7a (p:Prim):V39v→Option (V39v⊕(V1v⊕Unit)):=
 fun a=>let A:=a.2.2.1; opt.run _ (
 opt.ask _ (p.cmp .lss A (p.ofNat (p.len a.1))) (
 opt.need _ (p.rowOk a.1 (p.nat A) [ci,ci,(CK.list 1),ci])<|
 opt.need _ (p.cmp .geq A (0:Int))<|
 opt.ask _ (p.cmp .eql (p.rdI a.1 (p.nat A) 0) a.2.1) (
 opt.ret _ (Sum.inr (Sum.inl a.2.2))) (
 opt.ret _ (Sum.inl (a.1,(a.2.1,((p.ar .add .i64 A (1:Int)),())))))) (
 opt.ret _ (Sum.inr (Sum.inr ()))))
def G43:(p:Prim)→V11v→Option (V1v):=
 fun p x=>
 opt.alt (V1v) (Unit) _ (
 z1e (w7a p) (x.1,(x.2.1,((0:Int),())))) (fun a=>
 opt.ret _ a) (fun b=>
 opt.bnd (Unit) _ (some b) fun c=>
 opt.ret _ ((-1:Int),()))
theorem ok43:CtrOk PG u1n (G43 std):=okF vE (a:=an43) (l:=la43) (gN)
def v0y:Ctr:=
 ⟨44,[.agg [.int .i64, .int .i64, .list 1, .int .i64], .agg [.int .i64, .int .i64, .list 1, .int .i64]],[],[(.ret,⟨[(0, .bool)],[],1⟩)]⟩
def la44:List LA:=
 [⟨44,[fU,tU,fU,tU],0,⟨⟨[(2, .bptr 0 0),(3, .bptr 1 0),(5, .int .i64)],[o0m,o0m],32⟩,[(AX.ret,⟨[(4, .bool)],[],32⟩),((AX.exit 0),⟨[],[],32⟩)]⟩⟩,
 ⟨44,[fU,tU,fU,fU,tU,fU,fU,tU,fU,tU],0,⟨⟨[(2, .bptr 0 0),(3, .bptr 1 0),(5, .int .i64),(6, .int .i64)],[o0m,o0m],32⟩,[(AX.ret,⟨[(4, .bool)],[],32⟩),((AX.exit 2),⟨[(2, .bptr 0 0),(3, .bptr 1 0),(5, .int .i64)],[o0m,o0m],32⟩)]⟩⟩]
def ja44:List JA:=
 []
def u9c:List CF:=
 []
def an44:Anns:=
 ⟨u9c,ja44,[]⟩
def w68 (p:Prim):(Int×(Int×(LD×(Int×V42v))))→Option ((Int×(Int×(LD×(Int×V42v))))⊕(V4v⊕V24v)):=
 fun a=>let A:=a.2.2.2.2.2.2.2.2.2.1;let B:=a.2.2.2.2.2.2.2.2.1;let C:=a.2.2.2.2.2.2.1; opt.run _ (
 opt.ask _ (p.cmp .lss A (p.ofNat (p.len C))) (
 opt.need _ (p.rowOk a.2.2.1 (p.nat B) [ci])<|
 opt.need _ (p.cmp .geq B (0:Int))<|
 opt.need _ (p.rowOk C (p.nat A) [ci])<|
 opt.need _ (p.cmp .geq A (0:Int))<|
 opt.ask _ (p.cmp .eql (p.rdI a.2.2.1 (p.nat B) 0) (p.rdI C (p.nat A) 0)) (
 opt.ret _ (Sum.inr (Sum.inl (Bool.true,())))) (
 opt.ret _ (Sum.inl (a.1,(a.2.1,(a.2.2.1,(a.2.2.2.1,(a.2.2.2.2.1,(a.2.2.2.2.2.1,(C,(a.2.2.2.2.2.2.2.1,(B,((p.ar .add .i64 A (1:Int)),()))))))))))))) (
 opt.ret _ (Sum.inr (Sum.inr (a.1,(a.2.1,(a.2.2.1,(a.2.2.2.1,(a.2.2.2.2.1,(a.2.2.2.2.2.1,(C,(a.2.2.2.2.2.2.2.1,(B,())))))))))))))
def w69 (p:Prim):V24v→Option (V24v⊕(V4v⊕Unit)):=
 fun a=>opt.run _ (
 opt.ask _ (p.cmp .lss a.2.2.2.2.2.2.2.2.1 (p.ofNat (p.len a.2.2.1))) (
 opt.alt (V4v) (V24v) _ (
 z1e (w68 p) (a.1,(a.2.1,(a.2.2.1,(a.2.2.2.1,(a.2.2.2.2.1,(a.2.2.2.2.2.1,(a.2.2.2.2.2.2.1,(a.2.2.2.2.2.2.2.1,(a.2.2.2.2.2.2.2.2.1,((0:Int),()))))))))))) (fun b=>
 opt.ret _ (Sum.inr (Sum.inl b))) (fun c=>
 opt.bnd (V24v) _ (some c) fun d=>
 opt.ret _ (Sum.inl (d.1,(d.2.1,(d.2.2.1,(d.2.2.2.1,(d.2.2.2.2.1,(d.2.2.2.2.2.1,(d.2.2.2.2.2.2.1,(d.2.2.2.2.2.2.2.1,((p.ar .add .i64 d.2.2.2.2.2.2.2.2.1 (1:Int)),())))))))))))) (
 opt.ret _ (Sum.inr (Sum.inr ()))))
def G44:(p:Prim)→V45v→Option (V4v):=
 fun p x=>
 opt.alt (V4v) (Unit) _ (
 z1e (w69 p) (x.1,(x.2.1,(x.2.2.1,(x.2.2.2.1,(x.2.2.2.2.1,(x.2.2.2.2.2.1,(x.2.2.2.2.2.2.1,(x.2.2.2.2.2.2.2.1,((0:Int),())))))))))) (fun a=>
 opt.ret _ a) (fun b=>
 opt.bnd (Unit) _ (some b) fun c=>
 opt.ret _ (Bool.false,()))
theorem v0i:z3d PG 44:=enters_auto (b:=_) rfl (by kernel_rfl)
theorem u4o:CtrOk PG v0y (G44 std):=okF vE (a:=an44) (l:=la44) (gN)
def v7a:Ctr:=
 ⟨77,[.agg [.int .i64, .int .i64, .list 1, .int .i64], .agg [.int .i64, .int .i64, .list 1, .int .i64]],[],[(.ret,⟨[(0, .bool)],[],1⟩)]⟩
def la77:List LA:=
 [⟨77,[fU,tU,fU,tU,tU],0,⟨⟨[(2, .bptr 0 0),(3, .bptr 1 0),(5, .int .i64)],[o0m,o0m],52⟩,[(AX.ret,⟨[(4, .bool)],[],52⟩),((AX.exit 0),⟨[],[],52⟩)]⟩⟩]
def ja77:List JA:=
 [⟨77,[fU,fU,tU],0,[(AX.normal,⟨[(2, .bptr 0 0),(3, .bptr 1 0),(33, .bool)],[o0m,o0m],52⟩)]⟩]
def u8l:List CF:=
 []
def an77:Anns:=
 ⟨u8l,ja77,[]⟩
def w60 (p:Prim):V24v→Option (V24v⊕(V4v⊕Unit)):=
 fun a=>let A:=a.2.2.2.2.2.2.2.2.1;let B:=a.2.2.2.2.2.2.1;let C:=p.cmp .geq A (0:Int);let E:=p.nat A; opt.run _ (
 opt.ask _ (p.cmp .lss A (p.ofNat (p.len a.2.2.1))) (
 opt.need _ (p.rowOk a.2.2.1 E [ci])<|
 opt.need _ C<|
 opt.need _ (p.rowOk B E [ci])<|
 opt.need _ C<|
 opt.ask _ (p.cmp .neq (p.rdI a.2.2.1 E 0) (p.rdI B E 0)) (
 opt.ret _ (Sum.inr (Sum.inl (Bool.false,())))) (
 opt.ret _ (Sum.inl (a.1,(a.2.1,(a.2.2.1,(a.2.2.2.1,(a.2.2.2.2.1,(a.2.2.2.2.2.1,(B,(a.2.2.2.2.2.2.2.1,((p.ar .add .i64 A (1:Int)),())))))))))))) (
 opt.ret _ (Sum.inr (Sum.inr ()))))
def G77:(p:Prim)→V45v→Option (V4v):=
 fun p x=>let E:=x.2.2.2.2.2.1;let C:=x.2.2.2.2.2.2.1;let B:=x.2.2.2.2.2.2.2.1;let A:=(x.1,(x.2.1,(x.2.2.1,(x.2.2.2.1,(x.2.2.2.2.1,(E,(C,(B,(Bool.true,())))))))));
 opt.bnd ((Int×(Int×(LD×(Int×V41v))))) _ (
 opt.run ((Int×(Int×(LD×(Int×V41v))))) (
 opt.ask _ (p.cmp .neq x.1 x.2.2.2.2.1) (
 opt.ret _ A) (
 opt.ask _ (p.cmp .neq x.2.1 E) (
 opt.ret _ A) (
 opt.ask _ (p.cmp .neq x.2.2.2.1 B) (
 opt.ret _ A) (
 opt.ret _ (x.1,(x.2.1,(x.2.2.1,(x.2.2.2.1,(x.2.2.2.2.1,(E,(C,(B,((p.cmp .neq (p.ofNat (p.len x.2.2.1)) (p.ofNat (p.len C))),())))))))))))))) fun a=>
 opt.ask _ a.2.2.2.2.2.2.2.2.1 (
 opt.ret _ (Bool.false,())) (
 opt.alt (V4v) (Unit) _ (
 z1e (w60 p) (a.1,(a.2.1,(a.2.2.1,(a.2.2.2.1,(a.2.2.2.2.1,(a.2.2.2.2.2.1,(a.2.2.2.2.2.2.1,(a.2.2.2.2.2.2.2.1,((0:Int),())))))))))) (fun b=>
 opt.ret _ b) (fun c=>
 opt.bnd (Unit) _ (some c) fun d=>
 opt.ret _ (Bool.true,())))
theorem t1y:CtrOk PG v7a (G77 std):=okF vE (a:=an77) (l:=la77) (gN)
def u1q:Ctr:=
 ⟨34,[.list 4, .list 4],[],[(.ret,⟨[(0, .bool)],[],1⟩)]⟩
def la34:List LA:=
 [⟨34,[fU,tU,fU,tU,tU],0,⟨⟨[(0, .list 4),(1, .list 4),(5, .int .i64)],[],27⟩,[(AX.ret,⟨[(4, .bool)],[],27⟩),((AX.exit 0),⟨[],[],27⟩)]⟩⟩]
def ja34:List JA:=
 []
def u9g:List CF:=
 [⟨v7a,G77⟩]
def an34:Anns:=
 ⟨u9g,ja34,[]⟩
def v7o (p:Prim):V19v→Option (V19v⊕(V4v⊕Unit)):=
 fun a=>let A:=p.nat a.2.2.1;let B:=p.cmp .geq a.2.2.1 (0:Int);let C:=[ci,ci,(CK.list 1),ci]; opt.run _ (
 opt.ask _ (p.cmp .lss a.2.2.1 (p.ofNat (p.len a.1))) (
 opt.need _ (p.rowOk a.1 A C)<|
 opt.need _ B<|
 opt.need _ (p.rowOk a.2.1 A C)<|
 opt.need _ B<|
 opt.bnd (V4v) _ (G77 p ((p.rdI a.1 A 0),((p.rdI a.1 A 1),((p.rdL a.1 A 2),((p.rdI a.1 A 3),((p.rdI a.2.1 A 0),((p.rdI a.2.1 A 1),((p.rdL a.2.1 A 2),((p.rdI a.2.1 A 3),()))))))))) fun b=>
 opt.ask _ (bif b.1 then Bool.false else Bool.true) (
 opt.ret _ (Sum.inr (Sum.inl (Bool.false,())))) (
 opt.ret _ (Sum.inl (a.1,(a.2.1,((p.ar .add .i64 a.2.2.1 (1:Int)),())))))) (
 opt.ret _ (Sum.inr (Sum.inr ()))))
def G34:(p:Prim)→V25v→Option (V4v):=
 fun p x=>
 opt.ask _ (p.cmp .neq (p.ofNat (p.len x.1)) (p.ofNat (p.len x.2.1))) (
 opt.ret _ (Bool.false,())) (
 opt.alt (V4v) (Unit) _ (
 z1e (v7o p) (x.1,(x.2.1,((0:Int),())))) (fun a=>
 opt.ret _ a) (fun b=>
 opt.bnd (Unit) _ (some b) fun c=>
 opt.ret _ (Bool.true,())))
theorem ok34:CtrOk PG u1q (G34 std):=okF vE (a:=an34) (l:=la34) (gC t1y (gN))
def u1g:Ctr:=
 ⟨76,[.list 1, .list 1],[],[(.ret,⟨[(0, .bool)],[],1⟩)]⟩
def la76:List LA:=
 [⟨76,[fU,tU,fU,tU,tU],0,⟨⟨[(0, .list 1),(1, .list 1),(5, .int .i64)],[],26⟩,[(AX.ret,⟨[(4, .bool)],[],26⟩),((AX.exit 0),⟨[],[],26⟩)]⟩⟩]
def ja76:List JA:=
 []
def u8m:List CF:=
 []
def an76:Anns:=
 ⟨u8m,ja76,[]⟩
def v7n (p:Prim):V19v→Option (V19v⊕(V4v⊕Unit)):=
 fun a=>let A:=p.nat a.2.2.1;let B:=p.cmp .geq a.2.2.1 (0:Int); opt.run _ (
 opt.ask _ (p.cmp .lss a.2.2.1 (p.ofNat (p.len a.1))) (
 opt.need _ (p.rowOk a.1 A [ci])<|
 opt.need _ B<|
 opt.need _ (p.rowOk a.2.1 A [ci])<|
 opt.need _ B<|
 opt.ask _ (p.cmp .neq (p.rdI a.1 A 0) (p.rdI a.2.1 A 0)) (
 opt.ret _ (Sum.inr (Sum.inl (Bool.false,())))) (
 opt.ret _ (Sum.inl (a.1,(a.2.1,((p.ar .add .i64 a.2.2.1 (1:Int)),())))))) (
 opt.ret _ (Sum.inr (Sum.inr ()))))
def G76:(p:Prim)→V25v→Option (V4v):=
 fun p x=>
 opt.ask _ (p.cmp .neq (p.ofNat (p.len x.1)) (p.ofNat (p.len x.2.1))) (
 opt.ret _ (Bool.false,())) (
 opt.alt (V4v) (Unit) _ (
 z1e (v7n p) (x.1,(x.2.1,((0:Int),())))) (fun a=>
 opt.ret _ a) (fun b=>
 opt.bnd (Unit) _ (some b) fun c=>
 opt.ret _ (Bool.true,())))
theorem ok76:CtrOk PG u1g (G76 std):=okF vE (a:=an76) (l:=la76) (gN)
def u1r:Ctr:=
 ⟨33,[.list 1, .list 1],[],[(.ret,⟨[(0, .bool)],[],1⟩)]⟩
def la33:List LA:=
 [⟨33,[fU,tU,fU,tU,tU],0,⟨⟨[(0, .list 1),(1, .list 1),(5, .int .i64)],[],27⟩,[(AX.ret,⟨[(4, .bool)],[],27⟩),((AX.exit 0),⟨[],[],27⟩)]⟩⟩]
def ja33:List JA:=
 []
def u9h:List CF:=
 [⟨u1g,G76⟩]
def an33:Anns:=
 ⟨u9h,ja33,[]⟩
def v7p (p:Prim):V19v→Option (V19v⊕(V4v⊕Unit)):=
 fun a=>let A:=p.nat a.2.2.1;let B:=p.cmp .geq a.2.2.1 (0:Int); opt.run _ (
 opt.ask _ (p.cmp .lss a.2.2.1 (p.ofNat (p.len a.1))) (
 opt.need _ (p.rowOk a.1 A [(CK.list 1)])<|
 opt.need _ B<|
 opt.need _ (p.rowOk a.2.1 A [(CK.list 1)])<|
 opt.need _ B<|
 opt.bnd (V4v) _ (G76 p ((p.rdL a.1 A 0),((p.rdL a.2.1 A 0),()))) fun b=>
 opt.ask _ (bif b.1 then Bool.false else Bool.true) (
 opt.ret _ (Sum.inr (Sum.inl (Bool.false,())))) (
 opt.ret _ (Sum.inl (a.1,(a.2.1,((p.ar .add .i64 a.2.2.1 (1:Int)),())))))) (
 opt.ret _ (Sum.inr (Sum.inr ()))))
def G33:(p:Prim)→V25v→Option (V4v):=
 fun p x=>
 opt.ask _ (p.cmp .neq (p.ofNat (p.len x.1)) (p.ofNat (p.len x.2.1))) (
 opt.ret _ (Bool.false,())) (
 opt.alt (V4v) (Unit) _ (
 z1e (v7p p) (x.1,(x.2.1,((0:Int),())))) (fun a=>
 opt.ret _ a) (fun b=>
 opt.bnd (Unit) _ (some b) fun c=>
 opt.ret _ (Bool.true,())))
theorem ok33:CtrOk PG u1r (G33 std):=okF vE (a:=an33) (l:=la33) (gC ok76 (gN))
def u1z:Ctr:=
 ⟨15,[.list 4],[],[(.ret,⟨[(0, .bool)],[],1⟩)]⟩
def la15:List LA:=
 [⟨15,[fU,tU,fU,tU,tU],0,⟨⟨[(0, .list 4),(3, .int .i64)],[],20⟩,[(AX.ret,⟨[(2, .bool)],[],20⟩),((AX.exit 0),⟨[],[],20⟩)]⟩⟩]
def ja15:List JA:=
 []
def u9r:List CF:=
 []
def an15:Anns:=
 ⟨u9r,ja15,[]⟩
def w7i (p:Prim):V11v→Option (V11v⊕(V4v⊕Unit)):=
 fun a=>opt.run _ (
 opt.ask _ (p.cmp .lss a.2.1 (p.ofNat (p.len a.1))) (
 opt.need _ (p.rowOk a.1 (p.nat a.2.1) [ci,ci,(CK.list 1),ci])<|
 opt.need _ (p.cmp .geq a.2.1 (0:Int))<|
 opt.ask _ (p.cmp .gtr (p.ofNat (p.len (p.rdL a.1 (p.nat a.2.1) 2))) (10:Int)) (
 opt.ret _ (Sum.inr (Sum.inl (Bool.true,())))) (
 opt.ret _ (Sum.inl (a.1,((p.ar .add .i64 a.2.1 (1:Int)),()))))) (
 opt.ret _ (Sum.inr (Sum.inr ()))))
def G15:(p:Prim)→V10v→Option (V4v):=
 fun p x=>
 opt.ask _ (p.cmp .gtr (p.ofNat (p.len x.1)) (70:Int)) (
 opt.ret _ (Bool.true,())) (
 opt.alt (V4v) (Unit) _ (
 z1e (w7i p) (x.1,((0:Int),()))) (fun a=>
 opt.ret _ a) (fun b=>
 opt.bnd (Unit) _ (some b) fun c=>
 opt.ret _ (Bool.false,())))
theorem ok15:CtrOk PG u1z (G15 std):=okF vE (a:=an15) (l:=la15) (gN)
def v7e:Ctr:=
 ⟨58,[.int .i64],[],[(.ret,⟨[(0, .bool)],[],1⟩)]⟩
def la58:List LA:=
 []
def ja58:List JA:=
 [⟨58,[fU,tU],0,[(AX.normal,⟨[(2, .bool)],[],9⟩)]⟩]
def u8z:List CF:=
 []
def an58:Anns:=
 ⟨u8z,ja58,[]⟩
def G58:(p:Prim)→V1v→Option (V4v):=
 fun p x=>
 opt.bnd (V4v) _ (
 opt.run (V4v) (
 opt.ask _ (p.cmp .geq x.1 (1:Int)) (
 opt.ret _ ((p.cmp .leq x.1 (1099511627776:Int)),())) (
 opt.ret _ (Bool.false,())))) fun a=>
 opt.ret _ a
theorem t12:CtrOk PG v7e (G58 std):=okF vE (a:=an58) (l:=la58) (gN)
def u1l:Ctr:=
 ⟨59,[.int .i64],[],[(.ret,⟨[(0, .int .i64)],[],1⟩)]⟩
def la59:List LA:=
 []
def ja59:List JA:=
 [⟨59,[tU,fU,tU,tU,fU,tU,fU,tU],0,[(AX.normal,⟨[(3, .int .i64),(8, .bool)],[],13⟩)]⟩,
 ⟨59,[tU,tU,tU,fU,fU,tU,fU,tU],0,[(AX.normal,⟨[(3, .int .i64),(4, .bool)],[],13⟩)]⟩,
 ⟨59,[tU,fU,fU,tU,fU,tU],0,[(AX.normal,⟨[(3, .int .i64),(4, .bool)],[],13⟩)]⟩,
 ⟨59,[tU,fU,tU,fU,tU],0,[(AX.ret,⟨[(2, .int .i64)],[],13⟩),(AX.normal,⟨[],[],13⟩)]⟩,
 ⟨59,[tU,tU,tU,fU,tU,fU,tU],0,[(AX.ret,⟨[(2, .int .i64)],[],13⟩),(AX.normal,⟨[],[],13⟩)]⟩]
def u8y:List CF:=
 []
def an59:Anns:=
 ⟨u8y,ja59,[]⟩
def G59:(p:Prim)→V1v→Option (V1v):=
 fun p x=>let A:=(x.1,(Bool.true,()));
 opt.bnd (V29v) _ (
 opt.run (V29v) (
 opt.ask _ (p.cmp .eql x.1 (1:Int)) (
 opt.ret _ A) (
 opt.bnd (V29v) _ (
 opt.run (V29v) (
 opt.ask _ (p.cmp .eql x.1 (2:Int)) (
 opt.ret _ A) (
 opt.ret _ (x.1,((p.cmp .eql x.1 (5:Int)),()))))) fun a=>
 opt.ret _ a))) fun b=>
 opt.alt (V1v) (Unit) _ (
 opt.run ((V1v⊕Unit)) (
 opt.ask _ b.2.1 (
 opt.ret _ (Sum.inl ((1:Int),()))) (
 opt.bnd (V29v) _ (
 opt.run (V29v) (
 opt.ask _ (p.cmp .eql b.1 (3:Int)) (
 opt.ret _ (b.1,(Bool.true,()))) (
 opt.ret _ (b.1,((p.cmp .eql b.1 (4:Int)),()))))) fun c=>
 opt.alt (V1v) (Unit) _ (
 opt.run ((V1v⊕Unit)) (
 opt.ask _ c.2.1 (
 opt.ret _ (Sum.inl ((2:Int),()))) (
 opt.ask _ (p.cmp .eql c.1 (6:Int)) (
 opt.ret _ (Sum.inl ((3:Int),()))) (
 opt.ret _ (Sum.inr ()))))) (fun d=>
 opt.ret _ (Sum.inl d)) (fun e=>
 opt.bnd (Unit) _ (some e) fun f=>
 opt.ret _ (Sum.inr ()))))) (fun g=>
 opt.ret _ g) (fun h=>
 opt.bnd (Unit) _ (some h) fun i=>
 opt.ret _ ((0:Int),()))
theorem ok59:CtrOk PG u1l (G59 std):=okF vE (a:=an59) (l:=la59) (gN)
def u1k:Ctr:=
 ⟨60,[.int .i64, .int .i64],[],[(.ret,⟨[(0, .bool)],[],1⟩)]⟩
def la60:List LA:=
 []
def ja60:List JA:=
 [⟨60,[tU,tU,tU,fU,tU,fU,tU],0,[(AX.ret,⟨[(4, .bool)],[],40⟩),(AX.normal,⟨[(1, .int .i64)],[],40⟩)]⟩,
 ⟨60,[tU,tU,tU,tU,tU,fU,tU,fU,tU],0,[(AX.ret,⟨[(4, .bool)],[],40⟩),(AX.normal,⟨[(1, .int .i64)],[],40⟩)]⟩,
 ⟨60,[tU,fU,tU,fU,tU],0,[(AX.ret,⟨[(4, .bool)],[],40⟩),(AX.normal,⟨[(1, .int .i64)],[],40⟩)]⟩,
 ⟨60,[fU,fU,tU,tU,tU,fU,tU,fU,tU],0,[(AX.normal,⟨[(4, .bool)],[],40⟩)]⟩,
 ⟨60,[fU,fU,tU,tU,tU,tU,tU,tU,tU,fU,tU,fU,tU],0,[(AX.normal,⟨[(4, .bool)],[],40⟩)]⟩,
 ⟨60,[fU,fU,tU,tU,tU,tU,tU,fU,tU,fU,tU],0,[(AX.normal,⟨[(4, .bool)],[],40⟩)]⟩,
 ⟨60,[fU,fU,tU,fU,tU,fU,tU],0,[(AX.normal,⟨[(4, .bool)],[],40⟩)]⟩]
def u8x:List CF:=
 []
def an60:Anns:=
 ⟨u8x,ja60,[]⟩
def G60:(p:Prim)→V0v→Option (V4v):=
 fun p x=>let A:=p.cmp .geq x.2.1 (1:Int);let B:=((p.cmp .leq x.2.1 (1000000:Int)),());
 opt.alt (V4v) (V1v) _ (
 opt.run ((V4v⊕V1v)) (
 opt.ask _ (p.cmp .eql x.1 (1:Int)) (
 opt.bnd (V4v) _ (
 opt.run (V4v) (
 opt.ask _ A (
 opt.ret _ B) (
 opt.ret _ (Bool.false,())))) fun a=>
 opt.ret _ (Sum.inl a)) (
 opt.alt (V4v) (V1v) _ (
 opt.run ((V4v⊕V1v)) (
 opt.ask _ (p.cmp .eql x.1 (2:Int)) (
 opt.bnd (V4v) _ (
 opt.run (V4v) (
 opt.ask _ A (
 opt.ret _ ((p.cmp .leq x.2.1 (10000:Int)),())) (
 opt.ret _ (Bool.false,())))) fun b=>
 opt.ret _ (Sum.inl b)) (
 opt.alt (V4v) (V1v) _ (
 opt.run ((V4v⊕V1v)) (
 opt.ask _ (p.cmp .eql x.1 (3:Int)) (
 opt.bnd (V4v) _ (
 opt.run (V4v) (
 opt.ask _ A (
 opt.ret _ ((p.cmp .leq x.2.1 (100000:Int)),())) (
 opt.ret _ (Bool.false,())))) fun c=>
 opt.ret _ (Sum.inl c)) (
 opt.ask _ (p.cmp .eql x.1 (6:Int)) (
 opt.bnd (V4v) _ (
 opt.run (V4v) (
 opt.ask _ (p.cmp .geq x.2.1 (0:Int)) (
 opt.ret _ B) (
 opt.ret _ (Bool.false,())))) fun d=>
 opt.ret _ (Sum.inl d)) (
 opt.ret _ (Sum.inr x.2))))) (fun e=>
 opt.ret _ (Sum.inl e)) (fun f=>
 opt.bnd (V1v) _ (some f) fun g=>
 opt.ret _ (Sum.inr g))))) (fun h=>
 opt.ret _ (Sum.inl h)) (fun i=>
 opt.bnd (V1v) _ (some i) fun j=>
 opt.ret _ (Sum.inr j))))) (fun k=>
 opt.ret _ k) (fun l=>
 opt.bnd (V1v) _ (some l) fun m=>
 opt.ret _ ((p.cmp .eql m.1 (0:Int)),()))
theorem ok60:CtrOk PG u1k (G60 std):=okF vE (a:=an60) (l:=la60) (gN)
def u1x:Ctr:=
 ⟨18,[.agg [.int .i64, .int .i64, .list 1, .int .i64]],[],[(.ret,⟨[(0, .int .i64)],[],1⟩)]⟩
def la18:List LA:=
 [⟨18,[fU,tU,fU,tU,tU,tU],0,⟨⟨[(1, .bptr 0 0),(3, .int .i64)],[o0m],66⟩,[(AX.ret,⟨[(2, .int .i64)],[],66⟩),((AX.exit 0),⟨[(1, .bptr 0 0)],[o0m],66⟩)]⟩⟩,
 ⟨18,[fU,tU,fU,tU,tU,tU,tU],0,⟨⟨[(1, .bptr 0 0),(4, .int .i64)],[o0m],66⟩,[(AX.ret,⟨[(2, .int .i64)],[],66⟩),((AX.exit 2),⟨[(1, .bptr 0 0)],[o0m],66⟩)]⟩⟩,
 ⟨18,[fU,tU,fU,fU,tU,fU,fU,tU,fU,tU,tU,tU,tU],0,⟨⟨[(1, .bptr 0 0),(4, .int .i64),(5, .int .i64)],[o0m],66⟩,[(AX.ret,⟨[(2, .int .i64)],[],66⟩),((AX.exit 4),⟨[(1, .bptr 0 0),(4, .int .i64)],[o0m],66⟩)]⟩⟩]
def ja18:List JA:=
 [⟨18,[fU,fU,tU],0,[(AX.normal,⟨[(1, .bptr 0 0),(15, .bool)],[o0m],66⟩)]⟩]
def u9p:List CF:=
 [⟨u1k,G60⟩,⟨u1l,G59⟩,⟨v7e,G58⟩]
def an18:Anns:=
 ⟨u9p,ja18,[]⟩
def w7f (p:Prim):V42v→Option (V42v⊕(V1v⊕V2v)):=
 fun a=>let A:=a.2.2.2.2.1;let B:=a.2.2.2.2.2.1;let C:=a.2.2.1; opt.run _ (
 opt.ask _ (p.cmp .lss B A) (
 opt.need _ (p.rowOk C (p.nat A) [ci])<|
 opt.need _ (p.cmp .geq A (0:Int))<|
 opt.need _ (p.rowOk C (p.nat B) [ci])<|
 opt.need _ (p.cmp .geq B (0:Int))<|
 opt.ask _ (p.cmp .eql (p.rdI C (p.nat A) 0) (p.rdI C (p.nat B) 0)) (
 opt.ret _ (Sum.inr (Sum.inl ((16:Int),())))) (
 opt.ret _ (Sum.inl (a.1,(a.2.1,(C,(a.2.2.2.1,(A,((p.ar .add .i64 B (1:Int)),()))))))))) (
 opt.ret _ (Sum.inr (Sum.inr (a.1,(a.2.1,(C,(a.2.2.2.1,(A,())))))))))
def w7g (p:Prim):V2v→Option (V2v⊕(V1v⊕V18v)):=
 fun a=>opt.run _ (
 opt.ask _ (p.cmp .lss a.2.2.2.2.1 (p.ofNat (p.len a.2.2.1))) (
 opt.alt (V1v) (V2v) _ (
 z1e (w7f p) (a.1,(a.2.1,(a.2.2.1,(a.2.2.2.1,(a.2.2.2.2.1,((0:Int),()))))))) (fun b=>
 opt.ret _ (Sum.inr (Sum.inl b))) (fun c=>
 opt.bnd (V2v) _ (some c) fun d=>
 opt.ret _ (Sum.inl (d.1,(d.2.1,(d.2.2.1,(d.2.2.2.1,((p.ar .add .i64 d.2.2.2.2.1 (1:Int)),())))))))) (
 opt.ret _ (Sum.inr (Sum.inr (a.1,(a.2.1,(a.2.2.1,(a.2.2.2.1,()))))))))
def w7h (p:Prim):V2v→Option (V2v⊕(V1v⊕V18v)):=
 fun a=>let A:=a.2.2.2.2.1;let B:=a.2.2.1; opt.run _ (
 opt.ask _ (p.cmp .lss A (p.ofNat (p.len B))) (
 opt.need _ (p.rowOk B (p.nat A) [ci])<|
 opt.need _ (p.cmp .geq A (0:Int))<|
 opt.bnd (V4v) _ (G58 p ((p.rdI B (p.nat A) 0),())) fun b=>
 opt.ask _ (bif b.1 then Bool.false else Bool.true) (
 opt.ret _ (Sum.inr (Sum.inl ((3:Int),())))) (
 opt.ret _ (Sum.inl (a.1,(a.2.1,(B,(a.2.2.2.1,((p.ar .add .i64 A (1:Int)),())))))))) (
 opt.ret _ (Sum.inr (Sum.inr (a.1,(a.2.1,(B,(a.2.2.2.1,()))))))))
def G18:(p:Prim)→V18v→Option (V1v):=
 fun p x=>let A:=((0:Int),());
 opt.bnd (V41v) _ (
 opt.run (V41v) (
 opt.bnd (V4v) _ (G58 p (x.1,())) fun a=>
 opt.ask _ (bif a.1 then Bool.false else Bool.true) (
 opt.ret _ (x.1,(x.2.1,(x.2.2.1,(x.2.2.2.1,(Bool.true,())))))) (
 opt.bnd (V1v) _ (G59 p (x.2.1,())) fun b=>
 opt.ret _ (x.1,(x.2.1,(x.2.2.1,(x.2.2.2.1,((p.cmp .eql b.1 (0:Int)),())))))))) fun c=>
 opt.ask _ c.2.2.2.2.1 (
 opt.ret _ ((2:Int),())) (
 opt.bnd (V1v) _ (G59 p (c.2.1,())) fun d=>
 opt.ask _ (p.cmp .neq (p.ofNat (p.len c.2.2.1)) d.1) (
 opt.ret _ ((6:Int),())) (
 opt.alt (V1v) (V18v) _ (
 z1e (w7h p) (c.1,(c.2.1,(c.2.2.1,(c.2.2.2.1,A))))) (fun e=>
 opt.ret _ e) (fun f=>
 opt.bnd (V18v) _ (some f) fun g=>
 opt.alt (V1v) (V18v) _ (
 z1e (w7g p) (g.1,(g.2.1,(g.2.2.1,(g.2.2.2.1,A))))) (fun h=>
 opt.ret _ h) (fun i=>
 opt.bnd (V18v) _ (some i) fun j=>
 opt.bnd (V4v) _ (G60 p (j.2.1,j.2.2.2)) fun k=>
 opt.ask _ (bif k.1 then Bool.false else Bool.true) (
 opt.ret _ ((2:Int),())) (
 opt.ret _ A)))))
theorem ok18:CtrOk PG u1x (G18 std):=okF vE (a:=an18) (l:=la18) (gC ok60 (gC ok59 (gC t12 (gN))))
def v01:Ctr:=
 ⟨20,[.list 4],[],[(.ret,⟨[(0, .int .i64)],[],1⟩)]⟩
def la20:List LA:=
 [⟨20,[fU,tU,fU,tU,tU],0,⟨⟨[(0, .list 4),(3, .int .i64)],[],48⟩,[(AX.ret,⟨[(2, .int .i64)],[],48⟩),((AX.exit 0),⟨[(0, .list 4)],[],48⟩)]⟩⟩,
 ⟨20,[fU,tU,fU,tU,tU,tU],0,⟨⟨[(0, .list 4),(4, .int .i64)],[],48⟩,[(AX.ret,⟨[(2, .int .i64)],[],48⟩),((AX.exit 2),⟨[],[],48⟩)]⟩⟩,
 ⟨20,[fU,tU,fU,fU,tU,fU,fU,tU,fU,tU,tU,tU],0,⟨⟨[(0, .list 4),(4, .int .i64),(5, .int .i64)],[],48⟩,[(AX.ret,⟨[(2, .int .i64)],[],48⟩),((AX.exit 4),⟨[(0, .list 4),(4, .int .i64)],[],48⟩)]⟩⟩]
def ja20:List JA:=
 []
def u9n:List CF:=
 [⟨u1x,G18⟩]
def an20:Anns:=
 ⟨u9n,ja20,[]⟩
def w7d (p:Prim):V39v→Option (V39v⊕(V1v⊕V11v)):=
 fun a=>let A:=[ci,ci,(CK.list 1),ci];let B:=a.2.2.1; opt.run _ (
 opt.ask _ (p.cmp .lss B a.2.1) (
 opt.need _ (p.rowOk a.1 (p.nat a.2.1) A)<|
 opt.need _ (p.cmp .geq a.2.1 (0:Int))<|
 opt.need _ (p.rowOk a.1 (p.nat B) A)<|
 opt.need _ (p.cmp .geq B (0:Int))<|
 opt.ask _ (p.cmp .eql (p.rdI a.1 (p.nat a.2.1) 0) (p.rdI a.1 (p.nat B) 0)) (
 opt.ret _ (Sum.inr (Sum.inl ((11:Int),())))) (
 opt.ret _ (Sum.inl (a.1,(a.2.1,((p.ar .add .i64 B (1:Int)),())))))) (
 opt.ret _ (Sum.inr (Sum.inr (a.1,(a.2.1,()))))))
def w7e (p:Prim):V11v→Option (V11v⊕(V1v⊕Unit)):=
 fun a=>opt.run _ (
 opt.ask _ (p.cmp .lss a.2.1 (p.ofNat (p.len a.1))) (
 opt.alt (V1v) (V11v) _ (
 z1e (w7d p) (a.1,(a.2.1,((0:Int),())))) (fun b=>
 opt.ret _ (Sum.inr (Sum.inl b))) (fun c=>
 opt.bnd (V11v) _ (some c) fun d=>
 opt.ret _ (Sum.inl (d.1,((p.ar .add .i64 d.2.1 (1:Int)),()))))) (
 opt.ret _ (Sum.inr (Sum.inr ()))))
def w27 (p:Prim):V11v→Option (V11v⊕(V1v⊕V10v)):=
 fun a=>let B:=p.nat a.2.1;let A:=G18 p ((p.rdI a.1 B 0),((p.rdI a.1 B 1),((p.rdL a.1 B 2),((p.rdI a.1 B 3),()))));let C:=p.rowOk a.1 B [ci,ci,(CK.list 1),ci];let E:=p.cmp .geq a.2.1 (0:Int); opt.run _ (
 opt.ask _ (p.cmp .lss a.2.1 (p.ofNat (p.len a.1))) (
 opt.need _ C<|
 opt.need _ E<|
 opt.bnd (V1v) _ A fun b=>
 opt.ask _ (p.cmp .neq b.1 (0:Int)) (
 opt.need _ C<|
 opt.need _ E<|
 opt.bnd (V1v) _ A fun c=>
 opt.ret _ (Sum.inr (Sum.inl c))) (
 opt.ret _ (Sum.inl (a.1,((p.ar .add .i64 a.2.1 (1:Int)),()))))) (
 opt.ret _ (Sum.inr (Sum.inr (a.1,())))))
def G20:(p:Prim)→V10v→Option (V1v):=
 fun p x=>let A:=((0:Int),());
 opt.ask _ (p.cmp .gtr (p.ofNat (p.len x.1)) (60:Int)) (
 opt.ret _ ((6:Int),())) (
 opt.alt (V1v) (V10v) _ (
 z1e (w27 p) (x.1,A)) (fun a=>
 opt.ret _ a) (fun b=>
 opt.bnd (V10v) _ (some b) fun c=>
 opt.alt (V1v) (Unit) _ (
 z1e (w7e p) (c.1,A)) (fun d=>
 opt.ret _ d) (fun e=>
 opt.bnd (Unit) _ (some e) fun f=>
 opt.ret _ A)))
theorem x9x:z3d PG 20:=enters_auto (b:=_) rfl (by kernel_rfl)
theorem u4p:CtrOk PG v01 (G20 std):=okF vE (a:=an20) (l:=la20) (gC ok18 (gN))
def u1c:Ctr:=
 ⟨82,[.list 4, .list 4],[],[(.ret,⟨[(0, .int .i64)],[],1⟩)]⟩
def la82:List LA:=
 []
def ja82:List JA:=
 []
def u8g:List CF:=
 [⟨v01,G20⟩]
def an82:Anns:=
 ⟨u8g,ja82,[]⟩
def G82:(p:Prim)→V25v→Option (V1v):=
 fun p x=>
 opt.bnd (V1v) _ (G20 p (x.1,())) fun a=>
 opt.ask _ (p.cmp .neq a.1 (0:Int)) (
 opt.bnd (V1v) _ (G20 p (x.1,())) fun b=>
 opt.ret _ b) (
 opt.bnd (V1v) _ (G20 p x.2) fun c=>
 opt.ret _ c)
theorem ok82:CtrOk PG u1c (G82 std):=okF vE (a:=an82) (l:=la82) (gC u4p (gN))
end Go.Am
end
noncomputable section
namespace Go.Am
def u1j:Ctr:=
 ⟨65,[.list 4],[],[(.ret,⟨[(0, .full 0 1)],[o12m],1⟩)]⟩
def la65:List LA:=
 [⟨65,[fU,tU,fU,tU,tU],0,⟨⟨[(0, .list 4),(3, .full 0 1),(4, .int .i64)],[o12m],46⟩,[((AX.exit 0),⟨[(3, .full 0 1)],[o12m],46⟩)]⟩⟩,
 ⟨65,[fU,tU,tU,fU,fU,tU,fU,fU,tU,fU,tU,tU],0,⟨⟨[(0, .list 4),(3, .full 0 1),(4, .int .i64),(5, .int .i64)],[o12m],46⟩,[((AX.exit 2),⟨[(0, .list 4),(3, .full 0 1),(4, .int .i64)],[o12m],46⟩)]⟩⟩]
def ja65:List JA:=
 [⟨65,[tU,fU,fU,tU,fU,fU,tU,tU,fU,fU,tU,fU,fU,tU,fU,tU,tU],0,[(AX.normal,⟨[(0, .list 4),(3, .full 0 1),(4, .int .i64),(5, .int .i64)],[o12m],46⟩)]⟩]
def u8w:List CF:=
 [⟨v0y,G44⟩]
def an65:Anns:=
 ⟨u8w,ja65,[]⟩
def w2x (p:Prim):V8v→Option (V8v⊕V19v):=
 fun a=>let P:=a.2.2.1;let C:=p.nat P;let O:=a.2.2.2.1;let E:=p.nat O;let A:=p.set a.1 (p.add 0 C) [(D.int .i64 (p.mm .gtr (p.rdI a.1 (p.add 0 C) 0) (p.ar .add .i64 (p.rdI a.1 (p.add 0 E) 0) (1:Int))))];let B:=p.len a.1;let K:=p.cmp .geq P (0:Int);let F:=bif K then (p.cmp .lss P (p.ofNat B)) else Bool.false;let G:=a.2.1;let H:=p.cmp .geq O (0:Int);let J:=p.rowOk a.1 (p.add 0 C) [ci];let L:=p.eqN B B;let M:=p.eqN 0 0;let N:=[ci,ci,(CK.list 1),ci]; opt.run _ (
 opt.ask _ (p.cmp .lss O P) (
 opt.need _ (p.rowOk G E N)<|
 opt.need _ H<|
 opt.need _ (p.rowOk G C N)<|
 opt.need _ K<|
 opt.bnd (V4v) _ (G44 p ((p.rdI G E 0),((p.rdI G E 1),((p.rdL G E 2),((p.rdI G E 3),((p.rdI G C 0),((p.rdI G C 1),((p.rdL G C 2),((p.rdI G C 3),()))))))))) fun b=>
 opt.bnd (V8v) _ (
 opt.run (V8v) (
 opt.ask _ b.1 (
 opt.need _ F<|
 opt.need _ J<|
 opt.need _ (bif H then (p.cmp .lss O (p.ofNat B)) else Bool.false)<|
 opt.need _ (p.rowOk a.1 (p.add 0 E) [ci])<|
 opt.need _ F<|
 opt.need _ J<|
 opt.need _ M<|
 opt.need _ (p.eqN B (p.len A))<|
 opt.need _ (p.eqN B (p.len A))<|
 opt.ret _ (A,a.2)) (
 opt.need _ M<|
 opt.need _ L<|
 opt.need _ L<|
 opt.ret _ a))) fun c=>let I:=p.eqN (p.len c.1) (p.len c.1);
 opt.need _ M<|
 opt.need _ I<|
 opt.need _ I<|
 opt.ret _ (Sum.inl (c.1,(c.2.1,(c.2.2.1,((p.ar .add .i64 c.2.2.2.1 (1:Int)),())))))) (
 opt.need _ M<|
 opt.need _ L<|
 opt.need _ L<|
 opt.ret _ (Sum.inr (a.1,(G,(P,()))))))
def w67 (p:Prim):V19v→Option (V19v⊕V10v):=
 fun a=>let E:=a.2.2.1;let A:=p.set a.1 (p.add 0 (p.nat E)) [(D.int .i64 (1:Int))];let B:=p.len a.1; opt.run _ (
 opt.ask _ (p.cmp .lss E (p.ofNat (p.len a.2.1))) (
 opt.need _ (bif (p.cmp .geq E (0:Int)) then (p.cmp .lss E (p.ofNat B)) else Bool.false)<|
 opt.need _ (p.rowOk a.1 (p.add 0 (p.nat E)) [ci])<|
 opt.need _ (p.eqN 0 0)<|
 opt.need _ (p.eqN B (p.len A))<|
 opt.need _ (p.eqN B (p.len A))<|
 opt.bnd (V19v) _ (
 z1e (w2x p) (A,(a.2.1,(E,((0:Int),()))))) fun b=>let C:=p.eqN (p.len b.1) (p.len b.1);
 opt.need _ (p.eqN 0 0)<|
 opt.need _ C<|
 opt.need _ C<|
 opt.ret _ (Sum.inl (b.1,(b.2.1,((p.ar .add .i64 b.2.2.1 (1:Int)),()))))) (
 opt.need _ (p.eqN 0 0)<|
 opt.need _ (p.eqN B B)<|
 opt.need _ (p.eqN B B)<|
 opt.ret _ (Sum.inr (a.1,()))))
def G65:(p:Prim)→V10v→Option (V10v):=
 fun p x=>let A:=p.ofNat (p.len x.1);let B:=p.rep (p.nat A) [(D.int .i64 (0:Int))];let E:=p.eqN (p.nat A) (p.len B);
 opt.need _ (p.and (p.cmp .geq A (0:Int)) (p.and (p.cmp .leq A A) (p.cmp .leq A (1000000:Int))))<|
 opt.need _ (p.eqN 0 0)<|
 opt.need _ E<|
 opt.need _ E<|
 opt.bnd (V10v) _ (
 z1e (w67 p) (B,(x.1,((0:Int),())))) fun a=>let C:=p.eqN (p.len a.1) (p.len a.1);
 opt.need _ (p.eqN 0 0)<|
 opt.need _ C<|
 opt.need _ C<|
 opt.ret _ a
theorem ok65:CtrOk PG u1j (G65 std):=okF vE (a:=an65) (l:=la65) (gC u4o (gN))
def u1s:Ctr:=
 ⟨32,[.list 4, .int .i64],[],[(.ret,⟨[(0, .tuple [.vec 0 4, .int .i64])],[o5m],1⟩)]⟩
def la32:List LA:=
 [⟨32,[fU,tU,fU,tU,tU,tU,tU],0,⟨⟨[(0, .list 4),(1, .int .i64),(6, .full 0 1),(7, .int .i64)],[o11m],109⟩,[((AX.exit 0),⟨[(0, .list 4),(6, .full 0 1)],[o11m],109⟩)]⟩⟩,
 ⟨32,[fU,tU,fU,fU,fU,tU,fU,fU,tU,fU,tU,tU,tU,tU],0,⟨⟨[(0, .list 4),(1, .int .i64),(6, .full 0 1),(7, .int .i64),(8, .int .i64)],[o11m],109⟩,[((AX.exit 2),⟨[(0, .list 4),(1, .int .i64),(6, .full 0 1),(7, .int .i64)],[o11m],109⟩)]⟩⟩,
 ⟨32,[fU,tU,tU,fU,fU,tU,fU,fU,tU,fU,tU,tU,tU,tU],0,⟨⟨[(0, .list 4),(1, .int .i64),(6, .full 0 1),(7, .int .i64),(9, .int .i64)],[o11m],109⟩,[((AX.exit 4),⟨[(0, .list 4),(1, .int .i64),(6, .full 0 1),(7, .int .i64)],[o11m],109⟩)]⟩⟩,
 ⟨32,[fU,tU,fU,tU,tU,tU,tU,tU,tU],0,⟨⟨[(0, .list 4),(6, .full 0 1),(10, .vec 1 4),(11, .int .i64)],o18m,109⟩,[((AX.exit 6),⟨[(10, .vec 0 4)],[o5m],109⟩)]⟩⟩]
def ja32:List JA:=
 [⟨32,[fU,fU,tU,fU,fU,tU,fU,fU,fU,tU,fU,fU,tU,fU,tU,tU,tU,tU],0,[(AX.normal,⟨[(0, .list 4),(1, .int .i64),(6, .full 0 1),(7, .int .i64),(8, .int .i64)],[o11m],109⟩)]⟩,
 ⟨32,[tU,fU,fU,tU,fU,fU,tU,fU,tU,tU,tU,tU,tU,tU],0,[(AX.normal,⟨[(0, .list 4),(6, .full 0 1),(10, .vec 1 4),(11, .int .i64)],o18m,109⟩)]⟩,
 ⟨32,[fU,tU,fU,fU,tU,tU,fU,fU,tU,fU,fU,tU,fU,tU,tU,tU,tU],0,[(AX.normal,⟨[(0, .list 4),(1, .int .i64),(6, .full 0 1),(7, .int .i64),(9, .int .i64)],[o11m],109⟩)]⟩]
def u9i:List CF:=
 [⟨v0y,G44⟩,⟨v7e,G58⟩,⟨v01,G20⟩]
def an32:Anns:=
 ⟨u9i,ja32,[]⟩
def w2z (p:Prim):V38v→Option (V38v⊕V10v):=
 fun a=>let H:=a.2.2.1;let K:=a.2.2.2.1;let B:=p.nat K;let A:=[[(D.int .i64 (p.rdI H B 0)),(D.int .i64 (p.rdI H B 1)),(D.list (p.rdF H B 2 1) 1 (p.rdL H B 2)),(D.int .i64 (p.rdI H B 3))]];let C:=p.len a.2.1;let E:=p.eqN (p.len a.1) (p.len a.1);let F:=p.eqN 0 0;let G:=p.app (p.cut a.2.1 0 C) (p.cut A 0 1);let I:=p.cmp .geq K (0:Int); opt.run _ (
 opt.ask _ (p.cmp .lss K (p.ofNat (p.len H))) (
 opt.need _ (bif I then (p.cmp .lss K (p.ofNat (p.len a.1))) else Bool.false)<|
 opt.need _ (p.rowOk a.1 (p.add 0 B) [CK.bool])<|
 opt.bnd (V38v) _ (
 opt.run (V38v) (
 opt.ask _ (p.rdB a.1 (p.add 0 B) 0) (
 opt.need _ (p.rowOk H B [ci,ci,(CK.list 1),ci])<|
 opt.need _ I<|
 opt.need _ (p.and (p.leN (p.add 0 1) (p.len A)) (p.and (p.leN (p.add 0 C) C) (p.and (p.leN 1 1) (p.leN (p.add C 1) 1000000))))<|
 opt.need _ F<|
 opt.need _ E<|
 opt.need _ E<|
 opt.need _ F<|
 opt.need _ (p.eqN (p.add C 1) (p.len G))<|
 opt.ret _ (a.1,(G,a.2.2))) (
 opt.need _ F<|
 opt.need _ E<|
 opt.need _ E<|
 opt.need _ F<|
 opt.need _ (p.eqN C C)<|
 opt.ret _ a))) fun b=>let J:=p.eqN (p.len b.1) (p.len b.1);
 opt.need _ F<|
 opt.need _ J<|
 opt.need _ J<|
 opt.need _ F<|
 opt.need _ (p.eqN (p.len b.2.1) (p.len b.2.1))<|
 opt.ret _ (Sum.inl (b.1,(b.2.1,(b.2.2.1,((p.ar .add .i64 b.2.2.2.1 (1:Int)),())))))) (
 opt.need _ F<|
 opt.need _ (p.eqN C C)<|
 opt.ret _ (Sum.inr (a.2.1,()))))
def x7t (p:Prim):V35v→Option (V35v⊕V8v):=
 fun a=>let R:=a.2.2.2.1;let F:=p.nat R;let A:=p.add 0 F;let N:=p.cmp .geq R (0:Int);let E:=p.len a.1;let B:=bif N then (p.cmp .lss R (p.ofNat E)) else Bool.false;let K:=a.2.2.2.2.1;let C:=p.nat K;let G:=p.rowOk a.1 A [CK.bool];let H:=p.set a.1 A [(D.bool Bool.false)];let I:=p.set a.1 A [(D.bool Bool.true)];let L:=p.eqN 0 0;let M:=a.2.1;let P:=[ci,ci,(CK.list 1),ci];let Q:=p.cmp .geq K (0:Int); opt.run _ (
 opt.ask _ (p.cmp .lss K (p.ofNat (p.len M))) (
 opt.bnd (V35v) _ (
 opt.run (V35v) (
 opt.need _ B<|
 opt.need _ G<|
 opt.ask _ (p.rdB a.1 A 0) (
 opt.need _ B<|
 opt.need _ G<|
 opt.need _ L<|
 opt.need _ (p.eqN E (p.len I))<|
 opt.need _ (p.eqN E (p.len I))<|
 opt.ret _ (I,a.2)) (
 opt.need _ (bif Q then (p.cmp .lss K (p.ofNat E)) else Bool.false)<|
 opt.need _ (p.rowOk a.1 (p.add 0 C) [CK.bool])<|
 opt.ask _ (p.rdB a.1 (p.add 0 C) 0) (
 opt.need _ (p.rowOk M F P)<|
 opt.need _ N<|
 opt.need _ (p.rowOk M C P)<|
 opt.need _ Q<|
 opt.bnd (V4v) _ (G44 p ((p.rdI M F 0),((p.rdI M F 1),((p.rdL M F 2),((p.rdI M F 3),((p.rdI M C 0),((p.rdI M C 1),((p.rdL M C 2),((p.rdI M C 3),()))))))))) fun b=>let J:=p.set a.1 A [(D.bool b.1)];
 opt.need _ B<|
 opt.need _ G<|
 opt.need _ L<|
 opt.need _ (p.eqN E (p.len J))<|
 opt.need _ (p.eqN E (p.len J))<|
 opt.ret _ (J,a.2)) (
 opt.need _ B<|
 opt.need _ G<|
 opt.need _ L<|
 opt.need _ (p.eqN E (p.len H))<|
 opt.need _ (p.eqN E (p.len H))<|
 opt.ret _ (H,a.2))))) fun c=>let O:=p.eqN (p.len c.1) (p.len c.1);
 opt.need _ L<|
 opt.need _ O<|
 opt.need _ O<|
 opt.ret _ (Sum.inl (c.1,(c.2.1,(c.2.2.1,(c.2.2.2.1,((p.ar .add .i64 c.2.2.2.2.1 (1:Int)),()))))))) (
 opt.need _ L<|
 opt.need _ (p.eqN E E)<|
 opt.need _ (p.eqN E E)<|
 opt.ret _ (Sum.inr (a.1,(M,(a.2.2.1,(R,())))))))
def w20 (p:Prim):V35v→Option (V35v⊕V8v):=
 fun a=>let O:=a.2.2.2.1;let C:=p.nat O;let N:=p.add 0 C;let J:=p.rdL a.2.1 C 2;let L:=a.2.2.2.2.1;let A:=p.set a.1 N [(D.bool (p.cmp .eql (p.rdI J (p.nat L) 0) a.2.2.1))];let H:=p.cmp .geq O (0:Int);let F:=p.len a.1;let B:=bif H then (p.cmp .lss O (p.ofNat F)) else Bool.false;let E:=p.set a.1 N [(D.bool Bool.true)];let G:=p.rowOk a.1 N [CK.bool];let I:=p.rowOk a.2.1 C [ci,ci,(CK.list 1),ci];let M:=p.eqN 0 0; opt.run _ (
 opt.need _ I<|
 opt.need _ H<|
 opt.ask _ (p.cmp .lss L (p.ofNat (p.len J))) (
 opt.bnd (V35v) _ (
 opt.run (V35v) (
 opt.need _ B<|
 opt.need _ G<|
 opt.ask _ (p.rdB a.1 N 0) (
 opt.need _ B<|
 opt.need _ G<|
 opt.need _ M<|
 opt.need _ (p.eqN F (p.len E))<|
 opt.need _ (p.eqN F (p.len E))<|
 opt.ret _ (E,a.2)) (
 opt.need _ I<|
 opt.need _ H<|
 opt.need _ (p.rowOk J (p.nat L) [ci])<|
 opt.need _ (p.cmp .geq L (0:Int))<|
 opt.need _ B<|
 opt.need _ G<|
 opt.need _ M<|
 opt.need _ (p.eqN F (p.len A))<|
 opt.need _ (p.eqN F (p.len A))<|
 opt.ret _ (A,a.2)))) fun b=>let K:=p.eqN (p.len b.1) (p.len b.1);
 opt.need _ M<|
 opt.need _ K<|
 opt.need _ K<|
 opt.ret _ (Sum.inl (b.1,(b.2.1,(b.2.2.1,(b.2.2.2.1,((p.ar .add .i64 b.2.2.2.2.1 (1:Int)),()))))))) (
 opt.need _ M<|
 opt.need _ (p.eqN F F)<|
 opt.need _ (p.eqN F F)<|
 opt.ret _ (Sum.inr (a.1,(a.2.1,(a.2.2.1,(O,())))))))
def w7b (p:Prim):V8v→Option (V8v⊕V25v):=
 fun a=>let A:=p.eqN (p.len a.1) (p.len a.1);let E:=p.eqN 0 0; opt.run _ (
 opt.ask _ (p.cmp .geq a.2.2.2.1 (0:Int)) (
 opt.need _ E<|
 opt.need _ A<|
 opt.need _ A<|
 opt.bnd (V8v) _ (
 z1e (w20 p) (a.1,(a.2.1,(a.2.2.1,(a.2.2.2.1,((0:Int),())))))) fun b=>let C:=p.eqN (p.len b.1) (p.len b.1);
 opt.need _ E<|
 opt.need _ C<|
 opt.need _ C<|
 opt.bnd (V8v) _ (
 z1e (x7t p) (b.1,(b.2.1,(b.2.2.1,(b.2.2.2.1,((p.ar .add .i64 b.2.2.2.1 (1:Int)),())))))) fun c=>let B:=p.eqN (p.len c.1) (p.len c.1);
 opt.need _ E<|
 opt.need _ B<|
 opt.need _ B<|
 opt.ret _ (Sum.inl (c.1,(c.2.1,(c.2.2.1,((p.ar .sub .i64 c.2.2.2.1 (1:Int)),())))))) (
 opt.need _ E<|
 opt.need _ A<|
 opt.need _ A<|
 opt.ret _ (Sum.inr (a.1,(a.2.1,())))))
def G32:(p:Prim)→V11v→Option (V11v):=
 fun p x=>let A:=p.ofNat (p.len x.1);let B:=p.rep (p.nat A) [(D.bool Bool.false)];let E:=p.eqN (p.nat A) (p.len B);let F:=(0:Int);
 opt.bnd (V1v) _ (G20 p (x.1,())) fun a=>
 opt.ask _ (p.cmp .neq a.1 F) (
 opt.bnd (V1v) _ (G20 p (x.1,())) fun b=>
 opt.ret _ ([],b)) (
 opt.bnd (V4v) _ (G58 p x.2) fun c=>
 opt.ask _ (bif c.1 then Bool.false else Bool.true) (
 opt.ret _ ([],((3:Int),()))) (
 opt.need _ (p.and (p.cmp .geq A F) (p.and (p.cmp .leq A A) (p.cmp .leq A (1000000:Int))))<|
 opt.need _ (p.eqN 0 0)<|
 opt.need _ E<|
 opt.need _ E<|
 opt.bnd (V25v) _ (
 z1e (w7b p) (B,(x.1,(x.2.1,((p.ar .sub .i64 A (1:Int)),()))))) fun d=>let C:=p.eqN (p.len d.1) (p.len d.1);
 opt.need _ (p.eqN 0 0)<|
 opt.need _ C<|
 opt.need _ C<|
 opt.bnd (V10v) _ (
 z1e (w2z p) (d.1,([],(d.2.1,(F,()))))) fun e=>
 opt.need _ (p.eqN 0 0)<|
 opt.need _ (p.eqN (p.len e.1) (p.len e.1))<|
 opt.ret _ (e.1,(F,()))))
theorem ok32:CtrOk PG u1s (G32 std):=okF vE (a:=an32) (l:=la32) (gC u4o (gC t12 (gC u4p (gN))))
def u1o:Ctr:=
 ⟨36,[.list 4, .list 4],[],[(.ret,⟨[(0, .int .i64)],[],1⟩)]⟩
def la36:List LA:=
 [⟨36,[fU,tU,fU,tU,tU,tU],0,⟨⟨[(0, .list 4),(1, .list 4),(5, .int .i64)],[],85⟩,[(AX.ret,⟨[(4, .int .i64)],[],85⟩),((AX.exit 0),⟨[(0, .list 4),(1, .list 4)],[],85⟩)]⟩⟩,
 ⟨36,[fU,tU,fU,tU,tU,tU,tU],0,⟨⟨[(0, .list 4),(1, .list 4),(7, .int .i64)],[],85⟩,[(AX.ret,⟨[(4, .int .i64)],[],85⟩),((AX.exit 2),⟨[],[],85⟩)]⟩⟩,
 ⟨36,[fU,tU,fU,fU,tU,fU,fU,tU,fU,tU,tU,tU,tU],0,⟨⟨[(0, .list 4),(1, .list 4),(7, .int .i64),(8, .int .i64)],[],85⟩,[(AX.ret,⟨[(4, .int .i64)],[],85⟩),((AX.exit 4),⟨[(0, .list 4),(1, .list 4),(7, .int .i64)],[],85⟩)]⟩⟩]
def ja36:List JA:=
 [⟨36,[fU,tU,fU,fU,tU,fU,fU,tU,fU,fU,tU,fU,tU,tU,tU,tU],0,[(AX.ret,⟨[(4, .int .i64)],[],85⟩),(AX.normal,⟨[(0, .list 4),(1, .list 4),(7, .int .i64),(8, .int .i64)],[],85⟩)]⟩,
 ⟨36,[fU,tU,fU,fU,tU,fU,tU,tU,tU],0,[(AX.ret,⟨[(4, .int .i64)],[],85⟩),(AX.normal,⟨[(0, .list 4),(1, .list 4),(5, .int .i64)],[],85⟩)]⟩]
def u9e:List CF:=
 [⟨v0y,G44⟩,⟨v7a,G77⟩,⟨u1n,G43⟩,⟨u1c,G82⟩]
def an36:Anns:=
 ⟨u9e,ja36,[]⟩
def x7r (p:Prim):V8v→Option (V8v⊕(V1v⊕V19v)):=
 fun a=>let A:=p.nat a.2.2.2.1;let B:=p.nat a.2.2.1;let C:=[ci,ci,(CK.list 1),ci];let E:=p.cmp .geq a.2.2.2.1 (0:Int);let F:=p.cmp .geq a.2.2.1 (0:Int); opt.run _ (
 opt.ask _ (p.cmp .lss a.2.2.2.1 a.2.2.1) (
 opt.alt (V1v) (V8v) _ (
 opt.run ((V1v⊕V8v)) (
 opt.need _ (p.rowOk a.1 A C)<|
 opt.need _ E<|
 opt.need _ (p.rowOk a.1 B C)<|
 opt.need _ F<|
 opt.bnd (V4v) _ (G44 p ((p.rdI a.1 A 0),((p.rdI a.1 A 1),((p.rdL a.1 A 2),((p.rdI a.1 A 3),((p.rdI a.1 B 0),((p.rdI a.1 B 1),((p.rdL a.1 B 2),((p.rdI a.1 B 3),()))))))))) fun b=>
 opt.ask _ b.1 (
 opt.need _ (p.rowOk a.1 A C)<|
 opt.need _ E<|
 opt.bnd (V1v) _ (G43 p (a.2.1,((p.rdI a.1 A 0),()))) fun c=>
 opt.need _ (p.rowOk a.1 B C)<|
 opt.need _ F<|
 opt.bnd (V1v) _ (G43 p (a.2.1,((p.rdI a.1 B 0),()))) fun d=>
 opt.ask _ (p.cmp .gtr c.1 d.1) (
 opt.ret _ (Sum.inl ((24:Int),()))) (
 opt.ret _ (Sum.inr a))) (
 opt.ret _ (Sum.inr a)))) (fun e=>
 opt.ret _ (Sum.inr (Sum.inl e))) (fun f=>
 opt.bnd (V8v) _ (some f) fun g=>
 opt.ret _ (Sum.inl (g.1,(g.2.1,(g.2.2.1,((p.ar .add .i64 g.2.2.2.1 (1:Int)),()))))))) (
 opt.ret _ (Sum.inr (Sum.inr (a.1,(a.2.1,(a.2.2.1,())))))))
def w2y (p:Prim):V19v→Option (V19v⊕(V1v⊕Unit)):=
 fun a=>opt.run _ (
 opt.ask _ (p.cmp .lss a.2.2.1 (p.ofNat (p.len a.1))) (
 opt.alt (V1v) (V19v) _ (
 z1e (x7r p) (a.1,(a.2.1,(a.2.2.1,((0:Int),()))))) (fun b=>
 opt.ret _ (Sum.inr (Sum.inl b))) (fun c=>
 opt.bnd (V19v) _ (some c) fun d=>
 opt.ret _ (Sum.inl (d.1,(d.2.1,((p.ar .add .i64 d.2.2.1 (1:Int)),())))))) (
 opt.ret _ (Sum.inr (Sum.inr ()))))
def x5q (p:Prim):V19v→Option (V19v⊕(V1v⊕V25v)):=
 fun a=>let A:=p.nat a.2.2.1;let B:=[ci,ci,(CK.list 1),ci];let E:=p.cmp .geq a.2.2.1 (0:Int); opt.run _ (
 opt.ask _ (p.cmp .lss a.2.2.1 (p.ofNat (p.len a.1))) (
 opt.alt (V1v) (V19v) _ (
 opt.run ((V1v⊕V19v)) (
 opt.need _ (p.rowOk a.1 A B)<|
 opt.need _ E<|
 opt.bnd (V1v) _ (G43 p (a.2.1,((p.rdI a.1 A 0),()))) fun b=>let C:=p.nat b.1;
 opt.ask _ (p.cmp .lss b.1 (0:Int)) (
 opt.ret _ (Sum.inl ((15:Int),()))) (
 opt.need _ (p.rowOk a.1 A B)<|
 opt.need _ E<|
 opt.need _ (p.rowOk a.2.1 C B)<|
 opt.need _ (p.cmp .geq b.1 (0:Int))<|
 opt.bnd (V4v) _ (G77 p ((p.rdI a.1 A 0),((p.rdI a.1 A 1),((p.rdL a.1 A 2),((p.rdI a.1 A 3),((p.rdI a.2.1 C 0),((p.rdI a.2.1 C 1),((p.rdL a.2.1 C 2),((p.rdI a.2.1 C 3),()))))))))) fun c=>
 opt.ask _ (bif c.1 then Bool.false else Bool.true) (
 opt.ret _ (Sum.inl ((15:Int),()))) (
 opt.ret _ (Sum.inr a))))) (fun d=>
 opt.ret _ (Sum.inr (Sum.inl d))) (fun e=>
 opt.bnd (V19v) _ (some e) fun f=>
 opt.ret _ (Sum.inl (f.1,(f.2.1,((p.ar .add .i64 f.2.2.1 (1:Int)),())))))) (
 opt.ret _ (Sum.inr (Sum.inr (a.1,(a.2.1,()))))))
def G36:(p:Prim)→V25v→Option (V1v):=
 fun p x=>let A:=((0:Int),());
 opt.bnd (V1v) _ (G82 p x) fun a=>
 opt.ask _ (p.cmp .neq a.1 (0:Int)) (
 opt.bnd (V1v) _ (G82 p x) fun b=>
 opt.ret _ b) (
 opt.ask _ (p.cmp .neq (p.ofNat (p.len x.1)) (p.ofNat (p.len x.2.1))) (
 opt.ret _ ((15:Int),())) (
 opt.alt (V1v) (V25v) _ (
 z1e (x5q p) (x.1,(x.2.1,A))) (fun c=>
 opt.ret _ c) (fun d=>
 opt.bnd (V25v) _ (some d) fun e=>
 opt.alt (V1v) (Unit) _ (
 z1e (w2y p) (e.1,(e.2.1,A))) (fun f=>
 opt.ret _ f) (fun g=>
 opt.bnd (Unit) _ (some g) fun h=>
 opt.ret _ A))))
theorem ok36:CtrOk PG u1o (G36 std):=okF vE (a:=an36) (l:=la36) (gC u4o (gC t1y (gC ok43 (gC ok82 (gN)))))
def t0l:Ctr:=
 ⟨69,[.list 4, .list 1],[],[(.ret,⟨[(0, .vec 0 4)],[o5m],1⟩)]⟩
def la69:List LA:=
 [⟨69,[fU,fU,tU,tU,tU],0,⟨⟨[(0, .list 4),(1, .list 1),(5, .full 0 1),(6, .vec 1 4)],o18m,83⟩,[((AX.exit 0),⟨[(6, .vec 0 4)],[o5m],83⟩)]⟩⟩,
 ⟨69,[fU,tU,fU,tU,fU,tU,fU,fU,fU,tU,tU,tU],0,⟨⟨[(0, .list 4),(1, .list 1),(5, .full 0 1),(6, .vec 1 4),(7, .int .i64),(8, .int .i64)],o18m,83⟩,[((AX.exit 2),⟨[(0, .list 4),(1, .list 1),(5, .full 0 1),(6, .vec 1 4),(7, .int .i64)],o18m,83⟩)]⟩⟩,
 ⟨69,[fU,tU,fU,tU,fU,fU,tU,fU,fU,tU,fU,tU,fU,tU,fU,fU,fU,tU,tU,tU],0,⟨⟨[(0, .list 4),(1, .list 1),(5, .full 0 1),(6, .vec 1 4),(7, .int .i64),(8, .int .i64),(9, .bool),(10, .int .i64)],o18m,83⟩,[((AX.exit 4),⟨[(0, .list 4),(1, .list 1),(5, .full 0 1),(6, .vec 1 4),(7, .int .i64),(8, .int .i64),(9, .bool)],o18m,83⟩)]⟩⟩]
def ja69:List JA:=
 [⟨69,[fU,fU,tU,fU,fU,tU,fU,tU,fU,fU,tU,fU,fU,tU,fU,tU,fU,tU,fU,fU,fU,tU,tU,tU],0,[(AX.normal,⟨[(0, .list 4),(1, .list 1),(5, .full 0 1),(6, .vec 1 4),(7, .int .i64),(8, .int .i64),(9, .bool),(10, .int .i64)],o18m,83⟩)]⟩,
 ⟨69,[tU,tU,tU,fU,fU,tU,fU,fU,tU,fU,tU,fU,tU,fU,fU,fU,tU,tU,tU],0,[(AX.normal,⟨[(0, .list 4),(1, .list 1),(5, .full 0 1),(6, .vec 1 4),(7, .int .i64),(8, .int .i64)],o18m,83⟩)]⟩,
 ⟨69,[fU,tU,fU,fU,tU,fU,tU,fU,tU,fU,fU,fU,tU,tU,tU],0,[(AX.normal,⟨[(0, .list 4),(1, .list 1),(5, .full 0 1),(6, .vec 1 4),(7, .int .i64),(8, .int .i64)],o18m,83⟩)]⟩]
def u8t:List CF:=
 []
def an69:Anns:=
 ⟨u8t,ja69,[]⟩
def x7q (p:Prim):V27v→Option (V27v⊕(LD×(LD×(LD×(LD×V40v))))):=
 fun a=>let A:=p.eqN (p.len a.1) (p.len a.1);let B:=a.2.2.2.2.2.2.2.1;let C:=p.eqN (p.len a.2.1) (p.len a.2.1);let E:=p.eqN 0 0;let F:=a.2.2.2.2.2.1;let G:=a.2.2.2.1;let I:=p.nat B;let J:=a.2.2.2.2.1;let K:=a.2.2.2.2.2.2.2;let L:=p.cmp .geq B (0:Int);let M:=a.2.2.1; opt.run _ (
 opt.ask _ (p.cmp .lss B (p.ofNat (p.len M))) (
 opt.bnd (V27v) _ (
 opt.run (V27v) (
 opt.ask _ a.2.2.2.2.2.2.1 (
 opt.need _ (p.rowOk G I [(CK.list 1)])<|
 opt.need _ L<|
 opt.need _ (p.rowOk (p.rdL G I 0) (p.nat F) [CK.bool])<|
 opt.need _ (p.cmp .geq F (0:Int))<|
 opt.ask _ (bif (p.rdB (p.rdL G I 0) (p.nat F) 0) then Bool.false else Bool.true) (
 opt.need _ E<|
 opt.need _ A<|
 opt.need _ A<|
 opt.need _ E<|
 opt.need _ C<|
 opt.ret _ (a.1,(a.2.1,(M,(G,(J,(F,(Bool.true,K)))))))) (
 opt.need _ (bif L then (p.cmp .lss B (p.ofNat (p.len a.1))) else Bool.false)<|
 opt.need _ (p.rowOk a.1 (p.add 0 I) [CK.bool])<|
 opt.need _ E<|
 opt.need _ A<|
 opt.need _ A<|
 opt.need _ E<|
 opt.need _ C<|
 opt.ret _ (a.1,(a.2.1,(M,(G,(J,(F,((p.rdB a.1 (p.add 0 I) 0),K))))))))) (
 opt.need _ E<|
 opt.need _ A<|
 opt.need _ A<|
 opt.need _ E<|
 opt.need _ C<|
 opt.ret _ (a.1,(a.2.1,(M,(G,(J,(F,(Bool.false,K)))))))))) fun b=>let H:=p.eqN (p.len b.1) (p.len b.1);
 opt.need _ E<|
 opt.need _ H<|
 opt.need _ H<|
 opt.need _ E<|
 opt.need _ (p.eqN (p.len b.2.1) (p.len b.2.1))<|
 opt.ret _ (Sum.inl (b.1,(b.2.1,(b.2.2.1,(b.2.2.2.1,(b.2.2.2.2.1,(b.2.2.2.2.2.1,(b.2.2.2.2.2.2.1,((p.ar .add .i64 b.2.2.2.2.2.2.2.1 (1:Int)),())))))))))) (
 opt.need _ E<|
 opt.need _ A<|
 opt.need _ A<|
 opt.need _ E<|
 opt.need _ C<|
 opt.ret _ (Sum.inr (a.1,(a.2.1,(M,(G,(J,(F,(a.2.2.2.2.2.2.1,()))))))))))
def x2h (p:Prim):V30v→Option (V30v⊕(LD×V38v)):=
 fun a=>let B:=p.eqN 0 0;let F:=p.eqN (p.len a.1) (p.len a.1);let H:=a.2.2.2.2.2.1;let K:=p.len a.2.1;let P:=(0:Int);let R:=[ci,ci,(CK.list 1),ci]; opt.run _ (
 opt.ask _ (p.cmp .lss H (p.ofNat (p.len a.2.2.1))) (
 opt.bnd (V30v) _ (
 opt.run (V30v) (
 opt.need _ (bif (p.cmp .geq H P) then (p.cmp .lss H (p.ofNat (p.len a.1))) else Bool.false)<|
 opt.need _ (p.rowOk a.1 (p.add 0 (p.nat H)) [CK.bool])<|
 opt.need _ B<|
 opt.need _ F<|
 opt.need _ F<|
 opt.need _ B<|
 opt.need _ (p.eqN K K)<|
 opt.bnd ((LD×(LD×(LD×(LD×V40v))))) _ (
 z1e (x7q p) (a.1,(a.2.1,(a.2.2.1,(a.2.2.2.1,(a.2.2.2.2.1,(H,((bif (p.rdB a.1 (p.add 0 (p.nat H)) 0) then Bool.false else Bool.true),(P,()))))))))) fun b=>let A:=p.eqN (p.len b.1) (p.len b.1);let C:=p.eqN (p.len b.2.1) (p.len b.2.1);let E:=b.2.2.2.2.2.1;let Q:=b.2.2.1;let J:=b.2.2.2.2.1;let G:=(b.1,(b.2.1,(Q,(b.2.2.2.1,(J,(E,()))))));let I:=(b.1,(b.2.1,(Q,(b.2.2.2.1,(E,(E,()))))));
 opt.ask _ b.2.2.2.2.2.2.1 (
 opt.ask _ (p.cmp .lss J P) (
 opt.bnd (V30v) _ (
 opt.run (V30v) (
 opt.need _ B<|
 opt.need _ A<|
 opt.need _ A<|
 opt.need _ B<|
 opt.need _ C<|
 opt.ret _ I)) fun c=>let O:=p.eqN (p.len c.1) (p.len c.1);
 opt.need _ B<|
 opt.need _ O<|
 opt.need _ O<|
 opt.need _ B<|
 opt.need _ (p.eqN (p.len c.2.1) (p.len c.2.1))<|
 opt.ret _ c) (
 opt.need _ (p.rowOk Q (p.nat E) R)<|
 opt.need _ (p.cmp .geq E P)<|
 opt.need _ (p.rowOk Q (p.nat J) R)<|
 opt.need _ (p.cmp .geq J P)<|
 opt.bnd (V30v) _ (
 opt.run (V30v) (
 opt.ask _ (p.cmp .lss (p.rdI Q (p.nat E) 0) (p.rdI Q (p.nat J) 0)) (
 opt.need _ B<|
 opt.need _ A<|
 opt.need _ A<|
 opt.need _ B<|
 opt.need _ C<|
 opt.ret _ I) (
 opt.need _ B<|
 opt.need _ A<|
 opt.need _ A<|
 opt.need _ B<|
 opt.need _ C<|
 opt.ret _ G))) fun d=>let N:=p.eqN (p.len d.1) (p.len d.1);
 opt.need _ B<|
 opt.need _ N<|
 opt.need _ N<|
 opt.need _ B<|
 opt.need _ (p.eqN (p.len d.2.1) (p.len d.2.1))<|
 opt.ret _ d)) (
 opt.bnd (V30v) _ (
 opt.run (V30v) (
 opt.need _ B<|
 opt.need _ A<|
 opt.need _ A<|
 opt.need _ B<|
 opt.need _ C<|
 opt.ret _ G)) fun e=>let M:=p.eqN (p.len e.1) (p.len e.1);
 opt.need _ B<|
 opt.need _ M<|
 opt.need _ M<|
 opt.need _ B<|
 opt.need _ (p.eqN (p.len e.2.1) (p.len e.2.1))<|
 opt.ret _ e))) fun f=>let L:=p.eqN (p.len f.1) (p.len f.1);
 opt.need _ B<|
 opt.need _ L<|
 opt.need _ L<|
 opt.need _ B<|
 opt.need _ (p.eqN (p.len f.2.1) (p.len f.2.1))<|
 opt.ret _ (Sum.inl (f.1,(f.2.1,(f.2.2.1,(f.2.2.2.1,(f.2.2.2.2.1,((p.ar .add .i64 f.2.2.2.2.2.1 (1:Int)),())))))))) (
 opt.need _ B<|
 opt.need _ F<|
 opt.need _ F<|
 opt.need _ B<|
 opt.need _ (p.eqN K K)<|
 opt.ret _ (Sum.inr (a.1,(a.2.1,(a.2.2.1,(a.2.2.2.1,(a.2.2.2.2.1,()))))))))
def w62 (p:Prim):(LD×(LD×V25v))→Option ((LD×(LD×V25v))⊕V10v):=
 fun a=>let F:=p.len a.2.1;let H:=p.eqN 0 0;let K:=p.eqN (p.len a.1) (p.len a.1); opt.run _ (
 opt.ask _ (p.cmp .lss (p.ofNat F) (p.ofNat (p.len a.2.2.1))) (
 opt.need _ H<|
 opt.need _ K<|
 opt.need _ K<|
 opt.need _ H<|
 opt.need _ (p.eqN F F)<|
 opt.bnd ((LD×V38v)) _ (
 z1e (x2h p) (a.1,(a.2.1,(a.2.2.1,(a.2.2.2.1,((-1:Int),((0:Int),()))))))) fun b=>let J:=b.2.2.1;let B:=p.nat b.2.2.2.2.1;let A:=[[(D.int .i64 (p.rdI J B 0)),(D.int .i64 (p.rdI J B 1)),(D.list (p.rdF J B 2 1) 1 (p.rdL J B 2)),(D.int .i64 (p.rdI J B 3))]];let C:=p.set b.1 (p.add 0 B) [(D.bool Bool.true)];let E:=p.len b.2.1;let G:=p.app (p.cut b.2.1 0 E) (p.cut A 0 1);let I:=p.cmp .geq b.2.2.2.2.1 (0:Int);let L:=p.eqN (p.len b.1) (p.len C);
 opt.need _ (bif I then (p.cmp .lss b.2.2.2.2.1 (p.ofNat (p.len b.1))) else Bool.false)<|
 opt.need _ (p.rowOk b.1 (p.add 0 B) [CK.bool])<|
 opt.need _ (p.rowOk J B [ci,ci,(CK.list 1),ci])<|
 opt.need _ I<|
 opt.need _ (p.and (p.leN (p.add 0 1) (p.len A)) (p.and (p.leN (p.add 0 E) E) (p.and (p.leN 1 1) (p.leN (p.add E 1) 1000000))))<|
 opt.need _ H<|
 opt.need _ L<|
 opt.need _ L<|
 opt.need _ H<|
 opt.need _ (p.eqN (p.add E 1) (p.len G))<|
 opt.ret _ (Sum.inl (C,(G,(J,(b.2.2.2.1,())))))) (
 opt.need _ H<|
 opt.need _ (p.eqN F F)<|
 opt.ret _ (Sum.inr (a.2.1,()))))
def G69:(p:Prim)→V25v→Option (V10v):=
 fun p x=>let A:=p.ofNat (p.len x.1);let B:=p.rep (p.nat A) [(D.bool Bool.false)];let C:=p.eqN (p.nat A) (p.len B);
 opt.need _ (p.and (p.cmp .geq A (0:Int)) (p.and (p.cmp .leq A A) (p.cmp .leq A (1000000:Int))))<|
 opt.need _ (p.eqN 0 0)<|
 opt.need _ C<|
 opt.need _ C<|
 opt.bnd (V10v) _ (
 z1e (w62 p) (B,([],x))) fun a=>
 opt.need _ (p.eqN 0 0)<|
 opt.need _ (p.eqN (p.len a.1) (p.len a.1))<|
 opt.ret _ a
theorem v0g:z3d PG 69:=enters_auto (b:=_) rfl (by kernel_rfl)
theorem ok69:CtrOk PG t0l (G69 std):=okF vE (a:=an69) (l:=la69) (gN)
end Go.Am
end
noncomputable section
namespace Go.Am
def u1v:Ctr:=
 ⟨28,[.list 4],[],[(.ret,⟨[(0, .tuple [.vec 0 1, .int .i64])],[o8m],1⟩)]⟩
def la28:List LA:=
 [⟨28,[fU,tU,fU,tU,tU,tU,tU],0,⟨⟨[(0, .list 4),(4, .full 0 1),(5, .vec 1 1),(6, .int .i64)],[o12m,o8m],86⟩,[((AX.exit 0),⟨[(5, .vec 0 1)],[o8m],86⟩)]⟩⟩,
 ⟨28,[fU,fU,tU,fU,fU,tU,fU,fU,tU,fU,tU,tU,tU,tU],0,⟨⟨[(0, .list 4),(4, .full 0 1),(5, .vec 1 1),(6, .int .i64),(7, .vec 2 1)],o15m,86⟩,[((AX.exit 2),⟨[(0, .list 4),(4, .full 0 1),(5, .vec 1 1),(6, .int .i64),(7, .vec 2 1)],o15m,86⟩)]⟩⟩,
 ⟨28,[fU,tU,fU,tU,fU,fU,fU,fU,tU,fU,fU,tU,fU,fU,tU,fU,tU,tU,tU,tU],0,⟨⟨[(0, .list 4),(4, .full 0 1),(5, .vec 1 1),(6, .int .i64),(7, .vec 2 1),(8, .int .i64),(9, .int .i64)],o15m,86⟩,[((AX.exit 4),⟨[(0, .list 4),(4, .full 0 1),(5, .vec 1 1),(6, .int .i64),(7, .vec 2 1),(8, .int .i64)],o15m,86⟩)]⟩⟩]
def ja28:List JA:=
 [⟨28,[fU,tU,fU,fU,tU,fU,tU,fU,fU,fU,fU,tU,fU,fU,tU,fU,fU,tU,fU,tU,tU,tU,tU],0,[(AX.normal,⟨[(0, .list 4),(4, .full 0 1),(5, .vec 1 1),(6, .int .i64),(7, .vec 2 1),(8, .int .i64),(9, .int .i64)],o15m,86⟩)]⟩,
 ⟨28,[tU,tU,tU,fU,fU,tU,fU,fU,tU,fU,tU,tU,tU,tU],0,[(AX.normal,⟨[(0, .list 4),(4, .full 0 1),(5, .vec 1 1),(6, .int .i64)],[o12m,o8m],86⟩)]⟩,
 ⟨28,[tU,fU,fU,tU,fU,fU,tU,fU,tU,fU,fU,fU,fU,tU,fU,fU,tU,fU,fU,tU,fU,tU,tU,tU,tU],0,[(AX.normal,⟨[(0, .list 4),(4, .full 0 1),(5, .vec 1 1),(6, .int .i64),(7, .vec 2 1),(8, .int .i64),(9, .int .i64)],o15m,86⟩)]⟩]
def u9l:List CF:=
 [⟨u1j,G65⟩,⟨v01,G20⟩]
def an28:Anns:=
 ⟨u9l,ja28,[⟨28,[false,true,true,true,false,false,true,false,false,true,false,true,true,true,true],⟨[(0, .list 4),(4, .full 0 1),(5, .vec 1 1),(6, .int .i64),(7, .list 1)],[.row [ci], .row [(CK.list 1)]],86⟩⟩]⟩
def y43 (p:Prim):V12v→Option (V12v⊕V30v):=
 fun a=>let A:=p.eqN (p.len a.1) (p.len a.1);let B:=p.eqN 0 0;let V:=a.2.2.2.1;let N:=a.2.2.2.2.2.2.1;let I:=p.nat N;let C:=p.rowOk V I [ci,ci,(CK.list 1),ci];let Y:=a.2.2.1;let L:=p.rdI V I 0;let E:=(a.1,(a.2.1,(Y,(V,(a.2.2.2.2.1,(L,a.2.2.2.2.2.2))))));let F:=p.len Y;let G:=p.eqN (p.len a.2.1) (p.len a.2.1);let X:=(0:Int);let H:=p.cmp .geq N X;let J:=p.ar .sub .i64 (p.ofNat F) (1:Int);let K:=p.eqN F F;let M:=a.2.2.2.2.2.1; opt.run _ (
 opt.ask _ (p.cmp .lss N (p.ofNat (p.len V))) (
 opt.bnd (V12v) _ (
 opt.run (V12v) (
 opt.need _ (bif H then (p.cmp .lss N (p.ofNat (p.len a.1))) else Bool.false)<|
 opt.need _ (p.rowOk a.1 (p.add 0 I) [ci])<|
 opt.ask _ (p.cmp .eql (p.rdI a.1 (p.add 0 I) 0) a.2.2.2.2.1) (
 opt.ask _ (p.cmp .eql (p.ofNat F) X) (
 opt.ask _ (p.cmp .eql M X) (
 opt.bnd (V12v) _ (
 opt.run (V12v) (
 opt.need _ C<|
 opt.need _ H<|
 opt.need _ B<|
 opt.need _ A<|
 opt.need _ A<|
 opt.need _ B<|
 opt.need _ G<|
 opt.need _ B<|
 opt.need _ K<|
 opt.ret _ E)) fun b=>let U:=p.eqN (p.len b.1) (p.len b.1);
 opt.need _ B<|
 opt.need _ U<|
 opt.need _ U<|
 opt.need _ B<|
 opt.need _ (p.eqN (p.len b.2.1) (p.len b.2.1))<|
 opt.need _ B<|
 opt.need _ (p.eqN (p.len b.2.2.1) (p.len b.2.2.1))<|
 opt.ret _ b) (
 opt.need _ C<|
 opt.need _ H<|
 opt.bnd (V12v) _ (
 opt.run (V12v) (
 opt.ask _ (p.cmp .lss L M) (
 opt.need _ C<|
 opt.need _ H<|
 opt.need _ B<|
 opt.need _ A<|
 opt.need _ A<|
 opt.need _ B<|
 opt.need _ G<|
 opt.need _ B<|
 opt.need _ K<|
 opt.ret _ E) (
 opt.need _ B<|
 opt.need _ A<|
 opt.need _ A<|
 opt.need _ B<|
 opt.need _ G<|
 opt.need _ B<|
 opt.need _ K<|
 opt.ret _ a))) fun c=>let T:=p.eqN (p.len c.1) (p.len c.1);
 opt.need _ B<|
 opt.need _ T<|
 opt.need _ T<|
 opt.need _ B<|
 opt.need _ (p.eqN (p.len c.2.1) (p.len c.2.1))<|
 opt.need _ B<|
 opt.need _ (p.eqN (p.len c.2.2.1) (p.len c.2.2.1))<|
 opt.ret _ c)) (
 opt.need _ C<|
 opt.need _ H<|
 opt.need _ (bif (p.cmp .geq J X) then (p.cmp .lss J (p.ofNat F)) else Bool.false)<|
 opt.need _ (p.rowOk Y (p.add 0 (p.nat J)) [ci])<|
 opt.ask _ (p.cmp .gtr L (p.rdI Y (p.add 0 (p.nat J)) 0)) (
 opt.ask _ (p.cmp .eql M X) (
 opt.bnd (V12v) _ (
 opt.run (V12v) (
 opt.need _ C<|
 opt.need _ H<|
 opt.need _ B<|
 opt.need _ A<|
 opt.need _ A<|
 opt.need _ B<|
 opt.need _ G<|
 opt.need _ B<|
 opt.need _ K<|
 opt.ret _ E)) fun d=>let S:=p.eqN (p.len d.1) (p.len d.1);
 opt.need _ B<|
 opt.need _ S<|
 opt.need _ S<|
 opt.need _ B<|
 opt.need _ (p.eqN (p.len d.2.1) (p.len d.2.1))<|
 opt.need _ B<|
 opt.need _ (p.eqN (p.len d.2.2.1) (p.len d.2.2.1))<|
 opt.ret _ d) (
 opt.need _ C<|
 opt.need _ H<|
 opt.bnd (V12v) _ (
 opt.run (V12v) (
 opt.ask _ (p.cmp .lss L M) (
 opt.need _ C<|
 opt.need _ H<|
 opt.need _ B<|
 opt.need _ A<|
 opt.need _ A<|
 opt.need _ B<|
 opt.need _ G<|
 opt.need _ B<|
 opt.need _ K<|
 opt.ret _ E) (
 opt.need _ B<|
 opt.need _ A<|
 opt.need _ A<|
 opt.need _ B<|
 opt.need _ G<|
 opt.need _ B<|
 opt.need _ K<|
 opt.ret _ a))) fun e=>let R:=p.eqN (p.len e.1) (p.len e.1);
 opt.need _ B<|
 opt.need _ R<|
 opt.need _ R<|
 opt.need _ B<|
 opt.need _ (p.eqN (p.len e.2.1) (p.len e.2.1))<|
 opt.need _ B<|
 opt.need _ (p.eqN (p.len e.2.2.1) (p.len e.2.2.1))<|
 opt.ret _ e)) (
 opt.bnd (V12v) _ (
 opt.run (V12v) (
 opt.need _ B<|
 opt.need _ A<|
 opt.need _ A<|
 opt.need _ B<|
 opt.need _ G<|
 opt.need _ B<|
 opt.need _ K<|
 opt.ret _ a)) fun f=>let Q:=p.eqN (p.len f.1) (p.len f.1);
 opt.need _ B<|
 opt.need _ Q<|
 opt.need _ Q<|
 opt.need _ B<|
 opt.need _ (p.eqN (p.len f.2.1) (p.len f.2.1))<|
 opt.need _ B<|
 opt.need _ (p.eqN (p.len f.2.2.1) (p.len f.2.2.1))<|
 opt.ret _ f))) (
 opt.bnd (V12v) _ (
 opt.run (V12v) (
 opt.need _ B<|
 opt.need _ A<|
 opt.need _ A<|
 opt.need _ B<|
 opt.need _ G<|
 opt.need _ B<|
 opt.need _ K<|
 opt.ret _ a)) fun g=>let P:=p.eqN (p.len g.1) (p.len g.1);
 opt.need _ B<|
 opt.need _ P<|
 opt.need _ P<|
 opt.need _ B<|
 opt.need _ (p.eqN (p.len g.2.1) (p.len g.2.1))<|
 opt.need _ B<|
 opt.need _ (p.eqN (p.len g.2.2.1) (p.len g.2.2.1))<|
 opt.ret _ g))) fun h=>let O:=p.eqN (p.len h.1) (p.len h.1);
 opt.need _ B<|
 opt.need _ O<|
 opt.need _ O<|
 opt.need _ B<|
 opt.need _ (p.eqN (p.len h.2.1) (p.len h.2.1))<|
 opt.need _ B<|
 opt.need _ (p.eqN (p.len h.2.2.1) (p.len h.2.2.1))<|
 opt.ret _ (Sum.inl (h.1,(h.2.1,(h.2.2.1,(h.2.2.2.1,(h.2.2.2.2.1,(h.2.2.2.2.2.1,((p.ar .add .i64 h.2.2.2.2.2.2.1 (1:Int)),()))))))))) (
 opt.need _ B<|
 opt.need _ A<|
 opt.need _ A<|
 opt.need _ B<|
 opt.need _ G<|
 opt.need _ B<|
 opt.need _ K<|
 opt.ret _ (Sum.inr (a.1,(a.2.1,(Y,(V,(a.2.2.2.2.1,(M,())))))))))
def w7c (p:Prim):(LD×V38v)→Option ((LD×V38v)⊕(LD×V38v)):=
 fun a=>let C:=p.eqN 0 0;let G:=p.eqN (p.len a.1) (p.len a.1); opt.run _ (
 opt.need _ C<|
 opt.need _ G<|
 opt.need _ G<|
 opt.need _ C<|
 opt.need _ (p.eqN (p.len a.2.1) (p.len a.2.1))<|
 opt.need _ C<|
 opt.need _ (p.eqN (p.len a.2.2.1) (p.len a.2.2.1))<|
 opt.bnd (V30v) _ (
 z1e (y43 p) (a.1,(a.2.1,(a.2.2.1,(a.2.2.2.1,(a.2.2.2.2.1,((0:Int),((0:Int),())))))))) fun b=>let A:=p.len b.2.2.1;let B:=p.eqN (p.len b.1) (p.len b.1);let H:=[[(D.int .i64 b.2.2.2.2.2.1)]];let E:=p.app (p.cut b.2.2.1 0 A) (p.cut H 0 1);let F:=p.len b.2.1;let I:=(b.2.2.2.1,(b.2.2.2.2.1,()));
 opt.ask _ (p.cmp .eql b.2.2.2.2.2.1 (0:Int)) (
 opt.need _ C<|
 opt.need _ B<|
 opt.need _ B<|
 opt.need _ C<|
 opt.need _ (p.eqN F F)<|
 opt.need _ C<|
 opt.need _ (p.eqN A A)<|
 opt.ret _ (Sum.inr (b.1,(b.2.1,(b.2.2.1,I))))) (
 opt.need _ (p.and (p.leN (p.add 0 1) (p.len H)) (p.and (p.leN (p.add 0 A) A) (p.and (p.leN 1 1) (p.leN (p.add A 1) 1000000))))<|
 opt.need _ C<|
 opt.need _ B<|
 opt.need _ B<|
 opt.need _ C<|
 opt.need _ (p.eqN F F)<|
 opt.need _ C<|
 opt.need _ (p.eqN (p.add A 1) (p.len E))<|
 opt.ret _ (Sum.inl (b.1,(b.2.1,(E,I))))))
def w23 (p:Prim):V38v→Option (V38v⊕V10v):=
 fun a=>let E:=p.eqN 0 0;let H:=p.len a.2.1;let J:=p.eqN (p.len a.1) (p.len a.1); opt.run _ (
 opt.ask _ (p.cmp .leq a.2.2.2.1 (p.ofNat (p.len a.2.2.1))) (
 opt.need _ E<|
 opt.need _ J<|
 opt.need _ J<|
 opt.need _ E<|
 opt.need _ (p.eqN H H)<|
 opt.bnd ((LD×V38v)) _ (
 z1e (w7c p) (a.1,(a.2.1,([],a.2.2)))) fun b=>let A:=p.eqN (p.len b.1) (p.len b.1);let F:=p.len b.2.2.1;let B:=[[(D.list Bool.false 1 (p.cut b.2.2.1 0 F))]];let C:=p.len b.2.1;let G:=p.app (p.cut b.2.1 0 C) (p.cut B 0 1);
 opt.bnd (V38v) _ (
 opt.run (V38v) (
 opt.ask _ (p.cmp .gtr (p.ofNat F) (0:Int)) (
 opt.need _ E<|
 opt.need _ A<|
 opt.need _ A<|
 opt.need _ E<|
 opt.need _ (p.eqN C C)<|
 opt.need _ (p.leN (p.add 0 F) F)<|
 opt.need _ (p.and (p.leN (p.add 0 1) (p.len B)) (p.and (p.leN (p.add 0 C) C) (p.and (p.leN 1 1) (p.leN (p.add C 1) 1000000))))<|
 opt.need _ E<|
 opt.need _ A<|
 opt.need _ A<|
 opt.need _ E<|
 opt.need _ (p.eqN (p.add C 1) (p.len G))<|
 opt.ret _ (b.1,(G,b.2.2.2))) (
 opt.need _ E<|
 opt.need _ A<|
 opt.need _ A<|
 opt.need _ E<|
 opt.need _ (p.eqN C C)<|
 opt.ret _ (b.1,(b.2.1,b.2.2.2))))) fun c=>let I:=p.eqN (p.len c.1) (p.len c.1);
 opt.need _ E<|
 opt.need _ I<|
 opt.need _ I<|
 opt.need _ E<|
 opt.need _ (p.eqN (p.len c.2.1) (p.len c.2.1))<|
 opt.ret _ (Sum.inl (c.1,(c.2.1,(c.2.2.1,((p.ar .add .i64 c.2.2.2.1 (1:Int)),())))))) (
 opt.need _ E<|
 opt.need _ (p.eqN H H)<|
 opt.ret _ (Sum.inr (a.2.1,()))))
def G28:(p:Prim)→V10v→Option (V11v):=
 fun p x=>
 opt.bnd (V1v) _ (G20 p x) fun a=>
 opt.ask _ (p.cmp .neq a.1 (0:Int)) (
 opt.bnd (V1v) _ (G20 p x) fun b=>
 opt.ret _ ([],b)) (
 opt.bnd (V10v) _ (G65 p x) fun c=>let A:=p.eqN (p.len c.1) (p.len c.1);
 opt.need _ (p.eqN 0 0)<|
 opt.need _ A<|
 opt.need _ A<|
 opt.bnd (V10v) _ (
 z1e (w23 p) (c.1,([],(x.1,((1:Int),()))))) fun d=>
 opt.need _ (p.eqN 0 0)<|
 opt.need _ (p.eqN (p.len d.1) (p.len d.1))<|
 opt.ret _ (d.1,((0:Int),())))
theorem ok28:CtrOk PG u1v (G28 std):=okF vE (a:=an28) (l:=la28) (gC ok65 (gC u4p (gN)))
end Go.Am
end
section
namespace Go.Am
namespace D12
structure Sg where
 a:Nat
 b:Nat
 ha:a<2 ^ 64
 hb:b<2 ^ 64
def Sg.has (s:Sg) (i:Nat):Bool:=if i<64 then s.a.testBit i else s.b.testBit (i - 64)
def Sg.none:Sg:=⟨0,0,by omega,by omega⟩
def Sg.wth (s:Sg) (k:Nat):Sg:=
 if h:k<64 then ⟨s.a|||2 ^ k,s.b,Nat.or_lt_two_pow s.ha (eFh (by omega) h),s.hb⟩
 else if h:k<128 then ⟨s.a,s.b|||2 ^ (k - 64),s.ha,Nat.or_lt_two_pow s.hb (eFh (by omega) (by omega))⟩
 else s
def Sg.or (s t:Sg):Sg:=⟨s.a|||t.a,s.b|||t.b,Nat.or_lt_two_pow s.ha t.ha,Nat.or_lt_two_pow s.hb t.hb⟩
def Sg.and (s t:Sg):Sg:=⟨s.a&&&t.a,s.b&&&t.b,Nat.lt_of_le_of_lt Nat.and_le_left s.ha,Nat.lt_of_le_of_lt Nat.and_le_left s.hb⟩
theorem Sg.has_none (i:Nat):Sg.none.has i=false:=by
 unfold Sg.has Sg.none; split<;>exact Nat.zero_testBit _
theorem Sg.has_wth (s:Sg) {k:Nat} (b:k<128) (i:Nat):(s.wth k).has i=(s.has i||decide (i=k)):=by
 unfold Sg.wth
 by_cases h:k<64
 ·rw [dif_pos h]
  unfold Sg.has
  simp only
  by_cases a:i<64
  ·rw [if_pos a,if_pos a,Nat.testBit_or,Nat.testBit_two_pow]
   congr 1
   exact decide_eq_decide.2 ⟨fun h=>h.symm,fun h=>h.symm⟩
  ·rw [if_neg a,if_neg a]
   have:¬ i=k:=by omega
   simp [this]
 ·rw [dif_neg h,dif_pos b]
  unfold Sg.has
  simp only
  by_cases a:i<64
  ·rw [if_pos a,if_pos a]
   have:¬ i=k:=by omega
   simp [this]
  ·rw [if_neg a,if_neg a,Nat.testBit_or,Nat.testBit_two_pow]
   congr 1
   exact decide_eq_decide.2 (by omega)
theorem Sg.has_or (s t:Sg) (i:Nat):(s.or t).has i=(s.has i||t.has i):=by
 unfold Sg.has Sg.or
 simp only
 split<;>exact Nat.testBit_or ..
theorem Sg.has_and (s t:Sg) (i:Nat):(s.and t).has i=(s.has i&&t.has i):=by
 unfold Sg.has Sg.and
 simp only
 split<;>exact Nat.testBit_and ..
theorem Sg.ext_has {s t:Sg} (h:∀ i,i<128→s.has i=t.has i):s.a=t.a∧s.b=t.b:=by
 constructor
 ·refine Nat.eq_of_testBit_eq fun i=>?_
  by_cases c:i<64
  ·have:=h i (by omega)
   unfold Sg.has at this
   rwa [if_pos c,if_pos c] at this
  ·have p:2 ^ 64≤2 ^ i:=Nat.pow_le_pow_right (by omega) (by omega)
   rw [Nat.testBit_lt_two_pow (eAp s.ha p),Nat.testBit_lt_two_pow (eAp t.ha p)]
 ·refine Nat.eq_of_testBit_eq fun i=>?_
  by_cases c:i<64
  ·have:=h (i+64) (by omega)
   unfold Sg.has at this
   rwa [if_neg (by omega),if_neg (by omega),Nat.add_sub_cancel] at this
  ·have p:2 ^ 64≤2 ^ i:=Nat.pow_le_pow_right (by omega) (by omega)
   rw [Nat.testBit_lt_two_pow (eAp s.hb p),Nat.testBit_lt_two_pow (eAp t.hb p)]
theorem Sg.and_sub {s t:Sg}:((s.and t).a=s.a∧(s.and t).b=s.b)↔∀ i,i<128→s.has i=true→t.has i=true:=by
 constructor
 ·rintro ⟨g,f⟩ i c h
  have e:(s.and t).has i=s.has i:=by unfold Sg.has; rw [g,f]
  rw [Sg.has_and,h] at e
  simpa using e
 ·intro h
  refine Sg.ext_has fun i c=>?_
  rw [Sg.has_and]
  cases d:s.has i with
  |false=>rfl
  |true=>rw [h i c d]; rfl
end D12
theorem x5z {n:Nat} (h:n<2 ^ 64):IntKind.u64.wrap (n:Int)=(n:Int):=by
 have e:IntKind.u64.wrap (n:Int)=(n:Int) % 18446744073709551616:=by
  unfold IntKind.wrap
  simp [IntKind.signed,IntKind.bits]
 rw [e]
 omega
theorem ofI (n:Nat):BitVec.ofInt 64 (n:Int)=BitVec.ofNat 64 n:=by simp
theorem u4f {a b:Nat} (d:a<2 ^ 64) (c:b<2 ^ 64):std.ar .or .u64 (a:Int) (b:Int)=((a|||b:Nat):Int):=by
 show IntKind.u64.wrap (((BitVec.ofInt 64 (a:Int)|||BitVec.ofInt 64 (b:Int)).toNat:Nat):Int)=_
 rw [ofI,ofI,BitVec.toNat_or,BitVec.toNat_ofNat,BitVec.toNat_ofNat,eDh d,eDh c,x5z (Nat.or_lt_two_pow d c)]
theorem v4j {a b:Nat} (c:a<2 ^ 64) (d:b<2 ^ 64):std.ar .and .u64 (a:Int) (b:Int)=((a&&&b:Nat):Int):=by
 show IntKind.u64.wrap (((BitVec.ofInt 64 (a:Int)&&&BitVec.ofInt 64 (b:Int)).toNat:Nat):Int)=_
 rw [ofI,ofI,BitVec.toNat_and,BitVec.toNat_ofNat,BitVec.toNat_ofNat,eDh c,eDh d,x5z (Nat.lt_of_le_of_lt Nat.and_le_left c)]
theorem v8p {i:Nat} (h:i<64):std.ar .shl .u64 1 (i:Int)=((2 ^ i:Nat):Int):=by
 show IntKind.u64.wrap (1*2 ^ (min ((i:Int)).toNat 64))=_
 have:min ((i:Int)).toNat 64=i:=by omega
 rw [this,Int.one_mul]
 have e:((2:Int) ^ i)=((2 ^ i:Nat):Int):=by simp
 rw [e,x5z (eFh (by omega) h)]
theorem v8q {a i:Nat} (c:a<2 ^ 64) (h:i<64):std.cmp .eql (std.ar .and .u64 (std.ar .shr .u64 (a:Int) (i:Int)) 1) 1=a.testBit i:=by
 have d:std.ar .shr .u64 (a:Int) (i:Int)=((a / 2 ^ i:Nat):Int):=by
  show Int.fdiv (a:Int) (2 ^ (min ((i:Int)).toNat 64))=_
  have:min ((i:Int)).toNat 64=i:=by omega
  rw [this]
  have e:((2:Int) ^ i)=((2 ^ i:Nat):Int):=by simp
  rw [e,Int.fdiv_eq_ediv_of_nonneg _ (Int.natCast_nonneg _)]
  exact (Int.natCast_ediv ..).symm
 have b:a / 2 ^ i<2 ^ 64:=Nat.lt_of_le_of_lt (Nat.div_le_self ..) c
 rw [d,show (1:Int)=((1:Nat):Int) from rfl,v4j b (by omega),Nat.and_one_is_mod,x6g,Nat.testBit_eq_decide_div_mod_eq]
 exact decide_eq_decide.2 (by omega)
theorem v96 {i:Nat} (h:i<128):std.ar .quo .i64 (i:Int) 64=if i<64 then 0 else 1:=by
 rw [w1b,Int.tdiv_eq_ediv_of_nonneg (by omega),y8z _ (by omega) (by omega)]
 split<;>omega
theorem v95 {i:Nat} (h:i<128):std.ar .rem .i64 (i:Int) 64=((if i<64 then i else i - 64:Nat):Int):=by
 rw [w1a,Int.tmod_eq_emod_of_nonneg (by omega)]
 split<;>omega
end Go.Am
end
section
namespace Go.Am.D12
inductive Tc (B:Cd→Cd→Bool):Cd→Cd→Prop
 |one {x y:Cd}:B x y=true→Tc B x y
 |step {x y z:Cd}:Tc B x y→B y z=true→Tc B x z
theorem Tc.trans {B:Cd→Cd→Bool} {x y z:Cd} (h:Tc B x y) (k:Tc B y z):Tc B x z:=by
 induction k with
 |one k=>exact h.step k
 |step _ k a=>exact a.step k
theorem Tc.mono {B C:Cd→Cd→Bool} (a:∀ x y,B x y=true→Tc C x y) {x y:Cd} (h:Tc B x y):Tc C x y:=by
 induction h with
 |one h=>exact a _ _ h
 |step _ h b=>exact b.trans (a _ _ h)
theorem Tc.last {B:Cd→Cd→Bool} {x y:Cd} (h:Tc B x y):B x y=true∨∃ z,Tc B x z∧B z y=true:=by
 cases h with
 |one h=>exact .inl h
 |step h k=>exact .inr ⟨_,h,k⟩
def clo (B:Cd→Cd→Bool):List Cd→Cd→Cd→Bool
 |[]=>B
 |k::ks=>clo (fun i j=>B i j||(B i k&&B k j)) ks
theorem v3p {B:Cd→Cd→Bool}:∀ {ks:List Cd} {x y:Cd},clo B ks x y=true→Tc B x y
 |[],x,y,h=> .one h
 |k::ks,x,y,h=>by
  have:=v3p (ks:=ks) h
  refine this.mono fun u v b=>?_
  simp only [eAt,eAc] at b
  rcases b with a|a
  ·exact .one a
  ·exact (Tc.one a.1).step a.2
theorem x2a {B:Cd→Cd→Bool}:∀ {ks:List Cd} {x y:Cd},B x y=true→clo B ks x y=true
 |[],_,_,h=>h
 |k::ks,x,y,h=>x2a (ks:=ks) (by simp [h])
theorem x5d {B:Cd→Cd→Bool} {k:Cd} (e:∀ x y,B x k=true→B k y=true→B x y=true):∀ {ks:List Cd} {x y:Cd},clo B ks x k=true→clo B ks k y=true→clo B ks x y=true
 |[],x,y,i,h=>e x y i h
 |m::ks,x,y,i,h=>by
  refine x5d (ks:=ks) (k:=k) ?_ i h
  intro u v d b
  simp only [eAt,eAc] at d b⊢
  rcases d with d|⟨c,g⟩<;>rcases b with b|⟨f,a⟩
  ·exact .inl (e _ _ d b)
  ·exact .inr ⟨e _ _ d f,a⟩
  ·exact .inr ⟨c,e _ _ g b⟩
  ·exact .inr ⟨c,a⟩
theorem w6l {B:Cd→Cd→Bool}:∀ {ks:List Cd} {k:Cd},k∈ks→∀ {x y:Cd},clo B ks x k=true→clo B ks k y=true→clo B ks x y=true
 |[],_,h,_,_,_,_=>by cases h
 |m::ks,k,h,x,y,f,e=>by
  rcases eAm.1 h with rfl|h
  ·refine x5d (B:=fun i j=>B i j||(B i k&&B k j)) (ks:=ks) ?_ f e
   intro u v d b
   simp only [eAt,eAc] at d b⊢
   rcases d with d|⟨c,_⟩<;>rcases b with b|⟨_,a⟩
   ·exact .inr ⟨d,b⟩
   ·exact .inr ⟨d,a⟩
   ·exact .inr ⟨c,b⟩
   ·exact .inr ⟨c,a⟩
  ·exact w6l (ks:=ks) h f e
theorem w6m {B:Cd→Cd→Bool} {g:List Cd} (b:∀ x y,B x y=true→x∈g) {x y:Cd}:clo B g x y=true↔Tc B x y:=by
 refine ⟨v3p,fun h=>?_⟩
 induction h with
 |one h=>exact x2a h
 |step h k a=>exact w6l (b _ _ k) a (x2a k)
def pre (l:List Cd) (c:Cd):List Cd:=l.take (l.idxOf c)
theorem y6g {l p r:List Cd} {c:Cd} (h:l=p++c::r) (a:c∉p):pre l c=p:=by
 subst h
 unfold pre
 rw [v27 a]; simp
theorem w8u {l:List Cd} {c:Cd} (b:c∈l):∃ r,l=pre l c++c::r:=by
 have a:=eDe.2 b
 refine ⟨l.drop (l.idxOf c+1),?_⟩
 unfold pre
 conv=>lhs; rw [←eFg (l.idxOf c) l,List.drop_eq_getElem_cons a,eCi]
theorem y10 {l:List Cd} {c d:Cd} (g:d∈l):d∈pre l c↔l.idxOf d<l.idxOf c:=by
 unfold pre
 constructor
 ·intro h
  obtain ⟨i,b,he⟩:=eBy.1 h
  have f:=b
  rw [eBo] at b
  rw [List.getElem_take] at he
  have:l.idxOf d≤i:=by
   refine Nat.le_of_not_lt fun a=>?_
   have:=List.not_of_lt_findIdx (p:=(· ==d)) (xs:=l) (i:=i) a
   rw [he] at this
   simp at this
  omega
 ·intro h
  have a:=eDe.2 g
  have e:(l.take (l.idxOf c))[l.idxOf d]'(by rw [eBo]; omega)=d:=by
   rw [List.getElem_take,eCi]
  exact e▸eCk _
def ltc (l:List Cd) (d c:Cd):Bool:=decide (c∈l)&&c.t.any fun x=>decide ((on x (pre l c)).getLast?=some d)
theorem y11 {l:List Cd} {d c:Cd}:ltc l d c=true↔c∈l∧∃ x∈c.t,(on x (pre l c)).getLast?=some d:=by simp [ltc]
theorem w4e {l:List Cd} {c d:Cd} (h:d∈pre l c):d∈l:=List.mem_of_mem_take h
theorem y3t {l:List Cd} {d c:Cd} (h:ltc l d c=true):ord l d c=true∧d∈l:=by
 obtain ⟨i,x,e,f⟩:=y11.1 h
 have g:=eDi f
 have a:=z9s.1 g
 have b:=w4e a.1
 exact ⟨z1d.2 ⟨z8z.2 ⟨x,a.2,e⟩,(y10 b).1 a.1⟩,b⟩
theorem w4o {l:List Cd} (s:l.Nodup) {d c:Cd} (t:d∈l) (w:c∈l) (h:ord l d c=true):ltc l d c=true∨∃ z∈l,ord l d z=true∧ltc l z c=true:=by
 obtain ⟨p,m⟩:=z1d.1 h
 obtain ⟨x,b,k⟩:=z8z.1 p
 have a:d∈on x (pre l c):=z9s.2 ⟨(y10 t).2 m,b⟩
 cases i:(on x (pre l c)).getLast? with
 |none=>rw [List.getLast?_eq_none_iff] at i; rw [i] at a; cases a
 |some z=>
  have o:=eDi i
  have j:=w4e (z9s.1 o).1
  have g:ltc l z c=true:=y11.2 ⟨w,x,k,i⟩
  by_cases e:d=z
  ·subst e; exact .inl g
  ·right
   refine ⟨z,j,z1d.2 ⟨z8z.2 ⟨x,b,(z9s.1 o).2⟩,?_⟩,g⟩
   have f:(on x (pre l c)).Pairwise fun u v=>l.idxOf u<l.idxOf v:=((x9l s).sublist (List.take_sublist _ _)).filter _
   obtain ⟨q,r⟩:∃ q,on x (pre l c)=q++[z]:=⟨_,List.getLast?_eq_some_iff.1 i|>.choose_spec⟩
   rw [r] at f a
   rcases eCb.1 a with n|n
   ·exact (List.pairwise_append.1 f).2.2 d n z eAu
   ·exact absurd (eBh.1 n) e
def u7j (a b:List Cd) (x y:Cd):Bool:=decide (x∈a)&&decide (y∈a)&&ord a x y||decide (x∈b)&&decide (y∈b)&&ord b x y
theorem w4n {l:List Cd} (k:l.Nodup):∀ (n:Nat) (x y:Cd),x∈l→y∈l→l.idxOf y - l.idxOf x≤n→ord l x y=true→Tc (ltc l) x y:=by
 intro n
 induction n with
 |zero=>intro x y _ _ d h; have:=(z1d.1 h).2; omega
 |succ n g=>
  intro x y e j d h
  rcases w4o k e j h with c|⟨z,i,c,f⟩
  ·exact .one c
  ·have a:=(z1d.1 (y3t f).1).2
   have b:=(z1d.1 c).2
   exact (g x z e i (by omega) c).step f
def v7u (a b:List Cd):List Cd:=a++b.filter fun c=>!(a.any fun d=>decide (d.n=c.n))
def kn (a b:List Cd):Cd→Cd→Bool:=clo (u7j a b) (v7u a b)
def unkn (a b:List Cd):Prop:=∃ x∈v7u a b,∃ y∈v7u a b,x≠y∧tch x y=true∧kn a b x y=false∧kn a b y x=false
instance (a b:List Cd):Decidable (unkn a b):=inferInstanceAs (Decidable (∃ x,x∈v7u a b∧∃ y,y∈v7u a b∧x≠y∧tch x y=true∧kn a b x y=false∧kn a b y x=false))
def circ (a b:List Cd):Prop:=∃ x∈v7u a b,kn a b x x=true
instance (a b:List Cd):Decidable (circ a b):=inferInstanceAs (Decidable (∃ x,x∈v7u a b∧kn a b x x=true))
end Go.Am.D12
end
section
namespace Go.Am
open D12
def eI (n:Int):List D:=[.int .i64 n]
def z0e (l:List Int):List (List D):=l.map eI
def eC (fl:List Int→Bool) (c:Cd):List D:=[.int .i64 c.n, .int .i64 c.k, .list (fl c.t) 1 (z0e c.t), .int .i64 c.a]
def z0a (fl:List Int→Bool) (l:List Cd):List (List D):=l.map (eC fl)
def eTh (t:Th):List D:=[.int .i64 t.num, .int .i64 t.val, .int .i64 t.hrs, .bool t.out]
def z0x (l:List Th):List (List D):=l.map eTh
def eLf (fl:List Int→Bool) (l:List Int):List D:=[.list (fl l) 1 (z0e l)]
def z3q (fl:List Int→Bool) (d:List (List Int)):List (List D):=d.map (eLf fl)
variable {fl fl':List Int→Bool}
theorem z1b (n:Int):z2b [CK.int IntKind.i64] (eI n)=true:=rfl
theorem z6e (n:Int):dI ((eI n)[0]?.getD D.nilp)=n:=rfl
theorem v06 (c:Cd):z2b [CK.int IntKind.i64,CK.int IntKind.i64,CK.list 1,CK.int IntKind.i64] (eC fl c)=true:=rfl
theorem u1b (c:Cd):dI ((eC fl c)[0]?.getD D.nilp)=c.n:=rfl
theorem u1a (c:Cd):dI ((eC fl c)[1]?.getD D.nilp)=c.k:=rfl
theorem u0y (c:Cd):dL ((eC fl c)[2]?.getD D.nilp)=z0e c.t:=rfl
theorem u0z (c:Cd):dI ((eC fl c)[3]?.getD D.nilp)=c.a:=rfl
theorem v3g (c:Cd):dF 1 ((eC fl c)[2]?.getD D.nilp)=fl c.t:=by
 show (fl c.t&&(Nat.beq 1 1||_))=_
 cases fl c.t<;>rfl
theorem w6n (t:Th):z2b [CK.int IntKind.i64,CK.int IntKind.i64,CK.int IntKind.i64,CK.bool] (eTh t)=true:=rfl
theorem v65 (t:Th):dI ((eTh t)[0]?.getD D.nilp)=t.num:=rfl
theorem v62 (t:Th):dI ((eTh t)[1]?.getD D.nilp)=t.val:=rfl
theorem v61 (t:Th):dI ((eTh t)[2]?.getD D.nilp)=t.hrs:=rfl
theorem v67 (t:Th):dB ((eTh t)[3]?.getD D.nilp)=t.out:=rfl
theorem y3l {fl:List Int→Bool} {l:List Cd} {i:Nat} {c:Cd} (h:l[i]?=some c):(l.map (eC fl))[i]?=some (eC fl c):=by
 rw [eAf,h]; rfl
theorem w80 {l:List Int} {i:Nat} {c:Int} (h:l[i]?=some c):(l.map eI)[i]?=some (eI c):=by
 rw [eAf,h]; rfl
theorem u4k {fl:List Int→Bool} {l:List Cd} {i:Nat} {c:Cd} (h:l[i]?=some c):std.rdF (l.map (eC fl)) i 2 1=fl c.t:=by
 show dF 1 (((l.map (eC fl))[i]?.bind fun r=>r[2]?).getD .nilp)=_
 rw [y3l h]; exact v3g c
theorem z2o:(∀ {fl:List Int→Bool} (c:Cd),z2b [CK.int IntKind.i64,CK.int IntKind.i64,CK.list 1,CK.int IntKind.i64] (eC fl c)=true)∧(∀ {fl:List Int→Bool} (c:Cd),dI ((eC fl c)[0]?.getD D.nilp)=c.n)∧(∀ {fl:List Int→Bool} (c:Cd),dI ((eC fl c)[1]?.getD D.nilp)=c.k)∧(∀ {fl:List Int→Bool} (c:Cd),dL ((eC fl c)[2]?.getD D.nilp)=z0e c.t)∧(∀ {fl:List Int→Bool} (c:Cd),dI ((eC fl c)[3]?.getD D.nilp)=c.a)∧(∀ {fl:List Int→Bool} (c:Cd),dF 1 ((eC fl c)[2]?.getD D.nilp)=fl c.t)∧
  (∀ n:Int,z2b [CK.int IntKind.i64] (eI n)=true)∧(∀ n:Int,dI ((eI n)[0]?.getD D.nilp)=n)∧
  (∀ t:Th,z2b [CK.int IntKind.i64,CK.int IntKind.i64,CK.int IntKind.i64,CK.bool] (eTh t)=true)∧(∀ t:Th,dI ((eTh t)[0]?.getD D.nilp)=t.num)∧(∀ t:Th,dI ((eTh t)[1]?.getD D.nilp)=t.val)∧(∀ t:Th,dI ((eTh t)[2]?.getD D.nilp)=t.hrs)∧(∀ t:Th,dB ((eTh t)[3]?.getD D.nilp)=t.out):=
 ⟨v06,u1b,u1a,u0y,u0z,v3g,z1b,z6e,w6n,v65,v62,v61,v67⟩
theorem v05 (l:List Int):z2b [CK.list 1] (eLf fl l)=true:=rfl
theorem t0i (l:List Int):dL ((eLf fl l)[0]?.getD D.nilp)=z0e l:=rfl
theorem z0r (l:List Int):(z0e l).length=l.length:=by simp [z0e]
theorem z0m (l:List Cd):(z0a fl l).length=l.length:=by simp [z0a]
theorem z66 {S R:Type} {b:S→Option (S⊕R)} (n:Nat) (e:Nat→S) (P:Nat→Bool) (r:Nat→R) (a:R)
  (step:∀ i,i<n→b (e i)=if P i=true then some (.inr (r i)) else some (.inl (e (i+1)))) (stop:b (e n)=some (.inr a)):
  z1e b (e 0)=some (match (List.range n).find? P with|some i=>r i|none=>a):=by
 have key:∀ k m,n - m=k→m≤n→z1e b (e m)=some (match (List.range' m (n - m)).find? P with|some i=>r i|none=>a):=by
  intro k
  induction k with
  |zero=>
   intro m hm d
   have:m=n:=by omega
   subst this
   rw [z13,stop,eFl]; rfl
  |succ k f=>
   intro m hm d
   have c:m<n:=by omega
   rw [z13,step m c,hm,List.range'_succ,List.find?_cons]
   cases g:P m with
   |true=>simp
   |false=>
    simp only [eAg,if_false]
    have:=f (m+1) (by omega) c
    rw [this,show n - (m+1)=k by omega]
 have:=key n 0 rfl (eAo _)
 rw [this,eFk,List.range_eq_range']
theorem z3g {S R:Type} {b:S→Option (S⊕R)} (n:Nat) (e:Nat→S) (P:Nat→Bool) (r a:R)
  (step:∀ i,i<n→b (e i)=if P i=true then some (.inr r) else some (.inl (e (i+1)))) (stop:b (e n)=some (.inr a)):
  z1e b (e 0)=some (if (List.range n).any P=true then r else a):=by
 rw [z66 n e P (fun _=>r) a step stop]
 cases h:(List.range n).find? P with
 |none=>
  have:(List.range n).any P=false:=by
   rw [eDx]
   rw [List.find?_eq_none] at h
   exact h
  simp [this]
 |some i=>
  have:(List.range n).any P=true:=eBq.2 ⟨i,eCy h,List.find?_some h⟩
  simp [this]
theorem w9v {S R:Type} {b:S→Option (S⊕R)} (n:Nat) (e:Nat→S) (a:R)
  (step:∀ i,i<n→b (e i)=some (.inl (e (i+1)))) (stop:b (e n)=some (.inr a)):z1e b (e 0)=some a:=by
 rw [z66 n e (fun _=>false) (fun _=>a) a (fun i c=>by rw [step i c]; rfl) stop]
 have:(List.range n).find? (fun _=>false)=none:=by simp
 rw [this]
theorem stp (i:Nat) (h:i<9223372036854775807):IntKind.i64.wrap ((i:Int)+1)=((i+1:Nat):Int)∧(0:Int)≤i:=⟨z8w h,by omega⟩
theorem z02 {α:Type} {l:List α} {i:Nat} {d m:α} (h:l[i]?=some m):l.getD i d=m:=by simp [eAn,h]
theorem y37 {α:Type} (l:List α) (d:α) (p:α→Bool):((List.range l.length).any fun i=>p (l.getD i d))=l.any p:=by
 rw [eBx,eBq,eBq]
 constructor
 ·rintro ⟨i,a,h⟩
  have a:=eBs.1 a
  obtain ⟨m,hm⟩:=z0i a
  rw [z02 hm] at h
  exact ⟨m,eAi hm,h⟩
 ·rintro ⟨x,b,h⟩
  obtain ⟨i,a,rfl⟩:=eBy.1 b
  exact ⟨i,eBs.2 a,by rw [z02 (eAb a)]; exact h⟩
theorem x1z {α:Type} (l:List α) (d:α) (p:α→Bool):((List.range l.length).find? fun i=>p (l.getD i d)).map (fun i=>l.getD i d)=l.find? p:=by
 have a:l=(List.range l.length).map fun i=>l.getD i d:=by
  apply List.ext_getElem (by simp)
  intro i b c
  simp [eAn,b]
 conv=>rhs; rw [a]
 rw [List.find?_map]
 rfl
theorem x85 {α:Type} [DecidableEq α] {a b:List α} (d:α) (h:a.length=b.length):((List.range a.length).any fun i=>!decide (a.getD i d=b.getD i d))=!decide (a=b):=by
 rw [eBx,eBq]
 simp only [eDa,decide_eq_false_iff_not,eBs]
 constructor
 ·rintro ⟨i,k,c⟩ rfl; exact c rfl
 ·intro c
  refine Decidable.byContradiction fun e=>c (List.ext_getElem h fun i f j=>?_)
  have:=Decidable.byContradiction fun g=>e ⟨i,f,g⟩
  simpa [eAn,f,j] using this
theorem eqL {α:Type} [DecidableEq α] (g f:List α→List (List D)) (he:∀ l,(g l).length=l.length) (q:∀ l,(f l).length=l.length)
  {b:(List (List D)×(List (List D)×(Int×Unit)))→Option ((List (List D)×(List (List D)×(Int×Unit)))⊕((Bool×Unit)⊕Unit))} (a c:List α) (d:α)
  (step:∀ (i:Nat) m k,a[i]?=some m→c[i]?=some k→(i:Int)<a.length→(i:Int)<c.length→b (g a,(f c,((i:Int),())))=if (!decide (m=k))=true then some (.inr (.inl (false,()))) else some (.inl (g a,(f c,(((i+1:Nat):Int),())))))
  (stop:¬ (a.length:Int)<a.length→b (g a,(f c,((a.length:Int),())))=some (.inr (.inr ()))):
  opt.ask _ (std.cmp .neq (std.ofNat (std.len (g a))) (std.ofNat (std.len (f c)))) (opt.ret _ (false,())) (opt.alt (Bool×Unit) Unit _ (z1e b (g a,(f c,((0:Int),())))) (fun y=>opt.ret _ (y.1,())) (fun y=>opt.bnd Unit _ (some y) fun _=>opt.ret _ (true,())))=some (decide (a=c),()):=by
 by_cases o:a.length=c.length
 ·have key:=z3g (b:=b) a.length (fun i=>(g a,(f c,((i:Int),())))) (fun i=>!decide (a.getD i d=c.getD i d)) (.inl (false,())) (.inr ()) (fun i r=>by
   obtain ⟨m,hm⟩:=z0i r
   obtain ⟨k,j⟩:=z0i (l:=c) (i:=i) (by omega)
   rw [z02 hm,z02 j]
   exact step i m k hm j (by omega) (by omega)) (stop (by omega))
  have key:z1e b (g a,(f c,((0:Int),())))=_:=key
  rw [x85 d o] at key
  have p:std.cmp .neq (std.ofNat (std.len (g a))) (std.ofNat (std.len (f c)))=false:=by simp [std,z3r,he,q,o]
  rw [p,key]
  by_cases e:a=c
  ·simp [e,opt]
  ·simp [e,opt]
 ·have n:a≠c:=fun h=>o (by rw [h])
  have p:std.cmp .neq (std.ofNat (std.len (g a))) (std.ofNat (std.len (f c)))=true:=by simp [std,z3r,he,q]; omega
  rw [p]
  simp [n,opt]
theorem u3e (a b:List Int) (k:a.length≤1000000):G76 std (z0e a,(z0e b,()))=some (decide (a=b),()):=by
 unfold G76
 refine eqL z0e z0e z0r z0r a b 0 (fun i m j hm c d e=>?_) (fun g=>?_)
 ·obtain ⟨f,h⟩:=stp i (by omega)
  simp only [v7n,z0k,z0l,z0a,z0e,z0x,z2o,z0q,Int.reduceLT,Int.reduceEq,Int.reduceLE,hm,c,d,e,h,f]
 ·simp only [v7n,z0k,z0l,z0a,z0e,z0x,z2o,g]
theorem y5h (d:List (List Int)):(z3q fl d).length=d.length:=by simp [z3q]
theorem u3n (a b:List (List Int)) (o:a.length≤1000000) (hr:∀ l∈a,l.length≤1000000):G33 std (z3q fl a,(z3q fl' b,()))=some (decide (a=b),()):=by
 unfold G33
 refine eqL (z3q fl) (z3q fl') y5h y5h a b [] (fun i m h hm c d f=>?_) (fun k=>?_)
 ·obtain ⟨j,n⟩:=stp i (by omega)
  have g:=u3e m h (hr m (eAi hm))
  simp only [v7p,z0k,z0l,z3q,v05,t0i,z0q,Int.reduceLT,Int.reduceEq,Int.reduceLE,hm,c,d,f,n,j,g]
  by_cases e:m=h<;>simp [e]
 ·simp only [v7p,z0k,z0l,z3q,k]
theorem v3z (c d:Cd) (G:c.t.length≤1000000):G77 std (c.n,(c.k,(z0e c.t,(c.a,(d.n,(d.k,(z0e d.t,(d.a,()))))))))=some (decide (c=d),()):=by
 obtain ⟨o,p,f,r⟩:=c
 obtain ⟨A,B,g,I⟩:=d
 simp only at G⊢
 unfold G77
 by_cases s:o=A
 ·by_cases x:p=B
  ·by_cases z:r=I
   ·subst s x z
    by_cases y:f.length=g.length
    ·have key:=z3g (b:=w60 std) f.length (fun i=>(o,(p,(z0e f,(r,(o,(p,(z0e g,(r,((i:Int),())))))))))) (fun i=>!decide (f.getD i 0=g.getD i 0)) (.inl (false,())) (.inr ()) (fun i F=>by
      obtain ⟨m,hm⟩:=z0i F
      obtain ⟨J,q⟩:=z0i (l:=g) (i:=i) (by omega)
      obtain ⟨C,H⟩:=stp i (by omega)
      have v:(i:Int)<f.length:=by omega
      have w:(i:Int)<g.length:=by omega
      simp only [z02 hm,z02 q,w60,z0k,z0l,z0a,z0e,z0x,z2o,z0q,Int.reduceLT,Int.reduceEq,Int.reduceLE,hm,q,v,w,H,C]) (by
      have E:¬ (f.length:Int)<f.length:=by omega
      simp only [w60,z0k,z0l,z0a,z0e,z0x,z2o,E])
     have key:z1e (w60 std) (o,(p,(z0e f,(r,(o,(p,(z0e g,(r,((0:Int),())))))))))=_:=key
     rw [x85 0 y] at key
     have j:((f.length:Nat):Int)=(g.length:Nat):=by omega
     simp only [z0k,z0l,z0r,z0q,Int.reduceLT,Int.reduceEq,Int.reduceLE,j,key]
     by_cases e:f=g<;>simp [e]
    ·have u:f≠g:=fun h=>y (by rw [h])
     have j:¬ ((f.length:Nat):Int)=(g.length:Nat):=by omega
     simp only [z0k,z0l,z0r,z0q,Int.reduceLT,Int.reduceEq,Int.reduceLE,j,Cd.mk.injEq,u]
     simp
   ·simp only [z0k,z0l,z0q,Int.reduceLT,Int.reduceEq,Int.reduceLE,s,x,z,Cd.mk.injEq]
    simp
  ·simp only [z0k,z0l,z0q,Int.reduceLT,Int.reduceEq,Int.reduceLE,s,x,Cd.mk.injEq]
   simp
 ·simp only [z0k,z0l,z0q,Int.reduceLT,Int.reduceEq,Int.reduceLE,s,Cd.mk.injEq]
  simp
theorem v4b (a b:List Cd) (o:a.length≤1000000) (hr:∀ c∈a,c.t.length≤1000000):G34 std (z0a fl a,(z0a fl' b,()))=some (decide (a=b),()):=by
 unfold G34
 refine eqL (z0a fl) (z0a fl') z0m z0m a b default (fun i m j hm f g h=>?_) (fun l=>?_)
 ·obtain ⟨k,n⟩:=stp i (by omega)
  have d:=v3z m j (hr m (eAi hm))
  simp only [v7o,z0k,z0l,z0a,z0e,z0x,z2o,z0q,Int.reduceLT,Int.reduceEq,Int.reduceLE,hm,f,g,h,n,k]
  simp only [z0e] at d
  simp only [d,z0k,z0l]
  by_cases e:m=j<;>simp [e]
 ·simp only [v7o,z0k,z0l,z0a,z0e,z0x,z2o,l]
def atO (l:List Cd) (x:Int):Option Nat:=(List.range l.length).find? fun i=>decide ((l.getD i default).n=x)
def atI (l:List Cd) (x:Int):Int:=match atO l x with|some i=>(i:Int)|none=> -1
theorem w7y (l:List Cd) (x:Int) (g:l.length≤1000000):G43 std (z0a fl l,(x,()))=some (atI l x,()):=by
 unfold G43 atI atO
 have key:=z66 (b:=w7a std) l.length (fun i=>(z0a fl l,(x,((i:Int),())))) (fun i=>decide ((l.getD i default).n=x)) (fun i=> .inl ((i:Int),())) (.inr ()) (fun i e=>by
  obtain ⟨m,hm⟩:=z0i e
  obtain ⟨c,f⟩:=stp i (by omega)
  have a:(i:Int)<l.length:=by omega
  simp only [z02 hm,w7a,z0k,z0l,z0a,z0e,z0x,z2o,z0q,Int.reduceLT,Int.reduceEq,Int.reduceLE,hm,a,f,c]) (by
  have d:¬ (l.length:Int)<l.length:=by omega
  simp only [w7a,z0k,z0l,z0a,z0e,z0x,z2o,d])
 have key:z1e (w7a std) (z0a fl l,(x,((0:Int),())))=_:=key
 simp only [z0k,z0l,key]
 cases (List.range l.length).find? fun i=>decide ((l.getD i default).n=x)<;>rfl
theorem v1u (c d:Cd) (i:Nat) (m:Int) (hm:c.t[i]?=some m) (s:d.t.length≤1000000):
  z1e (w68 std) (c.n,(c.k,(z0e c.t,(c.a,(d.n,(d.k,(z0e d.t,(d.a,((i:Int),((0:Int),()))))))))))=some (if d.t.contains m=true then .inl (true,()) else .inr (c.n,(c.k,(z0e c.t,(c.a,(d.n,(d.k,(z0e d.t,(d.a,((i:Int),())))))))))):=by
 have key:=z3g (b:=w68 std) d.t.length (fun j=>(c.n,(c.k,(z0e c.t,(c.a,(d.n,(d.k,(z0e d.t,(d.a,((i:Int),((j:Int),()))))))))))) (fun j=>decide (m=d.t.getD j 0)) (.inl (true,())) (.inr (c.n,(c.k,(z0e c.t,(c.a,(d.n,(d.k,(z0e d.t,(d.a,((i:Int),())))))))))) (fun j p=>by
  obtain ⟨r,f⟩:=z0i p
  have l:=z8w (i:=j) (by omega)
  have q:(0:Int)≤i:=by omega
  have h:(0:Int)≤j:=by omega
  have g:(j:Int)<d.t.length:=by omega
  simp only [z02 f,w68,z0k,z0l,z0a,z0e,z0x,z2o,z0q,Int.reduceLT,Int.reduceEq,Int.reduceLE,hm,f,g,q,h,l]) (by
  have o:¬ (d.t.length:Int)<d.t.length:=by omega
  simp only [w68,z0k,z0l,z0a,z0e,z0x,z2o,o])
 have e:((List.range d.t.length).any fun j=>decide (m=d.t.getD j 0))=d.t.contains m:=by
  rw [y37 d.t 0 fun x=>decide (m=x),List.contains_eq_any_beq]
  congr 1
 rw [e] at key
 exact key
theorem w01 (c d:Cd) (r:c.t.length≤1000000) (o:d.t.length≤1000000):G44 std (c.n,(c.k,(z0e c.t,(c.a,(d.n,(d.k,(z0e d.t,(d.a,()))))))))=some (tch c d,()):=by
 unfold G44
 have key:=z3g (b:=w69 std) c.t.length (fun i=>(c.n,(c.k,(z0e c.t,(c.a,(d.n,(d.k,(z0e d.t,(d.a,((i:Int),())))))))))) (fun i=>d.t.contains (c.t.getD i 0)) (.inl (true,())) (.inr ()) (fun i l=>by
  obtain ⟨m,hm⟩:=z0i l
  obtain ⟨g,p⟩:=stp i (by omega)
  have f:(i:Int)<c.t.length:=by omega
  have h:=v1u c d i m hm o
  simp only [z0e] at h
  simp only [z02 hm,w69,z0k,z0l,z0a,z0e,z0x,z2o,z0q,Int.reduceLT,Int.reduceEq,Int.reduceLE,hm,f,p,g,h]
  cases q:d.t.contains m<;>simp [g]) (by
  have j:¬ (c.t.length:Int)<c.t.length:=by omega
  simp only [w69,z0k,z0l,z0a,z0e,z0x,z2o,j])
 have key:z1e (w69 std) (c.n,(c.k,(z0e c.t,(c.a,(d.n,(d.k,(z0e d.t,(d.a,((0:Int),())))))))))=_:=key
 rw [y37 c.t 0 fun x=>d.t.contains x] at key
 have e:(c.t.any fun x=>d.t.contains x)=tch c d:=rfl
 rw [e] at key
 simp only [z0k,z0l,key]
 cases tch c d<;>rfl
def x4l (l:List Cd):Bool:=decide (70<l.length)||l.any fun c=>decide (10<c.t.length)
theorem v4c (l:List Cd):G15 std (z0a fl l,())=some (x4l l,()):=by
 unfold G15 x4l
 by_cases f:70<l.length
 ·have d:(70:Int)<l.length:=by omega
  simp only [z0k,z0l,z0m,z0q,Int.reduceLT,Int.reduceEq,Int.reduceLE,d,f,Bool.true_or]
 ·have d:¬ (70:Int)<l.length:=by omega
  have key:=z3g (b:=w7i std) l.length (fun i=>(z0a fl l,((i:Int),()))) (fun i=>decide (10<(l.getD i default).t.length)) (.inl (true,())) (.inr ()) (fun i k=>by
   obtain ⟨m,hm⟩:=z0i k
   obtain ⟨g,n⟩:=stp i (by omega)
   have a:(i:Int)<l.length:=by omega
   have e:((10:Int)<m.t.length)=(10<m.t.length):=propext ⟨fun h=>by omega,fun h=>by omega⟩
   simp only [z02 hm,w7i,z0k,z0l,z0a,z0e,z0x,z2o,z0q,Int.reduceLT,Int.reduceEq,Int.reduceLE,hm,a,n,g,e]) (by
   have j:¬ (l.length:Int)<l.length:=by omega
   simp only [w7i,z0k,z0l,z0a,z0e,z0x,z2o,j])
  have key:z1e (w7i std) (z0a fl l,((0:Int),()))=_:=key
  rw [y37 l default fun c=>decide (10<c.t.length)] at key
  simp only [z0k,z0l,z0m,z0q,Int.reduceLT,Int.reduceEq,Int.reduceLE,d,f,key,Bool.false_or]
  cases l.any fun c=>decide (10<c.t.length)<;>rfl
end Go.Am
end
section
namespace Go.Am
section
variable {κ ν:Type} [DecidableEq κ]
def x5y:List (κ×ν)→κ→Nat→Option (Nat×ν)
 |[],_,_=>none
 |(a,v)::r,k,i=>if k=a then some (i,v) else x5y r k (i+1)
def z1y:List (κ×ν)→κ→Option ν
 |[],_=>none
 |(a,v)::r,k=>if k=a then some v else z1y r k
def v7v:List (κ×ν)→κ→ν→List (κ×ν)
 |[],_,_=>[]
 |(a,w)::r,k,v=>if k=a then (k,v)::r else (a,w)::v7v r k v
def w7r:List (κ×ν)→κ→List (κ×ν)
 |[],_=>[]
 |(a,w)::r,k=>if k=a then r else (a,w)::w7r r k
def x2j (m:List (κ×ν)) (k:κ) (v:ν):List (κ×ν):=match z1y m k with
 |some _=>v7v m k v
 |none=>m++[(k,v)]
theorem y28 (k:κ):∀ (m:List (κ×ν)) (i:Nat),(x5y m k i).map (·.2)=z1y m k
 |[],i=>rfl
 |(a,v)::r,i=>by
  simp only [x5y,z1y]
  split
  ·rfl
  ·exact y28 k r (i+1)
theorem x7w {k:κ}:∀ {m:List (κ×ν)} {i j:Nat} {v:ν},x5y m k i=some (j,v)→i≤j∧j<i+m.length
 |(a,w)::r,i,j,v,h=>by
  simp only [x5y] at h
  split at h
  ·cases h; simp
  ·have:=x7w h; simp only [eBn]; omega
theorem w0w {k:κ}:∀ {m:List (κ×ν)} {i j:Nat} {v:ν},x5y m k i=some (j,v)→∀ w,m.set (j - i) (k,w)=v7v m k w
 |(a,u)::r,i,j,v,h,w=>by
  simp only [x5y] at h
  simp only [v7v]
  split at h
  ·rename_i e; cases h; rw [if_pos e,eFl]; rfl
  ·rename_i e
   have:=x7w h
   rw [if_neg e, ←w0w h w]
   have:j - i=(j - (i+1))+1:=by omega
   rw [this]; rfl
theorem w0x {k:κ}:∀ {m:List (κ×ν)} {i j:Nat} {v:ν},x5y m k i=some (j,v)→m.eraseIdx (j - i)=w7r m k
 |(a,u)::r,i,j,v,h=>by
  simp only [x5y] at h
  simp only [w7r]
  split at h
  ·rename_i e; cases h; rw [if_pos e,eFl]; rfl
  ·rename_i e
   have:=x7w h
   rw [if_neg e, ←w0x h]
   have:j - i=(j - (i+1))+1:=by omega
   rw [this]; rfl
theorem w0t (k:κ) (v:ν) (a:κ):∀ m:List (κ×ν),z1y (v7v m k v) a=if a=k then (z1y m k).map fun _=>v else z1y m a
 |[]=>by simp [v7v,z1y]
 |(x,w)::r=>by
  have c:=w0t k v a r
  simp only [v7v]
  by_cases h:k=x
  ·rw [if_pos h]; subst h
   by_cases h':a=k
   ·simp [z1y,h']
   ·simp [z1y,h']
  ·rw [if_neg h]
   simp only [z1y]
   rw [c]
   by_cases h':a=x
   ·subst h'
    rw [if_pos rfl,if_neg (fun e=>h e.symm)]
    simp
   ·rw [if_neg h']
    by_cases b:a=k
    ·subst b; rw [if_pos rfl,if_pos rfl,if_neg h]
    ·rw [if_neg b,if_neg b,if_neg h']
theorem y7r (a:κ) (l:List (κ×ν)):∀ m:List (κ×ν),z1y (m++l) a=(z1y m a).or (z1y l a)
 |[]=>by simp [z1y]
 |(x,w)::r=>by
  simp only [eDg,z1y,y7r a l r]
  split<;>rfl
theorem y09 (m:List (κ×ν)) (k:κ) (v:ν) (a:κ):z1y (x2j m k v) a=if a=k then some v else z1y m a:=by
 unfold x2j
 cases h:z1y m k with
 |some w=>simp only [w0t,h,eAw]
 |none=>
  simp only [y7r,z1y]
  by_cases e:a=k
  ·subst e; simp [h]
  ·simp [e]
theorem y27 {k:κ}:∀ {m:List (κ×ν)},z1y m k=none↔k∉m.map (·.1)
 |[]=>by simp [z1y]
 |(x,w)::r=>by
  simp only [z1y,eDq,eAm,not_or]
  split
  ·rename_i h; simp [h]
  ·rename_i h; simp only [y27 (m:=r)]; simp [h]
theorem w0y (k:κ):∀ (m:List (κ×ν)),((w7r m k).map (·.1)).Sublist (m.map (·.1))
 |[]=> .slnil
 |(x,w)::r=>by
  simp only [w7r]
  split
  ·exact List.sublist_cons_self _ _
  ·exact (w0y k r).cons_cons _
theorem w0v {k:κ} (b:κ):∀ {m:List (κ×ν)},(m.map (·.1)).Nodup→z1y (w7r m k) b=if b=k then none else z1y m b
 |[],_=>by simp [w7r,z1y]
 |(x,w)::r,h=>by
  simp only [eDq,eCx] at h
  have c:=w0v (k:=k) b h.2
  simp only [w7r]
  by_cases e:k=x
  ·rw [if_pos e]; subst e
   simp only [z1y]
   by_cases a:b=k
   ·subst a; rw [if_pos rfl]; exact y27.2 h.1
   ·rw [if_neg a,if_neg a]
  ·rw [if_neg e]
   simp only [z1y,c]
   by_cases a:b=x
   ·subst a; rw [if_pos rfl,if_neg (fun h=>e h.symm),if_pos rfl]
   ·rw [if_neg a,if_neg a]
end
structure w3f (κ ν:Type) where
 ke:κ→D
 ve:ν→D
 ks:List SK
 ka:Bool
 va:Bool
 ck:List CK
structure w3f.Ok {κ ν:Type} [DecidableEq κ] (E:w3f κ ν):Prop where
 agg:∀ k,z1t (E.ke k)=E.ka
 kinds:∀ k,z1h E.ks (z0v (E.ke k))=true
 eq:∀ a b,z9i E.ks (z0v (E.ke a)) (z0v (E.ke b))=some (decide (a=b))
 vagg:∀ v,z1t (E.ve v)=E.va
 vok:∀ v,z2b E.ck (z0v (E.ve v))=true
def w3f.enc {κ ν:Type} (E:w3f κ ν) (m:List (κ×ν)):List (D×D):=m.map fun e=>(E.ke e.1,E.ve e.2)
section
variable {κ ν:Type} [DecidableEq κ] {E:w3f κ ν} (h:E.Ok)
include h
theorem y7d (k:κ):∀ (m:List (κ×ν)) (i:Nat),y7e E.ks E.ka (E.ke k) (E.enc m) i=some ((x5y m k i).map fun x=>(x.1,E.ve x.2))
 |[],i=>rfl
 |(b,v)::r,i=>by
  have a:=y7d k r (i+1)
  unfold w3f.enc at a⊢
  simp only [eDq,y7e,h.agg,beq_self_eq_true,eDy,cond_true,h.eq,x5y]
  by_cases e:k=b
  ·simp [e]
  ·simp [e,a]
theorem w45 (m:List (κ×ν)) (k:κ):std.mOk (E.enc m) E.ks E.ka (E.ke k) E.va E.ck=true:=by
 show ((z1t (E.ke k)==E.ka)&&z1h E.ks (z0v (E.ke k))&&match y7e E.ks E.ka (E.ke k) (E.enc m) 0 with|some none=>true|some (some (_,v))=>(z1t v==E.va)&&z2b E.ck (z0v v)|none=>false)=true
 rw [y7d h,h.agg,h.kinds]
 cases x5y m k 0 with
 |none=>simp
 |some x=>simp [h.vagg,h.vok]
theorem y5a (m:List (κ×ν)) (k:κ):w3e (E.enc m) E.ks E.ka (E.ke k)=(x5y m k 0).map fun x=>(x.1,E.ve x.2):=by
 unfold w3e; rw [y7d h]; rfl
theorem x9a (m:List (κ×ν)) (k:κ):std.mhas (E.enc m) E.ks E.ka (E.ke k)=(z1y m k).isSome:=by
 show (w3e _ _ _ _).isSome=_
 rw [y5a h, ←y28 k m 0]; simp
theorem x38 (m:List (κ×ν)) (k:κ) (j:Nat) {v:ν} (a:z1y m k=some v):y4z (E.enc m) E.ks E.ka (E.ke k) j=((z0v (E.ve v))[j]?).getD .nilp:=by
 unfold y4z
 rw [y5a h]
 rw [←y28 k m 0] at a
 cases b:x5y m k 0 with
 |none=>rw [b] at a; cases a
 |some x=>rw [b] at a; cases a; rfl
theorem x9d (m:List (κ×ν)) (k:κ) (j:Nat) {v:ν} (a:z1y m k=some v):std.mI (E.enc m) E.ks E.ka (E.ke k) j=dI (((z0v (E.ve v))[j]?).getD .nilp):=by
 show dI (y4z _ _ _ _ _)=_
 rw [x38 h m k j a]
theorem w9e (m:List (κ×ν)) (k:κ) {v:ν} (a:z1y m k=some v) (w:ν):std.mset (E.enc m) (std.nat (std.ofNat (std.mpos (E.enc m) E.ks E.ka (E.ke k)))) (E.ke k) (E.ve w)=E.enc (x2j m k w):=by
 show (E.enc m).set (Int.toNat ((((w3e (E.enc m) E.ks E.ka (E.ke k)).map (·.1)).getD 0:Nat):Int)) (E.ke k,E.ve w)=_
 rw [y5a h]
 have b:=a
 rw [←y28 k m 0] at a
 cases c:x5y m k 0 with
 |none=>rw [c] at a; cases a
 |some x=>
  obtain ⟨j,u⟩:=x
  simp only [eAw,eBb,eCz,x2j,b,w3f.enc]
  rw [←w0w c w,eFk,eFe]
theorem x9c (m:List (κ×ν)) (k:κ) (a:z1y m k=none) (w:ν):std.madd (E.enc m) (E.ke k) (E.ve w)=E.enc (x2j m k w):=by
 show E.enc m++[(E.ke k,E.ve w)]=_
 simp [x2j,a,w3f.enc]
theorem w9h (m:List (κ×ν)) (k:κ) {v:ν} (a:z1y m k=some v):std.mdel (E.enc m) (std.nat (std.ofNat (std.mpos (E.enc m) E.ks E.ka (E.ke k))))=E.enc (w7r m k):=by
 show (E.enc m).eraseIdx (Int.toNat ((((w3e (E.enc m) E.ks E.ka (E.ke k)).map (·.1)).getD 0:Nat):Int))=_
 rw [y5a h]
 rw [←y28 k m 0] at a
 cases b:x5y m k 0 with
 |none=>rw [b] at a; cases a
 |some x=>
  obtain ⟨j,u⟩:=x
  simp only [eAw,eBb,eCz,w3f.enc]
  rw [←w0x b,eFk]
  apply eBt
  intro i
  simp only [List.getElem?_eraseIdx,eAf]
  split<;>rfl
end
end Go.Am
end
section
namespace Go.Am
open D12
variable {fl fl':List Int→Bool}
theorem w7v (s:Sg) (i:Nat) (h:i<128):G74 std ((s.a:Int),((s.b:Int),((i:Int),())))=some (s.has i,()):=by
 have q:=v96 h
 have r:=v95 h
 unfold G74 Sg.has
 by_cases e:i<64
 ·rw [if_pos e] at q r⊢
  have c:=v8q s.ha e
  rw [x6g] at c
  have d:(0:Int)≤((i:Nat):Int):=by omega
  simp [z0k,z0l,z0q,Int.reduceLT,Int.reduceEq,Int.reduceLE,q,r,c,d]
 ·rw [if_neg e] at q r⊢
  have c:=v8q s.hb (show i - 64<64 by omega)
  rw [x6g] at c
  have d:(0:Int)≤((i - 64:Nat):Int):=by omega
  simp [z0k,z0l,z0q,Int.reduceLT,Int.reduceEq,Int.reduceLE,q,r,c,d]
theorem w7w (s:Sg) (i:Nat) (h:i<128):G72 std ((s.a:Int),((s.b:Int),((i:Int),())))=some (((s.wth i).a:Int),(((s.wth i).b:Int),())):=by
 have q:=v96 h
 have r:=v95 h
 unfold G72 Sg.wth
 by_cases c:i<64
 ·rw [if_pos c] at q r
  rw [dif_pos c]
  have j:=u4f s.ha (eFh (by omega) c:2 ^ i<2 ^ 64)
  have g:=v8p c
  have f:(0:Int)≤((i:Nat):Int):=by omega
  have e:(0:Int)<((2:Nat):Int):=by omega
  have d:(1:Int)<((2:Nat):Int):=by omega
  simp only [z0k,z0l,z0q,Int.reduceLT,Int.reduceEq,Int.reduceLE,q,r,g,j,f,e,d]
 ·rw [if_neg c] at q r
  rw [dif_neg c,dif_pos h]
  have k:i - 64<64:=by omega
  have j:=u4f s.hb (eFh (by omega) k:2 ^ (i - 64)<2 ^ 64)
  have g:=v8p k
  have f:(0:Int)≤((i - 64:Nat):Int):=by omega
  have e:(0:Int)<((2:Nat):Int):=by omega
  have d:(1:Int)<((2:Nat):Int):=by omega
  simp only [z0k,z0l,z0q,Int.reduceLT,Int.reduceEq,Int.reduceLE,q,r,g,j,f,e,d]
theorem t0x (a b c d e f:Int):v1i std (a,(b,(c,(d,(e,(f,((0:Int),())))))))=some (.inl (std.ar .or .u64 a c,(b,(c,(d,(e,(f,((1:Int),())))))))):=rfl
theorem t0w (a b c d e f:Int):v1i std (a,(b,(c,(d,(e,(f,((1:Int),())))))))=some (.inl (a,(std.ar .or .u64 b d,(c,(d,(e,(f,((2:Int),())))))))):=rfl
theorem t0v (a b c d e f:Int):v1i std (a,(b,(c,(d,(e,(f,((2:Int),())))))))=some (.inr (a,(b,(e,(f,()))))):=rfl
theorem v34 (s t:Sg):G73 std ((s.a:Int),((s.b:Int),((t.a:Int),((t.b:Int),()))))=some (((s.or t).a:Int),(((s.or t).b:Int),())):=by
 unfold G73
 rw [z13,t0x]
 simp only []
 rw [z13,t0w]
 simp only []
 rw [z13,t0v,u4f s.ha t.ha,u4f s.hb t.hb]
 rfl
theorem u2n (a b c d e f:Int):w0m std (a,(b,(c,(d,(e,(f,((0:Int),())))))))=some (.inl (std.ar .and .u64 a c,(b,(c,(d,(e,(f,((1:Int),())))))))):=rfl
theorem u2m (a b c d e f:Int):w0m std (a,(b,(c,(d,(e,(f,((1:Int),())))))))=some (.inl (a,(std.ar .and .u64 b d,(c,(d,(e,(f,((2:Int),())))))))):=rfl
theorem u2l (a b c d e f:Int):w0m std (a,(b,(c,(d,(e,(f,((2:Int),())))))))=some (.inr (a,(b,(e,(f,()))))):=rfl
theorem v74 (s t:Sg):u3w std ((s.a:Int),((s.b:Int),((t.a:Int),((t.b:Int),()))))=some (((s.and t).a:Int),(((s.and t).b:Int),())):=by
 unfold u3w
 rw [z13,u2n]
 simp only []
 rw [z13,u2m]
 simp only []
 rw [z13,u2l,v4j s.ha t.ha,v4j s.hb t.hb]
 rfl
theorem v8a (l:List Int) (e:1≤l.length) (d:l.length≤1000000):u3x std (z0e l,())=some (z0e l,()):=by
 unfold u3x
 have a:(z0e l).length=l.length:=z0r l
 have c:¬ l.length≤0:=by omega
 have b:(z0e l).take l.length=z0e l:=by rw [←a,eBi]
 simp only [z0k,z0l,z0q,Int.reduceLT,Int.reduceEq,Int.reduceLE,a,e,d,c,List.take_nil,List.drop_nil,List.nil_append,eBz,eAq,eAj,eBa,b]
theorem v30 (c:Cd) (d:1≤c.t.length) (b:c.t.length≤1000000):G75 std (c.n,(c.k,(z0e c.t,(c.a,()))))=some (c.n,(c.k,(z0e c.t,(c.a,())))):=by
 unfold G75
 have:=v8a c.t d b
 simp only [z0k,z0l,this]
def eS (s:Sg):List D:=[.int .u64 (s.a:Int), .int .u64 (s.b:Int)]
def z4i (l:List Sg):List (List D):=l.map eS
theorem v0l (l:List Sg):(z4i l).length=l.length:=by simp [z4i]
theorem z5i (s:Sg):z2b [CK.int IntKind.u64,CK.int IntKind.u64] (eS s)=true:=rfl
theorem y0n (s:Sg):dI ((eS s)[0]?.getD D.nilp)=(s.a:Int):=rfl
theorem y0m (s:Sg):dI ((eS s)[1]?.getD D.nilp)=(s.b:Int):=rfl
theorem x9y (l:List Sg) (i:Nat) (s:Sg):(z4i l).set i (eS s)=z4i (l.set i s):=by simp [z4i,eFe]
def EX:w3f Int Nat:=⟨fun k=> .int .i64 k,fun v=> .int .i64 (v:Int),[.i],false,false,[.int .i64]⟩
theorem w7z:EX.Ok where
 agg _:=rfl
 kinds _:=rfl
 eq:=fun a b=>by
  show (bif IntKind.i64==IntKind.i64 then (some (z3r .eql a b&&true)) else none)=_
  rw [eCu]; rfl
 vagg _:=rfl
 vok _:=rfl
def z7y (m:List (Int×Nat)):List (D×D):=EX.enc m
section
variable (m:List (Int×Nat)) (x:Int)
theorem v2i:std.mOk (z7y m) [SK.i] false (.int .i64 x) false [.int .i64]=true:=w45 w7z m x
theorem x2k:std.mhas (z7y m) [SK.i] false (.int .i64 x)=(z1y m x).isSome:=x9a w7z m x
variable {m x}
theorem v7w {v:Nat} (h:z1y m x=some v):std.mI (z7y m) [SK.i] false (.int .i64 x) 0=(v:Int):=x9d w7z m x 0 h
theorem u2v {v:Nat} (h:z1y m x=some v) (w:Nat):std.mset (z7y m) (std.mpos (z7y m) [SK.i] false (.int .i64 x)) (.int .i64 x) (.int .i64 (w:Int))=z7y (x2j m x w):=w9e w7z m x h w
theorem v7x (h:z1y m x=none) (w:Nat):std.madd (z7y m) (.int .i64 x) (.int .i64 (w:Int))=z7y (x2j m x w):=x9c w7z m x h w
end
end Go.Am
end
section
namespace Go.Am
theorem z3z {S R τ α:Type} {b:S→Option (S⊕R)} (l:List α) (e:τ→Nat→S) (f:τ→α→τ) (I:τ→Nat→Prop) (r:τ→R)
  (step:∀ t i x,l[i]?=some x→I t i→b (e t i)=some (.inl (e (f t x) (i+1)))∧I (f t x) (i+1))
  (stop:∀ t,I t l.length→b (e t l.length)=some (.inr (r t))) (t:τ) (h:I t 0):z1e b (e t 0)=some (r (l.foldl f t))∧I (l.foldl f t) l.length:=by
 have key:∀ (q:List α) (i:Nat) (t:τ),l.drop i=q→i≤l.length→I t i→z1e b (e t i)=some (r (q.foldl f t))∧I (q.foldl f t) l.length:=by
  intro q
  induction q with
  |nil=>
   intro i t a m c
   have:i=l.length:=by have:=List.drop_eq_nil_iff.1 a; omega
   subst this
   rw [z13,stop t c]
   exact ⟨rfl,c⟩
  |cons x q k=>
   intro i t a m c
   have j:l[i]?=some x:=by rw [←List.head?_drop,a]; rfl
   have g:i<l.length:=(eAa.1 j).1
   obtain ⟨o,n⟩:=step t i x j c
   have d:l.drop (i+1)=q:=by rw [←eFa,a]; rfl
   rw [z13,o]
   exact k (i+1) (f t x) d g n
 exact key l 0 t rfl (eAo _) h
namespace D12
def x7v (g:List Cd) (c:Cd):List Cd:=if (g.any fun d=>decide (d.n=c.n))=true then g else g++[c]
def z5x (dks:List (List Cd)):List Cd:=dks.foldl (fun g l=>l.foldl x7v g) []
def ixM (g:List Cd):List (Int×Nat):=(g.map (·.n)).zipIdx
def gi (g:List Cd) (c:Cd):Nat:=(g.map (·.n)).idxOf c.n
theorem w0s (x:Int):∀ (l:List Int) (k:Nat),z1y (l.zipIdx k) x=if x∈l then some (k+l.idxOf x) else none
 |[],k=>by simp [z1y]
 |y::l,k=>by
  rw [List.zipIdx_cons]
  simp only [z1y,w0s x l (k+1),eAm,List.idxOf_cons]
  by_cases h:x=y
  ·subst h; simp
  ·have h':(y==x)=false:=by simpa using fun e=>h e.symm
   simp only [h,if_false,false_or,h',cond_false]
   split
   ·simp; omega
   ·rfl
theorem v2y (g:List Cd) (x:Int):z1y (ixM g) x=if x∈g.map (·.n) then some ((g.map (·.n)).idxOf x) else none:=by
 unfold ixM; rw [w0s]; simp
theorem v55 {g:List Cd} {c:Cd} (h:c∈g):z1y (ixM g) c.n=some (gi g c):=by
 rw [v2y,if_pos (List.mem_map_of_mem h)]; rfl
theorem v90 (g:List Cd) (x:Int):(z1y (ixM g) x).isSome=g.any fun d=>decide (d.n=x):=by
 rw [v2y,eBx]
 by_cases h:x∈g.map (·.n)
 ·rw [if_pos h]
  obtain ⟨d,b,a⟩:=eBe.1 h
  simp only [Option.isSome_some,eBq,true_iff,decide_eq_true_eq]
  exact ⟨d,b,a⟩
 ·rw [if_neg h]
  simp only [Option.isSome_none,eBq,decide_eq_true_eq,eAg,false_iff]
  rintro ⟨d,b,a⟩
  exact h (eBe.2 ⟨d,b,a⟩)
theorem v91 {g:List Cd} {c:Cd} (h:z1y (ixM g) c.n=none):x2j (ixM g) c.n g.length=ixM (g++[c]):=by
 unfold x2j; rw [h]
 unfold ixM
 rw [eFf,List.zipIdx_append]
 simp
theorem w91 {g:List Cd} {c:Cd} (h:c∈g):gi g c<g.length:=by
 have:=eCc (List.mem_map_of_mem (f:=fun c:Cd=>c.n) h)
 rwa [eAy] at this
theorem x9p {g:List Cd} {c:Cd} (b:Inj g) (h:c∈g):g[gi g c]?=some c:=by
 have a:=w91 h
 rw [eAb a]
 congr 1
 refine b _ (eCk a) _ h ?_
 have e:=eCi (eCc (List.mem_map_of_mem (f:=fun c:Cd=>c.n) h))
 rw [List.getElem_map] at e
 exact e
theorem y1b {g:List Cd} {c:Cd} {i:Nat} (a:(g.map (·.n)).Nodup) (h:g[i]?=some c):gi g c=i:=by
 obtain ⟨j,f⟩:=eAa.1 h
 have b:=z2j a
 have hm:c∈g:=eAi h
 have:=x9p b hm
 obtain ⟨e,d⟩:=eAa.1 this
 have:=(List.getElem_inj (z3x a) (h₀:=e) (h₁:=j)).1 (d.trans f.symm)
 exact this
def Rp (a:List Sg) (g:List Cd) (B:Cd→Cd→Bool):Prop:=
 a.length=g.length∧∀ i c,g[i]?=some c→∀ k,(a.getD i Sg.none).has k=match g[k]? with|some d=>B d c|none=>false
theorem v4v (g:List Cd):Rp (List.replicate g.length Sg.none) g fun _ _=>false:=by
 refine ⟨by simp,fun i c a k=>?_⟩
 have:(List.replicate g.length Sg.none).getD i Sg.none=Sg.none:=by
  rw [eAn,eCe]; split<;>rfl
 rw [this,Sg.has_none]
 split<;>rfl
theorem Rp.congr {a:List Sg} {g:List Cd} {B C:Cd→Cd→Bool} (h:Rp a g B) (f:∀ d∈g,∀ c∈g,B d c=C d c):Rp a g C:=by
 refine ⟨h.1,fun i c b k=>?_⟩
 rw [h.2 i c b k]
 cases e:g[k]? with
 |none=>rfl
 |some d=>exact f d (eAi e) c (eAi b)
def z1x (i:Nat) (s:List (Int×Nat)×List Sg) (x:Int):List (Int×Nat)×List Sg:=
 (x2j s.1 x i,match z1y s.1 x with|some k=>s.2.set i ((s.2.getD i Sg.none).wth k)|none=>s.2)
theorem x4n {α:Type} {l:List α} {i j:Nat} {a d:α} (h:j≠i):(l.set i a).getD j d=l.getD j d:=by
 rw [eAn,eAn,eDj (fun e=>h e.symm)]
theorem x4o {α:Type} {l:List α} {i:Nat} {a d:α} (h:i<l.length):(l.set i a).getD i d=a:=by
 rw [eAn,List.getElem?_set_self h]; rfl
theorem w3s (i:Nat):∀ (t:List Int) (L:List (Int×Nat)) (a:List Sg),t.Nodup→i<a.length→(∀ x k,z1y L x=some k→k<128)→i<128→
  (∀ x,z1y (t.foldl (z1x i) (L,a)).1 x=if x∈t then some i else z1y L x)∧(t.foldl (z1x i) (L,a)).2.length=a.length∧
  (∀ j,j≠i→(t.foldl (z1x i) (L,a)).2.getD j Sg.none=a.getD j Sg.none)∧
  ∀ k,((t.foldl (z1x i) (L,a)).2.getD i Sg.none).has k=((a.getD i Sg.none).has k||t.any fun x=>decide (z1y L x=some k))
 |[],L,a,_,_,_,_=>⟨fun x=>by simp,rfl,fun _ _=>rfl,fun k=>by simp⟩
 |x::t,L,a,r,n,o,c=>by
  simp only [eCj]
  have d:=eCx.1 r
  have g:(z1x i (L,a) x).2.length=a.length:=by
   unfold z1x; simp only; cases z1y L x<;>simp
  have p:=w3s i t (z1x i (L,a) x).1 (z1x i (L,a) x).2 d.2 (by rw [g]; exact n) (by
   intro y k b
   unfold z1x at b
   simp only [y09] at b
   split at b
   ·cases b; exact c
   ·exact o y k b) c
  obtain ⟨w,v,u,s⟩:=p
  refine ⟨fun y=>?_,v.trans g,fun j l=>?_,fun k=>?_⟩
  ·rw [w y]
   simp only [z1x,y09,eAm]
   by_cases b:y∈t
   ·simp [b]
   ·by_cases f:y=x
    ·simp [f]
    ·simp [b,f]
  ·rw [u j l]
   simp only [z1x]
   cases z1y L x with
   |none=>rfl
   |some k=>exact x4n l
  ·rw [s k]
   have A:((z1x i (L,a) x).2.getD i Sg.none).has k=((a.getD i Sg.none).has k||decide (z1y L x=some k)):=by
    simp only [z1x]
    cases q:z1y L x with
    |none=>simp
    |some m=>
     simp only
     rw [x4o n,Sg.has_wth _ (o x m q)]
     congr 1
     exact decide_eq_decide.2 ⟨fun h=>by rw [h],fun h=>by cases h; rfl⟩
   have z:(t.any fun y=>decide (z1y (z1x i (L,a) x).1 y=some k))=t.any fun y=>decide (z1y L y=some k):=by
    have:∀ y∈t,decide (z1y (z1x i (L,a) x).1 y=some k)=decide (z1y L y=some k):=by
     intro y b
     simp only [z1x,y09]
     have:y≠x:=fun e=>d.1 (e▸b)
     simp [this]
    rw [eBx,eBq,eBq]
    constructor
    ·rintro ⟨y,b,h⟩; exact ⟨y,b,by rw [←this y b]; exact h⟩
    ·rintro ⟨y,b,h⟩; exact ⟨y,b,by rw [this y b]; exact h⟩
   rw [A,z,List.any_cons,Bool.or_assoc]
def x0e (g:List Cd) (s:List (Int×Nat)×List Sg) (c:Cd):List (Int×Nat)×List Sg:=c.t.foldl (z1x (gi g c)) s
structure v2o (g:List Cd) (B0:Cd→Cd→Bool) (p:List Cd) (s:List (Int×Nat)×List Sg):Prop where
 last:∀ x,z1y s.1 x=(on x p).getLast?.map (gi g)
 rel:Rp s.2 g fun d c=>B0 d c||ltc p d c
theorem x8l {p:List Cd} {c e:Cd} (h:e∈p):pre (p++[c]) e=pre p e:=by
 unfold pre
 have a:=eCc h
 rw [List.idxOf_append,if_pos h,List.take_append_of_le_length (by omega)]
theorem v7j {g:List Cd} {B0:Cd→Cd→Bool} (hg:(g.map (·.n)).Nodup) (M:g.length≤128) {p:List Cd} {c:Cd} (u:∀ d∈p,d∈g) (E:c∈g) (o:c∉p) (F:c.t.Nodup)
  {s:List (Int×Nat)×List Sg} (h:v2o g B0 p s):v2o g B0 (p++[c]) (x0e g s c):=by
 have A:=z2j hg
 have B:=w91 E
 obtain ⟨K,J,I,H⟩:=w3s (gi g c) c.t s.1 s.2 F (by rw [h.rel.1]; exact B) (by
  intro x k b
  rw [h.last x] at b
  cases f:(on x p).getLast? with
  |none=>rw [f] at b; cases b
  |some d=>
   rw [f] at b
   cases b
   have:=w91 (u d (x8z (eDi f)))
   omega) (by omega)
 refine ⟨fun x=>?_,?_,?_⟩
 ·show z1y (c.t.foldl (z1x (gi g c)) s).1 x=_
  rw [K x,x3z,h.last x]
  by_cases b:x∈c.t
  ·rw [if_pos b]
   have:on x [c]=[c]:=by rw [w4s b]; rfl
   rw [this]; simp
  ·rw [if_neg b]
   have:on x [c]=[]:=by simp [on,b]
   rw [this]; simp
 ·show (c.t.foldl (z1x (gi g c)) s).2.length=_
  rw [J,h.rel.1]
 ·intro i e he k
  show ((c.t.foldl (z1x (gi g c)) s).2.getD i Sg.none).has k=_
  have y:=y1b hg he
  have G:e∈g:=eAi he
  by_cases j:e=c
  ·subst j
   have q:=H k
   rw [y] at q⊢
   refine q.trans ?_
   rw [h.rel.2 i e he k]
   cases l:g[k]? with
   |none=>
    simp only [Bool.false_or]
    rw [eDx]
    intro x b
    simp only [decide_eq_true_eq]
    intro a
    have a:z1y s.1 x=some k:=a
    rw [h.last x] at a
    cases f:(on x p).getLast? with
    |none=>rw [f] at a; cases a
    |some d=>
     rw [f] at a
     cases a
     rw [x9p A (u d (x8z (eDi f)))] at l
     cases l
   |some d=>
    simp only
    rw [Bool.or_assoc]
    congr 1
    have w:ltc p d e=false:=by
     cases f:ltc p d e with
     |false=>rfl
     |true=>exact absurd (y11.1 f).1 o
    rw [w,Bool.false_or,eBx,eBq,y11,y6g (p:=p) (r:=[]) rfl o]
    constructor
    ·rintro ⟨x,b,a⟩
     have a:z1y s.1 x=some k:=by simpa using a
     rw [h.last x] at a
     refine ⟨by simp,x,b,?_⟩
     cases f:(on x p).getLast? with
     |none=>rw [f] at a; cases a
     |some L=>
      rw [f] at a
      cases a
      rw [x9p A (u L (x8z (eDi f)))] at l
      exact l
    ·rintro ⟨_,x,b,a⟩
     refine ⟨x,b,?_⟩
     have:z1y s.1 x=some k:=by
      rw [h.last x,a]
      exact congrArg some (y1b hg l)
     simpa using this
  ·have v:i≠gi g c:=by
    rintro rfl
    rw [x9p A E] at he
    exact j (Option.some.inj he).symm
   have C:=congrArg (fun z=>z.has k) (I i v)
   refine C.trans ?_
   simp only []
   rw [h.rel.2 i e he k]
   cases l:g[k]? with
   |none=>rfl
   |some d=>
    simp only
    congr 1
    rw [eBx,y11,y11]
    constructor
    ·rintro ⟨hm,x,b,a⟩
     exact ⟨eCw _ hm,x,b,by rw [x8l hm]; exact a⟩
    ·rintro ⟨hm,x,b,a⟩
     have m:e∈p:=by
      rcases eCb.1 hm with h|h
      ·exact h
      ·exact absurd (eBh.1 h) j
     exact ⟨m,x,b,by rw [x8l m] at a; exact a⟩
theorem w6q {g:List Cd} {B0:Cd→Cd→Bool} (hg:(g.map (·.n)).Nodup) (i:g.length≤128):∀ (q p:List Cd) (s:List (Int×Nat)×List Sg),(∀ d∈p++q,d∈g)→(p++q).Nodup→(∀ c∈q,c.t.Nodup)→v2o g B0 p s→v2o g B0 (p++q) (q.foldl (x0e g) s)
 |[],p,s,_,_,_,h=>by simpa using h
 |c::q,p,s,hm,f,b,h=>by
  have j:=v7j hg i (fun d a=>hm d (eCw _ a)) (hm c (by simp)) (fun k=>(eDw.1 f).2.2 c k c (eAu ..) rfl) (b c (eAu ..)) h
  have e:p++c::q=(p++[c])++q:=by simp
  rw [e]
  exact w6q hg i q (p++[c]) _ (by rw [←e]; exact hm) (by rw [←e]; exact f) (fun d a=>b d (eBc _ a)) j
def y7m (g:List Cd) (a:List Sg) (l:List Cd):List Sg:=(l.foldl (x0e g) ([],a)).2
def u5m (g:List Cd) (dks:List (List Cd)):List Sg:=dks.foldl (y7m g) (List.replicate g.length Sg.none)
theorem w6c {g:List Cd} (hg:(g.map (·.n)).Nodup) (b:g.length≤128):∀ (dks:List (List Cd)) (B0:Cd→Cd→Bool) (a:List Sg),(∀ l∈dks,(∀ d∈l,d∈g)∧l.Nodup∧∀ c∈l,c.t.Nodup)→Rp a g B0→
  Rp (dks.foldl (y7m g) a) g fun d c=>B0 d c||dks.any fun l=>ltc l d c
 |[],B0,a,_,h=>h.congr fun _ _ _ _=>by simp
 |l::dks,B0,a,e,h=>by
  obtain ⟨m,k,j⟩:=e l (eAu ..)
  have i:=w6q (B0:=B0) hg b l [] ([],a) (by simpa using m) (by simpa using k) j ⟨fun x=>by simp [z1y,on],h.congr fun d _ c _=>by
   have:ltc [] d c=false:=by
    cases f:ltc [] d c with
    |false=>rfl
    |true=>exact absurd (y11.1 f).1 (by simp)
   rw [this,Bool.or_false]⟩
  have:=w6c hg b dks _ _ (fun l b=>e l (eBc _ b)) i.rel
  refine (show Rp ((l::dks).foldl (y7m g) a) g _ from this).congr fun d _ c _=>?_
  simp only [List.nil_append,List.any_cons,Bool.or_assoc]
theorem v4t {g:List Cd} (hg:(g.map (·.n)).Nodup) (a:g.length≤128) {dks:List (List Cd)} (b:∀ l∈dks,(∀ d∈l,d∈g)∧l.Nodup∧∀ c∈l,c.t.Nodup):Rp (u5m g dks) g fun d c=>dks.any fun l=>ltc l d c:=
 (w6c hg a dks _ _ b (v4v g)).congr fun _ _ _ _=>by simp
end D12
end Go.Am
end
section
namespace Go.Am
open D12
variable {fl fl':List Int→Bool}
theorem w6a {α β:Type} [DecidableEq β] (l:List α) (d:α) (f:α→β):((List.range l.length).any fun i=>(List.range i).any fun j=>decide (f (l.getD i d)=f (l.getD j d)))=!decide (l.map f).Nodup:=by
 rw [eBx,eBq]
 simp only [eBq,eBs,decide_eq_true_eq,eDa,decide_eq_false_iff_not]
 constructor
 ·rintro ⟨i,b,j,k,he⟩ e
  have a:j<l.length:=by omega
  rw [z02 (eAb b),z02 (eAb a)] at he
  have:=(List.getElem_inj (xs:=l.map f) (i:=i) (j:=j) (h₀:=by simpa using b) (h₁:=by simpa using a) e).1 (by simpa using he)
  omega
 ·intro e
  refine Decidable.byContradiction fun c=>e ?_
  rw [List.nodup_iff_pairwise_ne,eCm]
  intro i j b k g he
  have h:i<l.length:=by simpa using b
  have a:j<l.length:=by simpa using k
  exact c ⟨j,a,i,g,by
   rw [z02 (eAb h),z02 (eAb a)]
   simpa using he.symm⟩
theorem y3a (x:Int):G58 std (x,())=some (decide (z5s x),()):=by
 unfold G58 z5s
 by_cases a:1≤x
 ·simp only [z0k,z0l,z0q,Int.reduceLT,Int.reduceEq,Int.reduceLE,a,true_and]
 ·simp only [z0k,z0l,z0q,Int.reduceLT,Int.reduceEq,Int.reduceLE,a,false_and]
theorem x0t (k:Int):G59 std (k,())=some ((z3s k:Int),()):=by
 unfold G59 z3s
 by_cases f:k=1
 ·simp [z0k,z0l,z0q,Int.reduceLT,Int.reduceEq,Int.reduceLE,f]
 by_cases e:k=2
 ·simp [z0k,z0l,z0q,Int.reduceLT,Int.reduceEq,Int.reduceLE,e]
 by_cases b:k=5
 ·simp [z0k,z0l,z0q,Int.reduceLT,Int.reduceEq,Int.reduceLE,b]
 by_cases d:k=3
 ·simp [z0k,z0l,z0q,Int.reduceLT,Int.reduceEq,Int.reduceLE,d]
 by_cases c:k=4
 ·simp [z0k,z0l,z0q,Int.reduceLT,Int.reduceEq,Int.reduceLE,c]
 by_cases a:k=6
 ·simp [z0k,z0l,z0q,Int.reduceLT,Int.reduceEq,Int.reduceLE,a]
 simp [z0k,z0l,z0q,Int.reduceLT,Int.reduceEq,Int.reduceLE,f,e,d,c,b,a]
theorem v38 (k a:Int) (b:z3s k≠0):G60 std (k,(a,()))=some (decide (w76 k a),()):=by
 unfold G60 w76
 rcases y6x b with ⟨b,_⟩|⟨b,_⟩|⟨b,_⟩
 ·rcases b with rfl|rfl|rfl
  ·by_cases h:1≤a<;>simp [z0k,z0l,z0q,Int.reduceLT,Int.reduceEq,Int.reduceLE,h]
  ·by_cases h:1≤a<;>simp [z0k,z0l,z0q,Int.reduceLT,Int.reduceEq,Int.reduceLE,h]
  ·simp [z0k,z0l,z0q,Int.reduceLT,Int.reduceEq,Int.reduceLE]
 ·rcases b with rfl|rfl
  ·by_cases h:1≤a<;>simp [z0k,z0l,z0q,Int.reduceLT,Int.reduceEq,Int.reduceLE,h]
  ·simp [z0k,z0l,z0q,Int.reduceLT,Int.reduceEq,Int.reduceLE]
 ·subst b
  by_cases h:0≤a<;>simp [z0k,z0l,z0q,Int.reduceLT,Int.reduceEq,Int.reduceLE,h]
theorem v2e (n k a:Int) (t:List Int) (i:Nat) (h:i<t.length) (q:t.length≤1000000):
  z1e (w7f std) (n,(k,(z0e t,(a,((i:Int),((0:Int),()))))))=some (if ((List.range i).any fun j=>decide (t.getD i 0=t.getD j 0))=true then .inl (16,()) else .inr (n,(k,(z0e t,(a,((i:Int),())))))):=
 z3g (b:=w7f std) i (fun j=>(n,(k,(z0e t,(a,((i:Int),((j:Int),()))))))) (fun j=>decide (t.getD i 0=t.getD j 0)) _ _ (fun j r=>by
  obtain ⟨m,hm⟩:=z0i h
  obtain ⟨p,c⟩:=z0i (l:=t) (i:=j) (by omega)
  obtain ⟨f,e⟩:=stp j (by omega)
  have o:(0:Int)≤i:=by omega
  have d:(j:Int)<i:=by omega
  simp only [z02 hm,z02 c,w7f,z0k,z0l,z0a,z0e,z0x,z2o,z0q,Int.reduceLT,Int.reduceEq,Int.reduceLE,hm,c,d,o,e,f]) (by
  have g:¬ (i:Int)<i:=by omega
  simp only [w7f,z0k,z0l,z0a,z0e,z0x,z2o,g])
theorem v2f (n k a:Int) (t:List Int) (f:t.length≤1000000):
  z1e (w7g std) (n,(k,(z0e t,(a,((0:Int),())))))=some (if (!decide t.Nodup)=true then .inl (16,()) else .inr (n,(k,(z0e t,(a,()))))):=by
 have key:=z3g (b:=w7g std) t.length (fun i=>(n,(k,(z0e t,(a,((i:Int),())))))) (fun i=>(List.range i).any fun j=>decide (t.getD i 0=t.getD j 0)) (.inl (16,())) (.inr (n,(k,(z0e t,(a,()))))) (fun i h=>by
  obtain ⟨d,m⟩:=stp i (by omega)
  have c:(i:Int)<t.length:=by omega
  have l:=v2e n k a t i h f
  simp only [w7g,z0k,z0l,z0q,Int.reduceLT,Int.reduceEq,Int.reduceLE,z0r,c,m,d,l]
  cases (List.range i).any fun j=>decide (t.getD i 0=t.getD j 0)<;>simp [d]) (by
  have g:¬ (t.length:Int)<t.length:=by omega
  simp only [w7g,z0k,z0l,z0r,g])
 have e:=w6a t 0 (fun x:Int=>x)
 rw [List.map_id'] at e
 rw [e] at key
 exact key
theorem v2g (n k a:Int) (t:List Int) (j:t.length≤1000000):
  z1e (w7h std) (n,(k,(z0e t,(a,((0:Int),())))))=some (if (t.any fun x=>!decide (z5s x))=true then .inl (3,()) else .inr (n,(k,(z0e t,(a,()))))):=by
 have key:=z3g (b:=w7h std) t.length (fun i=>(n,(k,(z0e t,(a,((i:Int),())))))) (fun i=>!decide (z5s (t.getD i 0))) (.inl (3,())) (.inr (n,(k,(z0e t,(a,()))))) (fun i g=>by
  obtain ⟨m,hm⟩:=z0i g
  obtain ⟨d,h⟩:=stp i (by omega)
  have c:(i:Int)<t.length:=by omega
  simp only [z02 hm,w7h,z0k,z0l,z0a,z0e,z0x,z2o,z0q,Int.reduceLT,Int.reduceEq,Int.reduceLE,hm,c,h,d,y3a]
  by_cases e:z5s m<;>simp [e]) (by
  have f:¬ (t.length:Int)<t.length:=by omega
  simp only [w7h,z0k,z0l,z0a,z0e,z0x,z2o,f])
 rw [y37 t 0 fun x=>!decide (z5s x)] at key
 exact key
theorem u3u (c:Cd) (m:c.t.length≤1000000):G18 std (c.n,(c.k,(z0e c.t,(c.a,()))))=some (z3c c,()):=by
 unfold G18 z3c
 have e:=v2g c.n c.k c.a c.t m
 have i:=v2f c.n c.k c.a c.t m
 have p:(c.t.any fun x=>!decide (z5s x))=decide (∃ x∈c.t,¬ z5s x):=by
  rw [eBx]; simp
 rw [p] at e
 by_cases f:z5s c.n
 ·by_cases d:z3s c.k=0
  ·simp only [z0k,z0l,z0q,Int.reduceLT,Int.reduceEq,Int.reduceLE,y3a,x0t,f,d]
   simp
  ·have b:¬ ((z3s c.k:Nat):Int)=0:=by omega
   by_cases h:c.t.length=z3s c.k
   ·have l:((c.t.length:Nat):Int)=(z3s c.k:Nat):=by omega
    by_cases g:∃ x∈c.t,¬ z5s x
    ·simp only [g,decide_true,if_true] at e
     simp only [z0k,z0l,z0q,Int.reduceLT,Int.reduceEq,Int.reduceLE,y3a,x0t,z0r,f,d,b,h,e,g]
     simp
    ·simp only [g,decide_false,eAg,if_false] at e
     by_cases j:c.t.Nodup
     ·simp only [j,decide_true,eDl,eAg,if_false] at i
      by_cases o:w76 c.k c.a
      ·simp only [z0k,z0l,z0q,Int.reduceLT,Int.reduceEq,Int.reduceLE,y3a,x0t,v38 _ _ d,z0r,f,d,b,h,e,i,g,j,o]
       simp
      ·simp only [z0k,z0l,z0q,Int.reduceLT,Int.reduceEq,Int.reduceLE,y3a,x0t,v38 _ _ d,z0r,f,d,b,h,e,i,g,j,o]
       simp
     ·simp only [j,decide_false,eDd,if_true] at i
      simp only [z0k,z0l,z0q,Int.reduceLT,Int.reduceEq,Int.reduceLE,y3a,x0t,z0r,f,d,b,h,e,i,g,j]
      simp
   ·have l:¬ ((c.t.length:Nat):Int)=(z3s c.k:Nat):=by omega
    simp only [z0k,z0l,z0q,Int.reduceLT,Int.reduceEq,Int.reduceLE,y3a,x0t,z0r,f,d,b,h,l]
    simp [h]
 ·simp only [z0k,z0l,z0q,Int.reduceLT,Int.reduceEq,Int.reduceLE,y3a,f]
  simp
def Few (l:List Cd):Prop:=∀ c∈l,c.t.length≤1000000
theorem v2c (l:List Cd) (o:l.length≤1000000) (k:Few l):
  z1e (w27 std) (z0a fl l,((0:Int),()))=some (match l.find? fun c=>!decide (z3c c=0) with|some c=> .inl (z3c c,())|none=> .inr (z0a fl l,())):=by
 have key:=z66 (b:=w27 std) l.length (fun i=>(z0a fl l,((i:Int),()))) (fun i=>!decide (z3c (l.getD i default)=0)) (fun i=> .inl (z3c (l.getD i default),())) (.inr (z0a fl l,())) (fun i j=>by
  obtain ⟨m,hm⟩:=z0i j
  obtain ⟨f,n⟩:=stp i (by omega)
  have d:(i:Int)<l.length:=by omega
  have a:=u3u m (k m (eAi hm))
  simp only [z0e] at a
  simp only [z02 hm,w27,z0k,z0l,z0a,z0e,z0x,z2o,z0q,Int.reduceLT,Int.reduceEq,Int.reduceLE,hm,d,n,f,a]) (by
  have g:¬ (l.length:Int)<l.length:=by omega
  simp only [w27,z0k,z0l,z0a,z0e,z0x,z2o,g])
 have key:z1e (w27 std) (z0a fl l,((0:Int),()))=_:=key
 rw [key]
 have e:=x1z l default fun c=>!decide (z3c c=0)
 cases h:(List.range l.length).find? fun i=>!decide (z3c (l.getD i default)=0) with
 |none=>rw [h] at e; simp only [Option.map_none] at e; rw [←e]
 |some i=>rw [h] at e; simp only [eAw] at e; rw [←e]
theorem v2a (l:List Cd) (i:Nat) (g:i<l.length) (o:l.length≤1000000):
  z1e (w7d std) (z0a fl l,((i:Int),((0:Int),())))=some (if ((List.range i).any fun j=>decide ((l.getD i default).n=(l.getD j default).n))=true then .inl (11,()) else .inr (z0a fl l,((i:Int),()))):=
 z3g (b:=w7d std) i (fun j=>(z0a fl l,((i:Int),((j:Int),())))) (fun j=>decide ((l.getD i default).n=(l.getD j default).n)) _ _ (fun j p=>by
  obtain ⟨m,hm⟩:=z0i g
  obtain ⟨k,a⟩:=z0i (l:=l) (i:=j) (by omega)
  obtain ⟨e,d⟩:=stp j (by omega)
  have h:(0:Int)≤i:=by omega
  have c:(j:Int)<i:=by omega
  simp only [z02 hm,z02 a,w7d,z0k,z0l,z0a,z0e,z0x,z2o,z0q,Int.reduceLT,Int.reduceEq,Int.reduceLE,hm,a,c,h,d,e]) (by
  have f:¬ (i:Int)<i:=by omega
  simp only [w7d,z0k,z0l,z0a,z0e,z0x,z2o,f])
theorem v2b (l:List Cd) (e:l.length≤1000000):
  z1e (w7e std) (z0a fl l,((0:Int),()))=some (if (!decide (l.map (·.n)).Nodup)=true then .inl (11,()) else .inr ()):=by
 have key:=z3g (b:=w7e std) l.length (fun i=>(z0a fl l,((i:Int),()))) (fun i=>(List.range i).any fun j=>decide ((l.getD i default).n=(l.getD j default).n)) (.inl (11,())) (.inr ()) (fun i f=>by
  obtain ⟨c,h⟩:=stp i (by omega)
  have a:(i:Int)<l.length:=by omega
  have g:=v2a (fl:=fl) l i f e
  simp only [w7e,z0k,z0l,z0q,Int.reduceLT,Int.reduceEq,Int.reduceLE,z0m,a,h,c,g]
  cases (List.range i).any fun j=>decide ((l.getD i default).n=(l.getD j default).n)<;>simp [c]) (by
  have d:¬ (l.length:Int)<l.length:=by omega
  simp only [w7e,z0k,z0l,z0m,d])
 rw [w6a l default (·.n)] at key
 exact key
theorem y7v (l:List Cd) (h:Few l):G20 std (z0a fl l,())=some (z0w l,()):=by
 unfold G20 z0w
 by_cases f:60<l.length
 ·have a:(60:Int)<l.length:=by omega
  simp only [z0k,z0l,z0q,Int.reduceLT,Int.reduceEq,Int.reduceLE,z0m,f,a]
 ·have a:¬ (60:Int)<l.length:=by omega
  have b:=v2c (fl:=fl) l (by omega) h
  have d:=v2b (fl:=fl) l (by omega)
  cases g:l.find? fun c=>!decide (z3c c=0) with
  |some c=>
   rw [g] at b
   simp only [z0k,z0l,z0q,Int.reduceLT,Int.reduceEq,Int.reduceLE,z0m,f,a,b]
  |none=>
   rw [g] at b
   by_cases e:(l.map (·.n)).Nodup
   ·simp only [e,decide_true,eDl,eAg,if_false] at d
    simp only [z0k,z0l,z0q,Int.reduceLT,Int.reduceEq,Int.reduceLE,z0m,f,a,b,d,e]
   ·simp only [e,decide_false,eDd,if_true] at d
    simp only [z0k,z0l,z0q,Int.reduceLT,Int.reduceEq,Int.reduceLE,z0m,f,a,b,d,e]
theorem y4l {l:List Cd} (h:x4l l=false):Few l∧l.length≤70∧∀ c∈l,c.t.length≤10:=by
 unfold x4l at h
 simp only [Bool.or_eq_false_iff,decide_eq_false_iff_not,eDx,decide_eq_true_eq] at h
 exact ⟨fun c a=>by have:=h.2 c a; omega,by omega,fun c a=>by have:=h.2 c a; omega⟩
def y76 (a b:List Cd):Int:=if z0w a≠0 then z0w a else z0w b
theorem u3a (a b:List Cd) (d:Few a) (c:Few b):G82 std (z0a fl a,(z0a fl' b,()))=some (y76 a b,()):=by
 unfold G82 y76
 by_cases h:z0w a=0
 ·simp only [z0k,z0l,z0q,Int.reduceLT,Int.reduceEq,Int.reduceLE,y7v a d,y7v b c,h]; simp
 ·simp only [z0k,z0l,z0q,Int.reduceLT,Int.reduceEq,Int.reduceLE,y7v a d,y7v b c,h]; simp [h]
end Go.Am
end
section
namespace Go.Am
open D12
variable {fl fl':List Int→Bool}
theorem v1n (C r DK:List (List D)) (B:List (D×D)) (off len i n:Nat) (q kd nl u:Int) (t:List Int) (L:List (Int×Nat)) (e:List Sg) (Q:n≤128) (S:i<n) (w:e.length=n) (A:∀ x k,z1y L x=some k→k<128) (P:t.length≤1000000):
  z1e (w2v std) (z7y L,(C,(B,(z4i e,(off,(len,((i:Int),(DK,(q,(kd,(r,(nl,(u,(z0e t,((t.length:Int),((0:Int),()))))))))))))))))=
   some (z7y (t.foldl (z1x i) (L,e)).1,(C,(B,(z4i (t.foldl (z1x i) (L,e)).2,(off,(len,(DK,(q,(kd,(r,(nl,(u,())))))))))))):=by
 have key:=z3z (b:=w2v std) t (fun (s:List (Int×Nat)×List Sg) j=>(z7y s.1,(C,(B,(z4i s.2,(off,(len,((i:Int),(DK,(q,(kd,(r,(nl,(u,(z0e t,((t.length:Int),((j:Int),()))))))))))))))))) (z1x i)
  (fun s _=>s.2.length=n∧∀ x k,z1y s.1 x=some k→k<128) (fun s=>(z7y s.1,(C,(B,(z4i s.2,(off,(len,(DK,(q,(kd,(r,(nl,(u,())))))))))))))
  (fun s j x E O=>by
   obtain ⟨w,A⟩:=O
   have R:j<t.length:=(eAa.1 E).1
   obtain ⟨M,N⟩:=stp j (by omega)
   have h:(j:Int)<t.length:=by omega
   have l:(z4i s.2).length=n:=by rw [v0l,w]
   have o:(i:Int)<(n:Int):=by omega
   have H:(0:Int)≤(i:Int):=by omega
   have f:((i:Int)).toNat=i:=by omega
   have p:s.2[i]?=some (s.2.getD i Sg.none):=by rw [eAn,eAb (by omega)]; rfl
   have m:(z1x i s x).2.length=n∧∀ y k,z1y (z1x i s x).1 y=some k→k<128:=by
    refine ⟨?_,fun y k v=>?_⟩
    ·unfold z1x; simp only; cases z1y s.1 x<;>simp [w]
    ·simp only [z1x,y09] at v
     split at v
     ·cases v; omega
     ·exact A y k v
   refine ⟨?_,m⟩
   cases c:z1y s.1 x with
   |none=>
    have I:(z1y s.1 x).isSome=false:=by rw [c]; rfl
    have J:=v7x c i
    simp only [w2v,z0k,z0l,z0e,z1b,z6e,z0q,Int.reduceLT,Int.reduceEq,Int.reduceLE,E,h,N,M,v2i,x2k,I,J,f,eAf,eAw,z1x,c,Option.isSome_none,Option.isSome_some]
   |some k=>
    have I:(z1y s.1 x).isSome=true:=by rw [c]; rfl
    have J:=u2v c i
    have hg:=v7w c
    have K:=w7w (s.2.getD i Sg.none) k (A x k c)
    have d:=x9y s.2 i ((s.2.getD i Sg.none).wth k)
    have G:(z4i (s.2.set i ((s.2.getD i Sg.none).wth k))).length=(z4i s.2).length:=by simp [z4i]
    simp only [show ∀ z:Sg,eS z=[.int .u64 (z.a:Int), .int .u64 (z.b:Int)] from fun _=>rfl] at d
    have g:(z4i s.2)[i]?=some (eS (s.2.getD i Sg.none)):=by unfold z4i; rw [eAf,p]; rfl
    rw [←l] at o
    simp only [w2v,z0k,z0l,z0e,z1b,z6e,z0q,Int.reduceLT,Int.reduceEq,Int.reduceLE,E,h,N,M,v2i,x2k,I,J,hg,f,g,z5i,y0n,y0m,K,o,H,eAf,eAw,z1x,c,Option.isSome_none,Option.isSome_some,d,G])
  (fun s _=>by
   have F:¬ (t.length:Int)<t.length:=by omega
   simp only [w2v,z0k,z0l,F,if_false,z0q,Int.reduceLT,Int.reduceEq,Int.reduceLE]) (L,e) ⟨w,A⟩
 exact key.1
theorem v1o (C DK:List (List D)) (off len:Nat) (a kd:Int) (g l:List Cd) (hg:(g.map (·.n)).Nodup) (v:g.length≤128) (hm:∀ c∈l,c∈g) (f:List Sg) (o:f.length=g.length) (K:l.length≤1000000) (M:Few l):
  z1e (w64 std) ([],(C,(z7y (ixM g),(z4i f,(off,(len,(DK,(a,(kd,(z0a fl l,((l.length:Int),((0:Int),()))))))))))))=
   some (C,(z7y (ixM g),(z4i (y7m g f l),(off,(len,(DK,(a,(kd,())))))))):=by
 have key:=z3z (b:=w64 std) l (fun (s:List (Int×Nat)×List Sg) j=>(z7y s.1,(C,(z7y (ixM g),(z4i s.2,(off,(len,(DK,(a,(kd,(z0a fl l,((l.length:Int),((j:Int),()))))))))))))) (x0e g)
  (fun s _=>s.2.length=g.length∧∀ x k,z1y s.1 x=some k→k<128) (fun s=>(C,(z7y (ixM g),(z4i s.2,(off,(len,(DK,(a,(kd,())))))))))
  (fun s j c m N=>by
   obtain ⟨o,G⟩:=N
   have P:j<l.length:=(eAa.1 m).1
   have A:=eAi m
   obtain ⟨J,O⟩:=stp j (by omega)
   have r:(j:Int)<l.length:=by omega
   have w:=w91 (hm c A)
   have F:=v55 (hm c A)
   have L:(z1y (ixM g) c.n).isSome=true:=by rw [F]; rfl
   have z:=v7w F
   have H:=v1n C (z0a fl l) DK (z7y (ixM g)) off len (gi g c) g.length a kd l.length j c.t s.1 s.2 v w o G (M c A)
   have e:∀ (t:List Int) (s:List (Int×Nat)×List Sg),s.2.length=g.length→(∀ x k,z1y s.1 x=some k→k<128)→(t.foldl (z1x (gi g c)) s).2.length=g.length∧∀ y k,z1y (t.foldl (z1x (gi g c)) s).1 y=some k→k<128:=by
    intro t
    induction t with
    |nil=>intro s E B; exact ⟨E,B⟩
    |cons x t I=>
     intro s E B
     refine I _ ?_ ?_
     ·unfold z1x; simp only; cases z1y s.1 x<;>simp [E]
     ·intro y k i
      simp only [z1x,y09] at i
      split at i
      ·cases i; omega
      ·exact B y k i
   refine ⟨?_,e c.t s o G⟩
   simp only [z0a,z0e] at H
   have d:=y3l (fl:=fl) m
   have u:(l.map (eC fl)).length=l.length:=by simp
   have p:(c.t.map eI).length=c.t.length:=by simp
   simp only [w64,z0k,z0l,z0a,z0e,z0x,z2o,z0a,z0e,z0q,Int.reduceLT,Int.reduceEq,Int.reduceLE,r,O,J,d,m,v2i,x2k,L,z,H,p,u,z6w,x0e])
  (fun s _=>by
   have q:¬ (l.length:Int)<l.length:=by omega
   simp only [w64,z0k,z0l,q,if_false,z0q,Int.reduceLT,Int.reduceEq,Int.reduceLE]) ([],f) ⟨o,fun x k h=>by cases h⟩
 exact key.1
def eDk (fl:List Int→Bool) (l:List Cd):List D:=[.list false 4 (z0a fl l)]
def z9z (fl:List Int→Bool) (d:List (List Cd)):List (List D):=d.map (eDk fl)
theorem x5h (l:List Cd):z2b [CK.list 4] (eDk fl l)=true:=rfl
theorem v3e (l:List Cd):dL ((eDk fl l)[0]?.getD D.nilp)=z0a fl l:=rfl
theorem v1p (C:List (List D)) (off len:Nat) (g:List Cd) (hg:(g.map (·.n)).Nodup) (r:g.length≤128) (dks:List (List Cd)) (hm:∀ l∈dks,∀ c∈l,c∈g) (e:List Sg) (y:e.length=g.length) (A:dks.length≤1000000) (m:∀ l∈dks,l.length≤1000000) (z:∀ l∈dks,Few l):
  z1e (w65 std) (C,(z7y (ixM g),(z4i e,(off,(len,(z9z fl dks,((dks.length:Int),((0:Int),()))))))))=some (C,(z7y (ixM g),(z4i (dks.foldl (y7m g) e),(off,(len,()))))):=by
 have key:=z3z (b:=w65 std) dks (fun (s:List Sg) j=>(C,(z7y (ixM g),(z4i s,(off,(len,(z9z fl dks,((dks.length:Int),((j:Int),()))))))))) (y7m g)
  (fun s _=>s.length=g.length) (fun s=>(C,(z7y (ixM g),(z4i s,(off,(len,()))))))
  (fun s j l f u=>by
   have E:j<dks.length:=(eAa.1 f).1
   have p:=eAi f
   obtain ⟨w,B⟩:=stp j (by omega)
   have k:(j:Int)<dks.length:=by omega
   have v:=v1o (fl:=fl) C (z9z fl dks) off len dks.length j g l hg r (hm l p) s u (m l p) (z l p)
   have d:(y7m g s l).length=g.length:=by
    have:∀ (q:List Cd) (s:List (Int×Nat)×List Sg),(q.foldl (x0e g) s).2.length=s.2.length:=by
     intro q
     induction q with
     |nil=>intro s; rfl
     |cons c q h=>
      intro s
      rw [eCj,h]
      have:∀ (t:List Int) (s:List (Int×Nat)×List Sg),(t.foldl (z1x (gi g c)) s).2.length=s.2.length:=by
       intro t
       induction t with
       |nil=>intro s; rfl
       |cons x t h=>
        intro s
        rw [eCj,h]
        unfold z1x; simp only; cases z1y s.1 x<;>simp
      exact this c.t s
    exact (this l ([],s)).trans u
   refine ⟨?_,d⟩
   have a:(dks.map (eDk fl))[j]?=some (eDk fl l):=by rw [eAf,f]; rfl
   have o:(l.map (eC fl)).length=l.length:=by simp
   simp only [z9z,z0a] at v
   simp only [w65,z0k,z0l,x5h,v3e,z9z,z0a,z0q,Int.reduceLT,Int.reduceEq,Int.reduceLE,k,B,w,a,f,v,o])
  (fun s _=>by
   have i:¬ (dks.length:Int)<dks.length:=by omega
   simp only [w65,z0k,z0l,i,if_false,z0q,Int.reduceLT,Int.reduceEq,Int.reduceLE]) e y
 exact key.1
theorem w0r (g:List Cd) (c:Cd):(x7v g c).length≤g.length+1:=by unfold x7v; split<;>simp
theorem v1q (DK f:List (List D)) (p kd:Int) (g l:List Cd) (y:g.length+l.length≤1000) (G:Few l):
  z1e (w2w std) (z0a fl g,(z7y (ixM g),(0,(g.length,(DK,(f,(p,(kd,(z0a fl l,((l.length:Int),((0:Int),())))))))))))=
   some (z0a fl (l.foldl x7v g),(z7y (ixM (l.foldl x7v g)),(0,((l.foldl x7v g).length,(DK,(f,(p,(kd,())))))))):=by
 have key:=z3z (b:=w2w std) l (fun (g:List Cd) j=>(z0a fl g,(z7y (ixM g),(0,(g.length,(DK,(f,(p,(kd,(z0a fl l,((l.length:Int),((j:Int),())))))))))))) x7v
  (fun h j=>h.length≤g.length+j) (fun g=>(z0a fl g,(z7y (ixM g),(0,(g.length,(DK,(f,(p,(kd,())))))))))
  (fun h j c k I=>by
   have F:j<l.length:=(eAa.1 k).1
   have H:=eAi k
   obtain ⟨r,v⟩:=stp j (by omega)
   have m:(j:Int)<l.length:=by omega
   refine ⟨?_,by have:=w0r h c; omega⟩
   have a:=v90 h c.n
   have i:=y3l (fl:=fl) k
   have o:(l.map (eC fl)).length=l.length:=by simp
   cases q:h.any (fun d=>decide (d.n=c.n)) with
   |true=>
    rw [q] at a
    simp only [w2w,z0k,z0l,z0a,z0e,z0x,z2o,z0a,z0q,Int.reduceLT,Int.reduceEq,Int.reduceLE,m,v,r,i,k,v2i,x2k,a,o,x7v,q]
   |false=>
    rw [q] at a
    have e:z1y (ixM h) c.n=none:=by cases x:z1y (ixM h) c.n with|none=>rfl|some _=>rw [x] at a; cases a
    have u:=v7x e h.length
    rw [v91 e] at u
    have E:(0:Int)≤(h.length:Int):=by omega
    have C:¬ h.length+1≤h.length:=by omega
    have B:h.length+1≤1000000:=by omega
    have w:(h.map (eC fl)).length=h.length:=by simp
    have A:(h.map (eC fl)).take h.length=h.map (eC fl):=by rw [←w,eBi]
    simp only [w2w,z0k,z0l,z0a,z0e,z0x,z2o,z0a,z0q,Int.reduceLT,Int.reduceEq,Int.reduceLE,m,v,r,i,k,v2i,x2k,a,o,x7v,q,u,E,C,B,w,A,eFk,eBa,Int.toNat_zero,eAj,eCo,eBz]
    have z:std.rdF (l.map (eC fl)) j 2 1=fl c.t:=u4k ‹_›
    rw [z]
    simp [eC,z0e])
  (fun s _=>by
   have e:¬ (l.length:Int)<l.length:=by omega
   simp only [w2w,z0k,z0l,e,if_false,z0q,Int.reduceLT,Int.reduceEq,Int.reduceLE]) g (eAj _)
 exact key.1
theorem y1h:∀ (l g:List Cd),(l.foldl x7v g).length≤g.length+l.length
 |[],g=>by simp
 |c::l,g=>by
  have:=y1h l (x7v g c)
  have:=w0r g c
  simp only [eCj,eBn]; omega
theorem v1r (dks:List (List Cd)) (p:dks.length≤2) (f:∀ l∈dks,l.length≤60) (o:∀ l∈dks,Few l):
  z1e (w66 std) ([],([],(0,(0,(z9z fl dks,(z9z fl dks,((dks.length:Int),((0:Int),()))))))))=some (z0a fl (z5x dks),(z7y (ixM (z5x dks)),(0,((z5x dks).length,(z9z fl dks,())))))∧(z5x dks).length≤dks.length*60:=by
 have key:=z3z (b:=w66 std) dks (fun (g:List Cd) j=>(z7y (ixM g),(z0a fl g,(0,(g.length,(z9z fl dks,(z9z fl dks,((dks.length:Int),((j:Int),()))))))))) (fun g l=>l.foldl x7v g)
  (fun h j=>h.length≤j*60) (fun g=>(z0a fl g,(z7y (ixM g),(0,(g.length,(z9z fl dks,()))))))
  (fun h j l c u=>by
   have t:j<dks.length:=(eAa.1 c).1
   have k:=eAi c
   obtain ⟨n,r⟩:=stp j (by omega)
   have e:(j:Int)<dks.length:=by omega
   have q:=f l k
   have m:=v1q (fl:=fl) (z9z fl dks) (z9z fl dks) dks.length j h l (by omega) (o l k)
   refine ⟨?_,by have:=y1h l h; omega⟩
   have a:(dks.map (eDk fl))[j]?=some (eDk fl l):=by rw [eAf,c]; rfl
   have i:(l.map (eC fl)).length=l.length:=by simp
   simp only [z9z,z0a] at m
   simp only [w66,z0k,z0l,x5h,v3e,z9z,z0a,z0q,Int.reduceLT,Int.reduceEq,Int.reduceLE,e,r,n,a,c,m,i])
  (fun s _=>by
   have d:¬ (dks.length:Int)<dks.length:=by omega
   simp only [w66,z0k,z0l,d,if_false,z0q,Int.reduceLT,Int.reduceEq,Int.reduceLE]) [] (by simp)
 exact key
structure t2k (g:List Cd) (dks:List (List Cd)):Prop where
 nums:(g.map (·.n)).Nodup
 mem:∀ l∈dks,∀ c∈l,c∈g
 wf:∀ l∈dks,l.length≤60∧l.Nodup∧∀ c∈l,c.t.Nodup∧c.t.length≤1000000
theorem u3j (dks:List (List Cd)) (f:dks.length≤2) (b:t2k (z5x dks) dks):
  G66 std (z9z fl dks,())=some (z0a fl (z5x dks),(z7y (ixM (z5x dks)),(z4i (u5m (z5x dks) dks),(0,((z5x dks).length,()))))):=by
 obtain ⟨m,i⟩:=v1r (fl:=fl) dks f (fun l a=>(b.wf l a).1) (fun l a c h=>((b.wf l a).2.2 c h).2)
 generalize z5x dks=g at*
 have e:g.length≤128:=by omega
 have k:=v1p (fl:=fl) (z0a fl g) 0 g.length g b.nums e dks b.mem (List.replicate g.length Sg.none) (by simp) (by omega) (fun l a=>by have:=(b.wf l a).1; omega) (fun l a c h=>((b.wf l a).2.2 c h).2)
 have d:List.replicate g.length [D.int .u64 0,D.int .u64 0]=z4i (List.replicate g.length Sg.none):=by
  unfold z4i; rw [List.map_replicate]; rfl
 unfold G66 u5m
 have j:(z9z fl dks).length=dks.length:=by simp [z9z]
 have p:(0:Int)≤(g.length:Int):=by omega
 have o:(g.length:Int)≤1000000:=by omega
 have n:(z4i (List.replicate g.length Sg.none)).length=g.length:=by simp [z4i]
 simp only [z0k,z0l,z0q,Int.reduceLT,Int.reduceEq,Int.reduceLE,j,m,k,d,p,o,n,eCo]
end Go.Am
end
section
namespace Go.Am
open D12
variable {fl fl':List Int→Bool}
def v8c (g rem:List Cd) (s:Sg):Prop:=∀ k c,g[k]?=some c→s.has k=!decide (c∈rem)
theorem w4b {g rem:List Cd} {i:List Sg} {B:Cd→Cd→Bool} (hr:Rp i g B) (r:g.length≤128) (t:Inj g) (l:∀ x∈rem,x∈g) {s:Sg} (p:v8c g rem s) {j:Nat} {d:Cd} (o:g[j]?=some d):
  (((i.getD j Sg.none).and s).a=(i.getD j Sg.none).a∧((i.getD j Sg.none).and s).b=(i.getD j Sg.none).b)↔z7p B rem d=true:=by
 rw [Sg.and_sub,z4f]
 constructor
 ·intro h e he
  obtain ⟨k,n,m⟩:=eBy.1 (l e he)
  have c:g[k]?=some e:=by rw [eAb n,m]
  have f:=hr.2 j d o k
  rw [c] at f
  cases q:B e d with
  |false=>rfl
  |true=>
   have:=h k (by omega) (by rw [f]; exact q)
   rw [p k e c] at this
   simp [he] at this
 ·intro h k n f
  rw [hr.2 j d o k] at f
  cases c:g[k]? with
  |none=>rw [c] at f; cases f
  |some e=>
   rw [c] at f
   rw [p k e c]
   have f:B e d=true:=f
   have:e∉rem:=fun he=>by rw [h e he] at f; cases f
   simp [this]
def w70 (B:Cd→Cd→Bool) (g rem:List Cd) (b:Int) (j:Nat):Prop:=
 (b= -1∧∀ i d,i<j→g[i]?=some d→d∈rem→z7p B rem d=true→False)∨
 ∃ (k:Nat) (c:Cd),b=(k:Int)∧k<j∧g[k]?=some c∧c∈rem∧z7p B rem c=true∧∀ i d,i<j→g[i]?=some d→d∈rem→z7p B rem d=true→c.n≤d.n
theorem x5p {B:Cd→Cd→Bool} {g rem:List Cd} {b:Int} (p:Inj g) (a:∀ x∈rem,x∈g) (h:w70 B g rem b g.length) {c0:Cd} (n:y36 B rem=some c0):∃ k:Nat,b=(k:Int)∧g[k]?=some c0:=by
 have l:=p.sub a
 have j:=(y35 B l).1 n
 rcases h with ⟨rfl,h⟩|⟨k,c,rfl,s,r,hm,q,o⟩
 ·obtain ⟨i,e,he⟩:=eBy.1 (a c0 j.1)
  exact (h i c0 e (by rw [eAb e,he]) j.1 ((z4f B).2 j.2.1)).elim
 ·refine ⟨k,rfl,?_⟩
  have:y36 B rem=some c:=(y35 B l).2 ⟨hm,(z4f B).1 q,fun d m f=>by
   obtain ⟨i,e,he⟩:=eBy.1 (a d m)
   exact o i d e (by rw [eAb e,he]) m ((z4f B).2 f)⟩
  rw [n] at this
  cases this
  exact r
theorem y07 {B:Cd→Cd→Bool} {g rem:List Cd} {b:Int} {j:Nat} (h:w70 B g rem b j) {d:Cd} (p:g[j]?=some d) (m:¬ (d∈rem∧z7p B rem d=true)):w70 B g rem b (j+1):=by
 have n:∀ i e,i<j+1→g[i]?=some e→e∈rem→z7p B rem e=true→i<j:=by
  intro i e l he f a
  rcases eCf i j with h|h
  ·exact h
  ·have:i=j:=by omega
   subst this
   rw [p] at he; cases he
   exact absurd ⟨f,a⟩ m
 rcases h with ⟨rfl,h⟩|⟨k,c,rfl,s,r,hm,q,o⟩
 ·exact .inl ⟨rfl,fun i e l he f a=>h i e (n i e l he f a) he f a⟩
 ·exact .inr ⟨k,c,rfl,by omega,r,hm,q,fun i e l he f a=>o i e (n i e l he f a) he f a⟩
theorem v1m (E:List (List D)) (R:List (D×D)) (g rem:List Cd) (o:List Sg) {B:Cd→Cd→Bool} (hr:Rp o g B) (V:g.length≤128) (Z:Inj g) (w:∀ x∈rem,x∈g) {s:Sg} (hd:v8c g rem s) (d0 d1 P O:Int) {c0:Cd} (hb:y36 B rem=some c0):
  ∃ k:Nat,z1e (y8s std) (z0a fl g,(R,(z4i o,(E,(0,(g.length,(d0,(d1,((-1:Int),((s.a:Int),((s.b:Int),(P,(O,((g.length:Int),((0:Int),())))))))))))))))=
   some (z0a fl g,(R,(z4i o,(E,(0,(g.length,(d0,(d1,((k:Int),((s.a:Int),((s.b:Int),(P,(O,())))))))))))))∧g[k]?=some c0:=by
 have key:=z09 (b:=y8s std) g.length (fun (b:Int) j=>(z0a fl g,(R,(z4i o,(E,(0,(g.length,(d0,(d1,(b,((s.a:Int),((s.b:Int),(P,(O,((g.length:Int),((j:Int),()))))))))))))))))
  (fun b j=>w70 B g rem b j) (fun r=>∃ k:Nat,r=(z0a fl g,(R,(z4i o,(E,(0,(g.length,(d0,(d1,((k:Int),((s.a:Int),((s.b:Int),(P,(O,())))))))))))))∧g[k]?=some c0)
  (fun b j Y C=> .inl (by
   obtain ⟨d,f⟩:=z0i Y
   obtain ⟨G,H⟩:=stp j (by omega)
   have q:(j:Int)<g.length:=by omega
   have p:=w7v s j (by omega)
   rw [hd j d f] at p
   have S:o[j]?=some (o.getD j Sg.none):=by rw [eAn,eAb (by rw [hr.1]; exact Y)]; rfl
   have l:(o.map eS)[j]?=some (eS (o.getD j Sg.none)):=by rw [eAf,S]; rfl
   have t:(o.map eS).length=g.length:=by rw [eAy,hr.1]
   have m:=v74 (o.getD j Sg.none) s
   have I:=w4b hr V Z w hd f
   by_cases hm:d∈rem
   ·by_cases M:z7p B rem d=true
    ·obtain ⟨ea,eb⟩:=I.2 M
     rw [ea,eb] at m
     have u:=y3l (fl:=fl) f
     rcases C with ⟨rfl,C⟩|⟨k,c,rfl,Q,hc,W,X,N⟩
     ·refine ⟨(j:Int),?_, .inr ⟨j,d,rfl,by omega,f,hm,M,fun i e A he v F=>?_⟩⟩
      ·simp only [y8s,z0k,z0l,z4i,z0a,z5i,y0n,y0m,z0q,Int.reduceLT,Int.reduceEq,Int.reduceLE,q,H,G,p,hm,l,t,m]
      ·rcases eCf i j with h|h
       ·exact (C i e h he v F).elim
       ·have:i=j:=by omega
        subst this
        rw [f] at he; cases he; exact eCo _
     ·have z:=y3l (fl:=fl) hc
      have L:¬ (k:Int)<0:=by omega
      have K:(0:Int)≤(k:Int):=by omega
      have J:(k:Int)<(g.length:Int):=by omega
      by_cases y:d.n<c.n
      ·refine ⟨(j:Int),?_, .inr ⟨j,d,rfl,by omega,f,hm,M,fun i e A he v F=>?_⟩⟩
       ·simp only [y8s,z0k,z0l,z0a,z0e,z0x,z2o,z4i,z0a,z5i,y0n,y0m,z0q,Int.reduceLT,Int.reduceEq,Int.reduceLE,q,H,G,p,hm,l,t,m,u,z,L,K,J,y]
       ·rcases eCf i j with h|h
        ·have:=N i e h he v F; omega
        ·have:i=j:=by omega
         subst this
         rw [f] at he; cases he; exact eCo _
      ·refine ⟨(k:Int),?_, .inr ⟨k,c,rfl,by omega,hc,W,X,fun i e A he v F=>?_⟩⟩
       ·simp only [y8s,z0k,z0l,z0a,z0e,z0x,z2o,z4i,z0a,z5i,y0n,y0m,z0q,Int.reduceLT,Int.reduceEq,Int.reduceLE,q,H,G,p,hm,l,t,m,u,z,L,K,J,y]
       ·rcases eCf i j with h|h
        ·exact N i e h he v F
        ·have:i=j:=by omega
         subst this
         rw [f] at he; cases he; omega
    ·refine ⟨b,?_,y07 C f fun h=>M h.2⟩
     have U:¬ ((((o.getD j Sg.none).and s).a:Int)=((o.getD j Sg.none).a:Int)∧(((o.getD j Sg.none).and s).b:Int)=((o.getD j Sg.none).b:Int)):=fun h=>M (I.1 ⟨by omega,by omega⟩)
     by_cases v:(((o.getD j Sg.none).and s).a:Int)=((o.getD j Sg.none).a:Int)
     ·have F:¬ (((o.getD j Sg.none).and s).b:Int)=((o.getD j Sg.none).b:Int):=fun h=>U ⟨v,h⟩
      simp only [y8s,z0k,z0l,z4i,z0a,z5i,y0n,y0m,z0q,Int.reduceLT,Int.reduceEq,Int.reduceLE,q,H,G,p,hm,l,t,m,v,F]
     ·simp only [y8s,z0k,z0l,z4i,z0a,z5i,y0n,y0m,z0q,Int.reduceLT,Int.reduceEq,Int.reduceLE,q,H,G,p,hm,l,t,m,v]
   ·refine ⟨b,?_,y07 C f fun h=>hm h.1⟩
    simp only [y8s,z0k,z0l,z4i,z0a,z5i,y0n,y0m,z0q,Int.reduceLT,Int.reduceEq,Int.reduceLE,q,H,G,p,hm,l,t]))
  (fun b C=>by
   obtain ⟨k,rfl,Q⟩:=x5p Z w C hb
   have T:¬ (g.length:Int)<g.length:=by omega
   exact ⟨_,by simp only [y8s,z0k,z0l,T,if_false,z0q,Int.reduceLT,Int.reduceEq,Int.reduceLE],k,rfl,Q⟩) (-1) 0 (eAo _) (.inl ⟨rfl,fun i d A=>by omega⟩)
 obtain ⟨r,v,k,rfl,Q⟩:=key
 exact ⟨k,v,Q⟩
def u5f (B:Cd→Cd→Bool) (g:List Cd):Prop:=∀ rem:List Cd,(∀ x∈rem,x∈g)→rem≠[]→∃ c,y36 B rem=some c
theorem w0g {B:Cd→Cd→Bool} {g m:List Cd} (n:Lin B m) (hm:∀ x∈g,x∈m):u5f B g:=by
 intro rem i b
 cases a:y36 B rem with
 |some c=>exact ⟨c,rfl⟩
 |none=>
  exfalso
  have a:=(x5o B).1 a
  have s:=x5n (n.filter fun x=>decide (x∈rem)) (l:=m.filter fun x=>decide (x∈rem)) (by
   intro e
   obtain ⟨x,h⟩:=List.exists_mem_of_ne_nil rem b
   have:x∈m.filter fun x=>decide (x∈rem):=eAz.2 ⟨hm x (i x h),by simpa using h⟩
   rw [e] at this; cases this)
  obtain ⟨c,k⟩:=s
  unfold y36 at k
  obtain ⟨r,_⟩:=z61 k
  obtain ⟨q,p⟩:=eAz.1 r
  have o:c∈rem:=by simpa using (eAz.1 q).2
  obtain ⟨d,j,f⟩:=a c o
  have:=(z4f B).1 p d (eAz.2 ⟨hm d (i d j),by simpa using j⟩)
  rw [f] at this; cases this
structure t09 (B:Cd→Cd→Bool) (g:List Cd) (t:List Cd×List Cd×Sg) (i:Nat):Prop where
 len:t.2.1.length+i=g.length
 olen:t.1.length=i
 sub:∀ x∈t.2.1,x∈g
 nd:t.2.1.Nodup
 done:v8c g t.2.1 t.2.2
 res:t.1++lst B t.2.1.length t.2.1=lst B g.length g
theorem w48 {B:Cd→Cd→Bool} {g:List Cd} (f:(g.map (·.n)).Nodup) (s:g.length≤128) {t:List Cd×List Cd×Sg} {i:Nat} (h:t09 B g t i) {c:Cd} (o:y36 B t.2.1=some c) {k:Nat} (l:g[k]?=some c):
  t09 B g (t.1++[c],rm c t.2.1,t.2.2.wth k) (i+1):=by
 have r:=z2j f
 have u:=((y35 B (r.sub h.sub)).1 o).1
 have b:=y6c h.nd u
 have q:k<g.length:=(eAa.1 l).1
 refine ⟨?_,by simp [h.olen],fun x p=>h.sub x (z5d.1 p).1,h.nd.filter _,fun j d a=>?_,?_⟩
 ·have:=h.len; simp only; omega
 ·simp only
  rw [Sg.has_wth _ (by omega),h.done j d a]
  by_cases e:j=k
  ·subst e
   rw [l] at a; cases a
   simp [z5d]
  ·have m:d≠c:=by
    rintro rfl
    exact e ((y1b f a).symm.trans (y1b f l))
   simp [z5d,e,m]
 ·simp only
  rw [←h.res, ←b]
  conv=>rhs; rw [lst]
  rw [o]
  simp only [eCr,List.singleton_append,Nat.add_sub_cancel]
theorem u3i (j:List (D×D)) (g:List Cd) (d:List Sg) {B:Cd→Cd→Bool} (hr:Rp d g B) (q:g.length≤128) (z:(g.map (·.n)).Nodup) (s:u5f B g) (N:∀ c∈g,1≤c.t.length∧c.t.length≤1000000):
  G67 std (z0a fl g,(j,(z4i d,(0,(g.length,())))))=some (z0a fl g,(j,(z4i d,(z0a (fun _=>false) (lst B g.length g),(0,(g.length,())))))):=by
 have R:=z2j z
 have key:=z09 (b:=w63 std) g.length (fun (t:List Cd×List Cd×Sg) i=>(z0a fl g,(j,(z4i d,(z0a (fun _=>false) t.1,(0,(g.length,((t.2.2.a:Int),((t.2.2.b:Int),((g.length:Int),((i:Int),())))))))))))
  (t09 B g) (fun r=>r=(z0a fl g,(j,(z4i d,(z0a (fun _=>false) (lst B g.length g),(0,(g.length,())))))))
  (fun t i P f=> .inl (by
   obtain ⟨v,G⟩:=stp i (by omega)
   have o:(i:Int)<g.length:=by omega
   have y:t.2.1≠[]:=by intro e; have:=f.len; rw [e] at this; simp at this; omega
   obtain ⟨c,J⟩:=s t.2.1 f.sub y
   obtain ⟨k,K,l⟩:=v1m (fl:=fl) (z0a (fun _=>false) t.1) j g t.2.1 d hr q R f.sub f.done (t.2.2.a:Int) (t.2.2.b:Int) (g.length:Int) (i:Int) J
   have Q:k<g.length:=(eAa.1 l).1
   have E:=w7w t.2.2 k (by omega)
   have I:=N c (eAi l)
   have u:=v30 c I.1 I.2
   refine ⟨(t.1++[c],rm c t.2.1,t.2.2.wth k),?_,w48 z q f J l⟩
   have m:=y3l (fl:=fl) l
   have C:(0:Int)≤(k:Int):=by omega
   have A:(k:Int)<(g.length:Int):=by omega
   have O:=f.olen
   have M:i+1≤1000000:=by omega
   have H:(t.1.map (eC fun _=>false)).length=i:=by simp [O]
   have L:(t.1.map (eC fun _=>false)).take i=t.1.map (eC fun _=>false):=by rw [←H,eBi]
   have p:(d.map eS).length=g.length:=by rw [eAy,hr.1]
   simp only [z0a,z4i,z0e] at K u
   simp only [w63,z0k,z0l,z0a,z0e,z0x,z2o,z4i,z0a,z0e,z0q,Int.reduceLT,Int.reduceEq,Int.reduceLE,o,G,v,K,p,E,m,u,C,A,M,H,L,eAq,eAj,eBz]
   simp [eC,z0e,M,H,L]))
  (fun t f=>⟨(z0a fl g,(j,(z4i d,(z0a (fun _=>false) t.1,(0,(g.length,())))))),by
   have w:¬ (g.length:Int)<g.length:=by omega
   simp only [w63,z0k,z0l,w,if_false,z0q,Int.reduceLT,Int.reduceEq,Int.reduceLE],by
   have G:t.2.1=[]:=eBr.1 (by have:=f.len; omega)
   have:=f.res
   rw [G] at this
   simp only [eDn,lst,eCp] at this
   simp only [this]⟩) ([],g,Sg.none) 0 (eAo _) ⟨by simp,rfl,fun x h=>h,z3x z,fun k c l=>by rw [Sg.has_none]; simp [eAi l],rfl⟩
 obtain ⟨r,F,rfl⟩:=key
 have F:z1e (w63 std) (z0a fl g,(j,(z4i d,([],(0,(g.length,((0:Int),((0:Int),((g.length:Int),((0:Int),()))))))))))=_:=F
 unfold G67
 simp only [z0k,z0l,F]
def via (k:Cd) (B:Cd→Cd→Bool):Cd→Cd→Bool:=fun i j=>B i j||(B i k&&B k j)
theorem x5e:∀ (ks:List Cd) (B:Cd→Cd→Bool),clo B ks=ks.foldl (fun B k=>via k B) B
 |[],_=>rfl
 |k::ks,B=>by rw [clo,eCj,x5e ks]; rfl
def t2j (a:List Sg) (g:List Cd) (B:Cd→Cd→Bool) (k:Cd) (m:Nat):Prop:=
 a.length=g.length∧∀ i c,g[i]?=some c→∀ x,(a.getD i Sg.none).has x=match g[x]? with|some d=>if i<m then via k B d c else B d c|none=>false
theorem w9g {a:List Sg} {g:List Cd} {B:Cd→Cd→Bool} {k:Cd} {m:Nat} (h:t2j a g B k m) {i:Nat} (b:g[i]?=some k) (x:Nat):(a.getD i Sg.none).has x=match g[x]? with|some d=>B d k|none=>false:=by
 rw [h.2 i k b x]
 cases g[x]? with
 |none=>rfl
 |some d=>
  simp only
  split
  ·unfold via; cases B d k<;>simp
  ·rfl
theorem v1j (C:List (List D)) (F:List (D×D)) (off:Nat) (g:List Cd) (R:g.length≤128) {B:Cd→Cd→Bool} (f:List Sg) (hr:Rp f g B) (k:Nat) {K:Cd} (N:g[k]?=some K) (v u:Int):
  ∃ h,z1e (w2u std) (C,(F,(z4i f,(off,(g.length,((k:Int),(v,(u,((g.length:Int),((0:Int),()))))))))))=some (C,(F,(z4i h,(off,(g.length,(v,(u,())))))))∧Rp h g (via K B):=by
 have J:k<g.length:=(eAa.1 N).1
 have key:=z09 (b:=w2u std) g.length (fun (f:List Sg) i=>(C,(F,(z4i f,(off,(g.length,((k:Int),(v,(u,((g.length:Int),((i:Int),())))))))))))
  (fun f i=>t2j f g B K i) (fun r=>∃ h,r=(C,(F,(z4i h,(off,(g.length,(v,(u,())))))))∧Rp h g (via K B))
  (fun f i A l=> .inl (by
   obtain ⟨c,o⟩:=z0i A
   obtain ⟨P,Q⟩:=stp i (by omega)
   have w:(i:Int)<g.length:=by omega
   have M:(0:Int)≤(k:Int):=by omega
   have L:(k:Int)<(g.length:Int):=by omega
   have t:∀ j,j<g.length→(f.map eS)[j]?=some (eS (f.getD j Sg.none)):=fun j p=>by
    rw [eAf,eAn,eAb (by rw [l.1]; exact p)]; rfl
   have s:=t i A
   have y:=t k J
   have E:(f.map eS).length=g.length:=by rw [eAy,l.1]
   have n:=w7v (f.getD i Sg.none) k (by omega)
   have m:=l.2 i c o k
   rw [N] at m
   simp only [Nat.lt_irrefl,if_false] at m
   rw [m] at n
   have O:=v34 (f.getD i Sg.none) (f.getD k Sg.none)
   cases G:B K c with
   |true=>
    rw [G] at n
    refine ⟨f.set i ((f.getD i Sg.none).or (f.getD k Sg.none)),?_,by rw [eCd,l.1],fun j d p x=>?_⟩
    ·have q:=x9y f i ((f.getD i Sg.none).or (f.getD k Sg.none))
     simp only [show ∀ z:Sg,eS z=[.int .u64 (z.a:Int), .int .u64 (z.b:Int)] from fun _=>rfl,z4i] at q
     have I:((f.set i ((f.getD i Sg.none).or (f.getD k Sg.none))).map eS).length=g.length:=by rw [eAy,eCd,l.1]
     simp only [w2u,z0k,z0l,z4i,z5i,y0n,y0m,z0q,Int.reduceLT,Int.reduceEq,Int.reduceLE,w,Q,P,s,y,E,n,O,M,L,q,I]
    ·by_cases e:j=i
     ·subst e
      rw [o] at p; cases p
      rw [x4o (by rw [l.1]; exact A),Sg.has_or,l.2 j c o x,w9g l N x]
      cases g[x]? with
      |none=>rfl
      |some d=>
       simp only [Nat.lt_irrefl,if_false,Nat.lt_succ_self,if_true,via,G,eCu]
     ·rw [x4n e,l.2 j d p x]
      have:(j<i+1)↔j<i:=by omega
      simp only [this]
   |false=>
    rw [G] at n
    refine ⟨f,?_,l.1,fun j d p x=>?_⟩
    ·simp only [w2u,z0k,z0l,z4i,z5i,y0n,y0m,z0q,Int.reduceLT,Int.reduceEq,Int.reduceLE,w,Q,P,s,y,E,n]
    ·by_cases e:j=i
     ·subst e
      rw [o] at p; cases p
      rw [l.2 j c o x]
      cases g[x]? with
      |none=>rfl
      |some d=>simp only [Nat.lt_irrefl,if_false,Nat.lt_succ_self,if_true,via,G,Bool.and_false,Bool.or_false]
     ·rw [l.2 j d p x]
      have:(j<i+1)↔j<i:=by omega
      simp only [this]))
  (fun f l=>by
   have H:¬ (g.length:Int)<g.length:=by omega
   refine ⟨(C,(F,(z4i f,(off,(g.length,(v,(u,()))))))),by simp only [w2u,z0k,z0l,H,if_false,z0q,Int.reduceLT,Int.reduceEq,Int.reduceLE],f,rfl,l.1,fun i c o x=>?_⟩
   have A:i<g.length:=(eAa.1 o).1
   rw [l.2 i c o x]
   cases g[x]? with
   |none=>rfl
   |some d=>simp only [A,if_true]) f 0 (eAo _) ⟨hr.1,fun i c o x=>by
    rw [hr.2 i c o x]
    cases g[x]? with
    |none=>rfl
    |some d=>simp⟩
 obtain ⟨r,T,h,rfl,S⟩:=key
 exact ⟨h,T,S⟩
theorem u3g (C:List (List D)) (d:List (D×D)) (off:Nat) (g:List Cd) (h:g.length≤128) {B:Cd→Cd→Bool} (c:List Sg) (hr:Rp c g B):
  ∃ a,G70 std (C,(d,(z4i c,(off,(g.length,())))))=some (C,(d,(z4i a,(off,(g.length,())))))∧Rp a g (clo B g):=by
 have key:=z09 (b:=w61 std) g.length (fun (c:List Sg) k=>(C,(d,(z4i c,(off,(g.length,((g.length:Int),((k:Int),()))))))))
  (fun c k=>Rp c g ((g.take k).foldl (fun B k=>via k B) B)) (fun r=>∃ a,r=(C,(d,(z4i a,(off,(g.length,())))))∧Rp a g (clo B g))
  (fun c k o hR=> .inl (by
   obtain ⟨K,m⟩:=z0i o
   obtain ⟨n,p⟩:=stp k (by omega)
   have f:(k:Int)<g.length:=by omega
   obtain ⟨a,j,i⟩:=v1j C d off g h c hR k m g.length k
   refine ⟨a,by simp only [w61,z0k,z0l,z0q,Int.reduceLT,Int.reduceEq,Int.reduceLE,f,p,n,j],?_⟩
   rw [eCs,m,List.foldl_append]
   exact i))
  (fun c hR=>by
   have e:¬ (g.length:Int)<g.length:=by omega
   rw [eBi] at hR
   exact ⟨(C,(d,(z4i c,(off,(g.length,()))))),by simp only [w61,z0k,z0l,e,if_false,z0q,Int.reduceLT,Int.reduceEq,Int.reduceLE],c,rfl,by rw [x5e]; exact hR⟩) c 0 (eAo _) hr
 obtain ⟨r,l,a,rfl,j⟩:=key
 have l:z1e (w61 std) (C,(d,(z4i c,(off,(g.length,((g.length:Int),((0:Int),())))))))=_:=l
 refine ⟨a,?_,j⟩
 unfold G70
 simp only [z0k,z0l,l]
end Go.Am
end
