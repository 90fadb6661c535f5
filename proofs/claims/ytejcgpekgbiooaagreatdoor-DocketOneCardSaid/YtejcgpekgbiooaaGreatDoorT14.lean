/- Texts of this claim. -/
import Derived.Test.YtejcgpekgbiooaaGreatDoorT13
import Derived.Test.YtejcgpekgbiooaaGreatDoorProg
import Derived.KernelRfl
set_option linter.unusedVariables false
set_option linter.unusedSimpArgs false
set_option linter.unusedSectionVars false
set_option maxRecDepth 100000
set_option maxHeartbeats 0
open Bool renaming eq_iff_iff → eCu,false_eq_true → eAi,not_eq_true' → eBy
open List renaming mem_cons_of_mem → eCm,mem_cons → eAz,mem_cons_self → eBq,mem_filter → eDa,nodup_cons → eDt,length_cons → eBi,pairwise_cons → eBl,length_eq_zero_iff → eBn,cons_append → eDr,idxOf_lt_length_iff → eDn,getElem_idxOf → eDe,pairwise_iff_getElem → eCa,nil_append → eDp,nodup_append → eDg,mem_of_find?_eq_some → eDb,mem_iff_getElem → eDi,map_cons → eDc,getElem?_cons_succ → eCe,foldl_cons → eDs,getD_eq_getElem?_getD → eCi,getElem?_eq_getElem → eAa,getElem_mem → eCp,mem_append_left → eDl,map_congr_left → eDw,getElem?_eq_some_iff → eAd,length_take → eBv,mem_of_getLast? → eDm,mem_append → eBj,mem_singleton → eBe,getElem?_map → eAg,any_eq_true → eCz,mem_range → eBo,mem_of_getElem? → eAu
open Nat renaming le_refl → eAk
open Go.Proofs.Tryz renaming prog → PG
section
namespace Go.Am
def autoEnvD (own:List Nat) (P:Program):Env:=⟨w69 P,infoOf P,w8k P,w8j P,z3r P,fun g=>!x37 g own,true,false,fun _=>false,false,fun _=>none⟩
theorem autoEnvD_ok {own:List Nat} {P:Program} (hm:P.follows .mixedOrders=true):EnvOk P (autoEnvD own P) where
 ti:=fun t ti h=>x71 h
 gl:=fun _ _ h=>by first|exact h|cases h
 fn:=fun g i h=>y4d h
 code:=fun g pos c h=>h
 mixed:=hm
end Go.Am
end
section
namespace Go.Am.D12
theorem v8x (c d:Cd):tch c d=tch d c:=by
 rw [eCu,w32,w32]
 constructor<;>rintro ⟨x,h1,h2⟩<;>exact ⟨x,h2,h1⟩
theorem v3z {l:List Cd}:v2h l=none↔l=[]:=by
 cases l with
 |nil=>simp [v2h]
 |cons c l=>
  simp only [v2h,reduceCtorEq,iff_false]
  split
  ·simp
  ·split<;>simp
theorem z44 {l:List Cd} {c:Cd} (h:v2h l=some c):c∈l∧∀ d∈l,c.n≤d.n:=by
 induction l generalizing c with
 |nil=>cases h
 |cons x l ih=>
  simp only [v2h] at h
  split at h
  ·rename_i h0
   cases h
   have:=v3z.1 h0
   subst this
   simp
  ·rename_i d h0
   obtain ⟨h1,h2⟩:=ih h0
   split at h
   ·cases h
    refine ⟨eCm _ h1,fun e he=>?_⟩
    rcases eAz.1 he with rfl|he
    ·omega
    ·exact h2 e he
   ·cases h
    refine ⟨eBq,fun e he=>?_⟩
    rcases eAz.1 he with rfl|he
    ·omega
    ·have:=h2 e he; omega
theorem u1f {l:List Cd} {c:Cd} (hi:Inj l):v2h l=some c↔c∈l∧∀ d∈l,c.n≤d.n:=by
 refine ⟨z44,fun ⟨h1,h2⟩=>?_⟩
 cases h:v2h l with
 |none=>rw [v3z.1 h] at h1; cases h1
 |some d=>
  obtain ⟨h3,h4⟩:=z44 h
  have:=h2 d h3
  have:=h4 c h1
  rw [hi c h1 d h3 (by omega)]
section
variable (R:Cd→Cd→Bool)
theorem z33 {rem:List Cd} {c:Cd}:w7p R rem c=true↔∀ d∈rem,R d c=false:=by
 simp [w7p]
theorem v3o {rem:List Cd} {c:Cd} (hi:Inj rem):best R rem=some c↔c∈rem∧(∀ d∈rem,R d c=false)∧∀ d∈rem,(∀ e∈rem,R e d=false)→c.n≤d.n:=by
 unfold best
 rw [u1f (hi.sub fun x hx=>(eDa.1 hx).1)]
 simp only [eDa,z33]
 constructor
 ·rintro ⟨⟨h1,h2⟩,h3⟩
  exact ⟨h1,h2,fun d hd he=>h3 d ⟨hd,he⟩⟩
 ·rintro ⟨h1,h2,h3⟩
  exact ⟨⟨h1,h2⟩,fun d hd=>h3 d hd.1 hd.2⟩
theorem v5s {rem:List Cd}:best R rem=none↔∀ c∈rem,∃ d∈rem,R d c=true:=by
 unfold best
 rw [v3z,List.filter_eq_nil_iff]
 simp [w7p]
theorem v4x {R S:Cd→Cd→Bool} {r s:List Cd} (hi:Inj r) (hm:∀ x,x∈r↔x∈s) (hf:∀ x∈r,(∀ d∈r,R d x=false)↔(∀ d∈s,S d x=false)):best R r=best S s:=by
 have hj:Inj s:=hi.sub fun x hx=>(hm x).2 hx
 apply Option.ext
 intro c
 rw [v3o R hi,v3o S hj]
 constructor
 ·rintro ⟨h1,h2,h3⟩
  exact ⟨(hm c).1 h1,(hf c h1).1 h2,fun d hd he=>h3 d ((hm d).2 hd) ((hf d ((hm d).2 hd)).2 he)⟩
 ·rintro ⟨h1,h2,h3⟩
  have h1':=(hm c).2 h1
  exact ⟨h1',(hf c h1').2 h2,fun d hd he=>h3 d ((hm d).1 hd) ((hf d hd).1 he)⟩
theorem z35 {c d:Cd} {l:List Cd}:d∈rm c l↔d∈l∧d≠c:=by simp [rm]
theorem v5i {c:Cd} {l:List Cd} (hn:l.Nodup) (hc:c∈l):(rm c l).length+1=l.length:=by
 induction l with
 |nil=>cases hc
 |cons x l ih=>
  obtain ⟨hx,hn⟩:=eDt.1 hn
  by_cases e:x=c
  ·subst e
   have:rm x (x::l)=l:=by
    simp only [rm,List.filter_cons,decide_true,Bool.not_true,eAi,if_false]
    rw [List.filter_eq_self]
    intro d hd
    have:d≠x:=fun e=>hx (e▸hd)
    simp [this]
   rw [this]; rfl
  ·have hc':c∈l:=by
    rcases eAz.1 hc with h|h
    ·exact absurd h.symm e
    ·exact h
   have:=ih hn hc'
   have e2:rm c (x::l)=x::rm c l:=by simp [rm,List.filter_cons,e]
   rw [e2,eBi,eBi,this]
theorem v48 (f:Nat) (rem:List Cd):∀ x∈lst R f rem,x∈rem:=by
 induction f generalizing rem with
 |zero=>intro x hx; cases hx
 |succ f ih=>
  intro x hx
  simp only [lst] at hx
  split at hx
  ·cases hx
  ·rename_i c hb
   rcases eAz.1 hx with rfl|hx
   ·exact (eDa.1 (z44 hb).1).1
   ·exact (z35.1 (ih _ x hx)).1
theorem v5r {R:Cd→Cd→Bool} {l:List Cd} (h:Lin R l) (hne:l≠[]):∃ c,best R l=some c:=by
 cases hb:best R l with
 |some c=>exact ⟨c,rfl⟩
 |none=>
  exfalso
  cases l with
  |nil=>exact hne rfl
  |cons x l=>
   obtain ⟨d,hd,hr⟩:=(v5s R).1 hb x eBq
   rcases eAz.1 hd with rfl|hd
   ·rw [h.2 d eBq] at hr; cases hr
   ·rw [(eBl.1 h.1).1 d hd] at hr; cases hr
theorem u1h {R:Cd→Cd→Bool} {l:List Cd} (h:Lin R l) (hn:l.Nodup):∀ x,x∈lst R l.length l↔x∈l:=by
 intro x
 refine ⟨v48 R _ _ x,?_⟩
 generalize hf:l.length=f
 induction f generalizing l with
 |zero=>intro hx; rw [eBn.1 hf] at hx; cases hx
 |succ f ih=>
  intro hx
  obtain ⟨c,hb⟩:=v5r h (fun e=>by rw [e] at hf; cases hf)
  have hc:c∈l:=(eDa.1 (z44 hb).1).1
  simp only [lst,hb]
  by_cases e:x=c
  ·rw [e]; exact eBq
  ·refine eCm _ (ih (h.filter _) (hn.sublist List.filter_sublist) ?_ (z35.2 ⟨hx,e⟩))
   have:=v5i hn hc
   show (rm c l).length=f
   omega
theorem v7w {f:Nat} {l:List Cd}:(lst R f l).Nodup:=by
 induction f generalizing l with
 |zero=>exact List.nodup_nil
 |succ f ih=>
  simp only [lst]
  split
  ·exact List.nodup_nil
  ·rename_i c hb
   refine eDt.2 ⟨fun h=>?_,ih⟩
   exact (z35.1 (v48 R _ _ _ h)).2 rfl
theorem u1i {R:Cd→Cd→Bool} {f:Nat} {l:List Cd} (hirr:∀ x∈l,R x x=false):Lin R (lst R f l):=by
 refine ⟨?_,fun x hx=>hirr x (v48 R _ _ x hx)⟩
 induction f generalizing l with
 |zero=>exact List.Pairwise.nil
 |succ f ih=>
  simp only [lst]
  split
  ·exact List.Pairwise.nil
  ·rename_i c hb
   have hm:=eDa.1 (z44 hb).1
   refine List.Pairwise.cons (fun y hy=>?_) (ih fun x hx=>hirr x (z35.1 hx).1)
   exact (z33 R).1 hm.2 y (z35.1 (v48 R _ _ y hy)).1
theorem z80 {l m:List Cd} (h1:l.Nodup) (h2:m.Nodup) (h:∀ x,x∈l↔x∈m):l.Perm m:=(List.perm_ext_iff_of_nodup h1 h2).2 h
theorem v84 {R:Cd→Cd→Bool} {l:List Cd} (h:Lin R l) (hn:l.Nodup):(lst R l.length l).Perm l:=z80 (v7w R) hn (u1h h hn)
theorem v7y {R S:Cd→Cd→Bool} (f:Nat) {r s:List Cd} (hi:Inj r) (hm:∀ x,x∈r↔x∈s) (hR:∀ x∈r,∀ y∈r,R x y=S x y):lst R f r=lst S f s:=by
 induction f generalizing r s with
 |zero=>rfl
 |succ f ih=>
  simp only [lst]
  have hb:best R r=best S s:=v4x hi hm fun x hx=>
   ⟨fun h d hd=>by rw [←hR d ((hm d).2 hd) x hx]; exact h d ((hm d).2 hd),fun h d hd=>by rw [hR d hd x hx]; exact h d ((hm d).1 hd)⟩
  rw [hb]
  split
  ·rfl
  ·rename_i c _
   congr 1
   exact ih (hi.sub fun x hx=>(z35.1 hx).1) (fun x=>by rw [z35,z35,hm x]) fun x hx y hy=>hR x (z35.1 hx).1 y (z35.1 hy).1
theorem v5m {R S:Cd→Cd→Bool} (l0:List Cd) (h1:∀ x∈l0,∀ y∈l0,R x y=true→S x y=true) (h2:∀ x∈l0,∀ y∈l0,S x y=true→R x y=true∨∃ z∈l0,S x z=true∧R z y=true) (hi:Inj l0):
  ∀ (f:Nat) (rem:List Cd),(∀ x∈rem,x∈l0)→(∀ x∈l0,∀ y∈l0,y∉rem→S x y=true→x∉rem)→lst R f rem=lst S f rem
 |0,_,_,_=>rfl
 |f+1,rem,hs,hc=>by
  simp only [lst]
  have hfree:∀ x∈rem,(∀ d∈rem,R d x=false)↔(∀ d∈rem,S d x=false):=by
   intro x hx
   constructor
   ·intro h d hd
    cases hS:S d x with
    |false=>rfl
    |true=>
     exfalso
     rcases h2 d (hs d hd) x (hs x hx) hS with hr|⟨z,hz,hz1,hz2⟩
     ·rw [h d hd] at hr; cases hr
     ·have hzn:z∉rem:=fun hzr=>by rw [h z hzr] at hz2; cases hz2
      exact hc d (hs d hd) z hz hzn hz1 hd
   ·intro h d hd
    cases hR:R d x with
    |false=>rfl
    |true=>have:=h1 d (hs d hd) x (hs x hx) hR; rw [h d hd] at this; cases this
  have hb:best R rem=best S rem:=v4x (hi.sub hs) (fun _=>Iff.rfl) hfree
  rw [hb]
  split
  ·rfl
  ·rename_i c hbc
   have hm:=eDa.1 (z44 hbc).1
   congr 1
   refine v5m l0 h1 h2 hi f _ (fun x hx=>hs x (z35.1 hx).1) ?_
   intro x hx y hy hyn hS hxr
   obtain ⟨hxq,hxc⟩:=z35.1 hxr
   by_cases hyc:y=c
   ·subst hyc
    rw [(z33 S).1 hm.2 x hxq] at hS
    cases hS
   ·exact hc x hx y hy (fun h=>hyn (z35.2 ⟨h,hyc⟩)) hS hxq
theorem v7x {R:Cd→Cd→Bool} {l m:List Cd} (hi:Inj l) (hl:Lin R m) (hm:∀ x,x∈m↔x∈l) (hn:m.Nodup) (f:Nat) (p:List Cd) (x y:Cd) (u v:List Cd) (hx:lst R f l=p++x::u) (hy:m=p++y::v):x.n≤y.n:=by
 induction p generalizing f l m with
 |nil=>
  cases f with
  |zero=>cases hx
  |succ f=>
   simp only [lst] at hx
   split at hx
   ·cases hx
   ·rename_i c hb
    cases hx
    subst hy
    obtain ⟨_,_,h3⟩:=(v3o R hi).1 hb
    refine h3 y ((hm y).1 eBq) fun e he=>?_
    have he':=(hm e).2 he
    rcases eAz.1 he' with rfl|he'
    ·exact hl.2 e eBq
    ·exact (eBl.1 hl.1).1 e he'
 |cons q p ih=>
  cases f with
  |zero=>cases hx
  |succ f=>
   simp only [lst] at hx
   split at hx
   ·cases hx
   ·rename_i c hb
    simp only [eDr,List.cons.injEq] at hx
    obtain ⟨rfl,hx⟩:=hx
    subst hy
    obtain ⟨hq,hn'⟩:=eDt.1 hn
    have hl':Lin R (p++y::v):=⟨(eBl.1 hl.1).2,fun x hx=>hl.2 x (eCm _ hx)⟩
    refine ih (l:=rm c l) (hi.sub fun x hx=>(z35.1 hx).1) hl' (fun z=>?_) hn' f hx rfl
    rw [z35, ←hm z]
    constructor
    ·intro hz
     exact ⟨eCm _ hz,fun e=>hq (e▸hz)⟩
    ·rintro ⟨hz,hzc⟩
     rcases eAz.1 hz with h|h
     ·exact absurd h hzc
     ·exact h
end
end Go.Am.D12
end
section
namespace Go.Am.D12
theorem v49 {l:List Cd} {x y:Cd} (hx:x∈l) (h:l.idxOf x=l.idxOf y):x=y:=by
 have h1:=eDn.2 hx
 have h2:l.idxOf y<l.length:=by omega
 have a:=eDe h1
 have b:=eDe h2
 rw [←a, ←b]; congr 1
theorem u3h {P:Cd→Cd→Prop} {l:List Cd} (hp:l.Pairwise P) {x y:Cd} (hx:x∈l) (hy:y∈l) (h:l.idxOf x<l.idxOf y):P x y:=by
 have h1:=eDn.2 hx
 have h2:=eDn.2 hy
 have:=eCa.1 hp _ _ h1 h2 h
 rwa [eDe,eDe] at this
theorem v3y {l:List Cd} (hn:l.Nodup):Lin (ord l) l:=by
 refine ⟨x7h hn fun x _ y _ h=>?_,fun x _=>?_⟩
 ·have:¬ l.idxOf y<l.idxOf x:=by omega
  simp [ord,this]
 ·simp [ord]
theorem v3x {l:List Cd} {x y:Cd} (hx:x∈l) (hne:x≠y) (h:tch x y=true):ord l x y=true∨ord l y x=true:=by
 rw [x2a,x2a,v8x y x]
 have:l.idxOf x≠l.idxOf y:=fun e=>hne (v49 hx e)
 rcases Nat.lt_or_gt_of_ne this with h1|h1
 ·exact .inl ⟨h,h1⟩
 ·exact .inr ⟨h,h1⟩
theorem v6j {l:List Cd} {x y:Cd} (h:ord l x y=true):x≠y:=fun e=>by
 have:=(x2a.1 h).2; rw [e] at this; omega
theorem v4u {a m:List Cd} (hp:a.Perm m) (hn:a.Nodup) (hl:Lin (ord a) m):Eqv a m:=by
 have hm:m.Nodup:=hp.nodup_iff.1 hn
 have key:∀ x∈a,∀ y∈a,ord a x y=true→ord m x y=true:=fun x hx y hy h=>by
  rcases v3x (l:=m) (hp.mem_iff.1 hx) (v6j h) (x2a.1 h).1 with h1|h1
  ·exact h1
  ·have:=u3h hl.1 (hp.mem_iff.1 hy) (hp.mem_iff.1 hx) (x2a.1 h1).2
   rw [h] at this; cases this
 refine ⟨hp,fun x hx y hy=>?_⟩
 cases h:ord a x y with
 |true=>exact (key x hx y hy h).symm
 |false=>
  cases h1:ord m x y with
  |false=>rfl
  |true=>
   rcases v3x hx (v6j h1) (x2a.1 h1).1 with h2|h2
   ·rw [h] at h2; cases h2
   ·have:=x7q (key y hy x hx h2); rw [h1] at this; cases this
def z20 (l:List Cd):List Cd:=lst (ord l) l.length l
theorem z28 {l:List Cd} (hn:l.Nodup):Eqv l (z20 l):=
 v4u (v84 (v3y hn) hn).symm hn (u1i (v3y hn).2)
theorem z85 {a b:List Cd} (hi:Inj a) (h:Eqv a b):z20 a=z20 b:=by
 unfold z20
 rw [h.1.length_eq]
 exact v7y _ hi (fun x=>h.1.mem_iff) h.2
theorem v5b {a b:List Cd} (hi:Inj a) (ha:a.Nodup) (hp:a.Perm b):z20 a=z20 b↔Eqv a b:=by
 refine ⟨fun h=>?_,z85 hi⟩
 exact (z28 ha).trans (h▸(z28 (hp.nodup_iff.1 ha)).symm)
theorem v7a {a m:List Cd} (hi:Inj a) (ha:a.Nodup) (h:Eqv a m) (p:List Cd) (x y:Cd) (u v:List Cd) (hx:z20 a=p++x::u) (hy:m=p++y::v):x.n≤y.n:=by
 have hm:m.Nodup:=h.1.nodup_iff.1 ha
 refine v7x (R:=ord a) hi ⟨?_,(fun x hx=>(v3y ha).2 x (h.1.mem_iff.2 hx))⟩ (fun x=>h.1.mem_iff.symm) hm _ p x y u v hx hy
 have:=(v3y hm).1
 refine x7h hm fun x hx y hy hlt=>?_
 rw [h.2 y (h.1.mem_iff.2 hy) x (h.1.mem_iff.2 hx)]
 have:¬ m.idxOf y<m.idxOf x:=by omega
 simp [ord,this]
theorem v20 {p q:List Cd} {x y z:Cd} (h1:z≠x) (h2:z≠y):(p++x::y::q).idxOf z=(p++y::x::q).idxOf z:=by
 induction p with
 |nil=>
  have a:(x==z)=false:=by simp; exact fun e=>h1 e.symm
  have b:(y==z)=false:=by simp; exact fun e=>h2 e.symm
  simp only [eDp,List.idxOf_cons,a,b,cond_false]
 |cons c p ih=>
  simp only [eDr,List.idxOf_cons]
  rw [ih]
theorem v5n {p q:List Cd} {x:Cd} (hx:x∉p):(p++x::q).idxOf x=p.length:=by
 rw [List.idxOf_append,if_neg hx]; simp
theorem v8y {p q:List Cd} {x y:Cd} (hn:(p++x::y::q).Nodup) (ht:tch x y=false):Eqv (p++x::y::q) (p++y::x::q):=by
 have hp:(p++x::y::q).Perm (p++y::x::q):=List.Perm.append_left p (List.Perm.swap y x q)
 refine v4u hp hn ⟨?_,fun z _=>by simp [ord]⟩
 have hn':=hp.nodup_iff.1 hn
 have hxp:x∉p:=fun h=>(eDg.1 hn).2.2 x h x eBq rfl
 have hyp:y∉p:=fun h=>(eDg.1 hn).2.2 y h y (eCm _ eBq) rfl
 have hxy:x≠y:=by
  have:=(eDg.1 hn).2.1
  intro e; subst e
  exact (eDt.1 this).1 eBq
 have ex:(p++x::y::q).idxOf x=p.length:=v5n hxp
 have ey':(p++y::x::q).idxOf y=p.length:=v5n hyp
 have ex':(p++y::x::q).idxOf x=p.length+1:=by
  have:p++y::x::q=(p++[y])++x::q:=by simp
  rw [this,v5n (by simp [hxp,hxy])]; simp
 have ey:(p++x::y::q).idxOf y=p.length+1:=by
  have:p++x::y::q=(p++[x])++y::q:=by simp
  rw [this,v5n (by simp [hyp,Ne.symm hxy])]; simp
 have hoth:∀ z,z≠x→z≠y→(p++x::y::q).idxOf z≠p.length∧(p++x::y::q).idxOf z≠p.length+1:=by
  intro z h1 h2
  refine ⟨fun e=>?_,fun e=>?_⟩
  ·exact h1 (v49 (l:=p++x::y::q) (by simp) (by rw [ex,e])).symm
  ·exact h2 (v49 (l:=p++x::y::q) (by simp) (by rw [ey,e])).symm
 refine x7h hn' fun u hu v hv hlt=>?_
 simp only [ord,Bool.and_eq_false_iff,decide_eq_false_iff_not,Nat.not_lt]
 by_cases hux:u=x
 ·subst hux
  by_cases hvy:v=y
  ·subst hvy; rw [ex',ey'] at hlt; omega
  ·have hvx:v≠u:=fun e=>by rw [e] at hlt; omega
   rw [ex', ←v20 hvx hvy] at hlt
   right; rw [ex]; omega
 ·by_cases huy:u=y
  ·subst huy
   by_cases hvx:v=x
   ·left; rw [hvx]; exact ht
   ·have hvy:v≠u:=fun e=>by rw [e] at hlt; omega
    rw [ey', ←v20 hvx hvy] at hlt
    have:=hoth v hvx hvy
    right; rw [ey]; omega
  ·rw [←v20 hux huy] at hlt
   by_cases hvx:v=x
   ·subst hvx; rw [ex'] at hlt; have:=hoth u hux huy; right; rw [ex]; omega
   ·by_cases hvy:v=y
    ·subst hvy; rw [ey'] at hlt; right; rw [ey]; omega
    ·rw [←v20 hvx hvy] at hlt; right; omega
end Go.Am.D12
end
section
namespace Go.Am.D12
theorem z57 {c:Cd}:z3d c=0↔z6x c.n∧z3a c.k≠0∧c.t.length=z3a c.k∧(∀ x∈c.t,z6x x)∧c.t.Nodup∧w1p c.k c.a:=by
 unfold z3d
 constructor
 ·intro h
  repeat' split at h
  all_goals first|(exfalso; omega)|skip
  rename_i h1 h2 h3 h4 h5
  simp only [not_or,Decidable.not_not] at h1 h2 h4 h5
  refine ⟨h1.1,h1.2,h2,fun x hx=>Decidable.byContradiction fun hn=>h3 ⟨x,hx,hn⟩,h4,h5⟩
 ·rintro ⟨h1,h2,h3,h4,h5,h6⟩
  rw [if_neg (by simp only [not_or,Decidable.not_not]; exact ⟨h1,h2⟩),if_neg (by simpa using h3),if_neg (by rintro ⟨x,hx,hn⟩; exact hn (h4 x hx)),if_neg (by simpa using h5),if_neg (by simpa using h6)]
theorem z53 {l:List Cd}:z4y l=0↔l.length≤60∧(∀ c∈l,z3d c=0)∧(l.map (·.n)).Nodup:=by
 unfold z4y
 split
 ·constructor
  ·intro h; omega
  ·intro h; omega
 ·rename_i hlen
  split
  ·rename_i c hc
   have h1:=List.find?_some hc
   have h2:=eDb hc
   simp at h1
   constructor
   ·intro h; exact absurd h h1
   ·intro h; exact absurd (h.2.1 c h2) h1
  ·rename_i hc
   rw [List.find?_eq_none] at hc
   have hc':∀ c∈l,z3d c=0:=fun c h=>by simpa using hc c h
   split
   ·rename_i hn; exact ⟨fun _=>⟨by omega,hc',hn⟩,fun _=>rfl⟩
   ·rename_i hn; exact ⟨fun h=>by omega,fun h=>absurd h.2.2 hn⟩
theorem z37 {l:List Cd} (h:(l.map (·.n)).Nodup):l.Nodup:=by
 rw [List.nodup_iff_pairwise_ne] at h⊢
 rw [List.pairwise_map] at h
 exact h.imp fun h e=>h (by rw [e])
theorem z24 {l:List Cd} (h:(l.map (·.n)).Nodup):Inj l:=by
 intro x hx y hy e
 obtain ⟨i,hi,rfl⟩:=eDi.1 hx
 obtain ⟨j,hj,rfl⟩:=eDi.1 hy
 have:=(List.getElem_inj (xs:=l.map (·.n)) (i:=i) (j:=j) (h₀:=by simpa using hi) (h₁:=by simpa using hj) h).1 (by simpa using e)
 subst this; rfl
def fnd (b:List Th) (x:Int):Option Th:=b.find? fun t=>decide (t.num=x)
def z64 (b:List Th) (c:Cd):List Th:=
 if errC (fnd b) c≠0 then b
 else if c.k=1 then b++[⟨x0 c,c.a,0,false⟩]
 else if c.k=4 then upd b (x0 c) (v17 (fnd b) c)++[⟨x1 c,x92 (fnd b) (x0 c),0,false⟩]
 else upd b (x0 c) (v17 (fnd b) c)
theorem v27 (s:Sf) (c:Cd) (t:Th):(v17 s c t).num=t.num:=by
 unfold v17; repeat' split
 all_goals rfl
theorem v54 {b:List Th} {x:Int} {f:Th→Th} (hf:∀ t,(f t).num=t.num) (y:Int):fnd (upd b x f) y=if y=x then (fnd b y).map f else fnd b y:=by
 induction b with
 |nil=>simp [fnd,upd]
 |cons t b ih=>
  simp only [fnd,upd,eDc,List.find?_cons] at ih⊢
  by_cases h1:t.num=x
  ·rw [if_pos h1]
   by_cases h2:t.num=y
   ·have h3:y=x:=by omega
    have h4:(f t).num=y:=by rw [hf,h2]
    simp [h2,h3,h4,hf,h1]
   ·have h4:¬ (f t).num=y:=by rw [hf]; exact h2
    have e4:decide ((f t).num=y)=false:=by simpa using h4
    have e2:decide (t.num=y)=false:=by simpa using h2
    simp only [e4,e2]
    exact ih
  ·rw [if_neg h1]
   by_cases h2:t.num=y
   ·have h3:¬ y=x:=by omega
    simp [h2,h3]
   ·have e2:decide (t.num=y)=false:=by simpa using h2
    simp only [e2]
    exact ih
theorem v55 {b:List Th} {t:Th} (h:fnd b t.num=none) (y:Int):fnd (b++[t]) y=if y=t.num then some t else fnd b y:=by
 unfold fnd at*
 rw [List.find?_append]
 by_cases e:y=t.num
 ·subst e; rw [h]; simp
 ·rw [if_neg e]
  have:decide (t.num=y)=false:=by simpa using fun h=>e h.symm
  simp [this]
theorem v9b (b:List Th) (c:Cd) (hk:z3a c.k≠0) (hne:c.k=4→x0 c≠x1 c):fnd (z64 b c)=after (fnd b) c:=by
 unfold z64 after
 split
 ·rfl
 ·rename_i he
  have he:errC (fnd b) c=0:=by simpa using he
  split
  ·rename_i h1
   funext y
   refine v55 (t:=⟨x0 c,c.a,0,false⟩) ?_ y
   unfold errC at he
   rw [if_pos h1] at he
   cases hq:fnd b (x0 c) with
   |none=>rfl
   |some t=>rw [hq] at he; simp at he
  ·rename_i h1
   split
   ·rename_i h4
    funext y
    have hx1:fnd b (x1 c)=none:=by
     unfold errC at he
     rw [if_neg h1] at he
     split at he
     ·rename_i hh; exact absurd he hh
     ·simp only [h4,Int.reduceEq,if_false,if_true] at he
      cases hq:fnd b (x1 c) with
      |none=>rfl
      |some t=>rw [hq] at he; simp at he
    rw [v55 (t:=⟨x1 c,x92 (fnd b) (x0 c),0,false⟩)]
    ·show (if y=x1 c then _ else _)=_
     split
     ·rfl
     ·exact v54 (v27 _ _) y
    ·show fnd _ (x1 c)=none
     rw [v54 (v27 _ _),if_neg (fun e=>hne h4 e.symm)]
     exact hx1
   ·funext y
    exact v54 (v27 _ _) y
def z26 (l:List Cd):List Th:=l.foldl z64 []
def v3k:Sf→List Cd→List Int
 |_,[]=>[]
 |s,c::l=>errC s c::v3k (after s c) l
theorem v42 (p:List Cd) (c:Cd):st (p++[c])=after (st p) c:=by simp [st]
theorem v9d {s:Sf} {p q:List Cd} {c:Cd}:(v3k s (p++c::q))[p.length]?=some (errC (p.foldl after s) c):=by
 induction p generalizing s with
 |nil=>rfl
 |cons d p ih=>simp only [eDr,v3k,eBi,eCe,eDs]; exact ih
theorem z51 (s:Sf) (l:List Cd):(v3k s l).length=l.length:=by
 induction l generalizing s with
 |nil=>rfl
 |cons c l ih=>simp [v3k,ih]
def Wf (c:Cd):Prop:=z3a c.k≠0∧c.t.length=z3a c.k∧c.t.Nodup
theorem v7k {c:Cd} (h:z3d c=0):Wf c:=by
 obtain ⟨_,h2,h3,_,h5,_⟩:=z57.1 h
 exact ⟨h2,h3,h5⟩
theorem v6e {c:Cd} (h:Wf c):x0 c∈c.t:=by
 have:0<c.t.length:=by rw [h.2.1]; exact Nat.pos_of_ne_zero h.1
 unfold x0
 rw [eCi,eAa this]
 exact eCp _
theorem v5e {c:Cd} (h:Wf c) (h1:1<z3a c.k):x1 c∈c.t:=by
 have:1<c.t.length:=by rw [h.2.1]; exact h1
 unfold x1
 rw [eCi,eAa this]
 exact eCp _
theorem u2w {c:Cd} (h:Wf c) (h1:2<z3a c.k):x2 c∈c.t:=by
 have:2<c.t.length:=by rw [h.2.1]; exact h1
 unfold x2
 rw [eCi,eAa this]
 exact eCp _
theorem u2x {c:Cd} (h:Wf c) (h1:1<z3a c.k):x0 c≠x1 c:=by
 have hl:1<c.t.length:=by rw [h.2.1]; exact h1
 unfold x0 x1
 rw [eCi,eCi,eAa hl,eAa (by omega:0<c.t.length)]
 intro e
 have:=(List.getElem_inj h.2.2).1 e
 omega
theorem v3e {s s':Sf}:∀ {l:List Int},(∀ y∈l,s y=s' y)→x2h s l=x2h s' l
 |[],_=>rfl
 |x::l,h=>by
  have hx:w6m s x=w6m s' x:=by unfold w6m; rw [h x eBq]
  simp only [x2h,hx,v3e fun y hy=>h y (eCm _ hy)]
theorem v7t {c:Cd}:∀ y∈needs c,y∈c.t:=by
 intro y hy
 unfold needs at hy
 split at hy
 ·exact hy
 ·exact List.mem_of_mem_take hy
theorem v4t {s s':Sf} {c:Cd} (hw:Wf c) (h:∀ y∈c.t,s y=s' y):errC s c=errC s' c:=by
 have e0:=h _ (v6e hw)
 have en:=v3e fun y hy=>h y (v7t (c:=c) y hy)
 unfold errC hrsS x92
 rw [e0,en]
 rcases y35 hw.1 with ⟨hk,hm⟩|⟨hk,hm⟩|⟨hk,hm⟩
 ·rcases hk with hk|hk|hk<;>simp [hk]
 ·rw [h _ (v5e hw (by omega))]
  rcases hk with hk|hk<;>simp [hk]
 ·rw [h _ (v5e hw (by omega)),h _ (u2w hw (by omega))]
theorem v6b {s s':Sf} {c:Cd} (hw:Wf c) (h:∀ y∈c.t,s y=s' y):∀ y∈c.t,after s c y=after s' c y:=by
 intro y hy
 have e:=v4t hw h
 have e0:=h _ (v6e hw)
 have ey:=h y hy
 have ht:∀ t,v17 s c t=v17 s' c t:=by
  intro t
  unfold v17 x92
  rcases y35 hw.1 with ⟨hk,hm⟩|⟨hk,hm⟩|⟨hk,hm⟩
  ·rcases hk with hk|hk|hk<;>simp [hk]
  ·rw [h _ (v5e hw (by omega))]
  ·simp [hk]
 have ht':v17 s c=v17 s' c:=funext ht
 unfold after
 rw [e]
 have ev:x92 s (x0 c)=x92 s' (x0 c):=by unfold x92; rw [e0]
 repeat' split
 all_goals simp_all
theorem v6a {s:Sf} {c:Cd} (hw:Wf c) {y:Int} (hy:y∉c.t):after s c y=s y:=by
 have h0:y≠x0 c:=fun e=>hy (e▸v6e hw)
 unfold after
 split
 ·rfl
 ·split
  ·simp [h0]
  ·split
   ·rename_i h4
    have h1:y≠x1 c:=fun e=>hy (e▸v5e hw (by simp [z3a,h4]))
    simp [h0,h1]
   ·simp [h0]
theorem v3c {p q:List Cd} (hw:∀ c∈q,Wf c) {y:Int} (hy:on y q=[]):st (p++q) y=st p y:=by
 induction q generalizing p with
 |nil=>simp
 |cons c q ih=>
  have hc:y∉c.t:=fun h=>by
   have:c∈on y (c::q):=x3y.2 ⟨eBq,h⟩
   rw [hy] at this; cases this
  have hq:on y q=[]:=by
   unfold on at hy⊢
   rw [List.filter_eq_nil_iff] at hy⊢
   exact fun d hd=>hy d (eCm _ hd)
  have e:p++c::q=(p++[c])++q:=by simp
  rw [e,ih (fun d hd=>hw d (eCm _ hd)) hq,v42,v6a (hw c eBq) hc]
theorem v4s (x:Int) (p:List Cd):on x p=[]∨∃ p1 e p2,p=p1++e::p2∧x∈e.t∧on x p2=[]∧on x p=on x p1++[e]:=by
 induction p with
 |nil=>exact .inl rfl
 |cons c p ih=>
  rcases ih with h|⟨p1,e,p2,rfl,h1,h2,h3⟩
  ·by_cases hc:x∈c.t
   ·refine .inr ⟨[],c,p,rfl,hc,h,?_⟩
    have:on x (c::p)=c::on x p:=by simp [on,hc]
    rw [this,h]; rfl
   ·left
    have:on x (c::p)=on x p:=by simp [on,hc]
    rw [this,h]
  ·refine .inr ⟨c::p1,e,p2,rfl,h1,h2,?_⟩
   by_cases hc:x∈c.t
   ·have a:on x (c::(p1++e::p2))=c::on x (p1++e::p2):=by simp [on,hc]
    have b:on x (c::p1)=c::on x p1:=by simp [on,hc]
    rw [a,b,h3]; rfl
   ·have a:on x (c::(p1++e::p2))=on x (p1++e::p2):=by simp [on,hc]
    have b:on x (c::p1)=on x p1:=by simp [on,hc]
    rw [a,b,h3]
def u9h (S:Cd→Prop) (a b:List Cd):Prop:=
 ∀ e p r p' r',S e→a=p++e::r→b=p'++e::r'→∀ y∈e.t,on y p=on y p'∧∀ f∈on y p,S f
theorem v73 {S:Cd→Prop} {a b:List Cd} (ha:∀ c∈a,Wf c) (hb:∀ c∈b,Wf c) (H:u9h S a b):∀ (n:Nat) (p r p' r':List Cd),p.length≤n→a=p++r→b=p'++r'→∀ x,on x p=on x p'→(∀ e∈on x p,S e)→st p x=st p' x:=by
 intro n
 induction n with
 |zero=>
  intro p r p' r' hn e1 e2 x ho _
  have:p=[]:=eBn.1 (by omega)
  subst this
  have h0:on x p'=[]:=by rw [←ho]; rfl
  have:=v3c (p:=[]) (fun c hc=>hb c (by rw [e2]; exact eDl _ hc)) h0
  simpa using this.symm
 |succ n ih=>
  intro p r p' r' hn e1 e2 x ho hS
  have hwp:∀ c∈p,Wf c:=fun c hc=>ha c (by rw [e1]; exact eDl _ hc)
  have hwp':∀ c∈p',Wf c:=fun c hc=>hb c (by rw [e2]; exact eDl _ hc)
  rcases v4s x p with h|⟨p1,e,p2,rfl,hx,h2,h3⟩
  ·have h':on x p'=[]:=by rw [←ho]; exact h
   have a1:=v3c (p:=[]) hwp h
   have a2:=v3c (p:=[]) hwp' h'
   simp only [eDp] at a1 a2
   rw [a1,a2]
  ·rcases v4s x p' with h'|⟨q1,f,q2,rfl,hx',h2',h3'⟩
   ·rw [←ho,h3] at h'; simp at h'
   ·have hef:e=f:=by
     rw [h3,h3'] at ho
     have:=congrArg List.getLast? ho
     simpa using this
    subst hef
    have hSe:S e:=hS e (by rw [h3]; simp)
    have key:∀ y∈e.t,st p1 y=st q1 y:=fun y hy=>by
     have hH:=H e p1 (p2++r) q1 (q2++r') hSe (by rw [e1]; simp) (by rw [e2]; simp) y hy
     exact ih p1 (e::p2++r) q1 (e::q2++r') (by simp at hn; omega) (by rw [e1]; simp) (by rw [e2]; simp) y hH.1 hH.2
    have hwe:Wf e:=hwp e (by simp)
    have c1:p1++e::p2=(p1++[e])++p2:=by simp
    have c2:q1++e::q2=(q1++[e])++q2:=by simp
    rw [c1,c2,v3c (fun c hc=>hwp c (by simp [hc])) h2,v3c (fun c hc=>hwp' c (by simp [hc])) h2',v42,v42]
    exact v6b hwe key x hx
theorem v87 {S:Cd→Prop} {a b:List Cd} (ha:∀ c∈a,Wf c) (hb:∀ c∈b,Wf c) (H:u9h S a b) {p r p' r':List Cd} {e:Cd} (hS:S e) (h1:a=p++e::r) (h2:b=p'++e::r'):errC (st p) e=errC (st p') e:=by
 refine v4t (ha e (by rw [h1]; simp)) fun y hy=>?_
 have:=H e p r p' r' hS h1 h2 y hy
 exact v73 ha hb H _ p (e::r) p' (e::r') (eAk _) h1 h2 y this.1 this.2
theorem v4m {α:Type}:∀ {l1 l2 r1 r2:List α} {e:α},l1++e::r1=l2++e::r2→e∉l1→e∉l2→l1=l2
 |[],[],_,_,_,_,_,_=>rfl
 |[],y::l2,_,_,e,h,_,h2=>by
  simp only [eDp,eDr,List.cons.injEq] at h
  exact absurd (h.1▸eBq) h2
 |x::l1,[],_,_,e,h,h1,_=>by
  simp only [eDp,eDr,List.cons.injEq] at h
  exact absurd (h.1▸eBq) h1
 |x::l1,y::l2,_,_,e,h,h1,h2=>by
  simp only [eDr,List.cons.injEq] at h
  rw [h.1,v4m h.2 (fun h=>h1 (eCm _ h)) (fun h=>h2 (eCm _ h))]
theorem v3d (x:Int) (p q:List Cd):on x (p++q)=on x p++on x q:=by simp [on]
theorem v44 {x:Int} {e:Cd} (h:x∈e.t) (q:List Cd):on x (e::q)=e::on x q:=by simp [on,h]
theorem v4p {x:Int} {p:List Cd} {c:Cd} (h:c∈on x p):c∈p:=(x3y.1 h).1
theorem v6n {a b:List Cd} (hn:a.Nodup) (h:Eqv a b):u9h (fun _=>True) a b:=by
 intro e p r p' r' _ h1 h2 y hy
 refine ⟨?_,fun _ _=>trivial⟩
 have ho:=h.on hn y
 have hb:b.Nodup:=h.1.nodup_iff.1 hn
 rw [h1,h2,v3d,v3d,v44 hy,v44 hy] at ho
 refine v4m ho (fun hm=>?_) fun hm=>?_
 ·rw [h1] at hn
  exact (eDg.1 hn).2.2 e (v4p hm) e eBq rfl
 ·rw [h2] at hb
  exact (eDg.1 hb).2.2 e (v4p hm) e eBq rfl
theorem u3e {a b:List Cd} (hn:a.Nodup) (hw:∀ c∈a,Wf c) (h:Eqv a b):st a=st b:=by
 funext x
 have hwb:∀ c∈b,Wf c:=fun c hc=>hw c (h.1.mem_iff.2 hc)
 exact v73 hw hwb (v6n hn h) _ a [] b [] (eAk _) (by simp) (by simp) x (h.on hn x) fun _ _=>trivial
end Go.Am.D12
end
section
namespace Go.Am.D12
def mxs (F:Cd→Nat):List Cd→Nat
 |[]=>0
 |c::l=>max (F c) (mxs F l)
theorem v4r {F:Cd→Nat} {l:List Cd} {m:Nat}:mxs F l≤m↔∀ c∈l,F c≤m:=by
 induction l with
 |nil=>simp [mxs]
 |cons c l ih=>simp only [mxs,Nat.max_le,ih,eAz,forall_eq_or_imp]
theorem v3n {F:Cd→Nat} {l:List Cd} {c:Cd} (h:c∈l):F c≤mxs F l:=v4r.1 (eAk _) c h
theorem v69 (F:Cd→Nat) (p q:List Cd):mxs F (p++q)=max (mxs F p) (mxs F q):=by
 induction p with
 |nil=>simp [mxs]
 |cons c p ih=>simp only [eDr,mxs,ih]; omega
theorem z72 {F G:Cd→Nat} {l m:List Cd} (hm:∀ x,x∈l↔x∈m) (h:∀ x∈l,F x=G x):mxs F l=mxs G m:=by
 apply Nat.le_antisymm
 ·exact v4r.2 fun c hc=>by rw [h c hc]; exact v3n ((hm c).1 hc)
 ·exact v4r.2 fun c hc=>by rw [←h c ((hm c).2 hc)]; exact v3n ((hm c).2 hc)
def Rd (l:List Cd) (F:Cd→Nat):Prop:=∀ c∈l,F c=mxs F (l.filter fun d=>ord l d c)+1
def rdk (l:List Cd):Nat→Cd→Nat
 |0,_=>0
 |k+1,c=>mxs (rdk l k) (l.filter fun d=>ord l d c)+1
def u0y (l:List Cd):Cd→Nat:=rdk l l.length
theorem v3m (l:List Cd):∀ (i k:Nat) (c:Cd),c∈l→l.idxOf c≤i→i<k→rdk l k c=rdk l (i+1) c:=by
 intro i
 induction i using Nat.strongRecOn with
 |_ i ih=>
  intro k c hc hi hk
  cases k with
  |zero=>omega
  |succ k=>
   simp only [rdk]
   congr 1
   refine z72 (fun _=>Iff.rfl) fun d hd=>?_
   have ho:=(x2a.1 (eDa.1 hd).2).2
   have hdl:=(eDa.1 hd).1
   have a:=ih (l.idxOf d) (by omega) k d hdl (eAk _) (by omega)
   have b:=ih (l.idxOf d) (by omega) i d hdl (eAk _) (by omega)
   rw [a,b]
theorem v80 (l:List Cd):Rd l (u0y l):=by
 intro c hc
 have hlt:=eDn.2 hc
 have h:=v3m l (l.idxOf c) l.length c hc (eAk _) hlt
 unfold u0y
 rw [h]
 show mxs _ _+1=_
 congr 1
 refine z72 (fun _=>Iff.rfl) fun d hd=>?_
 have ho:=(x2a.1 (eDa.1 hd).2).2
 have hdl:=(eDa.1 hd).1
 rw [v3m l (l.idxOf d) (l.idxOf c) d hdl (eAk _) ho,v3m l (l.idxOf d) l.length d hdl (eAk _) (by omega)]
theorem u0x {l:List Cd} {F G:Cd→Nat} (hF:Rd l F) (hG:Rd l G):∀ c∈l,F c=G c:=by
 have key:∀ (i:Nat) (c:Cd),c∈l→l.idxOf c=i→F c=G c:=by
  intro i
  induction i using Nat.strongRecOn with
  |_ i ih=>
   intro c hc hi
   rw [hF c hc,hG c hc]
   congr 1
   refine z72 (fun _=>Iff.rfl) fun d hd=>?_
   have ho:=(x2a.1 (eDa.1 hd).2).2
   exact ih _ (by omega) d (eDa.1 hd).1 rfl
 exact fun c hc=>key _ c hc rfl
theorem u3g {a b:List Cd} (h:Eqv a b) {F:Cd→Nat} (hF:Rd a F):Rd b F:=by
 intro c hc
 have hc':=h.1.mem_iff.2 hc
 rw [hF c hc']
 congr 1
 refine z72 (fun d=>?_) fun _ _=>rfl
 simp only [eDa]
 constructor
 ·rintro ⟨h1,h2⟩; exact ⟨h.1.mem_iff.1 h1,by rw [←h.2 d h1 c hc']; exact h2⟩
 ·rintro ⟨h1,h2⟩; have h1':=h.1.mem_iff.2 h1; exact ⟨h1',by rw [h.2 d h1' c hc']; exact h2⟩
theorem u6i {l:List Cd} {F:Cd→Nat} (hF:Rd l F) {c d:Cd} (hd:d∈l) (hc:c∈l) (h:ord l d c=true):F d<F c:=by
 rw [hF c hc]
 exact Nat.lt_succ_of_le (v3n (eDa.2 ⟨hd,h⟩))
def v4h (l:List Cd) (F:Cd→Nat) (m:Nat):List Int:=srt ((l.filter fun c=>decide (F c=m)).map (·.n))
def z25 (l:List Cd):List (List Int):=(List.range (mxs (u0y l) l)).map fun m=>v4h l (u0y l) (m+1)
theorem v4o {a b:List Cd} {F G:Cd→Nat} (hp:a.Perm b) (h:∀ c∈a,F c=G c) (m:Nat):v4h a F m=v4h b G m:=by
 unfold v4h
 refine x69 (List.Perm.map _ ?_)
 have:(a.filter fun c=>decide (F c=m))=a.filter fun c=>decide (G c=m):=List.filter_congr fun c hc=>by rw [h c hc]
 rw [this]
 exact hp.filter _
theorem v3v {l:List Cd} {F:Cd→Nat} (hF:Rd l F):z25 l=(List.range (mxs F l)).map fun m=>v4h l F (m+1):=by
 have h:=u0x (v80 l) hF
 unfold z25
 rw [z72 (fun _=>Iff.rfl) h]
 exact eDw fun m _=>v4o (.refl _) h _
theorem v68 {a b:List Cd} (h:Eqv a b):z25 a=z25 b:=by
 have hF:=v80 a
 rw [v3v hF,v3v (u3g h hF),z72 (fun _=>h.1.mem_iff) fun _ _=>rfl]
 exact eDw fun m _=>v4o h.1 (fun _ _=>rfl) _
end Go.Am.D12
end
section
namespace Go.Am
section
variable (es l:List (List D)) (i j a b n:Nat) (x y:Int) (c d:Bool)
theorem v7n:std.bEq c d=(c==d):=rfl
theorem u0u:std.rdB es i j=dB (rdD es i j):=rfl
theorem v51:std.cmp .eql x y=decide (x=y):=rfl
theorem v66:std.ar .mul .i64 x y=IntKind.i64.wrap (x*y):=rfl
theorem v4l:std.ar .quo .i64 x y=IntKind.i64.wrap (x.tdiv y):=rfl
theorem v4k:std.ar .rem .i64 x y=x.tmod y:=rfl
end
end Go.Am
namespace Go.Am
theorem v3t {α:Type} {l:List α} {i:Nat} {m:α} (h:l[i]?=some m):l.drop i=m::l.drop (i+1):=by
 obtain ⟨h1,h2⟩:=eAd.1 h
 rw [List.drop_eq_getElem_cons h1,h2]
end Go.Am
end
section
namespace Go.Am.D12
theorem Tc.last {B:Cd→Cd→Bool} {x y:Cd} (h:Tc B x y):B x y=true∨∃ z,Tc B x z∧B z y=true:=by
 cases h with
 |one h=>exact .inl h
 |step h k=>exact .inr ⟨_,h,k⟩
theorem v5j {l p r:List Cd} {c:Cd} (h:l=p++c::r) (hc:c∉p):pre l c=p:=by
 subst h
 unfold pre
 rw [v5n hc]; simp
theorem split_at {l:List Cd} {c:Cd} (hc:c∈l):∃ r,l=pre l c++c::r:=by
 have hlt:=eDn.2 hc
 refine ⟨l.drop (l.idxOf c+1),?_⟩
 unfold pre
 conv=>lhs; rw [←List.take_append_drop (l.idxOf c) l,List.drop_eq_getElem_cons hlt,eDe]
theorem v46 {l:List Cd} {c d:Cd} (hd:d∈l):d∈pre l c↔l.idxOf d<l.idxOf c:=by
 unfold pre
 constructor
 ·intro h
  obtain ⟨i,hi,he⟩:=eDi.1 h
  have hi':=hi
  rw [eBv] at hi
  rw [List.getElem_take] at he
  have:l.idxOf d≤i:=by
   refine Nat.le_of_not_lt fun hlt=>?_
   have:=List.not_of_lt_findIdx (p:=(· ==d)) (xs:=l) (i:=i) hlt
   rw [he] at this
   simp at this
  omega
 ·intro h
  have hlt:=eDn.2 hd
  have e:(l.take (l.idxOf c))[l.idxOf d]'(by rw [eBv]; omega)=d:=by
   rw [List.getElem_take,eDe]
  exact e▸eCp _
def ltc (l:List Cd) (d c:Cd):Bool:=decide (c∈l)&&c.t.any fun x=>decide ((on x (pre l c)).getLast?=some d)
theorem v3a {l:List Cd} {d c:Cd}:ltc l d c=true↔c∈l∧∃ x∈c.t,(on x (pre l c)).getLast?=some d:=by simp [ltc]
theorem v7r {l:List Cd} {c d:Cd} (h:d∈pre l c):d∈l:=List.mem_of_mem_take h
theorem v7v {l:List Cd} {d c:Cd} (h:ltc l d c=true):ord l d c=true∧d∈l:=by
 obtain ⟨hc,x,hx,hl⟩:=v3a.1 h
 have hd:=eDm hl
 have hdp:=x3y.1 hd
 have hdl:=v7r hdp.1
 exact ⟨x2a.2 ⟨w32.2 ⟨x,hdp.2,hx⟩,(v46 hdl).1 hdp.1⟩,hdl⟩
theorem u1c {l:List Cd} (hn:l.Nodup) {d c:Cd} (hd:d∈l) (hc:c∈l) (h:ord l d c=true):ltc l d c=true∨∃ z∈l,ord l d z=true∧ltc l z c=true:=by
 obtain ⟨ht,hlt⟩:=x2a.1 h
 obtain ⟨x,hxd,hxc⟩:=w32.1 ht
 have hdo:d∈on x (pre l c):=x3y.2 ⟨(v46 hd).2 hlt,hxd⟩
 cases hl:(on x (pre l c)).getLast? with
 |none=>rw [List.getLast?_eq_none_iff] at hl; rw [hl] at hdo; cases hdo
 |some z=>
  have hz:=eDm hl
  have hzl:=v7r (x3y.1 hz).1
  have hlz:ltc l z c=true:=v3a.2 ⟨hc,x,hxc,hl⟩
  by_cases e:d=z
  ·subst e; exact .inl hlz
  ·right
   refine ⟨z,hzl,x2a.2 ⟨w32.2 ⟨x,hxd,(x3y.1 hz).2⟩,?_⟩,hlz⟩
   have hpw:(on x (pre l c)).Pairwise fun u v=>l.idxOf u<l.idxOf v:=((w29 hn).sublist (List.take_sublist _ _)).filter _
   obtain ⟨q,hq⟩:∃ q,on x (pre l c)=q++[z]:=⟨_,List.getLast?_eq_some_iff.1 hl|>.choose_spec⟩
   rw [hq] at hpw hdo
   rcases eBj.1 hdo with h1|h1
   ·exact (List.pairwise_append.1 hpw).2.2 d h1 z eBq
   ·exact absurd (eBe.1 h1) e
instance (a b:List Cd):Decidable (unkn a b):=inferInstanceAs (Decidable (∃ x,x∈w55 a b∧∃ y,y∈w55 a b∧x≠y∧tch x y=true∧kn a b x y=false∧kn a b y x=false))
instance (a b:List Cd):Decidable (circ a b):=inferInstanceAs (Decidable (∃ x,x∈w55 a b∧kn a b x x=true))
end Go.Am.D12
end
noncomputable section
namespace Go.Am
theorem vD : EnvOk PG (autoEnvD [] PG) := autoEnvD_ok follows_mixed
theorem vE1000003 : EnvOk PG (autoEnvE [1000003] PG) := autoEnvE_ok follows_mixed
theorem vE1000004 : EnvOk PG (autoEnvE [1000004] PG) := autoEnvE_ok follows_mixed

abbrev q0m : OT := .box [.int .i64, .int .i64, .list 1, .int .i64]
abbrev q1m : OT := .box [.int .i64, .int .i64, .int .i64, .bool]
abbrev q2m : OT := .row [(CK.int .u64), (CK.int .u64)]
abbrev q3m : OT := .box [.sl 1 4, .map 2, .full 3 2]
abbrev q4m : OT := .box [.sl 2 4, .map 3, .full 4 2]
abbrev q5m : OT := .row [ci, ci, (CK.list 1), ci]
abbrev q6m : OT := .box [.sl 1 4, .map 2, .nils]
abbrev q7m : OT := .box [.int .u64, .int .u64]
abbrev q8m : OT := .row [ci, ci, ci, CK.bool]
abbrev q9m : OT := .row [(CK.list 1)]
abbrev q10m : OT := .box [.bptr 0 0]
abbrev q11m : OT := .box [.int .i64]
abbrev q12m : OT := .row [ci]
abbrev q13m : List OT := [q4m, .map, q5m, .map, q2m]
abbrev q14m : List OT := [q3m, q5m, .map, q2m]
abbrev q15m : List OT := [q6m, q5m, .map]
abbrev q16m : List OT := [.map, q9m, q0m]
abbrev tT := true
abbrev fF := false
abbrev W0w := (Int×Unit)
abbrev W32w := (Int×W0w)
abbrev W6w := (LD×W32w)
abbrev W1w := (LD×(Int×(Int×W6w)))
abbrev W19w := (D×D)
abbrev W12w := (Int×(Int×W32w))
abbrev W21w := (Int×(Int×(Int×W12w)))
abbrev W2w := (LD×(List (W19w)×(LD×(LD×(Nat×(Nat×(Int×(Int×W21w))))))))
abbrev W3w := (Bool×Unit)
abbrev W4w := (List (W19w)×W0w)
abbrev W5w := (List (W19w)×(LD×(List (W19w)×(LD×(Nat×(Nat×(Int×(LD×(Int×(Int×W1w))))))))))
abbrev W7w := (List (W19w)×Unit)
abbrev W8w := (List (W19w)×(LD×(List (W19w)×(LD×(Nat×(Nat×W1w))))))
abbrev W9w := (LD×(Nat×(Nat×Unit)))
abbrev W10w := (LD×Unit)
abbrev W11w := (LD×(List (W19w)×(Nat×(Nat×(LD×W1w)))))
abbrev W34w := (LD×W0w)
abbrev W13w := (LD×W34w)
abbrev W14w := (Int×(Int×(LD×(Int×(Int×(Int×W6w))))))
abbrev W33w := (LD×W6w)
abbrev W15w := (List (W19w)×W33w)
abbrev W16w := (LD×(LD×(Nat×(Nat×W0w))))
abbrev W17w := (List (W19w)×(LD×(Int×(Int×(LD×(Int×(Int×W1w)))))))
abbrev W18w := (Int×(Int×(Int×W3w)))
abbrev W20w := (LD×(List (W19w)×(LD×W9w)))
abbrev W22w := (LD×W10w)
abbrev W23w := (LD×(List (W19w)×W9w))
abbrev W24w := (LD×(List (W19w)×(LD×(Nat×(Nat×W6w)))))
abbrev W25w := (Int×(Int×W34w))
abbrev W26w := (List (W19w)×W6w)
abbrev W27w := (List (W19w)×(LD×W33w))
abbrev W28w := (List (W19w)×(LD×(Int×(Int×W1w))))
abbrev W29w := (LD×(LD×(Nat×(Nat×(Int×W3w)))))
abbrev W30w := (List (W19w)×W10w)
abbrev W31w := (List (W19w)×(LD×(Int×W1w)))
abbrev W35w := (Int×(Int×(Int×(Bool×W0w))))
abbrev W36w := (LD×(LD×W3w))
abbrev W37w := (Int×(Int×(LD×(Int×W25w))))
abbrev W38w := (Int×(Int×(LD×(Int×(Int×(Int×(LD×(Int×W32w))))))))
abbrev W39w := (Int×(Int×(LD×(Int×(Int×(Int×(LD×(Int×W3w))))))))
abbrev W40w := (List (W19w)×(Int×(Int×(LD×(Int×(Int×W10w))))))
abbrev W41w := (LD×(List (W19w)×(LD×(LD×(Nat×(Nat×W21w))))))
abbrev W42w := (LD×(List (W19w)×(LD×(LD×(Nat×(Nat×W12w))))))
abbrev W43w := (Nat×(Nat×W33w))
def u1w:Ctr:=
 ⟨43,[.list 4, .int .i64],[],[(.ret,⟨[(0, .int .i64)],[],1⟩)]⟩
def la43:List LA:=
 [⟨43,[fF,tT,fF,tT],0,⟨⟨[(0, .list 4),(1, .int .i64),(5, .int .i64)],[],20⟩,[(AX.ret,⟨[(4, .int .i64)],[],20⟩),((AX.exit 0),⟨[],[],20⟩)]⟩⟩]
def ja43:List JA:=
 []
def u8e:List CF:=
 []
def an43:Anns:=
 ⟨u8e,ja43,[]⟩
def v8o (p:Prim):W6w→Option (W6w⊕(W0w⊕Unit)):=
 fun a=>let A:=a.2.2.1; opt.run _ (
 opt.ask _ (p.cmp .lss A (p.ofNat (p.len a.1))) (
 opt.need _ (p.rowOk a.1 (p.nat A) [ci,ci,(CK.list 1),ci])<|
 opt.need _ (p.cmp .geq A (0:Int))<|
 opt.ask _ (p.cmp .eql (p.rdI a.1 (p.nat A) 0) a.2.1) (
 opt.ret _ (Sum.inr (Sum.inl a.2.2))) (
 opt.ret _ (Sum.inl (a.1,(a.2.1,((p.ar .add .i64 A (1:Int)),())))))) (
 opt.ret _ (Sum.inr (Sum.inr ()))))
def G43:(p:Prim)→W34w→Option (W0w):=
 fun p x=>
 opt.alt (W0w) (Unit) _ (
 z5r (v8o p) (x.1,(x.2.1,((0:Int),())))) (fun a=>
 opt.ret _ a) (fun b=>
 opt.bnd (Unit) _ (some b) fun c=>
 opt.ret _ ((-1:Int),()))
theorem u9s:CtrOk PG u1w (G43 std):=okF vE (a:=an43) (l:=la43) (gN)
def u1v:Ctr:=
 ⟨44,[.agg [.int .i64, .int .i64, .list 1, .int .i64], .agg [.int .i64, .int .i64, .list 1, .int .i64]],[],[(.ret,⟨[(0, .bool)],[],1⟩)]⟩
def la44:List LA:=
 [⟨44,[fF,tT,fF,tT],0,⟨⟨[(2, .bptr 0 0),(3, .bptr 1 0),(5, .int .i64)],[q0m,q0m],32⟩,[(AX.ret,⟨[(4, .bool)],[],32⟩),((AX.exit 0),⟨[],[],32⟩)]⟩⟩,
 ⟨44,[fF,tT,fF,fF,tT,fF,fF,tT,fF,tT],0,⟨⟨[(2, .bptr 0 0),(3, .bptr 1 0),(5, .int .i64),(6, .int .i64)],[q0m,q0m],32⟩,[(AX.ret,⟨[(4, .bool)],[],32⟩),((AX.exit 2),⟨[(2, .bptr 0 0),(3, .bptr 1 0),(5, .int .i64)],[q0m,q0m],32⟩)]⟩⟩]
def ja44:List JA:=
 []
def u8d:List CF:=
 []
def an44:Anns:=
 ⟨u8d,ja44,[]⟩
def v8m (p:Prim):W38w→Option (W38w⊕(W3w⊕W14w)):=
 fun a=>let A:=a.2.2.2.2.2.2.2.2.2.1;let B:=a.2.2.2.2.2.2.2.2.1;let C:=a.2.2.2.2.2.2.1; opt.run _ (
 opt.ask _ (p.cmp .lss A (p.ofNat (p.len C))) (
 opt.need _ (p.rowOk a.2.2.1 (p.nat B) [ci])<|
 opt.need _ (p.cmp .geq B (0:Int))<|
 opt.need _ (p.rowOk C (p.nat A) [ci])<|
 opt.need _ (p.cmp .geq A (0:Int))<|
 opt.ask _ (p.cmp .eql (p.rdI a.2.2.1 (p.nat B) 0) (p.rdI C (p.nat A) 0)) (
 opt.ret _ (Sum.inr (Sum.inl (Bool.true,())))) (
 opt.ret _ (Sum.inl (a.1,(a.2.1,(a.2.2.1,(a.2.2.2.1,(a.2.2.2.2.1,(a.2.2.2.2.2.1,(C,(a.2.2.2.2.2.2.2.1,(B,((p.ar .add .i64 A (1:Int)),()))))))))))))) (
 opt.ret _ (Sum.inr (Sum.inr (a.1,(a.2.1,(a.2.2.1,(a.2.2.2.1,(a.2.2.2.2.1,(a.2.2.2.2.2.1,(C,(a.2.2.2.2.2.2.2.1,(B,())))))))))))))
def v8n (p:Prim):W14w→Option (W14w⊕(W3w⊕Unit)):=
 fun a=>opt.run _ (
 opt.ask _ (p.cmp .lss a.2.2.2.2.2.2.2.2.1 (p.ofNat (p.len a.2.2.1))) (
 opt.alt (W3w) (W14w) _ (
 z5r (v8m p) (a.1,(a.2.1,(a.2.2.1,(a.2.2.2.1,(a.2.2.2.2.1,(a.2.2.2.2.2.1,(a.2.2.2.2.2.2.1,(a.2.2.2.2.2.2.2.1,(a.2.2.2.2.2.2.2.2.1,((0:Int),()))))))))))) (fun b=>
 opt.ret _ (Sum.inr (Sum.inl b))) (fun c=>
 opt.bnd (W14w) _ (some c) fun d=>
 opt.ret _ (Sum.inl (d.1,(d.2.1,(d.2.2.1,(d.2.2.2.1,(d.2.2.2.2.1,(d.2.2.2.2.2.1,(d.2.2.2.2.2.2.1,(d.2.2.2.2.2.2.2.1,((p.ar .add .i64 d.2.2.2.2.2.2.2.2.1 (1:Int)),())))))))))))) (
 opt.ret _ (Sum.inr (Sum.inr ()))))
def G44:(p:Prim)→W37w→Option (W3w):=
 fun p x=>
 opt.alt (W3w) (Unit) _ (
 z5r (v8n p) (x.1,(x.2.1,(x.2.2.1,(x.2.2.2.1,(x.2.2.2.2.1,(x.2.2.2.2.2.1,(x.2.2.2.2.2.2.1,(x.2.2.2.2.2.2.2.1,((0:Int),())))))))))) (fun a=>
 opt.ret _ a) (fun b=>
 opt.bnd (Unit) _ (some b) fun c=>
 opt.ret _ (Bool.false,()))
theorem u9r:CtrOk PG u1v (G44 std):=okF vE (a:=an44) (l:=la44) (gN)
def u1q:Ctr:=
 ⟨77,[.agg [.int .i64, .int .i64, .list 1, .int .i64], .agg [.int .i64, .int .i64, .list 1, .int .i64]],[],[(.ret,⟨[(0, .bool)],[],1⟩)]⟩
def la77:List LA:=
 [⟨77,[fF,tT,fF,tT,tT],0,⟨⟨[(2, .bptr 0 0),(3, .bptr 1 0),(5, .int .i64)],[q0m,q0m],52⟩,[(AX.ret,⟨[(4, .bool)],[],52⟩),((AX.exit 0),⟨[],[],52⟩)]⟩⟩]
def ja77:List JA:=
 [⟨77,[fF,fF,tT],0,[(AX.normal,⟨[(2, .bptr 0 0),(3, .bptr 1 0),(33, .bool)],[q0m,q0m],52⟩)]⟩]
def u7u:List CF:=
 []
def an77:Anns:=
 ⟨u7u,ja77,[]⟩
def v8g (p:Prim):W14w→Option (W14w⊕(W3w⊕Unit)):=
 fun a=>let A:=a.2.2.2.2.2.2.2.2.1;let B:=a.2.2.2.2.2.2.1;let C:=p.cmp .geq A (0:Int);let E:=p.nat A; opt.run _ (
 opt.ask _ (p.cmp .lss A (p.ofNat (p.len a.2.2.1))) (
 opt.need _ (p.rowOk a.2.2.1 E [ci])<|
 opt.need _ C<|
 opt.need _ (p.rowOk B E [ci])<|
 opt.need _ C<|
 opt.ask _ (p.cmp .neq (p.rdI a.2.2.1 E 0) (p.rdI B E 0)) (
 opt.ret _ (Sum.inr (Sum.inl (Bool.false,())))) (
 opt.ret _ (Sum.inl (a.1,(a.2.1,(a.2.2.1,(a.2.2.2.1,(a.2.2.2.2.1,(a.2.2.2.2.2.1,(B,(a.2.2.2.2.2.2.2.1,((p.ar .add .i64 A (1:Int)),())))))))))))) (
 opt.ret _ (Sum.inr (Sum.inr ()))))
def G77:(p:Prim)→W37w→Option (W3w):=
 fun p x=>let E:=x.2.2.2.2.2.1;let C:=x.2.2.2.2.2.2.1;let B:=x.2.2.2.2.2.2.2.1;let A:=(x.1,(x.2.1,(x.2.2.1,(x.2.2.2.1,(x.2.2.2.2.1,(E,(C,(B,(Bool.true,())))))))));
 opt.bnd (W39w) _ (
 opt.run (W39w) (
 opt.ask _ (p.cmp .neq x.1 x.2.2.2.2.1) (
 opt.ret _ A) (
 opt.ask _ (p.cmp .neq x.2.1 E) (
 opt.ret _ A) (
 opt.ask _ (p.cmp .neq x.2.2.2.1 B) (
 opt.ret _ A) (
 opt.ret _ (x.1,(x.2.1,(x.2.2.1,(x.2.2.2.1,(x.2.2.2.2.1,(E,(C,(B,((p.cmp .neq (p.ofNat (p.len x.2.2.1)) (p.ofNat (p.len C))),())))))))))))))) fun a=>
 opt.ask _ a.2.2.2.2.2.2.2.2.1 (
 opt.ret _ (Bool.false,())) (
 opt.alt (W3w) (Unit) _ (
 z5r (v8g p) (a.1,(a.2.1,(a.2.2.1,(a.2.2.2.1,(a.2.2.2.2.1,(a.2.2.2.2.2.1,(a.2.2.2.2.2.2.1,(a.2.2.2.2.2.2.2.1,((0:Int),())))))))))) (fun b=>
 opt.ret _ b) (fun c=>
 opt.bnd (Unit) _ (some c) fun d=>
 opt.ret _ (Bool.true,())))
theorem u9m:CtrOk PG u1q (G77 std):=okF vE (a:=an77) (l:=la77) (gN)
def u4l:Ctr:=
 ⟨34,[.list 4, .list 4],[],[(.ret,⟨[(0, .bool)],[],1⟩)]⟩
def la34:List LA:=
 [⟨34,[fF,tT,fF,tT,tT],0,⟨⟨[(0, .list 4),(1, .list 4),(5, .int .i64)],[],27⟩,[(AX.ret,⟨[(4, .bool)],[],27⟩),((AX.exit 0),⟨[],[],27⟩)]⟩⟩]
def ja34:List JA:=
 []
def u8j:List CF:=
 [⟨u1q,G77⟩]
def an34:Anns:=
 ⟨u8j,ja34,[]⟩
def u2b (p:Prim):W13w→Option (W13w⊕(W3w⊕Unit)):=
 fun a=>let A:=p.nat a.2.2.1;let B:=p.cmp .geq a.2.2.1 (0:Int);let C:=[ci,ci,(CK.list 1),ci]; opt.run _ (
 opt.ask _ (p.cmp .lss a.2.2.1 (p.ofNat (p.len a.1))) (
 opt.need _ (p.rowOk a.1 A C)<|
 opt.need _ B<|
 opt.need _ (p.rowOk a.2.1 A C)<|
 opt.need _ B<|
 opt.bnd (W3w) _ (G77 p ((p.rdI a.1 A 0),((p.rdI a.1 A 1),((p.rdL a.1 A 2),((p.rdI a.1 A 3),((p.rdI a.2.1 A 0),((p.rdI a.2.1 A 1),((p.rdL a.2.1 A 2),((p.rdI a.2.1 A 3),()))))))))) fun b=>
 opt.ask _ (bif b.1 then Bool.false else Bool.true) (
 opt.ret _ (Sum.inr (Sum.inl (Bool.false,())))) (
 opt.ret _ (Sum.inl (a.1,(a.2.1,((p.ar .add .i64 a.2.2.1 (1:Int)),())))))) (
 opt.ret _ (Sum.inr (Sum.inr ()))))
def G34:(p:Prim)→W22w→Option (W3w):=
 fun p x=>
 opt.ask _ (p.cmp .neq (p.ofNat (p.len x.1)) (p.ofNat (p.len x.2.1))) (
 opt.ret _ (Bool.false,())) (
 opt.alt (W3w) (Unit) _ (
 z5r (u2b p) (x.1,(x.2.1,((0:Int),())))) (fun a=>
 opt.ret _ a) (fun b=>
 opt.bnd (Unit) _ (some b) fun c=>
 opt.ret _ (Bool.true,())))
theorem ok34:CtrOk PG u4l (G34 std):=okF vE (a:=an34) (l:=la34) (gC u9m (gN))
def u4p:Ctr:=
 ⟨26,[.list 4, .list 4],[],[(.ret,⟨[(0, .bool)],[],1⟩)]⟩
def la26:List LA:=
 [⟨26,[fF,tT,fF,tT,tT],0,⟨⟨[(0, .list 4),(1, .list 4),(5, .int .i64)],[],26⟩,[(AX.ret,⟨[(4, .bool)],[],26⟩),((AX.exit 0),⟨[],[],26⟩)]⟩⟩]
def ja26:List JA:=
 []
def u8n:List CF:=
 []
def an26:Anns:=
 ⟨u8n,ja26,[]⟩
def u2d (p:Prim):W13w→Option (W13w⊕(W3w⊕Unit)):=
 fun a=>let A:=p.nat a.2.2.1;let B:=p.cmp .geq a.2.2.1 (0:Int); opt.run _ (
 opt.ask _ (p.cmp .lss a.2.2.1 (p.ofNat (p.len a.1))) (
 opt.need _ (p.rowOk a.1 A [ci,ci,ci,CK.bool])<|
 opt.need _ B<|
 opt.need _ (p.rowOk a.2.1 A [ci,ci,ci,CK.bool])<|
 opt.need _ B<|
 opt.ask _ (bif (bif (p.cmp .eql (p.rdI a.1 A 0) (p.rdI a.2.1 A 0)) then (bif (p.cmp .eql (p.rdI a.1 A 1) (p.rdI a.2.1 A 1)) then (bif (p.cmp .eql (p.rdI a.1 A 2) (p.rdI a.2.1 A 2)) then (bif (p.bEq (p.rdB a.1 A 3) (p.rdB a.2.1 A 3)) then Bool.true else Bool.false) else Bool.false) else Bool.false) else Bool.false) then Bool.false else Bool.true) (
 opt.ret _ (Sum.inr (Sum.inl (Bool.false,())))) (
 opt.ret _ (Sum.inl (a.1,(a.2.1,((p.ar .add .i64 a.2.2.1 (1:Int)),())))))) (
 opt.ret _ (Sum.inr (Sum.inr ()))))
def G26:(p:Prim)→W22w→Option (W3w):=
 fun p x=>
 opt.ask _ (p.cmp .neq (p.ofNat (p.len x.1)) (p.ofNat (p.len x.2.1))) (
 opt.ret _ (Bool.false,())) (
 opt.alt (W3w) (Unit) _ (
 z5r (u2d p) (x.1,(x.2.1,((0:Int),())))) (fun a=>
 opt.ret _ a) (fun b=>
 opt.bnd (Unit) _ (some b) fun c=>
 opt.ret _ (Bool.true,())))
theorem ok26:CtrOk PG u4p (G26 std):=okF vE (a:=an26) (l:=la26) (gN)
def u4d:Ctr:=
 ⟨76,[.list 1, .list 1],[],[(.ret,⟨[(0, .bool)],[],1⟩)]⟩
def la76:List LA:=
 [⟨76,[fF,tT,fF,tT,tT],0,⟨⟨[(0, .list 1),(1, .list 1),(5, .int .i64)],[],26⟩,[(AX.ret,⟨[(4, .bool)],[],26⟩),((AX.exit 0),⟨[],[],26⟩)]⟩⟩]
def ja76:List JA:=
 []
def u7v:List CF:=
 []
def an76:Anns:=
 ⟨u7v,ja76,[]⟩
def u2a (p:Prim):W13w→Option (W13w⊕(W3w⊕Unit)):=
 fun a=>let A:=p.nat a.2.2.1;let B:=p.cmp .geq a.2.2.1 (0:Int); opt.run _ (
 opt.ask _ (p.cmp .lss a.2.2.1 (p.ofNat (p.len a.1))) (
 opt.need _ (p.rowOk a.1 A [ci])<|
 opt.need _ B<|
 opt.need _ (p.rowOk a.2.1 A [ci])<|
 opt.need _ B<|
 opt.ask _ (p.cmp .neq (p.rdI a.1 A 0) (p.rdI a.2.1 A 0)) (
 opt.ret _ (Sum.inr (Sum.inl (Bool.false,())))) (
 opt.ret _ (Sum.inl (a.1,(a.2.1,((p.ar .add .i64 a.2.2.1 (1:Int)),())))))) (
 opt.ret _ (Sum.inr (Sum.inr ()))))
def G76:(p:Prim)→W22w→Option (W3w):=
 fun p x=>
 opt.ask _ (p.cmp .neq (p.ofNat (p.len x.1)) (p.ofNat (p.len x.2.1))) (
 opt.ret _ (Bool.false,())) (
 opt.alt (W3w) (Unit) _ (
 z5r (u2a p) (x.1,(x.2.1,((0:Int),())))) (fun a=>
 opt.ret _ a) (fun b=>
 opt.bnd (Unit) _ (some b) fun c=>
 opt.ret _ (Bool.true,())))
theorem ok76:CtrOk PG u4d (G76 std):=okF vE (a:=an76) (l:=la76) (gN)
def u4m:Ctr:=
 ⟨33,[.list 1, .list 1],[],[(.ret,⟨[(0, .bool)],[],1⟩)]⟩
def la33:List LA:=
 [⟨33,[fF,tT,fF,tT,tT],0,⟨⟨[(0, .list 1),(1, .list 1),(5, .int .i64)],[],27⟩,[(AX.ret,⟨[(4, .bool)],[],27⟩),((AX.exit 0),⟨[],[],27⟩)]⟩⟩]
def ja33:List JA:=
 []
def u8k:List CF:=
 [⟨u4d,G76⟩]
def an33:Anns:=
 ⟨u8k,ja33,[]⟩
def u2c (p:Prim):W13w→Option (W13w⊕(W3w⊕Unit)):=
 fun a=>let A:=p.nat a.2.2.1;let B:=p.cmp .geq a.2.2.1 (0:Int); opt.run _ (
 opt.ask _ (p.cmp .lss a.2.2.1 (p.ofNat (p.len a.1))) (
 opt.need _ (p.rowOk a.1 A [(CK.list 1)])<|
 opt.need _ B<|
 opt.need _ (p.rowOk a.2.1 A [(CK.list 1)])<|
 opt.need _ B<|
 opt.bnd (W3w) _ (G76 p ((p.rdL a.1 A 0),((p.rdL a.2.1 A 0),()))) fun b=>
 opt.ask _ (bif b.1 then Bool.false else Bool.true) (
 opt.ret _ (Sum.inr (Sum.inl (Bool.false,())))) (
 opt.ret _ (Sum.inl (a.1,(a.2.1,((p.ar .add .i64 a.2.2.1 (1:Int)),())))))) (
 opt.ret _ (Sum.inr (Sum.inr ()))))
def G33:(p:Prim)→W22w→Option (W3w):=
 fun p x=>
 opt.ask _ (p.cmp .neq (p.ofNat (p.len x.1)) (p.ofNat (p.len x.2.1))) (
 opt.ret _ (Bool.false,())) (
 opt.alt (W3w) (Unit) _ (
 z5r (u2c p) (x.1,(x.2.1,((0:Int),())))) (fun a=>
 opt.ret _ a) (fun b=>
 opt.bnd (Unit) _ (some b) fun c=>
 opt.ret _ (Bool.true,())))
theorem ok33:CtrOk PG u4m (G33 std):=okF vE (a:=an33) (l:=la33) (gC ok76 (gN))
def F15:Prim→Tup (w8h).scs→Option (STup (scss (w8h).outs)):=
 fun p x=>G15 p x
def F20:Prim→Tup (w8f).scs→Option (STup (scss (w8f).outs)):=
 fun p x=>G20 p x
def u4i:Ctr:=
 ⟨41,[.list 4],[],[(.ret,⟨[(0, .bool)],[],1⟩)]⟩
def la41:List LA:=
 []
def ja41:List JA:=
 [⟨41,[fF,tT],0,[(AX.normal,⟨[(2, .bool)],[],11⟩)]⟩]
def u8g:List CF:=
 [⟨w8f,F20⟩,⟨w8h,F15⟩]
def an41:Anns:=
 ⟨u8g,ja41,[]⟩
def G41:(p:Prim)→W10w→Option (W3w):=
 fun p x=>
 opt.bnd (W3w) _ (
 opt.run (W3w) (
 opt.bnd (W3w) _ (G15 p x) fun a=>
 opt.ask _ (bif a.1 then Bool.false else Bool.true) (
 opt.bnd (W0w) _ (G20 p x) fun b=>
 opt.ret _ ((p.cmp .eql b.1 (0:Int)),())) (
 opt.ret _ (Bool.false,())))) fun c=>
 opt.ret _ c
theorem ok41:CtrOk PG u4i (G41 std):=okF vE (a:=an41) (l:=la41) (gC ok20 (gC ok15 (gN)))
def u3z:Ctr:=
 ⟨82,[.list 4, .list 4],[],[(.ret,⟨[(0, .int .i64)],[],1⟩)]⟩
def la82:List LA:=
 []
def ja82:List JA:=
 []
def u7p:List CF:=
 [⟨w8f,F20⟩]
def an82:Anns:=
 ⟨u7p,ja82,[]⟩
def G82:(p:Prim)→W22w→Option (W0w):=
 fun p x=>
 opt.bnd (W0w) _ (G20 p (x.1,())) fun a=>
 opt.ask _ (p.cmp .neq a.1 (0:Int)) (
 opt.bnd (W0w) _ (G20 p (x.1,())) fun b=>
 opt.ret _ b) (
 opt.bnd (W0w) _ (G20 p x.2) fun c=>
 opt.ret _ c)
theorem ok82:CtrOk PG u3z (G82 std):=okF vE (a:=an82) (l:=la82) (gC ok20 (gN))
end Go.Am
end
section
namespace Go.Am
open D12
def eLf (fl:List Int→Bool) (l:List Int):List D:=[.list (fl l) 1 (z1a l)]
def v24 (fl:List Int→Bool) (d:List (List Int)):List (List D):=d.map (eLf fl)
variable {fl fl':List Int→Bool}
theorem v43 {fl:List Int→Bool} {l:List Cd} {i:Nat} {c:Cd} (h:l[i]?=some c):(l.map (eC fl))[i]?=some (eC fl c):=by
 rw [eAg,h]; rfl
theorem u3f {l:List Int} {i:Nat} {c:Int} (h:l[i]?=some c):(l.map eI)[i]?=some (eI c):=by
 rw [eAg,h]; rfl
theorem u6b {fl:List Int→Bool} {l:List Cd} {i:Nat} {c:Cd} (h:l[i]?=some c):std.rdF (l.map (eC fl)) i 2 1=fl c.t:=by
 show dF 1 (((l.map (eC fl))[i]?.bind fun r=>r[2]?).getD .nilp)=_
 rw [v43 h]; exact w79 c
theorem v9g (l:List Int):z3k [CK.list 1] (eLf fl l)=true:=rfl
theorem u8s (l:List Int):dL ((eLf fl l)[0]?.getD D.nilp)=z1a l:=rfl
theorem v6l {α:Type} [DecidableEq α] {a b:List α} (d:α) (h:a.length=b.length):((List.range a.length).any fun i=>!decide (a.getD i d=b.getD i d))=!decide (a=b):=by
 rw [eCu,eCz]
 simp only [eBy,decide_eq_false_iff_not,eBo]
 constructor
 ·rintro ⟨i,hi,hne⟩ rfl; exact hne rfl
 ·intro hne
  refine Decidable.byContradiction fun hno=>hne (List.ext_getElem h fun i h1 h2=>?_)
  have:=Decidable.byContradiction fun hh=>hno ⟨i,h1,hh⟩
  simpa [eCi,h1,h2] using this
theorem eqL {α:Type} [DecidableEq α] (ea eb:List α→List (List D)) (he:∀ l,(ea l).length=l.length) (hf:∀ l,(eb l).length=l.length)
  {b:(List (List D)×(List (List D)×(Int×Unit)))→Option ((List (List D)×(List (List D)×(Int×Unit)))⊕((Bool×Unit)⊕Unit))} (a c:List α) (d:α)
  (step:∀ (i:Nat) m m',a[i]?=some m→c[i]?=some m'→(i:Int)<a.length→(i:Int)<c.length→b (ea a,(eb c,((i:Int),())))=if (!decide (m=m'))=true then some (.inr (.inl (false,()))) else some (.inl (ea a,(eb c,(((i+1:Nat):Int),())))))
  (stop:¬ (a.length:Int)<a.length→b (ea a,(eb c,((a.length:Int),())))=some (.inr (.inr ()))):
  opt.ask _ (std.cmp .neq (std.ofNat (std.len (ea a))) (std.ofNat (std.len (eb c)))) (opt.ret _ (false,())) (opt.alt (Bool×Unit) Unit _ (z5r b (ea a,(eb c,((0:Int),())))) (fun y=>opt.ret _ (y.1,())) (fun y=>opt.bnd Unit _ (some y) fun _=>opt.ret _ (true,())))=some (decide (a=c),()):=by
 by_cases hl:a.length=c.length
 ·have key:=z9b (b:=b) a.length (fun i=>(ea a,(eb c,((i:Int),())))) (fun i=>!decide (a.getD i d=c.getD i d)) (.inl (false,())) (.inr ()) (fun i hi=>by
   obtain ⟨m,hm⟩:=z1v hi
   obtain ⟨m',hm'⟩:=z1v (l:=c) (i:=i) (by omega)
   rw [z2h hm,z2h hm']
   exact step i m m' hm hm' (by omega) (by omega)) (stop (by omega))
  have key:z5r b (ea a,(eb c,((0:Int),())))=_:=key
  rw [v6l d hl] at key
  have hc:std.cmp .neq (std.ofNat (std.len (ea a))) (std.ofNat (std.len (eb c)))=false:=by simp [std,z3o,he,hf,hl]
  rw [hc,key]
  by_cases e:a=c
  ·simp [e,opt]
  ·simp [e,opt]
 ·have hne:a≠c:=fun h=>hl (by rw [h])
  have hc:std.cmp .neq (std.ofNat (std.len (ea a))) (std.ofNat (std.len (eb c)))=true:=by simp [std,z3o,he,hf]; omega
  rw [hc]
  simp [hne,opt]
theorem u5e (a b:List Int) (ha:a.length≤1000000):G76 std (z1a a,(z1a b,()))=some (decide (a=b),()):=by
 unfold G76
 refine eqL z1a z1a z00 z00 a b 0 (fun i m m' hm hm' hlt hlb=>?_) (fun hn=>?_)
 ·obtain ⟨hw,h0⟩:=stp i (by omega)
  simp only [u2a,z2d,z2e,z0p,z1a,z5s,y4y,z4b,Int.reduceLT,Int.reduceEq,Int.reduceLE,hm,hm',hlt,hlb,h0,hw]
 ·simp only [u2a,z2d,z2e,z0p,z1a,z5s,y4y,hn]
theorem v5o (l:List Th):(z5s l).length=l.length:=by simp [z5s]
theorem v6p (d:List (List Int)):(v24 fl d).length=d.length:=by simp [v24]
theorem u5p (a b:List Th) (ha:a.length≤1000000):G26 std (z5s a,(z5s b,()))=some (decide (a=b),()):=by
 unfold G26
 refine eqL z5s z5s v5o v5o a b default (fun i m m' hm hm' hlt hlb=>?_) (fun hn=>?_)
 ·obtain ⟨hw,h0⟩:=stp i (by omega)
  obtain ⟨n1,v1,h1,o1⟩:=m
  obtain ⟨n2,v2,h2,o2⟩:=m'
  simp only [u2d,z2d,z2e,z0p,z1a,z5s,y4y,z4b,Int.reduceLT,Int.reduceEq,Int.reduceLE,hm,hm',hlt,hlb,h0,hw,Th.mk.injEq,u0u,v7n]
  by_cases e1:n1=n2<;>by_cases e2:v1=v2<;>by_cases e3:h1=h2<;>cases o1<;>cases o2<;>simp [e1,e2,e3]
 ·simp only [u2d,z2d,z2e,z0p,z1a,z5s,y4y,hn]
theorem u5o (a b:List (List Int)) (ha:a.length≤1000000) (hr:∀ l∈a,l.length≤1000000):G33 std (v24 fl a,(v24 fl' b,()))=some (decide (a=b),()):=by
 unfold G33
 refine eqL (v24 fl) (v24 fl') v6p v6p a b [] (fun i m m' hm hm' hlt hlb=>?_) (fun hn=>?_)
 ·obtain ⟨hw,h0⟩:=stp i (by omega)
  have h76:=u5e m m' (hr m (eAu hm))
  simp only [u2c,z2d,z2e,v24,v9g,u8s,z4b,Int.reduceLT,Int.reduceEq,Int.reduceLE,hm,hm',hlt,hlb,h0,hw,h76]
  by_cases e:m=m'<;>simp [e]
 ·simp only [u2c,z2d,z2e,v24,hn]
theorem u0k (c d:Cd) (hc:c.t.length≤1000000):G77 std (c.n,(c.k,(z1a c.t,(c.a,(d.n,(d.k,(z1a d.t,(d.a,()))))))))=some (decide (c=d),()):=by
 obtain ⟨n1,k1,t1,a1⟩:=c
 obtain ⟨n2,k2,t2,a2⟩:=d
 simp only at hc⊢
 unfold G77
 by_cases e1:n1=n2
 ·by_cases e2:k1=k2
  ·by_cases e3:a1=a2
   ·subst e1 e2 e3
    by_cases hl:t1.length=t2.length
    ·have key:=z9b (b:=v8g std) t1.length (fun i=>(n1,(k1,(z1a t1,(a1,(n1,(k1,(z1a t2,(a1,((i:Int),())))))))))) (fun i=>!decide (t1.getD i 0=t2.getD i 0)) (.inl (false,())) (.inr ()) (fun i hi=>by
      obtain ⟨m,hm⟩:=z1v hi
      obtain ⟨m',hm'⟩:=z1v (l:=t2) (i:=i) (by omega)
      obtain ⟨hw,h0⟩:=stp i (by omega)
      have hlt:(i:Int)<t1.length:=by omega
      have hlb:(i:Int)<t2.length:=by omega
      simp only [z2h hm,z2h hm',v8g,z2d,z2e,z0p,z1a,z5s,y4y,z4b,Int.reduceLT,Int.reduceEq,Int.reduceLE,hm,hm',hlt,hlb,h0,hw]) (by
      have hn:¬ (t1.length:Int)<t1.length:=by omega
      simp only [v8g,z2d,z2e,z0p,z1a,z5s,y4y,hn])
     have key:z5r (v8g std) (n1,(k1,(z1a t1,(a1,(n1,(k1,(z1a t2,(a1,((0:Int),())))))))))=_:=key
     rw [v6l 0 hl] at key
     have hll:((t1.length:Nat):Int)=(t2.length:Nat):=by omega
     simp only [z2d,z2e,z00,z4b,Int.reduceLT,Int.reduceEq,Int.reduceLE,hll,key]
     by_cases e:t1=t2<;>simp [e]
    ·have hne:t1≠t2:=fun h=>hl (by rw [h])
     have hll:¬ ((t1.length:Nat):Int)=(t2.length:Nat):=by omega
     simp only [z2d,z2e,z00,z4b,Int.reduceLT,Int.reduceEq,Int.reduceLE,hll,Cd.mk.injEq,hne]
     simp
   ·simp only [z2d,z2e,z4b,Int.reduceLT,Int.reduceEq,Int.reduceLE,e1,e2,e3,Cd.mk.injEq]
    simp
  ·simp only [z2d,z2e,z4b,Int.reduceLT,Int.reduceEq,Int.reduceLE,e1,e2,Cd.mk.injEq]
   simp
 ·simp only [z2d,z2e,z4b,Int.reduceLT,Int.reduceEq,Int.reduceLE,e1,Cd.mk.injEq]
  simp
theorem u5n (a b:List Cd) (ha:a.length≤1000000) (hr:∀ c∈a,c.t.length≤1000000):G34 std (z0p fl a,(z0p fl' b,()))=some (decide (a=b),()):=by
 unfold G34
 refine eqL (z0p fl) (z0p fl') z2i z2i a b default (fun i m m' hm hm' hlt hlb=>?_) (fun hn=>?_)
 ·obtain ⟨hw,h0⟩:=stp i (by omega)
  have h77:=u0k m m' (hr m (eAu hm))
  simp only [u2b,z2d,z2e,z0p,z1a,z5s,y4y,z4b,Int.reduceLT,Int.reduceEq,Int.reduceLE,hm,hm',hlt,hlb,h0,hw]
  simp only [z1a] at h77
  simp only [h77,z2d,z2e]
  by_cases e:m=m'<;>simp [e]
 ·simp only [u2b,z2d,z2e,z0p,z1a,z5s,y4y,hn]
def atO (l:List Cd) (x:Int):Option Nat:=(List.range l.length).find? fun i=>decide ((l.getD i default).n=x)
def atI (l:List Cd) (x:Int):Int:=match atO l x with|some i=>(i:Int)|none=> -1
theorem v62 (l:List Cd) (x:Int) (hl:l.length≤1000000):G43 std (z0p fl l,(x,()))=some (atI l x,()):=by
 unfold G43 atI atO
 have key:=z62 (b:=v8o std) l.length (fun i=>(z0p fl l,(x,((i:Int),())))) (fun i=>decide ((l.getD i default).n=x)) (fun i=> .inl ((i:Int),())) (.inr ()) (fun i hi=>by
  obtain ⟨m,hm⟩:=z1v hi
  obtain ⟨hw,h0⟩:=stp i (by omega)
  have hlt:(i:Int)<l.length:=by omega
  simp only [z2h hm,v8o,z2d,z2e,z0p,z1a,z5s,y4y,z4b,Int.reduceLT,Int.reduceEq,Int.reduceLE,hm,hlt,h0,hw]) (by
  have hn:¬ (l.length:Int)<l.length:=by omega
  simp only [v8o,z2d,z2e,z0p,z1a,z5s,y4y,hn])
 have key:z5r (v8o std) (z0p fl l,(x,((0:Int),())))=_:=key
 simp only [z2d,z2e,key]
 cases (List.range l.length).find? fun i=>decide ((l.getD i default).n=x)<;>rfl
theorem v9q (c d:Cd) (i:Nat) (m:Int) (hm:c.t[i]?=some m) (hd:d.t.length≤1000000):
  z5r (v8m std) (c.n,(c.k,(z1a c.t,(c.a,(d.n,(d.k,(z1a d.t,(d.a,((i:Int),((0:Int),()))))))))))=some (if d.t.contains m=true then .inl (true,()) else .inr (c.n,(c.k,(z1a c.t,(c.a,(d.n,(d.k,(z1a d.t,(d.a,((i:Int),())))))))))):=by
 have key:=z9b (b:=v8m std) d.t.length (fun j=>(c.n,(c.k,(z1a c.t,(c.a,(d.n,(d.k,(z1a d.t,(d.a,((i:Int),((j:Int),()))))))))))) (fun j=>decide (m=d.t.getD j 0)) (.inl (true,())) (.inr (c.n,(c.k,(z1a c.t,(c.a,(d.n,(d.k,(z1a d.t,(d.a,((i:Int),())))))))))) (fun j hj=>by
  obtain ⟨m',hm'⟩:=z1v hj
  have hw:=w0a (i:=j) (by omega)
  have h0:(0:Int)≤i:=by omega
  have h0':(0:Int)≤j:=by omega
  have hlt:(j:Int)<d.t.length:=by omega
  simp only [z2h hm',v8m,z2d,z2e,z0p,z1a,z5s,y4y,z4b,Int.reduceLT,Int.reduceEq,Int.reduceLE,hm,hm',hlt,h0,h0',hw]) (by
  have hn:¬ (d.t.length:Int)<d.t.length:=by omega
  simp only [v8m,z2d,z2e,z0p,z1a,z5s,y4y,hn])
 have e:((List.range d.t.length).any fun j=>decide (m=d.t.getD j 0))=d.t.contains m:=by
  rw [x21 d.t 0 fun x=>decide (m=x),List.contains_eq_any_beq]
  congr 1
 rw [e] at key
 exact key
theorem u0n (c d:Cd) (hc:c.t.length≤1000000) (hd:d.t.length≤1000000):G44 std (c.n,(c.k,(z1a c.t,(c.a,(d.n,(d.k,(z1a d.t,(d.a,()))))))))=some (tch c d,()):=by
 unfold G44
 have key:=z9b (b:=v8n std) c.t.length (fun i=>(c.n,(c.k,(z1a c.t,(c.a,(d.n,(d.k,(z1a d.t,(d.a,((i:Int),())))))))))) (fun i=>d.t.contains (c.t.getD i 0)) (.inl (true,())) (.inr ()) (fun i hi=>by
  obtain ⟨m,hm⟩:=z1v hi
  obtain ⟨hw,h0⟩:=stp i (by omega)
  have hlt:(i:Int)<c.t.length:=by omega
  have h2:=v9q c d i m hm hd
  simp only [z1a] at h2
  simp only [z2h hm,v8n,z2d,z2e,z0p,z1a,z5s,y4y,z4b,Int.reduceLT,Int.reduceEq,Int.reduceLE,hm,hlt,h0,hw,h2]
  cases hq:d.t.contains m<;>simp [hw]) (by
  have hn:¬ (c.t.length:Int)<c.t.length:=by omega
  simp only [v8n,z2d,z2e,z0p,z1a,z5s,y4y,hn])
 have key:z5r (v8n std) (c.n,(c.k,(z1a c.t,(c.a,(d.n,(d.k,(z1a d.t,(d.a,((0:Int),())))))))))=_:=key
 rw [x21 c.t 0 fun x=>d.t.contains x] at key
 have e:(c.t.any fun x=>d.t.contains x)=tch c d:=rfl
 rw [e] at key
 simp only [z2d,z2e,key]
 cases tch c d<;>rfl
end Go.Am
end
section
namespace Go.Am
def eY (n:Int):List D:=[.int .u8 n]
def v5x (l:List Int):List (List D):=l.map eY
theorem v6s (n:Int):z3k [CK.int IntKind.u8] (eY n)=true:=rfl
theorem u3y (n:Int):dI ((eY n)[0]?.getD D.nilp)=n:=rfl
theorem v3g (l:List Int):(v5x l).length=l.length:=by simp [v5x]
end Go.Am
end
