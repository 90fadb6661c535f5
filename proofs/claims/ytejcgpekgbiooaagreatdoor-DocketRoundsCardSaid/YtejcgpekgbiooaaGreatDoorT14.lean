/- Texts of this claim. -/
import Derived.Test.YtejcgpekgbiooaaGreatDoorT13
import Derived.Test.YtejcgpekgbiooaaGreatDoorProg
import Derived.KernelRfl
set_option linter.unusedVariables false
set_option linter.unusedSimpArgs false
set_option linter.unusedSectionVars false
set_option maxRecDepth 100000
set_option maxHeartbeats 0
open Bool renaming eq_iff_iff → eCu,false_eq_true → eAi,not_eq_true' → eBy,and_self → eDq,and_true → eCc,and_eq_true → eAb,not_false → eCq
open List renaming mem_cons_of_mem → eCm,mem_cons → eAz,mem_cons_self → eBq,mem_filter → eDa,length_cons → eBi,pairwise_cons → eBl,length_eq_zero_iff → eBn,idxOf_lt_length_iff → eDo,getElem_idxOf → eDf,pairwise_iff_getElem → eCa,find?_some → eDu,mem_of_find?_eq_some → eDb,mem_iff_getElem → eDe,map_cons → eDc,cons_append → eDw,getElem?_cons_succ → eCe,foldl_cons → eDr,getD_eq_getElem?_getD → eCi,getElem?_eq_getElem → eAa,getElem_mem → eCp,mem_of_mem_take → eDs,mem_append_left → eDj,nodup_append → eDn,mem_map → eBb,getElem?_eq_some_iff → eAd,length_take → eBv,mem_of_getLast? → eDl,mem_append → eBj,mem_singleton → eBe,getElem?_map → eAg,any_eq_true → eCz,mem_range → eBo,ext_getElem? → eBd,drop_drop → eCw,map_append → eDt,idxOf_lt_length_of_mem → eDd,length_map → eBt,mem_of_getElem? → eAu,getElem?_replicate → eCf,take_length → eDg,drop_zero → eDi,append_assoc → eCg,append_nil → eCn,getElem?_set → eBm,map_nil → eDh,take_add_one → eDp,take_of_length_le → eDm,getElem?_range → eDx,getElem?_append_left → eBz,getElem?_append_right → eCv,getElem?_eq_none → eCt,length_append → eBu,getElem?_cons_zero → eCo
open Nat renaming le_refl → eAk,pow_lt_pow_right → eDv,lt_of_lt_of_le → eAn,mod_eq_of_lt → eCy,zero_le → eAv,zero_add → eAp,add_zero → eAt,lt_or_ge → eBw,le_trans → eBf
open Option renaming map_some → eBh,getD_some → eBk
open Int renaming toNat_natCast → eCh
open Go.Proofs.Tryz renaming prog → PG
section
namespace Go.Am
def autoEnvD (own:List Nat) (P:Program):Env:=⟨w69 P,infoOf P,w8k P,w8j P,z3r P,fun g=>!x37 g own,true,false,fun _=>false,false,fun _=>none⟩
theorem autoEnvD_ok {own:List Nat} {P:Program} (hm:P.follows .mixedOrders=true):EnvOk P (autoEnvD own P) where
 ti:=fun t ti h=>x71 h
 gl:=fun _ _ h=>by first|exact h|cases h
 fn:=fun g i h=>y4d h
 code:=fun g pos c h=>h
 mixed:=hm
end Go.Am
end
section
namespace Go.Am.D12
theorem v8p (c d:Cd):tch c d=tch d c:=by
 rw [eCu,w32,w32]
 constructor<;>rintro ⟨x,h1,h2⟩<;>exact ⟨x,h2,h1⟩
theorem v3y {l:List Cd}:v2h l=none↔l=[]:=by
 cases l with
 |nil=>simp [v2h]
 |cons c l=>
  simp only [v2h,reduceCtorEq,iff_false]
  split
  ·simp
  ·split<;>simp
theorem z53 {l:List Cd} {c:Cd} (h:v2h l=some c):c∈l∧∀ d∈l,c.n≤d.n:=by
 induction l generalizing c with
 |nil=>cases h
 |cons x l ih=>
  simp only [v2h] at h
  split at h
  ·rename_i h0
   cases h
   have:=v3y.1 h0
   subst this
   simp
  ·rename_i d h0
   obtain ⟨h1,h2⟩:=ih h0
   split at h
   ·cases h
    refine ⟨eCm _ h1,fun e he=>?_⟩
    rcases eAz.1 he with rfl|he
    ·omega
    ·exact h2 e he
   ·cases h
    refine ⟨eBq,fun e he=>?_⟩
    rcases eAz.1 he with rfl|he
    ·omega
    ·have:=h2 e he; omega
theorem u0r {l:List Cd} {c:Cd} (hi:Inj l):v2h l=some c↔c∈l∧∀ d∈l,c.n≤d.n:=by
 refine ⟨z53,fun ⟨h1,h2⟩=>?_⟩
 cases h:v2h l with
 |none=>rw [v3y.1 h] at h1; cases h1
 |some d=>
  obtain ⟨h3,h4⟩:=z53 h
  have:=h2 d h3
  have:=h4 c h1
  rw [hi c h1 d h3 (by omega)]
section
variable (R:Cd→Cd→Bool)
theorem z31 {rem:List Cd} {c:Cd}:w7p R rem c=true↔∀ d∈rem,R d c=false:=by
 simp [w7p]
theorem v36 {rem:List Cd} {c:Cd} (hi:Inj rem):best R rem=some c↔c∈rem∧(∀ d∈rem,R d c=false)∧∀ d∈rem,(∀ e∈rem,R e d=false)→c.n≤d.n:=by
 unfold best
 rw [u0r (hi.sub fun x hx=>(eDa.1 hx).1)]
 simp only [eDa,z31]
 constructor
 ·rintro ⟨⟨h1,h2⟩,h3⟩
  exact ⟨h1,h2,fun d hd he=>h3 d ⟨hd,he⟩⟩
 ·rintro ⟨h1,h2,h3⟩
  exact ⟨⟨h1,h2⟩,fun d hd=>h3 d hd.1 hd.2⟩
theorem v5p {rem:List Cd}:best R rem=none↔∀ c∈rem,∃ d∈rem,R d c=true:=by
 unfold best
 rw [v3y,List.filter_eq_nil_iff]
 simp [w7p]
theorem v4r {R S:Cd→Cd→Bool} {r s:List Cd} (hi:Inj r) (hm:∀ x,x∈r↔x∈s) (hf:∀ x∈r,(∀ d∈r,R d x=false)↔(∀ d∈s,S d x=false)):best R r=best S s:=by
 have hj:Inj s:=hi.sub fun x hx=>(hm x).2 hx
 apply Option.ext
 intro c
 rw [v36 R hi,v36 S hj]
 constructor
 ·rintro ⟨h1,h2,h3⟩
  exact ⟨(hm c).1 h1,(hf c h1).1 h2,fun d hd he=>h3 d ((hm d).2 hd) ((hf d ((hm d).2 hd)).2 he)⟩
 ·rintro ⟨h1,h2,h3⟩
  have h1':=(hm c).2 h1
  exact ⟨h1',(hf c h1').2 h2,fun d hd he=>h3 d ((hm d).1 hd) ((hf d hd).1 he)⟩
theorem z44 {c d:Cd} {l:List Cd}:d∈rm c l↔d∈l∧d≠c:=by simp [rm]
theorem v5d {c:Cd} {l:List Cd} (hn:l.Nodup) (hc:c∈l):(rm c l).length+1=l.length:=by
 induction l with
 |nil=>cases hc
 |cons x l ih=>
  obtain ⟨hx,hn⟩:=List.nodup_cons.1 hn
  by_cases e:x=c
  ·subst e
   have:rm x (x::l)=l:=by
    simp only [rm,List.filter_cons,decide_true,Bool.not_true,eAi,if_false]
    rw [List.filter_eq_self]
    intro d hd
    have:d≠x:=fun e=>hx (e▸hd)
    simp [this]
   rw [this]; rfl
  ·have hc':c∈l:=by
    rcases eAz.1 hc with h|h
    ·exact absurd h.symm e
    ·exact h
   have:=ih hn hc'
   have e2:rm c (x::l)=x::rm c l:=by simp [rm,List.filter_cons,e]
   rw [e2,eBi,eBi,this]
theorem v43 (f:Nat) (rem:List Cd):∀ x∈lst R f rem,x∈rem:=by
 induction f generalizing rem with
 |zero=>intro x hx; cases hx
 |succ f ih=>
  intro x hx
  simp only [lst] at hx
  split at hx
  ·cases hx
  ·rename_i c hb
   rcases eAz.1 hx with rfl|hx
   ·exact (eDa.1 (z53 hb).1).1
   ·exact (z44.1 (ih _ x hx)).1
theorem v5o {R:Cd→Cd→Bool} {l:List Cd} (h:Lin R l) (hne:l≠[]):∃ c,best R l=some c:=by
 cases hb:best R l with
 |some c=>exact ⟨c,rfl⟩
 |none=>
  exfalso
  cases l with
  |nil=>exact hne rfl
  |cons x l=>
   obtain ⟨d,hd,hr⟩:=(v5p R).1 hb x eBq
   rcases eAz.1 hd with rfl|hd
   ·rw [h.2 d eBq] at hr; cases hr
   ·rw [(eBl.1 h.1).1 d hd] at hr; cases hr
theorem u0t {R:Cd→Cd→Bool} {l:List Cd} (h:Lin R l) (hn:l.Nodup):∀ x,x∈lst R l.length l↔x∈l:=by
 intro x
 refine ⟨v43 R _ _ x,?_⟩
 generalize hf:l.length=f
 induction f generalizing l with
 |zero=>intro hx; rw [eBn.1 hf] at hx; cases hx
 |succ f ih=>
  intro hx
  obtain ⟨c,hb⟩:=v5o h (fun e=>by rw [e] at hf; cases hf)
  have hc:c∈l:=(eDa.1 (z53 hb).1).1
  simp only [lst,hb]
  by_cases e:x=c
  ·rw [e]; exact eBq
  ·refine eCm _ (ih (h.filter _) (hn.sublist List.filter_sublist) ?_ (z44.2 ⟨hx,e⟩))
   have:=v5d hn hc
   show (rm c l).length=f
   omega
theorem v7u {f:Nat} {l:List Cd}:(lst R f l).Nodup:=by
 induction f generalizing l with
 |zero=>exact List.nodup_nil
 |succ f ih=>
  simp only [lst]
  split
  ·exact List.nodup_nil
  ·rename_i c hb
   refine List.nodup_cons.2 ⟨fun h=>?_,ih⟩
   exact (z44.1 (v43 R _ _ _ h)).2 rfl
theorem u0u {R:Cd→Cd→Bool} {f:Nat} {l:List Cd} (hirr:∀ x∈l,R x x=false):Lin R (lst R f l):=by
 refine ⟨?_,fun x hx=>hirr x (v43 R _ _ x hx)⟩
 induction f generalizing l with
 |zero=>exact List.Pairwise.nil
 |succ f ih=>
  simp only [lst]
  split
  ·exact List.Pairwise.nil
  ·rename_i c hb
   have hm:=eDa.1 (z53 hb).1
   refine List.Pairwise.cons (fun y hy=>?_) (ih fun x hx=>hirr x (z44.1 hx).1)
   exact (z31 R).1 hm.2 y (z44.1 (v43 R _ _ y hy)).1
theorem z51 {l m:List Cd} (h1:l.Nodup) (h2:m.Nodup) (h:∀ x,x∈l↔x∈m):l.Perm m:=(List.perm_ext_iff_of_nodup h1 h2).2 h
theorem v8v {R:Cd→Cd→Bool} {l:List Cd} (h:Lin R l) (hn:l.Nodup):(lst R l.length l).Perm l:=z51 (v7u R) hn (u0t h hn)
theorem v7v {R S:Cd→Cd→Bool} (f:Nat) {r s:List Cd} (hi:Inj r) (hm:∀ x,x∈r↔x∈s) (hR:∀ x∈r,∀ y∈r,R x y=S x y):lst R f r=lst S f s:=by
 induction f generalizing r s with
 |zero=>rfl
 |succ f ih=>
  simp only [lst]
  have hb:best R r=best S s:=v4r hi hm fun x hx=>
   ⟨fun h d hd=>by rw [←hR d ((hm d).2 hd) x hx]; exact h d ((hm d).2 hd),fun h d hd=>by rw [hR d hd x hx]; exact h d ((hm d).1 hd)⟩
  rw [hb]
  split
  ·rfl
  ·rename_i c _
   congr 1
   exact ih (hi.sub fun x hx=>(z44.1 hx).1) (fun x=>by rw [z44,z44,hm x]) fun x hx y hy=>hR x (z44.1 hx).1 y (z44.1 hy).1
theorem v5j {R S:Cd→Cd→Bool} (l0:List Cd) (h1:∀ x∈l0,∀ y∈l0,R x y=true→S x y=true) (h2:∀ x∈l0,∀ y∈l0,S x y=true→R x y=true∨∃ z∈l0,S x z=true∧R z y=true) (hi:Inj l0):
  ∀ (f:Nat) (rem:List Cd),(∀ x∈rem,x∈l0)→(∀ x∈l0,∀ y∈l0,y∉rem→S x y=true→x∉rem)→lst R f rem=lst S f rem
 |0,_,_,_=>rfl
 |f+1,rem,hs,hc=>by
  simp only [lst]
  have hfree:∀ x∈rem,(∀ d∈rem,R d x=false)↔(∀ d∈rem,S d x=false):=by
   intro x hx
   constructor
   ·intro h d hd
    cases hS:S d x with
    |false=>rfl
    |true=>
     exfalso
     rcases h2 d (hs d hd) x (hs x hx) hS with hr|⟨z,hz,hz1,hz2⟩
     ·rw [h d hd] at hr; cases hr
     ·have hzn:z∉rem:=fun hzr=>by rw [h z hzr] at hz2; cases hz2
      exact hc d (hs d hd) z hz hzn hz1 hd
   ·intro h d hd
    cases hR:R d x with
    |false=>rfl
    |true=>have:=h1 d (hs d hd) x (hs x hx) hR; rw [h d hd] at this; cases this
  have hb:best R rem=best S rem:=v4r (hi.sub hs) (fun _=>Iff.rfl) hfree
  rw [hb]
  split
  ·rfl
  ·rename_i c hbc
   have hm:=eDa.1 (z53 hbc).1
   congr 1
   refine v5j l0 h1 h2 hi f _ (fun x hx=>hs x (z44.1 hx).1) ?_
   intro x hx y hy hyn hS hxr
   obtain ⟨hxq,hxc⟩:=z44.1 hxr
   by_cases hyc:y=c
   ·subst hyc
    rw [(z31 S).1 hm.2 x hxq] at hS
    cases hS
   ·exact hc x hx y hy (fun h=>hyn (z44.2 ⟨h,hyc⟩)) hS hxq
end
end Go.Am.D12
end
section
namespace Go.Am.D12
theorem v7z {l:List Cd} {x y:Cd} (hx:x∈l) (h:l.idxOf x=l.idxOf y):x=y:=by
 have h1:=eDo.2 hx
 have h2:l.idxOf y<l.length:=by omega
 have a:=eDf h1
 have b:=eDf h2
 rw [←a, ←b]; congr 1
theorem u2q {P:Cd→Cd→Prop} {l:List Cd} (hp:l.Pairwise P) {x y:Cd} (hx:x∈l) (hy:y∈l) (h:l.idxOf x<l.idxOf y):P x y:=by
 have h1:=eDo.2 hx
 have h2:=eDo.2 hy
 have:=eCa.1 hp _ _ h1 h2 h
 rwa [eDf,eDf] at this
theorem v52 {l:List Cd} (hn:l.Nodup):Lin (ord l) l:=by
 refine ⟨x7h hn fun x _ y _ h=>?_,fun x _=>?_⟩
 ·have:¬ l.idxOf y<l.idxOf x:=by omega
  simp [ord,this]
 ·simp [ord]
theorem v3e {l:List Cd} {x y:Cd} (hx:x∈l) (hne:x≠y) (h:tch x y=true):ord l x y=true∨ord l y x=true:=by
 rw [x2a,x2a,v8p y x]
 have:l.idxOf x≠l.idxOf y:=fun e=>hne (v7z hx e)
 rcases Nat.lt_or_gt_of_ne this with h1|h1
 ·exact .inl ⟨h,h1⟩
 ·exact .inr ⟨h,h1⟩
theorem v6i {l:List Cd} {x y:Cd} (h:ord l x y=true):x≠y:=fun e=>by
 have:=(x2a.1 h).2; rw [e] at this; omega
theorem v4o {a m:List Cd} (hp:a.Perm m) (hn:a.Nodup) (hl:Lin (ord a) m):Eqv a m:=by
 have hm:m.Nodup:=hp.nodup_iff.1 hn
 have key:∀ x∈a,∀ y∈a,ord a x y=true→ord m x y=true:=fun x hx y hy h=>by
  rcases v3e (l:=m) (hp.mem_iff.1 hx) (v6i h) (x2a.1 h).1 with h1|h1
  ·exact h1
  ·have:=u2q hl.1 (hp.mem_iff.1 hy) (hp.mem_iff.1 hx) (x2a.1 h1).2
   rw [h] at this; cases this
 refine ⟨hp,fun x hx y hy=>?_⟩
 cases h:ord a x y with
 |true=>exact (key x hx y hy h).symm
 |false=>
  cases h1:ord m x y with
  |false=>rfl
  |true=>
   rcases v3e hx (v6i h1) (x2a.1 h1).1 with h2|h2
   ·rw [h] at h2; cases h2
   ·have:=x7q (key y hy x hx h2); rw [h1] at this; cases this
def z25 (l:List Cd):List Cd:=lst (ord l) l.length l
theorem z76 {l:List Cd} (hn:l.Nodup):Eqv l (z25 l):=
 v4o (v8v (v52 hn) hn).symm hn (u0u (v52 hn).2)
theorem v3h {a b:List Cd} (hi:Inj a) (h:Eqv a b):z25 a=z25 b:=by
 unfold z25
 rw [h.1.length_eq]
 exact v7v _ hi (fun x=>h.1.mem_iff) h.2
theorem v46 {a b:List Cd} (hi:Inj a) (ha:a.Nodup) (hp:a.Perm b):z25 a=z25 b↔Eqv a b:=by
 refine ⟨fun h=>?_,v3h hi⟩
 exact (z76 ha).trans (h▸(z76 (hp.nodup_iff.1 ha)).symm)
theorem u2v {p q:List Cd} {x:Cd} (hx:x∉p):(p++x::q).idxOf x=p.length:=by
 rw [List.idxOf_append,if_neg hx]; simp
end Go.Am.D12
end
section
namespace Go.Am.D12
theorem v21 {c:Cd}:z3d c=0↔z6x c.n∧z3a c.k≠0∧c.t.length=z3a c.k∧(∀ x∈c.t,z6x x)∧c.t.Nodup∧w1p c.k c.a:=by
 unfold z3d
 constructor
 ·intro h
  repeat' split at h
  all_goals first|(exfalso; omega)|skip
  rename_i h1 h2 h3 h4 h5
  simp only [not_or,Decidable.not_not] at h1 h2 h4 h5
  refine ⟨h1.1,h1.2,h2,fun x hx=>Decidable.byContradiction fun hn=>h3 ⟨x,hx,hn⟩,h4,h5⟩
 ·rintro ⟨h1,h2,h3,h4,h5,h6⟩
  rw [if_neg (by simp only [not_or,Decidable.not_not]; exact ⟨h1,h2⟩),if_neg (by simpa using h3),if_neg (by rintro ⟨x,hx,hn⟩; exact hn (h4 x hx)),if_neg (by simpa using h5),if_neg (by simpa using h6)]
theorem z80 {l:List Cd}:z4y l=0↔l.length≤60∧(∀ c∈l,z3d c=0)∧(l.map (·.n)).Nodup:=by
 unfold z4y
 split
 ·constructor
  ·intro h; omega
  ·intro h; omega
 ·rename_i hlen
  split
  ·rename_i c hc
   have h1:=eDu hc
   have h2:=eDb hc
   simp at h1
   constructor
   ·intro h; exact absurd h h1
   ·intro h; exact absurd (h.2.1 c h2) h1
  ·rename_i hc
   rw [List.find?_eq_none] at hc
   have hc':∀ c∈l,z3d c=0:=fun c h=>by simpa using hc c h
   split
   ·rename_i hn; exact ⟨fun _=>⟨by omega,hc',hn⟩,fun _=>rfl⟩
   ·rename_i hn; exact ⟨fun h=>by omega,fun h=>absurd h.2.2 hn⟩
theorem z28 {l:List Cd} (h:(l.map (·.n)).Nodup):l.Nodup:=by
 rw [List.nodup_iff_pairwise_ne] at h⊢
 rw [List.pairwise_map] at h
 exact h.imp fun h e=>h (by rw [e])
theorem z21 {l:List Cd} (h:(l.map (·.n)).Nodup):Inj l:=by
 intro x hx y hy e
 obtain ⟨i,hi,rfl⟩:=eDe.1 hx
 obtain ⟨j,hj,rfl⟩:=eDe.1 hy
 have:=(List.getElem_inj (xs:=l.map (·.n)) (i:=i) (j:=j) (h₀:=by simpa using hi) (h₁:=by simpa using hj) h).1 (by simpa using e)
 subst this; rfl
def fnd (b:List Th) (x:Int):Option Th:=b.find? fun t=>decide (t.num=x)
def v23 (b:List Th) (c:Cd):List Th:=
 if errC (fnd b) c≠0 then b
 else if c.k=1 then b++[⟨x0 c,c.a,0,false⟩]
 else if c.k=4 then upd b (x0 c) (v17 (fnd b) c)++[⟨x1 c,x92 (fnd b) (x0 c),0,false⟩]
 else upd b (x0 c) (v17 (fnd b) c)
theorem v3c (s:Sf) (c:Cd) (t:Th):(v17 s c t).num=t.num:=by
 unfold v17; repeat' split
 all_goals rfl
theorem v54 {b:List Th} {x:Int} {f:Th→Th} (hf:∀ t,(f t).num=t.num) (y:Int):fnd (upd b x f) y=if y=x then (fnd b y).map f else fnd b y:=by
 induction b with
 |nil=>simp [fnd,upd]
 |cons t b ih=>
  simp only [fnd,upd,eDc,List.find?_cons] at ih⊢
  by_cases h1:t.num=x
  ·rw [if_pos h1]
   by_cases h2:t.num=y
   ·have h3:y=x:=by omega
    have h4:(f t).num=y:=by rw [hf,h2]
    simp [h2,h3,h4,hf,h1]
   ·have h4:¬ (f t).num=y:=by rw [hf]; exact h2
    have e4:decide ((f t).num=y)=false:=by simpa using h4
    have e2:decide (t.num=y)=false:=by simpa using h2
    simp only [e4,e2]
    exact ih
  ·rw [if_neg h1]
   by_cases h2:t.num=y
   ·have h3:¬ y=x:=by omega
    simp [h2,h3]
   ·have e2:decide (t.num=y)=false:=by simpa using h2
    simp only [e2]
    exact ih
theorem v55 {b:List Th} {t:Th} (h:fnd b t.num=none) (y:Int):fnd (b++[t]) y=if y=t.num then some t else fnd b y:=by
 unfold fnd at*
 rw [List.find?_append]
 by_cases e:y=t.num
 ·subst e; rw [h]; simp
 ·rw [if_neg e]
  have:decide (t.num=y)=false:=by simpa using fun h=>e h.symm
  simp [this]
theorem v83 (b:List Th) (c:Cd) (hk:z3a c.k≠0) (hne:c.k=4→x0 c≠x1 c):fnd (v23 b c)=after (fnd b) c:=by
 unfold v23 after
 split
 ·rfl
 ·rename_i he
  have he:errC (fnd b) c=0:=by simpa using he
  split
  ·rename_i h1
   funext y
   refine v55 (t:=⟨x0 c,c.a,0,false⟩) ?_ y
   unfold errC at he
   rw [if_pos h1] at he
   cases hq:fnd b (x0 c) with
   |none=>rfl
   |some t=>rw [hq] at he; simp at he
  ·rename_i h1
   split
   ·rename_i h4
    funext y
    have hx1:fnd b (x1 c)=none:=by
     unfold errC at he
     rw [if_neg h1] at he
     split at he
     ·rename_i hh; exact absurd he hh
     ·simp only [h4,Int.reduceEq,if_false,if_true] at he
      cases hq:fnd b (x1 c) with
      |none=>rfl
      |some t=>rw [hq] at he; simp at he
    rw [v55 (t:=⟨x1 c,x92 (fnd b) (x0 c),0,false⟩)]
    ·show (if y=x1 c then _ else _)=_
     split
     ·rfl
     ·exact v54 (v3c _ _) y
    ·show fnd _ (x1 c)=none
     rw [v54 (v3c _ _),if_neg (fun e=>hne h4 e.symm)]
     exact hx1
   ·funext y
    exact v54 (v3c _ _) y
def z37 (l:List Cd):List Th:=l.foldl v23 []
def v3k:Sf→List Cd→List Int
 |_,[]=>[]
 |s,c::l=>errC s c::v3k (after s c) l
theorem v4v (p:List Cd) (c:Cd):st (p++[c])=after (st p) c:=by simp [st]
theorem v85 {s:Sf} {p q:List Cd} {c:Cd}:(v3k s (p++c::q))[p.length]?=some (errC (p.foldl after s) c):=by
 induction p generalizing s with
 |nil=>rfl
 |cons d p ih=>simp only [eDw,v3k,eBi,eCe,eDr]; exact ih
theorem z59 (s:Sf) (l:List Cd):(v3k s l).length=l.length:=by
 induction l generalizing s with
 |nil=>rfl
 |cons c l ih=>simp [v3k,ih]
def Wf (c:Cd):Prop:=z3a c.k≠0∧c.t.length=z3a c.k∧c.t.Nodup
theorem u0c {c:Cd} (h:z3d c=0):Wf c:=by
 obtain ⟨_,h2,h3,_,h5,_⟩:=v21.1 h
 exact ⟨h2,h3,h5⟩
theorem v7d {c:Cd} (h:Wf c):x0 c∈c.t:=by
 have:0<c.t.length:=by rw [h.2.1]; exact Nat.pos_of_ne_zero h.1
 unfold x0
 rw [eCi,eAa this]
 exact eCp _
theorem v6d {c:Cd} (h:Wf c) (h1:1<z3a c.k):x1 c∈c.t:=by
 have:1<c.t.length:=by rw [h.2.1]; exact h1
 unfold x1
 rw [eCi,eAa this]
 exact eCp _
theorem u2i {c:Cd} (h:Wf c) (h1:2<z3a c.k):x2 c∈c.t:=by
 have:2<c.t.length:=by rw [h.2.1]; exact h1
 unfold x2
 rw [eCi,eAa this]
 exact eCp _
theorem u2j {c:Cd} (h:Wf c) (h1:1<z3a c.k):x0 c≠x1 c:=by
 have hl:1<c.t.length:=by rw [h.2.1]; exact h1
 unfold x0 x1
 rw [eCi,eCi,eAa hl,eAa (by omega:0<c.t.length)]
 intro e
 have:=(List.getElem_inj h.2.2).1 e
 omega
theorem v3g {s s':Sf}:∀ {l:List Int},(∀ y∈l,s y=s' y)→x2h s l=x2h s' l
 |[],_=>rfl
 |x::l,h=>by
  have hx:w6m s x=w6m s' x:=by unfold w6m; rw [h x eBq]
  simp only [x2h,hx,v3g fun y hy=>h y (eCm _ hy)]
theorem v7p {c:Cd}:∀ y∈needs c,y∈c.t:=by
 intro y hy
 unfold needs at hy
 split at hy
 ·exact hy
 ·exact eDs hy
theorem v4n {s s':Sf} {c:Cd} (hw:Wf c) (h:∀ y∈c.t,s y=s' y):errC s c=errC s' c:=by
 have e0:=h _ (v7d hw)
 have en:=v3g fun y hy=>h y (v7p (c:=c) y hy)
 unfold errC hrsS x92
 rw [e0,en]
 rcases y35 hw.1 with ⟨hk,hm⟩|⟨hk,hm⟩|⟨hk,hm⟩
 ·rcases hk with hk|hk|hk<;>simp [hk]
 ·rw [h _ (v6d hw (by omega))]
  rcases hk with hk|hk<;>simp [hk]
 ·rw [h _ (v6d hw (by omega)),h _ (u2i hw (by omega))]
theorem v6a {s s':Sf} {c:Cd} (hw:Wf c) (h:∀ y∈c.t,s y=s' y):∀ y∈c.t,after s c y=after s' c y:=by
 intro y hy
 have e:=v4n hw h
 have e0:=h _ (v7d hw)
 have ey:=h y hy
 have ht:∀ t,v17 s c t=v17 s' c t:=by
  intro t
  unfold v17 x92
  rcases y35 hw.1 with ⟨hk,hm⟩|⟨hk,hm⟩|⟨hk,hm⟩
  ·rcases hk with hk|hk|hk<;>simp [hk]
  ·rw [h _ (v6d hw (by omega))]
  ·simp [hk]
 have ht':v17 s c=v17 s' c:=funext ht
 unfold after
 rw [e]
 have ev:x92 s (x0 c)=x92 s' (x0 c):=by unfold x92; rw [e0]
 repeat' split
 all_goals simp_all
theorem v59 {s:Sf} {c:Cd} (hw:Wf c) {y:Int} (hy:y∉c.t):after s c y=s y:=by
 have h0:y≠x0 c:=fun e=>hy (e▸v7d hw)
 unfold after
 split
 ·rfl
 ·split
  ·simp [h0]
  ·split
   ·rename_i h4
    have h1:y≠x1 c:=fun e=>hy (e▸v6d hw (by simp [z3a,h4]))
    simp [h0,h1]
   ·simp [h0]
theorem v3d {p q:List Cd} (hw:∀ c∈q,Wf c) {y:Int} (hy:on y q=[]):st (p++q) y=st p y:=by
 induction q generalizing p with
 |nil=>simp
 |cons c q ih=>
  have hc:y∉c.t:=fun h=>by
   have:c∈on y (c::q):=x3y.2 ⟨eBq,h⟩
   rw [hy] at this; cases this
  have hq:on y q=[]:=by
   unfold on at hy⊢
   rw [List.filter_eq_nil_iff] at hy⊢
   exact fun d hd=>hy d (eCm _ hd)
  have e:p++c::q=(p++[c])++q:=by simp
  rw [e,ih (fun d hd=>hw d (eCm _ hd)) hq,v4v,v59 (hw c eBq) hc]
theorem v4m (x:Int) (p:List Cd):on x p=[]∨∃ p1 e p2,p=p1++e::p2∧x∈e.t∧on x p2=[]∧on x p=on x p1++[e]:=by
 induction p with
 |nil=>exact .inl rfl
 |cons c p ih=>
  rcases ih with h|⟨p1,e,p2,rfl,h1,h2,h3⟩
  ·by_cases hc:x∈c.t
   ·refine .inr ⟨[],c,p,rfl,hc,h,?_⟩
    have:on x (c::p)=c::on x p:=by simp [on,hc]
    rw [this,h]; rfl
   ·left
    have:on x (c::p)=on x p:=by simp [on,hc]
    rw [this,h]
  ·refine .inr ⟨c::p1,e,p2,rfl,h1,h2,?_⟩
   by_cases hc:x∈c.t
   ·have a:on x (c::(p1++e::p2))=c::on x (p1++e::p2):=by simp [on,hc]
    have b:on x (c::p1)=c::on x p1:=by simp [on,hc]
    rw [a,b,h3]; rfl
   ·have a:on x (c::(p1++e::p2))=on x (p1++e::p2):=by simp [on,hc]
    have b:on x (c::p1)=on x p1:=by simp [on,hc]
    rw [a,b,h3]
def u8d (S:Cd→Prop) (a b:List Cd):Prop:=
 ∀ e p r p' r',S e→a=p++e::r→b=p'++e::r'→∀ y∈e.t,on y p=on y p'∧∀ f∈on y p,S f
theorem u1b {S:Cd→Prop} {a b:List Cd} (ha:∀ c∈a,Wf c) (hb:∀ c∈b,Wf c) (H:u8d S a b):∀ (n:Nat) (p r p' r':List Cd),p.length≤n→a=p++r→b=p'++r'→∀ x,on x p=on x p'→(∀ e∈on x p,S e)→st p x=st p' x:=by
 intro n
 induction n with
 |zero=>
  intro p r p' r' hn e1 e2 x ho _
  have:p=[]:=eBn.1 (by omega)
  subst this
  have h0:on x p'=[]:=by rw [←ho]; rfl
  have:=v3d (p:=[]) (fun c hc=>hb c (by rw [e2]; exact eDj _ hc)) h0
  simpa using this.symm
 |succ n ih=>
  intro p r p' r' hn e1 e2 x ho hS
  have hwp:∀ c∈p,Wf c:=fun c hc=>ha c (by rw [e1]; exact eDj _ hc)
  have hwp':∀ c∈p',Wf c:=fun c hc=>hb c (by rw [e2]; exact eDj _ hc)
  rcases v4m x p with h|⟨p1,e,p2,rfl,hx,h2,h3⟩
  ·have h':on x p'=[]:=by rw [←ho]; exact h
   have a1:=v3d (p:=[]) hwp h
   have a2:=v3d (p:=[]) hwp' h'
   simp only [List.nil_append] at a1 a2
   rw [a1,a2]
  ·rcases v4m x p' with h'|⟨q1,f,q2,rfl,hx',h2',h3'⟩
   ·rw [←ho,h3] at h'; simp at h'
   ·have hef:e=f:=by
     rw [h3,h3'] at ho
     have:=congrArg List.getLast? ho
     simpa using this
    subst hef
    have hSe:S e:=hS e (by rw [h3]; simp)
    have key:∀ y∈e.t,st p1 y=st q1 y:=fun y hy=>by
     have hH:=H e p1 (p2++r) q1 (q2++r') hSe (by rw [e1]; simp) (by rw [e2]; simp) y hy
     exact ih p1 (e::p2++r) q1 (e::q2++r') (by simp at hn; omega) (by rw [e1]; simp) (by rw [e2]; simp) y hH.1 hH.2
    have hwe:Wf e:=hwp e (by simp)
    have c1:p1++e::p2=(p1++[e])++p2:=by simp
    have c2:q1++e::q2=(q1++[e])++q2:=by simp
    rw [c1,c2,v3d (fun c hc=>hwp c (by simp [hc])) h2,v3d (fun c hc=>hwp' c (by simp [hc])) h2',v4v,v4v]
    exact v6a hwe key x hx
theorem v8y {S:Cd→Prop} {a b:List Cd} (ha:∀ c∈a,Wf c) (hb:∀ c∈b,Wf c) (H:u8d S a b) {p r p' r':List Cd} {e:Cd} (hS:S e) (h1:a=p++e::r) (h2:b=p'++e::r'):errC (st p) e=errC (st p') e:=by
 refine v4n (ha e (by rw [h1]; simp)) fun y hy=>?_
 have:=H e p r p' r' hS h1 h2 y hy
 exact u1b ha hb H _ p (e::r) p' (e::r') (eAk _) h1 h2 y this.1 this.2
theorem v4h {α:Type}:∀ {l1 l2 r1 r2:List α} {e:α},l1++e::r1=l2++e::r2→e∉l1→e∉l2→l1=l2
 |[],[],_,_,_,_,_,_=>rfl
 |[],y::l2,_,_,e,h,_,h2=>by
  simp only [List.nil_append,eDw,List.cons.injEq] at h
  exact absurd (h.1▸eBq) h2
 |x::l1,[],_,_,e,h,h1,_=>by
  simp only [List.nil_append,eDw,List.cons.injEq] at h
  exact absurd (h.1▸eBq) h1
 |x::l1,y::l2,_,_,e,h,h1,h2=>by
  simp only [eDw,List.cons.injEq] at h
  rw [h.1,v4h h.2 (fun h=>h1 (eCm _ h)) (fun h=>h2 (eCm _ h))]
theorem v3f (x:Int) (p q:List Cd):on x (p++q)=on x p++on x q:=by simp [on]
theorem v4z {x:Int} {e:Cd} (h:x∈e.t) (q:List Cd):on x (e::q)=e::on x q:=by simp [on,h]
theorem v4k {x:Int} {p:List Cd} {c:Cd} (h:c∈on x p):c∈p:=(x3y.1 h).1
theorem v8z {a b:List Cd} (hn:a.Nodup) (h:Eqv a b):u8d (fun _=>True) a b:=by
 intro e p r p' r' _ h1 h2 y hy
 refine ⟨?_,fun _ _=>trivial⟩
 have ho:=h.on hn y
 have hb:b.Nodup:=h.1.nodup_iff.1 hn
 rw [h1,h2,v3f,v3f,v4z hy,v4z hy] at ho
 refine v4h ho (fun hm=>?_) fun hm=>?_
 ·rw [h1] at hn
  exact (eDn.1 hn).2.2 e (v4k hm) e eBq rfl
 ·rw [h2] at hb
  exact (eDn.1 hb).2.2 e (v4k hm) e eBq rfl
end Go.Am.D12
end
section
namespace Go.Am.D12
def mxs (F:Cd→Nat):List Cd→Nat
 |[]=>0
 |c::l=>max (F c) (mxs F l)
theorem v4l {F:Cd→Nat} {l:List Cd} {m:Nat}:mxs F l≤m↔∀ c∈l,F c≤m:=by
 induction l with
 |nil=>simp [mxs]
 |cons c l ih=>simp only [mxs,Nat.max_le,ih,eAz,forall_eq_or_imp]
theorem v28 {F:Cd→Nat} {l:List Cd} {c:Cd} (h:c∈l):F c≤mxs F l:=v4l.1 (eAk _) c h
theorem v7r {F:Cd→Nat} {l:List Cd} (h:0<mxs F l):∃ c∈l,F c=mxs F l:=by
 induction l with
 |nil=>simp [mxs] at h
 |cons c l ih=>
  simp only [mxs] at h⊢
  by_cases e:mxs F l≤F c
  ·exact ⟨c,eBq,by omega⟩
  ·obtain ⟨d,hd,he⟩:=ih (by omega)
   exact ⟨d,eCm _ hd,by omega⟩
theorem v63 (F:Cd→Nat) (p q:List Cd):mxs F (p++q)=max (mxs F p) (mxs F q):=by
 induction p with
 |nil=>simp [mxs]
 |cons c p ih=>simp only [eDw,mxs,ih]; omega
theorem v5i {F G:Cd→Nat} {l m:List Cd} (hm:∀ x,x∈l↔x∈m) (h:∀ x∈l,F x=G x):mxs F l=mxs G m:=by
 apply Nat.le_antisymm
 ·exact v4l.2 fun c hc=>by rw [h c hc]; exact v28 ((hm c).1 hc)
 ·exact v4l.2 fun c hc=>by rw [←h c ((hm c).2 hc)]; exact v28 ((hm c).2 hc)
def Rd (l:List Cd) (F:Cd→Nat):Prop:=∀ c∈l,F c=mxs F (l.filter fun d=>ord l d c)+1
def rdk (l:List Cd):Nat→Cd→Nat
 |0,_=>0
 |k+1,c=>mxs (rdk l k) (l.filter fun d=>ord l d c)+1
def z63 (l:List Cd):Cd→Nat:=rdk l l.length
theorem v3o (l:List Cd):∀ (i k:Nat) (c:Cd),c∈l→l.idxOf c≤i→i<k→rdk l k c=rdk l (i+1) c:=by
 intro i
 induction i using Nat.strongRecOn with
 |_ i ih=>
  intro k c hc hi hk
  cases k with
  |zero=>omega
  |succ k=>
   simp only [rdk]
   congr 1
   refine v5i (fun _=>Iff.rfl) fun d hd=>?_
   have ho:=(x2a.1 (eDa.1 hd).2).2
   have hdl:=(eDa.1 hd).1
   have a:=ih (l.idxOf d) (by omega) k d hdl (eAk _) (by omega)
   have b:=ih (l.idxOf d) (by omega) i d hdl (eAk _) (by omega)
   rw [a,b]
theorem v4y (l:List Cd):Rd l (z63 l):=by
 intro c hc
 have hlt:=eDo.2 hc
 have h:=v3o l (l.idxOf c) l.length c hc (eAk _) hlt
 unfold z63
 rw [h]
 show mxs _ _+1=_
 congr 1
 refine v5i (fun _=>Iff.rfl) fun d hd=>?_
 have ho:=(x2a.1 (eDa.1 hd).2).2
 have hdl:=(eDa.1 hd).1
 rw [v3o l (l.idxOf d) (l.idxOf c) d hdl (eAk _) ho,v3o l (l.idxOf d) l.length d hdl (eAk _) (by omega)]
theorem v8r {l:List Cd} {F:Cd→Nat} (hF:Rd l F) {c d:Cd} (hd:d∈l) (hc:c∈l) (h:ord l d c=true):F d<F c:=by
 rw [hF c hc]
 exact Nat.lt_succ_of_le (v28 (eDa.2 ⟨hd,h⟩))
theorem u2o {l:List Cd} {F:Cd→Nat} (hF:Rd l F) {c:Cd} (hc:c∈l):0<F c:=by rw [hF c hc]; omega
theorem v7n {l:List Cd} {F:Cd→Nat} (hF:Rd l F) {c:Cd} (hc:c∈l) {m:Nat} (h:F c=m+2):∃ d∈l,ord l d c=true∧F d=m+1:=by
 rw [hF c hc] at h
 obtain ⟨d,hd,he⟩:=v7r (F:=F) (l:=l.filter fun d=>ord l d c) (by omega)
 exact ⟨d,(eDa.1 hd).1,(eDa.1 hd).2,by omega⟩
def v26 (l:List Cd) (F:Cd→Nat) (m:Nat):List Int:=srt ((l.filter fun c=>decide (F c=m)).map (·.n))
def z20 (l:List Cd):List (List Int):=(List.range (mxs (z63 l) l)).map fun m=>v26 l (z63 l) (m+1)
theorem v4x {l:List Cd} {F:Cd→Nat} {m:Nat} {x:Int}:x∈v26 l F m↔∃ c∈l,F c=m∧c.n=x:=by
 unfold v26
 rw [(srt_perm _).mem_iff,eBb]
 constructor
 ·rintro ⟨c,hc,rfl⟩
  have:=eDa.1 hc
  exact ⟨c,this.1,by simpa using this.2,rfl⟩
 ·rintro ⟨c,h1,h2,rfl⟩
  exact ⟨c,eDa.2 ⟨h1,by simpa using h2⟩,rfl⟩
theorem u2p {l:List Cd} {F:Cd→Nat} (hF:Rd l F):∀ (j m:Nat),j≤m→(∃ c∈l,F c=m+1)→∃ c∈l,F c=m - j+1:=by
 intro j
 induction j with
 |zero=>intro m _ h; exact h
 |succ j ih=>
  intro m hm h
  obtain ⟨c,hc,he⟩:=ih m (by omega) h
  obtain ⟨d,hd,_,hf⟩:=v7n hF hc (m:=m - (j+1)) (by omega)
  exact ⟨d,hd,hf⟩
theorem u0i {l:List Cd} {F:Cd→Nat} (hF:Rd l F) {m:Nat} (hm:m<mxs F l):v26 l F (m+1)≠[]:=by
 obtain ⟨c,hc,he⟩:=v7r (F:=F) (l:=l) (by omega)
 obtain ⟨d,hd,hf⟩:=u2p hF (mxs F l - 1 - m) (mxs F l - 1) (by omega) ⟨c,hc,by omega⟩
 have:d.n∈v26 l F (m+1):=v4x.2 ⟨d,hd,by omega,rfl⟩
 intro e; rw [e] at this; cases this
theorem v3a {l m:List Cd} (hn:l.Nodup) (hp:l.Perm m) (hm:m.Pairwise fun x y=>z63 l x≤z63 l y):Eqv l m:=by
 refine v4o hp hn ⟨?_,fun x _=>by simp [ord]⟩
 refine hm.imp_of_mem fun {x y} hx hy h=>?_
 cases hh:ord l y x with
 |false=>rfl
 |true=>have:=v8r (v4y l) (hp.mem_iff.2 hy) (hp.mem_iff.2 hx) hh; omega
end Go.Am.D12
end
section
namespace Go.Am
section
variable (es l:List (List D)) (i j a b n:Nat) (x y:Int) (c d:Bool)
theorem u0e:std.bEq c d=(c==d):=rfl
theorem v50:std.cmp .eql x y=decide (x=y):=rfl
theorem v61:std.ar .mul .i64 x y=IntKind.i64.wrap (x*y):=rfl
theorem v4g:std.ar .quo .i64 x y=IntKind.i64.wrap (x.tdiv y):=rfl
theorem v60:std.ar .rem .i64 x y=x.tmod y:=rfl
end
end Go.Am
namespace Go.Am
theorem v6m {α:Type} {l:List α} {i:Nat} {m:α} (h:l[i]?=some m):l.drop i=m::l.drop (i+1):=by
 obtain ⟨h1,h2⟩:=eAd.1 h
 rw [List.drop_eq_getElem_cons h1,h2]
end Go.Am
end
section
namespace Go.Am.D12
theorem Tc.last {B:Cd→Cd→Bool} {x y:Cd} (h:Tc B x y):B x y=true∨∃ z,Tc B x z∧B z y=true:=by
 cases h with
 |one h=>exact .inl h
 |step h k=>exact .inr ⟨_,h,k⟩
theorem v5e {l p r:List Cd} {c:Cd} (h:l=p++c::r) (hc:c∉p):pre l c=p:=by
 subst h
 unfold pre
 rw [u2v hc]; simp
theorem split_at {l:List Cd} {c:Cd} (hc:c∈l):∃ r,l=pre l c++c::r:=by
 have hlt:=eDo.2 hc
 refine ⟨l.drop (l.idxOf c+1),?_⟩
 unfold pre
 conv=>lhs; rw [←List.take_append_drop (l.idxOf c) l,List.drop_eq_getElem_cons hlt,eDf]
theorem v41 {l:List Cd} {c d:Cd} (hd:d∈l):d∈pre l c↔l.idxOf d<l.idxOf c:=by
 unfold pre
 constructor
 ·intro h
  obtain ⟨i,hi,he⟩:=eDe.1 h
  have hi':=hi
  rw [eBv] at hi
  rw [List.getElem_take] at he
  have:l.idxOf d≤i:=by
   refine Nat.le_of_not_lt fun hlt=>?_
   have:=List.not_of_lt_findIdx (p:=(· ==d)) (xs:=l) (i:=i) hlt
   rw [he] at this
   simp at this
  omega
 ·intro h
  have hlt:=eDo.2 hd
  have e:(l.take (l.idxOf c))[l.idxOf d]'(by rw [eBv]; omega)=d:=by
   rw [List.getElem_take,eDf]
  exact e▸eCp _
def ltc (l:List Cd) (d c:Cd):Bool:=decide (c∈l)&&c.t.any fun x=>decide ((on x (pre l c)).getLast?=some d)
theorem v29 {l:List Cd} {d c:Cd}:ltc l d c=true↔c∈l∧∃ x∈c.t,(on x (pre l c)).getLast?=some d:=by simp [ltc]
theorem v7o {l:List Cd} {c d:Cd} (h:d∈pre l c):d∈l:=eDs h
theorem v7t {l:List Cd} {d c:Cd} (h:ltc l d c=true):ord l d c=true∧d∈l:=by
 obtain ⟨hc,x,hx,hl⟩:=v29.1 h
 have hd:=eDl hl
 have hdp:=x3y.1 hd
 have hdl:=v7o hdp.1
 exact ⟨x2a.2 ⟨w32.2 ⟨x,hdp.2,hx⟩,(v41 hdl).1 hdp.1⟩,hdl⟩
theorem u0o {l:List Cd} (hn:l.Nodup) {d c:Cd} (hd:d∈l) (hc:c∈l) (h:ord l d c=true):ltc l d c=true∨∃ z∈l,ord l d z=true∧ltc l z c=true:=by
 obtain ⟨ht,hlt⟩:=x2a.1 h
 obtain ⟨x,hxd,hxc⟩:=w32.1 ht
 have hdo:d∈on x (pre l c):=x3y.2 ⟨(v41 hd).2 hlt,hxd⟩
 cases hl:(on x (pre l c)).getLast? with
 |none=>rw [List.getLast?_eq_none_iff] at hl; rw [hl] at hdo; cases hdo
 |some z=>
  have hz:=eDl hl
  have hzl:=v7o (x3y.1 hz).1
  have hlz:ltc l z c=true:=v29.2 ⟨hc,x,hxc,hl⟩
  by_cases e:d=z
  ·subst e; exact .inl hlz
  ·right
   refine ⟨z,hzl,x2a.2 ⟨w32.2 ⟨x,hxd,(x3y.1 hz).2⟩,?_⟩,hlz⟩
   have hpw:(on x (pre l c)).Pairwise fun u v=>l.idxOf u<l.idxOf v:=((w29 hn).sublist (List.take_sublist _ _)).filter _
   obtain ⟨q,hq⟩:∃ q,on x (pre l c)=q++[z]:=⟨_,List.getLast?_eq_some_iff.1 hl|>.choose_spec⟩
   rw [hq] at hpw hdo
   rcases eBj.1 hdo with h1|h1
   ·exact (List.pairwise_append.1 hpw).2.2 d h1 z eBq
   ·exact absurd (eBe.1 h1) e
instance (a b:List Cd):Decidable (unkn a b):=inferInstanceAs (Decidable (∃ x,x∈w55 a b∧∃ y,y∈w55 a b∧x≠y∧tch x y=true∧kn a b x y=false∧kn a b y x=false))
instance (a b:List Cd):Decidable (circ a b):=inferInstanceAs (Decidable (∃ x,x∈w55 a b∧kn a b x x=true))
end Go.Am.D12
end
noncomputable section
namespace Go.Am
theorem vD : EnvOk PG (autoEnvD [] PG) := autoEnvD_ok follows_mixed
theorem vE1000003 : EnvOk PG (autoEnvE [1000003] PG) := autoEnvE_ok follows_mixed
theorem vE1000004 : EnvOk PG (autoEnvE [1000004] PG) := autoEnvE_ok follows_mixed

abbrev q0m : OT := .box [.int .i64, .int .i64, .list 1, .int .i64]
abbrev q1m : OT := .box [.int .i64, .int .i64, .int .i64, .bool]
abbrev q2m : OT := .row [(CK.int .u64), (CK.int .u64)]
abbrev q3m : OT := .box [.sl 1 4, .map 2, .full 3 2]
abbrev q4m : OT := .box [.sl 2 4, .map 3, .full 4 2]
abbrev q5m : OT := .row [ci, ci, (CK.list 1), ci]
abbrev q6m : OT := .box [.sl 1 4, .map 2, .nils]
abbrev q7m : OT := .box [.int .u64, .int .u64]
abbrev q8m : OT := .row [(CK.list 1)]
abbrev q9m : OT := .box [.bptr 0 0]
abbrev q10m : OT := .box [.int .i64]
abbrev q11m : OT := .row [ci]
abbrev q12m : List OT := [q4m, .map, q5m, .map, q2m]
abbrev q13m : List OT := [q3m, q5m, .map, q2m]
abbrev q14m : List OT := [q8m, q5m, q5m, q5m]
abbrev q15m : List OT := [q6m, q5m, .map]
abbrev q16m : List OT := [.map, q8m, q0m]
abbrev tT := true
abbrev fF := false
abbrev W0w := (Int×Unit)
abbrev W34w := (Int×W0w)
abbrev W6w := (LD×W34w)
abbrev W1w := (LD×(Int×(Int×W6w)))
abbrev W21w := (D×D)
abbrev W12w := (Int×(Int×W34w))
abbrev W22w := (Int×(Int×(Int×W12w)))
abbrev W2w := (LD×(List (W21w)×(LD×(LD×(Nat×(Nat×(Int×(Int×W22w))))))))
abbrev W3w := (Bool×Unit)
abbrev W4w := (List (W21w)×W0w)
abbrev W30w := (Int×(Int×(Int×(Bool×W0w))))
abbrev W5w := (LD×(LD×(LD×(LD×(LD×W30w)))))
abbrev W7w := (List (W21w)×(LD×(List (W21w)×(LD×(Nat×(Nat×(Int×(LD×(Int×(Int×W1w))))))))))
abbrev W8w := (List (W21w)×Unit)
abbrev W18w := (Int×(Int×(Int×W3w)))
abbrev W9w := (LD×(LD×(LD×(LD×(LD×W18w)))))
abbrev W10w := (List (W21w)×(LD×(List (W21w)×(LD×(Nat×(Nat×W1w))))))
abbrev W11w := (LD×(List (W21w)×(Nat×(Nat×(LD×W1w)))))
abbrev W13w := (Int×(Int×(LD×(Int×(Int×(Int×W6w))))))
abbrev W14w := (LD×Unit)
abbrev W15w := (LD×(List (W21w)×(LD×(Nat×(Nat×Unit)))))
abbrev W16w := (LD×(LD×W0w))
abbrev W17w := (LD×(List (W21w)×(LD×(LD×(Nat×(Nat×Unit))))))
abbrev W19w := (List (W21w)×(LD×(Int×(Int×(LD×(Int×(Int×W1w)))))))
abbrev W20w := (LD×W6w)
abbrev W23w := (LD×(List (W21w)×(LD×(Nat×(Nat×W6w)))))
abbrev W24w := (Int×(Int×(LD×W0w)))
abbrev W25w := (List (W21w)×W6w)
abbrev W26w := (LD×(LD×W16w))
abbrev W27w := (List (W21w)×(LD×(Int×(Int×W1w))))
abbrev W28w := (List (W21w)×(LD×W20w))
abbrev W29w := (LD×W14w)
abbrev W31w := (List (W21w)×(LD×(Int×W1w)))
abbrev W32w := (List (W21w)×W20w)
abbrev W33w := (LD×(LD×(LD×W20w)))
abbrev W35w := (List (W21w)×W14w)
abbrev W36w := (Int×(Int×(LD×(Int×W24w))))
abbrev W37w := (Int×(Int×(LD×(Int×(Int×(Int×(LD×(Int×W34w))))))))
abbrev W38w := (Int×(Int×(LD×(Int×(Int×(Int×(LD×(Int×W3w))))))))
abbrev W39w := (List (W21w)×(Int×(Int×(LD×(Int×(Int×W14w))))))
abbrev W40w := (LD×(List (W21w)×(LD×(LD×(Nat×(Nat×W22w))))))
abbrev W41w := (LD×(List (W21w)×(LD×(LD×(Nat×(Nat×W12w))))))
abbrev W42w := (Nat×(Nat×W20w))
def u1g:Ctr:=
 ⟨43,[.list 4, .int .i64],[],[(.ret,⟨[(0, .int .i64)],[],1⟩)]⟩
def la43:List LA:=
 [⟨43,[fF,tT,fF,tT],0,⟨⟨[(0, .list 4),(1, .int .i64),(5, .int .i64)],[],20⟩,[(AX.ret,⟨[(4, .int .i64)],[],20⟩),((AX.exit 0),⟨[],[],20⟩)]⟩⟩]
def ja43:List JA:=
 []
def u7h:List CF:=
 []
def an43:Anns:=
 ⟨u7h,ja43,[]⟩
def v8j (p:Prim):W6w→Option (W6w⊕(W0w⊕Unit)):=
 fun a=>let A:=a.2.2.1; opt.run _ (
 opt.ask _ (p.cmp .lss A (p.ofNat (p.len a.1))) (
 opt.need _ (p.rowOk a.1 (p.nat A) [ci,ci,(CK.list 1),ci])<|
 opt.need _ (p.cmp .geq A (0:Int))<|
 opt.ask _ (p.cmp .eql (p.rdI a.1 (p.nat A) 0) a.2.1) (
 opt.ret _ (Sum.inr (Sum.inl a.2.2))) (
 opt.ret _ (Sum.inl (a.1,(a.2.1,((p.ar .add .i64 A (1:Int)),())))))) (
 opt.ret _ (Sum.inr (Sum.inr ()))))
def G43:(p:Prim)→(LD×W0w)→Option (W0w):=
 fun p x=>
 opt.alt (W0w) (Unit) _ (
 z5r (v8j p) (x.1,(x.2.1,((0:Int),())))) (fun a=>
 opt.ret _ a) (fun b=>
 opt.bnd (Unit) _ (some b) fun c=>
 opt.ret _ ((-1:Int),()))
theorem u8k:CtrOk PG u1g (G43 std):=okF vE (a:=an43) (l:=la43) (gN)
def u1f:Ctr:=
 ⟨44,[.agg [.int .i64, .int .i64, .list 1, .int .i64], .agg [.int .i64, .int .i64, .list 1, .int .i64]],[],[(.ret,⟨[(0, .bool)],[],1⟩)]⟩
def la44:List LA:=
 [⟨44,[fF,tT,fF,tT],0,⟨⟨[(2, .bptr 0 0),(3, .bptr 1 0),(5, .int .i64)],[q0m,q0m],32⟩,[(AX.ret,⟨[(4, .bool)],[],32⟩),((AX.exit 0),⟨[],[],32⟩)]⟩⟩,
 ⟨44,[fF,tT,fF,fF,tT,fF,fF,tT,fF,tT],0,⟨⟨[(2, .bptr 0 0),(3, .bptr 1 0),(5, .int .i64),(6, .int .i64)],[q0m,q0m],32⟩,[(AX.ret,⟨[(4, .bool)],[],32⟩),((AX.exit 2),⟨[(2, .bptr 0 0),(3, .bptr 1 0),(5, .int .i64)],[q0m,q0m],32⟩)]⟩⟩]
def ja44:List JA:=
 []
def u7g:List CF:=
 []
def an44:Anns:=
 ⟨u7g,ja44,[]⟩
def v8h (p:Prim):W37w→Option (W37w⊕(W3w⊕W13w)):=
 fun a=>let A:=a.2.2.2.2.2.2.2.2.2.1;let B:=a.2.2.2.2.2.2.2.2.1;let C:=a.2.2.2.2.2.2.1; opt.run _ (
 opt.ask _ (p.cmp .lss A (p.ofNat (p.len C))) (
 opt.need _ (p.rowOk a.2.2.1 (p.nat B) [ci])<|
 opt.need _ (p.cmp .geq B (0:Int))<|
 opt.need _ (p.rowOk C (p.nat A) [ci])<|
 opt.need _ (p.cmp .geq A (0:Int))<|
 opt.ask _ (p.cmp .eql (p.rdI a.2.2.1 (p.nat B) 0) (p.rdI C (p.nat A) 0)) (
 opt.ret _ (Sum.inr (Sum.inl (Bool.true,())))) (
 opt.ret _ (Sum.inl (a.1,(a.2.1,(a.2.2.1,(a.2.2.2.1,(a.2.2.2.2.1,(a.2.2.2.2.2.1,(C,(a.2.2.2.2.2.2.2.1,(B,((p.ar .add .i64 A (1:Int)),()))))))))))))) (
 opt.ret _ (Sum.inr (Sum.inr (a.1,(a.2.1,(a.2.2.1,(a.2.2.2.1,(a.2.2.2.2.1,(a.2.2.2.2.2.1,(C,(a.2.2.2.2.2.2.2.1,(B,())))))))))))))
def v8i (p:Prim):W13w→Option (W13w⊕(W3w⊕Unit)):=
 fun a=>opt.run _ (
 opt.ask _ (p.cmp .lss a.2.2.2.2.2.2.2.2.1 (p.ofNat (p.len a.2.2.1))) (
 opt.alt (W3w) (W13w) _ (
 z5r (v8h p) (a.1,(a.2.1,(a.2.2.1,(a.2.2.2.1,(a.2.2.2.2.1,(a.2.2.2.2.2.1,(a.2.2.2.2.2.2.1,(a.2.2.2.2.2.2.2.1,(a.2.2.2.2.2.2.2.2.1,((0:Int),()))))))))))) (fun b=>
 opt.ret _ (Sum.inr (Sum.inl b))) (fun c=>
 opt.bnd (W13w) _ (some c) fun d=>
 opt.ret _ (Sum.inl (d.1,(d.2.1,(d.2.2.1,(d.2.2.2.1,(d.2.2.2.2.1,(d.2.2.2.2.2.1,(d.2.2.2.2.2.2.1,(d.2.2.2.2.2.2.2.1,((p.ar .add .i64 d.2.2.2.2.2.2.2.2.1 (1:Int)),())))))))))))) (
 opt.ret _ (Sum.inr (Sum.inr ()))))
def G44:(p:Prim)→W36w→Option (W3w):=
 fun p x=>
 opt.alt (W3w) (Unit) _ (
 z5r (v8i p) (x.1,(x.2.1,(x.2.2.1,(x.2.2.2.1,(x.2.2.2.2.1,(x.2.2.2.2.2.1,(x.2.2.2.2.2.2.1,(x.2.2.2.2.2.2.2.1,((0:Int),())))))))))) (fun a=>
 opt.ret _ a) (fun b=>
 opt.bnd (Unit) _ (some b) fun c=>
 opt.ret _ (Bool.false,()))
theorem u8j:CtrOk PG u1f (G44 std):=okF vE (a:=an44) (l:=la44) (gN)
def u3m:Ctr:=
 ⟨77,[.agg [.int .i64, .int .i64, .list 1, .int .i64], .agg [.int .i64, .int .i64, .list 1, .int .i64]],[],[(.ret,⟨[(0, .bool)],[],1⟩)]⟩
def la77:List LA:=
 [⟨77,[fF,tT,fF,tT,tT],0,⟨⟨[(2, .bptr 0 0),(3, .bptr 1 0),(5, .int .i64)],[q0m,q0m],52⟩,[(AX.ret,⟨[(4, .bool)],[],52⟩),((AX.exit 0),⟨[],[],52⟩)]⟩⟩]
def ja77:List JA:=
 [⟨77,[fF,fF,tT],0,[(AX.normal,⟨[(2, .bptr 0 0),(3, .bptr 1 0),(33, .bool)],[q0m,q0m],52⟩)]⟩]
def u6z:List CF:=
 []
def an77:Anns:=
 ⟨u6z,ja77,[]⟩
def v8b (p:Prim):W13w→Option (W13w⊕(W3w⊕Unit)):=
 fun a=>let A:=a.2.2.2.2.2.2.2.2.1;let B:=a.2.2.2.2.2.2.1;let C:=p.cmp .geq A (0:Int);let E:=p.nat A; opt.run _ (
 opt.ask _ (p.cmp .lss A (p.ofNat (p.len a.2.2.1))) (
 opt.need _ (p.rowOk a.2.2.1 E [ci])<|
 opt.need _ C<|
 opt.need _ (p.rowOk B E [ci])<|
 opt.need _ C<|
 opt.ask _ (p.cmp .neq (p.rdI a.2.2.1 E 0) (p.rdI B E 0)) (
 opt.ret _ (Sum.inr (Sum.inl (Bool.false,())))) (
 opt.ret _ (Sum.inl (a.1,(a.2.1,(a.2.2.1,(a.2.2.2.1,(a.2.2.2.2.1,(a.2.2.2.2.2.1,(B,(a.2.2.2.2.2.2.2.1,((p.ar .add .i64 A (1:Int)),())))))))))))) (
 opt.ret _ (Sum.inr (Sum.inr ()))))
def G77:(p:Prim)→W36w→Option (W3w):=
 fun p x=>let E:=x.2.2.2.2.2.1;let C:=x.2.2.2.2.2.2.1;let B:=x.2.2.2.2.2.2.2.1;let A:=(x.1,(x.2.1,(x.2.2.1,(x.2.2.2.1,(x.2.2.2.2.1,(E,(C,(B,(Bool.true,())))))))));
 opt.bnd (W38w) _ (
 opt.run (W38w) (
 opt.ask _ (p.cmp .neq x.1 x.2.2.2.2.1) (
 opt.ret _ A) (
 opt.ask _ (p.cmp .neq x.2.1 E) (
 opt.ret _ A) (
 opt.ask _ (p.cmp .neq x.2.2.2.1 B) (
 opt.ret _ A) (
 opt.ret _ (x.1,(x.2.1,(x.2.2.1,(x.2.2.2.1,(x.2.2.2.2.1,(E,(C,(B,((p.cmp .neq (p.ofNat (p.len x.2.2.1)) (p.ofNat (p.len C))),())))))))))))))) fun a=>
 opt.ask _ a.2.2.2.2.2.2.2.2.1 (
 opt.ret _ (Bool.false,())) (
 opt.alt (W3w) (Unit) _ (
 z5r (v8b p) (a.1,(a.2.1,(a.2.2.1,(a.2.2.2.1,(a.2.2.2.2.1,(a.2.2.2.2.2.1,(a.2.2.2.2.2.2.1,(a.2.2.2.2.2.2.2.1,((0:Int),())))))))))) (fun b=>
 opt.ret _ b) (fun c=>
 opt.bnd (Unit) _ (some c) fun d=>
 opt.ret _ (Bool.true,())))
theorem ok77:CtrOk PG u3m (G77 std):=okF vE (a:=an77) (l:=la77) (gN)
def F15:Prim→Tup (w8h).scs→Option (STup (scss (w8h).outs)):=
 fun p x=>G15 p x
def F20:Prim→Tup (w8f).scs→Option (STup (scss (w8f).outs)):=
 fun p x=>G20 p x
def u3s:Ctr:=
 ⟨41,[.list 4],[],[(.ret,⟨[(0, .bool)],[],1⟩)]⟩
def la41:List LA:=
 []
def ja41:List JA:=
 [⟨41,[fF,tT],0,[(AX.normal,⟨[(2, .bool)],[],11⟩)]⟩]
def u7i:List CF:=
 [⟨w8f,F20⟩,⟨w8h,F15⟩]
def an41:Anns:=
 ⟨u7i,ja41,[]⟩
def G41:(p:Prim)→W14w→Option (W3w):=
 fun p x=>
 opt.bnd (W3w) _ (
 opt.run (W3w) (
 opt.bnd (W3w) _ (G15 p x) fun a=>
 opt.ask _ (bif a.1 then Bool.false else Bool.true) (
 opt.bnd (W0w) _ (G20 p x) fun b=>
 opt.ret _ ((p.cmp .eql b.1 (0:Int)),())) (
 opt.ret _ (Bool.false,())))) fun c=>
 opt.ret _ c
theorem ok41:CtrOk PG u3s (G41 std):=okF vE (a:=an41) (l:=la41) (gC ok20 (gC ok15 (gN)))
def u3i:Ctr:=
 ⟨82,[.list 4, .list 4],[],[(.ret,⟨[(0, .int .i64)],[],1⟩)]⟩
def la82:List LA:=
 []
def ja82:List JA:=
 []
def u6u:List CF:=
 [⟨w8f,F20⟩]
def an82:Anns:=
 ⟨u6u,ja82,[]⟩
def G82:(p:Prim)→W29w→Option (W0w):=
 fun p x=>
 opt.bnd (W0w) _ (G20 p (x.1,())) fun a=>
 opt.ask _ (p.cmp .neq a.1 (0:Int)) (
 opt.bnd (W0w) _ (G20 p (x.1,())) fun b=>
 opt.ret _ b) (
 opt.bnd (W0w) _ (G20 p x.2) fun c=>
 opt.ret _ c)
theorem ok82:CtrOk PG u3i (G82 std):=okF vE (a:=an82) (l:=la82) (gC ok20 (gN))
end Go.Am
end
section
namespace Go.Am
open D12
def eLf (fl:List Int→Bool) (l:List Int):List D:=[.list (fl l) 1 (z1a l)]
def z35 (fl:List Int→Bool) (d:List (List Int)):List (List D):=d.map (eLf fl)
variable {fl fl':List Int→Bool}
theorem v3v {fl:List Int→Bool} {l:List Cd} {i:Nat} {c:Cd} (h:l[i]?=some c):(l.map (eC fl))[i]?=some (eC fl c):=by
 rw [eAg,h]; rfl
theorem u0h {l:List Int} {i:Nat} {c:Int} (h:l[i]?=some c):(l.map eI)[i]?=some (eI c):=by
 rw [eAg,h]; rfl
theorem u5n {fl:List Int→Bool} {l:List Cd} {i:Nat} {c:Cd} (h:l[i]?=some c):std.rdF (l.map (eC fl)) i 2 1=fl c.t:=by
 show dF 1 (((l.map (eC fl))[i]?.bind fun r=>r[2]?).getD .nilp)=_
 rw [v3v h]; exact w79 c
theorem v47 (l:List Int):z3k [CK.list 1] (eLf fl l)=true:=rfl
theorem u1c (l:List Int):dL ((eLf fl l)[0]?.getD D.nilp)=z1a l:=rfl
theorem v7q {α:Type} [DecidableEq α] {a b:List α} (d:α) (h:a.length=b.length):((List.range a.length).any fun i=>!decide (a.getD i d=b.getD i d))=!decide (a=b):=by
 rw [eCu,eCz]
 simp only [eBy,decide_eq_false_iff_not,eBo]
 constructor
 ·rintro ⟨i,hi,hne⟩ rfl; exact hne rfl
 ·intro hne
  refine Decidable.byContradiction fun hno=>hne (List.ext_getElem h fun i h1 h2=>?_)
  have:=Decidable.byContradiction fun hh=>hno ⟨i,h1,hh⟩
  simpa [eCi,h1,h2] using this
theorem u4n (c d:Cd) (hc:c.t.length≤1000000):G77 std (c.n,(c.k,(z1a c.t,(c.a,(d.n,(d.k,(z1a d.t,(d.a,()))))))))=some (decide (c=d),()):=by
 obtain ⟨n1,k1,t1,a1⟩:=c
 obtain ⟨n2,k2,t2,a2⟩:=d
 simp only at hc⊢
 unfold G77
 by_cases e1:n1=n2
 ·by_cases e2:k1=k2
  ·by_cases e3:a1=a2
   ·subst e1 e2 e3
    by_cases hl:t1.length=t2.length
    ·have key:=z9b (b:=v8b std) t1.length (fun i=>(n1,(k1,(z1a t1,(a1,(n1,(k1,(z1a t2,(a1,((i:Int),())))))))))) (fun i=>!decide (t1.getD i 0=t2.getD i 0)) (.inl (false,())) (.inr ()) (fun i hi=>by
      obtain ⟨m,hm⟩:=z1v hi
      obtain ⟨m',hm'⟩:=z1v (l:=t2) (i:=i) (by omega)
      obtain ⟨hw,h0⟩:=stp i (by omega)
      have hlt:(i:Int)<t1.length:=by omega
      have hlb:(i:Int)<t2.length:=by omega
      simp only [z2h hm,z2h hm',v8b,z2d,z2e,z0p,z1a,z5s,y4y,z4b,Int.reduceLT,Int.reduceEq,Int.reduceLE,hm,hm',hlt,hlb,h0,hw]) (by
      have hn:¬ (t1.length:Int)<t1.length:=by omega
      simp only [v8b,z2d,z2e,z0p,z1a,z5s,y4y,hn])
     have key:z5r (v8b std) (n1,(k1,(z1a t1,(a1,(n1,(k1,(z1a t2,(a1,((0:Int),())))))))))=_:=key
     rw [v7q 0 hl] at key
     have hll:((t1.length:Nat):Int)=(t2.length:Nat):=by omega
     simp only [z2d,z2e,z00,z4b,Int.reduceLT,Int.reduceEq,Int.reduceLE,hll,key]
     by_cases e:t1=t2<;>simp [e]
    ·have hne:t1≠t2:=fun h=>hl (by rw [h])
     have hll:¬ ((t1.length:Nat):Int)=(t2.length:Nat):=by omega
     simp only [z2d,z2e,z00,z4b,Int.reduceLT,Int.reduceEq,Int.reduceLE,hll,Cd.mk.injEq,hne]
     simp
   ·simp only [z2d,z2e,z4b,Int.reduceLT,Int.reduceEq,Int.reduceLE,e1,e2,e3,Cd.mk.injEq]
    simp
  ·simp only [z2d,z2e,z4b,Int.reduceLT,Int.reduceEq,Int.reduceLE,e1,e2,Cd.mk.injEq]
   simp
 ·simp only [z2d,z2e,z4b,Int.reduceLT,Int.reduceEq,Int.reduceLE,e1,Cd.mk.injEq]
  simp
def atO (l:List Cd) (x:Int):Option Nat:=(List.range l.length).find? fun i=>decide ((l.getD i default).n=x)
def atI (l:List Cd) (x:Int):Int:=match atO l x with|some i=>(i:Int)|none=> -1
theorem v5u (l:List Cd) (x:Int) (hl:l.length≤1000000):G43 std (z0p fl l,(x,()))=some (atI l x,()):=by
 unfold G43 atI atO
 have key:=z62 (b:=v8j std) l.length (fun i=>(z0p fl l,(x,((i:Int),())))) (fun i=>decide ((l.getD i default).n=x)) (fun i=> .inl ((i:Int),())) (.inr ()) (fun i hi=>by
  obtain ⟨m,hm⟩:=z1v hi
  obtain ⟨hw,h0⟩:=stp i (by omega)
  have hlt:(i:Int)<l.length:=by omega
  simp only [z2h hm,v8j,z2d,z2e,z0p,z1a,z5s,y4y,z4b,Int.reduceLT,Int.reduceEq,Int.reduceLE,hm,hlt,h0,hw]) (by
  have hn:¬ (l.length:Int)<l.length:=by omega
  simp only [v8j,z2d,z2e,z0p,z1a,z5s,y4y,hn])
 have key:z5r (v8j std) (z0p fl l,(x,((0:Int),())))=_:=key
 simp only [z2d,z2e,key]
 cases (List.range l.length).find? fun i=>decide ((l.getD i default).n=x)<;>rfl
theorem v9h (c d:Cd) (i:Nat) (m:Int) (hm:c.t[i]?=some m) (hd:d.t.length≤1000000):
  z5r (v8h std) (c.n,(c.k,(z1a c.t,(c.a,(d.n,(d.k,(z1a d.t,(d.a,((i:Int),((0:Int),()))))))))))=some (if d.t.contains m=true then .inl (true,()) else .inr (c.n,(c.k,(z1a c.t,(c.a,(d.n,(d.k,(z1a d.t,(d.a,((i:Int),())))))))))):=by
 have key:=z9b (b:=v8h std) d.t.length (fun j=>(c.n,(c.k,(z1a c.t,(c.a,(d.n,(d.k,(z1a d.t,(d.a,((i:Int),((j:Int),()))))))))))) (fun j=>decide (m=d.t.getD j 0)) (.inl (true,())) (.inr (c.n,(c.k,(z1a c.t,(c.a,(d.n,(d.k,(z1a d.t,(d.a,((i:Int),())))))))))) (fun j hj=>by
  obtain ⟨m',hm'⟩:=z1v hj
  have hw:=w0a (i:=j) (by omega)
  have h0:(0:Int)≤i:=by omega
  have h0':(0:Int)≤j:=by omega
  have hlt:(j:Int)<d.t.length:=by omega
  simp only [z2h hm',v8h,z2d,z2e,z0p,z1a,z5s,y4y,z4b,Int.reduceLT,Int.reduceEq,Int.reduceLE,hm,hm',hlt,h0,h0',hw]) (by
  have hn:¬ (d.t.length:Int)<d.t.length:=by omega
  simp only [v8h,z2d,z2e,z0p,z1a,z5s,y4y,hn])
 have e:((List.range d.t.length).any fun j=>decide (m=d.t.getD j 0))=d.t.contains m:=by
  rw [x21 d.t 0 fun x=>decide (m=x),List.contains_eq_any_beq]
  congr 1
 rw [e] at key
 exact key
theorem v5t (c d:Cd) (hc:c.t.length≤1000000) (hd:d.t.length≤1000000):G44 std (c.n,(c.k,(z1a c.t,(c.a,(d.n,(d.k,(z1a d.t,(d.a,()))))))))=some (tch c d,()):=by
 unfold G44
 have key:=z9b (b:=v8i std) c.t.length (fun i=>(c.n,(c.k,(z1a c.t,(c.a,(d.n,(d.k,(z1a d.t,(d.a,((i:Int),())))))))))) (fun i=>d.t.contains (c.t.getD i 0)) (.inl (true,())) (.inr ()) (fun i hi=>by
  obtain ⟨m,hm⟩:=z1v hi
  obtain ⟨hw,h0⟩:=stp i (by omega)
  have hlt:(i:Int)<c.t.length:=by omega
  have h2:=v9h c d i m hm hd
  simp only [z1a] at h2
  simp only [z2h hm,v8i,z2d,z2e,z0p,z1a,z5s,y4y,z4b,Int.reduceLT,Int.reduceEq,Int.reduceLE,hm,hlt,h0,hw,h2]
  cases hq:d.t.contains m<;>simp [hw]) (by
  have hn:¬ (c.t.length:Int)<c.t.length:=by omega
  simp only [v8i,z2d,z2e,z0p,z1a,z5s,y4y,hn])
 have key:z5r (v8i std) (c.n,(c.k,(z1a c.t,(c.a,(d.n,(d.k,(z1a d.t,(d.a,((0:Int),())))))))))=_:=key
 rw [x21 c.t 0 fun x=>d.t.contains x] at key
 have e:(c.t.any fun x=>d.t.contains x)=tch c d:=rfl
 rw [e] at key
 simp only [z2d,z2e,key]
 cases tch c d<;>rfl
end Go.Am
end
noncomputable section
namespace Go.Am
theorem u6t:GamOk PG (v05):=by
 intro cf h
 simp only [v05,eAz,List.not_mem_nil,or_false] at h
 rcases h with rfl|rfl
 ·exact w66
 ·exact w4e
def F56:Prim→Tup (w8e).scs→Option (STup (scss (w8e).outs)):=
 fun p x=>G56 p x
def F19:Prim→Tup (w8g).scs→Option (STup (scss (w8g).outs)):=
 fun p x=>G19 p x
def u3l:Ctr:=
 ⟨78,[.list 4, .list 4],[],[(.ret,⟨[(0, .int .i64)],[],1⟩)]⟩
def la78:List LA:=
 []
def ja78:List JA:=
 []
def u6y:List CF:=
 [⟨w8g,F19⟩]
def an78:Anns:=
 ⟨u6y,ja78,[]⟩
def G78:(p:Prim)→W29w→Option (W0w):=
 fun p x=>
 opt.bnd (W0w) _ (G19 p (x.1,())) fun a=>
 opt.ask _ (p.cmp .neq a.1 (0:Int)) (
 opt.ret _ a) (
 opt.bnd (W0w) _ (G19 p x.2) fun b=>
 opt.ret _ b)
theorem ok78:CtrOk PG u3l (G78 std):=okF vE (a:=an78) (l:=la78) (gC v2d (gN))
end Go.Am
end
noncomputable section
namespace Go.Am
def v96:Ctr:=
 ⟨117,[.list 1],[],[(.ret,⟨[(0, .list 1)],[],1⟩)]⟩
def u6h:List LA:=
 []
def u6r:List JA:=
 []
def u3g:List CF:=
 []
def u7y:Anns:=
 ⟨u3g,u6r,[]⟩
def u5b:(p:Prim)→W14w→Option (W14w):=
 fun p x=>let A:=p.add 0 (p.len x.1);let B:=p.leN (p.add 0 0) (p.len []);let C:=p.splice [] (p.add 0 0) x.1;let E:=p.app (p.cut [] 0 0) x.1;
 opt.need _ (p.leN 1 (p.len x.1))<|
 opt.ask _ (p.leN A 0) (
 opt.need _ (p.and Bool.true (p.and B B))<|
 opt.need _ (p.leN (p.add 0 A) (p.len C))<|
 opt.ret _ ((p.cut C 0 A),())) (
 opt.need _ (p.and Bool.true (p.and B (p.and (p.leN 1 (p.len x.1)) (p.leN A 1000000))))<|
 opt.need _ (p.leN (p.add 0 A) (p.len E))<|
 opt.ret _ ((p.cut E 0 A),()))
theorem u5x:CtrOk PG v96 (u5b std):=okF vE (a:=u7y) (l:=u6h) (gN)
end Go.Am
end
noncomputable section
namespace Go.Am
def u1e:Ctr:=
 ⟨72,[.agg [.int .u64, .int .u64], .int .i64],[],[(.ret,⟨[(0, .agg [.int .u64, .int .u64])],[],1⟩)]⟩
def la72:List LA:=
 []
def ja72:List JA:=
 []
def u7c:List CF:=
 []
def an72:Anns:=
 ⟨u7c,ja72,[]⟩
def G72:(p:Prim)→(Int×W34w)→Option (W34w):=
 fun p x=>let G:=(1:Int);let E:=(0:Int);let A:=bif (p.cmp .geq G E) then (p.cmp .lss G (p.ofNat 2)) else Bool.false;let B:=bif (p.cmp .geq E E) then (p.cmp .lss E (p.ofNat 2)) else Bool.false;let F:=p.ar .rem .i64 x.2.2.1 (64:Int);let C:=p.ar .shl .u64 G F;let H:=p.cmp .neq (64:Int) E;let I:=p.ar .quo .i64 x.2.2.1 (64:Int);let J:=p.ar .or .u64 x.2.1 C;
 opt.need _ H<|
 opt.ask _ (p.cmp .eql I E) (
 opt.need _ B<|
 opt.need _ H<|
 opt.need _ (p.cmp .geq F E)<|
 opt.ask _ (p.cmp .eql E E) (
 opt.need _ B<|
 opt.ret _ ((p.ar .or .u64 x.1 C),(x.2.1,()))) (
 opt.need _ (p.cmp .eql E G)<|
 opt.need _ A<|
 opt.ret _ (x.1,((p.ar .or .u64 x.1 C),())))) (
 opt.need _ (p.cmp .eql I G)<|
 opt.need _ A<|
 opt.need _ H<|
 opt.need _ (p.cmp .geq F E)<|
 opt.ask _ (p.cmp .eql G E) (
 opt.need _ B<|
 opt.ret _ (J,(x.2.1,()))) (
 opt.need _ (p.cmp .eql G G)<|
 opt.need _ A<|
 opt.ret _ (x.1,(J,()))))
theorem u8i:CtrOk PG u1e (G72 std):=okF vE (a:=an72) (l:=la72) (gN)
def u3o:Ctr:=
 ⟨74,[.agg [.int .u64, .int .u64], .int .i64],[],[(.ret,⟨[(0, .bool)],[],1⟩)]⟩
def la74:List LA:=
 []
def ja74:List JA:=
 [⟨74,[fF,tT],0,[(AX.normal,⟨[(4, .bool)],[],14⟩)]⟩]
def u7b:List CF:=
 []
def an74:Anns:=
 ⟨u7b,ja74,[]⟩
def G74:(p:Prim)→(Int×W34w)→Option (W3w):=
 fun p x=>let A:=p.ar .rem .i64 x.2.2.1 (64:Int);let B:=(0:Int);let C:=p.cmp .neq (64:Int) B;let E:=(1:Int);let F:=p.ar .quo .i64 x.2.2.1 (64:Int);
 opt.bnd (W3w) _ (
 opt.run (W3w) (
 opt.need _ C<|
 opt.ask _ (p.cmp .eql F B) (
 opt.need _ (bif (p.cmp .geq B B) then (p.cmp .lss B (p.ofNat 2)) else Bool.false)<|
 opt.need _ C<|
 opt.need _ (p.cmp .geq A B)<|
 opt.ret _ ((p.cmp .eql (p.ar .and .u64 (p.ar .shr .u64 x.1 A) E) E),())) (
 opt.need _ (p.cmp .eql F E)<|
 opt.need _ (bif (p.cmp .geq E B) then (p.cmp .lss E (p.ofNat 2)) else Bool.false)<|
 opt.need _ C<|
 opt.need _ (p.cmp .geq A B)<|
 opt.ret _ ((p.cmp .eql (p.ar .and .u64 (p.ar .shr .u64 x.2.1 A) E) E),())))) fun a=>
 opt.ret _ a
theorem ok74:CtrOk PG u3o (G74 std):=okF vE (a:=an74) (l:=la74) (gN)
def v94:Ctr:=
 ⟨132,[.agg [.int .u64, .int .u64], .agg [.int .u64, .int .u64]],[],[(.ret,⟨[(0, .agg [.int .u64, .int .u64])],[],1⟩)]⟩
def u6f:List LA:=
 [⟨132,[fF,tT,fF,tT],0,⟨⟨[(2, .bptr 0 0),(3, .bptr 1 0),(4, .bptr 2 0),(6, .int .i64)],[q7m,q7m,q7m],19⟩,[((AX.exit 0),⟨[(2, .bptr 0 0),(4, .bptr 1 0)],[q7m,q7m],19⟩)]⟩⟩]
def u6p:List JA:=
 [⟨132,[fF,tT,tT,fF,fF,tT,fF,tT],0,[(AX.normal,⟨[(2, .bptr 0 0),(3, .bptr 1 0),(4, .bptr 2 0),(6, .int .i64)],[q7m,q7m,q7m],19⟩)]⟩]
def u3e:List CF:=
 []
def u7w:Anns:=
 ⟨u3e,u6p,[]⟩
def v6p (p:Prim):W22w→Option (W22w⊕W12w):=
 fun a=>let E:=(1:Int);let C:=(0:Int);let A:=bif (p.cmp .geq E C) then (p.cmp .lss E (p.ofNat 2)) else Bool.false;let B:=bif (p.cmp .geq C C) then (p.cmp .lss C (p.ofNat 2)) else Bool.false;let F:=a.2.2.2.2.2.2.1;let G:=p.ar .and .u64 a.2.1 a.2.2.2.1;let H:=p.cmp .eql F E;let I:=p.cmp .eql F C;let J:=p.ar .and .u64 a.2.1 a.2.2.1;let K:=p.ar .and .u64 a.1 a.2.2.2.1;let L:=p.ar .and .u64 a.1 a.2.2.1; opt.run _ (
 opt.ask _ (p.cmp .lss F (2:Int)) (
 opt.bnd (W22w) _ (
 opt.run (W22w) (
 opt.ask _ I (
 opt.need _ B<|
 opt.ask _ I (
 opt.need _ B<|
 opt.ask _ (p.cmp .eql C C) (
 opt.need _ B<|
 opt.ret _ (L,a.2)) (
 opt.need _ (p.cmp .eql C E)<|
 opt.need _ A<|
 opt.ret _ (a.1,(L,a.2.2)))) (
 opt.need _ H<|
 opt.need _ A<|
 opt.ask _ (p.cmp .eql C C) (
 opt.need _ B<|
 opt.ret _ (K,a.2)) (
 opt.need _ (p.cmp .eql C E)<|
 opt.need _ A<|
 opt.ret _ (a.1,(K,a.2.2))))) (
 opt.need _ H<|
 opt.need _ A<|
 opt.ask _ I (
 opt.need _ B<|
 opt.ask _ (p.cmp .eql E C) (
 opt.need _ B<|
 opt.ret _ (J,a.2)) (
 opt.need _ (p.cmp .eql E E)<|
 opt.need _ A<|
 opt.ret _ (a.1,(J,a.2.2)))) (
 opt.need _ H<|
 opt.need _ A<|
 opt.ask _ (p.cmp .eql E C) (
 opt.need _ B<|
 opt.ret _ (G,a.2)) (
 opt.need _ (p.cmp .eql E E)<|
 opt.need _ A<|
 opt.ret _ (a.1,(G,a.2.2))))))) fun b=>
 opt.ret _ (Sum.inl (b.1,(b.2.1,(b.2.2.1,(b.2.2.2.1,(b.2.2.2.2.1,(b.2.2.2.2.2.1,((p.ar .add .i64 b.2.2.2.2.2.2.1 E),()))))))))) (
 opt.ret _ (Sum.inr (a.1,(a.2.1,(a.2.2.2.2.1,(a.2.2.2.2.2.1,())))))))
def u5a:(p:Prim)→W12w→Option (W34w):=
 fun p x=>
 opt.bnd (W12w) _ (
 z5r (v6p p) (x.1,(x.2.1,(x.2.2.1,(x.2.2.2.1,((0:Int),((0:Int),((0:Int),())))))))) fun a=>
 opt.ret _ (a.1,(a.2.1,()))
theorem u5v:CtrOk PG v94 (u5a std):=okF vE (a:=u7w) (l:=u6f) (gN)
def u3n:Ctr:=
 ⟨75,[.agg [.int .i64, .int .i64, .list 1, .int .i64]],[],[(.ret,⟨[(0, .agg [.int .i64, .int .i64, .list 1, .int .i64])],[],1⟩)]⟩
def la75:List LA:=
 []
def ja75:List JA:=
 []
def u7a:List CF:=
 [⟨v96,u5b⟩]
def an75:Anns:=
 ⟨u7a,ja75,[]⟩
def G75:(p:Prim)→W24w→Option (W24w):=
 fun p x=>
 opt.bnd (W14w) _ (u5b p (x.2.2.1,())) fun a=>
 opt.ret _ (x.1,(x.2.1,(a.1,x.2.2.2)))
theorem ok75:CtrOk PG u3n (G75 std):=okF vE (a:=an75) (l:=la75) (gC u5x (gN))
end Go.Am
end
noncomputable section
namespace Go.Am
def u3q:Ctr:=
 ⟨66,[.list 1],[],[(.ret,⟨[(0, .bptr 0 0)],q13m,1⟩)]⟩
def la66:List LA:=
 [⟨66,[fF,tT,fF,tT,tT],0,⟨⟨[(0, .list 1),(3, .bptr 0 0),(23, .list 1),(24, .int .i64),(25, .int .i64)],[.box [.sl 2 4, .map 1, .nils], .map,q5m],146⟩,[((AX.exit 0),⟨[(0, .list 1),(3, .bptr 0 0)],q15m,146⟩)]⟩⟩,
 ⟨66,[fF,tT,tT,fF,fF,tT,tT,fF,fF,tT,fF,tT,tT],0,⟨⟨[(0, .list 1),(3, .bptr 0 0),(23, .list 1),(24, .int .i64),(25, .int .i64),(29, .list 4),(30, .int .i64),(31, .int .i64)],q15m,146⟩,[((AX.exit 2),⟨[(0, .list 1),(3, .bptr 0 0),(23, .list 1),(24, .int .i64),(25, .int .i64)],q15m,146⟩)]⟩⟩,
 ⟨66,[fF,tT,fF,tT,tT,tT,tT],0,⟨⟨[(3, .bptr 0 0),(90, .list 1),(91, .int .i64),(92, .int .i64)],q13m,146⟩,[((AX.exit 4),⟨[(3, .bptr 0 0)],q13m,146⟩)]⟩⟩,
 ⟨66,[fF,tT,tT,tT,fF,fF,tT,tT,fF,fF,tT,fF,tT,tT,tT,tT],0,⟨⟨[(3, .bptr 0 0),(12, .map 1),(90, .list 1),(91, .int .i64),(92, .int .i64),(97, .list 4),(98, .int .i64),(99, .int .i64)],q12m,146⟩,[((AX.exit 6),⟨[(3, .bptr 0 0),(90, .list 1),(91, .int .i64),(92, .int .i64)],q13m,146⟩)]⟩⟩,
 ⟨66,[fF,tT,tT,tT,fF,fF,tT,tT,fF,fF,tT,tT,tT,fF,fF,tT,tT,fF,fF,tT,fF,tT,tT,tT,tT],0,⟨⟨[(3, .bptr 0 0),(12, .map 1),(15, .int .i64),(90, .list 1),(91, .int .i64),(92, .int .i64),(97, .list 4),(98, .int .i64),(99, .int .i64),(111, .list 1),(112, .int .i64),(113, .int .i64)],q12m,146⟩,[((AX.exit 8),⟨[(3, .bptr 0 0),(12, .map 1),(90, .list 1),(91, .int .i64),(92, .int .i64),(97, .list 4),(98, .int .i64),(99, .int .i64)],q12m,146⟩)]⟩⟩]
def ja66:List JA:=
 [⟨66,[fF,tT,tT,fF,fF,tT,tT,tT,fF,fF,tT,tT,fF,fF,tT,fF,tT,tT,tT,tT],0,[(AX.normal,⟨[(3, .bptr 0 0),(12, .map 1),(90, .list 1),(91, .int .i64),(92, .int .i64),(97, .list 4),(98, .int .i64),(99, .int .i64)],q12m,146⟩)]⟩,
 ⟨66,[fF,tT,tT,fF,fF,tT,tT,tT,fF,fF,tT,tT,fF,fF,tT,tT,tT,fF,fF,tT,tT,fF,fF,tT,fF,tT,tT,tT,tT],0,[(AX.normal,⟨[(3, .bptr 0 0),(12, .map 1),(15, .int .i64),(90, .list 1),(91, .int .i64),(92, .int .i64),(97, .list 4),(98, .int .i64),(99, .int .i64),(111, .list 1),(112, .int .i64),(113, .int .i64)],q12m,146⟩)]⟩,
 ⟨66,[fF,tT,tT,fF,fF,tT,tT,fF,fF,tT,tT,fF,fF,tT,fF,tT,tT],0,[(AX.normal,⟨[(0, .list 1),(3, .bptr 0 0),(23, .list 1),(24, .int .i64),(25, .int .i64),(29, .list 4),(30, .int .i64),(31, .int .i64)],q15m,146⟩)]⟩,
 ⟨66,[tT,tT,tT,fF,fF,tT,tT,fF,fF,tT,tT,fF,fF,tT,tT,fF,fF,tT,fF,tT,tT],0,[(AX.normal,⟨[(0, .list 1),(3, .bptr 0 0),(23, .list 1),(24, .int .i64),(25, .int .i64),(29, .list 4),(30, .int .i64),(31, .int .i64)],q15m,146⟩)]⟩]
def u7e:List CF:=
 [⟨u1e,G72⟩]
def an66:Anns:=
 ⟨u7e,ja66,[]⟩
def u7p (p:Prim):W7w→Option (W7w⊕W10w):=
 fun a=>let S:=a.2.2.2.2.2.2.2.2.2.2.2.2.2.1;let F:=a.2.2.2.2.2.2.2.2.2.2.2.2.2.2.2.1;let A:=D.int .i64 (p.rdI S (p.nat F) 0);let Q:=a.2.2.2.1;let E:=a.2.2.2.2.2.2.1;let M:=p.add 0 (p.nat E);let C:=p.len Q;let G:=p.mOk a.1 [SK.i] Bool.false A Bool.false [ci];let H:=p.mset a.1 (p.nat (p.ofNat (p.mpos a.1 [SK.i] Bool.false A))) A (D.int .i64 E);let I:=bif (p.cmp .geq E (0:Int)) then (p.cmp .lss E (p.ofNat C)) else Bool.false;let J:=p.rowOk Q M [(CK.int .u64),(CK.int .u64)];let K:=p.mhas a.1 [SK.i] Bool.false A;let O:=p.eqN C C;let P:=p.eqN 0 0;let T:=p.madd a.1 A (D.int .i64 E); opt.run _ (
 opt.ask _ (p.cmp .lss F a.2.2.2.2.2.2.2.2.2.2.2.2.2.2.1) (
 opt.bnd (W7w) _ (
 opt.run (W7w) (
 opt.need _ (p.rowOk S (p.nat F) [ci])<|
 opt.need _ (p.cmp .geq F (0:Int))<|
 opt.need _ G<|
 opt.ask _ K (
 opt.need _ I<|
 opt.need _ J<|
 opt.bnd (W34w) _ (G72 p ((p.rdI Q M 0),((p.rdI Q M 1),((p.mI a.1 [SK.i] Bool.false A 0),())))) fun b=>let B:=p.set Q M [(D.int .u64 b.1),(D.int .u64 b.2.1)];let L:=p.eqN C (p.len B);let R:=(a.2.1,(a.2.2.1,(B,a.2.2.2.2)));
 opt.need _ I<|
 opt.need _ J<|
 opt.need _ G<|
 opt.ask _ K (
 opt.need _ P<|
 opt.need _ L<|
 opt.need _ L<|
 opt.ret _ (H,R)) (
 opt.need _ P<|
 opt.need _ L<|
 opt.need _ L<|
 opt.ret _ (T,R))) (
 opt.need _ G<|
 opt.ask _ K (
 opt.need _ P<|
 opt.need _ O<|
 opt.need _ O<|
 opt.ret _ (H,a.2)) (
 opt.need _ P<|
 opt.need _ O<|
 opt.need _ O<|
 opt.ret _ (T,a.2))))) fun c=>let N:=p.len c.2.2.2.1;
 opt.need _ P<|
 opt.need _ (p.eqN N N)<|
 opt.need _ (p.eqN N N)<|
 opt.ret _ (Sum.inl (c.1,(c.2.1,(c.2.2.1,(c.2.2.2.1,(c.2.2.2.2.1,(c.2.2.2.2.2.1,(c.2.2.2.2.2.2.1,(c.2.2.2.2.2.2.2.1,(c.2.2.2.2.2.2.2.2.1,(c.2.2.2.2.2.2.2.2.2.1,(c.2.2.2.2.2.2.2.2.2.2.1,(c.2.2.2.2.2.2.2.2.2.2.2.1,(c.2.2.2.2.2.2.2.2.2.2.2.2.1,(c.2.2.2.2.2.2.2.2.2.2.2.2.2.1,(c.2.2.2.2.2.2.2.2.2.2.2.2.2.2.1,((p.ar .add .i64 c.2.2.2.2.2.2.2.2.2.2.2.2.2.2.2.1 (1:Int)),())))))))))))))))))) (
 opt.need _ P<|
 opt.need _ O<|
 opt.need _ O<|
 opt.ret _ (Sum.inr (a.1,(a.2.1,(a.2.2.1,(Q,(a.2.2.2.2.1,(a.2.2.2.2.2.1,(a.2.2.2.2.2.2.2.1,(a.2.2.2.2.2.2.2.2.1,(a.2.2.2.2.2.2.2.2.2.1,(a.2.2.2.2.2.2.2.2.2.2.1,(a.2.2.2.2.2.2.2.2.2.2.2.1,(a.2.2.2.2.2.2.2.2.2.2.2.2.1,())))))))))))))))
def v65 (p:Prim):W7w→Option (W7w⊕W10w):=
 fun a=>let S:=a.2.2.2.2.2.2.2.2.2.2.2.2.2.1;let F:=a.2.2.2.2.2.2.2.2.2.2.2.2.2.2.2.1;let A:=D.int .i64 (p.rdI S (p.nat F) 0);let Q:=a.2.2.2.1;let E:=a.2.2.2.2.2.2.1;let M:=p.add 0 (p.nat E);let C:=p.len Q;let G:=p.mOk a.1 [SK.i] Bool.false A Bool.false [ci];let H:=p.mset a.1 (p.nat (p.ofNat (p.mpos a.1 [SK.i] Bool.false A))) A (D.int .i64 E);let I:=bif (p.cmp .geq E (0:Int)) then (p.cmp .lss E (p.ofNat C)) else Bool.false;let J:=p.rowOk Q M [(CK.int .u64),(CK.int .u64)];let K:=p.mhas a.1 [SK.i] Bool.false A;let O:=p.eqN C C;let P:=p.eqN 0 0;let T:=p.madd a.1 A (D.int .i64 E); opt.run _ (
 opt.ask _ (p.cmp .lss F a.2.2.2.2.2.2.2.2.2.2.2.2.2.2.1) (
 opt.bnd (W7w) _ (
 opt.run (W7w) (
 opt.need _ (p.rowOk S (p.nat F) [ci])<|
 opt.need _ (p.cmp .geq F (0:Int))<|
 opt.need _ G<|
 opt.ask _ K (
 opt.need _ I<|
 opt.need _ J<|
 opt.bnd (W34w) _ (G72 p ((p.rdI Q M 0),((p.rdI Q M 1),((p.mI a.1 [SK.i] Bool.false A 0),())))) fun b=>let B:=p.set Q M [(D.int .u64 b.1),(D.int .u64 b.2.1)];let L:=p.eqN C (p.len B);let R:=(a.2.1,(a.2.2.1,(B,a.2.2.2.2)));
 opt.need _ I<|
 opt.need _ J<|
 opt.need _ G<|
 opt.ask _ K (
 opt.need _ P<|
 opt.need _ L<|
 opt.need _ L<|
 opt.ret _ (H,R)) (
 opt.need _ P<|
 opt.need _ L<|
 opt.need _ L<|
 opt.ret _ (T,R))) (
 opt.need _ G<|
 opt.ask _ K (
 opt.need _ P<|
 opt.need _ O<|
 opt.need _ O<|
 opt.ret _ (H,a.2)) (
 opt.need _ P<|
 opt.need _ O<|
 opt.need _ O<|
 opt.ret _ (T,a.2))))) fun c=>let N:=p.len c.2.2.2.1;
 opt.need _ P<|
 opt.need _ (p.eqN N N)<|
 opt.need _ (p.eqN N N)<|
 opt.ret _ (Sum.inl (c.1,(c.2.1,(c.2.2.1,(c.2.2.2.1,(c.2.2.2.2.1,(c.2.2.2.2.2.1,(c.2.2.2.2.2.2.1,(c.2.2.2.2.2.2.2.1,(c.2.2.2.2.2.2.2.2.1,(c.2.2.2.2.2.2.2.2.2.1,(c.2.2.2.2.2.2.2.2.2.2.1,(c.2.2.2.2.2.2.2.2.2.2.2.1,(c.2.2.2.2.2.2.2.2.2.2.2.2.1,(c.2.2.2.2.2.2.2.2.2.2.2.2.2.1,(c.2.2.2.2.2.2.2.2.2.2.2.2.2.2.1,((p.ar .add .i64 c.2.2.2.2.2.2.2.2.2.2.2.2.2.2.2.1 (1:Int)),())))))))))))))))))) (
 opt.need _ P<|
 opt.need _ O<|
 opt.need _ O<|
 opt.ret _ (Sum.inr (a.1,(a.2.1,(a.2.2.1,(Q,(a.2.2.2.2.1,(a.2.2.2.2.2.1,(a.2.2.2.2.2.2.2.1,(a.2.2.2.2.2.2.2.2.1,(a.2.2.2.2.2.2.2.2.2.1,(a.2.2.2.2.2.2.2.2.2.2.1,(a.2.2.2.2.2.2.2.2.2.2.2.1,(a.2.2.2.2.2.2.2.2.2.2.2.2.1,())))))))))))))))
def v8d (p:Prim):W10w→Option (W10w⊕W23w):=
 fun a=>let E:=a.2.2.2.2.2.2.2.2.2.1;let N:=a.2.2.2.2.2.2.2.2.2.2.1;let C:=a.2.2.2.2.2.2.2.2.2.2.2.1;let O:=p.nat C;let A:=(a.2.2.2.2.2.2.1,(a.2.2.2.2.2.2.2.1,(a.2.2.2.2.2.2.2.2.1,(E,(N,(C,((p.rdL E O 2),((p.ofNat (p.len (p.rdL E O 2))),((0:Int),())))))))));let K:=a.2.2.2.1;let B:=p.eqN (p.len K) (p.len K);let F:=D.int .i64 (p.rdI E O 0);let J:=p.eqN 0 0;let L:=a.2.2.1;let M:=a.2.2.2.2.2.1; opt.run _ (
 opt.ask _ (p.cmp .lss C N) (
 opt.bnd (W10w) _ (
 opt.run (W10w) (
 opt.need _ (p.rowOk E O [ci,ci,(CK.list 1),ci])<|
 opt.need _ (p.cmp .geq C (0:Int))<|
 opt.need _ (p.mOk L [SK.i] Bool.false F Bool.false [ci])<|
 opt.ask _ (p.mhas L [SK.i] Bool.false F) (
 opt.need _ J<|
 opt.need _ B<|
 opt.need _ B<|
 opt.bnd (W10w) _ (
 z5r (v65 p) (a.1,(a.2.1,(L,(K,(a.2.2.2.2.1,(M,((p.mI L [SK.i] Bool.false F 0),A)))))))) fun b=>let I:=p.len b.2.2.2.1;
 opt.need _ J<|
 opt.need _ (p.eqN I I)<|
 opt.need _ (p.eqN I I)<|
 opt.ret _ b) (
 opt.need _ J<|
 opt.need _ B<|
 opt.need _ B<|
 opt.bnd (W10w) _ (
 z5r (u7p p) (a.1,(a.2.1,(L,(K,(a.2.2.2.2.1,(M,((0:Int),A)))))))) fun c=>let H:=p.len c.2.2.2.1;
 opt.need _ J<|
 opt.need _ (p.eqN H H)<|
 opt.need _ (p.eqN H H)<|
 opt.ret _ c))) fun d=>let G:=p.len d.2.2.2.1;
 opt.need _ J<|
 opt.need _ (p.eqN G G)<|
 opt.need _ (p.eqN G G)<|
 opt.ret _ (Sum.inl (d.1,(d.2.1,(d.2.2.1,(d.2.2.2.1,(d.2.2.2.2.1,(d.2.2.2.2.2.1,(d.2.2.2.2.2.2.1,(d.2.2.2.2.2.2.2.1,(d.2.2.2.2.2.2.2.2.1,(d.2.2.2.2.2.2.2.2.2.1,(d.2.2.2.2.2.2.2.2.2.2.1,((p.ar .add .i64 d.2.2.2.2.2.2.2.2.2.2.2.1 (1:Int)),())))))))))))))) (
 opt.need _ J<|
 opt.need _ B<|
 opt.need _ B<|
 opt.ret _ (Sum.inr (a.2.1,(L,(K,(a.2.2.2.2.1,(M,(a.2.2.2.2.2.2.1,(a.2.2.2.2.2.2.2.1,(a.2.2.2.2.2.2.2.2.1,())))))))))))
def v8e (p:Prim):W23w→Option (W23w⊕W15w):=
 fun a=>let A:=p.eqN (p.len a.2.2.1) (p.len a.2.2.1);let B:=a.2.2.2.2.2.2.2.1;let E:=a.2.2.2.2.2.1; opt.run _ (
 opt.ask _ (p.cmp .lss B a.2.2.2.2.2.2.1) (
 opt.need _ (p.rowOk E (p.nat B) [(CK.list 4)])<|
 opt.need _ (p.cmp .geq B (0:Int))<|
 opt.need _ (p.eqN 0 0)<|
 opt.need _ A<|
 opt.need _ A<|
 opt.bnd (W23w) _ (
 z5r (v8d p) ([],(a.1,(a.2.1,(a.2.2.1,(a.2.2.2.1,(a.2.2.2.2.1,(E,(a.2.2.2.2.2.2.1,(B,((p.rdL E (p.nat B) 0),((p.ofNat (p.len (p.rdL E (p.nat B) 0))),((0:Int),()))))))))))))) fun b=>let C:=p.len b.2.2.1;
 opt.need _ (p.eqN 0 0)<|
 opt.need _ (p.eqN C C)<|
 opt.need _ (p.eqN C C)<|
 opt.ret _ (Sum.inl (b.1,(b.2.1,(b.2.2.1,(b.2.2.2.1,(b.2.2.2.2.1,(b.2.2.2.2.2.1,(b.2.2.2.2.2.2.1,((p.ar .add .i64 b.2.2.2.2.2.2.2.1 (1:Int)),())))))))))) (
 opt.need _ (p.eqN 0 0)<|
 opt.need _ A<|
 opt.need _ A<|
 opt.ret _ (Sum.inr (a.1,(a.2.1,(a.2.2.1,(a.2.2.2.1,(a.2.2.2.2.1,()))))))))
def v66 (p:Prim):W11w→Option (W11w⊕(LD×(List (W21w)×W42w))):=
 fun a=>let L:=a.2.2.2.2.2.2.2.2.1;let G:=a.2.2.2.2.2.2.2.2.2.2.1;let Q:=p.nat G;let C:=D.int .i64 (p.rdI L Q 0);let A:=[[C,(D.int .i64 (p.rdI L Q 1)),(D.list (p.rdF L Q 2 1) 1 (p.rdL L Q 2)),(D.int .i64 (p.rdI L Q 3))]];let F:=p.ofNat a.2.2.2.1;let S:=(0:Int);let B:=p.sub (p.nat F) (p.nat S);let E:=p.add a.2.2.1 (p.nat S);let H:=p.leN (p.add E B) (p.len a.1);let I:=p.splice a.1 (p.add E B) (p.cut A 0 1);let J:=p.and (p.cmp .geq S S) (p.and (p.cmp .leq S F) (p.and (p.cmp .leq F F) (p.cmp .leq F F)));let X:=p.leN (p.add 0 1) (p.len A);let Y:=p.add B 1;let K:=p.and X (p.and H (p.and (p.leN 1 1) (p.leN Y 1000000)));let M:=p.mset a.2.1 (p.nat (p.ofNat (p.mpos a.2.1 [SK.i] Bool.false C))) C (D.int .i64 F);let N:=p.and X (p.and H (p.and (p.leN 1 1) H));let O:=(Y,a.2.2.2.2);let P:=p.mOk a.2.1 [SK.i] Bool.false C Bool.false [ci];let R:=p.app (p.cut a.1 E B) (p.cut A 0 1);let T:=p.mhas a.2.1 [SK.i] Bool.false C;let U:=p.madd a.2.1 C (D.int .i64 F);let V:=p.leN (p.add E B) (p.len I); opt.run _ (
 opt.ask _ (p.cmp .lss G a.2.2.2.2.2.2.2.2.2.1) (
 opt.bnd (W11w) _ (
 opt.run (W11w) (
 opt.need _ (p.rowOk L Q [ci,ci,(CK.list 1),ci])<|
 opt.need _ (p.cmp .geq G S)<|
 opt.need _ P<|
 opt.ask _ T (
 opt.bnd (W11w) _ (
 opt.run (W11w) (
 opt.ret _ a)) fun b=>
 opt.ret _ b) (
 opt.bnd (W11w) _ (
 opt.run (W11w) (
 opt.need _ P<|
 opt.ask _ T (
 opt.need _ J<|
 opt.ask _ (p.leN Y B) (
 opt.need _ N<|
 opt.need _ V<|
 opt.ret _ (I,(M,(E,O)))) (
 opt.need _ K<|
 opt.ret _ (R,(M,(0,O))))) (
 opt.need _ J<|
 opt.ask _ (p.leN Y B) (
 opt.need _ N<|
 opt.need _ V<|
 opt.ret _ (I,(U,(E,O)))) (
 opt.need _ K<|
 opt.ret _ (R,(U,(0,O))))))) fun c=>
 opt.ret _ c))) fun d=>
 opt.ret _ (Sum.inl (d.1,(d.2.1,(d.2.2.1,(d.2.2.2.1,(d.2.2.2.2.1,(d.2.2.2.2.2.1,(d.2.2.2.2.2.2.1,(d.2.2.2.2.2.2.2.1,(d.2.2.2.2.2.2.2.2.1,(d.2.2.2.2.2.2.2.2.2.1,((p.ar .add .i64 d.2.2.2.2.2.2.2.2.2.2.1 (1:Int)),()))))))))))))) (
 opt.ret _ (Sum.inr (a.1,(a.2.1,(a.2.2.1,(a.2.2.2.1,(a.2.2.2.2.1,(a.2.2.2.2.2.1,(a.2.2.2.2.2.2.1,(a.2.2.2.2.2.2.2.1,())))))))))))
def v8f (p:Prim):(List (W21w)×(LD×W42w))→Option ((List (W21w)×(LD×W42w))⊕(LD×(List (W21w)×(Nat×(Nat×W14w))))):=
 fun a=>let A:=a.2.2.2.2.2.2.2.1;let B:=a.2.2.2.2.2.1; opt.run _ (
 opt.ask _ (p.cmp .lss A a.2.2.2.2.2.2.1) (
 opt.need _ (p.rowOk B (p.nat A) [(CK.list 4)])<|
 opt.need _ (p.cmp .geq A (0:Int))<|
 opt.bnd ((LD×(List (W21w)×W42w))) _ (
 z5r (v66 p) (a.2.1,(a.1,(a.2.2.1,(a.2.2.2.1,(a.2.2.2.2.1,(B,(a.2.2.2.2.2.2.1,(A,((p.rdL B (p.nat A) 0),((p.ofNat (p.len (p.rdL B (p.nat A) 0))),((0:Int),())))))))))))) fun b=>
 opt.ret _ (Sum.inl (b.2.1,(b.1,(b.2.2.1,(b.2.2.2.1,(b.2.2.2.2.1,(b.2.2.2.2.2.1,(b.2.2.2.2.2.2.1,((p.ar .add .i64 b.2.2.2.2.2.2.2.1 (1:Int)),())))))))))) (
 opt.ret _ (Sum.inr (a.2.1,(a.1,(a.2.2.1,(a.2.2.2.1,(a.2.2.2.2.1,()))))))))
def G66:(p:Prim)→W14w→Option (W15w):=
 fun p x=>let E:=(0:Int);
 opt.bnd ((LD×(List (W21w)×(Nat×(Nat×W14w))))) _ (
 z5r (v8f p) ([],([],(0,(0,(x.1,(x.1,((p.ofNat (p.len x.1)),(E,()))))))))) fun a=>let B:=p.ofNat a.2.2.2.1;let A:=p.rep (p.nat B) [(D.int .u64 E),(D.int .u64 E)];let F:=p.eqN (p.nat B) (p.len A);
 opt.need _ (p.and (p.cmp .geq B E) (p.and (p.cmp .leq B B) (p.cmp .leq B (1000000:Int))))<|
 opt.need _ (p.eqN 0 0)<|
 opt.need _ F<|
 opt.need _ F<|
 opt.bnd (W15w) _ (
 z5r (v8e p) (a.1,(a.2.1,(A,(a.2.2.1,(a.2.2.2.1,(a.2.2.2.2.1,((p.ofNat (p.len a.2.2.2.2.1)),(E,()))))))))) fun b=>let C:=p.len b.2.2.1;
 opt.need _ (p.eqN 0 0)<|
 opt.need _ (p.eqN C C)<|
 opt.need _ (p.eqN C C)<|
 opt.ret _ b
theorem ok66:CtrOk PG u3q (G66 std):=okF vE (a:=an66) (l:=la66) (gC u8i (gN))
end Go.Am
end
noncomputable section
namespace Go.Am
def u3p:Ctr:=
 ⟨67,[.bptr 0 0],q13m,[(.ret,⟨[(0, .vec 4 4)],[q3m,q5m, .map,q2m,q5m],1⟩)]⟩
def la67:List LA:=
 [⟨67,[fF,tT,fF,tT,tT,tT],4,⟨⟨[(1, .bptr 4 0),(3, .bptr 5 0),(4, .vec 6 4),(11, .int .i64),(12, .int .i64)],[q3m,q5m, .map,q2m,q9m,q7m,q5m],56⟩,[((AX.exit 0),⟨[(4, .vec 4 4)],[q3m,q5m, .map,q2m,q5m],56⟩)]⟩⟩,
 ⟨131,[fF,tT],11,⟨⟨[(0, .yld 10),(2, .bptr 9 0),(9, .full 3 2),(10, .int .i64),(11, .int .i64)],[q3m,q5m, .map,q2m,q9m,q7m,q5m,q10m,q9m,q7m, .loop Go.LoopState.ready Option.none 67 [Bool.false,Bool.true,Bool.false,Bool.true,Bool.false,Bool.false,Bool.true,Bool.true,Bool.false,Bool.false,Bool.true,Bool.false,Bool.true,Bool.true,Bool.true] 56 [(16, .clo 131 [] [.bptr 8 0, .bptr 9 0]),(5, .bptr 7 0),(1, .bptr 4 0),(11, .int .i64),(12, .int .i64),(4, .vec 6 4),(3, .bptr 5 0)]],34⟩,[((AX.exit 0),⟨[],[q3m,q5m, .map,q2m,q9m,q7m,q5m,q10m,q9m,q7m, .loop Go.LoopState.ready Option.none 67 [Bool.false,Bool.true,Bool.false,Bool.true,Bool.false,Bool.false,Bool.true,Bool.true,Bool.false,Bool.false,Bool.true,Bool.false,Bool.true,Bool.true,Bool.true] 56 [(16, .clo 131 [] [.bptr 8 0, .bptr 9 0]),(5, .bptr 7 0),(1, .bptr 4 0),(11, .int .i64),(12, .int .i64),(4, .vec 6 4),(3, .bptr 5 0)]],34⟩)]⟩⟩]
def ja67:List JA:=
 [⟨67,[tT,fF,tT,fF,tT,fF,tT,fF,fF,tT,tT,fF,fF,tT,fF,tT,tT,tT],12,[(AX.normal,⟨[(1, .bptr 4 0),(3, .bptr 5 0),(4, .vec 6 4),(5, .bptr 7 0),(11, .int .i64),(12, .int .i64)],[q3m,q5m, .map,q2m,q9m,q7m,q5m,q10m,q9m,q7m, .dead,q7m],56⟩)]⟩,
 ⟨131,[fF,tT,tT,fF,fF,tT],11,[(AX.normal,⟨[(0, .yld 10),(2, .bptr 9 0),(9, .full 3 2),(10, .int .i64),(11, .int .i64)],[q3m,q5m, .map,q2m,q9m,q7m,q5m,q10m,q9m,q7m, .loop Go.LoopState.ready Option.none 67 [Bool.false,Bool.true,Bool.false,Bool.true,Bool.false,Bool.false,Bool.true,Bool.true,Bool.false,Bool.false,Bool.true,Bool.false,Bool.true,Bool.true,Bool.true] 56 [(16, .clo 131 [] [.bptr 8 0, .bptr 9 0]),(5, .bptr 7 0),(1, .bptr 4 0),(11, .int .i64),(12, .int .i64),(4, .vec 6 4),(3, .bptr 5 0)]],34⟩)]⟩,
 ⟨67,[tT,fF,tT,fF,tT,fF,fF,tT,tT,fF,fF,tT,fF,tT,tT,tT],12,[(AX.normal,⟨[(1, .bptr 4 0),(3, .bptr 5 0),(4, .vec 6 4),(5, .bptr 7 0),(11, .int .i64),(12, .int .i64)],[q3m,q5m, .map,q2m,q9m,q7m,q5m,q10m,q9m,q7m, .dead,q7m],56⟩)]⟩]
def u7d:List CF:=
 [⟨u3n,G75⟩,⟨u1e,G72⟩,⟨v94,u5a⟩,⟨u3o,G74⟩]
def an67:Anns:=
 ⟨u7d,ja67,[]⟩
def v4f (p:Prim):W2w→Option (W2w⊕W40w):=
 fun a=>let K:=a.2.2.1;let V:=p.len K;let A:=p.eqN V V;let B:=a.2.2.2.2.2.2.2.2.2.2.2.2.2.2.1;let O:=a.2.2.2.2.2.2.2.2.2.1;let M:=a.2.2.2.2.2.2.2.2.2.2.1;let J:=p.add 0 (p.nat B);let A1:=p.rdI K J 0;let Z:=p.rdI K J 1;let N:=(a.2.2.2.2.2.2.2.2.2.2.2.1,(a.2.2.2.2.2.2.2.2.2.2.2.2.1,()));let C:=(O,(M,(A1,(Z,N))));let E:=p.eqN 0 0;let T:=a.2.2.2.1;let F:=p.eqN (p.len T) (p.len T);let P:=a.2.2.2.2.1;let Q:=a.2.2.2.2.2.1;let X:=a.2.2.2.2.2.2.1;let U:=a.2.2.2.2.2.2.2.1;let G:=(a.1,(a.2.1,(K,(T,(P,(Q,(X,(U,(B,C)))))))));let I:=a.2.2.2.2.2.2.2.2.1;let Y:=[ci,ci,(CK.list 1),ci];let A2:=p.cmp .geq B (0:Int); opt.run _ (
 opt.ask _ (p.cmp .lss B a.2.2.2.2.2.2.2.2.2.2.2.2.2.1) (
 opt.bnd (W2w) _ (
 opt.run (W2w) (
 opt.need _ (bif A2 then (p.cmp .lss B (p.ofNat V)) else Bool.false)<|
 opt.need _ (p.rowOk K J [(CK.int .u64),(CK.int .u64)])<|
 opt.bnd (W3w) _ (G74 p (O,(M,a.2.2.2.2.2.2.2.2.2.2.2.2.2.2))) fun b=>
 opt.ask _ (bif b.1 then Bool.false else Bool.true) (
 opt.bnd (W34w) _ (u5a p (A1,(Z,(O,(M,()))))) fun c=>
 opt.ask _ (bif (p.cmp .eql c.1 A1) then (bif (p.cmp .eql c.2.1 Z) then Bool.true else Bool.false) else Bool.false) (
 opt.bnd (W2w) _ (
 opt.run (W2w) (
 opt.ask _ (p.cmp .lss I (0:Int)) (
 opt.bnd (W2w) _ (
 opt.run (W2w) (
 opt.need _ E<|
 opt.need _ A<|
 opt.need _ A<|
 opt.need _ E<|
 opt.need _ F<|
 opt.ret _ G)) fun d=>let S:=p.len d.2.2.1;
 opt.need _ E<|
 opt.need _ (p.eqN S S)<|
 opt.need _ (p.eqN S S)<|
 opt.need _ E<|
 opt.need _ (p.eqN (p.len d.2.2.2.1) (p.len d.2.2.2.1))<|
 opt.ret _ d) (
 opt.need _ (bif A2 then (p.cmp .lss B (p.ofNat Q)) else Bool.false)<|
 opt.need _ (p.rowOk a.1 (p.add P (p.nat B)) Y)<|
 opt.need _ (bif (p.cmp .geq I (0:Int)) then (p.cmp .lss I (p.ofNat Q)) else Bool.false)<|
 opt.need _ (p.rowOk a.1 (p.add P (p.nat I)) Y)<|
 opt.bnd (W2w) _ (
 opt.run (W2w) (
 opt.ask _ (p.cmp .lss (p.rdI a.1 (p.add P (p.nat B)) 0) (p.rdI a.1 (p.add P (p.nat I)) 0)) (
 opt.need _ E<|
 opt.need _ A<|
 opt.need _ A<|
 opt.need _ E<|
 opt.need _ F<|
 opt.ret _ G) (
 opt.need _ E<|
 opt.need _ A<|
 opt.need _ A<|
 opt.need _ E<|
 opt.need _ F<|
 opt.ret _ (a.1,(a.2.1,(K,(T,(P,(Q,(X,(U,(I,C)))))))))))) fun e=>let R:=p.len e.2.2.1;
 opt.need _ E<|
 opt.need _ (p.eqN R R)<|
 opt.need _ (p.eqN R R)<|
 opt.need _ E<|
 opt.need _ (p.eqN (p.len e.2.2.2.1) (p.len e.2.2.2.1))<|
 opt.ret _ e))) fun f=>let L:=p.len f.2.2.1;
 opt.need _ E<|
 opt.need _ (p.eqN L L)<|
 opt.need _ (p.eqN L L)<|
 opt.need _ E<|
 opt.need _ (p.eqN (p.len T) (p.len f.2.2.2.1))<|
 opt.need _ E<|
 opt.need _ (p.eqN V L)<|
 opt.need _ (p.eqN V L)<|
 opt.ret _ (f.1,(f.2.1,(f.2.2.1,(f.2.2.2.1,(f.2.2.2.2.1,(f.2.2.2.2.2.1,(f.2.2.2.2.2.2.1,(f.2.2.2.2.2.2.2.1,(f.2.2.2.2.2.2.2.2.1,(f.2.2.2.2.2.2.2.2.2.1,(f.2.2.2.2.2.2.2.2.2.2.1,a.2.2.2.2.2.2.2.2.2.2.2)))))))))))) (
 opt.need _ E<|
 opt.need _ A<|
 opt.need _ A<|
 opt.need _ E<|
 opt.need _ F<|
 opt.need _ E<|
 opt.need _ A<|
 opt.need _ A<|
 opt.ret _ a)) (
 opt.need _ E<|
 opt.need _ A<|
 opt.need _ A<|
 opt.need _ E<|
 opt.need _ F<|
 opt.need _ E<|
 opt.need _ A<|
 opt.need _ A<|
 opt.ret _ a))) fun g=>let H:=p.eqN (p.len g.2.2.1) (p.len g.2.2.1);
 opt.need _ E<|
 opt.need _ H<|
 opt.need _ H<|
 opt.need _ E<|
 opt.need _ (p.eqN (p.len g.2.2.2.1) (p.len g.2.2.2.1))<|
 opt.need _ E<|
 opt.need _ H<|
 opt.need _ H<|
 opt.ret _ (Sum.inl (g.1,(g.2.1,(g.2.2.1,(g.2.2.2.1,(g.2.2.2.2.1,(g.2.2.2.2.2.1,(g.2.2.2.2.2.2.1,(g.2.2.2.2.2.2.2.1,(g.2.2.2.2.2.2.2.2.1,(g.2.2.2.2.2.2.2.2.2.1,(g.2.2.2.2.2.2.2.2.2.2.1,(g.2.2.2.2.2.2.2.2.2.2.2.1,(g.2.2.2.2.2.2.2.2.2.2.2.2.1,(g.2.2.2.2.2.2.2.2.2.2.2.2.2.1,((p.ar .add .i64 g.2.2.2.2.2.2.2.2.2.2.2.2.2.2.1 (1:Int)),()))))))))))))))))) (
 opt.need _ E<|
 opt.need _ A<|
 opt.need _ A<|
 opt.need _ E<|
 opt.need _ F<|
 opt.ret _ (Sum.inr (a.1,(a.2.1,(K,(T,(P,(Q,(X,(U,(I,(O,(M,N))))))))))))))
def v8c (p:Prim):W41w→Option (W41w⊕W17w):=
 fun a=>let L:=p.len a.2.2.1;let B:=p.eqN L L;let E:=p.len a.2.2.2.1;let F:=p.eqN 0 0;let J:=a.2.2.2.2.2.2.2.2.2.1;let K:=a.2.2.2.2.2.2.2.2.1; opt.run _ (
 opt.ask _ (p.cmp .lss J K) (
 opt.need _ F<|
 opt.need _ B<|
 opt.need _ B<|
 opt.need _ F<|
 opt.need _ (p.eqN E E)<|
 opt.need _ F<|
 opt.need _ B<|
 opt.need _ B<|
 opt.bnd (W40w) _ (
 z5r (v4f p) (a.1,(a.2.1,(a.2.2.1,(a.2.2.2.1,(a.2.2.2.2.1,(a.2.2.2.2.2.1,(a.2.2.2.2.2.2.1,(a.2.2.2.2.2.2.2.1,((-1:Int),(a.2.2.2.2.2.2.1,(a.2.2.2.2.2.2.2.1,(K,(J,((p.ofNat L),((0:Int),())))))))))))))))) fun b=>let G:=b.2.2.2.2.2.2.2.2.1;let C:=p.add b.2.2.2.2.1 (p.nat G);let I:=p.len b.2.2.1;
 opt.bnd (W34w) _ (G72 p (b.2.2.2.2.2.2.1,(b.2.2.2.2.2.2.2.1,(G,())))) fun c=>
 opt.need _ (bif (p.cmp .geq G (0:Int)) then (p.cmp .lss G (p.ofNat b.2.2.2.2.2.1)) else Bool.false)<|
 opt.need _ (p.rowOk b.1 C [ci,ci,(CK.list 1),ci])<|
 opt.bnd (W24w) _ (G75 p ((p.rdI b.1 C 0),((p.rdI b.1 C 1),((p.rdL b.1 C 2),((p.rdI b.1 C 3),()))))) fun d=>let A:=[[(D.int .i64 d.1),(D.int .i64 d.2.1),(D.list Bool.false 1 d.2.2.1),(D.int .i64 d.2.2.2.1)]];let H:=p.app (p.cut b.2.2.2.1 0 E) (p.cut A 0 1);
 opt.need _ (p.and (p.leN (p.add 0 1) (p.len A)) (p.and (p.leN (p.add 0 E) (p.len b.2.2.2.1)) (p.and (p.leN 1 1) (p.leN (p.add E 1) 1000000))))<|
 opt.need _ F<|
 opt.need _ (p.eqN I I)<|
 opt.need _ (p.eqN I I)<|
 opt.need _ F<|
 opt.need _ (p.eqN (p.add E 1) (p.len H))<|
 opt.ret _ (Sum.inl (b.1,(b.2.1,(b.2.2.1,(H,(b.2.2.2.2.1,(b.2.2.2.2.2.1,(c.1,(c.2.1,(K,((p.ar .add .i64 J (1:Int)),())))))))))))) (
 opt.need _ F<|
 opt.need _ B<|
 opt.need _ B<|
 opt.need _ F<|
 opt.need _ (p.eqN E E)<|
 opt.ret _ (Sum.inr (a.1,(a.2.1,(a.2.2.1,(a.2.2.2.1,(a.2.2.2.2.1,(a.2.2.2.2.2.1,())))))))))
def G67:(p:Prim)→W15w→Option (W17w):=
 fun p x=>let A:=p.len x.2.2.1;
 opt.need _ (p.eqN 0 0)<|
 opt.need _ (p.eqN A A)<|
 opt.need _ (p.eqN A A)<|
 opt.bnd (W17w) _ (
 z5r (v8c p) (x.1,(x.2.1,(x.2.2.1,([],(x.2.2.2.1,(x.2.2.2.2.1,((0:Int),((0:Int),((p.ofNat x.2.2.2.2.1),((0:Int),()))))))))))) fun a=>let B:=p.len a.2.2.1;
 opt.need _ (p.eqN 0 0)<|
 opt.need _ (p.eqN B B)<|
 opt.need _ (p.eqN B B)<|
 opt.need _ (p.eqN 0 0)<|
 opt.need _ (p.eqN (p.len a.2.2.2.1) (p.len a.2.2.2.1))<|
 opt.ret _ a
theorem ok67:CtrOk PG u3p (G67 std):=okF vD (a:=an67) (l:=la67) (gC ok75 (gC u8i (gC u5v (gC ok74 (gN)))))
end Go.Am
end
noncomputable section
namespace Go.Am
def u3k:Ctr:=
 ⟨79,[.list 4],[],[(.ret,⟨[(0, .map 0)],[.map],1⟩)]⟩
def la79:List LA:=
 [⟨79,[fF,tT,fF,tT,tT],0,⟨⟨[(3, .map 0),(7, .list 4),(8, .int .i64),(9, .int .i64)],[.map],19⟩,[((AX.exit 0),⟨[(3, .map 0)],[.map],19⟩)]⟩⟩]
def ja79:List JA:=
 [⟨79,[fF,tT,tT,fF,fF,tT,fF,tT,tT],0,[(AX.normal,⟨[(3, .map 0),(7, .list 4),(8, .int .i64),(9, .int .i64)],[.map],19⟩)]⟩]
def u6x:List CF:=
 []
def an79:Anns:=
 ⟨u6x,ja79,[]⟩
def v8a (p:Prim):W25w→Option (W25w⊕W8w):=
 fun a=>let C:=p.nat a.2.2.2.1;let A:=D.int .i64 (p.rdI a.2.1 C 0);let B:=D.agg [A,(D.int .i64 (p.rdI a.2.1 C 1)),(D.list (p.rdF a.2.1 C 2 1) 1 (p.rdL a.2.1 C 2)),(D.int .i64 (p.rdI a.2.1 C 3))];let E:=[ci,ci,(CK.list 1),ci]; opt.run _ (
 opt.ask _ (p.cmp .lss a.2.2.2.1 a.2.2.1) (
 opt.bnd (W25w) _ (
 opt.run (W25w) (
 opt.need _ (p.rowOk a.2.1 C E)<|
 opt.need _ (p.cmp .geq a.2.2.2.1 (0:Int))<|
 opt.need _ (p.mOk a.1 [SK.i] Bool.false A Bool.true E)<|
 opt.ask _ (p.mhas a.1 [SK.i] Bool.false A) (
 opt.ret _ ((p.mset a.1 (p.nat (p.ofNat (p.mpos a.1 [SK.i] Bool.false A))) A B),a.2)) (
 opt.ret _ ((p.madd a.1 A B),a.2)))) fun b=>
 opt.ret _ (Sum.inl (b.1,(b.2.1,(b.2.2.1,((p.ar .add .i64 b.2.2.2.1 (1:Int)),())))))) (
 opt.ret _ (Sum.inr (a.1,()))))
def G79:(p:Prim)→W14w→Option (W8w):=
 fun p x=>
 opt.bnd (W8w) _ (
 z5r (v8a p) ([],(x.1,((p.ofNat (p.len x.1)),((0:Int),()))))) fun a=>
 opt.ret _ a
theorem ok79:CtrOk PG u3k (G79 std):=okF vE (a:=an79) (l:=la79) (gN)
def v95:Ctr:=
 ⟨118,[.list 1, .list 1],[],[(.ret,⟨[(0, .bool)],[],1⟩)]⟩
def u6g:List LA:=
 [⟨118,[fF,tT,fF,tT,tT],0,⟨⟨[(0, .list 1),(1, .list 1),(12, .int .i64),(13, .int .i64)],[],26⟩,[(AX.ret,⟨[(4, .bool)],[],26⟩),((AX.exit 0),⟨[],[],26⟩)]⟩⟩]
def u6q:List JA:=
 []
def u3f:List CF:=
 []
def u7x:Anns:=
 ⟨u3f,u6q,[]⟩
def v4t (p:Prim):W20w→Option (W20w⊕(W3w⊕Unit)):=
 fun a=>let A:=a.2.2.2.1;let B:=p.cmp .geq A (0:Int);let C:=p.nat A; opt.run _ (
 opt.ask _ (p.cmp .lss A a.2.2.1) (
 opt.need _ (p.rowOk a.1 C [ci])<|
 opt.need _ B<|
 opt.need _ (p.rowOk a.2.1 C [ci])<|
 opt.need _ B<|
 opt.ask _ (p.cmp .neq (p.rdI a.1 C 0) (p.rdI a.2.1 C 0)) (
 opt.ret _ (Sum.inr (Sum.inl (Bool.false,())))) (
 opt.ret _ (Sum.inl (a.1,(a.2.1,(a.2.2.1,((p.ar .add .i64 A (1:Int)),()))))))) (
 opt.ret _ (Sum.inr (Sum.inr ()))))
def u2h:(p:Prim)→W29w→Option (W3w):=
 fun p x=>
 opt.ask _ (p.cmp .neq (p.ofNat (p.len x.1)) (p.ofNat (p.len x.2.1))) (
 opt.ret _ (Bool.false,())) (
 opt.alt (W3w) (Unit) _ (
 z5r (v4t p) (x.1,(x.2.1,((p.ofNat (p.len x.1)),((0:Int),()))))) (fun a=>
 opt.ret _ a) (fun b=>
 opt.bnd (Unit) _ (some b) fun c=>
 opt.ret _ (Bool.true,())))
theorem u5w:CtrOk PG v95 (u2h std):=okF vE (a:=u7x) (l:=u6g) (gN)
def u1d:Ctr:=
 ⟨80,[.agg [.int .i64, .int .i64, .list 1, .int .i64], .agg [.int .i64, .int .i64, .list 1, .int .i64]],[],[(.ret,⟨[(0, .bool)],[],1⟩)]⟩
def la80:List LA:=
 []
def ja80:List JA:=
 [⟨80,[fF,tT],0,[(AX.normal,⟨[(4, .bool)],[],31⟩)]⟩]
def u6w:List CF:=
 [⟨v95,u2h⟩]
def an80:Anns:=
 ⟨u6w,ja80,[]⟩
def G80:(p:Prim)→W36w→Option (W3w):=
 fun p x=>
 opt.bnd (W3w) _ (
 opt.run (W3w) (
 opt.ask _ (p.cmp .eql x.1 x.2.2.2.2.1) (
 opt.ask _ (p.cmp .eql x.2.1 x.2.2.2.2.2.1) (
 opt.ask _ (p.cmp .eql x.2.2.2.1 x.2.2.2.2.2.2.2.1) (
 opt.bnd (W3w) _ (u2h p (x.2.2.1,(x.2.2.2.2.2.2.1,()))) fun a=>
 opt.ret _ a) (
 opt.ret _ (Bool.false,()))) (
 opt.ret _ (Bool.false,()))) (
 opt.ret _ (Bool.false,())))) fun b=>
 opt.ret _ b
theorem u8h:CtrOk PG u1d (G80 std):=okF vE (a:=an80) (l:=la80) (gC u5w (gN))
def u3j:Ctr:=
 ⟨81,[.list 4, .list 4, .clo 80 [] []],[],[(.ret,⟨[(0, .bool)],[],1⟩)]⟩
def la81:List LA:=
 [⟨81,[fF,tT,fF,tT,tT],0,⟨⟨[(1, .list 4),(2, .clo 80 [] []),(15, .list 4),(16, .int .i64),(17, .int .i64)],[],32⟩,[(AX.ret,⟨[(6, .bool)],[],32⟩),((AX.exit 0),⟨[],[],32⟩)]⟩⟩]
def ja81:List JA:=
 []
def u6v:List CF:=
 [⟨u1d,G80⟩]
def an81:Anns:=
 ⟨u6v,ja81,[]⟩
def v64 (p:Prim):W20w→Option (W20w⊕(W3w⊕Unit)):=
 fun a=>let E:=a.2.2.2.1;let A:=p.nat E;let B:=p.cmp .geq E (0:Int);let C:=[ci,ci,(CK.list 1),ci]; opt.run _ (
 opt.ask _ (p.cmp .lss E a.2.2.1) (
 opt.need _ (p.rowOk a.2.1 A C)<|
 opt.need _ B<|
 opt.need _ (p.rowOk a.1 A C)<|
 opt.need _ B<|
 opt.bnd (W3w) _ (G80 p ((p.rdI a.2.1 A 0),((p.rdI a.2.1 A 1),((p.rdL a.2.1 A 2),((p.rdI a.2.1 A 3),((p.rdI a.1 A 0),((p.rdI a.1 A 1),((p.rdL a.1 A 2),((p.rdI a.1 A 3),()))))))))) fun b=>
 opt.ask _ (bif b.1 then Bool.false else Bool.true) (
 opt.ret _ (Sum.inr (Sum.inl (Bool.false,())))) (
 opt.ret _ (Sum.inl (a.1,(a.2.1,(a.2.2.1,((p.ar .add .i64 E (1:Int)),()))))))) (
 opt.ret _ (Sum.inr (Sum.inr ()))))
def G81:(p:Prim)→W29w→Option (W3w):=
 fun p x=>
 opt.ask _ (p.cmp .neq (p.ofNat (p.len x.1)) (p.ofNat (p.len x.2.1))) (
 opt.ret _ (Bool.false,())) (
 opt.alt (W3w) (Unit) _ (
 z5r (v64 p) (x.2.1,(x.1,((p.ofNat (p.len x.1)),((0:Int),()))))) (fun a=>
 opt.ret _ a) (fun b=>
 opt.bnd (Unit) _ (some b) fun c=>
 opt.ret _ (Bool.true,())))
theorem ok81:CtrOk PG u3j (G81 std):=okF vE (a:=an81) (l:=la81) (gC u8h (gN))
end Go.Am
end
noncomputable section
namespace Go.Am
def u3u:Ctr:=
 ⟨35,[.list 4, .list 4],[],[(.ret,⟨[(0, .int .i64)],[],1⟩)]⟩
def la35:List LA:=
 [⟨35,[fF,tT,fF,tT,tT,tT],0,⟨⟨[(0, .list 4),(1, .list 4),(6, .map 0),(19, .list 4),(20, .int .i64),(21, .int .i64)],[.map],57⟩,[(AX.ret,⟨[(4, .int .i64)],[],57⟩),((AX.exit 0),⟨[(0, .list 4),(1, .list 4),(6, .map 0)],[.map],57⟩)]⟩⟩]
def ja35:List JA:=
 [⟨35,[fF,tT,tT,fF,fF,tT,fF,tT,tT,tT],0,[(AX.ret,⟨[(4, .int .i64)],[],57⟩),(AX.normal,⟨[(0, .list 4),(1, .list 4),(6, .map 0),(19, .list 4),(20, .int .i64),(21, .int .i64)],[.map],57⟩)]⟩]
def u7k:List CF:=
 [⟨u3p,G67⟩,⟨u3q,G66⟩,⟨u3k,G79⟩,⟨u3j,G81⟩,⟨u1d,G80⟩,⟨u3l,G78⟩]
def an35:Anns:=
 ⟨u7k,ja35,[]⟩
def v58 (p:Prim):W28w→Option (W28w⊕(W0w⊕(List (W21w)×W29w))):=
 fun a=>let E:=a.2.2.2.1;let I:=a.2.2.2.2.2.1;let B:=p.nat I;let A:=D.int .i64 (p.rdI E B 0);let G:=[SK.i];let H:=[ci,ci,(CK.list 1),ci];let C:=p.mOk a.1 G Bool.false A Bool.true H;let F:=p.mhas a.1 G Bool.false A; opt.run _ (
 opt.ask _ (p.cmp .lss I a.2.2.2.2.1) (
 opt.alt (W0w) (W28w) _ (
 opt.run ((W0w⊕W28w)) (
 opt.need _ (p.rowOk E B H)<|
 opt.need _ (p.cmp .geq I (0:Int))<|
 opt.need _ C<|
 opt.ask _ F (
 opt.bnd (W3w) _ (G80 p ((p.mI a.1 G Bool.false A 0),((p.mI a.1 G Bool.false A 1),((p.mL a.1 G Bool.false A 2),((p.mI a.1 G Bool.false A 3),((p.rdI E B 0),((p.rdI E B 1),((p.rdL E B 2),((p.rdI E B 3),()))))))))) fun b=>
 opt.ask _ (bif b.1 then Bool.false else Bool.true) (
 opt.ret _ (Sum.inl ((15:Int),()))) (
 opt.need _ C<|
 opt.ask _ F (
 opt.ret _ (Sum.inr ((p.mdel a.1 (p.nat (p.ofNat (p.mpos a.1 G Bool.false A)))),a.2))) (
 opt.ret _ (Sum.inr a)))) (
 opt.ret _ (Sum.inl ((15:Int),()))))) (fun c=>
 opt.ret _ (Sum.inr (Sum.inl c))) (fun d=>
 opt.bnd (W28w) _ (some d) fun e=>
 opt.ret _ (Sum.inl (e.1,(e.2.1,(e.2.2.1,(e.2.2.2.1,(e.2.2.2.2.1,((p.ar .add .i64 e.2.2.2.2.2.1 (1:Int)),()))))))))) (
 opt.ret _ (Sum.inr (Sum.inr (a.1,(a.2.1,(a.2.2.1,())))))))
def G35:(p:Prim)→W29w→Option (W0w):=
 fun p x=>let F:=(0:Int);
 opt.bnd (W0w) _ (G78 p x) fun a=>
 opt.ask _ (p.cmp .neq a.1 F) (
 opt.ret _ a) (
 opt.bnd (W8w) _ (G79 p x.2) fun b=>
 opt.alt (W0w) ((List (W21w)×W29w)) _ (
 z5r (v58 p) (b.1,(x.1,(x.2.1,(x.1,((p.ofNat (p.len x.1)),(F,()))))))) (fun c=>
 opt.ret _ c) (fun d=>
 opt.bnd ((List (W21w)×W29w)) _ (some d) fun e=>
 opt.ask _ (p.cmp .gtr (p.ofNat (p.mlen e.1)) F) (
 opt.ret _ ((15:Int),())) (
 opt.bnd (W15w) _ (G66 p ([[(D.list Bool.false 4 e.2.1)]],())) fun f=>let B:=p.len f.2.2.1;
 opt.need _ (p.eqN 0 0)<|
 opt.need _ (p.eqN B B)<|
 opt.need _ (p.eqN B B)<|
 opt.bnd (W17w) _ (G67 p f) fun g=>let E:=p.len g.2.2.2.1;
 opt.bnd (W15w) _ (G66 p ([[(D.list Bool.false 4 e.2.2.1)]],())) fun h=>let A:=p.len h.2.2.1;
 opt.need _ (p.eqN 0 0)<|
 opt.need _ (p.eqN A A)<|
 opt.need _ (p.eqN A A)<|
 opt.bnd (W17w) _ (G67 p h) fun i=>let C:=p.len i.2.2.2.1;
 opt.need _ (p.and (p.leN (p.add 0 E) E) (p.and (p.leN (p.add 0 C) C) (p.and (p.and Bool.true Bool.true) Bool.true)))<|
 opt.bnd (W3w) _ (G81 p ((p.cut g.2.2.2.1 0 E),((p.cut i.2.2.2.1 0 C),()))) fun j=>
 opt.ask _ (bif j.1 then Bool.false else Bool.true) (
 opt.ret _ ((24:Int),())) (
 opt.ret _ (F,())))))
theorem ok35:CtrOk PG u3u (G35 std):=okF vD (a:=an35) (l:=la35) (gC ok67 (gC ok66 (gC ok79 (gC ok81 (gC u8h (gC ok78 (gN)))))))
end Go.Am
end
noncomputable section
namespace Go.Am
def v4p:Ctr:=
 ⟨57,[.list 1],[],[(.ret,⟨[(0, .lst 1)],[],1⟩)]⟩
def u1u:(p:Prim)→W14w→Option (W14w):=
 fun p x=>let A:=p.ofNat (p.len x.1);let C:=p.nat A;let B:=p.rep C [(D.int .i64 (0:Int))];let E:=p.eqN C (p.len (p.splice B 0 x.1));
 opt.need _ (p.and (p.cmp .geq A (0:Int)) (p.and (p.cmp .leq A A) (p.cmp .leq A (1000000:Int))))<|
 opt.need _ (p.and Bool.true (p.and (p.leN (p.len x.1) C) (p.leN (p.add 0 C) (p.len B))))<|
 opt.need _ (p.eqN 0 0)<|
 opt.need _ E<|
 opt.need _ E<|
 opt.bnd (W14w) _ (w6a p ((p.splice B 0 x.1),())) fun a=>
 opt.bnd ((LD×(Nat×(Nat×(Nat×Unit))))) _ (w2z p (a.1,(0,(C,(C,()))))) fun b=>
 opt.need _ (p.leN (p.add b.2.1 b.2.2.1) (p.len b.1))<|
 opt.need _ (p.eqN b.2.2.1 b.2.2.2.1)<|
 opt.ret _ ((p.cut b.1 b.2.1 b.2.2.1),())
def u8m:Prim→Tup (v4p).scs→Option (STup (scss (v4p).outs)):=
 fun p x=>u1u p x
theorem u7o (p:Prim) (x:Tup (v4p).scs):bodyRun opt p (autoEnvE [] PG) (mkOrc opt p (autoEnvE [] PG) 400 (an57) la57) 400 v4p x=u1u p x:=by kernel_rfl
theorem v75:z42 PG 57:=enters_auto (b:=_) rfl (by kernel_rfl)
theorem u5o:CtrOk PG v4p (u8m std):=ctr_of_body (autoEnvE_ok follows_mixed) (mkOrc_ok (autoEnvE_ok follows_mixed) u6t _) v75 (fun x=>u7o std x)
end Go.Am
end
noncomputable section
namespace Go.Am
def u3v:Ctr:=
 ⟨27,[.list 4],[],[(.ret,⟨[(0, .tuple [.vec 0 1, .int .i64])],[q8m],1⟩)]⟩
def la27:List LA:=
 [⟨27,[fF,tT,fF,tT,tT,tT,tT],0,⟨⟨[(5, .map 0),(6, .vec 1 1),(20, .list 4),(21, .int .i64),(22, .int .i64)],[.map,q8m],72⟩,[((AX.exit 0),⟨[(6, .vec 0 1)],[q8m],72⟩)]⟩⟩,
 ⟨27,[fF,tT,fF,tT,tT,fF,fF,tT,tT,fF,fF,tT,fF,tT,tT,tT,tT],0,⟨⟨[(5, .map 0),(6, .vec 1 1),(8, .bptr 2 0),(9, .int .i64),(20, .list 4),(21, .int .i64),(22, .int .i64),(27, .list 1),(28, .int .i64),(29, .int .i64)],q16m,72⟩,[((AX.exit 2),⟨[(5, .map 0),(6, .vec 1 1),(8, .bptr 2 0),(9, .int .i64),(20, .list 4),(21, .int .i64),(22, .int .i64)],q16m,72⟩)]⟩⟩,
 ⟨27,[fF,tT,tT,tT,tT,tT,tT,fF,fF,tT,tT,fF,fF,tT,fF,tT,tT,tT,tT],0,⟨⟨[(5, .map 0),(6, .vec 1 1),(9, .int .i64),(20, .list 4),(21, .int .i64),(22, .int .i64),(59, .list 1),(60, .int .i64),(61, .int .i64)],[.map,q8m],72⟩,[((AX.exit 4),⟨[(5, .map 0),(6, .vec 1 1),(20, .list 4),(21, .int .i64),(22, .int .i64)],[.map,q8m],72⟩)]⟩⟩]
def ja27:List JA:=
 [⟨27,[fF,tT,tT,fF,fF,tT,tT,tT,tT,tT,tT,fF,fF,tT,tT,fF,fF,tT,fF,tT,tT,tT,tT],0,[(AX.normal,⟨[(5, .map 0),(6, .vec 1 1),(9, .int .i64),(20, .list 4),(21, .int .i64),(22, .int .i64),(59, .list 1),(60, .int .i64),(61, .int .i64)],[.map,q8m],72⟩)]⟩,
 ⟨27,[tT,fF,tT,tT,tT,fF,fF,tT,tT,fF,fF,tT,fF,tT,tT,tT,tT],0,[(AX.normal,⟨[(5, .map 0),(6, .vec 1 1),(8, .bptr 2 0),(9, .int .i64),(20, .list 4),(21, .int .i64),(22, .int .i64)],q16m,72⟩)]⟩,
 ⟨27,[fF,tT,tT,fF,fF,tT,fF,tT,tT,fF,fF,tT,tT,fF,fF,tT,fF,tT,tT,tT,tT],0,[(AX.normal,⟨[(5, .map 0),(6, .vec 1 1),(8, .bptr 2 0),(9, .int .i64),(20, .list 4),(21, .int .i64),(22, .int .i64),(27, .list 1),(28, .int .i64),(29, .int .i64)],q16m,72⟩)]⟩]
def u7l:List CF:=
 [⟨v4p,u8m⟩,⟨w8g,F19⟩]
def an27:Anns:=
 ⟨u7l,ja27,[]⟩
def v68 (p:Prim):W31w→Option (W31w⊕W32w):=
 fun a=>let C:=a.2.2.2.2.2.2.2.2.1;let A:=D.int .i64 (p.rdI a.2.2.2.2.2.2.1 (p.nat C) 0);let B:=p.eqN (p.len a.2.1) (p.len a.2.1);let E:=D.int .i64 (p.ar .add .i64 a.2.2.1 (1:Int));let F:=p.eqN 0 0; opt.run _ (
 opt.ask _ (p.cmp .lss C a.2.2.2.2.2.2.2.1) (
 opt.bnd (W31w) _ (
 opt.run (W31w) (
 opt.need _ (p.rowOk a.2.2.2.2.2.2.1 (p.nat C) [ci])<|
 opt.need _ (p.cmp .geq C (0:Int))<|
 opt.need _ (p.mOk a.1 [SK.i] Bool.false A Bool.false [ci])<|
 opt.ask _ (p.mhas a.1 [SK.i] Bool.false A) (
 opt.need _ F<|
 opt.need _ B<|
 opt.ret _ ((p.mset a.1 (p.nat (p.ofNat (p.mpos a.1 [SK.i] Bool.false A))) A E),a.2)) (
 opt.need _ F<|
 opt.need _ B<|
 opt.ret _ ((p.madd a.1 A E),a.2)))) fun b=>
 opt.need _ F<|
 opt.need _ (p.eqN (p.len b.2.1) (p.len b.2.1))<|
 opt.ret _ (Sum.inl (b.1,(b.2.1,(b.2.2.1,(b.2.2.2.1,(b.2.2.2.2.1,(b.2.2.2.2.2.1,(b.2.2.2.2.2.2.1,(b.2.2.2.2.2.2.2.1,((p.ar .add .i64 b.2.2.2.2.2.2.2.2.1 (1:Int)),()))))))))))) (
 opt.need _ F<|
 opt.need _ B<|
 opt.ret _ (Sum.inr (a.1,(a.2.1,(a.2.2.2.1,(a.2.2.2.2.1,(a.2.2.2.2.2.1,()))))))))
def v69 (p:Prim):W19w→Option (W19w⊕W27w):=
 fun a=>let H:=a.2.2.2.2.2.2.2.2.2.2.1;let B:=a.2.2.2.2.2.2.2.2.2.2.2.2.1;let A:=D.int .i64 (p.rdI H (p.nat B) 0);let C:=p.eqN (p.len a.2.1) (p.len a.2.1);let E:=p.eqN 0 0;let F:=a.2.2.2.2.2.2.1;let G:=a.2.2.2.2.2.1; opt.run _ (
 opt.ask _ (p.cmp .lss B a.2.2.2.2.2.2.2.2.2.2.2.1) (
 opt.bnd (W19w) _ (
 opt.run (W19w) (
 opt.need _ (p.rowOk H (p.nat B) [ci])<|
 opt.need _ (p.cmp .geq B (0:Int))<|
 opt.need _ (p.mOk a.1 [SK.i] Bool.false A Bool.false [ci])<|
 opt.ask _ (p.mhas a.1 [SK.i] Bool.false A) (
 opt.need _ E<|
 opt.need _ C<|
 opt.ret _ (a.1,(a.2.1,(a.2.2.1,(a.2.2.2.1,(a.2.2.2.2.1,(G,((p.mm .gtr F (p.mI a.1 [SK.i] Bool.false A 0)),a.2.2.2.2.2.2.2)))))))) (
 opt.need _ E<|
 opt.need _ C<|
 opt.ret _ (a.1,(a.2.1,(a.2.2.1,(a.2.2.2.1,(a.2.2.2.2.1,(G,((p.mm .gtr F (0:Int)),a.2.2.2.2.2.2.2)))))))))) fun b=>
 opt.need _ E<|
 opt.need _ (p.eqN (p.len b.2.1) (p.len b.2.1))<|
 opt.ret _ (Sum.inl (b.1,(b.2.1,(b.2.2.1,(b.2.2.2.1,(b.2.2.2.2.1,(b.2.2.2.2.2.1,(b.2.2.2.2.2.2.1,(b.2.2.2.2.2.2.2.1,(b.2.2.2.2.2.2.2.2.1,(b.2.2.2.2.2.2.2.2.2.1,(b.2.2.2.2.2.2.2.2.2.2.1,(b.2.2.2.2.2.2.2.2.2.2.2.1,((p.ar .add .i64 b.2.2.2.2.2.2.2.2.2.2.2.2.1 (1:Int)),()))))))))))))))) (
 opt.need _ E<|
 opt.need _ C<|
 opt.ret _ (Sum.inr (a.1,(a.2.1,(a.2.2.1,(a.2.2.2.1,(a.2.2.2.2.1,(G,(F,(a.2.2.2.2.2.2.2.1,(a.2.2.2.2.2.2.2.2.1,(a.2.2.2.2.2.2.2.2.2.1,())))))))))))))
def v7a (p:Prim):W32w→Option (W32w⊕W14w):=
 fun a=>let M:=(0:Int);let N:=a.2.2.2.2.1;let C:=p.nat N;let O:=[[(D.list Bool.true 0 [])]];let G:=p.eqN 0 0;let J:=a.2.2.1;let K:=p.len a.2.1;let Q:=p.rdL J C 2; opt.run _ (
 opt.ask _ (p.cmp .lss N a.2.2.2.1) (
 opt.need _ (p.rowOk J C [ci,ci,(CK.list 1),ci])<|
 opt.need _ (p.cmp .geq N M)<|
 opt.need _ G<|
 opt.need _ (p.eqN K K)<|
 opt.bnd (W27w) _ (
 z5r (v69 p) (a.1,(a.2.1,((p.rdI J C 0),((p.rdI J C 1),(Q,((p.rdI J C 3),(M,(J,(a.2.2.2.1,(N,(Q,((p.ofNat (p.len Q)),(M,())))))))))))))) fun b=>let E:=p.len b.2.1;let F:=p.app (p.cut b.2.1 0 E) (p.cut O 0 1);
 opt.bnd (W27w) _ (
 opt.run (W27w) (
 opt.ask _ (p.cmp .eql b.2.2.2.2.2.2.1 (p.ofNat E)) (
 opt.need _ (p.and (p.leN (p.add 0 1) (p.len O)) (p.and (p.leN (p.add 0 E) E) (p.and (p.leN 1 1) (p.leN (p.add E 1) 1000000))))<|
 opt.need _ G<|
 opt.need _ (p.eqN (p.add E 1) (p.len F))<|
 opt.ret _ (b.1,(F,b.2.2))) (
 opt.need _ G<|
 opt.need _ (p.eqN E E)<|
 opt.ret _ b))) fun c=>let I:=c.2.2.2.2.2.2.1;let A:=p.add 0 (p.nat I);let B:=bif (p.cmp .geq I M) then (p.cmp .lss I (p.ofNat (p.len c.2.1))) else Bool.false;let L:=p.rowOk c.2.1 A [(CK.list 1)];let P:=[[(D.int .i64 c.2.2.1)]];
 opt.need _ B<|
 opt.need _ L<|
 opt.ask _ (p.rdF c.2.1 A 0 1) (
 opt.need _ (p.and (p.leN (p.add 0 1) (p.len P)) (p.and (p.leN 1 1) (p.leN (p.add (p.len (p.rdL c.2.1 A 0)) 1) 1000000)))<|
 opt.bnd (W14w) _ (u1u p ((p.app (p.rdL c.2.1 A 0) (p.cut P 0 1)),())) fun d=>let H:=p.set c.2.1 A [(D.list Bool.true 1 d.1)];
 opt.need _ B<|
 opt.need _ L<|
 opt.need _ G<|
 opt.need _ (p.eqN (p.len c.2.1) (p.len H))<|
 opt.bnd (W32w) _ (
 z5r (v68 p) (c.1,(H,(I,(c.2.2.2.2.2.2.2.1,(c.2.2.2.2.2.2.2.2.1,(c.2.2.2.2.2.2.2.2.2.1,(c.2.2.2.2.1,((p.ofNat (p.len c.2.2.2.2.1)),(M,())))))))))) fun e=>
 opt.need _ G<|
 opt.need _ (p.eqN (p.len e.2.1) (p.len e.2.1))<|
 opt.ret _ (Sum.inl (e.1,(e.2.1,(e.2.2.1,(e.2.2.2.1,((p.ar .add .i64 e.2.2.2.2.1 (1:Int)),()))))))) (
 opt.no _ 41)) (
 opt.need _ G<|
 opt.need _ (p.eqN K K)<|
 opt.ret _ (Sum.inr (a.2.1,()))))
def G27:(p:Prim)→W14w→Option ((LD×W0w)):=
 fun p x=>
 opt.bnd (W0w) _ (G19 p x) fun a=>
 opt.ask _ (p.cmp .neq a.1 (0:Int)) (
 opt.ret _ ([],a)) (
 opt.bnd (W14w) _ (
 z5r (v7a p) ([],([],(x.1,((p.ofNat (p.len x.1)),((0:Int),())))))) fun b=>
 opt.need _ (p.eqN 0 0)<|
 opt.need _ (p.eqN (p.len b.1) (p.len b.1))<|
 opt.ret _ (b.1,((0:Int),())))
theorem ok27:CtrOk PG u3v (G27 std):=okF vE1000003 (a:=an27) (l:=la27) (gC u5o (gC v2d (gN)))
end Go.Am
end
noncomputable section
namespace Go.Am
def u3t:Ctr:=
 ⟨36,[.list 4, .list 4],[],[(.ret,⟨[(0, .int .i64)],[],1⟩)]⟩
def la36:List LA:=
 [⟨36,[fF,tT,fF,tT,tT,tT],0,⟨⟨[(0, .list 4),(1, .list 4),(5, .int .i64)],[],85⟩,[(AX.ret,⟨[(4, .int .i64)],[],85⟩),((AX.exit 0),⟨[(0, .list 4),(1, .list 4)],[],85⟩)]⟩⟩,
 ⟨36,[fF,tT,fF,tT,tT,tT,tT],0,⟨⟨[(0, .list 4),(1, .list 4),(7, .int .i64)],[],85⟩,[(AX.ret,⟨[(4, .int .i64)],[],85⟩),((AX.exit 2),⟨[],[],85⟩)]⟩⟩,
 ⟨36,[fF,tT,fF,fF,tT,fF,fF,tT,fF,tT,tT,tT,tT],0,⟨⟨[(0, .list 4),(1, .list 4),(7, .int .i64),(8, .int .i64)],[],85⟩,[(AX.ret,⟨[(4, .int .i64)],[],85⟩),((AX.exit 4),⟨[(0, .list 4),(1, .list 4),(7, .int .i64)],[],85⟩)]⟩⟩]
def ja36:List JA:=
 [⟨36,[fF,tT,fF,fF,tT,fF,fF,tT,fF,fF,tT,fF,tT,tT,tT,tT],0,[(AX.ret,⟨[(4, .int .i64)],[],85⟩),(AX.normal,⟨[(0, .list 4),(1, .list 4),(7, .int .i64),(8, .int .i64)],[],85⟩)]⟩,
 ⟨36,[fF,tT,fF,fF,tT,fF,tT,tT,tT],0,[(AX.ret,⟨[(4, .int .i64)],[],85⟩),(AX.normal,⟨[(0, .list 4),(1, .list 4),(5, .int .i64)],[],85⟩)]⟩]
def u7j:List CF:=
 [⟨u1f,G44⟩,⟨u3m,G77⟩,⟨u1g,G43⟩,⟨u3i,G82⟩]
def an36:Anns:=
 ⟨u7j,ja36,[]⟩
def v57 (p:Prim):W20w→Option (W20w⊕(W0w⊕W16w)):=
 fun a=>let A:=p.nat a.2.2.2.1;let B:=p.nat a.2.2.1;let C:=[ci,ci,(CK.list 1),ci];let E:=p.cmp .geq a.2.2.2.1 (0:Int);let F:=p.cmp .geq a.2.2.1 (0:Int); opt.run _ (
 opt.ask _ (p.cmp .lss a.2.2.2.1 a.2.2.1) (
 opt.alt (W0w) (W20w) _ (
 opt.run ((W0w⊕W20w)) (
 opt.need _ (p.rowOk a.1 A C)<|
 opt.need _ E<|
 opt.need _ (p.rowOk a.1 B C)<|
 opt.need _ F<|
 opt.bnd (W3w) _ (G44 p ((p.rdI a.1 A 0),((p.rdI a.1 A 1),((p.rdL a.1 A 2),((p.rdI a.1 A 3),((p.rdI a.1 B 0),((p.rdI a.1 B 1),((p.rdL a.1 B 2),((p.rdI a.1 B 3),()))))))))) fun b=>
 opt.ask _ b.1 (
 opt.need _ (p.rowOk a.1 A C)<|
 opt.need _ E<|
 opt.bnd (W0w) _ (G43 p (a.2.1,((p.rdI a.1 A 0),()))) fun c=>
 opt.need _ (p.rowOk a.1 B C)<|
 opt.need _ F<|
 opt.bnd (W0w) _ (G43 p (a.2.1,((p.rdI a.1 B 0),()))) fun d=>
 opt.ask _ (p.cmp .gtr c.1 d.1) (
 opt.ret _ (Sum.inl ((24:Int),()))) (
 opt.ret _ (Sum.inr a))) (
 opt.ret _ (Sum.inr a)))) (fun e=>
 opt.ret _ (Sum.inr (Sum.inl e))) (fun f=>
 opt.bnd (W20w) _ (some f) fun g=>
 opt.ret _ (Sum.inl (g.1,(g.2.1,(g.2.2.1,((p.ar .add .i64 g.2.2.2.1 (1:Int)),()))))))) (
 opt.ret _ (Sum.inr (Sum.inr (a.1,(a.2.1,(a.2.2.1,())))))))
def v67 (p:Prim):W16w→Option (W16w⊕(W0w⊕Unit)):=
 fun a=>opt.run _ (
 opt.ask _ (p.cmp .lss a.2.2.1 (p.ofNat (p.len a.1))) (
 opt.alt (W0w) (W16w) _ (
 z5r (v57 p) (a.1,(a.2.1,(a.2.2.1,((0:Int),()))))) (fun b=>
 opt.ret _ (Sum.inr (Sum.inl b))) (fun c=>
 opt.bnd (W16w) _ (some c) fun d=>
 opt.ret _ (Sum.inl (d.1,(d.2.1,((p.ar .add .i64 d.2.2.1 (1:Int)),())))))) (
 opt.ret _ (Sum.inr (Sum.inr ()))))
def v5q (p:Prim):W16w→Option (W16w⊕(W0w⊕W29w)):=
 fun a=>let A:=p.nat a.2.2.1;let B:=[ci,ci,(CK.list 1),ci];let E:=p.cmp .geq a.2.2.1 (0:Int); opt.run _ (
 opt.ask _ (p.cmp .lss a.2.2.1 (p.ofNat (p.len a.1))) (
 opt.alt (W0w) (W16w) _ (
 opt.run ((W0w⊕W16w)) (
 opt.need _ (p.rowOk a.1 A B)<|
 opt.need _ E<|
 opt.bnd (W0w) _ (G43 p (a.2.1,((p.rdI a.1 A 0),()))) fun b=>let C:=p.nat b.1;
 opt.ask _ (p.cmp .lss b.1 (0:Int)) (
 opt.ret _ (Sum.inl ((15:Int),()))) (
 opt.need _ (p.rowOk a.1 A B)<|
 opt.need _ E<|
 opt.need _ (p.rowOk a.2.1 C B)<|
 opt.need _ (p.cmp .geq b.1 (0:Int))<|
 opt.bnd (W3w) _ (G77 p ((p.rdI a.1 A 0),((p.rdI a.1 A 1),((p.rdL a.1 A 2),((p.rdI a.1 A 3),((p.rdI a.2.1 C 0),((p.rdI a.2.1 C 1),((p.rdL a.2.1 C 2),((p.rdI a.2.1 C 3),()))))))))) fun c=>
 opt.ask _ (bif c.1 then Bool.false else Bool.true) (
 opt.ret _ (Sum.inl ((15:Int),()))) (
 opt.ret _ (Sum.inr a))))) (fun d=>
 opt.ret _ (Sum.inr (Sum.inl d))) (fun e=>
 opt.bnd (W16w) _ (some e) fun f=>
 opt.ret _ (Sum.inl (f.1,(f.2.1,((p.ar .add .i64 f.2.2.1 (1:Int)),())))))) (
 opt.ret _ (Sum.inr (Sum.inr (a.1,(a.2.1,()))))))
def G36:(p:Prim)→W29w→Option (W0w):=
 fun p x=>let A:=((0:Int),());
 opt.bnd (W0w) _ (G82 p x) fun a=>
 opt.ask _ (p.cmp .neq a.1 (0:Int)) (
 opt.bnd (W0w) _ (G82 p x) fun b=>
 opt.ret _ b) (
 opt.ask _ (p.cmp .neq (p.ofNat (p.len x.1)) (p.ofNat (p.len x.2.1))) (
 opt.ret _ ((15:Int),())) (
 opt.alt (W0w) (W29w) _ (
 z5r (v5q p) (x.1,(x.2.1,A))) (fun c=>
 opt.ret _ c) (fun d=>
 opt.bnd (W29w) _ (some d) fun e=>
 opt.alt (W0w) (Unit) _ (
 z5r (v67 p) (e.1,(e.2.1,A))) (fun f=>
 opt.ret _ f) (fun g=>
 opt.bnd (Unit) _ (some g) fun h=>
 opt.ret _ A))))
theorem ok36:CtrOk PG u3t (G36 std):=okF vE (a:=an36) (l:=la36) (gC u8j (gC ok77 (gC u8k (gC ok82 (gN)))))
end Go.Am
end
noncomputable section
namespace Go.Am
def v92:Ctr:=
 ⟨137,[.map 0, .list 1],[.map],[(.ret,⟨[(0, .int .i64)],[.map],1⟩)]⟩
def u6d:List LA:=
 [⟨137,[fF,tT,fF,tT],1,⟨⟨[(0, .map 0),(9, .list 1),(10, .int .i64),(11, .int .i64)],[.map],29⟩,[(AX.ret,⟨[(4, .int .i64)],[.map],29⟩),((AX.exit 0),⟨[],[.map],29⟩)]⟩⟩]
def u6n:List JA:=
 [⟨137,[fF,tT,tT,fF,fF,tT,fF,tT],1,[(AX.ret,⟨[(4, .int .i64)],[.map],29⟩),(AX.normal,⟨[(0, .map 0),(9, .list 1),(10, .int .i64),(11, .int .i64)],[.map],29⟩)]⟩]
def u3c:List CF:=
 []
def u7u:Anns:=
 ⟨u3c,u6n,[]⟩
def v37 (p:Prim):W25w→Option (W25w⊕(W4w⊕W8w)):=
 fun a=>let B:=a.2.2.2.1;let A:=D.int .i64 (p.rdI a.2.1 (p.nat B) 0); opt.run _ (
 opt.ask _ (p.cmp .lss B a.2.2.1) (
 opt.alt (W4w) (W25w) _ (
 opt.run ((W4w⊕W25w)) (
 opt.need _ (p.rowOk a.2.1 (p.nat B) [ci])<|
 opt.need _ (p.cmp .geq B (0:Int))<|
 opt.need _ (p.mOk a.1 [SK.i] Bool.false A Bool.true [ci,ci,ci,CK.bool])<|
 opt.ask _ (p.mhas a.1 [SK.i] Bool.false A) (
 opt.ask _ (p.mB a.1 [SK.i] Bool.false A 3) (
 opt.ret _ (Sum.inl (a.1,((9:Int),())))) (
 opt.ret _ (Sum.inr a))) (
 opt.ret _ (Sum.inl (a.1,((5:Int),())))))) (fun b=>
 opt.ret _ (Sum.inr (Sum.inl b))) (fun c=>
 opt.bnd (W25w) _ (some c) fun d=>
 opt.ret _ (Sum.inl (d.1,(d.2.1,(d.2.2.1,((p.ar .add .i64 d.2.2.2.1 (1:Int)),()))))))) (
 opt.ret _ (Sum.inr (Sum.inr (a.1,())))))
def v8o:(p:Prim)→W35w→Option (W4w):=
 fun p x=>
 opt.alt (W4w) (W8w) _ (
 z5r (v37 p) (x.1,(x.2.1,((p.ofNat (p.len x.2.1)),((0:Int),()))))) (fun a=>
 opt.ret _ a) (fun b=>
 opt.bnd (W8w) _ (some b) fun c=>
 opt.ret _ (c.1,((0:Int),())))
theorem u5t:CtrOk PG v92 (v8o std):=okF vD (a:=u7u) (l:=u6d) (gN)
def v93:Ctr:=
 ⟨136,[.map 0, .int .i64, .int .i64],[.map],[(.ret,⟨[(0, .int .i64)],[.map],1⟩)]⟩
def u6e:List LA:=
 []
def u6o:List JA:=
 []
def u3d:List CF:=
 []
def u7v:Anns:=
 ⟨u3d,u6o,[]⟩
def v9s:(p:Prim)→(List (W21w)×W34w)→Option (W4w):=
 fun p x=>let A:=D.int .i64 x.2.1;let E:=(0:Int);let B:=D.agg [A,(D.int .i64 x.2.2.1),(D.int .i64 E),(D.bool Bool.false)];let J:=[SK.i];let C:=p.mOk x.1 J Bool.false A Bool.true [ci,ci,ci,CK.bool];let F:=((p.mset x.1 (p.nat (p.ofNat (p.mpos x.1 J Bool.false A))) A B),(E,()));let G:=p.mhas x.1 J Bool.false A;let H:=p.cmp .eql E E;let I:=((p.madd x.1 A B),(E,()));let K:=(x.1,((11:Int),()));
 opt.need _ C<|
 opt.ask _ G (
 opt.ask _ (bif (bif (p.cmp .eql (p.mI x.1 J Bool.false A 0) E) then (bif (p.cmp .eql (p.mI x.1 J Bool.false A 1) E) then (bif (p.cmp .eql (p.mI x.1 J Bool.false A 2) E) then (bif (p.bEq (p.mB x.1 J Bool.false A 3) Bool.false) then Bool.true else Bool.false) else Bool.false) else Bool.false) else Bool.false) then Bool.false else Bool.true) (
 opt.ret _ K) (
 opt.need _ C<|
 opt.ask _ G (
 opt.ret _ F) (
 opt.ret _ I))) (
 opt.ask _ (bif (bif H then (bif H then (bif H then (bif (p.bEq Bool.false Bool.false) then Bool.true else Bool.false) else Bool.false) else Bool.false) else Bool.false) then Bool.false else Bool.true) (
 opt.ret _ K) (
 opt.need _ C<|
 opt.ask _ G (
 opt.ret _ F) (
 opt.ret _ I)))
theorem u5u:CtrOk PG v93 (v9s std):=okF vD (a:=u7v) (l:=u6e) (gN)
def v9z:Ctr:=
 ⟨140,[.bptr 0 0, .int .i64],[q1m],[(.ret,⟨[(0, .tuple [])],[q1m],1⟩)]⟩
def u6a:List LA:=
 []
def u6k:List JA:=
 []
def u2z:List CF:=
 []
def u7r:Anns:=
 ⟨u2z,u6k,[]⟩
def u4y:(p:Prim)→W30w→Option (W18w):=
 fun p x=>
 opt.ret _ (x.1,(x.2.1,(x.2.2.2.2.1,(x.2.2.2.1,()))))
theorem u5q:CtrOk PG v9z (u4y std):=okF vD (a:=u7r) (l:=u6a) (gN)
def v90:Ctr:=
 ⟨139,[.map 0, .int .i64, .int .i64, .int .i64, .int .i64, .clo 140 [] []],[.map],[(.ret,⟨[(0, .int .i64)],[.map],1⟩)]⟩
def u6b:List LA:=
 []
def u6l:List JA:=
 []
def u3a:List CF:=
 [⟨v9z,u4y⟩,⟨w8e,F56⟩]
def u7s:Anns:=
 ⟨u3a,u6l,[]⟩
def u2g:(p:Prim)→(List (W21w)×W12w)→Option (W4w):=
 fun p x=>let A:=D.int .i64 x.2.1;let I:=[SK.i];let B:=p.mOk x.1 I Bool.false A Bool.true [ci,ci,ci,CK.bool];let F:=p.mhas x.1 I Bool.false A;let G:=p.nat (p.ofNat (p.mpos x.1 I Bool.false A));let H:=(0:Int);
 opt.bnd (W3w) _ (G56 p (x.2.2.2.1,(x.2.2.2.2.1,([[(D.int .i64 x.2.2.1)]],())))) fun a=>
 opt.ask _ (bif a.1 then Bool.false else Bool.true) (
 opt.ret _ (x.1,((4:Int),()))) (
 opt.need _ B<|
 opt.ask _ F (
 opt.bnd (W18w) _ (u4y p ((p.mI x.1 I Bool.false A 0),((p.mI x.1 I Bool.false A 1),((p.mI x.1 I Bool.false A 2),((p.mB x.1 I Bool.false A 3),(x.2.2.1,())))))) fun b=>let E:=D.agg [(D.int .i64 b.1),(D.int .i64 b.2.1),(D.int .i64 b.2.2.1),(D.bool b.2.2.2.1)];
 opt.need _ B<|
 opt.ask _ F (
 opt.ret _ ((p.mset x.1 G A E),(H,()))) (
 opt.ret _ ((p.madd x.1 A E),(H,())))) (
 opt.bnd (W18w) _ (u4y p (H,(H,(H,(Bool.false,(x.2.2.1,())))))) fun c=>let C:=D.agg [(D.int .i64 c.1),(D.int .i64 c.2.1),(D.int .i64 c.2.2.1),(D.bool c.2.2.2.1)];
 opt.need _ B<|
 opt.ask _ F (
 opt.ret _ ((p.mset x.1 G A C),(H,()))) (
 opt.ret _ ((p.madd x.1 A C),(H,())))))
theorem u5r:CtrOk PG v90 (u2g std):=okF vD (a:=u7s) (l:=u6b) (gC u5q (gC ok56 (gN)))
def v9y:Ctr:=
 ⟨141,[.bptr 0 0, .int .i64],[q1m],[(.ret,⟨[(0, .tuple [])],[q1m],1⟩)]⟩
def u5z:List LA:=
 []
def u6j:List JA:=
 []
def u2y:List CF:=
 []
def u7q:Anns:=
 ⟨u2y,u6j,[]⟩
def u4x:(p:Prim)→W30w→Option (W18w):=
 fun p x=>
 opt.ret _ (x.1,(x.2.2.2.2.1,(x.2.2.1,(x.2.2.2.1,()))))
theorem u5p:CtrOk PG v9y (u4x std):=okF vD (a:=u7q) (l:=u5z) (gN)
def v6o:Ctr:=
 ⟨139,[.map 0, .int .i64, .int .i64, .int .i64, .int .i64, .clo 141 [] []],[.map],[(.ret,⟨[(0, .int .i64)],[.map],1⟩)]⟩
def u0x:List LA:=
 []
def u0z:List JA:=
 []
def v82:List CF:=
 [⟨v9y,u4x⟩,⟨w8e,F56⟩]
def u1q:Anns:=
 ⟨v82,u0z,[]⟩
def v4u:(p:Prim)→(List (W21w)×W12w)→Option (W4w):=
 fun p x=>let A:=D.int .i64 x.2.1;let I:=[SK.i];let B:=p.mOk x.1 I Bool.false A Bool.true [ci,ci,ci,CK.bool];let F:=p.mhas x.1 I Bool.false A;let G:=p.nat (p.ofNat (p.mpos x.1 I Bool.false A));let H:=(0:Int);
 opt.bnd (W3w) _ (G56 p (x.2.2.2.1,(x.2.2.2.2.1,([[(D.int .i64 x.2.2.1)]],())))) fun a=>
 opt.ask _ (bif a.1 then Bool.false else Bool.true) (
 opt.ret _ (x.1,((4:Int),()))) (
 opt.need _ B<|
 opt.ask _ F (
 opt.bnd (W18w) _ (u4x p ((p.mI x.1 I Bool.false A 0),((p.mI x.1 I Bool.false A 1),((p.mI x.1 I Bool.false A 2),((p.mB x.1 I Bool.false A 3),(x.2.2.1,())))))) fun b=>let E:=D.agg [(D.int .i64 b.1),(D.int .i64 b.2.1),(D.int .i64 b.2.2.1),(D.bool b.2.2.2.1)];
 opt.need _ B<|
 opt.ask _ F (
 opt.ret _ ((p.mset x.1 G A E),(H,()))) (
 opt.ret _ ((p.madd x.1 A E),(H,())))) (
 opt.bnd (W18w) _ (u4x p (H,(H,(H,(Bool.false,(x.2.2.1,())))))) fun c=>let C:=D.agg [(D.int .i64 c.1),(D.int .i64 c.2.1),(D.int .i64 c.2.2.1),(D.bool c.2.2.2.1)];
 opt.need _ B<|
 opt.ask _ F (
 opt.ret _ ((p.mset x.1 G A C),(H,()))) (
 opt.ret _ ((p.madd x.1 A C),(H,())))))
theorem u0q:CtrOk PG v6o (v4u std):=okF vD (a:=u1q) (l:=u0x) (gC u5p (gC ok56 (gN)))
def v91:Ctr:=
 ⟨138,[.bptr 0 0, .int .i64],[q1m],[(.ret,⟨[(0, .tuple [])],[q1m],1⟩)]⟩
def u6c:List LA:=
 []
def u6m:List JA:=
 []
def u3b:List CF:=
 []
def u7t:Anns:=
 ⟨u3b,u6m,[]⟩
def u4z:(p:Prim)→W30w→Option (W18w):=
 fun p x=>
 opt.ret _ (x.1,(x.2.1,(x.2.2.1,(Bool.true,()))))
theorem u5s:CtrOk PG v91 (u4z std):=okF vD (a:=u7t) (l:=u6c) (gN)
def v6n:Ctr:=
 ⟨139,[.map 0, .int .i64, .int .i64, .int .i64, .int .i64, .clo 138 [] []],[.map],[(.ret,⟨[(0, .int .i64)],[.map],1⟩)]⟩
def u0w:List LA:=
 []
def u0y:List JA:=
 []
def v81:List CF:=
 [⟨v91,u4z⟩,⟨w8e,F56⟩]
def u1p:Anns:=
 ⟨v81,u0y,[]⟩
def v3s:(p:Prim)→(List (W21w)×W12w)→Option (W4w):=
 fun p x=>let A:=D.int .i64 x.2.1;let I:=[SK.i];let B:=p.mOk x.1 I Bool.false A Bool.true [ci,ci,ci,CK.bool];let F:=p.mhas x.1 I Bool.false A;let G:=p.nat (p.ofNat (p.mpos x.1 I Bool.false A));let H:=(0:Int);
 opt.bnd (W3w) _ (G56 p (x.2.2.2.1,(x.2.2.2.2.1,([[(D.int .i64 x.2.2.1)]],())))) fun a=>
 opt.ask _ (bif a.1 then Bool.false else Bool.true) (
 opt.ret _ (x.1,((4:Int),()))) (
 opt.need _ B<|
 opt.ask _ F (
 opt.bnd (W18w) _ (u4z p ((p.mI x.1 I Bool.false A 0),((p.mI x.1 I Bool.false A 1),((p.mI x.1 I Bool.false A 2),((p.mB x.1 I Bool.false A 3),(x.2.2.1,())))))) fun b=>let E:=D.agg [(D.int .i64 b.1),(D.int .i64 b.2.1),(D.int .i64 b.2.2.1),(D.bool b.2.2.2.1)];
 opt.need _ B<|
 opt.ask _ F (
 opt.ret _ ((p.mset x.1 G A E),(H,()))) (
 opt.ret _ ((p.madd x.1 A E),(H,())))) (
 opt.bnd (W18w) _ (u4z p (H,(H,(H,(Bool.false,(x.2.2.1,())))))) fun c=>let C:=D.agg [(D.int .i64 c.1),(D.int .i64 c.2.1),(D.int .i64 c.2.2.1),(D.bool c.2.2.2.1)];
 opt.need _ B<|
 opt.ask _ F (
 opt.ret _ ((p.mset x.1 G A C),(H,()))) (
 opt.ret _ ((p.madd x.1 A C),(H,())))))
theorem u0p:CtrOk PG v6n (v3s std):=okF vD (a:=u1p) (l:=u0w) (gC u5s (gC ok56 (gN)))
def v97:Ctr:=
 ⟨110,[.map 0, .agg [.int .i64, .int .i64, .list 1, .int .i64]],[.map],[(.ret,⟨[(0, .int .i64)],[.map],1⟩)]⟩
def u6i:List LA:=
 []
def u6s:List JA:=
 [⟨110,[tT,fF,tT,tT,tT,tT],1,[(AX.normal,⟨[(0, .map 0),(3, .bptr 1 0),(5, .int .i64),(6, .list 1)],[.map,q0m],135⟩)]⟩,
 ⟨110,[tT,tT,tT,tT,tT,fF,tT,tT,fF,tT,tT,tT,tT,tT,tT,tT],1,[(AX.ret,⟨[(4, .int .i64)],[.map],135⟩),(AX.normal,⟨[],[.map],135⟩)]⟩,
 ⟨110,[tT,tT,tT,fF,tT,tT,fF,tT,tT,tT,tT,tT,tT,tT],1,[(AX.ret,⟨[(4, .int .i64)],[.map],135⟩),(AX.normal,⟨[],[.map],135⟩)]⟩,
 ⟨110,[tT,fF,tT,tT,fF,tT,tT,tT,tT,tT,tT,tT],1,[(AX.ret,⟨[(4, .int .i64)],[.map],135⟩),(AX.normal,⟨[],[.map],135⟩)]⟩,
 ⟨110,[tT,tT,tT,tT,tT,tT,tT,fF,tT,tT,fF,tT,tT,tT,tT,tT,tT,tT],1,[(AX.ret,⟨[(4, .int .i64)],[.map],135⟩),(AX.normal,⟨[],[.map],135⟩)]⟩]
def u3h:List CF:=
 [⟨v6n,v3s⟩,⟨v6o,v4u⟩,⟨v90,u2g⟩,⟨v92,v8o⟩,⟨v93,v9s⟩,⟨w8e,F56⟩]
def u7z:Anns:=
 ⟨u3h,u6s,[]⟩
def v4c:(p:Prim)→(List (W21w)×W24w)→Option (W4w):=
 fun p x=>let A2:=(1:Int);let C:=(0:Int);let A4:=[SK.i];let A3:=[ci,ci,ci,CK.bool];let A6:=x.2.2.2.1;let J:=p.ofNat (p.len A6);let B7:=(1000:Int);let A9:=(A2,((1000000:Int),()));let A8:=p.nat C;let R:=p.cut A6 A8 (p.sub (p.nat J) A8);let V:=p.cmp .neq B7 C;let Z:=p.rdI A6 A8 0;let B5:=(C,((10000:Int),()));
 opt.need _ (p.rowOk A6 A8 [ci])<|
 opt.ask _ (p.cmp .eql x.2.2.1 A2) (
 opt.bnd (W4w) _ (v9s p (x.1,(Z,x.2.2.2.2))) fun a=>
 opt.ret _ a) (
 opt.need _ (p.and (p.cmp .geq C C) (p.and (p.cmp .leq C J) (p.and (p.cmp .leq J J) (p.cmp .leq J J))))<|
 opt.bnd (W39w) _ (
 opt.run (W39w) (
 opt.ask _ (p.cmp .eql x.2.2.1 (4:Int)) (
 opt.need _ (p.and (p.cmp .geq C C) (p.and (p.cmp .leq C A2) (p.cmp .leq A2 (p.ofNat (p.len R)))))<|
 opt.ret _ (x.1,(x.2.1,(x.2.2.1,(A6,(x.2.2.2.2.1,(Z,((p.cut R A8 (p.sub (p.nat A2) A8)),())))))))) (
 opt.ret _ (x.1,(x.2.1,(x.2.2.1,(A6,(x.2.2.2.2.1,(Z,(R,())))))))))) fun b=>let B6:=b.2.2.2.1;let X:=p.rdI B6 (p.nat A2) 0;let A:=D.int .i64 X;let B:=D.int .i64 (p.rdI B6 (p.nat (2:Int)) 0);let M:=b.2.2.2.2.2.1;let A5:=D.int .i64 M;let F:=p.rowOk B6 (p.nat A2) [ci];let Q:=b.2.2.2.2.1;let G:=p.ar .sub .i64 C Q;let N:=p.rowOk B6 (p.nat (2:Int)) [ci];let Y:=(M,(C,(C,(C,()))));let A7:=b.2.2.1;let B1:=p.cmp .eql A7 (5:Int);let B2:=p.cmp .eql A7 (4:Int);let B3:=p.cmp .eql A7 (3:Int);let B4:=p.cmp .eql A7 (2:Int);
 opt.bnd (W4w) _ (v8o p (b.1,b.2.2.2.2.2.2)) fun c=>let E:=p.mI c.1 A4 Bool.false A5 1;let H:=p.mOk c.1 A4 Bool.false B Bool.true A3;let I:=p.mOk c.1 A4 Bool.false A Bool.true A3;let O:=p.mI c.1 A4 Bool.false A 1;let K:=v4u p (c.1,(M,((p.ar .quo .i64 (p.ar .mul .i64 O Q) B7),A9)));let L:=(c.1,((23:Int),()));let P:=v4u p (c.1,(M,((p.ar .quo .i64 (p.ar .mul .i64 C Q) B7),A9)));let S:=p.mhas c.1 A4 Bool.false B;let T:=p.mhas c.1 A4 Bool.false A;let U:=p.mI c.1 A4 Bool.false B 1;let A1:=(c.1,());
 opt.ask _ (p.cmp .neq c.2.1 C) (
 opt.ret _ c) (
 opt.need _ (p.mOk c.1 A4 Bool.false A5 Bool.true A3)<|
 opt.ask _ (p.mhas c.1 A4 Bool.false A5) (
 opt.alt (W4w) (W8w) _ (
 opt.run ((W4w⊕W8w)) (
 opt.ask _ B4 (
 opt.bnd (W4w) _ (u2g p (c.1,(M,((p.ar .add .i64 (p.mI c.1 A4 Bool.false A5 2) Q),B5)))) fun d=>
 opt.ret _ (Sum.inl d)) (
 opt.alt (W4w) (W8w) _ (
 opt.run ((W4w⊕W8w)) (
 opt.ask _ B3 (
 opt.need _ F<|
 opt.need _ I<|
 opt.ask _ T (
 opt.need _ V<|
 opt.bnd (W4w) _ K fun e=>
 opt.ret _ (Sum.inl e)) (
 opt.need _ V<|
 opt.bnd (W4w) _ P fun f=>
 opt.ret _ (Sum.inl f))) (
 opt.alt (W4w) (W8w) _ (
 opt.run ((W4w⊕W8w)) (
 opt.ask _ B2 (
 opt.need _ F<|
 opt.bnd (W4w) _ (v9s p (c.1,(X,(E,())))) fun g=>
 opt.ask _ (p.cmp .neq g.2.1 C) (
 opt.ret _ (Sum.inl g)) (
 opt.bnd (W4w) _ (v3s p (g.1,Y)) fun h=>
 opt.ret _ (Sum.inl h))) (
 opt.alt (W4w) (W8w) _ (
 opt.run ((W4w⊕W8w)) (
 opt.ask _ B1 (
 opt.bnd (W4w) _ (v3s p (c.1,Y)) fun i=>
 opt.ret _ (Sum.inl i)) (
 opt.need _ F<|
 opt.need _ I<|
 opt.ask _ T (
 opt.need _ N<|
 opt.need _ H<|
 opt.ask _ S (
 opt.bnd (W3w) _ (G56 p (G,(Q,([[(D.int .i64 (p.ar .sub .i64 (p.ar .add .i64 E O) U))]],())))) fun j=>
 opt.ask _ (bif j.1 then Bool.false else Bool.true) (
 opt.ret _ (Sum.inl L)) (
 opt.ret _ (Sum.inr A1))) (
 opt.bnd (W3w) _ (G56 p (G,(Q,([[(D.int .i64 (p.ar .sub .i64 (p.ar .add .i64 E O) C))]],())))) fun k=>
 opt.ask _ (bif k.1 then Bool.false else Bool.true) (
 opt.ret _ (Sum.inl L)) (
 opt.ret _ (Sum.inr A1)))) (
 opt.need _ N<|
 opt.need _ H<|
 opt.ask _ S (
 opt.bnd (W3w) _ (G56 p (G,(Q,([[(D.int .i64 (p.ar .sub .i64 (p.ar .add .i64 E C) U))]],())))) fun l=>
 opt.ask _ (bif l.1 then Bool.false else Bool.true) (
 opt.ret _ (Sum.inl L)) (
 opt.ret _ (Sum.inr A1))) (
 opt.bnd (W3w) _ (G56 p (G,(Q,([[(D.int .i64 (p.ar .sub .i64 (p.ar .add .i64 E C) C))]],())))) fun m=>
 opt.ask _ (bif m.1 then Bool.false else Bool.true) (
 opt.ret _ (Sum.inl L)) (
 opt.ret _ (Sum.inr A1))))))) (fun n=>
 opt.ret _ (Sum.inl n)) (fun o=>
 opt.bnd (W8w) _ (some o) fun q=>
 opt.ret _ (Sum.inr q))))) (fun r=>
 opt.ret _ (Sum.inl r)) (fun t=>
 opt.bnd (W8w) _ (some t) fun u=>
 opt.ret _ (Sum.inr u))))) (fun v=>
 opt.ret _ (Sum.inl v)) (fun w=>
 opt.bnd (W8w) _ (some w) fun z=>
 opt.ret _ (Sum.inr z))))) (fun a1=>
 opt.ret _ a1) (fun b1=>
 opt.bnd (W8w) _ (some b1) fun c1=>
 opt.ret _ (c1.1,(C,())))) (
 opt.alt (W4w) (W8w) _ (
 opt.run ((W4w⊕W8w)) (
 opt.ask _ B4 (
 opt.bnd (W4w) _ (u2g p (c.1,(M,((p.ar .add .i64 C Q),B5)))) fun d1=>
 opt.ret _ (Sum.inl d1)) (
 opt.alt (W4w) (W8w) _ (
 opt.run ((W4w⊕W8w)) (
 opt.ask _ B3 (
 opt.need _ F<|
 opt.need _ I<|
 opt.ask _ T (
 opt.need _ V<|
 opt.bnd (W4w) _ K fun e1=>
 opt.ret _ (Sum.inl e1)) (
 opt.need _ V<|
 opt.bnd (W4w) _ P fun f1=>
 opt.ret _ (Sum.inl f1))) (
 opt.alt (W4w) (W8w) _ (
 opt.run ((W4w⊕W8w)) (
 opt.ask _ B2 (
 opt.need _ F<|
 opt.bnd (W4w) _ (v9s p (c.1,(X,(C,())))) fun g1=>
 opt.ask _ (p.cmp .neq g1.2.1 C) (
 opt.ret _ (Sum.inl g1)) (
 opt.bnd (W4w) _ (v3s p (g1.1,Y)) fun h1=>
 opt.ret _ (Sum.inl h1))) (
 opt.alt (W4w) (W8w) _ (
 opt.run ((W4w⊕W8w)) (
 opt.ask _ B1 (
 opt.bnd (W4w) _ (v3s p (c.1,Y)) fun i1=>
 opt.ret _ (Sum.inl i1)) (
 opt.need _ F<|
 opt.need _ I<|
 opt.ask _ T (
 opt.need _ N<|
 opt.need _ H<|
 opt.ask _ S (
 opt.bnd (W3w) _ (G56 p (G,(Q,([[(D.int .i64 (p.ar .sub .i64 (p.ar .add .i64 C O) U))]],())))) fun j1=>
 opt.ask _ (bif j1.1 then Bool.false else Bool.true) (
 opt.ret _ (Sum.inl L)) (
 opt.ret _ (Sum.inr A1))) (
 opt.bnd (W3w) _ (G56 p (G,(Q,([[(D.int .i64 (p.ar .sub .i64 (p.ar .add .i64 C O) C))]],())))) fun k1=>
 opt.ask _ (bif k1.1 then Bool.false else Bool.true) (
 opt.ret _ (Sum.inl L)) (
 opt.ret _ (Sum.inr A1)))) (
 opt.need _ N<|
 opt.need _ H<|
 opt.ask _ S (
 opt.bnd (W3w) _ (G56 p (G,(Q,([[(D.int .i64 (p.ar .sub .i64 (p.ar .add .i64 C C) U))]],())))) fun l1=>
 opt.ask _ (bif l1.1 then Bool.false else Bool.true) (
 opt.ret _ (Sum.inl L)) (
 opt.ret _ (Sum.inr A1))) (
 opt.bnd (W3w) _ (G56 p (G,(Q,([[(D.int .i64 (p.ar .sub .i64 (p.ar .add .i64 C C) C))]],())))) fun m1=>
 opt.ask _ (bif m1.1 then Bool.false else Bool.true) (
 opt.ret _ (Sum.inl L)) (
 opt.ret _ (Sum.inr A1))))))) (fun n1=>
 opt.ret _ (Sum.inl n1)) (fun o1=>
 opt.bnd (W8w) _ (some o1) fun q1=>
 opt.ret _ (Sum.inr q1))))) (fun r1=>
 opt.ret _ (Sum.inl r1)) (fun t1=>
 opt.bnd (W8w) _ (some t1) fun u1=>
 opt.ret _ (Sum.inr u1))))) (fun v1=>
 opt.ret _ (Sum.inl v1)) (fun w1=>
 opt.bnd (W8w) _ (some w1) fun z1=>
 opt.ret _ (Sum.inr z1))))) (fun a2=>
 opt.ret _ a2) (fun b2=>
 opt.bnd (W8w) _ (some b2) fun c2=>
 opt.ret _ (c2.1,(C,()))))))
theorem u5y:CtrOk PG v97 (v4c std):=okF vD (a:=u7z) (l:=u6i) (gC u0p (gC u0q (gC u5r (gC u5t (gC u5u (gC ok56 (gN)))))))
def u3r:Ctr:=
 ⟨61,[.list 4],[],[(.ret,⟨[(0, .tuple [.map 0, .vec 1 1])],[.map,q11m],1⟩)]⟩
def la61:List LA:=
 [⟨61,[fF,tT,fF,tT,tT,tT,tT],0,⟨⟨[(4, .map 0),(5, .clo 110 [.map 0] []),(6, .vec 1 1),(12, .list 4),(13, .int .i64),(14, .int .i64)],[.map,q11m],27⟩,[((AX.exit 0),⟨[(4, .map 0),(6, .vec 1 1)],[.map,q11m],27⟩)]⟩⟩]
def ja61:List JA:=
 []
def u7f:List CF:=
 [⟨v97,v4c⟩]
def an61:Anns:=
 ⟨u7f,ja61,[]⟩
def v8g (p:Prim):W32w→Option (W32w⊕W35w):=
 fun a=>let A:=p.len a.2.1;let E:=a.2.2.2.2.1;let B:=p.nat E;let F:=a.2.2.1; opt.run _ (
 opt.ask _ (p.cmp .lss E a.2.2.2.1) (
 opt.need _ (p.rowOk F B [ci,ci,(CK.list 1),ci])<|
 opt.need _ (p.cmp .geq E (0:Int))<|
 opt.bnd (W4w) _ (v4c p (a.1,((p.rdI F B 0),((p.rdI F B 1),((p.rdL F B 2),((p.rdI F B 3),())))))) fun b=>let G:=[[(D.int .i64 b.2.1)]];let C:=p.app (p.cut a.2.1 0 A) (p.cut G 0 1);
 opt.need _ (p.and (p.leN (p.add 0 1) (p.len G)) (p.and (p.leN (p.add 0 A) A) (p.and (p.leN 1 1) (p.leN (p.add A 1) 1000000))))<|
 opt.need _ (p.eqN 0 0)<|
 opt.need _ (p.eqN (p.add A 1) (p.len C))<|
 opt.ret _ (Sum.inl (b.1,(C,(F,(a.2.2.2.1,((p.ar .add .i64 E (1:Int)),()))))))) (
 opt.need _ (p.eqN 0 0)<|
 opt.need _ (p.eqN A A)<|
 opt.ret _ (Sum.inr (a.1,(a.2.1,())))))
def G61:(p:Prim)→W14w→Option (W35w):=
 fun p x=>
 opt.bnd (W35w) _ (
 z5r (v8g p) ([],([],(x.1,((p.ofNat (p.len x.1)),((0:Int),())))))) fun a=>
 opt.need _ (p.eqN 0 0)<|
 opt.need _ (p.eqN (p.len a.2.1) (p.len a.2.1))<|
 opt.ret _ a
theorem ok61:CtrOk PG u3r (G61 std):=okF vD (a:=an61) (l:=la61) (gC u5y (gN))
def u3w:Ctr:=
 ⟨21,[.list 4],[],[(.ret,⟨[(0, .tuple [.vec 0 1, .int .i64])],[q11m],1⟩)]⟩
def la21:List LA:=
 []
def ja21:List JA:=
 []
def u7m:List CF:=
 [⟨u3r,G61⟩,⟨w8g,F19⟩]
def an21:Anns:=
 ⟨u7m,ja21,[]⟩
def G21:(p:Prim)→W14w→Option ((LD×W0w)):=
 fun p x=>
 opt.bnd (W0w) _ (G19 p x) fun a=>
 opt.ask _ (p.cmp .neq a.1 (0:Int)) (
 opt.ret _ ([],a)) (
 opt.bnd (W35w) _ (G61 p x) fun b=>
 opt.need _ (p.eqN 0 0)<|
 opt.need _ (p.eqN (p.len b.2.1) (p.len b.2.1))<|
 opt.ret _ (b.2.1,((0:Int),())))
theorem ok21:CtrOk PG u3w (G21 std):=okF vD (a:=an21) (l:=la21) (gC ok61 (gC v2d (gN)))
end Go.Am
end
section
namespace Go.Am
open D12
variable {fl fl':List Int→Bool}
def u2c (l:List Cd):Bool:=!x8g l&&decide (z4y l=0)
theorem u4t (l:List Cd):G41 std (z0p fl l,())=some (u2c l,()):=by
 unfold G41 u2c
 cases h:x8g l with
 |true=>simp only [z2d,z2e,z4b,Int.reduceLT,Int.reduceEq,Int.reduceLE,w3t,h]; simp
 |false=>
  simp only [z2d,z2e,z4b,Int.reduceLT,Int.reduceEq,Int.reduceLE,w3t,h,w8x l (x0p h).1]
def v4e (a b:List Cd):Int:=if z4y a≠0 then z4y a else z4y b
theorem u4j (a b:List Cd) (ha:Few a) (hb:Few b):G82 std (z0p fl a,(z0p fl' b,()))=some (v4e a b,()):=by
 unfold G82 v4e
 by_cases h:z4y a=0
 ·simp only [z2d,z2e,z4b,Int.reduceLT,Int.reduceEq,Int.reduceLE,w8x a ha,w8x b hb,h]; simp
 ·simp only [z2d,z2e,z4b,Int.reduceLT,Int.reduceEq,Int.reduceLE,w8x a ha,w8x b hb,h]; simp [h]
end Go.Am
end
section
namespace Go.Am
open D12
variable {fl fl':List Int→Bool}
theorem u4m (a b:List Cd) (ha:Few a) (hb:Few b):G78 std (z0p fl a,(z0p fl' b,()))=some (v4e a b,()):=by
 unfold G78 v4e
 by_cases h:z4y a=0
 ·simp only [z2d,z2e,z4b,Int.reduceLT,Int.reduceEq,Int.reduceLE,w3q a ha,w3q b hb,h]; simp
 ·simp only [z2d,z2e,z4b,Int.reduceLT,Int.reduceEq,Int.reduceLE,w3q a ha,w3q b hb,h]; simp [h]
end Go.Am
end
noncomputable section
namespace Go.Am
def ctr8:Ctr:=
 ⟨8,[.list 4],[],[(.ret,⟨[(0, .bool)],[],1⟩)]⟩
def la8:List LA:=
 [⟨8,[fF,tT,fF,tT,tT,tT,tT,tT],0,⟨⟨[(0, .list 4),(3, .vec 0 1),(5, .vec 1 4),(6, .vec 2 4),(7, .int .i64)],[q8m,q5m,q5m],191⟩,[(AX.ret,⟨[(2, .bool)],[],191⟩),((AX.exit 0),⟨[(0, .list 4),(5, .vec 0 4)],[q5m],191⟩)]⟩⟩,
 ⟨8,[fF,tT,fF,tT,fF,fF,tT,fF,fF,tT,fF,tT,tT,tT,tT,tT],0,⟨⟨[(0, .list 4),(3, .vec 0 1),(5, .vec 1 4),(6, .vec 2 4),(7, .int .i64),(8, .vec 3 4),(9, .int .i64)],q14m,191⟩,[(AX.ret,⟨[(2, .bool)],[],191⟩),((AX.exit 2),⟨[(0, .list 4),(3, .vec 0 1),(5, .vec 1 4),(7, .int .i64),(8, .vec 2 4)],[q8m,q5m,q5m],191⟩)]⟩⟩,
 ⟨8,[fF,tT,fF,tT,tT,tT,fF,fF,tT,fF,fF,tT,fF,tT,fF,fF,tT,fF,fF,tT,fF,tT,tT,tT,tT,tT],0,⟨⟨[(0, .list 4),(3, .vec 0 1),(5, .vec 1 4),(6, .vec 2 4),(7, .int .i64),(8, .vec 3 4),(9, .int .i64),(10, .int .i64),(11, .bool),(12, .int .i64)],q14m,191⟩,[((AX.exit 4),⟨[(0, .list 4),(3, .vec 0 1),(5, .vec 1 4),(6, .vec 2 4),(7, .int .i64),(8, .vec 3 4),(9, .int .i64),(10, .int .i64),(11, .bool)],q14m,191⟩)]⟩⟩,
 ⟨8,[fF,tT,fF,tT,tT,tT,tT,fF,fF,tT,fF,fF,tT,fF,tT,fF,fF,tT,fF,fF,tT,fF,tT,tT,tT,tT,tT],0,⟨⟨[(0, .list 4),(3, .vec 0 1),(5, .vec 1 4),(6, .vec 2 4),(7, .int .i64),(8, .vec 3 4),(9, .int .i64),(10, .int .i64),(11, .bool),(13, .int .i64)],q14m,191⟩,[(AX.ret,⟨[(2, .bool)],[],191⟩),((AX.exit 6),⟨[(0, .list 4),(3, .vec 0 1),(5, .vec 1 4),(6, .vec 2 4),(7, .int .i64),(8, .vec 3 4),(9, .int .i64),(10, .int .i64),(11, .bool)],q14m,191⟩)]⟩⟩,
 ⟨8,[fF,tT,fF,tT,tT,tT,tT,tT,tT,tT,tT,tT,tT],0,⟨⟨[(0, .list 4),(5, .vec 0 4),(14, .vec 1 1),(16, .vec 2 1),(18, .int .i64)],[q5m,q11m,q11m],191⟩,[(AX.ret,⟨[(2, .bool)],[],191⟩),((AX.exit 8),⟨[],[],191⟩)]⟩⟩]
def ja8:List JA:=
 [⟨8,[fF,tT,fF,fF,tT,fF,tT,tT,tT,fF,fF,tT,fF,fF,tT,fF,tT,fF,fF,tT,fF,fF,tT,fF,tT,tT,tT,tT,tT],0,[(AX.normal,⟨[(0, .list 4),(3, .vec 0 1),(5, .vec 1 4),(6, .vec 2 4),(7, .int .i64),(8, .vec 3 4),(9, .int .i64),(10, .int .i64),(11, .bool),(12, .int .i64)],q14m,191⟩)]⟩,
 ⟨8,[fF,tT,fF,fF,tT,fF,tT,fF,fF,tT,fF,fF,tT,fF,tT,tT,tT,tT,tT],0,[(AX.ret,⟨[(2, .bool)],[],191⟩),(AX.normal,⟨[(0, .list 4),(3, .vec 0 1),(5, .vec 1 4),(6, .vec 2 4),(7, .int .i64),(8, .vec 3 4),(9, .int .i64)],q14m,191⟩)]⟩,
 ⟨8,[fF,tT,fF,fF,tT,fF,tT,tT,tT,tT,tT],0,[(AX.ret,⟨[(2, .bool)],[],191⟩),(AX.normal,⟨[(0, .list 4),(3, .vec 0 1),(5, .vec 1 4),(6, .vec 2 4),(7, .int .i64)],[q8m,q5m,q5m],191⟩)]⟩,
 ⟨8,[fF,fF,tT,tT,tT,tT,tT,tT],0,[(AX.normal,⟨[(0, .list 4),(5, .vec 0 4),(138, .bool)],[q5m],191⟩)]⟩,
 ⟨8,[fF,fF,tT,tT,tT,tT,tT,tT,tT,tT,tT],0,[(AX.normal,⟨[(0, .list 4),(5, .vec 0 4),(14, .vec 1 1),(16, .vec 2 1),(168, .bool)],[q5m,q11m,q11m],191⟩)]⟩]
def gam8:List CF:=
 [⟨u3w,G21⟩,⟨u3v,G27⟩,⟨u3t,G36⟩,⟨u3u,G35⟩,⟨u1f,G44⟩,⟨u1g,G43⟩,⟨w18,F16⟩,⟨u3s,G41⟩]
def an8:Anns:=
 ⟨gam8,ja8,[]⟩
def u3z (p:Prim):W26w→Option (W26w⊕(W3w⊕Unit)):=
 fun a=>let A:=a.2.2.2.2.1;let B:=p.len a.1;let C:=p.len a.2.2.1;let E:=p.len a.2.1;let F:=p.cmp .geq A (0:Int);let G:=a.2.2.2.1;let H:=p.nat A; opt.run _ (
 opt.ask _ (p.cmp .lss A (p.ofNat (p.len G))) (
 opt.need _ (bif F then (p.cmp .lss A (p.ofNat E)) else Bool.false)<|
 opt.need _ (p.rowOk a.2.1 (p.add 0 H) [ci])<|
 opt.need _ (p.rowOk G H [ci,ci,(CK.list 1),ci])<|
 opt.need _ F<|
 opt.need _ (p.and (p.leN (p.add 0 B) B) (p.and Bool.true Bool.true))<|
 opt.bnd (W0w) _ (G43 p ((p.cut a.1 0 B),((p.rdI G H 0),()))) fun b=>
 opt.need _ (bif (p.cmp .geq b.1 (0:Int)) then (p.cmp .lss b.1 (p.ofNat C)) else Bool.false)<|
 opt.need _ (p.rowOk a.2.2.1 (p.add 0 (p.nat b.1)) [ci])<|
 opt.ask _ (p.cmp .neq (p.rdI a.2.1 (p.add 0 H) 0) (p.rdI a.2.2.1 (p.add 0 (p.nat b.1)) 0)) (
 opt.ret _ (Sum.inr (Sum.inl (Bool.false,())))) (
 opt.need _ (p.eqN 0 0)<|
 opt.need _ (p.eqN B B)<|
 opt.need _ (p.eqN 0 0)<|
 opt.need _ (p.eqN E E)<|
 opt.need _ (p.eqN 0 0)<|
 opt.need _ (p.eqN C C)<|
 opt.ret _ (Sum.inl (a.1,(a.2.1,(a.2.2.1,(G,((p.ar .add .i64 A (1:Int)),())))))))) (
 opt.ret _ (Sum.inr (Sum.inr ()))))
def u4a (p:Prim):W5w→Option (W5w⊕(W3w⊕W9w)):=
 fun a=>let A:=a.2.2.2.2.2.2.2.2.2.1;let B:=a.2.2.2.2.2.2.2.1;let C:=a.2.2.2.1;let E:=p.add 0 (p.nat A);let F:=p.eqN 0 0;let G:=a.2.2.2.2.1;let H:=p.len a.2.2.1;let I:=p.len C;let J:=p.len a.2.1;let K:=p.eqN (p.len a.1) (p.len a.1);let L:=p.nat B;let M:=p.cmp .lss A (p.ofNat I);let N:=[ci,ci,(CK.list 1),ci]; opt.run _ (
 opt.ask _ M (
 opt.need _ (bif (p.cmp .geq A (0:Int)) then M else Bool.false)<|
 opt.need _ (p.rowOk C E N)<|
 opt.need _ (p.rowOk G L N)<|
 opt.need _ (p.cmp .geq B (0:Int))<|
 opt.bnd (W3w) _ (G44 p ((p.rdI C E 0),((p.rdI C E 1),((p.rdL C E 2),((p.rdI C E 3),((p.rdI G L 0),((p.rdI G L 1),((p.rdL G L 2),((p.rdI G L 3),()))))))))) fun b=>
 opt.ask _ b.1 (
 opt.ret _ (Sum.inr (Sum.inl (Bool.false,())))) (
 opt.need _ F<|
 opt.need _ K<|
 opt.need _ F<|
 opt.need _ (p.eqN J J)<|
 opt.need _ F<|
 opt.need _ (p.eqN H H)<|
 opt.need _ F<|
 opt.need _ (p.eqN I I)<|
 opt.ret _ (Sum.inl (a.1,(a.2.1,(a.2.2.1,(C,(G,(a.2.2.2.2.2.1,(a.2.2.2.2.2.2.1,(B,(a.2.2.2.2.2.2.2.2.1,((p.ar .add .i64 A (1:Int)),()))))))))))))) (
 opt.need _ F<|
 opt.need _ K<|
 opt.need _ F<|
 opt.need _ (p.eqN J J)<|
 opt.need _ F<|
 opt.need _ (p.eqN H H)<|
 opt.need _ F<|
 opt.need _ (p.eqN I I)<|
 opt.ret _ (Sum.inr (Sum.inr (a.1,(a.2.1,(a.2.2.1,(C,(G,(a.2.2.2.2.2.1,(a.2.2.2.2.2.2.1,(B,(a.2.2.2.2.2.2.2.2.1,())))))))))))))
def u2d (p:Prim):W5w→Option (W5w⊕W9w):=
 fun a=>let J:=a.2.2.2.2.2.2.2.2.2.1;let A:=p.add 0 (p.nat J);let B:=p.eqN 0 0;let C:=a.2.2.2.2.2.2.2.1;let K:=a.2.2.1;let E:=p.len K;let L:=a.2.2.2.1;let F:=p.eqN (p.len L) (p.len L);let G:=p.eqN (p.len a.2.1) (p.len a.2.1);let H:=a.2.2.2.2.1;let I:=p.eqN (p.len a.1) (p.len a.1);let M:=p.nat C;let N:=a.2.2.2.2.2.2.1;let O:=p.cmp .lss J (p.ofNat E);let P:=[ci,ci,(CK.list 1),ci];let Q:=a.2.2.2.2.2.1; opt.run _ (
 opt.ask _ O (
 opt.bnd (W5w) _ (
 opt.run (W5w) (
 opt.ask _ a.2.2.2.2.2.2.2.2.1 (
 opt.need _ B<|
 opt.need _ I<|
 opt.need _ B<|
 opt.need _ G<|
 opt.need _ B<|
 opt.need _ (p.eqN E E)<|
 opt.need _ B<|
 opt.need _ F<|
 opt.ret _ (a.1,(a.2.1,(K,(L,(H,(Q,(N,(C,(Bool.true,a.2.2.2.2.2.2.2.2.2)))))))))) (
 opt.need _ (bif (p.cmp .geq J (0:Int)) then O else Bool.false)<|
 opt.need _ (p.rowOk K A P)<|
 opt.need _ (p.rowOk H M P)<|
 opt.need _ (p.cmp .geq C (0:Int))<|
 opt.bnd (W3w) _ (G44 p ((p.rdI K A 0),((p.rdI K A 1),((p.rdL K A 2),((p.rdI K A 3),((p.rdI H M 0),((p.rdI H M 1),((p.rdL H M 2),((p.rdI H M 3),()))))))))) fun b=>
 opt.need _ B<|
 opt.need _ I<|
 opt.need _ B<|
 opt.need _ G<|
 opt.need _ B<|
 opt.need _ (p.eqN E E)<|
 opt.need _ B<|
 opt.need _ F<|
 opt.ret _ (a.1,(a.2.1,(K,(L,(H,(Q,(N,(C,(b.1,a.2.2.2.2.2.2.2.2.2)))))))))))) fun c=>
 opt.need _ B<|
 opt.need _ (p.eqN (p.len c.1) (p.len c.1))<|
 opt.need _ B<|
 opt.need _ (p.eqN (p.len c.2.1) (p.len c.2.1))<|
 opt.need _ B<|
 opt.need _ (p.eqN (p.len c.2.2.1) (p.len c.2.2.1))<|
 opt.need _ B<|
 opt.need _ (p.eqN (p.len c.2.2.2.1) (p.len c.2.2.2.1))<|
 opt.ret _ (Sum.inl (c.1,(c.2.1,(c.2.2.1,(c.2.2.2.1,(c.2.2.2.2.1,(c.2.2.2.2.2.1,(c.2.2.2.2.2.2.1,(c.2.2.2.2.2.2.2.1,(c.2.2.2.2.2.2.2.2.1,((p.ar .add .i64 c.2.2.2.2.2.2.2.2.2.1 (1:Int)),())))))))))))) (
 opt.need _ B<|
 opt.need _ I<|
 opt.need _ B<|
 opt.need _ G<|
 opt.need _ B<|
 opt.need _ (p.eqN E E)<|
 opt.need _ B<|
 opt.need _ F<|
 opt.ret _ (Sum.inr (a.1,(a.2.1,(K,(L,(H,(Q,(N,(C,(a.2.2.2.2.2.2.2.2.1,()))))))))))))
def u4b (p:Prim):W5w→Option (W5w⊕(W3w⊕W9w)):=
 fun a=>let A:=a.2.2.2.2.2.2.2.2.2.1;let B:=a.2.2.2.2.2.2.2.1;let C:=a.2.2.2.1;let E:=p.add 0 (p.nat A);let F:=p.eqN 0 0;let G:=a.2.2.2.2.1;let H:=p.len a.2.2.1;let I:=p.len C;let J:=p.len a.2.1;let K:=p.eqN (p.len a.1) (p.len a.1);let L:=p.nat B;let M:=p.cmp .lss A (p.ofNat I);let N:=[ci,ci,(CK.list 1),ci]; opt.run _ (
 opt.ask _ M (
 opt.need _ (bif (p.cmp .geq A (0:Int)) then M else Bool.false)<|
 opt.need _ (p.rowOk C E N)<|
 opt.need _ (p.rowOk G L N)<|
 opt.need _ (p.cmp .geq B (0:Int))<|
 opt.bnd (W3w) _ (G44 p ((p.rdI C E 0),((p.rdI C E 1),((p.rdL C E 2),((p.rdI C E 3),((p.rdI G L 0),((p.rdI G L 1),((p.rdL G L 2),((p.rdI G L 3),()))))))))) fun b=>
 opt.ask _ b.1 (
 opt.ret _ (Sum.inr (Sum.inl (Bool.false,())))) (
 opt.need _ F<|
 opt.need _ K<|
 opt.need _ F<|
 opt.need _ (p.eqN J J)<|
 opt.need _ F<|
 opt.need _ (p.eqN H H)<|
 opt.need _ F<|
 opt.need _ (p.eqN I I)<|
 opt.ret _ (Sum.inl (a.1,(a.2.1,(a.2.2.1,(C,(G,(a.2.2.2.2.2.1,(a.2.2.2.2.2.2.1,(B,(a.2.2.2.2.2.2.2.2.1,((p.ar .add .i64 A (1:Int)),()))))))))))))) (
 opt.need _ F<|
 opt.need _ K<|
 opt.need _ F<|
 opt.need _ (p.eqN J J)<|
 opt.need _ F<|
 opt.need _ (p.eqN H H)<|
 opt.need _ F<|
 opt.need _ (p.eqN I I)<|
 opt.ret _ (Sum.inr (Sum.inr (a.1,(a.2.1,(a.2.2.1,(C,(G,(a.2.2.2.2.2.1,(a.2.2.2.2.2.2.1,(B,(a.2.2.2.2.2.2.2.2.1,())))))))))))))
def u2e (p:Prim):W5w→Option (W5w⊕W9w):=
 fun a=>let J:=a.2.2.2.2.2.2.2.2.2.1;let A:=p.add 0 (p.nat J);let B:=p.eqN 0 0;let C:=a.2.2.2.2.2.2.2.1;let K:=a.2.2.1;let E:=p.len K;let L:=a.2.2.2.1;let F:=p.eqN (p.len L) (p.len L);let G:=p.eqN (p.len a.2.1) (p.len a.2.1);let H:=a.2.2.2.2.1;let I:=p.eqN (p.len a.1) (p.len a.1);let M:=p.nat C;let N:=a.2.2.2.2.2.2.1;let O:=p.cmp .lss J (p.ofNat E);let P:=[ci,ci,(CK.list 1),ci];let Q:=a.2.2.2.2.2.1; opt.run _ (
 opt.ask _ O (
 opt.bnd (W5w) _ (
 opt.run (W5w) (
 opt.ask _ a.2.2.2.2.2.2.2.2.1 (
 opt.need _ B<|
 opt.need _ I<|
 opt.need _ B<|
 opt.need _ G<|
 opt.need _ B<|
 opt.need _ (p.eqN E E)<|
 opt.need _ B<|
 opt.need _ F<|
 opt.ret _ (a.1,(a.2.1,(K,(L,(H,(Q,(N,(C,(Bool.true,a.2.2.2.2.2.2.2.2.2)))))))))) (
 opt.need _ (bif (p.cmp .geq J (0:Int)) then O else Bool.false)<|
 opt.need _ (p.rowOk K A P)<|
 opt.need _ (p.rowOk H M P)<|
 opt.need _ (p.cmp .geq C (0:Int))<|
 opt.bnd (W3w) _ (G44 p ((p.rdI K A 0),((p.rdI K A 1),((p.rdL K A 2),((p.rdI K A 3),((p.rdI H M 0),((p.rdI H M 1),((p.rdL H M 2),((p.rdI H M 3),()))))))))) fun b=>
 opt.need _ B<|
 opt.need _ I<|
 opt.need _ B<|
 opt.need _ G<|
 opt.need _ B<|
 opt.need _ (p.eqN E E)<|
 opt.need _ B<|
 opt.need _ F<|
 opt.ret _ (a.1,(a.2.1,(K,(L,(H,(Q,(N,(C,(b.1,a.2.2.2.2.2.2.2.2.2)))))))))))) fun c=>
 opt.need _ B<|
 opt.need _ (p.eqN (p.len c.1) (p.len c.1))<|
 opt.need _ B<|
 opt.need _ (p.eqN (p.len c.2.1) (p.len c.2.1))<|
 opt.need _ B<|
 opt.need _ (p.eqN (p.len c.2.2.1) (p.len c.2.2.1))<|
 opt.need _ B<|
 opt.need _ (p.eqN (p.len c.2.2.2.1) (p.len c.2.2.2.1))<|
 opt.ret _ (Sum.inl (c.1,(c.2.1,(c.2.2.1,(c.2.2.2.1,(c.2.2.2.2.1,(c.2.2.2.2.2.1,(c.2.2.2.2.2.2.1,(c.2.2.2.2.2.2.2.1,(c.2.2.2.2.2.2.2.2.1,((p.ar .add .i64 c.2.2.2.2.2.2.2.2.2.1 (1:Int)),())))))))))))) (
 opt.need _ B<|
 opt.need _ I<|
 opt.need _ B<|
 opt.need _ G<|
 opt.need _ B<|
 opt.need _ (p.eqN E E)<|
 opt.need _ B<|
 opt.need _ F<|
 opt.ret _ (Sum.inr (a.1,(a.2.1,(K,(L,(H,(Q,(N,(C,(a.2.2.2.2.2.2.2.2.1,()))))))))))))
def u2f (p:Prim):W33w→Option (W33w⊕(W3w⊕W26w)):=
 fun a=>let S:=a.2.2.2.2.2.1;let N:=(0:Int);let C:=bif (p.cmp .geq S N) then (p.cmp .lss S (p.ofNat (p.len a.1))) else Bool.false;let E:=p.add 0 (p.nat S);let F:=p.eqN 0 0;let G:=a.2.2.2.2.2.2.1;let A3:=a.2.2.2.1;let K:=p.eqN (p.len A3) (p.len A3);let L:=p.rowOk a.1 E [(CK.list 1)];let M:=p.rdL a.1 E 0;let Q:=p.eqN (p.len a.2.1) (p.len a.2.1);let R:=p.eqN (p.len a.1) (p.len a.1);let V:=p.ar .sub .i64 G (1:Int);let Z:=p.len a.2.2.1;let A1:=p.rowOk M (p.nat G) [ci];let A2:=[ci,ci,(CK.list 1),ci]; opt.run _ (
 opt.need _ C<|
 opt.need _ L<|
 opt.ask _ (p.cmp .lss G (p.ofNat (p.len M))) (
 opt.alt (W3w) (W33w) _ (
 opt.run ((W3w⊕W33w)) (
 opt.need _ C<|
 opt.need _ L<|
 opt.need _ A1<|
 opt.need _ (p.cmp .geq G N)<|
 opt.bnd (W0w) _ (G43 p (a.2.2.2.2.1,((p.rdI M (p.nat G) 0),()))) fun b=>let H:=(a.1,(a.2.1,(a.2.2.1,(A3,(a.2.2.2.2.1,(S,(G,(b.1,((p.cmp .eql S N),(N,()))))))))));
 opt.ask _ (p.cmp .lss b.1 N) (
 opt.ret _ (Sum.inl (Bool.false,()))) (
 opt.ask _ (p.cmp .gtr G N) (
 opt.need _ C<|
 opt.need _ L<|
 opt.need _ A1<|
 opt.need _ (p.cmp .geq G N)<|
 opt.need _ C<|
 opt.need _ L<|
 opt.need _ (p.rowOk M (p.nat V) [ci])<|
 opt.need _ (p.cmp .geq V N)<|
 opt.ask _ (p.cmp .leq (p.rdI M (p.nat G) 0) (p.rdI M (p.nat V) 0)) (
 opt.ret _ (Sum.inl (Bool.false,()))) (
 opt.need _ F<|
 opt.need _ R<|
 opt.need _ F<|
 opt.need _ Q<|
 opt.need _ F<|
 opt.need _ (p.eqN Z Z)<|
 opt.need _ F<|
 opt.need _ K<|
 opt.bnd (W9w) _ (
 z5r (u2e p) H) fun c=>
 opt.need _ F<|
 opt.need _ (p.eqN (p.len c.1) (p.len c.1))<|
 opt.need _ F<|
 opt.need _ (p.eqN (p.len c.2.1) (p.len c.2.1))<|
 opt.need _ F<|
 opt.need _ (p.eqN (p.len c.2.2.1) (p.len c.2.2.1))<|
 opt.need _ F<|
 opt.need _ (p.eqN (p.len c.2.2.2.1) (p.len c.2.2.2.1))<|
 opt.alt (W3w) (W9w) _ (
 z5r (u4b p) (c.1,(c.2.1,(c.2.2.1,(c.2.2.2.1,(c.2.2.2.2.1,(c.2.2.2.2.2.1,(c.2.2.2.2.2.2.1,(c.2.2.2.2.2.2.2.1,(c.2.2.2.2.2.2.2.2.1,(N,()))))))))))) (fun d=>
 opt.ret _ (Sum.inl d)) (fun e=>
 opt.bnd (W9w) _ (some e) fun f=>let U:=f.2.2.2.2.1;let J:=p.nat f.2.2.2.2.2.2.2.1;let B:=[[(D.int .i64 (p.rdI U J 0)),(D.int .i64 (p.rdI U J 1)),(D.list (p.rdF U J 2 1) 1 (p.rdL U J 2)),(D.int .i64 (p.rdI U J 3))]];let P:=p.len f.2.2.2.1;let Y:=p.app (p.cut f.2.2.2.1 0 P) (p.cut B 0 1);
 opt.ask _ (bif f.2.2.2.2.2.2.2.2.1 then Bool.false else Bool.true) (
 opt.ret _ (Sum.inl (Bool.false,()))) (
 opt.need _ (p.rowOk U J A2)<|
 opt.need _ (p.cmp .geq f.2.2.2.2.2.2.2.1 N)<|
 opt.need _ (p.and (p.leN (p.add 0 1) (p.len B)) (p.and (p.leN (p.add 0 P) P) (p.and (p.leN 1 1) (p.leN (p.add P 1) 1000000))))<|
 opt.need _ F<|
 opt.need _ (p.eqN (p.len f.1) (p.len f.1))<|
 opt.need _ F<|
 opt.need _ (p.eqN (p.len f.2.1) (p.len f.2.1))<|
 opt.need _ F<|
 opt.need _ (p.eqN (p.len f.2.2.1) (p.len f.2.2.1))<|
 opt.need _ F<|
 opt.need _ (p.eqN (p.add P 1) (p.len Y))<|
 opt.ret _ (Sum.inr (f.1,(f.2.1,(f.2.2.1,(Y,(U,(f.2.2.2.2.2.1,(f.2.2.2.2.2.2.1,())))))))))))) (
 opt.need _ F<|
 opt.need _ R<|
 opt.need _ F<|
 opt.need _ Q<|
 opt.need _ F<|
 opt.need _ (p.eqN Z Z)<|
 opt.need _ F<|
 opt.need _ K<|
 opt.bnd (W9w) _ (
 z5r (u2d p) H) fun g=>
 opt.need _ F<|
 opt.need _ (p.eqN (p.len g.1) (p.len g.1))<|
 opt.need _ F<|
 opt.need _ (p.eqN (p.len g.2.1) (p.len g.2.1))<|
 opt.need _ F<|
 opt.need _ (p.eqN (p.len g.2.2.1) (p.len g.2.2.1))<|
 opt.need _ F<|
 opt.need _ (p.eqN (p.len g.2.2.2.1) (p.len g.2.2.2.1))<|
 opt.alt (W3w) (W9w) _ (
 z5r (u4a p) (g.1,(g.2.1,(g.2.2.1,(g.2.2.2.1,(g.2.2.2.2.1,(g.2.2.2.2.2.1,(g.2.2.2.2.2.2.1,(g.2.2.2.2.2.2.2.1,(g.2.2.2.2.2.2.2.2.1,(N,()))))))))))) (fun h=>
 opt.ret _ (Sum.inl h)) (fun i=>
 opt.bnd (W9w) _ (some i) fun j=>let T:=j.2.2.2.2.1;let I:=p.nat j.2.2.2.2.2.2.2.1;let A:=[[(D.int .i64 (p.rdI T I 0)),(D.int .i64 (p.rdI T I 1)),(D.list (p.rdF T I 2 1) 1 (p.rdL T I 2)),(D.int .i64 (p.rdI T I 3))]];let O:=p.len j.2.2.2.1;let X:=p.app (p.cut j.2.2.2.1 0 O) (p.cut A 0 1);
 opt.ask _ (bif j.2.2.2.2.2.2.2.2.1 then Bool.false else Bool.true) (
 opt.ret _ (Sum.inl (Bool.false,()))) (
 opt.need _ (p.rowOk T I A2)<|
 opt.need _ (p.cmp .geq j.2.2.2.2.2.2.2.1 N)<|
 opt.need _ (p.and (p.leN (p.add 0 1) (p.len A)) (p.and (p.leN (p.add 0 O) O) (p.and (p.leN 1 1) (p.leN (p.add O 1) 1000000))))<|
 opt.need _ F<|
 opt.need _ (p.eqN (p.len j.1) (p.len j.1))<|
 opt.need _ F<|
 opt.need _ (p.eqN (p.len j.2.1) (p.len j.2.1))<|
 opt.need _ F<|
 opt.need _ (p.eqN (p.len j.2.2.1) (p.len j.2.2.1))<|
 opt.need _ F<|
 opt.need _ (p.eqN (p.add O 1) (p.len X))<|
 opt.ret _ (Sum.inr (j.1,(j.2.1,(j.2.2.1,(X,(T,(j.2.2.2.2.2.1,(j.2.2.2.2.2.2.1,())))))))))))))) (fun k=>
 opt.ret _ (Sum.inr (Sum.inl k))) (fun l=>
 opt.bnd (W33w) _ (some l) fun m=>
 opt.need _ F<|
 opt.need _ (p.eqN (p.len m.1) (p.len m.1))<|
 opt.need _ F<|
 opt.need _ (p.eqN (p.len m.2.1) (p.len m.2.1))<|
 opt.need _ F<|
 opt.need _ (p.eqN (p.len m.2.2.1) (p.len m.2.2.1))<|
 opt.need _ F<|
 opt.need _ (p.eqN (p.len m.2.2.2.1) (p.len m.2.2.2.1))<|
 opt.ret _ (Sum.inl (m.1,(m.2.1,(m.2.2.1,(m.2.2.2.1,(m.2.2.2.2.1,(m.2.2.2.2.2.1,((p.ar .add .i64 m.2.2.2.2.2.2.1 (1:Int)),())))))))))) (
 opt.need _ F<|
 opt.need _ R<|
 opt.need _ F<|
 opt.need _ Q<|
 opt.need _ F<|
 opt.need _ K<|
 opt.ret _ (Sum.inr (Sum.inr (a.1,(a.2.1,(A3,(a.2.2.2.2.1,(S,())))))))))
def u4c (p:Prim):W26w→Option (W26w⊕(W3w⊕W29w)):=
 fun a=>let B:=p.eqN 0 0;let F:=p.len a.2.1; opt.run _ (
 opt.ask _ (p.cmp .lss a.2.2.2.2.1 (p.ofNat (p.len a.1))) (
 opt.alt (W3w) (W26w) _ (
 opt.run ((W3w⊕W26w)) (
 opt.need _ B<|
 opt.need _ (p.eqN (p.len a.1) (p.len a.1))<|
 opt.need _ B<|
 opt.need _ (p.eqN F F)<|
 opt.need _ B<|
 opt.need _ (p.eqN (p.len a.2.2.1) (p.len a.2.2.1))<|
 opt.alt (W3w) (W26w) _ (
 z5r (u2f p) (a.1,(a.2.1,(a.2.2.1,([],(a.2.2.2.1,(a.2.2.2.2.1,((0:Int),())))))))) (fun b=>
 opt.ret _ (Sum.inl b)) (fun c=>
 opt.bnd (W26w) _ (some c) fun d=>let A:=p.len d.2.2.1;let C:=p.len d.2.1;let E:=p.app (p.cut d.2.1 0 C) (p.cut d.2.2.1 0 A);
 opt.ask _ (p.cmp .eql (p.ofNat A) (0:Int)) (
 opt.ret _ (Sum.inl (Bool.false,()))) (
 opt.need _ (p.and (p.leN (p.add 0 A) A) (p.and (p.leN (p.add 0 C) C) (p.and (p.leN 1 A) (p.leN (p.add C A) 1000000))))<|
 opt.need _ B<|
 opt.need _ (p.eqN (p.len d.1) (p.len d.1))<|
 opt.need _ B<|
 opt.need _ (p.eqN (p.add C A) (p.len E))<|
 opt.need _ B<|
 opt.need _ (p.eqN A A)<|
 opt.ret _ (Sum.inr (d.1,(E,d.2.2))))))) (fun e=>
 opt.ret _ (Sum.inr (Sum.inl e))) (fun f=>
 opt.bnd (W26w) _ (some f) fun g=>
 opt.need _ B<|
 opt.need _ (p.eqN (p.len g.1) (p.len g.1))<|
 opt.need _ B<|
 opt.need _ (p.eqN (p.len g.2.1) (p.len g.2.1))<|
 opt.need _ B<|
 opt.need _ (p.eqN (p.len g.2.2.1) (p.len g.2.2.1))<|
 opt.ret _ (Sum.inl (g.1,(g.2.1,(g.2.2.1,(g.2.2.2.1,((p.ar .add .i64 g.2.2.2.2.1 (1:Int)),())))))))) (
 opt.need _ B<|
 opt.need _ (p.eqN F F)<|
 opt.ret _ (Sum.inr (Sum.inr (a.2.1,(a.2.2.2.1,()))))))
def G8:(p:Prim)→W14w→Option (W3w):=
 fun p x=>let A:=p.eqN 0 0;let I:=(0:Int);
 opt.bnd (W3w) _ (G41 p x) fun a=>
 opt.ask _ (bif a.1 then Bool.false else Bool.true) (
 opt.bnd (W3w) _ (G16 p ()) fun b=>
 opt.ret _ b) (
 opt.bnd ((LD×W0w)) _ (G27 p x) fun c=>
 opt.ask _ (p.cmp .neq c.2.1 I) (
 opt.ret _ (Bool.false,())) (
 opt.need _ A<|
 opt.need _ (p.eqN (p.len c.1) (p.len c.1))<|
 opt.alt (W3w) (W29w) _ (
 z5r (u4c p) (c.1,([],([],(x.1,(I,())))))) (fun d=>
 opt.ret _ d) (fun e=>
 opt.bnd (W29w) _ (some e) fun f=>let G:=p.len f.1;let H:=p.and Bool.true (p.and (p.leN (p.add 0 G) G) Bool.true);let J:=(f.2.1,((p.cut f.1 0 G),()));
 opt.bnd ((LD×(LD×W3w))) _ (
 opt.run ((LD×(LD×W3w))) (
 opt.need _ H<|
 opt.bnd (W0w) _ (G35 p J) fun g=>
 opt.ask _ (p.cmp .neq g.1 I) (
 opt.need _ A<|
 opt.need _ (p.eqN G G)<|
 opt.ret _ (f.1,(f.2.1,(Bool.true,())))) (
 opt.need _ H<|
 opt.bnd (W0w) _ (G36 p J) fun h=>
 opt.need _ A<|
 opt.need _ (p.eqN G G)<|
 opt.ret _ (f.1,(f.2.1,((p.cmp .neq h.1 I),())))))) fun i=>let B:=p.len i.1;let K:=p.eqN B B;let L:=p.ofNat (p.len i.2.1);
 opt.ask _ i.2.2.1 (
 opt.ret _ (Bool.false,())) (
 opt.bnd ((LD×W0w)) _ (G21 p (i.2.1,())) fun j=>let E:=p.eqN (p.len j.1) (p.len j.1);
 opt.need _ (p.and (p.leN (p.add 0 B) B) Bool.true)<|
 opt.bnd ((LD×W0w)) _ (G21 p ((p.cut i.1 0 B),())) fun k=>let C:=p.eqN (p.len k.1) (p.len k.1);let F:=(i.1,(j.1,(k.1,(i.2.1,(Bool.true,())))));
 opt.need _ (p.plain k.1)<|
 opt.bnd ((LD×(LD×(LD×(LD×W3w))))) _ (
 opt.run ((LD×(LD×(LD×(LD×W3w))))) (
 opt.ask _ (p.cmp .neq j.2.1 I) (
 opt.need _ A<|
 opt.need _ K<|
 opt.need _ A<|
 opt.need _ E<|
 opt.need _ A<|
 opt.need _ C<|
 opt.ret _ F) (
 opt.ask _ (p.cmp .neq k.2.1 I) (
 opt.need _ A<|
 opt.need _ K<|
 opt.need _ A<|
 opt.need _ E<|
 opt.need _ A<|
 opt.need _ C<|
 opt.ret _ F) (
 opt.ask _ (p.cmp .neq (p.ofNat (p.len j.1)) L) (
 opt.need _ A<|
 opt.need _ K<|
 opt.need _ A<|
 opt.need _ E<|
 opt.need _ A<|
 opt.need _ C<|
 opt.ret _ F) (
 opt.need _ A<|
 opt.need _ K<|
 opt.need _ A<|
 opt.need _ E<|
 opt.need _ A<|
 opt.need _ C<|
 opt.ret _ (i.1,(j.1,(k.1,(i.2.1,((p.cmp .neq (p.ofNat (p.len k.1)) L),())))))))))) fun l=>
 opt.ask _ l.2.2.2.2.1 (
 opt.ret _ (Bool.false,())) (
 opt.need _ A<|
 opt.need _ (p.eqN (p.len l.1) (p.len l.1))<|
 opt.need _ A<|
 opt.need _ (p.eqN (p.len l.2.1) (p.len l.2.1))<|
 opt.need _ A<|
 opt.need _ (p.eqN (p.len l.2.2.1) (p.len l.2.2.1))<|
 opt.alt (W3w) (Unit) _ (
 z5r (u3z p) (l.1,(l.2.1,(l.2.2.1,(l.2.2.2.1,(I,())))))) (fun m=>
 opt.ret _ m) (fun n=>
 opt.bnd (Unit) _ (some n) fun o=>
 opt.bnd (W3w) _ (G16 p ()) fun q=>
 opt.ret _ q))))))
theorem ok8:CtrOk PG ctr8 (G8 std):=okF vE (a:=an8) (l:=la8) (gC ok21 (gC ok27 (gC ok36 (gC ok35 (gC u8j (gC u8k (gC ok16 (gC ok41 (gN)))))))))
end Go.Am
end
section
namespace Go.Am
namespace D12
structure Sg where
 a:Nat
 b:Nat
 ha:a<2 ^ 64
 hb:b<2 ^ 64
def Sg.has (s:Sg) (i:Nat):Bool:=if i<64 then s.a.testBit i else s.b.testBit (i - 64)
def Sg.none:Sg:=⟨0,0,by omega,by omega⟩
def Sg.wth (s:Sg) (k:Nat):Sg:=
 if h:k<64 then ⟨s.a|||2 ^ k,s.b,Nat.or_lt_two_pow s.ha (eDv (by omega) h),s.hb⟩
 else if h:k<128 then ⟨s.a,s.b|||2 ^ (k - 64),s.ha,Nat.or_lt_two_pow s.hb (eDv (by omega) (by omega))⟩
 else s
def Sg.or (s t:Sg):Sg:=⟨s.a|||t.a,s.b|||t.b,Nat.or_lt_two_pow s.ha t.ha,Nat.or_lt_two_pow s.hb t.hb⟩
def Sg.and (s t:Sg):Sg:=⟨s.a&&&t.a,s.b&&&t.b,Nat.lt_of_le_of_lt Nat.and_le_left s.ha,Nat.lt_of_le_of_lt Nat.and_le_left s.hb⟩
theorem Sg.has_none (i:Nat):Sg.none.has i=false:=by
 unfold Sg.has Sg.none; split<;>exact Nat.zero_testBit _
theorem Sg.has_wth (s:Sg) {k:Nat} (hk:k<128) (i:Nat):(s.wth k).has i=(s.has i||decide (i=k)):=by
 unfold Sg.wth
 by_cases h:k<64
 ·rw [dif_pos h]
  unfold Sg.has
  simp only
  by_cases hi:i<64
  ·rw [if_pos hi,if_pos hi,Nat.testBit_or,Nat.testBit_two_pow]
   congr 1
   exact decide_eq_decide.2 ⟨fun h=>h.symm,fun h=>h.symm⟩
  ·rw [if_neg hi,if_neg hi]
   have:¬ i=k:=by omega
   simp [this]
 ·rw [dif_neg h,dif_pos hk]
  unfold Sg.has
  simp only
  by_cases hi:i<64
  ·rw [if_pos hi,if_pos hi]
   have:¬ i=k:=by omega
   simp [this]
  ·rw [if_neg hi,if_neg hi,Nat.testBit_or,Nat.testBit_two_pow]
   congr 1
   exact decide_eq_decide.2 (by omega)
theorem Sg.has_and (s t:Sg) (i:Nat):(s.and t).has i=(s.has i&&t.has i):=by
 unfold Sg.has Sg.and
 simp only
 split<;>exact Nat.testBit_and ..
theorem Sg.ext_has {s t:Sg} (h:∀ i,i<128→s.has i=t.has i):s.a=t.a∧s.b=t.b:=by
 constructor
 ·refine Nat.eq_of_testBit_eq fun i=>?_
  by_cases hi:i<64
  ·have:=h i (by omega)
   unfold Sg.has at this
   rwa [if_pos hi,if_pos hi] at this
  ·have p:2 ^ 64≤2 ^ i:=Nat.pow_le_pow_right (by omega) (by omega)
   rw [Nat.testBit_lt_two_pow (eAn s.ha p),Nat.testBit_lt_two_pow (eAn t.ha p)]
 ·refine Nat.eq_of_testBit_eq fun i=>?_
  by_cases hi:i<64
  ·have:=h (i+64) (by omega)
   unfold Sg.has at this
   rwa [if_neg (by omega),if_neg (by omega),Nat.add_sub_cancel] at this
  ·have p:2 ^ 64≤2 ^ i:=Nat.pow_le_pow_right (by omega) (by omega)
   rw [Nat.testBit_lt_two_pow (eAn s.hb p),Nat.testBit_lt_two_pow (eAn t.hb p)]
theorem Sg.and_sub {s t:Sg}:((s.and t).a=s.a∧(s.and t).b=s.b)↔∀ i,i<128→s.has i=true→t.has i=true:=by
 constructor
 ·rintro ⟨h1,h2⟩ i hi h
  have e:(s.and t).has i=s.has i:=by unfold Sg.has; rw [h1,h2]
  rw [Sg.has_and,h] at e
  simpa using e
 ·intro h
  refine Sg.ext_has fun i hi=>?_
  rw [Sg.has_and]
  cases hs:s.has i with
  |false=>rfl
  |true=>rw [h i hi hs]; rfl
end D12
theorem v5z {n:Nat} (h:n<2 ^ 64):IntKind.u64.wrap (n:Int)=(n:Int):=by
 have e:IntKind.u64.wrap (n:Int)=(n:Int) % 18446744073709551616:=by
  unfold IntKind.wrap
  simp [IntKind.signed,IntKind.bits]
 rw [e]
 omega
theorem ofI (n:Nat):BitVec.ofInt 64 (n:Int)=BitVec.ofNat 64 n:=by simp
theorem u8g {a b:Nat} (ha:a<2 ^ 64) (hb:b<2 ^ 64):std.ar .or .u64 (a:Int) (b:Int)=((a|||b:Nat):Int):=by
 show IntKind.u64.wrap (((BitVec.ofInt 64 (a:Int)|||BitVec.ofInt 64 (b:Int)).toNat:Nat):Int)=_
 rw [ofI,ofI,BitVec.toNat_or,BitVec.toNat_ofNat,BitVec.toNat_ofNat,eCy ha,eCy hb,v5z (Nat.or_lt_two_pow ha hb)]
theorem u0d {a b:Nat} (ha:a<2 ^ 64) (hb:b<2 ^ 64):std.ar .and .u64 (a:Int) (b:Int)=((a&&&b:Nat):Int):=by
 show IntKind.u64.wrap (((BitVec.ofInt 64 (a:Int)&&&BitVec.ofInt 64 (b:Int)).toNat:Nat):Int)=_
 rw [ofI,ofI,BitVec.toNat_and,BitVec.toNat_ofNat,BitVec.toNat_ofNat,eCy ha,eCy hb,v5z (Nat.lt_of_le_of_lt Nat.and_le_left ha)]
theorem u2m {i:Nat} (h:i<64):std.ar .shl .u64 1 (i:Int)=((2 ^ i:Nat):Int):=by
 show IntKind.u64.wrap (1*2 ^ (min ((i:Int)).toNat 64))=_
 have:min ((i:Int)).toNat 64=i:=by omega
 rw [this,Int.one_mul]
 have e:((2:Int) ^ i)=((2 ^ i:Nat):Int):=by simp
 rw [e,v5z (eDv (by omega) h)]
theorem u2n {a i:Nat} (ha:a<2 ^ 64) (h:i<64):std.cmp .eql (std.ar .and .u64 (std.ar .shr .u64 (a:Int) (i:Int)) 1) 1=a.testBit i:=by
 have e1:std.ar .shr .u64 (a:Int) (i:Int)=((a / 2 ^ i:Nat):Int):=by
  show Int.fdiv (a:Int) (2 ^ (min ((i:Int)).toNat 64))=_
  have:min ((i:Int)).toNat 64=i:=by omega
  rw [this]
  have e:((2:Int) ^ i)=((2 ^ i:Nat):Int):=by simp
  rw [e,Int.fdiv_eq_ediv_of_nonneg _ (Int.natCast_nonneg _)]
  exact (Int.natCast_ediv ..).symm
 have hd:a / 2 ^ i<2 ^ 64:=Nat.lt_of_le_of_lt (Nat.div_le_self ..) ha
 rw [e1,show (1:Int)=((1:Nat):Int) from rfl,u0d hd (by omega),Nat.and_one_is_mod,v50,Nat.testBit_eq_decide_div_mod_eq]
 exact decide_eq_decide.2 (by omega)
theorem u2x {i:Nat} (h:i<128):std.ar .quo .i64 (i:Int) 64=if i<64 then 0 else 1:=by
 rw [v4g,Int.tdiv_eq_ediv_of_nonneg (by omega),w21 _ (by omega) (by omega)]
 split<;>omega
theorem u2w {i:Nat} (h:i<128):std.ar .rem .i64 (i:Int) 64=((if i<64 then i else i - 64:Nat):Int):=by
 rw [v60,Int.tmod_eq_emod_of_nonneg (by omega)]
 split<;>omega
end Go.Am
end
section
namespace Go.Am
section
variable {κ ν:Type} [DecidableEq κ]
def v5y:List (κ×ν)→κ→Nat→Option (Nat×ν)
 |[],_,_=>none
 |(k',v)::r,k,i=>if k=k' then some (i,v) else v5y r k (i+1)
def z23:List (κ×ν)→κ→Option ν
 |[],_=>none
 |(k',v)::r,k=>if k=k' then some v else z23 r k
def v9p:List (κ×ν)→κ→ν→List (κ×ν)
 |[],_,_=>[]
 |(k',w)::r,k,v=>if k=k' then (k,v)::r else (k',w)::v9p r k v
def v8k:List (κ×ν)→κ→List (κ×ν)
 |[],_=>[]
 |(k',w)::r,k=>if k=k' then r else (k',w)::v8k r k
def v39 (m:List (κ×ν)) (k:κ) (v:ν):List (κ×ν):=match z23 m k with
 |some _=>v9p m k v
 |none=>m++[(k,v)]
theorem v3m (k:κ):∀ (m:List (κ×ν)) (i:Nat),(v5y m k i).map (·.2)=z23 m k
 |[],i=>rfl
 |(k',v)::r,i=>by
  simp only [v5y,z23]
  split
  ·rfl
  ·exact v3m k r (i+1)
theorem v6c {k:κ}:∀ {m:List (κ×ν)} {i j:Nat} {v:ν},v5y m k i=some (j,v)→i≤j∧j<i+m.length
 |(k',w)::r,i,j,v,h=>by
  simp only [v5y] at h
  split at h
  ·cases h; simp
  ·have:=v6c h; simp only [eBi]; omega
theorem v6w {k:κ}:∀ {m:List (κ×ν)} {i j:Nat} {v:ν},v5y m k i=some (j,v)→∀ w,m.set (j - i) (k,w)=v9p m k w
 |(k',u)::r,i,j,v,h,w=>by
  simp only [v5y] at h
  simp only [v9p]
  split at h
  ·rename_i e; cases h; rw [if_pos e,Nat.sub_self]; rfl
  ·rename_i e
   have:=v6c h
   rw [if_neg e, ←v6w h w]
   have:j - i=(j - (i+1))+1:=by omega
   rw [this]; rfl
theorem v6x {k:κ}:∀ {m:List (κ×ν)} {i j:Nat} {v:ν},v5y m k i=some (j,v)→m.eraseIdx (j - i)=v8k m k
 |(k',u)::r,i,j,v,h=>by
  simp only [v5y] at h
  simp only [v8k]
  split at h
  ·rename_i e; cases h; rw [if_pos e,Nat.sub_self]; rfl
  ·rename_i e
   have:=v6c h
   rw [if_neg e, ←v6x h]
   have:j - i=(j - (i+1))+1:=by omega
   rw [this]; rfl
theorem v6t (k:κ) (v:ν) (k':κ):∀ m:List (κ×ν),z23 (v9p m k v) k'=if k'=k then (z23 m k).map fun _=>v else z23 m k'
 |[]=>by simp [v9p,z23]
 |(x,w)::r=>by
  have ih:=v6t k v k' r
  simp only [v9p]
  by_cases h:k=x
  ·rw [if_pos h]; subst h
   by_cases h':k'=k
   ·simp [z23,h']
   ·simp [z23,h']
  ·rw [if_neg h]
   simp only [z23]
   rw [ih]
   by_cases h':k'=x
   ·subst h'
    rw [if_pos rfl,if_neg (fun e=>h e.symm)]
    simp
   ·rw [if_neg h']
    by_cases h'':k'=k
    ·subst h''; rw [if_pos rfl,if_pos rfl,if_neg h]
    ·rw [if_neg h'',if_neg h'',if_neg h']
theorem v38 (k':κ) (l:List (κ×ν)):∀ m:List (κ×ν),z23 (m++l) k'=(z23 m k').or (z23 l k')
 |[]=>by simp [z23]
 |(x,w)::r=>by
  simp only [eDw,z23,v38 k' l r]
  split<;>rfl
theorem v25 (m:List (κ×ν)) (k:κ) (v:ν) (k':κ):z23 (v39 m k v) k'=if k'=k then some v else z23 m k':=by
 unfold v39
 cases h:z23 m k with
 |some w=>simp only [v6t,h,eBh]
 |none=>
  simp only [v38,z23]
  by_cases e:k'=k
  ·subst e; simp [h]
  ·simp [e]
theorem v3l {k:κ}:∀ {m:List (κ×ν)},z23 m k=none↔k∉m.map (·.1)
 |[]=>by simp [z23]
 |(x,w)::r=>by
  simp only [z23,eDc,eAz,not_or]
  split
  ·rename_i h; simp [h]
  ·rename_i h; simp only [v3l (m:=r)]; simp [h]
theorem v6y (k:κ):∀ (m:List (κ×ν)),((v8k m k).map (·.1)).Sublist (m.map (·.1))
 |[]=> .slnil
 |(x,w)::r=>by
  simp only [v8k]
  split
  ·exact List.sublist_cons_self _ _
  ·exact (v6y k r).cons_cons _
theorem v6v {k:κ} (k':κ):∀ {m:List (κ×ν)},(m.map (·.1)).Nodup→z23 (v8k m k) k'=if k'=k then none else z23 m k'
 |[],_=>by simp [v8k,z23]
 |(x,w)::r,h=>by
  simp only [eDc,List.nodup_cons] at h
  have ih:=v6v (k:=k) k' h.2
  simp only [v8k]
  by_cases e:k=x
  ·rw [if_pos e]; subst e
   simp only [z23]
   by_cases e':k'=k
   ·subst e'; rw [if_pos rfl]; exact v3l.2 h.1
   ·rw [if_neg e',if_neg e']
  ·rw [if_neg e]
   simp only [z23,ih]
   by_cases e':k'=x
   ·subst e'; rw [if_pos rfl,if_neg (fun h=>e h.symm),if_pos rfl]
   ·rw [if_neg e',if_neg e']
end
structure v7b (κ ν:Type) where
 ke:κ→D
 ve:ν→D
 ks:List SK
 ka:Bool
 va:Bool
 ck:List CK
structure v7b.Ok {κ ν:Type} [DecidableEq κ] (E:v7b κ ν):Prop where
 agg:∀ k,z1h (E.ke k)=E.ka
 kinds:∀ k,z04 E.ks (z0q (E.ke k))=true
 eq:∀ a b,z9f E.ks (z0q (E.ke a)) (z0q (E.ke b))=some (decide (a=b))
 vagg:∀ v,z1h (E.ve v)=E.va
 vok:∀ v,z3k E.ck (z0q (E.ve v))=true
def v7b.enc {κ ν:Type} (E:v7b κ ν) (m:List (κ×ν)):List (D×D):=m.map fun e=>(E.ke e.1,E.ve e.2)
section
variable {κ ν:Type} [DecidableEq κ] {E:v7b κ ν} (h:E.Ok)
include h
theorem v31 (k:κ):∀ (m:List (κ×ν)) (i:Nat),x0l E.ks E.ka (E.ke k) (E.enc m) i=some ((v5y m k i).map fun x=>(x.1,E.ve x.2))
 |[],i=>rfl
 |(k',v)::r,i=>by
  have ih:=v31 k r (i+1)
  unfold v7b.enc at ih⊢
  simp only [eDc,x0l,h.agg,beq_self_eq_true,eDq,cond_true,h.eq,v5y]
  by_cases e:k=k'
  ·simp [e]
  ·simp [e,ih]
theorem v53 (m:List (κ×ν)) (k:κ):std.mOk (E.enc m) E.ks E.ka (E.ke k) E.va E.ck=true:=by
 show ((z1h (E.ke k)==E.ka)&&z04 E.ks (z0q (E.ke k))&&match x0l E.ks E.ka (E.ke k) (E.enc m) 0 with|some none=>true|some (some (_,v))=>(z1h v==E.va)&&z3k E.ck (z0q v)|none=>false)=true
 rw [v31 h,h.agg,h.kinds]
 cases v5y m k 0 with
 |none=>simp
 |some x=>simp [h.vagg,h.vok]
theorem v3w (m:List (κ×ν)) (k:κ):w4n (E.enc m) E.ks E.ka (E.ke k)=(v5y m k 0).map fun x=>(x.1,E.ve x.2):=by
 unfold w4n; rw [v31 h]; rfl
theorem v40 (m:List (κ×ν)) (k:κ):std.mhas (E.enc m) E.ks E.ka (E.ke k)=(z23 m k).isSome:=by
 show (w4n _ _ _ _).isSome=_
 rw [v3w h, ←v3m k m 0]; simp
theorem v3z (m:List (κ×ν)) (k:κ) (j:Nat) {v:ν} (hv:z23 m k=some v):x2i (E.enc m) E.ks E.ka (E.ke k) j=((z0q (E.ve v))[j]?).getD .nilp:=by
 unfold x2i
 rw [v3w h]
 rw [←v3m k m 0] at hv
 cases ha:v5y m k 0 with
 |none=>rw [ha] at hv; cases hv
 |some x=>rw [ha] at hv; cases hv; rfl
theorem v30 (m:List (κ×ν)) (k:κ) (j:Nat) {v:ν} (hv:z23 m k=some v):std.mI (E.enc m) E.ks E.ka (E.ke k) j=dI (((z0q (E.ve v))[j]?).getD .nilp):=by
 show dI (x2i _ _ _ _ _)=_
 rw [v3z h m k j hv]
theorem u2s (m:List (κ×ν)) (k:κ) (j:Nat) {v:ν} (hv:z23 m k=some v):std.mB (E.enc m) E.ks E.ka (E.ke k) j=dB (((z0q (E.ve v))[j]?).getD .nilp):=by
 show dB (x2i _ _ _ _ _)=_
 rw [v3z h m k j hv]
theorem v6k (m:List (κ×ν)) (k:κ) {v:ν} (hv:z23 m k=some v) (w:ν):std.mset (E.enc m) (std.nat (std.ofNat (std.mpos (E.enc m) E.ks E.ka (E.ke k)))) (E.ke k) (E.ve w)=E.enc (v39 m k w):=by
 show (E.enc m).set (Int.toNat ((((w4n (E.enc m) E.ks E.ka (E.ke k)).map (·.1)).getD 0:Nat):Int)) (E.ke k,E.ve w)=_
 rw [v3w h]
 have hv':=hv
 rw [←v3m k m 0] at hv
 cases ha:v5y m k 0 with
 |none=>rw [ha] at hv; cases hv
 |some x=>
  obtain ⟨j,u⟩:=x
  simp only [eBh,eBk,eCh,v39,hv',v7b.enc]
  rw [←v6w ha w,Nat.sub_zero,List.map_set]
theorem v42 (m:List (κ×ν)) (k:κ) (hv:z23 m k=none) (w:ν):std.madd (E.enc m) (E.ke k) (E.ve w)=E.enc (v39 m k w):=by
 show E.enc m++[(E.ke k,E.ve w)]=_
 simp [v39,hv,v7b.enc]
theorem v8u (m:List (κ×ν)) (k:κ) {v:ν} (hv:z23 m k=some v):std.mdel (E.enc m) (std.nat (std.ofNat (std.mpos (E.enc m) E.ks E.ka (E.ke k))))=E.enc (v8k m k):=by
 show (E.enc m).eraseIdx (Int.toNat ((((w4n (E.enc m) E.ks E.ka (E.ke k)).map (·.1)).getD 0:Nat):Int))=_
 rw [v3w h]
 rw [←v3m k m 0] at hv
 cases ha:v5y m k 0 with
 |none=>rw [ha] at hv; cases hv
 |some x=>
  obtain ⟨j,u⟩:=x
  simp only [eBh,eBk,eCh,v7b.enc]
  rw [←v6x ha,Nat.sub_zero]
  apply eBd
  intro i
  simp only [List.getElem?_eraseIdx,eAg]
  split<;>rfl
end
end Go.Am
end
section
namespace Go.Am
theorem z57 {S R τ α:Type} {b:S→Option (S⊕R)} (l:List α) (e:τ→Nat→S) (f:τ→α→τ) (I:τ→Nat→Prop) (r:τ→R)
  (step:∀ t i x,l[i]?=some x→I t i→b (e t i)=some (.inl (e (f t x) (i+1)))∧I (f t x) (i+1))
  (stop:∀ t,I t l.length→b (e t l.length)=some (.inr (r t))) (t:τ) (h:I t 0):z5r b (e t 0)=some (r (l.foldl f t))∧I (l.foldl f t) l.length:=by
 have key:∀ (q:List α) (i:Nat) (t:τ),l.drop i=q→i≤l.length→I t i→z5r b (e t i)=some (r (q.foldl f t))∧I (q.foldl f t) l.length:=by
  intro q
  induction q with
  |nil=>
   intro i t hq hi hI
   have:i=l.length:=by have:=List.drop_eq_nil_iff.1 hq; omega
   subst this
   rw [z7m,stop t hI]
   exact ⟨rfl,hI⟩
  |cons x q ih=>
   intro i t hq hi hI
   have hx:l[i]?=some x:=by rw [←List.head?_drop,hq]; rfl
   have hlt:i<l.length:=(eAd.1 hx).1
   obtain ⟨h1,h2⟩:=step t i x hx hI
   have hq':l.drop (i+1)=q:=by rw [←eCw,hq]; rfl
   rw [z7m,h1]
   exact ih (i+1) (f t x) hq' hlt h2
 exact key l 0 t rfl (eAv _) h
namespace D12
def v6b (g:List Cd) (c:Cd):List Cd:=if (g.any fun d=>decide (d.n=c.n))=true then g else g++[c]
def z36 (dks:List (List Cd)):List Cd:=dks.foldl (fun g l=>l.foldl v6b g) []
def ixM (g:List Cd):List (Int×Nat):=(g.map (·.n)).zipIdx
def gi (g:List Cd) (c:Cd):Nat:=(g.map (·.n)).idxOf c.n
theorem v6s (x:Int):∀ (l:List Int) (k:Nat),z23 (l.zipIdx k) x=if x∈l then some (k+l.idxOf x) else none
 |[],k=>by simp [z23]
 |y::l,k=>by
  rw [List.zipIdx_cons]
  simp only [z23,v6s x l (k+1),eAz,List.idxOf_cons]
  by_cases h:x=y
  ·subst h; simp
  ·have h':(y==x)=false:=by simpa using fun e=>h e.symm
   simp only [h,if_false,false_or,h',cond_false]
   split
   ·simp; omega
   ·rfl
theorem v9v (g:List Cd) (x:Int):z23 (ixM g) x=if x∈g.map (·.n) then some ((g.map (·.n)).idxOf x) else none:=by
 unfold ixM; rw [v6s]; simp
theorem u1a {g:List Cd} {c:Cd} (h:c∈g):z23 (ixM g) c.n=some (gi g c):=by
 rw [v9v,if_pos (List.mem_map_of_mem h)]; rfl
theorem u2t (g:List Cd) (x:Int):(z23 (ixM g) x).isSome=g.any fun d=>decide (d.n=x):=by
 rw [v9v,eCu]
 by_cases h:x∈g.map (·.n)
 ·rw [if_pos h]
  obtain ⟨d,h1,h2⟩:=eBb.1 h
  simp only [Option.isSome_some,eCz,true_iff,decide_eq_true_eq]
  exact ⟨d,h1,h2⟩
 ·rw [if_neg h]
  simp only [Option.isSome_none,eCz,decide_eq_true_eq,eAi,false_iff]
  rintro ⟨d,h1,h2⟩
  exact h (eBb.2 ⟨d,h1,h2⟩)
theorem u2u {g:List Cd} {c:Cd} (h:z23 (ixM g) c.n=none):v39 (ixM g) c.n g.length=ixM (g++[c]):=by
 unfold v39; rw [h]
 unfold ixM
 rw [eDt,List.zipIdx_append]
 simp
theorem v80 {g:List Cd} {c:Cd} (h:c∈g):gi g c<g.length:=by
 have:=eDd (List.mem_map_of_mem (f:=fun c:Cd=>c.n) h)
 rwa [eBt] at this
theorem v6l {g:List Cd} {c:Cd} (hi:Inj g) (h:c∈g):g[gi g c]?=some c:=by
 have hl:=v80 h
 rw [eAa hl]
 congr 1
 refine hi _ (eCp hl) _ h ?_
 have e:=eDf (eDd (List.mem_map_of_mem (f:=fun c:Cd=>c.n) h))
 rw [List.getElem_map] at e
 exact e
theorem v3u {g:List Cd} {c:Cd} {i:Nat} (hn:(g.map (·.n)).Nodup) (h:g[i]?=some c):gi g c=i:=by
 obtain ⟨h1,h2⟩:=eAd.1 h
 have hi:=z21 hn
 have hm:c∈g:=eAu h
 have:=v6l hi hm
 obtain ⟨h3,h4⟩:=eAd.1 this
 have:=(List.getElem_inj (z28 hn) (h₀:=h3) (h₁:=h1)).1 (h4.trans h2.symm)
 exact this
def Rp (ss:List Sg) (g:List Cd) (B:Cd→Cd→Bool):Prop:=
 ss.length=g.length∧∀ i c,g[i]?=some c→∀ k,(ss.getD i Sg.none).has k=match g[k]? with|some d=>B d c|none=>false
theorem u0g (g:List Cd):Rp (List.replicate g.length Sg.none) g fun _ _=>false:=by
 refine ⟨by simp,fun i c hc k=>?_⟩
 have:(List.replicate g.length Sg.none).getD i Sg.none=Sg.none:=by
  rw [eCi,eCf]; split<;>rfl
 rw [this,Sg.has_none]
 split<;>rfl
theorem Rp.congr {ss:List Sg} {g:List Cd} {B C:Cd→Cd→Bool} (h:Rp ss g B) (hc:∀ d∈g,∀ c∈g,B d c=C d c):Rp ss g C:=by
 refine ⟨h.1,fun i c hi k=>?_⟩
 rw [h.2 i c hi k]
 cases hk:g[k]? with
 |none=>rfl
 |some d=>exact hc d (eAu hk) c (eAu hi)
def z24 (i:Nat) (s:List (Int×Nat)×List Sg) (x:Int):List (Int×Nat)×List Sg:=
 (v39 s.1 x i,match z23 s.1 x with|some k=>s.2.set i ((s.2.getD i Sg.none).wth k)|none=>s.2)
theorem v71 {α:Type} {l:List α} {i j:Nat} {a d:α} (h:j≠i):(l.set i a).getD j d=l.getD j d:=by
 rw [eCi,eCi,List.getElem?_set_ne (fun e=>h e.symm)]
theorem v72 {α:Type} {l:List α} {i:Nat} {a d:α} (h:i<l.length):(l.set i a).getD i d=a:=by
 rw [eCi,List.getElem?_set_self h]; rfl
theorem v7g (i:Nat):∀ (t:List Int) (L:List (Int×Nat)) (ss:List Sg),t.Nodup→i<ss.length→(∀ x k,z23 L x=some k→k<128)→i<128→
  (∀ x,z23 (t.foldl (z24 i) (L,ss)).1 x=if x∈t then some i else z23 L x)∧(t.foldl (z24 i) (L,ss)).2.length=ss.length∧
  (∀ j,j≠i→(t.foldl (z24 i) (L,ss)).2.getD j Sg.none=ss.getD j Sg.none)∧
  ∀ k,((t.foldl (z24 i) (L,ss)).2.getD i Sg.none).has k=((ss.getD i Sg.none).has k||t.any fun x=>decide (z23 L x=some k))
 |[],L,ss,_,_,_,_=>⟨fun x=>by simp,rfl,fun _ _=>rfl,fun k=>by simp⟩
 |x::t,L,ss,hn,hi,hL,h128=>by
  simp only [eDr]
  have hn':=List.nodup_cons.1 hn
  have hs:(z24 i (L,ss) x).2.length=ss.length:=by
   unfold z24; simp only; cases z23 L x<;>simp
  have ih:=v7g i t (z24 i (L,ss) x).1 (z24 i (L,ss) x).2 hn'.2 (by rw [hs]; exact hi) (by
   intro y k hy
   unfold z24 at hy
   simp only [v25] at hy
   split at hy
   ·cases hy; exact h128
   ·exact hL y k hy) h128
  obtain ⟨h1,h2,h3,h4⟩:=ih
  refine ⟨fun y=>?_,h2.trans hs,fun j hj=>?_,fun k=>?_⟩
  ·rw [h1 y]
   simp only [z24,v25,eAz]
   by_cases hy:y∈t
   ·simp [hy]
   ·by_cases hx:y=x
    ·simp [hx]
    ·simp [hy,hx]
  ·rw [h3 j hj]
   simp only [z24]
   cases z23 L x with
   |none=>rfl
   |some k=>exact v71 hj
  ·rw [h4 k]
   have e1:((z24 i (L,ss) x).2.getD i Sg.none).has k=((ss.getD i Sg.none).has k||decide (z23 L x=some k)):=by
    simp only [z24]
    cases hv:z23 L x with
    |none=>simp
    |some m=>
     simp only
     rw [v72 hi,Sg.has_wth _ (hL x m hv)]
     congr 1
     exact decide_eq_decide.2 ⟨fun h=>by rw [h],fun h=>by cases h; rfl⟩
   have e2:(t.any fun y=>decide (z23 (z24 i (L,ss) x).1 y=some k))=t.any fun y=>decide (z23 L y=some k):=by
    have:∀ y∈t,decide (z23 (z24 i (L,ss) x).1 y=some k)=decide (z23 L y=some k):=by
     intro y hy
     simp only [z24,v25]
     have:y≠x:=fun e=>hn'.1 (e▸hy)
     simp [this]
    rw [eCu,eCz,eCz]
    constructor
    ·rintro ⟨y,hy,h⟩; exact ⟨y,hy,by rw [←this y hy]; exact h⟩
    ·rintro ⟨y,hy,h⟩; exact ⟨y,hy,by rw [this y hy]; exact h⟩
   rw [e1,e2,List.any_cons,Bool.or_assoc]
def v4q (g:List Cd) (s:List (Int×Nat)×List Sg) (c:Cd):List (Int×Nat)×List Sg:=c.t.foldl (z24 (gi g c)) s
structure v9t (g:List Cd) (B0:Cd→Cd→Bool) (p:List Cd) (s:List (Int×Nat)×List Sg):Prop where
 last:∀ x,z23 s.1 x=(on x p).getLast?.map (gi g)
 rel:Rp s.2 g fun d c=>B0 d c||ltc p d c
theorem v6h {p:List Cd} {c e:Cd} (h:e∈p):pre (p++[c]) e=pre p e:=by
 unfold pre
 have h1:=eDd h
 rw [List.idxOf_append,if_pos h,List.take_append_of_le_length (by omega)]
theorem u1h {g:List Cd} {B0:Cd→Cd→Bool} (hg:(g.map (·.n)).Nodup) (hl:g.length≤128) {p:List Cd} {c:Cd} (hp:∀ d∈p,d∈g) (hc:c∈g) (hcp:c∉p) (ht:c.t.Nodup)
  {s:List (Int×Nat)×List Sg} (h:v9t g B0 p s):v9t g B0 (p++[c]) (v4q g s c):=by
 have hi:=z21 hg
 have hgl:=v80 hc
 obtain ⟨h1,h2,h3,h4⟩:=v7g (gi g c) c.t s.1 s.2 ht (by rw [h.rel.1]; exact hgl) (by
  intro x k hx
  rw [h.last x] at hx
  cases hq:(on x p).getLast? with
  |none=>rw [hq] at hx; cases hx
  |some d=>
   rw [hq] at hx
   cases hx
   have:=v80 (hp d (v4k (eDl hq)))
   omega) (by omega)
 refine ⟨fun x=>?_,?_,?_⟩
 ·show z23 (c.t.foldl (z24 (gi g c)) s).1 x=_
  rw [h1 x,v3f,h.last x]
  by_cases hx:x∈c.t
  ·rw [if_pos hx]
   have:on x [c]=[c]:=by rw [v4z hx]; rfl
   rw [this]; simp
  ·rw [if_neg hx]
   have:on x [c]=[]:=by simp [on,hx]
   rw [this]; simp
 ·show (c.t.foldl (z24 (gi g c)) s).2.length=_
  rw [h2,h.rel.1]
 ·intro i e he k
  show ((c.t.foldl (z24 (gi g c)) s).2.getD i Sg.none).has k=_
  have hie:=v3u hg he
  have hem:e∈g:=eAu he
  by_cases hec:e=c
  ·subst hec
   have h4':=h4 k
   rw [hie] at h4'⊢
   refine h4'.trans ?_
   rw [h.rel.2 i e he k]
   cases hk:g[k]? with
   |none=>
    simp only [Bool.false_or]
    rw [List.any_eq_false]
    intro x hx
    simp only [decide_eq_true_eq]
    intro hv
    have hv:z23 s.1 x=some k:=hv
    rw [h.last x] at hv
    cases hq:(on x p).getLast? with
    |none=>rw [hq] at hv; cases hv
    |some d=>
     rw [hq] at hv
     cases hv
     rw [v6l hi (hp d (v4k (eDl hq)))] at hk
     cases hk
   |some d=>
    simp only
    rw [Bool.or_assoc]
    congr 1
    have hl0:ltc p d e=false:=by
     cases hq:ltc p d e with
     |false=>rfl
     |true=>exact absurd (v29.1 hq).1 hcp
    rw [hl0,Bool.false_or,eCu,eCz,v29,v5e (p:=p) (r:=[]) rfl hcp]
    constructor
    ·rintro ⟨x,hx,hv⟩
     have hv:z23 s.1 x=some k:=by simpa using hv
     rw [h.last x] at hv
     refine ⟨by simp,x,hx,?_⟩
     cases hq:(on x p).getLast? with
     |none=>rw [hq] at hv; cases hv
     |some d'=>
      rw [hq] at hv
      cases hv
      rw [v6l hi (hp d' (v4k (eDl hq)))] at hk
      exact hk
    ·rintro ⟨_,x,hx,hv⟩
     refine ⟨x,hx,?_⟩
     have:z23 s.1 x=some k:=by
      rw [h.last x,hv]
      exact congrArg some (v3u hg hk)
     simpa using this
  ·have hne:i≠gi g c:=by
    rintro rfl
    rw [v6l hi hc] at he
    exact hec (Option.some.inj he).symm
   have h3':=congrArg (fun z=>z.has k) (h3 i hne)
   refine h3'.trans ?_
   simp only []
   rw [h.rel.2 i e he k]
   cases hk:g[k]? with
   |none=>rfl
   |some d=>
    simp only
    congr 1
    rw [eCu,v29,v29]
    constructor
    ·rintro ⟨hm,x,hx,hv⟩
     exact ⟨eDj _ hm,x,hx,by rw [v6h hm]; exact hv⟩
    ·rintro ⟨hm,x,hx,hv⟩
     have hm':e∈p:=by
      rcases eBj.1 hm with h|h
      ·exact h
      ·exact absurd (eBe.1 h) hec
     exact ⟨hm',x,hx,by rw [v6h hm'] at hv; exact hv⟩
theorem v78 {g:List Cd} {B0:Cd→Cd→Bool} (hg:(g.map (·.n)).Nodup) (hl:g.length≤128):∀ (q p:List Cd) (s:List (Int×Nat)×List Sg),(∀ d∈p++q,d∈g)→(p++q).Nodup→(∀ c∈q,c.t.Nodup)→v9t g B0 p s→v9t g B0 (p++q) (q.foldl (v4q g) s)
 |[],p,s,_,_,_,h=>by simpa using h
 |c::q,p,s,hm,hn,ht,h=>by
  have hs:=u1h hg hl (fun d hd=>hm d (eDj _ hd)) (hm c (by simp)) (fun hc=>(eDn.1 hn).2.2 c hc c (eBq ..) rfl) (ht c (eBq ..)) h
  have e:p++c::q=(p++[c])++q:=by simp
  rw [e]
  exact v78 hg hl q (p++[c]) _ (by rw [←e]; exact hm) (by rw [←e]; exact hn) (fun d hd=>ht d (eCm _ hd)) hs
def v33 (g:List Cd) (ss:List Sg) (l:List Cd):List Sg:=(l.foldl (v4q g) ([],ss)).2
def u5m (g:List Cd) (dks:List (List Cd)):List Sg:=dks.foldl (v33 g) (List.replicate g.length Sg.none)
theorem v76 {g:List Cd} (hg:(g.map (·.n)).Nodup) (hl:g.length≤128):∀ (dks:List (List Cd)) (B0:Cd→Cd→Bool) (ss:List Sg),(∀ l∈dks,(∀ d∈l,d∈g)∧l.Nodup∧∀ c∈l,c.t.Nodup)→Rp ss g B0→
  Rp (dks.foldl (v33 g) ss) g fun d c=>B0 d c||dks.any fun l=>ltc l d c
 |[],B0,ss,_,h=>h.congr fun _ _ _ _=>by simp
 |l::dks,B0,ss,hd,h=>by
  obtain ⟨h1,h2,h3⟩:=hd l (eBq ..)
  have hf:=v78 (B0:=B0) hg hl l [] ([],ss) (by simpa using h1) (by simpa using h2) h3 ⟨fun x=>by simp [z23,on],h.congr fun d _ c _=>by
   have:ltc [] d c=false:=by
    cases hq:ltc [] d c with
    |false=>rfl
    |true=>exact absurd (v29.1 hq).1 (by simp)
   rw [this,Bool.or_false]⟩
  have:=v76 hg hl dks _ _ (fun l hl=>hd l (eCm _ hl)) hf.rel
  refine (show Rp ((l::dks).foldl (v33 g) ss) g _ from this).congr fun d _ c _=>?_
  simp only [List.nil_append,List.any_cons,Bool.or_assoc]
theorem u0f {g:List Cd} (hg:(g.map (·.n)).Nodup) (hl:g.length≤128) {dks:List (List Cd)} (hd:∀ l∈dks,(∀ d∈l,d∈g)∧l.Nodup∧∀ c∈l,c.t.Nodup):Rp (u5m g dks) g fun d c=>dks.any fun l=>ltc l d c:=
 (v76 hg hl dks _ _ hd (u0g g)).congr fun _ _ _ _=>by simp
end D12
end Go.Am
end
section
namespace Go.Am.D12
def u3x (l:List Cd) (x:Int):Cd:=(l.find? fun c=>decide (c.n=x)).getD default
def z32 (l:List Cd) (m:Nat):List Cd:=(v26 l (z63 l) (m+1)).map (u3x l)
def v5a (l:List Cd) (m:Nat):List Cd:=(List.range m).flatMap (z32 l)
theorem v98 {l:List Cd} (hi:Inj l) {c:Cd} (hc:c∈l):u3x l c.n=c:=by
 unfold u3x
 cases h:l.find? fun d=>decide (d.n=c.n) with
 |none=>have:=List.find?_eq_none.1 h c hc; simp at this
 |some d=>
  have h1:=eDb h
  have h2:=eDu h
  simp only [decide_eq_true_eq] at h2
  exact hi d h1 c hc h2
theorem v4w {l:List Cd} (hi:Inj l) {m:Nat} {x:Int} (h:x∈v26 l (z63 l) (m+1)):∃ c∈l,c.n=x∧z63 l c=m+1∧u3x l x=c:=by
 obtain ⟨c,h1,h2,h3⟩:=v4x.1 h
 exact ⟨c,h1,h3,h2,by rw [←h3]; exact v98 hi h1⟩
theorem z41 {l:List Cd} (hi:Inj l) {m:Nat} {c:Cd}:c∈z32 l m↔c∈l∧z63 l c=m+1:=by
 unfold z32
 rw [eBb]
 constructor
 ·rintro ⟨x,hx,rfl⟩
  obtain ⟨c,h1,h2,h3,h4⟩:=v4w hi hx
  rw [h4]; exact ⟨h1,h3⟩
 ·rintro ⟨h1,h2⟩
  exact ⟨c.n,v4x.2 ⟨c,h1,h2,rfl⟩,v98 hi h1⟩
theorem v4j {l:List Cd} (h:(l.map (·.n)).Nodup) (F:Cd→Nat) (m:Nat):(v26 l F m).Nodup:=by
 unfold v26
 rw [(srt_perm _).nodup_iff]
 exact h.sublist (List.Sublist.map _ List.filter_sublist)
theorem u0j {l:List Cd} (h:(l.map (·.n)).Nodup) (F:Cd→Nat) (m:Nat):(v26 l F m).Pairwise (· < ·):=by
 have h1:(v26 l F m).Pairwise (· ≤ ·):=z87 _
 have h2:(v26 l F m).Pairwise (· ≠ ·):=v4j h F m
 exact (h1.and h2).imp fun h=>by omega
theorem v5b {l:List Cd} (h:(l.map (·.n)).Nodup) (m:Nat):(z32 l m).Nodup:=by
 unfold z32
 have h2:=v4j h (z63 l) (m+1)
 refine List.Pairwise.map _ ?_ (List.Pairwise.and_mem.1 h2)
 rintro x y ⟨hx,hy,hne⟩ e
 obtain ⟨c,h1,h2,h3,h4⟩:=v4w (z21 h) hx
 obtain ⟨d,k1,k2,k3,k4⟩:=v4w (z21 h) hy
 rw [h4,k4] at e
 exact hne (by rw [←h2, ←k2,e])
theorem v7i {l:List Cd} (hi:Inj l) {m:Nat} {c:Cd} (hc:c∈l) (h:z63 l c=m+2):∃ d∈z32 l m,tch d c=true:=by
 obtain ⟨d,h1,h2,h3⟩:=v7n (v4y l) hc h
 exact ⟨d,(z41 hi).2 ⟨h1,h3⟩,(x2a.1 h2).1⟩
theorem v7j {l:List Cd} {c d:Cd} (hc:c∈l) (hd:d∈l) (h:z63 l d=z63 l c) (hne:d≠c):tch d c=false:=by
 cases ht:tch d c with
 |false=>rfl
 |true=>
  exfalso
  rcases v3e hd hne ht with h1|h1
  ·have:=v8r (v4y l) hd hc h1; omega
  ·have:=v8r (v4y l) hc hd h1; omega
theorem v6q {l:List Cd} (h:(l.map (·.n)).Nodup):Eqv l (v5a l (mxs (z63 l) l)):=by
 have hi:=z21 h
 have hn:=z28 h
 have hnod:(v5a l (mxs (z63 l) l)).Nodup:=by
  unfold v5a
  refine List.pairwise_flatMap.2 ⟨fun m _=>v5b h m,?_⟩
  refine List.pairwise_lt_range.imp fun {a b} hab=>?_
  intro x hx y hy e
  have h1:=((z41 hi).1 hx).2
  have h2:=((z41 hi).1 hy).2
  rw [e] at h1; omega
 have hp:l.Perm (v5a l (mxs (z63 l) l)):=by
  refine z51 hn hnod fun c=>?_
  unfold v5a
  rw [List.mem_flatMap]
  constructor
  ·intro hc
   have h1:=u2o (v4y l) hc
   have h2:=v28 (F:=z63 l) hc
   exact ⟨z63 l c - 1,eBo.2 (by omega),(z41 hi).2 ⟨hc,by omega⟩⟩
  ·rintro ⟨m,_,hm⟩
   exact ((z41 hi).1 hm).1
 refine v3a hn hp ?_
 unfold v5a
 refine List.pairwise_flatMap.2 ⟨fun m _=>?_,?_⟩
 ·refine List.pairwise_of_forall_mem_list fun x hx y hy=>?_
  have h1:=((z41 hi).1 hx).2
  have h2:=((z41 hi).1 hy).2
  omega
 ·refine List.pairwise_lt_range.imp fun {a b} hab=>?_
  intro x hx y hy
  have h1:=((z41 hi).1 hx).2
  have h2:=((z41 hi).1 hy).2
  omega
end Go.Am.D12
end
section
namespace Go.Am
open D12
variable {fl fl':List Int→Bool}
theorem u4p (s:Sg) (i:Nat) (h:i<128):G74 std ((s.a:Int),((s.b:Int),((i:Int),())))=some (s.has i,()):=by
 have q:=u2x h
 have r:=u2w h
 unfold G74 Sg.has
 by_cases h6:i<64
 ·rw [if_pos h6] at q r⊢
  have hb:=u2n s.ha h6
  rw [v50] at hb
  have r0:(0:Int)≤((i:Nat):Int):=by omega
  simp [z2d,z2e,z4b,Int.reduceLT,Int.reduceEq,Int.reduceLE,q,r,hb,r0]
 ·rw [if_neg h6] at q r⊢
  have hb:=u2n s.hb (show i - 64<64 by omega)
  rw [v50] at hb
  have r0:(0:Int)≤((i - 64:Nat):Int):=by omega
  simp [z2d,z2e,z4b,Int.reduceLT,Int.reduceEq,Int.reduceLE,q,r,hb,r0]
theorem u0a (s:Sg) (i:Nat) (h:i<128):G72 std ((s.a:Int),((s.b:Int),((i:Int),())))=some (((s.wth i).a:Int),(((s.wth i).b:Int),())):=by
 have q:=u2x h
 have r:=u2w h
 unfold G72 Sg.wth
 by_cases h6:i<64
 ·rw [if_pos h6] at q r
  rw [dif_pos h6]
  have hb:=u8g s.ha (eDv (by omega) h6:2 ^ i<2 ^ 64)
  have hs:=u2m h6
  have r0:(0:Int)≤((i:Nat):Int):=by omega
  have t0:(0:Int)<((2:Nat):Int):=by omega
  have t1:(1:Int)<((2:Nat):Int):=by omega
  simp only [z2d,z2e,z4b,Int.reduceLT,Int.reduceEq,Int.reduceLE,q,r,hs,hb,r0,t0,t1]
 ·rw [if_neg h6] at q r
  rw [dif_neg h6,dif_pos h]
  have h7:i - 64<64:=by omega
  have hb:=u8g s.hb (eDv (by omega) h7:2 ^ (i - 64)<2 ^ 64)
  have hs:=u2m h7
  have r0:(0:Int)≤((i - 64:Nat):Int):=by omega
  have t0:(0:Int)<((2:Nat):Int):=by omega
  have t1:(1:Int)<((2:Nat):Int):=by omega
  simp only [z2d,z2e,z4b,Int.reduceLT,Int.reduceEq,Int.reduceLE,q,r,hs,hb,r0,t0,t1]
theorem u4f (a b c d e f:Int):v6p std (a,(b,(c,(d,(e,(f,((0:Int),())))))))=some (.inl (std.ar .and .u64 a c,(b,(c,(d,(e,(f,((1:Int),())))))))):=rfl
theorem u4e (a b c d e f:Int):v6p std (a,(b,(c,(d,(e,(f,((1:Int),())))))))=some (.inl (a,(std.ar .and .u64 b d,(c,(d,(e,(f,((2:Int),())))))))):=rfl
theorem u4d (a b c d e f:Int):v6p std (a,(b,(c,(d,(e,(f,((2:Int),())))))))=some (.inr (a,(b,(e,(f,()))))):=rfl
theorem u1w (s t:Sg):u5a std ((s.a:Int),((s.b:Int),((t.a:Int),((t.b:Int),()))))=some (((s.and t).a:Int),(((s.and t).b:Int),())):=by
 unfold u5a
 rw [z7m,u4f]
 simp only []
 rw [z7m,u4e]
 simp only []
 rw [z7m,u4d,u0d s.ha t.ha,u0d s.hb t.hb]
 rfl
theorem u1y (l:List Int) (h1:1≤l.length) (h2:l.length≤1000000):u5b std (z1a l,())=some (z1a l,()):=by
 unfold u5b
 have e0:(z1a l).length=l.length:=z00 l
 have h3:¬ l.length≤0:=by omega
 have h4:(z1a l).take l.length=z1a l:=by rw [←e0,eDg]
 simp only [z2d,z2e,z4b,Int.reduceLT,Int.reduceEq,Int.reduceLE,e0,h1,h2,h3,List.take_nil,List.drop_nil,List.nil_append,eDi,eAp,eAk,eAt,h4]
theorem u4o (c:Cd) (h1:1≤c.t.length) (h2:c.t.length≤1000000):G75 std (c.n,(c.k,(z1a c.t,(c.a,()))))=some (c.n,(c.k,(z1a c.t,(c.a,())))):=by
 unfold G75
 have:=u1y c.t h1 h2
 simp only [z2d,z2e,this]
def eS (s:Sg):List D:=[.int .u64 (s.a:Int), .int .u64 (s.b:Int)]
def z46 (l:List Sg):List (List D):=l.map eS
theorem v87 (l:List Sg):(z46 l).length=l.length:=by simp [z46]
theorem z85 (s:Sg):z3k [CK.int IntKind.u64,CK.int IntKind.u64] (eS s)=true:=rfl
theorem v35 (s:Sg):dI ((eS s)[0]?.getD D.nilp)=(s.a:Int):=rfl
theorem v34 (s:Sg):dI ((eS s)[1]?.getD D.nilp)=(s.b:Int):=rfl
theorem v86 (l:List Sg) (i:Nat) (s:Sg):(z46 l).set i (eS s)=z46 (l.set i s):=by simp [z46,List.map_set]
def EX:v7b Int Nat:=⟨fun k=> .int .i64 k,fun v=> .int .i64 (v:Int),[.i],false,false,[.int .i64]⟩
theorem v8n:EX.Ok where
 agg _:=rfl
 kinds _:=rfl
 eq:=fun a b=>by
  show (bif IntKind.i64==IntKind.i64 then (some (z3o .eql a b&&true)) else none)=_
  rw [eCc]; rfl
 vagg _:=rfl
 vok _:=rfl
def z75 (m:List (Int×Nat)):List (D×D):=EX.enc m
section
variable (m:List (Int×Nat)) (x:Int)
theorem v9q:std.mOk (z75 m) [SK.i] false (.int .i64 x) false [.int .i64]=true:=v53 v8n m x
theorem v48:std.mhas (z75 m) [SK.i] false (.int .i64 x)=(z23 m x).isSome:=v40 v8n m x
variable {m x}
theorem u1r {v:Nat} (h:z23 m x=some v):std.mI (z75 m) [SK.i] false (.int .i64 x) 0=(v:Int):=v30 v8n m x 0 h
theorem u4h {v:Nat} (h:z23 m x=some v) (w:Nat):std.mset (z75 m) (std.mpos (z75 m) [SK.i] false (.int .i64 x)) (.int .i64 x) (.int .i64 (w:Int))=z75 (v39 m x w):=v6k v8n m x h w
theorem u1s (h:z23 m x=none) (w:Nat):std.madd (z75 m) (.int .i64 x) (.int .i64 (w:Int))=z75 (v39 m x w):=v42 v8n m x h w
end
end Go.Am
end
section
namespace Go.Am
open D12
variable {fl fl':List Int→Bool}
theorem v9b (C lc DK:List (List D)) (IX:List (D×D)) (off len i n:Nat) (nd kd nl kl:Int) (t:List Int) (L:List (Int×Nat)) (ss:List Sg) (hn:n≤128) (hi:i<n) (hs:ss.length=n) (hL:∀ x k,z23 L x=some k→k<128) (ht:t.length≤1000000):
  z5r (v65 std) (z75 L,(C,(IX,(z46 ss,(off,(len,((i:Int),(DK,(nd,(kd,(lc,(nl,(kl,(z1a t,((t.length:Int),((0:Int),()))))))))))))))))=
   some (z75 (t.foldl (z24 i) (L,ss)).1,(C,(IX,(z46 (t.foldl (z24 i) (L,ss)).2,(off,(len,(DK,(nd,(kd,(lc,(nl,(kl,())))))))))))):=by
 have key:=z57 (b:=v65 std) t (fun (s:List (Int×Nat)×List Sg) j=>(z75 s.1,(C,(IX,(z46 s.2,(off,(len,((i:Int),(DK,(nd,(kd,(lc,(nl,(kl,(z1a t,((t.length:Int),((j:Int),()))))))))))))))))) (z24 i)
  (fun s _=>s.2.length=n∧∀ x k,z23 s.1 x=some k→k<128) (fun s=>(z75 s.1,(C,(IX,(z46 s.2,(off,(len,(DK,(nd,(kd,(lc,(nl,(kl,())))))))))))))
  (fun s j x hx hI=>by
   obtain ⟨hs,hL⟩:=hI
   have hj:j<t.length:=(eAd.1 hx).1
   obtain ⟨hw,h0⟩:=stp j (by omega)
   have hlt:(j:Int)<t.length:=by omega
   have hlen:(z46 s.2).length=n:=by rw [v87,hs]
   have hin:(i:Int)<(n:Int):=by omega
   have hi0:(0:Int)≤(i:Int):=by omega
   have hti:((i:Int)).toNat=i:=by omega
   have hget:s.2[i]?=some (s.2.getD i Sg.none):=by rw [eCi,eAa (by omega)]; rfl
   have hinv:(z24 i s x).2.length=n∧∀ y k,z23 (z24 i s x).1 y=some k→k<128:=by
    refine ⟨?_,fun y k hy=>?_⟩
    ·unfold z24; simp only; cases z23 s.1 x<;>simp [hs]
    ·simp only [z24,v25] at hy
     split at hy
     ·cases hy; omega
     ·exact hL y k hy
   refine ⟨?_,hinv⟩
   cases hv:z23 s.1 x with
   |none=>
    have hh:(z23 s.1 x).isSome=false:=by rw [hv]; rfl
    have ha:=u1s hv i
    simp only [v65,z2d,z2e,z1a,y8q,w5s,z4b,Int.reduceLT,Int.reduceEq,Int.reduceLE,hx,hlt,h0,hw,v9q,v48,hh,ha,hti,eAg,eBh,z24,hv,Option.isSome_none,Option.isSome_some]
   |some k=>
    have hh:(z23 s.1 x).isSome=true:=by rw [hv]; rfl
    have ha:=u4h hv i
    have hg:=u1r hv
    have h72:=u0a (s.2.getD i Sg.none) k (hL x k hv)
    have hset:=v86 s.2 i ((s.2.getD i Sg.none).wth k)
    have hl2:(z46 (s.2.set i ((s.2.getD i Sg.none).wth k))).length=(z46 s.2).length:=by simp [z46]
    simp only [show ∀ z:Sg,eS z=[.int .u64 (z.a:Int), .int .u64 (z.b:Int)] from fun _=>rfl] at hset
    have hrow:(z46 s.2)[i]?=some (eS (s.2.getD i Sg.none)):=by unfold z46; rw [eAg,hget]; rfl
    rw [←hlen] at hin
    simp only [v65,z2d,z2e,z1a,y8q,w5s,z4b,Int.reduceLT,Int.reduceEq,Int.reduceLE,hx,hlt,h0,hw,v9q,v48,hh,ha,hg,hti,hrow,z85,v35,v34,h72,hin,hi0,eAg,eBh,z24,hv,Option.isSome_none,Option.isSome_some,hset,hl2])
  (fun s _=>by
   have hno:¬ (t.length:Int)<t.length:=by omega
   simp only [v65,z2d,z2e,hno,if_false,z4b,Int.reduceLT,Int.reduceEq,Int.reduceLE]) (L,ss) ⟨hs,hL⟩
 exact key.1
theorem v9c (C DK:List (List D)) (off len:Nat) (nd kd:Int) (g l:List Cd) (hg:(g.map (·.n)).Nodup) (hgl:g.length≤128) (hm:∀ c∈l,c∈g) (ss:List Sg) (hs:ss.length=g.length) (hll:l.length≤1000000) (hf:Few l):
  z5r (v8d std) ([],(C,(z75 (ixM g),(z46 ss,(off,(len,(DK,(nd,(kd,(z0p fl l,((l.length:Int),((0:Int),()))))))))))))=
   some (C,(z75 (ixM g),(z46 (v33 g ss l),(off,(len,(DK,(nd,(kd,())))))))):=by
 have key:=z57 (b:=v8d std) l (fun (s:List (Int×Nat)×List Sg) j=>(z75 s.1,(C,(z75 (ixM g),(z46 s.2,(off,(len,(DK,(nd,(kd,(z0p fl l,((l.length:Int),((j:Int),()))))))))))))) (v4q g)
  (fun s _=>s.2.length=g.length∧∀ x k,z23 s.1 x=some k→k<128) (fun s=>(C,(z75 (ixM g),(z46 s.2,(off,(len,(DK,(nd,(kd,())))))))))
  (fun s j c hx hI=>by
   obtain ⟨hs,hL⟩:=hI
   have hj:j<l.length:=(eAd.1 hx).1
   have hc:=eAu hx
   obtain ⟨hw,h0⟩:=stp j (by omega)
   have hlt:(j:Int)<l.length:=by omega
   have hgi:=v80 (hm c hc)
   have hv:=u1a (hm c hc)
   have hh:(z23 (ixM g) c.n).isSome=true:=by rw [hv]; rfl
   have hge:=u1r hv
   have h5:=v9b C (z0p fl l) DK (z75 (ixM g)) off len (gi g c) g.length nd kd l.length j c.t s.1 s.2 hgl hgi hs hL (hf c hc)
   have hinv:∀ (t:List Int) (s:List (Int×Nat)×List Sg),s.2.length=g.length→(∀ x k,z23 s.1 x=some k→k<128)→(t.foldl (z24 (gi g c)) s).2.length=g.length∧∀ y k,z23 (t.foldl (z24 (gi g c)) s).1 y=some k→k<128:=by
    intro t
    induction t with
    |nil=>intro s h1 h2; exact ⟨h1,h2⟩
    |cons x t ih=>
     intro s h1 h2
     refine ih _ ?_ ?_
     ·unfold z24; simp only; cases z23 s.1 x<;>simp [h1]
     ·intro y k hy
      simp only [z24,v25] at hy
      split at hy
      ·cases hy; omega
      ·exact h2 y k hy
   refine ⟨?_,hinv c.t s hs hL⟩
   simp only [z0p,z1a] at h5
   have hrow:=v3v (fl:=fl) hx
   have hle:(l.map (eC fl)).length=l.length:=by simp
   have hti:(c.t.map eI).length=c.t.length:=by simp
   simp only [v8d,z2d,z2e,z0p,z1a,z5s,y4y,z0p,z1a,z4b,Int.reduceLT,Int.reduceEq,Int.reduceLE,hlt,h0,hw,hrow,hx,v9q,v48,hh,hge,h5,hti,hle,y0o,v4q])
  (fun s _=>by
   have hno:¬ (l.length:Int)<l.length:=by omega
   simp only [v8d,z2d,z2e,hno,if_false,z4b,Int.reduceLT,Int.reduceEq,Int.reduceLE]) ([],ss) ⟨hs,fun x k h=>by cases h⟩
 exact key.1
def eDk (fl:List Int→Bool) (l:List Cd):List D:=[.list false 4 (z0p fl l)]
def v24 (fl:List Int→Bool) (d:List (List Cd)):List (List D):=d.map (eDk fl)
theorem v5m (l:List Cd):z3k [CK.list 4] (eDk fl l)=true:=rfl
theorem v9x (l:List Cd):dL ((eDk fl l)[0]?.getD D.nilp)=z0p fl l:=rfl
theorem v9d (C:List (List D)) (off len:Nat) (g:List Cd) (hg:(g.map (·.n)).Nodup) (hgl:g.length≤128) (dks:List (List Cd)) (hm:∀ l∈dks,∀ c∈l,c∈g) (ss:List Sg) (hs:ss.length=g.length) (hdl:dks.length≤1000000) (hll:∀ l∈dks,l.length≤1000000) (hf:∀ l∈dks,Few l):
  z5r (v8e std) (C,(z75 (ixM g),(z46 ss,(off,(len,(v24 fl dks,((dks.length:Int),((0:Int),()))))))))=some (C,(z75 (ixM g),(z46 (dks.foldl (v33 g) ss),(off,(len,()))))):=by
 have key:=z57 (b:=v8e std) dks (fun (s:List Sg) j=>(C,(z75 (ixM g),(z46 s,(off,(len,(v24 fl dks,((dks.length:Int),((j:Int),()))))))))) (v33 g)
  (fun s _=>s.length=g.length) (fun s=>(C,(z75 (ixM g),(z46 s,(off,(len,()))))))
  (fun s j l hx hI=>by
   have hj:j<dks.length:=(eAd.1 hx).1
   have hl:=eAu hx
   obtain ⟨hw,h0⟩:=stp j (by omega)
   have hlt:(j:Int)<dks.length:=by omega
   have h4:=v9c (fl:=fl) C (v24 fl dks) off len dks.length j g l hg hgl (hm l hl) s hI (hll l hl) (hf l hl)
   have hinv:(v33 g s l).length=g.length:=by
    have:∀ (q:List Cd) (s:List (Int×Nat)×List Sg),(q.foldl (v4q g) s).2.length=s.2.length:=by
     intro q
     induction q with
     |nil=>intro s; rfl
     |cons c q ih=>
      intro s
      rw [eDr,ih]
      have:∀ (t:List Int) (s:List (Int×Nat)×List Sg),(t.foldl (z24 (gi g c)) s).2.length=s.2.length:=by
       intro t
       induction t with
       |nil=>intro s; rfl
       |cons x t ih=>
        intro s
        rw [eDr,ih]
        unfold z24; simp only; cases z23 s.1 x<;>simp
      exact this c.t s
    exact (this l ([],s)).trans hI
   refine ⟨?_,hinv⟩
   have hrow:(dks.map (eDk fl))[j]?=some (eDk fl l):=by rw [eAg,hx]; rfl
   have hle:(l.map (eC fl)).length=l.length:=by simp
   simp only [v24,z0p] at h4
   simp only [v8e,z2d,z2e,v5m,v9x,v24,z0p,z4b,Int.reduceLT,Int.reduceEq,Int.reduceLE,hlt,h0,hw,hrow,hx,h4,hle])
  (fun s _=>by
   have hno:¬ (dks.length:Int)<dks.length:=by omega
   simp only [v8e,z2d,z2e,hno,if_false,z4b,Int.reduceLT,Int.reduceEq,Int.reduceLE]) ss hs
 exact key.1
theorem v6r (g:List Cd) (c:Cd):(v6b g c).length≤g.length+1:=by unfold v6b; split<;>simp
theorem v9e (DK DK':List (List D)) (nd kd:Int) (g l:List Cd) (hgl:g.length+l.length≤1000) (hf:Few l):
  z5r (v66 std) (z0p fl g,(z75 (ixM g),(0,(g.length,(DK,(DK',(nd,(kd,(z0p fl l,((l.length:Int),((0:Int),())))))))))))=
   some (z0p fl (l.foldl v6b g),(z75 (ixM (l.foldl v6b g)),(0,((l.foldl v6b g).length,(DK,(DK',(nd,(kd,())))))))):=by
 have key:=z57 (b:=v66 std) l (fun (g:List Cd) j=>(z0p fl g,(z75 (ixM g),(0,(g.length,(DK,(DK',(nd,(kd,(z0p fl l,((l.length:Int),((j:Int),())))))))))))) v6b
  (fun h j=>h.length≤g.length+j) (fun g=>(z0p fl g,(z75 (ixM g),(0,(g.length,(DK,(DK',(nd,(kd,())))))))))
  (fun h j c hx hI=>by
   have hj:j<l.length:=(eAd.1 hx).1
   have hc:=eAu hx
   obtain ⟨hw,h0⟩:=stp j (by omega)
   have hlt:(j:Int)<l.length:=by omega
   refine ⟨?_,by have:=v6r h c; omega⟩
   have hany:=u2t h c.n
   have hrow:=v3v (fl:=fl) hx
   have hle:(l.map (eC fl)).length=l.length:=by simp
   cases hq:h.any (fun d=>decide (d.n=c.n)) with
   |true=>
    rw [hq] at hany
    simp only [v66,z2d,z2e,z0p,z1a,z5s,y4y,z0p,z4b,Int.reduceLT,Int.reduceEq,Int.reduceLE,hlt,h0,hw,hrow,hx,v9q,v48,hany,hle,v6b,hq]
   |false=>
    rw [hq] at hany
    have hno:z23 (ixM h) c.n=none:=by cases hz:z23 (ixM h) c.n with|none=>rfl|some _=>rw [hz] at hany; cases hany
    have ha:=u1s hno h.length
    rw [u2u hno] at ha
    have e1:(0:Int)≤(h.length:Int):=by omega
    have e2:¬ h.length+1≤h.length:=by omega
    have e3:h.length+1≤1000000:=by omega
    have e4:(h.map (eC fl)).length=h.length:=by simp
    have e5:(h.map (eC fl)).take h.length=h.map (eC fl):=by rw [←e4,eDg]
    simp only [v66,z2d,z2e,z0p,z1a,z5s,y4y,z0p,z4b,Int.reduceLT,Int.reduceEq,Int.reduceLE,hlt,h0,hw,hrow,hx,v9q,v48,hany,hle,v6b,hq,ha,e1,e2,e3,e4,e5,Nat.sub_zero,eAt,Int.toNat_zero,eAk,Int.le_refl,eDi]
    have hF:std.rdF (l.map (eC fl)) j 2 1=fl c.t:=u5n ‹_›
    rw [hF]
    simp [eC,z1a])
  (fun s _=>by
   have hno:¬ (l.length:Int)<l.length:=by omega
   simp only [v66,z2d,z2e,hno,if_false,z4b,Int.reduceLT,Int.reduceEq,Int.reduceLE]) g (eAk _)
 exact key.1
theorem v27:∀ (l g:List Cd),(l.foldl v6b g).length≤g.length+l.length
 |[],g=>by simp
 |c::l,g=>by
  have:=v27 l (v6b g c)
  have:=v6r g c
  simp only [eDr,eBi]; omega
theorem v9f (dks:List (List Cd)) (hdl:dks.length≤2) (hll:∀ l∈dks,l.length≤60) (hf:∀ l∈dks,Few l):
  z5r (v8f std) ([],([],(0,(0,(v24 fl dks,(v24 fl dks,((dks.length:Int),((0:Int),()))))))))=some (z0p fl (z36 dks),(z75 (ixM (z36 dks)),(0,((z36 dks).length,(v24 fl dks,())))))∧(z36 dks).length≤dks.length*60:=by
 have key:=z57 (b:=v8f std) dks (fun (g:List Cd) j=>(z75 (ixM g),(z0p fl g,(0,(g.length,(v24 fl dks,(v24 fl dks,((dks.length:Int),((j:Int),()))))))))) (fun g l=>l.foldl v6b g)
  (fun h j=>h.length≤j*60) (fun g=>(z0p fl g,(z75 (ixM g),(0,(g.length,(v24 fl dks,()))))))
  (fun h j l hx hI=>by
   have hj:j<dks.length:=(eAd.1 hx).1
   have hl:=eAu hx
   obtain ⟨hw,h0⟩:=stp j (by omega)
   have hlt:(j:Int)<dks.length:=by omega
   have h60:=hll l hl
   have h2:=v9e (fl:=fl) (v24 fl dks) (v24 fl dks) dks.length j h l (by omega) (hf l hl)
   refine ⟨?_,by have:=v27 l h; omega⟩
   have hrow:(dks.map (eDk fl))[j]?=some (eDk fl l):=by rw [eAg,hx]; rfl
   have hle:(l.map (eC fl)).length=l.length:=by simp
   simp only [v24,z0p] at h2
   simp only [v8f,z2d,z2e,v5m,v9x,v24,z0p,z4b,Int.reduceLT,Int.reduceEq,Int.reduceLE,hlt,h0,hw,hrow,hx,h2,hle])
  (fun s _=>by
   have hno:¬ (dks.length:Int)<dks.length:=by omega
   simp only [v8f,z2d,z2e,hno,if_false,z4b,Int.reduceLT,Int.reduceEq,Int.reduceLE]) [] (by simp)
 exact key
structure u8l (g:List Cd) (dks:List (List Cd)):Prop where
 nums:(g.map (·.n)).Nodup
 mem:∀ l∈dks,∀ c∈l,c∈g
 wf:∀ l∈dks,l.length≤60∧l.Nodup∧∀ c∈l,c.t.Nodup∧c.t.length≤1000000
theorem u4r (dks:List (List Cd)) (hdl:dks.length≤2) (hk:u8l (z36 dks) dks):
  G66 std (v24 fl dks,())=some (z0p fl (z36 dks),(z75 (ixM (z36 dks)),(z46 (u5m (z36 dks) dks),(0,((z36 dks).length,()))))):=by
 obtain ⟨h1,hlen⟩:=v9f (fl:=fl) dks hdl (fun l hl=>(hk.wf l hl).1) (fun l hl c hc=>((hk.wf l hl).2.2 c hc).2)
 generalize z36 dks=g at*
 have hgl:g.length≤128:=by omega
 have h3:=v9d (fl:=fl) (z0p fl g) 0 g.length g hk.nums hgl dks hk.mem (List.replicate g.length Sg.none) (by simp) (by omega) (fun l hl=>by have:=(hk.wf l hl).1; omega) (fun l hl c hc=>((hk.wf l hl).2.2 c hc).2)
 have hrep:List.replicate g.length [D.int .u64 0,D.int .u64 0]=z46 (List.replicate g.length Sg.none):=by
  unfold z46; rw [List.map_replicate]; rfl
 unfold G66 u5m
 have hd:(v24 fl dks).length=dks.length:=by simp [v24]
 have e0:(0:Int)≤(g.length:Int):=by omega
 have e1:(g.length:Int)≤1000000:=by omega
 have e2:(z46 (List.replicate g.length Sg.none)).length=g.length:=by simp [z46]
 simp only [z2d,z2e,z4b,Int.reduceLT,Int.reduceEq,Int.reduceLE,hd,h1,h3,hrep,e0,e1,e2,Int.le_refl]
end Go.Am
end
section
namespace Go.Am
open D12
variable {fl fl':List Int→Bool}
def u2a (g rem:List Cd) (s:Sg):Prop:=∀ k c,g[k]?=some c→s.has k=!decide (c∈rem)
theorem v7m {g rem:List Cd} {ss:List Sg} {B:Cd→Cd→Bool} (hr:Rp ss g B) (hgl:g.length≤128) (hi:Inj g) (hsub:∀ x∈rem,x∈g) {s:Sg} (hd:u2a g rem s) {j:Nat} {d:Cd} (hj:g[j]?=some d):
  (((ss.getD j Sg.none).and s).a=(ss.getD j Sg.none).a∧((ss.getD j Sg.none).and s).b=(ss.getD j Sg.none).b)↔w7p B rem d=true:=by
 rw [Sg.and_sub,z31]
 constructor
 ·intro h e he
  obtain ⟨k,hk,hke⟩:=eDe.1 (hsub e he)
  have hk':g[k]?=some e:=by rw [eAa hk,hke]
  have hb:=hr.2 j d hj k
  rw [hk'] at hb
  cases hq:B e d with
  |false=>rfl
  |true=>
   have:=h k (by omega) (by rw [hb]; exact hq)
   rw [hd k e hk'] at this
   simp [he] at this
 ·intro h k hk hb
  rw [hr.2 j d hj k] at hb
  cases hk':g[k]? with
  |none=>rw [hk'] at hb; cases hb
  |some e=>
   rw [hk'] at hb
   rw [hd k e hk']
   have hb:B e d=true:=hb
   have:e∉rem:=fun he=>by rw [h e he] at hb; cases hb
   simp [this]
def v9u (B:Cd→Cd→Bool) (g rem:List Cd) (b:Int) (j:Nat):Prop:=
 (b= -1∧∀ i d,i<j→g[i]?=some d→d∈rem→w7p B rem d=true→False)∨
 ∃ (k:Nat) (c:Cd),b=(k:Int)∧k<j∧g[k]?=some c∧c∈rem∧w7p B rem c=true∧∀ i d,i<j→g[i]?=some d→d∈rem→w7p B rem d=true→c.n≤d.n
theorem v79 {B:Cd→Cd→Bool} {g rem:List Cd} {b:Int} (hi:Inj g) (hsub:∀ x∈rem,x∈g) (h:v9u B g rem b g.length) {c0:Cd} (hb:best B rem=some c0):∃ k:Nat,b=(k:Int)∧g[k]?=some c0:=by
 have hr:=hi.sub hsub
 have h0:=(v36 B hr).1 hb
 rcases h with ⟨rfl,h⟩|⟨k,c,rfl,hk,hc,hm,hf,hl⟩
 ·obtain ⟨i,hi',he⟩:=eDe.1 (hsub c0 h0.1)
  exact (h i c0 hi' (by rw [eAa hi',he]) h0.1 ((z31 B).2 h0.2.1)).elim
 ·refine ⟨k,rfl,?_⟩
  have:best B rem=some c:=(v36 B hr).2 ⟨hm,(z31 B).1 hf,fun d hd hfd=>by
   obtain ⟨i,hi',he⟩:=eDe.1 (hsub d hd)
   exact hl i d hi' (by rw [eAa hi',he]) hd ((z31 B).2 hfd)⟩
  rw [hb] at this
  cases this
  exact hc
theorem v4s {B:Cd→Cd→Bool} {g rem:List Cd} {b:Int} {j:Nat} (h:v9u B g rem b j) {d:Cd} (hj:g[j]?=some d) (hno:¬ (d∈rem∧w7p B rem d=true)):v9u B g rem b (j+1):=by
 have hx:∀ i e,i<j+1→g[i]?=some e→e∈rem→w7p B rem e=true→i<j:=by
  intro i e hi he h1 h2
  rcases eBw i j with h|h
  ·exact h
  ·have:i=j:=by omega
   subst this
   rw [hj] at he; cases he
   exact absurd ⟨h1,h2⟩ hno
 rcases h with ⟨rfl,h⟩|⟨k,c,rfl,hk,hc,hm,hf,hl⟩
 ·exact .inl ⟨rfl,fun i e hi he h1 h2=>h i e (hx i e hi he h1 h2) he h1 h2⟩
 ·exact .inr ⟨k,c,rfl,by omega,hc,hm,hf,fun i e hi he h1 h2=>hl i e (hx i e hi he h1 h2) he h1 h2⟩
theorem v9a (E:List (List D)) (IX:List (D×D)) (g rem:List Cd) (ss:List Sg) {B:Cd→Cd→Bool} (hr:Rp ss g B) (hgl:g.length≤128) (hi:Inj g) (hsub:∀ x∈rem,x∈g) {s:Sg} (hd:u2a g rem s) (d0 d1 n8 n9:Int) {c0:Cd} (hb:best B rem=some c0):
  ∃ k:Nat,z5r (v4f std) (z0p fl g,(IX,(z46 ss,(E,(0,(g.length,(d0,(d1,((-1:Int),((s.a:Int),((s.b:Int),(n8,(n9,((g.length:Int),((0:Int),())))))))))))))))=
   some (z0p fl g,(IX,(z46 ss,(E,(0,(g.length,(d0,(d1,((k:Int),((s.a:Int),((s.b:Int),(n8,(n9,())))))))))))))∧g[k]?=some c0:=by
 have key:=y6h (b:=v4f std) g.length (fun (b:Int) j=>(z0p fl g,(IX,(z46 ss,(E,(0,(g.length,(d0,(d1,(b,((s.a:Int),((s.b:Int),(n8,(n9,((g.length:Int),((j:Int),()))))))))))))))))
  (fun b j=>v9u B g rem b j) (fun r=>∃ k:Nat,r=(z0p fl g,(IX,(z46 ss,(E,(0,(g.length,(d0,(d1,((k:Int),((s.a:Int),((s.b:Int),(n8,(n9,())))))))))))))∧g[k]?=some c0)
  (fun b j hj hB=> .inl (by
   obtain ⟨d,hdj⟩:=z1v hj
   obtain ⟨hw,h0⟩:=stp j (by omega)
   have hlt:(j:Int)<g.length:=by omega
   have h74:=u4p s j (by omega)
   rw [hd j d hdj] at h74
   have hsg:ss[j]?=some (ss.getD j Sg.none):=by rw [eCi,eAa (by rw [hr.1]; exact hj)]; rfl
   have hrow:(ss.map eS)[j]?=some (eS (ss.getD j Sg.none)):=by rw [eAg,hsg]; rfl
   have hbl:(ss.map eS).length=g.length:=by rw [eBt,hr.1]
   have h132:=u1w (ss.getD j Sg.none) s
   have hrd:=v7m hr hgl hi hsub hd hdj
   by_cases hm:d∈rem
   ·by_cases hf:w7p B rem d=true
    ·obtain ⟨ea,eb⟩:=hrd.2 hf
     rw [ea,eb] at h132
     have hcrow:=v3v (fl:=fl) hdj
     rcases hB with ⟨rfl,hB⟩|⟨k,c,rfl,hk,hc,hcm,hcf,hcl⟩
     ·refine ⟨(j:Int),?_, .inr ⟨j,d,rfl,by omega,hdj,hm,hf,fun i e hi' he h1 h2=>?_⟩⟩
      ·simp only [v4f,z2d,z2e,z46,z0p,z85,v35,v34,z4b,Int.reduceLT,Int.reduceEq,Int.reduceLE,hlt,h0,hw,h74,hm,hrow,hbl,h132]
      ·rcases eBw i j with h|h
       ·exact (hB i e h he h1 h2).elim
       ·have:i=j:=by omega
        subst this
        rw [hdj] at he; cases he; exact Int.le_refl _
     ·have hckr:=v3v (fl:=fl) hc
      have hk0:¬ (k:Int)<0:=by omega
      have hk1:(0:Int)≤(k:Int):=by omega
      have hk2:(k:Int)<(g.length:Int):=by omega
      by_cases hlt2:d.n<c.n
      ·refine ⟨(j:Int),?_, .inr ⟨j,d,rfl,by omega,hdj,hm,hf,fun i e hi' he h1 h2=>?_⟩⟩
       ·simp only [v4f,z2d,z2e,z0p,z1a,z5s,y4y,z46,z0p,z85,v35,v34,z4b,Int.reduceLT,Int.reduceEq,Int.reduceLE,hlt,h0,hw,h74,hm,hrow,hbl,h132,hcrow,hckr,hk0,hk1,hk2,hlt2]
       ·rcases eBw i j with h|h
        ·have:=hcl i e h he h1 h2; omega
        ·have:i=j:=by omega
         subst this
         rw [hdj] at he; cases he; exact Int.le_refl _
      ·refine ⟨(k:Int),?_, .inr ⟨k,c,rfl,by omega,hc,hcm,hcf,fun i e hi' he h1 h2=>?_⟩⟩
       ·simp only [v4f,z2d,z2e,z0p,z1a,z5s,y4y,z46,z0p,z85,v35,v34,z4b,Int.reduceLT,Int.reduceEq,Int.reduceLE,hlt,h0,hw,h74,hm,hrow,hbl,h132,hcrow,hckr,hk0,hk1,hk2,hlt2]
       ·rcases eBw i j with h|h
        ·exact hcl i e h he h1 h2
        ·have:i=j:=by omega
         subst this
         rw [hdj] at he; cases he; omega
    ·refine ⟨b,?_,v4s hB hdj fun h=>hf h.2⟩
     have hne:¬ ((((ss.getD j Sg.none).and s).a:Int)=((ss.getD j Sg.none).a:Int)∧(((ss.getD j Sg.none).and s).b:Int)=((ss.getD j Sg.none).b:Int)):=fun h=>hf (hrd.1 ⟨by omega,by omega⟩)
     by_cases h1:(((ss.getD j Sg.none).and s).a:Int)=((ss.getD j Sg.none).a:Int)
     ·have h2:¬ (((ss.getD j Sg.none).and s).b:Int)=((ss.getD j Sg.none).b:Int):=fun h=>hne ⟨h1,h⟩
      simp only [v4f,z2d,z2e,z46,z0p,z85,v35,v34,z4b,Int.reduceLT,Int.reduceEq,Int.reduceLE,hlt,h0,hw,h74,hm,hrow,hbl,h132,h1,h2]
     ·simp only [v4f,z2d,z2e,z46,z0p,z85,v35,v34,z4b,Int.reduceLT,Int.reduceEq,Int.reduceLE,hlt,h0,hw,h74,hm,hrow,hbl,h132,h1]
   ·refine ⟨b,?_,v4s hB hdj fun h=>hm h.1⟩
    simp only [v4f,z2d,z2e,z46,z0p,z85,v35,v34,z4b,Int.reduceLT,Int.reduceEq,Int.reduceLE,hlt,h0,hw,h74,hm,hrow,hbl]))
  (fun b hB=>by
   obtain ⟨k,rfl,hk⟩:=v79 hi hsub hB hb
   have hno:¬ (g.length:Int)<g.length:=by omega
   exact ⟨_,by simp only [v4f,z2d,z2e,hno,if_false,z4b,Int.reduceLT,Int.reduceEq,Int.reduceLE],k,rfl,hk⟩) (-1) 0 (eAv _) (.inl ⟨rfl,fun i d hi'=>by omega⟩)
 obtain ⟨r,h1,k,rfl,hk⟩:=key
 exact ⟨k,h1,hk⟩
def u8n (B:Cd→Cd→Bool) (g:List Cd):Prop:=∀ rem:List Cd,(∀ x∈rem,x∈g)→rem≠[]→∃ c,best B rem=some c
theorem v88 {B:Cd→Cd→Bool} {g m:List Cd} (hl:Lin B m) (hm:∀ x∈g,x∈m):u8n B g:=by
 intro rem hs hne
 cases hq:best B rem with
 |some c=>exact ⟨c,rfl⟩
 |none=>
  exfalso
  have hq:=(v5p B).1 hq
  have h2:=v5o (hl.filter fun x=>decide (x∈rem)) (l:=m.filter fun x=>decide (x∈rem)) (by
   intro e
   obtain ⟨x,hx⟩:=List.exists_mem_of_ne_nil rem hne
   have:x∈m.filter fun x=>decide (x∈rem):=eDa.2 ⟨hm x (hs x hx),by simpa using hx⟩
   rw [e] at this; cases this)
  obtain ⟨c,hc⟩:=h2
  unfold best at hc
  obtain ⟨h3,_⟩:=z53 hc
  obtain ⟨h4,h5⟩:=eDa.1 h3
  have h6:c∈rem:=by simpa using (eDa.1 h4).2
  obtain ⟨d,hd,hdc⟩:=hq c h6
  have:=(z31 B).1 h5 d (eDa.2 ⟨hm d (hs d hd),by simpa using hd⟩)
  rw [hdc] at this; cases this
structure u8c (B:Cd→Cd→Bool) (g:List Cd) (t:List Cd×List Cd×Sg) (i:Nat):Prop where
 len:t.2.1.length+i=g.length
 olen:t.1.length=i
 sub:∀ x∈t.2.1,x∈g
 nd:t.2.1.Nodup
 done:u2a g t.2.1 t.2.2
 res:t.1++lst B t.2.1.length t.2.1=lst B g.length g
theorem v7w {B:Cd→Cd→Bool} {g:List Cd} (hn:(g.map (·.n)).Nodup) (hgl:g.length≤128) {t:List Cd×List Cd×Sg} {i:Nat} (h:u8c B g t i) {c:Cd} (hb:best B t.2.1=some c) {k:Nat} (hk:g[k]?=some c):
  u8c B g (t.1++[c],rm c t.2.1,t.2.2.wth k) (i+1):=by
 have hi:=z21 hn
 have hc:=((v36 B (hi.sub h.sub)).1 hb).1
 have hrl:=v5d h.nd hc
 have hkl:k<g.length:=(eAd.1 hk).1
 refine ⟨?_,by simp [h.olen],fun x hx=>h.sub x (z44.1 hx).1,h.nd.filter _,fun j d hj=>?_,?_⟩
 ·have:=h.len; simp only; omega
 ·simp only
  rw [Sg.has_wth _ (by omega),h.done j d hj]
  by_cases e:j=k
  ·subst e
   rw [hk] at hj; cases hj
   simp [z44]
  ·have hdc:d≠c:=by
    rintro rfl
    exact e ((v3u hn hj).symm.trans (v3u hn hk))
   simp [z44,e,hdc]
 ·simp only
  rw [←h.res, ←hrl]
  conv=>rhs; rw [lst]
  rw [hb]
  simp only [eCg,List.singleton_append,Nat.add_sub_cancel]
theorem u4q (IX:List (D×D)) (g:List Cd) (ss:List Sg) {B:Cd→Cd→Bool} (hr:Rp ss g B) (hgl:g.length≤128) (hn:(g.map (·.n)).Nodup) (hcan:u8n B g) (hw:∀ c∈g,1≤c.t.length∧c.t.length≤1000000):
  G67 std (z0p fl g,(IX,(z46 ss,(0,(g.length,())))))=some (z0p fl g,(IX,(z46 ss,(z0p (fun _=>false) (lst B g.length g),(0,(g.length,())))))):=by
 have hi:=z21 hn
 have key:=y6h (b:=v8c std) g.length (fun (t:List Cd×List Cd×Sg) i=>(z0p fl g,(IX,(z46 ss,(z0p (fun _=>false) t.1,(0,(g.length,((t.2.2.a:Int),((t.2.2.b:Int),((g.length:Int),((i:Int),())))))))))))
  (u8c B g) (fun r=>r=(z0p fl g,(IX,(z46 ss,(z0p (fun _=>false) (lst B g.length g),(0,(g.length,())))))))
  (fun t i hlt hI=> .inl (by
   obtain ⟨hw2,h0⟩:=stp i (by omega)
   have hlt':(i:Int)<g.length:=by omega
   have hne:t.2.1≠[]:=by intro e; have:=hI.len; rw [e] at this; simp at this; omega
   obtain ⟨c,hb⟩:=hcan t.2.1 hI.sub hne
   obtain ⟨k,h2,hk⟩:=v9a (fl:=fl) (z0p (fun _=>false) t.1) IX g t.2.1 ss hr hgl hi hI.sub hI.done (t.2.2.a:Int) (t.2.2.b:Int) (g.length:Int) (i:Int) hb
   have hkl:k<g.length:=(eAd.1 hk).1
   have h72:=u0a t.2.2 k (by omega)
   have hc:=hw c (eAu hk)
   have h75:=u4o c hc.1 hc.2
   refine ⟨(t.1++[c],rm c t.2.1,t.2.2.wth k),?_,v7w hn hgl hI hb hk⟩
   have hrow:=v3v (fl:=fl) hk
   have hk1:(0:Int)≤(k:Int):=by omega
   have hk2:(k:Int)<(g.length:Int):=by omega
   have ho:=hI.olen
   have e1:i+1≤1000000:=by omega
   have e4:(t.1.map (eC fun _=>false)).length=i:=by simp [ho]
   have e5:(t.1.map (eC fun _=>false)).take i=t.1.map (eC fun _=>false):=by rw [←e4,eDg]
   have hgle:(ss.map eS).length=g.length:=by rw [eBt,hr.1]
   simp only [z0p,z46,z1a] at h2 h75
   simp only [v8c,z2d,z2e,z0p,z1a,z5s,y4y,z46,z0p,z1a,z4b,Int.reduceLT,Int.reduceEq,Int.reduceLE,hlt',h0,hw2,h2,hgle,h72,hrow,h75,hk1,hk2,e1,e4,e5,eAp,eAk,eDi]
   simp [eC,z1a,e1,e4,e5]))
  (fun t hI=>⟨(z0p fl g,(IX,(z46 ss,(z0p (fun _=>false) t.1,(0,(g.length,())))))),by
   have hno:¬ (g.length:Int)<g.length:=by omega
   simp only [v8c,z2d,z2e,hno,if_false,z4b,Int.reduceLT,Int.reduceEq,Int.reduceLE],by
   have h0:t.2.1=[]:=eBn.1 (by have:=hI.len; omega)
   have:=hI.res
   rw [h0] at this
   simp only [List.length_nil,lst,eCn] at this
   simp only [this]⟩) ([],g,Sg.none) 0 (eAv _) ⟨by simp,rfl,fun x h=>h,z28 hn,fun k c hk=>by rw [Sg.has_none]; simp [eAu hk],rfl⟩
 obtain ⟨r,h1,rfl⟩:=key
 have h1:z5r (v8c std) (z0p fl g,(IX,(z46 ss,([],(0,(g.length,((0:Int),((0:Int),((g.length:Int),((0:Int),()))))))))))=_:=h1
 unfold G67
 simp only [z2d,z2e,h1]
end Go.Am
end
section
namespace Go.Am
open D12
variable {fl fl':List Int→Bool}
theorem v20 {l:List Cd} (h:(l.map (·.n)).Nodup):z36 [l]=l:=by
 have:∀ (q p:List Cd),((p++q).map (·.n)).Nodup→q.foldl v6b p=p++q:=by
  intro q
  induction q with
  |nil=>intro p _; simp
  |cons c q ih=>
   intro p hp
   have hno:(p.any fun d=>decide (d.n=c.n))=false:=by
    rw [List.any_eq_false]
    intro d hd
    simp only [decide_eq_true_eq]
    rw [eDt,eDn] at hp
    exact fun e=>hp.2.2 d.n (List.mem_map_of_mem hd) c.n (by simp) e
   have e:p++c::q=(p++[c])++q:=by simp
   rw [eDr]
   have:v6b p c=p++[c]:=by unfold v6b; rw [hno]; rfl
   rw [this,e]
   exact ih _ (by rw [←e]; exact hp)
 exact this l [] (by simpa using h)
theorem z22 {l:List Cd} (h:z4y l=0):l.length≤60∧(l.map (·.n)).Nodup∧l.Nodup∧(∀ c∈l,z3d c=0)∧(∀ c∈l,1≤c.t.length∧c.t.length≤3∧c.t.Nodup):=by
 obtain ⟨h1,h2,h3⟩:=z80.1 h
 refine ⟨h1,h3,z28 h3,h2,fun c hc=>?_⟩
 obtain ⟨a,b,c1,d,e,f⟩:=v21.1 (h2 c hc)
 refine ⟨?_,?_,e⟩
 ·omega
 ·have:z3a c.k≤3:=by unfold z3a; split<;>(try split)<;>(try split)<;>omega
  omega
theorem v3i {l:List Cd} (h:z4y l=0):u8l (z36 [l]) [l]:=by
 obtain ⟨h1,h2,h3,h4,h5⟩:=z22 h
 refine ⟨by rw [v20 h2]; exact h2,fun m hm c hc=>?_,fun m hm=>?_⟩
 ·rw [eBe.1 hm] at hc; rw [v20 h2]; exact hc
 ·rw [eBe.1 hm]; exact ⟨h1,h3,fun c hc=>⟨(h5 c hc).2.2,by have:=(h5 c hc).2.1; omega⟩⟩
theorem v70 {l:List Cd} (h:z4y l=0):∃ ss,G66 std ([[.list false 4 (z0p fl l)]],())=some (z0p fl l,(z75 (ixM l),(z46 ss,(0,(l.length,())))))∧Rp ss l (ltc l):=by
 obtain ⟨h1,h2,h3,h4,h5⟩:=z22 h
 have g:=u4r (fl:=fl) [l] (by simp) (v3i h)
 have hs:=u0f (g:=z36 [l]) (dks:=[l]) (v3i h).nums (by rw [v20 h2]; omega) (fun m hm=>⟨(v3i h).mem m hm,((v3i h).wf m hm).2.1,fun c hc=>(((v3i h).wf m hm).2.2 c hc).1⟩)
 rw [v20 h2] at g hs
 exact ⟨_,g,hs.congr fun d _ c _=>by simp⟩
theorem u0s {l:List Cd} (hn:l.Nodup):Lin (ltc l) l:=by
 have h:=v52 hn
 have hf:∀ x y,ord l x y=false→ltc l x y=false:=fun x y h=>by
  cases hq:ltc l x y with
  |false=>rfl
  |true=>rw [(v7t hq).1] at h; cases h
 exact ⟨h.1.imp fun h=>hf _ _ h,fun x hx=>hf _ _ (h.2 x hx)⟩
theorem v7x {l:List Cd} (hm:(l.map (·.n)).Nodup):lst (ltc l) l.length l=z25 l:=by
 have hn:=z28 hm
 exact v5j l (fun x _ y _ h=>(v7t h).1) (fun x hx y hy h=>by
  rcases u0o hn hx hy h with h|⟨z,hz,h1,h2⟩
  ·exact .inl h
  ·exact .inr ⟨z,hz,h1,h2⟩) (z21 hm) l.length l (fun x h=>h) (fun x _ y hy hno _=>absurd hy hno)
theorem v5k {l:List Cd} (h:z4y l=0):∃ IX ss,G66 std ([[.list false 4 (z0p fl l)]],())=some (z0p fl l,(IX,(z46 ss,(0,(l.length,())))))∧
  G67 std (z0p fl l,(IX,(z46 ss,(0,(l.length,())))))=some (z0p fl l,(IX,(z46 ss,(z0p (fun _=>false) (z25 l),(0,(l.length,())))))):=by
 obtain ⟨h1,h2,h3,h4,h5⟩:=z22 h
 obtain ⟨ss,g,hr⟩:=v70 (fl:=fl) h
 have h67:=u4q (fl:=fl) (z75 (ixM l)) l ss hr (by omega) h2 (v88 (u0s h3) fun x h=>h) (fun c hc=>⟨(h5 c hc).1,by have:=(h5 c hc).2.1; omega⟩)
 rw [v7x h2] at h67
 exact ⟨_,ss,g,h67⟩
end Go.Am
end
section
namespace Go.Am
open D12
variable {fl fl':List Int→Bool}
def ixO (b:List Th) (x:Int):Option Nat:=(List.range b.length).find? fun i=>decide ((b.getD i default).num=x)
theorem v7y (b:List Th) (x:Int):(ixO b x).map (fun i=>b.getD i default)=fnd b x:=x4f b default fun t=>decide (t.num=x)
theorem v8w {b:List Th} {x:Int} {i:Nat} (h:ixO b x=some i):∃ t,b[i]?=some t∧t.num=x∧fnd b x=some t∧i<b.length:=by
 have h1:=eDu h
 have h2:=eBo.1 (eDb h)
 obtain ⟨t,ht⟩:=z1v h2
 have e:b.getD i default=t:=z2h ht
 rw [e] at h1
 refine ⟨t,ht,by simpa using h1,?_,h2⟩
 rw [←v7y,h]
 simp only [eBh,e]
theorem v8x {b:List Th} {x:Int} (h:ixO b x=none):fnd b x=none:=by rw [←v7y,h]; rfl
theorem v9w {b:List Th} {x:Int} {t:Th} (h:fnd b x=some t):∃ i,ixO b x=some i∧b[i]?=some t∧t.num=x∧i<b.length:=by
 cases hq:ixO b x with
 |none=>rw [v8x hq] at h; cases h
 |some i=>
  obtain ⟨t',h1,h2,h3,h4⟩:=v8w hq
  rw [h] at h3; cases h3
  exact ⟨i,rfl,h1,h2,h4⟩
end Go.Am
end
section
namespace Go.Am
open D12
variable {fl fl':List Int→Bool}
def v4b (b:List Th):Prop:=b.length≤1000∧(b.map (·.num)).Nodup∧∀ t∈b,0≤t.val∧t.val≤1000000∧0≤t.hrs∧t.hrs≤10000
theorem v5h (s:Sf) (l:List Int):x2h s l=match l.find? fun x=>!decide (w6m s x=0) with
 |some x=>w6m s x
 |none=>0:=by
 induction l with
 |nil=>rfl
 |cons x l ih=>
  unfold x2h
  by_cases h:w6m s x=0
  ·simp only [h,if_true,List.find?_cons,decide_true,Bool.not_true]; exact ih
  ·simp [h]
theorem v7f {b:List Th} {x:Int} {i:Nat} {t:Th} {f:Th→Th} (hn:(b.map (·.num)).Nodup) (hi:b[i]?=some t) (ht:t.num=x):upd b x f=b.set i (f t):=by
 unfold upd
 apply eBd
 intro j
 have hil:i<b.length:=(eAd.1 hi).1
 rw [eAg,eBm]
 by_cases hj:i=j
 ·subst hj
  have e1:b[i]=t:=(eAd.1 hi).2
  simp [hi,ht,hil,e1]
 ·rw [if_neg hj]
  cases hq:b[j]? with
  |none=>rfl
  |some u=>
   have hu:u.num≠x:=by
    intro e
    have hjl:j<b.length:=(eAd.1 hq).1
    have e1:b[i]=t:=(eAd.1 hi).2
    have e2:b[j]=u:=(eAd.1 hq).2
    exact hj ((List.getElem_inj (xs:=b.map (·.num)) (i:=i) (j:=j) (h₀:=by simpa using hil) (h₁:=by simpa using hjl) hn).1 (by simp [e1,e2,ht,e]))
   simp [hu]
end Go.Am
end
section
namespace Go.Am
open D12
theorem z26 {s:Sf} {x:Int} (h:w6m s x=0):∃ t,s x=some t∧t.out=false:=by
 unfold w6m at h
 cases hq:s x with
 |none=>rw [hq] at h; simp at h
 |some t=>
  rw [hq] at h
  cases ho:t.out with
  |true=>simp [ho] at h
  |false=>exact ⟨t,rfl,ho⟩
theorem z70 {s:Sf}:∀ {l:List Int},x2h s l=0→∀ x∈l,w6m s x=0
 |[],_,x,hx=>by cases hx
 |y::l,h,x,hx=>by
  unfold x2h at h
  by_cases hy:w6m s y=0
  ·rw [if_pos hy] at h
   rcases eAz.1 hx with rfl|hx
   ·exact hy
   ·exact z70 h x hx
  ·rw [if_neg hy] at h; exact absurd h hy
theorem v8s {v a:Int} (hv0:0≤v) (hv:v≤1000000) (ha0:0≤a) (ha:a≤100000):IntKind.i64.wrap (v*a)=v*a∧0≤v*a∧v*a≤100000000000:=by
 have h1:0≤v*a:=Int.mul_nonneg hv0 ha0
 have h2:v*a≤1000000*100000:=Int.mul_le_mul hv ha ha0 (by omega)
 exact ⟨w21 _ (by omega) (by omega),h1,by omega⟩
theorem u2l {b:List Th} {x:Int} {f:Th→Th} (h:∀ t,f t=t):upd b x f=b:=by
 unfold upd
 conv=>rhs; rw [←List.map_id b]
 apply List.map_congr_left
 intro t _
 simp [h]
end Go.Am
end
section
namespace Go.Am
open D12
variable {fl fl':List Int→Bool}
def v7c (m:Nat) (b:List Th):Prop:=b.length≤m∧(b.map (·.num)).Nodup∧∀ t∈b,0≤t.val∧t.val≤1000000∧0≤t.hrs∧t.hrs≤10000
theorem v7c.ok {m:Nat} {b:List Th} (h:v7c m b) (hm:m≤1000):v4b b:=⟨by have:=h.1; omega,h.2⟩
theorem v3j {b:List Th} {x:Int} (h:fnd b x=none):x∉b.map (·.num):=by
 intro hx
 obtain ⟨t,ht,rfl⟩:=eBb.1 hx
 have:=List.find?_eq_none.1 h t ht
 simp at this
theorem v6e {b:List Th} {x:Int} {f:Th→Th} (hf:∀ t,(f t).num=t.num):(upd b x f).map (·.num)=b.map (·.num):=by
 unfold upd
 rw [List.map_map]
 apply List.map_congr_left
 intro t _
 simp only [Function.comp_def]
 split
 ·exact hf t
 ·rfl
theorem u2k {m:Nat} {b:List Th} (hb:v7c m b) (x:Int):0≤x92 (fnd b) x∧x92 (fnd b) x≤1000000:=by
 unfold x92
 cases hq:fnd b x with
 |none=>simp
 |some t=>
  have:=hb.2.2 t (eDb hq)
  simp; omega
theorem u0m {m:Nat} {b:List Th} {c:Cd} (hb:v7c m b) (hc:z3d c=0):v7c (m+1) (v23 b c):=by
 obtain ⟨_,hk,hlen,_,hnd,hfit⟩:=v21.1 hc
 obtain ⟨h1,h2,h3⟩:=hb
 unfold v23
 split
 ·exact ⟨by omega,h2,h3⟩
 ·rename_i he
  have he:errC (fnd b) c=0:=by simpa using he
  split
  ·rename_i hk1
   have hn:fnd b (x0 c)=none:=by
    unfold errC at he
    rw [if_pos hk1] at he
    cases hq:fnd b (x0 c) with
    |none=>rfl
    |some t=>rw [hq] at he; simp at he
   have ha:1≤c.a∧c.a≤1000000:=by unfold w1p at hfit; omega
   refine ⟨by simp; omega,?_,fun t ht=>?_⟩
   ·rw [eDt,eDn]
    refine ⟨h2,by simp,fun a ha b' hb'=>?_⟩
    simp at hb'
    subst hb'
    exact fun e=>v3j hn (e▸ha)
   ·rcases eBj.1 ht with ht|ht
    ·exact h3 t ht
    ·simp at ht; subst ht; simp; omega
  ·rename_i hk1
   have turn_ok:∀ t∈upd b (x0 c) (v17 (fnd b) c),0≤t.val∧t.val≤1000000∧0≤t.hrs∧t.hrs≤10000:=by
    intro t ht
    unfold upd at ht
    obtain ⟨u,hu,rfl⟩:=eBb.1 ht
    have hu3:=h3 u hu
    split
    ·rename_i hx
     unfold v17
     split
     ·rename_i hk2
      have hfu:fnd b (x0 c)=some u:=by
       cases hq:fnd b (x0 c) with
       |none=>exact absurd (hx▸eBb.2 ⟨u,hu,rfl⟩) (v3j hq)
       |some v=>
        obtain ⟨i,_,hbi,hnum,_⟩:=v9w hq
        obtain ⟨j,hj,hju⟩:=eDe.1 hu
        have hil:i<b.length:=(eAd.1 hbi).1
        have hiv:b[i]=v:=(eAd.1 hbi).2
        have:=(List.getElem_inj (xs:=b.map (·.num)) (i:=i) (j:=j) (h₀:=by simpa using hil) (h₁:=by simpa using hj) h2).1 (by simp [hiv,hju,hnum,hx])
        subst this
        rw [←hiv,hju]
      have ha:1≤c.a∧c.a≤10000:=by unfold w1p at hfit; omega
      have hh:hrsS (fnd b) (x0 c)=u.hrs:=by simp [hrsS,hfu]
      have:¬ 10000<u.hrs+c.a:=by
       intro h4
       unfold errC at he
       rw [if_neg hk1] at he
       split at he
       ·rename_i hne; exact hne he
       ·first|(rw [if_pos hk2,hh,if_pos h4] at he; omega)|(rw [hh,if_pos h4] at he; omega)
      simp; omega
     ·split
      ·rename_i hk2 hk3
       have h4:¬ ((x92 (fnd b) (x1 c)*c.a).tdiv 1000<1∨1000000<(x92 (fnd b) (x1 c)*c.a).tdiv 1000):=by
        intro h4
        unfold errC at he
        rw [if_neg hk1] at he
        split at he
        ·rename_i hne; exact hne he
        ·first|(rw [if_neg hk2,if_pos hk3,if_pos h4] at he; omega)|omega
       simp only [not_or] at h4
       simp; omega
      ·split
       ·simpa using hu3
       ·exact hu3
    ·exact hu3
   split
   ·rename_i hk4
    have hn:fnd b (x1 c)=none:=by
     unfold errC at he
     rw [if_neg hk1] at he
     split at he
     ·rename_i hne; exact absurd he hne
     ·simp only [hk4,Int.reduceEq,if_false,if_true] at he
      cases hq:fnd b (x1 c) with
      |none=>rfl
      |some t=>rw [hq] at he; simp at he
    refine ⟨by simp [upd]; omega,?_,fun t ht=>?_⟩
    ·rw [eDt,eDn,v6e (v3c _ _)]
     refine ⟨h2,by simp,fun a ha b' hb'=>?_⟩
     simp at hb'
     subst hb'
     exact fun e=>v3j hn (e▸ha)
    ·rcases eBj.1 ht with ht|ht
     ·exact turn_ok t ht
     ·simp at ht; subst ht
      have:=u2k (m:=m) ⟨h1,h2,h3⟩ (x0 c)
      simp; omega
   ·exact ⟨by simp [upd]; omega,by rw [v6e (v3c _ _)]; exact h2,turn_ok⟩
theorem v5n (p:List Cd) (c:Cd):z37 (p++[c])=v23 (z37 p) c:=by simp [z37]
theorem v89:∀ (l:List Cd),(∀ c∈l,z3d c=0)→v7c l.length (z37 l)∧fnd (z37 l)=st l:=by
 intro l
 induction hn:l.length generalizing l with
 |zero=>intro _; have:l=[]:=eBn.1 hn; subst this; exact ⟨⟨by simp [z37],by simp [z37],by simp [z37]⟩,rfl⟩
 |succ n ih=>
  intro h
  obtain ⟨p,c,rfl⟩:∃ p c,l=p++[c]:=by
   have hne:l≠[]:=by intro e; rw [e] at hn; simp at hn
   exact ⟨l.dropLast,l.getLast hne,(List.dropLast_concat_getLast hne).symm⟩
  have hc:=h c (by simp)
  obtain ⟨h1,h2⟩:=ih p (by simpa using hn) fun d hd=>h d (by simp [hd])
  have hw:=u0c hc
  rw [v5n,v4v, ←h2]
  exact ⟨u0m h1 hc,v83 _ _ hw.1 fun h4=>u2j hw (by unfold z3a; simp [h4])⟩
theorem v73 (s:Sf) (p:List Cd) (c:Cd):v3k s (p++[c])=v3k s p++[errC (p.foldl after s) c]:=by
 induction p generalizing s with
 |nil=>rfl
 |cons d p ih=>simp [v3k,ih]
def no:Sf:=fun _=>none
theorem u5l (l:List Cd):l.foldl after no=st l:=rfl
end Go.Am
end
section
namespace Go.Am
open D12
variable {fl fl':List Int→Bool}
def EB:v7b Int Th:=⟨fun k=> .int .i64 k,fun t=> .agg (eTh t),[.i],false,true,[.int .i64, .int .i64, .int .i64, .bool]⟩
theorem v5x:EB.Ok where
 agg:=fun _=>rfl
 kinds:=fun _=>rfl
 eq:=fun a b=>by
  show (bif IntKind.i64==IntKind.i64 then (some (z3o .eql a b&&true)) else none)=_
  rw [eCc]; rfl
 vagg:=fun _=>rfl
 vok:=fun _=>rfl
def mb (b:List Th):List (Int×Th):=b.map fun t=>(t.num,t)
def z33 (b:List Th):List (D×D):=EB.enc (mb b)
theorem z64 (x:Int):∀ b:List Th,z23 (mb b) x=fnd b x
 |[]=>rfl
 |t::b=>by
  have ih:=z64 x b
  unfold fnd at*
  simp only [mb,eDc,z23,List.find?_cons] at ih⊢
  by_cases h:t.num=x
  ·simp [h]
  ·have h':¬ x=t.num:=fun e=>h e.symm
   simp [h,h',ih]
theorem u0l {b:List Th} {w:Th} (h:fnd b w.num=none):v39 (mb b) w.num w=mb (b++[w]):=by
 unfold v39
 rw [z64,h]
 simp [mb]
theorem u0k {b:List Th} {x:Int} {t w:Th} (hn:(b.map (·.num)).Nodup) (h:fnd b x=some t) (hw:w.num=x):v39 (mb b) x w=mb (upd b x fun _=>w):=by
 unfold v39
 rw [z64,h]
 have key:∀ b:List Th,(b.map (·.num)).Nodup→(fnd b x).isSome=true→v9p (mb b) x w=mb (upd b x fun _=>w):=by
  intro b
  induction b with
  |nil=>intro _ h; simp [fnd] at h
  |cons u b ih=>
   intro hn h
   simp only [eDc,List.nodup_cons] at hn
   unfold fnd at h ih
   simp only [mb,upd,eDc,v9p,List.find?_cons] at h ih⊢
   by_cases he:u.num=x
   ·have:∀ v∈b,v.num≠x:=fun v hv e=>hn.1 (he▸e▸eBb.2 ⟨v,hv,rfl⟩)
    have e2:(b.map fun t=>if t.num=x then w else t)=b:=by
     conv=>rhs; rw [←List.map_id b]
     exact List.map_congr_left fun v hv=>by simp [this v hv]
    simp [he,hw,e2]
   ·have he':¬ x=u.num:=fun e=>he e.symm
    simp [he,he'] at h⊢
    have:=ih hn.2 (by simpa using h)
    simpa [mb,upd] using this
 exact key b hn (by rw [h]; rfl)
section
variable (b:List Th) (x:Int)
theorem v49:std.mOk (z33 b) [SK.i] false (.int .i64 x) true [.int .i64, .int .i64, .int .i64, .bool]=true:=v53 v5x (mb b) x
theorem v22:std.mhas (z33 b) [SK.i] false (.int .i64 x)=(fnd b x).isSome:=by rw [←z64]; exact v40 v5x (mb b) x
variable {b x} {t:Th} (h:fnd b x=some t)
include h
theorem B_0:std.mI (z33 b) [SK.i] false (.int .i64 x) 0=t.num:=v30 v5x (mb b) x 0 (by rw [z64]; exact h)
theorem B_1:std.mI (z33 b) [SK.i] false (.int .i64 x) 1=t.val:=v30 v5x (mb b) x 1 (by rw [z64]; exact h)
theorem B_2:std.mI (z33 b) [SK.i] false (.int .i64 x) 2=t.hrs:=v30 v5x (mb b) x 2 (by rw [z64]; exact h)
theorem B_3:std.mB (z33 b) [SK.i] false (.int .i64 x) 3=t.out:=u2s v5x (mb b) x 3 (by rw [z64]; exact h)
theorem u2b (hn:(b.map (·.num)).Nodup) (n v r:Int) (o:Bool) (hw:n=x):
  std.mset (z33 b) (std.mpos (z33 b) [SK.i] false (.int .i64 x)) (.int .i64 x) (.agg [.int .i64 n, .int .i64 v, .int .i64 r, .bool o])=z33 (upd b x fun _=>⟨n,v,r,o⟩):=by
 have:=v6k v5x (mb b) x (by rw [z64]; exact h) ⟨n,v,r,o⟩
 rw [u0k hn h hw] at this
 exact this
end
theorem u8f {b:List Th} {x:Int} (h:fnd b x=none) (v r:Int) (o:Bool):std.madd (z33 b) (.int .i64 x) (.agg [.int .i64 x, .int .i64 v, .int .i64 r, .bool o])=z33 (b++[⟨x,v,r,o⟩]):=by
 have:=v42 v5x (mb b) x (by rw [z64]; exact h) ⟨x,v,r,o⟩
 have e:=u0l (w:=⟨x,v,r,o⟩) h
 simp only at e
 rw [e] at this
 exact this
theorem v4a (b:List Th) (l:List Int) (hl:l.length≤1000):v8o std (z33 b,(z1a l,()))=some (z33 b,(x2h (fnd b) l,())):=by
 unfold v8o
 have key:=z62 (b:=v37 std) l.length (fun i=>(z33 b,(z1a l,((l.length:Int),((i:Int),()))))) (fun i=>!decide (w6m (fnd b) (l.getD i default)=0)) (fun i=> .inl (z33 b,(w6m (fnd b) (l.getD i default),()))) (.inr (z33 b,())) (fun i hi=>by
  obtain ⟨y,hy⟩:=z1v hi
  obtain ⟨hw,h0⟩:=stp i (by omega)
  have hlt:(i:Int)<l.length:=by omega
  cases hq:fnd b y with
  |none=>
   have he:w6m (fnd b) y=5:=by simp [w6m,hq]
   have hh:(fnd b y).isSome=false:=by rw [hq]; rfl
   simp only [z2h hy,v37,z2d,z2e,z1a,y8q,w5s,z4b,Int.reduceLT,Int.reduceEq,Int.reduceLE,hy,hlt,h0,hw,v49,v22,hh,he,eAg,eBh]
  |some t=>
   have hh:(fnd b y).isSome=true:=by rw [hq]; rfl
   have h3:=B_3 hq
   cases ho:t.out with
   |true=>
    have he:w6m (fnd b) y=9:=by simp [w6m,hq,ho]
    rw [ho] at h3
    simp only [z2h hy,v37,z2d,z2e,z1a,y8q,w5s,z4b,Int.reduceLT,Int.reduceEq,Int.reduceLE,hy,hlt,h0,hw,v49,v22,hh,he,h3,eAg,eBh]
   |false=>
    have he:w6m (fnd b) y=0:=by simp [w6m,hq,ho]
    rw [ho] at h3
    simp only [z2h hy,v37,z2d,z2e,z1a,y8q,w5s,z4b,Int.reduceLT,Int.reduceEq,Int.reduceLE,hy,hlt,h0,hw,v49,v22,hh,he,h3,eAg,eBh]) (by
  have hn:¬ (l.length:Int)<l.length:=by omega
  simp only [v37,z2d,z2e,hn,if_false])
 have key:z5r (v37 std) (z33 b,(z1a l,((l.length:Int),((0:Int),()))))=_:=key
 have e:=x4f l default fun x=>!decide (w6m (fnd b) x=0)
 rw [v5h, ←e]
 have hlen:(z1a l).length=l.length:=by simp [z1a]
 simp only [z2d,z2e,hlen,key]
 cases hq:(List.range l.length).find? fun i=>!decide (w6m (fnd b) (l.getD i default)=0) with
 |none=>simp
 |some i=>simp
theorem v44 {b:List Th} {x:Int} {t:Th} (h:fnd b x=some t):t.num=x:=by
 have:=eDu h
 simpa using this
theorem v8m (b:List Th) (x v:Int) (hx:x≠0):v9s std (z33 b,(x,(v,())))=some (if (fnd b x).isSome=true then (z33 b,(11,())) else (z33 (b++[⟨x,v,0,false⟩]),(0,()))):=by
 unfold v9s
 cases hq:fnd b x with
 |none=>
  have hh:(fnd b x).isSome=false:=by rw [hq]; rfl
  have ha:=u8f hq v 0 false
  simp only [z2d,z2e,z4b,Int.reduceLT,Int.reduceEq,Int.reduceLE,v49,v22,hh,ha,u0e]
  simp
 |some t=>
  have hh:(fnd b x).isSome=true:=by rw [hq]; rfl
  have h0:=B_0 hq
  have hn:=v44 hq
  have hn0:¬ t.num=0:=by omega
  simp only [z2d,z2e,z4b,Int.reduceLT,Int.reduceEq,Int.reduceLE,v49,v22,hh,h0,hn0]
  simp [hn0]
theorem u1v (b:List Th) (x r lo hi:Int) (hn:(b.map (·.num)).Nodup) {t:Th} (h:fnd b x=some t):u2g std (z33 b,(x,(r,(lo,(hi,())))))=some (if lo≤r∧r≤hi then (z33 (upd b x fun _=>{ t with hrs:=r }),(0,())) else (z33 b,(4,()))):=by
 unfold u2g u4y
 have h56:=x9z lo hi [r] (by simp)
 have h56:G56 std (lo,(hi,([eI r],())))=some (!(decide (r<lo∨r>hi)||false),()):=h56
 have hh:(fnd b x).isSome=true:=by rw [h]; rfl
 have h0:=B_0 h
 have h1:=B_1 h
 have h2:=B_2 h
 have h3:=B_3 h
 have hs:=u2b h hn t.num t.val r t.out (v44 h)
 simp only [eI] at h56
 by_cases hb:lo≤r∧r≤hi
 ·have hd:decide (r<lo∨r>hi)=false:=by simp; omega
  rw [hd] at h56
  simp only [z2d,z2e,z4b,Int.reduceLT,Int.reduceEq,Int.reduceLE,v49,v22,hh,h0,h1,h2,h3,h56,hs]
  simp [hb]
 ·have hd:decide (r<lo∨r>hi)=true:=by simp; omega
  rw [hd] at h56
  simp only [z2d,z2e,z4b,Int.reduceLT,Int.reduceEq,Int.reduceLE,v49,v22,hh,h0,h1,h2,h3,h56,hs]
  simp [hb]
theorem v8l (b:List Th) (x r lo hi:Int) (hn:(b.map (·.num)).Nodup) {t:Th} (h:fnd b x=some t):v4u std (z33 b,(x,(r,(lo,(hi,())))))=some (if lo≤r∧r≤hi then (z33 (upd b x fun _=>{ t with val:=r }),(0,())) else (z33 b,(4,()))):=by
 unfold v4u u4x
 have h56:=x9z lo hi [r] (by simp)
 have h56:G56 std (lo,(hi,([eI r],())))=some (!(decide (r<lo∨r>hi)||false),()):=h56
 have hh:(fnd b x).isSome=true:=by rw [h]; rfl
 have h0:=B_0 h
 have h1:=B_1 h
 have h2:=B_2 h
 have h3:=B_3 h
 have hs:=u2b h hn t.num r t.hrs t.out (v44 h)
 simp only [eI] at h56
 by_cases hb:lo≤r∧r≤hi
 ·have hd:decide (r<lo∨r>hi)=false:=by simp; omega
  rw [hd] at h56
  simp only [z2d,z2e,z4b,Int.reduceLT,Int.reduceEq,Int.reduceLE,v49,v22,hh,h0,h1,h2,h3,h56,hs]
  simp [hb]
 ·have hd:decide (r<lo∨r>hi)=true:=by simp; omega
  rw [hd] at h56
  simp only [z2d,z2e,z4b,Int.reduceLT,Int.reduceEq,Int.reduceLE,v49,v22,hh,h0,h1,h2,h3,h56,hs]
  simp [hb]
theorem v5v (b:List Th) (x:Int) (hn:(b.map (·.num)).Nodup) {t:Th} (h:fnd b x=some t):v3s std (z33 b,(x,(0,(0,(0,())))))=some (z33 (upd b x fun _=>{ t with out:=true }),(0,())):=by
 unfold v3s u4z
 have h56:=x9z 0 0 [0] (by simp)
 have h56:G56 std (0,(0,([eI 0],())))=some (true,()):=h56
 have hh:(fnd b x).isSome=true:=by rw [h]; rfl
 have h0:=B_0 h
 have h1:=B_1 h
 have h2:=B_2 h
 have h3:=B_3 h
 have hs:=u2b h hn t.num t.val t.hrs true (v44 h)
 simp only [eI] at h56
 simp only [z2d,z2e,z4b,Int.reduceLT,Int.reduceEq,Int.reduceLE,v49,v22,hh,h0,h1,h2,h3,h56,hs]
end Go.Am
end
section
namespace Go.Am
open D12
variable {fl fl':List Int→Bool}
theorem v3b {b:List Th} {x:Int} {t:Th} {f:Th→Th} (hn:(b.map (·.num)).Nodup) (h:fnd b x=some t):upd b x f=upd b x fun _=>f t:=by
 obtain ⟨i,_,hbi,hnum,_⟩:=v9w h
 rw [v7f hn hbi hnum,v7f hn hbi hnum]
theorem u5h (b:List Th) (n x a:Int) (hx:x≠0):v4c std (z33 b,(n,(1,(z1a [x],(a,())))))=some (z33 (v23 b ⟨n,1,[x],a⟩),(errC (fnd b) ⟨n,1,[x],a⟩,())):=by
 have h:=v8m b x a hx
 have he:errC (fnd b) ⟨n,1,[x],a⟩=if (fnd b x).isSome then 11 else 0:=by unfold errC x0; simp
 have hp:v23 b ⟨n,1,[x],a⟩=if (fnd b x).isSome then b else b++[⟨x,a,0,false⟩]:=by
  unfold v23
  rw [he]
  cases (fnd b x).isSome<;>simp [x0]
 rw [he,hp]
 unfold v4c
 cases hh:(fnd b x).isSome with
 |true=>
  rw [hh] at h
  simp only [z2d,z2e,z1a,y8q,w5s,z4b,Int.reduceLT,Int.reduceEq,Int.reduceLE,eDc,eDh]
  simp [h,y8q,w5s]
 |false=>
  rw [hh] at h
  simp only [z2d,z2e,z1a,y8q,w5s,z4b,Int.reduceLT,Int.reduceEq,Int.reduceLE,eDc,eDh]
  simp [h,y8q,w5s]
set_option maxHeartbeats 2000000 in
theorem u5g (b:List Th) (n x a:Int) (hb:v4b b) (ha:1≤a∧a≤10000):v4c std (z33 b,(n,(2,(z1a [x],(a,())))))=some (z33 (v23 b ⟨n,2,[x],a⟩),(errC (fnd b) ⟨n,2,[x],a⟩,())):=by
 have hN:=v4a b [x] (by simp)
 have hnx:x2h (fnd b) [x]=w6m (fnd b) x:=by simp [x2h]; intro h; exact h.symm
 have hn2:x2h (fnd b) (D12.needs ⟨n,2,[x],a⟩)=w6m (fnd b) x:=by simpa [D12.needs] using hnx
 rw [hnx] at hN
 have hN:v8o std (z33 b,([eI x],()))=some (z33 b,(w6m (fnd b) x,())):=hN
 by_cases he:w6m (fnd b) x=0
 ·obtain ⟨t,ht,_⟩:=z26 he
  have htm:=eDb ht
  obtain ⟨v1,v2,v3,v4⟩:=hb.2.2 t htm
  have hw:IntKind.i64.wrap (t.hrs+a)=t.hrs+a:=w21 _ (by omega) (by omega)
  have hhr:hrsS (fnd b) x=t.hrs:=by simp [hrsS,ht]
  have h139:=u1v b x (t.hrs+a) 0 10000 hb.2.1 ht
  have hh:(fnd b x).isSome=true:=by rw [ht]; rfl
  have h2:=B_2 ht
  have hep:errC (fnd b) ⟨n,2,[x],a⟩=if 10000<t.hrs+a then 4 else 0:=by
   unfold errC
   simp [hn2,he,x0,hhr]
  have hpp:v23 b ⟨n,2,[x],a⟩=if 10000<t.hrs+a then b else upd b x fun _=>{ t with hrs:=t.hrs+a }:=by
   unfold v23
   rw [hep]
   by_cases h4:10000<t.hrs+a
   ·simp [h4]
   ·simp [h4,x0]
    rw [v3b hb.2.1 ht]
    simp [v17]
  rw [hep,hpp]
  rw [he] at hN
  unfold v4c
  by_cases h4:10000<t.hrs+a
  ·have hlo:¬ (0≤t.hrs+a∧t.hrs+a≤10000):=by omega
   rw [if_neg hlo] at h139
   simp only [z2d,z2e,z1a,y8q,w5s,z4b,Int.reduceLT,Int.reduceEq,Int.reduceLE,eDc,eDh]
   simp [hN,y8q,w5s,v49,v22,hh,h2,hw,h139,h4]
  ·have hlo:0≤t.hrs+a∧t.hrs+a≤10000:=by omega
   rw [if_pos hlo] at h139
   simp only [z2d,z2e,z1a,y8q,w5s,z4b,Int.reduceLT,Int.reduceEq,Int.reduceLE,eDc,eDh]
   simp [hN,y8q,w5s,v49,v22,hh,h2,hw,h139,h4]
 ·have hep:errC (fnd b) ⟨n,2,[x],a⟩=w6m (fnd b) x:=by
   unfold errC
   simp [hn2,he]
  have hpp:v23 b ⟨n,2,[x],a⟩=b:=by
   unfold v23
   rw [hep,if_pos he]
  rw [hep,hpp]
  unfold v4c
  simp only [z2d,z2e,z1a,y8q,w5s,z4b,Int.reduceLT,Int.reduceEq,Int.reduceLE,eDc,eDh]
  simp [hN,y8q,w5s,he]
set_option maxHeartbeats 2000000 in
theorem u5d (b:List Th) (n x:Int) (hb:v4b b):v4c std (z33 b,(n,(5,(z1a [x],(0,())))))=some (z33 (v23 b ⟨n,5,[x],0⟩),(errC (fnd b) ⟨n,5,[x],0⟩,())):=by
 have hN:=v4a b [x] (by simp)
 have hnx:x2h (fnd b) [x]=w6m (fnd b) x:=by simp [x2h]; intro h; exact h.symm
 have hn2:x2h (fnd b) (D12.needs ⟨n,5,[x],0⟩)=w6m (fnd b) x:=by simpa [D12.needs] using hnx
 rw [hnx] at hN
 have hN:v8o std (z33 b,([eI x],()))=some (z33 b,(w6m (fnd b) x,())):=hN
 by_cases he:w6m (fnd b) x=0
 ·obtain ⟨t,ht,_⟩:=z26 he
  have h139:=v5v b x hb.2.1 ht
  have hh:(fnd b x).isSome=true:=by rw [ht]; rfl
  have hep:errC (fnd b) ⟨n,5,[x],0⟩=0:=by
   unfold errC
   simp [hn2,he]
  have hpp:v23 b ⟨n,5,[x],0⟩=upd b x fun _=>{ t with out:=true }:=by
   unfold v23
   rw [hep]
   simp [x0]
   rw [v3b hb.2.1 ht]
   simp [v17]
  rw [hep,hpp]
  rw [he] at hN
  unfold v4c
  simp only [z2d,z2e,z1a,y8q,w5s,z4b,Int.reduceLT,Int.reduceEq,Int.reduceLE,eDc,eDh]
  simp [hN,y8q,w5s,v49,v22,hh,h139]
 ·have hep:errC (fnd b) ⟨n,5,[x],0⟩=w6m (fnd b) x:=by
   unfold errC
   simp [hn2,he]
  have hpp:v23 b ⟨n,5,[x],0⟩=b:=by
   unfold v23
   rw [hep,if_pos he]
  rw [hep,hpp]
  unfold v4c
  simp only [z2d,z2e,z1a,y8q,w5s,z4b,Int.reduceLT,Int.reduceEq,Int.reduceLE,eDc,eDh]
  simp [hN,y8q,w5s,he]
set_option maxHeartbeats 2000000 in
theorem u5f (b:List Th) (n x y a:Int) (hb:v4b b) (ha:1≤a∧a≤100000):v4c std (z33 b,(n,(3,(z1a [x,y],(a,())))))=some (z33 (v23 b ⟨n,3,[x,y],a⟩),(errC (fnd b) ⟨n,3,[x,y],a⟩,())):=by
 have hN:=v4a b [x,y] (by simp)
 have hn2:D12.needs ⟨n,3,[x,y],a⟩=[x,y]:=rfl
 have hN:v8o std (z33 b,([eI x,eI y],()))=some (z33 b,(x2h (fnd b) [x,y],())):=hN
 by_cases he:x2h (fnd b) [x,y]=0
 ·obtain ⟨t,ht,_⟩:=z26 (z70 he x (by simp))
  obtain ⟨u,hu,_⟩:=z26 (z70 he y (by simp))
  obtain ⟨v1,v2,_,_⟩:=hb.2.2 u (eDb hu)
  obtain ⟨hw,w1,w2⟩:=v8s v1 v2 (by omega:0≤a) ha.2
  have hvy:x92 (fnd b) y=u.val:=by simp [x92,hu]
  have hq:IntKind.i64.wrap ((u.val*a).tdiv 1000)=(u.val*a).tdiv 1000:=w21 _ (by rw [Int.tdiv_eq_ediv_of_nonneg w1]; omega) (by rw [Int.tdiv_eq_ediv_of_nonneg w1]; omega)
  have hqq:std.ar .quo .i64 (std.ar .mul .i64 u.val a) 1000=(u.val*a).tdiv 1000:=by rw [v61,v4g,hw,hq]
  have h139:=v8l b x ((u.val*a).tdiv 1000) 1 1000000 hb.2.1 ht
  have hh:(fnd b x).isSome=true:=by rw [ht]; rfl
  have hhy:(fnd b y).isSome=true:=by rw [hu]; rfl
  have h1:=B_1 hu
  have hep:errC (fnd b) ⟨n,3,[x,y],a⟩=if (u.val*a).tdiv 1000<1∨1000000<(u.val*a).tdiv 1000 then 4 else 0:=by
   unfold errC
   simp [hn2,he,x1,hvy]
  have hpp:v23 b ⟨n,3,[x,y],a⟩=if (u.val*a).tdiv 1000<1∨1000000<(u.val*a).tdiv 1000 then b else upd b x fun _=>{ t with val:=(u.val*a).tdiv 1000 }:=by
   unfold v23
   rw [hep]
   by_cases h4:(u.val*a).tdiv 1000<1∨1000000<(u.val*a).tdiv 1000
   ·simp [h4]
   ·have hc:=v3b (f:=v17 (fnd b) ⟨n,3,[x,y],a⟩) hb.2.1 ht
    have htt:v17 (fnd b) ⟨n,3,[x,y],a⟩ t={ t with val:=(u.val*a).tdiv 1000 }:=by simp [v17,x1,hvy]
    rw [htt] at hc
    simp [h4,x0]
    exact hc
  rw [hep,hpp]
  rw [he] at hN
  generalize (u.val*a).tdiv 1000=q at*
  unfold v4c
  by_cases h4:q<1∨1000000<q
  ·have hlo:¬ (1≤q∧q≤1000000):=by omega
   rw [if_neg hlo] at h139
   simp only [z2d,z2e,z1a,y8q,w5s,z4b,Int.reduceLT,Int.reduceEq,Int.reduceLE,eDc,eDh]
   simp [hN,y8q,w5s,v49,v22,hh,hhy,h1,hqq,h139,h4]
  ·have hlo:1≤q∧q≤1000000:=by omega
   rw [if_pos hlo] at h139
   simp only [z2d,z2e,z1a,y8q,w5s,z4b,Int.reduceLT,Int.reduceEq,Int.reduceLE,eDc,eDh]
   simp [hN,y8q,w5s,v49,v22,hh,hhy,h1,hqq,h139,h4]
 ·have hep:errC (fnd b) ⟨n,3,[x,y],a⟩=x2h (fnd b) [x,y]:=by
   unfold errC
   simp [hn2,he]
  have hpp:v23 b ⟨n,3,[x,y],a⟩=b:=by
   unfold v23
   rw [hep,if_pos he]
  rw [hep,hpp]
  unfold v4c
  simp only [z2d,z2e,z1a,y8q,w5s,z4b,Int.reduceLT,Int.reduceEq,Int.reduceLE,eDc,eDh]
  simp [hN,y8q,w5s,he]
set_option maxHeartbeats 2000000 in
theorem u5c (b:List Th) (n x y z a:Int) (hb:v4b b) (ha:0≤a∧a≤1000000):v4c std (z33 b,(n,(6,(z1a [x,y,z],(a,())))))=some (z33 (v23 b ⟨n,6,[x,y,z],a⟩),(errC (fnd b) ⟨n,6,[x,y,z],a⟩,())):=by
 have hN:=v4a b [x,y,z] (by simp)
 have hn2:D12.needs ⟨n,6,[x,y,z],a⟩=[x,y,z]:=rfl
 have hN:v8o std (z33 b,([eI x,eI y,eI z],()))=some (z33 b,(x2h (fnd b) [x,y,z],())):=hN
 by_cases he:x2h (fnd b) [x,y,z]=0
 ·obtain ⟨t,ht,_⟩:=z26 (z70 he x (by simp))
  obtain ⟨u,hu,_⟩:=z26 (z70 he y (by simp))
  obtain ⟨v,hv,_⟩:=z26 (z70 he z (by simp))
  obtain ⟨t1,t2,_,_⟩:=hb.2.2 t (eDb ht)
  obtain ⟨u1,u2,_,_⟩:=hb.2.2 u (eDb hu)
  obtain ⟨v1,v2,_,_⟩:=hb.2.2 v (eDb hv)
  have e1:x92 (fnd b) x=t.val:=by simp [x92,ht]
  have e2:x92 (fnd b) y=u.val:=by simp [x92,hu]
  have e3:x92 (fnd b) z=v.val:=by simp [x92,hv]
  have hx:(fnd b x).isSome=true:=by rw [ht]; rfl
  have hy:(fnd b y).isSome=true:=by rw [hu]; rfl
  have hz:(fnd b z).isSome=true:=by rw [hv]; rfl
  have b1:=B_1 ht
  have b2:=B_1 hu
  have b3:=B_1 hv
  have hep:errC (fnd b) ⟨n,6,[x,y,z],a⟩=if a<t.val+u.val - v.val∨a< -(t.val+u.val - v.val) then 23 else 0:=by
   unfold errC
   simp [hn2,he,x0,x1,x2,e1,e2,e3]
  have hpp:v23 b ⟨n,6,[x,y,z],a⟩=b:=by
   unfold v23
   rw [hep]
   split
   ·rfl
   ·simp
    exact u2l fun t=>by simp [v17]
  rw [hep,hpp]
  rw [he] at hN
  have q1:std.ar .sub .i64 (IntKind.i64.wrap (t.val+u.val)) v.val=t.val+u.val - v.val:=by
   rw [z84,w21 (t.val+u.val) (by omega) (by omega),w21 _ (by omega) (by omega)]
  have q2:std.ar .sub .i64 0 a= -a:=by
   rw [z84,w21 _ (by omega) (by omega)]; omega
  have h56:=x9z (-a) a [t.val+u.val - v.val] (by simp)
  generalize t.val+u.val - v.val=q at*
  have h56:G56 std (-a,(a,([[.int .i64 q]],())))=some (!(decide (q< -a∨q>a)||false),()):=h56
  unfold v4c
  by_cases h4:a<q∨a< -q
  ·have hd:decide (q< -a∨q>a)=true:=by simp; omega
   rw [hd] at h56
   simp only [z2d,z2e,z1a,y8q,w5s,z4b,Int.reduceLT,Int.reduceEq,Int.reduceLE,eDc,eDh]
   simp [hN,y8q,w5s,v49,v22,hx,hy,hz,b1,b2,b3,q1,q2,h56,h4]
  ·have hd:decide (q< -a∨q>a)=false:=by simp; omega
   rw [hd] at h56
   simp only [z2d,z2e,z1a,y8q,w5s,z4b,Int.reduceLT,Int.reduceEq,Int.reduceLE,eDc,eDh]
   simp [hN,y8q,w5s,v49,v22,hx,hy,hz,b1,b2,b3,q1,q2,h56,h4]
 ·have hep:errC (fnd b) ⟨n,6,[x,y,z],a⟩=x2h (fnd b) [x,y,z]:=by
   unfold errC
   simp [hn2,he]
  have hpp:v23 b ⟨n,6,[x,y,z],a⟩=b:=by
   unfold v23
   rw [hep,if_pos he]
  rw [hep,hpp]
  unfold v4c
  simp only [z2d,z2e,z1a,y8q,w5s,z4b,Int.reduceLT,Int.reduceEq,Int.reduceLE,eDc,eDh]
  simp [hN,y8q,w5s,he]
theorem v6z (a b:List Th) (x:Int) (f:Th→Th):upd (a++b) x f=upd a x f++upd b x f:=by simp [upd]
set_option maxHeartbeats 2000000 in
theorem u5e (b:List Th) (n x y:Int) (hb:v4b b) (hxy:x≠y) (hy0:y≠0):v4c std (z33 b,(n,(4,(z1a [x,y],(0,())))))=some (z33 (v23 b ⟨n,4,[x,y],0⟩),(errC (fnd b) ⟨n,4,[x,y],0⟩,())):=by
 have hN:=v4a b [x] (by simp)
 have hnx:x2h (fnd b) [x]=w6m (fnd b) x:=by simp [x2h]; intro h; exact h.symm
 have hn2:x2h (fnd b) (D12.needs ⟨n,4,[x,y],0⟩)=w6m (fnd b) x:=by simpa [D12.needs] using hnx
 rw [hnx] at hN
 have hN:v8o std (z33 b,([eI x],()))=some (z33 b,(w6m (fnd b) x,())):=hN
 by_cases he:w6m (fnd b) x=0
 ·obtain ⟨t,ht,_⟩:=z26 he
  have hh:(fnd b x).isSome=true:=by rw [ht]; rfl
  have h1:=B_1 ht
  have h136:=v8m b y t.val hy0
  have hvx:x92 (fnd b) x=t.val:=by simp [x92,ht]
  have hep:errC (fnd b) ⟨n,4,[x,y],0⟩=if (fnd b y).isSome=true then 11 else 0:=by
   unfold errC
   simp [hn2,he,x1]
  rw [he] at hN
  cases hy:(fnd b y).isSome with
  |true=>
   rw [hy] at h136 hep
   have hep:errC (fnd b) ⟨n,4,[x,y],0⟩=11:=by rw [hep]; rfl
   have hpp:v23 b ⟨n,4,[x,y],0⟩=b:=by unfold v23; rw [hep]; rfl
   have h136:v9s std (z33 b,(y,(t.val,())))=some (z33 b,(11,())):=h136
   rw [hep,hpp]
   unfold v4c
   simp only [z2d,z2e,z1a,y8q,w5s,z4b,Int.reduceLT,Int.reduceEq,Int.reduceLE,eDc,eDh]
   simp [hN,y8q,w5s,v49,v22,hh,h1,h136]
  |false=>
   rw [hy] at h136 hep
   have hep:errC (fnd b) ⟨n,4,[x,y],0⟩=0:=by rw [hep]; rfl
   have hyn:fnd b y=none:=by
    cases hq:fnd b y with
    |none=>rfl
    |some u=>rw [hq] at hy; cases hy
   have h136:v9s std (z33 b,(y,(t.val,())))=some (z33 (b++[⟨y,t.val,0,false⟩]),(0,())):=h136
   have hpp:v23 b ⟨n,4,[x,y],0⟩=upd (b++[⟨y,t.val,0,false⟩]) x fun _=>{ t with out:=true }:=by
    unfold v23
    rw [hep,v6z]
    have e1:upd [⟨y,t.val,0,false⟩] x (fun _=>{ t with out:=true })=[⟨y,t.val,0,false⟩]:=by
     simp [upd]; intro e; exact absurd e.symm hxy
    rw [e1]
    have hc:=v3b (f:=v17 (fnd b) ⟨n,4,[x,y],0⟩) hb.2.1 ht
    have htt:v17 (fnd b) ⟨n,4,[x,y],0⟩ t={ t with out:=true }:=by simp [v17]
    rw [htt] at hc
    simp [x0,x1,hvx,hc]
   have hnd:((b++[⟨y,t.val,0,false⟩]:List Th).map (·.num)).Nodup:=by
    rw [eDt,eDn]
    refine ⟨hb.2.1,by simp,fun a ha b' hb'=>?_⟩
    simp at hb'
    subst hb'
    exact fun e=>v3j hyn (e▸ha)
   have hfx:fnd (b++[⟨y,t.val,0,false⟩]) x=some t:=by
    rw [v55 (t:=⟨y,t.val,0,false⟩) hyn,if_neg hxy]; exact ht
   have h139:=v5v (b++[⟨y,t.val,0,false⟩]) x hnd hfx
   rw [hep,hpp]
   unfold v4c
   simp only [z2d,z2e,z1a,y8q,w5s,z4b,Int.reduceLT,Int.reduceEq,Int.reduceLE,eDc,eDh]
   simp [hN,y8q,w5s,v49,v22,hh,h1,h136,h139]
 ·have hep:errC (fnd b) ⟨n,4,[x,y],0⟩=w6m (fnd b) x:=by
   unfold errC
   simp [hn2,he]
  have hpp:v23 b ⟨n,4,[x,y],0⟩=b:=by
   unfold v23
   rw [hep,if_pos he]
  rw [hep,hpp]
  unfold v4c
  simp only [z2d,z2e,z1a,y8q,w5s,z4b,Int.reduceLT,Int.reduceEq,Int.reduceLE,eDc,eDh]
  simp [hN,y8q,w5s,he]
end Go.Am
end
section
namespace Go.Am
open D12
variable {fl fl':List Int→Bool}
theorem u1z (b:List Th) (c:Cd) (hb:v4b b) (hc:z3d c=0):v4c std (z33 b,(c.n,(c.k,(z1a c.t,(c.a,())))))=some (z33 (v23 b c),(errC (fnd b) c,())):=by
 have hw:=u0c hc
 obtain ⟨_,hk,hlen,hnum,hnd,hfit⟩:=v21.1 hc
 obtain ⟨n,k,t,a⟩:=c
 simp only at hk hlen hfit hnum hnd⊢
 have nz:∀ x∈t,x≠0:=fun x hx=>by have:=hnum x hx; unfold z6x at this; omega
 rcases y35 hk with ⟨hks,hm⟩|⟨hks,hm⟩|⟨rfl,hm⟩
 ·rw [hm] at hlen
  obtain ⟨x,rfl⟩:=List.length_eq_one_iff.1 hlen
  rcases hks with rfl|rfl|rfl
  ·exact u5h b n x a (nz x (by simp))
  ·exact u5g b n x a hb (by unfold w1p at hfit; omega)
  ·have ha:a=0:=by unfold w1p at hfit; omega
   subst ha
   exact u5d b n x hb
 ·rw [hm] at hlen
  obtain ⟨x,y,rfl⟩:∃ x y,t=[x,y]:=by
   match t,hlen with
   |[x,y],_=>exact ⟨x,y,rfl⟩
  rcases hks with rfl|rfl
  ·exact u5f b n x y a hb (by unfold w1p at hfit; omega)
  ·have ha:a=0:=by unfold w1p at hfit; omega
   subst ha
   have hxy:x≠y:=by simpa using hnd
   exact u5e b n x y hb hxy (nz y (by simp))
 ·rw [hm] at hlen
  obtain ⟨x,y,z,rfl⟩:∃ x y z,t=[x,y,z]:=by
   match t,hlen with
   |[x,y,z],_=>exact ⟨x,y,z,rfl⟩
  exact u5c b n x y z a hb (by unfold w1p at hfit; omega)
theorem v9g (l:List Cd) (hl:l.length≤60) (hc:∀ c∈l,z3d c=0) (hf:Few l):z5r (v8g std) ([],([],(z0p fl l,((l.length:Int),((0:Int),())))))=some (z33 (z37 l),(z1a (v3k no l),())):=by
 have key:=y6h (b:=v8g std) l.length (fun (_:Unit) i=>(z33 (z37 (l.take i)),(z1a (v3k no (l.take i)),(z0p fl l,((l.length:Int),((i:Int),())))))) (fun _ _=>True) (fun r=>r=(z33 (z37 l),(z1a (v3k no l),())))
  (fun _ i hi _=> .inl ⟨(),by
   obtain ⟨c,hm⟩:=z1v hi
   obtain ⟨hw,h0⟩:=stp i (by omega)
   have hlt:(i:Int)<l.length:=by omega
   have hcm:=eAu hm
   obtain ⟨k1,k2⟩:=v89 (l.take i) fun d hd=>hc d (eDs hd)
   have h62:=u1z (z37 (l.take i)) c (k1.ok (by simp; omega)) (hc c hcm)
   have ht:l.take (i+1)=l.take i++[c]:=by rw [eDp,hm]; rfl
   have he:v3k no (l.take (i+1))=v3k no (l.take i)++[errC (fnd (z37 (l.take i))) c]:=by rw [ht,v73,u5l,k2]
   have hen:z1a (v3k no (l.take (i+1)))=z1a (v3k no (l.take i))++[[.int .i64 (errC (fnd (z37 (l.take i))) c)]]:=by rw [he]; simp [z1a,eI]
   have hel:(z1a (v3k no (l.take i))).length≤60:=by simp [z1a,z59]; omega
   have hbk:z37 (l.take (i+1))=v23 (z37 (l.take i)) c:=by rw [ht,v5n]
   rw [hen,hbk]
   generalize z1a (v3k no (l.take i))=E at*
   have e1:E.length+1≤1000000:=by omega
   have et:List.take E.length (List.drop 0 E)=E:=by rw [eDi,eDg]
   simp only [z1a] at h62
   simp only [z2h hm,v8g,z2d,z2e,z0p,z1a,w2c,w78,w77,w75,w76,z4b,Int.reduceLT,Int.reduceEq,Int.reduceLE,hm,hlt,h0,hw,h62,e1,et,eAg,eBh]
   simp [et,e1],trivial⟩)
  (fun _ _=>⟨_,by
   have hn:¬ (l.length:Int)<l.length:=by omega
   simp only [v8g,z2d,z2e,z2i,hn,if_false,eAk,z4b,Int.reduceLT,Int.reduceEq,Int.reduceLE,eDg],rfl⟩) () 0 (eAv _) trivial
 obtain ⟨r,h1,rfl⟩:=key
 exact h1
theorem u4s (l:List Cd) (hl:l.length≤60) (hc:∀ c∈l,z3d c=0) (hf:Few l):G61 std (z0p fl l,())=some (z33 (z37 l),(z1a (v3k no l),())):=by
 unfold G61
 have hk:=v9g (fl:=fl) l hl hc hf
 simp only [z2d,z2e,z4b,Int.reduceLT,Int.reduceEq,Int.reduceLE,z2i,hk]
theorem u0b (l:List Cd) (hf:Few l):G21 std (z0p fl l,())=some ((if z4y l=0 then z1a (v3k no l) else []),(z4y l,())):=by
 unfold G21
 by_cases hd:z4y l=0
 ·obtain ⟨h1,h2,_⟩:=z80.1 hd
  have hk:=u4s (fl:=fl) l h1 h2 hf
  simp only [z2d,z2e,z4b,Int.reduceLT,Int.reduceEq,Int.reduceLE,w3q l hf,hd,hk]
 ·simp only [z2d,z2e,z4b,Int.reduceLT,Int.reduceEq,Int.reduceLE,w3q l hf,hd]
  try simp [hd]
end Go.Am
end
section
namespace Go.Am
open D12
variable {fl fl':List Int→Bool}
def nums (b:List Th):List Int:=b.map (·.num)
end Go.Am
end
section
namespace Go.Am
open D12
variable {fl fl':List Int→Bool}
theorem v3x {l:List Cd} {c:Cd} (hn:(l.map (·.n)).Nodup) {i:Nat} (h:l[i]?=some c):atI l c.n=(i:Int):=by
 unfold atI atO
 cases hq:(List.range l.length).find? (fun i=>decide ((l.getD i default).n=c.n)) with
 |none=>
  rw [List.find?_eq_none] at hq
  have hi:i<l.length:=(eAd.1 h).1
  have:=hq i (eBo.2 hi)
  rw [z2h h] at this
  simp at this
 |some j=>
  have h1:=eDu hq
  have h2:=eBo.1 (eDb hq)
  obtain ⟨m,hm⟩:=z1v h2
  rw [z2h hm] at h1
  simp only [decide_eq_true_eq] at h1
  have hmc:m=c:=z21 hn m (eAu hm) c (eAu h) h1
  subst hmc
  show (j:Int)=i
  rw [←v3u hn h, ←v3u hn hm]
theorem v84 {l:List Cd}:u2c l=true↔z4y l=0:=by
 unfold u2c
 simp only [eAb,eBy,decide_eq_true_eq]
 constructor
 ·exact fun h=>h.2
 ·intro h
  refine ⟨?_,h⟩
  obtain ⟨h1,_,_,_,h5⟩:=z22 h
  unfold x8g
  simp only [Bool.or_eq_false_iff,decide_eq_false_iff_not,List.any_eq_false,decide_eq_true_eq]
  exact ⟨by omega,fun c hc=>by have:=(h5 c hc).2.1; omega⟩
theorem z72 {l:List Cd} (h:z4y l=0):Few l:=fun c hc=>by have:=((z22 h).2.2.2.2 c hc).2.1; omega
end Go.Am
end
section
namespace Go.Am
open D12
variable {fl fl':List Int→Bool}
theorem u1x (a b:List Int) (ha:a.length≤1000000):u2h std (z1a a,(z1a b,()))=some (decide (a=b),()):=by
 by_cases hl:a.length=b.length
 ·have key:=z9b (b:=v4t std) a.length (fun i=>(z1a a,(z1a b,((a.length:Int),((i:Int),()))))) (fun i=>!decide (a.getD i default=b.getD i default)) (.inl (false,())) (.inr ()) (fun i hi=>by
   obtain ⟨m,hm⟩:=z1v hi
   obtain ⟨m',hm'⟩:=z1v (l:=b) (i:=i) (by omega)
   obtain ⟨hw,h0⟩:=stp i (by omega)
   have hlt:(i:Int)<a.length:=by omega
   have r1:=u0h hm
   have r2:(b.map eI)[i]?=some (eI m'):=by rw [eAg,hm']; rfl
   rw [z2h hm,z2h hm']
   by_cases e:m=m'
   ·subst e
    simp only [v4t,z2d,z2e,z1a,y8q,w5s,z4b,Int.reduceLT,Int.reduceEq,Int.reduceLE,r1,r2,hlt,h0,hw,eBt, ←hl,eAi,if_false]
   ·simp only [v4t,z2d,z2e,z1a,y8q,w5s,z4b,Int.reduceLT,Int.reduceEq,Int.reduceLE,r1,r2,hlt,h0,hw,e,eBt, ←hl]) (by
   have hno:¬ (a.length:Int)<a.length:=by omega
   simp only [v4t,z2d,z2e,hno,if_false])
  have key:z5r (v4t std) (z1a a,(z1a b,((a.length:Int),((0:Int),()))))=_:=key
  rw [v7q default hl] at key
  unfold u2h
  have e1:(z1a a).length=a.length:=z00 a
  have e2:(z1a b).length=b.length:=z00 b
  have e3:(a.length:Int)=(b.length:Int):=by omega
  rw [e3] at key
  by_cases e:a=b
  ·simp only [e,decide_true,Bool.not_true,eAi,if_false] at key
   subst e
   simp only [z2d,z2e,z4b,Int.reduceLT,Int.reduceEq,Int.reduceLE,e1,e2,e3,key]
  ·simp only [e,decide_false,eCq,if_true] at key
   simp only [z2d,z2e,z4b,Int.reduceLT,Int.reduceEq,Int.reduceLE,e1,e2,e3,key,e]
 ·unfold u2h
  have e1:(z1a a).length=a.length:=z00 a
  have e2:(z1a b).length=b.length:=z00 b
  have e3:¬ (a.length:Int)=(b.length:Int):=by omega
  have e4:a≠b:=fun h=>hl (by rw [h])
  simp only [z2d,z2e,z4b,Int.reduceLT,Int.reduceEq,Int.reduceLE,e1,e2,e3,e4,ne_eq]
theorem v99 (c d:Cd) (hc:c.t.length≤1000000):G80 std (c.n,(c.k,(z1a c.t,(c.a,(d.n,(d.k,(z1a d.t,(d.a,()))))))))=some (decide (c=d),()):=by
 have h118:=u1x c.t d.t hc
 unfold G80
 by_cases e:c=d
 ·subst e
  rw [decide_eq_true rfl] at h118
  simp only [z2d,z2e,z4b,Int.reduceLT,Int.reduceEq,Int.reduceLE,h118]
 ·have hx:¬ (c.n=d.n∧c.k=d.k∧c.t=d.t∧c.a=d.a):=by
   rintro ⟨h1,h2,h3,h4⟩; exact e (by cases c; cases d; simp_all)
  by_cases e1:c.n=d.n
  ·by_cases e2:c.k=d.k
   ·by_cases e3:c.a=d.a
    ·have e4:¬ c.t=d.t:=fun h=>hx ⟨e1,e2,h,e3⟩
     rw [decide_eq_false e4] at h118
     simp only [z2d,z2e,z4b,Int.reduceLT,Int.reduceEq,Int.reduceLE,h118,e,e1,e2,e3]
    ·simp only [z2d,z2e,z4b,Int.reduceLT,Int.reduceEq,Int.reduceLE,e,e1,e2,e3]
   ·simp only [z2d,z2e,z4b,Int.reduceLT,Int.reduceEq,Int.reduceLE,e,e1,e2]
  ·simp only [z2d,z2e,z4b,Int.reduceLT,Int.reduceEq,Int.reduceLE,e,e1]
theorem u4k (a b:List Cd) (ha:a.length≤1000000) (hr:Few a):G81 std (z0p fl a,(z0p fl' b,()))=some (decide (a=b),()):=by
 by_cases hl:a.length=b.length
 ·have key:=z9b (b:=v64 std) a.length (fun i=>(z0p fl' b,(z0p fl a,((a.length:Int),((i:Int),()))))) (fun i=>!decide (a.getD i default=b.getD i default)) (.inl (false,())) (.inr ()) (fun i hi=>by
   obtain ⟨m,hm⟩:=z1v hi
   obtain ⟨m',hm'⟩:=z1v (l:=b) (i:=i) (by omega)
   obtain ⟨hw,h0⟩:=stp i (by omega)
   have hlt:(i:Int)<a.length:=by omega
   have r1:=v3v (fl:=fl) hm
   have r2:(b.map (eC fl'))[i]?=some (eC fl' m'):=by rw [eAg,hm']; rfl
   have h80:=v99 m m' (hr m (eAu hm))
   simp only [z1a] at h80
   rw [z2h hm,z2h hm']
   by_cases e:m=m'
   ·subst e
    rw [decide_eq_true rfl] at h80
    simp only [v64,z2d,z2e,z0p,z1a,z5s,y4y,z0p,z1a,z4b,Int.reduceLT,Int.reduceEq,Int.reduceLE,r1,r2,hlt,h0,hw,h80,eBt,eAi,if_false]
   ·rw [decide_eq_false e] at h80
    simp only [v64,z2d,z2e,z0p,z1a,z5s,y4y,z0p,z1a,z4b,Int.reduceLT,Int.reduceEq,Int.reduceLE,r1,r2,hlt,h0,hw,h80,e,eBt]) (by
   have hno:¬ (a.length:Int)<a.length:=by omega
   simp only [v64,z2d,z2e,hno,if_false])
  have key:z5r (v64 std) (z0p fl' b,(z0p fl a,((a.length:Int),((0:Int),()))))=_:=key
  rw [v7q default hl] at key
  unfold G81
  have e1:(z0p fl a).length=a.length:=z2i a
  have e2:(z0p fl' b).length=b.length:=z2i b
  have e3:(a.length:Int)=(b.length:Int):=by omega
  rw [e3] at key
  by_cases e:a=b
  ·simp only [e,decide_true,Bool.not_true,eAi,if_false] at key
   subst e
   simp only [z2d,z2e,z4b,Int.reduceLT,Int.reduceEq,Int.reduceLE,e1,e2,e3,key]
  ·simp only [e,decide_false,eCq,if_true] at key
   simp only [z2d,z2e,z4b,Int.reduceLT,Int.reduceEq,Int.reduceLE,e1,e2,e3,key,e]
 ·unfold G81
  have e1:(z0p fl a).length=a.length:=z2i a
  have e2:(z0p fl' b).length=b.length:=z2i b
  have e3:¬ (a.length:Int)=(b.length:Int):=by omega
  have e4:a≠b:=fun h=>hl (by rw [h])
  simp only [z2d,z2e,z4b,Int.reduceLT,Int.reduceEq,Int.reduceLE,e1,e2,e3,e4,ne_eq]
def EM (fl:List Int→Bool):v7b Int Cd:=⟨fun k=> .int .i64 k,fun c=> .agg (eC fl c),[.i],false,true,[.int .i64, .int .i64, .list 1, .int .i64]⟩
theorem v5w:(EM fl).Ok where
 agg:=fun _=>rfl
 kinds:=fun _=>rfl
 eq:=fun a b=>by
  show (bif IntKind.i64==IntKind.i64 then (some (z3o .eql a b&&true)) else none)=_
  rw [eCc]; rfl
 vagg:=fun _=>rfl
 vok:=fun _=>rfl
def v5g (l:List Cd):List (Int×Cd):=l.map fun c=>(c.n,c)
def v32 (fl:List Int→Bool) (m:List (Int×Cd)):List (D×D):=(EM fl).enc m
def fdC (l:List Cd) (x:Int):Option Cd:=l.find? fun c=>decide (c.n=x)
theorem v6u (x:Int):∀ l:List Cd,z23 (v5g l) x=fdC l x
 |[]=>rfl
 |c::l=>by
  have ih:=v6u x l
  unfold v5g fdC at ih⊢
  simp only [eDc,z23,List.find?_cons]
  by_cases h:x=c.n
  ·simp [h]
  ·have:decide (c.n=x)=false:=by simpa using fun e=>h e.symm
   simp [h,this,ih]
theorem v45 {l:List Cd} (hn:(l.map (·.n)).Nodup) {c:Cd} (h:c∈l):fdC l c.n=some c:=by
 unfold fdC
 cases hq:l.find? fun d=>decide (d.n=c.n) with
 |none=>
  rw [List.find?_eq_none] at hq
  have:=hq c h
  simp at this
 |some d=>
  have h1:=eDb hq
  have h2:=eDu hq
  simp only [decide_eq_true_eq] at h2
  rw [z21 hn d h1 c h h2]
theorem v56 {l:List Cd} {x:Int} {c:Cd} (h:fdC l x=some c):c∈l∧c.n=x:=by
 have h1:=eDb h
 have h2:=eDu h
 simp only [decide_eq_true_eq] at h2
 exact ⟨h1,h2⟩
section
variable (m:List (Int×Cd)) (x:Int)
theorem u5j:std.mOk (v32 fl m) [SK.i] false (.int .i64 x) true [.int .i64, .int .i64, .list 1, .int .i64]=true:=v53 v5w m x
theorem v9r:std.mhas (v32 fl m) [SK.i] false (.int .i64 x)=(z23 m x).isSome:=v40 v5w m x
variable {m x}
theorem M_0 {c:Cd} (h:z23 m x=some c):std.mI (v32 fl m) [SK.i] false (.int .i64 x) 0=c.n:=v30 v5w m x 0 h
theorem M_1 {c:Cd} (h:z23 m x=some c):std.mI (v32 fl m) [SK.i] false (.int .i64 x) 1=c.k:=v30 v5w m x 1 h
theorem M_2 {c:Cd} (h:z23 m x=some c):std.mL (v32 fl m) [SK.i] false (.int .i64 x) 2=z1a c.t:=by
 show dL (x2i _ _ _ _ _)=_
 rw [show x2i (v32 fl m) [SK.i] false (.int .i64 x) 2=_ from v3z v5w m x 2 h]; rfl
theorem M_3 {c:Cd} (h:z23 m x=some c):std.mI (v32 fl m) [SK.i] false (.int .i64 x) 3=c.a:=v30 v5w m x 3 h
theorem u8b (h:z23 m x=none) (c:Cd):std.madd (v32 fl m) (.int .i64 x) (.agg [.int .i64 c.n, .int .i64 c.k, .list (fl c.t) 1 (z1a c.t), .int .i64 c.a])=v32 fl (v39 m x c):=v42 v5w m x h c
theorem u8a {c:Cd} (h:z23 m x=some c):std.mdel (v32 fl m) (std.mpos (v32 fl m) [SK.i] false (.int .i64 x))=v32 fl (v8k m x):=v8u v5w m x h
end
theorem v6j {l:List Cd} {i:Nat} {c:Cd} (hn:(l.map (·.n)).Nodup) (h:l[i]?=some c):z23 (v5g (l.take i)) c.n=none∧v39 (v5g (l.take i)) c.n c=v5g (l.take (i+1)):=by
 have h1:z23 (v5g (l.take i)) c.n=none:=by
  rw [v3l]
  intro hm
  unfold v5g at hm
  rw [List.map_map] at hm
  obtain ⟨d,hd,he⟩:=eBb.1 hm
  have he:d.n=c.n:=he
  have hdl:=eDs hd
  have:=z21 hn d hdl c (eAu h) he
  subst this
  obtain ⟨j,hj,hje⟩:=eDe.1 hd
  rw [eBv] at hj
  rw [List.getElem_take] at hje
  have:=v3u hn (i:=j) (by rw [eAa (by omega),hje])
  have:=v3u hn h
  omega
 refine ⟨h1,?_⟩
 unfold v39
 rw [h1,eDp,h]
 simp [v5g]
theorem u4l (l:List Cd) (hl:l.length≤60) (hn:(l.map (·.n)).Nodup):G79 std (z0p fl l,())=some (v32 fl (v5g l),()):=by
 have key:=y6h (b:=v8a std) l.length (fun (_:Unit) i=>(v32 fl (v5g (l.take i)),(z0p fl l,((l.length:Int),((i:Int),()))))) (fun _ _=>True) (fun r=>r=(v32 fl (v5g l),()))
  (fun _ i hi _=> .inl ⟨(),by
   obtain ⟨c,hc⟩:=z1v hi
   obtain ⟨hw,h0⟩:=stp i (by omega)
   have hlt:(i:Int)<l.length:=by omega
   obtain ⟨h1,h2⟩:=v6j hn hc
   have hrow:=v3v (fl:=fl) hc
   have hh:(z23 (v5g (l.take i)) c.n).isSome=false:=by rw [h1]; rfl
   have ha:=u8b (fl:=fl) h1 c
   rw [h2] at ha
   have hF:std.rdF (l.map (eC fl)) i 2 1=fl c.t:=u5n ‹_›
   simp only [z1a] at ha
   simp only [v8a,z2d,z2e,z0p,z1a,z5s,y4y,z0p,z1a,z4b,Int.reduceLT,Int.reduceEq,Int.reduceLE,hrow,hlt,h0,hw,u5j,v9r,hh,hF,ha],trivial⟩)
  (fun _ _=>⟨(v32 fl (v5g l),()),by
   have hno:¬ (l.length:Int)<l.length:=by omega
   rw [eDg]
   simp only [v8a,z2d,z2e,hno,if_false],rfl⟩) () 0 (eAv _) trivial
 obtain ⟨r,h1,rfl⟩:=key
 have h1:z5r (v8a std) ([],(z0p fl l,((l.length:Int),((0:Int),()))))=_:=h1
 unfold G79
 have hle:(z0p fl l).length=l.length:=z2i l
 simp only [z2d,z2e,hle,h1]
theorem v3n {a b:List Cd}:v4e a b=0↔z4y a=0∧z4y b=0:=by
 unfold v4e; split
 ·rename_i h; exact ⟨fun e=>absurd e h,fun e=>absurd e.1 h⟩
 ·rename_i h; simp only [ne_eq,Decidable.not_not] at h; simp [h]
def u4i (a b:List Cd) (i:Nat) (M:List (Int×Cd)):Prop:=(M.map (·.1)).Nodup∧∀ x,z23 M x=if x∈(a.take i).map (·.n) then none else fdC b x
theorem u2r {M:List (Int×Cd)} (h:M≠[]):∃ x c,z23 M x=some c:=by
 match M,h with
 |(x,c)::M,_=>exact ⟨x,c,by simp [z23]⟩
theorem v9l (A B:List (List D)) (a b:List Cd) (ha:a.length≤60) (han:(a.map (·.n)).Nodup) (hbn:(b.map (·.n)).Nodup) (hbt:∀ c∈b,c.t.length≤1000000):
  ∃ r,z5r (v58 std) (v32 fl' (v5g b),(A,(B,(z0p fl a,((a.length:Int),((0:Int),()))))))=some r∧
   ((r= .inl (15,())∧¬ ∀ c∈a,c∈b)∨∃ M,r= .inr (v32 fl' M,(A,(B,())))∧(∀ c∈a,c∈b)∧u4i a b a.length M):=by
 refine y6h (b:=v58 std) a.length (fun (M:List (Int×Cd)) i=>(v32 fl' M,(A,(B,(z0p fl a,((a.length:Int),((i:Int),()))))))) (fun M i=>u4i a b i M∧∀ c∈a.take i,c∈b) _
  (fun M i hi hI=>?_) (fun M hI=>?_) (v5g b) 0 (eAv _) ⟨⟨by unfold v5g; rw [List.map_map]; exact hbn,fun x=>by simp [v6u]⟩,fun c hc=>by simp at hc⟩
 ·obtain ⟨⟨hMn,hM⟩,hin⟩:=hI
  obtain ⟨c,hc⟩:=z1v hi
  obtain ⟨hw,h0⟩:=stp i (by omega)
  have hlt:(i:Int)<a.length:=by omega
  have hrow:=v3v (fl:=fl) hc
  have hni:c.n∉(a.take i).map (·.n):=by
   intro hm
   have:=v6j han hc
   rw [v3l] at this
   apply this.1
   unfold v5g
   rw [List.map_map]
   exact hm
  have hv:=hM c.n
  rw [if_neg hni] at hv
  cases hq:fdC b c.n with
  |none=>
   rw [hq] at hv
   have hh:(z23 M c.n).isSome=false:=by rw [hv]; rfl
   refine .inr ⟨.inl (15,()),by simp only [v58,z2d,z2e,z0p,z1a,z5s,y4y,z0p,z1a,z4b,Int.reduceLT,Int.reduceEq,Int.reduceLE,hrow,hlt,h0,hw,u5j,v9r,hh], .inl ⟨rfl,fun hall=>?_⟩⟩
   rw [v45 hbn (hall c (eAu hc))] at hq
   cases hq
  |some x=>
   rw [hq] at hv
   have hh:(z23 M c.n).isSome=true:=by rw [hv]; rfl
   have m0:=M_0 (fl:=fl') hv
   have m1:=M_1 (fl:=fl') hv
   have m2:=M_2 (fl:=fl') hv
   have m3:=M_3 (fl:=fl') hv
   have md:=u8a (fl:=fl') hv
   have h80:=v99 x c (hbt x (v56 hq).1)
   simp only [z1a] at m2 h80
   by_cases e:x=c
   ·subst e
    rw [decide_eq_true rfl] at h80
    refine .inl ⟨v8k M x.n,by simp only [v58,z2d,z2e,z0p,z1a,z5s,y4y,z0p,z1a,z4b,Int.reduceLT,Int.reduceEq,Int.reduceLE,hrow,hlt,h0,hw,u5j,v9r,hh,m0,m1,m2,m3,h80,md,eAi,if_false],⟨hMn.sublist (v6y _ _),fun y=>?_⟩,fun d hd=>?_⟩
    ·rw [v6v y hMn,hM y,eDp,hc]
     by_cases hy:y=x.n
     ·subst hy; simp
     ·simp [hy]
    ·rw [eDp,hc] at hd
     rcases eBj.1 hd with hd|hd
     ·exact hin d hd
     ·have:d=x:=by simpa using hd
      subst this
      exact (v56 hq).1
   ·rw [decide_eq_false e] at h80
    refine .inr ⟨.inl (15,()),by simp only [v58,z2d,z2e,z0p,z1a,z5s,y4y,z0p,z1a,z4b,Int.reduceLT,Int.reduceEq,Int.reduceLE,hrow,hlt,h0,hw,u5j,v9r,hh,m0,m1,m2,m3,h80,e], .inl ⟨rfl,fun hall=>?_⟩⟩
    rw [v45 hbn (hall c (eAu hc))] at hq
    exact e (Option.some.inj hq).symm
 ·have hno:¬ (a.length:Int)<a.length:=by omega
  refine ⟨.inr (v32 fl' M,(A,(B,()))),by simp only [v58,z2d,z2e,hno,if_false,z4b,Int.reduceLT,Int.reduceEq,Int.reduceLE], .inr ⟨M,rfl,?_,hI.1⟩⟩
  have:=hI.2
  rwa [eDg] at this
def v4i (a b:List Cd):Int:=if v4e a b≠0 then v4e a b else if ¬ a.Perm b then 15 else if z25 a=z25 b then 0 else 24
theorem u4v (a b:List Cd) (ha:Few a) (hb:Few b):G35 std (z0p fl a,(z0p fl' b,()))=some (v4i a b,()):=by
 have h78:=u4m (fl:=fl) (fl':=fl') a b ha hb
 unfold G35 v4i
 by_cases h:v4e a b=0
 ·obtain ⟨da,db⟩:=v3n.1 h
  obtain ⟨a1,a2,a3,a4,a5⟩:=z22 da
  obtain ⟨b1,b2,b3,b4,b5⟩:=z22 db
  have h79:=u4l (fl:=fl') b b1 b2
  have hla:(z0p fl a).length=a.length:=z2i a
  obtain ⟨r,hr,hQ⟩:=v9l (fl:=fl) (fl':=fl') (z0p fl a) (z0p fl' b) a b a1 a2 b2 hb
  rcases hQ with ⟨rfl,hne⟩|⟨M,rfl,hall,hM⟩
  ·have hp:¬ a.Perm b:=fun hp=>hne fun c hc=>hp.mem_iff.1 hc
   simp only [z2d,z2e,z4b,Int.reduceLT,Int.reduceEq,Int.reduceLE,h78,h,h79,hla,hr,hp,ne_eq]
  ·have hml:std.mlen (v32 fl' M)=M.length:=by show (v32 fl' M).length=_; simp [v32,v7b.enc]
   have hMx:=hM.2
   rw [eDg] at hMx
   by_cases hme:M=[]
   ·subst hme
    have hp:a.Perm b:=by
     refine z51 a3 b3 fun c=>⟨hall c,fun hc=>?_⟩
     have:=hMx c.n
     rw [v45 b2 hc] at this
     split at this
     ·rename_i hm
      obtain ⟨d,hd,he⟩:=eBb.1 hm
      rw [←z21 b2 d (hall d hd) c hc he]
      exact hd
     ·cases this
    obtain ⟨IX,ss,g66,g67⟩:=v5k (fl:=fl) da
    obtain ⟨IX',ss',g66',g67'⟩:=v5k (fl:=fl') db
    have hla2:=(z76 a3).1.length_eq
    have h81:=u4k (fl:=fun _=>false) (fl':=fun _=>false) (z25 a) (z25 b) (by rw [←hla2]; omega) (fun c hc=>by have:=(a5 c ((z76 a3).1.mem_iff.2 hc)).2.1; omega)
    have tS:∀ E:List (List D),E.take E.length=E:=fun E=>eDg
    have hm0:¬ (0:Int)<((0:Nat):Int):=by omega
    simp only [List.length_nil] at hml
    by_cases e:z25 a=z25 b
    ·rw [decide_eq_true e] at h81
     rw [←e] at g67' h81
     have hs:(if z25 a=z25 b then (0:Int) else 24)=0:=if_pos e
     simp only [z2d,z2e,z4b,Int.reduceLT,Int.reduceEq,Int.reduceLE,h78,h,h79,hla,hr,hp,ne_eq,hml,hm0,g66,g67,g66',g67',h81,tS,eAp,eAk,eDi,hs,eDq,eAi,if_false]
    ·rw [decide_eq_false e] at h81
     simp only [z2d,z2e,z4b,Int.reduceLT,Int.reduceEq,Int.reduceLE,h78,h,h79,hla,hr,hp,ne_eq,hml,hm0,g66,g67,g66',g67',h81,tS,eAp,eAk,eDi,e,eDq]
   ·have hp:¬ a.Perm b:=by
     intro hp
     obtain ⟨x,c,hc⟩:=u2r hme
     rw [hMx x] at hc
     split at hc
     ·cases hc
     ·rename_i hm
      obtain ⟨h1,h2⟩:=v56 hc
      exact hm (eBb.2 ⟨c,hp.mem_iff.2 h1,h2⟩)
    have hm1:(0:Int)<(M.length:Int):=by
     have:0<M.length:=List.length_pos_iff.2 hme
     omega
    simp only [z2d,z2e,z4b,Int.reduceLT,Int.reduceEq,Int.reduceLE,h78,h,h79,hla,hr,hp,ne_eq,hml,hm1]
 ·simp only [z2d,z2e,z4b,Int.reduceLT,Int.reduceEq,Int.reduceLE,h78,h,ne_eq]
end Go.Am
end
section
namespace Go.Am
open D12
variable {fl fl':List Int→Bool}
def Chn (B:Cd→Cd→Bool):List Cd→Prop
 |[]=>True
 |[_]=>True
 |x::y::l=>B x y=true∧Chn B (y::l)
theorem Chn.left {B:Cd→Cd→Bool}:∀ {p q:List Cd},Chn B (p++q)→Chn B p
 |[],_,_=>trivial
 |[_],_,_=>trivial
 |x::y::p,q,h=>⟨h.1,Chn.left (p:=y::p) (q:=q) h.2⟩
end Go.Am
end
section
namespace Go.Am
open D12
variable {fl fl':List Int→Bool}
theorem u4g {l:List Cd} {x:Int} {i:Nat} (h:atO l x=some i):i<l.length:=eBo.1 (eDb h)
end Go.Am
end
section
namespace Go.Am
open D12
variable {fl fl':List Int→Bool}
theorem u7n {b:List Cd} (hb:(b.map (·.n)).Nodup) (c:Cd):(∃ k d,atO b c.n=some k∧b[k]?=some d∧c=d)↔c∈b:=by
 constructor
 ·rintro ⟨k,d,_,h,rfl⟩; exact eAu h
 ·intro h
  obtain ⟨k,hk,he⟩:=eDe.1 h
  have hk':b[k]?=some c:=by rw [eAa hk,he]
  have h1:=v3x hb hk'
  unfold atI at h1
  cases hf:atO b c.n with
  |none=>rw [hf] at h1; simp only at h1; omega
  |some j=>
   rw [hf] at h1
   simp only at h1
   have:j=k:=by omega
   subst this
   exact ⟨j,c,rfl,hk',rfl⟩
theorem v9k (a b:List Cd) (ha:Few a) (hla:a.length≤60) (hlb:b.length≤60) (hb:(b.map (·.n)).Nodup):
  z5r (v5q std) (z0p fl a,(z0p fl' b,((0:Int),())))=some (if (a.any fun c=>!decide (c∈b))=true then .inl (15,()) else .inr (z0p fl a,(z0p fl' b,()))):=by
 have key:=z9b (b:=v5q std) a.length (fun i=>(z0p fl a,(z0p fl' b,((i:Int),())))) (fun i=>!decide (a.getD i default∈b)) (.inl ((15:Int),())) (.inr (z0p fl a,(z0p fl' b,()))) (fun i hi=>by
  obtain ⟨c,hc⟩:=z1v hi
  obtain ⟨hw,h0⟩:=stp i (by omega)
  have hlt:(i:Int)<a.length:=by omega
  have hrow:=v3v (fl:=fl) hc
  have hle:(a.map (eC fl)).length=a.length:=by simp
  have g43:=v5u (fl:=fl') b c.n (by omega)
  unfold atI at g43
  rw [z2h hc]
  have hf:=u7n hb c
  cases hq:atO b c.n with
  |none=>
   rw [hq] at g43 hf
   have hm:¬ c∈b:=fun h=>by obtain ⟨k,d,h1,_⟩:=hf.2 h; cases h1
   have n1:(-1:Int)<0:=by omega
   simp only [z0p] at g43
   simp only [v5q,z2d,z2e,z0p,z1a,z5s,y4y,z0p,z1a,z4b,Int.reduceLT,Int.reduceEq,Int.reduceLE,hc,hrow,hle,hlt,h0,hw,g43,n1,hm]
  |some k=>
   rw [hq] at g43 hf
   have k0:¬ (k:Int)<0:=by omega
   have k1:(0:Int)≤(k:Int):=by omega
   obtain ⟨d,hd⟩:=z1v (u4g hq)
   have r2:=v3v (fl:=fl') hd
   have h77:=u4n c d (ha c (eAu hc))
   simp only [z0p,z1a] at g43 h77
   by_cases e:c=d
   ·have hm:c∈b:=e▸eAu hd
    rw [decide_eq_true e] at h77
    simp only [v5q,z2d,z2e,z0p,z1a,z5s,y4y,z0p,z1a,z4b,Int.reduceLT,Int.reduceEq,Int.reduceLE,hc,hrow,hle,hlt,h0,hw,g43,k0,k1,hd,r2,h77,hm,eAi,if_false]
   ·have hm:¬ c∈b:=fun h=>by
     obtain ⟨k',d',h1,h2,h3⟩:=hf.2 h
     cases h1
     rw [hd] at h2; cases h2
     exact e h3
    rw [decide_eq_false e] at h77
    simp only [v5q,z2d,z2e,z0p,z1a,z5s,y4y,z0p,z1a,z4b,Int.reduceLT,Int.reduceEq,Int.reduceLE,hc,hrow,hle,hlt,h0,hw,g43,k0,k1,hd,r2,h77,hm,eAi,if_false]) (by
  have hno:¬ (a.length:Int)<a.length:=by omega
  have hle:(z0p fl a).length=a.length:=z2i a
  simp only [v5q,z2d,z2e,hle,hno,if_false])
 have key:z5r (v5q std) (z0p fl a,(z0p fl' b,((0:Int),())))=_:=key
 rw [x21 a default fun c=>!decide (c∈b)] at key
 exact key
def v4d (b:List Cd) (x y:Cd):Bool:=tch x y&&decide (atI b x.n>atI b y.n)
theorem v9i (a b:List Cd) (ha:Few a) (hla:a.length≤60) (hlb:b.length≤60) (i:Nat) {c:Cd} (hc:a[i]?=some c):
  z5r (v57 std) (z0p fl a,(z0p fl' b,((i:Int),((0:Int),()))))=some (if ((List.range i).any fun k=>v4d b (a.getD k default) c)=true then .inl (24,()) else .inr (z0p fl a,(z0p fl' b,((i:Int),())))):=by
 have hil:i<a.length:=(eAd.1 hc).1
 have key:=z9b (b:=v57 std) i (fun k=>(z0p fl a,(z0p fl' b,((i:Int),((k:Int),()))))) (fun k=>v4d b (a.getD k default) c) (.inl ((24:Int),())) (.inr (z0p fl a,(z0p fl' b,((i:Int),())))) (fun k hk=>by
  obtain ⟨d,hd⟩:=z1v (show k<a.length by omega)
  obtain ⟨hw,h0⟩:=stp k (by omega)
  have hlt:(k:Int)<(i:Int):=by omega
  have hi0:(0:Int)≤(i:Int):=by omega
  have r1:=v3v (fl:=fl) hc
  have r2:=v3v (fl:=fl) hd
  have h44:=v5t d c (ha d (eAu hd)) (ha c (eAu hc))
  have g1:=v5u (fl:=fl') b d.n (by omega)
  have g2:=v5u (fl:=fl') b c.n (by omega)
  rw [z2h hd]
  unfold v4d
  simp only [z0p,z1a] at h44 g1 g2
  cases ht:tch d c with
  |false=>
   rw [ht] at h44
   simp only [v57,z2d,z2e,z0p,z1a,z5s,y4y,z0p,z1a,z4b,Int.reduceLT,Int.reduceEq,Int.reduceLE,hc,hd,r1,r2,hlt,h0,hi0,hw,h44,Bool.false_and,eAi,if_false]
  |true=>
   rw [ht] at h44
   by_cases e:atI b d.n>atI b c.n
   ·have e':atI b c.n<atI b d.n:=e
    simp only [v57,z2d,z2e,z0p,z1a,z5s,y4y,z0p,z1a,z4b,Int.reduceLT,Int.reduceEq,Int.reduceLE,hc,hd,r1,r2,hlt,h0,hi0,hw,h44,g1,g2,e',Bool.true_and,if_true]
   ·have e':¬ atI b c.n<atI b d.n:=e
    simp only [v57,z2d,z2e,z0p,z1a,z5s,y4y,z0p,z1a,z4b,Int.reduceLT,Int.reduceEq,Int.reduceLE,hc,hd,r1,r2,hlt,h0,hi0,hw,h44,g1,g2,e',Bool.true_and,eAi,if_false]) (by
  have hno:¬ (i:Int)<(i:Int):=by omega
  simp only [v57,z2d,z2e,hno,if_false])
 exact key
theorem v9j (a b:List Cd) (ha:Few a) (hla:a.length≤60) (hlb:b.length≤60):
  z5r (v67 std) (z0p fl a,(z0p fl' b,((0:Int),())))=some (if ((List.range a.length).any fun i=>(List.range i).any fun k=>v4d b (a.getD k default) (a.getD i default))=true then .inl (24,()) else .inr ()):=by
 have key:=z9b (b:=v67 std) a.length (fun i=>(z0p fl a,(z0p fl' b,((i:Int),())))) (fun i=>(List.range i).any fun k=>v4d b (a.getD k default) (a.getD i default)) (.inl ((24:Int),())) (.inr ()) (fun i hi=>by
  obtain ⟨c,hc⟩:=z1v hi
  obtain ⟨hw,h0⟩:=stp i (by omega)
  have hlt:(i:Int)<a.length:=by omega
  have hle:(z0p fl a).length=a.length:=z2i a
  have h3:=v9i (fl:=fl) (fl':=fl') a b ha hla hlb i hc
  rw [z2h hc]
  cases hq:(List.range i).any fun k=>v4d b (a.getD k default) c with
  |true=>
   rw [hq] at h3
   simp only [if_true] at h3
   simp only [v67,z2d,z2e,z4b,Int.reduceLT,Int.reduceEq,Int.reduceLE,hle,hlt,h0,hw,h3]
  |false=>
   rw [hq] at h3
   simp only [eAi,if_false] at h3
   simp only [v67,z2d,z2e,z4b,Int.reduceLT,Int.reduceEq,Int.reduceLE,hle,hlt,h0,hw,h3,eAi,if_false]) (by
  have hno:¬ (a.length:Int)<a.length:=by omega
  have hle:(z0p fl a).length=a.length:=z2i a
  simp only [v67,z2d,z2e,hle,hno,if_false])
 exact key
theorem v51 {a b:List Cd} (ha:a.Nodup) (hb:b.Nodup) (hl:a.length=b.length) (h:∀ c∈a,c∈b):a.Perm b:=by
 have hp:a.Perm (b.filter fun x=>decide (x∈a)):=z51 ha (hb.filter _) fun x=>by
  rw [eDa,decide_eq_true_eq]; exact ⟨fun hx=>⟨h x hx,hx⟩,fun hx=>hx.2⟩
 have:(b.filter fun x=>decide (x∈a)).length=b.length:=by rw [←hp.length_eq,hl]
 have hall:=List.length_filter_eq_length_iff.1 this
 exact z51 ha hb fun x=>⟨h x,fun hx=>by simpa using hall x hx⟩
theorem v7e {a b:List Cd} (ha:(a.map (·.n)).Nodup) (hb:(b.map (·.n)).Nodup) (hp:a.Perm b):((List.range a.length).any fun i=>(List.range i).any fun k=>v4d b (a.getD k default) (a.getD i default))=true↔¬ Eqv a b:=by
 have hat:∀ x∈a,atI b x.n=(b.idxOf x:Int):=fun x hx=>by
  have hxb:=hp.mem_iff.1 hx
  have hlt:=eDd hxb
  exact v3x hb (by rw [eAa hlt,eDf])
 constructor
 ·intro h he
  obtain ⟨i,hi,h⟩:=eCz.1 h
  obtain ⟨k,hk,h⟩:=eCz.1 h
  have hi:=eBo.1 hi
  have hk:=eBo.1 hk
  obtain ⟨x,hx⟩:=z1v (show k<a.length by omega)
  obtain ⟨y,hy⟩:=z1v hi
  rw [z2h hx,z2h hy] at h
  unfold v4d at h
  rw [eAb,decide_eq_true_eq,hat x (eAu hx),hat y (eAu hy)] at h
  have hix:a.idxOf x=k:=by
   have:=v3u ha hx
   have h2:=v3u ha (i:=a.idxOf x) (c:=x) (by have:=eDd (eAu hx); rw [eAa this,eDf])
   omega
  have hiy:a.idxOf y=i:=by
   have:=v3u ha hy
   have h2:=v3u ha (i:=a.idxOf y) (c:=y) (by have:=eDd (eAu hy); rw [eAa this,eDf])
   omega
  have ho:ord a x y=true:=x2a.2 ⟨h.1,by omega⟩
  rw [he.2 x (eAu hx) y (eAu hy)] at ho
  have:=(x2a.1 ho).2
  omega
 ·intro hne
  refine Decidable.byContradiction fun hno=>hne ⟨hp,?_⟩
  have key:∀ x∈a,∀ y∈a,ord a x y=true→ord b x y=true:=by
   intro x hx y hy ho
   obtain ⟨ht,hi⟩:=x2a.1 ho
   refine x2a.2 ⟨ht,?_⟩
   rcases Nat.lt_trichotomy (b.idxOf x) (b.idxOf y) with h|h|h
   ·exact h
   ·exact absurd (v7z (hp.mem_iff.1 hx) h) (v6i ho)
   ·exfalso
    apply hno
    have ix:=eDd hx
    have iy:=eDd hy
    refine eCz.2 ⟨a.idxOf y,eBo.2 iy,eCz.2 ⟨a.idxOf x,eBo.2 hi,?_⟩⟩
    have gx:a[a.idxOf x]?=some x:=by rw [eAa ix,eDf]
    have gy:a[a.idxOf y]?=some y:=by rw [eAa iy,eDf]
    rw [z2h gx,z2h gy]
    unfold v4d
    rw [eAb,decide_eq_true_eq,hat x hx,hat y hy]
    exact ⟨ht,by omega⟩
  intro x hx y hy
  cases h:ord a x y with
  |true=>exact (key x hx y hy h).symm
  |false=>
   cases h2:ord b x y with
   |false=>rfl
   |true=>
    exfalso
    rcases v3e hx (v6i h2) (x2a.1 h2).1 with h3|h3
    ·rw [h] at h3; cases h3
    ·have:=key y hy x hx h3
     rw [x7q this] at h2; cases h2
theorem u4u (a b:List Cd) (ha:Few a) (hb:Few b):G36 std (z0p fl a,(z0p fl' b,()))=some (v4i a b,()):=by
 have h82:=u4j (fl:=fl) (fl':=fl') a b ha hb
 have e1:(z0p fl a).length=a.length:=z2i a
 have e2:(z0p fl' b).length=b.length:=z2i b
 unfold G36 v4i
 by_cases h:v4e a b=0
 ·obtain ⟨da,db⟩:=v3n.1 h
  obtain ⟨a1,a2,a3,a4,a5⟩:=z22 da
  obtain ⟨b1,b2,b3,b4,b5⟩:=z22 db
  by_cases hl:a.length=b.length
  ·have hl':(a.length:Int)=(b.length:Int):=by omega
   have h1:=v9k (fl:=fl) (fl':=fl') a b ha a1 b1 b2
   cases hq:a.any (fun c=>!decide (c∈b)) with
   |true=>
    have hp:¬ a.Perm b:=fun hp=>by
     obtain ⟨c,hc,hn⟩:=eCz.1 hq
     simp [hp.mem_iff.1 hc] at hn
    rw [hq] at h1
    simp only [if_true] at h1
    simp only [z2d,z2e,z4b,Int.reduceLT,Int.reduceEq,Int.reduceLE,h82,h,e1,e2,hl',h1,hp,ne_eq]
   |false=>
    have hall:∀ c∈a,c∈b:=fun c hc=>by
     rw [List.any_eq_false] at hq
     simpa using hq c hc
    have hp:=v51 a3 b3 hl hall
    rw [hq] at h1
    simp only [eAi,if_false] at h1
    have h2:=v9j (fl:=fl) (fl':=fl') a b ha a1 b1
    have hw:=v7e a2 b2 hp
    have hle:=v46 (z21 a2) a3 hp
    by_cases he:Eqv a b
    ·have:((List.range a.length).any fun i=>(List.range i).any fun k=>v4d b (a.getD k default) (a.getD i default))=false:=by
      rw [Bool.eq_false_iff]; exact fun e=>hw.1 e he
     rw [this] at h2
     simp only [eAi,if_false] at h2
     have hs:(if z25 a=z25 b then (0:Int) else 24)=0:=if_pos (hle.2 he)
     simp only [z2d,z2e,z4b,Int.reduceLT,Int.reduceEq,Int.reduceLE,h82,h,e1,e2,hl',h1,h2,hp,hs,ne_eq]
    ·rw [hw.2 he] at h2
     simp only [if_true] at h2
     have hs:(if z25 a=z25 b then (0:Int) else 24)=24:=if_neg fun e=>he (hle.1 e)
     simp only [z2d,z2e,z4b,Int.reduceLT,Int.reduceEq,Int.reduceLE,h82,h,e1,e2,hl',h1,h2,hp,hs,ne_eq]
  ·have hl':¬ (a.length:Int)=(b.length:Int):=by omega
   have hp:¬ a.Perm b:=fun hp=>hl hp.length_eq
   simp only [z2d,z2e,z4b,Int.reduceLT,Int.reduceEq,Int.reduceLE,h82,h,e1,e2,hl',hp,ne_eq]
 ·simp only [z2d,z2e,z4b,Int.reduceLT,Int.reduceEq,Int.reduceLE,h82,h,ne_eq]
end Go.Am
end
section
namespace Go.Am
open D12
variable {fl fl':List Int→Bool}
theorem u1t (l:List Int) (hl:l.length≤1000000) (hn:l.Nodup):u1u std (z1a l,())=some (z1a (srt l),()):=by
 have hs:=(srt_perm l).length_eq
 obtain ⟨R,k,hr,hR,hk⟩:=x90 (srt l) (by omega)
 have hna:¬ Adj (srt l):=fun h=>y2h h ((srt_perm l).nodup_iff.2 hn)
 have hk:R=srt l∧k=(srt l).length:=by
  rcases hk with ⟨_,h1,h2⟩|⟨h,_⟩
  ·exact ⟨h1,h2⟩
  ·exact absurd h hna
 obtain ⟨rfl,rfl⟩:=hk
 have h108:=x91 l hl
 rw [hs] at hr
 unfold u1u
 have h1:(0:Int)≤l.length:=by omega
 have h2:(l.length:Int)≤1000000:=by omega
 simp only [z2d,z2e,z4b,Int.reduceLT,Int.reduceEq,Int.reduceLE,z00,h1,h2,List.length_replicate,eAk,Int.le_refl,eAp]
 have hsp:=spl l
 simp only [z00,eAp] at hsp
 simp only [hsp,h108,z2d,z2e,hr,z00,hs,eAk,eDi]
 have:(z1a (srt l)).take l.length=z1a (srt l):=eDm (by rw [z00,hs]; exact eAk _)
 simp [this]
namespace D12
def mxl (L:List (Int×Nat)):List Int→Nat
 |[]=>0
 |x::t=>max ((z23 L x).getD 0) (mxl L t)
theorem v7s {L:List (Int×Nat)} {t:List Int} {m:Nat}:mxl L t≤m↔∀ x∈t,(z23 L x).getD 0≤m:=by
 induction t with
 |nil=>simp [mxl]
 |cons x t ih=>
  simp only [mxl,eAz,Nat.max_le,ih]
  constructor
  ·rintro ⟨h1,h2⟩ y (rfl|h)
   ·exact h1
   ·exact h2 y h
  ·intro h; exact ⟨h x (.inl rfl),fun y hy=>h y (.inr hy)⟩
structure u5i (l:List Cd) (F:Cd→Nat) (p:List Cd) (L:List (Int×Nat)):Prop where
 last:∀ x,z23 L x=(on x p).getLast?.map F
theorem v8t {l p q:List Cd} {c:Cd} (hn:l.Nodup) (hl:l=p++c::q) {F:Cd→Nat} (hF:Rd l F) {L:List (Int×Nat)} (hL:u5i l F p L):mxl L c.t+1=F c:=by
 have hcl:c∈l:=by rw [hl]; simp
 have hcp:c∉p:=by
  rw [hl] at hn
  exact fun h=>(eDn.1 hn).2.2 c h c (eBq ..) rfl
 have hpc:pre l c=p:=v5e hl hcp
 rw [hF c hcl]
 congr 1
 apply Nat.le_antisymm
 ·rw [v7s]
  intro x hx
  rw [hL.last x]
  cases hq:(on x p).getLast? with
  |none=>simp
  |some e=>
   have hep:=x3y.1 (eDl hq)
   have hel:e∈l:=by rw [hl]; exact eDj _ hep.1
   refine v28 (eDa.2 ⟨hel,?_⟩)
   have:e∈pre l c:=by rw [hpc]; exact hep.1
   exact x2a.2 ⟨w32.2 ⟨x,hep.2,hx⟩,(v41 hel).1 this⟩
 ·rw [v4l]
  intro d hd
  obtain ⟨hdl,hdo⟩:=eDa.1 hd
  obtain ⟨ht,hi⟩:=x2a.1 hdo
  obtain ⟨x,hxd,hxc⟩:=w32.1 ht
  have hdp:d∈p:=by rw [←hpc]; exact (v41 hdl).2 hi
  have hdon:d∈on x p:=x3y.2 ⟨hdp,hxd⟩
  obtain ⟨e,he⟩:∃ e,(on x p).getLast?=some e:=by
   cases hq:(on x p).getLast? with
   |none=>rw [List.getLast?_eq_none_iff.1 hq] at hdon; cases hdon
   |some e=>exact ⟨e,rfl⟩
  have h1:=v7s.1 (eAk (mxl L c.t)) x hxc
  rw [hL.last x,he] at h1
  refine eBf ?_ h1
  show F d≤F e
  have hep:=x3y.1 (eDl he)
  have hel:e∈l:=by rw [hl]; exact eDj _ hep.1
  by_cases e1:d=e
  ·rw [e1]; exact eAk _
  ·have hpn:p.Nodup:=by rw [hl] at hn; exact (eDn.1 hn).1
   have hlt:l.idxOf d<l.idxOf e:=by
    have hip:∀ z∈p,l.idxOf z=p.idxOf z:=fun z hz=>by rw [hl,List.idxOf_append,if_pos hz]
    rw [hip d hdp,hip e hep.1]
    have hpw:=(w29 hpn).filter (fun c=>c.t.contains x)
    have hne:on x p≠[]:=fun h=>by rw [h] at hdon; cases hdon
    have hsp:on x p=(on x p).dropLast++[e]:=by
     have:=List.dropLast_concat_getLast hne
     have e2:(on x p).getLast hne=e:=by
      rw [List.getLast?_eq_some_getLast hne] at he
      exact Option.some.inj he
     rw [e2] at this; exact this.symm
    have hpw':(on x p).Pairwise fun u v=>p.idxOf u<p.idxOf v:=hpw
    rw [hsp] at hpw' hdon
    rcases eBj.1 hdon with h|h
    ·exact (List.pairwise_append.1 hpw').2.2 d h e (by simp)
    ·exact absurd (eBe.1 h) e1
   exact Nat.le_of_lt (v8r hF hdl hel (x2a.2 ⟨w32.2 ⟨x,hxd,hep.2⟩,hlt⟩))
def v3t (F:Cd→Nat) (p:List Cd):List (List Int):=(List.range (mxs F p)).map fun m=>v26 p F (m+1)
theorem v7h (F:Cd→Nat) (p:List Cd):(v3t F p).length=mxs F p:=by simp [v3t]
theorem v5c {F:Cd→Nat} {p:List Cd} {c:Cd} (m:Nat):v26 (p++[c]) F m=if F c=m then srt (v26 p F m++[c.n]) else v26 p F m:=by
 unfold v26
 rw [List.filter_append,eDt]
 by_cases h:F c=m
 ·rw [if_pos h,List.filter_cons_of_pos (by simpa using h)]
  refine x69 ?_
  simp only [List.filter_nil,eDc,eDh]
  exact List.Perm.append_right _ (srt_perm _).symm
 ·rw [if_neg h,List.filter_cons_of_neg (by simpa using h)]
  simp
theorem v62 {F:Cd→Nat} {p:List Cd} {c:Cd} {r:Nat} (hr:r+1=F c) (hle:r≤mxs F p):
  ((v3t F p++if r=mxs F p then [[]] else []).set r (srt (v26 p F (r+1)++[c.n])))=v3t F (p++[c]):=by
 have hm:mxs F (p++[c])=if r=mxs F p then mxs F p+1 else mxs F p:=by
  rw [v63]
  have:mxs F [c]=F c:=by simp [mxs]
  rw [this, ←hr]
  split<;>omega
 apply eBd
 intro i
 unfold v3t
 rw [hm]
 by_cases hi:i=r
 ·subst hi
  rw [List.getElem?_set_self (by simp; split<;>simp<;>omega),eAg,eDx (by split<;>omega)]
  simp only [eBh]
  rw [v5c,if_pos hr.symm]
 ·rw [List.getElem?_set_ne (fun h=>hi h.symm)]
  have hne:¬ F c=i+1:=by omega
  by_cases hlt:i<mxs F p
  ·rw [eBz (by simpa using hlt),eAg,eAg,eDx hlt,eDx (by split<;>omega)]
   simp only [eBh]
   rw [v5c,if_neg hne]
  ·rw [eCv (by simpa using hlt),eCt (l:=(List.range _).map _) (by simp; split<;>omega)]
   split
   ·rename_i h
    rw [eCt]
    simp; omega
   ·simp
end D12
theorem v9n (R lc ls:List (List D)) (cn ck ca n i:Int) (L:List (Int×Nat)) (t:List Int) (ht:t.length≤1000000):
  z5r (v69 std) (z75 L,(R,(cn,(ck,(lc,(ca,((0:Int),(ls,(n,(i,(z1a t,((t.length:Int),((0:Int),())))))))))))))=some (z75 L,(R,(cn,(ck,(lc,(ca,(((mxl L t:Nat):Int),(ls,(n,(i,())))))))))):=by
 have key:=z57 (b:=v69 std) t (fun (r:Nat) j=>(z75 L,(R,(cn,(ck,(lc,(ca,((r:Int),(ls,(n,(i,(z1a t,((t.length:Int),((j:Int),())))))))))))))) (fun r x=>max r ((z23 L x).getD 0)) (fun _ _=>True) (fun r=>(z75 L,(R,(cn,(ck,(lc,(ca,((r:Int),(ls,(n,(i,())))))))))))
  (fun r j x hx _=>by
   have hj:j<t.length:=(eAd.1 hx).1
   obtain ⟨hw,h0⟩:=stp j (by omega)
   have hlt:(j:Int)<t.length:=by omega
   have hrow:=u0h hx
   refine ⟨?_,trivial⟩
   cases hv:z23 L x with
   |none=>
    have hh:(z23 L x).isSome=false:=by rw [hv]; rfl
    have hm:max (r:Int) 0=((max r 0:Nat):Int):=by omega
    simp only [v69,z2d,z2e,z1a,y8q,w5s,z4b,Int.reduceLT,Int.reduceEq,Int.reduceLE,hx,hrow,hlt,h0,hw,v9q,v48,hv,Option.isSome_none,eAi,if_false,hm,Option.getD_none]
   |some k=>
    have hg:=u1r hv
    have hm:max (r:Int) (k:Int)=((max r k:Nat):Int):=by omega
    simp only [v69,z2d,z2e,z1a,y8q,w5s,z4b,Int.reduceLT,Int.reduceEq,Int.reduceLE,hx,hrow,hlt,h0,hw,v9q,v48,hv,Option.isSome_some,hg,hm,eBk])
  (fun r _=>by
   have hno:¬ (t.length:Int)<t.length:=by omega
   simp only [v69,z2d,z2e,hno,if_false,z4b,Int.reduceLT,Int.reduceEq,Int.reduceLE]) 0 trivial
 have hfold:∀ (t:List Int) (r:Nat),t.foldl (fun r x=>max r ((z23 L x).getD 0)) r=max r (mxl L t):=by
  intro t
  induction t with
  |nil=>intro r; simp [mxl]
  |cons x t ih=>intro r; rw [eDr,ih,mxl]; omega
 have h:=key.1
 rw [hfold t 0] at h
 simp only [Nat.zero_max] at h
 exact h
theorem v9m (R ls:List (List D)) (n i:Int) (r:Nat) (hr:r≤1000000) (t:List Int) (ht:t.length≤1000000) (L:List (Int×Nat)):
  z5r (v68 std) (z75 L,(R,((r:Int),(ls,(n,(i,(z1a t,((t.length:Int),((0:Int),())))))))))=some (z75 (t.foldl (fun L x=>v39 L x (r+1)) L),(R,(ls,(n,(i,()))))):=by
 have key:=z57 (b:=v68 std) t (fun (L:List (Int×Nat)) j=>(z75 L,(R,((r:Int),(ls,(n,(i,(z1a t,((t.length:Int),((j:Int),())))))))))) (fun L x=>v39 L x (r+1)) (fun _ _=>True) (fun L=>(z75 L,(R,(ls,(n,(i,()))))))
  (fun L j x hx _=>by
   have hj:j<t.length:=(eAd.1 hx).1
   obtain ⟨hw,h0⟩:=stp j (by omega)
   have hlt:(j:Int)<t.length:=by omega
   have hrow:=u0h hx
   have hwr:IntKind.i64.wrap ((r:Int)+1)=((r+1:Nat):Int):=w0a (by omega)
   refine ⟨?_,trivial⟩
   cases hv:z23 L x with
   |none=>
    have ha:=u1s hv (r+1)
    simp only [v68,z2d,z2e,z1a,y8q,w5s,z4b,Int.reduceLT,Int.reduceEq,Int.reduceLE,hx,hrow,hlt,h0,hw,hwr,v9q,v48,hv,Option.isSome_none,eAi,if_false,ha]
   |some k=>
    have ha:=u4h hv (r+1)
    simp only [v68,z2d,z2e,z1a,y8q,w5s,z4b,Int.reduceLT,Int.reduceEq,Int.reduceLE,hx,hrow,hlt,h0,hw,hwr,v9q,v48,hv,Option.isSome_some,ha])
  (fun L _=>by
   have hno:¬ (t.length:Int)<t.length:=by omega
   simp only [v68,z2d,z2e,hno,if_false,z4b,Int.reduceLT,Int.reduceEq,Int.reduceLE]) L trivial
 exact key.1
theorem v6g (r:Nat):∀ (t:List Int) (L:List (Int×Nat)) (x:Int),z23 (t.foldl (fun L x=>v39 L x r) L) x=if x∈t then some r else z23 L x
 |[],L,x=>by simp
 |y::t,L,x=>by
  rw [eDr,v6g r t,v25]
  by_cases h:x∈t
  ·simp [h]
  ·by_cases e:x=y
   ·simp [e]
   ·simp [h,e]
theorem v7l {l p:List Cd} {F:Cd→Nat} {L:List (Int×Nat)} {c:Cd} (h:u5i l F p L):u5i l F (p++[c]) (c.t.foldl (fun L x=>v39 L x (F c)) L):=by
 refine ⟨fun x=>?_⟩
 rw [v6g,v3f,h.last x]
 by_cases hx:x∈c.t
 ·have:on x [c]=[c]:=by rw [v4z hx]; rfl
  rw [if_pos hx,this]; simp
 ·have:on x [c]=[]:=by simp [on,hx]
  rw [if_neg hx,this]; simp
def tru:List Int→Bool:=fun _=>true
theorem v3p {l:List Cd} (hn:l.Nodup) {F:Cd→Nat} (hF:Rd l F):∀ (p q:List Cd),l=p++q→mxs F p≤p.length:=by
 have key:∀ (n:Nat) (c:Cd),c∈l→l.idxOf c=n→F c≤n+1:=by
  intro n
  induction n using Nat.strongRecOn with
  |_ n ih=>
   intro c hc hi
   rw [hF c hc]
   have:mxs F (l.filter fun d=>ord l d c)≤n:=v4l.2 fun d hd=>by
    obtain ⟨h1,h2⟩:=eDa.1 hd
    have h3:=(x2a.1 h2).2
    have:=ih (l.idxOf d) (by omega) d h1 rfl
    omega
   omega
 intro p q hl
 rw [v4l]
 intro c hc
 have hcl:c∈l:=by rw [hl]; exact eDj _ hc
 have h1:=key _ c hcl rfl
 have h2:l.idxOf c<p.length:=by rw [hl,List.idxOf_append,if_pos hc]; exact eDd hc
 omega
theorem v9o (l:List Cd) (hl:l.length≤60) (hm:(l.map (·.n)).Nodup) (hf:Few l):
  z5r (v7a std) ([],([],(z0p fl l,((l.length:Int),((0:Int),())))))=some (z35 tru (z20 l),()):=by
 have hn:=z28 hm
 have hF:=v4y l
 generalize hFF:z63 l=F at hF
 have key:=y6h (b:=v7a std) l.length (fun (L:List (Int×Nat)) i=>(z75 L,(z35 tru (v3t F (l.take i)),(z0p fl l,((l.length:Int),((i:Int),())))))) (fun L i=>u5i l F (l.take i) L) (fun r=>r=(z35 tru (z20 l),()))
  (fun L i hi hI=> .inl (by
   obtain ⟨c,hc⟩:=z1v hi
   obtain ⟨hw,h0⟩:=stp i (by omega)
   have hlt:(i:Int)<l.length:=by omega
   have hrow:=v3v (fl:=fl) hc
   have hsp:l=l.take i++c::l.drop (i+1):=by
    conv=>lhs; rw [←List.take_append_drop i l,v6m hc]
   have hr:=v8t hn hsp hF hI
   have hlen:=v3p hn hF (l.take i) _ hsp
   rw [eBv] at hlen
   have htk:l.take (i+1)=l.take i++[c]:=by rw [eDp,hc]; rfl
   have hle:mxl L c.t≤mxs F (l.take i):=by
    rw [v7s]
    intro x hx
    rw [hI.last x]
    cases hq:(on x (l.take i)).getLast? with
    |none=>simp
    |some e=>exact v28 (v4k (eDl hq))
   have hstep:=v62 (F:=F) (p:=l.take i) (c:=c) hr hle
   have h2:=v9n (z35 tru (v3t F (l.take i))) (c.t.map eI) (z0p fl l) c.n c.k c.a (l.length:Int) (i:Int) L c.t (hf c (eAu hc))
   have hRn:(l.take i).length≤60:=by rw [eBv]; omega
   have hnum:∀ m,(v26 (l.take i) F m).length≤60∧(v26 (l.take i) F m++[c.n]).Nodup:=by
    intro m
    have hp:(v26 (l.take i) F m).Perm (((l.take i).filter fun c=>decide (F c=m)).map (·.n)):=srt_perm _
    refine ⟨?_,?_⟩
    ·rw [hp.length_eq,eBt]; exact eBf (List.length_filter_le _ _) hRn
    ·refine (List.Perm.append_right [c.n] hp).nodup_iff.2 ?_
     have h3:((l.take (i+1)).map (·.n)).Nodup:=hm.sublist ((List.take_sublist _ _).map _)
     rw [htk,eDt] at h3
     exact h3.sublist (List.Sublist.append ((List.filter_sublist).map _) (List.Sublist.refl _))
   have h57:=fun m=>u1t (v26 (l.take i) F m++[c.n]) (by have:=(hnum m).1; simp; omega) (hnum m).2
   generalize hrr:mxl L c.t=r at*
   have h3:=fun R=>v9m R (z0p fl l) (l.length:Int) (i:Int) r (by omega) c.t (hf c (eAu hc)) L
   rw [hr] at h3
   refine ⟨c.t.foldl (fun L x=>v39 L x (F c)) L,?_,by rw [htk]; exact v7l hI⟩
   rw [htk, ←hstep]
   have hRl:=v7h F (l.take i)
   have hgetR:∀ m,m<mxs F (l.take i)→(v3t F (l.take i))[m]?=some (v26 (l.take i) F (m+1)):=fun m hm=>by
    unfold v3t; rw [eAg,eDx hm]; rfl
   generalize v3t F (l.take i)=R at*
   have hel:(R.map (eLf tru)).length=mxs F (l.take i):=by rw [eBt,hRl]
   have hr0:(0:Int)≤(r:Int):=by omega
   have htl:(c.t.map eI).length=c.t.length:=by simp
   have hF2:∀ (E:List (List D)) (f:Bool) (z:Nat) (es:List (List D)),E[r]?=some [D.list f z es]→std.rdF E r 0 1=(f&&(Nat.beq 1 z||es.isEmpty)):=fun E f z es h=>by
    show dF 1 (((E[r]?).bind fun r=>r[0]?).getD .nilp)=_
    rw [h]; rfl
   by_cases e:r=mxs F (l.take i)
   ·have hnil:v26 (l.take i) F (r+1)=[]:=by
     have:(l.take i).filter (fun c=>decide (F c=r+1))=[]:=by
      rw [List.filter_eq_nil_iff]
      intro d hd
      have:=v28 (F:=F) hd
      simp; omega
     unfold v26; rw [this]; rfl
    have h57':=h57 (r+1)
    rw [hnil] at h57'⊢
    rw [if_pos e]
    clear hnum h57 hgetR hstep hnil
    rw [←e] at hel hRl hlen hle
    have hee:(mxs F (l.take i):Nat)=r:=e.symm
    have c2:(r:Int)<((r+1:Nat):Int):=by omega
    have c3:r+1≤1000000:=by omega
    have c4:(R.map (eLf tru)).take r=R.map (eLf tru):=eDm (by omega)
    have hrw:(R.map (eLf tru)++[[D.list true 0 []]])[r]?=some [D.list true 0 []]:=by
     rw [eCv (by omega),hel,Nat.sub_self]; rfl
    have hrF:=hF2 _ _ _ _ hrw
    have hset:(R.map (eLf tru)++[[D.list true 0 []]]).set r [D.list true 1 (z1a (srt ([]++[c.n])))]=((R++[[]]).set r (srt ([]++[c.n]))).map (eLf tru):=by
     rw [List.set_append_right _ _ (by omega),List.set_append_right _ _ (by omega),hel,hRl,Nat.sub_self]
     simp [eLf,tru]
    have hln:(R.map (eLf tru)++[[D.list true 0 []]]).length=r+1:=by rw [eBu,hel]; rfl
    have hln2:(((R++[[]]).set r (srt ([]++[c.n]))).map (eLf tru)).length=r+1:=by simp [hRl]
    have hcok:z3k [CK.list 1] [D.list true 0 []]=true:=rfl
    have hdl:dL (D.list true 0 [])=[]:=rfl
    have hrF:std.rdF (R.map (eLf tru)++[[D.list true 0 []]]) r 0 1=true:=hrF
    have h57':u1u std ([[D.int .i64 c.n]],())=some ((srt [c.n]).map eI,()):=h57'
    have hset:(R.map (eLf tru)++[[D.list true 0 []]]).set r [D.list true 1 ((srt [c.n]).map eI)]=((R++[[]]).set r (srt [c.n])).map (eLf tru):=hset
    have hln2:(((R++[[]]).set r (srt [c.n])).map (eLf tru)).length=r+1:=hln2
    have c5:1≤1000000:=by omega
    simp only [z35,z0p,z1a] at h2 h3
    simp only [v7a,z2d,z2e,z0p,z1a,z5s,y4y,z35,z0p,z1a,z4b,Int.reduceLT,Int.reduceEq,Int.reduceLE,hc,hrow,hlt,h0,hw,h2,hel,c2,c3,c4,hln,eDi,List.take_succ_cons,List.take_zero,eAk,eDq,if_true,hr0,hrw,hcok,hdl,hrF,eAp,List.nil_append,eCo,eBk,List.length_nil,c5,h57',hset,hln2,h3,htl]
   ·have hlt2:r<mxs F (l.take i):=by omega
    have h57':=h57 (r+1)
    have hrl:=(hnum (r+1)).1
    have hg:=hgetR r hlt2
    rw [if_neg e,eCn]
    clear hnum h57 hgetR hstep
    generalize v26 (l.take i) F (r+1)=S at*
    generalize mxs F (l.take i)=M at*
    have c1:¬ (r:Int)=(M:Int):=by omega
    have c2:(r:Int)<(M:Int):=by omega
    have hrw:(R.map (eLf tru))[r]?=some [D.list true 1 (S.map eI)]:=by rw [eAg,hg]; rfl
    have hrF:std.rdF (R.map (eLf tru)) r 0 1=true:=hF2 _ _ _ _ hrw
    have hset:(R.map (eLf tru)).set r [D.list true 1 ((srt (S++[c.n])).map eI)]=(R.set r (srt (S++[c.n]))).map (eLf tru):=by
     rw [List.map_set]; rfl
    have hln2:((R.set r (srt (S++[c.n]))).map (eLf tru)).length=M:=by simp [hRl]
    have hcok:z3k [CK.list 1] [D.list true 1 (S.map eI)]=true:=rfl
    have hdl:dL (D.list true 1 (S.map eI))=S.map eI:=rfl
    have hsl:(S.map eI).length=S.length:=by simp
    have c5:S.length+1≤1000000:=by omega
    have h57':u1u std (S.map eI++[[D.int .i64 c.n]],())=some ((srt (S++[c.n])).map eI,()):=by
     have e2:S.map eI++[[D.int .i64 c.n]]=z1a (S++[c.n]):=by simp [z1a,eI]
     rw [e2]; exact h57'
    simp only [z35,z0p,z1a] at h2 h3
    simp only [v7a,z2d,z2e,z0p,z1a,z5s,y4y,z35,z0p,z1a,z4b,Int.reduceLT,Int.reduceEq,Int.reduceLE,hc,hrow,hlt,h0,hw,h2,hel,c1,c2,eDi,List.take_succ_cons,List.take_zero,eAk,eDq,if_true,hr0,hrw,hcok,hdl,hrF,eAp,eCo,eBk,hsl,c5,h57',hset,hln2,h3,htl]))
  (fun L hI=>⟨(z35 tru (z20 l),()),by
   have hno:¬ (l.length:Int)<l.length:=by omega
   rw [eDg]
   have:v3t F l=z20 l:=by unfold v3t z20; rw [hFF]
   rw [this]
   simp only [v7a,z2d,z2e,hno,if_false,z4b,Int.reduceLT,Int.reduceEq,Int.reduceLE],rfl⟩) [] 0 (eAv _) ⟨fun x=>by simp [z23,on]⟩
 obtain ⟨r,h1,rfl⟩:=key
 exact h1
theorem u4w (l:List Cd) (hf:Few l):G27 std (z0p fl l,())=some ((if z4y l=0 then z35 tru (z20 l) else []),(z4y l,())):=by
 have h19:=w3q (fl:=fl) l hf
 have hle:(z0p fl l).length=l.length:=z2i l
 unfold G27
 by_cases h:z4y l=0
 ·obtain ⟨h1,h2,h3,h4,h5⟩:=z22 h
  have hb:=v9o (fl:=fl) l h1 h2 hf
  simp only [z2d,z2e,z4b,Int.reduceLT,Int.reduceEq,Int.reduceLE,h19,h,hle,hb]
 ·simp only [z2d,z2e,z4b,Int.reduceLT,Int.reduceEq,Int.reduceLE,h19,h]
end Go.Am
end
section
namespace Go.Am
open D12
variable {fl fl':List Int→Bool}
theorem v3r (l:List Cd):(z20 l).length=mxs (z63 l) l:=by simp [z20]
theorem v6f (l:List Cd) (F:Cd→Nat) (m:Nat):(v26 l F m).length≤l.length:=by
 unfold v26
 rw [(srt_perm _).length_eq,eBt]
 exact List.length_filter_le _ _
theorem v5f {l m:List Cd} (h:z4y l=0) (hp:m.Perm l):z4y m=0:=by
 obtain ⟨h1,h2,h3⟩:=z80.1 h
 exact z80.2 ⟨by rw [hp.length_eq]; exact h1,fun c hc=>h2 c (hp.mem_iff.1 hc),(hp.map _).nodup_iff.2 h3⟩
end Go.Am
end
section
namespace Go.Am
open D12
variable {fl fl':List Int→Bool}
theorem split_at {l:List Cd} {i:Nat} {x:Cd} (h:l[i]?=some x):l=l.take i++x::l.drop (i+1)∧(l.take i).length=i:=by
 have hlt:i<l.length:=(eAd.1 h).1
 exact ⟨by rw [←v6m h,List.take_append_drop],by rw [eBv]; omega⟩
theorem v74 {l:List Cd} {i:Nat} {x:Cd} (h:l[i]?=some x):(v3k no l)[i]?=some (errC (st (l.take i)) x):=by
 obtain ⟨e,hl⟩:=split_at h
 have:=v85 (s:=no) (p:=l.take i) (q:=l.drop (i+1)) (c:=x)
 rw [←e,hl] at this
 exact this
theorem v8q {l m:List Cd} (h:z4y l=0) (he:Eqv l m):v4i l m=0:=by
 obtain ⟨h1,h2,h3,h4,h5⟩:=z22 h
 have dm:=v5f h he.1.symm
 unfold v4i
 rw [if_neg (not_not_intro (v3n.2 ⟨h,dm⟩)),if_neg (not_not_intro he.1),if_pos (v3h (z21 h2) he)]
end Go.Am
end
