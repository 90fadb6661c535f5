/- Texts of this claim. -/
import Derived.Test.YtejcgpekgbiooaaGreatDoorT1
import Derived.RangeFuncLeaves
import Derived.ReadAgain
import Derived.ChangeSame
import Derived.ChangeArms
import Derived.ChangeOld
import Derived.OpenShut
import Derived.WalkKit
import Derived.ProofKit
import Derived.Test.YtejcgpekgbiooaaGreatDoorRows
import Derived.Lib.LaidTab
import Derived.LaidLaws
import Derived.Shelf.Vars
import Derived.Orders
set_option linter.unusedVariables false
set_option linter.unusedSimpArgs false
set_option linter.unusedSectionVars false
set_option maxRecDepth 100000
set_option maxHeartbeats 0
open List renaming length_append → eBu,drop_drop → eCw,mem_cons → eAz,all_eq_true → eAr,getElem?_eq_some_iff → eAd,getElem?_append → eAs,getElem?_set → eBm,mem_singleton → eBe,getElem?_eq_getElem → eAa,getElem?_map → eAg,getElem?_replicate → eCf,getElem?_take_of_lt → eCl,getElem?_drop → eBp,mem_cons_self → eBq,mem_cons_of_mem → eCm,getElem?_toArray → eBc,getElem?_cons_zero → eCo,getElem?_cons_succ → eCe,ext_getElem? → eBd,getElem?_of_mem → eCd,length_eq_zero_iff → eBn,append_nil → eCn,getElem?_eq_none → eCt,mem_of_getElem? → eAu,append_assoc → eCg,length_cons → eBi,mem_flatten → eCj,mem_map → eBb,mem_append → eBj,getElem_mem → eCp,mem_range → eBo,getElem?_append_left → eBz,length_map → eBt,length_take → eBv
open Nat renaming add_mul → eAl,le_refl → eAk,le_of_ble_eq_true → eAf,eq_of_beq_eq_true → eAc,mul_le_mul_right → eAo,add_zero → eAt,mod_lt → eCr,mod_eq_of_lt → eCy,div_lt_iff_lt_mul → eCk,mul_comm → eCb,beq_refl → eCs,zero_le → eAv,ble_eq_true_of_le → eBg,zero_add → eAp,le_trans → eBf,lt_of_lt_of_le → eAn,add_assoc → eAy
open Bool renaming and_eq_true → eAb,false_eq_true → eAi,not_false → eCq,and_true → eCc,or_eq_true → eAq,not_eq_true' → eBy
open Array renaming getElem?_eq_some_iff → eAe,getElem?_toList → eAj,getElem?_modify → eBr,length_toList → eBa,getElem?_eq_getElem → eAm,getD_eq_getD_getElem? → eAh,getElem?_setIfInBounds → eBs
open Int renaming toNat_natCast → eCh
open Option renaming map_some → eBh,getD_some → eBk,map_eq_some_iff → eAw,bind_some → eAx
section
namespace Go.Am
section
variable {P:Program} {ρ:Rho} {h:List AO} {w:World}
def z4u:List SK→List Value→Prop
 |[],[]=>True
 | .i::ks, .int _ _::r=>z4u ks r
 | .b::ks, .bool _::r=>z4u ks r
 | .s::ks, .string _::r=>z4u ks r
 |_,_=>False
theorem y0u:∀ (ks:List SK) (xs:List Value),z4u ks xs→xs.length=ks.length
 |[],[],_=>rfl
 |[],_::_,h=>h.elim
 |k::ks,[],h=>by cases k<;>exact h.elim
 | .i::ks,x::xs,h=>by cases x<;>simp only [z4u] at h; simp [y0u ks xs h]
 | .b::ks,x::xs,h=>by cases x<;>simp only [z4u] at h; simp [y0u ks xs h]
 | .s::ks,x::xs,h=>by cases x<;>simp only [z4u] at h; simp [y0u ks xs h]
theorem w1b {O:Nat→Prop}:∀ (ks:List SK) (ds:List D) (xs:List Value),z04 ks ds=true→xs.length=ds.length→(∀ (j:Nat) (y:D) (u:Value),ds[j]?=some y→xs[j]?=some u→z02 O w y u)→z4u ks xs:=by
 intro ks
 induction ks with
 |nil=>intro ds xs h hl hr; cases ds<;>simp [z04] at h; cases xs<;>simp at hl; trivial
 |cons k ks ih=>
  intro ds xs h hl hr
  cases ds with
  |nil=>cases k<;>simp [z04] at h
  |cons d ds=>
  cases xs with
  |nil=>simp at hl
  |cons x xs=>
  have h0:=hr 0 d x rfl rfl
  have ht:∀ (hk:z04 ks ds=true),z4u ks xs:=fun hk=>ih ds xs hk (by simpa using hl) (fun j y u hy hu=>hr (j+1) y u (by simpa using hy) (by simpa using hu))
  cases k<;>cases d<;>simp [z04] at h<;>cases h0<;>exact ht h
theorem z92:∀ (k1 k2:List SK) (xs:List Value),z4u (k1++k2) xs→z4u k1 (xs.take k1.length)∧z4u k2 (xs.drop k1.length)
 |[],k2,xs,h=>⟨by simp [z4u],by simpa using h⟩
 |k::k1,k2,[],h=>by cases k<;>exact h.elim
 |k::k1,k2,x::xs,h=>by
  cases k<;>cases x<;>simp only [List.cons_append,z4u] at h
  all_goals (obtain ⟨a,b⟩:=z92 k1 k2 xs h; exact ⟨by simpa [z4u] using a,by simpa using b⟩)
theorem y5l (n d : Nat) (em : Bool) (ih : ∀ (t : TypeId) (ks : List SK) (x : Value) (xs : List Value) (w : World), z3j P n t = some ks → Holds P t x xs → z4u ks xs → (Instr.checkKey em d t x).run P w = .ok () w) :
  ∀ (fs : List Field) (off : Nat) (ks : List SK) (xs : List Value), w0t P (z3j P n) off fs = some ks → xs.length = off + ks.length → z4u ks (xs.drop off) →
   ((forIn fs PUnit.unit (fun f _ => (do
    if f.name ≠ "_" then
     Instr.checkKey em d f.type (← Go.part f.type xs.toArray f.offset)
     pure (.yield PUnit.unit)
    else pure (.yield PUnit.unit) : Sem (ForInStep PUnit)))) : Sem PUnit).run P w = .ok PUnit.unit w := by
 intro fs
 induction fs with
 | nil => intro off ks xs hr hx hk; simp
 | cons f fs ihf =>
  intro off ks xs hr hx hk
  simp only [w0t] at hr
  split at hr
  ·rename_i hc
   obtain ⟨hn, ho⟩ := hc
   split at hr
   ·rename_i k1 hk1
    split at hr
    ·rename_i hs
     cases hq : w0t P (z3j P n) (off + k1.length) fs with
     | none => rw [hq] at hr; cases hr
     | some k2 =>
     rw [hq] at hr; simp at hr; subst hr
     obtain ⟨a, ha⟩ := y0y hk1
     have h1 := y0x hk1 ha
     rw [eBu] at hx
     obtain ⟨vx, rx, hx1⟩ := z6n (P := P) hs ha xs off (by omega) h1
     obtain ⟨b1, b2⟩ := z92 _ _ _ hk
     rw [eCw] at b2
     have hq1 := ih f.type k1 vx _ w hk1 hx1 b1
     have hrest := ihf (off + k1.length) k2 xs hq (by omega) b2
     rw [← ho] at rx
     rw [List.forIn_cons]
     simp only [hn, ne_eq, not_false_eq_true, if_true, Sem.run_bind, rx, hq1, Result.andThen_ok, Sem.run_pure]
     exact hrest
    ·cases hr
   ·cases hr
  ·cases hr
theorem y5k (d:Nat) (em:Bool) (e:TypeId) (s:Nat) (a:Bool) (ks:List SK) (hks:ks.length=s) (hs:z78 P e=some s) (ha:z2y P e=some a) (h1:a=false→s=1)
  (ih:∀ (x:Value) (xs:List Value) (w:World),Holds P e x xs→z4u ks xs→(Instr.checkKey em d e x).run P w= .ok () w) (xs:List Value):
  ∀ (m i:Nat),xs.length=(i+m)*s→z4u (List.replicate m ks).flatten (xs.drop (i*s))→
   ((forIn (List.range' i m) PUnit.unit (fun i _=>(do
    Instr.checkKey em d e (←Go.part e xs.toArray (i*(←sizeOf e)))
    pure (.yield PUnit.unit):Sem (ForInStep PUnit)))):Sem PUnit).run P w= .ok PUnit.unit w:=by
 intro m
 induction m with
 |zero=>intro i hx hb; simp
 |succ m ihm=>
  intro i hx hb
  simp only [List.replicate_succ,List.flatten_cons] at hb
  have hmul:(i+(m+1))*s=i*s+s+m*s:=by rw [eAl,eAl]; omega
  obtain ⟨e1,e2⟩:=z92 _ _ _ hb
  rw [hks] at e1 e2
  rw [eCw] at e2
  obtain ⟨vx,rx,hx1⟩:=z6n (P:=P) hs ha xs (i*s) (by omega) h1
  have hq:=ih vx _ w hx1 e1
  have hrest:=ihm (i+1) (by rw [hx]; congr 1; omega) (by rw [eAl,Nat.one_mul]; exact e2)
  rw [List.range'_succ,List.forIn_cons]
  simp only [Sem.run_bind,z0v hs,rx,hq,Result.andThen_ok,Sem.run_pure]
  exact hrest
theorem x2z (em:Bool):∀ (n d:Nat),n≤d→∀ (t:TypeId) (ks:List SK) (x:Value) (xs:List Value) (w:World),z3j P n t=some ks→Holds P t x xs→z4u ks xs→
  (Instr.checkKey em d t x).run P w= .ok () w:=by
 intro n
 induction n with
 |zero=>intro d _ t ks x xs w hf; simp [z3j] at hf
 |succ n ih=>
  intro d hd t ks x xs w hf hx hk
  obtain ⟨d,rfl⟩:∃ e,d=e+1:=⟨d - 1,by omega⟩
  obtain ⟨a,ha,hs,hxa⟩:=hx
  unfold z2y at ha
  simp only [z3j] at hf
  split at hf
  rotate_left
  ·cases hf
  rename_i k0 hk0
  split at hf
  rotate_left
  ·cases hf
  cases hf
  have hlen:=y0u _ _ hk
  unfold x8p at hk0
  cases hu:P.underlying t with
  |none=>simp [hu] at ha
  |some ds=>
   simp [hu] at ha; subst ha
   rw [hu] at hk0
   cases ds<;>simp only at hk0<;>try (cases hk0; done)
   ·cases hk0; simp [Instr.checkKey,z0d hu]
   ·cases hk0; simp [Instr.checkKey,z0d hu]
   ·cases hk0; simp [Instr.checkKey,z0d hu]
   ·rename_i m e
    simp [z6i] at hxa; subst hxa
    cases hq:z3j P n e with
    |none=>rw [hq] at hk0; cases hk0
    |some ke=>
    rw [hq] at hk0; simp at hk0; subst hk0
    have hse:=z5e _ _ _ hq
    obtain ⟨ae,hae⟩:=y0y hq
    have:=y5k (P:=P) (w:=w) d em e ke.length ae ke rfl hse hae (y0x hq hae) (fun x xs w hx hk=>ih d (by omega) e ke x xs w hq hx hk) xs m 0
     (by rw [hlen]; simp) (by simpa using hk)
    simp only [Instr.checkKey,Sem.run_bind,z0d hu,Result.andThen_ok]
    rw [Std.Legacy.Range.forIn_eq_forIn_range']
    have hsize:([:m]:Std.Legacy.Range).size=m:=by simp [Std.Legacy.Range.size]
    rw [hsize]
    erw [this]
    simp
   ·rename_i fs
    simp [z6i] at hxa; subst hxa
    split at hk0
    ·cases hk0
    ·have:=y5l (P:=P) (w:=w) n d em (fun t ks x xs w hf hx hk=>ih d (by omega) t ks x xs w hf hx hk) fs.toList 0 _ xs hk0 (by simpa using hlen) (by simpa using hk)
     simp only [Instr.checkKey,Sem.run_bind,z0d hu,Result.andThen_ok]
     rw [←Array.forIn_toList]
     erw [this]
     simp
theorem w1v {T:TypeId} {ks:List SK} {a:Bool} (hf:z3j P 8 T=some ks) (ha:z2y P T=some a) {O:Nat→Prop} {x y:D} {vx vy:Value} (hx:z02 O w x vx) (hy:z02 O w y vy) (ex:z1h x=a) (ey:z1h y=a) {b:Bool}
  (hb:z05 std ks (z0q x) (z0q y)=some b):∃ xs ys,Holds P T vx xs∧Holds P T vy ys∧z7a ks xs ys=some b:=by
 have hsz:=z5e _ _ _ hf
 obtain ⟨l1,l2⟩:=y4n ks _ _ _ hb
 obtain ⟨xs,h1,h2,h3⟩:=y4g (P:=P) (T:=T) hx l1 hsz (by rw [ex]; exact ha)
 obtain ⟨ys,g1,g2,g3⟩:=y4g (P:=P) (T:=T) hy l2 hsz (by rw [ey]; exact ha)
 exact ⟨xs,ys,h1,g1,y6t ks _ _ xs ys b hb (h2.trans l1.symm) (g2.trans l2.symm) h3 g3⟩
theorem w5m:∀ (ks:List SK) (xs ys:List Value),z7a ks xs ys=some true→xs=ys∧z4u ks xs:=by
 intro ks
 induction ks with
 |nil=>intro xs ys h; cases xs<;>cases ys<;>simp [z7a] at h; exact ⟨rfl,trivial⟩
 |cons k ks ih=>
  intro xs ys h
  cases xs with
  |nil=>simp [z7a] at h
  |cons x xs=>
   cases ys with
   |nil=>simp [z7a] at h
   |cons y ys=>
    simp only [z7a] at h
    split at h
    ·rename_i a c h1 h2
     simp only [Option.some.injEq,eAb] at h
     obtain ⟨rfl,rfl⟩:=h
     obtain ⟨e,hk⟩:=ih xs ys h2
     subst e
     cases k
     ·obtain ⟨k,a,c,rfl,rfl,e⟩:=w7y h1
      have:a=c:=by simpa using e.symm
      subst this; exact ⟨rfl,hk⟩
     ·obtain ⟨a,c,rfl,rfl,e⟩:=w7z h1
      have:a=c:=by simpa using e.symm
      subst this; exact ⟨rfl,hk⟩
     ·obtain ⟨a,c,rfl,rfl,e⟩:=w7x h1
      have:a=c:=by
       have e':a.toList=c.toList:=by simpa using e.symm
       rw [ByteArray.toList_eq,ByteArray.toList_eq] at e'
       obtain ⟨⟨x⟩⟩:=a
       obtain ⟨⟨y⟩⟩:=c
       simp at e'; rw [e']
      subst this; exact ⟨rfl,hk⟩
    ·cases h
theorem y70 (n:Nat):∀ (ks:List SK) (xs:List Value),z4u ks xs→∀ v,v= .agg xs.toArray∨xs=[v]→Instr.sameBits (n+2) v v=true:=by
 have one:∀ (m:Nat) (k:SK) (ks:List SK) (x:Value) (xs:List Value),z4u (k::ks) (x::xs)→Instr.sameBits m x x=true∧z4u ks xs:=by
  intro m k ks x xs h
  cases k<;>cases x<;>simp only [z4u] at h
  all_goals exact ⟨by cases m<;>simp [Instr.sameBits,beq_toListBytes],h⟩
 have all:∀ (m:Nat) (ks:List SK) (xs:List Value),z4u ks xs→∀ x∈xs,Instr.sameBits m x x=true:=by
  intro m ks
  induction ks with
  |nil=>intro xs h x hx; cases xs with
   |nil=>cases hx
   |cons _ _=>exact h.elim
  |cons k ks ih=>intro xs h x hx; cases xs with
   |nil=>cases hx
   |cons y ys=>
    obtain ⟨a,b⟩:=one m k ks y ys h
    rcases eAz.1 hx with rfl|hx
    ·exact a
    ·exact ih ys b x hx
 intro ks xs h v hv
 rcases hv with rfl|rfl
 ·simp only [Instr.sameBits,beq_self_eq_true,Bool.true_and]
  rw [eAr]
  intro p hp
  have:p.1=p.2∧p.1∈xs:=by
   obtain ⟨i,hi,e⟩:=List.getElem_of_mem hp
   rw [List.getElem_zip] at e
   rw [←e]; simp
  rw [←this.1]
  exact all _ ks xs h _ this.2
 ·exact all _ ks _ h v (by simp)
theorem z5d {T:TypeId} {v:Value} {xs:List Value} (h:Holds P T v xs) (hv:∀ cs,v≠ .agg cs):xs=[v]:=by
 obtain ⟨a,_,_,h⟩:=h
 cases a with
 |true=>exact absurd h (hv _)
 |false=>simpa using h
theorem y8m {ks:List SK} {x y:Value} {b:Bool} (h:z7a ks [x] [y]=some b):∃ k,eq1 k x y=some b:=by
 cases ks with
 |nil=>simp [z7a] at h
 |cons k ks=>
  simp only [z7a] at h
  split at h
  ·rename_i a c h1 h2
   cases ks with
   |nil=>simp [z7a] at h2; subst h2; cases h; exact ⟨k,by simpa using h1⟩
   |cons _ _=>simp [z7a] at h2
  ·cases h
theorem y5y {ks:List SK} {T:TypeId} {vx vy:Value} {xs ys:List Value} {b c:Bool} (hx:Holds P T vx xs) (hy:Holds P T vy ys) (hb:z7a ks xs ys=some b) {d:TypeDesc} (h:Instr.sameNow d vx vy=some c):c=b:=by
 unfold Instr.sameNow at h
 split at h
 ·rename_i k a k' a'
  split at h
  ·rename_i hkk; subst hkk; cases h
   rw [z5d hx (by simp),z5d hy (by simp)] at hb
   obtain ⟨q,hq⟩:=y8m hb
   cases q<;>simp [eq1] at hq; exact hq
  ·cases h
 ·cases h
  rw [z5d hx (by simp),z5d hy (by simp)] at hb
  obtain ⟨q,hq⟩:=y8m hb
  cases q<;>simp [eq1] at hq
  rw [beq_toListBytes]; exact hq
 ·cases h
  rw [z5d hx (by simp),z5d hy (by simp)] at hb
  obtain ⟨q,hq⟩:=y8m hb
  cases q<;>simp [eq1] at hq; exact hq
 ·cases h
def z9q (O:Nat→Prop) (w:World) (es:List (D×D)) (en:List MapEntry):Prop:=
 en.length=es.length∧∀ (i:Nat) (k x:D),es[i]?=some (k,x)→∃ e:MapEntry,en[i]?=some e∧z02 O w k e.key∧z02 O w x e.val
theorem w5i {T:TypeId} {ks:List SK} {ka:Bool} (hf:z3j P 8 T=some ks) (ha:z2y P T=some ka) {O:Nat→Prop} {k:D} {vk:Value} (hk:z02 O w k vk) (d:TypeDesc):
  ∀ (es:List (D×D)) (en:List MapEntry) (i:Nat) (res:Option (Nat×D)),z9q O w es en→z4w std ks ka k es i=some res→
   ∃ r:Option (Nat×Value),(∀ r',Instr.findNow d vk en i=some r'→r'=r)∧(Instr.findAsking T vk en i).run P w= .ok r w∧
    match res with
    |none=>r=none
    |some (n,x)=>i≤n∧∃ k' e,r=some (n,e.val)∧es[n - i]?=some (k',x)∧en[n - i]?=some e∧z02 O w x e.val∧e.key=vk:=by
 intro es
 induction es with
 |nil=>
  intro en i res hr h
  simp [z4w] at h; subst h
  obtain ⟨hl,_⟩:=hr
  have:en=[]:=by simpa using hl
  subst this
  exact ⟨none,fun r' h=>by simp [Instr.findNow] at h; exact h.symm,by simp [Instr.findAsking],rfl⟩
 |cons p es ih=>
  intro en i res hr h
  obtain ⟨k',x⟩:=p
  obtain ⟨hl,hr⟩:=hr
  cases en with
  |nil=>simp at hl
  |cons e en=>
  obtain ⟨e0,he0,h1,h2⟩:=hr 0 k' x rfl
  simp at he0; subst he0
  simp only [z4w] at h
  cases hc:(z1h k==ka)&&(z1h k'==ka) with
  |false=>rw [hc] at h; cases h
  |true=>
  rw [hc] at h; simp only [cond_true] at h
  simp only [eAb,beq_iff_eq] at hc
  cases hb:z05 std ks (z0q k) (z0q k') with
  |none=>rw [hb] at h; cases h
  |some b=>
  obtain ⟨xs,ys,hx,hy,hxy⟩:=w1v hf ha hk h1 hc.1 hc.2 hb
  have hrun:=y6q (P:=P) 8 Op.maxDepth (by decide) T ks vk e.key xs ys b w hf hx hy hxy
  have hrun:(Op.equal T vk e.key).run P w= .ok b w:=hrun
  rw [hb] at h
  cases b with
  |true=>
   simp at h; subst h
   obtain ⟨rfl,hkv⟩:=w5m _ _ _ hxy
   have hv:vk=e.key:=by
    obtain ⟨a,ha1,_,hx⟩:=hx
    obtain ⟨a',ha2,_,hy⟩:=hy
    rw [ha1] at ha2; cases ha2
    cases a
    ·simp at hx hy; rw [hx] at hy; simpa using hy
    ·simp at hx hy; rw [hx,hy]
   refine ⟨some (i,e.val),fun r' hr'=>?_,by simp [Instr.findAsking,hrun],eAk _,k',e,rfl,by simp,by simp,h2,hv.symm⟩
   simp only [Instr.findNow] at hr'
   cases hsn:Instr.sameNow d vk e.key with
   |none=>rw [hsn] at hr'; cases hr'
   |some c=>
    have:=y5y hx hy hxy hsn
    subst this
    rw [hsn] at hr'; cases hr'; rfl
  |false=>
   simp only at h
   obtain ⟨r,f1,f2,f3⟩:=ih en (i+1) res ⟨by simpa using hl,fun j a c hj=>by
    have:=hr (j+1) a c (by simpa using hj); simpa using this⟩ h
   refine ⟨r,fun r' hr'=>?_,by simp [Instr.findAsking,hrun,f2],?_⟩
   ·simp only [Instr.findNow] at hr'
    cases hsn:Instr.sameNow d vk e.key with
    |none=>rw [hsn] at hr'; cases hr'
    |some c=>
     have:=y5y hx hy hxy hsn
     subst this
     rw [hsn] at hr'; exact f1 r' hr'
   ·cases res with
    |none=>exact f3
    |some q=>
     obtain ⟨n,y⟩:=q
     obtain ⟨g1,k2,e2,g2,g3,g4,g5,g6⟩:=f3
     refine ⟨by omega,k2,e2,g2,?_,?_,g5,g6⟩
     ·rw [show n - i=(n - (i+1))+1 by omega]; simpa using g3
     ·rw [show n - i=(n - (i+1))+1 by omega]; simpa using g4
theorem y6o {T:TypeId} {ks:List SK} {ka:Bool} (hf:z3j P 8 T=some ks) (ha:z2y P T=some ka) {O:Nat→Prop} {k:D} {vk:Value} (hk:z02 O w k vk) {es:List (D×D)} {en:List MapEntry} {res:Option (Nat×D)}
  (hr:z9q O w es en) (h:z4w std ks ka k es 0=some res):
  ∃ r:Option (Nat×Value),(Instr.findKey T vk en).run P w= .ok r w∧
   match res with
   |none=>r=none
   |some (n,x)=>∃ k' e,r=some (n,e.val)∧es[n]?=some (k',x)∧en[n]?=some e∧z02 O w x e.val∧e.key=vk:=by
 obtain ⟨d,hd⟩:∃ d,P.underlying T=some d:=by
  unfold z2y at ha
  cases hu:P.underlying T with
  |none=>simp [hu] at ha
  |some d=>exact ⟨d,rfl⟩
 obtain ⟨r,f1,f2,f3⟩:=w5i hf ha hk d es en 0 res hr h
 refine ⟨r,?_,?_⟩
 ·simp only [Instr.findKey,Sem.run_bind,z0d hd,Result.andThen_ok]
  cases hq:Instr.findNow d vk en 0 with
  |none=>simpa using f2
  |some r'=>have:=f1 r' hq; subst this; simp
 ·cases res with
  |none=>exact f3
  |some q=>
   obtain ⟨n,x⟩:=q
   obtain ⟨_,k',e,g⟩:=f3
   exact ⟨k',e,by simpa using g⟩
def y1x (O:Nat→Prop) (w:World) (es:List (D×D)) (en:Array MapEntry) (vk:Value) (r:Option (Nat×Value)):Option (Nat×D)→Prop
 |none=>r=none
 |some (n,x)=>∃ k' e,r=some (n,e.val)∧es[n]?=some (k',x)∧en[n]?=some e∧z02 O w x e.val∧e.key=vk
theorem z9e {T:TypeId} {ti:TI} (ht:z5t P T ti) (hr:z0a P ρ h w) {m k:AV} {vm vk:Value} (hm:z0i ρ (z0c ρ h) w m vm) (hk:z0i ρ (z0c ρ h) w k vk) {res:Option (Nat×D)} (hf:z2k std ti h m k=some res):
    ∃ (K E:TypeId) (ks:List SK) (ka:Bool) (ez:D),P.underlying T=some (.map K E)∧ti.desc= .map ks ka ez∧x6q P E=some ez∧(∃ d,k= .d d∧z02 (z0c ρ h) w d vk)∧(∀ em,(Instr.checkKey em 10000 K vk).run P w= .ok () w)∧(∀ old,old=vk→∀ w,(Instr.keyThatStays old vk).run P w= .ok vk w)∧
      ((vm= .map none∧res=none∧(Instr.findKey K vk []).run P w= .ok none w)∨
        ∃ id L es en clk,m= .map id∧vm= .map (some L.blk)∧ρ id=some L∧z0e h id= .map es∧w.heap[L.blk]?=some (.map en clk)∧z9q (z0c ρ h) w es en.toList∧∃ r:Option (Nat×Value),(Instr.findKey K vk en.toList).run P w= .ok r w∧
          y1x (z0c ρ h) w es en vk r res):=by
  obtain ⟨d,hd,hda,hkk⟩:=ht.desc
  have hf0:z2k std ti h m k=some res:=hf
  clear hf
  cases hdesc:ti.desc with
  |map ks ka ez=>
   cases k with
   |d kd=>
    have hf:(bif (z1h kd==ka)&&z04 ks (z0q kd) then match m with
      | .d .nilm=>some none
      | .map id=>match z0e h id with
        | .map es=>z4w std ks ka kd es 0
        |_=>none
      |_=>none
      else none)=some res:=by
      unfold z2k at hf0; rw [hdesc] at hf0; exact hf0
    clear hf0
    rw [hdesc] at hkk
    obtain ⟨K,E,rfl,hfl,hag,hz,hg⟩:=hkk
    cases hc:(z1h kd==ka)&&z04 ks (z0q kd) with
    |false=>rw [hc] at hf; cases hf
    |true=>
    rw [hc] at hf; simp only [cond_true] at hf
    simp only [eAb,beq_iff_eq] at hc
    cases hk with|d hk=>
    have hlen:(z0q kd).length=ks.length:=by
      have:∀ (ks:List SK) (ds:List D),z04 ks ds=true→ds.length=ks.length:=by
        intro ks
        induction ks with
        |nil=>intro ds h; cases ds<;>simp [z04] at h; rfl
        |cons k ks ih=>
          intro ds h
          cases ds with
          |nil=>cases k<;>simp [z04] at h
          |cons d ds=>cases k<;>cases d<;>simp [z04] at h<;>simp [ih ds h]
      exact this _ _ hc.2
    obtain ⟨xs,h1,h2,h3⟩:=y4g (P:=P) (T:=K) hk hlen (z5e _ _ _ hfl) (by rw [hc.1]; exact hag)
    have hkv:=w1b ks _ xs hc.2 (h2.trans hlen.symm) h3
    refine ⟨K,E,ks,ka,ez,hd,rfl,hz,⟨kd,rfl,hk⟩,fun em=>x2z em 8 10000 (by decide) K ks vk xs w hfl h1 hkv,?_,?_⟩
    · intro old ho w'
      subst ho
      have:Instr.sameBits 10000 old old=true:=y70 9998 ks xs hkv old (by
        obtain ⟨a,_,_,hx⟩:=h1
        cases a
        · exact .inr (by simpa using hx)
        · exact .inl (by simpa using hx))
      simp [Instr.keyThatStays,this]
    · split at hf
      · cases hf
        cases hm with|d hm=>
        cases hm
        refine .inl ⟨rfl,rfl,?_⟩
        obtain ⟨r,f1,f2⟩:=y6o hfl hag hk (es:=[]) (en:=[]) (res:=none) ⟨rfl,by simp⟩ rfl
        simp only at f2; subst f2; exact f1
      · rename_i id
        split at hf
        · rename_i es hob
          cases hm with
          |map _ L hL=>
            obtain ⟨_,ho⟩:=hr.obj id L hL
            rw [hob] at ho
            obtain ⟨en,clk,hcb,hl,hj⟩:=ho
            right
            have hent:z9q (z0c ρ h) w es en.toList:=⟨by simpa using hl.1,fun i k x hi=>by
              obtain ⟨e,he,a,b⟩:=hj i k x hi
              exact ⟨e,by simpa using he,a,b⟩⟩
            obtain ⟨r,f1,f2⟩:=y6o hfl hag hk hent hf
            refine ⟨id,L,es,en,clk,rfl,rfl,hL,hob,hcb,hent,r,f1,?_⟩
            cases res with
            |none=>exact f2
            |some q=>
              obtain ⟨n,x⟩:=q
              obtain ⟨k',e,a,b,c,d⟩:=f2
              exact ⟨k',e,a,b,by simpa using c,d⟩
        · cases hf
      · cases hf
   |_=>unfold z2k at hf0; rw [hdesc] at hf0; cases hf0
  |_=>unfold z2k at hf0; rw [hdesc] at hf0; cases hf0
theorem z14 {b:Nat} {en:Array MapEntry} {clk:Nat} (hb:w.heap[b]?=some (.map en clk)):(getObj b).run P w= .ok (.map en clk) w:=by simp [getObj,Sem.run,hb]
theorem z4h {b:Nat} {en en':Array MapEntry} {clk clk':Nat} (hb:w.heap[b]?=some (.map en clk)):(setObj b (.map en' clk')).run P w= .ok () (World.setObj w b (.map en' clk')):=by
 have:=(eAe.1 hb).1
 simp [setObj,Sem.run,hb,World.setObj]
def y81 (q:Bool) (r:List D) (x:Option (Option (Nat×D))):Prop:=
 (x=some none∧q=false)∨∃ i v v',x=some (some (i,v))∧v15 v v'∧q=true∧r=[.int .i64 (i:Nat),v']
theorem y20 {E:TypeId} {ez:D} (h:x6q P E=some ez) {O:Nat→Prop}:∃ v,(zeroValue E).run P w= .ok v w∧z02 O w ez v:=by
 unfold x6q at h
 cases hi:P.info? E with
 |none=>simp [hi] at h
 |some i=>
  simp [hi] at h
  cases hz:i.zero with
  |none=>simp [hz] at h
  |some z=>
   simp [hz] at h
   refine ⟨z,?_,x4m h O w⟩
   simp [zeroValue,typeInfo,Sem.program,Sem.run,program,hi,hz]
theorem x2d {v:AV} {r:Res} (h:ok v=some r):r=⟨true,v,[]⟩:=by unfold ok at h; cases h; rfl
theorem z7e {T:TypeId} {ti:TI} (ht:z5t P T ti) (hr:z0a P ρ h w) {new:Nat} {m k:AV} {vm vk:Value} (hm:z0i ρ (z0c ρ h) w m vm) (hk:z0i ρ (z0c ρ h) w k vk) {q:Bool} {r:List D} (hw:y81 q r (z2k std ti h m k)) {co:Bool} {res:Res}
  (hs:z4e ti q r co=some res):z0h P ρ h w new (Instr.lookup T vm vk co) res:=by
 have main:∀ (fr:Option (Nat×D)),z2k std ti h m k=some fr→∃ (v:Value) (ok:Bool) (ks:List SK) (ka:Bool) (ez:D),ti.desc= .map ks ka ez∧(Instr.lookup T vm vk co).run P w= .ok (if co then .tuple #[v, .bool ok] else v) w∧
   (match fr with|none=>ok=false∧z02 (z0c ρ h) w ez v|some (_,x)=>ok=true∧z02 (z0c ρ h) w x v):=by
  intro fr hfr
  obtain ⟨K,E,ks,ka,ez,hd,hdesc,hz,_,hck,_,hcase⟩:=z9e ht hr hm hk hfr
  obtain ⟨zv,hzr,hzd⟩:=y20 (P:=P) (w:=w) hz (O:=z0c ρ h)
  rcases hcase with ⟨rfl,rfl,hfk⟩|⟨id,L,es,en,clk,rfl,rfl,hL,hob,hcb,hent,rr,hfk,hres⟩
  ·exact ⟨zv,false,ks,ka,ez,hdesc,by simp [Instr.lookup,z0d hd,hck,hfk,hzr],rfl,hzd⟩
  ·cases fr with
   |none=>
    simp only [y1x] at hres; subst hres
    exact ⟨zv,false,ks,ka,ez,hdesc,by simp [Instr.lookup,z0d hd,z14 hcb,hck,hfk,hzr],rfl,hzd⟩
   |some p=>
    obtain ⟨n,x⟩:=p
    obtain ⟨k',e,rfl,_,_,hx,_⟩:=hres
    exact ⟨e.val,true,ks,ka,ez,hdesc,by simp [Instr.lookup,z0d hd,z14 hcb,hck,hfk],rfl,hx⟩
 have pack:∀ (d:D) (v:Value) (b:Bool),z02 (z0c ρ h) w d v→z0i ρ (z0c ρ h) w (bif co then .tuple [.d d, .d (.bool b)] else .d d) (if co then .tuple #[v, .bool b] else v):=by
  intro d v b hd
  cases co with
  |false=>exact .d hd
  |true=>
   refine .tuple _ _ rfl fun i x hx=>?_
   match i,hx with
   |0,hx=>cases hx; exact .d hd
   |1,hx=>cases hx; exact .d (.bool b)
   |i+2,hx=>simp at hx
 unfold z4e at hs
 split at hs
 ·rename_i ks ka ez hdesc
  rcases hw with ⟨hf,rfl⟩|⟨i,v,v',hf,hle,rfl,rfl⟩
  ·obtain ⟨zv,ok,_,_,ez',hd',hrun,rfl,hz⟩:=main _ hf
   rw [hdesc] at hd'; cases hd'
   simp only at hs; cases x2d hs
   exact z0h.pure hr hrun (pack _ _ _ hz)
  ·obtain ⟨zv,ok,_,_,ez',hd',hrun,rfl,hz⟩:=main _ hf
   simp only at hs; cases x2d hs
   exact z0h.pure hr hrun (pack _ _ _ (hz.le2 hle))
 ·cases hs
theorem z02.ofKeep {O O':Nat→Prop} {w w':World} (k:z3s O O' w w') {es:List (D×D)} {en:List MapEntry} (h:z9q O w es en):z9q O' w' es en:=
 ⟨h.1,fun i a c hi=>let ⟨e,he,x,y⟩:=h.2 i a c hi; ⟨e,he,x.keep k,y.keep k⟩⟩
theorem z0a.born (hr:z0a P ρ h w) {id:Nat} {L:Loc} (hL:ρ id=some L) {es:List (D×D)} (hob:z0e h id= .map es) {en:Array MapEntry} {clk:Nat} (hcb:w.heap[L.blk]?=some (.map en clk)):z2s en clk:=by
 obtain ⟨_,ho⟩:=hr.obj id L hL
 rw [hob] at ho
 obtain ⟨en',clk',hc,hl,_⟩:=ho
 rw [hcb] at hc
 cases hc
 exact hl.2
theorem map_set (hr:z0a P ρ h w) {id:Nat} {L:Loc} (hL:ρ id=some L) {es es':List (D×D)} (hob:z0e h id= .map es) {en:Array MapEntry} {clk:Nat} (hcb:w.heap[L.blk]?=some (.map en clk)) (en':Array MapEntry) (clk':Nat)
  (hrel:z9q (z0c ρ h) w es' en'.toList) (hbn:z2s en' clk') (new:Nat) (x:AV) (v:Value) (hx:∀ ρ O w,z0i ρ O w x v) {s:Sem Value} (hs:s.run P w= .ok v (World.setObj w L.blk (.map en' clk'))):z0h P ρ h w new s ⟨true,x,[(id, .map es')]⟩:=by
 have hlive:(z0e h id).live=true:=by rw [hob]; rfl
 have hbs:∀ m,z0t w L.blk=some m→z0t (World.setObj w L.blk (.map en' clk')) L.blk=some m:=by
  intro m hm; simp [z0t,hcb] at hm
 have hk:=z1d hr hL hlive (.map es') rfl _ hbs
 refine ⟨v,_,ρ,hs,hx _ _ _,hr.set hL hlive _ rfl _ hbs ?_,Ext.set _ hr hL hlive _ rfl _ hbs, .inl rfl⟩
 have:=z02.ofKeep hk hrel
 exact ⟨en',clk',z0l _ _ _ (eAe.1 hcb).1,⟨by simpa using this.1,hbn⟩,fun i k x hi=>by
  obtain ⟨e,he,a,b⟩:=this.2 i k x hi
  exact ⟨e,by simpa using he,a,b⟩⟩
theorem y7j {T:TypeId} {ti:TI} (ht:z5t P T ti) (hr:z0a P ρ h w) {new:Nat} {m k x:AV} {vm vk vx:Value} (hm:z0i ρ (z0c ρ h) w m vm) (hk:z0i ρ (z0c ρ h) w k vk) (hx:z0i ρ (z0c ρ h) w x vx) {q:Bool} {r:List D} (hw:y81 q r (z2k std ti h m k)) {res:Res}
  (hs:z3m std ti h q r m k x=some res):z0h P ρ h w new (z3x (Instr.mapUpdate T vm vk vx)) res:=by
 unfold z3m at hs
 split at hs
 ·rename_i ks ka ez id kd xd hdesc
  split at hs
  ·rename_i es hob
   cases hx with|d hx=>
   cases hk with|d hkd=>
   have go:∀ fr,z2k std ti h (.map id) (.d kd)=some fr→∃ (L:Loc) (en:Array MapEntry) (clk:Nat),ρ id=some L∧w.heap[L.blk]?=some (.map en clk)∧z2s en clk∧z9q (z0c ρ h) w es en.toList∧
     (Instr.mapUpdate T vm vk vx).run P w= .ok () (World.setObj w L.blk (match fr with|none=> .map (en.push { key:=vk,val:=vx,born:=clk }) (clk+1)|some (n,_)=> .map (en.modify n fun e=>{ key:=vk,val:=vx,born:=e.born }) clk))∧(∀ n y,fr=some (n,y)→n<es.length):=by
    intro fr hfr
    obtain ⟨K,E,ks,ka,ez,hd,_,hz,_,hck,hks,hcase⟩:=z9e ht hr hm (.d hkd) hfr
    rcases hcase with ⟨rfl,rfl,hfk⟩|⟨id',L,es',en,clk,e1,rfl,hL,hob',hcb,hent,rr,hfk,hres⟩
    ·cases hm
    ·cases e1
     rw [hob] at hob'; cases hob'
     refine ⟨L,en,clk,hL,hcb,hr.born hL hob hcb,hent,?_,?_⟩
     ·cases fr with
      |none=>
       simp only [y1x] at hres; subst hres
       simp [Instr.mapUpdate,z0d hd,z14 hcb,hck,hfk,z4h hcb]
      |some p=>
       obtain ⟨n,y⟩:=p
       obtain ⟨k',e,rfl,_,he,_,hek⟩:=hres
       have hkk:=hks e.key hek w
       simp [Instr.mapUpdate,z0d hd,z14 hcb,hck,hfk,he,hkk,z4h hcb]
     ·intro n y hn; subst hn
      obtain ⟨k',e,_,he,_⟩:=hres
      exact (eAd.1 he).1
   rcases hw with ⟨hf,rfl⟩|⟨i,v,v',hf,hle,rfl,rfl⟩
   ·cases hs
    obtain ⟨L,en,clk,hL,hcb,hbn,hent,hrun,_⟩:=go _ hf
    refine map_set hr hL hob hcb (en.push { key:=vk,val:=vx,born:=clk }) (clk+1) ⟨by simp [std]; simpa using hent.1,fun i a c hi=>?_⟩ (hbn.push _ _) new .bot undef (fun _ _ _=> .bot _) (by simp only [z3x,Sem.run_bind,hrun,Result.andThen_ok,Sem.run_pure])
    simp only [std] at hi
    rw [eAs] at hi
    simp only [Array.toList_push]
    rw [eAs,hent.1]
    split at hi
    ·rename_i hlt; rw [if_pos hlt]; exact hent.2 i a c hi
    ·rename_i hge
     rw [if_neg hge]
     have:i - es.length=0:=by
      cases hq:i - es.length with
      |zero=>rfl
      |succ n=>rw [hq] at hi; simp at hi
     rw [this] at hi⊢
     simp at hi; obtain ⟨rfl,rfl⟩:=hi
     exact ⟨_,rfl,hkd,hx⟩
   ·cases hs
    obtain ⟨L,en,clk,hL,hcb,hbn,hent,hrun,hlt⟩:=go _ hf
    have hlt:=hlt i v rfl
    refine map_set hr hL hob hcb (en.modify i fun e=>{ key:=vk,val:=vx,born:=e.born }) clk ⟨by simp [std]; simpa using hent.1,fun j a c hj=>?_⟩ (hbn.modify _ _ _) new .bot undef (fun _ _ _=> .bot _) (by simp only [z3x,Sem.run_bind,hrun,Result.andThen_ok,Sem.run_pure])
    simp only [std,eCh,eBm] at hj
    simp only [eAj,eBr]
    split at hj
    ·rename_i hij; subst hij
     first|rw [if_pos hlt] at hj|skip
     cases hj
     have:i<en.size:=by rw [←eBa,hent.1]; exact hlt
     simp only [if_true,eAm this,eBh]
     exact ⟨_,rfl,hkd,hx⟩
    ·rename_i hij
     rw [if_neg hij]
     simpa using hent.2 j a c hj
  ·cases hs
 ·cases hs
theorem y7m {T:TypeId} {ti:TI} (ht:z5t P T ti) (hr:z0a P ρ h w) {new:Nat} {m k:AV} {vm vk:Value} (hm:z0i ρ (z0c ρ h) w m vm) (hk:z0i ρ (z0c ρ h) w k vk) {q:Bool} {r:List D} (hw:y81 q r (z2k std ti h m k)) {res:Res} {ts:Array TypeId} {ty:TypeId} (hts:ts[0]?=some T)
  (hs:z3n std ti h q r m=some res):z0h P ρ h w new (Builtin.delete_ ts ty #[vm,vk]) res:=by
 have unit:∀ ρ O w,z0i ρ O w (.tuple []) (.tuple #[]):=fun _ _ _=> .tuple [] #[] rfl (fun i x hx=>by simp at hx)
 unfold z3n at hs
 split at hs
 ·rename_i ks ka ez id hdesc
  split at hs
  ·rename_i es hob
   have go:∀ fr,z2k std ti h (.map id) k=some fr→∃ (L:Loc) (en:Array MapEntry) (clk:Nat),ρ id=some L∧w.heap[L.blk]?=some (.map en clk)∧z2s en clk∧z9q (z0c ρ h) w es en.toList∧
     (Builtin.delete_ ts ty #[vm,vk]).run P w= .ok (.tuple #[]) (World.setObj w L.blk (match fr with|none=> .map en clk|some (n,_)=> .map (en.eraseIdxIfInBounds n) clk)):=by
    intro fr hfr
    obtain ⟨K,E,ks,ka,ez,hd,_,hz,_,hck,hks,hcase⟩:=z9e ht hr hm hk hfr
    rcases hcase with ⟨rfl,rfl,hfk⟩|⟨id',L,es',en,clk,e1,rfl,hL,hob',hcb,hent,rr,hfk,hres⟩
    ·cases hm
    ·cases e1
     rw [hob] at hob'; cases hob'
     refine ⟨L,en,clk,hL,hcb,hr.born hL hob hcb,hent,?_⟩
     cases fr with
     |none=>
      simp only [y1x] at hres; subst hres
      simp [Builtin.delete_,hts,z0d hd,z14 hcb,hck,hfk,z4h hcb]
     |some p=>
      obtain ⟨n,y⟩:=p
      obtain ⟨k',e,rfl,_,he,_,hek⟩:=hres
      simp [Builtin.delete_,hts,z0d hd,z14 hcb,hck,hfk,z4h hcb]
   rcases hw with ⟨hf,rfl⟩|⟨i,v,v',hf,hle,rfl,rfl⟩
   ·cases hs
    obtain ⟨L,en,clk,hL,hcb,hbn,hent,hrun⟩:=go _ hf
    exact map_set hr hL hob hcb _ _ hent hbn new _ _ unit hrun
   ·cases hs
    obtain ⟨L,en,clk,hL,hcb,hbn,hent,hrun⟩:=go _ hf
    have e1:(en.eraseIdxIfInBounds i).toList=en.toList.eraseIdx i:=by
     unfold Array.eraseIdxIfInBounds
     split
     ·simp
     ·rename_i hge; rw [List.eraseIdx_of_length_le (by simpa using hge)]
    refine map_set hr hL hob hcb _ _ ⟨?_,fun j a c hj=>?_⟩ (hbn.erase _) new _ _ unit hrun
    ·simp only [std,eCh,e1,List.length_eraseIdx,hent.1]
    ·rw [e1]
     simp only [std,eCh,List.getElem?_eraseIdx] at hj⊢
     split at hj
     ·rename_i hlt; rw [if_pos hlt]; exact hent.2 _ a c hj
     ·rename_i hlt; rw [if_neg hlt]; exact hent.2 _ a c hj
  ·cases hs
 ·cases hs
theorem y44 {T:TypeId} (hr:z0a P ρ h w) {new:Nat} (hn:ρ new=none) {x:Option AV} {v:Option Value} (hxv:x=none→v=none) {res:Res} (hs:z7d new x=some res):z0h P ρ h w new (Instr.makeMap T v) res:=by
 unfold z7d at hs
 split at hs
 ·cases hs
  rw [hxv rfl]
  have hrun:(Instr.makeMap T none).run P w= .ok (.map (some w.heap.size)) (World.push w (.map #[] 0)):=by
   simp [Instr.makeMap,newObj,Sem.run,World.push]
  have hnew:=hr.new hn 0 (.map []) (.map #[] 0) ⟨#[],0,z2v _ _,⟨rfl,z2s.empty _⟩,by simp⟩
  exact ⟨_,_,_,hrun, .map _ _ (Rho.put_same _ _ _),hnew,Ext.new hr hn _ _ _ rfl, .inr ⟨_,eBe.2 rfl⟩⟩
 ·cases hs
end
end Go.Am
end
section
namespace Go.Am
section
variable {P:Program} {ρ:Rho} {h:List AO} {w:World}
theorem z29 {id:Nat} {o:AO} (ho:z0e h id=o) (j:Nat):z0e (z0x h id o) j=z0e h j:=by
 by_cases hj:id=j
 ·subst hj; rw [z0g,ho]
 ·exact z0b _ _ _ _ hj
theorem y0r {id:Nat} {o:AO} (ho:z0e h id=o):z0c ρ (z0x h id o)=z0c ρ h:=by
 funext b; unfold z0c; simp only [z29 ho]
theorem z0a.ext0 (hr:z0a P ρ h w) {id:Nat} {o:AO} (ho:z0e h id=o):z0a P ρ (z0x h id o) w:=by
 refine ⟨fun j L hL=>?_,fun i i' L L' h1 h2 l1 l2=>hr.inj i i' L L' h1 h2 (by rw [←z29 ho]; exact l1) (by rw [←z29 ho]; exact l2),hr.fr,fun i L hL hl=>hr.sep i L hL (by rw [←z29 ho]; exact hl),hr.gl.sub fun b hb=>by rwa [←y0r ho]⟩
 have:=hr.obj j L hL
 rw [y0r ho,z29 ho]
 exact this
theorem ext0 {S:Nat→Prop} {id:Nat} {o:AO} (ho:z0e h id=o):Ext S ρ h w ρ (z0x h id o) w:=
 ⟨rfl,rfl,rfl,by rw [y0r ho]; exact z3s.refl _ _,fun _ _=>rfl,rfl,fun _ _=>rfl⟩
theorem y27 (es xs:List (List D)) (i:Nat):z4c (es.take i++xs++es.drop (i+xs.length))=z3w (z4c es) i (z4c xs):=by
 simp [z3w,z3g,List.map_take,List.map_drop]
theorem x1t {T:TypeId} {ti:TI} (ht:z5t P T ti) (hr:z0a P ρ h w) {new:Nat} {d s:AV} {vd vs:Value} (hd:z0i ρ (z0c ρ h) w d vd) (hs:z0i ρ (z0c ρ h) w s vs) {ts:Array TypeId} {ty:TypeId} (hts:ts[0]?=some T) {res:Res}
  (hst:z5x std ti h d s=some res) (hc:res.c=true):z0h P ρ h w new (Builtin.copy_ ts ty #[vd,vs]) res:=by
 obtain ⟨dd,hdd,hda,hk⟩:=ht.desc
 unfold z5x at hst
 split at hst
 ·rename_i e z eb ea ez hdesc
  rw [hdesc] at hk
  obtain ⟨rfl,hsz,_⟩:=hk
  cases hz:Nat.ble 1 z with
  |false=>rw [hz] at hst; cases hst
  |true=>
  rw [hz] at hst; simp only [cond_true] at hst
  have hzp:0<z:=eAf hz
  split at hst
  ·rename_i c xs id z' off len cap hels
   cases hb:Nat.beq z z' with
   |false=>rw [hb] at hst; cases hst
   |true=>
   rw [hb] at hst; simp only [cond_true] at hst
   have hzz:=eAc hb
   subst hzz
   split at hst
   ·rename_i es hob
    cases hst
    simp only at hc
    obtain ⟨h1,hc⟩:=and_true hc
    obtain ⟨h2,h3⟩:=and_true hc
    obtain ⟨a2,m,capx,cxs,rfl,hm,hmc,hxl,hxr,hxf⟩:=z8r (P:=P) hr hzp hs hels h1
    rw [←hm] at h2⊢
    have h2:m≤len:=z12 h2
    have h3:off+len≤es.length:=z12 h3
    have hcx:cxs.length=m*z:=by rw [hxr.1,hxl]
    cases hd with
    |nils _ _ _ _ a hcc=>
     have:m=0:=by omega
     subst this
     have hcx0:cxs=[]:=by simpa using hcx
     subst hcx0
     have hx0:xs=[]:=by
      have:xs.length=0:=by rw [←z0k]; exact hxl
      simpa using this
     subst hx0
     have hrun:(Builtin.copy_ ts ty #[.slice a 0 0, .slice a2 0 capx]).run P w= .ok (.int .i64 0) w:=by
      have:=hxf w rfl
      cases a<;>simp [Builtin.copy_,hts,z0d hdd,Builtin.lenOf,z0v hsz,this,storeCells,goInt]
     have hsame:(std.splice es off [])=es:=by simp [std]
     rw [hsame]
     refine ⟨_,w,ρ,hrun, .d (.int _ _),?_,?_, .inl rfl⟩
     ·exact hr.ext0 hob
     ·exact ext0 hob
    |slice _ _ _ _ _ L a cp hL hLz haa hcc hle=>
     obtain ⟨_,hobj⟩:=hr.obj id L hL
     have hE:(z0e h id).rows=some (z4c es):=by rw [hob]; rfl
     obtain ⟨_,cc,t,hcb,hl,hj⟩:=hobj.rows hE
     rw [hLz] at hl hj
     have hlive:(z0e h id).live=true:=by rw [hob]; rfl
     by_cases hm0:m=0
     ·subst hm0
      have hcx0:cxs=[]:=by simpa using hcx
      subst hcx0
      have hx0:xs=[]:=by
       have:xs.length=0:=by rw [←z0k]; exact hxl
       simpa using this
      subst hx0
      have hrun:(Builtin.copy_ ts ty #[.slice a len cp, .slice a2 0 capx]).run P w= .ok (.int .i64 0) w:=by
       have:=hxf w rfl
       cases a<;>simp [Builtin.copy_,hts,z0d hdd,Builtin.lenOf,z0v hsz,this,storeCells,goInt]
      have hsame:(std.splice es off [])=es:=by simp [std]
      rw [hsame]
      exact ⟨_,w,ρ,hrun, .d (.int _ _),hr.ext0 hob,ext0 hob, .inl rfl⟩
     ·have hElast:L.base+es.length*z≤cc.size:=by
       have hlt:es.length - 1<(z4c es).length:=by rw [z0k]; omega
       have hrl:=hl _ _ (eAa hlt)
       have hy:z - 1<((z4c es)[es.length - 1]).length:=by omega
       obtain ⟨v,hv,_,_⟩:=hj _ _ _ _ (eAa hlt) (eAa hy)
       have:=(eAe.1 hv).1
       have e:es.length*z=(es.length - 1)*z+z:=by
        rw [←Nat.succ_mul]; congr 1; omega
       omega
      have hmul2:(off+m)*z≤es.length*z:=eAo _ (by omega)
      have hmul3:(off+m)*z=off*z+m*z:=eAl _ _ _
      rw [haa (by omega),hLz]
      have hrun:(Builtin.copy_ ts ty #[.slice (some ⟨L.blk,L.base+off*z,none⟩) len cp, .slice a2 m capx]).run P w= .ok (.int .i64 m) (World.setObj w L.blk (.cells (cc.toList.take (L.base+off*z)++cxs++cc.toList.drop (L.base+off*z+cxs.length)).toArray t (0,0))):=by
       have hst:=run_storeCells_at (P:=P) L.blk (L.base+off*z) t cxs 0 cc w hcb (by simp; omega) (z89 hzp hxr)
       rw [z6d hcb] at hst
       simp only [eAt] at hst
       have hmin:Nat.min m len=m:=Nat.min_eq_left h2
       simp [Builtin.copy_,hts,z0d hdd,Builtin.lenOf,z0v hsz,hmin,hxf w rfl,hst,goInt]
      have hbs:∀ k,z0t w L.blk=some k→z0t (World.setObj w L.blk (.cells (cc.toList.take (L.base+off*z)++cxs++cc.toList.drop (L.base+off*z+cxs.length)).toArray t (0,0))) L.blk=some k:=by
       intro k hk
       rw [z0n hcb] at hk; cases hk
       rw [z0n (z0l _ _ _ (eAe.1 hcb).1)]
       congr 1
       simp; omega
      have hkp:=z1d hr hL hlive (.row (std.splice es off xs)) rfl _ hbs
      have hxl':(z4c xs).length=m:=hxl
      obtain ⟨r1,r2⟩:=z9z (w:=w) hzp (base:=L.base) (c:=cc) (i:=off) hl hj hxr (by show off+(z4c xs).length≤(z4c es).length; rw [z0k,z0k]; rw [z0k] at hxl'; omega) (by omega)
      have hrow':(AO.row (std.splice es off xs)).rows=some (z3w (z4c es) off (z4c xs)):=by
       show some (z4c _)=_; rw [←y27]; rfl
      refine ⟨_,_,ρ,hrun, .d (.int _ _),hr.set hL hlive _ rfl _ hbs ?_,Ext.set _ hr hL hlive _ rfl _ hbs, .inl rfl⟩
      refine z0u.of_rows hrow' (by omega) _ t (z0l _ _ _ (eAe.1 hcb).1) (by rw [hLz]; exact r1) (fun i r j y hi hy=>?_)
      rw [hLz]
      obtain ⟨v,hv,hv1,hvr⟩:=r2 i r j y hi hy
      exact ⟨v,hv,hv1,hvr.keep hkp (fun _ _ h=>h)⟩
   ·cases hst
  ·rename_i c xs full z' hels
   cases hst
   obtain ⟨a2,m,capx,cxs,rfl,hm,hmc,hxl,hxr,hxf⟩:=z8r (P:=P) hr hzp hs hels hc
   cases hd with|d hd=>
   cases hd with
   |lnil _ _ a cap hcap=>
    have hf:∃ c0:Array Value,(Builtin.firstCells z 0 (.slice a2 m capx)).run P w= .ok #[] w:=by
     cases a2<;>exact ⟨#[],by simp [Builtin.firstCells,loadCells,loadCellsFrom]⟩
    obtain ⟨_,hf⟩:=hf
    have hrun:(Builtin.copy_ ts ty #[.slice a 0 cap, .slice a2 m capx]).run P w= .ok (.int .i64 0) w:=by
     have hmin:Nat.min m 0=0:=Nat.min_zero m
     cases a<;>simp [Builtin.copy_,hts,z0d hdd,Builtin.lenOf,z0v hsz,hmin,hf,storeCells,goInt]
    exact z0h.pure hr hrun (.d (.int _ _))
   |list _ _ _ _ _ _ _ hne=>exact absurd rfl hne
  ·cases hst
 ·cases hst
theorem y9g {T:TypeId} {ti:TI} (ht:z5t P T ti) (hr:z0a P ρ h w) {new:Nat} {d:AV} {vd:Value} (hd:z0i ρ (z0c ρ h) w d vd) {ts:Array TypeId} {ty:TypeId} (hts:ts[0]?=some T) {res:Res}
  (hst:z4r std ti h d=some res) (hc:res.c=true):z0h P ρ h w new (Builtin.clear_ ts ty #[vd]) res:=by
 have unit:∀ ρ O w,z0i ρ O w (.tuple []) (.tuple #[]):=fun _ _ _=> .tuple [] #[] rfl (fun i x hx=>by simp at hx)
 obtain ⟨dd,hdd,hda,hk⟩:=ht.desc
 unfold z4r at hst
 split at hst
 ·rename_i e z eb ea ez hdesc
  rw [hdesc] at hk
  obtain ⟨rfl,hsz,heb,_,hez,hezl⟩:=hk
  cases hz:(Nat.ble 1 z&&z58 (toA ez)) with
  |false=>rw [hz] at hst; cases hst
  |true=>
  rw [hz] at hst; simp only [cond_true] at hst
  simp only [eAb] at hz
  have hzp:0<z:=eAf hz.1
  have hb3:=hz.2
  obtain ⟨i,zv,hi,hzv,hzl⟩:∃ i zv,P.info? e=some i∧i.zero=some zv∧y04 zv.cells.toList=some ez:=by
   unfold y21 at hez
   cases hi:P.info? e with
   |none=>simp [hi] at hez
   |some i=>
    rw [hi] at hez
    simp at hez
    cases hzq:i.zero with
    |none=>simp [hzq] at hez
    |some zv=>exact ⟨i,zv,rfl,hzq,by simpa [hzq] using hez⟩
  obtain ⟨hzs,hzr⟩:=z68 hzl
  have hzsize:zv.cells.size=z:=by rw [←hezl,hzs]; simp
  split at hst
  ·rename_i id z' off len cap
   cases hb:Nat.beq z z' with
   |false=>rw [hb] at hst; cases hst
   |true=>
   rw [hb] at hst; simp only [cond_true] at hst
   have hzz:=eAc hb
   subst hzz
   split at hst
   ·rename_i es hob
    cases hst
    simp only at hc
    have h3:off+len≤es.length:=z12 hc
    have hlive:(z0e h id).live=true:=by rw [hob]; rfl
    cases hd with
    |nils _ _ _ _ a hcc=>
     have hrun:(Builtin.clear_ ts ty #[.slice a 0 0]).run P w= .ok (.tuple #[]) w:=by
      cases a<;>simp [Builtin.clear_,hts,z0d hdd]
     have hsame:(std.splice es off (std.rep 0 ez))=es:=by simp [std]
     rw [hsame]
     exact ⟨_,w,ρ,hrun,unit _ _ _,hr.ext0 hob,ext0 hob, .inl rfl⟩
    |slice _ _ _ _ _ L a cp hL hLz haa hcc hle=>
     obtain ⟨_,hobj⟩:=hr.obj id L hL
     have hE:(z0e h id).rows=some (z4c es):=by rw [hob]; rfl
     obtain ⟨_,cc,t,hcb,hl,hj⟩:=hobj.rows hE
     rw [hLz] at hl hj
     by_cases hm0:len=0
     ·subst hm0
      have hrun:(Builtin.clear_ ts ty #[.slice a 0 cp]).run P w= .ok (.tuple #[]) w:=by
       cases a<;>simp [Builtin.clear_,hts,z0d hdd]
      have hsame:(std.splice es off (std.rep 0 ez))=es:=by simp [std]
      rw [hsame]
      exact ⟨_,w,ρ,hrun,unit _ _ _,hr.ext0 hob,ext0 hob, .inl rfl⟩
     ·have hElast:L.base+es.length*z≤cc.size:=by
       have hlt:es.length - 1<(z4c es).length:=by rw [z0k]; omega
       have hrl:=hl _ _ (eAa hlt)
       have hy:z - 1<((z4c es)[es.length - 1]).length:=by omega
       obtain ⟨v,hv,_,_⟩:=hj _ _ _ _ (eAa hlt) (eAa hy)
       have:=(eAe.1 hv).1
       have e:es.length*z=(es.length - 1)*z+z:=by
        rw [←Nat.succ_mul]; congr 1; omega
       omega
      have hmul2:(off+len)*z≤es.length*z:=eAo _ (by omega)
      have hmul3:(off+len)*z=off*z+len*z:=eAl _ _ _
      rw [haa (by omega),hLz]
      have hcell:∀ k,k<len*z→(Builtin.zeroCells zv.cells len)[k]?=zv.cells[k % z]?:=by
       intro k hk
       have:k % z<zv.cells.size:=by rw [hzsize]; exact eCr _ hzp
       unfold Builtin.zeroCells
       rw [hzsize]
       simp [hk,getElem!_pos zv.cells (k % z) this]
      have hcx:(Builtin.zeroCells zv.cells len).toList.length=len*z:=by simp [Builtin.zeroCells,hzsize]
      have hxl:(z4c (std.rep len ez)).length=len:=by rw [z0k]; simp [std]
      have hxr:z15 ρ (z0c ρ h) w z (z4c (std.rep len ez)) (Builtin.zeroCells zv.cells len).toList:=by
       refine ⟨by rw [hcx,hxl],fun i r hi=>?_,fun i r j y hi hy=>?_⟩
       ·rw [z3g,eAg] at hi
        simp [std,eCf] at hi
        rw [←hi.2,z0o]; exact hezl
       ·rw [z3g,eAg] at hi
        simp [std,eCf] at hi
        obtain ⟨hi1,rfl⟩:=hi
        rw [z03] at hy
        cases hey:ez[j]? with
        |none=>rw [hey] at hy; cases hy
        |some d0=>
        rw [hey] at hy; cases hy
        have hjz:j<z:=by rw [←hezl]; exact (eAd.1 hey).1
        obtain ⟨v,hv,hrel⟩:=hzr (z0c ρ h) w j d0 hey
        have hlt:i*z+j<len*z:=by
         have:(i+1)*z≤len*z:=eAo _ (by omega)
         rw [eAl] at this; omega
        have hmod:(i*z+j) % z=j:=by rw [Nat.add_comm,Nat.add_mul_mod_self_right]; exact eCy hjz
        refine ⟨v,?_,?_, .d hrel⟩
        ·rw [eAj,hcell _ hlt,hmod]; simpa using hv
        ·have:x95 (.d d0)=true:=z61 hb3 (by rw [z03,hey]; rfl)
         exact y0t (ρ:=ρ) this (.d hrel)
      generalize hcxs:(Builtin.zeroCells zv.cells len).toList=cxs at hcx hxr
      have hrun:(Builtin.clear_ ts ty #[.slice (some ⟨L.blk,L.base+off*z,none⟩) len cp]).run P w= .ok (.tuple #[]) (World.setObj w L.blk (.cells (cc.toList.take (L.base+off*z)++cxs++cc.toList.drop (L.base+off*z+cxs.length)).toArray t (0,0))):=by
       have hst:=run_storeCells_at (P:=P) L.blk (L.base+off*z) t cxs 0 cc w hcb (by simp; omega) (z89 hzp hxr)
       rw [z6d hcb] at hst
       simp only [eAt] at hst
       simp [Builtin.clear_,hts,z0d hdd,hm0,zeroValue,typeInfo,hi,hzv,hcxs,hst]
      have hbs:∀ k,z0t w L.blk=some k→z0t (World.setObj w L.blk (.cells (cc.toList.take (L.base+off*z)++cxs++cc.toList.drop (L.base+off*z+cxs.length)).toArray t (0,0))) L.blk=some k:=by
       intro k hk
       rw [z0n hcb] at hk; cases hk
       rw [z0n (z0l _ _ _ (eAe.1 hcb).1)]
       congr 1
       simp; omega
      have hkp:=z1d hr hL hlive (.row (std.splice es off (std.rep len ez))) rfl _ hbs
      obtain ⟨r1,r2⟩:=z9z (w:=w) hzp (base:=L.base) (c:=cc) (i:=off) hl hj hxr (by show off+(z4c (std.rep len ez)).length≤(z4c es).length; rw [hxl,z0k]; omega) (by omega)
      have hrow':(AO.row (std.splice es off (std.rep len ez))).rows=some (z3w (z4c es) off (z4c (std.rep len ez))):=by
       show some (z4c _)=_; rw [←y27]; rfl
      refine ⟨_,_,ρ,hrun,unit _ _ _,hr.set hL hlive _ rfl _ hbs ?_,Ext.set _ hr hL hlive _ rfl _ hbs, .inl rfl⟩
      refine z0u.of_rows hrow' (by omega) _ t (z0l _ _ _ (eAe.1 hcb).1) (by rw [hLz]; exact r1) (fun i r j y hi hy=>?_)
      rw [hLz]
      obtain ⟨v,hv,hv1,hvr⟩:=r2 i r j y hi hy
      exact ⟨v,hv,hv1,hvr.keep hkp (fun _ _ h=>h)⟩
   ·cases hst
  ·rename_i full z'
   cases x2d hst
   cases hd with|d hd=>
   cases hd with
   |lnil _ _ a cap hcap=>
    have hrun:(Builtin.clear_ ts ty #[.slice a 0 cap]).run P w= .ok (.tuple #[]) w:=by
     cases a<;>simp [Builtin.clear_,hts,z0d hdd]
    exact z0h.pure hr hrun (unit _ _ _)
   |list _ _ _ _ _ _ _ hne=>exact absurd rfl hne
  ·cases hst
 ·cases hst
end
end Go.Am
end
section
namespace Go.Am
section
variable {P:Program} {ρ:Rho} {h:List AO} {w:World}
theorem w2d {c:Array Value} {t:TypeId} {b k:Nat} {v:Value} (hb:w.heap[b]?=some (.cells c t (0,0))) (hv:c[k]?=some v):w.cell? ⟨b,k,none⟩=some v:=by
 simp [World.cell?,hb,hv]
theorem w0c {id z off len:Nat} {cap:Option Nat} {es:List (List D)} {v:Value} (hr:z0a P ρ h w) (hv:z0i ρ (z0c ρ h) w (.slice id z off len cap) v) (hes:z0e h id= .row es) (hc:off+len≤es.length):
  z0i ρ (z0c ρ (z0x h id .dead)) w (.d (.list false z (std.cut es off len))) v:=by
 have hx:=Ext.kill (fun _=>True) ρ h w id
 have hk:=hx.keep
 have hcut:std.cut es off len=(es.drop off).take len:=rfl
 rw [hcut]
 cases hv with
 |nils _ _ _ _ a hc=>rw [List.take_zero]; exact .d (.lnil _ _ _ _ (by simp))
 |slice _ _ _ _ _ L a c hL hz ha hcc hl=>
  obtain ⟨hblk,hob⟩:=hr.obj id L hL
  rw [hes] at hob
  obtain ⟨hz0,cs,t,hcs,hrows,hcell⟩:=hob
  refine .d ?_
  rcases Nat.eq_zero_or_pos len with h0|hpos
  ·subst h0
   rw [List.take_zero]; exact .lnil _ _ _ _ (by simp)
  have hll:((es.drop off).take len).length=len:=by simp; omega
  have hnth:∀ i r,((es.drop off).take len)[i]?=some r→i<len∧es[off+i]?=some r:=by
   intro i r hi
   have hlt:i<len:=by rw [←hll]; exact (eAd.1 hi).1
   refine ⟨hlt,?_⟩
   rw [eCl hlt,eBp] at hi
   exact hi
  have hex:∀ k,k<len*z→∃ u,cs[L.base+off*z+k]?=some u∧u.oneCell'=true∧∀ d,(∃ r,((es.drop off).take len)[k / z]?=some r∧r[k % z]?=some d)→z02 (z0c ρ (z0x h id .dead)) w d u:=by
   intro k hkz
   subst hz
   have hi:k / L.esz<len:=(eCk hz0).2 hkz
   have hlt:k / L.esz<((es.drop off).take len).length:=by rw [hll]; exact hi
   have he:=(hnth (k / L.esz) _ (eAa hlt)).2
   generalize ((es.drop off).take len)[k / L.esz]=r at he
   have hrl:=hrows _ r he
   have hj:k % L.esz<r.length:=by rw [hrl]; exact eCr _ hz0
   obtain ⟨u,hu,h1,hd⟩:=hcell _ r _ r[k % L.esz] he (eAa hj)
   have hix:L.base+(off+k / L.esz)*L.esz+k % L.esz=L.base+off*L.esz+k:=by
    have:=Nat.div_add_mod k L.esz
    rw [eAl,eCb (k / L.esz)]; omega
   rw [hix] at hu
   refine ⟨u,hu,h1,fun d hd'=>?_⟩
   obtain ⟨r',hr',hdr⟩:=hd'
   have:=(hnth _ _ hr').2
   rw [he] at this; cases this
   rw [eAa hj] at hdr; cases hdr
   exact hd.keep hk
  have ha':a=some ⟨L.blk,L.base+off*L.esz,none⟩:=ha (by omega)
  subst hz
  subst ha'
  have hown:¬ z0c ρ (z0x h id .dead) L.blk:=by
   rintro (hf|⟨id',L',h2,hl',he⟩)
   ·exact hr.sep id L hL (by rw [hes]; rfl) hf
   ·have hne:id≠id':=by rintro rfl; rw [z0g] at hl'; cases hl'
    rw [z0b _ _ _ _ hne] at hl'
    exact hne (hr.inj id' id L' L h2 hL hl' (by rw [hes]; rfl) he).symm
  have key:=z02.list (O:=z0c ρ (z0x h id .dead)) (w:=w) false ((es.drop off).take len) L.blk (L.base+off*L.esz) L.esz c hz0
   (by intro e; rw [e] at hll; simp at hll; omega) hown (by rw [hll]; exact hl) (by simp) (fun i r hi=>hrows _ r (hnth i r hi).2)
   (fun k=>(cs[L.base+off*L.esz+k]?).getD undef) (fun k hkk=>?_) (fun k hkk=>?_) (fun i r j d hi hj=>?_)
  ·rw [hll] at key; exact key
  ·rw [hll] at hkk
   obtain ⟨u,hu,h1,_⟩:=hex k hkk
   rw [hu]; exact h1
  ·rw [hll] at hkk
   obtain ⟨u,hu,h1,_⟩:=hex k hkk
   rw [hu]; exact w2d hcs hu
  ·have hjl:j<L.esz:=by rw [←hrows _ r (hnth i r hi).2]; exact (eAd.1 hj).1
   have hil:=(hnth i r hi).1
   have hkk:i*L.esz+j<len*L.esz:=by
    have:(i+1)*L.esz≤len*L.esz:=eAo _ (by omega)
    rw [eAl,Nat.one_mul] at this; omega
   obtain ⟨u,hu,_,hd⟩:=hex _ hkk
   rw [hu]
   refine hd d ⟨r,?_,?_⟩
   ·rw [show (i*L.esz+j) / L.esz=i by rw [eCb,Nat.mul_add_div hz0,Nat.div_eq_of_lt hjl,eAt]]; exact hi
   ·rw [show (i*L.esz+j) % L.esz=j by rw [eCb,Nat.mul_add_mod,eCy hjl]]; exact hj
theorem x4g {id:Nat} {o:AO}:∀ (u:List (Nat×AO)) (h:List AO) (a:Option AO),(∀ x,a=some x→z0e h id=x)→x2s u id a=some o→z0e (z06 h u) id=o
 |[],h,a,ha,hf=>ha o hf
 |(i,x)::r,h,a,ha,hf=>by
  simp only [x2s] at hf
  simp only [z06]
  refine x4g r (z0x h i x) _ (fun y hy=>?_) hf
  cases hb:Nat.beq i id with
  |true=>
   rw [hb] at hy
   cases hy
   have:=eAc hb
   subst this
   exact z0g _ _ _
  |false=>
   rw [hb] at hy
   have hne:i≠id:=by rintro rfl; rw [eCs] at hb; cases hb
   rw [z0b _ _ _ _ hne]
   exact ha y hy
theorem x0k {id:Nat} {o:AO}:∀ (u:List (Nat×AO)) (a:Option AO),x2s u id a=some o→a=some o∨∃ o',(id,o')∈u
 |[],a,hf=> .inl hf
 |(i,x)::r,a,hf=>by
  simp only [x2s] at hf
  rcases x0k r _ hf with h|⟨o',h⟩
  ·cases hb:Nat.beq i id with
   |true=>
    have:=eAc hb
    subst this
    exact .inr ⟨x,eBq ..⟩
   |false=>rw [hb] at h; exact .inl h
  ·exact .inr ⟨o',eCm _ h⟩
theorem z7w (x:Nat×AO):∀ (u:List (Nat×AO)) (h:List AO),z06 h (u++[x])=z0x (z06 h u) x.1 x.2
 |[],h=>rfl
 |y::u,h=>z7w x u _
theorem x5k {v:AV} {id z off len:Nat} (h:y3m v=some (id,z,off,len)):∃ cap,v= .slice id z off len cap:=by
 cases v<;>cases h; exact ⟨_,rfl⟩
theorem y9x {o:AO} {es:List (List D)} (h:y9y o=some es):o= .row es:=by
 cases o<;>cases h; rfl
theorem z8n (r:List D) (res:Res):y15 std r res=res∨∃ id z off len cap es o',res.v= .slice id z off len cap∧(∀ h,z0e (z06 h res.u) id= .row es)∧(id,o')∈res.u∧
  y15 std r res=⟨std.and res.c (std.leN (std.add off len) (std.len es)), .d (.list false z (std.cut es off len)),res.u++[(id, .dead)]⟩:=by
 unfold y15
 cases two r with
 |false=>exact .inl rfl
 |true=>
  simp only [cond_true]
  cases h1:y3m res.v with
  |none=>exact .inl rfl
  |some x=>
   obtain ⟨id,z,off,len⟩:=x
   simp only
   cases h2:x2s res.u id none with
   |none=>exact .inl rfl
   |some o=>
    simp only
    cases h3:y9y o with
    |none=>exact .inl rfl
    |some es=>
     obtain ⟨cap,hv⟩:=x5k h1
     have ho:=y9x h3
     subst ho
     rcases x0k _ _ h2 with h|⟨o',hm⟩
     ·cases h
     exact .inr ⟨id,z,off,len,cap,es,o',hv,fun h=>x4g _ h none (fun x hx=>by cases hx) h2,hm,rfl⟩
theorem x4d {r:List D} {res:Res} (h:(y15 std r res).c=true):res.c=true:=by
 rcases z8n r res with e|⟨id,z,off,len,cap,es,o',_,_,_,e⟩
 ·rw [e] at h; exact h
 ·rw [e] at h
  have h:(res.c&&std.leN (std.add off len) (std.len es))=true:=h
  rw [eAb] at h; exact h.1
theorem x0j {r:List D} {res:Res} {new:Nat} {s:Sem Value} (hr:z0h P ρ h w new s res) (hc:(y15 std r res).c=true):z0h P ρ h w new s (y15 std r res):=by
 rcases z8n r res with e|⟨id,z,off,len,cap,es,o',hv,hes,hm,e⟩
 ·rw [e]; exact hr
 ·rw [e] at hc⊢
  have hc:(res.c&&std.leN (std.add off len) (std.len es))=true:=hc
  rw [eAb] at hc
  have hle:off+len≤es.length:=eAf hc.2
  obtain ⟨v,w',ρ',a1,a2,a3,a4,a5⟩:=hr
  rw [hv] at a2
  have key:=w0c a3 a2 (hes h) hle
  refine ⟨v,w',ρ',a1,?_,?_,?_,?_⟩
  ·show z0i ρ' (z0c ρ' (z06 h (res.u++[(id, .dead)]))) w' _ v
   rw [z7w]; exact key
  ·show z0a P ρ' (z06 h (res.u++[(id, .dead)])) w'
   rw [z7w]; exact a3.kill id
  ·show Ext _ ρ h w ρ' (z06 h (res.u++[(id, .dead)])) w'
   rw [z7w]; exact a4.trans (Ext.kill _ ρ' _ w' id)
  ·rcases a5 with h5|⟨o,h5⟩
   ·exact .inl h5
   ·exact .inr ⟨o,List.mem_append_left _ h5⟩
theorem y9r {v:AV} {id z off len c:Nat} (h:x29 v=some (id,z,off,len,c)):v= .slice id z off len (some c):=by
 cases v with
 |slice id z off len cap=>cases cap<;>cases h; rfl
 |_=>cases h
theorem w5t {e:Els} {ys:List (List D)} (h:v1j e=some ys):e= .d ys:=by
 cases e<;>cases h; rfl
theorem y3a {ti:TI} {s x:AV} {res:Res} (hs:y2b std ti h s x=some res):∃ e z eb ea ez id z0 off len c cx cs es0 es ys,ti.desc= .slc e z eb ea ez∧(Nat.ble 1 z&&Nat.ble eb 60000)=true∧s= .slice id z0 off len (some c)∧z2a std z h x=some (cx, .d ys)∧z2a std z h s=some (cs,es0)∧z0e h id= .row es∧
  res=⟨std.and cx (std.and cs (std.leN (std.add off c) (std.len es))), .slice id z off (std.add len (z56 std x)) (some c),[(id, .row (std.splice es (std.add off len) ys))]⟩:=by
 unfold y2b at hs
 cases hd:ti.desc with
 |slc e z eb ea ez=>
  rw [hd] at hs
  simp only at hs
  cases hb:(Nat.ble 1 z&&Nat.ble eb 60000) with
  |false=>rw [hb] at hs; cases hs
  |true=>
   rw [hb] at hs
   simp only [cond_true] at hs
   cases h1:x29 s with
   |none=>rw [h1] at hs; cases hs
   |some y=>
    obtain ⟨id,z0,off,len,c⟩:=y
    rw [h1] at hs
    simp only at hs
    cases h2:z2a std z h x with
    |none=>rw [h2] at hs; cases hs
    |some y=>
     obtain ⟨cx,xs⟩:=y
     rw [h2] at hs
     simp only at hs
     cases h3:z2a std z h s with
     |none=>rw [h3] at hs; cases hs
     |some y=>
      obtain ⟨cs,es0⟩:=y
      rw [h3] at hs
      simp only at hs
      cases h4:y9y (z0e h id) with
      |none=>rw [h4] at hs; cases hs
      |some es=>
       rw [h4] at hs
       simp only at hs
       cases h5:v1j xs with
       |none=>rw [h5] at hs; cases hs
       |some ys=>
        rw [h5] at hs
        cases hs
        have:=w5t h5
        subst this
        exact ⟨e,z,eb,ea,ez,id,z0,off,len,c,cx,cs,es0,es,ys,rfl,hb,y9r h1,h2,h3,y9x h4,rfl⟩
 |_=>rw [hd] at hs; cases hs
theorem z8d {S T2:TypeId} {e:TypeId} (hS:P.underlying S=some (.slice e)) {d2:TypeDesc} (h2:P.underlying T2=some d2) (hd2:∀ k,d2≠ .int k) {z:Nat} (hz:z78 P e=some z)
  (ty:TypeId) {a a2:Option Addr} {n cap cap2:Nat} (hx:(Builtin.firstCells z 0 (.slice a2 0 cap2)).run P w= .ok #[] w) (hm:n≤cap):
  (Builtin.append_ #[S,T2] ty #[.slice a n cap, .slice a2 0 cap2]).run P w= .ok (.slice a n cap) w:=by
 have hmatch:(match d2 with| .int _=>true|_=>false)=false:=by
  cases d2<;>first|rfl|exact absurd rfl (hd2 _)
 unfold Builtin.append_
 cases a with
 |none=>
  simp only [eBc,eCo,eCe,Sem.run_bind,z0d hS,Result.andThen_ok,z0v hz,z0d h2,Sem.run_pure,hmatch,Builtin.lenOf,eAi,if_false,Sem.run_ite,hm,eAt,if_true,
   eCq,hx]
 |some a=>
  simp only [eBc,eCo,eCe,Sem.run_bind,z0d hS,Result.andThen_ok,z0v hz,z0d h2,Sem.run_pure,hmatch,Builtin.lenOf,eAi,if_false,Sem.run_ite,hm,eAt,if_true,
   eCq,hx]
  rfl
theorem w0i {S T2:TypeId} {ti ti2:TI} (ht:z5t P S ti) (ht2:z5t P T2 ti2) (hd2':∃ e z b a zs,ti2.desc= .slc e z b a zs) (hr:z0a P ρ h w) {new:Nat} (hn:ρ new=none) {q:Bool} {s x:AV} {vs vx:Value}
  (hs:z0i ρ (z0c ρ h) w s vs) (hx:z0i ρ (z0c ρ h) w x vx) {ty:TypeId} {res:Res} (hq:∀ b,z3l std s x=some b→b=q) (hqt:q=true) (r:List D) (he:y2b std ti h s x=some res) (hc:res.c=true):
  z0h P ρ h w new (Builtin.append_ #[S,T2] ty #[vs,vx]) res:=by
 obtain ⟨e,z,eb,ea,ez,id,z0,off,len,c,cx,cs,es0,es,ys,hdesc,hb,rfl,hxs,hes,hrow,rfl⟩:=y3a he
 have hc0:=hc
 simp only at hc
 obtain ⟨h1,hc⟩:=and_true hc
 obtain ⟨h2,h3⟩:=and_true hc
 rcases Nat.eq_zero_or_pos (z56 std x) with h0|hpos
 ·obtain ⟨d,hd,hda,hk⟩:=ht.desc
  obtain ⟨d2,hdd2,_,hk2⟩:=ht2.desc
  obtain ⟨e2,z2,b2,a2,zs2,hdesc2⟩:=hd2'
  rw [hdesc2] at hk2
  obtain ⟨rfl,_⟩:=hk2
  have hint:∀ k,TypeDesc.slice e2≠ .int k:=by intro k; simp
  rw [hdesc] at hk
  obtain ⟨rfl,hz,heb,_,hez,hezl⟩:=hk
  simp only [eAb] at hb
  have hzp:0<z:=eAf hb.1
  obtain ⟨ax,m,capx,cxs,rfl,hm,hmc,hxl,hxr,hxf⟩:=z8r (P:=P) hr hzp hx hxs h1
  rw [h0] at hm
  subst hm
  have hys:ys=[]:=by
   cases ys with
   |nil=>rfl
   |cons a b=>simp [Els.toA,z4c] at hxl
  subst hys
  have hcx:cxs=[]:=by
   have:=hxr.1
   rw [hxl] at this
   simpa using this
  subst hcx
  have hsp:std.splice es (std.add off len) []=es:=by
   show es.take (off+len)++[]++es.drop (off+len+([]:List (List D)).length)=es
   simp
  obtain ⟨rfl,E,hE,hoff,hels⟩:=z99 hes h2
  have hgo:∃ a n cap,vs= .slice a n cap∧n≤cap:=by
   cases hs with
   |nils _ _ _ _ a hcc=>exact ⟨_,_,_,rfl,eAv _⟩
   |slice _ _ _ _ _ L a cap hL hLz haa hcc hle=>exact ⟨_,_,_,rfl,hle⟩
  obtain ⟨a,n,cap,rfl,hle⟩:=hgo
  have hrun:=z8d (P:=P) (w:=w) hd hdd2 hint hz ty (a:=a) (hxf w rfl) hle
  refine ⟨_,w,ρ,hrun,?_,?_,?_, .inl rfl⟩
  ·show z0i ρ (z0c ρ (z0x h id (.row (std.splice es (std.add off len) [])))) w (.slice id z off (len+z56 std x) (some c)) _
   rw [hsp,y0r hrow,h0]
   exact hs
  ·show z0a P ρ (z0x h id (.row (std.splice es (std.add off len) []))) w
   rw [hsp]; exact hr.ext0 hrow
  ·show Ext _ ρ h w ρ (z0x h id (.row (std.splice es (std.add off len) []))) w
   rw [hsp]; exact Go.Am.ext0 hrow
 ·have hst:z1t std ti h new q r (.slice id z0 off len (some c)) x=some ⟨std.and cx (std.and cs (std.and (std.leN 1 (z56 std x)) (std.leN (std.add off c) (w7b std (z0e h id))))), .slice id z off (std.add len (z56 std x)) (some c),[(id, .row (std.splice es (std.add off len) ys))]⟩:=by
   unfold z1t
   rw [hdesc]
   simp only [hb,cond_true,hxs,hes,hqt,hrow,x3f]
  have hcc:(std.and cx (std.and cs (std.and (std.leN 1 (z56 std x)) (std.leN (std.add off c) (w7b std (z0e h id))))))=true:=by
   rw [hrow,h1,h2]
   show (true&&(true&&(std.leN 1 (z56 std x)&&std.leN (std.add off c) (std.len es))))=true
   rw [h3]
   have:std.leN 1 (z56 std x)=true:=eBg hpos
   rw [this]; rfl
  have key:=y0m ht ht2 hd2' hr hn hs hx hq (ty:=ty) hst hcc
  exact key
theorem z7x {ti:TI} {new:Nat} {q:Bool} {r:List D} {s x:AV} {res:Res} (hs:z2n std ti h new q r s x=some res):
  ∃ res0,((q=true∧y2b std ti h s x=some res0)∨z1t std ti h new q r s x=some res0)∧res=y15 std r res0:=by
 unfold z2n at hs
 have hz:∀ y,(bif zer r&&q then y2b std ti h s x else none)=some y→q=true∧y2b std ti h s x=some y:=by
  intro y hy
  cases hb:(zer r&&q) with
  |false=>rw [hb] at hy; cases hy
  |true=>
   rw [hb] at hy
   rw [eAb] at hb
   exact ⟨hb.2,hy⟩
 cases h1:(bif zer r&&q then y2b std ti h s x else none) with
 |some res0=>
  rw [h1] at hs
  cases hs
  exact ⟨res0, .inl (hz _ h1),rfl⟩
 |none=>
  rw [h1] at hs
  simp only at hs
  cases h0:z1t std ti h new q r s x with
  |none=>rw [h0] at hs; cases hs
  |some res0=>rw [h0] at hs; cases hs; exact ⟨res0, .inr rfl,rfl⟩
theorem y49 {S T2:TypeId} {ti ti2:TI} (ht:z5t P S ti) (ht2:z5t P T2 ti2) (hd2':∃ e z b a zs,ti2.desc= .slc e z b a zs) (hr:z0a P ρ h w) {new:Nat} (hn:ρ new=none) {q:Bool} {s x:AV} {vs vx:Value}
  (hs:z0i ρ (z0c ρ h) w s vs) (hx:z0i ρ (z0c ρ h) w x vx) {ty:TypeId} {res:Res} (hq:∀ b,z3l std s x=some b→b=q) {r:List D} (he:z2n std ti h new q r s x=some res) (hc:res.c=true):
  z0h P ρ h w new (Builtin.append_ #[S,T2] ty #[vs,vx]) res:=by
 obtain ⟨res0,h0,rfl⟩:=z7x he
 rcases h0 with ⟨hqt,h0⟩|h0
 ·exact x0j (w0i ht ht2 hd2' hr hn hs hx hq hqt r h0 (x4d hc)) hc
 ·exact x0j (y0m ht ht2 hd2' hr hn hs hx hq h0 (x4d hc)) hc
theorem y3d {ti:TI} {s x:AV} {res:Res} (hs:x1r std ti h s x=some res):∃ e z eb ea ez id z0 off len c cx cs xs es,ti.desc= .slc e z eb ea ez∧(Nat.ble 1 z&&Nat.ble eb 60000)=true∧s= .slice id z0 off len c∧z2a std z h x=some (cx,xs)∧z2a std z h s=some (cs,es)∧
  res=⟨std.and cx (std.and cs (std.leN (z56 std x) 0)),s,[]⟩:=by
 unfold x1r at hs
 split at hs
 ·rename_i e z eb ea ez hd
  cases hb:(Nat.ble 1 z&&Nat.ble eb 60000) with
  |false=>rw [hb] at hs; cases hs
  |true=>
  rw [hb] at hs
  simp only [cond_true] at hs
  split at hs
  ·rename_i y hy
   split at hs
   ·rename_i cx xs hx
    split at hs
    ·rename_i cs es he
     cases hs
     cases s<;>simp only [y3m] at hy<;>try cases hy
     exact ⟨_,_,_,_,_,_,_,_,_,_,_,_,_,_,hd,hb,rfl,hx,he,rfl⟩
    ·cases hs
   ·cases hs
  ·cases hs
 ·cases hs
theorem w0j {S T2:TypeId} {ti ti2:TI} (ht:z5t P S ti) (ht2:z5t P T2 ti2) (hd2':∃ e z b a zs,ti2.desc= .slc e z b a zs) (hr:z0a P ρ h w) {new:Nat} {s x:AV} {vs vx:Value}
  (hs:z0i ρ (z0c ρ h) w s vs) (hx:z0i ρ (z0c ρ h) w x vx) {ty:TypeId} {res:Res} (he:x1r std ti h s x=some res) (hc:res.c=true):
  z0h P ρ h w new (Builtin.append_ #[S,T2] ty #[vs,vx]) res:=by
 obtain ⟨e,z,eb,ea,ez,id,z0,off,len,c,cx,cs,xs,es,hdesc,hb,rfl,hxs,hes,rfl⟩:=y3d he
 simp only at hc
 obtain ⟨h1,hc⟩:=and_true hc
 obtain ⟨h2,h3⟩:=and_true hc
 have h0:z56 std x=0:=Nat.le_zero.1 (z12 h3)
 obtain ⟨d,hd,hda,hk⟩:=ht.desc
 obtain ⟨d2,hdd2,_,hk2⟩:=ht2.desc
 obtain ⟨e2,z2,b2,a2,zs2,hdesc2⟩:=hd2'
 rw [hdesc2] at hk2
 obtain ⟨rfl,_⟩:=hk2
 have hint:∀ k,TypeDesc.slice e2≠ .int k:=by intro k; simp
 rw [hdesc] at hk
 obtain ⟨rfl,hz,heb,_,hez,hezl⟩:=hk
 simp only [eAb] at hb
 have hzp:0<z:=eAf hb.1
 obtain ⟨ax,m,capx,cxs,rfl,hm,hmc,hxl,hxr,hxf⟩:=z8r (P:=P) hr hzp hx hxs h1
 rw [h0] at hm
 subst hm
 have hcx:cxs=[]:=by
  have hl:=hxr.1
  rw [hxl] at hl
  simpa using hl
 subst hcx
 have hgo:∃ a n cap,vs= .slice a n cap∧n≤cap:=by
  cases hs with
  |nils _ _ _ _ a hcc=>exact ⟨_,_,_,rfl,eAv _⟩
  |slice _ _ _ _ _ L a cap hL hLz haa hcc hle=>exact ⟨_,_,_,rfl,hle⟩
 obtain ⟨a,n,cap,rfl,hle⟩:=hgo
 have hrun:=z8d (P:=P) (w:=w) hd hdd2 hint hz ty (a:=a) (hxf w rfl) hle
 exact z0h.pure hr hrun hs
theorem y48 {S T2:TypeId} {ti ti2:TI} (ht:z5t P S ti) (ht2:z5t P T2 ti2) (hd2':∃ e z b a zs,ti2.desc= .slc e z b a zs) (hr:z0a P ρ h w) {new:Nat} (hn:ρ new=none) {q:Bool} {s x:AV} {vs vx:Value}
  (hs:z0i ρ (z0c ρ h) w s vs) (hx:z0i ρ (z0c ρ h) w x vx) {ty:TypeId} {res:Res} (hq:∀ b,z3l std s x=some b→b=q) {r:List D} (he:z2m std ti h new q r s x=some res) (hc:res.c=true):
  z0h P ρ h w new (Builtin.append_ #[S,T2] ty #[vs,vx]) res:=by
 unfold z2m at he
 cases h5:w7r r with
 |true=>rw [h5] at he; exact w0j ht ht2 hd2' hr hs hx he hc
 |false=>rw [h5] at he; exact y49 ht ht2 hd2' hr hn hs hx hq he hc
end
end Go.Am
end
section
namespace Go.Am
section
variable {P:Program} {T:TypeId→Option TI} {G:Nat→Option (List D)} {ρ:Rho} {h:List AO} {w:World}
def z5q (ρ:Rho) (O:Nat→Prop) (w:World) (env:List (Nat×AV)) (tm:Array Value):Prop:=∀ t,z0i ρ O w (z1k env t) (tm.getD t undef)
def opv (tm:Array Value):Operand→Value
 | .tmp t=>tm.getD t undef
 | .const v=>v
 | .global g=> .pointer (some ⟨g,0,none⟩)
 | .func f=> .func (.func f) #[] #[]
theorem z0f {O:Nat→Prop} {env:List (Nat×AV)} {tm:Array Value} (he:z5q ρ O w env tm) (x:Operand):z0i ρ O w (z0j env x) (opv tm x):=by
 cases x with
 |tmp t=>exact he t
 |const v=>
  simp only [z0j]
  split
  ·exact .d (x4m ‹_› O w)
  ·exact .bot _
 |global g=>exact .bot _
 |func f=>exact .clo _ _ _ #[] #[] rfl rfl (by simp) (by simp)
theorem z66 {O:Nat→Prop} {env:List (Nat×AV)} {tm:Array Value} (he:z5q ρ O w env tm) (l:Array Operand):
  (l.map (opv tm)).size=(z0s env l.toList).length∧∀ (i:Nat) (x:AV),(z0s env l.toList)[i]?=some x→z0i ρ O w x ((l.map (opv tm)).getD i undef):=by
 rw [z13]
 refine ⟨by simp,fun i x hx=>?_⟩
 have hi:i<l.size:=by simpa using (eAd.1 hx).1
 simp [hi] at hx
 subst hx
 have:(l.map (opv tm)).getD i undef=opv tm l[i]:=by simp [eAh,hi]
 rw [this]
 exact z0f he _
theorem y8l (env:List (Nat×AV)) (l:List (Nat×Operand)):y00 env l=l.map fun x=>(x.1,z0j env x.2):=by
 induction l with
 |nil=>rfl
 |cons x l ih=>obtain ⟨i,x⟩:=x; simp [y00,ih]
theorem x0r {O:Nat→Prop} {env:List (Nat×AV)} {tm:Array Value} (he:z5q ρ O w env tm) (l:Array (Nat×Operand)):y2z ρ O w (y00 env l.toList) (l.map fun x=>(x.1,opv tm x.2)).toList:=by
 rw [y8l]
 refine ⟨by simp,fun k x y hx hy=>?_⟩
 have hk:k<l.size:=by simpa using (eAd.1 hx).1
 simp [hk] at hx hy
 subst hx; subst hy
 exact ⟨rfl,z0f he _⟩
theorem y4l {O:Nat→Prop} {env:List (Nat×AV)} {tm:Array Value} (he:z5q ρ O w env tm) (x:Option Operand):y19 ρ O w (z74 env x) (x.map (opv tm)):=by
 cases x with
 |none=>trivial
 |some x=>exact z0f he x
def y09 (P:Program) (ρ:Rho) (h:List AO) (w:World) (new:Nat) (s:Sem Next) (r:Res):Prop:=
 ∃ v w' ρ',(s.run P w= .ok (.value v) w'∨(s.run P w= .ok .skip w'∧v=undef))∧z0i ρ' (z0c ρ' (z06 h r.u)) w' r.v v∧z0a P ρ' (z06 h r.u) w'∧
  Ext (fun id=>id≠new) ρ h w ρ' (z06 h r.u) w'∧(ρ'=ρ∨∃ o,(new,o)∈r.u)
theorem z0h.value {new:Nat} {s:Sem Value} {r:Res} (h1:z0h P ρ h w new s r):y09 P ρ h w new (do Pure.pure (Next.value (←s))) r:=by
 obtain ⟨v,w',ρ',hs,h2⟩:=h1
 exact ⟨v,w',ρ', .inl (by simp [hs]),h2⟩
theorem z0h.skip {new:Nat} {s:Sem Unit} {r:Res} (h1:z0h P ρ h w new (z3x s) r):y09 P ρ h w new (do s; Pure.pure Next.skip) r:=by
 obtain ⟨v,w',ρ',hs,h2⟩:=h1
 unfold z3x at hs
 simp only [Sem.run_bind] at hs
 cases hr:s.run P w with
 |ok u w1=>
  rw [hr] at hs; simp at hs
  obtain ⟨rfl,rfl⟩:=hs
  exact ⟨_,_,ρ', .inr ⟨by simp [hr],rfl⟩,h2⟩
 |halt x w1=>rw [hr] at hs; simp at hs
theorem x5q {v:AV} {r:Res} (h:ok v=some r):r=⟨true,v,[]⟩:=by unfold ok at h; cases h; rfl
theorem x18 (i:Operand):pOf std i=std:=by cases i<;>rfl
theorem y24 {O:Nat→Prop} {x:AV} {v:Value} (h:z0i ρ O w x v):z0i ρ O w (y7f x) v:=by
 unfold y7f
 split
 ·cases h with
  |d h=>cases h with
   |ref r b o hne hO cell hc hh=>
    have:=z0i.lptr (ρ:=ρ) (O:=O) (w:=w) _ 0 b o (y0b (hc 0 (List.length_pos_iff.2 hne))) hO cell hc hh
    exact this
 ·exact h
theorem w1n {ti:TI} {O:Nat→Prop} {x:AV} {v:Value} (h:z0i ρ O w x v):z0i ρ O w (w1o ti x) v:=by
 unfold w1o
 split
 ·rename_i f z es
  split
  ·cases hb:Nat.beq z 0 with
   |false=>exact h
   |true=>
    simp only [cond_true]
    split
    ·cases h with
     |d h=>cases h with
      |lnil _ _ a c hf=>exact .d (.lnil _ _ a c hf)
      |list _ _ _ _ _ _ _ hne=>exact absurd rfl hne
    ·exact h
  ·exact h
 ·exact h
theorem y7d {ti:TI} (a:AV):z3f h (w1o ti a)=z3f h a:=by
 cases a with
 |d x=>
  cases x with
  |list f z es=>
   simp only [w1o]
   cases hd:ti.desc with
   |slc e z' eb ea ez=>
    simp only []
    cases Nat.beq z 0<;>cases es<;>rfl
   |_=>rfl
  |_=>rfl
 |_=>rfl
def GOk (P:Program) (G:Nat→Option (List D)):Prop:=∀ (g:Nat) (cells:List D),G g=some cells→z94 P g=some cells
theorem z7q (G:Nat→Option (List D)) (env:List (Nat×AV)) (x:Operand):y01 G env x=z0j env x∨∃ cells,y01 G env x= .lptr cells 0:=by
 cases x with
 |global g=>
  simp only [y01]
  cases G g with
  |none=>exact .inl rfl
  |some cells=>exact .inr ⟨cells,rfl⟩
 |_=>exact .inl rfl
theorem y4m (hG:GOk P G) (hr:z0a P ρ h w) {env:List (Nat×AV)} {tm:Array Value} (he:z5q ρ (z0c ρ h) w env tm) (x:Operand):z0i ρ (z0c ρ h) w (y01 G env x) (opv tm x):=by
 cases x with
 |global g=>
  simp only [y01]
  cases hg:G g with
  |none=>exact .bot _
  |some cells=>
   obtain ⟨a,b,_,c⟩:=hr.gl.lay g cells (hG g cells hg)
   refine .lptr cells 0 g 0 a b (fun k=>(w.cell? ⟨g,k,none⟩).getD undef) (fun k hk=>?_) (fun k x hx=>?_)
   ·obtain ⟨v,hv,_⟩:=c k _ (eAa hk)
    rw [eAp,hv]; rfl
   ·obtain ⟨v,hv,hd⟩:=c k x hx
    rw [hv]; exact hd _ _
 |tmp t=>exact z0f he (.tmp t)
 |const v=>exact z0f he (.const v)
 |func f=>exact z0f he (.func f)
theorem x27 (hT : y0f P T) (hG : GOk P G) (hr : z0a P ρ h w) {new : Nat} (hn : ρ new = none) {env : List (Nat × AV)} {tm : Array Value} (he : z5q ρ (z0c ρ h) w env tm) {q : Bool} {r : List D} {ra : List AV} {o : Oper} {res : Res}
    (hw : (z1q std T env h o.op).ok q r ra) (hs : z08 std T G env h new q r ra o.op = some res) (hc : res.c = true) : y09 P ρ h w new (execOp (opv tm) o) res := by
  have rows : ∀ n a, (z79 h n a).ok q r ra → x1g h a r ra := by
    intro n a ha
    cases a <;> try trivial
    · rename_i id off
      simp only [z79] at ha
      simp only [x1g]
      intro es he
      rw [he] at ha; exact ha
    · rename_i id i off
      simp only [z79] at ha
      simp only [x1g]
      refine ⟨fun es he => ?_, fun es he => ?_⟩
      · rw [he] at ha; exact ha
      · rw [he] at ha; exact ha
  unfold z08 at hs
  cases hop : o.op with
  | move x =>
    rw [hop] at hs; cases x5q hs
    exact ⟨_, w, ρ, .inl (by simp [execOp, hop]), z0f he x, hr, Ext.refl _ _ _ _, .inl rfl⟩
  | assign x =>
    rw [hop] at hs; cases x5q hs
    exact ⟨_, w, ρ, .inl (by simp [execOp, hop]), z0f he x, hr, Ext.refl _ _ _ _, .inl rfl⟩
  | pick c a b =>
    rw [hop] at hs; simp only at hs
    have h1 := z0f he c
    unfold y7k at hs
    split at hs
    · rename_i hcv; rw [hcv] at h1; cases x5q hs
      generalize hv : opv tm c = v at h1
      cases h1 with | d h1 =>
      cases h1
      exact ⟨_, w, ρ, .inl (by simp [execOp, hop, hv, asBool]), z0f he a, hr, Ext.refl _ _ _ _, .inl rfl⟩
    · rename_i hcv; rw [hcv] at h1; cases x5q hs
      generalize hv : opv tm c = v at h1
      cases h1 with | d h1 =>
      cases h1
      exact ⟨_, w, ρ, .inl (by simp [execOp, hop, hv, asBool]), z0f he b, hr, Ext.refl _ _ _ _, .inl rfl⟩
    · cases hs
  | alloc t =>
    rw [hop] at hs; simp only at hs
    split at hs
    · have := (y9k (hT _ _ ‹_›) hr hn hs).value
      simpa [execOp, hop] using this
    · cases hs
  | box t x =>
    rw [hop] at hs; simp only at hs
    split at hs
    · have := (x5e (hT _ _ ‹_›) hr hn (z0f he x) hs).value
      simpa [execOp, hop] using this
    · cases hs
  | build t ps =>
    rw [hop] at hs; simp only at hs
    split at hs
    · have := (y9i (new := new) (hT _ _ ‹_›) hr (x0r he ps) hs).value
      simpa [execOp, hop] using this
    · cases hs
  | buildSlice t len ps =>
    rw [hop] at hs; simp only at hs
    split at hs
    · have := (y1e (hT _ _ ‹_›) hr hn (x0r he ps) hs).value
      simpa [execOp, hop] using this
    · cases hs
  | load t a =>
    rw [hop] at hs hw; simp only [z1q] at hs hw
    split at hs
    · have := (x1s (hT _ _ ‹_›) hr (y24 (y4m hG hr he a)) (by rcases z7q G env a with e | ⟨c, e⟩ <;> rw [e]; exact rows _ _ hw; exact trivial) hs new).value
      simpa [execOp, hop] using this
    · cases hs
  | store t a x =>
    rw [hop] at hs hw; simp only [z1q] at hs hw
    split at hs
    · have := (y9c (hT _ _ ‹_›) std rfl hr (z0f he a) (z0f he x) (rows _ _ hw) hs hc new).skip
      simpa [execOp, hop] using this
    · cases hs
  | nilCheck x =>
    rw [hop] at hs; simp only at hs
    have h1 := y24 (z0f he x)
    unfold x1p at hs
    split at hs <;> (try (cases hs; done)) <;> rename_i hx <;> rw [hx] at h1 <;> cases x5q hs <;> generalize hv : opv tm x = v at h1
    · have h2 := h1
      cases h1 with | bptr _ _ L hL => exact ⟨_, w, ρ, .inl (by simp [execOp, hop, hv]), h2, hr, Ext.refl _ _ _ _, .inl rfl⟩
    · have h2 := h1
      cases h1 with | ptr _ _ _ L hL => exact ⟨_, w, ρ, .inl (by simp [execOp, hop, hv]), h2, hr, Ext.refl _ _ _ _, .inl rfl⟩
    · have h2 := h1
      cases h1 with | wptr _ _ b o z hlt hO hz hcc => exact ⟨_, w, ρ, .inl (by simp [execOp, hop, hv]), h2, hr, Ext.refl _ _ _ _, .inl rfl⟩
    · have h2 := h1
      cases h1 with | lptr _ _ b o hlt hO cell hcc hrr => exact ⟨_, w, ρ, .inl (by simp [execOp, hop, hv]), h2, hr, Ext.refl _ _ _ _, .inl rfl⟩
  | binOp op t x y t2 =>
    rw [hop] at hs; simp only at hs
    split at hs
    · cases hn : w68 y with
      | true =>
        rw [hn] at hs
        have hy := w4j hn
        have := (y7l (new := new) (hT _ _ ‹_›) hr x y (z0f he x) hs hc).value
        have hyv : opv tm y = .slice none 0 0 := by rw [hy]; rfl
        rw [← hyv] at this
        simpa [execOp, hop] using this
      | false =>
        rw [hn] at hs
        simp only [cond_false] at hs
        cases hi : w67 y with
        | true =>
        rw [hi] at hs
        have hy := w4i hi
        have := (x1o (new := new) (hT _ _ ‹_›) hr x (z0f he x) hs).value
        have hyv : opv tm (.const .nilIface) = .nilIface := rfl
        subst hy
        simpa [execOp, hop, hyv] using this
        | false =>
        rw [hi] at hs
        have := (x5f (new := new) (hT _ _ ‹_›) hr x y (z0f he x) (z0f he y) hs hc).value
        simpa [execOp, hop] using this
    · cases hs
  | unOp op t x =>
    rw [hop] at hs; simp only at hs
    have := (x62 (P := P) (new := new) hr (z0f he x) hs).value
    simpa [execOp, hop] using this
  | convert s t x =>
    rw [hop] at hs; simp only at hs
    split at hs
    · split at hs
      · rename_i res' hres
        cases hs
        have := (y47 (new := new) (hT _ _ ‹_›) (hT _ _ ‹_›) hr (z0f he x) hres).value
        simpa [execOp, hop] using this
      · have := (y9h (new := new) hT (hT _ _ ‹_›) (hT _ _ ‹_›) hr (z0f he x) hs hc).value
        simpa [execOp, hop] using this
    · cases hs
  | makeFunc fn f c =>
    rw [hop] at hs; cases x5q hs
    obtain ⟨f1, f2⟩ := z66 he f
    obtain ⟨c1, c2⟩ := z66 he c
    exact ⟨_, w, ρ, .inl (by simp [execOp, hop, Instr.makeFunc]), .clo _ _ _ _ _ f1 c1 f2 c2, hr, Ext.refl _ _ _ _, .inl rfl⟩
  | makeSlice t l c =>
    rw [hop] at hs; simp only at hs
    split at hs
    · have := (y2d (hT _ _ ‹_›) hr hn (z0f he l) (z0f he c) hs hc).value
      simpa [execOp, hop] using this
    · cases hs
  | slice t x lo hi mx =>
    rw [hop] at hs hw; simp only [z1q] at hs hw
    have hw : (z3f h (z0j env x)).ok false r ra := by
      generalize z0j env x = a at hw
      unfold z3f at hw ⊢
      split
      · split
        · rename_i hob; simp only [hob] at hw; exact hw
        · trivial
      · trivial
    split at hs
    · rename_i ti _
      have hw : (z3f h (w1o ti (z0j env x))).ok false r ra := by
        rw [y7d]; exact hw
      have := (y9d (new := new) (hT _ _ ‹_›) hr (w1n (z0f he x)) (y4l he lo) (y4l he hi) (y4l he mx) (ra := ra) hw hs hc).value
      simpa [execOp, hop] using this
    · cases hs
  | fieldAddr t x f =>
    rw [hop] at hs; simp only at hs
    split at hs
    · have := (y9e (new := new) (hT _ _ ‹_›) hr (y24 (y4m hG hr he x)) hs).value
      simpa [execOp, hop] using this
    · cases hs
  | field t x f =>
    rw [hop] at hs; simp only at hs
    split at hs
    · have := (y3g (new := new) (hT _ _ ‹_›) hr (z0f he x) hs).value
      simpa [execOp, hop] using this
    · cases hs
  | indexAddr t x i =>
    rw [hop] at hs hw; simp only [z1q, x18] at hs hw
    split at hs
    · have := (y2e (new := new) (hT _ _ ‹_›) hr (y4m hG hr he x) (z0f he i) (fun full z es k n e1 e2 => by rcases z7q G env x with e | ⟨c, e⟩ <;> rw [e] at e1; rw [e1, e2] at hw; exact hw; cases e1) hs hc).value
      simpa [execOp, hop] using this
    · cases hs
  | index t x i =>
    rw [hop] at hs; simp only [x18] at hs
    split at hs
    · have := (y3f (new := new) (hT _ _ ‹_›) hr (z0f he x) (z0f he i) hs hc).value
      simpa [execOp, hop] using this
    · cases hs
  | extract x i =>
    rw [hop] at hs; simp only at hs
    have h1 := z0f he x
    unfold z9v at hs
    split at hs
    · rename_i vs hx
      rw [hx] at h1
      obtain ⟨y, hy, rfl⟩ := z2c hs
      rw [z1b] at hy
      generalize hv : opv tm x = v at h1
      cases h1 with
      | tuple _ vv hl hh =>
        have hi : i < vv.size := by rw [hl]; exact (eAd.1 hy).1
        have h2 := hh i y hy
        rw [z7n (eAm hi)] at h2
        exact ⟨_, w, ρ, .inl (by simp [execOp, hop, hv, Instr.extract, hi]), h2, hr, Ext.refl _ _ _ _, .inl rfl⟩
    · cases hs
  | call c =>
    obtain ⟨callee, args, ts⟩ := c
    cases callee <;> rw [hop] at hs <;> (try (cases hs; done))
    rename_i b
    simp only at hs
    obtain ⟨a1, a2⟩ := z66 he args
    have exec : ∀ (s : Sem Value), (∀ cs, builtin b ts o.type cs (args.map (opv tm)) = (do pure (Next.value (← s)))) → execOp (opv tm) o = (do pure (Next.value (← s))) := by
      intro s hsb
      simp [execOp, hop, resolve, invoke, hsb]
    have arg : ∀ (i : Nat) (x : AV) (hi : i < args.size), (z0s env args.toList)[i]? = some x → z0i ρ (z0c ρ h) w x (opv tm args[i]) := by
      intro i x hi hx
      have := a2 i x hx
      rwa [show (args.map (opv tm)).getD i undef = opv tm args[i] by simp [eAh, hi]] at this
    unfold z2l at hs
    split at hs
    ·
      rename_i t x e2 e3
      split at hs
      · rename_i ti hti
        have hsz : args.size = 1 := by have := congrArg List.length e3; rw [z13] at this; simpa using this
        have hx := arg 0 x (by omega) (by rw [e3]; rfl)
        have hts : ts = #[t] := by apply Array.ext'; rw [e2]
        have hav : args.map (opv tm) = #[opv tm args[0]] := by
          apply Array.ext'
          apply eBd
          intro i
          cases i with
          | zero => simp [hsz]
          | succ i => simp; omega
        rw [exec (Builtin.len_ ts o.type (args.map (opv tm))) (fun cs => rfl)]
        have := w4s (hT _ _ hti) hr (new := new) (ty := o.type) hx hs
        rw [hts, hav]
        exact this.value
      · cases hs
    ·
      rename_i t t2 s x e2 e3
      split at hs
      · rename_i ti ti2 hti hti2
        split at hs
        · rename_i e z eb ea ez hdesc
          have hsz : args.size = 2 := by have := congrArg List.length e3; rw [z13] at this; simpa using this
          have hx := arg 0 s (by omega) (by rw [e3]; rfl)
          have hy := arg 1 x (by omega) (by rw [e3]; rfl)
          have hts : ts = #[t, t2] := by apply Array.ext'; rw [e2]
          have hav : args.map (opv tm) = #[opv tm args[0], opv tm args[1]] := by
            apply Array.ext'
            apply eBd
            intro i
            match i with
            | 0 => simp [hsz]
            | 1 => simp [hsz]
            | i + 2 => simp; omega
          rw [exec (Builtin.append_ ts o.type (args.map (opv tm))) (fun cs => rfl)]
          rw [hop] at hw
          simp only [z1q] at hw
          rw [e3] at hw
          simp only at hw
          have := y48 (hT _ _ hti) (hT _ _ hti2) ⟨_, _, _, _, _, hdesc⟩ hr hn hx hy (ty := o.type) (q := q) (fun b hb => by rw [hb] at hw; exact hw) hs hc
          rw [hts, hav]
          exact this.value
        · cases hs
      · cases hs
    ·
      rename_i t tl d x e2 e3
      split at hs
      · rename_i ti hti
        have hsz : args.size = 2 := by have := congrArg List.length e3; rw [z13] at this; simpa using this
        have hx := arg 0 d (by omega) (by rw [e3]; rfl)
        have hy := arg 1 x (by omega) (by rw [e3]; rfl)
        have hav : args.map (opv tm) = #[opv tm args[0], opv tm args[1]] := by
          apply Array.ext'
          apply eBd
          intro i
          match i with
          | 0 => simp [hsz]
          | 1 => simp [hsz]
          | i + 2 => simp; omega
        rw [exec (Builtin.copy_ ts o.type (args.map (opv tm))) (fun cs => rfl)]
        have hts : ts[0]? = some t := by rw [← eAj, e2]; rfl
        have := x1t (hT _ _ hti) hr (new := new) (ty := o.type) hx hy hts hs hc
        rw [hav]
        exact this.value
      · cases hs
    ·
      rename_i t tl m k e2 e3
      split at hs
      · rename_i ti hti
        have hsz : args.size = 2 := by have := congrArg List.length e3; rw [z13] at this; simpa using this
        have hx := arg 0 m (by omega) (by rw [e3]; rfl)
        have hy := arg 1 k (by omega) (by rw [e3]; rfl)
        have hav : args.map (opv tm) = #[opv tm args[0], opv tm args[1]] := by
          apply Array.ext'
          apply eBd
          intro i
          match i with
          | 0 => simp [hsz]
          | 1 => simp [hsz]
          | i + 2 => simp; omega
        rw [exec (Builtin.delete_ ts o.type (args.map (opv tm))) (fun cs => rfl)]
        have hts : ts[0]? = some t := by rw [← eAj, e2]; rfl
        rw [hop] at hw
        simp only [z1q, e2, e3, y0i, hti] at hw
        have := y7m (hT _ _ hti) hr (new := new) (ty := o.type) hx hy hw hts hs
        rw [hav]
        exact this.value
      · cases hs
    ·
      rename_i t tl d e2 e3
      split at hs
      · rename_i ti hti
        have hsz : args.size = 1 := by have := congrArg List.length e3; rw [z13] at this; simpa using this
        have hx := arg 0 d (by omega) (by rw [e3]; rfl)
        have hav : args.map (opv tm) = #[opv tm args[0]] := by
          apply Array.ext'
          apply eBd
          intro i
          match i with
          | 0 => simp [hsz]
          | i + 1 => simp; omega
        rw [exec (Builtin.clear_ ts o.type (args.map (opv tm))) (fun cs => rfl)]
        have hts : ts[0]? = some t := by rw [← eAj, e2]; rfl
        have := y9g (hT _ _ hti) hr (new := new) (ty := o.type) hx hts hs hc
        rw [hav]
        exact this.value
      · cases hs
    ·
      rw [exec (Builtin.min_ ts o.type (args.map (opv tm))) (fun cs => rfl)]
      have := y5w (P := P) (new := new) hr (.inl rfl) (vs := (args.map (opv tm)).toList) (by rw [eBa]; exact a1) (fun i x v hx hv => by
        have h1 := a2 i x hx
        have h2 : (args.map (opv tm))[i]? = some v := by simpa using hv
        rwa [z7n h2] at h1) (a := ts) (t := o.type) hs
      rw [Array.toArray_toList, if_pos rfl] at this
      exact this.value
    ·
      rw [exec (Builtin.max_ ts o.type (args.map (opv tm))) (fun cs => rfl)]
      have := y5w (P := P) (new := new) hr (.inr rfl) (vs := (args.map (opv tm)).toList) (by rw [eBa]; exact a1) (fun i x v hx hv => by
        have h1 := a2 i x hx
        have h2 : (args.map (opv tm))[i]? = some v := by simpa using hv
        rwa [z7n h2] at h1) (a := ts) (t := o.type) hs
      rw [Array.toArray_toList, if_neg (by decide)] at this
      exact this.value
    · cases hs
  | makeMap t n =>
    rw [hop] at hs; simp only at hs
    split at hs
    · have := (y44 (P := P) (T := t) (new := new) hr hn (x := z74 env n) (v := n.map (opv tm)) (fun h => by cases n <;> simp [z74] at h ⊢) hs).value
      simpa [execOp, hop] using this
    · cases hs
  | lookup t m k co =>
    rw [hop] at hs hw; simp only [z1q] at hs hw
    split at hs
    · rename_i ti hti
      split at hs
      · simp only [y0i, hti] at hw
        have := (z7e (hT _ _ hti) (new := new) hr (z0f he m) (z0f he k) hw hs).value
        simpa [execOp, hop] using this
      · cases hs
    · cases hs
  | mapUpdate t m k x =>
    rw [hop] at hs hw; simp only [z1q] at hs hw
    split at hs
    · rename_i ti hti
      simp only [y0i, hti] at hw
      have := (y7j (hT _ _ hti) (new := new) hr (z0f he m) (z0f he k) (z0f he x) hw hs).skip
      simpa [execOp, hop] using this
    · cases hs
  | _ => rw [hop] at hs; cases hs
end
end Go.Am
end
section
namespace Go.Am
structure AS where
 env:List (Nat×AV)
 heap:List AO
 nt:Nat
inductive AX where
 |normal
 |exit (id:Nat)
 |ret
def Dom (ρ:Rho) (h:List AO):Prop:=∀ id,ρ id≠none→id<h.length
structure z1p (P:Program) (ρ:Rho) (s:AS) (tm:Array Value) (w:World):Prop where
 heap:z0a P ρ s.heap w
 env:z5q ρ (z0c ρ s.heap) w s.env tm
 size:tm.size=s.nt
 dom:Dom ρ s.heap
structure z3e (rd:Option Nat) (B:Nat) (F:Nat→Prop) (w:World) (ds:List Deferred):Prop where
 nodup:ds.Nodup
 mark:∀ d∈ds,∃ r,d={ target:= .collected r,args:=#[] }∧w.heap[r]?=some (.deferred (some []))∧B≤r
 below:∀ b,F b→b<B
 le:B≤w.heap.size
 round:∀ l,rd=some l→F l∧∃ r,w.heap[l]?=some (.loop r)
theorem x3n {P:Program} {ρ:Rho} {h:List AO} {w:World} (hr:z0a P ρ h w) {b:Nat} (hf:¬ ρ.fr b) (hb:z0c ρ h b):w.heap[b]?≠some (.deferred (some [])):=by
 rcases hb with hb|⟨id,L,hL,hl,rfl⟩
 ·exact absurd hb hf
 obtain ⟨_,ho⟩:=hr.obj id L hL
 cases hn:z0e h id with
 |dead=>rw [hn] at hl; cases hl
 |box _=>rw [hn] at ho; obtain ⟨_,c,t,hc,_⟩:=ho; rw [hc]; simp
 |row _=>rw [hn] at ho; obtain ⟨_,c,t,hc,_⟩:=ho; rw [hc]; simp
 |arow _=>rw [hn] at ho; obtain ⟨_,c,t,hc,_⟩:=ho; rw [hc]; simp
 |map _=>rw [hn] at ho; obtain ⟨c,t,hc,_⟩:=ho; rw [hc]; simp
 |loop=>rw [hn] at ho; obtain ⟨_,_,_,_,_,c,t,_,hc,_⟩:=ho; rw [hc]; simp
theorem z3e.keep {P:Program} {S:Nat→Prop} {ρ ρ':Rho} {h h':List AO} {w w':World} {rd:Option Nat} {B:Nat} {ds:List Deferred} (hr:z0a P ρ h w) (x:Ext S ρ h w ρ' h' w') (hd:z3e rd B ρ.fr w ds):z3e rd B ρ'.fr w' ds:=by
 refine ⟨hd.nodup,fun d hm=>?_,by rw [x.fr]; exact hd.below,eBf hd.le x.keep.size,fun l hl=>by
  obtain ⟨h1,r,h2⟩:=hd.round l hl
  exact ⟨by rw [x.fr]; exact h1,r,by rw [x.frs l h1]; exact h2⟩⟩
 obtain ⟨r,e,hr',hb⟩:=hd.mark d hm
 have hf:¬ ρ.fr r:=fun hf=>by have:=hd.below r hf; omega
 refine ⟨r,e,?_,hb⟩
 rw [x.keep.frame r (eAe.1 hr').1 (fun ho=>x3n hr hf ho hr')]
 exact hr'
def _root_.Go.Frame.on (b:Frame) (tm:Array Value) (ds:List Deferred) (todo:List Item):Frame:={ b with tmps:=tm,defers:=ds,todo:=todo,mode:= .run }
theorem x2u (b:Frame) (tm:Array Value) (ds:List Deferred) (todo:List Item):(b.on tm ds todo).eval=opv tm:=by
 funext x; cases x<;>rfl
section steps
variable {P:Program} {b:Frame} {tm:Array Value} {ds:List Deferred} {k:List Item} {cs:List Frame} {w:World}
theorem w35:step P (lone (b.on tm ds (.code .skip::k)) cs w)= .next (lone (b.on tm ds k) cs w):=step_lone_go (by simp [stepG,stepG.exec,Frame.on])
theorem w0o {l:Nat}:step P (lone (b.on tm ds (.code (.label l)::k)) cs w)= .next (lone (b.on tm ds k) cs w):=step_lone_go (by simp [stepG,stepG.exec,Frame.on])
theorem x5h {id:Nat}:step P (lone (b.on tm ds (.inBlock id::k)) cs w)= .next (lone (b.on tm ds k) cs w):=step_lone_go (by simp [stepG,stepG.exec,Frame.on])
theorem x5g {c:Code}:step P (lone (b.on tm ds (.inScope c::k)) cs w)= .next (lone (b.on tm ds k) cs w):=step_lone_go (by simp [stepG,stepG.exec,Frame.on])
theorem x65 {x y:Code}:step P (lone (b.on tm ds (.code (.seq x y)::k)) cs w)= .next (lone (b.on tm ds (.code x:: .code y::k)) cs w):=step_lone_go (by simp [stepG,stepG.exec,Frame.on])
theorem w37 {c:Operand} {x y:Code} {t:Bool} (h:opv tm c= .bool t):step P (lone (b.on tm ds (.code (.cond c x y)::k)) cs w)= .next (lone (b.on tm ds (.code (if t then x else y)::k)) cs w):=
 step_lone_go (by
  have:=x2u b tm ds (.code (.cond c x y)::k)
  simp only [Frame.on] at this
  simp [stepG,stepG.exec,Frame.on,this,h])
theorem y2q {id:Nat} {c:Code}:step P (lone (b.on tm ds (.code (.block id c)::k)) cs w)= .next (lone (b.on tm ds (.code c:: .inBlock id::k)) cs w):=step_lone_go (by simp [stepG,stepG.exec,Frame.on])
theorem y7y {c:Code}:step P (lone (b.on tm ds (.code (.scope c)::k)) cs w)= .next (lone (b.on tm ds (.code c:: .inScope c::k)) cs w):=step_lone_go (by simp [stepG,stepG.exec,Frame.on])
theorem y1h {c:Code}:step P (lone (b.on tm ds (.code (.loop c)::k)) cs w)= .next (lone (b.on tm ds (.code c:: .inLoop c::k)) cs w):=step_lone_go (by simp [stepG,stepG.exec,Frame.on])
theorem x67 {c:Code}:step P (lone (b.on tm ds (.inLoop c::k)) cs w)= .next (lone (b.on tm ds (.code c:: .inLoop c::k)) cs w):=step_lone_go (by simp [stepG,stepG.exec,Frame.on])
theorem w36 {id:Nat} {k':List Item} (h:exitTo id k=some k'):step P (lone (b.on tm ds (.code (.exit id)::k)) cs w)= .next (lone (b.on tm ds k') cs w):=step_lone_go (by simp [stepG,stepG.exec,Frame.on,h])
theorem x66 {id:Nat} {ops:Array Oper}:step P (lone (b.on tm ds (.code (.region id ops false)::k)) cs w)= .next (lone (b.on tm ds (.inRegion ops (List.range ops.size)::k)) cs w):=step_lone_go (by simp [stepG,stepG.exec,Frame.on])
theorem z6e {id:Nat} {ops:Array Oper}:step P (lone (b.on tm ds (.code (.region id ops true)::k)) cs w)=
  .next (lone (b.on tm ds (.inRegion ops (Region.schedule (P.follows .mixedOrders) ops (w.tape w.drawn (.order b.fn id)))::k)) cs { w with drawn:=w.drawn+1 }):=
 step_lone_go (by simp [stepG,stepG.exec,Frame.on,choose,Sem.run,Question.forced,Question.cut])
theorem z7g {ops:Array Oper}:step P (lone (b.on tm ds (.inRegion ops []::k)) cs w)= .next (lone (b.on tm ds k) cs w):=step_lone_go (by simp [stepG,stepG.exec,Frame.on])
theorem w6p (hb:b.roundOf=none):step P (lone (b.on tm ds (.code .ret::k)) cs w)= .next (lone { b.on tm ds (.code .ret::k) with mode:= .returning } cs w):=step_lone_go (by simp [stepG,stepG.exec,Frame.on,hb])
theorem w6q (hb:b.roundOf=none):step P (lone (b.on tm ds []) cs w)= .next (lone { b.on tm ds [] with mode:= .returning } cs w):=step_lone_go (by simp [stepG,stepG.exec,Frame.on,hb])
def y11 (tm:Array Value) (dst:Option Tmp) (v:Value):Array Value:=
 match dst with
 |some d=>tm.setIfInBounds d v
 |none=>tm
theorem z8p {ops:Array Oper} {i:Nat} {rest:List Nat} {o:Oper} (ho:ops[i]?=some o) (v:Value):
  (b.on tm ds (.inRegion ops (i::rest)::k)).finish v=b.on (y11 tm o.dst v) ds (.inRegion ops rest::k):=by
 unfold Frame.finish Frame.on y11
 simp [ho]
 cases o.dst<;>rfl
theorem y5x {ops:Array Oper} {i:Nat} {rest:List Nat} {o:Oper} (ho:ops[i]?=some o) (hw:Region.wanted o (yielded ops tm)=false):
  step P (lone (b.on tm ds (.inRegion ops (i::rest)::k)) cs w)= .next (lone (b.on (y11 tm o.dst undef) ds (.inRegion ops rest::k)) cs w):=by
 rw [←z8p ho]
 exact step_lone_go (by
  simp only [Frame.on] at*
  simp [stepG,stepG.exec,ho,hw])
theorem x68 {ops:Array Oper} {i:Nat} {rest:List Nat} {o:Oper} (ho:ops[i]?=some o) (hw:Region.wanted o (yielded ops tm)=true) (hd:∀ c,o.op≠ .defer c):
  stepG P true { frame:=b.on tm ds (.inRegion ops (i::rest)::k),callers:=cs,status:= .running,dying:=none } w=
   stepG.apply P true (b.on tm ds (.inRegion ops (i::rest)::k)) cs none (execOp (opv tm) o) w:=by
 have he:=x2u b tm ds (.inRegion ops (i::rest)::k)
 simp only [Frame.on] at he
 have:∀ (x:Option Nat),(match x,o.op with
   |some l, .defer c=>stepG.apply P true (b.on tm ds (.inRegion ops (i::rest)::k)) cs none (do Instr.deferInRound l (←resolve (opv tm) c o.type); pure .skip) w
   |_,_=>stepG.apply P true (b.on tm ds (.inRegion ops (i::rest)::k)) cs none (execOp (opv tm) o) w)=stepG.apply P true (b.on tm ds (.inRegion ops (i::rest)::k)) cs none (execOp (opv tm) o) w:=by
  intro x
  split
  ·exact absurd ‹_› (hd _)
  ·rfl
 simp only [Frame.on] at this
 simp [stepG,stepG.exec,stepG.oper,Frame.oper?,Frame.on,ho,hw,he]
 exact this b.roundOf
theorem z9w {ops:Array Oper} {i:Nat} {rest:List Nat} {o:Oper} (ho:ops[i]?=some o) (hw:Region.wanted o (yielded ops tm)=true) (hd:∀ c,o.op≠ .defer c) {v:Value} {w':World}
  (hr:(execOp (opv tm) o).run P w= .ok (.value v) w'∨((execOp (opv tm) o).run P w= .ok .skip w'∧v=undef)):
  step P (lone (b.on tm ds (.inRegion ops (i::rest)::k)) cs w)= .next (lone (b.on (y11 tm o.dst v) ds (.inRegion ops rest::k)) cs w'):=by
 rw [←z8p ho]
 refine step_lone_go ?_
 rw [x68 ho hw hd]
 rcases hr with hr|⟨hr,rfl⟩
 ·simp [stepG.apply,hr]
 ·simp [stepG.apply,hr]
theorem y3k {ops:Array Oper} {i:Nat} {rest:List Nat} {o:Oper} (ho:ops[i]?=some o) (hw:Region.wanted o (yielded ops tm)=true) (hd:∀ c,o.op≠ .defer c) {f:FuncId} {args:Array Value} {w':World}
  (hr:(execOp (opv tm) o).run P w= .ok (.enter f args) w'):
  step P (lone (b.on tm ds (.inRegion ops (i::rest)::k)) cs w)= .next (lone (Frame.enter P f args .normal) (b.on tm ds (.inRegion ops (i::rest)::k)::cs) w'):=by
 refine step_lone_go ?_
 rw [x68 ho hw hd]
 simp [stepG.apply,hr,Frame.on]
end steps
def Arr (P:Program) (b:Frame) (cs:List Frame) (m:Machine) (k:List Item):AX→Array Value→List Deferred→World→Prop
 | .normal,tm,ds,w=>Steps P m (lone (b.on tm ds k) cs w)
 | .exit id,tm,ds,w=>∃ k',exitTo id k'=exitTo id k∧Steps P m (lone (b.on tm ds (.code (.exit id)::k')) cs w)
 | .ret,tm,ds,w=>∃ k',Steps P m (lone (b.on tm ds (.code .ret::k')) cs w)
theorem Arr.of_steps {P:Program} {b:Frame} {cs:List Frame} {m m':Machine} {k:List Item} {e:AX} {tm:Array Value} {ds:List Deferred} {w:World} (h:Steps P m m') (h':Arr P b cs m' k e tm ds w):Arr P b cs m k e tm ds w:=by
 cases e with
 |normal=>exact h.trans h'
 |exit id=>obtain ⟨k',e,hs⟩:=h'; exact ⟨k',e,h.trans hs⟩
 |ret=>obtain ⟨k',hs⟩:=h'; exact ⟨k',h.trans hs⟩
structure z5u (P:Program) (n:Nat) (c:Code) (s:AS) (Q:AX→AS→Prop):Prop where
 run:∀ (b:Frame) (k:List Item) (cs:List Frame) (ρ:Rho) (tm:Array Value) (ds:List Deferred) (w:World) (B:Nat),z1p P ρ s tm w→z3e b.roundOf B ρ.fr w ds→
  ∃ e s' ρ' tm' ds' w',Q e s'∧z1p P ρ' s' tm' w'∧z3e b.roundOf B ρ'.fr w' ds'∧s'.nt=s.nt∧Ext (· <n) ρ s.heap w ρ' s'.heap w'∧Arr P b cs (lone (b.on tm ds (.code c::k)) cs w) k e tm' ds' w'
section rules
variable {P:Program} {n:Nat} {s:AS} {Q:AX→AS→Prop}
theorem z5u.mono {c:Code} {Q':AX→AS→Prop} (h:z5u P n c s Q) (hq:∀ e s,Q e s→Q' e s):z5u P n c s Q':=
 ⟨fun b k cs ρ tm ds w B h1 h2=>let ⟨e,s',ρ',tm',ds',w',q,r⟩:=h.run b k cs ρ tm ds w B h1 h2; ⟨e,s',ρ',tm',ds',w',hq _ _ q,r⟩⟩
theorem x86 (h:Q .normal s):z5u P n .skip s Q:=
 ⟨fun b k cs ρ tm ds w B h1 h2=>⟨.normal,s,ρ,tm,ds,w,h,h1,h2,rfl,Ext.refl _ _ _ _, .one w35⟩⟩
theorem x6g {l:Nat} (h:Q .normal s):z5u P n (.label l) s Q:=
 ⟨fun b k cs ρ tm ds w B h1 h2=>⟨.normal,s,ρ,tm,ds,w,h,h1,h2,rfl,Ext.refl _ _ _ _, .one w0o⟩⟩
theorem x87 {id:Nat} (h:Q (.exit id) s):z5u P n (.exit id) s Q:=
 ⟨fun b k cs ρ tm ds w B h1 h2=>⟨.exit id,s,ρ,tm,ds,w,h,h1,h2,rfl,Ext.refl _ _ _ _,k,rfl,Steps.refl _ _⟩⟩
theorem w19 (h:Q .ret s):z5u P n .ret s Q:=
 ⟨fun b k cs ρ tm ds w B h1 h2=>⟨.ret,s,ρ,tm,ds,w,h,h1,h2,rfl,Ext.refl _ _ _ _,k,Steps.refl _ _⟩⟩
theorem z97 {id:Nat} {x:Item} {k:List Item} (hx:∀ j,x≠ .inBlock j):exitTo id (x::k)=exitTo id k:=by
 cases x<;>simp [exitTo] at*
theorem y8p {x y:Code} (h:z5u P n x s (fun e s'=>match e with| .normal=>z5u P n y s' Q|e=>Q e s')):z5u P n (.seq x y) s Q:=⟨by
 intro b k cs ρ tm ds w B h1 h2
 obtain ⟨e,s',ρ',tm',ds',w',q,r1,r2,r3,r4,r5⟩:=h.run b (.code y::k) cs ρ tm ds w B h1 h2
 cases e with
 |normal=>
  obtain ⟨e,s2,ρ2,tm2,ds2,w2,q2,g1,g2,g3,g4,g5⟩:=q.run b k cs ρ' tm' ds' w' B r1 r2
  exact ⟨e,s2,ρ2,tm2,ds2,w2,q2,g1,g2,g3.trans r3,r4.trans g4, .of_steps (.head x65 r5) g5⟩
 |exit id=>
  obtain ⟨k',e,hs⟩:=r5
  exact ⟨.exit id,s',ρ',tm',ds',w',q,r1,r2,r3,r4,k',by rw [e,z97 (by simp)], .head x65 hs⟩
 |ret=>
  obtain ⟨k',hs⟩:=r5
  exact ⟨.ret,s',ρ',tm',ds',w',q,r1,r2,r3,r4,k', .head x65 hs⟩⟩
theorem x42 {ρ:Rho} {O:Nat→Prop} {w:World} {t:Bool} {v:Value} (h:z0i ρ O w (.d (.bool t)) v):v= .bool t:=by
 cases h with|d h=>cases h; rfl
theorem x04 {c:Operand} {x y:Code} {t:Bool} (hc:z0j s.env c= .d (.bool t)) (h:z5u P n (if t then x else y) s Q):z5u P n (.cond c x y) s Q:=⟨by
 intro b k cs ρ tm ds w B h1 h2
 obtain ⟨e,s',ρ',tm',ds',w',q,r1,r2,r3,r4,r5⟩:=h.run b k cs ρ tm ds w B h1 h2
 have hv:=z0f h1.env c
 rw [hc] at hv
 exact ⟨e,s',ρ',tm',ds',w',q,r1,r2,r3,r4, .of_steps (.one (w37 (x42 hv))) r5⟩⟩
theorem z9g {id:Nat} {c:Code} (h:z5u P n c s (fun e s'=>match e with| .exit j=>if j=id then Q .normal s' else Q (.exit j) s'|e=>Q e s')):z5u P n (.block id c) s Q:=⟨by
 intro b k cs ρ tm ds w B h1 h2
 obtain ⟨e,s',ρ',tm',ds',w',q,r1,r2,r3,r4,r5⟩:=h.run b (.inBlock id::k) cs ρ tm ds w B h1 h2
 cases e with
 |normal=>exact ⟨.normal,s',ρ',tm',ds',w',q,r1,r2,r3,r4, .head y2q (Steps.trans r5 (.one x5h))⟩
 |exit j=>
  obtain ⟨k',e,hs⟩:=r5
  simp only at q
  by_cases hj:j=id
  ·subst hj
   rw [if_pos rfl] at q
   have e2:exitTo j k'=some k:=by rw [e]; simp [exitTo]
   exact ⟨.normal,s',ρ',tm',ds',w',q,r1,r2,r3,r4, .head y2q (Steps.trans hs (.one (w36 e2)))⟩
  ·rw [if_neg hj] at q
   exact ⟨.exit j,s',ρ',tm',ds',w',q,r1,r2,r3,r4,k',by rw [e]; simp [exitTo,Ne.symm hj], .head y2q hs⟩
 |ret=>
  obtain ⟨k',hs⟩:=r5
  exact ⟨.ret,s',ρ',tm',ds',w',q,r1,r2,r3,r4,k', .head y2q hs⟩⟩
theorem x6f {c:Code} (h:z5u P n c s Q):z5u P n (.scope c) s Q:=⟨by
 intro b k cs ρ tm ds w B h1 h2
 obtain ⟨e,s',ρ',tm',ds',w',q,r1,r2,r3,r4,r5⟩:=h.run b (.inScope c::k) cs ρ tm ds w B h1 h2
 cases e with
 |normal=>exact ⟨.normal,s',ρ',tm',ds',w',q,r1,r2,r3,r4, .head y7y (Steps.trans r5 (.one x5g))⟩
 |exit j=>
  obtain ⟨k',e,hs⟩:=r5
  exact ⟨.exit j,s',ρ',tm',ds',w',q,r1,r2,r3,r4,k',by rw [e,z97 (by simp)], .head y7y hs⟩
 |ret=>
  obtain ⟨k',hs⟩:=r5
  exact ⟨.ret,s',ρ',tm',ds',w',q,r1,r2,r3,r4,k', .head y7y hs⟩⟩
end rules
end Go.Am
end
section
namespace Go.Am
theorem z0r (env:List (Nat×AV)) (t:Nat) (v:AV):z1k (x93 env t v) t=v:=by
 simp [x93,z1k]
theorem z09 (env:List (Nat×AV)) (t t':Nat) (v:AV) (h:t≠t'):z1k (x93 env t v) t'=z1k env t':=by
 have:Nat.beq t t'=false:=by cases hb:Nat.beq t t' with
  |false=>rfl
  |true=>exact absurd (eAc hb) h
 simp [x93,z1k,this]
theorem z34 (u:List (Nat×AO)):∀ (h:List AO),h.length≤(z06 h u).length∧∀ i o,(i,o)∈u→i<(z06 h u).length:=by
 induction u with
 |nil=>intro h; exact ⟨eAk _,by simp⟩
 |cons x u ih=>
  intro h
  obtain ⟨i,o⟩:=x
  have h1:=z1m h i o
  obtain ⟨a,b⟩:=ih (z0x h i o)
  simp only [z06]
  refine ⟨by omega,fun j q hj=>?_⟩
  rcases eAz.1 hj with e|e
  ·cases e; omega
  ·exact b j q e
def y3o (env:List (Nat×AV)) (dst:Option Tmp) (v:AV):List (Nat×AV):=
 match dst with
 |some d=>x93 env d v
 |none=>env
def z5b (nt:Nat) (dst:Option Tmp):Bool:=
 match dst with
 |some d=>Nat.blt d nt
 |none=>true
def z43:AS→Option Tmp→AV→List (Nat×AO)→AS
 |⟨env,heap,nt⟩,dst,v,u=>⟨y3o env dst v,z06 heap u,nt⟩
section
variable {P:Program} {ρ:Rho} {h:List AO} {w:World}
theorem y1t {ρ':Rho} {O':Nat→Prop} {O:Nat→Prop} {w':World} {env:List (Nat×AV)} {tm:Array Value} (k:z3s O O' w w') (hρ:∀ id L,ρ id=some L→ρ' id=some L) (he:z5q ρ O w env tm) {dst:Option Tmp} {nt:Nat} (hn:tm.size=nt) (hd:z5b nt dst=true)
  {x:AV} {v:Value} (hv:z0i ρ' O' w' x v):z5q ρ' O' w' (y3o env dst x) (y11 tm dst v):=by
 intro t
 cases dst with
 |none=>exact (he t).keep k hρ
 |some d=>
  simp only [z5b] at hd
  have hlt:d<tm.size:=by rw [hn]; exact eAn (Nat.lt_succ_self d) (eAf hd)
  simp only [y3o,y11]
  by_cases ht:d=t
  ·subst ht
   rw [z0r]
   have:(tm.setIfInBounds d v).getD d undef=v:=by simp [eAh,hlt]
   rw [this]; exact hv
  ·rw [z09 _ _ _ _ ht]
   have:(tm.setIfInBounds d v).getD t undef=tm.getD t undef:=by simp [eAh,eBs,ht]
   rw [this]; exact (he t).keep k hρ
theorem z8f (tm:Array Value) (dst:Option Tmp) (v:Value):(y11 tm dst v).size=tm.size:=by
 cases dst<;>simp [y11]
theorem z1p.step {s:AS} {tm:Array Value} (h1:z1p P ρ s tm w) {new:Nat} (hnew:new=s.heap.length) {dst:Option Tmp} (hd:z5b s.nt dst=true) {res:Res} {v:Value} {w':World} {ρ':Rho}
  (hv:z0i ρ' (z0c ρ' (z06 s.heap res.u)) w' res.v v) (hh:z0a P ρ' (z06 s.heap res.u) w') (hx:Ext (fun id=>id≠new) ρ s.heap w ρ' (z06 s.heap res.u) w') (hr:ρ'=ρ∨∃ o,(new,o)∈res.u):
  z1p P ρ' (z43 s dst res.v res.u) (y11 tm dst v) w':=by
 obtain ⟨l1,l2⟩:=z34 res.u s.heap
 have hnone:ρ new=none:=by
  cases hq:ρ new with
  |none=>rfl
  |some L=>have:=h1.dom new (by rw [hq]; simp); omega
 refine ⟨hh,y1t hx.keep (fun id L hL=>?_) h1.env h1.size hd hv,by rw [z8f]; exact h1.size,fun id hid=>?_⟩
 ·rw [hx.rho id (by rintro rfl; rw [hnone] at hL; cases hL)]; exact hL
 ·show id<(z06 s.heap res.u).length
  by_cases he:id=new
  ·subst he
   rcases hr with rfl|⟨o,ho⟩
   ·exact absurd hnone hid
   ·exact l2 _ _ ho
  ·rw [hx.rho id he] at hid
   have:=h1.dom id hid; omega
structure y80 (P:Program) (n:Nat) (ops:Array Oper) (l:List Nat) (s:AS) (Q:AS→Prop):Prop where
 run:∀ (b:Frame) (k:List Item) (cs:List Frame) (ρ:Rho) (tm:Array Value) (ds:List Deferred) (w:World) (B:Nat),z1p P ρ s tm w→z3e b.roundOf B ρ.fr w ds→
  ∃ s' ρ' tm' w',Q s'∧z1p P ρ' s' tm' w'∧z3e b.roundOf B ρ'.fr w' ds∧s'.nt=s.nt∧Ext (· <n) ρ s.heap w ρ' s'.heap w'∧Steps P (lone (b.on tm ds (.inRegion ops l::k)) cs w) (lone (b.on tm' ds k) cs w')
theorem w00 {n:Nat} {ops:Array Oper} {s:AS} {Q:AS→Prop} (h:Q s):y80 P n ops [] s Q:=
 ⟨fun b k cs ρ tm ds w B h1 h2=>⟨s,ρ,tm,w,h,h1,h2,rfl,Ext.refl _ _ _ _, .one z7g⟩⟩
def z5o (ops:List Oper) (env:List (Nat×AV)):Option (Nat×Bool)→Option Bool
 |none=>some true
 |some (j,want)=>match z1j ops j with
  |some o=>match o.dst with
   |some d=>match z1k env d with
    | .d (.bool t)=>some (t==want)
    | .tuple []=>some false
    |_=>none
   |none=>none
  |none=>none
theorem y88 {O:Nat→Prop}:z0i ρ O w (.tuple []) undef:= .tuple [] #[] rfl (by simp)
theorem z4v {ops:Array Oper} {s:AS} {tm:Array Value} (h1:z1p P ρ s tm w) {o:Oper} {b:Bool} (hg:z5o ops.toList s.env o.guard=some b):Region.wanted o (yielded ops tm)=b:=by
 unfold Region.wanted
 cases hgd:o.guard with
 |none=>rw [hgd] at hg; simp [z5o] at hg; subst hg; rfl
 |some g=>
  obtain ⟨j,want⟩:=g
  rw [hgd] at hg
  simp only [z5o] at hg
  split at hg
  ·rename_i o' ho'
   split at hg
   ·rename_i d hd
    split at hg
    ·rename_i t ht
     cases hg
     rw [z1b] at ho'
     have hv:=h1.env d
     rw [ht] at hv
     have hv:=x42 hv
     have hy:yielded ops tm j=some t:=by
      have hoj:ops[j]?=some o':=by simpa using ho'
      have:tm[d]?=some (.bool t):=by
       rw [eAh] at hv
       cases hq:tm[d]? with
       |none=>rw [hq] at hv; simp [undef] at hv
       |some u=>rw [hq] at hv; simp at hv; rw [hv]
      simp [yielded,hoj,hd,this]
     simp [hy]
    ·rename_i ht
     cases hg
     rw [z1b] at ho'
     have hv:=h1.env d
     rw [ht] at hv
     have hy:yielded ops tm j=none:=by
      have hoj:ops[j]?=some o':=by simpa using ho'
      cases hq:tm[d]? with
      |none=>simp [yielded,hoj,hd,hq]
      |some u=>
       rw [eAh,hq] at hv
       simp only [eBk] at hv
       cases hv with|tuple _ vs hl _=>
       simp [yielded,hoj,hd,hq]
     simp [hy]
    ·cases hg
   ·cases hg
  ·cases hg
theorem x7n {T:TypeId→Option TI} (hT:y0f P T) {G:Nat→Option (List D)} (hG:GOk P G) {n:Nat} {ops:Array Oper} {i:Nat} {rest:List Nat} {s:AS} {Q:AS→Prop} {o:Oper} (ho:ops[i]?=some o) (hg:z5o ops.toList s.env o.guard=some true) (hn:n≤s.heap.length)
  {q:Bool} {r:List D} {ra:List AV} {res:Res} (hw:(z1q std T s.env s.heap o.op).ok q r ra) (hs:z08 std T G s.env s.heap s.heap.length q r ra o.op=some res) (hc:res.c=true) (hd:z5b s.nt o.dst=true)
  (h:y80 P n ops rest (z43 s o.dst res.v res.u) Q):y80 P n ops (i::rest) s Q:=⟨by
 intro b k cs ρ tm ds w B h1 h2
 have hnone:ρ s.heap.length=none:=by
  cases hq:ρ s.heap.length with
  |none=>rfl
  |some L=>have:=h1.dom s.heap.length (by rw [hq]; simp); omega
 obtain ⟨v,w',ρ',hrun,hv,hh,hx,hr⟩:=x27 hT hG h1.heap hnone h1.env hw hs hc
 have h1':=h1.step rfl hd hv hh hx hr
 have h2':=h2.keep h1.heap hx
 obtain ⟨s2,ρ2,tm2,w2,q2,g1,g2,g3,g4,g5⟩:=h.run b k cs ρ' _ ds w' B h1' h2'
 have hdef:∀ c,o.op≠ .defer c:=by
  intro c hc; rw [hc] at hs; simp [z08] at hs
 exact ⟨s2,ρ2,tm2,w2,q2,g1,g2,g3,(hx.mono (fun id (hid:id<n)=>by show id≠s.heap.length; omega)).trans g4, .head (z9w ho (z4v h1 hg) hdef hrun) g5⟩⟩
theorem x7o {n:Nat} {ops:Array Oper} {i:Nat} {rest:List Nat} {s:AS} {Q:AS→Prop} {o:Oper} (ho:ops[i]?=some o) (hg:z5o ops.toList s.env o.guard=some false) (hd:z5b s.nt o.dst=true)
  (h:y80 P n ops rest (z43 s o.dst (.tuple []) []) Q):y80 P n ops (i::rest) s Q:=⟨by
 intro b k cs ρ tm ds w B h1 h2
 have h1':z1p P ρ (z43 s o.dst (.tuple []) []) (y11 tm o.dst undef) w:=
  h1.step (new:=s.heap.length) rfl (res:=⟨true, .tuple [],[]⟩) hd y88 h1.heap (Ext.refl _ _ _ _) (.inl rfl)
 obtain ⟨s2,ρ2,tm2,w2,q2,g1,g2,g3,g4,g5⟩:=h.run b k cs ρ _ ds w B h1' h2
 exact ⟨s2,ρ2,tm2,w2,q2,g1,g2,g3,g4, .head (y5x ho (z4v h1 hg)) g5⟩⟩
def z0z (ρ:Rho) (O:Nat→Prop) (w:World) (xs:List AV) (vs:Array Value):Prop:=vs.size=xs.length∧∀ (i:Nat) (x:AV),xs[i]?=some x→z0i ρ O w x (vs.getD i undef)
theorem z0z.append {O:Nat→Prop} {xs ys:List AV} {us vs:Array Value} (h1:z0z ρ O w xs us) (h2:z0z ρ O w ys vs):z0z ρ O w (xs++ys) (us++vs):=by
 refine ⟨by simp [h1.1,h2.1],fun i x hx=>?_⟩
 rw [eAs] at hx
 rw [eAh,Array.getElem?_append,h1.1]
 split at hx
 ·rename_i hlt
  rw [if_pos hlt, ←eAh]
  exact h1.2 i x hx
 ·rename_i hge
  rw [if_neg hge, ←eAh]
  exact h2.2 _ x hx
structure z2z (P:Program) (f:FuncId) (args:List AV) (h:List AO) (r:AV) (h':List AO):Prop where
 run:∀ (ρ:Rho) (vs:Array Value) (w:World) (cs:List Frame),z0a P ρ h w→Dom ρ h→z0z ρ (z0c ρ h) w args vs→
  ∃ ρ' v w' fr,Steps P (lone (Frame.enter P f vs .normal) cs w) (lone fr cs w')∧fr.fn=f∧fr.leaving P w' (.returned v)∧z0i ρ' (z0c ρ' h') w' r v∧z0a P ρ' h' w'∧Dom ρ' h'∧Ext (· <h.length) ρ h w ρ' h' w'
def z42 (P:Program) (f:FuncId):Prop:=∀ (args:Array Value) (w:World),(callFunc f args).run P w= .ok (.enter f args) w
theorem x2y {n:Nat} {id:Nat} {ops:Array Oper} {s:AS} {Q:AX→AS→Prop} (h:y80 P n ops (List.range ops.size) s (Q .normal)):z5u P n (.region id ops false) s Q:=⟨by
 intro b k cs ρ tm ds w B h1 h2
 obtain ⟨s2,ρ2,tm2,w2,q2,g1,g2,g3,g4,g5⟩:=h.run b k cs ρ tm ds w B h1 h2
 exact ⟨.normal,s2,ρ2,tm2,ds,w2,q2,g1,g2,g3,g4, .head x66 g5⟩⟩
def x3d (T:TypeId→Option TI) (s:AS):ResultVar→Option AV
 | .tmp t=>some (z1k s.env t)
 | .cell a t=>match T t with
  |some ti=>match z1k s.env a with
   | .bptr id off=>match z3u ti s.heap [] [] (.bptr id off) with
    |some r=>some r.v
    |none=>none
   |_=>none
  |none=>none
def y51 (T:TypeId→Option TI) (s:AS):List ResultVar→Option (List AV)
 |[]=>some []
 |x::r=>match x3d T s x,y51 T s r with
  |some v,some l=>some (v::l)
  |_,_=>none
def w6z (T:TypeId→Option TI) (s:AS) (l:List ResultVar):Option AV:=
 match y51 T s l with
 |some [v]=>some v
 |some vs=>some (.tuple vs)
 |none=>none
theorem x5c {ti:TI} {h:List AO} {r:List D} {ra:List AV} {a:AV} {res:Res} (hs:z3u ti h r ra a=some res):res.u=[]:=by
 unfold z3u at hs
 split at hs
 ·split at hs
  ·split at hs
   ·obtain ⟨_,_,rfl⟩:=z2c hs; rfl
   ·cases hs
  ·cases hl:z60 r ti.size with
   |false=>rw [hl] at hs; cases hs
   |true=>rw [hl] at hs; obtain ⟨_,_,rfl⟩:=z2c hs; rfl
  ·cases hs
 ·split at hs
  ·split at hs
   ·obtain ⟨_,_,rfl⟩:=z2c hs; rfl
   ·cases hs
  ·split at hs
   ·obtain ⟨_,_,rfl⟩:=z2c hs; rfl
   ·cases hs
  ·cases hs
 ·cases hl:z60 r ti.size with
  |false=>rw [hl] at hs; cases hs
  |true=>rw [hl] at hs; obtain ⟨_,_,rfl⟩:=z2c hs; rfl
 ·split at hs
  ·obtain ⟨_,_,rfl⟩:=z2c hs; rfl
  ·cases hs
 ·cases hs
theorem y71 {T:TypeId} {ti:TI} (ht:z5t P T ti) (hr:z0a P ρ h w) {id off:Nat} {va:Value} (ha:z0i ρ (z0c ρ h) w (.bptr id off) va) {res:Res} (hs:z3u ti h [] [] (.bptr id off)=some res):
  ∃ v,(Instr.loadAt T va).run P w= .ok v w∧z0i ρ (z0c ρ h) w res.v v:=by
 unfold z3u at hs
 simp only at hs
 split at hs
 ·rename_i cells hob
  split at hs
  ·rename_i l hp
   obtain ⟨x,hx,rfl⟩:=z2c hs
   cases ha with
   |bptr _ _ L hL=>
    obtain ⟨_,ho⟩:=hr.obj id L hL
    rw [hob] at ho
    obtain ⟨hbase,c,t,hc,hj⟩:=ho
    obtain ⟨hl,hg⟩:=z2g hp
    obtain ⟨cs,h1,h2,h3⟩:=z4l (R:=z0i ρ (z0c ρ h) w) (fun j=>c[L.base+off+j]?) l (fun j x hx=>by
     have hj':j<ti.size:=by rw [←hl]; exact (eAd.1 hx).1
     obtain ⟨v,hv,hrel⟩:=hj (off+j) x (by rw [hg j hj']; exact hx)
     exact ⟨v,by rw [eAy]; exact hv,hrel⟩)
    obtain ⟨v,hv1,hv2⟩:=z4i hx cs h1 h3
    refine ⟨v,?_,hv2⟩
    show (loadVar T _).run P w=_
    exact z2o ht.size ht.agg w _ _ cs (h1.trans hl) (fun j v hv=>z4z hc (h2 j v hv)) v hv1
  ·cases hs
 ·rename_i es hob
  cases hn:z60 ([]:List D) ti.size with
  |false=>rw [hn] at hs; cases hs
  |true=>
  rw [hn] at hs
  have hl:=z6z hn
  obtain ⟨x,hx,rfl⟩:=z2c hs
  cases ha with
  |bptr _ _ L hL=>
   obtain ⟨_,ho⟩:=hr.obj id L hL
   rw [hob] at ho
   obtain ⟨hz,c,t,hc,hlen,hj⟩:=ho
   obtain ⟨v,hv1,hv2⟩:=z2p (ρ:=ρ) (O:=z0c ρ h) (w:=w) hx [] rfl (by simp)
   refine ⟨v,?_,hv2⟩
   show (loadVar T _).run P w=_
   exact z2o ht.size ht.agg w _ _ [] hl (by simp) v hv1
 ·cases hs
def x7e (tm:Array Value):ResultVar→Sem Value
 | .tmp t=>pure (tm.getD t undef)
 | .cell a t=>do loadVar t (←asAddr (tm.getD a undef))
theorem x5m (fn:Func) (tm:Array Value):results fn tm=(do
  let vs←fn.results.mapM (x7e tm)
  pure (if h:vs.size=1 then vs[0] else .tuple vs)):=by
 unfold results
 congr 1
theorem x5l {T:TypeId→Option TI} (hT:y0f P T) {s:AS} {tm:Array Value} (h1:z1p P ρ s tm w) {fn:Func} {r:AV} (hr:w6z T s fn.results.toList=some r):
  ∃ v,(results fn tm).run P w= .ok v w∧z0i ρ (z0c ρ s.heap) w r v:=by
 have one:∀ (x:ResultVar) (a:AV),x3d T s x=some a→∃ v,(x7e tm x).run P w= .ok v w∧z0i ρ (z0c ρ s.heap) w a v:=by
  intro x a hx
  cases x with
  |tmp t=>simp [x3d] at hx; subst hx; exact ⟨_,rfl,h1.env t⟩
  |cell p t=>
   simp only [x3d] at hx
   split at hx
   ·rename_i ti hti
    split at hx
    ·rename_i id off hp
     split at hx
     ·rename_i res hres
      cases hx
      have hv:=h1.env p
      rw [hp] at hv
      obtain ⟨v,e1,e2⟩:=y71 (hT _ _ hti) h1.heap hv hres
      refine ⟨v,?_,e2⟩
      obtain ⟨A,hpv⟩:∃ A,tm.getD p undef= .pointer (some A):=by
       generalize hq:tm.getD p undef=pv at hv
       cases hv with
       |bptr _ _ L hL=>exact ⟨_,rfl⟩
      rw [hpv] at e1
      show (asAddr (tm.getD p undef)>>=fun a=>loadVar t a).run P w=_
      rw [hpv]
      simp only [Sem.run_bind,asAddr,Sem.run_pure,Result.andThen_ok]
      simpa [Instr.loadAt,Instr.sureAddr] using e1
     ·cases hx
    ·cases hx
   ·cases hx
 have all:∀ (l:List ResultVar) (az:List AV),y51 T s l=some az→∃ vs:List Value,(l.mapM (x7e tm)).run P w= .ok vs w∧vs.length=az.length∧∀ (i:Nat) (a:AV) (v:Value),az[i]?=some a→vs[i]?=some v→z0i ρ (z0c ρ s.heap) w a v:=by
  intro l
  induction l with
  |nil=>intro az h; simp [y51] at h; subst h; exact ⟨[],by simp,rfl,by simp⟩
  |cons x l ih=>
   intro az h
   simp only [y51] at h
   split at h
   ·rename_i a az' ha has
    cases h
    obtain ⟨v,e1,e2⟩:=one x a ha
    obtain ⟨vs,f1,f2,f3⟩:=ih az' has
    refine ⟨v::vs,by simp only [List.mapM_cons,Sem.run_bind,e1,Result.andThen_ok,f1,Sem.run_pure],by simp [f2],fun i a' v' ha' hv'=>?_⟩
    cases i with
    |zero=>simp at ha' hv'; subst ha'; subst hv'; exact e2
    |succ i=>exact f3 i a' v' (by simpa using ha') (by simpa using hv')
   ·cases h
 unfold w6z at hr
 have fin:∀ (az:List AV),y51 T s fn.results.toList=some az→∃ vs:List Value,(results fn tm).run P w= .ok (if h:vs.toArray.size=1 then vs.toArray[0] else .tuple vs.toArray) w∧vs.length=az.length∧∀ (i:Nat) (a:AV) (v:Value),az[i]?=some a→vs[i]?=some v→z0i ρ (z0c ρ s.heap) w a v:=by
  intro az has
  obtain ⟨vs,f1,f2,f3⟩:=all _ az has
  refine ⟨vs,?_,f2,f3⟩
  rw [x5m,Array.mapM_eq_mapM_toList]
  simp only [Sem.run_bind,Sem.run_map,f1,Result.andThen_ok,Sem.run_pure]
 split at hr
 ·rename_i v hv
  cases hr
  obtain ⟨vs,g1,g2,g3⟩:=fin _ hv
  match vs,g2 with
  |[u],_=>exact ⟨u,by simpa using g1,g3 0 _ u rfl rfl⟩
 ·rename_i az hne has
  cases hr
  obtain ⟨vs,g1,g2,g3⟩:=fin _ has
  have hl:vs.toArray.size≠1:=by
   intro e
   rw [List.size_toArray,g2] at e
   match az,e with
   |[a],_=>exact hne a rfl
  rw [dif_neg hl] at g1
  refine ⟨_,g1, .tuple _ _ (by simp [g2]) fun i x hx=>?_⟩
  have hi:i<vs.length:=by rw [g2]; exact (eAd.1 hx).1
  have:=g3 i x vs[i] hx (eAa hi)
  rw [show vs.toArray.getD i undef=vs[i] by simp [eAh,hi]]
  exact this
 ·cases hr
def w1w:Nat→List AV→List (Nat×AV)
 |_,[]=>[]
 |i,x::r=>(i,x)::w1w (i+1) r
theorem x8i (l:List AV):∀ (i t:Nat),z1k (w1w i l) t=if i≤t then (l[t - i]?).getD .bot else .bot:=by
 induction l with
 |nil=>intro i t; simp [w1w,z1k]
 |cons x l ih=>
  intro i t
  simp only [w1w,z1k]
  cases hb:Nat.beq i t with
  |true=>have:=eAc hb; subst this; simp
  |false=>
   have hne:i≠t:=by rintro rfl; simp at hb
   simp only [cond_false]
   rw [ih]
   by_cases h1:i+1≤t
   ·rw [if_pos h1,if_pos (by omega),show t - i=(t - (i+1))+1 by omega]; simp
   ·rw [if_neg h1,if_neg (by omega)]
theorem z02.cells {O:Nat→Prop} {w w':World} (hc:∀ (a:Addr) (v:Value),w.cell? a=some v→w'.cell? a=some v) {x:D} {v:Value} (h:z02 O w x v):z02 O w' x v:=by
 induction h with
 |bool b=>exact .bool b
 |int k n=>exact .int k n
 |str s=>exact .str s
 |nilp=>exact .nilp
 |nilm=>exact .nilm
 |nilf=>exact .nilf
 |nili=>exact .nili
 |agg ds vs hl h ih=>exact .agg ds vs hl ih
 |lnil f z a c h=>exact .lnil f z a c h
 |list full es b o z c hz hne hO hlc hf hsz cell h1 hcc h ih=>exact .list full es b o z c hz hne hO hlc hf hsz cell h1 (fun j hj=>hc _ _ (hcc j hj)) ih
 |ref r b o hne hO cell hcc h ih=>exact .ref r b o hne hO cell (fun j hj=>hc _ _ (hcc j hj)) ih
theorem z0i.cells {ρ:Rho} {O:Nat→Prop} {w w':World} (hc:∀ (a:Addr) (v:Value),w.cell? a=some v→w'.cell? a=some v) (hs:w.heap.size≤w'.heap.size) (hb:∀ b m,z0t w b=some m→z0t w' b=some m) {x:AV} {v:Value} (h:z0i ρ O w x v):z0i ρ O w' x v:=by
 induction h with
 |bot v=>exact .bot v
 |d h=>exact .d (h.cells hc)
 |bptr id off L h=>exact .bptr id off L h
 |ptr id i off L h=>exact .ptr id i off L h
 |lptr r off b o hlt hO cell hcc hr=>exact .lptr r off b o (eAn hlt hs) hO cell (fun j hj=>hc _ _ (hcc j hj)) (fun j x hx=>(hr j x hx).cells hc)
 |wptr es off b o z hlt hO hz hcc=>exact .wptr es off b o z (eAn hlt hs) hO hz fun i r j x hi hx=>let ⟨v,hv,hr⟩:=hcc i r j x hi hx; ⟨v,hc _ _ hv,hr.cells hc⟩
 |perm es es' v hp h=>exact .perm es es' v hp (h.cells hc)
 |slice id z off len cap L a c h hz ha hcc hl=>
  refine .slice id z off len cap L a c h hz ha ?_ hl
  rcases hcc with hcc|⟨hcc,n,hn,hle⟩
  ·exact .inl hcc
  ·exact .inr ⟨hcc,n,hb _ _ hn,hle⟩
 |nils id z off cap a hc=>exact .nils id z off cap a hc
 |map id L h=>exact .map id L h
 |yld id L h=>exact .yld id L h
 |clo fn fs cs vf vc hf hc h1 h2 ih1 ih2=>exact .clo fn fs cs vf vc hf hc ih1 ih2
 |iface t x v h ih=>exact .iface t x v ih
 |agg xs vs hl h ih=>exact .agg xs vs hl ih
 |tuple xs vs hl h ih=>exact .tuple xs vs hl ih
theorem z0a.cells {ρ : Rho} {h : List AO} {w w' : World} (hr : z0a P ρ h w) (hc : ∀ (a : Addr) (v : Value), w.cell? a = some v → w'.cell? a = some v) (hs : w.heap.size ≤ w'.heap.size) (hb : ∀ b m, z0t w b = some m → z0t w' b = some m)
    (ho : ∀ b, z0c ρ h b → w'.heap[b]? = w.heap[b]?) : z0a P ρ h w' where
  obj := fun id L hL => by
    obtain ⟨h1, h2⟩ := hr.obj id L hL
    refine ⟨eAn h1 hs, ?_⟩
    by_cases hl : (z0e h id).live = true
    · have hbk := ho _ (.inr ⟨id, L, hL, hl, rfl⟩)
      cases hno : z0e h id with
      | dead => trivial
      | box cells =>
        rw [hno] at h2
        obtain ⟨hbase, c, t, hcb, hj⟩ := h2
        exact ⟨hbase, c, t, hbk ▸ hcb, fun j x hx => let ⟨v, hv, hvr⟩ := hj j x hx; ⟨v, hv, hvr.cells hc hs hb⟩⟩
      | row es =>
        rw [hno] at h2
        obtain ⟨hz, c, t, hcb, hl', hj⟩ := h2
        exact ⟨hz, c, t, hbk ▸ hcb, hl', fun i r j x hi hx => let ⟨v, hv, h1, hvr⟩ := hj i r j x hi hx; ⟨v, hv, h1, hvr.cells hc⟩⟩
      | arow es =>
        rw [hno] at h2
        obtain ⟨hz, c, t, hcb, hl', hj⟩ := h2
        exact ⟨hz, c, t, hbk ▸ hcb, hl', fun i r j x hi hx => let ⟨v, hv, h1, hvr⟩ := hj i r j x hi hx; ⟨v, hv, h1, hvr.cells hc hs hb⟩⟩
      | map es =>
        rw [hno] at h2
        obtain ⟨en, clk, hcb, hl', hj⟩ := h2
        exact ⟨en, clk, hbk ▸ hcb, hl', fun i k x hi => let ⟨e, he, h1, hvr⟩ := hj i k x hi; ⟨e, he, h1.cells hc, hvr.cells hc⟩⟩
      | loop st pd g pos nt env =>
        rw [hno] at h2
        obtain ⟨x, ps, asg, body, hcd, tm, ds, f, hcb, hl', hj⟩ := h2
        exact ⟨x, ps, asg, body, hcd, tm, ds, f, hbk ▸ hcb, hl', fun t => (hj t).cells hc hs hb⟩
    · cases hno : z0e h id <;> simp_all [AO.live, z0u]
  inj := hr.inj
  fr := fun b hf => eAn (hr.fr b hf) hs
  sep := hr.sep
  gl :=
    { lay := fun g cells hg => by
        obtain ⟨a, b, s, c⟩ := hr.gl.lay g cells hg
        refine ⟨eAn a hs, b, hb _ _ s, fun k x hx => ?_⟩
        obtain ⟨v, hv, hd⟩ := c k x hx
        exact ⟨v, hc _ _ hv, hd⟩
      shp := fun g b hg => by
        obtain ⟨a, b, v, hv, h⟩ := hr.gl.shp g b hg
        exact ⟨eAn a hs, b, v, hc _ _ hv, h⟩ }
theorem w0q {P:Program} {b:Nat} {ds:List Deferred} {w:World} (h:w.heap[b]?=some (.deferred (some ds))):(Instr.takeDeferred b).run P w= .ok ds (World.setObj w b (.deferred none)):=by
 simp [Instr.takeDeferred,getObj,setObj,Sem.run,h]; rfl
theorem w22 (B:Nat) (F:Nat→Prop):∀ (ds:List Deferred) (fr:Frame) (cs:List Frame) (w:World),fr.mode= .returning→fr.defers=ds→z3e none B F w ds→∃ w',Steps P (lone fr cs w) (lone { fr with defers:=[] } cs w')∧w'.os=w.os∧w'.tape=w.tape∧w'.output=w.output∧w'.heap.size=w.heap.size∧
  (∀ b,(∀ d∈ds,d.target≠ .collected b)→w'.heap[b]?=w.heap[b]?)∧w'.drawn=w.drawn
 |[],fr,cs,w,hm,hd,hok=>⟨w,by rw [←hd]; exact Steps.refl _ _,rfl,rfl,rfl,rfl,fun _ _=>rfl,rfl⟩
 |d::ds,fr,cs,w,hm,hd,hok=>by
  obtain ⟨r,e,hr,hB⟩:=hok.mark d (by simp)
  have hk:=w0q (P:=P) hr
  have hst:=step_collected (cs:=cs) (by rw [hm]; simp) hd (by rw [e]) hk
  have hlt:r<w.heap.size:=(eAe.1 hr).1
  obtain ⟨w',g1,g2,g3,g4,g5,g6,g7⟩:=w22 B F ds { fr with defers:=ds } cs (World.setObj w r (.deferred none)) hm rfl ⟨(List.nodup_cons.1 hok.nodup).2,fun d' hd'=>by
   obtain ⟨r',e',hr',hf'⟩:=hok.mark d' (by simp [hd'])
   refine ⟨r',e',?_,hf'⟩
   have hne:r'≠r:=by
    rintro rfl
    rw [←e] at e'
    subst e'
    exact (List.nodup_cons.1 hok.nodup).1 hd'
   rw [z1f _ _ _ _ hne]; exact hr',hok.below,by rw [z1c]; exact hok.le,fun l hl=>by cases hl⟩
  refine ⟨w', .head (by simpa using hst) g1,g2,g3,g4,by rw [g5,z1c],fun b hb=>?_,g7⟩
  rw [g6 b (fun d' hd'=>hb d' (by simp [hd']))]
  have:b≠r:=by rintro rfl; exact hb d (by simp) (by rw [e])
  exact z1f _ _ _ _ this
theorem z5q.init {O:Nat→Prop} {args:List AV} {vs:Array Value} (ha:z0z ρ O w args vs) (nt:Nat):z5q ρ O w (w1w 0 args) (vs++Array.replicate (nt - vs.size) undef):=by
 intro t
 rw [x8i,if_pos (eAv _),Nat.sub_zero]
 cases hq:args[t]? with
 |none=>exact .bot _
 |some x=>
  have:=ha.2 t x hq
  have hlt:t<vs.size:=by rw [ha.1]; exact (eAd.1 hq).1
  rw [eAh,Array.getElem?_append_left hlt, ←eAh]
  simpa using this
theorem x1d {T : TypeId → Option TI} (hT : y0f P T) {f : FuncId} {fn : Func} (hf : P.funcs[f]? = some fn) {c : Code} (hb : fn.body = some c) {args : List AV} {h : List AO} {r : AV} {h' : List AO} {nt : Nat} (hnt : fn.ntmps = nt) (hle : args.length ≤ nt)
    (hc : z5u P h.length c ⟨w1w 0 args, h, nt⟩ (fun e s => (e = .normal ∨ e = .ret) ∧ w6z T s fn.results.toList = some r ∧ s.heap = h')) : z2z P f args h r h' := ⟨by
  intro ρ vs w cs hh hdm ha
  have hstart : (Frame.enter P f vs .normal).on (vs ++ Array.replicate (nt - vs.size) undef) [] [.code c] = Frame.enter P f vs .normal := by
    simp [Frame.enter, Frame.on, hf, hb, hnt]
  have h1 : z1p P ρ ⟨w1w 0 args, h, nt⟩ (vs ++ Array.replicate (nt - vs.size) undef) w :=
    ⟨hh, z5q.init ha nt, by simp [ha.1]; omega, hdm⟩
  obtain ⟨e, s', ρ', tm', ds', w', ⟨q1, q2, q3⟩, g1, g2, g3, g4, g5⟩ := hc.run (Frame.enter P f vs .normal) [] cs ρ _ [] w w.heap.size h1 ⟨List.nodup_nil, by simp, hh.fr, eAk _, fun l hl => by cases hl⟩
  subst q3
  rw [hstart] at g5
  obtain ⟨todo, hst⟩ : ∃ todo, Steps P (lone (Frame.enter P f vs .normal) cs w) (lone { (Frame.enter P f vs .normal).on tm' ds' todo with mode := .returning } cs w') := by
    rcases q1 with rfl | rfl
    · exact ⟨_, Steps.trans g5 (.one (w6q rfl))⟩
    · obtain ⟨k', hs⟩ := g5
      exact ⟨_, Steps.trans hs (.one (w6p rfl))⟩
  obtain ⟨w2, u1, u2, u3, u4, u5, u6, u7⟩ := w22 (P := P) _ _ ds' { (Frame.enter P f vs .normal).on tm' ds' todo with mode := .returning } cs w' rfl rfl g2
  have hnot : ∀ b, z0c ρ' s'.heap b → ∀ d ∈ ds', d.target ≠ .collected b := by
    intro b hbo d hd hdt
    obtain ⟨r', e', hr', hf'⟩ := g2.mark d hd
    rw [e'] at hdt
    cases hdt
    exact x3n g1.heap (fun hf => by have := g2.below _ hf; omega) hbo hr'
  have hbs : ∀ b m, z0t w' b = some m → z0t w2 b = some m := by
    intro b m hm
    have : ∀ d ∈ ds', d.target ≠ .collected b := by
      intro d hd hdt
      obtain ⟨r', e', hr', _⟩ := g2.mark d hd
      rw [e'] at hdt; cases hdt
      simp [z0t, hr'] at hm
    unfold z0t; rw [u6 b this]; exact hm
  have hold : ∀ b, b < w.heap.size → w2.heap[b]? = w'.heap[b]? := by
    intro b hb
    refine u6 b fun d hd hdt => ?_
    obtain ⟨r', e', _, hB⟩ := g2.mark d hd
    rw [e'] at hdt; cases hdt
    omega
  have hcell : ∀ (a : Addr) (v : Value), w'.cell? a = some v → w2.cell? a = some v := by
    intro a v hv
    have : ∀ d ∈ ds', d.target ≠ .collected a.block := by
      intro d hd hdt
      obtain ⟨r', e', hr', _⟩ := g2.mark d hd
      rw [e'] at hdt; cases hdt
      unfold World.cell? at hv
      rw [hr'] at hv; cases hv
    rw [z1x (w := w') (u6 _ this)]; exact hv
  have hh2 : z0a P ρ' s'.heap w2 := g1.heap.cells hcell (by omega) hbs (fun b hb => u6 b (hnot b hb))
  have g1' : z1p P ρ' s' tm' w2 := ⟨hh2, fun t => (g1.env t).cells hcell (by omega) hbs, g1.size, g1.dom⟩
  obtain ⟨v, hv1, hv2⟩ := x5l hT g1' q2
  refine ⟨ρ', v, w2, _, Steps.trans hst u1, rfl, ⟨rfl, rfl, rfl, fn, hf, hv1⟩, hv2, hh2, g1.dom, ?_⟩
  exact
    { os := u2.trans g4.os
      tape := u3.trans g4.tape
      output := u4.trans g4.output
      keep :=
        { size := by rw [u5]; exact g4.keep.size
          frame := fun b hb ho => (hold b hb).trans (g4.keep.frame b hb ho)
          own := fun b hb ho => g4.keep.own b hb ho
          shape := fun b m hm => hbs b m (g4.keep.shape b m hm)
          drawn := by rw [u7]; exact g4.keep.drawn }
      rho := g4.rho
      fr := g4.fr
      frs := fun b hf => (hold b (hh.fr b hf)).trans (g4.frs b hf) }⟩
end
end Go.Am
end
section
namespace Go.Am
inductive y84:AV→Prop
 |bot:y84 .bot
 |d (x:D):y84 (.d x)
 |tuple (xs:List AV) (h:∀ (i:Nat) (x:AV),xs[i]?=some x→y84 x):y84 (.tuple xs)
 |agg (xs:List AV) (h:∀ (i:Nat) (x:AV),xs[i]?=some x→y84 x):y84 (.agg xs)
 |clo (fn:Fn) (fs cs:List AV) (h1:∀ (i:Nat) (x:AV),fs[i]?=some x→y84 x) (h2:∀ (i:Nat) (x:AV),cs[i]?=some x→y84 x):y84 (.clo fn fs cs)
theorem y84.rel {ρ ρ':Rho} {O O':Nat→Prop} {w:World} (ho:∀ b,O' b→O b) {x:AV} {v:Value} (hf:y84 x) (h:z0i ρ O w x v):z0i ρ' O' w x v:=by
 induction hf generalizing v with
 |bot=>exact .bot v
 |d x=>
  cases h with
  |d h=>exact .d (h.keep ⟨eAk _,fun _ _ _=>rfl,fun b _ hb=>ho b hb,fun _ _ h=>h,z0m.refl _⟩)
 |tuple xs hx ih=>
  cases h with
  |tuple _ vs hl hh=>exact .tuple _ _ hl fun i x hx=>ih i x hx (hh i x hx)
 |agg xs hx ih=>
  cases h with
  |agg _ vs hl hh=>exact .agg _ _ hl fun i x hx=>ih i x hx (hh i x hx)
 |clo fn fs cs h1 h2 ih1 ih2=>
  cases h with
  |clo _ _ _ vf vc a b c d=>exact .clo _ _ _ _ _ a b (fun i x hx=>ih1 i x hx (c i x hx)) (fun i x hx=>ih2 i x hx (d i x hx))
def w56 (P:Program) (f:FuncId) (args:List AV) (r:AV):Prop:=z2z P f args [] r []
theorem w56.at {P : Program} {f : FuncId} {args : List AV} {r : AV} (h : w56 P f args r) (ha : ∀ (i : Nat) (x : AV), args[i]? = some x → y84 x) (hr : y84 r) (hp : List AO) : z2z P f args hp r hp := ⟨by
  intro ρ vs w cs hh hdm har
  let ρc : Rho := ⟨fun _ => none, z0c ρ hp⟩
  have hc : z0a P ρc [] w := ⟨fun id L hL => (by cases hL), fun id id' L L' hL => (by cases hL), fun b hb => z50 hh hb, fun id L hL => (by cases hL), hh.gl.sub fun b hb => hb.elim id (fun ⟨id, L, hL, _⟩ => (by cases hL))⟩
  have hown : ∀ b, z0c ρc [] b ↔ z0c ρ hp b := fun b => ⟨fun hb => hb.elim id (fun ⟨id, L, hL, _⟩ => (by cases hL)), fun hb => .inl hb⟩
  obtain ⟨ρ', v, w', fr, hst, hfn, hlv, hv, hh', hdm', hx⟩ := h.run ρc vs w cs hc (fun id hid => absurd rfl hid) ⟨har.1, fun i x hi => (ha i x hi).rel (fun b hb => (hown b).1 hb) (har.2 i x hi)⟩
  have hfr : ρ'.fr = z0c ρ hp := hx.fr
  have hold : ∀ b, b < w.heap.size → w'.heap[b]? = w.heap[b]? := by
    intro b hb
    by_cases ho : z0c ρ hp b
    · exact hx.frs b ho
    · exact hx.keep.frame b hb (fun h => ho ((hown b).1 h))
  have hk : z3s (z0c ρ hp) (z0c ρ hp) w w' :=
    { size := hx.keep.size
      frame := fun b hb _ => hold b hb
      own := fun b _ h => h
      shape := hx.keep.shape
      drawn := hx.keep.drawn }
  refine ⟨ρ, v, w', fr, hst, hfn, hlv, hr.rel (fun b hb => .inl (by rw [hfr]; exact hb)) hv, hh.of_keep hk (fun b hb => hold b (z50 hh hb)), hdm, ?_⟩
  exact { os := hx.os, tape := hx.tape, output := hx.output, keep := hk, rho := fun _ _ => rfl, fr := rfl, frs := fun b hf => hold b (hh.fr b hf) }⟩
theorem z0a.ext {P:Program} {ρ:Rho} {h h':List AO} {w:World} (e:∀ id,z0e h id=z0e h' id) (hr:z0a P ρ h w):z0a P ρ h' w:=by
 have ho:z0c ρ h=z0c ρ h':=by funext b; unfold z0c; simp only [e]
 refine ⟨fun id L hL=>?_,fun id id' L L' h1 h2 l1 l2=>hr.inj id id' L L' h1 h2 (by rw [e]; exact l1) (by rw [e]; exact l2),hr.fr,fun id L hL hl=>hr.sep id L hL (by rw [e]; exact hl),ho▸hr.gl⟩
 have:=hr.obj id L hL
 rw [←ho, ←e]; exact this
theorem z2w {ρ:Rho} {h h':List AO} (e:∀ id,z0e h id=z0e h' id):z0c ρ h=z0c ρ h':=by funext b; unfold z0c; simp only [e]
def y53 (o:Op):List Nat:=o.operands.toList.filterMap fun| .tmp t=>some t|_=>none
def y6k (ops:List Oper):Option (Nat×Bool)→List Nat
 |none=>[]
 |some (j,_)=>match z1j ops j with
  |some o=>o.dst.toList
  |none=>[]
def z5g:Op→Bool
 | .load ..| .store ..| .lookup ..| .mapUpdate ..| .insert ..| .convert ..=>true
 | .call ⟨.builtin b,_,_⟩=>match b with
  | .min| .max=>false
  |_=>true
 | .call _=>true
 |_=>false
def y0j:Op→Bool
 | .store ..| .mapUpdate ..| .insert ..=>true
 | .call ⟨.builtin b,_,_⟩=>match b with
  | .min| .max| .len=>false
  |_=>true
 |_=>false
end Go.Am
end
section
namespace Go.Am
open Go.ChangeShapes Go.WideShapes
inductive RK where
 |int (k:IntKind)|bool|str
 |list (ks:List RK)
 deriving Inhabited
def w84 (P:Program) (r:TypeId→Option (List RK)):Nat→List Field→Option (List RK)
 |_,[]=>some []
 |off,f::fs=>match r f.type with
  |some ks=>bif Nat.beq f.offset off&&Nat.beq (P.cellsOf f.type) ks.length then match w84 P r (off+ks.length) fs with
    |some l=>some (ks++l)
    |none=>none
   else none
  |none=>none
def v0e {α:Type}:Nat→List α→List α
 |0,_=>[]
 |m+1,ks=>ks++v0e m ks
def shp (P:Program):Nat→TypeId→Option (List RK)
 |0,_=>none
 |n+1,t=>match P.underlying t with
  |some .bool=>some [.bool]
  |some (.int k)=>some [.int k]
  |some .string=>some [.str]
  |some (.slice e)=>match shp P n e with
   |some ks=>bif Nat.beq (P.cellsOf e) ks.length&&Nat.blt 0 ks.length then some [.list ks] else none
   |none=>none
  |some (.struct fs)=>match w84 P (shp P n) 0 fs.toList with
   |some ks=>bif Nat.beq (P.cellsOf t) ks.length then some ks else none
   |none=>none
  |some (.array m e)=>match shp P n e with
   |some ks=>bif Nat.beq (P.cellsOf e) ks.length&&Nat.beq (P.cellsOf t) (m*ks.length) then some (v0e m ks) else none
   |none=>none
  |_=>none
mutual
def DK:RK→D→Prop
 | .int k, .int k' n=>k'=k∧(Lit.int k n).wf=true
 | .bool, .bool _=>True
 | .str, .str s=>s.size≤maxLen
 | .list ks, .list f z es=>f=false∧z=ks.length∧es.length≤maxLen∧y4u ks es
 |_,_=>False
def DKs:List RK→List D→Prop
 |[],[]=>True
 |k::ks,d::ds=>DK k d∧DKs ks ds
 |_,_=>False
def y4u:List RK→List (List D)→Prop
 |_,[]=>True
 |ks,r::es=>DKs ks r∧y4u ks es
end
theorem DKs.length:∀ {ks:List RK} {ds:List D},DKs ks ds→ds.length=ks.length
 |[],[],_=>rfl
 |[],_::_,h=>by simp [DKs] at h
 |_::_,[],h=>by simp [DKs] at h
 |k::ks,d::ds,h=>by simp only [DKs] at h; simp [DKs.length h.2]
theorem DKs.append:∀ {ks ks':List RK} {ds ds':List D},DKs ks ds→DKs ks' ds'→DKs (ks++ks') (ds++ds')
 |[],_,[],_,_,h'=>h'
 |[],_,_::_,_,h,_=>by simp [DKs] at h
 |_::_,_,[],_,h,_=>by simp [DKs] at h
 |k::ks,_,d::ds,_,h,h'=>by
  simp only [DKs] at h
  exact ⟨h.1,DKs.append h.2 h'⟩
theorem z9j {ks:List RK}:∀ {es:List (List D)},y4u ks es↔∀ r∈es,DKs ks r
 |[]=>by simp [y4u]
 |r::es=>by simp [y4u,z9j (es:=es)]
section
variable {P:Program} {H:Type} {enc:TypeId×Value→H} {w:World} {O:Nat→Prop}
def x99 (O:Nat→Prop) (w:World) (ds:List D) (cs:List Value):Prop:=cs.length=ds.length∧∀ (j:Nat) (x:D),ds[j]?=some x→∃ v,cs[j]?=some v∧v.oneCell'=true∧z02 O w x v
theorem x99.one {x:D} {v:Value} (h1:v.oneCell'=true) (h:z02 O w x v):x99 O w [x] [v]:=⟨rfl,fun j y hj=>by
 match j,hj with
 |0,hj=>cases hj; exact ⟨v,rfl,h1,h⟩
 |j+1,hj=>simp at hj⟩
theorem x99.append {ds ds':List D} {cs cs':List Value} (h:x99 O w ds cs) (h':x99 O w ds' cs'):x99 O w (ds++ds') (cs++cs'):=by
 refine ⟨by simp [h.1,h'.1],fun j x hj=>?_⟩
 rw [eAs] at hj⊢
 rw [h.1]
 split at hj
 ·rename_i hl; rw [if_pos hl]; exact h.2 j x hj
 ·rename_i hl; rw [if_neg hl]; exact h'.2 _ x hj
theorem x00 {α:Type} (cs:List α) (a b:Nat) (h:a+b≤cs.length):cs.drop a=(cs.drop a).take b++cs.drop (a+b):=by
 rw [←eCw]
 exact (List.take_append_drop b (cs.drop a)).symm
def y8z (P:Program) (enc:TypeId×Value→H) (w:World) (O:Nat→Prop) (sp:Nat→Bool) (hd:Bool) (n:Nat):Prop:=
 ∀ (fuel:Nat) (t:TypeId) (cs:List Value) (ks:List RK) (x:DataW H×List MemPlace),shp P n t=some ks→DataW.trod enc P w 0 sp hd fuel t cs=some x→∃ ds,DKs ks ds∧x99 O w ds cs
theorem x0o {sp:Nat→Bool} {hd:Bool} {n:Nat} (ih:y8z P enc w O sp hd n) {fuel:Nat} {cs:List Value}:∀ (fs:List Field) (off:Nat) (ks:List RK),w84 P (shp P n) off fs=some ks→off+ks.length=cs.length→
  (∀ f∈fs,∃ x,DataW.trod enc P w 0 sp hd fuel f.type ((cs.drop f.offset).take (P.cellsOf f.type))=some x)→∃ ds,DKs ks ds∧x99 O w ds (cs.drop off)
 |[],off,ks,h,hl,_=>by
  cases h
  simp only [List.length_nil,eAt] at hl
  subst hl
  exact ⟨[],trivial,by rw [List.drop_length]; exact ⟨rfl,fun j x hj=>by simp at hj⟩⟩
 |f::fs,off,ks,h,hl,hr=>by
  simp only [w84] at h
  split at h
  ·rename_i ks0 h0
   cases hb:Nat.beq f.offset off&&Nat.beq (P.cellsOf f.type) ks0.length with
   |false=>rw [hb] at h; cases h
   |true=>
    rw [hb] at h; simp only [cond_true] at h
    have hb:=(Iff.of_eq (eAb _ _)).1 hb|>.imp eAc eAc
    split at h
    ·rename_i l h1
     cases h
     rw [eBu] at hl
     obtain ⟨x,hx⟩:=hr f (by simp)
     rw [hb.1,hb.2] at hx
     obtain ⟨ds0,a1,a2⟩:=ih _ _ _ _ _ h0 hx
     obtain ⟨ds1,b1,b2⟩:=x0o ih fs (off+ks0.length) l h1 (by omega) (fun f hf=>hr f (by simp [hf]))
     refine ⟨ds0++ds1,a1.append b1,?_⟩
     rw [x00 cs off ks0.length (by omega)]
     exact a2.append b2
    ·cases h
  ·cases h
theorem x7c {sp:Nat→Bool} {hd:Bool} {n:Nat} (ih:y8z P enc w O sp hd n) {fuel:Nat} {cs:List Value} {e:TypeId} {ks:List RK} (h:shp P n e=some ks) (hc:P.cellsOf e=ks.length):∀ (m off:Nat),off*ks.length+m*ks.length=cs.length→
  (∀ i,off≤i→i<off+m→∃ x,DataW.trod enc P w 0 sp hd fuel e ((cs.drop (i*P.cellsOf e)).take (P.cellsOf e))=some x)→∃ ds,DKs (v0e m ks) ds∧x99 O w ds (cs.drop (off*ks.length))
 |0,off,hl,_=>by
  simp only [Nat.zero_mul,eAt] at hl
  exact ⟨[],trivial,by rw [hl,List.drop_length]; exact ⟨rfl,fun j x hj=>by simp at hj⟩⟩
 |m+1,off,hl,hr=>by
  rw [eAl,Nat.one_mul] at hl
  obtain ⟨x,hx⟩:=hr off (eAk _) (by omega)
  rw [hc] at hx
  obtain ⟨ds0,a1,a2⟩:=ih _ _ _ _ _ h hx
  have e1:(off+1)*ks.length=off*ks.length+ks.length:=by rw [eAl,Nat.one_mul]
  obtain ⟨ds1,b1,b2⟩:=x7c ih h hc m (off+1) (by rw [e1]; omega) (fun i h1 h2=>hr i (by omega) (by omega))
  refine ⟨ds0++ds1,a1.append b1,?_⟩
  rw [x00 cs (off*ks.length) ks.length (by omega), ←e1]
  exact a2.append b2
theorem y4j {p:Nat→List D→Prop}:∀ n,(∀ i,i<n→∃ r,p i r)→∃ es:List (List D),es.length=n∧∀ i r,es[i]?=some r→p i r
 |0,_=>⟨[],rfl,fun i r h=>by simp at h⟩
 |n+1,h=>by
  obtain ⟨es,a,b⟩:=y4j n fun i hi=>h i (Nat.lt_succ_of_lt hi)
  obtain ⟨r,hr⟩:=h n (Nat.lt_succ_self n)
  refine ⟨es++[r],by simp [a],fun i q hq=>?_⟩
  rw [eAs] at hq
  split at hq
  ·exact b i q hq
  ·rename_i hl
   have:i=n:=by
    cases hk:i - es.length with
    |zero=>omega
    |succ m=>rw [hk] at hq; simp at hq
   subst this
   rw [a,Nat.sub_self] at hq
   cases hq; exact hr
theorem x07 {base:Nat} {a:Addr} {n:Nat} {cs:List Value} (h:w.cells? base a n=some cs):cs.length=n∧∀ j,j<n→w.cell? (a.add j)=cs[j]?:=by
 unfold World.cells? at h
 split at h
 ·have key:∀ (m:Nat) (l:List Nat) (cs:List Value),l.mapM (fun i=>w.cell? (a.add i))=some cs→cs.length=l.length∧∀ (j i:Nat),l[j]?=some i→w.cell? (a.add i)=cs[j]?:=by
   intro m l
   induction l with
   |nil=>intro cs h; simp at h; subst h; simp
   |cons i l ih=>
    intro cs h
    simp only [List.mapM_cons,Option.bind_eq_bind,Option.bind_eq_some_iff,Option.pure_def,Option.some.injEq] at h
    obtain ⟨v,hv,vs,hvs,rfl⟩:=h
    obtain ⟨e1,e2⟩:=ih _ hvs
    refine ⟨by simp [e1],fun j i' hj=>?_⟩
    match j,hj with
    |0,hj=>simp at hj; subst hj; simpa using hv
    |j+1,hj=>simpa using e2 j i' (by simpa using hj)
  obtain ⟨e1,e2⟩:=key n _ _ h
  refine ⟨by simpa using e1,fun j hj=>e2 j j (by simp [hj])⟩
 ·cases h
theorem x9d {a:Addr} {v:Value} (h:w.cell? a=some v):a.spot=none:=by
 unfold World.cell? at h
 split at h
 ·split at h
  ·cases h
  ·rename_i hs; simpa using hs
 ·cases h
theorem x1f (b o k:Nat):(Addr.add ⟨b,o,none⟩ k)=⟨b,o+k,none⟩:=by
 unfold Addr.add
 split
 ·rename_i h; subst h; rfl
 ·rfl
theorem y75 {sp:Nat→Bool} {hd:Bool} (hO:∀ b,¬ O b):∀ n,y8z P enc w O sp hd n
 |0=>fun fuel t cs ks x h _=>by cases h
 |n+1=>fun fuel t cs ks x h ht=>by
  have ih:y8z P enc w O sp hd n:=y75 hO n
  cases fuel with
  |zero=>simp [DataW.trod] at ht
  |succ m=>
  simp only [shp] at h
  split at h
  ·
   rename_i hu
   cases h
   obtain ⟨b,rfl,_⟩:=DataW.trod_bool hu ht
   exact ⟨[.bool b],⟨trivial,trivial⟩, .one rfl (.bool _)⟩
  ·rename_i k hu
   cases h
   obtain ⟨i,rfl,_,hw⟩:=DataW.trod_int hu ht
   exact ⟨[.int k i],⟨⟨rfl,hw⟩,trivial⟩, .one rfl (.int _ _)⟩
  ·rename_i hu
   cases h
   obtain ⟨s,rfl,hsz⟩:∃ s,cs=[.string s]∧s.size≤maxLen:=by
    unfold DataW.trod at ht
    rw [hu] at ht
    split at ht<;>simp_all
   exact ⟨[.str s],⟨hsz,trivial⟩, .one rfl (.str _)⟩
  ·
   rename_i e hu
   split at h
   ·rename_i ks0 h0
    cases hb:Nat.beq (P.cellsOf e) ks0.length&&Nat.blt 0 ks0.length with
    |false=>rw [hb] at h; cases h
    |true=>
    rw [hb] at h; simp only [cond_true] at h; cases h
    have hb:=(Iff.of_eq (eAb _ _)).1 hb|>.imp eAc id
    have hz:0<ks0.length:=Nat.lt_of_succ_le (eAf hb.2)
    rcases DataW.trod_slice hu ht with ⟨rfl,_⟩|⟨a,len,cap,elems,rest,m',_,rfl,_,_,hlc,hcm,hel,hget,_⟩
    ·exact ⟨[.list false ks0.length []],by simp [DKs,DK,y4u], .one rfl (.lnil false _ _ _ (by simp))⟩
    ·rw [hb.1] at hget
     have hrow:∀ i,i<len→∃ r,DKs ks0 r∧∃ cs,w.cells? 0 (a.add (i*ks0.length)) ks0.length=some cs∧x99 O w r cs:=by
      intro i hi
      have h1:=hget i hi
      have hi':i<elems.length:=by omega
      rw [eAa hi'] at h1
      obtain ⟨cs,hcs,htr⟩:=Option.bind_eq_some_iff.1 h1
      obtain ⟨r,q1,q2⟩:=ih _ _ _ _ _ h0 htr
      exact ⟨r,q1,cs,hcs,q2⟩
     obtain ⟨es,hes,hp⟩:=y4j len hrow
     have hrows:y4u ks0 es:=z9j.2 fun r hr=>by
      obtain ⟨i,hi⟩:=eCd hr
      exact (hp i r hi).1
     refine ⟨[.list false ks0.length es],⟨⟨rfl,rfl,by omega,hrows⟩,trivial⟩, .one rfl ?_⟩
     by_cases h00:len=0
     ·have:es=[]:=eBn.1 (by omega)
      subst this; subst h00
      exact .lnil false _ _ _ (by simp)
     ·
      have hne:es≠[]:=fun h=>h00 (by rw [h] at hes; exact hes.symm)
      have hspot:a.spot=none:=by
       obtain ⟨r,hr⟩:∃ r,es[0]?=some r:=⟨es[0]'(by omega),eAa (by omega)⟩
       obtain ⟨_,cs,hcs,hcr⟩:=hp 0 r hr
       obtain ⟨e1,e2⟩:=x07 hcs
       have e3:=e2 0 hz
       rw [eAa (by omega)] at e3
       have:(a.add (0*ks0.length)).add 0=a:=by simp [Addr.add]
       rw [this] at e3
       exact x9d e3
      obtain ⟨b,o,s⟩:=a
      simp only at hspot; subst hspot
      have hcellk:∀ (i:Nat) (r:List D) (j:Nat) (x:D),es[i]?=some r→r[j]?=some x→∃ v,w.cell? ⟨b,o+(i*ks0.length+j),none⟩=some v∧v.oneCell'=true∧z02 O w x v:=by
       intro i r j x hi hj
       obtain ⟨q0,cs,hcs,hcr⟩:=hp i r hi
       obtain ⟨e1,e2⟩:=x07 hcs
       obtain ⟨v,hv,h1,h2⟩:=hcr.2 j x hj
       have hj':j<ks0.length:=by rw [←q0.length]; exact (eAd.1 hj).1
       have:=e2 j hj'
       rw [x1f,x1f,hv,eAy] at this
       exact ⟨v,this,h1,h2⟩
      have hlens:∀ (i:Nat) (r:List D),es[i]?=some r→r.length=ks0.length:=fun i r hi=>(hp i r hi).1.length
      let cell:Nat→Value:=fun k=>(w.cell? ⟨b,o+k,none⟩).getD undef
      have hall:∀ k,k<es.length*ks0.length→∃ v,w.cell? ⟨b,o+k,none⟩=some v∧v.oneCell'=true:=by
       intro k hk
       have hi:k / ks0.length<es.length:=(eCk hz).2 hk
       have hj:k % ks0.length<ks0.length:=eCr _ hz
       have hr:=eAa hi
       have hj2:k % ks0.length<(es[k / ks0.length]).length:=by rw [hlens _ _ hr]; exact hj
       obtain ⟨v,a1,a2,_⟩:=hcellk _ _ _ _ hr (eAa hj2)
       have:k / ks0.length*ks0.length+k % ks0.length=k:=by rw [eCb]; exact Nat.div_add_mod _ _
       rw [this] at a1
       exact ⟨v,a1,a2⟩
      have key:=z02.list (O:=O) (w:=w) false es b o ks0.length cap hz hne (hO b) (by omega) (by simp) hlens cell (fun k hk=>?_) (fun k hk=>?_) (fun i r j d hi hj=>?_)
      ·rw [hes] at key; exact key
      ·obtain ⟨v,a1,a2⟩:=hall k hk
       show ((w.cell? ⟨b,o+k,none⟩).getD undef).oneCell'=true
       rw [a1]; exact a2
      ·obtain ⟨v,a1,a2⟩:=hall k hk
       show w.cell? ⟨b,o+k,none⟩=some ((w.cell? ⟨b,o+k,none⟩).getD undef)
       rw [a1]; rfl
      ·obtain ⟨v,a1,_,a3⟩:=hcellk i r j d hi hj
       show z02 O w d ((w.cell? ⟨b,o+(i*ks0.length+j),none⟩).getD undef)
       rw [a1]; exact a3
   ·cases h
  ·
   rename_i fs hu
   split at h
   ·rename_i ks0 h0
    cases hb:Nat.beq (P.cellsOf t) ks0.length with
    |false=>rw [hb] at h; cases h
    |true=>
    rw [hb] at h; simp only [cond_true] at h; cases h
    have hb:=eAc hb
    obtain ⟨xs,m',_,_,hl,hxl,hf⟩:=DataW.trod_struct hu ht
    have:=x0o (P:=P) (enc:=enc) (w:=w) (O:=O) (cs:=cs) ih (fuel:=m') fs.toList 0 ks h0 (by omega) (fun f hfm=>by
     obtain ⟨i,hi⟩:=eCd hfm
     have hi':fs[i]?=some f:=by simpa using hi
     have:=hf i f hi'
     have hlt:i<xs.length:=by rw [hxl]; exact (eAe.1 hi').1
     rw [eAa hlt] at this
     exact ⟨_,this⟩)
    simpa using this
   ·cases h
  ·
   rename_i m e hu
   split at h
   ·rename_i ks0 h0
    cases hb:Nat.beq (P.cellsOf e) ks0.length&&Nat.beq (P.cellsOf t) (m*ks0.length) with
    |false=>rw [hb] at h; cases h
    |true=>
    rw [hb] at h; simp only [cond_true] at h; cases h
    have hb:=(Iff.of_eq (eAb _ _)).1 hb|>.imp eAc eAc
    obtain ⟨xs,m',_,_,hl,hxl,hf⟩:=DataW.trod_array hu ht
    have:=x7c (P:=P) (enc:=enc) (w:=w) (O:=O) (cs:=cs) ih (fuel:=m') h0 hb.1 m 0 (by omega) (fun i _ hi=>by
     have:=hf i (by omega)
     have hlt:i<xs.length:=by omega
     rw [eAa hlt] at this
     exact ⟨_,this⟩)
    simpa using this
   ·cases h
  ·cases h
end
def y2t (P:Program) (t:TypeId):Bool:=match P.underlying t with
 |some (.struct _)=>true
 |some (.array _ _)=>true
 |_=>false
def v16 (P:Program) (n:Nat) (t:TypeId) (x:D):Prop:=
 match y2t P t,shp P n t with
 |true,some ks=>∃ ds,x= .agg ds∧DKs ks ds
 |false,some [k]=>DK k x
 |_,_=>False
def w81 (P:Program) (n:Nat):List TypeId→List D→Prop
 |[],[]=>True
 |t::ts,x::xs=>v16 P n t x∧w81 P n ts xs
 |_,_=>False
def w38 (P:Program) (n:Nat) (ts:List TypeId):Bool:=ts.all fun t=>match y2t P t,shp P n t with
 |true,some _=>true
 |false,some [_]=>true
 |_,_=>false
section
variable {P:Program} {H:Type} {enc:TypeId×Value→H} {w:World} {O:Nat→Prop}
theorem w8r (hO:∀ b,¬ O b) {n:Nat} {t:TypeId} {v:Value} {r:Reach} {base:Nat} {d:DataW H} {ps:List MemPlace} (hs:w38 P n [t]=true) (hok:Value.okWide P w r base t v) (ht:DataW.Trod enc P w 0 (fun _=>true) true t v d ps):∃ x,v16 P n t x∧z02 O w x v:=by
 obtain ⟨fuel,ht⟩:=ht
 simp only [w38,List.all_cons,List.all_nil,eCc] at hs
 unfold v16
 split at hs
 ·rename_i ks h1 h2
  obtain ⟨ds,a,b⟩:=y75 hO n _ _ _ _ _ h2 ht
  unfold y2t at h1
  split at h1
  ·rename_i fs hu
   unfold Value.okWide at hok
   rw [hu] at hok
   obtain ⟨cs,rfl,hc,_⟩:=hok
   refine ⟨_,⟨ds,rfl,a⟩, .agg ds cs (by simpa [Value.cells] using b.1) fun i y hi=>?_⟩
   obtain ⟨u,hu1,_,hu3⟩:=b.2 i y hi
   have:cs[i]?=some u:=by simpa [Value.cells] using hu1
   rw [eAh,this]; exact hu3
  ·rename_i hu
   unfold Value.okWide at hok
   rw [hu] at hok
   obtain ⟨cs,rfl,hc,_⟩:=hok
   refine ⟨_,⟨ds,rfl,a⟩, .agg ds cs (by simpa [Value.cells] using b.1) fun i y hi=>?_⟩
   obtain ⟨u,hu1,_,hu3⟩:=b.2 i y hi
   have:cs[i]?=some u:=by simpa [Value.cells] using hu1
   rw [eAh,this]; exact hu3
  ·cases h1
 ·rename_i k h1 h2
  obtain ⟨ds,a,b⟩:=y75 hO n _ _ _ _ _ h2 ht
  have hl:=a.length
  match ds,hl with
  |[x],_=>
   refine ⟨x,a.1,?_⟩
   obtain ⟨u,hu1,hu2,hu3⟩:=b.2 0 x rfl
   have hv:v=u:=by
    cases v with
    |agg cs=>
     exfalso
     unfold Value.okWide at hok
     unfold y2t at h1
     cases n with
     |zero=>cases h2
     |succ n=>
      simp only [shp] at h2
      split at h2
      all_goals (rename_i hu; first|(rw [hu] at hok h1; simp [Cell.okWide,Cell.ok,hu] at hok h1)|cases h2)
    |_=>simpa [Value.cells] using hu1
   rw [hv]; exact hu3
 ·cases hs
theorem x9t (hO:∀ b,¬ O b) {n:Nat} {r:Reach} {base:Nat}:∀ {ts:List TypeId} {vs:List Value} {ds:List (DataW H)} {ps:List MemPlace},w38 P n ts=true→(∀ (j:Nat) t v,ts[j]?=some t→vs[j]?=some v→Value.okWide P w r base t v)→
  DataW.TrodAll enc P w 0 (fun _=>true) true ts vs ds ps→∃ xs,w81 P n ts xs∧vs.length=xs.length∧∀ (i:Nat) (x:D),xs[i]?=some x→∃ v,vs[i]?=some v∧z02 O w x v
 |[],[],[],_,_,_,_=>⟨[],trivial,rfl,fun i x h=>by simp at h⟩
 |[],[],_::_,_,_,_,h=>by simp [DataW.TrodAll] at h
 |[],_::_,_,_,_,_,h=>by simp [DataW.TrodAll] at h
 |_::_,[],_,_,_,_,h=>by simp [DataW.TrodAll] at h
 |_::_,_::_,[],_,_,_,h=>by simp [DataW.TrodAll] at h
 |t::ts,v::vs,d::ds,ps,hs,hok,h=>by
  obtain ⟨p,q,h1,h2,_⟩:=h
  have hs':w38 P n [t]=true∧w38 P n ts=true:=by
   simp only [w38,List.all_cons,List.all_nil,eCc,eAb] at hs⊢
   exact hs
  obtain ⟨x,a1,a2⟩:=w8r hO hs'.1 (hok 0 t v rfl rfl) h1
  obtain ⟨xs,b1,b2,b3⟩:=x9t hO hs'.2 (fun j t v h1 h2=>hok (j+1) t v (by simpa using h1) (by simpa using h2)) h2
  refine ⟨x::xs,⟨a1,b1⟩,by simp [b2],fun i y hi=>?_⟩
  match i,hi with
  |0,hi=>cases hi; exact ⟨v,rfl,a2⟩
  |i+1,hi=>simpa using b3 i y (by simpa using hi)
structure y4t (w w':World):Prop where
 os:w'.os=w.os
 tape:w'.tape=w.tape
 output:w'.output=w.output
 size:w.heap.size≤w'.heap.size
 block:∀ b,b<w.heap.size→w'.heap[b]?=w.heap[b]?
theorem w31 (l:List D):(toA l).length=l.length:=by
 induction l with
 |nil=>rfl
 |cons x l ih=>simp [toA,ih]
theorem y8s {g:FuncId} {args:Array Value} {xs:List D} {b:Bool} {h':List AO} (ha:z2z P g (toA xs) [] (.d (.bool b)) h') (hl:args.toList.length=xs.length)
  (hx:∀ (i:Nat) (x:D),xs[i]?=some x→∃ v,args.toList[i]?=some v∧z02 (fun _=>False) w x v) (hg:GL P (fun _=>False) w):Calls P g args w fun e w'=>e= .returned (.bool b)∧y4t w w':=by
 intro cs
 let ρ0:Rho:=⟨fun _=>none,fun _=>False⟩
 have hown:z0c ρ0 []=fun _=>False:=by
  funext c
  apply propext
  refine ⟨fun h=>?_,False.elim⟩
  rcases h with h|⟨id,L,hL,_⟩
  ·exact h
  ·cases hL
 have hr:z0a P ρ0 [] w:=⟨fun id L hL=>(by cases hL),fun id id' L L' hL=>(by cases hL),fun b hb=>hb.elim,fun id L hL=>(by cases hL),hown▸hg⟩
 obtain ⟨ρ',v,w',fr,s1,s2,s3,s4,s5,s6,s7⟩:=ha.run ρ0 args w cs hr (fun id hid=>absurd rfl hid) ⟨by rw [w31, ←hl]; simp,fun i x hi=>by
  rw [z03] at hi
  obtain ⟨d,hd,rfl⟩:=eAw.1 hi
  obtain ⟨v,hv,hr⟩:=hx i d hd
  rw [hown,eAh]
  have:args[i]?=some v:=by simpa using hv
  rw [this]; exact .d hr⟩
 refine ⟨.returned v,w',fr,⟨?_,s7.os,s7.tape,s7.output,s7.keep.size,fun c hc=>s7.keep.frame c hc ?_⟩,s1,s2,s3⟩
 ·cases s4 with
  |d h=>cases h; rfl
 ·rw [hown]; exact id
theorem y4t.at {w':World} (h:y4t w w') {p:MemPlace} (hp:p.block<w.heap.size):w.sameAt w' p:=by
 cases p with
 |cell b off=>
  show w'.cell? _=w.cell? _
  exact z1x (h.block b hp)
 |map b=>exact h.block b hp
theorem y08 {w w':World} {sp:Nat→Bool} {hd:Bool}:∀ {ts:List TypeId} {vs:List Value} {ds:List (DataW H)} {ps:List MemPlace},DataW.TrodAll enc P w 0 sp hd ts vs ds ps→(∀ p∈ps,w.sameAt w' p)→DataW.TrodAll enc P w' 0 sp hd ts vs ds ps
 |[],[],[],_,h,_=>h
 |[],[],_::_,_,h,_=>by simp [DataW.TrodAll] at h
 |[],_::_,_,_,h,_=>by simp [DataW.TrodAll] at h
 |_::_,[],_,_,h,_=>by simp [DataW.TrodAll] at h
 |_::_,_::_,[],_,h,_=>by simp [DataW.TrodAll] at h
 |t::ts,v::vs,d::ds,ps,h,hs=>by
  obtain ⟨p,q,⟨n,h1⟩,h2,rfl⟩:=h
  exact ⟨p,q,⟨n,DataW.trod_carry n _ _ _ h1 fun x hx=>hs x (by simp [hx])⟩,y08 h2 fun x hx=>hs x (by simp [hx]),rfl⟩
theorem x53 {w':World} {may:MemPlace→Prop} (h:y4t w w'):w.keptBut w' may:=by
 refine ⟨h.os,h.output,fun i hi=>?_⟩
 rw [h.block i hi]
 split
 ·rename_i c t fr c' t' fr' h1 h2
  rw [h1] at h2; cases h2
  exact ⟨rfl,rfl,rfl,fun _ _=>rfl⟩
 ·rename_i es clock es' clock' h1 h2
  rw [h1] at h2; cases h2
  exact .inr ⟨rfl,rfl⟩
 ·rfl
theorem y25 {sp:Nat→Bool} {hd:Bool}:∀ {ts:List TypeId} {vs:List Value} {ds:List (DataW H)} {ps:List MemPlace},DataW.TrodAll enc P w 0 sp hd ts vs ds ps→ds.length=ts.length
 |[],[],[],_,_=>rfl
 |[],[],_::_,_,h=>by simp [DataW.TrodAll] at h
 |[],_::_,_,_,h=>by simp [DataW.TrodAll] at h
 |_::_,[],_,_,h=>by simp [DataW.TrodAll] at h
 |_::_,_::_,[],_,h=>by simp [DataW.TrodAll] at h
 |t::ts,v::vs,d::ds,ps,h=>by
  obtain ⟨p,q,_,h2,_⟩:=h
  simp [y25 h2]
theorem w08 {f:Func} {s:ChangeSpec} {W W':World} {args:Array Value} {ds gs:List (DataW H)} {before:List MemPlace} {rt:TypeId}
  (hl:laidOutB P=true) (hm:mapsRowed P=true) (hsz:((List.range P.types.size).all fun t=>match P.underlying t with|some (.slice e)=>decide (0<P.cellsOf e)|_=>true)=true)
  (hts:f.params.toList.all (fun t=>decide (t<P.types.size))=true) (hv:s.vars=[]) (hrt:f.resultTypes=#[rt]) (hrb:P.underlying rt=some .bool)
  (hfn:∀ ds:List (DataW H),ds.length=f.params.toList.length→(s.fn H ds).results=[.lit (.bool true)]∧(s.fn H ds).args=ds∧(s.fn H ds).vars=[])
  (hW:DataW.Whole enc P f.params.toList s.vars false W args.toList ds gs before) (h:y4t W W'):s.post enc P f false true false false W args (.bool true) W':=by
 have hW':=hW
 obtain ⟨p,q,hA,hV,rfl,hz,_⟩:=hW
 rw [hv] at hV
 have hlt:=hW'.lt
 match gs,hV with
 |[],hV=>
 have hq:q=[]:=hV
 subst hq
 simp only [eCn] at hlt hz hW'
 obtain ⟨f1,f2,f3⟩:=hfn ds (y25 hA)
 have hres:∀ (b:Nat) (sp:Nat→Bool) (hd:Bool),DataW.TrodAll enc P W' b sp hd f.resultTypes.toList ((Value.bool true).resultList f.resultTypes.size) (s.fn H (ds++[])).results []:=by
  intro b sp hd
  rw [eCn,f1,hrt]
  exact ⟨[],[],⟨1,by simp [DataW.trod,hrb,Value.cells]⟩,rfl,rfl⟩
 have hargs:∀ sp:Nat→Bool,(∀ x∈p,sp x.block=true)→DataW.TrodAll enc P W' 0 sp true f.params.toList args.toList (s.fn H (ds++[])).args p:=by
  intro sp hsp
  rw [eCn,f2]
  exact (y08 hA fun x hx=>h.at (hlt x hx)).respare (kids_rows hl hm) (slices_full_of P hsz) (fun t ht=>by simpa using eAr.1 hts t ht) hsp
 have hvars:∀ sp:Nat→Bool,DataW.TrodVars enc P W' sp s.vars (s.fn H (ds++[])).vars []:=by
  intro sp; rw [eCn,f3,hv]; rfl
 refine ⟨ds,[],p,[],p,[],hW',hres _ _ _,hargs _ (fun x hx=>by simpa using hlt x hx),hvars _,x53 h,fun _=>?_⟩
 refine ⟨?_,_,_,([]++p)++[],⟨[]++p,[],trodAll_append (hargs _ (fun _ _=>rfl)) (hres _ _ _),hvars _,rfl,?_,?_⟩,?_⟩
 ·intro j t r h1 h2
  rw [hrt] at h1 h2
  match j,h1,h2 with
  |0,h1,h2=>
   simp at h1; subst h1
   have:r= .bool true:=by simpa [Value.resultList] using h2.symm
   subst this
   unfold Value.okWide
   rw [hrb]
   simp [Cell.okWide,Cell.ok,hrb]
  |j+1,h1,_=>simp at h1
 ·intro b off hp
  have hp:MemPlace.cell b off∈p:=by simpa using hp
  have:=hz b off hp
  have hb:=h.block b (hlt _ hp)
  unfold World.frozen? at this⊢
  simp only at this⊢
  rw [hb]; exact this
 ·intro ha; cases ha
 ·intro x hx _
  simpa using hx
end
end Go.Am
end
section
namespace Go.Am
open Go Go.RowKit Go.Proofs
theorem y2s {P:Program} {w:World}:∀ {l:List (String×DataW Unit)} {ps:List MemPlace},DataW.LaidVars P w l ps→∀ x∈l,∃ g t cs fuel p,P.globalNamed x.1=some g∧(P.globals[g]?).map (·.type)=some t∧w.var? P x.1=some cs∧
  DataW.trod (fun _=>()) P w 0 (fun _=>true) false fuel t cs.toList=some (x.2,p)
 |[],_,_,x,hx=>by cases hx
 |(n,d)::r,ps,h,x,hx=>by
  obtain ⟨g,t,cs,fuel,p,q,h1,h2,h3,h4,h5,_⟩:=h
  rcases eAz.1 hx with rfl|hx
  ·exact ⟨g,t,cs,fuel,p,h1,h2,h3,h4⟩
  ·exact y2s h5 x hx
theorem y22 {P:Program} {w:World} {n:String} {g:Nat} {cs:Array Value} (hg:P.globalNamed n=some g) (h:w.var? P n=some cs):z0t w g=some cs.size:=by
 unfold World.var? at h
 rw [hg] at h
 simp only [eAx] at h
 unfold z0t
 split at h<;>simp_all
theorem w6k {P:Program} {w:World} {n:String} {g:Nat} {cs:Array Value} (hg:P.globalNamed n=some g) (h:w.var? P n=some cs):g<w.heap.size:=z6c (y22 hg h)
theorem w7q {α:Type} (f:Int→α):∀ (l:List (Int×Int)) (j:Nat),(l.flatMap fun q=>[f q.1,f q.2])[j]?=(l[j / 2]?).map fun q=>if j % 2=0 then f q.1 else f q.2
 |[],j=>by simp
 |q::l,0=>by simp
 |q::l,1=>by simp
 |q::l,j+2=>by
  have e1:(j+2) / 2=j / 2+1:=by omega
  have e2:(j+2) % 2=j % 2:=by omega
  rw [e1,e2,List.flatMap_cons]
  show (f q.1::f q.2::l.flatMap fun q=>[f q.1,f q.2])[j+2]?=_
  simpa using w7q f l j
def unp:DataW Unit→List Int
 | .agg l=>l.map fun| .lit (.int _ z)=>z|_=>0
 |_=>[]
def w3z:DataW Unit→List (Int×Int)
 | .agg l=>l.map fun| .agg [.lit (.int _ a), .lit (.int _ b)]=>(a,b)|_=>(0,0)
 |_=>[]
def y76 (k:IntKind) (l:List (Int×Int)):DataW Unit:= .agg (l.map fun q=> .agg [.lit (.int k q.1), .lit (.int k q.2)])
theorem y5m {P:Program} {w:World} {base:Nat} {sp:Nat→Bool} {held:Bool} {fuel:Nat} {t e u:TypeId} {n:Nat} {k:IntKind} {fs:Array Field} {cs:List Value} {l:List (Int×Int)} {p:List MemPlace} {enc:TypeId×Value→Unit}
  (ht:P.underlying t=some (.array n e)) (he:P.underlying e=some (.struct fs)) (hu:P.underlying u=some (.int k)) (hce:P.cellsOf e=2) (hcu:P.cellsOf u=1) (hct:P.cellsOf t=n*2)
  (hf:(fs.toList.map fun f=>(f.type,f.offset))=[(u,0),(u,1)])
  (h:DataW.trod enc P w base sp held fuel t cs=some (y76 k l,p)):cs=l.flatMap fun q=>[Value.int k q.1,Value.int k q.2]:=by
 obtain ⟨xs,m,rfl,hx,hl,hxl,hi⟩:=DataW.trod_array ht h
 have hx1:xs.map (·.1)=l.map fun q=>(DataW.agg [.lit (.int k q.1), .lit (.int k q.2)]:DataW Unit):=by
  have:=congrArg Prod.fst hx
  simpa [y76] using this.symm
 have hll:l.length=n:=by
  have:=congrArg List.length hx1
  simp at this; omega
 have hfs:fs.size=2:=by
  have:=congrArg List.length hf
  simpa using this
 apply eBd
 intro j
 rw [w7q]
 by_cases hj:j / 2<n
 ·obtain ⟨q,hq⟩:∃ q,l[j / 2]?=some q:=⟨l[j / 2]'(by omega),eAa (by omega)⟩
  have h1:=hi (j / 2) hj
  have h2:(xs.map (·.1))[j / 2]?=some (.agg [.lit (.int k q.1), .lit (.int k q.2)]):=by rw [hx1,eAg,hq]; rfl
  rw [eAg] at h2
  cases hb:xs[j / 2]? with
  |none=>rw [hb] at h2; cases h2
  |some b=>
  rw [hb] at h1 h2
  obtain ⟨ys,m',rfl,hy,hyl,hyn,hg⟩:=DataW.trod_struct he h1
  have hy1:ys.map (·.1)=[.lit (.int k q.1), .lit (.int k q.2)]:=by
   have e1:=congrArg Prod.fst hy
   have e2:b.1= .agg [.lit (.int k q.1), .lit (.int k q.2)]:=Option.some.inj h2
   rw [e2] at e1
   simpa using e1.symm
  have fld:∀ (i:Nat) (z:Int),i<2→([q.1,q.2]:List Int)[i]?=some z→cs[j / 2*2+i]?=some (.int k z):=by
   intro i z hi2 hz
   have hfi:(fs.toList.map fun f=>(f.type,f.offset))[i]?=some (u,i):=by
    rw [hf]
    match i,hi2 with
    |0,_=>rfl
    |1,_=>rfl
   rw [eAg] at hfi
   cases hff:fs.toList[i]? with
   |none=>rw [hff] at hfi; cases hfi
   |some f=>
   rw [hff] at hfi
   have hfe:=Option.some.inj hfi
   have ht1:f.type=u:=congrArg Prod.fst hfe
   have ho1:f.offset=i:=congrArg Prod.snd hfe
   have h3:=hg i f (by simpa using hff)
   rw [ht1,ho1] at h3
   have h4:(ys.map (·.1))[i]?=some (.lit (.int k z)):=by
    rw [hy1]
    match i,hi2,hz with
    |0,_,hz=>cases hz; rfl
    |1,_,hz=>cases hz; rfl
   rw [eAg] at h4
   cases hyi:ys[i]? with
   |none=>rw [hyi] at h4; cases h4
   |some y=>
   rw [hyi] at h3 h4
   obtain ⟨z',hc,hyz,_⟩:=DataW.trod_int hu h3
   have:y.1= .lit (.int k z):=Option.some.inj h4
   rw [hyz] at this
   simp only [DataW.lit.injEq,Lit.int.injEq,true_and] at this
   subst this
   have h5:=congrArg (·[0]?) hc
   simp only [hcu,hce,List.getElem?_take,eBp,eCo] at h5
   simpa [eAy,show i<2 from hi2] using h5
  rw [hq]
  simp only [eBh]
  have hj2:j=j / 2*2+j % 2:=by omega
  have hm:j % 2<2:=eCr _ (by omega)
  by_cases hm0:j % 2=0
  ·rw [if_pos hm0]
   have:=fld 0 q.1 (by omega) rfl
   rw [show j=j / 2*2+0 by omega]
   simpa using this
  ·rw [if_neg hm0]
   have:=fld 1 q.2 (by omega) rfl
   rw [show j=j / 2*2+1 by omega]
   have e:(j / 2*2+1) / 2=j / 2:=by omega
   simpa [e] using this
 ·have hln:l[j / 2]?=none:=eCt (by omega)
  rw [hln,eCt (by rw [hl,hct]; omega)]
  rfl
theorem x1k {W:World} {n:String} {d:DataW Unit} {l:List (String×DataW Unit)} {ps:List MemPlace} (hL:DataW.LaidVars Tryz.prog W l ps) {i:Nat} (hx:l[i]?=some (n,d)) {g t e m:Nat} {k:IntKind}
  (hg:Tryz.prog.globalNamed n=some g) (hty:(Tryz.prog.globals[g]?).map (·.type)=some t) (ht:Tryz.prog.underlying t=some (.array m e)) (he:Tryz.prog.underlying e=some (.int k)) (hce:Tryz.prog.cellsOf e=1) (hct:Tryz.prog.cellsOf t=m)
  (hd:d=Lib.tabData k (unp d)):g<W.heap.size∧z0t W g=some (unp d).length∧∀ (j:Nat) (z:Int),(unp d)[j]?=some z→W.cell? ⟨g,j,none⟩=some (.int k z):=by
 obtain ⟨g',t',cs,fuel,p,h1,h2,h3,h4⟩:=y2s hL (n,d) (eAu hx)
 obtain rfl:=Option.some.inj (hg.symm.trans h1)
 obtain rfl:=Option.some.inj (hty.symm.trans h2)
 simp only at h4
 rw [hd] at h4
 have hc:=Lib.cells_of_tab ht he hce hct h4
 have hb:=y22 hg h3
 have hsz:cs.size=(unp d).length:=by
  have:=congrArg List.length hc
  simpa using this
 refine ⟨z6c hb,by rw [hb,hsz],fun j z hj=>?_⟩
 rw [World.var?_cell hg h3 j]
 have:=congrArg (·[j]?) hc
 simp only [eAg,hj,eBh] at this
 simpa using this
theorem w0z {W:World} {n:String} {d:DataW Unit} {l:List (String×DataW Unit)} {ps:List MemPlace} (hL:DataW.LaidVars Tryz.prog W l ps) {i:Nat} (hx:l[i]?=some (n,d)) {g t e u m:Nat} {k:IntKind} {fs:Array Field}
  (hg:Tryz.prog.globalNamed n=some g) (hty:(Tryz.prog.globals[g]?).map (·.type)=some t) (ht:Tryz.prog.underlying t=some (.array m e)) (he:Tryz.prog.underlying e=some (.struct fs)) (hu:Tryz.prog.underlying u=some (.int k))
  (hce:Tryz.prog.cellsOf e=2) (hcu:Tryz.prog.cellsOf u=1) (hct:Tryz.prog.cellsOf t=m*2) (hf:(fs.toList.map fun f=>(f.type,f.offset))=[(u,0),(u,1)])
  (hd:d=y76 k (w3z d)):g<W.heap.size∧z0t W g=some ((w3z d).flatMap fun q=>[q.1,q.2]).length∧∀ (j:Nat) (z:Int),((w3z d).flatMap fun q=>[q.1,q.2])[j]?=some z→W.cell? ⟨g,j,none⟩=some (.int k z):=by
 obtain ⟨g',t',cs,fuel,p,h1,h2,h3,h4⟩:=y2s hL (n,d) (eAu hx)
 obtain rfl:=Option.some.inj (hg.symm.trans h1)
 obtain rfl:=Option.some.inj (hty.symm.trans h2)
 simp only at h4
 rw [hd] at h4
 have hc:=y5m ht he hu hce hcu hct hf h4
 have hm:((w3z d).flatMap fun q=>[Value.int k q.1,Value.int k q.2])=((w3z d).flatMap fun q=>[q.1,q.2]).map (Value.int k):=by
  rw [List.map_flatMap]; rfl
 rw [hm] at hc
 have hb:=y22 hg h3
 have hsz:cs.size=((w3z d).flatMap fun q=>[q.1,q.2]).length:=by
  have:=congrArg List.length hc
  simpa using this
 refine ⟨z6c hb,by rw [hb,hsz],fun j z hj=>?_⟩
 rw [World.var?_cell hg h3 j]
 have:=congrArg (·[j]?) hc
 simp only [eAg,hj,eBh] at this
 simpa using this
theorem x8e {W:World} {n nm:String} {d:DataW Unit} {l:List (String×DataW Unit)} {ps:List MemPlace} (hL:DataW.LaidVars Tryz.prog W l ps) {i:Nat} (hx:l[i]?=some (n, .iface nm d)) {g t:Nat} {ms:Array (String×TypeId)}
  (hg:Tryz.prog.globalNamed n=some g) (hty:(Tryz.prog.globals[g]?).map (·.type)=some t) (ht:Tryz.prog.underlying t=some (.interface ms)):g<W.heap.size∧∃ u v,W.cell? ⟨g,0,none⟩=some (.iface u v):=by
 obtain ⟨g',t',cs,fuel,p,h1,h2,h3,h4⟩:=y2s hL (n, .iface nm d) (eAu hx)
 obtain rfl:=Option.some.inj (hg.symm.trans h1)
 obtain rfl:=Option.some.inj (hty.symm.trans h2)
 obtain ⟨fuel',u,v,hc,_⟩:=iface_of_trod ht h4
 refine ⟨w6k hg h3,u,v,?_⟩
 rw [World.var?_cell hg h3 0]
 have:=congrArg (·[0]?) hc
 simpa using this
open YtejcgpekgbiooaaGreatDoor in
abbrev x8a:List (String×DataW Unit):=Rows.docketCardsRow.laid
theorem x3u:(x8a.filter fun x=>x.2.handleName?.isSome)=[]:=by kernel_rfl
theorem w09 {w:World} (h:laidMet Tryz.prog x8a w):laidMetH Tryz.prog x8a w:=by
 unfold laidMetH
 rw [x3u]
 exact h
open YtejcgpekgbiooaaGreatDoor in
theorem w3y:x6u Tryz.prog=[(7,((w3z Rows.laid_unicode_utf8_acceptRanges).flatMap fun q=>[q.1,q.2]).map (.int .u8)),(1,(unp Rows.laid_internal_strconv_uint64pow10).map (.int .u64)),(5,(unp Rows.laid_math_bits_deBruijn64tab).map (.int .u8)),(4,(unp Rows.laid_math_bits_deBruijn32tab).map (.int .u8))]:=by kernel_rfl
theorem nm0 : Tryz.prog.globalNamed "internal/bytealg.MaxLen" = some 0 := by kernel_rfl
theorem nm1 : Tryz.prog.globalNamed "internal/strconv.uint64pow10" = some 1 := by kernel_rfl
theorem nm2 : Tryz.prog.globalNamed "strconv.ErrSyntax" = some 2 := by kernel_rfl
theorem nm3 : Tryz.prog.globalNamed "strconv.ErrRange" = some 3 := by kernel_rfl
theorem nm4 : Tryz.prog.globalNamed "math/bits.deBruijn32tab" = some 4 := by kernel_rfl
theorem nm5 : Tryz.prog.globalNamed "math/bits.deBruijn64tab" = some 5 := by kernel_rfl
theorem nm7 : Tryz.prog.globalNamed "unicode/utf8.acceptRanges" = some 7 := by kernel_rfl
open YtejcgpekgbiooaaGreatDoor in
theorem v00 {W : World} (hL0 : laidMetH Tryz.prog x8a W) (hsh : W.ShapedOpen Tryz.prog) : GL Tryz.prog (fun _ => False) W := by
 unfold laidMetH at hL0
 rw [x3u] at hL0
 obtain ⟨ps, hL, _, _⟩ : laidMet Tryz.prog x8a W := hL0
 refine ⟨fun g cells hgl => ?_, fun g b hs => ?_⟩
 ·unfold z94 at hgl
  rw [w3y] at hgl
  have fin : ∀ {k : IntKind} {zs : List Int}, (g < W.heap.size ∧ z0t W g = some zs.length ∧ ∀ (j : Nat) (z : Int), zs[j]? = some z → W.cell? ⟨g, j, none⟩ = some (.int k z)) → zs.map (.int k) = cells →
    g < W.heap.size ∧ ¬ False ∧ z0t W g = some cells.length ∧ ∀ (k : Nat) (x : D), cells[k]? = some x → ∃ v, W.cell? ⟨g, k, none⟩ = some v ∧ ∀ (O' : Nat → Prop) (w' : World), z02 O' w' x v := by
   rintro k zs ⟨a, b, c⟩ rfl
   refine ⟨a, id, by rw [b]; simp, fun j x hx => ?_⟩
   rw [eAg] at hx
   cases hz : zs[j]? with
   | none => rw [hz] at hx; cases hx
   | some z =>
    rw [hz] at hx
    cases hx
    exact ⟨_, c j z hz, fun _ _ => .int _ _⟩
  simp only [w4p] at hgl
  cases h7 : Nat.beq 7 g with
  | true =>
   obtain rfl := eAc h7
   simp only [h7, cond_true, Option.some.injEq] at hgl
   exact fin (w0z hL (i := 3) rfl nm7 (t := 231) (by kernel_rfl) (m := 16) (e := 230) (fs := match Tryz.prog.underlying 230 with | some (.struct fs) => fs | _ => #[]) (by kernel_rfl) (by kernel_rfl) (u := 5) (by kernel_rfl) (by kernel_rfl) (by kernel_rfl) (by kernel_rfl) (by kernel_rfl) (by kernel_rfl)) hgl
  | false =>
  cases h1 : Nat.beq 1 g with
  | true =>
   obtain rfl := eAc h1
   simp only [h7, h1, cond_false, cond_true, Option.some.injEq] at hgl
   exact fin (x1k hL (i := 2) rfl nm1 (t := 206) (by kernel_rfl) (m := 20) (e := 100) (by kernel_rfl) (by kernel_rfl) (by kernel_rfl) (by kernel_rfl) (by kernel_rfl)) hgl
  | false =>
  cases h5 : Nat.beq 5 g with
  | true =>
   obtain rfl := eAc h5
   simp only [h7, h1, h5, cond_false, cond_true, Option.some.injEq] at hgl
   exact fin (x1k hL (i := 1) rfl nm5 (t := 227) (by kernel_rfl) (m := 64) (e := 5) (by kernel_rfl) (by kernel_rfl) (by kernel_rfl) (by kernel_rfl) (by kernel_rfl)) hgl
  | false =>
  cases h4 : Nat.beq 4 g with
  | true =>
   obtain rfl := eAc h4
   simp only [h7, h1, h5, h4, cond_false, cond_true, Option.some.injEq] at hgl
   exact fin (x1k hL (i := 0) rfl nm4 (t := 226) (by kernel_rfl) (m := 32) (e := 5) (by kernel_rfl) (by kernel_rfl) (by kernel_rfl) (by kernel_rfl) (by kernel_rfl)) hgl
  | false =>
   simp only [h7, h1, h5, h4, cond_false] at hgl
   cases hgl
 ·unfold z9l at hs
  rw [nm0, nm2, nm3] at hs
  split at hs
  ·rename_i h0
   obtain rfl := Option.some.inj h0
   cases hs
   obtain ⟨m, hm⟩ := cell_of_shapedOpen_int (t := 3) (k := .i64) hsh (g := 0) (of_decide_eq_true (by kernel_rfl)) (zero := #[.int .i64 0]) (by kernel_rfl) rfl (by kernel_rfl) (by kernel_rfl) (by kernel_rfl)
   exact ⟨y0b hm, id, _, hm, m, rfl⟩
  ·split at hs
   ·rename_i h0
    cases hs
    rcases h0 with h0 | h0
    ·obtain rfl := Option.some.inj h0
     obtain ⟨a, u, v, hc⟩ := x8e hL (i := 5) rfl nm2 (t := 120) (ms := #[("Error", 71)]) (by kernel_rfl) (by kernel_rfl)
     exact ⟨a, id, _, hc, .inr ⟨u, v, rfl⟩⟩
    ·obtain rfl := Option.some.inj h0
     obtain ⟨a, u, v, hc⟩ := x8e hL (i := 4) rfl nm3 (t := 120) (ms := #[("Error", 71)]) (by kernel_rfl) (by kernel_rfl)
     exact ⟨a, id, _, hc, .inr ⟨u, v, rfl⟩⟩
   ·cases hs
end Go.Am
end
section
namespace Go.Am
def z38 (o:Oper):List Nat:=(o.after.toList.filter (Region.binds .any)).map (·.on)
def z52:List Nat→Nat→Nat
 |[],_=>0
 |x::_,0=>x
 |_::r,n+1=>z52 r n
def inB (s d:Nat):Bool:=Nat.beq (Nat.land (Nat.shiftRight s d) 1) 1
def w1d (acc:List Nat):Nat→List Nat→Nat
 |cur,[]=>cur
 |cur,d::r=>w1d acc (bif inB cur d then cur else Nat.lor (Nat.lor (Nat.shiftLeft 1 d) (z52 acc d)) cur) r
def w40 (acc:List Nat) (l:List Nat):Nat:=w1d acc 0 l.reverse
def z9o:List Oper→List Nat→List Nat
 |[],acc=>acc
 |o::r,acc=>z9o r (acc++[w40 acc (z38 o)])
def y1m (x:Nat):List Nat→Bool
 |[]=>false
 |y::l=>Nat.beq x y||y1m x l
theorem x3z {x:Nat} {l:List Nat}:y1m x l=true↔x∈l:=by
 induction l with
 |nil=>simp [y1m]
 |cons y l ih=>
  simp only [y1m,eAq,ih,eAz]
  constructor
  ·rintro (h|h)
   ·exact .inl (eAc h)
   ·exact .inr h
  ·rintro (rfl|h)
   ·exact .inl (eCs x)
   ·exact .inr h
def x3t:Option Nat→List Nat→Bool
 |none,_=>true
 |some t,l=>!y1m t l
def y0d (ops:List Oper) (a b:Oper):Bool:=
 x3t a.dst (y53 b.op++y6k ops b.guard++b.dst.toList)&&x3t b.dst (y53 a.op++y6k ops a.guard++a.dst.toList)
def x6e:List Nat→List Nat→Bool
 |[],_=>true
 |x::l,m=>!y1m x m&&x6e l m
theorem y6u:∀ {l m:List Nat},x6e l m=true→∀ id∈l,id∉m
 |[],_,_,id,h=>by cases h
 |x::l,m,h,id,hid=>by
  simp only [x6e,eAb,eBy] at h
  rcases eAz.1 hid with rfl|hid
  ·intro hm; rw [x3z.2 hm] at h; cases h.1
  ·exact y6u h.2 id hid
def x2f:List (List Nat)→Nat→List Nat
 |[],_=>[]
 |x::_,0=>x
 |_::r,n+1=>x2f r n
theorem z8k:∀ (acc:List (List Nat)) (x:List Nat) (j:Nat),j<acc.length→x2f (acc++[x]) j=x2f acc j
 |[],_,_,h=>by simp at h
 |_::_,_,0,_=>rfl
 |_::acc,x,j+1,h=>z8k acc x j (by simpa using h)
theorem z8l:∀ (acc:List (List Nat)) (x:List Nat),x2f (acc++[x]) acc.length=x
 |[],_=>rfl
 |_::acc,x=>z8l acc x
def x0d (ops:List Oper) (b:Oper) (an:Nat):Nat→Nat→List Oper→Bool
 |0,_,_=>true
 |n+1,i,a::l=>(Nat.testBit an i||y0d ops a b)&&x0d ops b an n (i+1) l
 |_+1,_,[]=>true
def x35 (ops:List Oper):Nat→List Oper→List Nat→Bool
 |_,[],_=>true
 |j,b::l,an::asq=>x0d ops b an j 0 ops&&x35 ops (j+1) l asq
 |_,_::_,[]=>false
def y5f (ops:List Oper):Bool:=x35 ops 0 ops (z9o ops [])
theorem y4e {ops:List Oper} {b:Oper} {an:Nat}:∀ {n i:Nat} {l:List Oper},x0d ops b an n i l=true→∀ (k:Nat) (a:Oper),k<n→l[k]?=some a→an.testBit (i+k)=true∨y0d ops a b=true
 |0,_,_,_,k,a,hk,_=>by omega
 |n+1,i,[],_,k,a,_,ha=>by simp at ha
 |n+1,i,x::l,h,k,a,hk,ha=>by
  simp only [x0d,eAb,eAq] at h
  cases k with
  |zero=>simp at ha; subst ha; exact h.1
  |succ k=>
   have:=y4e h.2 k a (by omega) (by simpa using ha)
   rw [show i+(k+1)=i+1+k by omega]; exact this
theorem y4f {ops:List Oper}:∀ {j:Nat} {l:List Oper} {asq:List Nat},x35 ops j l asq=true→∀ (k:Nat) (b:Oper),l[k]?=some b→x0d ops b (z52 asq k) (j+k) 0 ops=true
 |j,[],_,_,k,b,hb=>by simp at hb
 |j,x::l,[],h,k,b,hb=>by cases h
 |j,x::l,an::asq,h,k,b,hb=>by
  simp only [x35,eAb] at h
  cases k with
  |zero=>simp at hb; subst hb; exact h.1
  |succ k=>
   have:=y4f h.2 k b (by simpa using hb)
   rw [show j+(k+1)=j+1+k by omega]; exact this
def z6h (ops:List Oper):Bool:=(List.range ops.length).all fun i=>match ops[i]? with
 |some o=>(z38 o).all fun j=>Nat.blt j i
 |none=>true
theorem y6g {acc:List Nat} {j:Nat}:∀ {l:List Nat} {cur:Nat},(w1d acc cur l).testBit j=true→cur.testBit j=true∨∃ d∈l,j=d∨(z52 acc d).testBit j=true
 |[],cur,h=> .inl h
 |d::r,cur,h=>by
  simp only [w1d] at h
  rcases y6g h with h|⟨e,he,h'⟩
  ·cases hb:inB cur d with
   |true=>rw [hb] at h; exact .inl h
   |false=>
    rw [hb] at h
    have h:(((1<<<d)|||z52 acc d)|||cur).testBit j=true:=h
    rw [Nat.testBit_or,Nat.testBit_or,Nat.testBit_shiftLeft] at h
    simp only [eAq,eAb,decide_eq_true_eq] at h
    rcases h with (⟨h1,h2⟩|h)|h
    ·rw [Nat.testBit_one_eq_true_iff_self_eq_zero] at h2
     exact .inr ⟨d,by simp, .inl (by omega)⟩
    ·exact .inr ⟨d,by simp, .inr h⟩
    ·exact .inl h
  ·exact .inr ⟨e,by simp [he],h'⟩
theorem x54 {acc:List Nat} {j:Nat} {l:List Nat} (h:(w40 acc l).testBit j=true):∃ d∈l,j=d∨(z52 acc d).testBit j=true:=by
 rcases y6g h with h|⟨d,hd,h⟩
 ·simp at h
 ·exact ⟨d,by simpa using hd,h⟩
theorem z6f {l:List Nat} {x i:Nat} (h:i<l.length):z52 (l++[x]) i=z52 l i:=by
 induction l generalizing i with
 |nil=>simp at h
 |cons y l ih=>cases i with
  |zero=>rfl
  |succ i=>simpa [z52] using ih (by simpa using h)
theorem y31 (l:List Nat) (x:Nat):z52 (l++[x]) l.length=x:=by
 induction l with
 |nil=>rfl
 |cons y l ih=>simpa [z52] using ih
theorem w4g {l:List Nat} {i:Nat} (h:l.length≤i):z52 l i=0:=by
 induction l generalizing i with
 |nil=>rfl
 |cons y l ih=>cases i with
  |zero=>simp at h
  |succ i=>simpa [z52] using ih (by simpa using h)
theorem x9w (l:List Oper):∀ (acc:List Nat) (pre:List Oper),acc.length=pre.length→
  (∀ (i:Nat) (o:Oper),pre[i]?=some o→∀ j,(z52 acc i).testBit j=true→j∈z38 o∨∃ d∈z38 o,d<i∧(z52 acc d).testBit j=true)→
  ∀ (i:Nat) (o:Oper),(pre++l)[i]?=some o→∀ j,(z52 (z9o l acc) i).testBit j=true→j∈z38 o∨∃ d∈z38 o,d<i∧(z52 (z9o l acc) d).testBit j=true:=by
 induction l with
 |nil=>intro acc pre hl h; simpa [z9o] using h
 |cons o l ih=>
  intro acc pre hl h
  have key:=ih (acc++[w40 acc (z38 o)]) (pre++[o]) (by simp [hl]) (fun i p hi j hj=>by
   rw [eAs] at hi
   split at hi
   ·rename_i hlt
    rw [z6f (by omega)] at hj
    rcases h i p hi j hj with h1|⟨d,hd,hdi,hj2⟩
    ·exact .inl h1
    ·exact .inr ⟨d,hd,hdi,by rw [z6f (by omega)]; exact hj2⟩
   ·rename_i hge
    have hi0:i - pre.length=0:=by
     have:=(eAd.1 hi).1; simp at this; omega
    rw [hi0] at hi; simp at hi; subst hi
    have hie:i=acc.length:=by omega
    subst hie
    rw [y31] at hj
    obtain ⟨d,hd,hj⟩:=x54 hj
    rcases hj with rfl|hj
    ·exact .inl hd
    ·by_cases hdl:d<acc.length
     ·exact .inr ⟨d,hd,hdl,by rw [z6f hdl]; exact hj⟩
     ·rw [w4g (by omega)] at hj; simp at hj)
  simpa [z9o,eCg] using key
theorem y0e:∀ (l:List Oper) (acc:List Nat),(z9o l acc).length=acc.length+l.length
 |[],acc=>rfl
 |o::l,acc=>by simp only [z9o,y0e l,eBu,eBi,List.length_nil]; omega
structure Rec where
 v:AV
 u:List (Nat×AO)
def stF (s:AS) (ops:List Oper) (recs:List Rec):Nat→AS
 |0=>s
 |i+1=>match ops[i]?,recs[i]? with
  |some o,some r=>z43 (stF s ops recs i) o.dst r.v r.u
  |_,_=>stF s ops recs i
def x2k:List (Nat×AO)→Nat→AO→AO
 |[],_,x=>x
 |(i,o)::r,id,x=>x2k r id (if i=id then o else x)
theorem z91 (u:List (Nat×AO)):∀ (h:List AO) (id:Nat),z0e (z06 h u) id=x2k u id (z0e h id):=by
 induction u with
 |nil=>intro h id; rfl
 |cons x u ih=>
  intro h id
  obtain ⟨i,o⟩:=x
  simp only [z06,x2k,ih]
  congr 1
  split
  ·rename_i e; subst e; rw [z0g]
  ·rename_i e; rw [z0b _ _ _ _ e]
theorem z4j {u:List (Nat×AO)} {id:Nat} (h:∀ o,(id,o)∉u) (x:AO):x2k u id x=x:=by
 induction u generalizing x with
 |nil=>rfl
 |cons y u ih=>
  obtain ⟨i,o⟩:=y
  have hne:i≠id:=by rintro rfl; exact h o (by simp)
  simp only [x2k,if_neg hne]
  exact ih (fun o' ho'=>h o' (by simp [ho'])) x
section
variable (s:AS) (ops:List Oper) (recs:List Rec) (S:Nat→Bool)
def y4w (t:Nat):Nat→AV
 |0=>z1k s.env t
 |i+1=>match ops[i]?,recs[i]? with
  |some o,some r=>if S i=true∧o.dst=some t then r.v else y4w t i
  |_,_=>y4w t i
def y23 (id:Nat):Nat→AO
 |0=>z0e s.heap id
 |i+1=>match ops[i]?,recs[i]? with
  |some _,some r=>if S i=true then x2k r.u id (y23 id i) else y23 id i
  |_,_=>y23 id i
end
theorem w0g (s:AS) (ops:List Oper) (recs:List Rec) (S:Nat→Bool) (t:Nat):∀ m,(∀ i,i<m→S i=true)→y4w s ops recs S t m=z1k (stF s ops recs m).env t:=by
 intro m
 induction m with
 |zero=>intro _; rfl
 |succ m ih=>
  intro h
  have:=ih (fun i hi=>h i (by omega))
  simp only [y4w,stF]
  split
  ·rename_i o r ho hr
   simp only [z43]
   cases hd:o.dst with
   |none=>simp [y3o,this]
   |some d=>
    simp only [y3o]
    by_cases e:d=t
    ·subst e; rw [if_pos ⟨h m (by omega),rfl⟩,z0r]
    ·rw [if_neg (by simp [e]),z09 _ _ _ _ e,this]
  ·exact this
theorem w0f (s:AS) (ops:List Oper) (recs:List Rec) (S:Nat→Bool) (id:Nat):∀ m,(∀ i,i<m→S i=true)→y23 s ops recs S id m=z0e (stF s ops recs m).heap id:=by
 intro m
 induction m with
 |zero=>intro _; rfl
 |succ m ih=>
  intro h
  have:=ih (fun i hi=>h i (by omega))
  simp only [y23,stF]
  split
  ·rename_i o r ho hr
   simp only [z43]
   rw [if_pos (h m (by omega)),z91,this]
  ·exact this
theorem y1b (s : AS) (ops : List Oper) (recs : List Rec) (S : Nat → Bool) (t i : Nat) : ∀ m, i ≤ m →
    (∀ (j : Nat) (o : Oper), ops[j]? = some o → o.dst = some t → j < i → S j = true) → (∀ (j : Nat) (o : Oper), ops[j]? = some o → o.dst = some t → i ≤ j → j < m → S j = false) →
    y4w s ops recs S t m = z1k (stF s ops recs i).env t := by
  have low : ∀ k, k ≤ i → (∀ (j : Nat) (o : Oper), ops[j]? = some o → o.dst = some t → j < i → S j = true) → y4w s ops recs S t k = z1k (stF s ops recs k).env t := by
    intro k
    induction k with
    | zero => intro _ _; rfl
    | succ k ih =>
      intro hk h
      have := ih (by omega) h
      simp only [y4w, stF]
      split
      · rename_i o r ho hr
        simp only [z43]
        cases hd : o.dst with
        | none => simp [y3o, this]
        | some d =>
          simp only [y3o]
          by_cases e : d = t
          · subst e; rw [if_pos ⟨h k o ho hd (by omega), rfl⟩, z0r]
          · rw [if_neg (by simp [e]), z09 _ _ _ _ e, this]
      · exact this
  intro m hm h1 h2
  induction m with
  | zero => have : i = 0 := by omega
            subst this; rfl
  | succ m ih =>
    by_cases e : i = m + 1
    · rw [← e]; exact low i (eAk _) h1
    · have := ih (by omega) (fun j o a b c d => h2 j o a b c (by omega))
      simp only [y4w]
      split
      · rename_i o r ho hr
        rw [if_neg, this]
        rintro ⟨a, b⟩
        have := h2 m o ho b (by omega) (by omega)
        rw [this] at a; cases a
      · exact this
theorem y1a (s : AS) (ops : List Oper) (recs : List Rec) (S : Nat → Bool) (id i : Nat) : ∀ m, i ≤ m →
    (∀ (j : Nat) (r : Rec), recs[j]? = some r → (∃ o, (id, o) ∈ r.u) → j < i → S j = true) → (∀ (j : Nat) (r : Rec), recs[j]? = some r → (∃ o, (id, o) ∈ r.u) → i ≤ j → j < m → S j = false) →
    y23 s ops recs S id m = z0e (stF s ops recs i).heap id := by
  have low : ∀ k, k ≤ i → (∀ (j : Nat) (r : Rec), recs[j]? = some r → (∃ o, (id, o) ∈ r.u) → j < i → S j = true) → y23 s ops recs S id k = z0e (stF s ops recs k).heap id := by
    intro k
    induction k with
    | zero => intro _ _; rfl
    | succ k ih =>
      intro hk h
      have := ih (by omega) h
      simp only [y23, stF]
      split
      · rename_i o r ho hr
        simp only [z43]
        rw [z91]
        by_cases e : ∃ q, (id, q) ∈ r.u
        · rw [if_pos (h k r hr e (by omega)), this]
        · have hn : ∀ q, (id, q) ∉ r.u := fun q hq => e ⟨q, hq⟩
          rw [z4j hn, z4j hn]
          split <;> exact this
      · exact this
  intro m hm h1 h2
  induction m with
  | zero => have : i = 0 := by omega
            subst this; rfl
  | succ m ih =>
    by_cases e : i = m + 1
    · rw [← e]; exact low i (eAk _) h1
    · have := ih (by omega) (fun j o a b c d => h2 j o a b c (by omega))
      simp only [y23]
      split
      · rename_i o r ho hr
        by_cases e2 : ∃ q, (id, q) ∈ r.u
        · rw [if_neg, this]
          intro a
          have := h2 m r hr e2 (by omega) (by omega)
          rw [this] at a; cases a
        · have hn : ∀ q, (id, q) ∉ r.u := fun q hq => e2 ⟨q, hq⟩
          rw [z4j hn]
          split <;> exact this
      · exact this
theorem x6w (s:AS) (ops:List Oper) (recs:List Rec) (S:Nat→Bool) (i:Nat) {o:Oper} {r:Rec} (ho:ops[i]?=some o) (hr:recs[i]?=some r) (t:Nat):∀ m,i<m→
  (∀ (j:Nat) (p:Oper),ops[j]?=some p→i<j→S j=true→∀ d,o.dst=some d→p.dst≠some d)→
  y4w s ops recs (fun j=>S j||Nat.beq j i) t m=if o.dst=some t then r.v else y4w s ops recs S t m:=by
 have low:∀ k,k≤i→y4w s ops recs (fun j=>S j||Nat.beq j i) t k=y4w s ops recs S t k:=by
  intro k
  induction k with
  |zero=>intro _; rfl
  |succ k ih=>
   intro hk
   have:=ih (by omega)
   have hb:Nat.beq k i=false:=by cases h:Nat.beq k i with
    |false=>rfl
    |true=>have:=eAc h; omega
   simp only [y4w,hb,Bool.or_false,this]
 intro m hm h
 induction m with
 |zero=>omega
 |succ m ih=>
  by_cases e:i=m
  ·subst e
   have hb:Nat.beq i i=true:=eCs i
   simp only [y4w,ho,hr,hb,Bool.or_true,true_and]
   rw [low i (eAk _)]
   by_cases hd:o.dst=some t
   ·rw [if_pos hd,if_pos hd]
   ·rw [if_neg hd,if_neg hd,if_neg (fun h=>hd h.2)]
  ·have:=ih (by omega)
   have hb:Nat.beq m i=false:=by cases h:Nat.beq m i with
    |false=>rfl
    |true=>have:=eAc h; omega
   simp only [y4w,hb,Bool.or_false]
   split
   ·rename_i p q hp hq
    by_cases hS:S m=true∧p.dst=some t
    ·rw [if_pos hS]
     by_cases hd:o.dst=some t
     ·exact absurd hS.2 (h m p hp (by omega) hS.1 t hd)
     ·rw [if_neg hd,if_pos hS]
    ·rw [if_neg hS,this]
     by_cases hd:o.dst=some t
     ·rw [if_pos hd,if_pos hd]
     ·rw [if_neg hd,if_neg hd,if_neg hS]
   ·exact this
theorem x6v (s:AS) (ops:List Oper) (recs:List Rec) (S:Nat→Bool) (i:Nat) {o:Oper} {r:Rec} (ho:ops[i]?=some o) (hr:recs[i]?=some r) (hi:S i=false) (id:Nat):∀ m,i<m→
  (∀ (j:Nat) (q:Rec),recs[j]?=some q→i<j→S j=true→(∃ x,(id,x)∈r.u)→∀ x,(id,x)∉q.u)→
  y23 s ops recs (fun j=>S j||Nat.beq j i) id m=x2k r.u id (y23 s ops recs S id m):=by
 have low:∀ k,k≤i→y23 s ops recs (fun j=>S j||Nat.beq j i) id k=y23 s ops recs S id k:=by
  intro k
  induction k with
  |zero=>intro _; rfl
  |succ k ih=>
   intro hk
   have:=ih (by omega)
   have hb:Nat.beq k i=false:=by cases h:Nat.beq k i with
    |false=>rfl
    |true=>have:=eAc h; omega
   simp only [y23,hb,Bool.or_false,this]
 intro m hm h
 induction m with
 |zero=>omega
 |succ m ih=>
  by_cases e:i=m
  ·subst e
   have hb:Nat.beq i i=true:=eCs i
   simp only [y23,ho,hr,hb,Bool.or_true,if_true,hi]
   rw [low i (eAk _)]
   simp
  ·have:=ih (by omega)
   have hb:Nat.beq m i=false:=by cases h:Nat.beq m i with
    |false=>rfl
    |true=>have:=eAc h; omega
   simp only [y23,hb,Bool.or_false]
   split
   ·rename_i p q hp hq
    by_cases hS:S m=true
    ·rw [if_pos hS,if_pos hS,this]
     by_cases e2:∃ x,(id,x)∈r.u
     ·have hn:=h m q hq (by omega) hS e2
      rw [z4j hn,z4j hn]
     ·have hn:∀ x,(id,x)∉r.u:=fun x hx=>e2 ⟨x,hx⟩
      rw [z4j hn,z4j hn]
    ·rw [if_neg hS,if_neg hS,this]
   ·exact this
end Go.Am
end
section
namespace Go.Am
mutual
def tid:AV→List Nat
 | .bptr id _=>[id]
 | .ptr id _ _=>[id]
 | .slice id _ _ _ _=>[id]
 | .map id=>[id]
 | .clo _ fs cs=>y2n fs++y2n cs
 | .agg l=>y2n l
 | .tuple l=>y2n l
 |_=>[]
def y2n:List AV→List Nat
 |[]=>[]
 |x::l=>tid x++y2n l
end
def y89:AV→List Nat
 | .bptr id _=>[id]
 |_=>[]
def w7a (env:List (Nat×AV)):Op→List Nat
 | .indexAddr _ x _=>y89 (z0j env x)
 | .slice _ x _ _ _=>y89 (z0j env x)
 |_=>[]
def z69 (env:List (Nat×AV)) (op:Op):List Nat:=if z5g op then (op.operands.toList.map fun x=>tid (z0j env x)).flatten else w7a env op
def w3m:Op→Bool
 | .alloc _| .box ..| .buildSlice ..| .makeSlice ..| .makeMap ..=>true
 | .call ⟨.builtin .append,_,_⟩=>true
 |_=>false
section
variable {T:TypeId→Option TI} {G:Nat→Option (List D)} {env env':List (Nat×AV)} {h h':List AO}
theorem z7p {l:List Operand} (he:∀ x∈l,z0j env' x=z0j env x):z0s env' l=z0s env l:=by
 rw [z13,z13]; exact List.map_congr_left he
theorem y4k {l:List (Nat×Operand)} (he:∀ x∈l,z0j env' x.2=z0j env x.2):y00 env' l=y00 env l:=by
 rw [y8l,y8l]; exact List.map_congr_left fun x hx=>by rw [he x hx]
theorem z7o {o:Option Operand} (he:∀ x,o=some x→z0j env' x=z0j env x):z74 env' o=z74 env o:=by
 cases o with
 |none=>rfl
 |some x=>simp [z74,he x rfl]
theorem y29 (a:AV):tid (y7f a)=tid a:=by
 unfold y7f
 split<;>rfl
theorem y45 {ti:TI} {r:List D} {ra:List AV} {a:AV} (hh:∀ id∈tid a,z0e h' id=z0e h id):z3u ti h' r ra a=z3u ti h r ra a:=by
 cases a<;>simp only [z3u,tid,eBe,forall_eq] at hh⊢ <;>rw [hh]
theorem y3b {ti:TI} {r:List D} {ra:List AV} {a x:AV} (hh:∀ id∈tid a,z0e h' id=z0e h id):z4q std ti h' r ra a x=z4q std ti h r ra a x:=by
 have:∀ cells,z4d std h' r ra cells a=z4d std h r ra cells a:=by
  intro cells
  cases a<;>simp only [z4d,tid,eBe,forall_eq] at hh⊢ <;>rw [hh]
 unfold z4q
 simp only [this]
theorem y41 {a:AV} (hh:∀ id∈y89 a,z0e h' id=z0e h id):z3f h' a=z3f h a:=by
 cases a<;>first|rfl|(simp only [z3f,y89,eBe,forall_eq] at hh⊢; rw [hh])
theorem z9u {ti:TI} {r:List D} {a i:AV} (hh:∀ id∈y89 a,z0e h' id=z0e h id):z19 std std ti h' r a i=z19 std std ti h r a i:=by
 cases a with
 |bptr id off=>
  simp only [y89,eBe,forall_eq] at hh
  cases i<;>try rfl
  rename_i x
  cases x<;>try rfl
  simp only [z19,hh]
 |d x=>cases x<;>first|rfl|(cases i<;>first|rfl|(rename_i y; cases y<;>rfl))
 |_=>first|rfl|(cases i<;>first|rfl|(rename_i y; cases y<;>rfl))
theorem y3c {ti:TI} {r:List D} {a:AV} {lo hi mx:Option AV} (hh:∀ id∈y89 a,z0e h' id=z0e h id):z5h std ti h' r a lo hi mx=z5h std ti h r a lo hi mx:=by
 unfold z5h
 cases a with
 |bptr id off=>
  simp only [y89,eBe,forall_eq] at hh
  simp only [hh]
 |d x=>cases x<;>rfl
 |_=>rfl
theorem x6x {ti:TI} (a:AV):y89 (w1o ti a)=y89 a:=by
 unfold w1o
 split
 ·split
  ·rename_i z es _ _ _ _ _
   cases Nat.beq _ 0<;>(try rfl)
   simp only [cond_true]
   split<;>rfl
  ·rfl
 ·rfl
theorem y0h {n:Nat} {a:AV} (hh:∀ id∈tid a,z0e h' id=z0e h id):z79 h' n a=z79 h n a:=by
 cases a<;>simp only [z79,tid,eBe,forall_eq] at hh⊢ <;>rw [hh]
theorem z2r {z:Nat} {a:AV} (hh:∀ id∈tid a,z0e h' id=z0e h id):z2a std z h' a=z2a std z h a:=by
 cases a<;>first
  |(simp only [z2a,tid,eBe,forall_eq] at hh⊢; rw [hh]; done)
  |rfl
  |(rename_i x; cases x<;>rfl)
theorem y2g {ti:TI} {new:Nat} {q:Bool} {r:List D} {s x:AV} (hs:∀ id∈tid s,z0e h' id=z0e h id) (hx:∀ id∈tid x,z0e h' id=z0e h id):z1t std ti h' new q r s x=z1t std ti h new q r s x:=by
 have e:∀ id z off len c,s= .slice id z off len c→z0e h' id=z0e h id:=fun id z off len c e=>hs id (by rw [e]; simp [tid])
 have e1:∀ z,z2a std z h' x=z2a std z h x:=fun z=>z2r hx
 have e2:∀ z,z2a std z h' s=z2a std z h s:=fun z=>z2r hs
 unfold z1t
 simp only [e1,e2]
 clear e1 e2
 split
 ·congr 1
  split
  ·clear ‹z2a std _ h s=_›
   cases s with
   |slice id z off len c=>
    cases c with
    |none=>rfl
    |some c=>simp only [e _ _ _ _ _ rfl]
   |d y=>cases y<;>rfl
   |_=>rfl
  ·rfl
 ·rfl
theorem x1m {ti:TI} {s x:AV} (hs:∀ id∈tid s,z0e h' id=z0e h id) (hx:∀ id∈tid x,z0e h' id=z0e h id):y2b std ti h' s x=y2b std ti h s x:=by
 have e1:∀ z,z2a std z h' x=z2a std z h x:=fun z=>z2r hx
 have e2:∀ z,z2a std z h' s=z2a std z h s:=fun z=>z2r hs
 unfold y2b
 simp only [e1,e2]
 clear e1 e2
 split
 ·congr 1
  cases hc:x29 s with
  |none=>rfl
  |some y=>
   obtain ⟨id,z0,off,len,c⟩:=y
   have:=y9r hc
   subst this
   simp only [hs id (by simp [tid])]
 ·rfl
theorem y1g {ti:TI} {new:Nat} {q:Bool} {r:List D} {s x:AV} (hs:∀ id∈tid s,z0e h' id=z0e h id) (hx:∀ id∈tid x,z0e h' id=z0e h id):z2n std ti h' new q r s x=z2n std ti h new q r s x:=by
 unfold z2n
 rw [y2g hs hx,x1m hs hx]
theorem x1q {ti:TI} {s x:AV} (hs:∀ id∈tid s,z0e h' id=z0e h id) (hx:∀ id∈tid x,z0e h' id=z0e h id):x1r std ti h' s x=x1r std ti h s x:=by
 have e1:∀ z,z2a std z h' x=z2a std z h x:=fun z=>z2r hx
 have e2:∀ z,z2a std z h' s=z2a std z h s:=fun z=>z2r hs
 unfold x1r
 simp only [e1,e2]
theorem y1f {ti:TI} {new:Nat} {q:Bool} {r:List D} {s x:AV} (hs:∀ id∈tid s,z0e h' id=z0e h id) (hx:∀ id∈tid x,z0e h' id=z0e h id):z2m std ti h' new q r s x=z2m std ti h new q r s x:=by
 unfold z2m
 rw [y1g hs hx,x1q hs hx]
theorem x5v {ti:TI} {x:AV} (hx:∀ id∈tid x,z0e h' id=z0e h id):w06 std ti h' x=w06 std ti h x:=by
 cases x<;>first
  |(simp only [w06,tid,eBe,forall_eq] at hx⊢; rw [hx]; done)
  |rfl
  |(rename_i y; cases y<;>rfl)
theorem y46 {ti:TI} {d s:AV} (hd:∀ id∈tid d,z0e h' id=z0e h id) (hs:∀ id∈tid s,z0e h' id=z0e h id):z5x std ti h' d s=z5x std ti h d s:=by
 have e1:∀ z,z2a std z h' s=z2a std z h s:=fun z=>z2r hs
 unfold z5x
 simp only [e1]
 cases hq:ti.desc with
 |slc e z eb ea ez=>
  simp only []
  generalize z2a std z h s=E
  cases E with
  |none=>cases d<;>rfl
  |some p=>
   obtain ⟨c0,els⟩:=p
   cases els with
   |a es=>cases d<;>rfl
   |d es=>
    cases d with
    |slice id z' off len c=>have:=hd id (by simp [tid]); simp only [this]
    |d x=>cases x<;>first|rfl|(rename_i l; cases l<;>rfl)
    |_=>rfl
 |_=>rfl
theorem y2f {ti:TI} {m:AV} {q:Bool} {r:List D} (hm:∀ id∈tid m,z0e h' id=z0e h id):z3n std ti h' q r m=z3n std ti h q r m:=by
 unfold z3n
 cases hq:ti.desc with
 |map ks ka ez=>
  cases m with
  |map id=>have:=hm id (by simp [tid]); simp only [this]
  |_=>rfl
 |_=>rfl
theorem y2c {ti:TI} {m k x:AV} {q:Bool} {r:List D} (hm:∀ id∈tid m,z0e h' id=z0e h id):z3m std ti h' q r m k x=z3m std ti h q r m k x:=by
 unfold z3m
 cases hq:ti.desc with
 |map ks ka ez=>
  cases m with
  |map id=>have:=hm id (by simp [tid]); cases k<;>first|rfl|(cases x<;>first|rfl|simp only [this])
  |_=>rfl
 |_=>rfl
theorem x2t {ti:TI} {m k:AV} (hm:∀ id∈tid m,z0e h' id=z0e h id):z2k std ti h' m k=z2k std ti h m k:=by
 unfold z2k
 cases hq:ti.desc with
 |map ks ka ez=>
  cases k with
  |d k=>cases m with
   |map id=>have:=hm id (by simp [tid]); simp only [this]
   |d x=>cases x<;>rfl
   |_=>rfl
  |_=>rfl
 |_=>rfl
theorem z9r {t:TypeId} {m k:AV} (hm:∀ id∈tid m,z0e h' id=z0e h id):y0i std T t h' m k=y0i std T t h m k:=by
 unfold y0i; simp only [x2t hm]
theorem y3h {ti:TI} {d:AV} (hd:∀ id∈tid d,z0e h' id=z0e h id):z4r std ti h' d=z4r std ti h d:=by
 unfold z4r
 split
 ·congr 1
  cases d with
  |slice id z off len c=>simp only [tid,eBe,forall_eq] at hd; simp only [hd]
  |d y=>cases y with
   |list f z es=>cases es<;>rfl
   |_=>rfl
  |_=>rfl
 ·rfl
theorem y1d {b:Builtin} {ts:List TypeId} {xs:List AV} {new:Nat} {q:Bool} {r:List D} (hel:b≠ .min→b≠ .max→∀ y∈xs,∀ id∈tid y,z0e h' id=z0e h id):z2l std T h' new q r b ts xs=z2l std T h new q r b ts xs:=by
 unfold z2l
 split
 ·split
  ·exact x5v (hel (by simp) (by simp) _ (by simp))
  ·rfl
 ·split
  ·split
   ·exact y1f (hel (by simp) (by simp) _ (by simp)) (hel (by simp) (by simp) _ (by simp))
   ·rfl
  ·rfl
 ·split
  ·exact y46 (hel (by simp) (by simp) _ (by simp)) (hel (by simp) (by simp) _ (by simp))
  ·rfl
 ·split
  ·exact y2f (hel (by simp) (by simp) _ (by simp))
  ·rfl
 ·split
  ·exact y3h (hel (by simp) (by simp) _ (by simp))
  ·rfl
 ·rfl
 ·rfl
 ·rfl
theorem z81 {op:Op} (ht:z5g op=true) {x:Operand} (hx:x∈op.operands) (hh:∀ id∈z69 env op,z0e h' id=z0e h id):∀ id∈tid (z0j env x),z0e h' id=z0e h id:=by
 intro id hid
 refine hh id ?_
 unfold z69
 rw [if_pos ht]
 simp only [eCj,eBb]
 exact ⟨_,⟨x,by simpa using hx,rfl⟩,hid⟩
theorem z98 {x:Operand} (h:z0j env' x=z0j env x):y01 G env' x=y01 G env x:=by
 cases x<;>first|rfl|exact h
theorem x8w {x:Operand} {id:Nat} (h:id∈tid (y01 G env x)):id∈tid (z0j env x):=by
 rcases z7q G env x with e|⟨c,e⟩
 ·rwa [e] at h
 ·rw [e] at h; simp [tid] at h
theorem x6d {x:Operand} {id:Nat} (h:id∈y89 (y01 G env x)):id∈y89 (z0j env x):=by
 rcases z7q G env x with e|⟨c,e⟩
 ·rwa [e] at h
 ·rw [e] at h; simp [y89] at h
theorem x1v {new:Nat} {q:Bool} {r:List D} {ra:List AV} {op:Op} (he:∀ x∈op.operands,z0j env' x=z0j env x) (hh:∀ id∈z69 env op,z0e h' id=z0e h id):
  z08 std T G env' h' new q r ra op=z08 std T G env h new q r ra op∧z1q std T env' h' op=z1q std T env h op:=by
 cases op with
 |load t a=>
  have e:=he a (by simp [Op.operands])
  have hl:=z81 (op:= .load t a) rfl (x:=a) (by simp [Op.operands]) hh
  rw [←y29] at hl
  have hl2:∀ id∈tid (y7f (y01 G env a)),z0e h' id=z0e h id:=fun id hid=>by
   rw [y29] at hid
   refine hl id ?_
   rw [y29]; exact x8w hid
  simp only [z08,z1q,e,z98 (G:=G) e,y45 hl2,y0h hl,and_self]
 |store t a x=>
  have e:=he a (by simp [Op.operands])
  have e2:=he x (by simp [Op.operands])
  have hl:=z81 (op:= .store t a x) rfl (x:=a) (by simp [Op.operands]) hh
  simp only [z08,z1q,e,e2,y3b hl,y0h hl,and_self]
 |call c=>
  obtain ⟨callee,args,ts⟩:=c
  cases callee with
  |builtin b=>
   have e:z0s env' args.toList=z0s env args.toList:=z7p fun x hx=>he x (by simp [Op.operands,Call.operands]; simpa using hx)
   have hel:b≠ .min→b≠ .max→∀ y∈z0s env args.toList,∀ id∈tid y,z0e h' id=z0e h id:=by
    intro h1 h2 y hy
    rw [z13] at hy
    obtain ⟨x,hx,rfl⟩:=eBb.1 hy
    exact z81 (op:= .call ⟨.builtin b,args,ts⟩) (by cases b<;>first|rfl|exact absurd rfl h1|exact absurd rfl h2) (x:=x) (by simp [Op.operands,Call.operands]; simpa using hx) hh
   refine ⟨?_,?_⟩
   ·show z2l std T h' new q r b ts.toList (z0s env' args.toList)=z2l std T h new q r b ts.toList (z0s env args.toList)
    rw [e]; exact y1d hel
   ·by_cases hba:b= .append
    ·subst hba
     show (match z0s env' args.toList with|[s,x]=>w3x (z3l std s x)|_=> .none)=(match z0s env args.toList with|[s,x]=>w3x (z3l std s x)|_=> .none)
     rw [e]
    ·by_cases hbd:b= .delete
     ·subst hbd
      show (match ts.toList,z0s env' args.toList with|t::_,[m,k]=>y0i std T t h' m k|_,_=> .m none)=(match ts.toList,z0s env args.toList with|t::_,[m,k]=>y0i std T t h m k|_,_=> .m none)
      rw [e]
      have hel:=hel (by simp) (by simp)
      split
      ·rename_i h1
       exact z9r (hel _ (by rw [h1]; simp))
      ·rfl
     ·cases b<;>first|rfl|exact absurd rfl hba|exact absurd rfl hbd
  |_=>exact ⟨rfl,rfl⟩
 |move x=>simp [z08,z1q,he x (by simp [Op.operands])]
 |assign x=>simp [z08,z1q,he x (by simp [Op.operands])]
 |pick c a b=>simp [z08,z1q,he c (by simp [Op.operands]),he a (by simp [Op.operands]),he b (by simp [Op.operands])]
 |alloc t=>simp [z08,z1q]
 |box t x=>simp [z08,z1q,he x (by simp [Op.operands])]
 |build t ps=>
  have:y00 env' ps.toList=y00 env ps.toList:=y4k fun x hx=>he x.2 (by simp [Op.operands]; exact ⟨x.1,by simpa using hx⟩)
  simp [z08,z1q,this]
 |buildSlice t len ps=>
  have:y00 env' ps.toList=y00 env ps.toList:=y4k fun x hx=>he x.2 (by simp [Op.operands]; exact ⟨x.1,by simpa using hx⟩)
  simp [z08,z1q,this]
 |nilCheck x=>simp [z08,z1q,he x (by simp [Op.operands])]
 |binOp op t x y t2=>simp [z08,z1q,he x (by simp [Op.operands]),he y (by simp [Op.operands])]
 |unOp op t x=>simp [z08,z1q,he x (by simp [Op.operands])]
 |convert s t x=>
  have e:=he x (by simp [Op.operands])
  have hl:=z81 (op:= .convert s t x) rfl (x:=x) (by simp [Op.operands]) hh
  have e2:∀ ts tt,z5i std T h' ts tt (z0j env x)=z5i std T h ts tt (z0j env x):=fun ts tt=>by
   unfold z5i
   rw [z2r hl]
  simp only [z08,z1q,e,e2,and_self]
 |makeFunc fn f c=>
  have e1:z0s env' f.toList=z0s env f.toList:=z7p fun x hx=>he x (by simp [Op.operands]; left; simpa using hx)
  have e2:z0s env' c.toList=z0s env c.toList:=z7p fun x hx=>he x (by simp [Op.operands]; right; simpa using hx)
  simp [z08,z1q,e1,e2]
 |makeSlice t l c=>simp [z08,z1q,he l (by simp [Op.operands]),he c (by simp [Op.operands])]
 |slice t x lo hi mx=>
  have e1:z74 env' lo=z74 env lo:=z7o fun y hy=>he y (by subst hy; simp [Op.operands])
  have e2:z74 env' hi=z74 env hi:=z7o fun y hy=>he y (by subst hy; simp [Op.operands])
  have e3:z74 env' mx=z74 env mx:=z7o fun y hy=>he y (by subst hy; simp [Op.operands])
  have e:=he x (by simp [Op.operands])
  have hl:∀ id∈y89 (z0j env x),z0e h' id=z0e h id:=hh
  have hl2:∀ ti:TI,∀ id∈y89 (w1o ti (z0j env x)),z0e h' id=z0e h id:=fun ti=>by rw [x6x]; exact hl
  simp only [z08,z1q,e,e1,e2,e3,y3c (hl2 _),y41 hl,and_self]
 |fieldAddr t x f=>simp [z08,z1q,z98 (G:=G) (he x (by simp [Op.operands]))]
 |field t x f=>simp [z08,z1q,he x (by simp [Op.operands])]
 |indexAddr t x i=>
  have e:=he x (by simp [Op.operands])
  have e2:=he i (by simp [Op.operands])
  have hl:∀ id∈y89 (z0j env x),z0e h' id=z0e h id:=hh
  have hl2:∀ id∈y89 (y01 G env x),z0e h' id=z0e h id:=fun id hid=>hl id (x6d hid)
  simp only [z08,z1q,e,z98 (G:=G) e,e2,x18,z9u hl2,and_self]
 |index t x i=>simp [z08,z1q,he x (by simp [Op.operands]),he i (by simp [Op.operands])]
 |extract x i=>simp [z08,z1q,he x (by simp [Op.operands])]
 |makeMap t n=>
  have e1:z74 env' n=z74 env n:=z7o fun y hy=>he y (by subst hy; simp [Op.operands])
  simp [z08,z1q,e1]
 |lookup t m k o=>
  have e:=he m (by simp [Op.operands])
  have e2:=he k (by simp [Op.operands])
  have hl:=z81 (op:= .lookup t m k o) rfl (x:=m) (by simp [Op.operands]) hh
  simp only [z08,z1q,e,e2,z9r hl,and_self]
 |mapUpdate t m k x=>
  have e:=he m (by simp [Op.operands])
  have e2:=he k (by simp [Op.operands])
  have e3:=he x (by simp [Op.operands])
  have hl:=z81 (op:= .mapUpdate t m k x) rfl (x:=m) (by simp [Op.operands]) hh
  simp only [z08,z1q,e,e2,e3,z9r hl,y2c hl,and_self]
 |_=>exact ⟨rfl,rfl⟩
theorem z2x {α:Type} {b:Bool} {x:Option α} {r:α} (h:(bif b then x else none)=some r):x=some r:=by
 cases b with
 |false=>cases h
 |true=>exact h
theorem y58 {v:AV} {res:Res} (h:ok v=some res):res.u=[]:=by cases h; rfl
theorem x1a {α:Type} {x:Option α} {f:α→Option Res} {res:Res} (h:x.bind f=some res) (hf:∀ a,f a=some res→res.u=[]):res.u=[]:=by
 cases x with
 |none=>cases h
 |some a=>exact hf a h
theorem x1n {ti:TI} {r:List D} {ra:List AV} {a x:AV} {res:Res} (hs:z4q std ti h r ra a x=some res):∀ id o,(id,o)∈res.u→id∈tid a:=by
 unfold z4q at hs
 split at hs
 ·cases hb:(Nat.ble 1 ti.size&&(z60 ‹List AV› ti.size&&z58 ‹List AV›)) with
  |false=>rw [hb] at hs; cases hs
  |true=>
   rw [hb] at hs
   simp only [cond_true] at hs
   cases a<;>simp only [z4d] at hs<;>(repeat' split at hs)<;>first
    |cases hs; done
    |(cases hs; intro id o ho; simp at ho; simp [tid,ho.1])
 ·cases hs
theorem y9j {ti:TI} {new:Nat} {q:Bool} {r:List D} {s x:AV} {res:Res} (hs:z1t std ti h new q r s x=some res):∀ id o,(id,o)∈res.u→id=new∨id∈tid s:=by
 unfold z1t at hs
 split at hs
 ·generalize (Nat.ble 1 _&&Nat.ble _ 60000)=b at hs
  cases b with
  |false=>cases hs
  |true=>
   simp only [cond_true] at hs
   have da:∀ (b:Bool) (u v:Option Res),(bif b then u else v)=some res→u=some res∨v=some res:=by
    intro b u v h
    cases b with
    |false=>exact .inr h
    |true=>exact .inl h
   split at hs
   ·split at hs
    ·split at hs
     ·rcases da _ _ _ hs with hs|hs
      ·split at hs
       ·cases hs; intro id o ho; simp at ho
       ·cases hs
      ·cases hs; intro id o ho; simp at ho; simp [tid]; omega
     ·cases hs
    all_goals (repeat' split at hs)<;>first
     |cases hs; done
     |(cases hs; intro id o ho; simp at ho; simp [tid]; omega)
     |(cases hs; intro id o ho; simp at ho; rcases ho with ho|ho<;>simp [tid,ho.1])
     |(cases hs; intro id o ho; simp at ho; simp [tid,ho.1])
   ·cases hs
 ·cases hs
theorem w33 {ti:TI} {s x:AV} {res:Res} (hs:y2b std ti h s x=some res):∀ id o,(id,o)∈res.u→id∈tid s:=by
 obtain ⟨e,z,eb,ea,ez,id,z0,off,len,c,cx,cs,es0,es,ys,hdesc,hb,rfl,hxs,hes,hrow,rfl⟩:=y3a hs
 intro i o ho
 rw [eBe] at ho
 cases ho
 simp [tid]
theorem y7q {ti:TI} {new:Nat} {q:Bool} {r:List D} {s x:AV} {res:Res} (hs:z2n std ti h new q r s x=some res):∀ id o,(id,o)∈res.u→id=new∨id∈tid s:=by
 obtain ⟨res0,h0,rfl⟩:=z7x hs
 have hu:∀ id o,(id,o)∈res0.u→id=new∨id∈tid s:=by
  rcases h0 with ⟨_,h0⟩|h0
  ·exact fun id o hm=> .inr (w33 h0 id o hm)
  ·exact y9j h0
 intro id o hm
 rcases z8n r res0 with e|⟨id0,z,off,len,cap,es,o',_,_,hm0,e⟩
 ·rw [e] at hm; exact hu id o hm
 ·rw [e] at hm
  rcases eBj.1 hm with hm|hm
  ·exact hu id o hm
  ·rw [eBe] at hm
   cases hm
   exact hu _ _ hm0
theorem y7p {ti:TI} {new:Nat} {q:Bool} {r:List D} {s x:AV} {res:Res} (hs:z2m std ti h new q r s x=some res):∀ id o,(id,o)∈res.u→id=new∨id∈tid s:=by
 unfold z2m at hs
 cases h5:w7r r with
 |true=>
  rw [h5] at hs
  obtain ⟨e,z,eb,ea,ez,id,z0,off,len,c,cx,cs,xs,es,_,_,_,_,_,rfl⟩:=y3d hs
  intro i o ho
  cases ho
 |false=>rw [h5] at hs; exact y7q hs
theorem x5d {ti:TI} {d x:AV} {res:Res} (hs:z5x std ti h d x=some res):∀ id o,(id,o)∈res.u→id∈tid d:=by
 unfold z5x at hs
 split at hs
 ·replace hs:=z2x hs
  split at hs
  ·replace hs:=z2x hs
   split at hs
   ·cases hs; intro id o ho; simp at ho; simp [tid,ho.1]
   ·cases hs
  ·cases hs; intro id o ho; simp at ho
  ·cases hs
 ·cases hs
theorem x1u {ti:TI} {d:AV} {res:Res} (hs:z4r std ti h d=some res):∀ id o,(id,o)∈res.u→id∈tid d:=by
 unfold z4r at hs
 split at hs
 ·replace hs:=z2x hs
  split at hs
  ·replace hs:=z2x hs
   split at hs
   ·cases hs; intro id o ho; simp at ho; simp [tid,ho.1]
   ·cases hs
  ·cases hs; intro id o ho; simp at ho
  ·cases hs
 ·cases hs
theorem y9f {ti:TI} {m:AV} {q:Bool} {r:List D} {res:Res} (hs:z3n std ti h q r m=some res):∀ id o,(id,o)∈res.u→id∈tid m:=by
 unfold z3n at hs
 (repeat' split at hs)<;>first|cases hs; done|(cases hs; intro id o ho; simp at ho; simp [tid,ho.1])
theorem y9b {ti:TI} {m k x:AV} {q:Bool} {r:List D} {res:Res} (hs:z3m std ti h q r m k x=some res):∀ id o,(id,o)∈res.u→id∈tid m:=by
 unfold z3m at hs
 (repeat' split at hs)<;>first|cases hs; done|(cases hs; intro id o ho; simp at ho; simp [tid,ho.1])
theorem w34 {new:Nat} {q:Bool} {r:List D} {ra:List AV} {op:Op} {res:Res} (hs:z08 std T G env h new q r ra op=some res):
  ∀ id o,(id,o)∈res.u→(id=new∧w3m op=true)∨(y0j op=true∧id∈z69 env op):=by
 have none:res.u=[]→∀ id o,(id,o)∈res.u→(id=new∧w3m op=true)∨(y0j op=true∧id∈z69 env op):=by
  intro e id o ho; rw [e] at ho; simp at ho
 cases op with
 |load t a=>
  refine none ?_
  simp only [z08] at hs
  split at hs
  ·exact x5c hs
  ·cases hs
 |store t a x=>
  simp only [z08] at hs
  split at hs
  ·intro id o ho
   exact .inr ⟨rfl,by simp [z69,z5g,Op.operands,x1n hs id o ho]⟩
  ·cases hs
 |call c=>
  obtain ⟨callee,args,ts⟩:=c
  cases callee with
  |builtin b=>
   simp only [z08] at hs
   unfold z2l at hs
   generalize hargs:z0s env args.toList=xs at hs
   split at hs
   ·refine none ?_
    split at hs
    ·rename_i x _ _ _ _
     clear hargs
     cases x<;>simp only [w06] at hs<;>(repeat' split at hs)<;>first|cases hs; done|exact y58 hs
    ·cases hs
   ·rename_i sx y _
    split at hs
    ·split at hs
     ·intro id o ho
      rcases y7p hs id o ho with e|e
      ·exact .inl ⟨e,rfl⟩
      ·refine .inr ⟨rfl,?_⟩
       simp only [z69,z5g,if_true,eCj,eBb]
       rw [z13] at hargs
       have hm:sx∈args.toList.map (z0j env):=by rw [hargs]; simp
       obtain ⟨z,hz,hze⟩:=eBb.1 hm
       exact ⟨_,⟨z,by simp [Op.operands,Call.operands]; simpa using hz,rfl⟩,by rw [hze]; exact e⟩
     ·cases hs
    ·cases hs
   ·rename_i dx y _
    split at hs
    ·intro id o ho
     have e:=x5d hs id o ho
     refine .inr ⟨rfl,?_⟩
     simp only [z69,z5g,if_true,eCj,eBb]
     rw [z13] at hargs
     have hm:dx∈args.toList.map (z0j env):=by rw [hargs]; simp
     obtain ⟨z,hz,hze⟩:=eBb.1 hm
     exact ⟨_,⟨z,by simp [Op.operands,Call.operands]; simpa using hz,rfl⟩,by rw [hze]; exact e⟩
    ·cases hs
   ·rename_i mx y _
    split at hs
    ·intro id o ho
     have e:=y9f hs id o ho
     refine .inr ⟨rfl,?_⟩
     simp only [z69,z5g,if_true,eCj,eBb]
     rw [z13] at hargs
     have hm:mx∈args.toList.map (z0j env):=by rw [hargs]; simp
     obtain ⟨z,hz,hze⟩:=eBb.1 hm
     exact ⟨_,⟨z,by simp [Op.operands,Call.operands]; simpa using hz,rfl⟩,by rw [hze]; exact e⟩
    ·cases hs
   ·rename_i dx _
    split at hs
    ·intro id o ho
     have e:=x1u hs id o ho
     refine .inr ⟨rfl,?_⟩
     simp only [z69,z5g,if_true,eCj,eBb]
     rw [z13] at hargs
     have hm:dx∈args.toList.map (z0j env):=by rw [hargs]; simp
     obtain ⟨z,hz,hze⟩:=eBb.1 hm
     exact ⟨_,⟨z,by simp [Op.operands,Call.operands]; simpa using hz,rfl⟩,by rw [hze]; exact e⟩
    ·cases hs
   ·refine none ?_
    unfold y1c at hs
    (repeat' split at hs)<;>first|cases hs; done|exact y58 hs
   ·refine none ?_
    unfold y1c at hs
    (repeat' split at hs)<;>first|cases hs; done|exact y58 hs
   ·cases hs
  |_=>cases hs
 |move x=>exact none (y58 hs)
 |assign x=>exact none (y58 hs)
 |pick c a b=>
  refine none ?_
  simp only [z08] at hs
  unfold y7k at hs
  (repeat' split at hs)<;>first|cases hs; done|exact y58 hs
 |alloc t=>
  simp only [z08] at hs
  split at hs
  ·unfold y0n at hs
   generalize Nat.ble 1 _=b at hs
   cases b with
   |false=>cases hs
   |true=>
    simp only [cond_true] at hs
    split at hs<;>(cases hs; intro id o ho; simp at ho; exact .inl ⟨ho.1,rfl⟩)
  ·cases hs
 |box t x=>
  simp only [z08] at hs
  split at hs
  ·unfold y7n at hs
   generalize Nat.ble 1 _=b at hs
   cases b with
   |false=>cases hs
   |true=>
    simp only [cond_true] at hs
    split at hs
    ·replace hs:=z2x hs
     split at hs
     ·split at hs
      ·replace hs:=z2x hs
       cases hs; intro id o ho; simp at ho; exact .inl ⟨ho.1,rfl⟩
      ·cases hs
     ·cases hs; intro id o ho; simp at ho; exact .inl ⟨ho.1,rfl⟩
    ·cases hs
  ·cases hs
 |build t ps=>
  refine none ?_
  simp only [z08] at hs
  split at hs
  ·unfold z8b at hs
   (repeat' split at hs)<;>first|cases hs; done|exact x1a hs fun _ h=>y58 h
  ·cases hs
 |buildSlice t len ps=>
  simp only [z08] at hs
  split at hs
  ·have hsR:=hs
   unfold z3v at hs
   have hor:res.u=[]∨z1z ‹TI› new len (y00 env ps.toList)=some res:=by
    split at hs
    ·exact .inr hs
    ·split at hs
     ·split at hs
      ·cases hs; exact .inl rfl
      ·cases hs
     ·split at hs
      ·rename_i h0
       split at hs
       ·cases hs; exact .inl rfl
       ·cases hs; exact .inr h0
      ·cases hs
   clear hs hsR
   rcases hor with hor|hs
   ·exact none hor
   unfold z1z at hs
   split at hs
   ·generalize (Nat.ble 1 _&&Nat.ble _ _)=b at hs
    cases b with
    |false=>cases hs
    |true=>
     simp only [cond_true] at hs
     split at hs
     ·generalize z58 _=b at hs
      cases b with
      |false=>cases hs
      |true=>
       simp only [cond_true] at hs
       split at hs
       ·cases hs; intro id o ho; simp at ho; exact .inl ⟨ho.1,rfl⟩
       ·cases hs
     ·cases hs
   ·cases hs
  ·cases hs
 |nilCheck x=>
  refine none ?_
  simp only [z08] at hs
  unfold x1p at hs
  (repeat' split at hs)<;>first|cases hs; done|exact y58 hs
 |binOp op t x y t2=>
  refine none ?_
  simp only [z08] at hs
  split at hs
  ·generalize w68 y=b at hs
   cases b with
   |true=>
    simp only [cond_true] at hs
    unfold z83 at hs
    split at hs<;>first|(cases hs; done)|(cases hs; rfl)
   |false=>
   simp only [cond_false] at hs
   generalize w67 y=b2 at hs
   cases b2 with
   |true=>
    simp only [cond_true] at hs
    unfold y2p at hs
    split at hs<;>first|(cases hs; done)|(cases hs; rfl)
   |false=>
   simp only [cond_false] at hs
   unfold y7o at hs
   split at hs
   ·split at hs
    ·generalize ((_:IntKind)==_)=b at hs; cases b with
     |false=>cases hs
     |true=>exact y58 hs
    ·generalize ((_:IntKind)==_)=b at hs; cases b with
     |false=>cases hs
     |true=>exact y58 hs
    ·generalize ((_:IntKind)==_)=b at hs; cases b with
     |false=>cases hs
     |true=>cases hs; rfl
    ·cases hs; rfl
    ·generalize ((_:IntKind)==_)=b at hs; cases b with
     |false=>cases hs
     |true=>exact y58 hs
   ·(repeat' split at hs)<;>first|cases hs; done|exact y58 hs|(cases hs; rfl)
   ·(repeat' split at hs)<;>first|cases hs; done|exact x1a hs fun _ h=>y58 h
  ·cases hs
 |unOp op t x=>
  refine none ?_
  simp only [z08] at hs
  unfold x26 at hs
  (repeat' split at hs)<;>first|cases hs; done|exact y58 hs
 |convert s t x=>
  refine none ?_
  simp only [z08] at hs
  split at hs
  ·split at hs
   ·rename_i hres
    cases hs
    unfold z7f at hres
    (repeat' split at hres)<;>first|cases hres; done|exact y58 hres
   ·unfold z5i at hs
    (repeat' split at hs)<;>first|cases hs; done|(replace hs:=z2x hs; (repeat' split at hs)<;>first|cases hs; done|(cases hs; rfl))
  ·cases hs
 |makeFunc fn f c=>exact none (y58 hs)
 |makeSlice t l c=>
  simp only [z08] at hs
  split at hs
  ·unfold z47 at hs
   split at hs
   ·generalize (Nat.ble 1 _&&_)=b at hs
    cases b with
    |false=>cases hs
    |true=>cases hs; intro id o ho; simp at ho; exact .inl ⟨ho.1,rfl⟩
   ·cases hs
  ·cases hs
 |slice t x lo hi mx=>
  refine none ?_
  simp only [z08] at hs
  split at hs
  ·unfold z5h at hs
   split at hs
   ·split at hs
    ·split at hs
     ·replace hs:=z2x hs
      (repeat' split at hs)<;>first|cases hs; done|(cases hs; rfl)
     ·cases hs
    ·split at hs
     ·replace hs:=z2x hs
      (repeat' split at hs)<;>first|cases hs; done|(cases hs; rfl)
     ·cases hs
    ·split at hs
     ·split at hs
      ·cases z2x hs; rfl
      ·cases hs
     ·split at hs
      ·cases z2x hs; rfl
      ·cases hs
     ·cases hs
    ·(repeat' split at hs)<;>first|cases hs; done|(cases hs; rfl)
    ·cases hs
   ·cases hs
  ·cases hs
 |fieldAddr t x f=>
  refine none ?_
  simp only [z08] at hs
  split at hs
  ·unfold y0l at hs
   (repeat' split at hs)<;>first|cases hs; done|exact y58 (z2x hs)
  ·cases hs
 |field t x f=>
  refine none ?_
  simp only [z08] at hs
  split at hs
  ·unfold z5w at hs
   (repeat' split at hs)<;>first|cases hs; done|exact x1a hs fun _ h=>y58 h
  ·cases hs
 |indexAddr t x i=>
  refine none ?_
  simp only [z08] at hs
  split at hs
  ·unfold z19 at hs
   (repeat' split at hs)<;>first|cases hs; done|(cases hs; rfl)|(cases z2x hs; rfl)
  ·cases hs
 |index t x i=>
  refine none ?_
  simp only [z08] at hs
  split at hs
  ·unfold z5v at hs
   (repeat' split at hs)<;>first|cases hs; done|(cases hs; rfl)|exact x1a hs fun _ h=>by cases h; rfl
  ·cases hs
 |extract x i=>
  refine none ?_
  simp only [z08] at hs
  unfold z9v at hs
  split at hs
  ·exact x1a hs fun _ h=>y58 h
  ·cases hs
 |makeMap t n=>
  simp only [z08] at hs
  split at hs
  ·unfold z7d at hs
   split at hs
   ·cases hs; intro id o ho; simp at ho; exact .inl ⟨ho.1,rfl⟩
   ·cases hs
  ·cases hs
 |lookup t m k o=>
  refine none ?_
  simp only [z08] at hs
  split at hs
  ·split at hs
   ·unfold z4e at hs
    (repeat' split at hs)<;>first|cases hs; done|exact y58 hs
   ·cases hs
  ·cases hs
 |mapUpdate t m k x=>
  simp only [z08] at hs
  split at hs
  ·intro id o ho
   exact .inr ⟨rfl,by simp [z69,z5g,Op.operands]; exact .inl (y9b hs id o ho)⟩
  ·cases hs
 |_=>cases hs
end
end Go.Am
end
section
namespace Go.Am
inductive Ord (ops:Array Oper):(Nat→Bool)→List Nat→Prop
 |nil (S:Nat→Bool) (h:∀ i,i<ops.size→S i=true):Ord ops S []
 |cons (S:Nat→Bool) (i:Nat) (o:Oper) (l:List Nat) (hi:S i=false) (ho:ops[i]?=some o) (hd:∀ d∈z38 o,S d=true) (h:Ord ops (fun j=>S j||Nat.beq j i) l):Ord ops S (i::l)
theorem y6v {o:Oper} {d:Nat}:d∈z38 o↔∃ e∈o.after,Region.binds .any e=true∧e.on=d:=by
 unfold z38
 simp only [eBb,List.mem_filter,Array.mem_toList_iff]
 constructor
 ·rintro ⟨e,⟨h1,h2⟩,h3⟩; exact ⟨e,h1,h2,h3⟩
 ·rintro ⟨e,h1,h2,h3⟩; exact ⟨e,⟨h1,h2⟩,h3⟩
theorem x5u {listed:Array Bool} {i:Nat} (hi:i<listed.size):(fun j=>(listed.setIfInBounds i true).getD j false)=fun j=>listed.getD j false||Nat.beq j i:=by
 funext j
 cases hb:Nat.beq j i with
 |true=>
  have:=eAc hb
  subst this
  simp [eAh,hi]
 |false=>
  have hne:i≠j:=by rintro rfl; simp at hb
  simp [eAh,Array.getElem?_setIfInBounds_ne hne]
theorem x89 {l:List Bool} {i:Nat} (h:l[i]?=some false):(l.set i true).countP (· ==false)+1=l.countP (· ==false):=by
 induction l generalizing i with
 |nil=>simp at h
 |cons x l ih=>cases i with
  |zero=>simp at h; subst h; simp
  |succ i=>
   have:=ih (i:=i) (by simpa using h)
   simp only [List.set_cons_succ,List.countP_cons]
   omega
theorem x6h {l:List Bool} (h:l.countP (· ==false)=0) (i:Nat) (hi:i<l.length):l[i]?=some true:=by
 have:=List.countP_eq_zero.1 h l[i] (eCp hi)
 rw [eAa hi]
 cases hb:l[i]<;>simp_all
theorem w1z {ops:Array Oper} (he:z6h ops.toList=true) {i:Nat} {o:Oper} (ho:ops[i]?=some o):∀ d∈z38 o,d<i:=by
 intro d hd
 unfold z6h at he
 rw [eAr] at he
 have hlt:i<ops.toList.length:=by simpa using (eAe.1 ho).1
 have:=he i (eBo.2 hlt)
 rw [eAj,ho] at this
 simp only [eAr] at this
 exact eAf (this d hd)
theorem y78 {ops:Array Oper} (he:z6h ops.toList=true):∀ (fuel t:Nat) (listed:Array Bool),listed.size=ops.size→listed.toList.countP (· ==false)=fuel→
  Ord ops (fun i=>listed.getD i false) (Region.linearise.go .any ops fuel t listed []):=by
 intro fuel
 induction fuel with
 |zero=>
  intro t listed hs hc
  simp only [Region.linearise.go,List.reverse_nil]
  refine .nil _ fun i hi=>?_
  have:=x6h hc i (by simpa [hs] using hi)
  rw [eAj] at this
  simp [eAh,this]
 |succ fuel ih=>
  intro t listed hs hc
  simp only [Region.linearise.go]
  change Ord ops _ (match (Region.ready .any ops listed)[t % (Region.ready .any ops listed).length]? with
   |some i=>Region.linearise.go .any ops fuel (t / (Region.ready .any ops listed).length) (listed.setIfInBounds i true) [i]
   |none=>[].reverse)
  have hne:Region.ready .any ops listed≠[]:=by
   have hex:∃ i,i<ops.size∧listed.getD i true=false:=by
    refine Classical.byContradiction fun hno=>?_
    have:listed.toList.countP (· ==false)=0:=by
     rw [List.countP_eq_zero]
     intro b hb
     obtain ⟨i,hi⟩:=eCd hb
     rw [eAj] at hi
     have hlt:=(eAe.1 hi).1
     cases b with
     |true=>simp
     |false=>exact absurd ⟨i,by omega,by simp [eAh,hi]⟩ hno
    omega
   have key:∀ i,i<ops.size→listed.getD i true=false→∃ j,j∈Region.ready .any ops listed:=by
    intro i
    induction i using Nat.strongRecOn with
    |_ i ih=>
     intro hi hf
     have ho:ops[i]?=some ops[i]:=eAm hi
     by_cases hall:∀ e∈(ops[i]).after,Region.binds .any e=true→listed.getD e.on false=true
     ·exact ⟨i,mem_ready.2 ⟨hf,_,ho,hall⟩⟩
     ·simp only [Classical.not_forall] at hall
      obtain ⟨e,hm,hb,hl⟩:=hall
      have hlt:=w1z he ho e.on (y6v.2 ⟨e,hm,hb,rfl⟩)
      refine ih e.on hlt (by omega) ?_
      have hlt2:e.on<listed.size:=by omega
      simp only [eAh,eAm hlt2,eBk] at hl⊢
      simpa using hl
   obtain ⟨i,hi,hf⟩:=hex
   obtain ⟨j,hj⟩:=key i hi hf
   intro h0; rw [h0] at hj; simp at hj
  cases hi:(Region.ready .any ops listed)[t % (Region.ready .any ops listed).length]? with
  |none=>
   exfalso
   cases hr:Region.ready .any ops listed with
   |nil=>exact hne hr
   |cons x xs=>
    rw [hr] at hi
    have hlt:t % (x::xs).length<(x::xs).length:=eCr _ (by simp)
    simp at hi
    simp at hlt
    omega
  |some i=>
   simp only []
   rw [linearise_go_acc,List.reverse_singleton,List.singleton_append]
   have hm:=eAu hi
   rw [mem_ready] at hm
   obtain ⟨hf,o,ho,hall⟩:=hm
   have hlt:i<listed.size:=by have:=(eAe.1 ho).1; omega
   have hfl:listed[i]?=some false:=by
    rw [eAm hlt]
    simp only [eAh,eAm hlt,eBk] at hf
    rw [hf]
   refine .cons _ i o _ (by simp [eAh,hfl]) ho (fun d hd=>?_) ?_
   ·obtain ⟨e,h1,h2,rfl⟩:=y6v.1 hd
    exact hall e h1 h2
   ·rw [←x5u hlt]
    refine ih _ _ (by simpa using hs) ?_
    have:=x89 (l:=listed.toList) (i:=i) (by rw [eAj]; exact hfl)
    rw [Array.toList_setIfInBounds]
    omega
theorem z8i {ops:Array Oper} (he:z6h ops.toList=true) (t:Nat):Ord ops (fun _=>false) (Region.schedule true ops t):=by
 simp only [Region.schedule,Bool.true_or,if_true]
 have:=y78 he ops.size t (Array.replicate ops.size false) (by simp) (by simp [List.countP_replicate])
 have e:(fun i=>(Array.replicate ops.size false).getD i false)=fun _=>false:=by
  funext i
  by_cases h:i<ops.size
  ·simp [eAh,Array.getElem?_replicate,h]
  ·simp [eAh,Array.getElem?_replicate,h]
 rw [e] at this
 exact this
end Go.Am
end
section
namespace Go.Am
theorem y34 {d:Option Nat} {l:List Nat} (h:x3t d l=true) {t:Nat} (hd:d=some t):t∉l:=by
 subst hd
 simp only [x3t,eBy] at h
 intro hm
 rw [x3z.2 hm] at h; cases h
theorem y6j {ops:List Oper} (h:y5f ops=true) {i j:Nat} {a b:Oper} (hij:i<j) (ha:ops[i]?=some a) (hb:ops[j]?=some b):(z52 (z9o ops []) j).testBit i=true∨y0d ops a b=true:=by
 have:=y4e (y4f h j b hb) i a (by omega) ha
 rw [eAp] at this; exact this
def x3k (ops:List Oper) (acc:List (List Nat)) (i:Nat) (o:Oper) (ti:List Nat):Bool:=
  (List.range i).all fun j=>Nat.testBit (z52 (z9o ops []) i) j||
    (match z1j ops j with
     |some a=>(!y0j a.op&&!y0j o.op)||x6e (x2f acc j) ti
     |none=>true)
def x3i (an:Nat) (to:Bool) (ti:List Nat):Nat→List Oper→List (List Nat)→Bool
 |_,_,[]=>true
 |j,a::l,t::ts=>(Nat.testBit an j||((!y0j a.op&&!to)||x6e t ti))&&x3i an to ti (j+1) l ts
 |_,[],_::_=>true
def x3j (ops:List Oper) (acc:List (List Nat)) (i:Nat) (o:Oper) (ti:List Nat):Bool:=
 Nat.beq acc.length i&&x3i (z52 (z9o ops []) i) (y0j o.op) ti 0 ops acc
theorem y3y {an:Nat} {to:Bool} {ti:List Nat}:∀ {j:Nat} {l:List Oper} {ts:List (List Nat)},x3i an to ti j l ts=true→∀ (k:Nat) (a:Oper),k<ts.length→l[k]?=some a→(Nat.testBit an (j+k)||((!y0j a.op&&!to)||x6e (x2f ts k) ti))=true
 |j,l,[],_,k,a,hk,_=>by simp at hk
 |j,[],t::ts,_,k,a,_,ha=>by simp at ha
 |j,x::l,t::ts,h,k,a,hk,ha=>by
  simp only [x3i,eAb] at h
  cases k with
  |zero=>simp at ha; subst ha; exact h.1
  |succ k=>
   have:=y3y h.2 k a (by simpa using hk) (by simpa using ha)
   rw [show j+(k+1)=j+1+k by omega]; exact this
theorem y32 {α:Type}:∀ (l:List α) (i:Nat),z1j l i=l[i]?
 |[],_=>by simp [z1j]
 |_::_,0=>rfl
 |_::l,i+1=>by simpa [z1j] using y32 l i
theorem x7m {ops:List Oper} {acc:List (List Nat)} {i:Nat} {o:Oper} {ti:List Nat} (h:x3j ops acc i o ti=true):x3k ops acc i o ti=true:=by
 simp only [x3j,eAb] at h
 have hl:=eAc h.1
 unfold x3k
 simp only [eAr,eBo]
 intro j hj
 cases ha:ops[j]? with
 |none=>rw [y32,ha]; simp
 |some a=>
  have:=y3y h.2 j a (by omega) ha
  rw [eAp] at this
  rw [y32,ha]; exact this
theorem x3s {α:Type}:∀ (l:List α) (i:Nat),z1j l i=l[i]?
 |[],_=>by simp [z1j]
 |_::_,0=>rfl
 |_::l,i+1=>by simpa [z1j] using x3s l i
def y7b (s0:AS) (ops:List Oper) (recs:List Rec) (i:Nat) (o:Oper):Prop:=
 ∀ (j:Nat) (a:Oper),j<i→ops[j]?=some a→(z52 (z9o ops []) i).testBit j=true∨(y0j a.op=false∧y0j o.op=false)∨∀ id∈z69 (stF s0 ops recs j).env a.op,id∉z69 (stF s0 ops recs i).env o.op
theorem z1n {ops:List Oper} {S:Nat→Bool} (hc:∀ (i:Nat) (o:Oper),ops[i]?=some o→S i=true→∀ d∈z38 o,S d=true) {i:Nat} {o:Oper} (ho:ops[i]?=some o) (hd:∀ d∈z38 o,S d=true):∀ j,(z52 (z9o ops []) i).testBit j=true→S j=true:=by
 have spec:=x9w ops [] [] rfl (by simp)
 simp only [List.nil_append] at spec
 have clo:∀ i o,ops[i]?=some o→(∀ d∈z38 o,S d=true)→∀ j,(z52 (z9o ops []) i).testBit j=true→S j=true:=by
  intro i
  induction i using Nat.strongRecOn with
  |_ i ih=>
   intro o ho hd j hj
   rcases spec i o ho j hj with h|⟨d,h1,h2,h3⟩
   ·exact hd j h
   ·have hlt:d<ops.length:=by have:=(eAd.1 ho).1; omega
    have hod:ops[d]?=some ops[d]:=eAa hlt
    exact ih d h2 _ hod (hc d _ hod (hd d h1)) j h3
 exact clo i o ho hd
def x5r (ops:List Oper) (base i:Nat) (l:List Nat):Prop:=∀ id∈l,id<base∨∃ j,id=base+j∧j<i∧(z52 (z9o ops []) i).testBit j=true
theorem x5r.lt {ops:List Oper} {base i:Nat} {l:List Nat} (h:x5r ops base i l):∀ id∈l,id<base+i:=by
 intro id hid
 rcases h id hid with h|⟨j,rfl,h,_⟩<;>omega
inductive x6o (P:Program) (T:TypeId→Option TI) (ops:List Oper) (s:AS) (base i:Nat) (o:Oper):Rec→Prop
 |skip (hg:z5o ops s.env o.guard=some false):x6o P T ops s base i o ⟨.tuple [],[]⟩
 |step (hg:z5o ops s.env o.guard=some true) {G:Nat→Option (List D)} (hG:GOk P G) {q:Bool} {r:List D} {ra:List AV} {res:Res} (hw:(z1q std T s.env s.heap o.op).ok q r ra) (hs:z08 std T G s.env s.heap (base+i) q r ra o.op=some res) (hc:res.c=true) (ht:x5r ops base i (z69 s.env o.op)):x6o P T ops s base i o ⟨res.v,res.u⟩
 |call (hg:z5o ops s.env o.guard=some true) {f:Operand} {args:Array Operand} {ts:Array TypeId} (hop:o.op= .call ⟨.value f,args,ts⟩) {g:FuncId} {first captured:List AV} (hf:z0j s.env f= .clo (.func g) first captured) (hen:z42 P g)
   {r:AV} (hret:∀ h,(∀ id∈z69 s.env o.op,z0e h id=z0e s.heap id)→z2z P g (first++z0s s.env args.toList++captured) h r h) (ht:x5r ops base i (z69 s.env o.op)):x6o P T ops s base i o ⟨r,[]⟩
section
variable {P:Program}
theorem z1p.step' {ρ:Rho} {w:World} {s:AS} {tm:Array Value} (h1:z1p P ρ s tm w) {new:Nat} (hnone:ρ new=none) {dst:Option Tmp} (hd:z5b s.nt dst=true) {res:Res} {v:Value} {w':World} {ρ':Rho}
  (hv:z0i ρ' (z0c ρ' (z06 s.heap res.u)) w' res.v v) (hh:z0a P ρ' (z06 s.heap res.u) w') (hx:Ext (fun id=>id≠new) ρ s.heap w ρ' (z06 s.heap res.u) w') (hr:ρ'=ρ∨∃ o,(new,o)∈res.u):
  z1p P ρ' (z43 s dst res.v res.u) (y11 tm dst v) w':=by
 obtain ⟨l1,l2⟩:=z34 res.u s.heap
 refine ⟨hh,y1t hx.keep (fun id L hL=>?_) h1.env h1.size hd hv,by rw [z8f]; exact h1.size,fun id hid=>?_⟩
 ·rw [hx.rho id (by rintro rfl; rw [hnone] at hL; cases hL)]; exact hL
 ·show id<(z06 s.heap res.u).length
  by_cases he:id=new
  ·subst he
   rcases hr with rfl|⟨o,ho⟩
   ·exact absurd hnone hid
   ·exact l2 _ _ ho
  ·rw [hx.rho id he] at hid
   have:=h1.dom id hid; omega
structure Inv (P:Program) (ops:List Oper) (s0:AS) (recs:List Rec) (S:Nat→Bool) (ρ:Rho) (tm:Array Value) (w:World) (s:AS):Prop where
 nt:s.nt=s0.nt
 env:∀ t,z1k s.env t=y4w s0 ops recs S t ops.length
 heap:∀ id,z0e s.heap id=y23 s0 ops recs S id ops.length
 st:z1p P ρ s tm w
 dom:∀ id,ρ id≠none→id<s0.heap.length∨∃ j r,S j=true∧recs[j]?=some r∧id=s0.heap.length+j∧∃ o,(id,o)∈r.u
 turned:∀ (j:Nat) (r:Rec),S j=true→recs[j]?=some r→∀ id o,(id,o)∈r.u→id=s0.heap.length+j∨(id<s0.heap.length∨∃ k,id=s0.heap.length+k∧k<j∧(z52 (z9o ops []) j).testBit k=true)
 closed:∀ (i:Nat) (o:Oper),ops[i]?=some o→S i=true→∀ d∈z38 o,S d=true
theorem x3q {T:TypeId→Option TI} {ops:List Oper} {s:AS} {base i:Nat} {o:Oper} {r:Rec} (h:x6o P T ops s base i o r):∀ id x,(id,x)∈r.u→id=base+i∨(y0j o.op=true∧id∈z69 s.env o.op∧(id<base∨∃ j,id=base+j∧j<i∧(z52 (z9o ops []) i).testBit j=true)):=by
 intro id x hm
 cases h with
 |skip=>simp at hm
 |step hg hGl hw hs hc ht=>
  rcases w34 hs id x hm with h|h
  ·exact .inl h.1
  ·exact .inr ⟨h.1,h.2,ht id h.2⟩
 |call=>simp at hm
theorem x82 {T : TypeId → Option TI} (hT : y0f P T) {ops : Array Oper} {s0 : AS} {recs : List Rec} (hind : y5f ops.toList = true) (hlen : recs.length ≤ ops.size)
    (hok : ∀ (i : Nat) (o : Oper) (r : Rec), ops[i]? = some o → recs[i]? = some r → z5b s0.nt o.dst = true ∧ x6o P T ops.toList (stF s0 ops.toList recs i) s0.heap.length i o r)
    (hpr : ∀ (i : Nat) (o : Oper), i < recs.length → ops[i]? = some o → y7b s0 ops.toList recs i o)
    {S : Nat → Bool} {ρ : Rho} {tm : Array Value} {w : World} {s : AS} {B : Nat} (hI : Inv P ops.toList s0 recs S ρ tm w s) {i : Nat} {o : Oper} (hiL : i < recs.length) (hSL : ∀ j, S j = true → j < recs.length) (hi : S i = false) (ho : ops[i]? = some o) (hd : ∀ d ∈ z38 o, S d = true)
    {b : Frame} {k : List Item} {cs : List Frame} {ds : List Deferred} {rest : List Nat} (hds : z3e b.roundOf B ρ.fr w ds) :
    ∃ s' ρ' tm' w', Inv P ops.toList s0 recs (fun j => S j || Nat.beq j i) ρ' tm' w' s' ∧ z3e b.roundOf B ρ'.fr w' ds ∧ Ext (· < s0.heap.length) ρ s.heap w ρ' s'.heap w' ∧
      Steps P (lone (b.on tm ds (.inRegion ops (i :: rest) :: k)) cs w) (lone (b.on tm' ds (.inRegion ops rest :: k)) cs w') := by
  have hio : i < ops.size := (eAe.1 ho).1
  obtain ⟨r, hr⟩ : ∃ r, recs[i]? = some r := ⟨recs[i]'(by omega), eAa (by omega)⟩
  obtain ⟨hdst, hop⟩ := hok i o r ho hr
  have hol : ops.toList[i]? = some o := by rw [eAj]; exact ho
  have him : i < ops.toList.length := by simpa using hio
  have before : ∀ (j : Nat) (p : Oper), ops.toList[j]? = some p → j < i → S j = true ∨ y0d ops.toList p o = true := by
    intro j p hp hji
    rcases y6j hind hji hp hol with h | h
    · exact .inl (z1n hI.closed hol hd j h)
    · exact .inr h
  have behind : ∀ (j : Nat) (p : Oper), ops.toList[j]? = some p → i < j → S j = true → y0d ops.toList o p = true := by
    intro j p hp hij hSj
    rcases y6j hind hij hol hp with h | h
    · have := z1n hI.closed hp (hI.closed j p hp hSj) i h
      rw [hi] at this; cases this
    · exact h
  have ap : ∀ {a c : Oper}, y0d ops.toList a c = true → (∀ t, a.dst = some t → t ∉ y53 c.op ++ y6k ops.toList c.guard ++ c.dst.toList) ∧ (∀ t, c.dst = some t → t ∉ y53 a.op ++ y6k ops.toList a.guard ++ a.dst.toList) := by
    intro a c h
    simp only [y0d, eAb] at h
    exact ⟨fun t ht => y34 h.1 ht, fun t ht => y34 h.2 ht⟩
  have dis1 : ∀ (j : Nat) (p : Oper), ops.toList[j]? = some p → j < i → S j = false → (y0j p.op = false ∧ y0j o.op = false) ∨ ∀ id ∈ z69 (stF s0 ops.toList recs j).env p.op, id ∉ z69 (stF s0 ops.toList recs i).env o.op := by
    intro j p hp hji hSj
    rcases hpr i o hiL ho j p hji hp with h | h
    · rw [z1n hI.closed hol hd j h] at hSj; cases hSj
    · exact h
  have dis2 : ∀ (j : Nat) (p : Oper), ops.toList[j]? = some p → i < j → S j = true → (y0j o.op = false ∧ y0j p.op = false) ∨ ∀ id ∈ z69 (stF s0 ops.toList recs i).env o.op, id ∉ z69 (stF s0 ops.toList recs j).env p.op := by
    intro j p hp hij hSj
    rcases hpr j p (hSL j hSj) (by rw [← eAj]; exact hp) i o hij hol with h | h
    · have := z1n hI.closed hp (hI.closed j p hp hSj) i h
      rw [hi] at this; cases this
    · exact h
  have slot : ∀ t, t ∈ y53 o.op ++ y6k ops.toList o.guard → z1k s.env t = z1k (stF s0 ops.toList recs i).env t := by
    intro t ht
    rw [hI.env t]
    refine y1b _ _ _ _ t i _ (by omega) (fun j p hp hpd hji => ?_) (fun j p hp hpd hij hjm => ?_)
    · rcases before j p hp hji with h | h
      · exact h
      · exact absurd (List.mem_append_left _ ht) ((ap h).1 t hpd)
    · by_cases he : j = i
      · rw [he]; exact hi
      · cases hS : S j with
        | false => rfl
        | true => exact absurd (List.mem_append_left _ ht) ((ap (behind j p hp (by omega) hS)).2 t hpd)
  have hE : ∀ x ∈ o.op.operands, z0j s.env x = z0j (stF s0 ops.toList recs i).env x := by
    intro x hx
    cases x with
    | tmp t =>
      refine slot t (List.mem_append_left _ ?_)
      unfold y53
      rw [List.mem_filterMap]
      exact ⟨.tmp t, by simpa using hx, rfl⟩
    | _ => rfl
  have hG : z5o ops.toList s.env o.guard = z5o ops.toList (stF s0 ops.toList recs i).env o.guard := by
    cases hg : o.guard with
    | none => rfl
    | some g =>
      obtain ⟨j, want⟩ := g
      simp only [z5o]
      cases hn : z1j ops.toList j with
      | none => rfl
      | some p =>
        simp only []
        cases hpd : p.dst with
        | none => rfl
        | some d =>
          simp only []
          rw [slot d (List.mem_append_right _ (by rw [hg]; simp [y6k, hn, hpd]))]
  have tidsE : z69 s.env o.op = z69 (stF s0 ops.toList recs i).env o.op := by
    unfold z69
    split
    · congr 1
      refine List.map_congr_left fun x hx => ?_
      rw [hE x (by simpa using hx)]
    · unfold w7a
      split
      · rename_i t x i hop; rw [hE x (by simp [hop, Op.operands])]
      · rename_i t x lo hi mx hop; rw [hE x (by simp [hop, Op.operands])]
      · rfl
  have turnT := x3q hop
  have doneOf : ∀ j, (z52 (z9o ops.toList []) i).testBit j = true → S j = true := fun j h => z1n hI.closed hol hd j h
  have free : ρ (s0.heap.length + i) = none := by
    cases hq : ρ (s0.heap.length + i) with
    | none => rfl
    | some L =>
      rcases hI.dom _ (by rw [hq]; simp) with h | ⟨j, q, hS, hj, he, _⟩
      · omega
      · have : j = i := by omega
        subst this; rw [hi] at hS; cases hS
  have obj : x5r ops.toList s0.heap.length i (z69 (stF s0 ops.toList recs i).env o.op) → ∀ id ∈ z69 (stF s0 ops.toList recs i).env o.op, z0e s.heap id = z0e (stF s0 ops.toList recs i).heap id := by
    intro hlt id hid
    rw [hI.heap id]
    refine y1a _ _ _ _ id i _ (by omega) (fun j q hq hx hji => ?_) (fun j q hq hx hij hjm => ?_)
    · obtain ⟨x, hx⟩ := hx
      have hjs : j < ops.size := by omega
      have hoj : ops[j]? = some ops[j] := eAm hjs
      have hojl : ops.toList[j]? = some ops[j] := by rw [eAj]; exact hoj
      rcases x3q (hok j _ q hoj hq).2 id x hx with h | ⟨h1, h2, h3⟩
      · rcases hlt id hid with h' | ⟨j', he, _, hb⟩
        · omega
        · have : j' = j := by omega
          subst this; exact doneOf _ hb
      · cases hSj : S j with
        | true => rfl
        | false =>
          rcases dis1 j _ hojl hji hSj with h | h
          · rw [h1] at h; cases h.1
          · exact absurd hid (h id h2)
    · by_cases he : j = i
      · rw [he]; exact hi
      · cases hS : S j with
        | false => rfl
        | true =>
          exfalso
          obtain ⟨x, hx⟩ := hx
          have hjs : j < ops.size := by simpa using hjm
          have hoj : ops[j]? = some ops[j] := eAm hjs
          have hojl : ops.toList[j]? = some ops[j] := by rw [eAj]; exact hoj
          rcases x3q (hok j _ q hoj hq).2 id x hx with h | ⟨h1, h2, h3⟩
          · have := hlt.lt id hid; omega
          · rcases dis2 j _ hojl (by omega) hS with h | h
            · rw [h1] at h; cases h.2
            · exact h id hid h2
  have main : ∃ ρ' tm' w', z1p P ρ' (z43 s o.dst r.v r.u) tm' w' ∧ z3e b.roundOf B ρ'.fr w' ds ∧ Ext (fun id => id ≠ s0.heap.length + i) ρ s.heap w ρ' (z06 s.heap r.u) w' ∧
      (∀ id, ρ' id ≠ none → ρ id ≠ none ∨ (id = s0.heap.length + i ∧ ∃ x, (id, x) ∈ r.u)) ∧
      Steps P (lone (b.on tm ds (.inRegion ops (i :: rest) :: k)) cs w) (lone (b.on tm' ds (.inRegion ops rest :: k)) cs w') := by
    have hdst' : z5b s.nt o.dst = true := by rw [hI.nt]; exact hdst
    cases hop with
    | skip hg =>
      rw [← hG] at hg
      exact ⟨ρ, _, w, hI.st.step' free (res := ⟨true, .tuple [], []⟩) hdst' y88 hI.st.heap (Ext.refl _ _ _ _) (.inl rfl), hds, Ext.refl _ _ _ _, fun id h => .inl h, .one (y5x ho (z4v hI.st hg))⟩
    | step hg hGl hw hs hc ht =>
      rename_i q rr ra res
      have hH := obj ht
      obtain ⟨e1, e2⟩ := x1v (T := T) (new := s0.heap.length + i) (q := q) (r := rr) (ra := ra) (op := o.op) (env := (stF s0 ops.toList recs i).env) (env' := s.env) (h := (stF s0 ops.toList recs i).heap) (h' := s.heap) hE hH
      rw [← e2] at hw
      rw [← e1] at hs
      rw [← hG] at hg
      obtain ⟨v, w', ρ', hrun, hv, hh, hx, hrho⟩ := x27 hT hGl hI.st.heap free hI.st.env hw hs hc
      have h1' := hI.st.step' free hdst' hv hh hx hrho
      have hdef : ∀ c, o.op ≠ .defer c := by
        intro c hc; rw [hc] at hs; simp [z08] at hs
      refine ⟨ρ', _, w', h1', hds.keep hI.st.heap hx, hx, fun id h => ?_, .one (z9w ho (z4v hI.st hg) hdef hrun)⟩
      by_cases he : id = s0.heap.length + i
      · rcases hrho with rfl | ⟨x, hx⟩
        · exact .inl h
        · exact .inr ⟨he, x, by rw [he]; exact hx⟩
      · rw [hx.rho id he] at h; exact .inl h
    | call hg hopc hf hen hret ht =>
      rename_i f args ts g first captured rv
      rw [← hG] at hg
      have hfE : z0j s.env f = .clo (.func g) first captured := by
        rw [hE f (by rw [hopc]; simp [Op.operands, Call.operands])]; exact hf
      have hargs : z0s s.env args.toList = z0s (stF s0 ops.toList recs i).env args.toList := z7p fun x hx => hE x (by rw [hopc]; simp [Op.operands, Call.operands]; right; simpa using hx)
      have hret := hret s.heap (obj ht)
      rw [← hargs] at hret
      have hfv := z0f hI.st.env f
      rw [hfE] at hfv
      obtain ⟨vf, vc, hfe, hfr, hcr⟩ : ∃ vf vc, opv tm f = .func (.func g) vf vc ∧ z0z ρ (z0c ρ s.heap) w first vf ∧ z0z ρ (z0c ρ s.heap) w captured vc := by
        generalize hv : opv tm f = v at hfv
        cases hfv with
        | clo _ _ _ vf vc a1 a2 a3 a4 => exact ⟨vf, vc, rfl, ⟨a1, a3⟩, ⟨a2, a4⟩⟩
      have har : z0z ρ (z0c ρ s.heap) w (z0s s.env args.toList) (args.map (opv tm)) := z66 hI.st.env args
      have hall := (hfr.append har).append hcr
      have hexec : (execOp (opv tm) o).run P w = .ok (.enter g (vf ++ args.map (opv tm) ++ vc)) w := by
        have := hen (vf ++ args.map (opv tm) ++ vc) w
        simp only [Array.append_assoc] at this
        simp [execOp, hopc, resolve, Deferred.ofValue, hfe, invoke, this]
      obtain ⟨ρ', v, w', fr, hst, hfn, hlv, hv, hh, hdm, hx⟩ := hret.run ρ _ w (b.on tm ds (.inRegion ops (i :: rest) :: k) :: cs) hI.st.heap hI.st.dom hall
      have hrho : ∀ id, ρ' id = ρ id := by
        intro id
        by_cases hlt : id < s.heap.length
        · exact hx.rho id hlt
        · have e1 : ρ' id = none := by
            cases hq : ρ' id with
            | none => rfl
            | some L => have := hdm id (by rw [hq]; simp); omega
          have e2 : ρ id = none := by
            cases hq : ρ id with
            | none => rfl
            | some L => have := hI.st.dom id (by rw [hq]; simp); omega
          rw [e1, e2]
      have hdef : ∀ c, o.op ≠ .defer c := by rw [hopc]; simp
      refine ⟨ρ', y11 tm o.dst v, w', ⟨hh, y1t hx.keep (fun id L hL => by rw [hrho]; exact hL) hI.st.env hI.st.size hdst' hv, by rw [z8f]; exact hI.st.size, hdm⟩, hds.keep hI.st.heap hx, ⟨hx.os, hx.tape, hx.output, hx.keep, fun id _ => hrho id, hx.fr, hx.frs⟩, fun id h => .inl (by rw [← hrho]; exact h), ?_⟩
      refine .head (y3k ho (z4v hI.st hg) hdef hexec) (Steps.trans hst (.one ?_))
      rw [← z8p ho]
      exact step_leave_returned hlv
  obtain ⟨ρ', tm', w', h1, h2, h3, h4, h5⟩ := main
  have mono : ∀ id, ρ id ≠ none → ρ' id ≠ none := by
    intro id h
    rw [h3.rho id (by rintro rfl; exact h free)]; exact h
  have h3' : Ext (· < s0.heap.length) ρ s.heap w ρ' (z43 s o.dst r.v r.u).heap w' := h3.mono (fun id (hid : id < s0.heap.length) => by show id ≠ s0.heap.length + i; omega)
  refine ⟨z43 s o.dst r.v r.u, ρ', tm', w', ?_, h2, h3', h5⟩
  have mem : ∀ j, (S j || Nat.beq j i) = true ↔ S j = true ∨ j = i := by
    intro j
    simp only [eAq]
    constructor
    · rintro (h | h)
      · exact .inl h
      · exact .inr (eAc h)
    · rintro (h | rfl)
      · exact .inl h
      · exact .inr (eCs _)
  have hS' : ∀ j, S j = true → j ≠ i := by
    rintro j hj rfl; rw [hi] at hj; cases hj
  exact
    { nt := hI.nt
      env := fun t => by
        rw [x6w _ _ _ _ i hol hr t _ him (fun j p hp hij hSj d hod hpd => ?_)]
        · show z1k (y3o s.env o.dst r.v) t = _
          cases hod : o.dst with
          | none => simp [y3o, hI.env t]
          | some d =>
            simp only [y3o]
            by_cases e : d = t
            · subst e; rw [if_pos rfl, z0r]
            · rw [if_neg (by simp [e]), z09 _ _ _ _ e, hI.env t]
        · exact (ap (behind j p hp hij hSj)).1 d hod (List.mem_append_right _ (by simp [hpd]))
      heap := fun id => by
        rw [x6v _ _ _ _ i hol hr hi id _ him (fun j q hq hij hSj hx x hx2 => ?_)]
        · show z0e (z06 s.heap r.u) id = _
          rw [z91, hI.heap id]
        · obtain ⟨y, hy⟩ := hx
          have hjs : j < ops.size := by have := (eAd.1 hq).1; omega
          have hoj : ops[j]? = some ops[j] := eAm hjs
          have hojl : ops.toList[j]? = some ops[j] := by rw [eAj]; exact hoj
          rcases hI.turned j q hSj hq id x hx2 with h | h
          · rcases turnT id y hy with h' | ⟨_, _, h' | ⟨_, h', _, _⟩⟩ <;> omega
          · rcases turnT id y hy with h' | ⟨a1, a2, a3⟩
            · rcases h with h | ⟨k', h, hk1, hk2⟩
              · omega
              · have : k' = i := by omega
                subst this
                have hSk := z1n hI.closed hojl (hI.closed j _ hojl hSj) k' hk2
                rw [hi] at hSk; cases hSk
            · rcases x3q (hok j _ q hoj hq).2 id x hx2 with g | ⟨g1, g2, g3⟩
              · rcases a3 with a3 | ⟨_, a3, _, _⟩ <;> omega
              · rcases dis2 j _ hojl hij hSj with h | h
                · rw [a1] at h; cases h.1
                · exact h id a2 g2
      st := h1
      dom := fun id h => by
        rcases h4 id h with h | ⟨he, x, hx⟩
        · rcases hI.dom id h with h | ⟨j, q, a1, a2, a3, a4⟩
          · exact .inl h
          · exact .inr ⟨j, q, (mem j).2 (.inl a1), a2, a3, a4⟩
        · exact .inr ⟨i, r, (mem i).2 (.inr rfl), hr, he, x, hx⟩
      turned := fun j q hj hq id x hx => by
        rcases (mem j).1 hj with h | rfl
        · exact hI.turned j q h hq id x hx
        · rw [hr] at hq; cases hq
          rcases turnT id x hx with h | ⟨_, _, h⟩
          · exact .inl h
          · exact .inr h
      closed := fun j p hp hj d hdd => by
        refine (mem d).2 (.inl ?_)
        rcases (mem j).1 hj with h | rfl
        · exact hI.closed j p hp h d hdd
        · rw [hol] at hp; cases hp; exact hd d hdd }
theorem x28 (s:AS) (ops:List Oper) (recs:List Rec):∀ m,(stF s ops recs m).nt=s.nt:=by
 intro m
 induction m with
 |zero=>rfl
 |succ m ih=>
  simp only [stF]
  split
  ·simpa [z43] using ih
  ·exact ih
theorem x12 (s:AS) (ops:List Oper) (recs:List Rec):∀ m,s.heap.length≤(stF s ops recs m).heap.length∧∀ j o r,j<m→ops[j]?=some o→recs[j]?=some r→∀ id x,(id,x)∈r.u→id<(stF s ops recs m).heap.length:=by
 intro m
 induction m with
 |zero=>exact ⟨eAk _,fun j o r hj=>by omega⟩
 |succ m ih=>
  obtain ⟨i1,i2⟩:=ih
  simp only [stF]
  split
  ·rename_i o r ho hr
   obtain ⟨l1,l2⟩:=z34 r.u (stF s ops recs m).heap
   refine ⟨eBf i1 l1,fun j o' r' hj ho' hr' id x hx=>?_⟩
   by_cases he:j=m
   ·subst he; rw [hr] at hr'; cases hr'; exact l2 id x hx
   ·exact eAn (i2 j o' r' (by omega) ho' hr' id x hx) l1
  ·rename_i hno
   refine ⟨i1,fun j o' r' hj ho' hr' id x hx=>?_⟩
   by_cases he:j=m
   ·subst he; exact absurd hr' (hno o' r' ho')
   ·exact i2 j o' r' (by omega) ho' hr' id x hx
theorem y4o {T:TypeId→Option TI} (hT:y0f P T) {ops:Array Oper} {s0:AS} {recs:List Rec} (hind:y5f ops.toList=true) (hlen:recs.length≤ops.size)
  (hok:∀ (i:Nat) (o:Oper) (r:Rec),ops[i]?=some o→recs[i]?=some r→z5b s0.nt o.dst=true∧x6o P T ops.toList (stF s0 ops.toList recs i) s0.heap.length i o r)
  (hpr:∀ (i:Nat) (o:Oper),i<recs.length→ops[i]?=some o→y7b s0 ops.toList recs i o)
  (htail:∀ (i:Nat) (o:Oper),ops[i]?=some o→recs.length≤i→∀ j,j<recs.length→(z52 (z9o ops.toList []) i).testBit j=true)
  {b:Frame} {k:List Item} {cs:List Frame} {ds:List Deferred} {B:Nat} {S:Nat→Bool} {l:List Nat} (hl:Ord ops S l):∀ {ρ:Rho} {tm:Array Value} {w:World} {s:AS},(∀ j,S j=true→j<recs.length)→Inv P ops.toList s0 recs S ρ tm w s→z3e b.roundOf B ρ.fr w ds→
  ∃ s' ρ' tm' w' S' l',Inv P ops.toList s0 recs S' ρ' tm' w' s'∧Ord ops S' l'∧(∀ i,i<recs.length→S' i=true)∧(∀ j,S' j=true→j<recs.length)∧z3e b.roundOf B ρ'.fr w' ds∧Ext (· <s0.heap.length) ρ s.heap w ρ' s'.heap w'∧
   Steps P (lone (b.on tm ds (.inRegion ops l::k)) cs w) (lone (b.on tm' ds (.inRegion ops l'::k)) cs w'):=by
 induction hl with
 |nil S h=>
  intro ρ tm w s hSL hI hds
  exact ⟨s,ρ,tm,w,S,[],hI, .nil S h,fun i hi=>h i (by omega),hSL,hds,Ext.refl _ _ _ _, .refl _ _⟩
 |cons S i o l hi ho hd h ih=>
  intro ρ tm w s hSL hI hds
  by_cases hiL:i<recs.length
  ·obtain ⟨s',ρ',tm',w',g1,g2,g3,g4⟩:=x82 hT hind hlen hok hpr hI hiL hSL hi ho hd (b:=b) (k:=k) (cs:=cs) (rest:=l) hds
   obtain ⟨s2,ρ2,tm2,w2,S2,l2,f1,f2,f3,f4,f5,f6,f7⟩:=ih (fun j hj=>by
    simp only [eAq] at hj
    rcases hj with hj|hj
    ·exact hSL j hj
    ·rw [eAc hj]; exact hiL) g1 g2
   exact ⟨s2,ρ2,tm2,w2,S2,l2,f1,f2,f3,f4,f5,g3.trans f6,g4.trans f7⟩
  ·have hol:ops.toList[i]?=some o:=by rw [eAj]; exact ho
   exact ⟨s,ρ,tm,w,S,i::l,hI, .cons S i o l hi ho hd h,fun j hj=>z1n hI.closed hol hd j (htail i o ho (by omega) j hj),hSL,hds,Ext.refl _ _ _ _, .refl _ _⟩
theorem w11 {T:TypeId→Option TI} (hT:y0f P T) {ops:Array Oper} {s0:AS} {recs:List Rec} (hind:y5f ops.toList=true) (hlen:recs.length=ops.size)
  (hok:∀ (i:Nat) (o:Oper) (r:Rec),ops[i]?=some o→recs[i]?=some r→z5b s0.nt o.dst=true∧x6o P T ops.toList (stF s0 ops.toList recs i) s0.heap.length i o r)
  (hpr:∀ (i:Nat) (o:Oper),i<recs.length→ops[i]?=some o→y7b s0 ops.toList recs i o)
  {b:Frame} {k:List Item} {cs:List Frame} {ds:List Deferred} {B:Nat} {S:Nat→Bool} {l:List Nat} (hl:Ord ops S l) {ρ:Rho} {tm:Array Value} {w:World} {s:AS} (hSL:∀ j,S j=true→j<recs.length) (hI:Inv P ops.toList s0 recs S ρ tm w s) (hds:z3e b.roundOf B ρ.fr w ds):
  ∃ s' ρ' tm' w' S',Inv P ops.toList s0 recs S' ρ' tm' w' s'∧(∀ i,i<ops.size→S' i=true)∧z3e b.roundOf B ρ'.fr w' ds∧Ext (· <s0.heap.length) ρ s.heap w ρ' s'.heap w'∧
   Steps P (lone (b.on tm ds (.inRegion ops l::k)) cs w) (lone (b.on tm' ds k) cs w'):=by
 obtain ⟨s2,ρ2,tm2,w2,S2,l2,f1,f2,f3,f4,f5,f6,f7⟩:=y4o hT hind (Nat.le_of_eq hlen) hok hpr (fun i o ho hge=>by have:=(eAe.1 ho).1; omega) hl (k:=k) (cs:=cs) hSL hI hds
 have hnil:l2=[]:=by
  cases f2 with
  |nil=>rfl
  |cons _ i o _ hi ho _ _=>have:=(eAe.1 ho).1; rw [f3 i (by omega)] at hi; cases hi
 subst hnil
 exact ⟨s2,ρ2,tm2,w2,S2,f1,fun i hi=>f3 i (by omega),f5,f6,f7.trans (.one z7g)⟩
theorem y2l {T : TypeId → Option TI} (hm : P.follows .mixedOrders = true) (hT : y0f P T) {n : Nat} {id : Nat} {ops : Array Oper} {s0 : AS} {Q : AX → AS → Prop} (hn : n ≤ s0.heap.length) (hind : y5f ops.toList = true) (hed : z6h ops.toList = true)
    (recs : List Rec) (hlen : recs.length = ops.size)
    (hok : ∀ (i : Nat) (o : Oper) (r : Rec), ops[i]? = some o → recs[i]? = some r → z5b s0.nt o.dst = true ∧ x6o P T ops.toList (stF s0 ops.toList recs i) s0.heap.length i o r)
    (hpr : ∀ (i : Nat) (o : Oper), i < recs.length → ops[i]? = some o → y7b s0 ops.toList recs i o)
    (hQ : Q .normal (stF s0 ops.toList recs ops.size)) : z5u P n (.region id ops true) s0 Q := ⟨by
  intro b k cs ρ tm ds w B h1 h2
  have hw := z0a.drawn h1.heap (w.drawn + 1) (z0m.succ _)
  have hxd := Ext.drawn (· < n) ρ s0.heap w (w.drawn + 1) (z0m.succ _)
  have hI : Inv P ops.toList s0 recs (fun _ => false) ρ tm { w with drawn := w.drawn + 1 } s0 :=
    { nt := rfl
      env := fun t => by
        have : ∀ m, y4w s0 ops.toList recs (fun _ => false) t m = z1k s0.env t := by
          intro m
          induction m with
          | zero => rfl
          | succ m ih => simp only [y4w]; split <;> simp [ih]
        rw [this]
      heap := fun id => by
        have : ∀ m, y23 s0 ops.toList recs (fun _ => false) id m = z0e s0.heap id := by
          intro m
          induction m with
          | zero => rfl
          | succ m ih => simp only [y23]; split <;> simp [ih]
        rw [this]
      st := ⟨hw, fun t => (h1.env t).keep hxd.keep (fun _ _ h => h), h1.size, h1.dom⟩
      dom := fun id h => .inl (h1.dom id h)
      turned := by simp
      closed := by simp }
  obtain ⟨s', ρ', tm', w', S', g1, g2, g3, g4, g5⟩ := w11 hT hind hlen hok hpr (b := b) (k := k) (cs := cs) (ds := ds) (B := B) (z8i hed (w.tape w.drawn (.order b.fn id))) (by simp) hI (h2.keep h1.heap hxd)
  have hall : ∀ i, i < ops.toList.length → S' i = true := by simpa using g2
  have hE : ∀ t, z1k (stF s0 ops.toList recs ops.size).env t = z1k s'.env t := by
    intro t
    rw [g1.env t, w0g _ _ _ _ t _ hall, eBa]
  have hH : ∀ id, z0e s'.heap id = z0e (stF s0 ops.toList recs ops.size).heap id := by
    intro id
    rw [g1.heap id, w0f _ _ _ _ id _ hall, eBa]
  obtain ⟨l1, l2⟩ := x12 s0 ops.toList recs ops.size
  have hst : z1p P ρ' (stF s0 ops.toList recs ops.size) tm' w' :=
    ⟨g1.st.heap.ext hH, fun t => by rw [hE, ← z2w hH]; exact g1.st.env t, by rw [x28, ← g1.nt]; exact g1.st.size, fun id hid => by
      rcases g1.dom id hid with h | ⟨j, r, a1, a2, a3, x, a4⟩
      · omega
      · have hj : j < ops.size := by have := (eAd.1 a2).1; omega
        exact l2 j ops[j] r hj (by rw [eAj]; exact eAm hj) a2 id x a4⟩
  refine ⟨.normal, _, ρ', tm', ds, w', hQ, hst, g3, x28 _ _ _ _, ?_, ?_⟩
  · refine hxd.trans ?_
    have := g4.mono (S' := (· < n)) (fun id (hid : id < n) => by show id < s0.heap.length; omega)
    exact ⟨this.os, this.tape, this.output, by rw [← z2w hH]; exact this.keep, this.rho, this.fr, this.frs⟩
  · have hst := z6e (P := P) (b := b) (tm := tm) (ds := ds) (k := k) (cs := cs) (w := w) (id := id) (ops := ops)
    rw [hm] at hst
    exact .head hst g5⟩
inductive DS (P:Program) (T:TypeId→Option TI) (ops:List Oper) (nt base:Nat) (K:AS→Prop):List (List Nat)→Nat→List Oper→AS→Prop
 |nil {acc:List (List Nat)} {i:Nat} {s:AS} (h:K s):DS P T ops nt base K acc i [] s
 |cons {acc:List (List Nat)} {i:Nat} {o:Oper} {rest:List Oper} {s:AS} {r:Rec} (hp:x3k ops acc i o (z69 s.env o.op)=true) (hd:z5b nt o.dst=true) (hop:x6o P T ops s base i o r)
   (h:DS P T ops nt base K (acc++[z69 s.env o.op]) (i+1) rest (z43 s o.dst r.v r.u)):DS P T ops nt base K acc i (o::rest) s
theorem DS.recs {T:TypeId→Option TI} {ops:List Oper} {nt base:Nat} {K:AS→Prop} {s0:AS} {acc:List (List Nat)} {i:Nat} {rest:List Oper} {s:AS} (h:DS P T ops nt base K acc i rest s):
  ∀ (pre tail:List Oper) (rs:List Rec),ops=pre++rest++tail→pre.length=i→rs.length=i→s=stF s0 ops rs i→
   (∀ (j:Nat) (o:Oper) (r:Rec),ops[j]?=some o→rs[j]?=some r→z5b nt o.dst=true∧x6o P T ops (stF s0 ops rs j) base j o r)→
   (acc.length=i)→(∀ (j:Nat) (o:Oper),j<i→ops[j]?=some o→x2f acc j=z69 (stF s0 ops rs j).env o.op)→(∀ (j:Nat) (o:Oper),j<i→ops[j]?=some o→y7b s0 ops rs j o)→
   ∃ recs:List Rec,recs.length+tail.length=ops.length∧(∀ (j:Nat) (o:Oper) (r:Rec),ops[j]?=some o→recs[j]?=some r→z5b nt o.dst=true∧x6o P T ops (stF s0 ops recs j) base j o r)∧(∀ (j:Nat) (o:Oper),j<recs.length→ops[j]?=some o→y7b s0 ops recs j o)∧K (stF s0 ops recs recs.length):=by
 induction h with
 |nil h=>
  intro pre tail rs e hp hr hs hok ha1 ha2 hpr
  refine ⟨rs,by rw [e]; simp [hp,hr],hok,fun j o hj=>hpr j o (by omega),by rw [hr, ←hs]; exact h⟩
 |cons hpb hd hop h ih=>
  rename_i acc i o rest s r
  intro pre tail rs e hp hr hs hok ha1 ha2 hpr
  have hoi:ops[i]?=some o:=by rw [e, ←hp]; simp
  have stable:∀ m,m≤rs.length→stF s0 ops (rs++[r]) m=stF s0 ops rs m:=by
   intro m
   induction m with
   |zero=>intro _; rfl
   |succ m ih=>intro hm; simp only [stF]; rw [ih (by omega),eBz (by omega)]
  have hri:(rs++[r])[i]?=some r:=by rw [←hr]; simp
  refine ih (pre++[o]) tail (rs++[r]) (by rw [e]; simp) (by simp [hp]) (by simp [hr]) ?_ (fun j p q hj hq=>?_) (by simp [ha1]) (fun j p hj hpp=>?_) (fun j p hj hpp=>?_)
  ·simp only [stF,hoi,hri]
   rw [stable i (by omega), ←hs]
  ·rw [eAs] at hq
   split at hq
   ·rename_i hlt
    rw [stable j (by omega)]
    exact hok j p q hj hq
   ·rename_i hge
    have hj0:j=i:=by have:=(eAd.1 hq).1; simp at this; omega
    subst hj0
    rw [hoi] at hj; cases hj
    have:r=q:=by rw [←hr] at hq; simpa using hq
    subst this
    rw [stable j (by omega), ←hs]
    exact ⟨hd,hop⟩
  ·rw [stable j (by omega)]
   by_cases hji:j=i
   ·subst hji
    rw [hoi] at hpp; cases hpp
    rw [←ha1,z8l,ha1, ←hs]
   ·rw [z8k _ _ _ (by omega)]
    exact ha2 j p (by omega) hpp
  ·by_cases hji:j=i
   ·subst hji
    rw [hoi] at hpp; cases hpp
    intro m a hm hma
    rw [stable m (by omega),stable j (by omega)]
    unfold x3k at hpb
    have:=eAr.1 hpb m (eBo.2 hm)
    rw [x3s,hma] at this
    simp only [eAq,eAb,eBy] at this
    rcases this with h|h|h
    ·exact .inl h
    ·exact .inr (.inl h)
    ·refine .inr (.inr ?_)
     rw [ha2 m a hm hma] at h
     rw [←hs]
     exact y6u h
   ·intro m a hm hma
    have:=hpr j p (by omega) hpp m a hm hma
    rw [stable m (by omega),stable j (by omega)]
    exact this
theorem x88 {T:TypeId→Option TI} (hm:P.follows .mixedOrders=true) (hT:y0f P T) {n:Nat} {id:Nat} {ops:Array Oper} {s0:AS} {Q:AX→AS→Prop} (hn:n≤s0.heap.length) (hind:y5f ops.toList=true) (hed:z6h ops.toList=true)
  (h:DS P T ops.toList s0.nt s0.heap.length (Q .normal) [] 0 ops.toList s0):z5u P n (.region id ops true) s0 Q:=by
 obtain ⟨recs,h1,h2,h4,h3⟩:=h.recs (s0:=s0) [] [] [] (by simp) rfl rfl rfl (by simp) rfl (fun j o hj=>by omega) (fun j o hj=>by omega)
 refine y2l hm hT hn hind hed recs (by simpa using h1) (fun i o r ho hr=>h2 i o r (by rw [eAj]; exact ho) hr) (fun i o hi ho=>h4 i o hi (by rw [eAj]; exact ho)) (by simp at h1; rw [h1] at h3; exact h3)
end
end Go.Am
end
section
namespace Go.Am
def x4n {α:Type} (l:List α) (off len:Nat):List α:=(l.drop off).take len
def x33 (cap:Option Nat) (len:Nat):Bool:=
 match cap with
 |some c=>Nat.beq c len
 |none=>false
def frz (o:AO) (z off len:Nat) (cap:Option Nat):AV:=
 match o with
 | .row es=>bif Nat.ble (off+len) es.length then .d (.list (x33 cap len) z (x4n es off len)) else .bot
 |_=> .bot
mutual
def z2f (h:List AO) (kp:Nat→Bool):AV→AV
 | .bot=> .bot
 | .d x=> .d x
 | .bptr id off=>bif kp id then .bptr id off else .bot
 | .ptr id i off=>bif kp id then .ptr id i off else .bot
 | .lptr c off=> .lptr c off
 | .wptr c off=> .wptr c off
 | .perm c=> .perm c
 | .slice id z off len cap=>bif kp id then .slice id z off len cap else frz (z0e h id) z off len cap
 | .map id=>bif kp id then .map id else .bot
 | .yld id=>bif kp id then .yld id else .bot
 | .clo fn fs cs=> .clo fn (y42 h kp fs) (y42 h kp cs)
 | .iface t v=> .iface t (z2f h kp v)
 | .agg cs=> .agg (y42 h kp cs)
 | .tuple vs=> .tuple (y42 h kp vs)
def y42 (h:List AO) (kp:Nat→Bool):List AV→List AV
 |[]=>[]
 |x::l=>z2f h kp x::y42 h kp l
end
theorem z7b (h:List AO) (kp:Nat→Bool) (l:List AV):y42 h kp l=l.map (z2f h kp):=by
 induction l with
 |nil=>rfl
 |cons x l ih=>simp [y42,ih]
def x23 (h:List AO) (kp:Nat→Bool):List (List AV)→List (List AV)
 |[]=>[]
 |x::l=>y42 h kp x::x23 h kp l
def y7e {α:Type} (h:List AO) (kp:Nat→Bool):List (α×AV)→List (α×AV)
 |[]=>[]
 |(k,x)::l=>(k,z2f h kp x)::y7e h kp l
def x49 (h:List AO) (kp:Nat→Bool):AO→AO
 | .dead=> .dead
 | .box cs=> .box (y42 h kp cs)
 | .row es=> .row es
 | .arow es=> .arow (x23 h kp es)
 | .map es=> .map es
 | .loop st pd g pos nt env=> .loop st pd g pos nt (y7e h kp env)
theorem y87 (h:List AO) (kp:Nat→Bool) (l:List (List AV)):x23 h kp l=l.map (y42 h kp):=by
 induction l with
 |nil=>rfl
 |cons x l ih=>simp [x23,ih]
theorem y6l (h:List AO) (kp:Nat→Bool) (env:List (Nat×AV)) (t:Nat):z1k (y7e h kp env) t=z2f h kp (z1k env t):=by
 induction env with
 |nil=>rfl
 |cons x env ih=>
  obtain ⟨k,x⟩:=x
  simp only [y7e,z1k]
  cases Nat.beq k t<;>simp [ih]
theorem z6k (h:List AO) (kp:Nat→Bool) (o:AO):(x49 h kp o).live=o.live:=by cases o<;>rfl
def z2t (h:List AO) (kp:Nat→Bool):Nat→List AO→List AO
 |_,[]=>[]
 |i,o::l=>(bif kp i then x49 h kp o else .dead)::z2t h kp (i+1) l
theorem z3t (h:List AO) (kp:Nat→Bool) (l:List AO):∀ i id,z0e (z2t h kp i l) id=if kp (i+id)=true then x49 h kp (z0e l id) else .dead:=by
 induction l with
 |nil=>intro i id; simp [z2t,z0e,x49]
 |cons o l ih=>
  intro i id
  cases id with
  |zero=>simp only [z2t,z0e,eAt]; cases kp i<;>rfl
  |succ id=>simp only [z2t,z0e]; rw [ih,show i+1+id=i+(id+1) by omega]
theorem z4p (h:List AO) (kp:Nat→Bool) (l:List AO):∀ i,(z2t h kp i l).length=l.length:=by
 induction l with
 |nil=>intro i; rfl
 |cons o l ih=>intro i; simp [z2t,ih]
section
variable {ρ:Rho} {h:List AO} {w:World} {kp:Nat→Bool}
def Rho.only (ρ:Rho) (kp:Nat→Bool):Rho:=⟨fun id=>if kp id=true then ρ id else none,ρ.fr⟩
theorem z1g {id:Nat} {L:Loc}:ρ.only kp id=some L↔kp id=true∧ρ id=some L:=by
 simp [Rho.only]
theorem x3l {b:Nat}:z0c (ρ.only kp) (z2t h kp 0 h) b↔ρ.fr b∨∃ id L,kp id=true∧ρ id=some L∧(z0e h id).live=true∧L.blk=b:=by
 unfold z0c
 constructor
 ·rintro (hf|⟨id,L,hL,hl,rfl⟩)
  ·exact .inl hf
  ·obtain ⟨h1,h2⟩:=z1g.1 hL
   rw [z3t,eAp,if_pos h1,z6k] at hl
   exact .inr ⟨id,L,h1,h2,hl,rfl⟩
 ·rintro (hf|⟨id,L,h1,h2,hl,rfl⟩)
  ·exact .inl hf
  ·refine .inr ⟨id,L,z1g.2 ⟨h1,h2⟩,?_,rfl⟩
   rw [z3t,eAp,if_pos h1,z6k]; exact hl
theorem z3q {b:Nat} (hb:z0c (ρ.only kp) (z2t h kp 0 h) b):z0c ρ h b:=by
 rcases x3l.1 hb with hf|⟨id,L,_,h2,hl,rfl⟩
 ·exact .inl hf
 ·exact .inr ⟨id,L,h2,hl,rfl⟩
theorem y4p {c:Array Value} {t:TypeId} {b k:Nat} {v:Value} (hb:w.heap[b]?=some (.cells c t (0,0))) (hv:c[k]?=some v):w.cell? ⟨b,k,none⟩=some v:=by
 simp [World.cell?,hb,hv]
theorem z8z {P:Program} (hr:z0a P ρ h w) {x:AV} {v:Value} (hv:z0i ρ (z0c ρ h) w x v):z0i (ρ.only kp) (z0c (ρ.only kp) (z2t h kp 0 h)) w (z2f h kp x) v:=by
 have hk:z3s (z0c ρ h) (z0c (ρ.only kp) (z2t h kp 0 h)) w w:=⟨eAk _,fun _ _ _=>rfl,fun b _ hb=>z3q hb,fun _ _ h=>h,z0m.refl _⟩
 induction hv with
 |bot v=>exact .bot v
 |d h=>exact .d (h.keep hk)
 |bptr id off L hL=>
  simp only [z2f]
  cases hkp:kp id with
  |true=>exact .bptr id off L (z1g.2 ⟨hkp,hL⟩)
  |false=>exact .bot _
 |ptr id i off L hL=>
  simp only [z2f]
  cases hkp:kp id with
  |true=>exact .ptr id i off L (z1g.2 ⟨hkp,hL⟩)
  |false=>exact .bot _
 |lptr r off b o hlt hO cell hc hrr=>
  exact .lptr r off b o hlt (fun hb=>hO (z3q hb)) cell hc (fun j x hx=>(hrr j x hx).keep hk)
 |wptr es off b o z hlt hO hz hc=>
  exact .wptr es off b o z hlt (fun hb=>hO (z3q hb)) hz fun i r j x hi hx=>let ⟨v,hv,hr⟩:=hc i r j x hi hx; ⟨v,hv,hr.keep hk⟩
 |perm es es' v hp h=>exact .perm es es' v hp (h.keep hk)
 |nils id z off cap a hc=>
  simp only [z2f]
  cases hkp:kp id with
  |true=>exact .nils id z off cap a hc
  |false=>
   simp only [cond_false]
   unfold frz
   split
   ·cases Nat.ble (off+0) _ with
    |false=>exact .bot _
    |true=>simp only [cond_true,x4n,List.take_zero]; exact .d (.lnil _ _ _ _ (fun _=>rfl))
   ·exact .bot _
 |slice id z off len cap L a c hL hz ha hc hl=>
  simp only [z2f]
  cases hkp:kp id with
  |true=>exact .slice id z off len cap L a c (z1g.2 ⟨hkp,hL⟩) hz ha hc hl
  |false=>
   simp only [cond_false]
   unfold frz
   split
   ·rename_i es hes
    cases hb:Nat.ble (off+len) es.length with
    |false=>exact .bot _
    |true=>
     have hle:=eAf hb
     simp only [cond_true]
     obtain ⟨hblk,hob⟩:=hr.obj id L hL
     rw [hes] at hob
     obtain ⟨hz0,cs,t,hcs,hrows,hcell⟩:=hob
     have hfull:x33 cap len=true→c=len:=by
      intro hf
      unfold x33 at hf
      rcases hc with rfl|⟨rfl,_⟩
      ·simp only at hf; exact eAc hf
      ·cases hf
     refine .d ?_
     cases hlen:len with
     |zero=>
      have:x4n es off 0=[]:=by simp [x4n]
      rw [this]
      exact .lnil _ _ _ _ (fun hf=>by rw [←hlen] at hf; rw [hfull hf,hlen])
     |succ m=>
      rw [←hlen]
      have hll:(x4n es off len).length=len:=by simp [x4n]; omega
      have hpos:0<len:=by omega
      have hnth:∀ i r,(x4n es off len)[i]?=some r→i<len∧es[off+i]?=some r:=by
       intro i r hi
       have hlt:i<len:=by rw [←hll]; exact (eAd.1 hi).1
       refine ⟨hlt,?_⟩
       simp only [x4n] at hi
       rw [eCl hlt,eBp] at hi
       exact hi
      have hex:∀ k,k<len*z→∃ u,cs[L.base+off*z+k]?=some u∧u.oneCell'=true∧∀ d,(∃ r,(x4n es off len)[k / z]?=some r∧r[k % z]?=some d)→z02 (z0c (ρ.only kp) (z2t h kp 0 h)) w d u:=by
       intro k hkz
       subst hz
       have hi:k / L.esz<len:=(eCk hz0).2 hkz
       have hlt:k / L.esz<(x4n es off len).length:=by rw [hll]; exact hi
       have he:=(hnth (k / L.esz) _ (eAa hlt)).2
       generalize (x4n es off len)[k / L.esz]=r at he
       have hrl:=hrows _ r he
       have hj:k % L.esz<r.length:=by rw [hrl]; exact eCr _ hz0
       obtain ⟨u,hu,h1,hd⟩:=hcell _ r _ r[k % L.esz] he (eAa hj)
       have hix:L.base+(off+k / L.esz)*L.esz+k % L.esz=L.base+off*L.esz+k:=by
        have:=Nat.div_add_mod k L.esz
        rw [eAl,eCb (k / L.esz)]; omega
       rw [hix] at hu
       refine ⟨u,hu,h1,fun d hd'=>?_⟩
       obtain ⟨r',hr',hdr⟩:=hd'
       have:=(hnth _ _ hr').2
       rw [he] at this; cases this
       rw [eAa hj] at hdr; cases hdr
       exact hd.keep hk
      have ha':a=some ⟨L.blk,L.base+off*L.esz,none⟩:=ha (by omega)
      subst hz
      subst ha'
      have hown:¬ z0c (ρ.only kp) (z2t h kp 0 h) L.blk:=by
       intro hb
       rcases x3l.1 hb with hf|⟨id',L',h1,h2,hl',he⟩
       ·exact hr.sep id L hL (by rw [hes]; rfl) hf
       ·have:=hr.inj id' id L' L h2 hL hl' (by rw [hes]; rfl) he
        subst this; rw [hkp] at h1; cases h1
      have key:=z02.list (O:=z0c (ρ.only kp) (z2t h kp 0 h)) (w:=w) (x33 cap len) (x4n es off len) L.blk (L.base+off*L.esz) L.esz c hz0
       (by intro e; rw [e] at hll; simp at hll; omega) hown (by rw [hll]; exact hl) (by rw [hll]; exact hfull) (fun i r hi=>hrows _ r (hnth i r hi).2)
       (fun k=>(cs[L.base+off*L.esz+k]?).getD undef) (fun k hkk=>?_) (fun k hkk=>?_) (fun i r j d hi hj=>?_)
      ·rw [hll] at key; exact key
      ·rw [hll] at hkk
       obtain ⟨u,hu,h1,_⟩:=hex k hkk
       rw [hu]; exact h1
      ·rw [hll] at hkk
       obtain ⟨u,hu,h1,_⟩:=hex k hkk
       rw [hu]; exact y4p hcs hu
      ·have hjl:j<L.esz:=by rw [←hrows _ r (hnth i r hi).2]; exact (eAd.1 hj).1
       have hil:=(hnth i r hi).1
       have hkk:i*L.esz+j<len*L.esz:=by
        have:(i+1)*L.esz≤len*L.esz:=eAo _ (by omega)
        rw [eAl,Nat.one_mul] at this; omega
       obtain ⟨u,hu,_,hd⟩:=hex _ hkk
       rw [hu]
       refine hd d ⟨r,?_,?_⟩
       ·rw [show (i*L.esz+j) / L.esz=i by rw [eCb,Nat.mul_add_div hz0,Nat.div_eq_of_lt hjl,eAt]]; exact hi
       ·rw [show (i*L.esz+j) % L.esz=j by rw [eCb,Nat.mul_add_mod,eCy hjl]]; exact hj
   ·exact .bot _
 |map id L hL=>
  simp only [z2f]
  cases hkp:kp id with
  |true=>exact .map id L (z1g.2 ⟨hkp,hL⟩)
  |false=>exact .bot _
 |yld id L hL=>
  simp only [z2f]
  cases hkp:kp id with
  |true=>exact .yld id L (z1g.2 ⟨hkp,hL⟩)
  |false=>exact .bot _
 |clo fn fs cs vf vc hf hc h1 h2 ih1 ih2=>
  simp only [z2f,z7b]
  refine .clo fn _ _ vf vc (by simpa using hf) (by simpa using hc) (fun i x hx=>?_) (fun i x hx=>?_)
  ·rw [eAg] at hx
   cases hq:fs[i]? with
   |none=>rw [hq] at hx; cases hx
   |some y=>rw [hq] at hx; cases hx; exact ih1 i y hq
  ·rw [eAg] at hx
   cases hq:cs[i]? with
   |none=>rw [hq] at hx; cases hx
   |some y=>rw [hq] at hx; cases hx; exact ih2 i y hq
 |iface t x v h ih=>simp only [z2f]; exact .iface t _ v ih
 |agg xs vs hl h ih=>
  simp only [z2f,z7b]
  refine .agg _ vs (by simpa using hl) (fun i x hx=>?_)
  rw [eAg] at hx
  cases hq:xs[i]? with
  |none=>rw [hq] at hx; cases hx
  |some y=>rw [hq] at hx; cases hx; exact ih i y hq
 |tuple xs vs hl h ih=>
  simp only [z2f,z7b]
  refine .tuple _ vs (by simpa using hl) (fun i x hx=>?_)
  rw [eAg] at hx
  cases hq:xs[i]? with
  |none=>rw [hq] at hx; cases hx
  |some y=>rw [hq] at hx; cases hx; exact ih i y hq
theorem z0a.view {P:Program} (hr:z0a P ρ h w) (kp:Nat→Bool):z0a P (ρ.only kp) (z2t h kp 0 h) w where
 obj:=fun id L hL=>by
  obtain ⟨h1,h2⟩:=z1g.1 hL
  obtain ⟨hb,ho⟩:=hr.obj id L h2
  refine ⟨hb,?_⟩
  rw [z3t,eAp,if_pos h1]
  have hk:z3s (z0c ρ h) (z0c (ρ.only kp) (z2t h kp 0 h)) w w:=⟨eAk _,fun _ _ _=>rfl,fun b _ hb=>z3q hb,fun _ _ h=>h,z0m.refl _⟩
  cases hno:z0e h id with
  |dead=>trivial
  |box cells=>
   rw [hno] at ho
   obtain ⟨hbase,c,t,hcb,hj⟩:=ho
   refine ⟨hbase,c,t,hcb,fun j x hx=>?_⟩
   rw [z7b,eAg] at hx
   cases hq:cells[j]? with
   |none=>rw [hq] at hx; cases hx
   |some y=>
    rw [hq] at hx; cases hx
    obtain ⟨v,hv,hvr⟩:=hj j y hq
    exact ⟨v,hv,z8z hr hvr⟩
  |row es=>
   rw [hno] at ho
   obtain ⟨hz,c,t,hcb,hl',hj⟩:=ho
   exact ⟨hz,c,t,hcb,hl',fun i r j x hi hx=>let ⟨v,hv,h1,hvr⟩:=hj i r j x hi hx; ⟨v,hv,h1,hvr.keep hk⟩⟩
  |arow es=>
   rw [hno] at ho
   obtain ⟨hz,c,t,hcb,hl',hj⟩:=ho
   refine ⟨hz,c,t,hcb,fun i r hi=>?_,fun i r j x hi hx=>?_⟩
   ·rw [y87,eAg] at hi
    cases hq:es[i]? with
    |none=>rw [hq] at hi; cases hi
    |some y=>rw [hq] at hi; cases hi; rw [z7b,eBt]; exact hl' i y hq
   ·rw [y87,eAg] at hi
    cases hq:es[i]? with
    |none=>rw [hq] at hi; cases hi
    |some y=>
     rw [hq] at hi; cases hi
     rw [z7b,eAg] at hx
     cases hq2:y[j]? with
     |none=>rw [hq2] at hx; cases hx
     |some z=>
      rw [hq2] at hx; cases hx
      obtain ⟨v,hv,h1,hvr⟩:=hj i y j z hq hq2
      exact ⟨v,hv,h1,z8z hr hvr⟩
  |map es=>
   rw [hno] at ho
   obtain ⟨en,clk,hcb,hl',hj⟩:=ho
   exact ⟨en,clk,hcb,hl',fun i k x hi=>let ⟨e,he,h1,h2⟩:=hj i k x hi; ⟨e,he,h1.keep hk,h2.keep hk⟩⟩
  |loop st pd g pos nt env=>
   rw [hno] at ho
   obtain ⟨x,ps,asg,body,hcd,tm,ds,f,hcb,hl',hj⟩:=ho
   exact ⟨x,ps,asg,body,hcd,tm,ds,f,hcb,hl',fun t=>by rw [y6l]; exact z8z hr (hj t)⟩
 inj:=fun id id' L L' h1 h2 l1 l2 hb=>by
  obtain ⟨a1,a2⟩:=z1g.1 h1
  obtain ⟨b1,b2⟩:=z1g.1 h2
  rw [z3t,eAp,if_pos a1,z6k] at l1
  rw [z3t,eAp,if_pos b1,z6k] at l2
  exact hr.inj id id' L L' a2 b2 l1 l2 hb
 fr:=hr.fr
 sep:=fun id L hL hl=>by
  obtain ⟨a1,a2⟩:=z1g.1 hL
  rw [z3t,eAp,if_pos a1,z6k] at hl
  exact hr.sep id L a2 hl
 gl:=hr.gl.sub fun b hb=>z3q hb
theorem Ext.view {n : Nat} (hn : ∀ id, id < n → kp id = true) (ρ : Rho) (h : List AO) (w : World) : Ext (· < n) ρ h w (ρ.only kp) (z2t h kp 0 h) w :=
  { os := rfl, tape := rfl, output := rfl
    keep := ⟨eAk _, fun _ _ _ => rfl, fun b _ hb => z3q hb, fun _ _ h => h, z0m.refl _⟩
    rho := fun id hid => by simp [Rho.only, hn id hid]
    fr := rfl
    frs := fun _ _ => rfl }
structure w2x (kp:Nat→Bool) (h h':List AO):Prop where
 nth:∀ id,z0e h' id=z0e (z2t h kp 0 h) id
 len:∀ id,kp id=true→id<h.length→id<h'.length
theorem z1p.view {P:Program} {s:AS} {tm:Array Value} {h':List AO} (h1:z1p P ρ s tm w) (hv:w2x kp s.heap h'):z1p P (ρ.only kp) ⟨y7e s.heap kp s.env,h',s.nt⟩ tm w:=by
 refine ⟨(h1.heap.view kp).ext (fun id=>(hv.nth id).symm),fun t=>?_,h1.size,fun id hid=>?_⟩
 ·show z0i _ (z0c _ h') w (z1k (y7e s.heap kp s.env) t) _
  rw [y6l,z2w hv.nth]
  exact z8z h1.heap (h1.env t)
 ·cases hq:ρ.only kp id with
  |none=>exact absurd hq hid
  |some L=>
   obtain ⟨a1,a2⟩:=z1g.1 hq
   exact hv.len id a1 (h1.dom id (by rw [a2]; simp))
theorem Ext.view' {n:Nat} {h':List AO} (hn:∀ id,id<n→kp id=true) (ρ:Rho) (w:World) (hv:w2x kp h h'):Ext (· <n) ρ h w (ρ.only kp) h' w:=by
 have:=Ext.view hn ρ h w
 exact ⟨rfl,rfl,rfl,by rw [z2w hv.nth]; exact this.keep,this.rho,rfl,fun _ _=>rfl⟩
theorem z3e.view {rd:Option Nat} {B:Nat} {ds:List Deferred} (h2:z3e rd B ρ.fr w ds):z3e rd B (ρ.only kp).fr w ds:=h2
def w80 (env' env:List (Nat×AV)):Prop:=∀ t,z1k env' t= .bot∨z1k env' t=z1k env t
theorem z1p.weaken {P:Program} {s:AS} {tm:Array Value} {env':List (Nat×AV)} (h1:z1p P ρ s tm w) (he:w80 env' s.env):z1p P ρ ⟨env',s.heap,s.nt⟩ tm w:=
 ⟨h1.heap,fun t=>by
  show z0i ρ _ w (z1k env' t) _
  rcases he t with h|h
  ·rw [h]; exact .bot _
  ·rw [h]; exact h1.env t,h1.size,h1.dom⟩
structure y0g (n:Nat) (s s':AS):Prop where
 run:∀ {P:Program} (ρ:Rho) (tm:Array Value) (w:World),z1p P ρ s tm w→∃ ρ',z1p P ρ' s' tm w∧s'.nt=s.nt∧Ext (· <n) ρ s.heap w ρ' s'.heap w∧(∀ id,id<n→ρ' id=ρ id)
theorem y0g.refl (n:Nat) (s:AS):y0g n s s:=⟨fun ρ tm w h=>⟨ρ,h,rfl,Ext.refl _ _ _ _,fun _ _=>rfl⟩⟩
theorem y0g.trans {n:Nat} {s s' s'':AS} (h1:y0g n s s') (h2:y0g n s' s''):y0g n s s'':=⟨fun ρ tm w h=>by
 obtain ⟨ρ',a1,a2,a3,a4⟩:=h1.run ρ tm w h
 obtain ⟨ρ2,b1,b2,b3,b4⟩:=h2.run ρ' tm w a1
 exact ⟨ρ2,b1,b2.trans a2,a3.trans b3,fun id hid=>(b4 id hid).trans (a4 id hid)⟩⟩
theorem y0g.env {n:Nat} {s:AS} {env':List (Nat×AV)} (he:w80 env' s.env):y0g n s ⟨env',s.heap,s.nt⟩:=
 ⟨fun ρ tm w h=>⟨ρ,h.weaken he,rfl,Ext.refl _ _ _ _,fun _ _=>rfl⟩⟩
theorem y0g.view {n:Nat} {s:AS} {h':List AO} (kp:Nat→Bool) (hn:∀ id,id<n→kp id=true) (hv:w2x kp s.heap h'):y0g n s ⟨y7e s.heap kp s.env,h',s.nt⟩:=
 ⟨fun ρ tm w h=>⟨ρ.only kp,h.view hv,rfl,Ext.view' hn ρ w hv,fun id hid=>by simp [Rho.only,hn id hid]⟩⟩
theorem y05 {P:Program} {n:Nat} {c:Code} {s s':AS} {Q:AX→AS→Prop} (hs:y0g n s s') (h:z5u P n c s' Q):z5u P n c s Q:=⟨by
 intro b k cs ρ tm ds w B h1 h2
 obtain ⟨ρ',a1,a2,a3,a4⟩:=hs.run ρ tm w h1
 obtain ⟨e,s2,ρ2,tm2,ds2,w2,q,r1,r2,r3,r4,r5⟩:=h.run b k cs ρ' tm ds w B a1 (h2.keep h1.heap a3)
 exact ⟨e,s2,ρ2,tm2,ds2,w2,q,r1,r2,r3.trans a2,a3.trans r4,r5⟩⟩
theorem y06 {P:Program} {n:Nat} {c:Code} {s:AS} {Q:AX→AS→Prop} (h:z5u P n c s (fun e s'=>∃ s'',y0g n s' s''∧Q e s'')):z5u P n c s Q:=⟨by
 intro b k cs ρ tm ds w B h1 h2
 obtain ⟨e,s2,ρ2,tm2,ds2,w2,⟨s3,hs,q⟩,r1,r2,r3,r4,r5⟩:=h.run b k cs ρ tm ds w B h1 h2
 obtain ⟨ρ',a1,a2,a3,a4⟩:=hs.run ρ2 tm2 w2 r1
 refine ⟨e,s3,ρ',tm2,ds2,w2,q,a1,r2.keep r1.heap a3,a2.trans r3,r4.trans a3,r5⟩⟩
def z9s (h:List AO) (m:Nat):List AO:=z2t h (fun id=>Nat.blt id m) 0 (h.take m)
theorem x7w (h:List AO) (m id:Nat):z0e (h.take m) id=if id<m then z0e h id else .dead:=by
 induction h generalizing m id with
 |nil=>simp [z0e]
 |cons o h ih=>
  cases m with
  |zero=>simp [z0e]
  |succ m=>cases id with
   |zero=>simp [z0e]
   |succ id=>simp only [List.take_succ_cons,z0e,ih]; by_cases h:id<m<;>simp [h]
theorem w0d (h:List AO) (m:Nat):w2x (fun id=>Nat.blt id m) h (z9s h m) where
 nth:=fun id=>by
  simp only [z9s]
  rw [z3t,z3t]
  simp only [eAp]
  split
  ·rename_i hb
   have:id<m:=eAf hb
   rw [x7w,if_pos this]
  ·rfl
 len:=fun id hb hl=>by
  have:id<m:=eAf hb
  simp only [z9s,z4p,eBv]
  omega
theorem z2z.view {P:Program} {f:FuncId} {args:List AV} {h:List AO} {r:AV} {h':List AO} (hr:z2z P f args h r h'):z2z P f args h (z2f h' (fun id=>Nat.blt id h.length) r) (z9s h' h.length):=⟨by
 intro ρ vs w cs a1 a2 a3
 obtain ⟨ρ',v,w',fr,b1,b2,b3,b4,b5,b6,b7⟩:=hr.run ρ vs w cs a1 a2 a3
 have hv:=w0d h' h.length
 have hn:∀ id,id<h.length→(fun id=>Nat.blt id h.length) id=true:=fun id hid=>eBg hid
 refine ⟨ρ'.only (fun id=>Nat.blt id h.length),v,w',fr,b1,b2,b3,?_,?_,?_,?_⟩
 ·rw [z2w hv.nth]; exact z8z b5 b4
 ·exact (b5.view _).ext (fun id=>(hv.nth id).symm)
 ·intro id hid
  cases hq:ρ'.only (fun id=>Nat.blt id h.length) id with
  |none=>exact absurd hq hid
  |some L=>
   obtain ⟨c1,c2⟩:=z1g.1 hq
   exact hv.len id c1 (b6 id (by rw [c2]; simp))
 ·exact b7.trans (Ext.view' hn ρ' w' hv)⟩
theorem z2z.pret {P:Program} {f:FuncId} {args:List AV} {r:AV} {h':List AO} (hr:z2z P f args [] r h'):w56 P f args (z2f h' (fun _=>false) r):=by
 have:=hr.view
 simp only [List.length_nil] at this
 have e:(fun id=>Nat.blt id 0)=fun _=>false:=by funext id; rfl
 rw [e] at this
 exact this
end
end Go.Am
end
