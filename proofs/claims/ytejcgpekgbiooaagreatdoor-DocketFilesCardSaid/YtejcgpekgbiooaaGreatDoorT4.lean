/- Texts of this claim. -/
import Derived.Test.YtejcgpekgbiooaaGreatDoorT3
import Derived.Sort.Row
import Derived.Sort.Grow
import Derived.Test.YtejcgpekgbiooaaGreatDoorProg
import Derived.KernelRfl
import Derived.Lay
import Derived.OpenShut
import Derived.JoinedCond
import Derived.JoinedOf
import Derived.JoinedAt
import Derived.WalkKit
import Derived.ProofKit
import Derived.LaidMore
import Derived.Stop.Joined
import Derived.Shelf.SortM.Plain
import Derived.Shelf.SortM.SortNone
import Derived.Below
import Derived.Shelf.Lays
import Derived.Shelf.Strings.OnBuilder
import Derived.Shelf.Strconv.Itoa4
import Derived.Shelf.Strconv.ParseIntPublic10
import Derived.Shelf.Strings.Prefix
import Derived.Shelf.Strings.Cut
import Derived.Shelf.Strings.Split
import Derived.Lib.SmallJoins
import Derived.Lib.AppendIntMem
import Derived.BigCall
import Derived.Lib.SlKeysI
import Derived.Shelf.SlIterI.Sorted
set_option linter.unusedVariables false
set_option linter.unusedSimpArgs false
set_option linter.unusedSectionVars false
set_option maxRecDepth 100000
set_option maxHeartbeats 0
open Nat renaming eq_of_beq_eq_true → eAc,le_refl → eAk,le_of_ble_eq_true → eAf,add_mul → eAl,div_lt_iff_lt_mul → eCk,mod_lt → eCr,mul_comm → eCb,lt_or_ge → eBw,lt_of_lt_of_le → eAn,beq_refl → eCs,le_trans → eBf,mul_one → eBx,add_zero → eAt,zero_le → eAv,zero_add → eAp,ble_eq_true_of_le → eBg,mul_le_mul_right → eAo
open List renaming getElem?_eq_some_iff → eAd,getElem?_eq_getElem → eAa,length_take → eBv,length_drop → eCx,length_eq_zero_iff → eBn,getElem?_take_of_lt → eCl,getElem?_drop → eBp,getElem?_map → eAg,all_eq_true → eAr,mem_of_getElem? → eAu,length_map → eBt,length_cons → eBi,length_append → eBu,append_nil → eCn,ext_getElem? → eBd,pairwise_iff_getElem → eCa,getElem_mem → eCp,mem_cons_self → eBq,mem_cons → eAz,pairwise_cons → eBl,any_eq_true → eCz,getD_eq_getElem?_getD → eCi,mem_range → eBo,mem_cons_of_mem → eCm,getElem?_of_mem → eCd,mem_map → eBb
open Option renaming getD_some → eBk,map_eq_some_iff → eAw,map_some → eBh,bind_some → eAx
open Bool renaming and_eq_true → eAb,or_eq_true → eAq,eq_iff_iff → eCu,false_eq_true → eAi,not_eq_true' → eBy,not_false → eCq
open Array renaming getD_eq_getD_getElem? → eAh,getElem?_eq_getElem → eAm,getElem?_modify → eBr,getElem?_setIfInBounds → eBs,getElem?_eq_some_iff → eAe,getElem?_toList → eAj
open Int renaming toNat_natCast → eCh
open Go.Proofs.Tryz renaming prog → PG
section
namespace Go.Am
def z71 {S R:Type} (b:S→Option (S⊕R)):Nat→S→Option R
 |0,_=>none
 |n+1,s=>match b s with
  |some (.inl s')=>z71 b n s'
  |some (.inr r)=>some r
  |none=>none
open Classical in
noncomputable def z5r {S R:Type} (b:S→Option (S⊕R)) (s:S):Option R:=
 if h:∃ r n,z71 b n s=some r then some h.choose else none
theorem y6i {S R:Type} {b:S→Option (S⊕R)}:∀ {n:Nat} {s:S} {r:R},z71 b n s=some r→∀ m,n≤m→z71 b m s=some r:=by
 intro n
 induction n with
 |zero=>intro s r h; simp [z71] at h
 |succ n ih=>
  intro s r h m hm
  obtain ⟨m,rfl⟩:∃ k,m=k+1:=⟨m - 1,by omega⟩
  simp only [z71] at h⊢
  split at h
  ·exact ih h m (by omega)
  ·exact h
  ·cases h
theorem y0v {S R:Type} {b:S→Option (S⊕R)} {s:S} {r:R} (h:z5r b s=some r):∃ n,z71 b n s=some r:=by
 unfold z5r at h
 split at h
 ·rename_i hx
  cases h
  exact hx.choose_spec
 ·cases h
theorem x2n {S R:Type} {b:S→Option (S⊕R)} {s:S} {r:R} {n:Nat} (h:z71 b n s=some r):z5r b s=some r:=by
 have hx:∃ r n,z71 b n s=some r:=⟨r,n,h⟩
 unfold z5r
 rw [dif_pos hx]
 obtain ⟨m,hm⟩:=hx.choose_spec
 have a:=y6i h (max n m) (Nat.le_max_left _ _)
 have b':=y6i hm (max n m) (Nat.le_max_right _ _)
 rw [a] at b'; exact b'.symm
theorem z7m {S R:Type} (b:S→Option (S⊕R)) (s:S):z5r b s=match b s with
  |some (.inl s')=>z5r b s'
  |some (.inr r)=>some r
  |none=>none:=by
 cases hb:b s with
 |none=>
  cases hq:z5r b s with
  |none=>rfl
  |some r=>
   obtain ⟨n,hn⟩:=y0v hq
   cases n with
   |zero=>simp [z71] at hn
   |succ n=>simp [z71,hb] at hn
 |some x=>
  cases x with
  |inr r=>exact x2n (n:=1) (by simp [z71,hb])
  |inl s'=>
   simp only
   cases hq:z5r b s' with
   |some r=>
    obtain ⟨n,hn⟩:=y0v hq
    exact x2n (n:=n+1) (by simp [z71,hb,hn])
   |none=>
    cases hq2:z5r b s with
    |none=>rfl
    |some r=>
     obtain ⟨n,hn⟩:=y0v hq2
     cases n with
     |zero=>simp [z71] at hn
     |succ n=>
      simp [z71,hb] at hn
      rw [x2n hn] at hq; cases hq
mutual
def v19:VT→List Sc
 | .int _=>[.int]
 | .bool=>[.bool]
 | .str=>[.str]
 | .list _=>[.rows]
 | .lst _=>[.rows]
 | .prm=>[.rows]
 | .agg l=>y9t l
 | .ref l=>y9t l
 | .ptr _ _=>[.nat]
 | .sl _ _=>[.nat, .nat]
 | .slc _ _=>[.nat, .nat, .nat]
 | .clo _ fs cs=>y9t fs++y9t cs
 | .tuple l=>y9t l
 |_=>[]
def y9t:List VT→List Sc
 |[]=>[]
 |t::ts=>v19 t++y9t ts
end
def w9r:List (Nat×VT)→List Sc
 |[]=>[]
 |(_,t)::ts=>v19 t++w9r ts
def w6t:List OT→List Sc
 |[]=>[]
 | .row _::t=> .rows::w6t t
 | .map::t=> .map::w6t t
 |_::t=>w6t t
def w6s:List OT→List Sc
 |[]=>[]
 | .box l::t=>y9t l++w6s t
 | .loop _ _ _ _ _ env::t=>w9r env++w6s t
 |_::t=>w6s t
def ST.scs (t:ST):List Sc:=w6t t.heap++(w6s t.heap++w9r t.env)
def y8g:List OT→List (List CK)
 |[]=>[]
 | .row ck::t=>ck::y8g t
 |_::t=>[]::y8g t
def y2j (p:Prim) (t:ST) (x:Tup t.scs):SS:=⟨x80 p t (y4x t.scs x),y8g t.heap⟩
mutual
def w8p:VT→AV→List (Nat×Nat)
 | .bptr i _, .bptr a _=>[(i,a)]
 | .ptr i _, .ptr a _ _=>[(i,a)]
 | .vec i _, .slice a _ _ _ _=>[(i,a)]
 | .full i _, .slice a _ _ _ _=>[(i,a)]
 | .sl i _, .slice a _ _ _ _=>[(i,a)]
 | .slc i _, .slice a _ _ _ _=>[(i,a)]
 | .map i, .map a=>[(i,a)]
 | .yld i, .yld a=>[(i,a)]
 | .agg l, .agg xs=>y16 l xs
 | .tuple l, .tuple xs=>y16 l xs
 | .clo _ fs cs, .clo _ fs' cs'=>y16 fs fs'++y16 cs cs'
 |_,_=>[]
def y16:List VT→List AV→List (Nat×Nat)
 |t::ts,x::xs=>w8p t x++y16 ts xs
 |_,_=>[]
end
def w51 (env:List (Nat×AV)):List (Nat×VT)→List (Nat×Nat)
 |[]=>[]
 |(k,t)::ts=>w8p t (z1k env k)++w51 env ts
def v0f:List (Nat×Nat)→Nat→Option Nat
 |[],_=>none
 |(i,a)::r,j=>bif Nat.beq i j then some a else v0f r j
def v1m (h:List AO) (a:Nat):OT→List (Nat×Nat)
 | .box l=>match z0e h a with
  | .box cells=>y16 l cells
  |_=>[]
 | .loop _ _ _ _ _ env=>match z0e h a with
  | .loop _ _ _ _ _ env'=>w51 env' env
  |_=>[]
 |_=>[]
def w50 (h:List AO):Nat→List OT→List (Nat×Nat)→List (Nat×Nat)
 |_,[],b=>b
 |i,t::ts,b=>match v0f b i with
  |some a=>w50 h (i+1) ts (b++v1m h a t)
  |none=>w50 h (i+1) ts b
def w2l (h:List AO) (ts:List OT):Nat→List (Nat×Nat)→List (Nat×Nat)
 |0,b=>b
 |n+1,b=>w2l h ts n (w50 h 0 ts b)
def w3b:Nat→List (Nat×Nat)
 |0=>[]
 |n+1=>(n,n)::w3b n
def w0p (b:List (Nat×Nat)):Nat→List OT→List (Option Nat)
 |_,[]=>[]
 |i,_::ts=>v0f b i::w0p b (i+1) ts
def w5j (n:Nat) (t:ST) (s:AS):List (Option Nat):=w0p (w2l s.heap t.heap 2 (w3b n++w51 s.env t.env)) 0 t.heap
def x96 (p:Prim) (n:Nat) (t:ST) (s:AS):Option (List Bool×Tup t.scs):=
 match v1d p n t (w5j n t s) s with
 |some (cs,vs)=>match w4f t.scs vs with
  |some x=>some (cs,x)
  |none=>none
 |none=>none
theorem y1o {n:Nat} {t:ST} {s:AS} {cs:List Bool} {x:Tup t.scs} (h:x96 std n t s=some (cs,x)) (hc:z01 cs=true):y0g n s (y2j std t x).s∧n≤(y2j std t x).s.heap.length:=by
 unfold x96 at h
 split at h
 ·rename_i cs' vs hf
  split at h
  ·rename_i x' hx
   cases h
   have:=w5h hf hc
   show y0g n s (x80 std t (y4x t.scs x))∧_≤(x80 std t (y4x t.scs x)).heap.length
   rw [y26 hx]; exact this
  ·cases h
 ·cases h
def needs (A:Alg) (β:Type):List Bool→A.Ω β→A.Ω β
 |[],k=>k
 |c::cs,k=>A.need β c (needs A β cs k)
theorem z07 {β:Type} {b:β}:∀ {cs:List Bool} {k:Option β},needs opt β cs k=some b→z01 cs=true∧k=some b
 |[],k,h=>⟨rfl,h⟩
 |c::cs,k,h=>by
  obtain ⟨hc,h⟩:=z4t h
  obtain ⟨h1,h2⟩:=z07 (cs:=cs) h
  exact ⟨by simp [z01,hc,h1],h2⟩
def w7w:AX→AX→Bool
 | .normal, .normal=>true
 | .ret, .ret=>true
 | .exit i, .exit j=>Nat.beq i j
 |_,_=>false
theorem x0x {a b:AX} (h:w7w a b=true):a=b:=by
 cases a<;>cases b<;>first
  |rfl
  |cases h; done
  |(have:=eAc h; subst this; rfl)
abbrev x6n:=List (AX×ST)
def scss:x6n→List (List Sc)
 |[]=>[]
 |o::os=>o.2.scs::scss os
def z8o (p:Prim) (n:Nat):(os:x6n)→AX→AS→Option (List Bool×STup (scss os))
 |[],_,_=>none
 |[o],e,s=>bif w7w o.1 e then x96 p n o.2 s else none
 |o::o'::os,e,s=>match (bif w7w o.1 e then x96 p n o.2 s else none:Option (List Bool×Tup o.2.scs)) with
  |some (cs,x)=>some (cs, .inl x)
  |none=>match z8o p n (o'::os) e s with
   |some (cs,y)=>some (cs, .inr y)
   |none=>none
def z1r (p:Prim):(os:x6n)→STup (scss os)→AX×SS
 |[],y=>Empty.elim y
 |[o],x=>(o.1,y2j p o.2 x)
 |o::o'::os, .inl x=>(o.1,y2j p o.2 x)
 |o::o'::os, .inr y=>z1r p (o'::os) y
theorem z9d {n:Nat}:∀ {os:x6n} {e:AX} {s:AS} {cs:List Bool} {y:STup (scss os)},z8o std n os e s=some (cs,y)→z01 cs=true→(z1r std os y).1=e∧y0g n s (z1r std os y).2.s∧n≤(z1r std os y).2.s.heap.length
 |[],e,s,cs,y,h,hc=>by cases h
 |[o],e,s,cs,y,h,hc=>by
  simp only [z8o] at h
  cases hb:w7w o.1 e with
  |false=>rw [hb] at h; cases h
  |true=>
   rw [hb] at h
   exact ⟨x0x hb,y1o h hc⟩
 |o::o'::os,e,s,cs,y,h,hc=>by
  simp only [z8o] at h
  split at h
  ·rename_i cs' x hx
   cases h
   cases hb:w7w o.1 e with
   |false=>rw [hb] at hx; cases hx
   |true=>
    rw [hb] at hx
    exact ⟨x0x hb,y1o hx hc⟩
  ·split at h
   ·rename_i cs' y' hy
    cases h
    exact z9d (os:=o'::os) (y:=y') hy hc
   ·cases h
def x1e (A:Alg) (β:Type) (p:Prim):(os:x6n)→Option (STup (scss os))→(AX→SS→A.Ω β)→A.Ω β
 |[],_,_=>A.no β 81
 |[o],x,k=>A.bnd _ β x fun y=>k o.1 (y2j p o.2 y)
 |o::o'::os,x,k=>A.alt _ _ β x (fun y=>k o.1 (y2j p o.2 y)) (fun z=>x1e A β p (o'::os) (some z) k)
theorem z5f {β:Type} {b:β}:∀ {os:x6n} {x:Option (STup (scss os))} {k:AX→SS→Option β},x1e opt β std os x k=some b→∃ y,x=some y∧k (z1r std os y).1 (z1r std os y).2=some b
 |[],x,k,h=>by cases h
 |[o],x,k,h=>by
  obtain ⟨y,h1,h2⟩:=w2k h
  exact ⟨y,h1,h2⟩
 |o::o'::os,x,k,h=>by
  simp only [x1e,opt] at h
  cases x with
  |none=>cases h
  |some z=>
   cases z with
   |inl y=>exact ⟨.inl y,rfl,h⟩
   |inr y=>
    obtain ⟨y1,e,h2⟩:=z5f (os:=o'::os) (x:=some y) (k:=k) h
    cases e
    exact ⟨.inr y,rfl,h2⟩
structure y82 where
 head:ST
 outs:x6n
def x30 (A:Alg) (p:Prim) (rec:y5p A) (n g:Nat) (pos:List Bool) (c:Code) (a:y82) (x:Tup a.head.scs):A.Ω (Tup a.head.scs⊕STup (scss a.outs)):=
 rec _ n g (false::pos) c (y2j p a.head x) fun e s=>match e with
  | .normal=>match x96 p n a.head s.s with
   |some (cs,x')=>needs A _ cs (A.ret _ (.inl x'))
   |none=>A.no _ 82
  |e=>match z8o p n a.outs e s.s with
   |some (cs,y)=>needs A _ cs (A.ret _ (.inr y))
   |none=>A.no _ 83
noncomputable def w4o (A:Alg) (p:Prim) (rec:y5p A) (n g:Nat) (pos:List Bool) (c:Code) (a:y82) (β:Type) (ss:SS) (k:AX→SS→A.Ω β):A.Ω β:=
 match x96 p n a.head ss.s with
 |some (cs,x)=>needs A β cs (x1e A β p a.outs (z5r (fun x=>A.run _ (x30 A p rec n g pos c a x)) x) k)
 |none=>A.no β 84
section
variable {P:Program}
theorem z5u.seen {n:Nat} {c:Code} {s:AS} {e0:AX} {s1 s2:AS} (h:z5u P n c s (fun e' s'=>e'=e0∧s'=s1)) (hv:y0g n s1 s2):z5u P n c s (fun e' s'=>e'=e0∧s'=s2):=
 y06 (h.mono fun e' s' hq=>by obtain ⟨rfl,rfl⟩:=hq; exact ⟨_,hv,rfl,rfl⟩)
theorem w04 {rec:y5p opt} (hr:y5q P rec) {n g:Nat} {pos:List Bool} {c:Code} (hcd:z3r P g pos=some (.loop c)) {a:y82} {β:Type} {ss:SS} {k:AX→SS→Option β} {b:β} (hn:n≤ss.s.heap.length)
  (h:w4o opt std rec n g pos c a β ss k=some b):∃ e ss',n≤ss'.s.heap.length∧z5u P n (.loop c) ss.s (fun e' s2=>e'=e∧s2=ss'.s)∧k e ss'=some b:=by
 unfold w4o at h
 split at h
 ·rename_i cs x hx
  obtain ⟨hc,h⟩:=z07 h
  obtain ⟨y,hy,h⟩:=z5f h
  obtain ⟨v1,v2⟩:=y1o hx hc
  obtain ⟨m,hm⟩:=y0v hy
  have hbody:z3r P g (false::pos)=some c:=by simp [z3r,hcd,w6n]
  have key:∀ (m:Nat) (x:Tup a.head.scs),n≤(y2j std a.head x).s.heap.length→z71 (fun x=>opt.run _ (x30 opt std rec n g pos c a x)) m x=some y→
    n≤(z1r std a.outs y).2.s.heap.length∧z5u P n (.loop c) (y2j std a.head x).s (fun e' s2=>e'=(z1r std a.outs y).1∧s2=(z1r std a.outs y).2.s):=by
   intro m
   induction m with
   |zero=>intro x _ h; simp [z71] at h
   |succ m ih=>
    intro x hnx hit
    simp only [z71] at hit
    split at hit
    ·rename_i x' hb
     obtain ⟨e,s',l1,l2,hk⟩:=hr _ _ _ _ _ _ _ _ hbody hnx hb
     cases e with
     |normal=>
      simp only at hk
      split at hk
      ·rename_i cs' x'' hf
       obtain ⟨hc',hk⟩:=z07 hk
       cases hk
       obtain ⟨w1,w2⟩:=y1o hf hc'
       obtain ⟨i1,i2⟩:=ih _ w2 hit
       refine ⟨i1,z2j ((l2.seen w1).mono fun e' s2 hq=>?_)⟩
       obtain ⟨rfl,rfl⟩:=hq
       exact i2
      ·cases hk
     |exit j=>
      simp only at hk
      split at hk
      ·obtain ⟨_,hk⟩:=z07 hk; cases hk
      ·cases hk
     |ret=>
      simp only at hk
      split at hk
      ·obtain ⟨_,hk⟩:=z07 hk; cases hk
      ·cases hk
    ·rename_i y' hb
     cases hit
     obtain ⟨e,s',l1,l2,hk⟩:=hr _ _ _ _ _ _ _ _ hbody hnx hb
     have fin:∀ cs,z8o std n a.outs e s'.s=some (cs,y)→z01 cs=true→e≠ .normal→n≤(z1r std a.outs y).2.s.heap.length∧z5u P n (.loop c) (y2j std a.head x).s (fun e' s2=>e'=(z1r std a.outs y).1∧s2=(z1r std a.outs y).2.s):=by
      intro cs hf hc' hne
      obtain ⟨e1,w1,w2⟩:=z9d hf hc'
      refine ⟨w2,z2j ((l2.seen w1).mono fun e' s2 hq=>?_)⟩
      obtain ⟨rfl,rfl⟩:=hq
      cases e' with
      |normal=>exact absurd rfl hne
      |exit j=>exact ⟨e1.symm,rfl⟩
      |ret=>exact ⟨e1.symm,rfl⟩
     cases e with
     |normal=>
      simp only at hk
      split at hk
      ·obtain ⟨_,hk⟩:=z07 hk; cases hk
      ·cases hk
     |exit j=>
      simp only at hk
      split at hk
      ·rename_i cs' y'' hf
       obtain ⟨hc',hk⟩:=z07 hk
       cases hk
       exact fin _ hf hc' (by simp)
      ·cases hk
     |ret=>
      simp only at hk
      split at hk
      ·rename_i cs' y'' hf
       obtain ⟨hc',hk⟩:=z07 hk
       cases hk
       exact fin _ hf hc' (by simp)
      ·cases hk
    ·cases hit
  obtain ⟨k1,k2⟩:=key m x v2 hm
  exact ⟨_,_,k1,y05 v1 k2,h⟩
 ·cases h
def w4z (A:Alg) (p:Prim) (n:Nat) (os:x6n) (β:Type) (body:(γ:Type)→(AX→SS→A.Ω γ)→A.Ω γ) (k:AX→SS→A.Ω β):A.Ω β:=
 x1e A β p os (A.run _ (body _ fun e s=>match z8o p n os e s.s with
  |some (cs,y)=>needs A _ cs (A.ret _ y)
  |none=>A.no _ 85)) k
theorem w1c {n:Nat} {os:x6n} {β:Type} {body:(γ:Type)→(AX→SS→Option γ)→Option γ} {k:AX→SS→Option β} {b:β} {G:AX→SS→Prop} (hb:∀ γ k (b:γ),body γ k=some b→∃ e ss',G e ss'∧k e ss'=some b)
  (h:w4z opt std n os β body k=some b):∃ e ss1 ss',G e ss1∧y0g n ss1.s ss'.s∧(n≤ss1.s.heap.length→n≤ss'.s.heap.length)∧k e ss'=some b:=by
 unfold w4z at h
 obtain ⟨y,hy,h⟩:=z5f h
 obtain ⟨e,ss1,hg,hk⟩:=hb _ _ _ hy
 split at hk
 ·rename_i cs y' hf
  obtain ⟨hc,hk⟩:=z07 hk
  cases hk
  obtain ⟨e1,w1,w2⟩:=z9d hf hc
  subst e1
  exact ⟨_,ss1,_,hg,w1,fun _=>w2,h⟩
 ·cases hk
end
end Go.Am
end
section
namespace Go.Am
structure Ctr where
 g:FuncId
 args:List VT
 heap:List OT
 outs:x6n
def Ctr.scs (c:Ctr):List Sc:=w6t c.heap++(w6s c.heap++y9t c.args)
def x1h (p:Prim) (c:Ctr) (vs:List Val):List AV×List AO:=
 ((z5p p (z6g c.heap vs).1 c.args (y40 p (z6g c.heap vs).1 (z6g c.heap vs).1 c.heap (z6g c.heap vs).2).2).1,(y40 p (z6g c.heap vs).1 (z6g c.heap vs).1 c.heap (z6g c.heap vs).2).1)
def CtrOk (P:Program) (c:Ctr) (F:Tup c.scs→Option (STup (scss c.outs))):Prop:=
 z42 P c.g∧∀ x y,F x=some y→(x1h std c (y4x c.scs x)).2.length≤(z1r std c.outs y).2.s.heap.length∧
  z2z P c.g (x1h std c (y4x c.scs x)).1 (x1h std c (y4x c.scs x)).2 (z1k (z1r std c.outs y).2.s.env 0) (z1r std c.outs y).2.s.heap
theorem z2z.sees {P:Program} {g:FuncId} {args:List AV} {h:List AO} {r:AV} {h0 h':List AO} {env:List (Nat×AV)} {nt:Nat} (ha:z2z P g args h r h0) (hv:y0g h.length ⟨[(0,r)],h0,1⟩ ⟨env,h',nt⟩):z2z P g args h (z1k env 0) h':=⟨by
 intro ρ vs w cs a1 a2 a3
 obtain ⟨ρ',v,w',fr,b1,b2,b3,b4,b5,b6,b7⟩:=ha.run ρ vs w cs a1 a2 a3
 have hst:z1p P ρ' ⟨[(0,r)],h0,1⟩ #[v] w':=⟨b5,fun t=>by
  show z0i ρ' (z0c ρ' h0) w' (z1k [(0,r)] t) _
  simp only [z1k]
  cases hb:Nat.beq 0 t with
  |true=>have:=eAc hb; subst this; exact b4
  |false=>exact .bot _,rfl,b6⟩
 obtain ⟨ρ2,c1,c2,c3,c4⟩:=hv.run ρ' #[v] w' hst
 exact ⟨ρ2,v,w',fr,b1,b2,b3,c1.env 0,c1.heap,c1.dom,b7.trans c3⟩⟩
def bodyRun (A:Alg) (p:Prim) (E:Env) (O:Orc A) (f:Nat) (c:Ctr) (x:Tup c.scs):A.Ω (STup (scss c.outs)):=
 y8t A E (sym A p E O f) _ c.g (x1h p c (y4x c.scs x)).1 (x1h p c (y4x c.scs x)).2 (y8g c.heap) fun r h _=>
  match z8o p (x1h p c (y4x c.scs x)).2.length c.outs .ret ⟨[(0,r)],h,1⟩ with
  |some (cs,y)=>needs A _ cs (A.ret _ y)
  |none=>A.no _ 91
theorem ctr_of_body {P:Program} {E:Env} {O:Orc opt} (hE:EnvOk P E) (hO:y2m P O) {f:Nat} {c:Ctr} {F:Tup c.scs→Option (STup (scss c.outs))} (hen:z42 P c.g) (h:∀ x,bodyRun opt std E O f c x=F x):CtrOk P c F:=by
 refine ⟨hen,fun x y hy=>?_⟩
 rw [←h x] at hy
 obtain ⟨r,h',K',c1,c2,c3,hk⟩:=z7u hE (x61 hE hO f) hy
 split at hk
 ·rename_i cs y' hf
  obtain ⟨hc,hk⟩:=z07 hk
  cases hk
  obtain ⟨e1,w1,w2⟩:=z9d hf hc
  exact ⟨w2,c1.sees w1⟩
 ·cases hk
section frame
variable {P:Program} {ρ:Rho} {h:List AO} {w:World} {σ:List (Option Nat)}
theorem x31 {hT:List AO} (hk:HOk ρ (ρ.lent h σ) (z0c ρ h) (z0c ρ h) h w σ hT) (b:Nat) (hb:z0c (ρ.lent h σ) hT b):z0c ρ h b:=by
 rcases hb with (hf|⟨a,M,hM,hl,_,rfl⟩)|⟨i,M,hM,hl,rfl⟩
 ·exact .inl hf
 ·exact .inr ⟨a,M,hM,hl,rfl⟩
 ·obtain ⟨a,ha,hMa⟩:=z2u hM
  exact .inr ⟨a,M,hMa,(hk.nth i _ ha).live hl,rfl⟩
theorem x75 (hr:z0a P ρ h w) (hinj:x56 σ=true) {hT:List AO} (hk:HOk ρ (ρ.lent h σ) (z0c ρ h) (z0c ρ h) h w σ hT):z0a P (ρ.lent h σ) hT w:=by
 have kp:z3s (z0c ρ h) (z0c (ρ.lent h σ) hT) w w:=⟨eAk _,fun _ _ _=>rfl,fun b _ hb=>x31 hk b hb,fun _ _ h=>h,z0m.refl _⟩
 have kp2:∀ {x:AV} {v:Value},z0i (ρ.lent h σ) (z0c ρ h) w x v→z0i (ρ.lent h σ) (z0c (ρ.lent h σ) hT) w x v:=fun hv=>hv.keep kp (fun _ _ h=>h)
 refine ⟨fun i M hM=>?_,fun i j M M' h1 h2 l1 l2 hb=>?_,fun b hf=>?_,fun i M hM hl hf=>?_,hr.gl.keep kp⟩
 ·obtain ⟨a,ha,hMa⟩:=z2u hM
  obtain ⟨o1,o2⟩:=hr.obj a M hMa
  refine ⟨o1,?_⟩
  rcases hk.nth i _ ha with e|⟨es,e,hrow⟩|⟨es,e,hmap⟩|⟨cells,ys,hbox,e,hlen,hys⟩|⟨st,pd,g,pos,nt,env,env',hlp,e,henv⟩
  ·rw [e]; trivial
  ·rw [e]
   rcases hrow with hrow|⟨es0,hrow,hdd⟩
   ·rw [hrow] at o2
    obtain ⟨hz,c,t,hc,hl,hj⟩:=o2
    exact ⟨hz,c,t,hc,hl,fun i r j x hi hx=>let ⟨v,hv,h1,hvr⟩:=hj i r j x hi hx; ⟨v,hv,h1,hvr.keep kp⟩⟩
   ·rw [hrow,y1w hdd] at o2
    obtain ⟨hz,c,t,hc,hl,hj⟩:=o2
    refine ⟨hz,c,t,hc,fun i r hi=>?_,fun i r j x hi hx=>?_⟩
    ·have:=hl i (toA r) (by rw [z18,hi]; rfl)
     rwa [z0o] at this
    ·obtain ⟨v,hv,h1,hvr⟩:=hj i (toA r) j (.d x) (by rw [z18,hi]; rfl) (by rw [z03,hx]; rfl)
     cases hvr with|d hvr=>exact ⟨v,hv,h1,hvr.keep kp⟩
  ·rw [e]; rw [hmap] at o2
   obtain ⟨en,clk,hc,hl,hj⟩:=o2
   exact ⟨en,clk,hc,hl,fun i k x hi=>let ⟨e,he,h1,h2⟩:=hj i k x hi; ⟨e,he,h1.keep kp,h2.keep kp⟩⟩
  ·rw [e]; rw [hbox] at o2
   obtain ⟨hbase,c,t,hc,hj⟩:=o2
   refine ⟨hbase,c,t,hc,fun j y hy=>?_⟩
   have hjl:j<cells.length:=by rw [←hlen]; exact (eAd.1 hy).1
   obtain ⟨v,hv,_⟩:=hj j _ (eAa hjl)
   have:=hys (fun j=>(c[M.base+j]?).getD undef) (fun j x hx=>by
    obtain ⟨u,hu,hur⟩:=hj j x hx
    simp only [hu,eBk]; exact hur) j y hy
   simp only [hv,eBk] at this
   exact ⟨v,hv,kp2 this⟩
  ·rw [e]; rw [hlp] at o2
   obtain ⟨x,ps,asg,body,hcd,tm,ds,f,hc,hl,hj⟩:=o2
   exact ⟨x,ps,asg,body,hcd,tm,ds,f,hc,hl,fun t=>kp2 (henv (fun t=>tm.getD t undef) hj t)⟩
 ·obtain ⟨a,ha,hMa⟩:=z2u h1
  obtain ⟨a',ha',hMa'⟩:=z2u h2
  have:=hr.inj a a' M M' hMa hMa' ((hk.nth i _ ha).live l1) ((hk.nth j _ ha').live l2) hb
  subst this
  exact z65 hinj ha ha'
 ·rcases hf with hf|⟨a,M,hM,hl,_,rfl⟩
  ·exact hr.fr b hf
  ·exact (hr.obj a M hM).1
 ·obtain ⟨a,ha,hMa⟩:=z2u hM
  have hla:=(hk.nth i _ ha).live hl
  rcases hf with hf|⟨a',M',hM',hl',hno,hb⟩
  ·exact hr.sep a M hMa hla hf
  ·have:=hr.inj a' a M' M hM' hMa hl' hla hb
   subst this
   exact hno i ha
theorem x58 {n:Nat} {s:AS} (hn:n≤s.heap.length) (hinj:x56 σ=true) (hth:z5c s.heap.length σ=true) {g:FuncId} {args argsT:List AV} {hT hT':List AO} {r:AV} (hlen:hT.length≤hT'.length)
  (hfit:∀ (ρ:Rho) (w:World),z0a P ρ s.heap w→HOk ρ (ρ.lent s.heap σ) (z0c ρ s.heap) (z0c ρ s.heap) s.heap w σ hT∧argsT.length=args.length∧
   ∀ f:Nat→Value,(∀ i x,args[i]?=some x→z0i ρ (z0c ρ s.heap) w x (f i))→∀ i y,argsT[i]?=some y→z0i (ρ.lent s.heap σ) (z0c ρ s.heap) w y (f i))
  (ha:z2z P g argsT hT r hT'):z4a P n g args s (z6r (z16 σ s.heap.length) r) ⟨s.env,z1l (z16 σ s.heap.length) s.heap 0 hT',s.nt⟩:=
 y4h hn hinj hth hlen (fun ρ w hr=>let ⟨hk,hal,hav⟩:=hfit ρ w hr; ⟨hk.len,x31 hk,x75 hr hinj hk,hal,hav⟩) ha
end frame
end Go.Am
end
section
namespace Go.Am
def w73 (f:AV→Option (Bool×D)):List AV→Option (Bool×List D)
 |[]=>some (true,[])
 |x::l=>match f x,w73 f l with
  |some (b,d),some (c,r)=>some (b&&c,d::r)
  |_,_=>none
def w14 (f:AV→Option (Bool×D)):List (List AV)→Option (Bool×List (List D))
 |[]=>some (true,[])
 |x::l=>match w73 f x,w14 f l with
  |some (b,d),some (c,r)=>some (b&&c,d::r)
  |_,_=>none
def dV (p:Prim) (h:List AO):Nat→AV→Option (Bool×D)
 |_, .d x=>some (true,x)
 |n+1, .slice id z off len cap=>match z0e h id with
  | .row es=>some (p.leN (p.add off len) (p.len es), .list false z (p.cut es off len))
  | .arow es=>match w14 (dV p h n) ((es.drop off).take len) with
   |some (b,ds)=>some (Nat.ble (off+len) es.length&&b, .list false z ds)
   |none=>none
  |_=>none
 |_,_=>none
mutual
def lV (p:Prim) (h:List AO):AV→Bool×AV
 | .bot=>(true, .bot)
 | .d x=>(true, .d x)
 | .slice id z off len cap=>match dV p h 4 (.slice id z off len cap) with
  |some (b,d)=>(b, .d d)
  |none=>(true, .bot)
 | .clo fn fs cs=>(p.and (lL p h fs).1 (lL p h cs).1, .clo fn (lL p h fs).2 (lL p h cs).2)
 | .agg l=>((lL p h l).1,x3x (lL p h l).2)
 | .tuple l=>((lL p h l).1, .tuple (lL p h l).2)
 |_=>(true, .bot)
def lL (p:Prim) (h:List AO):List AV→Bool×List AV
 |[]=>(true,[])
 |x::l=>(p.and (lV p h x).1 (lL p h l).1,(lV p h x).2::(lL p h l).2)
end
theorem y6d (p:Prim) (h:List AO):∀ l,(lL p h l).2.length=l.length
 |[]=>rfl
 |x::l=>by simp [lL,y6d p h l]
theorem y6e (h:List AO):∀ (l:List AV),(lL std h l).1=true→∀ (i:Nat) (y:AV),(lL std h l).2[i]?=some y→∃ x,l[i]?=some x∧y=(lV std h x).2∧(lV std h x).1=true
 |[],_,i,y,hi=>by simp [lL] at hi
 |x::l,hc,i,y,hi=>by
  simp only [lL,std,eAb] at hc
  simp only [lL] at hi
  cases i with
  |zero=>simp at hi; subst hi; exact ⟨x,rfl,rfl,hc.1⟩
  |succ i=>simpa using y6e h l hc.2 i y (by simpa using hi)
theorem x01 {f:AV→Option (Bool×D)}:∀ {l:List AV} {ds:List D},w73 f l=some (true,ds)→ds.length=l.length∧∀ (j:Nat) (d:D),ds[j]?=some d→∃ x,l[j]?=some x∧f x=some (true,d)
 |[],ds,h=>by cases h; exact ⟨rfl,fun j d h=>by simp at h⟩
 |x::l,ds,h=>by
  simp only [w73] at h
  split at h
  ·rename_i b d c r h1 h2
   have h:=Option.some.inj h
   have hb:=congrArg Prod.fst h
   have hd:=congrArg Prod.snd h
   simp only [eAb] at hb
   obtain ⟨rfl,rfl⟩:=hb
   simp only at hd
   subst hd
   obtain ⟨a1,a2⟩:=x01 h2
   refine ⟨by simp [a1],fun j d' hj=>?_⟩
   cases j with
   |zero=>simp at hj; subst hj; exact ⟨x,rfl,h1⟩
   |succ j=>simpa using a2 j d' (by simpa using hj)
  ·cases h
theorem y6w {f:AV→Option (Bool×D)}:∀ {l:List (List AV)} {ds:List (List D)},w14 f l=some (true,ds)→ds.length=l.length∧∀ (j:Nat) (d:List D),ds[j]?=some d→∃ x,l[j]?=some x∧w73 f x=some (true,d)
 |[],ds,h=>by cases h; exact ⟨rfl,fun j d h=>by simp at h⟩
 |x::l,ds,h=>by
  simp only [w14] at h
  split at h
  ·rename_i b d c r h1 h2
   have h:=Option.some.inj h
   have hb:=congrArg Prod.fst h
   have hd:=congrArg Prod.snd h
   simp only [eAb] at hb
   obtain ⟨rfl,rfl⟩:=hb
   simp only at hd
   subst hd
   obtain ⟨a1,a2⟩:=y6w h2
   refine ⟨by simp [a1],fun j d' hj=>?_⟩
   cases j with
   |zero=>simp at hj; subst hj; exact ⟨x,rfl,h1⟩
   |succ j=>simpa using a2 j d' (by simpa using hj)
  ·cases h
section
variable {P:Program} {ρ:Rho} {h:List AO} {w:World}
def frO (ρ:Rho):Nat→Prop:=z0c (ρ.only fun _=>false) []
theorem x8m:z3s (z0c ρ h) (frO ρ) w w:=⟨eAk _,fun _ _ _=>rfl,fun b _ hb=> .inl (z30.1 hb),fun _ _ h=>h,z0m.refl _⟩
theorem x6j {c:Array Value} {t:TypeId} {b k:Nat} {v:Value} (hb:w.heap[b]?=some (.cells c t (0,0))) (hv:c[k]?=some v):w.cell? ⟨b,k,none⟩=some v:=by
 unfold World.cell?
 simp only [hb]
 simpa using hv
theorem w72 (hr:z0a P ρ h w):∀ (n:Nat) {x:AV} {v:Value} {d:D},z0i ρ (z0c ρ h) w x v→dV std h n x=some (true,d)→z02 (frO ρ) w d v
 |n, .d x,v,d,hv,hd=>by
  have hd:some (true,x)=some (true,d):=by cases n<;>exact hd
  cases hd
  cases hv with|d hv=>exact hv.keep x8m
 |0, .slice _ _ _ _ _,v,d,hv,hd=>by cases hd
 |n+1, .slice id z off len cap,v,d,hv,hd=>by
  simp only [dV] at hd
  split at hd
  ·rename_i es hes
   have e:=Option.some.inj hd
   have e1:=congrArg Prod.fst e
   have e2:=congrArg Prod.snd e
   have:=w8q hr hv
   simp only [bV,hes] at this
   have:=this e1
   simp only at e2
   rw [e2] at this
   cases this with|d h=>exact h
  ·rename_i es hes
   split at hd
   ·rename_i b ds hds
    have e:=Option.some.inj hd
    have e1:=congrArg Prod.fst e
    have e2:=congrArg Prod.snd e
    simp only [eAb] at e1 e2
    obtain ⟨hle,rfl⟩:=e1
    subst e2
    have hle:=eAf hle
    obtain ⟨dl,dg⟩:=y6w hds
    have hlen:ds.length=len:=by rw [dl,eBv,eCx]; omega
    cases hv with
    |nils=>
     have:ds=[]:=eBn.1 hlen
     subst this
     exact .lnil _ _ _ _ (by simp)
    |slice _ _ _ _ _ L a c hL hz ha hc hl=>
     by_cases h0:len=0
     ·subst h0
      have:ds=[]:=eBn.1 hlen
      subst this
      exact .lnil _ _ _ _ (by simp)
     have ha:=ha (by omega)
     subst ha
     obtain ⟨_,ho⟩:=hr.obj id L hL
     rw [hes] at ho
     obtain ⟨hzp,cs,t,hcb,hrl,hcell⟩:=ho
     have hlive:(z0e h id).live=true:=by rw [hes]; rfl
     have hnf:¬ frO ρ L.blk:=fun hf=>hr.sep id L hL hlive (z30.1 hf)
     have key:∀ (i:Nat) (r:List D),ds[i]?=some r→∃ r0,es[off+i]?=some r0∧r.length=L.esz∧∀ (j:Nat) (x:D),r[j]?=some x→∃ u,cs[L.base+(off+i)*L.esz+j]?=some u∧u.oneCell'=true∧z02 (frO ρ) w x u:=by
      intro i r hi
      obtain ⟨r0,g1,g2⟩:=dg i r hi
      obtain ⟨q1,q2⟩:=x01 g2
      have hil:i<len:=by rw [←hlen]; exact (eAd.1 hi).1
      rw [eCl hil,eBp] at g1
      refine ⟨r0,g1,by rw [q1]; exact hrl _ _ g1,fun j x hj=>?_⟩
      obtain ⟨y,hy,hd⟩:=q2 j x hj
      obtain ⟨u,hu,h1,hvr⟩:=hcell (off+i) r0 j y g1 hy
      exact ⟨u,hu,h1,w72 hr n hvr hd⟩
     have hlens:∀ (i:Nat) (r:List D),ds[i]?=some r→r.length=L.esz:=fun i r hi=>by obtain ⟨_,_,q,_⟩:=key i r hi; exact q
     let cell:Nat→Value:=fun k=>(cs[L.base+off*L.esz+k]?).getD undef
     have hadd:∀ i j,L.base+(off+i)*L.esz+j=L.base+off*L.esz+(i*L.esz+j):=fun i j=>by rw [eAl]; omega
     have hall:∀ k,k<ds.length*L.esz→∃ u,cs[L.base+off*L.esz+k]?=some u∧u.oneCell'=true:=by
      intro k hk
      have hi:k / L.esz<ds.length:=(eCk hzp).2 hk
      have hj:k % L.esz<L.esz:=eCr _ hzp
      have hr':=eAa hi
      obtain ⟨_,_,q1,q2⟩:=key _ _ hr'
      obtain ⟨u,a1,a2,_⟩:=q2 _ _ (eAa (show k % L.esz<(ds[k / L.esz]).length by omega))
      have e:k / L.esz*L.esz+k % L.esz=k:=by rw [eCb]; exact Nat.div_add_mod _ _
      rw [hadd,e] at a1
      exact ⟨u,a1,a2⟩
     have hne:ds≠[]:=fun e=>by rw [e] at hlen; simp at hlen; omega
     have res:=z02.list (O:=frO ρ) (w:=w) false ds L.blk (L.base+off*L.esz) z c (by omega) hne hnf (by omega) (by simp) (fun i r hi=>by rw [←hz]; exact hlens i r hi) cell (fun k hk=>?_) (fun k hk=>?_) (fun i r j x hi hj=>?_)
     ·rw [hlen] at res; exact res
     ·rw [←hz] at hk
      obtain ⟨u,a1,a2⟩:=hall k hk
      show ((cs[L.base+off*L.esz+k]?).getD undef).oneCell'=true
      rw [a1]; exact a2
     ·rw [←hz] at hk
      obtain ⟨u,a1,_⟩:=hall k hk
      show w.cell? ⟨L.blk,L.base+off*L.esz+k,none⟩=some ((cs[L.base+off*L.esz+k]?).getD undef)
      rw [a1]; exact x6j hcb a1
     ·obtain ⟨_,_,_,q2⟩:=key i r hi
      obtain ⟨u,a1,_,a3⟩:=q2 j x hj
      show z02 _ w x ((cs[L.base+off*L.esz+(i*z+j)]?).getD undef)
      rw [hadd,hz] at a1
      rw [hz,a1]; exact a3
   ·cases hd
  ·cases hd
 |n, .bot,v,d,hv,hd=>by cases n<;>cases hd
 |n, .bptr _ _,v,d,hv,hd=>by cases n<;>cases hd
 |n, .ptr _ _ _,v,d,hv,hd=>by cases n<;>cases hd
 |n, .lptr _ _,v,d,hv,hd=>by cases n<;>cases hd
 |n, .wptr _ _,v,d,hv,hd=>by cases n<;>cases hd
 |n, .perm _,v,d,hv,hd=>by cases n<;>cases hd
 |n, .map _,v,d,hv,hd=>by cases n<;>cases hd
 |n, .yld _,v,d,hv,hd=>by cases n<;>cases hd
 |n, .clo _ _ _,v,d,hv,hd=>by cases n<;>cases hd
 |n, .iface _ _,v,d,hv,hd=>by cases n<;>cases hd
 |n, .agg _,v,d,hv,hd=>by cases n<;>cases hd
 |n, .tuple _,v,d,hv,hd=>by cases n<;>cases hd
theorem v0k (hr:z0a P ρ h w) {x:AV} {v:Value} (hv:z0i ρ (z0c ρ h) w x v):(lV std h x).1=true→z0i (ρ.only fun _=>false) (frO ρ) w (lV std h x).2 v:=by
 have sl:∀ {id z off len:Nat} {cap:Option Nat} {v:Value},z0i ρ (z0c ρ h) w (.slice id z off len cap) v→(lV std h (.slice id z off len cap)).1=true→z0i (ρ.only fun _=>false) (frO ρ) w (lV std h (.slice id z off len cap)).2 v:=by
  intro id z off len cap v hv hc
  simp only [lV] at hc⊢
  split
  ·rename_i b d hd
   rw [hd] at hc
   simp only at hc
   subst hc
   exact .d (w72 hr 4 hv hd)
  ·exact .bot _
 induction hv with
 |bot v=>intro _; exact .bot v
 |d h=>intro _; exact .d (h.keep x8m)
 |slice id z off len cap L a c hL hz ha hc hl=>exact sl (.slice id z off len cap L a c hL hz ha hc hl)
 |nils id z off cap a hc=>exact sl (.nils id z off cap a hc)
 |clo fn fs cs vf vc hl1 hl2 h1 h2 ih1 ih2=>
  intro hc
  simp only [lV,std,eAb] at hc
  simp only [lV]
  refine .clo fn _ _ vf vc (by rw [y6d]; exact hl1) (by rw [y6d]; exact hl2) (fun i y hy=>?_) (fun i y hy=>?_)
  ·obtain ⟨x,hx,rfl,hb⟩:=y6e h fs hc.1 i y hy
   exact ih1 i x hx hb
  ·obtain ⟨x,hx,rfl,hb⟩:=y6e h cs hc.2 i y hy
   exact ih2 i x hx hb
 |agg xs vs hl hh ih=>
  intro hc
  simp only [lV] at hc⊢
  refine y6a _ vs (by rw [y6d]; exact hl) (fun i y hy=>?_)
  obtain ⟨x,hx,rfl,hb⟩:=y6e h xs hc i y hy
  exact ih i x hx hb
 |tuple xs vs hl hh ih=>
  intro hc
  simp only [lV] at hc⊢
  refine .tuple _ vs (by rw [y6d]; exact hl) (fun i y hy=>?_)
  obtain ⟨x,hx,rfl,hb⟩:=y6e h xs hc i y hy
  exact ih i x hx hb
 |_=>intro _; exact .bot _
end
mutual
def plV:AV→Bool
 | .bot=>true
 | .d x=>z6v x
 | .lptr _ _=>false
 | .wptr _ _=>false
 | .perm _=>false
 | .clo _ fs cs=>plL fs&&plL cs
 | .iface _ v=>plV v
 | .agg l=>plL l
 | .tuple l=>plL l
 |_=>true
def plL:List AV→Bool
 |[]=>true
 |x::l=>plV x&&plL l
end
theorem z90:∀ {l:List AV},plL l=true→∀ (i:Nat) (d:AV),l[i]?=some d→plV d=true
 |[],_,i,d,h=>by simp at h
 |x::l,h,i,d,hi=>by
  simp only [plL,eAb] at h
  cases i with
  |zero=>simp at hi; subst hi; exact h.1
  |succ i=>exact z90 h.2 i d (by simpa using hi)
theorem x17 {ρ ρ':Rho} {O O':Nat→Prop} {w:World} {f:Nat→Nat} (hf:∀ j M,ρ j=some M→ρ' (f j)=some M) {x:AV} {v:Value} (h:z0i ρ O w x v):plV x=true→z0i ρ' O' w (z6r f x) v:=by
 induction h with
 |bot v=>intro _; exact .bot v
 |d h=>intro hp; exact .d (z6u h (by simpa only [plV] using hp))
 |bptr id off L hL=>intro _; exact .bptr _ off L (hf _ _ hL)
 |ptr id i off L hL=>intro _; exact .ptr _ i off L (hf _ _ hL)
 |lptr=>intro hp; simp [plV] at hp
 |wptr=>intro hp; simp [plV] at hp
 |perm=>intro hp; simp [plV] at hp
 |slice id z off len cap L a c hL hz ha hc hl=>intro _; exact .slice _ z off len cap L a c (hf _ _ hL) hz ha hc hl
 |nils id z off cap a hc=>intro _; exact .nils _ z off cap a hc
 |map id L hL=>intro _; exact .map _ L (hf _ _ hL)
 |yld id L hL=>intro _; exact .yld _ L (hf _ _ hL)
 |clo fn fs cs vf vc hl1 hl2 h1 h2 ih1 ih2=>
  intro hp
  simp only [plV,eAb] at hp
  simp only [z6r]
  refine .clo fn _ _ vf vc (by simp [z1s,hl1]) (by simp [z1s,hl2]) (fun i y hy=>?_) (fun i y hy=>?_)
  ·rw [z1s,eAg] at hy
   obtain ⟨x,hx,rfl⟩:=eAw.1 hy
   exact ih1 i x hx (z90 hp.1 i x hx)
  ·rw [z1s,eAg] at hy
   obtain ⟨x,hx,rfl⟩:=eAw.1 hy
   exact ih2 i x hx (z90 hp.2 i x hx)
 |iface t x v h ih=>intro hp; exact .iface t _ v (ih (by simpa only [plV] using hp))
 |agg xs vs hl hh ih=>
  intro hp
  simp only [plV] at hp
  simp only [z6r]
  refine .agg _ vs (by simp [z1s,hl]) (fun i y hy=>?_)
  rw [z1s,eAg] at hy
  obtain ⟨x,hx,rfl⟩:=eAw.1 hy
  exact ih i x hx (z90 hp i x hx)
 |tuple xs vs hl hh ih=>
  intro hp
  simp only [plV] at hp
  simp only [z6r]
  refine .tuple _ vs (by simp [z1s,hl]) (fun i y hy=>?_)
  rw [z1s,eAg] at hy
  obtain ⟨x,hx,rfl⟩:=eAw.1 hy
  exact ih i x hx (z90 hp i x hx)
def w87:List (List AV)→Bool
 |[]=>true
 |x::l=>plL x&&w87 l
theorem x3h:∀ {l:List (List AV)},w87 l=true→∀ (i:Nat) (d:List AV),l[i]?=some d→plL d=true
 |[],_,i,d,h=>by simp at h
 |x::l,h,i,d,hi=>by
  simp only [w87,eAb] at h
  cases i with
  |zero=>simp at hi; subst hi; exact h.1
  |succ i=>exact x3h h.2 i d (by simpa using hi)
def plO (p:Prim):AO→Bool
 | .dead=>true
 | .box l=>plL l
 | .row es=>p.plain es
 | .arow es=>w87 es
 | .map es=>p.plainM es
 | .loop _ _ _ _ _ _=>false
def plH (p:Prim):List AO→List Bool
 |[]=>[]
 |o::l=>plO p o::plH p l
theorem x7k {p:Prim}:∀ {l:List AO},z01 (plH p l)=true→∀ i,plO p (z0e l i)=true
 |[],_,i=>by cases i<;>rfl
 |o::l,h,i=>by
  simp only [plH,z01,eAb] at h
  cases i with
  |zero=>exact h.1
  |succ i=>exact x7k h.2 i
theorem x7j {es:List (List D)} (h:std.plain es=true) {i j:Nat} {r:List D} {x:D} (hi:es[i]?=some r) (hj:r[j]?=some x):z6v x=true:=by
 have h1:=eAr.1 h r (eAu hi)
 exact eAr.1 h1 x (eAu hj)
section
variable {P:Program} {w:World}
theorem w4b {ρ ρ':Rho} {O O':Nat→Prop} {f:Nat→Nat} (hf:∀ j M,ρ j=some M→ρ' (f j)=some M) {L:Loc} {o:AO} (hp:plO std o=true) (h:z0u P ρ O w L o):z0u P ρ' O' w L (y52 f o):=by
 cases o with
 |dead=>trivial
 |box cells=>
  obtain ⟨hbase,c,t,hc,hj⟩:=h
  refine ⟨hbase,c,t,hc,fun j y hy=>?_⟩
  rw [z1s,eAg] at hy
  obtain ⟨x,hx,rfl⟩:=eAw.1 hy
  obtain ⟨v,hv,hr⟩:=hj j x hx
  exact ⟨v,hv,x17 hf hr (z90 hp j x hx)⟩
 |row es=>
  obtain ⟨hz,c,t,hc,hl,hj⟩:=h
  refine ⟨hz,c,t,hc,hl,fun i r j x hi hx=>?_⟩
  obtain ⟨v,hv,h1,hr⟩:=hj i r j x hi hx
  exact ⟨v,hv,h1,z6u hr (x7j hp hi hx)⟩
 |arow es=>
  obtain ⟨hz,c,t,hc,hl,hj⟩:=h
  refine ⟨hz,c,t,hc,fun i r hi=>?_,fun i r j y hi hy=>?_⟩
  ·rw [y0q,eAg] at hi
   obtain ⟨r0,hr0,rfl⟩:=eAw.1 hi
   rw [z1s,eBt]; exact hl i r0 hr0
  ·rw [y0q,eAg] at hi
   obtain ⟨r0,hr0,rfl⟩:=eAw.1 hi
   rw [z1s,eAg] at hy
   obtain ⟨x,hx,rfl⟩:=eAw.1 hy
   obtain ⟨v,hv,h1,hr⟩:=hj i r0 j x hr0 hx
   exact ⟨v,hv,h1,x17 hf hr (z90 (x3h hp i r0 hr0) j x hx)⟩
 |map es=>
  obtain ⟨en,clk,hc,hl,hj⟩:=h
  refine ⟨en,clk,hc,hl,fun i k x hi=>?_⟩
  obtain ⟨e,he,h1,h2⟩:=hj i k x hi
  have hpm:=eAr.1 hp (k,x) (eAu hi)
  simp only [eAb] at hpm
  exact ⟨e,he,z6u h1 hpm.1,z6u h2 hpm.2⟩
 |loop st pd g pos nt env=>cases hp
end
theorem y33 (a b:List AO) (i:Nat):z0e (a++b) i=if i<a.length then z0e a i else z0e b (i - a.length):=by
 induction a generalizing i with
 |nil=>simp
 |cons o r ih=>cases i with
  |zero=>simp [z0e]
  |succ n=>
   simp only [List.cons_append,z0e,ih n,eBi]
   by_cases h:n<r.length
   ·rw [if_pos h,if_pos (by omega)]
   ·rw [if_neg h,if_neg (by omega)]
    congr 1; omega
theorem w02 (f:AO→AO) (hf:f .dead= .dead) (l:List AO) (i:Nat):z0e (l.map f) i=f (z0e l i):=by
 induction l generalizing i with
 |nil=>cases i<;>exact hf.symm
 |cons o r ih=>cases i with
  |zero=>rfl
  |succ n=>exact ih n
section
variable {P:Program}
theorem lend {g:FuncId} {args:List AV} {r:AV} {hp h1:List AO} (ha:z2z P g (lL std hp args).2 [] r h1) (hc:(lL std hp args).1=true) (hr:plV r=true) (ho:z01 (plH std h1)=true):
  z2z P g args hp (z6r (hp.length+ ·) r) (hp++h1.map (y52 (hp.length+ ·))):=⟨by
 intro ρ vs w cs hh hdm har
 let ρc:Rho:=ρ.only fun _=>false
 have hno:∀ id L,ρc id=some L→False:=fun id L hL=>by obtain ⟨a,_⟩:=z1g.1 hL; cases a
 have hc0:z0a P ρc [] w:=⟨fun id L hL=>(hno id L hL).elim,fun id id' L L' hL=>(hno id L hL).elim,fun b hb=>hh.fr b hb,fun id L hL=>(hno id L hL).elim,hh.gl.sub fun b hb=> .inl (z30.1 hb)⟩
 obtain ⟨ρ',v,w',fr,hst,hfn,hlv,hv,hh',hdm',hx⟩:=ha.run ρc vs w cs hc0 (fun id hid=>by
  cases hq:ρc id with
  |none=>exact absurd hq hid
  |some L=>exact (hno id L hq).elim) ⟨by rw [y6d]; exact har.1,fun i y hi=>by
   obtain ⟨x,hx,rfl,hb⟩:=y6e hp args hc i y hi
   exact v0k hh (har.2 i x hx) hb⟩
 have hold:∀ b,b<w.heap.size→w'.heap[b]?=w.heap[b]?:=by
  intro b hb
  by_cases ho:ρ.fr b
  ·exact hx.frs b ho
  ·exact hx.keep.frame b hb (fun h=>ho (z30.1 h))
 have hfr:ρ'.fr=ρ.fr:=hx.fr
 have hk0:z3s (z0c ρ hp) (z0c ρ hp) w w':=⟨hx.keep.size,fun b hb _=>hold b hb,fun b _ h=>h,hx.keep.shape,hx.keep.drawn⟩
 have hh0:z0a P ρ hp w':=hh.of_keep hk0 fun b hb=>hold b (z50 hh hb)
 let base:=hp.length
 let f:Nat→Nat:=(base+ ·)
 let ρ2:Rho:=⟨fun id=>if id<base then ρ id else ρ' (id - base),ρ.fr⟩
 let h2:=hp++h1.map (y52 f)
 have n1:∀ id,id<base→z0e h2 id=z0e hp id:=fun id hid=>by show z0e (hp++_) id=_; rw [y33,if_pos hid]
 have n2:∀ id,base≤id→z0e h2 id=y52 f (z0e h1 (id - base)):=fun id hid=>by
  show z0e (hp++_) id=_
  rw [y33,if_neg (by show ¬ id<base; omega),w02 _ rfl]
 have r1:∀ id,id<base→ρ2 id=ρ id:=fun id hid=>by show (if id<base then _ else _)=_; rw [if_pos hid]
 have r2:∀ id,base≤id→ρ2 id=ρ' (id - base):=fun id hid=>by show (if id<base then _ else _)=_; rw [if_neg (by omega)]
 have r3:∀ j M,ρ' j=some M→ρ2 (f j)=some M:=fun j M hM=>by
  rw [r2 (f j) (Nat.le_add_right _ _)]
  show ρ' (base+j - base)=some M
  rw [Nat.add_sub_cancel_left]; exact hM
 have rlt:∀ id M,ρ id=some M→id<base:=fun id M hM=>hdm id (by rw [hM]; simp)
 have hnew:∀ j M,ρ' j=some M→(z0e h1 j).live=true→w.heap.size≤M.blk:=by
  intro j M hM hl
  rcases eBw M.blk w.heap.size with hlt|hge
  ·have hob:z0c ρ' h1 M.blk:= .inr ⟨j,M,hM,hl,rfl⟩
   have:=z30.1 (hx.keep.own M.blk hlt hob)
   exact absurd (by rw [hfr]; exact this) (hh'.sep j M hM hl)
  ·exact hge
 have hO:∀ b,z0c ρ2 h2 b→z0c ρ hp b∨w.heap.size≤b:=by
  rintro b (hf|⟨id,M,hM,hl,rfl⟩)
  ·exact .inl (.inl hf)
  ·rcases eBw id base with hlt|hge
   ·rw [r1 id hlt] at hM; rw [n1 id hlt] at hl; exact .inl (.inr ⟨id,M,hM,hl,rfl⟩)
   ·rw [r2 id hge] at hM; rw [n2 id hge,z1o] at hl; exact .inr (hnew _ M hM hl)
 have hk:z3s (z0c ρ hp) (z0c ρ2 h2) w w':=⟨hx.keep.size,fun b hb _=>hold b hb,fun b hb h=>(hO b h).elim id fun h=>by omega,hx.keep.shape,hx.keep.drawn⟩
 have rmono:∀ id M,ρ id=some M→ρ2 id=some M:=fun id M hM=>by rw [r1 id (rlt id M hM)]; exact hM
 refine ⟨ρ2,v,w',fr,hst,hfn,hlv,x17 r3 hv hr,⟨fun id M hM=>?_,fun id id' M M' hM hM' l1 l2 e=>?_,fun b hb=>hh0.fr b hb,fun id M hM hl hb=>?_,hh.gl.keep hk⟩,fun id hid=>?_,?_⟩
 ·rcases eBw id base with hlt|hge
  ·rw [r1 id hlt] at hM
   obtain ⟨a,b⟩:=hh.obj id M hM
   rw [n1 id hlt]
   exact ⟨eAn a hx.keep.size,b.keep hk rmono (hold _ a)⟩
  ·rw [r2 id hge] at hM
   obtain ⟨a,b⟩:=hh'.obj (id - base) M hM
   rw [n2 id hge]
   exact ⟨a,w4b r3 (x7k ho _) b⟩
 ·rcases eBw id base with hlt|hge<;>rcases eBw id' base with hlt'|hge'
  ·rw [r1 id hlt] at hM; rw [r1 id' hlt'] at hM'
   rw [n1 id hlt] at l1; rw [n1 id' hlt'] at l2
   exact hh.inj id id' M M' hM hM' l1 l2 e
  ·rw [r1 id hlt] at hM; rw [r2 id' hge'] at hM'
   rw [n1 id hlt] at l1; rw [n2 id' hge',z1o] at l2
   have a:=(hh.obj id M hM).1
   have b:=hnew _ M' hM' l2
   omega
  ·rw [r2 id hge] at hM; rw [r1 id' hlt'] at hM'
   rw [n2 id hge,z1o] at l1; rw [n1 id' hlt'] at l2
   have a:=(hh.obj id' M' hM').1
   have b:=hnew _ M hM l1
   omega
  ·rw [r2 id hge] at hM; rw [r2 id' hge'] at hM'
   rw [n2 id hge,z1o] at l1; rw [n2 id' hge',z1o] at l2
   have:=hh'.inj _ _ M M' hM hM' l1 l2 e
   omega
 ·rcases eBw id base with hlt|hge
  ·rw [r1 id hlt] at hM; rw [n1 id hlt] at hl
   exact hh.sep id M hM hl hb
  ·rw [r2 id hge] at hM; rw [n2 id hge,z1o] at hl
   exact hh'.sep _ M hM hl (by rw [hfr]; exact hb)
 ·show id<(hp++h1.map (y52 f)).length
  rw [eBu,eBt]
  rcases eBw id base with hlt|hge
  ·have:id<hp.length:=hlt
   omega
  ·rw [r2 id hge] at hid
   have:=hdm' (id - base) hid
   have e:base=hp.length:=rfl
   omega
 ·exact { os:=hx.os,tape:=hx.tape,output:=hx.output,keep:=hk,rho:=fun id hid=>r1 id hid,fr:=rfl,frs:=fun b hb=>hold b (hh.fr b hb) }⟩
end
end Go.Am
end
section
namespace Go.Am
def y7a:Nat→List (Option Nat)
 |0=>[]
 |n+1=>some n::y7a n
theorem y69:∀ {n a:Nat},a<n→z8m (y7a n) a=true
 |0,a,h=>by omega
 |n+1,a,h=>by
  simp only [y7a,z8m,eAq]
  by_cases e:a=n
  ·left; subst e; exact eCs _
  ·right; exact y69 (by omega)
def w7s (p:Prim) (c:Ctr) (args:List AV) (h:List AO):Option (List (Option Nat)×List Bool×Tup c.scs):=
 match w0p (w2l h c.heap 2 (y16 c.args args)) 0 c.heap with
 |σ=>bif x56 σ&&z5c h.length σ then match y1p h c.heap σ with
  |some v1=>match y83 p h σ (y7a h.length) (z6g c.heap v1).1 c.heap σ,z96 p h σ (y7a h.length) (z6g c.heap v1).1 c.args args with
   |some (c2,v2),some (c3,v3)=>match w4f c.scs (v1++(v2++v3)) with
    |some x=>some (σ,c2++c3,x)
    |none=>none
   |_,_=>none
  |none=>none
  else none
theorem x2r {P : Program} {c : Ctr} {args : List AV} {s : AS} {σ : List (Option Nat)} {cs : List Bool} {x : Tup c.scs} (h : w7s std c args s.heap = some (σ, cs, x)) (hc : z01 cs = true) {n : Nat} (hn : n ≤ s.heap.length) {r : AV} {hT' : List AO}
    (hl : (x1h std c (y4x c.scs x)).2.length ≤ hT'.length) (ha : z2z P c.g (x1h std c (y4x c.scs x)).1 (x1h std c (y4x c.scs x)).2 r hT') : z4a P n c.g args s (z6r (z16 σ s.heap.length) r) ⟨s.env, z1l (z16 σ s.heap.length) s.heap 0 hT', s.nt⟩ := by
  unfold w7s at h
  simp only at h
  generalize hσ : w0p (w2l s.heap c.heap 2 (y16 c.args args)) 0 c.heap = σ' at h
  cases hb : x56 σ' && z5c s.heap.length σ' with
  | false => rw [hb] at h; cases h
  | true =>
    rw [hb] at h; simp only [cond_true] at h
    simp only [eAb] at hb
    split at h
    · rename_i v1 h1
      split at h
      · rename_i c2 v2 c3 v3 h2 h3
        split at h
        · rename_i x' hx
          cases h
          obtain ⟨q2, q3⟩ := z11 hc
          rw [y26 hx] at hl ha
          obtain ⟨a1, a2, a3⟩ := x8v s.heap c.heap σ v1 h1 (v2 ++ v3)
          refine x58 hn hb.1 hb.2 hl (fun ρ w hr => ?_) ha
          rw [← a3] at h2 h3
          have cx : x98 P ρ (ρ.lent s.heap σ) (z0c ρ s.heap) s.heap w σ (y7a s.heap.length) (z6g c.heap (v1 ++ (v2 ++ v3))).1 :=
            { hr := hr
              loc := fun i a hi => by show (match z1j σ i with | some (some a) => ρ a | _ => none) = ρ a; rw [hi]
              sub := fun b hb => hb
              out := fun a M hM hl hm => by
                rcases eBw a s.heap.length with hlt | hge
                · rw [y69 hlt] at hm; cases hm
                · rw [x2g _ _ hge] at hl; cases hl }
          obtain ⟨b1, b2⟩ := x8u cx c.heap σ (z6g c.heap (v1 ++ (v2 ++ v3))).1 c2 v2 a2 h2 q2 v3
          obtain ⟨d1, d2, d3⟩ := z4o cx c.args args c3 v3 h3 q3 []
          rw [eCn] at d1 d2 d3
          refine ⟨?_, ?_, ?_⟩
          · show HOk _ _ _ _ _ _ _ (y40 std _ _ c.heap (z6g c.heap (v1 ++ (v2 ++ v3))).2).1
            rw [a1]; exact b2
          · show (z5p std _ c.args (y40 std _ _ c.heap (z6g c.heap (v1 ++ (v2 ++ v3))).2).2).1.length = _
            rw [a1, b1]; exact d2
          · show ∀ f : Nat → Value, _ → ∀ i y, (z5p std _ c.args (y40 std _ _ c.heap (z6g c.heap (v1 ++ (v2 ++ v3))).2).2).1[i]? = some y → _
            rw [a1, b1]; exact d3
        · cases h
      · cases h
    · cases h
structure CF where
 c:Ctr
 F:Prim→Tup c.scs→Option (STup (scss c.outs))
def y5r (f:Nat→Nat):List (List CK)→Nat→List (List CK)→List (List CK)
 |K,_,[]=>K
 |K,j,[]::r=>y5r f K (j+1) r
 |K,j,ck::r=>y5r f (w85 K (f j) ck) (j+1) r
def isE:List AO→Bool
 |[]=>true
 |_=>false
theorem w1g {l:List AO} (h:isE l=true):l=[]:=by cases l<;>first|rfl|cases h
def w4r (p:Prim) (c:Ctr) (args:List AV) (h:List AO):Option (List Bool×Tup c.scs):=
 match w7s p c (lL p h args).2 [] with
 |some ([],cs,x)=>bif isE (x1h p c (y4x c.scs x)).2 then some ((lL p h args).1::cs,x) else none
 |_=>none
def x6l (A:Alg) (p:Prim) (Γ:List CF) (β:Type) (g:FuncId) (args:List AV) (ss:SS):Option ((AV→SS→A.Ω β)→A.Ω β):=
 match Γ with
 |[]=>none
 |cf::r=>bif Nat.beq cf.c.g g then match w7s p cf.c args ss.s.heap with
  |some (σ,cs,x)=>some fun k=>needs A β cs (x1e A β p cf.c.outs (cf.F p x) fun _ s=>k (z6r (z16 σ ss.s.heap.length) (z1k s.s.env 0)) ⟨⟨ss.s.env,z1l (z16 σ ss.s.heap.length) ss.s.heap 0 s.s.heap,ss.s.nt⟩,y5r (z16 σ ss.s.heap.length) ss.K 0 s.K⟩)
  |none=>match w4r p cf.c args ss.s.heap with
   |some (cs,x)=>some fun k=>needs A β cs (x1e A β p cf.c.outs (cf.F p x) fun _ s=>needs A β (plV (z1k s.s.env 0)::plH p s.s.heap)
     (k (z6r (ss.s.heap.length+ ·) (z1k s.s.env 0)) ⟨⟨ss.s.env,ss.s.heap++s.s.heap.map (y52 (ss.s.heap.length+ ·)),ss.s.nt⟩,y5r (ss.s.heap.length+ ·) ss.K 0 s.K⟩))
   |none=>x6l A p r β g args ss
  else x6l A p r β g args ss
def GamOk (P:Program) (Γ:List CF):Prop:=∀ cf∈Γ,CtrOk P cf.c (cf.F std)
mutual
theorem y74 (f:Nat→Nat) (hf:∀ j,f j=j):∀ x:AV,z6r f x=x
 | .bptr i off=>by simp [z6r,hf]
 | .ptr i j off=>by simp [z6r,hf]
 | .slice i z off len cap=>by simp [z6r,hf]
 | .map i=>by simp [z6r,hf]
 | .yld i=>by simp [z6r,hf]
 | .clo fn fs cs=>by simp [z6r,y1i f hf fs,y1i f hf cs]
 | .iface t v=>by simp [z6r,y74 f hf v]
 | .agg l=>by simp [z6r,y1i f hf l]
 | .tuple l=>by simp [z6r,y1i f hf l]
 | .bot=>rfl
 | .d x=>rfl
 | .lptr r off=>rfl
 | .wptr r off=>rfl
 | .perm r=>rfl
theorem y1i (f:Nat→Nat) (hf:∀ j,f j=j):∀ l:List AV,x14 f l=l
 |[]=>rfl
 |x::l=>by simp [x14,y74 f hf x,y1i f hf l]
end
theorem w39 (f:Nat→Nat) (hf:∀ j,f j=j) (o:AO):y52 f o=o:=by
 have h1:∀ l:List AV,x14 f l=l:=y1i f hf
 have h2:∀ l:List (List AV),x7g f l=l:=fun l=>by
  rw [y0q]
  induction l with
  |nil=>rfl
  |cons x l ih=>simp [h1 x,ih]
 have h3:∀ l:List (Nat×AV),w6d f l=l:=fun l=>by
  induction l with
  |nil=>rfl
  |cons x l ih=>obtain ⟨k,x⟩:=x; simp [w6d,y74 f hf x,ih]
 cases o<;>simp [y52,h1,h2,h3]
theorem w0x (h:List AO) (o:AO):z0x h h.length o=h++[o]:=x3g h o
theorem y85 (f:Nat→Nat) (hf:∀ j,f j=j):∀ (hT h:List AO),z1l f h h.length hT=h++hT
 |[],h=>by simp [z1l]
 |o::l,h=>by
  simp only [z1l,hf,w39 f hf,w0x]
  have:=y85 f hf l (h++[o])
  rw [eBu,List.length_singleton] at this
  rw [this]; simp
theorem w05 {P:Program} {c:Ctr} {args:List AV} {h:List AO} {cs:List Bool} {x:Tup c.scs} (hf:w4r std c args h=some (cs,x)) (hc:z01 cs=true) {r:AV} {hT':List AO}
  (hl:(x1h std c (y4x c.scs x)).2.length≤hT'.length) (ha:z2z P c.g (x1h std c (y4x c.scs x)).1 (x1h std c (y4x c.scs x)).2 r hT'):z2z P c.g (lL std h args).2 [] r hT'∧(lL std h args).1=true:=by
 unfold w4r at hf
 split at hf
 ·rename_i cs' x' hfit
  cases he:isE (x1h std c (y4x c.scs x')).2 with
  |false=>rw [he] at hf; cases hf
  |true=>
   rw [he] at hf
   cases hf
   simp only [z01,eAb] at hc
   have hcs:=x2r (P:=P) (s:=⟨[],[],0⟩) (n:=0) hfit hc.2 (eAk _) hl ha
   refine ⟨?_,hc.1⟩
   have hid:∀ j,z16 [] ([]:List AO).length j=j:=fun j=>by
    show (match z1j ([]:List (Option Nat)) j with|some (some a)=>a|_=>0+(j - 0))=j
    simp [z1j]
   constructor
   intro ρ vs w cs' hr hdm har
   obtain ⟨ρ',v,w',fr,b1,b2,b3,b4,b5,b6,b7⟩:=hcs.run ρ vs #[] w cs' ⟨hr,fun t=> .bot _,rfl,hdm⟩ har
   have e2:z1l (z16 [] ([]:List AO).length) [] 0 hT'=hT':=by
    have:=y85 _ hid hT' []
    simpa using this
   refine ⟨ρ',v,w',fr,b1,b2,b3,?_,?_,?_,?_⟩
   ·have b4':z0i ρ' (z0c ρ' (z1l (z16 [] ([]:List AO).length) [] 0 hT')) w' (z6r (z16 [] ([]:List AO).length) r) v:=b4
    rw [e2,y74 _ hid] at b4'; exact b4'
   ·have h3:z0a P ρ' (z1l (z16 [] ([]:List AO).length) [] 0 hT') w':=b5.heap
    rw [e2] at h3; exact h3
   ·have h3:Dom ρ' (z1l (z16 [] ([]:List AO).length) [] 0 hT'):=b5.dom
    rw [e2] at h3; exact h3
   ·have h3:Ext (· <0) ρ [] w ρ' (z1l (z16 [] ([]:List AO).length) [] 0 hT') w':=b7
    rw [e2] at h3; exact h3
 ·cases hf
theorem w2j {P:Program} {β:Type} {g:FuncId} {args:List AV} {ss:SS} {n:Nat} (hn:n≤ss.s.heap.length):∀ {Γ:List CF} (hG:GamOk P Γ) {t:(AV→SS→Option β)→Option β} {k:AV→SS→Option β} {b:β},x6l opt std Γ β g args ss=some t→t k=some b→
  ∃ r ss',n≤ss'.s.heap.length∧z42 P g∧z4a P n g args ss.s r ss'.s∧k r ss'=some b:=by
 intro Γ
 induction Γ with
 |nil=>intro hG t k b h _; cases h
 |cons cf r ih=>
  intro hG t k b h ht
  simp only [x6l] at h
  cases hb:Nat.beq cf.c.g g with
  |false=>rw [hb] at h; exact ih (fun c hc=>hG c (by simp [hc])) h ht
  |true=>
   rw [hb] at h; simp only [cond_true] at h
   have:=eAc hb; subst this
   split at h
   ·rename_i σ cs x hf
    cases h
    obtain ⟨hc,ht⟩:=z07 ht
    obtain ⟨y,hy,ht⟩:=z5f ht
    obtain ⟨g1,g2⟩:=hG cf (by simp)
    obtain ⟨g3,g4⟩:=g2 x y hy
    refine ⟨_,⟨⟨ss.s.env,z1l (z16 σ ss.s.heap.length) ss.s.heap 0 (z1r std cf.c.outs y).2.s.heap,ss.s.nt⟩,y5r (z16 σ ss.s.heap.length) ss.K 0 (z1r std cf.c.outs y).2.K⟩,?_,g1,x2r hf hc hn g3 g4,ht⟩
    exact eBf hn (z6j _ _ _ _).1
   ·split at h
    ·rename_i cs x hf
     cases h
     obtain ⟨hc,ht⟩:=z07 ht
     obtain ⟨y,hy,ht⟩:=z5f ht
     obtain ⟨g1,g2⟩:=hG cf (by simp)
     obtain ⟨g3,g4⟩:=g2 x y hy
     obtain ⟨hpl,ht⟩:=z07 ht
     simp only [z01,eAb] at hpl
     obtain ⟨l1,l2⟩:=w05 hf hc g3 g4
     refine ⟨_,⟨⟨ss.s.env,ss.s.heap++(z1r std cf.c.outs y).2.s.heap.map (y52 (ss.s.heap.length+ ·)),ss.s.nt⟩,y5r (ss.s.heap.length+ ·) ss.K 0 (z1r std cf.c.outs y).2.K⟩,?_,g1,z4a.of_aret hn (lend l1 l2 hpl.1 hpl.2),ht⟩
     exact eBf hn (by simp)
    ·exact ih (fun c hc=>hG c (by simp [hc])) h ht
def x7y:x6n→Bool
 |[]=>true
 |(_,t)::l=>match t.heap with
  |[]=>x7y l
  |_=>false
def x16 (A:Alg) (p:Prim) (Γ:List CF) (β:Type) (g:FuncId) (args:List AV):Option ((AV→A.Ω β)→A.Ω β):=
 match Γ with
 |[]=>none
 |cf::r=>bif Nat.beq cf.c.g g&&z95 args then match w7s p cf.c args [] with
  |some (_,cs,x)=>bif isE (x1h p cf.c (y4x cf.c.scs x)).2&&x7y cf.c.outs then some fun k=>needs A β cs (x1e A β p cf.c.outs (cf.F p x) fun _ s=>bif isE s.s.heap&&z73 (z1k s.s.env 0) then k (z1k s.s.env 0) else A.no β 95) else x16 A p r β g args
  |none=>x16 A p r β g args
  else x16 A p r β g args
theorem z9a {f:AV→AV} {l:List AV} (h:∀ (i:Nat) (x:AV),l[i]?=some x→f x=x):l.map f=l:=by
 apply eBd
 intro i
 rw [eAg]
 cases hq:l[i]? with
 |none=>rfl
 |some y=>simp [h i y hq]
theorem w0w {f:Nat→Nat} {x:AV} (h:y84 x):z6r f x=x:=by
 induction h with
 |bot=>rfl
 |d x=>rfl
 |tuple xs hx ih=>simp only [z6r,z1s]; congr 1; exact z9a ih
 |agg xs hx ih=>simp only [z6r,z1s]; congr 1; exact z9a ih
 |clo fn fs cs h1 h2 ih1 ih2=>simp only [z6r,z1s]; rw [z9a ih1,z9a ih2]
theorem w0y {P:Program} {β:Type} {g:FuncId} {args:List AV}:∀ {Γ:List CF} (hG:GamOk P Γ) {t:(AV→Option β)→Option β} {k:AV→Option β} {b:β},x16 opt std Γ β g args=some t→t k=some b→
  ∃ r,z42 P g∧(∀ h,z2z P g args h r h)∧k r=some b:=by
 intro Γ
 induction Γ with
 |nil=>intro hG t k b h _; cases h
 |cons cf r ih=>
  intro hG t k b h ht
  simp only [x16] at h
  cases hb:Nat.beq cf.c.g g&&z95 args with
  |false=>rw [hb] at h; exact ih (fun c hc=>hG c (by simp [hc])) h ht
  |true=>
   rw [hb] at h; simp only [cond_true] at h
   simp only [eAb] at hb
   have:=eAc hb.1; subst this
   split at h
   ·rename_i σ cs x hf
    cases he:isE (x1h std cf.c (y4x cf.c.scs x)).2&&x7y cf.c.outs with
    |false=>rw [he] at h; exact ih (fun c hc=>hG c (by simp [hc])) h ht
    |true=>
    rw [he] at h
    have he:=(eAb _ _▸he:_∧_).1
    cases h
    obtain ⟨hc,ht⟩:=z07 ht
    obtain ⟨y,hy,ht⟩:=z5f ht
    obtain ⟨g1,g2⟩:=hG cf (by simp)
    obtain ⟨g3,g4⟩:=g2 x y hy
    cases hq:isE (z1r std cf.c.outs y).2.s.heap&&z73 (z1k (z1r std cf.c.outs y).2.s.env 0) with
    |false=>rw [hq] at ht; cases ht
    |true=>
     rw [hq] at ht
     simp only [eAb] at hq
     refine ⟨_,g1,fun h=>?_,ht⟩
     have hcs:=x2r (P:=P) (s:=⟨[],[],0⟩) (n:=0) hf hc (eAk _) g3 g4
     have hp:w56 P cf.c.g args (z1k (z1r std cf.c.outs y).2.s.env 0):=⟨fun ρ vs w cs a1 a2 a3=>by
      obtain ⟨ρ',v,w',fr,b1,b2,b3,b4,b5,b6,b7⟩:=hcs.run ρ vs #[] w cs ⟨a1,fun t=> .bot _,rfl,a2⟩ a3
      have e1:=w1g hq.1
      have e2:z1l (z16 σ ([]:List AO).length) [] 0 (z1r std cf.c.outs y).2.s.heap=[]:=by rw [e1]; rfl
      have hfree:=y2v _ hq.2
      refine ⟨ρ',v,w',fr,b1,b2,b3,?_,?_,?_,?_⟩
      ·have b4':z0i ρ' (z0c ρ' (z1l (z16 σ ([]:List AO).length) [] 0 (z1r std cf.c.outs y).2.s.heap)) w' (z6r (z16 σ ([]:List AO).length) (z1k (z1r std cf.c.outs y).2.s.env 0)) v:=b4
       rw [e2] at b4'
       have:z6r (z16 σ ([]:List AO).length) (z1k (z1r std cf.c.outs y).2.s.env 0)=z1k (z1r std cf.c.outs y).2.s.env 0:=w0w hfree
       rw [this] at b4'; exact b4'
      ·have:=b5.heap
       show z0a P ρ' [] w'
       have h3:z0a P ρ' (z1l (z16 σ ([]:List AO).length) [] 0 (z1r std cf.c.outs y).2.s.heap) w':=this
       rw [e2] at h3; exact h3
      ·have h3:Dom ρ' (z1l (z16 σ ([]:List AO).length) [] 0 (z1r std cf.c.outs y).2.s.heap):=b5.dom
       rw [e2] at h3; exact h3
      ·have h3:Ext (· <0) ρ [] w ρ' (z1l (z16 σ ([]:List AO).length) [] 0 (z1r std cf.c.outs y).2.s.heap) w':=b7
       rw [e2] at h3; exact h3⟩
     exact hp.at (z5a _ hb.2) (y2v _ hq.2) h
   ·exact ih (fun c hc=>hG c (by simp [hc])) h ht
structure LA where
 g:Nat
 pos:List Bool
 n:Nat
 ann:y82
structure JA where
 g:Nat
 pos:List Bool
 n:Nat
 outs:x6n
structure VA where
 g:Nat
 pos:List Bool
 st:ST
def w7t:List JA→Nat→List Bool→Nat→Option x6n
 |[],_,_,_=>none
 |a::l,g,pos,n=>bif Nat.beq a.g g&&Nat.beq a.n n&&y5i a.pos pos then some a.outs else w7t l g pos n
def w3c:List VA→Nat→List Bool→Option ST
 |[],_,_=>none
 |a::l,g,pos=>bif Nat.beq a.g g&&y5i a.pos pos then some a.st else w3c l g pos
def x36 (id:Nat):List AO→Bool
 |[]=>false
 | .arow es::l=>(es.any fun r=>r.any fun x=>match x with| .slice a _ _ _ _=>Nat.beq a id|_=>false)||x36 id l
 |_::l=>x36 id l
def w71 (n:Nat) (s:AS):AS:=
 ⟨y7e s.heap (fun id=>Nat.blt id n||!x36 id s.heap) s.env,z2t s.heap (fun id=>Nat.blt id n||!x36 id s.heap) 0 s.heap,s.nt⟩
theorem w10 (n:Nat) (s:AS):y0g n s (w71 n s):=
 y0g.view _ (fun id h=>by rw [eAq]; exact .inl (by simpa using h)) ⟨fun _=>rfl,fun id _ h=>by rw [z4p]; exact h⟩
structure Anns where
 Γ:List CF
 J:List JA
 V:List VA
def w89 (A:Alg) (p:Prim) (a:Anns):Orc A where
 call:=fun β _ _ _ _ g args ss=>x6l A p a.Γ β g args ss
 pure:=fun β _ _ _ g args _=>x16 A p a.Γ β g args
 loop:=fun _ _ _ _ _=>none
 join:=fun β n g pos body k=>match w7t a.J g pos n with
  |some os=>w4z A p n os β body k
  |none=>body β k
 view:=fun β n g pos ss k=>match w3c a.V g pos with
  |some st=>match x96 p n st ss.s with
   |some (cs,x)=>needs A β cs (k (y2j p st x))
   |none=>match x96 p n st (w71 n ss.s) with
    |some (cs,x)=>needs A β cs (k (y2j p st x))
    |none=>A.no β 96
  |none=>k ss
theorem x2b {P:Program} {a:Anns} (hG:GamOk P a.Γ):y2m P (w89 opt std a) where
 call:=fun β g0 pos ix n g args ss t k b h ht hn=>w2j hn hG h ht
 pure:=fun β g0 pos ix g args ss t k b h ht=>by
  obtain ⟨r,h1,h2,h3⟩:=w0y hG h ht
  exact ⟨r,h1,fun h _=>h2 h,h3⟩
 loop:=fun _ _ _ _ _ _ _ _ _ _ _ h=>by cases h
 join:=fun β n g pos body k b G hb h=>by
  simp only [w89] at h
  split at h
  ·exact w1c hb h
  ·obtain ⟨e,ss',hg,hk⟩:=hb β k b h
   exact ⟨e,ss',ss',hg,y0g.refl _ _,fun h=>h,hk⟩
 view:=fun β n g pos ss k b hn h=>by
  simp only [w89] at h
  split at h
  ·split at h
   ·rename_i cs x hx
    obtain ⟨hc,h⟩:=z07 h
    obtain ⟨v1,v2⟩:=y1o hx hc
    exact ⟨_,v1,v2,h⟩
   ·split at h
    ·rename_i cs x hx
     obtain ⟨hc,h⟩:=z07 h
     obtain ⟨v1,v2⟩:=y1o hx hc
     exact ⟨_,(w10 n ss.s).trans v1,v2,h⟩
    ·cases h
  ·exact ⟨ss,y0g.refl _ _,hn,h⟩
noncomputable def mkOrc (A : Alg) (p : Prim) (E : Env) (f : Nat) (a : Anns) : List LA → Orc A
  | [] => w89 A p a
  | l :: ls => { mkOrc A p E f a ls with
      loop := fun β n g pos ss => bif Nat.beq l.g g && (Nat.beq l.n n && (y5i l.pos pos && (x96 p n l.ann.head ss.s).isSome)) then match E.A g pos with
        | some (.loop c) => some (w4o A p (sym A p E (mkOrc A p E f a ls) f) n g pos c l.ann β ss)
        | _ => none
        else (mkOrc A p E f a ls).loop β n g pos ss }
theorem mkOrc_ok {P : Program} {E : Env} (hE : EnvOk P E) {f : Nat} {a : Anns} (hG : GamOk P a.Γ) : ∀ ls, y2m P (mkOrc opt std E f a ls)
  | [] => x2b hG
  | l :: ls => by
    have ih := mkOrc_ok hE (f := f) hG ls
    exact { call := ih.call, pure := ih.pure, join := ih.join, view := ih.view
            loop := fun β n g pos c ss t k b hcd hn h ht => by
              simp only [mkOrc] at h
              cases hb : Nat.beq l.g g && (Nat.beq l.n n && (y5i l.pos pos && (x96 std n l.ann.head ss.s).isSome)) with
              | false => rw [hb] at h; exact ih.loop _ _ _ _ _ _ _ _ _ hcd hn h ht
              | true =>
                rw [hb] at h
                simp only [cond_true] at h
                split at h
                · rename_i c' hc'
                  cases h
                  have := hE.code _ _ _ hc'
                  rw [hcd] at this; cases this
                  exact w04 (x61 hE ih f) hcd hn ht
                · cases h }
theorem enters_auto {P:Program} {g:FuncId} {b:Option w20} (h:infoOf P g=b) (hb:b.isSome=true):z42 P g:=by
 cases b with
 |none=>cases hb
 |some i=>obtain ⟨_,_,_,_,_,e⟩:=y4d h; exact e
end Go.Am
end
section
namespace Go.Am.D12
structure Cd where
 n:Int
 k:Int
 t:List Int
 a:Int
 deriving DecidableEq,Inhabited
def tch (c d:Cd):Bool:=c.t.any fun x=>d.t.contains x
theorem w32 {c d:Cd}:tch c d=true↔∃ x,x∈c.t∧x∈d.t:=by
 simp [tch]
def v2h:List Cd→Option Cd
 |[]=>none
 |c::l=>match v2h l with
  |none=>some c
  |some d=>if d.n<c.n then some d else some c
def Inj (l:List Cd):Prop:=∀ x∈l,∀ y∈l,x.n=y.n→x=y
theorem Inj.sub {l m:List Cd} (h:Inj l) (hs:∀ x∈m,x∈l):Inj m:=fun x hx y hy e=>h x (hs x hx) y (hs y hy) e
section
variable (R:Cd→Cd→Bool)
def w7p (rem:List Cd) (c:Cd):Bool:=rem.all fun d=>!R d c
def best (rem:List Cd):Option Cd:=v2h (rem.filter (w7p R rem))
def rm (c:Cd) (l:List Cd):List Cd:=l.filter fun d=>!decide (d=c)
def lst:Nat→List Cd→List Cd
 |0,_=>[]
 |f+1,rem=>match best R rem with
  |none=>[]
  |some c=>c::lst f (rm c rem)
def Lin (l:List Cd):Prop:=l.Pairwise (fun x y=>R y x=false)∧∀ x∈l,R x x=false
theorem Lin.filter {R:Cd→Cd→Bool} {l:List Cd} (h:Lin R l) (p:Cd→Bool):Lin R (l.filter p):=
 ⟨h.1.filter p,fun x hx=>h.2 x (List.mem_filter.1 hx).1⟩
end
end Go.Am.D12
end
section
namespace Go.Am.D12
def ord (l:List Cd) (x y:Cd):Bool:=tch x y&&decide (l.idxOf x<l.idxOf y)
theorem x2a {l:List Cd} {x y:Cd}:ord l x y=true↔tch x y=true∧l.idxOf x<l.idxOf y:=by simp [ord]
theorem x7h {P:Cd→Cd→Prop} {l:List Cd} (hn:l.Nodup) (h:∀ x∈l,∀ y∈l,l.idxOf x<l.idxOf y→P x y):l.Pairwise P:=by
 rw [eCa]
 intro i j hi hj hij
 refine h _ (eCp _) _ (eCp _) ?_
 rw [hn.idxOf_getElem,hn.idxOf_getElem]; exact hij
def Eqv (a b:List Cd):Prop:=a.Perm b∧∀ x∈a,∀ y∈a,ord a x y=ord b x y
theorem Eqv.refl (a:List Cd):Eqv a a:=⟨.refl a,fun _ _ _ _=>rfl⟩
theorem Eqv.symm {a b:List Cd} (h:Eqv a b):Eqv b a:=⟨h.1.symm,fun x hx y hy=>(h.2 x (h.1.mem_iff.2 hx) y (h.1.mem_iff.2 hy)).symm⟩
theorem Eqv.trans {a b c:List Cd} (h:Eqv a b) (k:Eqv b c):Eqv a c:=⟨h.1.trans k.1,fun x hx y hy=>(h.2 x hx y hy).trans (k.2 x (h.1.mem_iff.1 hx) y (h.1.mem_iff.1 hy))⟩
theorem x7q {l:List Cd} {x y:Cd} (h:ord l x y=true):ord l y x=false:=by
 have:=(x2a.1 h).2
 have:¬ l.idxOf y<l.idxOf x:=by omega
 simp [ord,this]
def on (x:Int) (l:List Cd):List Cd:=l.filter fun c=>c.t.contains x
theorem x3y {x:Int} {l:List Cd} {c:Cd}:c∈on x l↔c∈l∧x∈c.t:=by simp [on]
theorem w23 {x:Int} {l m:List Cd} {c d:Cd} (hc:c∈on x l) (hd:d∈on x m):tch c d=true:=w32.2 ⟨x,(x3y.1 hc).2,(x3y.1 hd).2⟩
theorem y9z {P:Cd→Cd→Prop} (hP:∀ x y,P x y→¬ P y x):∀ {l m:List Cd},l.Perm m→l.Pairwise P→m.Pairwise P→l=m
 |[],m,h,_,_=>by rw [List.nil_perm.1 h]
 |x::l,m,h,h1,h2=>by
  cases m with
  |nil=>exact absurd h.length_eq (by simp)
  |cons y m=>
   have hxy:x=y:=by
    have hx:x∈y::m:=h.mem_iff.1 eBq
    have hy:y∈x::l:=h.mem_iff.2 eBq
    rcases eAz.1 hx with e|hx
    ·exact e
    ·rcases eAz.1 hy with e|hy
     ·exact e.symm
     ·exact absurd ((eBl.1 h1).1 y hy) (hP _ _ ((eBl.1 h2).1 x hx))
   subst hxy
   rw [y9z hP (List.perm_cons _|>.1 h) (eBl.1 h1).2 (eBl.1 h2).2]
theorem w29 {l:List Cd} (hn:l.Nodup):l.Pairwise fun x y=>l.idxOf x<l.idxOf y:=x7h hn fun _ _ _ _ h=>h
theorem Eqv.on {a b:List Cd} (h:Eqv a b) (hn:a.Nodup) (x:Int):on x a=on x b:=by
 have hb:b.Nodup:=h.1.nodup_iff.1 hn
 have hp:(D12.on x a).Perm (D12.on x b):=h.1.filter _
 refine y9z (P:=fun c d=>ord a c d=true) (fun c d h1 h2=>by rw [x7q h1] at h2; cases h2) hp ?_ ?_
 ·refine ((w29 hn).filter _).imp_of_mem ?_
  intro c d hc hd hlt
  exact x2a.2 ⟨w23 hc hd,hlt⟩
 ·refine ((w29 hb).filter _).imp_of_mem ?_
  intro c d hc hd hlt
  have hc':=(x3y.1 hc).1
  have hd':=(x3y.1 hd).1
  rw [h.2 c (h.1.mem_iff.2 hc') d (h.1.mem_iff.2 hd')]
  exact x2a.2 ⟨w23 hc hd,hlt⟩
end Go.Am.D12
end
section
namespace Go.Am.D12
def z3a (k:Int):Nat:=if k=1∨k=2∨k=5 then 1 else if k=3∨k=4 then 2 else if k=6 then 3 else 0
def w1p (k a:Int):Prop:=(k=1∧1≤a∧a≤1000000)∨(k=2∧1≤a∧a≤10000)∨(k=3∧1≤a∧a≤100000)∨(k=6∧0≤a∧a≤1000000)∨((k=4∨k=5)∧a=0)
instance v1i (k a:Int):Decidable (w1p k a):=by unfold w1p; infer_instance
def z6x (x:Int):Prop:=1≤x∧x≤1099511627776
instance w9e (x:Int):Decidable (z6x x):=by unfold z6x; infer_instance
def z3d (c:Cd):Int:=
 if ¬ z6x c.n∨z3a c.k=0 then 2
 else if c.t.length≠z3a c.k then 6
 else if ∃ x∈c.t,¬ z6x x then 3
 else if ¬ c.t.Nodup then 16
 else if ¬ w1p c.k c.a then 2 else 0
def z4y (l:List Cd):Int:=
 if 60<l.length then 6
 else match l.find? fun c=>!decide (z3d c=0) with
  |some c=>z3d c
  |none=>if (l.map (·.n)).Nodup then 0 else 11
structure Th where
 num:Int
 val:Int
 hrs:Int
 out:Bool
 deriving DecidableEq,Inhabited
def upd (b:List Th) (x:Int) (f:Th→Th):List Th:=b.map fun t=>if t.num=x then f t else t
def x0 (c:Cd):Int:=c.t.getD 0 0
def x1 (c:Cd):Int:=c.t.getD 1 0
def x2 (c:Cd):Int:=c.t.getD 2 0
abbrev Sf:=Int→Option Th
def w6m (s:Sf) (x:Int):Int:=match s x with
 |none=>5
 |some t=>if t.out then 9 else 0
def x2h (s:Sf):List Int→Int
 |[]=>0
 |x::l=>if w6m s x=0 then x2h s l else w6m s x
def needs (c:Cd):List Int:=if c.k=3∨c.k=6 then c.t else c.t.take 1
def x92 (s:Sf) (x:Int):Int:=((s x).map (·.val)).getD 0
def hrsS (s:Sf) (x:Int):Int:=((s x).map (·.hrs)).getD 0
def errC (s:Sf) (c:Cd):Int:=
 if c.k=1 then (if (s (x0 c)).isSome then 11 else 0)
 else if x2h s (needs c)≠0 then x2h s (needs c)
 else if c.k=2 then (if 10000<hrsS s (x0 c)+c.a then 4 else 0)
 else if c.k=3 then (if (x92 s (x1 c)*c.a).tdiv 1000<1∨1000000<(x92 s (x1 c)*c.a).tdiv 1000 then 4 else 0)
 else if c.k=4 then (if (s (x1 c)).isSome then 11 else 0)
 else if c.k=5 then 0
 else if c.a<x92 s (x0 c)+x92 s (x1 c) - x92 s (x2 c)∨c.a< -(x92 s (x0 c)+x92 s (x1 c) - x92 s (x2 c)) then 23 else 0
def v17 (s:Sf) (c:Cd) (t:Th):Th:=
 if c.k=2 then { t with hrs:=t.hrs+c.a }
 else if c.k=3 then { t with val:=(x92 s (x1 c)*c.a).tdiv 1000 }
 else if c.k=4∨c.k=5 then { t with out:=true }
 else t
def after (s:Sf) (c:Cd):Sf:=
 if errC s c≠0 then s
 else if c.k=1 then fun y=>if y=x0 c then some ⟨x0 c,c.a,0,false⟩ else s y
 else if c.k=4 then fun y=>if y=x1 c then some ⟨x1 c,x92 s (x0 c),0,false⟩ else if y=x0 c then (s y).map (v17 s c) else s y
 else fun y=>if y=x0 c then (s y).map (v17 s c) else s y
def st (l:List Cd):Sf:=l.foldl after fun _=>none
theorem y35 {k:Int} (h:z3a k≠0):((k=1∨k=2∨k=5)∧z3a k=1)∨((k=3∨k=4)∧z3a k=2)∨(k=6∧z3a k=3):=by
 unfold z3a at h⊢
 split
 ·rename_i h1; exact .inl ⟨h1,rfl⟩
 ·rename_i h1
  split
  ·rename_i h2; exact .inr (.inl ⟨h2,rfl⟩)
  ·rename_i h2
   split
   ·rename_i h3; exact .inr (.inr ⟨h3,rfl⟩)
   ·rename_i h3; rw [if_neg h1,if_neg h2,if_neg h3] at h; exact absurd rfl h
end Go.Am.D12
end
section
namespace Go.Am.D12
def w47 (x:Int):List Int→List Int
 |[]=>[x]
 |y::l=>if x≤y then x::y::l else y::w47 x l
def srt:List Int→List Int
 |[]=>[]
 |x::l=>w47 x (srt l)
theorem x0c (x:Int) (l:List Int):(w47 x l).Perm (x::l):=by
 induction l with
 |nil=>exact .refl _
 |cons y l ih=>
  simp only [w47]
  split
  ·exact .refl _
  ·exact (List.Perm.cons y ih).trans (List.Perm.swap x y l)
theorem srt_perm (l:List Int):(srt l).Perm l:=by
 induction l with
 |nil=>exact .refl _
 |cons x l ih=>exact (x0c x _).trans (List.Perm.cons x ih)
theorem x2o {x:Int} {l:List Int} (h:l.Pairwise (· ≤ ·)):(w47 x l).Pairwise (· ≤ ·):=by
 induction l with
 |nil=>simp [w47]
 |cons y l ih=>
  obtain ⟨h1,h2⟩:=eBl.1 h
  simp only [w47]
  split
  ·rename_i hxy
   refine eBl.2 ⟨fun z hz=>?_,h⟩
   rcases eAz.1 hz with rfl|hz
   ·exact hxy
   ·exact Int.le_trans hxy (h1 z hz)
  ·rename_i hxy
   refine eBl.2 ⟨fun z hz=>?_,ih h2⟩
   rcases eAz.1 ((x0c x l).mem_iff.1 hz) with rfl|hz
   ·omega
   ·exact h1 z hz
theorem z87 (l:List Int):(srt l).Pairwise (· ≤ ·):=by
 induction l with
 |nil=>exact .nil
 |cons x l ih=>exact x2o ih
theorem z9x:∀ {l m:List Int},l.Perm m→l.Pairwise (· ≤ ·)→m.Pairwise (· ≤ ·)→l=m
 |[],m,h,_,_=>by rw [List.nil_perm.1 h]
 |x::l,m,h,h1,h2=>by
  cases m with
  |nil=>exact absurd h.length_eq (by simp)
  |cons y m=>
   have hxy:x=y:=by
    have hx:x∈y::m:=h.mem_iff.1 eBq
    have hy:y∈x::l:=h.mem_iff.2 eBq
    have a:y≤x:=by
     rcases eAz.1 hx with e|hx
     ·omega
     ·exact (eBl.1 h2).1 x hx
    have b:x≤y:=by
     rcases eAz.1 hy with e|hy
     ·omega
     ·exact (eBl.1 h1).1 y hy
    omega
   subst hxy
   rw [z9x (List.perm_cons _|>.1 h) (eBl.1 h1).2 (eBl.1 h2).2]
theorem x69 {l m:List Int} (h:l.Perm m):srt l=srt m:=z9x ((srt_perm l).trans (h.trans (srt_perm m).symm)) (z87 l) (z87 m)
theorem srt_of {l m:List Int} (h:l.Perm m) (hs:l.Pairwise (· ≤ ·)):l=srt m:=z9x (h.trans (srt_perm m).symm) hs (z87 m)
end Go.Am.D12
end
section
namespace Go.Am
open Go.Sort
variable {P:Program}
def z1u (l:List Int):List (List D):=l.map fun n=>[.int .i64 n]
def y8b:List (List D)→Option (List Int)
 |[]=>some []
 |[.int .i64 n]::l=>match y8b l with
  |some r=>some (n::r)
  |none=>none
 |_=>none
theorem y2r:∀ {es:List (List D)} {xs:List Int},y8b es=some xs→es=z1u xs
 |[],xs,h=>by cases h; rfl
 |r::l,xs,h=>by
  unfold y8b at h
  split at h
  ·rename_i heq; cases heq
  ·rename_i s l' heq
   cases heq
   split at h
   ·rename_i r' hr
    cases h
    rw [y2r hr]; rfl
   ·cases h
  ·cases h
theorem x5s (l:List Int):y8b (z1u l)=some l:=by
 induction l with
 |nil=>rfl
 |cons x l ih=>simp only [z1u,List.map_cons,y8b] at ih⊢; rw [ih]
theorem y8e (l:List Int):l.mergeSort (fun x y=>decide (x≤y))=D12.srt l:=by
 refine D12.srt_of (List.mergeSort_perm _ _) ?_
 have:=List.pairwise_mergeSort (le:=fun x y:Int=>decide (x≤y)) (fun a b c h1 h2=>by simp only [decide_eq_true_eq] at*; exact Int.le_trans h1 h2) (fun a b=>by simp only [eAq,decide_eq_true_eq]; exact Int.le_total a b) l
 exact this.imp fun h=>by simpa using h
theorem x5i (l:List Int):(D12.srt l).length=l.length:=(D12.srt_perm l).length_eq
theorem y9w {l:List Int} {i:Nat} {r:List D} (h:(z1u l)[i]?=some r):∃ n,l[i]?=some n∧r=[.int .i64 n]:=by
 unfold z1u at h
 rw [eAg] at h
 obtain ⟨x,hx,rfl⟩:=eAw.1 h
 exact ⟨x,hx,rfl⟩
theorem x5j {f:FuncId}
  (hS:∀ (blk off cap:Nat) (zs:List Int) (w:World),Go.Sort.Holds (Value.int .i64) w blk off zs.toArray→blk<w.heap.size→zs.length<4611686018427387904→
   Calls P f #[.slice (some ⟨blk,off,none⟩) zs.length cap] w fun e w'=>e= .returned (.tuple #[])∧∃ n os,w'=grow (putRow (Value.int .i64) (Sort.ahead w n) blk off (zs.mergeSort fun x y=>decide (x≤y)).toArray) os)
  (hN:∀ (p:Option Addr) (cap:Nat) (w:World),Calls P f #[.slice p 0 cap] w fun e w'=>e= .returned (.tuple #[])∧w'=w)
  {zs:List Int} (hsz:zs.length<4611686018427387904) (cap:Option Nat):
  z2z P f [.slice 0 1 0 zs.length cap] [.row (z1u zs)] (.tuple []) [.row (z1u (D12.srt zs))]:=⟨by
 intro ρ vs w cs hr hdm har
 obtain ⟨hv1,hv2⟩:=har
 have hs1:vs.size=1:=hv1
 have hvsv:vs=#[vs.getD 0 undef]:=by
  apply Array.ext (by simpa using hs1)
  intro i h1 h2
  match i,h1,h2 with
  |0,h1,h2=>simp [eAh,eAm h1]
  |i+1,h1,h2=>simp at h2
 by_cases h0:zs.length=0
 ·have hz:zs=[]:=eBn.1 h0
  subst hz
  obtain ⟨p,cp,hvs0⟩:∃ p cp,vs.getD 0 undef= .slice p 0 cp:=by
   have hv:=hv2 0 _ rfl
   generalize hq:vs.getD 0 undef=q at hv
   have key:∀ z,z=0→z0i ρ (z0c ρ [.row (z1u [])]) w (.slice 0 1 0 z cap) q→∃ p cp,q= .slice p 0 cp:=by
    intro z hz hv
    cases hv with
    |slice _ _ _ _ _ L a c h1 h2 h3 h4 h5=>subst hz; exact ⟨_,_,rfl⟩
    |nils _ _ _ _ a _=>exact ⟨_,_,rfl⟩
   exact key _ rfl hv
  rw [hvs0] at hvsv
  rw [hvsv]
  obtain ⟨e,w',fr,⟨rfl,rfl⟩,hcm,hfn,hlv⟩:=hN p cp w cs
  exact ⟨ρ, .tuple #[],_,fr,hcm,hfn,hlv, .tuple [] #[] rfl (fun i x hx=>by simp at hx),hr,fun id hid=>hdm id hid,Ext.refl _ _ _ _⟩
 obtain ⟨L,cp,hL,hz,hvs0⟩:∃ L cp,ρ 0=some L∧L.esz=1∧vs.getD 0 undef= .slice (some ⟨L.blk,L.base,none⟩) zs.length cp:=by
  have hv:=hv2 0 _ rfl
  generalize hq:vs.getD 0 undef=q at hv
  have key:∀ z,z=zs.length→z0i ρ (z0c ρ [.row (z1u zs)]) w (.slice 0 1 0 z cap) q→∃ L cp,ρ 0=some L∧L.esz=1∧q= .slice (some ⟨L.blk,L.base,none⟩) zs.length cp:=by
   intro z hz hv
   cases hv with
   |slice _ _ _ _ _ L a c h1 h2 h3 h4 h5=>
    subst hz
    refine ⟨L,c,h1,h2,?_⟩
    rw [h3 (by omega)]; simp
   |nils _ _ _ _ a _=>omega
  exact key _ rfl hv
 rw [hvs0] at hvsv
 rw [hvsv]
 have hlive:(z0e [AO.row (z1u zs)] 0).live=true:=rfl
 obtain ⟨hlt,ho⟩:=hr.obj 0 L hL
 obtain ⟨hpos,c,t,hcb,hlen,hcell⟩:=(show z0u P ρ _ w L (.row (z1u zs)) from ho)
 rw [hz] at hlen hcell
 have hcell':∀ i,i<zs.length→c[L.base+i]?=some (.int .i64 zs[i]!):=by
  intro i hi
  have hri:(z1u zs)[i]?=some [.int .i64 zs[i]!]:=by
   unfold z1u
   rw [eAg,eAa hi,getElem!_pos zs i hi]; rfl
  obtain ⟨v,hv,_,hrel⟩:=hcell i _ 0 (.int .i64 zs[i]!) hri rfl
  rw [eBx,eAt] at hv
  rw [hv]
  cases hrel; rfl
 have hH:Go.Sort.Holds (Value.int .i64) w L.blk L.base zs.toArray:=by
  intro q hq
  have hq:q<zs.length:=by simpa using hq
  refine ⟨?_,?_⟩
  ·unfold World.cell?
   simp only [hcb]
   have:=hcell' q hq
   simpa [getElem!_pos,hq] using this
  ·unfold World.frozen?
   simp only [hcb]
   simp
 obtain ⟨e,w',fr,⟨rfl,n,os,hw'⟩,hcm,hfn,hlv⟩:=hS L.blk L.base cp zs w hH hlt hsz cs
 rw [y8e] at hw'
 generalize hdk:D12.srt zs=dk at hw'⊢
 have hdks:dk.length=zs.length:=by rw [←hdk,x5i]
 have hr1:=hr.drawn (w.drawn+n) (trivial)
 have hx1:Ext (fun id=>True) ρ [.row (z1u zs)] w ρ [.row (z1u zs)] { w with drawn:=w.drawn+n }:=Ext.drawn _ _ _ _ _ (trivial)
 let c':=putCells (Value.int .i64) L.base dk.toArray c
 have hput:putRow (Value.int .i64) (Sort.ahead w n) L.blk L.base dk.toArray=World.setObj { w with drawn:=w.drawn+n } L.blk (.cells c' t (0,0)):=by
  unfold putRow mapBlock World.setObj Sort.ahead
  congr 1
  apply Array.ext_getElem?
  intro b
  simp only [eBr,eBs]
  by_cases hb:L.blk=b
  ·subst hb
   simp only [if_true,hlt,hcb,eBh,onCells]
   rfl
  ·simp [hb]
 have hc's:c'.size=c.size:=by simp [c',putCells]
 have hbs:∀ k,z0t { w with drawn:=w.drawn+n } L.blk=some k→z0t (World.setObj { w with drawn:=w.drawn+n } L.blk (.cells c' t (0,0))) L.blk=some k:=by
  intro k hk
  rw [z0n (w:={ w with drawn:=w.drawn+n }) hcb] at hk; cases hk
  rw [z0n (z0l { w with drawn:=w.drawn+n } L.blk _ hlt)]
  rw [hc's]
 have hc'get:∀ i,i<zs.length→c'[L.base+i]?=some (.int .i64 dk[i]!):=by
  intro i hi
  have h1:=hcell' i hi
  have hq:L.base+i<c.size:=(eAe.1 h1).1
  simp only [c',putCells]
  rw [Array.getElem?_mapIdx,h1]
  simp only [eBh,List.size_toArray,hdks]
  rw [if_pos (by omega)]
  have e:L.base+i - L.base=i:=by omega
  rw [e]
  have hi':i<dk.length:=by omega
  simp [getElem!_pos,hi']
 have hset:=hr1.set hL hlive (.row (z1u dk)) rfl (.cells c' t (0,0)) hbs (by
  refine ⟨hpos,c',t,z0l _ _ _ hlt,fun i r hi=>?_,fun i r j y hi hy=>?_⟩
  ·rw [hz]
   obtain ⟨x,_,rfl⟩:=y9w hi
   rfl
  ·rw [hz]
   obtain ⟨x,hx,rfl⟩:=y9w hi
   have hil:=(eAd.1 hx).1
   have hxe:dk[i]! =x:=by rw [getElem!_pos dk i hil]; exact (eAd.1 hx).2
   match j,hy with
   |0,hy=>
    cases hy
    refine ⟨.int .i64 x,?_,rfl, .int _ _⟩
    rw [eBx,eAt,hc'get i (by omega),hxe]
   |j+1,hy=>simp at hy)
 have hext:=Ext.set (fun _=>True) hr1 hL hlive (.row (z1u dk)) rfl (.cells c' t (0,0)) hbs
 have hw2:w'=grow (World.setObj { w with drawn:=w.drawn+n } L.blk (.cells c' t (0,0))) os:=by rw [hw']; rw [hput]
 generalize hwx:World.setObj { w with drawn:=w.drawn+n } L.blk (.cells c' t (0,0))=wx at hset hext hw2
 have hold:∀ b,b<wx.heap.size→(grow wx os).heap[b]?=wx.heap[b]?:=by
  intro b hb
  show (wx.heap++os)[b]?=_
  rw [Array.getElem?_append_left hb]
 have hkg:z3s (z0c ρ (z0x [.row (z1u zs)] 0 (.row (z1u dk)))) (z0c ρ (z0x [.row (z1u zs)] 0 (.row (z1u dk)))) wx (grow wx os):=
  ⟨by show _≤(wx.heap++os).size; simp,fun b hb _=>hold b hb,fun _ _ h=>h,fun b k hb=>by
   have:=z6c hb
   unfold z0t; rw [hold b this]; exact hb,z0m.refl _⟩
 have hr3:z0a P ρ [.row (z1u dk)] (grow wx os):=hset.of_keep hkg fun b hb=>hold b (z50 hset hb)
 have hx3:Ext (fun _=>True) ρ (z0x [.row (z1u zs)] 0 (.row (z1u dk))) wx ρ [.row (z1u dk)] (grow wx os):=
  ⟨rfl,rfl,rfl,hkg,fun _ _=>rfl,rfl,fun b hb=>hold b (hset.fr b hb)⟩
 subst hw2
 exact ⟨ρ, .tuple #[],_,fr,hcm,hfn,hlv, .tuple [] #[] rfl (fun i x hx=>by simp at hx),hr3,fun id hid=>hdm id hid,((hx1.trans hext).trans hx3).mono fun _ _=>trivial⟩⟩
end Go.Am
end
section
namespace Go.Am
theorem y1l {β:Type} (c:Bool) (x:Option β):opt.need β c x=if c=true then x else none:=by cases c<;>rfl
theorem y68 {β:Type} (c:Bool) (x y:Option β):opt.ask β c x y=if c=true then x else y:=by cases c<;>rfl
theorem y50 {β:Type} (x:β):opt.ret β x=some x:=rfl
theorem w4h {β:Type} (n:Nat):opt.no β n=none:=rfl
theorem y63 {α β:Type} (x:Option α) (f:α→Option β):opt.bnd α β x f=x.bind f:=rfl
theorem y5z {β:Type} (x:Option β):opt.run β x=x:=rfl
theorem x46 {α β γ:Type} (x:Option (α⊕β)) (f:α→Option γ) (g:β→Option γ):opt.alt α β γ x f g=x.bind (Sum.elim f g):=by
 cases x with
 |none=>rfl
 |some y=>cases y<;>rfl
section
variable (es l:List (List D)) (i j a b n:Nat) (x y:Int) (c d:Bool)
theorem y7s:std.len es=es.length:=rfl
theorem y0o:std.ofNat n=(n:Int):=rfl
theorem y7r:std.nat x=x.toNat:=rfl
theorem y7x:std.add a b=a+b:=rfl
theorem y3j:std.leN a b=decide (a≤b):=by
 show Nat.ble a b=_
 rw [eCu]; simp
theorem y7t:std.eqN a b=decide (a=b):=by
 show Nat.beq a b=_
 rw [eCu]; simp
theorem y7w:std.and c d=(c&&d):=rfl
theorem y7v:std.app es l=es++l:=rfl
theorem y7u:std.cut es a n=(es.drop a).take n:=rfl
theorem x1w:std.rdI es i j=dI (rdD es i j):=rfl
theorem x63:std.rdL es i j=dL (rdD es i j):=rfl
theorem x64:std.cmp .neq x y=!decide (x=y):=rfl
theorem x1x:std.cmp .lss x y=decide (x<y):=rfl
theorem x1y:std.cmp .geq x y=decide (x≥y):=rfl
theorem w0m:std.mm .lss x y=min x y:=by
 show (if y<x then y else x)=_
 omega
theorem w0n:std.mm .gtr x y=max x y:=by
 show (if y>x then y else x)=_
 omega
theorem y3i (ck:List CK):std.rowOk es i ck=match es[i]? with|some r=>z3k ck r|none=>false:=rfl
theorem x43 {α:Type} (u v:α):(bif c then u else v)=if c=true then u else v:=by cases c<;>rfl
theorem w21 (h1: -9223372036854775808≤x) (h2:x≤9223372036854775807):IntKind.i64.wrap x=x:=by
 have e:IntKind.i64.wrap x=if x % 18446744073709551616≥9223372036854775808 then x % 18446744073709551616 - 18446744073709551616 else x % 18446744073709551616:=by
  unfold IntKind.wrap
  simp [IntKind.signed,IntKind.bits]
 rw [e]
 split<;>omega
theorem z86:std.ar .add .i64 x y=IntKind.i64.wrap (x+y):=rfl
theorem z84:std.ar .sub .i64 x y=IntKind.i64.wrap (x - y):=rfl
end
end Go.Am
namespace Go.Am
theorem w41 {S R σ:Type} {b:S→Option (S⊕R)} (e:σ→S) (I:σ→Prop) (μ:σ→Nat) (Q:R→Prop)
  (step:∀ s,I s→(∃ s',b (e s)=some (.inl (e s'))∧I s'∧μ s'<μ s)∨(∃ r,b (e s)=some (.inr r)∧Q r)):∀ s,I s→∃ r,z5r b (e s)=some r∧Q r:=by
 have:∀ m s,μ s=m→I s→∃ r,z5r b (e s)=some r∧Q r:=by
  intro m
  induction m using Nat.strongRecOn with
  |_ m ih=>
   intro s hm hi
   rcases step s hi with ⟨s',h1,h2,h3⟩|⟨r,h1,h2⟩
   ·obtain ⟨r,a,b⟩:=ih (μ s') (hm▸h3) s' rfl h2
    exact ⟨r,by rw [z7m,h1]; exact a,b⟩
   ·exact ⟨r,by rw [z7m,h1],h2⟩
 exact fun s hi=>this _ s rfl hi
theorem y6h {S R τ:Type} {b:S→Option (S⊕R)} (n:Nat) (e:τ→Nat→S) (I:τ→Nat→Prop) (Q:R→Prop)
  (step:∀ t i,i<n→I t i→(∃ t',b (e t i)=some (.inl (e t' (i+1)))∧I t' (i+1))∨(∃ r,b (e t i)=some (.inr r)∧Q r))
  (stop:∀ t,I t n→∃ r,b (e t n)=some (.inr r)∧Q r) (t:τ) (i:Nat) (hi:i≤n) (h:I t i):∃ r,z5r b (e t i)=some r∧Q r:=by
 refine w41 (σ:=τ×Nat) (fun s=>e s.1 s.2) (fun s=>s.2≤n∧I s.1 s.2) (fun s=>n - s.2) Q ?_ (t,i) ⟨hi,h⟩
 rintro ⟨t,i⟩ ⟨hi,h⟩
 simp only at hi h⊢
 rcases eBw i n with hlt|hge
 ·rcases step t i hlt h with ⟨t',a,b⟩|⟨r,a,b⟩
  ·exact .inl ⟨(t',i+1),a,⟨hlt,b⟩,by simp only; omega⟩
  ·exact .inr ⟨r,a,b⟩
 ·have:i=n:=by omega
  subst this
  exact .inr (stop t h)
theorem z1v {α:Type} {l:List α} {i:Nat} (h:i<l.length):∃ m,l[i]?=some m:=⟨_,eAa h⟩
theorem w0a {i:Nat} (h:i<9223372036854775807):IntKind.i64.wrap ((i:Int)+1)=((i+1:Nat):Int):=by
 rw [w21]<;>omega
end Go.Am
end
section
namespace Go.Am
theorem z4b:(∀ {α:Type} (a:α),(a=a)=True)∧((¬ True)=False)∧((¬ False)=True)∧(∀ h:Decidable True,@decide True h=true)∧(∀ h:Decidable False,@decide False h=false)∧((!true)=false)∧((!false)=true)∧
  (∀ {α:Type} (a b:α),(bif true then a else b)=a)∧(∀ {α:Type} (a b:α),(bif false then a else b)=b)∧(∀ a b:Int,(a≥b)=(b≤a))∧(∀ a b:Int,(a>b)=(b<a))∧(∀ x y:Int,std.ar .add .i64 x y=IntKind.i64.wrap (x+y)):=
 ⟨by simp,by simp,by simp,by simp,by simp,rfl,rfl,by simp,by simp,fun _ _=>rfl,fun _ _=>rfl,fun _ _=>rfl⟩
theorem z2d:(∀ {β:Type} (c:Bool) (x:Option β),opt.need β c x=if c=true then x else none)∧(∀ {β:Type} (c:Bool) (x y:Option β),opt.ask β c x y=if c=true then x else y)∧
    (∀ {β:Type} (x:β),opt.ret β x=some x)∧(∀ {β:Type} (n:Nat),opt.no β n=none)∧(∀ {α β:Type} (x:Option α) (f:α→Option β),opt.bnd α β x f=x.bind f)∧(∀ {β:Type} (x:Option β),opt.run β x=x)∧
    (∀ {α β γ:Type} (x:Option (α⊕β)) (f:α→Option γ) (g:β→Option γ),opt.alt α β γ x f g=x.bind (Sum.elim f g))∧
    (∀ es,std.len es=es.length)∧(∀ n,std.ofNat n=(n:Int))∧(∀ x,std.nat x=x.toNat)∧(∀ a b,std.add a b=a+b)∧(∀ a b,std.leN a b=decide (a≤b))∧(∀ a b,std.eqN a b=decide (a=b))∧
    (∀ c d,std.and c d=(c&&d))∧(∀ es l,std.app es l=es++l)∧(∀ es a n,std.cut es a n=(es.drop a).take n)∧
    (∀ x y,std.cmp .lss x y=decide (x<y))∧(∀ x y,std.cmp .leq x y=decide (x≤y))∧(∀ x y,std.cmp .gtr x y=decide (x>y))∧(∀ x y,std.cmp .geq x y=decide (x≥y))∧(∀ x y,std.cmp .eql x y=decide (x=y))∧(∀ x y,std.cmp .neq x y=!decide (x=y))∧
    (∀ es i j,std.rdI es i j=dI (((es[i]?).bind (fun r=>r[j]?)).getD .nilp))∧(∀ es i j,std.rdL es i j=dL (((es[i]?).bind (fun r=>r[j]?)).getD .nilp))∧
    (∀ es i ck,std.rowOk es i ck=match es[i]? with|some r=>z3k ck r|none=>false)∧(∀ k x,std.cvt k x=k.wrap x)∧(∀ a b,std.sub a b=a - b)∧(∀ a b,std.mul a b=a*b)∧(∀ a b,std.min a b=min a b)∧
    (∀ x y,std.mm .lss x y=min x y)∧(∀ x y,std.mm .gtr x y=max x y)∧(∀ n r,std.rep n r=List.replicate n r)∧(∀ es i r,std.set es i r=es.set i r)∧(∀ es i l,std.splice es i l=es.take i++l++es.drop (i+l.length))∧
    (∀ n,Int.ofNat n=(n:Int))∧(∀ {α:Type} (c:Bool) (u v:α),(bif c then u else v)=if c=true then u else v)∧(∀ es i j,rdD es i j=((es[i]?).bind (fun r=>r[j]?)).getD .nilp):=
  ⟨y1l,y68,y50,w4h,y63,y5z,x46,fun _=>rfl,fun _=>rfl,fun _=>rfl,fun _ _=>rfl,y3j,y7t,fun _ _=>rfl,fun _ _=>rfl,fun _ _ _=>rfl,
   fun _ _=>rfl,fun _ _=>rfl,fun _ _=>rfl,fun _ _=>rfl,fun _ _=>rfl,fun _ _=>rfl,fun _ _ _=>rfl,fun _ _ _=>rfl,fun _ _ _=>rfl,fun _ _=>rfl,fun _ _=>rfl,fun _ _=>rfl,fun _ _=>rfl,
   w0m,w0n,fun _ _=>rfl,fun _ _ _=>rfl,fun _ _ _=>rfl,fun _=>rfl,fun c u v=>x43 c u v,fun _ _ _=>rfl⟩
theorem z2e:(∀ {α β:Type} (f:α→β) (l:List α) (i:Nat),(l.map f)[i]?=Option.map f l[i]?)∧(∀ {α β:Type} (x:α) (f:α→β),Option.map f (some x)=some (f x))∧(∀ {α β:Type} (x:α) (f:α→Option β),(some x).bind f=f x)∧
  (∀ {α β:Type} (f:α→Option β),(none:Option α).bind f=none)∧(∀ {α:Type} (a b:α),(some a).getD b=a)∧(∀ {α β γ:Type} (f:α→γ) (g:β→γ) (x:α),Sum.elim f g (.inl x)=f x)∧(∀ {α β γ:Type} (f:α→γ) (g:β→γ) (x:β),Sum.elim f g (.inr x)=g x)∧
  (∀ {p:Prop} [Decidable p],(decide p=true)=p)∧(∀ h:Decidable True,@decide True h=true)∧(∀ h:Decidable False,@decide False h=false)∧(∀ b,(b&&true)=b)∧(∀ b,(true&&b)=b)∧((!true)=false)∧((!false)=true)∧
  (∀ b,((!b)=true)=(b=false))∧(∀ {p:Prop} [Decidable p],(decide p=false)↔¬ p)∧((false=true)=False)∧(∀ {α:Type} {_:Decidable True} (a b:α),(if True then a else b)=a)∧(∀ {α:Type} {_:Decidable False} (a b:α),(if False then a else b)=b)∧
  (∀ {α β:Type} (f:α→β) (l:List α),(l.map f).length=l.length)∧(∀ n:Nat,((n:Int)).toNat=n)∧(∀ {α:Type} (a:α) (l:List α),(a::l).length=l.length+1)∧(∀ {α:Type},([]:List α).length=0)∧(∀ n:Nat,0+n=n):=
 ⟨by simp,by simp,by simp,by simp,by simp,by simp,by simp,by simp,by simp,by simp,by simp,by simp,rfl,rfl,by simp,by simp,by simp,by simp,by simp,by simp,by simp,by simp,by simp,by simp⟩
end Go.Am
end
section
namespace Go.Am.D12
inductive Tc (B:Cd→Cd→Bool):Cd→Cd→Prop
 |one {x y:Cd}:B x y=true→Tc B x y
 |step {x y z:Cd}:Tc B x y→B y z=true→Tc B x z
theorem Tc.trans {B:Cd→Cd→Bool} {x y z:Cd} (h:Tc B x y) (k:Tc B y z):Tc B x z:=by
 induction k with
 |one k=>exact h.step k
 |step _ k ih=>exact ih.step k
theorem Tc.mono {B C:Cd→Cd→Bool} (hBC:∀ x y,B x y=true→Tc C x y) {x y:Cd} (h:Tc B x y):Tc C x y:=by
 induction h with
 |one h=>exact hBC _ _ h
 |step _ h ih=>exact ih.trans (hBC _ _ h)
def clo (B:Cd→Cd→Bool):List Cd→Cd→Cd→Bool
 |[]=>B
 |k::ks=>clo (fun i j=>B i j||(B i k&&B k j)) ks
def pre (l:List Cd) (c:Cd):List Cd:=l.take (l.idxOf c)
def v0m (a b:List Cd) (x y:Cd):Bool:=decide (x∈a)&&decide (y∈a)&&ord a x y||decide (x∈b)&&decide (y∈b)&&ord b x y
def w55 (a b:List Cd):List Cd:=a++b.filter fun c=>!(a.any fun d=>decide (d.n=c.n))
def kn (a b:List Cd):Cd→Cd→Bool:=clo (v0m a b) (w55 a b)
def unkn (a b:List Cd):Prop:=∃ x∈w55 a b,∃ y∈w55 a b,x≠y∧tch x y=true∧kn a b x y=false∧kn a b y x=false
instance (a b:List Cd):Decidable (unkn a b):=inferInstanceAs (Decidable (∃ x,x∈w55 a b∧∃ y,y∈w55 a b∧x≠y∧tch x y=true∧kn a b x y=false∧kn a b y x=false))
def circ (a b:List Cd):Prop:=∃ x∈w55 a b,kn a b x x=true
instance (a b:List Cd):Decidable (circ a b):=inferInstanceAs (Decidable (∃ x,x∈w55 a b∧kn a b x x=true))
end Go.Am.D12
end
section
namespace Go.Am
def le {β:Type} (a b:Option β):Prop:=∀ r,a=some r→b=some r
theorem le_refl {β:Type} (a:Option β):le a a:=fun _ h=>h
end Go.Am
end
noncomputable section
namespace Go.Am
theorem follows_mixed:Go.Proofs.Tryz.prog.follows .mixedOrders=true:=by kernel_rfl
abbrev LD := List (List D)
abbrev ci : CK := .int .i64
theorem gN {P : Program} : GamOk P [] := fun _ h => by cases h
theorem gC {P : Program} {c : Ctr} {F : Prim → Tup c.scs → Option (STup (scss c.outs))} {l : List CF} (h : CtrOk P c (F std)) (k : GamOk P l) : GamOk P (⟨c, F⟩ :: l) := fun cf hm => by
 rcases eAz.1 hm with rfl | hm
 · exact h
 · exact k cf hm
theorem okF {E : Env} (hE : EnvOk PG E) {c : Ctr} {a : Anns} {l : List LA} {F : Prim → Tup c.scs → Option (STup (scss c.outs))} (hg : GamOk PG a.Γ) (he : (infoOf PG c.g).isSome = true := by kernel_rfl) (h : ∀ (p : Prim) x, bodyRun opt p E (mkOrc opt p E 400 a l) 400 c x = F p x := by intro _ _; kernel_rfl) : CtrOk PG c (F std) :=
 ctr_of_body hE (mkOrc_ok hE hg _) (enters_auto (b := _) rfl he) fun x => h std x
theorem vE : EnvOk PG (autoEnvE [] PG) := autoEnvE_ok follows_mixed

abbrev o0m : OT := .box [.int .i64, .int .i64, .list 1, .int .i64]
abbrev o1m : OT := .box [.str, .int .i64, .int .i64, .int .i64]
abbrev o2m : OT := .box [.int .i64]
abbrev o3m : OT := .row [ci]
abbrev o4m : List OT := [o2m, o2m]
abbrev tU := true
abbrev fU := false
abbrev V0v := (Int×Unit)
abbrev V8v := (Int×V0v)
abbrev V17v := (Int×V8v)
abbrev V1v := (ByteArray×V17v)
abbrev V2v := (Bool×Unit)
abbrev V3v := (LD×(Nat×(Nat×(Nat×Unit))))
abbrev V4v := (Int×(Int×(LD×V8v)))
abbrev V10v := (Nat×(Nat×(Nat×V0v)))
abbrev V5v := (LD×(Nat×(Nat×(Nat×(Int×V10v)))))
abbrev V11v := (LD×V0v)
abbrev V6v := (Int×(Int×V11v))
abbrev V7v := (LD×Unit)
abbrev V14v := (Int×V2v)
abbrev V9v := (Int×V14v)
abbrev V12v := (LD×(Int×(Int×(LD×(Int×(Nat×(Nat×(LD×V8v))))))))
abbrev V13v := (ByteArray×Unit)
abbrev V15v := (LD×(Int×(Int×(LD×(Int×(Nat×(Nat×Unit)))))))
abbrev V16v := (Int×(Int×(LD×(Int×(ByteArray×(Int×V9v))))))
end Go.Am
end
noncomputable section
namespace Go.Am
def w8h:Ctr:=
 ⟨15,[.list 4],[],[(.ret,⟨[(0, .bool)],[],1⟩)]⟩
def la15:List LA:=
 [⟨15,[fU,tU,fU,tU,tU],0,⟨⟨[(0, .list 4),(3, .int .i64)],[],20⟩,[(AX.ret,⟨[(2, .bool)],[],20⟩),((AX.exit 0),⟨[],[],20⟩)]⟩⟩]
def ja15:List JA:=
 []
def v1c:List CF:=
 []
def an15:Anns:=
 ⟨v1c,ja15,[]⟩
def x9p (p:Prim):V11v→Option (V11v⊕(V2v⊕Unit)):=
 fun a=>opt.run _ (
 opt.ask _ (p.cmp .lss a.2.1 (p.ofNat (p.len a.1))) (
 opt.need _ (p.rowOk a.1 (p.nat a.2.1) [ci,ci,(CK.list 1),ci])<|
 opt.need _ (p.cmp .geq a.2.1 (0:Int))<|
 opt.ask _ (p.cmp .gtr (p.ofNat (p.len (p.rdL a.1 (p.nat a.2.1) 2))) (10:Int)) (
 opt.ret _ (Sum.inr (Sum.inl (Bool.true,())))) (
 opt.ret _ (Sum.inl (a.1,((p.ar .add .i64 a.2.1 (1:Int)),()))))) (
 opt.ret _ (Sum.inr (Sum.inr ()))))
def G15:(p:Prim)→V7v→Option (V2v):=
 fun p x=>
 opt.ask _ (p.cmp .gtr (p.ofNat (p.len x.1)) (70:Int)) (
 opt.ret _ (Bool.true,())) (
 opt.alt (V2v) (Unit) _ (
 z5r (x9p p) (x.1,((0:Int),()))) (fun a=>
 opt.ret _ a) (fun b=>
 opt.bnd (Unit) _ (some b) fun c=>
 opt.ret _ (Bool.false,())))
theorem ok15:CtrOk PG w8h (G15 std):=okF vE (a:=an15) (l:=la15) (gN)
def w8c:Ctr:=
 ⟨58,[.int .i64],[],[(.ret,⟨[(0, .bool)],[],1⟩)]⟩
def la58:List LA:=
 []
def ja58:List JA:=
 [⟨58,[fU,tU],0,[(AX.normal,⟨[(2, .bool)],[],9⟩)]⟩]
def v04:List CF:=
 []
def an58:Anns:=
 ⟨v04,ja58,[]⟩
def G58:(p:Prim)→V0v→Option (V2v):=
 fun p x=>
 opt.bnd (V2v) _ (
 opt.run (V2v) (
 opt.ask _ (p.cmp .geq x.1 (1:Int)) (
 opt.ret _ ((p.cmp .leq x.1 (1099511627776:Int)),())) (
 opt.ret _ (Bool.false,())))) fun a=>
 opt.ret _ a
theorem ok58:CtrOk PG w8c (G58 std):=okF vE (a:=an58) (l:=la58) (gN)
def w8b:Ctr:=
 ⟨59,[.int .i64],[],[(.ret,⟨[(0, .int .i64)],[],1⟩)]⟩
def la59:List LA:=
 []
def ja59:List JA:=
 [⟨59,[tU,fU,tU,tU,fU,tU,fU,tU],0,[(AX.normal,⟨[(3, .int .i64),(8, .bool)],[],13⟩)]⟩,
 ⟨59,[tU,tU,tU,fU,fU,tU,fU,tU],0,[(AX.normal,⟨[(3, .int .i64),(4, .bool)],[],13⟩)]⟩,
 ⟨59,[tU,fU,fU,tU,fU,tU],0,[(AX.normal,⟨[(3, .int .i64),(4, .bool)],[],13⟩)]⟩,
 ⟨59,[tU,fU,tU,fU,tU],0,[(AX.ret,⟨[(2, .int .i64)],[],13⟩),(AX.normal,⟨[],[],13⟩)]⟩,
 ⟨59,[tU,tU,tU,fU,tU,fU,tU],0,[(AX.ret,⟨[(2, .int .i64)],[],13⟩),(AX.normal,⟨[],[],13⟩)]⟩]
def v03:List CF:=
 []
def an59:Anns:=
 ⟨v03,ja59,[]⟩
def G59:(p:Prim)→V0v→Option (V0v):=
 fun p x=>let A:=(x.1,(Bool.true,()));
 opt.bnd (V14v) _ (
 opt.run (V14v) (
 opt.ask _ (p.cmp .eql x.1 (1:Int)) (
 opt.ret _ A) (
 opt.bnd (V14v) _ (
 opt.run (V14v) (
 opt.ask _ (p.cmp .eql x.1 (2:Int)) (
 opt.ret _ A) (
 opt.ret _ (x.1,((p.cmp .eql x.1 (5:Int)),()))))) fun a=>
 opt.ret _ a))) fun b=>
 opt.alt (V0v) (Unit) _ (
 opt.run ((V0v⊕Unit)) (
 opt.ask _ b.2.1 (
 opt.ret _ (Sum.inl ((1:Int),()))) (
 opt.bnd (V14v) _ (
 opt.run (V14v) (
 opt.ask _ (p.cmp .eql b.1 (3:Int)) (
 opt.ret _ (b.1,(Bool.true,()))) (
 opt.ret _ (b.1,((p.cmp .eql b.1 (4:Int)),()))))) fun c=>
 opt.alt (V0v) (Unit) _ (
 opt.run ((V0v⊕Unit)) (
 opt.ask _ c.2.1 (
 opt.ret _ (Sum.inl ((2:Int),()))) (
 opt.ask _ (p.cmp .eql c.1 (6:Int)) (
 opt.ret _ (Sum.inl ((3:Int),()))) (
 opt.ret _ (Sum.inr ()))))) (fun d=>
 opt.ret _ (Sum.inl d)) (fun e=>
 opt.bnd (Unit) _ (some e) fun f=>
 opt.ret _ (Sum.inr ()))))) (fun g=>
 opt.ret _ g) (fun h=>
 opt.bnd (Unit) _ (some h) fun i=>
 opt.ret _ ((0:Int),()))
theorem ok59:CtrOk PG w8b (G59 std):=okF vE (a:=an59) (l:=la59) (gN)
def w8a:Ctr:=
 ⟨60,[.int .i64, .int .i64],[],[(.ret,⟨[(0, .bool)],[],1⟩)]⟩
def la60:List LA:=
 []
def ja60:List JA:=
 [⟨60,[tU,tU,tU,fU,tU,fU,tU],0,[(AX.ret,⟨[(4, .bool)],[],40⟩),(AX.normal,⟨[(1, .int .i64)],[],40⟩)]⟩,
 ⟨60,[tU,tU,tU,tU,tU,fU,tU,fU,tU],0,[(AX.ret,⟨[(4, .bool)],[],40⟩),(AX.normal,⟨[(1, .int .i64)],[],40⟩)]⟩,
 ⟨60,[tU,fU,tU,fU,tU],0,[(AX.ret,⟨[(4, .bool)],[],40⟩),(AX.normal,⟨[(1, .int .i64)],[],40⟩)]⟩,
 ⟨60,[fU,fU,tU,tU,tU,fU,tU,fU,tU],0,[(AX.normal,⟨[(4, .bool)],[],40⟩)]⟩,
 ⟨60,[fU,fU,tU,tU,tU,tU,tU,tU,tU,fU,tU,fU,tU],0,[(AX.normal,⟨[(4, .bool)],[],40⟩)]⟩,
 ⟨60,[fU,fU,tU,tU,tU,tU,tU,fU,tU,fU,tU],0,[(AX.normal,⟨[(4, .bool)],[],40⟩)]⟩,
 ⟨60,[fU,fU,tU,fU,tU,fU,tU],0,[(AX.normal,⟨[(4, .bool)],[],40⟩)]⟩]
def v02:List CF:=
 []
def an60:Anns:=
 ⟨v02,ja60,[]⟩
def G60:(p:Prim)→V8v→Option (V2v):=
 fun p x=>let A:=p.cmp .geq x.2.1 (1:Int);let B:=((p.cmp .leq x.2.1 (1000000:Int)),());
 opt.alt (V2v) (V0v) _ (
 opt.run ((V2v⊕V0v)) (
 opt.ask _ (p.cmp .eql x.1 (1:Int)) (
 opt.bnd (V2v) _ (
 opt.run (V2v) (
 opt.ask _ A (
 opt.ret _ B) (
 opt.ret _ (Bool.false,())))) fun a=>
 opt.ret _ (Sum.inl a)) (
 opt.alt (V2v) (V0v) _ (
 opt.run ((V2v⊕V0v)) (
 opt.ask _ (p.cmp .eql x.1 (2:Int)) (
 opt.bnd (V2v) _ (
 opt.run (V2v) (
 opt.ask _ A (
 opt.ret _ ((p.cmp .leq x.2.1 (10000:Int)),())) (
 opt.ret _ (Bool.false,())))) fun b=>
 opt.ret _ (Sum.inl b)) (
 opt.alt (V2v) (V0v) _ (
 opt.run ((V2v⊕V0v)) (
 opt.ask _ (p.cmp .eql x.1 (3:Int)) (
 opt.bnd (V2v) _ (
 opt.run (V2v) (
 opt.ask _ A (
 opt.ret _ ((p.cmp .leq x.2.1 (100000:Int)),())) (
 opt.ret _ (Bool.false,())))) fun c=>
 opt.ret _ (Sum.inl c)) (
 opt.ask _ (p.cmp .eql x.1 (6:Int)) (
 opt.bnd (V2v) _ (
 opt.run (V2v) (
 opt.ask _ (p.cmp .geq x.2.1 (0:Int)) (
 opt.ret _ B) (
 opt.ret _ (Bool.false,())))) fun d=>
 opt.ret _ (Sum.inl d)) (
 opt.ret _ (Sum.inr x.2))))) (fun e=>
 opt.ret _ (Sum.inl e)) (fun f=>
 opt.bnd (V0v) _ (some f) fun g=>
 opt.ret _ (Sum.inr g))))) (fun h=>
 opt.ret _ (Sum.inl h)) (fun i=>
 opt.bnd (V0v) _ (some i) fun j=>
 opt.ret _ (Sum.inr j))))) (fun k=>
 opt.ret _ k) (fun l=>
 opt.bnd (V0v) _ (some l) fun m=>
 opt.ret _ ((p.cmp .eql m.1 (0:Int)),()))
theorem ok60:CtrOk PG w8a (G60 std):=okF vE (a:=an60) (l:=la60) (gN)
def w5x:Ctr:=
 ⟨18,[.agg [.int .i64, .int .i64, .list 1, .int .i64]],[],[(.ret,⟨[(0, .int .i64)],[],1⟩)]⟩
def la18:List LA:=
 [⟨18,[fU,tU,fU,tU,tU,tU],0,⟨⟨[(1, .bptr 0 0),(3, .int .i64)],[o0m],66⟩,[(AX.ret,⟨[(2, .int .i64)],[],66⟩),((AX.exit 0),⟨[(1, .bptr 0 0)],[o0m],66⟩)]⟩⟩,
 ⟨18,[fU,tU,fU,tU,tU,tU,tU],0,⟨⟨[(1, .bptr 0 0),(4, .int .i64)],[o0m],66⟩,[(AX.ret,⟨[(2, .int .i64)],[],66⟩),((AX.exit 2),⟨[(1, .bptr 0 0)],[o0m],66⟩)]⟩⟩,
 ⟨18,[fU,tU,fU,fU,tU,fU,fU,tU,fU,tU,tU,tU,tU],0,⟨⟨[(1, .bptr 0 0),(4, .int .i64),(5, .int .i64)],[o0m],66⟩,[(AX.ret,⟨[(2, .int .i64)],[],66⟩),((AX.exit 4),⟨[(1, .bptr 0 0),(4, .int .i64)],[o0m],66⟩)]⟩⟩]
def ja18:List JA:=
 [⟨18,[fU,fU,tU],0,[(AX.normal,⟨[(1, .bptr 0 0),(15, .bool)],[o0m],66⟩)]⟩]
def v1a:List CF:=
 [⟨w8a,G60⟩,⟨w8b,G59⟩,⟨w8c,G58⟩]
def an18:Anns:=
 ⟨v1a,ja18,[]⟩
def x9m (p:Prim):(Int×(Int×(LD×V17v)))→Option ((Int×(Int×(LD×V17v)))⊕(V0v⊕V4v)):=
 fun a=>let A:=a.2.2.2.2.1;let B:=a.2.2.2.2.2.1;let C:=a.2.2.1; opt.run _ (
 opt.ask _ (p.cmp .lss B A) (
 opt.need _ (p.rowOk C (p.nat A) [ci])<|
 opt.need _ (p.cmp .geq A (0:Int))<|
 opt.need _ (p.rowOk C (p.nat B) [ci])<|
 opt.need _ (p.cmp .geq B (0:Int))<|
 opt.ask _ (p.cmp .eql (p.rdI C (p.nat A) 0) (p.rdI C (p.nat B) 0)) (
 opt.ret _ (Sum.inr (Sum.inl ((16:Int),())))) (
 opt.ret _ (Sum.inl (a.1,(a.2.1,(C,(a.2.2.2.1,(A,((p.ar .add .i64 B (1:Int)),()))))))))) (
 opt.ret _ (Sum.inr (Sum.inr (a.1,(a.2.1,(C,(a.2.2.2.1,(A,())))))))))
def x9n (p:Prim):V4v→Option (V4v⊕(V0v⊕V6v)):=
 fun a=>opt.run _ (
 opt.ask _ (p.cmp .lss a.2.2.2.2.1 (p.ofNat (p.len a.2.2.1))) (
 opt.alt (V0v) (V4v) _ (
 z5r (x9m p) (a.1,(a.2.1,(a.2.2.1,(a.2.2.2.1,(a.2.2.2.2.1,((0:Int),()))))))) (fun b=>
 opt.ret _ (Sum.inr (Sum.inl b))) (fun c=>
 opt.bnd (V4v) _ (some c) fun d=>
 opt.ret _ (Sum.inl (d.1,(d.2.1,(d.2.2.1,(d.2.2.2.1,((p.ar .add .i64 d.2.2.2.2.1 (1:Int)),())))))))) (
 opt.ret _ (Sum.inr (Sum.inr (a.1,(a.2.1,(a.2.2.1,(a.2.2.2.1,()))))))))
def x9o (p:Prim):V4v→Option (V4v⊕(V0v⊕V6v)):=
 fun a=>let A:=a.2.2.2.2.1;let B:=a.2.2.1; opt.run _ (
 opt.ask _ (p.cmp .lss A (p.ofNat (p.len B))) (
 opt.need _ (p.rowOk B (p.nat A) [ci])<|
 opt.need _ (p.cmp .geq A (0:Int))<|
 opt.bnd (V2v) _ (G58 p ((p.rdI B (p.nat A) 0),())) fun b=>
 opt.ask _ (bif b.1 then Bool.false else Bool.true) (
 opt.ret _ (Sum.inr (Sum.inl ((3:Int),())))) (
 opt.ret _ (Sum.inl (a.1,(a.2.1,(B,(a.2.2.2.1,((p.ar .add .i64 A (1:Int)),())))))))) (
 opt.ret _ (Sum.inr (Sum.inr (a.1,(a.2.1,(B,(a.2.2.2.1,()))))))))
def G18:(p:Prim)→V6v→Option (V0v):=
 fun p x=>let A:=((0:Int),());
 opt.bnd ((Int×(Int×(LD×V14v)))) _ (
 opt.run ((Int×(Int×(LD×V14v)))) (
 opt.bnd (V2v) _ (G58 p (x.1,())) fun a=>
 opt.ask _ (bif a.1 then Bool.false else Bool.true) (
 opt.ret _ (x.1,(x.2.1,(x.2.2.1,(x.2.2.2.1,(Bool.true,())))))) (
 opt.bnd (V0v) _ (G59 p (x.2.1,())) fun b=>
 opt.ret _ (x.1,(x.2.1,(x.2.2.1,(x.2.2.2.1,((p.cmp .eql b.1 (0:Int)),())))))))) fun c=>
 opt.ask _ c.2.2.2.2.1 (
 opt.ret _ ((2:Int),())) (
 opt.bnd (V0v) _ (G59 p (c.2.1,())) fun d=>
 opt.ask _ (p.cmp .neq (p.ofNat (p.len c.2.2.1)) d.1) (
 opt.ret _ ((6:Int),())) (
 opt.alt (V0v) (V6v) _ (
 z5r (x9o p) (c.1,(c.2.1,(c.2.2.1,(c.2.2.2.1,A))))) (fun e=>
 opt.ret _ e) (fun f=>
 opt.bnd (V6v) _ (some f) fun g=>
 opt.alt (V0v) (V6v) _ (
 z5r (x9n p) (g.1,(g.2.1,(g.2.2.1,(g.2.2.2.1,A))))) (fun h=>
 opt.ret _ h) (fun i=>
 opt.bnd (V6v) _ (some i) fun j=>
 opt.bnd (V2v) _ (G60 p (j.2.1,j.2.2.2)) fun k=>
 opt.ask _ (bif k.1 then Bool.false else Bool.true) (
 opt.ret _ ((2:Int),())) (
 opt.ret _ A)))))
theorem v2e:CtrOk PG w5x (G18 std):=okF vE (a:=an18) (l:=la18) (gC ok60 (gC ok59 (gC ok58 (gN))))
def w8f:Ctr:=
 ⟨20,[.list 4],[],[(.ret,⟨[(0, .int .i64)],[],1⟩)]⟩
def la20:List LA:=
 [⟨20,[fU,tU,fU,tU,tU],0,⟨⟨[(0, .list 4),(3, .int .i64)],[],48⟩,[(AX.ret,⟨[(2, .int .i64)],[],48⟩),((AX.exit 0),⟨[(0, .list 4)],[],48⟩)]⟩⟩,
 ⟨20,[fU,tU,fU,tU,tU,tU],0,⟨⟨[(0, .list 4),(4, .int .i64)],[],48⟩,[(AX.ret,⟨[(2, .int .i64)],[],48⟩),((AX.exit 2),⟨[],[],48⟩)]⟩⟩,
 ⟨20,[fU,tU,fU,fU,tU,fU,fU,tU,fU,tU,tU,tU],0,⟨⟨[(0, .list 4),(4, .int .i64),(5, .int .i64)],[],48⟩,[(AX.ret,⟨[(2, .int .i64)],[],48⟩),((AX.exit 4),⟨[(0, .list 4),(4, .int .i64)],[],48⟩)]⟩⟩]
def ja20:List JA:=
 []
def v08:List CF:=
 [⟨w5x,G18⟩]
def an20:Anns:=
 ⟨v08,ja20,[]⟩
def x9k (p:Prim):(LD×V8v)→Option ((LD×V8v)⊕(V0v⊕V11v)):=
 fun a=>let A:=[ci,ci,(CK.list 1),ci];let B:=a.2.2.1; opt.run _ (
 opt.ask _ (p.cmp .lss B a.2.1) (
 opt.need _ (p.rowOk a.1 (p.nat a.2.1) A)<|
 opt.need _ (p.cmp .geq a.2.1 (0:Int))<|
 opt.need _ (p.rowOk a.1 (p.nat B) A)<|
 opt.need _ (p.cmp .geq B (0:Int))<|
 opt.ask _ (p.cmp .eql (p.rdI a.1 (p.nat a.2.1) 0) (p.rdI a.1 (p.nat B) 0)) (
 opt.ret _ (Sum.inr (Sum.inl ((11:Int),())))) (
 opt.ret _ (Sum.inl (a.1,(a.2.1,((p.ar .add .i64 B (1:Int)),())))))) (
 opt.ret _ (Sum.inr (Sum.inr (a.1,(a.2.1,()))))))
def x9l (p:Prim):V11v→Option (V11v⊕(V0v⊕Unit)):=
 fun a=>opt.run _ (
 opt.ask _ (p.cmp .lss a.2.1 (p.ofNat (p.len a.1))) (
 opt.alt (V0v) (V11v) _ (
 z5r (x9k p) (a.1,(a.2.1,((0:Int),())))) (fun b=>
 opt.ret _ (Sum.inr (Sum.inl b))) (fun c=>
 opt.bnd (V11v) _ (some c) fun d=>
 opt.ret _ (Sum.inl (d.1,((p.ar .add .i64 d.2.1 (1:Int)),()))))) (
 opt.ret _ (Sum.inr (Sum.inr ()))))
def x6m (p:Prim):V11v→Option (V11v⊕(V0v⊕V7v)):=
 fun a=>let B:=p.nat a.2.1;let A:=G18 p ((p.rdI a.1 B 0),((p.rdI a.1 B 1),((p.rdL a.1 B 2),((p.rdI a.1 B 3),()))));let C:=p.rowOk a.1 B [ci,ci,(CK.list 1),ci];let E:=p.cmp .geq a.2.1 (0:Int); opt.run _ (
 opt.ask _ (p.cmp .lss a.2.1 (p.ofNat (p.len a.1))) (
 opt.need _ C<|
 opt.need _ E<|
 opt.bnd (V0v) _ A fun b=>
 opt.ask _ (p.cmp .neq b.1 (0:Int)) (
 opt.need _ C<|
 opt.need _ E<|
 opt.bnd (V0v) _ A fun c=>
 opt.ret _ (Sum.inr (Sum.inl c))) (
 opt.ret _ (Sum.inl (a.1,((p.ar .add .i64 a.2.1 (1:Int)),()))))) (
 opt.ret _ (Sum.inr (Sum.inr (a.1,())))))
def G20:(p:Prim)→V7v→Option (V0v):=
 fun p x=>let A:=((0:Int),());
 opt.ask _ (p.cmp .gtr (p.ofNat (p.len x.1)) (60:Int)) (
 opt.ret _ ((6:Int),())) (
 opt.alt (V0v) (V7v) _ (
 z5r (x6m p) (x.1,A)) (fun a=>
 opt.ret _ a) (fun b=>
 opt.bnd (V7v) _ (some b) fun c=>
 opt.alt (V0v) (Unit) _ (
 z5r (x9l p) (c.1,A)) (fun d=>
 opt.ret _ d) (fun e=>
 opt.bnd (Unit) _ (some e) fun f=>
 opt.ret _ A)))
theorem ok20:CtrOk PG w8f (G20 std):=okF vE (a:=an20) (l:=la20) (gC v2e (gN))
end Go.Am
end
section
namespace Go.Am
open D12
def eI (n:Int):List D:=[.int .i64 n]
def z1a (l:List Int):List (List D):=l.map eI
def eC (fl:List Int→Bool) (c:Cd):List D:=[.int .i64 c.n, .int .i64 c.k, .list (fl c.t) 1 (z1a c.t), .int .i64 c.a]
def z0p (fl:List Int→Bool) (l:List Cd):List (List D):=l.map (eC fl)
def eTh (t:Th):List D:=[.int .i64 t.num, .int .i64 t.val, .int .i64 t.hrs, .bool t.out]
def z5s (l:List Th):List (List D):=l.map eTh
variable {fl fl':List Int→Bool}
theorem y8q (n:Int):z3k [CK.int IntKind.i64] (eI n)=true:=rfl
theorem w5s (n:Int):dI ((eI n)[0]?.getD D.nilp)=n:=rfl
theorem w2c (c:Cd):z3k [CK.int IntKind.i64,CK.int IntKind.i64,CK.list 1,CK.int IntKind.i64] (eC fl c)=true:=rfl
theorem w78 (c:Cd):dI ((eC fl c)[0]?.getD D.nilp)=c.n:=rfl
theorem w77 (c:Cd):dI ((eC fl c)[1]?.getD D.nilp)=c.k:=rfl
theorem w75 (c:Cd):dL ((eC fl c)[2]?.getD D.nilp)=z1a c.t:=rfl
theorem w76 (c:Cd):dI ((eC fl c)[3]?.getD D.nilp)=c.a:=rfl
theorem w79 (c:Cd):dF 1 ((eC fl c)[2]?.getD D.nilp)=fl c.t:=by
 show (fl c.t&&(Nat.beq 1 1||_))=_
 cases fl c.t<;>rfl
theorem x9c (t:Th):z3k [CK.int IntKind.i64,CK.int IntKind.i64,CK.int IntKind.i64,CK.bool] (eTh t)=true:=rfl
theorem w5r (t:Th):dI ((eTh t)[0]?.getD D.nilp)=t.num:=rfl
theorem w5q (t:Th):dI ((eTh t)[1]?.getD D.nilp)=t.val:=rfl
theorem w5p (t:Th):dI ((eTh t)[2]?.getD D.nilp)=t.hrs:=rfl
theorem w5u (t:Th):dB ((eTh t)[3]?.getD D.nilp)=t.out:=rfl
theorem y4y:(∀ {fl:List Int→Bool} (c:Cd),z3k [CK.int IntKind.i64,CK.int IntKind.i64,CK.list 1,CK.int IntKind.i64] (eC fl c)=true)∧(∀ {fl:List Int→Bool} (c:Cd),dI ((eC fl c)[0]?.getD D.nilp)=c.n)∧(∀ {fl:List Int→Bool} (c:Cd),dI ((eC fl c)[1]?.getD D.nilp)=c.k)∧(∀ {fl:List Int→Bool} (c:Cd),dL ((eC fl c)[2]?.getD D.nilp)=z1a c.t)∧(∀ {fl:List Int→Bool} (c:Cd),dI ((eC fl c)[3]?.getD D.nilp)=c.a)∧(∀ {fl:List Int→Bool} (c:Cd),dF 1 ((eC fl c)[2]?.getD D.nilp)=fl c.t)∧
  (∀ n:Int,z3k [CK.int IntKind.i64] (eI n)=true)∧(∀ n:Int,dI ((eI n)[0]?.getD D.nilp)=n)∧
  (∀ t:Th,z3k [CK.int IntKind.i64,CK.int IntKind.i64,CK.int IntKind.i64,CK.bool] (eTh t)=true)∧(∀ t:Th,dI ((eTh t)[0]?.getD D.nilp)=t.num)∧(∀ t:Th,dI ((eTh t)[1]?.getD D.nilp)=t.val)∧(∀ t:Th,dI ((eTh t)[2]?.getD D.nilp)=t.hrs)∧(∀ t:Th,dB ((eTh t)[3]?.getD D.nilp)=t.out):=
 ⟨w2c,w78,w77,w75,w76,w79,y8q,w5s,x9c,w5r,w5q,w5p,w5u⟩
theorem z00 (l:List Int):(z1a l).length=l.length:=by simp [z1a]
theorem z2i (l:List Cd):(z0p fl l).length=l.length:=by simp [z0p]
theorem z62 {S R:Type} {b:S→Option (S⊕R)} (n:Nat) (e:Nat→S) (P:Nat→Bool) (r:Nat→R) (rend:R)
  (step:∀ i,i<n→b (e i)=if P i=true then some (.inr (r i)) else some (.inl (e (i+1)))) (stop:b (e n)=some (.inr rend)):
  z5r b (e 0)=some (match (List.range n).find? P with|some i=>r i|none=>rend):=by
 have key:∀ k m,n - m=k→m≤n→z5r b (e m)=some (match (List.range' m (n - m)).find? P with|some i=>r i|none=>rend):=by
  intro k
  induction k with
  |zero=>
   intro m hm hle
   have:m=n:=by omega
   subst this
   rw [z7m,stop,Nat.sub_self]; rfl
  |succ k ih=>
   intro m hm hle
   have hlt:m<n:=by omega
   rw [z7m,step m hlt,hm,List.range'_succ,List.find?_cons]
   cases hP:P m with
   |true=>simp
   |false=>
    simp only [eAi,if_false]
    have:=ih (m+1) (by omega) hlt
    rw [this,show n - (m+1)=k by omega]
 have:=key n 0 rfl (eAv _)
 rw [this,Nat.sub_zero,List.range_eq_range']
theorem z9b {S R:Type} {b:S→Option (S⊕R)} (n:Nat) (e:Nat→S) (P:Nat→Bool) (r rend:R)
  (step:∀ i,i<n→b (e i)=if P i=true then some (.inr r) else some (.inl (e (i+1)))) (stop:b (e n)=some (.inr rend)):
  z5r b (e 0)=some (if (List.range n).any P=true then r else rend):=by
 rw [z62 n e P (fun _=>r) rend step stop]
 cases h:(List.range n).find? P with
 |none=>
  have:(List.range n).any P=false:=by
   rw [List.any_eq_false]
   rw [List.find?_eq_none] at h
   exact h
  simp [this]
 |some i=>
  have:(List.range n).any P=true:=eCz.2 ⟨i,List.mem_of_find?_eq_some h,List.find?_some h⟩
  simp [this]
theorem w1e {S R:Type} {b:S→Option (S⊕R)} (n:Nat) (e:Nat→S) (rend:R)
  (step:∀ i,i<n→b (e i)=some (.inl (e (i+1)))) (stop:b (e n)=some (.inr rend)):z5r b (e 0)=some rend:=by
 rw [z62 n e (fun _=>false) (fun _=>rend) rend (fun i hi=>by rw [step i hi]; rfl) stop]
 have:(List.range n).find? (fun _=>false)=none:=by simp
 rw [this]
theorem stp (i:Nat) (h:i<9223372036854775807):IntKind.i64.wrap ((i:Int)+1)=((i+1:Nat):Int)∧(0:Int)≤i:=⟨w0a h,by omega⟩
theorem z2h {α:Type} {l:List α} {i:Nat} {d m:α} (h:l[i]?=some m):l.getD i d=m:=by simp [eCi,h]
theorem x21 {α:Type} (l:List α) (d:α) (p:α→Bool):((List.range l.length).any fun i=>p (l.getD i d))=l.any p:=by
 rw [eCu,eCz,eCz]
 constructor
 ·rintro ⟨i,hi,h⟩
  have hi:=eBo.1 hi
  obtain ⟨m,hm⟩:=z1v hi
  rw [z2h hm] at h
  exact ⟨m,eAu hm,h⟩
 ·rintro ⟨x,hx,h⟩
  obtain ⟨i,hi,rfl⟩:=List.mem_iff_getElem.1 hx
  exact ⟨i,eBo.2 hi,by rw [z2h (eAa hi)]; exact h⟩
theorem x4f {α:Type} (l:List α) (d:α) (p:α→Bool):((List.range l.length).find? fun i=>p (l.getD i d)).map (fun i=>l.getD i d)=l.find? p:=by
 have hl:l=(List.range l.length).map fun i=>l.getD i d:=by
  apply List.ext_getElem (by simp)
  intro i h1 h2
  simp [eCi,h1]
 conv=>rhs; rw [hl]
 rw [List.find?_map]
 rfl
def x8g (l:List Cd):Bool:=decide (70<l.length)||l.any fun c=>decide (10<c.t.length)
theorem w3t (l:List Cd):G15 std (z0p fl l,())=some (x8g l,()):=by
 unfold G15 x8g
 by_cases hl:70<l.length
 ·have h1:(70:Int)<l.length:=by omega
  simp only [z2d,z2e,z2i,z4b,Int.reduceLT,Int.reduceEq,Int.reduceLE,h1,hl,Bool.true_or]
 ·have h1:¬ (70:Int)<l.length:=by omega
  have key:=z9b (b:=x9p std) l.length (fun i=>(z0p fl l,((i:Int),()))) (fun i=>decide (10<(l.getD i default).t.length)) (.inl (true,())) (.inr ()) (fun i hi=>by
   obtain ⟨m,hm⟩:=z1v hi
   obtain ⟨hw,h0⟩:=stp i (by omega)
   have hlt:(i:Int)<l.length:=by omega
   have e:((10:Int)<m.t.length)=(10<m.t.length):=propext ⟨fun h=>by omega,fun h=>by omega⟩
   simp only [z2h hm,x9p,z2d,z2e,z0p,z1a,z5s,y4y,z4b,Int.reduceLT,Int.reduceEq,Int.reduceLE,hm,hlt,h0,hw,e]) (by
   have hn:¬ (l.length:Int)<l.length:=by omega
   simp only [x9p,z2d,z2e,z0p,z1a,z5s,y4y,hn])
  have key:z5r (x9p std) (z0p fl l,((0:Int),()))=_:=key
  rw [x21 l default fun c=>decide (10<c.t.length)] at key
  simp only [z2d,z2e,z2i,z4b,Int.reduceLT,Int.reduceEq,Int.reduceLE,h1,hl,key,Bool.false_or]
  cases l.any fun c=>decide (10<c.t.length)<;>rfl
end Go.Am
end
section
namespace Go.Am
open Go Go.RowKit Go.Proofs D12
theorem x34 {k:IntKind} {x:D} (h:DK (.int k) x):∃ n,x= .int k n∧(Lit.int k n).wf=true:=by
 match x,h with
 | .int k' n,h=>obtain ⟨rfl,h⟩:=h; exact ⟨n,rfl,h⟩
theorem w46 {x:D} (h:DK (.list [.int .i64]) x):∃ l:List Int,x= .list false 1 (z1a l)∧(∀ z∈l,(Lit.int .i64 z).wf=true)∧l.length≤maxLen:=by
 match x,h with
 | .list f z es,h=>
  obtain ⟨rfl,rfl,hl,hr⟩:=h
  rw [z9j] at hr
  have:∃ l:List Int,es=z1a l∧∀ z∈l,(Lit.int .i64 z).wf=true:=by
   clear hl
   induction es with
   |nil=>exact ⟨[],rfl,fun z h=>by cases h⟩
   |cons r es ih=>
    obtain ⟨l,rfl,hw⟩:=ih fun r hr'=>hr r (eCm _ hr')
    have h0:=hr r (eBq ..)
    match r,h0 with
    |[y],h0=>
     obtain ⟨a,rfl,ha⟩:=x34 h0.1
     refine ⟨a::l,rfl,fun z hz=>?_⟩
     rcases eAz.1 hz with rfl|hz
     ·exact ha
     ·exact hw z hz
  obtain ⟨l,rfl,hw⟩:=this
  exact ⟨l,rfl,hw,by simpa [z1a] using hl⟩
def v2g:List Int→Bool:=fun _=>false
def w82 (c:Cd):Prop:=(Lit.int .i64 c.n).wf=true∧(Lit.int .i64 c.k).wf=true∧(∀ z∈c.t,(Lit.int .i64 z).wf=true)∧(Lit.int .i64 c.a).wf=true∧c.t.length≤maxLen
theorem w2e {x:D} (h:DK (.list [.int .i64, .int .i64, .list [.int .i64], .int .i64]) x):∃ l:List Cd,x= .list false 4 (z0p v2g l)∧(∀ c∈l,w82 c)∧l.length≤maxLen:=by
 match x,h with
 | .list f z es,h=>
  obtain ⟨rfl,rfl,hl,hr⟩:=h
  rw [z9j] at hr
  have:∃ l:List Cd,es=z0p v2g l∧∀ c∈l,w82 c:=by
   clear hl
   induction es with
   |nil=>exact ⟨[],rfl,fun z h=>by cases h⟩
   |cons r es ih=>
    obtain ⟨l,rfl,hw⟩:=ih fun r hr'=>hr r (eCm _ hr')
    have h0:=hr r (eBq ..)
    match r,h0 with
    |[y,z,w,v],h0=>
     obtain ⟨n,rfl,hn⟩:=x34 h0.1
     obtain ⟨k,rfl,hk⟩:=x34 h0.2.1
     obtain ⟨t,rfl,ht,htl⟩:=w46 h0.2.2.1
     obtain ⟨a,rfl,ha⟩:=x34 h0.2.2.2.1
     refine ⟨⟨n,k,t,a⟩::l,rfl,fun c hc=>?_⟩
     rcases eAz.1 hc with rfl|hc
     ·exact ⟨hn,hk,ht,ha,htl⟩
     ·exact hw c hc
  obtain ⟨l,rfl,hw⟩:=this
  exact ⟨l,rfl,hw,by simpa [z0p] using hl⟩
end Go.Am
namespace Go.Proofs.YtejcgpekgbiooaaGreatDoor
open Go.ChangeShapes Go.WideShapes Go.ChangeAt Go.RowKit Go.Am
theorem x8f {ps:Array TypeId} {args:Array Value} {p:TypeId→Value→Prop} (h:∀ (j:Nat) t v,ps[j]?=some t→args[j]?=some v→p t v):
  ∀ (j:Nat) t v,ps.toList[j]?=some t→args.toList[j]?=some v→p t v:=fun j t v h1 h2=>h j t v (by simpa using h1) (by simpa using h2)
theorem own:ownKnob Tryz.prog.godebug=none:=by kernel_rfl
theorem laid:laidOutB Tryz.prog=true:=by kernel_rfl
theorem rowed:mapsRowed Tryz.prog=true:=by kernel_rfl
theorem sized:((List.range Tryz.prog.types.size).all fun t=>match Tryz.prog.underlying t with|some (.slice e)=>decide (0<Tryz.prog.cellsOf e)|_=>true)=true:=by kernel_rfl
theorem wrap {a:Assume} {C:Checked} {os:Os} {H:Type} {enc:TypeId×Value→H} {f:FuncId} {fn:Func} {s:ChangeSpec} {conds:List PathCond} {y0d fresh handsOn again:Bool} {L:List (String×DataW Unit)}
  (own:ownKnob C.prog.godebug=none) (started:os.Started) (noInit:C.prog.inits.idxOf? f=none) (hfn:C.prog.funcs[f]?=some fn)
  (witness:∃ (w:World) (tape:Tape) (i:Input),w.os=os∧(w.forCall tape i).Shaped C.prog∧i.vars=[]∧Input.okWide C.prog (w.forCall tape i) .any w.heap.size f i∧
   ((s.pre enc C.prog fn conds y0d (w.forCall tape i).memory i.args∧laidMetH C.prog L (w.forCall tape i).memory)∧sizedMet enc C.prog fn (OpenSpec.ofChange s) y0d (w.forCall tape i).memory i.args)∧a.holds C.prog (lone (Frame.enter C.prog f i.args .normal) [] (w.forCall tape i)))
  (contract:∀ (W:World) (base:Nat) (args:Array Value) (ds gs:List (DataW H)) (before:List MemPlace),
   (∀ (j:Nat) t v,fn.params[j]?=some t→args[j]?=some v→Value.okWide C.prog W .any base t v)→
   DataW.Whole enc C.prog fn.params.toList s.vars y0d W args.toList ds gs before→laidMetH C.prog L W→W.ShapedOpen C.prog→
   Calls C.prog f args W fun e W'=>∃ v,e= .returned v∧s.post enc C.prog fn y0d fresh handsOn again W args v W'):
  ReturnsInHanded a C os f .any (fun w args=>(s.pre enc C.prog fn conds y0d w args∧laidMetH C.prog L w)∧sizedMet enc C.prog fn (OpenSpec.ofChange s) y0d w args) (s.post enc C.prog fn y0d fresh handsOn again):=by
 refine returnsInHanded_of_calls own started noInit witness ?_
 intro w tape i _ hsh _ hok hpre hholds
 obtain ⟨_,_,_,fn',hfn',_,_,_,_,hval⟩:=hok
 obtain rfl:fn'=fn:=Option.some.inj (hfn'.symm.trans hfn)
 obtain ⟨⟨⟨ds,gs,before,hw,hc⟩,hl⟩,hz⟩:=hpre
 have hw':=DataW.Whole.of_heap (w':=w.forCall tape i) (by rfl) hw
 refine (contract (w.forCall tape i) w.heap.size i.args ds gs before hval hw' (hl.of_heap (by rfl)) hsh).mono fun e W' ⟨v,he,hp⟩=>?_
 subst he
 exact ChangeSpec.post_blind hp
end Go.Proofs.YtejcgpekgbiooaaGreatDoor
end
section
namespace Go.Am
open D12
variable {fl fl':List Int→Bool}
theorem x81 {α β:Type} [DecidableEq β] (l:List α) (d:α) (f:α→β):((List.range l.length).any fun i=>(List.range i).any fun j=>decide (f (l.getD i d)=f (l.getD j d)))=!decide (l.map f).Nodup:=by
 rw [eCu,eCz]
 simp only [eCz,eBo,decide_eq_true_eq,eBy,decide_eq_false_iff_not]
 constructor
 ·rintro ⟨i,hi,j,hj,he⟩ hn
  have hj':j<l.length:=by omega
  rw [z2h (eAa hi),z2h (eAa hj')] at he
  have:=(List.getElem_inj (xs:=l.map f) (i:=i) (j:=j) (h₀:=by simpa using hi) (h₁:=by simpa using hj') hn).1 (by simpa using he)
  omega
 ·intro hn
  refine Decidable.byContradiction fun hno=>hn ?_
  rw [List.nodup_iff_pairwise_ne,eCa]
  intro i j hi hj hij he
  have hi':i<l.length:=by simpa using hi
  have hj':j<l.length:=by simpa using hj
  exact hno ⟨j,hj',i,hij,by
   rw [z2h (eAa hi'),z2h (eAa hj')]
   simpa using he.symm⟩
theorem y2a (x:Int):G58 std (x,())=some (decide (z6x x),()):=by
 unfold G58 z6x
 by_cases h1:1≤x
 ·simp only [z2d,z2e,z4b,Int.reduceLT,Int.reduceEq,Int.reduceLE,h1,true_and]
 ·simp only [z2d,z2e,z4b,Int.reduceLT,Int.reduceEq,Int.reduceLE,h1,false_and]
theorem y7c (k:Int):G59 std (k,())=some ((z3a k:Int),()):=by
 unfold G59 z3a
 by_cases h1:k=1
 ·simp [z2d,z2e,z4b,Int.reduceLT,Int.reduceEq,Int.reduceLE,h1]
 by_cases h2:k=2
 ·simp [z2d,z2e,z4b,Int.reduceLT,Int.reduceEq,Int.reduceLE,h2]
 by_cases h5:k=5
 ·simp [z2d,z2e,z4b,Int.reduceLT,Int.reduceEq,Int.reduceLE,h5]
 by_cases h3:k=3
 ·simp [z2d,z2e,z4b,Int.reduceLT,Int.reduceEq,Int.reduceLE,h3]
 by_cases h4:k=4
 ·simp [z2d,z2e,z4b,Int.reduceLT,Int.reduceEq,Int.reduceLE,h4]
 by_cases h6:k=6
 ·simp [z2d,z2e,z4b,Int.reduceLT,Int.reduceEq,Int.reduceLE,h6]
 simp [z2d,z2e,z4b,Int.reduceLT,Int.reduceEq,Int.reduceLE,h1,h2,h3,h4,h5,h6]
theorem w3n (k a:Int) (hk:z3a k≠0):G60 std (k,(a,()))=some (decide (w1p k a),()):=by
 unfold G60 w1p
 rcases y35 hk with ⟨hk,_⟩|⟨hk,_⟩|⟨hk,_⟩
 ·rcases hk with rfl|rfl|rfl
  ·by_cases h:1≤a<;>simp [z2d,z2e,z4b,Int.reduceLT,Int.reduceEq,Int.reduceLE,h]
  ·by_cases h:1≤a<;>simp [z2d,z2e,z4b,Int.reduceLT,Int.reduceEq,Int.reduceLE,h]
  ·simp [z2d,z2e,z4b,Int.reduceLT,Int.reduceEq,Int.reduceLE]
 ·rcases hk with rfl|rfl
  ·by_cases h:1≤a<;>simp [z2d,z2e,z4b,Int.reduceLT,Int.reduceEq,Int.reduceLE,h]
  ·simp [z2d,z2e,z4b,Int.reduceLT,Int.reduceEq,Int.reduceLE]
 ·subst hk
  by_cases h:0≤a<;>simp [z2d,z2e,z4b,Int.reduceLT,Int.reduceEq,Int.reduceLE,h]
theorem w2t (n k a:Int) (t:List Int) (i:Nat) (hi:i<t.length) (ht:t.length≤1000000):
  z5r (x9m std) (n,(k,(z1a t,(a,((i:Int),((0:Int),()))))))=some (if ((List.range i).any fun j=>decide (t.getD i 0=t.getD j 0))=true then .inl (16,()) else .inr (n,(k,(z1a t,(a,((i:Int),())))))):=
 z9b (b:=x9m std) i (fun j=>(n,(k,(z1a t,(a,((i:Int),((j:Int),()))))))) (fun j=>decide (t.getD i 0=t.getD j 0)) _ _ (fun j hj=>by
  obtain ⟨m,hm⟩:=z1v hi
  obtain ⟨m',hm'⟩:=z1v (l:=t) (i:=j) (by omega)
  obtain ⟨hw,h0'⟩:=stp j (by omega)
  have h0:(0:Int)≤i:=by omega
  have hlt:(j:Int)<i:=by omega
  simp only [z2h hm,z2h hm',x9m,z2d,z2e,z0p,z1a,z5s,y4y,z4b,Int.reduceLT,Int.reduceEq,Int.reduceLE,hm,hm',hlt,h0,h0',hw]) (by
  have hn:¬ (i:Int)<i:=by omega
  simp only [x9m,z2d,z2e,z0p,z1a,z5s,y4y,hn])
theorem w2u (n k a:Int) (t:List Int) (ht:t.length≤1000000):
  z5r (x9n std) (n,(k,(z1a t,(a,((0:Int),())))))=some (if (!decide t.Nodup)=true then .inl (16,()) else .inr (n,(k,(z1a t,(a,()))))):=by
 have key:=z9b (b:=x9n std) t.length (fun i=>(n,(k,(z1a t,(a,((i:Int),())))))) (fun i=>(List.range i).any fun j=>decide (t.getD i 0=t.getD j 0)) (.inl (16,())) (.inr (n,(k,(z1a t,(a,()))))) (fun i hi=>by
  obtain ⟨hw,h0⟩:=stp i (by omega)
  have hlt:(i:Int)<t.length:=by omega
  have h3:=w2t n k a t i hi ht
  simp only [x9n,z2d,z2e,z4b,Int.reduceLT,Int.reduceEq,Int.reduceLE,z00,hlt,h0,hw,h3]
  cases (List.range i).any fun j=>decide (t.getD i 0=t.getD j 0)<;>simp [hw]) (by
  have hn:¬ (t.length:Int)<t.length:=by omega
  simp only [x9n,z2d,z2e,z00,hn])
 have e:=x81 t 0 (fun x:Int=>x)
 rw [List.map_id'] at e
 rw [e] at key
 exact key
theorem w2v (n k a:Int) (t:List Int) (ht:t.length≤1000000):
  z5r (x9o std) (n,(k,(z1a t,(a,((0:Int),())))))=some (if (t.any fun x=>!decide (z6x x))=true then .inl (3,()) else .inr (n,(k,(z1a t,(a,()))))):=by
 have key:=z9b (b:=x9o std) t.length (fun i=>(n,(k,(z1a t,(a,((i:Int),())))))) (fun i=>!decide (z6x (t.getD i 0))) (.inl (3,())) (.inr (n,(k,(z1a t,(a,()))))) (fun i hi=>by
  obtain ⟨m,hm⟩:=z1v hi
  obtain ⟨hw,h0⟩:=stp i (by omega)
  have hlt:(i:Int)<t.length:=by omega
  simp only [z2h hm,x9o,z2d,z2e,z0p,z1a,z5s,y4y,z4b,Int.reduceLT,Int.reduceEq,Int.reduceLE,hm,hlt,h0,hw,y2a]
  by_cases e:z6x m<;>simp [e]) (by
  have hn:¬ (t.length:Int)<t.length:=by omega
  simp only [x9o,z2d,z2e,z0p,z1a,z5s,y4y,hn])
 rw [x21 t 0 fun x=>!decide (z6x x)] at key
 exact key
theorem w3r (c:Cd) (hc:c.t.length≤1000000):G18 std (c.n,(c.k,(z1a c.t,(c.a,()))))=some (z3d c,()):=by
 unfold G18 z3d
 have h1:=w2v c.n c.k c.a c.t hc
 have h2:=w2u c.n c.k c.a c.t hc
 have e1:(c.t.any fun x=>!decide (z6x x))=decide (∃ x∈c.t,¬ z6x x):=by
  rw [eCu]; simp
 rw [e1] at h1
 by_cases a1:z6x c.n
 ·by_cases a2:z3a c.k=0
  ·simp only [z2d,z2e,z4b,Int.reduceLT,Int.reduceEq,Int.reduceLE,y2a,y7c,a1,a2]
   simp
  ·have a2':¬ ((z3a c.k:Nat):Int)=0:=by omega
   by_cases a3:c.t.length=z3a c.k
   ·have a3':((c.t.length:Nat):Int)=(z3a c.k:Nat):=by omega
    by_cases a4:∃ x∈c.t,¬ z6x x
    ·simp only [a4,decide_true,if_true] at h1
     simp only [z2d,z2e,z4b,Int.reduceLT,Int.reduceEq,Int.reduceLE,y2a,y7c,z00,a1,a2,a2',a3,h1,a4]
     simp
    ·simp only [a4,decide_false,eAi,if_false] at h1
     by_cases a5:c.t.Nodup
     ·simp only [a5,decide_true,Bool.not_true,eAi,if_false] at h2
      by_cases a6:w1p c.k c.a
      ·simp only [z2d,z2e,z4b,Int.reduceLT,Int.reduceEq,Int.reduceLE,y2a,y7c,w3n _ _ a2,z00,a1,a2,a2',a3,h1,h2,a4,a5,a6]
       simp
      ·simp only [z2d,z2e,z4b,Int.reduceLT,Int.reduceEq,Int.reduceLE,y2a,y7c,w3n _ _ a2,z00,a1,a2,a2',a3,h1,h2,a4,a5,a6]
       simp
     ·simp only [a5,decide_false,eCq,if_true] at h2
      simp only [z2d,z2e,z4b,Int.reduceLT,Int.reduceEq,Int.reduceLE,y2a,y7c,z00,a1,a2,a2',a3,h1,h2,a4,a5]
      simp
   ·have a3':¬ ((c.t.length:Nat):Int)=(z3a c.k:Nat):=by omega
    simp only [z2d,z2e,z4b,Int.reduceLT,Int.reduceEq,Int.reduceLE,y2a,y7c,z00,a1,a2,a2',a3,a3']
    simp [a3]
 ·simp only [z2d,z2e,z4b,Int.reduceLT,Int.reduceEq,Int.reduceLE,y2a,a1]
  simp
def Few (l:List Cd):Prop:=∀ c∈l,c.t.length≤1000000
theorem w2r (l:List Cd) (hl:l.length≤1000000) (hf:Few l):
  z5r (x6m std) (z0p fl l,((0:Int),()))=some (match l.find? fun c=>!decide (z3d c=0) with|some c=> .inl (z3d c,())|none=> .inr (z0p fl l,())):=by
 have key:=z62 (b:=x6m std) l.length (fun i=>(z0p fl l,((i:Int),()))) (fun i=>!decide (z3d (l.getD i default)=0)) (fun i=> .inl (z3d (l.getD i default),())) (.inr (z0p fl l,())) (fun i hi=>by
  obtain ⟨m,hm⟩:=z1v hi
  obtain ⟨hw,h0⟩:=stp i (by omega)
  have hlt:(i:Int)<l.length:=by omega
  have h18:=w3r m (hf m (eAu hm))
  simp only [z1a] at h18
  simp only [z2h hm,x6m,z2d,z2e,z0p,z1a,z5s,y4y,z4b,Int.reduceLT,Int.reduceEq,Int.reduceLE,hm,hlt,h0,hw,h18]) (by
  have hn:¬ (l.length:Int)<l.length:=by omega
  simp only [x6m,z2d,z2e,z0p,z1a,z5s,y4y,hn])
 have key:z5r (x6m std) (z0p fl l,((0:Int),()))=_:=key
 rw [key]
 have e:=x4f l default fun c=>!decide (z3d c=0)
 cases h:(List.range l.length).find? fun i=>!decide (z3d (l.getD i default)=0) with
 |none=>rw [h] at e; simp only [Option.map_none] at e; rw [←e]
 |some i=>rw [h] at e; simp only [eBh] at e; rw [←e]
theorem w2p (l:List Cd) (i:Nat) (hi:i<l.length) (hl:l.length≤1000000):
  z5r (x9k std) (z0p fl l,((i:Int),((0:Int),())))=some (if ((List.range i).any fun j=>decide ((l.getD i default).n=(l.getD j default).n))=true then .inl (11,()) else .inr (z0p fl l,((i:Int),()))):=
 z9b (b:=x9k std) i (fun j=>(z0p fl l,((i:Int),((j:Int),())))) (fun j=>decide ((l.getD i default).n=(l.getD j default).n)) _ _ (fun j hj=>by
  obtain ⟨m,hm⟩:=z1v hi
  obtain ⟨m',hm'⟩:=z1v (l:=l) (i:=j) (by omega)
  obtain ⟨hw,h0'⟩:=stp j (by omega)
  have h0:(0:Int)≤i:=by omega
  have hlt:(j:Int)<i:=by omega
  simp only [z2h hm,z2h hm',x9k,z2d,z2e,z0p,z1a,z5s,y4y,z4b,Int.reduceLT,Int.reduceEq,Int.reduceLE,hm,hm',hlt,h0,h0',hw]) (by
  have hn:¬ (i:Int)<i:=by omega
  simp only [x9k,z2d,z2e,z0p,z1a,z5s,y4y,hn])
theorem w2q (l:List Cd) (hl:l.length≤1000000):
  z5r (x9l std) (z0p fl l,((0:Int),()))=some (if (!decide (l.map (·.n)).Nodup)=true then .inl (11,()) else .inr ()):=by
 have key:=z9b (b:=x9l std) l.length (fun i=>(z0p fl l,((i:Int),()))) (fun i=>(List.range i).any fun j=>decide ((l.getD i default).n=(l.getD j default).n)) (.inl (11,())) (.inr ()) (fun i hi=>by
  obtain ⟨hw,h0⟩:=stp i (by omega)
  have hlt:(i:Int)<l.length:=by omega
  have h3:=w2p (fl:=fl) l i hi hl
  simp only [x9l,z2d,z2e,z4b,Int.reduceLT,Int.reduceEq,Int.reduceLE,z2i,hlt,h0,hw,h3]
  cases (List.range i).any fun j=>decide ((l.getD i default).n=(l.getD j default).n)<;>simp [hw]) (by
  have hn:¬ (l.length:Int)<l.length:=by omega
  simp only [x9l,z2d,z2e,z2i,hn])
 rw [x81 l default (·.n)] at key
 exact key
theorem w8x (l:List Cd) (hf:Few l):G20 std (z0p fl l,())=some (z4y l,()):=by
 unfold G20 z4y
 by_cases a1:60<l.length
 ·have a1':(60:Int)<l.length:=by omega
  simp only [z2d,z2e,z4b,Int.reduceLT,Int.reduceEq,Int.reduceLE,z2i,a1,a1']
 ·have a1':¬ (60:Int)<l.length:=by omega
  have h1:=w2r (fl:=fl) l (by omega) hf
  have h2:=w2q (fl:=fl) l (by omega)
  cases hq:l.find? fun c=>!decide (z3d c=0) with
  |some c=>
   rw [hq] at h1
   simp only [z2d,z2e,z4b,Int.reduceLT,Int.reduceEq,Int.reduceLE,z2i,a1,a1',h1]
  |none=>
   rw [hq] at h1
   by_cases a2:(l.map (·.n)).Nodup
   ·simp only [a2,decide_true,Bool.not_true,eAi,if_false] at h2
    simp only [z2d,z2e,z4b,Int.reduceLT,Int.reduceEq,Int.reduceLE,z2i,a1,a1',h1,h2,a2]
   ·simp only [a2,decide_false,eCq,if_true] at h2
    simp only [z2d,z2e,z4b,Int.reduceLT,Int.reduceEq,Int.reduceLE,z2i,a1,a1',h1,h2,a2]
theorem x0p {l:List Cd} (h:x8g l=false):Few l∧l.length≤70∧∀ c∈l,c.t.length≤10:=by
 unfold x8g at h
 simp only [Bool.or_eq_false_iff,decide_eq_false_iff_not,List.any_eq_false,decide_eq_true_eq] at h
 exact ⟨fun c hc=>by have:=h.2 c hc; omega,by omega,fun c hc=>by have:=h.2 c hc; omega⟩
end Go.Am
end
section
namespace Go.Proofs
def x5z:Go.Shelf.Ren:=⟨fun|40=>200|30=>179|32=>181|31=>180|34=>183|33=>182|35=>184|20=>160|19=>159|18=>158|17=>157|16=>156|15=>155|14=>154|13=>153|12=>152|11=>151|10=>150|7=>134|8=>135|5=>108|n=>n,fun|64=>221|63=>220|53=>199|57=>203|9=>9|5=>5|46=>100|44=>183|41=>135|35=>175|36=>176|4=>4|0=>0|22=>27|32=>162|3=>3|25=>2|23=>27|n=>n,fun|n=>n⟩
theorem x77 : Go.Proofs.SlLaysM.n5 Tryz.prog x5z :=
  { mixed := by kernel_rfl,
    f5 := by first | exact ⟨Tryz.f108.name, by decide, Tryz.func108.trans (congrArg some (by kernel_rfl))⟩ | exact Tryz.func108.trans (congrArg some (by kernel_rfl)),
    f7 := by first | exact ⟨Tryz.f134.name, by decide, Tryz.func134.trans (congrArg some (by kernel_rfl))⟩ | exact Tryz.func134.trans (congrArg some (by kernel_rfl)),
    f8 := by first | exact ⟨Tryz.f135.name, by decide, Tryz.func135.trans (congrArg some (by kernel_rfl))⟩ | exact Tryz.func135.trans (congrArg some (by kernel_rfl)),
    f10 := by first | exact ⟨Tryz.f150.name, by decide, Tryz.func150.trans (congrArg some (by kernel_rfl))⟩ | exact Tryz.func150.trans (congrArg some (by kernel_rfl)),
    f11 := by first | exact ⟨Tryz.f151.name, by decide, Tryz.func151.trans (congrArg some (by kernel_rfl))⟩ | exact Tryz.func151.trans (congrArg some (by kernel_rfl)),
    f12 := by first | exact ⟨Tryz.f152.name, by decide, Tryz.func152.trans (congrArg some (by kernel_rfl))⟩ | exact Tryz.func152.trans (congrArg some (by kernel_rfl)),
    f13 := by first | exact ⟨Tryz.f153.name, by decide, Tryz.func153.trans (congrArg some (by kernel_rfl))⟩ | exact Tryz.func153.trans (congrArg some (by kernel_rfl)),
    f14 := by first | exact ⟨Tryz.f154.name, by decide, Tryz.func154.trans (congrArg some (by kernel_rfl))⟩ | exact Tryz.func154.trans (congrArg some (by kernel_rfl)),
    f15 := by first | exact ⟨Tryz.f155.name, by decide, Tryz.func155.trans (congrArg some (by kernel_rfl))⟩ | exact Tryz.func155.trans (congrArg some (by kernel_rfl)),
    f16 := by first | exact ⟨Tryz.f156.name, by decide, Tryz.func156.trans (congrArg some (by kernel_rfl))⟩ | exact Tryz.func156.trans (congrArg some (by kernel_rfl)),
    f17 := by first | exact ⟨Tryz.f157.name, by decide, Tryz.func157.trans (congrArg some (by kernel_rfl))⟩ | exact Tryz.func157.trans (congrArg some (by kernel_rfl)),
    f18 := by first | exact ⟨Tryz.f158.name, by decide, Tryz.func158.trans (congrArg some (by kernel_rfl))⟩ | exact Tryz.func158.trans (congrArg some (by kernel_rfl)),
    f19 := by first | exact ⟨Tryz.f159.name, by decide, Tryz.func159.trans (congrArg some (by kernel_rfl))⟩ | exact Tryz.func159.trans (congrArg some (by kernel_rfl)),
    f20 := by first | exact ⟨Tryz.f160.name, by decide, Tryz.func160.trans (congrArg some (by kernel_rfl))⟩ | exact Tryz.func160.trans (congrArg some (by kernel_rfl)),
    f30 := by first | exact ⟨Tryz.f179.name, by decide, Tryz.func179.trans (congrArg some (by kernel_rfl))⟩ | exact Tryz.func179.trans (congrArg some (by kernel_rfl)),
    f31 := by first | exact ⟨Tryz.f180.name, by decide, Tryz.func180.trans (congrArg some (by kernel_rfl))⟩ | exact Tryz.func180.trans (congrArg some (by kernel_rfl)),
    f32 := by first | exact ⟨Tryz.f181.name, by decide, Tryz.func181.trans (congrArg some (by kernel_rfl))⟩ | exact Tryz.func181.trans (congrArg some (by kernel_rfl)),
    f33 := by first | exact ⟨Tryz.f182.name, by decide, Tryz.func182.trans (congrArg some (by kernel_rfl))⟩ | exact Tryz.func182.trans (congrArg some (by kernel_rfl)),
    f34 := by first | exact ⟨Tryz.f183.name, by decide, Tryz.func183.trans (congrArg some (by kernel_rfl))⟩ | exact Tryz.func183.trans (congrArg some (by kernel_rfl)),
    f35 := by first | exact ⟨Tryz.f184.name, by decide, Tryz.func184.trans (congrArg some (by kernel_rfl))⟩ | exact Tryz.func184.trans (congrArg some (by kernel_rfl)),
    f40 := by first | exact ⟨Tryz.f200.name, by decide, Tryz.func200.trans (congrArg some (by kernel_rfl))⟩ | exact Tryz.func200.trans (congrArg some (by kernel_rfl)),
    t0 := by exact Tryz.underlying0,
    a0 := by exact Tryz.isAgg0,
    z0 := by exact Tryz.sizeOf0,
    v0 := by exact Tryz.zeroValue0,
    t3 := by exact Tryz.underlying3,
    a3 := by exact Tryz.isAgg3,
    z3 := by exact Tryz.sizeOf3,
    v3 := by exact Tryz.zeroValue3,
    t4 := by exact Tryz.underlying4,
    a4 := by exact Tryz.isAgg4,
    z4 := by exact Tryz.sizeOf4,
    v4 := by exact Tryz.zeroValue4,
    t5 := by exact Tryz.underlying5,
    a5 := by exact Tryz.isAgg5,
    z5 := by exact Tryz.sizeOf5,
    v5 := by exact Tryz.zeroValue5,
    t9 := by exact Tryz.underlying9,
    a9 := by exact Tryz.isAgg9,
    z9 := by exact Tryz.sizeOf9,
    v9 := by exact Tryz.zeroValue9,
    t22 := by exact Tryz.underlying27,
    a22 := by exact Tryz.isAgg27,
    z22 := by exact Tryz.sizeOf27,
    v22 := by exact Tryz.zeroValue27,
    t23 := by exact Tryz.underlying27,
    a23 := by exact Tryz.isAgg27,
    z23 := by exact Tryz.sizeOf27,
    v23 := by exact Tryz.zeroValue27,
    t25 := by exact Tryz.underlying2,
    a25 := by exact Tryz.isAgg2,
    z25 := by exact Tryz.sizeOf2,
    v25 := by exact Tryz.zeroValue2,
    t32 := by exact Tryz.underlying162,
    a32 := by exact Tryz.isAgg162,
    z32 := by exact Tryz.sizeOf162,
    v32 := by exact Tryz.zeroValue162,
    t35 := by exact Tryz.underlying175,
    a35 := by exact Tryz.isAgg175,
    z35 := by exact Tryz.sizeOf175,
    v35 := by exact Tryz.zeroValue175,
    t36 := by exact Tryz.underlying176,
    a36 := by exact Tryz.isAgg176,
    z36 := by exact Tryz.sizeOf176,
    v36 := by exact Tryz.zeroValue176,
    t41 := by exact Tryz.underlying135,
    a41 := by exact Tryz.isAgg135,
    z41 := by exact Tryz.sizeOf135,
    v41 := by exact Tryz.zeroValue135,
    t44 := by exact Tryz.underlying183,
    a44 := by exact Tryz.isAgg183,
    z44 := by exact Tryz.sizeOf183,
    v44 := by exact Tryz.zeroValue183,
    t46 := by exact Tryz.underlying100,
    a46 := by exact Tryz.isAgg100,
    z46 := by exact Tryz.sizeOf100,
    v46 := by exact Tryz.zeroValue100,
    t53 := by exact Tryz.underlying199,
    a53 := by exact Tryz.isAgg199,
    z53 := by exact Tryz.sizeOf199,
    v53 := by exact Tryz.zeroValue199,
    t57 := by exact Tryz.underlying203,
    a57 := by exact Tryz.isAgg203,
    z57 := by exact Tryz.sizeOf203,
    v57 := by exact Tryz.zeroValue203,
    t63 := by exact Tryz.underlying220,
    a63 := by exact Tryz.isAgg220,
    z63 := by exact Tryz.sizeOf220,
    v63 := by exact Tryz.zeroValue220,
    t64 := by exact Tryz.underlying221,
    a64 := by exact Tryz.isAgg221,
    z64 := by exact Tryz.sizeOf221,
    v64 := by exact Tryz.zeroValue221 }
end Go.Proofs
namespace Go.Am
open Go Go.Proofs
noncomputable def y6x:Ctr:=⟨108,[.full 0 1],[.row [(Go.Am.CK.int Go.IntKind.i64)]],[(.ret,⟨[(0, .tuple [])],[.row [(Go.Am.CK.int Go.IntKind.i64)]],1⟩)]⟩
noncomputable def w6a (_:Prim) (x:List (List D)×Unit):Option (List (List D)×Unit):=
 match y8b x.1 with
 |some l=>bif Nat.ble l.length 1000000 then some (z1u (D12.srt l),()) else none
 |none=>none
noncomputable def w9l:Prim→Tup (y6x).scs→Option (STup (scss (y6x).outs)):=fun p x=>w6a p x
theorem w4e:CtrOk Tryz.prog y6x (w9l std):=by
 refine ⟨enters_of Tryz.func108 rfl rfl,fun x y hy=>?_⟩
 obtain ⟨es,u⟩:=x
 change w6a std (es,u)=_ at hy
 unfold w6a at hy
 simp only at hy
 split at hy
 ·rename_i l hl
  cases hb:Nat.ble l.length 1000000 with
  |false=>rw [hb] at hy; cases hy
  |true=>
   rw [hb] at hy
   cases hy
   have hb:=eAf hb
   have hes:=y2r hl
   subst hes
   refine ⟨by show 1≤1; omega,?_⟩
   have:=x5j (P:=Tryz.prog) (f:=108) (AnyM.slices_Sort_int x77) (AnyM.slices_Sort_int_none x77) (zs:=l) (by omega) (some l.length)
   have e:(z1u l).length=l.length:=by simp [z1u]
   show z2z _ 108 [.slice 0 1 0 (z1u l).length (some (z1u l).length)] [.row (z1u l)] (.tuple []) [.row (z1u (D12.srt l))]
   rw [e]
   exact this
 ·cases hy
end Go.Am
end
noncomputable section
namespace Go.Am
def x84:Ctr:=
 ⟨109,[.slc 0 1],[o3m],[(.ret,⟨[(0, .slc 0 1)],[o3m],1⟩)]⟩
def v0h:List LA:=
 [⟨109,[fU,tU,fU,tU,tU],1,⟨⟨[(0, .slc 0 1),(3, .int .i64)],[o3m],61⟩,[(AX.ret,⟨[(2, .slc 0 1)],[o3m],61⟩),((AX.exit 0),⟨[(0, .slc 0 1)],[o3m],61⟩)]⟩⟩,
 ⟨109,[fU,tU,fU,tU,fU,tU,fU,fU,tU,fU,fU,tU,fU,tU,tU],1,⟨⟨[(0, .slc 0 1),(3, .int .i64),(4, .slc 0 1),(5, .int .i64)],[o3m],61⟩,[((AX.exit 2),⟨[(0, .slc 0 1),(3, .int .i64)],[o3m],61⟩)]⟩⟩]
def v0o:List JA:=
 [⟨109,[tU,fU,fU,tU,fU,fU,tU,fU,tU,fU,tU,fU,fU,tU,fU,fU,tU,fU,tU,tU],1,[(AX.normal,⟨[(0, .slc 0 1),(3, .int .i64),(4, .slc 0 1),(5, .int .i64)],[o3m],61⟩)]⟩]
def w7m:List CF:=
 []
def v1p:Anns:=
 ⟨w7m,v0o,[]⟩
def y66 (p:Prim):V5v→Option (V5v⊕(LD×V10v)):=
 fun a=>let A:=a.2.2.2.2.2.2.2.2.1;let F:=p.ofNat a.2.2.2.2.2.2.1;let B:=bif (p.cmp .geq A (0:Int)) then (p.cmp .lss A F) else Bool.false;let C:=p.add a.2.2.2.2.2.1 (p.nat A);let E:=p.ar .sub .i64 A (1:Int);let G:=a.2.2.2.2.1;let H:=p.add a.2.2.2.2.2.1 (p.nat E);let I:=p.add a.2.1 (p.nat G); opt.run _ (
 opt.ask _ (p.cmp .lss A F) (
 opt.need _ B<|
 opt.need _ (p.rowOk a.1 C [ci])<|
 opt.need _ (bif (p.cmp .geq E (0:Int)) then (p.cmp .lss E F) else Bool.false)<|
 opt.need _ (p.rowOk a.1 H [ci])<|
 opt.bnd (V5v) _ (
 opt.run (V5v) (
 opt.ask _ (p.cmp .neq (p.rdI a.1 C 0) (p.rdI a.1 H 0)) (
 opt.need _ B<|
 opt.need _ (p.rowOk a.1 C [ci])<|
 opt.need _ (bif (p.cmp .geq G (0:Int)) then (p.cmp .lss G (p.ofNat a.2.2.1)) else Bool.false)<|
 opt.need _ (p.rowOk a.1 I [ci])<|
 opt.ret _ ((p.set a.1 I [(D.int .i64 (p.rdI a.1 C 0))]),(a.2.1,(a.2.2.1,(a.2.2.2.1,((p.ar .add .i64 G (1:Int)),a.2.2.2.2.2)))))) (
 opt.ret _ a))) fun b=>
 opt.ret _ (Sum.inl (b.1,(b.2.1,(b.2.2.1,(b.2.2.2.1,(b.2.2.2.2.1,(b.2.2.2.2.2.1,(b.2.2.2.2.2.2.1,(b.2.2.2.2.2.2.2.1,((p.ar .add .i64 b.2.2.2.2.2.2.2.2.1 (1:Int)),()))))))))))) (
 opt.ret _ (Sum.inr (a.1,(a.2.1,(a.2.2.1,(a.2.2.2.1,(G,()))))))))
def y67 (p:Prim):(LD×V10v)→Option ((LD×V10v)⊕(V3v⊕V3v)):=
 fun a=>let A:=a.2.2.2.2.1;let B:=p.ofNat a.2.2.1;let C:=p.ar .sub .i64 A (1:Int);let G:=(0:Int);let H:=p.add a.2.1 (p.nat A);let J:=a.2.2.2.1;let K:=p.add a.2.1 (p.nat C); opt.run _ (
 opt.ask _ (p.cmp .lss A B) (
 opt.need _ (bif (p.cmp .geq A G) then (p.cmp .lss A B) else Bool.false)<|
 opt.need _ (p.rowOk a.1 H [ci])<|
 opt.need _ (bif (p.cmp .geq C G) then (p.cmp .lss C B) else Bool.false)<|
 opt.need _ (p.rowOk a.1 K [ci])<|
 opt.ask _ (p.cmp .eql (p.rdI a.1 H 0) (p.rdI a.1 K 0)) (
 opt.need _ (p.and (p.cmp .geq A G) (p.and (p.cmp .leq A B) (p.cmp .leq B B)))<|
 opt.bnd ((LD×V10v)) _ (
 z5r (y66 p) (a.1,(a.2.1,(a.2.2.1,(J,(A,(H,((p.sub (p.nat B) (p.nat A)),((p.sub J (p.nat A)),((1:Int),())))))))))) fun b=>let E:=p.ofNat b.2.2.1;let F:=b.2.2.2.2.1;let I:=p.nat F;
 opt.need _ (p.and (p.cmp .geq F G) (p.and (p.cmp .leq F E) (p.cmp .leq E E)))<|
 opt.need _ (p.leN (p.add (p.add b.2.1 I) (p.sub (p.nat E) I)) (p.len b.1))<|
 opt.need _ (p.and (p.cmp .geq G G) (p.and (p.cmp .leq G F) (p.cmp .leq F E)))<|
 opt.ret _ (Sum.inr (Sum.inl ((p.splice b.1 (p.add b.2.1 I) (p.rep (p.sub (p.nat E) I) [(D.int .i64 G)])),((p.add b.2.1 (p.nat G)),((p.sub I (p.nat G)),((p.sub b.2.2.2.1 (p.nat G)),()))))))) (
 opt.ret _ (Sum.inl (a.1,(a.2.1,(a.2.2.1,(J,((p.ar .add .i64 A (1:Int)),())))))))) (
 opt.ret _ (Sum.inr (Sum.inr (a.1,(a.2.1,(a.2.2.1,(J,()))))))))
def w2z:(p:Prim)→V3v→Option (V3v):=
 fun p x=>
 opt.ask _ (p.cmp .lss (p.ofNat x.2.2.1) (2:Int)) (
 opt.ret _ x) (
 opt.alt (V3v) (V3v) _ (
 z5r (y67 p) (x.1,(x.2.1,(x.2.2.1,(x.2.2.2.1,((1:Int),())))))) (fun a=>
 opt.ret _ a) (fun b=>
 opt.bnd (V3v) _ (some b) fun c=>
 opt.ret _ c))
theorem w66:CtrOk PG x84 (w2z std):=okF vE (a:=v1p) (l:=v0h) (gN)
def w8d:Ctr:=
 ⟨57,[.list 1],[],[(.ret,⟨[(0, .list 1)],[],1⟩)]⟩
def la57:List LA:=
 []
def ja57:List JA:=
 []
def v05:List CF:=
 [⟨x84,w2z⟩,⟨y6x,w9l⟩]
def an57:Anns:=
 ⟨v05,ja57,[]⟩
def G57:(p:Prim)→V7v→Option (V7v):=
 fun p x=>let A:=p.ofNat (p.len x.1);let C:=p.nat A;let B:=p.rep C [(D.int .i64 (0:Int))];let E:=p.eqN C (p.len (p.splice B 0 x.1));
 opt.need _ (p.and (p.cmp .geq A (0:Int)) (p.and (p.cmp .leq A A) (p.cmp .leq A (1000000:Int))))<|
 opt.need _ (p.and Bool.true (p.and (p.leN (p.len x.1) C) (p.leN (p.add 0 C) (p.len B))))<|
 opt.need _ (p.eqN 0 0)<|
 opt.need _ E<|
 opt.need _ E<|
 opt.bnd (V7v) _ (w6a p ((p.splice B 0 x.1),())) fun a=>
 opt.bnd (V3v) _ (w2z p (a.1,(0,(C,(C,()))))) fun b=>
 opt.need _ (p.leN (p.add b.2.1 b.2.2.1) (p.len b.1))<|
 opt.ret _ ((p.cut b.1 b.2.1 b.2.2.1),())
theorem w95:CtrOk PG w8d (G57 std):=okF vE (a:=an57) (l:=la57) (gC w66 (gC w4e (gN)))
def w5w:Ctr:=
 ⟨55,[.int .i64],[],[(.ret,⟨[(0, .agg [.str, .int .i64, .int .i64, .int .i64])],[],1⟩)]⟩
def la55:List LA:=
 []
def ja55:List JA:=
 [⟨55,[tU,tU,tU,tU,tU,tU,tU,tU,tU,fU,tU,fU,tU],0,[(AX.ret,⟨[(2, .bptr 0 0)],[o1m],23⟩),(AX.normal,⟨[(2, .bptr 0 0)],[o1m],23⟩)]⟩,
 ⟨55,[tU,tU,tU,tU,tU,fU,tU,fU,tU],0,[(AX.ret,⟨[(2, .bptr 0 0)],[o1m],23⟩),(AX.normal,⟨[(2, .bptr 0 0)],[o1m],23⟩)]⟩,
 ⟨55,[tU,tU,tU,tU,tU,tU,tU,fU,tU,fU,tU],0,[(AX.ret,⟨[(2, .bptr 0 0)],[o1m],23⟩),(AX.normal,⟨[(2, .bptr 0 0)],[o1m],23⟩)]⟩,
 ⟨55,[tU,fU,tU,fU,tU],0,[(AX.ret,⟨[(2, .bptr 0 0)],[o1m],23⟩),(AX.normal,⟨[(2, .bptr 0 0)],[o1m],23⟩)]⟩,
 ⟨55,[tU,tU,tU,fU,tU,fU,tU],0,[(AX.ret,⟨[(2, .bptr 0 0)],[o1m],23⟩),(AX.normal,⟨[(2, .bptr 0 0)],[o1m],23⟩)]⟩]
def v07:List CF:=
 []
def an55:Anns:=
 ⟨v07,ja55,[]⟩
def G55:(p:Prim)→V0v→Option (V1v):=
 fun p x=>let E:=(0:Int);let A:=(E,(E,()));let B:=(1:Int);let C:=((ByteArray.mk #[]),(E,A));
 opt.alt (V1v) (V1v) _ (
 opt.run ((V1v⊕V1v)) (
 opt.ask _ (p.cmp .eql x.1 B) (
 opt.ret _ (Sum.inl ((ByteArray.mk #[101,110,116,101,114]),(B,(B,((1000000:Int),())))))) (
 opt.alt (V1v) (V1v) _ (
 opt.run ((V1v⊕V1v)) (
 opt.ask _ (p.cmp .eql x.1 (2:Int)) (
 opt.ret _ (Sum.inl ((ByteArray.mk #[98,117,114,110]),(B,(B,((10000:Int),())))))) (
 opt.alt (V1v) (V1v) _ (
 opt.run ((V1v⊕V1v)) (
 opt.ask _ (p.cmp .eql x.1 (3:Int)) (
 opt.ret _ (Sum.inl ((ByteArray.mk #[99,111,109,112,97,114,101]),((2:Int),(B,((100000:Int),())))))) (
 opt.alt (V1v) (V1v) _ (
 opt.run ((V1v⊕V1v)) (
 opt.ask _ (p.cmp .eql x.1 (4:Int)) (
 opt.ret _ (Sum.inl ((ByteArray.mk #[114,101,112,108,97,99,101]),((2:Int),A)))) (
 opt.alt (V1v) (V1v) _ (
 opt.run ((V1v⊕V1v)) (
 opt.ask _ (p.cmp .eql x.1 (5:Int)) (
 opt.ret _ (Sum.inl ((ByteArray.mk #[111,117,116]),(B,A)))) (
 opt.ask _ (p.cmp .eql x.1 (6:Int)) (
 opt.ret _ (Sum.inl ((ByteArray.mk #[99,108,97,105,109]),((3:Int),(E,((1000000:Int),())))))) (
 opt.ret _ (Sum.inr C))))) (fun a=>
 opt.ret _ (Sum.inl a)) (fun b=>
 opt.bnd (V1v) _ (some b) fun c=>
 opt.ret _ (Sum.inr c))))) (fun d=>
 opt.ret _ (Sum.inl d)) (fun e=>
 opt.bnd (V1v) _ (some e) fun f=>
 opt.ret _ (Sum.inr f))))) (fun g=>
 opt.ret _ (Sum.inl g)) (fun h=>
 opt.bnd (V1v) _ (some h) fun i=>
 opt.ret _ (Sum.inr i))))) (fun j=>
 opt.ret _ (Sum.inl j)) (fun k=>
 opt.bnd (V1v) _ (some k) fun l=>
 opt.ret _ (Sum.inr l))))) (fun m=>
 opt.ret _ m) (fun n=>
 opt.bnd (V1v) _ (some n) fun o=>
 opt.ret _ C)
theorem v2c:CtrOk PG w5w (G55 std):=okF vE (a:=an55) (l:=la55) (gN)
def w3f:Ctr:=
 ⟨107,[.int .i64, .bptr 0 0, .bptr 1 0],o4m,[(.ret,⟨[(0, .bool)],o4m,1⟩)]⟩
def v0i:List LA:=
 []
def v0p:List JA:=
 [⟨107,[fU,tU],2,[(AX.normal,⟨[(4, .bool)],o4m,13⟩)]⟩]
def w7n:List CF:=
 []
def v1q:Anns:=
 ⟨w7n,v0p,[]⟩
def w8y:(p:Prim)→V17v→Option (V9v):=
 fun p x=>
 opt.bnd (V9v) _ (
 opt.run (V9v) (
 opt.ask _ (p.cmp .lss x.2.2.1 x.1) (
 opt.ret _ (x.1,(x.2.1,(Bool.true,())))) (
 opt.ret _ (x.1,(x.2.1,((p.cmp .gtr x.2.2.1 x.2.1),())))))) fun a=>
 opt.ret _ a
theorem v0a:CtrOk PG w3f (w8y std):=okF vE (a:=v1q) (l:=v0i) (gN)
def w3e:Ctr:=
 ⟨133,[.list 1, .clo 107 [] [.bptr 0 0, .bptr 1 0]],o4m,[(.ret,⟨[(0, .int .i64)],o4m,1⟩)]⟩
def v0g:List LA:=
 [⟨133,[fU,tU,fU,tU],2,⟨⟨[(0, .list 1),(1, .clo 107 [] [.bptr 0 0, .bptr 1 0]),(7, .int .i64),(8, .int .i64)],o4m,19⟩,[(AX.ret,⟨[(4, .int .i64)],o4m,19⟩),((AX.exit 0),⟨[],o4m,19⟩)]⟩⟩]
def v0n:List JA:=
 []
def w7l:List CF:=
 [⟨w3f,w8y⟩]
def v1o:Anns:=
 ⟨w7l,v0n,[]⟩
def x1b (p:Prim):V4v→Option (V4v⊕(V17v⊕V8v)):=
 fun a=>let A:=a.2.2.2.2.1; opt.run _ (
 opt.ask _ (p.cmp .lss A a.2.2.2.1) (
 opt.need _ (p.rowOk a.2.2.1 (p.nat A) [ci])<|
 opt.need _ (p.cmp .geq A (0:Int))<|
 opt.bnd (V9v) _ (w8y p (a.1,(a.2.1,((p.rdI a.2.2.1 (p.nat A) 0),())))) fun b=>
 opt.ask _ b.2.2.1 (
 opt.ret _ (Sum.inr (Sum.inl (b.1,(b.2.1,a.2.2.2.2))))) (
 opt.ret _ (Sum.inl (b.1,(b.2.1,(a.2.2.1,(a.2.2.2.1,((p.ar .add .i64 A (1:Int)),())))))))) (
 opt.ret _ (Sum.inr (Sum.inr (a.1,(a.2.1,()))))))
def w9j:(p:Prim)→(Int×(Int×V7v))→Option (V17v):=
 fun p x=>
 opt.alt (V17v) (V8v) _ (
 z5r (x1b p) (x.1,(x.2.1,(x.2.2.1,((p.ofNat (p.len x.2.2.1)),((0:Int),())))))) (fun a=>
 opt.ret _ a) (fun b=>
 opt.bnd (V8v) _ (some b) fun c=>
 opt.ret _ (c.1,(c.2.1,((-1:Int),()))))
theorem w96:CtrOk PG w3e (w9j std):=okF vE (a:=v1o) (l:=v0g) (gC v0a (gN))
def w3g:Ctr:=
 ⟨106,[.list 1, .clo 107 [] [.bptr 0 0, .bptr 1 0]],o4m,[(.ret,⟨[(0, .bool)],o4m,1⟩)]⟩
def v0j:List LA:=
 []
def v0q:List JA:=
 []
def w7o:List CF:=
 [⟨w3e,w9j⟩]
def v1r:Anns:=
 ⟨w7o,v0q,[]⟩
def w9k:(p:Prim)→(Int×(Int×V7v))→Option (V9v):=
 fun p x=>
 opt.bnd (V17v) _ (w9j p x) fun a=>
 opt.ret _ (a.1,(a.2.1,((p.cmp .geq a.2.2.1 (0:Int)),())))
theorem v0b:CtrOk PG w3g (w9k std):=okF vE (a:=v1r) (l:=v0j) (gC w96 (gN))
def w8e:Ctr:=
 ⟨56,[.int .i64, .int .i64, .list 1],[],[(.ret,⟨[(0, .bool)],[],1⟩)]⟩
def la56:List LA:=
 []
def ja56:List JA:=
 []
def v06:List CF:=
 [⟨w3g,w9k⟩]
def an56:Anns:=
 ⟨v06,ja56,[]⟩
def G56:(p:Prim)→(Int×(Int×V7v))→Option (V2v):=
 fun p x=>
 opt.bnd (V9v) _ (w9k p x) fun a=>
 opt.ret _ ((bif a.2.2.1 then Bool.false else Bool.true),())
theorem ok56:CtrOk PG w8e (G56 std):=okF vE (a:=an56) (l:=la56) (gC v0b (gN))
def w5y:Ctr:=
 ⟨17,[.agg [.int .i64, .int .i64, .list 1, .int .i64]],[],[(.ret,⟨[(0, .int .i64)],[],1⟩)]⟩
def la17:List LA:=
 []
def ja17:List JA:=
 [⟨17,[fU,fU,fU,tU,tU],0,[(AX.normal,⟨[(1, .bptr 0 0),(3, .bptr 1 0),(7, .bool)],[o0m,o1m],48⟩)]⟩,
 ⟨17,[tU,tU,tU,fU,fU,tU,tU],0,[(AX.ret,⟨[(2, .int .i64)],[],48⟩),(AX.normal,⟨[],[],48⟩)]⟩,
 ⟨17,[tU,tU,tU,tU,tU,fU,fU,tU,tU],0,[(AX.ret,⟨[(2, .int .i64)],[],48⟩),(AX.normal,⟨[],[],48⟩)]⟩,
 ⟨17,[tU,tU,tU,tU,tU,tU,tU,fU,fU,tU,tU],0,[(AX.ret,⟨[(2, .int .i64)],[],48⟩),(AX.normal,⟨[],[],48⟩)]⟩,
 ⟨17,[tU,fU,fU,tU,tU],0,[(AX.ret,⟨[(2, .int .i64)],[],48⟩),(AX.normal,⟨[],[],48⟩)]⟩]
def v1b:List CF:=
 [⟨w8d,G57⟩,⟨w8e,G56⟩,⟨w5w,G55⟩]
def an17:Anns:=
 ⟨v1b,ja17,[]⟩
def G17:(p:Prim)→V6v→Option (V0v):=
 fun p x=>let A:=(0:Int);
 opt.bnd (V1v) _ (G55 p (x.2.1,())) fun a=>
 opt.bnd (V16v) _ (
 opt.run (V16v) (
 opt.bnd (V2v) _ (G56 p ((1:Int),((1099511627776:Int),([[(D.int .i64 x.1)]],())))) fun b=>
 opt.ask _ (bif b.1 then Bool.false else Bool.true) (
 opt.ret _ (x.1,(x.2.1,(x.2.2.1,(x.2.2.2.1,(a.1,(a.2.1,(a.2.2.1,(a.2.2.2.1,(Bool.true,())))))))))) (
 opt.ret _ (x.1,(x.2.1,(x.2.2.1,(x.2.2.2.1,(a.1,(a.2.1,(a.2.2.1,(a.2.2.2.1,((bif (p.strEq a.1 (ByteArray.mk #[])) then (bif (p.cmp .eql a.2.1 A) then (bif (p.cmp .eql a.2.2.1 A) then (bif (p.cmp .eql a.2.2.2.1 A) then Bool.true else Bool.false) else Bool.false) else Bool.false) else Bool.false),())))))))))))) fun c=>
 opt.alt (V0v) (Unit) _ (
 opt.run ((V0v⊕Unit)) (
 opt.ask _ c.2.2.2.2.2.2.2.2.1 (
 opt.ret _ (Sum.inl ((2:Int),()))) (
 opt.alt (V0v) (Unit) _ (
 opt.run ((V0v⊕Unit)) (
 opt.ask _ (p.cmp .neq (p.ofNat (p.len c.2.2.1)) c.2.2.2.2.2.1) (
 opt.ret _ (Sum.inl ((6:Int),()))) (
 opt.bnd (V2v) _ (G56 p ((1:Int),((1099511627776:Int),(c.2.2.1,())))) fun d=>
 opt.alt (V0v) (Unit) _ (
 opt.run ((V0v⊕Unit)) (
 opt.ask _ (bif d.1 then Bool.false else Bool.true) (
 opt.ret _ (Sum.inl ((3:Int),()))) (
 opt.bnd (V7v) _ (G57 p (c.2.2.1,())) fun e=>
 opt.alt (V0v) (Unit) _ (
 opt.run ((V0v⊕Unit)) (
 opt.ask _ (p.cmp .neq (p.ofNat (p.len e.1)) c.2.2.2.2.2.1) (
 opt.ret _ (Sum.inl ((16:Int),()))) (
 opt.bnd (V2v) _ (G56 p (c.2.2.2.2.2.2.1,(c.2.2.2.2.2.2.2.1,([[(D.int .i64 c.2.2.2.1)]],())))) fun f=>
 opt.ask _ (bif f.1 then Bool.false else Bool.true) (
 opt.ret _ (Sum.inl ((2:Int),()))) (
 opt.ret _ (Sum.inr ()))))) (fun g=>
 opt.ret _ (Sum.inl g)) (fun h=>
 opt.bnd (Unit) _ (some h) fun i=>
 opt.ret _ (Sum.inr ()))))) (fun j=>
 opt.ret _ (Sum.inl j)) (fun k=>
 opt.bnd (Unit) _ (some k) fun l=>
 opt.ret _ (Sum.inr ()))))) (fun m=>
 opt.ret _ (Sum.inl m)) (fun n=>
 opt.bnd (Unit) _ (some n) fun o=>
 opt.ret _ (Sum.inr ()))))) (fun q=>
 opt.ret _ q) (fun r=>
 opt.bnd (Unit) _ (some r) fun t=>
 opt.ret _ (A,()))
theorem v2f:CtrOk PG w5y (G17 std):=okF vE (a:=an17) (l:=la17) (gC w95 (gC ok56 (gC v2c (gN))))
def x83:Ctr:=
 ⟨57,[.vec 0 1],[o3m],[(.ret,⟨[(0, .list 1)],[o3m],1⟩)]⟩
def w7h:List LA:=
 []
def w7i:List JA:=
 []
def w5e:List CF:=
 [⟨x84,w2z⟩,⟨y6x,w9l⟩]
def w8s:Anns:=
 ⟨w5e,w7i,[]⟩
def x9y:(p:Prim)→V7v→Option ((LD×V7v)):=
 fun p x=>let E:=p.len x.1;let A:=p.ofNat E;let C:=p.nat A;let F:=p.rep C [(D.int .i64 (0:Int))];let B:=p.splice F 0 (p.cut x.1 0 E);
 opt.need _ (p.and (p.cmp .geq A (0:Int)) (p.and (p.cmp .leq A A) (p.cmp .leq A (1000000:Int))))<|
 opt.need _ (p.and (p.leN (p.add 0 E) E) (p.and (p.leN E C) (p.leN (p.add 0 C) (p.len F))))<|
 opt.need _ (p.eqN 0 0)<|
 opt.need _ (p.eqN C (p.len B))<|
 opt.need _ (p.eqN C (p.len B))<|
 opt.bnd (V7v) _ (w6a p (B,())) fun a=>
 opt.bnd (V3v) _ (w2z p (a.1,(0,(C,(C,()))))) fun b=>
 opt.need _ (p.leN (p.add b.2.1 b.2.2.1) (p.len b.1))<|
 opt.ret _ (x.1,((p.cut b.1 b.2.1 b.2.2.1),()))
theorem w63:CtrOk PG x83 (x9y std):=okF vE (a:=w8s) (l:=w7h) (gC w66 (gC w4e (gN)))
def w8g:Ctr:=
 ⟨19,[.list 4],[],[(.ret,⟨[(0, .int .i64)],[],1⟩)]⟩
def la19:List LA:=
 [⟨19,[fU,tU,fU,tU,tU,tU],0,⟨⟨[(0, .list 4),(3, .vec 0 1),(10, .list 4),(11, .int .i64),(12, .int .i64)],[o3m],33⟩,[(AX.ret,⟨[(2, .int .i64)],[],33⟩),((AX.exit 0),⟨[(0, .list 4),(3, .vec 0 1)],[o3m],33⟩)]⟩⟩]
def ja19:List JA:=
 []
def v09:List CF:=
 [⟨x83,x9y⟩,⟨w5y,G17⟩]
def an19:Anns:=
 ⟨v09,ja19,[]⟩
def x20 (p:Prim):(LD×(LD×(LD×V8v)))→Option ((LD×(LD×(LD×V8v)))⊕(V0v⊕(LD×V7v))):=
 fun a=>let G:=a.2.2.2.2.1;let A:=p.nat G;let C:=p.len a.1;let E:=a.2.2.1;let F:=[[(D.int .i64 (p.rdI E A 0))]];let B:=p.app (p.cut a.1 0 C) (p.cut F 0 1); opt.run _ (
 opt.ask _ (p.cmp .lss G a.2.2.2.1) (
 opt.need _ (p.rowOk E A [ci,ci,(CK.list 1),ci])<|
 opt.need _ (p.cmp .geq G (0:Int))<|
 opt.bnd (V0v) _ (G17 p ((p.rdI E A 0),((p.rdI E A 1),((p.rdL E A 2),((p.rdI E A 3),()))))) fun b=>
 opt.ask _ (p.cmp .neq b.1 (0:Int)) (
 opt.ret _ (Sum.inr (Sum.inl b))) (
 opt.need _ (p.and (p.leN (p.add 0 1) (p.len F)) (p.and (p.leN (p.add 0 C) C) (p.and (p.leN 1 1) (p.leN (p.add C 1) 1000000))))<|
 opt.need _ (p.eqN 0 0)<|
 opt.need _ (p.eqN (p.add C 1) (p.len B))<|
 opt.ret _ (Sum.inl (B,(a.2.1,(E,(a.2.2.2.1,((p.ar .add .i64 G (1:Int)),())))))))) (
 opt.need _ (p.eqN 0 0)<|
 opt.need _ (p.eqN C C)<|
 opt.ret _ (Sum.inr (Sum.inr (a.1,(a.2.1,()))))))
def G19:(p:Prim)→V7v→Option (V0v):=
 fun p x=>
 opt.ask _ (p.cmp .gtr (p.ofNat (p.len x.1)) (60:Int)) (
 opt.ret _ ((6:Int),())) (
 opt.alt (V0v) ((LD×V7v)) _ (
 z5r (x20 p) ([],(x.1,(x.1,((p.ofNat (p.len x.1)),((0:Int),())))))) (fun a=>
 opt.ret _ a) (fun b=>
 opt.bnd ((LD×V7v)) _ (some b) fun c=>
 opt.need _ (p.eqN 0 0)<|
 opt.need _ (p.eqN (p.len c.1) (p.len c.1))<|
 opt.bnd ((LD×V7v)) _ (x9y p (c.1,())) fun d=>
 opt.ask _ (p.cmp .neq (p.ofNat (p.len d.2.1)) (p.ofNat (p.len c.2.1))) (
 opt.ret _ ((11:Int),())) (
 opt.ret _ ((0:Int),()))))
theorem v2d:CtrOk PG w8g (G19 std):=okF vE (a:=an19) (l:=la19) (gC w63 (gC v2f (gN)))
end Go.Am
end
section
namespace Go.Am
open D12
variable {fl fl':List Int→Bool}
def Adj (l:List Int):Prop:=∃ i,0<i∧i<l.length∧l.getD i 0=l.getD (i - 1) 0
theorem y93 {l:List Int} (hs:l.Pairwise (· ≤ ·)) (h:¬ Adj l):l.Nodup:=by
 rw [List.nodup_iff_pairwise_ne,eCa]
 intro i j hi hj hij he
 refine h ⟨i+1,by omega,by omega,?_⟩
 have h1:=eCa.1 hs i (i+1) hi (by omega) (by omega)
 have h2:l[i+1]'(by omega)≤l[j]:=by
  by_cases e:i+1=j
  ·subst e; exact Int.le_refl _
  ·exact eCa.1 hs (i+1) j (by omega) hj (by omega)
 rw [z2h (eAa (by omega:i+1<l.length)),Nat.add_sub_cancel,z2h (eAa hi)]
 omega
theorem y2h {l:List Int} (h:Adj l):¬ l.Nodup:=by
 obtain ⟨i,h0,hi,he⟩:=h
 intro hn
 rw [z2h (eAa hi),z2h (eAa (by omega:i - 1<l.length))] at he
 have:=(List.getElem_inj hn).1 he
 omega
theorem v1h (n:Int):[D.int IntKind.i64 n]=eI n:=rfl
theorem y86 {i:Nat} (h1:1≤i) (h:i<9223372036854775807):IntKind.i64.wrap ((i:Int) - 1)=((i - 1:Nat):Int):=by
 rw [w21]<;>omega
theorem x9q (n k0:Nat) (cap:Nat) (hk:1≤k0) (hkn:k0<n) (hn:n≤1000000) (l:List Int) (hl:l.length=n):
  ∃ r,z5r (y66 std) (z1a l,(0,(n,(cap,((k0:Int),(0+k0,(n - k0,(cap - k0,((1:Int),())))))))))=some r∧
   ∃ (R:List Int) (k:Nat),r=(z1a R,(0,(n,(cap,((k:Int),())))))∧R.length=n∧k<n:=by
 have key:=y6h (b:=y66 std) (n - k0) (fun (t:List Int×Nat) i=>(z1a t.1,(0,(n,(cap,((t.2:Int),(0+k0,(n - k0,(cap - k0,((i:Int),())))))))))) (fun t i=>t.1.length=n∧k0≤t.2∧1≤i∧t.2+1≤k0+i)
  (fun r=>∃ (R:List Int) (k:Nat),r=(z1a R,(0,(n,(cap,((k:Int),())))))∧R.length=n∧k<n) (fun t i hi ⟨h1,h2,h3,h4⟩=>by
   obtain ⟨R,k⟩:=t
   simp only at h1 h2 h3 h4⊢
   obtain ⟨m,hm⟩:=z1v (l:=R) (i:=k0+i) (by omega)
   obtain ⟨m',hm'⟩:=z1v (l:=R) (i:=k0+(i - 1)) (by omega)
   obtain ⟨m2,hm2⟩:=z1v (l:=R) (i:=k) (by omega)
   obtain ⟨hw,h0⟩:=stp i (by omega)
   obtain ⟨hwk,h0k⟩:=stp k (by omega)
   have hlt:(i:Int)<(n - k0:Nat):=by omega
   have hs:=y86 h3 (by omega:i<9223372036854775807)
   have hs0:(0:Int)≤((i - 1:Nat):Int):=by omega
   have hs1:((i - 1:Nat):Int)<(n - k0:Nat):=by omega
   have hkn':(k:Int)<n:=by omega
   left
   by_cases e:m=m'
   ·refine ⟨(R,k),?_,h1,h2,by omega,by omega⟩
    simp only [y66,z2d,z2e,z0p,z1a,z5s,y4y,z4b,Int.reduceLT,Int.reduceEq,Int.reduceLE,z84,hm,hm',hlt,h0,hw,hs,hs0,hs1,e]
   ·refine ⟨(R.set k m,k+1),?_,by simp [h1],by omega,by omega,by omega⟩
    simp only [y66,z2d,z2e,z0p,z1a,z5s,y4y,z4b,Int.reduceLT,Int.reduceEq,Int.reduceLE,z84,hm,hm',hm2,hlt,h0,hw,hs,hs0,hs1,e,h0k,hkn',hwk,v1h,List.map_set]) (fun t ⟨h1,h2,h3,h4⟩=>by
   obtain ⟨R,k⟩:=t
   simp only at h1 h2 h3 h4⊢
   refine ⟨_,?_,R,k,rfl,h1,by omega⟩
   have hno:¬ ((n - k0:Nat):Int)<(n - k0:Nat):=by omega
   simp only [y66,z2d,z2e,z0p,z1a,z5s,y4y,z4b,Int.reduceLT,Int.reduceEq,Int.reduceLE,hno]) (l,k0) 1 (by omega) ⟨hl,eAk _,eAk _,eAk _⟩
 exact key
theorem x9r (l:List Int) (hl:l.length≤1000000) (h2:2≤l.length):
  ∃ r,z5r (y67 std) (z1a l,(0,(l.length,(l.length,((1:Int),())))))=some r∧
   ((¬ Adj l∧r= .inr (z1a l,(0,(l.length,(l.length,())))))∨(Adj l∧∃ (R:List Int) (k:Nat),r= .inl (z1a R,(0,(k,(l.length,()))))∧R.length=l.length∧k<l.length)):=by
 have key:=y6h (b:=y67 std) l.length (fun (_:Unit) i=>(z1a l,(0,(l.length,(l.length,((i:Int),())))))) (fun _ i=>1≤i∧∀ j,0<j→j<i→l.getD j 0≠l.getD (j - 1) 0)
  (fun r=>(¬ Adj l∧r= .inr (z1a l,(0,(l.length,(l.length,())))))∨(Adj l∧∃ (R:List Int) (k:Nat),r= .inl (z1a R,(0,(k,(l.length,()))))∧R.length=l.length∧k<l.length)) (fun _ i hi ⟨h1,hb⟩=>by
   obtain ⟨m,hm⟩:=z1v hi
   obtain ⟨m',hm'⟩:=z1v (l:=l) (i:=i - 1) (by omega)
   obtain ⟨hw,h0⟩:=stp i (by omega)
   have hlt:(i:Int)<l.length:=by omega
   have hs:=y86 h1 (by omega:i<9223372036854775807)
   have hs0:(0:Int)≤((i - 1:Nat):Int):=by omega
   have hs1:((i - 1:Nat):Int)<l.length:=by omega
   by_cases e:m=m'
   ·right
    obtain ⟨r,hr,R,k,rfl,hR,hk⟩:=x9q l.length i l.length h1 hi hl l rfl
    have hle:(i:Int)≤l.length:=by omega
    have hkn:(k:Int)≤l.length:=by omega
    have hk0:(0:Int)≤k:=by omega
    have hln:0+k+(l.length - k)≤(z1a R).length:=by rw [z00,hR]; omega
    refine ⟨.inl (z1a (R.take k++List.replicate (l.length - k) 0),(0,(k,(l.length,())))),?_, .inr ⟨⟨i,by omega,hi,by rw [z2h hm,z2h hm']; exact e⟩,_,k,rfl,by simp [hR]; omega,hk⟩⟩
    have ht:(z1a R).take (0+k)++List.replicate (l.length - k) [D.int IntKind.i64 0]++(z1a R).drop (0+k+(List.replicate (l.length - k) [D.int IntKind.i64 0]).length)=z1a (R.take k++List.replicate (l.length - k) 0):=by
     have:R.length≤k+(l.length - k):=by omega
     simp [z1a,List.map_take,List.map_replicate,eI,this]
    simp only [eAp] at hr ht hln
    simp only [y67,z2d,z2e,y8q,w5s,z4b,Int.reduceLT,Int.reduceEq,Int.reduceLE,z84,hm,hm',hlt,h0,hw,hs,hs0,hs1,e,z1a,hle,Int.le_refl]
    simp only [z1a] at hr ht hln
    simp only [z2d,z2e,hr,hkn,hk0,hln,z4b,Int.reduceLT,Int.reduceEq,Int.reduceLE,ht,Int.toNat_zero,eAt,Nat.sub_zero,eAp,Int.le_refl]
    rw [if_pos (by omega)]
   ·left
    refine ⟨(),?_,by omega,fun j h0j hj=>?_⟩
    ·simp only [y67,z2d,z2e,z0p,z1a,z5s,y4y,z4b,Int.reduceLT,Int.reduceEq,Int.reduceLE,z84,hm,hm',hlt,h0,hw,hs,hs0,hs1,e]
    ·by_cases hji:j=i
     ·subst hji; rw [z2h hm,z2h hm']; exact e
     ·exact hb j h0j (by omega)) (fun _ ⟨h1,hb⟩=>by
   refine ⟨.inr (z1a l,(0,(l.length,(l.length,())))),?_, .inl ⟨?_,rfl⟩⟩
   ·have hno:¬ (l.length:Int)<l.length:=by omega
    simp only [y67,z2d,z2e,z0p,z1a,z5s,y4y,z4b,Int.reduceLT,Int.reduceEq,Int.reduceLE,hno]
   ·rintro ⟨i,h0,hi,he⟩; exact hb i h0 hi he) () 1 (by omega) ⟨eAk _,fun j h1 h2=>by omega⟩
 exact key
theorem x90 (l:List Int) (hl:l.length≤1000000):
  ∃ (R:List Int) (k:Nat),w2z std (z1a l,(0,(l.length,(l.length,()))))=some (z1a R,(0,(k,(l.length,()))))∧R.length=l.length∧((¬ Adj l∧R=l∧k=l.length)∨(Adj l∧k<l.length)):=by
 by_cases h2:l.length<2
 ·refine ⟨l,l.length,?_,rfl, .inl ⟨?_,rfl,rfl⟩⟩
  ·have h2':(l.length:Int)<2:=by omega
   simp only [w2z,z2d,z2e,z4b,Int.reduceLT,Int.reduceEq,Int.reduceLE,h2']
  ·rintro ⟨i,h0,hi,_⟩; omega
 ·have h2':¬ (l.length:Int)<2:=by omega
  obtain ⟨r,hr,h|h⟩:=x9r l hl (by omega)
  ·obtain ⟨ha,rfl⟩:=h
   refine ⟨l,l.length,?_,rfl, .inl ⟨ha,rfl,rfl⟩⟩
   simp only [w2z,z2d,z2e,z4b,Int.reduceLT,Int.reduceEq,Int.reduceLE,h2',hr]
  ·obtain ⟨ha,R,k,rfl,hR,hk⟩:=h
   refine ⟨R,k,?_,hR, .inr ⟨ha,hk⟩⟩
   simp only [w2z,z2d,z2e,z4b,Int.reduceLT,Int.reduceEq,Int.reduceLE,h2',hr]
theorem x91 (l:List Int) (hl:l.length≤1000000):w6a std (z1a l,())=some (z1a (srt l),()):=by
 unfold w6a
 simp only
 have h:y8b (z1a l)=some l:=x5s l
 have hb:Nat.ble l.length 1000000=true:=eBg hl
 rw [h]
 simp only [hb,cond_true]
 rfl
def w9h (l r:List Int):Prop:=(l.Nodup→r=srt l)∧(¬ l.Nodup→r.length<l.length)
theorem x3p {l r:List Int} (h:w9h l r):r.length=l.length↔l.Nodup:=by
 constructor
 ·intro e; exact Decidable.byContradiction fun hn=>by have:=h.2 hn; omega
 ·intro hn; rw [h.1 hn]; exact (srt_perm l).length_eq
theorem x7p {l R:List Int} {k:Nat} (hR:R.length=(srt l).length) (h:(¬ Adj (srt l)∧R=srt l∧k=(srt l).length)∨(Adj (srt l)∧k<(srt l).length)):w9h l (R.take k):=by
 rcases h with ⟨ha,rfl,rfl⟩|⟨ha,hk⟩
 ·have hn:l.Nodup:=(srt_perm l).nodup_iff.1 (y93 (z87 l) ha)
  exact ⟨fun _=>by rw [List.take_length],fun h=>absurd hn h⟩
 ·have hn:¬ l.Nodup:=fun h=>y2h ha ((srt_perm l).nodup_iff.2 h)
  have:=(srt_perm l).length_eq
  exact ⟨fun h=>absurd h hn,fun _=>by rw [eBv]; omega⟩
theorem spl (l:List Int):(List.replicate l.length [D.int IntKind.i64 0]).take 0++z1a l++(List.replicate l.length [D.int IntKind.i64 0]).drop (0+(z1a l).length)=z1a l:=by
 simp [z1a]
theorem w3o (l:List Int) (hl:l.length≤1000000):∃ r,G57 std (z1a l,())=some (z1a r,())∧w9h l r:=by
 have hs:=(srt_perm l).length_eq
 obtain ⟨R,k,hr,hR,hk⟩:=x90 (srt l) (by omega)
 refine ⟨R.take k,?_,x7p hR hk⟩
 have h108:=x91 l hl
 have hkn:k≤R.length:=by rcases hk with h|h<;>omega
 rw [hs] at hr
 unfold G57
 have h1:(0:Int)≤l.length:=by omega
 have h2:(l.length:Int)≤1000000:=by omega
 simp only [z2d,z2e,z4b,Int.reduceLT,Int.reduceEq,Int.reduceLE,z00,h1,h2,List.length_replicate,eAk,Int.le_refl,eAp]
 have hsp:=spl l
 simp only [z00,eAp] at hsp
 simp only [hsp,h108,z2d,z2e,hr,z00,hkn,List.drop_zero]
 simp [z1a,List.map_take]
theorem w2y (l:List Int) (hl:l.length≤1000000):∃ r,x9y std (z1a l,())=some (z1a l,(z1a r,()))∧w9h l r:=by
 have hs:=(srt_perm l).length_eq
 obtain ⟨R,k,hr,hR,hk⟩:=x90 (srt l) (by omega)
 refine ⟨R.take k,?_,x7p hR hk⟩
 have h108:=x91 l hl
 have hkn:k≤R.length:=by rcases hk with h|h<;>omega
 rw [hs] at hr
 unfold x9y
 have h1:(0:Int)≤l.length:=by omega
 have h2:(l.length:Int)≤1000000:=by omega
 simp only [z2d,z2e,z4b,Int.reduceLT,Int.reduceEq,Int.reduceLE,z00,h1,h2,List.length_replicate,eAk,Int.le_refl,eAp]
 have hsp:=spl l
 simp only [z00,eAp] at hsp
 have ht:(z1a l).take l.length=z1a l:=by rw [←z00 l,List.take_length]
 simp only [List.drop_zero,ht,hsp,h108,z2d,z2e,hr,z00,hkn]
 simp [z1a,List.map_take]
theorem w6b (lo hi n:Int):w8y std (lo,(hi,(n,())))=some (lo,(hi,(decide (n<lo∨n>hi),()))):=by
 unfold w8y
 by_cases h1:n<lo
 ·simp only [z2d,z2e,z4b,Int.reduceLT,Int.reduceEq,Int.reduceLE,h1,true_or]
 ·simp only [z2d,z2e,z4b,Int.reduceLT,Int.reduceEq,Int.reduceLE,h1,false_or]
theorem x9z (lo hi:Int) (l:List Int) (hl:l.length≤1000000):G56 std (lo,(hi,(z1a l,())))=some (!(l.any fun n=>decide (n<lo∨n>hi)),()):=by
 unfold G56 w9k w9j
 have key:=z62 (b:=x1b std) l.length (fun i=>(lo,(hi,(z1a l,((l.length:Int),((i:Int),())))))) (fun i=>decide (l.getD i 0<lo∨l.getD i 0>hi)) (fun i=> .inl (lo,(hi,((i:Int),())))) (.inr (lo,(hi,()))) (fun i hi'=>by
  obtain ⟨m,hm⟩:=z1v hi'
  obtain ⟨hw,h0⟩:=stp i (by omega)
  have hlt:(i:Int)<l.length:=by omega
  simp only [z2h hm,x1b,z2d,z2e,z0p,z1a,z5s,y4y,z86,ge_iff_le,hm,hlt,h0,hw,w6b]) (by
  have hn:¬ (l.length:Int)<l.length:=by omega
  simp only [x1b,z2d,z2e,z0p,z1a,z5s,y4y,hn])
 have key:z5r (x1b std) (lo,(hi,(z1a l,((l.length:Int),((0:Int),())))))=_:=key
 have e:=x21 l 0 fun n=>decide (n<lo∨n>hi)
 simp only [z2d,z2e,z00,key]
 cases h:(List.range l.length).find? fun i=>decide (l.getD i 0<lo∨l.getD i 0>hi) with
 |none=>
  have:((List.range l.length).any fun i=>decide (l.getD i 0<lo∨l.getD i 0>hi))=false:=by
   rw [List.any_eq_false]; rw [List.find?_eq_none] at h; exact h
  rw [this] at e
  rw [←e]
  simp
 |some i=>
  have:((List.range l.length).any fun i=>decide (l.getD i 0<lo∨l.getD i 0>hi))=true:=eCz.2 ⟨i,List.mem_of_find?_eq_some h,List.find?_some (p:=fun i=>decide (l.getD i 0<lo∨l.getD i 0>hi)) h⟩
  rw [this] at e
  rw [←e]
  simp
def z7k (k:Int):ByteArray:=if k=1 then ByteArray.mk #[101,110,116,101,114] else if k=2 then ByteArray.mk #[98,117,114,110] else if k=3 then ByteArray.mk #[99,111,109,112,97,114,101] else if k=4 then ByteArray.mk #[114,101,112,108,97,99,101] else if k=5 then ByteArray.mk #[111,117,116] else if k=6 then ByteArray.mk #[99,108,97,105,109] else ByteArray.mk #[]
def klo (k:Int):Int:=if k=1∨k=2∨k=3 then 1 else 0
def khi (k:Int):Int:=if k=1∨k=6 then 1000000 else if k=2 then 10000 else if k=3 then 100000 else 0
theorem w3p (k:Int):G55 std (k,())=some (z7k k,((z3a k:Int),(klo k,(khi k,())))):=by
 unfold G55 z7k z3a klo khi
 by_cases h1:k=1
 ·simp [z2d,z2e,h1]
 by_cases h2:k=2
 ·simp [z2d,z2e,h2]
 by_cases h3:k=3
 ·simp [z2d,z2e,h3]
 by_cases h4:k=4
 ·simp [z2d,z2e,h4]
 by_cases h5:k=5
 ·simp [z2d,z2e,h5]
 by_cases h6:k=6
 ·simp [z2d,z2e,h6]
 simp [z2d,z2e,h1,h2,h3,h4,h5,h6]
theorem v0l (k:Int):(bif std.strEq (z7k k) (ByteArray.mk #[]) then bif std.cmp .eql (z3a k:Int) 0 then bif std.cmp .eql (klo k) 0 then bif std.cmp .eql (khi k) 0 then true else false else false else false else false)=decide (z3a k=0):=by
 by_cases h0:z3a k=0
 ·have h:z7k k=ByteArray.mk #[]∧klo k=0∧khi k=0:=by
   unfold z3a at h0
   unfold z7k klo khi
   repeat' split at h0
   all_goals first|omega|skip
   rename_i h1 h2 h3
   have a1:¬ k=1:=by omega
   have a2:¬ k=2:=by omega
   have a3:¬ k=3:=by omega
   have a4:¬ k=4:=by omega
   have a5:¬ k=5:=by omega
   simp [a1,a2,a3,a4,a5,h3]
  rw [h.1,h.2.1,h.2.2,h0]
  simp [std,z3o]
 ·have:¬ ((z3a k:Nat):Int)=0:=by omega
  have e:std.cmp .eql (z3a k:Int) 0=false:=by rw [show std.cmp .eql (z3a k:Int) 0=decide ((z3a k:Int)=0) from rfl]; simpa using this
  rw [e]
  simp [h0]
theorem x8r {k a:Int} (hk:z3a k≠0):w1p k a↔¬ (a<klo k∨a>khi k):=by
 unfold w1p klo khi
 rcases y35 hk with ⟨hk,_⟩|⟨hk,_⟩|⟨hk,_⟩
 ·rcases hk with rfl|rfl|rfl<;>simp<;>omega
 ·rcases hk with rfl|rfl<;>simp<;>omega
 ·subst hk; simp
theorem w4d (lo hi n:Int):(!([n].any fun n=>decide (n<lo∨n>hi)))=!decide (n<lo∨n>hi):=by simp
theorem y30 (n:Int):z6x n↔¬ (n<1∨n>1099511627776):=by unfold z6x; omega
theorem w3s (c:Cd) (hc:c.t.length≤1000000):G17 std (c.n,(c.k,(z1a c.t,(c.a,()))))=some (z3d c,()):=by
 have h1:=x9z 1 1099511627776 [c.n] (by simp)
 have h2:=x9z 1 1099511627776 c.t hc
 have h3:=x9z (klo c.k) (khi c.k) [c.a] (by simp)
 obtain ⟨r,hr,ho⟩:=w3o c.t hc
 have hrl:=x3p ho
 rw [w4d] at h1 h3
 have e1:(!decide (c.n<1∨c.n>1099511627776))=decide (z6x c.n):=by rw [eCu]; simp only [eBy,decide_eq_false_iff_not,decide_eq_true_eq]; exact (y30 _).symm
 have e2:(!(c.t.any fun n=>decide (n<1∨n>1099511627776)))=decide (¬ ∃ x∈c.t,¬ z6x x):=by
  rw [eCu]
  simp only [eBy,List.any_eq_false,decide_eq_true_eq]
  constructor
  ·rintro h ⟨x,hx,hn⟩; exact hn ((y30 x).2 (h x hx))
  ·intro h x hx hn; exact h ⟨x,hx,fun hh=>(y30 x).1 hh hn⟩
 rw [e1] at h1
 rw [e2] at h2
 have hz:=v0l c.k
 unfold G17 z3d
 simp only [z1a,List.map_cons,List.map_nil,eI] at h1 h3
 simp only [y1l,y68,y50,y63,y5z,x46,eAx,w3p,h1]
 by_cases a1:z6x c.n
 ·simp only [a1,decide_true,cond_true,eAi,if_false,eAx,hz,not_true,false_or]
  by_cases a2:z3a c.k=0
  ·simp only [a2,decide_true,if_true,eAx,Sum.elim_inl]
  ·simp only [a2,decide_false,eAi,if_false]
   by_cases a3:c.t.length=z3a c.k
   ·have a3':std.cmp .neq (std.ofNat (std.len (z1a c.t))) (z3a c.k:Int)=false:=by simp [std,z3o,z00,a3]
    simp only [a3',eAi,if_false,h2,eAx,a3,ne_eq,not_true]
    by_cases a4:∃ x∈c.t,¬ z6x x
    ·simp only [a4,not_true,decide_false,cond_false,if_true,eAx,Sum.elim_inl]
    ·simp only [a4,not_false_eq_true,decide_true,cond_true,eAi,if_false,hr,eAx]
     by_cases a5:c.t.Nodup
     ·have hl:=hrl.2 a5
      have a5':std.cmp .neq (std.ofNat (std.len (z1a r))) (z3a c.k:Int)=false:=by simp [std,z3o,z00,hl,a3]
      simp only [a5',eAi,if_false,h3,eAx,a5,not_true]
      by_cases a6:w1p c.k c.a
      ·have:=(x8r a2).1 a6
       simp only [this,a6,decide_false,eCq,cond_true,eAi,if_false,Sum.elim_inr,eAx,not_true]
      ·have:c.a<klo c.k∨c.a>khi c.k:=Decidable.byContradiction fun h=>a6 ((x8r a2).2 h)
       simp only [this,a6,decide_true,Bool.not_true,cond_false,if_true,Sum.elim_inl,eAx,not_false_eq_true]
     ·have hl:r.length≠c.t.length:=fun h=>a5 (hrl.1 h)
      have a5':std.cmp .neq (std.ofNat (std.len (z1a r))) (z3a c.k:Int)=true:=by simp [std,z3o,z00]; omega
      simp only [a5',if_true,Sum.elim_inl,eAx,a5,not_false_eq_true]
   ·have a3':std.cmp .neq (std.ofNat (std.len (z1a c.t))) (z3a c.k:Int)=true:=by simp [std,z3o,z00]; omega
    simp only [a3',if_true,eAx,Sum.elim_inl,a3,ne_eq,not_false_eq_true]
 ·simp only [a1,decide_false,cond_false,if_true,eAx,Sum.elim_inl,not_false_eq_true,true_or]
theorem w2s (l:List Cd) (hl:l.length≤60) (hf:Few l):
  z5r (x20 std) ([],(z0p fl l,(z0p fl l,((l.length:Int),((0:Int),())))))=some (match l.find? fun c=>!decide (z3d c=0) with|some c=> .inl (z3d c,())|none=> .inr (z1a (l.map (·.n)),(z0p fl l,()))):=by
 have key:=z62 (b:=x20 std) l.length (fun i=>(z1a ((l.take i).map (·.n)),(z0p fl l,(z0p fl l,((l.length:Int),((i:Int),())))))) (fun i=>!decide (z3d (l.getD i default)=0)) (fun i=> .inl (z3d (l.getD i default),())) (.inr (z1a (l.map (·.n)),(z0p fl l,()))) (fun i hi=>by
  obtain ⟨m,hm⟩:=z1v hi
  obtain ⟨hw,h0⟩:=stp i (by omega)
  have hlt:(i:Int)<l.length:=by omega
  have h17:=w3s m (hf m (eAu hm))
  have htk:l.take (i+1)=l.take i++[m]:=by rw [List.take_add_one,hm]; rfl
  have hln:(z1a ((l.take i).map (·.n))).length=i:=by rw [z00,eBt,eBv]; omega
  simp only [z1a] at h17
  by_cases e:z3d m=0
  ·simp only [z2h hm,x20,y1l,y68,y50,w4h,y63,y5z,x46,y7s,y0o,y7r,y7x,y3j,y7w,y7v,y7u,x1x,x1y,x64,x1w,x63,rdD,y3i,z86,x43,z0p,z1a,z5s,y4y,z4b,Int.reduceLT,Int.reduceEq,Int.reduceLE,eAg,eBh,eAx,eBk,eCh,hm,hlt,h0,hw,h17,e,decide_true,if_true,if_false,eAi,Bool.and_self]
   simp only [z1a] at hln
   have e2:List.map eI (List.map (fun x=>x.n) (List.take i l))++[[D.int IntKind.i64 m.n]]=List.map eI (List.map (fun x=>x.n) (List.take (i+1) l)):=by
    rw [htk]; simp [eI]
   have hb:i+1≤y1v:=by unfold y1v; omega
   generalize List.map eI (List.map (fun x=>x.n) (List.take i l))=L at hln e2⊢
   have hi2:i≤999999:=by omega
   simp [hln,e2,hi2,y1v,y7t,List.take_of_length_le]
   omega
  ·simp only [z2h hm,x20,y1l,y68,y50,w4h,y63,y5z,x46,y7s,y0o,y7r,y7x,y3j,y7w,y7v,y7u,x1x,x1y,x64,x1w,x63,rdD,y3i,z86,x43,z0p,z1a,z5s,y4y,z4b,Int.reduceLT,Int.reduceEq,Int.reduceLE,eAg,eBh,eAx,eBk,eCh,hm,hlt,h0,hw,h17,e,decide_true,decide_false,eCq,if_true]) (by
  have hn:¬ (l.length:Int)<l.length:=by omega
  rw [List.take_length]
  simp only [x20,z2d,z2e,z0p,z1a,z5s,y4y,hn])
 have key:z5r (x20 std) ([],(z0p fl l,(z0p fl l,((l.length:Int),((0:Int),())))))=_:=key
 rw [key]
 have e:=x4f l default fun c=>!decide (z3d c=0)
 cases h:(List.range l.length).find? fun i=>!decide (z3d (l.getD i default)=0) with
 |none=>rw [h] at e; simp only [Option.map_none] at e; rw [←e]
 |some i=>rw [h] at e; simp only [eBh] at e; rw [←e]
theorem w3q (l:List Cd) (hf:Few l):G19 std (z0p fl l,())=some (z4y l,()):=by
 unfold G19 z4y
 by_cases a1:60<l.length
 ·have a1':(60:Int)<l.length:=by omega
  simp only [z2d,z2e,z4b,Int.reduceLT,Int.reduceEq,Int.reduceLE,z2i,a1,a1']
 ·have a1':¬ (60:Int)<l.length:=by omega
  have h1:=w2s (fl:=fl) l (by omega) hf
  cases hq:l.find? fun c=>!decide (z3d c=0) with
  |some c=>
   rw [hq] at h1
   simp only [z2d,z2e,z4b,Int.reduceLT,Int.reduceEq,Int.reduceLE,z2i,a1,a1',h1]
  |none=>
   rw [hq] at h1
   obtain ⟨r,hr,ho⟩:=w2y (l.map (·.n)) (by simp; omega)
   have hrl:=x3p ho
   rw [eBt] at hrl
   by_cases a2:(l.map (·.n)).Nodup
   ·have:=hrl.2 a2
    simp only [z2d,z2e,z4b,Int.reduceLT,Int.reduceEq,Int.reduceLE,z2i,z00,a1,a1',h1,hr,a2,this]
   ·have:¬ r.length=l.length:=fun h=>a2 (hrl.1 h)
    have:¬ (r.length:Int)=l.length:=by omega
    simp only [z2d,z2e,z4b,Int.reduceLT,Int.reduceEq,Int.reduceLE,z2i,z00,a1,a1',h1,hr,a2,this]
end Go.Am
end
section
namespace Go.Am
open Go Go.RowKit
variable {P:Program}
theorem z49 {O:Nat→Prop} {w w':World} (hb:Below w.heap.size w w'):z3s O O w w':=
 ⟨hb.size,fun b hlt _=>hb.block b hlt,fun _ _ h=>h,fun b n h=>by
  have:=z6c h
  unfold z0t; rw [hb.block b this]; exact h,trivial⟩
theorem z1y {g:FuncId} {args:List AV} {r:AV}
  (h:∀ (ρ:Rho) (vs:Array Value) (w:World),(∀ id,ρ id=none)→GL P (z0c ρ []) w→z0z ρ (z0c ρ []) w args vs→
   Calls P g vs w fun e w'=>∃ v,e= .returned v∧z0i ρ (z0c ρ []) w' r v∧Below w.heap.size w w'):z2z P g args [] r []:=⟨by
 intro ρ vs w cs hr hdm har
 have hno:∀ id,ρ id=none:=fun id=>by
  cases hq:ρ id with
  |none=>rfl
  |some M=>exact absurd (hdm id (by rw [hq]; simp)) (by simp)
 obtain ⟨e,w',fr,⟨v,rfl,hv,hb⟩,hcm,hfn,hlv⟩:=h ρ vs w hno hr.gl har cs
 have hk:z3s (z0c ρ []) (z0c ρ []) w w':=z49 hb
 exact ⟨ρ,v,w',fr,hcm,hfn,hlv,hv,hr.of_keep hk fun b hob=>hb.block b (z50 hr hob),hdm,
  ⟨hb.os,hb.tape,hb.output,hk,fun _ _=>rfl,rfl,fun b hf=>hb.block b (hr.fr b hf)⟩⟩⟩
theorem y5n {g:FuncId} {args:List AV} {r:AV}
  (h:∀ (ρ:Rho) (vs:Array Value) (w:World),(∀ id,ρ id=none)→(∀ b,ρ.fr b→b<w.heap.size)→GL P (z0c ρ []) w→z0z ρ (z0c ρ []) w args vs→
   Calls P g vs w fun e w'=>∃ v,e= .returned v∧z0i ρ (z0c ρ []) w' r v∧Below w.heap.size w w'):z2z P g args [] r []:=⟨by
 intro ρ vs w cs hr hdm har
 have hno:∀ id,ρ id=none:=fun id=>by
  cases hq:ρ id with
  |none=>rfl
  |some M=>exact absurd (hdm id (by rw [hq]; simp)) (by simp)
 obtain ⟨e,w',fr,⟨v,rfl,hv,hb⟩,hcm,hfn,hlv⟩:=h ρ vs w hno hr.fr hr.gl har cs
 have hk:z3s (z0c ρ []) (z0c ρ []) w w':=z49 hb
 exact ⟨ρ,v,w',fr,hcm,hfn,hlv,hv,hr.of_keep hk fun b hob=>hb.block b (z50 hr hob),hdm,
  ⟨hb.os,hb.tape,hb.output,hk,fun _ _=>rfl,rfl,fun b hf=>hb.block b (hr.fr b hf)⟩⟩⟩
end Go.Am
end
section
namespace Go.Proofs
def y6c:Go.Shelf.Ren:=⟨fun|276=>142|277=>189|241=>165|240=>119|169=>85|166=>83|165=>144|156=>121|n=>n,fun|80=>71|5=>5|164=>168|75=>120|127=>149|37=>53|70=>116|76=>121|72=>118|20=>20|0=>0|4=>4|3=>3|9=>9|31=>147|n=>n,fun|n=>n⟩
theorem y8f : Go.Proofs.Lays.n156 Tryz.prog y6c :=
  { mixed := by kernel_rfl,
    f156 := by first | exact ⟨Tryz.f121.name, by decide, Tryz.func121.trans (congrArg some (by kernel_rfl))⟩ | exact Tryz.func121.trans (congrArg some (by kernel_rfl)),
    f165 := by first | exact ⟨Tryz.f144.name, by decide, Tryz.func144.trans (congrArg some (by kernel_rfl))⟩ | exact Tryz.func144.trans (congrArg some (by kernel_rfl)),
    f166 := by first | exact ⟨Tryz.f83.name, by decide, Tryz.func83.trans (congrArg some (by kernel_rfl))⟩ | exact Tryz.func83.trans (congrArg some (by kernel_rfl)),
    f169 := by first | exact ⟨Tryz.f85.name, by decide, Tryz.func85.trans (congrArg some (by kernel_rfl))⟩ | exact Tryz.func85.trans (congrArg some (by kernel_rfl)),
    f240 := by first | exact ⟨Tryz.f119.name, by decide, Tryz.func119.trans (congrArg some (by kernel_rfl))⟩ | exact Tryz.func119.trans (congrArg some (by kernel_rfl)),
    f241 := by first | exact ⟨Tryz.f165.name, by decide, Tryz.func165.trans (congrArg some (by kernel_rfl))⟩ | exact Tryz.func165.trans (congrArg some (by kernel_rfl)),
    f276 := by first | exact ⟨Tryz.f142.name, by decide, Tryz.func142.trans (congrArg some (by kernel_rfl))⟩ | exact Tryz.func142.trans (congrArg some (by kernel_rfl)),
    f277 := by first | exact ⟨Tryz.f189.name, by decide, Tryz.func189.trans (congrArg some (by kernel_rfl))⟩ | exact Tryz.func189.trans (congrArg some (by kernel_rfl)),
    t0 := by exact Tryz.underlying0,
    a0 := by exact Tryz.isAgg0,
    z0 := by exact Tryz.sizeOf0,
    v0 := by exact Tryz.zeroValue0,
    t3 := by exact Tryz.underlying3,
    a3 := by exact Tryz.isAgg3,
    z3 := by exact Tryz.sizeOf3,
    v3 := by exact Tryz.zeroValue3,
    t4 := by exact Tryz.underlying4,
    a4 := by exact Tryz.isAgg4,
    z4 := by exact Tryz.sizeOf4,
    v4 := by exact Tryz.zeroValue4,
    t9 := by exact Tryz.underlying9,
    a9 := by exact Tryz.isAgg9,
    z9 := by exact Tryz.sizeOf9,
    v9 := by exact Tryz.zeroValue9,
    t20 := by exact Tryz.underlying20,
    a20 := by exact Tryz.isAgg20,
    z20 := by exact Tryz.sizeOf20,
    v20 := by exact Tryz.zeroValue20,
    t31 := by exact Tryz.underlying147,
    a31 := by exact Tryz.isAgg147,
    z31 := by exact Tryz.sizeOf147,
    v31 := by exact Tryz.zeroValue147,
    t37 := by exact Tryz.underlying53,
    a37 := by exact Tryz.isAgg53,
    z37 := by exact Tryz.sizeOf53,
    v37 := by exact Tryz.zeroValue53,
    t70 := by exact Tryz.underlying116,
    a70 := by exact Tryz.isAgg116,
    z70 := by exact Tryz.sizeOf116,
    v70 := by exact Tryz.zeroValue116,
    t72 := by exact Tryz.underlying118,
    a72 := by exact Tryz.isAgg118,
    z72 := by exact Tryz.sizeOf118,
    v72 := by exact Tryz.zeroValue118,
    t75 := by exact Tryz.underlying120,
    a75 := by exact Tryz.isAgg120,
    z75 := by exact Tryz.sizeOf120,
    v75 := by exact Tryz.zeroValue120,
    t76 := by exact Tryz.underlying121,
    a76 := by exact Tryz.isAgg121,
    z76 := by exact Tryz.sizeOf121,
    v76 := by exact Tryz.zeroValue121,
    t127 := by exact Tryz.underlying149,
    a127 := by exact Tryz.isAgg149,
    z127 := by exact Tryz.sizeOf149,
    v127 := by exact Tryz.zeroValue149,
    t164 := by exact Tryz.underlying168,
    a164 := by exact Tryz.isAgg168,
    z164 := by exact Tryz.sizeOf168,
    v164 := by exact Tryz.zeroValue168 }
def x79:Go.Shelf.Ren:=⟨fun|266=>190|314=>191|267=>169|224=>168|225=>167|217=>166|219=>145|220=>124|145=>87|n=>n,fun|51=>183|146=>209|46=>162|5=>5|3=>3|59=>124|4=>4|9=>9|n=>n,fun|1=>0|n=>n⟩
theorem w7g : Go.Proofs.Lays.n145 Tryz.prog x79 :=
  { mixed := by kernel_rfl,
    f145 := by first | exact ⟨Tryz.f87.name, by decide, Tryz.func87.trans (congrArg some (by kernel_rfl))⟩ | exact Tryz.func87.trans (congrArg some (by kernel_rfl)),
    f217 := by first | exact ⟨Tryz.f166.name, by decide, Tryz.func166.trans (congrArg some (by kernel_rfl))⟩ | exact Tryz.func166.trans (congrArg some (by kernel_rfl)),
    f219 := by first | exact ⟨Tryz.f145.name, by decide, Tryz.func145.trans (congrArg some (by kernel_rfl))⟩ | exact Tryz.func145.trans (congrArg some (by kernel_rfl)),
    f220 := by first | exact ⟨Tryz.f124.name, by decide, Tryz.func124.trans (congrArg some (by kernel_rfl))⟩ | exact Tryz.func124.trans (congrArg some (by kernel_rfl)),
    f224 := by first | exact ⟨Tryz.f168.name, by decide, Tryz.func168.trans (congrArg some (by kernel_rfl))⟩ | exact Tryz.func168.trans (congrArg some (by kernel_rfl)),
    f225 := by first | exact ⟨Tryz.f167.name, by decide, Tryz.func167.trans (congrArg some (by kernel_rfl))⟩ | exact Tryz.func167.trans (congrArg some (by kernel_rfl)),
    f266 := by first | exact ⟨Tryz.f190.name, by decide, Tryz.func190.trans (congrArg some (by kernel_rfl))⟩ | exact Tryz.func190.trans (congrArg some (by kernel_rfl)),
    f267 := by first | exact ⟨Tryz.f169.name, by decide, Tryz.func169.trans (congrArg some (by kernel_rfl))⟩ | exact Tryz.func169.trans (congrArg some (by kernel_rfl)),
    f314 := by first | exact ⟨Tryz.f191.name, by decide, Tryz.func191.trans (congrArg some (by kernel_rfl))⟩ | exact Tryz.func191.trans (congrArg some (by kernel_rfl)),
    t3 := by exact Tryz.underlying3,
    a3 := by exact Tryz.isAgg3,
    z3 := by exact Tryz.sizeOf3,
    v3 := by exact Tryz.zeroValue3,
    t4 := by exact Tryz.underlying4,
    a4 := by exact Tryz.isAgg4,
    z4 := by exact Tryz.sizeOf4,
    v4 := by exact Tryz.zeroValue4,
    t5 := by exact Tryz.underlying5,
    a5 := by exact Tryz.isAgg5,
    z5 := by exact Tryz.sizeOf5,
    v5 := by exact Tryz.zeroValue5,
    t9 := by exact Tryz.underlying9,
    a9 := by exact Tryz.isAgg9,
    z9 := by exact Tryz.sizeOf9,
    v9 := by exact Tryz.zeroValue9,
    t46 := by exact Tryz.underlying162,
    a46 := by exact Tryz.isAgg162,
    z46 := by exact Tryz.sizeOf162,
    v46 := by exact Tryz.zeroValue162,
    t51 := by exact Tryz.underlying183,
    a51 := by exact Tryz.isAgg183,
    z51 := by exact Tryz.sizeOf183,
    v51 := by exact Tryz.zeroValue183,
    t59 := by exact Tryz.underlying124,
    a59 := by exact Tryz.isAgg124,
    z59 := by exact Tryz.sizeOf124,
    v59 := by exact Tryz.zeroValue124,
    t146 := by exact Tryz.underlying209,
    a146 := by exact Tryz.isAgg209,
    z146 := by exact Tryz.sizeOf209,
    v146 := by exact Tryz.zeroValue209,
    g1 := by kernel_rfl }
def x5y:Go.Shelf.Ren:=⟨fun|207=>173|209=>147|102=>126|n=>n,fun|3=>3|4=>4|9=>9|n=>n,fun|n=>n⟩
theorem w4u : Go.Proofs.Lays.n102 Tryz.prog x5y :=
  { mixed := by kernel_rfl,
    f102 := by first | exact ⟨Tryz.f126.name, by decide, Tryz.func126.trans (congrArg some (by kernel_rfl))⟩ | exact Tryz.func126.trans (congrArg some (by kernel_rfl)),
    f207 := by first | exact ⟨Tryz.f173.name, by decide, Tryz.func173.trans (congrArg some (by kernel_rfl))⟩ | exact Tryz.func173.trans (congrArg some (by kernel_rfl)),
    f209 := by first | exact ⟨Tryz.f147.name, by decide, Tryz.func147.trans (congrArg some (by kernel_rfl))⟩ | exact Tryz.func147.trans (congrArg some (by kernel_rfl)),
    t3 := by exact Tryz.underlying3,
    a3 := by exact Tryz.isAgg3,
    z3 := by exact Tryz.sizeOf3,
    v3 := by exact Tryz.zeroValue3,
    t4 := by exact Tryz.underlying4,
    a4 := by exact Tryz.isAgg4,
    z4 := by exact Tryz.sizeOf4,
    v4 := by exact Tryz.zeroValue4,
    t9 := by exact Tryz.underlying9,
    a9 := by exact Tryz.isAgg9,
    z9 := by exact Tryz.sizeOf9,
    v9 := by exact Tryz.zeroValue9 }
def y4a:Go.Shelf.Ren:=⟨fun|266=>190|314=>191|267=>169|224=>168|225=>167|217=>166|260=>203|197=>193|218=>194|195=>192|219=>145|143=>172|138=>171|268=>170|221=>146|146=>125|n=>n,fun|138=>230|139=>231|119=>228|51=>183|146=>209|46=>162|21=>21|105=>212|5=>5|0=>0|4=>4|3=>3|31=>147|9=>9|n=>n,fun|4=>7|3=>6|1=>0|n=>n⟩
theorem w07 : Go.Proofs.Lays.n146 Tryz.prog y4a :=
  { mixed := by kernel_rfl,
    f138 := by first | exact ⟨Tryz.f171.name, by decide, Tryz.func171.trans (congrArg some (by kernel_rfl))⟩ | exact Tryz.func171.trans (congrArg some (by kernel_rfl)),
    f143 := by first | exact ⟨Tryz.f172.name, by decide, Tryz.func172.trans (congrArg some (by kernel_rfl))⟩ | exact Tryz.func172.trans (congrArg some (by kernel_rfl)),
    f146 := by first | exact ⟨Tryz.f125.name, by decide, Tryz.func125.trans (congrArg some (by kernel_rfl))⟩ | exact Tryz.func125.trans (congrArg some (by kernel_rfl)),
    f195 := by first | exact ⟨Tryz.f192.name, by decide, Tryz.func192.trans (congrArg some (by kernel_rfl))⟩ | exact Tryz.func192.trans (congrArg some (by kernel_rfl)),
    f197 := by first | exact ⟨Tryz.f193.name, by decide, Tryz.func193.trans (congrArg some (by kernel_rfl))⟩ | exact Tryz.func193.trans (congrArg some (by kernel_rfl)),
    f217 := by first | exact ⟨Tryz.f166.name, by decide, Tryz.func166.trans (congrArg some (by kernel_rfl))⟩ | exact Tryz.func166.trans (congrArg some (by kernel_rfl)),
    f218 := by first | exact ⟨Tryz.f194.name, by decide, Tryz.func194.trans (congrArg some (by kernel_rfl))⟩ | exact Tryz.func194.trans (congrArg some (by kernel_rfl)),
    f219 := by first | exact ⟨Tryz.f145.name, by decide, Tryz.func145.trans (congrArg some (by kernel_rfl))⟩ | exact Tryz.func145.trans (congrArg some (by kernel_rfl)),
    f221 := by first | exact ⟨Tryz.f146.name, by decide, Tryz.func146.trans (congrArg some (by kernel_rfl))⟩ | exact Tryz.func146.trans (congrArg some (by kernel_rfl)),
    f224 := by first | exact ⟨Tryz.f168.name, by decide, Tryz.func168.trans (congrArg some (by kernel_rfl))⟩ | exact Tryz.func168.trans (congrArg some (by kernel_rfl)),
    f225 := by first | exact ⟨Tryz.f167.name, by decide, Tryz.func167.trans (congrArg some (by kernel_rfl))⟩ | exact Tryz.func167.trans (congrArg some (by kernel_rfl)),
    f260 := by first | exact ⟨Tryz.f203.name, by decide, Tryz.func203.trans (congrArg some (by kernel_rfl))⟩ | exact Tryz.func203.trans (congrArg some (by kernel_rfl)),
    f266 := by first | exact ⟨Tryz.f190.name, by decide, Tryz.func190.trans (congrArg some (by kernel_rfl))⟩ | exact Tryz.func190.trans (congrArg some (by kernel_rfl)),
    f267 := by first | exact ⟨Tryz.f169.name, by decide, Tryz.func169.trans (congrArg some (by kernel_rfl))⟩ | exact Tryz.func169.trans (congrArg some (by kernel_rfl)),
    f268 := by first | exact ⟨Tryz.f170.name, by decide, Tryz.func170.trans (congrArg some (by kernel_rfl))⟩ | exact Tryz.func170.trans (congrArg some (by kernel_rfl)),
    f314 := by first | exact ⟨Tryz.f191.name, by decide, Tryz.func191.trans (congrArg some (by kernel_rfl))⟩ | exact Tryz.func191.trans (congrArg some (by kernel_rfl)),
    t0 := by exact Tryz.underlying0,
    a0 := by exact Tryz.isAgg0,
    z0 := by exact Tryz.sizeOf0,
    v0 := by exact Tryz.zeroValue0,
    t3 := by exact Tryz.underlying3,
    a3 := by exact Tryz.isAgg3,
    z3 := by exact Tryz.sizeOf3,
    v3 := by exact Tryz.zeroValue3,
    t4 := by exact Tryz.underlying4,
    a4 := by exact Tryz.isAgg4,
    z4 := by exact Tryz.sizeOf4,
    v4 := by exact Tryz.zeroValue4,
    t5 := by exact Tryz.underlying5,
    a5 := by exact Tryz.isAgg5,
    z5 := by exact Tryz.sizeOf5,
    v5 := by exact Tryz.zeroValue5,
    t9 := by exact Tryz.underlying9,
    a9 := by exact Tryz.isAgg9,
    z9 := by exact Tryz.sizeOf9,
    v9 := by exact Tryz.zeroValue9,
    t21 := by exact Tryz.underlying21,
    a21 := by exact Tryz.isAgg21,
    z21 := by exact Tryz.sizeOf21,
    v21 := by exact Tryz.zeroValue21,
    t31 := by exact Tryz.underlying147,
    a31 := by exact Tryz.isAgg147,
    z31 := by exact Tryz.sizeOf147,
    v31 := by exact Tryz.zeroValue147,
    t46 := by exact Tryz.underlying162,
    a46 := by exact Tryz.isAgg162,
    z46 := by exact Tryz.sizeOf162,
    v46 := by exact Tryz.zeroValue162,
    t51 := by exact Tryz.underlying183,
    a51 := by exact Tryz.isAgg183,
    z51 := by exact Tryz.sizeOf183,
    v51 := by exact Tryz.zeroValue183,
    t105 := by exact Tryz.underlying212,
    a105 := by exact Tryz.isAgg212,
    z105 := by exact Tryz.sizeOf212,
    v105 := by exact Tryz.zeroValue212,
    t119 := by exact Tryz.underlying228,
    a119 := by exact Tryz.isAgg228,
    z119 := by exact Tryz.sizeOf228,
    t138 := by exact Tryz.underlying230,
    a138 := by exact Tryz.isAgg230,
    z138 := by exact Tryz.sizeOf230,
    v138 := by exact Tryz.zeroValue230,
    t139 := by exact Tryz.underlying231,
    a139 := by exact Tryz.isAgg231,
    z139 := by exact Tryz.sizeOf231,
    v139 := by exact Tryz.zeroValue231,
    t146 := by exact Tryz.underlying209,
    a146 := by exact Tryz.isAgg209,
    z146 := by exact Tryz.sizeOf209,
    v146 := by exact Tryz.zeroValue209,
    g1 := by kernel_rfl,
    g3 := by kernel_rfl,
    g4 := by kernel_rfl }
end Go.Proofs
end
section
namespace Go.Am
open Go Go.RowKit Go.Proofs
def x5b:List (List D)→Option (List ByteArray)
 |[]=>some []
 |[.str s]::l=>match x5b l with
  |some r=>some (s::r)
  |none=>none
 |_=>none
theorem x25:∀ {es:List (List D)} {xs:List ByteArray},x5b es=some xs→es=xs.map fun s=>[.str s]
 |[],xs,h=>by cases h; rfl
 |r::l,xs,h=>by
  unfold x5b at h
  split at h
  ·rename_i heq; cases heq
  ·rename_i s l' heq
   cases heq
   split at h
   ·rename_i r' hr
    cases h
    rw [x25 hr]; rfl
   ·cases h
  ·cases h
def z4k (xs:List ByteArray) (sep:ByteArray):ByteArray:=⟨(Lib.join (xs.map (·.data.toList)) sep.data.toList).toArray⟩
def x02:Ctr:=⟨121,[.list 1, .str],[],[(.ret,⟨[(0, .str)],[],1⟩)]⟩
def w59 (_:Prim) (y:List (List D)×(ByteArray×Unit)):Option (ByteArray×Unit):=
 match x5b y.1 with
 |some xs=>bif Nat.ble (z4k xs y.2.1).size 1000000&&Nat.ble xs.length 1000000 then some ((z4k xs y.2.1,())) else none
 |none=>none
def v13:Prim→Tup (x02).scs→Option (STup (scss (x02).outs)):=fun p x=>w59 p x
theorem v1n {ρ:Rho} {O:Nat→Prop} {w:World} {a:AV} {vs:Array Value} (h:z0z ρ O w [a] vs):∃ x,vs=#[x]∧z0i ρ O w a x:=by
 obtain ⟨h1,h2⟩:=h
 have h1:vs.size=1:=h1
 refine ⟨vs.getD 0 undef,?_,h2 0 a rfl⟩
 apply Array.ext (by simpa using h1)
 intro i hi hj
 have hj:i<1:=hj
 have:i=0:=by omega
 subst this
 simp [Array.getD,hi]
theorem x9u {ρ:Rho} {O:Nat→Prop} {w:World} {a b:AV} {vs:Array Value} (h:z0z ρ O w [a,b] vs):∃ x y,vs=#[x,y]∧z0i ρ O w a x∧z0i ρ O w b y:=by
 obtain ⟨h1,h2⟩:=h
 have h1:vs.size=2:=h1
 refine ⟨vs.getD 0 undef,vs.getD 1 undef,?_,h2 0 a rfl,h2 1 b rfl⟩
 apply Array.ext (by simpa using h1)
 intro i hi hj
 have hj:i<2:=hj
 match i,hj with
 |0,_=>simp [Array.getD,hi]
 |1,_=>simp [Array.getD,hi]
theorem y0z:Builder.Extra Tryz.prog y6c where
 sizeBuilder:=by kernel_rfl
 liesBuilder:=by kernel_rfl
 t5:=by exact Tryz.underlying5
 a5:=by exact Tryz.isAgg5
 z5:=by exact Tryz.sizeOf5
 v5:=by exact Tryz.zeroValue5
 infoByte:=by kernel_rfl
 cellsByte:=by kernel_rfl
 sizeByte:=by kernel_rfl
 neB5:=by decide
theorem w64:CtrOk Tryz.prog x02 (v13 std):=by
 refine ⟨enters_of Tryz.func121 rfl rfl,fun x y hy=>?_⟩
 obtain ⟨es,sep,u⟩:=x
 change w59 std (es,sep,u)=_ at hy
 unfold w59 at hy
 simp only at hy
 split at hy
 ·rename_i xs hs
  cases hb:(Nat.ble (z4k xs sep).size 1000000&&Nat.ble xs.length 1000000) with
  |false=>rw [hb] at hy; cases hy
  |true=>
   rw [hb] at hy
   cases hy
   simp only [eAb] at hb
   have hb1:=eAf hb.1
   have hb2:=eAf hb.2
   refine ⟨eAv _,?_⟩
   show z2z _ 121 [.d (.list false 1 es), .d (.str sep)] [] (.d (.str (z4k xs sep))) []
   have hes:=x25 hs
   refine z1y fun ρ vs w hno hgl har=>?_
   obtain ⟨a,b,rfl,ha,hb'⟩:=x9u har
   cases hb' with|d hb'=>
   cases hb'
   cases ha with|d ha=>
   have hsz:(Lib.join (xs.map (·.data.toList)) sep.data.toList).length≤140737488355328:=by
    have:(z4k xs sep).size=(Lib.join (xs.map (·.data.toList)) sep.data.toList).length:=by simp [z4k,ByteArray.size]
    omega
   cases ha with
   |lnil _ _ a c h=>
    cases xs with
    |cons _ _=>cases hes
    |nil=>
    exact (Any.strings_Join_none y8f y0z a c sep w).mono fun e w' ⟨he,hw⟩=>⟨_,he, .d (.str _),hw▸Below.refl _ _⟩
   |list _ _ b o z c hz hne hO hlc hf hsz1 cell h1 hc h=>
    subst hes
    have hcells:∀ (j:Nat) x,xs[j]?=some x→w.cell? ⟨b,o+j,none⟩=some (.string x):=fun j x hj=>by
     have hjl:j<xs.length:=(eAd.1 hj).1
     have hd:=h j [.str x] 0 (.str x) (by rw [eAg,hj]; rfl) rfl
     rw [hc j (by rw [eBt]; omega)]
     simp only [eBx,eAt] at hd
     generalize cell j=q at hd
     cases hd; rfl
    have hlt:b<w.heap.size:=by
     cases xs with
     |nil=>exact absurd rfl hne
     |cons x r=>exact y0b (hcells 0 x rfl)
    have:=Any.strings_Join y8f y0z b o c xs sep w hcells hlt (by omega) (by simpa using hlc) hsz
    rw [eBt]
    exact this.mono fun e w' ⟨he,hw⟩=>⟨_,he, .d (.str _),hw⟩
 ·cases hy
end Go.Am
end
section
namespace Go.Proofs
def x0a:Go.Shelf.Ren:=⟨fun|338=>202|337=>201|318=>186|317=>185|129=>160|320=>188|319=>187|286=>164|285=>163|284=>162|283=>161|246=>143|173=>120|n=>n,fun|232=>226|233=>227|212=>206|51=>183|46=>162|213=>207|20=>20|173=>188|5=>5|37=>53|53=>100|0=>0|171=>186|4=>4|9=>9|3=>3|2=>2|n=>n,fun|18=>4|19=>5|17=>1|n=>n⟩
theorem w7f : Go.Proofs.Lays.n173 Tryz.prog x0a :=
  { mixed := by kernel_rfl,
    f129 := by first | exact ⟨Tryz.f160.name, by decide, Tryz.func160.trans (congrArg some (by kernel_rfl))⟩ | exact Tryz.func160.trans (congrArg some (by kernel_rfl)),
    f173 := by first | exact ⟨Tryz.f120.name, by decide, Tryz.func120.trans (congrArg some (by kernel_rfl))⟩ | exact Tryz.func120.trans (congrArg some (by kernel_rfl)),
    f246 := by first | exact ⟨Tryz.f143.name, by decide, Tryz.func143.trans (congrArg some (by kernel_rfl))⟩ | exact Tryz.func143.trans (congrArg some (by kernel_rfl)),
    f283 := by first | exact ⟨Tryz.f161.name, by decide, Tryz.func161.trans (congrArg some (by kernel_rfl))⟩ | exact Tryz.func161.trans (congrArg some (by kernel_rfl)),
    f284 := by first | exact ⟨Tryz.f162.name, by decide, Tryz.func162.trans (congrArg some (by kernel_rfl))⟩ | exact Tryz.func162.trans (congrArg some (by kernel_rfl)),
    f285 := by first | exact ⟨Tryz.f163.name, by decide, Tryz.func163.trans (congrArg some (by kernel_rfl))⟩ | exact Tryz.func163.trans (congrArg some (by kernel_rfl)),
    f286 := by first | exact ⟨Tryz.f164.name, by decide, Tryz.func164.trans (congrArg some (by kernel_rfl))⟩ | exact Tryz.func164.trans (congrArg some (by kernel_rfl)),
    f317 := by first | exact ⟨Tryz.f185.name, by decide, Tryz.func185.trans (congrArg some (by kernel_rfl))⟩ | exact Tryz.func185.trans (congrArg some (by kernel_rfl)),
    f318 := by first | exact ⟨Tryz.f186.name, by decide, Tryz.func186.trans (congrArg some (by kernel_rfl))⟩ | exact Tryz.func186.trans (congrArg some (by kernel_rfl)),
    f319 := by first | exact ⟨Tryz.f187.name, by decide, Tryz.func187.trans (congrArg some (by kernel_rfl))⟩ | exact Tryz.func187.trans (congrArg some (by kernel_rfl)),
    f320 := by first | exact ⟨Tryz.f188.name, by decide, Tryz.func188.trans (congrArg some (by kernel_rfl))⟩ | exact Tryz.func188.trans (congrArg some (by kernel_rfl)),
    f337 := by first | exact ⟨Tryz.f201.name, by decide, Tryz.func201.trans (congrArg some (by kernel_rfl))⟩ | exact Tryz.func201.trans (congrArg some (by kernel_rfl)),
    f338 := by first | exact ⟨Tryz.f202.name, by decide, Tryz.func202.trans (congrArg some (by kernel_rfl))⟩ | exact Tryz.func202.trans (congrArg some (by kernel_rfl)),
    t0 := by exact Tryz.underlying0,
    a0 := by exact Tryz.isAgg0,
    z0 := by exact Tryz.sizeOf0,
    v0 := by exact Tryz.zeroValue0,
    t2 := by exact Tryz.underlying2,
    a2 := by exact Tryz.isAgg2,
    z2 := by exact Tryz.sizeOf2,
    v2 := by exact Tryz.zeroValue2,
    t3 := by exact Tryz.underlying3,
    a3 := by exact Tryz.isAgg3,
    z3 := by exact Tryz.sizeOf3,
    v3 := by exact Tryz.zeroValue3,
    t4 := by exact Tryz.underlying4,
    a4 := by exact Tryz.isAgg4,
    z4 := by exact Tryz.sizeOf4,
    v4 := by exact Tryz.zeroValue4,
    t5 := by exact Tryz.underlying5,
    a5 := by exact Tryz.isAgg5,
    z5 := by exact Tryz.sizeOf5,
    v5 := by exact Tryz.zeroValue5,
    t9 := by exact Tryz.underlying9,
    a9 := by exact Tryz.isAgg9,
    z9 := by exact Tryz.sizeOf9,
    v9 := by exact Tryz.zeroValue9,
    t20 := by exact Tryz.underlying20,
    a20 := by exact Tryz.isAgg20,
    z20 := by exact Tryz.sizeOf20,
    v20 := by exact Tryz.zeroValue20,
    t37 := by exact Tryz.underlying53,
    a37 := by exact Tryz.isAgg53,
    z37 := by exact Tryz.sizeOf53,
    v37 := by exact Tryz.zeroValue53,
    t46 := by exact Tryz.underlying162,
    a46 := by exact Tryz.isAgg162,
    z46 := by exact Tryz.sizeOf162,
    v46 := by exact Tryz.zeroValue162,
    t51 := by exact Tryz.underlying183,
    a51 := by exact Tryz.isAgg183,
    z51 := by exact Tryz.sizeOf183,
    v51 := by exact Tryz.zeroValue183,
    t53 := by exact Tryz.underlying100,
    a53 := by exact Tryz.isAgg100,
    z53 := by exact Tryz.sizeOf100,
    v53 := by exact Tryz.zeroValue100,
    t171 := by exact Tryz.underlying186,
    a171 := by exact Tryz.isAgg186,
    z171 := by exact Tryz.sizeOf186,
    v171 := by exact Tryz.zeroValue186,
    t173 := by exact Tryz.underlying188,
    a173 := by exact Tryz.isAgg188,
    z173 := by exact Tryz.sizeOf188,
    v173 := by exact Tryz.zeroValue188,
    t212 := by exact Tryz.underlying206,
    a212 := by exact Tryz.isAgg206,
    z212 := by exact Tryz.sizeOf206,
    v212 := by exact Tryz.zeroValue206,
    t213 := by exact Tryz.underlying207,
    a213 := by exact Tryz.isAgg207,
    z213 := by exact Tryz.sizeOf207,
    t232 := by exact Tryz.underlying226,
    a232 := by exact Tryz.isAgg226,
    z232 := by exact Tryz.sizeOf226,
    v232 := by exact Tryz.zeroValue226,
    t233 := by exact Tryz.underlying227,
    a233 := by exact Tryz.isAgg227,
    z233 := by exact Tryz.sizeOf227,
    v233 := by exact Tryz.zeroValue227,
    g17 := by kernel_rfl,
    g18 := by kernel_rfl,
    g19 := by kernel_rfl }
def y4b:Go.Shelf.Ren:=⟨fun|338=>202|337=>201|318=>186|317=>185|129=>160|320=>188|319=>187|286=>164|285=>163|284=>162|283=>161|246=>143|243=>204|205=>198|171=>199|316=>197|322=>196|321=>195|287=>174|282=>178|281=>177|280=>176|279=>175|245=>149|247=>148|174=>127|n=>n,fun|80=>71|232=>226|233=>227|212=>206|51=>183|213=>207|20=>20|173=>188|171=>186|21=>21|127=>149|143=>223|145=>225|210=>218|0=>0|37=>53|46=>162|175=>194|53=>100|5=>5|168=>196|167=>193|4=>4|85=>154|75=>120|2=>2|3=>3|9=>9|n=>n,fun|18=>4|19=>5|17=>1|15=>2|16=>3|n=>n⟩
theorem w7e : Go.Proofs.Lays.n174 Tryz.prog y4b :=
  { mixed := by kernel_rfl,
    f129 := by first | exact ⟨Tryz.f160.name, by decide, Tryz.func160.trans (congrArg some (by kernel_rfl))⟩ | exact Tryz.func160.trans (congrArg some (by kernel_rfl)),
    f171 := by first | exact ⟨Tryz.f199.name, by decide, Tryz.func199.trans (congrArg some (by kernel_rfl))⟩ | exact Tryz.func199.trans (congrArg some (by kernel_rfl)),
    f174 := by first | exact ⟨Tryz.f127.name, by decide, Tryz.func127.trans (congrArg some (by kernel_rfl))⟩ | exact Tryz.func127.trans (congrArg some (by kernel_rfl)),
    f205 := by first | exact ⟨Tryz.f198.name, by decide, Tryz.func198.trans (congrArg some (by kernel_rfl))⟩ | exact Tryz.func198.trans (congrArg some (by kernel_rfl)),
    f243 := by first | exact ⟨Tryz.f204.name, by decide, Tryz.func204.trans (congrArg some (by kernel_rfl))⟩ | exact Tryz.func204.trans (congrArg some (by kernel_rfl)),
    f245 := by first | exact ⟨Tryz.f149.name, by decide, Tryz.func149.trans (congrArg some (by kernel_rfl))⟩ | exact Tryz.func149.trans (congrArg some (by kernel_rfl)),
    f246 := by first | exact ⟨Tryz.f143.name, by decide, Tryz.func143.trans (congrArg some (by kernel_rfl))⟩ | exact Tryz.func143.trans (congrArg some (by kernel_rfl)),
    f247 := by first | exact ⟨Tryz.f148.name, by decide, Tryz.func148.trans (congrArg some (by kernel_rfl))⟩ | exact Tryz.func148.trans (congrArg some (by kernel_rfl)),
    f279 := by first | exact ⟨Tryz.f175.name, by decide, Tryz.func175.trans (congrArg some (by kernel_rfl))⟩ | exact Tryz.func175.trans (congrArg some (by kernel_rfl)),
    f280 := by first | exact ⟨Tryz.f176.name, by decide, Tryz.func176.trans (congrArg some (by kernel_rfl))⟩ | exact Tryz.func176.trans (congrArg some (by kernel_rfl)),
    f281 := by first | exact ⟨Tryz.f177.name, by decide, Tryz.func177.trans (congrArg some (by kernel_rfl))⟩ | exact Tryz.func177.trans (congrArg some (by kernel_rfl)),
    f282 := by first | exact ⟨Tryz.f178.name, by decide, Tryz.func178.trans (congrArg some (by kernel_rfl))⟩ | exact Tryz.func178.trans (congrArg some (by kernel_rfl)),
    f283 := by first | exact ⟨Tryz.f161.name, by decide, Tryz.func161.trans (congrArg some (by kernel_rfl))⟩ | exact Tryz.func161.trans (congrArg some (by kernel_rfl)),
    f284 := by first | exact ⟨Tryz.f162.name, by decide, Tryz.func162.trans (congrArg some (by kernel_rfl))⟩ | exact Tryz.func162.trans (congrArg some (by kernel_rfl)),
    f285 := by first | exact ⟨Tryz.f163.name, by decide, Tryz.func163.trans (congrArg some (by kernel_rfl))⟩ | exact Tryz.func163.trans (congrArg some (by kernel_rfl)),
    f286 := by first | exact ⟨Tryz.f164.name, by decide, Tryz.func164.trans (congrArg some (by kernel_rfl))⟩ | exact Tryz.func164.trans (congrArg some (by kernel_rfl)),
    f287 := by first | exact ⟨Tryz.f174.name, by decide, Tryz.func174.trans (congrArg some (by kernel_rfl))⟩ | exact Tryz.func174.trans (congrArg some (by kernel_rfl)),
    f316 := by first | exact ⟨Tryz.f197.name, by decide, Tryz.func197.trans (congrArg some (by kernel_rfl))⟩ | exact Tryz.func197.trans (congrArg some (by kernel_rfl)),
    f317 := by first | exact ⟨Tryz.f185.name, by decide, Tryz.func185.trans (congrArg some (by kernel_rfl))⟩ | exact Tryz.func185.trans (congrArg some (by kernel_rfl)),
    f318 := by first | exact ⟨Tryz.f186.name, by decide, Tryz.func186.trans (congrArg some (by kernel_rfl))⟩ | exact Tryz.func186.trans (congrArg some (by kernel_rfl)),
    f319 := by first | exact ⟨Tryz.f187.name, by decide, Tryz.func187.trans (congrArg some (by kernel_rfl))⟩ | exact Tryz.func187.trans (congrArg some (by kernel_rfl)),
    f320 := by first | exact ⟨Tryz.f188.name, by decide, Tryz.func188.trans (congrArg some (by kernel_rfl))⟩ | exact Tryz.func188.trans (congrArg some (by kernel_rfl)),
    f321 := by first | exact ⟨Tryz.f195.name, by decide, Tryz.func195.trans (congrArg some (by kernel_rfl))⟩ | exact Tryz.func195.trans (congrArg some (by kernel_rfl)),
    f322 := by first | exact ⟨Tryz.f196.name, by decide, Tryz.func196.trans (congrArg some (by kernel_rfl))⟩ | exact Tryz.func196.trans (congrArg some (by kernel_rfl)),
    f337 := by first | exact ⟨Tryz.f201.name, by decide, Tryz.func201.trans (congrArg some (by kernel_rfl))⟩ | exact Tryz.func201.trans (congrArg some (by kernel_rfl)),
    f338 := by first | exact ⟨Tryz.f202.name, by decide, Tryz.func202.trans (congrArg some (by kernel_rfl))⟩ | exact Tryz.func202.trans (congrArg some (by kernel_rfl)),
    t0 := by exact Tryz.underlying0,
    a0 := by exact Tryz.isAgg0,
    z0 := by exact Tryz.sizeOf0,
    v0 := by exact Tryz.zeroValue0,
    t2 := by exact Tryz.underlying2,
    a2 := by exact Tryz.isAgg2,
    z2 := by exact Tryz.sizeOf2,
    v2 := by exact Tryz.zeroValue2,
    t3 := by exact Tryz.underlying3,
    a3 := by exact Tryz.isAgg3,
    z3 := by exact Tryz.sizeOf3,
    v3 := by exact Tryz.zeroValue3,
    t4 := by exact Tryz.underlying4,
    a4 := by exact Tryz.isAgg4,
    z4 := by exact Tryz.sizeOf4,
    v4 := by exact Tryz.zeroValue4,
    t5 := by exact Tryz.underlying5,
    a5 := by exact Tryz.isAgg5,
    z5 := by exact Tryz.sizeOf5,
    v5 := by exact Tryz.zeroValue5,
    t9 := by exact Tryz.underlying9,
    a9 := by exact Tryz.isAgg9,
    z9 := by exact Tryz.sizeOf9,
    v9 := by exact Tryz.zeroValue9,
    t20 := by exact Tryz.underlying20,
    a20 := by exact Tryz.isAgg20,
    z20 := by exact Tryz.sizeOf20,
    v20 := by exact Tryz.zeroValue20,
    t21 := by exact Tryz.underlying21,
    a21 := by exact Tryz.isAgg21,
    z21 := by exact Tryz.sizeOf21,
    v21 := by exact Tryz.zeroValue21,
    t37 := by exact Tryz.underlying53,
    a37 := by exact Tryz.isAgg53,
    z37 := by exact Tryz.sizeOf53,
    v37 := by exact Tryz.zeroValue53,
    t46 := by exact Tryz.underlying162,
    a46 := by exact Tryz.isAgg162,
    z46 := by exact Tryz.sizeOf162,
    v46 := by exact Tryz.zeroValue162,
    t51 := by exact Tryz.underlying183,
    a51 := by exact Tryz.isAgg183,
    z51 := by exact Tryz.sizeOf183,
    v51 := by exact Tryz.zeroValue183,
    t53 := by exact Tryz.underlying100,
    a53 := by exact Tryz.isAgg100,
    z53 := by exact Tryz.sizeOf100,
    v53 := by exact Tryz.zeroValue100,
    t75 := by exact Tryz.underlying120,
    a75 := by exact Tryz.isAgg120,
    z75 := by exact Tryz.sizeOf120,
    v75 := by exact Tryz.zeroValue120,
    t85 := by exact Tryz.underlying154,
    a85 := by exact Tryz.isAgg154,
    z85 := by exact Tryz.sizeOf154,
    v85 := by exact Tryz.zeroValue154,
    t127 := by exact Tryz.underlying149,
    a127 := by exact Tryz.isAgg149,
    z127 := by exact Tryz.sizeOf149,
    v127 := by exact Tryz.zeroValue149,
    t143 := by exact Tryz.underlying223,
    a143 := by exact Tryz.isAgg223,
    z143 := by exact Tryz.sizeOf223,
    v143 := by exact Tryz.zeroValue223,
    t145 := by exact Tryz.underlying225,
    a145 := by exact Tryz.isAgg225,
    z145 := by exact Tryz.sizeOf225,
    v145 := by exact Tryz.zeroValue225,
    t167 := by exact Tryz.underlying193,
    a167 := by exact Tryz.isAgg193,
    z167 := by exact Tryz.sizeOf193,
    v167 := by exact Tryz.zeroValue193,
    t168 := by exact Tryz.underlying196,
    a168 := by exact Tryz.isAgg196,
    z168 := by exact Tryz.sizeOf196,
    v168 := by exact Tryz.zeroValue196,
    t171 := by exact Tryz.underlying186,
    a171 := by exact Tryz.isAgg186,
    z171 := by exact Tryz.sizeOf186,
    v171 := by exact Tryz.zeroValue186,
    t173 := by exact Tryz.underlying188,
    a173 := by exact Tryz.isAgg188,
    z173 := by exact Tryz.sizeOf188,
    v173 := by exact Tryz.zeroValue188,
    t175 := by exact Tryz.underlying194,
    a175 := by exact Tryz.isAgg194,
    z175 := by exact Tryz.sizeOf194,
    v175 := by exact Tryz.zeroValue194,
    t210 := by exact Tryz.underlying218,
    a210 := by exact Tryz.isAgg218,
    z210 := by exact Tryz.sizeOf218,
    v210 := by exact Tryz.zeroValue218,
    t212 := by exact Tryz.underlying206,
    a212 := by exact Tryz.isAgg206,
    z212 := by exact Tryz.sizeOf206,
    v212 := by exact Tryz.zeroValue206,
    t213 := by exact Tryz.underlying207,
    a213 := by exact Tryz.isAgg207,
    z213 := by exact Tryz.sizeOf207,
    t232 := by exact Tryz.underlying226,
    a232 := by exact Tryz.isAgg226,
    z232 := by exact Tryz.sizeOf226,
    v232 := by exact Tryz.zeroValue226,
    t233 := by exact Tryz.underlying227,
    a233 := by exact Tryz.isAgg227,
    z233 := by exact Tryz.sizeOf227,
    v233 := by exact Tryz.zeroValue227,
    g15 := by kernel_rfl,
    g16 := by kernel_rfl,
    g17 := by kernel_rfl,
    g18 := by kernel_rfl,
    g19 := by kernel_rfl }
theorem x78 : Go.Proofs.LaysM.n173 Tryz.prog x0a :=
  { w7f with
    i0 := by kernel_rfl,
    i2 := by kernel_rfl,
    i3 := by kernel_rfl,
    i4 := by kernel_rfl,
    i5 := by kernel_rfl,
    i9 := by kernel_rfl,
    i20 := by kernel_rfl,
    i37 := by kernel_rfl,
    i46 := by kernel_rfl,
    i51 := by kernel_rfl,
    i53 := by kernel_rfl,
    i171 := by kernel_rfl,
    i173 := by kernel_rfl,
    i212 := by kernel_rfl,
    i232 := by kernel_rfl,
    i233 := by kernel_rfl,
    m17 := by kernel_rfl,
    m18 := by kernel_rfl,
    m19 := by kernel_rfl }
theorem w4v : Go.Proofs.LaysM.n174 Tryz.prog y4b :=
  { w7e with
    t80 := by exact Tryz.underlying71,
    a80 := by exact Tryz.isAgg71,
    z80 := by exact Tryz.sizeOf71,
    v80 := by exact Tryz.zeroValue71,
    i0 := by kernel_rfl,
    i2 := by kernel_rfl,
    i3 := by kernel_rfl,
    i4 := by kernel_rfl,
    i5 := by kernel_rfl,
    i9 := by kernel_rfl,
    i20 := by kernel_rfl,
    i21 := by kernel_rfl,
    i37 := by kernel_rfl,
    i46 := by kernel_rfl,
    i51 := by kernel_rfl,
    i53 := by kernel_rfl,
    i75 := by kernel_rfl,
    i80 := by kernel_rfl,
    i85 := by kernel_rfl,
    i127 := by kernel_rfl,
    i143 := by kernel_rfl,
    i145 := by kernel_rfl,
    i167 := by kernel_rfl,
    i168 := by kernel_rfl,
    i171 := by kernel_rfl,
    i173 := by kernel_rfl,
    i175 := by kernel_rfl,
    i210 := by kernel_rfl,
    i212 := by kernel_rfl,
    i232 := by kernel_rfl,
    i233 := by kernel_rfl,
    m15 := by kernel_rfl,
    m16 := by kernel_rfl,
    m17 := by kernel_rfl,
    m18 := by kernel_rfl,
    m19 := by kernel_rfl }
theorem x2m : Go.Proofs.LaysC.n174 Tryz.prog y4b :=
  { toM := w4v,
    c0 := by kernel_rfl,
    c2 := by kernel_rfl,
    c3 := by kernel_rfl,
    c4 := by kernel_rfl,
    c5 := by kernel_rfl,
    c9 := by kernel_rfl,
    c20 := by kernel_rfl,
    c21 := by kernel_rfl,
    c37 := by kernel_rfl,
    c46 := by kernel_rfl,
    c51 := by kernel_rfl,
    c53 := by kernel_rfl,
    c75 := by kernel_rfl,
    c80 := by kernel_rfl,
    c85 := by kernel_rfl,
    c127 := by kernel_rfl,
    c143 := by kernel_rfl,
    c145 := by kernel_rfl,
    c167 := by kernel_rfl,
    c168 := by kernel_rfl,
    c171 := by kernel_rfl,
    c173 := by kernel_rfl,
    c175 := by kernel_rfl,
    c210 := by kernel_rfl,
    c212 := by kernel_rfl,
    c213 := by kernel_rfl,
    c232 := by kernel_rfl,
    c233 := by kernel_rfl }
end Go.Proofs
namespace Go.Am
open Go Go.RowKit Go.Proofs
theorem w54 {ρ:Rho} {O:Nat→Prop} {w:World} {a b c:AV} {vs:Array Value} (h:z0z ρ O w [a,b,c] vs):∃ x y z,vs=#[x,y,z]∧z0i ρ O w a x∧z0i ρ O w b y∧z0i ρ O w c z:=by
 obtain ⟨h1,h2⟩:=h
 have h1:vs.size=3:=h1
 refine ⟨vs.getD 0 undef,vs.getD 1 undef,vs.getD 2 undef,?_,h2 0 a rfl,h2 1 b rfl,h2 2 c rfl⟩
 apply Array.ext (by simpa using h1)
 intro i hi hj
 have hj:i<3:=hj
 match i,hj with
 |0,_=>simp [Array.getD,hi]
 |1,_=>simp [Array.getD,hi]
 |2,_=>simp [Array.getD,hi]
theorem x1l {P:Program} {O:Nat→Prop} {w:World} (hg:GL P O w) {g:Nat} {name:String} {k:IntKind} {zs:List Int} (hn:P.globalNamed name=some g) (hl:z94 P g=some (zs.map fun z=>D.int k z)):Lib.TabIs P w name k zs:=by
 obtain ⟨hlt,_,hb,hc⟩:=hg.lay g _ hl
 unfold Lib.TabIs World.var?
 rw [hn]
 unfold z0t at hb
 cases hq:w.heap[g]? with
 |none=>rw [hq] at hb; cases hb
 |some o=>
  cases o with
  |cells c t fr=>
   rw [hq] at hb
   simp only [Option.some.injEq,eBt] at hb
   simp only [eAx,hq,Option.some.injEq]
   apply Array.ext (by simpa using hb)
   intro i h1 h2
   have hi:i<zs.length:=by omega
   obtain ⟨v,hv,hd⟩:=hc i (.int k zs[i]) (by rw [eAg,eAa hi]; rfl)
   have hv':c[i]?=some v:=by
    unfold World.cell? at hv
    simp only [hq] at hv
    simpa using hv
   rw [eAm h1] at hv'
   have:=hd (fun _=>False) w
   cases this
   simpa using hv'
  |_=>rw [hq] at hb; cases hb
theorem y14 {P:Program} {O:Nat→Prop} {w:World} (hg:GL P O w) {g:Nat} (h:z9l P g=some true):∃ m,w.cell? ⟨g,0,none⟩=some (.int .i64 m):=by
 obtain ⟨_,_,v,hv,n,rfl⟩:=hg.shp g true h
 exact ⟨n,hv⟩
theorem x0s {P:Program} {O:Nat→Prop} {w:World} (hg:GL P O w) {g:Nat} (h:z9l P g=some false):∃ v,w.cell? ⟨g,0,none⟩=some v∧(v= .nilIface∨∃ t p,v= .iface t p):=by
 obtain ⟨_,_,v,hv,hs⟩:=hg.shp g false h
 exact ⟨v,hv,hs⟩
theorem x5n:z94 Tryz.prog 1=some (Lib.pow10Tab.map fun z=>D.int .u64 z):=by kernel_rfl
theorem v18:z9l Tryz.prog 0=some true:=by kernel_rfl
theorem shp2:z9l Tryz.prog 2=some false:=by kernel_rfl
theorem shp3:z9l Tryz.prog 3=some false:=by kernel_rfl
def y5g (n:Int):Bool:=decide (-9223372036854775808≤n)&&decide (n≤9223372036854775807)
def z3i (n:Int):ByteArray:=⟨(Lib.itoa n).toArray⟩
def x03:Ctr:=⟨120,[.int .i64, .int .i64],[],[(.ret,⟨[(0, .str)],[],1⟩)]⟩
def w3u (_:Prim) (x:Int×(Int×Unit)):Option (ByteArray×Unit):=bif y5g x.1&&decide (x.2.1=10) then some (z3i x.1,()) else none
def v14:Prim→Tup (x03).scs→Option (STup (scss (x03).outs)):=fun p x=>w3u p x
theorem w65:CtrOk Tryz.prog x03 (v14 std):=by
 refine ⟨enters_of Tryz.func120 rfl rfl,fun (x:Int×(Int×Unit)) y hy=>?_⟩
 obtain ⟨n,b,u⟩:=x
 change w3u std (n,b,u)=_ at hy
 unfold w3u at hy
 cases hb:(y5g n&&decide (b=10)) with
 |false=>rw [hb] at hy; cases hy
 |true=>
  rw [hb] at hy
  cases hy
  simp only [y5g,eAb,decide_eq_true_eq] at hb
  obtain ⟨⟨h1,h2⟩,rfl⟩:=hb
  refine ⟨eAv _,?_⟩
  show z2z _ 120 [.d (.int .i64 n), .d (.int .i64 10)] [] (.d (.str (z3i n))) []
  refine z1y fun ρ vs w hno hgl har=>?_
  obtain ⟨a,b,rfl,ha,hb⟩:=x9u har
  cases ha with|d ha=>cases hb with|d hb=>
  cases ha; cases hb
  refine (Any.strconv_FormatInt_10 x78 n h1 h2 w (x1l hgl x78.m17 x5n)).mono fun e w' ⟨he,k,os,hw⟩=>⟨_,he, .d (.str _),?_⟩
  rw [hw]; exact Go.Lib.below_grow _ _ (eAk _) _ _
def w6l (s p:ByteArray):ByteArray:=⟨(Lib.trimSuffix s.data.toList p.data.toList).toArray⟩
def x4w:Ctr:=⟨126,[.str, .str],[],[(.ret,⟨[(0, .str)],[],1⟩)]⟩
def v11 (_:Prim) (x:ByteArray×(ByteArray×Unit)):Option (ByteArray×Unit):=bif Nat.ble x.1.size 1000000 then some (w6l x.1 x.2.1,()) else none
def v2y:Prim→Tup (x4w).scs→Option (STup (scss (x4w).outs)):=fun p x=>v11 p x
theorem w98:CtrOk Tryz.prog x4w (v2y std):=by
 refine ⟨enters_of Tryz.func126 rfl rfl,fun x y hy=>?_⟩
 obtain ⟨s,q,u⟩:=x
 change v11 std (s,q,u)=_ at hy
 unfold v11 at hy
 cases hb:Nat.ble s.size 1000000 with
 |false=>rw [hb] at hy; cases hy
 |true=>
  rw [hb] at hy
  cases hy
  have hb:=eAf hb
  refine ⟨eAv _,?_⟩
  show z2z _ 126 [.d (.str s), .d (.str q)] [] (.d (.str (w6l s q))) []
  refine z1y fun ρ vs w hno hgl har=>?_
  obtain ⟨a,b,rfl,ha,hb'⟩:=x9u har
  cases ha with|d ha=>cases hb' with|d hb'=>
  cases ha; cases hb'
  exact (Any.strings_TrimSuffix w4u s q w (by omega)).mono fun e w' ⟨he,hw⟩=>⟨_,he, .d (.str _),hw▸Below.refl _ _⟩
def z9k (s sep:ByteArray):List ByteArray:=Lib.splitB sep 0 (Lib.countB s sep) s
def z27 (l:List ByteArray):List (List D):=l.map fun s=>[.str s]
def x4x:Ctr:=⟨125,[.str, .str],[],[(.ret,⟨[(0, .list 1)],[],1⟩)]⟩
def v12 (_:Prim) (x:ByteArray×(ByteArray×Unit)):Option (List (List D)×Unit):=bif Nat.ble x.1.size 1000000&&Nat.ble 1 x.2.1.size then some (z27 (z9k x.1 x.2.1),()) else none
def v2z:Prim→Tup (x4x).scs→Option (STup (scss (x4x).outs)):=fun p x=>v12 p x
theorem hi9:(Tryz.prog.info? (y4a.t 9)).map (fun i=>(i.zero,i.size,i.bytes))=some (some (.string ByteArray.empty),1,16):=by kernel_rfl
theorem w99:CtrOk Tryz.prog x4x (v2z std):=by
 refine ⟨enters_of Tryz.func125 rfl rfl,fun x y hy=>?_⟩
 obtain ⟨s,sep,u⟩:=x
 change v12 std (s,sep,u)=_ at hy
 unfold v12 at hy
 cases hb:(Nat.ble s.size 1000000&&Nat.ble 1 sep.size) with
 |false=>rw [hb] at hy; cases hy
 |true=>
  rw [hb] at hy
  cases hy
  simp only [eAb] at hb
  have hb1:=eAf hb.1
  have hb2:=eAf hb.2
  refine ⟨eAv _,?_⟩
  show z2z _ 125 [.d (.str s), .d (.str sep)] [] (.d (.list false 1 (z27 (z9k s sep)))) []
  refine y5n fun ρ vs w hno hfr hgl har=>?_
  obtain ⟨a,b,rfl,ha,hb'⟩:=x9u har
  cases ha with|d ha=>cases hb' with|d hb'=>
  cases ha; cases hb'
  obtain ⟨m,hm⟩:=y14 hgl v18
  refine (Any.strings_Split w07 hi9 s sep m w (by omega) hm hb2).mono fun e w' ⟨he,hw⟩=>⟨_,he,?_,?_⟩
  ·have hlen:(z9k s sep).length=Lib.countB s sep+1:=Lib.splitB_all sep hb2 0 _ s rfl
   have hne:z27 (z9k s sep)≠[]:=by
    intro e
    have:=congrArg List.length e
    simp [z27,hlen] at this
   have hll:(z27 (z9k s sep)).length=Lib.countB s sep+1:=by simp [z27,hlen]
   have hcell:∀ k,k<Lib.countB s sep+1→w'.cell? ⟨w.heap.size,k,none⟩=some (.string ((z9k s sep).getD k ByteArray.empty)):=by
    intro k hk
    rw [hw]
    unfold World.cell? World.alloc
    have hk':k<(z9k s sep).length:=by omega
    simp [z9k] at hk'⊢
    simp [hk']
   have key:=z02.list (O:=z0c ρ []) (w:=w') false (z27 (z9k s sep)) w.heap.size 0 1 (Lib.countB s sep+1) (by omega) hne (fun ho=>by
     rcases ho with hf|⟨id,L,hL,_⟩
     ·exact Nat.lt_irrefl _ (hfr _ hf)
     ·rw [hno id] at hL; cases hL) (by omega) (by simp) (fun i r hi=>by
     unfold z27 at hi
     rw [eAg] at hi
     obtain ⟨x,_,rfl⟩:=eAw.1 hi
     rfl) (fun k=> .string ((z9k s sep).getD k ByteArray.empty)) (fun k _=>rfl) (fun k hk=>by
     rw [eBx,hll] at hk
     rw [eAp]
     exact hcell k hk) (fun i r j d hi hj=>by
     unfold z27 at hi
     rw [eAg] at hi
     obtain ⟨x,hx,rfl⟩:=eAw.1 hi
     match j,hj with
     |0,hj=>
      cases hj
      rw [eBx,eAt,eCi,hx]
      exact .str _
     |j+1,hj=>simp at hj)
   rw [hll] at key
   exact .d key
  ·rw [hw]; exact (Below.refl _ w).alloc (eAk _) _
def w6h (s sep:ByteArray):ByteArray×ByteArray×Bool:=(⟨(Lib.cut s.data.toList sep.data.toList).1.toArray⟩,⟨(Lib.cut s.data.toList sep.data.toList).2.1.toArray⟩,(Lib.cut s.data.toList sep.data.toList).2.2)
def w15:Ctr:=⟨87,[.str, .str],[],[(.ret,⟨[(0, .tuple [.str, .str, .bool])],[],1⟩)]⟩
def G87 (_:Prim) (x:ByteArray×(ByteArray×Unit)):Option (ByteArray×(ByteArray×(Bool×Unit))):=bif Nat.ble x.1.size 1000000 then some ((w6h x.1 x.2.1).1,((w6h x.1 x.2.1).2.1,((w6h x.1 x.2.1).2.2,()))) else none
def F87:Prim→Tup (w15).scs→Option (STup (scss (w15).outs)):=fun p x=>G87 p x
theorem ok87:CtrOk Tryz.prog w15 (F87 std):=by
 refine ⟨enters_of Tryz.func87 rfl rfl,fun x y hy=>?_⟩
 obtain ⟨s,sep,u⟩:=x
 change G87 std (s,sep,u)=_ at hy
 unfold G87 at hy
 cases hb:Nat.ble s.size 1000000 with
 |false=>rw [hb] at hy; cases hy
 |true=>
  rw [hb] at hy
  cases hy
  have hb:=eAf hb
  refine ⟨eAv _,?_⟩
  show z2z _ 87 [.d (.str s), .d (.str sep)] [] (.tuple [.d (.str (w6h s sep).1), .d (.str (w6h s sep).2.1), .d (.bool (w6h s sep).2.2)]) []
  refine z1y fun ρ vs w hno hgl har=>?_
  obtain ⟨a,b,rfl,ha,hb'⟩:=x9u har
  cases ha with|d ha=>cases hb' with|d hb'=>
  cases ha; cases hb'
  obtain ⟨m,hm⟩:=y14 hgl v18
  refine (Any.strings_Cut w7g s sep m w (by omega) hm).mono fun e w' ⟨he,n,hw⟩=>⟨_,he, .tuple _ _ rfl fun i x hx=>?_,?_⟩
  ·match i,hx with
   |0,hx=>cases hx; exact .d (.str _)
   |1,hx=>cases hx; exact .d (.str _)
   |2,hx=>cases hx; exact .d (.bool _)
   |i+3,hx=>simp at hx
  ·rw [hw]; exact ⟨rfl,rfl,rfl,eAk _,fun _ _=>rfl⟩
def x4v:Ctr:=⟨127,[.str, .int .i64, .int .i64],[],[(.ret,⟨[(0, .tuple [.int .i64, .nili])],[],1⟩),(.ret,⟨[(0, .tuple [.int .i64, .ifc 196])],[],1⟩)]⟩
def v10 (_:Prim) (x:ByteArray×(Int×(Int×Unit))):Option ((Int×Unit)⊕(Int×Unit)):=
 bif Nat.ble x.1.size 1000000&&(decide (x.2.1=10)&&decide (x.2.2.1=64)) then
  match Lib.parseIntB 64 x.1.data.toList with
  | .ok v=>some (.inl (v,()))
  | .range=>some (.inr (Lib.intSat 64 x.1.data.toList,()))
  |_=>some (.inr (0,()))
 else none
def v2x:Prim→Tup (x4v).scs→Option (STup (scss (x4v).outs)):=fun p x=>v10 p x
theorem w97:CtrOk Tryz.prog x4v (v2x std):=by
 refine ⟨enters_of Tryz.func127 rfl rfl,fun (x:ByteArray×(Int×(Int×Unit))) y hy=>?_⟩
 obtain ⟨s,b,k,u⟩:=x
 change v10 std (s,b,k,u)=_ at hy
 unfold v10 at hy
 cases hb:(Nat.ble s.size 1000000&&(decide (b=10)&&decide (k=64))) with
 |false=>rw [hb] at hy; cases hy
 |true=>
  rw [hb] at hy
  simp only [eAb,decide_eq_true_eq] at hb
  obtain ⟨h1,rfl,rfl⟩:=hb
  have h1:=eAf h1
  simp only [cond_true] at hy
  split at hy
  ·rename_i v hv
   cases hy
   refine ⟨eAv _,?_⟩
   show z2z _ 127 [.d (.str s), .d (.int .i64 10), .d (.int .i64 64)] [] (.tuple [.d (.int .i64 v), .d .nili]) []
   refine z1y fun ρ vs w hno hgl har=>?_
   obtain ⟨a,b,c,rfl,ha,hb',hc⟩:=w54 har
   cases ha with|d ha=>cases hb' with|d hb'=>cases hc with|d hc=>
   cases ha; cases hb'; cases hc
   refine (Any.strconv_ParseInt_10_at64_ok x2m s (by omega) v hv w).mono fun e w' ⟨he,hw⟩=>⟨_,he, .tuple _ _ rfl fun i x hx=>?_,?_⟩
   ·match i,hx with
    |0,hx=>cases hx; exact .d (.int _ _)
    |1,hx=>cases hx; exact .d .nili
    |i+2,hx=>simp at hx
   ·rcases hw with rfl|⟨t,rfl⟩
    ·exact Below.refl _ _
    ·exact Go.Joins.below_bytesWorld _ _ _ _ (eAk _)
  ·rename_i hv
   cases hy
   refine ⟨eAv _,?_⟩
   show z2z _ 127 [.d (.str s), .d (.int .i64 10), .d (.int .i64 64)] [] (.tuple [.d (.int .i64 (Lib.intSat 64 s.data.toList)), .iface 196 .bot]) []
   refine z1y fun ρ vs w hno hgl har=>?_
   obtain ⟨a,b,c,rfl,ha,hb',hc⟩:=w54 har
   cases ha with|d ha=>cases hb' with|d hb'=>cases hc with|d hc=>
   cases ha; cases hb'; cases hc
   obtain ⟨ev,hev,hs⟩:=x0s hgl shp3
   refine (Any.strconv_ParseInt_10_at64_range x2m s (by omega) hv ev w hev hs).mono fun e w' ⟨N,he,_,_,hw⟩=>⟨_,he, .tuple _ _ rfl fun i x hx=>?_,hw⟩
   match i,hx with
   |0,hx=>cases hx; exact .d (.int _ _)
   |1,hx=>cases hx; exact .iface _ _ _ (.bot _)
   |i+2,hx=>simp at hx
  ·rename_i hv1 hv2
   cases hy
   refine ⟨eAv _,?_⟩
   show z2z _ 127 [.d (.str s), .d (.int .i64 10), .d (.int .i64 64)] [] (.tuple [.d (.int .i64 0), .iface 196 .bot]) []
   refine z1y fun ρ vs w hno hgl har=>?_
   obtain ⟨a,b,c,rfl,ha,hb',hc⟩:=w54 har
   cases ha with|d ha=>cases hb' with|d hb'=>cases hc with|d hc=>
   cases ha; cases hb'; cases hc
   obtain ⟨ev,hev,hs⟩:=x0s hgl shp2
   cases hq:Lib.parseIntB 64 s.data.toList with
   |ok v=>exact absurd hq (hv1 v)
   |range=>exact absurd hq hv2
   |_=>
   refine (Any.strconv_ParseInt_10_at64_syntax x2m s (by omega) hq ev w hev hs).mono fun e w' ⟨N,he,_,_,hw⟩=>⟨_,he, .tuple _ _ rfl fun i x hx=>?_,hw⟩
   match i,hx with
   |0,hx=>cases hx; exact .d (.int _ _)
   |1,hx=>cases hx; exact .iface _ _ _ (.bot _)
   |i+2,hx=>simp at hx
end Go.Am
end
noncomputable section
namespace Go.Am
def v1k:Ctr:=
 ⟨84,[.agg [.int .i64, .int .i64, .list 1, .int .i64]],[],[(.ret,⟨[(0, .str)],[],1⟩)]⟩
def la84:List LA:=
 [⟨84,[fU,tU,fU,tU,tU,tU],0,⟨⟨[(1, .bptr 0 0),(4, .sl 1 1),(17, .list 1),(18, .int .i64),(19, .int .i64)],[o0m, .row [CK.str]],37⟩,[((AX.exit 0),⟨[(1, .bptr 0 0),(4, .sl 1 1)],[o0m, .row [CK.str]],37⟩)]⟩⟩]
def ja84:List JA:=
 []
def v01:List CF:=
 [⟨x02,v13⟩,⟨x03,v14⟩,⟨w5w,G55⟩]
def an84:Anns:=
 ⟨v01,ja84,[]⟩
def x9j (p:Prim):V12v→Option (V12v⊕V15v):=
 fun a=>let A:=a.2.2.2.2.2.2.2.2.2.1;let B:=a.2.2.2.2.2.2.1;let C:=a.2.2.2.2.2.2.2.1;let E:=a.2.2.2.2.2.1; opt.run _ (
 opt.ask _ (p.cmp .lss A a.2.2.2.2.2.2.2.2.1) (
 opt.need _ (p.rowOk C (p.nat A) [ci])<|
 opt.need _ (p.cmp .geq A (0:Int))<|
 opt.bnd (V13v) _ (w3u p ((p.rdI C (p.nat A) 0),((10:Int),()))) fun b=>
 opt.need _ (p.and (p.leN (p.add 0 1) (p.len [[(D.str b.1)]])) (p.and (p.leN (p.add E B) (p.len a.1)) (p.and (p.leN 1 1) (p.leN (p.add B 1) 1000000))))<|
 opt.ret _ (Sum.inl ((p.app (p.cut a.1 E B) (p.cut [[(D.str b.1)]] 0 1)),(a.2.1,(a.2.2.1,(a.2.2.2.1,(a.2.2.2.2.1,(0,((p.add B 1),(C,(a.2.2.2.2.2.2.2.2.1,((p.ar .add .i64 A (1:Int)),())))))))))))) (
 opt.ret _ (Sum.inr (a.1,(a.2.1,(a.2.2.1,(a.2.2.2.1,(a.2.2.2.2.1,(E,(B,()))))))))))
def G84:(p:Prim)→V6v→Option (V13v):=
 fun p x=>
 opt.bnd (V1v) _ (G55 p (x.2.1,())) fun a=>
 opt.bnd (V13v) _ (w3u p (x.1,((10:Int),()))) fun b=>let C:=[[(D.str a.1)],[(D.str b.1)]];
 opt.need _ (p.leN (p.add 0 2) (p.len C))<|
 opt.bnd (V15v) _ (
 z5r (x9j p) (C,(x.1,(x.2.1,(x.2.2.1,(x.2.2.2.1,(0,(2,(x.2.2.1,((p.ofNat (p.len x.2.2.1)),((0:Int),()))))))))))) fun c=>let B:=c.2.2.2.2.2.2.1;
 opt.bnd (V13v) _ (w3u p (c.2.2.2.2.1,((10:Int),()))) fun d=>let A:=p.app (p.cut c.1 c.2.2.2.2.2.1 B) (p.cut [[(D.str d.1)]] 0 1);
 opt.need _ (p.and (p.leN (p.add 0 1) (p.len [[(D.str d.1)]])) (p.and (p.leN (p.add c.2.2.2.2.2.1 B) (p.len c.1)) (p.and (p.leN 1 1) (p.leN (p.add B 1) 1000000))))<|
 opt.need _ (p.and (p.leN (p.add 0 (p.add B 1)) (p.len A)) (p.and Bool.true Bool.true))<|
 opt.bnd (V13v) _ (w59 p ((p.cut A 0 (p.add B 1)),((ByteArray.mk #[32]),()))) fun e=>
 opt.need _ (p.leN (p.add (p.slen e.1) (p.slen (ByteArray.mk #[10]))) 1000000)<|
 opt.ret _ ((p.scat e.1 (ByteArray.mk #[10])),())
theorem ok84:CtrOk PG v1k (G84 std):=okF vE (a:=an84) (l:=la84) (gC w64 (gC w65 (gC v2c (gN))))
end Go.Am
end
section
namespace Go.Am
open D12
def sp:ByteArray:=ByteArray.mk #[32]
def nl:ByteArray:=ByteArray.mk #[10]
def y37 (c:Cd):List ByteArray:=z7k c.k::z3i c.n::c.t.map z3i++[z3i c.a]
def z7z (c:Cd):ByteArray:=z4k (y37 c) sp++nl
def w9i (c:Cd):Prop:=y5g c.n=true∧(∀ x∈c.t,y5g x=true)∧y5g c.a=true
theorem x22 {n:Int} (h:y5g n=true):w3u std (n,(10,()))=some (z3i n,()):=by
 unfold w3u
 simp [h]
theorem x5a (l:List ByteArray):x5b (z27 l)=some l:=by
 induction l with
 |nil=>rfl
 |cons x l ih=>simp only [z27,List.map_cons,x5b] at ih⊢; rw [ih]
theorem w58 {l:List ByteArray} {sep:ByteArray} (h:(z4k l sep).size≤1000000) (hl:l.length≤1000000):w59 std (z27 l,(sep,()))=some (z4k l sep,()):=by
 unfold w59
 rw [x5a]
 have h1:Nat.ble (z4k l sep).size 1000000=true:=eBg h
 have h2:Nat.ble l.length 1000000=true:=eBg hl
 simp [h1,h2]
theorem y3s (l:List ByteArray):(z27 l).length=l.length:=by simp [z27]
theorem w0k (s:ByteArray):std.slen s=s.size:=rfl
theorem w0l (s t:ByteArray):std.scat s t=s++t:=rfl
theorem w2o (c:Cd) (hI:w9i c) (hc:c.t.length≤1000):
  z5r (x9j std) (z27 [z7k c.k,z3i c.n],(c.n,(c.k,(z1a c.t,(c.a,(0,(2,(z1a c.t,((c.t.length:Int),((0:Int),()))))))))))=
   some (z27 (z7k c.k::z3i c.n::c.t.map z3i),(c.n,(c.k,(z1a c.t,(c.a,(0,(2+c.t.length,()))))))):=by
 have key:=w1e (b:=x9j std) c.t.length (fun i=>(z27 (z7k c.k::z3i c.n::(c.t.take i).map z3i),(c.n,(c.k,(z1a c.t,(c.a,(0,(2+i,(z1a c.t,((c.t.length:Int),((i:Int),())))))))))))
  (z27 (z7k c.k::z3i c.n::c.t.map z3i),(c.n,(c.k,(z1a c.t,(c.a,(0,(2+c.t.length,()))))))) (fun i hi=>by
   obtain ⟨m,hm⟩:=z1v hi
   obtain ⟨hw,h0⟩:=stp i (by omega)
   have hlt:(i:Int)<c.t.length:=by omega
   have hln:(z27 (z7k c.k::z3i c.n::(c.t.take i).map z3i)).length=2+i:=by rw [y3s]; simp; omega
   have happ:z27 (z7k c.k::z3i c.n::(c.t.take i).map z3i)++[[D.str (z3i m)]]=z27 (z7k c.k::z3i c.n::(c.t.take (i+1)).map z3i):=by
    rw [List.take_add_one,hm]; simp [z27]
   have h120:=x22 (hI.2.1 m (eAu hm))
   generalize z27 (z7k c.k::z3i c.n::(c.t.take i).map z3i)=L at hln happ⊢
   have hi2:2+i≤999999:=by omega
   simp only [x9j,y1l,y68,y50,y63,y5z,y7s,y0o,y7r,y7x,y3j,y7w,y7v,y7u,x1x,x1y,x1w,rdD,y3i,z86,x43,y7t,z1a,eAg,eBh,eAx,eBk,eCh,hm,hlt,h0,hw,y8q,w5s,h120,decide_true,if_true,ge_iff_le]
   simp [hln,happ,hi2,y1v,List.take_of_length_le]
   omega) (by
   have hn:¬ (c.t.length:Int)<c.t.length:=by omega
   rw [List.take_length]
   simp only [x9j,z2d,z2e,hn])
 exact key
theorem w8w (c:Cd) (hI:w9i c) (hc:c.t.length≤1000) (hsz:(z7z c).size≤1000000):G84 std (c.n,(c.k,(z1a c.t,(c.a,()))))=some (z7z c,()):=by
 have h1:=w2o c hI hc
 have hw:z27 (z7k c.k::z3i c.n::c.t.map z3i)++[[D.str (z3i c.a)]]=z27 (y37 c):=by simp [z27,y37]
 have hln:(z27 (z7k c.k::z3i c.n::c.t.map z3i)).length=2+c.t.length:=by rw [y3s]; simp; omega
 have hsz':(z4k (y37 c) sp).size+(ByteArray.mk #[10]).size≤1000000:=by
  have:(z7z c).size=(z4k (y37 c) sp).size+nl.size:=ByteArray.size_append
  unfold nl at this
  omega
 have h121:=w58 (l:=y37 c) (sep:=sp) (by omega) (by simp [y37]; omega)
 have hlw:(z27 (y37 c)).length=2+c.t.length+1:=by rw [y3s]; simp [y37]; omega
 unfold G84
 have e0:[[D.str (z7k c.k)],[D.str (z3i c.n)]]=z27 [z7k c.k,z3i c.n]:=rfl
 simp only [y1l,y68,y50,y63,y5z,y7s,y0o,y7r,y7x,y3j,y7w,y7v,y7u,y7t,eAx,w3p,x22 hI.1,x22 hI.2.2,z00,e0,h1]
 generalize z27 (z7k c.k::z3i c.n::c.t.map z3i)=L at hln hw
 have hi2:2+c.t.length≤999999:=by omega
 have h121':w59 std (z27 (y37 c),(ByteArray.mk #[32],()))=some (z4k (y37 c) sp,()):=h121
 simp [hln,hw,hi2,hlw,y1v,List.take_of_length_le,h121',w0k,w0l,hsz']
 exact ⟨by simp [z27],rfl⟩
end Go.Am
end
section
namespace Go.Am
open Go Go.RowKit Go.Proofs D12
theorem y0w {T e:TypeId} {B b:Nat} {bs:List Value} {w w':World} (h:Lib.IsBuilder T e B b bs w) (hb:∀ k,k<w.heap.size→w'.heap[k]?=w.heap[k]?):Lib.IsBuilder T e B b bs w':=by
 have key:∀ p,Lib.BuilderAt T e B b p bs w→Lib.BuilderAt T e B b p bs w':=by
  rintro p ⟨hB,v,hv,⟨h1,h2⟩,hne⟩
  have hlt:b<w.heap.size:=(eAe.1 hv).1
  refine ⟨hB,v,(hb b hlt).trans hv,⟨h1,?_⟩,hne⟩
  rcases h2 with h2|⟨g,cap,cur,e1,e2,e3,e4⟩
  ·exact .inl h2
  ·have hg:g<w.heap.size:=(eAe.1 e3).1
   exact .inr ⟨g,cap,cur,e1,e2,(hb g hg).trans e3,e4⟩
 exact h.imp (key _) (key _)
theorem y4r {P:Program} {g:FuncId} {args:List AV} {r:AV} {h':List AO} (ha:z2z P g args [] r h') {vs:Array Value} {w:World} (hg:GL P (fun _=>False) w) (har:∀ ρ:Rho,z0z ρ (fun _=>False) w args vs):
  Calls P g vs w fun e w'=>∃ v,e= .returned v∧(∃ (ρ:Rho) (O:Nat→Prop),z0i ρ O w' r v)∧Below w.heap.size w w':=by
 intro cs
 let ρ0:Rho:=⟨fun _=>none,fun _=>False⟩
 have hown:z0c ρ0 []=fun _=>False:=by
  funext c
  apply propext
  refine ⟨fun h=>?_,False.elim⟩
  rcases h with h|⟨id,L,hL,_⟩
  ·exact h
  ·cases hL
 have hr:z0a P ρ0 [] w:=⟨fun id L hL=>(by cases hL),fun id id' L L' hL=>(by cases hL),fun b hb=>hb.elim,fun id L hL=>(by cases hL),hown▸hg⟩
 obtain ⟨ρ',v,w',fr,s1,s2,s3,s4,s5,s6,s7⟩:=ha.run ρ0 vs w cs hr (fun id hid=>absurd rfl hid) (hown▸har ρ0)
 exact ⟨.returned v,w',fr,⟨v,rfl,⟨_,_,s4⟩,⟨s7.os,s7.tape,s7.output,s7.keep.size,fun k hk=>s7.keep.frame k hk (by rw [hown]; exact id)⟩⟩,s1,s2,s3⟩
theorem w1j {P:Program} {w w':World} (hg:GL P (fun _=>False) w) (hb:Below w.heap.size w w'):GL P (fun _=>False) w':=hg.keep (z49 hb)
def y4v (l:List Cd) (w:World) (v:Value):Prop:=z02 (fun _=>False) w (.list false 4 (z0p (fun _=>false) l)) v
theorem w8m {l:List Cd} {w:World} {v:Value} (hg:GL Tryz.prog (fun _=>False) w) (hv:y4v l w v) (hf:Few l):Calls Tryz.prog 19 #[v] w fun e w'=>e= .returned (.int .i64 (z4y l))∧Below w.heap.size w w':=by
 have h:=w3q (fl:=fun _=>false) l hf
 have ha:z2z Tryz.prog 19 [.d (.list false 4 (z0p (fun _=>false) l))] [] (.d (.int .i64 (z4y l))) []:=(v2d.2 (z0p (fun _=>false) l,()) (z4y l,()) h).2
 refine (y4r ha hg fun ρ=>⟨rfl,fun i x hx=>?_⟩).mono fun e w' ⟨u,he,⟨_,_,hu⟩,hb⟩=>⟨?_,hb⟩
 ·match i,hx with
  |0,hx=>cases hx; exact .d hv
  |i+1,hx=>simp at hx
 ·cases hu with|d hu=>cases hu; exact he
theorem w8l {c:Cd} {w:World} {t:Value} (hg:GL Tryz.prog (fun _=>False) w) (ht:z02 (fun _=>False) w (.list false 1 (z1a c.t)) t) (hI:w9i c) (hc:c.t.length≤1000) (hsz:(z7z c).size≤1000000):
  Calls Tryz.prog 84 #[.agg #[.int .i64 c.n, .int .i64 c.k,t, .int .i64 c.a]] w fun e w'=>e= .returned (.string (z7z c))∧Below w.heap.size w w':=by
 have ha:z2z Tryz.prog 84 [.d (.agg [.int .i64 c.n, .int .i64 c.k, .list false 1 (z1a c.t), .int .i64 c.a])] [] (.d (.str (z7z c))) []:=(ok84.2 (c.n,(c.k,(z1a c.t,(c.a,())))) (z7z c,()) (w8w c hI hc hsz)).2
 refine (y4r ha hg fun ρ=>⟨rfl,fun i x hx=>?_⟩).mono fun e w' ⟨u,he,⟨_,_,hu⟩,hb⟩=>⟨?_,hb⟩
 ·match i,hx with
  |0,hx=>
   cases hx
   refine .d (.agg _ _ rfl fun i d hd=>?_)
   match i,hd with
   |0,hd=>cases hd; exact .int _ _
   |1,hd=>cases hd; exact .int _ _
   |2,hd=>cases hd; exact ht
   |3,hd=>cases hd; exact .int _ _
   |i+4,hd=>simp at hd
  |i+1,hx=>simp at hx
 ·cases hu with|d hu=>cases hu; exact he
def y1q (l:List Cd):ByteArray:=l.foldl (fun s c=>s++z7z c) ByteArray.empty
theorem x9f {l:List Cd} {w:World} {v:Value} (hv:y4v l w v):∃ a c,v= .slice a l.length c∧l.length≤c∧
  ∀ (k:Nat) (x:Cd),l[k]?=some x→∃ b o t,a=some ⟨b,o,none⟩∧b<w.heap.size∧w.cell? ⟨b,o+k*4,none⟩=some (.int .i64 x.n)∧w.cell? ⟨b,o+k*4+1,none⟩=some (.int .i64 x.k)∧
   w.cell? ⟨b,o+k*4+2,none⟩=some t∧w.cell? ⟨b,o+k*4+3,none⟩=some (.int .i64 x.a)∧z02 (fun _=>False) w (.list false 1 (z1a x.t)) t:=by
 unfold y4v at hv
 generalize he:z0p (fun _=>false) l=es at hv
 have hlen:es.length=l.length:=by rw [←he]; simp [z0p]
 cases hv with
 |lnil _ _ a c h=>
  have:l=[]:=by cases l with|nil=>rfl|cons _ _=>cases he
  subst this
  exact ⟨a,c,rfl,eAv _,fun k x h=>by simp at h⟩
 |list _ _ b o z c hz hne hO hlc hf hsz cell h1 hc h=>
  refine ⟨some ⟨b,o,none⟩,c,by rw [hlen],by omega,fun k x hk=>?_⟩
  have hkl:k<l.length:=(eAd.1 hk).1
  have hes:es[k]?=some (eC (fun _=>false) x):=by rw [←he]; simp [z0p,hk]
  have e0:=h k _ 0 _ hes (show (eC (fun _=>false) x)[0]?=some (.int .i64 x.n) from rfl)
  have e1:=h k _ 1 _ hes (show (eC (fun _=>false) x)[1]?=some (.int .i64 x.k) from rfl)
  have e2:=h k _ 2 _ hes (show (eC (fun _=>false) x)[2]?=some (.list false 1 (z1a x.t)) from rfl)
  have e3:=h k _ 3 _ hes (show (eC (fun _=>false) x)[3]?=some (.int .i64 x.a) from rfl)
  have c0:=hc (k*4+0) (by omega)
  have c1:=hc (k*4+1) (by omega)
  have c2:=hc (k*4+2) (by omega)
  have c3:=hc (k*4+3) (by omega)
  generalize cell (k*4+0)=q0 at e0 c0
  generalize cell (k*4+1)=q1 at e1 c1
  generalize cell (k*4+2)=q2 at e2 c2
  generalize cell (k*4+3)=q3 at e3 c3
  cases e0; cases e1; cases e3
  exact ⟨b,o,q2,rfl,y0b c0,c0,c1,c2,c3,e2⟩
theorem x6a {l:List Cd} {k:Nat} {x:Cd} (h:l[k]?=some x):(y1q (l.take (k+1))).data.toList=(y1q (l.take k)).data.toList++(z7z x).data.toList:=by
 have:l.take (k+1)=l.take k++[x]:=by rw [List.take_add_one,h]; rfl
 rw [this]
 simp [y1q,List.foldl_append]
theorem x6b {l:List Cd} (h:∀ c∈l,(z7z c).size≤1000):(y1q l).size≤l.length*1000:=by
 have key:∀ (l:List Cd) (s:ByteArray),(∀ c∈l,(z7z c).size≤1000)→(l.foldl (fun s c=>s++z7z c) s).size≤s.size+l.length*1000:=by
  intro l
  induction l with
  |nil=>intro s _; simp
  |cons a r ih=>
   intro s h
   have:=ih (s++z7z a) fun c hc=>h c (eCm _ hc)
   have ha:=h a (eBq ..)
   rw [ByteArray.size_append] at this
   simp only [List.foldl_cons,eBi]
   omega
 have:=key l ByteArray.empty h
 simpa [y1q] using this
set_option maxHeartbeats 1000000 in
theorem w3v {l:List Cd} {w:World} {v:Value} (hg:GL Tryz.prog (fun _=>False) w) (hv:y4v l w v) (hf:Few l) (hlen:l.length≤1000000) (hI:z4y l=0→∀ c∈l,w9i c∧c.t.length≤1000∧(z7z c).size≤1000):
  Calls Tryz.prog 37 #[v] w fun e w'=>e= .returned (.tuple #[.string (if z4y l=0 then y1q l else ByteArray.empty), .int .i64 (z4y l)])∧Below w.heap.size w w':=by
 have h19:=w8m hg hv hf
 by_cases hd:z4y l=0
 ·rw [hd] at h19⊢
  rw [if_pos rfl]
  obtain ⟨a,c,rfl,hcap,hcl⟩:=x9f hv
  have HI:=Any.hidJ (hI hd)
  have HV:=Any.hidJ hcl
  have HG:=Any.hidJ hg
  clear hI hcl hg hv hf
  go_enter Tryz.func37,Tryz.ntmps37
  go_wp2_with (go_at_call 19; refine h19.mono ?_)
  rintro e W1 ⟨rfl,b1⟩
  have h0:=Lib.fresh_isBuilder 118 5 W1
  have H0:Hid (Lib.IsBuilder 118 5 W1.heap.size W1.heap.size (Lib.byteCells (y1q (l.take 0)).data.toList) (W1.alloc (.cells #[.pointer none, .slice none 0 0] 118))):=Any.hidJ h0
  have B1:=Any.hidJ b1
  clear h0 h19
  go_wp2_with fail
  go_loopw [15] (fun i wr=>∃ k:Nat,k≤l.length∧i= .int .i64 k∧Hid (Lib.IsBuilder 118 5 W1.heap.size W1.heap.size (Lib.byteCells (y1q (l.take k)).data.toList) wr)∧Hid (Below W1.heap.size W1 wr)) (fun i _=>l.length - (Proofs.intOf i).toNat)
  case atStart=>exact ⟨0,eAv _,rfl,H0,Any.hidJ ((Below.refl W1.heap.size W1).alloc (eAk _) _)⟩
  case round=>
   obtain ⟨k,hk,rfl,HB,HW⟩:=hrel
   by_cases hkl:k<l.length
   ·obtain ⟨x,hx⟩:∃ x,l[k]?=some x:=⟨l[k],eAa hkl⟩
    obtain ⟨b,o,t,rfl,hb,c0,c1,c2,c3,ht⟩:=HV.out k x hx
    have kp:Below w.heap.size w wr:=B1.out.trans (HW.out.mono B1.out.size)
    have d0:=(kp.cell (p:=⟨b,o+k*4,none⟩) hb).trans c0
    have d1:=(kp.cell (p:=⟨b,o+k*4+1,none⟩) hb).trans c1
    have d2:=(kp.cell (p:=⟨b,o+k*4+2,none⟩) hb).trans c2
    have d3:=(kp.cell (p:=⟨b,o+k*4+3,none⟩) hb).trans c3
    obtain ⟨a',n',c',rfl⟩:∃ a' n' c',t= .slice a' n' c':=by
     generalize z1a x.t=q at ht
     cases ht with
     |lnil _ _ a c h=>exact ⟨_,_,_,rfl⟩
     |list=>exact ⟨_,_,_,rfl⟩
    have HT:=Any.hidJ ht
    have HK:=Any.hidJ kp
    clear c0 c1 c2 c3 ht kp
    have hxl:x∈l:=eAu hx
    have hn:Lib.byteCells (y1q (l.take (k+1))).data.toList=Lib.byteCells (y1q (l.take k)).data.toList++Lib.strCells (z7z x):=by
     rw [x6a hx,Lib.byteCells_append]; rfl
    have hl0:(Lib.byteCells (y1q (l.take k)).data.toList).length+(z7z x).size≤140737488355328:=by
     rw [Lib.byteCells_length, ←Lib.size_eq]
     have e1:=x6b (l:=l.take k) fun c hc=>(HI.out c (List.mem_of_mem_take hc)).2.2
     have e2:=(HI.out x hxl).2.2
     have e3:(l.take k).length≤k:=by simp; omega
     have e4:(l.take k).length*1000≤k*1000:=eAo _ e3
     omega
    have HN:=Any.hidJ hn
    clear hn
    go_wp2_with fail
    have kp:=HK.out.trans ((Below.refl w.heap.size wr).alloc HK.out.size (.cells #[.int .i64 x.n, .int .i64 x.k, .slice a' n' c', .int .i64 x.a] 29))
    have k2:=HW.out.trans ((Below.refl W1.heap.size wr).alloc HW.out.size (.cells #[.int .i64 x.n, .int .i64 x.k, .slice a' n' c', .int .i64 x.a] 29))
    have hb0:=y0w (w':=wr.alloc (.cells #[.int .i64 x.n, .int .i64 x.k, .slice a' n' c', .int .i64 x.a] 29)) HB.out fun j hj=>Below.heap_alloc _ _ _ hj
    have hi:=HI.out x hxl
    refine (w8l (w1j HG.out kp) (HT.out.keep (z49 kp)) hi.1 hi.2.1 (by omega)).mono ?_
    rintro e w3 ⟨rfl,b3⟩
    have hb1:=y0w hb0 fun j hj=>b3.block j hj
    have k3:=k2.trans (b3.mono k2.size)
    have HB1:=Any.hidJ hb1
    have K3:=Any.hidJ k3
    clear kp k2 hb0 hb1 k3 b3 hi
    go_wp2_with fail
    refine (Any.Builder_WriteString { y8f with } y0z W1.heap.size W1.heap.size _ (z7z x) w3 HB1.out hl0 K3.out.size).mono ?_
    rintro e w4 ⟨rfl,h4,b4⟩
    rw [←HN.out] at h4
    have H4:=Any.hidJ (Or.inr h4:Lib.IsBuilder 118 5 W1.heap.size W1.heap.size _ w4)
    have K4:=Any.hidJ (K3.out.trans b4)
    clear h4 b4
    go_wp2
    exact ⟨⟨k+1,by omega,by go_num,H4,K4⟩,by simp [Proofs.intOf]; omega⟩
   ·have hke:k=l.length:=by omega
    subst hke
    have hB':=HB.out
    rw [List.take_length] at hB'
    go_wp2_with fail
    refine (Any.Builder_String_any { y8f with } y0z W1.heap.size W1.heap.size _ wr hB' HW.out.size).mono ?_
    rintro e w5 ⟨rfl,hb5⟩
    have Hb5:=Any.hidJ (HW.out.trans hb5)
    clear hb5 hB'
    go_wp2
    go_ret2
    exact ⟨rfl,B1.out.trans (Hb5.out.mono B1.out.size)⟩
 ·have hb:(z4y l !=0)=true:=by simpa using hd
  rw [if_neg hd]
  go_enter Tryz.func37,Tryz.ntmps37
  go_wp2_with (go_at_call 19; refine h19.mono ?_)
  rintro e W1 ⟨rfl,b1⟩
  go_wp2_with fail
  go_ret2; exact ⟨rfl,b1⟩
end Go.Am
end
section
namespace Go.Am
open Go Go.RowKit Go.Proofs D12
def y60:List (List D)→Option (List Cd)
 |[]=>some []
 |[.int .i64 n, .int .i64 k, .list _ 1 es, .int .i64 a]::l=>match y8b es,y60 l with
  |some t,some r=>some (⟨n,k,t,a⟩::r)
  |_,_=>none
 |_=>none
theorem y4q:∀ {es:List (List D)} {l:List Cd},y60 es=some l→es.length=l.length∧∀ (i:Nat) (r r':List D),es[i]?=some r→(z0p (fun _=>false) l)[i]?=some r'→y8y r r'
 |[],l,h=>by cases h; exact ⟨rfl,fun i r r' h=>by simp at h⟩
 |q::es,l,h=>by
  unfold y60 at h
  split at h
  ·rename_i heq; cases heq
  ·rename_i n k b es' a l' heq
   cases heq
   split at h
   ·rename_i t r ht hr
    cases h
    obtain ⟨h1,h2⟩:=y4q hr
    refine ⟨by simp [h1],fun i r r' hi hi'=>?_⟩
    match i,hi,hi' with
    |0,hi,hi'=>
     cases hi
     cases hi'
     refine ⟨rfl,fun j y hj=>?_⟩
     match j,hj with
     |0,hj=>cases hj; exact ⟨_,rfl, .refl _⟩
     |1,hj=>cases hj; exact ⟨_,rfl, .refl _⟩
     |2,hj=>cases hj; exact ⟨_,rfl, .inl (.inr (.inl ⟨1,by rw [y2r ht]; rfl, .inl rfl⟩))⟩
     |3,hj=>cases hj; exact ⟨_,rfl, .refl _⟩
     |j+4,hj=>simp [eC] at hj
    |i+1,hi,hi'=>exact h2 i r r' (by simpa using hi) (by simpa [z0p] using hi')
   ·cases h
  ·cases h
theorem y99 {O:Nat→Prop} {w:World} {es es':List (List D)} {z:Nat} {v:Value} (h:z02 O w (.list false z es) v) (hl:es.length=es'.length) (hr:∀ (i:Nat) (r r':List D),es[i]?=some r→es'[i]?=some r'→y8y r r'):z02 O w (.list false z es') v:=by
 cases h with
 |lnil f z a c hf=>
  have:es'=[]:=eBn.1 hl.symm
  subst this
  exact .lnil false z a c (by simp)
 |list full es b o z c hz hne hO hlc hf hsz cell h1 hc h=>
  have get:∀ (i:Nat) (r':List D),es'[i]?=some r'→∃ r,es[i]?=some r∧y8y r r':=fun i r' hi=>by
   have:i<es'.length:=(eAd.1 hi).1
   have hi2:i<es.length:=by omega
   exact ⟨es[i],eAa hi2,hr i _ _ (eAa hi2) hi⟩
  have:=z02.list (O:=O) (w:=w) false es' b o z c hz (fun e=>hne (eBn.1 (by rw [hl,e]; rfl))) hO (by omega) (by simp) (fun i r' hi=>by
   obtain ⟨r,h3,h4⟩:=get i r' hi
   rw [h4.1]; exact hsz i r h3) cell (fun k hk=>h1 k (by rw [hl]; exact hk)) (fun k hk=>hc k (by rw [hl]; exact hk)) fun i r' j d hi hj=>by
   obtain ⟨r,h3,h4⟩:=get i r' hi
   obtain ⟨x,h5,h6⟩:=h4.2 j d hj
   exact (h i r j x h3 h5).le h6
  rw [hl]; exact this
def w9n (l:List Cd):Bool:=
 Nat.ble l.length 1000000&&l.all fun c=>Nat.ble c.t.length 1000&&(!decide (z4y l=0)||(y5g c.n&&c.t.all y5g&&y5g c.a&&Nat.ble (z7z c).size 1000))
def w17:Ctr:=⟨37,[.list 4],[],[(.ret,⟨[(0, .tuple [.str, .int .i64])],[],1⟩)]⟩
def G37 (_:Prim) (x:List (List D)×Unit):Option (ByteArray×(Int×Unit)):=
 match y60 x.1 with
 |some l=>bif w9n l then some (if z4y l=0 then y1q l else ByteArray.empty,(z4y l,())) else none
 |none=>none
def F37:Prim→Tup (w17).scs→Option (STup (scss (w17).outs)):=fun p x=>G37 p x
theorem ok37:CtrOk Tryz.prog w17 (F37 std):=by
 refine ⟨enters_of Tryz.func37 rfl rfl,fun (x:List (List D)×Unit) y hy=>?_⟩
 obtain ⟨es,u⟩:=x
 change G37 std (es,u)=_ at hy
 unfold G37 at hy
 cases hd:y60 es with
 |none=>rw [hd] at hy; cases hy
 |some l=>
  simp only [hd] at hy
  cases hb:w9n l with
  |false=>rw [hb] at hy; cases hy
  |true=>
   rw [hb] at hy
   cases hy
   obtain ⟨h1,h2⟩:=y4q hd
   unfold w9n at hb
   simp only [eAb,eAr,eAq,eBy] at hb
   obtain ⟨hb1,hb2⟩:=hb
   have hb1:=eAf hb1
   refine ⟨eAv _,?_⟩
   show z2z _ 37 [.d (.list false 4 es)] [] (.tuple [.d (.str (if z4y l=0 then y1q l else ByteArray.empty)), .d (.int .i64 (z4y l))]) []
   refine z1y fun ρ vs w hno hgl har=>?_
   obtain ⟨a,rfl,ha⟩:=v1n har
   cases ha with|d ha=>
   have kp:z3s (z0c ρ []) (fun _=>False) w w:=⟨eAk _,fun _ _ _=>rfl,fun _ _ h=>h.elim,fun _ _ h=>h,trivial⟩
   have hv:y4v l w a:=(y99 ha (by rw [h1]; simp [z0p]) h2).keep kp
   refine (w3v (hgl.keep kp) hv (fun c hc=>eBf (eAf (hb2 c hc).1) (by omega)) hb1 fun h0 c hc=>?_).mono fun e w' ⟨he,hw⟩=>⟨_,he, .tuple _ _ rfl fun i x hx=>?_,hw⟩
   ·have h3:=hb2 c hc
    obtain ⟨h4,h5⟩:=h3
    rcases h5 with h5|h5
    ·simp [h0] at h5
    ·exact ⟨⟨h5.1.1.1,h5.1.1.2,h5.1.2⟩,eAf h4,eAf h5.2⟩
   ·match i,hx with
    |0,hx=>cases hx; exact .d (.str _)
    |1,hx=>cases hx; exact .d (.int _ _)
    |i+2,hx=>simp at hx
end Go.Am
end
section
namespace Go.Am
def v2i:D→Int
 | .int _ n=>n
 |_=>0
def y5e (es:List (D×D)):List Int:=es.map fun e=>v2i e.1
def w45:D→Bool
 | .int .i64 n=>(Lit.int .i64 n).wf
 |_=>false
def x7x (x:Int):List Int→Bool
 |[]=>true
 |y::l=>!(x==y)&&x7x x l
def z7s:List Int→Bool
 |[]=>true
 |x::l=>x7x x l&&z7s l
theorem y92 {x:Int}:∀ {l:List Int},x7x x l=true↔x∉l
 |[]=>by simp [x7x]
 |y::l=>by
  simp only [x7x,eAb,eBy,beq_eq_false_iff_ne,eAz,not_or,y92 (l:=l),ne_eq]
theorem z8s:∀ {l:List Int},z7s l=true↔l.Nodup
 |[]=>by simp [z7s]
 |x::l=>by simp only [z7s,eAb,y92,z8s (l:=l),List.nodup_cons]
def z7l (es:List (D×D)):Bool:=Nat.ble es.length 1000000&&(es.all (fun e=>w45 e.1)&&z7s (y5e es))
def y5d (l:List Int):List (List D):=l.map fun n=>[.int .i64 n]
theorem x55 {d:D} (h:w45 d=true):∃ n,d= .int .i64 n∧(Lit.int .i64 n).wf=true:=by
 unfold w45 at h
 split at h
 ·exact ⟨_,rfl,h⟩
 ·cases h
section
variable {P:Program} {T:TypeId}
open Go.WideElems (Fit rd rg pl)
open Go.RowKit Go.Proofs
def w3l:Value→Option (DataW Unit×List MemPlace):=fun _=>some (.nil,[])
theorem x32 {x:Int} (hT:P.underlying T=some (.int .i64)) (hw:(Lit.int .i64 x).wf=true):keyOf P T (encZ x)=some (.int .i64 x):=by
 simp [keyOf,hT,mapKey,encZ,hw]
theorem w03 (hT:P.underlying T=some (.int .i64)) {ρ:Rho} {O:Nat→Prop} {w:World} {L:Loc} {es:List (D×D)} (ho:z0u P ρ O w L (.map es)) (hg:z7l es=true):
  ∃ D0:DataW Unit,w.ownsMap P T w3l L.blk es.length D0∧Maps.size D0≤es.length∧(intKeys D0).Perm (y5e es):=by
 obtain ⟨en,clk,hc,⟨hl,hb⟩,hj⟩:=ho
 simp only [z7l,eAb,eAr] at hg
 obtain ⟨h0,h1,h2⟩:=hg
 have h0:=eAf h0
 have h2:=z8s.1 h2
 have hk:∀ (i:Nat) (e:MapEntry),en[i]?=some e→∃ n,(y5e es)[i]?=some n∧e.key=encZ n∧(Lit.int .i64 n).wf=true:=by
  intro i e he
  have hi:i<es.length:=by rw [←hl]; exact (eAe.1 he).1
  have hx:es[i]?=some (es[i]):=eAa hi
  obtain ⟨e',he',hk,_⟩:=hj i es[i].1 es[i].2 hx
  rw [he] at he'
  have he':=Option.some.inj he'
  subst he'
  obtain ⟨n,hn,hw⟩:=x55 (h1 es[i] (eCp hi))
  rw [hn] at hk
  generalize hkv:e.key=kv at hk
  cases hk with
  |int=>exact ⟨n,by simp [y5e,hx,hn,v2i],rfl,hw⟩
 have hkeys:en.toList.map (·.key)=(y5e es).map encZ:=by
  apply eBd
  intro i
  simp only [eAg,eAj]
  cases he:en[i]? with
  |none=>
   have:es.length≤i:=by rw [←hl]; exact Array.getElem?_eq_none_iff.1 he
   simp [y5e,this]
  |some e=>
   obtain ⟨n,hn,hk,_⟩:=hk i e he
   simp [hn,hk]
 have hF:Fit P T w3l en clk:=by
  refine ⟨by rw [hl]; exact eBf h0 (by decide),⟨hb.1,hb.2,?_⟩,fun x hx=>?_⟩
  ·rw [hkeys]
   exact List.pairwise_map.2 (h2.imp fun {a b} hne e=>hne (encZ_inj e))
  ·obtain ⟨i,hi⟩:=eCd hx
   obtain ⟨n,_,hk,hw⟩:=hk i x (by simpa using hi)
   exact ⟨(.int .i64 n, .nil),by simp [rd,hk,x32 hT hw,w3l]⟩
 have hrg:(en.toList.map (rg P T w3l)).map (fun p=>intOf p.1)=y5e es:=by
  apply eBd
  intro i
  simp only [eAg,eAj]
  cases he:en[i]? with
  |none=>
   have:es.length≤i:=by rw [←hl]; exact Array.getElem?_eq_none_iff.1 he
   simp [y5e,this]
  |some e=>
   obtain ⟨n,hn,hk,hw⟩:=hk i e he
   simp [hn,rg,rd,hk,x32 hT hw,w3l,intOf]
 refine ⟨_,⟨en,clk,hc,hF,by omega,rfl⟩,?_,?_⟩
 ·show (List.foldr DataW.insert [] (en.toList.map (rg P T w3l))).length≤_
  rw [(Go.WideShapes.sorted_perm _).length_eq]; simp [hl]
 ·show ((List.foldr DataW.insert [] (en.toList.map (rg P T w3l))).map fun p=>intOf p.1).Perm _
  rw [←hrg]
  exact (Go.WideShapes.sorted_perm _).map _
theorem x7d (l:List Int):(y5d l).length=l.length:=by simp [y5d]
end
end Go.Am
end
section
namespace Go.Am
section
variable {P:Program} {T:TypeId}
open Go.RowKit Go.Proofs
def CollectCall (P:Program) (T:TypeId) (g gk:FuncId):Prop:=
 ∀ (Bm b nn:Nat) (D0:DataW Unit) (R:Value→Option (DataW Unit×List MemPlace)) (w:World),w.cell? ⟨Bm,0,none⟩=some (.map (some b))→Bm<w.heap.size→w.ownsMap P T R b nn D0→Maps.size D0≤maxLen→Maps.size D0*8≤140737488355328→
  Calls P g #[.func (.func gk) #[] #[.pointer (some ⟨Bm,0,none⟩)]] w fun e w'=>∃ (v:Value) (ss:List Int),e= .returned v∧ss.Perm (intKeys D0)∧
   w'.ownsRow w.heap.size T 1 v ss.length (ss.map encZ)∧Below w.heap.size w w'
theorem x05 (hT:P.underlying T=some (.int .i64)) {g gk:FuncId} (hc:CollectCall P T g gk) {es:List (D×D)} (hg:z7l es=true):
  z2z P g [.clo (.func gk) [] [.bptr 0 0]] [.box [.map 1], .map es] (.perm (y5d (y5e es))) [.box [.map 1], .map es]:=⟨by
 intro ρ vs w cs hr hdm har
 obtain ⟨hv1,hv2⟩:=har
 have hs1:vs.size=1:=hv1
 have hvsv:vs=#[vs.getD 0 undef]:=by
  apply Array.ext (by simpa using hs1)
  intro i h1 h2
  match i,h1,h2 with
  |0,h1,h2=>simp [eAh,eAm h1]
  |i+1,h1,h2=>simp at h2
 have hv:=hv2 0 _ rfl
 obtain ⟨L,hL,hq⟩:∃ L,ρ 0=some L∧vs.getD 0 undef= .func (.func gk) #[] #[.pointer (some ⟨L.blk,L.base+0,none⟩)]:=by
  generalize vs.getD 0 undef=q at hv
  cases hv with
  |clo _ _ _ vf vc hf hcc h1 h2=>
   have e1:vf=#[]:=Array.size_eq_zero_iff.1 (by simpa using hf)
   have hcs:vc.size=1:=hcc
   have hb:=h2 0 _ rfl
   have e2:vc=#[vc.getD 0 undef]:=by
    apply Array.ext (by simpa using hcs)
    intro i h1 h2
    match i,h1,h2 with
    |0,h1,h2=>simp [eAh,eAm h1]
    |i+1,h1,h2=>simp at h2
   generalize vc.getD 0 undef=z at hb e2
   cases hb with
   |bptr _ _ L hL=>exact ⟨L,hL,by rw [e1,e2]⟩
 rw [hq] at hvsv
 rw [hvsv]
 obtain ⟨hlt,hbase,c,t,hcb,hj⟩:=hr.obj 0 L hL
 rw [hbase]
 obtain ⟨v0,hv0,hr0⟩:=hj 0 (.map 1) rfl
 rw [hbase] at hv0
 obtain ⟨L1,hL1,rfl⟩:∃ L1,ρ 1=some L1∧v0= .map (some L1.blk):=by
  cases hr0 with
  |map _ L1 h=>exact ⟨L1,h,rfl⟩
 have hcell:w.cell? ⟨L.blk,0,none⟩=some (.map (some L1.blk)):=by
  unfold World.cell?
  simp only [hcb]
  simpa using hv0
 obtain ⟨hlt1,ho1⟩:=hr.obj 1 L1 hL1
 obtain ⟨D0,hown,hsz,hperm⟩:=w03 (P:=P) (T:=T) hT (show z0u P ρ _ w L1 (.map es) from ho1) hg
 have hlen:es.length≤1000000:=by
  simp only [z7l,eAb] at hg
  exact eAf hg.1
 obtain ⟨e,w',fr,⟨v,ss,rfl,hp,hrow,hb⟩,hcm,hfn,hlv⟩:=hc L.blk L1.blk es.length D0 w3l w hcell hlt hown (eBf hsz (eBf hlen (by decide))) (by omega) cs
 have hkeep:z3s (z0c ρ [.box [.map 1], .map es]) (z0c ρ [.box [.map 1], .map es]) w w':=⟨hb.size,fun b hlt _=>hb.block b hlt,fun _ _ h=>h,fun b n h=>by
  have:=z6c h
  unfold z0t; rw [hb.block b this]; exact h,trivial⟩
 refine ⟨ρ,v,w',fr,hcm,hfn,hlv,?_,hr.of_keep hkeep fun b hob=>hb.block b (z50 hr hob),hdm,⟨hb.os,hb.tape,hb.output,hkeep,fun _ _=>rfl,rfl,fun b hf=>hb.block b (hr.fr b hf)⟩⟩
 refine .perm _ (y5d ss) _ ((hp.trans hperm).map _) ?_
 rcases hrow.2 with ⟨rfl,h0⟩|⟨gb,cap,cur,rfl,hge,hblk,hcap,hmax,hsize,htake⟩
 ·have h00:ss=[]:=eBn.1 h0
  subst h00
  exact .lnil _ _ _ _ (by simp)
 ·have hcl:∀ i n,ss[i]?=some n→cur[i]?=some (encZ n):=fun i n hi=>by
   have hil:i<ss.length:=(eAd.1 hi).1
   have:(cur.toList.take (ss.length*1))[i]?=(ss.map encZ)[i]?:=by rw [htake]
   rw [eCl (by omega),eAg,hi] at this
   simpa using this
  by_cases hne:ss=[]
  ·subst hne
   exact .lnil _ _ _ _ (by simp)
  ·have hll:(y5d ss).length=ss.length:=x7d ss
   have key:=z02.list (O:=z0c ρ [.box [.map 1], .map es]) (w:=w') false (y5d ss) gb 0 1 cap (by omega) (by simpa [y5d] using hne) (fun ho=>by have:=z50 hr ho; omega) (by rw [hll]; exact hcap) (by simp) (fun i r hi=>by
     unfold y5d at hi
     rw [eAg] at hi
     obtain ⟨x,_,rfl⟩:=eAw.1 hi
     rfl) (fun k=> .int .i64 (ss.getD k 0)) (fun k _=>rfl) (fun k hk=>by
     rw [eBx,hll] at hk
     rw [eAp]
     have:=hcl k _ (eAa hk)
     unfold World.cell?
     simp only [hblk]
     rw [eCi,eAa hk]
     simpa [encZ] using this) (fun i r j d hi hj=>by
     unfold y5d at hi
     rw [eAg] at hi
     obtain ⟨x,hx,rfl⟩:=eAw.1 hi
     match j,hj with
     |0,hj=>
      cases hj
      rw [eBx,eAt,eCi,hx]
      exact .int _ _
     |j+1,hj=>simp at hj)
   rw [hll] at key
   exact key⟩
end
end Go.Am
end
section
namespace Go.Proofs
open Go.RowKit Go.Maps Go.Sort Go.Shelf
def x51:Go.Shelf.Ren:=⟨fun|11=>114|8=>63|n=>n,fun|33=>77|0=>0|24=>27|28=>87|26=>2|n=>n,fun|n=>n⟩
theorem w4x : Go.Proofs.SlLaysZI.n8 Tryz.prog x51 :=
  { mixed := by kernel_rfl,
    f8 := by first | exact ⟨Tryz.f63.name, by decide, Tryz.func63.trans (congrArg some (by kernel_rfl))⟩ | exact Tryz.func63.trans (congrArg some (by kernel_rfl)),
    f11 := by first | exact ⟨Tryz.f114.name, by decide, Tryz.func114.trans (congrArg some (by kernel_rfl))⟩ | exact Tryz.func114.trans (congrArg some (by kernel_rfl)),
    t0 := by exact Tryz.underlying0,
    a0 := by exact Tryz.isAgg0,
    z0 := by exact Tryz.sizeOf0,
    v0 := by exact Tryz.zeroValue0,
    t24 := by exact Tryz.underlying27,
    a24 := by exact Tryz.isAgg27,
    z24 := by exact Tryz.sizeOf27,
    v24 := by exact Tryz.zeroValue27,
    t26 := by exact Tryz.underlying2,
    a26 := by exact Tryz.isAgg2,
    z26 := by exact Tryz.sizeOf2,
    v26 := by exact Tryz.zeroValue2,
    t28 := by exact Tryz.underlying87,
    a28 := by exact Tryz.isAgg87,
    z28 := by exact Tryz.sizeOf87,
    v28 := by exact Tryz.zeroValue87,
    i26 := by kernel_rfl }
def x50:Go.Shelf.Ren:=⟨fun|10=>115|n=>n,fun|3=>90|26=>2|4=>4|0=>0|23=>81|33=>77|n=>n,fun|n=>n⟩
theorem w4w : Go.Proofs.SlLaysZI.n10 Tryz.prog x50 :=
  { mixed := by kernel_rfl,
    f10 := by first | exact ⟨Tryz.f115.name, by decide, Tryz.func115.trans (congrArg some (by kernel_rfl))⟩ | exact Tryz.func115.trans (congrArg some (by kernel_rfl)),
    t0 := by exact Tryz.underlying0,
    a0 := by exact Tryz.isAgg0,
    z0 := by exact Tryz.sizeOf0,
    v0 := by exact Tryz.zeroValue0,
    t4 := by exact Tryz.underlying4,
    a4 := by exact Tryz.isAgg4,
    z4 := by exact Tryz.sizeOf4,
    v4 := by exact Tryz.zeroValue4,
    t23 := by exact Tryz.underlying81,
    a23 := by exact Tryz.isAgg81,
    z23 := by exact Tryz.sizeOf81,
    v23 := by exact Tryz.zeroValue81,
    t26 := by exact Tryz.underlying2,
    a26 := by exact Tryz.isAgg2,
    z26 := by exact Tryz.sizeOf2,
    v26 := by exact Tryz.zeroValue2,
    t33 := by exact Tryz.underlying77,
    a33 := by exact Tryz.isAgg77,
    z33 := by exact Tryz.sizeOf77,
    v33 := by exact Tryz.zeroValue77 }
theorem x9b:Go.Am.CollectCall Tryz.prog 2 63 115:=fun Bm b nn D0 R w hm hBm hown hmax hbytes=>by
 refine (callsIn_wide (n:=6)).1 ?_
 have hseq:SeqGives Fence.wide 4 Tryz.prog 115 #[.pointer (some ⟨Bm,0,none⟩)] encZ (fun ss=>ss.Perm (intKeys D0)) (Maps.size D0) w:=
  AnyZI.keys_gives w4w Fence.wide _ trivial rfl (by omega) Bm b nn D0 w hBm hm hown
 have:=AnyZI.collect_in w4x Fence.wide 6 trivial trivial rfl (by omega) 115 #[.pointer (some ⟨Bm,0,none⟩)] trivial (enters_of Tryz.func115 (by kernel_rfl) rfl) (fun ss=>ss.Perm (intKeys D0)) (Maps.size D0) hmax hbytes w hseq
 exact this.mono fun e w' ⟨v,ss,he,hS,hrow,_,hb⟩=>⟨v,ss,he,hS,hrow,hb⟩
end Go.Proofs
namespace Go.Am
open Go Go.Proofs D12
noncomputable def w16:Ctr:=⟨63,[.clo 115 [] [.bptr 0 0]],[.box [.map 1], .map],[(.ret,⟨[(0, .prm)],[.box [.map 1], .map],1⟩)]⟩
noncomputable def G63 (_:Prim) (x:List (D×D)×Unit):Option (List (D×D)×(List (List D)×Unit)):=bif z7l x.1 then some (x.1,(y5d (y5e x.1),())) else none
noncomputable def F63:Prim→Tup (w16).scs→Option (STup (scss (w16).outs)):=fun p x=>G63 p x
theorem ok63:CtrOk Tryz.prog w16 (F63 std):=by
 refine ⟨enters_of Tryz.func63 rfl rfl,fun x y hy=>?_⟩
 obtain ⟨es,u⟩:=x
 change (bif z7l es then some _ else none)=_ at hy
 cases hg:z7l es with
 |false=>rw [hg] at hy; cases hy
 |true=>
  rw [hg] at hy
  cases hy
  exact ⟨by show 2≤2; omega,x05 (P:=Tryz.prog) (T:=2) Tryz.underlying2 x9b hg⟩
def w9f:List D→Int
 |[.int _ n]=>n
 |_=>0
theorem x7l {es':List (List D)} {l:List Int} (h:es'.Perm (z1u l)):∃ l':List Int,es'=z1u l'∧l'.Perm l:=by
 refine ⟨es'.map w9f,?_,?_⟩
 ·have:∀ r∈es',r=[.int .i64 (w9f r)]:=fun r hr=>by
   obtain ⟨n,_,rfl⟩:=eBb.1 (h.mem_iff.1 hr)
   rfl
  unfold z1u
  rw [List.map_map]
  conv=>lhs; rw [←List.map_id es']
  exact List.map_congr_left fun r hr=>this r hr
 ·have:=h.map w9f
  unfold z1u at this
  rw [List.map_map] at this
  have e:(w9f∘fun n:Int=>[D.int IntKind.i64 n])=id:=by funext n; rfl
  rw [e,List.map_id] at this
  exact this
noncomputable def x4u:Ctr:=⟨57,[.prm],[],[(.ret,⟨[(0, .list 1)],[],1⟩)]⟩
noncomputable def v1y (_:Prim) (x:List (List D)×Unit):Option (List (List D)×Unit):=
 match y8b x.1 with
 |some l=>bif Nat.ble l.length 1000000&&z7s l then some (z1u (srt l),()) else none
 |none=>none
noncomputable def v2w:Prim→Tup (x4u).scs→Option (STup (scss (x4u).outs)):=fun p x=>v1y p x
theorem w94:CtrOk Tryz.prog x4u (v2w std):=by
 refine ⟨w95.1,fun x y hy=>?_⟩
 obtain ⟨es,u⟩:=x
 change v1y std (es,u)=_ at hy
 unfold v1y at hy
 simp only at hy
 split at hy
 ·rename_i l hl
  cases hb:(Nat.ble l.length 1000000&&z7s l) with
  |false=>rw [hb] at hy; cases hy
  |true=>
   rw [hb] at hy
   cases hy
   simp only [eAb] at hb
   have hb1:=eAf hb.1
   have hb2:=z8s.1 hb.2
   have hes:=y2r hl
   subst hes
   refine ⟨eAv _,?_⟩
   show z2z _ 57 [.perm (z1u l)] [] (.d (.list false 1 (z1u (srt l)))) []
   refine ⟨?_⟩
   intro ρ vs w cs hr hdm har
   have hv:=har.2 0 _ rfl
   obtain ⟨l',hp,hd⟩:∃ l':List Int,l'.Perm l∧z02 (z0c ρ []) w (.list false 1 (z1u l')) (vs.getD 0 undef):=by
    generalize vs.getD 0 undef=q at hv
    cases hv with
    |perm _ es' _ hp h=>
     obtain ⟨l',rfl,hl'⟩:=x7l hp
     exact ⟨l',hl',h⟩
   obtain ⟨r,hr57,ho⟩:=w3o l' (by rw [hp.length_eq]; exact hb1)
   have hrs:r=srt l:=by rw [ho.1 (hp.nodup_iff.2 hb2),x69 hp]
   subst hrs
   have har57:z2z Tryz.prog 57 [.d (.list false 1 (z1u l'))] [] (.d (.list false 1 (z1u (srt l)))) []:=(w95.2 (z1u l',()) (z1u (srt l),()) hr57).2
   exact har57.run ρ vs w cs hr hdm ⟨har.1,fun i x hx=>by
    match i,hx with
    |0,hx=>cases hx; exact .d hd
    |i+1,hx=>simp at hx⟩
 ·cases hy
end Go.Am
end
section
namespace Go.Am
def z8g (b:Nat):List Nat→List (Nat×AV)→List (Nat×AV)
 |_,[]=>[]
 |seen,(t,v)::l=>bif Nat.blt t b then (bif y1m t seen then z8g b seen l else (t,v)::z8g b (t::seen) l) else z8g b seen l
theorem z7j (b:Nat):∀ (env:List (Nat×AV)) (seen:List Nat) (t:Nat),(Nat.blt t b=false∨y1m t seen=true)→z1k (z8g b seen env) t= .bot
 |[],seen,t,h=>rfl
 |(k,v)::l,seen,t,h=>by
  simp only [z8g]
  cases hb:Nat.blt k b with
  |false=>exact z7j b l seen t h
  |true=>
   cases hm:y1m k seen with
   |true=>exact z7j b l seen t h
   |false=>
    simp only [cond_true,cond_false,z1k]
    cases hk:Nat.beq k t with
    |true=>
     have:=eAc hk
     subst this
     rcases h with h|h
     ·rw [hb] at h; cases h
     ·rw [hm] at h; cases h
    |false=>
     refine z7j b l (k::seen) t ?_
     rcases h with h|h
     ·exact .inl h
     ·right; simp only [y1m,h,Bool.or_true]
theorem z6t (b:Nat):∀ (env:List (Nat×AV)) (seen:List Nat) (t:Nat),y1m t seen=false→z1k (z8g b seen env) t= .bot∨z1k (z8g b seen env) t=z1k env t
 |[],seen,t,h=> .inl rfl
 |(k,v)::l,seen,t,h=>by
  simp only [z8g]
  cases hk:Nat.beq k t with
  |true=>
   have:=eAc hk
   subst this
   cases hb:Nat.blt k b with
   |false=>exact .inl (z7j b l seen k (.inl hb))
   |true=>rw [h]; simp [z1k,hk]
  |false=>
   have e:z1k ((k,v)::l) t=z1k l t:=by simp only [z1k,hk,cond_false]
   rw [e]
   cases hb:Nat.blt k b with
   |false=>exact z6t b l seen t h
   |true=>
    cases hm:y1m k seen with
    |true=>exact z6t b l seen t h
    |false=>
     simp only [cond_true,cond_false,z1k,hk]
     refine z6t b l (k::seen) t ?_
     simp only [y1m,h,Bool.or_false]
     cases hq:Nat.beq t k with
     |false=>rfl
     |true=>have:=eAc hq; subst this; rw [eCs] at hk; cases hk
def y8v:List (Nat×Nat)→Nat→Nat
 |[],_=>1000000
 |(g,b)::l,h=>bif Nat.beq g h then b else y8v l h
def w24 (B:List (Nat×Nat)) (g:Nat):SS→SS
 |⟨⟨env,heap,nt⟩,K⟩=>⟨⟨z8g (y8v B g) [] env,heap,nt⟩,K⟩
def v2a:AO→Bool
 | .row _=>true
 |_=>false
def w5g (n:Nat) (s:AS):AS:=
 ⟨y7e s.heap (fun id=>Nat.blt id n||!v2a (z0e s.heap id)) s.env,z2t s.heap (fun id=>Nat.blt id n||!v2a (z0e s.heap id)) 0 s.heap,s.nt⟩
theorem w5f (n:Nat) (s:AS):y0g n s (w5g n s):=
 y0g.view _ (fun id h=>by rw [eAq]; exact .inl (by simpa using h)) ⟨fun _=>rfl,fun id _ h=>by rw [z4p]; exact h⟩
def w7k:List Bool→Bool
 |[]=>true
 |_=>false
def inV:List (Nat×List Bool)→Nat→List Bool→Bool
 |[],_,_=>false
 |(a,q)::l,g,pos=>(Nat.beq a g&&(w7k q||y5i q pos))||inV l g pos
def w88 (A:Alg) (p:Prim) (Γ:List CF) (B:List (Nat×Nat)) (V:List (Nat×List Bool)):Orc A:=
 ⟨fun β _ _ _ _ g args ss=>x6l A p Γ β g args ss,fun β _ _ _ g args _=>x16 A p Γ β g args,fun _ _ _ _ _=>none,fun β _ _ _ body k=>body β k,
  fun _ n g pos ss k=>bif inV V g pos then k (w24 B g ⟨w5g n ss.s,ss.K⟩) else k (w24 B g ss)⟩
theorem x7r {P:Program} {Γ:List CF} (hG:GamOk P Γ) (B:List (Nat×Nat)) (V:List (Nat×List Bool)):y2m P (w88 opt std Γ B V) where
 call:=(x2b (a:=⟨Γ,[],[]⟩) hG).call
 pure:=(x2b (a:=⟨Γ,[],[]⟩) hG).pure
 loop:=fun _ _ _ _ _ _ _ _ _ _ _ h=>by cases h
 join:=fun β n g pos body k b G hb h=>by
  obtain ⟨e,ss',hg,hk⟩:=hb β k b h
  exact ⟨e,ss',ss',hg,y0g.refl _ _,fun h=>h,hk⟩
 view:=fun β n g pos ss k b hn h=>by
  simp only [w88] at h
  cases hv:inV V g pos with
  |true=>
   rw [hv] at h
   exact ⟨⟨⟨z8g (y8v B g) [] (w5g n ss.s).env,(w5g n ss.s).heap,(w5g n ss.s).nt⟩,ss.K⟩,(w5f n ss.s).trans (y0g.env (fun t=>z6t _ _ [] t rfl)),by
    show n≤(w5g n ss.s).heap.length
    unfold w5g; rw [z4p]; exact hn,h⟩
  |false=>
   rw [hv] at h
   exact ⟨⟨⟨z8g (y8v B g) [] ss.s.env,ss.s.heap,ss.s.nt⟩,ss.K⟩,y0g.env (fun t=>z6t _ _ [] t rfl),hn,h⟩
end Go.Am
end
section
namespace Go.Am
open Go Go.RowKit Go.Proofs
def w3j:List (Nat×Nat):=[(2,1),(3,4),(4,11),(5,19),(6,13),(7,24),(8,19),(9,18),(10,19),(11,20),(12,13),(13,23),(14,9),(15,4),(16,23),(17,4),(18,6),(19,13),(20,6),(21,7),(22,9),(23,27),(24,12),(25,6),(26,6),(27,62),(28,10),(29,5),(30,7),(31,57),(32,12),(33,6),(34,6),(35,22),(36,9),(37,16),(38,6),(39,12),(40,9),(41,1),(42,8),(43,6),(44,7),(45,6),(46,51),(47,10),(48,74),(49,2),(50,33),(51,8),(52,7),(53,1),(54,1),(55,4),(56,5),(57,4),(58,1),(59,4),(60,6),(61,15),(62,13),(63,1),(64,2),(65,6),(66,114),(67,18),(68,5),(69,11),(70,18),(71,2),(72,5),(73,7),(74,3),(75,3),(76,6),(77,6),(78,6),(79,10),(80,4),(81,18),(82,2),(83,2),(84,20),(85,1),(86,5),(87,2),(88,46),(89,11),(90,22),(91,11),(92,4),(93,7),(94,7),(95,16),(96,4),(97,4),(98,9),(99,4),(100,4),(101,9),(102,3),(103,3),(104,9),(105,9),(106,2),(107,3),(108,3),(109,6),(110,51),(111,6),(112,6),(113,2),(114,8),(115,6),(116,9),(117,1),(118,14),(119,1),(120,2),(121,66),(122,4),(123,1),(124,8),(125,2),(126,2),(127,9),(128,5),(129,8),(130,2),(131,12),(132,7),(133,9),(134,19),(135,1),(136,8),(137,12),(138,1),(139,14),(140,2),(141,2),(143,10),(144,2),(145,14),(146,12),(147,2),(148,17),(149,12),(150,8),(151,11),(152,11),(153,50),(154,8),(155,11),(156,2),(157,11),(158,12),(159,3),(160,3),(161,1),(162,4),(163,17),(164,19),(165,5),(166,2),(168,1),(169,11),(170,10),(171,7),(172,2),(173,2),(174,102),(175,2),(176,2),(177,3),(178,3),(179,10),(180,1),(181,1),(182,3),(183,5),(184,1),(185,1),(186,1),(187,1),(188,1),(191,9),(192,5),(193,1),(195,1),(196,6),(197,4),(198,1),(199,1),(200,4),(201,1),(202,1),(203,13),(204,1),(234,1)]
noncomputable def w9d:List CF:=[⟨y6x,w9l⟩,⟨w16,F63⟩,⟨x4u,v2w⟩,⟨x03,v14⟩,⟨x02,v13⟩,⟨x4x,v2z⟩,⟨x4w,v2y⟩,⟨w15,F87⟩,⟨x4v,v2x⟩,⟨w17,F37⟩]
theorem x8j:GamOk Tryz.prog w9d:=by
 intro cf h
 simp only [w9d,eAz,List.not_mem_nil,or_false] at h
 rcases h with rfl|rfl|rfl|rfl|rfl|rfl|rfl|rfl|rfl|rfl
 ·exact w4e
 ·exact ok63
 ·exact w94
 ·exact w65
 ·exact w64
 ·exact w99
 ·exact w98
 ·exact ok87
 ·exact w97
 ·exact ok37
end Go.Am
end
section
namespace Go.Am
open Go Go.RowKit Go.Proofs D12
def leD:D→D→Bool
 | .list f z es, .list false z' es'=>(Nat.beq z z'||isNilD es)&&x0v es es'
 |x,y=>eqD x y
where isNilD:List (List D)→Bool
 |[]=>true
 |_=>false
theorem w27 {O : Nat → Prop} {w : World} {x y : D} {v : Value} (h : leD x y = true) (hx : z02 O w x v) : z02 O w y v := by
  unfold leD at h
  split at h
  · rename_i f z es z' es'
    simp only [eAb, eAq] at h
    obtain ⟨h1, h2⟩ := h
    have h2 := z67 _ _ h2
    subst h2
    have hle : w6c (.list f z es) (.list false z' es) := by
      right; left
      refine ⟨z', rfl, ?_⟩
      rcases h1 with h1 | h1
      · exact .inl (eAc h1).symm
      · right
        unfold leD.isNilD at h1
        split at h1
        · rfl
        · cases h1
    exact hx.le0 hle
  · exact y03 _ _ h ▸ hx
def w7c:List AV→List AV→Bool
 |[],[]=>true
 | .d x::l, .d y::l'=>leD x y&&w7c l l'
 |_,_=>false
theorem x76 {ρ:Rho} {O:Nat→Prop} {w:World}:∀ {l l':List AV},w7c l l'=true→l'.length=l.length∧∀ (i:Nat) (y:AV),l'[i]?=some y→∃ x,l[i]?=some x∧∀ v,z0i ρ O w x v→z0i ρ O w y v
 |[],l',h=>by
  unfold w7c at h
  split at h
  ·exact ⟨rfl,fun i y h=>by simp at h⟩
  ·next heq=>cases heq
  ·cases h
 |x::l,l',h=>by
  unfold w7c at h
  split at h
  ·rename_i heq; cases heq
  ·rename_i x' l0 y l0' heq
   cases heq
   simp only [eAb] at h
   obtain ⟨h1,h2⟩:=x76 (ρ:=ρ) (O:=O) (w:=w) h.2
   refine ⟨by simp [h1],fun i z hi=>?_⟩
   match i,hi with
   |0,hi=>cases hi; exact ⟨_,rfl,fun v hv=>by cases hv with|d hv=>exact .d (w27 h.1 hv)⟩
   |i+1,hi=>exact h2 i z hi
  ·cases h
def leA:AV→AV→Bool
 | .d x, .d y=>leD x y
 | .tuple l, .tuple l'=>w7c l l'
 |_,_=>false
theorem w7d {ρ:Rho} {O:Nat→Prop} {w:World} {x y:AV} {v:Value} (h:leA x y=true) (hx:z0i ρ O w x v):z0i ρ O w y v:=by
 unfold leA at h
 split at h
 ·cases hx with|d hx=>exact .d (w27 h hx)
 ·obtain ⟨h1,h2⟩:=x76 (ρ:=ρ) (O:=O) (w:=w) h
  cases hx with
  |tuple xs vs hl hh=>
   refine .tuple _ vs (by rw [h1]; exact hl) fun i z hz=>?_
   obtain ⟨x,hx,hv⟩:=h2 i z hz
   exact hv _ (hh i x hx)
 ·cases h
def z7y (x:Option (AV×List AO)) (t:AV):Bool:=
 match x with
 |some (r,h)=>leA (z2f h (fun id=>Nat.blt id 0) r) t
 |none=>false
theorem x45 {P:Program} {E:Env} {O:Orc opt} (hE:EnvOk P E) (hO:y2m P O) {f:Nat} {g:FuncId} {args:List AV} {t:AV} (h:z7y (w2g E O f g args) t=true):z2z P g args [] t []:=by
 unfold z7y at h
 split at h
 ·rename_i r h' heq
  have ha:=(w2f hE hO heq).view
  have:z9s h' 0=[]:=rfl
  refine ⟨fun ρ vs w cs h1 h2 h3=>?_⟩
  obtain ⟨ρ',v,w',fr,s1,s2,s3,s4,s5,s6,s7⟩:=ha.run ρ vs w cs h1 h2 h3
  exact ⟨ρ',v,w',fr,s1,s2,s3,w7d h s4,s5,s6,s7⟩
 ·cases h
theorem z40 {P:Program} {g:FuncId} {args args':List AV} {h h':List AO} {r:AV} (ha:z2z P g args h r h') (hle:∀ (ρ:Rho) (O:Nat→Prop) (w:World) (vs:Array Value),z0z ρ O w args' vs→z0z ρ O w args vs):z2z P g args' h r h':=
 ⟨fun ρ vs w cs h1 h2 h3=>ha.run ρ vs w cs h1 h2 (hle _ _ _ _ h3)⟩
def ff:List Int→Bool:=fun _=>false
def z0y (es:List (List D)) (l:List Cd):Bool:=
 match y60 es with
 |some l'=>x0v (z0p ff l') (z0p ff l)
 |none=>false
theorem y1s {es:List (List D)} {l:List Cd} (h:z0y es l=true) {O:Nat→Prop} {w:World} {v:Value} (hd:z02 O w (.list false 4 es) v):z02 O w (.list false 4 (z0p ff l)) v:=by
 unfold z0y at h
 split at h
 ·rename_i l' hl
  obtain ⟨h1,h2⟩:=y4q hl
  rw [←z67 _ _ h]
  exact y99 hd (by rw [h1]; simp [z0p]) h2
 ·cases h
theorem w53 {es:List (List D)} {l:List Cd} (h:z0y es l=true) (rest:List AV) (ρ:Rho) (O:Nat→Prop) (w:World) (vs:Array Value) (ha:z0z ρ O w (.d (.list false 4 es)::rest) vs):z0z ρ O w (.d (.list false 4 (z0p ff l))::rest) vs:=by
 refine ⟨ha.1,fun i x hx=>?_⟩
 match i,hx with
 |0,hx=>
  cases hx
  cases ha.2 0 _ rfl with
  |d hd=>exact .d (y1s h hd)
 |i+1,hx=>exact ha.2 (i+1) x hx
theorem x1c {es es2:List (List D)} {l l2:List Cd} (h:z0y es l=true) (h2:z0y es2 l2=true) (ρ:Rho) (O:Nat→Prop) (w:World) (vs:Array Value) (ha:z0z ρ O w [.d (.list false 4 es), .d (.list false 4 es2)] vs):z0z ρ O w [.d (.list false 4 (z0p ff l)), .d (.list false 4 (z0p ff l2))] vs:=by
 refine ⟨ha.1,fun i x hx=>?_⟩
 match i,hx with
 |0,hx=>
  cases hx
  cases ha.2 0 _ rfl with
  |d hd=>exact .d (y1s h hd)
 |1,hx=>
  cases hx
  cases ha.2 1 _ rfl with
  |d hd=>exact .d (y1s h2 hd)
 |i+2,hx=>simp at hx
def d0:Cd:=⟨5,1,[1],100⟩
def d1:Cd:=⟨3,1,[2],40⟩
def d2:Cd:=⟨4,3,[2,1],500⟩
def d3:Cd:=⟨9,2,[1],7⟩
def z77:List Cd:=[d0,d1,d2,d3]
noncomputable def v2m:Env:=x44 [] [53,19,17,57,56,55,75,74,73,72,132,67,116,71,108,109,110,139,136,137,21,27,29,31,46,48] Tryz.prog
noncomputable def orcW:Orc opt:=w88 opt std w9d w3j [(88,[false,true,true,true,true,true,true,true]),(16,[])]
noncomputable def w0r (g:Nat) (args:List AV):Option (AV×List AO):=w2g v2m orcW 400 g args
theorem z5y {g:Nat} {args:List AV} {t:AV} (h:z7y (w0r g args) t=true):z2z Tryz.prog g args [] t []:=x45 (y4s follows_mixed) (x7r x8j _ _) h
def cdA (l:List Cd):AV:= .d (.list false 4 (z0p ff l))
end Go.Am
end
