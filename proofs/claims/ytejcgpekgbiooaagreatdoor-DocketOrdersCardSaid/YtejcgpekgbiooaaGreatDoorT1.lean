/- Texts of this claim. -/
import Derived.Calls
import Derived.Laws.Sem
import Derived.Laws.World
import Derived.Laws.CopyRow
import Derived.Laws.Rows
import Derived.Laws.StructEq
import Derived.Laws.BytesString
set_option linter.unusedVariables false
set_option linter.unusedSimpArgs false
set_option linter.unusedSectionVars false
set_option maxRecDepth 100000
set_option maxHeartbeats 0
open Nat renaming le_refl → eAj,lt_of_lt_of_le → eAp,le_trans → eBk,zero_add → eAq,mul_one → eCn,add_zero → eBa,add_assoc → eBv,mul_le_mul_right → eAv,add_mul → eAr,le_of_ble_eq_true → eAh,eq_of_beq_eq_true → eAd,div_lt_iff_lt_mul → eDt,mod_lt → eFc,mul_comm → eDo,zero_le → eAo,lt_or_ge → eCf,ble_eq_true_of_le → eBj,mod_eq_of_lt → eDh,sub_zero → eFk
open Array renaming getElem?_eq_some_iff → eAe,getElem?_toList → eAl,getElem?_modify → eDb,getElem?_setIfInBounds → eDc,getD_eq_getD_getElem? → eAk,getElem?_eq_getElem → eAs,length_toList → eBw
open List renaming length_pos_iff → eFm,length_eq_zero_iff → eBr,mem_append → eCb,mem_singleton → eBh,map_append → eFf,map_cons → eDq,nodup_append → eDw,mem_map → eBe,ext_getElem? → eBt,getElem?_map → eAf,getElem?_cons_succ → eDf,length_cons → eBn,getElem?_eq_some_iff → eAa,getElem?_eq_getElem → eAb,append_assoc → eCr,getElem?_append → eBf,getElem?_take → eDs,getElem?_drop → eCg,getElem?_toArray → eCa,getElem?_set → eBu,mem_cons → eAm,getElem?_replicate → eCe,getElem_mem → eCk,mem_of_getElem? → eAi,foldl_cons → eCj,length_take → eBo,length_drop → eFj,cons_append → eDg,length_append → eCv,drop_drop → eFa,getElem?_append_left → eCl,getElem?_append_right → eDm,getElem?_range → eDz,getElem?_cons_zero → eCt,length_map → eAy,getElem?_eq_none → eCq,all_eq_true → eAx
open Bool renaming and_eq_true → eAc,or_eq_true → eAt,not_true → eDl,false_eq_true → eAg,not_false → eDd
open Option renaming map_some → eAw,getD_some → eBb,bind_some → eBp
open Int renaming toNat_natCast → eCz
section
namespace Go.Am
inductive D where
 |bool (b:Bool)
 |int (k:IntKind) (n:Int)
 |str (s:ByteArray)
 |list (full:Bool) (z:Nat) (es:List (List D))
 |agg (cells:List D)
 |nilp|nilm|nilf|nili
 |ref (cells:List D)
 deriving Inhabited
inductive AV where
 |bot
 |d (x:D)
 |bptr (id off:Nat)
 |ptr (id i off:Nat)
 |lptr (cells:List D) (off:Nat)
 |wptr (es:List (List D)) (off:Nat)
 |perm (es:List (List D))
 |slice (id z off len:Nat) (cap:Option Nat)
 |map (id:Nat)
 |yld (id:Nat)
 |clo (fn:Fn) (first captured:List AV)
 |iface (t:TypeId) (v:AV)
 |agg (cells:List AV)
 |tuple (vs:List AV)
 deriving Inhabited
inductive AO where
 |dead
 |box (cells:List AV)
 |row (es:List (List D))
 |arow (es:List (List AV))
 |map (es:List (D×D))
 |loop (st:LoopState) (pending:Option Code) (g:Nat) (pos:List Bool) (nt:Nat) (env:List (Nat×AV))
 deriving Inhabited
structure Loc where
 blk:Nat
 base:Nat
 esz:Nat
structure Rho where
 loc:Nat→Option Loc
 fr:Nat→Prop
instance:CoeFun Rho (fun _=>Nat→Option Loc):=⟨Rho.loc⟩
def z0f:List AO→Nat→AO
 |[],_=> .dead
 |o::_,0=>o
 |_::r,n+1=>z0f r n
def z03:List AO→Nat→AO→List AO
 |[],0,x=>[x]
 |[],n+1,x=> .dead::z03 [] n x
 |_::r,0,x=>x::r
 |o::r,n+1,x=>o::z03 r n x
theorem z0h (h:List AO) (i:Nat) (x:AO):z0f (z03 h i x) i=x:=by
 induction h generalizing i with
 |nil=>induction i with
  |zero=>rfl
  |succ n a=>simpa [z03,z0f] using a
 |cons o r a=>cases i with
  |zero=>rfl
  |succ n=>simpa [z03,z0f] using a n
theorem z0c (h:List AO) (i j:Nat) (x:AO) (a:i≠j):z0f (z03 h i x) j=z0f h j:=by
 induction h generalizing i j with
 |nil=>
  induction i generalizing j with
  |zero=>cases j with
   |zero=>exact absurd rfl a
   |succ m=>simp [z03,z0f]
  |succ n b=>cases j with
   |zero=>simp [z03,z0f]
   |succ m=>simpa [z03,z0f] using b m (by omega)
 |cons o r b=>cases i with
  |zero=>cases j with
   |zero=>exact absurd rfl a
   |succ m=>simp [z03,z0f]
  |succ n=>cases j with
   |zero=>simp [z03,z0f]
   |succ m=>simpa [z03,z0f] using b n m (by omega)
theorem x1i (h:List AO) (o:AO):z03 h h.length o=h++[o]:=by
 induction h with
 |nil=>rfl
 |cons x r a=>simp [z03,a]
theorem z3p (h:List AO) (i:Nat) (o:AO) (a:i<h.length):(z03 h i o).length=h.length:=by
 induction h generalizing i with
 |nil=>simp at a
 |cons x r b=>cases i with
  |zero=>rfl
  |succ n=>simpa [z03] using b n (by simpa using a)
theorem z1w (h:List AO) (i:Nat) (o:AO):h.length≤(z03 h i o).length∧i<(z03 h i o).length:=by
 induction h generalizing i with
 |nil=>induction i with
  |zero=>simp [z03]
  |succ n a=>simp [z03] at a⊢; omega
 |cons x r a=>cases i with
  |zero=>simp [z03]
  |succ n=>have:=a n; simp [z03]; omega
theorem x61 (h:List AO) (i:Nat) (a:h.length≤i):z0f h i= .dead:=by
 induction h generalizing i with
 |nil=>rfl
 |cons x r b=>cases i with
  |zero=>simp at a
  |succ n=>simpa [z0f] using b n (by simpa using a)
def AO.live:AO→Bool
 | .dead=>false
 |_=>true
def z0d (ρ:Rho) (h:List AO) (b:Nat):Prop:=ρ.fr b∨∃ id L,ρ id=some L∧(z0f h id).live=true∧L.blk=b
def z1a (w:World) (b:Nat):Option Nat:=
 match w.heap[b]? with
 |some (.cells c _ _)=>some c.size
 |_=>none
inductive z1k (O:Nat→Prop) (w:World):D→Value→Prop
 |bool (b:Bool):z1k O w (.bool b) (.bool b)
 |int (k:IntKind) (n:Int):z1k O w (.int k n) (.int k n)
 |str (s:ByteArray):z1k O w (.str s) (.string s)
 |nilp:z1k O w .nilp (.pointer none)
 |nilm:z1k O w .nilm (.map none)
 |nilf:z1k O w .nilf .nilFunc
 |nili:z1k O w .nili .nilIface
 |agg (ds:List D) (vs:Array Value) (hl:vs.size=ds.length) (h:∀ (i:Nat) (d:D),ds[i]?=some d→z1k O w d (vs.getD i undef)):z1k O w (.agg ds) (.agg vs)
 |lnil (full:Bool) (z:Nat) (a:Option Addr) (c:Nat) (h:full=true→c=0):z1k O w (.list full z []) (.slice a 0 c)
 |list (full:Bool) (es:List (List D)) (b o z c:Nat) (hz:0<z) (hne:es≠[]) (hO:¬ O b) (hlc:es.length≤c) (hf:full=true→c=es.length)
   (hsz:∀ (i:Nat) (r:List D),es[i]?=some r→r.length=z) (cell:Nat→Value) (h1:∀ k,k<es.length*z→(cell k).oneCell'=true) (hc:∀ k,k<es.length*z→w.cell? ⟨b,o+k,none⟩=some (cell k))
   (h:∀ (i:Nat) (r:List D) (j:Nat) (d:D),es[i]?=some r→r[j]?=some d→z1k O w d (cell (i*z+j))):z1k O w (.list full z es) (.slice (some ⟨b,o,none⟩) es.length c)
 |ref (r:List D) (b o:Nat) (hne:r≠[]) (hO:¬ O b) (cell:Nat→Value) (hc:∀ k,k<r.length→w.cell? ⟨b,o+k,none⟩=some (cell k))
   (h:∀ (k:Nat) (x:D),r[k]?=some x→z1k O w x (cell k)):z1k O w (.ref r) (.pointer (some ⟨b,o,none⟩))
inductive z0n (ρ:Rho) (O:Nat→Prop) (w:World):AV→Value→Prop
 |bot (v:Value):z0n ρ O w .bot v
 |d {x:D} {v:Value} (h:z1k O w x v):z0n ρ O w (.d x) v
 |bptr (id off:Nat) (L:Loc) (h:ρ id=some L):z0n ρ O w (.bptr id off) (.pointer (some ⟨L.blk,L.base+off,none⟩))
 |ptr (id i off:Nat) (L:Loc) (h:ρ id=some L):z0n ρ O w (.ptr id i off) (.pointer (some ⟨L.blk,L.base+i*L.esz+off,none⟩))
 |lptr (r:List D) (off b o:Nat) (hlt:b<w.heap.size) (hO:¬ O b) (cell:Nat→Value) (hc:∀ k,k<r.length→w.cell? ⟨b,o+k,none⟩=some (cell k))
   (hr:∀ (k:Nat) (x:D),r[k]?=some x→z1k O w x (cell k)):z0n ρ O w (.lptr r off) (.pointer (some ⟨b,o+off,none⟩))
 |wptr (es:List (List D)) (off b o z:Nat) (hlt:b<w.heap.size) (hO:¬ O b) (hz:∀ (i:Nat) (r:List D),es[i]?=some r→r.length=z)
   (hc:∀ (i:Nat) (r:List D) (j:Nat) (x:D),es[i]?=some r→r[j]?=some x→∃ v,w.cell? ⟨b,o+i*z+j,none⟩=some v∧z1k O w x v):z0n ρ O w (.wptr es off) (.pointer (some ⟨b,o+off,none⟩))
 |perm (es es':List (List D)) (v:Value) (hp:es'.Perm es) (h:z1k O w (.list false 1 es') v):z0n ρ O w (.perm es) v
 |slice (id z off len:Nat) (cap:Option Nat) (L:Loc) (a:Option Addr) (c:Nat) (h:ρ id=some L) (hz:L.esz=z) (ha:0<c→a=some ⟨L.blk,L.base+off*L.esz,none⟩)
   (hc:cap=some c∨(cap=none∧∃ n,z1a w L.blk=some n∧L.base+(off+c)*L.esz≤n)) (hl:len≤c):z0n ρ O w (.slice id z off len cap) (.slice a len c)
 |nils (id z off:Nat) (cap:Option Nat) (a:Option Addr) (hc:cap=none∨cap=some 0):z0n ρ O w (.slice id z off 0 cap) (.slice a 0 0)
 |map (id:Nat) (L:Loc) (h:ρ id=some L):z0n ρ O w (.map id) (.map (some L.blk))
 |yld (id:Nat) (L:Loc) (h:ρ id=some L):z0n ρ O w (.yld id) (.func (.yield L.blk) #[] #[])
 |clo (fn:Fn) (fs cs:List AV) (vf vc:Array Value) (hf:vf.size=fs.length) (hc:vc.size=cs.length)
   (h1:∀ (i:Nat) (x:AV),fs[i]?=some x→z0n ρ O w x (vf.getD i undef)) (h2:∀ (i:Nat) (x:AV),cs[i]?=some x→z0n ρ O w x (vc.getD i undef)):z0n ρ O w (.clo fn fs cs) (.func fn vf vc)
 |iface (t:TypeId) (x:AV) (v:Value) (h:z0n ρ O w x v):z0n ρ O w (.iface t x) (.iface t v)
 |agg (xs:List AV) (vs:Array Value) (hl:vs.size=xs.length) (h:∀ (i:Nat) (x:AV),xs[i]?=some x→z0n ρ O w x (vs.getD i undef)):z0n ρ O w (.agg xs) (.agg vs)
 |tuple (xs:List AV) (vs:Array Value) (hl:vs.size=xs.length) (h:∀ (i:Nat) (x:AV),xs[i]?=some x→z0n ρ O w x (vs.getD i undef)):z0n ρ O w (.tuple xs) (.tuple vs)
def z0u (_ _:Nat):Prop:=True
theorem z0u.refl (a:Nat):z0u a a:=trivial
theorem z0u.trans {a b c:Nat} (h:z0u a b) (k:z0u b c):z0u a c:=trivial
theorem z0u.succ (a:Nat):z0u a (a+1):=trivial
structure z43 (O O':Nat→Prop) (w w':World):Prop where
 size:w.heap.size≤w'.heap.size
 frame:∀ b,b<w.heap.size→¬ O b→w'.heap[b]?=w.heap[b]?
 own:∀ b,b<w.heap.size→O' b→O b
 shape:∀ b n,z1a w b=some n→z1a w' b=some n
 drawn:z0u w.drawn w'.drawn
theorem z43.refl (O:Nat→Prop) (w:World):z43 O O w w:=⟨eAj _,fun _ _ _=>rfl,fun _ _ h=>h,fun _ _ h=>h,z0u.refl _⟩
theorem y2b {w:World} {a:Addr} {v:Value} (h:w.cell? a=some v):a.block<w.heap.size:=by
 unfold World.cell? at h
 cases b:w.heap[a.block]? with
 |none=>simp [b] at h
 |some o=>exact (eAe.1 b).1
theorem z2m {w w':World} {a:Addr} (h:w'.heap[a.block]?=w.heap[a.block]?):w'.cell? a=w.cell? a:=by
 unfold World.cell?; rw [h]
theorem z1k.keep {O O':Nat→Prop} {w w':World} (k:z43 O O' w w') {x:D} {v:Value} (h:z1k O w x v):z1k O' w' x v:=by
 induction h with
 |bool b=>exact .bool b
 |int k n=>exact .int k n
 |str s=>exact .str s
 |nilp=>exact .nilp
 |nilm=>exact .nilm
 |nilf=>exact .nilf
 |nili=>exact .nili
 |agg ds t u h g=>exact .agg ds t u g
 |lnil f z a c h=>exact .lnil f z a c h
 |list full es b o z c q d hO m y l cell A i h g=>
  have e:b<w.heap.size:=by
   have B:0<es.length*z:=Nat.mul_pos (eFm.2 d) q
   exact y2b (i 0 B)
  refine .list full es b o z c q d (fun h=>hO (k.own b e h)) m y l cell A (fun j p=>?_) g
  rw [z2m (w:=w)]
  ·exact i j p
  ·exact k.frame b e hO
 |ref r b o d hO cell i h g=>
  have e:b<w.heap.size:=y2b (i 0 (eFm.2 d))
  refine .ref r b o d (fun h=>hO (k.own b e h)) cell (fun j p=>?_) g
  rw [z2m (w:=w)]
  ·exact i j p
  ·exact k.frame b e hO
theorem z0n.keep {ρ ρ':Rho} {O O':Nat→Prop} {w w':World} (k:z43 O O' w w') (l:∀ id L,ρ id=some L→ρ' id=some L) {x:AV} {v:Value} (h:z0n ρ O w x v):z0n ρ' O' w' x v:=by
 induction h with
 |bot v=>exact .bot v
 |d h=>exact .d (h.keep k)
 |bptr id off L h=>exact .bptr id off L (l _ _ h)
 |ptr id i off L h=>exact .ptr id i off L (l _ _ h)
 |lptr r off b o e hO cell f B=>
  refine .lptr r off b o ?_ (fun h=>hO (k.own b e h)) cell (fun j K=>?_) (fun j x A=>(B j x A).keep k)
  ·exact eAp e k.size
  ·rw [z2m (w:=w)]
   ·exact f j K
   ·exact k.frame b e hO
 |wptr es off b o z e hO y f=>
  refine .wptr es off b o z (eAp e k.size) (fun h=>hO (k.own b e h)) y fun i r j x M A=>?_
  obtain ⟨v,H,B⟩:=f i r j x M A
  refine ⟨v,?_,B.keep k⟩
  rw [z2m (w:=w)]
  ·exact H
  ·exact k.frame b e hO
 |perm es E v I h=>exact .perm es E v I (h.keep k)
 |slice id z off len cap L a c h y P f m=>
  refine .slice id z off len cap L a c (l _ _ h) y P ?_ m
  rcases f with f|⟨f,n,J,C⟩
  ·exact .inl f
  ·exact .inr ⟨f,n,k.shape _ _ J,C⟩
 |nils id z off cap a f=>exact .nils id z off cap a f
 |map id L h=>exact .map id L (l _ _ h)
 |yld id L h=>exact .yld id L (l _ _ h)
 |clo fn Q cs F G N f S R u s=>exact .clo fn Q cs F G N f u s
 |iface t x v h g=>exact .iface t x v g
 |agg p q m h g=>exact .agg p q m g
 |tuple p q m h g=>exact .tuple p q m g
def v8e:D→D→Prop
 | .list f z es,y=>y= .list f z es∨(∃ a,y= .list false a es∧(a=z∨es=[]))∨(∃ a,y= .list f a es∧es=[])
 |x,y=>y=x
theorem v8e.refl (x:D):v8e x x:=by cases x<;>first|rfl|exact .inl rfl
theorem z1k.le0 {O:Nat→Prop} {w:World} {x y:D} {v:Value} (e:v8e x y) (h:z1k O w x v):z1k O w y v:=by
 cases h with
 |lnil f z a c l=>
  rcases e with rfl|⟨g,rfl,_⟩|⟨g,rfl,_⟩
  ·exact .lnil f z a c l
  ·exact .lnil false g a c (by simp)
  ·exact .lnil f g a c l
 |list full es b o z c u d hO j l i cell p m h=>
  rcases e with rfl|⟨g,rfl,q⟩|⟨g,rfl,t⟩
  ·exact .list full es b o z c u d hO j l i cell p m h
  ·rcases q with rfl|t
   ·exact .list false es b o g c u d hO j (by simp) i cell p m h
   ·exact absurd t d
  ·exact absurd t d
 |bool b=>cases e; exact .bool b
 |int k n=>cases e; exact .int k n
 |str s=>cases e; exact .str s
 |nilp=>cases e; exact .nilp
 |nilm=>cases e; exact .nilm
 |nilf=>cases e; exact .nilf
 |nili=>cases e; exact .nili
 |agg ds A p B=>cases e; exact .agg ds A p B
 |ref r b o d hO cell m h=>cases e; exact .ref r b o d hO cell m h
def DLe (x y:D):Prop:=v8e x y∨∃ r a,x= .ref r∧y= .ref a∧a.length=r.length∧∀ (j:Nat) (d:D),a[j]?=some d→∃ c,r[j]?=some c∧v8e c d
theorem DLe.refl (x:D):DLe x x:= .inl (.refl x)
theorem z1k.le {O:Nat→Prop} {w:World} {x y:D} {v:Value} (g:DLe x y) (h:z1k O w x v):z1k O w y v:=by
 rcases g with g|⟨r,l,rfl,rfl,j,p⟩
 ·exact h.le0 g
 ·cases h with
  |ref _ b o a hO cell n h=>
   refine .ref l b o (by intro e; rw [e] at j; exact a (eBr.1 j.symm)) hO cell (fun k q=>n k (by omega)) fun k d m=>?_
   obtain ⟨c,i,f⟩:=p k d m
   exact (h k c i).le0 f
def y7t (r r':List D):Prop:=r'.length=r.length∧∀ (j:Nat) (y:D),r'[j]?=some y→∃ x,r[j]?=some x∧DLe x y
theorem y7t.refl (r:List D):y7t r r:=⟨rfl,fun j y h=>⟨y,h, .refl y⟩⟩
def w7s (es:List (List D)) (i:Nat) (r:List D):Prop:=∃ a,es[i]?=some a∧y7t a r
def t1n (x y:D):Prop:=DLe x y∨∃ l a,x= .agg l∧y= .agg a∧y7t l a
theorem z1k.le2 {O:Nat→Prop} {w:World} {x y:D} {v:Value} (b:t1n x y) (h:z1k O w x v):z1k O w y v:=by
 rcases b with b|⟨l,e,rfl,rfl,n,m⟩
 ·exact h.le b
 ·cases h with
  |agg _ c g j=>
   refine .agg e c (by rw [n]; exact g) fun i d k=>?_
   obtain ⟨x,f,a⟩:=m i d k
   exact (j i x f).le a
end Go.Am
end
section
namespace Go.Am
inductive SK where
 |i|b|s
 deriving DecidableEq
inductive TK where
 |int (k:IntKind)|bool|str
 |struct (fs:List (Nat×Nat×Bool))
 |arr (n esz:Nat) (eagg:Bool)
 |slc (e esz ebytes:Nat) (eagg:Bool) (ezero:List D)
 |ptr (arr:Option (Nat×Nat))
 |map (ks:List SK) (kagg:Bool) (ezero:D)
 |mapx
 |func|iface|other
 deriving Inhabited
structure TI where
 size:Nat
 bytes:Nat
 agg:Bool
 zero:List D
 desc:TK
 eqk:Option (List SK)
 deriving Inhabited
def u0x:Value→Option D
 | .bool b=>some (.bool b)
 | .int k n=>some (.int k n)
 | .string s=>some (.str s)
 | .slice none 0 0=>some (.list true 0 [])
 | .pointer none=>some .nilp
 | .map none=>some .nilm
 | .nilFunc=>some .nilf
 | .nilIface=>some .nili
 |_=>none
def y22:List Value→Option (List D)
 |[]=>some []
 |v::r=>match u0x v,y22 r with
  |some d,some ds=>some (d::ds)
  |_,_=>none
def u4w:Value→Option D
 | .agg cs=>(y22 cs.toList).map .agg
 |v=>u0x v
def z73:TypeDesc→Bool
 | .struct _| .array _ _=>true
 |_=>false
def z91 (P:Program) (t:TypeId):Option Nat:=(P.info? t).map (·.size)
def z4j (P:Program) (t:TypeId):Option Bool:=(P.underlying t).map z73
def y5l (P:Program) (t:TypeId):Option (List D):=((P.info? t).bind (·.zero)).bind fun z=>y22 z.cells.toList
def w3g (P:Program) (t:TypeId):Option D:=((P.info? t).bind (·.zero)).bind u4w
def y2c (P:Program) (t:TypeId):Option Nat:=(P.info? t).map (·.bytes)
def w8z (P : Program) (flat : TypeId → Option (List SK)) : Nat → List Field → Option (List SK)
 | _, [] => some []
 | off, f :: fs => if f.name ≠ "_" ∧ f.offset = off then
   match flat f.type with
   | some ks => if z91 P f.type = some ks.length then (w8z P flat (off + ks.length) fs).map (ks ++ ·) else none
   | none => none
  else none
def w5v (P:Program) (flat:TypeId→Option (List SK)) (t:TypeId):Option (List SK):=
 match P.underlying t with
 |some (.int _)=>some [.i]
 |some .bool=>some [.b]
 |some .string=>some [.s]
 |some (.struct a)=>if P.stoodInHeld t then none else w8z P flat 0 a.toList
 |some (.array m e)=>(flat e).map fun ks=>(List.replicate m ks).flatten
 |_=>none
def z4v (P:Program):Nat→TypeId→Option (List SK)
 |0,_=>none
 |n+1,t=>match w5v P (z4v P n) t with
  |some ks=>if z91 P t=some ks.length then some ks else none
  |none=>none
def fieldsOf (P:Program):List Field→Option (List (Nat×Nat×Bool))
 |[]=>some []
 |f::r=>match z91 P f.type,z4j P f.type,fieldsOf P r with
  |some s,some a,some l=>some ((f.offset,s,a)::l)
  |_,_,_=>none
def u6v (P:Program):TypeDesc→Option TK
 | .int k=>some (.int k)
 | .bool=>some .bool
 | .string=>some .str
 | .struct fs=>(fieldsOf P fs.toList).map .struct
 | .array n e=>match z91 P e,z4j P e with
  |some s,some a=>some (.arr n s a)
  |_,_=>none
 | .slice e=>match z91 P e,z4j P e,y2c P e,y5l P e with
  |some s,some a,some b,some z=>if z.length=s then some (.slc e s b a z) else none
  |_,_,_,_=>none
 | .pointer e=>match P.underlying e with
  |some (.array n c)=>(z91 P c).map fun s=> .ptr (some (n,s))
  |_=>some (.ptr none)
 | .map k e=>match z4v P 8 k,z4j P k,w3g P e,P.eqGuardType P.depth k with
  |some ks,some a,some z,false=>some (.map ks a z)
  |_,_,_,_=>some .mapx
 | .func _ _ _=>some .func
 | .interface _=>some .iface
 |_=>some .other
def w5h:Value→Bool
 | .agg _=>true
 |_=>false
def v8h (P:Program) (t:TypeId):Option TI:=
 match P.info? t,P.underlying t with
 |some i,some d=>match i.zero with
  |some z=>match y22 z.cells.toList,u6v P d with
   |some a,some k=>if (z73 d==w5h z)&&(a.length==i.size) then some ⟨i.size,i.bytes,z73 d,a,k,if P.eqGuardType P.depth t then none else z4v P 8 t⟩ else none
   |_,_=>none
  |none=>none
 |_,_=>none
inductive CR where
 |int (k:IntKind)|bool|str|list (z:Nat)
 deriving Inhabited
inductive CK where
 |int (k:IntKind)|bool|str|list (z:Nat)|other
 |ref (ks:List CR)
 deriving Inhabited
structure Prim where
 ar:BinOp→IntKind→Int→Int→Int
 cmp:BinOp→Int→Int→Bool
 cvt:IntKind→Int→Int
 nat:Int→Nat
 ofNat:Nat→Int
 add:Nat→Nat→Nat
 sub:Nat→Nat→Nat
 mul:Nat→Nat→Nat
 leN:Nat→Nat→Bool
 byte:ByteArray→Int→Int
 bEq:Bool→Bool→Bool
 len:List (List D)→Nat
 w9n:List (List AV)→Nat
 set:List (List D)→Nat→List D→List (List D)
 app:List (List D)→List (List D)→List (List D)
 cut:List (List D)→Nat→Nat→List (List D)
 strEq:ByteArray→ByteArray→Bool
 rep:Nat→List D→List (List D)
 splice:List (List D)→Nat→List (List D)→List (List D)
 min:Nat→Nat→Nat
 and:Bool→Bool→Bool
 mm:BinOp→Int→Int→Int
 mset:List (D×D)→Nat→D→D→List (D×D)
 madd:List (D×D)→D→D→List (D×D)
 mdel:List (D×D)→Nat→List (D×D)
 mlen:List (D×D)→Nat
 eqN:Nat→Nat→Bool
 rowOk:List (List D)→Nat→List CK→Bool
 rdI:List (List D)→Nat→Nat→Int
 rdB:List (List D)→Nat→Nat→Bool
 rdS:List (List D)→Nat→Nat→ByteArray
 rdL:List (List D)→Nat→Nat→List (List D)
 rdR:List (List D)→Nat→Nat→List (List D)
 mOk:List (D×D)→List SK→Bool→D→Bool→List CK→Bool
 mhas:List (D×D)→List SK→Bool→D→Bool
 mpos:List (D×D)→List SK→Bool→D→Nat
 mI:List (D×D)→List SK→Bool→D→Nat→Int
 mB:List (D×D)→List SK→Bool→D→Nat→Bool
 mS:List (D×D)→List SK→Bool→D→Nat→ByteArray
 mL:List (D×D)→List SK→Bool→D→Nat→List (List D)
 mR:List (D×D)→List SK→Bool→D→Nat→List (List D)
 plain:List (List D)→Bool
 plainM:List (D×D)→Bool
 slen:ByteArray→Nat
 scut:ByteArray→Nat→Nat→ByteArray
 scat:ByteArray→ByteArray→ByteArray
 schr:Int→ByteArray
 rdF:List (List D)→Nat→Nat→Nat→Bool
def x6h (op:BinOp) (k:IntKind) (x y:Int):Int:=
 match op with
 | .add=>k.wrap (x+y)
 | .sub=>k.wrap (x - y)
 | .mul=>k.wrap (x*y)
 | .quo=>k.wrap (x.tdiv y)
 | .rem=>x.tmod y
 | .and=>k.wrap ((BitVec.ofInt k.bits x&&&BitVec.ofInt k.bits y).toNat:Nat)
 | .or=>k.wrap ((BitVec.ofInt k.bits x|||BitVec.ofInt k.bits y).toNat:Nat)
 | .xor=>k.wrap ((BitVec.ofInt k.bits x ^^^ BitVec.ofInt k.bits y).toNat:Nat)
 | .andNot=>k.wrap ((BitVec.ofInt k.bits x&&& ~~~ (BitVec.ofInt k.bits y)).toNat:Nat)
 | .shl=>k.wrap (x*2 ^ (min y.toNat k.bits))
 | .shr=>x.fdiv (2 ^ (min y.toNat k.bits))
 |_=>0
def z3r (op:BinOp) (x y:Int):Bool:=
 match op with
 | .eql=>x==y
 | .neq=>x !=y
 | .lss=>x<y
 | .leq=>x≤y
 | .gtr=>x>y
 | .geq=>x≥y
 |_=>false
def z9i:List SK→List D→List D→Option Bool
 |[],[],[]=>some true
 | .i::ks, .int k a::x, .int c b::y=>bif k==c then match z9i ks x y with
   |some r=>some (z3r .eql a b&&r)
   |none=>none
  else none
 | .b::ks, .bool a::x, .bool b::y=>match z9i ks x y with
   |some r=>some ((a==b)&&r)
   |none=>none
 | .s::ks, .str a::x, .str b::y=>match z9i ks x y with
   |some r=>some ((a.toList==b.toList)&&r)
   |none=>none
 |_,_,_=>none
def z0v:D→List D
 | .agg l=>l
 |x=>[x]
def z1t:D→Bool
 | .agg _=>true
 |_=>false
def y7e (ks:List SK) (ka:Bool) (k:D):List (D×D)→Nat→Option (Option (Nat×D))
 |[],_=>some none
 |(a,v)::r,i=>bif (z1t k==ka)&&(z1t a==ka) then match z9i ks (z0v k) (z0v a) with
   |some true=>some (some (i,v))
   |some false=>y7e ks ka k r (i+1)
   |none=>none
  else none
def z1h:List SK→List D→Bool
 |[],[]=>true
 | .i::ks, .int _ _::r=>z1h ks r
 | .b::ks, .bool _::r=>z1h ks r
 | .s::ks, .str _::r=>z1h ks r
 |_,_=>false
def x2b:CR→D→Bool
 | .int k, .int b _=>k==b
 | .bool, .bool _=>true
 | .str, .str _=>true
 | .list z, .list _ a es=>Nat.beq z a||es.isEmpty
 |_,_=>false
def y06:List CR→List D→Bool
 |[],[]=>true
 |c::cs,d::ds=>x2b c d&&y06 cs ds
 |_,_=>false
def x0c:CK→D→Bool
 | .int k, .int b _=>k==b
 | .bool, .bool _=>true
 | .str, .str _=>true
 | .list z, .list _ a es=>Nat.beq z a||es.isEmpty
 | .ref ks, .ref ds=>y06 ks ds
 |_,_=>false
def z2b:List CK→List D→Bool
 |[],[]=>true
 |c::cs,d::ds=>x0c c d&&z2b cs ds
 |_,_=>false
def rdD (es:List (List D)) (i j:Nat):D:=((es[i]?).bind (·[j]?)).getD .nilp
def dI:D→Int
 | .int _ n=>n
 |_=>0
def dB:D→Bool
 | .bool b=>b
 |_=>false
def dS:D→ByteArray
 | .str s=>s
 |_=>ByteArray.empty
def dL:D→List (List D)
 | .list _ _ es=>es
 |_=>[]
def dF (z:Nat):D→Bool
 | .list f a es=>f&&(Nat.beq z a||es.isEmpty)
 |_=>false
def dR:D→List (List D)
 | .ref r=>[r]
 |_=>[]
def w3e (es:List (D×D)) (ks:List SK) (ka:Bool) (k:D):Option (Nat×D):=(y7e ks ka k es 0).join
def y4z (es:List (D×D)) (ks:List SK) (ka:Bool) (k:D) (j:Nat):D:=match w3e es ks ka k with
 |some (_,v)=>((z0v v)[j]?).getD .nilp
 |none=> .nilp
mutual
def z8l:D→Bool
 | .list _ _ es=>es.isEmpty
 | .agg ds=>y6i ds
 | .ref _=>false
 |_=>true
def y6i:List D→Bool
 |[]=>true
 |d::l=>z8l d&&y6i l
end
def std:Prim where
 ar:=x6h
 cmp:=z3r
 cvt:=fun k n=>k.wrap n
 nat:=Int.toNat
 ofNat:=fun n=>(n:Int)
 add:=fun a b=>a+b
 sub:=fun a b=>a - b
 mul:=fun a b=>a*b
 leN:=fun a b=>Nat.ble a b
 byte:=fun s i=>((s[i.toNat]?.map fun b=>(b.toNat:Int)).getD 0)
 bEq:=fun a b=>a==b
 len:=fun l=>l.length
 w9n:=fun l=>l.length
 set:=fun l i r=>l.set i r
 app:=fun a b=>a++b
 cut:=fun l a n=>(l.drop a).take n
 strEq:=fun a b=>a.toList==b.toList
 rep:=fun n z=>List.replicate n z
 splice:=fun l i xs=>l.take i++xs++l.drop (i+xs.length)
 min:=fun a b=>Nat.min a b
 and:=fun a b=>a&&b
 mm:=fun op a b=>match op with| .lss=>if b<a then b else a|_=>if b>a then b else a
 mset:=fun es i k x=>es.set i (k,x)
 madd:=fun es k x=>es++[(k,x)]
 mdel:=fun es i=>es.eraseIdx i
 mlen:=fun es=>es.length
 eqN:=fun a b=>Nat.beq a b
 rowOk:=fun es i ck=>match es[i]? with|some r=>z2b ck r|none=>false
 rdI:=fun es i j=>dI (rdD es i j)
 rdB:=fun es i j=>dB (rdD es i j)
 rdS:=fun es i j=>dS (rdD es i j)
 rdL:=fun es i j=>dL (rdD es i j)
 rdR:=fun es i j=>dR (rdD es i j)
 mOk:=fun es ks ka k a ck=>(z1t k==ka)&&z1h ks (z0v k)&&match y7e ks ka k es 0 with|some none=>true|some (some (_,v))=>(z1t v==a)&&z2b ck (z0v v)|none=>false
 mhas:=fun es ks ka k=>(w3e es ks ka k).isSome
 mpos:=fun es ks ka k=>((w3e es ks ka k).map (·.1)).getD 0
 mI:=fun es ks ka k j=>dI (y4z es ks ka k j)
 mB:=fun es ks ka k j=>dB (y4z es ks ka k j)
 mS:=fun es ks ka k j=>dS (y4z es ks ka k j)
 mL:=fun es ks ka k j=>dL (y4z es ks ka k j)
 mR:=fun es ks ka k j=>dR (y4z es ks ka k j)
 plain:=fun es=>es.all fun r=>r.all z8l
 plainM:=fun es=>es.all fun e=>z8l e.1&&z8l e.2
 slen:=fun s=>s.size
 scut:=fun s a b=>s.extract a b
 scat:=fun a b=>a++b
 schr:=fun n=>Utf8.encode n
 rdF:=fun es i j z=>dF z (rdD es i j)
inductive u2x where
 |arith|divs|bits|shift|comp
def y1g:BinOp→u2x
 | .add| .sub| .mul=> .arith
 | .quo| .rem=> .divs
 | .and| .or| .xor| .andNot=> .bits
 | .shl| .shr=> .shift
 |_=> .comp
structure Res where
 c:Bool
 v:AV
 u:List (Nat×AO)
def z00:List (Nat×AV)→Nat→AV
 |[],_=> .bot
 |(k,v)::r,t=>bif Nat.beq k t then v else z00 r t
def w72 (env:List (Nat×AV)) (t:Nat) (v:AV):List (Nat×AV):=(t,v)::env
def v9g:List (Nat×AV)→Nat→AV→List (Nat×AV)
 |[],t,v=>[(t,v)]
 |(k,w)::r,t,v=>bif Nat.beq k t then (k,v)::r else (k,w)::v9g r t v
def z0p (env:List (Nat×AV)):Operand→AV
 | .tmp t=>z00 env t
 | .const v=>match u4w v with
  |some d=> .d d
  |none=> .bot
 | .global _=> .bot
 | .func f=> .clo (.func f) [] []
def z06 (env:List (Nat×AV)):List Operand→List AV
 |[]=>[]
 |x::r=>z0p env x::z06 env r
def x2i:List AV→Option (List D)
 |[]=>some []
 | .d x::r=>match x2i r with
  |some l=>some (x::l)
  |none=>none
 |_::_=>none
def toA:List D→List AV
 |[]=>[]
 |x::r=> .d x::toA r
def z60 (agg:Bool) (l:List AV):Option AV:=
 match agg with
 |true=>match x2i l with
  |some ds=>some (.d (.agg ds))
  |none=>some (.agg l)
 |false=>match l with
  |[x]=>some x
  |_=>none
def z50 (agg:Bool) (l:List D):Option AV:=
 match agg with
 |true=>some (.d (.agg l))
 |false=>match l with
  |[x]=>some (.d x)
  |_=>none
def z2h:AV→Option (List AV)
 | .d (.agg l)=>some (toA l)
 | .agg l=>some l
 | .bot=>none
 | .tuple _=>none
 | .perm _=>none
 |x=>some [x]
def w74:AV→Bool
 | .d (.agg _)| .agg _| .bot| .tuple _| .perm _=>false
 |_=>true
def v5v:D→Bool
 | .agg _=>false
 |_=>true
def z7n:List AV→Bool
 |[]=>true
 |x::r=>w74 x&&z7n r
def part {α:Type}:List α→Nat→Nat→Option (List α)
 |_,0,0=>some []
 |x::l,0,n+1=>match part l 0 n with
  |some r=>some (x::r)
  |none=>none
 |_::l,i+1,n=>part l i n
 |[],_,_=>none
def x6u {α:Type}:List α→Nat→List α→Option (List α)
 |l,0,[]=>some l
 |_::l,0,x::xs=>match x6u l 0 xs with
  |some r=>some (x::r)
  |none=>none
 |y::l,i+1,xs=>match x6u l i xs with
  |some r=>some (y::r)
  |none=>none
 |[],_,_=>none
def ok (v:AV):Option Res:=some ⟨true,v,[]⟩
def z8p {α:Type}:List α→Nat→Bool
 |[],0=>true
 |_::l,n+1=>z8p l n
 |_,_=>false
def z4a (ti:TI) (h:List AO) (r:List D) (ra:List AV):AV→Option Res
 | .bptr id off=>match z0f h id with
  | .box cells=>match part cells off ti.size with
   |some l=>(z60 ti.agg l).bind ok
   |none=>none
  | .row _=>bif z8p r ti.size then (z50 ti.agg r).bind ok else none
  |_=>none
 | .ptr id _ off=>match z0f h id with
  | .row _=>match part r off ti.size with
   |some l=>(z50 ti.agg l).bind ok
   |none=>none
  | .arow _=>match part ra off ti.size with
   |some l=>(z60 ti.agg l).bind ok
   |none=>none
  |_=>none
 | .wptr _ _=>bif z8p r ti.size then (z50 ti.agg r).bind ok else none
 | .lptr cells off=>match part cells off ti.size with
  |some l=>(z50 ti.agg l).bind ok
  |none=>none
 |_=>none
def w4r:List D→List (List D)
 |[]=>[]
 |x::l=>[x]::w4r l
def x86 {α:Type}:List α→Nat
 |[]=>0
 |_::l=>x86 l+1
def z5m:List (List D)→List (List AV)
 |[]=>[]
 |r::l=>toA r::z5m l
def z4s (p:Prim) (h:List AO) (r:List D) (ra:List AV) (cells:List AV):AV→Option Res
 | .bptr id off=>match z0f h id with
  | .box a=>match x6u a off cells with
   |some l=>some ⟨true, .bot,[(id, .box l)]⟩
   |none=>none
  | .row es=>match x2i cells,r with
   |some [x],[_]=>some ⟨true, .bot,[(id, .row (p.set es off [x]))]⟩
   |some ds,[_]=>some ⟨p.leN (p.add off (x86 ds)) (p.len es), .bot,[(id, .row (p.splice es off (w4r ds)))]⟩
   |_,_=>none
  |_=>none
 | .ptr id i off=>match z0f h id with
  | .row es=>match x2i cells with
   |some ds=>match x6u r off ds with
    |some l=>some ⟨true, .bot,[(id, .row (p.set es i l))]⟩
    |none=>none
   |none=>match x6u (toA r) off cells with
    |some l=>some ⟨true, .bot,[(id, .arow ((z5m es).set i l))]⟩
    |none=>none
  | .arow es=>match x6u ra off cells with
   |some l=>some ⟨true, .bot,[(id, .arow (es.set i l))]⟩
   |none=>none
  |_=>none
 |_=>none
def z45 (p:Prim) (ti:TI) (h:List AO) (r:List D) (ra:List AV) (a x:AV):Option Res:=
 match z2h x with
 |some cells=>bif Nat.ble 1 ti.size&&(z8p cells ti.size&&z7n cells) then z4s p h r ra cells a else none
 |none=>none
def y8m (place:Nat→Option (Nat×Nat)) (cells:List AV):List (Nat×AV)→Option (List AV)
 |[]=>some cells
 |(i,v)::rest=>match place i,z2h v with
  |some (off,size),some cs=>bif z8p cs size then
    match x6u cells off cs with
    |some l=>y8m place l rest
    |none=>none
   else none
  |_,_=>none
def z19 {α:Type}:List α→Nat→Option α
 |[],_=>none
 |x::_,0=>some x
 |_::r,n+1=>z19 r n
def z93 (ti:TI) (parts:List (Nat×AV)):Option Res:=
 match ti.desc with
 | .struct b=>match y8m (fun i=>(z19 b i).map fun f=>(f.1,f.2.1)) (toA ti.zero) parts with
  |some l=>(z60 true l).bind ok
  |none=>none
 | .arr n a _=>match y8m (fun i=>some (i*a,a)) (toA ti.zero) parts with
  |some l=>(z60 true l).bind ok
  |none=>none
 |_=>none
def x5f {α:Type} (n:Nat):(fuel:Nat)→List α→Option (List (List α))
 |_,[]=>some []
 |0,_::_=>none
 |f+1,l=>match part l 0 n with
  |some x=>(x5f n f (l.drop n)).map (x:: ·)
  |none=>none
def y8u:List (List AV)→Option (List (List D))
 |[]=>some []
 |x::r=>match x2i x,y8u r with
  |some d,some l=>some (d::l)
  |_,_=>none
def w83 {α:Type}:Nat→List α→List α
 |0,_=>[]
 |n+1,l=>l++w83 n l
def w42 (es:List (List AV)):AO:=
 match y8u es with
 |some l=> .row l
 |none=> .arow es
def z2p (ti:TI) (new len:Nat) (parts:List (Nat×AV)):Option Res:=
 match ti.desc with
 | .slc _ a _ _ ez=>bif Nat.ble 1 a&&(Nat.ble (len*a) 1000000) then
   match y8m (fun i=>some (i*a,a)) (toA (w83 len ez)) parts with
   |some l=>bif z7n l then match x5f a len l with
    |some es=>some ⟨true, .slice new a 0 len (some len),[(new,w42 es)]⟩
    |none=>none
    else none
   |none=>none
  else none
 |_=>none
def z3u (ti:TI) (new len:Nat) (parts:List (Nat×AV)) (r:List D):Option Res:=
 match r with
 |[]=>z2p ti new len parts
 |_::_=>match len with
  |0=>match z2p ti new 0 parts,ti.desc with
   |some _, .slc _ z _ _ _=>some ⟨true, .d (.list true z []),[]⟩
   |_,_=>none
  |n+1=>match z2p ti new (n+1) parts with
   |some a=>match a.u,ti.desc with
    |[(_, .row l)], .slc _ z _ _ _=>some ⟨true, .d (.list true z l),[]⟩
    |_,_=>some a
   |none=>none
def y2j (ti:TI) (f:Nat):AV→Option Res
 | .bptr id off=>match ti.desc with
  | .struct fs=>match z19 fs f with
   |some (o,s,_)=>bif Nat.ble 1 s then ok (.bptr id (off+o)) else none
   |none=>none
  |_=>none
 | .ptr id i off=>match ti.desc with
  | .struct fs=>match z19 fs f with
   |some (o,s,_)=>bif Nat.ble 1 s then ok (.ptr id i (off+o)) else none
   |none=>none
  |_=>none
 | .wptr c off=>match ti.desc with
  | .struct fs=>match z19 fs f with
   |some (o,s,_)=>bif Nat.ble 1 s then ok (.wptr c (off+o)) else none
   |none=>none
  |_=>none
 | .lptr c off=>match ti.desc with
  | .struct fs=>match z19 fs f with
   |some (o,s,_)=>bif Nat.ble 1 s then ok (.lptr c (off+o)) else none
   |none=>none
  |_=>none
 |_=>none
def z7e (ti:TI) (f:Nat):AV→Option Res
 | .d (.agg l)=>match ti.desc with
  | .struct fs=>match z19 fs f with
   |some (o,s,a)=>match part l o s with
    |some c=>(z50 a c).bind ok
    |none=>none
   |none=>none
  |_=>none
 | .agg l=>match ti.desc with
  | .struct fs=>match z19 fs f with
   |some (o,s,a)=>match part l o s with
    |some c=>(z60 a c).bind ok
    |none=>none
   |none=>none
  |_=>none
 |_=>none
def z3f (p q:Prim) (ti:TI) (h:List AO) (r:List D):AV→AV→Option Res
 | .d (.list _ z es), .d (.int _ i)=>match ti.desc with
  | .slc _ a _ _ _=>bif Nat.beq z a then some ⟨q.cmp .geq i 0, .lptr r 0,[]⟩ else none
  |_=>none
 | .slice id z off len cap, .d (.int _ i)=>match ti.desc with
  | .slc _ a _ _ _=>bif Nat.beq z a then some ⟨p.cmp .geq i 0&&p.cmp .lss i (p.ofNat len), .ptr id (p.add off (p.nat i)) 0,[]⟩ else none
  |_=>none
 | .bptr id off, .d (.int _ i)=>match ti.desc with
  | .arr n a _=>match z0f h id with
   | .row _=>some ⟨q.cmp .geq i 0&&q.cmp .lss i (q.ofNat n), .bptr id (p.add off (bif Nat.beq a 1 then q.nat i else q.mul (q.nat i) a)),[]⟩
   |_=>some ⟨q.cmp .geq i 0&&q.cmp .lss i (q.ofNat n), .bptr id (off+i.toNat*a),[]⟩
  |_=>none
 | .ptr id k off, .d (.int _ i)=>match ti.desc with
  | .arr n a _=>some ⟨q.cmp .geq i 0&&q.cmp .lss i (q.ofNat n), .ptr id k (off+i.toNat*a),[]⟩
  |_=>none
 | .wptr c off, .d (.int _ i)=>match ti.desc with
  | .arr n a _=>some ⟨q.cmp .geq i 0&&q.cmp .lss i (q.ofNat n), .wptr c (p.add off (bif Nat.beq a 1 then q.nat i else q.mul (q.nat i) a)),[]⟩
  |_=>none
 | .lptr c off, .d (.int _ i)=>match ti.desc with
  | .arr n a _=>some ⟨q.cmp .geq i 0&&q.cmp .lss i (q.ofNat n), .lptr c (off+i.toNat*a),[]⟩
  |_=>none
 |_,_=>none
def z7d (p q:Prim) (ti:TI):AV→AV→Option Res
 | .d (.agg l), .d (.int _ i)=>match ti.desc with
  | .arr n b a=>match part l (i.toNat*b) b with
   |some c=>(z50 a c).bind fun v=>some ⟨q.cmp .geq i 0&&q.cmp .lss i (q.ofNat n),v,[]⟩
   |none=>none
  |_=>none
 | .agg l, .d (.int _ i)=>match ti.desc with
  | .arr n b a=>match part l (i.toNat*b) b with
   |some c=>(z60 a c).bind fun v=>some ⟨q.cmp .geq i 0&&q.cmp .lss i (q.ofNat n),v,[]⟩
   |none=>none
  |_=>none
 | .d (.str s), .d (.int _ i)=>match ti.desc with
  | .str=>some ⟨p.cmp .geq i 0&&p.cmp .lss i (p.ofNat (p.slen s)), .d (.int .u8 (p.byte s i)),[]⟩
  |_=>none
 |_,_=>none
def z1n (p:Prim):List SK→List D→List D→Option Bool
 |[],[],[]=>some true
 | .i::ks, .int k a::x, .int c b::y=>bif k==c then match z1n p ks x y with
   |some r=>some (p.cmp .eql a b&&r)
   |none=>none
  else none
 | .b::ks, .bool a::x, .bool b::y=>match z1n p ks x y with
   |some r=>some (p.bEq a b&&r)
   |none=>none
 | .s::ks, .str a::x, .str b::y=>match z1n p ks x y with
   |some r=>some (p.strEq a b&&r)
   |none=>none
 |_,_,_=>none
def x4y (ti:TI):AV→AV→Option Bool
 | .d .nilf, .d .nilf=>match ti.desc with| .func=>some true|_=>none
 | .d .nilf, .clo _ _ _=>match ti.desc with| .func=>some false|_=>none
 | .clo _ _ _, .d .nilf=>match ti.desc with| .func=>some false|_=>none
 | .d .nilp, .d .nilp=>match ti.desc with| .ptr _=>some true|_=>none
 | .d .nilp, .bptr _ _=>match ti.desc with| .ptr _=>some false|_=>none
 | .bptr _ _, .d .nilp=>match ti.desc with| .ptr _=>some false|_=>none
 | .d .nili, .d .nili=>none
 | .iface _ _, .d .nili=>match ti.desc with| .iface=>some false|_=>none
 | .d .nili, .iface _ _=>match ti.desc with| .iface=>some false|_=>none
 |_,_=>none
def eqA (p:Prim) (ti:TI) (x y:AV):Option Bool:=
 match ti.eqk,x,y with
 |some ks, .d a, .d b=>bif (z1t a==ti.agg)&&(z1t b==ti.agg) then z1n p ks (z0v a) (z0v b) else none
 |_,x,y=>x4y ti x y
def x03 (p:Prim) (ti:TI) (op:BinOp) (x y:AV):Option Res:=
 match x,y with
 | .d (.int k a), .d (.int c b)=>
  match y1g op with
  | .arith=>bif k==c then ok (.d (.int k (p.ar op k a b))) else none
  | .bits=>bif k==c then ok (.d (.int k (p.ar op k a b))) else none
  | .divs=>bif k==c then some ⟨p.cmp .neq b 0, .d (.int k (p.ar op k a b)),[]⟩ else none
  | .shift=>some ⟨p.cmp .geq b 0, .d (.int k (p.ar op k a b)),[]⟩
  | .comp=>bif k==c then ok (.d (.bool (p.cmp op a b))) else none
 | .d (.str a), .d (.str b)=>match op with
  | .eql=>ok (.d (.bool (p.strEq a b)))
  | .neq=>ok (.d (.bool (!p.strEq a b)))
  | .add=>some ⟨p.leN (p.add (p.slen a) (p.slen b)) 1000000, .d (.str (p.scat a b)),[]⟩
  |_=>none
 |x,y=>match op with
  | .eql=>(eqA p ti x y).bind fun b=>ok (.d (.bool b))
  | .neq=>(eqA p ti x y).bind fun b=>ok (.d (.bool (!b)))
  |_=>none
def v9o:Operand→Bool
 | .const (.slice none 0 0)=>true
 |_=>false
def v9n:Operand→Bool
 | .const .nilIface=>true
 |_=>false
def y46 (ti:TI) (op:BinOp) (x:AV):Option Res:=
 match ti.desc,op,x with
 | .iface, .eql, .d .nili=>ok (.d (.bool true))
 | .iface, .neq, .d .nili=>ok (.d (.bool false))
 | .iface, .eql, .iface _ _=>ok (.d (.bool false))
 | .iface, .neq, .iface _ _=>ok (.d (.bool true))
 |_,_,_=>none
def y0y (p:Prim) (ti:TI) (op:BinOp) (x:AV):Option Res:=
 match ti.desc,op,x with
 | .slc .., .eql, .d (.list _ _ es)=>some ⟨p.leN 1 (p.len es), .d (.bool false),[]⟩
 | .slc .., .neq, .d (.list _ _ es)=>some ⟨p.leN 1 (p.len es), .d (.bool true),[]⟩
 | .slc .., .eql, .slice _ _ _ len _=>some ⟨p.leN 1 len, .d (.bool false),[]⟩
 | .slc .., .neq, .slice _ _ _ len _=>some ⟨p.leN 1 len, .d (.bool true),[]⟩
 |_,_,_=>none
def x76 (p:Prim) (op:UnOp):AV→Option Res
 | .d (.int k a)=>match op with
  | .neg=>ok (.d (.int k (p.ar .sub k 0 a)))
  | .xor=>ok (.d (.int k (p.ar .xor k (if k.signed then -1 else k.max) a)))
  |_=>none
 | .d (.bool b)=>match op with
  | .not=>ok (.d (.bool (!b)))
  |_=>none
 |_=>none
def z83 (p:Prim) (a dst:TI):AV→Option Res
 | .d (.int k n)=>match a.desc,dst.desc with
  | .int _, .int b=>ok (.d (.int b (p.cvt b n)))
  | .int _, .str=>ok (.d (.str (p.schr n)))
  |_,_=>none
 | .d (.str s)=>match a.desc,dst.desc with
  | .str, .str=>ok (.d (.str s))
  |_,_=>none
 |_=>none
def w9n (p:Prim) (ti:TI) (h:List AO):AV→Option Res
 | .d (.list _ _ es)=>match ti.desc with
  | .slc ..=>ok (.d (.int .i64 (p.ofNat (p.len es))))
  |_=>none
 | .slice _ _ _ len _=>match ti.desc with
  | .slc ..=>ok (.d (.int .i64 (p.ofNat len)))
  |_=>none
 | .d (.str s)=>match ti.desc with
  | .str=>ok (.d (.int .i64 (p.ofNat (p.slen s))))
  |_=>none
 | .d (.agg _)=>match ti.desc with
  | .arr n _ _=>ok (.d (.int .i64 (p.ofNat n)))
  |_=>none
 | .bptr _ _=>match ti.desc with
  | .ptr (some (n,_))=>ok (.d (.int .i64 (p.ofNat n)))
  |_=>none
 | .d .nilm=>match ti.desc with
  | .map _ _ _=>ok (.d (.int .i64 0))
  |_=>none
 | .map id=>match ti.desc,z0f h id with
  | .map _ _ _, .map es=>ok (.d (.int .i64 (p.ofNat (p.mlen es))))
  |_,_=>none
 |_=>none
inductive Els where
 |d (es:List (List D))
 |a (es:List (List AV))
def z2y (p:Prim) (z:Nat) (h:List AO):AV→Option (Bool×Els)
 | .d (.list _ b es)=>bif Nat.beq z b then some (true, .d es) else match es with
  |[]=>some (true, .d [])
  |_=>none
 | .slice id b off len _=>bif Nat.beq z b then match z0f h id with
  | .row es=>some (p.leN (p.add off len) (p.len es), .d (p.cut es off len))
  | .arow es=>some (p.leN (p.add off len) es.length, .a ((es.drop off).take len))
  |_=>none
 else none
 |_=>none
def w0i:List (List D)→Option (List Int)
 |[]=>some []
 |[.int .u8 n]::l=>match w0i l with
  |some r=>some (n::r)
  |none=>none
 |_=>none
def v8z (a:List Int):ByteArray:=a.foldl (fun r n=>r.push (UInt8.ofNat n.toNat)) ByteArray.empty
def u7t:TK→Bool
 | .int .u8=>true
 |_=>false
def z6v (p:Prim) (T:TypeId→Option TI) (h:List AO) (a dst:TI) (x:AV):Option Res:=
 match a.desc,dst.desc with
 | .slc e _ _ _ _, .str=>match T e with
  |some b=>bif u7t b.desc then match z2y p 1 h x with
    |some (c, .d es)=>match w0i es with
     |some f=>some ⟨c, .d (.str (v8z f)),[]⟩
     |none=>none
    |_=>none
   else none
  |none=>none
 |_,_=>none
def z7b (p:Prim):AV→Nat
 | .d (.list _ _ es)=>p.len es
 | .slice _ _ _ len _=>len
 |_=>0
def Els.app (p:Prim):Els→Els→AO
 | .d x, .d y=> .row (p.app x y)
 | .d x, .a y=> .arow (z5m x++y)
 | .a x, .d y=> .arow (x++z5m y)
 | .a x, .a y=> .arow (x++y)
def z48 (l:List (List AV)) (i:Nat) (xs:List (List AV)):List (List AV):=l.take i++xs++l.drop (i+xs.length)
def x8k (p:Prim) (o:AO) (i:Nat) (x:Els):Option AO:=
 match o,x with
 | .row es, .d b=>some (.row (p.splice es i b))
 | .row es, .a b=>some (.arow (z48 (z5m es) i b))
 | .arow es, .d b=>some (.arow (z48 es i (z5m b)))
 | .arow es, .a b=>some (.arow (z48 es i b))
 |_,_=>none
def v9s (p:Prim):AO→Nat
 | .row es=>p.len es
 | .arow es=>es.length
 |_=>0
def z3n (p:Prim) (s x:AV):Option Bool:=
 match s with
 | .d (.list full _ _)=>some full
 | .slice _ _ _ len (some c)=>some (p.leN (p.add len (z7b p x)) c)
 |_=>none
def y25:Nat:=1000000
def v3v:List D→Nat→Bool
 |[],_=>false
 |_::_,0=>false
 |_::_,_+1=>true
def z1z (p:Prim) (ti:TI) (h:List AO) (new:Nat) (q:Bool) (r:List D) (s x:AV):Option Res:=
 match ti.desc with
 | .slc _ z g _ _=>bif Nat.ble 1 z&&Nat.ble g 60000 then match z2y p z h x,z2y p z h s with
  |some (b,a),some (cs,es)=>
   match s with
   | .d (.list _ f _)=>match q with
    |true=>bif v3v r f then match es,a with
      | .d e, .d y=>some ⟨p.and b (p.and (p.leN 1 (z7b p x)) (p.leN (p.add (z7b p s) (z7b p x)) y25)), .d (.list false z (p.app e y)),[]⟩
      |_,_=>none
     else some ⟨p.and b (p.and (p.leN 1 (z7b p x)) (p.leN (p.add (z7b p s) (z7b p x)) y25)), .slice new z 0 (p.add (z7b p s) (z7b p x)) none,[(new,Els.app p es a)]⟩
    |false=>none
   | .slice id _ off len none=>some ⟨p.and b (p.and cs (p.and (p.leN 1 (z7b p x)) (p.leN (p.add len (z7b p x)) y25))), .slice new z 0 (p.add len (z7b p x)) none,[(id, .dead),(new,Els.app p es a)]⟩
   | .slice id _ off len (some c)=>match q with
    |true=>match x8k p (z0f h id) (p.add off len) a with
     |some o=>some ⟨p.and b (p.and cs (p.and (p.leN 1 (z7b p x)) (p.leN (p.add off c) (v9s p (z0f h id))))), .slice id z off (p.add len (z7b p x)) (some c),[(id,o)]⟩
     |none=>none
    |false=>some ⟨p.and b (p.and cs (p.and (p.leN 1 (z7b p x)) (p.leN (p.add len (z7b p x)) y25))), .slice new z 0 (p.add len (z7b p x)) none,[(new,Els.app p es a)]⟩
   |_=>none
  |_,_=>none
 else none
 |_=>none
def y56:AV→Option (Nat×Nat×Nat×Nat)
 | .slice id z off len _=>some (id,z,off,len)
 |_=>none
def x3p:AO→Option (List (List D))
 | .row es=>some es
 |_=>none
def two:List D→Bool
 |[_,_]=>true
 |_=>false
def x7f:List (Nat×AO)→Nat→Option AO→Option AO
 |[],_,a=>a
 |(i,o)::r,id,a=>x7f r id (bif Nat.beq i id then some o else a)
def y4k (p:Prim) (r:List D) (res:Res):Res:=
 bif two r then match y56 res.v with
  |some (id,z,off,len)=>match x7f res.u id none with
   |some o=>match x3p o with
    |some es=>⟨p.and res.c (p.leN (p.add off len) (p.len es)), .d (.list false z (p.cut es off len)),res.u++[(id, .dead)]⟩
    |none=>res
   |none=>res
  |none=>res
 else res
def zer:List D→Bool
 |_::_::_=>true
 |_=>false
def x79:AV→Option (Nat×Nat×Nat×Nat×Nat)
 | .slice id z off len (some c)=>some (id,z,off,len,c)
 |_=>none
def t0j:Els→Option (List (List D))
 | .d x=>some x
 | .a _=>none
def y4s (p:Prim) (ti:TI) (h:List AO) (s x:AV):Option Res:=
 match ti.desc with
 | .slc _ z d _ _=>bif Nat.ble 1 z&&Nat.ble d 60000 then
   match x79 s with
   |some (id,_,off,len,c)=>match z2y p z h x with
    |some (e,b)=>match z2y p z h s with
     |some (cs,_)=>match x3p (z0f h id) with
      |some es=>match t0j b with
       |some a=>some ⟨p.and e (p.and cs (p.leN (p.add off c) (p.len es))), .slice id z off (p.add len (z7b p x)) (some c),[(id, .row (p.splice es (p.add off len) a))]⟩
       |none=>none
      |none=>none
     |none=>none
    |none=>none
   |none=>none
  else none
 |_=>none
def z2r (p:Prim) (ti:TI) (h:List AO) (new:Nat) (q:Bool) (r:List D) (s x:AV):Option Res:=
 (match (bif zer r&&q then y4s p ti h s x else none) with
  |some a=>some a
  |none=>z1z p ti h new q r s x).map (y4k p r)
def u0g:List D→Bool
 |[_,_,_,_,_]=>true
 |_=>false
def x6a (p:Prim) (ti:TI) (h:List AO) (s x:AV):Option Res:=
 match ti.desc with
 | .slc _ z a _ _=>bif Nat.ble 1 z&&Nat.ble a 60000 then
   match y56 s with
   |some _=>match z2y p z h x with
    |some (b,_)=>match z2y p z h s with
     |some (cs,_)=>some ⟨p.and b (p.and cs (p.leN (z7b p x) 0)),s,[]⟩
     |none=>none
    |none=>none
   |none=>none
  else none
 |_=>none
def z2q (p:Prim) (ti:TI) (h:List AO) (new:Nat) (q:Bool) (r:List D) (s x:AV):Option Res:=
 bif u0g r then x6a p ti h s x else z2r p ti h new q r s x
def z6k (p:Prim) (ti:TI) (new:Nat) (l c:AV):Option Res:=
 match ti.desc,l,c with
 | .slc _ z a _ ez, .d (.int _ l), .d (.int _ c)=>bif Nat.ble 1 z&&(Nat.ble a 60000&&z7n (toA ez)) then
   some ⟨p.and (p.cmp .geq l 0) (p.and (p.cmp .leq l c) (p.cmp .leq c 1000000)), .slice new z 0 (p.nat l) (some (p.nat c)),[(new, .row (p.rep (p.nat c) ez))]⟩
  else none
 |_,_,_=>none
def v2v:Option AV→Option (Option Int)
 |none=>some none
 |some (.d (.int _ n))=>some (some n)
 |_=>none
def z4o (x:Option Int) (d:Int):Int:=
 match x with
 |some n=>n
 |none=>d
def v3r (p:Prim) (x:Option Nat) (n:Nat):Option Nat:=
 match x with
 |some c=>some (p.sub c n)
 |none=>none
def w98 (ti:TI):AV→AV
 | .d (.list f z es)=>match ti.desc with
  | .slc _ a _ _ _=>bif Nat.beq z 0 then match es with
    |[]=> .d (.list f a [])
    |_::_=> .d (.list f z es)
   else .d (.list f z es)
  |_=> .d (.list f z es)
 |x=>x
def z6u (p:Prim) (ti:TI) (h:List AO) (r:List D) (x:AV) (a b mx:Option AV):Option Res:=
 match v2v a,v2v b,v2v mx with
 |some a,some b,some mx=>
  match x with
  | .d (.list full z es)=>match ti.desc with
   | .slc _ e _ _ _=>bif Nat.beq z e then match mx with
    |none=>
     let h:=z4o b (p.ofNat (p.len es))
     let l:=z4o a 0
     some ⟨p.and (p.cmp .geq l 0) (p.and (p.cmp .leq l h) (p.cmp .leq h (p.ofNat (p.len es)))), .d (.list (p.and full (p.cmp .eql h (p.ofNat (p.len es)))) z (p.cut es (p.nat l) (p.sub (p.nat h) (p.nat l)))),[]⟩
    |some m=>match b with
     |some h=>
      let l:=z4o a 0
      some ⟨p.and (p.cmp .geq l 0) (p.and (p.cmp .leq l h) (p.and (p.cmp .leq h m) (p.cmp .leq m (p.ofNat (p.len es))))), .d (.list (p.cmp .eql h m) z (p.cut es (p.nat l) (p.sub (p.nat h) (p.nat l)))),[]⟩
     |none=>none
    else none
   |_=>none
  | .slice id z off len cap=>match ti.desc with
   | .slc _ e _ _ _=>bif Nat.beq z e then match mx with
    |none=>
     let h:=z4o b (p.ofNat len)
     let l:=z4o a 0
     some ⟨p.and (p.cmp .geq l 0) (p.and (p.cmp .leq l h) (p.cmp .leq h (p.ofNat len))), .slice id z (p.add off (p.nat l)) (p.sub (p.nat h) (p.nat l)) (v3r p cap (p.nat l)),[]⟩
    |some m=>match b with
     |some h=>
      let l:=z4o a 0
      some ⟨p.and (p.cmp .geq l 0) (p.and (p.cmp .leq l h) (p.and (p.cmp .leq h m) (p.cmp .leq m (p.ofNat len)))), .slice id z (p.add off (p.nat l)) (p.sub (p.nat h) (p.nat l)) (some (p.sub (p.nat m) (p.nat l))),[]⟩
     |none=>none
    else none
   |_=>none
  | .bptr id off=>match ti.desc,a,b,mx with
   | .arr n c _,none,none,none=>match z0f h id,r with
    | .row _,[_]=>bif Nat.beq c 1 then some ⟨true, .slice id 1 off n (some n),[]⟩ else none
    |_,_=>none
   | .arr n c _,a,b,none=>match z0f h id,r with
    | .row _,[_]=>bif Nat.beq c 1 then
      let h:=z4o b (p.ofNat n)
      let l:=z4o a 0
      some ⟨p.and (p.cmp .geq l 0) (p.and (p.cmp .leq l h) (p.cmp .leq h (p.ofNat n))), .slice id 1 (p.add off (p.nat l)) (p.sub (p.nat h) (p.nat l)) (some (p.sub n (p.nat l))),[]⟩ else none
    |_,_=>none
   |_,_,_,_=>none
  | .d (.str s)=>match ti.desc,mx with
   | .str,none=>
    let h:=z4o b (p.ofNat (p.slen s))
    let l:=z4o a 0
    some ⟨p.and (p.cmp .geq l 0) (p.and (p.cmp .leq l h) (p.cmp .leq h (p.ofNat (p.slen s)))), .d (.str (p.scut s (p.nat l) (p.nat h))),[]⟩
   |_,_=>none
  |_=>none
 |_,_,_=>none
def z7f (p:Prim) (ti:TI) (h:List AO) (d s:AV):Option Res:=
 match ti.desc with
 | .slc _ z _ _ _=>bif Nat.ble 1 z then match z2y p z h s,d with
  |some (c, .d b), .slice id a off len _=>bif Nat.beq z a then match z0f h id with
   | .row es=>some ⟨p.and c (p.and (p.leN (z7b p s) len) (p.leN (p.add off len) (p.len es))), .d (.int .i64 (p.ofNat (z7b p s))),[(id, .row (p.splice es off b))]⟩
   |_=>none
   else none
  |some (c, .d _), .d (.list _ _ [])=>some ⟨c, .d (.int .i64 0),[]⟩
  |_,_=>none
  else none
 |_=>none
def z56 (p:Prim) (ti:TI) (h:List AO) (x:AV):Option Res:=
 match ti.desc with
 | .slc _ z _ _ ez=>bif Nat.ble 1 z&&z7n (toA ez) then match x with
  | .slice id a off len _=>bif Nat.beq z a then match z0f h id with
   | .row es=>some ⟨p.leN (p.add off len) (p.len es), .tuple [],[(id, .row (p.splice es off (p.rep len ez)))]⟩
   |_=>none
   else none
  | .d (.list _ _ [])=>ok (.tuple [])
  |_=>none
  else none
 |_=>none
def y3e (p:Prim) (op:BinOp):List AV→Option Res
 |[.d (.int k a), .d (.int _ b)]=>ok (.d (.int k (p.mm op a b)))
 |[.d (.int k a), .d (.int _ b), .d (.int _ c)]=>ok (.d (.int k (p.mm op (p.mm op a b) c)))
 |[.d (.int k a)]=>ok (.d (.int k a))
 |_=>none
def x0z (c a b:AV):Option Res:=
 match c with
 | .d (.bool true)=>ok a
 | .d (.bool false)=>ok b
 |_=>none
def y1p (x:AV) (i:Nat):Option Res:=
 match x with
 | .tuple a=>(z19 a i).bind ok
 |_=>none
def y2m (k:IntKind):List D→Bool
 |[]=>true
 | .int a (.ofNat 0)::l=>(a==k)&&y2m k l
 |_=>false
def w3k (ti:TI):Option IntKind:=
 bif Nat.ble 20 ti.size then match ti.zero with
  | .int k _::_=>bif y2m k ti.zero then some k else none
  |_=>none
 else none
def y2l (p:Prim) (ti:TI) (new:Nat):Option Res:=
 bif Nat.ble 1 ti.size then match w3k ti with
  |some k=>some ⟨true, .bptr new 0,[(new, .row (p.rep ti.size [.int k 0]))]⟩
  |none=>some ⟨true, .bptr new 0,[(new, .box (toA ti.zero))]⟩
 else none
def y63:List D→Bool
 |[]=>true
 |x::l=>v5v x&&y63 l
def x02 (ti:TI) (new:Nat) (x:AV):Option Res:=
 bif Nat.ble 1 ti.size then match z2h x with
  |some l=>bif z8p l ti.size then match w3k ti with
    |some _=>match x2i l with
     |some ds=>bif y63 ds then some ⟨true, .bptr new 0,[(new, .row (w4r ds))]⟩ else none
     |none=>none
    |none=>some ⟨true, .bptr new 0,[(new, .box l)]⟩
   else none
  |none=>none
 else none
def x58:AV→Option Res
 | .bptr id off=>ok (.bptr id off)
 | .ptr id i off=>ok (.ptr id i off)
 | .wptr r off=>ok (.wptr r off)
 | .lptr r off=>ok (.lptr r off)
 |_=>none
def y2z (env:List (Nat×AV)):List (Nat×Operand)→List (Nat×AV)
 |[]=>[]
 |(i,x)::r=>(i,z0p env x)::y2z env r
def z9y (env:List (Nat×AV)):Option Operand→Option AV
 |none=>none
 |some x=>some (z0p env x)
def z6c (p:Prim) (ks:List SK) (ka:Bool) (k:D):List (D×D)→Nat→Option (Option (Nat×D))
 |[],_=>some none
 |(a,v)::r,i=>bif (z1t k==ka)&&(z1t a==ka) then match z1n p ks (z0v k) (z0v a) with
   |some true=>some (some (i,v))
   |some false=>z6c p ks ka k r (i+1)
   |none=>none
  else none
def z3t (p:Prim) (ti:TI) (h:List AO) (m k:AV):Option (Option (Nat×D)):=
 match ti.desc,k with
 | .map ks ka _, .d k=>bif (z1t k==ka)&&z1h ks (z0v k) then match m with
  | .d .nilm=>some none
  | .map id=>match z0f h id with
   | .map es=>z6c p ks ka k es 0
   |_=>none
  |_=>none
  else none
 |_,_=>none
def z5n (ti:TI) (q:Bool) (r:List D) (a:Bool):Option Res:=
 match ti.desc with
 | .map _ _ ez=>match q,r with
  |true,[_,v]=>ok (bif a then .tuple [.d v, .d (.bool true)] else .d v)
  |false,_=>ok (bif a then .tuple [.d ez, .d (.bool false)] else .d ez)
  |_,_=>none
 |_=>none
def z4x (p:Prim) (ti:TI) (h:List AO) (q:Bool) (r:List D) (m k x:AV):Option Res:=
 match ti.desc,m,k,x with
 | .map _ _ _, .map id, .d k, .d x=>match z0f h id with
  | .map es=>match q,r with
   |true,[.int _ i,_]=>some ⟨true, .bot,[(id, .map (p.mset es (p.nat i) k x))]⟩
   |false,_=>some ⟨true, .bot,[(id, .map (p.madd es k x))]⟩
   |_,_=>none
  |_=>none
 |_,_,_,_=>none
def z4y (p:Prim) (ti:TI) (h:List AO) (q:Bool) (r:List D) (m:AV):Option Res:=
 match ti.desc,m with
 | .map _ _ _, .map id=>match z0f h id with
  | .map es=>match q,r with
   |true,[.int _ i,_]=>some ⟨true, .tuple [],[(id, .map (p.mdel es (p.nat i)))]⟩
   |false,_=>some ⟨true, .tuple [],[(id, .map es)]⟩
   |_,_=>none
  |_=>none
 |_,_=>none
def z81 (new:Nat) (hint:Option AV):Option Res:=
 match hint with
 |none=>some ⟨true, .map new,[(new, .map [])]⟩
 |_=>none
def z1m (p:Prim) (T:TypeId→Option TI) (h:List AO) (new:Nat) (q:Bool) (r:List D) (b:Builtin) (ts:List TypeId) (xs:List AV):Option Res:=
 match b,ts,xs with
 | .len,[t],[x]=>match T t with
  |some ti=>w9n p ti h x
  |none=>none
 | .append,[t,c],[s,x]=>match T t,T c with
  |some ti,some a=>match a.desc with
   | .slc _ _ _ _ _=>z2q p ti h new q r s x
   |_=>none
  |_,_=>none
 | .copy,t::_,[d,x]=>match T t with
  |some ti=>z7f p ti h d x
  |none=>none
 | .delete,t::_,[m,_]=>match T t with
  |some ti=>z4y p ti h q r m
  |none=>none
 | .clear,t::_,[x]=>match T t with
  |some ti=>z56 p ti h x
  |none=>none
 | .min,_,xs=>y3e p .lss xs
 | .max,_,xs=>y3e p .gtr xs
 |_,_,_=>none
def y4r:AV→AV
 | .d (.ref r)=> .lptr r 0
 |x=>x
def pOf (p:Prim):Operand→Prim
 | .const _=>std
 |_=>p
def z9h (G:Nat→Option (List D)) (env:List (Nat×AV)):Operand→AV
 | .global g=>match G g with
  |some cells=> .lptr cells 0
  |none=> .bot
 |x=>z0p env x
def z94 (T:TypeId→Option TI):List Oper→List (Nat×AV)→List (Nat×List D)→List (Nat×List D)
 |[],_,a=>a
 |o::l,env,a=>match o.op,o.dst with
  | .build t b,some d=>match T t with
   |some ti=>match z93 ti (y2z env b.toList) with
    |some res=>z94 T l ((d,res.v)::env) a
    |none=>z94 T l env a
   |none=>z94 T l env a
  | .store _ (.global g) x,_=>match z0p env x with
   | .d (.agg cells)=>z94 T l env (bif y6i cells then (g,cells)::a else a)
   | .d d=>z94 T l env (bif z8l d then (g,[d])::a else a)
   |_=>z94 T l env a
  |_,_=>z94 T l env a
def w33 (T:TypeId→Option TI):Code→List (Nat×List D)→List (Nat×List D)
 | .seq a b,d=>w33 T b (w33 T a d)
 | .region _ ops _,d=>z94 T ops.toList [] d
 | .block _ c,d=>w33 T c d
 | .scope c,d=>w33 T c d
 |_,d=>d
def v5r:List (Nat×List D)→Nat→Option (List D)
 |[],_=>none
 |(g,c)::l,h=>bif Nat.beq g h then some c else v5r l h
def w3n (P:Program):List (Nat×List D):=
 match P.funcs.back? with
 |some f=>match f.body with
  |some c=>w33 (v8h P) c []
  |none=>[]
 |none=>[]
def y14 (P:Program) (g:Nat):Option (List D):=v5r (w3n P) g
def z01 (p:Prim) (T:TypeId→Option TI) (G:Nat→Option (List D)) (env:List (Nat×AV)) (h:List AO) (new:Nat) (q:Bool) (r:List D) (ra:List AV) (op:Op):Option Res:=
 match op with
 | .move x=>ok (z0p env x)
 | .assign x=>ok (z0p env x)
 | .pick c a b=>x0z (z0p env c) (z0p env a) (z0p env b)
 | .alloc t=>match T t with
  |some ti=>y2l p ti new
  |none=>none
 | .box t x=>match T t with
  |some ti=>x02 ti new (z0p env x)
  |none=>none
 | .build t g=>match T t with
  |some ti=>z93 ti (y2z env g.toList)
  |none=>none
 | .buildSlice t len g=>match T t with
  |some ti=>z3u ti new len (y2z env g.toList) r
  |none=>none
 | .load t a=>match T t with
  |some ti=>z4a ti h r ra (y4r (z9h G env a))
  |none=>none
 | .store t a x=>match T t with
  |some ti=>z45 p ti h r ra (z0p env a) (z0p env x)
  |none=>none
 | .nilCheck x=>x58 (y4r (z0p env x))
 | .binOp op t x y _=>match T t with
  |some ti=>bif v9o y then y0y p ti op (z0p env x) else bif v9n y then y46 ti op (z0p env x) else x03 p ti op (z0p env x) (z0p env y)
  |none=>none
 | .unOp op _ x=>x76 p op (z0p env x)
 | .convert s t x=>match T s,T t with
  |some d,some j=>match z83 p d j (z0p env x) with
   |some e=>some e
   |none=>z6v p T h d j (z0p env x)
  |_,_=>none
 | .makeFunc fn f c=>ok (.clo fn (z06 env f.toList) (z06 env c.toList))
 | .makeSlice t l c=>match T t with
  |some ti=>z6k p ti new (z0p env l) (z0p env c)
  |none=>none
 | .slice t x v w u=>match T t with
  |some ti=>z6u p ti h r (w98 ti (z0p env x)) (z9y env v) (z9y env w) (z9y env u)
  |none=>none
 | .fieldAddr t x f=>match T t with
  |some ti=>y2j ti f (y4r (z9h G env x))
  |none=>none
 | .field t x f=>match T t with
  |some ti=>z7e ti f (z0p env x)
  |none=>none
 | .indexAddr t x i=>match T t with
  |some ti=>z3f p (pOf p i) ti h r (z9h G env x) (z0p env i)
  |none=>none
 | .index t x i=>match T t with
  |some ti=>z7d p (pOf p i) ti (z0p env x) (z0p env i)
  |none=>none
 | .extract x i=>y1p (z0p env x) i
 | .call ⟨.builtin b,args,d⟩=>z1m p T h new q r b d.toList (z06 env args.toList)
 | .makeMap t n=>match T t with
  |some ti=>z81 new (z9y env n)
  |none=>none
 | .lookup t m k o=>match T t with
  |some ti=>match ti.desc with
   | .map _ _ _=>z5n ti q r o
   |_=>none
  |none=>none
 | .mapUpdate t m k x=>match T t with
  |some ti=>z4x p ti h q r (z0p env m) (z0p env k) (z0p env x)
  |none=>none
 |_=>none
inductive w28 where
 |none
 |d (es:List (List D)) (i:Nat)
 |n (es:List (List D)) (i n:Nat)
 |a (es:List (List AV)) (i:Nat)
 |b (x:Bool)
 |m (x:Option (Option (Nat×D)))
def z7u (h:List AO) (n:Nat):AV→w28
 | .bptr id off=>match z0f h id with
  | .row es=> .n es off n
  |_=> .none
 | .wptr es off=> .n es off n
 | .ptr id i _=>match z0f h id with
  | .row es=> .d es i
  | .arow es=> .a es i
  |_=> .none
 |_=> .none
def z4p (h:List AO):AV→w28
 | .bptr id off=>match z0f h id with
  | .row es=> .n es off 1
  |_=> .none
 |_=> .none
def u5l (T:TypeId→Option TI) (t:TypeId):Nat:=
 match T t with
 |some ti=>ti.size
 |none=>0
def w3l (p:Prim):AV→AV→w28
 | .d (.list _ _ es), .d (.int _ i)=> .d es (p.nat i)
 |_,_=> .none
def w3m (x:Option Bool):w28:=
 match x with
 |some b=> .b b
 |none=> .none
def y2g (p:Prim) (T:TypeId→Option TI) (t:TypeId) (h:List AO) (m k:AV):w28:=
 match T t with
 |some ti=> .m (z3t p ti h m k)
 |none=> .m none
def z1q (p:Prim) (T:TypeId→Option TI) (env:List (Nat×AV)) (h:List AO) (op:Op):w28:=
 match op with
 | .load t a=>z7u h (u5l T t) (y4r (z0p env a))
 | .store _ a _=>z7u h 1 (z0p env a)
 | .slice _ x _ _ _=>z4p h (z0p env x)
 | .indexAddr _ x i=>w3l p (z0p env x) (z0p env i)
 | .call ⟨.builtin .append,args,_⟩=>match z06 env args.toList with
  |[s,x]=>w3m (z3n p s x)
  |_=> .none
 | .call ⟨.builtin .delete,args,b⟩=>match b.toList,z06 env args.toList with
  |t::_,[m,k]=>y2g p T t h m k
  |_,_=> .m none
 | .lookup t m k _=>y2g p T t h (z0p env m) (z0p env k)
 | .mapUpdate t m k _=>y2g p T t h (z0p env m) (z0p env k)
 |_=> .none
def y4c (es:List (List D)) (i:Nat) (r:List D):Prop:=∀ (j:Nat) (x:D),r[j]?=some x→w7s es (i+j) [x]
def w28.ok (q:Bool) (r:List D) (ra:List AV):w28→Prop
 | .none=>True
 | .d es i=>w7s es i r
 | .n es i _=>y4c es i r
 | .a es i=>es[i]?=some ra
 | .b x=>x=q
 | .m x=>(x=some Option.none∧q=false)∨∃ i v c,x=some (some (i,v))∧t1n v c∧q=true∧r=[.int .i64 (i:Nat),c]
end Go.Am
end
section
namespace Go.Am
variable {P:Program}
def v8y:Code→Bool→Option Code
 | .seq a _,false=>some a
 | .seq _ b,true=>some b
 | .cond _ a _,false=>some a
 | .cond _ _ b,true=>some b
 | .block _ c,false=>some c
 | .loop c,false=>some c
 | .scope c,false=>some c
 | .rangeFunc _ _ a _,false=>some a
 | .rangeFunc _ _ _ b,true=>some b
 |_,_=>none
def v3t (P:Program) (g:Nat):Option Code:=(P.funcs[g]?).bind (·.body)
def z1v (P:Program) (g:Nat):List Bool→Option Code
 |[]=>v3t P g
 |b::l=>(z1v P g l).bind (v8y · b)
def z34 (en:Array MapEntry) (a:Nat):Prop:=(∀ x∈en.toList,x.born<a)∧(en.toList.map (·.born)).Nodup
theorem z34.empty (a:Nat):z34 #[] a:=⟨by simp,by simp⟩
theorem z34.push {en:Array MapEntry} {c:Nat} (h:z34 en c) (k v:Value):z34 (en.push { key:=k,val:=v,born:=c }) (c+1):=by
 refine ⟨fun x d=>?_,?_⟩
 ·simp only [Array.toList_push,eCb,eBh] at d
  rcases d with d|rfl
  ·exact Nat.lt_succ_of_lt (h.1 x d)
  ·exact Nat.lt_succ_self _
 ·simp only [Array.toList_push,eFf,eDq,List.map_nil]
  refine eDw.2 ⟨h.2,by simp,fun a f b e=>?_⟩
  obtain ⟨x,d,rfl⟩:=eBe.1 f
  simp only [eBh] at e
  subst e
  exact Nat.ne_of_lt (h.1 x d)
theorem z34.modify {en:Array MapEntry} {a:Nat} (h:z34 en a) (i:Nat) (k v:Value):z34 (en.modify i fun e=>{ key:=k,val:=v,born:=e.born }) a:=by
 have c:(en.modify i fun e=>{ key:=k,val:=v,born:=e.born }).toList.map (·.born)=en.toList.map (·.born):=by
  apply eBt
  intro j
  simp only [eAf,eAl,eDb]
  split
  ·rename_i b; subst b; cases en[i]?<;>rfl
  ·rfl
 refine ⟨fun x f=>?_,by rw [c]; exact h.2⟩
 have:x.born∈en.toList.map (·.born):=by rw [←c]; exact eBe.2 ⟨x,f,rfl⟩
 obtain ⟨y,d,e⟩:=eBe.1 this
 rw [←e]; exact h.1 y d
theorem z34.erase {en:Array MapEntry} {a:Nat} (h:z34 en a) (i:Nat):z34 (en.eraseIdxIfInBounds i) a:=by
 have d:(en.eraseIdxIfInBounds i).toList=en.toList.eraseIdx i:=by
  unfold Array.eraseIdxIfInBounds
  split
  ·simp
  ·rename_i b; rw [List.eraseIdx_of_length_le (by simpa using b)]
 refine ⟨fun x c=>h.1 x ?_,?_⟩
 ·rw [d] at c; exact List.mem_of_mem_eraseIdx c
 ·rw [d]; exact h.2.sublist ((List.eraseIdx_sublist _ _).map _)
def z1c (P:Program) (ρ:Rho) (O:Nat→Prop) (w:World) (L:Loc):AO→Prop
 | .dead=>True
 | .box cells=>L.base=0∧∃ (c:Array Value) (t:TypeId),w.heap[L.blk]?=some (.cells c t (0,0))∧∀ (j:Nat) (x:AV),cells[j]?=some x→∃ v:Value,c[L.base+j]?=some v∧z0n ρ O w x v
 | .row es=>0<L.esz∧∃ (c:Array Value) (t:TypeId),w.heap[L.blk]?=some (.cells c t (0,0))∧(∀ (i:Nat) (r:List D),es[i]?=some r→r.length=L.esz)∧
   ∀ (i:Nat) (r:List D) (j:Nat) (x:D),es[i]?=some r→r[j]?=some x→∃ v:Value,c[L.base+i*L.esz+j]?=some v∧v.oneCell'=true∧z1k O w x v
 | .arow es=>0<L.esz∧∃ (c:Array Value) (t:TypeId),w.heap[L.blk]?=some (.cells c t (0,0))∧(∀ (i:Nat) (r:List AV),es[i]?=some r→r.length=L.esz)∧
   ∀ (i:Nat) (r:List AV) (j:Nat) (x:AV),es[i]?=some r→r[j]?=some x→∃ v:Value,c[L.base+i*L.esz+j]?=some v∧v.oneCell'=true∧z0n ρ O w x v
 | .map es=>∃ (en:Array MapEntry) (a:Nat),w.heap[L.blk]?=some (.map en a)∧(en.size=es.length∧z34 en a)∧
   ∀ (i:Nat) (k x:D),es[i]?=some (k,x)→∃ e:MapEntry,en[i]?=some e∧z1k O w k e.key∧z1k O w x e.val
 | .loop st h g pos nt env=>∃ (x:Operand) (d:Array Tmp) (b body:Code),z1v P g pos=some (.rangeFunc x d b body)∧∃ (tm:Array Value) (ds:Nat) (f:FuncId),w.heap[L.blk]?=some (.loop { state:=st,pending:=h,fn:=f,tmps:=tm,params:=d,assign:=b,body:=body,defers:=ds })∧
   tm.size=nt∧∀ t,z0n ρ O w (z00 env t) (tm.getD t undef)
def y1e (P : Program) (g : Nat) : Option Bool :=
 if P.globalNamed "internal/bytealg.MaxLen" = some g then some true
 else if P.globalNamed "strconv.ErrSyntax" = some g ∨ P.globalNamed "strconv.ErrRange" = some g then some false else none
def u2w:Bool→Value→Prop
 |true,v=>∃ n,v= .int .i64 n
 |false,v=>v= .nilIface∨∃ t p,v= .iface t p
structure GL (P:Program) (O:Nat→Prop) (w:World):Prop where
 lay:∀ (g:Nat) (cells:List D),y14 P g=some cells→g<w.heap.size∧¬ O g∧z1a w g=some cells.length∧
  ∀ (k:Nat) (x:D),cells[k]?=some x→∃ v,w.cell? ⟨g,k,none⟩=some v∧∀ (O':Nat→Prop) (w':World),z1k O' w' x v
 shp:∀ (g:Nat) (b:Bool),y1e P g=some b→g<w.heap.size∧¬ O g∧∃ v,w.cell? ⟨g,0,none⟩=some v∧u2w b v
theorem GL.keep {O O':Nat→Prop} {w w':World} (k:z43 O O' w w') (h:GL P O w):GL P O' w' where
 lay:=fun g cells hg=>by
  obtain ⟨a,b,s,c⟩:=h.lay g cells hg
  refine ⟨eAp a k.size,fun ho=>b (k.own g a ho),k.shape _ _ s,fun j x hx=>?_⟩
  obtain ⟨v,hv,hd⟩:=c j x hx
  exact ⟨v,by rw [z2m (w:=w) (a:=⟨g,j,none⟩) (k.frame g a b)]; exact hv,hd⟩
 shp:=fun g b hg=>by
  obtain ⟨a,b,v,hv,hs⟩:=h.shp g b hg
  exact ⟨eAp a k.size,fun ho=>b (k.own g a ho),v,by rw [z2m (w:=w) (a:=⟨g,0,none⟩) (k.frame g a b)]; exact hv,hs⟩
theorem GL.none {O:Nat→Prop} {w:World} (h:w3n P=[]) (h2:∀ g,y1e P g=Option.none):GL P O w where
 lay:=fun g cells hg=>by
  unfold y14 at hg
  rw [h] at hg
  cases hg
 shp:=fun g b hg=>by rw [h2 g] at hg; cases hg
theorem GL.sub {O O':Nat→Prop} {w:World} (hs:∀ b,O' b→O b) (h:GL P O w):GL P O' w where
 lay:=fun g cells hg=>by
  obtain ⟨a,b,c⟩:=h.lay g cells hg
  exact ⟨a,fun ho=>b (hs g ho),c⟩
 shp:=fun g b hg=>by
  obtain ⟨a,b,c⟩:=h.shp g b hg
  exact ⟨a,fun ho=>b (hs g ho),c⟩
structure z0b (P:Program) (ρ:Rho) (h:List AO) (w:World):Prop where
 obj:∀ id L,ρ id=some L→L.blk<w.heap.size∧z1c P ρ (z0d ρ h) w L (z0f h id)
 inj:∀ id id' L L',ρ id=some L→ρ id'=some L'→(z0f h id).live=true→(z0f h id').live=true→L.blk=L'.blk→id=id'
 fr:∀ b,ρ.fr b→b<w.heap.size
 sep:∀ id L,ρ id=some L→(z0f h id).live=true→¬ ρ.fr L.blk
 gl:GL P (z0d ρ h) w
theorem z1c.keep {ρ ρ':Rho} {O O':Nat→Prop} {w w':World} (k:z43 O O' w w') (u:∀ id L,ρ id=some L→ρ' id=some L) {L:Loc} {o:AO}
  (p:w'.heap[L.blk]?=w.heap[L.blk]?) (h:z1c P ρ O w L o):z1c P ρ' O' w' L o:=by
 cases o with
 |dead=>trivial
 |box cells=>
  obtain ⟨B,c,t,b,a⟩:=h
  refine ⟨B,c,t,p▸b,fun j x d=>?_⟩
  obtain ⟨v,m,n⟩:=a j x d
  exact ⟨v,m,n.keep k u⟩
 |row es=>
  obtain ⟨y,c,t,b,l,a⟩:=h
  refine ⟨y,c,t,p▸b,l,fun i r j x z d=>?_⟩
  obtain ⟨v,m,q,n⟩:=a i r j x z d
  exact ⟨v,m,q,n.keep k⟩
 |arow es=>
  obtain ⟨y,c,t,b,l,a⟩:=h
  refine ⟨y,c,t,p▸b,l,fun i r j x z d=>?_⟩
  obtain ⟨v,m,q,n⟩:=a i r j x z d
  exact ⟨v,m,q,n.keep k u⟩
 |map es=>
  obtain ⟨I,C,b,l,a⟩:=h
  refine ⟨I,C,p▸b,l,fun i G x d=>?_⟩
  obtain ⟨e,he,q,H⟩:=a i G x d
  exact ⟨e,he,q.keep k,H.keep k⟩
 |loop st J g pos K env=>
  obtain ⟨x,F,E,s,A,tm,ds,f,b,l,a⟩:=h
  exact ⟨x,F,E,s,A,tm,ds,f,p▸b,l,fun t=>(a t).keep k u⟩
structure Ext (S:Nat→Prop) (ρ:Rho) (h:List AO) (w:World) (ρ':Rho) (h':List AO) (w':World):Prop where
 os:w'.os=w.os
 tape:w'.tape=w.tape
 output:w'.output=w.output
 keep:z43 (z0d ρ h) (z0d ρ' h') w w'
 rho:∀ id,S id→ρ' id=ρ id
 fr:ρ'.fr=ρ.fr
 frs:∀ b,ρ.fr b→w'.heap[b]?=w.heap[b]?
theorem Ext.refl (S:Nat→Prop) (ρ:Rho) (h:List AO) (w:World):Ext S ρ h w ρ h w:=⟨rfl,rfl,rfl,z43.refl _ _,fun _ _=>rfl,rfl,fun _ _=>rfl⟩
theorem z43.trans {O O' O'':Nat→Prop} {w w' w'':World} (a:z43 O O' w w') (b:z43 O' O'' w' w''):z43 O O'' w w'' where
 size:=eBk a.size b.size
 frame:=fun k hk ho=>by
  rw [b.frame k (eAp hk a.size) (fun h=>ho (a.own k hk h))]
  exact a.frame k hk ho
 own:=fun k hk h=>a.own k hk (b.own k (eAp hk a.size) h)
 shape:=fun k n h=>b.shape _ _ (a.shape _ _ h)
 drawn:=z0u.trans a.drawn b.drawn
theorem Ext.trans {S:Nat→Prop} {ρ ρ' c:Rho} {h h' e:List AO} {w w' d:World} (a:Ext S ρ h w ρ' h' w') (b:Ext S ρ' h' w' c e d):Ext S ρ h w c e d:=
 ⟨b.os.trans a.os,b.tape.trans a.tape,b.output.trans a.output,a.keep.trans b.keep,fun id f=>(b.rho id f).trans (a.rho id f),b.fr.trans a.fr,
  fun k g=>(b.frs k (by rw [a.fr]; exact g)).trans (a.frs k g)⟩
theorem Ext.mono {S S':Nat→Prop} {ρ ρ':Rho} {h h':List AO} {w w':World} (b:∀ id,S' id→S id) (a:Ext S ρ h w ρ' h' w'):Ext S' ρ h w ρ' h' w':=
 ⟨a.os,a.tape,a.output,a.keep,fun id h=>a.rho id (b id h),a.fr,a.frs⟩
theorem Ext.drawn (S:Nat→Prop) (ρ:Rho) (h:List AO) (w:World) (n:Nat) (a:z0u w.drawn n):Ext S ρ h w ρ h { w with drawn:=n }:=
 ⟨rfl,rfl,rfl,⟨eAj _,fun _ _ _=>rfl,fun _ _ h=>h,fun _ _ h=>h,a⟩,fun _ _=>rfl,rfl,fun _ _=>rfl⟩
theorem z0b.of_keep {ρ:Rho} {h:List AO} {w w':World} (hr:z0b P ρ h w) (k:z43 (z0d ρ h) (z0d ρ h) w w') (hb:∀ b,z0d ρ h b→w'.heap[b]?=w.heap[b]?):z0b P ρ h w' where
 obj:=fun id L hL=>by
  obtain ⟨h1,h2⟩:=hr.obj id L hL
  refine ⟨eAp h1 k.size,?_⟩
  by_cases hl:(z0f h id).live=true
  ·exact h2.keep k (fun _ _ h=>h) (hb _ (.inr ⟨id,L,hL,hl,rfl⟩))
  ·cases ho:z0f h id<;>simp_all [AO.live,z1c]
 inj:=hr.inj
 fr:=fun b hf=>eAp (hr.fr b hf) k.size
 sep:=hr.sep
 gl:=hr.gl.keep k
theorem z0b.drawn {ρ:Rho} {h:List AO} {w:World} (hr:z0b P ρ h w) (n:Nat) (a:z0u w.drawn n):z0b P ρ h { w with drawn:=n }:=
 hr.of_keep (Ext.drawn (fun _=>True) ρ h w n a).keep (fun _ _=>rfl)
def Rho.put (ρ:Rho) (id:Nat) (L:Loc):Rho:=⟨fun j=>if j=id then some L else ρ j,ρ.fr⟩
theorem Rho.put_same (ρ:Rho) (id:Nat) (L:Loc):ρ.put id L id=some L:=by simp [Rho.put]
theorem Rho.put_ne (ρ:Rho) (id j:Nat) (L:Loc) (h:j≠id):ρ.put id L j=ρ j:=by simp [Rho.put,h]
theorem Rho.put_mono (ρ:Rho) (id:Nat) (L:Loc) (h:ρ id=none):∀ j M,ρ j=some M→ρ.put id L j=some M:=by
 intro j M a
 rw [Rho.put_ne]
 ·exact a
 ·rintro rfl; rw [h] at a; cases a
def World.push (w:World) (o:Obj):World:={ w with heap:=w.heap.push o }
theorem z6l (w:World) (o:Obj) (b:Nat) (a:b<w.heap.size):(World.push w o).heap[b]?=w.heap[b]?:=by
 show (w.heap.push o)[b]?=_
 rw [Array.getElem?_push,if_neg (by omega)]
theorem z4c (w:World) (o:Obj):(World.push w o).heap[w.heap.size]?=some o:=by
 show (w.heap.push o)[w.heap.size]?=_
 simp
theorem z8i (w:World) (o:Obj):(World.push w o).heap.size=w.heap.size+1:=by
 show (w.heap.push o).size=_
 simp
theorem z7s {w:World} {b n:Nat} (h:z1a w b=some n):b<w.heap.size:=by
 unfold z1a at h
 cases a:w.heap[b]? with
 |none=>simp [a] at h
 |some o=>exact (eAe.1 a).1
theorem x3x {ρ:Rho} {h:List AO} {w:World} (hr:z0b P ρ h w) {new:Nat} (e:ρ new=none) (L:Loc) (o:AO) (b:Nat):
  z0d (ρ.put new L) (z03 h new o) b→z0d ρ h b∨b=L.blk:=by
 rintro (d|⟨id,M,a,c,rfl⟩)
 ·exact .inl (.inl d)
 ·by_cases he:id=new
  ·subst he; rw [Rho.put_same] at a; cases a; exact .inr rfl
  ·rw [Rho.put_ne _ _ _ _ he] at a; rw [z0c _ _ _ _ (Ne.symm he)] at c; exact .inl (.inr ⟨id,M,a,c,rfl⟩)
theorem z7i {ρ:Rho} {h:List AO} {w:World} (hr:z0b P ρ h w) {b:Nat} (c:z0d ρ h b):b<w.heap.size:=by
 rcases c with a|⟨id,L,d,_,rfl⟩
 ·exact hr.fr b a
 ·exact (hr.obj id L d).1
theorem z65 {ρ:Rho} {h:List AO} {w:World} (hr:z0b P ρ h w) {new:Nat} (hn:ρ new=none) (L:Loc) (o:AO) (x:Obj) (hL:L.blk=w.heap.size):
  z43 (z0d ρ h) (z0d (ρ.put new L) (z03 h new o)) w (World.push w x) where
 size:=by rw [z8i]; omega
 frame:=fun b hb _=>z6l _ _ _ hb
 own:=fun b hb ho=>by
  rcases x3x hr hn L o b ho with h|h
  ·exact h
  ·omega
 shape:=fun b n hb=>by
  have:=z7s hb
  unfold z1a; rw [z6l _ _ _ this]; exact hb
 drawn:=z0u.refl _
theorem z0b.new {ρ:Rho} {h:List AO} {w:World} (hr:z0b P ρ h w) {new:Nat} (hn:ρ new=none) (esz:Nat) (o:AO) (x:Obj)
  (ho:z1c P (ρ.put new ⟨w.heap.size,0,esz⟩) (z0d (ρ.put new ⟨w.heap.size,0,esz⟩) (z03 h new o)) (World.push w x) ⟨w.heap.size,0,esz⟩ o):
  z0b P (ρ.put new ⟨w.heap.size,0,esz⟩) (z03 h new o) (World.push w x) where
 obj:=fun id L hL=>by
  by_cases he:id=new
  ·subst he
   rw [Rho.put_same] at hL; cases hL
   rw [z0h]
   exact ⟨by rw [z8i]; simp,ho⟩
  ·rw [Rho.put_ne _ _ _ _ he] at hL
   obtain ⟨h1,h2⟩:=hr.obj id L hL
   rw [z0c _ _ _ _ (Ne.symm he)]
   exact ⟨by rw [z8i]; omega,h2.keep (z65 hr hn _ o x rfl) (Rho.put_mono _ _ _ hn) (z6l _ _ _ h1)⟩
 inj:=fun id id' L L' h1 h2 l1 l2 hb=>by
  by_cases e1:id=new
  ·subst e1
   by_cases e2:id'=id
   ·exact e2.symm
   ·rw [Rho.put_same] at h1; cases h1
    rw [Rho.put_ne _ _ _ _ e2] at h2
    have:=(hr.obj id' L' h2).1
    simp at hb; omega
  ·by_cases e2:id'=new
   ·subst e2
    rw [Rho.put_same] at h2; cases h2
    rw [Rho.put_ne _ _ _ _ e1] at h1
    have:=(hr.obj id L h1).1
    simp at hb; omega
   ·rw [Rho.put_ne _ _ _ _ e1] at h1
    rw [Rho.put_ne _ _ _ _ e2] at h2
    rw [z0c _ _ _ _ (Ne.symm e1)] at l1
    rw [z0c _ _ _ _ (Ne.symm e2)] at l2
    exact hr.inj id id' L L' h1 h2 l1 l2 hb
 fr:=fun b hf=>by rw [z8i]; have:=hr.fr b hf; omega
 sep:=fun id L hL hl hf=>by
  by_cases he:id=new
  ·subst he; rw [Rho.put_same] at hL; cases hL
   have:=hr.fr _ hf; simp at this
  ·rw [Rho.put_ne _ _ _ _ he] at hL; rw [z0c _ _ _ _ (Ne.symm he)] at hl
   exact hr.sep id L hL hl hf
 gl:=hr.gl.keep (z65 hr hn _ o x rfl)
theorem Ext.new {ρ:Rho} {h:List AO} {w:World} (hr:z0b P ρ h w) {new:Nat} (a:ρ new=none) (L:Loc) (o:AO) (x:Obj) (d:L.blk=w.heap.size):
  Ext (fun id=>id≠new) ρ h w (ρ.put new L) (z03 h new o) (World.push w x):=
 ⟨rfl,rfl,rfl,z65 hr a L o x d,fun id hid=>Rho.put_ne _ _ _ _ hid,rfl,fun b c=>z6l _ _ _ (hr.fr b c)⟩
theorem y9u (O:Nat→Prop) (w:World) (x:Obj) (hO:∀ b,O b→b<w.heap.size):z43 O O w (World.push w x) where
 size:=by rw [z8i]; omega
 frame:=fun b hb _=>z6l _ _ _ hb
 own:=fun b hb ho=>ho
 shape:=fun b n hb=>by
  have:=z7s hb
  unfold z1a; rw [z6l _ _ _ this]; exact hb
 drawn:=z0u.refl _
theorem z0b.push0 {ρ:Rho} {h:List AO} {w:World} (hr:z0b P ρ h w) (x:Obj):z0b P ρ h (World.push w x):=
 hr.of_keep (y9u _ _ _ fun _=>z7i hr) fun b a=>z6l _ _ _ (z7i hr a)
theorem Ext.push0 (S:Nat→Prop) {ρ:Rho} {h:List AO} {w:World} (hr:z0b P ρ h w) (x:Obj):Ext S ρ h w ρ h (World.push w x):=
 ⟨rfl,rfl,rfl,y9u _ _ _ fun _=>z7i hr,fun _ _=>rfl,rfl,fun b a=>z6l _ _ _ (hr.fr b a)⟩
def World.setObj (w:World) (b:Nat) (o:Obj):World:={ w with heap:=w.heap.setIfInBounds b o }
theorem z15 (w:World) (b k:Nat) (o:Obj) (h:k≠b):(World.setObj w b o).heap[k]?=w.heap[k]?:=by
 show (w.heap.setIfInBounds b o)[k]?=_
 rw [eDc]; simp [Ne.symm h]
theorem z0t (w:World) (b:Nat) (o:Obj) (h:b<w.heap.size):(World.setObj w b o).heap[b]?=some o:=by
 show (w.heap.setIfInBounds b o)[b]?=_
 rw [eDc]; simp [h]
theorem z10 (w:World) (b:Nat) (o:Obj):(World.setObj w b o).heap.size=w.heap.size:=by
 show (w.heap.setIfInBounds b o).size=_
 simp
theorem x1k {ρ:Rho} {h:List AO} {id:Nat} (o:AO) (f:(z0f h id).live=true) (e:o.live=true) (b:Nat):z0d ρ (z03 h id o) b↔z0d ρ h b:=by
 constructor
 ·rintro (d|⟨j,M,a,c,rfl⟩)
  ·exact .inl d
  by_cases he:j=id
  ·subst he; exact .inr ⟨j,M,a,f,rfl⟩
  ·rw [z0c _ _ _ _ (Ne.symm he)] at c; exact .inr ⟨j,M,a,c,rfl⟩
 ·rintro (d|⟨j,M,a,c,rfl⟩)
  ·exact .inl d
  by_cases he:j=id
  ·subst he; exact .inr ⟨j,M,a,by rw [z0h]; exact e,rfl⟩
  ·exact .inr ⟨j,M,a,by rw [z0c _ _ _ _ (Ne.symm he)]; exact c,rfl⟩
theorem z12 {ρ:Rho} {h:List AO} {w:World} (hr:z0b P ρ h w) {id:Nat} {L:Loc} (hL:ρ id=some L) (hl:(z0f h id).live=true) (o:AO) (ho:o.live=true) (x:Obj)
  (hs:∀ n,z1a w L.blk=some n→z1a (World.setObj w L.blk x) L.blk=some n):
  z43 (z0d ρ h) (z0d ρ (z03 h id o)) w (World.setObj w L.blk x) where
 size:=by rw [z10]; omega
 frame:=fun b hb hn=>z15 _ _ _ _ (fun e=>hn (e▸ .inr ⟨id,L,hL,hl,rfl⟩))
 own:=fun b _ hb=>(x1k o hl ho b).1 hb
 shape:=fun b n hb=>by
  by_cases he:b=L.blk
  ·subst he; exact hs n hb
  ·unfold z1a; rw [z15 _ _ _ _ he]; exact hb
 drawn:=z0u.refl _
theorem z0b.set {ρ:Rho} {h:List AO} {w:World} (hr:z0b P ρ h w) {id:Nat} {L:Loc} (hL:ρ id=some L) (hl:(z0f h id).live=true) (o:AO) (ho:o.live=true) (x:Obj)
  (hs:∀ n,z1a w L.blk=some n→z1a (World.setObj w L.blk x) L.blk=some n)
  (hx:z1c P ρ (z0d ρ (z03 h id o)) (World.setObj w L.blk x) L o):z0b P ρ (z03 h id o) (World.setObj w L.blk x) where
 obj:=fun j M hM=>by
  obtain ⟨h1,h2⟩:=hr.obj j M hM
  refine ⟨by rw [z10]; exact h1,?_⟩
  by_cases he:j=id
  ·subst he; rw [hL] at hM; cases hM; rw [z0h]; exact hx
  ·rw [z0c _ _ _ _ (Ne.symm he)]
   by_cases hlj:(z0f h j).live=true
   ·exact h2.keep (z12 hr hL hl o ho x hs) (fun _ _ h=>h) (z15 _ _ _ _ (fun e=>he (hr.inj j id M L hM hL hlj hl e)))
   ·cases hjo:z0f h j<;>simp_all [AO.live,z1c]
 inj:=fun i j M N h1 h2 l1 l2 hb=>by
  refine hr.inj i j M N h1 h2 ?_ ?_ hb
  ·by_cases he:i=id
   ·subst he; exact hl
   ·rwa [z0c _ _ _ _ (Ne.symm he)] at l1
  ·by_cases he:j=id
   ·subst he; exact hl
   ·rwa [z0c _ _ _ _ (Ne.symm he)] at l2
 fr:=fun b hf=>by rw [z10]; exact hr.fr b hf
 sep:=fun j M hM hj hf=>by
  refine hr.sep j M hM ?_ hf
  by_cases he:j=id
  ·subst he; exact hl
  ·rwa [z0c _ _ _ _ (Ne.symm he)] at hj
 gl:=hr.gl.keep (z12 hr hL hl o ho x hs)
theorem Ext.set (S:Nat→Prop) {ρ:Rho} {h:List AO} {w:World} (hr:z0b P ρ h w) {id:Nat} {L:Loc} (c:ρ id=some L) (a:(z0f h id).live=true) (o:AO) (f:o.live=true) (x:Obj)
  (d:∀ n,z1a w L.blk=some n→z1a (World.setObj w L.blk x) L.blk=some n):Ext S ρ h w ρ (z03 h id o) (World.setObj w L.blk x):=
 ⟨rfl,rfl,rfl,z12 hr c a o f x d,fun _ _=>rfl,rfl,fun b g=>z15 _ _ _ _ (fun e=>hr.sep id L c a (e▸g))⟩
theorem y6m {ρ:Rho} {h:List AO} {id:Nat} (b:Nat) (d:z0d ρ (z03 h id .dead) b):z0d ρ h b:=by
 rcases d with c|⟨j,M,e,a,rfl⟩
 ·exact .inl c
 by_cases he:j=id
 ·subst he; rw [z0h] at a; cases a
 ·rw [z0c _ _ _ _ (Ne.symm he)] at a; exact .inr ⟨j,M,e,a,rfl⟩
theorem z0b.kill {ρ:Rho} {h:List AO} {w:World} (hr:z0b P ρ h w) (id:Nat):z0b P ρ (z03 h id .dead) w where
 obj:=fun j M hM=>by
  obtain ⟨h1,h2⟩:=hr.obj j M hM
  refine ⟨h1,?_⟩
  by_cases he:j=id
  ·subst he; rw [z0h]; trivial
  ·rw [z0c _ _ _ _ (Ne.symm he)]
   exact h2.keep ⟨eAj _,fun _ _ _=>rfl,fun b _ hb=>y6m b hb,fun _ _ h=>h,z0u.refl _⟩ (fun _ _ h=>h) rfl
 inj:=fun i j M N h1 h2 l1 l2 hb=>by
  refine hr.inj i j M N h1 h2 ?_ ?_ hb
  ·by_cases he:i=id
   ·subst he; rw [z0h] at l1; cases l1
   ·rwa [z0c _ _ _ _ (Ne.symm he)] at l1
  ·by_cases he:j=id
   ·subst he; rw [z0h] at l2; cases l2
   ·rwa [z0c _ _ _ _ (Ne.symm he)] at l2
 fr:=hr.fr
 sep:=fun j M hM hj hf=>by
  refine hr.sep j M hM ?_ hf
  by_cases he:j=id
  ·subst he; rw [z0h] at hj; cases hj
  ·rwa [z0c _ _ _ _ (Ne.symm he)] at hj
 gl:=hr.gl.sub fun b hb=>y6m b hb
theorem Ext.kill (S:Nat→Prop) (ρ:Rho) (h:List AO) (w:World) (id:Nat):Ext S ρ h w ρ (z03 h id .dead) w:=
 ⟨rfl,rfl,rfl,⟨eAj _,fun _ _ _=>rfl,fun b _ a=>y6m b a,fun _ _ h=>h,z0u.refl _⟩,fun _ _=>rfl,rfl,fun _ _=>rfl⟩
end Go.Am
end
section
namespace Go.Am
theorem z3k {α:Type} {l:List α} {i n:Nat} {r:List α} (h:part l i n=some r):r.length=n∧∀ j,j<n→l[i+j]?=r[j]?:=by
 induction l generalizing i n r with
 |nil=>cases i<;>cases n<;>simp [part] at h; subst h; simp
 |cons x l d=>
  cases i with
  |zero=>cases n with
   |zero=>simp [part] at h; subst h; simp
   |succ n=>
    simp only [part] at h
    cases a:part l 0 n with
    |none=>simp [a] at h
    |some q=>
     simp [a] at h; subst h
     obtain ⟨c,b⟩:=d a
     refine ⟨by simp [c],fun j e=>?_⟩
     cases j with
     |zero=>simp
     |succ j=>have:=b j (by omega); simp only [eAq] at this⊢; simpa using this
  |succ i=>
   simp only [part] at h
   obtain ⟨c,b⟩:=d h
   refine ⟨c,fun j e=>?_⟩
   rw [show i+1+j=(i+j)+1 by omega]
   simpa using b j e
theorem y0a {α:Type} {l xs r:List α} {i:Nat} (h:x6u l i xs=some r):
  r.length=l.length∧i+xs.length≤l.length∧∀ j,r[j]?=if i≤j∧j<i+xs.length then xs[j - i]? else l[j]?:=by
 induction l generalizing i xs r with
 |nil=>cases i<;>cases xs<;>simp [x6u] at h; subst h; simp
 |cons y l f=>
  cases i with
  |zero=>cases xs with
   |nil=>simp [x6u] at h; subst h; simp
   |cons x xs=>
    simp only [x6u] at h
    cases a:x6u l 0 xs with
    |none=>simp [a] at h
    |some q=>
     simp [a] at h; subst h
     obtain ⟨e,d,c⟩:=f a
     refine ⟨by simp [e],by simp at d⊢; omega,fun j=>?_⟩
     cases j with
     |zero=>simp
     |succ j=>
      have:=c j
      simp only [eDf,this,eBn]
      by_cases b:j<xs.length
      ·rw [if_pos ⟨by omega,by omega⟩,if_pos ⟨by omega,by omega⟩]; simp
      ·rw [if_neg (by omega),if_neg (by omega)]
  |succ i=>
   simp only [x6u] at h
   cases a:x6u l i xs with
   |none=>simp [a] at h
   |some q=>
    simp [a] at h; subst h
    obtain ⟨e,d,c⟩:=f a
    refine ⟨by simp [e],by simp at d⊢; omega,fun j=>?_⟩
    cases j with
    |zero=>rw [if_neg (by omega)]; simp
    |succ j=>
     have:=c j
     simp only [eDf,this]
     by_cases b:i≤j∧j<i+xs.length
     ·rw [if_pos b,if_pos (by omega)]; congr 1; omega
     ·rw [if_neg b,if_neg (by omega)]
theorem z8o {α:Type} {l:List α} {n:Nat} (h:z8p l n=true):l.length=n:=by
 induction l generalizing n with
 |nil=>cases n<;>simp [z8p] at h⊢
 |cons x l a=>cases n with
  |zero=>simp [z8p] at h
  |succ n=>simpa using a (by simpa [z8p] using h)
theorem z1s {α:Type} (l:List α) (i:Nat):z19 l i=l[i]?:=by
 induction l generalizing i with
 |nil=>simp [z19]
 |cons x l a=>cases i<;>simp [z19,a]
theorem z1l (l:List D) (j:Nat):(toA l)[j]?=(l[j]?).map AV.d:=by
 induction l generalizing j with
 |nil=>simp [toA]
 |cons x l a=>cases j<;>simp [toA,a]
theorem z0z (l:List D):(toA l).length=l.length:=by
 induction l with
 |nil=>rfl
 |cons x l a=>simp [toA,a]
theorem z17 {l:List AV} {ds:List D} (h:x2i l=some ds):l=toA ds:=by
 induction l generalizing ds with
 |nil=>simp [x2i] at h; subst h; rfl
 |cons x l b=>
  cases x<;>simp only [x2i] at h<;>try (cases h; done)
  cases a:x2i l with
  |none=>simp [a] at h
  |some q=>simp [a] at h; subst h; simp [toA,b a]
theorem z2w (env:List (Nat×AV)) (l:List Operand):z06 env l=l.map (z0p env):=by
 induction l with
 |nil=>rfl
 |cons x l a=>simp [z06,a]
theorem x90 {v:Value} {d:D} (h:u0x v=some d) (O:Nat→Prop) (w:World):z1k O w d v:=by
 unfold u0x at h
 split at h<;>cases h
 ·exact .bool _
 ·exact .int _ _
 ·exact .str _
 ·exact .lnil _ _ _ _ (fun _=>rfl)
 ·exact .nilp
 ·exact .nilm
 ·exact .nilf
 ·exact .nili
theorem z8u {l:List Value} {ds:List D} (h:y22 l=some ds):ds.length=l.length∧∀ (O:Nat→Prop) (w:World) (j:Nat) (d:D),ds[j]?=some d→∃ v,l[j]?=some v∧z1k O w d v:=by
 induction l generalizing ds with
 |nil=>simp [y22] at h; subst h; simp
 |cons v l e=>
  simp only [y22] at h
  cases a:u0x v with
  |none=>simp [a] at h
  |some d=>
   cases c:y22 l with
   |none=>simp [a,c] at h
   |some q=>
    simp [a,c] at h; subst h
    obtain ⟨g,f⟩:=e c
    refine ⟨by simp [g],fun O w j x b=>?_⟩
    cases j with
    |zero=>simp at b; subst b; exact ⟨v,by simp,x90 a O w⟩
    |succ j=>simpa using f O w j x (by simpa using b)
theorem x91 {v:Value} {d:D} (h:u4w v=some d) (O:Nat→Prop) (w:World):z1k O w d v:=by
 unfold u4w at h
 split at h
 ·rename_i cs
  cases a:y22 cs.toList with
  |none=>simp [a] at h
  |some q=>
   simp [a] at h; subst h
   obtain ⟨g,f⟩:=z8u a
   refine .agg _ _ (by simp [g]) fun i d e=>?_
   obtain ⟨v,b,c⟩:=f O w i d e
   have:cs.getD i undef=v:=by
    have:cs[i]?=some v:=by simpa using b
    simp [eAk,this]
   rw [this]; exact c
 ·exact x90 h O w
def t2i (P:Program) (d:TypeDesc):TK→Prop
 | .int k=>d= .int k
 | .bool=>d= .bool
 | .str=>d= .string
 | .struct l=>∃ fs,d= .struct fs∧l.length=fs.size∧∀ (i:Nat) (x:Nat×Nat×Bool),l[i]?=some x→∃ f:Field,fs[i]?=some f∧f.offset=x.1∧z91 P f.type=some x.2.1∧z4j P f.type=some x.2.2
 | .arr m s a=>∃ e,d= .array m e∧z91 P e=some s∧z4j P e=some a
 | .slc e s b a z=>d= .slice e∧z91 P e=some s∧y2c P e=some b∧z4j P e=some a∧y5l P e=some z∧z.length=s
 | .ptr (some (n,s))=>∃ e g,d= .pointer e∧P.underlying e=some (.array n g)∧z91 P g=some s
 | .ptr none=>∃ e,d= .pointer e
 | .map ks a z=>∃ k e,d= .map k e∧z4v P 8 k=some ks∧z4j P k=some a∧w3g P e=some z∧P.eqGuardType P.depth k=false
 | .func=>∃ a b c,d= .func a b c
 | .iface=>∃ ms,d= .interface ms
 |_=>True
structure z7c (P:Program) (t:TypeId) (ti:TI):Prop where
 size:z91 P t=some ti.size
 bytes:y2c P t=some ti.bytes
 agg:z4j P t=some ti.agg
 zero:∃ i z,P.info? t=some i∧i.zero=some z∧y22 z.cells.toList=some ti.zero∧ti.zero.length=ti.size∧(ti.agg=true→∃ cs,z= .agg cs)∧(ti.agg=false→∀ cs,z≠ .agg cs)
 desc:∃ d,P.underlying t=some d∧z73 d=ti.agg∧t2i P d ti.desc
 eqk:∀ ks,ti.eqk=some ks→z4v P 8 t=some ks∧P.eqGuardType P.depth t=false
theorem x11 {P:Program} {fs:List Field} {l:List (Nat×Nat×Bool)} (h:fieldsOf P fs=some l):
  l.length=fs.length∧∀ (i:Nat) (x:Nat×Nat×Bool),l[i]?=some x→∃ f:Field,fs[i]?=some f∧f.offset=x.1∧z91 P f.type=some x.2.1∧z4j P f.type=some x.2.2:=by
 induction fs generalizing l with
 |nil=>simp [fieldsOf] at h; subst h; simp
 |cons f fs c=>
  simp only [fieldsOf] at h
  split at h
  ·rename_i s a q g e d
   cases h
   obtain ⟨k,j⟩:=c d
   refine ⟨by simp [k],fun i x b=>?_⟩
   cases i with
   |zero=>simp at b; subst b; exact ⟨f,by simp,rfl,g,e⟩
   |succ i=>simpa using j i x (by simpa using b)
  ·cases h
theorem v5j {P:Program} {d:TypeDesc} {k:TK} (h:u6v P d=some k):t2i P d k:=by
 unfold u6v at h
 split at h
 ·cases h; exact rfl
 ·cases h; exact rfl
 ·cases h; exact rfl
 ·rename_i i
  cases a:fieldsOf P i.toList with
  |none=>simp [a] at h
  |some q=>simp [a] at h; subst h; exact ⟨i,rfl,by simpa using x11 a⟩
 ·split at h
  ·cases h; exact ⟨_,rfl, ‹_›, ‹_›⟩
  ·cases h
 ·split at h
  ·rename_i g f c b
   split at h
   ·cases h; exact ⟨rfl,g,c,f,b, ‹_›⟩
   ·cases h
  ·cases h
 ·rename_i e
  split at h
  ·rename_i n j he
   cases a:z91 P j with
   |none=>simp [a] at h
   |some s=>simp [a] at h; subst h; exact ⟨e,j,rfl,he,a⟩
  ·cases h; exact ⟨e,rfl⟩
 ·split at h
  ·cases h; exact ⟨_,_,rfl, ‹_›, ‹_›, ‹_›, ‹_›⟩
  ·cases h; trivial
 ·cases h; exact ⟨_,_,_,rfl⟩
 ·cases h; exact ⟨_,rfl⟩
 ·cases h; trivial
theorem x63 {P:Program} {t:TypeId} {ti:TI} (h:v8h P t=some ti):z7c P t ti:=by
 unfold v8h at h
 split at h
 ·rename_i i d f l
  split at h
  ·rename_i z m
   split at h
   ·rename_i o k e n
    split at h
    ·rename_i b
     cases h
     simp only [eAc,beq_iff_eq] at b
     refine ⟨by simp [z91,f],by simp [y2c,f],by simp [z4j,l],⟨i,z,f,m,e,b.2,?_,?_⟩,⟨d,l,rfl,v5j n⟩,?_⟩
     ·intro j; have c:w5h z=true:=by rw [←b.1]; exact j
      cases z<;>first|exact ⟨_,rfl⟩|cases c
     ·intro j cs g; have c:w5h z=false:=by rw [←b.1]; exact j
      rw [g] at c; cases c
     ·intro ks a
      simp only at a
      split at a
      ·cases a
      ·rename_i hg; exact ⟨a,by simpa using hg⟩
    ·cases h
   ·cases h
  ·cases h
 ·cases h
def y1c (P:Program) (T:TypeId→Option TI):Prop:=∀ t ti,T t=some ti→z7c P t ti
section
variable {P:Program}
theorem z1f {t:TypeId} {n:Nat} (h:z91 P t=some n) (w:World):(sizeOf t).run P w= .ok n w:=by
 unfold z91 at h
 cases a:P.info? t with
 |none=>simp [a] at h
 |some i=>simp [a] at h; simp [sizeOf,typeInfo,a,h]
theorem x1f {t:TypeId} {b:Bool} (h:z4j P t=some b) (w:World):(isAgg t).run P w= .ok b w:=by
 unfold z4j at h
 cases a:P.underlying t with
 |none=>simp [a] at h
 |some d=>simp [a] at h; cases d<;>simp [isAgg,underlying,a,z73] at h⊢ <;>exact h
theorem z0g {t:TypeId} {d:TypeDesc} (h:P.underlying t=some d) (w:World):(underlying t).run P w= .ok d w:=by
 simp [underlying,h]
theorem z5j (b o n:Nat):(⟨b,o,none⟩:Addr).add n=⟨b,o+n,none⟩:=by unfold Addr.add; split<;>simp_all
theorem z3v {t:TypeId} {n:Nat} {agg:Bool} (f:z91 P t=some n) (e:z4j P t=some agg) (w:World) (b o:Nat) (cs:List Value) (g:cs.length=n)
  (d:∀ j v,cs[j]?=some v→w.cell? ⟨b,o+j,none⟩=some v) (v:Value) (a:if agg then v= .agg cs.toArray else cs=[v]):
  (loadVar t ⟨b,o,none⟩).run P w= .ok v w:=by
 have c:(loadCells ⟨b,o,none⟩ n).run P w= .ok cs.toArray w:=by
  have:=run_loadCells_list (P:=P) w ⟨b,o,none⟩ cs (fun j v a=>by rw [z5j]; exact d j v a)
  rwa [g] at this
 cases agg with
 |true=>
  simp at a; subst a
  simp [loadVar,x1f e,z1f f,c]
 |false=>
  simp at a; subst a
  have:=d 0 v (by simp)
  simp at this
  simp [loadVar,x1f e,this]
end
def z07 (h:List AO):List (Nat×AO)→List AO
 |[]=>h
 |(i,o)::r=>z07 (z03 h i o) r
def z0o (P:Program) (ρ:Rho) (h:List AO) (w:World) (new:Nat) (s:Sem Value) (r:Res):Prop:=
 ∃ v a ρ',s.run P w= .ok v a∧z0n ρ' (z0d ρ' (z07 h r.u)) a r.v v∧z0b P ρ' (z07 h r.u) a∧
  Ext (fun id=>id≠new) ρ h w ρ' (z07 h r.u) a∧(ρ'=ρ∨∃ o,(new,o)∈r.u)
theorem z0o.pure {P:Program} {ρ:Rho} {h:List AO} {w:World} {new:Nat} {s:Sem Value} {x:AV} {v:Value} {c:Bool} (hr:z0b P ρ h w)
  (b:s.run P w= .ok v w) (a:z0n ρ (z0d ρ h) w x v):z0o P ρ h w new s ⟨c,x,[]⟩:=
 ⟨v,w,ρ,b,a,hr,Ext.refl _ _ _ _, .inl rfl⟩
theorem z9c {α:Type} {c:Array α} {i:Nat} {v d:α} (h:c[i]?=some v):c.getD i d=v:=by simp [eAk,h]
theorem z6f {w:World} {b o:Nat} {c:Array Value} {t:TypeId} {f:Nat×Nat} {v:Value} (h:w.heap[b]?=some (.cells c t f)) (a:c[o]?=some v):w.cell? ⟨b,o,none⟩=some v:=by
 simp [World.cell?,h,a]
theorem z5r {ρ:Rho} {O:Nat→Prop} {w:World} {agg:Bool} {l:List AV} {x:AV} (h:z60 agg l=some x) (cs:List Value) (a:cs.length=l.length)
  (g:∀ (j:Nat) (y:AV) (v:Value),l[j]?=some y→cs[j]?=some v→z0n ρ O w y v):∃ v,(if agg then v= .agg cs.toArray else cs=[v])∧z0n ρ O w x v:=by
 have key:∀ (i:Nat) (y:AV),l[i]?=some y→z0n ρ O w y (cs.toArray.getD i undef):=by
  intro i y f
  have k:i<cs.length:=by rw [a]; exact (eAa.1 f).1
  have b:cs[i]?=some cs[i]:=eAb k
  have:=g i y _ f b
  rw [show cs.toArray.getD i undef=cs[i] by simp [eAk,b]]
  exact this
 cases agg with
 |true=>
  refine ⟨.agg cs.toArray,by simp,?_⟩
  simp only [z60] at h
  cases c:x2i l with
  |none=>simp [c] at h; subst h; exact .agg _ _ (by simp [a]) key
  |some ds=>
   simp [c] at h; subst h
   have e:=z17 c
   refine .d (.agg _ _ (by simp [a,e,z0z]) fun i d m=>?_)
   have:=key i (.d d) (by rw [e,z1l,m]; rfl)
   cases this; assumption
 |false=>
  simp only [z60] at h
  split at h
  ·cases h
   cases cs with
   |nil=>simp at a
   |cons v r=>
    cases r with
    |nil=>exact ⟨v,by simp,g 0 _ v (by simp) (by simp)⟩
    |cons _ _=>simp at a
  ·cases h
theorem z3w {ρ:Rho} {O:Nat→Prop} {w:World} {agg:Bool} {l:List D} {x:AV} (h:z50 agg l=some x) (cs:List Value) (b:cs.length=l.length)
  (e:∀ (j:Nat) (y:D) (v:Value),l[j]?=some y→cs[j]?=some v→z1k O w y v):∃ v,(if agg then v= .agg cs.toArray else cs=[v])∧z0n ρ O w x v:=by
 have key:∀ (i:Nat) (y:D),l[i]?=some y→z1k O w y (cs.toArray.getD i undef):=by
  intro i y c
  have f:i<cs.length:=by rw [b]; exact (eAa.1 c).1
  have a:cs[i]?=some cs[i]:=eAb f
  have:=e i y _ c a
  rw [show cs.toArray.getD i undef=cs[i] by simp [eAk,a]]
  exact this
 cases agg with
 |true=>
  refine ⟨.agg cs.toArray,by simp,?_⟩
  simp only [z50] at h; cases h
  exact .d (.agg _ _ (by simp [b]) key)
 |false=>
  simp only [z50] at h
  split at h
  ·cases h
   cases cs with
   |nil=>simp at b
   |cons v r=>
    cases r with
    |nil=>exact ⟨v,by simp, .d (e 0 _ v (by simp) (by simp))⟩
    |cons _ _=>simp at b
  ·cases h
theorem z5w {α:Type} {R:α→Value→Prop} (f:Nat→Option Value) (l:List α) (h:∀ (j:Nat) (x:α),l[j]?=some x→∃ v,f j=some v∧R x v):
  ∃ cs:List Value,cs.length=l.length∧(∀ (j:Nat) (v:Value),cs[j]?=some v→f j=some v)∧∀ (j:Nat) (x:α) (v:Value),l[j]?=some x→cs[j]?=some v→R x v:=by
 induction l generalizing f with
 |nil=>exact ⟨[],rfl,by simp,by simp⟩
 |cons a l d=>
  obtain ⟨v,e,g⟩:=h 0 a (by simp)
  obtain ⟨cs,m,k,i⟩:=d (fun j=>f (j+1)) (fun j x c=>h (j+1) x (by simpa using c))
  refine ⟨v::cs,by simp [m],fun j u b=>?_,fun j x u c b=>?_⟩
  ·cases j with
   |zero=>simp at b; subst b; exact e
   |succ j=>exact k j u (by simpa using b)
  ·cases j with
   |zero=>simp at c b; subst c; subst b; exact g
   |succ j=>exact i j x u (by simpa using c) (by simpa using b)
def x5v (h:List AO) (a:AV) (r:List D) (ra:List AV):Prop:=
 match a with
 | .bptr id off=>∀ es,z0f h id= .row es→y4c es off r
 | .wptr es off=>y4c es off r
 | .ptr id i _=>(∀ es,z0f h id= .row es→w7s es i r)∧(∀ es,z0f h id= .arow es→es[i]?=some ra)
 |_=>True
theorem z3i {x:Option AV} {r:Res} (h:x.bind ok=some r):∃ v,x=some v∧r=⟨true,v,[]⟩:=by
 cases x with
 |none=>cases h
 |some v=>simp [ok] at h; exact ⟨v,rfl,h.symm⟩
theorem z9l {P:Program} {ρ:Rho} {O:Nat→Prop} {w:World} {L:Loc} {es:List (List D)} (m:z1c P ρ O w L (.row es)) {off:Nat} {r:List D} (p:y4c es off r) {c:Array Value} {t:TypeId}
  (q:w.heap[L.blk]?=some (.cells c t (0,0))) {j:Nat} {x:D} (l:r[j]?=some x):L.esz=1∧off+j<es.length∧∃ v:Value,c[L.base+off+j]?=some v∧v.oneCell'=true∧z1k O w x v:=by
 obtain ⟨z,A,s,f,n,o⟩:=m
 rw [q] at f; cases f
 obtain ⟨u,a,e⟩:=p j x l
 have i:L.esz=1:=by rw [←n _ _ a, ←e.1]; rfl
 obtain ⟨y,k,b⟩:=e.2 0 x rfl
 obtain ⟨v,h,g,d⟩:=o _ _ _ _ a k
 refine ⟨i,(eAa.1 a).1,v,?_,g,d.le b⟩
 rw [i,eCn,eBa, ←eBv] at h; exact h
theorem x6b {P:Program} {T:TypeId} {ti:TI} (A:z7c P T ti) {ρ:Rho} {h:List AO} {w:World} (hr:z0b P ρ h w) {r:List D} {ra:List AV} {a:AV} {va:Value}
  (O:z0n ρ (z0d ρ h) w a va) (u:x5v h a r ra) {res:Res} (f:z4a ti h r ra a=some res) (new:Nat):z0o P ρ h w new (Instr.loadAt T va) res:=by
 unfold z4a at f
 split at f
 ·
  rename_i id off
  split at f
  ·rename_i cells n
   split at f
   ·rename_i l J
    obtain ⟨x,e,rfl⟩:=z3i f
    cases O with
    |bptr _ _ L M=>
     obtain ⟨_,B⟩:=hr.obj id L M
     rw [n] at B
     obtain ⟨hbase,c,t,C,N⟩:=B
     obtain ⟨q,hg⟩:=z3k J
     obtain ⟨cs,p,F,E⟩:=z5w (R:=z0n ρ (z0d ρ h) w) (fun j=>c[L.base+off+j]?) l (fun j x e=>by
      have s:j<ti.size:=by rw [←q]; exact (eAa.1 e).1
      obtain ⟨v,m,d⟩:=N (off+j) x (by rw [hg j s]; exact e)
      exact ⟨v,by rw [eBv]; exact m,d⟩)
     obtain ⟨v,k,g⟩:=z5r e cs p E
     refine z0o.pure hr ?_ g
     show (loadVar T _).run P w=_
     exact z3v A.size A.agg w _ _ cs (p.trans q) (fun j v m=>z6f C (F j v m)) v k
   ·cases f
  ·rename_i es n
   cases K:z8p r ti.size with
   |false=>rw [K] at f; cases f
   |true=>
   rw [K] at f
   have q:=z8o K
   obtain ⟨x,e,rfl⟩:=z3i f
   cases O with
   |bptr _ _ L M=>
    obtain ⟨_,B⟩:=hr.obj id L M
    rw [n] at B
    have ho2:=B
    obtain ⟨W,c,t,C,H,N⟩:=B
    obtain ⟨cs,p,F,E⟩:=z5w (R:=z1k (z0d ρ h) w) (fun j=>c[L.base+off+j]?) r (fun j x e=>by
     obtain ⟨_,_,v,m,_,d⟩:=z9l ho2 (u es n) C e
     exact ⟨v,m,d⟩)
    obtain ⟨v,k,g⟩:=z3w (ρ:=ρ) e cs p E
    refine z0o.pure hr ?_ g
    show (loadVar T _).run P w=_
    exact z3v A.size A.agg w _ _ cs (p.trans q) (fun j v m=>z6f C (F j v m)) v k
  ·cases f
 ·
  rename_i id i off
  split at f
  ·rename_i es n
   split at f
   ·rename_i l J
    obtain ⟨x,e,rfl⟩:=z3i f
    cases O with
    |ptr _ _ _ L M=>
     obtain ⟨_,B⟩:=hr.obj id L M
     rw [n] at B
     obtain ⟨W,c,t,C,H,N⟩:=B
     obtain ⟨r0,I,Y⟩:=u.1 es n
     obtain ⟨q,hg⟩:=z3k J
     obtain ⟨cs,p,F,E⟩:=z5w (R:=z1k (z0d ρ h) w) (fun j=>c[L.base+i*L.esz+off+j]?) l (fun j x e=>by
      have s:j<ti.size:=by rw [←q]; exact (eAa.1 e).1
      obtain ⟨x0,X,G⟩:=Y.2 (off+j) x (by rw [hg j s]; exact e)
      obtain ⟨v,m,_,d⟩:=N i r0 (off+j) x0 I X
      exact ⟨v,by rw [eBv]; exact m,d.le G⟩)
     obtain ⟨v,k,g⟩:=z3w (ρ:=ρ) e cs p E
     refine z0o.pure hr ?_ g
     show (loadVar T _).run P w=_
     exact z3v A.size A.agg w _ _ cs (p.trans q) (fun j v m=>z6f C (F j v m)) v k
   ·cases f
  ·rename_i es n
   split at f
   ·rename_i l J
    obtain ⟨x,e,rfl⟩:=z3i f
    cases O with
    |ptr _ _ _ L M=>
     obtain ⟨_,B⟩:=hr.obj id L M
     rw [n] at B
     obtain ⟨W,c,t,C,H,N⟩:=B
     have I:=u.2 es n
     obtain ⟨q,hg⟩:=z3k J
     obtain ⟨cs,p,F,E⟩:=z5w (R:=z0n ρ (z0d ρ h) w) (fun j=>c[L.base+i*L.esz+off+j]?) l (fun j x e=>by
      have s:j<ti.size:=by rw [←q]; exact (eAa.1 e).1
      obtain ⟨v,m,_,d⟩:=N i ra (off+j) x I (by rw [hg j s]; exact e)
      exact ⟨v,by rw [eBv]; exact m,d⟩)
     obtain ⟨v,k,g⟩:=z5r e cs p E
     refine z0o.pure hr ?_ g
     show (loadVar T _).run P w=_
     exact z3v A.size A.agg w _ _ cs (p.trans q) (fun j v m=>z6f C (F j v m)) v k
   ·cases f
  ·cases f
 ·
  rename_i es off
  cases K:z8p r ti.size with
  |false=>rw [K] at f; cases f
  |true=>
  rw [K] at f
  have q:=z8o K
  obtain ⟨x,e,rfl⟩:=z3i f
  cases O with
  |wptr _ _ b o z hlt hO W C=>
   obtain ⟨cs,p,F,E⟩:=z5w (R:=z1k (z0d ρ h) w) (fun j=>w.cell? ⟨b,o+off+j,none⟩) r (fun j x e=>by
    obtain ⟨r0,U,G⟩:=u j x e
    have p:z=1:=by rw [←W _ _ U, ←G.1]; rfl
    obtain ⟨y,hy,Q⟩:=G.2 0 x rfl
    obtain ⟨v,m,d⟩:=C _ _ _ _ U hy
    refine ⟨v,?_,d.le Q⟩
    rw [p,eCn,eBa, ←eBv] at m; exact m)
   obtain ⟨v,k,g⟩:=z3w (ρ:=ρ) e cs p E
   refine z0o.pure hr ?_ g
   show (loadVar T _).run P w=_
   exact z3v A.size A.agg w _ _ cs (p.trans q) (fun j v m=>F j v m) v k
 ·
  rename_i cells off
  split at f
  ·rename_i l J
   obtain ⟨x,e,rfl⟩:=z3i f
   cases O with
   |lptr _ _ b o hlt hO cell C Z=>
    obtain ⟨q,hg⟩:=z3k J
    obtain ⟨cs,p,F,E⟩:=z5w (R:=z1k (z0d ρ h) w) (fun j=>w.cell? ⟨b,o+off+j,none⟩) l (fun j x e=>by
     have s:j<ti.size:=by rw [←q]; exact (eAa.1 e).1
     have S:cells[off+j]?=some x:=by rw [hg j s]; exact e
     have V:off+j<cells.length:=(eAa.1 S).1
     exact ⟨cell (off+j),by rw [eBv]; exact C _ V,Z _ _ S⟩)
    obtain ⟨v,k,g⟩:=z3w (ρ:=ρ) e cs p E
    refine z0o.pure hr ?_ g
    show (loadVar T _).run P w=_
    exact z3v A.size A.agg w _ _ cs (p.trans q) (fun j v m=>F j v m) v k
  ·cases f
 ·cases f
end Go.Am
end
section
namespace Go.Am
theorem z7t {w:World} {b:Nat} {c cs:Array Value} {t:TypeId} {f:Nat×Nat} (h:w.heap[b]?=some (.cells c t f)):w.setRow b cs=World.setObj w b (.cells cs t f):=by
 have a:b<w.heap.size:=(eAe.1 h).1
 unfold World.setRow World.setObj
 congr 1
 apply Array.ext_getElem?
 intro i
 rw [eDb,eDc]
 by_cases d:b=i
 ·subst d; rw [h]; simp [a]
 ·simp [d]
theorem z0y {w:World} {b:Nat} {c:Array Value} {t:TypeId} {f:Nat×Nat} (h:w.heap[b]?=some (.cells c t f)):z1a w b=some c.size:=by
 simp [z1a,h]
theorem y33 {ρ:Rho} {O:Nat→Prop} {w:World} {x:AV} {v:Value} {l:List AV} (h:z2h x=some l) (i:z0n ρ O w x v):
  v.cells.size=l.length∧∀ (j:Nat) (y:AV),l[j]?=some y→∃ u,v.cells[j]?=some u∧z0n ρ O w y u:=by
 have one:∀ (v:Value),(∀ cs,v≠ .agg cs)→v.cells=#[v]:=by
  intro v i; cases v<;>first|rfl|exact absurd rfl (i _)
 have single:∀ (x:AV) (v:Value),z0n ρ O w x v→(∀ cs,v≠ .agg cs)→v.cells.size=[x].length∧∀ (j:Nat) (y:AV),[x][j]?=some y→∃ u,v.cells[j]?=some u∧z0n ρ O w y u:=by
  intro x v q r
  rw [one v r]
  refine ⟨rfl,fun j y c=>?_⟩
  cases j with
  |zero=>simp at c; subst c; exact ⟨v,by simp,q⟩
  |succ j=>simp at c
 have a:=i
 cases i with
 |bot=>simp [z2h] at h
 |d p=>
  have t:=p
  cases p with
  |agg ds e f o=>
   simp [z2h] at h; subst h
   refine ⟨by simp [Value.cells,f,z0z],fun j y c=>?_⟩
   rw [z1l] at c
   cases m:ds[j]? with
   |none=>simp [m] at c
   |some d=>
    simp [m] at c; subst c
    have g:j<e.size:=by rw [f]; exact (eAa.1 m).1
    have:=o j d m
    rw [z9c (eAs g)] at this
    exact ⟨e[j],by simp [Value.cells,g], .d this⟩
  |bool b=>simp [z2h] at h; subst h; exact single _ _ a (by simp)
  |int k n=>simp [z2h] at h; subst h; exact single _ _ a (by simp)
  |str s=>simp [z2h] at h; subst h; exact single _ _ a (by simp)
  |nilp=>simp [z2h] at h; subst h; exact single _ _ a (by simp)
  |nilm=>simp [z2h] at h; subst h; exact single _ _ a (by simp)
  |nilf=>simp [z2h] at h; subst h; exact single _ _ a (by simp)
  |nili=>simp [z2h] at h; subst h; exact single _ _ a (by simp)
  |lnil=>simp [z2h] at h; subst h; exact single _ _ a (by simp)
  |list=>simp [z2h] at h; subst h; exact single _ _ a (by simp)
  |ref=>simp [z2h] at h; subst h; exact single _ _ a (by simp)
 |agg z e f o=>
  simp [z2h] at h; subst h
  refine ⟨by simp [Value.cells,f],fun j y c=>?_⟩
  have g:j<e.size:=by rw [f]; exact (eAa.1 c).1
  have:=o j y c
  rw [z9c (eAs g)] at this
  exact ⟨e[j],by simp [Value.cells,g],this⟩
 |tuple=>simp [z2h] at h
 |bptr=>simp [z2h] at h; subst h; exact single _ _ a (by simp)
 |ptr=>simp [z2h] at h; subst h; exact single _ _ a (by simp)
 |lptr=>simp [z2h] at h; subst h; exact single _ _ a (by simp)
 |wptr=>simp [z2h] at h; subst h; exact single _ _ a (by simp)
 |perm=>simp [z2h] at h
 |slice=>simp [z2h] at h; subst h; exact single _ _ a (by simp)
 |nils=>simp [z2h] at h; subst h; exact single _ _ a (by simp)
 |map=>simp [z2h] at h; subst h; exact single _ _ a (by simp)
 |yld=>simp [z2h] at h; subst h; exact single _ _ a (by simp)
 |clo=>simp [z2h] at h; subst h; exact single _ _ a (by simp)
 |iface=>simp [z2h] at h; subst h; exact single _ _ a (by simp)
theorem y2q {ρ:Rho} {O:Nat→Prop} {w:World} {x:AV} {v:Value} (h:w74 x=true) (a:z0n ρ O w x v):v.oneCell'=true:=by
 cases a with
 |bot=>simp [w74] at h
 |d b=>cases b<;>first|rfl|simp [w74] at h
 |agg=>simp [w74] at h
 |tuple=>simp [w74] at h
 |perm=>simp [w74] at h
 |_=>rfl
theorem z8q {l:List AV} (h:z7n l=true) {j:Nat} {y:AV} (a:l[j]?=some y):w74 y=true:=by
 induction l generalizing j with
 |nil=>simp at a
 |cons x l b=>
  simp [z7n] at h
  cases j with
  |zero=>simp at a; subst a; exact h.1
  |succ j=>exact b h.2 (by simpa using a)
theorem w10 {ρ:Rho} {O:Nat→Prop} {w:World} {l:List AV} {v:Value} (h:z7n l=true) (i:v.cells.size=l.length)
  (f:∀ (j:Nat) (y:AV),l[j]?=some y→∃ u,v.cells[j]?=some u∧z0n ρ O w y u):∀ u∈v.cells.toList,u.oneCell'=true:=by
 intro u g
 obtain ⟨j,d,c⟩:=List.getElem_of_mem g
 have b:j<l.length:=by rw [←i]; simpa using d
 obtain ⟨e,a,k⟩:=f j l[j] (eAb b)
 have:e=u:=by
  have m:v.cells[j]?=some u:=by rw [←c]; simp [eAs (by simpa using d)]
  rw [m] at a; cases a; rfl
 subst this
 exact y2q (z8q h (eAb b)) k
theorem z5o {α:Type} (a vs:List α) (o j:Nat) (h:o+vs.length≤a.length):
  (a.take o++vs++a.drop (o+vs.length))[j]?=if o≤j∧j<o+vs.length then vs[j - o]? else a[j]?:=by
 rw [eCr,eBf]
 have c:(a.take o).length=o:=by simp; omega
 rw [c]
 split
 ·rename_i b
  rw [if_neg (by omega),eDs,if_pos b]
 ·rename_i b
  rw [eBf]
  split
  ·rename_i d; rw [if_pos (by omega)]
  ·rename_i d; rw [if_neg (by omega),eCg]; congr 1; omega
theorem z86 {P:Program} {T:TypeId} {n:Nat} (d:z91 P T=some n) {w:World} {b o:Nat} {c:Array Value} {t:TypeId} (a:w.heap[b]?=some (.cells c t (0,0)))
  {v:Value} (e:v.cells.size=n) (f:∀ u∈v.cells.toList,u.oneCell'=true) (hr:o+n≤c.size):
  (Instr.storeAt T (.pointer (some ⟨b,o,none⟩)) v).run P w= .ok () (World.setObj w b (.cells (c.toList.take o++v.cells.toList++c.toList.drop (o+v.cells.toList.length)).toArray t (0,0))):=by
 have:=run_storeCells_at (P:=P) b o t v.cells.toList 0 c w a (by simp; omega) f
 rw [z7t a] at this
 simp only [eBa] at this
 simp [Instr.storeAt,Instr.sureAddr,storeVar,z1f d,e,this]
def z49 (s:Sem Unit):Sem Value:=do s; pure undef
theorem x1p (ds:List D) (i:Nat):(w4r ds)[i]?=(ds[i]?).map fun x=>[x]:=by
 induction ds generalizing i with
 |nil=>simp [w4r]
 |cons x l a=>cases i<;>simp [w4r,a]
theorem x8y (ds:List D):(w4r ds).length=ds.length:=by
 induction ds with
 |nil=>rfl
 |cons x l a=>simp [w4r,a]
theorem w4y {α:Type} (l:List α):x86 l=l.length:=by
 induction l with
 |nil=>rfl
 |cons x l a=>simp [x86,a]
theorem y82 {P:Program} {ρ:Rho} {h:List AO} {w:World} {T:TypeId} {size:Nat} (N:z91 P T=some size) (hr:z0b P ρ h w) {id off:Nat} {es:List (List D)} (E:z0f h id= .row es) {L:Loc} (J:ρ id=some L) (z:L.esz=1)
  {cells:List AV} {ds:List D} (hds:x2i cells=some ds) {f:Value} (hn:f.cells.size=size) (W:cells.length=size) (l:∀ u∈f.cells.toList,u.oneCell'=true)
  (S:∀ (j:Nat) (y:AV),cells[j]?=some y→∃ u,f.cells[j]?=some u∧z0n ρ (z0d ρ h) w y u) (U:1≤size) (O:off+size≤es.length) (r:List (List D))
  (H:∀ i,r[i]?=if off≤i∧i<off+ds.length then (ds[i - off]?).map (fun x=>[x]) else es[i]?) (new:Nat):
  z0o P ρ h w new (z49 (Instr.storeAt T (.pointer (some ⟨L.blk,L.base+off,none⟩)) f)) ⟨true, .bot,[(id, .row r)]⟩:=by
 obtain ⟨_,V⟩:=hr.obj id L J
 rw [E] at V
 obtain ⟨Z,c,t,I,n,Y⟩:=V
 have hdl:ds.length=cells.length:=by rw [z17 hds,z0z]
 have o:L.base+off+size≤c.size:=by
  have F:off+size - 1<es.length:=by omega
  have hl0:=n _ _ (eAb F)
  obtain ⟨v,hv,_,_⟩:=Y (off+size - 1) _ 0 _ (eAb F) (eAb (by omega))
  have:=(eAe.1 hv).1
  rw [z] at this; omega
 have C:=z86 (P:=P) N I hn l o
 have e:(z0f h id).live=true:=by rw [E]; rfl
 have p:∀ m,z1a w L.blk=some m→z1a (World.setObj w L.blk (.cells (c.toList.take (L.base+off)++f.cells.toList++c.toList.drop (L.base+off+f.cells.toList.length)).toArray t (0,0))) L.blk=some m:=by
  intro m hm
  rw [z0y I] at hm; cases hm
  rw [z0y (z0t _ _ _ (eAe.1 I).1)]
  congr 1
  simp; omega
 have X:=z12 hr J e (.row r) rfl _ p
 refine ⟨undef,_,ρ,by simp only [z49,Sem.run_bind,C,Result.andThen_ok,Sem.run_pure], .bot _,hr.set J e _ rfl _ p ?_,Ext.set _ hr J e _ rfl _ p, .inl rfl⟩
 have hvl:f.cells.toList.length=cells.length:=by simp; omega
 refine ⟨Z,_,t,z0t _ _ _ (eAe.1 I).1,fun k q b=>?_,fun k q j y b A=>?_⟩
 ·rw [H] at b
  split at b
  ·cases s:ds[k - off]? with
   |none=>rw [s] at b; cases b
   |some d=>rw [s] at b; cases b; exact z.symm
  ·exact n k q b
 ·have g:=z5o c.toList f.cells.toList (L.base+off) (L.base+k*L.esz+j) (by simp; omega)
  rw [eCa]
  rw [H] at b
  split at b
  ·rename_i G
   cases s:ds[k - off]? with
   |none=>rw [s] at b; cases b
   |some d=>
    rw [s] at b; cases b
    cases j with
    |succ j=>simp at A
    |zero=>
     simp at A; subst A
     have K:cells[k - off]?=some (.d d):=by rw [z17 hds,z1l,s]; rfl
     obtain ⟨u,B,a⟩:=S _ _ K
     rw [if_pos (by rw [z]; omega)] at g
     rw [g,show L.base+k*L.esz+0 - (L.base+off)=k - off by rw [z]; omega]
     cases a with
     |d a=>exact ⟨u,by simpa using B,l u (by rw [eAe] at B; obtain ⟨z,h2⟩:=B; rw [←h2]; simp),a.keep X⟩
  ·rename_i G
   obtain ⟨u,B,M,a⟩:=Y k q j y b A
   have Q:j<L.esz:=by rw [←n k q b]; exact (eAa.1 A).1
   have R:¬ (L.base+off≤L.base+k*L.esz+j∧L.base+k*L.esz+j<L.base+off+f.cells.toList.length):=by
    rintro ⟨g1,g2⟩
    rw [z] at g1 g2 Q
    exact G (by omega)
   rw [if_neg R] at g
   exact ⟨u,by rw [g]; simpa using B,M,a.keep X⟩
theorem y5s (es:List (List D)) (i:Nat):(z5m es)[i]?=(es[i]?).map toA:=by
 induction es generalizing i with
 |nil=>simp [z5m]
 |cons x l a=>cases i with
  |zero=>simp [z5m]
  |succ i=>simp [z5m,a]
theorem w8y {P:Program} {ρ:Rho} {O:Nat→Prop} {w:World} {L:Loc} {es:List (List D)} (E:z1c P ρ O w L (.row es)) {i:Nat} {r n:List D} (A:es[i]?=some n) (m:y7t n r):z1c P ρ O w L (.arow ((z5m es).set i (toA r))):=by
 obtain ⟨C,c,t,F,x,z⟩:=E
 refine ⟨C,c,t,F,fun k q a=>?_,fun k q j y a f=>?_⟩
 ·rw [eBu] at a
  split at a
  ·split at a
   ·cases a; rw [z0z,m.1]; exact x i n A
   ·cases a
  ·rw [y5s] at a
   cases h:es[k]? with
   |none=>rw [h] at a; cases a
   |some o=>rw [h] at a; cases a; rw [z0z]; exact x k o h
 ·rw [eBu] at a
  split at a
  ·rename_i v
   subst v
   split at a
   ·cases a
    rw [z1l] at f
    cases b:r[j]? with
    |none=>rw [b] at f; cases f
    |some d=>
     rw [b] at f; cases f
     obtain ⟨B,p,l⟩:=m.2 j d b
     obtain ⟨u,s,g,e⟩:=z i n j B A p
     exact ⟨u,s,g, .d (e.le l)⟩
   ·cases a
  ·rw [y5s] at a
   cases h:es[k]? with
   |none=>rw [h] at a; cases a
   |some o=>
    rw [h] at a; cases a
    rw [z1l] at f
    cases b:o[j]? with
    |none=>rw [b] at f; cases f
    |some d=>
     rw [b] at f; cases f
     obtain ⟨u,s,g,e⟩:=z k o j d h b
     exact ⟨u,s,g, .d e⟩
theorem y83 {P:Program} {ρ:Rho} {h:List AO} {w:World} {T:TypeId} {size:Nat} (hT:z91 P T=some size) (hr:z0b P ρ h w) {id:Nat} {L:Loc} (O:ρ id=some L) (b:(z0f h id).live=true) {es:List (List AV)}
  (Y:z1c P ρ (z0d ρ h) w L (.arow es)) {i off:Nat} {ra cells l:List AV} (n:es[i]?=some ra) (I:x6u ra off cells=some l) {g:Value} (Z:g.cells.size=size) (G:g.cells.size=cells.length) (p:∀ u∈g.cells.toList,u.oneCell'=true)
  (N:∀ (j:Nat) (y:AV),cells[j]?=some y→∃ u,g.cells[j]?=some u∧z0n ρ (z0d ρ h) w y u) (Q:1≤size) (R:cells.length=size) (new:Nat):
  z0o P ρ h w new (z49 (Instr.storeAt T (.pointer (some ⟨L.blk,L.base+i*L.esz+off,none⟩)) g)) ⟨true, .bot,[(id, .arow (es.set i l))]⟩:=by
 obtain ⟨U,c,t,F,o,M⟩:=Y
 have H:=o i ra n
 obtain ⟨o1,o2,S⟩:=y0a I
 have H:=o i ra n
 have z:L.base+i*L.esz+off+size≤c.size:=by
  have f:L.esz - 1<ra.length:=by omega
  obtain ⟨v,W,_,_⟩:=M i ra (L.esz - 1) _ n (eAb f)
  have:=(eAe.1 W).1
  omega
 have C:=z86 (P:=P) hT F Z p z
 have B:∀ m,z1a w L.blk=some m→z1a (World.setObj w L.blk (.cells (c.toList.take (L.base+i*L.esz+off)++g.cells.toList++c.toList.drop (L.base+i*L.esz+off+g.cells.toList.length)).toArray t (0,0))) L.blk=some m:=by
  intro m hm
  rw [z0y F] at hm; cases hm
  rw [z0y (z0t _ _ _ (eAe.1 F).1)]
  congr 1
  simp; omega
 have K:=z12 hr O b (.arow (es.set i l)) rfl _ B
 refine ⟨undef,_,ρ,by simp only [z49,Sem.run_bind,C,Result.andThen_ok,Sem.run_pure], .bot _,hr.set O b _ rfl _ B ?_,Ext.set _ hr O b _ rfl _ B, .inl rfl⟩
 have V:g.cells.toList.length=cells.length:=by simpa using G
 refine ⟨U,_,t,z0t _ _ _ (eAe.1 F).1,fun k q d=>?_,fun k q j y d r=>?_⟩
 ·simp only [eBu] at d
  split at d
  ·split at d
   ·cases d; omega
   ·cases d
  ·exact o k q d
 ·have e:=z5o c.toList g.cells.toList (L.base+i*L.esz+off) (L.base+k*L.esz+j) (by simp; omega)
  rw [eCa]
  simp only [eBu] at d
  split at d
  ·rename_i A
   subst A
   split at d
   ·cases d
    rw [S j] at r
    by_cases E:off≤j∧j<off+cells.length
    ·rw [if_pos E] at r
     obtain ⟨u,x,a⟩:=N _ _ r
     rw [if_pos (by omega)] at e
     rw [e,show L.base+i*L.esz+j - (L.base+i*L.esz+off)=j - off by omega]
     exact ⟨u,by simpa using x,p u (by rw [eAe] at x; obtain ⟨h1,h2⟩:=x; rw [←h2]; simp),a.keep K (fun _ _ h=>h)⟩
    ·rw [if_neg E] at r
     obtain ⟨u,x,s,a⟩:=M i ra j y n r
     rw [if_neg (by omega)] at e
     exact ⟨u,by rw [e]; simpa using x,s,a.keep K (fun _ _ h=>h)⟩
   ·cases d
  ·rename_i A
   obtain ⟨u,x,s,a⟩:=M k q j y d r
   have X:j<L.esz:=by rw [←o k q d]; exact (eAa.1 r).1
   have J:¬ (L.base+i*L.esz+off≤L.base+k*L.esz+j∧L.base+k*L.esz+j<L.base+i*L.esz+off+g.cells.toList.length):=by
    rintro ⟨g1,g2⟩
    rcases Nat.lt_or_gt_of_ne A with f|f
    ·have:(i+1)*L.esz≤k*L.esz:=eAv _ f
     rw [eAr] at this; omega
    ·have:(k+1)*L.esz≤i*L.esz:=eAv _ f
     rw [eAr] at this; omega
   rw [if_neg J] at e
   exact ⟨u,by rw [e]; simpa using x,s,a.keep K (fun _ _ h=>h)⟩
theorem x2z {P : Program} {T : TypeId} {ti : TI} (ht : z7c P T ti) (p : Prim) (hp : p = std) {ρ : Rho} {h : List AO} {w : World} (hr : z0b P ρ h w) {r : List D} {ra : List AV} {a x : AV} {va vx : Value}
    (ha : z0n ρ (z0d ρ h) w a va) (hx : z0n ρ (z0d ρ h) w x vx) (hrow : x5v h a r ra) {res : Res} (hs : z45 p ti h r ra a x = some res) (hres : res.c = true) (new : Nat) :
    z0o P ρ h w new (z49 (Instr.storeAt T va vx)) res := by
  unfold z45 at hs
  split at hs
  rotate_left
  · cases hs
  rename_i cells hcells
  obtain ⟨hsz, hcv⟩ := y33 hcells hx
  cases hb : (Nat.ble 1 ti.size && (z8p cells ti.size && z7n cells)) with
  | false => rw [hb] at hs; cases hs
  | true =>
  rw [hb] at hs
  simp only [eAc] at hb
  obtain ⟨hpos, hlen, hlv⟩ := hb
  have hpos := eAh hpos
  have hlen := z8o hlen
  have hone := w10 hlv hsz hcv
  have hn : vx.cells.size = ti.size := hsz.trans hlen
  simp only [cond_true] at hs
  unfold z4s at hs
  split at hs
  ·
    rename_i id off
    split at hs
    · rename_i old hob
      split at hs
      · rename_i l hov
        cases hs
        cases ha with
        | bptr _ _ L hL =>
          obtain ⟨_, ho⟩ := hr.obj id L hL
          rw [hob] at ho
          obtain ⟨hbase, c, t, hc, hj⟩ := ho
          obtain ⟨o1, o2, o3⟩ := y0a hov
          have hroom : L.base + off + ti.size ≤ c.size := by
            have hlt : off + ti.size - 1 < old.length := by omega
            obtain ⟨v, hv, _⟩ := hj (off + ti.size - 1) _ (eAb hlt)
            have := (eAe.1 hv).1
            omega
          have hrun := z86 (P := P) ht.size hc hn hone hroom
          have hlive : (z0f h id).live = true := by rw [hob]; rfl
          have hbs : ∀ m, z1a w L.blk = some m → z1a (World.setObj w L.blk (.cells (c.toList.take (L.base + off) ++ vx.cells.toList ++ c.toList.drop (L.base + off + vx.cells.toList.length)).toArray t (0, 0))) L.blk = some m := by
            intro m hm
            rw [z0y hc] at hm; cases hm
            rw [z0y (z0t _ _ _ (eAe.1 hc).1)]
            congr 1
            simp; omega
          have hk := z12 hr hL hlive (.box l) rfl _ hbs
          refine ⟨undef, _, ρ, by simp only [z49, Sem.run_bind, hrun, Result.andThen_ok, Sem.run_pure], .bot _, hr.set hL hlive _ rfl _ hbs ?_, Ext.set _ hr hL hlive _ rfl _ hbs, .inl rfl⟩
          refine ⟨hbase, _, t, z0t _ _ _ (eAe.1 hc).1, fun j y hy => ?_⟩
          rw [o3 j] at hy
          have hsp := z5o c.toList vx.cells.toList (L.base + off) (L.base + j) (by simp; omega)
          have hvl : vx.cells.toList.length = cells.length := by simpa using hsz
          by_cases hin : off ≤ j ∧ j < off + cells.length
          · rw [if_pos hin] at hy
            obtain ⟨u, hu, hrel⟩ := hcv _ y hy
            refine ⟨u, ?_, hrel.keep hk (fun _ _ h => h)⟩
            rw [if_pos (by omega)] at hsp
            rw [eCa, hsp, show L.base + j - (L.base + off) = j - off by omega]
            simpa using hu
          · rw [if_neg hin] at hy
            obtain ⟨u, hu, hrel⟩ := hj j y hy
            refine ⟨u, ?_, hrel.keep hk (fun _ _ h => h)⟩
            rw [if_neg (by omega)] at hsp
            rw [eCa, hsp]
            simpa using hu
      · cases hs
    · rename_i es hob
      subst hp
      cases ha with
      | bptr _ _ L hL =>
        have ho := (hr.obj id L hL).2
        rw [hob] at ho
        have ho2 := ho
        obtain ⟨_, c, t, hc, _, _⟩ := ho
        have hcell := fun x0 hr0 => z9l ho2 (hrow es hob) hc (j := 0) (x := x0) hr0
        split at hs
        · rename_i x1 x0 hds
          cases hs
          obtain ⟨h1, hlt, _⟩ := hcell x0 rfl
          have hsz1 : ti.size = 1 := by rw [← hlen, z17 hds]; rfl
          refine y82 ht.size hr hob hL h1 hds hn hlen hone hcv hpos (by omega) _ (fun i => ?_) new
          simp only [std, eBu]
          by_cases hi : off = i
          · subst hi; simp; omega
          · rw [if_neg hi, if_neg (by simp; omega)]
        · rename_i ds x0 _ hds
          cases hs
          obtain ⟨h1, hlt, _⟩ := hcell x0 rfl
          have hdl : ds.length = cells.length := by rw [z17 hds, z0z]
          have hroom : off + ds.length ≤ es.length := by
            simp only [std, w4y] at hres
            exact eAh hres
          have := y82 (off := off) ht.size hr hob hL h1 hds hn hlen hone hcv hpos (by omega) (std.splice es off (w4r ds)) (fun i => by
            have := z5o es (w4r ds) off i (by rw [x8y]; exact hroom)
            simp only [std, x8y] at this ⊢
            rw [this, x1p]) new
          obtain ⟨v', w', ρ', a1, a2, a3, a4, a5⟩ := this
          exact ⟨v', w', ρ', a1, a2, a3, a4, a5⟩
        · cases hs
    · cases hs
  ·
    rename_i id i off
    split at hs
    ·
      rename_i es hob
      split at hs
      · rename_i ds hds
        split at hs
        · rename_i l hov
          cases hs
          cases ha with
          | ptr _ _ _ L hL =>
            obtain ⟨_, ho⟩ := hr.obj id L hL
            rw [hob] at ho
            obtain ⟨hz, c, t, hc, hle, hj⟩ := ho
            obtain ⟨r0, hri, hrle⟩ := hrow.1 es hob
            obtain ⟨o1, o2, o3⟩ := y0a hov
            have hrl0 := hle i r0 hri
            have hrl : r.length = L.esz := hrle.1.trans hrl0
            have hdl : ds.length = cells.length := by rw [z17 hds, z0z]
            have hroom : L.base + i * L.esz + off + ti.size ≤ c.size := by
              have hlt : L.esz - 1 < r0.length := by omega
              obtain ⟨v, hv, _, _⟩ := hj i r0 (L.esz - 1) _ hri (eAb hlt)
              have := (eAe.1 hv).1
              omega
            have hrun := z86 (P := P) ht.size hc hn hone hroom
            have hlive : (z0f h id).live = true := by rw [hob]; rfl
            have hbs : ∀ m, z1a w L.blk = some m → z1a (World.setObj w L.blk (.cells (c.toList.take (L.base + i * L.esz + off) ++ vx.cells.toList ++ c.toList.drop (L.base + i * L.esz + off + vx.cells.toList.length)).toArray t (0, 0))) L.blk = some m := by
              intro m hm
              rw [z0y hc] at hm; cases hm
              rw [z0y (z0t _ _ _ (eAe.1 hc).1)]
              congr 1
              simp; omega
            rw [hp]
            have hk := z12 hr hL hlive (.row (std.set es i l)) rfl _ hbs
            refine ⟨undef, _, ρ, by simp only [z49, Sem.run_bind, hrun, Result.andThen_ok, Sem.run_pure], .bot _, hr.set hL hlive _ rfl _ hbs ?_, Ext.set _ hr hL hlive _ rfl _ hbs, .inl rfl⟩
            have hvl : vx.cells.toList.length = cells.length := by simpa using hsz
            refine ⟨hz, _, t, z0t _ _ _ (eAe.1 hc).1, fun k q hq => ?_, fun k q j y hq hy => ?_⟩
            · simp only [std, eBu] at hq
              split at hq
              · split at hq
                · cases hq; omega
                · cases hq
              · exact hle k q hq
            · have hsp := z5o c.toList vx.cells.toList (L.base + i * L.esz + off) (L.base + k * L.esz + j) (by simp; omega)
              rw [eCa]
              simp only [std, eBu] at hq
              split at hq
              · rename_i hki
                subst hki
                split at hq
                · cases hq
                  rw [o3 j] at hy
                  by_cases hin : off ≤ j ∧ j < off + ds.length
                  · rw [if_pos hin] at hy
                    have hy2 : cells[j - off]? = some (.d y) := by rw [z17 hds, z1l, hy]; rfl
                    obtain ⟨u, hu, hrel⟩ := hcv _ _ hy2
                    rw [if_pos (by omega)] at hsp
                    rw [hsp, show L.base + i * L.esz + j - (L.base + i * L.esz + off) = j - off by omega]
                    cases hrel with
                    | d hrel => exact ⟨u, by simpa using hu, hone u (by rw [eAe] at hu; obtain ⟨h1, h2⟩ := hu; rw [← h2]; simp), hrel.keep hk⟩
                  · rw [if_neg hin] at hy
                    obtain ⟨y0, hy0, hyle⟩ := hrle.2 j y hy
                    obtain ⟨u, hu, hu1, hrel⟩ := hj i r0 j y0 hri hy0
                    rw [if_neg (by omega)] at hsp
                    exact ⟨u, by rw [hsp]; simpa using hu, hu1, (hrel.le hyle).keep hk⟩
                · cases hq
              · rename_i hki
                obtain ⟨u, hu, hu1, hrel⟩ := hj k q j y hq hy
                have hqj : j < L.esz := by rw [← hle k q hq]; exact (eAa.1 hy).1
                have hne : ¬ (L.base + i * L.esz + off ≤ L.base + k * L.esz + j ∧ L.base + k * L.esz + j < L.base + i * L.esz + off + vx.cells.toList.length) := by
                  rintro ⟨g1, g2⟩
                  rcases Nat.lt_or_gt_of_ne hki with hlt | hlt
                  · have : (i + 1) * L.esz ≤ k * L.esz := eAv _ hlt
                    rw [eAr] at this; omega
                  · have : (k + 1) * L.esz ≤ i * L.esz := eAv _ hlt
                    rw [eAr] at this; omega
                rw [if_neg hne] at hsp
                exact ⟨u, by rw [hsp]; simpa using hu, hu1, hrel.keep hk⟩
        · cases hs
      · split at hs
        · rename_i l hov
          cases hs
          cases ha with
          | ptr _ _ _ L hL =>
            have ho := (hr.obj id L hL).2
            rw [hob] at ho
            obtain ⟨r0, hri, hrle⟩ := hrow.1 es hob
            have hil : i < (z5m es).length := by
              have := y5s es i
              rw [hri] at this
              exact (eAa.1 this).1
            have := y83 ht.size hr hL (by rw [hob]; rfl) (w8y ho hri hrle) (i := i) (ra := toA r) (by rw [eBu]; simp [hil]) hov hn hsz hone hcv hpos hlen new
            rw [List.set_set] at this
            exact this
        · cases hs
    ·
      rename_i es hob
      split at hs
      · rename_i l hov
        cases hs
        cases ha with
        | ptr _ _ _ L hL =>
          have ho := (hr.obj id L hL).2
          rw [hob] at ho
          exact y83 ht.size hr hL (by rw [hob]; rfl) ho (hrow.2 es hob) hov hn hsz hone hcv hpos hlen new
      · cases hs
    · cases hs
  · cases hs
end Go.Am
end
section
namespace Go.Am
section
variable {P:Program} {ρ:Rho} {h:List AO} {w:World}
theorem x8e {T:TypeId} {ti:TI} (c:z7c P T ti) (w:World):∃ z:Value,(zeroValue T).run P w= .ok z w∧z.cells.size=ti.size∧(ti.agg=true→∃ cs,z= .agg cs)∧(ti.agg=false→∀ cs,z≠ .agg cs)∧
  ∀ (O:Nat→Prop) (w':World) (j:Nat) (d:D),ti.zero[j]?=some d→∃ v,z.cells[j]?=some v∧z1k O w' d v:=by
 obtain ⟨i,z,k,a,l,g,m,f⟩:=c.zero
 obtain ⟨o,n⟩:=z8u l
 refine ⟨z,by simp [zeroValue,typeInfo,k,a],by rw [←g,o]; simp,m,f,fun O w' j d h=>?_⟩
 obtain ⟨v,b,e⟩:=n O w' j d h
 exact ⟨v,by simpa using b,e⟩
theorem y3q (hr:z0b P ρ h w) {new:Nat} (b:ρ new=none) {T:TypeId} {s:Sem Value} (c:Array Value) (x:AV) (o:AO) (cap:Nat) (a:Nat) (v:Value)
  (e:s.run P w= .ok v (World.push w (.cells c T)))
  (f:z1c P (ρ.put new ⟨w.heap.size,0,a⟩) (z0d (ρ.put new ⟨w.heap.size,0,a⟩) (z03 h new o)) (World.push w (.cells c T)) ⟨w.heap.size,0,a⟩ o)
  (d:z0n (ρ.put new ⟨w.heap.size,0,a⟩) (z0d (ρ.put new ⟨w.heap.size,0,a⟩) (z03 h new o)) (World.push w (.cells c T)) x v):
  z0o P ρ h w new s ⟨true,x,[(new,o)]⟩:=
 ⟨v,_,_,e,d,hr.new b a o _ f,Ext.new hr b _ o _ rfl, .inr ⟨o,by simp⟩⟩
theorem x3k {k:IntKind} {l:List D} (h:y2m k l=true):∀ x∈l,x= .int k 0:=by
 induction l with
 |nil=>simp
 |cons d l c=>
  unfold y2m at h
  split at h
  ·rename_i b; cases b
  ·rename_i f e b
   cases b
   simp only [eAc,beq_iff_eq] at h
   intro x a
   rcases eAm.1 a with rfl|a
   ·rw [h.1]; rfl
   ·exact c h.2 x a
  ·cases h
theorem w3j {ti:TI} {k:IntKind} (h:w3k ti=some k):∀ x∈ti.zero,x= .int k 0:=by
 unfold w3k at h
 cases b:Nat.ble 20 ti.size with
 |false=>rw [b] at h; cases h
 |true=>
  rw [b] at h
  simp only [cond_true] at h
  split at h
  ·rename_i c n l d
   cases a:y2m c ti.zero with
   |false=>rw [a] at h; cases h
   |true=>rw [a] at h; cases h; exact x3k a
  ·cases h
theorem x66 {ds:List D} (h:y63 ds=true):∀ x∈ds,v5v x=true:=by
 induction ds with
 |nil=>simp
 |cons d l b=>
  simp only [y63,eAc] at h
  intro x a
  rcases eAm.1 a with rfl|a
  ·exact h.1
  ·exact b h.2 x a
theorem w11 {O:Nat→Prop} {x:D} {v:Value} (h:v5v x=true) (hr:z1k O w x v):v.oneCell'=true:=by
 cases hr<;>first|rfl|cases h
theorem x27 {T : TypeId} {ti : TI} (ht : z7c P T ti) (hr : z0b P ρ h w) {new : Nat} (hn : ρ new = none) {res : Res} (hs : y2l std ti new = some res) :
    z0o P ρ h w new (Instr.alloc T true (.tuple #[])) res := by
  unfold y2l at hs
  cases hb : Nat.ble 1 ti.size with
  | false => rw [hb] at hs; cases hs
  | true =>
  rw [hb] at hs
  simp only [cond_true] at hs
  obtain ⟨z, hz, hzs, _, _, hzr⟩ := x8e ht w
  have hzl : ti.zero.length = ti.size := by obtain ⟨_, _, _, _, _, hl, _⟩ := ht.zero; exact hl
  split at hs
  · rename_i k hw
    cases hs
    have hall := w3j hw
    refine y3q hr hn (T := T) z.cells (.bptr new 0) (.row (List.replicate ti.size [.int k 0])) 0 1 (.pointer (some ⟨w.heap.size, 0, none⟩)) ?_ ?_ ?_
    · simp only [Instr.alloc, Sem.run_bind, hz, Result.andThen_ok, newVar, newRow, run_newObj, Sem.run_pure]; rfl
    · refine ⟨Nat.one_pos, z.cells, T, z4c _ _, fun i r hi => ?_, fun i r j x hi hx => ?_⟩
      · rw [eCe] at hi
        split at hi
        · cases hi; rfl
        · cases hi
      · rw [eCe] at hi
        split at hi
        · rename_i hlt
          cases hi
          cases j with
          | succ j => simp at hx
          | zero =>
            simp at hx; subst hx
            have hq : ti.zero[i]? = some (.int k 0) := by
              rw [eAb (by omega)]
              exact congrArg some (hall _ (eCk _))
            obtain ⟨v, hv, hrel⟩ := hzr (z0d (ρ.put new ⟨w.heap.size, 0, 1⟩) (z03 h new (.row (List.replicate ti.size [.int k 0])))) (World.push w (.cells z.cells T)) i _ hq
            refine ⟨v, by simpa using hv, ?_, hrel⟩
            cases hrel; rfl
        · cases hi
    · exact .bptr new 0 ⟨w.heap.size, 0, 1⟩ (Rho.put_same _ _ _)
  cases hs
  refine y3q hr hn (T := T) z.cells (.bptr new 0) (.box (toA ti.zero)) 0 ti.size (.pointer (some ⟨w.heap.size, 0, none⟩)) ?_ ?_ ?_
  · simp only [Instr.alloc, Sem.run_bind, hz, Result.andThen_ok, newVar, newRow, run_newObj, Sem.run_pure]; rfl
  · refine ⟨rfl, z.cells, T, z4c _ _, fun j x hx => ?_⟩
    rw [z1l] at hx
    cases hq : ti.zero[j]? with
    | none => simp [hq] at hx
    | some d =>
      simp [hq] at hx; subst hx
      obtain ⟨v, hv, hrel⟩ := hzr (z0d (ρ.put new ⟨w.heap.size, 0, ti.size⟩) (z03 h new (.box (toA ti.zero)))) (World.push w (.cells z.cells T)) j d hq
      exact ⟨v, by simpa using hv, .d hrel⟩
  · exact .bptr new 0 ⟨w.heap.size, 0, ti.size⟩ (Rho.put_same _ _ _)
theorem w08 {T : TypeId} {ti : TI} (ht : z7c P T ti) (hr : z0b P ρ h w) {new : Nat} (hn : ρ new = none) {x : AV} {v : Value} (hx : z0n ρ (z0d ρ h) w x v) {res : Res}
    (hs : x02 ti new x = some res) : z0o P ρ h w new (Instr.box T v) res := by
  unfold x02 at hs
  cases hb : Nat.ble 1 ti.size with
  | false => rw [hb] at hs; cases hs
  | true =>
  rw [hb] at hs
  simp only [cond_true] at hs
  split at hs
  · rename_i l hl
    cases hc : z8p l ti.size with
    | false => rw [hc] at hs; cases hs
    | true =>
    rw [hc] at hs
    simp only [cond_true] at hs
    obtain ⟨h1, h2⟩ := y33 hl hx
    split at hs
    · split at hs
      · rename_i ds hds
        cases hld : y63 ds with
        | false => rw [hld] at hs; cases hs
        | true =>
        rw [hld] at hs; cases hs
        refine y3q hr hn (T := T) v.cells (.bptr new 0) (.row (w4r ds)) 0 1 (.pointer (some ⟨w.heap.size, 0, none⟩)) ?_ ?_ ?_
        · simp only [Instr.box, Sem.run_bind, newVar, newRow, run_newObj, Result.andThen_ok, Sem.run_pure]; rfl
        · refine ⟨Nat.one_pos, v.cells, T, z4c _ _, fun i r hi => ?_, fun i r j x hi hx => ?_⟩
          · rw [x1p] at hi
            cases hd : ds[i]? with
            | none => rw [hd] at hi; cases hi
            | some d => rw [hd] at hi; cases hi; rfl
          · rw [x1p] at hi
            cases hd : ds[i]? with
            | none => rw [hd] at hi; cases hi
            | some d =>
              rw [hd] at hi; cases hi
              cases j with
              | succ j => simp at hx
              | zero =>
                simp at hx; subst hx
                obtain ⟨u, hu, hrel⟩ := h2 i (.d d) (by rw [z17 hds, z1l, hd]; rfl)
                cases hrel with
                | d hrel => exact ⟨u, by simpa using hu, w11 (x66 hld d (eAi hd)) hrel, hrel.keep (z65 hr hn _ _ _ rfl)⟩
        · exact .bptr new 0 ⟨w.heap.size, 0, 1⟩ (Rho.put_same _ _ _)
      · cases hs
    cases hs
    refine y3q hr hn (T := T) v.cells (.bptr new 0) (.box l) 0 ti.size (.pointer (some ⟨w.heap.size, 0, none⟩)) ?_ ?_ ?_
    · simp only [Instr.box, Sem.run_bind, newVar, newRow, run_newObj, Result.andThen_ok, Sem.run_pure]; rfl
    · refine ⟨rfl, v.cells, T, z4c _ _, fun j y hy => ?_⟩
      obtain ⟨u, hu, hrel⟩ := h2 j y hy
      exact ⟨u, by simpa using hu, hrel.keep (z65 hr hn _ _ _ rfl) (Rho.put_mono _ _ _ hn)⟩
    · exact .bptr new 0 ⟨w.heap.size, 0, ti.size⟩ (Rho.put_same _ _ _)
  · cases hs
theorem w5s (cs vs:List Value) (off:Nat) (b:Array Value) (k:Nat):
  ((vs.zipIdx k).foldl (fun (a:Array Value) (x:Value×Nat)=>a.setIfInBounds (off+x.2) x.1) b).size=b.size∧
  (off+k+vs.length≤b.size→∀ j,((vs.zipIdx k).foldl (fun (a:Array Value) (x:Value×Nat)=>a.setIfInBounds (off+x.2) x.1) b)[j]?=
   if off+k≤j∧j<off+k+vs.length then vs[j - (off+k)]? else b[j]?):=by
 induction vs generalizing b k with
 |nil=>simp; intro _ j f e; omega
 |cons v vs g=>
  simp only [List.zipIdx_cons,eCj]
  obtain ⟨f,e⟩:=g (b.setIfInBounds (off+k) v) (k+1)
  refine ⟨by rw [f]; simp,fun c j=>?_⟩
  rw [e (by simp at c⊢; omega) j,eDc]
  simp only [eBn] at c⊢
  by_cases h:j=off+k
  ·subst h
   rw [if_neg (by omega),if_pos rfl,if_pos (by omega),if_pos (by omega)]
   simp
  ·rw [if_neg (show ¬ off+k=j by omega)]
   by_cases d:off+(k+1)≤j∧j<off+(k+1)+vs.length
   ·rw [if_pos d,if_pos (by omega),show j - (off+k)=(j - (off+(k+1)))+1 by omega]; simp
   ·rw [if_neg d,if_neg (by omega)]
theorem y5f {O:Nat→Prop} (place:Nat→Option (Nat×Nat)):∀ (parts:List (Nat×AV)) (g:List (Nat×Value)) (cells r:List AV) (f:Array Value),
  y8m place cells parts=some r→g.length=parts.length→(∀ (k:Nat) (x:Nat×AV) (y:Nat×Value),parts[k]?=some x→g[k]?=some y→x.1=y.1∧z0n ρ O w x.2 y.2)→
  f.size=cells.length→(∀ (j:Nat) (x:AV),cells[j]?=some x→∃ v,f[j]?=some v∧z0n ρ O w x v)→
  ∃ rv:Array Value,Instr.fill place f g=some rv∧rv.size=r.length∧(∀ (j:Nat) (x:AV),r[j]?=some x→∃ v,rv[j]?=some v∧z0n ρ O w x v)
 |[],g,cells,r,f,c,q,B,z,F=>by
  simp [y8m] at c; subst c
  cases g with
  |nil=>exact ⟨f,rfl,z,F⟩
  |cons _ _=>simp at q
 |(i,x)::rest,g,cells,r,f,c,q,B,z,F=>by
  cases g with
  |nil=>simp at q
  |cons y g=>
   obtain ⟨K,v⟩:=y
   obtain ⟨e,s⟩:=B 0 (i,x) (K,v) (by simp) (by simp)
   simp at e; subst e
   simp only [y8m] at c
   split at c
   ·rename_i off size cs A E
    cases p:z8p cs size with
    |false=>rw [p] at c; cases c
    |true=>
    rw [p] at c
    simp only [cond_true] at c
    split at c
    ·rename_i l C
     obtain ⟨H,T⟩:=y33 E s
     obtain ⟨J,U,I⟩:=y0a C
     have t:=z8o p
     obtain ⟨S,G⟩:=w5s [] v.cells.toList off f 0
     simp only [eBa] at G
     have L:v.cells.toList.length=cs.length:=by simpa using H
     have d:off+v.cells.toList.length≤f.size:=by omega
     have h:v.cells.zipIdx.foldl (fun cs (x:Value×Nat)=>cs.setIfInBounds (off+x.2) x.1) f=(v.cells.toList.zipIdx 0).foldl (fun (a:Array Value) (x:Value×Nat)=>a.setIfInBounds (off+x.2) x.1) f:=by
      rw [←Array.foldl_toList]; simp
     obtain ⟨rv,R,Q,P⟩:=y5f place rest g l r _ c (by simpa using q) (fun k a b N p=>B (k+1) a b (by simpa using N) (by simpa using p))
      (by rw [S,z, ←J]) (fun j y m=>by
       rw [G d j]
       rw [I j] at m
       by_cases o:off≤j∧j<off+cs.length
       ·rw [if_pos o] at m
        rw [if_pos (by omega)]
        obtain ⟨u,M,n⟩:=T _ y m
        exact ⟨u,by simpa using M,n⟩
       ·rw [if_neg o] at m
        rw [if_neg (by omega)]
        exact F j y m)
     refine ⟨rv,?_,Q,P⟩
     simp only [Instr.fill,A]
     rw [if_neg]
     ·rw [h]; exact R
     ·simp only [eAt,decide_eq_true_eq,not_or]
      rw [eBw] at d
      refine ⟨not_not_intro (H.trans t),by omega⟩
    ·cases c
   ·cases c
theorem y58 (w:World) (fs:Array Field) (l:List (Nat×Nat×Bool)) (a:l.length=fs.size) (h:∀ (i:Nat) (x:Nat×Nat×Bool),l[i]?=some x→∃ f:Field,fs[i]?=some f∧f.offset=x.1∧z91 P f.type=some x.2.1∧z4j P f.type=some x.2.2):
  ∃ b:Array (Nat×Nat),(fs.mapM (fun f=>(do pure (f.offset, ←sizeOf f.type):Sem (Nat×Nat)))).run P w= .ok b w∧∀ i,b[i]?=(z19 l i).map fun f=>(f.1,f.2.1):=by
 have key:∀ (fl:List Field) (l:List (Nat×Nat×Bool)),l.length=fl.length→(∀ (i:Nat) (x:Nat×Nat×Bool),l[i]?=some x→∃ f:Field,fl[i]?=some f∧f.offset=x.1∧z91 P f.type=some x.2.1∧z4j P f.type=some x.2.2)→
   (fl.mapM (fun f=>(do pure (f.offset, ←sizeOf f.type):Sem (Nat×Nat)))).run P w= .ok (l.map fun f=>(f.1,f.2.1)) w:=by
  intro fl
  induction fl with
  |nil=>intro l a _; cases l<;>simp at a⊢
  |cons f fl d=>
   intro l a h
   cases l with
   |nil=>simp at a
   |cons x l=>
    obtain ⟨m,c,k,j,_⟩:=h 0 x (by simp)
    simp at c; subst c
    have:=d l (by simpa using a) (fun i y e=>by simpa using h (i+1) y (by simpa using e))
    simp only [List.mapM_cons,Sem.run_bind,z1f j,Result.andThen_ok,Sem.run_pure,this,eDq,k]
 refine ⟨(l.map fun f=>(f.1,f.2.1)).toArray,?_,fun i=>by simp [z1s]⟩
 rw [Array.mapM_eq_mapM_toList]
 simp only [Sem.run_map,key fs.toList l (by simpa using a) (fun i x g=>by simpa using h i x g),Result.andThen_ok]
def y5j (ρ:Rho) (O:Nat→Prop) (w:World) (parts:List (Nat×AV)) (a:List (Nat×Value)):Prop:=
 a.length=parts.length∧∀ (k:Nat) (x:Nat×AV) (y:Nat×Value),parts[k]?=some x→a[k]?=some y→x.1=y.1∧z0n ρ O w x.2 y.2
theorem y4d {T:TypeId} {ti:TI} {z:Value} {O:Nat→Prop} (c:∀ (O:Nat→Prop) (w':World) (j:Nat) (d:D),ti.zero[j]?=some d→∃ v,z.cells[j]?=some v∧z1k O w' d v):
  ∀ (j:Nat) (x:AV),(toA ti.zero)[j]?=some x→∃ v,z.cells[j]?=some v∧z0n ρ O w x v:=by
 intro j x b
 rw [z1l] at b
 cases e:ti.zero[j]? with
 |none=>simp [e] at b
 |some d=>
  simp [e] at b; subst b
  obtain ⟨v,f,a⟩:=c O w j d e
  exact ⟨v,f, .d a⟩
theorem y4o {O:Nat→Prop} {l:List AV} {x:AV} (e:z60 true l=some x) {rv:Array Value} (f:rv.size=l.length) (h:∀ (j:Nat) (x:AV),l[j]?=some x→∃ v,rv[j]?=some v∧z0n ρ O w x v):
  z0n ρ O w x (.agg rv):=by
 obtain ⟨v,b,a⟩:=z5r e rv.toList (by simpa using f) (fun j y v d b=>by
  obtain ⟨u,c,a⟩:=h j y d
  have:rv[j]?=some v:=by simpa using b
  rw [this] at c; cases c; exact a)
 simp at b; subst b; exact a
theorem x25 {T:TypeId} {ti:TI} (A:z7c P T ti) (hr:z0b P ρ h w) {new:Nat} {parts:List (Nat×AV)} {q:Array (Nat×Value)}
  (r:y5j ρ (z0d ρ h) w parts q.toList) {res:Res} (a:z93 ti parts=some res):z0o P ρ h w new (Instr.build T q) res:=by
 obtain ⟨d,I,Q,s⟩:=A.desc
 obtain ⟨z,H,j,M,L,k⟩:=x8e A w
 have m:ti.zero.length=ti.size:=by obtain ⟨_,_,_,_,_,o,_⟩:=A.zero; exact o
 unfold z93 at a
 split at a
 ·rename_i J g
  rw [g] at s
  obtain ⟨b,rfl,E,c⟩:=s
  split at a
  ·rename_i l o
   obtain ⟨x,y,rfl⟩:=z3i a
   obtain ⟨K,B,C⟩:=y58 (P:=P) w b J E c
   obtain ⟨u,t,G,F⟩:=y5f (ρ:=ρ) (w:=w) (O:=z0d ρ h) _ parts q.toList (toA ti.zero) l z.cells o r.1 r.2 (by rw [z0z,m,j]) (y4d (T:=T) k)
   have p:(fun i=>(z19 J i).map fun f=>(f.1,f.2.1))=(fun i=>K[i]?):=by funext i; rw [C i]
   rw [p] at t
   refine z0o.pure (v:= .agg u) hr ?_ (y4o y G F)
   simp only [Instr.build,Sem.run_bind,H,Result.andThen_ok,z0g I,B,t,Sem.run_pure]
  ·cases a
 ·rename_i n R S g
  rw [g] at s
  obtain ⟨e,rfl,c,N⟩:=s
  split at a
  ·rename_i l o
   obtain ⟨x,y,rfl⟩:=z3i a
   obtain ⟨u,t,G,F⟩:=y5f (ρ:=ρ) (w:=w) (O:=z0d ρ h) _ parts q.toList (toA ti.zero) l z.cells o r.1 r.2 (by rw [z0z,m,j]) (y4d (T:=T) k)
   refine z0o.pure (v:= .agg u) hr ?_ (y4o y G F)
   simp only [Instr.build,Sem.run_bind,H,Result.andThen_ok,z0g I,z1f c,t,Sem.run_pure]
  ·cases a
 ·cases a
theorem z87 {T:TypeId} {ti:TI} (m:z7c P T ti) {fs:List (Nat×Nat×Bool)} (i:ti.desc= .struct fs) {f:Nat} {x:Nat×Nat×Bool} (l:fs[f]?=some x) (j:1≤x.2.1) (b o:Nat):
  (Instr.fieldAt T (.pointer (some ⟨b,o,none⟩)) f).run P w= .ok (.pointer (some ⟨b,o+x.1,none⟩)) w:=by
 obtain ⟨d,r,q,k⟩:=m.desc
 rw [i] at k
 obtain ⟨a,rfl,p,h⟩:=k
 obtain ⟨g,hg,n,c,_⟩:=h f x l
 have e:x.2.1≠0:=by omega
 simp only [Instr.fieldAt,Sem.run_bind,z0g r,Result.andThen_ok,hg,Instr.sureAddr,Sem.run_pure,fieldPlace,z1f c,e,if_false,Sem.run_ite,z5j,n]
theorem x21 {T:TypeId} {ti:TI} (l:z7c P T ti) (hr:z0b P ρ h w) {new f:Nat} {a:AV} {v:Value} (m:z0n ρ (z0d ρ h) w a v) {res:Res} (c:y2j ti f a=some res):
  z0o P ρ h w new (Instr.fieldAt T v f) res:=by
 unfold y2j at c
 split at c
 ·split at c
  ·rename_i x d
   split at c
   ·rename_i o s g j
    rw [z1s] at j
    cases e:Nat.ble 1 s with
    |false=>rw [e] at c; cases c
    |true=>
    rw [e] at c; cases c
    cases m with
    |bptr id off L u=>
     refine z0o.pure hr (z87 l d j (eAh e) _ _) ?_
     rw [eBv]; exact .bptr _ _ L u
   ·cases c
  ·cases c
 ·split at c
  ·rename_i x d
   split at c
   ·rename_i o s g j
    rw [z1s] at j
    cases e:Nat.ble 1 s with
    |false=>rw [e] at c; cases c
    |true=>
    rw [e] at c; cases c
    cases m with
    |ptr id i off L u=>
     refine z0o.pure hr (z87 l d j (eAh e) _ _) ?_
     rw [eBv]; exact .ptr _ _ _ L u
   ·cases c
  ·cases c
 ·split at c
  ·rename_i x d
   split at c
   ·rename_i o s g j
    rw [z1s] at j
    cases e:Nat.ble 1 s with
    |false=>rw [e] at c; cases c
    |true=>
    rw [e] at c; cases c
    cases m with
    |wptr r off b n z k hO p t=>
     refine z0o.pure hr (z87 l d j (eAh e) _ _) ?_
     rw [eBv]; exact .wptr _ _ b n z k hO p t
   ·cases c
  ·cases c
 ·split at c
  ·rename_i x d
   split at c
   ·rename_i o s g j
    rw [z1s] at j
    cases e:Nat.ble 1 s with
    |false=>rw [e] at c; cases c
    |true=>
    rw [e] at c; cases c
    cases m with
    |lptr r off b n k hO cell y q=>
     refine z0o.pure hr (z87 l d j (eAh e) _ _) ?_
     rw [eBv]; exact .lptr _ _ b n k hO cell y q
   ·cases c
  ·cases c
 ·cases c
theorem x4v (vs:Array Value) (o s:Nat):(vs.extract o (o+s)).toList=(vs.toList.drop o).take s:=by
 simp [Array.toList_extract,List.extract_eq_take_drop]
theorem z1g {α:Type} (l:List α) (o s j:Nat):((l.drop o).take s)[j]?=if j<s then l[o+j]? else none:=by
 rw [eDs]; split<;>simp [eCg]
theorem y0z {t:TypeId} {s:Nat} {a:Bool} (g:z91 P t=some s) (f:z4j P t=some a) (vs:Array Value) (o:Nat) (cs:List Value) (b:cs.length=s)
  (hg:∀ j,j<s→cs[j]?=vs[o+j]?) (v:Value) (c:if a then v= .agg cs.toArray else cs=[v]):(Go.part t vs o).run P w= .ok v w:=by
 cases a with
 |true=>
  simp at c; subst c
  have e:vs.extract o (o+s)=cs.toArray:=by
   apply Array.ext'
   rw [x4v]
   apply eBt
   intro j
   rw [z1g]
   split
   ·rename_i d; rw [hg j d]; simp
   ·rename_i d; symm; simp; omega
  simp only [Go.part,Sem.run_bind,x1f f,Result.andThen_ok,if_true,z1f g,Sem.run_pure,e,Sem.run_ite]
 |false=>
  simp at c; subst c
  simp at b; subst b
  have:=hg 0 (by omega)
  simp at this
  simp [Go.part,x1f f, ←this]
theorem y9h {O:Nat→Prop} {l c:List AV} {o s:Nat} (m:part l o s=some c) {vs:Array Value} (p:vs.size=l.length) (k:∀ (i:Nat) (x:AV),l[i]?=some x→z0n ρ O w x (vs.getD i undef)):
  ∃ cs:List Value,cs.length=c.length∧(∀ j,j<s→cs[j]?=vs[o+j]?)∧∀ (j:Nat) (y:AV) (v:Value),c[j]?=some y→cs[j]?=some v→z0n ρ O w y v:=by
 obtain ⟨f,e⟩:=z3k m
 have d:∀ j,j<s→o+j<l.length:=by
  intro j a
  have:=e j a
  rw [eAb (show j<c.length by omega)] at this
  exact (eAa.1 this).1
 refine ⟨(vs.toList.drop o).take s,?_,fun j a=>by rw [z1g,if_pos a]; simp,fun j y v g b=>?_⟩
 ·rw [eBo,eFj,eBw,f]
  rcases Nat.eq_zero_or_pos s with n|n
  ·omega
  ·have:=d (s - 1) (by omega); omega
 ·have a:j<s:=by rw [←f]; exact (eAa.1 g).1
  rw [z1g,if_pos a] at b
  have h:=k (o+j) y (by rw [e j a]; exact g)
  rw [z9c (show vs[o+j]?=some v by simpa using b)] at h
  exact h
theorem y9g {O:Nat→Prop} {l c:List D} {o s:Nat} (m:part l o s=some c) {vs:Array Value} (p:vs.size=l.length) (k:∀ (i:Nat) (x:D),l[i]?=some x→z1k O w x (vs.getD i undef)):
  ∃ cs:List Value,cs.length=c.length∧(∀ j,j<s→cs[j]?=vs[o+j]?)∧∀ (j:Nat) (y:D) (v:Value),c[j]?=some y→cs[j]?=some v→z1k O w y v:=by
 obtain ⟨f,e⟩:=z3k m
 have d:∀ j,j<s→o+j<l.length:=by
  intro j a
  have:=e j a
  rw [eAb (show j<c.length by omega)] at this
  exact (eAa.1 this).1
 refine ⟨(vs.toList.drop o).take s,?_,fun j a=>by rw [z1g,if_pos a]; simp,fun j y v g b=>?_⟩
 ·rw [eBo,eFj,eBw,f]
  rcases Nat.eq_zero_or_pos s with n|n
  ·omega
  ·have:=d (s - 1) (by omega); omega
 ·have a:j<s:=by rw [←f]; exact (eAa.1 g).1
  rw [z1g,if_pos a] at b
  have h:=k (o+j) y (by rw [e j a]; exact g)
  rw [z9c (show vs[o+j]?=some v by simpa using b)] at h
  exact h
theorem y50 {T:TypeId} {ti:TI} (K:z7c P T ti) (hr:z0b P ρ h w) {new f:Nat} {a:AV} {v:Value} (J:z0n ρ (z0d ρ h) w a v) {res:Res} (b:z7e ti f a=some res):
  z0o P ρ h w new (Instr.field T v f) res:=by
 obtain ⟨d,I,L,z⟩:=K.desc
 unfold z7e at b
 split at b
 ·split at b
  ·rename_i M n
   rw [n] at z
   obtain ⟨e,rfl,E,m⟩:=z
   split at b
   ·rename_i o s g r
    rw [z1s] at r
    obtain ⟨fl,p,u,l,q⟩:=m f _ r
    split at b
    ·rename_i c t
     obtain ⟨x,i,rfl⟩:=z3i b
     cases J with
     |d F=>cases F with
      |agg ds A C B=>
       obtain ⟨cs,y,H,G⟩:=y9g t C B
       obtain ⟨v,k,j⟩:=z3w (ρ:=ρ) i cs y G
       refine z0o.pure hr ?_ j
       have:=y0z (P:=P) (w:=w) l q A o cs (y.trans (z3k t).1) H v k
       simp only at u
       simp only [Instr.field,Sem.run_bind,z0g I,Result.andThen_ok,p,asAgg,Sem.run_pure,u,this]
    ·cases b
   ·cases b
  ·cases b
 ·split at b
  ·rename_i M n
   rw [n] at z
   obtain ⟨e,rfl,E,m⟩:=z
   split at b
   ·rename_i o s g r
    rw [z1s] at r
    obtain ⟨fl,p,u,l,q⟩:=m f _ r
    split at b
    ·rename_i c t
     obtain ⟨x,i,rfl⟩:=z3i b
     cases J with
     |agg ds A C B=>
      obtain ⟨cs,y,H,G⟩:=y9h t C B
      obtain ⟨v,k,j⟩:=z5r i cs y G
      refine z0o.pure hr ?_ j
      have:=y0z (P:=P) (w:=w) l q A o cs (y.trans (z3k t).1) H v k
      simp only at u
      simp only [Instr.field,Sem.run_bind,z0g I,Result.andThen_ok,p,asAgg,Sem.run_pure,u,this]
    ·cases b
   ·cases b
  ·cases b
 ·cases b
end
end Go.Am
end
section
namespace Go.Am
section
variable {P:Program} {ρ:Rho} {h:List AO} {w:World}
theorem z8d {T:TypeId} {e:TypeId} (d:P.underlying T=some (.slice e)) {a:Nat} (c:z91 P e=some a) (b o len cap:Nat) (k:IntKind) (i:Int) (g:0≤i) (f:i<len):
  (Instr.indexAt T (.slice (some ⟨b,o,none⟩) len cap) (.int k i)).run P w= .ok (.pointer (some ⟨b,o+i.toNat*a,none⟩)) w:=by
 simp only [Instr.indexAt,asIntOf,Sem.run_bind,Sem.run_pure,Result.andThen_ok,z0g d,Sem.run_ite,g,f,and_self,if_true,z1f c,z5j]
theorem z5a {T:TypeId} {e:TypeId} {n:Nat} (d:P.underlying T=some (.array n e)) {a:Nat} (c:z91 P e=some a) (b o:Nat) (k:IntKind) (i:Int) (g:0≤i) (f:i<n):
  (Instr.indexAt T (.pointer (some ⟨b,o,none⟩)) (.int k i)).run P w= .ok (.pointer (some ⟨b,o+i.toNat*a,none⟩)) w:=by
 simp only [Instr.indexAt,asIntOf,Sem.run_bind,Sem.run_pure,Result.andThen_ok,z0g d,Instr.sureAddr,Sem.run_ite,g,f,and_self,if_true,z1f c,z5j]
theorem z3h {i:Int} (h:std.cmp .geq i 0=true):0≤i:=by simpa [std,z3r] using h
theorem y0o {i j:Int} (h:std.cmp .lss i j=true):i<j:=by simpa [std,z3r] using h
theorem y4v {T : TypeId} {ti : TI} (ht : z7c P T ti) (hr : z0b P ρ h w) {new : Nat} {r : List D} {a ix : AV} {v vi : Value} (ha : z0n ρ (z0d ρ h) w a v) (hi : z0n ρ (z0d ρ h) w ix vi)
    (hrow : ∀ full z es k i, a = .d (.list full z es) → ix = .d (.int k i) → w7s es i.toNat r) {res : Res} (hs : z3f std std ti h r a ix = some res) (hc : res.c = true) :
    z0o P ρ h w new (Instr.indexAt T v vi) res := by
  obtain ⟨d, hd, hda, hk⟩ := ht.desc
  unfold z3f at hs
  split at hs
  ·
    rename_i full z0 es k i
    split at hs
    · rename_i e esz eb ea ez hdesc
      rw [hdesc] at hk
      obtain ⟨rfl, hsz, _, _, _⟩ := hk
      cases hb : Nat.beq z0 esz with
      | false => rw [hb] at hs; cases hs
      | true =>
      rw [hb] at hs; cases hs
      have hzz := eAd hb
      subst hzz
      have h0 := z3h hc
      obtain ⟨r0, hri, hrle⟩ := hrow full z0 es k i rfl rfl
      have hlt := (eAa.1 hri).1
      cases hi with
      | d hi => cases hi with
        | int =>
      cases ha with
      | d ha => cases ha with
        | lnil => simp at hlt
        | list _ _ b o z c hz hne hO hlc hf hsz' cell h1c hcell hh =>
          refine z0o.pure hr (z8d hd hsz b o _ _ k i h0 (by omega)) ?_
          have hlen : r.length = z0 := hrle.1.trans (hsz' _ _ hri)
          have := z0n.lptr (ρ := ρ) (O := z0d ρ h) (w := w) r 0 b (o + i.toNat * z0) (by
              have : 0 < es.length * z0 := Nat.mul_pos (by omega) hz
              exact y2b (hcell 0 this)) hO (fun j => cell (i.toNat * z0 + j)) (fun j hj => by
              rw [eBv]
              refine hcell _ ?_
              have : (i.toNat + 1) * z0 ≤ es.length * z0 := eAv _ hlt
              rw [eAr] at this; omega) (fun j x hx => let ⟨x0, hx0, hxle⟩ := hrle.2 j x hx; (hh _ _ _ _ hri hx0).le hxle)
          simpa using this
    · cases hs
  ·
    rename_i id z off len cap k i
    split at hs
    · rename_i e esz eb ea ez hdesc
      rw [hdesc] at hk
      obtain ⟨rfl, hsz, _, _, _⟩ := hk
      cases hb : Nat.beq z esz with
      | false => rw [hb] at hs; cases hs
      | true =>
      rw [hb] at hs; cases hs
      have hzz := eAd hb
      subst hzz
      simp only [eAc] at hc
      have h0 := z3h hc.1
      have h1 : i < len := y0o hc.2
      cases hi with
      | d hi => cases hi with
        | int =>
      cases ha with
      | nils => omega
      | slice _ _ _ _ _ L a c hL hz haa hcc hle =>
        have hc0 : 0 < c := by omega
        rw [haa hc0]
        refine z0o.pure hr (z8d hd hsz _ _ _ _ k i h0 h1) ?_
        have := z0n.ptr (ρ := ρ) (O := z0d ρ h) (w := w) id (off + i.toNat) 0 L hL
        rw [hz, eAr, eBa, ← eBv] at this
        rw [hz]; exact this
    · cases hs
  ·
    rename_i id off k i
    split at hs
    · rename_i n esz ea hdesc
      rw [hdesc] at hk
      obtain ⟨e, rfl, hsz, _⟩ := hk
      obtain ⟨u, hu, hres⟩ : ∃ u : Nat, u = off + i.toNat * esz ∧ res = ⟨std.cmp .geq i 0 && std.cmp .lss i (std.ofNat n), .bptr id u, []⟩ := by
        split at hs
        · cases hs
          refine ⟨_, ?_, rfl⟩
          show off + _ = _
          congr 1
          cases hb : Nat.beq esz 1 with
          | true => have := eAd hb; subst this; simp [std]
          | false => rfl
        · cases hs; exact ⟨_, rfl, rfl⟩
      subst hres
      simp only [eAc] at hc
      have h0 := z3h hc.1
      have h1 : i < n := y0o hc.2
      cases hi with
      | d hi => cases hi with
        | int =>
      cases ha with
      | bptr _ _ L hL =>
        refine z0o.pure hr (z5a hd hsz _ _ k i h0 h1) ?_
        have := z0n.bptr (ρ := ρ) (O := z0d ρ h) (w := w) id (off + i.toNat * esz) L hL
        rw [← eBv] at this; rw [hu]; exact this
    · cases hs
  ·
    rename_i id j off k i
    split at hs
    · rename_i n esz ea hdesc
      rw [hdesc] at hk
      obtain ⟨e, rfl, hsz, _⟩ := hk
      cases hs
      simp only [eAc] at hc
      have h0 := z3h hc.1
      have h1 : i < n := y0o hc.2
      cases hi with
      | d hi => cases hi with
        | int =>
      cases ha with
      | ptr _ _ _ L hL =>
        refine z0o.pure hr (z5a hd hsz _ _ k i h0 h1) ?_
        have := z0n.ptr (ρ := ρ) (O := z0d ρ h) (w := w) id j (off + i.toNat * esz) L hL
        rw [← eBv] at this; exact this
    · cases hs
  ·
    rename_i c off k i
    split at hs
    · rename_i n esz ea hdesc
      rw [hdesc] at hk
      obtain ⟨e, rfl, hsz, _⟩ := hk
      cases hs
      simp only [eAc] at hc
      have h0 := z3h hc.1
      have h1 : i < n := y0o hc.2
      cases hi with
      | d hi => cases hi with
        | int =>
      cases ha with
      | wptr _ _ b o z hlt hO hz hcc =>
        refine z0o.pure hr (z5a hd hsz _ _ k i h0 h1) ?_
        have hu : std.add off (bif Nat.beq esz 1 then std.nat i else std.mul (std.nat i) esz) = off + i.toNat * esz := by
          show off + _ = _
          congr 1
          cases hb : Nat.beq esz 1 with
          | true => have := eAd hb; subst this; simp [std]
          | false => rfl
        have := z0n.wptr (ρ := ρ) (O := z0d ρ h) (w := w) c (off + i.toNat * esz) b o z hlt hO hz hcc
        rw [← eBv] at this
        show z0n _ _ _ (.wptr c (std.add off _)) _
        rw [hu]; exact this
    · cases hs
  ·
    rename_i c off k i
    split at hs
    · rename_i n esz ea hdesc
      rw [hdesc] at hk
      obtain ⟨e, rfl, hsz, _⟩ := hk
      cases hs
      simp only [eAc] at hc
      have h0 := z3h hc.1
      have h1 : i < n := y0o hc.2
      cases hi with
      | d hi => cases hi with
        | int =>
      cases ha with
      | lptr _ _ b o hlt hO cell hcc hrr =>
        refine z0o.pure hr (z5a hd hsz _ _ k i h0 h1) ?_
        have := z0n.lptr (ρ := ρ) (O := z0d ρ h) (w := w) c (off + i.toNat * esz) b o hlt hO cell hcc hrr
        rw [← eBv] at this; exact this
    · cases hs
  · cases hs
theorem y5z {T:TypeId} {ti:TI} (R:z7c P T ti) (hr:z0b P ρ h w) {new:Nat} {a Q:AV} {v O:Value} (t:z0n ρ (z0d ρ h) w a v) (j:z0n ρ (z0d ρ h) w Q O)
  {res:Res} (f:z7d std std ti a Q=some res) (m:res.c=true):z0o P ρ h w new (Instr.index T v O) res:=by
 obtain ⟨d,J,S,y⟩:=R.desc
 unfold z7d at f
 split at f
 ·rename_i l k i
  split at f
  ·rename_i n K L b
   rw [b] at y
   obtain ⟨e,rfl,g,r⟩:=y
   split at f
   ·rename_i c z
    cases o:z50 L c with
    |none=>rw [o] at f; cases f
    |some x=>
    rw [o] at f; cases f
    simp only [eAc] at m
    have B:=z3h m.1
    have E:i<n:=y0o m.2
    cases j with
    |d j=>cases j with
     |int=>
    cases t with
    |d t=>cases t with
     |agg ds F I G=>
      obtain ⟨cs,C,N,M⟩:=y9g z I G
      obtain ⟨u,q,p⟩:=z3w (ρ:=ρ) o cs C M
      have:=y0z (P:=P) (w:=w) g r F _ cs (C.trans (z3k z).1) N u q
      refine ⟨u,w,ρ,?_,p,hr,Ext.refl _ _ _ _, .inl rfl⟩
      simp only [Instr.index,asIntOf,Sem.run_bind,Sem.run_pure,Result.andThen_ok,z0g J,Sem.run_ite,B,E,and_self,if_true,z1f g]
      exact this
   ·cases f
  ·cases f
 ·rename_i l k i
  split at f
  ·rename_i n K L b
   rw [b] at y
   obtain ⟨e,rfl,g,r⟩:=y
   split at f
   ·rename_i c z
    cases o:z60 L c with
    |none=>rw [o] at f; cases f
    |some x=>
    rw [o] at f; cases f
    simp only [eAc] at m
    have B:=z3h m.1
    have E:i<n:=y0o m.2
    cases j with
    |d j=>cases j with
     |int=>
    cases t with
    |agg ds F I G=>
      obtain ⟨cs,C,N,M⟩:=y9h z I G
      obtain ⟨u,q,p⟩:=z5r o cs C M
      have:=y0z (P:=P) (w:=w) g r F _ cs (C.trans (z3k z).1) N u q
      refine ⟨u,w,ρ,?_,p,hr,Ext.refl _ _ _ _, .inl rfl⟩
      simp only [Instr.index,asIntOf,Sem.run_bind,Sem.run_pure,Result.andThen_ok,z0g J,Sem.run_ite,B,E,and_self,if_true,z1f g]
      exact this
   ·cases f
  ·cases f
 ·rename_i s k i
  split at f
  ·rename_i b
   rw [b] at y
   cases y
   cases f
   simp only [eAc] at m
   have B:=z3h m.1
   have E:i<s.size:=y0o m.2
   cases j with
   |d j=>cases j with
    |int=>
   cases t with
   |d t=>cases t with
    |str=>
     have H:i.toNat<s.size:=by omega
     have A:s[i.toNat]?=some s[i.toNat]:=by simp [H]
     refine z0o.pure hr ?_ (.d (.int _ _))
     simp only [Instr.index,asIntOf,Sem.run_bind,Sem.run_pure,Result.andThen_ok,z0g J,B,if_true,A,std,eAw,eBb]
  ·cases f
 ·cases f
theorem z5b (op:BinOp) (T:TypeId) (k:IntKind) (a b:Int) (c:y1g op= .divs→b≠0) (d:y1g op= .shift→0≤b):
  (binOp op T (.int k a) (.int k b)).run P w= .ok (match y1g op with| .comp=> .bool (z3r op a b)|_=> .int k (x6h op k a b)) w:=by
 cases op<;>simp [binOp,y1g,x6h,z3r,Op.intArith,Op.intDiv,Op.intBits,Op.intCmp,Op.shift] at* <;>first
  |simp [c]
  |(intro e; omega)
  |skip
theorem y6a (op:BinOp) (T:TypeId) (k d:IntKind) (a b:Int) (c:y1g op= .shift) (e:0≤b):
  (binOp op T (.int k a) (.int d b)).run P w= .ok (.int k (x6h op k a b)) w:=by
 cases op<;>simp [y1g] at c<;>simp [binOp,x6h,Op.shift]<;>(intro f; omega)
end
end Go.Am
end
section
namespace Go.Am
def eq1:SK→Value→Value→Option Bool
 | .i, .int k a, .int c b=>if k=c then some (a==b) else none
 | .b, .bool a, .bool b=>some (a==b)
 | .s, .string a, .string b=>some (a.toList==b.toList)
 |_,_,_=>none
def z8v:List SK→List Value→List Value→Option Bool
 |[],[],[]=>some true
 |k::ks,x::xs,y::c=>match eq1 k x y,z8v ks xs c with
  |some a,some b=>some (a&&b)
  |_,_=>none
 |_,_,_=>none
theorem u0n {x y:Value} {b:Bool} (h:eq1 .i x y=some b):∃ k a c,x= .int k a∧y= .int k c∧b=(a==c):=by
 unfold eq1 at h
 split at h
 ·rename_i k a f c _
  by_cases d:k=f
  ·rw [if_pos d] at h; subst d; cases h; exact ⟨_,_,_,rfl,rfl,rfl⟩
  ·rw [if_neg d] at h; cases h
 ·rename_i e; cases e
 ·rename_i e; cases e
 ·cases h
theorem u0o {x y:Value} {b:Bool} (h:eq1 .b x y=some b):∃ a c,x= .bool a∧y= .bool c∧b=(a==c):=by
 unfold eq1 at h
 split at h
 ·rename_i e; cases e
 ·cases h; exact ⟨_,_,rfl,rfl,rfl⟩
 ·rename_i e; cases e
 ·cases h
theorem u0m {x y:Value} {b:Bool} (h:eq1 .s x y=some b):∃ a c,x= .string a∧y= .string c∧b=(a.toList==c.toList):=by
 unfold eq1 at h
 split at h
 ·rename_i e; cases e
 ·rename_i e; cases e
 ·cases h; exact ⟨_,_,rfl,rfl,rfl⟩
 ·cases h
theorem x9v {ks:List SK} {xs a:List Value} {b:Bool} (h:z8v ks xs a=some b):xs.length=ks.length∧a.length=ks.length:=by
 induction ks generalizing xs a b with
 |nil=>cases xs<;>cases a<;>simp [z8v] at h⊢
 |cons k ks c=>
  cases xs with
  |nil=>simp [z8v] at h
  |cons x xs=>
   cases a with
   |nil=>simp [z8v] at h
   |cons y a=>
    simp only [z8v] at h
    split at h
    ·rename_i d; have:=c d; simp; omega
    ·cases h
theorem y95 {d i:List SK} {xs e:List Value} {b:Bool} (h:z8v (d++i) xs e=some b):
  ∃ g f,z8v d (xs.take d.length) (e.take d.length)=some g∧z8v i (xs.drop d.length) (e.drop d.length)=some f∧b=(g&&f):=by
 induction d generalizing xs e b with
 |nil=>exact ⟨true,b,by simp [z8v],by simpa using h,by simp⟩
 |cons k d j=>
  cases xs with
  |nil=>simp [z8v] at h
  |cons x xs=>
   cases e with
   |nil=>simp [z8v] at h
   |cons y e=>
    simp only [eDg,z8v] at h
    split at h
    ·rename_i a c m l
     cases h
     obtain ⟨g,f,o,n,rfl⟩:=j l
     exact ⟨a&&g,f,by simp [z8v,m,o],by simpa using n,by cases a<;>simp⟩
    ·cases h
section
variable {P:Program} {w:World}
def Holds (P:Program) (t:TypeId) (v:Value) (cs:List Value):Prop:=
 ∃ a,z4j P t=some a∧z91 P t=some cs.length∧if a then v= .agg cs.toArray else cs=[v]
theorem z8c {t:TypeId} {s:Nat} {a:Bool} (c:z91 P t=some s) (d:z4j P t=some a) (xs:List Value) (o:Nat) (i:o+s≤xs.length) (h:a=false→s=1):
  ∃ v,(∀ w,(Go.part t xs.toArray o).run P w= .ok v w)∧Holds P t v ((xs.drop o).take s):=by
 have b:((xs.drop o).take s).length=s:=by simp; omega
 cases a with
 |true=>
  refine ⟨.agg ((xs.drop o).take s).toArray,fun w=>y0z c d xs.toArray o _ b (fun j f=>by rw [z1g,if_pos f]; simp) _ rfl,true,d,by rw [b]; exact c,rfl⟩
 |false=>
  have:=h rfl; subst this
  have g:xs[o]?=some xs[o]:=eAb (by omega)
  have e:(xs.drop o).take 1=[xs[o]]:=by
   apply eBt; intro j; rw [z1g]
   cases j<;>simp [g]
  refine ⟨xs[o],fun w=>y0z c d xs.toArray o [xs[o]] rfl ?_ _ rfl,false,d,by rw [b]; exact c,e⟩
  intro j f
  have:j=0:=by omega
  subst this; simp
theorem y2w {n:Nat} {t:TypeId} {a:Bool} {ks:List SK} (c:z4v P n t=some ks) (e:z4j P t=some a):a=false→ks.length=1:=by
 intro g; subst g
 cases n with
 |zero=>simp [z4v] at c
 |succ n=>
  unfold z4j at e
  simp only [z4v] at c
  split at c
  ·rename_i h b
   split at c
   ·cases c
    unfold w5v at b
    cases f:P.underlying t with
    |none=>simp [f] at e
    |some d=>
     rw [f] at b e
     cases d<;>simp only [eAw,z73,Option.some.injEq,Bool.true_eq_false] at b e<;>first
      |(cases b; rfl)
      |cases b
      |cases e
   ·cases c
  ·cases c
theorem y2x {n:Nat} {t:TypeId} {ks:List SK} (b:z4v P n t=some ks):∃ a,z4j P t=some a:=by
 cases n with
 |zero=>simp [z4v] at b
 |succ n=>
  unfold z4j
  cases c:P.underlying t with
  |none=>simp [z4v,w5v,c] at b
  |some d=>exact ⟨_,rfl⟩
theorem x7l (n d:Nat) (H:∀ (t:TypeId) (ks:List SK) (x y:Value) (xs e:List Value) (b:Bool) (w:World),z4v P n t=some ks→Holds P t x xs→Holds P t y e→z8v ks xs e=some b→(Op.equalIn d t x y).run P w= .ok b w):
  ∀ (fs:List Field) (off:Nat) (ks:List SK) (xs e:List Value) (b:Bool),w8z P (z4v P n) off fs=some ks→xs.length=off+ks.length→e.length=off+ks.length→z8v ks (xs.drop off) (e.drop off)=some b→
   (Op.eqFields d xs.toArray e.toArray fs).run P w= .ok b w:=by
 intro fs
 induction fs with
 |nil=>
  intro off ks xs e b c q o i
  simp [w8z] at c; subst c
  have j:xs.drop off=[]:=by simp at q⊢; omega
  have L:e.drop off=[]:=by simp at o⊢; omega
  rw [j,L] at i; simp [z8v] at i; subst i
  simp [Op.eqFields]
 |cons f fs l=>
  intro off ks xs e b c q o i
  simp only [w8z] at c
  split at c
  ·rename_i K
   obtain ⟨J,I⟩:=K
   split at c
   ·rename_i k h
    split at c
    ·rename_i A
     cases s:w8z P (z4v P n) (off+k.length) fs with
     |none=>rw [s] at c; cases c
     |some G=>
     rw [s] at c; simp at c; subst c
     obtain ⟨a,u⟩:=y2x h
     have j:=y2w h u
     rw [eCv] at q o
     obtain ⟨F,z,p⟩:=z8c (P:=P) A u xs off (by omega) j
     obtain ⟨E,v,m⟩:=z8c (P:=P) A u e off (by omega) j
     obtain ⟨C,N,M,B,rfl⟩:=y95 i
     rw [eFa,eFa] at B
     have r:=H f.type k F E _ _ C w h p m M
     have g:=l (off+k.length) G xs e N s (by omega) (by omega) B
     rw [←I] at z v
     simp only [Op.eqFields,J,ne_eq,not_false_eq_true,if_true,Sem.run_bind,z,v,r,Result.andThen_ok,Sem.run_ite,Sem.run_pure,g]
     cases C<;>simp
    ·cases c
   ·cases c
  ·cases c
theorem x7j (d:Nat) (e:TypeId) (s:Nat) (a:Bool) (ks:List SK) (p:ks.length=s) (u:z91 P e=some s) (z:z4j P e=some a) (h:a=false→s=1)
  (H:∀ (x y:Value) (xs c:List Value) (b:Bool) (w:World),Holds P e x xs→Holds P e y c→z8v ks xs c=some b→(Op.equalIn d e x y).run P w= .ok b w) (xs c:List Value):
  ∀ (m i:Nat) (b:Bool),xs.length=(i+m)*s→c.length=(i+m)*s→z8v (List.replicate m ks).flatten (xs.drop (i*s)) (c.drop (i*s))=some b→
   ((forIn (List.range' i m) ((none,()):Option Bool×Unit) (fun i r=>(do
    let x←Go.part e xs.toArray (i*s)
    let y←Go.part e c.toArray (i*s)
    let q←Op.equalIn d e x y
    if (!q)=true then pure (.done (some false,())) else pure (.yield (none,())):Sem (ForInStep (Option Bool×Unit))))):Sem (Option Bool×Unit)).run P w
    = .ok (if b then (none,()) else (some false,())) w:=by
 intro m
 induction m with
 |zero=>
  intro i b o l g
  have h:xs.drop (i*s)=[]:=by simp at o⊢; omega
  have J:c.drop (i*s)=[]:=by simp at l⊢; omega
  rw [h,J] at g
  simp [z8v] at g; subst g
  simp
 |succ m j=>
  intro i b o l g
  simp only [List.replicate_succ,List.flatten_cons] at g
  have v:(i+(m+1))*s=i*s+s+m*s:=by rw [eAr,eAr]; omega
  obtain ⟨B,K,A,t,rfl⟩:=y95 g
  rw [p] at A t
  rw [eFa,eFa] at t
  obtain ⟨E,G,n⟩:=z8c (P:=P) u z xs (i*s) (by omega) h
  obtain ⟨C,F,k⟩:=z8c (P:=P) u z c (i*s) (by omega) h
  have I:=H E C _ _ B w n k A
  have f:=j (i+1) K (by rw [o]; congr 1; omega) (by rw [l]; congr 1; omega) (by rw [eAr,Nat.one_mul]; exact t)
  rw [List.range'_succ,List.forIn_cons]
  simp only [Sem.run_bind,G,F,I,Result.andThen_ok,Sem.run_ite,Sem.run_pure]
  cases B
  ·simp
  ·simp only [eDl,eAg,if_false,Result.andThen_ok,Bool.true_and]
   exact f
theorem z6r:∀ (n:Nat) (t:TypeId) (ks:List SK),z4v P n t=some ks→z91 P t=some ks.length:=by
 intro n
 cases n with
 |zero=>intro t ks h; simp [z4v] at h
 |succ n=>
  intro t ks h
  simp only [z4v] at h
  split at h
  ·split at h<;>simp_all
  ·cases h
theorem y93:∀ (n d:Nat),n≤d→∀ (t:TypeId) (ks:List SK) (x y:Value) (xs o:List Value) (b:Bool) (w:World),z4v P n t=some ks→Holds P t x xs→Holds P t y o→z8v ks xs o=some b→
  (Op.equalIn d t x y).run P w= .ok b w:=by
 intro n
 induction n with
 |zero=>intro d _ t ks x y xs o b w l; simp [z4v] at l
 |succ n H=>
  intro d T t ks x y xs o b w l z v j
  obtain ⟨d,rfl⟩:∃ e,d=e+1:=⟨d - 1,by omega⟩
  have J:=z6r _ _ _ l
  obtain ⟨a,F,S,i⟩:=z
  obtain ⟨U,E,K,h⟩:=v
  rw [F] at E; cases E
  have scalar:a=false→∀ k,ks=[k]→eq1 k x y=some b:=by
   intro O k L; subst O; subst L; simp at i h; subst i; subst h
   simp only [z8v] at j
   split at j
   ·rename_i c e N M; cases j; cases M; simpa using N
   ·cases j
  unfold z4j at F
  simp only [z4v] at l
  split at l
  rotate_left
  ·cases l
  rename_i R f
  split at l
  rotate_left
  ·cases l
  cases l
  unfold w5v at f
  cases p:P.underlying t with
  |none=>simp [p] at F
  |some ds=>
   simp [p] at F; subst F
   rw [p] at f
   cases ds<;>simp only at f<;>try (cases f; done)
   ·cases f
    obtain ⟨a,c,rfl,rfl,rfl⟩:=u0o (scalar rfl _ rfl)
    simp [Op.equalIn,z0g p,beq_toListBytes]
   ·cases f
    obtain ⟨k,a,c,rfl,rfl,rfl⟩:=u0n (scalar rfl _ rfl)
    simp [Op.equalIn,z0g p]
   ·cases f
    obtain ⟨a,c,rfl,rfl,rfl⟩:=u0m (scalar rfl _ rfl)
    simp [Op.equalIn,z0g p,beq_toListBytes]
   ·rename_i m e
    simp [z73] at i h; subst i; subst h
    cases s:z4v P n e with
    |none=>rw [s] at f; cases f
    |some u=>
    rw [s] at f; simp at f; subst f
    have A:=z6r _ _ _ s
    obtain ⟨Q,C⟩:=y2x s
    have g:=x9v j
    have q:(List.replicate m u).flatten.length=m*u.length:=by simp
    have:=x7j (P:=P) (w:=w) d e u.length Q u rfl A C (y2w s C) (fun x y xs o b w z v j=>H d (by omega) e u x y xs o b w s z v j) xs o m 0 b
     (by rw [g.1,q]; simp) (by rw [g.2,q]; simp) (by simpa using j)
    simp only [Op.equalIn,Sem.run_bind,z0g p,Result.andThen_ok,z1f A]
    rw [Std.Legacy.Range.forIn_eq_forIn_range']
    have r:([:m]:Std.Legacy.Range).size=m:=by simp [Std.Legacy.Range.size]
    rw [r]
    erw [this]
    cases b<;>simp
   ·rename_i I
    simp [z73] at i h; subst i; subst h
    split at f
    ·cases f
    ·rename_i G
     have B:P.fieldsOf t=I:=by simp [Program.fieldsOf,p]
     rw [run_equalIn_struct w d t _ _ (by rw [B]; exact p) (by simpa using G),B]
     have g:=x9v j
     exact x7l (P:=P) (w:=w) n d (fun t ks x y xs o b w l z v j=>H d (by omega) t ks x y xs o b w l z v j) I.toList 0 _ xs o b f (by simpa using g.1) (by simpa using g.2) (by simpa using j)
end
end Go.Am
end
section
namespace Go.Am
section
variable {P:Program} {ρ:Rho} {h:List AO} {w:World}
theorem y7a {T:TypeId} {O:Nat→Prop} {x:D} {v:Value} (h:z1k O w x v) {n:Nat} (b:(z0v x).length=n) (d:z91 P T=some n) (k:z4j P T=some (z1t x)):
  ∃ cs:List Value,Holds P T v cs∧cs.length=n∧∀ (j:Nat) (y:D) (u:Value),(z0v x)[j]?=some y→cs[j]?=some u→z1k O w y u:=by
 have f:=h
 by_cases a:z1t x=true
 ·cases h with
  |agg ds g i l=>
   simp [z0v] at b
   refine ⟨g.toList,⟨true,k,by rw [d]; simp [i,b],by simp⟩,by simp [i,b],fun j y u e c=>?_⟩
   have:=l j y e
   rw [z9c (show g[j]?=some u by simpa using c)] at this
   exact this
  |_=>cases a
 ·have o:z0v x=[x]:=by cases x<;>first|rfl|exact absurd rfl a
  have m:z1t x=false:=by simpa using a
  rw [o] at b⊢
  simp at b; subst b
  refine ⟨[v],⟨false,by rw [k,m],by simpa using d,by simp⟩,rfl,fun j y u e c=>?_⟩
  cases j with
  |zero=>simp at e c; subst e; subst c; exact f
  |succ j=>simp at c
theorem y96 {O:Nat→Prop}:∀ (ks:List SK) (xs f:List D) (g d:List Value) (b:Bool),z1n std ks xs f=some b→g.length=xs.length→d.length=f.length→
  (∀ (j:Nat) (y:D) (u:Value),xs[j]?=some y→g[j]?=some u→z1k O w y u)→(∀ (j:Nat) (y:D) (u:Value),f[j]?=some y→d[j]?=some u→z1k O w y u)→z8v ks g d=some b:=by
 intro ks
 induction ks with
 |nil=>
  intro xs f g d b h q p _ _
  cases xs<;>cases f<;>simp [z1n] at h
  cases g<;>cases d<;>simp at q p
  simp [z8v,h]
 |cons k ks G=>
  intro xs f g d b h q p C B
  cases xs with
  |nil=>cases k<;>simp [z1n] at h
  |cons x xs=>
  cases f with
  |nil=>cases k<;>cases x<;>simp [z1n] at h
  |cons y f=>
  cases g with
  |nil=>simp at q
  |cons u g=>
  cases d with
  |nil=>simp at p
  |cons v d=>
  have t:=C 0 x u (by simp) (by simp)
  have s:=B 0 y v (by simp) (by simp)
  have tail:∀ r,z1n std ks xs f=some r→z8v ks g d=some r:=fun r i=>G xs f g d r i (by simpa using q) (by simpa using p) (fun j a b A z=>C (j+1) a b (by simpa using A) (by simpa using z))
   (fun j a b A z=>B (j+1) a b (by simpa using A) (by simpa using z))
  unfold z1n at h
  split at h
  ·rename_i e _ _; cases e
  ·rename_i F a _ E c _ o n m
   cases o; cases n; cases m
   cases t; cases s
   cases l:(F==E) with
   |false=>rw [l] at h; cases h
   |true=>
   rw [l] at h; simp only [cond_true] at h
   split at h
   ·rename_i r i; cases h
    have H:F=E:=by simpa using l
    subst H
    simp [z8v,eq1,tail r i,std,z3r]
   ·cases h
  ·rename_i a _ c _ o n m
   cases o; cases n; cases m
   cases t; cases s
   split at h
   ·rename_i r i; cases h; simp [z8v,eq1,tail r i,std]
   ·cases h
  ·rename_i a _ c _ o n m
   cases o; cases n; cases m
   cases t; cases s
   split at h
   ·rename_i r i; cases h; simp [z8v,eq1,tail r i,std]
   ·cases h
  ·cases h
def x7k:Value→Value→Prop
 | .agg _,_=>False
 | .nilIface,_=>False
 |_,_=>True
theorem y59 {op:BinOp} {T:TypeId} (x y:Operand) {a b:Value} (hg:(∀ xs c,a= .agg xs→b= .agg c→P.eqGuardType P.depth T=false)) (d:a= .nilIface→b= .nilIface→False):
  (eqGuard op T x y a b).run P w= .ok () w:=by
 unfold eqGuard
 cases op<;>try (simp; done)
 all_goals
  cases a<;>cases b<;>first
   |(simp; done)
   |(exact (d rfl rfl).elim)
   |(rename_i xs c; simp [hg xs c rfl rfl])
theorem y7j:∀ (ks:List SK) (xs a:List D) (b:Bool),z1n std ks xs a=some b→xs.length=ks.length∧a.length=ks.length:=by
 intro ks
 induction ks with
 |nil=>intro xs a b h; cases xs<;>cases a<;>simp [z1n] at h⊢
 |cons k ks m=>
  intro xs a b h
  cases xs with
  |nil=>cases k<;>simp [z1n] at h
  |cons x xs=>
  cases a with
  |nil=>cases k<;>cases x<;>simp [z1n] at h
  |cons y a=>
  have tail:∀ r,z1n std ks xs a=some r→(x::xs).length=(k::ks).length∧(y::a).length=(k::ks).length:=by
   intro r c; have:=m _ _ _ c; simp; omega
  unfold z1n at h
  split at h
  ·rename_i e _ _; cases e
  ·rename_i l _ _ j _ _ i g f
   cases i; cases g; cases f
   cases d:(l==j) with
   |false=>rw [d] at h; cases h
   |true=>
   rw [d] at h; simp only [cond_true] at h
   split at h
   ·rename_i c; exact tail _ c
   ·cases h
  ·rename_i i g f
   cases i; cases g; cases f
   split at h
   ·rename_i c; exact tail _ c
   ·cases h
  ·rename_i i g f
   cases i; cases g; cases f
   split at h
   ·rename_i c; exact tail _ c
   ·cases h
  ·cases h
theorem y30:∃ n,∀ T x y,Op.equal T x y=Op.equalIn (n+1) T x y:=⟨9999,fun _ _ _=>rfl⟩
theorem u0k {T:TypeId} {ti:TI} (t:z7c P T ti) {x y:AV} {o n:Value} (f:z0n ρ (z0d ρ h) w x o) (g:z0n ρ (z0d ρ h) w y n) {b:Bool} (i:eqA std ti x y=some b):
  (Op.equal T o n).run P w= .ok b w∧(∀ xs s,o= .agg xs→n= .agg s→P.eqGuardType P.depth T=false)∧(o= .nilIface→n= .nilIface→False):=by
 obtain ⟨d,k,B,j⟩:=t.desc
 unfold eqA at i
 split at i
 ·rename_i ks a c u
  obtain ⟨A,hg⟩:=t.eqk ks u
  cases r:((z1t a==ti.agg)&&(z1t c==ti.agg)) with
  |false=>rw [r] at i; cases i
  |true=>
  rw [r] at i; simp only [cond_true] at i
  simp only [eAc,beq_iff_eq] at r
  obtain ⟨z,v⟩:=y7j ks _ _ _ i
  cases f with
  |d f=>cases g with
   |d g=>
    have p:=z6r _ _ _ A
    obtain ⟨xs,F,E,C⟩:=y7a (P:=P) (T:=T) f z p (by rw [r.1]; exact t.agg)
    obtain ⟨s,I,H,G⟩:=y7a (P:=P) (T:=T) g v p (by rw [r.2]; exact t.agg)
    refine ⟨y93 8 Op.maxDepth (by decide) T ks o n xs s b w A F I (y96 ks _ _ xs s b i (E.trans z.symm) (H.trans v.symm) C G),fun _ _ _ _=>hg,?_⟩
    intro J K; subst J; cases f
    unfold z1n at i
    split at i<;>simp_all [z0v]
 ·obtain ⟨m,hm⟩:=y30
  rw [hm]
  unfold x4y at i
  split at i<;>(try (cases i; done))<;>(split at i<;>(try (cases i; done)))<;>cases i
  all_goals rename_i l; rw [l] at j
  ·obtain ⟨_,_,_,rfl⟩:=j
   cases f with|d f=>cases g with|d g=>
   cases f; cases g
   exact ⟨by simp [Op.equalIn,z0g k],by simp,by simp⟩
  ·obtain ⟨_,_,_,rfl⟩:=j
   cases f with|d f=>
   cases f; cases g
   exact ⟨by simp [Op.equalIn,z0g k],by simp,by simp⟩
  ·obtain ⟨_,_,_,rfl⟩:=j
   cases g with|d g=>
   cases g; cases f
   exact ⟨by simp [Op.equalIn,z0g k],by simp,by simp⟩
  ·rename_i q
   have:∃ e,d= .pointer e:=by
    cases q with
    |none=>exact j
    |some q=>obtain ⟨e,_,rfl,_⟩:=j; exact ⟨e,rfl⟩
   obtain ⟨e,rfl⟩:=this
   cases f with|d f=>cases g with|d g=>
   cases f; cases g
   exact ⟨by simp [Op.equalIn,z0g k],by simp,by simp⟩
  ·rename_i q
   have:∃ e,d= .pointer e:=by
    cases q with
    |none=>exact j
    |some q=>obtain ⟨e,_,rfl,_⟩:=j; exact ⟨e,rfl⟩
   obtain ⟨e,rfl⟩:=this
   cases f with|d f=>
   cases f; cases g
   exact ⟨by simp [Op.equalIn,z0g k],by simp,by simp⟩
  ·rename_i q
   have:∃ e,d= .pointer e:=by
    cases q with
    |none=>exact j
    |some q=>obtain ⟨e,_,rfl,_⟩:=j; exact ⟨e,rfl⟩
   obtain ⟨e,rfl⟩:=this
   cases g with|d g=>
   cases g; cases f
   exact ⟨by simp [Op.equalIn,z0g k],by simp,by simp⟩
  ·obtain ⟨_,rfl⟩:=j
   cases g with|d g=>
   cases g; cases f
   exact ⟨by simp [Op.equalIn,z0g k],by simp,by simp⟩
  ·obtain ⟨_,rfl⟩:=j
   cases f with|d f=>
   cases f; cases g
   exact ⟨by simp [Op.equalIn,z0g k],by simp,by simp⟩
def Odd (x y:Value):Prop:=
 match x,y with
 | .int _ _, .int _ _| .float _ _, .float _ _| .complex _ _ _, .complex _ _ _| .string _, .string _=>False
 |_,_=>True
theorem y0r {T:TypeId} {x y:Value} (h:Odd x y):binOp .eql T x y=(do pure (.bool (←Op.equal T x y))):=by
 unfold binOp
 split<;>simp_all [Odd]
theorem y0q {T:TypeId} {x y:Value} (h:Odd x y):binOp .neq T x y=(do pure (.bool (!(←Op.equal T x y)))):=by
 unfold binOp
 split<;>simp_all [Odd]
theorem w55 {ti:TI} {x y:AV} (h:x= .bot∨y= .bot):eqA std ti x y=none:=by
 rcases h with rfl|rfl
 ·cases ti with|mk a b c d e f=>cases f<;>simp [eqA,x4y]
 ·cases ti with|mk a b c d e f=>cases f<;>cases x<;>simp [eqA,x4y]<;>(rename_i z; cases z<;>simp [x4y])
theorem x16 {ti:TI} {x y:AV} (h:(∃ es,x= .perm es)∨∃ es,y= .perm es):eqA std ti x y=none:=by
 rcases h with ⟨es,rfl⟩|⟨es,rfl⟩
 ·cases ti with|mk a b c d e f=>cases f<;>simp [eqA,x4y]
 ·cases ti with|mk a b c d e f=>cases f<;>cases x<;>simp [eqA,x4y]<;>(rename_i z; cases z<;>simp [x4y])
theorem x1e (op:BinOp) (T:TypeId) (k:IntKind) (a b:Int) (c:y1g op= .comp):(binOp op T (.int k a) (.int k b)).run P w= .ok (.bool (z3r op a b)) w:=by
 have:=z5b (P:=P) (w:=w) op T k a b (by rw [c]; simp) (by rw [c]; simp)
 rw [c] at this; exact this
theorem z58 {op:BinOp} {T:TypeId} (x y:Operand) {a b:Value} (h:x7k a b):(eqGuard op T x y a b).run P w= .ok () w:=
 y59 x y (fun f e c d=>by subst c; exact h.elim) (fun c d=>by subst c; exact h.elim)
theorem v5h {y:Operand} (h:v9n y=true):y= .const .nilIface:=by
 unfold v9n at h
 split at h
 ·rfl
 ·cases h
theorem x57 {T:TypeId} {ti:TI} (j:z7c P T ti) (hr:z0b P ρ h w) {new:Nat} {op:BinOp} (i:Operand) {x:AV} {g:Value} (b:z0n ρ (z0d ρ h) w x g)
  {res:Res} (e:y46 ti op x=some res):z0o P ρ h w new (do eqGuard op T i (.const .nilIface) g .nilIface; binOp op T g .nilIface) res:=by
 obtain ⟨d,f,_,c⟩:=j.desc
 obtain ⟨m,hm⟩:=y30
 unfold y46 at e
 split at e
 ·rename_i a
  rw [a] at c
  obtain ⟨_,rfl⟩:=c
  cases e
  cases b with|d b=>
  cases b
  refine z0o.pure hr ?_ (.d (.bool _))
  rw [y0r (show Odd .nilIface .nilIface from trivial),hm]
  simp [eqGuard,Op.equalIn,z0g f]
 ·rename_i a
  rw [a] at c
  obtain ⟨_,rfl⟩:=c
  cases e
  cases b with|d b=>
  cases b
  refine z0o.pure hr ?_ (.d (.bool _))
  rw [y0q (show Odd .nilIface .nilIface from trivial),hm]
  simp [eqGuard,Op.equalIn,z0g f]
 ·rename_i a
  rw [a] at c
  obtain ⟨_,rfl⟩:=c
  cases e
  cases b
  refine z0o.pure hr ?_ (.d (.bool _))
  rw [y0r (show Odd (.iface _ _) .nilIface from trivial),hm]
  simp [eqGuard,Op.equalIn,z0g f]
 ·rename_i a
  rw [a] at c
  obtain ⟨_,rfl⟩:=c
  cases e
  cases b
  refine z0o.pure hr ?_ (.d (.bool _))
  rw [y0q (show Odd (.iface _ _) .nilIface from trivial),hm]
  simp [eqGuard,Op.equalIn,z0g f]
 ·cases e
theorem v5i {y:Operand} (h:v9o y=true):y= .const (.slice none 0 0):=by
 unfold v9o at h
 split at h
 ·rfl
 ·cases h
theorem x00 {T:TypeId} {ti:TI} (s:z7c P T ti) (hr:z0b P ρ h w) {new:Nat} {op:BinOp} (r q:Operand) {x:AV} {f:Value} (e:z0n ρ (z0d ρ h) w x f)
  {res:Res} (i:y0y std ti op x=some res) (k:res.c=true):z0o P ρ h w new (do eqGuard op T r q f (.slice none 0 0); binOp op T f (.slice none 0 0)) res:=by
 obtain ⟨d,j,_,p⟩:=s.desc
 obtain ⟨m,hm⟩:=y30
 have list:∀ full z es,z0n ρ (z0d ρ h) w (.d (.list full z es)) f→std.leN 1 (std.len es)=true→∃ a n c,f= .slice (some a) n c:=by
  intro full z es e l
  have:=eAh l
  cases e with|d e=>
  cases e with
  |lnil=>simp [std] at this
  |list _ _ b o _ c=>exact ⟨_,_,_,rfl⟩
 have slice:∀ id z off len cap,z0n ρ (z0d ρ h) w (.slice id z off len cap) f→std.leN 1 len=true→∃ a n c,f= .slice (some a) n c:=by
  intro id z off len cap e l
  have:=eAh l
  cases e with
  |nils=>omega
  |slice _ _ _ _ _ L a c _ _ u _ t=>rw [u (by omega)]; exact ⟨_,_,_,rfl⟩
 unfold y0y at i
 split at i<;>(try (cases i; done))<;>cases i<;>rename_i g<;>rw [g] at p<;>obtain ⟨rfl,_⟩:=p
 ·obtain ⟨a,n,c,rfl⟩:=list _ _ _ e k
  exact z0o.pure hr (by rw [y0r (by trivial),hm]; simp [eqGuard,Op.equalIn,z0g j]) (.d (.bool _))
 ·obtain ⟨a,n,c,rfl⟩:=list _ _ _ e k
  exact z0o.pure hr (by rw [y0q (by trivial),hm]; simp [eqGuard,Op.equalIn,z0g j]) (.d (.bool _))
 ·obtain ⟨a,n,c,rfl⟩:=slice _ _ _ _ _ e k
  exact z0o.pure hr (by rw [y0r (by trivial),hm]; simp [eqGuard,Op.equalIn,z0g j]) (.d (.bool _))
 ·obtain ⟨a,n,c,rfl⟩:=slice _ _ _ _ _ e k
  exact z0o.pure hr (by rw [y0q (by trivial),hm]; simp [eqGuard,Op.equalIn,z0g j]) (.d (.bool _))
theorem w09 {T:TypeId} {ti:TI} (F:z7c P T ti) (hr:z0b P ρ h w) {new:Nat} {op:BinOp} (o n:Operand) {x y:AV} {s r:Value} (l:z0n ρ (z0d ρ h) w x s) (j:z0n ρ (z0d ρ h) w y r)
  {res:Res} (f:x03 std ti op x y=some res) (C:res.c=true):z0o P ρ h w new (do eqGuard op T o n s r; binOp op T s r) res:=by
 unfold x03 at f
 split at f
 ·rename_i k a t b
  cases l with|d l=>cases j with|d j=>
  cases l; cases j
  have hg:(eqGuard op T o n (.int k a) (.int t b)).run P w= .ok () w:=z58 o n trivial
  split at f
  ·rename_i g
   cases e:(k==t) with
   |false=>rw [e] at f; cases f
   |true=>
   rw [e] at f; simp at e; subst e; cases f
   have:=z5b (P:=P) (w:=w) op T k a b (by rw [g]; simp) (by rw [g]; simp)
   rw [g] at this
   exact z0o.pure hr (by simp only [Sem.run_bind,hg,Result.andThen_ok]; exact this) (.d (.int _ _))
  ·rename_i g
   cases e:(k==t) with
   |false=>rw [e] at f; cases f
   |true=>
   rw [e] at f; simp at e; subst e; cases f
   have:=z5b (P:=P) (w:=w) op T k a b (by rw [g]; simp) (by rw [g]; simp)
   rw [g] at this
   exact z0o.pure hr (by simp only [Sem.run_bind,hg,Result.andThen_ok]; exact this) (.d (.int _ _))
  ·rename_i g
   cases e:(k==t) with
   |false=>rw [e] at f; cases f
   |true=>
   rw [e] at f; simp at e; subst e; cases f
   have E:b≠0:=by simpa [std,z3r] using C
   have:=z5b (P:=P) (w:=w) op T k a b (fun _=>E) (by rw [g]; simp)
   rw [g] at this
   exact z0o.pure hr (by simp only [Sem.run_bind,hg,Result.andThen_ok]; exact this) (.d (.int _ _))
  ·rename_i g
   cases f
   have:=y6a (P:=P) (w:=w) op T k t a b g (z3h C)
   exact z0o.pure hr (by simp only [Sem.run_bind,hg,Result.andThen_ok]; exact this) (.d (.int _ _))
  ·rename_i g
   cases e:(k==t) with
   |false=>rw [e] at f; cases f
   |true=>
   rw [e] at f; simp at e; subst e; cases f
   exact z0o.pure hr (by simp only [Sem.run_bind,hg,Result.andThen_ok]; exact x1e op T k a b g) (.d (.bool _))
 ·rename_i a b
  cases l with|d l=>cases j with|d j=>
  cases l; cases j
  split at f
  ·cases f
   exact z0o.pure hr (by simp [z58 (P:=P) (w:=w) (op:= .eql) (T:=T) o n (a:= .string a) (b:= .string b) trivial,binOp,Op.stringOp,std]) (.d (.bool _))
  ·cases f
   exact z0o.pure hr (by simp [z58 (P:=P) (w:=w) (op:= .neq) (T:=T) o n (a:= .string a) (b:= .string b) trivial,binOp,Op.stringOp,std]) (.d (.bool _))
  ·cases f
   have i:a.size+b.size≤1000000:=eAh C
   have B:¬ ((a.size+b.size:Nat):Int)>IntKind.i64.max:=by
    have:IntKind.i64.max=9223372036854775807:=by decide
    rw [this]; omega
   refine z0o.pure hr ?_ (.d (.str _))
   simp only [z58 (P:=P) (w:=w) (op:= .add) (T:=T) o n (a:= .string a) (b:= .string b) trivial,Sem.run_bind,Result.andThen_ok,binOp,Op.stringOp]
   rw [if_neg B]
   rfl
  ·cases f
 ·rename_i A z
  have m:∀ b,eqA std ti x y=some b→∀ op,op= .eql∨op= .neq→(binOp op T s r).run P w= .ok (.bool (if op= .eql then b else !b)) w∧(eqGuard op T o n s r).run P w= .ok () w:=by
   intro b i op g
   obtain ⟨u,v,G⟩:=u0k F l j i
   refine ⟨?_,y59 o n v G⟩
   have p:Odd s r:=by
    cases l with
    |bot=>rw [w55 (.inl rfl)] at i; cases i
    |perm=>rw [x16 (.inl ⟨_,rfl⟩)] at i; cases i
    |d l=>
     cases j with
     |bot=>rw [w55 (.inr rfl)] at i; cases i
     |perm=>rw [x16 (.inr ⟨_,rfl⟩)] at i; cases i
     |d j=>
      cases l<;>first
       |(cases j<;>first|trivial|exact (A _ _ _ _ rfl rfl).elim|exact (z _ _ rfl rfl).elim)
     |_=>cases l<;>trivial
    |_=>
     cases j with
     |perm=>rw [x16 (.inr ⟨_,rfl⟩)] at i; cases i
     |_=>trivial
   rcases g with rfl|rfl
   ·rw [y0r p]; simp [u]
   ·rw [y0q p]; simp [u]
  split at f
  ·cases q:eqA std ti x y with
   |none=>rw [q] at f; cases f
   |some b=>
   rw [q] at f; cases f
   obtain ⟨u,v⟩:=m b q .eql (.inl rfl)
   exact z0o.pure hr (by simp only [Sem.run_bind,v,Result.andThen_ok]; exact u) (.d (.bool _))
  ·cases q:eqA std ti x y with
   |none=>rw [q] at f; cases f
   |some b=>
   rw [q] at f; cases f
   obtain ⟨u,v⟩:=m b q .neq (.inr rfl)
   exact z0o.pure hr (by simp only [Sem.run_bind,v,Result.andThen_ok]; exact u) (.d (.bool _))
  ·cases f
end
end Go.Am
end
section
namespace Go.Am
def Els.toA:Els→List (List AV)
 | .d es=>z5m es
 | .a es=>es
def AO.rows:AO→Option (List (List AV))
 | .row es=>some (z5m es)
 | .arow es=>some es
 |_=>none
theorem z4q (es:List (List D)):z5m es=es.map toA:=by
 induction es with
 |nil=>rfl
 |cons r l a=>simp [z5m,a]
theorem z3e (es:List (List D)) (i:Nat):(z5m es)[i]?=(es[i]?).map toA:=by rw [z4q]; simp
theorem z0s (es:List (List D)):(z5m es).length=es.length:=by rw [z4q]; simp
section
variable {P:Program} {ρ:Rho} {h:List AO} {w:World}
def z29 (ρ:Rho) (O:Nat→Prop) (w:World) (z:Nat) (es:List (List AV)) (cs:List Value):Prop:=
 cs.length=es.length*z∧(∀ (i:Nat) (r:List AV),es[i]?=some r→r.length=z)∧
  ∀ (i:Nat) (r:List AV) (j:Nat) (y:AV),es[i]?=some r→r[j]?=some y→∃ v,cs[i*z+j]?=some v∧v.oneCell'=true∧z0n ρ O w y v
theorem z29.keep {ρ':Rho} {O O':Nat→Prop} {w':World} {z:Nat} {es:List (List AV)} {cs:List Value} (k:z43 O O' w w') (a:∀ id L,ρ id=some L→ρ' id=some L) (h:z29 ρ O w z es cs):
  z29 ρ' O' w' z es cs:=
 ⟨h.1,h.2.1,fun i r j y e d=>let ⟨v,b,f,c⟩:=h.2.2 i r j y e d; ⟨v,b,f,c.keep k a⟩⟩
theorem z29.nil (O:Nat→Prop) (z:Nat):z29 ρ O w z [] []:=⟨by simp,by simp,by simp⟩
theorem x4i {z k n:Nat} (a:0<z) (h:k<n*z):k / z<n∧k % z<z∧k=k / z*z+k % z:=by
 refine ⟨(eDt a).2 h,eFc _ a,?_⟩
 rw [eDo]; exact (Nat.div_add_mod k z).symm
theorem z29.append {O:Nat→Prop} {z:Nat} {a b:List (List AV)} {x y:List Value} (o:z29 ρ O w z a x) (n:z29 ρ O w z b y):z29 ρ O w z (a++b) (x++y):=by
 obtain ⟨h,A,t⟩:=o
 obtain ⟨s,q,p⟩:=n
 refine ⟨by simp [h,s,eAr],fun i r c=>?_,fun i r j v c k=>?_⟩
 ·rw [eBf] at c
  split at c
  ·exact A i r c
  ·exact q _ r c
 ·rw [eBf] at c
  split at c
  ·rename_i l
   obtain ⟨u,d,g,f⟩:=t i r j v c k
   refine ⟨u,?_,g,f⟩
   rw [eCl]
   ·exact d
   ·exact (eAa.1 d).1
  ·rename_i m
   obtain ⟨u,d,g,f⟩:=p _ r j v c k
   refine ⟨u,?_,g,f⟩
   have e:i*z=a.length*z+(i - a.length)*z:=by rw [←eAr]; congr 1; omega
   rw [eDm (by rw [h]; omega),h,show i*z+j - a.length*z=(i - a.length)*z+j by omega]
   exact d
theorem z1c.rows {O:Nat→Prop} {L:Loc} {o:AO} {es:List (List AV)} (g:o.rows=some es) (h:z1c P ρ O w L o):
  0<L.esz∧∃ (c:Array Value) (t:TypeId),w.heap[L.blk]?=some (.cells c t (0,0))∧(∀ (i:Nat) (r:List AV),es[i]?=some r→r.length=L.esz)∧
   ∀ (i:Nat) (r:List AV) (j:Nat) (y:AV),es[i]?=some r→r[j]?=some y→∃ v,c[L.base+i*L.esz+j]?=some v∧v.oneCell'=true∧z0n ρ O w y v:=by
 cases o<;>simp [AO.rows] at g
 ·subst g
  obtain ⟨k,c,t,s,n,p⟩:=h
  refine ⟨k,c,t,s,fun i r a=>?_,fun i r j y a f=>?_⟩
  ·rw [z3e] at a
   rename_i es
   cases e:es[i]? with
   |none=>simp [e] at a
   |some q=>simp [e] at a; subst a; rw [z0z]; exact n i q e
  ·rename_i es
   rw [z3e] at a
   cases e:es[i]? with
   |none=>simp [e] at a
   |some q=>
    simp [e] at a; subst a
    rw [z1l] at f
    cases b:q[j]? with
    |none=>simp [b] at f
    |some d=>
     simp [b] at f; subst f
     obtain ⟨v,l,u,m⟩:=p i q j d e b
     exact ⟨v,l,u, .d m⟩
 ·subst g; exact h
theorem z1c.of_rows {O:Nat→Prop} {L:Loc} {o:AO} {es:List (List AV)} (b:o.rows=some es) (f:0<L.esz) (c:Array Value) (t:TypeId) (k:w.heap[L.blk]?=some (.cells c t (0,0)))
  (g:∀ (i:Nat) (r:List AV),es[i]?=some r→r.length=L.esz)
  (h:∀ (i:Nat) (r:List AV) (j:Nat) (y:AV),es[i]?=some r→r[j]?=some y→∃ v,c[L.base+i*L.esz+j]?=some v∧v.oneCell'=true∧z0n ρ O w y v):z1c P ρ O w L o:=by
 cases o<;>simp [AO.rows] at b
 ·subst b
  rename_i es
  refine ⟨f,c,t,k,fun i r e=>?_,fun i r j y e l=>?_⟩
  ·have:=g i (toA r) (by rw [z3e,e]; rfl)
   rwa [z0z] at this
  ·obtain ⟨v,m,n,a⟩:=h i (toA r) j (.d y) (by rw [z3e,e]; rfl) (by rw [z1l,l]; rfl)
   cases a with|d a=>exact ⟨v,m,n,a⟩
 ·subst b; exact ⟨f,c,t,k,g,h⟩
theorem x8f {O:Nat→Prop} {z:Nat} (s:0<z) {es:List (List AV)} (n:Nat) (f:Nat→Option Value)
  (h:∀ (i:Nat) (r:List AV),es[i]?=some r→r.length=z) (t:n=es.length)
  (q:∀ (i:Nat) (r:List AV) (j:Nat) (y:AV),es[i]?=some r→r[j]?=some y→∃ v,f (i*z+j)=some v∧v.oneCell'=true∧z0n ρ O w y v):
  ∃ cs:List Value,z29 ρ O w z es cs∧∀ (k:Nat) (v:Value),cs[k]?=some v→f k=some v:=by
 have b:∀ k,k<n*z→∃ v,f k=some v:=by
  intro k e
  obtain ⟨A,o,x⟩:=x4i s e
  have d:es[k / z]?=some es[k / z]:=eAb (by omega)
  have m:k % z<(es[k / z]).length:=by rw [h _ _ d]; exact o
  have c:(es[k / z])[k % z]?=some (es[k / z])[k % z]:=eAb m
  obtain ⟨v,a,_,_⟩:=q _ _ _ _ d c
  exact ⟨v,by rw [x]; exact a⟩
 refine ⟨(List.range (n*z)).map (fun k=>(f k).getD undef),⟨by simp [t],h,fun i r j y l c=>?_⟩,fun k v a=>?_⟩
 ·obtain ⟨v,a,g,d⟩:=q i r j y l c
  have A:=(eAa.1 l).1
  have o:=(eAa.1 c).1
  rw [h i r l] at o
  have:i*z+j<n*z:=by
   have:(i+1)*z≤n*z:=eAv _ (by omega)
   rw [eAr] at this; omega
  exact ⟨v,by simp [this,a],g,d⟩
 ·have e:k<n*z:=by
   have:=(eAa.1 a).1
   simpa using this
  rw [eAf,eDz e] at a
  obtain ⟨u,p⟩:=b k e
  simp [p] at a; rw [p,a]
theorem z2v {a b:Nat} (h:std.leN a b=true):a≤b:=eAh h
theorem y0k (hr:z0b P ρ h w) {z:Nat} (hz:0<z) {x:AV} {v:Value} (U:z0n ρ (z0d ρ h) w x v) {c:Bool} {l:Els} (he:z2y std z h x=some (c,l)) (hc:c=true):
  ∃ (a:Option Addr) (n cap:Nat) (cs:List Value),v= .slice a n cap∧n=z7b std x∧n≤cap∧l.toA.length=n∧z29 ρ (z0d ρ h) w z l.toA cs∧
   ∀ w':World,w'.heap=w.heap→(Builtin.firstCells z n v).run P w'= .ok cs.toArray w':=by
 have m:∀ (w':World) (a:Addr),w'.heap=w.heap→w'.cell? a=w.cell? a:=fun w' a e=>by unfold World.cell?; rw [e]
 unfold z2y at he
 split at he
 ·rename_i full z0 es
  cases U with
  |d U=>cases U with
   |lnil _ _ a cap hcap=>
    have he2:l= .d []:=by
     cases A:Nat.beq z z0<;>rw [A] at he<;>cases he<;>rfl
    subst he2
    refine ⟨a,0,cap,[],rfl,rfl,eAo _,rfl, .nil _ _,fun w' p=>?_⟩
    cases a<;>simp [Builtin.firstCells,loadCells,loadCellsFrom]
   |list _ _ b o z' cap hz' Y hO hlc hf M cell Q H hh=>
    cases A:Nat.beq z z0 with
    |false=>
     rw [A] at he
     cases es with
     |nil=>exact absurd rfl Y
     |cons _ _=>cases he
    |true=>
    rw [A] at he; cases he
    have F:=eAd A
    subst F
    obtain ⟨cs,I,h2⟩:=x8f (ρ:=ρ) (w:=w) (O:=z0d ρ h) hz (es:=z5m es) es.length (fun k=>w.cell? ⟨b,o+k,none⟩) (fun i r f=>by
      rw [z3e] at f
      cases u:es[i]? with
      |none=>simp [u] at f
      |some q=>simp [u] at f; subst f; rw [z0z]; exact M i q u) (z0s es).symm (fun i r j y f J=>by
      rw [z3e] at f
      cases u:es[i]? with
      |none=>simp [u] at f
      |some q=>
       simp [u] at f; subst f
       rw [z1l] at J
       cases s:q[j]? with
       |none=>simp [s] at J
       |some d=>
        simp [s] at J; subst J
        have g1:=(eAa.1 u).1
        have g2:=(eAa.1 s).1
        rw [M i q u] at g2
        have R:i*z+j<es.length*z:=by
         have:(i+1)*z≤es.length*z:=eAv _ g1
         rw [eAr] at this; omega
        exact ⟨_,H _ R,Q _ R, .d (hh i q j d u s)⟩)
    refine ⟨_,es.length,cap,cs,rfl,rfl,hlc,z0s es,I,fun w' p=>?_⟩
    have g:cs.length=es.length*z:=by rw [I.1,z0s]
    have:=run_loadCells_list (P:=P) w' ⟨b,o,none⟩ cs (fun j v K=>by rw [z5j,m _ _ p]; exact h2 j v K)
    rw [g] at this
    exact this
 ·rename_i id z' off len cap
  cases A:Nat.beq z z' with
  |false=>rw [A] at he; cases he
  |true=>
  rw [A] at he; simp only [cond_true] at he
  have F:=eAd A
  subst F
  cases U with
  |nils _ _ _ _ a hcc=>
   have e0:l.toA=[]:=by
    split at he
    ·cases he; simp [Els.toA,std,z5m]
    ·cases he; simp [Els.toA]
    ·cases he
   refine ⟨a,0,0,[],rfl,rfl,eAo _,by rw [e0]; rfl,by rw [e0]; exact .nil _ _,fun w' p=>?_⟩
   cases a<;>simp [Builtin.firstCells,loadCells,loadCellsFrom]
  |slice _ _ _ _ _ L a V hL T haa hcc Z=>
  obtain ⟨_,ho⟩:=hr.obj id L hL
  have key:∀ (o:AO) (es:List (List AV)),z0f h id=o→o.rows=some es→off+len≤es.length→l.toA=(es.drop off).take len→
    ∃ (a':Option Addr) (n E:Nat) (cs:List Value),Value.slice a len V= .slice a' n E∧n=z7b std (.slice id z off len cap)∧n≤E∧l.toA.length=n∧z29 ρ (z0d ρ h) w z l.toA cs∧
     ∀ w':World,w'.heap=w.heap→(Builtin.firstCells z n (.slice a len V)).run P w'= .ok cs.toArray w':=by
   intro o es X W hle2 C
   rw [X] at ho
   obtain ⟨_,c,t,hcb,hl,hj⟩:=ho.rows W
   rw [T] at hl hj
   have g:((es.drop off).take len).length=len:=by simp; omega
   have B:∀ i,((es.drop off).take len)[i]?=if i<len then es[off+i]? else none:=fun i=>z1g es off len i
   obtain ⟨cs,I,h2⟩:=x8f (ρ:=ρ) (w:=w) (O:=z0d ρ h) hz (es:=(es.drop off).take len) len (fun k=>c[L.base+off*z+k]?) (fun i r f=>by
     rw [B] at f; split at f
     ·exact hl _ r f
     ·cases f) g.symm (fun i r j y f J=>by
     rw [B] at f; split at f
     ·obtain ⟨v,K,I,N⟩:=hj _ r j y f J
      refine ⟨v,?_,I,N⟩
      rw [←K]; congr 1; rw [eAr]; omega
     ·cases f)
   refine ⟨a,len,V,cs,rfl,rfl,Z,by rw [C,g],by rw [C]; exact I,fun w' p=>?_⟩
   have S:cs.length=len*z:=by rw [I.1,g]
   by_cases hc0:0<V
   ·rw [haa hc0,T]
    have:=run_loadCells_list (P:=P) w' ⟨L.blk,L.base+off*z,none⟩ cs (fun j v K=>by rw [z5j,m _ _ p]; exact z6f hcb (h2 j v K))
    rw [S] at this
    exact this
   ·have hl0:len=0:=by omega
    subst hl0
    have:cs=[]:=by simpa using S
    subst this
    cases a<;>simp [Builtin.firstCells,loadCells,loadCellsFrom]
  split at he
  ·rename_i es G
   cases he
   refine key _ (z5m es) G rfl ?_ ?_
   ·rw [z0s]; exact z2v hc
   ·simp [Els.toA,std,z4q]
  ·rename_i es G
   cases he
   exact key _ es G rfl (z2v hc) rfl
  ·cases he
 ·cases he
end
end Go.Am
end
section
namespace Go.Am
theorem x4k (n:Nat):∀ (f c:Nat),c≤n→Builtin.growBy n f c≤2*n+1000
 |0,c,h=>by simp [Builtin.growBy]; omega
 |f+1,c,h=>by
  simp only [Builtin.growBy]
  split
  ·omega
  ·by_cases a:c+(c+768) / 4≤n
   ·exact x4k n f _ a
   ·have:∀ f,Builtin.growBy n f (c+(c+768) / 4)≤c+(c+768) / 4:=by
     intro f
     cases f with
     |zero=>simp [Builtin.growBy]
     |succ f=>simp only [Builtin.growBy]; rw [if_pos (by omega)]; omega
    have:=this f; omega
theorem w1t (n o:Nat) (h:o<n):Builtin.nextslicecap n o≤2*n+1000:=by
 unfold Builtin.nextslicecap
 split
 ·omega
 ·split
  ·omega
  ·exact x4k n 4 o (by omega)
section
variable {P:Program} {ρ:Rho} {h:List AO} {w:World}
theorem z96 {S J:TypeId} {e:TypeId} (hS:P.underlying S=some (.slice e)) {d2:TypeDesc} (O:P.underlying J=some d2) (E:∀ k,d2≠ .int k) {z s:Nat} (K:z91 P e=some z) (o:y2c P e=some s) {zs:List D} (b:y5l P e=some zs)
  (ty:TypeId) {a a2:Option Addr} {n cap m c:Nat} {cs xs:List Value} (N:∀ w':World,w'.heap=w.heap→(Builtin.firstCells z n (.slice a n cap)).run P w'= .ok cs.toArray w') (L:∀ w':World,w'.heap=w.heap→(Builtin.firstCells z m (.slice a2 m c)).run P w'= .ok xs.toArray w')
  (hm:cap<n+m) (Q:n≤cap) (H:n+m≤y25) (F:s≤60000):
  ∃ (rest:List Value) (t d:Nat),(Builtin.append_ #[S,J] ty #[.slice a n cap, .slice a2 m c]).run P w= .ok (.slice (some ⟨w.heap.size,0,none⟩) (n+m) t) { (World.push w (.cells (cs++xs++rest).toArray e)) with drawn:=d }∧
   n+m≤t∧rest.length=(t - (n+m))*zs.length∧z0u w.drawn d:=by
 have g:∃ i,P.info? e=some i∧i.bytes=s:=by
  unfold y2c at o
  cases l:P.info? e with
  |none=>simp [l] at o
  |some i=>exact ⟨i,rfl,by simpa [l] using o⟩
 obtain ⟨i,l,C⟩:=g
 have u:∃ h,i.zero=some h∧y22 h.cells.toList=some zs:=by
  unfold y5l at b
  rw [l] at b
  simp only [eBp] at b
  cases G:i.zero with
  |none=>simp [G] at b
  |some h=>exact ⟨h,rfl,by simpa [G] using b⟩
 obtain ⟨h,x,y⟩:=u
 have j:¬ (Builtin.nextslicecap (n+m) cap*s>2 ^ 48):=by
  have I:=w1t (n+m) cap hm
  unfold y25 at H
  have:Builtin.nextslicecap (n+m) cap*s≤2001000*60000:=Nat.mul_le_mul (by omega) F
  omega
 have M:(typeInfo e).run P w= .ok i w:=by simp [typeInfo,l]
 have q:¬ ((n+m:Nat):Int)>IntKind.i64.max:=by
  unfold y25 at H
  simp [IntKind.max,IntKind.signed,IntKind.bits]; omega
 have f:(match d2 with| .int _=>true|_=>false)=false:=by
  cases d2<;>first|rfl|exact absurd rfl (E _)
 refine ⟨(Builtin.zeroCells h.cells ((Question.appendCap (n+m) cap e).cut (w.tape w.drawn (.appendCap (n+m) cap e)) - (n+m))).toList,(Question.appendCap (n+m) cap e).cut (w.tape w.drawn (.appendCap (n+m) cap e)),w.drawn+1,?_,?_,?_,z0u.succ _⟩
 ·have v:∀ w,(zeroValue e).run P w= .ok h w:=fun w=>by simp [zeroValue,typeInfo,l,x]
  have B:∀ d,(Builtin.firstCells z n (.slice a n cap)).run P { w with drawn:=d }= .ok cs.toArray { w with drawn:=d }:=fun d=>N _ rfl
  have A:∀ d,(Builtin.firstCells z m (.slice a2 m c)).run P { w with drawn:=d }= .ok xs.toArray { w with drawn:=d }:=fun d=>L _ rfl
  have p:∀ w,(typeInfo e).run P w= .ok i w:=fun w=>by simp [typeInfo,l]
  unfold Builtin.append_
  simp only [eCa,eCt,eDf,Sem.run_bind,z0g hS,Result.andThen_ok,z1f K,z0g O,Sem.run_pure,f,Builtin.lenOf,eAg,if_false,Sem.run_ite,show ¬ (n+m≤cap) by omega,q,false_and,
   p,C,j,run_choose,Question.forced,run_askRoom,B,A,v,newRow,run_newObj,not_false_eq_true,if_true,eDd]
  have r:∀ Z:Array Value,cs.toArray++xs.toArray++Z=(cs++xs++Z.toList).toArray:=fun Z=>by apply Array.ext'; simp
  rw [r]; rfl
 ·simp [Question.cut]
 ·obtain ⟨I,_⟩:=z8u y
  simp [Builtin.zeroCells,I]
theorem y1f {S j:TypeId} {e:TypeId} (hS:P.underlying S=some (.slice e)) {d2:TypeDesc} (q:P.underlying j=some d2) (h:∀ k,d2≠ .int k) {z:Nat} (l:z91 P e=some z)
  (ty:TypeId) {b o n cap:Nat} {a2:Option Addr} {m d:Nat} {xs:List Value} (p:(Builtin.firstCells z m (.slice a2 m d)).run P w= .ok xs.toArray w)
  (hm:n+m≤cap) {c:Array Value} {t:TypeId} (i:w.heap[b]?=some (.cells c t (0,0))) (g:o+n*z+xs.length≤c.size) (r:∀ u∈xs,u.oneCell'=true):
  (Builtin.append_ #[S,j] ty #[.slice (some ⟨b,o,none⟩) n cap, .slice a2 m d]).run P w=
   .ok (.slice (some ⟨b,o,none⟩) (n+m) cap) (World.setObj w b (.cells (c.toList.take (o+n*z)++xs++c.toList.drop (o+n*z+xs.length)).toArray t (0,0))):=by
 have a:(match d2 with| .int _=>true|_=>false)=false:=by
  cases d2<;>first|rfl|exact absurd rfl (h _)
 have f:=run_storeCells_at (P:=P) b (o+n*z) t xs 0 c w i (by simpa using g) r
 rw [z7t i] at f
 simp only [eBa] at f
 unfold Builtin.append_
 simp only [eCa,eCt,eDf,Sem.run_bind,z0g hS,Result.andThen_ok,z1f l,z0g q,Sem.run_pure,a,Builtin.lenOf,eAg,if_false,Sem.run_ite,hm,if_true,
  eDd,p,z5j,f]
def w16:Option Nat→List (Nat×AO)
 |some id=>[(id, .dead)]
 |none=>[]
theorem v6k (hr:z0b P ρ h w) {new:Nat} (A:ρ new=none) (kill:Option Nat) {z:Nat} (K:0<z) {o:AO} {es xs:List (List AV)} (N:o.rows=some (es++xs)) {cs vs rest:List Value}
  (he:z29 ρ (z0d ρ h) w z es cs) (I:z29 ρ (z0d ρ h) w z xs vs) (e:TypeId) (n x d:Nat) (E:n=(es++xs).length) (F:n≤x) (f:rest.length=(x - n)*z) (q:z0u w.drawn d) {s:Sem Value}
  (M:s.run P w= .ok (.slice (some ⟨w.heap.size,0,none⟩) n x) { (World.push w (.cells (cs++vs++rest).toArray e)) with drawn:=d }) (c:Bool):
  z0o P ρ h w new s ⟨c, .slice new z 0 n none,w16 kill++[(new,o)]⟩:=by
 obtain ⟨u,C,g,b⟩:∃ u,z07 h (w16 kill++[(new,o)])=z03 u new o∧z0b P ρ u w∧Ext (fun id=>id≠new) ρ h w ρ u w:=by
  cases kill with
  |none=>exact ⟨h,rfl,hr,Ext.refl _ _ _ _⟩
  |some id=>exact ⟨z03 h id .dead,rfl,hr.kill id,Ext.kill _ _ _ _ _⟩
 have H:=b.keep
 have l:=(he.append I).keep H (fun _ _ h=>h)
 have G:=z65 g A ⟨w.heap.size,0,z⟩ o (.cells (cs++vs++rest).toArray e) rfl
 have a:=l.keep G (Rho.put_mono ρ new ⟨w.heap.size,0,z⟩ A)
 have m:z1c P (ρ.put new ⟨w.heap.size,0,z⟩) (z0d (ρ.put new ⟨w.heap.size,0,z⟩) (z03 u new o)) (World.push w (.cells (cs++vs++rest).toArray e)) ⟨w.heap.size,0,z⟩ o:=by
  refine z1c.of_rows N K _ e (z4c _ _) a.2.1 (fun i r j y O L=>?_)
  obtain ⟨v,J,t,B⟩:=a.2.2 i r j y O L
  refine ⟨v,?_,t,B⟩
  simp only [eCa,eAq]
  rw [eCl]
  ·exact J
  ·exact (eAa.1 J).1
 have p:=g.new A z o _ m
 have k:=p.drawn d q
 refine ⟨_,_,ρ.put new ⟨w.heap.size,0,z⟩,M,?_,by show z0b P _ (z07 h (w16 kill++[(new,o)])) _; rw [C]; exact k,?_, .inr ⟨o,by simp⟩⟩
 ·show z0n _ (z0d _ (z07 h (w16 kill++[(new,o)]))) _ _ _
  rw [C]
  refine .slice new z 0 n none ⟨w.heap.size,0,z⟩ _ x (Rho.put_same _ _ _) rfl (fun _=>by simp) (.inr ⟨rfl,(cs++vs++rest).length,?_,?_⟩) F
  ·show z1a (World.push w _) _=_
   rw [z0y (z4c _ _)]; simp
  ·have t:=(he.append I).1
   rw [←E] at t
   simp only [eCv] at t⊢
   rw [f,t, ←eAr]
   simp; exact eAv _ (by omega)
 ·show Ext _ _ _ _ _ (z07 h (w16 kill++[(new,o)])) _
  rw [C]
  exact b.trans ((Ext.new g A ⟨w.heap.size,0,z⟩ o _ rfl).trans (Ext.drawn _ _ _ _ d q))
end
end Go.Am
end
section
namespace Go.Am
theorem and_true {a b:Bool} (h:std.and a b=true):a=true∧b=true:=by simpa [std] using h
theorem z2t {i j:Int} (h:std.cmp .leq i j=true):i≤j:=by simpa [std,z3r] using h
theorem y0u (a b:Els):(Els.app std a b).rows=some (a.toA++b.toA):=by
 cases a<;>cases b<;>simp [Els.app,AO.rows,Els.toA,std,z4q]
theorem x6o {o a:AO} {i:Nat} {x:Els} (h:x8k std o i x=some a):∃ E,o.rows=some E∧a.rows=some (z48 E i x.toA):=by
 cases o<;>cases x<;>simp [x8k] at h<;>subst h
 ·exact ⟨_,rfl,by simp [AO.rows,std,z48,Els.toA,z4q]⟩
 ·exact ⟨_,rfl,rfl⟩
 ·exact ⟨_,rfl,rfl⟩
 ·exact ⟨_,rfl,rfl⟩
theorem y55 (l xs:List (List AV)) (i k:Nat) (h:i+xs.length≤l.length):(z48 l i xs)[k]?=if i≤k∧k<i+xs.length then xs[k - i]? else l[k]?:=by
 unfold z48
 rw [eCr,eBf]
 have b:(l.take i).length=i:=by simp; omega
 rw [b]
 split
 ·rename_i a
  rw [if_neg (by omega),eDs,if_pos a]
 ·rename_i a
  rw [eBf]
  split
  ·rename_i c; rw [if_pos (by omega)]
  ·rename_i c; rw [if_neg (by omega),eCg]; congr 1; omega
section
variable {P:Program} {ρ:Rho} {h:List AO} {w:World}
theorem y00 {O:Nat→Prop} {z:Nat} (i:0<z) {es:List (List AV)} {cs:List Value} (hr:z29 ρ O w z es cs):∀ u∈cs,u.oneCell'=true:=by
 intro u j
 obtain ⟨k,e,c⟩:=List.getElem_of_mem j
 obtain ⟨n,m,l⟩:=hr
 have d:=e
 rw [n] at e
 obtain ⟨q,p,o⟩:=x4i i e
 have h:es[k / z]?=some es[k / z]:=eAb q
 have b:k % z<(es[k / z]).length:=by rw [m _ _ h]; exact p
 obtain ⟨v,f,a,g⟩:=l _ _ _ _ h (eAb b)
 rw [←o,eAb d] at f
 cases f
 rw [←c]; exact a
theorem y1x {O:Nat→Prop} {z:Nat} (F:0<z) {base:Nat} {c:Array Value} {E X:List (List AV)} {vs:List Value} {i:Nat}
  (t:∀ (i:Nat) (r:List AV),E[i]?=some r→r.length=z)
  (x:∀ (i:Nat) (r:List AV) (j:Nat) (y:AV),E[i]?=some r→r[j]?=some y→∃ v,c[base+i*z+j]?=some v∧v.oneCell'=true∧z0n ρ O w y v)
  (n:z29 ρ O w z X vs) (h:i+X.length≤E.length) (f:base+i*z+vs.length≤c.size):
  (∀ (k:Nat) (r:List AV),(z48 E i X)[k]?=some r→r.length=z)∧
  ∀ (k:Nat) (r:List AV) (j:Nat) (y:AV),(z48 E i X)[k]?=some r→r[j]?=some y→
   ∃ v,((c.toList.take (base+i*z)++vs++c.toList.drop (base+i*z+vs.length)).toArray)[base+k*z+j]?=some v∧v.oneCell'=true∧z0n ρ O w y v:=by
 have d:∀ (k:Nat) (r:List AV),(z48 E i X)[k]?=some r→r.length=z:=by
  intro k r b
  rw [y55 _ _ _ _ h] at b
  split at b
  ·exact n.2.1 _ r b
  ·exact t k r b
 refine ⟨d,fun k r j y b m=>?_⟩
 have u:j<z:=by rw [←d k r b]; exact (eAa.1 m).1
 rw [y55 _ _ _ _ h] at b
 have p:=z5o c.toList vs (base+i*z) (base+k*z+j) (by simpa using f)
 rw [eCa,p]
 have o:=n.1
 split at b
 ·rename_i A
  obtain ⟨v,l,q,a⟩:=n.2.2 _ r j y b m
  refine ⟨v,?_,q,a⟩
  have e:k*z=i*z+(k - i)*z:=by rw [←eAr]; congr 1; omega
  have g:(k - i)*z+j<vs.length:=(eAa.1 l).1
  rw [if_pos (by omega),show base+k*z+j - (base+i*z)=(k - i)*z+j by omega]
  exact l
 ·rename_i s
  obtain ⟨v,l,q,a⟩:=x k r j y b m
  refine ⟨v,?_,q,a⟩
  rw [if_neg]
  ·simpa using l
  ·rintro ⟨G,C⟩
   rw [o] at C
   rcases eCf k i with g|B
   ·have:(k+1)*z≤i*z:=eAv _ g
    rw [eAr] at this; omega
   ·have:(i+X.length)*z≤k*z:=eAv _ (by omega)
    rw [eAr] at this; omega
theorem z0b.move (hr : z0b P ρ h w) {id new : Nat} {L : Loc} (l : ρ id = some L) (s : (z0f h id).live = true) (C : ρ new = none) (base c : Nat) (o : AO) (O : o.live = true) (x : Obj)
    (G : ∀ n, z1a w L.blk = some n → z1a (World.setObj w L.blk x) L.blk = some n)
    (F : ∀ (k : z43 (z0d ρ h) (z0d (ρ.put new ⟨L.blk, base, c⟩) (z03 (z03 h id .dead) new o)) w (World.setObj w L.blk x)), z1c P (ρ.put new ⟨L.blk, base, c⟩) (z0d (ρ.put new ⟨L.blk, base, c⟩) (z03 (z03 h id .dead) new o)) (World.setObj w L.blk x) ⟨L.blk, base, c⟩ o) :
    z0b P (ρ.put new ⟨L.blk, base, c⟩) (z03 (z03 h id .dead) new o) (World.setObj w L.blk x) ∧
      Ext (fun j => j ≠ new) ρ h w (ρ.put new ⟨L.blk, base, c⟩) (z03 (z03 h id .dead) new o) (World.setObj w L.blk x) := by
  have y : id ≠ new := by rintro rfl; rw [C] at l; cases l
  have nth : ∀ j, j ≠ new → j ≠ id → z0f (z03 (z03 h id .dead) new o) j = z0f h j := fun j t r => by
    rw [z0c _ _ _ _ (Ne.symm t), z0c _ _ _ _ (Ne.symm r)]
  have a : z0f (z03 (z03 h id .dead) new o) id = .dead := by rw [z0c _ _ _ _ (Ne.symm y), z0h]
  have own : ∀ b, z0d (ρ.put new ⟨L.blk, base, c⟩) (z03 (z03 h id .dead) new o) b → z0d ρ h b := by
    rintro b (q | ⟨j, M, f, g, rfl⟩)
    · exact .inl q
    by_cases e : j = new
    · subst e; rw [Rho.put_same] at f; cases f; exact .inr ⟨id, L, l, s, rfl⟩
    · rw [Rho.put_ne _ _ _ _ e] at f
      by_cases d : j = id
      · subst d; rw [a] at g; cases g
      · rw [nth j e d] at g; exact .inr ⟨j, M, f, g, rfl⟩
  have k : z43 (z0d ρ h) (z0d (ρ.put new ⟨L.blk, base, c⟩) (z03 (z03 h id .dead) new o)) w (World.setObj w L.blk x) :=
    { size := by rw [z10]; omega
      drawn := z0u.refl _
      frame := fun b m z => z15 _ _ _ _ (fun e => z (e ▸ .inr ⟨id, L, l, s, rfl⟩))
      own := fun b _ m => own b m
      shape := fun b n m => by
        by_cases he : b = L.blk
        · subst he; exact G n m
        · unfold z1a; rw [z15 _ _ _ _ he]; exact m }
  refine ⟨⟨fun j M f => ?_, fun i j M N t r v p m => ?_, fun b q => by rw [z10]; exact hr.fr b q, fun j M f g q => ?_, hr.gl.keep k⟩, rfl, rfl, rfl, k, fun j g => Rho.put_ne _ _ _ _ g, rfl,
    fun b q => z15 _ _ _ _ (fun e => hr.sep id L l s (e ▸ q))⟩
  · by_cases e : j = new
    · subst e; rw [Rho.put_same] at f; cases f
      rw [z0h]
      exact ⟨by rw [z10]; exact (hr.obj id L l).1, F k⟩
    · rw [Rho.put_ne _ _ _ _ e] at f
      obtain ⟨J, I⟩ := hr.obj j M f
      refine ⟨by rw [z10]; exact J, ?_⟩
      by_cases d : j = id
      · subst d; rw [a]; trivial
      · rw [nth j e d]
        by_cases A : (z0f h j).live = true
        · exact I.keep k (Rho.put_mono _ _ _ C) (z15 _ _ _ _ (fun K => d (hr.inj j id M L f l A s K)))
        · cases H : z0f h j <;> simp_all [AO.live, z1c]
  · by_cases B : i = new
    · subst B
      by_cases d : j = i
      · exact d.symm
      · rw [Rho.put_same] at t; cases t
        rw [Rho.put_ne _ _ _ _ d] at r
        by_cases u : j = id
        · subst u; rw [a] at p; cases p
        · rw [nth j d u] at p
          exact absurd (hr.inj id j L N l r s p m).symm u
    · rw [Rho.put_ne _ _ _ _ B] at t
      by_cases u : i = id
      · subst u; rw [a] at v; cases v
      · rw [nth i B u] at v
        by_cases d : j = new
        · subst d; rw [Rho.put_same] at r; cases r
          exact absurd (hr.inj i id M L t l v s m) u
        · rw [Rho.put_ne _ _ _ _ d] at r
          by_cases E : j = id
          · subst E; rw [a] at p; cases p
          · rw [nth j d E] at p
            exact hr.inj i j M N t r v p m
  · by_cases e : j = new
    · subst e; rw [Rho.put_same] at f; cases f
      exact hr.sep id L l s q
    · rw [Rho.put_ne _ _ _ _ e] at f
      by_cases d : j = id
      · subst d; rw [a] at g; cases g
      · rw [nth j e d] at g; exact hr.sep j M f g q
theorem v60 (hr:z0b P ρ h w) {new:Nat} {z:Nat} (u:0<z) {es:List (List D)} {cs rest:List Value} (he:z29 ρ (z0d ρ h) w z (z5m es) cs) (o:es≠[]) (e:TypeId) (m d:Nat) (p:es.length≤m) (l:z0u w.drawn d) {s:Sem Value}
  (B:s.run P w= .ok (.slice (some ⟨w.heap.size,0,none⟩) es.length m) { (World.push w (.cells (cs++rest).toArray e)) with drawn:=d }) (c:Bool):z0o P ρ h w new s ⟨c, .d (.list false z es),[]⟩:=by
 have n:=(hr.push0 (.cells (cs++rest).toArray e)).drawn d l
 have g:Ext (fun id=>id≠new) ρ h w ρ h { (World.push w (.cells (cs++rest).toArray e)) with drawn:=d }:=(Ext.push0 _ hr _).trans (Ext.drawn _ _ _ _ d l)
 refine ⟨_,_,ρ,B,?_,n,g, .inl rfl⟩
 have f:cs.length=es.length*z:=by rw [he.1,z0s]
 refine .d (.list false es w.heap.size 0 z m u o (fun C=>Nat.lt_irrefl _ (z7i hr C)) p (by simp) (fun i r t=>?_) (fun k=>(cs[k]?).getD undef) (fun k q=>?_) (fun k q=>?_) (fun i r j y t x=>?_))
 ·have:=he.2.1 i (toA r) (by rw [z3e,t]; rfl)
  rw [z0z] at this; exact this
 ·have b:k<cs.length:=by rw [f]; exact q
  rw [eAb b]
  exact y00 u he _ (eCk _)
 ·have b:k<cs.length:=by rw [f]; exact q
  rw [eAb b]
  refine z6f (c:=(cs++rest).toArray) (z4c _ _) ?_
  rw [eCa,eAq,eCl b,eAb b]
  rfl
 ·obtain ⟨v,A,_,a⟩:=he.2.2 i (toA r) j (.d y) (by rw [z3e,t]; rfl) (by rw [z1l,x]; rfl)
  simp only [A,eBb]
  cases a with
  |d a=>exact a.keep g.keep
theorem v0q (hr:z0b P ρ h w) {new:Nat} {z:Nat} (q:0<z) {es:List (List D)} {cs:List Value} (he:z29 ρ (z0d ρ h) w z (z5m es) cs) (n:es≠[]) (e:TypeId) {s:Sem Value} {rv:Array Value} (l:cs=rv.toList)
  (x:s.run P w= .ok (.slice (some ⟨w.heap.size,0,none⟩) es.length es.length) (World.push w (.cells rv e))):z0o P ρ h w new s ⟨true, .d (.list true z es),[]⟩:=by
 have m:=hr.push0 (.cells rv e)
 have g:Ext (fun id=>id≠new) ρ h w ρ h (World.push w (.cells rv e)):=Ext.push0 _ hr _
 refine ⟨_,_,ρ,x,?_,m,g, .inl rfl⟩
 have f:cs.length=es.length*z:=by rw [he.1,z0s]
 refine .d (.list true es w.heap.size 0 z es.length q n (fun A=>Nat.lt_irrefl _ (z7i hr A)) (eAj _) (fun _=>rfl) (fun i r p=>?_) (fun k=>(cs[k]?).getD undef) (fun k o=>?_) (fun k o=>?_) (fun i r j y p t=>?_))
 ·have:=he.2.1 i (toA r) (by rw [z3e,p]; rfl)
  rw [z0z] at this; exact this
 ·have b:k<cs.length:=by rw [f]; exact o
  rw [eAb b]
  exact y00 q he _ (eCk _)
 ·have b:k<cs.length:=by rw [f]; exact o
  rw [eAb b]
  refine z6f (c:=rv) (z4c _ _) ?_
  rw [eAq]
  have:rv[k]?=cs[k]?:=by rw [l]; simp
  rw [this,eAb b]
  rfl
 ·obtain ⟨v,u,_,a⟩:=he.2.2 i (toA r) j (.d y) (by rw [z3e,p]; rfl) (by rw [z1l,t]; rfl)
  simp only [u,eBb]
  cases a with
  |d a=>exact a.keep g.keep
theorem x50 (a b:List (List D)):z5m (a++b)=z5m a++z5m b:=by rw [z4q,z4q,z4q,eFf]
theorem y19 {z:Nat} {id d off len:Nat} {cap:Option Nat} {c:Bool} {b:Els} (a:z2y std z h (.slice id d off len cap)=some (c,b)) (g:c=true):
  z=d∧∃ E,(z0f h id).rows=some E∧off+len≤E.length∧b.toA=(E.drop off).take len:=by
 simp only [z2y] at a
 cases f:Nat.beq z d with
 |false=>rw [f] at a; cases a
 |true=>
 rw [f] at a; simp only [cond_true] at a
 refine ⟨eAd f,?_⟩
 split at a
 ·rename_i es e; cases a
  exact ⟨_,by rw [e]; rfl,by rw [z0s]; exact z2v g,by simp [Els.toA,std,z4q]⟩
 ·rename_i es e; cases a
  exact ⟨_,by rw [e]; rfl,z2v g,rfl⟩
 ·cases a
theorem z8f {o:AO} {E:List (List AV)} (h:o.rows=some E):o.live=true:=by cases o<;>simp [AO.rows] at h<;>rfl
theorem y2k {S T2:TypeId} {ti ti2:TI} (ht:z7c P S ti) (ht2:z7c P T2 ti2) (hd2':∃ e z b a zs,ti2.desc= .slc e z b a zs) (hr:z0b P ρ h w) {new:Nat} (hn:ρ new=none) {q:Bool} {s x:AV} {vs vx:Value}
  (U:z0n ρ (z0d ρ h) w s vs) (hx:z0n ρ (z0d ρ h) w x vx) {ty:TypeId} {res:Res} (hq:∀ b,z3n std s x=some b→b=q) {r:List D} (he:z1z std ti h new q r s x=some res) (u:res.c=true):
  z0o P ρ h w new (Builtin.append_ #[S,T2] ty #[vs,vx]) res:=by
 obtain ⟨d,hd,hda,Z⟩:=ht.desc
 obtain ⟨d2,W,_,hk2⟩:=ht2.desc
 obtain ⟨e2,z2,b2,a2,zs2,hdesc2⟩:=hd2'
 rw [hdesc2] at hk2
 obtain ⟨rfl,_⟩:=hk2
 have hint:∀ k,TypeDesc.slice e2≠ .int k:=by intro k; simp
 unfold z1z at he
 split at he
 rotate_left
 ·cases he
 rename_i e z eb ea ez hdesc
 rw [hdesc] at Z
 obtain ⟨rfl,hz,heb,_,hez,hezl⟩:=Z
 cases hb:(Nat.ble 1 z&&Nat.ble eb 60000) with
 |false=>rw [hb] at he; cases he
 |true=>
 rw [hb] at he; simp only [cond_true] at he
 simp only [eAc] at hb
 have A:0<z:=eAh hb.1
 have hebb:eb≤60000:=eAh hb.2
 split at he
 rotate_left
 ·cases he
 rename_i cx xs cs es hxs g
 have grow:∀ (kill:Option Nat) (c:Bool) (n:Nat),cx=true→cs=true→1≤z7b std x→n=z7b std s→n+z7b std x≤y25→
   (∀ (a:Option Addr) (cap:Nat),vs= .slice a n cap→cap<n+z7b std x)→z0o P ρ h w new (Builtin.append_ #[S,T2] ty #[vs,vx]) ⟨c, .slice new z 0 (n+z7b std x) none,w16 kill++[(new,Els.app std es xs)]⟩:=by
  intro kill c n Y T O h4 h5 h6
  obtain ⟨a,m,capx,G,rfl,hm,hmc,N,l,Q⟩:=y0k (P:=P) hr A hx hxs Y
  obtain ⟨b,k,capb,ces,rfl,Z,hkc,hel,her,hef⟩:=y0k (P:=P) hr A U g T
  rw [←hm] at O h5 h6⊢
  have hnk:n=k:=h4.trans Z.symm
  subst hnk
  obtain ⟨rest,nc,dd,p,hnc,hrl,hdr⟩:=z96 (P:=P) (w:=w) hd W hint hz heb hez ty hef Q (h6 b capb rfl) hkc h5 hebb
  exact v6k hr hn kill A (y0u es xs) her l e (n+m) nc dd (by rw [eCv,hel,N]) hnc (by rw [hrl,hezl]) hdr p c
 split at he
 ·
  rename_i full z0 es0
  split at he
  ·cases hdt:v3v r z0 with
   |true=>
    rw [hdt] at he
    simp only [cond_true] at he
    split at he
    ·rename_i e1 y1
     cases he
     simp only at u
     obtain ⟨Y,u⟩:=and_true u
     obtain ⟨T,O⟩:=and_true u
     have R:=hq full rfl
     subst R
     have hcs:cs=true:=by
      simp only [z2y] at g
      cases hb:Nat.beq z z0 with
      |true=>rw [hb] at g; cases g; rfl
      |false=>rw [hb] at g; simp only [cond_false] at g; split at g<;>cases g; rfl
     obtain ⟨a,m,capx,G,rfl,hm,hmc,N,l,Q⟩:=y0k (P:=P) hr A hx hxs Y
     obtain ⟨b,k,capb,ces,rfl,Z,hkc,hel,her,hef⟩:=y0k (P:=P) hr A U g hcs
     rw [←hm, ←Z] at O
     rw [←hm] at T
     have hm1:=z2v T
     have K:capb<k+m:=by
      cases U with
      |d U=>
       generalize hkk:k=kk at U
       cases U with
       |lnil _ _ _ _ hcap=>have:=hcap rfl; omega
       |list _ _ _ _ _ _ _ _ _ _ hf=>have:=hf rfl; omega
     obtain ⟨rest,nc,dd,p,hnc,hrl,hdr⟩:=z96 (P:=P) (w:=w) hd W hint hz heb hez ty hef Q K hkc (z2v O) hebb
     have hl1:e1.length=k:=by have:=hel; simp only [Els.toA,z0s] at this; omega
     have hl2:y1.length=m:=by have:=N; simp only [Els.toA,z0s] at this; omega
     have hll:(e1++y1).length=k+m:=by rw [eCv,hl1,hl2]
     refine v60 hr A (es:=e1++y1) (cs:=ces++G) (rest:=rest) (by rw [x50]; exact her.append l) (by intro e0; rw [e0] at hll; simp at hll; omega) e nc dd (by rw [hll]; exact hnc) hdr (by rw [hll]; exact p) _
    ·cases he
   |false=>
   rw [hdt] at he
   simp only [cond_false] at he
   cases he
   simp only at u
   obtain ⟨Y,u⟩:=and_true u
   obtain ⟨T,O⟩:=and_true u
   have R:=hq full rfl
   subst R
   have hcs:cs=true:=by
    simp only [z2y] at g
    cases hb:Nat.beq z z0 with
    |true=>rw [hb] at g; cases g; rfl
    |false=>rw [hb] at g; simp only [cond_false] at g; split at g<;>cases g; rfl
   refine grow none _ _ Y hcs (z2v T) rfl (z2v O) ?_
   intro a cap M
   have:=z2v T
   cases U with
   |d U=>
    subst M
    generalize hnn:z7b std (AV.d (D.list true z0 es0))=nn at U
    cases U with
    |lnil _ _ _ _ hcap=>have:=hcap rfl; omega
    |list _ _ _ _ _ _ _ _ _ _ hf=>have:=hf rfl; omega
  ·cases he
 ·
  rename_i id z' off len
  cases he
  simp only at u
  obtain ⟨Y,u⟩:=and_true u
  obtain ⟨T,u⟩:=and_true u
  obtain ⟨O,h4⟩:=and_true u
  have hs0:=U
  cases U with
  |nils _ _ _ _ a f=>
   refine grow (some id) _ 0 Y T (z2v O) rfl (z2v h4) ?_
   intro a' cap' M
   cases M
   have:=z2v O
   omega
  |slice _ _ _ _ _ L a cap hL H haa f hle=>
  by_cases V:len+z7b std x≤cap
  ·
   obtain ⟨rfl,E,hE,hoff,I⟩:=y19 g T
   obtain ⟨a2',m,capx,G,rfl,hm,hmc,N,l,Q⟩:=y0k (P:=P) hr A hx hxs Y
   rw [←hm] at O h4 V⊢
   have hm1:1≤m:=z2v O
   rw [haa (by omega),H]
   rcases f with f|⟨_,nb,hnb,hroom⟩
   ·cases f
   obtain ⟨_,hob⟩:=hr.obj id L hL
   obtain ⟨_,c,t,F,hl,hj⟩:=hob.rows hE
   rw [H] at hl hj hroom
   rw [z0y F] at hnb
   cases hnb
   have hcx:G.length=m*z:=by rw [l.1,N]
   have hmul:(off+cap)*z=off*z+cap*z:=eAr _ _ _
   have hmul2:(len+m)*z≤cap*z:=eAv _ V
   have hmul3:(len+m)*z=len*z+m*z:=eAr _ _ _
   have p:=y1f (P:=P) (w:=w) hd W hint hz ty (Q w rfl) V F (o:=L.base+off*z) (by omega) (y00 A l)
   have B:=z8f hE
   have X:∀ k,z1a w L.blk=some k→z1a (World.setObj w L.blk (.cells (c.toList.take (L.base+off*z+len*z)++G++c.toList.drop (L.base+off*z+len*z+G.length)).toArray t (0,0))) L.blk=some k:=by
    intro k Z
    rw [z0y F] at Z; cases Z
    rw [z0y (z0t _ _ _ (eAe.1 F).1)]
    congr 1
    simp; omega
   obtain ⟨g1,g2⟩:=hr.move hL B hn (L.base+off*z) z (Els.app std es xs) (z8f (y0u es xs)) _ X (fun kp=>by
    have hEd:∀ (i:Nat) (r:List AV),(E.drop off).take len=es.toA:=fun _ _=>I.symm
    refine z1c.of_rows (y0u es xs) A _ t (z0t _ _ _ (eAe.1 F).1) (fun i r C=>?_) (fun i r j y C hy=>?_)
    ·rw [eBf] at C
     split at C
     ·rw [I,z1g] at C
      split at C
      ·exact hl _ r C
      ·cases C
     ·exact l.2.1 _ r C
    ·have helen:es.toA.length=len:=by rw [I]; simp; omega
     have hrl:r.length=z:=by
      rw [eBf] at C
      split at C
      ·rw [I,z1g] at C
       split at C
       ·exact hl _ r C
       ·cases C
      ·exact l.2.1 _ r C
     have hjz:j<z:=by rw [←hrl]; exact (eAa.1 hy).1
     have hsp:=z5o c.toList G (L.base+off*z+len*z) (L.base+off*z+i*z+j) (by simp; omega)
     simp only at hsp⊢
     rw [eCa,hsp]
     rw [eBf] at C
     split at C
     ·rename_i K
      rw [helen] at K
      rw [I,z1g,if_pos K] at C
      obtain ⟨v,M,hv1,hvr⟩:=hj _ r j y C hy
      have:(i+1)*z≤len*z:=eAv _ K
      rw [eAr] at this
      rw [if_neg (by omega)]
      refine ⟨v,?_,hv1,hvr.keep kp (Rho.put_mono _ _ _ hn)⟩
      rw [eAr] at M
      rw [show L.base+off*z+i*z+j=L.base+(off*z+i*z)+j by omega]
      simpa using M
     ·rename_i hge
      rw [helen] at hge C
      obtain ⟨v,M,hv1,hvr⟩:=l.2.2 _ r j y C hy
      have K:=(eAa.1 M).1
      have e:i*z=len*z+(i - len)*z:=by rw [←eAr]; congr 1; omega
      rw [if_pos (by omega)]
      refine ⟨v,?_,hv1,hvr.keep kp (Rho.put_mono _ _ _ hn)⟩
      rw [show L.base+off*z+i*z+j - (L.base+off*z+len*z)=(i - len)*z+j by omega]
      exact M)
   refine ⟨_,_,_,p,?_,g1,g2, .inr ⟨_,by simp; exact .inr rfl⟩⟩
   refine .slice new z 0 (len+m) none ⟨L.blk,L.base+off*z,z⟩ _ cap (Rho.put_same _ _ _) rfl (fun _=>by simp) (.inr ⟨rfl,c.size,?_,?_⟩) V
   ·exact X _ (z0y F)
   ·simp; omega
  ·refine grow (some id) _ len Y T (z2v O) rfl (z2v h4) ?_
   intro a' cap' M
   cases M
   omega
 ·
  rename_i id z' off len c
  split at he
  ·
   split at he
   ·rename_i o ho
    cases he
    simp only at u
    obtain ⟨Y,u⟩:=and_true u
    obtain ⟨T,u⟩:=and_true u
    obtain ⟨hge1,O⟩:=and_true u
    have hge1:=z2v hge1
    have hw:len+z7b std x≤c:=z2v (hq _ rfl)
    cases U with
    |nils _ _ _ _ a f=>
     rcases f with f|f<;>cases f
     omega
    |slice _ _ _ _ _ L a cap hL H haa f hle=>
    rcases f with f|⟨f,_⟩
    rotate_left
    ·cases f
    cases f
    obtain ⟨rfl,E,hE,hoff,I⟩:=y19 g T
    obtain ⟨E',hE',J⟩:=x6o ho
    rw [hE] at hE'; cases hE'
    have hlo:v9s std (z0f h id)=E.length:=by
     cases hno:z0f h id<;>rw [hno] at hE<;>simp [AO.rows] at hE<;>subst hE<;>simp [v9s,std,z0s]
    have h3':off+c≤E.length:=by rw [←hlo]; exact z2v O
    obtain ⟨a2',m,capx,G,rfl,hm,hmc,N,l,Q⟩:=y0k (P:=P) hr A hx hxs Y
    rw [←hm] at hw hge1⊢
    obtain ⟨_,hob⟩:=hr.obj id L hL
    obtain ⟨_,cc,t,F,hl,hj⟩:=hob.rows hE
    rw [H] at hl hj
    have hcx:G.length=m*z:=by rw [l.1,N]
    have hmul:(off+len)*z=off*z+len*z:=eAr _ _ _
    by_cases hc0:0<c
    ·have hElast:L.base+E.length*z≤cc.size:=by
      have K:E.length - 1<E.length:=by omega
      have hrl:=hl _ _ (eAb K)
      have hy:z - 1<(E[E.length - 1]).length:=by omega
      obtain ⟨v,M,_,_⟩:=hj _ _ _ _ (eAb K) (eAb hy)
      have:=(eAe.1 M).1
      have e:E.length*z=(E.length - 1)*z+z:=by
       rw [←Nat.succ_mul]; congr 1; omega
      omega
     have hmul2:(off+len+m)*z≤E.length*z:=eAv _ (by omega)
     have hmul3:(off+len+m)*z=(off+len)*z+m*z:=eAr _ _ _
     rw [haa hc0,H]
     have p:=y1f (P:=P) (w:=w) hd W hint hz ty (Q w rfl) hw F (o:=L.base+off*z) (by omega) (y00 A l)
     rw [show L.base+off*z+len*z=L.base+(off+len)*z by omega] at p
     have B:=z8f hE
     have X:∀ k,z1a w L.blk=some k→z1a (World.setObj w L.blk (.cells (cc.toList.take (L.base+(off+len)*z)++G++cc.toList.drop (L.base+(off+len)*z+G.length)).toArray t (0,0))) L.blk=some k:=by
      intro k Z
      rw [z0y F] at Z; cases Z
      rw [z0y (z0t _ _ _ (eAe.1 F).1)]
      congr 1
      simp; omega
     have hkp:=z12 hr hL B o (z8f J) _ X
     obtain ⟨r1,r2⟩:=y1x (w:=w) A (base:=L.base) (c:=cc) (i:=off+len) hl hj l (by rw [N]; omega) (by omega)
     refine ⟨_,_,ρ,p,?_,hr.set hL B o (z8f J) _ X ?_,Ext.set _ hr hL B o (z8f J) _ X, .inl rfl⟩
     ·exact .slice id z off (len+m) (some c) L _ c hL H (fun _=>by rw [H]) (.inl rfl) hw
     ·refine z1c.of_rows J (by omega) _ t (z0t _ _ _ (eAe.1 F).1) (by rw [H]; exact r1) (fun i r j y C hy=>?_)
      rw [H]
      obtain ⟨v,M,hv1,hvr⟩:=r2 i r j y C hy
      exact ⟨v,M,hv1,hvr.keep hkp (fun _ _ h=>h)⟩
    ·omega
   ·cases he
  ·cases he
   simp only at u
   obtain ⟨Y,u⟩:=and_true u
   obtain ⟨T,u⟩:=and_true u
   obtain ⟨O,h4⟩:=and_true u
   have hw:=hq _ rfl
   refine grow none _ len Y T (z2v O) rfl (z2v h4) ?_
   intro a cap M
   cases U with
   |nils _ _ _ _ a f=>
    cases M
    have:=z2v O
    omega
   |slice _ _ _ _ _ L _ _ hL H haa f hle=>
    cases M
    rcases f with f|⟨f,_⟩
    ·cases f
     have:¬ (len+z7b std x≤c):=fun hle=>by
      have:std.leN (std.add len (z7b std x)) c=true:=eBj hle
      rw [this] at hw; cases hw
     omega
    ·cases f
 ·cases he
end
end Go.Am
end
section
namespace Go.Am
theorem w3i (n:Int) (a:0≤n) (b:n≤1000000):IntKind.i64.wrap n=n:=by
 have h:n % (2 ^ 64:Int)=n:=Int.emod_eq_of_lt a (by omega)
 simp [IntKind.wrap,IntKind.bits,IntKind.signed,h]
 omega
theorem x4t {place:Nat→Option (Nat×Nat)}:∀ {parts:List (Nat×AV)} {cells r:List AV},y8m place cells parts=some r→r.length=cells.length
 |[],cells,r,h=>by simp [y8m] at h; rw [h]
 |(i,v)::rest,cells,r,h=>by
  simp only [y8m] at h
  split at h
  ·rename_i off size cs _ _
   cases a:z8p cs size with
   |false=>rw [a] at h; cases h
   |true=>
   rw [a] at h; simp only [cond_true] at h
   split at h
   ·rename_i l b
    rw [x4t h,(y0a b).1]
   ·cases h
  ·cases h
section
variable {P:Program} {ρ:Rho} {h:List AO} {w:World}
theorem y4u {T:TypeId} {ti:TI} (ht:z7c P T ti) (hr:z0b P ρ h w) {new:Nat} (hn:ρ new=none) {l c:AV} {vl vc:Value} (Y:z0n ρ (z0d ρ h) w l vl) (A:z0n ρ (z0d ρ h) w c vc)
  {res:Res} (t:z6k std ti new l c=some res) (K:res.c=true):z0o P ρ h w new (Instr.makeSlice T vl vc) res:=by
 obtain ⟨d,hd,hda,J⟩:=ht.desc
 unfold z6k at t
 split at t
 rotate_left
 ·cases t
 rename_i e z E ea ez k1 F k2 a u
 rw [u] at J
 obtain ⟨rfl,hz,p,_,o,n⟩:=J
 cases L:(Nat.ble 1 z&&(Nat.ble E 60000&&z7n (toA ez))) with
 |false=>rw [L] at t; cases t
 |true=>
 rw [L] at t; cases t
 simp only [eAc] at L
 obtain ⟨hb1,hb2,hb3⟩:=L
 have G:0<z:=eAh hb1
 have hebb:E≤60000:=eAh hb2
 simp only at K
 obtain ⟨c1,K⟩:=and_true K
 obtain ⟨c2,M⟩:=and_true K
 have c1:=z3h c1
 have c2:=z2t c2
 have M:=z2t M
 cases Y with|d Y=>
 cases Y
 cases A with|d A=>
 cases A
 obtain ⟨i,b,m,Z,N,R⟩:∃ i b,P.info? e=some i∧i.bytes=E∧i.zero=some b∧y22 b.cells.toList=some ez:=by
  unfold y2c at p; unfold y5l at o
  cases m:P.info? e with
  |none=>simp [m] at p
  |some i=>
   rw [m] at p o
   simp at p o
   cases s:i.zero with
   |none=>simp [s] at o
   |some b=>exact ⟨i,b,rfl,p,s,by simpa [s] using o⟩
 obtain ⟨O,Q⟩:=z8u R
 have g:b.cells.size=z:=by rw [←n,O]; simp
 have W:(E:Int)*a≤60000*1000000:=Int.mul_le_mul (by omega) M (by omega) (by omega)
 have V:=w3i F c1 (by omega)
 have U:=w3i a (by omega) M
 have C:∀ k,k<a.toNat*z→(Array.map (fun x=>b.cells[x % b.cells.size]!) (Array.range (a.toNat*z)))[k]?=b.cells[k % z]?:=by
  intro k J
  have:k % z<b.cells.size:=by rw [g]; exact eFc _ G
  simp [J,g,getElem!_pos b.cells (k % z) this]
 refine y3q hr hn (T:=e) ((Array.range (a.toNat*z)).map (b.cells[· % b.cells.size]!)) (.slice new z 0 F.toNat (some a.toNat)) (.row (std.rep a.toNat ez)) 0 z (.slice (some ⟨w.heap.size,0,none⟩) F.toNat a.toNat) ?_ ?_ ?_
 ·have I:¬ ((E:Int)*a>2 ^ 48):=by omega
  have B:((a<0||decide ((E:Int)*a>2 ^ 48))||decide (F<0)||decide (F>a))=false:=by
   simp; omega
  unfold Instr.makeSlice
  simp only [Sem.run_bind,z0g hd,Result.andThen_ok,asInt,asIntOf,Sem.run_pure,typeInfo,run_program,m,Z,V,U,B,eAg,if_false,Sem.run_ite,run_askRoom,z1f hz]
  by_cases h0:a.toNat*z=0
  ·simp only [h0,if_true,Sem.run_pure,Result.andThen_ok,newRow,Sem.run_bind,run_newObj]
   have e0:∀ f:Nat→Value,Array.map f (Array.range 0)=#[]:=fun f=>by simp
   rw [e0,e0]; rfl
  ·simp [h0,zeroValue,typeInfo,m,N,newRow]
   rfl
 ·refine ⟨G,_,e,z4c _ _,fun i r m=>?_,fun i r j y m S=>?_⟩
  ·simp [std,eCe] at m
   rw [←m.2]; exact n
  ·simp [std,eCe] at m
   obtain ⟨hi1,rfl⟩:=m
   have hj:j<z:=by rw [←n]; exact (eAa.1 S).1
   obtain ⟨v,hv,q⟩:=Q (z0d (ρ.put new ⟨w.heap.size,0,z⟩) (z03 h new (.row (std.rep a.toNat ez)))) (World.push w (.cells ((Array.range (a.toNat*z)).map (b.cells[· % b.cells.size]!)) e)) j y S
   have X:i*z+j<a.toNat*z:=by
    have:(i+1)*z≤a.toNat*z:=eAv _ (by omega)
    rw [eAr] at this; omega
   have H:(i*z+j) % z=j:=by rw [Nat.add_comm,Nat.add_mul_mod_self_right]; exact eDh hj
   refine ⟨v,?_,?_,q⟩
   ·simp only [eAq]
    rw [C _ X,H]; simpa using hv
   ·have:w74 (.d y)=true:=z8q hb3 (by rw [z1l,S]; rfl)
    exact y2q (ρ:=ρ) this (.d q)
 ·exact .slice new z 0 _ _ ⟨w.heap.size,0,z⟩ _ _ (Rho.put_same _ _ _) rfl (fun _=>by simp) (.inl rfl) (by omega)
theorem w2p {α:Type} {z:Nat} (t:0<z):∀ (f:Nat) (l:List α) (es:List (List α)),x5f z f l=some es→l.length=es.length*z∧(∀ (i:Nat) (r:List α),es[i]?=some r→r.length=z)∧
  ∀ (i:Nat) (r:List α) (j:Nat),es[i]?=some r→j<z→l[i*z+j]?=r[j]?:=by
 intro f
 induction f with
 |zero=>
  intro l es h
  cases l with
  |nil=>simp [x5f] at h; subst h; simp
  |cons _ _=>simp [x5f] at h
 |succ f p=>
  intro l es h
  cases l with
  |nil=>simp [x5f] at h; subst h; simp
  |cons a l=>
   simp only [x5f] at h
   split at h
   ·rename_i x s
    cases c:x5f z f ((a::l).drop z) with
    |none=>rw [c] at h; cases h
    |some q=>
    rw [c] at h; simp at h; subst h
    obtain ⟨o,g⟩:=z3k s
    obtain ⟨e,n,m⟩:=p _ _ c
    have d:z≤(a::l).length:=by
     have:=g (z - 1) (by omega)
     rw [eAb (show z - 1<x.length by omega)] at this
     have:=(eAa.1 this).1
     omega
    refine ⟨by simp only [eFj] at e; simp only [eBn] at e d⊢; rw [eAr]; omega,fun i r b=>?_,fun i r j b k=>?_⟩
    ·cases i with
     |zero=>simp at b; subst b; exact o
     |succ i=>exact n i r (by simpa using b)
    ·cases i with
     |zero=>simp at b; subst b; have:=g j k; simpa using this
     |succ i=>
      have:=m i r j (by simpa using b) k
      rw [eCg] at this
      rw [←this]; congr 1; rw [eAr]; omega
   ·cases h
theorem x8i {α:Type} (l:List α) (c:0<l.length):∀ (n j:Nat),j<n*l.length→(w83 n l)[j]?=l[j % l.length]?
 |0,j,h=>by simp at h
 |n+1,j,h=>by
  simp only [w83]
  by_cases b:j<l.length
  ·rw [eCl b,eDh b]
  ·rw [eDm (by omega),x8i l c n (j - l.length) (by rw [eAr] at h; omega)]
   congr 1
   rw [Nat.mod_eq_sub_mod (a:=j) (by omega)]
theorem y6d {α:Type} (l:List α):∀ n,(w83 n l).length=n*l.length
 |0=>by simp [w83]
 |n+1=>by simp [w83,y6d l n,eAr]; omega
theorem y9o (es:List (List AV)):(w42 es).rows=some es:=by
 unfold w42
 split
 ·rename_i l b
  have:∀ (es:List (List AV)) (l:List (List D)),y8u es=some l→z5m l=es:=by
   intro es
   induction es with
   |nil=>intro l h; simp [y8u] at h; subst h; rfl
   |cons x r a=>
    intro l h
    simp only [y8u] at h
    split at h
    ·rename_i d q e c; cases h; simp [z5m,a _ c,z17 e]
    ·cases h
  simp [AO.rows,this _ _ b]
 ·rfl
theorem z4t {T:TypeId} {ti:TI} (ht:z7c P T ti) (hr:z0b P ρ h w) {new:Nat} (hn:ρ new=none) {len:Nat} {parts:List (Nat×AV)} {I:Array (Nat×Value)}
  (hp:y5j ρ (z0d ρ h) w parts I.toList) {res:Res} (c:z2p ti new len parts=some res):z0o P ρ h w new (Instr.buildSlice T len I) res∧∃ (rv:Array Value) (e:TypeId) (z eb:Nat) (ea:Bool) (ez:List D),ti.desc= .slc e z eb ea ez∧0<z∧(Instr.buildSlice T len I).run P w= .ok (.slice (some ⟨w.heap.size,0,none⟩) len len) (World.push w (.cells rv e))∧
   ∀ i l,res.u=[(i, .row l)]→l.length=len∧z29 ρ (z0d ρ h) w z (z5m l) rv.toList:=by
 obtain ⟨d,hd,hda,hk⟩:=ht.desc
 unfold z2p at c
 split at c
 rotate_left
 ·cases c
 rename_i e z eb ea ez q
 rw [q] at hk
 obtain ⟨rfl,hz,heb,_,k,g⟩:=hk
 cases R:(Nat.ble 1 z&&Nat.ble (len*z) 1000000) with
 |false=>rw [R] at c; cases c
 |true=>
 rw [R] at c; simp only [cond_true] at c
 simp only [eAc] at R
 have n:0<z:=eAh R.1
 have hlz:len*z≤1000000:=eAh R.2
 split at c
 rotate_left
 ·cases c
 rename_i l hl
 cases s:z7n l with
 |false=>rw [s] at c; cases c
 |true=>
 rw [s] at c; simp only [cond_true] at c
 split at c
 rotate_left
 ·cases c
 rename_i es hes
 cases c
 obtain ⟨i,m,p,J,Y⟩:∃ i m,P.info? e=some i∧i.zero=some m∧y22 m.cells.toList=some ez:=by
  unfold y5l at k
  cases p:P.info? e with
  |none=>simp [p] at k
  |some i=>
   rw [p] at k
   simp at k
   cases C:i.zero with
   |none=>simp [C] at k
   |some m=>exact ⟨i,m,rfl,C,by simpa [C] using k⟩
 obtain ⟨W,X⟩:=z8u Y
 have f:m.cells.size=z:=by rw [←g,W]; simp
 have E:∃ H:Array Value,(if len*z=0 then (Pure.pure #[]:Sem (Array Value)) else (do pure (←zeroValue e).cells)).run P w= .ok H w∧(len*z≠0→H=m.cells):=by
  by_cases B:len*z=0
  ·exact ⟨#[],by simp [B],fun h=>absurd B h⟩
  ·exact ⟨m.cells,by simp [B,zeroValue,typeInfo,p,J],fun _=>rfl⟩
 obtain ⟨H,K,t⟩:=E
 have F:(toA (w83 len ez)).length=len*z:=by rw [z0z,y6d,g]
 obtain ⟨rv,g1,g2,g3⟩:=y5f (ρ:=ρ) (w:=w) (O:=z0d ρ h) _ parts I.toList (toA (w83 len ez)) l ((Array.range (len*z)).map (H[· % H.size]!)) hl hp.1 hp.2 (by rw [F]; simp) (fun j x M=>by
  have G:j<len*z:=by rw [←F]; exact (eAa.1 M).1
  have hne:len*z≠0:=by omega
  rw [t hne]
  rw [z1l,x8i ez (by omega) len j (by rw [g]; exact G),g] at M
  have Q:j % z<m.cells.size:=by rw [f]; exact eFc _ n
  cases hq:ez[j % z]? with
  |none=>simp [hq] at M
  |some d=>
   simp [hq] at M; subst M
   obtain ⟨v,N,b⟩:=X (z0d ρ h) w _ d hq
   refine ⟨v,?_, .d b⟩
   simp [G,f]
   rw [getElem!_pos m.cells (j % z) Q]
   have:m.cells[j % z]?=some v:=by simpa using N
   rw [eAs Q] at this; cases this; rfl)
 obtain ⟨V,S,k3⟩:=w2p n _ _ _ hes
 have a:es.length=len:=by
  have U:l.length=len*z:=by
   rw [←g2]
   have:=(x4t hl)
   rw [g2,this,F]
  rw [U] at V
  exact (Nat.eq_of_mul_eq_mul_right n V).symm
 have A:(Instr.buildSlice T len I).run P w= .ok (.slice (some ⟨w.heap.size,0,none⟩) len len) (World.push w (.cells rv e)):=by
  unfold Instr.buildSlice
  simp only [Sem.run_bind,z0g hd,Result.andThen_ok,z1f hz,Sem.run_pure,Sem.run_ite,show ¬ (len*z>2 ^ 24) by omega,if_false]
  by_cases B:len*z=0
  ·simp only [B,if_true,Sem.run_pure] at K
   cases K
   simp only [B,if_true] at g1⊢
   simp only [g1,newRow,Sem.run_bind,run_newObj,Result.andThen_ok,Sem.run_pure]
   rfl
  ·have Z:=t B
   subst Z
   simp only [B,if_false,zeroValue,typeInfo,Sem.run_bind,run_program,Result.andThen_ok,p,Sem.run_pure,J,g1,newRow,run_newObj]
   rfl
 refine ⟨y3q hr hn (T:=e) rv (.slice new z 0 len (some len)) (w42 es) 0 z (.slice (some ⟨w.heap.size,0,none⟩) len len) A ?_ ?_,rv,e,z,eb,ea,ez,q,n,A,fun i0 l0 hu=>?_⟩
 ·refine z1c.of_rows (y9o es) n rv e (z4c _ _) S (fun i r j y p L=>?_)
  have G:j<z:=by rw [←S i r p]; exact (eAa.1 L).1
  have o:l[i*z+j]?=some y:=by rw [k3 i r j p G]; exact L
  obtain ⟨v,N,b⟩:=g3 _ y o
  exact ⟨v,by simpa using N,y2q (z8q s o) b,b.keep (z65 hr hn _ _ _ rfl) (Rho.put_mono _ _ _ hn)⟩
 ·exact .slice new z 0 _ _ ⟨w.heap.size,0,z⟩ _ _ (Rho.put_same _ _ _) rfl (fun _=>by simp) (.inl rfl) (eAj _)
 ·have he:es=z5m l0:=by
   have U:=y9o es
   have hu2:w42 es= .row l0:=by
    have:=congrArg (fun x:List (Nat×AO)=>x.head?.map (·.2)) hu
    simpa using this
   rw [hu2] at U
   cases U; rfl
  subst he
  rw [z0s] at a
  refine ⟨a,?_,S,fun i r j y p L=>?_⟩
  ·rw [z0s,a,eBw,g2,V,z0s,a]
  ·have G:j<z:=by rw [←S i r p]; exact (eAa.1 L).1
   have o:l[i*z+j]?=some y:=by rw [k3 i r j p G]; exact L
   obtain ⟨v,N,b⟩:=g3 _ y o
   exact ⟨v,by simpa using N,y2q (z8q s o) b,b⟩
theorem y3g {T:TypeId} {ti:TI} (m:z7c P T ti) (hr:z0b P ρ h w) {new:Nat} (t:ρ new=none) {len:Nat} {parts:List (Nat×AV)} {x:Array (Nat×Value)}
  (q:y5j ρ (z0d ρ h) w parts x.toList) {r:List D} {res:Res} (a:z3u ti new len parts r=some res):z0o P ρ h w new (Instr.buildSlice T len x) res:=by
 unfold z3u at a
 split at a
 ·exact (z4t m hr t q a).1
 ·split at a
  ·split at a
   ·rename_i g _ z _ _ _ v _
    cases a
    obtain ⟨_,rv,e,_,_,_,_,_,_,b,_⟩:=z4t m hr t q v
    exact ⟨_,_,ρ,b, .d (.lnil _ _ _ _ (fun _=>rfl)),hr.push0 _,Ext.push0 _ hr _, .inl rfl⟩
   ·cases a
  ·rename_i n
   split at a
   ·rename_i g v
    obtain ⟨p,rv,e,z,G,H,ez,f,k,b,c⟩:=z4t m hr t q v
    split at a
    ·rename_i i l I F B C A y j
     rw [f] at j
     cases j
     cases a
     obtain ⟨u,o⟩:=c i l y
     have s:l≠[]:=by intro E; rw [E] at u; simp at u
     have:=v0q hr (new:=new) k (es:=l) (cs:=rv.toList) o s e (rv:=rv) rfl (by rw [u]; exact b)
     exact this
    ·cases a; exact p
   ·cases a
theorem w3w (hr:z0b P ρ h w) {new:Nat} {op:UnOp} {x:AV} {v:Value} (e:z0n ρ (z0d ρ h) w x v) {res:Res} (c:x76 std op x=some res):z0o P ρ h w new (Op.unary op v) res:=by
 unfold x76 at c
 split at c
 ·rename_i k a
  cases e with|d e=>
  cases e
  split at c
  ·cases c
   exact z0o.pure hr (by simp [Op.unary,Op.intArith,std,x6h]) (.d (.int _ _))
  ·cases c
   exact z0o.pure hr (by simp [Op.unary,Op.intBits,std,x6h]) (.d (.int _ _))
  ·cases c
 ·rename_i b
  cases e with|d e=>
  cases e
  split at c
  ·cases c; exact z0o.pure hr (by simp [Op.unary]) (.d (.bool _))
  ·cases c
 ·cases c
theorem y8b {S T:TypeId} {ts k:TI} (hS:z7c P S ts) (hT:z7c P T k) (hr:z0b P ρ h w) {new:Nat} {x:AV} {v:Value} (c:z0n ρ (z0d ρ h) w x v) {res:Res} (b:z83 std ts k x=some res):
  z0o P ρ h w new (convert S T v) res:=by
 obtain ⟨d,j,_,f⟩:=hS.desc
 obtain ⟨d2,e,_,a⟩:=hT.desc
 unfold z83 at b
 split at b
 ·split at b
  ·rename_i i g
   rw [i] at f; rw [g] at a
   cases f; cases a
   cases c with|d c=>
   cases c; cases b
   exact z0o.pure hr (by simp [convert,z0g j,z0g e,Conv.intToInt,std]) (.d (.int _ _))
  ·rename_i i g
   rw [i] at f; rw [g] at a
   cases f; cases a
   cases c with|d c=>
   cases c; cases b
   exact z0o.pure hr (by simp [convert,z0g j,z0g e,Conv.intToString,std]) (.d (.str _))
  ·cases b
 ·split at b
  ·rename_i i g
   rw [i] at f; rw [g] at a
   cases f; cases a
   cases c with|d c=>
   cases c; cases b
   exact z0o.pure hr (by simp [convert,z0g j,z0g e]) (.d (.str _))
  ·cases b
 ·cases b
theorem x5l:∀ {es:List (List D)} {a:List Int},w0i es=some a→es=a.map fun n=>[.int .u8 n]
 |[],a,h=>by cases h; rfl
 |r::l,a,h=>by
  unfold w0i at h
  split at h
  ·rename_i heq; cases heq
  ·rename_i n b heq
   cases heq
   split at h
   ·rename_i r' hr
    cases h
    rw [x5l hr]; rfl
   ·cases h
  ·cases h
theorem x24 {T:TypeId→Option TI} (hT:y1c P T) {s t:TypeId} {ts M:TI} (X:z7c P s ts) (W:z7c P t M) (hr:z0b P ρ h w) {new:Nat} {x:AV} {v:Value} (Q:z0n ρ (z0d ρ h) w x v) {res:Res} (b:z6v std T h ts M x=some res) (V:res.c=true):
  z0o P ρ h w new (convert s t v) res:=by
 obtain ⟨d,U,_,N⟩:=X.desc
 obtain ⟨d2,L,_,B⟩:=W.desc
 unfold z6v at b
 split at b
 ·rename_i e z eb ea ez Z Y
  rw [Z] at N; rw [Y] at B
  obtain ⟨rfl,_⟩:=N
  cases B
  split at b
  ·rename_i O F
   cases r:u7t O.desc with
   |false=>rw [r] at b; cases b
   |true=>
   rw [r] at b
   simp only [cond_true] at b
   obtain ⟨d3,K,_,A⟩:=(hT _ _ F).desc
   have E:d3= .int .u8:=by
    unfold u7t at r
    split at r
    ·rename_i heq; rw [heq] at A; exact A
    ·cases r
   subst E
   split at b
   ·rename_i c es I
    split at b
    ·rename_i p G
     cases b
     obtain ⟨a,n,cap,cs,rfl,hn,S,j,g,f⟩:=y0k hr (by omega) Q I V
     have C:=x5l G
     have l:es.length=n:=by simpa [Els.toA,z0s] using j
     have o:cs=p.map (Value.int .u8):=by
      apply eBt
      intro i
      rw [eAf]
      have hl:cs.length=n:=by rw [g.1,j,eCn]
      have R:p.length=n:=by rw [←l,C,eAy]
      by_cases hi:i<n
      ·obtain ⟨m,y⟩:∃ m,p[i]?=some m:=⟨_,eAb (by omega)⟩
       have J:es[i]?=some [.int .u8 m]:=by rw [C,eAf,y]; rfl
       obtain ⟨u,q,_,k⟩:=g.2.2 i [.d (.int .u8 m)] 0 (.d (.int .u8 m)) (by
        show (z5m es)[i]?=_
        rw [z3e,J]; rfl) rfl
       rw [y]
       rw [eCn,eBa] at q
       rw [q]
       cases k with|d k=>cases k; rfl
      ·rw [eCq (by omega),eCq (by omega)]; rfl
     have f:=f w rfl
     refine z0o.pure hr ?_ (.d (.str _))
     rw [run_convert_bytes_string w s t e a n cap U K L]
     cases a with
     |none=>
      have H:cs=[]:=by
       have:=f
       simp only [Builtin.firstCells,Sem.run_pure,Result.ok.injEq,and_true] at this
       have:=congrArg Array.toList this.1
       simpa using this.symm
      have:p=[]:=by rw [H] at o; simpa using o.symm
      subst this
      simp [Conv.bytesToString,v8z]
     |some a=>
      refine run_bytesToString w a n cap p ?_
      rw [←o]
      simpa [Builtin.firstCells] using f
    ·cases b
   ·cases b
  ·cases b
 ·cases b
theorem v5u {T:TypeId} {ti:TI} (p:z7c P T ti) (hr:z0b P ρ h w) {new:Nat} {ty:TypeId} {x:AV} {v:Value} (i:z0n ρ (z0d ρ h) w x v) {res:Res} (b:w9n std ti h x=some res):
  z0o P ρ h w new (Builtin.len_ #[T] ty #[v]) res:=by
 obtain ⟨d,j,_,g⟩:=p.desc
 have sl:∀ (e:TypeId) (a:Option Addr) (n c:Nat),d= .slice e→v= .slice a n c→(Builtin.len_ #[T] ty #[v]).run P w= .ok (.int .i64 n) w:=by
  intro e a n c f m; subst f; subst m
  simp [Builtin.len_,z0g j,goInt]
 unfold w9n at b
 split at b
 ·split at b
  ·rename_i f
   rw [f] at g; obtain ⟨rfl,_⟩:=g
   cases b
   cases i with|d i=>
   cases i with
   |lnil=>exact z0o.pure hr (sl _ _ _ _ rfl rfl) (.d (.int _ _))
   |list=>exact z0o.pure hr (sl _ _ _ _ rfl rfl) (.d (.int _ _))
  ·cases b
 ·split at b
  ·rename_i f
   rw [f] at g; obtain ⟨rfl,_⟩:=g
   cases b
   cases i with
   |nils=>exact z0o.pure hr (sl _ _ _ _ rfl rfl) (.d (.int _ _))
   |slice=>exact z0o.pure hr (sl _ _ _ _ rfl rfl) (.d (.int _ _))
  ·cases b
 ·split at b
  ·rename_i f
   rw [f] at g; cases g
   cases b
   cases i with|d i=>
   cases i
   exact z0o.pure hr (by simp [Builtin.len_,z0g j,goInt,std]) (.d (.int _ _))
  ·cases b
 ·split at b
  ·rename_i f
   rw [f] at g; obtain ⟨e,rfl,_⟩:=g
   cases b
   exact z0o.pure hr (by simp [Builtin.len_,z0g j,goInt,std]) (.d (.int _ _))
  ·cases b
 ·split at b
  ·rename_i f
   rw [f] at g; obtain ⟨e,u,rfl,he,_⟩:=g
   cases b
   exact z0o.pure hr (by simp [Builtin.len_,z0g j,z0g he,goInt,std]) (.d (.int _ _))
  ·cases b
 ·split at b
  ·rename_i f
   rw [f] at g; obtain ⟨k,e,rfl,_⟩:=g
   cases b
   cases i with|d i=>
   cases i
   exact z0o.pure hr (by simp [Builtin.len_,z0g j,goInt]) (.d (.int _ _))
  ·cases b
 ·split at b
  ·rename_i f m
   rw [f] at g; obtain ⟨k,e,rfl,_⟩:=g
   cases b
   cases i with
   |map _ L r=>
    obtain ⟨_,o⟩:=hr.obj _ L r
    rw [m] at o
    obtain ⟨t,s,q,l,_⟩:=o
    exact z0o.pure hr (by simp [Builtin.len_,z0g j,goInt,getObj,Sem.run,q,l.1,std]) (.d (.int _ _))
  ·cases b
 ·cases b
end
end Go.Am
end
section
namespace Go.Am
section
variable {P:Program} {ρ:Rho} {h:List AO} {w:World}
def y4p (ρ:Rho) (O:Nat→Prop) (w:World):Option AV→Option Value→Prop
 |none,none=>True
 |some x,some v=>z0n ρ O w x v
 |_,_=>False
theorem y0c {O:Nat→Prop} {x:Option AV} {v:Option Value} (a:y4p ρ O w x v) {n:Option Int} (h:v2v x=some n):match n with|none=>v=none|some i=>∃ k,v=some (.int k i):=by
 unfold v2v at h
 split at h
 ·cases h; cases v with
  |none=>rfl
  |some _=>exact a.elim
 ·cases h; cases v with
  |none=>exact a.elim
  |some v=>cases a with|d a=>cases a; exact ⟨_,rfl⟩
 ·cases h
theorem z8e (k:IntKind) (i:Int) (y:Nat) (code:BoundsCode) (b:0≤i) (a:i≤y):(Instr.sliceBound (.int k i) y code).run P w= .ok i.toNat w:=by
 simp [Instr.sliceBound,asIntOf,b,a]
theorem z4z {O:Nat→Prop} {s t mx:Option AV} {q r vm:Option Value} (v:y4p ρ O w s q) (o:y4p ρ O w t r) (hm:y4p ρ O w mx vm) {l h m:Option Int} (B:v2v s=some l) (C:v2v t=some h) (em:v2v mx=some m)
  (a:Bool) (len cap:Nat) (L H M:Int) (b:L=z4o l 0) (d:H=z4o h len) (g:M=z4o m cap)
  (n:m≠none→h≠none) (p:0≤L) (A:L≤H) (z:H≤M) (y:M≤cap) (x:(len:Int)≤cap):
  (Instr.sliceBounds a len cap q r vm).run P w= .ok (L.toNat,H.toNat,M.toNat) w:=by
 have c:=y0c v B
 have i:=y0c o C
 have rm:=y0c hm em
 unfold z4o at b d g
 unfold Instr.sliceBounds
 cases m with
 |none=>
  simp at rm; subst rm
  simp only at g; subst g
  cases h with
  |none=>
   simp at i; subst i
   simp only at d; subst d
   cases l with
   |none=>simp at c; subst c; simp only at b; subst b; simp
   |some l=>
    obtain ⟨k,rfl⟩:=c; simp only at b; subst b
    simp [z8e k L len _ p A]
  |some o=>
   obtain ⟨k,rfl⟩:=i; simp only at d; subst d
   have f:=z8e (P:=P) (w:=w) k H cap (if a then .sliceAcap else .sliceAlen) (by omega) z
   cases l with
   |none=>simp at c; subst c; simp only at b; subst b; simp [f]
   |some l=>
    obtain ⟨j,rfl⟩:=c; simp only at b; subst b
    simp [f,z8e j L H.toNat _ p (by omega)]
 |some E=>
  obtain ⟨k,rfl⟩:=rm; simp only at g; subst g
  have e:=z8e (P:=P) (w:=w) k M cap (if a then .slice3Acap else .slice3Alen) (by omega) y
  cases h with
  |none=>exact absurd rfl (n (by simp))
  |some o=>
   obtain ⟨j,rfl⟩:=i; simp only at d; subst d
   have f:=z8e (P:=P) (w:=w) j H M.toNat .slice3B (by omega) (by omega)
   cases l with
   |none=>simp at c; subst c; simp only at b; subst b; simp [e,f]
   |some l=>
    obtain ⟨u,rfl⟩:=c; simp only at b; subst b
    simp [e,f,z8e u L H.toNat _ p (by omega)]
theorem z5p {T:TypeId} {e:TypeId} {z:Nat} (f:P.underlying T=some (.slice e)) (d:z91 P e=some z) {b c vm:Option Value} {a:Option Addr} {len cap l h m:Nat}
  (g:(Instr.sliceBounds true len cap b c vm).run P w= .ok (l,h,m) w):(Instr.sliceAt T (.slice a len cap) b c vm).run P w= .ok (.slice (if m=l then a else a.map (·.add (l*z))) (h - l) (m - l)) w:=by
 simp [Instr.sliceAt,Instr.slice,z0g f,g,z1f d]
theorem v68 {O : Nat → Prop} {full f' : Bool} {z : Nat} {es : List (List D)} {a : Option Addr} {n c : Nat} (hx : z1k O w (.list full z es) (.slice a n c)) (L H M : Nat) (h1 : L ≤ H) (h2 : H ≤ M) (h3 : H ≤ es.length) (h4 : M ≤ c) (hf : f' = true → M = H) :
    n = es.length ∧ n ≤ c ∧ (full = true → c = n) ∧ z1k O w (.list f' z ((es.drop L).take (H - L))) (.slice (if M = L then a else a.map (·.add (L * z))) (H - L) (M - L)) := by
  cases hx with
  | lnil _ _ _ _ hcap =>
    refine ⟨rfl, eAo _, hcap, ?_⟩
    simp at h3
    have e : H - L = 0 := by omega
    rw [e]
    simp
    exact .lnil _ _ _ _ (fun h => by have := hf h; omega)
  | list _ _ b o z c hz hne hO hlc hfull hsz cell h1c hcell hh =>
    refine ⟨rfl, hlc, hfull, ?_⟩
    have hlen : ((es.drop L).take (H - L)).length = H - L := by simp; omega
    by_cases hHL : H = L
    · have e : H - L = 0 := by omega
      rw [e]; simp
      exact .lnil _ _ _ _ (fun h => by have := hf h; omega)
    · rw [if_neg (by omega)]
      have hget : ∀ i, ((es.drop L).take (H - L))[i]? = if i < H - L then es[L + i]? else none := fun i => z1g es L (H - L) i
      have := z1k.list (O := O) (w := w) f' ((es.drop L).take (H - L)) b (o + L * z) z (M - L) hz (by intro e; rw [e] at hlen; simp at hlen; omega) hO (by rw [hlen]; omega) (fun h => by have := hf h; rw [hlen]; omega)
        (fun i r hi => by rw [hget] at hi; split at hi
                          · exact hsz _ r hi
                          · cases hi) (fun k => cell (L * z + k)) (fun k hk => by
          rw [hlen] at hk
          refine h1c _ ?_
          have : L * z + (H - L) * z ≤ es.length * z := by rw [← eAr]; exact eAv _ (by omega)
          omega) (fun k hk => by
          rw [hlen] at hk
          rw [eBv]
          refine hcell _ ?_
          have : L * z + (H - L) * z ≤ es.length * z := by rw [← eAr]; exact eAv _ (by omega)
          omega) (fun i r j d hi hj => by
          rw [hget] at hi
          split at hi
          · have := hh _ r j d hi hj
            rw [eAr, eBv] at this; exact this
          · cases hi)
      rw [hlen] at this
      simpa [z5j] using this
theorem x20 {T : TypeId} {ti : TI} (ht : z7c P T ti) (hr : z0b P ρ h w) {new : Nat} {x : AV} {v : Value} (hx : z0n ρ (z0d ρ h) w x v) {lo hi mx : Option AV} {vl vh vm : Option Value}
    (hl : y4p ρ (z0d ρ h) w lo vl) (hh : y4p ρ (z0d ρ h) w hi vh) (hm : y4p ρ (z0d ρ h) w mx vm) {r : List D} {ra : List AV} (hrow : (z4p h x).ok false r ra) {res : Res} (hs : z6u std ti h r x lo hi mx = some res) (hc : res.c = true) :
    z0o P ρ h w new (Instr.sliceAt T v vl vh vm) res := by
  obtain ⟨d, hd, _, hk⟩ := ht.desc
  unfold z6u at hs
  split at hs
  rotate_left
  · cases hs
  rename_i l hi' m el eh em
  split at hs
  ·
    rename_i full z es
    split at hs
    · rename_i e z' eb ea ez hdesc
      rw [hdesc] at hk
      obtain ⟨rfl, hz, _⟩ := hk
      cases hb : Nat.beq z z' with
      | false => rw [hb] at hs; cases hs
      | true =>
      rw [hb] at hs; simp only [cond_true] at hs
      have hzz := eAd hb
      subst hzz
      cases hx with | d hx =>
      obtain ⟨a, n, c, rfl⟩ : ∃ a n c, v = .slice a n c := by cases hx <;> exact ⟨_, _, _, rfl⟩
      obtain ⟨hn, hnc, hfull, _⟩ := v68 (f' := false) hx 0 0 0 (by omega) (by omega) (by omega) (by omega) (by simp)
      split at hs
      · cases hs
        simp only at hc
        obtain ⟨c1, hc⟩ := and_true hc
        obtain ⟨c2, c3⟩ := and_true hc
        have c1 := z3h c1
        have c2 : z4o l 0 ≤ z4o hi' ((es.length : Nat) : Int) := z2t c2
        have c3 : z4o hi' ((es.length : Nat) : Int) ≤ ((es.length : Nat) : Int) := z2t c3
        have hbd := z4z (P := P) (w := w) hl hh hm el eh em true n c (z4o l 0) (z4o hi' ((es.length : Nat) : Int)) c rfl (by rw [hn]) rfl (by simp) c1 c2 (by omega) (by omega) (by omega)
        obtain ⟨_, _, _, hD⟩ := v68 (f' := std.and full (std.cmp .eql (z4o hi' (std.ofNat (std.len es))) (std.ofNat (std.len es)))) hx _ _ c
          (show (z4o l 0).toNat ≤ (z4o hi' ((es.length : Nat) : Int)).toNat by
            omega) (by have := c3; omega) (by have := c3; omega) (eAj _) (fun hf => by
            obtain ⟨f1, f2⟩ := and_true hf
            have f2 : z4o hi' ((es.length : Nat) : Int) = ((es.length : Nat) : Int) := by simpa [std, z3r] using f2
            have := hfull f1
            rw [f2]; simp; omega)
        exact z0o.pure hr (z5p hd hz hbd) (.d hD)
      · rename_i mm
        split at hs
        · rename_i hh'
          cases hs
          simp only at hc
          obtain ⟨c1, hc⟩ := and_true hc
          obtain ⟨c2, hc⟩ := and_true hc
          obtain ⟨c3, c4⟩ := and_true hc
          have c1 := z3h c1
          have c2 := z2t c2
          have c3 := z2t c3
          have c4 : mm ≤ ((es.length : Nat) : Int) := z2t c4
          have hbd := z4z (P := P) (w := w) hl hh hm el eh em true n c (z4o l 0) hh' mm rfl rfl rfl (by simp) c1 c2 c3 (by omega) (by omega)
          obtain ⟨_, _, _, hD⟩ := v68 (f' := std.cmp .eql hh' mm) hx _ hh'.toNat mm.toNat (show (z4o l 0).toNat ≤ hh'.toNat by omega) (by omega) (by omega) (by omega) (fun hf => by
            have : hh' = mm := by simpa [std, z3r] using hf
            rw [this])
          exact z0o.pure hr (z5p hd hz hbd) (.d hD)
        · cases hs
    · cases hs
  ·
    rename_i id z off len cap
    split at hs
    · rename_i e z' eb ea ez hdesc
      rw [hdesc] at hk
      obtain ⟨rfl, hz, _⟩ := hk
      cases hb : Nat.beq z z' with
      | false => rw [hb] at hs; cases hs
      | true =>
      rw [hb] at hs; simp only [cond_true] at hs
      have hzz := eAd hb
      subst hzz
      cases hx with
      | nils _ _ _ _ a hcc =>
        have keyn : ∀ (L H M : Nat) (cap' : Option Nat), L ≤ H → H ≤ 0 → M ≤ 0 → (cap' = none ∨ cap' = some 0) →
            z0n ρ (z0d ρ h) w (.slice id z (off + L) (H - L) cap') (.slice (if M = L then a else a.map (·.add (L * z))) (H - L) (M - L)) := by
          intro L H M cap' h1 h2 h3 h4
          obtain rfl : L = 0 := by omega
          obtain rfl : H = 0 := by omega
          obtain rfl : M = 0 := by omega
          exact .nils _ _ _ _ _ h4
        split at hs
        · cases hs
          simp only at hc
          obtain ⟨c1, hc⟩ := and_true hc
          obtain ⟨c2, c3⟩ := and_true hc
          have c1 := z3h c1
          have c2 : z4o l 0 ≤ z4o hi' ((0 : Nat) : Int) := z2t c2
          have c3 : z4o hi' ((0 : Nat) : Int) ≤ ((0 : Nat) : Int) := z2t c3
          have hbd := z4z (P := P) (w := w) hl hh hm el eh em true 0 0 (z4o l 0) (z4o hi' ((0 : Nat) : Int)) ((0 : Nat) : Int) rfl rfl rfl (by simp) c1 c2 (by omega) (by omega) (by omega)
          refine z0o.pure hr (z5p hd hz hbd) (keyn (z4o l 0).toNat (z4o hi' ((0 : Nat) : Int)).toNat _ _ (by omega) (by omega) (by simp) ?_)
          have e0 : (z4o l 0).toNat = 0 := by omega
          rcases hcc with hcc | hcc
          · subst hcc; exact .inl rfl
          · subst hcc; exact .inr (by simp [v3r, std])
        · rename_i mm
          split at hs
          · rename_i hh'
            cases hs
            simp only at hc
            obtain ⟨c1, hc⟩ := and_true hc
            obtain ⟨c2, hc⟩ := and_true hc
            obtain ⟨c3, c4⟩ := and_true hc
            have c1 := z3h c1
            have c2 := z2t c2
            have c3 := z2t c3
            have c4 : mm ≤ ((0 : Nat) : Int) := z2t c4
            have hbd := z4z (P := P) (w := w) hl hh hm el eh em true 0 0 (z4o l 0) hh' mm rfl rfl rfl (by simp) c1 c2 c3 (by omega) (by omega)
            refine z0o.pure hr (z5p hd hz hbd) (keyn (z4o l 0).toNat hh'.toNat mm.toNat _ (by omega) (by omega) (by omega) (.inr ?_))
            show some (mm.toNat - (z4o l 0).toNat) = some 0
            congr 1; omega
          · cases hs
      | slice _ _ _ _ _ Lc a c hL hLz haa hcc hle =>
      have key : ∀ (L H M : Nat) (cap' : Option Nat), L ≤ H → H ≤ M → M ≤ c → (cap' = some (M - L) ∨ (cap' = none ∧ M = c ∧ cap = none)) →
          z0n ρ (z0d ρ h) w (.slice id z (off + L) (H - L) cap') (.slice (if M = L then a else a.map (·.add (L * z))) (H - L) (M - L)) := by
        intro L H M cap' h1 h2 h3 h4
        refine .slice id z _ _ _ Lc _ _ hL hLz (fun hpos => ?_) ?_ (by omega)
        · rw [if_neg (by omega), haa (by omega)]
          simp [z5j, hLz, eAr, eBv]
        · rcases h4 with h4 | ⟨h4, rfl, hcn⟩
          · exact .inl h4
          · rcases hcc with hcc | ⟨_, nb, hnb, hroom⟩
            · rw [hcn] at hcc; cases hcc
            · exact .inr ⟨h4, nb, hnb, by rw [show off + L + (M - L) = off + M by omega]; exact hroom⟩
      split at hs
      · cases hs
        simp only at hc
        obtain ⟨c1, hc⟩ := and_true hc
        obtain ⟨c2, c3⟩ := and_true hc
        have c1 := z3h c1
        have c2 : z4o l 0 ≤ z4o hi' ((len : Nat) : Int) := z2t c2
        have c3 : z4o hi' ((len : Nat) : Int) ≤ ((len : Nat) : Int) := z2t c3
        have hbd := z4z (P := P) (w := w) hl hh hm el eh em true len c (z4o l 0) (z4o hi' ((len : Nat) : Int)) c rfl rfl rfl (by simp) c1 c2 (by omega) (by omega) (by omega)
        refine z0o.pure hr (z5p hd hz hbd) (key (z4o l 0).toNat (z4o hi' ((len : Nat) : Int)).toNat c _ (by omega) (by omega) (eAj _) ?_)
        rcases hcc with hcc | ⟨hcc, _⟩
        · subst hcc; exact .inl rfl
        · subst hcc; exact .inr ⟨rfl, rfl, rfl⟩
      · rename_i mm
        split at hs
        · rename_i hh'
          cases hs
          simp only at hc
          obtain ⟨c1, hc⟩ := and_true hc
          obtain ⟨c2, hc⟩ := and_true hc
          obtain ⟨c3, c4⟩ := and_true hc
          have c1 := z3h c1
          have c2 := z2t c2
          have c3 := z2t c3
          have c4 : mm ≤ ((len : Nat) : Int) := z2t c4
          have hbd := z4z (P := P) (w := w) hl hh hm el eh em true len c (z4o l 0) hh' mm rfl rfl rfl (by simp) c1 c2 c3 (by omega) (by omega)
          exact z0o.pure hr (z5p hd hz hbd) (key (z4o l 0).toNat hh'.toNat mm.toNat _ (by omega) (by omega) (by omega) (.inl rfl))
        · cases hs
    · cases hs
  ·
    rename_i id off
    split at hs
    · rename_i n esz ea hdesc
      rw [hdesc] at hk
      obtain ⟨e, rfl, hsz, _⟩ := hk
      have hvl := y0c hl el
      have hvh := y0c hh eh
      have hvm := y0c hm em
      simp at hvl hvh hvm
      subst hvl; subst hvh; subst hvm
      split at hs
      · rename_i es r0 hob
        cases hb : Nat.beq esz 1 with
        | false => rw [hb] at hs; cases hs
        | true =>
        rw [hb] at hs; cases hs
        have he := eAd hb
        subst he
        cases hx with
        | bptr _ _ L hL =>
          have ho := (hr.obj id L hL).2
          rw [hob] at ho
          have ho2 := ho
          obtain ⟨_, c, t, hcb, _, _⟩ := ho
          simp only [z4p, hob] at hrow
          obtain ⟨h1, hlt, _⟩ := z9l ho2 hrow hcb (j := 0) (x := r0) rfl
          refine z0o.pure (v := .slice (some ⟨L.blk, L.base + off, none⟩) n n) hr ?_ ?_
          · simp only [Instr.sliceAt, Sem.run_bind, z0g hd, Result.andThen_ok, Instr.sureAddr, Instr.sliceBounds, Sem.run_pure, z1f hsz, eFk, Nat.zero_mul, z5j, eBa]
            split <;> rfl
          · refine .slice id 1 off n (some n) L _ n hL h1 (fun _ => ?_) (.inl rfl) (eAj _)
            rw [h1, eCn]
      · cases hs
    · rename_i l hi' _ _ _ _ n esz ea hdesc hno
      rw [hdesc] at hk
      obtain ⟨e, rfl, hsz, _⟩ := hk
      have hvm := y0c hm em
      simp at hvm
      subst hvm
      split at hs
      · rename_i es r0 hob
        cases hb : Nat.beq esz 1 with
        | false => rw [hb] at hs; cases hs
        | true =>
        rw [hb] at hs; cases hs
        simp only at hc
        obtain ⟨c1, hc⟩ := and_true hc
        obtain ⟨c2, c3⟩ := and_true hc
        have c1 := z3h c1
        have c2 : z4o l 0 ≤ z4o hi' ((n : Nat) : Int) := z2t c2
        have c3 : z4o hi' ((n : Nat) : Int) ≤ ((n : Nat) : Int) := z2t c3
        have he := eAd hb
        subst he
        cases hx with
        | bptr _ _ L hL =>
          have ho := (hr.obj id L hL).2
          rw [hob] at ho
          have ho2 := ho
          obtain ⟨_, c, t, hcb, _, _⟩ := ho
          simp only [z4p, hob] at hrow
          obtain ⟨h1, hlt, _⟩ := z9l ho2 hrow hcb (j := 0) (x := r0) rfl
          have hbd := z4z (P := P) (w := w) hl hh (mx := none) (vm := none) trivial el eh rfl false n n (z4o l 0) (z4o hi' ((n : Nat) : Int)) n rfl rfl rfl (by simp) c1 c2 (by omega) (by omega) (by omega)
          refine z0o.pure (v := .slice (some (if ((n : Nat) : Int).toNat = (z4o l 0).toNat then ⟨L.blk, L.base + off, none⟩ else (⟨L.blk, L.base + off, none⟩ : Addr).add ((z4o l 0).toNat * 1))) ((z4o hi' ((n : Nat) : Int)).toNat - (z4o l 0).toNat) (((n : Nat) : Int).toNat - (z4o l 0).toNat)) hr ?_ ?_
          · simp [Instr.sliceAt, Sem.run_bind, z0g hd, Result.andThen_ok, Instr.sureAddr, hbd, z1f hsz]
          · refine .slice id 1 (off + (z4o l 0).toNat) _ (some (n - (z4o l 0).toNat)) L _ _ hL h1 (fun hp => ?_) (.inl (by simp)) (by show (z4o hi' ((n : Nat) : Int)).toNat - (z4o l 0).toNat ≤ ((n : Nat) : Int).toNat - (z4o l 0).toNat; omega)
            simp only [eCz] at hp ⊢
            rw [if_neg (by omega), h1, eCn, eCn, z5j]
            congr 2
            omega
      · cases hs
    · cases hs
  ·
    rename_i s
    split at hs
    · rename_i hdesc
      rw [hdesc] at hk
      cases hk
      cases hs
      simp only at hc
      obtain ⟨c1, hc⟩ := and_true hc
      obtain ⟨c2, c3⟩ := and_true hc
      have c1 := z3h c1
      have c2 : z4o l 0 ≤ z4o hi' ((s.size : Nat) : Int) := z2t c2
      have c3 : z4o hi' ((s.size : Nat) : Int) ≤ ((s.size : Nat) : Int) := z2t c3
      cases hx with | d hx =>
      cases hx
      have hvm := y0c hm em
      simp at hvm; subst hvm
      have hbd := z4z (P := P) (w := w) hl hh (mx := none) (vm := none) trivial el eh rfl false s.size s.size (z4o l 0) (z4o hi' ((s.size : Nat) : Int)) s.size rfl rfl rfl (by simp) c1 c2 (by omega) (by omega) (by omega)
      refine z0o.pure hr ?_ (.d (.str _))
      simp [Instr.sliceAt, Instr.slice, z0g hd, hbd, std]
    · cases hs
  · cases hs
theorem y84 (hr:z0b P ρ h w) {new:Nat} {op:BinOp} (e:op= .lss∨op= .gtr) {xs:List AV} {vs:List Value} (l:vs.length=xs.length) (p:∀ (i:Nat) (x:AV) (v:Value),xs[i]?=some x→vs[i]?=some v→z0n ρ (z0d ρ h) w x v)
  {a:Array TypeId} {t:TypeId} {res:Res} (f:y3e std op xs=some res):z0o P ρ h w new ((if op= .lss then Builtin.min_ else Builtin.max_) a t vs.toArray) res:=by
 have one:∀ (i:Nat) (k:IntKind) (n:Int) (v:Value),xs[i]?=some (.d (.int k n))→vs[i]?=some v→v= .int k n:=by
  intro i k n v r q
  have:=p i _ v r q
  cases this with|d h=>cases h; rfl
 unfold y3e at f
 split at f
 ·cases f
  obtain ⟨v1,j,rfl⟩:∃ a b,vs=[a,b]:=by
   match vs,l with|[a,b],_=>exact ⟨a,b,rfl⟩
  have g:=one 0 _ _ v1 rfl rfl
  have m:=one 1 _ _ j rfl rfl
  subst g; subst m
  rcases e with rfl|rfl
  ·exact z0o.pure hr (by simp [Builtin.min_,Builtin.min2,std]) (.d (.int _ _))
  ·exact z0o.pure hr (by simp [Builtin.max_,Builtin.max2,std]) (.d (.int _ _))
 ·cases f
  obtain ⟨v1,j,o,rfl⟩:∃ a b c,vs=[a,b,c]:=by
   match vs,l with|[a,b,c],_=>exact ⟨a,b,c,rfl⟩
  have g:=one 0 _ _ v1 rfl rfl
  have m:=one 1 _ _ j rfl rfl
  have s:=one 2 _ _ o rfl rfl
  subst g; subst m; subst s
  rcases e with rfl|rfl
  ·exact z0o.pure hr (by simp [Builtin.min_,Builtin.min2,std]) (.d (.int _ _))
  ·exact z0o.pure hr (by simp [Builtin.max_,Builtin.max2,std]) (.d (.int _ _))
 ·cases f
  obtain ⟨v1,rfl⟩:∃ a,vs=[a]:=by
   match vs,l with|[a],_=>exact ⟨a,rfl⟩
  have g:=one 0 _ _ v1 rfl rfl
  subst g
  rcases e with rfl|rfl
  ·exact z0o.pure hr (by simp [Builtin.min_]) (.d (.int _ _))
  ·exact z0o.pure hr (by simp [Builtin.max_]) (.d (.int _ _))
 ·cases f
end
end Go.Am
end
section
namespace Go.Am
section
variable {P:Program} {ρ:Rho} {h:List AO} {w:World}
def z6b:List SK→List Value→Prop
 |[],[]=>True
 | .i::ks, .int _ _::r=>z6b ks r
 | .b::ks, .bool _::r=>z6b ks r
 | .s::ks, .string _::r=>z6b ks r
 |_,_=>False
theorem y2r:∀ (ks:List SK) (xs:List Value),z6b ks xs→xs.length=ks.length
 |[],[],_=>rfl
 |[],_::_,h=>h.elim
 |k::ks,[],h=>by cases k<;>exact h.elim
 | .i::ks,x::xs,h=>by cases x<;>simp only [z6b] at h; simp [y2r ks xs h]
 | .b::ks,x::xs,h=>by cases x<;>simp only [z6b] at h; simp [y2r ks xs h]
 | .s::ks,x::xs,h=>by cases x<;>simp only [z6b] at h; simp [y2r ks xs h]
theorem w9s {O:Nat→Prop}:∀ (ks:List SK) (ds:List D) (xs:List Value),z1h ks ds=true→xs.length=ds.length→(∀ (j:Nat) (y:D) (u:Value),ds[j]?=some y→xs[j]?=some u→z1k O w y u)→z6b ks xs:=by
 intro ks
 induction ks with
 |nil=>intro ds xs h a b; cases ds<;>simp [z1h] at h; cases xs<;>simp at a; trivial
 |cons k ks e=>
  intro ds xs h a b
  cases ds with
  |nil=>cases k<;>simp [z1h] at h
  |cons d ds=>
  cases xs with
  |nil=>simp at a
  |cons x xs=>
  have l:=b 0 d x rfl rfl
  have i:∀ (c:z1h ks ds=true),z6b ks xs:=fun c=>e ds xs c (by simpa using a) (fun j y u f g=>b (j+1) y u (by simpa using f) (by simpa using g))
  cases k<;>cases d<;>simp [z1h] at h<;>cases l<;>exact i h
theorem y12:∀ (c d:List SK) (xs:List Value),z6b (c++d) xs→z6b c (xs.take c.length)∧z6b d (xs.drop c.length)
 |[],d,xs,h=>⟨by simp [z6b],by simpa using h⟩
 |k::c,d,[],h=>by cases k<;>exact h.elim
 |k::c,d,x::xs,h=>by
  cases k<;>cases x<;>simp only [eDg,z6b] at h
  all_goals (obtain ⟨a,b⟩:=y12 c d xs h; exact ⟨by simpa [z6b] using a,by simpa using b⟩)
theorem y8q (n d : Nat) (em : Bool) (ih : ∀ (t : TypeId) (ks : List SK) (x : Value) (xs : List Value) (w : World), z4v P n t = some ks → Holds P t x xs → z6b ks xs → (Instr.checkKey em d t x).run P w = .ok () w) :
  ∀ (fs : List Field) (off : Nat) (ks : List SK) (xs : List Value), w8z P (z4v P n) off fs = some ks → xs.length = off + ks.length → z6b ks (xs.drop off) →
   ((forIn fs PUnit.unit (fun f _ => (do
    if f.name ≠ "_" then
     Instr.checkKey em d f.type (← Go.part f.type xs.toArray f.offset)
     pure (.yield PUnit.unit)
    else pure (.yield PUnit.unit) : Sem (ForInStep PUnit)))) : Sem PUnit).run P w = .ok PUnit.unit w := by
 intro fs
 induction fs with
 | nil => intro off ks xs hr hx hk; simp
 | cons f fs ihf =>
  intro off ks xs hr hx hk
  simp only [w8z] at hr
  split at hr
  ·rename_i hc
   obtain ⟨hn, ho⟩ := hc
   split at hr
   ·rename_i k1 hk1
    split at hr
    ·rename_i hs
     cases hq : w8z P (z4v P n) (off + k1.length) fs with
     | none => rw [hq] at hr; cases hr
     | some k2 =>
     rw [hq] at hr; simp at hr; subst hr
     obtain ⟨a, ha⟩ := y2x hk1
     have h1 := y2w hk1 ha
     rw [eCv] at hx
     obtain ⟨vx, rx, hx1⟩ := z8c (P := P) hs ha xs off (by omega) h1
     obtain ⟨b1, b2⟩ := y12 _ _ _ hk
     rw [eFa] at b2
     have hq1 := ih f.type k1 vx _ w hk1 hx1 b1
     have hrest := ihf (off + k1.length) k2 xs hq (by omega) b2
     rw [← ho] at rx
     rw [List.forIn_cons]
     simp only [hn, ne_eq, not_false_eq_true, if_true, Sem.run_bind, rx, hq1, Result.andThen_ok, Sem.run_pure]
     exact hrest
    ·cases hr
   ·cases hr
  ·cases hr
theorem y8p (d:Nat) (em:Bool) (e:TypeId) (s:Nat) (a:Bool) (ks:List SK) (g:ks.length=s) (l:z91 P e=some s) (u:z4j P e=some a) (v:a=false→s=1)
  (r:∀ (x:Value) (xs:List Value) (w:World),Holds P e x xs→z6b ks xs→(Instr.checkKey em d e x).run P w= .ok () w) (xs:List Value):
  ∀ (m i:Nat),xs.length=(i+m)*s→z6b (List.replicate m ks).flatten (xs.drop (i*s))→
   ((forIn (List.range' i m) PUnit.unit (fun i _=>(do
    Instr.checkKey em d e (←Go.part e xs.toArray (i*(←sizeOf e)))
    pure (.yield PUnit.unit):Sem (ForInStep PUnit)))):Sem PUnit).run P w= .ok PUnit.unit w:=by
 intro m
 induction m with
 |zero=>intro i k h; simp
 |succ m c=>
  intro i k h
  simp only [List.replicate_succ,List.flatten_cons] at h
  have n:(i+(m+1))*s=i*s+s+m*s:=by rw [eAr,eAr]; omega
  obtain ⟨o,j⟩:=y12 _ _ _ h
  rw [g] at o j
  rw [eFa] at j
  obtain ⟨p,q,f⟩:=z8c (P:=P) l u xs (i*s) (by omega) v
  have t:=r p _ w f o
  have b:=c (i+1) (by rw [k]; congr 1; omega) (by rw [eAr,Nat.one_mul]; exact j)
  rw [List.range'_succ,List.forIn_cons]
  simp only [Sem.run_bind,z1f l,q,t,Result.andThen_ok,Sem.run_pure]
  exact b
theorem x7o (em:Bool):∀ (n d:Nat),n≤d→∀ (t:TypeId) (ks:List SK) (x:Value) (xs:List Value) (w:World),z4v P n t=some ks→Holds P t x xs→z6b ks xs→
  (Instr.checkKey em d t x).run P w= .ok () w:=by
 intro n
 induction n with
 |zero=>intro d _ t ks x xs w c; simp [z4v] at c
 |succ n s=>
  intro d A t ks x xs w c l j
  obtain ⟨d,rfl⟩:∃ e,d=e+1:=⟨d - 1,by omega⟩
  obtain ⟨a,p,z,f⟩:=l
  unfold z4j at p
  simp only [z4v] at c
  split at c
  rotate_left
  ·cases c
  rename_i y b
  split at c
  rotate_left
  ·cases c
  cases c
  have h:=y2r _ _ j
  unfold w5v at b
  cases g:P.underlying t with
  |none=>simp [g] at p
  |some ds=>
   simp [g] at p; subst p
   rw [g] at b
   cases ds<;>simp only at b<;>try (cases b; done)
   ·cases b; simp [Instr.checkKey,z0g g]
   ·cases b; simp [Instr.checkKey,z0g g]
   ·cases b; simp [Instr.checkKey,z0g g]
   ·rename_i m e
    simp [z73] at f; subst f
    cases k:z4v P n e with
    |none=>rw [k] at b; cases b
    |some q=>
    rw [k] at b; simp at b; subst b
    have r:=z6r _ _ _ k
    obtain ⟨v,o⟩:=y2x k
    have:=y8p (P:=P) (w:=w) d em e q.length v q rfl r o (y2w k o) (fun x xs w l j=>s d (by omega) e q x xs w k l j) xs m 0
     (by rw [h]; simp) (by simpa using j)
    simp only [Instr.checkKey,Sem.run_bind,z0g g,Result.andThen_ok]
    rw [Std.Legacy.Range.forIn_eq_forIn_range']
    have i:([:m]:Std.Legacy.Range).size=m:=by simp [Std.Legacy.Range.size]
    rw [i]
    erw [this]
    simp
   ·rename_i u
    simp [z73] at f; subst f
    split at b
    ·cases b
    ·have:=y8q (P:=P) (w:=w) n d em (fun t ks x xs w c l j=>s d (by omega) t ks x xs w c l j) u.toList 0 _ xs b (by simpa using h) (by simpa using j)
     simp only [Instr.checkKey,Sem.run_bind,z0g g,Result.andThen_ok]
     rw [←Array.forIn_toList]
     erw [this]
     simp
theorem v0e {T:TypeId} {ks:List SK} {a:Bool} (m:z4v P 8 T=some ks) (j:z4j P T=some a) {O:Nat→Prop} {x y:D} {f e:Value} (l:z1k O w x f) (k:z1k O w y e) (u:z1t x=a) (t:z1t y=a) {b:Bool}
  (i:z1n std ks (z0v x) (z0v y)=some b):∃ xs c,Holds P T f xs∧Holds P T e c∧z8v ks xs c=some b:=by
 have d:=z6r _ _ _ m
 obtain ⟨h,g⟩:=y7j ks _ _ _ i
 obtain ⟨xs,p,o,n⟩:=y7a (P:=P) (T:=T) l h d (by rw [u]; exact j)
 obtain ⟨c,s,r,q⟩:=y7a (P:=P) (T:=T) k g d (by rw [t]; exact j)
 exact ⟨xs,c,p,s,y96 ks _ _ xs c b i (o.trans h.symm) (r.trans g.symm) n q⟩
theorem v6y:∀ (ks:List SK) (xs b:List Value),z8v ks xs b=some true→xs=b∧z6b ks xs:=by
 intro ks
 induction ks with
 |nil=>intro xs b h; cases xs<;>cases b<;>simp [z8v] at h; exact ⟨rfl,trivial⟩
 |cons k ks i=>
  intro xs b h
  cases xs with
  |nil=>simp [z8v] at h
  |cons x xs=>
   cases b with
   |nil=>simp [z8v] at h
   |cons y b=>
    simp only [z8v] at h
    split at h
    ·rename_i a c f j
     simp only [Option.some.injEq,eAc] at h
     obtain ⟨rfl,rfl⟩:=h
     obtain ⟨e,d⟩:=i xs b j
     subst e
     cases k
     ·obtain ⟨k,a,c,rfl,rfl,e⟩:=u0n f
      have:a=c:=by simpa using e.symm
      subst this; exact ⟨rfl,d⟩
     ·obtain ⟨a,c,rfl,rfl,e⟩:=u0o f
      have:a=c:=by simpa using e.symm
      subst this; exact ⟨rfl,d⟩
     ·obtain ⟨a,c,rfl,rfl,e⟩:=u0m f
      have:a=c:=by
       have g:a.toList=c.toList:=by simpa using e.symm
       rw [ByteArray.toList_eq,ByteArray.toList_eq] at g
       obtain ⟨⟨x⟩⟩:=a
       obtain ⟨⟨y⟩⟩:=c
       simp at g; rw [g]
      subst this; exact ⟨rfl,d⟩
    ·cases h
theorem x1c (n:Nat):∀ (ks:List SK) (xs:List Value),z6b ks xs→∀ v,v= .agg xs.toArray∨xs=[v]→Instr.sameBits (n+2) v v=true:=by
 have one:∀ (m:Nat) (k:SK) (ks:List SK) (x:Value) (xs:List Value),z6b (k::ks) (x::xs)→Instr.sameBits m x x=true∧z6b ks xs:=by
  intro m k ks x xs h
  cases k<;>cases x<;>simp only [z6b] at h
  all_goals exact ⟨by cases m<;>simp [Instr.sameBits,beq_toListBytes],h⟩
 have all:∀ (m:Nat) (ks:List SK) (xs:List Value),z6b ks xs→∀ x∈xs,Instr.sameBits m x x=true:=by
  intro m ks
  induction ks with
  |nil=>intro xs h x c; cases xs with
   |nil=>cases c
   |cons _ _=>exact h.elim
  |cons k ks f=>intro xs h x c; cases xs with
   |nil=>cases c
   |cons y d=>
    obtain ⟨a,b⟩:=one m k ks y d h
    rcases eAm.1 c with rfl|c
    ·exact a
    ·exact f d b x c
 intro ks xs h v g
 rcases g with rfl|rfl
 ·simp only [Instr.sameBits,beq_self_eq_true,Bool.true_and]
  rw [eAx]
  intro p j
  have:p.1=p.2∧p.1∈xs:=by
   obtain ⟨i,l,e⟩:=List.getElem_of_mem j
   rw [List.getElem_zip] at e
   rw [←e]; simp
  rw [←this.1]
  exact all _ ks xs h _ this.2
 ·exact all _ ks _ h v (by simp)
theorem z6q {T:TypeId} {v:Value} {xs:List Value} (h:Holds P T v xs) (b:∀ cs,v≠ .agg cs):xs=[v]:=by
 obtain ⟨a,_,_,h⟩:=h
 cases a with
 |true=>exact absurd h (b _)
 |false=>simpa using h
theorem x15 {ks:List SK} {x y:Value} {b:Bool} (h:z8v ks [x] [y]=some b):∃ k,eq1 k x y=some b:=by
 cases ks with
 |nil=>simp [z8v] at h
 |cons k ks=>
  simp only [z8v] at h
  split at h
  ·rename_i a c e d
   cases ks with
   |nil=>simp [z8v] at d; subst d; cases h; exact ⟨k,by simpa using e⟩
   |cons _ _=>simp [z8v] at d
  ·cases h
theorem y87 {ks:List SK} {T:TypeId} {n m:Value} {xs l:List Value} {b c:Bool} (i:Holds P T n xs) (g:Holds P T m l) (f:z8v ks xs l=some b) {d:TypeDesc} (h:Instr.sameNow d n m=some c):c=b:=by
 unfold Instr.sameNow at h
 split at h
 ·rename_i k a o p
  split at h
  ·rename_i j; subst j; cases h
   rw [z6q i (by simp),z6q g (by simp)] at f
   obtain ⟨q,e⟩:=x15 f
   cases q<;>simp [eq1] at e; exact e
  ·cases h
 ·cases h
  rw [z6q i (by simp),z6q g (by simp)] at f
  obtain ⟨q,e⟩:=x15 f
  cases q<;>simp [eq1] at e
  rw [beq_toListBytes]; exact e
 ·cases h
  rw [z6q i (by simp),z6q g (by simp)] at f
  obtain ⟨q,e⟩:=x15 f
  cases q<;>simp [eq1] at e; exact e
 ·cases h
def y1k (O:Nat→Prop) (w:World) (es:List (D×D)) (en:List MapEntry):Prop:=
 en.length=es.length∧∀ (i:Nat) (k x:D),es[i]?=some (k,x)→∃ e:MapEntry,en[i]?=some e∧z1k O w k e.key∧z1k O w x e.val
theorem v6u {T:TypeId} {ks:List SK} {ka:Bool} (G:z4v P 8 T=some ks) (S:z4j P T=some ka) {O:Nat→Prop} {k:D} {o:Value} (Q:z1k O w k o) (d:TypeDesc):
  ∀ (es:List (D×D)) (en:List MapEntry) (i:Nat) (res:Option (Nat×D)),y1k O w es en→z6c std ks ka k es i=some res→
   ∃ r:Option (Nat×Value),(∀ r',Instr.findNow d o en i=some r'→r'=r)∧(Instr.findAsking T o en i).run P w= .ok r w∧
    match res with
    |none=>r=none
    |some (n,x)=>i≤n∧∃ u e,r=some (n,e.val)∧es[n - i]?=some (u,x)∧en[n - i]?=some e∧z1k O w x e.val∧e.key=o:=by
 intro es
 induction es with
 |nil=>
  intro en i res v h
  simp [z6c] at h; subst h
  obtain ⟨C,_⟩:=v
  have:en=[]:=by simpa using C
  subst this
  exact ⟨none,fun r' h=>by simp [Instr.findNow] at h; exact h.symm,by simp [Instr.findAsking],rfl⟩
 |cons p es L=>
  intro en i res v h
  obtain ⟨u,x⟩:=p
  obtain ⟨C,v⟩:=v
  cases en with
  |nil=>simp at C
  |cons e en=>
  obtain ⟨e0,z,V,U⟩:=v 0 u x rfl
  simp at z; subst z
  simp only [z6c] at h
  cases A:(z1t k==ka)&&(z1t u==ka) with
  |false=>rw [A] at h; cases h
  |true=>
  rw [A] at h; simp only [cond_true] at h
  simp only [eAc,beq_iff_eq] at A
  cases E:z1n std ks (z0v k) (z0v u) with
  |none=>rw [E] at h; cases h
  |some b=>
  obtain ⟨J,I,t,m,s⟩:=v0e G S Q V A.1 A.2 E
  have l:=y93 (P:=P) 8 Op.maxDepth (by decide) T ks o e.key J I b w G t m s
  have l:(Op.equal T o e.key).run P w= .ok b w:=l
  rw [E] at h
  cases b with
  |true=>
   simp at h; subst h
   obtain ⟨rfl,N⟩:=v6y _ _ _ s
   have M:o=e.key:=by
    obtain ⟨a,F,_,t⟩:=t
    obtain ⟨a',B,_,m⟩:=m
    rw [F] at B; cases B
    cases a
    ·simp at t m; rw [t] at m; simpa using m
    ·simp at t m; rw [t,m]
   refine ⟨some (i,e.val),fun r' f=>?_,by simp [Instr.findAsking,l],eAj _,u,e,rfl,by simp,by simp,U,M.symm⟩
   simp only [Instr.findNow] at f
   cases g:Instr.sameNow d o e.key with
   |none=>rw [g] at f; cases f
   |some c=>
    have:=y87 t m s g
    subst this
    rw [g] at f; cases f; rfl
  |false=>
   simp only at h
   obtain ⟨r,f1,f2,H⟩:=L en (i+1) res ⟨by simpa using C,fun j a c R=>by
    have:=v (j+1) a c (by simpa using R); simpa using this⟩ h
   refine ⟨r,fun r' f=>?_,by simp [Instr.findAsking,l,f2],?_⟩
   ·simp only [Instr.findNow] at f
    cases g:Instr.sameNow d o e.key with
    |none=>rw [g] at f; cases f
    |some c=>
     have:=y87 t m s g
     subst this
     rw [g] at f; exact f1 r' f
   ·cases res with
    |none=>exact H
    |some q=>
     obtain ⟨n,y⟩:=q
     obtain ⟨g1,K,e2,g2,Z,Y,X,W⟩:=H
     refine ⟨by omega,K,e2,g2,?_,?_,X,W⟩
     ·rw [show n - i=(n - (i+1))+1 by omega]; simpa using Z
     ·rw [show n - i=(n - (i+1))+1 by omega]; simpa using Y
theorem y91 {T:TypeId} {ks:List SK} {ka:Bool} (o:z4v P 8 T=some ks) (c:z4j P T=some ka) {O:Nat→Prop} {k:D} {a:Value} (m:z1k O w k a) {es:List (D×D)} {en:List MapEntry} {res:Option (Nat×D)}
  (hr:y1k O w es en) (h:z6c std ks ka k es 0=some res):
  ∃ r:Option (Nat×Value),(Instr.findKey T a en).run P w= .ok r w∧
   match res with
   |none=>r=none
   |some (n,x)=>∃ b e,r=some (n,e.val)∧es[n]?=some (b,x)∧en[n]?=some e∧z1k O w x e.val∧e.key=a:=by
 obtain ⟨d,p⟩:∃ d,P.underlying T=some d:=by
  unfold z4j at c
  cases j:P.underlying T with
  |none=>simp [j] at c
  |some d=>exact ⟨d,rfl⟩
 obtain ⟨r,t,s,f⟩:=v6u o c m d es en 0 res hr h
 refine ⟨r,?_,?_⟩
 ·simp only [Instr.findKey,Sem.run_bind,z0g p,Result.andThen_ok]
  cases l:Instr.findNow d a en 0 with
  |none=>simpa using s
  |some i=>have:=t i l; subst this; simp
 ·cases res with
  |none=>exact f
  |some q=>
   obtain ⟨n,x⟩:=q
   obtain ⟨_,b,e,g⟩:=f
   exact ⟨b,e,by simpa using g⟩
def y4b (O:Nat→Prop) (w:World) (es:List (D×D)) (en:Array MapEntry) (a:Value) (r:Option (Nat×Value)):Option (Nat×D)→Prop
 |none=>r=none
 |some (n,x)=>∃ b e,r=some (n,e.val)∧es[n]?=some (b,x)∧en[n]?=some e∧z1k O w x e.val∧e.key=a
theorem y05 {T:TypeId} {ti:TI} (U:z7c P T ti) (hr:z0b P ρ h w) {m k:AV} {vm o:Value} (hm:z0n ρ (z0d ρ h) w m vm) (y:z0n ρ (z0d ρ h) w k o) {res:Option (Nat×D)} (l:z3t std ti h m k=some res):
    ∃ (K E:TypeId) (ks:List SK) (ka:Bool) (ez:D),P.underlying T=some (.map K E)∧ti.desc= .map ks ka ez∧w3g P E=some ez∧(∃ d,k= .d d∧z1k (z0d ρ h) w d o)∧(∀ em,(Instr.checkKey em 10000 K o).run P w= .ok () w)∧(∀ j,j=o→∀ w,(Instr.keyThatStays j o).run P w= .ok o w)∧
      ((vm= .map none∧res=none∧(Instr.findKey K o []).run P w= .ok none w)∨
        ∃ id L es en v,m= .map id∧vm= .map (some L.blk)∧ρ id=some L∧z0f h id= .map es∧w.heap[L.blk]?=some (.map en v)∧y1k (z0d ρ h) w es en.toList∧∃ r:Option (Nat×Value),(Instr.findKey K o en.toList).run P w= .ok r w∧
          y4b (z0d ρ h) w es en o r res):=by
  obtain ⟨d,Z,Y,C⟩:=U.desc
  have f:z3t std ti h m k=some res:=l
  clear l
  cases g:ti.desc with
  |map ks ka ez=>
   cases k with
   |d kd=>
    have l:(bif (z1t kd==ka)&&z1h ks (z0v kd) then match m with
      | .d .nilm=>some none
      | .map id=>match z0f h id with
        | .map es=>z6c std ks ka kd es 0
        |_=>none
      |_=>none
      else none)=some res:=by
      unfold z3t at f; rw [g] at f; exact f
    clear f
    rw [g] at C
    obtain ⟨K,E,rfl,p,u,S,hg⟩:=C
    cases z:(z1t kd==ka)&&z1h ks (z0v kd) with
    |false=>rw [z] at l; cases l
    |true=>
    rw [z] at l; simp only [cond_true] at l
    simp only [eAc,beq_iff_eq] at z
    cases y with|d y=>
    have s:(z0v kd).length=ks.length:=by
      have:∀ (ks:List SK) (ds:List D),z1h ks ds=true→ds.length=ks.length:=by
        intro ks
        induction ks with
        |nil=>intro ds h; cases ds<;>simp [z1h] at h; rfl
        |cons k ks R=>
          intro ds h
          cases ds with
          |nil=>cases k<;>simp [z1h] at h
          |cons d ds=>cases k<;>cases d<;>simp [z1h] at h<;>simp [R ds h]
      exact this _ _ z.2
    obtain ⟨H,O,h2,h3⟩:=y7a (P:=P) (T:=K) y s (z6r _ _ _ p) (by rw [z.1]; exact u)
    have B:=w9s ks _ H z.2 (h2.trans s.symm) h3
    refine ⟨K,E,ks,ka,ez,Z,rfl,S,⟨kd,rfl,y⟩,fun em=>x7o em 8 10000 (by decide) K ks o H w p O B,?_,?_⟩
    · intro j G w'
      subst G
      have:Instr.sameBits 10000 j j=true:=x1c 9998 ks H B j (by
        obtain ⟨a,_,_,M⟩:=O
        cases a
        · exact .inr (by simpa using M)
        · exact .inl (by simpa using M))
      simp [Instr.keyThatStays,this]
    · split at l
      · cases l
        cases hm with|d hm=>
        cases hm
        refine .inl ⟨rfl,rfl,?_⟩
        obtain ⟨r,J,F⟩:=y91 p u y (es:=[]) (en:=[]) (res:=none) ⟨rfl,by simp⟩ rfl
        simp only at F; subst F; exact J
      · rename_i id
        split at l
        · rename_i es A
          cases hm with
          |map _ L N=>
            obtain ⟨_,G⟩:=hr.obj id L N
            rw [A] at G
            obtain ⟨en,v,I,V,W⟩:=G
            right
            have t:y1k (z0d ρ h) w es en.toList:=⟨by simpa using V.1,fun i k x X=>by
              obtain ⟨e,he,a,b⟩:=W i k x X
              exact ⟨e,by simpa using he,a,b⟩⟩
            obtain ⟨r,J,F⟩:=y91 p u y t l
            refine ⟨id,L,es,en,v,rfl,rfl,N,A,I,t,r,J,?_⟩
            cases res with
            |none=>exact F
            |some q=>
              obtain ⟨n,x⟩:=q
              obtain ⟨Q,e,a,b,c,d⟩:=F
              exact ⟨Q,e,a,b,by simpa using c,d⟩
        · cases l
      · cases l
   |_=>unfold z3t at f; rw [g] at f; cases f
  |_=>unfold z3t at f; rw [g] at f; cases f
theorem z2x {b:Nat} {en:Array MapEntry} {a:Nat} (c:w.heap[b]?=some (.map en a)):(getObj b).run P w= .ok (.map en a) w:=by simp [getObj,Sem.run,c]
theorem z5q {b:Nat} {en c:Array MapEntry} {d a:Nat} (e:w.heap[b]?=some (.map en d)):(setObj b (.map c a)).run P w= .ok () (World.setObj w b (.map c a)):=by
 have:=(eAe.1 e).1
 simp [setObj,Sem.run,e,World.setObj]
def x2m (q:Bool) (r:List D) (x:Option (Option (Nat×D))):Prop:=
 (x=some none∧q=false)∨∃ i v a,x=some (some (i,v))∧t1n v a∧q=true∧r=[.int .i64 (i:Nat),a]
theorem y5k {E:TypeId} {ez:D} (h:w3g P E=some ez) {O:Nat→Prop}:∃ v,(zeroValue E).run P w= .ok v w∧z1k O w ez v:=by
 unfold w3g at h
 cases b:P.info? E with
 |none=>simp [b] at h
 |some i=>
  simp [b] at h
  cases a:i.zero with
  |none=>simp [a] at h
  |some z=>
   simp [a] at h
   refine ⟨z,?_,x91 h O w⟩
   simp [zeroValue,typeInfo,Sem.program,Sem.run,program,b,a]
theorem x6y {v:AV} {r:Res} (h:ok v=some r):r=⟨true,v,[]⟩:=by unfold ok at h; cases h; rfl
theorem z82 {T:TypeId} {ti:TI} (S:z7c P T ti) (hr:z0b P ρ h w) {new:Nat} {m k:AV} {vm H:Value} (hm:z0n ρ (z0d ρ h) w m vm) (V:z0n ρ (z0d ρ h) w k H) {q:Bool} {r:List D} (R:x2m q r (z3t std ti h m k)) {co:Bool} {res:Res}
  (s:z5n ti q r co=some res):z0o P ρ h w new (Instr.lookup T vm H co) res:=by
 have o:∀ (fr:Option (Nat×D)),z3t std ti h m k=some fr→∃ (v:Value) (ok:Bool) (ks:List SK) (ka:Bool) (ez:D),ti.desc= .map ks ka ez∧(Instr.lookup T vm H co).run P w= .ok (if co then .tuple #[v, .bool ok] else v) w∧
   (match fr with|none=>ok=false∧z1k (z0d ρ h) w ez v|some (_,x)=>ok=true∧z1k (z0d ρ h) w x v):=by
  intro fr J
  obtain ⟨K,E,ks,ka,ez,z,a,C,_,u,_,y⟩:=y05 S hr hm V J
  obtain ⟨G,A,B⟩:=y5k (P:=P) (w:=w) C (O:=z0d ρ h)
  rcases y with ⟨rfl,rfl,j⟩|⟨id,L,es,en,W,rfl,rfl,hL,U,F,Q,Y,j,f⟩
  ·exact ⟨G,false,ks,ka,ez,a,by simp [Instr.lookup,z0g z,u,j,A],rfl,B⟩
  ·cases fr with
   |none=>
    simp only [y4b] at f; subst f
    exact ⟨G,false,ks,ka,ez,a,by simp [Instr.lookup,z0g z,z2x F,u,j,A],rfl,B⟩
   |some p=>
    obtain ⟨n,x⟩:=p
    obtain ⟨Z,e,rfl,_,_,g,_⟩:=f
    exact ⟨e.val,true,ks,ka,ez,a,by simp [Instr.lookup,z0g z,z2x F,u,j],rfl,g⟩
 have l:∀ (d:D) (v:Value) (b:Bool),z1k (z0d ρ h) w d v→z0n ρ (z0d ρ h) w (bif co then .tuple [.d d, .d (.bool b)] else .d d) (if co then .tuple #[v, .bool b] else v):=by
  intro d v b z
  cases co with
  |false=>exact .d z
  |true=>
   refine .tuple _ _ rfl fun i x g=>?_
   match i,g with
   |0,g=>cases g; exact .d z
   |1,g=>cases g; exact .d (.bool b)
   |i+2,g=>simp at g
 unfold z5n at s
 split at s
 ·rename_i ks ka ez a
  rcases R with ⟨M,rfl⟩|⟨i,v,X,M,I,rfl,rfl⟩
  ·obtain ⟨G,ok,_,_,N,t,c,rfl,C⟩:=o _ M
   rw [a] at t; cases t
   simp only at s; cases x6y s
   exact z0o.pure hr c (l _ _ _ C)
  ·obtain ⟨G,ok,_,_,N,t,c,rfl,C⟩:=o _ M
   simp only at s; cases x6y s
   exact z0o.pure hr c (l _ _ _ (C.le2 I))
 ·cases s
theorem z1k.ofKeep {O O':Nat→Prop} {w w':World} (k:z43 O O' w w') {es:List (D×D)} {en:List MapEntry} (h:y1k O w es en):y1k O' w' es en:=
 ⟨h.1,fun i a c b=>let ⟨e,he,x,y⟩:=h.2 i a c b; ⟨e,he,x.keep k,y.keep k⟩⟩
theorem z0b.born (hr:z0b P ρ h w) {id:Nat} {L:Loc} (i:ρ id=some L) {es:List (D×D)} (b:z0f h id= .map es) {en:Array MapEntry} {a:Nat} (c:w.heap[L.blk]?=some (.map en a)):z34 en a:=by
 obtain ⟨_,d⟩:=hr.obj id L i
 rw [b] at d
 obtain ⟨j,f,e,g,_⟩:=d
 rw [c] at e
 cases e
 exact g.2
theorem map_set (hr:z0b P ρ h w) {id:Nat} {L:Loc} (q:ρ id=some L) {es j:List (D×D)} (o:z0f h id= .map es) {en:Array MapEntry} {r:Nat} (n:w.heap[L.blk]?=some (.map en r)) (f:Array MapEntry) (d:Nat)
  (l:y1k (z0d ρ h) w j f.toList) (p:z34 f d) (new:Nat) (x:AV) (v:Value) (t:∀ ρ O w,z0n ρ O w x v) {s:Sem Value} (u:s.run P w= .ok v (World.setObj w L.blk (.map f d))):z0o P ρ h w new s ⟨true,x,[(id, .map j)]⟩:=by
 have c:(z0f h id).live=true:=by rw [o]; rfl
 have g:∀ m,z1a w L.blk=some m→z1a (World.setObj w L.blk (.map f d)) L.blk=some m:=by
  intro m hm; simp [z1a,n] at hm
 have y:=z12 hr q c (.map j) rfl _ g
 refine ⟨v,_,ρ,u,t _ _ _,hr.set q c _ rfl _ g ?_,Ext.set _ hr q c _ rfl _ g, .inl rfl⟩
 have:=z1k.ofKeep y l
 exact ⟨f,d,z0t _ _ _ (eAe.1 n).1,⟨by simpa using this.1,p⟩,fun i k x z=>by
  obtain ⟨e,he,a,b⟩:=this.2 i k x z
  exact ⟨e,by simpa using he,a,b⟩⟩
theorem x0y {T:TypeId} {ti:TI} (ht:z7c P T ti) (hr:z0b P ρ h w) {new:Nat} {m k x:AV} {vm C B:Value} (hm:z0n ρ (z0d ρ h) w m vm) (hk:z0n ρ (z0d ρ h) w k C) (R:z0n ρ (z0d ρ h) w x B) {q:Bool} {r:List D} (hw:x2m q r (z3t std ti h m k)) {res:Res}
  (F:z4x std ti h q r m k x=some res):z0o P ρ h w new (z49 (Instr.mapUpdate T vm C B)) res:=by
 unfold z4x at F
 split at F
 ·rename_i ks ka ez id kd xd Z
  split at F
  ·rename_i es u
   cases R with|d R=>
   cases hk with|d G=>
   have go:∀ fr,z3t std ti h (.map id) (.d kd)=some fr→∃ (L:Loc) (s:Array MapEntry) (f:Nat),ρ id=some L∧w.heap[L.blk]?=some (.map s f)∧z34 s f∧y1k (z0d ρ h) w es s.toList∧
     (Instr.mapUpdate T vm C B).run P w= .ok () (World.setObj w L.blk (match fr with|none=> .map (s.push { key:=C,val:=B,born:=f }) (f+1)|some (n,_)=> .map (s.modify n fun e=>{ key:=C,val:=B,born:=e.born }) f))∧(∀ n y,fr=some (n,y)→n<es.length):=by
    intro fr W
    obtain ⟨K,E,ks,ka,ez,hd,_,hz,_,Q,S,J⟩:=y05 ht hr hm (.d G) W
    rcases J with ⟨rfl,rfl,I⟩|⟨id',L,es',s,f,e1,rfl,N,A,g,b,rr,I,l⟩
    ·cases hm
    ·cases e1
     rw [u] at A; cases A
     refine ⟨L,s,f,N,g,hr.born N u g,b,?_,?_⟩
     ·cases fr with
      |none=>
       simp only [y4b] at l; subst l
       simp [Instr.mapUpdate,z0g hd,z2x g,Q,I,z5q g]
      |some p=>
       obtain ⟨n,y⟩:=p
       obtain ⟨k',e,rfl,_,he,_,Y⟩:=l
       have U:=S e.key Y w
       simp [Instr.mapUpdate,z0g hd,z2x g,Q,I,he,U,z5q g]
     ·intro n y hn; subst hn
      obtain ⟨k',e,_,he,_⟩:=l
      exact (eAa.1 he).1
   rcases hw with ⟨X,rfl⟩|⟨i,v,v',X,hle,rfl,rfl⟩
   ·cases F
    obtain ⟨L,s,f,N,g,M,b,t,_⟩:=go _ X
    refine map_set hr N u g (s.push { key:=C,val:=B,born:=f }) (f+1) ⟨by simp [std]; simpa using b.1,fun i a c z=>?_⟩ (M.push _ _) new .bot undef (fun _ _ _=> .bot _) (by simp only [z49,Sem.run_bind,t,Result.andThen_ok,Sem.run_pure])
    simp only [std] at z
    rw [eBf] at z
    simp only [Array.toList_push]
    rw [eBf,b.1]
    split at z
    ·rename_i o; rw [if_pos o]; exact b.2 i a c z
    ·rename_i V
     rw [if_neg V]
     have:i - es.length=0:=by
      cases hq:i - es.length with
      |zero=>rfl
      |succ n=>rw [hq] at z; simp at z
     rw [this] at z⊢
     simp at z; obtain ⟨rfl,rfl⟩:=z
     exact ⟨_,rfl,G,R⟩
   ·cases F
    obtain ⟨L,s,f,N,g,M,b,t,o⟩:=go _ X
    have o:=o i v rfl
    refine map_set hr N u g (s.modify i fun e=>{ key:=C,val:=B,born:=e.born }) f ⟨by simp [std]; simpa using b.1,fun j a c O=>?_⟩ (M.modify _ _ _) new .bot undef (fun _ _ _=> .bot _) (by simp only [z49,Sem.run_bind,t,Result.andThen_ok,Sem.run_pure])
    simp only [std,eCz,eBu] at O
    simp only [eAl,eDb]
    split at O
    ·rename_i H; subst H
     first|rw [if_pos o] at O|skip
     cases O
     have:i<s.size:=by rw [←eBw,b.1]; exact o
     simp only [if_true,eAs this,eAw]
     exact ⟨_,rfl,G,R⟩
    ·rename_i H
     rw [if_neg H]
     simpa using b.2 j a c O
  ·cases F
 ·cases F
theorem x01 {T:TypeId} {ti:TI} (Y:z7c P T ti) (hr:z0b P ρ h w) {new:Nat} {m k:AV} {vm M:Value} (hm:z0n ρ (z0d ρ h) w m vm) (hk:z0n ρ (z0d ρ h) w k M) {q:Bool} {r:List D} (X:x2m q r (z3t std ti h m k)) {res:Res} {ts:Array TypeId} {ty:TypeId} (G:ts[0]?=some T)
  (u:z4y std ti h q r m=some res):z0o P ρ h w new (Builtin.delete_ ts ty #[vm,M]) res:=by
 have unit:∀ ρ O w,z0n ρ O w (.tuple []) (.tuple #[]):=fun _ _ _=> .tuple [] #[] rfl (fun i x W=>by simp at W)
 unfold z4y at u
 split at u
 ·rename_i ks ka ez id S
  split at u
  ·rename_i es s
   have go:∀ fr,z3t std ti h (.map id) k=some fr→∃ (L:Loc) (o:Array MapEntry) (f:Nat),ρ id=some L∧w.heap[L.blk]?=some (.map o f)∧z34 o f∧y1k (z0d ρ h) w es o.toList∧
     (Builtin.delete_ ts ty #[vm,M]).run P w= .ok (.tuple #[]) (World.setObj w L.blk (match fr with|none=> .map o f|some (n,_)=> .map (o.eraseIdxIfInBounds n) f)):=by
    intro fr Q
    obtain ⟨K,E,ks,ka,ez,U,_,hz,_,H,hks,B⟩:=y05 Y hr hm hk Q
    rcases B with ⟨rfl,rfl,A⟩|⟨V,L,es',o,f,J,rfl,F,t,d,b,rr,A,l⟩
    ·cases hm
    ·cases J
     rw [s] at t; cases t
     refine ⟨L,o,f,F,d,hr.born F s d,b,?_⟩
     cases fr with
     |none=>
      simp only [y4b] at l; subst l
      simp [Builtin.delete_,G,z0g U,z2x d,H,A,z5q d]
     |some p=>
      obtain ⟨n,y⟩:=p
      obtain ⟨k',e,rfl,_,he,_,hek⟩:=l
      simp [Builtin.delete_,G,z0g U,z2x d,H,A,z5q d]
   rcases X with ⟨R,rfl⟩|⟨i,v,v',R,Z,rfl,rfl⟩
   ·cases u
    obtain ⟨L,o,f,F,d,C,b,g⟩:=go _ R
    exact map_set hr F s d _ _ b C new _ _ unit g
   ·cases u
    obtain ⟨L,o,f,F,d,C,b,g⟩:=go _ R
    have J:(o.eraseIdxIfInBounds i).toList=o.toList.eraseIdx i:=by
     unfold Array.eraseIdxIfInBounds
     split
     ·simp
     ·rename_i N; rw [List.eraseIdx_of_length_le (by simpa using N)]
    refine map_set hr F s d _ _ ⟨?_,fun j a c I=>?_⟩ (C.erase _) new _ _ unit g
    ·simp only [std,eCz,J,List.length_eraseIdx,b.1]
    ·rw [J]
     simp only [std,eCz,List.getElem?_eraseIdx] at I⊢
     split at I
     ·rename_i z; rw [if_pos z]; exact b.2 _ a c I
     ·rename_i z; rw [if_neg z]; exact b.2 _ a c I
  ·cases u
 ·cases u
theorem y78 {T:TypeId} (hr:z0b P ρ h w) {new:Nat} (e:ρ new=none) {x:Option AV} {v:Option Value} (d:x=none→v=none) {res:Res} (c:z81 new x=some res):z0o P ρ h w new (Instr.makeMap T v) res:=by
 unfold z81 at c
 split at c
 ·cases c
  rw [d rfl]
  have a:(Instr.makeMap T none).run P w= .ok (.map (some w.heap.size)) (World.push w (.map #[] 0)):=by
   simp [Instr.makeMap,newObj,Sem.run,World.push]
  have b:=hr.new e 0 (.map []) (.map #[] 0) ⟨#[],0,z4c _ _,⟨rfl,z34.empty _⟩,by simp⟩
  exact ⟨_,_,_,a, .map _ _ (Rho.put_same _ _ _),b,Ext.new hr e _ _ _ rfl, .inr ⟨_,eBh.2 rfl⟩⟩
 ·cases c
end
end Go.Am
end
