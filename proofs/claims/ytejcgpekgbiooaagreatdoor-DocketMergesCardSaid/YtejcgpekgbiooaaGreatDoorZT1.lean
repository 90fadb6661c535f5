/- Texts of this claim. -/
import Derived.Calls
import Derived.Laws.Sem
import Derived.Laws.World
import Derived.Laws.CopyRow
import Derived.Laws.Rows
import Derived.Laws.StructEq
import Derived.Laws.BytesString
set_option linter.all false
set_option maxRecDepth 100000
set_option maxHeartbeats 0
open Go.World renaming cell?→eFc
open BitVec renaming ofInt→eFb
open ByteArray renaming empty→eFk
open Ne renaming symm→eDa
open Go.Value renaming cells→eGi
open Go.Sem renaming run_bind→eAw,run_pure→eBf,run_ite→eFd
open Go.Result renaming andThen_ok→eAo
open Go.Op renaming equalIn→eCw
open Go.Builtin renaming firstCells→eCm,append_→eDj,zeroCells→eFq,lenOf→eGn,len_→eGl
open Go.Instr renaming checkKey→eFe,lookup→eGa
open Nat renaming le_refl→eAp,lt_of_lt_of_le→eBc,beq→eAk,ble→eAz,le_trans→eCt,zero_add→eAy,mul_one→eDg,add_zero→eBk,add_assoc→eCf,mul_le_mul_right→eBi,add_mul→eBe,le_of_ble_eq_true→eAl,eq_of_beq_eq_true→eAg,div_lt_iff_lt_mul→eFw,mod_lt→eGh,mul_comm→eFm,zero_le→eBb,lt_or_ge→eCu,ble_eq_true_of_le→eCi,mod_eq_of_lt→eDz,sub_zero→eGs
open Array renaming getElem?_eq_some_iff→eAi,getElem?_toList→eAt,getElem?_modify→eDt,getElem?_setIfInBounds→eDu,getD_eq_getD_getElem?→eAq,getElem?_eq_getElem→eBg,length_toList→eCg
open List renaming length_eq_zero_iff→eBw,replicate→eAu,mem_append→eBx,mem_singleton→eBn,map_cons→eFs,mem_map→eBq,ext_getElem?→eCj,getElem?_map→eAj,getElem?_cons_succ→eDl,length_cons→eCa,getElem?_eq_some_iff→eAe,getElem?_eq_getElem→eAd,append_assoc→eDr,getElem?_append→eBr,getElem?_take→eFl,getElem?_drop→eDh,getElem?_toArray→eCh,getElem?_set→eCr,mem_cons→eBa,getElem?_replicate→eCs,getElem_mem→eDe,mem_of_getElem?→eAn,foldl_cons→eDo,length_take→eCk,length_drop→eGe,cons_append→eGr,length_append→eCz,drop_drop→eGf,getElem?_append_left→eFh,getElem?_append_right→eFt,range→eAv,getElem?_cons_zero→eDy,length_map→eBp,getElem?_eq_none→eDv,all_eq_true→eBm
open Bool renaming and_eq_true→eAf,or_eq_true→eBh,not_true→eCp,false_eq_true→eAh,not_false→eCn
open Option renaming map_some→eBo,getD_some→eCd,bind_some→eCb
open Int renaming toNat_natCast→eFf
section
namespace Go.Am
inductive D where
 |bool (b:Bool)
 |int (k:IntKind) (n:Int)
 |str (s:ByteArray)
 |list (full:Bool) (z:Nat) (es:List (List D))
 |agg (cells:List D)
 |nilp|nilm|nilf|nili
 |ref (cells:List D)
 deriving Inhabited
inductive AV where
 |bot
 |d (x:D)
 |bptr (id off:Nat)
 |ptr (id i off:Nat)
 |lptr (cells:List D) (off:Nat)
 |wptr (es:List (List D)) (off:Nat)
 |perm (es:List (List D))
 |slice (id z off len:Nat) (cap:Option Nat)
 |map (id:Nat)
 |yld (id:Nat)
 |clo (fn:Fn) (first captured:List AV)
 |iface (t:TypeId) (v:AV)
 |agg (cells:List AV)
 |tuple (vs:List AV)
 deriving Inhabited
inductive AO where
 |dead
 |box (cells:List AV)
 |row (es:List (List D))
 |arow (es:List (List AV))
 |map (es:List (D×D))
 |loop (st:LoopState) (pending:Option Code) (g:Nat) (pos:List Bool) (nt:Nat) (env:List (Nat×AV))
 deriving Inhabited
structure Loc where
 blk:Nat
 base:Nat
 esz:Nat
structure Rho where
 loc:Nat→Option Loc
 fr:Nat→Prop
instance:CoeFun Rho (fun _=>Nat→Option Loc):=⟨Rho.loc⟩
def z0e:List AO→Nat→AO
 |[],_=> .dead
 |o::_,0=>o
 |_::r,n+1=>z0e r n
def z04:List AO→Nat→AO→List AO
 |[],0,x=>[x]
 |[],n+1,x=> .dead::z04 [] n x
 |_::r,0,x=>x::r
 |o::r,n+1,x=>o::z04 r n x
theorem z0g (h:List AO) (i:Nat) (x:AO):z0e (z04 h i x) i=x:=by
 induction h generalizing i with
 |nil=>induction i with
  |zero=>rfl
  |succ n a=>simpa [z04,z0e] using a
 |cons o r a=>cases i with
  |zero=>rfl
  |succ n=>simpa [z04,z0e] using a n
theorem z0c (h:List AO) (i j:Nat) (x:AO) (a:i≠j):z0e (z04 h i x) j=z0e h j:=by
 induction h generalizing i j with
 |nil=>
  induction i generalizing j with
  |zero=>cases j with
   |zero=>exact absurd rfl a
   |succ m=>simp [z04,z0e]
  |succ n b=>cases j with
   |zero=>simp [z04,z0e]
   |succ m=>simpa [z04,z0e] using b m (by omega)
 |cons o r b=>cases i with
  |zero=>cases j with
   |zero=>exact absurd rfl a
   |succ m=>simp [z04,z0e]
  |succ n=>cases j with
   |zero=>simp [z04,z0e]
   |succ m=>simpa [z04,z0e] using b n m (by omega)
theorem x1g (h:List AO) (o:AO):z04 h h.length o=h++[o]:=by
 induction h with
 |nil=>rfl
 |cons x r a=>simp [z04,a]
theorem z2t (h:List AO) (i:Nat) (o:AO) (a:i<h.length):(z04 h i o).length=h.length:=by
 induction h generalizing i with
 |nil=>simp at a
 |cons x r b=>cases i with
  |zero=>rfl
  |succ n=>simpa [z04] using b n (by simpa using a)
theorem z10 (h:List AO) (i:Nat) (o:AO):h.length≤(z04 h i o).length∧i<(z04 h i o).length:=by
 induction h generalizing i with
 |nil=>induction i with
  |zero=>simp [z04]
  |succ n a=>simp [z04] at a⊢; omega
 |cons x r a=>cases i with
  |zero=>simp [z04]
  |succ n=>have:=a n; simp [z04]; omega
theorem x6s (h:List AO) (i:Nat) (a:h.length≤i):z0e h i= .dead:=by
 induction h generalizing i with
 |nil=>rfl
 |cons x r b=>cases i with
  |zero=>simp at a
  |succ n=>simpa [z0e] using b n (by simpa using a)
def AO.live:AO→Bool
 | .dead=>false
 |_=>true
def z0f (ρ:Rho) (h:List AO) (b:Nat):Prop:=ρ.fr b∨∃ id L,ρ id=some L∧(z0e h id).live=true∧L.blk=b
def z1c (w:World) (b:Nat):Option Nat:=
 match w.heap[b]? with
 |some (.cells c _ _)=>some c.size
 |_=>none
inductive z1m (O:Nat→Prop) (w:World):D→Value→Prop
 |bool (b:Bool):z1m O w (.bool b) (.bool b)
 |int (k:IntKind) (n:Int):z1m O w (.int k n) (.int k n)
 |str (s:ByteArray):z1m O w (.str s) (.string s)
 |nilp:z1m O w .nilp (.pointer none)
 |nilm:z1m O w .nilm (.map none)
 |nilf:z1m O w .nilf .nilFunc
 |nili:z1m O w .nili .nilIface
 |agg (ds:List D) (vs:Array Value) (hl:vs.size=ds.length) (h:∀ (i:Nat) (d:D),ds[i]?=some d→z1m O w d (vs.getD i undef)):z1m O w (.agg ds) (.agg vs)
 |lnil (full:Bool) (z:Nat) (a:Option Addr) (c:Nat) (h:full=true→c=0):z1m O w (.list full z []) (.slice a 0 c)
 |list (full:Bool) (es:List (List D)) (b o z c:Nat) (hz:0<z) (hne:es≠[]) (hO:¬ O b) (hlc:es.length≤c) (hf:full=true→c=es.length)
   (hsz:∀ (i:Nat) (r:List D),es[i]?=some r→r.length=z) (cell:Nat→Value) (h1:∀ k,k<es.length*z→(cell k).oneCell'=true) (hc:∀ k,k<es.length*z→w.cell? ⟨b,o+k,none⟩=some (cell k))
   (h:∀ (i:Nat) (r:List D) (j:Nat) (d:D),es[i]?=some r→r[j]?=some d→z1m O w d (cell (i*z+j))):z1m O w (.list full z es) (.slice (some ⟨b,o,none⟩) es.length c)
 |ref (r:List D) (b o:Nat) (hne:r≠[]) (hO:¬ O b) (cell:Nat→Value) (hc:∀ k,k<r.length→w.cell? ⟨b,o+k,none⟩=some (cell k))
   (h:∀ (k:Nat) (x:D),r[k]?=some x→z1m O w x (cell k)):z1m O w (.ref r) (.pointer (some ⟨b,o,none⟩))
inductive z0q (ρ:Rho) (O:Nat→Prop) (w:World):AV→Value→Prop
 |bot (v:Value):z0q ρ O w .bot v
 |d {x:D} {v:Value} (h:z1m O w x v):z0q ρ O w (.d x) v
 |bptr (id off:Nat) (L:Loc) (h:ρ id=some L):z0q ρ O w (.bptr id off) (.pointer (some ⟨L.blk,L.base+off,none⟩))
 |ptr (id i off:Nat) (L:Loc) (h:ρ id=some L):z0q ρ O w (.ptr id i off) (.pointer (some ⟨L.blk,L.base+i*L.esz+off,none⟩))
 |lptr (r:List D) (off b o:Nat) (hlt:b<w.heap.size) (hO:¬ O b) (cell:Nat→Value) (hc:∀ k,k<r.length→w.cell? ⟨b,o+k,none⟩=some (cell k))
   (hr:∀ (k:Nat) (x:D),r[k]?=some x→z1m O w x (cell k)):z0q ρ O w (.lptr r off) (.pointer (some ⟨b,o+off,none⟩))
 |wptr (es:List (List D)) (off b o z:Nat) (hlt:b<w.heap.size) (hO:¬ O b) (hz:∀ (i:Nat) (r:List D),es[i]?=some r→r.length=z)
   (hc:∀ (i:Nat) (r:List D) (j:Nat) (x:D),es[i]?=some r→r[j]?=some x→∃ v,w.cell? ⟨b,o+i*z+j,none⟩=some v∧z1m O w x v):z0q ρ O w (.wptr es off) (.pointer (some ⟨b,o+off,none⟩))
 |perm (es es':List (List D)) (v:Value) (hp:es'.Perm es) (h:z1m O w (.list false 1 es') v):z0q ρ O w (.perm es) v
 |slice (id z off len:Nat) (cap:Option Nat) (L:Loc) (a:Option Addr) (c:Nat) (h:ρ id=some L) (hz:L.esz=z) (ha:0<c→a=some ⟨L.blk,L.base+off*L.esz,none⟩)
   (hc:cap=some c∨(cap=none∧∃ n,z1c w L.blk=some n∧L.base+(off+c)*L.esz≤n)) (hl:len≤c):z0q ρ O w (.slice id z off len cap) (.slice a len c)
 |nils (id z off:Nat) (cap:Option Nat) (a:Option Addr) (hc:cap=none∨cap=some 0):z0q ρ O w (.slice id z off 0 cap) (.slice a 0 0)
 |map (id:Nat) (L:Loc) (h:ρ id=some L):z0q ρ O w (.map id) (.map (some L.blk))
 |yld (id:Nat) (L:Loc) (h:ρ id=some L):z0q ρ O w (.yld id) (.func (.yield L.blk) #[] #[])
 |clo (fn:Fn) (fs cs:List AV) (vf vc:Array Value) (hf:vf.size=fs.length) (hc:vc.size=cs.length)
   (h1:∀ (i:Nat) (x:AV),fs[i]?=some x→z0q ρ O w x (vf.getD i undef)) (h2:∀ (i:Nat) (x:AV),cs[i]?=some x→z0q ρ O w x (vc.getD i undef)):z0q ρ O w (.clo fn fs cs) (.func fn vf vc)
 |iface (t:TypeId) (x:AV) (v:Value) (h:z0q ρ O w x v):z0q ρ O w (.iface t x) (.iface t v)
 |agg (xs:List AV) (vs:Array Value) (hl:vs.size=xs.length) (h:∀ (i:Nat) (x:AV),xs[i]?=some x→z0q ρ O w x (vs.getD i undef)):z0q ρ O w (.agg xs) (.agg vs)
 |tuple (xs:List AV) (vs:Array Value) (hl:vs.size=xs.length) (h:∀ (i:Nat) (x:AV),xs[i]?=some x→z0q ρ O w x (vs.getD i undef)):z0q ρ O w (.tuple xs) (.tuple vs)
def z0v (_ _:Nat):Prop:=True
theorem z0v.refl (a:Nat):z0v a a:=trivial
theorem z0v.trans {a b c:Nat} (h:z0v a b) (k:z0v b c):z0v a c:=trivial
theorem z0v.succ (a:Nat):z0v a (a+1):=trivial
structure z5d (O O':Nat→Prop) (w w':World):Prop where
 size:w.heap.size≤w'.heap.size
 frame:∀ b,b<w.heap.size→¬ O b→w'.heap[b]?=w.heap[b]?
 own:∀ b,b<w.heap.size→O' b→O b
 shape:∀ b n,z1c w b=some n→z1c w' b=some n
 drawn:z0v w.drawn w'.drawn
theorem z5d.refl (O:Nat→Prop) (w:World):z5d O O w w:=⟨eAp _,fun _ _ _=>rfl,fun _ _ h=>h,fun _ _ h=>h,z0v.refl _⟩
theorem y19 {w:World} {a:Addr} {v:Value} (h:w.cell? a=some v):a.block<w.heap.size:=by
 unfold eFc at h
 cases b:w.heap[a.block]? with
 |none=>simp [b] at h
 |some o=>exact (eAi.1 b).1
theorem z2o {w w':World} {a:Addr} (h:w'.heap[a.block]?=w.heap[a.block]?):w'.cell? a=w.cell? a:=by
 unfold eFc; rw [h]
theorem z1m.keep {O O':Nat→Prop} {w w':World} (k:z5d O O' w w') {x:D} {v:Value} (h:z1m O w x v):z1m O' w' x v:=by
 induction h with
 |bool b=>exact .bool b
 |int k n=>exact .int k n
 |str s=>exact .str s
 |nilp=>exact .nilp
 |nilm=>exact .nilm
 |nilf=>exact .nilf
 |nili=>exact .nili
 |agg ds t u h g=>exact .agg ds t u g
 |lnil f z a c h=>exact .lnil f z a c h
 |list full es b o z c q d hO m y l cell A i h g=>
  have e:b<w.heap.size:=by
   have B:0<es.length*z:=Nat.mul_pos (List.length_pos_iff.2 d) q
   exact y19 (i 0 B)
  refine .list full es b o z c q d (fun h=>hO (k.own b e h)) m y l cell A (fun j p=>?_) g
  rw [z2o (w:=w)]
  ·exact i j p
  ·exact k.frame b e hO
 |ref r b o d hO cell i h g=>
  have e:b<w.heap.size:=y19 (i 0 (List.length_pos_iff.2 d))
  refine .ref r b o d (fun h=>hO (k.own b e h)) cell (fun j p=>?_) g
  rw [z2o (w:=w)]
  ·exact i j p
  ·exact k.frame b e hO
theorem z0q.keep {ρ ρ':Rho} {O O':Nat→Prop} {w w':World} (k:z5d O O' w w') (l:∀ id L,ρ id=some L→ρ' id=some L) {x:AV} {v:Value} (h:z0q ρ O w x v):z0q ρ' O' w' x v:=by
 induction h with
 |bot v=>exact .bot v
 |d h=>exact .d (h.keep k)
 |bptr id off L h=>exact .bptr id off L (l _ _ h)
 |ptr id i off L h=>exact .ptr id i off L (l _ _ h)
 |lptr r off b o e hO cell f B=>
  refine .lptr r off b o ?_ (fun h=>hO (k.own b e h)) cell (fun j K=>?_) (fun j x A=>(B j x A).keep k)
  ·exact eBc e k.size
  ·rw [z2o (w:=w)]
   ·exact f j K
   ·exact k.frame b e hO
 |wptr es off b o z e hO y f=>
  refine .wptr es off b o z (eBc e k.size) (fun h=>hO (k.own b e h)) y fun i r j x M A=>?_
  obtain ⟨v,H,B⟩:=f i r j x M A
  refine ⟨v,?_,B.keep k⟩
  rw [z2o (w:=w)]
  ·exact H
  ·exact k.frame b e hO
 |perm es E v I h=>exact .perm es E v I (h.keep k)
 |slice id z off len cap L a c h y P f m=>
  refine .slice id z off len cap L a c (l _ _ h) y P ?_ m
  rcases f with f|⟨f,n,J,C⟩
  ·exact .inl f
  ·exact .inr ⟨f,n,k.shape _ _ J,C⟩
 |nils id z off cap a f=>exact .nils id z off cap a f
 |map id L h=>exact .map id L (l _ _ h)
 |yld id L h=>exact .yld id L (l _ _ h)
 |clo fn Q cs F G N f S R u s=>exact .clo fn Q cs F G N f u s
 |iface t x v h g=>exact .iface t x v g
 |agg p q m h g=>exact .agg p q m g
 |tuple p q m h g=>exact .tuple p q m g
def v89:D→D→Prop
 | .list f z es,y=>y= .list f z es∨(∃ a,y= .list false a es∧(a=z∨es=[]))∨(∃ a,y= .list f a es∧es=[])
 |x,y=>y=x
theorem v89.refl (x:D):v89 x x:=by cases x<;>first|rfl|exact .inl rfl
theorem z1m.le0 {O:Nat→Prop} {w:World} {x y:D} {v:Value} (e:v89 x y) (h:z1m O w x v):z1m O w y v:=by
 cases h with
 |lnil f z a c l=>
  rcases e with rfl|⟨g,rfl,_⟩|⟨g,rfl,_⟩
  ·exact .lnil f z a c l
  ·exact .lnil false g a c (by simp)
  ·exact .lnil f g a c l
 |list full es b o z c u d hO j l i cell p m h=>
  rcases e with rfl|⟨g,rfl,q⟩|⟨g,rfl,t⟩
  ·exact .list full es b o z c u d hO j l i cell p m h
  ·rcases q with rfl|t
   ·exact .list false es b o g c u d hO j (by simp) i cell p m h
   ·exact absurd t d
  ·exact absurd t d
 |bool b=>cases e; exact .bool b
 |int k n=>cases e; exact .int k n
 |str s=>cases e; exact .str s
 |nilp=>cases e; exact .nilp
 |nilm=>cases e; exact .nilm
 |nilf=>cases e; exact .nilf
 |nili=>cases e; exact .nili
 |agg ds A p B=>cases e; exact .agg ds A p B
 |ref r b o d hO cell m h=>cases e; exact .ref r b o d hO cell m h
def DLe (x y:D):Prop:=v89 x y∨∃ r a,x= .ref r∧y= .ref a∧a.length=r.length∧∀ (j:Nat) (d:D),a[j]?=some d→∃ c,r[j]?=some c∧v89 c d
theorem DLe.refl (x:D):DLe x x:= .inl (.refl x)
theorem z1m.le {O:Nat→Prop} {w:World} {x y:D} {v:Value} (g:DLe x y) (h:z1m O w x v):z1m O w y v:=by
 rcases g with g|⟨r,l,rfl,rfl,j,p⟩
 ·exact h.le0 g
 ·cases h with
  |ref _ b o a hO cell n h=>
   refine .ref l b o (by intro e; rw [e] at j; exact a (eBw.1 j.symm)) hO cell (fun k q=>n k (by omega)) fun k d m=>?_
   obtain ⟨c,i,f⟩:=p k d m
   exact (h k c i).le0 f
def y4a (r r':List D):Prop:=r'.length=r.length∧∀ (j:Nat) (y:D),r'[j]?=some y→∃ x,r[j]?=some x∧DLe x y
theorem y4a.refl (r:List D):y4a r r:=⟨rfl,fun j y h=>⟨y,h, .refl y⟩⟩
def w7m (es:List (List D)) (i:Nat) (r:List D):Prop:=∃ a,es[i]?=some a∧y4a a r
def t4y (x y:D):Prop:=DLe x y∨∃ l a,x= .agg l∧y= .agg a∧y4a l a
theorem z1m.le2 {O:Nat→Prop} {w:World} {x y:D} {v:Value} (b:t4y x y) (h:z1m O w x v):z1m O w y v:=by
 rcases b with b|⟨l,e,rfl,rfl,n,m⟩
 ·exact h.le b
 ·cases h with
  |agg _ c g j=>
   refine .agg e c (by rw [n]; exact g) fun i d k=>?_
   obtain ⟨x,f,a⟩:=m i d k
   exact (j i x f).le a
inductive SK where
 |i|b|s
 deriving DecidableEq
inductive TK where
 |int (k:IntKind)|bool|str
 |struct (fs:List (Nat×Nat×Bool))
 |arr (n esz:Nat) (eagg:Bool)
 |slc (e esz ebytes:Nat) (eagg:Bool) (ezero:List D)
 |ptr (arr:Option (Nat×Nat))
 |map (ks:List SK) (kagg:Bool) (ezero:D)
 |mapx
 |func|iface|other
 deriving Inhabited
structure TI where
 size:Nat
 bytes:Nat
 agg:Bool
 zero:List D
 desc:TK
 eqk:Option (List SK)
 deriving Inhabited
def u3l:Value→Option D
 | .bool b=>some (.bool b)
 | .int k n=>some (.int k n)
 | .string s=>some (.str s)
 | .slice none 0 0=>some (.list true 0 [])
 | .pointer none=>some .nilp
 | .map none=>some .nilm
 | .nilFunc=>some .nilf
 | .nilIface=>some .nili
 |_=>none
def y25:List Value→Option (List D)
 |[]=>some []
 |v::r=>match u3l v,y25 r with
  |some d,some ds=>some (d::ds)
  |_,_=>none
def u7z:Value→Option D
 | .agg cs=>(y25 cs.toList).map .agg
 |v=>u3l v
def z79:TypeDesc→Bool
 | .struct _| .array _ _=>true
 |_=>false
def z92 (P:Program) (t:TypeId):Option Nat:=(P.info? t).map (·.size)
def z4q (P:Program) (t:TypeId):Option Bool:=(P.underlying t).map z79
def y5p (P:Program) (t:TypeId):Option (List D):=((P.info? t).bind (·.zero)).bind fun z=>y25 z.cells.toList
def w2y (P:Program) (t:TypeId):Option D:=((P.info? t).bind (·.zero)).bind u7z
def y2a (P:Program) (t:TypeId):Option Nat:=(P.info? t).map (·.bytes)
def w85 (P : Program) (flat : TypeId → Option (List SK)) : Nat → List Field → Option (List SK)
 | _, [] => some []
 | off, f :: fs => if f.name ≠ "_" ∧ f.offset = off then
   match flat f.type with
   | some ks => if z92 P f.type = some ks.length then (w85 P flat (off + ks.length) fs).map (ks ++ ·) else none
   | none => none
  else none
def w5q (P:Program) (flat:TypeId→Option (List SK)) (t:TypeId):Option (List SK):=
 match P.underlying t with
 |some (.int _)=>some [.i]
 |some .bool=>some [.b]
 |some .string=>some [.s]
 |some (.struct a)=>if P.stoodInHeld t then none else w85 P flat 0 a.toList
 |some (.array m e)=>(flat e).map fun ks=>(eAu m ks).flatten
 |_=>none
def z45 (P:Program):Nat→TypeId→Option (List SK)
 |0,_=>none
 |n+1,t=>match w5q P (z45 P n) t with
  |some ks=>if z92 P t=some ks.length then some ks else none
  |none=>none
def fieldsOf (P:Program):List Field→Option (List (Nat×Nat×Bool))
 |[]=>some []
 |f::r=>match z92 P f.type,z4q P f.type,fieldsOf P r with
  |some s,some a,some l=>some ((f.offset,s,a)::l)
  |_,_,_=>none
def u9z (P:Program):TypeDesc→Option TK
 | .int k=>some (.int k)
 | .bool=>some .bool
 | .string=>some .str
 | .struct fs=>(fieldsOf P fs.toList).map .struct
 | .array n e=>match z92 P e,z4q P e with
  |some s,some a=>some (.arr n s a)
  |_,_=>none
 | .slice e=>match z92 P e,z4q P e,y2a P e,y5p P e with
  |some s,some a,some b,some z=>if z.length=s then some (.slc e s b a z) else none
  |_,_,_,_=>none
 | .pointer e=>match P.underlying e with
  |some (.array n c)=>(z92 P c).map fun s=> .ptr (some (n,s))
  |_=>some (.ptr none)
 | .map k e=>match z45 P 8 k,z4q P k,w2y P e,P.eqGuardType P.depth k with
  |some ks,some a,some z,false=>some (.map ks a z)
  |_,_,_,_=>some .mapx
 | .func _ _ _=>some .func
 | .interface _=>some .iface
 |_=>some .other
def w43:Value→Bool
 | .agg _=>true
 |_=>false
def v9e (P:Program) (t:TypeId):Option TI:=
 match P.info? t,P.underlying t with
 |some i,some d=>match i.zero with
  |some z=>match y25 z.cells.toList,u9z P d with
   |some a,some k=>if (z79 d==w43 z)&&(a.length==i.size) then some ⟨i.size,i.bytes,z79 d,a,k,if P.eqGuardType P.depth t then none else z45 P 8 t⟩ else none
   |_,_=>none
  |none=>none
 |_,_=>none
inductive CR where
 |int (k:IntKind)|bool|str|list (z:Nat)
 deriving Inhabited
inductive CK where
 |int (k:IntKind)|bool|str|list (z:Nat)|other
 |ref (ks:List CR)
 deriving Inhabited
structure Prim where
 ar:BinOp→IntKind→Int→Int→Int
 cmp:BinOp→Int→Int→Bool
 cvt:IntKind→Int→Int
 nat:Int→Nat
 ofNat:Nat→Int
 add:Nat→Nat→Nat
 sub:Nat→Nat→Nat
 mul:Nat→Nat→Nat
 leN:Nat→Nat→Bool
 byte:ByteArray→Int→Int
 bEq:Bool→Bool→Bool
 len:List (List D)→Nat
 w9r:List (List AV)→Nat
 set:List (List D)→Nat→List D→List (List D)
 app:List (List D)→List (List D)→List (List D)
 cut:List (List D)→Nat→Nat→List (List D)
 strEq:ByteArray→ByteArray→Bool
 rep:Nat→List D→List (List D)
 splice:List (List D)→Nat→List (List D)→List (List D)
 min:Nat→Nat→Nat
 and:Bool→Bool→Bool
 mm:BinOp→Int→Int→Int
 mset:List (D×D)→Nat→D→D→List (D×D)
 madd:List (D×D)→D→D→List (D×D)
 mdel:List (D×D)→Nat→List (D×D)
 mlen:List (D×D)→Nat
 eqN:Nat→Nat→Bool
 rowOk:List (List D)→Nat→List CK→Bool
 rdI:List (List D)→Nat→Nat→Int
 rdB:List (List D)→Nat→Nat→Bool
 rdS:List (List D)→Nat→Nat→ByteArray
 rdL:List (List D)→Nat→Nat→List (List D)
 rdR:List (List D)→Nat→Nat→List (List D)
 mOk:List (D×D)→List SK→Bool→D→Bool→List CK→Bool
 mhas:List (D×D)→List SK→Bool→D→Bool
 mpos:List (D×D)→List SK→Bool→D→Nat
 mI:List (D×D)→List SK→Bool→D→Nat→Int
 mB:List (D×D)→List SK→Bool→D→Nat→Bool
 mS:List (D×D)→List SK→Bool→D→Nat→ByteArray
 mL:List (D×D)→List SK→Bool→D→Nat→List (List D)
 mR:List (D×D)→List SK→Bool→D→Nat→List (List D)
 plain:List (List D)→Bool
 plainM:List (D×D)→Bool
 slen:ByteArray→Nat
 scut:ByteArray→Nat→Nat→ByteArray
 scat:ByteArray→ByteArray→ByteArray
 schr:Int→ByteArray
 rdF:List (List D)→Nat→Nat→Nat→Bool
def x6a (op:BinOp) (k:IntKind) (x y:Int):Int:=
 match op with
 | .add=>k.wrap (x+y)
 | .sub=>k.wrap (x - y)
 | .mul=>k.wrap (x*y)
 | .quo=>k.wrap (x.tdiv y)
 | .rem=>x.tmod y
 | .and=>k.wrap ((eFb k.bits x&&&eFb k.bits y).toNat:Nat)
 | .or=>k.wrap ((eFb k.bits x|||eFb k.bits y).toNat:Nat)
 | .xor=>k.wrap ((eFb k.bits x ^^^ eFb k.bits y).toNat:Nat)
 | .andNot=>k.wrap ((eFb k.bits x&&& ~~~ (eFb k.bits y)).toNat:Nat)
 | .shl=>k.wrap (x*2 ^ (min y.toNat k.bits))
 | .shr=>x.fdiv (2 ^ (min y.toNat k.bits))
 |_=>0
def z3z (op:BinOp) (x y:Int):Bool:=
 match op with
 | .eql=>x==y
 | .neq=>x !=y
 | .lss=>x<y
 | .leq=>x≤y
 | .gtr=>x>y
 | .geq=>x≥y
 |_=>false
def z9m:List SK→List D→List D→Option Bool
 |[],[],[]=>some true
 | .i::ks, .int k a::x, .int c b::y=>bif k==c then match z9m ks x y with
   |some r=>some (z3z .eql a b&&r)
   |none=>none
  else none
 | .b::ks, .bool a::x, .bool b::y=>match z9m ks x y with
   |some r=>some ((a==b)&&r)
   |none=>none
 | .s::ks, .str a::x, .str b::y=>match z9m ks x y with
   |some r=>some ((a.toList==b.toList)&&r)
   |none=>none
 |_,_,_=>none
def z0x:D→List D
 | .agg l=>l
 |x=>[x]
def z1w:D→Bool
 | .agg _=>true
 |_=>false
def y7e (ks:List SK) (ka:Bool) (k:D):List (D×D)→Nat→Option (Option (Nat×D))
 |[],_=>some none
 |(a,v)::r,i=>bif (z1w k==ka)&&(z1w a==ka) then match z9m ks (z0x k) (z0x a) with
   |some true=>some (some (i,v))
   |some false=>y7e ks ka k r (i+1)
   |none=>none
  else none
def z1k:List SK→List D→Bool
 |[],[]=>true
 | .i::ks, .int _ _::r=>z1k ks r
 | .b::ks, .bool _::r=>z1k ks r
 | .s::ks, .str _::r=>z1k ks r
 |_,_=>false
def x18:CR→D→Bool
 | .int k, .int b _=>k==b
 | .bool, .bool _=>true
 | .str, .str _=>true
 | .list z, .list _ a es=>eAk z a||es.isEmpty
 |_,_=>false
def y05:List CR→List D→Bool
 |[],[]=>true
 |c::cs,d::ds=>x18 c d&&y05 cs ds
 |_,_=>false
def y94:CK→D→Bool
 | .int k, .int b _=>k==b
 | .bool, .bool _=>true
 | .str, .str _=>true
 | .list z, .list _ a es=>eAk z a||es.isEmpty
 | .ref ks, .ref ds=>y05 ks ds
 |_,_=>false
def z2v:List CK→List D→Bool
 |[],[]=>true
 |c::cs,d::ds=>y94 c d&&z2v cs ds
 |_,_=>false
def rdD (es:List (List D)) (i j:Nat):D:=((es[i]?).bind (·[j]?)).getD .nilp
def dI:D→Int
 | .int _ n=>n
 |_=>0
def dB:D→Bool
 | .bool b=>b
 |_=>false
def dS:D→ByteArray
 | .str s=>s
 |_=>eFk
def dL:D→List (List D)
 | .list _ _ es=>es
 |_=>[]
def dF (z:Nat):D→Bool
 | .list f a es=>f&&(eAk z a||es.isEmpty)
 |_=>false
def dR:D→List (List D)
 | .ref r=>[r]
 |_=>[]
def w4o (es:List (D×D)) (ks:List SK) (ka:Bool) (k:D):Option (Nat×D):=(y7e ks ka k es 0).join
def y41 (es:List (D×D)) (ks:List SK) (ka:Bool) (k:D) (j:Nat):D:=match w4o es ks ka k with
 |some (_,v)=>((z0x v)[j]?).getD .nilp
 |none=> .nilp
mutual
def z8o:D→Bool
 | .list _ _ es=>es.isEmpty
 | .agg ds=>y6n ds
 | .ref _=>false
 |_=>true
def y6n:List D→Bool
 |[]=>true
 |d::l=>z8o d&&y6n l
end
def std:Prim where
 ar:=x6a
 cmp:=z3z
 cvt:=fun k n=>k.wrap n
 nat:=Int.toNat
 ofNat:=fun n=>(n:Int)
 add:=fun a b=>a+b
 sub:=fun a b=>a - b
 mul:=fun a b=>a*b
 leN:=fun a b=>eAz a b
 byte:=fun s i=>((s[i.toNat]?.map fun b=>(b.toNat:Int)).getD 0)
 bEq:=fun a b=>a==b
 len:=fun l=>l.length
 w9r:=fun l=>l.length
 set:=fun l i r=>l.set i r
 app:=fun a b=>a++b
 cut:=fun l a n=>(l.drop a).take n
 strEq:=fun a b=>a.toList==b.toList
 rep:=fun n z=>eAu n z
 splice:=fun l i xs=>l.take i++xs++l.drop (i+xs.length)
 min:=fun a b=>Nat.min a b
 and:=fun a b=>a&&b
 mm:=fun op a b=>match op with| .lss=>if b<a then b else a|_=>if b>a then b else a
 mset:=fun es i k x=>es.set i (k,x)
 madd:=fun es k x=>es++[(k,x)]
 mdel:=fun es i=>es.eraseIdx i
 mlen:=fun es=>es.length
 eqN:=fun a b=>eAk a b
 rowOk:=fun es i ck=>match es[i]? with|some r=>z2v ck r|none=>false
 rdI:=fun es i j=>dI (rdD es i j)
 rdB:=fun es i j=>dB (rdD es i j)
 rdS:=fun es i j=>dS (rdD es i j)
 rdL:=fun es i j=>dL (rdD es i j)
 rdR:=fun es i j=>dR (rdD es i j)
 mOk:=fun es ks ka k a ck=>(z1w k==ka)&&z1k ks (z0x k)&&match y7e ks ka k es 0 with|some none=>true|some (some (_,v))=>(z1w v==a)&&z2v ck (z0x v)|none=>false
 mhas:=fun es ks ka k=>(w4o es ks ka k).isSome
 mpos:=fun es ks ka k=>((w4o es ks ka k).map (·.1)).getD 0
 mI:=fun es ks ka k j=>dI (y41 es ks ka k j)
 mB:=fun es ks ka k j=>dB (y41 es ks ka k j)
 mS:=fun es ks ka k j=>dS (y41 es ks ka k j)
 mL:=fun es ks ka k j=>dL (y41 es ks ka k j)
 mR:=fun es ks ka k j=>dR (y41 es ks ka k j)
 plain:=fun es=>es.all fun r=>r.all z8o
 plainM:=fun es=>es.all fun e=>z8o e.1&&z8o e.2
 slen:=fun s=>s.size
 scut:=fun s a b=>s.extract a b
 scat:=fun a b=>a++b
 schr:=fun n=>Utf8.encode n
 rdF:=fun es i j z=>dF z (rdD es i j)
inductive u6a where
 |arith|divs|bits|shift|comp
def y1h:BinOp→u6a
 | .add| .sub| .mul=> .arith
 | .quo| .rem=> .divs
 | .and| .or| .xor| .andNot=> .bits
 | .shl| .shr=> .shift
 |_=> .comp
structure Res where
 c:Bool
 v:AV
 u:List (Nat×AO)
def z0z:List (Nat×AV)→Nat→AV
 |[],_=> .bot
 |(k,v)::r,t=>bif eAk k t then v else z0z r t
def w75 (env:List (Nat×AV)) (t:Nat) (v:AV):List (Nat×AV):=(t,v)::env
def u0g:List (Nat×AV)→Nat→AV→List (Nat×AV)
 |[],t,v=>[(t,v)]
 |(k,w)::r,t,v=>bif eAk k t then (k,v)::r else (k,w)::u0g r t v
def z0m (env:List (Nat×AV)):Operand→AV
 | .tmp t=>z0z env t
 | .const v=>match u7z v with
  |some d=> .d d
  |none=> .bot
 | .global _=> .bot
 | .func f=> .clo (.func f) [] []
def z06 (env:List (Nat×AV)):List Operand→List AV
 |[]=>[]
 |x::r=>z0m env x::z06 env r
def x2k:List AV→Option (List D)
 |[]=>some []
 | .d x::r=>match x2k r with
  |some l=>some (x::l)
  |none=>none
 |_::_=>none
def toA:List D→List AV
 |[]=>[]
 |x::r=> .d x::toA r
def z68 (agg:Bool) (l:List AV):Option AV:=
 match agg with
 |true=>match x2k l with
  |some ds=>some (.d (.agg ds))
  |none=>some (.agg l)
 |false=>match l with
  |[x]=>some x
  |_=>none
def z52 (agg:Bool) (l:List D):Option AV:=
 match agg with
 |true=>some (.d (.agg l))
 |false=>match l with
  |[x]=>some (.d x)
  |_=>none
def z2j:AV→Option (List AV)
 | .d (.agg l)=>some (toA l)
 | .agg l=>some l
 | .bot=>none
 | .tuple _=>none
 | .perm _=>none
 |x=>some [x]
def w77:AV→Bool
 | .d (.agg _)| .agg _| .bot| .tuple _| .perm _=>false
 |_=>true
def v6o:D→Bool
 | .agg _=>false
 |_=>true
def z7t:List AV→Bool
 |[]=>true
 |x::r=>w77 x&&z7t r
def part {α:Type}:List α→Nat→Nat→Option (List α)
 |_,0,0=>some []
 |x::l,0,n+1=>match part l 0 n with
  |some r=>some (x::r)
  |none=>none
 |_::l,i+1,n=>part l i n
 |[],_,_=>none
def x6l {α:Type}:List α→Nat→List α→Option (List α)
 |l,0,[]=>some l
 |_::l,0,x::xs=>match x6l l 0 xs with
  |some r=>some (x::r)
  |none=>none
 |y::l,i+1,xs=>match x6l l i xs with
  |some r=>some (y::r)
  |none=>none
 |[],_,_=>none
def ok (v:AV):Option Res:=some ⟨true,v,[]⟩
def z8s {α:Type}:List α→Nat→Bool
 |[],0=>true
 |_::l,n+1=>z8s l n
 |_,_=>false
def z2z (ti:TI) (h:List AO) (r:List D) (ra:List AV):AV→Option Res
 | .bptr id off=>match z0e h id with
  | .box cells=>match part cells off ti.size with
   |some l=>(z68 ti.agg l).bind ok
   |none=>none
  | .row _=>bif z8s r ti.size then (z52 ti.agg r).bind ok else none
  |_=>none
 | .ptr id _ off=>match z0e h id with
  | .row _=>match part r off ti.size with
   |some l=>(z52 ti.agg l).bind ok
   |none=>none
  | .arow _=>match part ra off ti.size with
   |some l=>(z68 ti.agg l).bind ok
   |none=>none
  |_=>none
 | .wptr _ _=>bif z8s r ti.size then (z52 ti.agg r).bind ok else none
 | .lptr cells off=>match part cells off ti.size with
  |some l=>(z52 ti.agg l).bind ok
  |none=>none
 |_=>none
def w4a:List D→List (List D)
 |[]=>[]
 |x::l=>[x]::w4a l
def x8u {α:Type}:List α→Nat
 |[]=>0
 |_::l=>x8u l+1
def z5s:List (List D)→List (List AV)
 |[]=>[]
 |r::l=>toA r::z5s l
def z40 (p:Prim) (h:List AO) (r:List D) (ra:List AV) (cells:List AV):AV→Option Res
 | .bptr id off=>match z0e h id with
  | .box a=>match x6l a off cells with
   |some l=>some ⟨true, .bot,[(id, .box l)]⟩
   |none=>none
  | .row es=>match x2k cells,r with
   |some [x],[_]=>some ⟨true, .bot,[(id, .row (p.set es off [x]))]⟩
   |some ds,[_]=>some ⟨p.leN (p.add off (x8u ds)) (p.len es), .bot,[(id, .row (p.splice es off (w4a ds)))]⟩
   |_,_=>none
  |_=>none
 | .ptr id i off=>match z0e h id with
  | .row es=>match x2k cells with
   |some ds=>match x6l r off ds with
    |some l=>some ⟨true, .bot,[(id, .row (p.set es i l))]⟩
    |none=>none
   |none=>match x6l (toA r) off cells with
    |some l=>some ⟨true, .bot,[(id, .arow ((z5s es).set i l))]⟩
    |none=>none
  | .arow es=>match x6l ra off cells with
   |some l=>some ⟨true, .bot,[(id, .arow (es.set i l))]⟩
   |none=>none
  |_=>none
 |_=>none
def z5e (p:Prim) (ti:TI) (h:List AO) (r:List D) (ra:List AV) (a x:AV):Option Res:=
 match z2j x with
 |some cells=>bif eAz 1 ti.size&&(z8s cells ti.size&&z7t cells) then z40 p h r ra cells a else none
 |none=>none
def y8h (place:Nat→Option (Nat×Nat)) (cells:List AV):List (Nat×AV)→Option (List AV)
 |[]=>some cells
 |(i,v)::rest=>match place i,z2j v with
  |some (off,size),some cs=>bif z8s cs size then
    match x6l cells off cs with
    |some l=>y8h place l rest
    |none=>none
   else none
  |_,_=>none
def z2d {α:Type}:List α→Nat→Option α
 |[],_=>none
 |x::_,0=>some x
 |_::r,n+1=>z2d r n
def z95 (ti:TI) (parts:List (Nat×AV)):Option Res:=
 match ti.desc with
 | .struct b=>match y8h (fun i=>(z2d b i).map fun f=>(f.1,f.2.1)) (toA ti.zero) parts with
  |some l=>(z68 true l).bind ok
  |none=>none
 | .arr n a _=>match y8h (fun i=>some (i*a,a)) (toA ti.zero) parts with
  |some l=>(z68 true l).bind ok
  |none=>none
 |_=>none
def x48 {α:Type} (n:Nat):(fuel:Nat)→List α→Option (List (List α))
 |_,[]=>some []
 |0,_::_=>none
 |f+1,l=>match part l 0 n with
  |some x=>(x48 n f (l.drop n)).map (x:: ·)
  |none=>none
def y8p:List (List AV)→Option (List (List D))
 |[]=>some []
 |x::r=>match x2k x,y8p r with
  |some d,some l=>some (d::l)
  |_,_=>none
def w89 {α:Type}:Nat→List α→List α
 |0,_=>[]
 |n+1,l=>l++w89 n l
def w4l (es:List (List AV)):AO:=
 match y8p es with
 |some l=> .row l
 |none=> .arow es
def z2q (ti:TI) (new len:Nat) (parts:List (Nat×AV)):Option Res:=
 match ti.desc with
 | .slc _ a _ _ ez=>bif eAz 1 a&&(eAz (len*a) 1000000) then
   match y8h (fun i=>some (i*a,a)) (toA (w89 len ez)) parts with
   |some l=>bif z7t l then match x48 a len l with
    |some es=>some ⟨true, .slice new a 0 len (some len),[(new,w4l es)]⟩
    |none=>none
    else none
   |none=>none
  else none
 |_=>none
def z29 (ti:TI) (new len:Nat) (parts:List (Nat×AV)) (r:List D):Option Res:=
 match r with
 |[]=>z2q ti new len parts
 |_::_=>match len with
  |0=>match z2q ti new 0 parts,ti.desc with
   |some _, .slc _ z _ _ _=>some ⟨true, .d (.list true z []),[]⟩
   |_,_=>none
  |n+1=>match z2q ti new (n+1) parts with
   |some a=>match a.u,ti.desc with
    |[(_, .row l)], .slc _ z _ _ _=>some ⟨true, .d (.list true z l),[]⟩
    |_,_=>some a
   |none=>none
def y2k (ti:TI) (f:Nat):AV→Option Res
 | .bptr id off=>match ti.desc with
  | .struct fs=>match z2d fs f with
   |some (o,s,_)=>bif eAz 1 s then ok (.bptr id (off+o)) else none
   |none=>none
  |_=>none
 | .ptr id i off=>match ti.desc with
  | .struct fs=>match z2d fs f with
   |some (o,s,_)=>bif eAz 1 s then ok (.ptr id i (off+o)) else none
   |none=>none
  |_=>none
 | .wptr c off=>match ti.desc with
  | .struct fs=>match z2d fs f with
   |some (o,s,_)=>bif eAz 1 s then ok (.wptr c (off+o)) else none
   |none=>none
  |_=>none
 | .lptr c off=>match ti.desc with
  | .struct fs=>match z2d fs f with
   |some (o,s,_)=>bif eAz 1 s then ok (.lptr c (off+o)) else none
   |none=>none
  |_=>none
 |_=>none
def z7l (ti:TI) (f:Nat):AV→Option Res
 | .d (.agg l)=>match ti.desc with
  | .struct fs=>match z2d fs f with
   |some (o,s,a)=>match part l o s with
    |some c=>(z52 a c).bind ok
    |none=>none
   |none=>none
  |_=>none
 | .agg l=>match ti.desc with
  | .struct fs=>match z2d fs f with
   |some (o,s,a)=>match part l o s with
    |some c=>(z68 a c).bind ok
    |none=>none
   |none=>none
  |_=>none
 |_=>none
def z3p (p q:Prim) (ti:TI) (h:List AO) (r:List D):AV→AV→Option Res
 | .d (.list _ z es), .d (.int _ i)=>match ti.desc with
  | .slc _ a _ _ _=>bif eAk z a then some ⟨q.cmp .geq i 0, .lptr r 0,[]⟩ else none
  |_=>none
 | .slice id z off len cap, .d (.int _ i)=>match ti.desc with
  | .slc _ a _ _ _=>bif eAk z a then some ⟨p.cmp .geq i 0&&p.cmp .lss i (p.ofNat len), .ptr id (p.add off (p.nat i)) 0,[]⟩ else none
  |_=>none
 | .bptr id off, .d (.int _ i)=>match ti.desc with
  | .arr n a _=>match z0e h id with
   | .row _=>some ⟨q.cmp .geq i 0&&q.cmp .lss i (q.ofNat n), .bptr id (p.add off (bif eAk a 1 then q.nat i else q.mul (q.nat i) a)),[]⟩
   |_=>some ⟨q.cmp .geq i 0&&q.cmp .lss i (q.ofNat n), .bptr id (off+i.toNat*a),[]⟩
  |_=>none
 | .ptr id k off, .d (.int _ i)=>match ti.desc with
  | .arr n a _=>some ⟨q.cmp .geq i 0&&q.cmp .lss i (q.ofNat n), .ptr id k (off+i.toNat*a),[]⟩
  |_=>none
 | .wptr c off, .d (.int _ i)=>match ti.desc with
  | .arr n a _=>some ⟨q.cmp .geq i 0&&q.cmp .lss i (q.ofNat n), .wptr c (p.add off (bif eAk a 1 then q.nat i else q.mul (q.nat i) a)),[]⟩
  |_=>none
 | .lptr c off, .d (.int _ i)=>match ti.desc with
  | .arr n a _=>some ⟨q.cmp .geq i 0&&q.cmp .lss i (q.ofNat n), .lptr c (off+i.toNat*a),[]⟩
  |_=>none
 |_,_=>none
def z7k (p q:Prim) (ti:TI):AV→AV→Option Res
 | .d (.agg l), .d (.int _ i)=>match ti.desc with
  | .arr n b a=>match part l (i.toNat*b) b with
   |some c=>(z52 a c).bind fun v=>some ⟨q.cmp .geq i 0&&q.cmp .lss i (q.ofNat n),v,[]⟩
   |none=>none
  |_=>none
 | .agg l, .d (.int _ i)=>match ti.desc with
  | .arr n b a=>match part l (i.toNat*b) b with
   |some c=>(z68 a c).bind fun v=>some ⟨q.cmp .geq i 0&&q.cmp .lss i (q.ofNat n),v,[]⟩
   |none=>none
  |_=>none
 | .d (.str s), .d (.int _ i)=>match ti.desc with
  | .str=>some ⟨p.cmp .geq i 0&&p.cmp .lss i (p.ofNat (p.slen s)), .d (.int .u8 (p.byte s i)),[]⟩
  |_=>none
 |_,_=>none
def z1r (p:Prim):List SK→List D→List D→Option Bool
 |[],[],[]=>some true
 | .i::ks, .int k a::x, .int c b::y=>bif k==c then match z1r p ks x y with
   |some r=>some (p.cmp .eql a b&&r)
   |none=>none
  else none
 | .b::ks, .bool a::x, .bool b::y=>match z1r p ks x y with
   |some r=>some (p.bEq a b&&r)
   |none=>none
 | .s::ks, .str a::x, .str b::y=>match z1r p ks x y with
   |some r=>some (p.strEq a b&&r)
   |none=>none
 |_,_,_=>none
def x4s (ti:TI):AV→AV→Option Bool
 | .d .nilf, .d .nilf=>match ti.desc with| .func=>some true|_=>none
 | .d .nilf, .clo _ _ _=>match ti.desc with| .func=>some false|_=>none
 | .clo _ _ _, .d .nilf=>match ti.desc with| .func=>some false|_=>none
 | .d .nilp, .d .nilp=>match ti.desc with| .ptr _=>some true|_=>none
 | .d .nilp, .bptr _ _=>match ti.desc with| .ptr _=>some false|_=>none
 | .bptr _ _, .d .nilp=>match ti.desc with| .ptr _=>some false|_=>none
 | .d .nili, .d .nili=>none
 | .iface _ _, .d .nili=>match ti.desc with| .iface=>some false|_=>none
 | .d .nili, .iface _ _=>match ti.desc with| .iface=>some false|_=>none
 |_,_=>none
def eqA (p:Prim) (ti:TI) (x y:AV):Option Bool:=
 match ti.eqk,x,y with
 |some ks, .d a, .d b=>bif (z1w a==ti.agg)&&(z1w b==ti.agg) then z1r p ks (z0x a) (z0x b) else none
 |_,x,y=>x4s ti x y
def x02 (p:Prim) (ti:TI) (op:BinOp) (x y:AV):Option Res:=
 match x,y with
 | .d (.int k a), .d (.int c b)=>
  match y1h op with
  | .arith=>bif k==c then ok (.d (.int k (p.ar op k a b))) else none
  | .bits=>bif k==c then ok (.d (.int k (p.ar op k a b))) else none
  | .divs=>bif k==c then some ⟨p.cmp .neq b 0, .d (.int k (p.ar op k a b)),[]⟩ else none
  | .shift=>some ⟨p.cmp .geq b 0, .d (.int k (p.ar op k a b)),[]⟩
  | .comp=>bif k==c then ok (.d (.bool (p.cmp op a b))) else none
 | .d (.str a), .d (.str b)=>match op with
  | .eql=>ok (.d (.bool (p.strEq a b)))
  | .neq=>ok (.d (.bool (!p.strEq a b)))
  | .add=>some ⟨p.leN (p.add (p.slen a) (p.slen b)) 1000000, .d (.str (p.scat a b)),[]⟩
  |_=>none
 |x,y=>match op with
  | .eql=>(eqA p ti x y).bind fun b=>ok (.d (.bool b))
  | .neq=>(eqA p ti x y).bind fun b=>ok (.d (.bool (!b)))
  |_=>none
def u0v:Operand→Bool
 | .const (.slice none 0 0)=>true
 |_=>false
def u0u:Operand→Bool
 | .const .nilIface=>true
 |_=>false
def y48 (ti:TI) (op:BinOp) (x:AV):Option Res:=
 match ti.desc,op,x with
 | .iface, .eql, .d .nili=>ok (.d (.bool true))
 | .iface, .neq, .d .nili=>ok (.d (.bool false))
 | .iface, .eql, .iface _ _=>ok (.d (.bool false))
 | .iface, .neq, .iface _ _=>ok (.d (.bool true))
 |_,_,_=>none
def y0x (p:Prim) (ti:TI) (op:BinOp) (x:AV):Option Res:=
 match ti.desc,op,x with
 | .slc .., .eql, .d (.list _ _ es)=>some ⟨p.leN 1 (p.len es), .d (.bool false),[]⟩
 | .slc .., .neq, .d (.list _ _ es)=>some ⟨p.leN 1 (p.len es), .d (.bool true),[]⟩
 | .slc .., .eql, .slice _ _ _ len _=>some ⟨p.leN 1 len, .d (.bool false),[]⟩
 | .slc .., .neq, .slice _ _ _ len _=>some ⟨p.leN 1 len, .d (.bool true),[]⟩
 |_,_,_=>none
def x75 (p:Prim) (op:UnOp):AV→Option Res
 | .d (.int k a)=>match op with
  | .neg=>ok (.d (.int k (p.ar .sub k 0 a)))
  | .xor=>ok (.d (.int k (p.ar .xor k (if k.signed then -1 else k.max) a)))
  |_=>none
 | .d (.bool b)=>match op with
  | .not=>ok (.d (.bool (!b)))
  |_=>none
 |_=>none
def z87 (p:Prim) (a dst:TI):AV→Option Res
 | .d (.int k n)=>match a.desc,dst.desc with
  | .int _, .int b=>ok (.d (.int b (p.cvt b n)))
  | .int _, .str=>ok (.d (.str (p.schr n)))
  |_,_=>none
 | .d (.str s)=>match a.desc,dst.desc with
  | .str, .str=>ok (.d (.str s))
  |_,_=>none
 |_=>none
def w9r (p:Prim) (ti:TI) (h:List AO):AV→Option Res
 | .d (.list _ _ es)=>match ti.desc with
  | .slc ..=>ok (.d (.int .i64 (p.ofNat (p.len es))))
  |_=>none
 | .slice _ _ _ len _=>match ti.desc with
  | .slc ..=>ok (.d (.int .i64 (p.ofNat len)))
  |_=>none
 | .d (.str s)=>match ti.desc with
  | .str=>ok (.d (.int .i64 (p.ofNat (p.slen s))))
  |_=>none
 | .d (.agg _)=>match ti.desc with
  | .arr n _ _=>ok (.d (.int .i64 (p.ofNat n)))
  |_=>none
 | .bptr _ _=>match ti.desc with
  | .ptr (some (n,_))=>ok (.d (.int .i64 (p.ofNat n)))
  |_=>none
 | .d .nilm=>match ti.desc with
  | .map _ _ _=>ok (.d (.int .i64 0))
  |_=>none
 | .map id=>match ti.desc,z0e h id with
  | .map _ _ _, .map es=>ok (.d (.int .i64 (p.ofNat (p.mlen es))))
  |_,_=>none
 |_=>none
inductive Els where
 |d (es:List (List D))
 |a (es:List (List AV))
def z3d (p:Prim) (z:Nat) (h:List AO):AV→Option (Bool×Els)
 | .d (.list _ b es)=>bif eAk z b then some (true, .d es) else match es with
  |[]=>some (true, .d [])
  |_=>none
 | .slice id b off len _=>bif eAk z b then match z0e h id with
  | .row es=>some (p.leN (p.add off len) (p.len es), .d (p.cut es off len))
  | .arow es=>some (p.leN (p.add off len) es.length, .a ((es.drop off).take len))
  |_=>none
 else none
 |_=>none
def w0a:List (List D)→Option (List Int)
 |[]=>some []
 |[.int .u8 n]::l=>match w0a l with
  |some r=>some (n::r)
  |none=>none
 |_=>none
def v90 (a:List Int):ByteArray:=a.foldl (fun r n=>r.push (UInt8.ofNat n.toNat)) eFk
def t1a:TK→Bool
 | .int .u8=>true
 |_=>false
def z62 (p:Prim) (T:TypeId→Option TI) (h:List AO) (a dst:TI) (x:AV):Option Res:=
 match a.desc,dst.desc with
 | .slc e _ _ _ _, .str=>match T e with
  |some b=>bif t1a b.desc then match z3d p 1 h x with
    |some (c, .d es)=>match w0a es with
     |some f=>some ⟨c, .d (.str (v90 f)),[]⟩
     |none=>none
    |_=>none
   else none
  |none=>none
 |_,_=>none
def z7i (p:Prim):AV→Nat
 | .d (.list _ _ es)=>p.len es
 | .slice _ _ _ len _=>len
 |_=>0
def Els.app (p:Prim):Els→Els→AO
 | .d x, .d y=> .row (p.app x y)
 | .d x, .a y=> .arow (z5s x++y)
 | .a x, .d y=> .arow (x++z5s y)
 | .a x, .a y=> .arow (x++y)
def z5f (l:List (List AV)) (i:Nat) (xs:List (List AV)):List (List AV):=l.take i++xs++l.drop (i+xs.length)
def x8e (p:Prim) (o:AO) (i:Nat) (x:Els):Option AO:=
 match o,x with
 | .row es, .d b=>some (.row (p.splice es i b))
 | .row es, .a b=>some (.arow (z5f (z5s es) i b))
 | .arow es, .d b=>some (.arow (z5f es i (z5s b)))
 | .arow es, .a b=>some (.arow (z5f es i b))
 |_,_=>none
def u0z (p:Prim):AO→Nat
 | .row es=>p.len es
 | .arow es=>es.length
 |_=>0
def z3x (p:Prim) (s x:AV):Option Bool:=
 match s with
 | .d (.list full _ _)=>some full
 | .slice _ _ _ len (some c)=>some (p.leN (p.add len (z7i p x)) c)
 |_=>none
def y28:Nat:=1000000
def v4l:List D→Nat→Bool
 |[],_=>false
 |_::_,0=>false
 |_::_,_+1=>true
def z14 (p:Prim) (ti:TI) (h:List AO) (new:Nat) (q:Bool) (r:List D) (s x:AV):Option Res:=
 match ti.desc with
 | .slc _ z g _ _=>bif eAz 1 z&&eAz g 60000 then match z3d p z h x,z3d p z h s with
  |some (b,a),some (cs,es)=>
   match s with
   | .d (.list _ f _)=>match q with
    |true=>bif v4l r f then match es,a with
      | .d e, .d y=>some ⟨p.and b (p.and (p.leN 1 (z7i p x)) (p.leN (p.add (z7i p s) (z7i p x)) y28)), .d (.list false z (p.app e y)),[]⟩
      |_,_=>none
     else some ⟨p.and b (p.and (p.leN 1 (z7i p x)) (p.leN (p.add (z7i p s) (z7i p x)) y28)), .slice new z 0 (p.add (z7i p s) (z7i p x)) none,[(new,Els.app p es a)]⟩
    |false=>none
   | .slice id _ off len none=>some ⟨p.and b (p.and cs (p.and (p.leN 1 (z7i p x)) (p.leN (p.add len (z7i p x)) y28))), .slice new z 0 (p.add len (z7i p x)) none,[(id, .dead),(new,Els.app p es a)]⟩
   | .slice id _ off len (some c)=>match q with
    |true=>match x8e p (z0e h id) (p.add off len) a with
     |some o=>some ⟨p.and b (p.and cs (p.and (p.leN 1 (z7i p x)) (p.leN (p.add off c) (u0z p (z0e h id))))), .slice id z off (p.add len (z7i p x)) (some c),[(id,o)]⟩
     |none=>none
    |false=>some ⟨p.and b (p.and cs (p.and (p.leN 1 (z7i p x)) (p.leN (p.add len (z7i p x)) y28))), .slice new z 0 (p.add len (z7i p x)) none,[(new,Els.app p es a)]⟩
   |_=>none
  |_,_=>none
 else none
 |_=>none
def y6b:AV→Option (Nat×Nat×Nat×Nat)
 | .slice id z off len _=>some (id,z,off,len)
 |_=>none
def x3q:AO→Option (List (List D))
 | .row es=>some es
 |_=>none
def two:List D→Bool
 |[_,_]=>true
 |_=>false
def x68:List (Nat×AO)→Nat→Option AO→Option AO
 |[],_,a=>a
 |(i,o)::r,id,a=>x68 r id (bif eAk i id then some o else a)
def y4l (p:Prim) (r:List D) (res:Res):Res:=
 bif two r then match y6b res.v with
  |some (id,z,off,len)=>match x68 res.u id none with
   |some o=>match x3q o with
    |some es=>⟨p.and res.c (p.leN (p.add off len) (p.len es)), .d (.list false z (p.cut es off len)),res.u++[(id, .dead)]⟩
    |none=>res
   |none=>res
  |none=>res
 else res
def zer:List D→Bool
 |_::_::_=>true
 |_=>false
def x78:AV→Option (Nat×Nat×Nat×Nat×Nat)
 | .slice id z off len (some c)=>some (id,z,off,len,c)
 |_=>none
def t3g:Els→Option (List (List D))
 | .d x=>some x
 | .a _=>none
def y4t (p:Prim) (ti:TI) (h:List AO) (s x:AV):Option Res:=
 match ti.desc with
 | .slc _ z d _ _=>bif eAz 1 z&&eAz d 60000 then
   match x78 s with
   |some (id,_,off,len,c)=>match z3d p z h x with
    |some (e,b)=>match z3d p z h s with
     |some (cs,_)=>match x3q (z0e h id) with
      |some es=>match t3g b with
       |some a=>some ⟨p.and e (p.and cs (p.leN (p.add off c) (p.len es))), .slice id z off (p.add len (z7i p x)) (some c),[(id, .row (p.splice es (p.add off len) a))]⟩
       |none=>none
      |none=>none
     |none=>none
    |none=>none
   |none=>none
  else none
 |_=>none
def z2s (p:Prim) (ti:TI) (h:List AO) (new:Nat) (q:Bool) (r:List D) (s x:AV):Option Res:=
 (match (bif zer r&&q then y4t p ti h s x else none) with
  |some a=>some a
  |none=>z14 p ti h new q r s x).map (y4l p r)
def u2i:List D→Bool
 |[_,_,_,_,_]=>true
 |_=>false
def x52 (p:Prim) (ti:TI) (h:List AO) (s x:AV):Option Res:=
 match ti.desc with
 | .slc _ z a _ _=>bif eAz 1 z&&eAz a 60000 then
   match y6b s with
   |some _=>match z3d p z h x with
    |some (b,_)=>match z3d p z h s with
     |some (cs,_)=>some ⟨p.and b (p.and cs (p.leN (z7i p x) 0)),s,[]⟩
     |none=>none
    |none=>none
   |none=>none
  else none
 |_=>none
def z2r (p:Prim) (ti:TI) (h:List AO) (new:Nat) (q:Bool) (r:List D) (s x:AV):Option Res:=
 bif u2i r then x52 p ti h s x else z2s p ti h new q r s x
def z6o (p:Prim) (ti:TI) (new:Nat) (l c:AV):Option Res:=
 match ti.desc,l,c with
 | .slc _ z a _ ez, .d (.int _ l), .d (.int _ c)=>bif eAz 1 z&&(eAz a 60000&&z7t (toA ez)) then
   some ⟨p.and (p.cmp .geq l 0) (p.and (p.cmp .leq l c) (p.cmp .leq c 1000000)), .slice new z 0 (p.nat l) (some (p.nat c)),[(new, .row (p.rep (p.nat c) ez))]⟩
  else none
 |_,_,_=>none
def v2y:Option AV→Option (Option Int)
 |none=>some none
 |some (.d (.int _ n))=>some (some n)
 |_=>none
def z4w (x:Option Int) (d:Int):Int:=
 match x with
 |some n=>n
 |none=>d
def v4b (p:Prim) (x:Option Nat) (n:Nat):Option Nat:=
 match x with
 |some c=>some (p.sub c n)
 |none=>none
def v0g (ti:TI):AV→AV
 | .d (.list f z es)=>match ti.desc with
  | .slc _ a _ _ _=>bif eAk z 0 then match es with
    |[]=> .d (.list f a [])
    |_::_=> .d (.list f z es)
   else .d (.list f z es)
  |_=> .d (.list f z es)
 |x=>x
def z61 (p:Prim) (ti:TI) (h:List AO) (r:List D) (x:AV) (a b mx:Option AV):Option Res:=
 match v2y a,v2y b,v2y mx with
 |some a,some b,some mx=>
  match x with
  | .d (.list full z es)=>match ti.desc with
   | .slc _ e _ _ _=>bif eAk z e then match mx with
    |none=>
     let h:=z4w b (p.ofNat (p.len es))
     let l:=z4w a 0
     some ⟨p.and (p.cmp .geq l 0) (p.and (p.cmp .leq l h) (p.cmp .leq h (p.ofNat (p.len es)))), .d (.list (p.and full (p.cmp .eql h (p.ofNat (p.len es)))) z (p.cut es (p.nat l) (p.sub (p.nat h) (p.nat l)))),[]⟩
    |some m=>match b with
     |some h=>
      let l:=z4w a 0
      some ⟨p.and (p.cmp .geq l 0) (p.and (p.cmp .leq l h) (p.and (p.cmp .leq h m) (p.cmp .leq m (p.ofNat (p.len es))))), .d (.list (p.cmp .eql h m) z (p.cut es (p.nat l) (p.sub (p.nat h) (p.nat l)))),[]⟩
     |none=>none
    else none
   |_=>none
  | .slice id z off len cap=>match ti.desc with
   | .slc _ e _ _ _=>bif eAk z e then match mx with
    |none=>
     let h:=z4w b (p.ofNat len)
     let l:=z4w a 0
     some ⟨p.and (p.cmp .geq l 0) (p.and (p.cmp .leq l h) (p.cmp .leq h (p.ofNat len))), .slice id z (p.add off (p.nat l)) (p.sub (p.nat h) (p.nat l)) (v4b p cap (p.nat l)),[]⟩
    |some m=>match b with
     |some h=>
      let l:=z4w a 0
      some ⟨p.and (p.cmp .geq l 0) (p.and (p.cmp .leq l h) (p.and (p.cmp .leq h m) (p.cmp .leq m (p.ofNat len)))), .slice id z (p.add off (p.nat l)) (p.sub (p.nat h) (p.nat l)) (some (p.sub (p.nat m) (p.nat l))),[]⟩
     |none=>none
    else none
   |_=>none
  | .bptr id off=>match ti.desc,a,b,mx with
   | .arr n c _,none,none,none=>match z0e h id,r with
    | .row _,[_]=>bif eAk c 1 then some ⟨true, .slice id 1 off n (some n),[]⟩ else none
    |_,_=>none
   | .arr n c _,a,b,none=>match z0e h id,r with
    | .row _,[_]=>bif eAk c 1 then
      let h:=z4w b (p.ofNat n)
      let l:=z4w a 0
      some ⟨p.and (p.cmp .geq l 0) (p.and (p.cmp .leq l h) (p.cmp .leq h (p.ofNat n))), .slice id 1 (p.add off (p.nat l)) (p.sub (p.nat h) (p.nat l)) (some (p.sub n (p.nat l))),[]⟩ else none
    |_,_=>none
   |_,_,_,_=>none
  | .d (.str s)=>match ti.desc,mx with
   | .str,none=>
    let h:=z4w b (p.ofNat (p.slen s))
    let l:=z4w a 0
    some ⟨p.and (p.cmp .geq l 0) (p.and (p.cmp .leq l h) (p.cmp .leq h (p.ofNat (p.slen s)))), .d (.str (p.scut s (p.nat l) (p.nat h))),[]⟩
   |_,_=>none
  |_=>none
 |_,_,_=>none
def z7m (p:Prim) (ti:TI) (h:List AO) (d s:AV):Option Res:=
 match ti.desc with
 | .slc _ z _ _ _=>bif eAz 1 z then match z3d p z h s,d with
  |some (c, .d b), .slice id a off len _=>bif eAk z a then match z0e h id with
   | .row es=>some ⟨p.and c (p.and (p.leN (z7i p s) len) (p.leN (p.add off len) (p.len es))), .d (.int .i64 (p.ofNat (z7i p s))),[(id, .row (p.splice es off b))]⟩
   |_=>none
   else none
  |some (c, .d _), .d (.list _ _ [])=>some ⟨c, .d (.int .i64 0),[]⟩
  |_,_=>none
  else none
 |_=>none
def z56 (p:Prim) (ti:TI) (h:List AO) (x:AV):Option Res:=
 match ti.desc with
 | .slc _ z _ _ ez=>bif eAz 1 z&&z7t (toA ez) then match x with
  | .slice id a off len _=>bif eAk z a then match z0e h id with
   | .row es=>some ⟨p.leN (p.add off len) (p.len es), .tuple [],[(id, .row (p.splice es off (p.rep len ez)))]⟩
   |_=>none
   else none
  | .d (.list _ _ [])=>ok (.tuple [])
  |_=>none
  else none
 |_=>none
def y3j (p:Prim) (op:BinOp):List AV→Option Res
 |[.d (.int k a), .d (.int _ b)]=>ok (.d (.int k (p.mm op a b)))
 |[.d (.int k a), .d (.int _ b), .d (.int _ c)]=>ok (.d (.int k (p.mm op (p.mm op a b) c)))
 |[.d (.int k a)]=>ok (.d (.int k a))
 |_=>none
def x0y (c a b:AV):Option Res:=
 match c with
 | .d (.bool true)=>ok a
 | .d (.bool false)=>ok b
 |_=>none
def y1q (x:AV) (i:Nat):Option Res:=
 match x with
 | .tuple a=>(z2d a i).bind ok
 |_=>none
def y2n (k:IntKind):List D→Bool
 |[]=>true
 | .int a (.ofNat 0)::l=>(a==k)&&y2n k l
 |_=>false
def w21 (ti:TI):Option IntKind:=
 bif eAz 20 ti.size then match ti.zero with
  | .int k _::_=>bif y2n k ti.zero then some k else none
  |_=>none
 else none
def y2m (p:Prim) (ti:TI) (new:Nat):Option Res:=
 bif eAz 1 ti.size then match w21 ti with
  |some k=>some ⟨true, .bptr new 0,[(new, .row (p.rep ti.size [.int k 0]))]⟩
  |none=>some ⟨true, .bptr new 0,[(new, .box (toA ti.zero))]⟩
 else none
def y63:List D→Bool
 |[]=>true
 |x::l=>v6o x&&y63 l
def x01 (ti:TI) (new:Nat) (x:AV):Option Res:=
 bif eAz 1 ti.size then match z2j x with
  |some l=>bif z8s l ti.size then match w21 ti with
    |some _=>match x2k l with
     |some ds=>bif y63 ds then some ⟨true, .bptr new 0,[(new, .row (w4a ds))]⟩ else none
     |none=>none
    |none=>some ⟨true, .bptr new 0,[(new, .box l)]⟩
   else none
  |none=>none
 else none
def x50:AV→Option Res
 | .bptr id off=>ok (.bptr id off)
 | .ptr id i off=>ok (.ptr id i off)
 | .wptr r off=>ok (.wptr r off)
 | .lptr r off=>ok (.lptr r off)
 |_=>none
def y22 (env:List (Nat×AV)):List (Nat×Operand)→List (Nat×AV)
 |[]=>[]
 |(i,x)::r=>(i,z0m env x)::y22 env r
def z9z (env:List (Nat×AV)):Option Operand→Option AV
 |none=>none
 |some x=>some (z0m env x)
def z6c (p:Prim) (ks:List SK) (ka:Bool) (k:D):List (D×D)→Nat→Option (Option (Nat×D))
 |[],_=>some none
 |(a,v)::r,i=>bif (z1w k==ka)&&(z1w a==ka) then match z1r p ks (z0x k) (z0x a) with
   |some true=>some (some (i,v))
   |some false=>z6c p ks ka k r (i+1)
   |none=>none
  else none
def z34 (p:Prim) (ti:TI) (h:List AO) (m k:AV):Option (Option (Nat×D)):=
 match ti.desc,k with
 | .map ks ka _, .d k=>bif (z1w k==ka)&&z1k ks (z0x k) then match m with
  | .d .nilm=>some none
  | .map id=>match z0e h id with
   | .map es=>z6c p ks ka k es 0
   |_=>none
  |_=>none
  else none
 |_,_=>none
def z5t (ti:TI) (q:Bool) (r:List D) (a:Bool):Option Res:=
 match ti.desc with
 | .map _ _ ez=>match q,r with
  |true,[_,v]=>ok (bif a then .tuple [.d v, .d (.bool true)] else .d v)
  |false,_=>ok (bif a then .tuple [.d ez, .d (.bool false)] else .d ez)
  |_,_=>none
 |_=>none
def z47 (p:Prim) (ti:TI) (h:List AO) (q:Bool) (r:List D) (m k x:AV):Option Res:=
 match ti.desc,m,k,x with
 | .map _ _ _, .map id, .d k, .d x=>match z0e h id with
  | .map es=>match q,r with
   |true,[.int _ i,_]=>some ⟨true, .bot,[(id, .map (p.mset es (p.nat i) k x))]⟩
   |false,_=>some ⟨true, .bot,[(id, .map (p.madd es k x))]⟩
   |_,_=>none
  |_=>none
 |_,_,_,_=>none
def z48 (p:Prim) (ti:TI) (h:List AO) (q:Bool) (r:List D) (m:AV):Option Res:=
 match ti.desc,m with
 | .map _ _ _, .map id=>match z0e h id with
  | .map es=>match q,r with
   |true,[.int _ i,_]=>some ⟨true, .tuple [],[(id, .map (p.mdel es (p.nat i)))]⟩
   |false,_=>some ⟨true, .tuple [],[(id, .map es)]⟩
   |_,_=>none
  |_=>none
 |_,_=>none
def z84 (new:Nat) (hint:Option AV):Option Res:=
 match hint with
 |none=>some ⟨true, .map new,[(new, .map [])]⟩
 |_=>none
def z1q (p:Prim) (T:TypeId→Option TI) (h:List AO) (new:Nat) (q:Bool) (r:List D) (b:Builtin) (ts:List TypeId) (xs:List AV):Option Res:=
 match b,ts,xs with
 | .len,[t],[x]=>match T t with
  |some ti=>w9r p ti h x
  |none=>none
 | .append,[t,c],[s,x]=>match T t,T c with
  |some ti,some a=>match a.desc with
   | .slc _ _ _ _ _=>z2r p ti h new q r s x
   |_=>none
  |_,_=>none
 | .copy,t::_,[d,x]=>match T t with
  |some ti=>z7m p ti h d x
  |none=>none
 | .delete,t::_,[m,_]=>match T t with
  |some ti=>z48 p ti h q r m
  |none=>none
 | .clear,t::_,[x]=>match T t with
  |some ti=>z56 p ti h x
  |none=>none
 | .min,_,xs=>y3j p .lss xs
 | .max,_,xs=>y3j p .gtr xs
 |_,_,_=>none
def z93:AV→AV
 | .d (.ref r)=> .lptr r 0
 |x=>x
def pOf (p:Prim):Operand→Prim
 | .const _=>std
 |_=>p
def z6t (G:Nat→Option (List D)) (env:List (Nat×AV)):Operand→AV
 | .global g=>match G g with
  |some cells=> .lptr cells 0
  |none=> .bot
 |x=>z0m env x
def z96 (T:TypeId→Option TI):List Oper→List (Nat×AV)→List (Nat×List D)→List (Nat×List D)
 |[],_,acc=>acc
 |o::l,env,acc=>match o.op,o.dst with
  | .build t a,some d=>match T t with
   |some ti=>match z95 ti (y22 env a.toList) with
    |some res=>z96 T l ((d,res.v)::env) acc
    |none=>z96 T l env acc
   |none=>z96 T l env acc
  | .store _ (.global g) x,_=>match z0m env x with
   | .d (.agg cells)=>z96 T l env (bif y6n cells then (g,cells)::acc else acc)
   | .d d=>z96 T l env (bif z8o d then (g,[d])::acc else acc)
   |_=>z96 T l env acc
  |_,_=>z96 T l env acc
def w3q (T:TypeId→Option TI):Code→List (Nat×List D)→List (Nat×List D)
 | .seq a b,acc=>w3q T b (w3q T a acc)
 | .region _ ops _,acc=>z96 T ops.toList [] acc
 | .block _ c,acc=>w3q T c acc
 | .scope c,acc=>w3q T c acc
 |_,acc=>acc
def v6l:List (Nat×List D)→Nat→Option (List D)
 |[],_=>none
 |(g,c)::l,h=>bif eAk g h then some c else v6l l h
def w26 (P:Program):List (Nat×List D):=
 match P.funcs.back? with
 |some f=>match f.body with
  |some c=>w3q (v9e P) c []
  |none=>[]
 |none=>[]
def y12 (P:Program) (g:Nat):Option (List D):=v6l (w26 P) g
def z0t (p:Prim) (T:TypeId→Option TI) (G:Nat→Option (List D)) (env:List (Nat×AV)) (h:List AO) (new:Nat) (q:Bool) (r:List D) (ra:List AV) (op:Op):Option Res:=
 match op with
 | .move x=>ok (z0m env x)
 | .assign x=>ok (z0m env x)
 | .pick c a b=>x0y (z0m env c) (z0m env a) (z0m env b)
 | .alloc t=>match T t with
  |some ti=>y2m p ti new
  |none=>none
 | .box t x=>match T t with
  |some ti=>x01 ti new (z0m env x)
  |none=>none
 | .build t g=>match T t with
  |some ti=>z95 ti (y22 env g.toList)
  |none=>none
 | .buildSlice t len g=>match T t with
  |some ti=>z29 ti new len (y22 env g.toList) r
  |none=>none
 | .load t a=>match T t with
  |some ti=>z2z ti h r ra (z93 (z6t G env a))
  |none=>none
 | .store t a x=>match T t with
  |some ti=>z5e p ti h r ra (z0m env a) (z0m env x)
  |none=>none
 | .nilCheck x=>x50 (z93 (z0m env x))
 | .binOp op t x y _=>match T t with
  |some ti=>bif u0v y then y0x p ti op (z0m env x) else bif u0u y then y48 ti op (z0m env x) else x02 p ti op (z0m env x) (z0m env y)
  |none=>none
 | .unOp op _ x=>x75 p op (z0m env x)
 | .convert s t x=>match T s,T t with
  |some d,some j=>match z87 p d j (z0m env x) with
   |some e=>some e
   |none=>z62 p T h d j (z0m env x)
  |_,_=>none
 | .makeFunc fn f c=>ok (.clo fn (z06 env f.toList) (z06 env c.toList))
 | .makeSlice t l c=>match T t with
  |some ti=>z6o p ti new (z0m env l) (z0m env c)
  |none=>none
 | .slice t x v w u=>match T t with
  |some ti=>z61 p ti h r (v0g ti (z0m env x)) (z9z env v) (z9z env w) (z9z env u)
  |none=>none
 | .fieldAddr t x f=>match T t with
  |some ti=>y2k ti f (z93 (z6t G env x))
  |none=>none
 | .field t x f=>match T t with
  |some ti=>z7l ti f (z0m env x)
  |none=>none
 | .indexAddr t x i=>match T t with
  |some ti=>z3p p (pOf p i) ti h r (z6t G env x) (z0m env i)
  |none=>none
 | .index t x i=>match T t with
  |some ti=>z7k p (pOf p i) ti (z0m env x) (z0m env i)
  |none=>none
 | .extract x i=>y1q (z0m env x) i
 | .call ⟨.builtin b,args,d⟩=>z1q p T h new q r b d.toList (z06 env args.toList)
 | .makeMap t n=>match T t with
  |some ti=>z84 new (z9z env n)
  |none=>none
 | .lookup t m k o=>match T t with
  |some ti=>match ti.desc with
   | .map _ _ _=>z5t ti q r o
   |_=>none
  |none=>none
 | .mapUpdate t m k x=>match T t with
  |some ti=>z47 p ti h q r (z0m env m) (z0m env k) (z0m env x)
  |none=>none
 |_=>none
inductive x7u where
 |none
 |d (es:List (List D)) (i:Nat)
 |n (es:List (List D)) (i n:Nat)
 |a (es:List (List AV)) (i:Nat)
 |b (x:Bool)
 |m (x:Option (Option (Nat×D)))
def z6h (h:List AO) (n:Nat):AV→x7u
 | .bptr id off=>match z0e h id with
  | .row es=> .n es off n
  |_=> .none
 | .wptr es off=> .n es off n
 | .ptr id i _=>match z0e h id with
  | .row es=> .d es i
  | .arow es=> .a es i
  |_=> .none
 |_=> .none
def z4x (h:List AO):AV→x7u
 | .bptr id off=>match z0e h id with
  | .row es=> .n es off 1
  |_=> .none
 |_=> .none
def u8n (T:TypeId→Option TI) (t:TypeId):Nat:=
 match T t with
 |some ti=>ti.size
 |none=>0
def w23 (p:Prim):AV→AV→x7u
 | .d (.list _ _ es), .d (.int _ i)=> .d es (p.nat i)
 |_,_=> .none
def w24 (x:Option Bool):x7u:=
 match x with
 |some b=> .b b
 |none=> .none
def y2f (p:Prim) (T:TypeId→Option TI) (t:TypeId) (h:List AO) (m k:AV):x7u:=
 match T t with
 |some ti=> .m (z34 p ti h m k)
 |none=> .m none
def z1b (p:Prim) (T:TypeId→Option TI) (env:List (Nat×AV)) (h:List AO) (op:Op):x7u:=
 match op with
 | .load t a=>z6h h (u8n T t) (z93 (z0m env a))
 | .store _ a _=>z6h h 1 (z0m env a)
 | .slice _ x _ _ _=>z4x h (z0m env x)
 | .indexAddr _ x i=>w23 p (z0m env x) (z0m env i)
 | .call ⟨.builtin .append,args,_⟩=>match z06 env args.toList with
  |[s,x]=>w24 (z3x p s x)
  |_=> .none
 | .call ⟨.builtin .delete,args,b⟩=>match b.toList,z06 env args.toList with
  |t::_,[m,k]=>y2f p T t h m k
  |_,_=> .m none
 | .lookup t m k _=>y2f p T t h (z0m env m) (z0m env k)
 | .mapUpdate t m k _=>y2f p T t h (z0m env m) (z0m env k)
 |_=> .none
def y4d (es:List (List D)) (i:Nat) (r:List D):Prop:=∀ (j:Nat) (x:D),r[j]?=some x→w7m es (i+j) [x]
def x7u.ok (q:Bool) (r:List D) (ra:List AV):x7u→Prop
 | .none=>True
 | .d es i=>w7m es i r
 | .n es i _=>y4d es i r
 | .a es i=>es[i]?=some ra
 | .b x=>x=q
 | .m x=>(x=some Option.none∧q=false)∨∃ i v c,x=some (some (i,v))∧t4y v c∧q=true∧r=[.int .i64 (i:Nat),c]
end Go.Am
end
section
namespace Go.Am
variable {P:Program}
def v9z:Code→Bool→Option Code
 | .seq a _,false=>some a
 | .seq _ b,true=>some b
 | .cond _ a _,false=>some a
 | .cond _ _ b,true=>some b
 | .block _ c,false=>some c
 | .loop c,false=>some c
 | .scope c,false=>some c
 | .rangeFunc _ _ a _,false=>some a
 | .rangeFunc _ _ _ b,true=>some b
 |_,_=>none
def v4i (P:Program) (g:Nat):Option Code:=(P.funcs[g]?).bind (·.body)
def z05 (P:Program) (g:Nat):List Bool→Option Code
 |[]=>v4i P g
 |b::l=>(z05 P g l).bind (v9z · b)
def z4e (en:Array MapEntry) (a:Nat):Prop:=(∀ x∈en.toList,x.born<a)∧(en.toList.map (·.born)).Nodup
theorem z4e.empty (a:Nat):z4e #[] a:=⟨by simp,by simp⟩
theorem z4e.push {en:Array MapEntry} {c:Nat} (h:z4e en c) (k v:Value):z4e (en.push { key:=k,val:=v,born:=c }) (c+1):=by
 refine ⟨fun x d=>?_,?_⟩
 ·simp only [Array.toList_push,eBx,eBn] at d
  rcases d with d|rfl
  ·exact Nat.lt_succ_of_lt (h.1 x d)
  ·exact Nat.lt_succ_self _
 ·simp only [Array.toList_push,List.map_append,eFs,List.map_nil]
  refine List.nodup_append.2 ⟨h.2,by simp,fun a f b e=>?_⟩
  obtain ⟨x,d,rfl⟩:=eBq.1 f
  simp only [eBn] at e
  subst e
  exact Nat.ne_of_lt (h.1 x d)
theorem z4e.modify {en:Array MapEntry} {a:Nat} (h:z4e en a) (i:Nat) (k v:Value):z4e (en.modify i fun e=>{ key:=k,val:=v,born:=e.born }) a:=by
 have c:(en.modify i fun e=>{ key:=k,val:=v,born:=e.born }).toList.map (·.born)=en.toList.map (·.born):=by
  apply eCj
  intro j
  simp only [eAj,eAt,eDt]
  split
  ·rename_i b; subst b; cases en[i]?<;>rfl
  ·rfl
 refine ⟨fun x f=>?_,by rw [c]; exact h.2⟩
 have:x.born∈en.toList.map (·.born):=by rw [←c]; exact eBq.2 ⟨x,f,rfl⟩
 obtain ⟨y,d,e⟩:=eBq.1 this
 rw [←e]; exact h.1 y d
theorem z4e.erase {en:Array MapEntry} {a:Nat} (h:z4e en a) (i:Nat):z4e (en.eraseIdxIfInBounds i) a:=by
 have d:(en.eraseIdxIfInBounds i).toList=en.toList.eraseIdx i:=by
  unfold Array.eraseIdxIfInBounds
  split
  ·simp
  ·rename_i b; rw [List.eraseIdx_of_length_le (by simpa using b)]
 refine ⟨fun x c=>h.1 x ?_,?_⟩
 ·rw [d] at c; exact List.mem_of_mem_eraseIdx c
 ·rw [d]; exact h.2.sublist ((List.eraseIdx_sublist _ _).map _)
def z1e (P:Program) (ρ:Rho) (O:Nat→Prop) (w:World) (L:Loc):AO→Prop
 | .dead=>True
 | .box cells=>L.base=0∧∃ (c:Array Value) (t:TypeId),w.heap[L.blk]?=some (.cells c t (0,0))∧∀ (j:Nat) (x:AV),cells[j]?=some x→∃ v:Value,c[L.base+j]?=some v∧z0q ρ O w x v
 | .row es=>0<L.esz∧∃ (c:Array Value) (t:TypeId),w.heap[L.blk]?=some (.cells c t (0,0))∧(∀ (i:Nat) (r:List D),es[i]?=some r→r.length=L.esz)∧
   ∀ (i:Nat) (r:List D) (j:Nat) (x:D),es[i]?=some r→r[j]?=some x→∃ v:Value,c[L.base+i*L.esz+j]?=some v∧v.oneCell'=true∧z1m O w x v
 | .arow es=>0<L.esz∧∃ (c:Array Value) (t:TypeId),w.heap[L.blk]?=some (.cells c t (0,0))∧(∀ (i:Nat) (r:List AV),es[i]?=some r→r.length=L.esz)∧
   ∀ (i:Nat) (r:List AV) (j:Nat) (x:AV),es[i]?=some r→r[j]?=some x→∃ v:Value,c[L.base+i*L.esz+j]?=some v∧v.oneCell'=true∧z0q ρ O w x v
 | .map es=>∃ (en:Array MapEntry) (a:Nat),w.heap[L.blk]?=some (.map en a)∧(en.size=es.length∧z4e en a)∧
   ∀ (i:Nat) (k x:D),es[i]?=some (k,x)→∃ e:MapEntry,en[i]?=some e∧z1m O w k e.key∧z1m O w x e.val
 | .loop st h g pos nt env=>∃ (x:Operand) (d:Array Tmp) (b body:Code),z05 P g pos=some (.rangeFunc x d b body)∧∃ (tm:Array Value) (ds:Nat) (f:FuncId),w.heap[L.blk]?=some (.loop { state:=st,pending:=h,fn:=f,tmps:=tm,params:=d,assign:=b,body:=body,defers:=ds })∧
   tm.size=nt∧∀ t,z0q ρ O w (z0z env t) (tm.getD t undef)
def y1f (P : Program) (g : Nat) : Option Bool :=
 if P.globalNamed "internal/bytealg.MaxLen" = some g then some true
 else if P.globalNamed "strconv.ErrSyntax" = some g ∨ P.globalNamed "strconv.ErrRange" = some g then some false else none
def u5z:Bool→Value→Prop
 |true,v=>∃ n,v= .int .i64 n
 |false,v=>v= .nilIface∨∃ t p,v= .iface t p
structure GL (P:Program) (O:Nat→Prop) (w:World):Prop where
 lay:∀ (g:Nat) (cells:List D),y12 P g=some cells→g<w.heap.size∧¬ O g∧z1c w g=some cells.length∧
  ∀ (k:Nat) (x:D),cells[k]?=some x→∃ v,w.cell? ⟨g,k,none⟩=some v∧∀ (O':Nat→Prop) (w':World),z1m O' w' x v
 shp:∀ (g:Nat) (b:Bool),y1f P g=some b→g<w.heap.size∧¬ O g∧∃ v,w.cell? ⟨g,0,none⟩=some v∧u5z b v
theorem GL.keep {O O':Nat→Prop} {w w':World} (k:z5d O O' w w') (h:GL P O w):GL P O' w' where
 lay:=fun g cells hg=>by
  obtain ⟨a,b,s,c⟩:=h.lay g cells hg
  refine ⟨eBc a k.size,fun ho=>b (k.own g a ho),k.shape _ _ s,fun j x hx=>?_⟩
  obtain ⟨v,hv,hd⟩:=c j x hx
  exact ⟨v,by rw [z2o (w:=w) (a:=⟨g,j,none⟩) (k.frame g a b)]; exact hv,hd⟩
 shp:=fun g b hg=>by
  obtain ⟨a,b,v,hv,hs⟩:=h.shp g b hg
  exact ⟨eBc a k.size,fun ho=>b (k.own g a ho),v,by rw [z2o (w:=w) (a:=⟨g,0,none⟩) (k.frame g a b)]; exact hv,hs⟩
theorem GL.none {O:Nat→Prop} {w:World} (h:w26 P=[]) (h2:∀ g,y1f P g=Option.none):GL P O w where
 lay:=fun g cells hg=>by
  unfold y12 at hg
  rw [h] at hg
  cases hg
 shp:=fun g b hg=>by rw [h2 g] at hg; cases hg
theorem GL.sub {O O':Nat→Prop} {w:World} (hs:∀ b,O' b→O b) (h:GL P O w):GL P O' w where
 lay:=fun g cells hg=>by
  obtain ⟨a,b,c⟩:=h.lay g cells hg
  exact ⟨a,fun ho=>b (hs g ho),c⟩
 shp:=fun g b hg=>by
  obtain ⟨a,b,c⟩:=h.shp g b hg
  exact ⟨a,fun ho=>b (hs g ho),c⟩
structure z0b (P:Program) (ρ:Rho) (h:List AO) (w:World):Prop where
 obj:∀ id L,ρ id=some L→L.blk<w.heap.size∧z1e P ρ (z0f ρ h) w L (z0e h id)
 inj:∀ id id' L L',ρ id=some L→ρ id'=some L'→(z0e h id).live=true→(z0e h id').live=true→L.blk=L'.blk→id=id'
 fr:∀ b,ρ.fr b→b<w.heap.size
 sep:∀ id L,ρ id=some L→(z0e h id).live=true→¬ ρ.fr L.blk
 gl:GL P (z0f ρ h) w
theorem z1e.keep {ρ ρ':Rho} {O O':Nat→Prop} {w w':World} (k:z5d O O' w w') (u:∀ id L,ρ id=some L→ρ' id=some L) {L:Loc} {o:AO}
  (p:w'.heap[L.blk]?=w.heap[L.blk]?) (h:z1e P ρ O w L o):z1e P ρ' O' w' L o:=by
 cases o with
 |dead=>trivial
 |box cells=>
  obtain ⟨B,c,t,b,a⟩:=h
  refine ⟨B,c,t,p▸b,fun j x d=>?_⟩
  obtain ⟨v,m,n⟩:=a j x d
  exact ⟨v,m,n.keep k u⟩
 |row es=>
  obtain ⟨y,c,t,b,l,a⟩:=h
  refine ⟨y,c,t,p▸b,l,fun i r j x z d=>?_⟩
  obtain ⟨v,m,q,n⟩:=a i r j x z d
  exact ⟨v,m,q,n.keep k⟩
 |arow es=>
  obtain ⟨y,c,t,b,l,a⟩:=h
  refine ⟨y,c,t,p▸b,l,fun i r j x z d=>?_⟩
  obtain ⟨v,m,q,n⟩:=a i r j x z d
  exact ⟨v,m,q,n.keep k u⟩
 |map es=>
  obtain ⟨I,C,b,l,a⟩:=h
  refine ⟨I,C,p▸b,l,fun i G x d=>?_⟩
  obtain ⟨e,he,q,H⟩:=a i G x d
  exact ⟨e,he,q.keep k,H.keep k⟩
 |loop st J g pos nt env=>
  obtain ⟨x,F,E,s,A,tm,ds,f,b,l,a⟩:=h
  exact ⟨x,F,E,s,A,tm,ds,f,p▸b,l,fun t=>(a t).keep k u⟩
structure Ext (S:Nat→Prop) (ρ:Rho) (h:List AO) (w:World) (ρ':Rho) (h':List AO) (w':World):Prop where
 os:w'.os=w.os
 tape:w'.tape=w.tape
 output:w'.output=w.output
 keep:z5d (z0f ρ h) (z0f ρ' h') w w'
 rho:∀ id,S id→ρ' id=ρ id
 fr:ρ'.fr=ρ.fr
 frs:∀ b,ρ.fr b→w'.heap[b]?=w.heap[b]?
theorem Ext.refl (S:Nat→Prop) (ρ:Rho) (h:List AO) (w:World):Ext S ρ h w ρ h w:=⟨rfl,rfl,rfl,z5d.refl _ _,fun _ _=>rfl,rfl,fun _ _=>rfl⟩
theorem z5d.trans {O O' O'':Nat→Prop} {w w' w'':World} (a:z5d O O' w w') (b:z5d O' O'' w' w''):z5d O O'' w w'' where
 size:=eCt a.size b.size
 frame:=fun k hk ho=>by
  rw [b.frame k (eBc hk a.size) (fun h=>ho (a.own k hk h))]
  exact a.frame k hk ho
 own:=fun k hk h=>a.own k hk (b.own k (eBc hk a.size) h)
 shape:=fun k n h=>b.shape _ _ (a.shape _ _ h)
 drawn:=z0v.trans a.drawn b.drawn
theorem Ext.trans {S:Nat→Prop} {ρ ρ' c:Rho} {h h' e:List AO} {w w' d:World} (a:Ext S ρ h w ρ' h' w') (b:Ext S ρ' h' w' c e d):Ext S ρ h w c e d:=
 ⟨b.os.trans a.os,b.tape.trans a.tape,b.output.trans a.output,a.keep.trans b.keep,fun id f=>(b.rho id f).trans (a.rho id f),b.fr.trans a.fr,
  fun k g=>(b.frs k (by rw [a.fr]; exact g)).trans (a.frs k g)⟩
theorem Ext.mono {S S':Nat→Prop} {ρ ρ':Rho} {h h':List AO} {w w':World} (b:∀ id,S' id→S id) (a:Ext S ρ h w ρ' h' w'):Ext S' ρ h w ρ' h' w':=
 ⟨a.os,a.tape,a.output,a.keep,fun id h=>a.rho id (b id h),a.fr,a.frs⟩
theorem Ext.drawn (S:Nat→Prop) (ρ:Rho) (h:List AO) (w:World) (n:Nat) (a:z0v w.drawn n):Ext S ρ h w ρ h { w with drawn:=n }:=
 ⟨rfl,rfl,rfl,⟨eAp _,fun _ _ _=>rfl,fun _ _ h=>h,fun _ _ h=>h,a⟩,fun _ _=>rfl,rfl,fun _ _=>rfl⟩
theorem z0b.of_keep {ρ:Rho} {h:List AO} {w w':World} (hr:z0b P ρ h w) (k:z5d (z0f ρ h) (z0f ρ h) w w') (hb:∀ b,z0f ρ h b→w'.heap[b]?=w.heap[b]?):z0b P ρ h w' where
 obj:=fun id L hL=>by
  obtain ⟨h1,h2⟩:=hr.obj id L hL
  refine ⟨eBc h1 k.size,?_⟩
  by_cases hl:(z0e h id).live=true
  ·exact h2.keep k (fun _ _ h=>h) (hb _ (.inr ⟨id,L,hL,hl,rfl⟩))
  ·cases ho:z0e h id<;>simp_all [AO.live,z1e]
 inj:=hr.inj
 fr:=fun b hf=>eBc (hr.fr b hf) k.size
 sep:=hr.sep
 gl:=hr.gl.keep k
theorem z0b.drawn {ρ:Rho} {h:List AO} {w:World} (a:z0b P ρ h w) (n:Nat) (b:z0v w.drawn n):z0b P ρ h { w with drawn:=n }:=
 a.of_keep (Ext.drawn (fun _=>True) ρ h w n b).keep (fun _ _=>rfl)
def Rho.put (ρ:Rho) (id:Nat) (L:Loc):Rho:=⟨fun j=>if j=id then some L else ρ j,ρ.fr⟩
theorem Rho.put_same (ρ:Rho) (id:Nat) (L:Loc):ρ.put id L id=some L:=by simp [Rho.put]
theorem Rho.put_ne (ρ:Rho) (id j:Nat) (L:Loc) (h:j≠id):ρ.put id L j=ρ j:=by simp [Rho.put,h]
theorem Rho.put_mono (ρ:Rho) (id:Nat) (L:Loc) (h:ρ id=none):∀ j M,ρ j=some M→ρ.put id L j=some M:=by
 intro j M a
 rw [Rho.put_ne]
 ·exact a
 ·rintro rfl; rw [h] at a; cases a
def World.push (w:World) (o:Obj):World:={ w with heap:=w.heap.push o }
theorem z6p (w:World) (o:Obj) (b:Nat) (a:b<w.heap.size):(World.push w o).heap[b]?=w.heap[b]?:=by
 show (w.heap.push o)[b]?=_
 rw [Array.getElem?_push,if_neg (by omega)]
theorem z4h (w:World) (o:Obj):(World.push w o).heap[w.heap.size]?=some o:=by
 show (w.heap.push o)[w.heap.size]?=_
 simp
theorem z8l (w:World) (o:Obj):(World.push w o).heap.size=w.heap.size+1:=by
 show (w.heap.push o).size=_
 simp
theorem z7x {w:World} {b n:Nat} (h:z1c w b=some n):b<w.heap.size:=by
 unfold z1c at h
 cases a:w.heap[b]? with
 |none=>simp [a] at h
 |some o=>exact (eAi.1 a).1
theorem x3u {ρ:Rho} {h:List AO} {w:World} (e:z0b P ρ h w) {new:Nat} (f:ρ new=none) (L:Loc) (o:AO) (b:Nat):
  z0f (ρ.put new L) (z04 h new o) b→z0f ρ h b∨b=L.blk:=by
 rintro (d|⟨id,M,a,c,rfl⟩)
 ·exact .inl (.inl d)
 ·by_cases he:id=new
  ·subst he; rw [Rho.put_same] at a; cases a; exact .inr rfl
  ·rw [Rho.put_ne _ _ _ _ he] at a; rw [z0c _ _ _ _ (eDa he)] at c; exact .inl (.inr ⟨id,M,a,c,rfl⟩)
theorem z7p {ρ:Rho} {h:List AO} {w:World} (a:z0b P ρ h w) {b:Nat} (d:z0f ρ h b):b<w.heap.size:=by
 rcases d with c|⟨id,L,e,_,rfl⟩
 ·exact a.fr b c
 ·exact (a.obj id L e).1
theorem z7a {ρ:Rho} {h:List AO} {w:World} (hr:z0b P ρ h w) {new:Nat} (hn:ρ new=none) (L:Loc) (o:AO) (x:Obj) (hL:L.blk=w.heap.size):
  z5d (z0f ρ h) (z0f (ρ.put new L) (z04 h new o)) w (World.push w x) where
 size:=by rw [z8l]; omega
 frame:=fun b hb _=>z6p _ _ _ hb
 own:=fun b hb ho=>by
  rcases x3u hr hn L o b ho with h|h
  ·exact h
  ·omega
 shape:=fun b n hb=>by
  have:=z7x hb
  unfold z1c; rw [z6p _ _ _ this]; exact hb
 drawn:=z0v.refl _
theorem z0b.new {ρ:Rho} {h:List AO} {w:World} (hr:z0b P ρ h w) {new:Nat} (hn:ρ new=none) (esz:Nat) (o:AO) (x:Obj)
  (ho:z1e P (ρ.put new ⟨w.heap.size,0,esz⟩) (z0f (ρ.put new ⟨w.heap.size,0,esz⟩) (z04 h new o)) (World.push w x) ⟨w.heap.size,0,esz⟩ o):
  z0b P (ρ.put new ⟨w.heap.size,0,esz⟩) (z04 h new o) (World.push w x) where
 obj:=fun id L hL=>by
  by_cases he:id=new
  ·subst he
   rw [Rho.put_same] at hL; cases hL
   rw [z0g]
   exact ⟨by rw [z8l]; simp,ho⟩
  ·rw [Rho.put_ne _ _ _ _ he] at hL
   obtain ⟨h1,h2⟩:=hr.obj id L hL
   rw [z0c _ _ _ _ (eDa he)]
   exact ⟨by rw [z8l]; omega,h2.keep (z7a hr hn _ o x rfl) (Rho.put_mono _ _ _ hn) (z6p _ _ _ h1)⟩
 inj:=fun id id' L L' h1 h2 l1 l2 hb=>by
  by_cases e1:id=new
  ·subst e1
   by_cases e2:id'=id
   ·exact e2.symm
   ·rw [Rho.put_same] at h1; cases h1
    rw [Rho.put_ne _ _ _ _ e2] at h2
    have:=(hr.obj id' L' h2).1
    simp at hb; omega
  ·by_cases e2:id'=new
   ·subst e2
    rw [Rho.put_same] at h2; cases h2
    rw [Rho.put_ne _ _ _ _ e1] at h1
    have:=(hr.obj id L h1).1
    simp at hb; omega
   ·rw [Rho.put_ne _ _ _ _ e1] at h1
    rw [Rho.put_ne _ _ _ _ e2] at h2
    rw [z0c _ _ _ _ (eDa e1)] at l1
    rw [z0c _ _ _ _ (eDa e2)] at l2
    exact hr.inj id id' L L' h1 h2 l1 l2 hb
 fr:=fun b hf=>by rw [z8l]; have:=hr.fr b hf; omega
 sep:=fun id L hL hl hf=>by
  by_cases he:id=new
  ·subst he; rw [Rho.put_same] at hL; cases hL
   have:=hr.fr _ hf; simp at this
  ·rw [Rho.put_ne _ _ _ _ he] at hL; rw [z0c _ _ _ _ (eDa he)] at hl
   exact hr.sep id L hL hl hf
 gl:=hr.gl.keep (z7a hr hn _ o x rfl)
theorem Ext.new {ρ:Rho} {h:List AO} {w:World} (a:z0b P ρ h w) {new:Nat} (c:ρ new=none) (L:Loc) (o:AO) (x:Obj) (e:L.blk=w.heap.size):
  Ext (fun id=>id≠new) ρ h w (ρ.put new L) (z04 h new o) (World.push w x):=
 ⟨rfl,rfl,rfl,z7a a c L o x e,fun id hid=>Rho.put_ne _ _ _ _ hid,rfl,fun b d=>z6p _ _ _ (a.fr b d)⟩
theorem y9n (O:Nat→Prop) (w:World) (x:Obj) (hO:∀ b,O b→b<w.heap.size):z5d O O w (World.push w x) where
 size:=by rw [z8l]; omega
 frame:=fun b hb _=>z6p _ _ _ hb
 own:=fun b hb ho=>ho
 shape:=fun b n hb=>by
  have:=z7x hb
  unfold z1c; rw [z6p _ _ _ this]; exact hb
 drawn:=z0v.refl _
theorem z0b.push0 {ρ:Rho} {h:List AO} {w:World} (a:z0b P ρ h w) (x:Obj):z0b P ρ h (World.push w x):=
 a.of_keep (y9n _ _ _ fun _=>z7p a) fun b c=>z6p _ _ _ (z7p a c)
theorem Ext.push0 (S:Nat→Prop) {ρ:Rho} {h:List AO} {w:World} (a:z0b P ρ h w) (x:Obj):Ext S ρ h w ρ h (World.push w x):=
 ⟨rfl,rfl,rfl,y9n _ _ _ fun _=>z7p a,fun _ _=>rfl,rfl,fun b c=>z6p _ _ _ (a.fr b c)⟩
def World.setObj (w:World) (b:Nat) (o:Obj):World:={ w with heap:=w.heap.setIfInBounds b o }
theorem z19 (w:World) (b k:Nat) (o:Obj) (h:k≠b):(World.setObj w b o).heap[k]?=w.heap[k]?:=by
 show (w.heap.setIfInBounds b o)[k]?=_
 rw [eDu]; simp [eDa h]
theorem z0u (w:World) (b:Nat) (o:Obj) (h:b<w.heap.size):(World.setObj w b o).heap[b]?=some o:=by
 show (w.heap.setIfInBounds b o)[b]?=_
 rw [eDu]; simp [h]
theorem z15 (w:World) (b:Nat) (o:Obj):(World.setObj w b o).heap.size=w.heap.size:=by
 show (w.heap.setIfInBounds b o).size=_
 simp
theorem x1i {ρ:Rho} {h:List AO} {id:Nat} (o:AO) (f:(z0e h id).live=true) (e:o.live=true) (b:Nat):z0f ρ (z04 h id o) b↔z0f ρ h b:=by
 constructor
 ·rintro (d|⟨j,M,a,c,rfl⟩)
  ·exact .inl d
  by_cases he:j=id
  ·subst he; exact .inr ⟨j,M,a,f,rfl⟩
  ·rw [z0c _ _ _ _ (eDa he)] at c; exact .inr ⟨j,M,a,c,rfl⟩
 ·rintro (d|⟨j,M,a,c,rfl⟩)
  ·exact .inl d
  by_cases he:j=id
  ·subst he; exact .inr ⟨j,M,a,by rw [z0g]; exact e,rfl⟩
  ·exact .inr ⟨j,M,a,by rw [z0c _ _ _ _ (eDa he)]; exact c,rfl⟩
theorem z16 {ρ:Rho} {h:List AO} {w:World} (hr:z0b P ρ h w) {id:Nat} {L:Loc} (hL:ρ id=some L) (hl:(z0e h id).live=true) (o:AO) (ho:o.live=true) (x:Obj)
  (hs:∀ n,z1c w L.blk=some n→z1c (World.setObj w L.blk x) L.blk=some n):
  z5d (z0f ρ h) (z0f ρ (z04 h id o)) w (World.setObj w L.blk x) where
 size:=by rw [z15]; omega
 frame:=fun b hb hn=>z19 _ _ _ _ (fun e=>hn (e▸ .inr ⟨id,L,hL,hl,rfl⟩))
 own:=fun b _ hb=>(x1i o hl ho b).1 hb
 shape:=fun b n hb=>by
  by_cases he:b=L.blk
  ·subst he; exact hs n hb
  ·unfold z1c; rw [z19 _ _ _ _ he]; exact hb
 drawn:=z0v.refl _
theorem z0b.set {ρ:Rho} {h:List AO} {w:World} (hr:z0b P ρ h w) {id:Nat} {L:Loc} (hL:ρ id=some L) (hl:(z0e h id).live=true) (o:AO) (ho:o.live=true) (x:Obj)
  (hs:∀ n,z1c w L.blk=some n→z1c (World.setObj w L.blk x) L.blk=some n)
  (hx:z1e P ρ (z0f ρ (z04 h id o)) (World.setObj w L.blk x) L o):z0b P ρ (z04 h id o) (World.setObj w L.blk x) where
 obj:=fun j M hM=>by
  obtain ⟨h1,h2⟩:=hr.obj j M hM
  refine ⟨by rw [z15]; exact h1,?_⟩
  by_cases he:j=id
  ·subst he; rw [hL] at hM; cases hM; rw [z0g]; exact hx
  ·rw [z0c _ _ _ _ (eDa he)]
   by_cases hlj:(z0e h j).live=true
   ·exact h2.keep (z16 hr hL hl o ho x hs) (fun _ _ h=>h) (z19 _ _ _ _ (fun e=>he (hr.inj j id M L hM hL hlj hl e)))
   ·cases hjo:z0e h j<;>simp_all [AO.live,z1e]
 inj:=fun i j M N h1 h2 l1 l2 hb=>by
  refine hr.inj i j M N h1 h2 ?_ ?_ hb
  ·by_cases he:i=id
   ·subst he; exact hl
   ·rwa [z0c _ _ _ _ (eDa he)] at l1
  ·by_cases he:j=id
   ·subst he; exact hl
   ·rwa [z0c _ _ _ _ (eDa he)] at l2
 fr:=fun b hf=>by rw [z15]; exact hr.fr b hf
 sep:=fun j M hM hj hf=>by
  refine hr.sep j M hM ?_ hf
  by_cases he:j=id
  ·subst he; exact hl
  ·rwa [z0c _ _ _ _ (eDa he)] at hj
 gl:=hr.gl.keep (z16 hr hL hl o ho x hs)
theorem Ext.set (S:Nat→Prop) {ρ:Rho} {h:List AO} {w:World} (a:z0b P ρ h w) {id:Nat} {L:Loc} (d:ρ id=some L) (c:(z0e h id).live=true) (o:AO) (g:o.live=true) (x:Obj)
  (f:∀ n,z1c w L.blk=some n→z1c (World.setObj w L.blk x) L.blk=some n):Ext S ρ h w ρ (z04 h id o) (World.setObj w L.blk x):=
 ⟨rfl,rfl,rfl,z16 a d c o g x f,fun _ _=>rfl,rfl,fun b i=>z19 _ _ _ _ (fun e=>a.sep id L d c (e▸i))⟩
theorem y6p {ρ:Rho} {h:List AO} {id:Nat} (b:Nat) (d:z0f ρ (z04 h id .dead) b):z0f ρ h b:=by
 rcases d with c|⟨j,M,e,a,rfl⟩
 ·exact .inl c
 by_cases he:j=id
 ·subst he; rw [z0g] at a; cases a
 ·rw [z0c _ _ _ _ (eDa he)] at a; exact .inr ⟨j,M,e,a,rfl⟩
theorem z0b.kill {ρ:Rho} {h:List AO} {w:World} (hr:z0b P ρ h w) (id:Nat):z0b P ρ (z04 h id .dead) w where
 obj:=fun j M hM=>by
  obtain ⟨h1,h2⟩:=hr.obj j M hM
  refine ⟨h1,?_⟩
  by_cases he:j=id
  ·subst he; rw [z0g]; trivial
  ·rw [z0c _ _ _ _ (eDa he)]
   exact h2.keep ⟨eAp _,fun _ _ _=>rfl,fun b _ hb=>y6p b hb,fun _ _ h=>h,z0v.refl _⟩ (fun _ _ h=>h) rfl
 inj:=fun i j M N h1 h2 l1 l2 hb=>by
  refine hr.inj i j M N h1 h2 ?_ ?_ hb
  ·by_cases he:i=id
   ·subst he; rw [z0g] at l1; cases l1
   ·rwa [z0c _ _ _ _ (eDa he)] at l1
  ·by_cases he:j=id
   ·subst he; rw [z0g] at l2; cases l2
   ·rwa [z0c _ _ _ _ (eDa he)] at l2
 fr:=hr.fr
 sep:=fun j M hM hj hf=>by
  refine hr.sep j M hM ?_ hf
  by_cases he:j=id
  ·subst he; rw [z0g] at hj; cases hj
  ·rwa [z0c _ _ _ _ (eDa he)] at hj
 gl:=hr.gl.sub fun b hb=>y6p b hb
theorem Ext.kill (S:Nat→Prop) (ρ:Rho) (h:List AO) (w:World) (id:Nat):Ext S ρ h w ρ (z04 h id .dead) w:=
 ⟨rfl,rfl,rfl,⟨eAp _,fun _ _ _=>rfl,fun b _ a=>y6p b a,fun _ _ h=>h,z0v.refl _⟩,fun _ _=>rfl,rfl,fun _ _=>rfl⟩
end Go.Am
end
section
namespace Go.Am
theorem z3u {α:Type} {l:List α} {i n:Nat} {r:List α} (h:part l i n=some r):r.length=n∧∀ j,j<n→l[i+j]?=r[j]?:=by
 induction l generalizing i n r with
 |nil=>cases i<;>cases n<;>simp [part] at h; subst h; simp
 |cons x l d=>
  cases i with
  |zero=>cases n with
   |zero=>simp [part] at h; subst h; simp
   |succ n=>
    simp only [part] at h
    cases a:part l 0 n with
    |none=>simp [a] at h
    |some q=>
     simp [a] at h; subst h
     obtain ⟨c,b⟩:=d a
     refine ⟨by simp [c],fun j e=>?_⟩
     cases j with
     |zero=>simp
     |succ j=>have:=b j (by omega); simp only [eAy] at this⊢; simpa using this
  |succ i=>
   simp only [part] at h
   obtain ⟨c,b⟩:=d h
   refine ⟨c,fun j e=>?_⟩
   rw [show i+1+j=(i+j)+1 by omega]
   simpa using b j e
theorem y0a {α:Type} {l xs r:List α} {i:Nat} (h:x6l l i xs=some r):
  r.length=l.length∧i+xs.length≤l.length∧∀ j,r[j]?=if i≤j∧j<i+xs.length then xs[j - i]? else l[j]?:=by
 induction l generalizing i xs r with
 |nil=>cases i<;>cases xs<;>simp [x6l] at h; subst h; simp
 |cons y l f=>
  cases i with
  |zero=>cases xs with
   |nil=>simp [x6l] at h; subst h; simp
   |cons x xs=>
    simp only [x6l] at h
    cases a:x6l l 0 xs with
    |none=>simp [a] at h
    |some q=>
     simp [a] at h; subst h
     obtain ⟨e,d,c⟩:=f a
     refine ⟨by simp [e],by simp at d⊢; omega,fun j=>?_⟩
     cases j with
     |zero=>simp
     |succ j=>
      have:=c j
      simp only [eDl,this,eCa]
      by_cases b:j<xs.length
      ·rw [if_pos ⟨by omega,by omega⟩,if_pos ⟨by omega,by omega⟩]; simp
      ·rw [if_neg (by omega),if_neg (by omega)]
  |succ i=>
   simp only [x6l] at h
   cases a:x6l l i xs with
   |none=>simp [a] at h
   |some q=>
    simp [a] at h; subst h
    obtain ⟨e,d,c⟩:=f a
    refine ⟨by simp [e],by simp at d⊢; omega,fun j=>?_⟩
    cases j with
    |zero=>rw [if_neg (by omega)]; simp
    |succ j=>
     have:=c j
     simp only [eDl,this]
     by_cases b:i≤j∧j<i+xs.length
     ·rw [if_pos b,if_pos (by omega)]; congr 1; omega
     ·rw [if_neg b,if_neg (by omega)]
theorem z8r {α:Type} {l:List α} {n:Nat} (h:z8s l n=true):l.length=n:=by
 induction l generalizing n with
 |nil=>cases n<;>simp [z8s] at h⊢
 |cons x l a=>cases n with
  |zero=>simp [z8s] at h
  |succ n=>simpa using a (by simpa [z8s] using h)
theorem z1v {α:Type} (l:List α) (i:Nat):z2d l i=l[i]?:=by
 induction l generalizing i with
 |nil=>simp [z2d]
 |cons x l a=>cases i<;>simp [z2d,a]
theorem z1p (l:List D) (j:Nat):(toA l)[j]?=(l[j]?).map AV.d:=by
 induction l generalizing j with
 |nil=>simp [toA]
 |cons x l a=>cases j<;>simp [toA,a]
theorem z01 (l:List D):(toA l).length=l.length:=by
 induction l with
 |nil=>rfl
 |cons x l a=>simp [toA,a]
theorem z2b {l:List AV} {ds:List D} (h:x2k l=some ds):l=toA ds:=by
 induction l generalizing ds with
 |nil=>simp [x2k] at h; subst h; rfl
 |cons x l b=>
  cases x<;>simp only [x2k] at h<;>try (cases h; done)
  cases a:x2k l with
  |none=>simp [a] at h
  |some q=>simp [a] at h; subst h; simp [toA,b a]
theorem z27 (env:List (Nat×AV)) (l:List Operand):z06 env l=l.map (z0m env):=by
 induction l with
 |nil=>rfl
 |cons x l a=>simp [z06,a]
theorem x9p {v:Value} {d:D} (h:u3l v=some d) (O:Nat→Prop) (w:World):z1m O w d v:=by
 unfold u3l at h
 split at h<;>cases h
 ·exact .bool _
 ·exact .int _ _
 ·exact .str _
 ·exact .lnil _ _ _ _ (fun _=>rfl)
 ·exact .nilp
 ·exact .nilm
 ·exact .nilf
 ·exact .nili
theorem z8z {l:List Value} {ds:List D} (h:y25 l=some ds):ds.length=l.length∧∀ (O:Nat→Prop) (w:World) (j:Nat) (d:D),ds[j]?=some d→∃ v,l[j]?=some v∧z1m O w d v:=by
 induction l generalizing ds with
 |nil=>simp [y25] at h; subst h; simp
 |cons v l e=>
  simp only [y25] at h
  cases a:u3l v with
  |none=>simp [a] at h
  |some d=>
   cases c:y25 l with
   |none=>simp [a,c] at h
   |some q=>
    simp [a,c] at h; subst h
    obtain ⟨g,f⟩:=e c
    refine ⟨by simp [g],fun O w j x b=>?_⟩
    cases j with
    |zero=>simp at b; subst b; exact ⟨v,by simp,x9p a O w⟩
    |succ j=>simpa using f O w j x (by simpa using b)
theorem x9q {v:Value} {d:D} (h:u7z v=some d) (O:Nat→Prop) (w:World):z1m O w d v:=by
 unfold u7z at h
 split at h
 ·rename_i cs
  cases a:y25 cs.toList with
  |none=>simp [a] at h
  |some q=>
   simp [a] at h; subst h
   obtain ⟨g,f⟩:=z8z a
   refine .agg _ _ (by simp [g]) fun i d e=>?_
   obtain ⟨v,b,c⟩:=f O w i d e
   have:cs.getD i undef=v:=by
    have:cs[i]?=some v:=by simpa using b
    simp [eAq,this]
   rw [this]; exact c
 ·exact x9p h O w
def t5s (P:Program) (d:TypeDesc):TK→Prop
 | .int k=>d= .int k
 | .bool=>d= .bool
 | .str=>d= .string
 | .struct l=>∃ fs,d= .struct fs∧l.length=fs.size∧∀ (i:Nat) (x:Nat×Nat×Bool),l[i]?=some x→∃ f:Field,fs[i]?=some f∧f.offset=x.1∧z92 P f.type=some x.2.1∧z4q P f.type=some x.2.2
 | .arr m s a=>∃ e,d= .array m e∧z92 P e=some s∧z4q P e=some a
 | .slc e s b a z=>d= .slice e∧z92 P e=some s∧y2a P e=some b∧z4q P e=some a∧y5p P e=some z∧z.length=s
 | .ptr (some (n,s))=>∃ e g,d= .pointer e∧P.underlying e=some (.array n g)∧z92 P g=some s
 | .ptr none=>∃ e,d= .pointer e
 | .map ks a z=>∃ k e,d= .map k e∧z45 P 8 k=some ks∧z4q P k=some a∧w2y P e=some z∧P.eqGuardType P.depth k=false
 | .func=>∃ a b c,d= .func a b c
 | .iface=>∃ ms,d= .interface ms
 |_=>True
structure z7j (P:Program) (t:TypeId) (ti:TI):Prop where
 size:z92 P t=some ti.size
 bytes:y2a P t=some ti.bytes
 agg:z4q P t=some ti.agg
 zero:∃ i z,P.info? t=some i∧i.zero=some z∧y25 z.cells.toList=some ti.zero∧ti.zero.length=ti.size∧(ti.agg=true→∃ cs,z= .agg cs)∧(ti.agg=false→∀ cs,z≠ .agg cs)
 desc:∃ d,P.underlying t=some d∧z79 d=ti.agg∧t5s P d ti.desc
 eqk:∀ ks,ti.eqk=some ks→z45 P 8 t=some ks∧P.eqGuardType P.depth t=false
theorem x11 {P:Program} {fs:List Field} {l:List (Nat×Nat×Bool)} (h:fieldsOf P fs=some l):
  l.length=fs.length∧∀ (i:Nat) (x:Nat×Nat×Bool),l[i]?=some x→∃ f:Field,fs[i]?=some f∧f.offset=x.1∧z92 P f.type=some x.2.1∧z4q P f.type=some x.2.2:=by
 induction fs generalizing l with
 |nil=>simp [fieldsOf] at h; subst h; simp
 |cons f fs c=>
  simp only [fieldsOf] at h
  split at h
  ·rename_i s a q g e d
   cases h
   obtain ⟨k,j⟩:=c d
   refine ⟨by simp [k],fun i x b=>?_⟩
   cases i with
   |zero=>simp at b; subst b; exact ⟨f,by simp,rfl,g,e⟩
   |succ i=>simpa using j i x (by simpa using b)
  ·cases h
theorem v55 {P:Program} {d:TypeDesc} {k:TK} (h:u9z P d=some k):t5s P d k:=by
 unfold u9z at h
 split at h
 ·cases h; exact rfl
 ·cases h; exact rfl
 ·cases h; exact rfl
 ·rename_i i
  cases a:fieldsOf P i.toList with
  |none=>simp [a] at h
  |some q=>simp [a] at h; subst h; exact ⟨i,rfl,by simpa using x11 a⟩
 ·split at h
  ·cases h; exact ⟨_,rfl, ‹_›, ‹_›⟩
  ·cases h
 ·split at h
  ·rename_i g f c b
   split at h
   ·cases h; exact ⟨rfl,g,c,f,b, ‹_›⟩
   ·cases h
  ·cases h
 ·rename_i e
  split at h
  ·rename_i n j he
   cases a:z92 P j with
   |none=>simp [a] at h
   |some s=>simp [a] at h; subst h; exact ⟨e,j,rfl,he,a⟩
  ·cases h; exact ⟨e,rfl⟩
 ·split at h
  ·cases h; exact ⟨_,_,rfl, ‹_›, ‹_›, ‹_›, ‹_›⟩
  ·cases h; trivial
 ·cases h; exact ⟨_,_,_,rfl⟩
 ·cases h; exact ⟨_,rfl⟩
 ·cases h; trivial
theorem x6v {P:Program} {t:TypeId} {ti:TI} (h:v9e P t=some ti):z7j P t ti:=by
 unfold v9e at h
 split at h
 ·rename_i i d f l
  split at h
  ·rename_i z m
   split at h
   ·rename_i o k e n
    split at h
    ·rename_i b
     cases h
     simp only [eAf,beq_iff_eq] at b
     refine ⟨by simp [z92,f],by simp [y2a,f],by simp [z4q,l],⟨i,z,f,m,e,b.2,?_,?_⟩,⟨d,l,rfl,v55 n⟩,?_⟩
     ·intro j; have c:w43 z=true:=by rw [←b.1]; exact j
      cases z<;>first|exact ⟨_,rfl⟩|cases c
     ·intro j cs g; have c:w43 z=false:=by rw [←b.1]; exact j
      rw [g] at c; cases c
     ·intro ks a
      simp only at a
      split at a
      ·cases a
      ·rename_i hg; exact ⟨a,by simpa using hg⟩
    ·cases h
   ·cases h
  ·cases h
 ·cases h
def y1d (P:Program) (T:TypeId→Option TI):Prop:=∀ t ti,T t=some ti→z7j P t ti
section
variable {P:Program}
theorem z1h {t:TypeId} {n:Nat} (h:z92 P t=some n) (w:World):(sizeOf t).run P w= .ok n w:=by
 unfold z92 at h
 cases a:P.info? t with
 |none=>simp [a] at h
 |some i=>simp [a] at h; simp [sizeOf,typeInfo,a,h]
theorem x1d {t:TypeId} {b:Bool} (h:z4q P t=some b) (w:World):(isAgg t).run P w= .ok b w:=by
 unfold z4q at h
 cases a:P.underlying t with
 |none=>simp [a] at h
 |some d=>simp [a] at h; cases d<;>simp [isAgg,underlying,a,z79] at h⊢ <;>exact h
theorem z0h {t:TypeId} {d:TypeDesc} (h:P.underlying t=some d) (w:World):(underlying t).run P w= .ok d w:=by
 simp [underlying,h]
theorem z5n (b o n:Nat):(⟨b,o,none⟩:Addr).add n=⟨b,o+n,none⟩:=by unfold Addr.add; split<;>simp_all
theorem z39 {t:TypeId} {n:Nat} {agg:Bool} (f:z92 P t=some n) (e:z4q P t=some agg) (w:World) (b o:Nat) (cs:List Value) (g:cs.length=n)
  (d:∀ j v,cs[j]?=some v→w.cell? ⟨b,o+j,none⟩=some v) (v:Value) (a:if agg then v= .agg cs.toArray else cs=[v]):
  (loadVar t ⟨b,o,none⟩).run P w= .ok v w:=by
 have c:(loadCells ⟨b,o,none⟩ n).run P w= .ok cs.toArray w:=by
  have:=run_loadCells_list (P:=P) w ⟨b,o,none⟩ cs (fun j v a=>by rw [z5n]; exact d j v a)
  rwa [g] at this
 cases agg with
 |true=>
  simp at a; subst a
  simp [loadVar,x1d e,z1h f,c]
 |false=>
  simp at a; subst a
  have:=d 0 v (by simp)
  simp at this
  simp [loadVar,x1d e,this]
end
def z08 (h:List AO):List (Nat×AO)→List AO
 |[]=>h
 |(i,o)::r=>z08 (z04 h i o) r
def z0n (P:Program) (ρ:Rho) (h:List AO) (w:World) (new:Nat) (s:Sem Value) (r:Res):Prop:=
 ∃ v a ρ',s.run P w= .ok v a∧z0q ρ' (z0f ρ' (z08 h r.u)) a r.v v∧z0b P ρ' (z08 h r.u) a∧
  Ext (fun id=>id≠new) ρ h w ρ' (z08 h r.u) a∧(ρ'=ρ∨∃ o,(new,o)∈r.u)
theorem z0n.pure {P:Program} {ρ:Rho} {h:List AO} {w:World} {new:Nat} {s:Sem Value} {x:AV} {v:Value} {c:Bool} (d:z0b P ρ h w)
  (b:s.run P w= .ok v w) (a:z0q ρ (z0f ρ h) w x v):z0n P ρ h w new s ⟨c,x,[]⟩:=
 ⟨v,w,ρ,b,a,d,Ext.refl _ _ _ _, .inl rfl⟩
theorem z9h {α:Type} {c:Array α} {i:Nat} {v d:α} (h:c[i]?=some v):c.getD i d=v:=by simp [eAq,h]
theorem z6e {w:World} {b o:Nat} {c:Array Value} {t:TypeId} {f:Nat×Nat} {v:Value} (h:w.heap[b]?=some (.cells c t f)) (a:c[o]?=some v):w.cell? ⟨b,o,none⟩=some v:=by
 simp [eFc,h,a]
theorem z5x {ρ:Rho} {O:Nat→Prop} {w:World} {agg:Bool} {l:List AV} {x:AV} (h:z68 agg l=some x) (cs:List Value) (a:cs.length=l.length)
  (g:∀ (j:Nat) (y:AV) (v:Value),l[j]?=some y→cs[j]?=some v→z0q ρ O w y v):∃ v,(if agg then v= .agg cs.toArray else cs=[v])∧z0q ρ O w x v:=by
 have key:∀ (i:Nat) (y:AV),l[i]?=some y→z0q ρ O w y (cs.toArray.getD i undef):=by
  intro i y f
  have k:i<cs.length:=by rw [a]; exact (eAe.1 f).1
  have b:cs[i]?=some cs[i]:=eAd k
  have:=g i y _ f b
  rw [show cs.toArray.getD i undef=cs[i] by simp [eAq,b]]
  exact this
 cases agg with
 |true=>
  refine ⟨.agg cs.toArray,by simp,?_⟩
  simp only [z68] at h
  cases c:x2k l with
  |none=>simp [c] at h; subst h; exact .agg _ _ (by simp [a]) key
  |some ds=>
   simp [c] at h; subst h
   have e:=z2b c
   refine .d (.agg _ _ (by simp [a,e,z01]) fun i d m=>?_)
   have:=key i (.d d) (by rw [e,z1p,m]; rfl)
   cases this; assumption
 |false=>
  simp only [z68] at h
  split at h
  ·cases h
   cases cs with
   |nil=>simp at a
   |cons v r=>
    cases r with
    |nil=>exact ⟨v,by simp,g 0 _ v (by simp) (by simp)⟩
    |cons _ _=>simp at a
  ·cases h
theorem z4a {ρ:Rho} {O:Nat→Prop} {w:World} {agg:Bool} {l:List D} {x:AV} (h:z52 agg l=some x) (cs:List Value) (b:cs.length=l.length)
  (e:∀ (j:Nat) (y:D) (v:Value),l[j]?=some y→cs[j]?=some v→z1m O w y v):∃ v,(if agg then v= .agg cs.toArray else cs=[v])∧z0q ρ O w x v:=by
 have key:∀ (i:Nat) (y:D),l[i]?=some y→z1m O w y (cs.toArray.getD i undef):=by
  intro i y c
  have f:i<cs.length:=by rw [b]; exact (eAe.1 c).1
  have a:cs[i]?=some cs[i]:=eAd f
  have:=e i y _ c a
  rw [show cs.toArray.getD i undef=cs[i] by simp [eAq,a]]
  exact this
 cases agg with
 |true=>
  refine ⟨.agg cs.toArray,by simp,?_⟩
  simp only [z52] at h; cases h
  exact .d (.agg _ _ (by simp [b]) key)
 |false=>
  simp only [z52] at h
  split at h
  ·cases h
   cases cs with
   |nil=>simp at b
   |cons v r=>
    cases r with
    |nil=>exact ⟨v,by simp, .d (e 0 _ v (by simp) (by simp))⟩
    |cons _ _=>simp at b
  ·cases h
theorem z50 {α:Type} {R:α→Value→Prop} (f:Nat→Option Value) (l:List α) (h:∀ (j:Nat) (x:α),l[j]?=some x→∃ v,f j=some v∧R x v):
  ∃ cs:List Value,cs.length=l.length∧(∀ (j:Nat) (v:Value),cs[j]?=some v→f j=some v)∧∀ (j:Nat) (x:α) (v:Value),l[j]?=some x→cs[j]?=some v→R x v:=by
 induction l generalizing f with
 |nil=>exact ⟨[],rfl,by simp,by simp⟩
 |cons a l d=>
  obtain ⟨v,e,g⟩:=h 0 a (by simp)
  obtain ⟨cs,m,k,i⟩:=d (fun j=>f (j+1)) (fun j x c=>h (j+1) x (by simpa using c))
  refine ⟨v::cs,by simp [m],fun j u b=>?_,fun j x u c b=>?_⟩
  ·cases j with
   |zero=>simp at b; subst b; exact e
   |succ j=>exact k j u (by simpa using b)
  ·cases j with
   |zero=>simp at c b; subst c; subst b; exact g
   |succ j=>exact i j x u (by simpa using c) (by simpa using b)
def x5n (h:List AO) (a:AV) (r:List D) (ra:List AV):Prop:=
 match a with
 | .bptr id off=>∀ es,z0e h id= .row es→y4d es off r
 | .wptr es off=>y4d es off r
 | .ptr id i _=>(∀ es,z0e h id= .row es→w7m es i r)∧(∀ es,z0e h id= .arow es→es[i]?=some ra)
 |_=>True
theorem z3r {x:Option AV} {r:Res} (h:x.bind ok=some r):∃ v,x=some v∧r=⟨true,v,[]⟩:=by
 cases x with
 |none=>cases h
 |some v=>simp [ok] at h; exact ⟨v,rfl,h.symm⟩
theorem z9p {P:Program} {ρ:Rho} {O:Nat→Prop} {w:World} {L:Loc} {es:List (List D)} (m:z1e P ρ O w L (.row es)) {off:Nat} {r:List D} (p:y4d es off r) {c:Array Value} {t:TypeId}
  (q:w.heap[L.blk]?=some (.cells c t (0,0))) {j:Nat} {x:D} (l:r[j]?=some x):L.esz=1∧off+j<es.length∧∃ v:Value,c[L.base+off+j]?=some v∧v.oneCell'=true∧z1m O w x v:=by
 obtain ⟨z,A,s,f,n,o⟩:=m
 rw [q] at f; cases f
 obtain ⟨u,a,e⟩:=p j x l
 have i:L.esz=1:=by rw [←n _ _ a, ←e.1]; rfl
 obtain ⟨y,k,b⟩:=e.2 0 x rfl
 obtain ⟨v,h,g,d⟩:=o _ _ _ _ a k
 refine ⟨i,(eAe.1 a).1,v,?_,g,d.le b⟩
 rw [i,eDg,eBk, ←eCf] at h; exact h
theorem x53 {P:Program} {T:TypeId} {ti:TI} (A:z7j P T ti) {ρ:Rho} {h:List AO} {w:World} (G:z0b P ρ h w) {r:List D} {ra:List AV} {a:AV} {va:Value}
  (Q:z0q ρ (z0f ρ h) w a va) (u:x5n h a r ra) {res:Res} (f:z2z ti h r ra a=some res) (new:Nat):z0n P ρ h w new (Instr.loadAt T va) res:=by
 unfold z2z at f
 split at f
 ·
  rename_i id off
  split at f
  ·rename_i cells n
   split at f
   ·rename_i l K
    obtain ⟨x,e,rfl⟩:=z3r f
    cases Q with
    |bptr _ _ L N=>
     obtain ⟨_,B⟩:=G.obj id L N
     rw [n] at B
     obtain ⟨a0,c,t,C,O⟩:=B
     obtain ⟨q,hg⟩:=z3u K
     obtain ⟨cs,p,F,E⟩:=z50 (R:=z0q ρ (z0f ρ h) w) (fun j=>c[L.base+off+j]?) l (fun j x e=>by
      have s:j<ti.size:=by rw [←q]; exact (eAe.1 e).1
      obtain ⟨v,m,d⟩:=O (off+j) x (by rw [hg j s]; exact e)
      exact ⟨v,by rw [eCf]; exact m,d⟩)
     obtain ⟨v,k,g⟩:=z5x e cs p E
     refine z0n.pure G ?_ g
     show (loadVar T _).run P w=_
     exact z39 A.size A.agg w _ _ cs (p.trans q) (fun j v m=>z6e C (F j v m)) v k
   ·cases f
  ·rename_i es n
   cases M:z8s r ti.size with
   |false=>rw [M] at f; cases f
   |true=>
   rw [M] at f
   have q:=z8r M
   obtain ⟨x,e,rfl⟩:=z3r f
   cases Q with
   |bptr _ _ L N=>
    obtain ⟨_,B⟩:=G.obj id L N
    rw [n] at B
    have a2:=B
    obtain ⟨X,c,t,C,I,O⟩:=B
    obtain ⟨cs,p,F,E⟩:=z50 (R:=z1m (z0f ρ h) w) (fun j=>c[L.base+off+j]?) r (fun j x e=>by
     obtain ⟨_,_,v,m,_,d⟩:=z9p a2 (u es n) C e
     exact ⟨v,m,d⟩)
    obtain ⟨v,k,g⟩:=z4a (ρ:=ρ) e cs p E
    refine z0n.pure G ?_ g
    show (loadVar T _).run P w=_
    exact z39 A.size A.agg w _ _ cs (p.trans q) (fun j v m=>z6e C (F j v m)) v k
  ·cases f
 ·
  rename_i id i off
  split at f
  ·rename_i es n
   split at f
   ·rename_i l K
    obtain ⟨x,e,rfl⟩:=z3r f
    cases Q with
    |ptr _ _ _ L N=>
     obtain ⟨_,B⟩:=G.obj id L N
     rw [n] at B
     obtain ⟨X,c,t,C,I,O⟩:=B
     obtain ⟨r0,J,Z⟩:=u.1 es n
     obtain ⟨q,hg⟩:=z3u K
     obtain ⟨cs,p,F,E⟩:=z50 (R:=z1m (z0f ρ h) w) (fun j=>c[L.base+i*L.esz+off+j]?) l (fun j x e=>by
      have s:j<ti.size:=by rw [←q]; exact (eAe.1 e).1
      obtain ⟨x0,Y,H⟩:=Z.2 (off+j) x (by rw [hg j s]; exact e)
      obtain ⟨v,m,_,d⟩:=O i r0 (off+j) x0 J Y
      exact ⟨v,by rw [eCf]; exact m,d.le H⟩)
     obtain ⟨v,k,g⟩:=z4a (ρ:=ρ) e cs p E
     refine z0n.pure G ?_ g
     show (loadVar T _).run P w=_
     exact z39 A.size A.agg w _ _ cs (p.trans q) (fun j v m=>z6e C (F j v m)) v k
   ·cases f
  ·rename_i es n
   split at f
   ·rename_i l K
    obtain ⟨x,e,rfl⟩:=z3r f
    cases Q with
    |ptr _ _ _ L N=>
     obtain ⟨_,B⟩:=G.obj id L N
     rw [n] at B
     obtain ⟨X,c,t,C,I,O⟩:=B
     have J:=u.2 es n
     obtain ⟨q,hg⟩:=z3u K
     obtain ⟨cs,p,F,E⟩:=z50 (R:=z0q ρ (z0f ρ h) w) (fun j=>c[L.base+i*L.esz+off+j]?) l (fun j x e=>by
      have s:j<ti.size:=by rw [←q]; exact (eAe.1 e).1
      obtain ⟨v,m,_,d⟩:=O i ra (off+j) x J (by rw [hg j s]; exact e)
      exact ⟨v,by rw [eCf]; exact m,d⟩)
     obtain ⟨v,k,g⟩:=z5x e cs p E
     refine z0n.pure G ?_ g
     show (loadVar T _).run P w=_
     exact z39 A.size A.agg w _ _ cs (p.trans q) (fun j v m=>z6e C (F j v m)) v k
   ·cases f
  ·cases f
 ·
  rename_i es off
  cases M:z8s r ti.size with
  |false=>rw [M] at f; cases f
  |true=>
  rw [M] at f
  have q:=z8r M
  obtain ⟨x,e,rfl⟩:=z3r f
  cases Q with
  |wptr _ _ b o z a3 hO X C=>
   obtain ⟨cs,p,F,E⟩:=z50 (R:=z1m (z0f ρ h) w) (fun j=>w.cell? ⟨b,o+off+j,none⟩) r (fun j x e=>by
    obtain ⟨r0,V,H⟩:=u j x e
    have p:z=1:=by rw [←X _ _ V, ←H.1]; rfl
    obtain ⟨y,hy,S⟩:=H.2 0 x rfl
    obtain ⟨v,m,d⟩:=C _ _ _ _ V hy
    refine ⟨v,?_,d.le S⟩
    rw [p,eDg,eBk, ←eCf] at m; exact m)
   obtain ⟨v,k,g⟩:=z4a (ρ:=ρ) e cs p E
   refine z0n.pure G ?_ g
   show (loadVar T _).run P w=_
   exact z39 A.size A.agg w _ _ cs (p.trans q) (fun j v m=>F j v m) v k
 ·
  rename_i cells off
  split at f
  ·rename_i l K
   obtain ⟨x,e,rfl⟩:=z3r f
   cases Q with
   |lptr _ _ b o a3 hO cell C a1=>
    obtain ⟨q,hg⟩:=z3u K
    obtain ⟨cs,p,F,E⟩:=z50 (R:=z1m (z0f ρ h) w) (fun j=>w.cell? ⟨b,o+off+j,none⟩) l (fun j x e=>by
     have s:j<ti.size:=by rw [←q]; exact (eAe.1 e).1
     have U:cells[off+j]?=some x:=by rw [hg j s]; exact e
     have W:off+j<cells.length:=(eAe.1 U).1
     exact ⟨cell (off+j),by rw [eCf]; exact C _ W,a1 _ _ U⟩)
    obtain ⟨v,k,g⟩:=z4a (ρ:=ρ) e cs p E
    refine z0n.pure G ?_ g
    show (loadVar T _).run P w=_
    exact z39 A.size A.agg w _ _ cs (p.trans q) (fun j v m=>F j v m) v k
  ·cases f
 ·cases f
theorem z7y {w:World} {b:Nat} {c cs:Array Value} {t:TypeId} {f:Nat×Nat} (h:w.heap[b]?=some (.cells c t f)):w.setRow b cs=World.setObj w b (.cells cs t f):=by
 have a:b<w.heap.size:=(eAi.1 h).1
 unfold World.setRow World.setObj
 congr 1
 apply Array.ext_getElem?
 intro i
 rw [eDt,eDu]
 by_cases d:b=i
 ·subst d; rw [h]; simp [a]
 ·simp [d]
theorem z0y {w:World} {b:Nat} {c:Array Value} {t:TypeId} {f:Nat×Nat} (h:w.heap[b]?=some (.cells c t f)):z1c w b=some c.size:=by
 simp [z1c,h]
theorem y36 {ρ:Rho} {O:Nat→Prop} {w:World} {x:AV} {v:Value} {l:List AV} (h:z2j x=some l) (i:z0q ρ O w x v):
  v.cells.size=l.length∧∀ (j:Nat) (y:AV),l[j]?=some y→∃ u,v.cells[j]?=some u∧z0q ρ O w y u:=by
 have one:∀ (v:Value),(∀ cs,v≠ .agg cs)→v.cells=#[v]:=by
  intro v i; cases v<;>first|rfl|exact absurd rfl (i _)
 have single:∀ (x:AV) (v:Value),z0q ρ O w x v→(∀ cs,v≠ .agg cs)→v.cells.size=[x].length∧∀ (j:Nat) (y:AV),[x][j]?=some y→∃ u,v.cells[j]?=some u∧z0q ρ O w y u:=by
  intro x v q r
  rw [one v r]
  refine ⟨rfl,fun j y c=>?_⟩
  cases j with
  |zero=>simp at c; subst c; exact ⟨v,by simp,q⟩
  |succ j=>simp at c
 have a:=i
 cases i with
 |bot=>simp [z2j] at h
 |d p=>
  have t:=p
  cases p with
  |agg ds e f o=>
   simp [z2j] at h; subst h
   refine ⟨by simp [eGi,f,z01],fun j y c=>?_⟩
   rw [z1p] at c
   cases m:ds[j]? with
   |none=>simp [m] at c
   |some d=>
    simp [m] at c; subst c
    have g:j<e.size:=by rw [f]; exact (eAe.1 m).1
    have:=o j d m
    rw [z9h (eBg g)] at this
    exact ⟨e[j],by simp [eGi,g], .d this⟩
  |bool b=>simp [z2j] at h; subst h; exact single _ _ a (by simp)
  |int k n=>simp [z2j] at h; subst h; exact single _ _ a (by simp)
  |str s=>simp [z2j] at h; subst h; exact single _ _ a (by simp)
  |nilp=>simp [z2j] at h; subst h; exact single _ _ a (by simp)
  |nilm=>simp [z2j] at h; subst h; exact single _ _ a (by simp)
  |nilf=>simp [z2j] at h; subst h; exact single _ _ a (by simp)
  |nili=>simp [z2j] at h; subst h; exact single _ _ a (by simp)
  |lnil=>simp [z2j] at h; subst h; exact single _ _ a (by simp)
  |list=>simp [z2j] at h; subst h; exact single _ _ a (by simp)
  |ref=>simp [z2j] at h; subst h; exact single _ _ a (by simp)
 |agg z e f o=>
  simp [z2j] at h; subst h
  refine ⟨by simp [eGi,f],fun j y c=>?_⟩
  have g:j<e.size:=by rw [f]; exact (eAe.1 c).1
  have:=o j y c
  rw [z9h (eBg g)] at this
  exact ⟨e[j],by simp [eGi,g],this⟩
 |tuple=>simp [z2j] at h
 |bptr=>simp [z2j] at h; subst h; exact single _ _ a (by simp)
 |ptr=>simp [z2j] at h; subst h; exact single _ _ a (by simp)
 |lptr=>simp [z2j] at h; subst h; exact single _ _ a (by simp)
 |wptr=>simp [z2j] at h; subst h; exact single _ _ a (by simp)
 |perm=>simp [z2j] at h
 |slice=>simp [z2j] at h; subst h; exact single _ _ a (by simp)
 |nils=>simp [z2j] at h; subst h; exact single _ _ a (by simp)
 |map=>simp [z2j] at h; subst h; exact single _ _ a (by simp)
 |yld=>simp [z2j] at h; subst h; exact single _ _ a (by simp)
 |clo=>simp [z2j] at h; subst h; exact single _ _ a (by simp)
 |iface=>simp [z2j] at h; subst h; exact single _ _ a (by simp)
theorem y2t {ρ:Rho} {O:Nat→Prop} {w:World} {x:AV} {v:Value} (h:w77 x=true) (a:z0q ρ O w x v):v.oneCell'=true:=by
 cases a with
 |bot=>simp [w77] at h
 |d b=>cases b<;>first|rfl|simp [w77] at h
 |agg=>simp [w77] at h
 |tuple=>simp [w77] at h
 |perm=>simp [w77] at h
 |_=>rfl
theorem z8t {l:List AV} (h:z7t l=true) {j:Nat} {y:AV} (a:l[j]?=some y):w77 y=true:=by
 induction l generalizing j with
 |nil=>simp at a
 |cons x l b=>
  simp [z7t] at h
  cases j with
  |zero=>simp at a; subst a; exact h.1
  |succ j=>exact b h.2 (by simpa using a)
theorem w1h {ρ:Rho} {O:Nat→Prop} {w:World} {l:List AV} {v:Value} (h:z7t l=true) (i:v.cells.size=l.length)
  (f:∀ (j:Nat) (y:AV),l[j]?=some y→∃ u,v.cells[j]?=some u∧z0q ρ O w y u):∀ u∈v.cells.toList,u.oneCell'=true:=by
 intro u g
 obtain ⟨j,d,c⟩:=List.getElem_of_mem g
 have b:j<l.length:=by rw [←i]; simpa using d
 obtain ⟨e,a,k⟩:=f j l[j] (eAd b)
 have:e=u:=by
  have m:v.cells[j]?=some u:=by rw [←c]; simp [eBg (by simpa using d)]
  rw [m] at a; cases a; rfl
 subst this
 exact y2t (z8t h (eAd b)) k
theorem z5u {α:Type} (a vs:List α) (o j:Nat) (h:o+vs.length≤a.length):
  (a.take o++vs++a.drop (o+vs.length))[j]?=if o≤j∧j<o+vs.length then vs[j - o]? else a[j]?:=by
 rw [eDr,eBr]
 have c:(a.take o).length=o:=by simp; omega
 rw [c]
 split
 ·rename_i b
  rw [if_neg (by omega),eFl,if_pos b]
 ·rename_i b
  rw [eBr]
  split
  ·rename_i d; rw [if_pos (by omega)]
  ·rename_i d; rw [if_neg (by omega),eDh]; congr 1; omega
theorem z9a {P:Program} {T:TypeId} {n:Nat} (d:z92 P T=some n) {w:World} {b o:Nat} {c:Array Value} {t:TypeId} (a:w.heap[b]?=some (.cells c t (0,0)))
  {v:Value} (e:v.cells.size=n) (f:∀ u∈v.cells.toList,u.oneCell'=true) (g:o+n≤c.size):
  (Instr.storeAt T (.pointer (some ⟨b,o,none⟩)) v).run P w= .ok () (World.setObj w b (.cells (c.toList.take o++v.cells.toList++c.toList.drop (o+v.cells.toList.length)).toArray t (0,0))):=by
 have:=run_storeCells_at (P:=P) b o t v.cells.toList 0 c w a (by simp; omega) f
 rw [z7y a] at this
 simp only [eBk] at this
 simp [Instr.storeAt,Instr.sureAddr,storeVar,z1h d,e,this]
def z5g (s:Sem Unit):Sem Value:=do s; pure undef
theorem x1n (ds:List D) (i:Nat):(w4a ds)[i]?=(ds[i]?).map fun x=>[x]:=by
 induction ds generalizing i with
 |nil=>simp [w4a]
 |cons x l a=>cases i<;>simp [w4a,a]
theorem x8q (ds:List D):(w4a ds).length=ds.length:=by
 induction ds with
 |nil=>rfl
 |cons x l a=>simp [w4a,a]
theorem w4j {α:Type} (l:List α):x8u l=l.length:=by
 induction l with
 |nil=>rfl
 |cons x l a=>simp [x8u,a]
theorem y8z {P:Program} {ρ:Rho} {h:List AO} {w:World} {T:TypeId} {size:Nat} (O:z92 P T=some size) (I:z0b P ρ h w) {id off:Nat} {es:List (List D)} (E:z0e h id= .row es) {L:Loc} (K:ρ id=some L) (z:L.esz=1)
  {cells:List AV} {ds:List D} (hds:x2k cells=some ds) {f:Value} (hn:f.cells.size=size) (X:cells.length=size) (l:∀ u∈f.cells.toList,u.oneCell'=true)
  (U:∀ (j:Nat) (y:AV),cells[j]?=some y→∃ u,f.cells[j]?=some u∧z0q ρ (z0f ρ h) w y u) (V:1≤size) (Q:off+size≤es.length) (r:List (List D))
  (H:∀ i,r[i]?=if off≤i∧i<off+ds.length then (ds[i - off]?).map (fun x=>[x]) else es[i]?) (new:Nat):
  z0n P ρ h w new (z5g (Instr.storeAt T (.pointer (some ⟨L.blk,L.base+off,none⟩)) f)) ⟨true, .bot,[(id, .row r)]⟩:=by
 obtain ⟨_,W⟩:=I.obj id L K
 rw [E] at W
 obtain ⟨hz,c,t,J,n,Z⟩:=W
 have a2:ds.length=cells.length:=by rw [z2b hds,z01]
 have o:L.base+off+size≤c.size:=by
  have F:off+size - 1<es.length:=by omega
  have a1:=n _ _ (eAd F)
  obtain ⟨v,hv,_,_⟩:=Z (off+size - 1) _ 0 _ (eAd F) (eAd (by omega))
  have:=(eAi.1 hv).1
  rw [z] at this; omega
 have C:=z9a (P:=P) O J hn l o
 have e:(z0e h id).live=true:=by rw [E]; rfl
 have p:∀ m,z1c w L.blk=some m→z1c (World.setObj w L.blk (.cells (c.toList.take (L.base+off)++f.cells.toList++c.toList.drop (L.base+off+f.cells.toList.length)).toArray t (0,0))) L.blk=some m:=by
  intro m hm
  rw [z0y J] at hm; cases hm
  rw [z0y (z0u _ _ _ (eAi.1 J).1)]
  congr 1
  simp; omega
 have Y:=z16 I K e (.row r) rfl _ p
 refine ⟨undef,_,ρ,by simp only [z5g,eAw,C,eAo,eBf], .bot _,I.set K e _ rfl _ p ?_,Ext.set _ I K e _ rfl _ p, .inl rfl⟩
 have a0:f.cells.toList.length=cells.length:=by simp; omega
 refine ⟨hz,_,t,z0u _ _ _ (eAi.1 J).1,fun k q b=>?_,fun k q j y b A=>?_⟩
 ·rw [H] at b
  split at b
  ·cases s:ds[k - off]? with
   |none=>rw [s] at b; cases b
   |some d=>rw [s] at b; cases b; exact z.symm
  ·exact n k q b
 ·have g:=z5u c.toList f.cells.toList (L.base+off) (L.base+k*L.esz+j) (by simp; omega)
  rw [eCh]
  rw [H] at b
  split at b
  ·rename_i G
   cases s:ds[k - off]? with
   |none=>rw [s] at b; cases b
   |some d=>
    rw [s] at b; cases b
    cases j with
    |succ j=>simp at A
    |zero=>
     simp at A; subst A
     have M:cells[k - off]?=some (.d d):=by rw [z2b hds,z1p,s]; rfl
     obtain ⟨u,B,a⟩:=U _ _ M
     rw [if_pos (by rw [z]; omega)] at g
     rw [g,show L.base+k*L.esz+0 - (L.base+off)=k - off by rw [z]; omega]
     cases a with
     |d a=>exact ⟨u,by simpa using B,l u (by rw [eAi] at B; obtain ⟨z,h2⟩:=B; rw [←h2]; simp),a.keep Y⟩
  ·rename_i G
   obtain ⟨u,B,N,a⟩:=Z k q j y b A
   have R:j<L.esz:=by rw [←n k q b]; exact (eAe.1 A).1
   have S:¬ (L.base+off≤L.base+k*L.esz+j∧L.base+k*L.esz+j<L.base+off+f.cells.toList.length):=by
    rintro ⟨g1,g2⟩
    rw [z] at g1 g2 R
    exact G (by omega)
   rw [if_neg S] at g
   exact ⟨u,by rw [g]; simpa using B,N,a.keep Y⟩
theorem y5x (es:List (List D)) (i:Nat):(z5s es)[i]?=(es[i]?).map toA:=by
 induction es generalizing i with
 |nil=>simp [z5s]
 |cons x l a=>cases i with
  |zero=>simp [z5s]
  |succ i=>simp [z5s,a]
theorem w84 {P:Program} {ρ:Rho} {O:Nat→Prop} {w:World} {L:Loc} {es:List (List D)} (E:z1e P ρ O w L (.row es)) {i:Nat} {r n:List D} (A:es[i]?=some n) (m:y4a n r):z1e P ρ O w L (.arow ((z5s es).set i (toA r))):=by
 obtain ⟨C,c,t,F,x,z⟩:=E
 refine ⟨C,c,t,F,fun k q a=>?_,fun k q j y a f=>?_⟩
 ·rw [eCr] at a
  split at a
  ·split at a
   ·cases a; rw [z01,m.1]; exact x i n A
   ·cases a
  ·rw [y5x] at a
   cases h:es[k]? with
   |none=>rw [h] at a; cases a
   |some o=>rw [h] at a; cases a; rw [z01]; exact x k o h
 ·rw [eCr] at a
  split at a
  ·rename_i v
   subst v
   split at a
   ·cases a
    rw [z1p] at f
    cases b:r[j]? with
    |none=>rw [b] at f; cases f
    |some d=>
     rw [b] at f; cases f
     obtain ⟨B,p,l⟩:=m.2 j d b
     obtain ⟨u,s,g,e⟩:=z i n j B A p
     exact ⟨u,s,g, .d (e.le l)⟩
   ·cases a
  ·rw [y5x] at a
   cases h:es[k]? with
   |none=>rw [h] at a; cases a
   |some o=>
    rw [h] at a; cases a
    rw [z1p] at f
    cases b:o[j]? with
    |none=>rw [b] at f; cases f
    |some d=>
     rw [b] at f; cases f
     obtain ⟨u,s,g,e⟩:=z k o j d h b
     exact ⟨u,s,g, .d e⟩
theorem y80 {P:Program} {ρ:Rho} {h:List AO} {w:World} {T:TypeId} {size:Nat} (hT:z92 P T=some size) (I:z0b P ρ h w) {id:Nat} {L:Loc} (Q:ρ id=some L) (b:(z0e h id).live=true) {es:List (List AV)}
  (Z:z1e P ρ (z0f ρ h) w L (.arow es)) {i off:Nat} {ra cells l:List AV} (n:es[i]?=some ra) (J:x6l ra off cells=some l) {g:Value} (hn:g.cells.size=size) (G:g.cells.size=cells.length) (p:∀ u∈g.cells.toList,u.oneCell'=true)
  (O:∀ (j:Nat) (y:AV),cells[j]?=some y→∃ u,g.cells[j]?=some u∧z0q ρ (z0f ρ h) w y u) (R:1≤size) (S:cells.length=size) (new:Nat):
  z0n P ρ h w new (z5g (Instr.storeAt T (.pointer (some ⟨L.blk,L.base+i*L.esz+off,none⟩)) g)) ⟨true, .bot,[(id, .arow (es.set i l))]⟩:=by
 obtain ⟨V,c,t,F,o,N⟩:=Z
 have H:=o i ra n
 obtain ⟨o1,o2,U⟩:=y0a J
 have H:=o i ra n
 have z:L.base+i*L.esz+off+size≤c.size:=by
  have f:L.esz - 1<ra.length:=by omega
  obtain ⟨v,X,_,_⟩:=N i ra (L.esz - 1) _ n (eAd f)
  have:=(eAi.1 X).1
  omega
 have C:=z9a (P:=P) hT F hn p z
 have B:∀ m,z1c w L.blk=some m→z1c (World.setObj w L.blk (.cells (c.toList.take (L.base+i*L.esz+off)++g.cells.toList++c.toList.drop (L.base+i*L.esz+off+g.cells.toList.length)).toArray t (0,0))) L.blk=some m:=by
  intro m hm
  rw [z0y F] at hm; cases hm
  rw [z0y (z0u _ _ _ (eAi.1 F).1)]
  congr 1
  simp; omega
 have M:=z16 I Q b (.arow (es.set i l)) rfl _ B
 refine ⟨undef,_,ρ,by simp only [z5g,eAw,C,eAo,eBf], .bot _,I.set Q b _ rfl _ B ?_,Ext.set _ I Q b _ rfl _ B, .inl rfl⟩
 have W:g.cells.toList.length=cells.length:=by simpa using G
 refine ⟨V,_,t,z0u _ _ _ (eAi.1 F).1,fun k q d=>?_,fun k q j y d r=>?_⟩
 ·simp only [eCr] at d
  split at d
  ·split at d
   ·cases d; omega
   ·cases d
  ·exact o k q d
 ·have e:=z5u c.toList g.cells.toList (L.base+i*L.esz+off) (L.base+k*L.esz+j) (by simp; omega)
  rw [eCh]
  simp only [eCr] at d
  split at d
  ·rename_i A
   subst A
   split at d
   ·cases d
    rw [U j] at r
    by_cases E:off≤j∧j<off+cells.length
    ·rw [if_pos E] at r
     obtain ⟨u,x,a⟩:=O _ _ r
     rw [if_pos (by omega)] at e
     rw [e,show L.base+i*L.esz+j - (L.base+i*L.esz+off)=j - off by omega]
     exact ⟨u,by simpa using x,p u (by rw [eAi] at x; obtain ⟨h1,h2⟩:=x; rw [←h2]; simp),a.keep M (fun _ _ h=>h)⟩
    ·rw [if_neg E] at r
     obtain ⟨u,x,s,a⟩:=N i ra j y n r
     rw [if_neg (by omega)] at e
     exact ⟨u,by rw [e]; simpa using x,s,a.keep M (fun _ _ h=>h)⟩
   ·cases d
  ·rename_i A
   obtain ⟨u,x,s,a⟩:=N k q j y d r
   have Y:j<L.esz:=by rw [←o k q d]; exact (eAe.1 r).1
   have K:¬ (L.base+i*L.esz+off≤L.base+k*L.esz+j∧L.base+k*L.esz+j<L.base+i*L.esz+off+g.cells.toList.length):=by
    rintro ⟨g1,g2⟩
    rcases Nat.lt_or_gt_of_ne A with f|f
    ·have:(i+1)*L.esz≤k*L.esz:=eBi _ f
     rw [eBe] at this; omega
    ·have:(k+1)*L.esz≤i*L.esz:=eBi _ f
     rw [eBe] at this; omega
   rw [if_neg K] at e
   exact ⟨u,by rw [e]; simpa using x,s,a.keep M (fun _ _ h=>h)⟩
theorem x20 {P : Program} {T : TypeId} {ti : TI} (ht : z7j P T ti) (p : Prim) (hp : p = std) {ρ : Rho} {h : List AO} {w : World} (hr : z0b P ρ h w) {r : List D} {ra : List AV} {a x : AV} {va vx : Value}
    (ha : z0q ρ (z0f ρ h) w a va) (hx : z0q ρ (z0f ρ h) w x vx) (hrow : x5n h a r ra) {res : Res} (hs : z5e p ti h r ra a x = some res) (hres : res.c = true) (new : Nat) :
    z0n P ρ h w new (z5g (Instr.storeAt T va vx)) res := by
  unfold z5e at hs
  split at hs
  rotate_left
  · cases hs
  rename_i cells hcells
  obtain ⟨hsz, hcv⟩ := y36 hcells hx
  cases hb : (eAz 1 ti.size && (z8s cells ti.size && z7t cells)) with
  | false => rw [hb] at hs; cases hs
  | true =>
  rw [hb] at hs
  simp only [eAf] at hb
  obtain ⟨hpos, hlen, hlv⟩ := hb
  have hpos := eAl hpos
  have hlen := z8r hlen
  have hone := w1h hlv hsz hcv
  have hn : vx.cells.size = ti.size := hsz.trans hlen
  simp only [cond_true] at hs
  unfold z40 at hs
  split at hs
  ·
    rename_i id off
    split at hs
    · rename_i old hob
      split at hs
      · rename_i l hov
        cases hs
        cases ha with
        | bptr _ _ L hL =>
          obtain ⟨_, ho⟩ := hr.obj id L hL
          rw [hob] at ho
          obtain ⟨hbase, c, t, hc, hj⟩ := ho
          obtain ⟨o1, o2, o3⟩ := y0a hov
          have hroom : L.base + off + ti.size ≤ c.size := by
            have hlt : off + ti.size - 1 < old.length := by omega
            obtain ⟨v, hv, _⟩ := hj (off + ti.size - 1) _ (eAd hlt)
            have := (eAi.1 hv).1
            omega
          have hrun := z9a (P := P) ht.size hc hn hone hroom
          have hlive : (z0e h id).live = true := by rw [hob]; rfl
          have hbs : ∀ m, z1c w L.blk = some m → z1c (World.setObj w L.blk (.cells (c.toList.take (L.base + off) ++ vx.cells.toList ++ c.toList.drop (L.base + off + vx.cells.toList.length)).toArray t (0, 0))) L.blk = some m := by
            intro m hm
            rw [z0y hc] at hm; cases hm
            rw [z0y (z0u _ _ _ (eAi.1 hc).1)]
            congr 1
            simp; omega
          have hk := z16 hr hL hlive (.box l) rfl _ hbs
          refine ⟨undef, _, ρ, by simp only [z5g, eAw, hrun, eAo, eBf], .bot _, hr.set hL hlive _ rfl _ hbs ?_, Ext.set _ hr hL hlive _ rfl _ hbs, .inl rfl⟩
          refine ⟨hbase, _, t, z0u _ _ _ (eAi.1 hc).1, fun j y hy => ?_⟩
          rw [o3 j] at hy
          have hsp := z5u c.toList vx.cells.toList (L.base + off) (L.base + j) (by simp; omega)
          have hvl : vx.cells.toList.length = cells.length := by simpa using hsz
          by_cases hin : off ≤ j ∧ j < off + cells.length
          · rw [if_pos hin] at hy
            obtain ⟨u, hu, hrel⟩ := hcv _ y hy
            refine ⟨u, ?_, hrel.keep hk (fun _ _ h => h)⟩
            rw [if_pos (by omega)] at hsp
            rw [eCh, hsp, show L.base + j - (L.base + off) = j - off by omega]
            simpa using hu
          · rw [if_neg hin] at hy
            obtain ⟨u, hu, hrel⟩ := hj j y hy
            refine ⟨u, ?_, hrel.keep hk (fun _ _ h => h)⟩
            rw [if_neg (by omega)] at hsp
            rw [eCh, hsp]
            simpa using hu
      · cases hs
    · rename_i es hob
      subst hp
      cases ha with
      | bptr _ _ L hL =>
        have ho := (hr.obj id L hL).2
        rw [hob] at ho
        have ho2 := ho
        obtain ⟨_, c, t, hc, _, _⟩ := ho
        have hcell := fun x0 hr0 => z9p ho2 (hrow es hob) hc (j := 0) (x := x0) hr0
        split at hs
        · rename_i x1 x0 hds
          cases hs
          obtain ⟨h1, hlt, _⟩ := hcell x0 rfl
          have hsz1 : ti.size = 1 := by rw [← hlen, z2b hds]; rfl
          refine y8z ht.size hr hob hL h1 hds hn hlen hone hcv hpos (by omega) _ (fun i => ?_) new
          simp only [std, eCr]
          by_cases hi : off = i
          · subst hi; simp; omega
          · rw [if_neg hi, if_neg (by simp; omega)]
        · rename_i ds x0 _ hds
          cases hs
          obtain ⟨h1, hlt, _⟩ := hcell x0 rfl
          have hdl : ds.length = cells.length := by rw [z2b hds, z01]
          have hroom : off + ds.length ≤ es.length := by
            simp only [std, w4j] at hres
            exact eAl hres
          have := y8z (off := off) ht.size hr hob hL h1 hds hn hlen hone hcv hpos (by omega) (std.splice es off (w4a ds)) (fun i => by
            have := z5u es (w4a ds) off i (by rw [x8q]; exact hroom)
            simp only [std, x8q] at this ⊢
            rw [this, x1n]) new
          obtain ⟨v', w', ρ', a1, a2, a3, a4, a5⟩ := this
          exact ⟨v', w', ρ', a1, a2, a3, a4, a5⟩
        · cases hs
    · cases hs
  ·
    rename_i id i off
    split at hs
    ·
      rename_i es hob
      split at hs
      · rename_i ds hds
        split at hs
        · rename_i l hov
          cases hs
          cases ha with
          | ptr _ _ _ L hL =>
            obtain ⟨_, ho⟩ := hr.obj id L hL
            rw [hob] at ho
            obtain ⟨hz, c, t, hc, hle, hj⟩ := ho
            obtain ⟨r0, hri, hrle⟩ := hrow.1 es hob
            obtain ⟨o1, o2, o3⟩ := y0a hov
            have hrl0 := hle i r0 hri
            have hrl : r.length = L.esz := hrle.1.trans hrl0
            have hdl : ds.length = cells.length := by rw [z2b hds, z01]
            have hroom : L.base + i * L.esz + off + ti.size ≤ c.size := by
              have hlt : L.esz - 1 < r0.length := by omega
              obtain ⟨v, hv, _, _⟩ := hj i r0 (L.esz - 1) _ hri (eAd hlt)
              have := (eAi.1 hv).1
              omega
            have hrun := z9a (P := P) ht.size hc hn hone hroom
            have hlive : (z0e h id).live = true := by rw [hob]; rfl
            have hbs : ∀ m, z1c w L.blk = some m → z1c (World.setObj w L.blk (.cells (c.toList.take (L.base + i * L.esz + off) ++ vx.cells.toList ++ c.toList.drop (L.base + i * L.esz + off + vx.cells.toList.length)).toArray t (0, 0))) L.blk = some m := by
              intro m hm
              rw [z0y hc] at hm; cases hm
              rw [z0y (z0u _ _ _ (eAi.1 hc).1)]
              congr 1
              simp; omega
            rw [hp]
            have hk := z16 hr hL hlive (.row (std.set es i l)) rfl _ hbs
            refine ⟨undef, _, ρ, by simp only [z5g, eAw, hrun, eAo, eBf], .bot _, hr.set hL hlive _ rfl _ hbs ?_, Ext.set _ hr hL hlive _ rfl _ hbs, .inl rfl⟩
            have hvl : vx.cells.toList.length = cells.length := by simpa using hsz
            refine ⟨hz, _, t, z0u _ _ _ (eAi.1 hc).1, fun k q hq => ?_, fun k q j y hq hy => ?_⟩
            · simp only [std, eCr] at hq
              split at hq
              · split at hq
                · cases hq; omega
                · cases hq
              · exact hle k q hq
            · have hsp := z5u c.toList vx.cells.toList (L.base + i * L.esz + off) (L.base + k * L.esz + j) (by simp; omega)
              rw [eCh]
              simp only [std, eCr] at hq
              split at hq
              · rename_i hki
                subst hki
                split at hq
                · cases hq
                  rw [o3 j] at hy
                  by_cases hin : off ≤ j ∧ j < off + ds.length
                  · rw [if_pos hin] at hy
                    have hy2 : cells[j - off]? = some (.d y) := by rw [z2b hds, z1p, hy]; rfl
                    obtain ⟨u, hu, hrel⟩ := hcv _ _ hy2
                    rw [if_pos (by omega)] at hsp
                    rw [hsp, show L.base + i * L.esz + j - (L.base + i * L.esz + off) = j - off by omega]
                    cases hrel with
                    | d hrel => exact ⟨u, by simpa using hu, hone u (by rw [eAi] at hu; obtain ⟨h1, h2⟩ := hu; rw [← h2]; simp), hrel.keep hk⟩
                  · rw [if_neg hin] at hy
                    obtain ⟨y0, hy0, hyle⟩ := hrle.2 j y hy
                    obtain ⟨u, hu, hu1, hrel⟩ := hj i r0 j y0 hri hy0
                    rw [if_neg (by omega)] at hsp
                    exact ⟨u, by rw [hsp]; simpa using hu, hu1, (hrel.le hyle).keep hk⟩
                · cases hq
              · rename_i hki
                obtain ⟨u, hu, hu1, hrel⟩ := hj k q j y hq hy
                have hqj : j < L.esz := by rw [← hle k q hq]; exact (eAe.1 hy).1
                have hne : ¬ (L.base + i * L.esz + off ≤ L.base + k * L.esz + j ∧ L.base + k * L.esz + j < L.base + i * L.esz + off + vx.cells.toList.length) := by
                  rintro ⟨g1, g2⟩
                  rcases Nat.lt_or_gt_of_ne hki with hlt | hlt
                  · have : (i + 1) * L.esz ≤ k * L.esz := eBi _ hlt
                    rw [eBe] at this; omega
                  · have : (k + 1) * L.esz ≤ i * L.esz := eBi _ hlt
                    rw [eBe] at this; omega
                rw [if_neg hne] at hsp
                exact ⟨u, by rw [hsp]; simpa using hu, hu1, hrel.keep hk⟩
        · cases hs
      · split at hs
        · rename_i l hov
          cases hs
          cases ha with
          | ptr _ _ _ L hL =>
            have ho := (hr.obj id L hL).2
            rw [hob] at ho
            obtain ⟨r0, hri, hrle⟩ := hrow.1 es hob
            have hil : i < (z5s es).length := by
              have := y5x es i
              rw [hri] at this
              exact (eAe.1 this).1
            have := y80 ht.size hr hL (by rw [hob]; rfl) (w84 ho hri hrle) (i := i) (ra := toA r) (by rw [eCr]; simp [hil]) hov hn hsz hone hcv hpos hlen new
            rw [List.set_set] at this
            exact this
        · cases hs
    ·
      rename_i es hob
      split at hs
      · rename_i l hov
        cases hs
        cases ha with
        | ptr _ _ _ L hL =>
          have ho := (hr.obj id L hL).2
          rw [hob] at ho
          exact y80 ht.size hr hL (by rw [hob]; rfl) ho (hrow.2 es hob) hov hn hsz hone hcv hpos hlen new
      · cases hs
    · cases hs
  · cases hs
end Go.Am
end
section
namespace Go.Am
section
variable {P:Program} {ρ:Rho} {h:List AO} {w:World}
theorem x79 {T:TypeId} {ti:TI} (c:z7j P T ti) (w:World):∃ z:Value,(zeroValue T).run P w= .ok z w∧z.cells.size=ti.size∧(ti.agg=true→∃ cs,z= .agg cs)∧(ti.agg=false→∀ cs,z≠ .agg cs)∧
  ∀ (O:Nat→Prop) (w':World) (j:Nat) (d:D),ti.zero[j]?=some d→∃ v,z.cells[j]?=some v∧z1m O w' d v:=by
 obtain ⟨i,z,k,a,l,g,m,f⟩:=c.zero
 obtain ⟨o,n⟩:=z8z l
 refine ⟨z,by simp [zeroValue,typeInfo,k,a],by rw [←g,o]; simp,m,f,fun O w' j d h=>?_⟩
 obtain ⟨v,b,e⟩:=n O w' j d h
 exact ⟨v,by simpa using b,e⟩
theorem y3u (b:z0b P ρ h w) {new:Nat} (d:ρ new=none) {T:TypeId} {s:Sem Value} (c:Array Value) (x:AV) (o:AO) (cap:Nat) (a:Nat) (v:Value)
  (f:s.run P w= .ok v (World.push w (.cells c T)))
  (g:z1e P (ρ.put new ⟨w.heap.size,0,a⟩) (z0f (ρ.put new ⟨w.heap.size,0,a⟩) (z04 h new o)) (World.push w (.cells c T)) ⟨w.heap.size,0,a⟩ o)
  (e:z0q (ρ.put new ⟨w.heap.size,0,a⟩) (z0f (ρ.put new ⟨w.heap.size,0,a⟩) (z04 h new o)) (World.push w (.cells c T)) x v):
  z0n P ρ h w new s ⟨true,x,[(new,o)]⟩:=
 ⟨v,_,_,f,e,b.new d a o _ g,Ext.new b d _ o _ rfl, .inr ⟨o,by simp⟩⟩
theorem x3l {k:IntKind} {l:List D} (h:y2n k l=true):∀ x∈l,x= .int k 0:=by
 induction l with
 |nil=>simp
 |cons d l c=>
  unfold y2n at h
  split at h
  ·rename_i b; cases b
  ·rename_i f e b
   cases b
   simp only [eAf,beq_iff_eq] at h
   intro x a
   rcases eBa.1 a with rfl|a
   ·rw [h.1]; rfl
   ·exact c h.2 x a
  ·cases h
theorem w20 {ti:TI} {k:IntKind} (h:w21 ti=some k):∀ x∈ti.zero,x= .int k 0:=by
 unfold w21 at h
 cases b:eAz 20 ti.size with
 |false=>rw [b] at h; cases h
 |true=>
  rw [b] at h
  simp only [cond_true] at h
  split at h
  ·rename_i c n l d
   cases a:y2n c ti.zero with
   |false=>rw [a] at h; cases h
   |true=>rw [a] at h; cases h; exact x3l a
  ·cases h
theorem x6y {ds:List D} (h:y63 ds=true):∀ x∈ds,v6o x=true:=by
 induction ds with
 |nil=>simp
 |cons d l b=>
  simp only [y63,eAf] at h
  intro x a
  rcases eBa.1 a with rfl|a
  ·exact h.1
  ·exact b h.2 x a
theorem w1i {O:Nat→Prop} {x:D} {v:Value} (h:v6o x=true) (a:z1m O w x v):v.oneCell'=true:=by
 cases a<;>first|rfl|cases h
theorem x3a {T : TypeId} {ti : TI} (ht : z7j P T ti) (hr : z0b P ρ h w) {new : Nat} (hn : ρ new = none) {res : Res} (hs : y2m std ti new = some res) :
    z0n P ρ h w new (Instr.alloc T true (.tuple #[])) res := by
  unfold y2m at hs
  cases hb : eAz 1 ti.size with
  | false => rw [hb] at hs; cases hs
  | true =>
  rw [hb] at hs
  simp only [cond_true] at hs
  obtain ⟨z, hz, hzs, _, _, hzr⟩ := x79 ht w
  have hzl : ti.zero.length = ti.size := by obtain ⟨_, _, _, _, _, hl, _⟩ := ht.zero; exact hl
  split at hs
  · rename_i k hw
    cases hs
    have hall := w20 hw
    refine y3u hr hn (T := T) z.cells (.bptr new 0) (.row (eAu ti.size [.int k 0])) 0 1 (.pointer (some ⟨w.heap.size, 0, none⟩)) ?_ ?_ ?_
    · simp only [Instr.alloc, eAw, hz, eAo, newVar, newRow, run_newObj, eBf]; rfl
    · refine ⟨Nat.one_pos, z.cells, T, z4h _ _, fun i r hi => ?_, fun i r j x hi hx => ?_⟩
      · rw [eCs] at hi
        split at hi
        · cases hi; rfl
        · cases hi
      · rw [eCs] at hi
        split at hi
        · rename_i hlt
          cases hi
          cases j with
          | succ j => simp at hx
          | zero =>
            simp at hx; subst hx
            have hq : ti.zero[i]? = some (.int k 0) := by
              rw [eAd (by omega)]
              exact congrArg some (hall _ (eDe _))
            obtain ⟨v, hv, hrel⟩ := hzr (z0f (ρ.put new ⟨w.heap.size, 0, 1⟩) (z04 h new (.row (eAu ti.size [.int k 0])))) (World.push w (.cells z.cells T)) i _ hq
            refine ⟨v, by simpa using hv, ?_, hrel⟩
            cases hrel; rfl
        · cases hi
    · exact .bptr new 0 ⟨w.heap.size, 0, 1⟩ (Rho.put_same _ _ _)
  cases hs
  refine y3u hr hn (T := T) z.cells (.bptr new 0) (.box (toA ti.zero)) 0 ti.size (.pointer (some ⟨w.heap.size, 0, none⟩)) ?_ ?_ ?_
  · simp only [Instr.alloc, eAw, hz, eAo, newVar, newRow, run_newObj, eBf]; rfl
  · refine ⟨rfl, z.cells, T, z4h _ _, fun j x hx => ?_⟩
    rw [z1p] at hx
    cases hq : ti.zero[j]? with
    | none => simp [hq] at hx
    | some d =>
      simp [hq] at hx; subst hx
      obtain ⟨v, hv, hrel⟩ := hzr (z0f (ρ.put new ⟨w.heap.size, 0, ti.size⟩) (z04 h new (.box (toA ti.zero)))) (World.push w (.cells z.cells T)) j d hq
      exact ⟨v, by simpa using hv, .d hrel⟩
  · exact .bptr new 0 ⟨w.heap.size, 0, ti.size⟩ (Rho.put_same _ _ _)
theorem w0v {T : TypeId} {ti : TI} (ht : z7j P T ti) (hr : z0b P ρ h w) {new : Nat} (hn : ρ new = none) {x : AV} {v : Value} (hx : z0q ρ (z0f ρ h) w x v) {res : Res}
    (hs : x01 ti new x = some res) : z0n P ρ h w new (Instr.box T v) res := by
  unfold x01 at hs
  cases hb : eAz 1 ti.size with
  | false => rw [hb] at hs; cases hs
  | true =>
  rw [hb] at hs
  simp only [cond_true] at hs
  split at hs
  · rename_i l hl
    cases hc : z8s l ti.size with
    | false => rw [hc] at hs; cases hs
    | true =>
    rw [hc] at hs
    simp only [cond_true] at hs
    obtain ⟨h1, h2⟩ := y36 hl hx
    split at hs
    · split at hs
      · rename_i ds hds
        cases hld : y63 ds with
        | false => rw [hld] at hs; cases hs
        | true =>
        rw [hld] at hs; cases hs
        refine y3u hr hn (T := T) v.cells (.bptr new 0) (.row (w4a ds)) 0 1 (.pointer (some ⟨w.heap.size, 0, none⟩)) ?_ ?_ ?_
        · simp only [Instr.box, eAw, newVar, newRow, run_newObj, eAo, eBf]; rfl
        · refine ⟨Nat.one_pos, v.cells, T, z4h _ _, fun i r hi => ?_, fun i r j x hi hx => ?_⟩
          · rw [x1n] at hi
            cases hd : ds[i]? with
            | none => rw [hd] at hi; cases hi
            | some d => rw [hd] at hi; cases hi; rfl
          · rw [x1n] at hi
            cases hd : ds[i]? with
            | none => rw [hd] at hi; cases hi
            | some d =>
              rw [hd] at hi; cases hi
              cases j with
              | succ j => simp at hx
              | zero =>
                simp at hx; subst hx
                obtain ⟨u, hu, hrel⟩ := h2 i (.d d) (by rw [z2b hds, z1p, hd]; rfl)
                cases hrel with
                | d hrel => exact ⟨u, by simpa using hu, w1i (x6y hld d (eAn hd)) hrel, hrel.keep (z7a hr hn _ _ _ rfl)⟩
        · exact .bptr new 0 ⟨w.heap.size, 0, 1⟩ (Rho.put_same _ _ _)
      · cases hs
    cases hs
    refine y3u hr hn (T := T) v.cells (.bptr new 0) (.box l) 0 ti.size (.pointer (some ⟨w.heap.size, 0, none⟩)) ?_ ?_ ?_
    · simp only [Instr.box, eAw, newVar, newRow, run_newObj, eAo, eBf]; rfl
    · refine ⟨rfl, v.cells, T, z4h _ _, fun j y hy => ?_⟩
      obtain ⟨u, hu, hrel⟩ := h2 j y hy
      exact ⟨u, by simpa using hu, hrel.keep (z7a hr hn _ _ _ rfl) (Rho.put_mono _ _ _ hn)⟩
    · exact .bptr new 0 ⟨w.heap.size, 0, ti.size⟩ (Rho.put_same _ _ _)
  · cases hs
theorem w5o (cs vs:List Value) (off:Nat) (acc:Array Value) (k:Nat):
  ((vs.zipIdx k).foldl (fun (a:Array Value) (x:Value×Nat)=>a.setIfInBounds (off+x.2) x.1) acc).size=acc.size∧
  (off+k+vs.length≤acc.size→∀ j,((vs.zipIdx k).foldl (fun (a:Array Value) (x:Value×Nat)=>a.setIfInBounds (off+x.2) x.1) acc)[j]?=
   if off+k≤j∧j<off+k+vs.length then vs[j - (off+k)]? else acc[j]?):=by
 induction vs generalizing acc k with
 |nil=>simp; intro _ j e d; omega
 |cons v vs f=>
  simp only [List.zipIdx_cons,eDo]
  obtain ⟨e,d⟩:=f (acc.setIfInBounds (off+k) v) (k+1)
  refine ⟨by rw [e]; simp,fun b j=>?_⟩
  rw [d (by simp at b⊢; omega) j,eDu]
  simp only [eCa] at b⊢
  by_cases g:j=off+k
  ·subst g
   rw [if_neg (by omega),if_pos rfl,if_pos (by omega),if_pos (by omega)]
   simp
  ·rw [if_neg (show ¬ off+k=j by omega)]
   by_cases c:off+(k+1)≤j∧j<off+(k+1)+vs.length
   ·rw [if_pos c,if_pos (by omega),show j - (off+k)=(j - (off+(k+1)))+1 by omega]; simp
   ·rw [if_neg c,if_neg (by omega)]
theorem y5g {O:Nat→Prop} (place:Nat→Option (Nat×Nat)):∀ (parts:List (Nat×AV)) (g:List (Nat×Value)) (cells r:List AV) (f:Array Value),
  y8h place cells parts=some r→g.length=parts.length→(∀ (k:Nat) (x:Nat×AV) (y:Nat×Value),parts[k]?=some x→g[k]?=some y→x.1=y.1∧z0q ρ O w x.2 y.2)→
  f.size=cells.length→(∀ (j:Nat) (x:AV),cells[j]?=some x→∃ v,f[j]?=some v∧z0q ρ O w x v)→
  ∃ rv:Array Value,Instr.fill place f g=some rv∧rv.size=r.length∧(∀ (j:Nat) (x:AV),r[j]?=some x→∃ v,rv[j]?=some v∧z0q ρ O w x v)
 |[],g,cells,r,f,c,q,B,z,F=>by
  simp [y8h] at c; subst c
  cases g with
  |nil=>exact ⟨f,rfl,z,F⟩
  |cons _ _=>simp at q
 |(i,x)::rest,g,cells,r,f,c,q,B,z,F=>by
  cases g with
  |nil=>simp at q
  |cons y g=>
   obtain ⟨K,v⟩:=y
   obtain ⟨e,s⟩:=B 0 (i,x) (K,v) (by simp) (by simp)
   simp at e; subst e
   simp only [y8h] at c
   split at c
   ·rename_i off size cs A E
    cases p:z8s cs size with
    |false=>rw [p] at c; cases c
    |true=>
    rw [p] at c
    simp only [cond_true] at c
    split at c
    ·rename_i l C
     obtain ⟨H,T⟩:=y36 E s
     obtain ⟨J,U,I⟩:=y0a C
     have t:=z8r p
     obtain ⟨S,G⟩:=w5o [] v.cells.toList off f 0
     simp only [eBk] at G
     have L:v.cells.toList.length=cs.length:=by simpa using H
     have d:off+v.cells.toList.length≤f.size:=by omega
     have h:v.cells.zipIdx.foldl (fun cs (x:Value×Nat)=>cs.setIfInBounds (off+x.2) x.1) f=(v.cells.toList.zipIdx 0).foldl (fun (a:Array Value) (x:Value×Nat)=>a.setIfInBounds (off+x.2) x.1) f:=by
      rw [←Array.foldl_toList]; simp
     obtain ⟨rv,R,Q,P⟩:=y5g place rest g l r _ c (by simpa using q) (fun k a b N p=>B (k+1) a b (by simpa using N) (by simpa using p))
      (by rw [S,z, ←J]) (fun j y m=>by
       rw [G d j]
       rw [I j] at m
       by_cases o:off≤j∧j<off+cs.length
       ·rw [if_pos o] at m
        rw [if_pos (by omega)]
        obtain ⟨u,M,n⟩:=T _ y m
        exact ⟨u,by simpa using M,n⟩
       ·rw [if_neg o] at m
        rw [if_neg (by omega)]
        exact F j y m)
     refine ⟨rv,?_,Q,P⟩
     simp only [Instr.fill,A]
     rw [if_neg]
     ·rw [h]; exact R
     ·simp only [eBh,decide_eq_true_eq,not_or]
      rw [eCg] at d
      refine ⟨not_not_intro (H.trans t),by omega⟩
    ·cases c
   ·cases c
theorem y6d (w:World) (fs:Array Field) (l:List (Nat×Nat×Bool)) (a:l.length=fs.size) (h:∀ (i:Nat) (x:Nat×Nat×Bool),l[i]?=some x→∃ f:Field,fs[i]?=some f∧f.offset=x.1∧z92 P f.type=some x.2.1∧z4q P f.type=some x.2.2):
  ∃ b:Array (Nat×Nat),(fs.mapM (fun f=>(do pure (f.offset, ←sizeOf f.type):Sem (Nat×Nat)))).run P w= .ok b w∧∀ i,b[i]?=(z2d l i).map fun f=>(f.1,f.2.1):=by
 have key:∀ (fl:List Field) (l:List (Nat×Nat×Bool)),l.length=fl.length→(∀ (i:Nat) (x:Nat×Nat×Bool),l[i]?=some x→∃ f:Field,fl[i]?=some f∧f.offset=x.1∧z92 P f.type=some x.2.1∧z4q P f.type=some x.2.2)→
   (fl.mapM (fun f=>(do pure (f.offset, ←sizeOf f.type):Sem (Nat×Nat)))).run P w= .ok (l.map fun f=>(f.1,f.2.1)) w:=by
  intro fl
  induction fl with
  |nil=>intro l a _; cases l<;>simp at a⊢
  |cons f fl d=>
   intro l a h
   cases l with
   |nil=>simp at a
   |cons x l=>
    obtain ⟨m,c,k,j,_⟩:=h 0 x (by simp)
    simp at c; subst c
    have:=d l (by simpa using a) (fun i y e=>by simpa using h (i+1) y (by simpa using e))
    simp only [List.mapM_cons,eAw,z1h j,eAo,eBf,this,eFs,k]
 refine ⟨(l.map fun f=>(f.1,f.2.1)).toArray,?_,fun i=>by simp [z1v]⟩
 rw [Array.mapM_eq_mapM_toList]
 simp only [Sem.run_map,key fs.toList l (by simpa using a) (fun i x g=>by simpa using h i x g),eAo]
def y5n (ρ:Rho) (O:Nat→Prop) (w:World) (parts:List (Nat×AV)) (a:List (Nat×Value)):Prop:=
 a.length=parts.length∧∀ (k:Nat) (x:Nat×AV) (y:Nat×Value),parts[k]?=some x→a[k]?=some y→x.1=y.1∧z0q ρ O w x.2 y.2
theorem y4e {T:TypeId} {ti:TI} {z:Value} {O:Nat→Prop} (c:∀ (O:Nat→Prop) (w':World) (j:Nat) (d:D),ti.zero[j]?=some d→∃ v,z.cells[j]?=some v∧z1m O w' d v):
  ∀ (j:Nat) (x:AV),(toA ti.zero)[j]?=some x→∃ v,z.cells[j]?=some v∧z0q ρ O w x v:=by
 intro j x b
 rw [z1p] at b
 cases e:ti.zero[j]? with
 |none=>simp [e] at b
 |some d=>
  simp [e] at b; subst b
  obtain ⟨v,f,a⟩:=c O w j d e
  exact ⟨v,f, .d a⟩
theorem y4p {O:Nat→Prop} {l:List AV} {x:AV} (e:z68 true l=some x) {rv:Array Value} (f:rv.size=l.length) (h:∀ (j:Nat) (x:AV),l[j]?=some x→∃ v,rv[j]?=some v∧z0q ρ O w x v):
  z0q ρ O w x (.agg rv):=by
 obtain ⟨v,b,a⟩:=z5x e rv.toList (by simpa using f) (fun j y v d b=>by
  obtain ⟨u,c,a⟩:=h j y d
  have:rv[j]?=some v:=by simpa using b
  rw [this] at c; cases c; exact a)
 simp at b; subst b; exact a
theorem x27 {T:TypeId} {ti:TI} (A:z7j P T ti) (I:z0b P ρ h w) {new:Nat} {parts:List (Nat×AV)} {q:Array (Nat×Value)}
  (r:y5n ρ (z0f ρ h) w parts q.toList) {res:Res} (a:z95 ti parts=some res):z0n P ρ h w new (Instr.build T q) res:=by
 obtain ⟨d,J,R,s⟩:=A.desc
 obtain ⟨z,H,j,N,M,k⟩:=x79 A w
 have m:ti.zero.length=ti.size:=by obtain ⟨_,_,_,_,_,o,_⟩:=A.zero; exact o
 unfold z95 at a
 split at a
 ·rename_i K g
  rw [g] at s
  obtain ⟨b,rfl,E,c⟩:=s
  split at a
  ·rename_i l o
   obtain ⟨x,y,rfl⟩:=z3r a
   obtain ⟨L,B,C⟩:=y6d (P:=P) w b K E c
   obtain ⟨u,t,G,F⟩:=y5g (ρ:=ρ) (w:=w) (O:=z0f ρ h) _ parts q.toList (toA ti.zero) l z.cells o r.1 r.2 (by rw [z01,m,j]) (y4e (T:=T) k)
   have p:(fun i=>(z2d K i).map fun f=>(f.1,f.2.1))=(fun i=>L[i]?):=by funext i; rw [C i]
   rw [p] at t
   refine z0n.pure (v:= .agg u) I ?_ (y4p y G F)
   simp only [Instr.build,eAw,H,eAo,z0h J,B,t,eBf]
  ·cases a
 ·rename_i n S U g
  rw [g] at s
  obtain ⟨e,rfl,c,Q⟩:=s
  split at a
  ·rename_i l o
   obtain ⟨x,y,rfl⟩:=z3r a
   obtain ⟨u,t,G,F⟩:=y5g (ρ:=ρ) (w:=w) (O:=z0f ρ h) _ parts q.toList (toA ti.zero) l z.cells o r.1 r.2 (by rw [z01,m,j]) (y4e (T:=T) k)
   refine z0n.pure (v:= .agg u) I ?_ (y4p y G F)
   simp only [Instr.build,eAw,H,eAo,z0h J,z1h c,t,eBf]
  ·cases a
 ·cases a
theorem z9b {T:TypeId} {ti:TI} (m:z7j P T ti) {fs:List (Nat×Nat×Bool)} (i:ti.desc= .struct fs) {f:Nat} {x:Nat×Nat×Bool} (l:fs[f]?=some x) (j:1≤x.2.1) (b o:Nat):
  (Instr.fieldAt T (.pointer (some ⟨b,o,none⟩)) f).run P w= .ok (.pointer (some ⟨b,o+x.1,none⟩)) w:=by
 obtain ⟨d,r,q,k⟩:=m.desc
 rw [i] at k
 obtain ⟨a,rfl,p,h⟩:=k
 obtain ⟨g,hg,n,c,_⟩:=h f x l
 have e:x.2.1≠0:=by omega
 simp only [Instr.fieldAt,eAw,z0h r,eAo,hg,Instr.sureAddr,eBf,fieldPlace,z1h c,e,if_false,eFd,z5n,n]
theorem x22 {T:TypeId} {ti:TI} (l:z7j P T ti) (m:z0b P ρ h w) {new f:Nat} {a:AV} {v:Value} (n:z0q ρ (z0f ρ h) w a v) {res:Res} (c:y2k ti f a=some res):
  z0n P ρ h w new (Instr.fieldAt T v f) res:=by
 unfold y2k at c
 split at c
 ·split at c
  ·rename_i y d
   split at c
   ·rename_i o s g j
    rw [z1v] at j
    cases e:eAz 1 s with
    |false=>rw [e] at c; cases c
    |true=>
    rw [e] at c; cases c
    cases n with
    |bptr id off L x=>
     refine z0n.pure m (z9b l d j (eAl e) _ _) ?_
     rw [eCf]; exact .bptr _ _ L x
   ·cases c
  ·cases c
 ·split at c
  ·rename_i y d
   split at c
   ·rename_i o s g j
    rw [z1v] at j
    cases e:eAz 1 s with
    |false=>rw [e] at c; cases c
    |true=>
    rw [e] at c; cases c
    cases n with
    |ptr id i off L x=>
     refine z0n.pure m (z9b l d j (eAl e) _ _) ?_
     rw [eCf]; exact .ptr _ _ _ L x
   ·cases c
  ·cases c
 ·split at c
  ·rename_i y d
   split at c
   ·rename_i o s g j
    rw [z1v] at j
    cases e:eAz 1 s with
    |false=>rw [e] at c; cases c
    |true=>
    rw [e] at c; cases c
    cases n with
    |wptr r off b p z k hO q u=>
     refine z0n.pure m (z9b l d j (eAl e) _ _) ?_
     rw [eCf]; exact .wptr _ _ b p z k hO q u
   ·cases c
  ·cases c
 ·split at c
  ·rename_i y d
   split at c
   ·rename_i o s g j
    rw [z1v] at j
    cases e:eAz 1 s with
    |false=>rw [e] at c; cases c
    |true=>
    rw [e] at c; cases c
    cases n with
    |lptr r off b p k hO cell A t=>
     refine z0n.pure m (z9b l d j (eAl e) _ _) ?_
     rw [eCf]; exact .lptr _ _ b p k hO cell A t
   ·cases c
  ·cases c
 ·cases c
theorem x4p (vs:Array Value) (o s:Nat):(vs.extract o (o+s)).toList=(vs.toList.drop o).take s:=by
 simp [Array.toList_extract,List.extract_eq_take_drop]
theorem z1i {α:Type} (l:List α) (o s j:Nat):((l.drop o).take s)[j]?=if j<s then l[o+j]? else none:=by
 rw [eFl]; split<;>simp [eDh]
theorem y0z {t:TypeId} {s:Nat} {a:Bool} (g:z92 P t=some s) (f:z4q P t=some a) (vs:Array Value) (o:Nat) (cs:List Value) (b:cs.length=s)
  (hg:∀ j,j<s→cs[j]?=vs[o+j]?) (v:Value) (c:if a then v= .agg cs.toArray else cs=[v]):(Go.part t vs o).run P w= .ok v w:=by
 cases a with
 |true=>
  simp at c; subst c
  have e:vs.extract o (o+s)=cs.toArray:=by
   apply Array.ext'
   rw [x4p]
   apply eCj
   intro j
   rw [z1i]
   split
   ·rename_i d; rw [hg j d]; simp
   ·rename_i d; symm; simp; omega
  simp only [Go.part,eAw,x1d f,eAo,if_true,z1h g,eBf,e,eFd]
 |false=>
  simp at c; subst c
  simp at b; subst b
  have:=hg 0 (by omega)
  simp at this
  simp [Go.part,x1d f, ←this]
theorem y9b {O:Nat→Prop} {l c:List AV} {o s:Nat} (m:part l o s=some c) {vs:Array Value} (p:vs.size=l.length) (k:∀ (i:Nat) (x:AV),l[i]?=some x→z0q ρ O w x (vs.getD i undef)):
  ∃ cs:List Value,cs.length=c.length∧(∀ j,j<s→cs[j]?=vs[o+j]?)∧∀ (j:Nat) (y:AV) (v:Value),c[j]?=some y→cs[j]?=some v→z0q ρ O w y v:=by
 obtain ⟨f,e⟩:=z3u m
 have d:∀ j,j<s→o+j<l.length:=by
  intro j a
  have:=e j a
  rw [eAd (show j<c.length by omega)] at this
  exact (eAe.1 this).1
 refine ⟨(vs.toList.drop o).take s,?_,fun j a=>by rw [z1i,if_pos a]; simp,fun j y v g b=>?_⟩
 ·rw [eCk,eGe,eCg,f]
  rcases Nat.eq_zero_or_pos s with n|n
  ·omega
  ·have:=d (s - 1) (by omega); omega
 ·have a:j<s:=by rw [←f]; exact (eAe.1 g).1
  rw [z1i,if_pos a] at b
  have h:=k (o+j) y (by rw [e j a]; exact g)
  rw [z9h (show vs[o+j]?=some v by simpa using b)] at h
  exact h
theorem y9a {O:Nat→Prop} {l c:List D} {o s:Nat} (m:part l o s=some c) {vs:Array Value} (p:vs.size=l.length) (k:∀ (i:Nat) (x:D),l[i]?=some x→z1m O w x (vs.getD i undef)):
  ∃ cs:List Value,cs.length=c.length∧(∀ j,j<s→cs[j]?=vs[o+j]?)∧∀ (j:Nat) (y:D) (v:Value),c[j]?=some y→cs[j]?=some v→z1m O w y v:=by
 obtain ⟨f,e⟩:=z3u m
 have d:∀ j,j<s→o+j<l.length:=by
  intro j a
  have:=e j a
  rw [eAd (show j<c.length by omega)] at this
  exact (eAe.1 this).1
 refine ⟨(vs.toList.drop o).take s,?_,fun j a=>by rw [z1i,if_pos a]; simp,fun j y v g b=>?_⟩
 ·rw [eCk,eGe,eCg,f]
  rcases Nat.eq_zero_or_pos s with n|n
  ·omega
  ·have:=d (s - 1) (by omega); omega
 ·have a:j<s:=by rw [←f]; exact (eAe.1 g).1
  rw [z1i,if_pos a] at b
  have h:=k (o+j) y (by rw [e j a]; exact g)
  rw [z9h (show vs[o+j]?=some v by simpa using b)] at h
  exact h
theorem y55 {T:TypeId} {ti:TI} (L:z7j P T ti) (I:z0b P ρ h w) {new f:Nat} {a:AV} {v:Value} (K:z0q ρ (z0f ρ h) w a v) {res:Res} (b:z7l ti f a=some res):
  z0n P ρ h w new (Instr.field T v f) res:=by
 obtain ⟨d,J,M,z⟩:=L.desc
 unfold z7l at b
 split at b
 ·split at b
  ·rename_i N n
   rw [n] at z
   obtain ⟨e,rfl,E,m⟩:=z
   split at b
   ·rename_i o s g r
    rw [z1v] at r
    obtain ⟨fl,p,u,l,q⟩:=m f _ r
    split at b
    ·rename_i c t
     obtain ⟨x,i,rfl⟩:=z3r b
     cases K with
     |d F=>cases F with
      |agg ds A C B=>
       obtain ⟨cs,y,H,G⟩:=y9a t C B
       obtain ⟨v,k,j⟩:=z4a (ρ:=ρ) i cs y G
       refine z0n.pure I ?_ j
       have:=y0z (P:=P) (w:=w) l q A o cs (y.trans (z3u t).1) H v k
       simp only at u
       simp only [Instr.field,eAw,z0h J,eAo,p,asAgg,eBf,u,this]
    ·cases b
   ·cases b
  ·cases b
 ·split at b
  ·rename_i N n
   rw [n] at z
   obtain ⟨e,rfl,E,m⟩:=z
   split at b
   ·rename_i o s g r
    rw [z1v] at r
    obtain ⟨fl,p,u,l,q⟩:=m f _ r
    split at b
    ·rename_i c t
     obtain ⟨x,i,rfl⟩:=z3r b
     cases K with
     |agg ds A C B=>
      obtain ⟨cs,y,H,G⟩:=y9b t C B
      obtain ⟨v,k,j⟩:=z5x i cs y G
      refine z0n.pure I ?_ j
      have:=y0z (P:=P) (w:=w) l q A o cs (y.trans (z3u t).1) H v k
      simp only at u
      simp only [Instr.field,eAw,z0h J,eAo,p,asAgg,eBf,u,this]
    ·cases b
   ·cases b
  ·cases b
 ·cases b
end
end Go.Am
end
section
namespace Go.Am
section
variable {P:Program} {ρ:Rho} {h:List AO} {w:World}
theorem z8g {T:TypeId} {e:TypeId} (d:P.underlying T=some (.slice e)) {a:Nat} (c:z92 P e=some a) (b o len cap:Nat) (k:IntKind) (i:Int) (g:0≤i) (f:i<len):
  (Instr.indexAt T (.slice (some ⟨b,o,none⟩) len cap) (.int k i)).run P w= .ok (.pointer (some ⟨b,o+i.toNat*a,none⟩)) w:=by
 simp only [Instr.indexAt,asIntOf,eAw,eBf,eAo,z0h d,eFd,g,f,and_self,if_true,z1h c,z5n]
theorem z5h {T:TypeId} {e:TypeId} {n:Nat} (d:P.underlying T=some (.array n e)) {a:Nat} (c:z92 P e=some a) (b o:Nat) (k:IntKind) (i:Int) (g:0≤i) (f:i<n):
  (Instr.indexAt T (.pointer (some ⟨b,o,none⟩)) (.int k i)).run P w= .ok (.pointer (some ⟨b,o+i.toNat*a,none⟩)) w:=by
 simp only [Instr.indexAt,asIntOf,eAw,eBf,eAo,z0h d,Instr.sureAddr,eFd,g,f,and_self,if_true,z1h c,z5n]
theorem z3q {i:Int} (h:std.cmp .geq i 0=true):0≤i:=by simpa [std,z3z] using h
theorem y0n {i j:Int} (h:std.cmp .lss i j=true):i<j:=by simpa [std,z3z] using h
theorem y4w {T : TypeId} {ti : TI} (ht : z7j P T ti) (hr : z0b P ρ h w) {new : Nat} {r : List D} {a ix : AV} {v vi : Value} (ha : z0q ρ (z0f ρ h) w a v) (hi : z0q ρ (z0f ρ h) w ix vi)
    (hrow : ∀ full z es k i, a = .d (.list full z es) → ix = .d (.int k i) → w7m es i.toNat r) {res : Res} (hs : z3p std std ti h r a ix = some res) (hc : res.c = true) :
    z0n P ρ h w new (Instr.indexAt T v vi) res := by
  obtain ⟨d, hd, hda, hk⟩ := ht.desc
  unfold z3p at hs
  split at hs
  ·
    rename_i full z0 es k i
    split at hs
    · rename_i e esz eb ea ez hdesc
      rw [hdesc] at hk
      obtain ⟨rfl, hsz, _, _, _⟩ := hk
      cases hb : eAk z0 esz with
      | false => rw [hb] at hs; cases hs
      | true =>
      rw [hb] at hs; cases hs
      have hzz := eAg hb
      subst hzz
      have h0 := z3q hc
      obtain ⟨r0, hri, hrle⟩ := hrow full z0 es k i rfl rfl
      have hlt := (eAe.1 hri).1
      cases hi with
      | d hi => cases hi with
        | int =>
      cases ha with
      | d ha => cases ha with
        | lnil => simp at hlt
        | list _ _ b o z c hz hne hO hlc hf hsz' cell h1c hcell hh =>
          refine z0n.pure hr (z8g hd hsz b o _ _ k i h0 (by omega)) ?_
          have hlen : r.length = z0 := hrle.1.trans (hsz' _ _ hri)
          have := z0q.lptr (ρ := ρ) (O := z0f ρ h) (w := w) r 0 b (o + i.toNat * z0) (by
              have : 0 < es.length * z0 := Nat.mul_pos (by omega) hz
              exact y19 (hcell 0 this)) hO (fun j => cell (i.toNat * z0 + j)) (fun j hj => by
              rw [eCf]
              refine hcell _ ?_
              have : (i.toNat + 1) * z0 ≤ es.length * z0 := eBi _ hlt
              rw [eBe] at this; omega) (fun j x hx => let ⟨x0, hx0, hxle⟩ := hrle.2 j x hx; (hh _ _ _ _ hri hx0).le hxle)
          simpa using this
    · cases hs
  ·
    rename_i id z off len cap k i
    split at hs
    · rename_i e esz eb ea ez hdesc
      rw [hdesc] at hk
      obtain ⟨rfl, hsz, _, _, _⟩ := hk
      cases hb : eAk z esz with
      | false => rw [hb] at hs; cases hs
      | true =>
      rw [hb] at hs; cases hs
      have hzz := eAg hb
      subst hzz
      simp only [eAf] at hc
      have h0 := z3q hc.1
      have h1 : i < len := y0n hc.2
      cases hi with
      | d hi => cases hi with
        | int =>
      cases ha with
      | nils => omega
      | slice _ _ _ _ _ L a c hL hz haa hcc hle =>
        have hc0 : 0 < c := by omega
        rw [haa hc0]
        refine z0n.pure hr (z8g hd hsz _ _ _ _ k i h0 h1) ?_
        have := z0q.ptr (ρ := ρ) (O := z0f ρ h) (w := w) id (off + i.toNat) 0 L hL
        rw [hz, eBe, eBk, ← eCf] at this
        rw [hz]; exact this
    · cases hs
  ·
    rename_i id off k i
    split at hs
    · rename_i n esz ea hdesc
      rw [hdesc] at hk
      obtain ⟨e, rfl, hsz, _⟩ := hk
      obtain ⟨u, hu, hres⟩ : ∃ u : Nat, u = off + i.toNat * esz ∧ res = ⟨std.cmp .geq i 0 && std.cmp .lss i (std.ofNat n), .bptr id u, []⟩ := by
        split at hs
        · cases hs
          refine ⟨_, ?_, rfl⟩
          show off + _ = _
          congr 1
          cases hb : eAk esz 1 with
          | true => have := eAg hb; subst this; simp [std]
          | false => rfl
        · cases hs; exact ⟨_, rfl, rfl⟩
      subst hres
      simp only [eAf] at hc
      have h0 := z3q hc.1
      have h1 : i < n := y0n hc.2
      cases hi with
      | d hi => cases hi with
        | int =>
      cases ha with
      | bptr _ _ L hL =>
        refine z0n.pure hr (z5h hd hsz _ _ k i h0 h1) ?_
        have := z0q.bptr (ρ := ρ) (O := z0f ρ h) (w := w) id (off + i.toNat * esz) L hL
        rw [← eCf] at this; rw [hu]; exact this
    · cases hs
  ·
    rename_i id j off k i
    split at hs
    · rename_i n esz ea hdesc
      rw [hdesc] at hk
      obtain ⟨e, rfl, hsz, _⟩ := hk
      cases hs
      simp only [eAf] at hc
      have h0 := z3q hc.1
      have h1 : i < n := y0n hc.2
      cases hi with
      | d hi => cases hi with
        | int =>
      cases ha with
      | ptr _ _ _ L hL =>
        refine z0n.pure hr (z5h hd hsz _ _ k i h0 h1) ?_
        have := z0q.ptr (ρ := ρ) (O := z0f ρ h) (w := w) id j (off + i.toNat * esz) L hL
        rw [← eCf] at this; exact this
    · cases hs
  ·
    rename_i c off k i
    split at hs
    · rename_i n esz ea hdesc
      rw [hdesc] at hk
      obtain ⟨e, rfl, hsz, _⟩ := hk
      cases hs
      simp only [eAf] at hc
      have h0 := z3q hc.1
      have h1 : i < n := y0n hc.2
      cases hi with
      | d hi => cases hi with
        | int =>
      cases ha with
      | wptr _ _ b o z hlt hO hz hcc =>
        refine z0n.pure hr (z5h hd hsz _ _ k i h0 h1) ?_
        have hu : std.add off (bif eAk esz 1 then std.nat i else std.mul (std.nat i) esz) = off + i.toNat * esz := by
          show off + _ = _
          congr 1
          cases hb : eAk esz 1 with
          | true => have := eAg hb; subst this; simp [std]
          | false => rfl
        have := z0q.wptr (ρ := ρ) (O := z0f ρ h) (w := w) c (off + i.toNat * esz) b o z hlt hO hz hcc
        rw [← eCf] at this
        show z0q _ _ _ (.wptr c (std.add off _)) _
        rw [hu]; exact this
    · cases hs
  ·
    rename_i c off k i
    split at hs
    · rename_i n esz ea hdesc
      rw [hdesc] at hk
      obtain ⟨e, rfl, hsz, _⟩ := hk
      cases hs
      simp only [eAf] at hc
      have h0 := z3q hc.1
      have h1 : i < n := y0n hc.2
      cases hi with
      | d hi => cases hi with
        | int =>
      cases ha with
      | lptr _ _ b o hlt hO cell hcc hrr =>
        refine z0n.pure hr (z5h hd hsz _ _ k i h0 h1) ?_
        have := z0q.lptr (ρ := ρ) (O := z0f ρ h) (w := w) c (off + i.toNat * esz) b o hlt hO cell hcc hrr
        rw [← eCf] at this; exact this
    · cases hs
  · cases hs
theorem y54 {T:TypeId} {ti:TI} (S:z7j P T ti) (H:z0b P ρ h w) {new:Nat} {a R:AV} {v Q:Value} (t:z0q ρ (z0f ρ h) w a v) (j:z0q ρ (z0f ρ h) w R Q)
  {res:Res} (f:z7k std std ti a R=some res) (m:res.c=true):z0n P ρ h w new (Instr.index T v Q) res:=by
 obtain ⟨d,K,U,y⟩:=S.desc
 unfold z7k at f
 split at f
 ·rename_i l k i
  split at f
  ·rename_i n L M b
   rw [b] at y
   obtain ⟨e,rfl,g,r⟩:=y
   split at f
   ·rename_i c z
    cases o:z52 M c with
    |none=>rw [o] at f; cases f
    |some x=>
    rw [o] at f; cases f
    simp only [eAf] at m
    have B:=z3q m.1
    have E:i<n:=y0n m.2
    cases j with
    |d j=>cases j with
     |int=>
    cases t with
    |d t=>cases t with
     |agg ds F J G=>
      obtain ⟨cs,C,O,N⟩:=y9a z J G
      obtain ⟨u,q,p⟩:=z4a (ρ:=ρ) o cs C N
      have:=y0z (P:=P) (w:=w) g r F _ cs (C.trans (z3u z).1) O u q
      refine ⟨u,w,ρ,?_,p,H,Ext.refl _ _ _ _, .inl rfl⟩
      simp only [Instr.index,asIntOf,eAw,eBf,eAo,z0h K,eFd,B,E,and_self,if_true,z1h g]
      exact this
   ·cases f
  ·cases f
 ·rename_i l k i
  split at f
  ·rename_i n L M b
   rw [b] at y
   obtain ⟨e,rfl,g,r⟩:=y
   split at f
   ·rename_i c z
    cases o:z68 M c with
    |none=>rw [o] at f; cases f
    |some x=>
    rw [o] at f; cases f
    simp only [eAf] at m
    have B:=z3q m.1
    have E:i<n:=y0n m.2
    cases j with
    |d j=>cases j with
     |int=>
    cases t with
    |agg ds F J G=>
      obtain ⟨cs,C,O,N⟩:=y9b z J G
      obtain ⟨u,q,p⟩:=z5x o cs C N
      have:=y0z (P:=P) (w:=w) g r F _ cs (C.trans (z3u z).1) O u q
      refine ⟨u,w,ρ,?_,p,H,Ext.refl _ _ _ _, .inl rfl⟩
      simp only [Instr.index,asIntOf,eAw,eBf,eAo,z0h K,eFd,B,E,and_self,if_true,z1h g]
      exact this
   ·cases f
  ·cases f
 ·rename_i s k i
  split at f
  ·rename_i b
   rw [b] at y
   cases y
   cases f
   simp only [eAf] at m
   have B:=z3q m.1
   have E:i<s.size:=y0n m.2
   cases j with
   |d j=>cases j with
    |int=>
   cases t with
   |d t=>cases t with
    |str=>
     have I:i.toNat<s.size:=by omega
     have A:s[i.toNat]?=some s[i.toNat]:=by simp [I]
     refine z0n.pure H ?_ (.d (.int _ _))
     simp only [Instr.index,asIntOf,eAw,eBf,eAo,z0h K,B,if_true,A,std,eBo,eCd]
  ·cases f
 ·cases f
theorem z5i (op:BinOp) (T:TypeId) (k:IntKind) (a b:Int) (c:y1h op= .divs→b≠0) (d:y1h op= .shift→0≤b):
  (binOp op T (.int k a) (.int k b)).run P w= .ok (match y1h op with| .comp=> .bool (z3z op a b)|_=> .int k (x6a op k a b)) w:=by
 cases op<;>simp [binOp,y1h,x6a,z3z,Op.intArith,Op.intDiv,Op.intBits,Op.intCmp,Op.shift] at* <;>first
  |simp [c]
  |(intro e; omega)
  |skip
theorem y6f (op:BinOp) (T:TypeId) (k d:IntKind) (a b:Int) (c:y1h op= .shift) (e:0≤b):
  (binOp op T (.int k a) (.int d b)).run P w= .ok (.int k (x6a op k a b)) w:=by
 cases op<;>simp [y1h] at c<;>simp [binOp,x6a,Op.shift]<;>(intro f; omega)
end
end Go.Am
end
section
namespace Go.Am
def eq1:SK→Value→Value→Option Bool
 | .i, .int k a, .int c b=>if k=c then some (a==b) else none
 | .b, .bool a, .bool b=>some (a==b)
 | .s, .string a, .string b=>some (a.toList==b.toList)
 |_,_,_=>none
def z81:List SK→List Value→List Value→Option Bool
 |[],[],[]=>some true
 |k::ks,x::xs,y::c=>match eq1 k x y,z81 ks xs c with
  |some a,some b=>some (a&&b)
  |_,_=>none
 |_,_,_=>none
theorem u2q {x y:Value} {b:Bool} (h:eq1 .i x y=some b):∃ k a c,x= .int k a∧y= .int k c∧b=(a==c):=by
 unfold eq1 at h
 split at h
 ·rename_i k a f c _
  by_cases d:k=f
  ·rw [if_pos d] at h; subst d; cases h; exact ⟨_,_,_,rfl,rfl,rfl⟩
  ·rw [if_neg d] at h; cases h
 ·rename_i e; cases e
 ·rename_i e; cases e
 ·cases h
theorem u2r {x y:Value} {b:Bool} (h:eq1 .b x y=some b):∃ a c,x= .bool a∧y= .bool c∧b=(a==c):=by
 unfold eq1 at h
 split at h
 ·rename_i e; cases e
 ·cases h; exact ⟨_,_,rfl,rfl,rfl⟩
 ·rename_i e; cases e
 ·cases h
theorem u2p {x y:Value} {b:Bool} (h:eq1 .s x y=some b):∃ a c,x= .string a∧y= .string c∧b=(a.toList==c.toList):=by
 unfold eq1 at h
 split at h
 ·rename_i e; cases e
 ·rename_i e; cases e
 ·cases h; exact ⟨_,_,rfl,rfl,rfl⟩
 ·cases h
theorem x9k {ks:List SK} {xs a:List Value} {b:Bool} (h:z81 ks xs a=some b):xs.length=ks.length∧a.length=ks.length:=by
 induction ks generalizing xs a b with
 |nil=>cases xs<;>cases a<;>simp [z81] at h⊢
 |cons k ks c=>
  cases xs with
  |nil=>simp [z81] at h
  |cons x xs=>
   cases a with
   |nil=>simp [z81] at h
   |cons y a=>
    simp only [z81] at h
    split at h
    ·rename_i d; have:=c d; simp; omega
    ·cases h
theorem y9y {d i:List SK} {xs e:List Value} {b:Bool} (h:z81 (d++i) xs e=some b):
  ∃ g f,z81 d (xs.take d.length) (e.take d.length)=some g∧z81 i (xs.drop d.length) (e.drop d.length)=some f∧b=(g&&f):=by
 induction d generalizing xs e b with
 |nil=>exact ⟨true,b,by simp [z81],by simpa using h,by simp⟩
 |cons k d j=>
  cases xs with
  |nil=>simp [z81] at h
  |cons x xs=>
   cases e with
   |nil=>simp [z81] at h
   |cons y e=>
    simp only [eGr,z81] at h
    split at h
    ·rename_i a c m l
     cases h
     obtain ⟨g,f,o,n,rfl⟩:=j l
     exact ⟨a&&g,f,by simp [z81,m,o],by simpa using n,by cases a<;>simp⟩
    ·cases h
section
variable {P:Program} {w:World}
def Holds (P:Program) (t:TypeId) (v:Value) (cs:List Value):Prop:=
 ∃ a,z4q P t=some a∧z92 P t=some cs.length∧if a then v= .agg cs.toArray else cs=[v]
theorem z8f {t:TypeId} {s:Nat} {a:Bool} (c:z92 P t=some s) (d:z4q P t=some a) (xs:List Value) (o:Nat) (i:o+s≤xs.length) (h:a=false→s=1):
  ∃ v,(∀ w,(Go.part t xs.toArray o).run P w= .ok v w)∧Holds P t v ((xs.drop o).take s):=by
 have b:((xs.drop o).take s).length=s:=by simp; omega
 cases a with
 |true=>
  refine ⟨.agg ((xs.drop o).take s).toArray,fun w=>y0z c d xs.toArray o _ b (fun j f=>by rw [z1i,if_pos f]; simp) _ rfl,true,d,by rw [b]; exact c,rfl⟩
 |false=>
  have:=h rfl; subst this
  have g:xs[o]?=some xs[o]:=eAd (by omega)
  have e:(xs.drop o).take 1=[xs[o]]:=by
   apply eCj; intro j; rw [z1i]
   cases j<;>simp [g]
  refine ⟨xs[o],fun w=>y0z c d xs.toArray o [xs[o]] rfl ?_ _ rfl,false,d,by rw [b]; exact c,e⟩
  intro j f
  have:j=0:=by omega
  subst this; simp
theorem y2z {n:Nat} {t:TypeId} {a:Bool} {ks:List SK} (c:z45 P n t=some ks) (e:z4q P t=some a):a=false→ks.length=1:=by
 intro g; subst g
 cases n with
 |zero=>simp [z45] at c
 |succ n=>
  unfold z4q at e
  simp only [z45] at c
  split at c
  ·rename_i h b
   split at c
   ·cases c
    unfold w5q at b
    cases f:P.underlying t with
    |none=>simp [f] at e
    |some d=>
     rw [f] at b e
     cases d<;>simp only [eBo,z79,Option.some.injEq,Bool.true_eq_false] at b e<;>first
      |(cases b; rfl)
      |cases b
      |cases e
   ·cases c
  ·cases c
theorem y20 {n:Nat} {t:TypeId} {ks:List SK} (b:z45 P n t=some ks):∃ a,z4q P t=some a:=by
 cases n with
 |zero=>simp [z45] at b
 |succ n=>
  unfold z4q
  cases c:P.underlying t with
  |none=>simp [z45,w5q,c] at b
  |some d=>exact ⟨_,rfl⟩
theorem x7e (n d:Nat) (H:∀ (t:TypeId) (ks:List SK) (x y:Value) (xs e:List Value) (b:Bool) (w:World),z45 P n t=some ks→Holds P t x xs→Holds P t y e→z81 ks xs e=some b→(eCw d t x y).run P w= .ok b w):
  ∀ (fs:List Field) (off:Nat) (ks:List SK) (xs e:List Value) (b:Bool),w85 P (z45 P n) off fs=some ks→xs.length=off+ks.length→e.length=off+ks.length→z81 ks (xs.drop off) (e.drop off)=some b→
   (Op.eqFields d xs.toArray e.toArray fs).run P w= .ok b w:=by
 intro fs
 induction fs with
 |nil=>
  intro off ks xs e b c q o i
  simp [w85] at c; subst c
  have j:xs.drop off=[]:=by simp at q⊢; omega
  have L:e.drop off=[]:=by simp at o⊢; omega
  rw [j,L] at i; simp [z81] at i; subst i
  simp [Op.eqFields]
 |cons f fs l=>
  intro off ks xs e b c q o i
  simp only [w85] at c
  split at c
  ·rename_i K
   obtain ⟨J,I⟩:=K
   split at c
   ·rename_i k h
    split at c
    ·rename_i A
     cases s:w85 P (z45 P n) (off+k.length) fs with
     |none=>rw [s] at c; cases c
     |some G=>
     rw [s] at c; simp at c; subst c
     obtain ⟨a,u⟩:=y20 h
     have j:=y2z h u
     rw [eCz] at q o
     obtain ⟨F,z,p⟩:=z8f (P:=P) A u xs off (by omega) j
     obtain ⟨E,v,m⟩:=z8f (P:=P) A u e off (by omega) j
     obtain ⟨C,N,M,B,rfl⟩:=y9y i
     rw [eGf,eGf] at B
     have r:=H f.type k F E _ _ C w h p m M
     have g:=l (off+k.length) G xs e N s (by omega) (by omega) B
     rw [←I] at z v
     simp only [Op.eqFields,J,ne_eq,not_false_eq_true,if_true,eAw,z,v,r,eAo,eFd,eBf,g]
     cases C<;>simp
    ·cases c
   ·cases c
  ·cases c
theorem x7c (d:Nat) (e:TypeId) (s:Nat) (a:Bool) (ks:List SK) (p:ks.length=s) (u:z92 P e=some s) (z:z4q P e=some a) (h:a=false→s=1)
  (H:∀ (x y:Value) (xs c:List Value) (b:Bool) (w:World),Holds P e x xs→Holds P e y c→z81 ks xs c=some b→(eCw d e x y).run P w= .ok b w) (xs c:List Value):
  ∀ (m i:Nat) (b:Bool),xs.length=(i+m)*s→c.length=(i+m)*s→z81 (eAu m ks).flatten (xs.drop (i*s)) (c.drop (i*s))=some b→
   ((forIn (List.range' i m) ((none,()):Option Bool×Unit) (fun i r=>(do
    let x←Go.part e xs.toArray (i*s)
    let y←Go.part e c.toArray (i*s)
    let q←eCw d e x y
    if (!q)=true then pure (.done (some false,())) else pure (.yield (none,())):Sem (ForInStep (Option Bool×Unit))))):Sem (Option Bool×Unit)).run P w
    = .ok (if b then (none,()) else (some false,())) w:=by
 intro m
 induction m with
 |zero=>
  intro i b o l g
  have h:xs.drop (i*s)=[]:=by simp at o⊢; omega
  have J:c.drop (i*s)=[]:=by simp at l⊢; omega
  rw [h,J] at g
  simp [z81] at g; subst g
  simp
 |succ m j=>
  intro i b o l g
  simp only [List.replicate_succ,List.flatten_cons] at g
  have v:(i+(m+1))*s=i*s+s+m*s:=by rw [eBe,eBe]; omega
  obtain ⟨B,K,A,t,rfl⟩:=y9y g
  rw [p] at A t
  rw [eGf,eGf] at t
  obtain ⟨E,G,n⟩:=z8f (P:=P) u z xs (i*s) (by omega) h
  obtain ⟨C,F,k⟩:=z8f (P:=P) u z c (i*s) (by omega) h
  have I:=H E C _ _ B w n k A
  have f:=j (i+1) K (by rw [o]; congr 1; omega) (by rw [l]; congr 1; omega) (by rw [eBe,Nat.one_mul]; exact t)
  rw [List.range'_succ,List.forIn_cons]
  simp only [eAw,G,F,I,eAo,eFd,eBf]
  cases B
  ·simp
  ·simp only [eCp,eAh,if_false,eAo,Bool.true_and]
   exact f
theorem z6y:∀ (n:Nat) (t:TypeId) (ks:List SK),z45 P n t=some ks→z92 P t=some ks.length:=by
 intro n
 cases n with
 |zero=>intro t ks h; simp [z45] at h
 |succ n=>
  intro t ks h
  simp only [z45] at h
  split at h
  ·split at h<;>simp_all
  ·cases h
theorem y9w:∀ (n d:Nat),n≤d→∀ (t:TypeId) (ks:List SK) (x y:Value) (xs o:List Value) (b:Bool) (w:World),z45 P n t=some ks→Holds P t x xs→Holds P t y o→z81 ks xs o=some b→
  (eCw d t x y).run P w= .ok b w:=by
 intro n
 induction n with
 |zero=>intro d _ t ks x y xs o b w l; simp [z45] at l
 |succ n H=>
  intro d T t ks x y xs o b w l z v j
  obtain ⟨d,rfl⟩:∃ e,d=e+1:=⟨d - 1,by omega⟩
  have J:=z6y _ _ _ l
  obtain ⟨a,F,S,i⟩:=z
  obtain ⟨U,E,K,h⟩:=v
  rw [F] at E; cases E
  have scalar:a=false→∀ k,ks=[k]→eq1 k x y=some b:=by
   intro O k L; subst O; subst L; simp at i h; subst i; subst h
   simp only [z81] at j
   split at j
   ·rename_i c e N M; cases j; cases M; simpa using N
   ·cases j
  unfold z4q at F
  simp only [z45] at l
  split at l
  rotate_left
  ·cases l
  rename_i R f
  split at l
  rotate_left
  ·cases l
  cases l
  unfold w5q at f
  cases p:P.underlying t with
  |none=>simp [p] at F
  |some ds=>
   simp [p] at F; subst F
   rw [p] at f
   cases ds<;>simp only at f<;>try (cases f; done)
   ·cases f
    obtain ⟨a,c,rfl,rfl,rfl⟩:=u2r (scalar rfl _ rfl)
    simp [eCw,z0h p,beq_toListBytes]
   ·cases f
    obtain ⟨k,a,c,rfl,rfl,rfl⟩:=u2q (scalar rfl _ rfl)
    simp [eCw,z0h p]
   ·cases f
    obtain ⟨a,c,rfl,rfl,rfl⟩:=u2p (scalar rfl _ rfl)
    simp [eCw,z0h p,beq_toListBytes]
   ·rename_i m e
    simp [z79] at i h; subst i; subst h
    cases s:z45 P n e with
    |none=>rw [s] at f; cases f
    |some u=>
    rw [s] at f; simp at f; subst f
    have A:=z6y _ _ _ s
    obtain ⟨Q,C⟩:=y20 s
    have g:=x9k j
    have q:(eAu m u).flatten.length=m*u.length:=by simp
    have:=x7c (P:=P) (w:=w) d e u.length Q u rfl A C (y2z s C) (fun x y xs o b w z v j=>H d (by omega) e u x y xs o b w s z v j) xs o m 0 b
     (by rw [g.1,q]; simp) (by rw [g.2,q]; simp) (by simpa using j)
    simp only [eCw,eAw,z0h p,eAo,z1h A]
    rw [Std.Legacy.Range.forIn_eq_forIn_range']
    have r:([:m]:Std.Legacy.Range).size=m:=by simp [Std.Legacy.Range.size]
    rw [r]
    erw [this]
    cases b<;>simp
   ·rename_i I
    simp [z79] at i h; subst i; subst h
    split at f
    ·cases f
    ·rename_i G
     have B:P.fieldsOf t=I:=by simp [Program.fieldsOf,p]
     rw [run_equalIn_struct w d t _ _ (by rw [B]; exact p) (by simpa using G),B]
     have g:=x9k j
     exact x7e (P:=P) (w:=w) n d (fun t ks x y xs o b w l z v j=>H d (by omega) t ks x y xs o b w l z v j) I.toList 0 _ xs o b f (by simpa using g.1) (by simpa using g.2) (by simpa using j)
end
end Go.Am
end
section
namespace Go.Am
section
variable {P:Program} {ρ:Rho} {h:List AO} {w:World}
theorem y7a {T:TypeId} {O:Nat→Prop} {x:D} {v:Value} (h:z1m O w x v) {n:Nat} (b:(z0x x).length=n) (d:z92 P T=some n) (k:z4q P T=some (z1w x)):
  ∃ cs:List Value,Holds P T v cs∧cs.length=n∧∀ (j:Nat) (y:D) (u:Value),(z0x x)[j]?=some y→cs[j]?=some u→z1m O w y u:=by
 have f:=h
 by_cases a:z1w x=true
 ·cases h with
  |agg ds g i l=>
   simp [z0x] at b
   refine ⟨g.toList,⟨true,k,by rw [d]; simp [i,b],by simp⟩,by simp [i,b],fun j y u e c=>?_⟩
   have:=l j y e
   rw [z9h (show g[j]?=some u by simpa using c)] at this
   exact this
  |_=>cases a
 ·have o:z0x x=[x]:=by cases x<;>first|rfl|exact absurd rfl a
  have m:z1w x=false:=by simpa using a
  rw [o] at b⊢
  simp at b; subst b
  refine ⟨[v],⟨false,by rw [k,m],by simpa using d,by simp⟩,rfl,fun j y u e c=>?_⟩
  cases j with
  |zero=>simp at e c; subst e; subst c; exact f
  |succ j=>simp at c
theorem y9z {O:Nat→Prop}:∀ (ks:List SK) (xs f:List D) (g d:List Value) (b:Bool),z1r std ks xs f=some b→g.length=xs.length→d.length=f.length→
  (∀ (j:Nat) (y:D) (u:Value),xs[j]?=some y→g[j]?=some u→z1m O w y u)→(∀ (j:Nat) (y:D) (u:Value),f[j]?=some y→d[j]?=some u→z1m O w y u)→z81 ks g d=some b:=by
 intro ks
 induction ks with
 |nil=>
  intro xs f g d b h q p _ _
  cases xs<;>cases f<;>simp [z1r] at h
  cases g<;>cases d<;>simp at q p
  simp [z81,h]
 |cons k ks G=>
  intro xs f g d b h q p C B
  cases xs with
  |nil=>cases k<;>simp [z1r] at h
  |cons x xs=>
  cases f with
  |nil=>cases k<;>cases x<;>simp [z1r] at h
  |cons y f=>
  cases g with
  |nil=>simp at q
  |cons u g=>
  cases d with
  |nil=>simp at p
  |cons v d=>
  have t:=C 0 x u (by simp) (by simp)
  have s:=B 0 y v (by simp) (by simp)
  have tail:∀ r,z1r std ks xs f=some r→z81 ks g d=some r:=fun r i=>G xs f g d r i (by simpa using q) (by simpa using p) (fun j a b A z=>C (j+1) a b (by simpa using A) (by simpa using z))
   (fun j a b A z=>B (j+1) a b (by simpa using A) (by simpa using z))
  unfold z1r at h
  split at h
  ·rename_i e _ _; cases e
  ·rename_i F a _ E c _ o n m
   cases o; cases n; cases m
   cases t; cases s
   cases l:(F==E) with
   |false=>rw [l] at h; cases h
   |true=>
   rw [l] at h; simp only [cond_true] at h
   split at h
   ·rename_i r i; cases h
    have H:F=E:=by simpa using l
    subst H
    simp [z81,eq1,tail r i,std,z3z]
   ·cases h
  ·rename_i a _ c _ o n m
   cases o; cases n; cases m
   cases t; cases s
   split at h
   ·rename_i r i; cases h; simp [z81,eq1,tail r i,std]
   ·cases h
  ·rename_i a _ c _ o n m
   cases o; cases n; cases m
   cases t; cases s
   split at h
   ·rename_i r i; cases h; simp [z81,eq1,tail r i,std]
   ·cases h
  ·cases h
def x7d:Value→Value→Prop
 | .agg _,_=>False
 | .nilIface,_=>False
 |_,_=>True
theorem y6e {op:BinOp} {T:TypeId} (x y:Operand) {a b:Value} (hg:(∀ xs c,a= .agg xs→b= .agg c→P.eqGuardType P.depth T=false)) (d:a= .nilIface→b= .nilIface→False):
  (eqGuard op T x y a b).run P w= .ok () w:=by
 unfold eqGuard
 cases op<;>try (simp; done)
 all_goals
  cases a<;>cases b<;>first
   |(simp; done)
   |(exact (d rfl rfl).elim)
   |(rename_i xs c; simp [hg xs c rfl rfl])
theorem y7j:∀ (ks:List SK) (xs a:List D) (b:Bool),z1r std ks xs a=some b→xs.length=ks.length∧a.length=ks.length:=by
 intro ks
 induction ks with
 |nil=>intro xs a b h; cases xs<;>cases a<;>simp [z1r] at h⊢
 |cons k ks m=>
  intro xs a b h
  cases xs with
  |nil=>cases k<;>simp [z1r] at h
  |cons x xs=>
  cases a with
  |nil=>cases k<;>cases x<;>simp [z1r] at h
  |cons y a=>
  have tail:∀ r,z1r std ks xs a=some r→(x::xs).length=(k::ks).length∧(y::a).length=(k::ks).length:=by
   intro r c; have:=m _ _ _ c; simp; omega
  unfold z1r at h
  split at h
  ·rename_i e _ _; cases e
  ·rename_i l _ _ j _ _ i g f
   cases i; cases g; cases f
   cases d:(l==j) with
   |false=>rw [d] at h; cases h
   |true=>
   rw [d] at h; simp only [cond_true] at h
   split at h
   ·rename_i c; exact tail _ c
   ·cases h
  ·rename_i i g f
   cases i; cases g; cases f
   split at h
   ·rename_i c; exact tail _ c
   ·cases h
  ·rename_i i g f
   cases i; cases g; cases f
   split at h
   ·rename_i c; exact tail _ c
   ·cases h
  ·cases h
theorem y33:∃ n,∀ T x y,Op.equal T x y=eCw (n+1) T x y:=⟨9999,fun _ _ _=>rfl⟩
theorem u2n {T:TypeId} {ti:TI} (t:z7j P T ti) {x y:AV} {o n:Value} (f:z0q ρ (z0f ρ h) w x o) (g:z0q ρ (z0f ρ h) w y n) {b:Bool} (i:eqA std ti x y=some b):
  (Op.equal T o n).run P w= .ok b w∧(∀ xs s,o= .agg xs→n= .agg s→P.eqGuardType P.depth T=false)∧(o= .nilIface→n= .nilIface→False):=by
 obtain ⟨d,k,B,j⟩:=t.desc
 unfold eqA at i
 split at i
 ·rename_i ks a c u
  obtain ⟨A,hg⟩:=t.eqk ks u
  cases r:((z1w a==ti.agg)&&(z1w c==ti.agg)) with
  |false=>rw [r] at i; cases i
  |true=>
  rw [r] at i; simp only [cond_true] at i
  simp only [eAf,beq_iff_eq] at r
  obtain ⟨z,v⟩:=y7j ks _ _ _ i
  cases f with
  |d f=>cases g with
   |d g=>
    have p:=z6y _ _ _ A
    obtain ⟨xs,F,E,C⟩:=y7a (P:=P) (T:=T) f z p (by rw [r.1]; exact t.agg)
    obtain ⟨s,I,H,G⟩:=y7a (P:=P) (T:=T) g v p (by rw [r.2]; exact t.agg)
    refine ⟨y9w 8 Op.maxDepth (by decide) T ks o n xs s b w A F I (y9z ks _ _ xs s b i (E.trans z.symm) (H.trans v.symm) C G),fun _ _ _ _=>hg,?_⟩
    intro J K; subst J; cases f
    unfold z1r at i
    split at i<;>simp_all [z0x]
 ·obtain ⟨m,hm⟩:=y33
  rw [hm]
  unfold x4s at i
  split at i<;>(try (cases i; done))<;>(split at i<;>(try (cases i; done)))<;>cases i
  all_goals rename_i l; rw [l] at j
  ·obtain ⟨_,_,_,rfl⟩:=j
   cases f with|d f=>cases g with|d g=>
   cases f; cases g
   exact ⟨by simp [eCw,z0h k],by simp,by simp⟩
  ·obtain ⟨_,_,_,rfl⟩:=j
   cases f with|d f=>
   cases f; cases g
   exact ⟨by simp [eCw,z0h k],by simp,by simp⟩
  ·obtain ⟨_,_,_,rfl⟩:=j
   cases g with|d g=>
   cases g; cases f
   exact ⟨by simp [eCw,z0h k],by simp,by simp⟩
  ·rename_i q
   have:∃ e,d= .pointer e:=by
    cases q with
    |none=>exact j
    |some q=>obtain ⟨e,_,rfl,_⟩:=j; exact ⟨e,rfl⟩
   obtain ⟨e,rfl⟩:=this
   cases f with|d f=>cases g with|d g=>
   cases f; cases g
   exact ⟨by simp [eCw,z0h k],by simp,by simp⟩
  ·rename_i q
   have:∃ e,d= .pointer e:=by
    cases q with
    |none=>exact j
    |some q=>obtain ⟨e,_,rfl,_⟩:=j; exact ⟨e,rfl⟩
   obtain ⟨e,rfl⟩:=this
   cases f with|d f=>
   cases f; cases g
   exact ⟨by simp [eCw,z0h k],by simp,by simp⟩
  ·rename_i q
   have:∃ e,d= .pointer e:=by
    cases q with
    |none=>exact j
    |some q=>obtain ⟨e,_,rfl,_⟩:=j; exact ⟨e,rfl⟩
   obtain ⟨e,rfl⟩:=this
   cases g with|d g=>
   cases g; cases f
   exact ⟨by simp [eCw,z0h k],by simp,by simp⟩
  ·obtain ⟨_,rfl⟩:=j
   cases g with|d g=>
   cases g; cases f
   exact ⟨by simp [eCw,z0h k],by simp,by simp⟩
  ·obtain ⟨_,rfl⟩:=j
   cases f with|d f=>
   cases f; cases g
   exact ⟨by simp [eCw,z0h k],by simp,by simp⟩
def Odd (x y:Value):Prop:=
 match x,y with
 | .int _ _, .int _ _| .float _ _, .float _ _| .complex _ _ _, .complex _ _ _| .string _, .string _=>False
 |_,_=>True
theorem y0q {T:TypeId} {x y:Value} (h:Odd x y):binOp .eql T x y=(do pure (.bool (←Op.equal T x y))):=by
 unfold binOp
 split<;>simp_all [Odd]
theorem y0p {T:TypeId} {x y:Value} (h:Odd x y):binOp .neq T x y=(do pure (.bool (!(←Op.equal T x y)))):=by
 unfold binOp
 split<;>simp_all [Odd]
theorem w50 {ti:TI} {x y:AV} (h:x= .bot∨y= .bot):eqA std ti x y=none:=by
 rcases h with rfl|rfl
 ·cases ti with|mk a b c d e f=>cases f<;>simp [eqA,x4s]
 ·cases ti with|mk a b c d e f=>cases f<;>cases x<;>simp [eqA,x4s]<;>(rename_i z; cases z<;>simp [x4s])
theorem x14 {ti:TI} {x y:AV} (h:(∃ es,x= .perm es)∨∃ es,y= .perm es):eqA std ti x y=none:=by
 rcases h with ⟨es,rfl⟩|⟨es,rfl⟩
 ·cases ti with|mk a b c d e f=>cases f<;>simp [eqA,x4s]
 ·cases ti with|mk a b c d e f=>cases f<;>cases x<;>simp [eqA,x4s]<;>(rename_i z; cases z<;>simp [x4s])
theorem x1c (op:BinOp) (T:TypeId) (k:IntKind) (a b:Int) (c:y1h op= .comp):(binOp op T (.int k a) (.int k b)).run P w= .ok (.bool (z3z op a b)) w:=by
 have:=z5i (P:=P) (w:=w) op T k a b (by rw [c]; simp) (by rw [c]; simp)
 rw [c] at this; exact this
theorem z58 {op:BinOp} {T:TypeId} (x y:Operand) {a b:Value} (h:x7d a b):(eqGuard op T x y a b).run P w= .ok () w:=
 y6e x y (fun f e c d=>by subst c; exact h.elim) (fun c d=>by subst c; exact h.elim)
theorem v50 {y:Operand} (h:u0u y=true):y= .const .nilIface:=by
 unfold u0u at h
 split at h
 ·rfl
 ·cases h
theorem x5z {T:TypeId} {ti:TI} (k:z7j P T ti) (f:z0b P ρ h w) {new:Nat} {op:BinOp} (j:Operand) {x:AV} {i:Value} (b:z0q ρ (z0f ρ h) w x i)
  {res:Res} (e:y48 ti op x=some res):z0n P ρ h w new (do eqGuard op T j (.const .nilIface) i .nilIface; binOp op T i .nilIface) res:=by
 obtain ⟨d,g,_,c⟩:=k.desc
 obtain ⟨m,hm⟩:=y33
 unfold y48 at e
 split at e
 ·rename_i a
  rw [a] at c
  obtain ⟨_,rfl⟩:=c
  cases e
  cases b with|d b=>
  cases b
  refine z0n.pure f ?_ (.d (.bool _))
  rw [y0q (show Odd .nilIface .nilIface from trivial),hm]
  simp [eqGuard,eCw,z0h g]
 ·rename_i a
  rw [a] at c
  obtain ⟨_,rfl⟩:=c
  cases e
  cases b with|d b=>
  cases b
  refine z0n.pure f ?_ (.d (.bool _))
  rw [y0p (show Odd .nilIface .nilIface from trivial),hm]
  simp [eqGuard,eCw,z0h g]
 ·rename_i a
  rw [a] at c
  obtain ⟨_,rfl⟩:=c
  cases e
  cases b
  refine z0n.pure f ?_ (.d (.bool _))
  rw [y0q (show Odd (.iface _ _) .nilIface from trivial),hm]
  simp [eqGuard,eCw,z0h g]
 ·rename_i a
  rw [a] at c
  obtain ⟨_,rfl⟩:=c
  cases e
  cases b
  refine z0n.pure f ?_ (.d (.bool _))
  rw [y0p (show Odd (.iface _ _) .nilIface from trivial),hm]
  simp [eqGuard,eCw,z0h g]
 ·cases e
theorem v52 {y:Operand} (h:u0v y=true):y= .const (.slice none 0 0):=by
 unfold u0v at h
 split at h
 ·rfl
 ·cases h
theorem x0z {T:TypeId} {ti:TI} (t:z7j P T ti) (j:z0b P ρ h w) {new:Nat} {op:BinOp} (s r:Operand) {x:AV} {f:Value} (e:z0q ρ (z0f ρ h) w x f)
  {res:Res} (i:y0x std ti op x=some res) (l:res.c=true):z0n P ρ h w new (do eqGuard op T s r f (.slice none 0 0); binOp op T f (.slice none 0 0)) res:=by
 obtain ⟨d,k,_,q⟩:=t.desc
 obtain ⟨m,hm⟩:=y33
 have list:∀ full z es,z0q ρ (z0f ρ h) w (.d (.list full z es)) f→std.leN 1 (std.len es)=true→∃ a n c,f= .slice (some a) n c:=by
  intro full z es e p
  have:=eAl p
  cases e with|d e=>
  cases e with
  |lnil=>simp [std] at this
  |list _ _ b o _ c=>exact ⟨_,_,_,rfl⟩
 have slice:∀ id z off len cap,z0q ρ (z0f ρ h) w (.slice id z off len cap) f→std.leN 1 len=true→∃ a n c,f= .slice (some a) n c:=by
  intro id z off len cap e p
  have:=eAl p
  cases e with
  |nils=>omega
  |slice _ _ _ _ _ L a c _ _ v _ u=>rw [v (by omega)]; exact ⟨_,_,_,rfl⟩
 unfold y0x at i
 split at i<;>(try (cases i; done))<;>cases i<;>rename_i g<;>rw [g] at q<;>obtain ⟨rfl,_⟩:=q
 ·obtain ⟨a,n,c,rfl⟩:=list _ _ _ e l
  exact z0n.pure j (by rw [y0q (by trivial),hm]; simp [eqGuard,eCw,z0h k]) (.d (.bool _))
 ·obtain ⟨a,n,c,rfl⟩:=list _ _ _ e l
  exact z0n.pure j (by rw [y0p (by trivial),hm]; simp [eqGuard,eCw,z0h k]) (.d (.bool _))
 ·obtain ⟨a,n,c,rfl⟩:=slice _ _ _ _ _ e l
  exact z0n.pure j (by rw [y0q (by trivial),hm]; simp [eqGuard,eCw,z0h k]) (.d (.bool _))
 ·obtain ⟨a,n,c,rfl⟩:=slice _ _ _ _ _ e l
  exact z0n.pure j (by rw [y0p (by trivial),hm]; simp [eqGuard,eCw,z0h k]) (.d (.bool _))
theorem w0w {T:TypeId} {ti:TI} (G:z7j P T ti) (m:z0b P ρ h w) {new:Nat} {op:BinOp} (p o:Operand) {x y:AV} {t s:Value} (l:z0q ρ (z0f ρ h) w x t) (j:z0q ρ (z0f ρ h) w y s)
  {res:Res} (f:x02 std ti op x y=some res) (E:res.c=true):z0n P ρ h w new (do eqGuard op T p o t s; binOp op T t s) res:=by
 unfold x02 at f
 split at f
 ·rename_i k a u b
  cases l with|d l=>cases j with|d j=>
  cases l; cases j
  have hg:(eqGuard op T p o (.int k a) (.int u b)).run P w= .ok () w:=z58 p o trivial
  split at f
  ·rename_i g
   cases e:(k==u) with
   |false=>rw [e] at f; cases f
   |true=>
   rw [e] at f; simp at e; subst e; cases f
   have:=z5i (P:=P) (w:=w) op T k a b (by rw [g]; simp) (by rw [g]; simp)
   rw [g] at this
   exact z0n.pure m (by simp only [eAw,hg,eAo]; exact this) (.d (.int _ _))
  ·rename_i g
   cases e:(k==u) with
   |false=>rw [e] at f; cases f
   |true=>
   rw [e] at f; simp at e; subst e; cases f
   have:=z5i (P:=P) (w:=w) op T k a b (by rw [g]; simp) (by rw [g]; simp)
   rw [g] at this
   exact z0n.pure m (by simp only [eAw,hg,eAo]; exact this) (.d (.int _ _))
  ·rename_i g
   cases e:(k==u) with
   |false=>rw [e] at f; cases f
   |true=>
   rw [e] at f; simp at e; subst e; cases f
   have F:b≠0:=by simpa [std,z3z] using E
   have:=z5i (P:=P) (w:=w) op T k a b (fun _=>F) (by rw [g]; simp)
   rw [g] at this
   exact z0n.pure m (by simp only [eAw,hg,eAo]; exact this) (.d (.int _ _))
  ·rename_i g
   cases f
   have:=y6f (P:=P) (w:=w) op T k u a b g (z3q E)
   exact z0n.pure m (by simp only [eAw,hg,eAo]; exact this) (.d (.int _ _))
  ·rename_i g
   cases e:(k==u) with
   |false=>rw [e] at f; cases f
   |true=>
   rw [e] at f; simp at e; subst e; cases f
   exact z0n.pure m (by simp only [eAw,hg,eAo]; exact x1c op T k a b g) (.d (.bool _))
 ·rename_i a b
  cases l with|d l=>cases j with|d j=>
  cases l; cases j
  split at f
  ·cases f
   exact z0n.pure m (by simp [z58 (P:=P) (w:=w) (op:= .eql) (T:=T) p o (a:= .string a) (b:= .string b) trivial,binOp,Op.stringOp,std]) (.d (.bool _))
  ·cases f
   exact z0n.pure m (by simp [z58 (P:=P) (w:=w) (op:= .neq) (T:=T) p o (a:= .string a) (b:= .string b) trivial,binOp,Op.stringOp,std]) (.d (.bool _))
  ·cases f
   have i:a.size+b.size≤1000000:=eAl E
   have C:¬ ((a.size+b.size:Nat):Int)>IntKind.i64.max:=by
    have:IntKind.i64.max=9223372036854775807:=by decide
    rw [this]; omega
   refine z0n.pure m ?_ (.d (.str _))
   simp only [z58 (P:=P) (w:=w) (op:= .add) (T:=T) p o (a:= .string a) (b:= .string b) trivial,eAw,eAo,binOp,Op.stringOp]
   rw [if_neg C]
   rfl
  ·cases f
 ·rename_i B A
  have n:∀ b,eqA std ti x y=some b→∀ op,op= .eql∨op= .neq→(binOp op T t s).run P w= .ok (.bool (if op= .eql then b else !b)) w∧(eqGuard op T p o t s).run P w= .ok () w:=by
   intro b i op g
   obtain ⟨v,z,H⟩:=u2n G l j i
   refine ⟨?_,y6e p o z H⟩
   have q:Odd t s:=by
    cases l with
    |bot=>rw [w50 (.inl rfl)] at i; cases i
    |perm=>rw [x14 (.inl ⟨_,rfl⟩)] at i; cases i
    |d l=>
     cases j with
     |bot=>rw [w50 (.inr rfl)] at i; cases i
     |perm=>rw [x14 (.inr ⟨_,rfl⟩)] at i; cases i
     |d j=>
      cases l<;>first
       |(cases j<;>first|trivial|exact (B _ _ _ _ rfl rfl).elim|exact (A _ _ rfl rfl).elim)
     |_=>cases l<;>trivial
    |_=>
     cases j with
     |perm=>rw [x14 (.inr ⟨_,rfl⟩)] at i; cases i
     |_=>trivial
   rcases g with rfl|rfl
   ·rw [y0q q]; simp [v]
   ·rw [y0p q]; simp [v]
  split at f
  ·cases r:eqA std ti x y with
   |none=>rw [r] at f; cases f
   |some b=>
   rw [r] at f; cases f
   obtain ⟨v,z⟩:=n b r .eql (.inl rfl)
   exact z0n.pure m (by simp only [eAw,z,eAo]; exact v) (.d (.bool _))
  ·cases r:eqA std ti x y with
   |none=>rw [r] at f; cases f
   |some b=>
   rw [r] at f; cases f
   obtain ⟨v,z⟩:=n b r .neq (.inr rfl)
   exact z0n.pure m (by simp only [eAw,z,eAo]; exact v) (.d (.bool _))
  ·cases f
end
end Go.Am
end
section
namespace Go.Am
def Els.toA:Els→List (List AV)
 | .d es=>z5s es
 | .a es=>es
def AO.rows:AO→Option (List (List AV))
 | .row es=>some (z5s es)
 | .arow es=>some es
 |_=>none
theorem z4y (es:List (List D)):z5s es=es.map toA:=by
 induction es with
 |nil=>rfl
 |cons r l a=>simp [z5s,a]
theorem z3o (es:List (List D)) (i:Nat):(z5s es)[i]?=(es[i]?).map toA:=by rw [z4y]; simp
theorem z0s (es:List (List D)):(z5s es).length=es.length:=by rw [z4y]; simp
section
variable {P:Program} {ρ:Rho} {h:List AO} {w:World}
def z3f (ρ:Rho) (O:Nat→Prop) (w:World) (z:Nat) (es:List (List AV)) (cs:List Value):Prop:=
 cs.length=es.length*z∧(∀ (i:Nat) (r:List AV),es[i]?=some r→r.length=z)∧
  ∀ (i:Nat) (r:List AV) (j:Nat) (y:AV),es[i]?=some r→r[j]?=some y→∃ v,cs[i*z+j]?=some v∧v.oneCell'=true∧z0q ρ O w y v
theorem z3f.keep {ρ':Rho} {O O':Nat→Prop} {w':World} {z:Nat} {es:List (List AV)} {cs:List Value} (k:z5d O O' w w') (a:∀ id L,ρ id=some L→ρ' id=some L) (h:z3f ρ O w z es cs):
  z3f ρ' O' w' z es cs:=
 ⟨h.1,h.2.1,fun i r j y e d=>let ⟨v,b,f,c⟩:=h.2.2 i r j y e d; ⟨v,b,f,c.keep k a⟩⟩
theorem z3f.nil (O:Nat→Prop) (z:Nat):z3f ρ O w z [] []:=⟨by simp,by simp,by simp⟩
theorem x4c {z k n:Nat} (a:0<z) (h:k<n*z):k / z<n∧k % z<z∧k=k / z*z+k % z:=by
 refine ⟨(eFw a).2 h,eGh _ a,?_⟩
 rw [eFm]; exact (Nat.div_add_mod k z).symm
theorem z3f.append {O:Nat→Prop} {z:Nat} {a b:List (List AV)} {x y:List Value} (o:z3f ρ O w z a x) (n:z3f ρ O w z b y):z3f ρ O w z (a++b) (x++y):=by
 obtain ⟨h,A,t⟩:=o
 obtain ⟨s,q,p⟩:=n
 refine ⟨by simp [h,s,eBe],fun i r c=>?_,fun i r j v c k=>?_⟩
 ·rw [eBr] at c
  split at c
  ·exact A i r c
  ·exact q _ r c
 ·rw [eBr] at c
  split at c
  ·rename_i l
   obtain ⟨u,d,g,f⟩:=t i r j v c k
   refine ⟨u,?_,g,f⟩
   rw [eFh]
   ·exact d
   ·exact (eAe.1 d).1
  ·rename_i m
   obtain ⟨u,d,g,f⟩:=p _ r j v c k
   refine ⟨u,?_,g,f⟩
   have e:i*z=a.length*z+(i - a.length)*z:=by rw [←eBe]; congr 1; omega
   rw [eFt (by rw [h]; omega),h,show i*z+j - a.length*z=(i - a.length)*z+j by omega]
   exact d
theorem z1e.rows {O:Nat→Prop} {L:Loc} {o:AO} {es:List (List AV)} (g:o.rows=some es) (h:z1e P ρ O w L o):
  0<L.esz∧∃ (c:Array Value) (t:TypeId),w.heap[L.blk]?=some (.cells c t (0,0))∧(∀ (i:Nat) (r:List AV),es[i]?=some r→r.length=L.esz)∧
   ∀ (i:Nat) (r:List AV) (j:Nat) (y:AV),es[i]?=some r→r[j]?=some y→∃ v,c[L.base+i*L.esz+j]?=some v∧v.oneCell'=true∧z0q ρ O w y v:=by
 cases o<;>simp [AO.rows] at g
 ·subst g
  obtain ⟨k,c,t,s,n,p⟩:=h
  refine ⟨k,c,t,s,fun i r a=>?_,fun i r j y a f=>?_⟩
  ·rw [z3o] at a
   rename_i es
   cases e:es[i]? with
   |none=>simp [e] at a
   |some q=>simp [e] at a; subst a; rw [z01]; exact n i q e
  ·rename_i es
   rw [z3o] at a
   cases e:es[i]? with
   |none=>simp [e] at a
   |some q=>
    simp [e] at a; subst a
    rw [z1p] at f
    cases b:q[j]? with
    |none=>simp [b] at f
    |some d=>
     simp [b] at f; subst f
     obtain ⟨v,l,u,m⟩:=p i q j d e b
     exact ⟨v,l,u, .d m⟩
 ·subst g; exact h
theorem z1e.of_rows {O:Nat→Prop} {L:Loc} {o:AO} {es:List (List AV)} (b:o.rows=some es) (f:0<L.esz) (c:Array Value) (t:TypeId) (k:w.heap[L.blk]?=some (.cells c t (0,0)))
  (g:∀ (i:Nat) (r:List AV),es[i]?=some r→r.length=L.esz)
  (h:∀ (i:Nat) (r:List AV) (j:Nat) (y:AV),es[i]?=some r→r[j]?=some y→∃ v,c[L.base+i*L.esz+j]?=some v∧v.oneCell'=true∧z0q ρ O w y v):z1e P ρ O w L o:=by
 cases o<;>simp [AO.rows] at b
 ·subst b
  rename_i es
  refine ⟨f,c,t,k,fun i r e=>?_,fun i r j y e l=>?_⟩
  ·have:=g i (toA r) (by rw [z3o,e]; rfl)
   rwa [z01] at this
  ·obtain ⟨v,m,n,a⟩:=h i (toA r) j (.d y) (by rw [z3o,e]; rfl) (by rw [z1p,l]; rfl)
   cases a with|d a=>exact ⟨v,m,n,a⟩
 ·subst b; exact ⟨f,c,t,k,g,h⟩
theorem x8a {O:Nat→Prop} {z:Nat} (s:0<z) {es:List (List AV)} (n:Nat) (f:Nat→Option Value)
  (h:∀ (i:Nat) (r:List AV),es[i]?=some r→r.length=z) (t:n=es.length)
  (q:∀ (i:Nat) (r:List AV) (j:Nat) (y:AV),es[i]?=some r→r[j]?=some y→∃ v,f (i*z+j)=some v∧v.oneCell'=true∧z0q ρ O w y v):
  ∃ cs:List Value,z3f ρ O w z es cs∧∀ (k:Nat) (v:Value),cs[k]?=some v→f k=some v:=by
 have b:∀ k,k<n*z→∃ v,f k=some v:=by
  intro k e
  obtain ⟨A,o,x⟩:=x4c s e
  have d:es[k / z]?=some es[k / z]:=eAd (by omega)
  have m:k % z<(es[k / z]).length:=by rw [h _ _ d]; exact o
  have c:(es[k / z])[k % z]?=some (es[k / z])[k % z]:=eAd m
  obtain ⟨v,a,_,_⟩:=q _ _ _ _ d c
  exact ⟨v,by rw [x]; exact a⟩
 refine ⟨(eAv (n*z)).map (fun k=>(f k).getD undef),⟨by simp [t],h,fun i r j y l c=>?_⟩,fun k v a=>?_⟩
 ·obtain ⟨v,a,g,d⟩:=q i r j y l c
  have A:=(eAe.1 l).1
  have o:=(eAe.1 c).1
  rw [h i r l] at o
  have:i*z+j<n*z:=by
   have:(i+1)*z≤n*z:=eBi _ (by omega)
   rw [eBe] at this; omega
  exact ⟨v,by simp [this,a],g,d⟩
 ·have e:k<n*z:=by
   have:=(eAe.1 a).1
   simpa using this
  rw [eAj,List.getElem?_range e] at a
  obtain ⟨u,p⟩:=b k e
  simp [p] at a; rw [p,a]
theorem z2x {a b:Nat} (h:std.leN a b=true):a≤b:=eAl h
theorem y0l (hr:z0b P ρ h w) {z:Nat} (hz:0<z) {x:AV} {v:Value} (U:z0q ρ (z0f ρ h) w x v) {c:Bool} {l:Els} (he:z3d std z h x=some (c,l)) (hc:c=true):
  ∃ (a:Option Addr) (n cap:Nat) (cs:List Value),v= .slice a n cap∧n=z7i std x∧n≤cap∧l.toA.length=n∧z3f ρ (z0f ρ h) w z l.toA cs∧
   ∀ w':World,w'.heap=w.heap→(eCm z n v).run P w'= .ok cs.toArray w':=by
 have m:∀ (w':World) (a:Addr),w'.heap=w.heap→w'.cell? a=w.cell? a:=fun w' a e=>by unfold eFc; rw [e]
 unfold z3d at he
 split at he
 ·rename_i full z0 es
  cases U with
  |d U=>cases U with
   |lnil _ _ a cap a8=>
    have a2:l= .d []:=by
     cases A:eAk z z0<;>rw [A] at he<;>cases he<;>rfl
    subst a2
    refine ⟨a,0,cap,[],rfl,rfl,eBb _,rfl, .nil _ _,fun w' p=>?_⟩
    cases a<;>simp [eCm,loadCells,loadCellsFrom]
   |list _ _ b o z' cap a9 Y hO a0 hf M cell Q H hh=>
    cases A:eAk z z0 with
    |false=>
     rw [A] at he
     cases es with
     |nil=>exact absurd rfl Y
     |cons _ _=>cases he
    |true=>
    rw [A] at he; cases he
    have F:=eAg A
    subst F
    obtain ⟨cs,I,h2⟩:=x8a (ρ:=ρ) (w:=w) (O:=z0f ρ h) hz (es:=z5s es) es.length (fun k=>w.cell? ⟨b,o+k,none⟩) (fun i r f=>by
      rw [z3o] at f
      cases u:es[i]? with
      |none=>simp [u] at f
      |some q=>simp [u] at f; subst f; rw [z01]; exact M i q u) (z0s es).symm (fun i r j y f J=>by
      rw [z3o] at f
      cases u:es[i]? with
      |none=>simp [u] at f
      |some q=>
       simp [u] at f; subst f
       rw [z1p] at J
       cases s:q[j]? with
       |none=>simp [s] at J
       |some d=>
        simp [s] at J; subst J
        have g1:=(eAe.1 u).1
        have g2:=(eAe.1 s).1
        rw [M i q u] at g2
        have R:i*z+j<es.length*z:=by
         have:(i+1)*z≤es.length*z:=eBi _ g1
         rw [eBe] at this; omega
        exact ⟨_,H _ R,Q _ R, .d (hh i q j d u s)⟩)
    refine ⟨_,es.length,cap,cs,rfl,rfl,a0,z0s es,I,fun w' p=>?_⟩
    have g:cs.length=es.length*z:=by rw [I.1,z0s]
    have:=run_loadCells_list (P:=P) w' ⟨b,o,none⟩ cs (fun j v K=>by rw [z5n,m _ _ p]; exact h2 j v K)
    rw [g] at this
    exact this
 ·rename_i id z' off len cap
  cases A:eAk z z' with
  |false=>rw [A] at he; cases he
  |true=>
  rw [A] at he; simp only [cond_true] at he
  have F:=eAg A
  subst F
  cases U with
  |nils _ _ _ _ a a3=>
   have e0:l.toA=[]:=by
    split at he
    ·cases he; simp [Els.toA,std,z5s]
    ·cases he; simp [Els.toA]
    ·cases he
   refine ⟨a,0,0,[],rfl,rfl,eBb _,by rw [e0]; rfl,by rw [e0]; exact .nil _ _,fun w' p=>?_⟩
   cases a<;>simp [eCm,loadCells,loadCellsFrom]
  |slice _ _ _ _ _ L a V hL T a6 a3 Z=>
  obtain ⟨_,ho⟩:=hr.obj id L hL
  have key:∀ (o:AO) (es:List (List AV)),z0e h id=o→o.rows=some es→off+len≤es.length→l.toA=(es.drop off).take len→
    ∃ (a':Option Addr) (n E:Nat) (cs:List Value),Value.slice a len V= .slice a' n E∧n=z7i std (.slice id z off len cap)∧n≤E∧l.toA.length=n∧z3f ρ (z0f ρ h) w z l.toA cs∧
     ∀ w':World,w'.heap=w.heap→(eCm z n (.slice a len V)).run P w'= .ok cs.toArray w':=by
   intro o es X W a7 C
   rw [X] at ho
   obtain ⟨_,c,t,a4,hl,hj⟩:=ho.rows W
   rw [T] at hl hj
   have g:((es.drop off).take len).length=len:=by simp; omega
   have B:∀ i,((es.drop off).take len)[i]?=if i<len then es[off+i]? else none:=fun i=>z1i es off len i
   obtain ⟨cs,I,h2⟩:=x8a (ρ:=ρ) (w:=w) (O:=z0f ρ h) hz (es:=(es.drop off).take len) len (fun k=>c[L.base+off*z+k]?) (fun i r f=>by
     rw [B] at f; split at f
     ·exact hl _ r f
     ·cases f) g.symm (fun i r j y f J=>by
     rw [B] at f; split at f
     ·obtain ⟨v,K,I,N⟩:=hj _ r j y f J
      refine ⟨v,?_,I,N⟩
      rw [←K]; congr 1; rw [eBe]; omega
     ·cases f)
   refine ⟨a,len,V,cs,rfl,rfl,Z,by rw [C,g],by rw [C]; exact I,fun w' p=>?_⟩
   have S:cs.length=len*z:=by rw [I.1,g]
   by_cases a5:0<V
   ·rw [a6 a5,T]
    have:=run_loadCells_list (P:=P) w' ⟨L.blk,L.base+off*z,none⟩ cs (fun j v K=>by rw [z5n,m _ _ p]; exact z6e a4 (h2 j v K))
    rw [S] at this
    exact this
   ·have a1:len=0:=by omega
    subst a1
    have:cs=[]:=by simpa using S
    subst this
    cases a<;>simp [eCm,loadCells,loadCellsFrom]
  split at he
  ·rename_i es G
   cases he
   refine key _ (z5s es) G rfl ?_ ?_
   ·rw [z0s]; exact z2x hc
   ·simp [Els.toA,std,z4y]
  ·rename_i es G
   cases he
   exact key _ es G rfl (z2x hc) rfl
  ·cases he
 ·cases he
end
theorem x4e (n:Nat):∀ (f c:Nat),c≤n→Builtin.growBy n f c≤2*n+1000
 |0,c,h=>by simp [Builtin.growBy]; omega
 |f+1,c,h=>by
  simp only [Builtin.growBy]
  split
  ·omega
  ·by_cases a:c+(c+768) / 4≤n
   ·exact x4e n f _ a
   ·have:∀ f,Builtin.growBy n f (c+(c+768) / 4)≤c+(c+768) / 4:=by
     intro f
     cases f with
     |zero=>simp [Builtin.growBy]
     |succ f=>simp only [Builtin.growBy]; rw [if_pos (by omega)]; omega
    have:=this f; omega
theorem w1d (n o:Nat) (h:o<n):Builtin.nextslicecap n o≤2*n+1000:=by
 unfold Builtin.nextslicecap
 split
 ·omega
 ·split
  ·omega
  ·exact x4e n 4 o (by omega)
section
variable {P:Program} {ρ:Rho} {h:List AO} {w:World}
theorem z98 {S K:TypeId} {e:TypeId} (hS:P.underlying S=some (.slice e)) {d2:TypeDesc} (Q:P.underlying K=some d2) (E:∀ k,d2≠ .int k) {z s:Nat} (L:z92 P e=some z) (o:y2a P e=some s) {zs:List D} (b:y5p P e=some zs)
  (ty:TypeId) {a G:Option Addr} {n cap m c:Nat} {cs xs:List Value} (O:∀ w':World,w'.heap=w.heap→(eCm z n (.slice a n cap)).run P w'= .ok cs.toArray w') (M:∀ w':World,w'.heap=w.heap→(eCm z m (.slice G m c)).run P w'= .ok xs.toArray w')
  (hm:cap<n+m) (R:n≤cap) (I:n+m≤y28) (F:s≤60000):
  ∃ (rest:List Value) (t d:Nat),(eDj #[S,K] ty #[.slice a n cap, .slice G m c]).run P w= .ok (.slice (some ⟨w.heap.size,0,none⟩) (n+m) t) { (World.push w (.cells (cs++xs++rest).toArray e)) with drawn:=d }∧
   n+m≤t∧rest.length=(t - (n+m))*zs.length∧z0v w.drawn d:=by
 have g:∃ i,P.info? e=some i∧i.bytes=s:=by
  unfold y2a at o
  cases l:P.info? e with
  |none=>simp [l] at o
  |some i=>exact ⟨i,rfl,by simpa [l] using o⟩
 obtain ⟨i,l,C⟩:=g
 have u:∃ h,i.zero=some h∧y25 h.cells.toList=some zs:=by
  unfold y5p at b
  rw [l] at b
  simp only [eCb] at b
  cases H:i.zero with
  |none=>simp [H] at b
  |some h=>exact ⟨h,rfl,by simpa [H] using b⟩
 obtain ⟨h,x,y⟩:=u
 have j:¬ (Builtin.nextslicecap (n+m) cap*s>2 ^ 48):=by
  have J:=w1d (n+m) cap hm
  unfold y28 at I
  have:Builtin.nextslicecap (n+m) cap*s≤2001000*60000:=Nat.mul_le_mul (by omega) F
  omega
 have N:(typeInfo e).run P w= .ok i w:=by simp [typeInfo,l]
 have q:¬ ((n+m:Nat):Int)>IntKind.i64.max:=by
  unfold y28 at I
  simp [IntKind.max,IntKind.signed,IntKind.bits]; omega
 have f:(match d2 with| .int _=>true|_=>false)=false:=by
  cases d2<;>first|rfl|exact absurd rfl (E _)
 refine ⟨(eFq h.cells ((Question.appendCap (n+m) cap e).cut (w.tape w.drawn (.appendCap (n+m) cap e)) - (n+m))).toList,(Question.appendCap (n+m) cap e).cut (w.tape w.drawn (.appendCap (n+m) cap e)),w.drawn+1,?_,?_,?_,z0v.succ _⟩
 ·have v:∀ w,(zeroValue e).run P w= .ok h w:=fun w=>by simp [zeroValue,typeInfo,l,x]
  have B:∀ d,(eCm z n (.slice a n cap)).run P { w with drawn:=d }= .ok cs.toArray { w with drawn:=d }:=fun d=>O _ rfl
  have A:∀ d,(eCm z m (.slice G m c)).run P { w with drawn:=d }= .ok xs.toArray { w with drawn:=d }:=fun d=>M _ rfl
  have p:∀ w,(typeInfo e).run P w= .ok i w:=fun w=>by simp [typeInfo,l]
  unfold eDj
  simp only [eCh,eDy,eDl,eAw,z0h hS,eAo,z1h L,z0h Q,eBf,f,eGn,eAh,if_false,eFd,show ¬ (n+m≤cap) by omega,q,false_and,
   p,C,j,run_choose,Question.forced,run_askRoom,B,A,v,newRow,run_newObj,not_false_eq_true,if_true,eCn]
  have r:∀ Z:Array Value,cs.toArray++xs.toArray++Z=(cs++xs++Z.toList).toArray:=fun Z=>by apply Array.ext'; simp
  rw [r]; rfl
 ·simp [Question.cut]
 ·obtain ⟨J,_⟩:=z8z y
  simp [eFq,J]
theorem y1g {S l:TypeId} {e:TypeId} (hS:P.underlying S=some (.slice e)) {d2:TypeDesc} (r:P.underlying l=some d2) (h:∀ k,d2≠ .int k) {z:Nat} (p:z92 P e=some z)
  (ty:TypeId) {b o n cap:Nat} {j:Option Addr} {m d:Nat} {xs:List Value} (q:(eCm z m (.slice j m d)).run P w= .ok xs.toArray w)
  (hm:n+m≤cap) {c:Array Value} {t:TypeId} (i:w.heap[b]?=some (.cells c t (0,0))) (g:o+n*z+xs.length≤c.size) (s:∀ u∈xs,u.oneCell'=true):
  (eDj #[S,l] ty #[.slice (some ⟨b,o,none⟩) n cap, .slice j m d]).run P w=
   .ok (.slice (some ⟨b,o,none⟩) (n+m) cap) (World.setObj w b (.cells (c.toList.take (o+n*z)++xs++c.toList.drop (o+n*z+xs.length)).toArray t (0,0))):=by
 have a:(match d2 with| .int _=>true|_=>false)=false:=by
  cases d2<;>first|rfl|exact absurd rfl (h _)
 have f:=run_storeCells_at (P:=P) b (o+n*z) t xs 0 c w i (by simpa using g) s
 rw [z7y i] at f
 simp only [eBk] at f
 unfold eDj
 simp only [eCh,eDy,eDl,eAw,z0h hS,eAo,z1h p,z0h r,eBf,a,eGn,eAh,if_false,eFd,hm,if_true,
  eCn,q,z5n,f]
def w1n:Option Nat→List (Nat×AO)
 |some id=>[(id, .dead)]
 |none=>[]
theorem v7g (K:z0b P ρ h w) {new:Nat} (A:ρ new=none) (kill:Option Nat) {z:Nat} (L:0<z) {o:AO} {es xs:List (List AV)} (O:o.rows=some (es++xs)) {cs vs rest:List Value}
  (he:z3f ρ (z0f ρ h) w z es cs) (I:z3f ρ (z0f ρ h) w z xs vs) (e:TypeId) (n x d:Nat) (E:n=(es++xs).length) (F:n≤x) (f:rest.length=(x - n)*z) (q:z0v w.drawn d) {s:Sem Value}
  (N:s.run P w= .ok (.slice (some ⟨w.heap.size,0,none⟩) n x) { (World.push w (.cells (cs++vs++rest).toArray e)) with drawn:=d }) (c:Bool):
  z0n P ρ h w new s ⟨c, .slice new z 0 n none,w1n kill++[(new,o)]⟩:=by
 obtain ⟨u,C,g,b⟩:∃ u,z08 h (w1n kill++[(new,o)])=z04 u new o∧z0b P ρ u w∧Ext (fun id=>id≠new) ρ h w ρ u w:=by
  cases kill with
  |none=>exact ⟨h,rfl,K,Ext.refl _ _ _ _⟩
  |some id=>exact ⟨z04 h id .dead,rfl,K.kill id,Ext.kill _ _ _ _ _⟩
 have H:=b.keep
 have l:=(he.append I).keep H (fun _ _ h=>h)
 have G:=z7a g A ⟨w.heap.size,0,z⟩ o (.cells (cs++vs++rest).toArray e) rfl
 have a:=l.keep G (Rho.put_mono ρ new ⟨w.heap.size,0,z⟩ A)
 have m:z1e P (ρ.put new ⟨w.heap.size,0,z⟩) (z0f (ρ.put new ⟨w.heap.size,0,z⟩) (z04 u new o)) (World.push w (.cells (cs++vs++rest).toArray e)) ⟨w.heap.size,0,z⟩ o:=by
  refine z1e.of_rows O L _ e (z4h _ _) a.2.1 (fun i r j y Q M=>?_)
  obtain ⟨v,J,t,B⟩:=a.2.2 i r j y Q M
  refine ⟨v,?_,t,B⟩
  simp only [eCh,eAy]
  rw [eFh]
  ·exact J
  ·exact (eAe.1 J).1
 have p:=g.new A z o _ m
 have k:=p.drawn d q
 refine ⟨_,_,ρ.put new ⟨w.heap.size,0,z⟩,N,?_,by show z0b P _ (z08 h (w1n kill++[(new,o)])) _; rw [C]; exact k,?_, .inr ⟨o,by simp⟩⟩
 ·show z0q _ (z0f _ (z08 h (w1n kill++[(new,o)]))) _ _ _
  rw [C]
  refine .slice new z 0 n none ⟨w.heap.size,0,z⟩ _ x (Rho.put_same _ _ _) rfl (fun _=>by simp) (.inr ⟨rfl,(cs++vs++rest).length,?_,?_⟩) F
  ·show z1c (World.push w _) _=_
   rw [z0y (z4h _ _)]; simp
  ·have t:=(he.append I).1
   rw [←E] at t
   simp only [eCz] at t⊢
   rw [f,t, ←eBe]
   simp; exact eBi _ (by omega)
 ·show Ext _ _ _ _ _ (z08 h (w1n kill++[(new,o)])) _
  rw [C]
  exact b.trans ((Ext.new g A ⟨w.heap.size,0,z⟩ o _ rfl).trans (Ext.drawn _ _ _ _ d q))
end
theorem and_true {a b:Bool} (h:std.and a b=true):a=true∧b=true:=by simpa [std] using h
theorem z2u {i j:Int} (h:std.cmp .leq i j=true):i≤j:=by simpa [std,z3z] using h
theorem y0t (a b:Els):(Els.app std a b).rows=some (a.toA++b.toA):=by
 cases a<;>cases b<;>simp [Els.app,AO.rows,Els.toA,std,z4y]
theorem x6g {o a:AO} {i:Nat} {x:Els} (h:x8e std o i x=some a):∃ E,o.rows=some E∧a.rows=some (z5f E i x.toA):=by
 cases o<;>cases x<;>simp [x8e] at h<;>subst h
 ·exact ⟨_,rfl,by simp [AO.rows,std,z5f,Els.toA,z4y]⟩
 ·exact ⟨_,rfl,rfl⟩
 ·exact ⟨_,rfl,rfl⟩
 ·exact ⟨_,rfl,rfl⟩
theorem y6a (l xs:List (List AV)) (i k:Nat) (h:i+xs.length≤l.length):(z5f l i xs)[k]?=if i≤k∧k<i+xs.length then xs[k - i]? else l[k]?:=by
 unfold z5f
 rw [eDr,eBr]
 have b:(l.take i).length=i:=by simp; omega
 rw [b]
 split
 ·rename_i a
  rw [if_neg (by omega),eFl,if_pos a]
 ·rename_i a
  rw [eBr]
  split
  ·rename_i c; rw [if_pos (by omega)]
  ·rename_i c; rw [if_neg (by omega),eDh]; congr 1; omega
section
variable {P:Program} {ρ:Rho} {h:List AO} {w:World}
theorem y00 {O:Nat→Prop} {z:Nat} (i:0<z) {es:List (List AV)} {cs:List Value} (l:z3f ρ O w z es cs):∀ u∈cs,u.oneCell'=true:=by
 intro u j
 obtain ⟨k,e,c⟩:=List.getElem_of_mem j
 obtain ⟨o,n,m⟩:=l
 have d:=e
 rw [o] at e
 obtain ⟨r,q,p⟩:=x4c i e
 have h:es[k / z]?=some es[k / z]:=eAd r
 have b:k % z<(es[k / z]).length:=by rw [n _ _ h]; exact q
 obtain ⟨v,f,a,g⟩:=m _ _ _ _ h (eAd b)
 rw [←p,eAd d] at f
 cases f
 rw [←c]; exact a
theorem y1w {O:Nat→Prop} {z:Nat} (F:0<z) {base:Nat} {c:Array Value} {E X:List (List AV)} {vs:List Value} {i:Nat}
  (t:∀ (i:Nat) (r:List AV),E[i]?=some r→r.length=z)
  (x:∀ (i:Nat) (r:List AV) (j:Nat) (y:AV),E[i]?=some r→r[j]?=some y→∃ v,c[base+i*z+j]?=some v∧v.oneCell'=true∧z0q ρ O w y v)
  (n:z3f ρ O w z X vs) (h:i+X.length≤E.length) (f:base+i*z+vs.length≤c.size):
  (∀ (k:Nat) (r:List AV),(z5f E i X)[k]?=some r→r.length=z)∧
  ∀ (k:Nat) (r:List AV) (j:Nat) (y:AV),(z5f E i X)[k]?=some r→r[j]?=some y→
   ∃ v,((c.toList.take (base+i*z)++vs++c.toList.drop (base+i*z+vs.length)).toArray)[base+k*z+j]?=some v∧v.oneCell'=true∧z0q ρ O w y v:=by
 have d:∀ (k:Nat) (r:List AV),(z5f E i X)[k]?=some r→r.length=z:=by
  intro k r b
  rw [y6a _ _ _ _ h] at b
  split at b
  ·exact n.2.1 _ r b
  ·exact t k r b
 refine ⟨d,fun k r j y b m=>?_⟩
 have u:j<z:=by rw [←d k r b]; exact (eAe.1 m).1
 rw [y6a _ _ _ _ h] at b
 have p:=z5u c.toList vs (base+i*z) (base+k*z+j) (by simpa using f)
 rw [eCh,p]
 have o:=n.1
 split at b
 ·rename_i A
  obtain ⟨v,l,q,a⟩:=n.2.2 _ r j y b m
  refine ⟨v,?_,q,a⟩
  have e:k*z=i*z+(k - i)*z:=by rw [←eBe]; congr 1; omega
  have g:(k - i)*z+j<vs.length:=(eAe.1 l).1
  rw [if_pos (by omega),show base+k*z+j - (base+i*z)=(k - i)*z+j by omega]
  exact l
 ·rename_i s
  obtain ⟨v,l,q,a⟩:=x k r j y b m
  refine ⟨v,?_,q,a⟩
  rw [if_neg]
  ·simpa using l
  ·rintro ⟨G,C⟩
   rw [o] at C
   rcases eCu k i with g|B
   ·have:(k+1)*z≤i*z:=eBi _ g
    rw [eBe] at this; omega
   ·have:(i+X.length)*z≤k*z:=eBi _ (by omega)
    rw [eBe] at this; omega
theorem z0b.move (g : z0b P ρ h w) {id new : Nat} {L : Loc} (m : ρ id = some L) (t : (z0e h id).live = true) (E : ρ new = none) (base c : Nat) (o : AO) (Q : o.live = true) (x : Obj)
    (H : ∀ n, z1c w L.blk = some n → z1c (World.setObj w L.blk x) L.blk = some n)
    (G : ∀ (k : z5d (z0f ρ h) (z0f (ρ.put new ⟨L.blk, base, c⟩) (z04 (z04 h id .dead) new o)) w (World.setObj w L.blk x)), z1e P (ρ.put new ⟨L.blk, base, c⟩) (z0f (ρ.put new ⟨L.blk, base, c⟩) (z04 (z04 h id .dead) new o)) (World.setObj w L.blk x) ⟨L.blk, base, c⟩ o) :
    z0b P (ρ.put new ⟨L.blk, base, c⟩) (z04 (z04 h id .dead) new o) (World.setObj w L.blk x) ∧
      Ext (fun j => j ≠ new) ρ h w (ρ.put new ⟨L.blk, base, c⟩) (z04 (z04 h id .dead) new o) (World.setObj w L.blk x) := by
  have z : id ≠ new := by rintro rfl; rw [E] at m; cases m
  have nth : ∀ j, j ≠ new → j ≠ id → z0e (z04 (z04 h id .dead) new o) j = z0e h j := fun j u s => by
    rw [z0c _ _ _ _ (eDa u), z0c _ _ _ _ (eDa s)]
  have a : z0e (z04 (z04 h id .dead) new o) id = .dead := by rw [z0c _ _ _ _ (eDa z), z0g]
  have own : ∀ b, z0f (ρ.put new ⟨L.blk, base, c⟩) (z04 (z04 h id .dead) new o) b → z0f ρ h b := by
    rintro b (r | ⟨j, M, f, l, rfl⟩)
    · exact .inl r
    by_cases e : j = new
    · subst e; rw [Rho.put_same] at f; cases f; exact .inr ⟨id, L, m, t, rfl⟩
    · rw [Rho.put_ne _ _ _ _ e] at f
      by_cases d : j = id
      · subst d; rw [a] at l; cases l
      · rw [nth j e d] at l; exact .inr ⟨j, M, f, l, rfl⟩
  have k : z5d (z0f ρ h) (z0f (ρ.put new ⟨L.blk, base, c⟩) (z04 (z04 h id .dead) new o)) w (World.setObj w L.blk x) :=
    { size := by rw [z15]; omega
      drawn := z0v.refl _
      frame := fun b p A => z19 _ _ _ _ (fun e => A (e ▸ .inr ⟨id, L, m, t, rfl⟩))
      own := fun b _ p => own b p
      shape := fun b n p => by
        by_cases he : b = L.blk
        · subst he; exact H n p
        · unfold z1c; rw [z19 _ _ _ _ he]; exact p }
  refine ⟨⟨fun j M f => ?_, fun i j M N u s y q p => ?_, fun b r => by rw [z15]; exact g.fr b r, fun j M f l r => ?_, g.gl.keep k⟩, rfl, rfl, rfl, k, fun j l => Rho.put_ne _ _ _ _ l, rfl,
    fun b r => z19 _ _ _ _ (fun e => g.sep id L m t (e ▸ r))⟩
  · by_cases e : j = new
    · subst e; rw [Rho.put_same] at f; cases f
      rw [z0g]
      exact ⟨by rw [z15]; exact (g.obj id L m).1, G k⟩
    · rw [Rho.put_ne _ _ _ _ e] at f
      obtain ⟨K, J⟩ := g.obj j M f
      refine ⟨by rw [z15]; exact K, ?_⟩
      by_cases d : j = id
      · subst d; rw [a]; trivial
      · rw [nth j e d]
        by_cases B : (z0e h j).live = true
        · exact J.keep k (Rho.put_mono _ _ _ E) (z19 _ _ _ _ (fun O => d (g.inj j id M L f m B t O)))
        · cases I : z0e h j <;> simp_all [AO.live, z1e]
  · by_cases C : i = new
    · subst C
      by_cases d : j = i
      · exact d.symm
      · rw [Rho.put_same] at u; cases u
        rw [Rho.put_ne _ _ _ _ d] at s
        by_cases v : j = id
        · subst v; rw [a] at q; cases q
        · rw [nth j d v] at q
          exact absurd (g.inj id j L N m s t q p).symm v
    · rw [Rho.put_ne _ _ _ _ C] at u
      by_cases v : i = id
      · subst v; rw [a] at y; cases y
      · rw [nth i C v] at y
        by_cases d : j = new
        · subst d; rw [Rho.put_same] at s; cases s
          exact absurd (g.inj i id M L u m y t p) v
        · rw [Rho.put_ne _ _ _ _ d] at s
          by_cases F : j = id
          · subst F; rw [a] at q; cases q
          · rw [nth j d F] at q
            exact g.inj i j M N u s y q p
  · by_cases e : j = new
    · subst e; rw [Rho.put_same] at f; cases f
      exact g.sep id L m t r
    · rw [Rho.put_ne _ _ _ _ e] at f
      by_cases d : j = id
      · subst d; rw [a] at l; cases l
      · rw [nth j e d] at l; exact g.sep j M f l r
theorem v7u (o:z0b P ρ h w) {new:Nat} {z:Nat} (x:0<z) {es:List (List D)} {cs rest:List Value} (he:z3f ρ (z0f ρ h) w z (z5s es) cs) (p:es≠[]) (e:TypeId) (m d:Nat) (q:es.length≤m) (l:z0v w.drawn d) {s:Sem Value}
  (C:s.run P w= .ok (.slice (some ⟨w.heap.size,0,none⟩) es.length m) { (World.push w (.cells (cs++rest).toArray e)) with drawn:=d }) (c:Bool):z0n P ρ h w new s ⟨c, .d (.list false z es),[]⟩:=by
 have n:=(o.push0 (.cells (cs++rest).toArray e)).drawn d l
 have g:Ext (fun id=>id≠new) ρ h w ρ h { (World.push w (.cells (cs++rest).toArray e)) with drawn:=d }:=(Ext.push0 _ o _).trans (Ext.drawn _ _ _ _ d l)
 refine ⟨_,_,ρ,C,?_,n,g, .inl rfl⟩
 have f:cs.length=es.length*z:=by rw [he.1,z0s]
 refine .d (.list false es w.heap.size 0 z m x p (fun E=>Nat.lt_irrefl _ (z7p o E)) q (by simp) (fun i r u=>?_) (fun k=>(cs[k]?).getD undef) (fun k t=>?_) (fun k t=>?_) (fun i r j y u A=>?_))
 ·have:=he.2.1 i (toA r) (by rw [z3o,u]; rfl)
  rw [z01] at this; exact this
 ·have b:k<cs.length:=by rw [f]; exact t
  rw [eAd b]
  exact y00 x he _ (eDe _)
 ·have b:k<cs.length:=by rw [f]; exact t
  rw [eAd b]
  refine z6e (c:=(cs++rest).toArray) (z4h _ _) ?_
  rw [eCh,eAy,eFh b,eAd b]
  rfl
 ·obtain ⟨v,B,_,a⟩:=he.2.2 i (toA r) j (.d y) (by rw [z3o,u]; rfl) (by rw [z1p,A]; rfl)
  simp only [B,eCd]
  cases a with
  |d a=>exact a.keep g.keep
theorem v0z (n:z0b P ρ h w) {new:Nat} {z:Nat} (t:0<z) {es:List (List D)} {cs:List Value} (he:z3f ρ (z0f ρ h) w z (z5s es) cs) (o:es≠[]) (e:TypeId) {s:Sem Value} {rv:Array Value} (l:cs=rv.toList)
  (A:s.run P w= .ok (.slice (some ⟨w.heap.size,0,none⟩) es.length es.length) (World.push w (.cells rv e))):z0n P ρ h w new s ⟨true, .d (.list true z es),[]⟩:=by
 have m:=n.push0 (.cells rv e)
 have g:Ext (fun id=>id≠new) ρ h w ρ h (World.push w (.cells rv e)):=Ext.push0 _ n _
 refine ⟨_,_,ρ,A,?_,m,g, .inl rfl⟩
 have f:cs.length=es.length*z:=by rw [he.1,z0s]
 refine .d (.list true es w.heap.size 0 z es.length t o (fun B=>Nat.lt_irrefl _ (z7p n B)) (eAp _) (fun _=>rfl) (fun i r q=>?_) (fun k=>(cs[k]?).getD undef) (fun k p=>?_) (fun k p=>?_) (fun i r j y q u=>?_))
 ·have:=he.2.1 i (toA r) (by rw [z3o,q]; rfl)
  rw [z01] at this; exact this
 ·have b:k<cs.length:=by rw [f]; exact p
  rw [eAd b]
  exact y00 t he _ (eDe _)
 ·have b:k<cs.length:=by rw [f]; exact p
  rw [eAd b]
  refine z6e (c:=rv) (z4h _ _) ?_
  rw [eAy]
  have:rv[k]?=cs[k]?:=by rw [l]; simp
  rw [this,eAd b]
  rfl
 ·obtain ⟨v,x,_,a⟩:=he.2.2 i (toA r) j (.d y) (by rw [z3o,q]; rfl) (by rw [z1p,u]; rfl)
  simp only [x,eCd]
  cases a with
  |d a=>exact a.keep g.keep
theorem x5t (a b:List (List D)):z5s (a++b)=z5s a++z5s b:=by rw [z4y,z4y,z4y,List.map_append]
theorem y17 {z:Nat} {id d off len:Nat} {cap:Option Nat} {c:Bool} {b:Els} (a:z3d std z h (.slice id d off len cap)=some (c,b)) (g:c=true):
  z=d∧∃ E,(z0e h id).rows=some E∧off+len≤E.length∧b.toA=(E.drop off).take len:=by
 simp only [z3d] at a
 cases f:eAk z d with
 |false=>rw [f] at a; cases a
 |true=>
 rw [f] at a; simp only [cond_true] at a
 refine ⟨eAg f,?_⟩
 split at a
 ·rename_i es e; cases a
  exact ⟨_,by rw [e]; rfl,by rw [z0s]; exact z2x g,by simp [Els.toA,std,z4y]⟩
 ·rename_i es e; cases a
  exact ⟨_,by rw [e]; rfl,z2x g,rfl⟩
 ·cases a
theorem z8i {o:AO} {E:List (List AV)} (h:o.rows=some E):o.live=true:=by cases o<;>simp [AO.rows] at h<;>rfl
theorem y2l {S T2:TypeId} {ti d9:TI} (ht:z7j P S ti) (f1:z7j P T2 d9) (d6:∃ e z b a zs,d9.desc= .slc e z b a zs) (V:z0b P ρ h w) {new:Nat} (hn:ρ new=none) {q:Bool} {s x:AV} {vs vx:Value}
  (U:z0q ρ (z0f ρ h) w s vs) (hx:z0q ρ (z0f ρ h) w x vx) {ty:TypeId} {res:Res} (hq:∀ b,z3x std s x=some b→b=q) {r:List D} (he:z14 std ti h new q r s x=some res) (u:res.c=true):
  z0n P ρ h w new (eDj #[S,T2] ty #[vs,vx]) res:=by
 obtain ⟨d,hd,h7,hk⟩:=ht.desc
 obtain ⟨d2,X,_,e5⟩:=f1.desc
 obtain ⟨e2,z2,b2,a2,g6,a6⟩:=d6
 rw [a6] at e5
 obtain ⟨rfl,_⟩:=e5
 have hint:∀ k,TypeDesc.slice e2≠ .int k:=by intro k; simp
 unfold z14 at he
 split at he
 rotate_left
 ·cases he
 rename_i e z eb ea ez b5
 rw [b5] at hk
 obtain ⟨rfl,hz,e7,_,e6,d5⟩:=hk
 cases hb:(eAz 1 z&&eAz eb 60000) with
 |false=>rw [hb] at he; cases he
 |true=>
 rw [hb] at he; simp only [cond_true] at he
 simp only [eAf] at hb
 have A:0<z:=eAl hb.1
 have b0:eb≤60000:=eAl hb.2
 split at he
 rotate_left
 ·cases he
 rename_i cx xs cs es b6 g
 have grow:∀ (kill:Option Nat) (c:Bool) (n:Nat),cx=true→cs=true→1≤z7i std x→n=z7i std s→n+z7i std x≤y28→
   (∀ (a:Option Addr) (cap:Nat),vs= .slice a n cap→cap<n+z7i std x)→z0n P ρ h w new (eDj #[S,T2] ty #[vs,vx]) ⟨c, .slice new z 0 (n+z7i std x) none,w1n kill++[(new,Els.app std es xs)]⟩:=by
  intro kill c n Z T O h4 h5 h6
  obtain ⟨a,m,a4,G,rfl,hm,c2,N,l,Q⟩:=y0l (P:=P) V A hx b6 Z
  obtain ⟨b,k,a5,f0,rfl,hk,c3,c5,c4,c6⟩:=y0l (P:=P) V A U g T
  rw [←hm] at O h5 h6⊢
  have f3:n=k:=h4.trans hk.symm
  subst f3
  obtain ⟨rest,nc,dd,p,c1,a9,c7⟩:=z98 (P:=P) (w:=w) hd X hint hz e7 e6 ty c6 Q (h6 b a5 rfl) c3 h5 b0
  exact v7g V hn kill A (y0t es xs) c4 l e (n+m) nc dd (by rw [eCz,c5,N]) c1 (by rw [a9,d5]) c7 p c
 split at he
 ·
  rename_i full z0 g4
  split at he
  ·cases e8:v4l r z0 with
   |true=>
    rw [e8] at he
    simp only [cond_true] at he
    split at he
    ·rename_i e1 y1
     cases he
     simp only at u
     obtain ⟨Z,u⟩:=and_true u
     obtain ⟨T,O⟩:=and_true u
     have R:=hq full rfl
     subst R
     have c8:cs=true:=by
      simp only [z3d] at g
      cases hb:eAk z z0 with
      |true=>rw [hb] at g; cases g; rfl
      |false=>rw [hb] at g; simp only [cond_false] at g; split at g<;>cases g; rfl
     obtain ⟨a,m,a4,G,rfl,hm,c2,N,l,Q⟩:=y0l (P:=P) V A hx b6 Z
     obtain ⟨b,k,a5,f0,rfl,hk,c3,c5,c4,c6⟩:=y0l (P:=P) V A U g c8
     rw [←hm, ←hk] at O
     rw [←hm] at T
     have f4:=z2x T
     have K:a5<k+m:=by
      cases U with
      |d U=>
       generalize g9:k=kk at U
       cases U with
       |lnil _ _ _ _ a3=>have:=a3 rfl; omega
       |list _ _ _ _ _ _ _ _ _ _ hf=>have:=hf rfl; omega
     obtain ⟨rest,nc,dd,p,c1,a9,c7⟩:=z98 (P:=P) (w:=w) hd X hint hz e7 e6 ty c6 Q K c3 (z2x O) b0
     have f7:e1.length=k:=by have:=c5; simp only [Els.toA,z0s] at this; omega
     have f6:y1.length=m:=by have:=N; simp only [Els.toA,z0s] at this; omega
     have b7:(e1++y1).length=k+m:=by rw [eCz,f7,f6]
     refine v7u V A (es:=e1++y1) (cs:=f0++G) (rest:=rest) (by rw [x5t]; exact c4.append l) (by intro e0; rw [e0] at b7; simp at b7; omega) e nc dd (by rw [b7]; exact c1) c7 (by rw [b7]; exact p) _
    ·cases he
   |false=>
   rw [e8] at he
   simp only [cond_false] at he
   cases he
   simp only at u
   obtain ⟨Z,u⟩:=and_true u
   obtain ⟨T,O⟩:=and_true u
   have R:=hq full rfl
   subst R
   have c8:cs=true:=by
    simp only [z3d] at g
    cases hb:eAk z z0 with
    |true=>rw [hb] at g; cases g; rfl
    |false=>rw [hb] at g; simp only [cond_false] at g; split at g<;>cases g; rfl
   refine grow none _ _ Z c8 (z2x T) rfl (z2x O) ?_
   intro a cap M
   have:=z2x T
   cases U with
   |d U=>
    subst M
    generalize g8:z7i std (AV.d (D.list true z0 g4))=nn at U
    cases U with
    |lnil _ _ _ _ a3=>have:=a3 rfl; omega
    |list _ _ _ _ _ _ _ _ _ _ hf=>have:=hf rfl; omega
  ·cases he
 ·
  rename_i id z' off len
  cases he
  simp only at u
  obtain ⟨Z,u⟩:=and_true u
  obtain ⟨T,u⟩:=and_true u
  obtain ⟨O,h4⟩:=and_true u
  have g7:=U
  cases U with
  |nils _ _ _ _ a f=>
   refine grow (some id) _ 0 Z T (z2x O) rfl (z2x h4) ?_
   intro a' d7 M
   cases M
   have:=z2x O
   omega
  |slice _ _ _ _ _ L a cap hL H b9 f b8=>
  by_cases W:len+z7i std x≤cap
  ·
   obtain ⟨rfl,E,hE,c9,I⟩:=y17 g T
   obtain ⟨g5,m,a4,G,rfl,hm,c2,N,l,Q⟩:=y0l (P:=P) V A hx b6 Z
   rw [←hm] at O h4 W⊢
   have f4:1≤m:=z2x O
   rw [b9 (by omega),H]
   rcases f with f|⟨_,nb,e4,b1⟩
   ·cases f
   obtain ⟨_,c0⟩:=V.obj id L hL
   obtain ⟨_,c,t,F,hl,hj⟩:=c0.rows hE
   rw [H] at hl hj b1
   rw [z0y F] at e4
   cases e4
   have g0:G.length=m*z:=by rw [l.1,N]
   have d4:(off+cap)*z=off*z+cap*z:=eBe _ _ _
   have b4:(len+m)*z≤cap*z:=eBi _ W
   have b3:(len+m)*z=len*z+m*z:=eBe _ _ _
   have p:=y1g (P:=P) (w:=w) hd X hint hz ty (Q w rfl) W F (o:=L.base+off*z) (by omega) (y00 A l)
   have B:=z8i hE
   have Y:∀ k,z1c w L.blk=some k→z1c (World.setObj w L.blk (.cells (c.toList.take (L.base+off*z+len*z)++G++c.toList.drop (L.base+off*z+len*z+G.length)).toArray t (0,0))) L.blk=some k:=by
    intro k hk
    rw [z0y F] at hk; cases hk
    rw [z0y (z0u _ _ _ (eAi.1 F).1)]
    congr 1
    simp; omega
   obtain ⟨g1,g2⟩:=V.move hL B hn (L.base+off*z) z (Els.app std es xs) (z8i (y0t es xs)) _ Y (fun kp=>by
    have h8:∀ (i:Nat) (r:List AV),(E.drop off).take len=es.toA:=fun _ _=>I.symm
    refine z1e.of_rows (y0t es xs) A _ t (z0u _ _ _ (eAi.1 F).1) (fun i r C=>?_) (fun i r j y C hy=>?_)
    ·rw [eBr] at C
     split at C
     ·rw [I,z1i] at C
      split at C
      ·exact hl _ r C
      ·cases C
     ·exact l.2.1 _ r C
    ·have a0:es.toA.length=len:=by rw [I]; simp; omega
     have a9:r.length=z:=by
      rw [eBr] at C
      split at C
      ·rw [I,z1i] at C
       split at C
       ·exact hl _ r C
       ·cases C
      ·exact l.2.1 _ r C
     have h0:j<z:=by rw [←a9]; exact (eAe.1 hy).1
     have e3:=z5u c.toList G (L.base+off*z+len*z) (L.base+off*z+i*z+j) (by simp; omega)
     simp only at e3⊢
     rw [eCh,e3]
     rw [eBr] at C
     split at C
     ·rename_i K
      rw [a0] at K
      rw [I,z1i,if_pos K] at C
      obtain ⟨v,M,a8,a7⟩:=hj _ r j y C hy
      have:(i+1)*z≤len*z:=eBi _ K
      rw [eBe] at this
      rw [if_neg (by omega)]
      refine ⟨v,?_,a8,a7.keep kp (Rho.put_mono _ _ _ hn)⟩
      rw [eBe] at M
      rw [show L.base+off*z+i*z+j=L.base+(off*z+i*z)+j by omega]
      simpa using M
     ·rename_i f9
      rw [a0] at f9 C
      obtain ⟨v,M,a8,a7⟩:=l.2.2 _ r j y C hy
      have K:=(eAe.1 M).1
      have e:i*z=len*z+(i - len)*z:=by rw [←eBe]; congr 1; omega
      rw [if_pos (by omega)]
      refine ⟨v,?_,a8,a7.keep kp (Rho.put_mono _ _ _ hn)⟩
      rw [show L.base+off*z+i*z+j - (L.base+off*z+len*z)=(i - len)*z+j by omega]
      exact M)
   refine ⟨_,_,_,p,?_,g1,g2, .inr ⟨_,by simp; exact .inr rfl⟩⟩
   refine .slice new z 0 (len+m) none ⟨L.blk,L.base+off*z,z⟩ _ cap (Rho.put_same _ _ _) rfl (fun _=>by simp) (.inr ⟨rfl,c.size,?_,?_⟩) W
   ·exact Y _ (z0y F)
   ·simp; omega
  ·refine grow (some id) _ len Z T (z2x O) rfl (z2x h4) ?_
   intro a' d7 M
   cases M
   omega
 ·
  rename_i id z' off len c
  split at he
  ·
   split at he
   ·rename_i o ho
    cases he
    simp only at u
    obtain ⟨Z,u⟩:=and_true u
    obtain ⟨T,u⟩:=and_true u
    obtain ⟨a1,O⟩:=and_true u
    have a1:=z2x a1
    have hw:len+z7i std x≤c:=z2x (hq _ rfl)
    cases U with
    |nils _ _ _ _ a f=>
     rcases f with f|f<;>cases f
     omega
    |slice _ _ _ _ _ L a cap hL H b9 f b8=>
    rcases f with f|⟨f,_⟩
    rotate_left
    ·cases f
    cases f
    obtain ⟨rfl,E,hE,c9,I⟩:=y17 g T
    obtain ⟨E',e9,J⟩:=x6g ho
    rw [hE] at e9; cases e9
    have f5:u0z std (z0e h id)=E.length:=by
     cases f2:z0e h id<;>rw [f2] at hE<;>simp [AO.rows] at hE<;>subst hE<;>simp [u0z,std,z0s]
    have h9:off+c≤E.length:=by rw [←f5]; exact z2x O
    obtain ⟨g5,m,a4,G,rfl,hm,c2,N,l,Q⟩:=y0l (P:=P) V A hx b6 Z
    rw [←hm] at hw a1⊢
    obtain ⟨_,c0⟩:=V.obj id L hL
    obtain ⟨_,cc,t,F,hl,hj⟩:=c0.rows hE
    rw [H] at hl hj
    have g0:G.length=m*z:=by rw [l.1,N]
    have d4:(off+len)*z=off*z+len*z:=eBe _ _ _
    by_cases g3:0<c
    ·have d8:L.base+E.length*z≤cc.size:=by
      have K:E.length - 1<E.length:=by omega
      have a9:=hl _ _ (eAd K)
      have hy:z - 1<(E[E.length - 1]).length:=by omega
      obtain ⟨v,M,_,_⟩:=hj _ _ _ _ (eAd K) (eAd hy)
      have:=(eAi.1 M).1
      have e:E.length*z=(E.length - 1)*z+z:=by
       rw [←Nat.succ_mul]; congr 1; omega
      omega
     have b4:(off+len+m)*z≤E.length*z:=eBi _ (by omega)
     have b3:(off+len+m)*z=(off+len)*z+m*z:=eBe _ _ _
     rw [b9 g3,H]
     have p:=y1g (P:=P) (w:=w) hd X hint hz ty (Q w rfl) hw F (o:=L.base+off*z) (by omega) (y00 A l)
     rw [show L.base+off*z+len*z=L.base+(off+len)*z by omega] at p
     have B:=z8i hE
     have Y:∀ k,z1c w L.blk=some k→z1c (World.setObj w L.blk (.cells (cc.toList.take (L.base+(off+len)*z)++G++cc.toList.drop (L.base+(off+len)*z+G.length)).toArray t (0,0))) L.blk=some k:=by
      intro k hk
      rw [z0y F] at hk; cases hk
      rw [z0y (z0u _ _ _ (eAi.1 F).1)]
      congr 1
      simp; omega
     have f8:=z16 V hL B o (z8i J) _ Y
     obtain ⟨r1,r2⟩:=y1w (w:=w) A (base:=L.base) (c:=cc) (i:=off+len) hl hj l (by rw [N]; omega) (by omega)
     refine ⟨_,_,ρ,p,?_,V.set hL B o (z8i J) _ Y ?_,Ext.set _ V hL B o (z8i J) _ Y, .inl rfl⟩
     ·exact .slice id z off (len+m) (some c) L _ c hL H (fun _=>by rw [H]) (.inl rfl) hw
     ·refine z1e.of_rows J (by omega) _ t (z0u _ _ _ (eAi.1 F).1) (by rw [H]; exact r1) (fun i r j y C hy=>?_)
      rw [H]
      obtain ⟨v,M,a8,a7⟩:=r2 i r j y C hy
      exact ⟨v,M,a8,a7.keep f8 (fun _ _ h=>h)⟩
    ·omega
   ·cases he
  ·cases he
   simp only at u
   obtain ⟨Z,u⟩:=and_true u
   obtain ⟨T,u⟩:=and_true u
   obtain ⟨O,h4⟩:=and_true u
   have hw:=hq _ rfl
   refine grow none _ len Z T (z2x O) rfl (z2x h4) ?_
   intro a cap M
   cases U with
   |nils _ _ _ _ a f=>
    cases M
    have:=z2x O
    omega
   |slice _ _ _ _ _ L _ _ hL H b9 f b8=>
    cases M
    rcases f with f|⟨f,_⟩
    ·cases f
     have:¬ (len+z7i std x≤c):=fun b8=>by
      have:std.leN (std.add len (z7i std x)) c=true:=eCi b8
      rw [this] at hw; cases hw
     omega
    ·cases f
 ·cases he
end
theorem w2z (n:Int) (a:0≤n) (b:n≤1000000):IntKind.i64.wrap n=n:=by
 have h:n % (2 ^ 64:Int)=n:=Int.emod_eq_of_lt a (by omega)
 simp [IntKind.wrap,IntKind.bits,IntKind.signed,h]
 omega
theorem x4n {place:Nat→Option (Nat×Nat)}:∀ {parts:List (Nat×AV)} {cells r:List AV},y8h place cells parts=some r→r.length=cells.length
 |[],cells,r,h=>by simp [y8h] at h; rw [h]
 |(i,v)::rest,cells,r,h=>by
  simp only [y8h] at h
  split at h
  ·rename_i off size cs _ _
   cases a:z8s cs size with
   |false=>rw [a] at h; cases h
   |true=>
   rw [a] at h; simp only [cond_true] at h
   split at h
   ·rename_i l b
    rw [x4n h,(y0a b).1]
   ·cases h
  ·cases h
section
variable {P:Program} {ρ:Rho} {h:List AO} {w:World}
theorem y4v {T:TypeId} {ti:TI} (ht:z7j P T ti) (hr:z0b P ρ h w) {new:Nat} (hn:ρ new=none) {l c:AV} {vl vc:Value} (Y:z0q ρ (z0f ρ h) w l vl) (A:z0q ρ (z0f ρ h) w c vc)
  {res:Res} (t:z6o std ti new l c=some res) (K:res.c=true):z0n P ρ h w new (Instr.makeSlice T vl vc) res:=by
 obtain ⟨d,hd,a5,J⟩:=ht.desc
 unfold z6o at t
 split at t
 rotate_left
 ·cases t
 rename_i e z E ea ez k1 F k2 a u
 rw [u] at J
 obtain ⟨rfl,hz,p,_,o,n⟩:=J
 cases L:(eAz 1 z&&(eAz E 60000&&z7t (toA ez))) with
 |false=>rw [L] at t; cases t
 |true=>
 rw [L] at t; cases t
 simp only [eAf] at L
 obtain ⟨a2,a1,a0⟩:=L
 have G:0<z:=eAl a2
 have a3:E≤60000:=eAl a1
 simp only at K
 obtain ⟨c1,K⟩:=and_true K
 obtain ⟨c2,M⟩:=and_true K
 have c1:=z3q c1
 have c2:=z2u c2
 have M:=z2u M
 cases Y with|d Y=>
 cases Y
 cases A with|d A=>
 cases A
 obtain ⟨i,b,m,Z,N,R⟩:∃ i b,P.info? e=some i∧i.bytes=E∧i.zero=some b∧y25 b.cells.toList=some ez:=by
  unfold y2a at p; unfold y5p at o
  cases m:P.info? e with
  |none=>simp [m] at p
  |some i=>
   rw [m] at p o
   simp at p o
   cases s:i.zero with
   |none=>simp [s] at o
   |some b=>exact ⟨i,b,rfl,p,s,by simpa [s] using o⟩
 obtain ⟨O,Q⟩:=z8z R
 have g:b.cells.size=z:=by rw [←n,O]; simp
 have W:(E:Int)*a≤60000*1000000:=Int.mul_le_mul (by omega) M (by omega) (by omega)
 have V:=w2z F c1 (by omega)
 have U:=w2z a (by omega) M
 have C:∀ k,k<a.toNat*z→(Array.map (fun x=>b.cells[x % b.cells.size]!) (Array.range (a.toNat*z)))[k]?=b.cells[k % z]?:=by
  intro k J
  have:k % z<b.cells.size:=by rw [g]; exact eGh _ G
  simp [J,g,getElem!_pos b.cells (k % z) this]
 refine y3u hr hn (T:=e) ((Array.range (a.toNat*z)).map (b.cells[· % b.cells.size]!)) (.slice new z 0 F.toNat (some a.toNat)) (.row (std.rep a.toNat ez)) 0 z (.slice (some ⟨w.heap.size,0,none⟩) F.toNat a.toNat) ?_ ?_ ?_
 ·have I:¬ ((E:Int)*a>2 ^ 48):=by omega
  have B:((a<0||decide ((E:Int)*a>2 ^ 48))||decide (F<0)||decide (F>a))=false:=by
   simp; omega
  unfold Instr.makeSlice
  simp only [eAw,z0h hd,eAo,asInt,asIntOf,eBf,typeInfo,run_program,m,Z,V,U,B,eAh,if_false,eFd,run_askRoom,z1h hz]
  by_cases h0:a.toNat*z=0
  ·simp only [h0,if_true,eBf,eAo,newRow,eAw,run_newObj]
   have e0:∀ f:Nat→Value,Array.map f (Array.range 0)=#[]:=fun f=>by simp
   rw [e0,e0]; rfl
  ·simp [h0,zeroValue,typeInfo,m,N,newRow]
   rfl
 ·refine ⟨G,_,e,z4h _ _,fun i r m=>?_,fun i r j y m S=>?_⟩
  ·simp [std,eCs] at m
   rw [←m.2]; exact n
  ·simp [std,eCs] at m
   obtain ⟨a4,rfl⟩:=m
   have hj:j<z:=by rw [←n]; exact (eAe.1 S).1
   obtain ⟨v,hv,q⟩:=Q (z0f (ρ.put new ⟨w.heap.size,0,z⟩) (z04 h new (.row (std.rep a.toNat ez)))) (World.push w (.cells ((Array.range (a.toNat*z)).map (b.cells[· % b.cells.size]!)) e)) j y S
   have X:i*z+j<a.toNat*z:=by
    have:(i+1)*z≤a.toNat*z:=eBi _ (by omega)
    rw [eBe] at this; omega
   have H:(i*z+j) % z=j:=by rw [Nat.add_comm,Nat.add_mul_mod_self_right]; exact eDz hj
   refine ⟨v,?_,?_,q⟩
   ·simp only [eAy]
    rw [C _ X,H]; simpa using hv
   ·have:w77 (.d y)=true:=z8t a0 (by rw [z1p,S]; rfl)
    exact y2t (ρ:=ρ) this (.d q)
 ·exact .slice new z 0 _ _ ⟨w.heap.size,0,z⟩ _ _ (Rho.put_same _ _ _) rfl (fun _=>by simp) (.inl rfl) (by omega)
theorem w14 {α:Type} {z:Nat} (t:0<z):∀ (f:Nat) (l:List α) (es:List (List α)),x48 z f l=some es→l.length=es.length*z∧(∀ (i:Nat) (r:List α),es[i]?=some r→r.length=z)∧
  ∀ (i:Nat) (r:List α) (j:Nat),es[i]?=some r→j<z→l[i*z+j]?=r[j]?:=by
 intro f
 induction f with
 |zero=>
  intro l es h
  cases l with
  |nil=>simp [x48] at h; subst h; simp
  |cons _ _=>simp [x48] at h
 |succ f p=>
  intro l es h
  cases l with
  |nil=>simp [x48] at h; subst h; simp
  |cons a l=>
   simp only [x48] at h
   split at h
   ·rename_i x s
    cases c:x48 z f ((a::l).drop z) with
    |none=>rw [c] at h; cases h
    |some q=>
    rw [c] at h; simp at h; subst h
    obtain ⟨o,g⟩:=z3u s
    obtain ⟨e,n,m⟩:=p _ _ c
    have d:z≤(a::l).length:=by
     have:=g (z - 1) (by omega)
     rw [eAd (show z - 1<x.length by omega)] at this
     have:=(eAe.1 this).1
     omega
    refine ⟨by simp only [eGe] at e; simp only [eCa] at e d⊢; rw [eBe]; omega,fun i r b=>?_,fun i r j b k=>?_⟩
    ·cases i with
     |zero=>simp at b; subst b; exact o
     |succ i=>exact n i r (by simpa using b)
    ·cases i with
     |zero=>simp at b; subst b; have:=g j k; simpa using this
     |succ i=>
      have:=m i r j (by simpa using b) k
      rw [eDh] at this
      rw [←this]; congr 1; rw [eBe]; omega
   ·cases h
theorem x8d {α:Type} (l:List α) (c:0<l.length):∀ (n j:Nat),j<n*l.length→(w89 n l)[j]?=l[j % l.length]?
 |0,j,h=>by simp at h
 |n+1,j,h=>by
  simp only [w89]
  by_cases b:j<l.length
  ·rw [eFh b,eDz b]
  ·rw [eFt (by omega),x8d l c n (j - l.length) (by rw [eBe] at h; omega)]
   congr 1
   rw [Nat.mod_eq_sub_mod (a:=j) (by omega)]
theorem y6i {α:Type} (l:List α):∀ n,(w89 n l).length=n*l.length
 |0=>by simp [w89]
 |n+1=>by simp [w89,y6i l n,eBe]; omega
theorem y9g (es:List (List AV)):(w4l es).rows=some es:=by
 unfold w4l
 split
 ·rename_i l b
  have:∀ (es:List (List AV)) (l:List (List D)),y8p es=some l→z5s l=es:=by
   intro es
   induction es with
   |nil=>intro l h; simp [y8p] at h; subst h; rfl
   |cons x r a=>
    intro l h
    simp only [y8p] at h
    split at h
    ·rename_i d q e c; cases h; simp [z5s,a _ c,z2b e]
    ·cases h
  simp [AO.rows,this _ _ b]
 ·rfl
theorem z42 {T:TypeId} {ti:TI} (ht:z7j P T ti) (hr:z0b P ρ h w) {new:Nat} (hn:ρ new=none) {len:Nat} {parts:List (Nat×AV)} {I:Array (Nat×Value)}
  (hp:y5n ρ (z0f ρ h) w parts I.toList) {res:Res} (c:z2q ti new len parts=some res):z0n P ρ h w new (Instr.buildSlice T len I) res∧∃ (rv:Array Value) (e:TypeId) (z eb:Nat) (ea:Bool) (ez:List D),ti.desc= .slc e z eb ea ez∧0<z∧(Instr.buildSlice T len I).run P w= .ok (.slice (some ⟨w.heap.size,0,none⟩) len len) (World.push w (.cells rv e))∧
   ∀ i l,res.u=[(i, .row l)]→l.length=len∧z3f ρ (z0f ρ h) w z (z5s l) rv.toList:=by
 obtain ⟨d,hd,a5,hk⟩:=ht.desc
 unfold z2q at c
 split at c
 rotate_left
 ·cases c
 rename_i e z eb ea ez q
 rw [q] at hk
 obtain ⟨rfl,hz,a4,_,k,g⟩:=hk
 cases R:(eAz 1 z&&eAz (len*z) 1000000) with
 |false=>rw [R] at c; cases c
 |true=>
 rw [R] at c; simp only [cond_true] at c
 simp only [eAf] at R
 have n:0<z:=eAl R.1
 have a3:len*z≤1000000:=eAl R.2
 split at c
 rotate_left
 ·cases c
 rename_i l hl
 cases s:z7t l with
 |false=>rw [s] at c; cases c
 |true=>
 rw [s] at c; simp only [cond_true] at c
 split at c
 rotate_left
 ·cases c
 rename_i es a2
 cases c
 obtain ⟨i,m,p,J,Y⟩:∃ i m,P.info? e=some i∧i.zero=some m∧y25 m.cells.toList=some ez:=by
  unfold y5p at k
  cases p:P.info? e with
  |none=>simp [p] at k
  |some i=>
   rw [p] at k
   simp at k
   cases C:i.zero with
   |none=>simp [C] at k
   |some m=>exact ⟨i,m,rfl,C,by simpa [C] using k⟩
 obtain ⟨W,X⟩:=z8z Y
 have f:m.cells.size=z:=by rw [←g,W]; simp
 have E:∃ H:Array Value,(if len*z=0 then (Pure.pure #[]:Sem (Array Value)) else (do pure (←zeroValue e).cells)).run P w= .ok H w∧(len*z≠0→H=m.cells):=by
  by_cases B:len*z=0
  ·exact ⟨#[],by simp [B],fun h=>absurd B h⟩
  ·exact ⟨m.cells,by simp [B,zeroValue,typeInfo,p,J],fun _=>rfl⟩
 obtain ⟨H,K,t⟩:=E
 have F:(toA (w89 len ez)).length=len*z:=by rw [z01,y6i,g]
 obtain ⟨rv,g1,g2,g3⟩:=y5g (ρ:=ρ) (w:=w) (O:=z0f ρ h) _ parts I.toList (toA (w89 len ez)) l ((Array.range (len*z)).map (H[· % H.size]!)) hl hp.1 hp.2 (by rw [F]; simp) (fun j x M=>by
  have G:j<len*z:=by rw [←F]; exact (eAe.1 M).1
  have a1:len*z≠0:=by omega
  rw [t a1]
  rw [z1p,x8d ez (by omega) len j (by rw [g]; exact G),g] at M
  have Q:j % z<m.cells.size:=by rw [f]; exact eGh _ n
  cases hq:ez[j % z]? with
  |none=>simp [hq] at M
  |some d=>
   simp [hq] at M; subst M
   obtain ⟨v,N,b⟩:=X (z0f ρ h) w _ d hq
   refine ⟨v,?_, .d b⟩
   simp [G,f]
   rw [getElem!_pos m.cells (j % z) Q]
   have:m.cells[j % z]?=some v:=by simpa using N
   rw [eBg Q] at this; cases this; rfl)
 obtain ⟨V,S,k3⟩:=w14 n _ _ _ a2
 have a:es.length=len:=by
  have U:l.length=len*z:=by
   rw [←g2]
   have:=(x4n hl)
   rw [g2,this,F]
  rw [U] at V
  exact (Nat.eq_of_mul_eq_mul_right n V).symm
 have A:(Instr.buildSlice T len I).run P w= .ok (.slice (some ⟨w.heap.size,0,none⟩) len len) (World.push w (.cells rv e)):=by
  unfold Instr.buildSlice
  simp only [eAw,z0h hd,eAo,z1h hz,eBf,eFd,show ¬ (len*z>2 ^ 24) by omega,if_false]
  by_cases B:len*z=0
  ·simp only [B,if_true,eBf] at K
   cases K
   simp only [B,if_true] at g1⊢
   simp only [g1,newRow,eAw,run_newObj,eAo,eBf]
   rfl
  ·have Z:=t B
   subst Z
   simp only [B,if_false,zeroValue,typeInfo,eAw,run_program,eAo,p,eBf,J,g1,newRow,run_newObj]
   rfl
 refine ⟨y3u hr hn (T:=e) rv (.slice new z 0 len (some len)) (w4l es) 0 z (.slice (some ⟨w.heap.size,0,none⟩) len len) A ?_ ?_,rv,e,z,eb,ea,ez,q,n,A,fun i0 l0 hu=>?_⟩
 ·refine z1e.of_rows (y9g es) n rv e (z4h _ _) S (fun i r j y p L=>?_)
  have G:j<z:=by rw [←S i r p]; exact (eAe.1 L).1
  have o:l[i*z+j]?=some y:=by rw [k3 i r j p G]; exact L
  obtain ⟨v,N,b⟩:=g3 _ y o
  exact ⟨v,by simpa using N,y2t (z8t s o) b,b.keep (z7a hr hn _ _ _ rfl) (Rho.put_mono _ _ _ hn)⟩
 ·exact .slice new z 0 _ _ ⟨w.heap.size,0,z⟩ _ _ (Rho.put_same _ _ _) rfl (fun _=>by simp) (.inl rfl) (eAp _)
 ·have he:es=z5s l0:=by
   have U:=y9g es
   have a0:w4l es= .row l0:=by
    have:=congrArg (fun x:List (Nat×AO)=>x.head?.map (·.2)) hu
    simpa using this
   rw [a0] at U
   cases U; rfl
  subst he
  rw [z0s] at a
  refine ⟨a,?_,S,fun i r j y p L=>?_⟩
  ·rw [z0s,a,eCg,g2,V,z0s,a]
  ·have G:j<z:=by rw [←S i r p]; exact (eAe.1 L).1
   have o:l[i*z+j]?=some y:=by rw [k3 i r j p G]; exact L
   obtain ⟨v,N,b⟩:=g3 _ y o
   exact ⟨v,by simpa using N,y2t (z8t s o) b,b⟩
theorem y3l {T:TypeId} {ti:TI} (o:z7j P T ti) (g:z0b P ρ h w) {new:Nat} (u:ρ new=none) {len:Nat} {parts:List (Nat×AV)} {y:Array (Nat×Value)}
  (s:y5n ρ (z0f ρ h) w parts y.toList) {r:List D} {res:Res} (a:z29 ti new len parts r=some res):z0n P ρ h w new (Instr.buildSlice T len y) res:=by
 unfold z29 at a
 split at a
 ·exact (z42 o g u s a).1
 ·split at a
  ·split at a
   ·rename_i j _ z _ _ _ x _
    cases a
    obtain ⟨_,rv,e,_,_,_,_,_,_,b,_⟩:=z42 o g u s x
    exact ⟨_,_,ρ,b, .d (.lnil _ _ _ _ (fun _=>rfl)),g.push0 _,Ext.push0 _ g _, .inl rfl⟩
   ·cases a
  ·rename_i n
   split at a
   ·rename_i j x
    obtain ⟨q,rv,e,z,H,I,ez,f,m,b,c⟩:=z42 o g u s x
    split at a
    ·rename_i i l J G C E B A k
     rw [f] at k
     cases k
     cases a
     obtain ⟨v,p⟩:=c i l A
     have t:l≠[]:=by intro F; rw [F] at v; simp at v
     have:=v0z g (new:=new) m (es:=l) (cs:=rv.toList) p t e (rv:=rv) rfl (by rw [v]; exact b)
     exact this
    ·cases a; exact q
   ·cases a
theorem w3h (f:z0b P ρ h w) {new:Nat} {op:UnOp} {x:AV} {v:Value} (e:z0q ρ (z0f ρ h) w x v) {res:Res} (c:x75 std op x=some res):z0n P ρ h w new (Op.unary op v) res:=by
 unfold x75 at c
 split at c
 ·rename_i k a
  cases e with|d e=>
  cases e
  split at c
  ·cases c
   exact z0n.pure f (by simp [Op.unary,Op.intArith,std,x6a]) (.d (.int _ _))
  ·cases c
   exact z0n.pure f (by simp [Op.unary,Op.intBits,std,x6a]) (.d (.int _ _))
  ·cases c
 ·rename_i b
  cases e with|d e=>
  cases e
  split at c
  ·cases c; exact z0n.pure f (by simp [Op.unary]) (.d (.bool _))
  ·cases c
 ·cases c
theorem y77 {S T:TypeId} {ts l:TI} (hS:z7j P S ts) (hT:z7j P T l) (j:z0b P ρ h w) {new:Nat} {x:AV} {v:Value} (c:z0q ρ (z0f ρ h) w x v) {res:Res} (b:z87 std ts l x=some res):
  z0n P ρ h w new (convert S T v) res:=by
 obtain ⟨d,k,_,f⟩:=hS.desc
 obtain ⟨d2,e,_,a⟩:=hT.desc
 unfold z87 at b
 split at b
 ·split at b
  ·rename_i i g
   rw [i] at f; rw [g] at a
   cases f; cases a
   cases c with|d c=>
   cases c; cases b
   exact z0n.pure j (by simp [convert,z0h k,z0h e,Conv.intToInt,std]) (.d (.int _ _))
  ·rename_i i g
   rw [i] at f; rw [g] at a
   cases f; cases a
   cases c with|d c=>
   cases c; cases b
   exact z0n.pure j (by simp [convert,z0h k,z0h e,Conv.intToString,std]) (.d (.str _))
  ·cases b
 ·split at b
  ·rename_i i g
   rw [i] at f; rw [g] at a
   cases f; cases a
   cases c with|d c=>
   cases c; cases b
   exact z0n.pure j (by simp [convert,z0h k,z0h e]) (.d (.str _))
  ·cases b
 ·cases b
theorem x5d:∀ {es:List (List D)} {a:List Int},w0a es=some a→es=a.map fun n=>[.int .u8 n]
 |[],a,h=>by cases h; rfl
 |r::l,a,h=>by
  unfold w0a at h
  split at h
  ·rename_i heq; cases heq
  ·rename_i n c heq
   cases heq
   split at h
   ·rename_i r' b
    cases h
    rw [x5d b]; rfl
   ·cases h
  ·cases h
theorem x26 {T:TypeId→Option TI} (hT:y1d P T) {s t:TypeId} {ts M:TI} (Y:z7j P s ts) (X:z7j P t M) (N:z0b P ρ h w) {new:Nat} {x:AV} {v:Value} (R:z0q ρ (z0f ρ h) w x v) {res:Res} (b:z62 std T h ts M x=some res) (W:res.c=true):
  z0n P ρ h w new (convert s t v) res:=by
 obtain ⟨d,V,_,O⟩:=Y.desc
 obtain ⟨d2,L,_,B⟩:=X.desc
 unfold z62 at b
 split at b
 ·rename_i e z eb ea ez g1 Z
  rw [g1] at O; rw [Z] at B
  obtain ⟨rfl,_⟩:=O
  cases B
  split at b
  ·rename_i Q F
   cases r:t1a Q.desc with
   |false=>rw [r] at b; cases b
   |true=>
   rw [r] at b
   simp only [cond_true] at b
   obtain ⟨d3,K,_,A⟩:=(hT _ _ F).desc
   have E:d3= .int .u8:=by
    unfold t1a at r
    split at r
    ·rename_i heq; rw [heq] at A; exact A
    ·cases r
   subst E
   split at b
   ·rename_i c es I
    split at b
    ·rename_i p G
     cases b
     obtain ⟨a,n,cap,cs,rfl,hn,U,j,g,f⟩:=y0l N (by omega) R I W
     have C:=x5d G
     have l:es.length=n:=by simpa [Els.toA,z0s] using j
     have o:cs=p.map (Value.int .u8):=by
      apply eCj
      intro i
      rw [eAj]
      have hl:cs.length=n:=by rw [g.1,j,eDg]
      have S:p.length=n:=by rw [←l,C,eBp]
      by_cases hi:i<n
      ·obtain ⟨m,y⟩:∃ m,p[i]?=some m:=⟨_,eAd (by omega)⟩
       have J:es[i]?=some [.int .u8 m]:=by rw [C,eAj,y]; rfl
       obtain ⟨u,q,_,k⟩:=g.2.2 i [.d (.int .u8 m)] 0 (.d (.int .u8 m)) (by
        show (z5s es)[i]?=_
        rw [z3o,J]; rfl) rfl
       rw [y]
       rw [eDg,eBk] at q
       rw [q]
       cases k with|d k=>cases k; rfl
      ·rw [eDv (by omega),eDv (by omega)]; rfl
     have f:=f w rfl
     refine z0n.pure N ?_ (.d (.str _))
     rw [run_convert_bytes_string w s t e a n cap V K L]
     cases a with
     |none=>
      have H:cs=[]:=by
       have:=f
       simp only [eCm,eBf,Result.ok.injEq,and_true] at this
       have:=congrArg Array.toList this.1
       simpa using this.symm
      have:p=[]:=by rw [H] at o; simpa using o.symm
      subst this
      simp [Conv.bytesToString,v90]
     |some a=>
      refine run_bytesToString w a n cap p ?_
      rw [←o]
      simpa [eCm] using f
    ·cases b
   ·cases b
  ·cases b
 ·cases b
theorem v6n {T:TypeId} {ti:TI} (q:z7j P T ti) (j:z0b P ρ h w) {new:Nat} {ty:TypeId} {x:AV} {v:Value} (i:z0q ρ (z0f ρ h) w x v) {res:Res} (b:w9r std ti h x=some res):
  z0n P ρ h w new (eGl #[T] ty #[v]) res:=by
 obtain ⟨d,l,_,g⟩:=q.desc
 have sl:∀ (e:TypeId) (a:Option Addr) (n c:Nat),d= .slice e→v= .slice a n c→(eGl #[T] ty #[v]).run P w= .ok (.int .i64 n) w:=by
  intro e a n c f o; subst f; subst o
  simp [eGl,z0h l,goInt]
 unfold w9r at b
 split at b
 ·split at b
  ·rename_i f
   rw [f] at g; obtain ⟨rfl,_⟩:=g
   cases b
   cases i with|d i=>
   cases i with
   |lnil=>exact z0n.pure j (sl _ _ _ _ rfl rfl) (.d (.int _ _))
   |list=>exact z0n.pure j (sl _ _ _ _ rfl rfl) (.d (.int _ _))
  ·cases b
 ·split at b
  ·rename_i f
   rw [f] at g; obtain ⟨rfl,_⟩:=g
   cases b
   cases i with
   |nils=>exact z0n.pure j (sl _ _ _ _ rfl rfl) (.d (.int _ _))
   |slice=>exact z0n.pure j (sl _ _ _ _ rfl rfl) (.d (.int _ _))
  ·cases b
 ·split at b
  ·rename_i f
   rw [f] at g; cases g
   cases b
   cases i with|d i=>
   cases i
   exact z0n.pure j (by simp [eGl,z0h l,goInt,std]) (.d (.int _ _))
  ·cases b
 ·split at b
  ·rename_i f
   rw [f] at g; obtain ⟨e,rfl,_⟩:=g
   cases b
   exact z0n.pure j (by simp [eGl,z0h l,goInt,std]) (.d (.int _ _))
  ·cases b
 ·split at b
  ·rename_i f
   rw [f] at g; obtain ⟨e,y,rfl,he,_⟩:=g
   cases b
   exact z0n.pure j (by simp [eGl,z0h l,z0h he,goInt,std]) (.d (.int _ _))
  ·cases b
 ·split at b
  ·rename_i f
   rw [f] at g; obtain ⟨k,e,rfl,_⟩:=g
   cases b
   cases i with|d i=>
   cases i
   exact z0n.pure j (by simp [eGl,z0h l,goInt]) (.d (.int _ _))
  ·cases b
 ·split at b
  ·rename_i f o
   rw [f] at g; obtain ⟨k,e,rfl,_⟩:=g
   cases b
   cases i with
   |map _ L s=>
    obtain ⟨_,p⟩:=j.obj _ L s
    rw [o] at p
    obtain ⟨u,t,r,m,_⟩:=p
    exact z0n.pure j (by simp [eGl,z0h l,goInt,getObj,Sem.run,r,m.1,std]) (.d (.int _ _))
  ·cases b
 ·cases b
end
end Go.Am
end
section
namespace Go.Am
section
variable {P:Program} {ρ:Rho} {h:List AO} {w:World}
def y4q (ρ:Rho) (O:Nat→Prop) (w:World):Option AV→Option Value→Prop
 |none,none=>True
 |some x,some v=>z0q ρ O w x v
 |_,_=>False
theorem y0c {O:Nat→Prop} {x:Option AV} {v:Option Value} (a:y4q ρ O w x v) {n:Option Int} (h:v2y x=some n):match n with|none=>v=none|some i=>∃ k,v=some (.int k i):=by
 unfold v2y at h
 split at h
 ·cases h; cases v with
  |none=>rfl
  |some _=>exact a.elim
 ·cases h; cases v with
  |none=>exact a.elim
  |some v=>cases a with|d a=>cases a; exact ⟨_,rfl⟩
 ·cases h
theorem z8h (k:IntKind) (i:Int) (y:Nat) (code:BoundsCode) (b:0≤i) (a:i≤y):(Instr.sliceBound (.int k i) y code).run P w= .ok i.toNat w:=by
 simp [Instr.sliceBound,asIntOf,b,a]
theorem z5a {O:Nat→Prop} {s t mx:Option AV} {q r vm:Option Value} (v:y4q ρ O w s q) (o:y4q ρ O w t r) (hm:y4q ρ O w mx vm) {l h m:Option Int} (B:v2y s=some l) (C:v2y t=some h) (em:v2y mx=some m)
  (a:Bool) (len cap:Nat) (L H M:Int) (b:L=z4w l 0) (d:H=z4w h len) (g:M=z4w m cap)
  (n:m≠none→h≠none) (p:0≤L) (A:L≤H) (z:H≤M) (y:M≤cap) (x:(len:Int)≤cap):
  (Instr.sliceBounds a len cap q r vm).run P w= .ok (L.toNat,H.toNat,M.toNat) w:=by
 have c:=y0c v B
 have i:=y0c o C
 have rm:=y0c hm em
 unfold z4w at b d g
 unfold Instr.sliceBounds
 cases m with
 |none=>
  simp at rm; subst rm
  simp only at g; subst g
  cases h with
  |none=>
   simp at i; subst i
   simp only at d; subst d
   cases l with
   |none=>simp at c; subst c; simp only at b; subst b; simp
   |some l=>
    obtain ⟨k,rfl⟩:=c; simp only at b; subst b
    simp [z8h k L len _ p A]
  |some o=>
   obtain ⟨k,rfl⟩:=i; simp only at d; subst d
   have f:=z8h (P:=P) (w:=w) k H cap (if a then .sliceAcap else .sliceAlen) (by omega) z
   cases l with
   |none=>simp at c; subst c; simp only at b; subst b; simp [f]
   |some l=>
    obtain ⟨j,rfl⟩:=c; simp only at b; subst b
    simp [f,z8h j L H.toNat _ p (by omega)]
 |some E=>
  obtain ⟨k,rfl⟩:=rm; simp only at g; subst g
  have e:=z8h (P:=P) (w:=w) k M cap (if a then .slice3Acap else .slice3Alen) (by omega) y
  cases h with
  |none=>exact absurd rfl (n (by simp))
  |some o=>
   obtain ⟨j,rfl⟩:=i; simp only at d; subst d
   have f:=z8h (P:=P) (w:=w) j H M.toNat .slice3B (by omega) (by omega)
   cases l with
   |none=>simp at c; subst c; simp only at b; subst b; simp [e,f]
   |some l=>
    obtain ⟨u,rfl⟩:=c; simp only at b; subst b
    simp [e,f,z8h u L H.toNat _ p (by omega)]
theorem z5v {T:TypeId} {e:TypeId} {z:Nat} (f:P.underlying T=some (.slice e)) (d:z92 P e=some z) {b c vm:Option Value} {a:Option Addr} {len cap l h m:Nat}
  (g:(Instr.sliceBounds true len cap b c vm).run P w= .ok (l,h,m) w):(Instr.sliceAt T (.slice a len cap) b c vm).run P w= .ok (.slice (if m=l then a else a.map (·.add (l*z))) (h - l) (m - l)) w:=by
 simp [Instr.sliceAt,Instr.slice,z0h f,g,z1h d]
theorem v71 {O : Nat → Prop} {full f' : Bool} {z : Nat} {es : List (List D)} {a : Option Addr} {n c : Nat} (hx : z1m O w (.list full z es) (.slice a n c)) (L H M : Nat) (h1 : L ≤ H) (h2 : H ≤ M) (h3 : H ≤ es.length) (h4 : M ≤ c) (hf : f' = true → M = H) :
    n = es.length ∧ n ≤ c ∧ (full = true → c = n) ∧ z1m O w (.list f' z ((es.drop L).take (H - L))) (.slice (if M = L then a else a.map (·.add (L * z))) (H - L) (M - L)) := by
  cases hx with
  | lnil _ _ _ _ hcap =>
    refine ⟨rfl, eBb _, hcap, ?_⟩
    simp at h3
    have e : H - L = 0 := by omega
    rw [e]
    simp
    exact .lnil _ _ _ _ (fun h => by have := hf h; omega)
  | list _ _ b o z c hz hne hO hlc hfull hsz cell h1c hcell hh =>
    refine ⟨rfl, hlc, hfull, ?_⟩
    have hlen : ((es.drop L).take (H - L)).length = H - L := by simp; omega
    by_cases hHL : H = L
    · have e : H - L = 0 := by omega
      rw [e]; simp
      exact .lnil _ _ _ _ (fun h => by have := hf h; omega)
    · rw [if_neg (by omega)]
      have hget : ∀ i, ((es.drop L).take (H - L))[i]? = if i < H - L then es[L + i]? else none := fun i => z1i es L (H - L) i
      have := z1m.list (O := O) (w := w) f' ((es.drop L).take (H - L)) b (o + L * z) z (M - L) hz (by intro e; rw [e] at hlen; simp at hlen; omega) hO (by rw [hlen]; omega) (fun h => by have := hf h; rw [hlen]; omega)
        (fun i r hi => by rw [hget] at hi; split at hi
                          · exact hsz _ r hi
                          · cases hi) (fun k => cell (L * z + k)) (fun k hk => by
          rw [hlen] at hk
          refine h1c _ ?_
          have : L * z + (H - L) * z ≤ es.length * z := by rw [← eBe]; exact eBi _ (by omega)
          omega) (fun k hk => by
          rw [hlen] at hk
          rw [eCf]
          refine hcell _ ?_
          have : L * z + (H - L) * z ≤ es.length * z := by rw [← eBe]; exact eBi _ (by omega)
          omega) (fun i r j d hi hj => by
          rw [hget] at hi
          split at hi
          · have := hh _ r j d hi hj
            rw [eBe, eCf] at this; exact this
          · cases hi)
      rw [hlen] at this
      simpa [z5n] using this
theorem x21 {T : TypeId} {ti : TI} (ht : z7j P T ti) (hr : z0b P ρ h w) {new : Nat} {x : AV} {v : Value} (hx : z0q ρ (z0f ρ h) w x v) {lo hi mx : Option AV} {vl vh vm : Option Value}
    (hl : y4q ρ (z0f ρ h) w lo vl) (hh : y4q ρ (z0f ρ h) w hi vh) (hm : y4q ρ (z0f ρ h) w mx vm) {r : List D} {ra : List AV} (hrow : (z4x h x).ok false r ra) {res : Res} (hs : z61 std ti h r x lo hi mx = some res) (hc : res.c = true) :
    z0n P ρ h w new (Instr.sliceAt T v vl vh vm) res := by
  obtain ⟨d, hd, _, hk⟩ := ht.desc
  unfold z61 at hs
  split at hs
  rotate_left
  · cases hs
  rename_i l hi' m el eh em
  split at hs
  ·
    rename_i full z es
    split at hs
    · rename_i e z' eb ea ez hdesc
      rw [hdesc] at hk
      obtain ⟨rfl, hz, _⟩ := hk
      cases hb : eAk z z' with
      | false => rw [hb] at hs; cases hs
      | true =>
      rw [hb] at hs; simp only [cond_true] at hs
      have hzz := eAg hb
      subst hzz
      cases hx with | d hx =>
      obtain ⟨a, n, c, rfl⟩ : ∃ a n c, v = .slice a n c := by cases hx <;> exact ⟨_, _, _, rfl⟩
      obtain ⟨hn, hnc, hfull, _⟩ := v71 (f' := false) hx 0 0 0 (by omega) (by omega) (by omega) (by omega) (by simp)
      split at hs
      · cases hs
        simp only at hc
        obtain ⟨c1, hc⟩ := and_true hc
        obtain ⟨c2, c3⟩ := and_true hc
        have c1 := z3q c1
        have c2 : z4w l 0 ≤ z4w hi' ((es.length : Nat) : Int) := z2u c2
        have c3 : z4w hi' ((es.length : Nat) : Int) ≤ ((es.length : Nat) : Int) := z2u c3
        have hbd := z5a (P := P) (w := w) hl hh hm el eh em true n c (z4w l 0) (z4w hi' ((es.length : Nat) : Int)) c rfl (by rw [hn]) rfl (by simp) c1 c2 (by omega) (by omega) (by omega)
        obtain ⟨_, _, _, hD⟩ := v71 (f' := std.and full (std.cmp .eql (z4w hi' (std.ofNat (std.len es))) (std.ofNat (std.len es)))) hx _ _ c
          (show (z4w l 0).toNat ≤ (z4w hi' ((es.length : Nat) : Int)).toNat by
            omega) (by have := c3; omega) (by have := c3; omega) (eAp _) (fun hf => by
            obtain ⟨f1, f2⟩ := and_true hf
            have f2 : z4w hi' ((es.length : Nat) : Int) = ((es.length : Nat) : Int) := by simpa [std, z3z] using f2
            have := hfull f1
            rw [f2]; simp; omega)
        exact z0n.pure hr (z5v hd hz hbd) (.d hD)
      · rename_i mm
        split at hs
        · rename_i hh'
          cases hs
          simp only at hc
          obtain ⟨c1, hc⟩ := and_true hc
          obtain ⟨c2, hc⟩ := and_true hc
          obtain ⟨c3, c4⟩ := and_true hc
          have c1 := z3q c1
          have c2 := z2u c2
          have c3 := z2u c3
          have c4 : mm ≤ ((es.length : Nat) : Int) := z2u c4
          have hbd := z5a (P := P) (w := w) hl hh hm el eh em true n c (z4w l 0) hh' mm rfl rfl rfl (by simp) c1 c2 c3 (by omega) (by omega)
          obtain ⟨_, _, _, hD⟩ := v71 (f' := std.cmp .eql hh' mm) hx _ hh'.toNat mm.toNat (show (z4w l 0).toNat ≤ hh'.toNat by omega) (by omega) (by omega) (by omega) (fun hf => by
            have : hh' = mm := by simpa [std, z3z] using hf
            rw [this])
          exact z0n.pure hr (z5v hd hz hbd) (.d hD)
        · cases hs
    · cases hs
  ·
    rename_i id z off len cap
    split at hs
    · rename_i e z' eb ea ez hdesc
      rw [hdesc] at hk
      obtain ⟨rfl, hz, _⟩ := hk
      cases hb : eAk z z' with
      | false => rw [hb] at hs; cases hs
      | true =>
      rw [hb] at hs; simp only [cond_true] at hs
      have hzz := eAg hb
      subst hzz
      cases hx with
      | nils _ _ _ _ a hcc =>
        have keyn : ∀ (L H M : Nat) (cap' : Option Nat), L ≤ H → H ≤ 0 → M ≤ 0 → (cap' = none ∨ cap' = some 0) →
            z0q ρ (z0f ρ h) w (.slice id z (off + L) (H - L) cap') (.slice (if M = L then a else a.map (·.add (L * z))) (H - L) (M - L)) := by
          intro L H M cap' h1 h2 h3 h4
          obtain rfl : L = 0 := by omega
          obtain rfl : H = 0 := by omega
          obtain rfl : M = 0 := by omega
          exact .nils _ _ _ _ _ h4
        split at hs
        · cases hs
          simp only at hc
          obtain ⟨c1, hc⟩ := and_true hc
          obtain ⟨c2, c3⟩ := and_true hc
          have c1 := z3q c1
          have c2 : z4w l 0 ≤ z4w hi' ((0 : Nat) : Int) := z2u c2
          have c3 : z4w hi' ((0 : Nat) : Int) ≤ ((0 : Nat) : Int) := z2u c3
          have hbd := z5a (P := P) (w := w) hl hh hm el eh em true 0 0 (z4w l 0) (z4w hi' ((0 : Nat) : Int)) ((0 : Nat) : Int) rfl rfl rfl (by simp) c1 c2 (by omega) (by omega) (by omega)
          refine z0n.pure hr (z5v hd hz hbd) (keyn (z4w l 0).toNat (z4w hi' ((0 : Nat) : Int)).toNat _ _ (by omega) (by omega) (by simp) ?_)
          have e0 : (z4w l 0).toNat = 0 := by omega
          rcases hcc with hcc | hcc
          · subst hcc; exact .inl rfl
          · subst hcc; exact .inr (by simp [v4b, std])
        · rename_i mm
          split at hs
          · rename_i hh'
            cases hs
            simp only at hc
            obtain ⟨c1, hc⟩ := and_true hc
            obtain ⟨c2, hc⟩ := and_true hc
            obtain ⟨c3, c4⟩ := and_true hc
            have c1 := z3q c1
            have c2 := z2u c2
            have c3 := z2u c3
            have c4 : mm ≤ ((0 : Nat) : Int) := z2u c4
            have hbd := z5a (P := P) (w := w) hl hh hm el eh em true 0 0 (z4w l 0) hh' mm rfl rfl rfl (by simp) c1 c2 c3 (by omega) (by omega)
            refine z0n.pure hr (z5v hd hz hbd) (keyn (z4w l 0).toNat hh'.toNat mm.toNat _ (by omega) (by omega) (by omega) (.inr ?_))
            show some (mm.toNat - (z4w l 0).toNat) = some 0
            congr 1; omega
          · cases hs
      | slice _ _ _ _ _ Lc a c hL hLz haa hcc hle =>
      have key : ∀ (L H M : Nat) (cap' : Option Nat), L ≤ H → H ≤ M → M ≤ c → (cap' = some (M - L) ∨ (cap' = none ∧ M = c ∧ cap = none)) →
          z0q ρ (z0f ρ h) w (.slice id z (off + L) (H - L) cap') (.slice (if M = L then a else a.map (·.add (L * z))) (H - L) (M - L)) := by
        intro L H M cap' h1 h2 h3 h4
        refine .slice id z _ _ _ Lc _ _ hL hLz (fun hpos => ?_) ?_ (by omega)
        · rw [if_neg (by omega), haa (by omega)]
          simp [z5n, hLz, eBe, eCf]
        · rcases h4 with h4 | ⟨h4, rfl, hcn⟩
          · exact .inl h4
          · rcases hcc with hcc | ⟨_, nb, hnb, hroom⟩
            · rw [hcn] at hcc; cases hcc
            · exact .inr ⟨h4, nb, hnb, by rw [show off + L + (M - L) = off + M by omega]; exact hroom⟩
      split at hs
      · cases hs
        simp only at hc
        obtain ⟨c1, hc⟩ := and_true hc
        obtain ⟨c2, c3⟩ := and_true hc
        have c1 := z3q c1
        have c2 : z4w l 0 ≤ z4w hi' ((len : Nat) : Int) := z2u c2
        have c3 : z4w hi' ((len : Nat) : Int) ≤ ((len : Nat) : Int) := z2u c3
        have hbd := z5a (P := P) (w := w) hl hh hm el eh em true len c (z4w l 0) (z4w hi' ((len : Nat) : Int)) c rfl rfl rfl (by simp) c1 c2 (by omega) (by omega) (by omega)
        refine z0n.pure hr (z5v hd hz hbd) (key (z4w l 0).toNat (z4w hi' ((len : Nat) : Int)).toNat c _ (by omega) (by omega) (eAp _) ?_)
        rcases hcc with hcc | ⟨hcc, _⟩
        · subst hcc; exact .inl rfl
        · subst hcc; exact .inr ⟨rfl, rfl, rfl⟩
      · rename_i mm
        split at hs
        · rename_i hh'
          cases hs
          simp only at hc
          obtain ⟨c1, hc⟩ := and_true hc
          obtain ⟨c2, hc⟩ := and_true hc
          obtain ⟨c3, c4⟩ := and_true hc
          have c1 := z3q c1
          have c2 := z2u c2
          have c3 := z2u c3
          have c4 : mm ≤ ((len : Nat) : Int) := z2u c4
          have hbd := z5a (P := P) (w := w) hl hh hm el eh em true len c (z4w l 0) hh' mm rfl rfl rfl (by simp) c1 c2 c3 (by omega) (by omega)
          exact z0n.pure hr (z5v hd hz hbd) (key (z4w l 0).toNat hh'.toNat mm.toNat _ (by omega) (by omega) (by omega) (.inl rfl))
        · cases hs
    · cases hs
  ·
    rename_i id off
    split at hs
    · rename_i n esz ea hdesc
      rw [hdesc] at hk
      obtain ⟨e, rfl, hsz, _⟩ := hk
      have hvl := y0c hl el
      have hvh := y0c hh eh
      have hvm := y0c hm em
      simp at hvl hvh hvm
      subst hvl; subst hvh; subst hvm
      split at hs
      · rename_i es r0 hob
        cases hb : eAk esz 1 with
        | false => rw [hb] at hs; cases hs
        | true =>
        rw [hb] at hs; cases hs
        have he := eAg hb
        subst he
        cases hx with
        | bptr _ _ L hL =>
          have ho := (hr.obj id L hL).2
          rw [hob] at ho
          have ho2 := ho
          obtain ⟨_, c, t, hcb, _, _⟩ := ho
          simp only [z4x, hob] at hrow
          obtain ⟨h1, hlt, _⟩ := z9p ho2 hrow hcb (j := 0) (x := r0) rfl
          refine z0n.pure (v := .slice (some ⟨L.blk, L.base + off, none⟩) n n) hr ?_ ?_
          · simp only [Instr.sliceAt, eAw, z0h hd, eAo, Instr.sureAddr, Instr.sliceBounds, eBf, z1h hsz, eGs, Nat.zero_mul, z5n, eBk]
            split <;> rfl
          · refine .slice id 1 off n (some n) L _ n hL h1 (fun _ => ?_) (.inl rfl) (eAp _)
            rw [h1, eDg]
      · cases hs
    · rename_i l hi' _ _ _ _ n esz ea hdesc hno
      rw [hdesc] at hk
      obtain ⟨e, rfl, hsz, _⟩ := hk
      have hvm := y0c hm em
      simp at hvm
      subst hvm
      split at hs
      · rename_i es r0 hob
        cases hb : eAk esz 1 with
        | false => rw [hb] at hs; cases hs
        | true =>
        rw [hb] at hs; cases hs
        simp only at hc
        obtain ⟨c1, hc⟩ := and_true hc
        obtain ⟨c2, c3⟩ := and_true hc
        have c1 := z3q c1
        have c2 : z4w l 0 ≤ z4w hi' ((n : Nat) : Int) := z2u c2
        have c3 : z4w hi' ((n : Nat) : Int) ≤ ((n : Nat) : Int) := z2u c3
        have he := eAg hb
        subst he
        cases hx with
        | bptr _ _ L hL =>
          have ho := (hr.obj id L hL).2
          rw [hob] at ho
          have ho2 := ho
          obtain ⟨_, c, t, hcb, _, _⟩ := ho
          simp only [z4x, hob] at hrow
          obtain ⟨h1, hlt, _⟩ := z9p ho2 hrow hcb (j := 0) (x := r0) rfl
          have hbd := z5a (P := P) (w := w) hl hh (mx := none) (vm := none) trivial el eh rfl false n n (z4w l 0) (z4w hi' ((n : Nat) : Int)) n rfl rfl rfl (by simp) c1 c2 (by omega) (by omega) (by omega)
          refine z0n.pure (v := .slice (some (if ((n : Nat) : Int).toNat = (z4w l 0).toNat then ⟨L.blk, L.base + off, none⟩ else (⟨L.blk, L.base + off, none⟩ : Addr).add ((z4w l 0).toNat * 1))) ((z4w hi' ((n : Nat) : Int)).toNat - (z4w l 0).toNat) (((n : Nat) : Int).toNat - (z4w l 0).toNat)) hr ?_ ?_
          · simp [Instr.sliceAt, eAw, z0h hd, eAo, Instr.sureAddr, hbd, z1h hsz]
          · refine .slice id 1 (off + (z4w l 0).toNat) _ (some (n - (z4w l 0).toNat)) L _ _ hL h1 (fun hp => ?_) (.inl (by simp)) (by show (z4w hi' ((n : Nat) : Int)).toNat - (z4w l 0).toNat ≤ ((n : Nat) : Int).toNat - (z4w l 0).toNat; omega)
            simp only [eFf] at hp ⊢
            rw [if_neg (by omega), h1, eDg, eDg, z5n]
            congr 2
            omega
      · cases hs
    · cases hs
  ·
    rename_i s
    split at hs
    · rename_i hdesc
      rw [hdesc] at hk
      cases hk
      cases hs
      simp only at hc
      obtain ⟨c1, hc⟩ := and_true hc
      obtain ⟨c2, c3⟩ := and_true hc
      have c1 := z3q c1
      have c2 : z4w l 0 ≤ z4w hi' ((s.size : Nat) : Int) := z2u c2
      have c3 : z4w hi' ((s.size : Nat) : Int) ≤ ((s.size : Nat) : Int) := z2u c3
      cases hx with | d hx =>
      cases hx
      have hvm := y0c hm em
      simp at hvm; subst hvm
      have hbd := z5a (P := P) (w := w) hl hh (mx := none) (vm := none) trivial el eh rfl false s.size s.size (z4w l 0) (z4w hi' ((s.size : Nat) : Int)) s.size rfl rfl rfl (by simp) c1 c2 (by omega) (by omega) (by omega)
      refine z0n.pure hr ?_ (.d (.str _))
      simp [Instr.sliceAt, Instr.slice, z0h hd, hbd, std]
    · cases hs
  · cases hs
theorem y81 (g:z0b P ρ h w) {new:Nat} {op:BinOp} (e:op= .lss∨op= .gtr) {xs:List AV} {vs:List Value} (m:vs.length=xs.length) (q:∀ (i:Nat) (x:AV) (v:Value),xs[i]?=some x→vs[i]?=some v→z0q ρ (z0f ρ h) w x v)
  {a:Array TypeId} {t:TypeId} {res:Res} (f:y3j std op xs=some res):z0n P ρ h w new ((if op= .lss then Builtin.min_ else Builtin.max_) a t vs.toArray) res:=by
 have one:∀ (i:Nat) (k:IntKind) (n:Int) (v:Value),xs[i]?=some (.d (.int k n))→vs[i]?=some v→v= .int k n:=by
  intro i k n v s r
  have:=q i _ v s r
  cases this with|d h=>cases h; rfl
 unfold y3j at f
 split at f
 ·cases f
  obtain ⟨v1,l,rfl⟩:∃ a b,vs=[a,b]:=by
   match vs,m with|[a,b],_=>exact ⟨a,b,rfl⟩
  have j:=one 0 _ _ v1 rfl rfl
  have o:=one 1 _ _ l rfl rfl
  subst j; subst o
  rcases e with rfl|rfl
  ·exact z0n.pure g (by simp [Builtin.min_,Builtin.min2,std]) (.d (.int _ _))
  ·exact z0n.pure g (by simp [Builtin.max_,Builtin.max2,std]) (.d (.int _ _))
 ·cases f
  obtain ⟨v1,l,p,rfl⟩:∃ a b c,vs=[a,b,c]:=by
   match vs,m with|[a,b,c],_=>exact ⟨a,b,c,rfl⟩
  have j:=one 0 _ _ v1 rfl rfl
  have o:=one 1 _ _ l rfl rfl
  have u:=one 2 _ _ p rfl rfl
  subst j; subst o; subst u
  rcases e with rfl|rfl
  ·exact z0n.pure g (by simp [Builtin.min_,Builtin.min2,std]) (.d (.int _ _))
  ·exact z0n.pure g (by simp [Builtin.max_,Builtin.max2,std]) (.d (.int _ _))
 ·cases f
  obtain ⟨v1,rfl⟩:∃ a,vs=[a]:=by
   match vs,m with|[a],_=>exact ⟨a,rfl⟩
  have j:=one 0 _ _ v1 rfl rfl
  subst j
  rcases e with rfl|rfl
  ·exact z0n.pure g (by simp [Builtin.min_]) (.d (.int _ _))
  ·exact z0n.pure g (by simp [Builtin.max_]) (.d (.int _ _))
 ·cases f
end
end Go.Am
end
section
namespace Go.Am
section
variable {P:Program} {ρ:Rho} {h:List AO} {w:World}
def z6b:List SK→List Value→Prop
 |[],[]=>True
 | .i::ks, .int _ _::r=>z6b ks r
 | .b::ks, .bool _::r=>z6b ks r
 | .s::ks, .string _::r=>z6b ks r
 |_,_=>False
theorem y2u:∀ (ks:List SK) (xs:List Value),z6b ks xs→xs.length=ks.length
 |[],[],_=>rfl
 |[],_::_,h=>h.elim
 |k::ks,[],h=>by cases k<;>exact h.elim
 | .i::ks,x::xs,h=>by cases x<;>simp only [z6b] at h; simp [y2u ks xs h]
 | .b::ks,x::xs,h=>by cases x<;>simp only [z6b] at h; simp [y2u ks xs h]
 | .s::ks,x::xs,h=>by cases x<;>simp only [z6b] at h; simp [y2u ks xs h]
theorem w9w {O:Nat→Prop}:∀ (ks:List SK) (ds:List D) (xs:List Value),z1k ks ds=true→xs.length=ds.length→(∀ (j:Nat) (y:D) (u:Value),ds[j]?=some y→xs[j]?=some u→z1m O w y u)→z6b ks xs:=by
 intro ks
 induction ks with
 |nil=>intro ds xs h a b; cases ds<;>simp [z1k] at h; cases xs<;>simp at a; trivial
 |cons k ks e=>
  intro ds xs h a b
  cases ds with
  |nil=>cases k<;>simp [z1k] at h
  |cons d ds=>
  cases xs with
  |nil=>simp at a
  |cons x xs=>
  have l:=b 0 d x rfl rfl
  have i:∀ (c:z1k ks ds=true),z6b ks xs:=fun c=>e ds xs c (by simpa using a) (fun j y u f g=>b (j+1) y u (by simpa using f) (by simpa using g))
  cases k<;>cases d<;>simp [z1k] at h<;>cases l<;>exact i h
theorem y10:∀ (c d:List SK) (xs:List Value),z6b (c++d) xs→z6b c (xs.take c.length)∧z6b d (xs.drop c.length)
 |[],d,xs,h=>⟨by simp [z6b],by simpa using h⟩
 |k::c,d,[],h=>by cases k<;>exact h.elim
 |k::c,d,x::xs,h=>by
  cases k<;>cases x<;>simp only [eGr,z6b] at h
  all_goals (obtain ⟨a,b⟩:=y10 c d xs h; exact ⟨by simpa [z6b] using a,by simpa using b⟩)
theorem y8l (n d : Nat) (em : Bool) (ih : ∀ (t : TypeId) (ks : List SK) (x : Value) (xs : List Value) (w : World), z45 P n t = some ks → Holds P t x xs → z6b ks xs → (eFe em d t x).run P w = .ok () w) :
  ∀ (fs : List Field) (off : Nat) (ks : List SK) (xs : List Value), w85 P (z45 P n) off fs = some ks → xs.length = off + ks.length → z6b ks (xs.drop off) →
   ((forIn fs PUnit.unit (fun f _ => (do
    if f.name ≠ "_" then
     eFe em d f.type (← Go.part f.type xs.toArray f.offset)
     pure (.yield PUnit.unit)
    else pure (.yield PUnit.unit) : Sem (ForInStep PUnit)))) : Sem PUnit).run P w = .ok PUnit.unit w := by
 intro fs
 induction fs with
 | nil => intro off ks xs hr hx hk; simp
 | cons f fs ihf =>
  intro off ks xs hr hx hk
  simp only [w85] at hr
  split at hr
  ·rename_i hc
   obtain ⟨hn, ho⟩ := hc
   split at hr
   ·rename_i k1 hk1
    split at hr
    ·rename_i hs
     cases hq : w85 P (z45 P n) (off + k1.length) fs with
     | none => rw [hq] at hr; cases hr
     | some k2 =>
     rw [hq] at hr; simp at hr; subst hr
     obtain ⟨a, ha⟩ := y20 hk1
     have h1 := y2z hk1 ha
     rw [eCz] at hx
     obtain ⟨vx, rx, hx1⟩ := z8f (P := P) hs ha xs off (by omega) h1
     obtain ⟨b1, b2⟩ := y10 _ _ _ hk
     rw [eGf] at b2
     have hq1 := ih f.type k1 vx _ w hk1 hx1 b1
     have hrest := ihf (off + k1.length) k2 xs hq (by omega) b2
     rw [← ho] at rx
     rw [List.forIn_cons]
     simp only [hn, ne_eq, not_false_eq_true, if_true, eAw, rx, hq1, eAo, eBf]
     exact hrest
    ·cases hr
   ·cases hr
  ·cases hr
theorem y8k (d:Nat) (em:Bool) (e:TypeId) (s:Nat) (a:Bool) (ks:List SK) (g:ks.length=s) (l:z92 P e=some s) (u:z4q P e=some a) (v:a=false→s=1)
  (r:∀ (x:Value) (xs:List Value) (w:World),Holds P e x xs→z6b ks xs→(eFe em d e x).run P w= .ok () w) (xs:List Value):
  ∀ (m i:Nat),xs.length=(i+m)*s→z6b (eAu m ks).flatten (xs.drop (i*s))→
   ((forIn (List.range' i m) PUnit.unit (fun i _=>(do
    eFe em d e (←Go.part e xs.toArray (i*(←sizeOf e)))
    pure (.yield PUnit.unit):Sem (ForInStep PUnit)))):Sem PUnit).run P w= .ok PUnit.unit w:=by
 intro m
 induction m with
 |zero=>intro i k h; simp
 |succ m c=>
  intro i k h
  simp only [List.replicate_succ,List.flatten_cons] at h
  have n:(i+(m+1))*s=i*s+s+m*s:=by rw [eBe,eBe]; omega
  obtain ⟨o,j⟩:=y10 _ _ _ h
  rw [g] at o j
  rw [eGf] at j
  obtain ⟨p,q,f⟩:=z8f (P:=P) l u xs (i*s) (by omega) v
  have t:=r p _ w f o
  have b:=c (i+1) (by rw [k]; congr 1; omega) (by rw [eBe,Nat.one_mul]; exact j)
  rw [List.range'_succ,List.forIn_cons]
  simp only [eAw,z1h l,q,t,eAo,eBf]
  exact b
theorem x7i (em:Bool):∀ (n d:Nat),n≤d→∀ (t:TypeId) (ks:List SK) (x:Value) (xs:List Value) (w:World),z45 P n t=some ks→Holds P t x xs→z6b ks xs→
  (eFe em d t x).run P w= .ok () w:=by
 intro n
 induction n with
 |zero=>intro d _ t ks x xs w c; simp [z45] at c
 |succ n s=>
  intro d A t ks x xs w c l j
  obtain ⟨d,rfl⟩:∃ e,d=e+1:=⟨d - 1,by omega⟩
  obtain ⟨a,p,z,f⟩:=l
  unfold z4q at p
  simp only [z45] at c
  split at c
  rotate_left
  ·cases c
  rename_i y b
  split at c
  rotate_left
  ·cases c
  cases c
  have h:=y2u _ _ j
  unfold w5q at b
  cases g:P.underlying t with
  |none=>simp [g] at p
  |some ds=>
   simp [g] at p; subst p
   rw [g] at b
   cases ds<;>simp only at b<;>try (cases b; done)
   ·cases b; simp [eFe,z0h g]
   ·cases b; simp [eFe,z0h g]
   ·cases b; simp [eFe,z0h g]
   ·rename_i m e
    simp [z79] at f; subst f
    cases k:z45 P n e with
    |none=>rw [k] at b; cases b
    |some q=>
    rw [k] at b; simp at b; subst b
    have r:=z6y _ _ _ k
    obtain ⟨v,o⟩:=y20 k
    have:=y8k (P:=P) (w:=w) d em e q.length v q rfl r o (y2z k o) (fun x xs w l j=>s d (by omega) e q x xs w k l j) xs m 0
     (by rw [h]; simp) (by simpa using j)
    simp only [eFe,eAw,z0h g,eAo]
    rw [Std.Legacy.Range.forIn_eq_forIn_range']
    have i:([:m]:Std.Legacy.Range).size=m:=by simp [Std.Legacy.Range.size]
    rw [i]
    erw [this]
    simp
   ·rename_i u
    simp [z79] at f; subst f
    split at b
    ·cases b
    ·have:=y8l (P:=P) (w:=w) n d em (fun t ks x xs w c l j=>s d (by omega) t ks x xs w c l j) u.toList 0 _ xs b (by simpa using h) (by simpa using j)
     simp only [eFe,eAw,z0h g,eAo]
     rw [←Array.forIn_toList]
     erw [this]
     simp
theorem v0n {T:TypeId} {ks:List SK} {a:Bool} (m:z45 P 8 T=some ks) (j:z4q P T=some a) {O:Nat→Prop} {x y:D} {f e:Value} (l:z1m O w x f) (k:z1m O w y e) (u:z1w x=a) (t:z1w y=a) {b:Bool}
  (i:z1r std ks (z0x x) (z0x y)=some b):∃ xs c,Holds P T f xs∧Holds P T e c∧z81 ks xs c=some b:=by
 have d:=z6y _ _ _ m
 obtain ⟨h,g⟩:=y7j ks _ _ _ i
 obtain ⟨xs,p,o,n⟩:=y7a (P:=P) (T:=T) l h d (by rw [u]; exact j)
 obtain ⟨c,s,r,q⟩:=y7a (P:=P) (T:=T) k g d (by rw [t]; exact j)
 exact ⟨xs,c,p,s,y9z ks _ _ xs c b i (o.trans h.symm) (r.trans g.symm) n q⟩
theorem v7r:∀ (ks:List SK) (xs b:List Value),z81 ks xs b=some true→xs=b∧z6b ks xs:=by
 intro ks
 induction ks with
 |nil=>intro xs b h; cases xs<;>cases b<;>simp [z81] at h; exact ⟨rfl,trivial⟩
 |cons k ks i=>
  intro xs b h
  cases xs with
  |nil=>simp [z81] at h
  |cons x xs=>
   cases b with
   |nil=>simp [z81] at h
   |cons y b=>
    simp only [z81] at h
    split at h
    ·rename_i a c f j
     simp only [Option.some.injEq,eAf] at h
     obtain ⟨rfl,rfl⟩:=h
     obtain ⟨e,d⟩:=i xs b j
     subst e
     cases k
     ·obtain ⟨k,a,c,rfl,rfl,e⟩:=u2q f
      have:a=c:=by simpa using e.symm
      subst this; exact ⟨rfl,d⟩
     ·obtain ⟨a,c,rfl,rfl,e⟩:=u2r f
      have:a=c:=by simpa using e.symm
      subst this; exact ⟨rfl,d⟩
     ·obtain ⟨a,c,rfl,rfl,e⟩:=u2p f
      have:a=c:=by
       have g:a.toList=c.toList:=by simpa using e.symm
       rw [ByteArray.toList_eq,ByteArray.toList_eq] at g
       obtain ⟨⟨x⟩⟩:=a
       obtain ⟨⟨y⟩⟩:=c
       simp at g; rw [g]
      subst this; exact ⟨rfl,d⟩
    ·cases h
theorem x1a (n:Nat):∀ (ks:List SK) (xs:List Value),z6b ks xs→∀ v,v= .agg xs.toArray∨xs=[v]→Instr.sameBits (n+2) v v=true:=by
 have one:∀ (m:Nat) (k:SK) (ks:List SK) (x:Value) (xs:List Value),z6b (k::ks) (x::xs)→Instr.sameBits m x x=true∧z6b ks xs:=by
  intro m k ks x xs h
  cases k<;>cases x<;>simp only [z6b] at h
  all_goals exact ⟨by cases m<;>simp [Instr.sameBits,beq_toListBytes],h⟩
 have all:∀ (m:Nat) (ks:List SK) (xs:List Value),z6b ks xs→∀ x∈xs,Instr.sameBits m x x=true:=by
  intro m ks
  induction ks with
  |nil=>intro xs h x c; cases xs with
   |nil=>cases c
   |cons _ _=>exact h.elim
  |cons k ks f=>intro xs h x c; cases xs with
   |nil=>cases c
   |cons y d=>
    obtain ⟨a,b⟩:=one m k ks y d h
    rcases eBa.1 c with rfl|c
    ·exact a
    ·exact f d b x c
 intro ks xs h v g
 rcases g with rfl|rfl
 ·simp only [Instr.sameBits,beq_self_eq_true,Bool.true_and]
  rw [eBm]
  intro p j
  have:p.1=p.2∧p.1∈xs:=by
   obtain ⟨i,l,e⟩:=List.getElem_of_mem j
   rw [List.getElem_zip] at e
   rw [←e]; simp
  rw [←this.1]
  exact all _ ks xs h _ this.2
 ·exact all _ ks _ h v (by simp)
theorem z6x {T:TypeId} {v:Value} {xs:List Value} (h:Holds P T v xs) (b:∀ cs,v≠ .agg cs):xs=[v]:=by
 obtain ⟨a,_,_,h⟩:=h
 cases a with
 |true=>exact absurd h (b _)
 |false=>simpa using h
theorem x13 {ks:List SK} {x y:Value} {b:Bool} (h:z81 ks [x] [y]=some b):∃ k,eq1 k x y=some b:=by
 cases ks with
 |nil=>simp [z81] at h
 |cons k ks=>
  simp only [z81] at h
  split at h
  ·rename_i a c e d
   cases ks with
   |nil=>simp [z81] at d; subst d; cases h; exact ⟨k,by simpa using e⟩
   |cons _ _=>simp [z81] at d
  ·cases h
theorem y83 {ks:List SK} {T:TypeId} {n m:Value} {xs l:List Value} {b c:Bool} (i:Holds P T n xs) (g:Holds P T m l) (f:z81 ks xs l=some b) {d:TypeDesc} (h:Instr.sameNow d n m=some c):c=b:=by
 unfold Instr.sameNow at h
 split at h
 ·rename_i k a o p
  split at h
  ·rename_i j; subst j; cases h
   rw [z6x i (by simp),z6x g (by simp)] at f
   obtain ⟨q,e⟩:=x13 f
   cases q<;>simp [eq1] at e; exact e
  ·cases h
 ·cases h
  rw [z6x i (by simp),z6x g (by simp)] at f
  obtain ⟨q,e⟩:=x13 f
  cases q<;>simp [eq1] at e
  rw [beq_toListBytes]; exact e
 ·cases h
  rw [z6x i (by simp),z6x g (by simp)] at f
  obtain ⟨q,e⟩:=x13 f
  cases q<;>simp [eq1] at e; exact e
 ·cases h
def y1l (O:Nat→Prop) (w:World) (es:List (D×D)) (en:List MapEntry):Prop:=
 en.length=es.length∧∀ (i:Nat) (k x:D),es[i]?=some (k,x)→∃ e:MapEntry,en[i]?=some e∧z1m O w k e.key∧z1m O w x e.val
theorem v7n {T:TypeId} {ks:List SK} {ka:Bool} (G:z45 P 8 T=some ks) (S:z4q P T=some ka) {O:Nat→Prop} {k:D} {o:Value} (Q:z1m O w k o) (d:TypeDesc):
  ∀ (es:List (D×D)) (en:List MapEntry) (i:Nat) (res:Option (Nat×D)),y1l O w es en→z6c std ks ka k es i=some res→
   ∃ r:Option (Nat×Value),(∀ r',Instr.findNow d o en i=some r'→r'=r)∧(Instr.findAsking T o en i).run P w= .ok r w∧
    match res with
    |none=>r=none
    |some (n,x)=>i≤n∧∃ u e,r=some (n,e.val)∧es[n - i]?=some (u,x)∧en[n - i]?=some e∧z1m O w x e.val∧e.key=o:=by
 intro es
 induction es with
 |nil=>
  intro en i res v h
  simp [z6c] at h; subst h
  obtain ⟨C,_⟩:=v
  have:en=[]:=by simpa using C
  subst this
  exact ⟨none,fun r' h=>by simp [Instr.findNow] at h; exact h.symm,by simp [Instr.findAsking],rfl⟩
 |cons p es L=>
  intro en i res v h
  obtain ⟨u,x⟩:=p
  obtain ⟨C,v⟩:=v
  cases en with
  |nil=>simp at C
  |cons e en=>
  obtain ⟨e0,z,V,U⟩:=v 0 u x rfl
  simp at z; subst z
  simp only [z6c] at h
  cases A:(z1w k==ka)&&(z1w u==ka) with
  |false=>rw [A] at h; cases h
  |true=>
  rw [A] at h; simp only [cond_true] at h
  simp only [eAf,beq_iff_eq] at A
  cases E:z1r std ks (z0x k) (z0x u) with
  |none=>rw [E] at h; cases h
  |some b=>
  obtain ⟨J,I,t,m,s⟩:=v0n G S Q V A.1 A.2 E
  have l:=y9w (P:=P) 8 Op.maxDepth (by decide) T ks o e.key J I b w G t m s
  have l:(Op.equal T o e.key).run P w= .ok b w:=l
  rw [E] at h
  cases b with
  |true=>
   simp at h; subst h
   obtain ⟨rfl,N⟩:=v7r _ _ _ s
   have M:o=e.key:=by
    obtain ⟨a,F,_,t⟩:=t
    obtain ⟨a',B,_,m⟩:=m
    rw [F] at B; cases B
    cases a
    ·simp at t m; rw [t] at m; simpa using m
    ·simp at t m; rw [t,m]
   refine ⟨some (i,e.val),fun r' f=>?_,by simp [Instr.findAsking,l],eAp _,u,e,rfl,by simp,by simp,U,M.symm⟩
   simp only [Instr.findNow] at f
   cases g:Instr.sameNow d o e.key with
   |none=>rw [g] at f; cases f
   |some c=>
    have:=y83 t m s g
    subst this
    rw [g] at f; cases f; rfl
  |false=>
   simp only at h
   obtain ⟨r,f1,f2,H⟩:=L en (i+1) res ⟨by simpa using C,fun j a c R=>by
    have:=v (j+1) a c (by simpa using R); simpa using this⟩ h
   refine ⟨r,fun r' f=>?_,by simp [Instr.findAsking,l,f2],?_⟩
   ·simp only [Instr.findNow] at f
    cases g:Instr.sameNow d o e.key with
    |none=>rw [g] at f; cases f
    |some c=>
     have:=y83 t m s g
     subst this
     rw [g] at f; exact f1 r' f
   ·cases res with
    |none=>exact H
    |some q=>
     obtain ⟨n,y⟩:=q
     obtain ⟨g1,K,e2,g2,Z,Y,X,W⟩:=H
     refine ⟨by omega,K,e2,g2,?_,?_,X,W⟩
     ·rw [show n - i=(n - (i+1))+1 by omega]; simpa using Z
     ·rw [show n - i=(n - (i+1))+1 by omega]; simpa using Y
theorem y9u {T:TypeId} {ks:List SK} {ka:Bool} (p:z45 P 8 T=some ks) (c:z4q P T=some ka) {O:Nat→Prop} {k:D} {a:Value} (o:z1m O w k a) {es:List (D×D)} {en:List MapEntry} {res:Option (Nat×D)}
  (l:y1l O w es en) (h:z6c std ks ka k es 0=some res):
  ∃ r:Option (Nat×Value),(Instr.findKey T a en).run P w= .ok r w∧
   match res with
   |none=>r=none
   |some (n,x)=>∃ b e,r=some (n,e.val)∧es[n]?=some (b,x)∧en[n]?=some e∧z1m O w x e.val∧e.key=a:=by
 obtain ⟨d,s⟩:∃ d,P.underlying T=some d:=by
  unfold z4q at c
  cases j:P.underlying T with
  |none=>simp [j] at c
  |some d=>exact ⟨d,rfl⟩
 obtain ⟨r,u,t,f⟩:=v7n p c o d es en 0 res l h
 refine ⟨r,?_,?_⟩
 ·simp only [Instr.findKey,eAw,z0h s,eAo]
  cases m:Instr.findNow d a en 0 with
  |none=>simpa using t
  |some i=>have:=u i m; subst this; simp
 ·cases res with
  |none=>exact f
  |some q=>
   obtain ⟨n,x⟩:=q
   obtain ⟨_,b,e,g⟩:=f
   exact ⟨b,e,by simpa using g⟩
def y4c (O:Nat→Prop) (w:World) (es:List (D×D)) (en:Array MapEntry) (a:Value) (r:Option (Nat×Value)):Option (Nat×D)→Prop
 |none=>r=none
 |some (n,x)=>∃ b e,r=some (n,e.val)∧es[n]?=some (b,x)∧en[n]?=some e∧z1m O w x e.val∧e.key=a
theorem y04 {T:TypeId} {ti:TI} (U:z7j P T ti) (V:z0b P ρ h w) {m k:AV} {vm o:Value} (hm:z0q ρ (z0f ρ h) w m vm) (y:z0q ρ (z0f ρ h) w k o) {res:Option (Nat×D)} (l:z34 std ti h m k=some res):
    ∃ (K E:TypeId) (ks:List SK) (ka:Bool) (ez:D),P.underlying T=some (.map K E)∧ti.desc= .map ks ka ez∧w2y P E=some ez∧(∃ d,k= .d d∧z1m (z0f ρ h) w d o)∧(∀ em,(eFe em 10000 K o).run P w= .ok () w)∧(∀ j,j=o→∀ w,(Instr.keyThatStays j o).run P w= .ok o w)∧
      ((vm= .map none∧res=none∧(Instr.findKey K o []).run P w= .ok none w)∨
        ∃ id L es en v,m= .map id∧vm= .map (some L.blk)∧ρ id=some L∧z0e h id= .map es∧w.heap[L.blk]?=some (.map en v)∧y1l (z0f ρ h) w es en.toList∧∃ r:Option (Nat×Value),(Instr.findKey K o en.toList).run P w= .ok r w∧
          y4c (z0f ρ h) w es en o r res):=by
  obtain ⟨d,hd,Z,C⟩:=U.desc
  have f:z34 std ti h m k=some res:=l
  clear l
  cases g:ti.desc with
  |map ks ka ez=>
   cases k with
   |d kd=>
    have l:(bif (z1w kd==ka)&&z1k ks (z0x kd) then match m with
      | .d .nilm=>some none
      | .map id=>match z0e h id with
        | .map es=>z6c std ks ka kd es 0
        |_=>none
      |_=>none
      else none)=some res:=by
      unfold z34 at f; rw [g] at f; exact f
    clear f
    rw [g] at C
    obtain ⟨K,E,rfl,p,u,S,hg⟩:=C
    cases z:(z1w kd==ka)&&z1k ks (z0x kd) with
    |false=>rw [z] at l; cases l
    |true=>
    rw [z] at l; simp only [cond_true] at l
    simp only [eAf,beq_iff_eq] at z
    cases y with|d y=>
    have s:(z0x kd).length=ks.length:=by
      have:∀ (ks:List SK) (ds:List D),z1k ks ds=true→ds.length=ks.length:=by
        intro ks
        induction ks with
        |nil=>intro ds h; cases ds<;>simp [z1k] at h; rfl
        |cons k ks R=>
          intro ds h
          cases ds with
          |nil=>cases k<;>simp [z1k] at h
          |cons d ds=>cases k<;>cases d<;>simp [z1k] at h<;>simp [R ds h]
      exact this _ _ z.2
    obtain ⟨H,O,h2,h3⟩:=y7a (P:=P) (T:=K) y s (z6y _ _ _ p) (by rw [z.1]; exact u)
    have B:=w9w ks _ H z.2 (h2.trans s.symm) h3
    refine ⟨K,E,ks,ka,ez,hd,rfl,S,⟨kd,rfl,y⟩,fun em=>x7i em 8 10000 (by decide) K ks o H w p O B,?_,?_⟩
    · intro j G w'
      subst G
      have:Instr.sameBits 10000 j j=true:=x1a 9998 ks H B j (by
        obtain ⟨a,_,_,M⟩:=O
        cases a
        · exact .inr (by simpa using M)
        · exact .inl (by simpa using M))
      simp [Instr.keyThatStays,this]
    · split at l
      · cases l
        cases hm with|d hm=>
        cases hm
        refine .inl ⟨rfl,rfl,?_⟩
        obtain ⟨r,J,F⟩:=y9u p u y (es:=[]) (en:=[]) (res:=none) ⟨rfl,by simp⟩ rfl
        simp only at F; subst F; exact J
      · rename_i id
        split at l
        · rename_i es A
          cases hm with
          |map _ L N=>
            obtain ⟨_,G⟩:=V.obj id L N
            rw [A] at G
            obtain ⟨en,v,I,W,X⟩:=G
            right
            have t:y1l (z0f ρ h) w es en.toList:=⟨by simpa using W.1,fun i k x Y=>by
              obtain ⟨e,he,a,b⟩:=X i k x Y
              exact ⟨e,by simpa using he,a,b⟩⟩
            obtain ⟨r,J,F⟩:=y9u p u y t l
            refine ⟨id,L,es,en,v,rfl,rfl,N,A,I,t,r,J,?_⟩
            cases res with
            |none=>exact F
            |some q=>
              obtain ⟨n,x⟩:=q
              obtain ⟨Q,e,a,b,c,d⟩:=F
              exact ⟨Q,e,a,b,by simpa using c,d⟩
        · cases l
      · cases l
   |_=>unfold z34 at f; rw [g] at f; cases f
  |_=>unfold z34 at f; rw [g] at f; cases f
theorem z3a {b:Nat} {en:Array MapEntry} {a:Nat} (c:w.heap[b]?=some (.map en a)):(getObj b).run P w= .ok (.map en a) w:=by simp [getObj,Sem.run,c]
theorem z5w {b:Nat} {en c:Array MapEntry} {d a:Nat} (e:w.heap[b]?=some (.map en d)):(setObj b (.map c a)).run P w= .ok () (World.setObj w b (.map c a)):=by
 have:=(eAi.1 e).1
 simp [setObj,Sem.run,e,World.setObj]
def x2n (q:Bool) (r:List D) (x:Option (Option (Nat×D))):Prop:=
 (x=some none∧q=false)∨∃ i v a,x=some (some (i,v))∧t4y v a∧q=true∧r=[.int .i64 (i:Nat),a]
theorem y5o {E:TypeId} {ez:D} (h:w2y P E=some ez) {O:Nat→Prop}:∃ v,(zeroValue E).run P w= .ok v w∧z1m O w ez v:=by
 unfold w2y at h
 cases b:P.info? E with
 |none=>simp [b] at h
 |some i=>
  simp [b] at h
  cases a:i.zero with
  |none=>simp [a] at h
  |some z=>
   simp [a] at h
   refine ⟨z,?_,x9q h O w⟩
   simp [zeroValue,typeInfo,Sem.program,Sem.run,program,b,a]
theorem x6p {v:AV} {r:Res} (h:ok v=some r):r=⟨true,v,[]⟩:=by unfold ok at h; cases h; rfl
theorem z86 {T:TypeId} {ti:TI} (U:z7j P T ti) (I:z0b P ρ h w) {new:Nat} {m k:AV} {vm H:Value} (hm:z0q ρ (z0f ρ h) w m vm) (W:z0q ρ (z0f ρ h) w k H) {q:Bool} {r:List D} (S:x2n q r (z34 std ti h m k)) {co:Bool} {res:Res}
  (s:z5t ti q r co=some res):z0n P ρ h w new (eGa T vm H co) res:=by
 have o:∀ (fr:Option (Nat×D)),z34 std ti h m k=some fr→∃ (v:Value) (ok:Bool) (ks:List SK) (ka:Bool) (ez:D),ti.desc= .map ks ka ez∧(eGa T vm H co).run P w= .ok (if co then .tuple #[v, .bool ok] else v) w∧
   (match fr with|none=>ok=false∧z1m (z0f ρ h) w ez v|some (_,x)=>ok=true∧z1m (z0f ρ h) w x v):=by
  intro fr M
  obtain ⟨K,E,ks,ka,ez,z,a,C,_,u,_,y⟩:=y04 U I hm W M
  obtain ⟨G,A,B⟩:=y5o (P:=P) (w:=w) C (O:=z0f ρ h)
  rcases y with ⟨rfl,rfl,j⟩|⟨id,L,es,en,X,rfl,rfl,hL,V,F,R,Z,j,f⟩
  ·exact ⟨G,false,ks,ka,ez,a,by simp [eGa,z0h z,u,j,A],rfl,B⟩
  ·cases fr with
   |none=>
    simp only [y4c] at f; subst f
    exact ⟨G,false,ks,ka,ez,a,by simp [eGa,z0h z,z3a F,u,j,A],rfl,B⟩
   |some p=>
    obtain ⟨n,x⟩:=p
    obtain ⟨k',e,rfl,_,_,g,_⟩:=f
    exact ⟨e.val,true,ks,ka,ez,a,by simp [eGa,z0h z,z3a F,u,j],rfl,g⟩
 have l:∀ (d:D) (v:Value) (b:Bool),z1m (z0f ρ h) w d v→z0q ρ (z0f ρ h) w (bif co then .tuple [.d d, .d (.bool b)] else .d d) (if co then .tuple #[v, .bool b] else v):=by
  intro d v b z
  cases co with
  |false=>exact .d z
  |true=>
   refine .tuple _ _ rfl fun i x g=>?_
   match i,g with
   |0,g=>cases g; exact .d z
   |1,g=>cases g; exact .d (.bool b)
   |i+2,g=>simp at g
 unfold z5t at s
 split at s
 ·rename_i ks ka ez a
  rcases S with ⟨N,rfl⟩|⟨i,v,Y,N,J,rfl,rfl⟩
  ·obtain ⟨G,ok,_,_,Q,t,c,rfl,C⟩:=o _ N
   rw [a] at t; cases t
   simp only at s; cases x6p s
   exact z0n.pure I c (l _ _ _ C)
  ·obtain ⟨G,ok,_,_,Q,t,c,rfl,C⟩:=o _ N
   simp only at s; cases x6p s
   exact z0n.pure I c (l _ _ _ (C.le2 J))
 ·cases s
theorem z1m.ofKeep {O O':Nat→Prop} {w w':World} (k:z5d O O' w w') {es:List (D×D)} {en:List MapEntry} (h:y1l O w es en):y1l O' w' es en:=
 ⟨h.1,fun i a c b=>let ⟨e,he,x,y⟩:=h.2 i a c b; ⟨e,he,x.keep k,y.keep k⟩⟩
theorem z0b.born (g:z0b P ρ h w) {id:Nat} {L:Loc} (j:ρ id=some L) {es:List (D×D)} (b:z0e h id= .map es) {en:Array MapEntry} {a:Nat} (c:w.heap[L.blk]?=some (.map en a)):z4e en a:=by
 obtain ⟨_,d⟩:=g.obj id L j
 rw [b] at d
 obtain ⟨k,f,e,i,_⟩:=d
 rw [c] at e
 cases e
 exact i.2
theorem map_set (o:z0b P ρ h w) {id:Nat} {L:Loc} (r:ρ id=some L) {es j:List (D×D)} (p:z0e h id= .map es) {en:Array MapEntry} {t:Nat} (n:w.heap[L.blk]?=some (.map en t)) (f:Array MapEntry) (d:Nat)
  (l:y1l (z0f ρ h) w j f.toList) (q:z4e f d) (new:Nat) (x:AV) (v:Value) (u:∀ ρ O w,z0q ρ O w x v) {s:Sem Value} (y:s.run P w= .ok v (World.setObj w L.blk (.map f d))):z0n P ρ h w new s ⟨true,x,[(id, .map j)]⟩:=by
 have c:(z0e h id).live=true:=by rw [p]; rfl
 have g:∀ m,z1c w L.blk=some m→z1c (World.setObj w L.blk (.map f d)) L.blk=some m:=by
  intro m hm; simp [z1c,n] at hm
 have z:=z16 o r c (.map j) rfl _ g
 refine ⟨v,_,ρ,y,u _ _ _,o.set r c _ rfl _ g ?_,Ext.set _ o r c _ rfl _ g, .inl rfl⟩
 have:=z1m.ofKeep z l
 exact ⟨f,d,z0u _ _ _ (eAi.1 n).1,⟨by simpa using this.1,q⟩,fun i k x A=>by
  obtain ⟨e,he,a,b⟩:=this.2 i k x A
  exact ⟨e,by simpa using he,a,b⟩⟩
theorem x0x {T:TypeId} {ti:TI} (ht:z7j P T ti) (S:z0b P ρ h w) {new:Nat} {m k x:AV} {vm C B:Value} (hm:z0q ρ (z0f ρ h) w m vm) (hk:z0q ρ (z0f ρ h) w k C) (R:z0q ρ (z0f ρ h) w x B) {q:Bool} {r:List D} (hw:x2n q r (z34 std ti h m k)) {res:Res}
  (F:z47 std ti h q r m k x=some res):z0n P ρ h w new (z5g (Instr.mapUpdate T vm C B)) res:=by
 unfold z47 at F
 split at F
 ·rename_i ks ka ez id kd xd a0
  split at F
  ·rename_i es u
   cases R with|d R=>
   cases hk with|d G=>
   have go:∀ fr,z34 std ti h (.map id) (.d kd)=some fr→∃ (L:Loc) (s:Array MapEntry) (f:Nat),ρ id=some L∧w.heap[L.blk]?=some (.map s f)∧z4e s f∧y1l (z0f ρ h) w es s.toList∧
     (Instr.mapUpdate T vm C B).run P w= .ok () (World.setObj w L.blk (match fr with|none=> .map (s.push { key:=C,val:=B,born:=f }) (f+1)|some (n,_)=> .map (s.modify n fun e=>{ key:=C,val:=B,born:=e.born }) f))∧(∀ n y,fr=some (n,y)→n<es.length):=by
    intro fr X
    obtain ⟨K,E,ks,ka,ez,hd,_,hz,_,Q,U,J⟩:=y04 ht S hm (.d G) X
    rcases J with ⟨rfl,rfl,I⟩|⟨a1,L,a3,s,f,e1,rfl,N,A,g,b,rr,I,l⟩
    ·cases hm
    ·cases e1
     rw [u] at A; cases A
     refine ⟨L,s,f,N,g,S.born N u g,b,?_,?_⟩
     ·cases fr with
      |none=>
       simp only [y4c] at l; subst l
       simp [Instr.mapUpdate,z0h hd,z3a g,Q,I,z5w g]
      |some p=>
       obtain ⟨n,y⟩:=p
       obtain ⟨k',e,rfl,_,he,_,Z⟩:=l
       have V:=U e.key Z w
       simp [Instr.mapUpdate,z0h hd,z3a g,Q,I,he,V,z5w g]
     ·intro n y hn; subst hn
      obtain ⟨k',e,_,he,_⟩:=l
      exact (eAe.1 he).1
   rcases hw with ⟨Y,rfl⟩|⟨i,v,v',Y,a2,rfl,rfl⟩
   ·cases F
    obtain ⟨L,s,f,N,g,M,b,t,_⟩:=go _ Y
    refine map_set S N u g (s.push { key:=C,val:=B,born:=f }) (f+1) ⟨by simp [std]; simpa using b.1,fun i a c z=>?_⟩ (M.push _ _) new .bot undef (fun _ _ _=> .bot _) (by simp only [z5g,eAw,t,eAo,eBf])
    simp only [std] at z
    rw [eBr] at z
    simp only [Array.toList_push]
    rw [eBr,b.1]
    split at z
    ·rename_i o; rw [if_pos o]; exact b.2 i a c z
    ·rename_i W
     rw [if_neg W]
     have:i - es.length=0:=by
      cases hq:i - es.length with
      |zero=>rfl
      |succ n=>rw [hq] at z; simp at z
     rw [this] at z⊢
     simp at z; obtain ⟨rfl,rfl⟩:=z
     exact ⟨_,rfl,G,R⟩
   ·cases F
    obtain ⟨L,s,f,N,g,M,b,t,o⟩:=go _ Y
    have o:=o i v rfl
    refine map_set S N u g (s.modify i fun e=>{ key:=C,val:=B,born:=e.born }) f ⟨by simp [std]; simpa using b.1,fun j a c O=>?_⟩ (M.modify _ _ _) new .bot undef (fun _ _ _=> .bot _) (by simp only [z5g,eAw,t,eAo,eBf])
    simp only [std,eFf,eCr] at O
    simp only [eAt,eDt]
    split at O
    ·rename_i H; subst H
     first|rw [if_pos o] at O|skip
     cases O
     have:i<s.size:=by rw [←eCg,b.1]; exact o
     simp only [if_true,eBg this,eBo]
     exact ⟨_,rfl,G,R⟩
    ·rename_i H
     rw [if_neg H]
     simpa using b.2 j a c O
  ·cases F
 ·cases F
theorem x00 {T:TypeId} {ti:TI} (Z:z7j P T ti) (I:z0b P ρ h w) {new:Nat} {m k:AV} {vm N:Value} (hm:z0q ρ (z0f ρ h) w m vm) (hk:z0q ρ (z0f ρ h) w k N) {q:Bool} {r:List D} (Y:x2n q r (z34 std ti h m k)) {res:Res} {ts:Array TypeId} {ty:TypeId} (G:ts[0]?=some T)
  (u:z48 std ti h q r m=some res):z0n P ρ h w new (Builtin.delete_ ts ty #[vm,N]) res:=by
 have unit:∀ ρ O w,z0q ρ O w (.tuple []) (.tuple #[]):=fun _ _ _=> .tuple [] #[] rfl (fun i x X=>by simp at X)
 unfold z48 at u
 split at u
 ·rename_i ks ka ez id U
  split at u
  ·rename_i es s
   have go:∀ fr,z34 std ti h (.map id) k=some fr→∃ (L:Loc) (o:Array MapEntry) (f:Nat),ρ id=some L∧w.heap[L.blk]?=some (.map o f)∧z4e o f∧y1l (z0f ρ h) w es o.toList∧
     (Builtin.delete_ ts ty #[vm,N]).run P w= .ok (.tuple #[]) (World.setObj w L.blk (match fr with|none=> .map o f|some (n,_)=> .map (o.eraseIdxIfInBounds n) f)):=by
    intro fr R
    obtain ⟨K,E,ks,ka,ez,V,_,hz,_,H,a1,B⟩:=y04 Z I hm hk R
    rcases B with ⟨rfl,rfl,A⟩|⟨W,L,a3,o,f,M,rfl,F,t,d,b,rr,A,l⟩
    ·cases hm
    ·cases M
     rw [s] at t; cases t
     refine ⟨L,o,f,F,d,I.born F s d,b,?_⟩
     cases fr with
     |none=>
      simp only [y4c] at l; subst l
      simp [Builtin.delete_,G,z0h V,z3a d,H,A,z5w d]
     |some p=>
      obtain ⟨n,y⟩:=p
      obtain ⟨k',e,rfl,_,he,_,a2⟩:=l
      simp [Builtin.delete_,G,z0h V,z3a d,H,A,z5w d]
   rcases Y with ⟨S,rfl⟩|⟨i,v,v',S,a0,rfl,rfl⟩
   ·cases u
    obtain ⟨L,o,f,F,d,C,b,g⟩:=go _ S
    exact map_set I F s d _ _ b C new _ _ unit g
   ·cases u
    obtain ⟨L,o,f,F,d,C,b,g⟩:=go _ S
    have M:(o.eraseIdxIfInBounds i).toList=o.toList.eraseIdx i:=by
     unfold Array.eraseIdxIfInBounds
     split
     ·simp
     ·rename_i Q; rw [List.eraseIdx_of_length_le (by simpa using Q)]
    refine map_set I F s d _ _ ⟨?_,fun j a c J=>?_⟩ (C.erase _) new _ _ unit g
    ·simp only [std,eFf,M,List.length_eraseIdx,b.1]
    ·rw [M]
     simp only [std,eFf,List.getElem?_eraseIdx] at J⊢
     split at J
     ·rename_i z; rw [if_pos z]; exact b.2 _ a c J
     ·rename_i z; rw [if_neg z]; exact b.2 _ a c J
  ·cases u
 ·cases u
theorem y74 {T:TypeId} (e:z0b P ρ h w) {new:Nat} (f:ρ new=none) {x:Option AV} {v:Option Value} (d:x=none→v=none) {res:Res} (c:z84 new x=some res):z0n P ρ h w new (Instr.makeMap T v) res:=by
 unfold z84 at c
 split at c
 ·cases c
  rw [d rfl]
  have a:(Instr.makeMap T none).run P w= .ok (.map (some w.heap.size)) (World.push w (.map #[] 0)):=by
   simp [Instr.makeMap,newObj,Sem.run,World.push]
  have b:=e.new f 0 (.map []) (.map #[] 0) ⟨#[],0,z4h _ _,⟨rfl,z4e.empty _⟩,by simp⟩
  exact ⟨_,_,_,a, .map _ _ (Rho.put_same _ _ _),b,Ext.new e f _ _ _ rfl, .inr ⟨_,eBn.2 rfl⟩⟩
 ·cases c
end
end Go.Am
end
